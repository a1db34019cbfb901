/- The tables of the evaluator are what the program says. -/
import Derived.Test.YtmocfjnklfpnbaaGreatDoorP43
import Derived.Test.YtmocfjnklfpnbaaGreatDoorP44
import Derived.Test.YtmocfjnklfpnbaaGreatDoorP45
import Derived.Test.YtmocfjnklfpnbaaGreatDoorP11
set_option linter.all false
set_option maxRecDepth 100000
namespace Go.Proofs.YtmocfjnklfpnbaaGreatDoor
open Go Go.Ae
noncomputable def fnOk (f:Nat):Bool:=match fiOf Tryz.prog f with
 |some fi=>codeOk cx fi.body && (match Tryz.prog.funcs[f]? with|some fn=>fn.name != "runtime.NumGoroutine" |none=>true)
 |none=>true
theorem fns_ok0 :((List.range' 0 64).all fnOk)=true:=by kernel_rfl
theorem fns_ok64 :((List.range' 64 64).all fnOk)=true:=by kernel_rfl
theorem fns_ok128 :((List.range' 128 64).all fnOk)=true:=by kernel_rfl
theorem fns_ok192 :((List.range' 192 64).all fnOk)=true:=by kernel_rfl
theorem fns_ok256 :((List.range' 256 64).all fnOk)=true:=by kernel_rfl
theorem fns_ok320 :((List.range' 320 40).all fnOk)=true:=by kernel_rfl
theorem fns_ok (f:Nat)(h:f<360):fnOk f=true:=by
 have key:∀a n,((List.range' a n).all fnOk)=true→a≤f→f<a+n→fnOk f=true:=fun a n h h1 h2=>List.all_eq_true.1 h f (List.mem_range'_1.2 ⟨h1,h2⟩)
 by_cases c0:f<64
 ·exact key 0 64 fns_ok0 (by omega) (by omega)
 by_cases c64:f<128
 ·exact key 64 64 fns_ok64 (by omega) (by omega)
 by_cases c128:f<192
 ·exact key 128 64 fns_ok128 (by omega) (by omega)
 by_cases c192:f<256
 ·exact key 192 64 fns_ok192 (by omega) (by omega)
 by_cases c256:f<320
 ·exact key 256 64 fns_ok256 (by omega) (by omega)
 exact key 320 40 fns_ok320 (by omega) (by omega)
theorem cx_ok :CxOk cx:={
 mixed:=by kernel_rfl
 types:=fun _ _ h=>h
 funs:=fun f fi h=>by
  have h':(bif Nat.blt f 360 then fiOf Tryz.prog f else none)=some fi:=h;cases hb:Nat.blt f 360 with
  |false=>rw[hb]at h';cases h'
  |
   true=>
   rw[hb]at h';have hlt:f<360:=by simpa[Nat.blt_eq]using hb
   have hk:=fns_ok f hlt;unfold fnOk at hk;simp only[cond_true]at h';rw[h']at hk;simp only[Zh]at hk;refine⟨h',hk.1,fun fn hfn=>?_⟩;have h2:=hk.2;have hfn':Tryz.prog.funcs[f]?=some fn:=hfn;rw[hfn']at h2;simpa using h2}
theorem tab_ok (f:FuncId)(xs:List AV)(r:AV)(h:cx.tab f xs=some r):PureOK cx f xs r:=by
 have h':tabF f xs=some r:=h;unfold tabF at h';split at h'
 case isFalse=>
  split at h'
  ·rename_i sz s rest z hc;split at h'
   ·rename_i e;simp only[Zc]at h';subst e h';exact cln_ok f _ hc _ _
   ·cases h'
  ·cases h'
 rename_i hf;subst hf;split at h'
 case h_2=>cases h'
 rename_i a b;split at h'
 case isFalse=>cases h'
 rename_i hs;simp only[Zc]at h';subst h';intro w X vs hX hG hl hv;refine⟨⟨_,Tryz.func296,of_decide_eq_true (by kernel_rfl),by kernel_rfl⟩,?_⟩;have h0:=(hv 0 _ rfl).sc_inv.1;have h1:=(hv 1 _ rfl).sc_inv.1;have hvs:vs= #[.string a,.string b]:=by
  apply Array.ext
  ·simpa using hl
  ·intro i h2 h3;have hi:i=0∨i=1:=by simp at h3;omega
   rcases hi with rfl|rfl
   ·simpa[h2,Zr,Array.getElem?_eq_getElem]using h0
   ·simpa[h2,Zr,Array.getElem?_eq_getElem]using h1
 subst hvs;obtain⟨_,cur,t,fz,hc,_,hr⟩:=hG 1 [.tuple #[]] rfl;obtain⟨u,hu,_,m,rfl⟩:=hr 0 _ rfl;have hm:w.cell? ⟨1,0,none⟩=some (.int .i64 m):=by
  unfold World.cell?;rw[hc];exact hu
 refine(Tryz.strings_Contains a b m w hs hm).mono ?_;rintro e w' ⟨rfl,rfl⟩;exact⟨_,rfl,Step.refl _ _,.sc _ rfl⟩
theorem ins_ok (f:FuncId)(sz bytes:Nat)(h:cx.ins f=some (sz,bytes))(hb:bytes≠0)(hb1:bytes≠1):InsOK cx f sz bytes:=by
 have h':insF f=some (sz,bytes):=h;unfold insF at h';split at h'
 ·rename_i e;cases h';subst e;exact insstring_ok
 split at h'
 ·rename_i e;cases h';subst e;exact insProp_ok
 split at h'
 ·rename_i e;cases h';subst e;exact insNode_ok
 split at h'
 ·rename_i e;cases h';subst e;exact insEdge_ok
 split at h'
 ·rename_i e;cases h';subst e;exact absurd rfl hb
 cases h'
theorem sfn_ok (f:FuncId)(sz:Nat)(h:cx.ins f=some (sz,0)):SfnOK cx f sz:=by
 have h':insF f=some (sz,0):=h;unfold insF at h';split at h'
 ·cases h'
 split at h'
 ·cases h'
 split at h'
 ·cases h'
 split at h'
 ·cases h'
 split at h'
 ·rename_i e;cases h';subst e;exact sfnPred cx rfl
 cases h'
theorem own_ok (f:FuncId)(sz:Nat)(h:cx.ins f=some (sz,1)):OwnOK cx f:=by
 have h':insF f=some (sz,1):=h;unfold insF at h';split at h'
 ·cases h'
 split at h'
 ·cases h'
 split at h'
 ·cases h'
 split at h'
 ·cases h'
 split at h'
 ·cases h'
 cases h'
theorem nf_ok (f:FuncId)(w:World)(X:Nat→Prop)(v:Value)(r:AV)(h:Ri w X v r):Ri w X v (cx.nf f r):=by
 show Ri w X v (nfF f r);unfold nfF;split
 ·exact nfR_ok h
 ·split
  ·exact nfW_ok h
  ·split
   ·exact nfS_ok 8 h
   ·exact nfX_ok _ h
end Go.Proofs.YtmocfjnklfpnbaaGreatDoor
