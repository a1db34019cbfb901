/- Part of the proof. -/
import Derived.Test.YtmocfjnklfpnbaaGreatDoorP37
set_option linter.all false
set_option maxRecDepth 100000
namespace Go.Proofs.YtmocfjnklfpnbaaGreatDoor
open Go Go.Ae Go.Proofs.Tryz
noncomputable def CB(f:Nat):Bool:=match I5 prog f with
 |some fi=>codeOk cx fi.body && (match prog.funcs[f]? with|some fn=>fn.name != "runtime.NumGoroutine" |none=>true)
 |none=>true
def Y_ :((List.range' 0 64).all CB)=true:=by kernel_rfl
def UM :((List.range' 64 64).all CB)=true:=by kernel_rfl
def Ph :((List.range' 128 64).all CB)=true:=by kernel_rfl
def Pj :((List.range' 192 64).all CB)=true:=by kernel_rfl
def Pk :((List.range' 256 64).all CB)=true:=by kernel_rfl
def Pl :((List.range' 320 40).all CB)=true:=by kernel_rfl
def acR(f:Nat)(h:f<360):CB f=true:=by
 have key:∀a n,((List.range' a n).all CB)=true->a<=f->f<a+n->CB f=true:=λa n h h1 h2=>Yp.1 h f (List.mem_range'_1.2 ⟨h1,h2⟩)
 by_cases c0:f<64
 .exact key 0 64 Y_ (by omega) (by omega)
 by_cases c64:f<128
 .exact key 64 64 UM (by omega) (by omega)
 by_cases c128:f<192
 .exact key 128 64 Ph (by omega) (by omega)
 by_cases c192:f<256
 .exact key 192 64 Pj (by omega) (by omega)
 by_cases c256:f<320
 .exact key 256 64 Pk (by omega) (by omega)
 exact key 320 40 Pl (by omega) (by omega)
def aeu :Cq cx:={
 mixed:=by kernel_rfl
 types:=λ_ _ h=>h
 Ht:=λf fi h=>by
  have h':(bif Nat.blt f 360 then I5 prog f else none)=some fi:=h;cases hb:Nat.blt f 360 with
  |false=>rw[hb]at h';cases h'
  |
   true=>
   rw[hb]at h';have du:f<360:=by simpa[Nat.blt_eq]using hb
   have hk:=acR f du;unfold CB at hk;simp only[cond_true]at h';rw[h']at hk;simp only[Zh]at hk;refine⟨h',hk.1,λfn FQ=>?_⟩;have h2:=hk.2;have ajo:prog.funcs[f]?=some fn:=FQ;rw[ajo]at h2;simpa using h2}
def acq(f:FuncId)(xs:LA)(r:AV)(h:cx.BZ f xs=some r):iG cx f xs r:=by
 have h':Et f xs=some r:=h;unfold Et at h';split at h'
 case isFalse=>
  split at h'
  .rename_i sz s rest z hc;split at h'
   .rename_i e;simp only[Zc]at h';subst e h';exact acm f _ hc _ _
   .cases h'
  .cases h'
 rename_i hf;subst hf;split at h'
 case h_2=>cases h'
 rename_i a b;split at h'
 case isFalse=>cases h'
 rename_i hs;simp only[Zc]at h';subst h';intro w X vs hX hG hl hv;refine⟨⟨_,func296,of_decide_eq_true (by kernel_rfl),by kernel_rfl⟩,?_⟩;have h0:=(hv 0 _ rfl).dQ.1;have h1:=(hv 1 _ rfl).dQ.1;have TU:vs= #[.string a,.string b]:=by
  apply Array.ext
  .simpa using hl
  .intro i h2 h3;have hi:i=0\/i=1:=by simp at h3;omega
   rcases hi with rfl|rfl
   .simpa[h2,Zr,Xf]using h0
   .simpa[h2,Zr,Xf]using h1
 subst TU;obtain⟨_,cV,t,fz,hc,_,hr⟩:=hG 1 [.tuple #[]] rfl;obtain⟨u,hu,_,m,rfl⟩:=hr 0 _ rfl;have hm:w.cell? ⟨1,0,none⟩=some (.int .i64 m):=by
  unfold World.cell?;rw[hc];exact hu
 refine(Tryz.strings_Contains a b m w hs hm).mono ?_;rintro e w' ⟨rfl,rfl⟩;exact⟨_,rfl,Step.refl _ _,.sc _ rfl⟩
def acr(f:FuncId)(sz:Nat)(h:cx.ins f=some (sz,0)):DL cx f sz:=by
 have h':D6 f=some (sz,0):=h;unfold D6 at h';split at h'
 .rename_i e;cases h';subst e;exact sfnPred cx rfl
 cases h'
def aev(f:FuncId)(w:World)(X:Nat->Prop)(v:Value)(r:AV)(h:Ri w X v r):Ri w X v (cx.nf f r):=by
 show Ri w X v (YR f r);unfold YR;split
 .exact acF h
 .split
  .exact acG h
  .split
   .exact qT 8 h
   .exact acI _ h
end Go.Proofs.YtmocfjnklfpnbaaGreatDoor
