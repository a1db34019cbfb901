/- Part of the proof. -/
import Derived.Test.YtmfohnojaginjaaGreatDoorP34
set_option linter.all false
set_option maxRecDepth 100000
namespace Go.Proofs.YtmfohnojaginjaaGreatDoor
open Go Go.Ae Go.Proofs.Tryz
noncomputable def wN(f:Nat):Bool:=abo f||match G4 prog f with
 |some fi=>codeOk cx fi.body && (match prog.funcs[f]? with|some fn=>fn.name != "runtime.NumGoroutine" |none=>true)
 |none=>true
def abA :((List.range' 0 64).all wN)=true:=by kernel_rfl
def WU :((List.range' 64 64).all wN)=true:=by kernel_rfl
def RL :((List.range' 128 64).all wN)=true:=by kernel_rfl
def RM :((List.range' 192 64).all wN)=true:=by kernel_rfl
def RN :((List.range' 256 64).all wN)=true:=by kernel_rfl
def RO :((List.range' 320 64).all wN)=true:=by kernel_rfl
def RP :((List.range' 384 64).all wN)=true:=by kernel_rfl
def RQ :((List.range' 448 64).all wN)=true:=by kernel_rfl
def RS :((List.range' 512 64).all wN)=true:=by kernel_rfl
def RT :((List.range' 576 64).all wN)=true:=by kernel_rfl
def RU :((List.range' 640 29).all wN)=true:=by kernel_rfl
def aeC(f:Nat)(h:f<669):wN f=true:=by
 have key:∀a n,((List.range' a n).all wN)=true->a<=f->f<a+n->wN f=true:=λa n h h1 h2=>Yt.1 h f (List.mem_range'_1.2 ⟨h1,h2⟩)
 by_cases c0:f<64
 .exact key 0 64 abA (by omega) (by omega)
 by_cases c64:f<128
 .exact key 64 64 WU (by omega) (by omega)
 by_cases c128:f<192
 .exact key 128 64 RL (by omega) (by omega)
 by_cases c192:f<256
 .exact key 192 64 RM (by omega) (by omega)
 by_cases c256:f<320
 .exact key 256 64 RN (by omega) (by omega)
 by_cases c320:f<384
 .exact key 320 64 RO (by omega) (by omega)
 by_cases c384:f<448
 .exact key 384 64 RP (by omega) (by omega)
 by_cases c448:f<512
 .exact key 448 64 RQ (by omega) (by omega)
 by_cases c512:f<576
 .exact key 512 64 RS (by omega) (by omega)
 by_cases c576:f<640
 .exact key 576 64 RT (by omega) (by omega)
 exact key 640 29 RU (by omega) (by omega)
def agj :Dp cx:={
 jI:=λ_ _=>rfl
 mixed:=by kernel_rfl
 types:=λ_ _ h=>h
 Vw:=λf fi h=>by
  have h':(bif Nat.blt f 669 then(bif abo f then none else G4 prog f)else none)=some fi:=h;cases hb:Nat.blt f 669 with
  |false=>rw[hb]at h';cases h'
  |
   true=>
   rw[hb]at h';have dm:f<669:=by simpa[Nat.blt_eq]using hb
   have hk:=aeC f dm;unfold wN at hk;simp only[cond_true]at h';cases Aa:abo f with
   |true=>rw[Aa]at h';cases h'
   |false=>
   rw[Aa]at h' hk;simp only[cond_false,Bool.false_or]at h' hk;rw[h']at hk;simp only[Zh]at hk;refine⟨h',hk.1,λfn Dx=>?_⟩;have h2:=hk.2;have aj2:prog.funcs[f]?=some fn:=Dx;rw[aj2]at h2;simpa using h2}
def aee(f:FuncId)(xs:LA)(r:AV)(h:cx.ux f xs=some r):iG cx f xs r:=by
 have h':Mo f xs=some r:=h;unfold Mo at h';split at h'
 .rename_i hf;subst hf;split at h'
  case h_2=>cases h'
  rename_i n;split at h'
  case isFalse=>cases h'
  rename_i hn;cases h';rw[WJ n hn.1 hn.2];exact itoa_ok cx rfl rfl n hn.1 hn.2
 .split at h'
  case isFalse=>
   split at h'
   .rename_i sz s rest z hc;split at h'
    .rename_i e;simp only[Zc]at h';subst e h';exact ad7 f _ hc _ _
    .cases h'
   .cases h'
  rename_i hf;subst hf;split at h'
  case h_2=>cases h'
  rename_i a b;split at h'
  case isFalse=>cases h'
  rename_i hs;simp only[Zc]at h';subst h';intro w X vs hX hG hl hv;refine⟨⟨_,func451,of_decide_eq_true (by kernel_rfl),by kernel_rfl⟩,?_⟩;have h0:=(hv 0 _ rfl).dH.1;have h1:=(hv 1 _ rfl).dH.1;have yf:vs= #[.string a,.string b]:=by
   apply Array.ext
   .simpa using hl
   .intro i h2 h3;have hi:i=0\/i=1:=by simp at h3;omega
    rcases hi with rfl|rfl
    .simpa[h2,Zr,Xl]using h0
    .simpa[h2,Zr,Xl]using h1
  subst yf;obtain⟨_,cF,t,fz,hc,_,hr⟩:=hG 1 [.tuple #[]] rfl;obtain⟨u,hu,_,m,rfl⟩:=hr 0 _ rfl;have hm:w.cell? ⟨1,0,none⟩=some (.int .i64 m):=by
   unfold World.cell?;rw[hc];exact hu
  refine(Tryz.strings_Contains a b m w hs hm).mono ?_;rintro e w' ⟨rfl,rfl⟩;exact⟨_,rfl,Step.refl _ _,.sc _ rfl⟩
def aef(f:FuncId)(sz bytes:Nat)(h:cx.ins f=some (sz,bytes)):zH cx f sz bytes:=by
 have h':WL f=some (sz,bytes):=h;unfold WL at h';split at h'
 .rename_i e;cases h';subst e;exact Gl
 split at h'
 .rename_i e;cases h';subst e;exact L5
 split at h'
 .rename_i e;cases h';subst e;exact L6
 split at h'
 .rename_i e;cases h';subst e;exact L7
 cases h'
def agk(f:FuncId)(w:World)(X:Nat->Prop)(v:Value)(r:AV)(h:Ri w X v r):Ri w X v (cx.nf f r):=by
 show Ri w X v (OW f r);unfold OW;split
 .exact aeu h
 .split
  .exact aev h
  .exact aex _ h
end Go.Proofs.YtmfohnojaginjaaGreatDoor
