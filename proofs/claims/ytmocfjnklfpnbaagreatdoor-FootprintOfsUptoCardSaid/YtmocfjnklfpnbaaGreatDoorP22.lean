/- Part of the proof. -/
import Derived.Test.YtmocfjnklfpnbaaGreatDoorP6
set_option linter.all false
namespace Go.Ae
open Go
def PZ(C:Cx)(T:FuncId->List AV->Option AV):Cx:={C with BZ:=λf xs=>match T f xs with|some r=>some r|none=>C.BZ f xs}
def WD(C:Cx)(T:FuncId->List AV->Option AV)(ops:Array Oper):J1 (PZ C T) ops=J1 C ops:=rfl
def J2(C:Cx)(T:FuncId->List AV->Option AV):∀c:Code,codeOk (PZ C T) c=codeOk C c:=by
 intro c
 induction c with
 |region i ops m=>cases m<;>simp only[codeOk,WD]
 |_=>simp_all only[codeOk]
def kg.more{C:Cx}(h:kg C)(T:FuncId->List AV->Option AV)(hT:∀f xs r,T f xs=some r->iG C f xs r)(hO:∀f sz,C.ins f≠some (sz,1)):kg (PZ C T):={
 base:={mixed:=h.base.mixed,types:=h.base.types,Ht:=λf fi hf=>by rw[J2];exact h.base.Ht f fi hf}
 MC:=λg T' e=>h.MC g T' e
 vc:=λf g kt e=>h.vc f g kt e
 BZ:=λf xs r e=>by
  have e':(match T f xs with|some r=>some r|none=>C.BZ f xs)=some r:=e;split at e'
  .rename_i r' hr;cases e';exact hT f xs _ hr
  .exact h.BZ f xs r e'
 sfn:=λf sz e=>h.sfn f sz e
 nf:=λf w X v r e=>h.nf f w X v r e}
def su{C:Cx}(hC:kg C){n:Nat}{T:FuncId->List AV->Option AV}(hT:∀f xs r,T f xs=some r->xs.all calm=true/\iG C f xs r){f:FuncId}{xs:List AV}{h':Hp}{r0 r:AV}(hb:oH C (λb g ys h=>match T g ys with|some q=>some (q,h)|none=>cu C n b g ys h) f xs []=some (r0,h')){m:Nat}(jx:da h' m r0=some r):iG C f xs r:=by
 refine qM hC.base (λb g ys h r h' hc w X ρ vs hs hl hv=>?_) (λg ys h r h' hi hc=>?_) hb jx
 .split at hc
  .rename_i q hq;cases hc;obtain⟨dL,hp⟩:=hT g ys _ hq;rw[Yp]at dL;obtain⟨p1,p2⟩:=hp w (dZ X ρ h) vs (λb hb=>hb.elim (hs.FC b) λ⟨i,hi,e⟩=>e▸hs.lt hi) hs.rS (by omega) (λk y hk=>zl (hv k y hk) (dL _ (Zi hk)));exact⟨p1,p2.mono λe w' ⟨v,he,dO,yJ⟩=>⟨ρ,jY hs dO,.inl ⟨v,he,.im yJ⟩⟩⟩
  .exact(gH hC n).1 b g ys h r h' hc w X ρ vs hs hl hv
 .split at hc
  .cases hc;rfl
  .exact(gH hC n).2 g ys h r h' hi hc
def I0 :List (FuncId × List AV × AV)->FuncId->List AV->Option AV
 | [],_,_=>none
 |(g,ys,r)::t,f,xs=>if f=g then(if B5 xs ys then some r else I0 t f xs)else I0 t f xs
def EP{C:Cx}:∀{L:List (FuncId × List AV × AV)},(∀e∈L,iG C e.1 e.2.1 e.2.2)->∀f xs r,I0 L f xs=some r->iG C f xs r
 | [],_,f,xs,r,e=>by simp[I0]at e
 |
  (g,ys,r0)::t,h,f,xs,r,e=>by
  have ht:=EP (L:=t) (λx hx=>h x (Yr _ hx)) f xs r;unfold I0 at e;split at e
  .rename_i hf;split at e
   .rename_i hx;cases e;have h0:=h _ (List.mem_cons_self ..);rw[hf,lk hx];exact h0
   .exact ht e
  .exact ht e
noncomputable def runK(C:Cx)(f:FuncId)(xs:List AV):Option AV:=match oH C (cu C 90) f xs []with
 |some (r0,h')=>(da h' 8 r0).map (C.nf f)
 |none=>none
def qN{C:Cx}(hC:kg C){f:FuncId}{xs:List AV}{r:AV}(h:runK C f xs=some r):iG C f xs r:=by
 unfold runK at h;split at h
 .rename_i r0 h' hb;obtain⟨r2,oL,rfl⟩:=Ze.1 h;have hp:=Hu hC hb oL;exact λw X vs h1 h2 h3 h4=>⟨(hp w X vs h1 h2 h3 h4).1,(hp w X vs h1 h2 h3 h4).2.mono λe w' ⟨v,he,dO,yJ⟩=>⟨v,he,dO,hC.nf f w' X v _ yJ⟩⟩
 .cases h
end Go.Ae
