/- Part of the proof. -/
import Derived.Test.YtmfohnojaginjaaGreatDoorP30
set_option linter.all false
set_option maxHeartbeats 16000000
set_option maxRecDepth 100000
namespace Go.Proofs.YtmfohnojaginjaaGreatDoor
open Go Go.Ae Go.Proofs.Tryz
section
attribute [local simp] cn eD
noncomputable def Cp :Code:=(f35.body).getD .skip
noncomputable def kS2 :Code:=cL (cT 2 Cp)
noncomputable def kS3 :Code:=cL (cT 3 Cp)
noncomputable def Sh :Code:=cL (cL (cR kS2))
noncomputable def Si :Code:=cL (cL (cR kS3))
noncomputable def kT7 :Code:=cR (cL (cL (cR Sh)))
noncomputable def aas :Code:=cR (cL (cL (cR Si)))
def adR :Cp= .seq (cL Cp) (.seq (cL (cT 1 Cp)) (.seq (.seq (cL kS2) (.block 0 (.loop Sh))) (.seq (.seq (cL kS3) (.block 2 (.loop Si))) (cT 4 Cp)))):=by kernel_rfl
def adS :Sh= .seq (cL Sh) (.seq (.block 1 (.seq (.region 6 Cn.toArray true) kT7)) (cT 2 Sh)):=by kernel_rfl
def adT :Si= .seq (cL Si) (.seq (.block 3 (.seq (.region 12 uh.toArray true) aas)) (cT 2 Si)):=by kernel_rfl
def hZ{C:Cx}{call:Bool->FuncId->LA->Hp->Option (AV × Hp)}(hC:Dp C)(cJ:∀b,iZ C (call b))(eZ:∀g xs h r h',C.inl g=false->call false g xs h=some (r,h')->h'=h){c:Code}(gI:codeOk C c=true)(h2:sZ C c=true){s s':St}{o:Out}(he:cO C call c s=some (o,s')){P:Out->St->Prop}(hP:P o s'):GM C c s P:=
 Vj hC cJ eZ gI (by rw[xx c h2];exact he) hP
structure zB (G:LA)(s:St):Prop where
 len:s.1.length=116
 two:gt s.1 2= .pt 0 0
 tre:gt s.1 3= .pt 1 0
 h0:s.2[0]?=some (.row G)
 h1:s.2[1]?=some (.row G)
def gC(cg cY:List LA)(a b:AV):LA:=[.ls 3 cg false,.ls 5 cY false,a,b]
section walk
variable (K : Bool -> FuncId -> LA -> Hp -> Option (AV × Hp))
def ajg(cg cY:List LA)(a b:AV):∃s',cO cx K (cL Cp) ([.ag (gC cg cY a b),.ag (gC cg cY a b)]++List.replicate 114 .un,[])=some (.normal,s')/\zB (gC cg cY a b) s':=by
 unfold gC;simp[Cp,cL,f35];exact{len:=by simp,two:=by simp,tre:=by simp,h0:=by simp,h1:=by simp}
def ajh(cg cY:List LA)(a b:AV)(s:St)(hs:zB (gC cg cY a b) s):∃s',cO cx K (cL (cT 1 Cp)) s=some (.normal,s')/\zB (gC cg cY a b) s':=by
 obtain⟨fr,h⟩:=s;obtain⟨cf,g2,g3,h0,h1⟩:=hs;simp only at *;have l0:0<h.length:=(Za.1 h0).1;have l1:1<h.length:=(Za.1 h1).1;have lQ:∀k,h[0]'k= .row (gC cg cY a b):=fT h0;have kL:∀k,h[1]'k= .row (gC cg cY a b):=fT h1;unfold gC at *;simp[Cp,kS2,kS3,Sh,Si,kT7,aas,cL,cR,cT,f35,cf,g2,g3,h0,h1,lQ,kL,l0,l1];exact⟨by simp[cf],by simp[g2],by simp[g3],h0,h1⟩
def aji(cg cY:List LA)(a b:AV)(s:St)(hs:zB (gC cg cY a b) s):∃s',cO cx K (cL kS2) s=some (.normal,s')/\zB (gC cg cY a b) s'/\gt s'.1 5=(0:Int):=by
 obtain⟨fr,h⟩:=s;obtain⟨cf,g2,g3,h0,h1⟩:=hs;simp only at *;have l0:0<h.length:=(Za.1 h0).1;have l1:1<h.length:=(Za.1 h1).1;have lQ:∀k,h[0]'k= .row (gC cg cY a b):=fT h0;have kL:∀k,h[1]'k= .row (gC cg cY a b):=fT h1;unfold gC at *;simp[Cp,kS2,kS3,Sh,Si,kT7,aas,cL,cR,cT,f35,cf,g2,g3];exact⟨by simp[cf],by simp[g2],by simp[g3],h0,h1⟩
def ajj(cg cY:List LA)(a b:AV)(s:St)(hs:zB (gC cg cY a b) s):∃s',cO cx K (cL kS3) s=some (.normal,s')/\zB (gC cg cY a b) s'/\gt s'.1 8=(0:Int):=by
 obtain⟨fr,h⟩:=s;obtain⟨cf,g2,g3,h0,h1⟩:=hs;simp only at *;have l0:0<h.length:=(Za.1 h0).1;have l1:1<h.length:=(Za.1 h1).1;have lQ:∀k,h[0]'k= .row (gC cg cY a b):=fT h0;have kL:∀k,h[1]'k= .row (gC cg cY a b):=fT h1;unfold gC at *;simp[Cp,kS2,kS3,Sh,Si,kT7,aas,cL,cR,cT,f35,cf,g2,g3];exact⟨by simp[cf],by simp[g2],by simp[g3],h0,h1⟩
def ajk(cg cY:List LA)(a b:AV)(s:St)(i:Nat)(hs:zB (gC cg cY a b) s)(hi:gt s.1 5=i):∃s',cO cx K (cL Sh) s=some (if i<cg.length then .normal else .exit 0,s')/\zB (gC cg cY a b) s'/\gt s'.1 5=i:=by
 obtain⟨fr,h⟩:=s;obtain⟨cf,g2,g3,h0,h1⟩:=hs;simp only at *;have l0:0<h.length:=(Za.1 h0).1;have l1:1<h.length:=(Za.1 h1).1;have lQ:∀k,h[0]'k= .row (gC cg cY a b):=fT h0;have kL:∀k,h[1]'k= .row (gC cg cY a b):=fT h1;unfold gC at *;by_cases hx:i<cg.length
 .rw[cq hx];simp[Cp,kS2,kS3,Sh,Si,kT7,aas,cL,cR,cT,f35,cf,g2,g3,hi,h0,lQ,l0,hx];exact⟨by simp[cf],by simp[g2],by simp[g3],h0,h1⟩
 .rw[cm hx];simp[Cp,kS2,kS3,Sh,Si,kT7,aas,cL,cR,cT,f35,cf,g2,g3,hi,h0,lQ,l0,hx];exact⟨by simp[cf],by simp[g2],by simp[g3],h0,h1⟩
def af6(cg cY:List LA)(a b:AV)(s:St)(i:Nat)(hs:zB (gC cg cY a b) s)(hi:gt s.1 8=i):∃s',cO cx K (cL Si) s=some (if i<cY.length then .normal else .exit 2,s')/\zB (gC cg cY a b) s'/\gt s'.1 8=i:=by
 obtain⟨fr,h⟩:=s;obtain⟨cf,g2,g3,h0,h1⟩:=hs;simp only at *;have l0:0<h.length:=(Za.1 h0).1;have l1:1<h.length:=(Za.1 h1).1;have lQ:∀k,h[0]'k= .row (gC cg cY a b):=fT h0;have kL:∀k,h[1]'k= .row (gC cg cY a b):=fT h1;unfold gC at *;by_cases hx:i<cY.length
 .rw[cq hx];simp[Cp,kS2,kS3,Sh,Si,kT7,aas,cL,cR,cT,f35,cf,g2,g3,hi,h0,lQ,l0,hx];exact⟨by simp[cf],by simp[g2],by simp[g3],h0,h1⟩
 .rw[cm hx];simp[Cp,kS2,kS3,Sh,Si,kT7,aas,cL,cR,cT,f35,cf,g2,g3,hi,h0,lQ,l0,hx];exact⟨by simp[cf],by simp[g2],by simp[g3],h0,h1⟩
def af7(cg cY:List LA)(a b:AV)(s:St)(i:Nat)(hs:zB (gC cg cY a b) s)(hi:gt s.1 5=i)(hf:cS .i64 ((i:Int)+1)=((i+1:Nat):Int)):∃s',cO cx K (cT 2 Sh) s=some (.normal,s')/\zB (gC cg cY a b) s'/\gt s'.1 5= .sc (.int .i64 ((i+1:Nat):Int)):=by
 obtain⟨fr,h⟩:=s;obtain⟨cf,g2,g3,h0,h1⟩:=hs;simp only at *;have l0:0<h.length:=(Za.1 h0).1;have l1:1<h.length:=(Za.1 h1).1;have lQ:∀k,h[0]'k= .row (gC cg cY a b):=fT h0;have kL:∀k,h[1]'k= .row (gC cg cY a b):=fT h1;unfold gC at *;simp[Cp,kS2,kS3,Sh,Si,kT7,aas,cL,cR,cT,f35,cf,g2,g3,hi,hf];exact⟨by simp[cf],by simp[g2],by simp[g3],h0,h1⟩
def ab2(cg cY:List LA)(a b:AV)(s:St)(i:Nat)(hs:zB (gC cg cY a b) s)(hi:gt s.1 8=i)(hf:cS .i64 ((i:Int)+1)=((i+1:Nat):Int)):∃s',cO cx K (cT 2 Si) s=some (.normal,s')/\zB (gC cg cY a b) s'/\gt s'.1 8= .sc (.int .i64 ((i+1:Nat):Int)):=by
 obtain⟨fr,h⟩:=s;obtain⟨cf,g2,g3,h0,h1⟩:=hs;simp only at *;have l0:0<h.length:=(Za.1 h0).1;have l1:1<h.length:=(Za.1 h1).1;have lQ:∀k,h[0]'k= .row (gC cg cY a b):=fT h0;have kL:∀k,h[1]'k= .row (gC cg cY a b):=fT h1;unfold gC at *;simp[Cp,kS2,kS3,Sh,Si,kT7,aas,cL,cR,cT,f35,cf,g2,g3,hi,hf];exact⟨by simp[cf],by simp[g2],by simp[g3],h0,h1⟩
def af8(cg cY:List LA)(a b:AV)(s:St)(hs:zB (gC cg cY a b) s):∃s',cO cx K (cT 4 Cp) s=some (.ret,s')/\gt s'.1 4=true:=by
 obtain⟨fr,h⟩:=s;obtain⟨cf,g2,g3,h0,h1⟩:=hs;simp only at *;have l0:0<h.length:=(Za.1 h0).1;have l1:1<h.length:=(Za.1 h1).1;have lQ:∀k,h[0]'k= .row (gC cg cY a b):=fT h0;have kL:∀k,h[1]'k= .row (gC cg cY a b):=fT h1;unfold gC at *;simp[Cp,kS2,kS3,Sh,Si,kT7,aas,cL,cR,cT,f35,cf,g2,g3]
def ajl(cg cY:List LA)(a b:AV)(id:Int)(tl tp:AV)(s:St)(i:Nat)(fS:∀t h,K t 65 [tl,tl] h=some ((true:AV),h))(fP:∀t h,K t 66 [tp,tp] h=some ((true:AV),h))(nl:∀v,tl≠ .pn v)(nq:∀v,tp≠ .pn v)(hs:Sq 34 5 6 7 3 0 cg (gC cg cY a b) [id,tl,tp] i s):∃s',cO cx K kT7 s=some (.normal,s')/\zB (gC cg cY a b) s'/\gt s'.1 5=i:=by
 obtain⟨fr,h⟩:=s;obtain⟨F,⟨bx,bz,e1,e2,e3,e4⟩,h0,h1⟩:=hs;simp[Fc,gH]at F;obtain⟨cf,g2,g3,gi,_⟩:=F;simp only at e1 e2 e3 e4 h0 h1;have e3':=fT e3;have e4':=fT e4;have k3:=(Za.1 e3).1;have k4:=(Za.1 e4).1;have q1:=tZ nl (K true);have q2:=tZ nq (K true);simp[Cp,kS2,kS3,Sh,Si,kT7,aas,cL,cR,cT,f35,cf,g2,g3,gi,e1,e2,e3,e4,e3',e4',k3,k4,Ci,fS,fP,q1,q2];exact⟨by simp[cf],by simp[g2],by simp[g3],h0,h1⟩
def af9(cg cY:List LA)(a b:AV)(id sr ds:Int)(ty:ByteArray)(tp:AV)(s:St)(i:Nat)(fP:∀t h,K t 66 [tp,tp] h=some ((true:AV),h))(nq:∀v,tp≠ .pn v)(hs:Sq 72 8 9 10 5 1 cY (gC cg cY a b) [id,sr,ds,ty,tp] i s):∃s',cO cx K aas s=some (.normal,s')/\zB (gC cg cY a b) s'/\gt s'.1 8=i:=by
 obtain⟨fr,h⟩:=s;obtain⟨F,⟨bx,bz,e1,e2,e3,e4⟩,h0,h1⟩:=hs;simp[Fc,gH]at F;obtain⟨cf,g2,g3,gi,_⟩:=F;simp only at e1 e2 e3 e4 h0 h1;have e3':=fT e3;have e4':=fT e4;have k3:=(Za.1 e3).1;have k4:=(Za.1 e4).1;have q2:=tZ nq (K true);simp[Cp,kS2,kS3,Sh,Si,kT7,aas,cL,cR,cT,f35,cf,g2,g3,gi,e1,e2,e3,e4,e3',e4',k3,k4,Ci,fP,q2];exact⟨by simp[cf],by simp[g2],by simp[g3],h0,h1⟩
end walk
def Jb{b si x y k part:Nat}{cg:List LA}{G row:LA}{i:Nat}{sA sB:St}(hb:b+9<116)(hA:Sq b si x y k part cg G row i sA)(hB:Sq b si x y k part cg G row i sB):∀j,j<10->sA.1[b+j]?=sB.1[b+j]?:=by
 obtain⟨lA,fA⟩:=hA.fc;obtain⟨lB,fB⟩:=hB.fc;intro j hj;have l1:b+j<sA.1.length:=by omega
 have l2:b+j<sB.1.length:=by omega
 have e:gt sA.1 (b+j)=gt sB.1 (b+j):=by
  obtain⟨v,hv⟩:∃v,(b+j,v)∈(gH b si x y k part cg row i 0).take 13:=by
   match j,hj with
   |0,_=>exact⟨_,.tail _ (.tail _ (.tail _ (.head _)))⟩
   |1,_=>exact⟨_,.tail _ (.tail _ (.tail _ (.tail _ (.head _))))⟩
   |2,_=>exact⟨_,.tail _ (.tail _ (.tail _ (.tail _ (.tail _ (.head _)))))⟩
   |3,_=>exact⟨_,.tail _ (.tail _ (.tail _ (.tail _ (.tail _ (.tail _ (.head _))))))⟩
   |4,_=>exact⟨_,.tail _ (.tail _ (.tail _ (.tail _ (.tail _ (.tail _ (.tail _ (.head _)))))))⟩
   |5,_=>exact⟨_,.tail _ (.tail _ (.tail _ (.tail _ (.tail _ (.tail _ (.tail _ (.tail _ (.head _))))))))⟩
   |6,_=>exact⟨_,.tail _ (.tail _ (.tail _ (.tail _ (.tail _ (.tail _ (.tail _ (.tail _ (.tail _ (.head _)))))))))⟩
   |7,_=>exact⟨_,.tail _ (.tail _ (.tail _ (.tail _ (.tail _ (.tail _ (.tail _ (.tail _ (.tail _ (.tail _ (.head _))))))))))⟩
   |8,_=>exact⟨_,.tail _ (.tail _ (.tail _ (.tail _ (.tail _ (.tail _ (.tail _ (.tail _ (.tail _ (.tail _ (.tail _ (.head _)))))))))))⟩
   |9,_=>exact⟨_,.tail _ (.tail _ (.tail _ (.tail _ (.tail _ (.tail _ (.tail _ (.tail _ (.tail _ (.tail _ (.tail _ (.tail _ (.head _))))))))))))⟩
  rw[fA _ hv,fB _ hv]
 rw[Zb l1,Zb l2];unfold gt at e;simp only[Yl,Zb l1,Zb l2,Xm]at e;rw[e]
def Qw{cg:List LA}{G row:LA}{i:Nat}{sA sB:St}(hA:Sq 34 5 6 7 3 0 cg G row i sA)(hB:Sq 34 5 6 7 3 0 cg G row i sB):∀(j:Nat)(o:Oper)(t:Tmp),Cn.toArray[j]?=some o->ti (fY Cn.toArray.toList []) 10 11 j=false->o.dst=some t->sA.1[t]?=sB.1[t]?:=by
 have key:=Jb (by omega) hA hB;intro j o t h1 h2 h3;have hj:j<14:=(Xt.1 h1).1
 match j,hj with
 |0,_=>cases h1;cases h3;exact key 0 (by decide)
 |1,_=>cases h1;cases h3;exact key 1 (by decide)
 |2,_=>cases h1;cases h3;exact key 2 (by decide)
 |3,_=>cases h1;cases h3;exact key 3 (by decide)
 |4,_=>cases h1;cases h3;exact key 4 (by decide)
 |5,_=>cases h1;cases h3;exact key 5 (by decide)
 |6,_=>cases h1;cases h3;exact key 6 (by decide)
 |7,_=>cases h1;cases h3;exact key 7 (by decide)
 |8,_=>cases h1;cases h3;exact key 8 (by decide)
 |9,_=>cases h1;cases h3;exact key 9 (by decide)
 |10,_=>exact absurd (h2.symm.trans (show ti (fY Cn.toArray.toList []) 10 11 10=true by kernel_rfl)) (by decide)
 |11,_=>exact absurd (h2.symm.trans (show ti (fY Cn.toArray.toList []) 10 11 11=true by kernel_rfl)) (by decide)
 |12,_=>exact absurd (h2.symm.trans (show ti (fY Cn.toArray.toList []) 10 11 12=true by kernel_rfl)) (by decide)
 |13,_=>exact absurd (h2.symm.trans (show ti (fY Cn.toArray.toList []) 10 11 13=true by kernel_rfl)) (by decide)
def LI{cg:List LA}{G row:LA}{i:Nat}{sA sB:St}(hA:Sq 72 8 9 10 5 1 cg G row i sA)(hB:Sq 72 8 9 10 5 1 cg G row i sB):∀(j:Nat)(o:Oper)(t:Tmp),uh.toArray[j]?=some o->ti (fY uh.toArray.toList []) 10 11 j=false->o.dst=some t->sA.1[t]?=sB.1[t]?:=by
 have key:=Jb (by omega) hA hB;intro j o t h1 h2 h3;have hj:j<14:=(Xt.1 h1).1
 match j,hj with
 |0,_=>cases h1;cases h3;exact key 0 (by decide)
 |1,_=>cases h1;cases h3;exact key 1 (by decide)
 |2,_=>cases h1;cases h3;exact key 2 (by decide)
 |3,_=>cases h1;cases h3;exact key 3 (by decide)
 |4,_=>cases h1;cases h3;exact key 4 (by decide)
 |5,_=>cases h1;cases h3;exact key 5 (by decide)
 |6,_=>cases h1;cases h3;exact key 6 (by decide)
 |7,_=>cases h1;cases h3;exact key 7 (by decide)
 |8,_=>cases h1;cases h3;exact key 8 (by decide)
 |9,_=>cases h1;cases h3;exact key 9 (by decide)
 |10,_=>exact absurd (h2.symm.trans (show ti (fY uh.toArray.toList []) 10 11 10=true by kernel_rfl)) (by decide)
 |11,_=>exact absurd (h2.symm.trans (show ti (fY uh.toArray.toList []) 10 11 11=true by kernel_rfl)) (by decide)
 |12,_=>exact absurd (h2.symm.trans (show ti (fY uh.toArray.toList []) 10 11 12=true by kernel_rfl)) (by decide)
 |13,_=>exact absurd (h2.symm.trans (show ti (fY uh.toArray.toList []) 10 11 13=true by kernel_rfl)) (by decide)
def aga(l:List ByteArray)(z:Bool):∀v,iD l z≠ .pn v:=λv=>by unfold iD;simp
def ab3(l:List fZ)(z:Bool):∀v,eU l z≠ .pn v:=λv=>by unfold eU;simp
def ajm(hC:pL cx)(N D:Nat)(g:Gr)(s:St)(hg:qw D g)(hs:zB (cl g) s)(h5:gt s.1 5=(0:Int)):GM cx (.loop Sh) s (λo s'=>o= .exit 0/\zB (cl g) s'):=by
 have rE:=(gW hC (N+3*D+7)).1;have vT:=(gW hC (N+3*D+7)).2;have hq:=dC g.nodes;have jc:=iJ g.nodes;have AG:=nO g.nodes;refine I9 (λi s=>zB (cl g) s/\gt s.1 5=i) g.nodes.length ?_ ⟨hs,h5⟩;rintro i s da ⟨hs,h5⟩;rw[adS];obtain⟨s1,a1,a2,a3⟩:=ajk (ch cx (N+3*D+7)) (f_ g.nodes) (fV g.cj) (.sc (.int .i64 g.nn)) (.sc (.int .i64 g.ne)) s i hs h5;refine kU (hZ hC.base rE vT (by kernel_rfl) (by kernel_rfl) a1 ?_);rw[hq];by_cases hi:i<g.nodes.length
 rotate_left
 .rw[cm hi];exact⟨λq=>(by cases q),λ_=>⟨λq=>(by cases q),λ_=>⟨rfl,a2⟩⟩⟩
 rw[cq hi];refine⟨λ_=>?_,λq=>absurd rfl q⟩;obtain⟨n,hx,hr,cz⟩:=kT jc hi;have hm:=Zi hx;obtain⟨b1,b2,b3⟩:=hg.ns n hm;have wh:gY (dh n) (dh n)=true:=by simp[dh,iD,eU,gY,fH,Ae.nU,M_,AD]
 obtain⟨kH,hp1⟩:=s1;obtain⟨sA,r1,r2⟩:=Vk (ch cx (N+3*D+7) false) kH hp1 (f_ g.nodes) (dz g.cj) (.sc (.int .i64 g.nn)) (.sc (.int .i64 g.ne)) (.sc (.int .i64 n.id)) (iD n.labels false) (eU n.props false) i ⟨a2.len,a2.two,a2.tre,a3⟩ a2.h0 a2.h1 (by rw[hq];exact hi) hr AG wh;obtain⟨sB,r3,r4⟩:=Vs (ch cx (N+3*D+7) false) kH hp1 (f_ g.nodes) (dz g.cj) (.sc (.int .i64 g.nn)) (.sc (.int .i64 g.ne)) (.sc (.int .i64 n.id)) (iD n.labels false) (eU n.props false) i ⟨a2.len,a2.two,a2.tre,a3⟩ a2.h0 a2.h1 (by rw[hq];exact hi) hr AG wh;have oE:=cG (i:=i) (Yp da hg.nl);have rest:∀s2,Sq 34 5 6 7 3 0 (f_ g.nodes) (cl g) (dh n) i s2->GM cx kT7 s2 (λo s3=>o= .normal/\zB (cl g) s3/\gt s3.1 5=i):=λs2 AA=>by
  obtain⟨s3,t1,t2,t3⟩:=ajl (ch cx (N+3*D+7)) (f_ g.nodes) (fV g.cj) (.sc (.int .i64 g.nn)) (.sc (.int .i64 g.ne)) n.id (iD n.labels false) (eU n.props false) s2 i (λt h=>Gb (N+3*D+6) t n.labels false h b1) (λt h=>vO N D t n.props false h b2 b3) (aga _ _) (ab3 _ _) AA;exact hZ hC.base rE vT (by kernel_rfl) (by kernel_rfl) t1 ⟨rfl,t2,t3⟩
 refine kU (uY (kU (Ja hC.base (rE false) vT (by kernel_rfl) r1 r3 (Qw r2 r4) ?_ ?_)))
 .refine⟨λ_=>rb (rest sA r2) ?_,λq=>absurd rfl q⟩;rintro o s3 ⟨rfl,t2,t3⟩;refine⟨λ_=>?_,λq=>absurd rfl q⟩;obtain⟨s4,u1,u2,u3⟩:=af7 (ch cx (N+3*D+7)) _ _ _ _ s3 i t2 t3 oE;exact hZ hC.base rE vT (by kernel_rfl) (by kernel_rfl) u1 ⟨λ_=>⟨hi,u2,u3⟩,λq=>absurd rfl q⟩
 .refine⟨λ_=>rb (rest sB r4) ?_,λq=>absurd rfl q⟩;rintro o s3 ⟨rfl,t2,t3⟩;refine⟨λ_=>?_,λq=>absurd rfl q⟩;obtain⟨s4,u1,u2,u3⟩:=af7 (ch cx (N+3*D+7)) _ _ _ _ s3 i t2 t3 oE;exact hZ hC.base rE vT (by kernel_rfl) (by kernel_rfl) u1 ⟨λ_=>⟨hi,u2,u3⟩,λq=>absurd rfl q⟩
def ajn(hC:pL cx)(N D:Nat)(g:Gr)(s:St)(hg:qw D g)(hs:zB (cl g) s)(h5:gt s.1 8=(0:Int)):GM cx (.loop Si) s (λo s'=>o= .exit 2/\zB (cl g) s'):=by
 have rE:=(gW hC (N+3*D+7)).1;have vT:=(gW hC (N+3*D+7)).2;have hq:=dD g.cj;have jc:=jy g.cj;have AG:=nP g.cj;refine I9 (λi s=>zB (cl g) s/\gt s.1 8=i) g.cj.length ?_ ⟨hs,h5⟩;rintro i s da ⟨hs,h5⟩;rw[adT];obtain⟨s1,a1,a2,a3⟩:=af6 (ch cx (N+3*D+7)) (f_ g.nodes) (fV g.cj) (.sc (.int .i64 g.nn)) (.sc (.int .i64 g.ne)) s i hs h5;refine kU (hZ hC.base rE vT (by kernel_rfl) (by kernel_rfl) a1 ?_);rw[hq];by_cases hi:i<g.cj.length
 rotate_left
 .rw[cm hi];exact⟨λq=>(by cases q),λ_=>⟨λq=>(by cases q),λ_=>⟨rfl,a2⟩⟩⟩
 rw[cq hi];refine⟨λ_=>?_,λq=>absurd rfl q⟩;obtain⟨n,hx,hr,cz⟩:=kT jc hi;have hm:=Zi hx;obtain⟨b2,b3⟩:=hg.es n hm;have wh:gY (dP n) (dP n)=true:=by simp[dP,eU,gY,fH,Ae.nU,AD,bytes_beq]
 obtain⟨kH,hp1⟩:=s1;obtain⟨sA,r1,r2⟩:=Qu (ch cx (N+3*D+7) false) kH hp1 (fV g.cj) (dy g.nodes) (.sc (.int .i64 g.nn)) (.sc (.int .i64 g.ne)) (.sc (.int .i64 n.id)) (.sc (.int .i64 n.src)) (.sc (.int .i64 n.dst)) (.sc (.string n.type)) (eU n.props false) i ⟨a2.len,a2.two,a2.tre,a3⟩ a2.h0 a2.h1 (by rw[hq];exact hi) hr AG wh;obtain⟨sB,r3,r4⟩:=Qv (ch cx (N+3*D+7) false) kH hp1 (fV g.cj) (dy g.nodes) (.sc (.int .i64 g.nn)) (.sc (.int .i64 g.ne)) (.sc (.int .i64 n.id)) (.sc (.int .i64 n.src)) (.sc (.int .i64 n.dst)) (.sc (.string n.type)) (eU n.props false) i ⟨a2.len,a2.two,a2.tre,a3⟩ a2.h0 a2.h1 (by rw[hq];exact hi) hr AG wh;have oE:=cG (i:=i) (Yp da hg.el);have rest:∀s2,Sq 72 8 9 10 5 1 (fV g.cj) (cl g) (dP n) i s2->GM cx aas s2 (λo s3=>o= .normal/\zB (cl g) s3/\gt s3.1 8=i):=λs2 AA=>by
  obtain⟨s3,t1,t2,t3⟩:=af9 (ch cx (N+3*D+7)) (f_ g.nodes) (fV g.cj) (.sc (.int .i64 g.nn)) (.sc (.int .i64 g.ne)) n.id n.src n.dst n.type (eU n.props false) s2 i (λt h=>vO N D t n.props false h b2 b3) (ab3 _ _) AA;exact hZ hC.base rE vT (by kernel_rfl) (by kernel_rfl) t1 ⟨rfl,t2,t3⟩
 refine kU (uY (kU (Ja hC.base (rE false) vT (by kernel_rfl) r1 r3 (LI r2 r4) ?_ ?_)))
 .refine⟨λ_=>rb (rest sA r2) ?_,λq=>absurd rfl q⟩;rintro o s3 ⟨rfl,t2,t3⟩;refine⟨λ_=>?_,λq=>absurd rfl q⟩;obtain⟨s4,u1,u2,u3⟩:=ab2 (ch cx (N+3*D+7)) _ _ _ _ s3 i t2 t3 oE;exact hZ hC.base rE vT (by kernel_rfl) (by kernel_rfl) u1 ⟨λ_=>⟨hi,u2,u3⟩,λq=>absurd rfl q⟩
 .refine⟨λ_=>rb (rest sB r4) ?_,λq=>absurd rfl q⟩;rintro o s3 ⟨rfl,t2,t3⟩;refine⟨λ_=>?_,λq=>absurd rfl q⟩;obtain⟨s4,u1,u2,u3⟩:=ab2 (ch cx (N+3*D+7)) _ _ _ _ s3 i t2 t3 oE;exact hZ hC.base rE vT (by kernel_rfl) (by kernel_rfl) u1 ⟨λ_=>⟨hi,u2,u3⟩,λq=>absurd rfl q⟩
def Dq(hC:pL cx)(D:Nat)(g:Gr)(hg:qw D g):iG cx 35 [.ag (cl g),.ag (cl g)] (.sc (.bool true)):=by
 have hF:G4 cx.P 35=some ⟨f35.ntmps,(f35.body).getD .skip,[.tmp 4]⟩:=by kernel_rfl
 refine I_ (m:=8) hF (λfn e=>?_) (by simp[f35]) ?_
 .have:cx.P.funcs[35]?=some f35:=by kernel_rfl
  rw[this]at e;cases e;decide
 change GM cx Cp ([.ag (cl g),.ag (cl g)]++List.replicate 114 .un,[]) _;have rE:=(gW hC 0).1;have vT:=(gW hC 0).2;rw[adR];obtain⟨s1,a1,a2⟩:=ajg (ch cx 0) (f_ g.nodes) (fV g.cj) (.sc (.int .i64 g.nn)) (.sc (.int .i64 g.ne));refine kU (hZ hC.base rE vT (by kernel_rfl) (by kernel_rfl) a1 ⟨λ_=>?_,λq=>absurd rfl q⟩);obtain⟨s2,b1,b2⟩:=ajh (ch cx 0) _ _ _ _ s1 a2;refine kU (hZ hC.base rE vT (by kernel_rfl) (by kernel_rfl) b1 ⟨λ_=>?_,λq=>absurd rfl q⟩);obtain⟨s3,c1,c2,c3⟩:=aji (ch cx 0) _ _ _ _ s2 b2;refine kU (kU (hZ hC.base rE vT (by kernel_rfl) (by kernel_rfl) c1 ⟨λ_=>uY (rb (ajm hC 0 D g s3 hg c2 c3) ?_),λq=>absurd rfl q⟩));rintro o s4 ⟨rfl,d2⟩;refine⟨λ_=>?_,λq=>absurd rfl q⟩;obtain⟨s5,e1,e2,e3⟩:=ajj (ch cx 0) _ _ _ _ s4 d2;refine kU (kU (hZ hC.base rE vT (by kernel_rfl) (by kernel_rfl) e1 ⟨λ_=>uY (rb (ajn hC 0 D g s5 hg e2 e3) ?_),λq=>absurd rfl q⟩));rintro o s6 ⟨rfl,af⟩;refine⟨λ_=>?_,λq=>absurd rfl q⟩;obtain⟨s7,g1,g2⟩:=af8 (ch cx 0) _ _ _ _ s6 af;refine hZ hC.base rE vT (by kernel_rfl) (by kernel_rfl) g1 ⟨.inr rfl,.sc (.bool true),?_,rfl⟩;unfold sE;simp only[Zo,List.mapM_nil,wZ];change(do let a<-some (gt s7.1 4);pure a:Option AV)=_;rw[g2]
end
section
attribute [local simp] eD
def LJ(g:Gr):Bool:=if 6<g.nodes.length\/8<g.cj.length then false else decide (0<=edW g.cj (BR g.nodes 2000))
def LK(N D:Nat)(b:Bool)(g:Gr)(h:Hp)(hb:qw D g)(hs:SzB g):
 ch cx (N+D+3) b 4 [.ag (cl g),(6:Int),(8:Int)] h=some (.sc (.bool (LJ g)),h):=by
 refine eR (n:=N+D+2) f4 [.tmp 6] (Uz _ _ _) rfl ?_ b h;have hq:=dC g.nodes;have hg:=iJ g.nodes;have mR:=dD g.cj;have x6:=jy g.cj;have nh:=hb.nl;have ni:=hb.el;have fw:=λb(l:List fZ)(z:Bool)(n:Int)h hl hn hb=>O7 N D b l z n h hl hn hb
 unfold LJ cl dy dz;generalize f_ g.nodes=cg at hq hg;generalize fV g.cj=cY at mR x6;by_cases GH:6<g.nodes.length\/8<g.cj.length
 .rw[cq GH];by_cases h1:6<g.nodes.length
  .have kL:(6:Int)<g.nodes.length:=by omega
   simp[f4,hq,kL]
  .have h2:8<g.cj.length:=by omega
   have kL:¬(6:Int)<g.nodes.length:=by omega
   have ry:(8:Int)<g.cj.length:=by omega
   simp[f4,hq,mR,kL,ry]
 .rw[cm GH];have h1:¬6<g.nodes.length:=by omega
  have h2:¬8<g.cj.length:=by omega
  have kL:¬(6:Int)<g.nodes.length:=by omega
  have ry:¬(8:Int)<g.cj.length:=by omega
  generalize hT1:BR g.nodes 2000=T1;have ajo:T1<=2000:=by rw[<-hT1];exact M5 _ _ (by omega)
  generalize hT2:edW g.cj T1=T2;simp[f4,hq,mR,kL,ry];refine pQ
   (λi st dn=>∃c:Int,T1=zq g.nodes c i/\c<=2000/\st.length=98/\gt st 3= .pt 0 0/\gt st 7=c/\gt st 8=i/\At dn 0 (.row [.ls 3 cg false,.ls 5 cY false,g.nn,g.ne]))
   (λo s dn=>o= .exit 0/\s.length=98/\gt s 3= .pt 0 0/\gt s 7=T1/\At dn 0 (.row [.ls 3 cg false,.ls 5 cY false,g.nn,g.ne])) g.nodes.length (by simp;omega) (by exact ⟨2000,hT1.symm,by omega,rfl,rfl,rfl,rfl,rfl⟩) ?_ ?_
  .rintro i fr hp da ⟨c,hT,hc,cf,h3,h7,h8,hh⟩;have D9:hp[0]?=some (.row [.ls 3 cg false,.ls 5 cY false,g.nn,g.ne]):=hh;have pg:=(Za.1 D9).1;have P_:∀y,(hp++y)[0]?=some (.row [.ls 3 cg false,.ls 5 cY false,g.nn,g.ne]):=λy=>hh.app y
   have hh2:∀y k,(hp++y)[0]'k= .row [.ls 3 cg false,.ls 5 cY false,g.nn,g.ne]:=λy k=>(hh.app y).get k
   by_cases hi:i<g.nodes.length
   .by_cases kK:0<=c
    .obtain⟨x,hx⟩:=eA hi;have hm:=Zi hx;have Di:=hb.ns x hm;have UZ:=hs.n x hm;have zd:=Di.1;have hfu:x.labels.length<cx.fuel:=by simp;omega
     have hwl:=Aw x.props (c-(x.labels.length:Int)) (by omega);have dZ:c-(x.labels.length:Int)<=2000:=by omega
     have e1:cS .i64 (c-(x.labels.length:Int))=c-(x.labels.length:Int):=cu (by omega) (by omega);have hw:=λb h=>fw b x.props false (c-(x.labels.length:Int)) h Di.2.1 dZ λy hy=>⟨(Di.2.2 y hy).1,(Di.2.2 y hy).2,UZ.2 y hy⟩
     have hr:cg[i]?=some [.sc (.int .i64 x.id),.ls 1 (fj x.labels) false,.ls 6 (d_ x.props) false]:=by rw[hg,hx];rfl
     have cz:=gA hr
     have hql:=di x.labels;have J7:=lS x.labels;unfold eU at hw;have dq:=Ls hx kK;rw[<-hT]at dq;have hf:=cG (Yp da nh);generalize hW0:tP x.props (c-(x.labels.length:Int))=W0 at hw dq hwl;generalize hW:z6 x.labels W0=W at dq;have hWl:W<=2000:=by rw[<-hW];exact FJ _ _ hwl
     generalize fj x.labels=Vt at hr cz hql J7;simp[cf,h3,h7,h8,hi,hq,cz,kK,hw,e1,hql,D9,cn];generalize hX:cO cx (ch cx (N+D+2)) (Code.loop _) _=X;obtain⟨o2,GJ,lL,rfl,rfl,ab4,q3,q7,q8,qh⟩:=Uy (call:=ch cx (N+D+2))
      (λj st=>∃c':Int,W=zp x.labels c' j/\c'<=2000/\st.1.length=98/\gt st.1 3= .pt 0 0/\gt st.1 7=c'/\gt st.1 8=i/\gt st.1 9= .pt hp.length 0/\gt st.1 10=j/\At st.2 0 (.row [.ls 3 cg false,.ls 5 cY false,g.nn,g.ne])/\At st.2 hp.length (.row [x.id,.ls 1 Vt false,.ls 6 (d_ x.props) false]))
      (λo s=>o= .exit 2/\s.1.length=98/\gt s.1 3= .pt 0 0/\gt s.1 7=W/\gt s.1 8=i/\At s.2 0 (.row [.ls 3 cg false,.ls 5 cY false,g.nn,g.ne])) x.labels.length hfu X _ _ _ hX ⟨W0,hW.symm,hwl,by simp[cf],by simp[h3],by simp[cf],by simp[h8],by simp[cf],by simp[cf],hh.app _,by unfold At;simp⟩ (by
      clear h3 h7 h8 cf D9 P_ hh2 pg hh dq hW hwl hw e1 hc hT hr cz hf hX;rintro j fr lL pS ⟨c',hT',vT,cf,h3,h7,h8,h9,lN,hh,hn⟩;simp only at cf h3 h7 h8 h9 lN hh hn;have WZ:lL[hp.length]?=some (.row [x.id,.ls 1 Vt false,.ls 6 (d_ x.props) false]):=hn;by_cases hj:j<x.labels.length
      .by_cases hc3:0<=c'
       .obtain⟨y,hy⟩:=eA hj;have yg:=UZ.1 y (Zi hy);have vY:Vt[j]?=some [.sc (.string y)]:=by rw[J7,hy];rfl
        have nG:=gA vY
        have hc4:c'-(y.size:Int)/50<=2000:=by omega
        have agb:=Lr hy hc3;rw[<-hT']at agb;have Sf:=cG (Yp pS zd);have e2:cS .i64 ((y.size:Int)/50)=(y.size:Int)/50:=cu (by omega) (by omega);have e3:cS .i64 (c'-(y.size:Int)/50)=c'-(y.size:Int)/50:=cu (by omega) (by omega);simp[cf,h3,h7,h8,h9,lN,hj,hql,nG,hc3,WZ,e2,e3,Sf];exact⟨_,agb,hc4,rfl,hh,hn⟩
       .have zz:W=c':=by rw[hT',Pu _ _ _ (by omega)]
        simp[cf,h3,h7,h8,h9,lN,hj,hql,hc3,WZ,zz];exact hh
      .have zz:W=c':=by rw[hT',Pt _ _ _ (by omega)]
       simp[cf,h3,h7,h8,h9,lN,hj,hql,WZ,zz];exact hh)
     simp only at ab4 q3 q7 q8 qh;simp[ab4,q3,q7,q8,hf];exact⟨hi,_,dq,hWl,rfl,qh⟩
    .have zz:T1=c:=by rw[hT,Pw _ _ _ (by omega)]
     simp[cf,h3,h7,h8,hi,hq,kK,zz,D9];exact hh
   .have zz:T1=c:=by rw[hT,Pv _ _ _ (by omega)]
    simp[cf,h3,h7,h8,hi,hq,zz,D9];exact hh
  .rintro o fr hp hn ⟨rfl,cf,h3,h7,hh⟩;simp;have D9:hp[0]?=some (.row [.ls 3 cg false,.ls 5 cY false,g.nn,g.ne]):=hh;refine pQ
    (λi st dn=>∃c:Int,T2=Ix g.cj c i/\c<=2000/\st.length=98/\gt st 3= .pt 0 0/\gt st 7=c/\gt st 11=i/\At dn 0 (.row [.ls 3 cg false,.ls 5 cY false,g.nn,g.ne]))
    (λo s _=>o= .exit 4/\s.length=98/\gt s 7=T2) g.cj.length (by simp;omega) (by exact ⟨T1,hT2.symm,ajo,by simp[cf],by simp[h3],by simp[h7],by simp[cf],hh⟩) ?_ ?_
   .clear cf h3 h7 hh D9;rintro i fr hp da ⟨c,hT,hc,cf,h3,h7,GD,hh⟩;have D9:hp[0]?=some (.row [.ls 3 cg false,.ls 5 cY false,g.nn,g.ne]):=hh;by_cases hi:i<g.cj.length
    .by_cases kK:0<=c
     .obtain⟨x,hx⟩:=eA hi;have hm:=Zi hx;have Di:=hb.es x hm;have UZ:=hs.e x hm;have dZ:c-(x.type.size:Int)/50<=2000:=by omega
      have hwl:=Aw x.props (c-(x.type.size:Int)/50) dZ;have e2:cS .i64 ((x.type.size:Int)/50)=(x.type.size:Int)/50:=cu (by omega) (by omega);have e3:cS .i64 (c-(x.type.size:Int)/50)=c-(x.type.size:Int)/50:=cu (by omega) (by omega);have hw:=λb h=>fw b x.props false (c-(x.type.size:Int)/50) h Di.1 dZ λy hy=>⟨(Di.2 y hy).1,(Di.2 y hy).2,UZ.2 y hy⟩
      have hr:cY[i]?=some [.sc (.int .i64 x.id),.sc (.int .i64 x.src),.sc (.int .i64 x.dst),.sc (.string x.type),.ls 6 (d_ x.props) false]:=by rw[x6,hx];rfl
      have cz:=gA hr
      unfold eU at hw;have dq:=Px hx kK;rw[<-hT]at dq;have hf:=cG (Yp da ni);generalize tP x.props (c-(x.type.size:Int)/50)=W0 at hw dq hwl;simp[cf,h3,h7,GD,hi,mR,cz,kK,hw,e2,e3,D9,hf];exact⟨_,dq,hwl,rfl,hh⟩
     .have zz:T2=c:=by rw[hT,Ux _ _ _ (by omega)]
      simp[cf,h3,h7,GD,hi,mR,kK,zz,D9]
    .have zz:T2=c:=by rw[hT,Uw _ _ _ (by omega)]
     simp[cf,h3,h7,GD,hi,mR,zz,D9]
   .rintro o fr hp hn ⟨rfl,cf,h7⟩;simp[cf,h7]
def Jc :List Ch->Int->Int
 | [],b=>b
 |c::l,b=>if 0<=b then Jc l (sQ c.v (b-3-(c.name.size:Int)/50) 12)else b
def zC(l:List Ch)(b:Int)(i:Nat):Int:=Jc (l.drop i) b
def Qx(l:List Ch)(b:Int)(i:Nat)(h:l.length<=i):zC l b i=b:=by unfold zC;rw[Zt h,Jc]
def Qy(l:List Ch)(b:Int)(i:Nat)(h:b<0):zC l b i=b:=by
 unfold zC;cases l.drop i with
 |nil=>rw[Jc]
 |cons x xs=>rw[Jc,cm (by omega)]
def LL{l:List Ch}{i:Nat}{c:Ch}{b:Int}(h:l[i]?=some c)(hb:0<=b):zC l b i=zC l (sQ c.v (b-3-(c.name.size:Int)/50) 12) (i+1):=by
 obtain⟨k,e⟩:=Za.1 h;unfold zC;rw[Zm k,e,Jc,cq hb]
def nS(l:List Ch):Bool:=decide (0<=Jc l 80) && decide (l.length<=20)
def NI(N D:Nat)(b:Bool)(l:List Ch)(z:Bool)(h:Hp)(hl:l.length<=1000000000000000)(hb:∀c∈l,gS c.v<=D/\jK c.v/\c.name.size<=1000000000000000):
 ch cx (N+D+2) b 6 [.ls 10 (sJ l) z,(20:Int)] h=some (.sc (.bool (nS l)),h):=by
 refine eR (n:=N+D+1) f6 [.tmp 4] rfl rfl ?_ b h;have hq:=oK l;have hg:=FH l;have hw0:=λ(x:Ch)(hx:x∈l)(c:Int)(h1:0<=c)(h2:c<=2000)b h=>DY D x.v (hb x hx).1 (hb x hx).2.1 N (c-3-(x.name.size:Int)/50) 12 (by have:=(hb x hx).2.2;omega) (by omega) (by omega) (by omega) b h
 generalize N+D+1=M at hw0|-;unfold nS;generalize hT:Jc l 80=T;generalize sJ l=cg at hq hg;have e80:cS .i64 80=80:=cu (by omega) (by omega);simp[f6,e80];generalize gU:M (.loop _) _=XX;refine pU gU
  (λi st _=>∃c:Int,T=zC l c i/\c<=2000/\st.length=43/\gt st 0= .ls 10 cg z/\gt st 1=(20:Int)/\gt st 5=c/\gt st 6=i)
  (λo s _=>o= .exit 0/\s.length=43/\gt s 0= .ls 10 cg z/\gt s 1=(20:Int)/\gt s 5=T) l.length (by simp;omega) ⟨80,hT.symm,by omega,by simp⟩ ?_ ?_
 .clear gU XX hT;rintro i fr hp da ⟨c,hT,hc,cf,h0,h1,h5,h6⟩;rcases jr hg da with⟨x,hi,hx,hr,cz⟩|rfl
  .have tY:=Zi hx;by_cases kK:0<=c
   .have hw:=hw0 x tY c kK hc;have Di:=(hb x tY).2.2;have hf:=cG (Yp da hl);have e2:cS .i64 ((x.name.size:Int)/50)=(x.name.size:Int)/50:=cu (by omega) (by omega);have e4:cS .i64 (c-3)=c-3:=cu (by omega) (by omega);have e3:cS .i64 (c-3-(x.name.size:Int)/50)=c-3-(x.name.size:Int)/50:=cu (by omega) (by omega);have dq:=LL hx kK;have pS:=xu x.v (c-3-(x.name.size:Int)/50) 12 (by omega);rw[<-hT]at dq;clear hw0 hb hT;obtain⟨ck,ca,cb,cc,nm,v⟩:=x;dsimp only at hw e2 e3 dq pS;generalize sQ _ _ _=W at hw dq pS;have CW:(enc v).take 5=enc v:=Xa (by rw[dB];exact Xc _);have ni:(enc v).length=5:=dB v;unfold cB at hr cz;simp only at hr cz;generalize enc v=ev at *;simp[cf,h0,h1,h5,h6,hi,hq,cz,kK,hw,hf,e2,e3,e4,CW,ni];exact⟨dq,pS⟩
   .have zz:T=c:=by rw[hT,Qy _ _ _ (by omega)]
    simp[cf,h0,h1,h5,h6,hi,hq,kK,zz]
  .have zz:T=c:=by rw[hT,Qx _ _ _ (Xc _)]
   simp[cf,h0,h1,h5,h6,hq,zz]
 .rintro o fr hp rfl ⟨rfl,cf,h0,h1,h5⟩;by_cases c0:0<=T
  .by_cases c1:l.length<=20
   .have yE:(l.length:Int)<=20:=by omega
    simp[cf,h0,h1,h5,c0,c1,yE,hq]
   .have yE:¬(l.length:Int)<=20:=by omega
    simp[cf,h0,h1,h5,c0,c1,yE,hq]
  .simp[cf,h5,c0]
end
section
attribute [local simp] cn eD
noncomputable def Dr :Code:=(f3.body).getD .skip
def adU :Dr= .seq (cL Dr) (.seq (cL (cT 1 Dr)) (.seq (cL (cT 2 Dr)) (.seq (cL (cT 3 Dr)) (cT 4 Dr)))):=by kernel_rfl
def TX4(r:Option (Out × St)):Prop:=∃h',dL [.tmp 4] r=some ((true:AV),h')
def XE(P:St->Prop)(r:Option (Out × St)):Prop:=match r with
 |some (.ret,s)=>gt s.1 4=true
 |some (.normal,s)=>P s
 |_=>False
def NJ(P:St->Prop)(s:St):XE P (some (.normal,s))=P s:=rfl
def Ev(P:St->Prop)(s:St):XE P (some (.ret,s))=(gt s.1 4=true):=rfl
def Gd{P P':St->Prop}{r:Option (Out × St)}(h:XE P r)(hp:∀s,P s->P' s):XE P' r:=by
 unfold XE at *;split at h
 .exact h
 .exact hp _ h
 .exact h.elim
def Ge{K:Bool->FuncId->LA->Hp->Option (AV × Hp)}{A B:Code}{s:St}(h:XE (λs'=>TX4 (cO cx K B s')) (cO cx K A s)):TX4 (cO cx K (.seq A B) s):=by
 unfold XE at h;rw[cO];split at h
 .rename_i s' e;rw[e];refine⟨s'.2,?_⟩;show dL [.tmp 4] (some (.ret,s'))=_;unfold dL;simp only[Vu];show(some (gt s'.1 4)).map (λr=>(r,s'.2))=_;rw[h];rfl
 .rename_i s' e;rw[e];exact h
 .exact h.elim
def Ac(vv nr er ui sU:List LA)(bs nn ne nx:Int):LA:=[.ls 6 vv false,.sc (.int .i64 bs),.ls 3 nr false,.ls 5 er false,.sc (.int .i64 nn),.sc (.int .i64 ne),.ls 2 ui false,.ls 4 sU false,.sc (.int .i64 nx)]
def adV(m:Mg):qZ m=Ac (sR m.rl) (f_ m.hi.g.nodes) (fV m.hi.g.cj) (oU m.hi.l) (Ab m.op) m.hi.b m.hi.g.nn m.hi.g.ne m.nx:=rfl
structure Sj (row:LA)(id:Int)(s:St):Prop where
 len:s.1.length=101
 one:gt s.1 1=id
 two:gt s.1 2= .pt 0 0
 h0:At s.2 0 (.row row)
section walk
variable (K : Bool -> FuncId -> LA -> Hp -> Option (AV × Hp))
def aat(vv nr er ui sU:List LA)(bs nn ne nx id e c:Int)(ga gb:List LA)(gn ge:Int)(s:St)(hs:Sj (Ac vv nr er ui sU bs nn ne nx) id s)(hl:∀t h,K t 5 [] h=some ((true:AV),h))(h1:∀t h,K t 7 [.ag (Ac vv nr er ui sU bs nn ne nx),id] h=some (.tp [.ag [.ls 3 ga false,.ls 5 gb false,gn,ge],e],h))(h2:∀t h,K t 8 [.ag (Ac vv nr er ui sU bs nn ne nx),id] h=some (.tp [.ag [.ls 3 ga false,.ls 5 gb false,gn,ge],e],h))(h3:∀t h,K t 9 [.ag (Ac vv nr er ui sU bs nn ne nx)] h=some ((c:AV),h))(h4:∀t h,K t 10 [.ag (Ac vv nr er ui sU bs nn ne nx)] h=some ((c:AV),h))(h5:∀t h,K t 11 [.ag [.ls 3 ga false,.ls 5 gb false,gn,ge],.ag [.ls 3 ga false,.ls 5 gb false,gn,ge]] h=some ((true:AV),h)):TX4 (cO cx K (cT 4 Dr) s):=by
 obtain⟨fr,hp⟩:=s;obtain⟨cf,g1,g2,db⟩:=hs;simp only at cf g1 g2 db;have l0:=db.lt;have a0:=db.fh;have oO:∀kz,hp[0]'kz= .row (Ac vv nr er ui sU bs nn ne nx):=λkz=>db.get kz
 have uV:∀y',(hp++y')[0]?=some (.row (Ac vv nr er ui sU bs nn ne nx)):=λy'=>(db.app y').fh
 have jH:∀y' kz,(hp++y')[0]'kz= .row (Ac vv nr er ui sU bs nn ne nx):=λy' kz=>(db.app y').get kz
 unfold Ac at *;unfold TX4;simp[Dr,cT,cR,f3,cf,g1,g2,oO,jH,l0,hl,h1,h2,h3,h4,h5]
def ajp(vv nr er ui sU:List LA)(bs nn ne nx id:Int):∃s',cO cx K (cL Dr) ([.ag (Ac vv nr er ui sU bs nn ne nx),.sc (.int .i64 id)]++List.replicate 99 .un,[])=some (.normal,s')/\Sj (Ac vv nr er ui sU bs nn ne nx) id s':=by
 unfold Ac;simp[Dr,cL,f3];exact⟨by simp,by simp,by simp,rfl⟩
def ajq(vv nr er ui sU:List LA)(bs nn ne nx id:Int)(w:Bool)(s:St)(hs:Sj (Ac vv nr er ui sU bs nn ne nx) id s)(hl:∀t h,K t 5 [] h=some ((true:AV),h))(hS:∀t h,K t 4 [.ag [.ls 3 nr false,.ls 5 er false,nn,ne],(6:Int),(8:Int)] h=some ((w:AV),h)):
 XE (λs'=>Sj (Ac vv nr er ui sU bs nn ne nx) id s'/\ui.length<=10/\sU.length<=20/\vv.length<=50) (cO cx K (cL (cT 1 Dr)) s):=by
 obtain⟨fr,hp⟩:=s;obtain⟨cf,g1,g2,db⟩:=hs;simp only at cf g1 g2 db;have l0:=db.lt;have a0:=db.fh;have oO:∀kz,hp[0]'kz= .row (Ac vv nr er ui sU bs nn ne nx):=λkz=>db.get kz
 unfold Ac at *;cases w
 .simp[Dr,cT,cR,cL,f3,cf,g2,oO,l0,hl,hS,Ev]
 by_cases c1:ui.length<=10
 rotate_left
 .have yE:(10:Int)< (ui.length:Int):=by omega
  simp[Dr,cT,cR,cL,f3,cf,g2,oO,l0,hl,hS,yE,Ev]
 have yE:¬(10:Int)< (ui.length:Int):=by omega
 by_cases c2:sU.length<=20
 rotate_left
 .have ye:(20:Int)< (sU.length:Int):=by omega
  simp[Dr,cT,cR,cL,f3,cf,g2,oO,l0,hl,hS,yE,ye,Ev]
 have ye:¬(20:Int)< (sU.length:Int):=by omega
 by_cases c3:vv.length<=50
 rotate_left
 .have En:(50:Int)< (vv.length:Int):=by omega
  simp[Dr,cT,cR,cL,f3,cf,g2,oO,l0,hl,hS,yE,ye,En,Ev]
 have En:¬(50:Int)< (vv.length:Int):=by omega
 simp[Dr,cT,cR,cL,f3,cf,g2,oO,l0,hS,yE,ye,En,NJ];exact⟨⟨by simp[cf],by simp[g1],by simp[g2],db⟩,c1,c2,c3⟩
def ajr(vv nr er ui sU:List LA)(bs nn ne nx id:Int)(l:List Cm)(s:St)(hs:Sj (Ac vv nr er ui sU bs nn ne nx) id s)(hl:∀t h,K t 5 [] h=some ((true:AV),h))(hq:ui.length=l.length)(jc:∀i:Nat,ui[i]?=(l[i]?).map jM)(lN:l.length<=10)(hF:∀c∈l,∀t h,K t 6 [.ls 10 (sJ c.cs) false,(20:Int)] h=some (.sc (.bool (nS c.cs)),h)):
 XE (λs'=>Sj (Ac vv nr er ui sU bs nn ne nx) id s'/\∀c∈l,nS c.cs=true) (cO cx K (cL (cT 2 Dr)) s):=by
 obtain⟨fr,hp⟩:=s;obtain⟨cf,g1,g2,db⟩:=hs;simp only at cf g1 g2 db;have l0:=db.lt;have a0:=db.fh;have oO:∀kz,hp[0]'kz= .row (Ac vv nr er ui sU bs nn ne nx):=λkz=>db.get kz
 generalize fG:(Ac vv nr er ui sU bs nn ne nx)=row at *;have hr6:row[6]?=some (.ls 2 ui false):=by rw[<-fG];rfl
 have ajs:=fT hr6;have vp:row.length=9:=by rw[<-fG];rfl
 clear fG;simp[Dr,cT,cR,cL,f3,cf,g2,oO,l0,ajs,vp,hq];generalize gU:cO cx K (.loop _) _=XX;refine UD gU
  (λi s=>Sj row id s/\gt s.1 40= .ls 2 ui false/\gt s.1 41=l.length/\gt s.1 42=i/\∀c∈l.take i,nS c.cs=true)
  (λo s=>(o= .exit 0/\Sj row id s/\∀c∈l,nS c.cs=true)\/(o= .ret/\gt s.1 4=true)) l.length (by simp;omega)
  ⟨⟨by simp[cf],by simp[g1],by simp[g2],db⟩,by simp[cf]⟩ ?_ ?_
 .clear gU XX cf g1 g2 a0 oO l0 db;rintro i fr hp da ⟨⟨cf,g1,g2,db⟩,g40,XF,XG,Bp⟩;simp only at cf g1 g2 db g40 XF XG;rcases jr jc da with⟨c,hi,hx,hr,cz⟩|rfl
  .have hf:=cG (i:=i) (by omega);have hF:=hF c (Zi hx);have an:∀y',(hp++[y'])[hp.length]?=some y':=λy=>by simp
   have jm:∀y' kz,(hp++[y'])[hp.length]'kz=y':=λy k=>by simp
   have dq:nS c.cs=true->∀c∈l.take (i+1),nS c.cs=true:=λh=>by
    rw[jk hx];intro c' kK;rcases Zz.1 kK with h1|h1
    .exact Bp c' h1
    .rw[List.mem_singleton.1 h1];exact h
   unfold jM at hr cz;generalize nS c.cs=q at hF dq;generalize sJ c.cs=cr at hr cz hF;cases q
   .simp[cf,g40,XF,XG,hi,hq,cz,jm,hF,hl]
   .simp[cf,g40,XF,XG,hi,hq,cz,jm,hF,hf];exact⟨⟨by simp[cf],by simp[g1],by simp[g2],db.app _⟩,dq rfl⟩
  .rw[Xx]at Bp;simp[cf,XF,XG];exact⟨⟨by simp[cf],by simp[g1],by simp[g2],db⟩,Bp⟩
 .rintro o gO h' rfl (⟨rfl,hs,Bp⟩|⟨rfl,h4⟩)
  .simp[NJ];exact⟨hs,Bp⟩
  .simp[Ev];exact h4
def ajt(vv nr er ui sU:List LA)(bs nn ne nx id:Int)(l:List Tx)(s:St)(hs:Sj (Ac vv nr er ui sU bs nn ne nx) id s)(hl:∀t h,K t 5 [] h=some ((true:AV),h))(hq:sU.length=l.length)(jc:∀i:Nat,sU[i]?=(l[i]?).map jb)(lN:l.length<=20)(hF:∀c∈l,∀t h,K t 6 [.ls 10 (sJ c.cs) false,(20:Int)] h=some (.sc (.bool (nS c.cs)),h)):
 XE (λs'=>Sj (Ac vv nr er ui sU bs nn ne nx) id s'/\∀c∈l,nS c.cs=true) (cO cx K (cL (cT 3 Dr)) s):=by
 obtain⟨fr,hp⟩:=s;obtain⟨cf,g1,g2,db⟩:=hs;simp only at cf g1 g2 db;have l0:=db.lt;have a0:=db.fh;have oO:∀kz,hp[0]'kz= .row (Ac vv nr er ui sU bs nn ne nx):=λkz=>db.get kz
 generalize fG:(Ac vv nr er ui sU bs nn ne nx)=row at *;have hr7:row[7]?=some (.ls 4 sU false):=by rw[<-fG];rfl
 have Qr:=fT hr7;have vp:row.length=9:=by rw[<-fG];rfl
 clear fG;simp[Dr,cT,cR,cL,f3,cf,g2,oO,l0,Qr,vp,hq];generalize gU:cO cx K (.loop _) _=XX;refine UD gU
  (λi s=>Sj row id s/\gt s.1 53= .ls 4 sU false/\gt s.1 54=l.length/\gt s.1 55=i/\∀c∈l.take i,nS c.cs=true)
  (λo s=>(o= .exit 2/\Sj row id s/\∀c∈l,nS c.cs=true)\/(o= .ret/\gt s.1 4=true)) l.length (by simp;omega)
  ⟨⟨by simp[cf],by simp[g1],by simp[g2],db⟩,by simp[cf]⟩ ?_ ?_
 .clear gU XX cf g1 g2 a0 oO l0 db;rintro i fr hp da ⟨⟨cf,g1,g2,db⟩,g40,XF,XG,Bp⟩;simp only at cf g1 g2 db g40 XF XG;rcases jr jc da with⟨c,hi,hx,hr,cz⟩|rfl
  .have hf:=cG (i:=i) (by omega);have hF:=hF c (Zi hx);have an:∀y',(hp++[y'])[hp.length]?=some y':=λy=>by simp
   have jm:∀y' kz,(hp++[y'])[hp.length]'kz=y':=λy k=>by simp
   have dq:nS c.cs=true->∀c∈l.take (i+1),nS c.cs=true:=λh=>by
    rw[jk hx];intro c' kK;rcases Zz.1 kK with h1|h1
    .exact Bp c' h1
    .rw[List.mem_singleton.1 h1];exact h
   obtain⟨tid,st,rd,cs⟩:=c;unfold jb at hr cz;simp only at hr cz hF dq;generalize nS cs=q at hF dq;generalize sJ cs=cr at hr cz hF;cases q
   .simp[cf,g40,XF,XG,hi,hq,cz,jm,hF,hl]
   by_cases c2:rd.length<=20
   .have ye:¬(20:Int)< (rd.length:Int):=by clear hf;omega
    simp[cf,g40,XF,XG,hi,hq,cz,jm,hF,hf,ye];exact⟨⟨by simp[cf],by simp[g1],by simp[g2],db.app _⟩,dq rfl⟩
   .have ye:(20:Int)< (rd.length:Int):=by clear hf;omega
    simp[cf,g40,XF,XG,hi,hq,cz,jm,hF,hl,ye]
  .rw[Xx]at Bp;simp[cf,XF,XG];exact⟨⟨by simp[cf],by simp[g1],by simp[g2],db⟩,Bp⟩
 .rintro o gO h' rfl (⟨rfl,hs,Bp⟩|⟨rfl,h4⟩)
  .simp[NJ];exact⟨hs,Bp⟩
  .simp[Ev];exact h4
def adW(m:Mg)(id:Int)(w:Bool)(hl:∀t h,K t 5 [] h=some ((true:AV),h))(hS:∀t h,K t 4 [.ag (cl m.hi.g),(6:Int),(8:Int)] h=some ((w:AV),h))(hF:∀c∈m.hi.l,∀t h,K t 6 [.ls 10 (sJ c.cs) false,(20:Int)] h=some (.sc (.bool (nS c.cs)),h))(hT:∀c∈m.op,∀t h,K t 6 [.ls 10 (sJ c.cs) false,(20:Int)] h=some (.sc (.bool (nS c.cs)),h))(mr:m.hi.l.length<=10->m.op.length<=20->m.rl.length<=50->(∀c∈m.hi.l,nS c.cs=true)->(∀c∈m.op,nS c.cs=true)->∃(G:Gr)(e c:Int),
  (∀t h,K t 7 [uX m,id] h=some (.tp [.ag (cl G),e],h))/\
  (∀t h,K t 8 [uX m,id] h=some (.tp [.ag (cl G),e],h))/\
  (∀t h,K t 9 [uX m] h=some ((c:AV),h))/\
  (∀t h,K t 10 [uX m] h=some ((c:AV),h))/\
  ∀t h,K t 11 [.ag (cl G),.ag (cl G)] h=some ((true:AV),h)):
 TX4 (cO cx K Dr ([uX m,.sc (.int .i64 id)]++List.replicate 99 .un,[])):=by
 unfold uX at *;rw[adV]at *;rw[adU];obtain⟨s0,e0,h0⟩:=ajp K (sR m.rl) (f_ m.hi.g.nodes) (fV m.hi.g.cj) (oU m.hi.l) (Ab m.op) m.hi.b m.hi.g.nn m.hi.g.ne m.nx id;refine Ge ?_;rw[e0,NJ];refine Ge (Gd (ajq K _ _ _ _ _ _ _ _ _ id w s0 h0 hl hS) ?_);rintro s1 ⟨h1,c1,c2,c3⟩;rw[gl]at c1;rw[kp]at c2;rw[kX]at c3;refine Ge (Gd (ajr K _ _ _ _ _ _ _ _ _ id m.hi.l s1 h1 hl (gl _) (uW _) c1 hF) ?_);rintro s2 ⟨h2,af⟩;refine Ge (Gd (ajt K _ _ _ _ _ _ _ _ _ id m.op s2 h2 hl (kp _) (sf _) c2 hT) ?_);rintro s3 ⟨h3,ah⟩;obtain⟨G,e,c,q1,q2,q3,q4,q5⟩:=mr c1 c2 c3 af ah;exact aat K _ _ _ _ _ _ _ _ _ id e c (f_ G.nodes) (fV G.cj) G.nn G.ne s3 h3 hl q1 q2 q3 q4 q5
end walk
end
end Go.Proofs.YtmfohnojaginjaaGreatDoor
namespace Go.Ae
open Go
def Vv(C:Cx)(T:FuncId->List AV->Option AV):Cx:={C with ux:=λf xs=>match T f xs with|some r=>some r|none=>C.ux f xs}
def NK(C:Cx)(T:FuncId->List AV->Option AV)(ops:Array Oper):rok (Vv C T) ops=rok C ops:=rfl
def Qz(C:Cx)(T:FuncId->List AV->Option AV)(ops:Array Oper)(c d:Nat):Ck (Vv C T) ops c d=Ck C ops c d:=rfl
def LM(C:Cx)(T:FuncId->List AV->Option AV):∀c:Code,codeOk (Vv C T) c=codeOk C c:=by
 intro c
 induction c with
 |region i ops m=>
  cases m
  .simp only[codeOk,NK]
  .simp only[codeOk,NK,Qz];rfl
 |_=>simp_all only[codeOk]
def pL.more{C:Cx}(h:pL C)(T:FuncId->List AV->Option AV)(hT:∀f xs r,T f xs=some r->iG C f xs r):pL (Vv C T):={
 base:={jI:=h.base.jI,mixed:=h.base.mixed,types:=h.base.types,Vw:=λf fi hf=>by rw[LM];exact h.base.Vw f fi hf}
 Ss:=λg T' e=>h.Ss g T' e
 oW:=λf g kt e=>h.oW f g kt e
 ux:=λf xs r e=>by
  have e':(match T f xs with|some r=>some r|none=>C.ux f xs)=some r:=e;split at e'
  .rename_i r' hr;cases e';exact hT f xs _ hr
  .exact h.ux f xs r e'
 ins:=λf sz tu e=>h.ins f sz tu e
 nf:=λf w X v r e=>h.nf f w X v r e}
def zD{C:Cx}(hC:pL C){n:Nat}{T:FuncId->List AV->Option AV}(hT:∀f xs r,T f xs=some r->xs.all dk=true/\iG C f xs r){f:FuncId}{xs:List AV}{h':Hp}{r0 r:AV}(hb:om C (λb g ys h=>match T g ys with|some q=>some (q,h)|none=>ch C n b g ys h) f xs []=some (r0,h')){m:Nat}(gw:cD h' m r0=some r):iG C f xs r:=by
 refine sC hC.base (λb g ys h r h' hc w X ρ vs hs hl hv=>?_) (λg ys h r h' hi hc=>?_) hb gw
 .split at hc
  .rename_i q hq;cases hc;obtain⟨vE,hp⟩:=hT g ys _ hq;rw[Yt]at vE;obtain⟨p1,p2⟩:=hp w (dK X ρ h) vs (λb hb=>hb.elim (hs.GA b) λ⟨i,hi,e⟩=>e▸hs.lt hi) hs.s8 (by omega) (λk y hk=>AJ (hv k y hk) (vE _ (Zi hk)));exact⟨p1,p2.mono λe w' ⟨v,he,dq,Kb⟩=>⟨ρ,lF hs dq,.inl ⟨v,he,.im Kb⟩⟩⟩
  .exact(gW hC n).1 b g ys h r h' hc w X ρ vs hs hl hv
 .split at hc
  .cases hc;rfl
  .exact(gW hC n).2 g ys h r h' hi hc
def QA :List (FuncId × List AV × AV)->FuncId->List AV->Option AV
 | [],_,_=>none
 |(g,ys,r)::t,f,xs=>if f=g then(if gY xs ys then some r else QA t f xs)else QA t f xs
def NL{C:Cx}:∀{L:List (FuncId × List AV × AV)},(∀e∈L,iG C e.1 e.2.1 e.2.2)->∀f xs r,QA L f xs=some r->iG C f xs r
 | [],_,f,xs,r,e=>by simp[QA]at e
 |
  (g,ys,r0)::t,h,f,xs,r,e=>by
  have ht:=NL (L:=t) (λx hx=>h x (List.mem_cons_of_mem _ hx)) f xs r;unfold QA at e;split at e
  .rename_i hf;split at e
   .rename_i hx;cases e;have h0:=h _ (List.mem_cons_self ..);rw[hf,i_ hx];exact h0
   .exact ht e
  .exact ht e
noncomputable def runK(C:Cx)(f:FuncId)(xs:List AV):Option AV:=match om C (ch C 90) f xs []with
 |some (r0,h')=>(cD h' 8 r0).map (C.nf f)
 |none=>none
def j8{C:Cx}(hC:pL C){f:FuncId}{xs:List AV}{r:AV}(h:runK C f xs=some r):iG C f xs r:=by
 unfold runK at h;split at h
 .rename_i r0 h' hb;obtain⟨r2,vY,rfl⟩:=Ze.1 h;have hp:=Jd hC hb vY;exact λw X vs h1 h2 h3 h4=>⟨(hp w X vs h1 h2 h3 h4).1,(hp w X vs h1 h2 h3 h4).2.mono λe w' ⟨v,he,dq,Kb⟩=>⟨v,he,dq,hC.nf f w' X v _ Kb⟩⟩
 .cases h
end Go.Ae
