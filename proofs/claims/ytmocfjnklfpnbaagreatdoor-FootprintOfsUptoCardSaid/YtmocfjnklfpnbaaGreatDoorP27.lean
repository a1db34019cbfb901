/- Part of the proof. -/
import Derived.Test.YtmocfjnklfpnbaaGreatDoorP26
set_option linter.all false
set_option maxHeartbeats 32000000
set_option maxRecDepth 100000
namespace Go.Proofs.YtmocfjnklfpnbaaGreatDoor
open Go Go.Ae Go.Proofs.Tryz
section
attribute [local simp] ew eY
noncomputable def nJ :Code:=(f157.body).getD .skip
def PU(r:Option (Out × St))(w:Bool):Prop:=∃h',dT [.tmp 2] r=some ((w:AV),h')
section
variable (M : Nat) (kd : Int) (op ds : Bool) (r1 r2 : List LA) (a0 a1 a2 a3 a4 a5 a6 a7 a8 : AV) (nm : ByteArray) (r3 r4 : List LA) (sk li : Int) (r5 r6 : List LA) (wi ze en : Bool) (z1 z2 z3 z4 z5 z6 : Int)
def SU(row:LA)(kd:Int)(wi:Bool)(fr:LA)(h:Hp):Prop:=fr.length=114/\gt fr 1= .pt 0 0/\gt fr 3=kd/\gt fr 4=wi/\h[0]?=some (.row row)
def ahV(q5:(r5.length:Int)=z5)(q6:(r6.length:Int)=z6)(fr:LA)(h:Hp)(hS:SU (ie kd op ds r1 r2 a0 a1 a2 a3 a4 a5 a6 a7 a8 nm r3 r4 sk li r5 r6) kd wi fr h):
 PU (M (cT 8 nJ) (fr,h)) ((decide (z5=0)||decide (kd=7)) && (decide (z6=0)||decide (kd=8))):=by
 obtain⟨cp,g1,g3,g4,hh⟩:=hS;unfold ie at hh;unfold PU;by_cases c1:z5=0
 .by_cases c2:z6=0
  .simp[nJ,cT,cR,f157,cp,g1,hh,q5,q6,c1,c2]
  .by_cases c3:kd=8<;>simp[nJ,cT,cR,f157,cp,g1,g3,hh,q5,q6,c1,c2,c3]
 .by_cases c2:kd=7
  .subst c2;by_cases c3:z6=0<;>simp[nJ,cT,cR,f157,cp,g1,g3,hh,q5,q6,c1,c3]
  .simp[nJ,cT,cR,f157,cp,g1,g3,hh,q5,c1,c2]
def ahW(q3:(r3.length:Int)=z3)(q4:(r4.length:Int)=z4)(V:Bool)(Z:Code)(hZ:∀fr h,SU (ie kd op ds r1 r2 a0 a1 a2 a3 a4 a5 a6 a7 a8 nm r3 r4 sk li r5 r6) kd wi fr h->PU (M Z (fr,h)) V)(fr:LA)(h:Hp)(hS:SU (ie kd op ds r1 r2 a0 a1 a2 a3 a4 a5 a6 a7 a8 nm r3 r4 sk li r5 r6) kd wi fr h):
 PU (M (.seq (cL (cT 7 nJ)) Z) (fr,h)) (!(!wi && (decide (0<z3)||(decide (0<z4)||(decide (0<sk)||decide (0<li))))) && V):=by
 obtain⟨cp,g1,g3,g4,hh⟩:=hS;have fin:∀fr,fr.length=114->gt fr 1= .pt 0 0->gt fr 3= .sc (.int .i64 kd)->gt fr 4= .sc (.bool wi)->PU (M Z (fr,h)) V:=λfr a b c d=>hZ fr h ⟨a,b,c,d,hh⟩
 clear hZ;unfold ie at hh;cases wi
 rotate_left
 .simp[nJ,cT,cR,cL,f157,cp,g4];exact fin _ (by simp[cp]) (by simp[g1]) (by simp[g3]) (by simp[g4])
 by_cases c1:0<z3
 .simp[nJ,cT,cR,cL,f157,cp,g1,g4,hh,q3,c1,PU]
 by_cases c2:0<z4
 .simp[nJ,cT,cR,cL,f157,cp,g1,g4,hh,q3,q4,c1,c2,PU]
 by_cases c3:0<sk
 .simp[nJ,cT,cR,cL,f157,cp,g1,g4,hh,q3,q4,c1,c2,c3,PU]
 by_cases c4:0<li
 .simp[nJ,cT,cR,cL,f157,cp,g1,g4,hh,q3,q4,c1,c2,c3,c4,PU]
 simp[nJ,cT,cR,cL,f157,cp,g1,g4,hh,q3,q4,c1,c2,c3,c4];exact fin _ (by simp[cp]) (by simp[g1]) (by simp[g3]) (by simp[g4])
def ahX(fz:∀b h,cu cx M b 230 [.ag [a0,a1,a2,a3,a4,a5,a6,a7,a8]] h=some ((ze:AV),h))(hen:dn nm ⟨#[]⟩=en)(V:Bool)(Z:Code)(hZ:∀fr h,SU (ie kd op ds r1 r2 a0 a1 a2 a3 a4 a5 a6 a7 a8 nm r3 r4 sk li r5 r6) kd wi fr h->PU (M Z (fr,h)) V)(fr:LA)(h:Hp)(hS:SU (ie kd op ds r1 r2 a0 a1 a2 a3 a4 a5 a6 a7 a8 nm r3 r4 sk li r5 r6) kd wi fr h):
 PU (M (.seq (cL (cT 6 nJ)) Z) (fr,h)) (!(!decide (kd=2) && (!ze|| !en)) && V):=by
 obtain⟨cp,g1,g3,g4,hh⟩:=hS;have fin:∀fr,fr.length=114->gt fr 1= .pt 0 0->gt fr 3= .sc (.int .i64 kd)->gt fr 4= .sc (.bool wi)->PU (M Z (fr,h)) V:=λfr a b c d=>hZ fr h ⟨a,b,c,d,hh⟩
 clear hZ;unfold ie at hh;by_cases c1:kd=2
 .subst c1;simp[nJ,cT,cR,cL,f157,cp,g3];exact fin _ (by simp[cp]) (by simp[g1]) (by simp[g3]) (by simp[g4])
 cases ze
 .simp[nJ,cT,cR,cL,f157,cp,g1,g3,hh,c1,fz,PU]
 cases en
 .simp[nJ,cT,cR,cL,f157,cp,g1,g3,hh,c1,fz,hen,PU]
 simp[nJ,cT,cR,cL,f157,cp,g1,g3,hh,c1,fz,hen];exact fin _ (by simp[cp]) (by simp[g1]) (by simp[g3]) (by simp[g4])
def ahY(q2:(r2.length:Int)=z2)(V:Bool)(Z:Code)(hZ:∀fr h,SU (ie kd op ds r1 r2 a0 a1 a2 a3 a4 a5 a6 a7 a8 nm r3 r4 sk li r5 r6) kd wi fr h->PU (M Z (fr,h)) V)(fr:LA)(h:Hp)(hS:SU (ie kd op ds r1 r2 a0 a1 a2 a3 a4 a5 a6 a7 a8 nm r3 r4 sk li r5 r6) kd wi fr h):
 PU (M (.seq (cL (cT 5 nJ)) Z) (fr,h)) (!(decide (0<z2) && (!decide (kd=1) && !decide (kd=3))) && V):=by
 obtain⟨cp,g1,g3,g4,hh⟩:=hS;have fin:∀fr,fr.length=114->gt fr 1= .pt 0 0->gt fr 3= .sc (.int .i64 kd)->gt fr 4= .sc (.bool wi)->PU (M Z (fr,h)) V:=λfr a b c d=>hZ fr h ⟨a,b,c,d,hh⟩
 clear hZ;unfold ie at hh;by_cases c0:0<z2
 .by_cases c1:kd=1
  .subst c1;simp[nJ,cT,cR,cL,f157,cp,g1,g3,hh,q2,c0];exact fin _ (by simp[cp]) (by simp[g1]) (by simp[g3]) (by simp[g4])
  by_cases c3:kd=3
  .subst c3;simp[nJ,cT,cR,cL,f157,cp,g1,g3,hh,q2,c0];exact fin _ (by simp[cp]) (by simp[g1]) (by simp[g3]) (by simp[g4])
  simp[nJ,cT,cR,cL,f157,cp,g1,g3,hh,q2,c0,c1,c3,PU]
 .simp[nJ,cT,cR,cL,f157,cp,g1,hh,q2,c0];exact fin _ (by simp[cp]) (by simp[g1]) (by simp[g3]) (by simp[g4])
def ahZ(q1:(r1.length:Int)=z1)(V:Bool)(Z:Code)(hZ:∀fr h,SU (ie kd op ds r1 r2 a0 a1 a2 a3 a4 a5 a6 a7 a8 nm r3 r4 sk li r5 r6) kd wi fr h->PU (M Z (fr,h)) V)(fr:LA)(h:Hp)(hS:SU (ie kd op ds r1 r2 a0 a1 a2 a3 a4 a5 a6 a7 a8 nm r3 r4 sk li r5 r6) kd wi fr h):
 PU (M (.seq (cL (cT 4 nJ)) Z) (fr,h)) (!(decide (0<z1) && (!decide (kd=1) && (!decide (kd=5) && !decide (kd=6)))) && V):=by
 obtain⟨cp,g1,g3,g4,hh⟩:=hS;have fin:∀fr,fr.length=114->gt fr 1= .pt 0 0->gt fr 3= .sc (.int .i64 kd)->gt fr 4= .sc (.bool wi)->PU (M Z (fr,h)) V:=λfr a b c d=>hZ fr h ⟨a,b,c,d,hh⟩
 clear hZ;unfold ie at hh;by_cases c0:0<z1
 .by_cases c1:kd=1
  .subst c1;simp[nJ,cT,cR,cL,f157,cp,g1,g3,hh,q1,c0];exact fin _ (by simp[cp]) (by simp[g1]) (by simp[g3]) (by simp[g4])
  by_cases c5:kd=5
  .subst c5;simp[nJ,cT,cR,cL,f157,cp,g1,g3,hh,q1,c0];exact fin _ (by simp[cp]) (by simp[g1]) (by simp[g3]) (by simp[g4])
  by_cases c6:kd=6
  .subst c6;simp[nJ,cT,cR,cL,f157,cp,g1,g3,hh,q1,c0];exact fin _ (by simp[cp]) (by simp[g1]) (by simp[g3]) (by simp[g4])
  simp[nJ,cT,cR,cL,f157,cp,g1,g3,hh,q1,c0,c1,c5,c6,PU]
 .simp[nJ,cT,cR,cL,f157,cp,g1,hh,q1,c0];exact fin _ (by simp[cp]) (by simp[g1]) (by simp[g3]) (by simp[g4])
def ah0(V:Bool)(Z:Code)(hZ:∀fr h,SU (ie kd op ds r1 r2 a0 a1 a2 a3 a4 a5 a6 a7 a8 nm r3 r4 sk li r5 r6) kd wi fr h->PU (M Z (fr,h)) V)(fr:LA)(h:Hp)(hS:SU (ie kd op ds r1 r2 a0 a1 a2 a3 a4 a5 a6 a7 a8 nm r3 r4 sk li r5 r6) kd wi fr h):
 PU (M (.seq (cL (cT 3 nJ)) Z) (fr,h)) (!((op && (!decide (kd=1) && !decide (kd=8)))||(ds && !wi)) && V):=by
 obtain⟨cp,g1,g3,g4,hh⟩:=hS;have fin:∀fr,fr.length=114->gt fr 1= .pt 0 0->gt fr 3= .sc (.int .i64 kd)->gt fr 4= .sc (.bool wi)->PU (M Z (fr,h)) V:=λfr a b c d=>hZ fr h ⟨a,b,c,d,hh⟩
 clear hZ;unfold ie at hh;have hk:op=false\/(op=true/\kd=1)\/(op=true/\kd=8)\/(op=true/\¬kd=1/\¬kd=8):=by
  cases op
  .exact .inl rfl
  .by_cases c1:kd=1
   .exact .inr (.inl ⟨rfl,c1⟩)
   by_cases c8:kd=8
   .exact .inr (.inr (.inl ⟨rfl,c8⟩))
   exact .inr (.inr (.inr ⟨rfl,c1,c8⟩))
 rcases hk with rfl|⟨rfl,rfl⟩|⟨rfl,rfl⟩|⟨rfl,c1,c8⟩
 rotate_right
 .simp[nJ,cT,cR,cL,f157,cp,g1,g3,hh,c1,c8,PU]
 all_goals
  cases ds
  .simp[nJ,cT,cR,cL,f157,cp,g1,g3,hh];exact fin _ (by simp[cp]) (by simp[g1]) (by simp[g3]) (by simp[g4])
  cases wi
  .simp[nJ,cT,cR,cL,f157,cp,g1,g3,g4,hh,PU]
  .simp[nJ,cT,cR,cL,f157,cp,g1,g3,g4,hh];exact fin _ (by simp[cp]) (by simp[g1]) (by simp[g3]) (by simp[g4])
def ah1(V:Bool)(Z:Code)(hZ:∀fr h,SU (ie kd op ds r1 r2 a0 a1 a2 a3 a4 a5 a6 a7 a8 nm r3 r4 sk li r5 r6) kd (decide (kd=3)||decide (kd=4)) fr h->PU (M Z (fr,h)) V)(fr:LA)(cp:fr.length=114)(g0:gt fr 0= .ag (ie kd op ds r1 r2 a0 a1 a2 a3 a4 a5 a6 a7 a8 nm r3 r4 sk li r5 r6)):
 PU (M (.seq (cL (cT 0 nJ)) (.seq (cL (cT 1 nJ)) (.seq (cL (cT 2 nJ)) Z))) (fr,[])) V:=by
 have fin:∀w fr,w=(decide (kd=3)||decide (kd=4))->fr.length=114->gt fr 1= .pt 0 0->gt fr 3= .sc (.int .i64 kd)->gt fr 4= .sc (.bool w)->PU (M Z (fr,[.row (ie kd op ds r1 r2 a0 a1 a2 a3 a4 a5 a6 a7 a8 nm r3 r4 sk li r5 r6)])) V:=λw fr e a b c d=>hZ fr _ ⟨a,b,c,by rw[<-e];exact d,rfl⟩
 clear hZ;unfold ie at g0 fin;by_cases c3:kd=3
 .subst c3;simp[nJ,cT,cR,cL,f157,cp,g0];exact fin true _ rfl (by simp[cp]) (by simp[cp]) (by simp[cp]) (by simp[cp])
 by_cases c4:kd=4
 .subst c4;simp[nJ,cT,cR,cL,f157,cp,g0];exact fin true _ rfl (by simp[cp]) (by simp[cp]) (by simp[cp]) (by simp[cp])
 simp[nJ,cT,cR,cL,f157,cp,g0,c3,c4];exact fin false _ (by simp[c3,c4]) (by simp[cp]) (by simp[cp]) (by simp[cp]) (by simp[cp])
end
def A6(c:Cp):Bool:=
 !((c.opt && (!decide (c.kind=1) && !decide (c.kind=8)))||(c.w_ && !(decide (c.kind=3)||decide (c.kind=4)))) &&
 (!(decide (0< (c.paths.length:Int)) && (!decide (c.kind=1) && (!decide (c.kind=5) && !decide (c.kind=6)))) &&
 (!(decide (0< (c.eu.length:Int)) && (!decide (c.kind=1) && !decide (c.kind=3))) &&
 (!(!decide (c.kind=2) && (!Lf c.e|| !dn c.name ⟨#[]⟩)) &&
 (!(!(decide (c.kind=3)||decide (c.kind=4)) && (decide (0< (c.items.length:Int))||(decide (0< (c.order.length:Int))||(decide (0<c.skip)||decide (0<c.limit))))) &&
 ((decide ((c.sets.length:Int)=0)||decide (c.kind=7)) && (decide ((c.names.length:Int)=0)||decide (c.kind=8)))))))
def J9(n D:Nat)(b:Bool)(c:Cp)(h:Hp)(be:ke D c.e):cu cx (n+3) b 157 [.ag (cA c)] h=some (.sc (.bool (A6 c)),h):=by
 have dL:[AV.ag (cA c)].all calm=true:=by
  have h0:=dR c.e;simp[cA,calm]at h0|-;exact h0
 refine fU f157 [.tmp 2] dL rfl ?_ b h;have fz:=λb h=>Hz n D b c.e h be
 obtain⟨a0,a1,a2,a3,a4,a5,a6,a7,a8,gC⟩:=iK c.e;rw[gC]at fz;have yN:(f157.body).getD .skip= .seq (cL (cT 0 nJ)) (.seq (cL (cT 1 nJ)) (.seq (cL (cT 2 nJ)) (.seq (cL (cT 3 nJ)) (.seq (cL (cT 4 nJ)) (.seq (cL (cT 5 nJ)) (.seq (cL (cT 6 nJ)) (.seq (cL (cT 7 nJ)) (cT 8 nJ)))))))):=by kernel_rfl
 have key:∀r v,PU r v->(dT [.tmp 2] r).map Prod.fst=some (.sc (.bool v)):=λr v ⟨h',e⟩=>by rw[e];rfl
 refine key _ _ ?_;rw[yN,show cA c=ie c.kind c.opt c.w_ (q7 c.paths) (cZ c.eu) a0 a1 a2 a3 a4 a5 a6 a7 a8 c.name (xa c.items) (yZ c.order) c.skip c.limit (y_ c.sets) (eE c.names) by unfold cA ie;rw[gC];rfl];unfold A6;rw[<-iN c.paths,<-cX c.eu,<-iO c.items,<-iP c.order,<-iQ c.sets,<-cI c.names];refine ah1 _ _ _ _ _ _ _ _ _ _ _ _ _ _ _ _ _ _ _ _ _ _ _ _ ?_ _ (by simp) rfl;refine ah0 _ _ _ _ _ _ _ _ _ _ _ _ _ _ _ _ _ _ _ _ _ _ _ _ _ ?_;refine ahZ _ _ _ _ _ _ _ _ _ _ _ _ _ _ _ _ _ _ _ _ _ _ _ _ rfl _ _ ?_;refine ahY _ _ _ _ _ _ _ _ _ _ _ _ _ _ _ _ _ _ _ _ _ _ _ _ rfl _ _ ?_;refine ahX _ _ _ _ _ _ _ _ _ _ _ _ _ _ _ _ _ _ _ _ _ _ _ _ _ fz rfl _ _ ?_;refine ahW _ _ _ _ _ _ _ _ _ _ _ _ _ _ _ _ _ _ _ _ _ _ _ _ _ rfl rfl _ _ ?_;exact ahV _ _ _ _ _ _ _ _ _ _ _ _ _ _ _ _ _ _ _ _ _ _ _ _ _ rfl rfl
def J_(n:Nat)(b:Bool)(c:Cp)(h:Hp):cu cx (n+1) b 158 [.ag (cA c)] h=some (.sc (.bool (!xX c)),h):=by
 have dL:[AV.ag (cA c)].all calm=true:=by
  have h0:=dR c.e;simp[cA,calm]at h0|-;exact h0
 refine fU f158 [.tmp 2] dL rfl ?_ b h;unfold cA xX Gv inC;obtain⟨a0,a1,a2,a3,a4,a5,a6,a7,a8,dH⟩:=iK c.e;rw[dH];have q1:=iN c.paths;have q2:=cX c.eu;have q3:=iO c.items;have q4:=iP c.order;have q5:=iQ c.sets;have q6:=cI c.names;generalize c.kind=kd;generalize q7 c.paths=r1 at q1|-;generalize cZ c.eu=r2 at q2|-;generalize xa c.items=r3 at q3|-;generalize yZ c.order=r4 at q4|-;generalize y_ c.sets=r5 at q5|-;generalize eE c.names=r6 at q6|-;rw[<-q1,<-q2,<-q3,<-q4,<-q5,<-q6];clear q1 q2 q3 q4 q5 q6;generalize q1:(r1.length:Int)=z1,q2:(r2.length:Int)=z2,q3:(r3.length:Int)=z3,q4:(r4.length:Int)=z4,q5:(r5.length:Int)=z5,q6:(r6.length:Int)=z6;rw[show((6:Nat):Int)=6 from rfl,show((16:Nat):Int)=16 from rfl];by_cases k1:kd=1
 .subst k1;by_cases e0:1<=z1
  rotate_left
  .have g0:¬0<z1:=by omega
   simp[f158,q1,e0]
  have g0:0<z1:=by omega
  by_cases e1:z1<=6
  rotate_left
  .have g1:6<z1:=by omega
   simp[f158,q1,e0,e1]
  have g1:¬6<z1:=by omega
  by_cases e2:z2<=1
  rotate_left
  .have g2:1<z2:=by omega
   simp[f158,q1,q2,e0,e1,e2,g2]
  have g2:¬1<z2:=by omega
  simp[f158,q1,q2,e0,e1,e2,g2]
 by_cases k5:kd=5
 .subst k5;by_cases e0:1<=z1
  rotate_left
  .have g0:¬0<z1:=by omega
   simp[f158,q1,e0]
  have g0:0<z1:=by omega
  by_cases e1:z1<=6
  rotate_left
  .have g1:6<z1:=by omega
   simp[f158,q1,e0,e1]
  have g1:¬6<z1:=by omega
  by_cases e2:z2<=1
  rotate_left
  .have g2:1<z2:=by omega
   simp[f158,q1,q2,e0,e1,e2,g2]
  have g2:¬1<z2:=by omega
  simp[f158,q1,q2,e0,e1,e2,g2]
 by_cases k6:kd=6
 .subst k6;by_cases e:z1=1<;>simp[f158,q1,e]
 by_cases k3:kd=3
 .subst k3;by_cases e0:1<=z3
  rotate_left
  .have g0:¬0<z3:=by omega
   simp[f158,q3,e0]
  have g0:0<z3:=by omega
  by_cases e1:z3<=16
  rotate_left
  .have g1:16<z3:=by omega
   simp[f158,q3,e0,e1]
  have g1:¬16<z3:=by omega
  by_cases e2:z4<=16
  rotate_left
  .have g2:16<z4:=by omega
   simp[f158,q3,q4,e0,e1,e2,g2]
  have g2:¬16<z4:=by omega
  by_cases e3:z2<=1
  rotate_left
  .have g3:1<z2:=by omega
   simp[f158,q2,q3,q4,e0,e1,e2,g2,e3,g3]
  have g3:¬1<z2:=by omega
  simp[f158,q2,q3,q4,e0,e1,e2,g2,e3,g3]
 by_cases k4:kd=4
 .subst k4;by_cases e0:1<=z3
  rotate_left
  .have g0:¬0<z3:=by omega
   simp[f158,q3,e0]
  have g0:0<z3:=by omega
  by_cases e1:z3<=16
  rotate_left
  .have g1:16<z3:=by omega
   simp[f158,q3,e0,e1]
  have g1:¬16<z3:=by omega
  by_cases e2:z4<=16
  rotate_left
  .have g2:16<z4:=by omega
   simp[f158,q3,q4,e0,e1,e2,g2]
  have g2:¬16<z4:=by omega
  by_cases e3:z2<=1
  rotate_left
  .have g3:1<z2:=by omega
   simp[f158,q2,q3,q4,e0,e1,e2,g2,e3,g3]
  have g3:¬1<z2:=by omega
  simp[f158,q2,q3,q4,e0,e1,e2,g2,e3,g3]
 by_cases k7:kd=7
 .subst k7;by_cases e0:1<=z5
  rotate_left
  .have g0:¬0<z5:=by omega
   simp[f158,q5,e0]
  have g0:0<z5:=by omega
  by_cases e1:z5<=16
  rotate_left
  .have g1:16<z5:=by omega
   simp[f158,q5,e0,e1]
  have g1:¬16<z5:=by omega
  simp[f158,q5,e0,e1]
 by_cases k8:kd=8
 .subst k8;by_cases e0:1<=z6
  rotate_left
  .have g0:¬0<z6:=by omega
   simp[f158,q6,e0]
  have g0:0<z6:=by omega
  by_cases e1:z6<=16
  rotate_left
  .have g1:16<z6:=by omega
   simp[f158,q6,e0,e1]
  have g1:¬16<z6:=by omega
  simp[f158,q6,e0,e1]
 simp[f158,k1,k5,k6,k3,k4,k7,k8]
def W_(N D d:Nat)(b:Bool)(x:Sp)(h:Hp)(de:lE x.e<=d)(be:ke D x.e):cu cx (N+2*D+10+d) b 234 [.ag (fD x)] h=some (.sc (.int .i64 (oA x)),h):=by
 have dL:[AV.ag (fD x)].all calm=true:=by
  have h0:=dR x.e;simp[fD,calm]at h0|-;exact h0
 have fz:=λb h=>Hz (N+2*D+7+d) D b x.e h be
 have fw:=λs b h=>sC (N+2*D+6+d) b s h
 have fc:=λb h=>pw N D d b x.e h de be
 rw[show N+2*D+10+d=N+2*D+9+d+1 by omega];rw[show N+2*D+7+d+2=N+2*D+9+d by omega]at fz;rw[show N+2*D+6+d+3=N+2*D+9+d by omega]at fw;refine fU (n:=N+2*D+9+d) f234 [.tmp 2] dL rfl ?_ b h;obtain⟨vr,ky,lb,off,e⟩:=x;have ae:=fw vr;have af:=fw lb;have ah:=fw ky;clear fw;unfold oA fD;simp only at fz fc|-;generalize N+2*D+9+d=M at fz ae af ah fc|-;obtain⟨a0,a1,a2,a3,a4,a5,a6,a7,a8,dH⟩:=iK e;rw[dH]at fz fc|-;generalize dt vr=w1 at ae|-;generalize dt lb=w2 at af|-;generalize dt ky=w3 at ah|-;generalize Lf e=ez at fz|-;generalize fM e=c at fc|-;unfold VS;generalize hl:dn lb ⟨#[]⟩=lz,hk:dn ky ⟨#[]⟩=kz;have spl13:∀x0 x1 x2 x3 x4 x5 x6 x7 x8 x9 x10 x11 x12 y0 y1 y2 y3 y4 y5 y6 y7 y8 y9 y10 y11 y12:AV,cF [x0,x1,x2,x3,x4,x5,x6,x7,x8,x9,x10,x11,x12] 0 [y0,y1,y2,y3,y4,y5,y6,y7,y8,y9,y10,y11,y12]=[y0,y1,y2,y3,y4,y5,y6,y7,y8,y9,y10,y11,y12]:=λ_ _ _ _ _ _ _ _ _ _ _ _ _ _ _ _ _ _ _ _ _ _ _ _ _ _=>rfl
 cases lz
 .cases kz
  .simp[f234,hl,hk]
  cases ez
  .simp[f234,hl,hk,fz]
  cases w1
  .simp[f234,hl,hk,fz,ae]
  cases w2<;>simp[f234,hl,hk,fz,ae,af]
 .cases off
  rotate_left
  .simp[f234,hl]
  cases w1
  .simp[f234,hl,ae]
  cases w3<;>simp[f234,hl,ae,ah,fc]
noncomputable def pz :Code:=(f159.body).getD .skip
def mJ{α:Type}{l:List α}{g:α->Int}{i:Nat}{x:α}(h:l[i]?=some x):dy ((l.drop i).map g)=if g x=0 then dy ((l.drop (i+1)).map g)else g x:=by
 rw[cH h,Yn,dy]
def PJ(x:Ip):Int:=if fM x.e=0 then iz x.nm else fM x.e
section
variable (M : Nat) (kd : Int) (op ds : Bool) (r1 r2 : List LA) (a0 a1 a2 a3 a4 a5 a6 a7 a8 : AV) (nm : ByteArray) (r3 r4 : List LA) (sk li : Int) (r5 r6 : List LA)
def Ka(row:LA)(fr:LA)(h:Hp):Prop:=fr.length=124/\gt fr 1= .pt 0 0/\h[0]?=some (.row row)
def ah2(fr:LA)(h:Hp)(cp:fr.length=124):PC (M (cT 8 pz) (fr,h)) 0:=by
 simp[PC,pz,cT,cR,f159,cp]
def ah3(w:Bool)(aj:∀b h,cu cx M b 235 [.ls 1 r6 false] h=some ((w:AV),h))(fr:LA)(h:Hp)(hS:Ka (ie kd op ds r1 r2 a0 a1 a2 a3 a4 a5 a6 a7 a8 nm r3 r4 sk li r5 r6) fr h):
 PC (M (.seq (cL (cT 7 pz)) (cT 8 pz)) (fr,h)) (if w=true then 0 else 6):=by
 obtain⟨cp,g1,hh⟩:=hS;unfold ie at hh;have s8:=ah2 M;generalize cT 8 pz=Z at s8|-;cases w
 .simp[PC,pz,cT,cR,cL,f159,cp,g1,hh,aj]
 .rw[cw rfl];simp[pz,cT,cR,cL,f159,cp,g1,hh,aj];exact s8 _ _ (by simp[cp])
def ah4(l:List Sp)(hq:r5.length=l.length)(hg:∀i:Nat,r5[i]?=(l[i]?).map fD)(hl:l.length<=10^9)(V:Int)(Z:Code)(fx:∀x∈l,∀b h,cu cx M b 234 [.ag (fD x)] h=some (.sc (.int .i64 (oA x)),h))(hZ:∀fr h,Ka (ie kd op ds r1 r2 a0 a1 a2 a3 a4 a5 a6 a7 a8 nm r3 r4 sk li r5 r6) fr h->PC (M Z (fr,h)) V)(fr:LA)(h:Hp)(hS:Ka (ie kd op ds r1 r2 a0 a1 a2 a3 a4 a5 a6 a7 a8 nm r3 r4 sk li r5 r6) fr h):
 PC (M (.seq (cL (cT 6 pz)) Z) (fr,h)) (if dy (l.map oA)=0 then V else dy (l.map oA)):=by
 obtain⟨cp,g1,hh⟩:=hS;generalize hT:dy (l.map oA)=T;simp[pz,cT,cR,cL,f159];generalize cU:M (.loop _) _=XX;refine gk cU
  (λi st cD=>dy ((l.drop i).map oA)=T/\st.length=124/\gt st 1= .pt 0 0/\gt st 12=i/\cD[0]?=some (.row (ie kd op ds r1 r2 a0 a1 a2 a3 a4 a5 a6 a7 a8 nm r3 r4 sk li r5 r6)))
  (λo st cD=>st.length=124/\((o= .exit 8/\T=0/\gt st 1= .pt 0 0/\cD[0]?=some (.row (ie kd op ds r1 r2 a0 a1 a2 a3 a4 a5 a6 a7 a8 nm r3 r4 sk li r5 r6)))\/(o= .ret/\T≠0/\gt st 2=T)))
  l.length (by simp;omega) ⟨hT,by simp[cp],by simp[g1],by simp[cp],hh⟩ ?_ ?_
 .clear cU XX cp g1 hh hT hZ;rintro i fr hp cP ⟨hT,cp,g1,gi,hh⟩;have qh:=hh;unfold ie at qh;rcases dY hg cP with⟨x,hi,hx,hr,cC⟩|rfl
  .have fH:i<=10^15:=by omega
   rw[mJ hx]at hT;have ae:=fx x (Zi hx);generalize oA x=w at ae hT;obtain⟨b0,b1,b2,b3,b4,b5,b6,b7,b8,gC⟩:=iK x.e;unfold fD at hr cC ae;rw[gC]at hr ae;simp only[gC]at cC;have hf:=cz fH;by_cases w0:w=0
   .rw[cw w0]at hT;subst w0;simp[cp,g1,gi,qh,hi,hq,cC,hf,ae];exact⟨by rw[<-Xn];exact hT,by unfold ie;rfl⟩
   .rw[cv w0]at hT;subst hT;simp[cp,g1,gi,qh,hi,hq,cC,ae,w0]
  .rw[Yc,Xm,show dy []=0 from rfl]at hT;subst hT;simp[cp,g1,gi,qh,hq];unfold ie;rfl
 .rintro o cG h' rfl ⟨cp,⟨rfl,rfl,g1,hh⟩|⟨rfl,w0,g4⟩⟩
  .rw[cw rfl];simp;exact hZ _ _ ⟨cp,g1,hh⟩
  .rw[cv w0];simp[PC,g4]
def ah5(l:List BN)(hq:r4.length=l.length)(hg:∀i:Nat,r4[i]?=(l[i]?).map js)(hl:l.length<=10^9)(V:Int)(Z:Code)(fx:∀x∈l,∀b h,cu cx M b 232 [.ag (cM x.e)] h=some (.sc (.int .i64 (fM x.e)),h))(hZ:∀fr h,Ka (ie kd op ds r1 r2 a0 a1 a2 a3 a4 a5 a6 a7 a8 nm r3 r4 sk li r5 r6) fr h->PC (M Z (fr,h)) V)(fr:LA)(h:Hp)(hS:Ka (ie kd op ds r1 r2 a0 a1 a2 a3 a4 a5 a6 a7 a8 nm r3 r4 sk li r5 r6) fr h):
 PC (M (.seq (cL (cT 5 pz)) Z) (fr,h)) (if dy (l.map (λx=>fM x.e))=0 then V else dy (l.map (λx=>fM x.e))):=by
 obtain⟨cp,g1,hh⟩:=hS;generalize hT:dy (l.map (λx=>fM x.e))=T;simp[pz,cT,cR,cL,f159];generalize cU:M (.loop _) _=XX;refine gk cU
  (λi st cD=>dy ((l.drop i).map (λx=>fM x.e))=T/\st.length=124/\gt st 1= .pt 0 0/\gt st 10=i/\cD[0]?=some (.row (ie kd op ds r1 r2 a0 a1 a2 a3 a4 a5 a6 a7 a8 nm r3 r4 sk li r5 r6)))
  (λo st cD=>st.length=124/\((o= .exit 6/\T=0/\gt st 1= .pt 0 0/\cD[0]?=some (.row (ie kd op ds r1 r2 a0 a1 a2 a3 a4 a5 a6 a7 a8 nm r3 r4 sk li r5 r6)))\/(o= .ret/\T≠0/\gt st 2=T)))
  l.length (by simp;omega) ⟨hT,by simp[cp],by simp[g1],by simp[cp],hh⟩ ?_ ?_
 .clear cU XX cp g1 hh hT hZ;rintro i fr hp cP ⟨hT,cp,g1,gi,hh⟩;have qh:=hh;unfold ie at qh;rcases dY hg cP with⟨x,hi,hx,hr,cC⟩|rfl
  .have fH:i<=10^15:=by omega
   rw[mJ hx]at hT;have ae:=fx x (Zi hx);generalize fM x.e=w at ae hT;obtain⟨b0,b1,b2,b3,b4,b5,b6,b7,b8,gC⟩:=iK x.e;unfold js at hr cC;rw[gC]at hr ae;simp only[gC]at cC;have hf:=cz fH;by_cases w0:w=0
   .rw[cw w0]at hT;subst w0;simp[cp,g1,gi,qh,hi,hq,cC,hf,ae];exact⟨by rw[<-Xn];exact hT,by unfold ie;rfl⟩
   .rw[cv w0]at hT;subst hT;simp[cp,g1,gi,qh,hi,hq,cC,ae,w0]
  .rw[Yc,Xm,show dy []=0 from rfl]at hT;subst hT;simp[cp,g1,gi,qh,hq];unfold ie;rfl
 .rintro o cG h' rfl ⟨cp,⟨rfl,rfl,g1,hh⟩|⟨rfl,w0,g4⟩⟩
  .rw[cw rfl];simp;exact hZ _ _ ⟨cp,g1,hh⟩
  .rw[cv w0];simp[PC,g4]
def ah6(l:List Ep)(hq:r2.length=l.length)(hg:∀i:Nat,r2[i]?=(l[i]?).map cM)(hl:l.length<=10^9)(V:Int)(Z:Code)(fx:∀x∈l,∀b h,cu cx M b 232 [.ag (cM x)] h=some (.sc (.int .i64 (fM x)),h))(hZ:∀fr h,Ka (ie kd op ds r1 r2 a0 a1 a2 a3 a4 a5 a6 a7 a8 nm r3 r4 sk li r5 r6) fr h->PC (M Z (fr,h)) V)(fr:LA)(h:Hp)(hS:Ka (ie kd op ds r1 r2 a0 a1 a2 a3 a4 a5 a6 a7 a8 nm r3 r4 sk li r5 r6) fr h):
 PC (M (.seq (cL (cT 2 pz)) Z) (fr,h)) (if dy (l.map fM)=0 then V else dy (l.map fM)):=by
 obtain⟨cp,g1,hh⟩:=hS;generalize hT:dy (l.map fM)=T;simp[pz,cT,cR,cL,f159];generalize cU:M (.loop _) _=XX;refine gk cU
  (λi st cD=>dy ((l.drop i).map fM)=T/\st.length=124/\gt st 1= .pt 0 0/\gt st 5=i/\cD[0]?=some (.row (ie kd op ds r1 r2 a0 a1 a2 a3 a4 a5 a6 a7 a8 nm r3 r4 sk li r5 r6)))
  (λo st cD=>st.length=124/\((o= .exit 2/\T=0/\gt st 1= .pt 0 0/\cD[0]?=some (.row (ie kd op ds r1 r2 a0 a1 a2 a3 a4 a5 a6 a7 a8 nm r3 r4 sk li r5 r6)))\/(o= .ret/\T≠0/\gt st 2=T)))
  l.length (by simp;omega) ⟨hT,by simp[cp],by simp[g1],by simp[cp],hh⟩ ?_ ?_
 .clear cU XX cp g1 hh hT hZ;rintro i fr hp cP ⟨hT,cp,g1,gi,hh⟩;have qh:=hh;unfold ie at qh;rcases dY hg cP with⟨x,hi,hx,hr,cC⟩|rfl
  .have fH:i<=10^15:=by omega
   rw[mJ hx]at hT;have ae:=fx x (Zi hx);generalize fM x=w at ae hT;obtain⟨b0,b1,b2,b3,b4,b5,b6,b7,b8,gC⟩:=iK x;rw[gC]at hr ae;simp only[gC]at cC;have hf:=cz fH;by_cases w0:w=0
   .rw[cw w0]at hT;subst w0;simp[cp,g1,gi,qh,hi,hq,cC,hf,ae];exact⟨by rw[<-Xn];exact hT,by unfold ie;rfl⟩
   .rw[cv w0]at hT;subst hT;simp[cp,g1,gi,qh,hi,hq,cC,ae,w0]
  .rw[Yc,Xm,show dy []=0 from rfl]at hT;subst hT;simp[cp,g1,gi,qh,hq];unfold ie;rfl
 .rintro o cG h' rfl ⟨cp,⟨rfl,rfl,g1,hh⟩|⟨rfl,w0,g4⟩⟩
  .rw[cw rfl];simp;exact hZ _ _ ⟨cp,g1,hh⟩
  .rw[cv w0];simp[PC,g4]
def ah7(l:List Tp)(hq:r1.length=l.length)(hg:∀i:Nat,r1[i]?=(l[i]?).map dW)(hl:l.length<=10^9)(V:Int)(Z:Code)(fx:∀x∈l,∀b h,cu cx M b 231 [.ag (dW x),.sc (.bool (decide (kd=5)))] h=some (.sc (.int .i64 (mV x (decide (kd=5)))),h))(hZ:∀fr h,Ka (ie kd op ds r1 r2 a0 a1 a2 a3 a4 a5 a6 a7 a8 nm r3 r4 sk li r5 r6) fr h->PC (M Z (fr,h)) V)(fr:LA)(h:Hp)(hS:Ka (ie kd op ds r1 r2 a0 a1 a2 a3 a4 a5 a6 a7 a8 nm r3 r4 sk li r5 r6) fr h):
 PC (M (.seq (cL (cT 1 pz)) Z) (fr,h)) (if dy (l.map (λx=>mV x (decide (kd=5))))=0 then V else dy (l.map (λx=>mV x (decide (kd=5))))):=by
 obtain⟨cp,g1,hh⟩:=hS;generalize hT:dy (l.map (λx=>mV x (decide (kd=5))))=T;simp[pz,cT,cR,cL,f159];generalize cU:M (.loop _) _=XX;refine gk cU
  (λi st cD=>dy ((l.drop i).map (λx=>mV x (decide (kd=5))))=T/\st.length=124/\gt st 1= .pt 0 0/\gt st 3=i/\cD[0]?=some (.row (ie kd op ds r1 r2 a0 a1 a2 a3 a4 a5 a6 a7 a8 nm r3 r4 sk li r5 r6)))
  (λo st cD=>st.length=124/\((o= .exit 0/\T=0/\gt st 1= .pt 0 0/\cD[0]?=some (.row (ie kd op ds r1 r2 a0 a1 a2 a3 a4 a5 a6 a7 a8 nm r3 r4 sk li r5 r6)))\/(o= .ret/\T≠0/\gt st 2=T)))
  l.length (by simp;omega) ⟨hT,by simp[cp],by simp[g1],by simp[cp],hh⟩ ?_ ?_
 .clear cU XX cp g1 hh hT hZ;rintro i fr hp cP ⟨hT,cp,g1,gi,hh⟩;have qh:=hh;unfold ie at qh;rcases dY hg cP with⟨x,hi,hx,hr,cC⟩|rfl
  .have fH:i<=10^15:=by omega
   rw[mJ hx]at hT;have ae:=fx x (Zi hx);generalize mV x (decide (kd=5))=w at ae hT;unfold dW at hr cC ae;have k5:(kd=5/\decide (kd=5)=true)\/(¬kd=5/\decide (kd=5)=false):=by
    by_cases q:kd=5
    .exact .inl ⟨q,by simp[q]⟩
    .exact .inr ⟨q,by simp[q]⟩
   have hf:=cz fH;by_cases w0:w=0
   .rw[cw w0]at hT;subst w0;rcases k5 with⟨k5,kb⟩|⟨k5,kb⟩<;>rw[kb]at ae<;>simp[cp,g1,gi,qh,hi,hq,cC,hf,ae,k5]
    all_goals
     simp only[kb]at hT;exact⟨by rw[<-Xn];exact hT,by unfold ie;simp⟩
   .rw[cv w0]at hT;subst hT;rcases k5 with⟨k5,kb⟩|⟨k5,kb⟩<;>rw[kb]at ae<;>simp[cp,g1,gi,qh,hi,hq,cC,ae,w0,k5]
  .rw[Yc,Xm,show dy []=0 from rfl]at hT;subst hT;simp[cp,g1,gi,qh,hq];unfold ie;rfl
 .rintro o cG h' rfl ⟨cp,⟨rfl,rfl,g1,hh⟩|⟨rfl,w0,g4⟩⟩
  .rw[cw rfl];simp;exact hZ _ _ ⟨cp,g1,hh⟩
  .rw[cv w0];simp[PC,g4]
def ah8(l:List Ip)(hq:r3.length=l.length)(hg:∀i:Nat,r3[i]?=(l[i]?).map jr)(hl:l.length<=10^9)(V:Int)(Z:Code)(fx:∀x∈l,∀b h,cu cx M b 232 [.ag (cM x.e)] h=some (.sc (.int .i64 (fM x.e)),h))(fw:∀s b h,cu cx M b 233 [.sc (.string s)] h=some (.sc (.bool (dt s)),h))(hZ:∀fr h,Ka (ie kd op ds r1 r2 a0 a1 a2 a3 a4 a5 a6 a7 a8 nm r3 r4 sk li r5 r6) fr h->PC (M Z (fr,h)) V)(fr:LA)(h:Hp)(hS:Ka (ie kd op ds r1 r2 a0 a1 a2 a3 a4 a5 a6 a7 a8 nm r3 r4 sk li r5 r6) fr h):
 PC (M (.seq (cL (cT 4 pz)) Z) (fr,h)) (if dy (l.map PJ)=0 then V else dy (l.map PJ)):=by
 obtain⟨cp,g1,hh⟩:=hS;generalize hT:dy (l.map PJ)=T;simp[pz,cT,cR,cL,f159];generalize cU:M (.loop _) _=XX;refine gk cU
  (λi st cD=>dy ((l.drop i).map PJ)=T/\st.length=124/\gt st 1= .pt 0 0/\gt st 8=i/\cD[0]?=some (.row (ie kd op ds r1 r2 a0 a1 a2 a3 a4 a5 a6 a7 a8 nm r3 r4 sk li r5 r6)))
  (λo st cD=>st.length=124/\((o= .exit 4/\T=0/\gt st 1= .pt 0 0/\cD[0]?=some (.row (ie kd op ds r1 r2 a0 a1 a2 a3 a4 a5 a6 a7 a8 nm r3 r4 sk li r5 r6)))\/(o= .ret/\T≠0/\gt st 2=T)))
  l.length (by simp;omega) ⟨hT,by simp[cp],by simp[g1],by simp[cp],hh⟩ ?_ ?_
 .clear cU XX cp g1 hh hT hZ;rintro i fr hp cP ⟨hT,cp,g1,gi,hh⟩;have qh:=hh;unfold ie at qh;rcases dY hg cP with⟨x,hi,hx,hr,cC⟩|rfl
  .have fH:i<=10^15:=by omega
   rw[mJ hx]at hT;have ae:=fx x (Zi hx);have af:=fw x.nm;have hT':(if fM x.e=0 then(if dt x.nm=true then dy ((l.drop (i+1)).map PJ)else 6)else fM x.e)=T:=by
    rw[<-hT];unfold PJ iz;by_cases c0:fM x.e=0
    .rw[cw c0,cw c0];cases dt x.nm<;>simp
    .rw[cv c0,cv c0,cv c0]
   clear hT;have hT:=hT';clear hT';generalize fM x.e=w at ae hT;generalize dt x.nm=w2 at af hT;obtain⟨b0,b1,b2,b3,b4,b5,b6,b7,b8,gC⟩:=iK x.e;unfold jr at hr cC;rw[gC]at hr ae;simp only[gC]at cC;have hf:=cz fH;by_cases w0:w=0
   .rw[cw w0]at hT;subst w0;cases w2
    .rw[cv (by simp)]at hT;subst hT;simp[cp,g1,gi,qh,hi,hq,cC,ae,af]
    .rw[cw rfl]at hT;simp[cp,g1,gi,qh,hi,hq,cC,hf,ae,af];exact⟨by rw[<-Xn];exact hT,by unfold ie;rfl⟩
   .rw[cv w0]at hT;subst hT;simp[cp,g1,gi,qh,hi,hq,cC,ae,w0]
  .rw[Yc,Xm,show dy []=0 from rfl]at hT;subst hT;simp[cp,g1,gi,qh,hq];unfold ie;rfl
 .rintro o cG h' rfl ⟨cp,⟨rfl,rfl,g1,hh⟩|⟨rfl,w0,g4⟩⟩
  .rw[cw rfl];simp;exact hZ _ _ ⟨cp,g1,hh⟩
  .rw[cv w0];simp[PC,g4]
def ah9(V c:Int)(w:Bool)(Z:Code)(ae:∀b h,cu cx M b 232 [.ag [a0,a1,a2,a3,a4,a5,a6,a7,a8]] h=some ((c:AV),h))(af:∀b h,cu cx M b 233 [nm] h=some ((w:AV),h))(hZ:∀fr h,Ka (ie kd op ds r1 r2 a0 a1 a2 a3 a4 a5 a6 a7 a8 nm r3 r4 sk li r5 r6) fr h->PC (M Z (fr,h)) V)(fr:LA)(h:Hp)(hS:Ka (ie kd op ds r1 r2 a0 a1 a2 a3 a4 a5 a6 a7 a8 nm r3 r4 sk li r5 r6) fr h):
 PC (M (.seq (cL (cT 3 pz)) Z) (fr,h)) (if kd=2 then(if c=0 then(if w=true then V else 6)else c)else V):=by
 obtain⟨cp,g1,hh⟩:=hS;have fin:∀fr,fr.length=124->gt fr 1= .pt 0 0->PC (M Z (fr,h)) V:=λfr a b=>hZ fr h ⟨a,b,hh⟩
 clear hZ;unfold ie at hh;by_cases k2:kd=2
 .subst k2;rw[cw rfl];by_cases c0:c=0
  .subst c0;rw[cw rfl];cases w
   .simp[PC,pz,cT,cR,cL,f159,cp,g1,hh,ae,af]
   .rw[cw rfl];simp[pz,cT,cR,cL,f159,cp,g1,hh,ae,af];exact fin _ (by simp[cp]) (by simp[g1])
  .rw[cv c0];simp[PC,pz,cT,cR,cL,f159,cp,g1,hh,ae,c0]
 .rw[cv k2];simp[pz,cT,cR,cL,f159,cp,g1,hh,k2];exact fin _ (by simp[cp]) (by simp[g1])
end
def Sw(l:List ByteArray):Int:=if l.all dt=true then 0 else 6
def lR(a b:Int):Int:=if a=0 then b else a
def EX(c:Cp):Int:=lR (dy (c.items.map PJ)) (lR (dy (c.order.map λx=>fM x.e)) (lR (dy (c.sets.map oA)) (Sw c.names)))
def oV(c:Cp):Int:=lR (dy (c.paths.map λx=>mV x (decide (c.kind=5)))) (lR (dy (c.eu.map fM)) (if c.kind=2 then(if fM c.e=0 then(if dt c.name=true then EX c else 6)else fM c.e)else EX c))
def yO(p:Tp):Prop:=(eo (c9 p.nodes p.cE)).length<=10^9
def N5(D d n:Nat)(b:Bool)(c:Cp)(h:Hp)(hb:Cg D d c)(hx:∀p∈c.paths,yO p)(hn:2*D+3*d+25<=n):cu cx n b 159 [.ag (cA c)] h=some (.sc (.int .i64 (oV c)),h):=by
 obtain⟨M,rfl⟩:∃M,n=M+1:=⟨n-1,by omega⟩;have dL:[AV.ag (cA c)].all calm=true:=by
  have h0:=dR c.e;simp[cA,calm]at h0|-;exact h0
 refine fU f159 [.tmp 2] dL rfl ?_ b h;obtain⟨k1,e1⟩:∃k,M=k+2*D+9+d:=⟨M-2*D-9-d,by omega⟩;obtain⟨k2,e2⟩:∃k,M=k+2*D+10+d:=⟨M-2*D-10-d,by omega⟩;obtain⟨k3,e3⟩:∃k,M=k+3:=⟨M-3,by omega⟩;obtain⟨k4,e4⟩:∃k,M=k+4:=⟨M-4,by omega⟩;have fx:∀x:Ep,oz D d x->∀b h,cu cx M b 232 [.ag (cM x)] h=some (.sc (.int .i64 (fM x)),h):=λx hx b h=>by rw[e1];exact pw k1 D d b x h hx.1 hx.2
 have fw:∀s b h,cu cx M b 233 [.sc (.string s)] h=some (.sc (.bool (dt s)),h):=λs b h=>by rw[e3];exact sC k3 b s h
 have fs:∀x∈c.sets,∀b h,cu cx M b 234 [.ag (fD x)] h=some (.sc (.int .i64 (oA x)),h):=λx hx b h=>by rw[e2];exact W_ k2 D d b x h (hb.sets x hx).1 (hb.sets x hx).2
 have fws:∀b h,cu cx M b 235 [.ls 1 (eE c.names) false] h=some (.sc (.bool (c.names.all dt)),h):=λb h=>by rw[e4];exact De k4 b c.names false h (by have:=hb.n6;omega)
 have fp:∀x∈c.paths,∀b h,cu cx M b 231 [.ag (dW x),.sc (.bool (decide (c.kind=5)))] h=some (.sc (.int .i64 (mV x (decide (c.kind=5)))),h):=λx h1 b h=>Co D d M b x _ h (hb.paths x h1) (hx x h1) (by omega)
 obtain⟨a0,a1,a2,a3,a4,a5,a6,a7,a8,gC⟩:=iK c.e;have fe:=fx c.e hb.e;rw[gC]at fe;have yN:(f159.body).getD .skip= .seq (cL (cT 0 pz)) (.seq (cL (cT 1 pz)) (.seq (cL (cT 2 pz)) (.seq (cL (cT 3 pz)) (.seq (cL (cT 4 pz)) (.seq (cL (cT 5 pz)) (.seq (cL (cT 6 pz)) (.seq (cL (cT 7 pz)) (cT 8 pz)))))))):=by kernel_rfl
 have key:∀r v,PC r v->(dT [.tmp 2] r).map Prod.fst=some (.sc (.int .i64 v)):=λr v ⟨h',e⟩=>by rw[e];rfl
 refine key _ _ ?_;have cY:cA c=ie c.kind c.opt c.w_ (q7 c.paths) (cZ c.eu) a0 a1 a2 a3 a4 a5 a6 a7 a8 c.name (xa c.items) (yZ c.order) c.skip c.limit (y_ c.sets) (eE c.names):=by unfold cA ie;rw[gC];rfl
 rw[yN,cY];have st:∀fr h,Ka (ie c.kind c.opt c.w_ (q7 c.paths) (cZ c.eu) a0 a1 a2 a3 a4 a5 a6 a7 a8 c.name (xa c.items) (yZ c.order) c.skip c.limit (y_ c.sets) (eE c.names)) fr h->PC (M (.seq (cL (cT 1 pz)) (.seq (cL (cT 2 pz)) (.seq (cL (cT 3 pz)) (.seq (cL (cT 4 pz)) (.seq (cL (cT 5 pz)) (.seq (cL (cT 6 pz)) (.seq (cL (cT 7 pz)) (cT 8 pz)))))))) (fr,h)) (oV c):=by
  unfold oV EX lR;refine ah7 _ _ _ _ _ _ _ _ _ _ _ _ _ _ _ _ _ _ _ _ _ _ c.paths (iN _) (qu _) hb.n1 _ _ fp ?_;refine ah6 _ _ _ _ _ _ _ _ _ _ _ _ _ _ _ _ _ _ _ _ _ _ c.eu (cX _) (eM _) hb.n2 _ _ (λx hx=>fx x (hb.eu x hx)) ?_;refine ah9 _ _ _ _ _ _ _ _ _ _ _ _ _ _ _ _ _ _ _ _ _ _ _ _ _ _ fe (fw c.name) ?_;refine ah8 _ _ _ _ _ _ _ _ _ _ _ _ _ _ _ _ _ _ _ _ _ _ c.items (iO _) (qv _) hb.n3 _ _ (λx hx=>fx x.e (hb.items x hx)) fw ?_;refine ah5 _ _ _ _ _ _ _ _ _ _ _ _ _ _ _ _ _ _ _ _ _ _ c.order (iP _) (qw _) hb.n4 _ _ (λx hx=>fx x.e (hb.order x hx)) ?_;refine ah4 _ _ _ _ _ _ _ _ _ _ _ _ _ _ _ _ _ _ _ _ _ _ c.sets (iQ _) (qx _) hb.n5 _ _ fs ?_;exact ah3 _ _ _ _ _ _ _ _ _ _ _ _ _ _ _ _ _ _ _ _ _ _ _ fws
 generalize Code.seq (cL (cT 1 pz)) _=Z,oV c=V at st|-;have init:∀fr,fr.length=124->gt fr 0= .ag (ie c.kind c.opt c.w_ (q7 c.paths) (cZ c.eu) a0 a1 a2 a3 a4 a5 a6 a7 a8 c.name (xa c.items) (yZ c.order) c.skip c.limit (y_ c.sets) (eE c.names))->PC (M (.seq (cL (cT 0 pz)) Z) (fr,[])) V:=λfr cp g0=>by
  clear cY yN;unfold Ka at st;unfold ie at g0 st;simp[pz,cT,cL,f159,g0];exact st _ _ ⟨by simp[cp],by simp[cp],rfl⟩
 exact init _ (by simp) rfl
def EY(c:Cp):Int:=if c.kind<1 then 1 else if 8<c.kind then 1 else if A6 c=false then 1 else if mH c.skip=true then 1 else if mH c.limit=true then 1 else if xX c=true then 4 else oV c
def yP(D d n:Nat)(b:Bool)(c:Cp)(h:Hp)(hb:Cg D d c)(hx:∀p∈c.paths,yO p)(hn:2*D+3*d+30<=n):cu cx n b 97 [.ag (cA c)] h=some (.sc (.int .i64 (EY c)),h):=by
 obtain⟨M,rfl⟩:∃M,n=M+1:=⟨n-1,by omega⟩;have dL:[AV.ag (cA c)].all calm=true:=by
  have h0:=dR c.e;simp[cA,calm]at h0|-;exact h0
 refine fU f97 [.tmp 2] dL rfl ?_ b h;obtain⟨k1,e1⟩:∃k,M=k+3:=⟨M-3,by omega⟩;obtain⟨k2,e2⟩:∃k,M=k+1:=⟨M-1,by omega⟩;have ae:=λb h=>J9 k1 D b c h hb.e.2
 have af:=λb h=>J_ k2 b c h
 have ah:=λb h=>N5 D d M b c h hb hx (by omega)
 rw[<-e1]at ae;rw[<-e2]at af;obtain⟨a0,a1,a2,a3,a4,a5,a6,a7,a8,gC⟩:=iK c.e;have cY:cA c=ie c.kind c.opt c.w_ (q7 c.paths) (cZ c.eu) a0 a1 a2 a3 a4 a5 a6 a7 a8 c.name (xa c.items) (yZ c.order) c.skip c.limit (y_ c.sets) (eE c.names):=by unfold cA ie;rw[gC];rfl
 unfold EY;rw[cY]at ae af ah|-;clear cY dL;unfold ie at ae af ah|-;generalize A6 c=un at ae|-;generalize xX c=cr at af|-;generalize oV c=pv at ah|-;unfold mH;generalize c.kind=kd,c.skip=sk,c.limit=li,q7 c.paths=r1,cZ c.eu=r2,xa c.items=r3,yZ c.order=r4,y_ c.sets=r5,eE c.names=r6 at *;by_cases c1:kd<1
 .simp[f97,c1]
 by_cases c2:8<kd
 .simp[f97,c1,c2]
 cases un
 .simp[f97,c1,c2,ae]
 by_cases s1:sk< -1
 .simp[f97,c1,c2,ae,s1]
 by_cases s2:1000000000000000<sk
 .simp[f97,c1,c2,ae,s1,s2]
 by_cases l1:li< -1
 .simp[f97,c1,c2,ae,s1,s2,l1]
 by_cases l2:1000000000000000<li
 .simp[f97,c1,c2,ae,s1,s2,l1,l2]
 cases cr
 .simp[f97,c1,c2,ae,af,ah,s1,s2,l1,l2]
 .simp[f97,c1,c2,ae,af,s1,s2,l1,l2]
end
def EZ{α:Type}(l:List α)(p:α->Bool):l.all p= !(l.any λx=> !p x):=by
 induction l with
 |nil=>rfl
 |cons a l ih=>rw[Zn,List.any_cons,ih,Bool.not_or,Bool.not_not]
def L6(x:Np):uD x= !uR x:=by
 unfold uD uR;rw[EZ x.labels dt,EZ (dX x.props) dt];cases dn x.var ⟨#[]⟩<;>cases dt x.var<;>simp
def L7(x:Np):uE x= !uS x:=by
 unfold uE uS;cases eR x.labels<;>cases eR (dX x.props)<;>rfl
def xq(p:Np->Bool):∀(ns:List Np)(es:List Gp),ns.length=es.length+1->(c9 ns es).any p=(es.any (λx=>p (Ar x))||ns.any p)
 | [],es,h=>by simp at h
 | [n],[],_=>by rw[c9,c9];simp
 |n::m::ns,[],h=>by simp at h
 |
  n::ns,e::es,h=>by
  rw[c9,List.any_cons,List.any_cons,xq p ns es (by simpa using h),List.any_cons,List.any_cons];cases p n<;>cases p (Ar e)<;>simp
def zq{α:Type}(l:List α)(p:α->Bool):(l.any λx=> !p x)= !l.all p:=by rw[EZ,Bool.not_not]
def N6(p:Tp)(cr:Bool):mV p cr=ua p cr:=by
 unfold mV ua xp;generalize hV:vL p cr (c9 p.nodes p.cE)=V;cases qZ p
 rotate_left
 .simp
 simp only[Yl,if_false];by_cases hl:p.nodes.length=p.cE.length+1
 rotate_left
 .simp only[hl,ne_eq,not_false_eq_true,if_true,decide_false,Bool.not_false,Bool.true_or];simp
 have b1:(p.cE.any λx=>uD (Ar x))= !p.cE.all λx=>uR (Ar x):=by rw[<-zq];simp only[L6]
 have b2:p.nodes.any uD= !p.nodes.all uR:=by rw[<-zq];congr 1;funext x;exact L6 x
 have b3:(p.cE.any λx=>uE (Ar x))= !p.cE.all λx=>uS (Ar x):=by rw[<-zq];simp only[L7]
 have b4:p.nodes.any uE= !p.nodes.all uS:=by rw[<-zq];congr 1;funext x;exact L7 x
 rw[xq uD _ _ hl,xq uE _ _ hl,b1,b2,b3,b4];simp only[hl,ne_eq,not_true_eq_false,if_false,decide_true,Bool.not_true,Bool.false_or];unfold J7;generalize(p.cE.all λx=>uR (Ar x))=w1,p.nodes.all uR=w2,(p.cE.all λx=>uS (Ar x))=w3,p.nodes.all uS=w4,p.cE.any r7=w5;clear b1 b2 b3 b4 hV;cases w5
 rotate_left
 .simp
 cases dn p.var ⟨#[]⟩<;>cases dt p.var<;>cases w1<;>cases w2<;>cases w3<;>cases w4<;>simp
def yd :∀(l:List Int)(e:Int),gG e l=lR e (dy l)
 |
  [],e=>by
  unfold lR;rw[iL,dy];split
  .rename_i h;exact h
  .rfl
 |
  a::l,e=>by
  rw[jQ,yd l,dy];unfold cS lR;by_cases h:e=0
  .rw[cw h,cw h]
  .rw[cv h,cv h,cv h]
def seq_assoc(a b c:Int):lR (lR a b) c=lR a (lR b c):=by
 unfold lR;by_cases h:a=0
 .simp[h]
 .simp[h]
def lN{α:Type}(g:α->Int)(l:List α):(l.flatMap λx=> [g x])=l.map g:=by
 induction l with
 |nil=>rfl
 |cons a l ih=>rw[Ym,ih,Yn];rfl
def ye :∀l:List Ip,dy (l.flatMap λx=> [fM x.e,iz x.nm])=dy (l.map PJ)
 | []=>rfl
 |
  x::l=>by
  have hi:PJ x=if fM x.e=0 then iz x.nm else fM x.e:=rfl
  rw[Ym,Yn,uC,ye l,dy.eq_2 (PJ x),hi];generalize dy (l.map PJ)=F,fM x.e=a,iz x.nm=b;by_cases h:a=0
  .by_cases h2:b=0<;>simp[dy,h,h2]
  .simp[dy,h]
def HD(l:List ByteArray):dy (l.map iz)=Sw l:=by
 unfold Sw
 induction l with
 |nil=>rfl
 |cons a l ih=>
  rw[Yn,dy,ih,Zn];unfold iz;cases dt a<;>simp
def Kb(c:Cp):oV c=tc c:=by
 unfold tc Lp EB oV EX;simp only[yd,lN,ye,HD,N6];have e0:∀a,lR 0 a=a:=λa=>by unfold lR;rw[cw rfl]
 rw[e0];by_cases h:c.kind=2
 .rw[cw h,cw h];simp only[show∀a b,cS a b=lR a b from λ_ _=>rfl,seq_assoc]
  congr 2
  unfold iz;generalize lR (dy (List.map PJ c.items)) _=V;unfold lR;cases dt c.name<;>simp
 .rw[cv h,cv h];simp only[seq_assoc]
def aia(k a:Int):decide (k∈ [a])=decide (k=a):=by simp
def aib(k a b:Int):decide (k∈ [a,b])=(decide (k=a)||decide (k=b)):=by simp
def aic(k a b c:Int):decide (k∈ [a,b,c])=(decide (k=a)||(decide (k=b)||decide (k=c))):=by simp
def HE(x:Int):(Gw x||mH x)=(decide (0<x)||mH x):=by
 unfold Gw mH;by_cases h1:x< -1
 .simp[h1]
 by_cases h2:x= -1
 .subst h2;rfl
 by_cases h3:x=0
 .subst h3;rfl
 have h4:0<x:=by omega
 simp[h2,h3,h4]
def Xw(n:Nat):decide (0< (n:Int))=decide (0<n):=by
 by_cases h:0<n
 .rw[decide_eq_true h,decide_eq_true (by omega)]
 .rw[decide_eq_false h,decide_eq_false (by omega)]
def Sx(n:Nat):decide ((n:Int)=0)= !decide (0<n):=by
 by_cases h:0<n
 .rw[decide_eq_true h,decide_eq_false (by omega)];rfl
 .rw[decide_eq_false h,decide_eq_true (by omega)];rfl
def Xx :∀w aa al ls ll ps pl:Bool,(aa||ls)=(ps||ls)->(al||ll)=(pl||ll)->(!w && (aa||al)||(ls||ll))=(!w && (ps||pl)||(ls||ll)):=by decide
def Sy :∀A B1 B2 C1 w p3:Bool,∀p4 pp L E1 E2:Bool,(A||((B1||B2)||((C1|| !w && (p3||p4))||((!w && pp||L)||(E1||E2)))))=(!(!A && (!B1 && (!B2 && (!C1 && (!(!w && (p3||(p4||pp))) && (!E1 && !E2))))))||L):=by decide
def N7(c:Cp):rY c=(!A6 c||(mH c.skip||mH c.limit)):=by
 unfold rY A6;simp only[aia,aib,aic,Xw,Sx];rw[Xx _ _ _ _ _ _ _ (HE c.skip) (HE c.limit)];have h1:(c.opt && !(decide (c.kind=1)||decide (c.kind=8))||c.w_ && !(decide (c.kind=3)||decide (c.kind=4)))=(c.opt && (!decide (c.kind=1) && !decide (c.kind=8))||c.w_ && !(decide (c.kind=3)||decide (c.kind=4))):=by rw[Bool.not_or (decide (c.kind=1))]
 have h2:(decide (0<c.paths.length) && !(decide (c.kind=1)||(decide (c.kind=5)||decide (c.kind=6))))=(decide (0<c.paths.length) && (!decide (c.kind=1) && (!decide (c.kind=5) && !decide (c.kind=6)))):=by rw[Bool.not_or,Bool.not_or]
 have h3:(decide (0<c.eu.length) && !(decide (c.kind=1)||decide (c.kind=3)))=(decide (0<c.eu.length) && (!decide (c.kind=1) && !decide (c.kind=3))):=by rw[Bool.not_or]
 have h4:(!decide (0<c.sets.length)||decide (c.kind=7))= !(decide (0<c.sets.length) && !decide (c.kind=7)):=by rw[Bool.not_and,Bool.not_not]
 have h5:(!decide (0<c.names.length)||decide (c.kind=8))= !(decide (0<c.names.length) && !decide (c.kind=8)):=by rw[Bool.not_and,Bool.not_not]
 rw[h1,h2,h3,h4,h5,Sy]
def Kc(c:Cp):EY c=iq c:=by
 unfold EY iq;rw[N7,Kb];cases A6 c<;>cases mH c.skip<;>cases mH c.limit<;>simp
end Go.Proofs.YtmocfjnklfpnbaaGreatDoor
