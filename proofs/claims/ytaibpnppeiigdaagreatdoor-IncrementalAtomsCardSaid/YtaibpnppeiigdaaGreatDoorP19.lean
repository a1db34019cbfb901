/- Part of the proof. -/
import Derived.Test.YtaibpnppeiigdaaGreatDoorP18
set_option linter.all false
set_option maxHeartbeats 32000000
set_option maxRecDepth 100000
namespace Go.Proofs.YtaibpnppeiigdaaGreatDoor
open Go Go.Ae Go.Proofs.Tryz
section
attribute [local simp] zi da XM
@[simp] def afU :cx.T 277=some {size:=3,agg:=true,zero:=[.int .i64 (0),.int .i64 (0),.int .i64 (0)],kd:= .struct [(0,1,false),(1,1,false),(2,1,false)]}:=by kernel_rfl
@[simp] def zA :cx.T 238=some {size:=1,agg:=false,zero:=[.slice none 0 0],kd:= .slice 3 true 24 [.int .i64 (0),.int .i64 (0),.int .i64 (0)]}:=by kernel_rfl
@[simp] def ali :nQ cx 238=true:=by kernel_rfl
def Qm (e:Ed)(x:Int):Int × Int × Int:=if e.src=x then(x,e.dst,e.id)else if e.dst=x then(x,e.src,e.id)else(0,0,0)
def nE (x:Int)(e:Ed):Bool:=decide (e.src=x)||decide (e.dst=x)
def mG (p:Int × Int × Int):LA:=[.sc (.int .i64 p.1),.sc (.int .i64 p.2.1),.sc (.int .i64 p.2.2)]
def Uv (n:Nat)(b:Bool)(e:Ed)(x:Int)(h:Hp):cW cx (n+1) b 280 [.ag (eY e),x,(3:Int)] h=some (.tp [.ag (mG (Qm e x)),.sc (.bool (nE x e))],h):=by
 refine tA (xs:=[.ag (mG (Qm e x)),.sc (.bool (nE x e))]) f280 [.cell 6 3 true,.tmp 7] rfl rfl ?_ b h;by_cases h1:e.src=x
 .simp[f280,eY,h1,Qm,nE,mG]
 .by_cases h2:e.dst=x
  .simp[f280,eY,h1,h2,Qm,nE,mG]
  .simp[f280,eY,h1,h2,Qm,nE,mG]
def FZ (n:Nat)(b:Bool)(e:Ed)(h:Hp):cW cx (n+1) b 71 [.ag (eY e),()] h=some ((true:AV),h):=by
 refine fZ f71 [.tmp 4] rfl rfl ?_ b h;simp[f71,eY]
def Ix :AV->Bool| .sc (.int .i64 _)=>true|_=>false
def aaa (cs:LA):Prop:=cs.all Ix=true
def Uw (h:Hp)(m:Nat)(y:AV):Prop:=(m=0/\y=())\/(0<m/\∃id cs,y= .sl id 3 0 m false/\h[id]?=some (.row cs)/\cs.length=m*3/\cs.all Ix=true)
def LV {cs:LA}(h:cs.all Ix=true){j:Nat}(hj:j<cs.length):∃v,cs[j]?=some (.sc (.int .i64 v)):=by
 have:=(Yr.1 h) _ (Xd hj);rw[Zb hj]
 revert this
 cases cs[j]with
 |
  sc v=>cases v with
  |int k v=>cases k<;>simp[Ix]
  |_=>simp[Ix]
 |_=>simp[Ix]
def Ux {cs:LA}(h:cs.all Ix=true):cs.all eT=true:=by
 rw[Yr]at h|-;intro x hx;have:=h x hx;cases x<;>simp[Ix]at this<;>rfl
def Uy (h:Hp)(m:Nat)(y:AV)(p:Int × Int × Int)(hy:Uw h m y)(hm:m<=100000):∃id h2 cs,eE cx (h++[.row (mG p)]) 238 y (.sl h.length 3 0 1 false)=some (.sl id 3 0 (m+1) false,h2)/\h2[id]?=some (.row cs)/\cs.length=(m+1)*3/\cs.all Ix=true/\
 (∀j b,h[j]?=some b->(∀k n,y= .sl k 3 0 n false->j≠k)->h2[j]?=some b)/\h.length<=id:=by
 rcases hy with⟨rfl,rfl⟩|⟨qC,id,cs,rfl,dC,cU,dJ⟩
 .refine⟨_,_,mG p,xa zA rfl h (mG p) rfl (by omega),?_,rfl,rfl,λj b hj _=>?_,by omega⟩
  .rw[show h++[fp.row (mG p),fp.row (mG p)]=(h++[fp.row (mG p)])++[fp.row (mG p)] by simp,Zf (by simp)];simp
  .have:=(Za.1 hj).1;rw[Zd this];exact hj
 .refine⟨_,_,cs++mG p,Ay zA rfl h (mG p) cs id m dC rfl cU (by omega) (by omega) (by omega),?_,by simp[mG,cU];omega,by rw[List.all_append,dJ];rfl,λj b hj hjk=>?_,by omega⟩
  .rw[Zf (by simp)];simp
  .have jU:=(Za.1 hj).1;have Db:j≠id:=hjk id _ rfl;rw[Zd (by simp;omega),Zq (λe=>Db e.symm),Zd jU];exact hj
def sD {cs vs:LA}{off:Nat}(h:cs.all Ix=true)(k:vs.all Ix=true):(da cs off vs).all Ix=true:=by
 rw[Yr]at *;intro x hx;simp only[da,Ya]at hx;rcases hx with(hx|hx)|hx
 .exact h x (Xl hx)
 .exact k x hx
 .exact h x (List.mem_of_mem_drop hx)
def agi {cs:LA}(h:cs.all Ix=true){k:Nat}(hk:k*3+3<=cs.length):∃a b c,(cs.drop (k*3)).take 3=[.sc (.int .i64 a),.sc (.int .i64 b),.sc (.int .i64 c)]/\cs[k*3+1]?=some (.sc (.int .i64 b))/\cs[k*3+2]?=some (.sc (.int .i64 c)):=by
 obtain⟨a,ha⟩:=LV h (j:=k*3) (by omega);obtain⟨b,hb⟩:=LV h (j:=k*3+1) (by omega);obtain⟨c,hc⟩:=LV h (j:=k*3+2) (by omega);refine⟨a,b,c,?_,hb,hc⟩;apply Xe;intro j;rw[Xr]
 match j with
 |0=>simp[Xg,ha]
 |1=>simp[Xg,hb]
 |2=>simp[Xg,hc]
 |j+3=>rw[db (by omega)];rfl
def Oq {call:Bool->FuncId->LA->Hp->Option (AV × Hp)}(Inv:Nat->St->Prop)(Q:Out->St->Prop)(k:Nat)(hk:k<cx.fuel)(X:Option (Out × St))(c:Code)(fr:LA)(h:Hp)(hX:dS cx call (.loop c) (fr,h)=X)(hI:Inv k (fr,h))
 (step:∀k fr h,Inv k (fr,h)->wh Inv Q k (dS cx call c (fr,h))):∃o oC h',X=some (o,(oC,h'))/\Q o (oC,h'):=by
 subst hX;exact nF (C:=cx) (G:=λr=>∃o oC h',r=some (o,(oC,h'))/\Q o (oC,h')) Inv Q k hk hI step (λo fr h _ hq=>⟨o,fr,h,rfl,hq⟩)
def Qn (n:Nat)(g:Gr)(x:Int)(hl:g.cZ.length<=100000):
 ∃r,(∃cY:List LA,cY.length=(g.cZ.filter (nE x)).length/\(r= .ls 3 cY false\/(cY=[]/\r= .sc (.slice none 0 0))))/\∀b h,cW cx (n+2) b 226 [.ag (dn g),x,(),(3:Int)] h=some (r,h):=by
 refine iQ (f:=226) (n:=n+1) (args:=[.ag (dn g),.sc (.int .i64 x),.sc (.slice none 0 0),.sc (.int .i64 3)]) (λr=>∃cY:List LA,cY.length=(g.cZ.filter (nE x)).length/\(r= .ls 3 cY false\/(cY=[]/\r= .sc (.slice none 0 0)))) ⟨f226.ntmps,(f226.body).getD .skip,[.tmp 8]⟩ (by kernel_rfl) (by kernel_rfl) rfl (by kernel_rfl) (by simp[f226]) rfl ?_;have aa:=λb e h=>Uv n b e x h
 have ae:=λb e h=>FZ n b e h
 have hq:=fU g.cZ;have hg:=mN g.cZ;generalize hP:(λi=>((g.cZ.take i).filter (nE x)).length)=P;have h0:P 0=0:=by rw[<-hP];rfl
 have vu:P g.cZ.length=(g.cZ.filter (nE x)).length:=by rw[<-hP];simp
 have eZ:∀{i:Nat} {d:Ed},g.cZ[i]?=some d->P (i+1)=P i+(if nE x d then 1 else 0):=λ{i d} hc=>by
  rw[<-hP];simp only[Yx,hc,Yo,Zu]
  congr 1
  cases hq:nE x d<;>simp[hq]
 have eG:∀i,P i<=g.cZ.length:=λi=>by rw[<-hP];exact Yn (Xo _ _) (by simp;omega)
 rw[<-vu];clear hP vu;simp only[eY]at aa ae;unfold dn gE;generalize mA g.cZ=cY at hq hg;generalize n+1=M at aa ae;simp[f226];refine eC (C:=cx) (G:=λr=>∃r0 h',eQ _ (eR _ _ (dL _ r) _)=some (r0,h')/\∃r',dq h' 8 r0=some r'/\∃cY:List LA,cY.length=P g.cZ.length/\(r'= .ls 3 cY false\/(cY=[]/\r'= .sc (.slice none 0 0))))
  (λi s=>s.1.length=100/\gt s.1 1=x/\gt s.1 2=()/\gt s.1 3=(3:Int)/\gt s.1 4= .pt 0 0/\gt s.1 10= .sc (.int .i64 i)/\s.2[0]?=some (.row [gh g.nodes,.ls 5 cY false,g.nn,g.ne])/\∃y,gt s.1 9=y/\Uw s.2 (P i) y/\∀k n,y= .sl k 3 0 n false->0<k)
  (λo s=>o= .exit 0/\s.1.length=100/\∃y,gt s.1 9=y/\Uw s.2 (P g.cZ.length) y) g.cZ.length (by simp;omega) (by simp[h0,Uw]) ?_ ?_
 .rintro i fr h n_ ⟨cU,e1,e2,e3,e4,ya,b0,y,e9,hy,X_⟩;simp only at cU e1 e2 e3 e4 ya b0 e9 hy;have rz:0<h.length:=(Za.1 b0).1;by_cases hi:i<g.cZ.length
  .obtain⟨d,hc⟩:=eA hi;have hr:cY[i]?=some [.sc (.int .i64 d.id),.sc (.int .i64 d.src),.sc (.int .i64 d.dst),.sc (.string d.type),iE d.props false]:=by rw[hg,hc];rfl
   have du:=gA hr
   have hf:=di (i:=i) (by omega);have dD:=eZ hc;have Ah:=eG i;have g1:=λb h=>aa b d h
   have g2:=λb h=>ae b d h
   generalize P i=m at dD Ah hy;generalize Qm d x=p at g1;have q0:=oG (show∀v,y≠ .pn v from λv=>by rcases hy with⟨_,rfl⟩|⟨_,id,cs,rfl,_⟩<;>simp)
   have z0:∀A,(h++[A])[0]?=some (.row [gh g.nodes,.ls 5 cY false,g.nn,g.ne]):=λA=>by rw[Zd rz];exact b0
   have Qo:∀A k,(h++[A])[0]'k= .row [gh g.nodes,.ls 5 cY false,g.nn,g.ne]:=λA k=>by
    have:=z0 A;rw[Zb k]at this;simpa using this
   have zs:∀A B,(h++[A]).set h.length B=h++[B]:=λA B=>by simp
   have Ot:Uw (h++[fp.row (mG p)]) m y:=by
    rcases hy with hy|⟨h1,id,cs,h2,h3,h4,h5⟩
    .exact .inl hy
    .exact .inr ⟨h1,id,cs,h2,by rw[Zd (Za.1 h3).1];exact h3,h4,h5⟩
   cases ht:nE x d
   .rw[ht]at g1;simp only[mG]at Ot;simp[cU,e1,e2,e3,e4,e9,ya,b0,Qo,zs,hi,hq,du,hf,g1,dD,ht,mG];exact⟨Ot,X_⟩
   .rw[ht]at g1;obtain⟨id,h2,cs,a1,a2,a3,a4,a5,a6⟩:=Uy (h++[fp.row (mG p)]) m y p Ot (by omega);simp only[mG]at a1 a5 a6 Ot;have w0:=a5 0 _ (z0 _) (λk n e=>by have:=X_ k n e;omega);have w1:=a5 h.length (.row [p.1,p.2.1,p.2.2]) (by simp) (λk n e=>by
     rcases hy with⟨_,rfl⟩|⟨_,qO,cs',rfl,h3,_⟩
     .cases e
     .simp only[AV.sl.injEq]at e;have:=(Za.1 h3).1;omega)
    have agj:(h++[fp.row [AV.sc (.int .i64 p.1),AV.sc (.int .i64 p.2.1),AV.sc (.int .i64 p.2.2)]]).length=h.length+1:=by simp
    rw[agj]at a1 a6;have a1':eE cx (h++[fp.row [AV.sc (.int .i64 p.1),AV.sc (.int .i64 p.2.1),AV.sc (.int .i64 p.2.2)],fp.row [AV.sc (.int .i64 p.1),AV.sc (.int .i64 p.2.1),AV.sc (.int .i64 p.2.2)]]) 238 y (.sl (h.length+1) 3 0 1 false)=some (.sl id 3 0 (m+1) false,h2):=by simpa using a1
    have hnh:id≠h.length:=by omega
    have x9:id≠0:=by omega
    have hpm:m<=100000:=by omega
    rcases hy with⟨s7,rfl⟩|⟨qC,id0,Y4,rfl,py,hcl0,hci0⟩
    .simp[cU,e1,e2,e3,e4,e9,ya,b0,Qo,zs,hi,hq,du,g1,g2,mG,a1'];generalize hX:dS cx (cW cx M) (Code.loop _) _=X;obtain⟨o,lX,h1,rfl,rfl,q0,q1,q2,q3,q4,q9,F6,F7,c0,c1,k,F8,hkm,Qp,c2,c3,c4⟩:=Oq (call:=cW cx M)
      (λk s=>s.1.length=100/\gt s.1 1=x/\gt s.1 2=()/\gt s.1 3=(3:Int)/\gt s.1 4= .pt 0 0/\gt s.1 9= .sl id 3 0 (m+1) false/\gt s.1 10= .sc (.int .i64 i)/\gt s.1 11= .pt h.length 0/\gt s.1 13= .sc (.int .i64 k)/\k<=m/\s.2[0]?=some (.row [gh g.nodes,.ls 5 cY false,g.nn,g.ne])/\s.2[h.length]?=some (.row [p.1,p.2.1,p.2.2])/\∃cs,s.2[id]?=some (.row cs)/\cs.length=(m+1)*3/\aaa cs)
      (λo s=>o= .exit 2/\s.1.length=100/\gt s.1 1=x/\gt s.1 2=()/\gt s.1 3=(3:Int)/\gt s.1 4= .pt 0 0/\gt s.1 9= .sl id 3 0 (m+1) false/\gt s.1 10= .sc (.int .i64 i)/\gt s.1 11= .pt h.length 0/\s.2[0]?=some (.row [gh g.nodes,.ls 5 cY false,g.nn,g.ne])/\s.2[h.length]?=some (.row [p.1,p.2.1,p.2.2])/\∃k:Nat,gt s.1 13= .sc (.int .i64 k)/\k<=m/\∃cs,s.2[id]?=some (.row cs)/\cs.length=(m+1)*3/\aaa cs) m (by simp;omega) X _ _ _ hX (by simp[cU,e1,e2,e3,e4,ya,w0,w1,a2,a3,s7];exact a4) (by
       rintro k lX h1 ⟨q0,q1,q2,q3,q4,q9,F6,F7,F8,hkm,c0,c1,Qp,c2,c3,c4⟩;simp only at q0 q1 q2 q3 q4 q9 F6 F7 F8 c0 c1 c2;rcases Nat.eq_zero_or_pos k with rfl|YG
       .simp[q0,q1,q2,q3,q4,q9,F6,F7,F8,c0,c1,c2];exact⟨0,rfl,by omega,c3,c4⟩
       .obtain⟨k',rfl⟩:∃k',k=k'+1:=⟨k-1,by omega⟩;obtain⟨va,vb,vc,r1,r2,r3⟩:=agi c4 (k:=k') (by omega);have ek:dM .i64 (k':Int)=k':=dh (by omega) (by omega);have g_:k'<m+1:=by omega
        have hz:(0:Int)<=(k':Int)+1:=by omega
        have Uz:k'+1<m+1:=by omega
        have yc:k'*3+3<=Qp.length:=by omega
        have SN:(k'+1)*3+3<=Qp.length:=by omega
        have st:∀B,(h1.set id B)[0]?=h1[0]?/\(h1.set id B)[h.length]?=h1[h.length]?/\(h1.set id B)[id]?=some B:=λB=>⟨Zq x9,Zq hnh,Zj (Za.1 c2).1⟩
        have pY:(da Qp ((k'+1)*3) [va,vb,vc]).length=(m+1)*3:=by rw[ko (by simp;omega)];exact c3
        have Ev:=sD (off:=(k'+1)*3) c4 (show[AV.sc (.int .i64 va),.sc (.int .i64 vb),.sc (.int .i64 vc)].all Ix=true from rfl);by_cases k1:p.2.1<vb
        .simp[q0,q1,q2,q3,q4,q9,F6,F7,F8,c0,c1,c2,r1,r2,ek,g_,Uz,yc,SN,k1,st,hz];exact⟨k',by omega,rfl,by omega,by omega,by unfold da at Ev;rw[Zp]at Ev;exact Ev⟩
        .by_cases k2:p.2.1=vb
         .by_cases k3:p.2.2<vc
          .simp[q0,q1,q2,q3,q4,q9,F6,F7,F8,c0,c1,c2,r1,r2,r3,ek,g_,Uz,yc,SN,k2,k3,st,hz];exact⟨k',by omega,rfl,by omega,by omega,by unfold da at Ev;rw[Zp]at Ev;exact Ev⟩
          .simp[q0,q1,q2,q3,q4,q9,F6,F7,F8,c0,c1,c2,r2,r3,ek,g_,k2,k3];exact⟨k'+1,by omega,by omega,c3,c4⟩
         .simp[q0,q1,q2,q3,q4,q9,F6,F7,F8,c0,c1,c2,r2,ek,g_,k1,k2];exact⟨k'+1,by omega,by omega,c3,c4⟩)
     simp only at q0 q1 q2 q3 q4 q9 F6 F7 F8 c0 c1 c2;have yc:k*3+3<=Qp.length:=by omega
     have g_:k<m+1:=by omega
     have st:∀B,(h1.set id B)[0]?=h1[0]?/\(h1.set id B)[h.length]?=h1[h.length]?/\(h1.set id B)[id]?=some B:=λB=>⟨Zq x9,Zq hnh,Zj (Za.1 c2).1⟩
     have Ev:=sD (off:=k*3) c4 (show(mG p).all Ix=true from rfl);have KS:(da Qp (k*3) (mG p)).length=(m+1)*3:=by rw[ko (by simp[mG];omega)];exact c3
     simp only[da,mG,Zp]at Ev KS;simp[q0,q1,q2,q3,q4,q9,F6,F7,F8,c0,c1,c2,g_,yc,dD,ht,hf,hi,st];exact⟨.inr ⟨by omega,id,_,rfl,(st _).2.2,KS,Ev⟩,by omega⟩
    .simp[cU,e1,e2,e3,e4,e9,ya,b0,Qo,zs,hi,hq,du,g1,g2,mG,a1'];generalize hX:dS cx (cW cx M) (Code.loop _) _=X;obtain⟨o,lX,h1,rfl,rfl,q0,q1,q2,q3,q4,q9,F6,F7,c0,c1,k,F8,hkm,Qp,c2,c3,c4⟩:=Oq (call:=cW cx M)
      (λk s=>s.1.length=100/\gt s.1 1=x/\gt s.1 2=()/\gt s.1 3=(3:Int)/\gt s.1 4= .pt 0 0/\gt s.1 9= .sl id 3 0 (m+1) false/\gt s.1 10= .sc (.int .i64 i)/\gt s.1 11= .pt h.length 0/\gt s.1 13= .sc (.int .i64 k)/\k<=m/\s.2[0]?=some (.row [gh g.nodes,.ls 5 cY false,g.nn,g.ne])/\s.2[h.length]?=some (.row [p.1,p.2.1,p.2.2])/\∃cs,s.2[id]?=some (.row cs)/\cs.length=(m+1)*3/\aaa cs)
      (λo s=>o= .exit 2/\s.1.length=100/\gt s.1 1=x/\gt s.1 2=()/\gt s.1 3=(3:Int)/\gt s.1 4= .pt 0 0/\gt s.1 9= .sl id 3 0 (m+1) false/\gt s.1 10= .sc (.int .i64 i)/\gt s.1 11= .pt h.length 0/\s.2[0]?=some (.row [gh g.nodes,.ls 5 cY false,g.nn,g.ne])/\s.2[h.length]?=some (.row [p.1,p.2.1,p.2.2])/\∃k:Nat,gt s.1 13= .sc (.int .i64 k)/\k<=m/\∃cs,s.2[id]?=some (.row cs)/\cs.length=(m+1)*3/\aaa cs) m (by simp;omega) X _ _ _ hX (by simp[cU,e1,e2,e3,e4,ya,w0,w1,a2,a3];exact a4) (by
       rintro k lX h1 ⟨q0,q1,q2,q3,q4,q9,F6,F7,F8,hkm,c0,c1,Qp,c2,c3,c4⟩;simp only at q0 q1 q2 q3 q4 q9 F6 F7 F8 c0 c1 c2;rcases Nat.eq_zero_or_pos k with rfl|YG
       .simp[q0,q1,q2,q3,q4,q9,F6,F7,F8,c0,c1,c2];exact⟨0,rfl,by omega,c3,c4⟩
       .obtain⟨k',rfl⟩:∃k',k=k'+1:=⟨k-1,by omega⟩;obtain⟨va,vb,vc,r1,r2,r3⟩:=agi c4 (k:=k') (by omega);have ek:dM .i64 (k':Int)=k':=dh (by omega) (by omega);have g_:k'<m+1:=by omega
        have hz:(0:Int)<=(k':Int)+1:=by omega
        have Uz:k'+1<m+1:=by omega
        have yc:k'*3+3<=Qp.length:=by omega
        have SN:(k'+1)*3+3<=Qp.length:=by omega
        have st:∀B,(h1.set id B)[0]?=h1[0]?/\(h1.set id B)[h.length]?=h1[h.length]?/\(h1.set id B)[id]?=some B:=λB=>⟨Zq x9,Zq hnh,Zj (Za.1 c2).1⟩
        have pY:(da Qp ((k'+1)*3) [va,vb,vc]).length=(m+1)*3:=by rw[ko (by simp;omega)];exact c3
        have Ev:=sD (off:=(k'+1)*3) c4 (show[AV.sc (.int .i64 va),.sc (.int .i64 vb),.sc (.int .i64 vc)].all Ix=true from rfl);by_cases k1:p.2.1<vb
        .simp[q0,q1,q2,q3,q4,q9,F6,F7,F8,c0,c1,c2,r1,r2,ek,g_,Uz,yc,SN,k1,st,hz];exact⟨k',by omega,rfl,by omega,by omega,by unfold da at Ev;rw[Zp]at Ev;exact Ev⟩
        .by_cases k2:p.2.1=vb
         .by_cases k3:p.2.2<vc
          .simp[q0,q1,q2,q3,q4,q9,F6,F7,F8,c0,c1,c2,r1,r2,r3,ek,g_,Uz,yc,SN,k2,k3,st,hz];exact⟨k',by omega,rfl,by omega,by omega,by unfold da at Ev;rw[Zp]at Ev;exact Ev⟩
          .simp[q0,q1,q2,q3,q4,q9,F6,F7,F8,c0,c1,c2,r2,r3,ek,g_,k2,k3];exact⟨k'+1,by omega,by omega,c3,c4⟩
         .simp[q0,q1,q2,q3,q4,q9,F6,F7,F8,c0,c1,c2,r2,ek,g_,k1,k2];exact⟨k'+1,by omega,by omega,c3,c4⟩)
     simp only at q0 q1 q2 q3 q4 q9 F6 F7 F8 c0 c1 c2;have yc:k*3+3<=Qp.length:=by omega
     have g_:k<m+1:=by omega
     have st:∀B,(h1.set id B)[0]?=h1[0]?/\(h1.set id B)[h.length]?=h1[h.length]?/\(h1.set id B)[id]?=some B:=λB=>⟨Zq x9,Zq hnh,Zj (Za.1 c2).1⟩
     have Ev:=sD (off:=k*3) c4 (show(mG p).all Ix=true from rfl);have KS:(da Qp (k*3) (mG p)).length=(m+1)*3:=by rw[ko (by simp[mG];omega)];exact c3
     simp only[da,mG,Zp]at Ev KS;simp[q0,q1,q2,q3,q4,q9,F6,F7,F8,c0,c1,c2,g_,yc,dD,ht,hf,hi,st];exact⟨.inr ⟨by omega,id,_,rfl,(st _).2.2,KS,Ev⟩,by omega⟩
  .have gG:i=g.cZ.length:=by omega
   subst gG;simp[cU,e4,e9,ya,b0,hq];exact hy
 .rintro o fr h hn ⟨rfl,cU,y,e9,hy⟩;simp only at cU e9 hy;rcases hy with⟨s7,rfl⟩|⟨qC,id,cs,rfl,dC,fq,SP⟩
  .simp[cU,e9];exact gz ⟨_,rfl,[],by simp[s7],.inr ⟨rfl,rfl⟩⟩
  .simp[cU,e9];refine⟨_,_,⟨rfl,rfl⟩,.ls 3 ((List.range (P g.cZ.length)).map λi=>(cs.drop (i*3)).take 3) false,?_,_,by simp,.inl rfl⟩;simp only[dq,jQ dC,Xb,List.drop_zero];rw[dd (by omega),Ys (by omega),kX (Ux SP)];rfl
def UA (n:Nat)(b:Bool)(g:Gr)(x:Int)(h:Hp)(hl:g.cZ.length<=100000):cW cx (n+3) b 156 [.ag (dn g),x] h=some (.sc (.bool (g.cZ.any (nE x))),h):=by
 refine fZ f156 [.tmp 4] (Bt _ _) rfl ?_ b h;obtain⟨r,⟨cY,h1,h2⟩,aa⟩:=Qn n g x hl;have ajP:g.cZ.any (nE x)=decide (0<cY.length):=by
  rw[h1,Bool.eq_iff_iff,decide_eq_true_iff,List.length_pos_iff,List.any_eq_true];constructor
  .rintro⟨e,he,ht⟩ hn;have:=List.mem_filter.2 ⟨he,ht⟩;rw[hn]at this;cases this
  .intro hn;obtain⟨e,he⟩:=List.exists_mem_of_ne_nil _ hn;exact⟨e,(List.mem_filter.1 he).1,(List.mem_filter.1 he).2⟩
 simp only[dn]at aa;generalize n+2=M at aa;rw[ajP];rcases h2 with rfl|⟨rfl,rfl⟩
 .simp[f156,dn,aa]
 .simp[f156,dn,aa]
def kI (g:Gr)(c:Ch):[AV.ag (dn g),.ag (dp c)].all d_=true:=by
 have h1:=rj c;rw[Zn,Zh]at h1;rw[Zn,Zn,h1.1];rfl
def eU {l pre gj post:List Nd}{x:Int}(h:iX (qM x) (qp x) l pre gj post):dQ l x=gj.head?:=by
 rw[<-h.find];unfold dQ
 congr 1
def fm {l pre gj post:List Ed}{x:Int}(h:iX (xf x) (wa x) l pre gj post):je l x=gj.head?:=by
 rw[<-h.find];unfold je
 congr 1
structure Ou (D:Nat)(g:Gr)(c:Ch)(pn mn qn:List Nd)(pe me qe:List Ed):Prop where
 nl:g.nodes.length<=100000
 el:g.cZ.length<=100000
 sn:iX (qM c.a) (qp c.a) g.nodes pn mn qn
 se:iX (xf c.a) (wa c.a) g.cZ pe me qe
 Z6:0<=c.a/\c.a<=1000000000
 hd:fB c.v<=D
 hv:gV c.v
def F9 (N D:Nat)(b:Bool)(g:Gr)(c:Ch)(h:Hp)(hd:fB c.v<=D)(hv:gV c.v)(he:¬dr c=0):
 cW cx (N+3*D+10) b 43 [.ag (dn g),.ag (dp c)] h=some (.tp [.ag (dn (iq)),.sc (.int .i64 (dr c))],h):=by
 refine nA f43 [.cell 4 4 true,.tmp 5] (kI _ _) ?_ b h;have fC:=λb h=>iC (N:=N+1) (D:=D) b c h hd hv
 rw[show N+1+3*D+8=N+3*D+9 by omega]at fC;simp only[dp,Zv,Zw]at fC;generalize N+3*D+9=M at fC;generalize dr c=e at fC he;simp[f43,dn,dp,fC,he];exact gz ⟨_,rfl,iD _⟩
def Iy (N D:Nat)(b:Bool)(g:Gr)(c:Ch)(pn mn qn:List Nd)(pe me qe:List Ed)(h:Hp)(H:Ou D g c pn mn qn pe me qe)(he:dr c=0)(hk:c.k=1)(n:Nd)(SQ:mn=[n])(o:Option Ed)(Hk:me.head?=o):
 cW cx (N+3*D+10) b 43 [.ag (dn g),.ag (dp c)] h=some (.tp [.ag (dn (iq)),.sc (.int .i64 (7))],h):=by
 refine nA f43 [.cell 4 4 true,.tmp 5] (kI _ _) ?_ b h;have fC:=λb h=>iC (N:=N+1) (D:=D) b c h H.hd H.hv
 have fN:=λb x h=>jq (N+3*D+8) b g x h (Yn H.nl (by omega))
 have fE:=λb x h=>jO (N+3*D+8) b g x h (Yn H.el (by omega))
 have jV:=λb h=>fN b c.a h
 have j9:=λb h=>fE b c.a h
 rw[eU H.sn]at jV;rw[fm H.se]at j9;rw[show N+1+3*D+8=N+3*D+9 by omega]at fC;simp only[he,hk,dp,Zv,Zw]at fC;simp only[SQ,Hk,List.head?_cons,Qb,Br,eo,dn,gh,gE,iK,iE]at jV j9;generalize N+3*D+9=M at fC jV j9;cases o with
 |
  none=>
  simp only[Az,Qc]at j9;simp[f43,dn,gh,gE,dp,fC,jV,j9,hk];exact gz ⟨_,rfl,iD _⟩
 |
  some e=>
  simp only[Az,Qb,eY,iE]at j9;simp[f43,dn,gh,gE,dp,fC,jV,j9,hk];exact gz ⟨_,rfl,iD _⟩
def Iz (N D:Nat)(b:Bool)(g:Gr)(c:Ch)(pn mn qn:List Nd)(pe me qe:List Ed)(h:Hp)(H:Ou D g c pn mn qn pe me qe)(he:dr c=0)(hk:c.k=1)(SQ:mn=[])(hl:2000<=g.nodes.length):
 cW cx (N+3*D+10) b 43 [.ag (dn g),.ag (dp c)] h=some (.tp [.ag (dn (iq)),.sc (.int .i64 (20))],h):=by
 refine nA f43 [.cell 4 4 true,.tmp 5] (kI _ _) ?_ b h;have fC:=λb h=>iC (N:=N+1) (D:=D) b c h H.hd H.hv
 have fN:=λb x h=>jq (N+3*D+8) b g x h (Yn H.nl (by omega))
 have fE:=λb x h=>jO (N+3*D+8) b g x h (Yn H.el (by omega))
 have jV:=λb h=>fN b c.a h
 have j9:=λb h=>fE b c.a h
 rw[eU H.sn]at jV;rw[fm H.se]at j9;rw[show N+1+3*D+8=N+3*D+9 by omega]at fC;simp only[he,hk,dp,Zv,Zw]at fC;simp only[SQ,List.head?_nil,Qc,Br,dn,gh,gE]at jV;have hq:=fJ g.nodes;generalize N+3*D+9=M at fC jV j9;have Dy:(2000:Int)<=g.nodes.length:=by omega
 cases ho:me.head? with
 |
  none=>
  simp only[ho,Az,Qc,dn,gh,gE]at j9;simp[f43,dn,gh,gE,dp,fC,jV,j9,hk,hq,Dy];exact gz ⟨_,rfl,iD _⟩
 |
  some e=>
  simp only[ho,Az,Qb,eY,dn,gh,gE,iE]at j9;simp[f43,dn,gh,gE,dp,fC,jV,j9,hk,hq,Dy];exact gz ⟨_,rfl,iD _⟩
def IA (N D:Nat)(b:Bool)(g:Gr)(c:Ch)(pn mn qn:List Nd)(pe me qe:List Ed)(h:Hp)(H:Ou D g c pn mn qn pe me qe)(he:dr c=0)(hk:c.k=1)(SQ:mn=[])(hl:g.nodes.length<2000):
 cW cx (N+3*D+10) b 43 [.ag (dn g),.ag (dp c)] h=some (.tp [.ag (dn (rA g pn qn ⟨c.a,[],[]⟩)),.sc (.int .i64 (0))],h):=by
 refine nA f43 [.cell 4 4 true,.tmp 5] (kI _ _) ?_ b h;have fC:=λb h=>iC (N:=N+1) (D:=D) b c h H.hd H.hv
 have fN:=λb x h=>jq (N+3*D+8) b g x h (Yn H.nl (by omega))
 have fE:=λb x h=>jO (N+3*D+8) b g x h (Yn H.el (by omega))
 have jV:=λb h=>fN b c.a h
 have j9:=λb h=>fE b c.a h
 rw[eU H.sn]at jV;rw[fm H.se]at j9;rw[show N+1+3*D+8=N+3*D+9 by omega]at fC;simp only[he,hk,dp,Zv,Zw]at fC;simp only[SQ,List.head?_nil,Qc,Br,dn,gh,gE]at jV;have hq:=fJ g.nodes;have av:=λb h=>qq (N+3*D+8) b g c.a (.sc (.slice none 0 0)) (.sc (.slice none 0 0)) ⟨c.a,[],[]⟩ pn [] qn h H.nl rfl rfl rfl (by have:=H.sn;rw[SQ]at this;exact this) H.Z6
 simp only[dn,gh,gE]at av;generalize N+3*D+9=M at fC jV j9 av;have Dy:¬(2000:Int)<=g.nodes.length:=by omega
 cases ho:me.head? with
 |
  none=>
  simp only[ho,Az,Qc,dn,gh,gE]at j9;simp[f43,dn,gh,gE,dp,fC,jV,j9,hk,hq,Dy,av];exact gz ⟨_,rfl,lA (rA g pn qn ⟨c.a,[],[]⟩) _⟩
 |
  some e=>
  simp only[ho,Az,Qb,eY,dn,gh,gE,iE]at j9;simp[f43,dn,gh,gE,dp,fC,jV,j9,hk,hq,Dy,av];exact gz ⟨_,rfl,lA (rA g pn qn ⟨c.a,[],[]⟩) _⟩
def IB (N D:Nat)(b:Bool)(g:Gr)(c:Ch)(pn mn qn:List Nd)(pe me qe:List Ed)(h:Hp)(H:Ou D g c pn mn qn pe me qe)(he:dr c=0)(h1:¬c.k=1)(h6:¬c.k=6)(h7:¬c.k=7)(h8:¬c.k=8)(SQ:mn=[]):
 cW cx (N+3*D+10) b 43 [.ag (dn g),.ag (dp c)] h=some (.tp [.ag (dn (iq)),.sc (.int .i64 (10))],h):=by
 refine nA f43 [.cell 4 4 true,.tmp 5] (kI _ _) ?_ b h;have fC:=λb h=>iC (N:=N+1) (D:=D) b c h H.hd H.hv
 have fN:=λb x h=>jq (N+3*D+8) b g x h (Yn H.nl (by omega))
 have fE:=λb x h=>jO (N+3*D+8) b g x h (Yn H.el (by omega))
 have jV:=λb h=>fN b c.a h
 have j9:=λb h=>fE b c.a h
 rw[eU H.sn]at jV;rw[fm H.se]at j9;rw[show N+1+3*D+8=N+3*D+9 by omega]at fC;simp only[he,dp,Zv,Zw]at fC;simp only[SQ,List.head?_nil,Qc,Br,dn,gh,gE]at jV;generalize N+3*D+9=M at fC jV j9;cases ho:me.head? with
 |
  none=>
  simp only[ho,Az,Qc,dn,gh,gE]at j9;simp[f43,dn,gh,gE,dp,fC,jV,j9,h1,h6,h7,h8];exact gz ⟨_,rfl,iD _⟩
 |
  some e=>
  simp only[ho,Az,Qb,eY,dn,gh,gE,iE]at j9;simp[f43,dn,gh,gE,dp,fC,jV,j9,h1,h6,h7,h8];exact gz ⟨_,rfl,iD _⟩
def IC (N D:Nat)(b:Bool)(g:Gr)(c:Ch)(pn mn qn:List Nd)(pe me qe:List Ed)(h:Hp)(H:Ou D g c pn mn qn pe me qe)(he:dr c=0)(h1:¬c.k=1)(h6:¬c.k=6)(h7:¬c.k=7)(h8:¬c.k=8)(n:Nd)(SQ:mn=[n])(G:Gr)(E:Int)(F_:∀b h,cW cx (N+3*D+9) b 94 [.ag (dn g),.ag (dp c),.ag (eo n)] h=some (.tp [.ag (dn G),E],h)):
 cW cx (N+3*D+10) b 43 [.ag (dn g),.ag (dp c)] h=some (.tp [.ag (dn (G)),.sc (.int .i64 (E))],h):=by
 refine nA f43 [.cell 4 4 true,.tmp 5] (kI _ _) ?_ b h;have fC:=λb h=>iC (N:=N+1) (D:=D) b c h H.hd H.hv
 have fN:=λb x h=>jq (N+3*D+8) b g x h (Yn H.nl (by omega))
 have fE:=λb x h=>jO (N+3*D+8) b g x h (Yn H.el (by omega))
 have jV:=λb h=>fN b c.a h
 have j9:=λb h=>fE b c.a h
 rw[eU H.sn]at jV;rw[fm H.se]at j9;rw[show N+1+3*D+8=N+3*D+9 by omega]at fC;simp only[he,dp,Zv,Zw]at fC;simp only[SQ,List.head?_cons,Qb,Br,eo,dn,gh,gE,iK,iE]at jV;simp only[dp,Zv,Zw,eo,dn,gh,gE,iK,iE]at F_;generalize N+3*D+9=M at fC jV j9 F_;cases ho:me.head? with
 |
  none=>
  simp only[ho,Az,Qc,dn,gh,gE]at j9;simp[f43,dn,gh,gE,dp,fC,jV,j9,h1,h6,h7,h8,F_];exact gz ⟨_,rfl,lA G _⟩
 |
  some e=>
  simp only[ho,Az,Qb,eY,dn,gh,gE,iE]at j9;simp[f43,dn,gh,gE,dp,fC,jV,j9,h1,h6,h7,h8,F_];exact gz ⟨_,rfl,lA G _⟩
def Dz (N D:Nat)(b:Bool)(g:Gr)(c:Ch)(pn mn qn:List Nd)(pe me qe:List Ed)(h:Hp)(H:Ou D g c pn mn qn pe me qe)(he:dr c=0)(hk:c.k=7)(Hk:me=[]):
 cW cx (N+3*D+10) b 43 [.ag (dn g),.ag (dp c)] h=some (.tp [.ag (dn (iq)),.sc (.int .i64 (11))],h):=by
 refine nA f43 [.cell 4 4 true,.tmp 5] (kI _ _) ?_ b h;have fC:=λb h=>iC (N:=N+1) (D:=D) b c h H.hd H.hv
 have fN:=λb x h=>jq (N+3*D+8) b g x h (Yn H.nl (by omega))
 have fE:=λb x h=>jO (N+3*D+8) b g x h (Yn H.el (by omega))
 have jV:=λb h=>fN b c.a h
 have j9:=λb h=>fE b c.a h
 rw[eU H.sn]at jV;rw[fm H.se]at j9;rw[show N+1+3*D+8=N+3*D+9 by omega]at fC;simp only[he,hk,dp,Zv,Zw]at fC;simp only[Hk,List.head?_nil,Qc,Az,dn,gh,gE]at j9;generalize N+3*D+9=M at fC jV j9;cases ho:mn.head? with
 |
  none=>
  simp only[ho,Br,Qc,dn,gh,gE]at jV;simp[f43,dn,gh,gE,dp,fC,jV,j9,hk];exact gz ⟨_,rfl,iD _⟩
 |
  some nn=>
  simp only[ho,Br,Qb,eo,dn,gh,gE,iK,iE]at jV;simp[f43,dn,gh,gE,dp,fC,jV,j9,hk];exact gz ⟨_,rfl,iD _⟩
def DA (N D:Nat)(b:Bool)(g:Gr)(c:Ch)(pn mn qn:List Nd)(pe me qe:List Ed)(h:Hp)(H:Ou D g c pn mn qn pe me qe)(he:dr c=0)(hk:c.k=7)(n:Ed)(Hk:me=[n])(G:Gr)(E:Int)(F_:∀b h,cW cx (N+3*D+9) b 93 [.ag (dn g),.ag (dp c),.ag (eY n)] h=some (.tp [.ag (dn G),E],h)):
 cW cx (N+3*D+10) b 43 [.ag (dn g),.ag (dp c)] h=some (.tp [.ag (dn (G)),.sc (.int .i64 (E))],h):=by
 refine nA f43 [.cell 4 4 true,.tmp 5] (kI _ _) ?_ b h;have fC:=λb h=>iC (N:=N+1) (D:=D) b c h H.hd H.hv
 have fN:=λb x h=>jq (N+3*D+8) b g x h (Yn H.nl (by omega))
 have fE:=λb x h=>jO (N+3*D+8) b g x h (Yn H.el (by omega))
 have jV:=λb h=>fN b c.a h
 have j9:=λb h=>fE b c.a h
 rw[eU H.sn]at jV;rw[fm H.se]at j9;rw[show N+1+3*D+8=N+3*D+9 by omega]at fC;simp only[he,hk,dp,Zv,Zw]at fC;simp only[Hk,List.head?_cons,Qb,Az,eY,dn,gh,gE,iE]at j9;simp only[hk,dp,Zv,Zw,eY,dn,gh,gE,iE]at F_;generalize N+3*D+9=M at fC jV j9 F_;cases ho:mn.head? with
 |
  none=>
  simp only[ho,Br,Qc,dn,gh,gE]at jV;simp[f43,dn,gh,gE,dp,fC,jV,j9,hk,F_];exact gz ⟨_,rfl,lA G _⟩
 |
  some nn=>
  simp only[ho,Br,Qb,eo,dn,gh,gE,iK,iE]at jV;simp[f43,dn,gh,gE,dp,fC,jV,j9,hk,F_];exact gz ⟨_,rfl,lA G _⟩
def DB (N D:Nat)(b:Bool)(g:Gr)(c:Ch)(pn mn qn:List Nd)(pe me qe:List Ed)(h:Hp)(H:Ou D g c pn mn qn pe me qe)(he:dr c=0)(hk:c.k=8)(Hk:me=[]):
 cW cx (N+3*D+10) b 43 [.ag (dn g),.ag (dp c)] h=some (.tp [.ag (dn (iq)),.sc (.int .i64 (11))],h):=by
 refine nA f43 [.cell 4 4 true,.tmp 5] (kI _ _) ?_ b h;have fC:=λb h=>iC (N:=N+1) (D:=D) b c h H.hd H.hv
 have fN:=λb x h=>jq (N+3*D+8) b g x h (Yn H.nl (by omega))
 have fE:=λb x h=>jO (N+3*D+8) b g x h (Yn H.el (by omega))
 have jV:=λb h=>fN b c.a h
 have j9:=λb h=>fE b c.a h
 rw[eU H.sn]at jV;rw[fm H.se]at j9;rw[show N+1+3*D+8=N+3*D+9 by omega]at fC;simp only[he,hk,dp,Zv,Zw]at fC;simp only[Hk,List.head?_nil,Qc,Az,dn,gh,gE]at j9;generalize N+3*D+9=M at fC jV j9;cases ho:mn.head? with
 |
  none=>
  simp only[ho,Br,Qc,dn,gh,gE]at jV;simp[f43,dn,gh,gE,dp,fC,jV,j9,hk];exact gz ⟨_,rfl,iD _⟩
 |
  some nn=>
  simp only[ho,Br,Qb,eo,dn,gh,gE,iK,iE]at jV;simp[f43,dn,gh,gE,dp,fC,jV,j9,hk];exact gz ⟨_,rfl,iD _⟩
def DC (N D:Nat)(b:Bool)(g:Gr)(c:Ch)(pn mn qn:List Nd)(pe me qe:List Ed)(h:Hp)(H:Ou D g c pn mn qn pe me qe)(he:dr c=0)(hk:c.k=8)(n:Ed)(Hk:me=[n])(G:Gr)(E:Int)(F_:∀b h,cW cx (N+3*D+9) b 93 [.ag (dn g),.ag (dp c),.ag (eY n)] h=some (.tp [.ag (dn G),E],h)):
 cW cx (N+3*D+10) b 43 [.ag (dn g),.ag (dp c)] h=some (.tp [.ag (dn (G)),.sc (.int .i64 (E))],h):=by
 refine nA f43 [.cell 4 4 true,.tmp 5] (kI _ _) ?_ b h;have fC:=λb h=>iC (N:=N+1) (D:=D) b c h H.hd H.hv
 have fN:=λb x h=>jq (N+3*D+8) b g x h (Yn H.nl (by omega))
 have fE:=λb x h=>jO (N+3*D+8) b g x h (Yn H.el (by omega))
 have jV:=λb h=>fN b c.a h
 have j9:=λb h=>fE b c.a h
 rw[eU H.sn]at jV;rw[fm H.se]at j9;rw[show N+1+3*D+8=N+3*D+9 by omega]at fC;simp only[he,hk,dp,Zv,Zw]at fC;simp only[Hk,List.head?_cons,Qb,Az,eY,dn,gh,gE,iE]at j9;simp only[hk,dp,Zv,Zw,eY,dn,gh,gE,iE]at F_;generalize N+3*D+9=M at fC jV j9 F_;cases ho:mn.head? with
 |
  none=>
  simp only[ho,Br,Qc,dn,gh,gE]at jV;simp[f43,dn,gh,gE,dp,fC,jV,j9,hk,F_];exact gz ⟨_,rfl,lA G _⟩
 |
  some nn=>
  simp only[ho,Br,Qb,eo,dn,gh,gE,iK,iE]at jV;simp[f43,dn,gh,gE,dp,fC,jV,j9,hk,F_];exact gz ⟨_,rfl,lA G _⟩
def ID (N D:Nat)(b:Bool)(g:Gr)(c:Ch)(pn mn qn:List Nd)(pe me qe:List Ed)(h:Hp)(H:Ou D g c pn mn qn pe me qe)(he:dr c=0)(hk:c.k=6)(n:Ed)(Hk:me=[n]):
 cW cx (N+3*D+10) b 43 [.ag (dn g),.ag (dp c)] h=some (.tp [.ag (dn (iq)),.sc (.int .i64 (7))],h):=by
 refine nA f43 [.cell 4 4 true,.tmp 5] (kI _ _) ?_ b h;have fC:=λb h=>iC (N:=N+1) (D:=D) b c h H.hd H.hv
 have fN:=λb x h=>jq (N+3*D+8) b g x h (Yn H.nl (by omega))
 have fE:=λb x h=>jO (N+3*D+8) b g x h (Yn H.el (by omega))
 have jV:=λb h=>fN b c.a h
 have j9:=λb h=>fE b c.a h
 rw[eU H.sn]at jV;rw[fm H.se]at j9;rw[show N+1+3*D+8=N+3*D+9 by omega]at fC;simp only[he,hk,dp,Zv,Zw]at fC;have Ga:=λb h=>fN b c.b h
 have Gb:=λb h=>fN b c.c h
 have HB:True=True:=rfl;simp only[Hk,List.head?_cons,Qb,Az,eY,dn,gh,gE,iE]at j9;generalize N+3*D+9=M at fC jV j9 Ga Gb fN fE;clear fN fE;generalize mn.head?=oa at jV HB;generalize dQ g.nodes c.b=ob at Ga HB;generalize dQ g.nodes c.c=oc at Gb HB;rcases oa with _|na<;>rcases ob with _|nb<;>rcases oc with _|nc<;>simp only[Br,Qb,Qc,eo,dn,gh,gE,iK,iE]at jV Ga Gb HB<;>first|(exfalso;revert HB;decide)|skip
 all_goals (simp[f43,dn,gh,gE,dp,fC,jV,j9,hk,Ga,Gb];exact gz ⟨_,rfl,iD _⟩)
def IE (N D:Nat)(b:Bool)(g:Gr)(c:Ch)(pn mn qn:List Nd)(pe me qe:List Ed)(h:Hp)(H:Ou D g c pn mn qn pe me qe)(he:dr c=0)(hk:c.k=6)(Hk:me=[])(HB:((dQ g.nodes c.b).isSome && (dQ g.nodes c.c).isSome)=false):
 cW cx (N+3*D+10) b 43 [.ag (dn g),.ag (dp c)] h=some (.tp [.ag (dn (iq)),.sc (.int .i64 (10))],h):=by
 refine nA f43 [.cell 4 4 true,.tmp 5] (kI _ _) ?_ b h;have fC:=λb h=>iC (N:=N+1) (D:=D) b c h H.hd H.hv
 have fN:=λb x h=>jq (N+3*D+8) b g x h (Yn H.nl (by omega))
 have fE:=λb x h=>jO (N+3*D+8) b g x h (Yn H.el (by omega))
 have jV:=λb h=>fN b c.a h
 have j9:=λb h=>fE b c.a h
 rw[eU H.sn]at jV;rw[fm H.se]at j9;rw[show N+1+3*D+8=N+3*D+9 by omega]at fC;simp only[he,hk,dp,Zv,Zw]at fC;have Ga:=λb h=>fN b c.b h
 have Gb:=λb h=>fN b c.c h
 simp only[Hk,List.head?_nil,Qc,Az,dn,gh,gE]at j9;generalize N+3*D+9=M at fC jV j9 Ga Gb fN fE;clear fN fE;generalize mn.head?=oa at jV HB;generalize dQ g.nodes c.b=ob at Ga HB;generalize dQ g.nodes c.c=oc at Gb HB;rcases oa with _|na<;>rcases ob with _|nb<;>rcases oc with _|nc<;>simp only[Br,Qb,Qc,eo,dn,gh,gE,iK,iE]at jV Ga Gb HB<;>first|(exfalso;revert HB;decide)|skip
 all_goals (simp[f43,dn,gh,gE,dp,fC,jV,j9,hk,Ga,Gb];exact gz ⟨_,rfl,iD _⟩)
def IG (N D:Nat)(b:Bool)(g:Gr)(c:Ch)(pn mn qn:List Nd)(pe me qe:List Ed)(h:Hp)(H:Ou D g c pn mn qn pe me qe)(he:dr c=0)(hk:c.k=6)(Hk:me=[])(HB:((dQ g.nodes c.b).isSome && (dQ g.nodes c.c).isSome)=true)(hl:4000<=g.cZ.length):
 cW cx (N+3*D+10) b 43 [.ag (dn g),.ag (dp c)] h=some (.tp [.ag (dn (iq)),.sc (.int .i64 (20))],h):=by
 refine nA f43 [.cell 4 4 true,.tmp 5] (kI _ _) ?_ b h;have fC:=λb h=>iC (N:=N+1) (D:=D) b c h H.hd H.hv
 have fN:=λb x h=>jq (N+3*D+8) b g x h (Yn H.nl (by omega))
 have fE:=λb x h=>jO (N+3*D+8) b g x h (Yn H.el (by omega))
 have jV:=λb h=>fN b c.a h
 have j9:=λb h=>fE b c.a h
 rw[eU H.sn]at jV;rw[fm H.se]at j9;rw[show N+1+3*D+8=N+3*D+9 by omega]at fC;simp only[he,hk,dp,Zv,Zw]at fC;have Ga:=λb h=>fN b c.b h
 have Gb:=λb h=>fN b c.c h
 have hq:=fU g.cZ;have Dy:(4000:Int)<=g.cZ.length:=by omega
 simp only[Hk,List.head?_nil,Qc,Az,dn,gh,gE]at j9;generalize N+3*D+9=M at fC jV j9 Ga Gb fN fE;clear fN fE;generalize mn.head?=oa at jV HB;generalize dQ g.nodes c.b=ob at Ga HB;generalize dQ g.nodes c.c=oc at Gb HB;rcases oa with _|na<;>rcases ob with _|nb<;>rcases oc with _|nc<;>simp only[Br,Qb,Qc,eo,dn,gh,gE,iK,iE]at jV Ga Gb HB<;>first|(exfalso;revert HB;decide)|skip
 all_goals (simp[f43,dn,gh,gE,dp,fC,jV,j9,hk,Ga,Gb,hq,Dy];exact gz ⟨_,rfl,iD _⟩)
def IH (N D:Nat)(b:Bool)(g:Gr)(c:Ch)(pn mn qn:List Nd)(pe me qe:List Ed)(h:Hp)(H:Ou D g c pn mn qn pe me qe)(he:dr c=0)(hk:c.k=6)(Hk:me=[])(HB:((dQ g.nodes c.b).isSome && (dQ g.nodes c.c).isSome)=true)(hl:g.cZ.length<4000):
 cW cx (N+3*D+10) b 43 [.ag (dn g),.ag (dp c)] h=some (.tp [.ag (dn (rB g pe qe ⟨c.a,c.b,c.c,c.name,[]⟩)),.sc (.int .i64 (0))],h):=by
 refine nA f43 [.cell 4 4 true,.tmp 5] (kI _ _) ?_ b h;have fC:=λb h=>iC (N:=N+1) (D:=D) b c h H.hd H.hv
 have fN:=λb x h=>jq (N+3*D+8) b g x h (Yn H.nl (by omega))
 have fE:=λb x h=>jO (N+3*D+8) b g x h (Yn H.el (by omega))
 have jV:=λb h=>fN b c.a h
 have j9:=λb h=>fE b c.a h
 rw[eU H.sn]at jV;rw[fm H.se]at j9;rw[show N+1+3*D+8=N+3*D+9 by omega]at fC;simp only[he,hk,dp,Zv,Zw]at fC;have Ga:=λb h=>fN b c.b h
 have Gb:=λb h=>fN b c.c h
 have hq:=fU g.cZ;have Dy:¬(4000:Int)<=g.cZ.length:=by omega
 simp only[Hk,List.head?_nil,Qc,Az,dn,gh,gE]at j9;have av:=λb h=>zw (N+3*D+8) b g c.a c.b c.c c.name (.sc (.slice none 0 0)) ⟨c.a,c.b,c.c,c.name,[]⟩ pe [] qe h H.el rfl rfl (by have:=H.se;rw[Hk]at this;exact this) H.Z6
 simp only[dn,gh,gE]at av;generalize N+3*D+9=M at fC jV j9 Ga Gb fN fE av;clear fN fE;generalize mn.head?=oa at jV HB;generalize dQ g.nodes c.b=ob at Ga HB;generalize dQ g.nodes c.c=oc at Gb HB;rcases oa with _|na<;>rcases ob with _|nb<;>rcases oc with _|nc<;>simp only[Br,Qb,Qc,eo,dn,gh,gE,iK,iE]at jV Ga Gb HB<;>first|(exfalso;revert HB;decide)|skip
 all_goals (simp[f43,dn,gh,gE,dp,fC,jV,j9,hk,Ga,Gb,hq,Dy,av];exact gz ⟨_,rfl,lA (rB g pe qe ⟨c.a,c.b,c.c,c.name,[]⟩) _⟩)
section
variable {α : Type} {lt eq : α -> Bool} {l pre gj post : List α}
def filter_all {f:α->Bool}{l:List α}(h:∀x∈l,f x=true):l.filter f=l:=List.filter_eq_self.2 h
def uW {f:α->Bool}{l:List α}(h:∀x∈l,f x=false):l.filter f=[]:=by
 rw[List.filter_eq_nil_iff];intro x hx;rw[h x hx];simp
def kJ (h:iX lt eq l pre gj post):l.filter lt=pre:=by
 rw[h.e,Yo,Yo,filter_all (λx hx=>(h.p x hx).1),uW (λx hx=>(h.m x hx).1),uW (λx hx=>(h.q x hx).1),Yp,Yp]
def ju (h:iX lt eq l pre gj post):l.filter (λx=> !lt x && !eq x)=post:=by
 rw[h.e,Yo,Yo,uW (λx hx=>by rw[(h.p x hx).1];rfl),uW (λx hx=>by rw[(h.m x hx).2];simp),filter_all (λx hx=>by rw[(h.q x hx).1,(h.q x hx).2];rfl),Zw,Zw]
end
def LW {l:List Nd}(x:Int)(h:l.Pairwise λa b=>a.id<b.id):∃p m q,iX (qM x) (qp x) l p m q:=
 FP _ h (λa b r q=>by simp only[qM,Zz]at *;omega) (λa b r q=>by simp only[qM,qp,Zz]at *;omega) (λa q=>by simp only[qM,qp,Zz,decide_eq_false_iff_not]at *;omega)
def UB {l:List Ed}(x:Int)(h:l.Pairwise λa b=>a.id<b.id):∃p m q,iX (xf x) (wa x) l p m q:=
 FP _ h (λa b r q=>by simp only[xf,Zz]at *;omega) (λa b r q=>by simp only[xf,wa,Zz]at *;omega) (λa q=>by simp only[xf,wa,Zz,decide_eq_false_iff_not]at *;omega)
def aab {l:List ByteArray}(x:ByteArray)(h:l.Pairwise λa b=>nZ a b=true):∃p m q,iX (LG x) (yv x) l p m q:=
 FP _ h (λa b r q=>q_ r q) (λa b r q=>by have:=(iT _ _).1 q;subst this;exact r) (λa q=>by
  cases e:yv x a with
  |false=>rfl
  |true=>have:=(iT _ _).1 e;subst this;unfold LG at q;rw[kU]at q;cases q)
def sE :∀{l:List ByteArray},dZ l=true->l.Pairwise λa b=>nZ a b=true
 | [],_=>List.Pairwise.nil
 | [x],_=>List.pairwise_singleton _ _
 |
  x::y::l,h=>by
  have h':(nZ x y && dZ (y::l))=true:=h;rw[Zh]at h';have ih:=sE h'.2;refine Ye.2 ⟨λz hz=>?_,ih⟩;rcases Xm.1 hz with rfl|hz
  .exact h'.1
  .exact q_ h'.1 ((Ye.1 ih).1 z hz)
def II {g:Gr}{i:Nat}{a c:Ed}(ha:g.cZ[i]?=some a)(hc:g.cZ[i+1]?=some c)(h:mC g (i+1)=0):a.id<c.id:=by
 unfold mC at h;rw[hc]at h;dsimp only at h;split at h
 .cases h
 .rename_i q;refine Int.lt_of_not_ge λk=>q ⟨by omega,a,ha,k⟩
def Gc {g:Gr}(h:yt g=0):∀(i j:Nat) (a b:Ed),g.cZ[i]?=some a->g.cZ[j]?=some b->i<j->a.id<b.id:=by
 have hz:∀j,j<g.cZ.length->mC g j=0:=λj hj=>j7 (mC g) g.cZ.length 0 h j (by omega) (by omega)
 intro i j a b ha hb qS;obtain⟨k,rfl⟩:∃k,j=i+1+k:=⟨j-(i+1),by omega⟩;clear qS
 induction k generalizing b with
 |zero=>exact II ha hb (hz _ (Za.1 hb).1)
 |
  succ k ih=>
  have hl:i+1+k+1<g.cZ.length:=by have:=(Za.1 hb).1;omega
  have hc:g.cZ[i+1+k]?=some g.cZ[i+1+k]:=Zb (by omega);have h1:=ih _ hc;have h2:=II hc hb (hz _ hl);omega
structure GV (g:Gr):Prop where
 nl:g.nodes.length<=2000
 el:g.cZ.length<=4000
 sn:g.nodes.Pairwise λa b=>a.id<b.id
 se:g.cZ.Pairwise λa b=>a.id<b.id
 np:∀n∈g.nodes,ie n.labels n.props=0
 ep:∀e∈g.cZ,ie [] e.props=0
def jX {l:List ByteArray}{p:List iP}(h:ie l p=0):l.length<=8/\p.length<=16/\l.Pairwise (λa b=>nZ a b=true):=by
 unfold ie at h;split at h
 .cases h
 .rename_i h1;split at h
  .cases h
  .split at h
   .cases h
   .rename_i h3;have h4:(dZ l && dZ (i6 p))=true:=by
     cases q:(dZ l && dZ (i6 p))with
     |true=>rfl
     |false=>exact absurd q h3
    rw[Zh]at h4;exact⟨by omega,by omega,sE h4.1⟩
def Ew {g:Gr}(h:gN g=0):GV g:=by
 unfold gN at h;split at h
 .cases h
 .rename_i h1;split at h
  .cases h
  .split at h
   .rename_i h2 h3;have hn:=xd h3;have he:=Gc h;have zn:∀j,j<g.nodes.length->mB g j=0:=λj hj=>j7 (mB g) g.nodes.length 0 h3 j (by omega) (by omega)
    have ze:∀j,j<g.cZ.length->mC g j=0:=λj hj=>j7 (mC g) g.cZ.length 0 h j (by omega) (by omega)
    refine⟨by omega,by omega,?_,?_,?_,?_⟩
    .rw[List.pairwise_iff_getElem];intro i j hi hj qS;exact hn i j _ _ (Zb hi) (Zb hj) qS
    .rw[List.pairwise_iff_getElem];intro i j hi hj qS;exact he i j _ _ (Zb hi) (Zb hj) qS
    .intro n hn;obtain⟨i,hi,rfl⟩:=List.mem_iff_getElem.1 hn;have:=zn i hi;unfold mB at this;rw[Zb hi]at this;dsimp only at this;split at this
     .cases this
     .split at this
      .cases this
      .exact this
    .intro n hn;obtain⟨i,hi,rfl⟩:=List.mem_iff_getElem.1 hn;have:=ze i hi;unfold mC at this;rw[Zb hi]at this;dsimp only at this;split at this
     .cases this
     .split at this
      .cases this
      .split at this
       .cases this
       .split at this
        .cases this
        .exact this
   .rename_i h2 h3;exact absurd h h3
end
end Go.Proofs.YtaibpnppeiigdaaGreatDoor
