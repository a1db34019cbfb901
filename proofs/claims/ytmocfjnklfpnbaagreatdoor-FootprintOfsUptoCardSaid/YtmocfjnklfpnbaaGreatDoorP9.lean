/- Part of the proof. -/
import Derived.Test.YtmocfjnklfpnbaaGreatDoorP8
set_option linter.all false
set_option maxHeartbeats 8000000
set_option maxRecDepth 100000
namespace Go.Proofs.YtmocfjnklfpnbaaGreatDoor
open Go Go.Ae Go.Proofs.Tryz
section
attribute [local simp] ew eY
def BK :∀(ds:List Int)(k:Nat),vl ds=vl (ds.take k)+1000^k*vl (ds.drop k)
 | [],k=>by simp[vl]
 |d::ds,0=>by simp[vl]
 |
  d::ds,k+1=>by
  simp only[List.take_succ_cons,List.drop_succ_cons,vl,Int.pow_succ];rw[BK ds k]
  grind
def UF{xs ys:List Int}{k:Nat}{x y:Int}(hx:Cz xs)(hy:Cz ys)(gx:xs[k]?=some x)(gy:ys[k]?=some y)(hd:xs.drop (k+1)=ys.drop (k+1))(du:x<y):vl xs<vl ys:=by
 have sx:=BK xs k;have sy:=BK ys k;obtain⟨kx,ex⟩:=Za.1 gx;obtain⟨ky,ey⟩:=Za.1 gy;rw[Zm kx,ex,hd]at sx;rw[Zm ky,ey]at sy;simp only[vl]at sx sy;have bx:=Mw (ds:=xs.take k) λd h=>hx d (List.mem_of_mem_take h)
 have tM:=Mw (ds:=ys.take k) λd h=>hy d (List.mem_of_mem_take h)
 rw[Xa,Nat.min_eq_left (by omega)]at bx;generalize(1000:Int)^k=p,vl (ys.drop (k+1))=q at *;have:p*(x+1000*q)+p<=p*(y+1000*q):=by
  have h1:p*(x+1000*q)+p=p*(x+1+1000*q):=by grind
  rw[h1];exact Int.mul_le_mul_of_nonneg_left (by omega) (by omega)
 omega
def Pd(n:Nat)(b:Bool)(xs ys:List Int)(h:Hp)(hx:Cz xs)(hy:Cz ys)(lx:xs.length=14)(ly:ys.length=14):
 cu cx (n+1) b 244 [rR xs,rR ys] h=some (.sc (.int .i64 (jb (vl xs-vl ys))),h):=by
 refine fU f244 [.tmp 4] rfl rfl ?_ b h;simp[f244,rR,lx,show dA .i64 13=13 from rfl];refine qe (G:=λx=>∃h',dT _ (jC _ _ (gJ _ x) _)=some (_,h'))
  (λk s=>k<=14/\xs.drop k=ys.drop k/\s.1.length=31/\gt s.1 0= .ls 1 (xs.map λd=> [.sc (.int .i64 d)]) false/\gt s.1 1= .ls 1 (ys.map λd=> [.sc (.int .i64 d)]) false/\gt s.1 5= .sc (.int .i64 (k-1)))
  (λo s=>s.1.length=31/\((o= .exit 0/\xs=ys)\/(o= .ret/\gt s.1 4= .sc (.int .i64 (jb (vl xs-vl ys)))))) 14 (by simp) ?_ ?_ ?_
 .simp;rw[Zt (by omega),Zt (by omega)]
 .rintro k fr h ⟨hk,hd,cp,h0,h1,h5⟩;simp only at cp h0 h1 h5;by_cases hz:k=0
  .subst hz;simp at hd;simp[cp,h5,hd]
  .obtain⟨j,rfl⟩:∃j,k=j+1:=⟨k-1,by omega⟩;obtain⟨x,gx⟩:∃x,xs[j]?=some x:=⟨_,Zb (by omega)⟩;obtain⟨y,gy⟩:∃y,ys[j]?=some y:=⟨_,Zb (by omega)⟩;have e5:(((j+1:Nat):Int)-1)=j:=by omega
   rw[e5]at h5;have ae:dA .i64 ((j:Int)-1)=(j:Int)-1:=cK (by omega) (by omega);by_cases du:x<y
   .have:=UF hx hy gx gy hd du;have hs:jb (vl xs-vl ys)= -1:=by unfold jb;rw[cw (by omega)]
    simp[cp,h0,h1,h5,gx,gy,du,hs]
   .by_cases Wb:y<x
    .have:=UF hy hx gy gx hd.symm Wb;have hs:jb (vl xs-vl ys)=1:=by unfold jb;rw[cv (by omega),cw (by omega)]
     simp[cp,h0,h1,h5,gx,gy,du,Wb,hs]
    .have hxy:x=y:=by omega
     have hd2:xs.drop j=ys.drop j:=by
      obtain⟨kx,ex⟩:=Za.1 gx;obtain⟨ky,ey⟩:=Za.1 gy;rw[Zm kx,Zm ky,ex,ey,hd,hxy]
     simp[cp,h0,h1,h5,gx,gy,du,Wb,ae];exact⟨j,by omega,by omega,hd2,rfl⟩
 .rintro o fr h hn ⟨cp,⟨rfl,hd⟩|⟨rfl,h4⟩⟩
  .simp only at cp;simp[cp,hd,jb]
  .simp only at h4;simp[h4]
def UG(n:Nat)(xs ys:List Int)(hx:Cz xs)(hy:Cz ys)(lx:xs.length=14)(ly:ys.length=14):
 ∃r,(∃es,es.length=14/\r=rR es)/\∀b h,cu cx (n+1) b 243 [rR xs,rR ys] h=some (r,h):=by
 refine vx (f:=243) (n:=n) (args:=[rR xs,rR ys]) (λr=>∃es,es.length=14/\r=rR es) ⟨f243.ntmps,(f243.body).getD .skip,[.tmp 4]⟩ (by kernel_rfl) (by kernel_rfl) rfl (by kernel_rfl) (by simp[f243]) rfl ?_;have UE:List.flatMap (λ_=> [AV.sc (Value.int IntKind.i64 0)]) (List.range 14)=dg (List.replicate 14 0):=rfl;simp[f243,rR,lx,show 14<=maxLen from(by unfold maxLen;omega),UE, -List.reduceReplicate];refine oM (C:=cx) (G:=λx=>∃r h',dT _ (jC _ _ (gJ _ x) _)=some (r,h')/\∃r',da h' 8 r=some r'/\∃es,es.length=14/\r'= .ls 1 (List.map (λd=> [AV.sc (Value.int IntKind.i64 d)]) es) false)
  (λi s=>∃(es:List Int)(cy:Int),es.length=14/\0<=cy/\cy<=1/\s.1.length=36/\gt s.1 0= .ls 1 (xs.map λd=> [.sc (.int .i64 d)]) false/\gt s.1 1= .ls 1 (ys.map λd=> [.sc (.int .i64 d)]) false/\gt s.1 5= .sl 0 1 0 14 false/\gt s.1 6=cy/\gt s.1 7=i/\s.2=[.row (dg es)])
  (λo s=>o= .exit 0/\s.1.length=36/\gt s.1 5= .sl 0 1 0 14 false/\∃es,es.length=14/\s.2=[.row (dg es)]) 14 (by decide) ?_ ?_ ?_
 .exact⟨List.replicate 14 0,0,rfl,by decide,by decide,by simp[-List.reduceReplicate]⟩
 .rintro i fr h cP ⟨es,cy,rQ,rO,yM,cp,h0,h1,h5,h6,h7,rfl⟩;simp only at cp h0 h1 h5 h6 h7;by_cases hi:i<14
  .have rN:(i:Int)<14:=by omega
   obtain⟨x,gx⟩:∃x,xs[i]?=some x:=⟨_,Zb (by omega)⟩;obtain⟨y,gy⟩:∃y,ys[i]?=some y:=⟨_,Zb (by omega)⟩;have gx':∀h:i<xs.length,xs[i]=x:=λh=>by rw[Zb h]at gx;exact Option.some.inj gx
   have gy':∀h:i<ys.length,ys[i]=y:=λh=>by rw[Zb h]at gy;exact Option.some.inj gy
   have bx:=hx x (Zi gx);have tM:=hy y (Zi gy);have KT:i+1<=es.length:=by omega
   have hi3:i+1<=14:=by omega
   have ae:dA .i64 (cy+x)=cy+x:=cK (by omega) (by omega);have aj:dA .i64 ((i:Int)+1)=(i:Int)+1:=cK (by omega) (by omega);obtain⟨S,hS⟩:∃S,S=cy+x+y:=⟨_,rfl⟩;have af:dA .i64 (cy+x+y)=S:=by rw[hS];exact cK (by omega) (by omega)
   have s1:S.tmod 1000=S % 1000:=Int.tmod_eq_emod_of_nonneg (by omega);have s2:S.tdiv 1000=S/1000:=Int.tdiv_eq_ediv_of_nonneg (by omega);have ah:dA .i64 (S/1000)=S/1000:=cK (by omega) (by omega);have mZ:=tz es i (S % 1000) KT;simp[cp,h0,h1,h5,h6,h7,hi,rN,gy,gx',ae,af,s1,s2,ah,aj,mZ,lx,rQ,hi3];exact⟨es.set i (S % 1000),by simpa using rQ,S/1000,by omega,by omega,rfl,rfl⟩
  .have rN:¬(i:Int)<14:=by omega
   simp[cp,h0,h5,h7,rN,lx];exact⟨es,rQ,rfl⟩
 .rintro o fr h hn ⟨rfl,cp,h5,es,rQ,rfl⟩;simp only at cp h5;have jx:=Ft es false [.row (dg es)] 0 rfl;rw[rQ]at jx;simp[cp,h5];exact qW ⟨_,jx,es,rQ,rfl⟩
def D4(n:Nat)(xs ys:List Int)(hx:Cz xs)(hy:Cz ys)(lx:xs.length=14)(ly:ys.length=14):
 ∃r,(∃es,es.length=14/\r=rR es)/\∀b h,cu cx (n+1) b 245 [rR xs,rR ys] h=some (r,h):=by
 refine vx (f:=245) (n:=n) (args:=[rR xs,rR ys]) (λr=>∃es,es.length=14/\r=rR es) ⟨f245.ntmps,(f245.body).getD .skip,[.tmp 4]⟩ (by kernel_rfl) (by kernel_rfl) rfl (by kernel_rfl) (by simp[f245]) rfl ?_;have UE:List.flatMap (λ_=> [AV.sc (Value.int IntKind.i64 0)]) (List.range 14)=dg (List.replicate 14 0):=rfl;simp[f245,rR,lx,show 14<=maxLen from(by unfold maxLen;omega),UE, -List.reduceReplicate];refine oM (C:=cx) (G:=λx=>∃r h',dT _ (jC _ _ (gJ _ x) _)=some (r,h')/\∃r',da h' 8 r=some r'/\∃es,es.length=14/\r'= .ls 1 (List.map (λd=> [AV.sc (Value.int IntKind.i64 d)]) es) false)
  (λi s=>∃(es:List Int)(cy:Int),es.length=14/\ -1<=cy/\cy<=0/\s.1.length=40/\gt s.1 0= .ls 1 (xs.map λd=> [.sc (.int .i64 d)]) false/\gt s.1 1= .ls 1 (ys.map λd=> [.sc (.int .i64 d)]) false/\gt s.1 5= .sl 0 1 0 14 false/\gt s.1 6=cy/\gt s.1 7=i/\s.2=[.row (dg es)])
  (λo s=>o= .exit 0/\s.1.length=40/\gt s.1 5= .sl 0 1 0 14 false/\∃es,es.length=14/\s.2=[.row (dg es)]) 14 (by decide) ?_ ?_ ?_
 .exact⟨List.replicate 14 0,0,rfl,by decide,by decide,by simp[-List.reduceReplicate]⟩
 .rintro i fr h cP ⟨es,cy,rQ,rO,yM,cp,h0,h1,h5,h6,h7,rfl⟩;simp only at cp h0 h1 h5 h6 h7;by_cases hi:i<14
  .have rN:(i:Int)<14:=by omega
   obtain⟨x,gx⟩:∃x,xs[i]?=some x:=⟨_,Zb (by omega)⟩;obtain⟨y,gy⟩:∃y,ys[i]?=some y:=⟨_,Zb (by omega)⟩;have gx':∀h:i<xs.length,xs[i]=x:=λh=>by rw[Zb h]at gx;exact Option.some.inj gx
   have gy':∀h:i<ys.length,ys[i]=y:=λh=>by rw[Zb h]at gy;exact Option.some.inj gy
   have bx:=hx x (Zi gx);have tM:=hy y (Zi gy);have KT:i+1<=es.length:=by omega
   have hi3:i+1<=14:=by omega
   have ae:dA .i64 (cy+x)=cy+x:=cK (by omega) (by omega);have aj:dA .i64 ((i:Int)+1)=(i:Int)+1:=cK (by omega) (by omega);obtain⟨S,hS⟩:∃S,S=cy+x-y:=⟨_,rfl⟩;have af:dA .i64 (cy+x-y)=S:=by rw[hS];exact cK (by omega) (by omega)
   by_cases hn:S<0
   .have ah:dA .i64 (S+1000)=S+1000:=cK (by omega) (by omega);have mZ:=tz es i (S+1000) KT;simp[cp,h0,h1,h5,h6,h7,hi,rN,gy,gx',ae,af,hn,ah,aj,mZ,lx,rQ,hi3];exact⟨es.set i (S+1000),by simpa using rQ, -1,by decide,by decide,rfl,rfl⟩
   .have mZ:=tz es i S KT;simp[cp,h0,h1,h5,h6,h7,hi,rN,gy,gx',ae,af,hn,aj,mZ,lx,rQ,hi3];exact⟨es.set i S,by simpa using rQ,0,by decide,by decide,rfl,rfl⟩
  .have rN:¬(i:Int)<14:=by omega
   simp[cp,h0,h5,h7,rN,lx];exact⟨es,rQ,rfl⟩
 .rintro o fr h hn ⟨rfl,cp,h5,es,rQ,rfl⟩;simp only at cp h5;have jx:=Ft es false [.row (dg es)] 0 rfl;rw[rQ]at jx;simp[cp,h5];exact qW ⟨_,jx,es,rQ,rfl⟩
section
variable {C : Cx} {eG : FuncId -> LA -> Hp -> Option (AV × Hp)} {ops : Array Oper}
@[simp] def afF(d:Tmp)(rest:List Oper)(fr:LA)(e:List Int)(h:Hp):vF C eG ops (some d) rest fr (some (rR e,h))=dV C eG ops rest (fr.set d (rR e),h):=rfl
@[simp] def afJ(d:Tmp)(rest:List Oper)(fr:LA)(e:List Int)(h:Hp):vG C eG ops (some d) rest fr (some (rR e,h))=dG C eG ops rest (fr.set d (rR e),h):=rfl
@[simp] def aeX(h:Hp)(n:Nat)(e:List Int):da h n (rR e)=some (rR e):=by cases n<;>rfl
@[simp] def aeW(h:Hp)(n:Nat)(v:Value):da h n (.sc v)=some (.sc v):=by cases n<;>rfl
end
def lsZ :AV:= .ls 1 [[.sc (.int .i64 0)],[.sc (.int .i64 0)],[.sc (.int .i64 0)],[.sc (.int .i64 0)],[.sc (.int .i64 0)],[.sc (.int .i64 0)],[.sc (.int .i64 0)],[.sc (.int .i64 0)],[.sc (.int .i64 0)],[.sc (.int .i64 0)],[.sc (.int .i64 0)],[.sc (.int .i64 0)],[.sc (.int .i64 0)],[.sc (.int .i64 0)]] true
def Pe(n:Nat)(b:Bool)(h:Hp):cu cx (n+1) b 243 [lsZ,lsZ] h=some (rR [0,0,0,0,0,0,0,0,0,0,0,0,0,0],h):=by
 kernel_rfl
def CA(an X bn Y:Int):Int:=if an=bn\/bn=0 then an else if an=0 then bn else if jb (X-Y)=0 then 0 else if 0<jb (X-Y)then an else bn
def Y5(n:Nat)(an bn:Int)(xs ys:List Int)(hx:Cz xs)(hy:Cz ys)(lx:xs.length=14)(ly:ys.length=14):
 ∃r,(∃es,r= .tp [.sc (.int .i64 (CA an (vl xs) bn (vl ys))),rR es])/\∀b h,cu cx (n+2) b 169 [an,rR xs,bn,rR ys] h=some (r,h):=by
 obtain⟨_,⟨e1,_,rfl⟩,hp⟩:=UG n xs ys hx hy lx ly;obtain⟨_,⟨e2,_,rfl⟩,hm⟩:=D4 n xs ys hx hy lx ly;obtain⟨_,⟨e3,_,rfl⟩,vV⟩:=D4 n ys xs hy hx ly lx;have ho:=λb h=>Pd n b xs ys h hx hy lx ly
 refine vx (f:=169) (n:=n+1) (args:=[.sc (.int .i64 an),rR xs,.sc (.int .i64 bn),rR ys]) (λr=>∃es,r= .tp [.sc (.int .i64 (CA an (vl xs) bn (vl ys))),rR es]) ⟨f169.ntmps,(f169.body).getD .skip,[.tmp 8,.tmp 9]⟩ (by kernel_rfl) (by kernel_rfl) rfl (by kernel_rfl) (by simp[f169]) rfl ?_;have hz:=λb h=>Pe n b h
 have OV:chunk 1 14 (List.flatMap (λ_=> [AV.sc (Value.int IntKind.i64 0)]) (List.range 14))=[[.sc (.int .i64 0)],[.sc (.int .i64 0)],[.sc (.int .i64 0)],[.sc (.int .i64 0)],[.sc (.int .i64 0)],[.sc (.int .i64 0)],[.sc (.int .i64 0)],[.sc (.int .i64 0)],[.sc (.int .i64 0)],[.sc (.int .i64 0)],[.sc (.int .i64 0)],[.sc (.int .i64 0)],[.sc (.int .i64 0)],[.sc (.int .i64 0)]]:=rfl;simp only[lsZ]at hz;by_cases h1:an=bn
 .simp[f169,h1,hp,CA];exact⟨_,_,⟨rfl,rfl⟩,by simp[da];exact⟨_,rfl⟩⟩
 .by_cases h2:bn=0
  .subst h2;simp[f169,h1,hp,CA];exact⟨_,_,⟨rfl,rfl⟩,by simp[da];exact⟨_,rfl⟩⟩
  .by_cases h3:an=0
   .subst h3;simp[f169,h1,h2,CA];exact⟨_,_,⟨rfl,rfl⟩,by simp[da];exact⟨_,rfl⟩⟩
   .by_cases h4:jb (vl xs-vl ys)=0
    .simp[f169,h1,h2,h3,ho,h4,CA,show 14<=maxLen from(by unfold maxLen;omega),lY,OV,hz];exact⟨_,_,⟨rfl,rfl⟩,by simp[da];exact⟨_,rfl⟩⟩
    .by_cases h5:0<jb (vl xs-vl ys)
     .simp[f169,h1,h2,h3,ho,h4,h5,hm,CA];exact⟨_,_,⟨rfl,rfl⟩,by simp[da];exact⟨_,rfl⟩⟩
     .simp[f169,h1,h2,h3,ho,h4,h5,vV,CA];exact⟨_,_,⟨rfl,rfl⟩,by simp[da];exact⟨_,rfl⟩⟩
def Pf(n1 d1 n2 d2:Int)(h1:0<d1)(h2:0<d2):CA (jb n1) (n1.natAbs*d2) (-(jb n2)) (n2.natAbs*d1)=jb (n1*d2-n2*d1):=by
 have e1:(n1.natAbs:Int)*d2=((n1*d2).natAbs:Int):=by rw[Int.natAbs_mul];rw[Int.natCast_mul,Int.natAbs_of_nonneg (Int.le_of_lt h2)]
 have e2:(n2.natAbs:Int)*d1=((n2*d1).natAbs:Int):=by rw[Int.natAbs_mul];rw[Int.natCast_mul,Int.natAbs_of_nonneg (Int.le_of_lt h1)]
 have s:∀n d:Int,0<d->jb n=jb (n*d):=λn d hd=>by
  unfold jb;by_cases a:n<0
  .rw[cw a,cw (Int.mul_neg_of_neg_of_pos a hd)]
  .by_cases b:0<n
   .have:=Int.mul_pos b hd;rw[cv a,cw b,cv (by omega),cw this]
   .have:n=0:=by omega
    subst this;simp
 rw[e1,e2,s n1 d2 h2,s n2 d1 h1];generalize n1*d2=p,n2*d1=q;have sg:∀x:Int,(x<0/\jb x= -1/\(x.natAbs:Int)= -x)\/(x=0/\jb x=0/\(x.natAbs:Int)=0)\/(0<x/\jb x=1/\(x.natAbs:Int)=x):=λx=>by
  unfold jb;by_cases a:x<0
  .exact .inl ⟨a,by rw[cw a],by omega⟩
  .by_cases b:0<x
   .exact .inr (.inr ⟨b,by rw[cv a,cw b],by omega⟩)
   .exact .inr (.inl ⟨by omega,by rw[cv a,cv b],by omega⟩)
 rcases sg p with⟨p1,p2,p3⟩|⟨p1,p2,p3⟩|⟨p1,p2,p3⟩<;>rcases sg q with⟨q1,q2,q3⟩|⟨q1,q2,q3⟩|⟨q1,q2,q3⟩<;>
  rcases sg (p-q)with⟨r1,r2,r3⟩|⟨r1,r2,r3⟩|⟨r1,r2,r3⟩<;>
  rcases sg ((p.natAbs:Int)-(q.natAbs:Int))with⟨t1,t2,t3⟩|⟨t1,t2,t3⟩|⟨t1,t2,t3⟩<;>
  simp only[CA,p2,q2,r2,t2]<;>first|rfl|decide|omega
def Vp(n:Nat)(b:Bool)(N1 D1 N2 D2:Int)(h:Hp):cu cx (n+3) b 114 [mE N1 D1,mE N2 D2] h=some (.sc (.int .i64 (wW N1 D1 N2 D2)),h):=by
 refine fU f114 [.tmp 4] rfl rfl ?_ b h;obtain⟨a1,a2,a3⟩:=zY N1 D1;obtain⟨b1,b2,b3⟩:=zY N2 D2;have hm:=Pf (gD N1 D1) (jM N1 D1) (gD N2 D2) (jM N2 D2) a3 b3;obtain⟨e1,he1⟩:∃e:Nat,jM N1 D1=e:=⟨(jM N1 D1).toNat,by omega⟩;obtain⟨e2,Vc⟩:∃e:Nat,jM N2 D2=e:=⟨(jM N2 D2).toNat,by omega⟩;rw[mD]at a1 a2 b1 b2;have l1:((gD N1 D1).natAbs:Int)*e2<1000^14:=by
  have:=Int.mul_le_mul (show((gD N1 D1).natAbs:Int)<=1000000000000000 by omega) (show(e2:Int)<=1000000000000000 by omega) (by omega) (by decide);have q:(1000:Int)^14=1000000000000000000000000000000000000000000:=by decide
  omega
 have l2:((gD N2 D2).natAbs:Int)*e1<1000^14:=by
  have:=Int.mul_le_mul (show((gD N2 D2).natAbs:Int)<=1000000000000000 by omega) (show(e1:Int)<=1000000000000000 by omega) (by omega) (by decide);have q:(1000:Int)^14=1000000000000000000000000000000000000000000:=by decide
  omega
 have c1:=λh=>BI (n+1) false (gD N1 D1) h ⟨by omega,by omega⟩
 have c2:=λh=>BI (n+1) false (gD N2 D2) h ⟨by omega,by omega⟩
 have c3:=λh=>D3 (n+1) false (gD N1 D1).natAbs e2 h (by omega) (by omega)
 have c4:=λh=>D3 (n+1) false (gD N2 D2).natAbs e1 h (by omega) (by omega)
 have s1:=λh=>ID (n+1) false (gD N1 D1) h
 have s2:=λh=>ID (n+1) false (gD N2 D2) h
 obtain⟨_,⟨es,rfl⟩,c5⟩:=Y5 n (jb (gD N1 D1)) (-(jb (gD N2 D2))) (oD 14 ((gD N1 D1).natAbs*e2)) (oD 14 ((gD N2 D2).natAbs*e1)) (BJ _ _) (BJ _ _) (o_ _ _) (o_ _ _);rw[Fs _ _ (Int.mul_nonneg (by omega) (by omega)) l1,Fs _ _ (Int.mul_nonneg (by omega) (by omega)) l2,<-he1,<-Vc,hm]at c5;have hf:dA .i64 (-(jb (gD N2 D2)))= -(jb (gD N2 D2)):=by
  have: -1<=jb (gD N2 D2)/\jb (gD N2 D2)<=1:=by unfold jb;(repeat' split)<;>omega
  exact cK (by omega) (by omega)
 rw[<-Vc]at c3;rw[<-he1]at c4;generalize oD 14 (((gD N1 D1).natAbs:Int)*jM N2 D2)=w1 at c3 c5;generalize oD 14 (((gD N2 D2).natAbs:Int)*jM N1 D1)=w2 at c4 c5;generalize jb (gD N1 D1)=g1 at s1 c5;generalize jb (gD N2 D2)=g2 at s2 c5 hf;generalize((gD N1 D1).natAbs:Int)=m1 at c1 c3;generalize((gD N2 D2).natAbs:Int)=m2 at c2 c4;cases hA:fv N1 D1<;>cases hB:fv N2 D2<;>simp only[gD,jM,hA,hB,cond_true,cond_false]at c1 c2 c3 c4 c5 s1 s2
 .have e1:m1=m2:=by have:=(c1 []).symm.trans (c2 []);simpa using this
  subst e1;have e2:g1=g2:=by have:=(s1 []).symm.trans (s2 []);simpa using this
  subst e2;have e3:rR w1=rR w2:=by have:=(c3 []).symm.trans (c4 []);simpa using this
  rw[<-e3]at c5;have JI:=λb h=>qf n b N1 D1 h
  have Oj:=λb h=>qf n b N2 D2 h
  simp only[mE]at JI Oj;simp[cF,f114,mE,JI,Oj,hA,hB,c1,c3,s1,hf,c5,wW,gD,jM]
 all_goals
  have JI:=λb h=>qf n b N1 D1 h
  have Oj:=λb h=>qf n b N2 D2 h
  simp only[mE]at JI Oj;simp[cF,f114,mE,JI,Oj,hA,hB,c1,c2,c3,c4,s1,s2,hf,c5,wW,gD,jM]
end
section
attribute [local simp] ew cF eY
inductive V where
 |mk (k n d:Int) (s:ByteArray) (z:Bool) (l:List V)
namespace V
def k :V->Int| .mk k _ _ _ _ _=>k
def n :V->Int| .mk _ n _ _ _ _=>n
def d :V->Int| .mk _ _ d _ _ _=>d
def s :V->ByteArray| .mk _ _ _ s _ _=>s
def l :V->List V| .mk _ _ _ _ _ l=>l
def isNil :V->Bool| .mk _ _ _ _ z _=>z
end V
def zT(z:Bool)(cq:List LA):AV:=bif z && cq.isEmpty then .sc (.slice none 0 0)else .ls 5 cq z
mutual
def enc :V->LA
 | .mk k n d s z l=> [.sc (.int .i64 k),.sc (.int .i64 n),.sc (.int .i64 d),.sc (.string s),zT z (fj l)]
def fj :List V->List LA
 | []=> []
 |x::xs=>enc x::fj xs
end
def jq(v:V):AV:= .ag (enc v)
def gY(z:Bool)(l:List V):AV:=zT z (fj l)
mutual
def kj :V->Nat
 | .mk _ _ _ _ _ l=>F6 l+1
def F6 :List V->Nat
 | []=>0
 |x::xs=>max (kj x) (F6 xs)
end
def FZ(s:ByteArray):Bool:=s.data.toList.all λb=>decide (32<=b.toNat) && decide (b.toNat<=126)
mutual
def px :V->Int->Bool
 |
  .mk k n d s _ l,m=>
  (decide (k=3)||decide (d=0)) && (decide (k=4)||dn s ⟨#[]⟩) && (decide (k=8)||decide (k=7)||l.isEmpty) &&
   (
    if k=0 then decide (n=0)
    else if k=1 then decide (n=0)||decide (n=1)
    else if k=2 then tI n
    else if k=3 then decide (2<=d) && fv n d
    else if k=4 then decide (n=0) && decide (s.size<=100) && FZ s
    else if k=5\/k=6 then decide (1<=n) && decide (n<=1000000)
    else if k=8 then decide (n=0) && decide (l.length<=64) && decide (1<=m) && yX l (m-1)
    else if k=7 then decide (n=0) && decide (l.length % 2=1) && decide (l.length<=25) && vh l false
    else false)
def yX :List V->Int->Bool
 | [],_=>true
 |x::xs,m=>px x m && yX xs m
def vh :List V->Bool->Bool
 | [],_=>true
 |x::xs,e=>(decide (x.k=if e then 6 else 5) && px x 0) && vh xs (!e)
end
def k_(v:V):Bool:=px v 8
def eZ(k:Int):Int:=if k=0 then 0 else if k=1 then 1 else if k=2\/k=3 then 2 else if k=4 then 3 else if k=5 then 4 else if k=6 then 5 else if k=8 then 6 else 7
mutual
def kE :V->V->Int
 |
  .mk k n d s z l,w=>
  if k_ (.mk k n d s z l)=k_ w then
   if k_ w then
    if eO (eZ k) (eZ w.k)=0 then
     if k=2\/k=3 then wW n (if k=2 then 1 else d) w.n (if w.k=2 then 1 else w.d)
     else rj [eO k w.k,eO n w.n,eO d w.d,iZ s w.s,jz l w.l]
    else eO (eZ k) (eZ w.k)
   else rj [eO k w.k,eO n w.n,eO d w.d,iZ s w.s,jz l w.l]
  else if k_ w then 1 else-1
def jz :List V->List V->Int
 | [],m=>if m.isEmpty then 0 else-1
 |
  x::xs,m=>match m with
  | []=>1
  |y::ys=>if kE x y=0 then jz xs ys else kE x y
end
def vw{v:V}:∀{l:List V},v∈l->kj v<=F6 l
 |
  x::xs,h=>by
  rw[F6];rcases Yv.1 h with rfl|h
  .omega
  .have:=vw h;omega
def dS :∀l:List V,(fj l).length=l.length
 | []=>rfl
 |x::xs=>by rw[fj,Ys,Ys,dS xs]
def jA :∀(l:List V)(i:Nat),(fj l)[i]?=(l[i]?).map enc
 | [],i=>by simp[fj]
 |x::xs,0=>by simp[fj]
 |x::xs,i+1=>by simp[fj,jA xs i]
def Eg(m:Int):∀l:List V,yX l m=l.all (px · m)
 | []=>by simp[yX]
 |x::xs=>by simp[yX,Eg m xs]
def Fu :∀N(v:V),kj v<=N->∀m m':Int,m<=m'->px v m=true->px v m'=true:=by
 intro N
 induction N with
 |zero=>intro v h;cases v;simp[kj]at h
 |succ N ih=>
  intro v h m m' hm hv;cases v with
  |mk k n d s z l=>
   simp only[kj]at h;rw[px]at hv|-;simp only[Zh]at hv|-;refine⟨hv.1,?_⟩;have h2:=hv.2
   revert h2
   by_cases h8:k=8
   .simp only[h8];simp only[show¬((8:Int)=0)from by decide,show¬((8:Int)=1)from by decide,show¬((8:Int)=2)from by decide,show¬((8:Int)=3)from by decide,show¬((8:Int)=4)from by decide,show¬((8:Int)=5\/(8:Int)=6)from by decide,if_false,if_true,Zh,Zy];rintro⟨⟨⟨a,b⟩,c⟩,e⟩;refine⟨⟨⟨a,b⟩,by omega⟩,?_⟩;rw[Eg,Yp]at e|-;intro x hx;exact ih x (by have:=vw hx;omega) (m-1) (m'-1) (by omega) (e x hx)
   .simp only[h8,if_false];exact λh=>h
def F3{v:V}{m m':Int}(hm:m<=m')(h:px v m=true):px v m'=true:=Fu _ v (Yq _) m m' hm h
end
section
attribute [local simp] ew eY
def kP(v:V):calm (jq v)=true:=by
 cases v with
 |mk k n d s z l=>simp only[jq,enc,calm,zT];cases z && (fj l).isEmpty<;>rfl
def My{x y:ByteArray}(h:dn x y=true):iZ x y=0:=by
 have:=(ng x y).1 h;subst this;simp[iZ,l_]
def l8(v:V):[jq v].all calm=true:=by rw[Zn,kP];rfl
def l9(v w:V):[jq v,jq w].all calm=true:=by rw[Zn,Zn,kP,kP];rfl
def zR(n:Nat)(b:Bool)(x y:Int)(h:Hp):cu cx (n+1) b 111 [x,y] h=some (.sc (.int .i64 (eO x y)),h):=by
 refine fU f111 [.tmp 4] rfl rfl ?_ b h;by_cases h1:x<y
 .simp[f111,h1,eO]
 .by_cases h2:y<x<;>simp[f111,h1,h2,eO]
def Qd(n:Nat)(b:Bool)(x y:ByteArray)(h:Hp):cu cx (n+1) b 166 [x,y] h=some (.sc (.int .i64 (iZ x y)),h):=by
 refine fU f166 [.tmp 4] rfl rfl ?_ b h;cases h1:nO x y
 .cases h2:dn x y
  .simp[f166,h1,h2,nB h1 h2,iZ]
  .simp[f166,h1,h2,My h2]
 .simp[f166,h1,iZ]
def CO(n:Nat)(b:Bool)(x y:ByteArray)(h:Hp):cu cx (n+1) b 56 [x,y] h=some (.sc (.int .i64 (iZ x y)),h):=by
 refine fU f56 [.tmp 4] rfl rfl ?_ b h;cases h1:nO x y
 .cases h2:dn x y
  .simp[f56,h1,h2,nB h1 h2,iZ]
  .simp[f56,h1,h2,My h2]
 .simp[f56,h1,iZ]
def I8(b:Bool):Int:=bif b then 2 else 0
def Vo(n:Nat)(b x:Bool)(h:Hp):cu cx (n+1) b 109 [x] h=some (.sc (.int .i64 (I8 x)),h):=by
 refine fU f109 [.tmp 2] rfl rfl ?_ b h;cases x<;>simp[f109,I8]
def MI(n:Nat)(b:Bool)(k:Int)(h:Hp):cu cx (n+1) b 112 [k] h=some (.sc (.int .i64 (eZ k)),h):=by
 refine fU f112 [.tmp 2] rfl rfl ?_ b h;by_cases h0:k=0
 .simp[f112,h0,eZ]
 by_cases h1:k=1
 .simp[f112,h1,eZ]
 by_cases h2:k=2
 .simp[f112,h2,eZ]
 by_cases h3:k=3
 .simp[f112,h3,eZ]
 by_cases h4:k=4
 .simp[f112,h4,eZ]
 by_cases h5:k=5
 .simp[f112,h5,eZ]
 by_cases h6:k=6
 .simp[f112,h6,eZ]
 by_cases h8:k=8
 .simp[f112,h8,eZ]
 simp[f112,h0,h1,h2,h3,h4,h5,h6,h8,eZ]
def nS(k:Int):Int:=if k=3 then 2 else if k=7 then 9 else k
def CK(n:Nat)(b:Bool)(v:V)(h:Hp):cu cx (n+1) b 132 [jq v] h=some (.sc (.int .i64 (nS v.k)),h):=by
 refine fU f132 [.tmp 2] (l8 v) rfl ?_ b h;cases v with
 |mk k n d s z l=>
  by_cases h3:k=3
  .simp[f132,jq,enc,h3,nS,V.k]
  by_cases h7:k=7
  .simp[f132,jq,enc,h7,nS,V.k]
  simp[f132,jq,enc,h3,h7,nS,V.k]
def gW(z:Bool)(l:List V):(l=[]/\gY z l=())\/gY z l= .ls 5 (fj l) z:=by
 unfold gY zT;cases l with
 |nil=>cases z<;>simp[fj]
 |cons x xs=>right;simp[fj]
def fJ(k n d:Int)(s:ByteArray)(z:Bool)(l:List V):jq (.mk k n d s z l)= .ag [k,n,d,s,gY z l]:=rfl
def iw(v:V)(a b c e:Bool):Bool:=(a||decide (v.n=0)) && (b||decide (v.d=0)) && (c||dn v.s ⟨#[]⟩) && (e||v.l.isEmpty)
def wJ(z:Bool)(l:List V):gY z l=()/\l.isEmpty=true\/∃cq,gY z l= .ls 5 cq z/\(l.isEmpty=decide ((cq.length:Int)=0)):=by
 rcases gW z l with⟨rfl,e⟩|e
 .exact .inl ⟨e,rfl⟩
 .refine .inr ⟨_,e,?_⟩;rw[dS];cases l<;>simp<;>omega
def Fv(n:Nat)(b:Bool)(v:V)(h:Hp):cu cx (n+1) b 237 [jq v,false,false,false,false] h=some (.sc (.bool (iw v false false false false)),h):=by
 have hc:[jq v,.sc (.bool false),.sc (.bool false),.sc (.bool false),.sc (.bool false)].all calm=true:=by rw[Zn,kP];rfl
 refine fU f237 [.tmp 10] hc rfl ?_ b h;clear hc;cases v with
 |mk k n d s z l=>
  rw[fJ];simp only[iw,V.n,V.d,V.s,V.l];have hl:=wJ z l;generalize gY z l=L,l.isEmpty=E at hl;by_cases hn:n=0
  .by_cases hd:d=0
   .cases hs:dn s ⟨#[]⟩
    .simp[f237,hn,hd,hs]
    .rcases hl with⟨rfl,e⟩|⟨cq,rfl,e⟩<;>simp[f237,hn,hd,hs,e]
   .simp[f237,hn,hd]
  .simp[f237,hn]
def Fx(n:Nat)(b:Bool)(v:V)(h:Hp):cu cx (n+1) b 237 [jq v,true,false,false,false] h=some (.sc (.bool (iw v true false false false)),h):=by
 have hc:[jq v,.sc (.bool true),.sc (.bool false),.sc (.bool false),.sc (.bool false)].all calm=true:=by rw[Zn,kP];rfl
 refine fU f237 [.tmp 10] hc rfl ?_ b h;clear hc;cases v with
 |mk k n d s z l=>
  rw[fJ];simp only[iw,V.n,V.d,V.s,V.l];have hl:=wJ z l;generalize gY z l=L,l.isEmpty=E at hl;by_cases hd:d=0
  .cases hs:dn s ⟨#[]⟩
   .simp[f237,hd,hs]
   .rcases hl with⟨rfl,e⟩|⟨cq,rfl,e⟩<;>simp[f237,hd,hs,e]
  .simp[f237,hd]
def Fy(n:Nat)(b:Bool)(v:V)(h:Hp):cu cx (n+1) b 237 [jq v,true,true,false,false] h=some (.sc (.bool (iw v true true false false)),h):=by
 have hc:[jq v,.sc (.bool true),.sc (.bool true),.sc (.bool false),.sc (.bool false)].all calm=true:=by rw[Zn,kP];rfl
 refine fU f237 [.tmp 10] hc rfl ?_ b h;clear hc;cases v with
 |mk k n d s z l=>
  rw[fJ];simp only[iw,V.n,V.d,V.s,V.l];have hl:=wJ z l;generalize gY z l=L,l.isEmpty=E at hl;cases hs:dn s ⟨#[]⟩
  .simp[f237,hs]
  .rcases hl with⟨rfl,e⟩|⟨cq,rfl,e⟩<;>simp[f237,hs,e]
def FA(n:Nat)(b:Bool)(v:V)(h:Hp):cu cx (n+1) b 237 [jq v,false,false,true,false] h=some (.sc (.bool (iw v false false true false)),h):=by
 have hc:[jq v,.sc (.bool false),.sc (.bool false),.sc (.bool true),.sc (.bool false)].all calm=true:=by rw[Zn,kP];rfl
 refine fU f237 [.tmp 10] hc rfl ?_ b h;clear hc;cases v with
 |mk k n d s z l=>
  rw[fJ];simp only[iw,V.n,V.d,V.s,V.l];have hl:=wJ z l;generalize gY z l=L,l.isEmpty=E at hl;by_cases hn:n=0
  .by_cases hd:d=0
   .rcases hl with⟨rfl,e⟩|⟨cq,rfl,e⟩<;>simp[f237,hn,hd,e]
   .simp[f237,hn,hd]
  .simp[f237,hn]
def FB(n:Nat)(b:Bool)(v:V)(h:Hp):cu cx (n+1) b 237 [jq v,false,false,false,true] h=some (.sc (.bool (iw v false false false true)),h):=by
 have hc:[jq v,.sc (.bool false),.sc (.bool false),.sc (.bool false),.sc (.bool true)].all calm=true:=by rw[Zn,kP];rfl
 refine fU f237 [.tmp 10] hc rfl ?_ b h;clear hc;cases v with
 |mk k n d s z l=>
  rw[fJ];simp only[iw,V.n,V.d,V.s,V.l];have hl:=wJ z l;generalize gY z l=L,l.isEmpty=E at hl;by_cases hn:n=0
  .by_cases hd:d=0
   .cases hs:dn s ⟨#[]⟩
    .simp[f237,hn,hd,hs]
    .simp[f237,hn,hd,hs]
   .simp[f237,hn,hd]
  .simp[f237,hn]
def Jb(c:UInt8):Bool:=decide (32<=c.toNat) && decide (c.toNat<=126)
def Y6(c:UInt8):Jb c=(decide (32<=(c.toNat:Int)) && decide ((c.toNat:Int)<=126)):=by
 unfold Jb;generalize c.toNat=m;have e1:decide (32<=m)=decide (32<=(m:Int)):=decide_eq_decide.2 (by omega);have e2:decide (m<=126)=decide ((m:Int)<=126):=decide_eq_decide.2 (by omega);rw[e1,e2]
def okD(x:ByteArray)(i:Nat):Bool:=(x.data.toList.drop i).all Jb
def UH(x:ByteArray):FZ x=okD x 0:=rfl
def Y7(x:ByteArray)(i:Nat)(h:x.size<=i):okD x i=true:=by unfold okD;rw[Zt h];rfl
def UI{x:ByteArray}{i:Nat}{c:UInt8}(h:x.data.toList[i]?=some c):okD x i=(Jb c && okD x (i+1)):=by
 obtain⟨k,e⟩:=Za.1 h;unfold okD;rw[Zm k,e,Zn]
def Y8(n:Nat)(b:Bool)(x:ByteArray)(h:Hp)(hx:x.size<=1000000000000000):cu cx (n+1) b 239 [x] h=some (.sc (.bool (FZ x && decide ((x.size:Int)<=100))),h):=by
 refine fU f239 [.tmp 2] rfl rfl ?_ b h;have ik:x.data.toList.length=x.size:=rfl;simp[f239];refine ve
  (λi s _=>FZ x=okD x i/\s.length=23/\gt s 0=x/\gt s 3=i)
  (λo s _=>s.length=23/\((o= .exit 0/\FZ x=true/\gt s 0=x)\/(o= .ret/\FZ x=false/\gt s 2=false))) x.size (by simp;omega) (by simp[UH]) ?_ ?_
 .rintro i fr h cP ⟨ho,cp,h0,h3⟩;by_cases hi:i<x.size
  .obtain⟨c,hc⟩:∃c,x.data.toList[i]?=some c:=⟨_,Zb (by omega)⟩;rw[UI hc]at ho;have hf:dA .i64 ((i:Int)+1)=((i+1:Nat):Int):=cK (by omega) (by omega);have z_:∀k,x.data[i]'k=c:=λk=>by obtain⟨_,e⟩:=Za.1 hc;exact e
   obtain⟨q,hq⟩:∃q:Int,q=c.toNat:=⟨_,rfl⟩;have jB:Jb c=(decide (32<=q) && decide (q<=126)):=by rw[hq];exact Y6 c
   rw[jB]at ho;clear jB;by_cases c1:q<32
   .have z:FZ x=false:=by rw[ho];simp;omega
    clear ho;simp[cp,h0,h3,hi,z_,<-hq,c1,z]
   .by_cases c2:126<q
    .have z:FZ x=false:=by rw[ho];simp;omega
     clear ho;simp[cp,h0,h3,hi,z_,<-hq,c1,c2,z]
    .have z:FZ x=okD x (i+1):=by rw[ho];simp[show 32<=q by omega,show q<=126 by omega]
     clear ho;simp[cp,h0,h3,hi,z_,<-hq,c1,c2,hf];exact z
  .have hz:FZ x=true:=by rw[ho,Y7 x i (by omega)]
   simp[cp,h0,h3,hi,hz]
 .rintro o fr h hn ⟨cp,⟨rfl,hz,h0⟩|⟨rfl,hz,h2⟩⟩
  .simp[cp,h0,hz]
  .simp[h2,hz]
@[simp] def jN(v:V):(enc v).length=5:=by cases v;rfl
@[simp] def afg(v:V):List.take 5 (enc v)=enc v:=by cases v;rfl
def VC(N:Nat)(v:V):Prop:=∀b m h,0<=m->m<=8->cu cx N b 165 [.ag (enc v),.sc (.int .i64 m)] h=some (.sc (.bool (px v m)),h)
def Ca(l:List V)(m:Int)(i:Nat):Bool:=yX (l.drop i) m
def CI(l:List V)(m:Int):yX l m=Ca l m 0:=rfl
def F1(l:List V)(m:Int)(i:Nat)(h:l.length<=i):Ca l m i=true:=by unfold Ca;rw[Zt h];rfl
def CJ{l:List V}{m:Int}{i:Nat}{c:V}(h:l[i]?=some c):Ca l m i=(px c m && Ca l m (i+1)):=by
 obtain⟨k,e⟩:=Za.1 h;unfold Ca;rw[Zm k,e,yX]
def CH(l:List V)(m:Int):Bool:=decide ((l.length:Int)<=64) && decide (1<=m) && yX l (m-1)
def lH(z:Bool)(l:List V):calm (gY z l)=true:=by unfold gY zT;cases z && (fj l).isEmpty<;>rfl
def UJ(N:Nat)(b:Bool)(z:Bool)(l:List V)(m:Int)(h:Hp)(F2:0<=m)(hm8:m<=8)(hv:∀x∈l,VC N x):cu cx (N+1) b 241 [gY z l,m] h=some (.sc (.bool (CH l m)),h):=by
 have hc:[gY z l,.sc (.int .i64 m)].all calm=true:=by rw[Zn,lH];rfl
 refine fU f241 [.tmp 4] hc rfl ?_ b h;clear hc;unfold CH;by_cases h1:m<1
 .rcases gW z l with⟨rfl,e⟩|e<;>simp[f241,h1,show¬1<=m by omega,e]
 have tV:dA .i64 (m-1)=m-1:=cK (by omega) (by omega);have h1':1<=m:=by omega
 rcases gW z l with⟨rfl,e⟩|e
 .rw[e];simp[f241,h1,h1',yX];refine ve
   (λi s _=>i=0/\s.length=27/\gt s 0=()/\gt s 5=(0:Int))
   (λo s _=>s.length=27/\o= .exit 0) 0 (by simp) (by simp) ?_ ?_
  .rintro i fr h cP ⟨rfl,cp,h0,h5⟩;simp[cp,h0,h5]
  .rintro o fr h hn ⟨cp,rfl⟩;simp[cp]
 .rw[e];have hq:=dS l;have hg:=jA l;generalize fj l=cq at hq hg;by_cases h2:64< (l.length:Int)
  .simp[f241,h1,h1',hq,h2,show¬(l.length:Int)<=64 by omega]
  .have Jc:(l.length:Int)<=64:=by omega
   simp[f241,h1,h1',hq,h2,Jc];refine ve
    (λi s _=>yX l (m-1)=Ca l (m-1) i/\s.length=27/\gt s 0= .ls 5 cq z/\gt s 1=m/\gt s 5=i)
    (λo s _=>s.length=27/\((o= .exit 0/\yX l (m-1)=true)\/(o= .ret/\yX l (m-1)=false/\gt s 4=false))) l.length (by simp;omega) (by simp[CI]) ?_ ?_
   .rintro i fr h cP ⟨ho,cp,h0,h1,h5⟩;by_cases hi:i<l.length
    .obtain⟨c,hc⟩:=eA hi;have hr:cq[i]?=some (enc c):=by rw[hg,hc];rfl
     have cC:=gA hr
     have ML:=hv c (Zi hc);have cW:=λb h=>ML b (m-1) h (by omega) (by omega)
     rw[CJ hc]at ho;have hf:dA .i64 ((i:Int)+1)=((i+1:Nat):Int):=cK (by omega) (by omega);cases hk:px c (m-1)
     .have zz:yX l (m-1)=false:=by rw[ho,hk];rfl
      clear ho;simp[cp,h0,h1,h5,hi,hq,cC,tV,cW,hk,zz]
     .have zz:yX l (m-1)=Ca l (m-1) (i+1):=by rw[ho,hk];rfl
      clear ho;simp[cp,h0,h1,h5,hi,hq,cC,tV,cW,hk,hf];exact zz
    .have zz:yX l (m-1)=true:=by rw[ho,F1 l _ i (by omega)]
     simp[cp,h0,h5,hi,hq,zz]
   .rintro o fr h hn ⟨cp,⟨rfl,hz⟩|⟨rfl,hz,h2⟩⟩
    .simp[cp,hz]
    .simp[h2,hz]
def yC(l:List V)(i:Nat):Bool:=vh (l.drop i) (decide (i % 2=1))
def CF(l:List V):vh l false=yC l 0:=rfl
def F0(l:List V)(i:Nat)(h:l.length<=i):yC l i=true:=by unfold yC;rw[Zt h,vh]
def CG{l:List V}{i:Nat}{c:V}(h:l[i]?=some c):yC l i=((decide (c.k=if i % 2=1 then 6 else 5) && px c 0) && yC l (i+1)):=by
 obtain⟨k,e⟩:=Za.1 h;unfold yC;rw[Zm k,e,vh];rcases Nat.mod_two_eq_zero_or_one i with q|q
 .rw[show decide ((i+1) % 2=1)= !decide (i % 2=1)from by rw[q];simp;omega];simp[q]
 .rw[show decide ((i+1) % 2=1)= !decide (i % 2=1)from by rw[q];simp;omega];simp[q]
def xT(l:List V):Bool:=decide (l.length % 2=1) && decide ((l.length:Int)<=25) && vh l false
def UK(N:Nat)(b:Bool)(z:Bool)(l:List V)(h:Hp)(hv:∀x∈l,VC N x):cu cx (N+1) b 240 [gY z l] h=some (.sc (.bool (xT l)),h):=by
 have hc:[gY z l].all calm=true:=by rw[Zn,lH];rfl
 refine fU f240 [.tmp 2] hc rfl ?_ b h;clear hc;unfold xT;rcases gW z l with⟨rfl,e⟩|e
 .simp[f240,e]
 rw[e];have hq:=dS l;have hg:=jA l;generalize fj l=cq at hq hg;have hm:((l.length:Int).tmod 2)=((l.length % 2:Nat):Int):=rfl;by_cases h0:l.length % 2=0
 .rw[h0]at hm;simp[f240,hq,hm,h0]
 have tU:l.length % 2=1:=by omega
 rw[tU]at hm;by_cases h2:25< (l.length:Int)
 .simp[f240,hq,hm,tU,h2,show¬(l.length:Int)<=25 by omega]
 have Jc:(l.length:Int)<=25:=by omega
 simp[f240,hq,hm,tU,h2,Jc];refine ve
  (λi s _=>vh l false=yC l i/\s.length=38/\gt s 0= .ls 5 cq z/\gt s 3=i)
  (λo s _=>s.length=38/\((o= .exit 0/\vh l false=true)\/(o= .ret/\vh l false=false/\gt s 2=false))) l.length (by simp;omega) (by simp[CF]) ?_ ?_
 .rintro i fr h cP ⟨ho,cp,h0,h3⟩;by_cases hi:i<l.length
  .obtain⟨c,hc⟩:=eA hi;have hr:cq[i]?=some (enc c):=by rw[hg,hc];rfl
   have cC:=gA hr
   have ML:=hv c (Zi hc);have cW:=λb h=>ML b 0 h (by omega) (by omega)
   rw[CG hc]at ho;have hf:dA .i64 ((i:Int)+1)=((i+1:Nat):Int):=cK (by omega) (by omega);generalize px c 0=K at ho cW;cases c with
   |mk k n d s z' l'=>
    simp only[V.k]at ho;simp only[enc]at hr cC cW;generalize zT z' (fj l')=L' at hr cC cW;have hm:((i:Int).tmod 2)=((i % 2:Nat):Int):=rfl;rcases Nat.mod_two_eq_zero_or_one i with q|q<;>rw[q]at hm ho
    all_goals
     simp only[show¬((0:Nat)=1)from by decide,if_false,if_true]at ho
    .by_cases hk:k=5
     .subst hk;cases K
      .have zz:vh l false=false:=by rw[ho];simp
       clear ho;simp[cp,h0,h3,hi,hq,cC,cW,hm,zz]
      .have zz:vh l false=yC l (i+1):=by rw[ho];simp
       clear ho;simp[cp,h0,h3,hi,hq,cC,cW,hm,hf];exact zz
     .have zz:vh l false=false:=by rw[ho];simp[hk]
      clear ho;simp[cp,h0,h3,hi,hq,cC,hm,hk,zz]
    .by_cases hk:k=6
     .subst hk;cases K
      .have zz:vh l false=false:=by rw[ho];simp
       clear ho;simp[cp,h0,h3,hi,hq,cC,cW,hm,zz]
      .have zz:vh l false=yC l (i+1):=by rw[ho];simp
       clear ho;simp[cp,h0,h3,hi,hq,cC,cW,hm,hf];exact zz
     .have zz:vh l false=false:=by rw[ho];simp[hk]
      clear ho;simp[cp,h0,h3,hi,hq,cC,hm,hk,zz]
  .have zz:vh l false=true:=by rw[ho,F0 l i (by omega)]
   simp[cp,h0,h3,hi,hq,zz]
 .rintro o fr h hn ⟨cp,⟨rfl,hz⟩|⟨rfl,hz,h2⟩⟩
  .simp[cp,hz]
  .simp[h2,hz]
def ko(k n d:Int)(s:ByteArray)(z:Bool)(l:List V)(m:Int):px (.mk k n d s z l) m=
 (
  if k=0 then iw (.mk k n d s z l) false false false false
  else if k=1 then iw (.mk k n d s z l) true false false false && (decide (n=0)||decide (n=1))
  else if k=2 then iw (.mk k n d s z l) true false false false && tI n
  else if k=3 then iw (.mk k n d s z l) true true false false && decide (2<=d) && fv n d
  else if k=4 then iw (.mk k n d s z l) false false true false && (FZ s && decide ((s.size:Int)<=100))
  else if k=5\/k=6 then iw (.mk k n d s z l) true false false false && decide (1<=n) && decide (n<=1000000)
  else if k=7 then iw (.mk k n d s z l) false false false true && xT l
  else if k=8 then iw (.mk k n d s z l) false false false true && CH l m else false):=by
 have e1:decide ((s.size:Int)<=100)=decide (s.size<=100):=decide_eq_decide.2 (by omega);have e2:decide ((l.length:Int)<=25)=decide (l.length<=25):=decide_eq_decide.2 (by omega);have e3:decide ((l.length:Int)<=64)=decide (l.length<=64):=decide_eq_decide.2 (by omega);rw[px];unfold iw xT CH;simp only[V.n,V.d,V.s,V.l,e1,e2,e3];generalize yX l (m-1)=P1,vh l false=P2,FZ s=P3,dn s ⟨#[]⟩=P4,l.isEmpty=P9,tI n=P10,fv n d=P11;rw[Bool.eq_iff_iff];by_cases h0:k=0
 .subst h0;clear e1 e2 e3;simp;try grind
 by_cases h1:k=1
 .subst h1;clear e1 e2 e3;simp;try grind
 by_cases h2:k=2
 .subst h2;clear e1 e2 e3;simp;try grind
 by_cases h3:k=3
 .subst h3;clear e1 e2 e3;simp;try grind
 by_cases h4:k=4
 .subst h4;clear e1 e2 e3;simp;try grind
 by_cases h5:k=5
 .subst h5;clear e1 e2 e3;simp;try grind
 by_cases h6:k=6
 .subst h6;clear e1 e2 e3;simp;try grind
 by_cases h7:k=7
 .subst h7;clear e1 e2 e3;simp;try grind
 by_cases h8:k=8
 .subst h8;clear e1 e2 e3;simp;try grind
 simp[h0,h1,h2,h3,h4,h5,h6,h7,h8]
def MG(N:Nat)(v:V)(hs:v.s.size<=1000000000000000)(hv:∀x∈v.l,VC (N+3) x):VC (N+5) v:=by
 intro b m h F2 hm8;have hc:[AV.ag (enc v),.sc (.int .i64 m)].all calm=true:=by
  have:=kP v;simp only[jq]at this;rw[Zn,this];rfl
 refine fU f165 [.tmp 4] hc rfl ?_ b h;clear hc;cases v with
 |mk k n d s z l=>
  simp only[V.s,V.l]at hs hv;have au:=λb h=>Fv (N+3) b (.mk k n d s z l) h
  have ae:=λb h=>Fx (N+3) b (.mk k n d s z l) h
  have af:=λb h=>Fy (N+3) b (.mk k n d s z l) h
  have ah:=λb h=>FA (N+3) b (.mk k n d s z l) h
  have ai:=λb h=>FB (N+3) b (.mk k n d s z l) h
  have g1:=λb h=>acK (N+3) b n h
  have g2:=λb h=>qf (N+2) b n d h
  have g3:=λb h=>Y8 (N+3) b s h hs
  have g4:=λb h=>UK (N+3) b z l h hv
  have g5:=λb h=>UJ (N+3) b z l m h F2 hm8 hv
  have he:enc (.mk k n d s z l)=[.sc (.int .i64 k),.sc (.int .i64 n),.sc (.int .i64 d),.sc (.string s),gY z l]:=rfl;rw[ko,he];simp only[fJ]at au ae af ah ai;simp only[mE]at g2;clear he hv;have hL:(∃r,gY z l= .ls 5 r z)\/gY z l=():=(gW z l).elim (λe=> .inr e.2) (λe=> .inl ⟨_,e⟩);generalize gY z l=L at hL au ae af ah ai g4 g5;generalize iw (.mk k n d s z l) false false false false=B0 at au;generalize iw (.mk k n d s z l) true false false false=B1 at ae;generalize iw (.mk k n d s z l) true true false false=B2 at af;generalize iw (.mk k n d s z l) false false true false=B3 at ah;generalize iw (.mk k n d s z l) false false false true=B4 at ai;generalize xT l=R4 at g4;generalize CH l m=R5 at g5;generalize(FZ s && decide ((s.size:Int)<=100))=R3 at g3;generalize fv n d=R2 at g2;generalize tI n=R1 at g1;by_cases h0:k=0
  .subst h0;simp[f165,au]
  by_cases h1:k=1
  .subst h1;cases B1
   .simp[f165,ae]
   .by_cases q:n=0
    .subst q;simp[f165,ae]
    .simp[f165,ae,q]
  by_cases h2:k=2
  .subst h2;cases B1<;>simp[f165,ae,g1]
  by_cases h3:k=3
  .subst h3;cases B2
   .simp[f165,af]
   .by_cases q:2<=d
    .simp[cF,f165,af,q,g2]
    .simp[f165,af,q]
  by_cases h4:k=4
  .subst h4;cases B3<;>simp[f165,ah,g3]
  by_cases h5:k=5
  .subst h5;cases B1
   .simp[f165,ae]
   .by_cases q:1<=n<;>simp[f165,ae,q]
  by_cases h6:k=6
  .subst h6;cases B1
   .simp[f165,ae]
   .by_cases q:1<=n<;>simp[f165,ae,q]
  by_cases h7:k=7
  .subst h7;cases B4<;>rcases hL with⟨r,rfl⟩|rfl<;>simp[f165,ai,g4]
  by_cases h8:k=8
  .subst h8;cases B4<;>rcases hL with⟨r,rfl⟩|rfl<;>simp[f165,ai,g5]
  simp[f165,h0,h1,h2,h3,h4,h5,h6,h7,h8]
end
end Go.Proofs.YtmocfjnklfpnbaaGreatDoor
