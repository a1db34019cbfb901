/- Part of the proof. -/
import Derived.Test.YtmfohnojaginjaaGreatDoorP26
set_option linter.all false
set_option maxHeartbeats 16000000
set_option maxRecDepth 100000
namespace Go.Proofs.YtmfohnojaginjaaGreatDoor
open Go Go.Ae Go.Proofs.Tryz
section
attribute [local simp] cn eD
def Ee(r:Rl)(g:Gr)(n:Nd):Bool:=if r.kd=7 then qY r g n else qW r n
def PY(n D:Nat)(b:Bool)(r:Rl)(g:Gr)(h:Hp)(hv:VG D g):
 ch cx (n+5) b 166 [.ag (dd r),.ag (cl g)] h=some (dt 2 (p2 (kD (Ee r g) g.nodes)),h):=by
 have main:∃y h',dL [.tmp 4] (cO cx (ch cx (n+4)) ((f166.body).getD .skip) ([.ag (dd r),.ag (cl g)]++List.replicate 75 .un,[]))=some (y,h')/\gz h' 2 (p2 (kD (Ee r g) g.nodes)) y:=by
  have aa:=λ(c:Nd)x bb h hl=>jz (n+2) bb c x h hl
  have af:=λ(c:Nd)bb h hl=>Eb (n+2) bb r c.props false h hl
  rw[show n+2+2=n+4 from rfl]at aa af;generalize n+4=M at aa af|-;have hq:=dC g.nodes;have jc:=iJ g.nodes;have mO:=dD g.cj;have pz:=jy g.cj;have vF:=hv.nl;have BM:=hv.el;have j6:=hv.ns;clear hv;obtain⟨k,nn,nm,ky,f,t⟩:=r;unfold cl dy dz at *;generalize Aa:Ee ⟨k,nn,nm,ky,f,t⟩ g=bad;generalize f_ g.nodes=cg at hq jc|-;generalize fV g.cj=cY at mO pz|-;unfold dd at *;simp only at *;simp[f166];generalize gU:M (.loop _) _=XX;refine pU gU
   (λi s dn=>s.length=77/\gt s 2= .pt 0 0/\gt s 3= .pt 1 0/\gt s 6=i/\At dn 0 (.row [k,nn,nm,ky,f,t])/\At dn 1 (.row [.ls 3 cg false,.ls 5 cY false,g.nn,g.ne])/\∃y,gt s 5=y/\gz dn 2 (p2 (kD bad (g.nodes.take i))) y/\∀k m,y= .sl k 2 0 m false->k≠0/\k≠1)
   (λo s dn=>o= .exit 0/\s.length=77/\∃y,gt s 5=y/\gz dn 2 (p2 (kD bad g.nodes)) y) g.nodes.length (by simp;omega)
   ⟨by simp,by simp,by simp,by simp,rfl,rfl,.sc (.slice none 0 0),by simp,.inl ⟨rfl,rfl⟩,λk m e=>by cases e⟩ ?_ ?_
  .clear gU XX;rintro i fr hp da ⟨cf,g2,g3,g6,db,eo,y,g5,hB,hn⟩;have l0:=db.lt;have l1:=eo.lt;have a0:=db.fh;have a1:=eo.fh;have oO:∀kz,hp[0]'kz= .row [.sc (.int .i64 k),nn,nm,ky,f,t]:=λkz=>db.get kz
   have wU:∀kz,hp[1]'kz= .row [.ls 3 cg false,.ls 5 cY false,g.nn,g.ne]:=λkz=>eo.get kz
   rcases jr jc da with⟨c,hi,hx,hr,cz⟩|rfl
   .have Z9:=j6 c (Zi hx);have aa:=λbb h=>aa c nm bb h (by omega)
    have af:=λbb h=>af c bb h Z9.2
    have hf:=cG (i:=i) (by omega);have gw:=yH (bad:=bad) hx;have uV:∀y',(hp++y')[0]?=some (.row [.sc (.int .i64 k),nn,nm,ky,f,t]):=λy'=>(db.app y').fh
    have Av:∀y',(hp++y')[1]?=some (.row [.ls 3 cg false,.ls 5 cY false,g.nn,g.ne]):=λy'=>(eo.app y').fh
    have jH:∀y' kz,(hp++y')[0]'kz= .row [.sc (.int .i64 k),nn,nm,ky,f,t]:=λy' kz=>(db.app y').get kz
    have GL:∀y' kz,(hp++y')[1]'kz= .row [.ls 3 cg false,.ls 5 cY false,g.nn,g.ne]:=λy' kz=>(eo.app y').get kz
    have an:∀y',(hp++[y'])[hp.length]?=some y':=λy=>by simp
    have jm:∀y' kz,(hp++[y'])[hp.length]'kz=y':=λy kz=>by simp
    have q1:=λops d rest fr h=>tZ (λv=>hB.np v) (ch cx M true) ops d rest fr h
    have nQ:=hB.cls;have lC:bad c=(if k=7 then decide (nn< (o8 g.cj nm c.id:Int))else jS c.labels nm && jU ⟨k,nn,nm,ky,f,t⟩ c.props):=by rw[<-Aa];rfl
    unfold dh iD at hr cz aa;unfold eU at hr cz aa af;by_cases hk:k=7
    .subst hk;rw[cq rfl]at lC;generalize jU ⟨7,nn,nm,ky,f,t⟩ c.props=wb at af;cases h1:jS c.labels nm
     .rw[h1]at aa;simp[cf,g2,g3,g6,hi,hq,cz,l1,wU,jH,jm,aa];generalize o9:M (.loop _) _=YY;refine pU o9
       (λj s dn=>s.length=77/\gt s 2= .pt 0 0/\gt s 3= .pt 1 0/\gt s 5=y/\gt s 6=i/\gt s 7= .pt hp.length 0/\gt s 9= .sc (.int .i64 (o8 (g.cj.take j) nm c.id:Nat))/\gt s 10=j/\dn=hp++[.row [c.id,.ls 1 (fj c.labels) false,.ls 6 (d_ c.props) false]])
       (λo s dn=>o= .exit 2/\s.length=77/\gt s 2= .pt 0 0/\gt s 3= .pt 1 0/\gt s 5=y/\gt s 6=i/\gt s 7= .pt hp.length 0/\gt s 9= .sc (.int .i64 (o8 g.cj nm c.id:Nat))/\dn=hp++[.row [c.id,.ls 1 (fj c.labels) false,.ls 6 (d_ c.props) false]]) g.cj.length (by simp;omega)
       ⟨by simp[cf],by simp[g2],by simp[g3],by simp[g5],by simp[g6],by simp[cf],by simp[cf,o8],by simp[cf],rfl⟩ ?_ ?_
      .clear o9 YY cf g2 g3 g5 g6;rintro j fr MX jw ⟨cf,g2,g3,g5,g6,g7,g9,g10,hh⟩;subst hh;rcases jr pz jw with⟨e,hj,Z_,hre,yK⟩|rfl
       .have PZ:=cG (i:=j) (Yp jw (Yp BM (by decide)));have J_:=yI (nm:=nm) (x:=c.id) Z_;have yL:o8 (g.cj.take j) nm c.id<=4000:=Yp (FV _ _ _) (Yp (by rw[Xf];exact Nat.min_le_right _ _) BM);have uC:=cG (i:=o8 (g.cj.take j) nm c.id) (Yp yL (by decide));unfold dP eU at hre yK;by_cases hs:e.src=c.id
        .cases ht:fm e.type nm
         .rw[hs,ht,decide_eq_true rfl,Xd,cm (by simp),Nat.add_zero]at J_;simp[cf,g2,g3,g5,g6,g7,g9,g10,hj,mO,yK,Av,jH,jm,PZ,hs,ht,J_]
         .rw[hs,ht,decide_eq_true rfl,Xd,cq rfl]at J_;simp[cf,g2,g3,g5,g6,g7,g9,g10,hj,mO,yK,Av,jH,jm,PZ,hs,ht,J_,uC]
        .rw[decide_eq_false hs,Xi,cm (by simp),Nat.add_zero]at J_;simp[cf,g2,g3,g5,g6,g7,g9,g10,hj,mO,yK,Av,jm,PZ,hs,J_]
       .rw[Xx]at g9;simp[cf,g2,g3,g5,g6,g7,g9,g10,mO,Av]
      .clear cf g2 g3 g5 g6;rintro o kH h1 rfl ⟨rfl,cf,g2,g3,g5,g6,g7,g9,hh⟩;subst hh;by_cases hc:nn< (o8 g.cj nm c.id:Int)
       .rw[lC,cq (by simpa using hc)]at gw;obtain⟨j,ry,b1,b2,b3,b4⟩:=mF (hB.grow [.row [c.id,.ls 1 (fj c.labels) false,.ls 6 (d_ c.props) false]]) (by have:=r_ bad (g.nodes.take i);rw[Xf]at this;omega) c.id 0;have c0:=b3 0 _ (db.app _).fh λk n e=>((hn k n e).1).symm
        have c1:=b3 1 _ (eo.app _).fh λk n e=>((hn k n e).2).symm
        simp only[Zp,Zv,Zw,Zu,Xe,Xq,Xs]at b1 b4;rw[<-gw]at b2;simp[cf,g2,g3,g5,g6,g7,g9,hi,jH,jm,hf,hc,q1,b1];exact⟨c0,c1,b2,by omega⟩
       .rw[lC,cm (by simpa using hc),Yr]at gw;simp[cf,g2,g3,g5,g6,g9,hi,jH,hf,hc];exact⟨db.app _,eo.app _,by rw[gw];exact hB.grow _,hn⟩
     .rw[h1]at aa;simp[cf,g2,g3,g6,hi,hq,cz,l1,wU,jH,jm,aa,af];generalize o9:M (.loop _) _=YY;refine pU o9
       (λj s dn=>s.length=77/\gt s 2= .pt 0 0/\gt s 3= .pt 1 0/\gt s 5=y/\gt s 6=i/\gt s 7= .pt hp.length 0/\gt s 9= .sc (.int .i64 (o8 (g.cj.take j) nm c.id:Nat))/\gt s 10=j/\dn=hp++[.row [c.id,.ls 1 (fj c.labels) false,.ls 6 (d_ c.props) false]])
       (λo s dn=>o= .exit 2/\s.length=77/\gt s 2= .pt 0 0/\gt s 3= .pt 1 0/\gt s 5=y/\gt s 6=i/\gt s 7= .pt hp.length 0/\gt s 9= .sc (.int .i64 (o8 g.cj nm c.id:Nat))/\dn=hp++[.row [c.id,.ls 1 (fj c.labels) false,.ls 6 (d_ c.props) false]]) g.cj.length (by simp;omega)
       ⟨by simp[cf],by simp[g2],by simp[g3],by simp[g5],by simp[g6],by simp[cf],by simp[cf,o8],by simp[cf],rfl⟩ ?_ ?_
      .clear o9 YY cf g2 g3 g5 g6;rintro j fr MX jw ⟨cf,g2,g3,g5,g6,g7,g9,g10,hh⟩;subst hh;rcases jr pz jw with⟨e,hj,Z_,hre,yK⟩|rfl
       .have PZ:=cG (i:=j) (Yp jw (Yp BM (by decide)));have J_:=yI (nm:=nm) (x:=c.id) Z_;have yL:o8 (g.cj.take j) nm c.id<=4000:=Yp (FV _ _ _) (Yp (by rw[Xf];exact Nat.min_le_right _ _) BM);have uC:=cG (i:=o8 (g.cj.take j) nm c.id) (Yp yL (by decide));unfold dP eU at hre yK;by_cases hs:e.src=c.id
        .cases ht:fm e.type nm
         .rw[hs,ht,decide_eq_true rfl,Xd,cm (by simp),Nat.add_zero]at J_;simp[cf,g2,g3,g5,g6,g7,g9,g10,hj,mO,yK,Av,jH,jm,PZ,hs,ht,J_]
         .rw[hs,ht,decide_eq_true rfl,Xd,cq rfl]at J_;simp[cf,g2,g3,g5,g6,g7,g9,g10,hj,mO,yK,Av,jH,jm,PZ,hs,ht,J_,uC]
        .rw[decide_eq_false hs,Xi,cm (by simp),Nat.add_zero]at J_;simp[cf,g2,g3,g5,g6,g7,g9,g10,hj,mO,yK,Av,jm,PZ,hs,J_]
       .rw[Xx]at g9;simp[cf,g2,g3,g5,g6,g7,g9,g10,mO,Av]
      .clear cf g2 g3 g5 g6;rintro o kH h1 rfl ⟨rfl,cf,g2,g3,g5,g6,g7,g9,hh⟩;subst hh;by_cases hc:nn< (o8 g.cj nm c.id:Int)
       .rw[lC,cq (by simpa using hc)]at gw;obtain⟨j,ry,b1,b2,b3,b4⟩:=mF (hB.grow [.row [c.id,.ls 1 (fj c.labels) false,.ls 6 (d_ c.props) false]]) (by have:=r_ bad (g.nodes.take i);rw[Xf]at this;omega) c.id 0;have c0:=b3 0 _ (db.app _).fh λk n e=>((hn k n e).1).symm
        have c1:=b3 1 _ (eo.app _).fh λk n e=>((hn k n e).2).symm
        simp only[Zp,Zv,Zw,Zu,Xe,Xq,Xs]at b1 b4;rw[<-gw]at b2;simp[cf,g2,g3,g5,g6,g7,g9,hi,jH,jm,hf,hc,q1,b1];exact⟨c0,c1,b2,by omega⟩
       .rw[lC,cm (by simpa using hc),Yr]at gw;simp[cf,g2,g3,g5,g6,g9,hi,jH,hf,hc];exact⟨db.app _,eo.app _,by rw[gw];exact hB.grow _,hn⟩
    .rw[cm hk]at lC;cases h1:jS c.labels nm
     .rw[h1]at aa lC;rw[Xi]at lC;rw[lC,cm (by simp),Yr]at gw;simp[cf,g2,g3,g5,g6,hi,hq,cz,l1,wU,jH,jm,hf,aa,hk];exact⟨db.app _,eo.app _,by rw[gw];exact hB.grow _,hn⟩
     .rw[h1]at aa lC;rw[Xd]at lC;cases h2:jU ⟨k,nn,nm,ky,f,t⟩ c.props
      .rw[h2]at af lC;rw[lC,cm (by simp),Yr]at gw;simp[cf,g2,g3,g5,g6,hi,hq,cz,l1,wU,jH,jm,hf,aa,af,hk];exact⟨db.app _,eo.app _,by rw[gw];exact hB.grow _,hn⟩
      .rw[h2]at af lC;rw[lC,cq rfl]at gw;obtain⟨j,ry,b1,b2,b3,b4⟩:=mF (hB.grow [.row [c.id,.ls 1 (fj c.labels) false,.ls 6 (d_ c.props) false]]) (by have:=r_ bad (g.nodes.take i);rw[Xf]at this;omega) c.id 0;have c0:=b3 0 _ (db.app _).fh λk n e=>((hn k n e).1).symm
       have c1:=b3 1 _ (eo.app _).fh λk n e=>((hn k n e).2).symm
       simp only[Zp,Zv,Zw,Zu,Xe,Xq,Xs]at b1 b4;rw[<-gw]at b2;simp[cf,g2,g3,g5,g6,hi,hq,cz,l1,wU,jH,jm,hf,aa,af,hk,q1,b1];exact⟨c0,c1,b2,by omega⟩
   .simp[cf,g3,g5,g6,hq,wU,l1];rw[Xx]at hB;exact hB
  .rintro o gO hp rfl ⟨rfl,cf,y,g5,hB⟩;have q1:=λops d rest fr h=>tZ (λv=>hB.np v) (ch cx M true) ops d rest fr h
   have nQ:=hB.cls;simp[cf,g5,q1];exact gq hB
 obtain⟨y,h',e,hB⟩:=main;exact gD (r:=y) (h':=h') (n:=n+4) ⟨f166.ntmps,(f166.body).getD .skip,[.tmp 4]⟩ (by kernel_rfl) (by kernel_rfl) rfl (by kernel_rfl) (by simp[f166]) (mP _ _) e (fJ (n:=7) (by omega) (ua _) (oM _) hB) b h
def Dl(r:Rl)(c:Nd):Option V:=if jS c.labels r.nm=true then ja c.props r.ky else none
def lD(r:Rl)(a b:Nd):List (Int × Int):=match Dl r a,Dl r b with
 |some v,some w=>if nU v w=2 then[(a.id,b.id)]else[]
 |_,_=> []
def IJ(i j k:Nat):Prop:=k=i+1+j
def mG(r:Rl):List Nd->List (Int × Int)
 | []=> []
 |a::l=>l.flatMap (lD r a)++mG r l
def P5(r:Rl)(a b:Nd):(lD r a b).length<=1:=by
 unfold lD;split
 .split<;>simp
 .simp
def IQ(r:Rl)(a:Nd):∀l:List Nd,(l.flatMap (lD r a)).length<=l.length
 | []=>by simp
 |
  b::l=>by
  rw[List.flatMap_cons,Zu,Xe];have h1:=P5 r a b;have h2:=IQ r a l;omega
def xG(r:Rl):∀l:List Nd,(mG r l).length<=l.length*l.length
 | []=>by simp[mG]
 |
  a::l=>by
  rw[mG,Zu,Xe];have h1:=IQ r a l;have h2:=xG r l;have h3:(l.length+1)*(l.length+1)=l.length*l.length+2*l.length+1:=by rw[Xp,Nat.mul_add];omega
  omega
@[simp] def ag1(h:Hp)(a b c d:eK)(l:Hp):(h++a::b::c::d::l)[h.length+3]?=some d:=by rw[Zf (by omega)];simp
def VbG(D:Nat)(g:Gr):Prop:=∀n∈g.nodes,RZ D n.props
def Ef{l:List fZ}{k:ByteArray}{v:V}(h:ja l k=some v):∃p∈l,p.v=v:=by
 induction l with
 |nil=>cases h
 |cons c l ih=>
  rw[ja]at h;split at h
  .exact⟨c,by simp,Option.some.inj h⟩
  .obtain⟨p,hp,e⟩:=ih h;exact⟨p,by simp[hp],e⟩
def IU{D:Nat}{l:List fZ}{k:ByteArray}(hl:RZ D l)(o:Option V)(ho:ja l k=o):gS (o.getD zeroV)<=D+1/\jK (o.getD zeroV):=by
 cases o with
 |none=>exact⟨by simp[zeroV,gS,G6],Bq⟩
 |some v=>
  obtain⟨p,hp,rfl⟩:=Ef ho;exact⟨Nat.le_succ_of_le (hl p hp).1,(hl p hp).2⟩
def Lx(N D:Nat)(b:Bool)(r:Rl)(g:Gr)(h:Hp)(hv:VG D g)(tm:VbG D g):
 ch cx (N+2*D+9) b 164 [.ag (dd r),.ag (cl g)] h=some (dt 2 (p2 (mG r g.nodes)),h):=by
 have main:∃y h',dL [.tmp 4] (cO cx (ch cx (N+2*D+8)) ((f164.body).getD .skip) ([.ag (dd r),.ag (cl g)]++List.replicate 85 .un,[]))=some (y,h')/\gz h' 2 (p2 (mG r g.nodes)) y:=by
  have aa:=λ(l:List fZ)bb h hl=>Nh (N+2*D+7) bb l false r.ky h hl
  have af:=λ(c:Nd)bb h hl=>jz (N+2*D+6) bb c r.nm h hl
  have ah:=λ(v w:V)bb h d1 d2 b1 b2=>O0 N (D+1) bb v w h d1 d2 b1 b2
  rw[show N+2*D+7+1=N+2*D+8 from rfl]at aa;rw[show N+2*D+6+2=N+2*D+8 from rfl]at af;rw[show N+2*(D+1)+6=N+2*D+8 by omega]at ah;generalize N+2*D+8=M at aa af ah|-;have hq:=dC g.nodes;have jc:=iJ g.nodes;have vF:=hv.nl;have j6:=hv.ns;clear hv;have hUl:=xG r g.nodes;have hUm:g.nodes.length*g.nodes.length<=2000*2000:=Nat.mul_le_mul vF vF;have P6:(mG r g.nodes).length<=10^8:=by omega
  clear hUl hUm;obtain⟨k,nn,nm,ky,f,t⟩:=r;unfold cl dy at *;generalize hU:mG ⟨k,nn,nm,ky,f,t⟩ g.nodes=U at P6|-;generalize f_ g.nodes=cg at hq jc|-;unfold dd at *;simp only at aa af ah|-;simp[f164];generalize gU:M (.loop _) _=XX;refine pU gU
   (λi s dn=>s.length=87/\gt s 2= .pt 0 0/\gt s 3= .pt 1 0/\gt s 6=i/\At dn 0 (.row [k,nn,nm,ky,f,t])/\At dn 1 (.row [.ls 3 cg false,dz g.cj,g.nn,g.ne])/\∃y P,gt s 5=y/\gz dn 2 (p2 P) y/\P++mG ⟨k,nn,nm,ky,f,t⟩ (g.nodes.drop i)=U/\∀k m,y= .sl k 2 0 m false->k≠0/\k≠1)
   (λo s dn=>o= .exit 0/\s.length=87/\∃y,gt s 5=y/\gz dn 2 (p2 U) y) g.nodes.length (by simp;omega)
   ⟨by simp,by simp,by simp,by simp,rfl,rfl,.sc (.slice none 0 0),[],by simp,.inl ⟨rfl,rfl⟩,hU,λk m e=>by cases e⟩ ?_ ?_
  .clear gU XX hU;rintro i fr hp da ⟨cf,g2,g3,g6,db,eo,y,P,g5,hB,hP,hn⟩;have l0:=db.lt;have l1:=eo.lt;have a0:=db.fh;have a1:=eo.fh;have oO:∀kz,hp[0]'kz= .row [.sc (.int .i64 k),nn,nm,ky,f,t]:=λkz=>db.get kz
   have wU:∀kz,hp[1]'kz= .row [.ls 3 cg false,dz g.cj,g.nn,g.ne]:=λkz=>eo.get kz
   rcases jr jc da with⟨a,hi,hxa,ha,ha'⟩|rfl
   .have xc:=cG (i:=i) (Yp da (Yp vF (by decide)));have hma:=Zi hxa;rw[jd hxa,mG]at hP;unfold dh iD eU at ha ha';simp[cf,g3,g6,hi,hq,l1,wU,xc];generalize o9:M (.loop _) _=YY;refine pU o9
     (λj s dn=>s.length=87/\gt s 2= .pt 0 0/\gt s 3= .pt 1 0/\gt s 6=i/\At dn 0 (.row [.sc (.int .i64 k),nn,nm,ky,f,t])/\At dn 1 (.row [.ls 3 cg false,dz g.cj,g.nn,g.ne])/\∃kk,IJ i j kk/\kk<=g.nodes.length/\gt s 7=kk/\∃y P,gt s 5=y/\gz dn 2 (p2 P) y/\P++((g.nodes.drop kk).flatMap (lD ⟨k,nn,nm,ky,f,t⟩ a)++mG ⟨k,nn,nm,ky,f,t⟩ (g.nodes.drop (i+1)))=U/\∀k m,y= .sl k 2 0 m false->k≠0/\k≠1)
     (λo s dn=>o= .exit 2/\s.length=87/\gt s 2= .pt 0 0/\gt s 3= .pt 1 0/\gt s 6=i/\At dn 0 (.row [.sc (.int .i64 k),nn,nm,ky,f,t])/\At dn 1 (.row [.ls 3 cg false,dz g.cj,g.nn,g.ne])/\∃y P,gt s 5=y/\gz dn 2 (p2 P) y/\P++mG ⟨k,nn,nm,ky,f,t⟩ (g.nodes.drop (i+1))=U/\∀k m,y= .sl k 2 0 m false->k≠0/\k≠1) (g.nodes.length-(i+1)) (by clear xc;simp;omega)
     ⟨by simp[cf],by simp[g2],by simp[g3],by simp[g6],db,eo,i+1,rfl,hi,by simp[cf],y,P,by simp[g5],hB,hP,hn⟩ ?_ ?_
    .clear o9 YY cf g2 g3 g5 g6 db eo hB hP hn P y a0 a1 l0 l1 oO wU xc;rintro j fr hp jw ⟨cf,g2,g3,g6,db,eo,kk,hIJ,pZ,g7,y,P,g5,hB,hP,hn⟩;have l0:=db.lt;have l1:=eo.lt;have a0:=db.fh;have a1:=eo.fh;have oO:∀kz,hp[0]'kz= .row [.sc (.int .i64 k),nn,nm,ky,f,t]:=λkz=>db.get kz
     have wU:∀kz,hp[1]'kz= .row [.ls 3 cg false,dz g.cj,g.nn,g.ne]:=λkz=>eo.get kz
     have FW:IJ i (j+1) (kk+1):=by unfold IJ at hIJ|-;omega
     have aaa:kk<g.nodes.length->j<g.nodes.length-(i+1):=λq=>by unfold IJ at hIJ;omega
     rcases jr jc pZ with⟨c,mS,hxc,hr,cz⟩|tL
     .have hjN:=aaa mS;have hf:=cG (i:=kk) (Yp pZ (Yp vF (by decide)));have Nn:=Zi hxc;rw[jd hxc,List.flatMap_cons,Zp]at hP;have uV:∀y',(hp++y')[0]?=some (.row [.sc (.int .i64 k),nn,nm,ky,f,t]):=λy'=>(db.app y').fh
      have Av:∀y',(hp++y')[1]?=some (.row [.ls 3 cg false,dz g.cj,g.nn,g.ne]):=λy'=>(eo.app y').fh
      have jH:∀y' kz,(hp++y')[0]'kz= .row [.sc (.int .i64 k),nn,nm,ky,f,t]:=λy' kz=>(db.app y').get kz
      have GL:∀y' kz,(hp++y')[1]'kz= .row [.ls 3 cg false,dz g.cj,g.nn,g.ne]:=λy' kz=>(eo.app y').get kz
      have fW:=λbb h=>aa a.props bb h (j6 a hma).2
      have zf:=λbb h=>aa c.props bb h (j6 c Nn).2
      have Hn:=λbb h=>af a bb h (Yp (j6 a hma).1 (by decide))
      have J0:=λbb h=>af c bb h (Yp (j6 c Nn).1 (by decide))
      have q1:=λops d rest fr h=>tZ (λv=>hB.np v) (ch cx M true) ops d rest fr h
      have nQ:=hB.cls;generalize hoa:ja a.props ky=oa at fW;generalize hob:ja c.props ky=ob at zf;obtain⟨d1,e1⟩:=IU (tm a hma) oa hoa;obtain⟨d2,e2⟩:=IU (tm c Nn) ob hob;have ah:=λbb h=>ah (oa.getD zeroV) (ob.getD zeroV) bb h d1 d2 e1 e2
      have FX:lD ⟨k,nn,nm,ky,f,t⟩ a c=(if(oa.isSome && ob.isSome && jS a.labels nm && jS c.labels nm && decide (nU (oa.getD zeroV) (ob.getD zeroV)=2))=true then[(a.id,c.id)]else[]):=by
       unfold lD Dl;simp only[hoa,hob];cases jS a.labels nm<;>cases jS c.labels nm<;>cases oa<;>cases ob<;>simp
      clear d1 d2 e1 e2 hoa hob;unfold IK at fW zf;have zZ:=dB (oa.getD zeroV);have AA:=dB (ob.getD zeroV);have ht1:=BV (oa.getD zeroV);have ht2:=BV (ob.getD zeroV);generalize nU (oa.getD zeroV) (ob.getD zeroV)=ev at ah FX;generalize enc (oa.getD zeroV)=rv at fW ah zZ ht1;generalize enc (ob.getD zeroV)=rw' at zf ah AA ht2;generalize oa.isSome=ba at fW FX;generalize ob.isSome=bb0 at zf FX;generalize jS a.labels nm=la at Hn FX;generalize jS c.labels nm=lb at J0 FX;unfold dh iD eU at hr cz Hn J0;unfold eU at fW zf;have vJ:∀X:Hp,lD ⟨k,nn,nm,ky,f,t⟩ a c=[]->gz (hp++X) 2 (p2 P) y/\P++((g.nodes.drop (kk+1)).flatMap (lD ⟨k,nn,nm,ky,f,t⟩ a)++mG ⟨k,nn,nm,ky,f,t⟩ (g.nodes.drop (i+1)))=U:=λX e=>⟨hB.grow _,by rw[<-hP,e];rfl⟩
      cases ba
      .have e:lD ⟨k,nn,nm,ky,f,t⟩ a c=[]:=by rw[FX];simp
       simp[cf,g2,g3,g5,g6,g7,hi,mS,hq,ha',cz,l0,l1,wU,jH,GL,hf,fW,zf,zZ,AA,hjN];exact⟨db.app _,eo.app _,kk+1,FW,mS,by simp,P,(vJ _ e).1,(vJ [] e).2,hn⟩
      cases bb0
      .have e:lD ⟨k,nn,nm,ky,f,t⟩ a c=[]:=by rw[FX];simp
       simp[cf,g2,g3,g5,g6,g7,hi,mS,hq,ha',cz,l0,l1,wU,jH,GL,hf,fW,zf,zZ,AA,hjN];exact⟨db.app _,eo.app _,kk+1,FW,mS,by simp,P,(vJ _ e).1,(vJ [] e).2,hn⟩
      cases la
      .have e:lD ⟨k,nn,nm,ky,f,t⟩ a c=[]:=by rw[FX];simp
       simp[cf,g2,g3,g5,g6,g7,hi,mS,hq,ha',cz,l0,l1,wU,jH,GL,hf,fW,zf,zZ,AA,Hn,hjN];exact⟨db.app _,eo.app _,kk+1,FW,mS,by simp,P,(vJ _ e).1,(vJ [] e).2,hn⟩
      cases lb
      .have e:lD ⟨k,nn,nm,ky,f,t⟩ a c=[]:=by rw[FX];simp
       simp[cf,g2,g3,g5,g6,g7,hi,mS,hq,ha',cz,l0,l1,wU,jH,GL,hf,fW,zf,zZ,AA,Hn,J0,hjN];exact⟨db.app _,eo.app _,kk+1,FW,mS,by simp,P,(vJ _ e).1,(vJ [] e).2,hn⟩
      by_cases h2:ev=2
      .subst h2;have e:lD ⟨k,nn,nm,ky,f,t⟩ a c=[(a.id,c.id)]:=by rw[FX];simp
       obtain⟨j',ry,b1,b2,b3,b4⟩:=mF (hB.grow [.row [a.id,.ls 1 (fj a.labels) false,.ls 6 (d_ a.props) false],.row [c.id,.ls 1 (fj c.labels) false,.ls 6 (d_ c.props) false],.row rv,.row rw']) (by have:=congrArg List.length hP;rw[Zu]at this;exact Yp (Yp (Nat.le_add_right _ _) (Nat.le_of_eq this)) P6) a.id c.id;have c0:=b3 0 _ (db.app _).fh λk n e=>((hn k n e).1).symm
       have c1:=b3 1 _ (eo.app _).fh λk n e=>((hn k n e).2).symm
       simp only[Zp,Zv,Zw,Zu,Xe,Xq,Xs]at b1 b4;have hP':(P++[(a.id,c.id)])++((g.nodes.drop (kk+1)).flatMap (lD ⟨k,nn,nm,ky,f,t⟩ a)++mG ⟨k,nn,nm,ky,f,t⟩ (g.nodes.drop (i+1)))=U:=by rw[<-hP,e,Zp]
       simp[cf,g2,g3,g5,g6,g7,hi,mS,hq,ha',cz,l0,l1,wU,jH,GL,hf,fW,zf,zZ,AA,ht1,ht2,Hn,J0,ah,hjN,q1,b1];have AU:2<=j':=by clear hf;omega
       exact⟨c0,c1,kk+1,FW,mS,by simp,P++[(a.id,c.id)],b2,hP',λq=>by subst q;exact absurd AU (by decide),λq=>by subst q;exact absurd AU (by decide)⟩
      .have e:lD ⟨k,nn,nm,ky,f,t⟩ a c=[]:=by rw[FX];simp[h2]
       simp[cf,g2,g3,g5,g6,g7,hi,mS,hq,ha',cz,l0,l1,wU,jH,GL,hf,fW,zf,zZ,AA,ht1,ht2,Hn,J0,ah,h2,hjN];exact⟨db.app _,eo.app _,kk+1,FW,mS,by simp,P,(vJ _ e).1,(vJ [] e).2,hn⟩
     .simp[cf,g2,g3,g5,g6,g7,tL,hq,wU,l1];rw[tL,Yc]at hP;exact⟨db,eo,P,hB,hP,hn⟩
    .rintro o gO hp rfl ⟨rfl,cf,g2,g3,g6,db,eo,y,P,g5,hB,hP,hn⟩;simp[cf,g2,g3,g5,g6,hi,xc];exact⟨db,eo,P,hB,hP,hn⟩
   .simp[cf,g3,g5,g6,hq,wU,l1];rw[Yc,mG,Yr]at hP;rw[<-hP];exact hB
  .rintro o gO hp rfl ⟨rfl,cf,y,g5,hB⟩;have q1:=λops d rest fr h=>tZ (λv=>hB.np v) (ch cx M true) ops d rest fr h
   have nQ:=hB.cls;simp[cf,g5,q1];exact gq hB
 obtain⟨y,h',e,hB⟩:=main;exact gD (r:=y) (h':=h') (n:=N+2*D+8) ⟨f164.ntmps,(f164.body).getD .skip,[.tmp 4]⟩ (by kernel_rfl) (by kernel_rfl) rfl (by kernel_rfl) (by simp[f164]) (mP _ _) e (fJ (n:=7) (by omega) (ua _) (oM _) hB) b h
end
section
attribute [local simp] eD
attribute [local simp] qz
def P7(N D:Nat)(b:Bool)(v w:V)(h:Hp)(dv:gS v<=D)(dw:gS w<=D)(bv:jK v)(bw:jK w):ch cx (N+2*D+7) b 258 [.ag (enc v),.ag (enc w)] h=some (.sc (.int .i64 (nU v w)),h):=by
 refine eR (n:=N+2*D+6) f258 [.tmp 4] (Y8 v w) rfl ?_ b h;have aa:=λb h=>nY (N+2) D v dv bv b h
 have af:=λb h=>nY (N+2) D w dw bw b h
 rw[show N+2+2*D+4=N+2*D+6 by omega]at aa af;have ah:jo v=true->jo w=true->∀b h,ch cx (N+2*D+6) b 373 [.ag (enc v),.ag (enc w)] h=some (.sc (.int .i64 (nU v w)),h):=λa c b h=>adw D v w dv dw bv bw a c N b h
 have e0:v.k=0\/w.k=0\/jo v=false\/jo w=false->nU v w=1:=λq=>by
  cases v;rw[nU];exact cq q
 generalize nU v w=E at ah e0|-;unfold iX at aa af;generalize jo v=p,jo w=q at *;obtain⟨k,m,d,s,z,l⟩:=v;obtain⟨k',m',d',s',z',l'⟩:=w;simp only[V.k]at e0;simp only[enc]at aa af ah|-;generalize po z (ef l)=L,po z' (ef l')=L' at *;by_cases k0:k=0
 .rw[e0 (.inl k0)];simp[f258,k0]
 .by_cases J6:k'=0
  .rw[e0 (.inr (.inl J6))];simp[f258,k0,J6]
  .cases p
   .rw[e0 (.inr (.inr (.inl rfl)))];simp[f258,k0,J6,aa]
   .cases q
    .rw[e0 (.inr (.inr (.inr rfl)))];simp[f258,k0,J6,aa,af]
    .have ah:=ah rfl rfl;simp[f258,k0,J6,aa,af,ah]
def Ly{α:Type}(p:α->Bool):List α->Nat->Int
 | [],_=> -1
 |x::l,i=>if p x=true then i else Ly p l (i+1)
def j7{α:Type}(p:α->Bool)(l:List α)(i:Nat):Int:=Ly p (l.drop i) i
def Eg{α:Type}(p:α->Bool)(l:List α)(i:Nat)(h:l.length<=i):j7 p l i= -1:=by unfold j7;rw[Zt h,Ly]
def BZ{α:Type}{p:α->Bool}{l:List α}{i:Nat}{c:α}(h:l[i]?=some c):j7 p l i=if p c=true then(i:Int)else j7 p l (i+1):=by
 obtain⟨k,e⟩:=Za.1 h;unfold j7;rw[Zm k,e,Ly]
end
section
attribute [local simp] cn eD
def xH(r:Rl)(c:Nd):List (Int × V):=match Dl r c with|some v=> [(c.id,v)]|none=> []
def o_(r:Rl)(l:List Nd):List (Int × V):=l.flatMap (xH r)
def prO(a b:Int × V):List (Int × Int):=if nU a.2 b.2=2 then[(a.1,b.1)]else[]
def XB :List (Int × V)->List (Int × Int)
 | []=> []
 |a::l=>l.flatMap (prO a)++XB l
def Eh(r:Rl)(a:Nd)(v:V)(ha:Dl r a=some v):∀l:List Nd,l.flatMap (lD r a)=(o_ r l).flatMap (prO (a.id,v))
 | []=>rfl
 |
  b::l=>by
  rw[List.flatMap_cons,Eh r a v ha l];show _=(xH r b++o_ r l).flatMap _;rw[List.flatMap_append]
  congr 1
  unfold lD xH;rw[ha];cases Dl r b with
  |none=>rfl
  |some w=>simp[prO]
def B5(r:Rl)(a:Nd)(ha:Dl r a=none):∀l:List Nd,l.flatMap (lD r a)=[]
 | []=>rfl
 |
  b::l=>by
  rw[List.flatMap_cons,B5 r a ha l];unfold lD;rw[ha];rfl
def U0(r:Rl):∀l:List Nd,mG r l=XB (o_ r l)
 | []=>rfl
 |
  a::l=>by
  rw[mG,U0 r l];show _=XB (xH r a++o_ r l);cases ha:Dl r a with
  |none=>rw[B5 r a ha l];unfold xH;rw[ha];rfl
  |some v=>rw[Eh r a v ha l];unfold xH;rw[ha];rfl
def Dm(l:List (Int × V)):List LA:=l.map λp=> .sc (.int .i64 p.1)::enc p.2
def B6(l:List (Int × V)):(Dm l).length=l.length:=by simp[Dm]
def aab(l:List (Int × V))(i:Nat):(Dm l)[i]?=(l[i]?).map λp=> .sc (.int .i64 p.1)::enc p.2:=by simp[Dm]
def Np(l:List (Int × V)):∀r∈Dm l,r.length=6:=λr hr=>by obtain⟨c,_,rfl⟩:=Yk.1 hr;simp[dB]
def Nq{sz:Nat}:∀(cg:List LA)(i:Nat)(r:LA),(∀r∈cg,r.length=sz)->cg[i]?=some r->i*sz+sz<=cg.flatten.length/\(cg.flatten.drop (i*sz)).take sz=r
 | [],i,r,_,h=>by cases h
 |
  q::cg,0,r,hl,h=>by
  cases h;have hq:=hl q (by simp);refine⟨by simp[hq],?_⟩;simp[<-hq]
 |
  q::cg,i+1,r,hl,h=>by
  have hq:=hl q (by simp);obtain⟨h1,h2⟩:=Nq cg i r (λx hx=>hl x (by simp[hx])) (by simpa using h);have e:(i+1)*sz=sz+i*sz:=by rw[Xp,Nat.one_mul,Nat.add_comm]
  refine⟨by rw[List.flatten_cons,Zu,hq,e];omega,?_⟩;rw[List.flatten_cons,e,<-List.drop_drop,show List.drop sz (q++cg.flatten)=cg.flatten by rw[<-hq,List.drop_left]];exact h2
def adD{D:Nat}{r:Rl}{g:Gr}(tm:VbG D g){p:Int × V}(hp:p∈o_ r g.nodes):gS p.2<=D+1/\jK p.2:=by
 obtain⟨c,hc,hp⟩:=List.mem_flatMap.1 hp;unfold xH Dl at hp;split at hp
 .rename_i v hv;split at hv
  .simp only[Yw,Qf,or_false]at hp;subst hp;obtain⟨q,hq,rfl⟩:=Ef hv;exact⟨Nat.le_succ_of_le (tm c hc q hq).1,(tm c hc q hq).2⟩
  .cases hv
 .cases hp
def FY(r:Rl):∀l:List Nd,(o_ r l).length<=l.length
 | []=>by simp[o_]
 |
  a::l=>by
  have:=FY r l;show(xH r a++o_ r l).length<=_;rw[Zu,Xe];have h1:(xH r a).length<=1:=by unfold xH;split<;>simp
  omega
def P8(N D:Nat)(b:Bool)(r:Rl)(g:Gr)(h:Hp)(hv:VG D g)(tm:VbG D g):
 ch cx (N+2*D+10) b 158 [.ag (dd r),.ag (cl g)] h=some (dt 2 (p2 (mG r g.nodes)),h):=by
 have main:∃y h',dL [.tmp 4] (cO cx (ch cx (N+2*D+9)) ((f158.body).getD .skip) ([.ag (dd r),.ag (cl g)]++List.replicate 76 .un,[]))=some (y,h')/\gz h' 2 (p2 (mG r g.nodes)) y:=by
  have aa:=λ(l:List fZ)bb h hl=>Ng (N+2*D+8) bb l false r.ky h hl
  have af:=λ(c:Nd)bb h hl=>wi (N+2*D+6) bb c r.nm h hl
  have ah:=λ(v w:V)bb h d1 d2 b1 b2=>P7 N (D+1) bb v w h d1 d2 b1 b2
  rw[show N+2*D+8+1=N+2*D+9 from rfl]at aa;rw[show N+2*D+6+3=N+2*D+9 from rfl]at af;rw[show N+2*(D+1)+7=N+2*D+9 by omega]at ah;generalize N+2*D+9=M at aa af ah|-;have hq:=dC g.nodes;have jc:=iJ g.nodes;have vF:=hv.nl;have j6:=hv.ns;clear hv;have hUl:=xG r g.nodes;have hUm:g.nodes.length*g.nodes.length<=2000*2000:=Nat.mul_le_mul vF vF;have P6:(mG r g.nodes).length<=10^8:=by omega
  have hLb:=FY r g.nodes;have hvL:=λp hp=>adD (r:=r) tm (p:=p) hp
  rw[U0]at P6|-;clear hUl hUm tm;obtain⟨k,nn,nm,ky,f,t⟩:=r;unfold cl dy at *;generalize hL:o_ ⟨k,nn,nm,ky,f,t⟩ g.nodes=L at P6 hLb hvL|-;generalize hU:XB L=U at P6|-;generalize f_ g.nodes=cg at hq jc|-;unfold dd at *;simp only at aa af ah|-;simp[f158,hq];generalize gU:M (.loop _) _=XX;refine pU gU
   (λi s dn=>s.length=78/\gt s 2= .pt 0 0/\gt s 16= .ls 3 cg false/\gt s 17=g.nodes.length/\gt s 18=i/\At dn 0 (.row [k,nn,nm,ky,f,t])/\∃y,gt s 5=y/\gz dn 6 (Dm (o_ ⟨k,nn,nm,ky,f,t⟩ (g.nodes.take i))) y/\∀k m,y= .sl k 6 0 m false->k≠0)
   (λo s dn=>o= .exit 0/\s.length=78/\∃y,gt s 5=y/\gz dn 6 (Dm L) y) g.nodes.length (by simp;omega)
   ⟨by simp,by simp,by simp,by simp,by simp,rfl,.sc (.slice none 0 0),by simp,.inl ⟨rfl,rfl⟩,λk m e=>by cases e⟩ ?_ ?_
  .clear gU XX hU;rintro i fr hp da ⟨cf,g2,g16,g17,g18,db,y,g5,hB,hn⟩;rcases jr jc da with⟨c,hi,hx,hr,cz⟩|rfl
   .have Nn:=Zi hx;have aa:=λbb h=>aa c.props bb h (j6 c Nn).2
    have af:=λbb h=>af c bb h (Yp (j6 c Nn).1 (by decide))
    have hf:=cG (i:=i) (Yp da (Yp vF (by decide)));have gw:o_ ⟨k,nn,nm,ky,f,t⟩ (g.nodes.take (i+1))=o_ ⟨k,nn,nm,ky,f,t⟩ (g.nodes.take i)++xH ⟨k,nn,nm,ky,f,t⟩ c:=by rw[jk hx];unfold o_;rw[List.flatMap_append];simp
    have zd:(Dm (o_ ⟨k,nn,nm,ky,f,t⟩ (g.nodes.take i))).length<=10^9:=by
     rw[B6];have h1:=FY ⟨k,nn,nm,ky,f,t⟩ (g.nodes.take i);rw[Xf]at h1;exact Yp h1 (Yp (Nat.min_le_right _ _) (Yp vF (by decide)))
    have uV:∀y',(hp++y')[0]?=some (.row [.sc (.int .i64 k),nn,nm,ky,f,t]):=λy'=>(db.app y').fh
    have jH:∀y' kz,(hp++y')[0]'kz= .row [.sc (.int .i64 k),nn,nm,ky,f,t]:=λy' kz=>(db.app y').get kz
    have an:∀y',(hp++[y'])[hp.length]?=some y':=λy=>by simp
    have jm:∀y' kz,(hp++[y'])[hp.length]'kz=y':=λy kz=>by simp
    have q1:=λops d rest fr h=>tZ (λv=>hB.np v) (ch cx M true) ops d rest fr h
    have nQ:=hB.cls;have P_:xH ⟨k,nn,nm,ky,f,t⟩ c=(if jS c.labels nm=true then(match ja c.props ky with|some v=> [(c.id,v)]|none=> [])else[]):=by
     unfold xH Dl;simp only;split<;>rename_i e<;>split at e<;>rename_i e2<;>simp_all
    cases ho:ja c.props ky with
    |
     none=>
     rw[ho]at aa P_;have hh2:xH ⟨k,nn,nm,ky,f,t⟩ c=[]:=by rw[P_];split<;>rfl
     rw[hh2,Yr]at gw;unfold dh iD eU at hr cz;unfold eU at aa;simp only[IK,Option.getD_none,mE,Xz]at aa;simp[cf,g2,g16,g17,g18,g5,hi,hq,cz,jH,jm,hf,aa];exact⟨db.app _,by rw[gw];exact hB.grow _,hn⟩
    |some v=>
     rw[ho]at aa P_;have zZ:=dB v;have ht1:=BV v;simp only[IK,Xm,Xy]at aa P_;cases hl:jS c.labels nm
     .rw[hl]at af P_;rw[cm (by simp)]at P_;rw[P_,Yr]at gw;generalize enc v=rv at aa zZ ht1;unfold dh iD eU at hr cz af;unfold eU at aa;simp[cf,g2,g16,g17,g18,g5,hi,hq,cz,jH,jm,hf,aa,af,zZ];exact⟨db.app _,by rw[gw];exact hB.grow _,hn⟩
     .rw[hl]at af P_;rw[cq rfl]at P_;rw[P_]at gw;obtain⟨j,ry,b1,b2,b3,b4⟩:=kj (t:=324) afS rfl (hp++[.row [c.id,.ls 1 (fj c.labels) false,.ls 6 (d_ c.props) false],.row (enc v)]) (.sc (.int .i64 c.id)::enc v) (Dm (o_ ⟨k,nn,nm,ky,f,t⟩ (g.nodes.take i))) y (hB.grow _) (by simp[zZ]) (Np _) (by decide) zd (by decide);have c0:=b3 0 _ (db.app _).fh λk n e=>(hn k n e).symm
      have sS:Dm (o_ ⟨k,nn,nm,ky,f,t⟩ (g.nodes.take i))++[.sc (.int .i64 c.id)::enc v]=Dm (o_ ⟨k,nn,nm,ky,f,t⟩ (g.nodes.take (i+1))):=by rw[gw];simp[Dm]
      have dZ:(Dm (o_ ⟨k,nn,nm,ky,f,t⟩ (g.nodes.take i))).length+1=(Dm (o_ ⟨k,nn,nm,ky,f,t⟩ (g.nodes.take (i+1)))).length:=by rw[<-sS];simp
      rw[sS]at b2;simp only[Zp,Zv,Zw,Zu,Xe,Xq,Xs]at b1 b4;have hB2:gz ry 6 (Dm (o_ ⟨k,nn,nm,ky,f,t⟩ (g.nodes.take (i+1)))) (.sl j 6 0 ((Dm (o_ ⟨k,nn,nm,ky,f,t⟩ (g.nodes.take i))).length+1) false):= .inr ⟨by rw[<-sS];simp,j,by rw[dZ],b2⟩;clear sS dZ b2 P_ gw;generalize enc v=rv,(Dm (o_ ⟨k,nn,nm,ky,f,t⟩ (g.nodes.take i))).length=m at *;unfold dh iD eU at hr cz af;unfold eU at aa;simp[cf,g2,g16,g17,g18,g5,hi,hq,cz,jH,jm,hf,aa,af,zZ,ht1,q1,b1];exact⟨c0,hB2,λq=>by subst q;cases b4⟩
   .simp[cf,g17,g18,g5];rw[Xx,hL]at hB;exact hB
  .rintro o kH h1 rfl ⟨rfl,cf,y,g5,hB⟩;rcases hB with⟨hL0,rfl⟩|⟨eF,H,rfl,hH⟩
   .have hL1:L=[]:=by simpa[Dm]using hL0
    subst hL1;simp[cf,g5];generalize o9:M (.loop _) _=YY;refine pU o9 (λi s _=>s.length=78/\gt s 10=()/\gt s 46=(0:Int)/\gt s 47=(0:Int)) (λo s _=>o= .exit 2/\s.length=78/\gt s 10=()) 0 (by simp) ⟨by simp[cf],by simp[cf]⟩ ?_ ?_
    .clear o9 YY cf g5;rintro i fr hp _ ⟨cf,g10,FZ,F3⟩;simp[cf,g10,FZ,F3]
    .clear cf g5;rintro o gO hp rfl ⟨rfl,cf,g10⟩;simp[cf,g10];exact⟨_,_,⟨rfl,rfl⟩,by rw[<-hU];exact .inl ⟨rfl,rfl⟩⟩
   .have vp:=B6 L;have hfa:=λ(i:Nat)r(hr:(Dm L)[i]?=some r)=>Nq (Dm L) i r (Np L) hr
    have J7:=aab L;have hLm:L.length<=2000:=Yp hLb vF;rw[vp]at g5;generalize(Dm L).flatten=F at hH hfa;simp[cf,g5];generalize o9:M (.loop _) _=YY;refine pU o9
     (λi s dn=>s.length=78/\gt s 5= .sl H 6 0 L.length false/\gt s 45= .sl H 6 0 L.length false/\gt s 46=L.length/\gt s 47=i/\At dn H (.row F)/\∃y P,gt s 10=y/\gz dn 2 (p2 P) y/\P++XB (L.drop i)=U/\∀k m,y= .sl k 2 0 m false->k≠H)
     (λo s dn=>o= .exit 2/\s.length=78/\∃y,gt s 10=y/\gz dn 2 (p2 U) y) L.length (by simp;omega)
     ⟨by simp[cf],by simp[g5],by simp[cf],by simp[cf],by simp[cf],hH,.sc (.slice none 0 0),[],by simp[cf],.inl ⟨rfl,rfl⟩,hU,λk m e=>by cases e⟩ ?_ ?_
    .clear o9 YY hU cf g5 hH;rintro i fr hp da ⟨cf,g5,Ka,FZ,F3,Ei,y,P,g10,hB,hP,hn⟩;rcases jr J7 da with⟨a,hi,hxa,ha,ha'⟩|rfl
     .obtain⟨pa1,pa2⟩:=hfa i _ ha;have xc:=cG (i:=i) (Yp da (Yp hLm (by decide)));have hma:=hvL a (Zi hxa);rw[jd hxa,XB]at hP;have zj:=dB a.2;have hta:=BV a.2;have aH:=Ei.fh;have lH:=Ei.lt;have aHq:∀kz,hp[H]'kz= .row F:=λkz=>Ei.get kz
      have wm:rC (.sl H 6 0 L.length false) (some (.sc (.int .i64 ((i:Int)+1)))) none none=some (if i+1=L.length then .ls 6 [] false else .sl H 6 ((i+1)*6) (L.length-(i+1)) false):=by
       have h1:jJ (.sc (.int .i64 ((i:Int)+1)))=some (i+1):=by
        simp;clear xc;omega
       unfold rC;simp only[u7,ig,h1];rw[cq ⟨hi,Xc _⟩];by_cases e:i+1=L.length
       .rw[cq e,cq e];simp
       .rw[cm e,cm e];simp
      by_cases tL:i+1=L.length
      .rw[cq tL]at wm;have Ke:L.drop (i+1)=[]:=by rw[tL,Yc]
       rw[Ke]at hP;simp[cf,g5,Ka,FZ,F3,hi,xc,aHq,lH,pa1,pa2,zj,wm];generalize o9:M (.loop _) _=YY;refine pU o9 (λj s dn=>s.length=78/\gt s 5= .sl H 6 0 L.length false/\gt s 45= .sl H 6 0 L.length false/\gt s 46=L.length/\gt s 47=i/\At dn H (.row F)/\gt s 10=y/\gt s 56=(0:Int)/\gt s 57=(0:Int)/\gz dn 2 (p2 P) y)
        (λo s dn=>o= .exit 4/\s.length=78/\gt s 5= .sl H 6 0 L.length false/\gt s 45= .sl H 6 0 L.length false/\gt s 46=L.length/\gt s 47=i/\At dn H (.row F)/\gt s 10=y/\gz dn 2 (p2 P) y) 0 (by simp)
        ⟨by simp[cf],by simp[g5],by simp[Ka],by simp[FZ],by simp[F3],Ei.app _,by simp[g10],by simp[cf],by simp[cf],hB.grow _⟩ ?_ ?_
       .clear o9 YY cf g5 Ka FZ F3 g10 Ei hB xc aH lH aHq;rintro j fr hp _ ⟨cf,g5,Ka,FZ,F3,Ei,g10,g56,g57,hB⟩;simp[cf,g5,Ka,FZ,F3,g10,g56,g57];exact⟨Ei,hB⟩
       .rintro o gO MX rfl ⟨rfl,cf,g5,Ka,FZ,F3,Ei,g10,hB⟩;simp[cf,g5,Ka,FZ,F3,g10,xc,hi];exact⟨Ei,P,hB,by rw[Ke];simpa using hP,hn⟩
      .rw[cm tL]at wm;have hend':i+1<L.length:=Nat.lt_of_le_of_ne hi tL;have afX:∀j kk,IJ i j kk->(i+1)*6+j*6=kk*6:=λj kk h=>by unfold IJ at h;rw[h,<-Xp]
       have aaa:∀j kk,IJ i j kk->kk<L.length->j<L.length-(i+1):=λj kk h1 h2=>by unfold IJ at h1;clear xc;omega
       have FW:∀j kk,IJ i j kk->IJ i (j+1) (kk+1):=λj kk h1=>by unfold IJ at h1|-;omega
       have hjE:∀j,IJ i j L.length->j=L.length-(i+1):=λj h1=>by unfold IJ at h1;clear xc;omega
       have tM:L.length-(i+1)<=2000:=Yp (Nat.sub_le _ _) hLm;have hn2c:((L.length-(i+1):Nat):Int)=(L.length-(i+1):Nat):=rfl;generalize(i+1)*6=o6 at wm afX;generalize L.length-(i+1)=n2 at wm aaa hjE tM;have hAH:hp.length≠H:=λe=>by rw[e]at lH;exact absurd lH (Nat.lt_irrefl _)
       have hnA:∀k m,y= .sl k 2 0 m false->k≠H/\k≠hp.length:=λk m e=>⟨hn k m e,by
        subst e;rcases hB with⟨_,e⟩|⟨_,id,e,cZ⟩
        .cases e
        .injection e with e
         subst e;exact Xk (Za.1 cZ).1⟩
       have dX:At (hp++[.row (AV.sc (.int .i64 a.1)::enc a.2)]) hp.length (.row (AV.sc (.int .i64 a.1)::enc a.2)):=by
        show(hp++[_])[hp.length]?=_;simp
       simp[cf,g5,Ka,FZ,F3,hi,xc,aHq,lH,pa1,pa2,zj,wm];generalize o9:M (.loop _) _=YY;generalize hp.length=A at hAH hnA dX o9;refine pU o9
        (λj s dn=>s.length=78/\gt s 5= .sl H 6 0 L.length false/\gt s 45= .sl H 6 0 L.length false/\gt s 46=L.length/\gt s 47=i/\At dn H (.row F)/\gt s 12= .pt A 0/\gt s 55= .sl H 6 o6 n2 false/\gt s 56=n2/\gt s 57=j/\At dn A (.row (AV.sc (.int .i64 a.1)::enc a.2))/\∃kk,IJ i j kk/\kk<=L.length/\∃y P,gt s 10=y/\gz dn 2 (p2 P) y/\P++((L.drop kk).flatMap (prO a)++XB (L.drop (i+1)))=U/\∀k m,y= .sl k 2 0 m false->k≠H/\k≠A)
        (λo s dn=>o= .exit 4/\s.length=78/\gt s 5= .sl H 6 0 L.length false/\gt s 45= .sl H 6 0 L.length false/\gt s 46=L.length/\gt s 47=i/\At dn H (.row F)/\∃y P,gt s 10=y/\gz dn 2 (p2 P) y/\P++XB (L.drop (i+1))=U/\∀k m,y= .sl k 2 0 m false->k≠H) n2 (by simp;clear xc;omega)
        ⟨by simp[cf],by simp[g5],by simp[Ka],by simp[FZ],by simp[F3],Ei.app _,by simp[cf],by simp[cf],by simp[cf],by simp[cf],dX,i+1,rfl,hi,y,P,by simp[g10],hB.grow _,hP,hnA⟩ ?_ ?_
       .clear o9 YY cf g5 Ka FZ F3 g10 Ei hB xc aH lH aHq dX hnA hP hn P y;rintro j fr hp jw ⟨cf,g5,Ka,FZ,F3,Ei,g12,g55,g56,g57,hzA,kk,hIJ,W9,y,P,g10,hB,hP,hn⟩;rcases jr J7 W9 with⟨c,mS,hxc,hc,kK⟩|afY
        .obtain⟨pb1,pb2⟩:=hfa kk _ hc;have hjN:=aaa j kk hIJ mS;have hf:=cG (i:=j) (Yp jw (Yp tM (by decide)));have Nn:=hvL c (Zi hxc);rw[jd hxc,List.flatMap_cons,Zp]at hP;have Le:=dB c.2;have htc:=BV c.2;have ho:=afX j kk hIJ;have aH:=Ei.fh;have lH:=Ei.lt;have aHq:∀kz,hp[H]'kz= .row F:=λkz=>Ei.get kz
         have lA:=hzA.lt;have aA':∀y',(hp++y')[A]?=some (.row (AV.sc (.int .i64 a.1)::enc a.2)):=λy'=>(hzA.app y').fh
         have aAq:∀y' kz,(hp++y')[A]'kz= .row (AV.sc (.int .i64 a.1)::enc a.2):=λy' kz=>(hzA.app y').get kz
         have an:∀y',(hp++[y'])[hp.length]?=some y':=λy=>by simp
         have jm:∀y' kz,(hp++[y'])[hp.length]'kz=y':=λy kz=>by simp
         have q1:=λops d rest fr h=>tZ (λv=>hB.np v) (ch cx M true) ops d rest fr h
         have nQ:=hB.cls;have ah:=λbb h=>ah a.2 c.2 bb h hma.1 Nn.1 hma.2 Nn.2
         have FX:prO a c=(if nU a.2 c.2=2 then[(a.1,c.1)]else[]):=rfl;generalize nU a.2 c.2=ev at ah FX;by_cases h2:ev=2
         .subst h2;rw[cq rfl]at FX;obtain⟨j',ry,b1,b2,b3,b4⟩:=mF (hB.grow [.row (AV.sc (.int .i64 c.1)::enc c.2)]) (by have:=congrArg List.length hP;rw[Zu]at this;exact Yp (Yp (Nat.le_add_right _ _) (Nat.le_of_eq this)) P6) a.1 c.1;have cH:=b3 H _ (Ei.app _).fh λk n e=>((hn k n e).1).symm
          have cA:=b3 A _ (hzA.app _).fh λk n e=>((hn k n e).2).symm
          simp only[Zp,Zv,Zw,Zu,Xe,Xq,Xs]at b1 b4;have Sr:hp.length<j':=by clear hf;omega
          have hP':(P++[(a.1,c.1)])++((L.drop (kk+1)).flatMap (prO a)++XB (L.drop (i+1)))=U:=by rw[<-hP,FX,Zp]
          clear FX hP;generalize enc a.2=ra,enc c.2=rc at *;simp[cf,g5,Ka,FZ,F3,g10,g12,g55,g56,g57,hjN,ho,hf,aHq,lH,pb1,pb2,Le,htc,zj,hta,aA',jm,ah,q1,b1];exact⟨cH,cA,kk+1,FW _ _ hIJ,mS,P++[(a.1,c.1)],b2,hP',λq=>by subst q;exact absurd (Nat.lt_trans lH Sr) (Nat.lt_irrefl _),λq=>by subst q;exact absurd (Nat.lt_trans lA Sr) (Nat.lt_irrefl _)⟩
         .rw[cm h2]at FX;rw[FX,Zw]at hP;clear FX;generalize enc a.2=ra,enc c.2=rc at *;simp[cf,g5,Ka,FZ,F3,g10,g12,g55,g56,g57,hjN,ho,hf,aHq,lH,pb1,pb2,Le,htc,zj,hta,aA',jm,ah,h2];exact⟨Ei.app _,hzA.app _,kk+1,FW _ _ hIJ,mS,P,hB.grow _,hP,hn⟩
        .rw[afY]at hIJ hP;have:=hjE j hIJ;subst this;rw[Yc]at hP;simp[cf,g5,Ka,FZ,F3,g10,g56,g57];exact⟨Ei,P,hB,hP,λk m e=>(hn k m e).1⟩
       .rintro o gO MX rfl ⟨rfl,cf,g5,Ka,FZ,F3,Ei,y,P,g10,hB,hP,hn⟩;simp[cf,g5,Ka,FZ,F3,g10,xc,hi];exact⟨Ei,P,hB,hP,hn⟩
     .simp[cf,FZ,F3,g10];rw[Yc,XB,Yr]at hP;rw[<-hP];exact hB
    .rintro o gO hp rfl ⟨rfl,cf,y,g10,hB⟩;have q1:=λops d rest fr h=>tZ (λv=>hB.np v) (ch cx M true) ops d rest fr h
     have nQ:=hB.cls;simp[cf,g10,q1];exact gq hB
 obtain⟨y,h',e,hB⟩:=main;exact gD (r:=y) (h':=h') (n:=N+2*D+9) ⟨f158.ntmps,(f158.body).getD .skip,[.tmp 4]⟩ (by kernel_rfl) (by kernel_rfl) rfl (by kernel_rfl) (by simp[f158]) (mP _ _) e (fJ (n:=7) (by omega) (ua _) (oM _) hB) b h
def ub(r:Rl)(g:Gr):List (Int × Int):=if r.kd=1 then mG r g.nodes else if r.kd=2\/r.kd=3 then kD (qW r) g.nodes else if r.kd=7 then kD (qY r g) g.nodes else oN (qX r g) g.cj
def Nr{r:Rl}(h:mW r=0):1<=r.kd/\r.kd<=7:=by
 unfold mW at h;split at h
 .cases h
 .rename_i e;unfold ZX at e;simp only[Yy,not_or,Zy]at e;omega
def B_{D:Nat}{r:Rl}{g:Gr}(hv:VG D g):(ub r g).length<=4000000:=by
 have h1:=xG r g.nodes;have h2:g.nodes.length*g.nodes.length<=2000*2000:=Nat.mul_le_mul hv.nl hv.nl;have h3:=r_ (qW r) g.nodes;have h4:=r_ (qY r g) g.nodes;have h5:=sd (qX r g) g.cj;have h6:=hv.nl;have h7:=hv.el;unfold ub;split
 .omega
 .split
  .omega
  .split<;>omega
def aac{g:Gr}(h:dQ g=0):∀e∈g.cj,(cM g.nodes e.src).isSome=true/\(cM g.nodes e.dst).isSome=true:=by
 unfold dQ at h;split at h
 .cases h
 .split at h
  .cases h
  .split at h
   .intro e he;obtain⟨i,hi,hx⟩:=List.getElem_of_mem he;have U1:g.cj[i]?=some e:=by rw[Zb hi,hx]
    have hz:=ki (lV g) g.cj.length 0 h i (by omega) (by omega);unfold lV at hz;rw[U1]at hz;simp only at hz;split at hz
    .cases hz
    .split at hz
     .cases hz
     .split at hz
      .cases hz
      .rename_i q;refine⟨?_,?_⟩
       .cases hs:(cM g.nodes e.src).isSome with
        |true=>rfl
        |false=>exact absurd (.inl hs) q
       .cases hs:(cM g.nodes e.dst).isSome with
        |true=>rfl
        |false=>exact absurd (.inr hs) q
   .rename_i q;exact absurd h q
def vK{α:Type}{p q:α->Bool}:∀{l:List α},(∀x∈l,p x=q x)->l.filter p=l.filter q
 | [],_=>rfl
 |
  x::l,h=>by
  rw[List.filter_cons,List.filter_cons,h x (by simp),vK λy hy=>h y (by simp[hy])]
def adE{r:Rl}{g:Gr}(h:dQ g=0):oN (BW r g) g.cj=oN (qX r g) g.cj:=by
 unfold oN;rw[vK λe he=>?_];obtain⟨h1,h2⟩:=aac h e he;unfold BW qX;rw[Nj _ h1,Nj _ h2]
def Qj{v:V}(h:jg v=true):v.l=[]:=by
 obtain⟨k,n,d,s,z,l⟩:=v;unfold jg jo at h;rw[oY]at h;simp only[Zh,Yy,Zy,V.k,List.isEmpty_iff]at h;obtain⟨⟨⟨_,h1⟩,_⟩,h2⟩:=h;show l=[];rcases h1 with(q|q)|q
 .subst q;simp at h2
 .subst q;simp at h2
 .exact q
def U2{D:Nat}{g:Gr}(h:dQ g=0):VG D g:=by
 have hg:=HT h;refine⟨hg.nl,hg.el,λn hn=>?_,λe he=>?_,λn hn c hc=>?_⟩
 .have:=gd (hg.np n hn);omega
 .have:=gd (hg.ep e he);omega
 .have:=(lv.1 (hg.np n hn)).2.2.2;have:=Yt.1 this c hc;exact Qj this
def afZ(N D:Nat)(b:Bool)(r:Rl)(g:Gr)(h:Hp)(hr:mW r=0)(hv:VG D g)(tm:VbG D g):
 ch cx (N+2*D+11) b 100 [.ag (dd r),.ag (cl g)] h=some (dt 2 (p2 (ub r g)),h):=by
 refine eR (n:=N+2*D+10) f100 [.tmp 4] (mP _ _) (by exact DV _ _) ?_ b h;obtain⟨k1,k7⟩:=Nr hr;have aa:=λbb h=>P8 N D bb r g h hv tm
 have af:=λbb h=>UW (N+2*D+5) D bb r g h hv
 have ah:=λbb h=>Lw (N+2*D+9) D bb r g h hv
 have ai:=λbb h=>UY (N+2*D+4) D bb r g h hv
 rw[show N+2*D+5+5=N+2*D+10 from rfl]at af;rw[show N+2*D+9+1=N+2*D+10 from rfl]at ah;rw[show N+2*D+4+6=N+2*D+10 from rfl]at ai;generalize N+2*D+10=M at aa af ah ai|-;unfold ub;have np:∀P:List (Int × Int),∀v,dt 2 (p2 P)≠ .pn v:=λP v=>by unfold dt;split<;>simp
 have dZ:∀P:List (Int × Int),cls (dt 2 (p2 P))=some [dt 2 (p2 P)]:=λP=>by unfold dt;split<;>rfl
 have q1:=λops d rest fr h=>tZ (np (mG r g.nodes)) (ch cx M true) ops d rest fr h
 have q2:=λops d rest fr h=>tZ (np (kD (qW r) g.nodes)) (ch cx M true) ops d rest fr h
 have q3:=λops d rest fr h=>tZ (np (kD (qY r g) g.nodes)) (ch cx M true) ops d rest fr h
 have q4:=λops d rest fr h=>tZ (np (oN (qX r g) g.cj)) (ch cx M true) ops d rest fr h
 have c1:=dZ (mG r g.nodes);have c2:=dZ (kD (qW r) g.nodes);have c3:=dZ (kD (qY r g) g.nodes);have c4:=dZ (oN (qX r g) g.cj);generalize Om:dt 2 (p2 (mG r g.nodes))=y1,hy2:dt 2 (p2 (kD (qW r) g.nodes))=y2,hy3:dt 2 (p2 (kD (qY r g) g.nodes))=y3,hy4:dt 2 (p2 (oN (qX r g) g.cj))=y4 at *;clear np dZ hr hv tm;obtain⟨k,nn,nm,ky,f,t⟩:=r;unfold dd cl dy dz at *;simp only at *;by_cases e1:k=1
 .subst e1;rw[cq rfl,Om];simp[f100,aa,q1]
 rw[cm e1];by_cases e2:k=2
 .subst e2;rw[cq (.inl rfl),hy2];simp[f100,af,q2]
 by_cases e3:k=3
 .subst e3;rw[cq (.inr rfl),hy2];simp[f100,af,q2]
 rw[cm (by omega)];by_cases e7:k=7
 .subst e7;rw[cq rfl,hy3];simp[f100,ah,q3]
 rw[cm e7,hy4];simp[f100,e1,e2,e3,e7,ai,q4]
def adF(N D:Nat)(b:Bool)(r:Rl)(g:Gr)(h:Hp)(hr:mW r=0)(hg:qw D g)(h0:dQ g=0)(tm:VbG D g):
 ch cx (N+2*D+10) b 107 [.ag (dd r),.ag (cl g)] h=some (dt 2 (p2 (ub r g)),h):=by
 refine eR (n:=N+2*D+9) f107 [.tmp 4] (mP _ _) (by exact DV _ _) ?_ b h;obtain⟨k1,k7⟩:=Nr hr;have hv:VG D g:=U2 h0;have aa:=λbb h=>Lx N D bb r g h hv tm
 have af:=λbb h=>PY (N+2*D+4) D bb r g h hv
 have ai:=λbb h=>PX (N+2*D+3) D bb r g h hv
 have aj:=λbb h=>yF BS (N+2*D+7) bb r h
 have ak:=λbb h=>uA (N+1) D bb g h hg
 rw[show N+2*D+4+5=N+2*D+9 from rfl]at af;rw[show N+2*D+3+6=N+2*D+9 from rfl]at ai;rw[show N+2*D+7+2=N+2*D+9 from rfl]at aj;rw[show N+1+2*D+8=N+2*D+9 by omega]at ak;rw[hr]at aj;rw[h0]at ak;rw[adE h0]at ai;generalize N+2*D+9=M at aa af ai aj ak|-;have hbn:kD (Ee r g) g.nodes=if r.kd=7 then kD (qY r g) g.nodes else kD (qW r) g.nodes:=by
  by_cases e:r.kd=7
  .rw[cq e];congr 1;funext n;unfold Ee;rw[cq e]
  .rw[cm e];congr 1;funext n;unfold Ee;rw[cm e]
 rw[hbn]at af;unfold ub;have np:∀P:List (Int × Int),∀v,dt 2 (p2 P)≠ .pn v:=λP v=>by unfold dt;split<;>simp
 have dZ:∀P:List (Int × Int),cls (dt 2 (p2 P))=some [dt 2 (p2 P)]:=λP=>by unfold dt;split<;>rfl
 have q1:=λops d rest fr h=>tZ (np (mG r g.nodes)) (ch cx M true) ops d rest fr h
 have q2:=λops d rest fr h=>tZ (np (kD (qW r) g.nodes)) (ch cx M true) ops d rest fr h
 have q3:=λops d rest fr h=>tZ (np (kD (qY r g) g.nodes)) (ch cx M true) ops d rest fr h
 have q4:=λops d rest fr h=>tZ (np (oN (qX r g) g.cj)) (ch cx M true) ops d rest fr h
 have c1:=dZ (mG r g.nodes);have c2:=dZ (kD (qW r) g.nodes);have c3:=dZ (kD (qY r g) g.nodes);have c4:=dZ (oN (qX r g) g.cj);have tq:∀(c:Prop)[Decidable c](A B:List (Int × Int)),dt 2 (p2 (if c then A else B))=if c then dt 2 (p2 A)else dt 2 (p2 B):=λc _ A B=>by split<;>rfl
 rw[tq]at af;generalize Om:dt 2 (p2 (mG r g.nodes))=y1,hy2:dt 2 (p2 (kD (qW r) g.nodes))=y2,hy3:dt 2 (p2 (kD (qY r g) g.nodes))=y3,hy4:dt 2 (p2 (oN (qX r g) g.cj))=y4 at *;clear np dZ hr hv tm tq hbn hg h0;obtain⟨k,nn,nm,ky,f,t⟩:=r;unfold dd cl dy dz at *;simp only at *;by_cases e1:k=1
 .subst e1;rw[cq rfl,Om];simp[f107,aa,aj,ak,q1]
 rw[cm e1];by_cases e2:k=2
 .subst e2;rw[cq (.inl rfl),hy2];rw[cm (by decide)]at af;simp[f107,af,aj,ak,q2]
 by_cases e3:k=3
 .subst e3;rw[cq (.inr rfl),hy2];rw[cm (by decide)]at af;simp[f107,af,aj,ak,q2]
 rw[cm (by omega)];by_cases e7:k=7
 .subst e7;rw[cq rfl,hy3];rw[cq rfl]at af;simp[f107,af,aj,ak,q3]
 rw[cm e7,hy4];by_cases e4:k=4
 .subst e4;simp[f107,ai,aj,ak,q4]
 by_cases e5:k=5
 .subst e5;simp[f107,ai,aj,ak,q4]
 have e6:k=6:=by omega
 subst e6;simp[f107,ai,aj,ak,q4]
def aad(N D:Nat)(b:Bool)(r:Rl)(g:Gr)(h:Hp)(hg:qw D g)(h0:¬dQ g=0):
 ch cx (N+2*D+10) b 107 [.ag (dd r),.ag (cl g)] h=some (.sc (.slice none 0 0),h):=by
 refine eR (n:=N+2*D+9) f107 [.tmp 4] (mP _ _) rfl ?_ b h;have aj:=λbb h=>yF BS (N+2*D+7) bb r h
 have ak:=λbb h=>uA (N+1) D bb g h hg
 rw[show N+2*D+7+2=N+2*D+9 from rfl]at aj;rw[show N+1+2*D+8=N+2*D+9 by omega]at ak;generalize N+2*D+9=M at aj ak|-;generalize dQ g=ge at ak h0;generalize mW r=re at aj;obtain⟨k,nn,nm,ky,f,t⟩:=r;unfold dd cl dy dz at *;simp only at *;by_cases e:re=0
 .subst e;simp[f107,aj,ak,h0]
 .simp[f107,aj,e]
end
end Go.Proofs.YtmfohnojaginjaaGreatDoor
