/- Part of the proof. -/
import Derived.Test.YtaibpnppeiigdaaGreatDoorP25
set_option linter.all false
set_option maxHeartbeats 32000000
set_option maxRecDepth 100000
namespace Go.Proofs.YtaibpnppeiigdaaGreatDoor
open Go Go.Ae Go.Proofs.Tryz
section
attribute [local simp] zi XM
def vI (n:Int):V:= .mk 2 (dM .i64 n) 0 ⟨#[]⟩ false []
def acn (n:Int):Dl (vI n):=by
 unfold vI;rw[Dl,NS];exact⟨by unfold i64;omega,yy n,by unfold i64;omega,by show 0<=_;omega,by simp,rfl,trivial⟩
def Cr {n:Int}(h:i64 n):enc (vI n)=[.sc (.int .i64 2),.sc (.int .i64 n),.sc (.int .i64 0),.sc (.string ⟨#[]⟩),.ls 5 [] false]:=by
 unfold vI;rw[dh h.1 h.2,enc];rfl
def agC (n:Nat)(b:Bool)(m:Int)(h:Hp)(hm:i64 m):cW cx (n+1) b 56 [m] h=some (.ag (enc (vI m)),h):=by
 rw[Cr hm];refine wAq f56 [.cell 2 5 true] rfl ?_ b h;simp[f56,da];exact gz ⟨_,rfl,rfl⟩
def aaC (n:Nat)(b:Bool)(m:Int)(h:Hp)(hm:i64 m):cW cx (n+1) b 45 [m] h=some (.ag (enc (vI m)),h):=by
 rw[Cr hm];refine wAq f45 [.cell 2 5 true] rfl ?_ b h;simp[f45,da];exact gz ⟨_,rfl,rfl⟩
def VH (N D:Nat)(b:Bool)(l m:List Rw)(z z':Bool)(h:Hp)(hl:oo D (oN l))(hm:oo D (oN m))(hC:oo D (dP (oN m)++jJ (dP (dP (oN l))))):cW cx (N+3*D+12) b 30 [.ls 1 (vx l) z,.ls 1 (vx m) z'] h=some (.ls 2 (dI (dP (dP (oN m)++jJ (dP (dP (oN l)))))) false,h):=by
 refine wH f30 [.tmp 4] rfl ?_ b h;have mi:kx 30=2:=by decide
 rw[mi];have aa:=λb h=>VB (N+1) D b l z h hl
 have ae:=λb h=>VB (N+1) D b m z' h hm
 have af:=λb h=>agz N D b (dP (oN m)) (dP (oN l)) h (qf hl) hC
 rw[show N+1+3*D+10=N+3*D+11 by omega]at aa ae;generalize N+3*D+11=M at aa ae af|-;clear hl hm hC;generalize dI (dP (dP (oN m)++jJ (dP (dP (oN l)))))=res at af|-;generalize dI (dP (oN m))=b2 at ae af;generalize dI (dP (oN l))=b1 at aa af;generalize vx l=r1 at aa|-;generalize vx m=r2 at ae|-;simp[f30,aa,ae,af];exact⟨_,_,⟨rfl,rfl⟩,_,rfl,rfl⟩
def S8 (N D:Nat)(b:Bool)(S:List (Rw × Int))(h:Hp)(hB:oo D S):cW cx (N+3*D+9) b 11 [.ls 2 (dI S) false,.ls 2 (dI S) false] h=some ((true:AV),h):=by
 refine fZ f11 [.tmp 4] rfl rfl ?_ b h;have Gj:∀p∈S,∀b h,cW cx (N+3*D+8) b 32 [.ls 5 (dN p.1.1) false,.ls 5 (dN p.1.1) false] h=some (.sc (.int .i64 0),h):=λp hp b h=>by
  have hq:=hB.row p hp;have:=zt N D p.1.1 p.1.1 b h (by have:=hq.len;omega) (by have:=hq.len;omega) hq.fB hq.fB;rw[this,show gL p.1.1 p.1.1=0 from o_.self trivial]
 have AF:=hB.len;generalize N+3*D+8=M at Gj|-;have hq:=dF S;have hg:=ue S;generalize dI S=cY at hq hg;simp[f11,hq];refine lS
  (λi s _=>i<=S.length/\s.length=57/\gt s 0= .ls 2 cY false/\gt s 1= .ls 2 cY false/\gt s 5=i)
  (λo s _=>o= .exit 0/\s.length=57) S.length (by simp;omega) (by exact ⟨by omega,rfl,rfl,rfl,rfl⟩) ?_ ?_
 .rintro i fr hp _ ⟨kY,cU,g0,g1,g5⟩;have mj:i<=1000000000000000:=by omega
  by_cases hi:i<S.length
  .obtain⟨p,hx⟩:=eA hi;have hr:cY[i]?=some (dR p):=by rw[hg,hx];rfl
   have du:=gA hr
   have fc:=Gj p (Zi hx);unfold dR at hr du;simp[cU,g0,g1,g5,hi,hq,du,fc,di mj];omega
  .have gG:i=S.length:=Yc kY (Yb hi);subst gG;simp[cU,g0,g5,hq]
 .rintro o fr hp hn ⟨rfl,cU⟩;simp[cU]
end
section
attribute [local simp] zi da XM
def tI (l:List Int):List LA:=l.map p8
def dU (l:List Int):(tI l).length=l.length:=by simp[tI]
def lf (l:List Int)(i:Nat):(tI l)[i]?=(l[i]?).map p8:=by simp[tI]
def ixI :List Int->Int->Nat->Int
 | [],_,_=> -1
 |y::l,x,i=>if x=y then i else ixI l x (i+1)
def MC (l:List Int)(x:Int)(i:Nat):Int:=ixI (l.drop i) x i
def VI (l:List Int)(x:Int)(i:Nat)(h:l.length<=i):MC l x i= -1:=by unfold MC;rw[Zt h];rfl
def QY {l:List Int}{x:Int}{i:Nat}{c:Int}(h:l[i]?=some c):MC l x i=if x=c then(i:Int)else MC l x (i+1):=by
 obtain⟨k,e⟩:=Za.1 h;unfold MC;rw[Zm k,e];rfl
def OH (n:Nat)(b:Bool)(l:List Int)(z:Bool)(x:Int)(h:Hp)(hl:l.length<=1000000000000000):cW cx (n+1) b 118 [.ls 1 (tI l) z,x] h=some (.sc (.int .i64 (ixI l x 0)),h):=by
 refine fZ f118 [.tmp 4] rfl rfl ?_ b h;have hq:=dU l;have hg:=lf l;generalize tI l=cY at hq hg;generalize hd:ixI l x 0=v;have LC:v=MC l x 0:=hd.symm;simp[f118,hq];refine lS
  (λi s _=>v=MC l x i/\s.length=19/\gt s 0= .ls 1 cY z/\gt s 1=x/\gt s 7=l.length/\gt s 8=i)
  (λo s _=>s.length=19/\((o= .exit 0/\v= -1)\/(o= .ret/\gt s 4=v))) l.length (by simp;omega) (by simp[LC]) ?_ ?_
 .rintro i fr h eG ⟨ho,cU,h0,h1,h7,h8⟩;have mj:i<=1000000000000000:=by omega
  by_cases hi:i<l.length
  .obtain⟨c,hx⟩:=eA hi;have hr:cY[i]?=some [.sc (.int .i64 c)]:=by rw[hg,hx];rfl
   have du:=gA hr
   rw[QY hx]at ho;by_cases hk:x=c
   .rw[dd hk]at ho;simp[cU,h0,h1,h7,h8,hi,hq,du,hk,ho]
   .rw[db hk]at ho;simp[cU,h0,h1,h7,h8,hi,hq,du,hk,di mj];exact ho
  .have zz:v= -1:=by rw[ho,VI l x i (by omega)]
   simp[cU,h7,h8,hi,zz]
 .rintro o fr h hn ⟨cU,⟨rfl,hz⟩|⟨rfl,h2⟩⟩
  .simp[cU,hz]
  .simp[h2]
def yO (l m:List Int)(i:Nat):Int:=gq (l.drop i) (m.drop i)
def EH {l m:List Int}{i:Nat}{x y:Int}(hx:l[i]?=some x)(hy:m[i]?=some y):yO l m i=if x<y then-1 else if y<x then 1 else yO l m (i+1):=by
 obtain⟨k,e⟩:=Za.1 hx;obtain⟨k',e'⟩:=Za.1 hy;unfold yO;rw[Zm k,e,Zm k',e'];rfl
def VJ {l m:List Int}{i:Nat}(h1:l.length<=i)(h2:i<m.length):yO l m i= -1:=by
 unfold yO;rw[Zt h1,Zm h2];rfl
def VK {l m:List Int}{i:Nat}(h1:i<l.length)(h2:m.length<=i):yO l m i=1:=by
 unfold yO;rw[Zt h2,Zm h1];rfl
def VL {l m:List Int}{i:Nat}(h1:l.length<=i)(h2:m.length<=i):yO l m i=0:=by
 unfold yO;rw[Zt h2,Zt h1];rfl
def QZ (n:Nat)(b:Bool)(l m:List Int)(z z':Bool)(h:Hp)(hl:l.length<=1000000000000000)(hm:m.length<=1000000000000000):cW cx (n+3) b 65 [.ls 1 (tI l) z,.ls 1 (tI m) z'] h=some (.sc (.int .i64 (gq l m)),h):=by
 refine fZ f65 [.tmp 4] rfl rfl ?_ b h;have fc:=λb x y h=>jn n b x y h
 have hq:=dU l;have hg:=lf l;have jA:=dU m;have qK:=lf m;generalize tI l=cY at hq hg;generalize tI m=rows' at jA qK;generalize n+2=M at fc|-;generalize hd:gq l m=v;have LC:v=yO l m 0:=hd.symm;simp[f65,hq];refine lS
  (λi s _=>i<=l.length/\i<=m.length/\v=yO l m i/\s.length=36/\gt s 0= .ls 1 cY z/\gt s 1= .ls 1 rows' z'/\gt s 9= .ls 1 cY z/\gt s 10=l.length/\gt s 11=i)
  (λo s _=>s.length=36/\((o= .exit 0/\gt s 0= .ls 1 cY z/\gt s 1= .ls 1 rows' z'/\l.length<=m.length/\v=if l.length<m.length then-1 else 0)\/(o= .ret/\gt s 4=v))) l.length (by simp;omega) (by simp[LC]) ?_ ?_
 .rintro i fr h eG ⟨gG,him,ho,cU,h0,h1,h9,lQ,tM⟩;have mj:i<=1000000000000000:=by omega
  by_cases hi:i<l.length
  .obtain⟨x,hx⟩:=eA hi;have hr:cY[i]?=some [.sc (.int .i64 x)]:=by rw[hg,hx];rfl
   have du:=gA hr
   by_cases hj:i<m.length
   .obtain⟨y,hy⟩:=eA hj;have hs:rows'[i]?=some [.sc (.int .i64 y)]:=by rw[qK,hy];rfl
    have kC:=gA hs
    rw[EH hx hy]at ho;have vT:¬m.length<=i:=by omega
    have hc:=λb h=>fc b x y h
    by_cases h1x:x<y
    .rw[dd h1x]at ho;have e:ej x y= -1:=by unfold ej;(repeat' split)<;>omega
     rw[e]at hc;simp[cU,h0,h1,h9,lQ,tM,hi,hj,vT,hq,jA,du,kC,hc,ho]
    .rw[db h1x]at ho;by_cases h2x:y<x
     .rw[dd h2x]at ho;have e:ej x y=1:=by unfold ej;(repeat' split)<;>omega
      rw[e]at hc;simp[cU,h0,h1,h9,lQ,tM,hi,hj,vT,hq,jA,du,kC,hc,ho]
     .rw[db h2x]at ho;have e:ej x y=0:=by unfold ej;(repeat' split)<;>omega
      rw[e]at hc;simp[cU,h0,h1,h9,lQ,tM,hi,hj,vT,hq,jA,du,kC,hc,di mj];exact⟨by omega,by omega,ho⟩
   .have zz:v=1:=by rw[ho,VK hi (by omega)]
    have vT:m.length<=i:=by omega
    simp[cU,h0,h1,h9,lQ,tM,hi,vT,hq,jA,du,zz]
  .have hE:i=l.length:=Yc gG (Yb hi);have zz:v=if l.length<m.length then-1 else 0:=by
    rw[ho];by_cases e:l.length<m.length
    .rw[dd e,VJ (by omega) (by omega)]
    .rw[db e,VL (by omega) (by omega)]
   simp[cU,h0,h1,lQ,tM,hi];exact⟨by omega,zz⟩
 .rintro o fr h hn ⟨cU,⟨rfl,h0,h1,PE,hz⟩|⟨rfl,h2⟩⟩
  .by_cases e:l.length<m.length
   .rw[dd e]at hz;simp[cU,h0,h1,hq,jA,e,hz]
   .rw[db e]at hz;simp[cU,h0,h1,hq,jA,e,hz]
  .simp[h2]
def agD (n:Nat)(b:Bool)(l m:List Int)(z z':Bool)(h:Hp)(hl:l.length<=1000000000000000)(hm:m.length<=1000000000000000):cW cx (n+1) b 159 [.ls 1 (tI l) z,.ls 1 (tI m) z'] h=some (.sc (.int .i64 (gq l m)),h):=by
 refine fZ f159 [.tmp 4] rfl rfl ?_ b h;have hq:=dU l;have hg:=lf l;have jA:=dU m;have qK:=lf m;generalize tI l=cY at hq hg;generalize tI m=rows' at jA qK;generalize hd:gq l m=v;have LC:v=yO l m 0:=hd.symm;simp[f159];refine lS
  (λi s _=>i<=l.length/\i<=m.length/\v=yO l m i/\s.length=46/\gt s 0= .ls 1 cY z/\gt s 1= .ls 1 rows' z'/\gt s 5=i)
  (λo s _=>s.length=46/\((o= .exit 0/\gt s 0= .ls 1 cY z/\gt s 1= .ls 1 rows' z'/\v=if l.length<m.length then-1 else if m.length<l.length then 1 else 0)\/(o= .ret/\gt s 4=v))) l.length (by simp;omega) (by simp[LC]) ?_ ?_
 .rintro i fr h eG ⟨gG,him,ho,cU,h0,h1,h5⟩;have mj:i<=1000000000000000:=by omega
  by_cases hi:i<l.length
  .obtain⟨x,hx⟩:=eA hi;have hr:cY[i]?=some [.sc (.int .i64 x)]:=by rw[hg,hx];rfl
   have du:=gA hr
   by_cases hj:i<m.length
   .obtain⟨y,hy⟩:=eA hj;have hs:rows'[i]?=some [.sc (.int .i64 y)]:=by rw[qK,hy];rfl
    have kC:=gA hs
    rw[EH hx hy]at ho;by_cases h1x:x<y
    .rw[dd h1x]at ho;simp[cU,h0,h1,h5,hi,hj,hq,jA,du,kC,h1x,ho]
    .rw[db h1x]at ho;by_cases h2x:y<x
     .rw[dd h2x]at ho;simp[cU,h0,h1,h5,hi,hj,hq,jA,du,kC,h1x,h2x,ho]
     .rw[db h2x]at ho;simp[cU,h0,h1,h5,hi,hj,hq,jA,du,kC,h1x,h2x,di mj];exact⟨by omega,by omega,ho⟩
   .have zz:v=1:=by rw[ho,VK hi (by omega)]
    have e1:¬l.length<m.length:=by omega
    have e2:m.length<l.length:=by omega
    simp[cU,h0,h1,h5,hi,hj,hq,jA,zz,e1,e2]
  .have hE:i=l.length:=Yc gG (Yb hi);have zz:v=if l.length<m.length then-1 else if m.length<l.length then 1 else 0:=by
    rw[ho];by_cases e:l.length<m.length
    .rw[dd e,VJ (by omega) (by omega)]
    .rw[db e,db (by omega),VL (by omega) (by omega)]
   simp[cU,h0,h1,h5,hi,hq];exact zz
 .rintro o fr h hn ⟨cU,⟨rfl,h0,h1,hz⟩|⟨rfl,h2⟩⟩
  .by_cases e:l.length<m.length
   .rw[dd e]at hz;simp[cU,h0,h1,hq,jA,e,hz]
   .rw[db e]at hz;by_cases e2:m.length<l.length
    .rw[dd e2]at hz;simp[cU,h0,h1,hq,jA,e,e2,hz]
    .rw[db e2]at hz;simp[cU,h0,h1,hq,jA,e,e2,hz]
  .simp[h2]
def eqD (l m:List Int)(i:Nat):Bool:=decide (l.drop i=m.drop i)
def VM {l m:List Int}{i:Nat}{x y:Int}(hx:l[i]?=some x)(hy:m[i]?=some y):eqD l m i=if x=y then eqD l m (i+1)else false:=by
 obtain⟨k,e⟩:=Za.1 hx;obtain⟨k',e'⟩:=Za.1 hy;unfold eqD;rw[Zm k,e,Zm k',e'];by_cases h:x=y<;>simp[h]
def aaD (n:Nat)(b:Bool)(l m:List Int)(z z':Bool)(h:Hp)(hl:l.length<=1000000000000000):cW cx (n+1) b 68 [.ls 1 (tI l) z,.ls 1 (tI m) z'] h=some (.sc (.bool (decide (l=m))),h):=by
 refine fZ f68 [.tmp 4] rfl rfl ?_ b h;have hq:=dU l;have hg:=lf l;have jA:=dU m;have qK:=lf m;generalize tI l=cY at hq hg;generalize tI m=rows' at jA qK;by_cases PE:l.length=m.length
 .generalize hd:decide (l=m)=v;have LC:v=eqD l m 0:=hd.symm;simp[f68,hq,jA,PE];refine lS
   (λi s _=>i<=m.length/\v=eqD l m i/\s.length=26/\gt s 0= .ls 1 cY z/\gt s 1= .ls 1 rows' z'/\gt s 12=m.length/\gt s 13=i)
   (λo s _=>s.length=26/\((o= .exit 0/\v=true)\/(o= .ret/\gt s 4=v))) m.length (by simp;omega) (by simp[LC]) ?_ ?_
  .rintro i fr h eG ⟨gG,ho,cU,h0,h1,vH,yg⟩;have mj:i<=1000000000000000:=by omega
   by_cases hi:i<m.length
   .obtain⟨x,hx⟩:∃c,l[i]?=some c:=⟨_,Zb (by omega)⟩;obtain⟨y,hy⟩:=eA hi;have hr:cY[i]?=some [.sc (.int .i64 x)]:=by rw[hg,hx];rfl
    have du:=gA hr
    have hs:rows'[i]?=some [.sc (.int .i64 y)]:=by rw[qK,hy];rfl
    have kC:=gA hs
    have ad3:i<l.length:=by omega
    rw[VM hx hy]at ho;by_cases hk:x=y
    .rw[dd hk]at ho;simp[cU,h0,h1,vH,yg,hi,hq,jA,PE,du,kC,hk,di mj];exact⟨by omega,ho⟩
    .rw[db hk]at ho;simp[cU,h0,h1,vH,yg,hi,hq,jA,PE,du,kC,hk,ho]
   .have zz:v=true:=by
     rw[ho];unfold eqD;rw[Zt (by omega),Zt (by omega)];simp
    simp[cU,vH,yg,hi,zz]
  .rintro o fr h hn ⟨cU,⟨rfl,hz⟩|⟨rfl,h2⟩⟩
   .simp[cU,hz]
   .simp[h2]
 .have eW:¬l=m:=λe=>PE (by rw[e])
  have hz:¬((l.length:Nat):Int)=(m.length:Nat):=by omega
  have hzd:decide (((l.length:Nat):Int)=(m.length:Nat))=false:=decide_eq_false hz;simp[f68,hq,jA,eW,hz]
end
section
attribute [local simp] zi XM
def w1 (x:Int)(s:List Int × Bool)(y:Int):List Int × Bool:=if x<y/\(s.2||decide (y=x))=false then(s.1++[x]++[y],true)else(s.1++[y],s.2||decide (y=x))
def nW (l:List Int)(x:Int)(i:Nat):List Int × Bool:=(l.take i).foldl (w1 x) ([],false)
def uw (l:List Int)(x:Int):List Int:=bif (nW l x l.length).2 then(nW l x l.length).1 else(nW l x l.length).1++[x]
def Cs {l:List Int}{x:Int}{i:Nat}{y:Int}(h:l[i]?=some y):nW l x (i+1)=w1 x (nW l x i) y:=by
 unfold nW;rw[Yx,h,List.foldl_append];rfl
def yP (l:List Int)(x:Int)(i:Nat):(nW l x i).1.length<=2*i:=by
 induction i with
 |zero=>simp[nW]
 |
  succ i ih=>
  by_cases hi:i<l.length
  .rw[Cs (y:=l[i]) (Zb hi)];unfold w1;split<;>simp<;>omega
  .have:nW l x (i+1)=nW l x i:=by
    unfold nW;rw[Ys (by omega),Ys (by omega)]
   rw[this];omega
def pJ (l:List Int):(∀r∈tI l,r.length=1)/\(tI l).flatten.all eT=true:=
 ⟨λr hr=>by obtain⟨c,_,rfl⟩:=Yi.1 hr;rfl,jE λr hr=>by obtain⟨c,_,rfl⟩:=Yi.1 hr;rfl⟩
def Js (a x:AV):da [a] 0 [x]=[x]:=rfl
structure aco (l:List Int)(x:Int)(z:Bool)(i:Nat)(s:St):Prop where
 le:i<=l.length
 len:s.1.length=48
 g0:gt s.1 0= .ls 1 (tI l) z
 g1:gt s.1 1=x
 g6:gt s.1 6= .sc (.bool (nW l x i).2)
 g7:gt s.1 7=i
 Es:∃y,gt s.1 5=y/\kP s.2 1 (tI (nW l x i).1) y
def xF {hp:Hp}{o:List Int}{y:AV}(hy:kP hp 1 (tI o) y)(v:Int)(hl:o.length<=3000000):∃id h2,eE cx (hp++[.row [v]]) 27 y (.sl hp.length 1 0 1 false)=some (.sl id 1 0 (o.length+1) false,h2)/\kP h2 1 (tI (o++[v])) (.sl id 1 0 (o.length+1) false):=by
 obtain⟨id,h3,b1,b2,b3,b4⟩:=gm (t:=27) AQ rfl hp [v] (tI o) y hy rfl (λr hr=>(pJ _).1 r hr) (by omega) (by rw[dU];omega) (by omega);rw[dU]at b1;exact⟨id,h3,b1,.inr ⟨by simp[tI],id,by simp[tI],by rw[b2];simp[tI,p8]⟩⟩
def ad4 (n:Nat)(b:Bool)(l:List Int)(x:Int)(z:Bool)(h:Hp)(hl:l.length<=1000000):cW cx (n+1) b 96 [.ls 1 (tI l) z,x] h=some (.ls 1 (tI (uw l x)) false,h):=by
 refine wH f96 [.tmp 4] rfl ?_ b h;have mi:kx 96=1:=by decide
 rw[mi];simp[f96];refine eC (C:=cx) (G:=λr=>∃r0 h',eQ _ (eR _ _ (dL _ r) _)=some (r0,h')/\∃r',Ae.dq h' 8 r0=some r'/\wI 1 r'= .ls 1 (tI (uw l x)) false)
  (λi s=>aco l x z i s) (λo s=>o= .exit 0/\aco l x z l.length s) l.length (by simp;omega) ⟨by omega,rfl,rfl,rfl,rfl,rfl,_,rfl,.inl ⟨rfl,rfl⟩⟩ ?_ ?_
 .rintro i fr hp _ ⟨kY,cU,g0,g1,g6,g7,y,g5,hy⟩;simp only at cU g0 g1 g6 g7 g5 hy;have hq:=dU l;have hg:=lf l;generalize yb:tI l=cY at g0 hq hg;have mj:i<=1000000000000000:=by omega
  by_cases hi:i<l.length
  .obtain⟨c,hx⟩:=eA hi;have hr:cY[i]?=some [.sc (.int .i64 c)]:=by rw[hg,hx];rfl
   have du:=gA hr
   have dD:=Cs (x:=x) hx;have EE:=yP l x i;generalize nW l x i=F at g6 hy dD EE;obtain⟨o,d⟩:=F;simp only at g6 hy EE;have q5:=oG (λv=>hy.np v)
   obtain⟨i1,h1,b1,c1⟩:=xF hy c (by omega);obtain⟨i2,h2,b2,c2⟩:=xF hy x (by omega);obtain⟨i3,h3,b3,c3⟩:=xF c2 c (by simp;omega);rw[Zu,Xf]at b3 c3;by_cases h1c:c=x
   .have e:w1 x (o,d) c=(o++[c],true):=by
     unfold w1;rw[db (by omega)];simp[h1c]
    rw[e]at dD;have hnx:¬x<c:=by omega
    simp[cU,g0,g1,g7,g5,q5,hi,hq,du,Js,h1c];subst h1c;simp[cU,g7,hi,b1,di mj];refine⟨by omega,by simp[cU],by simp[g0,yb],by simp[g1],by rw[dD];simp[cU],by simp[cU],.sl i1 1 0 (o.length+1) false,by simp[cU],by rw[dD];exact c1⟩
   .cases d
    .by_cases h2c:x<c
     .have e:w1 x (o,false) c=(o++[x]++[c],true):=by
       unfold w1;rw[dd ⟨h2c,by simp[h1c]⟩]
      rw[e]at dD;simp[cU,g0,g1,g6,g7,g5,q5,hi,hq,du,Js,h1c,h2c,b2,b3,di mj];refine⟨by omega,by simp[cU],by simp[g0,yb],by simp[g1],by rw[dD];simp[cU],by simp[cU],.sl i3 1 0 (o.length+1+1) false,by simp[cU],by rw[dD];exact c3⟩
     .have e:w1 x (o,false) c=(o++[c],false):=by
       unfold w1;rw[db (λq=>h2c q.1)];simp[h1c]
      rw[e]at dD;simp[cU,g0,g1,g7,g5,q5,hi,hq,du,Js,h1c,h2c,b1,di mj];refine⟨by omega,by simp[cU],by simp[g0,yb],by simp[g1],by rw[dD];simp[g6],by simp[cU],.sl i1 1 0 (o.length+1) false,by simp[cU],by rw[dD];exact c1⟩
    .have e:w1 x (o,true) c=(o++[c],true):=by
      unfold w1;rw[db (λq=>by simp at q)];simp
     rw[e]at dD;by_cases h2c:x<c
     .simp[cU,g0,g1,g6,g7,g5,q5,hi,hq,du,Js,h1c,h2c,b1,di mj];refine⟨by omega,by simp[cU],by simp[g0,yb],by simp[g1],by rw[dD];simp[g6],by simp[cU],.sl i1 1 0 (o.length+1) false,by simp[cU],by rw[dD];exact c1⟩
     .simp[cU,g0,g1,g7,g5,q5,hi,hq,du,Js,h1c,h2c,b1,di mj];refine⟨by omega,by simp[cU],by simp[g0,yb],by simp[g1],by rw[dD];simp[g6],by simp[cU],.sl i1 1 0 (o.length+1) false,by simp[cU],by rw[dD];exact c1⟩
  .have gG:i=l.length:=Yc kY (Yb hi);subst gG;simp[cU,g0,g7,hq];exact⟨kY,by simp[cU],by simp[g0,yb],by simp[g1],by simp[g6],by simp[g7],y,by simp[g5],hy⟩
 .rintro o fr hp hn ⟨rfl,kY,cU,g0,g1,g6,g7,y,g5,hy⟩;simp only at cU g0 g1 g6 g7 g5 hy;have EE:=yP l x l.length;unfold uw;generalize nW l x l.length=F at g6 hy EE|-;obtain⟨o,d⟩:=F;simp only at g6 hy EE|-;have q5:=oG (λv=>hy.np v)
  obtain⟨i2,h2,b2,c2⟩:=xF hy x (by omega);cases d
  .have dJ:=pJ (o++[x]);have lH:=ij (n:=7) (by omega) dJ.1 dJ.2 c2;simp[cU,g1,g6,g5,q5,Js,b2];exact gz ⟨_,lH,mf _ _⟩
  .have dJ:=pJ o;have lH:=ij (n:=7) (by omega) dJ.1 dJ.2 hy;simp[cU,g6,g5,q5];exact gz ⟨_,lH,mf _ _⟩
structure Am where
 k:Int
 vs:List Int
 nm:ByteArray
 ts:List ByteArray
 v:V
def encA (a:Am):LA:= .sc (.int .i64 a.k):: .ls 1 (tI a.vs) false:: .sc (.string a.nm)::iK a.ts false::enc a.v
def gB (a:Am):(encA a).length=9:=by
 unfold encA;rw[Yw,Yw,Yw,Yw,i7]
def sM (a:Am):(encA a).all eT=true:=by
 unfold encA;rw[Zn,Zn,Zn,Zn,En];rfl
def kp (a:Am):[AV.ag (encA a)].all d_=true:=by
 rw[Zn,gT,sM];rfl
def MD (n:Nat)(b:Bool)(x:Int)(h:Hp):cW cx (n+1) b 96 [(),x] h=some (.ls 1 (tI [x]) false,h):=by
 refine wH f96 [.tmp 4] rfl ?_ b h;have mi:kx 96=1:=by decide
 rw[mi];simp[f96];refine LM
  (λi s _=>i=0/\s.length=48/\gt s 0=()/\gt s 1=x/\gt s 5=()/\gt s 6=false/\gt s 7=(0:Int))
  (λo s _=>o= .exit 0/\s.length=48/\gt s 1=x/\gt s 5=()/\gt s 6=false) 0 (by simp) (by exact ⟨rfl,rfl,rfl,rfl,rfl,rfl,rfl⟩) ?_ ?_
 .rintro j fr lW _ ⟨rfl,cU,g0,g1,g5,g6,g7⟩;simp[cU,g0,g1,g5,g6,g7]
 .rintro o fr hp hn ⟨rfl,cU,g1,g5,g6⟩;obtain⟨i2,h2,b2,c2⟩:=xF (hp:=hp) (o:=[]) (y:= .sc (.slice none 0 0)) (.inl ⟨rfl,rfl⟩) x (by simp);have dJ:=pJ ([]++[x]);have lH:=ij (n:=7) (by omega) dJ.1 dJ.2 c2;simp only[Xa,Xb,Zw]at b2 lH;simp[cU,g1,g5,g6,Js,b2];exact gz ⟨_,lH,by rw[show wI 1 (gF 1 (tI [x]))=uT 1 (gF 1 (tI [x]))from rfl];exact mf _ _⟩
def nX (vs:List Int)(i:Nat):List Int:=(vs.take i).foldl uw []
def eu (vs:List Int):List Int:=nX vs vs.length
def Ct {vs:List Int}{i:Nat}{x:Int}(h:vs[i]?=some x):nX vs (i+1)=uw (nX vs i) x:=by
 unfold nX;rw[Yx,h,List.foldl_append];rfl
def Q0 (l:List Int)(x:Int):(uw l x).length<=2*l.length+1:=by
 have:=yP l x l.length;unfold uw;cases (nW l x l.length).2<;>simp<;>omega
def EI (vs:List Int):∀i,(nX vs i).length+1<=2^i
 |0=>by simp[nX]
 |
  i+1=>by
  have ih:=EI vs i;have e:2^(i+1)=2*2^i:=by rw[Nat.pow_succ];omega
  by_cases hi:i<vs.length
  .rw[Ct (x:=vs[i]) (Zb hi)];have:=Q0 (nX vs i) vs[i];omega
  .have:nX vs (i+1)=nX vs i:=by
    unfold nX;rw[Ys (by omega),Ys (by omega)]
   rw[this];omega
def Jt (n:Nat)(b:Bool)(a:Am)(h:Hp)(hl:a.vs.length<=16):cW cx (n+2) b 46 [.ag (encA a)] h=some (.ls 1 (tI (eu a.vs)) false,h):=by
 refine wH f46 [.tmp 2] (kp a) ?_ b h;have mi:kx 46=1:=by decide
 rw[mi];have ak:=λx b h=>MD n b x h
 have aa:=λl x b h (hl:l.length<=1000000)=>ad4 n b l x false h hl
 generalize n+1=M at ak aa|-;have hq:=dU a.vs;have hg:=lf a.vs;have eM:=gB a;unfold encA at eM|-;generalize yb:tI a.vs=cY at hq hg eM|-;generalize enc a.v=ev at eM|-;simp only[Yw]at eM;have eM:ev.length=5:=by omega
 simp[f46,eM];refine LM
  (λi s iR=>i<=a.vs.length/\s.length=20/\gt s 1= .pt 0 0/\gt s 4=i/\iR=[.row (.sc (.int .i64 a.k):: .ls 1 cY false:: .sc (.string a.nm)::iK a.ts false::ev)]/\((i=0/\gt s 3=())\/(0<i/\gt s 3= .ls 1 (tI (nX a.vs i)) false)))
  (λo s _=>o= .exit 0/\s.length=20/\((a.vs.length=0/\gt s 3=())\/(0<a.vs.length/\gt s 3= .ls 1 (tI (nX a.vs a.vs.length)) false))) a.vs.length (by simp;omega) (by exact ⟨by omega,rfl,rfl,rfl,rfl,.inl ⟨rfl,rfl⟩⟩) ?_ ?_
 .rintro i fr hp _ ⟨kY,cU,g1,g4,hh,g3⟩;subst hh;have mj:i<=1000000000000000:=by omega
  by_cases hi:i<a.vs.length
  .obtain⟨x,hx⟩:=eA hi;have hr:cY[i]?=some [.sc (.int .i64 x)]:=by rw[hg,hx];rfl
   have du:=gA hr
   have dD:=Ct hx;rcases g3 with⟨hz,g3⟩|⟨hz,g3⟩
   .subst hz;have e0:nX a.vs 0=[]:=rfl;have e1:nX a.vs 1=[x]:=by rw[dD,e0];rfl
    have ak:=ak x;simp[cU,g1,g4,g3,hi,hq,du,ak,eM];have:0<a.vs.length:=hi;refine⟨by omega,dh (by omega) (by omega),by rw[e1]⟩
   .have hv:=EI a.vs i;have h2:2^i<=2^16:=Nat.pow_le_pow_right (by omega) (by omega);have aa:=λb h=>aa (nX a.vs i) x b h (by omega)
    rw[<-dD]at aa;generalize nX a.vs i=F at g3 aa;simp[cU,g1,g4,g3,hi,hq,du,aa,eM,di mj];omega
  .have gG:i=a.vs.length:=Yc kY (Yb hi);subst gG;simp[cU,g1,g4,hq,eM];rcases g3 with⟨hz,g3⟩|⟨hz,g3⟩
   .exact .inl ⟨Zl hz,by simp[g3]⟩
   .exact .inr ⟨hz,by simp[g3]⟩
 .rintro o fr hp hn ⟨rfl,cU,g3⟩;rcases g3 with⟨hz,g3⟩|⟨hz,g3⟩
  .have e:eu a.vs=[]:=by unfold eu;rw[hz];rfl
   rw[e];simp[cU,g3];exact gz ⟨_,rfl,rfl⟩
  .simp[cU,g3];exact gz ⟨_,rfl,rfl⟩
end
def rH :nB ej where
 zero:=λ_ _=>jh
 neg:=λa b=>by unfold ej;(repeat' split)<;>omega
 tr:=λa b c h1 h2=>by unfold ej at *;(repeat' split at h1)<;>(repeat' split at h2)<;>(repeat' split)<;>omega
def Gl (x:Int):∀(l o:List Int),l.foldl (w1 x) (o,true)=(o++l,true)
 | [],o=>by simp
 |
  y::l,o=>by
  have e:w1 x (o,true) y=(o++[y],true):=by unfold w1;rw[db (λq=>by simp at q)];simp
  rw[Yl,e,Gl x l (o++[y])];simp
def VN (x:Int):∀(l o:List Int),(bif (l.foldl (w1 x) (o,false)).2 then(l.foldl (w1 x) (o,false)).1 else(l.foldl (w1 x) (o,false)).1++[x])=o++qG ej x l
 | [],o=>by simp[qG]
 |
  y::l,o=>by
  rw[Yl,qG];by_cases h1:y<x
  .have e:w1 x (o,false) y=(o++[y],false):=by
    have:¬x<y:=by omega
    have h2:¬y=x:=by omega
    unfold w1;rw[db (λq=>this q.1)];simp[h2]
   have c:ej y x<0:=by unfold ej;(repeat' split)<;>omega
   rw[e,VN x l (o++[y]),dd c];simp
  .by_cases h2:y=x
   .have e:w1 x (o,false) y=(o++[y],true):=by
     have:¬x<y:=by omega
     unfold w1;rw[db (λq=>this q.1)];simp[h2]
    have c:¬ej y x<0:=by unfold ej;(repeat' split)<;>omega
    rw[e,Gl,db c,dd (jh.2 h2)];simp
   .have e:w1 x (o,false) y=(o++[x]++[y],true):=by
     have:x<y:=by omega
     unfold w1;rw[dd ⟨this,by simp[h2]⟩]
    have c:¬ej y x<0:=by unfold ej;(repeat' split)<;>omega
    rw[e,Gl,db c,db (λq=>h2 (jh.1 q))];simp
def Ju (l:List Int)(x:Int):uw l x=qG ej x l:=by
 unfold uw nW;rw[Yz];have:=VN x l [];rw[Zw]at this;exact this
def Jv :∀(vs l:List Int),Up ej l->Up ej (vs.foldl uw l)
 | [],_,h=>h
 |
  x::vs,l,h=>by
  rw[Yl,Ju];exact Jv vs _ (FQ rH x l h)
def EJ :∀(vs l:List Int) (z:Int),z∈vs.foldl uw l↔z∈vs\/z∈l
 | [],l,z=>by simp
 |
  x::vs,l,z=>by
  rw[Yl,EJ vs,Ju,xn rH,Xm];constructor
  .rintro(h|h|h)<;>simp[h]
  .rintro((h|h)|h)<;>simp[h]
def nY (vs:List Int):eu vs=gd ej vs:=by
 unfold eu nX;rw[Yz];exact xo rH (Jv vs [] List.Pairwise.nil) λz=>by rw[EJ];simp
section
attribute [local simp] zi XM
def iN (L:List (List Int)):List LA:=L.map λt=> [AV.ls 1 (tI t) false]
def fy (L:List (List Int)):(iN L).length=L.length:=by simp[iN]
def AR (L:List (List Int))(i:Nat):(iN L)[i]?=(L[i]?).map λt=> [AV.ls 1 (tI t) false]:=by simp[iN]
def oO (L:List (List Int)):(∀r∈iN L,r.length=1)/\(iN L).flatten.all eT=true:=
 ⟨λr hr=>by obtain⟨c,_,rfl⟩:=Yi.1 hr;rfl,jE λr hr=>by obtain⟨c,_,rfl⟩:=Yi.1 hr;rfl⟩
def ME {hp:Hp}{o:List (List Int)}{y:AV}(hy:kP hp 1 (iN o) y)(v:List Int)(hl:o.length<=3000000):∃id h2,eE cx (hp++[.row [.ls 1 (tI v) false]]) 55 y (.sl hp.length 1 0 1 false)=some (.sl id 1 0 (o.length+1) false,h2)/\kP h2 1 (iN (o++[v])) (.sl id 1 0 (o.length+1) false):=by
 obtain⟨id,h3,b1,b2,b3,b4⟩:=gm (t:=55) xj rfl hp [.ls 1 (tI v) false] (iN o) y hy rfl (λr hr=>(oO _).1 r hr) (by omega) (by rw[fy];omega) (by omega);rw[fy]at b1;exact⟨id,h3,b1,.inr ⟨by simp[iN],id,by simp[iN],by rw[b2];simp[iN]⟩⟩
def agE {A B:List (List Int)}{i k:Nat}{x:List Int}(hx:A[i]?=some x)(hk:B.length<=k):vL gq (A.drop i) (B.drop k)=x::vL gq (A.drop (i+1)) (B.drop k):=by
 obtain⟨q,e⟩:=Za.1 hx;rw[Zm q,e,Zt hk];rw[vL];cases A.drop (i+1)<;>rw[vL]
def agF {A B:List (List Int)}{i k:Nat}{y:List Int}(hi:A.length<=i)(hy:B[k]?=some y):vL gq (A.drop i) (B.drop k)=y::vL gq (A.drop i) (B.drop (k+1)):=by
 obtain⟨q,e⟩:=Za.1 hy;rw[Zm q,e,Zt hi,vL,vL]
def agG {A B:List (List Int)}{i k:Nat}{x y:List Int}(hx:A[i]?=some x)(hy:B[k]?=some y):vL gq (A.drop i) (B.drop k)=if gq x y<0 then x::vL gq (A.drop (i+1)) (B.drop k)else if gq x y=0 then x::vL gq (A.drop (i+1)) (B.drop (k+1))else y::vL gq (A.drop i) (B.drop (k+1)):=by
 obtain⟨q,e⟩:=Za.1 hx;obtain⟨q',e'⟩:=Za.1 hy;have h1:A.drop i=x::A.drop (i+1):=by rw[Zm q,e]
 have h2:B.drop k=y::B.drop (k+1):=by rw[Zm q',e']
 rw[h1,h2,vL]
def aaE (A B:List (List Int)):(vL gq A B).length<=A.length+B.length:=by
 fun_induction vL gq A B<;>simp_all<;>omega
structure aj0 (A B:List (List Int))(z z':Bool)(m:Nat)(s:St):Prop where
 len:s.1.length=59
 g0:gt s.1 0= .ls 1 (iN A) z
 g1:gt s.1 1= .ls 1 (iN B) z'
 st:∃(i k:Nat) (o:List (List Int)) (y:AV),i<=A.length/\k<=B.length/\m=(A.length-i)+(B.length-k)/\gt s.1 6=i/\gt s.1 7=k/\o++vL gq (A.drop i) (B.drop k)=vL gq A B/\gt s.1 5=y/\kP s.2 1 (iN o) y
def aaF (n:Nat)(b:Bool)(A B:List (List Int))(z z':Bool)(h:Hp)(hA:A.length<=1000000)(hB:B.length<=1000000)(hAt:∀t∈A,t.length<=1000000)(hBt:∀t∈B,t.length<=1000000):
 cW cx (n+2) b 97 [.ls 1 (iN A) z,.ls 1 (iN B) z'] h=some (.ls 1 (iN (vL gq A B)) false,h):=by
 refine wH f97 [.tmp 4] rfl ?_ b h;have mi:kx 97=1:=by decide
 rw[mi];have fc:=λx y b h (hx:x.length<=1000000) (hy:y.length<=1000000)=>agD n b x y false false h (by omega) (by omega)
 have hml:=aaE A B;generalize n+1=M at fc|-;simp[f97];refine nF (C:=cx) (G:=λr=>∃r0 h',eQ _ (eR _ _ (dL _ r) _)=some (r0,h')/\∃r',Ae.dq h' 8 r0=some r'/\wI 1 r'= .ls 1 (iN (vL gq A B)) false)
  (λm s=>aj0 A B z z' m s) (λo s=>o= .exit 0/\s.1.length=59/\∃y,gt s.1 5=y/\kP s.2 1 (iN (vL gq A B)) y) (A.length+B.length) (by simp;omega) ⟨rfl,rfl,rfl,0,0,[],_,by omega,by omega,by omega,rfl,rfl,by simp,rfl,.inl ⟨rfl,rfl⟩⟩ ?_ ?_
 .rintro m fr hp ⟨cU,g0,g1,i,k,o,y,hi,hk,hm,g6,g7,ho,g5,hy⟩;simp only at cU g0 g1 g6 g7 g5 hy;have hq:=fy A;have hg:=AR A;have jA:=fy B;have qK:=AR B;generalize yb:iN A=cY at g0 hq hg;generalize VO:iN B=rows' at g1 jA qK;have mj:i<=1000000000000000:=by omega
  have QJ:k<=1000000000000000:=by omega
  have EE:o.length<=3000000:=by
   have:=congrArg List.length ho;rw[Zu]at this;omega
  have q5:=oG (λv=>hy.np v)
  by_cases hiA:i<A.length
  .obtain⟨x,hx⟩:=eA hiA;have hr:cY[i]?=some [.ls 1 (tI x) false]:=by rw[hg,hx];rfl
   have du:=gA hr
   have hxl:=hAt x (Zi hx);obtain⟨i1,h1,b1,c1⟩:=ME hy x EE;have hneq:¬i=A.length:=by omega
   have aaG:¬((i:Nat):Int)=(A.length:Nat):=by omega
   by_cases hkB:k<B.length
   .obtain⟨w,hw⟩:=eA hkB;have hs:rows'[k]?=some [.ls 1 (tI w) false]:=by rw[qK,hw];rfl
    have kC:=gA hs
    have Fg:=hBt w (Zi hw);obtain⟨i2,h2,b2,c2⟩:=ME hy w EE;have f:=λb h=>fc x w b h hxl Fg
    have ho:=ho;rw[agG hx hw]at ho;generalize gq x w=c at f ho;by_cases hc:c<0
    .rw[dd hc]at ho;have e1:c<=0:=by omega
     have e2:¬0<=c:=by omega
     simp[cU,g0,g1,g6,g7,g5,q5,hiA,hkB,aaG,hq,jA,du,kC,f,e1,e2,Js,b1,di mj];refine⟨m-1,by omega,by simp[cU],by simp[g0,yb],by simp[g1,VO],i+1,k,o++[x],_,by omega,hk,by omega,by simp[cU],by simp[g7],by rw[<-ho];simp,by simp[cU],c1⟩
    .rw[db hc]at ho;by_cases od:c=0
     .rw[dd od]at ho;subst od;simp[cU,g0,g1,g6,g7,g5,q5,hiA,hkB,aaG,hq,jA,du,kC,f,Js,b1,di mj,di QJ];refine⟨m-2,by omega,by simp[cU],by simp[g0,yb],by simp[g1,VO],i+1,k+1,o++[x],_,by omega,by omega,by omega,by simp[cU],by simp[cU],by rw[<-ho];simp,by simp[cU],c1⟩
     .rw[db od]at ho;have e1:¬c<=0:=by omega
      have e2:0<=c:=by omega
      simp[cU,g0,g1,g6,g7,g5,q5,hiA,hkB,aaG,hq,jA,du,kC,f,e1,e2,Js,b2,di QJ];refine⟨m-1,by omega,by simp[cU],by simp[g0,yb],by simp[g1,VO],i,k+1,o++[w],_,hi,by omega,by omega,by simp[g6],by simp[cU],by rw[<-ho];simp,by simp[cU],c2⟩
   .have ho:=ho;rw[agE hx (by omega)]at ho;simp[cU,g0,g1,g6,g7,g5,q5,hiA,hkB,aaG,hq,jA,du,Js,b1,di mj];refine⟨m-1,by omega,by simp[cU],by simp[g0,yb],by simp[g1,VO],i+1,k,o++[x],_,by omega,hk,by omega,by simp[cU],by simp[g7],by rw[<-ho];simp,by simp[cU],c1⟩
  .have gG:i=A.length:=Yc hi (Yb hiA);subst gG;by_cases hkB:k<B.length
   .obtain⟨w,hw⟩:=eA hkB;have hs:rows'[k]?=some [.ls 1 (tI w) false]:=by rw[qK,hw];rfl
    have kC:=gA hs
    obtain⟨i2,h2,b2,c2⟩:=ME hy w EE;have ho:=ho;rw[agF (Yt _) hw]at ho;simp[cU,g0,g1,g6,g7,g5,q5,hkB,hq,jA,kC,Js,b2,di QJ];refine⟨m-1,by omega,by simp[cU],by simp[g0,yb],by simp[g1,VO],A.length,k+1,o++[w],_,by omega,by omega,by omega,by simp[g6],by simp[cU],by rw[<-ho];simp,by simp[cU],c2⟩
   .have g_:k=B.length:=Yc hk (Yb hkB);subst g_;have ho:=ho;rw[List.drop_length,List.drop_length]at ho;have e0:vL gq ([]:List (List Int)) []=[]:=by rw[vL]
    rw[e0,Yp]at ho;simp[cU,g0,g1,g6,g7,hq,jA];rw[<-ho,g5];exact hy
 .rintro o fr hp hn ⟨rfl,cU,y,g5,hy⟩;simp only at cU g5 hy;have dJ:=oO (vL gq A B);have lH:=ij (n:=7) (by omega) dJ.1 dJ.2 hy;have q5:=oG (λv=>hy.np v)
  simp[cU,g5,q5];exact gz ⟨_,lH,mf _ _⟩
def VP (L:List (List Int))(m:Nat):(iN L).take m=iN (L.take m):=by simp[iN,List.map_take]
def VQ (L:List (List Int))(m:Nat):(iN L).drop m=iN (L.drop m):=by simp[iN,List.map_drop]
def half (n:Nat)(h:n<=1000000):dM .i64 ((n:Int)/2)=((n/2:Nat):Int):=by
 have e:(n:Int)/2=((n/2:Nat):Int):=by omega
 rw[e];exact dh (by omega) (by omega)
def aaH (L:List (List Int))(z:Bool)(m:Nat)(hm:m<=L.length):ku (.ls 1 (iN L) z) none (some (.sc (.int .i64 (m:Nat)))) none=some (.ls 1 (iN (L.take m)) (z && m==L.length)):=by
 have h1:iZ (.sc (.int .i64 (m:Nat)))=some m:=by simp[iZ]
 unfold ku;simp only[rW,gQ,h1,fy,Nat.zero_le,hm,and_self,if_true,List.drop_zero,Nat.sub_zero,VP]
def aaI (L:List (List Int))(z:Bool)(m:Nat)(hm:m<=L.length):ku (.ls 1 (iN L) z) (some (.sc (.int .i64 (m:Nat)))) none none=some (.ls 1 (iN (L.drop m)) z):=by
 have h1:iZ (.sc (.int .i64 (m:Nat)))=some m:=by simp[iZ]
 unfold ku;simp only[rW,gQ,h1,fy,hm,Yt,and_self,if_true,VQ,beq_self_eq_true,Bool.and_true];rw[Ys (by rw[fy,Xk];omega)]
def Gm (M:Nat)(b:Bool)(L:List (List Int))(z:Bool)(h:Hp)(h2:2<=L.length)(hl:L.length<=1000000)(A B C:List LA)
 (aa:∀z b h,cW cx M b 48 [.ls 1 (iN (L.take (L.length/2))) z] h=some (.ls 1 A false,h)) (ae:∀z b h,cW cx M b 48 [.ls 1 (iN (L.drop (L.length/2))) z] h=some (.ls 1 B false,h))
 (af:∀b h,cW cx M b 97 [.ls 1 A false,.ls 1 B false] h=some (.ls 1 C false,h)):cW cx (M+1) b 48 [.ls 1 (iN L) z] h=some (.ls 1 C false,h):=by
 refine wH f48 [.tmp 2] rfl ?_ b h;have mi:kx 48=1:=by decide
 rw[mi];have hq:=fy L;have e1:¬((L.length:Nat):Int)<=1:=by omega
 have e1':¬L.length<=1:=by omega
 have e2:=half L.length hl;have s1:=aaH L z (L.length/2) (by omega);have s2:=aaI L z (L.length/2) (by omega);have aa:=aa (z && L.length/2==L.length);have ae:=ae z;generalize iN (L.take (L.length/2))=r1 at s1 aa;generalize iN (L.drop (L.length/2))=r2 at s2 ae;generalize(z && L.length/2==L.length)=zz at s1 aa;generalize L.length/2=m at e2 s1 s2;generalize iN L=cY at hq s1 s2|-;generalize L.length=n at e1 e1' e2 hq;simp[f48,hq,e1,e2,s1,s2,aa,ae,af];exact⟨.ls 1 C false,_,⟨rfl,rfl⟩,.ls 1 C false,rfl,rfl⟩
def aaJ (H:Hp)(x:List Int)(z:Bool):gY H (.ls 1 (tI x) z)=some (x.length,(tI x).flatten):=by
 show some ((tI x).length,(tI x).flatten)=_;rw[dU]
def VR (H:Hp)(x:List Int)(z:Bool)(hx:x.length<=1000000):∃id H',eE cx (H++[.row []]) 27 (.sl H.length 1 0 0 false) (.ls 1 (tI x) z)=some (.sl id 1 0 x.length false,H')/\H'[id]?=some (.row (tI x).flatten):=by
 by_cases h0:x.length=0
 .have:x=[]:=Zl h0;subst this;refine⟨H.length,H++[fp.row []],?_,by simp[tI]⟩;unfold eE;rw[AQ];rfl
 .refine⟨H.length+1,(H++[fp.row []]).set H.length .dead++[.row (tI x).flatten],?_,?_⟩
  .have c1:¬(x.length*1<=0):=by omega
   have c2:x.length<=maxLen:=by unfold maxLen;omega
   have c3:x.length*8<=140737488355328:=by omega
   have dC:(H++[fp.row []])[H.length]?=some (.row []):=by simp
   have LN:jL 1 (.sl H.length 1 0 0 false)=true:=rfl;have YN:jL 1 (.ls 1 (tI x) z)=true:=rfl;unfold eE;rw[AQ];simp only[LN,YN,Bool.and_self,if_true,aaJ,h0,if_false,dC,Xa,c1,c2,c3,Nat.zero_mul,and_self,Zw,Xb,Zu,Xf]
  .rw[Zf (by simp)];simp
def sN (n:Nat)(b:Bool)(x:AV)(h:Hp)(hx:x=()\/∃z,x= .ls 1 [] z):cW cx (n+1) b 48 [x] h=some (.ls 1 [] false,h):=by
 refine wH f48 [.tmp 2] (by rcases hx with rfl|⟨z,rfl⟩<;>rfl) ?_ b h;have mi:kx 48=1:=by decide
 rw[mi];rcases hx with rfl|⟨z,rfl⟩
 all_goals
  simp[f48];refine eC (C:=cx) (G:=λr=>∃r0 h',eQ _ (eR _ _ (eR _ _ (dL _ r) _) _)=some (r0,h')/\∃r',Ae.dq h' 8 r0=some r'/\wI 1 r'= .ls 1 [] false)
   (λi s=>i=0/\s.1.length=37/\(gt s.1 0=()\/gt s.1 0= .ls 1 [] false\/gt s.1 0= .ls 1 [] true)/\gt s.1 3=()/\gt s.1 4=(0:Int))
   (λo s=>o= .exit 0/\s.1.length=37/\gt s.1 3=()) 0 (by simp) ?_ ?_ ?_
  .refine⟨rfl,rfl,?_,rfl,rfl⟩
   first|exact .inl rfl|(cases z;exact .inr (.inl rfl);exact .inr (.inr rfl))
  .rintro j fr lW _ ⟨rfl,cU,g0,g3,g4⟩;simp only at cU g0 g3 g4;rcases g0 with g0|g0|g0<;>simp[cU,g0,g3,g4]
  .rintro o fr lW hn ⟨rfl,cU,g3⟩;simp only at cU g3;simp[cU,g3];refine⟨_,_,⟨rfl,rfl⟩,_,rfl,rfl⟩
end
def ad5 {h:Hp}{id:Nat}{cs:LA}(dC:h[id]?=some (.row cs))(hc:cs.all eT=true):∃h',Ae.freeze [id] h=some h'/\h'.length=h.length/\∀j,j≠id->h'[j]?=h[j]?:=by
 have key:Ae.freeze [id] h=some ((List.range h.length).map λi=>if i=id then .KK cs else h.getD i .dead):=by
  unfold Ae.freeze;refine uc (g:=λi=>if i=id then .KK cs else h.getD i .dead) _ λi hi=>?_
  have gG:i<h.length:=by simpa using hi
  by_cases e:i=id
  .subst e;have h2:[i].contains i=true:=by simp
   rw[dd h2,dC];simp only[kX hc,Xq,if_true]
  .have h2:¬ [id].contains i=true:=by simp[e]
   rw[db h2,db e,Zb gG];simp[List.getD,gG]
 refine⟨_,key,by simp,λj hj=>?_⟩;rw[Zs];by_cases hl:j<h.length
 .rw[Xp hl,Zb hl];simp[hj,List.getD,hl]
 .rw[Xt (by simpa using hl),Xt (by omega)];rfl
def MF {h:Hp}{k sz:Nat}{cY:List LA}(gC:0<sz)(hr:∀r∈cY,r.length=sz)(hc:cY.flatten.all eT=true)(dC:h[k]?=some (.row cY.flatten)):
 ∃h',Ae.freeze [k] h=some h'/\Ae.dq (mask [k] h) 8 (.sl k sz 0 cY.length false)=some (.ls sz cY false)/\h'.length=h.length/\∀j,j≠k->h'[j]?=h[j]?:=by
 obtain⟨h',h1,h2,h3⟩:=ad5 dC hc;have sA:cY.flatten.length=cY.length*sz:=dH cY hr;exact⟨h',h1,jP gC hr hc (jQ (AP dC)) (by rw[Ys (by omega)]) (by omega),h2,h3⟩
section
attribute [local simp] zi XM
def Gn (n:Nat)(b:Bool)(x:List Int)(z:Bool)(h:Hp)(hx:x.length<=1000000):cW cx (n+1) b 48 [.ls 1 (iN [x]) z] h=some (.ls 1 (iN [x]) false,h):=by
 refine wH f48 [.tmp 2] rfl ?_ b h;have mi:kx 48=1:=by decide
 rw[mi];obtain⟨i1,H1,a1,a2⟩:=VR [] x false hx;simp only[Zw,Xa]at a1;have dJ:=pJ x;obtain⟨H2,m1,m2,m3,m4⟩:=MF (by omega) dJ.1 dJ.2 a2;rw[dU]at m2;have b1:=xa (t:=55) xj rfl H2 [.ls 1 (tI x) false] rfl (by omega);have e0:iN [x]=[[.ls 1 (tI x) false]]:=rfl;rw[e0];generalize tI x=rx at a1 b1 m2|-;have KL:dM .i64 1=1:=dh (by omega) (by omega);simp[f48];refine eC (C:=cx) (G:=λr=>∃r0 h',eQ _ (eR _ _ (eR _ _ (dL _ r) _) _)=some (r0,h')/\∃r',Ae.dq h' 8 r0=some r'/\wI 1 r'= .ls 1 [[.ls 1 rx false]] false)
  (λi s=>i<=1/\s.1.length=37/\gt s.1 0= .ls 1 [[.ls 1 rx false]] z/\((i=0/\gt s.1 3=()/\gt s.1 4=(0:Int)/\s.2=[])\/(i=1/\gt s.1 4=(1:Int)/\∃k,gt s.1 3= .sl k 1 0 1 false/\s.2[k]?=some (.row [.ls 1 rx false]))))
  (λo s=>o= .exit 0/\s.1.length=37/\∃k,gt s.1 3= .sl k 1 0 1 false/\s.2[k]?=some (.row [.ls 1 rx false])) 1 (by simp) ⟨by omega,rfl,rfl,.inl ⟨rfl,rfl,rfl,rfl⟩⟩ ?_ ?_
 .rintro i fr hp _ ⟨hi,cU,g0,⟨rfl,g3,g4,hh⟩|⟨rfl,g4,k,g3,hk⟩⟩
  .simp only at cU g0 g3 g4 hh;subst hh;simp[cU,g0,g3,g4,a1,m1,m2,b1,KL]
  .simp only at cU g0 g3 g4 hk;simp[cU,g0,g3,g4];exact hk
 .rintro o fr hp hn ⟨rfl,cU,k,g3,hk⟩;simp only at cU g3 hk;have s2:Ae.dq hp 8 (.sl k 1 0 1 false)=some (.ls 1 [[.ls 1 rx false]] false):=jP (cY:=[[.ls 1 rx false]]) (by omega) (by simp) rfl (jQ hk) rfl (by simp);simp[cU,g3];exact gz ⟨_,s2,rfl⟩
def VS :∀(m:Nat) (L:List (List Int)),L.length<=m->L.length<=1000000->(∀t∈L,t.length<=1000000)->∀(N:Nat) (z:Bool) b h,cW cx (N+m+2) b 48 [.ls 1 (iN L) z] h=some (.ls 1 (iN (gd gq L)) false,h):=by
 intro m
 induction m with
 |
  zero=>
  intro L h0 _ _ N z b h;have:L=[]:=Zl (by omega);subst this;exact sN (N+1) b _ h (.inr ⟨z,rfl⟩)
 |
  succ m ih=>
  intro L h0 hl ht N z b h;by_cases h2:2<=L.length
  .have hm:m+1=m+1:=rfl;have hc:gd gq L=vL gq (gd gq (L.take (L.length/2))) (gd gq (L.drop (L.length/2))):=by
    rw[P_ lV,List.take_append_drop]
   have agH:∀K:List (List Int),(gd gq K).length<=K.length:=by
    intro K
    induction K with
    |nil=>simp[gd]
    |
     cons t K ihK=>
     have e:gd gq (t::K)=qG gq t (gd gq K):=rfl;have:∀M:List (List Int),(qG gq t M).length<=M.length+1:=by
      intro M
      induction M with
      |nil=>simp[qG]
      |cons y M ihM=>rw[qG];(repeat' split)<;>simp<;>omega
     rw[e];have:=this (gd gq K);simp only[Yw];omega
   rw[hc];refine Gm (N+m+2) b L z h h2 hl (iN (gd gq (L.take (L.length/2)))) (iN (gd gq (L.drop (L.length/2)))) _ ?_ ?_ ?_
   .intro z b h;exact ih _ (by rw[Yy];omega) (by rw[Yy];omega) (λt h=>ht t (Xl h)) N z b h
   .intro z b h;exact ih _ (by rw[Xk];omega) (by rw[Xk];omega) (λt h=>ht t (List.mem_of_mem_drop h)) N z b h
   .intro b h;refine aaF (N+m) b _ _ false false h ?_ ?_ ?_ ?_
    .have:=agH (L.take (L.length/2));rw[Yy]at this;omega
    .have:=agH (L.drop (L.length/2));rw[Xk]at this;omega
    .exact λt h=>ht t (Xl ((lv lV t _).1 h))
    .exact λt h=>ht t (List.mem_of_mem_drop ((lv lV t _).1 h))
  .match L,h2,ht with
   | [],_,_=>exact sN (N+m+2) b _ h (.inr ⟨z,rfl⟩)
   | [x],_,ht=>exact Gn (N+m+2) b x z h (ht x (by simp))
   |_::_::_,h2,_=>simp at h2
end
end Go.Proofs.YtaibpnppeiigdaaGreatDoor
