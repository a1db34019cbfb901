/- Part of the proof. -/
import Derived.Test.YtaibpnppeiigdaaGreatDoorP14
set_option linter.all false
set_option maxHeartbeats 16000000
set_option maxRecDepth 100000
namespace Go.Proofs.YtaibpnppeiigdaaGreatDoor
open Go Go.Ae Go.Proofs.Tryz
section
attribute [local simp] zi da XM
def Oc (c:iP):lM c=[.sc (.string c.key),.sc (.int .i64 c.v.k),.sc (.int .i64 c.v.n),.sc (.int .i64 c.v.d),.sc (.string c.v.s),fG c.v.isNil c.v.l]:=by obtain⟨k,v⟩:=c;cases v;rfl
def rq (c:iP):(lM c).take 6=lM c:=Ys (by simp)
def qM (x:Int)(n:Nd):Bool:=decide (n.id<x)
def qp (x:Int)(n:Nd):Bool:=decide (n.id=x)
def xf (x:Int)(n:Ed):Bool:=decide (n.id<x)
def wa (x:Int)(n:Ed):Bool:=decide (n.id=x)
def Da (x:ByteArray)(p:iP):Bool:=nZ p.key x
def zq (x:ByteArray)(p:iP):Bool:=kr p.key x
def LG (x:ByteArray)(s:ByteArray):Bool:=nZ s x
def yv (x:ByteArray)(s:ByteArray):Bool:=kr s x
def AA (a b:Int):ej a b<0↔a<b:=by unfold ej;split<;>(try split)<;>omega
def Od (a b:Int):ej a b=0↔a=b:=by unfold ej;split<;>(try split)<;>omega
def Oe (a b:ByteArray):kL a b<0↔nZ a b=true:=by
 unfold kL;cases h:nZ a b
 .cases h2:nZ b a<;>simp
 .simp
def T8 (a b:ByteArray):kL a b=0↔kr a b=true:=by rw[yj,iT]
def T9 (n:Nat)(bb:Bool)(y x:Int)(a b:AV)(h:Hp):cW cx (n+3) bb 227 [.ag [y,a,b],x] h=some (.sc (.int .i64 (ej y x)),h++[.row [y,a,b]]):=by
 rw[K7 (n:=n+2) f227 [.tmp 4]];have aa:=λb h=>jn n b y x h
 generalize ej y x=r at aa;simp[f227,aa]
def T_ (n:Nat)(bb:Bool)(y x:Int)(a b d e:AV)(h:Hp):cW cx (n+3) bb 239 [.ag [y,a,b,d,e],x] h=some (.sc (.int .i64 (ej y x)),h++[.row [y,a,b,d,e]]):=by
 rw[K7 (n:=n+2) f239 [.tmp 4]];have aa:=λb h=>jn n b y x h
 generalize ej y x=r at aa;simp[f239,aa]
def adu (n:Nat)(b:Bool)(c:iP)(x:ByteArray)(h:Hp):cW cx (n+3) b 235 [.ag (lM c),.sc (.string x)] h=some (.sc (.int .i64 (kL c.key x)),h++[.row (lM c)]):=by
 rw[K7 (n:=n+2) f235 [.tmp 4]];have aa:=λb h=>tN n b c.key x h
 generalize kL c.key x=r at aa;simp[f235,Oc,aa]
def BD (n:Nat)(l pre gj post:List Nd)(x:Int)(cY:List LA)(S:AV)(hS:(∃z,S= .ls 3 cY z)\/(cY=[]/\S=()))(hl:l.length<=1000000000000000)(hq:cY.length=l.length)(hg:∀(i:Nat) (c:Nd),l[i]?=some c->∃a b:AV,cY[i]?=some [.sc (.int .i64 c.id),a,b])(hs:iX (qM x) (qp x) l pre gj post)(bb:Bool)(h:Hp):
 cW cx (n+4) bb 162 [S,x,.fn 227 []] h=some (.tp [pre.length,.sc (.bool !gj.isEmpty)],h):=by
 have hp:pre.length<=l.length:=by rw[hs.e];simp
 rcases hS with⟨z,rfl⟩|⟨rfl,rfl⟩
 case inr=>
  have qg:l=[]:=Zl (by simpa using hq.symm);subst qg;have LH:pre=[]:=Zl (by simpa using hp);have s7:gj=[]:=hs.ua (by simp);subst LH s7
  suffices H:∃r,r=AV.tp [(0:Int),false]/\∀b h,cW cx (n+4) b 162 [(),x,.fn 227 []] h=some (r,h) by
   obtain⟨r,rfl,hr⟩:=H;exact hr bb h
  refine iQ (f:=162) (n:=n+3) (args:=[.sc (.slice none 0 0),.sc (.int .i64 x),.fn 227 []]) (λr=>r= .tp [(0:Int),false]) ⟨f162.ntmps,(f162.body).getD .skip,[.tmp 6,.tmp 7]⟩ (by kernel_rfl) (by kernel_rfl) rfl (by kernel_rfl) (by simp[f162]) rfl ?_;simp[f162];refine eC (C:=cx) (G:=λr=>∃r0 h',eQ _ (eR _ _ (dL _ r) _)=some (r0,h')/\dq h' 8 r0=some (.tp [(0:Int),false]))
   (λk s=>s.1.length=49/\gt s.1 8=(0:Int)/\gt s.1 9=(0:Int)/\gt s.1 10=(0:Int))
   (λo s=>o= .exit 0/\s.1.length=49/\gt s.1 8=(0:Int)/\gt s.1 9=(0:Int)) 0 (by simp) (by simp) ?_ ?_
  .rintro k fr h eG ⟨cU,h8,h9,lQ⟩;simp only at cU h8 h9 lQ;simp[cU,h8,h9,lQ]
  .rintro o fr h hn ⟨rfl,cU,h8,h9⟩;simp only at cU h8 h9;simp[cU,h8,h9];exact gz rfl
 suffices H:∃r,r=AV.tp [pre.length,.sc (.bool !gj.isEmpty)]/\∀b h,cW cx (n+4) b 162 [.ls 3 cY z,x,.fn 227 []] h=some (r,h) by
  obtain⟨r,rfl,hr⟩:=H;exact hr bb h
 refine iQ (f:=162) (n:=n+3) (args:=[.ls 3 cY z,.sc (.int .i64 x),.fn 227 []]) (λr=>r= .tp [pre.length,.sc (.bool !gj.isEmpty)]) ⟨f162.ntmps,(f162.body).getD .skip,[.tmp 6,.tmp 7]⟩ (by kernel_rfl) (by kernel_rfl) rfl (by kernel_rfl) (by simp[f162]) rfl ?_;have aa:=T9 n;generalize n+3=M at aa;simp[f162];refine eC (C:=cx) (G:=λr=>∃r0 h',eQ _ (eR _ _ (dL _ r) _)=some (r0,h')/\dq h' 8 r0=some (.tp [pre.length,.sc (.bool !gj.isEmpty)]))
  (λk s=>∃lo hi:Nat,s.1.length=49/\gt s.1 0= .ls 3 cY z/\gt s.1 1=x/\gt s.1 2= .fn 227 []/\gt s.1 8=l.length/\gt s.1 9=lo/\gt s.1 10=hi
   /\lo<=pre.length/\pre.length<=hi/\hi<=l.length/\hi-lo+k<=l.length)
  (λo s=>o= .exit 0/\s.1.length=49/\gt s.1 0= .ls 3 cY z/\gt s.1 1=x/\gt s.1 2= .fn 227 []/\gt s.1 8=l.length/\gt s.1 9=pre.length) l.length (by simp;omega) ?_ ?_ ?_
 .refine⟨0,l.length,?_⟩;simp[hq,hp]
 .rintro k fr h eG ⟨lo,hi,cU,h0,h1,h2,h8,h9,lQ,q1,q2,q3,q4⟩;simp only at cU h0 h1 h2 h8 h9 lQ;by_cases hh:lo<hi
  .have Ac:lo<=(lo+hi)/2:=by omega
   have Hg:(lo+hi)/2<hi:=by omega
   generalize yu:(lo+hi)/2=md at Ac Hg;obtain⟨c,hc⟩:∃c,l[md]?=some c:=⟨_,Zb (by omega)⟩;obtain⟨a,b,hr⟩:=hg md c hc;have du:=gA hr
   have e1:dM .i64 ((lo:Int)+hi)=((lo+hi:Nat):Int):=by rw[show(lo:Int)+hi=((lo+hi:Nat):Int) by omega];exact dh (by omega) (by omega)
   have e2:dM .u64 ((lo:Int)+hi)=(lo:Int)+hi:=kG (by omega) (by omega);have e3:((lo:Int)+hi)/2=(md:Int):=by omega
   have e4:dM .i64 (md:Int)=md:=dh (by omega) (by omega);have e5:dM .i64 ((md:Int)+1)=((md+1:Nat):Int):=dh (by omega) (by omega);have N6:md<l.length:=Ym Hg q3;have dY:=hs.lt_iff hc;by_cases hk:ej c.id x<0
   .have hmp:md<pre.length:=dY.1 (by simpa[qM,xf]using(AA _ _).1 hk);simp[cU,h0,h1,h2,h8,h9,lQ,hh,e1,e2,e3,e4,e5,hq,N6,du,aa,hk,IntKind.bits];clear e1 e2 e3 e4 e5;exact⟨by omega,md+1,by omega,hi,rfl,by omega,by omega,by omega,by omega⟩
   .have hmp:pre.length<=md:=by
     refine Yb λq=>hk ?_
     have:=dY.2 q;exact(AA _ _).2 (by simpa[qM,xf]using this)
    simp[cU,h0,h1,h2,h8,h9,lQ,hh,e1,e2,e3,e4,hq,N6,du,aa,hk,IntKind.bits];clear e1 e2 e3 e4 e5;exact⟨by omega,lo,rfl,md,rfl,by omega,by omega,by omega,by omega⟩
  .have SL:lo=pre.length:=by omega
   subst SL;simp[cU,h0,h1,h2,h8,h9,lQ,hh]
 .rintro o fr h hn ⟨rfl,cU,h0,h1,h2,h8,h9⟩;simp only at cU h0 h1 h2 h8 h9;by_cases hh:pre.length<l.length
  .obtain⟨c,hc⟩:=eA hh;obtain⟨a,b,hr⟩:=hg pre.length c hc;have du:=gA hr
   have wF:(!gj.isEmpty)=decide (ej c.id x=0):=by
    rw[<-hs.H7 hc,Bool.eq_iff_iff,decide_eq_true_iff,Od];simp[qp]
   rw[wF];simp[cU,h0,h1,h2,h8,h9,hh,hq,du,aa];exact gz rfl
  .have wF:(!gj.isEmpty)=false:=by rw[hs.ua (by omega)];rfl
   rw[wF];simp[cU,h8,h9,hh];exact gz rfl
def BF (n:Nat)(l pre gj post:List Ed)(x:Int)(cY:List LA)(S:AV)(hS:(∃z,S= .ls 5 cY z)\/(cY=[]/\S=()))(hl:l.length<=1000000000000000)(hq:cY.length=l.length)(hg:∀(i:Nat) (c:Ed),l[i]?=some c->∃a b d e:AV,cY[i]?=some [.sc (.int .i64 c.id),a,b,d,e])(hs:iX (xf x) (wa x) l pre gj post)(bb:Bool)(h:Hp):
 cW cx (n+4) bb 238 [S,x,.fn 239 []] h=some (.tp [pre.length,.sc (.bool !gj.isEmpty)],h):=by
 have hp:pre.length<=l.length:=by rw[hs.e];simp
 rcases hS with⟨z,rfl⟩|⟨rfl,rfl⟩
 case inr=>
  have qg:l=[]:=Zl (by simpa using hq.symm);subst qg;have LH:pre=[]:=Zl (by simpa using hp);have s7:gj=[]:=hs.ua (by simp);subst LH s7
  suffices H:∃r,r=AV.tp [(0:Int),false]/\∀b h,cW cx (n+4) b 238 [(),x,.fn 239 []] h=some (r,h) by
   obtain⟨r,rfl,hr⟩:=H;exact hr bb h
  refine iQ (f:=238) (n:=n+3) (args:=[.sc (.slice none 0 0),.sc (.int .i64 x),.fn 239 []]) (λr=>r= .tp [(0:Int),false]) ⟨f238.ntmps,(f238.body).getD .skip,[.tmp 6,.tmp 7]⟩ (by kernel_rfl) (by kernel_rfl) rfl (by kernel_rfl) (by simp[f238]) rfl ?_;simp[f238];refine eC (C:=cx) (G:=λr=>∃r0 h',eQ _ (eR _ _ (dL _ r) _)=some (r0,h')/\dq h' 8 r0=some (.tp [(0:Int),false]))
   (λk s=>s.1.length=49/\gt s.1 8=(0:Int)/\gt s.1 9=(0:Int)/\gt s.1 10=(0:Int))
   (λo s=>o= .exit 0/\s.1.length=49/\gt s.1 8=(0:Int)/\gt s.1 9=(0:Int)) 0 (by simp) (by simp) ?_ ?_
  .rintro k fr h eG ⟨cU,h8,h9,lQ⟩;simp only at cU h8 h9 lQ;simp[cU,h8,h9,lQ]
  .rintro o fr h hn ⟨rfl,cU,h8,h9⟩;simp only at cU h8 h9;simp[cU,h8,h9];exact gz rfl
 suffices H:∃r,r=AV.tp [pre.length,.sc (.bool !gj.isEmpty)]/\∀b h,cW cx (n+4) b 238 [.ls 5 cY z,x,.fn 239 []] h=some (r,h) by
  obtain⟨r,rfl,hr⟩:=H;exact hr bb h
 refine iQ (f:=238) (n:=n+3) (args:=[.ls 5 cY z,.sc (.int .i64 x),.fn 239 []]) (λr=>r= .tp [pre.length,.sc (.bool !gj.isEmpty)]) ⟨f238.ntmps,(f238.body).getD .skip,[.tmp 6,.tmp 7]⟩ (by kernel_rfl) (by kernel_rfl) rfl (by kernel_rfl) (by simp[f238]) rfl ?_;have aa:=T_ n;generalize n+3=M at aa;simp[f238];refine eC (C:=cx) (G:=λr=>∃r0 h',eQ _ (eR _ _ (dL _ r) _)=some (r0,h')/\dq h' 8 r0=some (.tp [pre.length,.sc (.bool !gj.isEmpty)]))
  (λk s=>∃lo hi:Nat,s.1.length=49/\gt s.1 0= .ls 5 cY z/\gt s.1 1=x/\gt s.1 2= .fn 239 []/\gt s.1 8=l.length/\gt s.1 9=lo/\gt s.1 10=hi
   /\lo<=pre.length/\pre.length<=hi/\hi<=l.length/\hi-lo+k<=l.length)
  (λo s=>o= .exit 0/\s.1.length=49/\gt s.1 0= .ls 5 cY z/\gt s.1 1=x/\gt s.1 2= .fn 239 []/\gt s.1 8=l.length/\gt s.1 9=pre.length) l.length (by simp;omega) ?_ ?_ ?_
 .refine⟨0,l.length,?_⟩;simp[hq,hp]
 .rintro k fr h eG ⟨lo,hi,cU,h0,h1,h2,h8,h9,lQ,q1,q2,q3,q4⟩;simp only at cU h0 h1 h2 h8 h9 lQ;by_cases hh:lo<hi
  .have Ac:lo<=(lo+hi)/2:=by omega
   have Hg:(lo+hi)/2<hi:=by omega
   generalize yu:(lo+hi)/2=md at Ac Hg;obtain⟨c,hc⟩:∃c,l[md]?=some c:=⟨_,Zb (by omega)⟩;obtain⟨a,b,d,e,hr⟩:=hg md c hc;have du:=gA hr
   have e1:dM .i64 ((lo:Int)+hi)=((lo+hi:Nat):Int):=by rw[show(lo:Int)+hi=((lo+hi:Nat):Int) by omega];exact dh (by omega) (by omega)
   have e2:dM .u64 ((lo:Int)+hi)=(lo:Int)+hi:=kG (by omega) (by omega);have e3:((lo:Int)+hi)/2=(md:Int):=by omega
   have e4:dM .i64 (md:Int)=md:=dh (by omega) (by omega);have e5:dM .i64 ((md:Int)+1)=((md+1:Nat):Int):=dh (by omega) (by omega);have N6:md<l.length:=Ym Hg q3;have dY:=hs.lt_iff hc;by_cases hk:ej c.id x<0
   .have hmp:md<pre.length:=dY.1 (by simpa[qM,xf]using(AA _ _).1 hk);simp[cU,h0,h1,h2,h8,h9,lQ,hh,e1,e2,e3,e4,e5,hq,N6,du,aa,hk,IntKind.bits];clear e1 e2 e3 e4 e5;exact⟨by omega,md+1,by omega,hi,rfl,by omega,by omega,by omega,by omega⟩
   .have hmp:pre.length<=md:=by
     refine Yb λq=>hk ?_
     have:=dY.2 q;exact(AA _ _).2 (by simpa[qM,xf]using this)
    simp[cU,h0,h1,h2,h8,h9,lQ,hh,e1,e2,e3,e4,hq,N6,du,aa,hk,IntKind.bits];clear e1 e2 e3 e4 e5;exact⟨by omega,lo,rfl,md,rfl,by omega,by omega,by omega,by omega⟩
  .have SL:lo=pre.length:=by omega
   subst SL;simp[cU,h0,h1,h2,h8,h9,lQ,hh]
 .rintro o fr h hn ⟨rfl,cU,h0,h1,h2,h8,h9⟩;simp only at cU h0 h1 h2 h8 h9;by_cases hh:pre.length<l.length
  .obtain⟨c,hc⟩:=eA hh;obtain⟨a,b,d,e,hr⟩:=hg pre.length c hc;have du:=gA hr
   have wF:(!gj.isEmpty)=decide (ej c.id x=0):=by
    rw[<-hs.H7 hc,Bool.eq_iff_iff,decide_eq_true_iff,Od];simp[wa]
   rw[wF];simp[cU,h0,h1,h2,h8,h9,hh,hq,du,aa];exact gz rfl
  .have wF:(!gj.isEmpty)=false:=by rw[hs.ua (by omega)];rfl
   rw[wF];simp[cU,h8,h9,hh];exact gz rfl
def BG (n:Nat)(l pre gj post:List iP)(x:ByteArray)(cY:List LA)(S:AV)(hS:(∃z,S= .ls 6 cY z)\/(cY=[]/\S=()))(hl:l.length<=1000000000000000)(hq:cY.length=l.length)(hg:∀(i:Nat) (c:iP),l[i]?=some c->cY[i]?=some (lM c))(hs:iX (Da x) (zq x) l pre gj post)(bb:Bool)(h:Hp):
 cW cx (n+4) bb 234 [S,.sc (.string x),.fn 235 []] h=some (.tp [pre.length,.sc (.bool !gj.isEmpty)],h):=by
 have hp:pre.length<=l.length:=by rw[hs.e];simp
 rcases hS with⟨z,rfl⟩|⟨rfl,rfl⟩
 case inr=>
  have qg:l=[]:=Zl (by simpa using hq.symm);subst qg;have LH:pre=[]:=Zl (by simpa using hp);have s7:gj=[]:=hs.ua (by simp);subst LH s7
  suffices H:∃r,r=AV.tp [(0:Int),false]/\∀b h,cW cx (n+4) b 234 [(),.sc (.string x),.fn 235 []] h=some (r,h) by
   obtain⟨r,rfl,hr⟩:=H;exact hr bb h
  refine iQ (f:=234) (n:=n+3) (args:=[.sc (.slice none 0 0),.sc (.string x),.fn 235 []]) (λr=>r= .tp [(0:Int),false]) ⟨f234.ntmps,(f234.body).getD .skip,[.tmp 6,.tmp 7]⟩ (by kernel_rfl) (by kernel_rfl) rfl (by kernel_rfl) (by simp[f234]) rfl ?_;simp[f234];refine eC (C:=cx) (G:=λr=>∃r0 h',eQ _ (eR _ _ (dL _ r) _)=some (r0,h')/\dq h' 8 r0=some (.tp [(0:Int),false]))
   (λk s=>s.1.length=49/\gt s.1 8=(0:Int)/\gt s.1 9=(0:Int)/\gt s.1 10=(0:Int))
   (λo s=>o= .exit 0/\s.1.length=49/\gt s.1 8=(0:Int)/\gt s.1 9=(0:Int)) 0 (by simp) (by simp) ?_ ?_
  .rintro k fr h eG ⟨cU,h8,h9,lQ⟩;simp only at cU h8 h9 lQ;simp[cU,h8,h9,lQ]
  .rintro o fr h hn ⟨rfl,cU,h8,h9⟩;simp only at cU h8 h9;simp[cU,h8,h9];exact gz rfl
 suffices H:∃r,r=AV.tp [pre.length,.sc (.bool !gj.isEmpty)]/\∀b h,cW cx (n+4) b 234 [.ls 6 cY z,.sc (.string x),.fn 235 []] h=some (r,h) by
  obtain⟨r,rfl,hr⟩:=H;exact hr bb h
 refine iQ (f:=234) (n:=n+3) (args:=[.ls 6 cY z,.sc (.string x),.fn 235 []]) (λr=>r= .tp [pre.length,.sc (.bool !gj.isEmpty)]) ⟨f234.ntmps,(f234.body).getD .skip,[.tmp 6,.tmp 7]⟩ (by kernel_rfl) (by kernel_rfl) rfl (by kernel_rfl) (by simp[f234]) rfl ?_;have aa:=adu n;generalize n+3=M at aa;simp[f234];refine eC (C:=cx) (G:=λr=>∃r0 h',eQ _ (eR _ _ (dL _ r) _)=some (r0,h')/\dq h' 8 r0=some (.tp [pre.length,.sc (.bool !gj.isEmpty)]))
  (λk s=>∃lo hi:Nat,s.1.length=49/\gt s.1 0= .ls 6 cY z/\gt s.1 1= .sc (.string x)/\gt s.1 2= .fn 235 []/\gt s.1 8=l.length/\gt s.1 9=lo/\gt s.1 10=hi
   /\lo<=pre.length/\pre.length<=hi/\hi<=l.length/\hi-lo+k<=l.length)
  (λo s=>o= .exit 0/\s.1.length=49/\gt s.1 0= .ls 6 cY z/\gt s.1 1= .sc (.string x)/\gt s.1 2= .fn 235 []/\gt s.1 8=l.length/\gt s.1 9=pre.length) l.length (by simp;omega) ?_ ?_ ?_
 .refine⟨0,l.length,?_⟩;simp[hq,hp]
 .rintro k fr h eG ⟨lo,hi,cU,h0,h1,h2,h8,h9,lQ,q1,q2,q3,q4⟩;simp only at cU h0 h1 h2 h8 h9 lQ;by_cases hh:lo<hi
  .have Ac:lo<=(lo+hi)/2:=by omega
   have Hg:(lo+hi)/2<hi:=by omega
   generalize yu:(lo+hi)/2=md at Ac Hg;obtain⟨c,hc⟩:∃c,l[md]?=some c:=⟨_,Zb (by omega)⟩;have hr:=hg md c hc;have du:=gA hr
   have e1:dM .i64 ((lo:Int)+hi)=((lo+hi:Nat):Int):=by rw[show(lo:Int)+hi=((lo+hi:Nat):Int) by omega];exact dh (by omega) (by omega)
   have e2:dM .u64 ((lo:Int)+hi)=(lo:Int)+hi:=kG (by omega) (by omega);have e3:((lo:Int)+hi)/2=(md:Int):=by omega
   have e4:dM .i64 (md:Int)=md:=dh (by omega) (by omega);have e5:dM .i64 ((md:Int)+1)=((md+1:Nat):Int):=dh (by omega) (by omega);have N6:md<l.length:=Ym Hg q3;have dY:=hs.lt_iff hc;by_cases hk:kL c.key x<0
   .have hmp:md<pre.length:=dY.1 (by simpa[Da]using(Oe _ _).1 hk);simp[cU,h0,h1,h2,h8,h9,lQ,hh,e1,e2,e3,e4,e5,hq,N6,du,aa,hk,IntKind.bits,rq];clear e1 e2 e3 e4 e5;exact⟨by omega,md+1,by omega,hi,rfl,by omega,by omega,by omega,by omega⟩
   .have hmp:pre.length<=md:=by
     refine Yb λq=>hk ?_
     have:=dY.2 q;exact(Oe _ _).2 (by simpa[Da]using this)
    simp[cU,h0,h1,h2,h8,h9,lQ,hh,e1,e2,e3,e4,hq,N6,du,aa,hk,IntKind.bits,rq];clear e1 e2 e3 e4 e5;exact⟨by omega,lo,rfl,md,rfl,by omega,by omega,by omega,by omega⟩
  .have SL:lo=pre.length:=by omega
   subst SL;simp[cU,h0,h1,h2,h8,h9,lQ,hh]
 .rintro o fr h hn ⟨rfl,cU,h0,h1,h2,h8,h9⟩;simp only at cU h0 h1 h2 h8 h9;by_cases hh:pre.length<l.length
  .obtain⟨c,hc⟩:=eA hh;have hr:=hg pre.length c hc;have du:=gA hr
   have wF:(!gj.isEmpty)=decide (kL c.key x=0):=by
    rw[<-hs.H7 hc,Bool.eq_iff_iff,decide_eq_true_iff,T8];simp[zq]
   rw[wF];simp[cU,h0,h1,h2,h8,h9,hh,hq,du,aa,rq];exact gz rfl
  .have wF:(!gj.isEmpty)=false:=by rw[hs.ua (by omega)];rfl
   rw[wF];simp[cU,h8,h9,hh];exact gz rfl
def kP (h:Hp)(sz:Nat)(cY:List LA)(x:AV):Prop:=(cY=[]/\x=())\/(cY≠ []/\∃id,x= .sl id sz 0 cY.length false/\h[id]?=some (.row cY.flatten))
def kP.np {h:Hp}{sz:Nat}{cY:List LA}{x:AV}(hx:kP h sz cY x)(v:Value):x≠ .pn v:=by
 rcases hx with⟨_,rfl⟩|⟨_,id,rfl,_⟩<;>simp
def gm {t:TypeId}{i:Ti}{sz bytes:Nat}{ag:Bool}{ez:List Value}(hT:cx.T t=some i)(hk:i.kd= .slice sz ag bytes ez)(h:Hp)(c:LA)(cY:List LA)(x:AV)(hx:kP h sz cY x)(hc:c.length=sz)(hr:∀r∈cY,r.length=sz)(gC:0<sz)(hn:cY.length<=1000000000)(hb:bytes<=1000):
 ∃id h',eE cx (h++[.row c]) t x (.sl h.length sz 0 1 false)=some (.sl id sz 0 (cY.length+1) false,h')/\h'[id]?=some (.row (cY++[c]).flatten)/\
  (∀j b,h[j]?=some b->(∀k n,x= .sl k sz 0 n false->j≠k)->h'[j]?=some b)/\h.length<=id:=by
 rcases hx with⟨rfl,rfl⟩|⟨eW,id,rfl,dC⟩
 .refine⟨_,_,xa hT hk h c hc hb,?_,λj b hj _=>?_,by omega⟩
  .rw[show h++[fp.row c,fp.row c]=(h++[fp.row c])++[fp.row c] by simp,Zf (by simp)];simp
  .have:=(Za.1 hj).1;rw[Zd this];exact hj
 .have sA:cY.flatten.length=cY.length*sz:=dH cY hr;have yw:(cY.length+1)*bytes<=140737488355328:=by
   have:=Nat.mul_le_mul (show cY.length+1<=1000000001 by omega) hb;omega
  refine⟨_,_,Ay hT hk h c cY.flatten id cY.length dC hc sA gC (by omega) yw,?_,λj b hj hjk=>?_,by omega⟩
  .rw[Zf (by simp)];simp
  .have jU:=(Za.1 hj).1;have Db:j≠id:=hjk id _ rfl;rw[Zd (by simp;omega),Zq (λe=>Db e.symm),Zd jU];exact hj
def xg {t:TypeId}{i:Ti}{sz bytes:Nat}{ag:Bool}{ez:List Value}(hT:cx.T t=some i)(hk:i.kd= .slice sz ag bytes ez)(h:Hp)(c:LA)(cY:List LA)(x:AV)(hx:kP h sz cY x)(hc:c.length=sz)(hr:∀r∈cY,r.length=sz)(gC:0<sz)(hn:cY.length<=1000000000)(hb:bytes<=1000):
 ∃id h',eE cx (h++[.row c]) t x (.sl h.length sz 0 1 false)=some (.sl id sz 0 (cY.length+1) false,h')/\h'[id]?=some (.row (cY++[c]).flatten)/\
  (∀j b,h[j]?=some b->(∀k n,x= .sl k sz 0 n false->j≠k)->h'[j]?=some b):=by
 obtain⟨id,h',a,b,c,_⟩:=gm hT hk h c cY x hx hc hr gC hn hb;exact⟨id,h',a,b,c⟩
def pf {h:Hp}{sz:Nat}{cY:List LA}{c:LA}{id:Nat}(dC:h[id]?=some (.row (cY++[c]).flatten)):kP h sz (cY++[c]) (.sl id sz 0 (cY.length+1) false):=
 .inr ⟨by simp,id,by simp,dC⟩
def gF (sz:Nat)(cY:List LA):AV:=if cY.isEmpty then .sc (.slice none 0 0)else .ls sz cY false
def wb {sz:Nat}(gC:0<sz):∀(cY:List LA),(∀r∈cY,r.length=sz)->(List.range cY.length).map (λi=>(cY.flatten.drop (i*sz)).take sz)=cY
 | [],_=>rfl
 |
  r::cY,h=>by
  have hr:=h r (by simp);have ih:=wb gC cY λx hx=>h x (by simp[hx])
  rw[Yw,List.range_succ_eq_map,Xi,List.map_map]
  congr 1
  .simp[<-hr]
  .refine Eq.trans (List.map_congr_left λi _=>?_) ih;simp only[Function.comp_apply,List.flatten_cons,Nat.succ_eq_add_one,Xw,Nat.one_mul];rw[Nat.add_comm,<-List.drop_drop,<-hr,List.drop_left]
def eT :AV->Bool
 | .sc _| .ls .. | .rp .. =>true
 |_=>false
@[simp] def ahE (v:Value):eT (.sc v)=true:=rfl
@[simp] def ah5 (sz:Nat)(cY:List LA)(z:Bool):eT (.ls sz cY z)=true:=rfl
def LI {h:Hp}{n:Nat}{x:AV}(hx:eT x=true):dq h n x=some x:=by
 cases x<;>simp[eT]at hx<;>simp[dq]
def kX {h:Hp}{n:Nat}:∀{xs:LA},xs.all eT=true->xs.mapM (dq h n)=some xs
 | [],_=>rfl
 |
  x::xs,hx=>by
  rw[Zn,Zh]at hx;rw[Zo,LI hx.1,kX hx.2];rfl
def jP {h:Hp}{n id sz:Nat}{cY:List LA}{cs:LA}(gC:0<sz)(hr:∀r∈cY,r.length=sz)(hc:cY.flatten.all eT=true)(dC:gI h id=some cs)(rR:cs.take (cY.length*sz)=cY.flatten)(eG:cY.length*sz<=cs.length):dq h (n+1) (.sl id sz 0 cY.length false)=some (.ls sz cY false):=by
 simp only[dq,dC,Xb,List.drop_zero,dd eG,rR,kX hc,Xq,wb gC cY hr]
def ij {h:Hp}{n sz:Nat}{cY:List LA}{x:AV}(gC:0<sz)(hr:∀r∈cY,r.length=sz)(hc:cY.flatten.all eT=true)(hx:kP h sz cY x):dq h (n+1) x=some (gF sz cY):=by
 rcases hx with⟨rfl,rfl⟩|⟨eW,id,rfl,dC⟩
 .rfl
 .have sA:cY.flatten.length=cY.length*sz:=dH cY hr;rw[jP gC hr hc (jQ dC) (by rw[Ys (by omega)]) (by omega)];unfold gF;cases cY with
  |nil=>exact absurd rfl eW
  |cons r cY=>rfl
def mf (sz:Nat)(cY:List LA):uT sz (gF sz cY)= .ls sz cY false:=by
 unfold gF;cases cY with
 |nil=>rfl
 |cons r cY=>simp[uT]
def LJ (c:iP):(lM c).all eT=true:=by
 rw[Oc];rcases gu c.v.isNil c.v.l with⟨_,h⟩|h<;>(rw[h];rfl)
def jE {cY:List LA}(h:∀r∈cY,r.all eT=true):cY.flatten.all eT=true:=by
 induction cY with
 |nil=>rfl
 |cons r cY ih=>rw[List.flatten_cons,List.all_append,h r (by simp),ih λx hx=>h x (by simp[hx])];rfl
def jr (l:List iP):(∀r∈iy l,r.length=6)/\(iy l).flatten.all eT=true:=
 ⟨λr hr=>by obtain⟨c,_,rfl⟩:=Yi.1 hr;simp,jE λr hr=>by obtain⟨c,_,rfl⟩:=Yi.1 hr;exact LJ c⟩
def jK (l:List ByteArray):(∀r∈gP l,r.length=1)/\(gP l).flatten.all eT=true:=
 ⟨λr hr=>by obtain⟨c,_,rfl⟩:=Yi.1 hr;rfl,jE λr hr=>by obtain⟨c,_,rfl⟩:=Yi.1 hr;rfl⟩
def AB (l:List Nd):(∀r∈lU l,r.length=3)/\(lU l).flatten.all eT=true:=
 ⟨λr hr=>by obtain⟨c,_,rfl⟩:=Yi.1 hr;rfl,jE λr hr=>by obtain⟨c,_,rfl⟩:=Yi.1 hr;rfl⟩
def AD (l:List Ed):(∀r∈mA l,r.length=5)/\(mA l).flatten.all eT=true:=
 ⟨λr hr=>by obtain⟨c,_,rfl⟩:=Yi.1 hr;rfl,jE λr hr=>by obtain⟨c,_,rfl⟩:=Yi.1 hr;rfl⟩
end
@[simp] def agd :cx.T 63=some {size:=1,agg:=false,zero:=[.slice none 0 0],kd:= .slice 5 true 64 [.int .i64 0,.int .i64 0,.int .i64 0,.string ⟨#[]⟩,.slice none 0 0]}:=by kernel_rfl
@[simp] def adv :cx.T 53=some {size:=1,agg:=false,zero:=[.slice none 0 0],kd:= .slice 1 false 24 [.slice none 0 0]}:=by kernel_rfl
@[simp] def ahG :cx.T 65=some {size:=2,agg:=true,zero:=[.slice none 0 0,.int .i64 0],kd:= .struct [(0,1,false),(1,1,false)]}:=by kernel_rfl
@[simp] def tc :cx.T 40=some {size:=1,agg:=false,zero:=[.slice none 0 0],kd:= .slice 2 true 32 [.slice none 0 0,.int .i64 0]}:=by kernel_rfl
@[simp] def xj :cx.T 55=some {size:=1,agg:=false,zero:=[.slice none 0 0],kd:= .slice 1 false 24 [.slice none 0 0]}:=by kernel_rfl
@[simp] def alv :cx.T 69=some {size:=2,agg:=true,zero:=[.int .i64 0,.slice none 0 0],kd:= .struct [(0,1,false),(1,1,false)]}:=by kernel_rfl
@[simp] def akO :cx.T 33=some {size:=9,agg:=true,zero:=[.int .i64 0,.slice none 0 0,.string ⟨#[]⟩,.slice none 0 0,.int .i64 0,.int .i64 0,.int .i64 0,.string ⟨#[]⟩,.slice none 0 0],kd:= .struct [(0,1,false),(1,1,false),(2,1,false),(3,1,false),(4,5,true)]}:=by kernel_rfl
@[simp] def alq :nQ cx 63=true:=by kernel_rfl
@[simp] def alo :nQ cx 53=true:=by kernel_rfl
@[simp] def als :nQ cx 40=true:=by kernel_rfl
@[simp] def ahX :nQ cx 55=true:=by kernel_rfl
@[simp] def aly :tG cx 203=true:=by kernel_rfl
@[simp] def ajI :adh cx 203=some (.sc (.int .i64 0)):=by kernel_rfl
section
attribute [local simp] zi XM
def En (v:V):(enc v).all eT=true:=by
 cases v with
 |
  mk k n d s z l=>
  rw[enc];rcases gu z l with⟨_,h⟩|h<;>(unfold fG at h;rw[h];rfl)
def xk (l:List V):(∀r∈dN l,r.length=5)/\(dN l).flatten.all eT=true:=by
 induction l with
 |nil=>rw[dN];exact⟨λr hr=>by simp at hr,rfl⟩
 |
  cons x l ih=>
  rw[dN];refine⟨λr hr=>?_,by rw[List.flatten_cons,List.all_append,En,ih.2];rfl⟩;rcases Xm.1 hr with rfl|h
  .exact i7 x
  .exact ih.1 r h
def ZV (l:List V):l.length<=(tk l).length:=by
 induction l with
 |nil=>simp
 |
  cons x l ih=>
  rw[tk,Zu,Yw];have:1<=(Dn x).length:=by cases x;rw[Dn];simp;omega
  omega
def zr5 :LA:=[.sc (.int .i64 0),.sc (.int .i64 0),.sc (.int .i64 0),.sc (.string ⟨#[]⟩),.sc (.slice none 0 0)]
def zrs (m:Nat):LA:=(List.range m).flatMap λ_=>zr5
def H8 (m:Nat):zrs (m+1)=zr5++zrs m:=by
 unfold zrs;rw[List.range_succ_eq_map,Yu,List.flatMap_map]
def ZW (m:Nat):(zrs m).length=m*5:=by
 induction m with
 |zero=>rfl
 |succ m ih=>rw[H8,Zu,ih,Xw];simp[zr5];omega
def pg {A Z E B:LA}{o:Nat}(h:o=A.length)(he:E.length=Z.length):da (A++(Z++B)) o E=A++(E++B):=by
 subst h;unfold da;rw[List.take_left,he,<-List.drop_drop,List.drop_left,List.drop_left,Zp]
def sp5 (a b c d e p q r s t:AV):da [a,b,c,d,e] 0 [p,q,r,s,t]=[p,q,r,s,t]:=rfl
def sp4 (a b c d e x:AV):da [a,b,c,d,e] 4 [x]=[a,b,c,d,x]:=rfl
def qF (l:List V)(i:Nat):LA:=((dN l).take i).flatten++zrs (l.length-i)
def acb (l:List V)(i:Nat)(hi:i<=l.length):((dN l).take i).flatten.length=i*5:=by
 have:=dH ((dN l).take i) (sz:=5) λr hr=>(xk l).1 r (Xl hr)
 rw[this,Yy,dK]
 congr 1;omega
def LK (l:List V)(i:Nat)(hi:i<=l.length):(qF l i).length=l.length*5:=by
 unfold qF;rw[Zu,acb l i hi,ZW];omega
def H9 {l:List V}{i:Nat}{x:V}(h:l[i]?=some x):da (qF l i) (i*5) (enc x)=qF l (i+1):=by
 have hi:=(Za.1 h).1;unfold qF;obtain⟨m,hm⟩:∃m,l.length-i=m+1:=⟨l.length-i-1,by omega⟩;rw[hm,H8,pg (acb l i (by omega)).symm (by rw[i7];rfl),show l.length-(i+1)=m by omega,Yx,fP,h];simp
def LL (l:List V):qF l l.length=(dN l).flatten:=by
 unfold qF;rw[Nat.sub_self,Ys (by rw[dK];omega)];simp[zrs]
def at0 {h:Hp}{b:fp}(k:h[0]?=some b):∀j,h[0]'j=b:=λj=>by obtain⟨_,e⟩:=Za.1 k;exact e
def ZX :∀(D:Nat) (l:List V),(∀x∈l,fB x<=D)->NS l->(wD l).length<=1000000000000->∀(N:Nat) (z:Bool) b h,cW cx (N+D+1) b 181 [.ls 5 (dN l) z] h=some (.ls 5 (dN l) false,h):=by
 intro D
 induction D with
 |
  zero=>
  intro l hd;have:l=[]:=by
   cases l with
   |nil=>rfl
   |cons x l=>have:=hd x (by simp);have:=gZ x;omega
  subst this;intro _ _ N z b h;refine wH f181 [.tmp 2] rfl ?_ b h;have mi:kx 181=5:=by decide
  rw[mi];simp[f181,dN,maxLen];refine LM
   (λi s iR=>i=0/\s.length=30/\gt s 3= .sl 0 5 0 0 false/\gt s 10=(0:Int)/\gt s 11=(0:Int)/\iR[0]?=some (.row []))
   (λo s iR=>o= .exit 0/\s.length=30/\gt s 3= .sl 0 5 0 0 false/\iR[0]?=some (.row [])) 0 (by simp) (by exact ⟨rfl,rfl,rfl,rfl,rfl,rfl⟩) ?_ ?_
  .rintro i fr hp eG ⟨rfl,cU,h3,lQ,tM,hz⟩;simp[cU,h3,lQ,tM,hz]
  .rintro o fr hp hn ⟨rfl,cU,h3,hz⟩;have:=jP (h:=hp) (n:=7) (id:=0) (sz:=5) (cY:=[]) (cs:=[]) (by omega) (by simp) rfl (by rw[gI,hz]) rfl (by simp);simp[cU,h3,wI];exact gz ⟨_,this,rfl⟩
 |
  succ D ih=>
  intro l hd hg hk N z b h;refine wH f181 [.tmp 2] rfl ?_ b h;have mi:kx 181=5:=by decide
  rw[mi];have g_:(wD l).length=(fM l.length).length+(tk l).length+2:=by unfold wD;simp;omega
  have hl:l.length<=1000000000000:=by have:=ZV l;omega
  have fR:∀x∈l,∀b h,cW cx (N+D+1) b 181 [.ls 5 (dN x.l) false] h=some (.ls 5 (dN x.l) false,h):=λx hx=>by
   have gx:=kD hg x hx;have dx:=hd x hx;have kx:=Lr hx;cases x with
   |
    mk k n d s z' l'=>
    rw[Dl]at gx;rw[fB]at dx;have:(wD l').length<=(Dn (.mk k n d s z' l')).length:=by
     rw[Dn,wD];simp;omega
    exact ih l' (λy hy=>by have:=oE hy;omega) gx.2.2.2.2.2.2 (by omega) N false
  clear ih;generalize N+D+1=M at fR|-;have hq:=dK l;have tQ:=fP l;have dJ:=xk l;have dD:=λ(i:Nat) (x:V)=>H9 (l:=l) (i:=i) (x:=x)
  have fq:=LK l;have vu:=LL l;have h0:qF l 0=(List.range l.length).flatMap λ_=> [.sc (.int .i64 0),.sc (.int .i64 0),.sc (.int .i64 0),.sc (.string ⟨#[]⟩),.sc (.slice none 0 0)]:=by
   unfold qF zrs zr5;simp
  generalize qF l=cR at dD fq vu h0;generalize dN l=cY at hq tQ dJ vu;have c1:(l.length:Nat)<=9223372036854775807:=by omega
  have c2:l.length*64<=140737488355328:=by omega
  simp[f181,hq,maxLen,c1,c2];refine LM
   (λi s iR=>i<=l.length/\s.length=30/\gt s 3= .sl 0 5 0 l.length false/\gt s 9= .ls 5 cY z/\gt s 10=l.length/\gt s 11=i/\iR[0]?=some (.row (cR i)))
   (λo s iR=>o= .exit 0/\s.length=30/\gt s 3= .sl 0 5 0 l.length false/\iR[0]?=some (.row cY.flatten)) l.length (by simp;omega) ?_ ?_ ?_
  .refine⟨by omega,rfl,rfl,rfl,rfl,rfl,?_⟩;rw[h0];rfl
  .rintro i fr hp ajH ⟨eG,cU,h3,h9,lQ,tM,hz⟩;by_cases hi:i<l.length
   .obtain⟨x,hx⟩:=eA hi;have kM:=Zi hx;have gx:=kD hg x kM;have fK:=fR x kM;have hr:cY[i]?=some (enc x):=by rw[tQ,hx];rfl
    have du:=gA hr
    have hf:dM .i64 ((i:Int)+1)=((i+1:Nat):Int):=dh (by omega) (by omega);have LN:=dD i x hx;have xm:=fq i (by omega);have pT:0<hp.length:=(Za.1 hz).1;have eW:¬hp.length=0:=by omega
    have YF:¬hp=[]:=λe=>by rw[e]at pT;simp at pT
    have hA:∀y:fp,(hp++[y])[0]?=some (.row (cR i)):=λy=>by rw[Zd pT];exact hz
    have Og:=λy=>at0 (hA y)
    have hS:∀(y w:fp),((hp++[y]).set 0 w)[0]?=some w:=λy w=>by rw[Zj (by simp)]
    have rS:i*5+5<=l.length*5:=by omega
    clear fR dD fq;cases x with
    |
     mk k n d s z' l'=>
     rw[Dl]at gx;obtain⟨g1,g2,g3,g4,g5,rfl,_⟩:=gx;simp only[V.l]at fK;simp only[enc,uR]at hr du LN;cases l' with
     |
      nil=>
      simp only[dN]at hr du LN;simp[cU,h3,h9,lQ,tM,hi,hq,du,hf,Og,sp5,xm,rS];exact⟨by omega,by rw[LN]⟩
     |
      cons y l'=>
      have e1:((dN (y::l')).length:Int)=l'.length+1:=by rw[dK];simp
      generalize dN (y::l')=rows' at fK hr du LN e1;have e2:(0:Int)< (rows'.length:Int):=by omega
      have e3:0<rows'.length:=by omega
      have e4:¬rows'=[]:=λe=>by rw[e]at e3;simp at e3
      simp[cU,h3,h9,lQ,tM,hi,hq,du,hf,Og,sp5,sp4,xm,rS,fK,e3];exact⟨by omega,by rw[LN]⟩
   .have gG:i=l.length:=Yc eG (Yb hi);subst gG;rw[vu]at hz;simp[cU,h3,lQ,tM,hz]
  .rintro o fr hp hn ⟨rfl,cU,h3,hz⟩;have:=jP (h:=hp) (n:=7) (id:=0) (sz:=5) (cY:=cY) (cs:=cY.flatten) (by omega) dJ.1 dJ.2 (by rw[gI,hz]) (by rw[Ys];rw[dH cY dJ.1];omega) (by rw[dH cY dJ.1];omega);rw[hq]at this;simp[cU,h3,wI];exact gz ⟨_,this,rfl⟩
def ZY (N:Nat)(l:List V)(z:Bool)(b:Bool)(h:Hp)(hl:l.length<=1000000000000):cW cx (N+1) b 95 [.ls 5 (dN l) z] h=some (.ls 5 (dN l) false,h):=by
 refine wH f95 [.tmp 2] rfl ?_ b h;have mi:kx 95=5:=by decide
 rw[mi];have dJ:=xk l;have hq:=dK l;generalize dN l=cY at dJ hq;have sA:=dH cY dJ.1;cases hr:cY with
 |
  nil=>
  have e0:Ae.dq [fp.row []] 8 (.sl 0 5 0 0 false)=some (.ls 5 [] false):=jP (cY:=[]) (cs:=[]) (by omega) (by simp) rfl rfl rfl (by simp);simp[f95,eE,wI,uT];exact gz ⟨_,e0,rfl⟩
 |
  cons r rest=>
  rw[<-hr];have h0:¬cY.length=0:=by rw[hr];simp
  have h1:¬cY=[]:=by rw[hr];simp
  have c1:cY.length<=9223372036854775807:=by omega
  have c2:cY.length*64<=140737488355328:=by omega
  have e0:Ae.dq [fp.dead,fp.row cY.flatten] 8 (.sl 1 5 0 cY.length false)=some (.ls 5 cY false):=jP (cs:=cY.flatten) (by omega) dJ.1 dJ.2 rfl (by rw[Ys];omega) (by omega);have h2:¬cY.length*5=0:=by omega
  simp[f95,eE,maxLen,h0,h2,c1,c2,wI,uT];exact gz ⟨_,e0,rfl⟩
end
section
attribute [local simp] zi da XM
def BH (N:Nat)(z z':Bool)(l m:List V)(hl:l.length<=1000000000000000)(hm:m.length<=1000000000000000)(ho:∀x∈l,∀y∈m,wX N x y)(b:Bool)(h:Hp):
 cW cx (N+1) b 245 [fG z l,fG z' m,.fn 115 []] h=some (.sc (.int .i64 (gL l m)),h):=by
 have hc:[fG z l,fG z' m,.fn 115 []].all d_=true:=by rw[Zn,Zn,kQ,kQ];rfl
 refine fZ f245 [.tmp 6] hc rfl ?_ b h;clear hc;have hL:=jg z l;have fT:=jg z' m;generalize fG z l=L at hL;generalize fG z' m=L' at fT;have hq:=dK l;have hg:=fP l;have jA:=dK m;have qK:=fP m;generalize dN l=cY at hq hg hL;generalize dN m=rows' at jA qK fT;rcases hL with hL|⟨hL,hz⟩
 .subst hL;simp[f245,hq];refine lS
   (λi s _=>i<=m.length/\gL l m=vG l m i/\s.length=39/\gt s 0= .ls 5 cY z/\gt s 1=L'/\gt s 2= .fn 115 []/\gt s 11= .ls 5 cY z/\gt s 12=l.length/\gt s 13=i)
   (λo s _=>s.length=39/\((o= .exit 0/\l.length<=m.length/\gL l m=ej l.length m.length/\gt s 0= .ls 5 cY z/\gt s 1=L')\/(o= .ret/\gt s 6= .sc (.int .i64 (gL l m))))) l.length (by simp;omega) (by simp[r7]) ?_ ?_
  .rintro i fr h eG ⟨n_,jM,cU,h0,h1,h2,tM,vH,yg⟩;by_cases hi:i<l.length
   .obtain⟨x,hx⟩:=eA hi;have hr:cY[i]?=some (enc x):=by rw[hg,hx];rfl
    have du:=gA hr
    by_cases hj:i<m.length
    .rcases fT with fT|⟨fT,hz⟩
     .subst fT;obtain⟨y,hy⟩:=eA hj;have r9:rows'[i]?=some (enc y):=by rw[qK,hy];rfl
      have lK:=gA r9
      have dy:=ho x (Zi hx) y (Zi hy);unfold wX at dy;rw[r8 hx hy]at jM;have hf:dM .i64 ((i:Int)+1)=((i+1:Nat):Int):=dh (by omega) (by omega);have vT:¬(m.length<=i):=by omega
      generalize j6 x y=c at dy jM;cases x with
      |
       mk k n d s zx lx=>
       cases y with
       |
        mk k' n' d' s' zy ly=>
        simp only[enc]at hr du r9 lK dy;generalize ql zx (dN lx)=X at hr du dy;generalize ql zy (dN ly)=Y at r9 lK dy;by_cases od:c=0
        .subst od;rw[dd rfl]at jM;simp[cU,h0,h1,h2,tM,vH,yg,hi,hj,vT,hq,jA,du,lK,dy,hf];exact⟨by omega,jM⟩
        .rw[db od]at jM;simp[cU,h0,h1,h2,tM,vH,yg,hi,hj,vT,hq,jA,du,lK,dy,od,jM]
     .omega
    .have hz:=mm l m i (by omega) (by omega) (by omega);rw[<-jM]at hz;have ta:gL l m=1:=by rw[hz];unfold ej;rw[db (by omega),dd (by omega)]
     have vT:m.length<=i:=by omega
     cases x with
     |
      mk k n d s zx lx=>
      simp only[enc]at hr du;generalize ql zx (dN lx)=X at hr du;rcases fT with fT|⟨fT,wC⟩
      .subst fT;simp[cU,h0,h1,tM,vH,yg,hi,vT,hq,jA,du,ta]
      .subst fT;obtain rfl:i=0:=by omega
       simp[cU,h0,h1,tM,vH,yg,hi,hq,du,ta]
   .have hz:=mm l m i (by omega) (by omega) (by omega);rw[<-jM]at hz;simp[cU,h0,h1,vH,yg,hi,hz];omega
  .rintro o fr h hn ⟨cU,⟨rfl,PE,hz,h0,h1⟩|⟨rfl,h2⟩⟩
   .rw[hz];unfold ej;by_cases hc:(l.length:Int)<m.length
    .rcases fT with fT|⟨fT,e'⟩
     .subst fT;simp[cU,h0,h1,hq,jA,show l.length<m.length by omega]
     .omega
    .rcases fT with fT|⟨fT,e'⟩
     .subst fT;simp[cU,h0,h1,hq,jA,show¬l.length<m.length by omega,show¬m.length<l.length by omega]
     .subst fT;simp[cU,h0,h1,hq,e',show l.length=0 by omega]
   .simp[h2]
 .subst hL;have qg:l=[]:=Zl hz;subst qg;simp[f245];refine lS
   (λi s _=>i=0/\s.length=39/\gt s 0=()/\gt s 1=L'/\gt s 12=(0:Int)/\gt s 13=(0:Int))
   (λo s _=>s.length=39/\o= .exit 0/\gt s 0=()/\gt s 1=L') 0 (by simp) (by simp) ?_ ?_
  .rintro i fr h eG ⟨rfl,cU,h0,h1,vH,yg⟩;simp[cU,h0,h1,vH,yg]
  .rintro o fr h hn ⟨cU,rfl,h0,h1⟩;have jM:gL [] m=if 0<m.length then-1 else 0:=by cases m<;>simp[gL]
   rw[jM];rcases fT with fT|⟨fT,e'⟩
   .subst fT;by_cases s7:0<m.length
    .simp[cU,h0,h1,jA,s7]
    .simp[cU,h0,h1,jA,s7]
   .subst fT;simp[cU,h0,h1,e']
def H_ (N D:Nat)(l m:List V)(b:Bool)(h:Hp)(hl:l.length<=1000000000000000)(hm:m.length<=1000000000000000)(dl:∀x∈l,fB x<=D/\gV x)(dm:∀x∈m,fB x<=D/\gV x):
 cW cx (N+2*D+9) b 186 [.ls 5 (dN l) false,.ls 5 (dN m) false] h=some (.sc (.int .i64 (gL l m)),h):=by
 refine fZ f186 [.tmp 4] rfl rfl ?_ b h;have f:=λb h=>BH (N+2*D+7) false false l m hl hm (λx hx y hy=>tP D x y (dl x hx).1 (dm y hy).1 (dl x hx).2 (dm y hy).2 N) b h
 simp only[fG,uR]at f;rw[show N+2*D+7+1=N+2*D+8 by omega]at f;generalize N+2*D+8=M at f|-;generalize gL l m=r at f|-;simp[f186,f]
def zt (N D:Nat)(l m:List V)(b:Bool)(h:Hp)(hl:l.length<=1000000000000000)(hm:m.length<=1000000000000000)(dl:∀x∈l,fB x<=D/\gV x)(dm:∀x∈m,fB x<=D/\gV x):
 cW cx (N+3*D+8) b 32 [.ls 5 (dN l) false,.ls 5 (dN m) false] h=some (.sc (.int .i64 (gL l m)),h):=by
 refine fZ f32 [.tmp 4] rfl rfl ?_ b h;have f:=λb h=>D5 (N+3*D+5) false false l m hl hm (λx hx y hy=>K6 D x y (dl x hx).1 (dm y hy).1 (dl x hx).2 (dm y hy).2 N) b h
 simp only[fG,uR]at f;rw[show N+3*D+5+2=N+3*D+7 by omega]at f;generalize N+3*D+7=M at f|-;generalize gL l m=r at f|-;simp[f32,f]
end
end Go.Proofs.YtaibpnppeiigdaaGreatDoor
namespace Go.Ae
open List
variable {α : Type} {cmp : α -> α -> Int} {add : Int -> Int -> Int}
def Eo :∀(b:List (α × Int)) (r:α) (n:Int),(∀x∈b,cmp x.1 r<0)->pW cmp add b r n=b++[(r,n)]
 | [],_,_,_=>rfl
 |
  (s,m)::t,r,n,h=>by
  unfold pW;rw[dd (h (s,m) (by simp)),Eo t r n λx hx=>h x (Xn _ hx)];rfl
def Ia :∀(a:List (α × Int)) (s:α) (m:Int) (t:List (α × Int)) (r:α) (n:Int),(∀x∈a,cmp x.1 r<0)->¬cmp s r<0->pW cmp add (a++(s,m)::t) r n=a++(if cmp s r=0 then(s,add m n)::t else(r,n)::(s,m)::t)
 |
  [],s,m,t,r,n,_,h=>by
  rw[Zw,Zw,pW,db h]
 |
  (q,k)::a,s,m,t,r,n,h1,h=>by
  rw[Zv,pW,dd (h1 (q,k) (by simp)),Ia a s m t r n (λx hx=>h1 x (Xn _ hx)) h];rfl
def BI [DecidableEq α]:∀(l:List (α × Int)) (r:α) (n:Int),r∉l.map (·.1)->nR add l r n=l++[(r,n)]
 | [],_,_,_=>rfl
 |
  (s,m)::t,r,n,h=>by
  rw[Xi,Xm,not_or]at h;rw[nR,db (λe=>h.1 e.symm),BI t r n h.2];rfl
def BJ [DecidableEq α]:∀(a:List (α × Int)) (m:Int) (t:List (α × Int)) (r:α) (n:Int),r∉a.map (·.1)->nR add (a++(r,m)::t) r n=a++(r,add m n)::t
 | [],m,t,r,n,_=>by rw[Zw,nR,dd rfl];rfl
 |
  (s,k)::a,m,t,r,n,h=>by
  rw[Xi,Xm,not_or]at h;rw[Zv,nR,db (λe=>h.1 e.symm),BJ a m t r n h.2];rfl
def P7 [DecidableEq α](z:List (α × Int))(r:α)(n:Int):mJ add (z++[(r,n)])=nR add (mJ add z) r n:=by simp[mJ]
def P8 (z:List (α × Int))(r:α)(n:Int):vp cmp add (z++[(r,n)])=pW cmp add (vp cmp add z) r n:=by simp[vp]
end Go.Ae
