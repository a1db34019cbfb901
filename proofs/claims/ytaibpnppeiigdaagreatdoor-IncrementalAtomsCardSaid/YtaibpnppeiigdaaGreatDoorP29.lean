/- Part of the proof. -/
import Derived.Test.YtaibpnppeiigdaaGreatDoorP28
set_option linter.all false
set_option maxHeartbeats 32000000
set_option maxRecDepth 100000
namespace Go.Proofs.YtaibpnppeiigdaaGreatDoor
open Go Go.Ae Go.Proofs.Tryz
section
attribute [local simp] zi XM
def CD (L:List (List Int)):(iN L).flatten=L.flatMap λt=> [AV.ls 1 (tI t) false]:=by
 unfold iN;rw[List.flatMap_def]
def aaX (n:Nat)(b:Bool)(L:List (List Int))(y:AV)(h:Hp)(hy:kP h 1 (iN L) y)(hl:L.length<=1000000)(ht:∀t∈L,t.length<=1000000):
 ∃r h',r.Perm L/\(r.Pairwise λa b=>¬gq b a<0)/\cW cx (n+4) b 64 [y,.fn 65 []] h=some (.tp [],h')/\kP h' 1 (iN r) y/\(∀j,(∀k n,y= .sl k 1 0 n false->j≠k)->h'[j]?=h[j]?)/\h'.length=h.length:=by
 have e1:cx.ox 64=none:=rfl;have e2:cx.inl 64=true:=by kernel_rfl
 have e3:cx.ins 64=some (0,0):=by kernel_rfl
 rcases hy with⟨h1,rfl⟩|⟨h1,id,rfl,dC⟩
 .refine⟨L,h,.refl _,?_,?_,.inl ⟨h1,rfl⟩,λ_ _=>rfl,rfl⟩
  .have:L=[]:=by cases L with
    |nil=>rfl
    |cons a l=>simp[iN]at h1
   subst this;exact List.Pairwise.nil
  .simp only[cW,e1,e2,e3,if_true];rfl
 .have py:h[id]?=some (.row (L.flatMap (λt=> [AV.ls 1 (tI t) false])++[])):=by rw[Yp,<-CD];exact dC
  obtain⟨r,p1,p2,p3⟩:=Ib (call:=cW cx (n+3) false) (k:=0) (h:=h) (id:=id) (b:=false) (g:=65) (λt=> [AV.ls 1 (tI t) false]) (λt=>AV.ls 1 (tI t) false) gq L [] (λ_=>rfl) py (by omega) (λx _=>rfl) (λx hx y hy=>⟨[],QZ n false x y false false [] (by have:=ht x hx;omega) (by have:=ht y hy;omega)⟩) (lV.weak (λt=>t) L);rw[Yp,<-CD]at p3;refine⟨r,h.set id (.row (iN r).flatten),p1,p2,?_,.inr ⟨?_,id,?_,?_⟩,λj hj=>?_,?_⟩
  .simp only[cW,e1,e2,e3,if_true];rw[fy];exact p3
  .intro e;apply h1;have:=p1.length_eq;rw[<-fy,e]at this;have h0:L=[]:=Zl (by rw[<-this];rfl);rw[h0];rfl
  .rw[fy,fy,p1.length_eq]
  .rw[Zj (Za.1 dC).1]
  .rw[Zq (λe=>hj id _ rfl e.symm)]
  .simp
def agO (L:List (List Int)):Prop:=∀i x y,L[i]?=some x->L[i+1]?=some y->y≠x
def OW {L:List (List Int)}(h:Up gq L):agO L:=λi x y hx hy e=>by
 subst e;obtain⟨k1,e1⟩:=Za.1 hx;obtain⟨k2,e2⟩:=Za.1 hy;have:=List.pairwise_iff_getElem.1 h i (i+1) k1 k2 (by omega);rw[e1,e2]at this;have hz:=(lV.zero y y).2 rfl;omega
def aaY (n:Nat)(b:Bool)(L:List (List Int))(y:AV)(h:Hp)(hy:kP h 1 (iN L) y)(hN:agO L)(hl:L.length<=1000000)(ht:∀t∈L,t.length<=1000000):
 cW cx (n+2) b 67 [y,.fn 68 []] h=some (y,h):=by
 rw[K7 (n:=n+1) f67 [.tmp 4]];have fe:=λb x y h (hx:x.length<=1000000)=>aaD n b x y false false h (by omega)
 generalize n+1=M at fe|-;rcases hy with⟨h1,rfl⟩|⟨h1,id,rfl,dC⟩
 .simp[f67]
 .rw[fy];have Dp:=gA dC
  have sA:(iN L).flatten.length=L.length:=by rw[dH _ (oO L).1,fy];omega
  have hgf:∀i:Nat,(iN L).flatten[i]?=(L[i]?).map λt=>AV.ls 1 (tI t) false:=λi=>by
   rw[CD,<-List.map_eq_flatMap,Zs]
  generalize(iN L).flatten=cs at dC Dp sA hgf;by_cases h2:L.length<2
  .have wT:(L.length:Int)<2:=by omega
   simp[f67,wT]
  .have wT:¬(L.length:Int)<2:=by omega
   simp[f67,wT];refine eC (C:=cx) (G:=λr=>eQ _ (eR _ _ (dL _ r) _)=some (_,_))
    (λi s=>i<L.length/\s.1.length=66/\gt s.1 0= .sl id 1 0 L.length false/\gt s.1 1= .fn 68 []/\gt s.1 5= .sc (.int .i64 ((i+1:Nat):Int))/\s.2=h)
    (λo s=>o= .exit 0/\s.1.length=66/\gt s.1 0= .sl id 1 0 L.length false/\s.2=h) L.length (by simp;omega) ⟨by omega,rfl,rfl,rfl,rfl,rfl⟩ ?_ ?_
   .rintro i fr hp _ ⟨kY,cU,g0,g1,g5,hh⟩;simp only at cU g0 g1 g5 hh;subst hh;obtain⟨k,hk⟩:∃k,k=i+1:=⟨_,rfl⟩;rw[<-hk]at g5;have QJ:k<=1000000000000000:=by omega
    by_cases hi:k<L.length
    .obtain⟨x,hx⟩:=eA hi;obtain⟨w,hw⟩:=eA kY;have hxl:=ht x (Zi hx);have hr:cs[k]?=some (.ls 1 (tI x) false):=by rw[hgf,hx];rfl
     have hs:cs[i]?=some (.ls 1 (tI w) false):=by rw[hgf,hw];rfl
     have du:=gA hr
     have kC:=gA hs
     have eW:¬x=w:=hN i w x hw (by rw[<-hk];exact hx);have fe:=λb h=>fe b x w h hxl
     simp[cU,g0,g1,g5,hi,kY,dC,sA,du,kC,iL hk QJ,fe,eW,di QJ];exact⟨by omega,by rw[hk];simp⟩
    .simp[cU,g0,g5,hi]
   .rintro o fr hp hn ⟨rfl,cU,g0,hh⟩;simp only at cU g0 hh;subst hh;simp[cU,g0]
def Hm :Option (List Int)->List (List Int)
 |some t=> [t]
 |none=> []
structure vz (a:Am)(gc rc:LA)(L:List (List Int))(h:Hp):Prop where
 b0:At h 0 (.row gc)
 b1:At h 1 (.row (encA a))
 b2:At h 2 (.row rc)
 len:4<=h.length
 b3:∃y,At h 3 (.row [y])/\kP h 1 (iN L) y/\∀k n,y= .sl k 1 0 n false->4<=k
def vz.mono {a:Am}{gc rc:LA}{L:List (List Int)}{h h':Hp}(m:vz a gc rc L h)(hk:∀j,j<h.length->h'[j]?=h[j]?):vz a gc rc L h':=by
 have hl:=m.len;obtain⟨y,y1,y2,y3⟩:=m.b3;have e3:h'[3]?=some (.row [y]):=by rw[hk 3 (by omega)];exact y1
 refine⟨(hk 0 (by omega)).trans m.b0,(hk 1 (by omega)).trans m.b1,(hk 2 (by omega)).trans m.b2,(Za.1 e3).1,y,e3,?_,y3⟩;rcases y2 with⟨h1,h2⟩|⟨h1,id,h2,h3⟩
 .exact .inl ⟨h1,h2⟩
 .exact .inr ⟨h1,id,h2,by rw[hk id (Za.1 h3).1];exact h3⟩
def vz.app {a:Am}{gc rc:LA}{L:List (List Int)}{h:Hp}(m:vz a gc rc L h)(z:Hp):vz a gc rc L (h++z):=m.mono λj hj=>Zd hj
def aef (n:Nat)(b:Bool)(a:Am)(gc rc:LA)(L:List (List Int))(ids:List Int)(z:Bool)(h:Hp)(m:vz a gc rc L h)(eW:a.vs≠ [])(mY:a.vs.length<=1000000)(gG:ids.length=a.vs.length)(hL:L.length<=1000000):
 ∃h',cW cx (n+4) b 60 [.ls 1 (tI ids) z,.pt 1 0,.pt 3 0] h=some (.tp [],h')/\vz a gc rc (L++Hm (pK a.vs ids)) h':=by
 rw[K7 (n:=n+3) f60 []];have aa:=λb h=>aaR n b a ids z h eW mY gG
 obtain⟨y,y1,y2,y3⟩:=m.b3;have Ac:=m.b1;have hm3:=y1;unfold At at Ac hm3;have aj7:=m.b1.get;have hm3':=y1.get;have tw:=gB a;have Ao:(encA a).take 9=encA a:=Ys (by omega);have q3:=λ(ops:Array Oper) (d:Tmp) (rest:List Oper) (fr:LA) (h:Hp)=>kW (C:=cx) (cal:=cW cx (n+3) true) (ops:=ops) (λv=>y2.np v) d rest fr h
 generalize encA a=ea at aa Ac aj7 tw Ao;generalize n+3=M at aa q3|-;generalize tI ids=irows at aa|-;cases ht:pK a.vs ids with
 |
  none=>
  rw[ht]at aa;simp only[MJ]at aa;simp[f60,Ac,tw,Ao,aa,Hm];exact m
 |
  some t=>
  rw[ht]at aa;simp only[MJ]at aa;obtain⟨id,h3,b1,b2,b3,b4⟩:=gm (t:=55) xj rfl h [.ls 1 (tI t) false] (iN L) y y2 rfl (λr hr=>(oO _).1 r hr) (by omega) (by rw[fy];omega) (by omega);rw[fy]at b1;have hl4:=m.len;have k0:=b3 0 _ m.b0 λk n q=>by have:=y3 k n q;omega
  have k1:=b3 1 _ m.b1 λk n q=>by have:=y3 k n q;omega
  have k2:=b3 2 _ m.b2 λk n q=>by have:=y3 k n q;omega
  have k3:=b3 3 _ y1 λk n q=>by have:=y3 k n q;omega
  have k3':=gA k3
  generalize htr:tI t=iO at aa b1 b2;simp[f60,Ac,hm3,tw,Ao,aa,q3,Js,b1,k3,Hm];have jD:=(Za.1 b2).1;refine⟨?_,?_,?_,by simp;omega,.sl id 1 0 (L.length+1) false,?_,.inr ⟨by simp[iN],id,by simp[iN],?_⟩,λk n q=>by cases q;omega⟩
  .unfold At;rw[Zq (by omega)];exact k0
  .unfold At;rw[Zq (by omega)];exact k1
  .unfold At;rw[Zq (by omega)];exact k2
  .unfold At;rw[Zj (by omega)]
  .rw[Zq (by omega),b2,<-htr];simp[iN]
attribute [local simp] rq
def Rm (N D:Nat)(b:Bool)(v w:V)(h:Hp)(dv:fB v<=D)(dw:fB w<=D)(bv:gV v)(bw:gV w):cW cx (N+2*D+7) b 121 [.ag (enc v),.ag (enc w)] h=some (.sc (.int .i64 (rZ v w)),h):=by
 refine fZ f121 [.tmp 4] (aak v w) rfl ?_ b h;have aa:=λb h=>oR (N+2) D v dv bv b h
 have ae:=λb h=>oR (N+2) D w dw bw b h
 rw[show N+2+2*D+4=N+2*D+6 by omega]at aa ae;have af:jF v=true->jF w=true->∀b h,cW cx (N+2*D+6) b 194 [.ag (enc v),.ag (enc w)] h=some (.sc (.int .i64 (rZ v w)),h):=λa c b h=>adT D v w dv dw bv bw a c N b h
 have e0:v.k=0\/w.k=0\/jF v=false\/jF w=false->rZ v w=1:=λq=>by
  cases v;rw[rZ];exact dd q
 generalize rZ v w=E at af e0|-;unfold jB at aa ae;generalize jF v=p at *;generalize jF w=q at *;obtain⟨k,m,d,s,z,l⟩:=v;obtain⟨k',m',d',s',z',l'⟩:=w;simp only[V.k]at e0;simp only[enc]at aa ae af|-;generalize ql z (dN l)=L at *;generalize ql z' (dN l')=L' at *;by_cases k0:k=0
 .rw[e0 (.inl k0)];simp[f121,k0]
 .by_cases KT:k'=0
  .rw[e0 (.inr (.inl KT))];simp[f121,k0,KT]
  .cases p
   .rw[e0 (.inr (.inr (.inl rfl)))];simp[f121,k0,KT,aa]
   .cases q
    .rw[e0 (.inr (.inr (.inr rfl)))];simp[f121,k0,KT,aa,ae]
    .have af:=af rfl rfl;simp[f121,k0,KT,aa,ae,af]
end
section
attribute [local simp] zi da XM
structure TnB (D:Nat)(m:Nd)(p:Pr)(c:Ch):Prop where
 ll:m.labels.length<=1000000000000000
 pl:m.props.length<=1000000000000000
 pe:∀x∈m.props,x.v.l=[]
 ob:gV (Cn (jf m.props p.y))
 pd:fB p.v<=D
 pv:gV p.v
 cd:fB c.v<=D
 cv:gV c.v
def aaZ (v:V)(D:Nat):fB (Cn v)<=D+1:=by
 unfold Cn;simp[fB,Gw]
def OX {v:V}(h:jd v=true):v.l=[]/\v.k≠0:=by
 obtain⟨k,n,d,s,z,l⟩:=v;unfold jd jF at h;rw[pR]at h;simp only[Zh,Bool.or_eq_true,Zz,V.k,List.isEmpty_iff]at h;obtain⟨⟨⟨_,h1⟩,_⟩,h2⟩:=h;refine⟨?_,?_⟩
 .show l=[];rcases h1 with(q|q)|q
  .subst q;simp at h2
  .subst q;simp at h2
  .exact q
 .show k≠0;rintro rfl;simp at h2
def zK {l:List ByteArray}{p:List iP}(h:ie l p=0):∀x∈p,jd x.v=true:=by
 unfold ie at h;split at h
 .cases h
 .split at h
  .cases h
  .split at h
   .cases h
   .split at h
    .cases h
    .rename_i q;rw[Bool.not_eq_false]at q;exact λx hx=>Yr.1 q x hx
def Rn (l:List iP)(x:ByteArray):(jf l x=zeroV/\l.any (zq x)=false)\/∃c∈l,jf l x=c.v/\l.any (zq x)=true:=by
 induction l with
 |nil=>exact .inl ⟨rfl,rfl⟩
 |
  cons c l ih=>
  rw[jf,List.any_cons];by_cases h:kr c.key x=true
  .rw[dd h];exact .inr ⟨c,by simp,rfl,by unfold zq;rw[h];rfl⟩
  .have e:zq x c=false:=by unfold zq;simpa using h
   rw[db h,e,Bool.false_or];rcases ih with q|⟨d,hd,q⟩
   .exact .inl q
   .exact .inr ⟨d,by simp[hd],q⟩
def aa0 {v:V}(w:V)(h:v.l=[]):rZ (Cn v) w=rZ v w:=by
 obtain⟨k,n,d,s,z,l⟩:=v;have h:l=[]:=h;subst h;show rZ (.mk k n d s false []) w=_;have e:jF (.mk k n d s false [])=jF (.mk k n d s z []):=by unfold jF;rw[pR,pR]
 unfold rZ kj mg mh;rw[e];rfl
def aeg {v:V}(h:gV v):gV (Cn v):=by
 obtain⟨k,n,d,s,z,l⟩:=v;unfold Cn;rw[gV]at h|-;exact⟨h.1,Nat.zero_le _,by rw[Px];trivial⟩
def OY (c:Nd)(a:Am):[AV.ag (eo c),AV.ag (encA a)].all d_=true:=by
 rw[Zn,kp];rfl
def Ro {l:List iP}(h:∀c∈l,c.v.l=[])(x:ByteArray):(jf l x).l=[]:=by
 rcases Rn l x with⟨q,_⟩|⟨c,hc,q,_⟩
 .rw[q];rfl
 .rw[q];exact h c hc
def aa1 (N D:Nat)(b:Bool)(c:Nd)(a:Am)(h:Hp)(hl:c.labels.length<=1000000000000000)(hp:c.props.length<=1000000000000000)(hpb:KM D c.props)(pT:∀x∈c.props,x.v.l=[])(hd:fB a.v<=D)(hv:gV a.v):
 cW cx (N+2*D+8) b 63 [.ag (eo c),.ag (encA a)] h=some (.sc (.bool (xI c a)),h):=by
 refine fZ f63 [.tmp 4] (OY c a) rfl ?_ b h;have hD:1<=D:=by have:=gZ a.v;omega
 obtain⟨pd,pb⟩:=IY a.nm hpb hD;have aa:=λb h=>LD (N+2*D+4) b c a.nm h hl
 have ae:=λb h=>adV (N+2*D+4) b c.props false a.nm h hp pT
 have af:=λb h=>Rm N D b (Cn (jf c.props a.nm)) a.v h (by have:=aaZ (jf c.props a.nm) (D-1);omega) hd (aeg pb) hv
 rw[aa0 a.v (Ro pT a.nm)]at af;rw[show N+2*D+4+3=N+2*D+7 by omega]at aa ae;generalize enc (Cn (jf c.props a.nm))=pe at ae af;have eM:=gB a;unfold xI;generalize oI c.labels a.nm=hs at aa|-;generalize rZ (jf c.props a.nm) a.v=e at af|-;unfold eo encA iK iE at *;generalize N+2*D+7=M at aa ae af|-;generalize tI a.vs=cY at eM|-;generalize gP a.ts=iO at eM|-;generalize gP c.labels=Jo at aa|-;generalize iy c.props=acp at aa ae|-;generalize aeb:enc a.v=ev at eM af|-;simp only[Yw]at eM;have eM:ev.length=5:=by omega
 have nk:ev.take 5=ev:=Ys (by omega);generalize hk:a.k=k;generalize a.nm=nm at aa ae|-;by_cases h1:k=1
 .subst h1;simp[f63,eM,aa]
 .by_cases h2:k=2
  .subst h2;by_cases he:e=2<;>simp[f63,eM,nk,ae,af,he]
  .simp[f63,eM,h1,h2]
def aa2 (N D:Nat)(b:Bool)(c:Nd)(a:Am)(h:Hp)(hl:c.labels.length<=1000000000000000)(hp:c.props.length<=1000000000000000)(hpb:KM D c.props)(pT:∀x∈c.props,x.v.l=[])(hd:fB a.v<=D)(hv:gV a.v):
 cW cx (N+2*D+7) b 72 [.ag (eo c),.ag (encA a)] h=some (.sc (.bool (xI c a)),h):=by
 refine fZ f72 [.tmp 4] (OY c a) rfl ?_ b h;have hD:1<=D:=by have:=gZ a.v;omega
 obtain⟨pd,pb⟩:=IY a.nm hpb hD;have aa:=λb h=>mO (N+2*D+4) b c a.nm h hl
 have ae:=λb h=>T7 (N+2*D+5) b c.props false a.nm h hp
 have af:=λb h=>Qy N D b (jf c.props a.nm) a.v h pd hd pb hv
 rw[show N+2*D+4+2=N+2*D+6 by omega]at aa;rw[show N+2*D+5+1=N+2*D+6 by omega]at ae;generalize enc (jf c.props a.nm)=pe at ae af;have eM:=gB a;unfold xI;generalize oI c.labels a.nm=hs at aa|-;generalize rZ (jf c.props a.nm) a.v=e at af|-;unfold eo encA iK iE at *;generalize N+2*D+6=M at aa ae af|-;generalize tI a.vs=cY at eM|-;generalize gP a.ts=iO at eM|-;generalize gP c.labels=Jo at aa|-;generalize iy c.props=acp at aa ae|-;generalize aeb:enc a.v=ev at eM af|-;simp only[Yw]at eM;have eM:ev.length=5:=by omega
 have nk:ev.take 5=ev:=Ys (by omega);generalize hk:a.k=k;generalize a.nm=nm at aa ae|-;by_cases h1:k=1
 .subst h1;simp[f72,eM,aa]
 .by_cases h2:k=2
  .subst h2;by_cases he:e=2<;>simp[f72,eM,nk,ae,af,he]
  .simp[f72,eM,h1,h2]
def Wj (n:Nat)(b:Bool)(x:ByteArray)(h:Hp):cW cx (n+3) b 117 [.sc (.string x)] h=some (.sc (.bool (!jo x)),h):=by
 refine fZ f117 [.tmp 2] rfl rfl ?_ b h;have hc:=λb h=>Bk n b x h
 cases hk:jo x<;>simp[f117,hc,hk]
def vA (n:Nat)(b:Bool)(l:List ByteArray)(z:Bool)(h:Hp)(hl:l.length<=1000000000000000):cW cx (n+4) b 192 [iK l z,.fn 117 []] h=some (.sc (.int .i64 (lT l 0)),h):=by
 refine fZ f192 [.tmp 4] rfl rfl ?_ b h;have hq:=dG l;have hg:=kF l;have fq:=λb x h=>Wj n b x h
 unfold iK;generalize gP l=cY at hq hg;simp[f192,hq];refine lS
  (λi s _=>lT l 0=lT l i/\s.length=19/\gt s 0= .ls 1 cY z/\gt s 1= .fn 117 []/\gt s 7=l.length/\gt s 8=i)
  (λo s _=>s.length=19/\((o= .exit 0/\lT l 0= -1)\/(o= .ret/\gt s 4= .sc (.int .i64 (lT l 0))))) l.length (by simp;omega) (by simp) ?_ ?_
 .rintro i fr h eG ⟨ho,cU,h0,h1,h7,h8⟩;by_cases hi:i<l.length
  .obtain⟨x,hx⟩:=eA hi;have hr:cY[i]?=some [.sc (.string x)]:=by rw[hg,hx];rfl
   have du:=gA hr
   rw[Bn hx]at ho;have nM:=λb h=>fq b x h
   have hf:dM .i64 ((i:Int)+1)=((i+1:Nat):Int):=dh (by omega) (by omega);cases hk:jo x
   .rw[db (by rw[hk];simp)]at ho;simp[cU,h0,h1,h7,h8,hi,hq,du,nM,hk,ho]
   .rw[dd hk]at ho;simp[cU,h0,h1,h7,h8,hi,hq,du,nM,hk,hf];exact ho
  .have zz:lT l 0= -1:=by rw[ho,Eh l i (by omega)]
   simp[cU,h7,h8,hi,zz]
 .rintro o fr h hn ⟨cU,⟨rfl,hz⟩|⟨rfl,h2⟩⟩
  .simp[cU,hz]
  .simp[h2]
def sW (n:Nat)(b:Bool)(l:List ByteArray)(z:Bool)(h:Hp)(hl:l.length<=1000000000000000):cW cx (n+5) b 116 [iK l z,.fn 117 []] h=some (.sc (.bool (!fg l)),h):=by
 refine fZ f116 [.tmp 4] rfl rfl ?_ b h;have hc:=λb h=>vA n b l z h hl
 have hw:=Bm l 0;change(0<=lT l 0)=_ at hw;unfold iK at hc|-;generalize lT l 0=w at hc hw;cases hk:fg l
 .have:0<=w:=hw.mpr hk;simp[f116,hc,this]
 .have:¬0<=w:=λq=>by rw[hw.mp q]at hk;cases hk
  simp[f116,hc,this]
def aa3 (n:Nat)(b:Bool)(a:Am)(h:Hp)(hl:a.ts.length<=1000000000000000):cW cx (n+6) b 59 [.ag (encA a)] h=some (.sc (.bool (yU a)),h):=by
 refine fZ f59 [.tmp 2] (kp a) rfl ?_ b h;have aa:=λb h=>Bk (n+3) b a.nm h
 have ae:=λb h=>sW n b a.ts false h hl
 rw[show n+3+2=n+5 by omega]at aa;have eM:=gB a;unfold yU;unfold encA iK at *;generalize n+5=M at aa ae|-;generalize tI a.vs=cY at eM|-;generalize gP a.ts=iO at eM ae|-;generalize enc a.v=ev at eM|-;simp only[Yw]at eM;have eM:ev.length=5:=by omega
 generalize hk:a.k=k;generalize fg a.ts=c at ae|-;generalize jo a.nm=d at aa|-;by_cases h1:k=1
 .subst h1;cases d<;>simp[f59,eM,aa,ae]
 .by_cases h2:k=2
  .subst h2;cases d<;>simp[f59,eM,aa,ae]
  .simp[f59,eM,ae,h1,h2]
def aa4 (n:Nat)(b:Bool)(a:Am)(h:Hp)(hl:a.ts.length<=1000000000000000):cW cx (n+3) b 40 [.ag (encA a)] h=some (.sc (.bool (yU a)),h):=by
 refine fZ f40 [.tmp 2] (kp a) rfl ?_ b h;have aa:=λb h=>tS n b a.nm h
 have fc:=λb x h=>tS n b x h
 have eM:=gB a;have hq:=dG a.ts;have hg:=kF a.ts;unfold yU;unfold encA iK at *;generalize n+2=M at aa fc|-;generalize tI a.vs=cY at eM|-;generalize gP a.ts=iO at eM hq hg|-;generalize enc a.v=ev at eM|-;simp only[Yw]at eM;have eM:ev.length=5:=by omega
 generalize hk:a.k=k;generalize a.nm=nm at aa|-;generalize a.ts=l at hl hq hg|-;simp[f40,eM];refine lS
  (λi s iR=>fg l=qB l i/\s.length=31/\gt s 1= .pt 0 0/\gt s 3=i/\iR=[.row (.sc (.int .i64 k):: .ls 1 cY false:: .sc (.string nm):: .ls 1 iO false::ev)])
  (λo s iR=>s.length=31/\((o= .exit 0/\fg l=true/\gt s 1= .pt 0 0/\iR=[.row (.sc (.int .i64 k):: .ls 1 cY false:: .sc (.string nm):: .ls 1 iO false::ev)])\/(o= .ret/\fg l=false/\gt s 2=false))) l.length (by simp;omega) (by exact ⟨rfl,rfl,rfl,rfl,rfl⟩) ?_ ?_
 .rintro i fr hp eG ⟨ho,cU,g1,g3,hh⟩;subst hh;by_cases hi:i<l.length
  .obtain⟨x,hx⟩:=eA hi;have hr:iO[i]?=some [.sc (.string x)]:=by rw[hg,hx];rfl
   have du:=gA hr
   have nM:=λb h=>fc b x h
   have hf:=di (i:=i) (by omega);rw[zm hx]at ho;cases hk:jo x
   .have zz:fg l=false:=by rw[ho,hk];rfl
    clear ho;simp[cU,g1,g3,eM,hi,hq,du,nM,hk,zz]
   .have zz:fg l=qB l (i+1):=by rw[ho,hk];rfl
    clear ho;simp[cU,g1,g3,eM,hi,hq,du,nM,hk,hf];exact zz
  .have zz:fg l=true:=by rw[ho,Bl l i (by omega)]
   simp[cU,g1,g3,eM,hi,hq,zz]
 .rintro o fr h hn ⟨cU,⟨rfl,hz,g1,hh⟩|⟨rfl,hz,h2⟩⟩
  .subst hh;rw[hz];by_cases h1:k=1
   .subst h1;simp[cU,g1,eM,aa]
   .by_cases h2:k=2
    .subst h2;simp[cU,g1,eM,aa]
    .simp[cU,g1,eM,h1,h2]
  .simp[h2,hz]
def MP (n:Nat)(b:Bool)(l:List ByteArray)(z:Bool)(h:Hp)(hl:l.length<=1000000000000000):cW cx (n+1) b 81 [iK l z] h=some (.sc (.bool (dZ l)),h):=by
 refine fZ f81 [.tmp 2] rfl rfl ?_ b h;have hq:=dG l;have hg:=kF l;unfold iK;generalize gP l=cY at hq hg;simp[f81];refine lS
  (λj s _=>dZ l=lL l j/\(j+1<=l.length\/j=0)/\s.length=20/\gt s 0= .ls 1 cY z/\gt s 3= .sc (.int .i64 (j+1:Nat)))
  (λo s _=>s.length=20/\((o= .exit 0/\dZ l=true)\/(o= .ret/\dZ l=false/\gt s 2=false))) l.length (by simp;omega) (by simp[lL]) ?_ ?_
 .rintro j fr h eG ⟨ho,hj,cU,h0,h3⟩;by_cases hi:j+1<l.length
  .obtain⟨x,hx⟩:∃c,l[j]?=some c:=⟨_,Zb (by omega)⟩;obtain⟨y,hy⟩:=eA hi;have hr:cY[j]?=some [.sc (.string x)]:=by rw[hg,hx];rfl
   have r9:cY[j+1]?=some [.sc (.string y)]:=by rw[hg,hy];rfl
   have du:=gA hr
   have lK:=gA r9
   rw[qm hx hy]at ho;have eG:=TL x y;have hf:dM .i64 (((j+1:Nat):Int)+1)=((j+1+1:Nat):Int):=dh (by omega) (by omega);have Ee:dM .i64 (((j+1:Nat):Int)-1)=((j:Nat):Int):=by rw[dh (by omega) (by omega)];omega
   generalize hjj:((j+1:Nat):Int)=J at h3 hf Ee;have NV:J.toNat=j+1:=by omega
   have NW:0<=J:=by omega
   have tT:J< (l.length:Int):=by omega
   cases dY:nZ x y
   .have zz:dZ l=false:=by rw[ho,dY];rfl
    clear ho;rw[dY]at eG;simp[cU,h0,h3,NV,NW,tT,hq,hr,r9,Ee,eG,zz]
   .have zz:dZ l=lL l (j+1):=by rw[ho,dY];rfl
    clear ho;rw[dY]at eG;simp[cU,h0,h3,NV,NW,tT,hq,hr,r9,Ee,eG,hf];exact⟨by omega,zz,by omega⟩
  .have zz:dZ l=true:=by rw[ho,sq l j (by omega)]
   have tT:¬((j+1:Nat):Int)< (l.length:Int):=by omega
   generalize((j+1:Nat):Int)=J at h3 tT;simp[cU,h0,h3,tT,hq,zz]
 .rintro o fr h hn ⟨cU,⟨rfl,hz⟩|⟨rfl,hz,h2⟩⟩
  .simp[cU,hz]
  .simp[h2,hz]
def Rq (n:Nat)(b:Bool)(h:Hp):cW cx (n+1) b 83 [] h=some (.ag (enc zeroV),h):=by
 refine fZ f83 [.cell 0 5 true] rfl rfl ?_ b h;simp[f83,zeroV,enc,dN,ql]
def Wk (N D:Nat)(b:Bool)(a:Am)(h:Hp)(hd:fB a.v<=D)(hv:gV a.v)(tW:a.ts.length<=1000000000000000):cW cx (N+3*D+7) b 37 [.ag (encA a)] h=some (.sc (.bool (Jy a)),h):=by
 refine fZ f37 [.tmp 2] (kp a) rfl ?_ b h;have hz:fB zeroV<=D:=Yn (by show 1<=fB a.v;have:=gZ a.v;omega) hd;have aa:=λb h=>aaL (N+3*D+5) b a.k h
 have ae:=λb h=>MP (N+3*D+5) b a.ts false h tW
 have af:=λb h=>K6 D a.v zeroV hd hz hv tZ N b h
 have ah:=λb h=>Rq (N+3*D+5) b h
 have ai:=λb h=>yq (N+D+1) D a.v hd hv b h
 rw[show N+D+1+2*D+5=N+3*D+6 by omega]at ai;rw[show N+3*D+5+1=N+3*D+6 by omega]at aa ae ah;unfold Jy V6 Cw;generalize j6 a.v zeroV=r at af;generalize jd a.v=pv at ai;generalize dZ a.ts=rs at ae;generalize hAC:DF a.k=ac at aa|-;have hq:=dG a.ts;have zJ:=dU a.vs;have eM:=gB a;simp only[zeroV,enc,dN,ql,Qa,Bool.and_self,cond_true]at af ah;unfold encA iK at *;generalize N+3*D+6=M at aa ae af ah ai|-;generalize tI a.vs=cY at eM zJ|-;generalize gP a.ts=iO at eM ae hq|-;generalize enc a.v=ev at eM af ai|-;simp only[Yw]at eM;have eM:ev.length=5:=by omega
 generalize a.k=k at aa hAC|-;generalize a.nm=nm;generalize a.vs.length=vl at zJ|-;generalize a.ts.length=tl at hq|-;have nk:ev.take 5=ev:=Ys (by omega);by_cases h1:ac=(vl:Int)
 .have SN:k=1\/k=2\/k=4\/k=3:=by
   rw[h1]at hAC;unfold DF at hAC
   (repeat' split at hAC)<;>omega
  clear hAC;cases rs
  .simp[f37,eM,aa,ae,zJ,h1]
  .rcases SN with rfl|rfl|rfl|rfl
   .by_cases ht:0<tl<;>simp[f37,eM,nk,aa,ae,af,ah,zJ,hq,h1,ht]
   .by_cases ht:0<tl<;>simp[f37,eM,nk,aa,ae,af,ah,ai,zJ,hq,h1,ht]
   .by_cases ht:0<tl
    .simp[f37,eM,nk,aa,ae,af,ah,zJ,hq,h1,ht]
    .cases eW:kr nm ⟨#[]⟩<;>simp[f37,eM,nk,aa,ae,af,ah,zJ,hq,h1,ht,eW]
   .cases eW:kr nm ⟨#[]⟩<;>simp[f37,eM,nk,aa,ae,af,ah,zJ,h1,eW]
 .simp[f37,eM,aa,zJ,h1]
def aa5 (N D:Nat)(b:Bool)(a:Am)(h:Hp)(hd:fB a.v<=D)(hv:gV a.v)(mY:a.vs.length<=1000000)(tW:a.ts.length<=1000000000000000):cW cx (N+2*D+8) b 58 [.ag (encA a)] h=some (.sc (.bool (lY a)),h):=by
 refine fZ f58 [.tmp 2] (kp a) rfl ?_ b h;have hz:fB zeroV<=D:=Yn (by show 1<=fB a.v;have:=gZ a.v;omega) hd;have aa:=λb h=>aaK (N+2*D+6) b a.k h
 have ae:=λx l b h (hl:l.length<=1000000)=>agI (N+2*D+6) b x l false h hl
 have af:=λb h=>yp (N+2) D a.v hd hv b h
 have ah:=λb h=>tP D a.v zeroV hd hz hv tZ N b h
 rw[show N+2+2*D+5=N+2*D+7 by omega]at af;rw[show N+2*D+6+1=N+2*D+7 by omega]at aa ae;have eM:=gB a;obtain⟨k,vs,nm,ts,v⟩:=a;simp only at aa af ah mY tW;have hq:=dG ts;have hg:=kF ts;have zJ:=dU vs;unfold lY V6 Cw;simp only;generalize j6 v zeroV=r at ah;generalize jd v=pv at af;simp only[zeroV,enc,dN,ql,Qa,Bool.and_self,cond_true]at ah;unfold encA iK at *;simp only at eM|-;generalize hME:N+2*D+7=M at aa ae af ah|-;generalize gP ts=iO at eM hq hg|-;generalize enc v=ev at eM af ah|-;simp only[Yw]at eM;have eM:ev.length=5:=by omega
 have nk:ev.take 5=ev:=Ys (by omega);by_cases h0:sO k=0
 .rw[h0]at aa;simp[f58,eM,aa,h0]
 generalize hA:sO k=A at *;have SN:k=1\/k=2\/k=4\/k=3:=by
  unfold sO at hA
  (repeat' split at hA)<;>omega
 by_cases h1:A=(vs.length:Int)
 case neg=>
  have zH:¬((vs.length:Nat):Int)=A:=λe=>h1 e.symm
  generalize tI vs=cY at zJ|-;simp[f58,eM,aa,h0,h1,zH,zJ]
 obtain⟨x,l,rfl⟩:∃x l,vs=x::l:=by
  cases vs with
  |nil=>rw[Xa]at h1;exact absurd h1 h0
  |cons x l=>exact⟨x,l,rfl⟩
 have ae:=λb h=>ae x l b h (by rw[Yw]at mY;omega)
 generalize VT (x::l)=mn at ae|-;generalize tI (x::l)=cY at ae zJ|-;generalize hL:(x::l).length=vl at zJ h1 mY|-;subst h1;clear hA;by_cases hm:0<=mn
 case neg=>
  have yG:mn<0:=by omega
  have Ft:¬vl=0:=λe=>h0 (by rw[e];rfl)
  simp[f58,eM,aa,Ft,zJ,ae,hm,yG]
 have yG:¬mn<0:=by omega
 have Ft:¬vl=0:=λe=>h0 (by rw[e];rfl)
 have rD:0<ts.length\/ts.length=0:=by omega
 rcases SN with rfl|rfl|rfl|rfl<;>rcases rD with ht|ht<;>cases eW:kr nm ⟨#[]⟩<;>simp[f58,eM,nk,aa,Ft,zJ,ae,hm,yG,hq,ht,eW,af]
 all_goals
  refine lS
   (λj s iR=>dZ ts=lL ts j/\(j+1<=ts.length\/j=0)/\s.length=77/\gt s 1= .pt 0 0/\gt s 4= .sc (.int .i64 ((j+1:Nat):Int))/\∃kk:Int,At iR 0 (.row (.sc (.int .i64 kk):: .ls 1 cY false:: .sc (.string nm):: .ls 1 iO false::ev)))
   (λo s iR=>s.length=77/\((o= .exit 0/\dZ ts=true/\gt s 1= .pt 0 0/\∃kk:Int,At iR 0 (.row (.sc (.int .i64 kk):: .ls 1 cY false:: .sc (.string nm):: .ls 1 iO false::ev)))\/(o= .ret/\dZ ts=false/\gt s 2=false))) ts.length (by simp;omega) (by exact ⟨rfl,by omega,rfl,rfl,rfl,_,rfl⟩) ?_ ?_
  .rintro j fr hp eG ⟨ho,hj,cU,h1,h4,kk,hh⟩;have xC:=hh;unfold At at xC;have hh1:=hh.get;obtain⟨q,hqj⟩:∃q,q=j+1:=⟨_,rfl⟩;rw[<-hqj]at h4;have hq6:q<=1000000000000000:=by clear hm yG mY h0 Ft zJ;omega
   by_cases hi:q<ts.length
   .obtain⟨x,hx⟩:∃c,ts[j]?=some c:=⟨_,Zb (by omega)⟩;obtain⟨y,hy⟩:=eA hi;have jU:j<ts.length:=by omega
    have hr:iO[j]?=some [.sc (.string x)]:=by rw[hg,hx];rfl
    have r9:iO[q]?=some [.sc (.string y)]:=by rw[hg,hy];rfl
    have du:=gA hr
    have lK:=gA r9
    rw[qm hx (by rw[<-hqj];exact hy)]at ho;cases dY:nZ x y
    .have zz:dZ ts=false:=by rw[ho,dY];rfl
     clear ho;simp[cU,h1,h4,xC,eM,hi,jU,hq,du,lK,iL hqj hq6,dY,zz]
    .have zz:dZ ts=lL ts (j+1):=by rw[ho,dY];rfl
     clear ho;simp[cU,h1,h4,xC,eM,hi,jU,hq,du,lK,iL hqj hq6,dY,di hq6]
     first
      |exact⟨by omega,by omega,by omega,kk,hh⟩
      |exact⟨zz,by omega,by omega,kk,hh⟩
      |exact⟨by omega,zz,by omega,by omega,kk,hh⟩
      |exact⟨by omega,zz,.inl (by omega),by omega,kk,hh⟩
   .have zz:dZ ts=true:=by rw[ho,sq ts j (by omega)]
    simp[cU,h1,h4,xC,eM,hi,hq,zz];exact⟨kk,hh⟩
  .rintro o fr hp hn ⟨cU,⟨rfl,hz2,h1,kk,hh⟩|⟨rfl,hz2,h2⟩⟩
   .have xC:=hh;unfold At at xC;have hh1:=hh.get;by_cases hr:r=0<;>simp[cU,h1,xC,eM,nk,ah,hr,hz2]
   .simp[h2,hz2]
end
section
attribute [local simp] zi XM
def JE {f:FuncId}{args:LA}{n:Nat}(bad:Nat->Bool)(r0:AV)(fi:Fi)(hF:cx.F f=some fi)(iG:I3 cx bad fi.body=true)(hs:cx.ox f=none)(hi:cx.inl f=false)(hl:args.length<=fi.ntmps)(hc:args.all d_=true)
 (hb:∃r h',eQ fi.res (gM cx (cW cx n) bad fi.body (args++List.replicate (fi.ntmps-args.length) .un,[]))=some (r,h')/\∃r',Ae.dq h' 8 r=some r'/\wI (kx f) r'=r0) (ht:(vM f && !Dw f && !Mr f)=true:=by decide) (b:Bool) (h:Hp):cW cx (n+1) b f args h=some (r0,h):=by
 obtain⟨r,h',hb,r',hr,hR⟩:=hb;simp only[Zh,Xc]at ht;have:=nD (C:=cx) hs hi (rv ht.1.1) hc (by rw[yK hF iG hl];exact hb) hr b h;rw[this];show some (LS f r',h)=_;unfold LS;rw[ht.1.2,ht.2];simp[hR]
def vz.sort {a:Am}{gc rc:LA}{L r:List (List Int)}{h h':Hp}{y:AV}(m:vz a gc rc L h)(y1:At h 3 (.row [y]))(y3:∀k n,y= .sl k 1 0 n false->4<=k)(hb:kP h' 1 (iN r) y)(hk:∀j,(∀k n,y= .sl k 1 0 n false->j≠k)->h'[j]?=h[j]?):vz a gc rc r h':=by
 have q:∀j,j<4->h'[j]?=h[j]?:=λj hj=>hk j λk n e=>by have:=y3 k n e;omega
 have e3:h'[3]?=some (.row [y]):=by rw[q 3 (by omega)];exact y1
 exact⟨(q 0 (by omega)).trans m.b0,(q 1 (by omega)).trans m.b1,(q 2 (by omega)).trans m.b2,(Za.1 e3).1,y,e3,hb,y3⟩
def vP (g:Gr)(a:Am):Prop:=gN g=0/\lY a=true/\yU a=true
instance (g :Gr)(a:Am):Decidable (vP g a):=by unfold vP;infer_instance
def yZ (g:Gr)(a:Am):AV:= .ag [.sc (.int .i64 (if vP g a then((eu a.vs).length:Int)else 0)),.ls 1 (iN (iW g a)) false]
def OZ (g:Gr)(a:Am):[AV.ag (dn g),AV.ag (encA a)].all d_=true:=by
 rw[Zn,kp];rfl
def aj8 (a b c:AV):chunk 1 3 [a,b,c]=[[a],[b],[c]]:=rfl
def aj9 (a:AV):chunk 1 1 [a]=[[a]]:=rfl
def Wl (l:List Int):tH (tI l) (tI l)=true:=rM λr hr=>by
 obtain⟨c,_,rfl⟩:=Yi.1 hr;simp[p8,mZ,jI,Ae.rZ]
def agP (a b c x y z:AV):da [a,b,c] 0 [x,y,z]=[x,y,z]:=rfl
def wo (a b x y:AV):da [a,b] 0 [x,y]=[x,y]:=rfl
def agQ (N D:Nat)(b:Bool)(g:Gr)(a:Am)(h:Hp)(hb:AX D g)(hd:fB a.v<=D)(hv:gV a.v)(mY:a.vs.length<=1000000)(tW:a.ts.length<=1000000000000000):
 cW cx (N+2*D+9) b 29 [.ag (dn g),.ag (encA a)] h=some (yZ g a,h):=by
 refine JE (f:=29) (n:=N+2*D+8) (args:=[.ag (dn g),.ag (encA a)]) (λi=>i==19) (yZ g a) ⟨f29.ntmps,(f29.body).getD .skip,[.cell 4 2 true]⟩ (by kernel_rfl) (by kernel_rfl) rfl (by kernel_rfl) (by simp[f29]) (OZ g a) ?_ (by decide) b h;have mi:kx 29=8:=by decide
 rw[mi];have aa:=λb h=>N7 N D b g h hb
 have ae:=λb h=>aa5 N D b a h hd hv mY tW
 have af:=λb h=>aa3 (N+2*D+2) b a h tW
 have fht:=λe b h=>Q2 (N+2*D+5) b e a.ts h tW
 have Rr:=λc b h (hl:c.labels.length<=1000000000000000) (hp:c.props.length<=1000000000000000) (hpb:KM D c.props) (pT:∀x∈c.props,x.v.l=[])=>aa1 N D b c a h hl hp hpb pT hd hv
 have lX:=λgc rc L ids z h m eW mY gG hL=>aef (N+2*D+4) true a gc rc L ids z h m eW mY gG hL
 have GB:=λeW b h=>VY (N+2*D+6) b a h eW mY
 have fso:=λL y h hy hl ht=>aaX (N+2*D+4) true L y h hy hl ht
 have fco:=λb L y h hy hN hl ht=>aaY (N+2*D+6) b L y h hy hN hl ht
 rw[show N+2*D+2+6=N+2*D+8 by omega]at af;rw[show N+2*D+5+3=N+2*D+8 by omega]at fht;rw[show N+2*D+4+4=N+2*D+8 by omega]at lX fso;rw[show N+2*D+6+2=N+2*D+8 by omega]at GB fco;generalize N+2*D+8=M at aa ae af fht Rr lX GB fso fco|-;have eM:=gB a;by_cases iG:vP g a
 case neg=>
  have hrv:yZ g a= .ag [(0:Int),.ls 1 [] false]:=by
   unfold yZ iW;have MQ:¬(gN g=0/\lY a=true/\yU a=true):=iG;rw[db iG,db MQ];rfl
  rw[hrv];unfold vP at iG;unfold dn encA iK gh gE at *;generalize enc a.v=ev at *;simp only[Yw]at eM;have eM:ev.length=5:=by omega
  have nk:ev.take 5=ev:=Ys (by omega);generalize tI a.vs=cY at *;generalize gP a.ts=iO at *;by_cases h1:gN g=0
  .cases h2:lY a
   .rw[h2]at ae;simp[f29,eM,nk,aa,ae,h1,wo];exact gz ⟨_,rfl,rfl⟩
   .rw[h2]at ae;have h3:yU a=false:=by
     cases q:yU a
     .rfl
     .exact absurd ⟨h1,h2,q⟩ iG
    rw[h3]at af;simp[f29,eM,nk,aa,ae,af,h1,wo];exact gz ⟨_,rfl,rfl⟩
  .simp[f29,eM,aa,h1,wo];exact gz ⟨_,rfl,rfl⟩
 have hrv:yZ g a= .ag [.sc (.int .i64 ((eu a.vs).length:Nat)),.ls 1 (iN (gd gq (lh g a))) false]:=by
  have MQ:gN g=0/\lY a=true/\yU a=true:=iG;unfold yZ iW;rw[dd iG,dd MQ]
 obtain⟨h1,h2,h3⟩:=iG;rw[hrv];clear hrv;have AO:=Ew h1;have g_:=uz h2;have eW:a.vs≠ []:=λq=>by rw[q]at g_;rcases g_ with q|q<;>simp at q
 rw[h1]at aa;rw[h2]at ae;rw[h3]at af;have GB:=GB eW;have hup:=λ(r:List (List Int)) (hp:r.Perm (lh g a)) ho=>ad9 AO h2 hp ho
 have nC:=yV AO a;have fX:=yX (g:=g) h2;have tq:=fJ g.nodes;have ZJ:=mM g.nodes;have qD:=fU g.cZ;have rS:=mN g.cZ;have AW:=dU (eu a.vs);unfold dn gh gE at *;have SZ:encA a= .sc (.int .i64 a.k):: .ls 1 (tI a.vs) false:: .sc (.string a.nm):: .ls 1 (gP a.ts) false::enc a.v:=rfl;rw[SZ]at ae af GB eM|-;have Rr:∀c∈g.nodes,∀b h,cW cx M b 63 [.ag (eo c),.ag (.sc (.int .i64 a.k):: .ls 1 (tI a.vs) false:: .sc (.string a.nm):: .ls 1 (gP a.ts) false::enc a.v)] h=some (.sc (.bool (xI c a)),h):=λc hc b h=>by
  obtain⟨n1,n2,n3⟩:=hb.ns c hc;rw[<-SZ];exact Rr c b h n1 n2 n3 λx hx=>(OX (zK (AO.np c hc) x hx)).1
 unfold iK at fht;have s7:vz a [.ls 3 (lU g.nodes) false,.ls 5 (mA g.cZ) false,g.nn,g.ne] [(0:Int),()] [] [.row [.ls 3 (lU g.nodes) false,.ls 5 (mA g.cZ) false,g.nn,g.ne],.row (.sc (.int .i64 a.k):: .ls 1 (tI a.vs) false:: .sc (.string a.nm):: .ls 1 (gP a.ts) false::enc a.v),.row [(0:Int),()],.row [()]]:=
  ⟨rfl,rfl,rfl,by simp,_,rfl,.inl ⟨rfl,rfl⟩,λk n q=>by cases q⟩
 have qt:=OV a.ts;have qi:=Wl a.vs;have qv:=Wl (eu a.vs);have qe:=OT a.v;have hcs:∀v,d_ (.sc v)=true:=λv=>rfl
 generalize O0:([.ls 3 (lU g.nodes) false,.ls 5 (mA g.cZ) false,.sc (.int .i64 g.nn),.sc (.int .i64 g.ne)]:LA)=gc at *;generalize aeb:enc a.v=ev at *;simp only[Yw]at eM;have eM:ev.length=5:=by omega
 have nk:ev.take 5=ev:=Ys (by omega);have EB:gc.length=4:=by rw[<-O0];rfl
 have tQ:gc.take 4=gc:=Ys (by omega);have hg0:gc[0]?=some (.ls 3 (lU g.nodes) false):=by rw[<-O0];rfl
 have hg1:gc[1]?=some (.ls 5 (mA g.cZ) false):=by rw[<-O0];rfl
 have Wm:=gA hg0
 have Rs:=gA hg1
 clear O0;generalize lU g.nodes=jW at *;generalize mA g.cZ=h_ at *;generalize gP a.ts=iO at *;generalize tI (eu a.vs)=Cy at *;by_cases hk:a.k=3
 .have aa6:a.vs.length=3:=by rcases g_ with q|q<;>omega
  have hrF:lh g a=g.cZ.filterMap (ke a):=by unfold lh;rw[dd hk]
  rw[hrF]at hup nC fX|-;rw[hk]at ae af GB s7|-;rw[hk]at SZ;simp[f29,eM,nk,EB,tQ,Rs,aa,ae,af,qD];refine mS (C:=cx) (G:=λr=>∃r0 h',eQ _ (qw _ _ _ (dL _ r) _)=some (r0,h')/\∃r',Ae.dq h' 8 r0=some r'/\wI 8 r'= .ag [.sc (.int .i64 ((eu a.vs).length:Nat)),.ls 1 (iN (gd gq (g.cZ.filterMap (ke a)))) false])
   (λi s=>i<=g.cZ.length/\s.1.length=74/\gt s.1 3= .pt 1 0/\gt s.1 4= .pt 2 0/\gt s.1 5= .pt 3 0/\gt s.1 6= .fn 60 [.pt 1 0,.pt 3 0]/\gt s.1 30= .ls 5 h_ false/\gt s.1 31=g.cZ.length/\gt s.1 32=i/\vz a gc [(0:Int),()] ((g.cZ.take i).filterMap (ke a)) s.2)
   (λo s=>o= .exit 0/\s.1.length=74/\gt s.1 3= .pt 1 0/\gt s.1 4= .pt 2 0/\gt s.1 5= .pt 3 0/\vz a gc [(0:Int),()] (g.cZ.filterMap (ke a)) s.2) g.cZ.length (by have:=AO.el;simp;omega) ?_ ?_ ?_
  .exact⟨by omega,rfl,rfl,rfl,rfl,rfl,rfl,rfl,rfl,s7⟩
  .rintro i fr hp _ ⟨kY,cU,g3,g4,g5,g6,g30,g31,g32,m⟩;simp only at cU g3 g4 g5 g6 g30 g31 g32 m;have Bu:=AO.el;have mj:i<=1000000000000000:=by omega
   by_cases hi:i<g.cZ.length
   .obtain⟨e,he⟩:=eA hi;have hr:h_[i]?=some (eY e):=by rw[rS,he];rfl
    have du:=gA hr
    have dD:(g.cZ.take (i+1)).filterMap (ke a)=(g.cZ.take i).filterMap (ke a)++Hm (ke a e):=by
     rw[Yx,he,List.filterMap_append];cases q:ke a e<;>simp[Hm,q]
    have hLl:((g.cZ.take i).filterMap (ke a)).length<=1000000:=by
     have:=List.length_filterMap_le (ke a) (g.cZ.take i);rw[Yy]at this;omega
    have ft:=λb h=>fht e b h
    have m1:=m.app [.row (eY e)];have z2:=λz=>((m.app [z]).b1).vg
    have IZ:=λz=>((m.app [z]).b1).get
    rw[SZ]at z2;simp only[SZ]at IZ;have an:∀y:fp,(hp++[y])[hp.length]?=some y:=λy=>by simp
    cases hh:htS e a.ts
    .have hed:ke a e=none:=by unfold ke;rw[hh];rfl
     rw[hh]at ft;rw[hed]at dD;unfold eY iE at hr du ft m1;simp[cU,g3,g4,g5,g6,g30,g31,g32,hi,qD,du,aaW,z2,eM,ft,di mj];refine⟨hi,?_⟩;rw[dD,Hm,Yp];exact m1
    .have hed:ke a e=pK a.vs (mU e):=by unfold ke;rw[dd hh]
     rw[hh]at ft;rw[hed]at dD;obtain⟨h9,e9,m9⟩:=lX gc _ _ (mU e) true _ m1 eW (by omega) (by rw[aa6];rfl) hLl;have aeh:tI (mU e)=[[.sc (.int .i64 e.src)],[.sc (.int .i64 e.id)],[.sc (.int .i64 e.dst)]]:=rfl;rw[aeh]at e9;unfold eY iE at hr du ft e9;simp[cU,g3,g4,g5,g6,g30,g31,g32,hi,qD,du,aaW,s30,s31,s32,oy,aj8,hcs,z2,eM,ft,e9,di mj];refine⟨hi,?_⟩;rw[dD];exact m9
   .have gG:i=g.cZ.length:=Yc kY (Yb hi);subst gG;rw[Yz]at m;simp[cU,g3,g4,g5,g31,g32];exact m
  .rintro o fr hp hn ⟨rfl,cU,g3,g4,g5,m⟩;simp only at cU g3 g4 g5 m;obtain⟨y,y1,y2,y3⟩:=m.b3;obtain⟨r,lW,p1,p2,e1,y4,c1,c2⟩:=fso _ y hp y2 (by omega) (λt ht=>by have:=fX t ht;omega);obtain⟨u1,u2⟩:=hup r p1 p2;have m2:=m.sort y1 y3 y4 c1;have e2:=λb=>fco b r y lW y4 (OW u1) (by rw[p1.length_eq];omega) (λt ht=>by have:=fX t (p1.mem_iff.1 ht);omega)
   rw[<-u2];have y5:At lW 3 (.row [y]):=(c1 3 λk n e=>by have:=y3 k n e;omega).trans y1;have z1:=y1.vg;have Lt:=y1.get;have z5:=y5.vg;have z5':=y5.get;have z2:=m2.b1.vg;have IZ:=m2.b1.get;have z3:=m2.b2.vg;have z3':=m2.b2.get;have z4:=λx=>(m2.b2.new x).vg
   rw[SZ]at z2 IZ;have nq:Ae.dq (lW.set 2 (.row [.sc (.int .i64 ((eu a.vs).length:Nat)),y])) 8 (.ag [.sc (.int .i64 ((eu a.vs).length:Nat)),y])=some (.ag [.sc (.int .i64 ((eu a.vs).length:Nat)),gF 1 (iN r)]):=by
    have DD:kP (lW.set 2 (.row [.sc (.int .i64 ((eu a.vs).length:Nat)),y])) 1 (iN r) y:=by
     rcases y4 with⟨w1,w2⟩|⟨w1,id,w2,w3⟩
     .exact .inl ⟨w1,w2⟩
     .have:=y3 _ _ w2;exact .inr ⟨w1,id,w2,by rw[Zq (by omega)];exact w3⟩
    have dJ:=oO r;have:=ij (n:=6) (by omega) dJ.1 dJ.2 DD;have e:∀H,Ae.dq H 8 (.ag [.sc (.int .i64 ((eu a.vs).length:Nat)),y])=([AV.sc (.int .i64 ((eu a.vs).length:Nat)),y].mapM (Ae.dq H 7)).map .ag:=λH=>rfl
    rw[e,Zo,Zo,this];rfl
   have JF:wI 8 (.ag [.sc (.int .i64 ((eu a.vs).length:Nat)),gF 1 (iN r)])= .ag [.sc (.int .i64 ((eu a.vs).length:Nat)),.ls 1 (iN r) false]:=by
    show AV.ag [_,uT 1 (gF 1 (iN r))]=_;rw[mf]
   generalize gF 1 (iN r)=bv at nq JF;generalize iN r=rr at JF|-;rcases y2 with⟨_,rfl⟩|⟨_,id,rfl,_⟩
   .simp[cU,g5,z1,e1];rw[pL [] ?_ ?_]
    rotate_left
    .kernel_rfl
    .kernel_rfl
    simp(maxSteps:=1000000) [yY,cU,g3,g4,g5,z2,z3,z4,z5,eM,nk,GB,e2,AW,FT,Hl,wo]
    first
     |exact gz ⟨_,nq,JF⟩
     |exact⟨_,_,rfl,_,nq,JF⟩
     |exact⟨_,nq,JF⟩
   .simp[cU,g5,z1,e1];rw[pL [] ?_ ?_]
    rotate_left
    .kernel_rfl
    .kernel_rfl
    simp(maxSteps:=1000000) [yY,cU,g3,g4,g5,z2,z3,z4,z5,eM,nk,GB,e2,AW,FT,Hl,wo]
    first
     |exact gz ⟨_,nq,JF⟩
     |exact⟨_,_,rfl,_,nq,JF⟩
     |exact⟨_,nq,JF⟩
 .have aei:a.vs.length=1:=by rcases g_ with q|q<;>omega
  have hrF:lh g a=g.nodes.filterMap (kn a):=by unfold lh;rw[db hk]
  rw[hrF]at hup nC fX|-;simp[f29,eM,nk,EB,tQ,Wm,aa,ae,af,tq,hk];refine mS (C:=cx) (G:=λr=>∃r0 h',eQ _ (qw _ _ _ (dL _ r) _)=some (r0,h')/\∃r',Ae.dq h' 8 r0=some r'/\wI 8 r'= .ag [.sc (.int .i64 ((eu a.vs).length:Nat)),.ls 1 (iN (gd gq (g.nodes.filterMap (kn a)))) false])
   (λi s=>i<=g.nodes.length/\s.1.length=74/\gt s.1 3= .pt 1 0/\gt s.1 4= .pt 2 0/\gt s.1 5= .pt 3 0/\gt s.1 6= .fn 60 [.pt 1 0,.pt 3 0]/\gt s.1 51= .ls 3 jW false/\gt s.1 52=g.nodes.length/\gt s.1 53=i/\vz a gc [(0:Int),()] ((g.nodes.take i).filterMap (kn a)) s.2)
   (λo s=>o= .exit 2/\s.1.length=74/\gt s.1 3= .pt 1 0/\gt s.1 4= .pt 2 0/\gt s.1 5= .pt 3 0/\vz a gc [(0:Int),()] (g.nodes.filterMap (kn a)) s.2) g.nodes.length (by have:=AO.nl;simp;omega) ?_ ?_ ?_
  .exact⟨by omega,rfl,rfl,rfl,rfl,rfl,rfl,rfl,rfl,s7⟩
  .rintro i fr hp _ ⟨kY,cU,g3,g4,g5,g6,g51,g52,g53,m⟩;simp only at cU g3 g4 g5 g6 g51 g52 g53 m;have Bu:=AO.nl;have mj:i<=1000000000000000:=by omega
   by_cases hi:i<g.nodes.length
   .obtain⟨c,hc⟩:=eA hi;have hr:jW[i]?=some (eo c):=by rw[ZJ,hc];rfl
    have du:=gA hr
    have dD:(g.nodes.take (i+1)).filterMap (kn a)=(g.nodes.take i).filterMap (kn a)++Hm (kn a c):=by
     rw[Yx,hc,List.filterMap_append];cases q:kn a c<;>simp[Hm,q]
    have hLl:((g.nodes.take i).filterMap (kn a)).length<=1000000:=by
     have:=List.length_filterMap_le (kn a) (g.nodes.take i);rw[Yy]at this;omega
    have ft:=λb h=>Rr c (Zi hc) b h
    have m1:=m.app [.row (eo c)];have z2:=λz=>((m.app [z]).b1).vg
    have IZ:=λz=>((m.app [z]).b1).get
    rw[SZ]at z2;simp only[SZ]at IZ;have an:∀y:fp,(hp++[y])[hp.length]?=some y:=λy=>by simp
    cases hh:xI c a
    .have hed:kn a c=none:=by unfold kn;rw[hh];rfl
     rw[hh]at ft;rw[hed]at dD;unfold eo iK iE at hr du ft m1;simp[cU,g3,g4,g5,g6,g51,g52,g53,hi,tq,du,agP,z2,eM,nk,ft,di mj];refine⟨hi,?_⟩;rw[dD,Hm,Yp];exact m1
    .have hed:kn a c=pK a.vs [c.id]:=by
      unfold kn;rw[dd hh];obtain⟨v,GD⟩:∃v,a.vs=[v]:=by
       match hq:a.vs,aei with
       | [v],_=>exact⟨v,rfl⟩
      rw[GD,V1]
     rw[hh]at ft;rw[hed]at dD;obtain⟨h9,e9,m9⟩:=lX gc _ _ [c.id] true _ m1 eW (by omega) (by rw[aei];rfl) hLl;have aeh:tI [c.id]=[[.sc (.int .i64 c.id)]]:=rfl;rw[aeh]at e9;unfold eo iK iE at hr du ft e9;simp[cU,g3,g4,g5,g6,g51,g52,g53,hi,tq,du,agP,Js,oy,aj9,hcs,z2,eM,nk,ft,e9,di mj];refine⟨hi,?_⟩;rw[dD];exact m9
   .have gG:i=g.nodes.length:=Yc kY (Yb hi);subst gG;rw[Yz]at m;simp[cU,g3,g4,g5,g52,g53];exact m
  .rintro o fr hp hn ⟨rfl,cU,g3,g4,g5,m⟩;simp only at cU g3 g4 g5 m;obtain⟨y,y1,y2,y3⟩:=m.b3;obtain⟨r,lW,p1,p2,e1,y4,c1,c2⟩:=fso _ y hp y2 (by omega) (λt ht=>by have:=fX t ht;omega);obtain⟨u1,u2⟩:=hup r p1 p2;have m2:=m.sort y1 y3 y4 c1;have e2:=λb=>fco b r y lW y4 (OW u1) (by rw[p1.length_eq];omega) (λt ht=>by have:=fX t (p1.mem_iff.1 ht);omega)
   rw[<-u2];have y5:At lW 3 (.row [y]):=(c1 3 λk n e=>by have:=y3 k n e;omega).trans y1;have z1:=y1.vg;have Lt:=y1.get;have z5:=y5.vg;have z5':=y5.get;have z2:=m2.b1.vg;have IZ:=m2.b1.get;have z3:=m2.b2.vg;have z3':=m2.b2.get;have z4:=λx=>(m2.b2.new x).vg
   rw[SZ]at z2 IZ;have nq:Ae.dq (lW.set 2 (.row [.sc (.int .i64 ((eu a.vs).length:Nat)),y])) 8 (.ag [.sc (.int .i64 ((eu a.vs).length:Nat)),y])=some (.ag [.sc (.int .i64 ((eu a.vs).length:Nat)),gF 1 (iN r)]):=by
    have DD:kP (lW.set 2 (.row [.sc (.int .i64 ((eu a.vs).length:Nat)),y])) 1 (iN r) y:=by
     rcases y4 with⟨w1,w2⟩|⟨w1,id,w2,w3⟩
     .exact .inl ⟨w1,w2⟩
     .have:=y3 _ _ w2;exact .inr ⟨w1,id,w2,by rw[Zq (by omega)];exact w3⟩
    have dJ:=oO r;have:=ij (n:=6) (by omega) dJ.1 dJ.2 DD;have e:∀H,Ae.dq H 8 (.ag [.sc (.int .i64 ((eu a.vs).length:Nat)),y])=([AV.sc (.int .i64 ((eu a.vs).length:Nat)),y].mapM (Ae.dq H 7)).map .ag:=λH=>rfl
    rw[e,Zo,Zo,this];rfl
   have JF:wI 8 (.ag [.sc (.int .i64 ((eu a.vs).length:Nat)),gF 1 (iN r)])= .ag [.sc (.int .i64 ((eu a.vs).length:Nat)),.ls 1 (iN r) false]:=by
    show AV.ag [_,uT 1 (gF 1 (iN r))]=_;rw[mf]
   generalize gF 1 (iN r)=bv at nq JF;generalize iN r=rr at JF|-;rcases y2 with⟨_,rfl⟩|⟨_,id,rfl,_⟩
   .simp[cU,g5,z1,e1];rw[pL [] ?_ ?_]
    rotate_left
    .kernel_rfl
    .kernel_rfl
    simp(maxSteps:=1000000) [yY,cU,g3,g4,g5,z2,z3,z4,z5,eM,nk,GB,e2,AW,FT,Hl,wo]
    first
     |exact gz ⟨_,nq,JF⟩
     |exact⟨_,_,rfl,_,nq,JF⟩
     |exact⟨_,nq,JF⟩
   .simp[cU,g5,z1,e1];rw[pL [] ?_ ?_]
    rotate_left
    .kernel_rfl
    .kernel_rfl
    simp(maxSteps:=1000000) [yY,cU,g3,g4,g5,z2,z3,z4,z5,eM,nk,GB,e2,AW,FT,Hl,wo]
    first
     |exact gz ⟨_,nq,JF⟩
     |exact⟨_,_,rfl,_,nq,JF⟩
     |exact⟨_,nq,JF⟩
end
end Go.Proofs.YtaibpnppeiigdaaGreatDoor
