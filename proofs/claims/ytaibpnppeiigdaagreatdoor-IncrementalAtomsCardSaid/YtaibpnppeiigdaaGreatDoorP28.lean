/- Part of the proof. -/
import Derived.Test.YtaibpnppeiigdaaGreatDoorP27
set_option linter.all false
set_option maxHeartbeats 32000000
set_option maxRecDepth 100000
namespace Go.Proofs.YtaibpnppeiigdaaGreatDoor
open Go Go.Ae Go.Proofs.Tryz
section
attribute [local simp] zi XM
def MJ :Option (List Int)->AV
 |some t=> .tp [.ls 1 (tI t) false,true]
 |none=> .tp [(),false]
def qx (vs ids:List Int)(i:Nat):List Int:=(eu vs).map λw=>if w∈vs.take i then ids.getD (fx vs w) 0 else 0
def ER (vs ids:List Int)(i:Nat):(qx vs ids i).length=(eu vs).length:=by unfold qx;simp
def MK (vs ids:List Int):qx vs ids 0=List.replicate (eu vs).length 0:=by
 unfold qx;apply List.ext_getElem<;>simp
def JB (vs:List Int):(eu vs).Nodup:=by
 rw[nY];exact(ub rH vs).imp λ{a b} h e=>by
  subst e;unfold ej at h;simp at h
def ML {vs ids:List Int}{i:Nat}{v:Int}(h:vs[i]?=some v):(qx vs ids i).set (fx (eu vs) v) (ids.getD (fx vs v) 0)=qx vs ids (i+1):=by
 have hv:v∈vs:=Zi h;obtain⟨aa,ae⟩:=vd ((lD vs v).2 hv);have ht:vs.take (i+1)=vs.take i++[v]:=by rw[Yx,h];rfl
 unfold qx;apply Xe;intro p;rw[List.getElem?_set,Yk,Zs,Zs,ht];by_cases e:fx (eu vs) v=p
 .subst e;rw[dd rfl,dd aa,ae];simp
 .rw[db e];cases hw:(eu vs)[p]? with
  |none=>rfl
  |
   some w=>
   have eW:w≠v:=λq=>by
    obtain⟨k1,e1⟩:=Za.1 ae;obtain⟨k2,e2⟩:=Za.1 hw;have S9:=List.pairwise_iff_getElem.1 (JB vs);rcases Nat.lt_or_gt_of_ne e with q1|q1
    .exact S9 _ _ k1 k2 q1 (by rw[e1,e2,q])
    .exact S9 _ _ k2 k1 q1 (by rw[e1,e2,q])
   simp[eW]
def Rb {vs ids:List Int}(h:agT vs ids):pK vs ids=some (qx vs ids vs.length):=by
 unfold pK qx;rw[dd h,Yz]
 congr 1
 refine List.map_congr_left λw hw=>?_
 rw[dd ((lD vs w).1 hw)]
def Rc (l:List Int)(k:Nat)(x:Int)(hk:k<l.length):da (fD l) k [x]=fD (l.set k x):=by
 unfold da fD eI;apply Xe;intro j;rw[Zs,List.getElem?_set,Xf];by_cases e:k=j
 .subst e;rw[Zd (by simp;omega),Zf (by simp;omega)];simp[hk,Nat.min_eq_left (Nat.le_of_lt hk)]
 .rw[db e,<-Zs];by_cases hj:j<k
  .rw[Zd (by simp;omega),Zd (by simp;omega),List.getElem?_take_of_lt hj]
  .rw[Zf (by simp;omega),Xg]
   congr 1
   simp;omega
def MM (m:Nat):((List.range m).flatMap λ_=> [Value.int .i64 0].map AV.sc)=fD (List.replicate m 0):=by
 induction m with
 |zero=>rfl
 |succ m ih=>rw[List.range_succ,Xh,ih,List.replicate_succ',EK];rfl
def aaQ (a:Am)(l:List LA)(z:Bool):[AV.ag (encA a),AV.ls 1 l z].all d_=true:=by
 rw[Zn,gT,sM];rfl
def Re {h:Hp}{id:Nat}{l:List Int}(dC:h[id]?=some (.row (fD l))):Ae.dq h 8 (.tp [.sl id 1 0 l.length false,true])=some (.tp [.ls 1 (tI l) false,true]):=by
 have dJ:=pJ l;have:=jP (h:=h) (n:=6) (id:=id) (sz:=1) (cY:=tI l) (cs:=fD l) (by omega) dJ.1 dJ.2 (jQ dC) (by
  rw[dU,Nat.mul_one,Ys (by rw[jk];omega)];exact(yS _).symm) (by rw[dU,jk];omega)
 rw[dU]at this;have e:Ae.dq h 8 (.tp [.sl id 1 0 l.length false,true])=([AV.sl id 1 0 l.length false,.sc (.bool true)].mapM (Ae.dq h 7)).map .tp:=rfl;rw[e,Zo,this];rfl
structure aea (a:Am)(ids:List Int)(z:Bool)(ev:LA)(i:Nat)(s:St):Prop where
 le:i<=a.vs.length
 len:s.1.length=50
 g1:gt s.1 1= .ls 1 (tI ids) z
 g2:gt s.1 2= .pt 0 0
 g6:gt s.1 6= .ls 1 (tI (eu a.vs)) false
 g7:gt s.1 7= .sl 1 1 0 (eu a.vs).length false
 g18:gt s.1 18= .ls 1 (tI a.vs) false
 g19:gt s.1 19=a.vs.length
 g20:gt s.1 20=i
 hp:s.2=[.row (.sc (.int .i64 a.k):: .ls 1 (tI a.vs) false:: .sc (.string a.nm):: .ls 1 (gP a.ts) false::ev),.row (fD (qx a.vs ids i))]
 ag:∀j,j<i->ids.getD (fx a.vs (a.vs.getD j 0)) 0=ids.getD j 0
def aaR (n:Nat)(b:Bool)(a:Am)(ids:List Int)(z:Bool)(h:Hp)(eW:a.vs≠ [])(hl:a.vs.length<=1000000)(gG:ids.length=a.vs.length):
 cW cx (n+3) b 61 [.ag (encA a),.ls 1 (tI ids) z] h=some (MJ (pK a.vs ids),h):=by
 refine wH f61 [.tmp 4,.tmp 5] (aaQ a _ z) ?_ b h;have mi:kx 61=0:=by decide
 rw[mi];have aa:=λb h=>VY n b a h eW hl
 have ae:=λv b h=>OH (n+1) b (eu a.vs) false v h (by have:=sS a.vs;omega)
 have af:=λv b h=>OH (n+1) b a.vs false v h (by omega)
 rw[show n+1+1=n+2 by omega]at ae af;have mY:=sS a.vs;have eM:=gB a;have hz:=MK a.vs ids;have AW:=dU (eu a.vs);have Rf:=dU a.vs;have zJ:=dU ids;have hga:=lf a.vs;have hgi:=lf ids;unfold encA iK at *;generalize aeb:enc a.v=ev at eM aa|-;simp only[Yw]at eM;have eM:ev.length=5:=by omega
 have nk:ev.take 5=ev:=Ys (by omega);generalize n+2=M at aa ae af|-;have wk:(eu a.vs).length<=1000000:=by omega
 have aec:(eu a.vs).length<=maxLen:=by unfold maxLen;omega
 have hmb:(eu a.vs).length*8<=140737488355328:=by omega
 have MN:=MM (eu a.vs).length;rw[<-hz]at MN;simp only[Xi,List.map_nil]at MN;simp[f61,eM,nk,aa,AW,Rf,aec,hmb,MN];refine eC (C:=cx) (G:=λr=>∃r0 h',eQ _ (eR _ _ (dL _ r) _)=some (r0,h')/\∃r',Ae.dq h' 8 r0=some r'/\wI 0 r'=MJ (pK a.vs ids))
  (λi s=>aea a ids z ev i s)
  (λo s=>s.1.length=50/\((o= .exit 0/\agT a.vs ids/\gt s.1 7= .sl 1 1 0 (eu a.vs).length false/\s.2[1]?=some (.row (fD (qx a.vs ids a.vs.length))))\/(o= .ret/\¬agT a.vs ids/\gt s.1 4=()/\gt s.1 5=false))) a.vs.length (by simp;omega) ?_ ?_ ?_
 .exact⟨by omega,rfl,rfl,rfl,rfl,rfl,rfl,rfl,rfl,rfl,λj hj=>by omega⟩
 .rintro i fr hp _ ⟨kY,cU,g1,g2,g6,g7,g18,g19,g20,hh,hag⟩;simp only at cU g1 g2 g6 g7 g18 g19 g20 hh;subst hh;have mj:i<=1000000000000000:=by omega
  by_cases hi:i<a.vs.length
  .obtain⟨v,hv⟩:=eA hi;have hvm:=Zi hv;have hvD:a.vs.getD i 0=v:=by rw[List.getD,hv];rfl
   have dD:=ML (ids:=ids) hv;obtain⟨c1,_⟩:=vd hvm;obtain⟨c2,_⟩:=vd ((lD a.vs v).2 hvm);have e2:=MG (i:=0) ((lD a.vs v).2 hvm);have e3:=MG (i:=0) hvm;rw[Xb]at e2 e3;have ae:=λb h=>ae v b h
   have af:=λb h=>af v b h
   rw[e2]at ae;rw[e3]at af;have sA:=ER a.vs ids i;have iA:=Rc (qx a.vs ids i) (fx (eu a.vs) v) (ids.getD (fx a.vs v) 0) (by rw[sA];exact c2);rw[dD]at iA;have nC:=jk (qx a.vs ids i);rw[sA]at nC;generalize hF:fx a.vs v=F at af c1 iA;generalize hK:fx (eu a.vs) v=K at ae c2 iA;obtain⟨x,hx⟩:∃p,ids[F]?=some p:=⟨_,Zb (by omega)⟩;obtain⟨y,hy⟩:∃p,ids[i]?=some p:=⟨_,Zb (by omega)⟩;have hxD:ids.getD F 0=x:=by rw[List.getD,hx];rfl
   have hyD:ids.getD i 0=y:=by rw[List.getD,hy];rfl
   rw[hxD]at iA;have ra:(tI a.vs)[i]?=some [.sc (.int .i64 v)]:=by rw[hga,hv];rfl
   have rx:(tI ids)[F]?=some [.sc (.int .i64 x)]:=by rw[hgi,hx];rfl
   have ry:(tI ids)[i]?=some [.sc (.int .i64 y)]:=by rw[hgi,hy];rfl
   have ad3:i<ids.length:=by omega
   have hFl:F<ids.length:=by omega
   have ra':=gA ra
   have rx':=gA rx
   have ry':=gA ry
   have hKl:K+1<=(eu a.vs).length:=c2;by_cases OJ:x=y
   .have BT:∀s,aea a ids z ev (i+1) s->aea a ids z ev (i+1) s:=λs q=>q
    subst OJ;generalize fD (qx a.vs ids i)=C0 at iA nC|-;simp[cU,g1,g2,g6,g7,g18,g19,g20,hi,eM,Rf,zJ,ra',rx',ry',ae,af,c2,hKl,hFl,ad3,nC,iA,di mj];refine⟨hi,by simp[cU],by simp[g1],by simp[g2],by simp[g6],by simp[g7],by simp[g18],by simp[g19],by simp[cU],rfl,λj hj=>?_⟩;by_cases N3:j<i
    .exact hag j N3
    .have:j=i:=by omega
     subst this;rw[hvD,hF,hxD,hyD]
   .have qE:¬agT a.vs ids:=λq=>OJ (by
     have:=q i hi;rw[hvD,hF,hxD,hyD]at this;exact this)
    simp[cU,g1,g2,g6,g7,g18,g19,g20,hi,eM,Rf,zJ,ra',rx',ry',ae,af,hFl,ad3,OJ];exact qE
  .have gG:i=a.vs.length:=Yc kY (Yb hi);subst gG;simp[cU,g7,g19,g20];exact λj hj=>hag j hj
 .rintro o fr hp hn ⟨cU,⟨rfl,hag,g7,hh⟩|⟨rfl,hag,g4,g5⟩⟩
  .simp only at cU g7 hh;have lH:=Re hh;rw[ER]at lH;have rJ:=Rb hag;simp[cU,g7];exact gz ⟨_,lH,by rw[rJ];rfl⟩
  .simp only at cU g4 g5;have rJ:pK a.vs ids=none:=by unfold pK;rw[db hag]
   simp[g4,g5];exact gz ⟨_,rfl,by rw[rJ];rfl⟩
def rxK (vs ids:List Int)(v:Int)(k:Nat):Option Int:=((vs.zip ids).take k).foldl (zI v) (some 0)
def Wc {vs ids:List Int}{v:Int}{k:Nat}{w d:Int}(h1:vs[k]?=some w)(h2:ids[k]?=some d):rxK vs ids v (k+1)=zI v (rxK vs ids v k) (w,d):=by
 unfold rxK;have:(vs.zip ids)[k]?=some (w,d):=by rw[List.getElem?_zip_eq_some];exact⟨h1,h2⟩
 rw[Yx,this,List.foldl_append];rfl
def Wd {vs ids:List Int}{v:Int}{k:Nat}(h:rxK vs ids v k=none):rx vs ids v=none:=by
 unfold rx;unfold rxK at h;rw[<-List.take_append_drop k (vs.zip ids),List.foldl_append,h,Gq]
def aaS {vs ids:List Int}{v:Int}{k:Nat}(hk:(vs.zip ids).length<=k):rxK vs ids v k=rx vs ids v:=by
 unfold rxK rx;rw[Ys hk]
def Rg {f:Int->Option Int}{l o:List Int}{v x:Int}(h:l.mapM f=some o)(hx:f v=some x):(l++[v]).mapM f=some (o++[x]):=by
 rw[List.mapM_append,h];simp[hx]
def JC {f:Int->Option Int}{l o:List Int}(h:l.mapM f=some o):o.length=l.length:=(ir h).1
def We (e:Ed)(k:Nat):(fD (mU e))[k]?=((mU e)[k]?).map eI:=u_ _ _
structure TrM (cells:LA)(e:Ed)(o:List Int)(y:AV)(h:Hp):Prop where
 b0:At h 0 (.row cells)
 b2:At h 2 (.row (fD (mU e)))
 len:3<=h.length
 Es:kP h 1 (tI o) y
 far:∀k n,y= .sl k 1 0 n false->3<=k
def TrM.app {cells:LA}{e:Ed}{o:List Int}{y:AV}{h:Hp}(m:TrM cells e o y h)(x:Int)(hl:o.length<=3000000):
 ∃id h2,eE cx (h++[.row [x]]) 27 y (.sl h.length 1 0 1 false)=some (.sl id 1 0 (o.length+1) false,h2)/\TrM cells e (o++[x]) (.sl id 1 0 (o.length+1) false) h2:=by
 obtain⟨id,h3,b1,b2,b3,b4⟩:=gm (t:=27) AQ rfl h [x] (tI o) y m.Es rfl (λr hr=>(pJ _).1 r hr) (by omega) (by rw[dU];omega) (by omega);rw[dU]at b1;have hl3:=m.len;refine⟨id,h3,b1,b3 0 _ m.b0 λk n q=>?_,b3 2 _ m.b2 λk n q=>?_,?_,.inr ⟨by simp[tI],id,by simp[tI],by rw[b2];simp[tI,p8]⟩,λk n q=>?_⟩
 .have:=m.far k n q;omega
 .have:=m.far k n q;omega
 .have:=(Za.1 b2).1;omega
 .cases q;omega
def s30 (a b c x:AV):da [a,b,c] 0 [x]=[x,b,c]:=rfl
def s31 (a b c x:AV):da [a,b,c] 1 [x]=[a,x,c]:=rfl
def s32 (a b c x:AV):da [a,b,c] 2 [x]=[a,b,x]:=rfl
def aaT (a:Am)(e:Ed):[AV.ag (encA a),AV.ag (eY e)].all d_=true:=by
 rw[Zn,gT,sM];rfl
def Rh {h:Hp}{o:List Int}{y:AV}(hb:kP h 1 (tI o) y)(eW:o≠ []):Ae.dq h 8 (.tp [y,true])=some (.tp [.ls 1 (tI o) false,true]):=by
 have dJ:=pJ o;have:=ij (n:=6) (by omega) dJ.1 dJ.2 hb;have e1:gF 1 (tI o)= .ls 1 (tI o) false:=by
  unfold gF;rw[db];cases o with
  |nil=>exact absurd rfl eW
  |cons x l=>simp[tI]
 rw[e1]at this;have e:Ae.dq h 8 (.tp [y,true])=([y,.sc (.bool true)].mapM (Ae.dq h 7)).map .tp:=rfl;rw[e,Zo,this];rfl
def aaU (n:Nat)(b:Bool)(a:Am)(e:Ed)(h:Hp)(hl:a.vs.length=3):
 cW cx (n+3) b 70 [.ag (encA a),.ag (eY e)] h=some (MJ (MH a.vs (mU e)),h):=by
 refine wH f70 [.tmp 4,.tmp 5] (aaT a e) ?_ b h;have mi:kx 70=0:=by decide
 rw[mi];have aa:=λb h=>Jt n b a h (by omega)
 have mY:=sS a.vs;have aj4:eu a.vs≠ []:=λq=>by
  have:a.vs[0]'(by omega)∈eu a.vs:=(lD _ _).2 (Xd _);rw[q]at this;cases this
 have eM:=gB a;have AW:=dU (eu a.vs);have AO:=lf (eu a.vs);have Rf:=dU a.vs;have hga:=lf a.vs;have Ag:(mU e).length=3:=rfl;have hzip:(a.vs.zip (mU e)).length=3:=by rw[List.length_zip,Ag];omega
 have aj5:=We e;unfold encA eY iK iE at *;generalize enc a.v=ev at eM aa|-;simp only[Yw]at eM;have eM:ev.length=5:=by omega
 have nk:ev.take 5=ev:=Ys (by omega);generalize n+2=M at aa|-;generalize tI (eu a.vs)=Cy at aa AW AO;generalize tI a.vs=rK at aa Rf hga|-;generalize gP a.ts=iO at aa|-;generalize iy e.props=acp;simp[f70,eM,nk,aa,s30,s31,s32];refine LM
  (λi s iR=>i<=(eu a.vs).length/\s.length=60/\gt s 2= .pt 0 0/\gt s 6= .sl 2 1 0 3 false/\gt s 7= .ls 1 Cy false/\gt s 9=i/\∃o y,gt s 8=y/\((eu a.vs).take i).mapM (rx a.vs (mU e))=some o/\TrM (.sc (.int .i64 a.k):: .ls 1 rK false:: .sc (.string a.nm):: .ls 1 iO false::ev) e o y iR)
  (λo s iR=>s.length=60/\((o= .exit 0/\∃o y,gt s 8=y/\MH a.vs (mU e)=some o/\kP iR 1 (tI o) y)\/(o= .ret/\MH a.vs (mU e)=none/\gt s 4=()/\gt s 5=false))) (eu a.vs).length (by simp;omega) ?_ ?_ ?_
 .exact⟨by omega,rfl,rfl,rfl,rfl,rfl,[],_,rfl,rfl,rfl,rfl,by simp,.inl ⟨rfl,rfl⟩,λk n q=>by cases q⟩
 .rintro i fr hp _ ⟨kY,cU,g2,g6,g7,g9,o,y,g8,ho,m⟩;have mj:i<=1000000000000000:=by omega
  by_cases hi:i< (eu a.vs).length
  .obtain⟨v,hv⟩:=eA hi;have hr:Cy[i]?=some [.sc (.int .i64 v)]:=by rw[AO,hv];rfl
   have du:=gA hr
   have EE:=JC ho;rw[Yy]at EE;simp[cU,g7,g9,hi,AW];generalize hX:dS cx (cW cx M) (Code.loop _) _=X;have HL:=ux (call:=cW cx M) (λj s=>j<=3/\s.1.length=60/\gt s.1 2= .pt 0 0/\gt s.1 6= .sl 2 1 0 3 false/\gt s.1 7= .ls 1 Cy false/\gt s.1 9=i/\gt s.1 8=y/\gt s.1 11=j/\s.2=hp/\∃x,gt s.1 10= .sc (.int .i64 x)/\rxK a.vs (mU e) v j=some x)
    (λ(o':Out) (s:St)=>s.1.length=60/\((o'= .exit 2/\gt s.1 2= .pt 0 0/\gt s.1 6= .sl 2 1 0 3 false/\gt s.1 7= .ls 1 Cy false/\gt s.1 9=i/\gt s.1 8=y/\s.2=hp/\∃x,gt s.1 10= .sc (.int .i64 x)/\rx a.vs (mU e) v=some x)\/(o'= .ret/\rx a.vs (mU e) v=none/\gt s.1 4=()/\gt s.1 5=false)))
    3 (by simp) X _ _ _ hX ⟨by omega,by simp[cU],by simp[g2],by simp[g6],by simp[g7],by simp[g9],by simp[g8],by simp[cU],rfl,0,by simp[cU],rfl⟩ (by
    rintro j xz h2 _ ⟨Qj,fl,k2,k6,k7,k9,k8,OP,hh,x,qQ,hx⟩;simp only at fl k2 k6 k7 k9 k8 OP qQ hh;subst hh;have DE:j<=1000000000000000:=by omega
    have m0:=m.b0;have m2:=m.b2;unfold At at m0 m2;have m0':=m.b0.get;have m2':=m.b2.get;by_cases hj:j<3
    .have hjI:(j:Int)<3:=by omega
     obtain⟨w,hw⟩:∃p,a.vs[j]?=some p:=⟨_,Zb (by omega)⟩;obtain⟨d,hd⟩:∃p,(mU e)[j]?=some p:=⟨_,Zb (by omega)⟩;have hs:rK[j]?=some [.sc (.int .i64 w)]:=by rw[hga,hw];rfl
     have kC:=gA hs
     have hsd:(fD (mU e))[j]?=some (.sc (.int .i64 d)):=by rw[aj5,hd];rfl
     have aaV:=gA hsd
     have nC:(fD (mU e)).length=3:=rfl;have dD:=Wc (v:=v) hw hd;rw[hx]at dD;have hja:j<a.vs.length:=by omega
     generalize fD (mU e)=idr at m2 m2' hsd aaV nC;by_cases hwv:w=v
     .by_cases YQ:x=0
      .have e1:zI v (some x) (w,d)=some d:=by unfold zI;simp[hwv,YQ]
       rw[e1]at dD;simp[fl,k2,k6,k7,k9,k8,qQ,OP,hj,hjI,m0,m2,eM,Rf,hja,kC,hi,AW,du,hwv,YQ,aaV,nC,di DE];exact⟨by omega,dD⟩
      .by_cases hxd:x=d
       .have e1:zI v (some x) (w,d)=some d:=by unfold zI;simp[hwv,hxd]
        rw[e1]at dD;have LC:¬d=0:=by rw[<-hxd];exact YQ
        simp[fl,k2,k6,k7,k9,k8,qQ,OP,hj,hjI,m0,m2,eM,Rf,hja,kC,hi,AW,du,hwv,LC,hxd,aaV,nC,di DE];exact⟨by omega,dD⟩
       .have e1:zI v (some x) (w,d)=none:=by
         unfold zI;simp[hwv,YQ,hxd]
        rw[e1]at dD;have:=Wd dD;simp[fl,k2,k6,k7,k9,k8,qQ,OP,hj,hjI,m0,m2,eM,Rf,hja,kC,hi,AW,du,hwv,YQ,hxd,aaV,nC];exact this
     .have e1:zI v (some x) (w,d)=some x:=by unfold zI;simp[hwv]
      rw[e1]at dD;simp[fl,k2,k6,k7,k9,k8,qQ,OP,hj,hjI,m0,eM,Rf,hja,kC,hi,AW,du,hwv,di DE];exact⟨by omega,dD⟩
    .have jU:j=3:=by omega
     subst jU;rw[aaS (by omega)]at hx;simp[fl,k2,k6,k7,k9,k8,qQ,OP];exact hx)
   obtain⟨o',xz,h2,rfl,fl,⟨rfl,k2,k6,k7,k9,k8,hh,x,qQ,hx⟩|⟨rfl,hx,k4,k5⟩⟩:=HL
   .simp only at fl k2 k6 k7 k9 k8 hh qQ;subst hh;have q8:=oG (λv=>m.Es.np v)
    obtain⟨id,h3,b1,m3⟩:=m.app x (by omega);have dD:((eu a.vs).take (i+1)).mapM (rx a.vs (mU e))=some (o++[x]):=by
     rw[Yx,hv];exact Rg ho hx
    simp[fl,k2,k6,k7,k9,k8,qQ,q8,Js,b1,di mj];exact⟨hi,hi,_,dD,m3⟩
   .simp only at fl k4 k5;have:MH a.vs (mU e)=none:=mapM_none _ ⟨v,Zi hv,hx⟩;simp[fl,k4,k5];exact this
  .have gG:i=(eu a.vs).length:=Yc kY (Yb hi);subst gG;rw[Yz]at ho;simp[cU,g7,g9,g8,AW];exact⟨o,ho,m.Es⟩
 .rintro o' fr hp hn ⟨cU,⟨rfl,o,y,g8,ho,hb⟩|⟨rfl,ho,g4,g5⟩⟩
  .have lB:o≠ []:=λq=>by
    have:=JC ho;rw[q]at this;exact aj4 (Zl this.symm)
   have lH:=Rh hb lB;have q8:=oG (λv=>hb.np v)
   simp[cU,g8,q8];exact gz ⟨_,lH,by rw[ho];rfl⟩
  .simp[g4,g5];exact gz ⟨_,rfl,by rw[ho];rfl⟩
def OQ {f:FuncId}{n sz:Nat}{cY:List LA}{r:AV}(hs:cx.ox f=none)(hi:cx.inl f=false)(hr:ml r=false)(id:Nat)(h:Hp)(gC:0<sz)(hl:∀r∈cY,r.length=sz)(hc:cY.flatten.all eT=true)(dC:h[id]?=some (.row cY.flatten))
 (dy:∀h,cW cx (n+1) true f [.ls sz cY false] h=some (r,h)):∃h',cW cx (n+1) true f [.sl id sz 0 cY.length false] h=some (r,h')/\∀j,j≠id->h'[j]?=h[j]?:=by
 have sA:cY.flatten.length=cY.length*sz:=dH cY hl;have VA:[AV.sl id sz 0 cY.length false].flatMap (reach h 8)=[id]:=by
  have e:reach h 8 (.sl id sz 0 cY.length false)=id::((gI h id).getD []).flatMap (reach h 7):=rfl;rw[Yu,List.flatMap_nil,e,jQ dC,Yv,pH hc];rfl
 obtain⟨h',hf,_,hk⟩:=ad5 dC hc;have sn:∀{H:Hp},H[id]?=some (.row cY.flatten)->Ae.dq H 8 (.sl id sz 0 cY.length false)=some (.ls sz cY false):=λq=>jP gC hl hc (jQ q) (by rw[Ys (by omega)]) (by omega)
 refine⟨h',Cl (ys:=[.ls sz cY false]) hs hi ?_ rfl rfl hr ?_ (by rw[VA];exact hf) (dy h),hk⟩
 .rw[Zo,sn dC];rfl
 .rw[VA,Zo,sn (AP dC)];rfl
def aaW (a b c d e a' b' c' d' e':AV):da [a,b,c,d,e] 0 [a',b',c',d',e']=[a',b',c',d',e']:=rfl
def vR (t:List Int):List LA:=dN (t.map vI)
def ES (t:List Int):(vR t).length=t.length:=by unfold vR;rw[dK,Yk]
def MO (t:List Int):(∀r∈vR t,r.length=5)/\(vR t).flatten.all eT=true:=xk _
def Gx (t:List Int)(x:Int):vR (t++[x])=vR t++[enc (vI x)]:=by
 unfold vR;apply Xe;intro i;rw[fP,Zs];by_cases hi:i<t.length
 .rw[Zd hi,Zd (by rw[dK,Yk];exact hi),fP,Zs]
 .rw[Zf (by omega),Zf (by rw[dK,Yk];omega),dK,Yk];cases i-t.length<;>simp
def Cz (l:List Rw)(t:List Int):vx (l++[vy t])=vx l++[[.ls 5 (vR t) false]]:=by
 unfold vx vR;simp[Gv]
def xL (l:List Rw):(∀r∈vx l,r.length=1)/\(vx l).flatten.all eT=true:=
 ⟨λr hr=>by obtain⟨c,_,rfl⟩:=Yi.1 hr;rfl,jE λr hr=>by obtain⟨c,_,rfl⟩:=Yi.1 hr;rfl⟩
structure DG (h0 h:Hp)(t:List Int)(j:Nat)(y:AV):Prop where
 ge:h0.length<=h.length
 keep:∀(q:Nat) (b:fp),h0[q]?=some b->h[q]?=some b
 Es:kP h 5 (vR (t.take j)) y
 far:∀k n,y= .sl k 5 0 n false->h0.length<=k
def DG.app {h0 h:Hp}{t:List Int}{j:Nat}{y:AV}(w:DG h0 h t j y){x:Int}(hx:t[j]?=some x)(hl:t.length<=1000000)(hi:i64 x):
 ∃id h',eE cx (h++[.row [(2:Int),x,(0:Int),.sc (.string ⟨#[]⟩),.ls 5 [] false]]) 63 y (.sl h.length 5 0 1 false)=some (.sl id 5 0 (j+1) false,h')/\DG h0 h' t (j+1) (.sl id 5 0 (j+1) false):=by
 have hj:j<t.length:=(Za.1 hx).1;have cU:(vR (t.take j)).length=j:=by rw[ES,Yy];omega
 obtain⟨id,h3,b1,b2,b3,b4⟩:=gm (t:=63) agd rfl h (enc (vI x)) (vR (t.take j)) y w.Es (i7 _) (λr hr=>(MO _).1 r hr) (by omega) (by omega) (by omega);rw[cU,Cr hi]at b1;have rS:=w.ge;refine⟨id,h3,b1,⟨?_,λq b hq=>b3 q b (w.keep q b hq) λk n e=>?_,?_,λk n e=>?_⟩⟩
 .have:=(Za.1 b2).1;omega
 .have:=w.far k n e;have:=(Za.1 hq).1;omega
 .have e1:t.take (j+1)=t.take j++[x]:=by rw[Yx,hx];rfl
  rw[e1];refine .inr ⟨by rw[Gx];simp,id,by rw[Gx,Zu,cU];rfl,by rw[Gx];exact b2⟩
 .cases e;omega
def DG.put {h0 h:Hp}{t:List Int}{y:AV}(w:DG h0 h t t.length y){l:List Rw}{o:AV}(ho:kP h0 1 (vx l) o)(hl:l.length<=1000000):
 ((t=[]/\y=()/\∃id h2,eE cx (h++[.row [.ls 5 [] false]]) 53 o (.sl h.length 1 0 1 false)=some (.sl id 1 0 (l.length+1) false,h2)/\kP h2 1 (vx (l++[vy t])) (.sl id 1 0 (l.length+1) false))\/
 (∃k h',y= .sl k 5 0 (vR t).length false/\Ae.freeze [k] h=some h'/\Ae.dq (mask [k] h) 8 (.sl k 5 0 (vR t).length false)=some (.ls 5 (vR t) false)/\∃id h2,eE cx (h'++[.row [.ls 5 (vR t) false]]) 53 o (.sl h'.length 1 0 1 false)=some (.sl id 1 0 (l.length+1) false,h2)/\kP h2 1 (vx (l++[vy t])) (.sl id 1 0 (l.length+1) false))):=by
 have key:∀(H:Hp) (a:AV),kP H 1 (vx l) o->a= .ls 5 (vR t) false->∃id h2,eE cx (H++[.row [a]]) 53 o (.sl H.length 1 0 1 false)=some (.sl id 1 0 (l.length+1) false,h2)/\kP h2 1 (vx (l++[vy t])) (.sl id 1 0 (l.length+1) false):=by
  rintro H a hb rfl;obtain⟨id,h3,b1,b2,b3,b4⟩:=gm (t:=53) adv rfl H [.ls 5 (vR t) false] (vx l) o hb rfl (λr hr=>(xL _).1 r hr) (by omega) (by rw[pI];omega) (by omega);rw[pI]at b1;exact⟨id,h3,b1,.inr ⟨by rw[Cz];simp,id,by rw[Cz,Zu,pI];rfl,by rw[Cz];exact b2⟩⟩
 have hb:=w.Es;rw[Yz]at hb;rcases hb with⟨h1,h2⟩|⟨h1,k,h2,h3⟩
 .have ht:t=[]:=Zl (by rw[<-ES,h1];rfl);refine .inl ⟨ht,h2,key h _ ?_ (by rw[ht];rfl)⟩;rcases ho with⟨o1,o2⟩|⟨o1,k',o2,o3⟩
  .exact .inl ⟨o1,o2⟩
  .exact .inr ⟨o1,k',o2,w.keep _ _ o3⟩
 .obtain⟨h',aa,ae,af,ah⟩:=MF (by omega) (MO t).1 (MO t).2 h3;refine .inr ⟨k,h',h2,aa,ae,key h' _ ?_ rfl⟩;have hk:=w.far k _ h2;rcases ho with⟨o1,o2⟩|⟨o1,k',o2,o3⟩
  .exact .inl ⟨o1,o2⟩
  .have:=(Za.1 o3).1;exact .inr ⟨o1,k',o2,by rw[ah k' (by omega)];exact w.keep _ _ o3⟩
def agM (h:Hp)(t:List Int):DG h h t 0 (.sc (.slice none 0 0)):=⟨Yt _,λ_ _ q=>q,.inl ⟨rfl,rfl⟩,λk n e=>by cases e⟩
def Wf (n:Nat)(b:Bool)(L:List (List Int))(z:Bool)(h:Hp)(hL:L.length<=1000000)(hLt:∀t∈L,t.length<=1000000/\∀x∈t,i64 x):
 cW cx (n+2) b 19 [.ls 1 (iN L) z] h=some (.ls 1 (vx (L.map vy)) false,h):=by
 refine wH f19 [.tmp 2] rfl ?_ b h;have mi:kx 19=1:=by decide
 rw[mi];have fi:=λx b h (hx:i64 x)=>aaC n b x h hx
 generalize n+1=M at fi|-;have hq:=fy L;have hg:=AR L;generalize iN L=cY at hq hg;simp[f19];refine LM
  (λi s iR=>i<=L.length/\s.length=38/\gt s 0= .ls 1 cY z/\gt s 4=i/\∃y,gt s 3=y/\kP iR 1 (vx ((L.take i).map vy)) y)
  (λo s iR=>o= .exit 0/\s.length=38/\∃y,gt s 3=y/\kP iR 1 (vx (L.map vy)) y) L.length (by simp;omega) (by exact ⟨by omega,rfl,rfl,rfl,_,rfl,.inl ⟨rfl,rfl⟩⟩) ?_ ?_
 .rintro i fr hp _ ⟨kY,cU,g0,g4,y,g3,hy⟩;have mj:i<=1000000000000000:=by omega
  by_cases hi:i<L.length
  .obtain⟨t,ht⟩:=eA hi;obtain⟨tW,rT⟩:=hLt t (Zi ht);have hr:cY[i]?=some [.ls 1 (tI t) false]:=by rw[hg,ht];rfl
   have du:=gA hr
   have dD:(L.take (i+1)).map vy=(L.take i).map vy++[vy t]:=by rw[Yx,ht];simp
   have C_:((L.take i).map vy).length<=1000000:=by rw[Yk,Yy];omega
   have YR:=dU t;have tQ:=lf t;generalize hT:tI t=iO at hr du YR tQ;simp[cU,g0,g4,hi,hq];generalize hX:dS cx (cW cx M) (Code.loop _) _=X;have HL:=ux (call:=cW cx M) (λj s=>j<=t.length/\s.1.length=38/\gt s.1 0= .ls 1 cY z/\gt s.1 4=i/\gt s.1 3=y/\gt s.1 6=j/\∃y5,gt s.1 5=y5/\DG hp s.2 t j y5)
    (λ(o:Out) (s:St)=>o= .exit 2/\s.1.length=38/\gt s.1 0= .ls 1 cY z/\gt s.1 4=i/\gt s.1 3=y/\∃y5,gt s.1 5=y5/\DG hp s.2 t t.length y5)
    t.length (by simp;omega) X _ _ _ hX ⟨by omega,by simp[cU],by simp[g0],by simp[g4],by simp[g3],by simp[cU],_,by simp[cU],agM _ _⟩ (by
    rintro j xz h2 _ ⟨Qj,fl,k0,k4,k3,k6,y5,k5,w⟩;simp only at fl k0 k4 k3 k6 k5 w;have DE:j<=1000000000000000:=by omega
    have q5:=oG (λv=>w.Es.np v)
    by_cases hj:j<t.length
    .obtain⟨x,hx⟩:=eA hj;have hxi:=rT x (Zi hx);have fx:=λb h=>fi x b h hxi
     rw[Cr hxi]at fx;have hs:iO[j]?=some [.sc (.int .i64 x)]:=by rw[tQ,hx];rfl
     have kC:=gA hs
     obtain⟨id,h3,b1,w1⟩:=w.app hx tW hxi;simp[fl,k0,k4,k3,k6,k5,q5,hi,hq,du,hj,YR,kC,fx,aaW,b1,di DE];exact⟨by omega,w1⟩
    .have jU:j=t.length:=by omega
     subst jU;simp[fl,k0,k4,k3,k6,k5,hi,hq,du,YR];exact w)
   obtain⟨o,xz,h2,rfl,rfl,fl,k0,k4,k3,y5,k5,w⟩:=HL;simp only at fl k0 k4 k3 k5 w;have q3:=oG (λv=>hy.np v)
   rcases w.put hy C_ with⟨ht0,rfl,id,h4,b1,b2⟩|⟨k,h',rfl,aa,ae,id,h4,b1,b2⟩
   .generalize((L.take i).map vy).length=m at b1 b2;simp[fl,k0,k4,k3,k5,q3,b1,di mj];rw[<-List.map_take,dD];exact⟨hi,hi,b2⟩
   .generalize((L.take i).map vy).length=m at b1 b2;generalize vR t=vr at aa ae b1 k5;simp[fl,k0,k4,k3,k5,q3,aa,ae,b1,di mj];rw[<-List.map_take,dD];exact⟨hi,hi,b2⟩
  .have gG:i=L.length:=Yc kY (Yb hi);subst gG;simp[cU,g0,g4,g3,hq];rw[Yz]at hy;exact hy
 .rintro o fr hp hn ⟨rfl,cU,y,g3,hy⟩;have q3:=oG (λv=>hy.np v)
  have lH:=ij (n:=7) (by omega) (xL _).1 (xL _).2 hy;simp[cU,g3,q3];exact gz ⟨_,lH,mf _ _⟩
def Wg (N D:Nat)(b:Bool)(h:Hp):cW cx (N+2*D+13) b 57 [()] h=some (.ls 2 [] false,h):=by
 refine wH f57 [.tmp 2] rfl ?_ b h;have mi:kx 57=2:=by decide
 rw[mi];have af:=λ(h:Hp)=>FU N D true [] (.sc (.slice none 0 0)) h ⟨by simp,by simp,by simp⟩ (.inl ⟨rfl,rfl⟩)
 generalize N+2*D+12=M at af|-;simp[f57];refine LM
  (λi s _=>i=0/\s.length=20/\gt s 6=()/\gt s 7=(0:Int)/\gt s 8=(0:Int)/\gt s 3=())
  (λo s _=>o= .exit 0/\s.length=20/\gt s 3=()) 0 (by simp) (by exact ⟨rfl,rfl,rfl,rfl,rfl,rfl⟩) ?_ ?_
 .rintro i fr hp _ ⟨rfl,cU,g6,g7,g8,g3⟩;simp[cU,g7,g8,g3]
 .rintro o fr hp hn ⟨rfl,cU,g3⟩;obtain⟨r,h',e,hN⟩:=af hp;obtain⟨⟨r',s1,s2⟩,s3⟩:=Gk hN;have q4:=λ(ops:Array Oper) (d:Tmp) (rest:List Oper) (fr:LA) (h:Hp)=>kW (C:=cx) (cal:=cW cx M true) (ops:=ops) s3 d rest fr h
  simp[cU,g3,e,q4];exact gz ⟨_,s1,s2⟩
def agN (N D:Nat)(b:Bool)(L:List (List Int))(z:Bool)(h:Hp)(hL:L.length<=1000000)(hLt:∀t∈L,t.length<=1000000/\∀x∈t,i64 x)(hB:oo D (mH L)):
 cW cx (N+2*D+14) b 28 [.ls 1 (iN L) z] h=some (.ls 2 (dI (dP (mH L))) false,h):=by
 refine wH f28 [.tmp 2] rfl ?_ b h;have mi:kx 28=2:=by decide
 rw[mi];have fi:=λx b h (hx:i64 x)=>agC (N+2*D+12) b x h hx
 have fO:=λb h=>ajZ N D b (L.map vy) false h hB
 have fN:=λb h=>Wg N D b h
 have fF:∀(id:Nat) (h:Hp),h[id]?=some (.row (vx (L.map vy)).flatten)->∃h',cW cx (N+2*D+13) true 57 [.sl id 1 0 (vx (L.map vy)).length false] h=some (.ls 2 (dI (dP (mH L))) false,h'):=λid h dC=>by
  obtain⟨h',e,_⟩:=OQ (f:=57) (n:=N+2*D+12) rfl (by kernel_rfl) rfl id h (by omega) (xL _).1 (xL _).2 dC λh=>fO true h
  exact⟨h',e⟩
 rw[show N+2*D+12+1=N+2*D+13 by omega]at fi;generalize N+2*D+13=M at fi fO fN fF|-;have hq:=fy L;have hg:=AR L;generalize iN L=cY at hq hg;simp[f28,hq];refine LM
  (λi s iR=>i<=L.length/\s.length=34/\gt s 9= .ls 1 cY z/\gt s 10=L.length/\gt s 11=i/\∃y,gt s 3=y/\kP iR 1 (vx ((L.take i).map vy)) y)
  (λo s iR=>o= .exit 0/\s.length=34/\∃y,gt s 3=y/\kP iR 1 (vx (L.map vy)) y) L.length (by simp;omega) (by exact ⟨by omega,rfl,rfl,rfl,rfl,_,rfl,.inl ⟨rfl,rfl⟩⟩) ?_ ?_
 .rintro i fr hp _ ⟨kY,cU,g9,g10,g11,y,g3,hy⟩;have mj:i<=1000000000000000:=by omega
  by_cases hi:i<L.length
  .obtain⟨t,ht⟩:=eA hi;obtain⟨tW,rT⟩:=hLt t (Zi ht);have hr:cY[i]?=some [.ls 1 (tI t) false]:=by rw[hg,ht];rfl
   have du:=gA hr
   have dD:(L.take (i+1)).map vy=(L.take i).map vy++[vy t]:=by rw[Yx,ht];simp
   have C_:((L.take i).map vy).length<=1000000:=by rw[Yk,Yy];omega
   have YR:=dU t;have tQ:=lf t;generalize hT:tI t=iO at hr du YR tQ;simp[cU,g9,g10,g11,hi,hq,du,YR];generalize hX:dS cx (cW cx M) (Code.loop _) _=X;have HL:=ux (call:=cW cx M) (λj s=>j<=t.length/\s.1.length=34/\gt s.1 9= .ls 1 cY z/\gt s.1 10=L.length/\gt s.1 11=i/\gt s.1 3=y/\gt s.1 15= .ls 1 iO false/\gt s.1 16=t.length/\gt s.1 17=j/\∃y5,gt s.1 6=y5/\DG hp s.2 t j y5)
    (λ(o:Out) (s:St)=>o= .exit 2/\s.1.length=34/\gt s.1 9= .ls 1 cY z/\gt s.1 10=L.length/\gt s.1 11=i/\gt s.1 3=y/\∃y5,gt s.1 6=y5/\DG hp s.2 t t.length y5)
    t.length (by simp;omega) X _ _ _ hX ⟨by omega,by simp[cU],by simp[g9],by simp[g10],by simp[g11],by simp[g3],by simp[cU],by simp[cU],by simp[cU],_,by simp[cU],agM _ _⟩ (by
    rintro j xz h2 _ ⟨Qj,fl,k9,qQ,OP,k3,k15,k16,k17,y5,k5,w⟩;simp only at fl k9 qQ OP k3 k15 k16 k17 k5 w;have DE:j<=1000000000000000:=by omega
    have q5:=oG (λv=>w.Es.np v)
    by_cases hj:j<t.length
    .obtain⟨x,hx⟩:=eA hj;have hxi:=rT x (Zi hx);have fx:=λb h=>fi x b h hxi
     rw[Cr hxi]at fx;have hs:iO[j]?=some [.sc (.int .i64 x)]:=by rw[tQ,hx];rfl
     have kC:=gA hs
     obtain⟨id,h3,b1,w1⟩:=w.app hx tW hxi;simp[fl,k9,qQ,OP,k3,k15,k16,k17,k5,q5,hj,YR,kC,fx,aaW,b1,di DE];exact⟨by omega,w1⟩
    .have jU:j=t.length:=by omega
     subst jU;simp[fl,k9,qQ,OP,k3,k16,k17,k5];exact w)
   obtain⟨o,xz,h2,rfl,rfl,fl,k9,qQ,OP,k3,y5,k5,w⟩:=HL;simp only at fl k9 qQ OP k3 k5 w;have q3:=oG (λv=>hy.np v)
   rcases w.put hy C_ with⟨ht0,rfl,id,h4,b1,b2⟩|⟨k,h',rfl,aa,ae,id,h4,b1,b2⟩
   .generalize((L.take i).map vy).length=m at b1 b2;simp[fl,k9,qQ,OP,k3,k5,q3,b1,di mj];rw[<-List.map_take,dD];exact⟨hi,hi,b2⟩
   .generalize((L.take i).map vy).length=m at b1 b2;generalize vR t=vr at aa ae b1 k5;simp[fl,k9,qQ,OP,k3,k5,q3,aa,ae,b1,di mj];rw[<-List.map_take,dD];exact⟨hi,hi,b2⟩
  .have gG:i=L.length:=Yc kY (Yb hi);subst gG;simp[cU,g10,g11,g3];rw[Yz]at hy;exact hy
 .rintro o fr hp hn ⟨rfl,cU,y,g3,hy⟩;rcases hy with⟨h1,rfl⟩|⟨h1,id,rfl,dC⟩
  .have hL0:L=[]:=by cases L with
    |nil=>rfl
    |cons a l=>simp[vx]at h1
   subst hL0;simp[cU,g3,fN];exact gz ⟨_,rfl,rfl⟩
  .obtain⟨h',e⟩:=fF id hp dC;simp[cU,g3,e];exact gz ⟨_,rfl,rfl⟩
def BW {sz:Nat}{pre post:List LA}{r:LA}{o m:Nat}(hr:∀y∈pre,y.length=sz)(nC:r.length=sz)(ho:o+m<=sz):((pre++[r]++post).flatten.drop (pre.length*sz+o)).take m=(r.drop o).take m:=by
 have hA:pre.flatten.length=pre.length*sz:=dH pre hr;have e:(pre++[r]++post).flatten=pre.flatten++(r++post.flatten):=by simp
 rw[e,<-hA,List.drop_length_add_append,List.drop_append_of_le_length (by omega),List.take_append_of_le_length (by simp;omega)]
def aj6 (c:iP):iP:=⟨c.key,Cn c.v⟩
structure CpP (h:Hp)(l:List iP)(x:AV)(h':Hp):Prop where
 y:∀(h2:Hp),(∀(i:Nat) (b:fp),h.length<=i->h'[i]?=some b->h2[i]?=some b)->∃y,(∀m,Ae.dq h2 (m+1) x=some y)/\Ir 6 nfP y= .ls 6 (iy (l.map aj6)) false
 f:∀(i:Nat) (b:fp),h[i]?=some b->h'[i]?=some b
 np:∀v:Value,x≠ .pn v
 c:cls x=some [x]
@[simp] def ai1 (m:Nd):(eo m)[0]?=some (.sc (.int .i64 m.id)):=rfl
@[simp] def aiq (m:Ed):(eY m)[0]?=some (.sc (.int .i64 m.id)):=rfl
@[simp] def ajb (m:Nd)(h:0< (eo m).length):(eo m)[0]'h=m.id:=rfl
@[simp] def ajg (m:Ed)(h:0< (eY m).length):(eY m)[0]'h=m.id:=rfl
@[simp] def aiU (m:Nd):(eo m).take 3=eo m:=rfl
@[simp] def aik (m:Ed):(eY m).take 5=eY m:=rfl
def bytes_beq (s:ByteArray):(s==s)=true:=by
 obtain⟨d⟩:=s;show(d==d)=true;simp
end
section
attribute [local simp] zi da XM
section
variable {C : Cx} {cal : FuncId -> LA -> Hp -> Option (AV × Hp)}
def aed (x y:Option (AV × Hp))(r:Option (Out × St)):Option (Out × St):=match x,y with|some (v,_),some (v',_)=>(if jI v' v=true then r else none)|_,_=>none
@[simp] def Rj (v v':AV)(h h':Hp)(r:Option (Out × St)):aed (some (v,h)) (some (v',h')) r=if jI v' v=true then r else none:=rfl
def acq (x:Option Oper)(f:Oper->Option (Out × St)):Option (Out × St):=match x with|some o=>f o|none=>none
@[simp] def CA (o:Oper)(f:Oper->Option (Out × St)):acq (some o) f=f o:=rfl
def yY (C:Cx)(cal:FuncId->LA->Hp->Option (AV × Hp))(l:List Oper)(s:St)(z:Option (Out × St)):List (Nat × Nat)->Option (Out × St)
 | []=>z
 |(j,m)::ps=>acq l[j]? λo=>pD (dz C cal l.toArray (l.take j) s) λsj=>pD (dz C cal l.toArray (l.take m) s) λsm=>aed (n0 C cal (ev C sj.1) sj.2 o) (n0 C cal (ev C sj.1) sm.2 o) (yY C cal l s z ps)
def ET (l:List Oper)(s:St):∀ps,yY C cal l s none ps=none
 | []=>rfl
 |
  (j,m)::ps=>by
  unfold yY;rw[ET l s ps];cases l[j]? with
  |none=>rfl
  |some o=>
  rw[CA];cases dz C cal l.toArray (l.take j) s with
  |none=>rfl
  |
   some sj=>
   cases dz C cal l.toArray (l.take m) s with
   |none=>rfl
   |
    some sm=>
    simp only[pD,aed];split<;>(try rfl);split<;>rfl
def okM (l:List Oper)(ps:List (Nat × Nat)):Bool:=ps.all λp=>(match l[p.1]? with|some o=>o.guard.isNone|none=>false) && decide (p.2<=l.length)
def JD {l:List Oper}{s:St}{mX:List St}(hL:gD C cal l.toArray l s=some mX)(z:Option (Out × St)):∀ps,okM l ps=true->yY C cal l s z ps=if ps.all (sameAt C cal l.toArray mX)then z else none
 | [],_=>rfl
 |
  (j,m)::ps,hk=>by
  unfold okM at hk;rw[Zn,Zh,Zh,Zz]at hk;obtain⟨⟨r_,hm⟩,SI⟩:=hk;have ih:=JD hL z ps SI;obtain⟨o,ho⟩:∃o,l[j]?=some o:=by
   cases q:l[j]? with
   |none=>dsimp only at r_;rw[q]at r_;cases r_
   |some o=>exact⟨o,rfl⟩
  dsimp only at r_ hm;rw[ho]at r_;have hg:=Yd.1 r_;have hj:j<=l.length:=Nat.le_of_lt (Za.1 ho).1;have s6:=sU l s mX hL;have h1:=s6 j hj;have h2:=s6 m hm;have Wh:l.toArray[j]?=some o:=by simpa using ho
  unfold yY;rw[ih,Zn,ho,CA];cases hq:dz C cal l.toArray (l.take j) s with
  |
   none=>
   have:sameAt C cal l.toArray mX (j,m)=false:=by
    simp only[sameAt,Wh,h1,hq]
   rw[this];rfl
  |
   some sj=>
   cases hr:dz C cal l.toArray (l.take m) s with
   |
    none=>
    have:sameAt C cal l.toArray mX (j,m)=false:=by
     simp only[sameAt,Wh,h1,hq,h2,hr,gX,hg]
    rw[this];rfl
   |
    some sm=>
    simp only[CB];cases ha:n0 C cal (ev C sj.1) sj.2 o with
    |
     none=>
     have:sameAt C cal l.toArray mX (j,m)=false:=by
      simp only[sameAt,Wh,h1,hq,h2,hr,gX,hg,ha]
     rw[this];rfl
    |
     some q=>
     obtain⟨v,h'⟩:=q;cases hb:n0 C cal (ev C sj.1) sm.2 o with
     |
      none=>
      have:sameAt C cal l.toArray mX (j,m)=false:=by
       simp only[sameAt,Wh,h1,hq,h2,hr,gX,hg,ha,hb]
      rw[this];rfl
     |
      some q'=>
      obtain⟨v',h''⟩:=q';have:sameAt C cal l.toArray mX (j,m)=jI v' v:=by
       simp only[sameAt,Wh,h1,hq,h2,hr,gX,hg,ha,hb]
      rw[this];simp only[Rj];cases jI v' v<;>rfl
def pL {l:List Oper}(ps:List (Nat × Nat))(hn:(needs C l.toArray,Hv C l.toArray)=(ps,false))(hk:okM l ps=true)(s:St):td C cal true l s=yY C cal l s (DH (dz C cal l.toArray l s)) ps:=by
 have hn1:=congrArg Prod.fst hn;have hth:=congrArg Prod.snd hn;dsimp only at hn1 hth;cases hL:gD C cal l.toArray l s with
 |
  none=>
  rw[xM];have h0:dz C cal l.toArray l s=none:=sV hL;rw[h0];show wR C cal l.toArray s=_;have:DH (none:Option St)=none:=rfl;rw[this,ET];simp only[wR,hth,Yq,if_false]
 |
  some mX=>
  obtain⟨S,_,el,e1,_⟩:=rL l s mX hL;have hr:dz C cal l.toArray l s=some (S l.length):=by rw[<-gU,hL,Option.bind_some,e1 l.length (Yt _)]
  rw[xM,hr,Rk,hL,hn1,JD hL _ ps hk];dsimp only;rw[e1 l.length (Yt _)];rfl
end
def CC :∀{xs ys:LA},mZ xs xs=true->mZ ys ys=true->mZ (xs++ys) (xs++ys)=true
 | [],_,_,h=>h
 |
  x::xs,ys,h,k=>by
  rw[mZ,Zh]at h;rw[Zv,mZ,h.1,CC h.2 k];rfl
mutual
def OT :∀v:V,mZ (enc v) (enc v)=true
 |
  .mk k n d s z l=>by
  have h:=Wi l;have e:jI (ql z (dN l)) (ql z (dN l))=true:=by
   unfold ql;cases z && (dN l).isEmpty
   .simp[jI,h]
   .simp[jI,Ae.rZ]
  simp only[enc,mZ,jI,Ae.rZ,bytes_beq,decide_true,Bool.and_self,e]
def Wi :∀l:List V,tH (dN l) (dN l)=true
 | []=>by simp[dN,tH]
 |x::xs=>by simp[dN,tH,OT x,Wi xs]
end
def acr (c:Ch):mZ (dp c) (dp c)=true:=CC (by simp[mZ,jI,Ae.rZ,bytes_beq]) (OT c.v)
def OU (l:List iP):tH (iy l) (iy l)=true:=rM λr hr=>by
 obtain⟨c,_,rfl⟩:=Yi.1 hr;have e:lM c=[.sc (.string c.key)]++enc c.v:=rfl;rw[e];exact CC (by simp[mZ,jI,Ae.rZ,bytes_beq]) (OT c.v)
def OV (l:List ByteArray):tH (gP l) (gP l)=true:=rM λr hr=>by
 obtain⟨c,_,rfl⟩:=Yi.1 hr;simp[mZ,jI,Ae.rZ,bytes_beq]
def Gy (l:List Nd):tH (lU l) (lU l)=true:=rM λr hr=>by
 obtain⟨c,_,rfl⟩:=Yi.1 hr;simp[eo,iK,iE,mZ,jI,Ae.rZ,OU,OV]
def Gz (l:List Ed):tH (mA l) (mA l)=true:=rM λr hr=>by
 obtain⟨c,_,rfl⟩:=Yi.1 hr;simp[eY,iE,mZ,jI,Ae.rZ,OU,bytes_beq]
def Rl {f:FuncId}{args:LA}{n:Nat}(bad:Nat->Bool)(r0:AV)(fi:Fi)(hF:cx.F f=some fi)(iG:I3 cx bad fi.body=true)(hs:cx.ox f=none)(hi:cx.inl f=false)(hl:args.length<=fi.ntmps)(hc:args.all d_=true)
 (hb:∃r h',eQ fi.res (gM cx (cW cx n) bad fi.body (args++List.replicate (fi.ntmps-args.length) .un,[]))=some (r,h')/\∃r',Ae.dq h' 8 r=some r'/\Ai r'=r0) (ht:(vM f && Dw f)=true:=by decide) (b:Bool) (h:Hp):cW cx (n+1) b f args h=some (r0,h):=by
 obtain⟨r,h',hb,r',hr,hR⟩:=hb;rw[Zh]at ht;have:=nD (C:=cx) hs hi (rv ht.1) hc (by rw[yK hF iG hl];exact hb) hr b h;rw[this];show some (LS f r',h)=_;unfold LS;rw[ht.2];simp[hR]
def At.vg {h:Hp}{i:Nat}{b:fp}(k:At h i b):h[i]?=some b:=k
def At.set {h:Hp}{i j:Nat}{b:fp}(k:At h i b)(hn:j≠i)(y:fp):At (h.set j y) i b:=by
 unfold At at *;rw[Zq hn];exact k
def At.lt {h:Hp}{i:Nat}{b:fp}(k:At h i b):i<h.length:=(Za.1 k).1
def At.new {h:Hp}{i:Nat}{b:fp}(k:At h i b)(y:fp):At (h.set i y) i y:=Zj k.lt
def aee (g:Gr)(u v:Value):Ai (.tp [.ag (dn g),.sc u,.sc v])= .tp [.ag (dn g),.sc u,.sc v]:=by simp[Ai,LU,dn,gh,gE,uh,xp,xq]
def GA (N D:Nat)(b:Bool)(g:Gr)(cs:List Ch)(z:Bool)(h:Hp)(hg:AX D g)(hl:cs.length<=1000000)(hc:∀c∈cs,fB c.v<=D/\gV c.v):
 cW cx (N+3*D+11) b 16 [.ag (dn g),.ls 10 (zd cs) z] h=some (.tp [.ag (dn (jG g cs).1),.sc (.int .i64 (jG g cs).2.1),.sc (.int .i64 (jG g cs).2.2)],h):=by
 refine Rl (f:=16) (n:=N+3*D+10) (args:=[.ag (dn g),.ls 10 (zd cs) z]) (λi=>i==7) (.tp [.ag (dn (jG g cs).1),.sc (.int .i64 (jG g cs).2.1),.sc (.int .i64 (jG g cs).2.2)]) ⟨f16.ntmps,(f16.body).getD .skip,[.cell 4 4 true,.tmp 5,.tmp 6]⟩ (by kernel_rfl) (by kernel_rfl) rfl (by kernel_rfl) (by simp[f16]) rfl ?_ (by decide) b h;have aa:=λbb hh=>Ek (N+D+2) D bb g hh hg
 rw[show N+D+2+2*D+8=N+3*D+10 by omega]at aa;have ae:=λ(gi:Gr) (c:Ch) bb hh (H:p9 D gi) (hd:fB c.v<=D/\gV c.v)=>UK N D bb gi c hh H.v hd.1 hd.2
 unfold jG;generalize N+3*D+10=M at aa ae;by_cases he:gN g=0
 .rw[db (by simp[he])];have F0:=Gu he hg;have hq:=wm cs;have tQ:=Gh cs;generalize zd cs=cY at hq tQ|-;generalize hT:AV.tp [.ag (dn (ja g cs 0).1),.sc (.int .i64 (ja g cs 0).2.1),.sc (.int .i64 (ja g cs 0).2.2)]=T;rw[he]at aa;simp only[dn,gh,gE]at aa;simp[f16,dn,gh,gE,aa];refine mS (C:=cx) (G:=λr=>∃r0 h',eQ _ (qw _ _ _ (dL _ r) _)=some (r0,h')/\∃r',Ae.dq h' 8 r0=some r'/\Ai r'=T)
   (λi s=>∃gi,i<=cs.length/\s.1.length=41/\gt s.1 1= .ls 10 cY z/\gt s.1 2= .pt 0 0/\gt s.1 4= .pt 1 0/\gt s.1 8=i/\ja g cs 0=ja gi (cs.drop i) i/\p9 D gi/\At s.2 0 (.row (dn gi))/\At s.2 1 (.row [(),(),(0:Int),(0:Int)]))
   (λo s=>s.1.length=41/\gt s.1 4= .pt 1 0/\((o= .ret/\∃i e:Int,gt s.1 5=i/\gt s.1 6=e/\ja g cs 0=(iq,i,e)/\At s.2 1 (.row [(),(),(0:Int),(0:Int)]))\/
    (o= .exit 0/\gt s.1 1= .ls 10 cY z/\gt s.1 2= .pt 0 0/\∃gi,ja g cs 0=(gi,(cs.length:Int),0)/\At s.2 0 (.row (dn gi))/\At s.2 1 (.row [(),(),(0:Int),(0:Int)])))) cs.length (by simp;omega) ?_ ?_ ?_
  .exact⟨g,by omega,rfl,rfl,rfl,rfl,rfl,rfl,F0,rfl,rfl⟩
  .rintro i fr hp n_ ⟨gi,rE,cU,g1,g2,g4,g8,dD,FI,Om,ta⟩;simp only at cU g1 g2 g4 g8 Om ta;by_cases hi:i<cs.length
   .obtain⟨c,nM⟩:=eA hi;have hr:cY[i]?=some (dp c):=by rw[tQ,nM];rfl
    have du:=gA hr
    have Dh:cs.drop i=c::cs.drop (i+1):=by
     obtain⟨k,e⟩:=Za.1 nM;rw[Zm k,e]
    have SH:=hc c (Zi nM);have ae:=λbb hh=>ae gi c bb hh FI SH
    have hfs:=yT (c:=c) FI SH.1 SH.2;rw[Dh,ja]at dD;have hf:=di (i:=i) (by omega);generalize jc gi c=r at dD ae hfs;obtain⟨G,e⟩:=r;dsimp only at dD ae hfs;have l1:=ta.lt;have a0:=Om.vg;have a1:=ta.vg;have aq:∀y k,(hp++y)[0]'k= .row (dn gi):=λy k=>(Om.app y).get k
    have a0':∀y,(hp++y)[0]?=some (.row (dn gi)):=λy=>(Om.app y).vg
    have an:∀y,(hp++[y])[hp.length]?=some y:=λy=>by simp
    have a1':∀y,(hp++y)[1]?=some (.row [(),(),(0:Int),(0:Int)]):=λy=>(ta.app y).vg
    by_cases h0:e=0
    .rw[dd h0]at dD;subst h0;simp only[dn,gh,gE]at ae a0 a0' aq;simp[cU,g1,g8,hi,hq];rw[pL [(0,10),(4,10),(5,10)] ?_ ?_]
     rotate_left
     .kernel_rfl
     .kernel_rfl
     simp(maxSteps:=1000000) [yY,cU,g1,g2,g4,g8,hi,hq,du,hf,ae,a0,aq,da,jI,mZ,Ae.rZ,acr,Gy,Gz];exact⟨hi,G,dD,hfs rfl,(Om.app _).new _,(ta.app _).set (j:=0) (by decide) _⟩
    .rw[db h0]at dD;simp only[dn,gh,gE]at ae a0 a0' aq;simp[cU,g1,g8,hi,hq];rw[pL [(0,10),(4,10),(5,10)] ?_ ?_]
     rotate_left
     .kernel_rfl
     .kernel_rfl
     simp(maxSteps:=1000000) [yY,cU,g1,g2,g4,g8,hi,hq,du,h0,ae,a0,a1',aq,da,jI,mZ,Ae.rZ,acr,Gy,Gz];exact⟨dD,(ta.app _).new _⟩
   .have gG:i=cs.length:=Yc rE (Yb hi);subst gG;rw[List.drop_length,ja]at dD;simp[cU,g1,g2,g4,g8,hq];exact⟨gi,dD,Om,ta⟩
  .rintro o fr hp hn ⟨cU,g4,⟨rfl,i,e,g5,g6,dD,ta⟩|⟨rfl,g1,g2,gi,dD,Om,ta⟩⟩
   .simp only at cU g4 g5 g6 ta;rw[dD]at hT;have a1:=ta.vg;simp[g4,g5,g6,a1];exact gz ⟨_,rfl,hT⟩
   .simp only at cU g1 g2 Om ta;rw[dD]at hT;have a0:=Om.vg;have a1:=ta.vg;have s1:∀y,(hp.set 1 y)[1]?=some y:=λy=>(ta.new y).vg
    simp only[dn,gh,gE]at a0;simp[cU,g1,g2,g4,hq,a0,a1,s1,da];exact gz ⟨_,rfl,by rw[<-hT];exact aee gi _ _⟩
 .rw[dd he];generalize gN g=e at aa he;simp only[dn,gh,gE]at aa;simp[f16,dn,gh,gE,aa,he,da];exact gz ⟨_,rfl,rfl⟩
end
end Go.Proofs.YtaibpnppeiigdaaGreatDoor
