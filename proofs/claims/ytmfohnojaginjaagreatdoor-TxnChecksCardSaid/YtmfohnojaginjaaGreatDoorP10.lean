/- Part of the proof. -/
import Derived.Test.YtmfohnojaginjaaGreatDoorP9
set_option linter.all false
set_option maxHeartbeats 4000000
set_option maxRecDepth 100000
namespace Go.Proofs.YtmfohnojaginjaaGreatDoor
open Go Go.Ae Go.Proofs.Tryz
def vl :List Int->Int
 | []=>0
 |d::ds=>d+1000*vl ds
def oX :Nat->Int->List Int
 |0,_=> []
 |n+1,m=>m % 1000::oX n (m/1000)
def CZ(ds:List Int):Prop:=∀d∈ds,0<=d/\d<1000
def pj :∀(n:Nat)(m:Int),(oX n m).length=n
 |0,_=>rfl
 |n+1,m=>by simp[oX,pj n]
def Mw :∀{ds:List Int},CZ ds->0<=vl ds/\vl ds<1000^ds.length
 | [],_=>by simp[vl]
 |
  d::ds,h=>by
  have h1:=h d (by simp);have h2:=Mw (ds:=ds) λx hx=>h x (by simp[hx])
  simp only[vl,Xe,Int.pow_succ];omega
def Mx :∀{ds:List Int},CZ ds->oX ds.length (vl ds)=ds
 | [],_=>rfl
 |
  d::ds,h=>by
  have h1:=h d (by simp);have h2:=Mx (ds:=ds) λx hx=>h x (by simp[hx])
  simp only[vl,Xe,oX];rw[show(d+1000*vl ds) % 1000=d by omega,show(d+1000*vl ds)/1000=vl ds by omega,h2]
def A6 :∀(n:Nat)(m:Int),CZ (oX n m)
 |0,_,d,h=>by simp[oX]at h
 |
  n+1,m,d,h=>by
  simp only[oX,Yw]at h;rcases h with rfl|h
  .omega
  .exact A6 n _ d h
def EZ :∀(n:Nat)(m:Int),0<=m->m<1000^n->vl (oX n m)=m
 |0,m,h0,h1=>by simp at h1;simp[oX,vl];omega
 |
  n+1,m,h0,h1=>by
  rw[Int.pow_succ]at h1;simp only[oX,vl];rw[EZ n (m/1000) (by omega) (by omega)];omega
def Sz :∀(ds:List Int)(k:Nat)(o x:Int),ds[k]?=some o->vl (ds.set k x)=vl ds+(x-o)*1000^k
 | [],k,o,x,h=>by simp at h
 |
  d::ds,0,o,x,h=>by
  simp at h;subst h;simp[vl];omega
 |
  d::ds,k+1,o,x,h=>by
  simp at h;simp only[List.set_cons_succ,vl,Sz ds k o x h,Int.pow_succ]
  grind
def X6{ds:List Int}(h:CZ ds)(k:Nat){x:Int}(hx:0<=x/\x<1000):CZ (ds.set k x):=by
 intro d hd;rcases List.mem_or_eq_of_mem_set hd with h1|h1
 .exact h d h1
 .rw[h1];exact hx
def SC :∀n,vl (List.replicate n 0)=0
 |0=>rfl
 |n+1=>by simp[List.replicate_succ,vl,SC n]
def SD(p o cy d c s:Int)(hs:s=cy+o+d*(c % 1000)):(s % 1000-o)*p+(s/1000+d*(c/1000))*(p*1000)=(cy+d*c)*p:=by
 have h1:s=1000*(s/1000)+s % 1000:=by omega
 have h2:c=1000*(c/1000)+c % 1000:=by omega
 have h3:d*c=d*(1000*(c/1000))+d*(c % 1000):=by rw[<-Int.mul_add,<-h2]
 generalize s/1000=u,s % 1000=v,c/1000=e,c % 1000=f at *;rw[h3]
 grind
section
attribute [local simp] eD
def yj{j:Nat}(h:(1000:Int)^j<=1000000000000000000000000000000):j<11:=by
 apply Classical.byContradiction;intro hn;have h1:(1000:Nat)^11<=1000^j:=Nat.pow_le_pow_right (by decide) (by omega);have h2:((1000^j:Nat):Int)=(1000:Int)^j:=by simp
 omega
def Oi{k i A:Nat}(hk:0<k)(h:(k:Int)*1000^i<=A)(hA:A<=1000000000000000):(1000:Int)^i<=1000000000000000000000000000000:=by
 have h1:(1:Int)*1000^i<=k*1000^i:=Xg (by omega) (Int.pow_nonneg (by decide));omega
def aiU{k i A:Nat}(h:(k:Int)*1000^i<=A)(hA:A<=1000000000000000):k<=1000000000000000:=by
 have h2:((1000^i:Nat):Int)=(1000:Int)^i:=by simp
 have h3:0< (1000:Nat)^i:=Nat.pow_pos (by decide);have h1:(k:Int)*1<=k*1000^i:=Int.mul_le_mul_of_nonneg_left (by omega) (by omega);omega
def aiV{k i A B:Nat}{v:Int}(hA:A<=1000000000000000)(hB:B<=1000000000000000)(hv:v+k*B*1000^i=A*B):v+((k % 1000:Nat):Int)*B*1000^i<=1000000000000000000000000000000:=by
 have h1:((k % 1000:Nat):Int)*B*1000^i<=k*B*1000^i:=Xg (Xg (by omega) (by omega)) (Int.pow_nonneg (by decide));have h2:(A:Int)*B<=1000000000000000*1000000000000000:=Int.mul_le_mul (by omega) (by omega) (by omega) (by decide);omega
def dg(ds:List Int):LA:=ds.map λd=> .sc (.int .i64 d)
def sX(ds:List Int):AV:= .ls 1 (ds.map λd=> [.sc (.int .i64 d)]) false
@[simp] def ae7(ds:List Int):(dg ds).length=ds.length:=by simp[dg]
def acP{ds:List Int}{k:Nat}{o:Int}(h:ds[k]?=some o):(dg ds)[k]?=some (.sc (.int .i64 o)):=by simp[dg,h]
def uz(ds:List Int)(k:Nat)(x:Int)(h:k<ds.length):cn (dg ds) k [x]=dg (ds.set k x):=by
 unfold cn dg;rw[List.set_eq_take_append_cons_drop,cq h];simp
def X7(h:Hp)(n:Nat)(ds:List Int):(dg ds).mapM (cD h n)=some (dg ds):=by
 induction ds with
 |nil=>rfl
 |cons d ds ih=>
  show List.mapM (cD h n) (AV.sc (.int .i64 d)::dg ds)=_;rw[Zo,ih];cases n<;>rfl
def E0(ds:List Int)(k:Bool)(h:Hp)(id:Nat)(hr:rowOf h id=some (dg ds)):cD h 8 (.sl id 1 0 ds.length k)=some (sX ds):=by
 simp only[cD,hr];rw[cq (by simp)];have e:List.take (ds.length*1) (List.drop 0 (dg ds))=dg ds:=by
  rw[Yi,Xa (by simp)]
 rw[e,X7];simp only[Yx,sX,Zc,AV.ls.injEq,true_and,and_true];apply List.ext_getElem?;intro i;by_cases hi:i<ds.length
 .rw[Zs,Xb hi,Zs,Zb hi];simp[dg,Zm,hi]
 .rw[Xh (by simp;omega),Xh (by simp;omega)]
def SE{i j k B d c A:Nat}{cy T:Int}{es:List Int}(hk:0<k)(hki:(k:Int)*1000^i<=A)(hA:A<=1000000000000000)(hB:B<=1000000000000000)(E1:(c:Int)*1000^j<=B*1000^i)(Oj:CZ es)(oT:vl es+(cy+d*c)*1000^j=T)(hT:T<=1000000000000000000000000000000)(hgo:0<c\/0<cy):j<11:=by
 have tm:=Mw Oj;have hpj:(0:Int)<1000^j:=Int.pow_pos (by decide);have Ol:(0:Int)<1000^i:=Int.pow_pos (by decide);have hdc:(0:Int)<=d*c:=Int.mul_nonneg (by omega) (by omega);apply yj;rcases hgo with hc|hc
 .have q1:(1:Int)*1000^j<=c*1000^j:=Xg (by omega) (Int.le_of_lt hpj);have q2:(B:Int)*1000^i<=10^15*1000^i:=Xg (by omega) (Int.le_of_lt Ol);have q3:(1:Int)*1000^i<=k*1000^i:=Xg (by omega) (Int.le_of_lt Ol);generalize(1000:Int)^j=u,(1000:Int)^i=v at *;omega
 .have q1:(1:Int)*1000^j<=(cy+d*c)*1000^j:=Xg (by omega) (Int.le_of_lt hpj);omega
def Kh{d c e f:Nat}{cy o S:Int}(hd:d<=999)(hc:c<=1000000000000000)(ho:0<=o/\o<1000)(X8:0<=cy)(Om:cy<=2000)(he:e=c % 1000)(hf:f=c/1000)(hS:S=cy+o+d*e):
 (0<=S/\S<=2000000)/\S.tmod 1000=S % 1000/\S.tdiv 1000=S/1000/\cS .i64 (cy+o)=cy+o/\cS .i64 ((d:Int)*e)=d*e/\cS .i64 (cy+o+d*e)=S/\cS .i64 (f:Int)=f/\cS .i64 (S/1000)=S/1000:=by
 have hde:(0:Int)<=d*e/\(d:Int)*e<=999*999:=⟨Int.mul_nonneg (by omega) (by omega),Int.mul_le_mul (by omega) (by omega) (by omega) (by decide)⟩;have b:0<=S/\S<=2000000:=by omega
 exact⟨b,Int.tmod_eq_emod_of_nonneg b.1,Int.tdiv_eq_ediv_of_nonneg b.1,cu (by omega) (by omega),cu (by omega) (by omega),by rw[<-hS];exact cu (by omega) (by omega),cu (by omega) (by omega),cu (by omega) (by omega)⟩
def Ki{i j B d c e f q:Nat}{cy T o S:Int}{es:List Int}(hjq:j+q=14)(hj:j<11)(pZ:i<=j)(mL:es.length=14)(Oj:CZ es)(acQ:c<=1000000000000000)(E1:(c:Int)*1000^j<=B*1000^i)(oT:vl es+(cy+d*c)*1000^j=T)(ho:es[j]?=some o)(he:e=c % 1000)(hf:f=c/1000)(hS:S=cy+o+d*e)(hSb:0<=S/\S<=2000000):
 ∃k',k'<q/\∃(j' c':Nat)(cy':Int)(es':List Int),j'+k'=14/\i<=j'/\es'.length=14/\CZ es'/\0<=cy'/\cy'<=2000/\c'<=1000000000000000/\(c':Int)*1000^j'<=B*1000^i/\vl es'+(cy'+d*c')*1000^j'=T/\(f:Int)=c'/\S/1000=cy'/\(j:Int)+1=j'/\dg (es.set j (S % 1000))=dg es':=by
 have hpj:(0:Int)<1000^j:=Int.pow_pos (by decide);have dM:=SD (1000^j) o cy d c S (by rw[hS,he];simp);have u9:=Sz es j o (S % 1000) ho;have vB:vl (es.set j (S % 1000))+(S/1000+d*f)*1000^(j+1)=T:=by
  have hfi:((f:Nat):Int)=(c:Int)/1000:=by rw[hf];simp
  rw[u9,hfi,Int.pow_succ,<-oT,<-dM]
  grind
 have vT:(f:Int)*1000^(j+1)<=B*1000^i:=by
  refine Int.le_trans ?_ E1;have e1:(f:Int)*1000<=c:=by omega
  have:=Xg e1 (Int.le_of_lt hpj);rw[Int.pow_succ]
  grind
 clear dM u9 E1 oT;exact⟨q-1,by omega,j+1,f,S/1000,es.set j (S % 1000),by omega,by omega,by simpa using mL,X6 Oj j (by omega),by omega,by omega,by omega,vT,vB,rfl,rfl,by omega,rfl⟩
def G5(n:Nat)(b:Bool)(x:Int)(h:Hp):ch cx (n+1) b 274 [x] h=some (.sc (.int .i64 (ij x)),h):=by
 refine eR f274 [.tmp 2] rfl rfl ?_ b h;by_cases h1:x<0
 .simp[f274,h1,ij]
 .by_cases h2:0<x<;>simp[f274,h1,h2,ij]
def DC(n:Nat)(b:Bool)(A B:Nat)(h:Hp)(hA:A<=1000000000000000)(hB:B<=1000000000000000):
 ch cx (n+1) b 275 [A,B] h=some (sX (oX 14 (A*B)),h):=by
 refine gD (r:= .sl 0 1 0 14 false) (r':=sX (oX 14 (A*B))) (h':=[.row (dg (oX 14 (A*B)))]) ⟨f275.ntmps,(f275.body).getD .skip,[.tmp 4]⟩ (by kernel_rfl) (by kernel_rfl) rfl (by kernel_rfl) (by simp[f275]) rfl ?_ ?_ b h
 .have SF:List.flatMap (λ_=> [AV.sc (Value.int IntKind.i64 0)]) (List.range 14)=dg (List.replicate 14 0):=rfl;simp[f275,show 14<=maxLen from(by unfold maxLen;omega),SF, -List.reduceReplicate];refine nV (G:=λx=>dL _ (eX _ _ (du _ x) _)=_)
   (λk s=>∃(i:Nat)(ds:List Int),ds.length=14/\CZ ds/\(k:Int)*1000^i<=A/\vl ds+k*B*1000^i=A*B/\s.1.length=51/\gt s.1 0=k/\gt s.1 1=B/\gt s.1 5= .sl 0 1 0 14 false/\gt s.1 6=i/\s.2=[.row (dg ds)])
   (λo s=>o= .exit 0/\s.1.length=51/\gt s.1 5= .sl 0 1 0 14 false/\s.2=[.row (dg (oX 14 (A*B)))]) A (by simp;omega) ⟨0,List.replicate 14 0,rfl,by intro d hd;have:=(List.mem_replicate.1 hd).2;omega,by simp,by rw[SC];simp,by simp⟩ ?_ ?_
  .rintro k fr h ⟨i,ds,hds,gI,hki,hv,cf,h0,h1,h5,h6,rfl⟩;simp only at cf h0 h1 h5 h6;by_cases hk:0<k
   .obtain⟨u,hu⟩:∃u,u=k/1000:=⟨_,rfl⟩;obtain⟨d,hd⟩:∃d,d=k % 1000:=⟨_,rfl⟩;have hkA:k<=1000000000000000:=aiU hki hA;have hd0:((k:Int).tmod 1000)=(d:Int):=by rw[hd];rfl
    have hd1:((k:Int).tdiv 1000)=(u:Int):=by rw[hu];rfl
    have JY:cS .i64 (u:Int)=(u:Int):=cu (by omega) (by omega);simp[cf,h0,h1,h6,hk,hd0,hd1,JY];have afC:=Oi hk hki hA;have hd9:d<=999:=by omega
    have hul:u<k:=by omega
    have hi14:i<=14:=by have:=yj afC;omega
    have afD:i+(14-i)=14:=by omega
    have hif:14-i<1125899906842624:=by omega
    have hT:vl ds+(d:Int)*B*1000^i<=1000000000000000000000000000000:=by rw[hd];exact aiV hA hB hv
    have e:(k:Int)=1000*(u:Int)+(d:Int):=by omega
    have hTe:vl ds+(d:Int)*B*1000^i+(u:Int)*B*1000^(i+1)=A*B:=by
     rw[<-hv,e,Int.pow_succ]
     grind
    have X9:(u:Int)*1000^(i+1)<=A:=by
     refine Int.le_trans ?_ hki;have e:(u:Int)*1000<=k:=by omega
     have:=Xg e (show(0:Int)<=1000^i from Int.pow_nonneg (by decide));rw[Int.pow_succ]
     grind
    have hfi:cS .i64 ((i:Int)+1)=(i:Int)+1:=by
     have:=yj afC;exact cu (by omega) (by omega)
    generalize hTT:vl ds+(d:Int)*B*1000^i=T at *;refine nV (G:=λx=>vU _ _ _ (eX _ _ (du _ (du _ x)) _))
     (λq s=>∃(j c:Nat)(cy:Int)(es:List Int),j+q=14/\i<=j/\es.length=14/\CZ es/\0<=cy/\cy<=2000/\c<=1000000000000000/\(c:Int)*1000^j<=B*1000^i/\vl es+(cy+d*c)*1000^j=T/\
      s.1.length=51/\gt s.1 0= .sc (.int .i64 u)/\gt s.1 1=B/\gt s.1 5= .sl 0 1 0 14 false/\gt s.1 6=i/\gt s.1 7= .sc (.int .i64 d)/\gt s.1 8=c/\gt s.1 9=cy/\gt s.1 10=j/\s.2=[.row (dg es)])
     (λo s=>o= .exit 2/\s.1.length=51/\gt s.1 0= .sc (.int .i64 u)/\gt s.1 1=B/\gt s.1 5= .sl 0 1 0 14 false/\gt s.1 6=i/\∃es,es.length=14/\CZ es/\vl es=T/\s.2=[.row (dg es)]) (14-i) hif ?_ ?_ ?_
    .refine⟨i,B,0,ds,afD,Xc _,hds,gI,Int.le_refl _,(by decide:(0:Int)<=2000),hB,Int.le_refl _,by rw[<-hTT];simp,?_⟩;simp[cf,h1,h5,h6]
    .rintro q fr h ⟨j,c,cy,es,hjq,pZ,mL,Oj,X8,Om,acQ,E1,oT,cf,h0,h1,h5,h6,h7,h8,h9,lN,rfl⟩;simp only at cf h0 h1 h5 h6 h7 h8 h9 lN;by_cases hgo:0<c\/0<cy
     .have hj:j<11:=SE hk hki hA hB E1 Oj oT hT hgo;obtain⟨o,ho⟩:∃o,es[j]?=some o:=⟨es[j]'(by rw[mL];clear oT E1 hT hTe X9 hki hv;omega),Zb _⟩;have hob:=Oj o (Zi ho);have hdo:=acP ho;obtain⟨e,he⟩:∃e,e=c % 1000:=⟨_,rfl⟩;obtain⟨f,hf⟩:∃f,f=c/1000:=⟨_,rfl⟩;obtain⟨S,hS⟩:∃S,S=cy+o+d*e:=⟨_,rfl⟩;have t0:((c:Int).tmod 1000)=(e:Int):=by rw[he];rfl
      have t1:((c:Int).tdiv 1000)=(f:Int):=by rw[hf];rfl
      obtain⟨sb,s1,s2,aa,af,ah,ai,aj⟩:=Kh hd9 acQ hob X8 Om he hf hS;have fin:=Ki hjq hj pZ mL Oj acQ E1 oT ho he hf hS sb;have acR:j<14:=Nat.lt_trans hj (by decide);have ak:cS .i64 ((j:Int)+1)=(j:Int)+1:=by clear oT E1 hT hTe X9 hki hv;exact cu (by omega) (by omega)
      have acS:j+1<=es.length:=by rw[mL];exact acR
      have tq:=uz es j (S % 1000) acS;clear oT E1 hT hTe X9 hki hv;by_cases hc:0<c
      .simp[cf,h0,h1,h5,h6,h7,h8,h9,lN,hc,acR,acS,hdo,t0,t1,s1,s2,aa,af,ah,ai,aj,ak,tq];obtain⟨k',a1,j',c',cy',es',a2,a3,a4,a5,a6,a7,a8,a9,SG,a11,a12,a13,a14⟩:=fin;exact⟨k',a1,j',a2,a3,c',cy',es',a4,a5,a6,a7,a8,a9,SG,a11,a12,a13,a14⟩
      .have hy:0<cy:=hgo.resolve_left hc;simp[cf,h0,h1,h5,h6,h7,h8,h9,lN,hc,hy,acR,acS,hdo,t0,t1,s1,s2,aa,af,ah,ai,aj,ak,tq];obtain⟨k',a1,j',c',cy',es',a2,a3,a4,a5,a6,a7,a8,a9,SG,a11,a12,a13,a14⟩:=fin;exact⟨k',a1,j',a2,a3,c',cy',es',a4,a5,a6,a7,a8,a9,SG,a11,a12,a13,a14⟩
     .have afE:¬0<c/\¬0<cy:=not_or.1 hgo;obtain rfl:c=0:=Nat.eq_zero_of_not_pos afE.1;obtain rfl:cy=0:=Int.le_antisymm (Int.not_lt.1 afE.2) X8;have hvT:vl es=T:=by simpa using oT
      simp[cf,h0,h1,h5,h6,h8,h9];exact⟨es,mL,Oj,hvT,rfl⟩
    .rintro o fr h hn ⟨rfl,cf,h0,h1,h5,h6,es,mL,Oj,oT,rfl⟩;simp only at cf h0 h1 h5 h6;simp[cf,h0,h1,h5,h6,hfi];exact⟨u,hul,i+1,es,mL,Oj,X9,by rw[oT];exact hTe,rfl,rfl,rfl⟩
   .obtain rfl:k=0:=by omega
    have:ds=oX 14 (A*B):=by
     rw[<-hv,<-hds];simp[Mx gI]
    simp[cf,h0,h5,this]
  .rintro o fr h hn ⟨rfl,cf,h5,rfl⟩;simp only at cf h5;simp[cf,h5]
 .have:=E0 (oX 14 (A*B)) false [.row (dg (oX 14 (A*B)))] 0 rfl
  rwa [pj]at this
def A7 :∀(ds:List Int)(k:Nat),vl ds=vl (ds.take k)+1000^k*vl (ds.drop k)
 | [],k=>by simp[vl]
 |d::ds,0=>by simp[vl]
 |
  d::ds,k+1=>by
  simp only[Yg,Yf,vl,Int.pow_succ];rw[A7 ds k]
  grind
def SH{xs ys:List Int}{k:Nat}{x y:Int}(hx:CZ xs)(hy:CZ ys)(gx:xs[k]?=some x)(gy:ys[k]?=some y)(hd:xs.drop (k+1)=ys.drop (k+1))(dm:x<y):vl xs<vl ys:=by
 have sx:=A7 xs k;have sy:=A7 ys k;obtain⟨kx,ex⟩:=Za.1 gx;obtain⟨ky,ey⟩:=Za.1 gy;rw[Zm kx,ex,hd]at sx;rw[Zm ky,ey]at sy;simp only[vl]at sx sy;have bx:=Mw (ds:=xs.take k) λd h=>hx d (List.mem_of_mem_take h)
 have tu:=Mw (ds:=ys.take k) λd h=>hy d (List.mem_of_mem_take h)
 rw[Xf,Nat.min_eq_left (by omega)]at bx;generalize(1000:Int)^k=p,vl (ys.drop (k+1))=q at *;have:p*(x+1000*q)+p<=p*(y+1000*q):=by
  have h1:p*(x+1000*q)+p=p*(x+1+1000*q):=by grind
  rw[h1];exact Int.mul_le_mul_of_nonneg_left (by omega) (by omega)
 omega
def On(n:Nat)(b:Bool)(xs ys:List Int)(h:Hp)(hx:CZ xs)(hy:CZ ys)(lx:xs.length=14)(ly:ys.length=14):
 ch cx (n+1) b 382 [sX xs,sX ys] h=some (.sc (.int .i64 (ij (vl xs-vl ys))),h):=by
 refine eR f382 [.tmp 4] rfl rfl ?_ b h;simp[f382,sX,lx,show cS .i64 13=13 from rfl];refine nV (G:=λx=>∃h',dL _ (eX _ _ (du _ x) _)=some (_,h'))
  (λk s=>k<=14/\xs.drop k=ys.drop k/\s.1.length=31/\gt s.1 0= .ls 1 (xs.map λd=> [.sc (.int .i64 d)]) false/\gt s.1 1= .ls 1 (ys.map λd=> [.sc (.int .i64 d)]) false/\gt s.1 5= .sc (.int .i64 (k-1)))
  (λo s=>s.1.length=31/\((o= .exit 0/\xs=ys)\/(o= .ret/\gt s.1 4= .sc (.int .i64 (ij (vl xs-vl ys)))))) 14 (by simp) ?_ ?_ ?_
 .simp;rw[Zt (by omega),Zt (by omega)]
 .rintro k fr h ⟨hk,hd,cf,h0,h1,h5⟩;simp only at cf h0 h1 h5;by_cases hz:k=0
  .subst hz;simp at hd;simp[cf,h5,hd]
  .obtain⟨j,rfl⟩:∃j,k=j+1:=⟨k-1,by omega⟩;obtain⟨x,gx⟩:∃x,xs[j]?=some x:=⟨_,Zb (by omega)⟩;obtain⟨y,gy⟩:∃y,ys[j]?=some y:=⟨_,Zb (by omega)⟩;have e5:(((j+1:Nat):Int)-1)=j:=by omega
   rw[e5]at h5;have aa:cS .i64 ((j:Int)-1)=(j:Int)-1:=cu (by omega) (by omega);by_cases dm:x<y
   .have:=SH hx hy gx gy hd dm;have hs:ij (vl xs-vl ys)= -1:=by unfold ij;rw[cq (by omega)]
    simp[cf,h0,h1,h5,gx,gy,dm,hs]
   .by_cases jc:y<x
    .have:=SH hy hx gy gx hd.symm jc;have hs:ij (vl xs-vl ys)=1:=by unfold ij;rw[cm (by omega),cq (by omega)]
     simp[cf,h0,h1,h5,gx,gy,dm,jc,hs]
    .have hxy:x=y:=by omega
     have hd2:xs.drop j=ys.drop j:=by
      obtain⟨kx,ex⟩:=Za.1 gx;obtain⟨ky,ey⟩:=Za.1 gy;rw[Zm kx,Zm ky,ex,ey,hd,hxy]
     simp[cf,h0,h1,h5,gx,gy,dm,jc,aa];exact⟨j,by omega,by omega,hd2,rfl⟩
 .rintro o fr h hn ⟨cf,⟨rfl,hd⟩|⟨rfl,h4⟩⟩
  .simp only at cf;simp[cf,hd,ij]
  .simp only at h4;simp[h4]
def SI(n:Nat)(xs ys:List Int)(hx:CZ xs)(hy:CZ ys)(lx:xs.length=14)(ly:ys.length=14):
 ∃r,(∃es,es.length=14/\r=sX es)/\∀b h,ch cx (n+1) b 381 [sX xs,sX ys] h=some (r,h):=by
 refine gP (f:=381) (n:=n) (args:=[sX xs,sX ys]) (λr=>∃es,es.length=14/\r=sX es) ⟨f381.ntmps,(f381.body).getD .skip,[.tmp 4]⟩ (by kernel_rfl) (by kernel_rfl) rfl (by kernel_rfl) (by simp[f381]) rfl ?_;have SF:List.flatMap (λ_=> [AV.sc (Value.int IntKind.i64 0)]) (List.range 14)=dg (List.replicate 14 0):=rfl;simp[f381,sX,lx,show 14<=maxLen from(by unfold maxLen;omega),SF, -List.reduceReplicate];refine ej (C:=cx) (G:=λx=>∃r h',dL _ (eX _ _ (du _ x) _)=some (r,h')/\∃r',cD h' 8 r=some r'/\∃es,es.length=14/\r'= .ls 1 (List.map (λd=> [AV.sc (Value.int IntKind.i64 d)]) es) false)
  (λi s=>∃(es:List Int)(cy:Int),es.length=14/\0<=cy/\cy<=1/\s.1.length=36/\gt s.1 0= .ls 1 (xs.map λd=> [.sc (.int .i64 d)]) false/\gt s.1 1= .ls 1 (ys.map λd=> [.sc (.int .i64 d)]) false/\gt s.1 5= .sl 0 1 0 14 false/\gt s.1 6=cy/\gt s.1 7=i/\s.2=[.row (dg es)])
  (λo s=>o= .exit 0/\s.1.length=36/\gt s.1 5= .sl 0 1 0 14 false/\∃es,es.length=14/\s.2=[.row (dg es)]) 14 (by decide) ?_ ?_ ?_
 .exact⟨List.replicate 14 0,0,rfl,by decide,by decide,by simp[-List.reduceReplicate]⟩
 .rintro i fr h da ⟨es,cy,mL,u_,rE,cf,h0,h1,h5,h6,h7,rfl⟩;simp only at cf h0 h1 h5 h6 h7;by_cases hi:i<14
  .have p8:(i:Int)<14:=by omega
   obtain⟨x,gx⟩:∃x,xs[i]?=some x:=⟨_,Zb (by omega)⟩;obtain⟨y,gy⟩:∃y,ys[i]?=some y:=⟨_,Zb (by omega)⟩;have gx':∀h:i<xs.length,xs[i]=x:=λh=>by rw[Zb h]at gx;exact Option.some.inj gx
   have gy':∀h:i<ys.length,ys[i]=y:=λh=>by rw[Zb h]at gy;exact Option.some.inj gy
   have bx:=hx x (Zi gx);have tu:=hy y (Zi gy);have Mt:i+1<=es.length:=by omega
   have hi3:i+1<=14:=by omega
   have aa:cS .i64 (cy+x)=cy+x:=cu (by omega) (by omega);have ak:cS .i64 ((i:Int)+1)=(i:Int)+1:=cu (by omega) (by omega);obtain⟨S,hS⟩:∃S,S=cy+x+y:=⟨_,rfl⟩;have af:cS .i64 (cy+x+y)=S:=by rw[hS];exact cu (by omega) (by omega)
   have s1:S.tmod 1000=S % 1000:=Int.tmod_eq_emod_of_nonneg (by omega);have s2:S.tdiv 1000=S/1000:=Int.tdiv_eq_ediv_of_nonneg (by omega);have ah:cS .i64 (S/1000)=S/1000:=cu (by omega) (by omega);have tq:=uz es i (S % 1000) Mt;simp[cf,h0,h1,h5,h6,h7,hi,p8,gy,gx',aa,af,s1,s2,ah,ak,tq,lx,mL,hi3];exact⟨es.set i (S % 1000),by simpa using mL,S/1000,by omega,by omega,rfl,rfl⟩
  .have p8:¬(i:Int)<14:=by omega
   simp[cf,h0,h5,h7,p8,lx];exact⟨es,mL,rfl⟩
 .rintro o fr h hn ⟨rfl,cf,h5,es,mL,rfl⟩;simp only at cf h5;have gw:=E0 es false [.row (dg es)] 0 rfl;rw[mL]at gw;simp[cf,h5];exact gq ⟨_,gw,es,mL,rfl⟩
def DD(n:Nat)(xs ys:List Int)(hx:CZ xs)(hy:CZ ys)(lx:xs.length=14)(ly:ys.length=14):
 ∃r,(∃es,es.length=14/\r=sX es)/\∀b h,ch cx (n+1) b 383 [sX xs,sX ys] h=some (r,h):=by
 refine gP (f:=383) (n:=n) (args:=[sX xs,sX ys]) (λr=>∃es,es.length=14/\r=sX es) ⟨f383.ntmps,(f383.body).getD .skip,[.tmp 4]⟩ (by kernel_rfl) (by kernel_rfl) rfl (by kernel_rfl) (by simp[f383]) rfl ?_;have SF:List.flatMap (λ_=> [AV.sc (Value.int IntKind.i64 0)]) (List.range 14)=dg (List.replicate 14 0):=rfl;simp[f383,sX,lx,show 14<=maxLen from(by unfold maxLen;omega),SF, -List.reduceReplicate];refine ej (C:=cx) (G:=λx=>∃r h',dL _ (eX _ _ (du _ x) _)=some (r,h')/\∃r',cD h' 8 r=some r'/\∃es,es.length=14/\r'= .ls 1 (List.map (λd=> [AV.sc (Value.int IntKind.i64 d)]) es) false)
  (λi s=>∃(es:List Int)(cy:Int),es.length=14/\ -1<=cy/\cy<=0/\s.1.length=40/\gt s.1 0= .ls 1 (xs.map λd=> [.sc (.int .i64 d)]) false/\gt s.1 1= .ls 1 (ys.map λd=> [.sc (.int .i64 d)]) false/\gt s.1 5= .sl 0 1 0 14 false/\gt s.1 6=cy/\gt s.1 7=i/\s.2=[.row (dg es)])
  (λo s=>o= .exit 0/\s.1.length=40/\gt s.1 5= .sl 0 1 0 14 false/\∃es,es.length=14/\s.2=[.row (dg es)]) 14 (by decide) ?_ ?_ ?_
 .exact⟨List.replicate 14 0,0,rfl,by decide,by decide,by simp[-List.reduceReplicate]⟩
 .rintro i fr h da ⟨es,cy,mL,u_,rE,cf,h0,h1,h5,h6,h7,rfl⟩;simp only at cf h0 h1 h5 h6 h7;by_cases hi:i<14
  .have p8:(i:Int)<14:=by omega
   obtain⟨x,gx⟩:∃x,xs[i]?=some x:=⟨_,Zb (by omega)⟩;obtain⟨y,gy⟩:∃y,ys[i]?=some y:=⟨_,Zb (by omega)⟩;have gx':∀h:i<xs.length,xs[i]=x:=λh=>by rw[Zb h]at gx;exact Option.some.inj gx
   have gy':∀h:i<ys.length,ys[i]=y:=λh=>by rw[Zb h]at gy;exact Option.some.inj gy
   have bx:=hx x (Zi gx);have tu:=hy y (Zi gy);have Mt:i+1<=es.length:=by omega
   have hi3:i+1<=14:=by omega
   have aa:cS .i64 (cy+x)=cy+x:=cu (by omega) (by omega);have ak:cS .i64 ((i:Int)+1)=(i:Int)+1:=cu (by omega) (by omega);obtain⟨S,hS⟩:∃S,S=cy+x-y:=⟨_,rfl⟩;have af:cS .i64 (cy+x-y)=S:=by rw[hS];exact cu (by omega) (by omega)
   by_cases hn:S<0
   .have ah:cS .i64 (S+1000)=S+1000:=cu (by omega) (by omega);have tq:=uz es i (S+1000) Mt;simp[cf,h0,h1,h5,h6,h7,hi,p8,gy,gx',aa,af,hn,ah,ak,tq,lx,mL,hi3];exact⟨es.set i (S+1000),by simpa using mL, -1,by decide,by decide,rfl,rfl⟩
   .have tq:=uz es i S Mt;simp[cf,h0,h1,h5,h6,h7,hi,p8,gy,gx',aa,af,hn,ak,tq,lx,mL,hi3];exact⟨es.set i S,by simpa using mL,0,by decide,by decide,rfl,rfl⟩
  .have p8:¬(i:Int)<14:=by omega
   simp[cf,h0,h5,h7,p8,lx];exact⟨es,mL,rfl⟩
 .rintro o fr h hn ⟨rfl,cf,h5,es,mL,rfl⟩;simp only at cf h5;have gw:=E0 es false [.row (dg es)] 0 rfl;rw[mL]at gw;simp[cf,h5];exact gq ⟨_,gw,es,mL,rfl⟩
section
variable {C : Cx} {cal : FuncId -> LA -> Hp -> Option (AV × Hp)} {ops : Array Oper}
@[simp] def ail(d:Tmp)(rest:List Oper)(fr:LA)(e:List Int)(h:Hp):sY C cal ops (some d) rest fr (some (sX e,h))=dr C cal ops rest (fr.set d (sX e),h):=rfl
@[simp] def ah7(d:Tmp)(rest:List Oper)(fr:LA)(e:List Int)(h:Hp):vV C cal ops (some d) rest fr (some (sX e,h))=cp C cal ops rest (fr.set d (sX e),h):=rfl
@[simp] def agV(h:Hp)(n:Nat)(e:List Int):cD h n (sX e)=some (sX e):=by cases n<;>rfl
@[simp] def SJ(h:Hp)(n:Nat)(v:Value):cD h n (.sc v)=some (.sc v):=by cases n<;>rfl
end
def lsZ :AV:= .ls 1 [[.sc (.int .i64 0)],[.sc (.int .i64 0)],[.sc (.int .i64 0)],[.sc (.int .i64 0)],[.sc (.int .i64 0)],[.sc (.int .i64 0)],[.sc (.int .i64 0)],[.sc (.int .i64 0)],[.sc (.int .i64 0)],[.sc (.int .i64 0)],[.sc (.int .i64 0)],[.sc (.int .i64 0)],[.sc (.int .i64 0)],[.sc (.int .i64 0)]] true
def Oo(n:Nat)(b:Bool)(h:Hp):ch cx (n+1) b 381 [lsZ,lsZ] h=some (sX [0,0,0,0,0,0,0,0,0,0,0,0,0,0],h):=by
 kernel_rfl
def C2(an X bn Y:Int):Int:=if an=bn\/bn=0 then an else if an=0 then bn else if ij (X-Y)=0 then 0 else if 0<ij (X-Y)then an else bn
def X_(n:Nat)(an bn:Int)(xs ys:List Int)(hx:CZ xs)(hy:CZ ys)(lx:xs.length=14)(ly:ys.length=14):
 ∃r,(∃es,r= .tp [.sc (.int .i64 (C2 an (vl xs) bn (vl ys))),sX es])/\∀b h,ch cx (n+2) b 273 [an,sX xs,bn,sX ys] h=some (r,h):=by
 obtain⟨_,⟨e1,_,rfl⟩,hp⟩:=SI n xs ys hx hy lx ly;obtain⟨_,⟨e2,_,rfl⟩,hm⟩:=DD n xs ys hx hy lx ly;obtain⟨_,⟨e3,_,rfl⟩,w6⟩:=DD n ys xs hy hx ly lx;have ho:=λb h=>On n b xs ys h hx hy lx ly
 refine gP (f:=273) (n:=n+1) (args:=[.sc (.int .i64 an),sX xs,.sc (.int .i64 bn),sX ys]) (λr=>∃es,r= .tp [.sc (.int .i64 (C2 an (vl xs) bn (vl ys))),sX es]) ⟨f273.ntmps,(f273.body).getD .skip,[.tmp 8,.tmp 9]⟩ (by kernel_rfl) (by kernel_rfl) rfl (by kernel_rfl) (by simp[f273]) rfl ?_;have hz:=λb h=>Oo n b h
 have A8:chunk 1 14 (List.flatMap (λ_=> [AV.sc (Value.int IntKind.i64 0)]) (List.range 14))=[[.sc (.int .i64 0)],[.sc (.int .i64 0)],[.sc (.int .i64 0)],[.sc (.int .i64 0)],[.sc (.int .i64 0)],[.sc (.int .i64 0)],[.sc (.int .i64 0)],[.sc (.int .i64 0)],[.sc (.int .i64 0)],[.sc (.int .i64 0)],[.sc (.int .i64 0)],[.sc (.int .i64 0)],[.sc (.int .i64 0)],[.sc (.int .i64 0)]]:=rfl;simp only[lsZ]at hz;by_cases h1:an=bn
 .simp[f273,h1,hp,C2];exact⟨_,_,⟨rfl,rfl⟩,by simp[cD];exact⟨_,rfl⟩⟩
 .by_cases h2:bn=0
  .subst h2;simp[f273,h1,hp,C2];exact⟨_,_,⟨rfl,rfl⟩,by simp[cD];exact⟨_,rfl⟩⟩
  .by_cases h3:an=0
   .subst h3;simp[f273,h1,h2,C2];exact⟨_,_,⟨rfl,rfl⟩,by simp[cD];exact⟨_,rfl⟩⟩
   .by_cases h4:ij (vl xs-vl ys)=0
    .simp[f273,h1,h2,h3,ho,h4,C2,show 14<=maxLen from(by unfold maxLen;omega),oh,A8,hz];exact⟨_,_,⟨rfl,rfl⟩,by simp[cD];exact⟨_,rfl⟩⟩
    .by_cases h5:0<ij (vl xs-vl ys)
     .simp[f273,h1,h2,h3,ho,h4,h5,hm,C2];exact⟨_,_,⟨rfl,rfl⟩,by simp[cD];exact⟨_,rfl⟩⟩
     .simp[f273,h1,h2,h3,ho,h4,h5,w6,C2];exact⟨_,_,⟨rfl,rfl⟩,by simp[cD];exact⟨_,rfl⟩⟩
def Oq(n1 d1 n2 d2:Int)(h1:0<d1)(h2:0<d2):C2 (ij n1) (n1.natAbs*d2) (-(ij n2)) (n2.natAbs*d1)=ij (n1*d2-n2*d1):=by
 have e1:(n1.natAbs:Int)*d2=((n1*d2).natAbs:Int):=by rw[Int.natAbs_mul];rw[Int.natCast_mul,Int.natAbs_of_nonneg (Int.le_of_lt h2)]
 have e2:(n2.natAbs:Int)*d1=((n2*d1).natAbs:Int):=by rw[Int.natAbs_mul];rw[Int.natCast_mul,Int.natAbs_of_nonneg (Int.le_of_lt h1)]
 have s:∀n d:Int,0<d->ij n=ij (n*d):=λn d hd=>by
  unfold ij;by_cases a:n<0
  .rw[cq a,cq (Int.mul_neg_of_neg_of_pos a hd)]
  .by_cases b:0<n
   .have:=Int.mul_pos b hd;rw[cm a,cq b,cm (by omega),cq this]
   .have:n=0:=by omega
    subst this;simp
 rw[e1,e2,s n1 d2 h2,s n2 d1 h1];generalize n1*d2=p,n2*d1=q;have sg:∀x:Int,(x<0/\ij x= -1/\(x.natAbs:Int)= -x)\/(x=0/\ij x=0/\(x.natAbs:Int)=0)\/(0<x/\ij x=1/\(x.natAbs:Int)=x):=λx=>by
  unfold ij;by_cases a:x<0
  .exact .inl ⟨a,by rw[cq a],by omega⟩
  .by_cases b:0<x
   .exact .inr (.inr ⟨b,by rw[cm a,cq b],by omega⟩)
   .exact .inr (.inl ⟨by omega,by rw[cm a,cm b],by omega⟩)
 rcases sg p with⟨p1,p2,p3⟩|⟨p1,p2,p3⟩|⟨p1,p2,p3⟩<;>rcases sg q with⟨q1,q2,q3⟩|⟨q1,q2,q3⟩|⟨q1,q2,q3⟩<;>
  rcases sg (p-q)with⟨r1,r2,r3⟩|⟨r1,r2,r3⟩|⟨r1,r2,r3⟩<;>
  rcases sg ((p.natAbs:Int)-(q.natAbs:Int))with⟨t1,t2,t3⟩|⟨t1,t2,t3⟩|⟨t1,t2,t3⟩<;>
  simp only[C2,p2,q2,r2,t2]<;>first|rfl|decide|omega
def My(n:Nat)(b:Bool)(N1 D1 N2 D2:Int)(h:Hp):ch cx (n+3) b 173 [kI N1 D1,kI N2 D2] h=some (.sc (.int .i64 (ve N1 D1 N2 D2)),h):=by
 refine eR f173 [.tmp 4] rfl rfl ?_ b h;obtain⟨a1,a2,a3⟩:=A9 N1 D1;obtain⟨b1,b2,b3⟩:=A9 N2 D2;have hm:=Oq (fO N1 D1) (jn N1 D1) (fO N2 D2) (jn N2 D2) a3 b3;obtain⟨e1,he1⟩:∃e:Nat,jn N1 D1=e:=⟨(jn N1 D1).toNat,by omega⟩;obtain⟨e2,WV⟩:∃e:Nat,jn N2 D2=e:=⟨(jn N2 D2).toNat,by omega⟩;rw[mM]at a1 a2 b1 b2;have l1:((fO N1 D1).natAbs:Int)*e2<1000^14:=by
  have:=Int.mul_le_mul (show((fO N1 D1).natAbs:Int)<=1000000000000000 by omega) (show(e2:Int)<=1000000000000000 by omega) (by omega) (by decide);omega
 have l2:((fO N2 D2).natAbs:Int)*e1<1000^14:=by
  have:=Int.mul_le_mul (show((fO N2 D2).natAbs:Int)<=1000000000000000 by omega) (show(e1:Int)<=1000000000000000 by omega) (by omega) (by decide);omega
 have c1:=λh=>A_ (n+1) false (fO N1 D1) h ⟨by omega,by omega⟩
 have c2:=λh=>A_ (n+1) false (fO N2 D2) h ⟨by omega,by omega⟩
 have c3:=λh=>DC (n+1) false (fO N1 D1).natAbs e2 h (by omega) (by omega)
 have c4:=λh=>DC (n+1) false (fO N2 D2).natAbs e1 h (by omega) (by omega)
 have s1:=λh=>G5 (n+1) false (fO N1 D1) h
 have s2:=λh=>G5 (n+1) false (fO N2 D2) h
 obtain⟨_,⟨es,rfl⟩,c5⟩:=X_ n (ij (fO N1 D1)) (-(ij (fO N2 D2))) (oX 14 ((fO N1 D1).natAbs*e2)) (oX 14 ((fO N2 D2).natAbs*e1)) (A6 _ _) (A6 _ _) (pj _ _) (pj _ _);rw[EZ _ _ (Int.mul_nonneg (by omega) (by omega)) l1,EZ _ _ (Int.mul_nonneg (by omega) (by omega)) l2,<-he1,<-WV,hm]at c5;have hf:cS .i64 (-(ij (fO N2 D2)))= -(ij (fO N2 D2)):=by
  have: -1<=ij (fO N2 D2)/\ij (fO N2 D2)<=1:=by unfold ij;(repeat' split)<;>omega
  exact cu (by omega) (by omega)
 rw[<-WV]at c3;rw[<-he1]at c4;generalize oX 14 (((fO N1 D1).natAbs:Int)*jn N2 D2)=w1 at c3 c5;generalize oX 14 (((fO N2 D2).natAbs:Int)*jn N1 D1)=w2 at c4 c5;generalize ij (fO N1 D1)=g1 at s1 c5;generalize ij (fO N2 D2)=g2 at s2 c5 hf;generalize((fO N1 D1).natAbs:Int)=m1 at c1 c3;generalize((fO N2 D2).natAbs:Int)=m2 at c2 c4;cases hA:fv N1 D1<;>cases hB:fv N2 D2<;>simp only[fO,jn,hA,hB,cond_true,cond_false]at c1 c2 c3 c4 c5 s1 s2
 .have e1:m1=m2:=by have:=(c1 []).symm.trans (c2 []);simpa using this
  subst e1;have e2:g1=g2:=by have:=(s1 []).symm.trans (s2 []);simpa using this
  subst e2;have e3:sX w1=sX w2:=by have:=(c3 []).symm.trans (c4 []);simpa using this
  rw[<-e3]at c5;have hA':=λb h=>qj n b N1 D1 h
  have RY:=λb h=>qj n b N2 D2 h
  simp only[kI]at hA' RY;simp[cn,f173,kI,hA',RY,hA,hB,c1,c3,s1,hf,c5,ve,fO,jn]
 all_goals
  have hA':=λb h=>qj n b N1 D1 h
  have RY:=λb h=>qj n b N2 D2 h
  simp only[kI]at hA' RY;simp[cn,f173,kI,hA',RY,hA,hB,c1,c2,c3,c4,s1,s2,hf,c5,ve,fO,jn]
end
section
attribute [local simp] cn eD
inductive V where
 |mk (k n d:Int) (s:ByteArray) (z:Bool) (l:List V)
namespace V
def k :V->Int| .mk k _ _ _ _ _=>k
def n :V->Int| .mk _ n _ _ _ _=>n
def d :V->Int| .mk _ _ d _ _ _=>d
def s :V->ByteArray| .mk _ _ _ s _ _=>s
def l :V->List V| .mk _ _ _ _ _ l=>l
def isNil :V->Bool| .mk _ _ _ _ z _=>z
end V
def po(z:Bool)(cg:List LA):AV:=bif z && cg.isEmpty then .sc (.slice none 0 0)else .ls 5 cg z
mutual
def enc :V->LA
 | .mk k n d s z l=> [.sc (.int .i64 k),.sc (.int .i64 n),.sc (.int .i64 d),.sc (.string s),po z (ef l)]
def ef :List V->List LA
 | []=> []
 |x::xs=>enc x::ef xs
end
def iX(v:V):AV:= .ag (enc v)
def eG(z:Bool)(l:List V):AV:=po z (ef l)
mutual
def gS :V->Nat
 | .mk _ _ _ _ _ l=>G6 l+1
def G6 :List V->Nat
 | []=>0
 |x::xs=>max (gS x) (G6 xs)
end
def G7(s:ByteArray):Bool:=s.data.toList.all λb=>decide (32<=b.toNat) && decide (b.toNat<=126)
mutual
def oY :V->Int->Bool
 |
  .mk k n d s _ l,m=>
  (decide (k=3)||decide (d=0)) && (decide (k=4)||fm s ⟨#[]⟩) && (decide (k=8)||decide (k=7)||l.isEmpty) &&
   (
    if k=0 then decide (n=0)
    else if k=1 then decide (n=0)||decide (n=1)
    else if k=2 then vg n
    else if k=3 then decide (2<=d) && fv n d
    else if k=4 then decide (n=0) && decide (s.size<=100) && G7 s
    else if k=5\/k=6 then decide (1<=n) && decide (n<=1000000)
    else if k=8 then decide (n=0) && decide (l.length<=64) && decide (1<=m) && Aj l (m-1)
    else if k=7 then decide (n=0) && decide (l.length % 2=1) && decide (l.length<=25) && wO l false
    else false)
def Aj :List V->Int->Bool
 | [],_=>true
 |x::xs,m=>oY x m && Aj xs m
def wO :List V->Bool->Bool
 | [],_=>true
 |x::xs,e=>(decide (x.k=if e then 6 else 5) && oY x 0) && wO xs (!e)
end
def jo(v:V):Bool:=oY v 8
def eg(k:Int):Int:=if k=0 then 0 else if k=1 then 1 else if k=2\/k=3 then 2 else if k=4 then 3 else if k=5 then 4 else if k=6 then 5 else if k=8 then 6 else 7
mutual
def mg :V->V->Int
 |
  .mk k n d s z l,w=>
  if jo (.mk k n d s z l)=jo w then
   if jo w then
    if dE (eg k) (eg w.k)=0 then
     if k=2\/k=3 then ve n (if k=2 then 1 else d) w.n (if w.k=2 then 1 else w.d)
     else sN [dE k w.k,dE n w.n,dE d w.d,gJ s w.s,je l w.l]
    else dE (eg k) (eg w.k)
   else sN [dE k w.k,dE n w.n,dE d w.d,gJ s w.s,je l w.l]
  else if jo w then 1 else-1
def je :List V->List V->Int
 | [],m=>if m.isEmpty then 0 else-1
 |
  x::xs,m=>match m with
  | []=>1
  |y::ys=>if mg x y=0 then je xs ys else mg x y
end
def w7{v:V}:∀{l:List V},v∈l->gS v<=G6 l
 |
  x::xs,h=>by
  rw[G6];rcases Yw.1 h with rfl|h
  .omega
  .have:=w7 h;omega
def dI :∀l:List V,(ef l).length=l.length
 | []=>rfl
 |x::xs=>by rw[ef,Xe,Xe,dI xs]
def gh :∀(l:List V)(i:Nat),(ef l)[i]?=(l[i]?).map enc
 | [],i=>by simp[ef]
 |x::xs,0=>by simp[ef]
 |x::xs,i+1=>by simp[ef,gh xs i]
def E2(m:Int):∀l:List V,Aj l m=l.all (oY · m)
 | []=>by simp[Aj]
 |x::xs=>by simp[Aj,E2 m xs]
def E3 :∀N(v:V),gS v<=N->∀m m':Int,m<=m'->oY v m=true->oY v m'=true:=by
 intro N
 induction N with
 |zero=>intro v h;cases v;simp[gS]at h
 |succ N ih=>
  intro v h m m' hm hv;cases v with
  |mk k n d s z l=>
   simp only[gS]at h;rw[oY]at hv|-;simp only[Zh]at hv|-;refine⟨hv.1,?_⟩;have h2:=hv.2
   revert h2
   by_cases h8:k=8
   .simp only[h8];simp only[show¬((8:Int)=0)from by decide,show¬((8:Int)=1)from by decide,show¬((8:Int)=2)from by decide,show¬((8:Int)=3)from by decide,show¬((8:Int)=4)from by decide,show¬((8:Int)=5\/(8:Int)=6)from by decide,if_false,if_true,Zh,Zy];rintro⟨⟨⟨a,b⟩,c⟩,e⟩;refine⟨⟨⟨a,b⟩,by omega⟩,?_⟩;rw[E2,Yt]at e|-;intro x hx;exact ih x (by have:=w7 hx;omega) (m-1) (m'-1) (by omega) (e x hx)
   .simp only[h8,if_false];exact λh=>h
def G8{v:V}{m m':Int}(hm:m<=m')(h:oY v m=true):oY v m'=true:=E3 _ v (Xc _) m m' hm h
end
section
attribute [local simp] eD
def kb(v:V):dk (iX v)=true:=by
 cases v with
 |mk k n d s z l=>simp only[iX,enc,dk,po];cases z && (ef l).isEmpty<;>rfl
def Mz{x y:ByteArray}(h:fm x y=true):gJ x y=0:=by
 have:=(iC x y).1 h;subst this;simp[gJ,kc]
def kA(v:V):[iX v].all dk=true:=by rw[Zn,kb];rfl
def mm(v w:V):[iX v,iX w].all dk=true:=by rw[Zn,Zn,kb,kb];rfl
def Ba(n:Nat)(b:Bool)(x y:Int)(h:Hp):ch cx (n+1) b 170 [x,y] h=some (.sc (.int .i64 (dE x y)),h):=by
 refine eR f170 [.tmp 4] rfl rfl ?_ b h;by_cases h1:x<y
 .simp[f170,h1,dE]
 .by_cases h2:y<x<;>simp[f170,h1,h2,dE]
def SK(n:Nat)(b:Bool)(x y:ByteArray)(h:Hp):ch cx (n+1) b 270 [x,y] h=some (.sc (.int .i64 (gJ x y)),h):=by
 refine eR f270 [.tmp 4] rfl rfl ?_ b h;cases h1:nC x y
 .cases h2:fm x y
  .simp[f270,h1,h2,lg h1 h2,gJ]
  .simp[f270,h1,h2,Mz h2]
 .simp[f270,h1,gJ]
def tv(b:Bool):Int:=bif b then 2 else 0
def MA(n:Nat)(b x:Bool)(h:Hp):ch cx (n+1) b 168 [x] h=some (.sc (.int .i64 (tv x)),h):=by
 refine eR f168 [.tmp 2] rfl rfl ?_ b h;cases x<;>simp[f168,tv]
def Ot(n:Nat)(b:Bool)(k:Int)(h:Hp):ch cx (n+1) b 171 [k] h=some (.sc (.int .i64 (eg k)),h):=by
 refine eR f171 [.tmp 2] rfl rfl ?_ b h;by_cases h0:k=0
 .simp[f171,h0,eg]
 by_cases h1:k=1
 .simp[f171,h1,eg]
 by_cases h2:k=2
 .simp[f171,h2,eg]
 by_cases h3:k=3
 .simp[f171,h3,eg]
 by_cases h4:k=4
 .simp[f171,h4,eg]
 by_cases h5:k=5
 .simp[f171,h5,eg]
 by_cases h6:k=6
 .simp[f171,h6,eg]
 by_cases h8:k=8
 .simp[f171,h8,eg]
 simp[f171,h0,h1,h2,h3,h4,h5,h6,h8,eg]
def oo(k:Int):Int:=if k=3 then 2 else if k=7 then 9 else k
def DE(n:Nat)(b:Bool)(v:V)(h:Hp):ch cx (n+1) b 346 [iX v] h=some (.sc (.int .i64 (oo v.k)),h):=by
 refine eR f346 [.tmp 2] (kA v) rfl ?_ b h;cases v with
 |mk k n d s z l=>
  by_cases h3:k=3
  .simp[f346,iX,enc,h3,oo,V.k]
  by_cases h7:k=7
  .simp[f346,iX,enc,h7,oo,V.k]
  simp[f346,iX,enc,h3,h7,oo,V.k]
def fI(z:Bool)(l:List V):(l=[]/\eG z l=())\/eG z l= .ls 5 (ef l) z:=by
 unfold eG po;cases l with
 |nil=>cases z<;>simp[ef]
 |cons x xs=>right;simp[ef]
def eI(k n d:Int)(s:ByteArray)(z:Bool)(l:List V):iX (.mk k n d s z l)= .ag [k,n,d,s,eG z l]:=rfl
def gN(v:V)(a b c e:Bool):Bool:=(a||decide (v.n=0)) && (b||decide (v.d=0)) && (c||fm v.s ⟨#[]⟩) && (e||v.l.isEmpty)
def w8(z:Bool)(l:List V):eG z l=()/\l.isEmpty=true\/∃cg,eG z l= .ls 5 cg z/\(l.isEmpty=decide ((cg.length:Int)=0)):=by
 rcases fI z l with⟨rfl,e⟩|e
 .exact .inl ⟨e,rfl⟩
 .refine .inr ⟨_,e,?_⟩;rw[dI];cases l<;>simp<;>omega
def E4(n:Nat)(b:Bool)(v:V)(h:Hp):ch cx (n+1) b 375 [iX v,false,false,false,false] h=some (.sc (.bool (gN v false false false false)),h):=by
 have hc:[iX v,.sc (.bool false),.sc (.bool false),.sc (.bool false),.sc (.bool false)].all dk=true:=by rw[Zn,kb];rfl
 refine eR f375 [.tmp 10] hc rfl ?_ b h;clear hc;cases v with
 |mk k n d s z l=>
  rw[eI];simp only[gN,V.n,V.d,V.s,V.l];have hl:=w8 z l;generalize eG z l=L,l.isEmpty=E at hl;by_cases hn:n=0
  .by_cases hd:d=0
   .cases hs:fm s ⟨#[]⟩
    .simp[f375,hn,hd,hs]
    .rcases hl with⟨rfl,e⟩|⟨cg,rfl,e⟩<;>simp[f375,hn,hd,hs,e]
   .simp[f375,hn,hd]
  .simp[f375,hn]
def E5(n:Nat)(b:Bool)(v:V)(h:Hp):ch cx (n+1) b 375 [iX v,true,false,false,false] h=some (.sc (.bool (gN v true false false false)),h):=by
 have hc:[iX v,.sc (.bool true),.sc (.bool false),.sc (.bool false),.sc (.bool false)].all dk=true:=by rw[Zn,kb];rfl
 refine eR f375 [.tmp 10] hc rfl ?_ b h;clear hc;cases v with
 |mk k n d s z l=>
  rw[eI];simp only[gN,V.n,V.d,V.s,V.l];have hl:=w8 z l;generalize eG z l=L,l.isEmpty=E at hl;by_cases hd:d=0
  .cases hs:fm s ⟨#[]⟩
   .simp[f375,hd,hs]
   .rcases hl with⟨rfl,e⟩|⟨cg,rfl,e⟩<;>simp[f375,hd,hs,e]
  .simp[f375,hd]
def E6(n:Nat)(b:Bool)(v:V)(h:Hp):ch cx (n+1) b 375 [iX v,true,true,false,false] h=some (.sc (.bool (gN v true true false false)),h):=by
 have hc:[iX v,.sc (.bool true),.sc (.bool true),.sc (.bool false),.sc (.bool false)].all dk=true:=by rw[Zn,kb];rfl
 refine eR f375 [.tmp 10] hc rfl ?_ b h;clear hc;cases v with
 |mk k n d s z l=>
  rw[eI];simp only[gN,V.n,V.d,V.s,V.l];have hl:=w8 z l;generalize eG z l=L,l.isEmpty=E at hl;cases hs:fm s ⟨#[]⟩
  .simp[f375,hs]
  .rcases hl with⟨rfl,e⟩|⟨cg,rfl,e⟩<;>simp[f375,hs,e]
def E7(n:Nat)(b:Bool)(v:V)(h:Hp):ch cx (n+1) b 375 [iX v,false,false,true,false] h=some (.sc (.bool (gN v false false true false)),h):=by
 have hc:[iX v,.sc (.bool false),.sc (.bool false),.sc (.bool true),.sc (.bool false)].all dk=true:=by rw[Zn,kb];rfl
 refine eR f375 [.tmp 10] hc rfl ?_ b h;clear hc;cases v with
 |mk k n d s z l=>
  rw[eI];simp only[gN,V.n,V.d,V.s,V.l];have hl:=w8 z l;generalize eG z l=L,l.isEmpty=E at hl;by_cases hn:n=0
  .by_cases hd:d=0
   .rcases hl with⟨rfl,e⟩|⟨cg,rfl,e⟩<;>simp[f375,hn,hd,e]
   .simp[f375,hn,hd]
  .simp[f375,hn]
def E8(n:Nat)(b:Bool)(v:V)(h:Hp):ch cx (n+1) b 375 [iX v,false,false,false,true] h=some (.sc (.bool (gN v false false false true)),h):=by
 have hc:[iX v,.sc (.bool false),.sc (.bool false),.sc (.bool false),.sc (.bool true)].all dk=true:=by rw[Zn,kb];rfl
 refine eR f375 [.tmp 10] hc rfl ?_ b h;clear hc;cases v with
 |mk k n d s z l=>
  rw[eI];simp only[gN,V.n,V.d,V.s,V.l];have hl:=w8 z l;generalize eG z l=L,l.isEmpty=E at hl;by_cases hn:n=0
  .by_cases hd:d=0
   .cases hs:fm s ⟨#[]⟩
    .simp[f375,hn,hd,hs]
    .simp[f375,hn,hd,hs]
   .simp[f375,hn,hd]
  .simp[f375,hn]
def Kj(c:UInt8):Bool:=decide (32<=c.toNat) && decide (c.toNat<=126)
def YA(c:UInt8):Kj c=(decide (32<=(c.toNat:Int)) && decide ((c.toNat:Int)<=126)):=by
 unfold Kj;generalize c.toNat=m;have e1:decide (32<=m)=decide (32<=(m:Int)):=decide_eq_decide.2 (by omega);have e2:decide (m<=126)=decide ((m:Int)<=126):=decide_eq_decide.2 (by omega);rw[e1,e2]
def okD(x:ByteArray)(i:Nat):Bool:=(x.data.toList.drop i).all Kj
def SL(x:ByteArray):G7 x=okD x 0:=rfl
def YB(x:ByteArray)(i:Nat)(h:x.size<=i):okD x i=true:=by unfold okD;rw[Zt h];rfl
def SM{x:ByteArray}{i:Nat}{c:UInt8}(h:x.data.toList[i]?=some c):okD x i=(Kj c && okD x (i+1)):=by
 obtain⟨k,e⟩:=Za.1 h;unfold okD;rw[Zm k,e,Zn]
def YC(n:Nat)(b:Bool)(x:ByteArray)(h:Hp)(hx:x.size<=1000000000000000):ch cx (n+1) b 377 [x] h=some (.sc (.bool (G7 x && decide ((x.size:Int)<=100))),h):=by
 refine eR f377 [.tmp 2] rfl rfl ?_ b h;have fX:x.data.toList.length=x.size:=rfl;simp[f377];refine pQ
  (λi s _=>G7 x=okD x i/\s.length=23/\gt s 0=x/\gt s 3=i)
  (λo s _=>s.length=23/\((o= .exit 0/\G7 x=true/\gt s 0=x)\/(o= .ret/\G7 x=false/\gt s 2=false))) x.size (by simp;omega) (by simp[SL]) ?_ ?_
 .rintro i fr h da ⟨ho,cf,h0,h3⟩;by_cases hi:i<x.size
  .obtain⟨c,hc⟩:∃c,x.data.toList[i]?=some c:=⟨_,Zb (by omega)⟩;rw[SM hc]at ho;have hf:cS .i64 ((i:Int)+1)=((i+1:Nat):Int):=cu (by omega) (by omega);have kK:∀k,x.data[i]'k=c:=λk=>by obtain⟨_,e⟩:=Za.1 hc;exact e
   obtain⟨q,hq⟩:∃q:Int,q=c.toNat:=⟨_,rfl⟩;have gI:Kj c=(decide (32<=q) && decide (q<=126)):=by rw[hq];exact YA c
   rw[gI]at ho;clear gI;by_cases c1:q<32
   .have z:G7 x=false:=by rw[ho];simp;omega
    clear ho;simp[cf,h0,h3,hi,kK,<-hq,c1,z]
   .by_cases c2:126<q
    .have z:G7 x=false:=by rw[ho];simp;omega
     clear ho;simp[cf,h0,h3,hi,kK,<-hq,c1,c2,z]
    .have z:G7 x=okD x (i+1):=by rw[ho];simp[show 32<=q by omega,show q<=126 by omega]
     clear ho;simp[cf,h0,h3,hi,kK,<-hq,c1,c2,hf];exact z
  .have hz:G7 x=true:=by rw[ho,YB x i (by omega)]
   simp[cf,h0,h3,hi,hz]
 .rintro o fr h hn ⟨cf,⟨rfl,hz,h0⟩|⟨rfl,hz,h2⟩⟩
  .simp[cf,h0,hz]
  .simp[h2,hz]
end
end Go.Proofs.YtmfohnojaginjaaGreatDoor
