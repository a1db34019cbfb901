/- Part of the proof. -/
import Derived.Test.YtaibpnppeiigdaaGreatDoorP8
set_option linter.all false
set_option maxHeartbeats 4000000
set_option maxRecDepth 100000
namespace Go.Proofs.YtaibpnppeiigdaaGreatDoor
open Go Go.Ae Go.Proofs.Tryz
section
attribute [local simp] zi XM
def zc {j:Nat}(h:(1000:Int)^j<=1000000000000000000000000000000):j<11:=by
 apply Classical.byContradiction;intro hn;have h1:(1000:Nat)^11<=1000^j:=Nat.pow_le_pow_right (by decide) (by omega);have h2:((1000^j:Nat):Int)=(1000:Int)^j:=by simp
 omega
def SC {k i A:Nat}(hk:0<k)(h:(k:Int)*1000^i<=A)(hA:A<=1000000000000000):(1000:Int)^i<=1000000000000000000000000000000:=by
 have h1:(1:Int)*1000^i<=k*1000^i:=Xs (by omega) (Int.pow_nonneg (by decide));omega
def akL {k i A:Nat}(h:(k:Int)*1000^i<=A)(hA:A<=1000000000000000):k<=1000000000000000:=by
 have h2:((1000^i:Nat):Int)=(1000:Int)^i:=by simp
 have h3:0< (1000:Nat)^i:=Nat.pow_pos (by decide);have h1:(k:Int)*1<=k*1000^i:=Int.mul_le_mul_of_nonneg_left (by omega) (by omega);omega
def akM {k i A B:Nat}{v:Int}(hA:A<=1000000000000000)(hB:B<=1000000000000000)(hv:v+k*B*1000^i=A*B):v+((k % 1000:Nat):Int)*B*1000^i<=1000000000000000000000000000000:=by
 have h1:((k % 1000:Nat):Int)*B*1000^i<=k*B*1000^i:=Xs (Xs (by omega) (by omega)) (Int.pow_nonneg (by decide));have h2:(A:Int)*B<=1000000000000000*1000000000000000:=Int.mul_le_mul (by omega) (by omega) (by omega) (by decide);omega
def dg (ds:List Int):LA:=ds.map λd=> .sc (.int .i64 d)
def tz (ds:List Int):AV:= .ls 1 (ds.map λd=> [.sc (.int .i64 d)]) false
@[simp] def af3 (ds:List Int):(dg ds).length=ds.length:=by simp[dg]
def afb {ds:List Int}{k:Nat}{o:Int}(h:ds[k]?=some o):(dg ds)[k]?=some (.sc (.int .i64 o)):=by simp[dg,h]
def vk (ds:List Int)(k:Nat)(x:Int)(h:k<ds.length):da (dg ds) k [x]=dg (ds.set k x):=by
 unfold da dg;rw[List.set_eq_take_append_cons_drop,dd h];simp
def abX (h:Hp)(n:Nat)(ds:List Int):(dg ds).mapM (dq h n)=some (dg ds):=by
 induction ds with
 |nil=>rfl
 |
  cons d ds ih=>
  show List.mapM (dq h n) (AV.sc (.int .i64 d)::dg ds)=_;rw[Zo,ih];cases n<;>rfl
def Hc (ds:List Int)(k:Bool)(h:Hp)(id:Nat)(hr:gI h id=some (dg ds)):dq h 8 (.sl id 1 0 ds.length k)=some (tz ds):=by
 simp only[dq,hr];rw[dd (by simp)];have e:List.take (ds.length*1) (List.drop 0 (dg ds))=dg ds:=by
  rw[List.drop_zero,Ys (by simp)]
 rw[e,abX];simp only[Xq,tz,Zc,AV.ls.injEq,true_and,and_true];apply Xe;intro i;by_cases hi:i<ds.length
 .rw[Zs,Xp hi,Zs,Zb hi];simp[dg,Zm,hi]
 .rw[Xt (by simp;omega),Xt (by simp;omega)]
def X1 {i j k B d c A:Nat}{cy T:Int}{es:List Int}(hk:0<k)(hki:(k:Int)*1000^i<=A)(hA:A<=1000000000000000)(hB:B<=1000000000000000)(G6:(c:Int)*1000^j<=B*1000^i)(QK:DR es)
 (mY:vl es+(cy+d*c)*1000^j=T) (hT:T<=1000000000000000000000000000000) (hgo:0<c\/0<cy):j<11:=by
 have hvb:=Pk QK;have hpj:(0:Int)<1000^j:=Int.pow_pos (by decide);have Q9:(0:Int)<1000^i:=Int.pow_pos (by decide);have hdc:(0:Int)<=d*c:=Int.mul_nonneg (by omega) (by omega);apply zc;rcases hgo with hc|hc
 .have q1:(1:Int)*1000^j<=c*1000^j:=Xs (by omega) (Int.le_of_lt hpj);have q2:(B:Int)*1000^i<=1000000000000000*1000^i:=Xs (by omega) (Int.le_of_lt Q9);have q3:(1:Int)*1000^i<=k*1000^i:=Xs (by omega) (Int.le_of_lt Q9);generalize(1000:Int)^j=u at *;generalize(1000:Int)^i=v at *;omega
 .have q1:(1:Int)*1000^j<=(cy+d*c)*1000^j:=Xs (by omega) (Int.le_of_lt hpj);omega
def Nz {d c e f:Nat}{cy o S:Int}(hd:d<=999)(hc:c<=1000000000000000)(ho:0<=o/\o<1000)(hy0:0<=cy)(Ot:cy<=2000)(he:e=c % 1000)(hf:f=c/1000)(hS:S=cy+o+d*e):
 (0<=S/\S<=2000000)/\S.tmod 1000=S % 1000/\S.tdiv 1000=S/1000/\dM .i64 (cy+o)=cy+o/\dM .i64 ((d:Int)*e)=d*e/\dM .i64 (cy+o+d*e)=S/\dM .i64 (f:Int)=f/\dM .i64 (S/1000)=S/1000:=by
 have hde:(0:Int)<=d*e/\(d:Int)*e<=999*999:=⟨Int.mul_nonneg (by omega) (by omega),Int.mul_le_mul (by omega) (by omega) (by omega) (by decide)⟩;have b:0<=S/\S<=2000000:=by omega
 exact⟨b,Int.tmod_eq_emod_of_nonneg b.1,Int.tdiv_eq_ediv_of_nonneg b.1,dh (by omega) (by omega),dh (by omega) (by omega),by rw[<-hS];exact dh (by omega) (by omega),dh (by omega) (by omega),dh (by omega) (by omega)⟩
def NA {i j B d c e f q:Nat}{cy T o S:Int}{es:List Int}(hjq:j+q=14)(hj:j<11)(qS:i<=j)(tx:es.length=14)(QK:DR es)(afc:c<=1000000000000000)(G6:(c:Int)*1000^j<=B*1000^i)(mY:vl es+(cy+d*c)*1000^j=T)
 (ho:es[j]?=some o) (he:e=c % 1000) (hf:f=c/1000) (hS:S=cy+o+d*e) (hSb:0<=S/\S<=2000000):
 ∃k',k'<q/\∃(j' c':Nat) (cy':Int) (es':List Int),j'+k'=14/\i<=j'/\es'.length=14/\DR es'/\0<=cy'/\cy'<=2000/\c'<=1000000000000000/\(c':Int)*1000^j'<=B*1000^i/\vl es'+(cy'+d*c')*1000^j'=T/\(f:Int)=c'/\S/1000=cy'/\(j:Int)+1=j'/\dg (es.set j (S % 1000))=dg es':=by
 have hpj:(0:Int)<1000^j:=Int.pow_pos (by decide);have eZ:=X0 (1000^j) o cy d c S (by rw[hS,he];simp);have iA:=XY es j o (S % 1000) ho;have yM:vl (es.set j (S % 1000))+(S/1000+d*f)*1000^(j+1)=T:=by
  have hfi:((f:Nat):Int)=(c:Int)/1000:=by rw[hf];simp
  rw[iA,hfi,Int.pow_succ,<-mY,<-eZ]
  grind
 have Hj:(f:Int)*1000^(j+1)<=B*1000^i:=by
  refine Int.le_trans ?_ G6;have e1:(f:Int)*1000<=c:=by omega
  have:=Xs e1 (Int.le_of_lt hpj);rw[Int.pow_succ]
  grind
 clear eZ iA G6 mY;exact⟨q-1,by omega,j+1,f,S/1000,es.set j (S % 1000),by omega,by omega,by simpa using tx,abW QK j (by omega),by omega,by omega,by omega,Hj,yM,rfl,rfl,by omega,rfl⟩
def KJ (n:Nat)(b:Bool)(x:Int)(h:Hp):cW cx (n+1) b 220 [x] h=some (.sc (.int .i64 (iU x)),h):=by
 refine fZ f220 [.tmp 2] rfl rfl ?_ b h;by_cases h1:x<0
 .simp[f220,h1,iU]
 .by_cases h2:0<x<;>simp[f220,h1,h2,iU]
def Fe (n:Nat)(b:Bool)(A B:Nat)(h:Hp)(hA:A<=1000000000000000)(hB:B<=1000000000000000):
 cW cx (n+1) b 221 [A,B] h=some (tz (qd 14 (A*B)),h):=by
 refine xc (r:= .sl 0 1 0 14 false) (r':=tz (qd 14 (A*B))) (h':=[.row (dg (qd 14 (A*B)))]) ⟨f221.ntmps,(f221.body).getD .skip,[.tmp 4]⟩ (by kernel_rfl) (by kernel_rfl) rfl (by kernel_rfl) (by simp[f221]) rfl ?_ ?_ b h
 .have X2:List.flatMap (λ_=> [AV.sc (Value.int IntKind.i64 0)]) (List.range 14)=dg (List.replicate 14 0):=rfl;simp[f221,show 14<=maxLen from(by unfold maxLen;omega),X2, -List.reduceReplicate];refine nF (G:=λx=>eQ _ (eR _ _ (dL _ x) _)=_)
   (λk s=>∃(i:Nat) (ds:List Int),ds.length=14/\DR ds/\(k:Int)*1000^i<=A/\vl ds+k*B*1000^i=A*B/\s.1.length=51/\gt s.1 0=k/\gt s.1 1=B/\gt s.1 5= .sl 0 1 0 14 false/\gt s.1 6=i/\s.2=[.row (dg ds)])
   (λo s=>o= .exit 0/\s.1.length=51/\gt s.1 5= .sl 0 1 0 14 false/\s.2=[.row (dg (qd 14 (A*B)))]) A (by simp;omega) ⟨0,List.replicate 14 0,rfl,by intro d hd;have:=(List.mem_replicate.1 hd).2;omega,by simp,by rw[XZ];simp,by simp⟩ ?_ ?_
  .rintro k fr h ⟨i,ds,YS,iG,hki,hv,cU,h0,h1,h5,h6,rfl⟩;simp only at cU h0 h1 h5 h6;by_cases hk:0<k
   .obtain⟨u,hu⟩:∃u,u=k/1000:=⟨_,rfl⟩;obtain⟨d,hd⟩:∃d,d=k % 1000:=⟨_,rfl⟩;have hkA:k<=1000000000000000:=akL hki hA;have LC:((k:Int).tmod 1000)=(d:Int):=by rw[hd];rfl
    have hd1:((k:Int).tdiv 1000)=(u:Int):=by rw[hu];rfl
    have KL:dM .i64 (u:Int)=(u:Int):=dh (by omega) (by omega);simp[cU,h0,h1,h6,hk,LC,hd1,KL];have ahq:=SC hk hki hA;have hd9:d<=999:=by omega
    have hul:u<k:=by omega
    have hi14:i<=14:=by have:=zc ahq;omega
    have ahr:i+(14-i)=14:=by omega
    have hif:14-i<1125899906842624:=by omega
    have hT:vl ds+(d:Int)*B*1000^i<=1000000000000000000000000000000:=by rw[hd];exact akM hA hB hv
    have e:(k:Int)=1000*(u:Int)+(d:Int):=by omega
    have x_:vl ds+(d:Int)*B*1000^i+(u:Int)*B*1000^(i+1)=A*B:=by
     rw[<-hv,e,Int.pow_succ]
     grind
    have abY:(u:Int)*1000^(i+1)<=A:=by
     refine Int.le_trans ?_ hki;have e:(u:Int)*1000<=k:=by omega
     have:=Xs e (show(0:Int)<=1000^i from Int.pow_nonneg (by decide));rw[Int.pow_succ]
     grind
    have hfi:dM .i64 ((i:Int)+1)=(i:Int)+1:=by
     have:=zc ahq;exact dh (by omega) (by omega)
    generalize hTT:vl ds+(d:Int)*B*1000^i=T at *;refine nF (G:=λx=>wh _ _ _ (eR _ _ (dL _ (dL _ x)) _))
     (λq s=>∃(j c:Nat) (cy:Int) (es:List Int),j+q=14/\i<=j/\es.length=14/\DR es/\0<=cy/\cy<=2000/\c<=1000000000000000/\(c:Int)*1000^j<=B*1000^i/\vl es+(cy+d*c)*1000^j=T/\
      s.1.length=51/\gt s.1 0= .sc (.int .i64 u)/\gt s.1 1=B/\gt s.1 5= .sl 0 1 0 14 false/\gt s.1 6=i/\gt s.1 7= .sc (.int .i64 d)/\gt s.1 8=c/\gt s.1 9=cy/\gt s.1 10=j/\s.2=[.row (dg es)])
     (λo s=>o= .exit 2/\s.1.length=51/\gt s.1 0= .sc (.int .i64 u)/\gt s.1 1=B/\gt s.1 5= .sl 0 1 0 14 false/\gt s.1 6=i/\∃es,es.length=14/\DR es/\vl es=T/\s.2=[.row (dg es)]) (14-i) hif ?_ ?_ ?_
    .refine⟨i,B,0,ds,ahr,Yt _,YS,iG,Int.le_refl _,(by decide:(0:Int)<=2000),hB,Int.le_refl _,by rw[<-hTT];simp,?_⟩;simp[cU,h1,h5,h6]
    .rintro q fr h ⟨j,c,cy,es,hjq,qS,tx,QK,hy0,Ot,afc,G6,mY,cU,h0,h1,h5,h6,h7,h8,h9,lQ,rfl⟩;simp only at cU h0 h1 h5 h6 h7 h8 h9 lQ;by_cases hgo:0<c\/0<cy
     .have hj:j<11:=X1 hk hki hA hB G6 QK mY hT hgo;obtain⟨o,ho⟩:∃o,es[j]?=some o:=⟨es[j]'(by rw[tx];clear mY G6 hT x_ abY hki hv;omega),Zb _⟩;have hob:=QK o (Zi ho);have hdo:=afb ho;obtain⟨e,he⟩:∃e,e=c % 1000:=⟨_,rfl⟩;obtain⟨f,hf⟩:∃f,f=c/1000:=⟨_,rfl⟩;obtain⟨S,hS⟩:∃S,S=cy+o+d*e:=⟨_,rfl⟩;have t0:((c:Int).tmod 1000)=(e:Int):=by rw[he];rfl
      have t1:((c:Int).tdiv 1000)=(f:Int):=by rw[hf];rfl
      obtain⟨sb,s1,s2,aa,ae,af,ah,ai⟩:=Nz hd9 afc hob hy0 Ot he hf hS;have fin:=NA hjq hj qS tx QK afc G6 mY ho he hf hS sb;have afd:j<14:=Nat.lt_trans hj (by decide);have aj:dM .i64 ((j:Int)+1)=(j:Int)+1:=by clear mY G6 hT x_ abY hki hv;exact dh (by omega) (by omega)
      have afe:j+1<=es.length:=by rw[tx];exact afd
      have pY:=vk es j (S % 1000) afe;clear mY G6 hT x_ abY hki hv;by_cases hc:0<c
      .simp[cU,h0,h1,h5,h6,h7,h8,h9,lQ,hc,afd,afe,hdo,t0,t1,s1,s2,aa,ae,af,ah,ai,aj,pY];obtain⟨k',a1,j',c',cy',es',a2,a3,a4,a5,a6,a7,a8,a9,UU,a11,a12,a13,a14⟩:=fin;exact⟨k',a1,j',a2,a3,c',cy',es',a4,a5,a6,a7,a8,a9,UU,a11,a12,a13,a14⟩
      .have hy:0<cy:=hgo.resolve_left hc;simp[cU,h0,h1,h5,h6,h7,h8,h9,lQ,hc,hy,afd,afe,hdo,t0,t1,s1,s2,aa,ae,af,ah,ai,aj,pY];obtain⟨k',a1,j',c',cy',es',a2,a3,a4,a5,a6,a7,a8,a9,UU,a11,a12,a13,a14⟩:=fin;exact⟨k',a1,j',a2,a3,c',cy',es',a4,a5,a6,a7,a8,a9,UU,a11,a12,a13,a14⟩
     .have ahs:¬0<c/\¬0<cy:=not_or.1 hgo;obtain rfl:c=0:=Nat.eq_zero_of_not_pos ahs.1;obtain rfl:cy=0:=Int.le_antisymm (Int.not_lt.1 ahs.2) hy0;have hvT:vl es=T:=by simpa using mY
      simp[cU,h0,h1,h5,h6,h8,h9];exact⟨es,tx,QK,hvT,rfl⟩
    .rintro o fr h hn ⟨rfl,cU,h0,h1,h5,h6,es,tx,QK,mY,rfl⟩;simp only at cU h0 h1 h5 h6;simp[cU,h0,h1,h5,h6,hfi];exact⟨u,hul,i+1,es,tx,QK,abY,by rw[mY];exact x_,rfl,rfl,rfl⟩
   .obtain rfl:k=0:=by omega
    have:ds=qd 14 (A*B):=by
     rw[<-hv,<-YS];simp[Pl iG]
    simp[cU,h0,h5,this]
  .rintro o fr h hn ⟨rfl,cU,h5,rfl⟩;simp only at cU h5;simp[cU,h5]
 .have:=Hc (qd 14 (A*B)) false [.row (dg (qd 14 (A*B)))] 0 rfl
  rwa [qA]at this
def C8 :∀(ds:List Int) (k:Nat),vl ds=vl (ds.take k)+1000^k*vl (ds.drop k)
 | [],k=>by simp[vl]
 |d::ds,0=>by simp[vl]
 |
  d::ds,k+1=>by
  simp only[List.take_succ_cons,List.drop_succ_cons,vl,Int.pow_succ];rw[C8 ds k]
  grind
def X3 {xs ys:List Int}{k:Nat}{x y:Int}(hx:DR xs)(hy:DR ys)(gx:xs[k]?=some x)(gy:ys[k]?=some y)(hd:xs.drop (k+1)=ys.drop (k+1))(dY:x<y):vl xs<vl ys:=by
 have sx:=C8 xs k;have sy:=C8 ys k;obtain⟨kx,ex⟩:=Za.1 gx;obtain⟨ky,ey⟩:=Za.1 gy;rw[Zm kx,ex,hd]at sx;rw[Zm ky,ey]at sy;simp only[vl]at sx sy;have bx:=Pk (ds:=xs.take k) λd h=>hx d (Xl h)
 have vN:=Pk (ds:=ys.take k) λd h=>hy d (Xl h)
 rw[Yy,Nat.min_eq_left (by omega)]at bx;generalize(1000:Int)^k=p at *;generalize vl (ys.drop (k+1))=q at *;have:p*(x+1000*q)+p<=p*(y+1000*q):=by
  have h1:p*(x+1000*q)+p=p*(x+1+1000*q):=by grind
  rw[h1];exact Int.mul_le_mul_of_nonneg_left (by omega) (by omega)
 omega
def SD (n:Nat)(b:Bool)(xs ys:List Int)(h:Hp)(hx:DR xs)(hy:DR ys)(lx:xs.length=14)(ly:ys.length=14):
 cW cx (n+1) b 278 [tz xs,tz ys] h=some (.sc (.int .i64 (iU (vl xs-vl ys))),h):=by
 refine fZ f278 [.tmp 4] rfl rfl ?_ b h;simp[f278,tz,lx,show dM .i64 13=13 from rfl];refine nF (G:=λx=>∃h',eQ _ (eR _ _ (dL _ x) _)=some (_,h'))
  (λk s=>k<=14/\xs.drop k=ys.drop k/\s.1.length=31/\gt s.1 0= .ls 1 (xs.map λd=> [.sc (.int .i64 d)]) false/\gt s.1 1= .ls 1 (ys.map λd=> [.sc (.int .i64 d)]) false/\gt s.1 5= .sc (.int .i64 (k-1)))
  (λo s=>s.1.length=31/\((o= .exit 0/\xs=ys)\/(o= .ret/\gt s.1 4= .sc (.int .i64 (iU (vl xs-vl ys)))))) 14 (by simp) ?_ ?_ ?_
 .simp;rw[Zt (by omega),Zt (by omega)]
 .rintro k fr h ⟨hk,hd,cU,h0,h1,h5⟩;simp only at cU h0 h1 h5;by_cases hz:k=0
  .subst hz;simp at hd;simp[cU,h5,hd]
  .obtain⟨j,rfl⟩:∃j,k=j+1:=⟨k-1,by omega⟩;obtain⟨x,gx⟩:∃x,xs[j]?=some x:=⟨_,Zb (by omega)⟩;obtain⟨y,gy⟩:∃y,ys[j]?=some y:=⟨_,Zb (by omega)⟩;have e5:(((j+1:Nat):Int)-1)=j:=by omega
   rw[e5]at h5;have aa:dM .i64 ((j:Int)-1)=(j:Int)-1:=dh (by omega) (by omega);by_cases dY:x<y
   .have:=X3 hx hy gx gy hd dY;have hs:iU (vl xs-vl ys)= -1:=by unfold iU;rw[dd (by omega)]
    simp[cU,h0,h1,h5,gx,gy,dY,hs]
   .by_cases tQ:y<x
    .have:=X3 hy hx gy gx hd.symm tQ;have hs:iU (vl xs-vl ys)=1:=by unfold iU;rw[db (by omega),dd (by omega)]
     simp[cU,h0,h1,h5,gx,gy,dY,tQ,hs]
    .have OJ:x=y:=by omega
     have hd2:xs.drop j=ys.drop j:=by
      obtain⟨kx,ex⟩:=Za.1 gx;obtain⟨ky,ey⟩:=Za.1 gy;rw[Zm kx,Zm ky,ex,ey,hd,OJ]
     simp[cU,h0,h1,h5,gx,gy,dY,tQ,aa];exact⟨j,by omega,by omega,hd2,rfl⟩
 .rintro o fr h hn ⟨cU,⟨rfl,hd⟩|⟨rfl,h4⟩⟩
  .simp only at cU;simp[cU,hd,iU]
  .simp only at h4;simp[h4]
def X4 (n:Nat)(xs ys:List Int)(hx:DR xs)(hy:DR ys)(lx:xs.length=14)(ly:ys.length=14):
 ∃r,(∃es,es.length=14/\r=tz es)/\∀b h,cW cx (n+1) b 277 [tz xs,tz ys] h=some (r,h):=by
 refine iQ (f:=277) (n:=n) (args:=[tz xs,tz ys]) (λr=>∃es,es.length=14/\r=tz es) ⟨f277.ntmps,(f277.body).getD .skip,[.tmp 4]⟩ (by kernel_rfl) (by kernel_rfl) rfl (by kernel_rfl) (by simp[f277]) rfl ?_;have X2:List.flatMap (λ_=> [AV.sc (Value.int IntKind.i64 0)]) (List.range 14)=dg (List.replicate 14 0):=rfl;simp[f277,tz,lx,show 14<=maxLen from(by unfold maxLen;omega),X2, -List.reduceReplicate];refine eC (C:=cx) (G:=λx=>∃r h',eQ _ (eR _ _ (dL _ x) _)=some (r,h')/\∃r',dq h' 8 r=some r'/\∃es,es.length=14/\r'= .ls 1 (List.map (λd=> [AV.sc (Value.int IntKind.i64 d)]) es) false)
  (λi s=>∃(es:List Int) (cy:Int),es.length=14/\0<=cy/\cy<=1/\s.1.length=36/\gt s.1 0= .ls 1 (xs.map λd=> [.sc (.int .i64 d)]) false/\gt s.1 1= .ls 1 (ys.map λd=> [.sc (.int .i64 d)]) false/\gt s.1 5= .sl 0 1 0 14 false/\gt s.1 6=cy/\gt s.1 7=i/\s.2=[.row (dg es)])
  (λo s=>o= .exit 0/\s.1.length=36/\gt s.1 5= .sl 0 1 0 14 false/\∃es,es.length=14/\s.2=[.row (dg es)]) 14 (by decide) ?_ ?_ ?_
 .exact⟨List.replicate 14 0,0,rfl,by decide,by decide,by simp[-List.reduceReplicate]⟩
 .rintro i fr h eG ⟨es,cy,tx,od,xm,cU,h0,h1,h5,h6,h7,rfl⟩;simp only at cU h0 h1 h5 h6 h7;by_cases hi:i<14
  .have pQ:(i:Int)<14:=by omega
   obtain⟨x,gx⟩:∃x,xs[i]?=some x:=⟨_,Zb (by omega)⟩;obtain⟨y,gy⟩:∃y,ys[i]?=some y:=⟨_,Zb (by omega)⟩;have gx':∀h:i<xs.length,xs[i]=x:=λh=>by rw[Zb h]at gx;exact Option.some.inj gx
   have gy':∀h:i<ys.length,ys[i]=y:=λh=>by rw[Zb h]at gy;exact Option.some.inj gy
   have bx:=hx x (Zi gx);have vN:=hy y (Zi gy);have NF:i+1<=es.length:=by omega
   have hi3:i+1<=14:=by omega
   have aa:dM .i64 (cy+x)=cy+x:=dh (by omega) (by omega);have aj:dM .i64 ((i:Int)+1)=(i:Int)+1:=dh (by omega) (by omega);obtain⟨S,hS⟩:∃S,S=cy+x+y:=⟨_,rfl⟩;have ae:dM .i64 (cy+x+y)=S:=by rw[hS];exact dh (by omega) (by omega)
   have s1:S.tmod 1000=S % 1000:=Int.tmod_eq_emod_of_nonneg (by omega);have s2:S.tdiv 1000=S/1000:=Int.tdiv_eq_ediv_of_nonneg (by omega);have af:dM .i64 (S/1000)=S/1000:=dh (by omega) (by omega);have pY:=vk es i (S % 1000) NF;simp[cU,h0,h1,h5,h6,h7,hi,pQ,gy,gx',aa,ae,s1,s2,af,aj,pY,lx,tx,hi3];exact⟨es.set i (S % 1000),by simpa using tx,S/1000,by omega,by omega,rfl,rfl⟩
  .have pQ:¬(i:Int)<14:=by omega
   simp[cU,h0,h5,h7,pQ,lx];exact⟨es,tx,rfl⟩
 .rintro o fr h hn ⟨rfl,cU,h5,es,tx,rfl⟩;simp only at cU h5;have lH:=Hc es false [.row (dg es)] 0 rfl;rw[tx]at lH;simp[cU,h5];exact gz ⟨_,lH,es,tx,rfl⟩
def Ff (n:Nat)(xs ys:List Int)(hx:DR xs)(hy:DR ys)(lx:xs.length=14)(ly:ys.length=14):
 ∃r,(∃es,es.length=14/\r=tz es)/\∀b h,cW cx (n+1) b 279 [tz xs,tz ys] h=some (r,h):=by
 refine iQ (f:=279) (n:=n) (args:=[tz xs,tz ys]) (λr=>∃es,es.length=14/\r=tz es) ⟨f279.ntmps,(f279.body).getD .skip,[.tmp 4]⟩ (by kernel_rfl) (by kernel_rfl) rfl (by kernel_rfl) (by simp[f279]) rfl ?_;have X2:List.flatMap (λ_=> [AV.sc (Value.int IntKind.i64 0)]) (List.range 14)=dg (List.replicate 14 0):=rfl;simp[f279,tz,lx,show 14<=maxLen from(by unfold maxLen;omega),X2, -List.reduceReplicate];refine eC (C:=cx) (G:=λx=>∃r h',eQ _ (eR _ _ (dL _ x) _)=some (r,h')/\∃r',dq h' 8 r=some r'/\∃es,es.length=14/\r'= .ls 1 (List.map (λd=> [AV.sc (Value.int IntKind.i64 d)]) es) false)
  (λi s=>∃(es:List Int) (cy:Int),es.length=14/\ -1<=cy/\cy<=0/\s.1.length=40/\gt s.1 0= .ls 1 (xs.map λd=> [.sc (.int .i64 d)]) false/\gt s.1 1= .ls 1 (ys.map λd=> [.sc (.int .i64 d)]) false/\gt s.1 5= .sl 0 1 0 14 false/\gt s.1 6=cy/\gt s.1 7=i/\s.2=[.row (dg es)])
  (λo s=>o= .exit 0/\s.1.length=40/\gt s.1 5= .sl 0 1 0 14 false/\∃es,es.length=14/\s.2=[.row (dg es)]) 14 (by decide) ?_ ?_ ?_
 .exact⟨List.replicate 14 0,0,rfl,by decide,by decide,by simp[-List.reduceReplicate]⟩
 .rintro i fr h eG ⟨es,cy,tx,od,xm,cU,h0,h1,h5,h6,h7,rfl⟩;simp only at cU h0 h1 h5 h6 h7;by_cases hi:i<14
  .have pQ:(i:Int)<14:=by omega
   obtain⟨x,gx⟩:∃x,xs[i]?=some x:=⟨_,Zb (by omega)⟩;obtain⟨y,gy⟩:∃y,ys[i]?=some y:=⟨_,Zb (by omega)⟩;have gx':∀h:i<xs.length,xs[i]=x:=λh=>by rw[Zb h]at gx;exact Option.some.inj gx
   have gy':∀h:i<ys.length,ys[i]=y:=λh=>by rw[Zb h]at gy;exact Option.some.inj gy
   have bx:=hx x (Zi gx);have vN:=hy y (Zi gy);have NF:i+1<=es.length:=by omega
   have hi3:i+1<=14:=by omega
   have aa:dM .i64 (cy+x)=cy+x:=dh (by omega) (by omega);have aj:dM .i64 ((i:Int)+1)=(i:Int)+1:=dh (by omega) (by omega);obtain⟨S,hS⟩:∃S,S=cy+x-y:=⟨_,rfl⟩;have ae:dM .i64 (cy+x-y)=S:=by rw[hS];exact dh (by omega) (by omega)
   by_cases hn:S<0
   .have af:dM .i64 (S+1000)=S+1000:=dh (by omega) (by omega);have pY:=vk es i (S+1000) NF;simp[cU,h0,h1,h5,h6,h7,hi,pQ,gy,gx',aa,ae,hn,af,aj,pY,lx,tx,hi3];exact⟨es.set i (S+1000),by simpa using tx, -1,by decide,by decide,rfl,rfl⟩
   .have pY:=vk es i S NF;simp[cU,h0,h1,h5,h6,h7,hi,pQ,gy,gx',aa,ae,hn,aj,pY,lx,tx,hi3];exact⟨es.set i S,by simpa using tx,0,by decide,by decide,rfl,rfl⟩
  .have pQ:¬(i:Int)<14:=by omega
   simp[cU,h0,h5,h7,pQ,lx];exact⟨es,tx,rfl⟩
 .rintro o fr h hn ⟨rfl,cU,h5,es,tx,rfl⟩;simp only at cU h5;have lH:=Hc es false [.row (dg es)] 0 rfl;rw[tx]at lH;simp[cU,h5];exact gz ⟨_,lH,es,tx,rfl⟩
section
variable {C : Cx} {cal : FuncId -> LA -> Hp -> Option (AV × Hp)} {ops : Array Oper}
@[simp] def ai8 (d:Tmp)(rest:List Oper)(fr:LA)(e:List Int)(h:Hp):tV C cal ops (some d) rest fr (some (tz e,h))=eh C cal ops rest (fr.set d (tz e),h):=rfl
@[simp] def aiO (d:Tmp)(rest:List Oper)(fr:LA)(e:List Int)(h:Hp):wE C cal ops (some d) rest fr (some (tz e,h))=dz C cal ops rest (fr.set d (tz e),h):=rfl
@[simp] def ahL (h:Hp)(n:Nat)(e:List Int):dq h n (tz e)=some (tz e):=by cases n<;>rfl
@[simp] def TN (h:Hp)(n:Nat)(v:Value):dq h n (.sc v)=some (.sc v):=by cases n<;>rfl
end
def lsZ :AV:= .ls 1 [[.sc (.int .i64 0)],[.sc (.int .i64 0)],[.sc (.int .i64 0)],[.sc (.int .i64 0)],[.sc (.int .i64 0)],[.sc (.int .i64 0)],[.sc (.int .i64 0)],[.sc (.int .i64 0)],[.sc (.int .i64 0)],[.sc (.int .i64 0)],[.sc (.int .i64 0)],[.sc (.int .i64 0)],[.sc (.int .i64 0)],[.sc (.int .i64 0)]] true
def SE (n:Nat)(b:Bool)(h:Hp):cW cx (n+1) b 277 [lsZ,lsZ] h=some (tz [0,0,0,0,0,0,0,0,0,0,0,0,0,0],h):=by
 kernel_rfl
def DS (an X bn Y:Int):Int:=if an=bn\/bn=0 then an else if an=0 then bn else if iU (X-Y)=0 then 0 else if 0<iU (X-Y)then an else bn
def abZ (n:Nat)(an bn:Int)(xs ys:List Int)(hx:DR xs)(hy:DR ys)(lx:xs.length=14)(ly:ys.length=14):
 ∃r,(∃es,r= .tp [.sc (.int .i64 (DS an (vl xs) bn (vl ys))),tz es])/\∀b h,cW cx (n+2) b 219 [an,tz xs,bn,tz ys] h=some (r,h):=by
 obtain⟨_,⟨e1,_,rfl⟩,hp⟩:=X4 n xs ys hx hy lx ly;obtain⟨_,⟨e2,_,rfl⟩,hm⟩:=Ff n xs ys hx hy lx ly;obtain⟨_,⟨e3,_,rfl⟩,yG⟩:=Ff n ys xs hy hx ly lx;have ho:=λb h=>SD n b xs ys h hx hy lx ly
 refine iQ (f:=219) (n:=n+1) (args:=[.sc (.int .i64 an),tz xs,.sc (.int .i64 bn),tz ys]) (λr=>∃es,r= .tp [.sc (.int .i64 (DS an (vl xs) bn (vl ys))),tz es]) ⟨f219.ntmps,(f219.body).getD .skip,[.tmp 8,.tmp 9]⟩ (by kernel_rfl) (by kernel_rfl) rfl (by kernel_rfl) (by simp[f219]) rfl ?_;have hz:=λb h=>SE n b h
 have Sj:chunk 1 14 (List.flatMap (λ_=> [AV.sc (Value.int IntKind.i64 0)]) (List.range 14))=[[.sc (.int .i64 0)],[.sc (.int .i64 0)],[.sc (.int .i64 0)],[.sc (.int .i64 0)],[.sc (.int .i64 0)],[.sc (.int .i64 0)],[.sc (.int .i64 0)],[.sc (.int .i64 0)],[.sc (.int .i64 0)],[.sc (.int .i64 0)],[.sc (.int .i64 0)],[.sc (.int .i64 0)],[.sc (.int .i64 0)],[.sc (.int .i64 0)]]:=rfl;simp only[lsZ]at hz;by_cases h1:an=bn
 .simp[f219,h1,hp,DS];exact⟨_,_,⟨rfl,rfl⟩,by simp[dq];exact⟨_,rfl⟩⟩
 .by_cases h2:bn=0
  .subst h2;simp[f219,h1,hp,DS];exact⟨_,_,⟨rfl,rfl⟩,by simp[dq];exact⟨_,rfl⟩⟩
  .by_cases h3:an=0
   .subst h3;simp[f219,h1,h2,DS];exact⟨_,_,⟨rfl,rfl⟩,by simp[dq];exact⟨_,rfl⟩⟩
   .by_cases h4:iU (vl xs-vl ys)=0
    .simp[f219,h1,h2,h3,ho,h4,DS,show 14<=maxLen from(by unfold maxLen;omega),oy,Sj,hz];exact⟨_,_,⟨rfl,rfl⟩,by simp[dq];exact⟨_,rfl⟩⟩
    .by_cases h5:0<iU (vl xs-vl ys)
     .simp[f219,h1,h2,h3,ho,h4,h5,hm,DS];exact⟨_,_,⟨rfl,rfl⟩,by simp[dq];exact⟨_,rfl⟩⟩
     .simp[f219,h1,h2,h3,ho,h4,h5,yG,DS];exact⟨_,_,⟨rfl,rfl⟩,by simp[dq];exact⟨_,rfl⟩⟩
def SF (n1 d1 n2 d2:Int)(h1:0<d1)(h2:0<d2):DS (iU n1) (n1.natAbs*d2) (-(iU n2)) (n2.natAbs*d1)=iU (n1*d2-n2*d1):=by
 have e1:(n1.natAbs:Int)*d2=((n1*d2).natAbs:Int):=by rw[Int.natAbs_mul];rw[Int.natCast_mul,Int.natAbs_of_nonneg (Int.le_of_lt h2)]
 have e2:(n2.natAbs:Int)*d1=((n2*d1).natAbs:Int):=by rw[Int.natAbs_mul];rw[Int.natCast_mul,Int.natAbs_of_nonneg (Int.le_of_lt h1)]
 have s:∀n d:Int,0<d->iU n=iU (n*d):=λn d hd=>by
  unfold iU;by_cases a:n<0
  .rw[dd a,dd (Int.mul_neg_of_neg_of_pos a hd)]
  .by_cases b:0<n
   .have:=Int.mul_pos b hd;rw[db a,dd b,db (by omega),dd this]
   .have:n=0:=by omega
    subst this;simp
 rw[e1,e2,s n1 d2 h2,s n2 d1 h1];generalize n1*d2=p;generalize n2*d1=q;have sg:∀x:Int,(x<0/\iU x= -1/\(x.natAbs:Int)= -x)\/(x=0/\iU x=0/\(x.natAbs:Int)=0)\/(0<x/\iU x=1/\(x.natAbs:Int)=x):=λx=>by
  unfold iU;by_cases a:x<0
  .exact .inl ⟨a,by rw[dd a],by omega⟩
  .by_cases b:0<x
   .exact .inr (.inr ⟨b,by rw[db a,dd b],by omega⟩)
   .exact .inr (.inl ⟨by omega,by rw[db a,db b],by omega⟩)
 rcases sg p with⟨p1,p2,p3⟩|⟨p1,p2,p3⟩|⟨p1,p2,p3⟩<;>rcases sg q with⟨q1,q2,q3⟩|⟨q1,q2,q3⟩|⟨q1,q2,q3⟩<;>
  rcases sg (p-q)with⟨r1,r2,r3⟩|⟨r1,r2,r3⟩|⟨r1,r2,r3⟩<;>
  rcases sg ((p.natAbs:Int)-(q.natAbs:Int))with⟨t1,t2,t3⟩|⟨t1,t2,t3⟩|⟨t1,t2,t3⟩<;>
  simp only[DS,p2,q2,r2,t2]<;>first|rfl|decide|omega
def NL (n:Nat)(b:Bool)(N1 D1 N2 D2:Int)(h:Hp):cW cx (n+3) b 148 [lJ N1 D1,lJ N2 D2] h=some (.sc (.int .i64 (tj N1 D1 N2 D2)),h):=by
 refine fZ f148 [.tmp 4] rfl rfl ?_ b h;obtain⟨a1,a2,a3⟩:=Bf N1 D1;obtain⟨b1,b2,b3⟩:=Bf N2 D2;have hm:=SF (gO N1 D1) (jN N1 D1) (gO N2 D2) (jN N2 D2) a3 b3;obtain⟨e1,he1⟩:∃e:Nat,jN N1 D1=e:=⟨(jN N1 D1).toNat,by omega⟩;obtain⟨e2,YW⟩:∃e:Nat,jN N2 D2=e:=⟨(jN N2 D2).toNat,by omega⟩;rw[nO]at a1 a2 b1 b2;have l1:((gO N1 D1).natAbs:Int)*e2<1000^14:=by
  have:=Int.mul_le_mul (show((gO N1 D1).natAbs:Int)<=1000000000000000 by omega) (show(e2:Int)<=1000000000000000 by omega) (by omega) (by decide);have q:(1000:Int)^14=1000000000000000000000000000000000000000000:=by decide
  omega
 have l2:((gO N2 D2).natAbs:Int)*e1<1000^14:=by
  have:=Int.mul_le_mul (show((gO N2 D2).natAbs:Int)<=1000000000000000 by omega) (show(e1:Int)<=1000000000000000 by omega) (by omega) (by decide);have q:(1000:Int)^14=1000000000000000000000000000000000000000000:=by decide
  omega
 have c1:=λh=>C5 (n+1) false (gO N1 D1) h ⟨by omega,by omega⟩
 have c2:=λh=>C5 (n+1) false (gO N2 D2) h ⟨by omega,by omega⟩
 have c3:=λh=>Fe (n+1) false (gO N1 D1).natAbs e2 h (by omega) (by omega)
 have c4:=λh=>Fe (n+1) false (gO N2 D2).natAbs e1 h (by omega) (by omega)
 have s1:=λh=>KJ (n+1) false (gO N1 D1) h
 have s2:=λh=>KJ (n+1) false (gO N2 D2) h
 obtain⟨_,⟨es,rfl⟩,c5⟩:=abZ n (iU (gO N1 D1)) (-(iU (gO N2 D2))) (qd 14 ((gO N1 D1).natAbs*e2)) (qd 14 ((gO N2 D2).natAbs*e1)) (C6 _ _) (C6 _ _) (qA _ _) (qA _ _);rw[Hb _ _ (Int.mul_nonneg (by omega) (by omega)) l1,Hb _ _ (Int.mul_nonneg (by omega) (by omega)) l2,<-he1,<-YW,hm]at c5;have hf:dM .i64 (-(iU (gO N2 D2)))= -(iU (gO N2 D2)):=by
  have: -1<=iU (gO N2 D2)/\iU (gO N2 D2)<=1:=by unfold iU;(repeat' split)<;>omega
  exact dh (by omega) (by omega)
 rw[<-YW]at c3;rw[<-he1]at c4;generalize qd 14 (((gO N1 D1).natAbs:Int)*jN N2 D2)=w1 at c3 c5;generalize qd 14 (((gO N2 D2).natAbs:Int)*jN N1 D1)=w2 at c4 c5;generalize iU (gO N1 D1)=g1 at s1 c5;generalize iU (gO N2 D2)=g2 at s2 c5 hf;generalize((gO N1 D1).natAbs:Int)=m1 at c1 c3;generalize((gO N2 D2).natAbs:Int)=m2 at c2 c4;cases hA:fv N1 D1<;>cases hB:fv N2 D2<;>simp only[gO,jN,hA,hB,cond_true,cond_false]at c1 c2 c3 c4 c5 s1 s2
 .have e1:m1=m2:=by have:=(c1 []).symm.trans (c2 []);simpa using this
  subst e1;have e2:g1=g2:=by have:=(s1 []).symm.trans (s2 []);simpa using this
  subst e2;have e3:tz w1=tz w2:=by have:=(c3 []).symm.trans (c4 []);simpa using this
  rw[<-e3]at c5;have Og:=λb h=>qU n b N1 D1 h
  have hB':=λb h=>qU n b N2 D2 h
  simp only[lJ]at Og hB';simp[da,f148,lJ,Og,hB',hA,hB,c1,c3,s1,hf,c5,tj,gO,jN]
 all_goals
  have Og:=λb h=>qU n b N1 D1 h
  have hB':=λb h=>qU n b N2 D2 h
  simp only[lJ]at Og hB';simp[da,f148,lJ,Og,hB',hA,hB,c1,c2,c3,c4,s1,s2,hf,c5,tj,gO,jN]
end
section
attribute [local simp] zi da XM
inductive V where
 |mk (k n d:Int) (s:ByteArray) (z:Bool) (l:List V)
namespace V
def k :V->Int| .mk k _ _ _ _ _=>k
def n :V->Int| .mk _ n _ _ _ _=>n
def d :V->Int| .mk _ _ d _ _ _=>d
def s :V->ByteArray| .mk _ _ _ s _ _=>s
def l :V->List V| .mk _ _ _ _ _ l=>l
def isNil :V->Bool| .mk _ _ _ _ z _=>z
end V
def ql (z:Bool)(cY:List LA):AV:=bif z && cY.isEmpty then .sc (.slice none 0 0)else .ls 5 cY z
mutual
def enc :V->LA
 | .mk k n d s z l=> [.sc (.int .i64 k),.sc (.int .i64 n),.sc (.int .i64 d),.sc (.string s),ql z (dN l)]
def dN :List V->List LA
 | []=> []
 |x::xs=>enc x::dN xs
end
def jB (v:V):AV:= .ag (enc v)
def fG (z:Bool)(l:List V):AV:=ql z (dN l)
mutual
def fB :V->Nat
 | .mk _ _ _ _ _ l=>Gw l+1
def Gw :List V->Nat
 | []=>0
 |x::xs=>max (fB x) (Gw xs)
end
def HA (s:ByteArray):Bool:=s.data.toList.all λb=>decide (32<=b.toNat) && decide (b.toNat<=126)
mutual
def pR :V->Int->Bool
 |
  .mk k n d s _ l,m=>
  (decide (k=3)||decide (d=0)) && (decide (k=4)||kr s ⟨#[]⟩) && (decide (k=8)||decide (k=7)||l.isEmpty) &&
   (
    if k=0 then decide (n=0)
    else if k=1 then decide (n=0)||decide (n=1)
    else if k=2 then vm n
    else if k=3 then decide (2<=d) && fv n d
    else if k=4 then decide (n=0) && decide (s.size<=100) && HA s
    else if k=5\/k=6 then decide (1<=n) && decide (n<=1000000)
    else if k=8 then decide (n=0) && decide (l.length<=64) && decide (1<=m) && Ax l (m-1)
    else if k=7 then decide (n=0) && decide (l.length % 2=1) && decide (l.length<=25) && wB l false
    else false)
def Ax :List V->Int->Bool
 | [],_=>true
 |x::xs,m=>pR x m && Ax xs m
def wB :List V->Bool->Bool
 | [],_=>true
 |x::xs,e=>(decide (x.k=if e then 6 else 5) && pR x 0) && wB xs (!e)
end
def jF (v:V):Bool:=pR v 8
def fA (k:Int):Int:=if k=0 then 0 else if k=1 then 1 else if k=2\/k=3 then 2 else if k=4 then 3 else if k=5 then 4 else if k=6 then 5 else if k=8 then 6 else 7
mutual
def j6 :V->V->Int
 |
  .mk k n d s z l,w=>
  if jF (.mk k n d s z l)=jF w then
   if jF w then
    if ej (fA k) (fA w.k)=0 then
     if k=2\/k=3 then tj n (if k=2 then 1 else d) w.n (if w.k=2 then 1 else w.d)
     else wU [ej k w.k,ej n w.n,ej d w.d,kL s w.s,gL l w.l]
    else ej (fA k) (fA w.k)
   else wU [ej k w.k,ej n w.n,ej d w.d,kL s w.s,gL l w.l]
  else if jF w then 1 else-1
def gL :List V->List V->Int
 | [],m=>if m.isEmpty then 0 else-1
 |
  x::xs,m=>match m with
  | []=>1
  |y::ys=>if j6 x y=0 then gL xs ys else j6 x y
end
def oE {v:V}:∀{l:List V},v∈l->fB v<=Gw l
 |
  x::xs,h=>by
  rw[Gw];rcases Xm.1 h with rfl|h
  .omega
  .have:=oE h;omega
def dK :∀l:List V,(dN l).length=l.length
 | []=>rfl
 |x::xs=>by rw[dN,Yw,Yw,dK xs]
def fP :∀(l:List V) (i:Nat),(dN l)[i]?=(l[i]?).map enc
 | [],i=>by simp[dN]
 |x::xs,0=>by simp[dN]
 |x::xs,i+1=>by simp[dN,fP xs i]
def FE (m:Int):∀l:List V,Ax l m=l.all (pR · m)
 | []=>by simp[Ax]
 |x::xs=>by simp[Ax,FE m xs]
def Hd :∀N (v:V),fB v<=N->∀m m':Int,m<=m'->pR v m=true->pR v m'=true:=by
 intro N
 induction N with
 |zero=>intro v h;cases v;simp[fB]at h
 |
  succ N ih=>
  intro v h m m' hm hv;cases v with
  |
   mk k n d s z l=>
   simp only[fB]at h;rw[pR]at hv|-;simp only[Zh]at hv|-;refine⟨hv.1,?_⟩;have h2:=hv.2
   revert h2
   by_cases h8:k=8
   .simp only[h8];simp only[show¬((8:Int)=0)from by decide,show¬((8:Int)=1)from by decide,show¬((8:Int)=2)from by decide,show¬((8:Int)=3)from by decide,show¬((8:Int)=4)from by decide,show¬((8:Int)=5\/(8:Int)=6)from by decide,if_false,if_true,Zh,Zz];rintro⟨⟨⟨a,b⟩,c⟩,e⟩;refine⟨⟨⟨a,b⟩,by omega⟩,?_⟩;rw[FE,Yr]at e|-;intro x hx;exact ih x (by have:=oE hx;omega) (m-1) (m'-1) (by omega) (e x hx)
   .simp only[h8,if_false];exact λh=>h
def HG {v:V}{m m':Int}(hm:m<=m')(h:pR v m=true):pR v m'=true:=Hd _ v (Yt _) m m' hm h
end
section
attribute [local simp] zi XM
def ki (v:V):d_ (jB v)=true:=by
 cases v with
 |mk k n d s z l=>simp only[jB,enc,d_,ql];cases z && (dN l).isEmpty<;>rfl
def ab0 {x y:ByteArray}(h:kr x y=true):kL x y=0:=by
 have:=(iT x y).1 h;subst this;simp[kL,kU]
def lu (v:V):[jB v].all d_=true:=by rw[Zn,ki];rfl
def nx (v w:V):[jB v,jB w].all d_=true:=by rw[Zn,Zn,ki,ki];rfl
def Ba (n:Nat)(b:Bool)(x y:Int)(h:Hp):cW cx (n+1) b 134 [x,y] h=some (.sc (.int .i64 (ej x y)),h):=by
 refine fZ f134 [.tmp 4] rfl rfl ?_ b h;by_cases h1:x<y
 .simp[f134,h1,ej]
 .by_cases h2:y<x<;>simp[f134,h1,h2,ej]
def Tl (n:Nat)(b:Bool)(x y:ByteArray)(h:Hp):cW cx (n+1) b 217 [.sc (.string x),.sc (.string y)] h=some (.sc (.int .i64 (kL x y)),h):=by
 refine fZ f217 [.tmp 4] rfl rfl ?_ b h;cases h1:nZ x y
 .cases h2:kr x y
  .simp[f217,h1,h2,nz h1 h2,kL]
  .simp[f217,h1,h2,ab0 h2]
 .simp[f217,h1,kL]
def tL (b:Bool):Int:=bif b then 2 else 0
def NK (n:Nat)(b x:Bool)(h:Hp):cW cx (n+1) b 144 [x] h=some (.sc (.int .i64 (tL x)),h):=by
 refine fZ f144 [.tmp 2] rfl rfl ?_ b h;cases x<;>simp[f144,tL]
def Py (n:Nat)(b:Bool)(k:Int)(h:Hp):cW cx (n+1) b 146 [k] h=some (.sc (.int .i64 (fA k)),h):=by
 refine fZ f146 [.tmp 2] rfl rfl ?_ b h;by_cases h0:k=0
 .simp[f146,h0,fA]
 by_cases h1:k=1
 .simp[f146,h1,fA]
 by_cases h2:k=2
 .simp[f146,h2,fA]
 by_cases h3:k=3
 .simp[f146,h3,fA]
 by_cases h4:k=4
 .simp[f146,h4,fA]
 by_cases h5:k=5
 .simp[f146,h5,fA]
 by_cases h6:k=6
 .simp[f146,h6,fA]
 by_cases h8:k=8
 .simp[f146,h8,fA]
 simp[f146,h0,h1,h2,h3,h4,h5,h6,h8,fA]
def o9 (k:Int):Int:=if k=3 then 2 else if k=7 then 9 else k
def D8 (n:Nat)(b:Bool)(v:V)(h:Hp):cW cx (n+1) b 247 [jB v] h=some (.sc (.int .i64 (o9 v.k)),h):=by
 refine fZ f247 [.tmp 2] (lu v) rfl ?_ b h;cases v with
 |
  mk k n d s z l=>
  by_cases h3:k=3
  .simp[f247,jB,enc,h3,o9,V.k]
  by_cases h7:k=7
  .simp[f247,jB,enc,h7,o9,V.k]
  simp[f247,jB,enc,h3,h7,o9,V.k]
def gu (z:Bool)(l:List V):(l=[]/\fG z l=())\/fG z l= .ls 5 (dN l) z:=by
 unfold fG ql;cases l with
 |nil=>cases z<;>simp[dN]
 |cons x xs=>right;simp[dN]
def fY (k n d:Int)(s:ByteArray)(z:Bool)(l:List V):jB (.mk k n d s z l)= .ag [k,n,d,.sc (.string s),fG z l]:=rfl
def iJ (v:V)(a b c e:Bool):Bool:=(a||decide (v.n=0)) && (b||decide (v.d=0)) && (c||kr v.s ⟨#[]⟩) && (e||v.l.isEmpty)
def x7 (z:Bool)(l:List V):fG z l=()/\l.isEmpty=true\/∃cY,fG z l= .ls 5 cY z/\(l.isEmpty=decide ((cY.length:Int)=0)):=by
 rcases gu z l with⟨rfl,e⟩|e
 .exact .inl ⟨e,rfl⟩
 .refine .inr ⟨_,e,?_⟩;rw[dK];cases l<;>simp<;>omega
def Fu (n:Nat)(b:Bool)(v:V)(h:Hp):cW cx (n+1) b 271 [jB v,false,false,false,false] h=some (.sc (.bool (iJ v false false false false)),h):=by
 have hc:[jB v,.sc (.bool false),.sc (.bool false),.sc (.bool false),.sc (.bool false)].all d_=true:=by rw[Zn,ki];rfl
 refine fZ f271 [.tmp 10] hc rfl ?_ b h;clear hc;cases v with
 |
  mk k n d s z l=>
  rw[fY];simp only[iJ,V.n,V.d,V.s,V.l];have hl:=x7 z l;generalize fG z l=L at hl;generalize l.isEmpty=E at hl;by_cases hn:n=0
  .by_cases hd:d=0
   .cases hs:kr s ⟨#[]⟩
    .simp[f271,hn,hd,hs]
    .rcases hl with⟨rfl,e⟩|⟨cY,rfl,e⟩<;>simp[f271,hn,hd,hs,e]
   .simp[f271,hn,hd]
  .simp[f271,hn]
def Fv (n:Nat)(b:Bool)(v:V)(h:Hp):cW cx (n+1) b 271 [jB v,true,false,false,false] h=some (.sc (.bool (iJ v true false false false)),h):=by
 have hc:[jB v,.sc (.bool true),.sc (.bool false),.sc (.bool false),.sc (.bool false)].all d_=true:=by rw[Zn,ki];rfl
 refine fZ f271 [.tmp 10] hc rfl ?_ b h;clear hc;cases v with
 |
  mk k n d s z l=>
  rw[fY];simp only[iJ,V.n,V.d,V.s,V.l];have hl:=x7 z l;generalize fG z l=L at hl;generalize l.isEmpty=E at hl;by_cases hd:d=0
  .cases hs:kr s ⟨#[]⟩
   .simp[f271,hd,hs]
   .rcases hl with⟨rfl,e⟩|⟨cY,rfl,e⟩<;>simp[f271,hd,hs,e]
  .simp[f271,hd]
def Fx (n:Nat)(b:Bool)(v:V)(h:Hp):cW cx (n+1) b 271 [jB v,true,true,false,false] h=some (.sc (.bool (iJ v true true false false)),h):=by
 have hc:[jB v,.sc (.bool true),.sc (.bool true),.sc (.bool false),.sc (.bool false)].all d_=true:=by rw[Zn,ki];rfl
 refine fZ f271 [.tmp 10] hc rfl ?_ b h;clear hc;cases v with
 |
  mk k n d s z l=>
  rw[fY];simp only[iJ,V.n,V.d,V.s,V.l];have hl:=x7 z l;generalize fG z l=L at hl;generalize l.isEmpty=E at hl;cases hs:kr s ⟨#[]⟩
  .simp[f271,hs]
  .rcases hl with⟨rfl,e⟩|⟨cY,rfl,e⟩<;>simp[f271,hs,e]
def Fy (n:Nat)(b:Bool)(v:V)(h:Hp):cW cx (n+1) b 271 [jB v,false,false,true,false] h=some (.sc (.bool (iJ v false false true false)),h):=by
 have hc:[jB v,.sc (.bool false),.sc (.bool false),.sc (.bool true),.sc (.bool false)].all d_=true:=by rw[Zn,ki];rfl
 refine fZ f271 [.tmp 10] hc rfl ?_ b h;clear hc;cases v with
 |
  mk k n d s z l=>
  rw[fY];simp only[iJ,V.n,V.d,V.s,V.l];have hl:=x7 z l;generalize fG z l=L at hl;generalize l.isEmpty=E at hl;by_cases hn:n=0
  .by_cases hd:d=0
   .rcases hl with⟨rfl,e⟩|⟨cY,rfl,e⟩<;>simp[f271,hn,hd,e]
   .simp[f271,hn,hd]
  .simp[f271,hn]
def FA (n:Nat)(b:Bool)(v:V)(h:Hp):cW cx (n+1) b 271 [jB v,false,false,false,true] h=some (.sc (.bool (iJ v false false false true)),h):=by
 have hc:[jB v,.sc (.bool false),.sc (.bool false),.sc (.bool false),.sc (.bool true)].all d_=true:=by rw[Zn,ki];rfl
 refine fZ f271 [.tmp 10] hc rfl ?_ b h;clear hc;cases v with
 |
  mk k n d s z l=>
  rw[fY];simp only[iJ,V.n,V.d,V.s,V.l];have hl:=x7 z l;generalize fG z l=L at hl;generalize l.isEmpty=E at hl;by_cases hn:n=0
  .by_cases hd:d=0
   .cases hs:kr s ⟨#[]⟩
    .simp[f271,hn,hd,hs]
    .simp[f271,hn,hd,hs]
   .simp[f271,hn,hd]
  .simp[f271,hn]
def K8 (c:UInt8):Bool:=decide (32<=c.toNat) && decide (c.toNat<=126)
def ab1 (c:UInt8):K8 c=(decide (32<=(c.toNat:Int)) && decide ((c.toNat:Int)<=126)):=by
 unfold K8;generalize c.toNat=m;have e1:decide (32<=m)=decide (32<=(m:Int)):=decide_eq_decide.2 (by omega);have e2:decide (m<=126)=decide ((m:Int)<=126):=decide_eq_decide.2 (by omega);rw[e1,e2]
def okD (x:ByteArray)(i:Nat):Bool:=(x.data.toList.drop i).all K8
def X5 (x:ByteArray):HA x=okD x 0:=rfl
def ab2 (x:ByteArray)(i:Nat)(h:x.size<=i):okD x i=true:=by unfold okD;rw[Zt h];rfl
def X6 {x:ByteArray}{i:Nat}{c:UInt8}(h:x.data.toList[i]?=some c):okD x i=(K8 c && okD x (i+1)):=by
 obtain⟨k,e⟩:=Za.1 h;unfold okD;rw[Zm k,e,Zn]
def Y_ (n:Nat)(b:Bool)(x:ByteArray)(h:Hp)(hx:x.size<=1000000000000000):cW cx (n+1) b 273 [.sc (.string x)] h=some (.sc (.bool (HA x && decide ((x.size:Int)<=100))),h):=by
 refine fZ f273 [.tmp 2] rfl rfl ?_ b h;have gC:x.data.toList.length=x.size:=rfl;simp[f273];refine lS
  (λi s _=>HA x=okD x i/\s.length=23/\gt s 0= .sc (.string x)/\gt s 3=i)
  (λo s _=>s.length=23/\((o= .exit 0/\HA x=true/\gt s 0= .sc (.string x))\/(o= .ret/\HA x=false/\gt s 2=false))) x.size (by simp;omega) (by simp[X5]) ?_ ?_
 .rintro i fr h eG ⟨ho,cU,h0,h3⟩;by_cases hi:i<x.size
  .obtain⟨c,hc⟩:∃c,x.data.toList[i]?=some c:=⟨_,Zb (by omega)⟩;rw[X6 hc]at ho;have hf:dM .i64 ((i:Int)+1)=((i+1:Nat):Int):=dh (by omega) (by omega);have pS:∀k,x.data[i]'k=c:=λk=>by obtain⟨_,e⟩:=Za.1 hc;exact e
   obtain⟨q,hq⟩:∃q:Int,q=c.toNat:=⟨_,rfl⟩;have iG:K8 c=(decide (32<=q) && decide (q<=126)):=by rw[hq];exact ab1 c
   rw[iG]at ho;clear iG;by_cases c1:q<32
   .have z:HA x=false:=by rw[ho];simp;omega
    clear ho;simp[cU,h0,h3,hi,pS,<-hq,c1,z]
   .by_cases c2:126<q
    .have z:HA x=false:=by rw[ho];simp;omega
     clear ho;simp[cU,h0,h3,hi,pS,<-hq,c1,c2,z]
    .have z:HA x=okD x (i+1):=by rw[ho];simp[show 32<=q by omega,show q<=126 by omega]
     clear ho;simp[cU,h0,h3,hi,pS,<-hq,c1,c2,hf];exact z
  .have hz:HA x=true:=by rw[ho,ab2 x i (by omega)]
   simp[cU,h0,h3,hi,hz]
 .rintro o fr h hn ⟨cU,⟨rfl,hz,h0⟩|⟨rfl,hz,h2⟩⟩
  .simp[cU,h0,hz]
  .simp[h2,hz]
@[simp] def i7 (v:V):(enc v).length=5:=by cases v;rfl
@[simp] def ahT (v:V):List.take 5 (enc v)=enc v:=by cases v;rfl
def VC (N:Nat)(v:V):Prop:=∀b m h,0<=m->m<=8->cW cx N b 216 [.ag (enc v),.sc (.int .i64 m)] h=some (.sc (.bool (pR v m)),h)
def Dk (l:List V)(m:Int)(i:Nat):Bool:=Ax (l.drop i) m
def D6 (l:List V)(m:Int):Ax l m=Dk l m 0:=rfl
def HE (l:List V)(m:Int)(i:Nat)(h:l.length<=i):Dk l m i=true:=by unfold Dk;rw[Zt h];rfl
def D7 {l:List V}{m:Int}{i:Nat}{c:V}(h:l[i]?=some c):Dk l m i=(pR c m && Dk l m (i+1)):=by
 obtain⟨k,e⟩:=Za.1 h;unfold Dk;rw[Zm k,e,Ax]
def D4 (l:List V)(m:Int):Bool:=decide ((l.length:Int)<=64) && decide (1<=m) && Ax l (m-1)
def kQ (z:Bool)(l:List V):d_ (fG z l)=true:=by unfold fG ql;cases z && (dN l).isEmpty<;>rfl
def Tk (N:Nat)(b:Bool)(z:Bool)(l:List V)(m:Int)(h:Hp)(s7:0<=m)(hm8:m<=8)(hv:∀x∈l,VC N x):cW cx (N+1) b 275 [fG z l,m] h=some (.sc (.bool (D4 l m)),h):=by
 have hc:[fG z l,.sc (.int .i64 m)].all d_=true:=by rw[Zn,kQ];rfl
 refine fZ f275 [.tmp 4] hc rfl ?_ b h;clear hc;unfold D4;by_cases h1:m<1
 .rcases gu z l with⟨rfl,e⟩|e<;>simp[f275,h1,show¬1<=m by omega,e]
 have KL:dM .i64 (m-1)=m-1:=dh (by omega) (by omega);have zH:1<=m:=by omega
 rcases gu z l with⟨rfl,e⟩|e
 .rw[e];simp[f275,h1,zH,Ax];refine lS
   (λi s _=>i=0/\s.length=27/\gt s 0=()/\gt s 5=(0:Int))
   (λo s _=>s.length=27/\o= .exit 0) 0 (by simp) (by simp) ?_ ?_
  .rintro i fr h eG ⟨rfl,cU,h0,h5⟩;simp[cU,h0,h5]
  .rintro o fr h hn ⟨cU,rfl⟩;simp[cU]
 .rw[e];have hq:=dK l;have hg:=fP l;generalize dN l=cY at hq hg;by_cases h2:64< (l.length:Int)
  .simp[f275,h1,zH,hq,h2,show¬(l.length:Int)<=64 by omega]
  .have wT:(l.length:Int)<=64:=by omega
   simp[f275,h1,zH,hq,h2,wT];refine lS
    (λi s _=>Ax l (m-1)=Dk l (m-1) i/\s.length=27/\gt s 0= .ls 5 cY z/\gt s 1=m/\gt s 5=i)
    (λo s _=>s.length=27/\((o= .exit 0/\Ax l (m-1)=true)\/(o= .ret/\Ax l (m-1)=false/\gt s 4=false))) l.length (by simp;omega) (by simp[D6]) ?_ ?_
   .rintro i fr h eG ⟨ho,cU,h0,h1,h5⟩;by_cases hi:i<l.length
    .obtain⟨c,hc⟩:=eA hi;have hr:cY[i]?=some (enc c):=by rw[hg,hc];rfl
     have du:=gA hr
     have NJ:=hv c (Zi hc);have dy:=λb h=>NJ b (m-1) h (by omega) (by omega)
     rw[D7 hc]at ho;have hf:dM .i64 ((i:Int)+1)=((i+1:Nat):Int):=dh (by omega) (by omega);cases hk:pR c (m-1)
     .have zz:Ax l (m-1)=false:=by rw[ho,hk];rfl
      clear ho;simp[cU,h0,h1,h5,hi,hq,du,KL,dy,hk,zz]
     .have zz:Ax l (m-1)=Dk l (m-1) (i+1):=by rw[ho,hk];rfl
      clear ho;simp[cU,h0,h1,h5,hi,hq,du,KL,dy,hk,hf];exact zz
    .have zz:Ax l (m-1)=true:=by rw[ho,HE l _ i (by omega)]
     simp[cU,h0,h5,hi,hq,zz]
   .rintro o fr h hn ⟨cU,⟨rfl,hz⟩|⟨rfl,hz,h2⟩⟩
    .simp[cU,hz]
    .simp[h2,hz]
end
end Go.Proofs.YtaibpnppeiigdaaGreatDoor
