/- Part of the proof. -/
import Derived.Test.YtaibpnppeiigdaaGreatDoorP24
set_option linter.all false
set_option maxHeartbeats 32000000
set_option maxRecDepth 100000
namespace Go.Proofs.YtaibpnppeiigdaaGreatDoor
open Go Go.Ae Go.Proofs.Tryz
section
attribute [local simp] zi XM
def lC (H:Hp)(id n m:Nat)(cs news:LA)(x:AV)(dC:H[id]?=some (.row cs))(hc:cs.length=n*2)(hx:jL 2 x=true)(hn:gY H x=some (m,news))(hm:news.length=m*2)(hb:n+m<=1000000000):
 ∃qO H',eE cx H 40 (.sl id 2 0 n false) x=some (.sl qO 2 0 (n+m) false,H')/\H'[qO]?=some (.row (cs++news))/\(∀(j:Nat) (b:fp),j≠id->H[j]?=some b->H'[j]?=some b)/\(qO=id\/H.length<=qO)/\H.length<=H'.length:=by
 by_cases h0:m=0
 .subst h0;have:news=[]:=by cases news with
   |nil=>rfl
   |cons _ _=>simp at hm
  subst this;refine⟨id,H,?_,by rw[Yp];exact dC,λj b _ h=>h,.inl rfl,Yt _⟩;unfold eE;rw[tc];have hz:jL 2 (.sl id 2 0 n false)=true:=rfl;simp only[hz,hx,Bool.and_self,if_true,hn,Nat.add_zero]
 .refine⟨H.length,H.set id .dead++[.row (cs++news)],?_,?_,λj b hj h=>?_,.inr (Yt _),by simp⟩
  .have c1:¬(0+(n+m)*2<=n*2):=by omega
   have c2:n+m<=maxLen:=by unfold maxLen;omega
   have c3:(n+m)*32<=140737488355328:=by omega
   unfold eE;rw[tc];have hz:jL 2 (.sl id 2 0 n false)=true:=rfl;simp only[hz,hx,Bool.and_self,if_true,hn,h0,if_false,dC,c1,c2,c3,hc,and_self]
  .rw[Zf (by simp)];simp
  .have jU:=(Za.1 h).1;rw[Zd (by simp;omega),Zq (λe=>hj e.symm)];exact h
def Hl (a b x:AV):da [a,b] 1 [x]=[a,x]:=rfl
noncomputable def agq (u v:AV):Option AV:=j4 cx (λo=>match o with| .tmp 0=>u|_=>v) {dst:=none,op:= .slice 40 (.tmp 0) none (some (.tmp 1)) none,type:=0,pos:= "",after:= #[],guard:=none}
noncomputable def agr (u v:AV):Option AV:=j4 cx (λo=>match o with| .tmp 0=>u|_=>v) {dst:=none,op:= .slice 40 (.tmp 0) (some (.tmp 1)) none none,type:=0,pos:= "",after:= #[],guard:=none}
def aaA (fr:LA)(d:Option Tmp)(x y:Tmp)(ty:TypeId)(p:String)(a:Array Edge)(g:Option (Nat × Bool)):j4 cx (ev cx fr) {dst:=d,op:= .slice 40 (.tmp x) none (some (.tmp y)) none,type:=ty,pos:=p,after:=a,guard:=g}=agq (gt fr x) (gt fr y):=rfl
def aaB (fr:LA)(d:Option Tmp)(x y:Tmp)(ty:TypeId)(p:String)(a:Array Edge)(g:Option (Nat × Bool)):j4 cx (ev cx fr) {dst:=d,op:= .slice 40 (.tmp x) (some (.tmp y)) none none,type:=ty,pos:=p,after:=a,guard:=g}=agr (gt fr x) (gt fr y):=rfl
def Vt :agq (.sc (.slice none 0 0)) (.sc (.int .i64 0))=some (.sc (.slice none 0 0)):=by kernel_rfl
def Vu :agr (.sc (.slice none 0 0)) (.sc (.int .i64 0))=some (.sc (.slice none 0 0)):=by kernel_rfl
def Lo (S:List (Rw × Int))(r:Rw)(j:Nat):Prop:=∀(q:Nat) (x:Rw × Int),q<j->S[q]?=some x->mF x.1 r<0
def ajY (h:Hp)(S:List (Rw × Int))(y:AV):Prop:=(S=[]/\y=())\/(S≠ []/\∃id,y= .sl id 2 0 S.length false/\h[id]?=some (.row (S.flatMap dR)))
def Hi (S:List (Rw × Int))(r:Rw)(j:Nat):Prop:=j=S.length\/∃x,S[j]?=some x/\¬mF x.1 r<0
def sl8 (id j:Nat):AV:=if j=0 then .ls 2 [] false else .sl id 2 0 j false
def Vv (id l n:Nat):AV:=if l=n then .ls 2 [] false else .sl id 2 (l*2) (n-l) false
def adW (id j:Nat)(v:Value):sl8 id j≠ .pn v:=by unfold sl8;split<;>simp
def Mu (id l n:Nat)(v:Value):Vv id l n≠ .pn v:=by unfold Vv;split<;>simp
def adX (id j:Nat):jL 2 (sl8 id j)=true:=by unfold sl8;split<;>rfl
def Mv (id l n:Nat):jL 2 (Vv id l n)=true:=by unfold Vv;split<;>rfl
def adY (id n j:Nat)(hj:j<=n):ku (.sl id 2 0 n false) none (some (.sc (.int .i64 (j:Nat)))) none=some (sl8 id j):=by
 unfold ku sl8;have h1:iZ (.sc (.int .i64 (j:Nat)))=some j:=by simp[iZ]
 simp only[rW,gQ,h1,Nat.zero_le,hj,and_self,if_true,Nat.zero_mul,Xb,Nat.sub_zero,Bool.false_and];by_cases e:j=0
 .simp[e]
 .have e':¬0=j:=λq=>e q.symm
  simp[e,e']
def Mw (id n l:Nat)(li:Int)(hli:li=l)(hl:l<=n):ku (.sl id 2 0 n false) (some (.sc (.int .i64 li))) none none=some (Vv id l n):=by
 subst hli;unfold ku Vv;have h1:iZ (.sc (.int .i64 (l:Nat)))=some l:=by simp[iZ]
 simp only[rW,gQ,h1,hl,Yt,and_self,if_true,Xb,Bool.false_and];by_cases e:l=n<;>simp[e]
def Vw {H:Hp}{id j:Nat}{cs:LA}(dC:H[id]?=some (.row cs))(hl:j*2<=cs.length):gY H (sl8 id j)=some (j,cs.take (j*2)):=by
 unfold sl8;by_cases e:j=0
 .subst e;simp[gY]
 .rw[db e];simp[gY,gI,dC,hl]
def Cq {H:Hp}{id l n:Nat}{cs:LA}(dC:H[id]?=some (.row cs))(hc:cs.length=n*2)(hl:l<=n):gY H (Vv id l n)=some (n-l,cs.drop (l*2)):=by
 unfold Vv;by_cases e:l=n
 .subst e;have:cs.drop (l*2)=[]:=Zt (by omega);simp[gY,this]
 .rw[db e];have h1:l*2+(n-l)*2<=cs.length:=by omega
  have h2:(cs.drop (l*2)).take ((n-l)*2)=cs.drop (l*2):=Ys (by rw[Xk];omega);simp[gY,gI,dC,h1,h2]
def xD {H:Hp}{id:Nat}{c:LA}(dC:H[id]?=some (.row c))(hc:c.length=2):gY H (.sl id 2 0 1 false)=some (1,c):=by
 have h1:0+1*2<=c.length:=by omega
 have h2:(c.drop 0).take (1*2)=c:=by rw[List.drop_zero];exact Ys (by omega)
 simp only[gY,gI,dC,h1,if_true,h2]
structure ags (Z:List (Rw × Int))(z:Bool)(i:Nat)(s:St):Prop where
 le:i<=Z.length
 len:s.1.length=124
 g0:gt s.1 0= .ls 2 (dI Z) z
 g4:gt s.1 4=i
 own:∃y,gt s.1 3=y/\ajY s.2 (vp mF gR (Z.take i)) y
structure agt (S:List (Rw × Int))(id L:Nat)(cs:LA)(j:Nat)(s:St):Prop where
 le:j<=S.length
 len:s.1.length=124
 g3:gt s.1 3= .sl id 2 0 S.length false
 g8:gt s.1 8=j
 row:s.2[id]?=some (.row cs)
 hl:L<=s.2.length
 Es:∃y,gt s.1 7=y/\kP s.2 2 (dI (yB (S.take j))) y/\∀k n,y= .sl k 2 0 n false->L<=k
def Mx (N D:Nat)(b:Bool)(Z:List (Rw × Int))(z:Bool)(h:Hp)(hB:oo D Z):cW cx (N+3*D+9) b 44 [.ls 2 (dI Z) z] h=some (.ls 2 (dI (dP Z)) false,h):=by
 refine wH f44 [.tmp 2] rfl ?_ b h;have mi:kx 44=2:=by decide
 rw[mi];have Gj:∀(p q:Rw),mP D p->mP D q->∀b h,cW cx (N+3*D+8) b 32 [.ls 5 (dN p.1) false,.ls 5 (dN q.1) false] h=some (.sc (.int .i64 (mF p q)),h):=λp q hp hq b h=>zt N D p.1 q.1 b h (by have:=hp.len;omega) (by have:=hq.len;omega) hp.fB hq.fB
 have QV:∀(p:Rw),mP D p->∀b h,cW cx (N+3*D+8) b 95 [.ls 5 (dN p.1) false] h=some (.ls 5 (dN p.1) false,h):=λp hp b h=>by
  have:=ZY (N+3*D+7) p.1 false b h hp.len;rw[show N+3*D+7+1=N+3*D+8 by omega]at this;exact this
 generalize N+3*D+8=M at Gj QV|-;simp[f44];refine eC (C:=cx) (G:=λr=>∃r0 h',eQ _ (eR _ _ (dL _ r) _)=some (r0,h')/\∃r',Ae.dq h' 8 r0=some r'/\wI 2 r'= .ls 2 (dI (dP Z)) false)
  (λi s=>ags Z z i s) (λo s=>o= .exit 0/\ags Z z Z.length s) Z.length (by have:=hB.len;simp;omega) ?_ ?_ ?_
 .exact⟨by omega,rfl,rfl,rfl,_,rfl,.inl ⟨rfl,rfl⟩⟩
 .rintro i fr hp _ ⟨kY,cU,g0,g4,y,g3,hy⟩;simp only at cU g0 g4 g3 hy;have hq:=dF Z;have hg:=ue Z;generalize yb:dI Z=cY at g0 hq hg;by_cases hi:i<Z.length
  .obtain⟨p,hx⟩:=eA hi;have Ik:=hB.row p (Zi hx);have hr:cY[i]?=some (dR p):=by rw[hg,hx];rfl
   have du:=gA hr
   unfold dR at hr du;have dD:vp mF gR (Z.take (i+1))=pW mF gR (vp mF gR (Z.take i)) p.1 p.2:=by
    rw[Yx,hx];exact P8 _ _ _
   have Du:∀q∈vp mF gR (Z.take i),mP D q.1:=λq hq=>by
    have hm:=((rh (add:=gR) mK (Z.take i)).mem_iff).2 hq;exact pk (Z.take i) (λq hq=>hB.row q (Xl hq)) q hm
   have AF:(vp mF gR (Z.take i)).length<=1000000:=by
    have h0:=(rh (add:=gR) mK (Z.take i)).length_eq;have h1:=nT (Z.take i);have h2:=hB.len;rw[Yy]at h1;omega
   obtain⟨r,n⟩:=p;simp only at Ik dD hr du;generalize vp mF gR (Z.take i)=S at hy dD Du AF;have lX:=QV r Ik;have fc1:=λq (hq:q∈S)=>Gj q.1 r (Du q hq) Ik
   have mj:i<=1000000000000000:=by have:=hB.len;omega
   rcases hy with⟨Af,rfl⟩|⟨YH,id,rfl,dC⟩
   .subst Af;simp[cU,g0,g4,hi,hq];generalize hX:dS cx (cW cx M) (Code.loop _) _=X;obtain⟨o2,xz,hp3,rfl,rfl,fl,q0,q3,q4,q5,hh3⟩:=Cp (call:=cW cx M)
     (λj st=>j=0/\st.1.length=124/\gt st.1 0= .ls 2 cY z/\gt st.1 3=()/\gt st.1 4=i/\gt st.1 5=(0:Int)/\st.2=hp)
     (λo s=>o= .exit 2/\s.1.length=124/\gt s.1 0= .ls 2 cY z/\gt s.1 3=()/\gt s.1 4=i/\gt s.1 5=(0:Int)/\s.2=hp) 0 (by simp) X _ _ _ hX ⟨rfl,by simp[cU],by simp[g0],by simp[g3],by simp[g4],by simp[cU],rfl⟩ (by
      clear g0 g3 g4 cU hX;rintro j fr lW hj ⟨rfl,cU,g0,g3,g4,g5,hh⟩;simp only at cU g0 g3 g4 g5 hh;subst hh;simp[cU,g0,g3,g4,g5])
    simp only at fl q0 q3 q4 q5 hh3;subst hh3;obtain⟨i1,H1,a1,a2,a3,a4,a5⟩:=lC (hp3++[.row []]) hp3.length 0 0 [] [] (.sc (.slice none 0 0)) (by simp) rfl rfl rfl rfl (by omega);have Av:i1<H1.length:=(Za.1 a2).1;obtain⟨i2,H2,b1,b2,b3,b4,b5⟩:=lC (H1++[.row [.ls 5 (dN r.1) false,n]]) i1 0 1 [] [.ls 5 (dN r.1) false,n] (.sl H1.length 2 0 1 false) (by rw[Zd Av];exact a2) rfl rfl (xD (by simp) rfl) rfl (by omega);obtain⟨i3,H3,c1,c2,c3,c4,c5⟩:=lC H2 i2 1 0 [.ls 5 (dN r.1) false,n] [] (.sc (.slice none 0 0)) b2 rfl rfl rfl rfl (by omega);simp[fl,q0,q3,q4,q5,hi,hq,du,KQ,FT,Hl,lX,aaA,Vt,aaB,Vu,a1,b1,c1,di mj];clear Gj QV lX fc1;refine⟨by omega,by simp[fl],by simp[q0,yb],by simp[fl],.sl i3 2 0 1 false,by simp[fl],.inr ⟨by rw[dD];simp[pW],i3,by rw[dD];rfl,by rw[c2,dD];rfl⟩⟩
   .obtain⟨cs,hcs⟩:∃cs,cs=S.flatMap dR:=⟨_,rfl⟩;rw[<-hcs]at dC;have Dp:=gA dC
    have fq:cs.length=S.length*2:=by rw[hcs,gS]
    have fX:∀j x,S[j]?=some x->cs[j*2]?=some (.ls 5 (dN x.1.1) false)/\cs[j*2+1]?=some (.sc (.int .i64 x.2)):=λj x hj=>by
     have h2:=FR hj [];rw[Yp,<-hcs]at h2;have e0:∀k,k<2->cs[j*2+k]?=(dR x)[k]?:=λk hk=>by rw[<-h2,Xr,dd hk,Xg]
     exact⟨e0 0 (by omega),e0 1 (by omega)⟩
    simp[cU,g0,g4,hi,hq];generalize hX:dS cx (cW cx M) (Code.loop _) _=X;obtain⟨o2,xz,hp3,rfl,rfl,fl,q0,q3,q4,hh3,j,jU,Y5,hje,q5⟩:=Cp (call:=cW cx M)
     (λj st=>j<=S.length/\Lo S r j/\st.1.length=124/\gt st.1 0= .ls 2 cY z/\gt st.1 3= .sl id 2 0 S.length false/\gt st.1 4=i/\gt st.1 5=j/\st.2=hp)
     (λo s=>o= .exit 2/\s.1.length=124/\gt s.1 0= .ls 2 cY z/\gt s.1 3= .sl id 2 0 S.length false/\gt s.1 4=i/\s.2=hp/\∃j:Nat,j<=S.length/\Lo S r j/\Hi S r j/\gt s.1 5=j) S.length (by simp;omega) X _ _ _ hX ⟨by omega,λq x hq=>by omega,by simp[cU],by simp[g0],by simp[g3],by simp[g4],by simp[cU],rfl⟩ (by
      clear g0 g3 g4 cU hX;rintro j fr lW Qj ⟨hj,Y5,cU,g0,g3,g4,g5,hh⟩;simp only at cU g0 g3 g4 g5 hh;subst hh;by_cases Jp:j<S.length
      .obtain⟨x,QW⟩:=eA Jp;have SX:=(fX j x QW).1;have adZ:=gA SX
       have fcx:=fc1 x (Zi QW);have xm:j*2+1<=cs.length:=by omega
       obtain⟨c,hc⟩:∃c,c=mF x.1 r:=⟨_,rfl⟩;have hcn:mF x.1 r<0↔c<0:=by rw[hc]
       rw[<-hc]at fcx;have DE:j<=1000000000000000:=by omega
       by_cases od:c<0
       .simp[cU,g0,g3,g4,g5,hi,hq,du,Jp,dC,SX,fcx,od,di DE];refine⟨Jp,λq y hq hy=>?_⟩;by_cases e:q=j
        .rw[e,QW]at hy;cases hy;exact hcn.2 od
        .exact Y5 q y (by omega) hy
       .simp[cU,g0,g3,g4,g5,hi,hq,du,Jp,dC,SX,fcx,od];exact⟨j,by omega,Y5,.inr ⟨x,QW,λe=>od (hcn.1 e)⟩,rfl⟩
      .have jU:j=S.length:=Yc hj (Yb Jp);simp[cU,g0,g3,g4,g5,Jp];exact⟨j,hj,Y5,.inl jU,rfl⟩)
    simp only at fl q0 q3 q4 q5 hh3;subst hh3;have vT:j*2<=cs.length:=by omega
    have s8:=adY id S.length j jU;have q8:=oG (adW id j)
    have jD:id<hp3.length:=(Za.1 dC).1;have Ij:(hp3++[fp.row []])[id]?=some (.row cs):=by rw[Zd jD];exact dC
    obtain⟨i1,H1,a1,a2,a3,a4,a5⟩:=lC (hp3++[.row []]) hp3.length 0 j [] (cs.take (j*2)) (sl8 id j) (by simp) rfl (adX id j) (Vw Ij vT) (by rw[Yy];omega) (by omega);have Av:i1<H1.length:=(Za.1 a2).1;have My:=a3 id _ (by omega) Ij;have h1id':=gA My
    have ad0:id≠i1:=λe=>by
     rcases a4 with e4|e4
     .omega
     .simp at e4;omega
    have ad1:id<H1.length:=(Za.1 My).1;have rR:cs.take (j*2)=(S.take j).flatMap dR:=by
     have e:=List.take_append_drop j S;have e2:S.flatMap dR=(S.take j).flatMap dR++(S.drop j).flatMap dR:=by rw[<-Xh,e]
     rw[hcs,e2];exact List.take_left' (by rw[gS,Yy];omega)
    have hdk:∀l,l<=S.length->cs.drop (l*2)=(S.drop l).flatMap dR:=λl hl=>by
     have e:=List.take_append_drop l S;have e2:S.flatMap dR=(S.take l).flatMap dR++(S.drop l).flatMap dR:=by rw[<-Xh,e]
     rw[hcs,e2];exact List.drop_left' (by rw[gS,Yy];omega)
    rw[Xb]at a1;rw[Zw]at a2;by_cases Jp:j<S.length
    .obtain⟨x,QW⟩:=eA Jp;have hxn:¬mF x.1 r<0:=by
      rcases hje with e|⟨y,Ot,hy2⟩
      .omega
      .rw[QW]at Ot;cases Ot;exact hy2
     obtain⟨SX,agu⟩:=fX j x QW;have adZ:=gA SX
     have hro2':=gA agu
     have fcx:=fc1 x (Zi QW);have xm:j*2+1<=cs.length:=by omega
     have Hj:j*2+1+1<=cs.length:=by omega
     have hSd:S=S.take j++(x.1,x.2)::S.drop (j+1):=by
      obtain⟨k,e⟩:=Za.1 QW;have:=List.take_append_drop j S;rw[Zm k,e]at this;exact this.symm
     have yu:=Ia (cmp:=mF) (add:=gR) (S.take j) x.1 x.2 (S.drop (j+1)) r n (λy hy=>by
      obtain⟨q,hq⟩:=List.getElem?_of_mem hy;rw[Xr]at hq;split at hq
      .exact Y5 q y (by omega) hq
      .cases hq) hxn
     rw[<-hSd]at yu;rw[yu]at dD;by_cases od:mF x.1 r=0
     .rw[dd od]at dD;rw[od]at fcx;have DE:j<=1000000000000000:=by omega
      have s9:=Mw id S.length (j+1) ((j:Int)+1) (by simp) (by omega);have q9:=oG (Mu id (j+1) S.length)
      obtain⟨c,hc⟩:∃c:LA,c=[.ls 5 (dN x.1.1) false,.sc (.int .i64 (dM .i64 (x.2+n)))]:=⟨_,rfl⟩;have pX:c.length=2:=by rw[hc];rfl
      obtain⟨i2,H2,b1,b2,b3,b4,b5⟩:=lC (H1++[.row c]) i1 j 1 (cs.take (j*2)) c (.sl H1.length 2 0 1 false) (by rw[Zd Av];exact a2) (by rw[Yy];omega) rfl (xD (by simp) pX) (by omega) (by omega);have Vx:=b3 id _ ad0 (by rw[Zd ad1];exact My);obtain⟨i3,H3,c1,c2,c3,c4,c5⟩:=lC H2 i2 (j+1) (S.length-(j+1)) (cs.take (j*2)++c) (cs.drop ((j+1)*2)) (Vv id (j+1) S.length) b2 (by rw[Zu,Yy];omega) (Mv _ _ _) (Cq Vx fq (by omega)) (by rw[Xk];omega) (by omega);have nd:H3[i3]?=some (.row ((S.take j++(x.1,gR x.2 n)::S.drop (j+1)).flatMap dR)):=by
       rw[c2,rR,hdk (j+1) (by omega),hc];simp[dR,gR]
      have Jq:j+1+(S.length-(j+1))=S.length:=by omega
      rw[Jq]at c1;have Vy:(S.take j++(x.1,gR x.2 n)::S.drop (j+1)).length=S.length:=by simp;omega
      rw[hc]at b1;clear hcs rR hdk yu hc hSd;simp[fl,q0,q3,q4,q5,hi,hq,du,KQ,FT,Hl,Jp,My,SX,agu,fcx,di DE,s8,q8,s9,q9,a1,b1,c1,di mj];clear Gj QV lX fc1 fcx;refine⟨by omega,by simp[fl],by simp[q0,yb],by simp[fl],.sl i3 2 0 S.length false,by simp[fl],.inr ⟨by rw[dD];simp,i3,by rw[dD,Vy],by rw[dD];exact nd⟩⟩
     .obtain⟨cc,hcc⟩:∃cc,cc=mF x.1 r:=⟨_,rfl⟩;rw[<-hcc]at fcx;have hcz:¬cc=0:=by rw[hcc];exact od
      have s9:=Mw id S.length j (j:Int) rfl jU;have q9:=oG (Mu id j S.length)
      obtain⟨c,hc⟩:∃c:LA,c=[.ls 5 (dN r.1) false,.sc (.int .i64 n)]:=⟨_,rfl⟩;have pX:c.length=2:=by rw[hc];rfl
      obtain⟨i2,H2,b1,b2,b3,b4,b5⟩:=lC (H1++[.row c]) i1 j 1 (cs.take (j*2)) c (.sl H1.length 2 0 1 false) (by rw[Zd Av];exact a2) (by rw[Yy];omega) rfl (xD (by simp) pX) (by omega) (by omega);have Vx:=b3 id _ ad0 (by rw[Zd ad1];exact My);obtain⟨i3,H3,c1,c2,c3,c4,c5⟩:=lC H2 i2 (j+1) (S.length-j) (cs.take (j*2)++c) (cs.drop (j*2)) (Vv id j S.length) b2 (by rw[Zu,Yy];omega) (Mv _ _ _) (Cq Vx fq jU) (by rw[Xk];omega) (by omega);rw[db od]at dD;have nd:H3[i3]?=some (.row ((S.take j++(r,n)::(x.1,x.2)::S.drop (j+1)).flatMap dR)):=by
       have hd:S.drop j=x::S.drop (j+1):=by
        obtain⟨k,e⟩:=Za.1 QW;rw[Zm k,e]
       rw[c2,rR,hdk j jU,hc,hd];simp[dR]
      have Vy:(S.take j++(r,n)::(x.1,x.2)::S.drop (j+1)).length=S.length+1:=by simp;omega
      clear yu hSd;have Jq:j+1+(S.length-j)=S.length+1:=by omega
      rw[Jq]at c1;rw[hc]at b1;clear hcs rR hdk hc;simp[fl,q0,q3,q4,q5,hi,hq,du,KQ,FT,Hl,Jp,My,SX,fcx,hcz,lX,s8,q8,s9,q9,a1,b1,c1,di mj];clear Gj QV lX fc1;refine⟨by omega,by simp[fl],by simp[q0,yb],by simp[fl],.sl i3 2 0 (S.length+1) false,by simp[fl],.inr ⟨by rw[dD];simp,i3,by rw[dD,Vy],by rw[dD];exact nd⟩⟩
    .have hjE:j=S.length:=Yc jU (Yb Jp);have Vz:=Eo (cmp:=mF) (add:=gR) S r n (λy hy=>by
      obtain⟨q,hq⟩:=List.getElem?_of_mem hy;exact Y5 q y (by rw[hjE];exact(Za.1 hq).1) hq)
     rw[Vz]at dD;have s9:=Mw id S.length j (j:Int) rfl jU;have q9:=oG (Mu id j S.length)
     obtain⟨c,hc⟩:∃c:LA,c=[.ls 5 (dN r.1) false,.sc (.int .i64 n)]:=⟨_,rfl⟩;have pX:c.length=2:=by rw[hc];rfl
     obtain⟨i2,H2,b1,b2,b3,b4,b5⟩:=lC (H1++[.row c]) i1 j 1 (cs.take (j*2)) c (.sl H1.length 2 0 1 false) (by rw[Zd Av];exact a2) (by rw[Yy];omega) rfl (xD (by simp) pX) (by omega) (by omega);have Vx:=b3 id _ ad0 (by rw[Zd ad1];exact My);obtain⟨i3,H3,c1,c2,c3,c4,c5⟩:=lC H2 i2 (j+1) (S.length-j) (cs.take (j*2)++c) (cs.drop (j*2)) (Vv id j S.length) b2 (by rw[Zu,Yy];omega) (Mv _ _ _) (Cq Vx fq jU) (by rw[Xk];omega) (by omega);have nd:H3[i3]?=some (.row ((S++[(r,n)]).flatMap dR)):=by
      rw[c2,rR,hdk j jU,hc,hjE,Yz,List.drop_length];simp[dR]
     have Vy:(S++[(r,n)]).length=S.length+1:=by simp
     have Jq:j+1+(S.length-j)=S.length+1:=by omega
     rw[Jq]at c1;rw[hc]at b1;clear hcs rR hdk hc;simp[fl,q0,q3,q4,q5,hi,hq,du,KQ,FT,Hl,Jp,lX,s8,q8,s9,q9,a1,b1,c1,di mj];clear Gj QV lX fc1;refine⟨by omega,by simp[fl],by simp[q0,yb],by simp[fl],.sl i3 2 0 (S.length+1) false,by simp[fl],.inr ⟨by rw[dD];simp,i3,by rw[dD,Vy],by rw[dD];exact nd⟩⟩
  .have gG:i=Z.length:=Yc kY (Yb hi);subst gG;simp[cU,g0,g4,hq];exact⟨kY,by simp[cU],by simp[g0,yb],by simp[g4],y,by simp[g3],hy⟩
 .rintro o fr hp hn ⟨rfl,kY,cU,g0,g4,y,g3,hy⟩;simp only at cU g0 g4 g3 hy;rw[Yz]at hy;have qE:dP Z=yB (vp mF gR Z):=rfl;rw[qE];have AF:(vp mF gR Z).length<=1000000:=by
   have h0:=(rh (add:=gR) mK Z).length_eq;have h1:=nT Z;have h2:=hB.len;omega
  generalize vp mF gR Z=S at hy AF|-;rcases hy with⟨Af,rfl⟩|⟨YH,id,rfl,dC⟩
  .subst Af;simp;refine LM
    (λj s _=>j=0/\s.length=124/\gt s 3=()/\gt s 7=()/\gt s 8=(0:Int))
    (λo s _=>o= .exit 4/\s.length=124/\gt s 7=()) 0 (by simp) (by exact ⟨rfl,by simp[cU],by simp[g3],by simp[cU],by simp[cU]⟩) ?_ ?_
   .rintro j fr lW _ ⟨rfl,cU,g3,g7,g8⟩;simp[cU,g3,g7,g8]
   .rintro o fr lW hn ⟨rfl,cU,g7⟩;simp[cU,g7];refine⟨_,_,⟨rfl,rfl⟩,_,rfl,rfl⟩
  .obtain⟨cs,hcs⟩:∃cs,cs=S.flatMap dR:=⟨_,rfl⟩;rw[<-hcs]at dC;have fq:cs.length=S.length*2:=by rw[hcs,gS]
   have fX:∀j x,S[j]?=some x->cs[j*2+1]?=some (.sc (.int .i64 x.2))/\(cs.drop (j*2)).take 2=dR x:=λj x hj=>by
    have h2:=FR hj [];rw[Yp,<-hcs]at h2;have e0:∀k,k<2->cs[j*2+k]?=(dR x)[k]?:=λk hk=>by rw[<-h2,Xr,dd hk,Xg]
    exact⟨e0 1 (by omega),h2⟩
   clear hcs;have jD:id<hp.length:=(Za.1 dC).1;simp;refine eC (C:=cx) (G:=λr=>∃r0 h',eQ _ (eR _ _ (dL _ r) _)=some (r0,h')/\∃r',Ae.dq h' 8 r0=some r'/\wI 2 r'= .ls 2 (dI (yB S)) false)
    (λj s=>agt S id hp.length cs j s) (λo s=>o= .exit 4/\agt S id hp.length cs S.length s) S.length (by simp;omega) ⟨by omega,by simp[cU],by simp[g3],by simp[cU],dC,Yt _,.sc (.slice none 0 0),by simp[cU],.inl ⟨rfl,rfl⟩,λk n e=>by cases e⟩ ?_ ?_
   .rintro j fr lW _ ⟨hj,cU,g3,g8,dC,hL,y,g7,hy,Et⟩;simp only at cU g3 g8 dC hL g7 hy;have Dp:=gA dC
    have DE:j<=1000000000000000:=by omega
    by_cases Jp:j<S.length
    .obtain⟨x,QW⟩:=eA Jp;obtain⟨SX,YM⟩:=fX j x QW;have adZ:=gA SX
     have xm:j*2+1+1<=cs.length:=by omega
     have Hj:j*2+2<=cs.length:=by omega
     have dD:=BR QW;have nS:(yB (S.take j)).length<=1000000:=Yn (Xo _ _) (by rw[Yy];omega);have q7:=oG (λv=>hy.np v)
     by_cases h0:x.2=0
     .rw[dd h0,Yp]at dD;rw[h0]at SX adZ;simp[cU,g3,g8,Jp,dC,SX,di DE];exact⟨by omega,by simp[cU],by simp[g3],by simp[cU],dC,hL,y,by simp[g7],by rw[dD];exact hy,Et⟩
     .rw[db h0]at dD;generalize yB (S.take j)=F at hy dD nS;obtain⟨qO,h3,b1,b2,b3,b4⟩:=gm (t:=40) tc rfl lW (dR x) (dI F) y hy rfl (λr hr=>(jR _).1 r hr) (by omega) (by rw[dF];omega) (by omega);have Ag:qO<h3.length:=(Za.1 b2).1;have b5:=b3 id _ dC (λk n e=>by have:=Et k n e;omega);unfold dR at YM b1;rw[dF]at b1;simp[cU,g3,g8,g7,q7,Jp,dC,SX,xm,YM,h0,KQ,b1,di DE];refine⟨by omega,by simp[cU],by simp[g3],by simp[cU],b5,by show hp.length<=h3.length;omega,.sl qO 2 0 (F.length+1) false,by simp[cU],?_,λk n e=>by simp only[AV.sl.injEq]at e;omega⟩;rw[dD];exact .inr ⟨by simp[dI],qO,by simp[dI],by rw[b2];simp[dI]⟩
    .have hjE:j=S.length:=Yc hj (Yb Jp);subst hjE;simp[cU,g3,g8];exact⟨hj,by simp[cU],by simp[g3],by simp[g8],dC,hL,y,by simp[g7],hy,Et⟩
   .rintro o fr lW hn ⟨rfl,hj,cU,g3,g8,dC,hL,y,g7,hy,Et⟩;simp only at cU g3 g8 dC hL g7 hy;rw[Yz]at hy;have dJ:=jR (yB S);have lH:=ij (n:=7) (by omega) dJ.1 dJ.2 hy;have q7:=oG (λv=>hy.np v)
    simp[cU,g7,q7];exact gz ⟨_,lH,mf _ _⟩
def Mz (n:Nat)(b:Bool)(h:Hp):cW cx (n+1) b 44 [()] h=some (.ls 2 [] false,h):=by
 refine wH f44 [.tmp 2] rfl ?_ b h;have mi:kx 44=2:=by decide
 rw[mi];simp[f44];refine LM
  (λi s _=>i=0/\s.length=124/\gt s 0=()/\gt s 3=()/\gt s 4=(0:Int))
  (λo s _=>o= .exit 0/\s.length=124/\gt s 3=()) 0 (by simp) (by exact ⟨rfl,rfl,rfl,rfl,rfl⟩) ?_ ?_
 .rintro j fr lW _ ⟨rfl,cU,g0,g3,g4⟩;simp[cU,g0,g3,g4]
 .rintro o fr hp hn ⟨rfl,cU,g3⟩;simp;refine LM
   (λj s _=>j=0/\s.length=124/\gt s 3=()/\gt s 7=()/\gt s 8=(0:Int))
   (λo s _=>o= .exit 4/\s.length=124/\gt s 7=()) 0 (by simp) (by exact ⟨rfl,by simp[cU],by simp[g3],by simp[cU],by simp[cU]⟩) ?_ ?_
  .rintro j fr lW _ ⟨rfl,cU,g3,g7,g8⟩;simp[cU,g3,g7,g8]
  .rintro o fr lW hn ⟨rfl,cU,g7⟩;simp[cU,g7];refine⟨_,_,⟨rfl,rfl⟩,_,rfl,rfl⟩
def AP {h:Hp}{id:Nat}{b:fp}(dC:h[id]?=some b):(mask [id] h)[id]?=some b:=by
 have hl:=(Za.1 dC).1;unfold mask;rw[Zs,Xp hl];simp[List.getD,dC]
def OE {f:FuncId}{n:Nat}{S:List (Rw × Int)}{r:AV}(hs:cx.ox f=none)(hi:cx.inl f=false)(hr:ml r=false)(id:Nat)(h:Hp)(dC:h[id]?=some (.row (S.flatMap dR)))(dy:∀h,cW cx (n+1) true f [.ls 2 (dI S) false] h=some (r,h)):
 ∃h',cW cx (n+1) true f [.sl id 2 0 S.length false] h=some (r,h'):=by
 have dJ:=jR S;rw[fS]at dJ;have py:h[id]?=some (.row (S.flatMap dR++[])):=by rw[Yp];exact dC
 have VA:[AV.sl id 2 0 S.length false].flatMap (reach h 8)=[id]:=by
  have e:reach h 8 (.sl id 2 0 S.length false)=id::((gI h id).getD []).flatMap (reach h 7):=rfl;have e2:gI h id=some (S.flatMap dR):=jQ dC;rw[Yu,List.flatMap_nil,e,e2,Yv,pH dJ.2];rfl
 have z6:∃h',Ae.freeze [id] h=some h':=by
  refine⟨_,uc (g:=λi=>if i=id then .KK (S.flatMap dR)else h.getD i .dead) _ λi hi=>?_⟩;have gG:i<h.length:=by simpa using hi
  by_cases e:i=id
  .subst e;have hc:[i].contains i=true:=by simp
   rw[dd hc,dC];simp only[kX dJ.2,Xq,if_true]
  .have hc:¬ [id].contains i=true:=by simp[e]
   rw[db hc,db e,Zb gG];simp[List.getD,gG]
 obtain⟨h',hf⟩:=z6;refine⟨h',Cl (ys:=[.ls 2 (dI S) false]) hs hi ?_ rfl rfl hr ?_ (by rw[VA];exact hf) (dy h)⟩
 .rw[Zo,ug (n:=7) py];rfl
 .rw[VA,Zo,ug (n:=7) (AP py)];rfl
def oN (cY:List Rw):List (Rw × Int):=cY.map λr=>(r,1)
def vx (cY:List Rw):List LA:=cY.map λr=> [AV.ls 5 (dN r.1) false]
def pI (l:List Rw):(vx l).length=l.length:=by simp[vx]
def OG (l:List Rw)(i:Nat):(vx l)[i]?=(l[i]?).map λr=> [AV.ls 5 (dN r.1) false]:=by simp[vx]
def Jr {l:List Rw}{i:Nat}{r:Rw}(h:l[i]?=some r):oN (l.take (i+1))=oN (l.take i)++[(r,1)]:=by
 unfold oN;rw[Yx,h];simp
def Gk {h h':Hp}{S:List (Rw × Int)}{r:AV}(q:NR h h' S r):(∃r',Ae.dq h' 8 r=some r'/\wI 2 r'= .ls 2 (dI S) false)/\∀v,r≠ .pn v:=by
 rcases q.2 with⟨rfl,rfl|⟨z,rfl⟩⟩|⟨_,id,rest,_,rfl,dC⟩
 .exact⟨⟨_,rfl,rfl⟩,λv=>by simp⟩
 .exact⟨⟨_,rfl,rfl⟩,λv=>by simp⟩
 .exact⟨⟨_,ug (n:=7) dC,rfl⟩,λv=>by simp⟩
structure OfI (l:List Rw)(n t a k ll:Nat)(x:AV)(i:Nat)(s:St):Prop where
 le:i<=l.length
 len:s.1.length=n
 ga:gt s.1 a=x
 gk:gt s.1 k=i
 gl:ll=0\/gt s.1 ll=l.length
 Es:∃y,gt s.1 t=y/\kP s.2 2 (dI (oN (l.take i))) y
def VB (N D:Nat)(b:Bool)(l:List Rw)(z:Bool)(h:Hp)(hB:oo D (oN l)):cW cx (N+3*D+10) b 18 [.ls 1 (vx l) z] h=some (.ls 2 (dI (dP (oN l))) false,h):=by
 refine wH f18 [.tmp 2] rfl ?_ b h;have mi:kx 18=2:=by decide
 rw[mi];have aa:=λb h=>Mx N D b (oN l) false h hB
 have ae:=λb h=>Mz (N+3*D+8) b h
 have af:=λid h dC=>OE (f:=44) (n:=N+3*D+8) (S:=oN l) (r:= .ls 2 (dI (dP (oN l))) false) rfl (by kernel_rfl) rfl id h dC (λh=>aa true h)
 have C_:l.length<=1000000:=by have:=hB.len;simpa[oN]using this
 rw[show N+3*D+8+1=N+3*D+9 by omega]at ae;simp only[show N+3*D+8+1=N+3*D+9 by omega]at af;generalize N+3*D+9=M at ae af|-;clear aa;have hq:=pI l;have hg:=OG l;have qE:l=[]->dI (dP (oN l))=[]:=λe=>by subst e;rfl
 generalize hbr:dI (dP (oN l))=res at af qE|-;generalize vx l=cY at hq hg;simp[f18];refine eC (C:=cx) (G:=λr=>∃r0 h',eQ _ (eR _ _ (dL _ r) _)=some (r0,h')/\∃r',Ae.dq h' 8 r0=some r'/\wI 2 r'= .ls 2 res false)
  (λi s=>OfI l 21 3 0 4 0 (.ls 1 cY z) i s) (λo s=>o= .exit 0/\OfI l 21 3 0 4 0 (.ls 1 cY z) l.length s) l.length (by simp;omega) ⟨by omega,rfl,rfl,rfl,.inl rfl,_,rfl,.inl ⟨rfl,rfl⟩⟩ ?_ ?_
 .rintro i fr hp _ ⟨kY,cU,g0,g4,_,y,g3,hy⟩;simp only at cU g0 g4 g3 hy;have mj:i<=1000000000000000:=by omega
  by_cases hi:i<l.length
  .obtain⟨r,hx⟩:=eA hi;have hr:cY[i]?=some [AV.ls 5 (dN r.1) false]:=by rw[hg,hx];rfl
   have du:=gA hr
   have dD:=Jr hx;have EE:(oN (l.take i)).length<=1000000:=by simp[oN];omega
   have q3:=oG (λv=>hy.np v)
   obtain⟨qO,h3,b1,b2,b3,b4⟩:=gm (t:=40) tc rfl hp (dR (r,1)) (dI (oN (l.take i))) y hy rfl (λr hr=>(jR _).1 r hr) (by omega) (by rw[dF];omega) (by omega);unfold dR at b1;rw[dF]at b1;simp only at b1;generalize oN (l.take i)=F at b1 b2 dD EE;simp[cU,g0,g4,g3,q3,hi,hq,du,KQ,FT,Hl,b1,di mj];refine⟨by omega,by simp[cU],by simp[g0],by simp[cU],.inl rfl,.sl qO 2 0 (F.length+1) false,by simp[cU],?_⟩;rw[dD];exact .inr ⟨by simp[dI],qO,by simp[dI],by rw[b2];simp[dI]⟩
  .have gG:i=l.length:=Yc kY (Yb hi);subst gG;simp[cU,g0,g4,hq];exact⟨kY,by simp[cU],by simp[g0],by simp[g4],.inl rfl,y,by simp[g3],hy⟩
 .rintro o fr hp hn ⟨rfl,kY,cU,g0,g4,_,y,g3,hy⟩;simp only at cU g0 g4 g3 hy;rw[Yz]at hy;rcases hy with⟨Af,rfl⟩|⟨KR,id,rfl,dC⟩
  .have eG:l=[]:=by cases l with
    |nil=>rfl
    |cons _ _=>simp[dI,oN]at Af
   rw[qE eG];simp[cU,g3,ae];exact gz ⟨_,rfl,rfl⟩
  .rw[fS]at dC;rw[dF]at g3;obtain⟨h',e⟩:=af id hp dC;simp[cU,g3,e];exact gz ⟨_,rfl,rfl⟩
def ajZ (N D:Nat)(b:Bool)(l:List Rw)(z:Bool)(h:Hp)(hB:oo D (oN l)):cW cx (N+2*D+13) b 57 [.ls 1 (vx l) z] h=some (.ls 2 (dI (dP (oN l))) false,h):=by
 refine wH f57 [.tmp 2] rfl ?_ b h;have mi:kx 57=2:=by decide
 rw[mi];have af:=λ(y:AV) (h:Hp) (hy:XF h y (oN l))=>FU N D true (oN l) y h hB hy
 have C_:l.length<=1000000:=by have:=hB.len;simpa[oN]using this
 generalize N+2*D+12=M at af|-;have hq:=pI l;have hg:=OG l;generalize hbr:dI (dP (oN l))=res;generalize vx l=cY at hq hg;simp[f57,hq];refine eC (C:=cx) (G:=λr=>∃r0 h',eQ _ (eR _ _ (dL _ r) _)=some (r0,h')/\∃r',Ae.dq h' 8 r0=some r'/\wI 2 r'= .ls 2 res false)
  (λi s=>OfI l 20 3 6 8 7 (.ls 1 cY z) i s) (λo s=>o= .exit 0/\OfI l 20 3 6 8 7 (.ls 1 cY z) l.length s) l.length (by simp;omega) ⟨by omega,rfl,rfl,rfl,.inr rfl,_,rfl,.inl ⟨rfl,rfl⟩⟩ ?_ ?_
 .rintro i fr hp _ ⟨kY,cU,g6,g8,g7,y,g3,hy⟩;have g7:=g7.resolve_left (by decide);simp only at cU g6 g8 g7 g3 hy;have mj:i<=1000000000000000:=by omega
  by_cases hi:i<l.length
  .obtain⟨r,hx⟩:=eA hi;have hr:cY[i]?=some [AV.ls 5 (dN r.1) false]:=by rw[hg,hx];rfl
   have du:=gA hr
   have dD:=Jr hx;have EE:(oN (l.take i)).length<=1000000:=by simp[oN];omega
   have q3:=oG (λv=>hy.np v)
   obtain⟨qO,h3,b1,b2,b3,b4⟩:=gm (t:=40) tc rfl hp (dR (r,1)) (dI (oN (l.take i))) y hy rfl (λr hr=>(jR _).1 r hr) (by omega) (by rw[dF];omega) (by omega);unfold dR at b1;rw[dF]at b1;simp only at b1;generalize oN (l.take i)=F at b1 b2 dD EE;simp[cU,g6,g8,g7,g3,q3,hi,hq,du,KQ,FT,Hl,b1,di mj];refine⟨by omega,by simp[cU],by simp[g6],by simp[cU],.inr (by simp[g7]),.sl qO 2 0 (F.length+1) false,by simp[cU],?_⟩;rw[dD];exact .inr ⟨by simp[dI],qO,by simp[dI],by rw[b2];simp[dI]⟩
  .have gG:i=l.length:=Yc kY (Yb hi);subst gG;simp[cU,g8,g7];exact⟨kY,by simp[cU],by simp[g6],by simp[g8],.inr (by simp[g7]),y,by simp[g3],hy⟩
 .rintro o fr hp hn ⟨rfl,kY,cU,g6,g8,_,y,g3,hy⟩;simp only at cU g6 g8 g3 hy;rw[Yz]at hy;have hXF:XF hp y (oN l):=by
   rcases hy with⟨Af,rfl⟩|⟨KR,id,rfl,dC⟩
   .exact .inl ⟨by cases l with
     |nil=>rfl
     |cons _ _=>simp[dI,oN]at Af,rfl⟩
   .refine .inr (.inr ⟨λe=>KR (by rw[e];rfl),id,[],by rw[dF],by rw[Yp,<-fS];exact dC⟩)
  obtain⟨r,h',e,hN⟩:=af y hp hXF;obtain⟨⟨r',s1,s2⟩,s3⟩:=Gk hN;have q3:=oG (λv=>hy.np v)
  have q4:=λ(ops:Array Oper) (d:Tmp) (rest:List Oper) (fr:LA) (h:Hp)=>kW (C:=cx) (cal:=cW cx M true) (ops:=ops) s3 d rest fr h
  simp[cU,g3,q3,e,q4];exact gz ⟨_,s1,by rw[s2,hbr]⟩
def QX (n:Int):Int:=dM .i64 (-n)
def jJ (S:List (Rw × Int)):List (Rw × Int):=S.map λp=>(p.1,QX p.2)
def uv (S:List (Rw × Int)):(jJ S).length=S.length:=by simp[jJ]
def EF {S:List (Rw × Int)}{i:Nat}{p:Rw × Int}(h:S[i]?=some p):jJ (S.take (i+1))=jJ (S.take i)++[(p.1,QX p.2)]:=by
 unfold jJ;rw[Yx,h];simp
def VD (S:List (Rw × Int))(r:Rw)(n:Int)(hn:i64 n)(hS:∀q∈S,i64 q.2):∀q∈nR gR S r n,i64 q.2:=by
 induction S with
 |nil=>intro q hq;simp[nR]at hq;rw[hq];exact hn
 |
  cons p S ih=>
  intro q hq;rw[nR]at hq;split at hq
  .rcases Xm.1 hq with rfl|h
   .exact yy _
   .exact hS q (Xn _ h)
  .rcases Xm.1 hq with rfl|h
   .exact hS _ (by simp)
   .exact ih (λx hx=>hS x (Xn _ hx)) q h
def VF (Z:List (Rw × Int))(hZ:∀p∈Z,i64 p.2):∀q∈mJ gR Z,i64 q.2:=by
 have key:∀(Z S:List (Rw × Int)),(∀p∈Z,i64 p.2)->(∀q∈S,i64 q.2)->∀q∈Z.foldl (λs x=>nR gR s x.1 x.2) S,i64 q.2:=by
  intro Z
  induction Z with
  |nil=>exact λS _ h=>h
  |cons p Z ih=>exact λS hZ hS=>ih _ (λq hq=>hZ q (Xn _ hq)) (VD S p.1 p.2 (hZ p (by simp)) hS)
 exact key Z [] hZ (λ_ h=>by simp at h)
def EG {Z:List (Rw × Int)}{q:Rw × Int}(h:q∈dP Z):q∈mJ gR Z:=((rh (add:=gR) mK Z).mem_iff).2 (List.mem_filter.1 h).1
def u9 (Z:List (Rw × Int)):(dP Z).length<=Z.length:=by
 have h0:=(rh (add:=gR) mK Z).length_eq;have h1:=nT Z;have h2:(dP Z).length<=(vp mF gR Z).length:=Xo _ _;omega
def qf {D:Nat}{Z:List (Rw × Int)}(h:oo D Z):oo D (dP Z):=
 ⟨λp hp=>pk Z h.row p (EG hp),λp hp=>VF Z h.num p (EG hp),Yn (u9 Z) h.len⟩
def ad2 {D:Nat}{Z:List (Rw × Int)}(h:oo D Z):oo D (jJ Z):=
 ⟨λp hp=>by obtain⟨q,hq,rfl⟩:=Yi.1 hp;exact h.row q hq,λp hp=>by obtain⟨q,hq,rfl⟩:=Yi.1 hp;exact yy _,by rw[uv];exact h.len⟩
def VG (a:List (Rw × Int))(r:Rw)(m n:Int)(t:List (Rw × Int))(rest:LA):da ((a++(r,m)::t).flatMap dR++rest) (a.length*2+1) [n]=(a++(r,n)::t).flatMap dR++rest:=by
 have hl:(a.flatMap dR).length=a.length*2:=pj ru a;rw[Xh,Xh,Yu,Yu];have:=pg (A:=a.flatMap dR++[.ls 5 (dN r.1) false]) (Z:=[.sc (.int .i64 m)]) (E:=[.sc (.int .i64 n)]) (B:=t.flatMap dR++rest) (o:=a.length*2+1) (by simp[hl]) rfl;simpa[dR]using this
structure agv (S:List (Rw × Int))(id:Nat)(rest:LA)(i:Nat)(s:St):Prop where
 le:i<=S.length
 len:s.1.length=24
 g3:gt s.1 3= .sl id 2 0 S.length false
 g8:gt s.1 8=S.length
 g9:gt s.1 9=i
 row:s.2[id]?=some (.row ((jJ (S.take i)++S.drop i).flatMap dR++rest))
def agw (N D:Nat)(b:Bool)(Z:List (Rw × Int))(h:Hp)(hB:oo D Z):cW cx (N+2*D+13) b 110 [.ls 2 (dI Z) false] h=some (.ls 2 (dI (jJ (dP Z))) false,h):=by
 refine wH f110 [.tmp 2] rfl ?_ b h;have mi:kx 110=2:=by decide
 rw[mi];obtain⟨r,h1,e,hN⟩:=FU N D true Z (.ls 2 (dI Z) false) [] hB (.inr (.inl ⟨false,rfl⟩));have AF:(dP Z).length<=1000000:=(qf hB).len;generalize N+2*D+12=M at e|-;generalize dP Z=S at hN AF|-;generalize dI Z=cY at e|-;rcases hN.2 with⟨rfl,hr⟩|⟨YH,id,rest,_,rfl,dC⟩
 .have hr0:r=()\/∃z,r= .ls 2 [] z:=hr;rcases hr0 with rfl|⟨z,rfl⟩
  all_goals
   simp[f110,e];refine LM
    (λi s _=>i=0/\s.length=24/\(gt s 3=()\/∃z,gt s 3= .ls 2 [] z)/\gt s 8=(0:Int)/\gt s 9=(0:Int))
    (λo s _=>o= .exit 0/\s.length=24/\(gt s 3=()\/∃z,gt s 3= .ls 2 [] z)) 0 (by simp) (by exact ⟨rfl,rfl,by first|exact .inl rfl|exact .inr ⟨_,rfl⟩,rfl,rfl⟩) ?_ ?_
   .rintro j fr lW _ ⟨rfl,cU,g3,g8,g9⟩;simp[cU,g8,g9];rcases g3 with g|⟨z,g⟩
    .exact .inl g
    .cases z
     .exact .inr (.inl g)
     .exact .inr (.inr g)
   .rintro o fr lW hn ⟨rfl,cU,g3⟩;rcases g3 with g3|⟨z,g3⟩<;>(simp[cU,g3];refine⟨_,_,⟨rfl,rfl⟩,_,rfl,rfl⟩)
 .simp[f110,e];refine eC (C:=cx) (G:=λr=>∃r0 h',eQ _ (eR _ _ (dL _ r) _)=some (r0,h')/\∃r',Ae.dq h' 8 r0=some r'/\wI 2 r'= .ls 2 (dI (jJ S)) false)
   (λi s=>agv S id rest i s) (λo s=>o= .exit 0/\agv S id rest S.length s) S.length (by simp;omega) ⟨by omega,rfl,rfl,rfl,rfl,by simp[jJ];exact dC⟩ ?_ ?_
  .rintro i fr hp _ ⟨kY,cU,g3,g8,g9,hz⟩;simp only at cU g3 g8 g9 hz;have mj:i<=1000000000000000:=by omega
   by_cases hi:i<S.length
   .obtain⟨p,hx⟩:=eA hi;have dD:=EF hx;have Dh:S.drop i=(p.1,p.2)::S.drop (i+1):=by
     obtain⟨k,e⟩:=Za.1 hx;rw[Zm k,e]
    have nS:(jJ (S.take i)).length=i:=by rw[uv,Yy];omega
    rw[Dh]at hz;have s6:=wc (jJ (S.take i)) p.1 p.2 (S.drop (i+1)) rest;have iA:=VG (jJ (S.take i)) p.1 p.2 (QX p.2) (S.drop (i+1)) rest;have fq:((jJ (S.take i)++(p.1,p.2)::S.drop (i+1)).flatMap dR++rest).length≥S.length*2:=by
     rw[Zu,gS,Zu,nS];simp;omega
    rw[nS]at s6 iA;have nd:(jJ (S.take i)++(p.1,QX p.2)::S.drop (i+1)).flatMap dR++rest=(jJ (S.take (i+1))++S.drop (i+1)).flatMap dR++rest:=by rw[dD];simp
    generalize(jJ (S.take i)++(p.1,p.2)::S.drop (i+1)).flatMap dR++rest=cs at hz s6 iA fq;have wC:=gA hz
    have hat':=gA s6
    have xm:i*2+1+1<=cs.length:=by omega
    have jD:id<hp.length:=(Za.1 hz).1;simp[cU,g3,g8,g9,hi,hz,s6,xm,di mj];refine⟨by omega,by simp[cU],by simp[g3],by simp[g8],by simp[cU],?_⟩;show(hp.set id _)[id]?=_;rw[Zj jD,<-nd,<-iA];rfl
   .have gG:i=S.length:=Yc kY (Yb hi);subst gG;simp[cU,g8,g9];exact⟨kY,by simp[cU],by simp[g3],by simp[g8],by simp[g9],hz⟩
  .rintro o fr hp hn ⟨rfl,kY,cU,g3,g8,g9,hz⟩;simp only at cU g3 g8 g9 hz;rw[Yz,List.drop_length,Yp]at hz;have lH:=ug (n:=7) hz;rw[uv]at lH;simp[cU,g3];exact gz ⟨_,lH,rfl⟩
def MA :ED 179 2:=λn b cY z h hl hw=>by
 cases cY with
 |
  nil=>
  have e1:cx.ox 179=none:=by kernel_rfl
  have e2:cx.inl 179=true:=by kernel_rfl
  have e3:cx.ins 179=none:=by kernel_rfl
  have e4:(if[AV.ls 2 [] z].all d_ then cx.tE 179 [.ls 2 [] z]else none)=some (.ls 2 [] true):=rfl;simp only[cW,e1,e2,e3,e4,if_true];rfl
 |
  cons r cY=>
  have e1:cx.ox 179=none:=by kernel_rfl
  have e2:cx.inl 179=true:=by kernel_rfl
  have e3:cx.ins 179=none:=by kernel_rfl
  have e4:(if[AV.ls 2 (r::cY) z].all d_ then cx.tE 179 [.ls 2 (r::cY) z]else none)=none:=rfl;have e5:cx.F 179=some ⟨f179.ntmps,(f179.body).getD .skip,[.tmp 2]⟩:=by kernel_rfl
  have e6:(j5 cx ((f179.body).getD .skip)).isNone=true:=by kernel_rfl
  have ny:cW cx (n+1) b 179 [.ls 2 (r::cY) z] h=eQ [.tmp 2] (dS cx (cW cx n) ((f179.body).getD .skip) ([.ls 2 (r::cY) z]++List.replicate (f179.ntmps-1) .un,h)):=by
   simp only[cW,e1,e2,e3,e4,e5,if_true,Yd.1 e6];exact kh e5 (by kernel_rfl) (by simp[f179]) h
  rw[ny];have c0:cY.length+1<=maxLen:=by unfold maxLen;simp at hl;omega
  have c1:(cY.length+1)*1000<=140737488355328:=by simp at hl;omega
  have c3:¬cY.length+1=0:=by omega
  have c4:(cY.length+1)*32<=140737488355328:=by omega
  simp[f179,tF,jL,eE,c0,c4]
structure acm (S:List (Rw × Int))(i:Nat)(s:St):Prop where
 le:i<=S.length
 len:s.1.length=30
 g3:gt s.1 3= .ls 2 (dI S) false
 g5:gt s.1 5=i
 Es:∃y,gt s.1 4=y/\kP s.2 2 (dI (jJ (S.take i))) y
def agx (N D:Nat)(b:Bool)(Z:List (Rw × Int))(h:Hp)(hB:oo D Z):cW cx (N+3*D+10) b 129 [.ls 2 (dI Z) false] h=some (.ls 2 (dI (jJ (dP Z))) false,h):=by
 refine wH f129 [.tmp 2] rfl ?_ b h;have mi:kx 129=2:=by decide
 rw[mi];have aa:=λb h=>Mx N D b Z false h hB
 have AF:(dP Z).length<=1000000:=(qf hB).len;generalize N+3*D+9=M at aa|-;generalize dP Z=S at aa AF|-;generalize dI Z=zr at aa|-;simp[f129,aa];refine eC (C:=cx) (G:=λr=>∃r0 h',eQ _ (eR _ _ (dL _ r) _)=some (r0,h')/\∃r',Ae.dq h' 8 r0=some r'/\wI 2 r'= .ls 2 (dI (jJ S)) false)
  (λi s=>acm S i s) (λo s=>o= .exit 0/\acm S S.length s) S.length (by simp;omega) ⟨by omega,rfl,rfl,rfl,_,rfl,.inl ⟨rfl,rfl⟩⟩ ?_ ?_
 .rintro i fr hp _ ⟨kY,cU,g3,g5,y,g4,hy⟩;simp only at cU g3 g5 g4 hy;have hq:=dF S;have hg:=ue S;generalize yb:dI S=cY at g3 hq hg;have mj:i<=1000000000000000:=by omega
  by_cases hi:i<S.length
  .obtain⟨p,hx⟩:=eA hi;have hr:cY[i]?=some (dR p):=by rw[hg,hx];rfl
   have du:=gA hr
   have dD:=EF hx;have EE:(jJ (S.take i)).length<=1000000:=by rw[uv,Yy];omega
   have q3:=NZ (λv=>hy.np v)
   obtain⟨qO,h3,b1,b2,b3,b4⟩:=gm (t:=40) tc rfl hp (dR (p.1,QX p.2)) (dI (jJ (S.take i))) y hy rfl (λr hr=>(jR _).1 r hr) (by omega) (by rw[dF];omega) (by omega);unfold dR at b1 hr du;rw[dF]at b1;unfold QX at b1;simp only at b1;generalize jJ (S.take i)=F at b1 b2 dD EE;simp[cU,g3,g5,g4,q3,hi,hq,du,KQ,FT,Hl,b1,di mj];refine⟨by omega,by simp[cU],by simp[g3,yb],by simp[cU],.sl qO 2 0 (F.length+1) false,by simp[cU],?_⟩;rw[dD];exact .inr ⟨by simp[dI],qO,by simp[dI],by rw[b2];simp[dI]⟩
  .have gG:i=S.length:=Yc kY (Yb hi);subst gG;simp[cU,g3,g5,hq];exact⟨kY,by simp[cU],by simp[g3,yb],by simp[g5],y,by simp[g4],hy⟩
 .rintro o fr hp hn ⟨rfl,kY,cU,g3,g5,y,g4,hy⟩;simp only at cU g3 g5 g4 hy;rw[Yz]at hy;have dJ:=jR (jJ S);have lH:=ij (n:=7) (by omega) dJ.1 dJ.2 hy;have q7:=oG (λv=>hy.np v)
  simp[cU,g4,q7];exact gz ⟨_,lH,mf _ _⟩
def xE (H:Hp)(S:List (Rw × Int))(z:Bool):gY H (.ls 2 (dI S) z)=some (S.length,S.flatMap dR):=by
 show some ((dI S).length,(dI S).flatten)=_;rw[dF,fS]
def agy (N D:Nat)(b:Bool)(A B:List (Rw × Int))(h:Hp)(hB:oo D (A++B)):cW cx (N+3*D+10) b 17 [.ls 2 (dI A) false,.ls 2 (dI B) false] h=some (.ls 2 (dI (dP (A++B))) false,h):=by
 refine wH f17 [.tmp 4] rfl ?_ b h;have mi:kx 17=2:=by decide
 rw[mi];have aa:=λb h=>Mx N D b (A++B) false h hB
 have af:=λid h dC=>OE (f:=44) (n:=N+3*D+8) (S:=A++B) (r:= .ls 2 (dI (dP (A++B))) false) rfl (by kernel_rfl) rfl id h dC (λh=>aa true h)
 have hl:=hB.len;rw[Zu]at hl;obtain⟨i1,H1,a1,a2,_⟩:=lC [.row []] 0 0 A.length [] (A.flatMap dR) (.ls 2 (dI A) false) rfl rfl rfl (xE _ _ _) (gS A) (by omega);obtain⟨i2,H2,b1,b2,_⟩:=lC H1 i1 (0+A.length) B.length ([]++A.flatMap dR) (B.flatMap dR) (.ls 2 (dI B) false) a2 (by rw[Zw,gS];omega) rfl (xE _ _ _) (gS B) (by omega);have dC:H2[i2]?=some (.row ((A++B).flatMap dR)):=by rw[b2,Xh];rfl
 obtain⟨h',e⟩:=af i2 H2 dC;have eG:0+A.length+B.length=(A++B).length:=by rw[Zu];omega
 rw[eG]at b1;rw[Xb]at a1 b1;simp only[show N+3*D+8+1=N+3*D+9 by omega]at e;generalize N+3*D+9=M at e|-;clear aa af hB;generalize(A++B).length=L at b1 e;generalize dI (dP (A++B))=res at e|-;generalize dI A=ra at a1|-;generalize dI B=rb at b1|-;simp[f17,a1,b1,e];exact gz ⟨_,rfl,rfl⟩
def agz (N D:Nat)(b:Bool)(A B:List (Rw × Int))(h:Hp)(hB:oo D B)(hC:oo D (A++jJ (dP B))):cW cx (N+3*D+11) b 69 [.ls 2 (dI A) false,.ls 2 (dI B) false] h=some (.ls 2 (dI (dP (A++jJ (dP B)))) false,h):=by
 refine wH f69 [.tmp 4] rfl ?_ b h;have mi:kx 69=2:=by decide
 rw[mi];have aa:=λb h=>agx N D b B h hB
 have ae:=λb h=>agy N D b A (jJ (dP B)) h hC
 generalize N+3*D+10=M at aa ae|-;clear hB hC;generalize dI (dP (A++jJ (dP B)))=res at ae|-;generalize dI (jJ (dP B))=rn at aa ae;generalize dI A=ra at ae|-;generalize dI B=rb at aa|-;simp[f69,aa,ae];exact⟨_,_,⟨rfl,rfl⟩,_,rfl,rfl⟩
def agA (N D:Nat)(b:Bool)(A B:List (Rw × Int))(h:Hp)(hB:oo D (A++B)):cW cx (N+2*D+13) b 109 [.ls 2 (dI A) false,.ls 2 (dI B) false] h=some (.ls 2 (dI (dP (A++B))) false,h):=by
 refine wH f109 [.tmp 4] rfl ?_ b h;have mi:kx 109=2:=by decide
 rw[mi];have hl:=hB.len;rw[Zu]at hl;have fc:=λb h=>MA (N+2*D+11) b (dI A) false h (by rw[dF];omega) (jR A).1
 have fn:=λx (h:Hp) (hx:XF h x (A++B))=>FU N D true (A++B) x h hB hx
 rw[show N+2*D+11+1=N+2*D+12 by omega]at fc;generalize N+2*D+12=M at fc fn|-;have key:∃c hc x hx,cW cx M true 179 [.ls 2 (dI A) false] []=some (c,hc)/\(∀v,c≠ .pn v)/\eE cx hc 40 c (.ls 2 (dI B) false)=some (x,hx)/\(∀v,x≠ .pn v)/\XF hx x (A++B):=by
  have ak:=fc true [];rw[fS,dF]at ak;cases hA:A with
  |
   nil=>
   subst hA;have ak:cW cx M true 179 [.ls 2 (dI []) false] []=some (.ls 2 [] true,[]):=ak;refine⟨.ls 2 [] true,[],?_⟩;cases hBB:B with
   |
    nil=>
    subst hBB;refine⟨.ls 2 [] true,[],ak,λv=>by simp,?_,λv=>by simp,.inr (.inl ⟨true,rfl⟩)⟩;unfold eE;rw[tc];rfl
   |
    cons p B'=>
    rw[<-hBB];have hBp:B≠ []:=by rw[hBB];simp
    have UL:¬B.length=0:=λe=>hBp (Zl e)
    refine⟨.sl 0 2 0 B.length false,[.row (B.flatMap dR)],ak,λv=>by simp,?_,λv=>by simp,.inr (.inr ⟨by rw[Zw];exact hBp,0,[],rfl,by simp⟩)⟩;have c2:B.length<=maxLen:=by unfold maxLen;omega
    have c3:B.length*32<=140737488355328:=by omega
    unfold eE;rw[tc];simp only[jL,beq_self_eq_true,Bool.and_self,if_true,xE,UL,if_false,Xa,Xb,c2,c3,and_self,List.flatten_nil,Zw]
  |
   cons p A'=>
   rw[<-hA];have hAp:A≠ []:=by rw[hA];simp
   have eW:(dI A).isEmpty=false:=by rw[hA];rfl
   rw[eW]at ak;simp only[Yq,if_false,Xa,Xb,Zw]at ak;obtain⟨i2,H2,b1,b2,_⟩:=lC [.dead,.row (A.flatMap dR)] 1 A.length B.length (A.flatMap dR) (B.flatMap dR) (.ls 2 (dI B) false) rfl (gS A) rfl (xE _ _ _) (gS B) (by omega);refine⟨_,_,_,_,ak,λv=>by simp,b1,λv=>by simp,.inr (.inr ⟨by simp[hAp],i2,[],by rw[Zu],by rw[b2,Xh,Yp]⟩)⟩
 obtain⟨c,hc,x,hx,k1,k2,k3,k4,k5⟩:=key;obtain⟨r,h',e,hN⟩:=fn x hx k5;obtain⟨⟨r',s1,s2⟩,s3⟩:=Gk hN;have q1:=λ(ops:Array Oper) (d:Tmp) (rest:List Oper) (fr:LA) (h:Hp)=>kW (C:=cx) (cal:=cW cx M true) (ops:=ops) k2 d rest fr h
 have q2:=λ(ops:Array Oper) (d:Tmp) (rest:List Oper) (fr:LA) (h:Hp)=>kW (C:=cx) (cal:=cW cx M true) (ops:=ops) k4 d rest fr h
 have q3:=λ(ops:Array Oper) (d:Tmp) (rest:List Oper) (fr:LA) (h:Hp)=>kW (C:=cx) (cal:=cW cx M true) (ops:=ops) s3 d rest fr h
 clear fc fn k5 hN hB;generalize dI (dP (A++B))=res at s2|-;generalize dI A=ra at k1|-;generalize dI B=rb at k3|-;simp[f109,k1,q1,k3,q2,e,q3];exact gz ⟨_,s1,s2⟩
def agB (N D:Nat)(b:Bool)(A B:List (Rw × Int))(h:Hp)(hB:oo D B)(hC:oo D (A++jJ (dP B))):cW cx (N+2*D+14) b 55 [.ls 2 (dI A) false,.ls 2 (dI B) false] h=some (.ls 2 (dI (dP (A++jJ (dP B)))) false,h):=by
 refine wH f55 [.tmp 4] rfl ?_ b h;have mi:kx 55=2:=by decide
 rw[mi];have aa:=λb h=>agw N D b B h hB
 have ae:=λb h=>agA N D b A (jJ (dP B)) h hC
 generalize N+2*D+13=M at aa ae|-;clear hB hC;generalize dI (dP (A++jJ (dP B)))=res at ae|-;generalize dI (jJ (dP B))=rn at aa ae;generalize dI A=ra at ae|-;generalize dI B=rb at aa|-;simp[f55,aa,ae];exact⟨_,_,⟨rfl,rfl⟩,_,rfl,rfl⟩
end
end Go.Proofs.YtaibpnppeiigdaaGreatDoor
