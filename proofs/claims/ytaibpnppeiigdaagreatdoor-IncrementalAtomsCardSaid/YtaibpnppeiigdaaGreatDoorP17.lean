/- Part of the proof. -/
import Derived.Test.YtaibpnppeiigdaaGreatDoorP16
set_option linter.all false
set_option maxHeartbeats 32000000
set_option maxRecDepth 100000
namespace Go.Proofs.YtaibpnppeiigdaaGreatDoor
open Go Go.Ae Go.Proofs.Tryz
section
attribute [local simp] zi XM
def Uf (N D:Nat)(b:Bool)(F:List (Rw × Int))(id:Nat)(rest:LA)(h:Hp)(hF:∀p∈F,mP D p.1)(hl:F.length<=1000000)(dC:h[id]?=some (.row (F.flatMap dR++rest))):
 ∃r:List (Rw × Int),r.Perm F/\(r.Pairwise λa b=>¬mF b.1 a.1<0)/\cW cx (N+2*D+11) b 184 [.sl id 2 0 F.length false,.fn 185 []] h=some (.tp [],h.set id (.row (r.flatMap dR++rest))):=by
 have:Inhabited (Rw × Int):=⟨(⟨[],by rw[NS];trivial⟩,0)⟩;obtain⟨r,h1,h2,h3⟩:=Ib (call:=cW cx (N+2*D+10) false) (k:=2) (h:=h) (id:=id) (b:=false) (g:=185) dR (λp=> .ag (dR p)) (λa b=>mF a.1 b.1) F rest (λ_=>rfl) dC (by omega) (λx _=>oH (n:=6) rfl) (λx hx y hy=>⟨[],age N D false x y [] (hF x hx) (hF y hy)⟩) (mK.weak (λp=>p.1) F);refine⟨r,h1,h2,?_⟩;have e1:cx.ox 184 =none:=rfl;have e2:cx.inl 184 =true:=by kernel_rfl
 have e3:cx.ins 184 =some (2,0):=by kernel_rfl
 simp only[cW,e1,e2,e3,if_true];exact h3
def Ug (n:Nat)(b:Bool)(y:AV)(h:Hp)(hy:y=()\/∃z,y= .ls 2 [] z):cW cx (n+1) b 184 [y,.fn 185 []] h=some (.tp [],h):=by
 have e1:cx.ox 184 =none:=rfl;have e2:cx.inl 184 =true:=by kernel_rfl
 have e3:cx.ins 184 =some (2,0):=by kernel_rfl
 simp only[cW,e1,e2,e3,if_true];rcases hy with rfl|⟨z,rfl⟩<;>rfl
def LP (n:Nat)(b:Bool)(h:Hp):cW cx (n+2) b 182 [(),.fn 183 []] h=some (.sc (.slice none 0 0),h):=by
 rw[K7 (n:=n+1) f182 [.tmp 4]];have ak:=λb h=>Ii n b h
 generalize n+1=M at ak|-;simp[f182,ak]
def XF (h:Hp)(x:AV)(Z:List (Rw × Int)):Prop:=(Z=[]/\x=())\/(∃zf,x= .ls 2 (dI Z) zf)\/(Z≠ []/\∃id rest,x= .sl id 2 0 Z.length false/\h[id]?=some (.row (Z.flatMap dR++rest)))
def NR (h h':Hp)(S:List (Rw × Int))(r:AV):Prop:=(∀(j:Nat) (b:fp),h[j]?=some b->h'[j]?=some b)/\((S=[]/\(r=()\/∃z,r= .ls 2 [] z))\/(S≠ []/\∃id rest,h.length<=id/\r= .sl id 2 0 S.length false/\h'[id]?=some (.row (S.flatMap dR++rest))))
def dP (Z:List (Rw × Int)):List (Rw × Int):=NQ mF gR Z
def Qk (S:List (Rw × Int))(r:Rw)(n:Int):∀q∈nR gR S r n,q.1=r\/q.1∈S.map (·.1):=by
 induction S with
 |nil=>intro q hq;simp[nR]at hq;left;rw[hq]
 |
  cons p S ih=>
  intro q hq;rw[nR]at hq;split at hq
  .rcases Xm.1 hq with rfl|h
   .right;simp
   .right;simp;right;exact⟨_,h⟩
  .rcases Xm.1 hq with rfl|h
   .right;simp
   .rcases ih q h with h|h
    .exact .inl h
    .right;rw[Xi];exact Xn _ h
def pk {D:Nat}(Z:List (Rw × Int))(hZ:∀p∈Z,mP D p.1):∀q∈mJ gR Z,mP D q.1:=by
 have key:∀(Z S:List (Rw × Int)),(∀p∈Z,mP D p.1)->(∀q∈S,mP D q.1)->∀q∈Z.foldl (λs x=>nR gR s x.1 x.2) S,mP D q.1:=by
  intro Z
  induction Z with
  |nil=>exact λS _ h=>h
  |
   cons p Z ih=>
   intro S hZ hS;refine ih _ (λq hq=>hZ q (Xn _ hq)) λq hq=>?_
   rcases Qk S p.1 p.2 q hq with e|e
   .rw[e];exact hZ p (by simp)
   .obtain⟨q',h1,h2⟩:=Yi.1 e;rw[<-h2];exact hS q' h1
 exact key Z [] hZ (λ_ h=>by simp at h)
def Uh (S:List (Rw × Int))(r:Rw)(n:Int):(nR gR S r n).length<=S.length+1:=by
 induction S with
 |nil=>simp[nR]
 |
  cons p S ih=>
  rw[nR];split
  .simp
  .simp only[Yw];omega
def nT (Z:List (Rw × Int)):(mJ gR Z).length<=Z.length:=by
 have key:∀(Z S:List (Rw × Int)),(Z.foldl (λs x=>nR gR s x.1 x.2) S).length<=Z.length+S.length:=by
  intro Z
  induction Z with
  |nil=>intro S;simp
  |
   cons p Z ih=>
   intro S;have h1:=ih (nR gR S p.1 p.2);have h2:=Uh S p.1 p.2;rw[Yl,Yw];omega
 exact key Z []
def Ep {Z:List (Rw × Int)}{i:Nat}{p:Rw × Int}(h:Z[i]?=some p):mJ gR (Z.take (i+1))=nR gR (mJ gR (Z.take i)) p.1 p.2:=by
 rw[Yx,h];exact P7 _ _ _
structure Er (h:Hp)(Z:List (Rw × Int))(x:AV)(i:Nat)(s:St):Prop where
 le:i<=Z.length
 len:s.1.length=56
 g3:gt s.1 3= .mp h.length
 g11:gt s.1 11=x
 g12:gt s.1 12=Z.length
 g13:gt s.1 13=i
 hl:h.length<s.2.length
 keep:∀(j:Nat) (b:fp),h[j]?=some b->s.2[j]?=some b
 mp:∃ck,s.2[h.length]?=some (.map (kN (mJ gR (Z.take i)) 0) ck)
 Es:∃y,gt s.1 4=y/\kP s.2 2 (dI (mJ gR (Z.take i))) y/\∀k n,y= .sl k 2 0 n false->h.length<k
def FT (a b x:AV):da [a,b] 0 [x]=[x,b]:=rfl
def FU (N D:Nat)(b:Bool)(Z:List (Rw × Int))(x:AV)(h:Hp)(hB:oo D Z)(hx:XF h x Z):
 ∃r h',cW cx (N+2*D+12) b 111 [x] h=some (r,h')/\NR h h' (dP Z) r:=by
 rw[K7 (n:=N+2*D+11) f111 [.tmp 2]];have FV:∀(r:Rw),mP D r->∀b h,cW cx (N+2*D+11) b 180 [.ls 5 (dN r.1) false] h=some (.sc (.string (keyOf r)),h):=λr hr b h=>by
  have:=af9 D r.1 (λy hy=>(hr.fB y hy).1) r.2 (by have:=hr.len;omega) hr.key (N+D+9) false b h;rw[show N+D+9+D+2=N+2*D+11 by omega]at this;exact this
 have FW:∀(r:Rw),mP D r->∀b h,cW cx (N+2*D+11) b 181 [.ls 5 (dN r.1) false] h=some (.ls 5 (dN r.1) false,h):=λr hr b h=>by
  have:=ZX D r.1 (λy hy=>(hr.fB y hy).1) r.2 hr.key (N+D+10) false b h;rw[show N+D+10+D+1=N+2*D+11 by omega]at this;exact this
 have Z0:∀(S:List (Rw × Int)) (id:Nat) (h:Hp),S≠ []->S.length<=1000000->h[id]?=some (.row (S.flatMap dR))->∀b,∃r h',cW cx (N+2*D+11) b 182 [.sl id 2 0 S.length false,.fn 183 []] h=some (r,h')/\(∀j b,j≠id->h[j]?=some b->h'[j]?=some b)/\ady h' id (yB S) r:=λS id h h1 h2 h3 b=>Ue (N+2*D+8) b S id h h1 h2 h3
 have fdn:=λb h=>LP (N+2*D+9) b h
 have Z1:∀(F:List (Rw × Int)) (id:Nat) (rest:LA) (h:Hp),(∀p∈F,mP D p.1)->F.length<=1000000->h[id]?=some (.row (F.flatMap dR++rest))->∀b,∃r:List (Rw × Int),r.Perm F/\(r.Pairwise λa b=>¬mF b.1 a.1<0)/\cW cx (N+2*D+11) b 184 [.sl id 2 0 F.length false,.fn 185 []] h=some (.tp [],h.set id (.row (r.flatMap dR++rest))):=λF id rest h h1 h2 h3 b=>Uf N D b F id rest h h1 h2 h3
 have Ql:=λb y h (hy:y= .sc (.slice none 0 0)\/∃z,y= .ls 2 [] z)=>Ug (N+2*D+10) b y h hy
 rw[show N+2*D+9+2=N+2*D+11 by omega]at fdn;rw[show N+2*D+10+1=N+2*D+11 by omega]at Ql;generalize N+2*D+11=M at FV FW Z0 fdn Z1 Ql|-;rcases hx with⟨hZ0,rfl⟩|⟨zf,rfl⟩|⟨hZ,xid,xr,rfl,agf⟩
 .have hZl:Z.length=0:=by rw[hZ0];rfl
  simp[f111];refine eC (C:=cx) (G:=λr=>∃r0 h',eQ _ (eR _ _ (dL _ r) _)=some (r0,h')/\NR h h' (dP Z) r0)
   (λi s=>i=0/\Er h Z (.sc (.slice none 0 0)) Z.length s) (λo s=>o= .exit 0/\Er h Z (.sc (.slice none 0 0)) Z.length s) 0 (by simp) ?_ ?_ ?_
  .refine⟨rfl,Yt _,rfl,rfl,rfl,by rw[hZl];rfl,by rw[hZl];rfl,by simp,λj b hj=>by rw[Zd (Za.1 hj).1];exact hj,⟨0,by rw[hZ0];simp[mJ,kN]⟩,_,rfl,.inl ⟨by rw[hZ0];simp[mJ,dI],rfl⟩,λk n e=>by cases e⟩
  .rintro i fr hp eG ⟨rfl,kY,cU,g3,g11,g12,g13,Dc,eK,⟨ck,hm⟩,y,g4,hy,Et⟩;simp only at cU g3 g11 g12 g13 g4 Dc eK hm hy;have ajL:gt fr 12=(0:Int):=by rw[g12,hZl];rfl
   have ajM:gt fr 13=(0:Int):=by rw[g13,hZl];rfl
   simp[cU,ajL,ajM];exact⟨kY,by simp[cU],by simp[g3],by simp[g11],by simp[g12],by simp[g13],Dc,eK,⟨ck,hm⟩,y,by simp[g4],hy,Et⟩
  .rintro o fr hp hn ⟨rfl,q⟩;obtain⟨_,cU,g3,g11,g12,g13,Dc,eK,_,y,g4,hy,Et⟩:=q;simp only at cU g3 g11 g12 g13 g4 Dc eK hy;rw[Yz]at hy;have Du:=pk (D:=D) Z hB.row;have AF:(mJ gR Z).length<=1000000:=Yn (nT Z) hB.len;have qE:=norm_eq (add:=gR) mK Z;generalize mJ gR Z=S at hy Du AF qE;rcases hy with⟨Af,rfl⟩|⟨KR,id,rfl,dC⟩
   .have Z2:S=[]:=by cases S with
     |nil=>rfl
     |cons _ _=>simp[dI]at Af
    subst Z2;have x9:[]=dP Z:=qE [] (.refl _) .nil;have fs:=λb h=>Ql b (.sc (.slice none 0 0)) h (.inl rfl)
    simp[cU,g4,fdn,fs];exact gz ⟨eK,.inl ⟨x9.symm,.inl rfl⟩⟩
   .have YH:S≠ []:=λe=>KR (by rw[e];rfl)
    have jD:=Et id _ rfl;rw[dF]at g4;rw[fS]at dC;obtain⟨r0,h1,e1,k1,o1⟩:=Z0 S id hp YH AF dC true;have r_:∀(j:Nat) (b:fp),h[j]?=some b->h1[j]?=some b:=λj b hj=>by
     have jU:=(Za.1 hj).1;exact k1 j b (by omega) (eK j b hj)
    rcases o1 with⟨hF,z,rfl⟩|⟨hF,rfl,rest,AG⟩
    .have x9:[]=dP Z:=qE [] (by rw[show(S.filter λx=>x.2 !=0)=[]from hF]) .nil;have fs:=λb h=>Ql b (.ls 2 [] z) h (.inr ⟨z,rfl⟩)
     simp[cU,g4,e1,fs];exact gz ⟨r_,.inl ⟨x9.symm,.inr ⟨z,rfl⟩⟩⟩
    .obtain⟨r,p1,p2,e2⟩:=Z1 (yB S) id rest h1 (λq hq=>Du q ((List.mem_filter.1 hq).1)) (Yn (Xo _ _) AF) AG true;have x9:r=dP Z:=qE r p1 p2;have nC:=p1.length_eq;have Ol:r≠ []:=λe=>hF (by rw[e]at p1;exact List.perm_nil.1 p1.symm)
     have Ij:id<h1.length:=(Za.1 AG).1;simp[cU,g4,e1,e2];rw[<-x9];refine⟨_,_,⟨rfl,rfl⟩,λj b hj=>?_,.inr ⟨Ol,id,rest,by omega,by rw[nC],by rw[Zj Ij]⟩⟩;have jU:=(Za.1 hj).1;rw[Zq (by omega)];exact r_ j b hj
 .skip
  have hq:=dF Z;have hg:=ue Z;generalize dI Z=cY at hq hg|-;simp[f111,hq];refine eC (C:=cx) (G:=λr=>∃r0 h',eQ _ (eR _ _ (dL _ r) _)=some (r0,h')/\NR h h' (dP Z) r0)
   (λi s=>Er h Z (.ls 2 cY zf) i s) (λo s=>o= .exit 0/\Er h Z (.ls 2 cY zf) Z.length s) Z.length (by have:=hB.len;simp;omega) ?_ ?_ ?_
  .refine⟨by omega,rfl,rfl,rfl,rfl,rfl,by simp,λj b hj=>by rw[Zd (Za.1 hj).1];exact hj,⟨0,by simp[mJ,kN]⟩,_,rfl,.inl ⟨by simp[mJ,dI],rfl⟩,λk n e=>by cases e⟩
  .rintro i fr hp eG ⟨kY,cU,g3,g11,g12,g13,Dc,eK,⟨ck,hm⟩,y,g4,hy,Et⟩;simp only at cU g3 g11 g12 g13 g4 Dc eK hm hy;by_cases hi:i<Z.length
   .obtain⟨p,hx⟩:=eA hi;have Ik:=hB.row p (Zi hx);have YF:=hB.num p (Zi hx);have dD:=Ep hx;have Du:=pk (D:=D) (Z.take i) λq hq=>hB.row q (Xl hq)
    have AF:(mJ gR (Z.take i)).length<=1000000:=by have h1:=nT (Z.take i);have h2:=hB.len;rw[Yy]at h1;omega
    have fk:=FV p.1 Ik;have fc:=FW p.1 Ik;have hr:cY[i]?=some (dR p):=by rw[hg,hx];rfl
    have du:=gA hr
    unfold dR at hr du;obtain⟨r,n⟩:=p;simp only at Ik YF dD fk fc hr du;generalize mJ gR (Z.take i)=S at hm hy dD Du AF;have dJ:=BL S 0;have hM:∀y:fp,(hp++[y])[h.length]?=some (.map (kN S 0) ck):=λy=>by rw[Zd Dc];exact hm
    have hM':∀(y:fp) k,(hp++[y])[h.length]'k= .map (kN S 0) ck:=λy k=>by obtain⟨_,e⟩:=Za.1 (hM y);exact e
    have hT:∀(e w:fp),((hp++[e]).set h.length w)[hp.length]?=some e:=λe w=>by rw[Zq (by omega)];simp
    have Z3:∀(e w:fp) k,((hp++[e]).set h.length w)[hp.length]'k=e:=λe w k=>by obtain⟨_,e⟩:=Za.1 (hT e w);exact e
    have hf:=di (i:=i) (by have:=hB.len;omega);by_cases ny:r∈S.map (·.1)
    .obtain⟨a,m,t,eS,po⟩:=BN S ny;have s6:=BP (t:=t) (m:=m) Ik (λq hq=>Du q (by rw[eS];simp[hq])) po;rw[<-eS]at s6;rw[eS,BJ a m t r n po]at dD;have Il:kN (a++(r,gR m n)::t) 0=kN S 0:=by rw[eS];exact yA _ _ 0 (by simp)
     have haS:a.length<S.length:=by rw[eS];simp
     rcases hy with⟨Af,rfl⟩|⟨KR,id,rfl,dC⟩
     .rw[dI]at Af;rw[eS]at Af;simp at Af
     .have jD:=Et id _ rfl;have BS:id<hp.length:=(Za.1 dC).1;rw[dF]at g4;rw[fS]at dC;have iA:=uU a r m (gR m n) t;have lN:=wc a r m t [];rw[Yp,<-eS]at lN;rw[<-eS]at iA;have fq:=gS S;have hSz:S.length=(a++(r,gR m n)::t).length:=by rw[eS];simp
      generalize S.flatMap dR=cs2 at dC iA lN fq;have hA:∀y:fp,(hp++[y])[id]?=some (.row cs2):=λy=>by rw[Zd BS];exact dC
      have Og:∀(y:fp) k,(hp++[y])[id]'k= .row cs2:=λy k=>by obtain⟨_,e⟩:=Za.1 (hA y);exact e
      have Ui:=gA lN
      have pX:a.length*2+1+1<=cs2.length:=by clear hf;omega
      generalize kN S 0=es at hm dJ hM hM' s6 Il;unfold gR at iA;simp[cU,g3,g11,g12,g13,g4,hi,hq,du,KQ,fk,hM,dJ,s6,hA,lN,pX,haS,hf];clear hf fk fc FV FW;refine⟨by omega,by simp[cU],by simp[g3],by simp[g11],by simp[g12],by simp[cU],by simp;omega,λj b hj=>?_,⟨ck,?_⟩,.sl id 2 0 S.length false,by simp[g4],?_,λk n e=>by simp only[AV.sl.injEq]at e;omega⟩
      .have jU:=(Za.1 hj).1;rw[Zq (by omega),Zd (by omega)];exact eK j b hj
      .rw[Zq (by omega),hM,dD,Il]
      .rw[dD];refine .inr ⟨by simp[dI],id,by rw[dF,hSz],?_⟩;rw[Zj (by simp;omega),fS,iA];rfl
    .have s6:=BO Ik Du ny;have C9:=sC Ik S 0 0 Du ny;rw[BI S r n ny]at dD;have Il:=yz S (r,n) 0;generalize kN S 0=es at hm dJ hM hM' s6 C9 Il;have fn:dM .i64 n=n:=dh YF.1 YF.2;rcases hy with⟨Af,rfl⟩|⟨KR,id,rfl,dC⟩
     .have Z2:S=[]:=by cases S with
       |nil=>rfl
       |cons _ _=>simp[dI]at Af
      subst Z2;have hyT:∀T:Hp,kP T 2 (dI []) (.sc (.slice none 0 0)):=λT=> .inl ⟨rfl,rfl⟩
      obtain⟨T,x_⟩:∃T:Hp,T=(hp++[fp.row [.ls 5 (dN r.1) false,n]]).set h.length (.map (es++[(.string (keyOf r),.sc (.int .i64 0))]) (ck+1)):=⟨_,rfl⟩;have hTl:T.length=hp.length+1:=by rw[x_];simp
      have hTm:T[h.length]?=some (.map (es++[(.string (keyOf r),.sc (.int .i64 0))]) (ck+1)):=by rw[x_];exact Zj (by simp;omega)
      have hTx:T[hp.length]?=some (.row [.ls 5 (dN r.1) false,n]):=by rw[x_];exact hT _ _
      have Z4:∀j b,j<hp.length->j≠h.length->hp[j]?=some b->T[j]?=some b:=λj b h1 h2 h3=>by rw[x_,Zq (λe=>h2 e.symm),Zd h1];exact h3
      obtain⟨qO,h3,q1,q2,q3,q4⟩:=gm (t:=40) tc rfl T [.ls 5 (dN r.1) false,(0:Int)] (dI []) (.sc (.slice none 0 0)) (hyT T) rfl (λr hr=>(jR _).1 r hr) (by omega) (by simp[dI]) (by omega);have z1:=q3 hp.length _ hTx (λk n e=>by cases e);have z2:=q3 h.length _ hTm (λk n e=>by cases e);have zk:∀j b,h[j]?=some b->h3[j]?=some b:=λj b hj=>by
       have jU:=(Za.1 hj).1;exact q3 j b (Z4 j b (by omega) (by omega) (eK j b hj)) (λk n e=>by cases e)
      have Ag:qO<h3.length:=(Za.1 q2).1;have Lt:=gA z1
      rw[hTl,dF]at q1;have hcs:(dI []++[[AV.ls 5 (dN r.1) false,.sc (.int .i64 0)]]).flatten=([]++(r,(0:Int)):: []).flatMap dR:=by
       rw[List.flatten_append,fS,Xh];rfl
      rw[hcs]at q2;have iA:=uU [] r 0 n [];have lN:=wc [] r 0 [] [];have fq:=gS ([]++(r,(0:Int)):: []);rw[Yp]at lN;generalize([]++(r,(0:Int)):: []).flatMap dR=cs3 at q2 iA lN fq;have q2':=gA q2
      simp only[Zu,Yw,Xa,Xb,Nat.zero_mul]at fq lN iA q1;rw[x_]at q1;have pX:1+1<=cs3.length:=by omega
      have Ui:=gA lN
      simp[cU,g3,g11,g12,g13,g4,hi,hq,du,KQ,FT,fk,fc,hM,dJ,s6,C9,Z3,q1,q2,z1,lN,pX,fn,hf];clear hf fn fk fc FV FW;refine⟨by omega,by simp[cU],by simp[g3],by simp[g11],by simp[g12],by simp[cU],by simp;omega,λj b hj=>?_,⟨ck+1,?_⟩,.sl qO 2 0 1 false,by simp[cU],?_,λk n e=>by simp only[AV.sl.injEq]at e;omega⟩
      .have jU:=(Za.1 hj).1;rw[Zq (by omega)];exact zk j b hj
      .rw[Zq (by omega),z2,dD];rw[Il];simp
      .rw[dD];exact .inr ⟨by simp[dI],qO,by simp[dI],by rw[Zj Ag,fS,iA]⟩
     .have YH:S≠ []:=λe=>KR (by rw[e];rfl)
      have jD:=Et id _ rfl;have BS:id<hp.length:=(Za.1 dC).1;rw[dF]at g4;obtain⟨T,x_⟩:∃T:Hp,T=(hp++[fp.row [.ls 5 (dN r.1) false,n]]).set h.length (.map (es++[(.string (keyOf r),.sc (.int .i64 (S.length:Nat)))]) (ck+1)):=⟨_,rfl⟩;have hTl:T.length=hp.length+1:=by rw[x_];simp
      have hTm:T[h.length]?=some (.map (es++[(.string (keyOf r),.sc (.int .i64 (S.length:Nat)))]) (ck+1)):=by rw[x_];exact Zj (by simp;omega)
      have hTx:T[hp.length]?=some (.row [.ls 5 (dN r.1) false,n]):=by rw[x_];exact hT _ _
      have Z4:∀j b,j<hp.length->j≠h.length->hp[j]?=some b->T[j]?=some b:=λj b h1 h2 h3=>by rw[x_,Zq (λe=>h2 e.symm),Zd h1];exact h3
      have hyT:kP T 2 (dI S) (.sl id 2 0 S.length false):= .inr ⟨KR,id,by rw[dF],Z4 id _ BS (by omega) dC⟩;obtain⟨qO,h3,q1,q2,q3,q4⟩:=gm (t:=40) tc rfl T [.ls 5 (dN r.1) false,(0:Int)] (dI S) (.sl id 2 0 S.length false) hyT rfl (λr hr=>(jR _).1 r hr) (by omega) (by rw[dF];omega) (by omega);have z1:=q3 hp.length _ hTx (λk n e=>by simp only[AV.sl.injEq]at e;omega);have z2:=q3 h.length _ hTm (λk n e=>by simp only[AV.sl.injEq]at e;omega);have zk:∀j b,h[j]?=some b->h3[j]?=some b:=λj b hj=>by
       have jU:=(Za.1 hj).1;exact q3 j b (Z4 j b (by omega) (by omega) (eK j b hj)) (λk n e=>by simp only[AV.sl.injEq]at e;omega)
      have Ag:qO<h3.length:=(Za.1 q2).1;have Lt:=gA z1
      rw[hTl,dF]at q1;have hcs:(dI S++[[AV.ls 5 (dN r.1) false,.sc (.int .i64 0)]]).flatten=(S++(r,(0:Int)):: []).flatMap dR:=by
       rw[List.flatten_append,fS,Xh];rfl
      rw[hcs]at q2;have iA:=uU S r 0 n [];have lN:=wc S r 0 [] [];have fq:=gS (S++(r,(0:Int)):: []);rw[Yp]at lN;generalize(S++(r,(0:Int)):: []).flatMap dR=cs3 at q2 iA lN fq;have q2':=gA q2
      simp only[Zu,Yw,Xa,Xb]at fq lN iA q1;rw[x_]at q1;have pX:S.length*2+1+1<=cs3.length:=by omega
      have Ui:=gA lN
      simp[cU,g3,g11,g12,g13,g4,hi,hq,du,KQ,FT,fk,fc,hM,dJ,s6,C9,Z3,q1,q2,z1,lN,pX,fn,hf];clear hf fn fk fc FV FW;refine⟨by omega,by simp[cU],by simp[g3],by simp[g11],by simp[g12],by simp[cU],by simp;omega,λj b hj=>?_,⟨ck+1,?_⟩,.sl qO 2 0 (S.length+1) false,by simp[cU],?_,λk n e=>by simp only[AV.sl.injEq]at e;omega⟩
      .have jU:=(Za.1 hj).1;rw[Zq (by omega)];exact zk j b hj
      .rw[Zq (by omega),z2,dD];rw[Il];simp
      .rw[dD];exact .inr ⟨by simp[dI],qO,by simp[dI],by rw[Zj Ag,fS,iA]⟩
   .have gG:i=Z.length:=Yc kY (Yb hi);subst gG;simp[cU,g12,g13];exact⟨kY,by simp[cU],by simp[g3],by simp[g11],by simp[g12],by simp[g13],Dc,eK,⟨ck,hm⟩,y,by simp[g4],hy,Et⟩
  .rintro o fr hp hn ⟨rfl,q⟩;obtain⟨_,cU,g3,g11,g12,g13,Dc,eK,_,y,g4,hy,Et⟩:=q;simp only at cU g3 g11 g12 g13 g4 Dc eK hy;rw[Yz]at hy;have Du:=pk (D:=D) Z hB.row;have AF:(mJ gR Z).length<=1000000:=Yn (nT Z) hB.len;have qE:=norm_eq (add:=gR) mK Z;generalize mJ gR Z=S at hy Du AF qE;rcases hy with⟨Af,rfl⟩|⟨KR,id,rfl,dC⟩
   .have Z2:S=[]:=by cases S with
     |nil=>rfl
     |cons _ _=>simp[dI]at Af
    subst Z2;have x9:[]=dP Z:=qE [] (.refl _) .nil;have fs:=λb h=>Ql b (.sc (.slice none 0 0)) h (.inl rfl)
    simp[cU,g4,fdn,fs];exact gz ⟨eK,.inl ⟨x9.symm,.inl rfl⟩⟩
   .have YH:S≠ []:=λe=>KR (by rw[e];rfl)
    have jD:=Et id _ rfl;rw[dF]at g4;rw[fS]at dC;obtain⟨r0,h1,e1,k1,o1⟩:=Z0 S id hp YH AF dC true;have r_:∀(j:Nat) (b:fp),h[j]?=some b->h1[j]?=some b:=λj b hj=>by
     have jU:=(Za.1 hj).1;exact k1 j b (by omega) (eK j b hj)
    rcases o1 with⟨hF,z,rfl⟩|⟨hF,rfl,rest,AG⟩
    .have x9:[]=dP Z:=qE [] (by rw[show(S.filter λx=>x.2 !=0)=[]from hF]) .nil;have fs:=λb h=>Ql b (.ls 2 [] z) h (.inr ⟨z,rfl⟩)
     simp[cU,g4,e1,fs];exact gz ⟨r_,.inl ⟨x9.symm,.inr ⟨z,rfl⟩⟩⟩
    .obtain⟨r,p1,p2,e2⟩:=Z1 (yB S) id rest h1 (λq hq=>Du q ((List.mem_filter.1 hq).1)) (Yn (Xo _ _) AF) AG true;have x9:r=dP Z:=qE r p1 p2;have nC:=p1.length_eq;have Ol:r≠ []:=λe=>hF (by rw[e]at p1;exact List.perm_nil.1 p1.symm)
     have Ij:id<h1.length:=(Za.1 AG).1;simp[cU,g4,e1,e2];rw[<-x9];refine⟨_,_,⟨rfl,rfl⟩,λj b hj=>?_,.inr ⟨Ol,id,rest,by omega,by rw[nC],by rw[Zj Ij]⟩⟩;have jU:=(Za.1 hj).1;rw[Zq (by omega)];exact r_ j b hj
 .skip
  obtain⟨cz,hcz⟩:∃cz,cz=Z.flatMap dR++xr:=⟨_,rfl⟩;rw[<-hcz]at agf;have hczl:Z.length*2<=cz.length:=by rw[hcz,Zu,gS];omega
  have ajN:∀i p,Z[i]?=some p->(cz.drop (i*2)).take 2=dR p:=λi p hp=>by rw[hcz];exact FR hp xr
  clear hcz;simp[f111];refine eC (C:=cx) (G:=λr=>∃r0 h',eQ _ (eR _ _ (dL _ r) _)=some (r0,h')/\NR h h' (dP Z) r0)
   (λi s=>Er h Z (.sl xid 2 0 Z.length false) i s) (λo s=>o= .exit 0/\Er h Z (.sl xid 2 0 Z.length false) Z.length s) Z.length (by have:=hB.len;simp;omega) ?_ ?_ ?_
  .refine⟨by omega,rfl,rfl,rfl,rfl,rfl,by simp,λj b hj=>by rw[Zd (Za.1 hj).1];exact hj,⟨0,by simp[mJ,kN]⟩,_,rfl,.inl ⟨by simp[mJ,dI],rfl⟩,λk n e=>by cases e⟩
  .rintro i fr hp eG ⟨kY,cU,g3,g11,g12,g13,Dc,eK,⟨ck,hm⟩,y,g4,hy,Et⟩;simp only at cU g3 g11 g12 g13 g4 Dc eK hm hy;by_cases hi:i<Z.length
   .obtain⟨p,hx⟩:=eA hi;have Ik:=hB.row p (Zi hx);have YF:=hB.num p (Zi hx);have dD:=Ep hx;have Du:=pk (D:=D) (Z.take i) λq hq=>hB.row q (Xl hq)
    have AF:(mJ gR (Z.take i)).length<=1000000:=by have h1:=nT (Z.take i);have h2:=hB.len;rw[Yy]at h1;omega
    have fk:=FV p.1 Ik;have fc:=FW p.1 Ik;have Om:=eK xid _ agf;have hz0':=gA Om
    have hr:=ajN i p hx;have hc9:i*2+2<=cz.length:=by omega
    unfold dR at hr;obtain⟨r,n⟩:=p;simp only at Ik YF dD fk fc hr;generalize mJ gR (Z.take i)=S at hm hy dD Du AF;have dJ:=BL S 0;have hM:∀y:fp,(hp++[y])[h.length]?=some (.map (kN S 0) ck):=λy=>by rw[Zd Dc];exact hm
    have hM':∀(y:fp) k,(hp++[y])[h.length]'k= .map (kN S 0) ck:=λy k=>by obtain⟨_,e⟩:=Za.1 (hM y);exact e
    have hT:∀(e w:fp),((hp++[e]).set h.length w)[hp.length]?=some e:=λe w=>by rw[Zq (by omega)];simp
    have Z3:∀(e w:fp) k,((hp++[e]).set h.length w)[hp.length]'k=e:=λe w k=>by obtain⟨_,e⟩:=Za.1 (hT e w);exact e
    have hf:=di (i:=i) (by have:=hB.len;omega);by_cases ny:r∈S.map (·.1)
    .obtain⟨a,m,t,eS,po⟩:=BN S ny;have s6:=BP (t:=t) (m:=m) Ik (λq hq=>Du q (by rw[eS];simp[hq])) po;rw[<-eS]at s6;rw[eS,BJ a m t r n po]at dD;have Il:kN (a++(r,gR m n)::t) 0=kN S 0:=by rw[eS];exact yA _ _ 0 (by simp)
     have haS:a.length<S.length:=by rw[eS];simp
     rcases hy with⟨Af,rfl⟩|⟨KR,id,rfl,dC⟩
     .rw[dI]at Af;rw[eS]at Af;simp at Af
     .have jD:=Et id _ rfl;have BS:id<hp.length:=(Za.1 dC).1;rw[dF]at g4;rw[fS]at dC;have iA:=uU a r m (gR m n) t;have lN:=wc a r m t [];rw[Yp,<-eS]at lN;rw[<-eS]at iA;have fq:=gS S;have hSz:S.length=(a++(r,gR m n)::t).length:=by rw[eS];simp
      generalize S.flatMap dR=cs2 at dC iA lN fq;have hA:∀y:fp,(hp++[y])[id]?=some (.row cs2):=λy=>by rw[Zd BS];exact dC
      have Og:∀(y:fp) k,(hp++[y])[id]'k= .row cs2:=λy k=>by obtain⟨_,e⟩:=Za.1 (hA y);exact e
      have Ui:=gA lN
      have pX:a.length*2+1+1<=cs2.length:=by clear hf;omega
      generalize kN S 0=es at hm dJ hM hM' s6 Il;unfold gR at iA;simp[cU,g3,g11,g12,g13,g4,hi,Om,hr,hc9,KQ,fk,hM,dJ,s6,hA,lN,pX,haS,hf];clear hf fk fc FV FW;refine⟨by omega,by simp[cU],by simp[g3],by simp[g11],by simp[g12],by simp[cU],by simp;omega,λj b hj=>?_,⟨ck,?_⟩,.sl id 2 0 S.length false,by simp[g4],?_,λk n e=>by simp only[AV.sl.injEq]at e;omega⟩
      .have jU:=(Za.1 hj).1;rw[Zq (by omega),Zd (by omega)];exact eK j b hj
      .rw[Zq (by omega),hM,dD,Il]
      .rw[dD];refine .inr ⟨by simp[dI],id,by rw[dF,hSz],?_⟩;rw[Zj (by simp;omega),fS,iA];rfl
    .have s6:=BO Ik Du ny;have C9:=sC Ik S 0 0 Du ny;rw[BI S r n ny]at dD;have Il:=yz S (r,n) 0;generalize kN S 0=es at hm dJ hM hM' s6 C9 Il;have fn:dM .i64 n=n:=dh YF.1 YF.2;rcases hy with⟨Af,rfl⟩|⟨KR,id,rfl,dC⟩
     .have Z2:S=[]:=by cases S with
       |nil=>rfl
       |cons _ _=>simp[dI]at Af
      subst Z2;have hyT:∀T:Hp,kP T 2 (dI []) (.sc (.slice none 0 0)):=λT=> .inl ⟨rfl,rfl⟩
      obtain⟨T,x_⟩:∃T:Hp,T=(hp++[fp.row [.ls 5 (dN r.1) false,n]]).set h.length (.map (es++[(.string (keyOf r),.sc (.int .i64 0))]) (ck+1)):=⟨_,rfl⟩;have hTl:T.length=hp.length+1:=by rw[x_];simp
      have hTm:T[h.length]?=some (.map (es++[(.string (keyOf r),.sc (.int .i64 0))]) (ck+1)):=by rw[x_];exact Zj (by simp;omega)
      have hTx:T[hp.length]?=some (.row [.ls 5 (dN r.1) false,n]):=by rw[x_];exact hT _ _
      have Z4:∀j b,j<hp.length->j≠h.length->hp[j]?=some b->T[j]?=some b:=λj b h1 h2 h3=>by rw[x_,Zq (λe=>h2 e.symm),Zd h1];exact h3
      obtain⟨qO,h3,q1,q2,q3,q4⟩:=gm (t:=40) tc rfl T [.ls 5 (dN r.1) false,(0:Int)] (dI []) (.sc (.slice none 0 0)) (hyT T) rfl (λr hr=>(jR _).1 r hr) (by omega) (by simp[dI]) (by omega);have z1:=q3 hp.length _ hTx (λk n e=>by cases e);have z2:=q3 h.length _ hTm (λk n e=>by cases e);have zk:∀j b,h[j]?=some b->h3[j]?=some b:=λj b hj=>by
       have jU:=(Za.1 hj).1;exact q3 j b (Z4 j b (by omega) (by omega) (eK j b hj)) (λk n e=>by cases e)
      have Ag:qO<h3.length:=(Za.1 q2).1;have Lt:=gA z1
      rw[hTl,dF]at q1;have hcs:(dI []++[[AV.ls 5 (dN r.1) false,.sc (.int .i64 0)]]).flatten=([]++(r,(0:Int)):: []).flatMap dR:=by
       rw[List.flatten_append,fS,Xh];rfl
      rw[hcs]at q2;have iA:=uU [] r 0 n [];have lN:=wc [] r 0 [] [];have fq:=gS ([]++(r,(0:Int)):: []);rw[Yp]at lN;generalize([]++(r,(0:Int)):: []).flatMap dR=cs3 at q2 iA lN fq;have q2':=gA q2
      simp only[Zu,Yw,Xa,Xb,Nat.zero_mul]at fq lN iA q1;rw[x_]at q1;have pX:1+1<=cs3.length:=by omega
      have Ui:=gA lN
      simp[cU,g3,g11,g12,g13,g4,hi,Om,hr,hc9,KQ,FT,fk,fc,hM,dJ,s6,C9,Z3,q1,q2,z1,lN,pX,fn,hf];clear hf fn fk fc FV FW;refine⟨by omega,by simp[cU],by simp[g3],by simp[g11],by simp[g12],by simp[cU],by simp;omega,λj b hj=>?_,⟨ck+1,?_⟩,.sl qO 2 0 1 false,by simp[cU],?_,λk n e=>by simp only[AV.sl.injEq]at e;omega⟩
      .have jU:=(Za.1 hj).1;rw[Zq (by omega)];exact zk j b hj
      .rw[Zq (by omega),z2,dD];rw[Il];simp
      .rw[dD];exact .inr ⟨by simp[dI],qO,by simp[dI],by rw[Zj Ag,fS,iA]⟩
     .have YH:S≠ []:=λe=>KR (by rw[e];rfl)
      have jD:=Et id _ rfl;have BS:id<hp.length:=(Za.1 dC).1;rw[dF]at g4;obtain⟨T,x_⟩:∃T:Hp,T=(hp++[fp.row [.ls 5 (dN r.1) false,n]]).set h.length (.map (es++[(.string (keyOf r),.sc (.int .i64 (S.length:Nat)))]) (ck+1)):=⟨_,rfl⟩;have hTl:T.length=hp.length+1:=by rw[x_];simp
      have hTm:T[h.length]?=some (.map (es++[(.string (keyOf r),.sc (.int .i64 (S.length:Nat)))]) (ck+1)):=by rw[x_];exact Zj (by simp;omega)
      have hTx:T[hp.length]?=some (.row [.ls 5 (dN r.1) false,n]):=by rw[x_];exact hT _ _
      have Z4:∀j b,j<hp.length->j≠h.length->hp[j]?=some b->T[j]?=some b:=λj b h1 h2 h3=>by rw[x_,Zq (λe=>h2 e.symm),Zd h1];exact h3
      have hyT:kP T 2 (dI S) (.sl id 2 0 S.length false):= .inr ⟨KR,id,by rw[dF],Z4 id _ BS (by omega) dC⟩;obtain⟨qO,h3,q1,q2,q3,q4⟩:=gm (t:=40) tc rfl T [.ls 5 (dN r.1) false,(0:Int)] (dI S) (.sl id 2 0 S.length false) hyT rfl (λr hr=>(jR _).1 r hr) (by omega) (by rw[dF];omega) (by omega);have z1:=q3 hp.length _ hTx (λk n e=>by simp only[AV.sl.injEq]at e;omega);have z2:=q3 h.length _ hTm (λk n e=>by simp only[AV.sl.injEq]at e;omega);have zk:∀j b,h[j]?=some b->h3[j]?=some b:=λj b hj=>by
       have jU:=(Za.1 hj).1;exact q3 j b (Z4 j b (by omega) (by omega) (eK j b hj)) (λk n e=>by simp only[AV.sl.injEq]at e;omega)
      have Ag:qO<h3.length:=(Za.1 q2).1;have Lt:=gA z1
      rw[hTl,dF]at q1;have hcs:(dI S++[[AV.ls 5 (dN r.1) false,.sc (.int .i64 0)]]).flatten=(S++(r,(0:Int)):: []).flatMap dR:=by
       rw[List.flatten_append,fS,Xh];rfl
      rw[hcs]at q2;have iA:=uU S r 0 n [];have lN:=wc S r 0 [] [];have fq:=gS (S++(r,(0:Int)):: []);rw[Yp]at lN;generalize(S++(r,(0:Int)):: []).flatMap dR=cs3 at q2 iA lN fq;have q2':=gA q2
      simp only[Zu,Yw,Xa,Xb]at fq lN iA q1;rw[x_]at q1;have pX:S.length*2+1+1<=cs3.length:=by omega
      have Ui:=gA lN
      simp[cU,g3,g11,g12,g13,g4,hi,Om,hr,hc9,KQ,FT,fk,fc,hM,dJ,s6,C9,Z3,q1,q2,z1,lN,pX,fn,hf];clear hf fn fk fc FV FW;refine⟨by omega,by simp[cU],by simp[g3],by simp[g11],by simp[g12],by simp[cU],by simp;omega,λj b hj=>?_,⟨ck+1,?_⟩,.sl qO 2 0 (S.length+1) false,by simp[cU],?_,λk n e=>by simp only[AV.sl.injEq]at e;omega⟩
      .have jU:=(Za.1 hj).1;rw[Zq (by omega)];exact zk j b hj
      .rw[Zq (by omega),z2,dD];rw[Il];simp
      .rw[dD];exact .inr ⟨by simp[dI],qO,by simp[dI],by rw[Zj Ag,fS,iA]⟩
   .have gG:i=Z.length:=Yc kY (Yb hi);subst gG;simp[cU,g12,g13];exact⟨kY,by simp[cU],by simp[g3],by simp[g11],by simp[g12],by simp[g13],Dc,eK,⟨ck,hm⟩,y,by simp[g4],hy,Et⟩
  .rintro o fr hp hn ⟨rfl,q⟩;obtain⟨_,cU,g3,g11,g12,g13,Dc,eK,_,y,g4,hy,Et⟩:=q;simp only at cU g3 g11 g12 g13 g4 Dc eK hy;rw[Yz]at hy;have Du:=pk (D:=D) Z hB.row;have AF:(mJ gR Z).length<=1000000:=Yn (nT Z) hB.len;have qE:=norm_eq (add:=gR) mK Z;generalize mJ gR Z=S at hy Du AF qE;rcases hy with⟨Af,rfl⟩|⟨KR,id,rfl,dC⟩
   .have Z2:S=[]:=by cases S with
     |nil=>rfl
     |cons _ _=>simp[dI]at Af
    subst Z2;have x9:[]=dP Z:=qE [] (.refl _) .nil;have fs:=λb h=>Ql b (.sc (.slice none 0 0)) h (.inl rfl)
    simp[cU,g4,fdn,fs];exact gz ⟨eK,.inl ⟨x9.symm,.inl rfl⟩⟩
   .have YH:S≠ []:=λe=>KR (by rw[e];rfl)
    have jD:=Et id _ rfl;rw[dF]at g4;rw[fS]at dC;obtain⟨r0,h1,e1,k1,o1⟩:=Z0 S id hp YH AF dC true;have r_:∀(j:Nat) (b:fp),h[j]?=some b->h1[j]?=some b:=λj b hj=>by
     have jU:=(Za.1 hj).1;exact k1 j b (by omega) (eK j b hj)
    rcases o1 with⟨hF,z,rfl⟩|⟨hF,rfl,rest,AG⟩
    .have x9:[]=dP Z:=qE [] (by rw[show(S.filter λx=>x.2 !=0)=[]from hF]) .nil;have fs:=λb h=>Ql b (.ls 2 [] z) h (.inr ⟨z,rfl⟩)
     simp[cU,g4,e1,fs];exact gz ⟨r_,.inl ⟨x9.symm,.inr ⟨z,rfl⟩⟩⟩
    .obtain⟨r,p1,p2,e2⟩:=Z1 (yB S) id rest h1 (λq hq=>Du q ((List.mem_filter.1 hq).1)) (Yn (Xo _ _) AF) AG true;have x9:r=dP Z:=qE r p1 p2;have nC:=p1.length_eq;have Ol:r≠ []:=λe=>hF (by rw[e]at p1;exact List.perm_nil.1 p1.symm)
     have Ij:id<h1.length:=(Za.1 AG).1;simp[cU,g4,e1,e2];rw[<-x9];refine⟨_,_,⟨rfl,rfl⟩,λj b hj=>?_,.inr ⟨Ol,id,rest,by omega,by rw[nC],by rw[Zj Ij]⟩⟩;have jU:=(Za.1 hj).1;rw[Zq (by omega)];exact r_ j b hj
end
section
attribute [local simp] zi da XM
@[simp] def afY (c:iP)(h:0< (lM c).length):(lM c)[0]'h= .sc (.string c.key):=rfl
attribute [local simp] rq
def Z5 (l:List iP)(x:ByteArray)(v:V):[iE l false,.sc (.string x),.ag (enc v)].all d_=true:=by
 have:d_ (.ag (enc v))=true:=ki v;rw[Zn,Zn,Zn,this];rfl
def iY (l:List iP)(x:ByteArray)(v:V):List iP:=P6 (Da x) (zq x) ⟨x,v⟩ (!mD v) l
def kH (l m:List iP):iy (l++m)=iy l++iy m:=by simp[iy]
def bn :Bool->Nat
 |true=>0
 |false=>1
def Im {α:Type}{lt eq:α->Bool}{n:α}{add:Bool}:∀(l:List α) (acc:List α) (d:Bool),((l.foldl (j8 lt eq n add) (acc,d)).1).length<=acc.length+l.length+bn d
 | [],acc,d=>by simp
 |
  x::l,acc,d=>by
  rw[Yl];have ih:=Im (lt:=lt) (eq:=eq) (n:=n) (add:=add) l (j8 lt eq n add (acc,d) x).1 (j8 lt eq n add (acc,d) x).2;refine Yn ih ?_;have h1:(if eq x=true then([]:List α)else[x]).length<=1:=by split<;>simp
  have h2:(if(!d && !lt x && add)=true then[n]else[]).length+bn (d|| !lt x)<=bn d:=by
   rcases Bool.eq_false_or_eq_true (lt x)with e|e<;>rw[e]<;>cases d<;>cases add<;>simp[bn]
  simp only[j8,Zu,Yw];omega
def FX {α:Type}(lt eq:α->Bool)(n:α)(add:Bool)(l:List α)(i:Nat):((om lt eq n add l i).1).length<=l.length+1:=by
 unfold om;have:=Im (lt:=lt) (eq:=eq) (n:=n) (add:=add) (l.take i) [] false;simp only[Xa,Xb,Yy,bn]at this;omega
def BU {h:Hp}{x x':AV}{v:Value}(e:dq h 7 x=some x'):dq h 8 (.tp [x,.sc v])=some (.tp [x',.sc v]):=by
 show(List.mapM (dq h 7) [x,.sc v]).map AV.tp=_;rw[Zo,e];rfl
def zu (N D:Nat)(b:Bool)(l:List iP)(x:ByteArray)(v:V)(h:Hp)(hl:l.length<=100000)(hd:fB v<=D)(hv:gV v):
 cW cx (N+3*D+8) b 155 [iE l false,.sc (.string x),.ag (enc v)] h=some (.tp [gF 6 (iy (iY l x v)),.sc (.bool (decide ((iY l x v).length<=16)))],h):=by
 suffices H:∃r,r=AV.tp [gF 6 (iy (iY l x v)),.sc (.bool (decide ((iY l x v).length<=16)))]/\∀b h,cW cx (N+3*D+8) b 155 [iE l false,.sc (.string x),.ag (enc v)] h=some (r,h) by
  obtain⟨r,rfl,hr⟩:=H;exact hr b h
 refine iQ (f:=155) (n:=N+3*D+7) (args:=[iE l false,.sc (.string x),.ag (enc v)]) (λr=>r= .tp [gF 6 (iy (iY l x v)),.sc (.bool (decide ((iY l x v).length<=16)))]) ⟨f155.ntmps,(f155.body).getD .skip,[.tmp 6,.tmp 7]⟩ (by kernel_rfl) (by kernel_rfl) rfl (by kernel_rfl) (by simp[f155]) (Z5 _ _ _) ?_;have hq:=dW l;have hg:=qo l;have aa:=λb h=>H4 N D b v h hd hv
 have eG:=FX (Da x) (zq x) ⟨x,v⟩ (!mD v) l;unfold iY P6;unfold iE;generalize mD v=YI at aa eG|-;generalize hP:om (Da x) (zq x) ⟨x,v⟩ (!YI) l=P at eG|-;generalize iy l=cY at hq hg;generalize N+3*D+7=M at aa;have h0:P 0=([],false):=by rw[<-hP];rfl
 have eZ:∀{i:Nat} {c:iP},l[i]?=some c->P (i+1)=j8 (Da x) (zq x) ⟨x,v⟩ (!YI) (P i) c:=λhc=>by rw[<-hP];exact rm _ _ hc
 clear hP;simp[f155];refine eC (C:=cx) (G:=λr=>∃r0 h',eQ _ (eR _ _ (dL _ r) _)=some (r0,h')/\dq h' 8 r0=some (.tp [gF 6 (iy (v_ ⟨x,v⟩ (!YI) (P l.length))),.sc (.bool (decide ((v_ ⟨x,v⟩ (!YI) (P l.length)).length<=16)))]))
  (λi s=>s.1.length=68/\gt s.1 0= .ls 6 cY false/\gt s.1 1= .sc (.string x)/\gt s.1 5= .pt 0 0/\gt s.1 9= .sc (.bool (P i).2)/\gt s.1 10=i/\s.2[0]?=some (.row (enc v))/\∃y,gt s.1 8=y/\kP s.2 6 (iy (P i).1) y)
  (λo s=>o= .exit 0/\s.1.length=68/\gt s.1 1= .sc (.string x)/\gt s.1 5= .pt 0 0/\gt s.1 9= .sc (.bool (P l.length).2)/\s.2[0]?=some (.row (enc v))/\∃y,gt s.1 8=y/\kP s.2 6 (iy (P l.length).1) y) l.length (by simp;omega) (by simp[h0,iy,kP]) ?_ ?_
 .rintro i fr h n_ ⟨cU,e0,e1,e5,e9,ya,wG,y,e8,hy⟩;simp only at cU e0 e1 e5 e9 ya wG e8 hy;by_cases hi:i<l.length
  .obtain⟨c,hc⟩:=eA hi;have hr:cY[i]?=some (lM c):=by rw[hg,hc];rfl
   have du:=gA hr
   have hf:=di (i:=i) (by omega);have dD:=eZ hc;have Ah:=eG i;generalize P i=P0 at dD Ah e9 hy;obtain⟨p0,d0⟩:=P0;simp only at e9 hy Ah;have agh:∀k n,y= .sl k 6 0 n false->(0:Nat)≠k:=λk n ek e=>by
    subst e;rcases hy with⟨_,hy⟩|⟨eW,id,hy,dC⟩
    .rw[ek]at hy;cases hy
    .rw[ek]at hy;simp only[AV.sl.injEq]at hy;obtain⟨rfl,_⟩:=hy;rw[wG]at dC;simp only[Zc,fp.row.injEq]at dC;have h1:=congrArg List.length dC;rw[i7,dH (iy p0) (jr p0).1]at h1;cases p0 with
     |nil=>exact absurd rfl eW
     |cons a p0=>simp[iy]at h1;omega
   have dJ:=jr p0;have q0:=oG (λv=>hy.np v)
   have keep:∀(mQ:List iP) (y1:AV) (h1:Hp),kP h1 6 (iy mQ) y1->mQ.length<=200002->h1[0]?=some (.row (enc v))->(∀k n,y1= .sl k 6 0 n false->(0:Nat)≠k)->
    ∃id h2,eE cx (h1++[.row (lM c)]) 89 y1 (.sl h1.length 6 0 1 false)=some (.sl id 6 0 (mQ.length+1) false,h2)/\kP h2 6 (iy (mQ++[c])) (.sl id 6 0 (mQ.length+1) false)/\h2[0]?=some (.row (enc v)):=by
    intro mQ y1 h1 hb hn hz hk;obtain⟨id,h2,a1,a2,a3⟩:=xg (t:=89) sf rfl h1 (lM c) (iy mQ) y1 hb (by simp) (jr mQ).1 (by omega) (by rw[dW];omega) (by omega);rw[dW]at a1;refine⟨id,h2,a1,?_,a3 0 _ hz (λk n e=>hk k n e)⟩;rw[kH];have:=pf (cY:=iy mQ) (c:=lM c) (sz:=6) a2
    rwa [dW]at this
   have ajO:∃id h2,eE cx (h++[.row (.sc (.string x)::enc v)]) 89 y (.sl h.length 6 0 1 false)=some (.sl id 6 0 (p0.length+1) false,h2)/\kP h2 6 (iy (p0++[⟨x,v⟩])) (.sl id 6 0 (p0.length+1) false)/\h2[0]?=some (.row (enc v))/\(0:Nat)≠id:=by
    obtain⟨id,h2,a1,a2,a3⟩:=xg (t:=89) sf rfl h (lM ⟨x,v⟩) (iy p0) y hy (by simp) dJ.1 (by omega) (by rw[dW];omega) (by omega);rw[dW]at a1;have NU:=a3 0 _ wG (λk n e=>agh k n e);refine⟨id,h2,a1,?_,NU,λe=>?_⟩
    .rw[kH];have:=pf (cY:=iy p0) (c:=lM ⟨x,v⟩) (sz:=6) a2
     rwa [dW]at this
    .subst e;rw[NU]at a2;simp only[Zc,fp.row.injEq]at a2;have h1:=congrArg List.length a2;rw[i7,List.flatten_append,Zu]at h1;simp at h1<;>omega
   obtain⟨id2,h2,k1,k2,k3⟩:=keep p0 y h hy (by omega) wG agh;obtain⟨id3,h3,n1,n2,n3,n4⟩:=ajO;obtain⟨id4,h4,m1,m2,m3⟩:=keep (p0++[⟨x,v⟩]) _ h3 n2 (by simp;omega) n3 (λk n e=>by simp only[AV.sl.injEq]at e;rw[<-e.1];exact n4);simp only[Zu,Xf]at m1 m2;cases d0
   .cases dY:nZ c.key x
    .cases YI
     .cases heq:kr c.key x
      .simp[cU,e0,e1,e5,e8,e9,ya,q0,dD,wG,hi,hq,du,hf,aa,dY,heq,n1,m1,j8,Da,zq,m3];simpa using m2
      .simp[cU,e0,e1,e5,e8,e9,ya,q0,dD,wG,hi,hq,du,hf,aa,dY,heq,n1,n3,j8,Da,zq];exact n2
     .cases heq:kr c.key x
      .simp[cU,e0,e1,e5,e8,e9,ya,q0,dD,wG,hi,hq,du,hf,aa,dY,heq,k1,k3,j8,Da,zq];exact k2
      .simp[cU,e0,e1,e5,e8,e9,ya,dD,wG,hi,hq,du,hf,aa,dY,heq,j8,Da,zq];exact hy
    .cases heq:kr c.key x
     .simp[cU,e0,e1,e5,e8,e9,ya,q0,dD,hi,hq,du,hf,dY,heq,k1,k3,j8,Da,zq];exact k2
     .simp[cU,e0,e1,e5,e8,e9,ya,dD,wG,hi,hq,du,hf,dY,heq,j8,Da,zq];exact hy
   .cases heq:kr c.key x
    .simp[cU,e0,e1,e5,e8,e9,ya,q0,dD,hi,hq,du,hf,heq,k1,k3,j8,Da,zq];exact k2
    .simp[cU,e0,e1,e5,e8,e9,ya,dD,wG,hi,hq,du,hf,heq,j8,Da,zq];exact hy
  .have gG:i=l.length:=by omega
   subst gG;simp[cU,e0,e1,e5,e8,e9,ya,wG,hq];exact hy
 .rintro o fr h hn ⟨rfl,cU,e1,e5,e9,wG,y,e8,hy⟩;simp only at cU e1 e5 e9 wG e8 hy;have Ah:=eG l.length;generalize P l.length=P0 at Ah e9 hy;obtain⟨p0,d0⟩:=P0;simp only at e9 hy Ah;have lH:∀(ps:List iP) (h1:Hp) (y1:AV),kP h1 6 (iy ps) y1->dq h1 7 y1=some (gF 6 (iy ps)):=λps h1 y1 hb=>ij (by omega) (jr ps).1 (jr ps).2 hb
  have q0:=oG (λv=>hy.np v)
  have nP:∀e:p0.length=p0.length,(iy p0).length=p0.length:=λ_=>dW p0
  by_cases px:d0=false/\YI=false
  .obtain⟨rfl,rfl⟩:=px;obtain⟨id,h2,a1,a2,a3⟩:=xg (t:=89) sf rfl h (lM ⟨x,v⟩) (iy p0) y hy (by simp) (jr p0).1 (by omega) (by rw[dW];omega) (by omega);rw[dW]at a1;have a4:dq h2 7 (.sl id 6 0 (p0.length+1) false)=some (gF 6 (iy (p0++[⟨x,v⟩]))):=lH _ _ _ (by
    rw[kH];have:=pf (cY:=iy p0) (c:=lM ⟨x,v⟩) (sz:=6) a2
    rwa [dW]at this)
   have a1':eE cx (h++[.row (.sc (.string x)::enc v)]) 89 y (.sl h.length 6 0 1 false)=some (.sl id 6 0 (p0.length+1) false,h2):=a1;simp[cU,e1,e5,e8,e9,q0,wG,aa,a1',v_];exact⟨_,_,⟨rfl,rfl⟩,by rw[BU a4]<;>simp only[Zc,AV.tp.injEq,List.cons.injEq,AV.sc.injEq,Value.bool.injEq,decide_eq_decide,true_and,and_true]<;>omega⟩
  .have hz:v_ ⟨x,v⟩ (!YI) (p0,d0)=p0:=by
    unfold v_;cases d0<;>cases YI<;>simp_all
   rw[hz];have a4:=lH _ _ _ hy;rcases hy with⟨hp,rfl⟩|⟨eW,id,rfl,dC⟩
   .have LH:p0=[]:=Zl (by rw[<-dW,hp];rfl);subst LH;cases d0<;>cases YI<;>simp at px<;>(simp[cU,e5,e8,e9,wG,aa];exact⟨_,_,⟨rfl,rfl⟩,by rw[BU a4]⟩)
   .rw[dW]at *;cases d0<;>cases YI<;>simp at px<;>(simp[cU,e5,e8,e9,wG,aa];exact⟨_,_,⟨rfl,rfl⟩,by rw[BU a4]<;>simp only[Zc,AV.tp.injEq,List.cons.injEq,AV.sc.injEq,Value.bool.injEq,decide_eq_decide,true_and,and_true]<;>omega⟩)
def On (l m:List ByteArray):gP (l++m)=gP l++gP m:=by simp[gP]
def Io {t:TypeId}{i:Ti}{sz bytes:Nat}{ag:Bool}{ez:List Value}(hT:cx.T t=some i)(hk:i.kd= .slice sz ag bytes ez)(h:Hp)(cY more:List LA)(z:Bool)(x:AV)(hx:kP h sz cY x)(hr:∀r∈cY,r.length=sz)(hm:∀r∈more,r.length=sz)(gC:0<sz)(hn:cY.length+more.length<=1000000000)(hb:bytes<=1000):
 ∃y h',eE cx h t x (.ls sz more z)=some (y,h')/\kP h' sz (cY++more) y:=by
 obtain⟨size,agg,zero,kd⟩:=i;simp only at hk;subst hk;have ace:cY.length+more.length<=maxLen:=by unfold maxLen;omega
 have yw:(cY.length+more.length)*bytes<=140737488355328:=by
  have:=Nat.mul_le_mul hn hb;omega
 unfold eE;rw[hT];cases more with
 |
  nil=>
  refine⟨x,h,?_,by simpa using hx⟩;rcases hx with⟨rfl,rfl⟩|⟨eW,id,rfl,dC⟩<;>simp[jL,gY]
 |
  cons r more=>
  rcases hx with⟨rfl,rfl⟩|⟨eW,id,rfl,dC⟩
  .refine⟨.sl h.length sz 0 (r::more).length false,h++[.row (r::more).flatten],?_,.inr ⟨by simp,h.length,by simp,by simp⟩⟩;simp only[jL,beq_self_eq_true,Bool.and_self,if_true,gY];rw[db (by simp),dd ⟨by simp at ace|-;omega,by simpa using yw⟩]
  .have sA:=dH cY hr;refine⟨.sl h.length sz 0 (cY.length+(r::more).length) false,h.set id .dead++[.row (cY.flatten++(r::more).flatten)],?_,.inr ⟨by simp,h.length,by simp,?_⟩⟩
   .have qC:0< (r::more).length*sz:=Nat.mul_pos (by simp) gC;simp only[jL,beq_self_eq_true,Bool.and_self,if_true,gY,dC];rw[db (by simp),db (by rw[Xw];omega),dd ⟨trivial,sA,ace,yw⟩]
   .rw[Zf (by simp)];simp
def Ip (n:Nat)(b:Bool)(l:List ByteArray)(x:ByteArray)(h:Hp)(hl:l.length<=100000):
 cW cx (n+1) b 158 [iK l false,.sc (.string x)] h=some (gF 1 (gP (l.filter λs=> !yv x s)),h):=by
 suffices H:∃r,r=gF 1 (gP (l.filter λs=> !yv x s))/\∀b h,cW cx (n+1) b 158 [iK l false,.sc (.string x)] h=some (r,h) by
  obtain⟨r,rfl,hr⟩:=H;exact hr b h
 refine iQ (f:=158) (n:=n) (args:=[iK l false,.sc (.string x)]) (λr=>r=gF 1 (gP (l.filter λs=> !yv x s))) ⟨f158.ntmps,(f158.body).getD .skip,[.tmp 4]⟩ (by kernel_rfl) (by kernel_rfl) rfl (by kernel_rfl) (by simp[f158]) rfl ?_;have hq:=dG l;have hg:=kF l;unfold iK;generalize gP l=cY at hq hg;generalize hP:(λi=>(l.take i).filter λs=> !yv x s)=P;have h0:P 0=[]:=by rw[<-hP];rfl
 have vu:P l.length=l.filter λs=> !yv x s:=by rw[<-hP];simp
 have eZ:∀{i:Nat} {c:ByteArray},l[i]?=some c->P (i+1)=P i++(if yv x c then[]else[c]):=λ{i c} hc=>by
  rw[<-hP];simp only[Yx,hc,Yo]
  congr 1
  cases hq:yv x c<;>simp[hq]
 have eG:∀i,(P i).length<=l.length:=λi=>by rw[<-hP];exact Yn (Xo _ _) (by simp;omega)
 rw[<-vu];clear hP vu;simp[f158];refine eC (C:=cx) (G:=λr=>∃r0 h',eQ _ (eR _ _ (dL _ r) _)=some (r0,h')/\dq h' 8 r0=some (gF 1 (gP (P l.length))))
  (λi s=>s.1.length=27/\gt s.1 0= .ls 1 cY false/\gt s.1 1= .sc (.string x)/\gt s.1 6= .sc (.int .i64 i)/\∃y,gt s.1 5=y/\kP s.2 1 (gP (P i)) y)
  (λo s=>o= .exit 0/\s.1.length=27/\∃y,gt s.1 5=y/\kP s.2 1 (gP (P l.length)) y) l.length (by simp;omega) (by simp[h0,gP,kP]) ?_ ?_
 .rintro i fr h n_ ⟨cU,e0,e1,e6,y,e5,hy⟩;simp only at cU e0 e1 e6 e5 hy;by_cases hi:i<l.length
  .obtain⟨c,hc⟩:=eA hi;have hr:cY[i]?=some [.sc (.string c)]:=by rw[hg,hc];rfl
   have du:=gA hr
   have hf:=di (i:=i) (by omega);have dD:=eZ hc;have Ah:=eG i;generalize P i=p0 at dD Ah hy;have q0:=oG (λv=>hy.np v)
   obtain⟨id,h2,a1,a2,a3⟩:=xg (t:=28) kV rfl h [.sc (.string c)] (gP p0) y hy rfl (jK p0).1 (by omega) (by rw[dG];omega) (by omega);have a4:=pf (cY:=gP p0) (c:=[.sc (.string c)]) (sz:=1) a2;rw[dG]at a1 a4;cases heq:kr c x
   .simp[cU,e0,e1,e5,e6,q0,dD,hi,hq,du,hf,heq,a1,yv,On];exact a4
   .simp[cU,e0,e1,e5,e6,dD,hi,hq,du,hf,heq,yv];exact hy
  .have gG:i=l.length:=by omega
   subst gG;simp[cU,e0,e5,e6,hq];exact hy
 .rintro o fr h hn ⟨rfl,cU,y,e5,hy⟩;simp only at cU e5 hy;have q0:=oG (λv=>hy.np v)
  have a4:dq h 8 y=some (gF 1 (gP (P l.length))):=ij (by omega) (jK _).1 (jK _).2 hy;simp[cU,e5,q0];exact gz a4
def LQ (n:Nat)(b:Bool)(l pre post:List ByteArray)(x:ByteArray)(h:Hp)(hl:l.length<=100000)(hs:iX (LG x) (yv x) l pre [] post):
 cW cx (n+1) b 157 [iK l false,.sc (.string x)] h=some (.ls 1 (gP (pre++[x]++post)) false,h):=by
 suffices H:∃r,r=AV.ls 1 (gP (pre++[x]++post)) false/\∀b h,cW cx (n+1) b 157 [iK l false,.sc (.string x)] h=some (r,h) by
  obtain⟨r,rfl,hr⟩:=H;exact hr b h
 refine iQ (f:=157) (n:=n) (args:=[iK l false,.sc (.string x)]) (λr=>r= .ls 1 (gP (pre++[x]++post)) false) ⟨f157.ntmps,(f157.body).getD .skip,[.tmp 4]⟩ (by kernel_rfl) (by kernel_rfl) rfl (by kernel_rfl) (by simp[f157]) rfl ?_;have hq:=dG l;have hg:=kF l;have hp:pre.length<=l.length:=by rw[hs.e];simp
 have pT:pre.length+post.length=l.length:=by rw[hs.e];simp
 have rR:(gP l).take pre.length=gP pre:=by unfold gP;rw[<-List.map_take,hs.take]
 have Dh:(gP l).drop pre.length=gP post:=by unfold gP;rw[<-List.map_drop,hs.drop];rfl
 unfold iK;generalize gP l=cY at hq hg rR Dh;simp[f157];refine eC (C:=cx) (G:=λr=>∃r0 h',eQ _ (eR _ _ (dL _ r) _)=some (r0,h')/\dq h' 8 r0=some (.ls 1 (gP (pre++x::post)) false))
  (λi s=>s.1.length=47/\gt s.1 0= .ls 1 cY false/\gt s.1 1= .sc (.string x)/\gt s.1 5=()/\gt s.1 6=i/\i<=pre.length)
  (λo s=>o= .exit 0/\s.1.length=47/\gt s.1 0= .ls 1 cY false/\gt s.1 1= .sc (.string x)/\gt s.1 5=()/\gt s.1 6=pre.length) pre.length (by simp;omega) (by simp) ?_ ?_
 .rintro i fr h n_ ⟨cU,e0,e1,e5,e6,hip⟩;simp only at cU e0 e1 e5 e6;by_cases hi:i<l.length
  .obtain⟨c,hc⟩:=eA hi;have hr:cY[i]?=some [.sc (.string c)]:=by rw[hg,hc];rfl
   have du:=gA hr
   have hf:=di (i:=i) (by omega);have dY:=hs.lt_iff hc;cases heq:nZ c x
   .have:i=pre.length:=by
     have h1:¬i<pre.length:=λq=>by have:=dY.2 q;unfold LG at this;rw[heq]at this;cases this
     omega
    subst this;simp[cU,e0,e1,e5,e6,hi,hq,du,heq]
   .have h1:i<pre.length:=dY.1 heq;simp[cU,e0,e1,e5,e6,hi,hq,du,hf,heq,h1];omega
  .have gG:i=pre.length:=by omega
   subst gG;simp[cU,e0,e1,e5,e6,hi,hq]
 .rintro o fr h hn ⟨rfl,cU,e0,e1,e5,e6⟩;simp only at cU e0 e1 e5 e6;obtain⟨y1,h1,a1,a2⟩:=Io (t:=28) kV rfl h [] (gP pre) false (.sc (.slice none 0 0)) (.inl ⟨rfl,rfl⟩) (by simp) (jK pre).1 (by omega) (by rw[dG];simp;omega) (by omega);rw[Zw]at a2;have q1:=oG (λv=>a2.np v)
  obtain⟨id,h2,b1,b2,b3⟩:=xg (t:=28) kV rfl h1 [.sc (.string x)] (gP pre) y1 a2 rfl (jK pre).1 (by omega) (by rw[dG];omega) (by omega);have b4:=pf (cY:=gP pre) (c:=[.sc (.string x)]) (sz:=1) b2;rw[dG]at b1 b4;have e7:gP pre++[[.sc (.string x)]]=gP (pre++[x]):=by simp[gP]
  rw[e7]at b4;obtain⟨y3,h3,c1,c2⟩:=Io (t:=28) kV rfl h2 (gP (pre++[x])) (gP post) false _ b4 (jK _).1 (jK post).1 (by omega) (by rw[dG,dG];simp;omega) (by omega);rw[<-On]at c2;have q3:=oG (λv=>c2.np v)
  have c3:dq h3 8 y3=some (.ls 1 (gP (pre++x::post)) false):=by
   rw[ij (by omega) (jK _).1 (jK _).2 c2];simp[gF,gP]
  have htd:(gP post).take (l.length-pre.length)=gP post:=Ys (by rw[dG];omega);have yx:∀c,l[pre.length]?=some c->kr c x=false:=λc hc=>by
   have:=hs.H7 hc;simpa[yv]using this
  by_cases hi:pre.length<l.length
  .obtain⟨c,hc⟩:=eA hi;have hr:cY[pre.length]?=some [.sc (.string c)]:=by rw[hg,hc];rfl
   have du:=gA hr
   have eW:decide ((pre.length:Int)=(l.length:Int))=false:=by simp;omega
   have heq:=yx c hc;simp[cU,e0,e1,e5,e6,hi,hq,du,rR,Dh,ku,gQ,hp,a1,q1,b1,c1,q3,heq,eW,htd];exact gz c3
  .have eW:decide ((pre.length:Int)=(l.length:Int))=true:=by simp;omega
   simp[cU,e0,e1,e5,e6,hq,rR,Dh,ku,gQ,hp,a1,q1,b1,c1,q3,eW,htd];exact gz c3
end
end Go.Proofs.YtaibpnppeiigdaaGreatDoor
