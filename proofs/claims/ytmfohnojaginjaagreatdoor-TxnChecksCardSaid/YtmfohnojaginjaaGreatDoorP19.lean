/- Part of the proof. -/
import Derived.Test.YtmfohnojaginjaaGreatDoorP18
set_option linter.all false
set_option maxHeartbeats 16000000
set_option maxRecDepth 100000
namespace Go.Proofs.YtmfohnojaginjaaGreatDoor
open Go Go.Ae Go.Proofs.Tryz
section
attribute [local simp] cn eD
def if5{P Q R S U:Prop}[Decidable P][Decidable Q][Decidable R][Decidable S][Decidable U](hn:P\/Q\/R\/S\/U)(a b c d e T:Int):
 (if P then a else if Q then b else if R then c else if S then d else if U then e else T)=(if P then a else if Q then b else if R then c else if S then d else e):=by
 split
 .rfl
 .rename_i q1;split
  .rfl
  .rename_i q2;split
   .rfl
   .rename_i q3;split
    .rfl
    .rename_i q4;rw[cq];rcases hn with e|e|e|e|e
     .exact absurd e q1
     .exact absurd e q2
     .exact absurd e q3
     .exact absurd e q4
     .exact e
def if6{P Q R S U:Prop}[Decidable P][Decidable Q][Decidable R][Decidable S][Decidable U](p:¬P)(q:¬Q)(r:¬R)(s:¬S)(u:¬U)(a b c d e T:Int):
 (if P then a else if Q then b else if R then c else if S then d else if U then e else T)=T:=by
 rw[cm p,cm q,cm r,cm s,cm u]
def ade :∀(D:Nat)(v w:V),gS v<=D->gS w<=D->jK v->jK w->∀N,EC (N+2*D+6) v w:=by
 intro D
 induction D with
 |zero=>intro v w h;have:=kS v;omega
 |succ D ih=>
  intro v w dv dw bv bw N b h;have ho:∀x∈v.l,∀y∈w.l,EC (N+2*D+7) x y:=λx hx y hy=>by
   have:=ih x y (ql dv x hx) (ql dw y hy) ((lh bv).2 x hx) ((lh bw).2 y hy) (N+1);rw[show N+1+2*D+6=N+2*D+7 by omega]at this;exact this
  have hv:=λb h=>nW (N+1) (D+1) v dv bv b h
  have hw:=λb h=>nW (N+1) (D+1) w dw bw b h
  have nv:=λb h=>rF N (D+1) v dv bv b h
  have nw:=λb h=>rF N (D+1) w dw bw b h
  rw[show N+1+2*(D+1)+4=N+2*D+7 by omega]at hv hw;rw[show N+2*(D+1)+5=N+2*D+7 by omega]at nv nw;rw[show N+2*(D+1)+6=N+2*D+7+1 by omega];have hy:=λx b h=>MA (N+2*D+6) b x h
  have ha:=λx y b h=>Y7 (N+2*D+5) b x y h
  have vh:=λb h=>My (N+2*D+4) b (lI v) (lJ v) (lI w) (lJ w) h
  have hl:=(lh bv).1;cases v with
  |mk k n d s z l=>
   cases w with
   |mk k' n' d' s' z' m=>
    simp only[V.l]at ho hl;have H:EqB (N+2*D+7) k n d s (eG z l) (jo (.mk k n d s z l)) (lI (.mk k n d s z l)) (lJ (.mk k n d s z l)) (jR (.mk k n d s z l)):=⟨hv,nv⟩;have H':EqB (N+2*D+7) k' n' d' s' (eG z' m) (jo (.mk k' n' d' s' z' m)) (lI (.mk k' n' d' s' z' m)) (lJ (.mk k' n' d' s' z' m)) (jR (.mk k' n' d' s' z' m)):=⟨hw,nw⟩;have c1:eu (eG z l)=true:=by unfold eG po;cases z && (ef l).isEmpty<;>rfl
    have c2:eu (eG z' m)=true:=by unfold eG po;cases z' && (ef m).isEmpty<;>rfl
    rw[nU];simp only[V.k,V.n,V.s,V.l];by_cases hn:(k=0\/k'=0\/jo (.mk k n d s z l)=false\/jo (.mk k' n' d' s' z' m)=false)\/(jR (.mk k n d s z l)=true/\jR (.mk k' n' d' s' z' m)=true)\/¬k=k'\/k=4\/(¬k=8/\¬k=7)
    .have:=KY _ _ _ _ _ _ _ _ _ _ _ _ _ _ _ _ _ _ _ c1 c2 H H' _ vh hy hn b h;exact this.trans (congrArg (λx=>some (AV.sc (.int .i64 x),h)) (if5 hn _ _ _ _ _ _).symm)
    .have q1:¬(k=0\/k'=0\/jo (.mk k n d s z l)=false\/jo (.mk k' n' d' s' z' m)=false):=λe=>hn (.inl e)
     have q2:¬(jR (.mk k n d s z l)=true/\jR (.mk k' n' d' s' z' m)=true):=λe=>hn (.inr (.inl e))
     have q3:k=k':=by
      by_cases e:k=k'
      .exact e
      .exact absurd (.inr (.inr (.inl e))) hn
     have q5:k=8\/k=7:=by
      by_cases e:k=8
      .exact .inl e
      .by_cases e':k=7
       .exact .inr e'
       .exact absurd (.inr (.inr (.inr (.inr ⟨e,e'⟩)))) hn
     subst q3;have o1:jo (.mk k n d s z l)=true:=by
      cases e:jo (.mk k n d s z l)with
      |true=>rfl
      |false=>exact absurd (.inr (.inr (.inl e))) q1
     have o2:jo (.mk k n' d' s' z' m)=true:=by
      cases e:jo (.mk k n' d' s' z' m)with
      |true=>rfl
      |false=>exact absurd (.inr (.inr (.inr e))) q1
     have b0:(decide (k=2)||decide (k=3))=false:=by simp;omega
     have b1:jR (.mk k n d s z l)=false:=by show(jo _ && (decide (k=2)||decide (k=3)))=false;rw[b0,Bool.and_false]
     have b2:jR (.mk k n' d' s' z' m)=false:=by show(jo _ && (decide (k=2)||decide (k=3)))=false;rw[b0,Bool.and_false]
     rw[o1,b1]at H;rw[o2,b2]at H';exact(KZ _ _ _ _ _ _ _ _ _ _ _ _ _ _ _ _ H H' ha ho q5 hl b h).trans (congrArg (λx=>some (AV.sc (.int .i64 x),h)) (if6 q1 q2 (by simp) (by omega) (by omega) _ _ _ _ _ _).symm)
def O0(N D:Nat)(b:Bool)(v w:V)(h:Hp)(dv:gS v<=D)(dw:gS w<=D)(bv:jK v)(bw:jK w):ch cx (N+2*D+6) b 266 [.ag (enc v),.ag (enc w)] h=some (.sc (.int .i64 (nU v w)),h):=
 ade D v w dv dw bv bw N b h
mutual
def sQ :V->Int->Int->Int
 | .mk _ _ _ s _ l,b,m=>if m<1 then-1 else vu l (b-1-(s.size:Int)/50) m
def vu :List V->Int->Int->Int
 | [],b,_=>b
 |x::xs,b,m=>if 0<=b then vu xs (sQ x b (m-1)) m else b
end
mutual
def xu :∀(v:V)(b m:Int),b<=2000->sQ v b m<=2000
 |
  .mk k n d s z l,b,m,h=>by
  rw[sQ];split
  .omega
  .exact MU l _ m (by omega)
def MU :∀(l:List V)(b m:Int),b<=2000->vu l b m<=2000
 | [],b,m,h=>by rw[vu];exact h
 |
  x::xs,b,m,h=>by
  rw[vu];split
  .exact MU xs _ m (xu x b (m-1) h)
  .exact h
end
mutual
def Y9 :∀(v:V)(b m:Int),jK v->(0<=b-> -100000000000001<=sQ v b m)/\(b<0->b-100000000000001<=sQ v b m)
 |
  .mk k n d s z l,b,m,h=>by
  rw[jK]at h;rw[sQ];split
  .omega
  .have:=MV l (b-1-(s.size:Int)/50) m h.2.2;omega
def MV :∀(l:List V)(b m:Int),YD l->(0<=b-> -100000000000001<=vu l b m)/\(b<0->vu l b m=b)
 | [],b,m,h=>by rw[vu];omega
 |
  x::xs,b,m,h=>by
  rw[YD]at h;rw[vu];refine⟨λhb=>?_,λhb=>?_⟩
  .rw[cq hb];have h1:=(Y9 x b (m-1) h.1).1 hb;have h2:=MV xs (sQ x b (m-1)) m h.2;by_cases h3:0<=sQ x b (m-1)
   .exact h2.1 h3
   .rw[h2.2 (by omega)];exact h1
  .rw[cm (by omega)]
end
def zk(l:List V)(b m:Int)(i:Nat):Int:=vu (l.drop i) b m
def O3(l:List V)(b m:Int)(i:Nat)(h:l.length<=i):zk l b m i=b:=by unfold zk;rw[Zt h,vu]
def O4(l:List V)(b m:Int)(i:Nat)(h:b<0):zk l b m i=b:=by
 unfold zk;cases l.drop i with
 |nil=>rw[vu]
 |cons x xs=>rw[vu,cm (by omega)]
def K1{l:List V}{i:Nat}{x:V}{b:Int}(m:Int)(h:l[i]?=some x)(hb:0<=b):zk l b m i=zk l (sQ x b (m-1)) m (i+1):=by
 obtain⟨k,e⟩:=Za.1 h;unfold zk;rw[Zm k,e,vu,cq hb]
def DY :∀(D:Nat)(v:V),gS v<=D->jK v->∀(N:Nat)(n m:Int), -1000000000000000<=n->n<=2000->m<=12->0<=m->∀b h,ch cx (N+D+1) b 20 [.ag (enc v),n,m] h=some (.sc (.int .i64 (sQ v n m)),h):=by
 intro D
 induction D with
 |zero=>intro v h;have:=kS v;omega
 |succ D ih=>
  intro v dv bv N n m hn hn' hm w6 b h;have vE:[AV.ag (enc v),.sc (.int .i64 n),.sc (.int .i64 m)].all dk=true:=by rw[Zn,FC];rfl
  refine eR (n:=N+D+1) f20 [.tmp 6] vE rfl ?_ b h;have ho:∀x∈v.l,∀(n m:Int), -1000000000000000<=n->n<=2000->m<=12->0<=m->∀b h,ch cx (N+D+1) b 20 [.ag (enc x),n,m] h=some (.sc (.int .i64 (sQ x n m)),h):=λx hx=>ih x (ql dv x hx) ((lh bv).2 x hx) N
  obtain⟨k,q,d,s,z,l⟩:=v;simp only[V.l]at ho;rw[jK]at bv;have zd:=bv.2.1;have e1:cS .i64 (n-1)=n-1:=cu (by omega) (by omega);have e2:cS .i64 ((s.size:Int)/50)=(s.size:Int)/50:=cu (by omega) (by omega);have e3:cS .i64 (n-1-(s.size:Int)/50)=n-1-(s.size:Int)/50:=cu (by omega) (by omega);rw[sQ];rw[show enc (.mk k q d s z l)=[.sc (.int .i64 k),.sc (.int .i64 q),.sc (.int .i64 d),.sc (.string s),eG z l]from rfl];by_cases h1:m<1
  .rw[cq h1];generalize eG z l=L at *;simp[f20,e1,e2,e3,h1]
  .rw[cm h1];have e4:cS .i64 (m-1)=m-1:=cu (by omega) (by omega);have u_:n-1-(s.size:Int)/50<=2000:=by omega
   obtain⟨b0,hb0⟩:∃b0,b0=n-1-(s.size:Int)/50:=⟨_,rfl⟩;rw[<-hb0]at u_|-;have e3:cS .i64 (n-1-(s.size:Int)/50)=b0:=by rw[e3,hb0]
   rcases fI z l with⟨rfl,hL⟩|hL
   .rw[hL,vu];simp[f20,e1,e2,e3,h1];refine pQ
     (λi st dn=>i=0/\st.length=38/\gt st 1= .sc (.int .i64 b0)/\gt st 3= .pt 0 0/\gt st 7=(0:Int)/\dn=[.row [k,q,d,s,()]])
     (λo s _=>o= .exit 0/\s.length=38/\gt s 1= .sc (.int .i64 b0)) 0 (by simp) (by exact ⟨rfl,rfl,rfl,rfl,rfl,rfl⟩) ?_ ?_
    .rintro i fr hp da ⟨rfl,cf,h1,h3,h7,hh⟩;subst hh;simp[cf,h1,h3,h7]
    .rintro o fr hp hn ⟨rfl,cf,h1⟩;simp[cf,h1]
   .rw[hL];have hq:=dI l;have hg:=gh l;generalize ef l=cg at hq hg;generalize hT:vu l b0 m=T;simp[f20,e1,e2,e3,h1];refine pQ
     (λi st dn=>∃c:Int,T=zk l c m i/\c<=2000/\st.length=38/\gt st 1=c/\gt st 2=m/\gt st 3= .pt 0 0/\gt st 7=i/\dn=[.row [k,q,d,s,.ls 5 cg z]])
     (λo s _=>o= .exit 0/\s.length=38/\gt s 1=T) l.length (by simp;omega) (by exact ⟨b0,hT.symm,u_,rfl,rfl,rfl,rfl,rfl,rfl⟩) ?_ ?_
    .rintro i fr hp da ⟨c,hT,hc,cf,h1,h2,h3,h7,hh⟩;subst hh;by_cases hi:i<l.length
     .obtain⟨x,hx⟩:=eA hi;have hr:cg[i]?=some (enc x):=by rw[hg,hx];rfl
      have cz:=gA hr
      by_cases kK:0<=c
      .have hw:=λb h=>ho x (Zi hx) c (m-1) (by omega) hc (by omega) (by omega) b h
       have hf:=cG (Yp da zd);simp[cf,h1,h2,h3,h7,hi,hq,cz,kK,hw,e4,hf];exact⟨by rw[hT,K1 m hx kK],xu x c (m-1) hc⟩
      .have zz:T=c:=by rw[hT,O4 _ _ _ _ (by omega)]
       simp[cf,h1,h3,h7,hi,hq,kK,zz]
     .have zz:T=c:=by rw[hT,O3 _ _ _ _ (by omega)]
      simp[cf,h1,h3,h7,hi,hq,zz]
    .rintro o fr hp hn ⟨rfl,cf,h1⟩;simp[cf,h1]
def tP :List fZ->Int->Int
 | [],b=>b
 |c::l,b=>if 0<=b then tP l (sQ c.v (b-(c.key.size:Int)/50) 12)else b
def zl(l:List fZ)(b:Int)(i:Nat):Int:=tP (l.drop i) b
def O5(l:List fZ)(b:Int)(i:Nat)(h:l.length<=i):zl l b i=b:=by unfold zl;rw[Zt h,tP]
def O6(l:List fZ)(b:Int)(i:Nat)(h:b<0):zl l b i=b:=by
 unfold zl;cases l.drop i with
 |nil=>rw[tP]
 |cons x xs=>rw[tP,cm (by omega)]
def K2{l:List fZ}{i:Nat}{c:fZ}{b:Int}(h:l[i]?=some c)(hb:0<=b):zl l b i=zl l (sQ c.v (b-(c.key.size:Int)/50) 12) (i+1):=by
 obtain⟨k,e⟩:=Za.1 h;unfold zl;rw[Zm k,e,tP,cq hb]
def Aw :∀(l:List fZ)(b:Int),b<=2000->tP l b<=2000
 | [],b,h=>by rw[tP];exact h
 |
  x::xs,b,h=>by
  rw[tP];split
  .exact Aw xs _ (xu _ _ _ (by omega))
  .exact h
def O7(N D:Nat)(b:Bool)(l:List fZ)(z:Bool)(n:Int)(h:Hp)(hl:l.length<=1000000000000000)(hn:n<=2000)(hb:∀c∈l,gS c.v<=D/\jK c.v/\c.key.size<=1000000000000000):
 ch cx (N+D+2) b 12 [eU l z,n] h=some (.sc (.int .i64 (tP l n)),h):=by
 refine eR (n:=N+D+1) f12 [.tmp 4] rfl rfl ?_ b h;have hq:=cP l;have hg:=lT l;unfold eU;generalize d_ l=cg at hq hg;generalize hT:tP l n=T;simp[f12];refine pQ
  (λi st _=>∃c:Int,T=zl l c i/\c<=2000/\st.length=32/\gt st 0= .ls 6 cg z/\gt st 1=c/\gt st 5=i)
  (λo s _=>o= .exit 0/\s.length=32/\gt s 1=T) l.length (by simp;omega) (by exact ⟨n,hT.symm,hn,rfl,rfl,rfl,rfl⟩) ?_ ?_
 .rintro i fr hp da ⟨c,hT,hc,cf,h0,h1,h5⟩;by_cases hi:i<l.length
  .obtain⟨x,hx⟩:=eA hi;have Di:=hb x (Zi hx);by_cases kK:0<=c
   .have hw:=λb h=>DY D x.v Di.1 Di.2.1 N (c-(x.key.size:Int)/50) 12 (by have:=Di.2.2;omega) (by omega) (by omega) (by omega) b h
    have hf:=cG (Yp da hl);have e2:cS .i64 ((x.key.size:Int)/50)=(x.key.size:Int)/50:=cu (by have:=Di.2.2;omega) (by have:=Di.2.2;omega);have e3:cS .i64 (c-(x.key.size:Int)/50)=c-(x.key.size:Int)/50:=cu (by have:=Di.2.2;omega) (by have:=Di.2.2;omega);have dq:=K2 hx kK;have pS:=xu x.v (c-(x.key.size:Int)/50) 12 (by omega);rw[<-hT]at dq;have hr:cg[i]?=some (fK x):=by rw[hg,hx];rfl
    obtain⟨ck,k,m,d,s,z',q⟩:=x;dsimp only at hw e2 e3 dq pS;generalize sQ _ _ _=W at hw dq pS;simp only[enc]at hw;have hr:cg[i]?=some [.sc (.string ck),.sc (.int .i64 k),.sc (.int .i64 m),.sc (.int .i64 d),.sc (.string s),po z' (ef q)]:=hr;have cz:∀kx,cg[i]'kx=[.sc (.string ck),.sc (.int .i64 k),.sc (.int .i64 m),.sc (.int .i64 d),.sc (.string s),po z' (ef q)]:=λk=>by obtain⟨_,e⟩:=Za.1 hr;exact e
    generalize po z' (ef q)=L at *;simp[cf,h0,h1,h5,hi,hq,cz,kK,hw,hf,e2,e3];exact⟨dq,pS⟩
   .have zz:T=c:=by rw[hT,O6 _ _ _ (by omega)]
    simp[cf,h0,h1,h5,hi,hq,kK,zz]
  .have zz:T=c:=by rw[hT,O5 _ _ _ (by omega)]
   simp[cf,h0,h1,h5,hi,hq,zz]
 .rintro o fr hp hn ⟨rfl,cf,h1⟩;simp[cf,h1]
end
section
attribute [local simp] eD
attribute [local simp] rC ig oh ES ew ka
def fF{cs vs:LA}{off:Nat}(h:off+vs.length<=cs.length):(cn cs off vs).length=cs.length:=by
 unfold cn;simp;omega
def kl{cs vs:LA}{off:Nat}(h:off<=cs.length):(cn cs off vs).take off=cs.take off:=by
 unfold cn;rw[Zp,List.take_append_of_le_length (by simp;omega),List.take_take,Nat.min_self]
def pF{cs vs:LA}{off:Nat}(h:off<=cs.length):(cn cs off vs).take (off+vs.length)=cs.take off++vs:=by
 unfold cn;rw[List.take_append_of_le_length (by simp;omega),Xa (by simp;omega)]
def MW{cs A r C:LA}{a b c N:Nat}(hN:N=a+b+c)(wc:cs.take N=A++r++C)(hA:A.length=a)(hr:r.length=b):cs.take a=A/\(cs.drop (a+b)).take c=C:=by
 constructor
 .have e:cs.take a=(cs.take N).take a:=by rw[List.take_take,Nat.min_eq_left (by omega)]
  rw[e,wc,Zp];exact List.take_left' hA
 .have e:(cs.drop (a+b)).take c=(cs.take N).drop (a+b):=by rw[List.drop_take,show N-(a+b)=c by omega]
  rw[e,wc];exact List.drop_left' (by simp[hA,hr])
def yz(n:Nat)(b:Bool)(id p q P1 L R:Nat)(cs A r C:LA)(h:Hp)(cZ:h[id]?=some (.row cs))(e1:P1=p+1)(e2:L=p+1+q)(e3:R=p+q)(hA:A.length=p)(hr:r.length=1)(hC:C.length=q)(wc:cs.take (L)=A++r++C)(da:L<=cs.length)(hm:L<=1000000000):
 ∃cs',ch cx (n+1) b 239 [.sl id 1 0 L false,p,P1] h=some (.sl id 1 0 R false,h.set id (.row cs'))/\cs'.length=cs.length/\cs'.take (R)=A++C:=by
 have hs:∀x,(h.set id x)[id]?=some x:=λx=>Zj (Za.1 cZ).1
 have a1:p<=P1:=by omega
 have a2:P1<=L:=by omega
 have a3:¬(p:Int)=(P1:Int):=by omega
 have a4:¬p=P1:=by omega
 have b0:1<=cs.length:=by omega
 have b1:p<=cs.length:=by omega
 obtain⟨c1,c2⟩:=MW (c:=q) (by omega) wc hA hr;have oZ:=qo (n:=n) (f:=239) (args:=[.sl id 1 0 L false,.sc (.int .i64 p),.sc (.int .i64 P1)]) ⟨f239.ntmps,(f239.body).getD .skip,[.tmp 6]⟩ rfl (by kernel_rfl) (by kernel_rfl) (by kernel_rfl) (by kernel_rfl) (by simp[f239]) b h;by_cases hq:q=0
 .subst hq;have e4:P1=L:=by omega
  have e5:R=p:=by omega
  subst e4 e5;have z1:P1-R=1:=by omega
  have z2:R<P1:=by omega
  have z3:R+1<=cs.length:=by omega
  refine⟨cn cs (R) [.sc (.string ⟨#[]⟩)],?_,fF (by simp;omega),?_⟩
  .rw[oZ];simp[f239,cZ,a1,a3,a4,b0,b1,z1,z2,z3,da]
  .rw[kl b1,c1];have:C=[]:=Zl (by omega);rw[this,Yr]
 .have e4:¬P1=L:=by omega
  have z0:L-P1=q:=by omega
  have TK:p+q=R:=by omega
  have z1:L-R=1:=by omega
  have z2:R<L:=by omega
  have z2':R<=L:=by omega
  have z3:R+1<=cs.length:=by omega
  have z4:P1+q<=cs.length:=by omega
  have z5:R<=cs.length:=by omega
  have hn:((cs.drop (P1)).take (q))=C:=by rw[show P1=p+1 by omega];exact c2
  have hl:(cn cs (p) C).length=cs.length:=fF (by omega);refine⟨cn (cn cs (p) C) (R) [.sc (.string ⟨#[]⟩)],?_,by rw[fF (by simp;omega),hl],?_⟩
  .rw[oZ];simp[f239,cZ,hs,a1,a2,a3,b0,b1,e4,hq,z0,TK,z1,z2,z2',z3,z4,z5,da,hn,hl]
  .rw[kl (by omega)];have:=pF (vs:=C) (off:=p) b1;rw[c1,hC,show p+q=R by omega]at this;exact this
def BC(n:Nat)(b:Bool)(id p q P1 L R:Nat)(cs A r C:LA)(h:Hp)(cZ:h[id]?=some (.row cs))(e1:P1=p+1)(e2:L=p+1+q)(e3:R=p+q)(hA:A.length=p*6)(hr:r.length=6)(hC:C.length=q*6)(wc:cs.take (L*6)=A++r++C)(da:L*6<=cs.length)(hm:L<=1000000000):
 ∃cs',ch cx (n+1) b 364 [.sl id 6 0 L false,p,P1] h=some (.sl id 6 0 R false,h.set id (.row cs'))/\cs'.length=cs.length/\cs'.take (R*6)=A++C:=by
 have hs:∀x,(h.set id x)[id]?=some x:=λx=>Zj (Za.1 cZ).1
 have a1:p<=P1:=by omega
 have a2:P1<=L:=by omega
 have a3:¬(p:Int)=(P1:Int):=by omega
 have a4:¬p=P1:=by omega
 have b0:6<=cs.length:=by omega
 have b1:p*6<=cs.length:=by omega
 obtain⟨c1,c2⟩:=MW (c:=q*6) (by omega) wc hA hr;have oZ:=qo (n:=n) (f:=364) (args:=[.sl id 6 0 L false,.sc (.int .i64 p),.sc (.int .i64 P1)]) ⟨f364.ntmps,(f364.body).getD .skip,[.tmp 6]⟩ rfl (by kernel_rfl) (by kernel_rfl) (by kernel_rfl) (by kernel_rfl) (by simp[f364]) b h;by_cases hq:q=0
 .subst hq;have e4:P1=L:=by omega
  have e5:R=p:=by omega
  subst e4 e5;have z1:P1-R=1:=by omega
  have z2:R<P1:=by omega
  have z3:R*6+6<=cs.length:=by omega
  refine⟨cn cs (R*6) [.sc (.string ⟨#[]⟩),(0:Int),(0:Int),(0:Int),.sc (.string ⟨#[]⟩),()],?_,fF (by simp;omega),?_⟩
  .rw[oZ];simp[f364,cZ,a1,a3,a4,b0,b1,z1,z2,z3,da]
  .rw[kl b1,c1];have:C=[]:=Zl (by omega);rw[this,Yr]
 .have e4:¬P1=L:=by omega
  have z0:L-P1=q:=by omega
  have TK:p+q=R:=by omega
  have z1:L-R=1:=by omega
  have z2:R<L:=by omega
  have z2':R<=L:=by omega
  have z3:R*6+6<=cs.length:=by omega
  have z4:P1*6+q*6<=cs.length:=by omega
  have z5:R*6<=cs.length:=by omega
  have hn:((cs.drop (P1*6)).take (q*6))=C:=by rw[show P1*6=p*6+6 by omega];exact c2
  have hl:(cn cs (p*6) C).length=cs.length:=fF (by omega);refine⟨cn (cn cs (p*6) C) (R*6) [.sc (.string ⟨#[]⟩),(0:Int),(0:Int),(0:Int),.sc (.string ⟨#[]⟩),()],?_,by rw[fF (by simp;omega),hl],?_⟩
  .rw[oZ];simp[f364,cZ,hs,a1,a2,a3,b0,b1,e4,hq,z0,TK,z1,z2,z2',z3,z4,z5,da,hn,hl]
  .rw[kl (by omega)];have:=pF (vs:=C) (off:=p*6) b1;rw[c1,hC,show p*6+q*6=R*6 by omega]at this;exact this
def BD(n:Nat)(b:Bool)(id p q P1 L R:Nat)(cs A r C:LA)(h:Hp)(cZ:h[id]?=some (.row cs))(e1:P1=p+1)(e2:L=p+1+q)(e3:R=p+q)(hA:A.length=p*3)(hr:r.length=3)(hC:C.length=q*3)(wc:cs.take (L*3)=A++r++C)(da:L*3<=cs.length)(hm:L<=1000000000):
 ∃cs',ch cx (n+1) b 236 [.sl id 3 0 L false,p,P1] h=some (.sl id 3 0 R false,h.set id (.row cs'))/\cs'.length=cs.length/\cs'.take (R*3)=A++C:=by
 have hs:∀x,(h.set id x)[id]?=some x:=λx=>Zj (Za.1 cZ).1
 have a1:p<=P1:=by omega
 have a2:P1<=L:=by omega
 have a3:¬(p:Int)=(P1:Int):=by omega
 have a4:¬p=P1:=by omega
 have b0:3<=cs.length:=by omega
 have b1:p*3<=cs.length:=by omega
 obtain⟨c1,c2⟩:=MW (c:=q*3) (by omega) wc hA hr;have oZ:=qo (n:=n) (f:=236) (args:=[.sl id 3 0 L false,.sc (.int .i64 p),.sc (.int .i64 P1)]) ⟨f236.ntmps,(f236.body).getD .skip,[.tmp 6]⟩ rfl (by kernel_rfl) (by kernel_rfl) (by kernel_rfl) (by kernel_rfl) (by simp[f236]) b h;by_cases hq:q=0
 .subst hq;have e4:P1=L:=by omega
  have e5:R=p:=by omega
  subst e4 e5;have z1:P1-R=1:=by omega
  have z2:R<P1:=by omega
  have z3:R*3+3<=cs.length:=by omega
  refine⟨cn cs (R*3) [(0:Int),(),()],?_,fF (by simp;omega),?_⟩
  .rw[oZ];simp[f236,cZ,a1,a3,a4,b0,b1,z1,z2,z3,da]
  .rw[kl b1,c1];have:C=[]:=Zl (by omega);rw[this,Yr]
 .have e4:¬P1=L:=by omega
  have z0:L-P1=q:=by omega
  have TK:p+q=R:=by omega
  have z1:L-R=1:=by omega
  have z2:R<L:=by omega
  have z2':R<=L:=by omega
  have z3:R*3+3<=cs.length:=by omega
  have z4:P1*3+q*3<=cs.length:=by omega
  have z5:R*3<=cs.length:=by omega
  have hn:((cs.drop (P1*3)).take (q*3))=C:=by rw[show P1*3=p*3+3 by omega];exact c2
  have hl:(cn cs (p*3) C).length=cs.length:=fF (by omega);refine⟨cn (cn cs (p*3) C) (R*3) [(0:Int),(),()],?_,by rw[fF (by simp;omega),hl],?_⟩
  .rw[oZ];simp[f236,cZ,hs,a1,a2,a3,b0,b1,e4,hq,z0,TK,z1,z2,z2',z3,z4,z5,da,hn,hl]
  .rw[kl (by omega)];have:=pF (vs:=C) (off:=p*3) b1;rw[c1,hC,show p*3+q*3=R*3 by omega]at this;exact this
def BF(n:Nat)(b:Bool)(id p q P1 L R:Nat)(cs A r C:LA)(h:Hp)(cZ:h[id]?=some (.row cs))(e1:P1=p+1)(e2:L=p+1+q)(e3:R=p+q)(hA:A.length=p*5)(hr:r.length=5)(hC:C.length=q*5)(wc:cs.take (L*5)=A++r++C)(da:L*5<=cs.length)(hm:L<=1000000000):
 ∃cs',ch cx (n+1) b 243 [.sl id 5 0 L false,p,P1] h=some (.sl id 5 0 R false,h.set id (.row cs'))/\cs'.length=cs.length/\cs'.take (R*5)=A++C:=by
 have hs:∀x,(h.set id x)[id]?=some x:=λx=>Zj (Za.1 cZ).1
 have a1:p<=P1:=by omega
 have a2:P1<=L:=by omega
 have a3:¬(p:Int)=(P1:Int):=by omega
 have a4:¬p=P1:=by omega
 have b0:5<=cs.length:=by omega
 have b1:p*5<=cs.length:=by omega
 obtain⟨c1,c2⟩:=MW (c:=q*5) (by omega) wc hA hr;have oZ:=qo (n:=n) (f:=243) (args:=[.sl id 5 0 L false,.sc (.int .i64 p),.sc (.int .i64 P1)]) ⟨f243.ntmps,(f243.body).getD .skip,[.tmp 6]⟩ rfl (by kernel_rfl) (by kernel_rfl) (by kernel_rfl) (by kernel_rfl) (by simp[f243]) b h;by_cases hq:q=0
 .subst hq;have e4:P1=L:=by omega
  have e5:R=p:=by omega
  subst e4 e5;have z1:P1-R=1:=by omega
  have z2:R<P1:=by omega
  have z3:R*5+5<=cs.length:=by omega
  refine⟨cn cs (R*5) [(0:Int),(0:Int),(0:Int),.sc (.string ⟨#[]⟩),()],?_,fF (by simp;omega),?_⟩
  .rw[oZ];simp[f243,cZ,a1,a3,a4,b0,b1,z1,z2,z3,da]
  .rw[kl b1,c1];have:C=[]:=Zl (by omega);rw[this,Yr]
 .have e4:¬P1=L:=by omega
  have z0:L-P1=q:=by omega
  have TK:p+q=R:=by omega
  have z1:L-R=1:=by omega
  have z2:R<L:=by omega
  have z2':R<=L:=by omega
  have z3:R*5+5<=cs.length:=by omega
  have z4:P1*5+q*5<=cs.length:=by omega
  have z5:R*5<=cs.length:=by omega
  have hn:((cs.drop (P1*5)).take (q*5))=C:=by rw[show P1*5=p*5+5 by omega];exact c2
  have hl:(cn cs (p*5) C).length=cs.length:=fF (by omega);refine⟨cn (cn cs (p*5) C) (R*5) [(0:Int),(0:Int),(0:Int),.sc (.string ⟨#[]⟩),()],?_,by rw[fF (by simp;omega),hl],?_⟩
  .rw[oZ];simp[f243,cZ,hs,a1,a2,a3,b0,b1,e4,hq,z0,TK,z1,z2,z2',z3,z4,z5,da,hn,hl]
  .rw[kl (by omega)];have:=pF (vs:=C) (off:=p*5) b1;rw[c1,hC,show p*5+q*5=R*5 by omega]at this;exact this
end
section
attribute [local simp] cn eD
noncomputable def abP(u:AV):Option AV:=j_ cx (λ_=>u) {dst:=none,op:= .makeInterface 228 (.tmp 0),type:=0,pos:= "",after:= #[],guard:=none}
def TQ(fr:LA)(d:Option Tmp)(x:Tmp)(ty:TypeId)(p:String)(a:Array Edge)(g:Option (Nat × Bool)):j_ cx (ev cx fr) {dst:=d,op:= .makeInterface 228 (.tmp x),type:=ty,pos:=p,after:=a,guard:=g}=abP (gt fr x):=rfl
def TR(e:Int):abP (.sc (.int .i64 e))=some (.sc (.iface 228 (.int .i64 e))):=rfl
def jC(n:Nat)(b:Bool)(e:Int)(h:Hp):ch cx (n+1) b 234 [true,e] h=some (.tp [],h):=by
 rw[WX (n:=n) f234 []];simp[f234]<;>rfl
def j5(n:Nat)(b:Bool)(e:Int)(h:Hp):ch cx (n+1) b 234 [false,e] h=some (.pn (.iface 228 (.int .i64 e)),h):=by
 rw[WX (n:=n) f234 []];simp[f234,TQ,TR]
def Y_(n:Nat)(b:Bool)(x:ByteArray)(h:Hp):ch cx (n+1) b 359 [x] h=some ((false:AV),h):=by
 refine eR f359 [.tmp 2] rfl rfl ?_ b h;simp[f359,(iC x x).2 rfl]
def TS(n:Nat)(b:Bool)(x:ByteArray)(h:Hp):ch cx (n+1) b 157 [x] h=some ((false:AV),h):=by
 refine eR f157 [.tmp 2] rfl rfl ?_ b h;simp[f157,(iC x x).2 rfl]
def TT(n:Nat)(b:Bool)(x y:ByteArray)(h:Hp):ch cx (n+2) b 358 [x,y] h=some (.sc (.bool (nC x y)),h):=by
 refine eR f358 [.tmp 4] rfl rfl ?_ b h;have aa:=TS n;simp[f358,aa]
def yA(n:Nat)(l pre eY post:List ByteArray)(x:ByteArray)(S:AV)(hS:(∃z,S= .ls 1 (fj l) z)\/(l=[]/\S=()))(hl:l.length<=1000000000000000)(hs:gZ (KS x) (yu x) l pre eY post)(bb:Bool)(h:Hp):
 ch cx (n+3) bb 237 [S,x] h=some (.tp [pre.length,.sc (.bool !eY.isEmpty)],h):=by
 have hp:pre.length<=l.length:=by rw[hs.e];simp
 have hq:=di l;have hg:=lS l;rcases hS with⟨z,rfl⟩|⟨rfl,rfl⟩
 case inr=>
  have J4:pre=[]:=Zl (by simpa using hp);have zQ:eY=[]:=hs.tK (by simp);subst J4 zQ
  suffices H:∃r,r=AV.tp [(0:Int),false]/\∀b h,ch cx (n+3) b 237 [(),x] h=some (r,h) by
   obtain⟨r,rfl,hr⟩:=H;exact hr bb h
  refine gP (f:=237) (n:=n+2) (args:=[.sc (.slice none 0 0),.sc (.string x)]) (λr=>r= .tp [(0:Int),false]) ⟨f237.ntmps,(f237.body).getD .skip,[.tmp 4,.tmp 5]⟩ (by kernel_rfl) (by kernel_rfl) rfl (by kernel_rfl) (by simp[f237]) rfl ?_;simp[f237];refine ej (C:=cx) (G:=λr=>∃r0 h',dL _ (eX _ _ (du _ r) _)=some (r0,h')/\cD h' 8 r0=some (.tp [(0:Int),false]))
   (λk s=>s.1.length=54/\gt s.1 6=(0:Int)/\gt s.1 7=(0:Int)/\gt s.1 8=(0:Int))
   (λo s=>o= .exit 0/\s.1.length=54/\gt s.1 6=(0:Int)/\gt s.1 7=(0:Int)) 0 (by simp) (by simp) ?_ ?_
  .rintro k fr h da ⟨cf,h8,h9,lN⟩;simp only at cf h8 h9 lN;simp[cf,h8,h9,lN]
  .rintro o fr h hn ⟨rfl,cf,h8,h9⟩;simp only at cf h8 h9;simp[cf,h8,h9];exact gq rfl
 suffices H:∃r,r=AV.tp [pre.length,.sc (.bool !eY.isEmpty)]/\∀b h,ch cx (n+3) b 237 [.ls 1 (fj l) z,x] h=some (r,h) by
  obtain⟨r,rfl,hr⟩:=H;exact hr bb h
 refine gP (f:=237) (n:=n+2) (args:=[.ls 1 (fj l) z,.sc (.string x)]) (λr=>r= .tp [pre.length,.sc (.bool !eY.isEmpty)]) ⟨f237.ntmps,(f237.body).getD .skip,[.tmp 4,.tmp 5]⟩ (by kernel_rfl) (by kernel_rfl) rfl (by kernel_rfl) (by simp[f237]) rfl ?_;have aa:=TT n;generalize fj l=cg at hq hg|-;have af:=Y_ (n+1);generalize n+2=M at aa af;simp[f237];refine ej (C:=cx) (G:=λr=>∃r0 h',dL _ (eX _ _ (du _ r) _)=some (r0,h')/\cD h' 8 r0=some (.tp [pre.length,.sc (.bool !eY.isEmpty)]))
  (λk s=>∃lo hi:Nat,s.1.length=54/\gt s.1 0= .ls 1 cg z/\gt s.1 1=x/\gt s.1 6=l.length/\gt s.1 7=lo/\gt s.1 8=hi
   /\lo<=pre.length/\pre.length<=hi/\hi<=l.length/\hi-lo+k<=l.length)
  (λo s=>o= .exit 0/\s.1.length=54/\gt s.1 0= .ls 1 cg z/\gt s.1 1=x/\gt s.1 6=l.length/\gt s.1 7=pre.length) l.length (by simp;omega) ?_ ?_ ?_
 .refine⟨0,l.length,?_⟩;simp[hq,hp]
 .rintro k fr h da ⟨lo,hi,cf,h0,h1,h8,h9,lN,q1,q2,q3,q4⟩;simp only at cf h0 h1 h8 h9 lN;by_cases hh:lo<hi
  .have Hq:lo<=(lo+hi)/2:=by omega
   have GG:(lo+hi)/2<hi:=by omega
   generalize Hr:(lo+hi)/2=md at Hq GG;obtain⟨c,hc⟩:∃c,l[md]?=some c:=⟨_,Zb (by omega)⟩;have hr:cg[md]?=some [.sc (.string c)]:=by rw[hg,hc];rfl
   have cz:=gA hr
   have e1:cS .i64 ((lo:Int)+hi)=((lo+hi:Nat):Int):=by rw[show(lo:Int)+hi=((lo+hi:Nat):Int) by omega];exact cu (by omega) (by omega)
   have e2:cS .u64 ((lo:Int)+hi)=(lo:Int)+hi:=jX (by omega) (by omega);have e3:((lo:Int)+hi)/2=(md:Int):=by omega
   have e4:cS .i64 (md:Int)=md:=cu (by omega) (by omega);have e5:cS .i64 ((md:Int)+1)=((md+1:Nat):Int):=cu (by omega) (by omega);have MI:md<l.length:=Yo GG q3;have dm:=hs.lt_iff hc;cases hk:nC c x
   .have hmp:pre.length<=md:=by
     refine Ya λq=>?_
     have:=dm.2 q;unfold KS at this;rw[hk]at this;cases this
    simp[cf,h0,h1,h8,h9,lN,hh,e1,e2,e3,e4,e5,hq,MI,hr,cz,aa,hk,IntKind.bits];clear e1 e2 e3 e4 e5;exact⟨by omega,lo,rfl,md,rfl,by omega,by omega,by omega,by omega⟩
   .have hmp:md<pre.length:=dm.1 hk;simp[cf,h0,h1,h8,h9,lN,hh,e1,e2,e3,e4,e5,hq,MI,hr,cz,aa,hk,IntKind.bits];clear e1 e2 e3 e4 e5;exact⟨by omega,md+1,by omega,hi,rfl,by omega,by omega,by omega,by omega⟩
  .have R7:lo=pre.length:=by omega
   subst R7;simp[cf,h0,h1,h8,h9,lN,hh]
 .rintro o fr h hn ⟨rfl,cf,h0,h1,h8,h9⟩;simp only at cf h0 h1 h8 h9;by_cases hh:pre.length<l.length
  .obtain⟨c,hc⟩:=eA hh;have hr:cg[pre.length]?=some [.sc (.string c)]:=by rw[hg,hc];rfl
   have cz:=gA hr
   have uC:(!eY.isEmpty)=fm c x:=by rw[<-hs.Hx hc];rfl
   rw[uC];cases hk:fm c x
   .simp[cf,h0,h1,h8,h9,hh,hq,hr,cz,af,hk];exact gq rfl
   .simp[cf,h0,h1,h8,h9,hh,hq,hr,cz,af,hk];exact gq rfl
  .have uC:(!eY.isEmpty)=false:=by rw[hs.tK (by omega)];rfl
   rw[uC];simp[cf,h0,h1,h8,h9,hh];exact gq rfl
@[simp] def Tk_editor :cx.T 168=some {size:=4,agg:=true,zero:=[.slice none 0 0,.slice none 0 0,.int .i64 0,.int .i64 0],kd:= .struct [(0,4,true)]}:=by kernel_rfl
@[simp] def Tk_s_api_Change :cx.T 35=some {size:=1,agg:=false,zero:=[.slice none 0 0],kd:= .slice 10 true 112 [.int .i64 0,.int .i64 0,.int .i64 0,.int .i64 0,.string ⟨#[]⟩,.int .i64 0,.int .i64 0,.int .i64 0,.string ⟨#[]⟩,.slice none 0 0]}:=by kernel_rfl
@[simp] def Tk_s_api_Pred :cx.T 39=some {size:=1,agg:=false,zero:=[.slice none 0 0],kd:= .slice 8 true 104 [.int .i64 0,.string ⟨#[]⟩,.string ⟨#[]⟩,.int .i64 0,.int .i64 0,.int .i64 0,.string ⟨#[]⟩,.slice none 0 0]}:=by kernel_rfl
def iK.np{h:Hp}{tag:Nat->Tg}{tg:Tg}{sz:Nat}{cg:List LA}{x:AV}(ho:iK h tag tg sz cg x)(v:Value):x≠ .pn v:=by
 rcases ho with⟨_,rfl|rfl⟩|⟨id,cs,rfl,_⟩<;>simp
def iK.cls{h:Hp}{tag:Nat->Tg}{tg:Tg}{sz:Nat}{cg:List LA}{x:AV}(ho:iK h tag tg sz cg x):cls x=some [x]:=by
 rcases ho with⟨_,rfl|rfl⟩|⟨id,cs,rfl,_⟩<;>rfl
def uL{sz:Nat}{y:AV}{cg:List LA}(h:uF sz y= .ls sz cg false):(∃z,y= .ls sz cg z)\/(cg=[]/\y=()):=by
 unfold uF at h;split at h
 .simp only[AV.ls.injEq,true_and,and_true]at h;exact .inr ⟨h.symm,rfl⟩
 .rename_i s r z;split at h
  .rename_i e;simp only[AV.ls.injEq,true_and,and_true]at h;subst e h;exact .inl ⟨_,rfl⟩
  .rename_i e;simp only[AV.ls.injEq]at h;exact absurd h.1 e
 .rename_i hn;subst h;exact absurd rfl (hn _ _ _)
def O8{sz:Nat}{pre post:List LA}(hr:∀r∈pre++post,r.length=sz):(pre++post).flatten.take (pre.length*sz)=pre.flatten/\(pre++post).flatten.drop (pre.length*sz)=post.flatten:=by
 have e:pre.flatten.length=pre.length*sz:=cQ pre λr h=>hr r (by simp[h])
 rw[List.flatten_append];exact⟨List.take_left' e,List.drop_left' e⟩
def Ax{h:Hp}{tag:Nat->Tg}{tg:Tg}{sz bytes:Nat}{pre post:List LA}{x:AV}{vs:LA}{vid:Nat}{k:Bool}(hx:iK h tag tg sz (pre++post) x)(hr:∀r∈pre++post,r.length=sz)(hv:h[vid]?=some (.row vs))(oT:vs.length=sz)(htv:tag vid≠tg)(hn:(pre++post).length+1<=1000000)(hb:bytes<=1000):
 ∃x' h' dJ,A5 sz bytes h [x,pre.length,.sl vid sz 0 1 k]=some (x',h')/\iK h' dJ tg sz (pre++[vs]++post) x'/\fM h tag h' dJ (λt=>t=tg):=by
 rcases hx with⟨he,hx⟩|⟨id,cs,rfl,h1,h2,h3,h4⟩
 .obtain⟨rfl,rfl⟩:pre=[]/\post=[]:=by simpa using he
  have GB:bytes<=140737488355328:=by omega
  have ho:iK (h++[.row vs]) (eO tag h.length tg) tg sz ([]++[vs]++[]) (.sl h.length sz 0 1 false):=
   .inr ⟨h.length,vs,rfl,by simp,by simp[<-oT],by simp[oT],by unfold eO;rw[cq rfl]⟩
  rcases hx with rfl|rfl
  .exact⟨_,_,_,by simp[A5,hv,oT,GB],ho,fM.push _ _ _ _ _⟩
  .exact⟨_,_,_,by simp[A5,hv,oT,GB],ho,fM.push _ _ _ _ _⟩
 .have eF:id≠vid:=λe=>htv (e▸h4)
  have hl:=(Za.1 h1).1;obtain⟨aa,af⟩:=O8 hr;have da:pre.length<=(pre++post).length:=by simp
  have wP:((pre++post).length+1)*bytes<=140737488355328:=by
   have:=Nat.mul_le_mul hn hb;omega
  have dm:pre.length*sz<=(pre++post).length*sz:=Zx _ da;have e1:cs.take (pre.length*sz)=pre.flatten:=by
   have:=congrArg (List.take (pre.length*sz)) h2;rw[List.take_take,Nat.min_eq_left dm,aa]at this;exact this
  have e2:(cs.take ((pre++post).length*sz)).drop (pre.length*sz)=post.flatten:=by rw[h2,af]
  have x_:fM h tag (h.set id .dead++[.row (pre.flatten++vs++post.flatten)]) (eO tag h.length tg) (λt=>t=tg):=by
   have a:=fM.set h tag id .dead (S:=λt=>t=tg) h4;have b:=fM.push (h.set id .dead) tag (.row (pre.flatten++vs++post.flatten)) tg (λt=>t=tg);rw[List.length_set]at b;exact a.trans b (λ_ q=>q) (λ_ q=>q)
  refine⟨.sl h.length sz 0 ((pre++post).length+1) false,_,_,?_,.inr ⟨h.length,pre.flatten++vs++post.flatten,?_,?_,?_,?_,?_⟩,x_⟩
  .have c:True/\id≠vid/\(pre.length:Int).toNat<=(pre++post).length/\(pre++post).length*sz<=cs.length/\(pre++post).length+1<=1000000000000000/\((pre++post).length+1)*bytes<=140737488355328:=⟨trivial,eF,by rw[Int.toNat_natCast];exact da,h3,by omega,wP⟩;have c0:True/\vs.length=sz/\(0:Int)<=(pre.length:Int):=⟨trivial,oT,by omega⟩;simp only[A5,hv,h1];rw[cq c0,cq c,Int.toNat_natCast,e1,e2]
  .simp;omega
  .rw[Zf (by simp)];simp
  .have ea:(pre.flatten++vs++post.flatten)=(pre++[vs]++post).flatten:=by simp
   rw[ea,Xa];rw[cQ (pre++[vs]++post) (sz:=sz) (λr hh=>by
    simp only[Zz,List.mem_singleton]at hh;rcases hh with(hh|hh)|hh
    .exact hr r (by simp[hh])
    .rw[hh];exact oT
    .exact hr r (by simp[hh]))]
   exact Xc _
  .have ea:(pre.flatten++vs++post.flatten)=(pre++[vs]++post).flatten:=by simp
   rw[ea,cQ (pre++[vs]++post) (sz:=sz) (λr hh=>by
    simp only[Zz,List.mem_singleton]at hh;rcases hh with(hh|hh)|hh
    .exact hr r (by simp[hh])
    .rw[hh];exact oT
    .exact hr r (by simp[hh]))]
   exact Xc _
  .unfold eO;rw[cq rfl]
def K3(n:Nat)(b:Bool)(args:LA)(h:Hp):ch cx (n+1) b 238 args h=A5 1 16 h args:=by
 have e1:cx.oW 238=none:=by kernel_rfl
 have e2:cx.inl 238=true:=by kernel_rfl
 have e3:cx.ins 238=some (1,16):=by kernel_rfl
 simp only[ch,e1,e2,e3,if_true]
def TU(n:Nat)(b:Bool)(args:LA)(h:Hp):ch cx (n+1) b 365 args h=A5 6 80 h args:=by
 have e1:cx.oW 365=none:=by kernel_rfl
 have e2:cx.inl 365=true:=by kernel_rfl
 have e3:cx.ins 365=some (6,80):=by kernel_rfl
 simp only[ch,e1,e2,e3,if_true]
def TV(n:Nat)(b:Bool)(args:LA)(h:Hp):ch cx (n+1) b 235 args h=A5 3 56 h args:=by
 have e1:cx.oW 235=none:=by kernel_rfl
 have e2:cx.inl 235=true:=by kernel_rfl
 have e3:cx.ins 235=some (3,56):=by kernel_rfl
 simp only[ch,e1,e2,e3,if_true]
def TW(n:Nat)(b:Bool)(args:LA)(h:Hp):ch cx (n+1) b 242 args h=A5 5 64 h args:=by
 have e1:cx.oW 242=none:=by kernel_rfl
 have e2:cx.inl 242=true:=by kernel_rfl
 have e3:cx.ins 242=some (5,64):=by kernel_rfl
 simp only[ch,e1,e2,e3,if_true]
def HX(f:FuncId)(sz:Nat):Prop:=∀(n:Nat)(b:Bool)(id p q P1 L R:Nat)(cs A r C:LA)(h:Hp),h[id]?=some (.row cs)->P1=p+1->L=p+1+q->R=p+q->A.length=p*sz->r.length=sz->C.length=q*sz->cs.take (L*sz)=A++r++C->L*sz<=cs.length->L<=1000000000->
 ∃cs',ch cx (n+1) b f [.sl id sz 0 L false,p,P1] h=some (.sl id sz 0 R false,h.set id (.row cs'))/\cs'.length=cs.length/\cs'.take (R*sz)=A++C
def K4 :HX 239 1:=λn b id p q P1 L R cs A r C h a1 a2 a3 a4 a5 a6 a7 a8 a9 SG=>by
 simp only[Nat.mul_one]at *;exact yz n b id p q P1 L R cs A r C h a1 a2 a3 a4 a5 a6 a7 a8 a9 SG
def TX :HX 364 6:=λn b id p q P1 L R cs A r C h a1 a2 a3 a4 a5 a6 a7 a8 a9 SG=>BC n b id p q P1 L R cs A r C h a1 a2 a3 a4 a5 a6 a7 a8 a9 SG
def TY :HX 236 3:=λn b id p q P1 L R cs A r C h a1 a2 a3 a4 a5 a6 a7 a8 a9 SG=>BD n b id p q P1 L R cs A r C h a1 a2 a3 a4 a5 a6 a7 a8 a9 SG
def TZ :HX 243 5:=λn b id p q P1 L R cs A r C h a1 a2 a3 a4 a5 a6 a7 a8 a9 SG=>BF n b id p q P1 L R cs A r C h a1 a2 a3 a4 a5 a6 a7 a8 a9 SG
def Ay{f:FuncId}{sz:Nat}(hD:HX f sz){h:Hp}{tag:Nat->Tg}{tg:Tg}{pre post:List LA}{r:LA}{x:AV}(hx:iK h tag tg sz (pre++[r]++post) x)(hr:∀y∈pre++[r]++post,y.length=sz)(hn:(pre++[r]++post).length<=10^6)(n:Nat)(b:Bool):
 ∃x' h',ch cx (n+1) b f [x,pre.length,.sc (.int .i64 ((pre.length:Int)+1))] h=some (x',h')/\iK h' tag tg sz (pre++post) x'/\fM h tag h' tag (λt=>t=tg):=by
 rcases hx with⟨he,hx⟩|⟨id,cs,rfl,h1,h2,h3,h4⟩
 .simp at he
 .have hl:=(Za.1 h1).1;have cf:(pre++[r]++post).length=pre.length+1+post.length:=by simp;omega
  have hA:pre.flatten.length=pre.length*sz:=cQ pre λy hy=>hr y (by simp[hy])
  have hC:post.flatten.length=post.length*sz:=cQ post λy hy=>hr y (by simp[hy])
  rw[cf]at h2 h3 hn;obtain⟨cs',c1,c2,c3⟩:=hD n b id pre.length post.length (pre.length+1) (pre.length+1+post.length) (pre.length+post.length) cs pre.flatten r post.flatten h h1 rfl rfl rfl hA (hr r (by simp)) hC (by rw[h2];simp) h3 (by omega);rw[cf];refine⟨_,_,c1,.inr ⟨id,cs',by simp,Zj hl,?_,?_,h4⟩,fM.set h tag id _ h4⟩
  .rw[Zu,c3,List.flatten_append]
  .rw[c2,Zu];have:(pre.length+post.length)*sz<=(pre.length+1+post.length)*sz:=Zx _ (by omega);omega
def HY{f:AV->Option AV}:∀{l m l' m':LA},l.mapM f=some l'->m.mapM f=some m'->(l++m).mapM f=some (l'++m')
 |
  [],m,l',m',h,k=>by
  have:l'=[]:=by simpa using h.symm
  subst this;simpa using k
 |
  a::l,m,l',m',h,k=>by
  rw[Zo]at h;cases ha:f a with
  |none=>rw[ha]at h;cases h
  |some a'=>
   cases hl:l.mapM f with
   |none=>rw[ha,hl]at h;cases h
   |some l2=>
    rw[ha,hl]at h;have:l'=a'::l2:=by simpa using h.symm
    subst this;rw[Zv,Zo,ha,HY hl k];rfl
def yB{α:Type}{f:AV->Option AV}{R:α->LA->Prop}:∀{l:List α}{cg:List LA},cg.length=l.length->(∀(i:Nat)(a:α)(r:LA),l[i]?=some a->cg[i]?=some r->∃r',r.mapM f=some r'/\R a r')->
 ∃rows':List LA,cg.flatten.mapM f=some rows'.flatten/\rows'.length=l.length/\∀(i:Nat)(a:α),l[i]?=some a->∃r',rows'[i]?=some r'/\R a r'
 |
  [],cg,hl,_=>by
  have:cg=[]:=Zl (by simpa using hl);subst this;exact⟨[],rfl,rfl,by simp⟩
 |
  a::l,cg,hl,h=>by
  cases cg with
  |nil=>simp at hl
  |cons r cg=>
   obtain⟨r',h1,h2⟩:=h 0 a r rfl rfl;obtain⟨rows',h3,h4,h5⟩:=yB (l:=l) (cg:=cg) (f:=f) (R:=R) (by simpa using hl) (λi b s hb hs=>h (i+1) b s (by simpa using hb) (by simpa using hs));refine⟨r'::rows',?_,by simp[h4],?_⟩
   .rw[List.flatten_cons,List.flatten_cons];exact HY h1 h3
   .intro i b hb;cases i with
    |zero=>simp at hb;subst hb;exact⟨r',rfl,h2⟩
    |succ i=>exact h5 i b (by simpa using hb)
def NrR(c:Nd)(r:LA):Prop:=∃a b,r=[.sc (.int .i64 c.id),a,b]/\uF 1 a= .ls 1 (fj c.labels) false/\uF 6 b= .ls 6 (d_ c.props) false
def ErR(c:Ed)(r:LA):Prop:=∃b,r=[.sc (.int .i64 c.id),.sc (.int .i64 c.src),.sc (.int .i64 c.dst),.sc (.string c.type),b]/\uF 6 b= .ls 6 (d_ c.props) false
def BG{h:Hp}{tag:Nat->Tg}{l:List Nd}{cg:List LA}{N:AV}(n:Nat)(ho:iK h tag .nodes 3 cg N)(ha:kJ (Dd h tag) l cg):
 ∃rows' y,Ae.cD h (n+3) N=some y/\uF 3 y= .ls 3 rows' false/\rows'.length=l.length/\(∀r∈rows',r.length=3)/\∀(i:Nat)(c:Nd),l[i]?=some c->∃r',rows'[i]?=some r'/\NrR c r':=by
 obtain⟨rows',h1,h2,h3⟩:=yB (f:=Ae.cD h (n+2)) (R:=NrR) ha.1 (λi c r hc hr=>by
  obtain⟨L,P,rfl,o1,o2⟩:=ha.2 i c r hc hr;obtain⟨y1,a1,a2⟩:=o1.HD (n:=n+1) (by omega) (gm _).1 (gm _).2;obtain⟨y2,b1,b2⟩:=o2.HD (n:=n+1) (by omega) (gQ _).1 (gQ _).2;refine⟨[.sc (.int .i64 c.id),y1,y2],?_,y1,y2,rfl,a2,b2⟩;rw[Zo,Zo,Zo,List.mapM_nil,a1,b1];simp[Ae.cD])
 have h4:∀r∈rows',r.length=3:=λr hr=>by
  obtain⟨i,hi⟩:=List.mem_iff_getElem?.1 hr;have hl:=(Za.1 hi).1;obtain⟨r',e1,a,b,rfl,_⟩:=h3 i _ (Zb (by omega));rw[hi]at e1;cases e1;rfl
 obtain⟨y,e1,e2⟩:=ho.cD (n:=n+2) (by omega) h4 (by rw[h2,ha.1]) h1;exact⟨rows',y,e1,e2,h2,h4,h3⟩
def BH{h:Hp}{tag:Nat->Tg}{l:List Ed}{cg:List LA}{N:AV}(n:Nat)(ho:iK h tag .cj 5 cg N)(ha:kJ (Fq h tag) l cg):
 ∃rows' y,Ae.cD h (n+3) N=some y/\uF 5 y= .ls 5 rows' false/\rows'.length=l.length/\(∀r∈rows',r.length=5)/\∀(i:Nat)(c:Ed),l[i]?=some c->∃r',rows'[i]?=some r'/\ErR c r':=by
 obtain⟨rows',h1,h2,h3⟩:=yB (f:=Ae.cD h (n+2)) (R:=ErR) ha.1 (λi c r hc hr=>by
  obtain⟨P,rfl,o2⟩:=ha.2 i c r hc hr;obtain⟨y2,b1,b2⟩:=o2.HD (n:=n+1) (by omega) (gQ _).1 (gQ _).2;refine⟨[.sc (.int .i64 c.id),.sc (.int .i64 c.src),.sc (.int .i64 c.dst),.sc (.string c.type),y2],?_,y2,rfl,b2⟩;rw[Zo,Zo,Zo,Zo,Zo,List.mapM_nil,b1];simp[Ae.cD])
 have h4:∀r∈rows',r.length=5:=λr hr=>by
  obtain⟨i,hi⟩:=List.mem_iff_getElem?.1 hr;have hl:=(Za.1 hi).1;obtain⟨r',e1,b,rfl,_⟩:=h3 i _ (Zb (by omega));rw[hi]at e1;cases e1;rfl
 obtain⟨y,e1,e2⟩:=ho.cD (n:=n+2) (by omega) h4 (by rw[h2,ha.1]) h1;exact⟨rows',y,e1,e2,h2,h4,h3⟩
def iO(n:Nat)(b:Bool)(E:Nat)(g:Gr)(N V:AV)(kM cY:List LA)(tag:Nat->Tg)(h:Hp)(x:Int)(pre eY post:List Nd)(hG:gp h tag E g N V kM cY)(hl:g.nodes.length<=10^6)(hs:gZ (p_ x) (pB x) g.nodes pre eY post):
 ch cx (n+5) b 233 [.pt E 0,x] h=some (.tp [pre.length,.sc (.bool !eY.isEmpty)],h):=by
 obtain⟨rows',y,e1,e2,e3,e4,e5⟩:=BG 5 hG.ns hG.na;have hy:(∃z,y= .ls 3 rows' z)\/(rows'=[]/\y=()):=uL e2;have ar:=λbb=>Bv n g.nodes pre eY post x rows' y hy (by omega) e3 (λi c hc=>by
  obtain⟨r',r1,a,b,rfl,_⟩:=e5 i c hc;exact⟨a,b,r1⟩) hs bb h
 have hcy:dk y=true:=by rcases hy with⟨z,rfl⟩|⟨_,rfl⟩<;>rfl
 have aa:∀bb,ch cx (n+4) bb 153 [N,x,.fn 355 []] h=some (.tp [pre.length,.sc (.bool !eY.isEmpty)],h):=λbb=>
  lj (n:=n+3) (ys:=[y,.sc (.int .i64 x),.fn 355 []]) (by kernel_rfl) (by kernel_rfl) (by
   rw[Zo,Zo,Zo,List.mapM_nil,e1];simp[Ae.cD]) (by rw[Zn,hcy];rfl) rfl (ar bb)
 have O9:=hG.ns.np;have hb:=hG.box;rw[WX (n:=n+4) f233 [.tmp 4,.tmp 5]];have q0:=kV (λv=>O9 v)
 generalize(!eY.isEmpty)=r at aa|-;simp[f233,hb,q0,aa]
def rR(n:Nat)(b:Bool)(E:Nat)(g:Gr)(N V:AV)(kM cY:List LA)(tag:Nat->Tg)(h:Hp)(x:Int)(pre eY post:List Ed)(hG:gp h tag E g N V kM cY)(hl:g.cj.length<=10^6)(hs:gZ (xj x) (wk x) g.cj pre eY post):
 ch cx (n+5) b 241 [.pt E 0,x] h=some (.tp [pre.length,.sc (.bool !eY.isEmpty)],h):=by
 obtain⟨rows',y,e1,e2,e3,e4,e5⟩:=BH 5 hG.es hG.ea;have hy:(∃z,y= .ls 5 rows' z)\/(rows'=[]/\y=()):=uL e2;have ar:=λbb=>Bw n g.cj pre eY post x rows' y hy (by omega) e3 (λi c hc=>by
  obtain⟨r',r1,b,rfl,_⟩:=e5 i c hc;exact⟨_,_,_,b,r1⟩) hs bb h
 have hcy:dk y=true:=by rcases hy with⟨z,rfl⟩|⟨_,rfl⟩<;>rfl
 have aa:∀bb,ch cx (n+4) bb 366 [V,x,.fn 367 []] h=some (.tp [pre.length,.sc (.bool !eY.isEmpty)],h):=λbb=>
  lj (n:=n+3) (ys:=[y,.sc (.int .i64 x),.fn 367 []]) (by kernel_rfl) (by kernel_rfl) (by
   rw[Zo,Zo,Zo,List.mapM_nil,e1];simp[Ae.cD]) (by rw[Zn,hcy];rfl) rfl (ar bb)
 have O9:=hG.es.np;have hb:=hG.box;rw[WX (n:=n+4) f241 [.tmp 4,.tmp 5]];have q0:=kV (λv=>O9 v)
 generalize(!eY.isEmpty)=r at aa|-;simp[f241,hb,q0,aa]
end
end Go.Proofs.YtmfohnojaginjaaGreatDoor
