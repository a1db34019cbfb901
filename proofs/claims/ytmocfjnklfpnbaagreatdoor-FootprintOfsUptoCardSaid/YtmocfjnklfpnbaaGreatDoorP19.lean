/- Part of the proof. -/
import Derived.Test.YtmocfjnklfpnbaaGreatDoorP18
set_option linter.all false
set_option maxHeartbeats 32000000
set_option maxRecDepth 100000
namespace Go.Proofs.YtmocfjnklfpnbaaGreatDoor
open Go Go.Ae Go.Proofs.Tryz
section
attribute [local simp] ew eY cF
def Wn(D d M:Nat)(l:List Cp)(n:Int)(hb:∀c∈l,Cg D d c)(oE:∀c∈l,AJ D d c)(hl:l.length<=10^6)(hn:2*D+3*d+80<=M):
 PS (M Rl ([.ag (gL l),.sc (.int .i64 n)]++List.replicate 46 .un,[])) (dK l n):=by
 have ae:=λb h=>Q9 D d M b l h hb (by omega)
 have kq:=λfr cp g1 g2 g9(hT:ic (l.take (n_ l.length n)) ⟨[],[],0⟩ 0=dK l n)=>ahb D d M l n _ oE hl (by omega) hT fr cp g1 g2 g9
 rw[show Rl= .seq (cL (cT 0 Rl)) (.seq (cL (cT 1 Rl)) (.seq (cL (cT 2 Rl)) (cT 3 Rl))) by kernel_rfl];generalize cT 3 Rl=Z at kq|-;have hTd:dK l n=if(fW l).2=0 then ic (l.take (n_ l.length n)) ⟨[],[],0⟩ 0 else([],(fW l).1,(fW l).2):=rfl
 generalize dK l n=T,ic (l.take (n_ l.length n)) ⟨[],[],0⟩ 0=T1,fW l=q at *;unfold gL at ae|-;clear hb oE hn;generalize m_ l=cq at *;obtain⟨q1,q2⟩:=q;simp only at ae hTd;by_cases h2:q2=0
 .rw[cw h2]at hTd;subst h2;simp[Rl,cT,cR,cL,f16,ae];exact kq _ (by simp) (by simp) (by simp) (by simp) hTd.symm
 .rw[cv h2]at hTd;subst hTd;refine⟨.sc (.slice none 0 0),[.row [.ls 21 cq false]],?_,.inl ⟨rfl,rfl⟩⟩;simp[Rl,cT,cR,cL,f16,ae,h2]
def G0(D d n:Nat)(b:Bool)(l:List Cp)(m:Int)(h:Hp)(hb:∀c∈l,Cg D d c)(oE:∀c∈l,AJ D d c)(hl:l.length<=10^6)(hn:2*D+3*d+90<=n):cu cx n b 16 [.ag (gL l),m] h=some (.tp [eH 2 (ib (dK l m).1),.sc (.int .i64 (dK l m).2.1),.sc (.int .i64 (dK l m).2.2)],h):=by
 obtain⟨M,rfl⟩:∃M,n=M+1:=⟨n-1,by omega⟩;obtain⟨y,h',ae,hB⟩:=Wn D d M l m hb oE hl (by omega);refine IL (r:= .tp [y,.sc (.int .i64 (dK l m).2.1),.sc (.int .i64 (dK l m).2.2)]) (h':=h') f16 [.tmp 4,.tmp 5,.tmp 6] rfl ae ?_ b h;have jx:=gf (n:=6) (by omega) (kf _).1 (kf _).2 hB;show([y,_,_].mapM (da h' 7)).map AV.tp=_;rw[Zo,jx];rfl
noncomputable def BR :Code:=(f15.body).getD .skip
def PK(r:Option (Out × St))(kK:List ByteArray)(i e:Int):Prop:=∃y h',dT [.tmp 2,.tmp 3,.tmp 4] r=some (.tp [y,i,e],h')/\ka h' 1 (eE kK) y
def ahd(M:Nat)(kK:List ByteArray)(y:AV)(fr:LA)(h:Hp)(cp:fr.length=47)(h8:gt fr 8=y)(hB:ka h 1 (eE kK) y):PK (M (cT 5 BR) (fr,h)) kK 0 0:=by
 have q1:=akN (λv=>hB.np v)
 refine⟨y,h,?_,hB⟩;simp[BR,cT,cR,f15,cp,h8,q1]
def ahe(M:Nat)(sc:gM)(X:Code)(fr:LA)(h:Hp)(hl:sc.length<=24)(cp:fr.length=47)(h5:gt fr 5=eH 2 (ib sc))(h8:gt fr 8=())(cq:List LA)(m:Nat)(row:LA)(kd:Int)(h1:gt fr 1= .pt 0 0)(hh:h[0]?=some (.row [.ls 21 cq false]))(hm:cq.length=m+1)(hm6:m<=1000000)(hr:cq[m]?=some row)(hk:row[0]?=some (.sc (.int .i64 kd)))(hX:∀fr h y,fr.length=47->gt fr 8=y->ka h 1 (eE (if kd=4 then sc.map (·.1)else[])) y->PK (M X (fr,h)) (if kd=4 then sc.map (·.1)else[]) 0 0):
 PK (M (.seq (cL (cT 4 BR)) X) (fr,h)) (if kd=4 then sc.map (·.1)else[]) 0 0:=by
 have tV:dA .i64 (((m+1:Nat):Int)-1)=(m:Int):=by
  rw[cK (by omega) (by omega)];omega
 have cC:∀k,cq[m]'k=row:=λkx=>by obtain⟨_,e⟩:=Za.1 hr;exact e
 generalize hL:((m+1:Nat):Int)=L at tV;have hmL:(cq.length:Int)=L:=by rw[hm];exact hL
 have IK:m<cq.length:=by omega
 by_cases k4:kd=4
 .rw[cw k4]at hX|-;subst k4;by_cases hs0:sc=[]
  .subst hs0;rw[show eH 2 (ib [])= .sc (.slice none 0 0)from rfl]at h5;simp[BR,cT,cR,cL,f15,cp,h1,hh,hmL,tV,cC,hk,IK,h5];generalize cU:M (.loop _) _=XX;refine gk cU (λi st _=>st.length=47/\gt st 8=()/\gt st 35=(0:Int)/\gt st 36=(0:Int)) (λo st _=>o= .exit 0/\st.length=47/\gt st 8=()) 0 (by simp) ⟨by simp[cp],by simp[h8,cp]⟩ ?_ ?_
   .rintro i fr hp cP ⟨cp,h8,h35,h36⟩;simp[cp,h8,h35,h36]
   .rintro o cG h' rfl ⟨rfl,cp,h8⟩;simp;exact hX _ _ _ cp h8 (.inl ⟨rfl,rfl⟩)
  .obtain⟨c0,l0,rfl⟩:∃c l,sc=c::l:=by cases sc with
    |nil=>exact absurd rfl hs0
    |cons c l=>exact⟨c,l,rfl⟩
   rw[show eH 2 (ib (c0::l0))= .ls 2 (ib (c0::l0)) false from rfl]at h5;generalize c0::l0=sc at *;have hq:=fl sc;have hg:=zf sc;generalize ib sc=rs at hq hg h5;simp[BR,cT,cR,cL,f15,cp,h1,hh,hmL,tV,cC,hk,IK,h5,hq];generalize cU:M (.loop _) _=XX;refine gk cU (λi st cD=>st.length=47/\gt st 34= .ls 2 rs false/\gt st 35=sc.length/\gt st 36=i/\∃y,gt st 8=y/\ka cD 1 (eE ((sc.take i).map (·.1))) y) (λo st cD=>o= .exit 0/\st.length=47/\∃y,gt st 8=y/\ka cD 1 (eE (sc.map (·.1))) y) sc.length (by simp;omega) ⟨by simp[cp],by simp[cp],by simp[cp],by simp[cp],_,by simp[h8],.inl ⟨rfl,rfl⟩⟩ ?_ ?_
   .clear cU XX cp h1 h5 h8 hh tV hX hmL hL hr cC;rintro i fr hp cP ⟨cp,h34,h35,h36,y,h8,hy⟩;rcases dY hg cP with⟨x,hi,hx,hr,cC⟩|rfl
    .have fH:i<=10^15:=by omega
     have dO:(sc.take (i+1)).map (·.1)=(sc.take i).map (·.1)++[x.1]:=by rw[jX hx];simp
     have q3:=akN (λv=>hy.np v)
     have iB:((sc.take i).map (·.1)).length<=10^9:=by simp;omega
     obtain⟨lB,h4,b1,b2,b3,b4⟩:=iy (t:=47) kp rfl (hp++[.row (Pw x)]) [x.1] (eE ((sc.take i).map (·.1))) y (hy.grow _) rfl (g_ _).1 (by omega) (by rw[cI];exact iB) (by omega);have xW:=Ab (sz:=1) b2;simp only[Zp,Zv,Zw,Zu,Ys,List.length_nil,Xk]at b1;unfold Pw at hr cC b1;rw[<-nX,<-dO]at xW;generalize(eE ((sc.take i).map (·.1))).length=F at b1 xW;have hf:=cz fH;simp[cp,h34,h35,h36,h8,q3,hi,hq,cC,b1,hf];simpa using xW
    .rw[Xq]at hy;simp[cp,h35,h36];rw[h8];exact hy
   .rintro o cG h' rfl ⟨rfl,cp,y,h8,hy⟩;simp;exact hX _ _ y cp h8 hy
 .rw[cv k4]at hX|-;simp[BR,cT,cR,cL,f15,cp,h1,hh,hmL,tV,cC,hk,k4,IK];exact hX _ _ _ (by simp[cp]) (by simp[h8]) (.inl ⟨rfl,rfl⟩)
def gv(l:List Cp):gM × Int × Int:=dK l l.length
def G1(D d n:Nat)(b:Bool)(l:List Cp)(h:Hp)(hb:∀c∈l,Cg D d c)(oE:∀c∈l,AJ D d c)(hl:l.length<=10^6)(hn:2*D+3*d+100<=n):∃kK,cu cx n b 15 [.ag (gL l)] h=some (.tp [eH 1 (eE kK),.sc (.int .i64 (gv l).2.1),.sc (.int .i64 (gv l).2.2)],h):=by
 obtain⟨M,rfl⟩:∃M,n=M+1:=⟨n-1,by omega⟩;have ae:=λb h=>G0 D d M b l l.length h hb oE hl (by omega)
 have JP:=uI l l.length;have IG:(gv l).2.2=0->(gv l).2.1=0/\l≠ []:=by
  intro h0;unfold gv dK at h0|-;by_cases hq:(fW l).2=0
  .rw[cw hq]at h0|-;refine⟨?_,?_⟩
   .clear ae JP;generalize l.take _=lm at *;have key:∀(lm:List Cp)(s:Bs)(i:Nat),(ic lm s i).2.2=0->(ic lm s i).2.1=0:=by
     intro lm
     induction lm with
     |nil=>intro s i _;rfl
     |cons c lm ih=>
      intro s i h;rw[ic]at h|-;split at h
      .rename_i he;rw[cw he];exact ih _ _ h
      .rename_i he;exact absurd h he
    exact key _ _ _ h0
   .rintro rfl;simp[fW]at hq
  .rw[cv hq]at h0;exact absurd h0 hq
 have hkd:∃kK,PK (M BR ([.ag (gL l)]++List.replicate 46 .un,[])) kK (gv l).2.1 (gv l).2.2:=by
  rw[show BR= .seq (cL (cT 0 BR)) (.seq (cL (cT 1 BR)) (.seq (cL (cT 2 BR)) (.seq (cL (cT 3 BR)) (.seq (cL (cT 4 BR)) (cT 5 BR))))) by kernel_rfl];change∀b h,cu cx M b 16 _ h=some (.tp [eH 2 (ib (gv l).1),.sc (.int .i64 (gv l).2.1),.sc (.int .i64 (gv l).2.2)],h)at ae;change(gv l).1.length<=24 at JP;have hy:∀v,eH 2 (ib (gv l).1)≠ .pn v:=λv=>by unfold eH;split<;>simp
  have q3:=akN hy
  have hq:=jj l;by_cases h0:(gv l).2.2=0
  .obtain⟨h1,gE⟩:=IG h0;obtain⟨m,hm⟩:∃m,l.length=m+1:=⟨l.length-1,by have:=List.length_pos_iff.2 gE;omega⟩;obtain⟨c,hc⟩:∃c,l[m]?=some c:=⟨_,Zb (by omega)⟩;have hr:(m_ l)[m]?=some (cA c):=by rw[oQ,hc];rfl
   rw[h0,h1]at ae|-;refine⟨if c.kind=4 then(gv l).1.map (·.1)else[],?_⟩;have kq:=λfr h cp h5 h8 h1 hh=>ahe M (gv l).1 (cT 5 BR) fr h JP cp h5 h8 (m_ l) m (cA c) c.kind h1 hh (by rw[hq,hm]) (by omega) hr rfl (λfr h y cp h8 hB=>ahd M _ y fr h cp h8 hB)
   generalize Code.seq (cL (cT 4 BR)) (cT 5 BR)=Z at kq|-;generalize(if c.kind=4 then(gv l).1.map (·.1)else[])=kK at *;unfold gL at *;generalize eH 2 (ib (gv l).1)=y at *;have hqi:((m_ l).length:Int)=(l.length:Int):=by rw[hq]
   clear hr hc hm IG;generalize m_ l=cq,(l.length:Int)=L at *;simp[BR,cT,cR,cL,f15,ae,q3,hqi];exact kq _ _ (by simp) (by simp) (by simp) (by simp) rfl
  .refine⟨[],.sc (.slice none 0 0),[.row (gL l)],?_,.inl ⟨rfl,rfl⟩⟩;unfold gL at *;have hqi:((m_ l).length:Int)=(l.length:Int):=by rw[hq]
   clear IG;generalize Code.seq (cL (cT 3 BR)) (.seq (cL (cT 4 BR)) (cT 5 BR))=Z;generalize eH 2 (ib (gv l).1)=y,(gv l).2.1=i1,(gv l).2.2=i2,m_ l=cq,(l.length:Int)=L at *;simp[BR,cT,cR,cL,f15,ae,q3,hqi,h0]
 obtain⟨kK,y,h',af,hB⟩:=hkd;refine⟨kK,?_⟩;refine IL (r:= .tp [y,.sc (.int .i64 (gv l).2.1),.sc (.int .i64 (gv l).2.2)]) (h':=h') f15 [.tmp 2,.tmp 3,.tmp 4] rfl af ?_ b h;have jx:=gf (n:=6) (by omega) (g_ _).1 (g_ _).2 hB;show([y,_,_].mapM (da h' 7)).map AV.tp=_;rw[Zo,jx];rfl
end
section
attribute [local simp] ew eY
def zV :V:= .mk 0 0 0 ⟨#[]⟩ true []
def ij(k:Int)(n:ByteArray):Pr:=⟨k,n,⟨#[]⟩,zV⟩
def gN(l:List Pr):List LA:=l.map eQ
def ef(l:List Pr):(gN l).length=l.length:=by simp[gN]
def EH(l:List Pr)(i:Nat):(gN l)[i]?=(l[i]?).map eQ:=by simp[gN]
def eI(p:Pr):(eQ p).length=8:=by unfold eQ;simp[jN]
def lM(l:List Pr):∀r∈gN l,r.length=8:=λr hr=>by obtain⟨c,_,rfl⟩:=Yf.1 hr;exact eI c
def G2(k:Int)(n:ByteArray):eQ (ij k n)=[.sc (.int .i64 k),.sc (.string n),.sc (.string ⟨#[]⟩),.sc (.int .i64 0),.sc (.int .i64 0),.sc (.int .i64 0),.sc (.string ⟨#[]⟩),.sc (.slice none 0 0)]:=by
 simp[eQ,ij,zV,enc,zT,fj]
def pP(id j:Nat)(h:Hp):Prop:=j≠id/\∀m,h[id]?≠some (.row [.sl j 8 0 m false])
def KR(id:Nat)(h h':Hp):Prop:=∀(j:Nat)(b:eV),h[j]?=some b->pP id j h->h'[j]?=some b/\pP id j h'
def KR.refl(id:Nat)(h:Hp):KR id h h:=λ_ _ hj hf=>⟨hj,hf⟩
def KR.trans{id:Nat}{a b c:Hp}(h1:KR id a b)(h2:KR id b c):KR id a c:=λj x hj hf=>by
 obtain⟨a1,a2⟩:=h1 j x hj hf;exact h2 j x a1 a2
def RS(id:Nat)(l:List Pr)(h:Hp):Prop:=∃y,h[id]?=some (.row [y])/\ka h 8 (gN l) y/\∀k m,y= .sl k 8 0 m false->k≠id
def RS.lt{id:Nat}{l:List Pr}{h:Hp}(hS:RS id l h):id<h.length:=by
 obtain⟨y,h0,_⟩:=hS;exact(Za.1 h0).1
def RS.app{id:Nat}{l:List Pr}{h:Hp}(k:Hp)(hS:RS id l h):RS id l (h++k):=by
 obtain⟨y,h0,hB,hn⟩:=hS;exact⟨y,cJ k h0,hB.grow k,hn⟩
def KR.app{id:Nat}{h:Hp}(k:Hp)(du:id<h.length):KR id h (h++k):=λj b hj hf=>by
 refine⟨cJ k hj,hf.1,λm e=>hf.2 m ?_⟩;rw[Zd du]at e;exact e
def RS.free{id:Nat}{l:List Pr}{h:Hp}(k:Hp)(hS:RS id l h):pP id h.length (h++k):=by
 have du:=hS.lt;obtain⟨y,h0,hB,hn⟩:=hS;refine⟨by omega,λm e=>?_⟩;rw[Zd du,h0]at e;injection e with e
 injection e with e
 injection e with e _
 rcases hB with⟨_,rfl⟩|⟨_,i,rfl,hi⟩
 .cases e
 .injection e with e
  have:=(Za.1 hi).1;omega
def G3{t:TypeId}{i:Ti}{sz bytes:Nat}{ag:Bool}{ez:List Value}(hT:cx.T t=some i)(hk:i.kd= .slice sz ag bytes ez)(h:Hp)(c:LA)(z:Bool)(cq:List LA)(x:AV)(hx:ka h sz cq x)(hc:c.length=sz)(hr:∀r∈cq,r.length=sz)(ik:0<sz)(hn:cq.length<=10^9)(hb:bytes<=1000):
 ∃id h',fg cx h t x (.ls sz [c] z)=some (.sl id sz 0 (cq.length+1) false,h')/\h'[id]?=some (.row (cq++[c]).flatten)/\
  (∀j b,h[j]?=some b->(∀k n,x= .sl k sz 0 n false->j≠k)->h'[j]?=some b)/\h.length<=id:=by
 obtain⟨size,agg,zero,kd⟩:=i;simp only at hk;subst hk;have nb:gV h (.ls sz [c] z)=some (1,c):=by simp[gV]
 rcases hx with⟨rfl,rfl⟩|⟨gE,id,rfl,ej⟩
 .refine⟨h.length,h++[.row c],?_,by simp,λj b hj _=>cJ _ hj,Yq _⟩;unfold fg;rw[hT];simp only[kM,beq_self_eq_true,Bool.and_self,if_true,nb];rw[cv (by omega),cw (by unfold maxLen;omega)];rfl
 .have vj:cq.flatten.length=cq.length*sz:=e9 cq hr;have yF:(cq.length+1)*bytes<=140737488355328:=by
   have:=Nat.mul_le_mul (show cq.length+1<=1000000001 by omega) hb;omega
  have hmul:(cq.length+1)*sz=cq.length*sz+sz:=by rw[Xh,Nat.one_mul]
  refine⟨h.length,h.set id .dead++[.row (cq.flatten++c)],?_,?_,λj b hj hjk=>?_,Yq _⟩
  .unfold fg;rw[hT];simp only[kM,beq_self_eq_true,Bool.and_self,if_true,nb,ej];rw[cv (by omega),cv (by omega),cw ⟨trivial,vj,by unfold maxLen;omega,yF⟩]
  .rw[Zf (by simp)];simp
  .have lD:=(Za.1 hj).1;have Cc:j≠id:=hjk id _ rfl;rw[Zd (by simp;omega)];exact d_ hj λe=>Cc e.symm
def G4{id:Nat}{l:List Pr}{h h1:Hp}{y:AV}{j:Nat}(p:Pr)(h0:h[id]?=some (.row [y]))(hn:∀k m,y= .sl k 8 0 m false->k≠id)(hy:h1[j]?=some (.row (gN l++[eQ p]).flatten))(hk:∀i b,h[i]?=some b->(∀k n,y= .sl k 8 0 n false->i≠k)->h1[i]?=some b)(hj:h.length<=j):
 RS id (l++[p]) (h1.set id (.row [.sl j 8 0 ((gN l).length+1) false]))/\KR id h (h1.set id (.row [.sl j 8 0 ((gN l).length+1) false])):=by
 have wY:=(Za.1 h0).1;have jv:=hk id _ h0 (λk n e=>(hn k n e).symm);have Nf:j≠id:=by omega
 refine⟨⟨_,dC jv,.inr ⟨by simp[gN],j,by simp[gN],?_⟩,λk m e=>by injection e;omega⟩,λi b hi hf=>⟨?_,hf.1,λm e=>?_⟩⟩
 .rw[show gN (l++[p])=gN l++[eQ p] by simp[gN]];exact d_ hy λe=>Nf e.symm
 .refine d_ (hk i b hi λk n e=>?_) λe=>hf.1 e.symm
  rintro rfl;exact hf.2 n (by rw[h0,e])
 .rw[dC jv]at e;injection e with e
  injection e with e
  injection e with e _
  injection e with e
  have:=(Za.1 hi).1;omega
def kL(n:Nat)(t:Bool)(id:Nat)(l:List Pr)(k:Int)(nm:ByteArray)(h:Hp)(hS:RS id l h)(hl:l.length<=10^9):∃h',cu cx (n+1) t 47 [.pt id 0,k,nm] h=some (.tp [],h')/\RS id (l++[ij k nm]) h'/\KR id h h':=by
 rw[rr (n:=n) f47 []];obtain⟨y,h0,hB,hn⟩:=hS;obtain⟨j,h1,b1,b2,b3,b4⟩:=G3 (t:=82) ZV rfl h (eQ (ij k nm)) true (gN l) y hB (eI _) (lM l) (by omega) (by rw[ef];exact hl) (by omega);obtain⟨r1,r2⟩:=G4 (ij k nm) h0 hn b2 b3 b4;refine⟨_,?_,r1,r2⟩;have jv:=b3 id _ h0 (λk n e=>(hn k n e).symm);have q1:=akN (λv=>hB.np v)
 have Wm:cls y=some [y]:=by rcases hB with⟨_,rfl⟩|⟨_,j,rfl,_⟩<;>rfl
 rw[G2]at b1;generalize(gN l).length=m at *;simp[f47,h0,q1,b1,jv,cF,h_,lY,chunk,calm]
def zj :ByteArray:=⟨#[108,97,98,101,108,115]⟩
def LD :ByteArray:=⟨#[116,121,112,101]⟩
def EI :ByteArray:=⟨#[115,116,97,114,116]⟩
def Wo :ByteArray:=⟨#[101,110,100]⟩
def mI :ByteArray:=⟨#[]⟩
def pQ(op:Int)(nm:ByteArray):List Pr:=if op=3 then[ij 3 nm,ij 6 nm]else if op=4 then[ij 2 nm]else if op=23 then(if dn nm zj=true then[ij 2 mI]else if dn nm LD=true then[ij 5 mI]else if dn nm EI=true then[ij 5 mI]else if dn nm Wo=true then[ij 5 mI]else[])else[]
mutual
def ja :Ep->List Pr
 | .mk op _ nm _ ks=>pQ op nm++mS ks
def mS :List Ep->List Pr
 | []=> []
 |x::xs=>ja x++mS xs
end
def LF(op:Int)(nm:ByteArray):(pQ op nm).length<=2:=by
 unfold pQ
 repeat' split
 all_goals simp
mutual
def fF :∀e:Ep,(ja e).length<=2*dc e
 |
  .mk op v nm ds ks=>by
  rw[ja,dc,Zu];have h1:=LF op nm;have h2:=G5 ks;omega
def G5 :∀l:List Ep,(mS l).length<=2*iA l
 | []=>by simp[mS]
 |
  x::xs=>by
  rw[mS,iA,Zu];have h1:=fF x;have h2:=G5 xs;omega
end
def pR :∀l:List Ep,iA l=(l.map dc).sum
 | []=>by simp[iA]
 |x::xs=>by rw[iA,Yn,Yo,pR xs]
def PR(id:Nat)(T:List Pr)(h0:Hp)(r:Option (Out × St)):Prop:=∃h',dT [] r=some (.tp [],h')/\RS id T h'/\KR id h0 h'
def G6(k:Int):List Pr:=if k=1 then[ij 1 mI]else if k=2 then[ij 5 mI]else[]
def vQ(k:Int):(G6 k).length<=1:=by
 unfold G6;split
 .simp
 .split<;>simp
def vR(n:Nat)(t:Bool)(id:Nat)(l:List Pr)(k:Int)(h:Hp)(hS:RS id l h)(hl:l.length<=10^9):∃h',cu cx (n+2) t 45 [.pt id 0,k] h=some (.tp [],h')/\RS id (l++G6 k) h'/\KR id h h':=by
 rw[rr (n:=n+1) f45 []];have fa:=λk nm=>kL n true id l k nm h hS hl
 generalize n+1=M at fa|-;unfold G6;by_cases k1:k=1
 .rw[cw k1];obtain⟨h',ae,ig,hK'⟩:=fa 1 mI;unfold mI at ae;refine⟨h',?_,ig,hK'⟩;simp[f45,k1,ae,h_]
 rw[cv k1];by_cases k2:k=2
 .rw[cw k2];obtain⟨h',ae,ig,hK'⟩:=fa 5 mI;unfold mI at ae;refine⟨h',?_,ig,hK'⟩;simp[f45,k2,ae,h_]
 .rw[cv k2,Yk];refine⟨h,?_,hS,KR.refl _ _⟩;simp[f45,k1,k2,h_]
def qH(D:Nat):∀(d:Nat)(e:Ep),lE e<=d->ke D e->∀(n:Nat)(t:Bool)(id:Nat)(l:List Pr)(h:Hp),RS id l h->l.length+2*dc e<=1000000000->∃h',cu cx (n+d+1) t 44 [.pt id 0,.ag (cM e)] h=some (.tp [],h')/\RS id (l++ja e) h'/\KR id h h':=by
 intro d
 induction d with
 |zero=>intro e h;have:=jU e;omega
 |succ d ih=>
  intro e de be n t id l h hS hl;rw[show n+(d+1)+1=n+d+1+1 by omega];rw[rr (n:=n+d+1) f44 []];have ho:=λx hx=>ih x (kU de hx) (mQ be hx) n
  obtain⟨op,v,nm,ds,ks⟩:=e;simp only[Ep.ks]at ho;rw[dc]at hl;obtain⟨k,n',d',s,lv,rfl,hs,qg⟩:=Jz be;rw[jO rfl,ja];have hq:=cX ks;have hg:=eM ks;generalize cZ ks=cq at hq hg|-;generalize fj lv=r5;have fa:=λ(l:List Pr)k nm h hS hl=>kL (n+d) true id l k nm h hS hl
  generalize n+d+1=M at ho fa|-;have loop:∀(l:List Pr)(fr:LA)(h h0:Hp),RS id l h->KR id h0 h->l.length+2*iA ks<=1000000000->fr.length=49->gt fr 0= .pt id 0->gt fr 39= .ls 9 cq false->gt fr 40= .sc (.int .i64 (ks.length:Nat))->gt fr 41= .sc (.int .i64 (0:Nat))->PR id (l++mS ks) h0 (M (cT 3 ((f44.body).getD .skip)) (fr,h)):=by
   intro l fr h h0 hS hK hl cp g0 h39 h40 h41;simp[cT,cR,f44];generalize cU:M (.loop _) _=XX,hT:l++mS ks=T;refine gk cU
    (λi st cD=>st.length=49/\gt st 0= .pt id 0/\gt st 39= .ls 9 cq false/\gt st 40=ks.length/\gt st 41=i/\∃l',RS id l' cD/\KR id h0 cD/\l'.length+2*iA (ks.drop i)<=1000000000/\l'++mS (ks.drop i)=T)
    (λo st cD=>o= .exit 2/\RS id T cD/\KR id h0 cD)
    ks.length (by simp;omega) ⟨cp,g0,h39,h40,h41,l,hS,hK,hl,hT⟩ ?_ ?_
   .clear cU XX hT hS hK hl cp g0 h39 h40 h41 l;rintro i fr hp cP ⟨cp,g0,h39,h40,h41,l,hS,hK,hl,hT⟩;rcases dY hg cP with⟨x,hi,hx,hr,cC⟩|rfl
    .have fH:i<=10^15:=Yj cP qg;rw[cH hx,iA]at hl;rw[cH hx,mS,<-Zp]at hT;have du:=hS.lt;obtain⟨h',ae,ig,hK'⟩:=ho x (Zi hx) true id l _ (hS.app [.row (cM x)]) (by omega);have iF:(l++ja x).length+2*iA (ks.drop (i+1))<=1000000000:=by have:=fF x;rw[Zu];omega
     have ph:=(hK.trans (KR.app [.row (cM x)] du)).trans hK';have dH:=cB x;generalize cM x=ev at hr cC ae dH;have dJ:ev.take 9=ev:=Yy (by omega);have mZ:=rW dH;have hf:=cz fH;simp[cp,g0,h39,h40,h41,hi,hq,cC,dH,dJ,mZ,ae,hf];exact⟨_,ig,ph,iF,hT⟩
    .rw[Yc,mS,Yk]at hT;subst hT;simp[cp,h40,h41];exact⟨hS,hK⟩
   .rintro o cG h' rfl ⟨rfl,hS,hK⟩;exact⟨h',by simp[h_],hS,hK⟩
  generalize hT:l++(pQ op nm++mS ks)=T;have rest:∀(l':List Pr)(fr:LA)(h1:Hp),l'++mS ks=T->RS id l' h1->KR id h h1->l'.length+2*iA ks<=1000000000->fr.length=49->gt fr 0= .pt id 0->gt fr 3= .pt h.length 0->h1[h.length]?=some (.row [op,k,n',d',s,.ls 5 r5 false,nm,ds,.ls 9 cq false])->PR id T h (M (cT 2 ((f44.body).getD .skip)) (fr,h1)):=by
   intro l' fr h1 hT1 gm f_ wN cp g0 g3 gb;rw[show cT 2 ((f44.body).getD .skip)= .seq (cL (cT 2 ((f44.body).getD .skip))) (cT 3 ((f44.body).getD .skip)) by kernel_rfl];have lp:=λfr=>loop l' fr h1 h gm f_ wN
   rw[hT1]at lp;generalize cT 3 ((f44.body).getD .skip)=Z at lp|-;simp[cT,cR,cL,f44,cp,g3,gb,hq];exact lp _ (by simp[cp]) (by simp[g0]) (by simp[cp]) (by simp[cp]) (by simp[cp])
  clear loop ho;show PR id T h (M ((f44.body).getD .skip) _);rw[show((f44.body).getD .skip)= .seq (cL (cT 0 ((f44.body).getD .skip))) (.seq (cL (cT 1 ((f44.body).getD .skip))) (cT 2 ((f44.body).getD .skip))) by kernel_rfl];generalize cT 2 ((f44.body).getD .skip)=Z at rest|-;have du:=hS.lt;have gb:(h++[eV.row [op,k,n',d',s,.ls 5 r5 false,nm,ds,.ls 9 cq false]])[h.length]?=some (.row [op,k,n',d',s,.ls 5 r5 false,nm,ds,.ls 9 cq false]):=by simp
  have fr0:=hS.free [.row [op,k,n',d',s,.ls 5 r5 false,nm,ds,.ls 9 cq false]];have Rm:=hS.app [.row [op,k,n',d',s,.ls 5 r5 false,nm,ds,.ls 9 cq false]];have vT:KR id h (h++[.row [op,k,n',d',s,.ls 5 r5 false,nm,ds,.ls 9 cq false]]):=KR.app _ du;have hlq:l.length+2+2*iA ks<=1000000000:=by omega
  generalize xj:h++[eV.row [op,k,n',d',s,.ls 5 r5 false,nm,ds,.ls 9 cq false]]=H at *;have one:∀kk nn,∃h1,cu cx M true 47 [.pt id 0,.sc (.int .i64 kk),.sc (.string nn)] H=some (.tp [],h1)/\RS id (l++[ij kk nn]) h1/\KR id h h1/\h1[h.length]?=some (.row [op,k,n',d',s,.ls 5 r5 false,nm,ds,.ls 9 cq false])/\pP id h.length h1:=by
   intro kk nn;obtain⟨h1,ae,gm,f_⟩:=fa l kk nn H Rm (by omega);obtain⟨g1,g2⟩:=f_ _ _ gb fr0;exact⟨h1,ae,gm,vT.trans f_,g1,g2⟩
  unfold pQ at hT;by_cases o3:op=3
  .rw[cw o3]at hT;subst o3;obtain⟨h1,ae,gm,f_,g1,g2⟩:=one 3 nm;obtain⟨h2,af,jI,ph⟩:=fa _ 6 nm h1 gm (by simp;omega);obtain⟨g3,g4⟩:=ph _ _ g1 g2;have rs:=λfr=>rest _ fr h2 (by rw[<-hT];simp) jI (f_.trans ph) (by simp;omega)
   simp[cT,cR,cL,f44,xj,gb,g1,ae,af];exact rs _ (by simp) (by simp) (by simp) g3
  rw[cv o3]at hT;by_cases o4:op=4
  .rw[cw o4]at hT;subst o4;obtain⟨h1,ae,gm,f_,g1,g2⟩:=one 2 nm;have rs:=λfr=>rest _ fr h1 (by rw[<-hT];simp) gm f_ (by simp;omega)
   simp[cT,cR,cL,f44,xj,gb,ae];exact rs _ (by simp) (by simp) (by simp) g1
  rw[cv o4]at hT;have r0:=λfr hT=>rest l fr H hT Rm vT (by omega)
  by_cases o23:op=23
  .rw[cw o23]at hT;subst o23;have adJ:=one 2 mI;have adK:=one 5 mI;have adL:∀p:Pr,(l++[p]).length+2*iA ks<=1000000000:=λp=>by simp;omega
   clear one hlq hl;unfold mI at adJ adK;unfold zj LD EI Wo mI at hT;by_cases e1:dn nm ⟨#[108,97,98,101,108,115]⟩=true
   .rw[cw e1]at hT;obtain⟨h1,ae,gm,f_,g1,g2⟩:=adJ;have rs:=λfr=>rest _ fr h1 (by rw[<-hT];simp) gm f_ (adL _)
    simp[cT,cR,cL,f44,xj,gb,e1,ae];exact rs _ (by simp) (by simp) (by simp) g1
   rw[cv e1]at hT;obtain⟨h1,ae,gm,f_,g1,g2⟩:=adK;have rs:=λfr hT=>rest _ fr h1 hT gm f_ (adL _)
   by_cases e2:dn nm ⟨#[116,121,112,101]⟩=true
   .rw[cw e2]at hT;simp[cT,cR,cL,f44,xj,gb,e1,e2,ae];exact rs _ (by rw[<-hT];simp) (by simp) (by simp) (by simp) g1
   rw[cv e2]at hT;by_cases e3:dn nm ⟨#[115,116,97,114,116]⟩=true
   .rw[cw e3]at hT;simp[cT,cR,cL,f44,xj,gb,e1,e2,e3,ae];exact rs _ (by rw[<-hT];simp) (by simp) (by simp) (by simp) g1
   rw[cv e3]at hT;by_cases e4:dn nm ⟨#[101,110,100]⟩=true
   .rw[cw e4]at hT;simp[cT,cR,cL,f44,xj,gb,e1,e2,e3,e4,ae];exact rs _ (by rw[<-hT];simp) (by simp) (by simp) (by simp) g1
   rw[cv e4]at hT;simp[cT,cR,cL,f44,xj,gb,e1,e2,e3,e4];exact r0 _ (by rw[<-hT];simp) (by simp) (by simp) (by simp) gb
  .rw[cv o23]at hT;simp[cT,cR,cL,f44,xj,gb,o3,o4,o23];exact r0 _ (by rw[<-hT];simp) (by simp) (by simp) (by simp) gb
def nj(l:List Pp):Nat:=(l.map λq=>dc q.e).sum
def tL(l:List Pp):List Pr:=l.flatMap λq=>ja q.e
def td(l:List Pp):(tL l).length<=2*nj l:=by
 induction l with
 |nil=>simp[tL]
 |cons q l ih=>
  have:=fF q.e;unfold tL nj at *;rw[Ym,Zu,Yn,Yo];omega
def G7(D d n:Nat)(t:Bool)(id:Nat)(l:List Pr)(ps:List Pp)(h:Hp)(hS:RS id l h)(hb:∀q∈ps,oz D d q.e)(oy:ps.length<=10^9)(hl:l.length+2*nj ps<=1000000000)(hn:d+5<=n):∃h',cu cx n t 84 [.pt id 0,.ls 10 (jw ps) false] h=some (.tp [],h')/\RS id (l++tL ps) h'/\KR id h h':=by
 obtain⟨M,rfl⟩:∃m,n=m+1:=⟨n-1,by omega⟩;obtain⟨k1,e1⟩:∃k,M=k+d+1:=⟨M-d-1,by omega⟩;rw[rr (n:=M) f84 []];have fx:=λb(l:List Pr)(e:Ep)h(he:oz D d e)hS hl=>qH D d e he.1 he.2 k1 b id l h hS hl
 rw[<-e1]at fx;clear e1 hn;have hq:=dP ps;have hg:=jf ps;generalize jw ps=cq at hq hg|-;generalize hT:l++tL ps=T;show PR id T h _;simp[f84,hq];generalize cU:M (.loop _) _=XX;refine gk cU
  (λi st cD=>st.length=17/\gt st 0= .pt id 0/\gt st 6= .ls 10 cq false/\gt st 7=ps.length/\gt st 8=i/\∃l',RS id l' cD/\KR id h cD/\l'.length+2*nj (ps.drop i)<=1000000000/\l'++tL (ps.drop i)=T)
  (λo st cD=>o= .exit 0/\RS id T cD/\KR id h cD)
  ps.length (by simp;omega) ⟨rfl,rfl,rfl,rfl,rfl,l,hS,KR.refl _ _,hl,hT⟩ ?_ ?_
 .clear cU XX hT hS hl l;rintro i fr hp cP ⟨cp,g0,h6,h7,h8,l,hS,hK,hl,hT⟩;rcases dY hg cP with⟨x,hi,hx,hr,cC⟩|rfl
  .have fH:i<=10^15:=by omega
   rw[cH hx]at hl hT;unfold nj at hl;unfold tL at hT;rw[Yn,Yo]at hl;rw[Ym,<-Zp]at hT;have du:=hS.lt;obtain⟨h',ae,ig,hK'⟩:=fx true l x.e _ (hb x (Zi hx)) (hS.app [.row (eF x)]) (by omega);have iF:(l++ja x.e).length+2*nj (ps.drop (i+1))<=1000000000:=by unfold nj;have:=fF x.e;rw[Zu];omega
   have ph:=(hK.trans (KR.app [.row (eF x)] du)).trans hK';have dH:=cB x.e;unfold eF at hr cC ae;generalize cM x.e=ev at hr cC ae dH;have dJ:ev.take 9=ev:=Yy (by omega);have jT:=qY (ev:= .sc (.string x.key)::ev) (by simp[dH]);have hf:=cz fH;simp[cp,g0,h6,h7,h8,hi,hq,cC,dH,dJ,jT,ae,hf];exact⟨_,ig,ph,iF,hT⟩
  .rw[Yc]at hT;unfold tL at hT;rw[Xo,Yk]at hT;subst hT;simp[cp,h7,h8];exact⟨hS,hK⟩
 .rintro o cG h' rfl ⟨rfl,hS,hK⟩;exact⟨h',by simp[h_],hS,hK⟩
noncomputable def IM :Code:=(f86.body).getD .skip
noncomputable def FL :Code:=(f85.body).getD .skip
def ahf(M id:Nat)(ps:List ByteArray)(cq:List LA)(j:Nat)(row:LA)(cY:row[1]?=some (.ls 1 cq false))(T:List Pr)(h0:Hp)(X:Code)(hq:cq.length=ps.length)(hg:∀i:Nat,cq[i]?=(ps[i]?).map (λs=> [.sc (.string s)]))(oy:ps.length<=500000000)(hn:1<=M)(l0:List Pr)(ki:l0.length+ps.length<=10^9)(hX:∀fr h l,RS id l h->KR id h0 h->l=l0++(ps.map λx=>ij 5 x)->fr.length=37->gt fr 0= .pt id 0->gt fr 3= .pt j 0->h[j]?=some (.row row)->pP id j h->PR id T h0 (M X (fr,h)))(fr:LA)(h:Hp)(hS:RS id l0 h)(hK:KR id h0 h)(cp:fr.length=37)(g0:gt fr 0= .pt id 0)(g3:gt fr 3= .pt j 0)(gj:h[j]?=some (.row row))(gF:pP id j h):PR id T h0 (M (.seq (cL (cT 2 IM)) X) (fr,h)):=by
 obtain⟨k1,e1⟩:∃k,M=k+1:=⟨M-1,by omega⟩;have fa:=λ(l:List Pr)k nm h hS hl=>kL k1 true id l k nm h hS hl
 rw[<-e1]at fa;clear e1 hn;generalize dN:l0++(ps.map λx=>ij 5 x)=TL at hX;simp[IM,cT,cR,cL,f86,cp,g3,gj,cY,hq];generalize cU:M (.loop _) _=XX;refine gk cU
  (λi st cD=>st.length=37/\gt st 0= .pt id 0/\gt st 3= .pt j 0/\cD[j]?=some (.row row)/\pP id j cD/\gt st 15= .ls 1 cq false/\gt st 16=ps.length/\gt st 17=i/\∃l,RS id l cD/\KR id h0 cD/\l.length+(ps.length-i)<=1000000000/\l++((ps.drop i).map λx=>ij 5 x)=TL)
  (λo st cD=>o= .exit 0/\st.length=37/\gt st 0= .pt id 0/\gt st 3= .pt j 0/\cD[j]?=some (.row row)/\pP id j cD/\RS id TL cD/\KR id h0 cD)
  ps.length (by simp;omega) ⟨by simp[cp],by simp[g0],by simp[g3],gj,gF,by simp[cp],by simp[cp],by simp[cp],l0,hS,hK,by omega,dN⟩ ?_ ?_
 .clear cU XX dN hS hK cp g0 g3 gj gF hX ki;rintro i fr hp cP ⟨cp,g0,g3,gj,gF,h1,h2,h3,l,hS,hK,hl,dN⟩;rcases dY hg cP with⟨x,hi,hx,hr,cC⟩|rfl
  .have fH:i<=10^15:=by omega
   rw[cH hx,Yn]at dN;have jT:True:=trivial;have dH:True:=trivial;have dJ:True:=trivial;have f_:KR id hp hp:=KR.refl _ _;obtain⟨h',ae,ig,hK'⟩:=fa l 5 x hp hS (by omega);have iF:(l++[ij 5 x]).length+(ps.length-(i+1))<=1000000000:=by simp;omega
   have ph:=(hK.trans f_).trans hK';have gj2:=f_ _ _ gj gF;have gj3:=hK' _ _ gj2.1 gj2.2;have hf:=cz fH;simp[cp,g0,h1,h2,h3,hi,hq,cC,ae,hf,g3];refine⟨gj3.1,gj3.2,_,ig,ph,iF,?_⟩;rw[<-dN];simp
  .rw[Yc,Xm,Yk]at dN;subst dN;simp[cp,h2,h3];exact⟨g0,g3,gj,gF,hS,hK⟩
 .rintro o cG h' rfl ⟨rfl,cp,g0,g3,gj,gF,hS,hK⟩;simp;exact hX _ _ _ hS hK rfl cp g0 g3 gj gF
def ahg(M id:Nat)(ps:List Pp)(cq:List LA)(j:Nat)(row:LA)(cY:row[6]?=some (.ls 10 cq false))(T:List Pr)(h0:Hp)(hq:cq.length=ps.length)(hg:∀i:Nat,cq[i]?=(ps[i]?).map (eF))(oy:ps.length<=500000000)(hn:1<=M)(l0:List Pr)(ki:l0.length+ps.length<=10^9)(dN:l0++(ps.map λx=>ij 6 x.key)=T)(fr:LA)(h:Hp)(hS:RS id l0 h)(hK:KR id h0 h)(cp:fr.length=37)(g0:gt fr 0= .pt id 0)(g3:gt fr 3= .pt j 0)(gj:h[j]?=some (.row row))(gF:pP id j h):PR id T h0 (M (cT 3 IM) (fr,h)):=by
 obtain⟨k1,e1⟩:∃k,M=k+1:=⟨M-1,by omega⟩;have fa:=λ(l:List Pr)k nm h hS hl=>kL k1 true id l k nm h hS hl
 rw[<-e1]at fa;clear e1 hn;simp[IM,cT,cR,f86,cp,g3,gj,cY,hq];generalize cU:M (.loop _) _=XX;refine gk cU
  (λi st cD=>st.length=37/\gt st 0= .pt id 0/\gt st 3= .pt j 0/\cD[j]?=some (.row row)/\pP id j cD/\gt st 26= .ls 10 cq false/\gt st 27=ps.length/\gt st 28=i/\∃l,RS id l cD/\KR id h0 cD/\l.length+(ps.length-i)<=1000000000/\l++((ps.drop i).map λx=>ij 6 x.key)=T)
  (λo st cD=>o= .exit 2/\st.length=37/\gt st 0= .pt id 0/\gt st 3= .pt j 0/\cD[j]?=some (.row row)/\pP id j cD/\RS id T cD/\KR id h0 cD)
  ps.length (by simp;omega) ⟨by simp[cp],by simp[g0],by simp[g3],gj,gF,by simp[cp],by simp[cp],by simp[cp],l0,hS,hK,by omega,dN⟩ ?_ ?_
 .clear cU XX dN hS hK cp g0 g3 gj gF ki;rintro i fr hp cP ⟨cp,g0,g3,gj,gF,h1,h2,h3,l,hS,hK,hl,dN⟩;rcases dY hg cP with⟨x,hi,hx,hr,cC⟩|rfl
  .have fH:i<=10^15:=by omega
   rw[cH hx,Yn]at dN;have du:=hS.lt;have dH:=cB x.e;have f_:KR id hp (hp++[.row (eF x)]):=KR.app _ du;obtain⟨h',ae,ig,hK'⟩:=fa l 6 x.key _ (hS.app [.row (eF x)]) (by omega);unfold eF at hr cC ae f_ hK';generalize cM x.e=ev at hr cC ae dH f_ hK';have jT:=qY (ev:= .sc (.string x.key)::ev) (by simp[dH]);have dJ:ev.take 9=ev:=Yy (by omega);have iF:(l++[ij 6 x.key]).length+(ps.length-(i+1))<=1000000000:=by simp;omega
   have ph:=(hK.trans f_).trans hK';have gj2:=f_ _ _ gj gF;have gj3:=hK' _ _ gj2.1 gj2.2;have hf:=cz fH;simp[cp,g0,h1,h2,h3,hi,hq,cC,jT,dH,dJ,ae,hf,g3];refine⟨gj3.1,gj3.2,_,ig,ph,iF,?_⟩;rw[<-dN];simp
  .rw[Yc,Xm,Yk]at dN;subst dN;simp[cp,h2,h3];exact⟨g0,g3,gj,gF,hS,hK⟩
 .rintro o cG h' rfl ⟨rfl,cp,g0,g3,gj,gF,hS,hK⟩;exact⟨h',by simp[h_],hS,hK⟩
def ahh(M id:Nat)(ps:List ByteArray)(cq:List LA)(z:Bool)(y5:AV)(T:List Pr)(h0:Hp)(X:Code)(hq:cq.length=ps.length)(hg:∀i:Nat,cq[i]?=(ps[i]?).map (λs=> [.sc (.string s)]))(oy:ps.length<=500000000)(hn:1<=M)(l0:List Pr)(ki:l0.length+ps.length<=10^9)(hX:∀fr h l,RS id l h->KR id h0 h->l=l0++(ps.map λx=>ij 2 x)->fr.length=83->gt fr 0= .pt id 0->gt fr 5=y5->PR id T h0 (M X (fr,h)))(fr:LA)(h:Hp)(hS:RS id l0 h)(hK:KR id h0 h)(cp:fr.length=83)(g0:gt fr 0= .pt id 0)(g4:gt fr 4= .ls 1 cq z)(g5:gt fr 5=y5):PR id T h0 (M (.seq (cL (cT 3 FL)) X) (fr,h)):=by
 obtain⟨k1,e1⟩:∃k,M=k+1:=⟨M-1,by omega⟩;have fa:=λ(l:List Pr)k nm h hS hl=>kL k1 true id l k nm h hS hl
 rw[<-e1]at fa;clear e1 hn;generalize dN:l0++(ps.map λx=>ij 2 x)=TL at hX;simp[FL,cT,cR,cL,f85,cp,g4,hq];generalize cU:M (.loop _) _=XX;refine gk cU
  (λi st cD=>st.length=83/\gt st 0= .pt id 0/\gt st 5=y5/\gt st 62= .ls 1 cq z/\gt st 63=ps.length/\gt st 64=i/\∃l,RS id l cD/\KR id h0 cD/\l.length+(ps.length-i)<=1000000000/\l++((ps.drop i).map λx=>ij 2 x)=TL)
  (λo st cD=>o= .exit 0/\st.length=83/\gt st 0= .pt id 0/\gt st 5=y5/\RS id TL cD/\KR id h0 cD)
  ps.length (by simp;omega) ⟨by simp[cp],by simp[g0],by simp[g5],by simp[cp],by simp[cp],by simp[cp],l0,hS,hK,by omega,dN⟩ ?_ ?_
 .clear cU XX dN hS hK cp g0 g4 g5 hX ki;rintro i fr hp cP ⟨cp,g0,g5,h1,h2,h3,l,hS,hK,hl,dN⟩;rcases dY hg cP with⟨x,hi,hx,hr,cC⟩|rfl
  .have fH:i<=10^15:=by omega
   rw[cH hx,Yn]at dN;have jT:True:=trivial;have dH:True:=trivial;have dJ:True:=trivial;have f_:KR id hp hp:=KR.refl _ _;obtain⟨h',ae,ig,hK'⟩:=fa l 2 x hp hS (by omega);have iF:(l++[ij 2 x]).length+(ps.length-(i+1))<=1000000000:=by simp;omega
   have ph:=(hK.trans f_).trans hK';have hf:=cz fH;simp[cp,g0,h1,h2,h3,hi,hq,cC,ae,hf,g5];refine⟨_,ig,ph,iF,?_⟩;rw[<-dN];simp
  .rw[Yc,Xm,Yk]at dN;subst dN;simp[cp,h2,h3];exact⟨g0,g5,hS,hK⟩
 .rintro o cG h' rfl ⟨rfl,cp,g0,g5,hS,hK⟩;simp;exact hX _ _ _ hS hK rfl cp g0 g5
def ahi(M id:Nat)(ps:List Pp)(cq:List LA)(z:Bool)(T:List Pr)(h0:Hp)(hq:cq.length=ps.length)(hg:∀i:Nat,cq[i]?=(ps[i]?).map (eF))(oy:ps.length<=500000000)(hn:1<=M)(l0:List Pr)(ki:l0.length+ps.length<=10^9)(dN:l0++(ps.map λx=>ij 3 x.key)=T)(fr:LA)(h:Hp)(hS:RS id l0 h)(hK:KR id h0 h)(cp:fr.length=83)(g0:gt fr 0= .pt id 0)(g5:gt fr 5= .ls 10 cq z):PR id T h0 (M (cT 4 FL) (fr,h)):=by
 obtain⟨k1,e1⟩:∃k,M=k+1:=⟨M-1,by omega⟩;have fa:=λ(l:List Pr)k nm h hS hl=>kL k1 true id l k nm h hS hl
 rw[<-e1]at fa;clear e1 hn;simp[FL,cT,cR,f85,cp,g5,hq];generalize cU:M (.loop _) _=XX;refine gk cU
  (λi st cD=>st.length=83/\gt st 0= .pt id 0/\gt st 72= .ls 10 cq z/\gt st 73=ps.length/\gt st 74=i/\∃l,RS id l cD/\KR id h0 cD/\l.length+(ps.length-i)<=1000000000/\l++((ps.drop i).map λx=>ij 3 x.key)=T)
  (λo st cD=>o= .exit 2/\st.length=83/\gt st 0= .pt id 0/\RS id T cD/\KR id h0 cD)
  ps.length (by simp;omega) ⟨by simp[cp],by simp[g0],by simp[cp],by simp[cp],by simp[cp],l0,hS,hK,by omega,dN⟩ ?_ ?_
 .clear cU XX dN hS hK cp g0 g5 ki;rintro i fr hp cP ⟨cp,g0,h1,h2,h3,l,hS,hK,hl,dN⟩;rcases dY hg cP with⟨x,hi,hx,hr,cC⟩|rfl
  .have fH:i<=10^15:=by omega
   rw[cH hx,Yn]at dN;have du:=hS.lt;have dH:=cB x.e;have f_:KR id hp (hp++[.row (eF x)]):=KR.app _ du;obtain⟨h',ae,ig,hK'⟩:=fa l 3 x.key _ (hS.app [.row (eF x)]) (by omega);unfold eF at hr cC ae f_ hK';generalize cM x.e=ev at hr cC ae dH f_ hK';have jT:=qY (ev:= .sc (.string x.key)::ev) (by simp[dH]);have dJ:ev.take 9=ev:=Yy (by omega);have iF:(l++[ij 3 x.key]).length+(ps.length-(i+1))<=1000000000:=by simp;omega
   have ph:=(hK.trans f_).trans hK';have hf:=cz fH;simp[cp,g0,h1,h2,h3,hi,hq,cC,jT,dH,dJ,ae,hf];refine⟨_,ig,ph,iF,?_⟩;rw[<-dN];simp
  .rw[Yc,Xm,Yk]at dN;subst dN;simp[cp,h2,h3];exact⟨g0,hS,hK⟩
 .rintro o cG h' rfl ⟨rfl,cp,g0,hS,hK⟩;exact⟨h',by simp[h_],hS,hK⟩
def vU(x:Gp):List Pr:=(if x.types.length=0 then[ij 5 mI]else[])++x.types.map (λs=>ij 5 s)++x.props.map λq=>ij 6 q.key
def Wp(n:Nat)(t:Bool)(id:Nat)(l:List Pr)(x:Gp)(h:Hp)(hS:RS id l h)(h1:x.types.length<=400000000)(h2:x.props.length<=400000000)(hl:l.length+1+x.types.length+x.props.length<=10^9)(hn:3<=n):∃h',cu cx n t 86 [.pt id 0,.ag (dE x)] h=some (.tp [],h')/\RS id (l++vU x) h'/\KR id h h':=by
 obtain⟨M,rfl⟩:∃m,n=m+1:=⟨n-1,by omega⟩;obtain⟨k1,e1⟩:∃k,M=k+1:=⟨M-1,by omega⟩;rw[rr (n:=M) f86 []];have fa:=λ(l:List Pr)k nm h hS hl=>kL k1 true id l k nm h hS hl
 rw[<-e1]at fa;show PR id (l++vU x) h (M IM _);rw[show IM= .seq (cL (cT 0 IM)) (.seq (cL (cT 1 IM)) (.seq (cL (cT 2 IM)) (cT 3 IM))) by kernel_rfl];have du:=hS.lt;have Rm:=hS.app [.row (dE x)];have gF:=hS.free [.row (dE x)];have gj:(h++[eV.row (dE x)])[h.length]?=some (.row (dE x)):=by simp
 have vT:KR id h (h++[.row (dE x)]):=KR.app _ du;have rest:∀(l1:List Pr)fr h',RS id l1 h'->KR id h h'->l1++(x.types.map (λs=>ij 5 s)++x.props.map λq=>ij 6 q.key)=l++vU x->l1.length<=l.length+1->fr.length=37->gt fr 0= .pt id 0->gt fr 3= .pt h.length 0->h'[h.length]?=some (.row (dE x))->pP id h.length h'->PR id (l++vU x) h (M (.seq (cL (cT 2 IM)) (cT 3 IM)) (fr,h')):=by
  intro l1 fr h' hS hK hT wN cp g0 g3 gj gF;refine ahf M id x.types (eE x.types) h.length (dE x) rfl _ h _ (cI _) (iW _) (by omega) (by omega) l1 (by omega) ?_ fr h' hS hK cp g0 g3 gj gF;rintro fr h' _ hS hK rfl cp g0 g3 gj gF;refine ahg M id x.props (jw x.props) h.length (dE x) rfl _ h (dP _) (jf _) (by omega) (by omega) _ (by simp;omega) ?_ fr h' hS hK cp g0 g3 gj gF;rw[Zp];exact hT
 generalize Code.seq (cL (cT 2 IM)) (cT 3 IM)=Z at rest|-;have hq:=cI x.types;by_cases h0:x.types.length=0
 .obtain⟨h',ae,ig,hK'⟩:=fa l 5 mI _ Rm (by omega);obtain⟨gj1,gF1⟩:=hK' _ _ gj gF;have rs:=λfr=>rest _ fr h' ig (vT.trans hK') (by unfold vU;rw[cw h0];simp) (by simp)
  unfold mI at ae;unfold dE at *;generalize eE x.types=rt,jw x.props=rp at *;simp[IM,cT,cR,cL,f86,hq,h0,ae];exact rs _ (by simp) (by simp) (by simp) gj1 gF1
 .have rs:=λfr=>rest l fr _ Rm vT (by unfold vU;rw[cv h0];simp) (by omega)
  unfold dE at *;generalize eE x.types=rt,jw x.props=rp at *;have tU:¬(x.types.length:Int)=0:=by omega
  simp[IM,cT,cR,cL,f86,hq,h0];exact rs _ (by simp) (by simp) (by simp) gj gF
end
end Go.Proofs.YtmocfjnklfpnbaaGreatDoor
