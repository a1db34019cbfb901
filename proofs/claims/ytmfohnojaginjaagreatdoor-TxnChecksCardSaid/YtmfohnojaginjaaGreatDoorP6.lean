/- Part of the proof. -/
import Derived.Test.YtmfohnojaginjaaGreatDoorP5
import Derived.LoopN
set_option linter.all false
namespace Go.Ae
open Go
def u5(n i:Nat):swp n (swp n i)=i:=by
 unfold swp;by_cases h1:i=n
 .subst h1;simp
 .by_cases h2:i=n+1
  .subst h2;simp
  .simp[h1,h2]
def Gt{n i m:Nat}(h:n+2<=m)(hi:i<m):swp n i<m:=by unfold swp;split<;>(try split)<;>omega
def abh{n i:Nat}(h:i<n):swp n i=i:=by unfold swp;rw[cm (by omega),cm (by omega)]
def kP(n:Nat):∀(xs:List AV)(k:Nat),(vR n xs)[k]?=(xs[k]?).map (pP n)
 | [],k=>by simp[vR]
 |x::xs,0=>by simp[vR]
 |x::xs,k+1=>by simp[vR,kP n xs k]
def gX(n:Nat):∀(xs:List AV),(vR n xs).length=xs.length
 | []=>by simp[vR]
 |x::xs=>by simp[vR,gX n xs]
section ren
variable {w : World} {X : Nat -> Prop} {ρ : Nat -> Nat} {N n : Nat}
def Ri.ren{v:Value}{x:AV}(h:Ri w X v x):Ri w X v (pP n x):=by
 induction h with
 |ud v=>simp only[pP];exact .ud v
 |un=>simp only[pP];exact .un
 |sc v hv=>simp only[pP];exact .sc v hv
 |le a cap sz z h1 h2=>simp only[pP];exact .le a cap sz z h1 h2
 |ls b o len cap sz cg z us cF t fz hx hb h1 h2 h3 h4 h5 h6 h7 ih=>simp only[pP];exact .ls b o len cap sz cg z us cF t fz hx hb h1 h2 h3 h4 h5 h6 h7
 |rp b o j row us cF t fz hx hb h1 h2 ih=>simp only[pP];exact .rp b o j row us cF t fz hx hb h1 h2
 |fn f us xs h1 h2 ih=>
  simp only[pP];refine .fn f us _ (by rw[h1,gX]) λk x hk=>?_
  rw[kP]at hk;obtain⟨y,hy,rfl⟩:=Ze.1 hk;exact ih k y hy
 |ag us xs h1 h2 h3 ih=>
  simp only[pP];refine .ag us _ (by rw[h1,gX]) h2 λk x hk=>?_
  rw[kP]at hk;obtain⟨y,hy,rfl⟩:=Ze.1 hk;exact ih k y hy
 |tp us xs h1 h2 ih=>
  simp only[pP];refine .tp us _ (by rw[h1,gX]) λk x hk=>?_
  rw[kP]at hk;obtain⟨y,hy,rfl⟩:=Ze.1 hk;exact ih k y hy
 |oc v h1=>simp only[pP];exact .oc v h1
def Rp.ren(hN:n+2<=N){v:Value}{x:AV}(h:Rp w X ρ N v x):Rp w X (λi=>ρ (swp n i)) N v (pP n x):=by
 have key:∀i,ρ i=(λi=>ρ (swp n i)) (swp n i):=λi=>by simp only[u5]
 induction h with
 |im hi=>exact .im hi.ren
 |sl id sz off len cap k cF t fz h1 h2 h3 h4 h5 h6 h7=>
  simp only[pP];rw[key id]at h2|-;exact .sl (swp n id) sz off len cap k cF t fz (Gt hN h1) h2 h3 h4 h5 h6 h7
 |pt id off h1=>simp only[pP];rw[key id];exact .pt (swp n id) off (Gt hN h1)
 |mp id h1=>simp only[pP];rw[key id];exact .mp (swp n id) (Gt hN h1)
 |fn f us xs h1 h2 ih=>
  simp only[pP];refine .fn f us _ (by rw[h1,gX]) λk x hk=>?_
  rw[kP]at hk;obtain⟨y,hy,rfl⟩:=Ze.1 hk;exact ih k y hy
 |ag us xs h1 h2 h3 ih=>
  simp only[pP];refine .ag us _ (by rw[h1,gX]) h2 λk x hk=>?_
  rw[kP]at hk;obtain⟨y,hy,rfl⟩:=Ze.1 hk;exact ih k y hy
 |tp us xs h1 h2 ih=>
  simp only[pP];refine .tp us _ (by rw[h1,gX]) λk x hk=>?_
  rw[kP]at hk;obtain⟨y,hy,rfl⟩:=Ze.1 hk;exact ih k y hy
def wX.ren(hN:n+2<=N){ob:Option Obj}{b:eK}(h:wX w X ρ N ob b):wX w X (λi=>ρ (swp n i)) N ob (Sx n b):=by
 cases b with
 |dead=>trivial
 |row cs=>
  obtain⟨cF,t,fz,us,h1,hf,h2,h3⟩:=h;refine⟨cF,t,fz,us,h1,hf,by rw[gX];exact h2,λk x hk=>?_⟩;rw[kP]at hk;obtain⟨y,hy,rfl⟩:=Ze.1 hk;exact⟨(h3 k y hy).1,(h3 k y hy).2.1,(h3 k y hy).2.2.ren hN⟩
 |raw cs=>
  obtain⟨cF,t,fz,us,h1,hf,h2,h3⟩:=h;refine⟨cF,t,fz,us,h1,hf,by rw[gX];exact h2,λk x hk=>?_⟩;rw[kP]at hk;obtain⟨y,hy,rfl⟩:=Ze.1 hk;exact⟨(h3 k y hy).1,(h3 k y hy).2.1,(h3 k y hy).2.2.ren hN⟩
 |map es clock=>
  obtain⟨ms,h1,h2,RW,h3⟩:=h;refine⟨ms,h1,by simp[h2],RW,λk e hk=>?_⟩;simp only[Zs]at hk;obtain⟨e0,he,rfl⟩:=Ze.1 hk;obtain⟨m,a1,a2,a3,a4,a5⟩:=h3 k e0 he;exact⟨m,a1,a2,a3,a4,a5.ren hN⟩
 |GR cs=>exact h
 |iter s pos=>exact h
end ren
def EH(n:Nat)(b:eK):vx (Sx n b)=vx b:=by cases b<;>rfl
structure XP (n:Nat)(hB hA:Hp):Prop where
 two:n+2<=hB.length
 len:hA.length=hB.length
 at_:∀i,i<hB.length->∃x,hB[swp n i]?=some x/\hA[i]?=some (Sx n x)
def XP.live{n:Nat}{hB hA:Hp}(S:XP n hB hA)(i:Nat):live hA i↔live hB (swp n i):=by
 constructor
 .rintro⟨b,hb,hl⟩;have hi:i<hB.length:=by rw[<-S.len];exact(Za.1 hb).1
  obtain⟨x,h1,h2⟩:=S.at_ i hi;rw[h2]at hb;cases hb;exact⟨x,h1,by rwa [EH]at hl⟩
 .rintro⟨b,hb,hl⟩;have hi:i<hB.length:=by
   have:=Gt S.two (Za.1 hb).1
   rwa [u5]at this
  obtain⟨x,h1,h2⟩:=S.at_ i hi;rw[h1]at hb;cases hb;exact⟨_,h2,by rw[EH];exact hl⟩
def XP.Wq{n:Nat}{hB hA:Hp}(S:XP n hB hA)(ρ:Nat->Nat):own (λi=>ρ (swp n i)) hA=own ρ hB:=by
 funext b
 refine propext ⟨?_,?_⟩
 .rintro⟨i,hl,e⟩;exact⟨swp n i,(S.live i).1 hl,e⟩
 .rintro⟨i,hl,e⟩;exact⟨swp n i,(S.live _).2 (by rw[u5];exact hl),by simp only[u5];exact e⟩
def XP.Gu{n:Nat}{hB hA:Hp}(S:XP n hB hA)(X:Nat->Prop)(ρ:Nat->Nat):dK X (λi=>ρ (swp n i)) hA=dK X ρ hB:=by
 funext b
 show(X b\/own (λi=>ρ (swp n i)) hA b)=(X b\/own ρ hB b);rw[S.Wq]
def gf.ren{G:Nat->Option (List Value)}{w:World}{X:Nat->Prop}{ρ:Nat->Nat}{n:Nat}{hB hA:Hp}(S:XP n hB hA)(hs:gf G w X ρ hB):gf G w X (λi=>ρ (swp n i)) hA:={
 GA:=hs.GA
 s8:=λg row hg=>by rw[S.Gu];exact hs.s8 g row hg
 inj:=λi j hi hj e=>by
  have:=hs.inj _ _ ((S.live i).1 hi) ((S.live j).1 hj) e;rw[<-u5 n i,this,u5]
 out:=λi hi=>hs.out _ ((S.live i).1 hi)
 jI:=λi cs hi=>by
  rw[S.Gu];have hl:i<hB.length:=by rw[<-S.len];exact(Za.1 hi).1
  obtain⟨x,h1,h2⟩:=S.at_ i hl;rw[h2]at hi;have hx:x= .GR cs:=by cases x<;>simp[Sx]at hi|-;exact hi
  exact hs.jI _ cs (by rw[h1,hx])
 y6:=λi b hi=>by
  have hl:i<hB.length:=by rw[<-S.len];exact(Za.1 hi).1
  obtain⟨x,h1,h2⟩:=S.at_ i hl;rw[h2]at hi;cases hi;rw[S.Gu,S.len];exact(hs.y6 _ x h1).ren S.two}
def Ext.ren{G:Nat->Option (List Value)}{w w':World}{X:Nat->Prop}{ρ ρ':Nat->Nat}{n:Nat}{h hB hA:Hp}(S:XP n hB hA)(hn:h.length<=n)(e:Ext G w X ρ h w' ρ' hB):Ext G w X ρ h w' (λi=>ρ' (swp n i)) hA:={
 u6:=e.u6.ren S
 rho:=λi hi=>by
  show ρ' (swp n i)=ρ i;rw[abh (Yo hi hn)];exact e.rho i hi
 len:=by rw[S.len];exact e.len
 step:=by rw[S.Wq];exact e.step}
def RF.ren{w:World}{X:Nat->Prop}{ρ:Nat->Nat}{n:Nat}{hB hA:Hp}(S:XP n hB hA){tmps:Array Value}{fr:List AV}(hf:RF w (dK X ρ hB) ρ hB.length tmps fr):RF w (dK X (λi=>ρ (swp n i)) hA) (λi=>ρ (swp n i)) hA.length tmps (vR n fr):=by
 rw[S.Gu,S.len];refine⟨by rw[hf.1,gX],λi x hx=>?_⟩;rw[kP]at hx;obtain⟨y,hy,rfl⟩:=Ze.1 hx;exact(hf.2 i y hy).ren S.two
structure Dv (n:Nat)(s r:Nat->Nat):Prop where
 fwd:∀j,j<n->s j<n/\r (s j)=j
 back:∀k,k<n->r k<n/\s (r k)=k
def abj(n:Nat):Dv n id id:=⟨λj h=>⟨h,rfl⟩,λj h=>⟨h,rfl⟩⟩
def Wr{n c d:Nat}(Lu:c<d)(hd:d<n):Dv n (sL c d) (X3 c d):=by
 constructor
 .intro j hj;unfold sL X3;by_cases h1:j<c
  .simp[h1,hj]
  .by_cases h2:j=d
   .subst h2;simp[h1];omega
   .by_cases h3:j<d
    .rw[cm h1,cm h2,cq h3,cm (by omega),cm (by omega),cq (by omega)];omega
    .rw[cm h1,cm h2,cm h3,cm h1,cm (by omega),cm (by omega)];omega
 .intro k hk;unfold sL X3;by_cases h1:k<c
  .simp[h1,hk]
  .by_cases h2:k=c
   .subst h2;simp;omega
   .by_cases h3:k<=d
    .rw[cm h1,cm h2,cq h3,cm (by omega),cm (by omega),cq (by omega)];omega
    .rw[cm h1,cm h2,cm h3,cm h1,cm (by omega),cm (by omega)];omega
structure yY (ops:Array Oper):Prop where
 guard:∀(j:Nat)(o:Oper),ops[j]?=some o->o.guard=none
 on:∀(j:Nat)(o:Oper),ops[j]?=some o->∀e∈o.after,e.on<ops.size
section turn
variable {P : Program} {ops : Array Oper} {Q : Exit -> Act -> World -> Prop} {s r : Nat -> Nat} {c d : Nat}
def ur(ht:Dv ops.size s r){j:Nat}{o:Oper}(hj:ops[j]?=some o):(lM s r c d ops)[s j]?=some (qi s j c d o):=by
 obtain⟨dm,e⟩:=Xt.1 hj;obtain⟨h1,h2⟩:=ht.fwd j dm;unfold lM;simp[h1,h2,dm,e]
def n_ :(lM s r c d ops).size=ops.size:=by simp[lM]
def xT(ht:Dv ops.size s r){k:Nat}{o':Oper}(hk:(lM s r c d ops)[k]?=some o'):∃j o,j<ops.size/\k=s j/\ops[j]?=some o/\o'=qi s j c d o:=by
 have dm:k<ops.size:=by have:=(Xt.1 hk).1;rwa [n_]at this
 obtain⟨h1,h2⟩:=ht.back k dm;have ho:ops[r k]?=some ops[r k]:=Xl h1;refine⟨r k,_,h1,h2.symm,ho,?_⟩;have:=ur (c:=c) (d:=d) ht ho;rw[h2,hk]at this;exact Option.some.inj this
def oS(ht:Dv ops.size s r)(hS:yY ops)(hd:d<ops.size){L L':Array Bool}(hL:L.size=ops.size)(eW:L'.size=ops.size)(hr:∀j,j<ops.size->L'.getD (s j) false=L.getD j false){j:Nat}(hj:j<ops.size):
 s j∈Region.ready .any (lM s r c d ops) L'↔j∈Region.ready .any ops L/\(j=c->L.getD d false=true):=by
 rw[mem_ready,mem_ready];have ho:ops[j]?=some ops[j]:=Xl hj;have h1:L'.getD (s j) true=L.getD j true:=by
  have:=hr j hj;have h2:s j<L'.size:=by rw[eW];exact(ht.fwd j hj).1
  have h3:j<L.size:=by omega
  simpa[h2,h3]using this
 rw[h1,ur ht ho,ho];simp only[Zc,exists_eq_left'];have key:(∀e∈(qi s j c d ops[j]).after,Region.binds .any e=true->L'.getD e.on false=true)↔((∀e∈ops[j].after,Region.binds .any e=true->L.getD e.on false=true)/\(j=c->L.getD d false=true)):=by
  unfold qi;simp only[List.mem_toArray,Zz,Yk,List.mem_filter,Array.mem_toList_iff];constructor
  .intro h;refine⟨λe he hb=>?_,λhc=>?_⟩
   .have:=h ⟨s e.on,.data⟩ (.inl ⟨e,⟨he,hb⟩,rfl⟩) rfl
    rwa [hr _ (hS.on j _ ho e he)]at this
   .have:=h ⟨s d,.data⟩ (.inr (by rw[cq hc];simp)) rfl
    rwa [hr _ hd]at this
  .rintro⟨ha,hb⟩ e he _;rcases he with⟨x,⟨hx,Di⟩,rfl⟩|he
   .rw[hr _ (hS.on j _ ho x hx)];exact ha x hx Di
   .by_cases hc:j=c
    .rw[cq hc]at he;have:e=⟨s d,.data⟩:=by simpa using he
     subst this;rw[hr _ hd];exact hb hc
    .rw[cm hc]at he;simp at he
 rw[key];exact⟨λ⟨a,b,c⟩=>⟨⟨a,b⟩,c⟩,λ⟨⟨a,b⟩,c⟩=>⟨a,b,c⟩⟩
def yZ(ht:Dv ops.size s r)(hS:yY ops){j:Nat}(hj:j<ops.size){K:Act->World->Prop}{a:Act}{w:World}:wpOp P (lM s r c d ops) Q (s j) K a w↔(ops[j].wp P a w K Q\/(ops[j].asks P a w/\LetsOut Q)):=by
 have ho:ops[j]?=some ops[j]:=Xl hj;have hg:=hS.guard j _ ho;unfold wpOp;rw[ur ht ho];have hw:∀y,Region.wanted (qi s j c d ops[j]) y=true:=λy=>by simp[Region.wanted,qi,hg]
 simp only[hw,if_true];rfl
def y5(hS:yY ops){j:Nat}(hj:j<ops.size){K:Act->World->Prop}{a:Act}{w:World}:wpOp P ops Q j K a w↔(ops[j].wp P a w K Q\/(ops[j].asks P a w/\LetsOut Q)):=by
 have ho:ops[j]?=some ops[j]:=Xl hj;have hg:=hS.guard j _ ho;unfold wpOp;rw[ho];have hw:∀y,Region.wanted ops[j] y=true:=λy=>by simp[Region.wanted,hg]
 simp only[hw,if_true]
def JK(ht:Dv ops.size s r){L L':Array Bool}(hL:L.size=ops.size)(eW:L'.size=ops.size)(hr:∀j,j<ops.size->L'.getD (s j) false=L.getD j false){i:Nat}(hi:i<ops.size):
 ∀j,j<ops.size->(L'.setIfInBounds (s i) true).getD (s j) false=(L.setIfInBounds i true).getD j false:=by
 intro j hj;rw[jG (by rw[eW];exact(ht.fwd i hi).1),jG (by omega)];by_cases e:j=i
 .subst e;simp
 .have:s j≠s i:=λq=>e (by rw[<-(ht.fwd j hj).2,<-(ht.fwd i hi).2,q])
  rw[cm this,cm e,hr j hj]
def xU{L:Array Bool}{j:Nat}(h:j∈Region.ready .any ops L):j<ops.size:=by
 rw[mem_ready]at h;obtain⟨_,o,ho,_⟩:=h;exact(Xt.1 ho).1
def EI(ht:Dv ops.size s r)(hS:yY ops)(hd:d<ops.size){L L':Array Bool}(hL:L.size=ops.size)(eW:L'.size=ops.size)(hr:∀j,j<ops.size->L'.getD (s j) false=L.getD j false)(h:Region.ready .any ops L=[]):
 Region.ready .any (lM s r c d ops) L'=[]:=by
 apply List.eq_nil_iff_forall_not_mem.2;intro k hk;have lk:k<ops.size:=by have:=xU hk;rwa [n_]at this
 obtain⟨b1,b2⟩:=ht.back k lk;rw[<-b2,oS ht hS hd hL eW hr b1,h]at hk;simp at hk
def Rk(ht:Dv ops.size s r)(hS:yY ops)(hd:d<ops.size):∀(fuel:Nat)(L L':Array Bool)(a:Act)(w:World),L.size=ops.size->L'.size=ops.size->(∀j,j<ops.size->L'.getD (s j) false=L.getD j false)->L.getD d false=true->
 wpAny P .any (lM s r c d ops) Q fuel L' a w->wpAny P .any ops Q fuel L a w:=by
 intro fuel
 induction fuel with
 |
  zero=>
  rintro L L' a w hL eW hr yL ⟨h1,h2⟩;refine⟨List.eq_nil_iff_forall_not_mem.2 λj hj=>?_,h2⟩;have:=(oS ht hS hd hL eW hr (c:=c) (xU hj)).2 ⟨hj,λ_=>yL⟩;rw[h1]at this;simp at this
 |succ n ih=>
  rintro L L' a w hL eW hr yL ⟨h1,h2⟩;refine⟨λh=>h1 (EI ht hS hd hL eW hr h),λj hj=>?_⟩;have mZ:=xU hj;have h3:=h2 (s j) ((oS ht hS hd hL eW hr mZ).2 ⟨hj,λ_=>yL⟩);rw[yZ ht hS mZ]at h3;rw[y5 hS mZ];refine h3.imp (Oper.wp_mono λa' w' hk=>?_) id;refine ih _ _ a' w' (by simpa using hL) (by simpa using eW) (JK ht hL eW hr mZ) ?_ hk;rw[jG (by omega)];split
  .rfl
  .exact yL
end turn
def abk(a b:List Bool):AK (a++b)=AK a+AK b:=by simp[AK]
def Gv(c d:Nat)(l:List Bool):List Bool:=l.take c++([l.getD d false]++((l.drop c).take (d-c)++l.drop (d+1)))
def Ws{c d:Nat}{l:List Bool}(Lu:c<d)(hd:d<l.length):AK (Gv c d l)=AK l:=by
 have e:l=l.take c++((l.drop c).take (d-c)++([l.getD d false]++l.drop (d+1))):=by
  have h1:l.drop d=l.getD d false::l.drop (d+1):=by
   rw[Zm hd];simp[List.getD,Zb hd]
  have h2:l.drop c=(l.drop c).take (d-c)++l.drop d:=by
   have:=List.take_append_drop (d-c) (l.drop c);rw[List.drop_drop,show c+(d-c)=d by omega]at this;exact this.symm
  show l=l.take c++((l.drop c).take (d-c)++(l.getD d false::l.drop (d+1)));rw[<-h1,<-h2,List.take_append_drop]
 rw[show AK l=AK (l.take c++((l.drop c).take (d-c)++([l.getD d false]++l.drop (d+1))))from congrArg AK e];unfold Gv;simp only[abk];omega
def JL{c d:Nat}{l:List Bool}(Lu:c<d)(hd:d<l.length):(Gv c d l).length=l.length:=by
 unfold Gv;simp;omega
def Wt{c d:Nat}{l:List Bool}(Lu:c<d)(hd:d<l.length){j:Nat}(hj:j<l.length):(Gv c d l)[sL c d j]?=l[j]?:=by
 unfold Gv sL;have ht:(l.take c).length=c:=by simp;omega
 by_cases h1:j<c
 .rw[cq h1,Zd (by omega),List.getElem?_take_of_lt h1]
 .rw[cm h1];by_cases h2:j=d
  .subst h2;rw[cq rfl,Zf (by omega),ht,Nat.sub_self];simp[List.getD,Zb hd]
  .rw[cm h2];by_cases h3:j<d
   .rw[cq h3,Zf (by omega),ht,show j+1-c=(j-c)+1 by omega];simp only[List.singleton_append,Yd];rw[Zd (by simp;omega),List.getElem?_take_of_lt (by omega),Xo,show c+(j-c)=j by omega]
   .rw[cm h3,Zf (by omega),ht,show j-c=(j-c-1)+1 by omega];simp only[List.singleton_append,Yd];rw[Zf (by simp;omega)];simp only[Xf,List.length_drop,Xo]
    congr 1
    omega
def CL :∀{l m:List (Value × AV)},Og l m=true->l=m
 | [],[],_=>rfl
 | [],_::_,h=>by simp[Og]at h
 |_::_,[],h=>by simp[Og]at h
 |
  (a,x)::l,(b,y)::m,h=>by
  simp only[Og,Zh]at h;have h1:=mK h.1.1;simp only[AV.sc.injEq]at h1;rw[h1,mK h.1.2,CL h.2]
def Mj :∀{x y:eK},acN x y=true->x=y:=by
 intro x y h;cases x<;>cases y<;>simp only[acN,Zh,Ys]at h
 .rfl
 .rw[i_ h]
 .rw[Nat.eq_of_beq_eq_true h.1,CL h.2]
 .rw[i_ h]
 .rw[i_ h]
 .have h1:=mK h.1;simp only[AV.sc.injEq,Value.string.injEq]at h1;rw[h1,Nat.eq_of_beq_eq_true h.2]
def CM{x y:AV}(h:X4 x y=true):x=y:=by
 unfold X4 at h;split at h
 .rfl
 .rfl
 .rfl
 .exact mK h
def CN :∀{x y:List AV},Oh x y=true->x=y
 | [],[],_=>rfl
 | [],_::_,h=>by simp[Oh]at h
 |_::_,[],h=>by simp[Oh]at h
 |
  x::xs,y::ys,h=>by
  simp only[Oh,Zh]at h;rw[CM h.1,CN h.2]
def Ck(C:Cx)(ops:Array Oper)(c d:Nat):Bool:=
 Nat.blt c d && (Nat.blt d ops.size && (ops.toList.all (λo=>o.guard.isNone && o.after.toList.all λe=>Nat.blt e.on ops.size) && (CY C ops c && (rok C (CQ ops c d) && rok C (Dz ops c d)))))
section two
variable {C : Cx} {call : FuncId -> List AV -> Hp -> Option (AV × Hp)} {ops : Array Oper}
def Rm(rm:∀(o:Oper)(a:Array Edge),C.jI {o with after:=a}=C.jI o)(e:Operand->AV)(h:Hp)(o:Oper)(a:Array Edge):lG C call e h {o with after:=a}=lG C call e h o:=by
 unfold lG;rw[rm];rfl
def Dw(rm:∀(o:Oper)(a:Array Edge),C.jI {o with after:=a}=C.jI o)(o:Oper)(a:Array Edge):cU C {o with after:=a}=cU C o:=by
 unfold cU;rw[rm];rfl
def zJ(rm:∀(o:Oper)(a:Array Edge),C.jI {o with after:=a}=C.jI o){agz:Array Oper}{o:Oper}(hg:o.guard=none)(a:Array Edge)(s:St):step1 C call agz {o with after:=a} s=step1 C call ops o s:=by
 have h1:eM agz s.1 {o with after:=a}=some true:=by simp[eM,hg]
 have h2:eM ops s.1 o=some true:=by simp[eM,hg]
 unfold step1;rw[h1,h2];simp only;rw[show lG C call (ev C s.1) s.2 {o with after:=a}=lG C call (ev C s.1) s.2 o from Rm rm _ _ _ _];rfl
def EJ(hr:Rok C ops){S:Nat->St}(hS:∀(k:Nat)(o:Oper),ops[k]?=some o->step1 C call ops o (S k)=some (S (k+1))){R:Nat->AV}(hR:∀(k:Nat)(o:Oper),ops[k]?=some o->R k=ru C call ops o (S k)):
 ∀k,k<=ops.size->GQ ops (S 0).1 R (λi=>decide (i<k)) (S k).1:=by
 intro k
 induction k with
 |
  zero=>
  intro _;refine⟨rfl,λi o t hi ht dm=>?_,λt _=>rfl⟩;simp[List.getD,Zb dm]
 |succ k ih=>
  intro hk;have ho:ops[k]?=some ops[k]:=Xl (by omega);have hL:∀i,decide (i<k+1)=if i=k then true else decide (i<k):=λi=>by
   by_cases hik:i=k
   .subst hik;simp
   .rw[cm hik];have:(i<k+1)↔(i<k):=by omega
    simp[this]
  have h1:=(jF (hS k _ ho)).1;rw[h1,<-hR k _ ho];exact(ih (by omega)).put hr ho hL
def NH(hm:C.P.follows .mixedOrders=true)(hT:∀t i,C.T t=some i->eH C.P t=some i)(cJ:iZ C call)(eZ:∀g xs h r h',C.inl g=false->call g xs h=some (r,h')->h'=h)(rm:∀(o:Oper)(a:Array Edge),C.jI {o with after:=a}=C.jI o){c d:Nat}(gI:Ck C ops c d=true){s sA sB:St}{sa sb:List St}(hda:y9 C call (CQ ops c d) s=some sa)(hdb:y9 C call (Dz ops c d) s=some sb)(hlA:sa[ops.size]?=some sA)(hlB:sb[ops.size]?=some sB)(wm:∀(i:Nat)(o:Oper)(t:Tmp),ops[i]?=some o->ti (fY ops.toList []) c d i=false->o.dst=some t->sA.1[t]?=sB.1[t]?){X:Nat->Prop}{w:World}{ρ:Nat->Nat}{a:Act}(hs:gf C.G w X ρ s.2)(hf:RF w (dK X ρ s.2) ρ s.2.length a.tmps s.1){id:Nat}{Q:Exit->Act->World->Prop}(hQA:∀a' w' ρ',Ext C.G w X ρ s.2 w' ρ' sA.2->RF w' (dK X ρ' sA.2) ρ' sA.2.length a'.tmps sA.1->a'.defers=a.defers->Q .normal a' w')(hQB:∀a' w' ρ',Ext C.G w X ρ s.2 w' ρ' sB.2->RF w' (dK X ρ' sB.2) ρ' sB.2.length a'.tmps sB.1->a'.defers=a.defers->Q .normal a' w'):(Code.region id ops true).wp C.P Q a w:=by
 simp only[Ck,Zh,Yt]at gI;obtain⟨Lu,yL,dN,hcc,rA,rB⟩:=gI;have Lu:c<d:=Nat.le_of_ble_eq_true Lu;have yL:d<ops.size:=Nat.le_of_ble_eq_true yL;have XQ:yY ops:=by
  refine⟨λj o ho=>?_,λj o ho e xf=>?_⟩
  .have:=(dN o (by obtain⟨h1,h2⟩:=Xt.1 ho;rw[<-h2];simp)).1;simpa using this
  .have:=(dN o (by obtain⟨h1,h2⟩:=Xt.1 ho;rw[<-h2];simp)).2 e (by simpa using xf);exact Nat.le_of_ble_eq_true this
 have htA:Dv ops.size _root_.id _root_.id:=abj _;have htB:=Wr (n:=ops.size) Lu yL;have run:∀{o':Array Oper}{jv:List St},y9 C call o' s=some jv->eC C call o' o'.toList s=some jv/\(needs C o').all (sameAt C call o' jv)=true:=by
  intro o' jv h;unfold y9 at h;split at h
  .rename_i agt hr;split at h
   .rename_i hn;cases h;exact⟨hr,hn⟩
   .cases h
  .cases h
 have szA:(CQ ops c d).size=ops.size:=n_;have szB:(Dz ops c d).size=ops.size:=n_;obtain⟨SA,a0,aL,a1,aS,aD⟩:=yW eZ (run hda).1 (run hda).2 (s':=sA) (by rw[szA];exact hlA);obtain⟨SB,b0,bL,b1,bS,bD⟩:=yW eZ (run hdb).1 (run hdb).2 (s':=sB) (by rw[szB];exact hlB);have gA:∀(j:Nat)(o:Oper),ops[j]?=some o->(CQ ops c d)[j]?=some (qi _root_.id j d c o):=λj o ho=>ur htA ho
 have gB:∀(j:Nat)(o:Oper),ops[j]?=some o->(Dz ops c d)[sL c d j]?=some (qi (sL c d) j c d o):=λj o ho=>ur htB ho
 have iA:∀(k:Nat)(o':Oper),(CQ ops c d)[k]?=some o'->∃o,ops[k]?=some o/\o'=qi _root_.id k d c o:=λk o' hk=>by
  obtain⟨j,o,_,rfl,h1,h2⟩:=xT htA hk;exact⟨o,h1,h2⟩
 have chO:∀(f:Nat->Nat)(j x y:Nat)(o:Oper),cU C (qi f j x y o)=cU C o:=λf j x y o=>Dw rm o _
 have same:∀k,k<=c->SB k=SA k:=by
  intro k
  induction k with
  |zero=>intro _;rw[a0,b0]
  |succ k ih=>
   intro hk;have ho:ops[k]?=some ops[k]:=Xl (by omega);have hg:=XQ.guard k _ ho;have h1:=aS k _ (gA k _ ho);have h2:=bS (sL c d k) _ (gB k _ ho);have Qk:sL c d k=k:=by unfold sL;rw[cq (by omega)]
   rw[Qk,ih (by omega)]at h2;have e1:step1 C call ops ops[k] (SA k)=some (SA (k+1)):=by rw[<-h1];exact(zJ rm hg _ _).symm
   have e2:step1 C call ops ops[k] (SA k)=some (SB (k+1)):=by rw[<-h2];exact(zJ rm hg _ _).symm
   rw[e1]at e2;exact(Option.some.inj e2).symm
 have rfA:∀(k:Nat)(o:Oper),(CQ ops c d)[k]?=some o->(λk=>match(CQ ops c d)[k]? with|some o=>ru C call (CQ ops c d) o (SA k)|none=> .ud) k=ru C call (CQ ops c d) o (SA k):=λk o hk=>by simp only[hk]
 have rfB:∀(k:Nat)(o:Oper),(Dz ops c d)[k]?=some o->(λk=>match(Dz ops c d)[k]? with|some o=>ru C call (Dz ops c d) o (SB k)|none=> .ud) k=ru C call (Dz ops c d) o (SB k):=λk o hk=>by simp only[hk]
 generalize hRA:(λk=>match(CQ ops c d)[k]? with|some o=>ru C call (CQ ops c d) o (SA k)|none=> .ud)=RA at rfA;generalize hRB:(λk=>match(Dz ops c d)[k]? with|some o=>ru C call (Dz ops c d) o (SB k)|none=> .ud)=RB at rfB;clear hRA hRB;have eA:=EJ (rj rA) aS rfA _ (Xc _);have eB:=EJ (rj rB) bS rfB _ (Xc _);rw[aL,a0]at eA;rw[bL,b0]at eB;have og:∀(j:Nat)(o:Oper)(t:Tmp),ops[j]?=some o->ti (fY ops.toList []) c d j=false->o.dst=some t->t<s.1.length->RB (sL c d j)=RA j:=by
  intro j o t ho hb ht dm;have mZ:=(Xt.1 ho).1;have h1:=wm j o t ho hb ht;have q1:=eA.hit j _ t (gA j o ho) ht dm;have q2:=eB.hit _ _ t (gB j o ho) ht dm;rw[cq (by rw[szA];simpa using mZ)]at q1;rw[cq (by rw[szB];simpa using(htB.fwd j mZ).1)]at q2;rw[q1,q2]at h1;exact(Option.some.inj h1).symm
 have he0:=qd hs (w.drawn+1);refine wp_region_any hm ?_;have Y2:∀i,(Array.replicate ops.size false).getD i false=false:=λi=>by
  by_cases h:i<ops.size<;>simp[h]
 have noA:∀o,(CQ ops c d)[(CQ ops c d).size]?≠some o:=λo=>by simp
 have noB:∀o,(Dz ops c d)[(Dz ops c d).size]?≠some o:=λo=>by simp
 refine Wi (ops:=CQ ops c d) (S:=SA) (R:=RA) (w0:=w) (ρ0:=ρ) (d0:=a.defers) (Q:=Q) hT cJ eZ (rj rA) (J:=(CQ ops c d).size) (bad:=λ_=>False) (λk h=>h.elim) (λh=>by omega) (λo ho=>absurd ho (noA o)) (λk o hk _=>aS k o hk) (λk o _ h=>h.elim) (λk o hk _=>rfA k o hk) (λk o _ h=>h.elim)
  (λj o ho _ hc ht hw m w6 _ yX=>by rw[rfA j o ho];exact aD j o ho hc ht hw m w6 yX)
  (λ_ a' w' ρ' h1 h2 h3=>hQA a' w' ρ' (by rw[a0,aL]at h1;exact h1) (by rw[aL]at h2;exact h2) h3) (λo ho=>absurd ho (noA o))
  (λfuel listed a w=>wpAny C.P .any ops Q fuel listed a w) ?_ ?_ ops.size _ a _ ρ s.1 0 (by simp[szA]) ?_ ?_ ?_ (Nat.zero_le _) (λh=>by omega) ?_ (by rw[a0];exact he0) (by rw[a0];exact he0.rf hf) rfl
 .intro listed a w agA _ hq;refine⟨List.eq_nil_iff_forall_not_mem.2 λj hj=>?_,hq⟩;obtain⟨h0,o,ho,_⟩:=mem_ready.1 hj;have mZ:=(Xt.1 ho).1;have h1:=agA j (by rw[szA];exact mZ);by_cases hjs:j<listed.size
  .simp[hjs]at h0 h1;rw[h0]at h1;cases h1
  .simp[hjs]at h1
 .intro fuel listed a w ρ fr m fX abf dZ x_ hmle A8 he hf hd Gj dM;have xS:listed.size=ops.size:=by rw[fX,szA]
  have kK:c<ops.size:=Nat.lt_trans Lu yL;refine⟨λh=>Gj (EI htA XQ kK xS xS (λ_ _=>rfl) h),λj hj=>?_⟩;have mZ:=xU hj;by_cases hB:j=d/\listed.getD c false=false
  rotate_left
  .have h2:j∈Region.ready .any (CQ ops c d) listed:=(oS htA XQ kK xS xS (λ_ _=>rfl) mZ).2 ⟨hj,λe=>by
    cases q:listed.getD c false with
    |true=>rfl
    |false=>exact absurd ⟨e,q⟩ hB⟩
   exact(y5 XQ mZ).2 ((yZ htA XQ mZ).1 (dM j h2))
  .obtain⟨rfl,u_⟩:=hB;have hd0:listed.getD j false=false:=by
    obtain⟨h0,_⟩:=mem_ready.1 hj;have:j<listed.size:=by omega
    simp[this]at h0|-;exact h0
   have Nn:m<=c:=by
    apply Classical.byContradiction;intro dm;obtain⟨o,ho,hco⟩:=yV hcc;have:=(A8 c _ (gA c o ho) (by rw[chO];exact hco)).1 (by omega);rw[u_]at this;cases this
   have aeq:∀(i:Nat)(o:Oper),ops[i]?=some o->listed.getD i false=true->∀e∈o.after,Region.binds .any e=true->listed.getD e.on false=true:=by
    intro i o ho hl e xf hb;exact dZ i _ (gA i o ho) hl ⟨e.on,.data⟩ (by
     unfold qi;simp only[List.mem_toArray,Zz,Yk,List.mem_filter,Array.mem_toList_iff];exact .inl ⟨e,⟨xf,hb⟩,rfl⟩) rfl
   have hmb:∀{i k:Nat},MB ops i k->listed.getD i false=true->listed.getD k false=true:=by
    intro i k h
    induction h with
    |edge ho xf hb=>exact λhl=>aeq _ _ ho hl _ xf hb
    |trans ho xf hb _ ih=>exact λhl=>ih (aeq _ _ ho hl _ xf hb)
   have hms:=oR (ops:=ops) ops.toList [] (by simp) (λj i h=>by simp at h);have ajR:∀i,listed.getD i false=true->ti (fY ops.toList []) c j i=false:=by
    intro i hl;cases q:ti (fY ops.toList []) c j i with
    |false=>rfl
    |
     true=>
     exfalso;simp only[ti,Yy,beq_iff_eq]at q;rcases q with((rfl|rfl)|q)|q
     .rw[u_]at hl;cases hl
     .rw[hd0]at hl;cases hl
     .have:=hmb (hms _ _ q) hl;rw[u_]at this;cases this
     .have:=hmb (hms _ _ q) hl;rw[hd0]at this;cases this
   have abl:(Gv c j listed.toList).toArray.size=ops.size:=by
    rw[List.size_toArray,JL Lu (by simpa[xS]using yL)];simpa using xS
   have hLB:∀i,i<ops.size->(Gv c j listed.toList).toArray.getD (sL c j i) false=listed.getD i false:=by
    intro i hi;have:=Wt (l:=listed.toList) Lu (by simpa[xS]using yL) (j:=i) (by simpa[xS]using hi);simp only[Zr,Xr,this,Array.getElem?_toList]
   have aeo:∀i,¬i<c->c<=sL c j i:=by
    intro i hi;unfold sL;rw[cm hi];split<;>(try split)<;>omega
   have ajS:=CJ (ops:=Dz ops c j) (S:=SB) (R:=RB) (w0:=_) (ρ0:=_) (d0:=_) (X:=X) (Q:=Q) hT cJ eZ (rj rB) (J:=(Dz ops c j).size) (bad:=λ_=>False) (λk h=>h.elim) (λh=>by omega) (λo ho=>absurd ho (noB o)) (λk o hk _=>bS k o hk) (λk o _ h=>h.elim) (λk o hk _=>rfB k o hk) (λk o _ h=>h.elim)
    (λj o ho _ hc ht hw m w6 _ yX=>by rw[rfB j o ho];exact bD j o ho hc ht hw m w6 yX)
    (λ_ a' w' ρ' h1 h2 h3=>hQB a' w' ρ' (by rw[b0,bL]at h1;exact h1) (by rw[bL]at h2;exact h2) h3) (λo ho=>absurd ho (noB o))
    (fuel+1) (Gv c j listed.toList).toArray a w ρ fr m (by rw[abl,szB]) (by rw[List.toList_toArray,Ws Lu (by simpa[xS]using yL)];exact abf) ?_ ?_ (by rw[szB];omega) (λh=>by omega) ?_ (by rw[same m Nn,b0];rw[a0]at he;exact he) (by rw[same m Nn];exact hf) hd
   .obtain⟨_,h2⟩:=ajS;have h3:=h2 (sL c j j) ((oS htB XQ yL xS abl hLB yL).2 ⟨hj,λe=>by omega⟩);refine(y5 XQ yL).2 (((yZ htB XQ yL).1 h3).imp (Oper.wp_mono λa' w' hk=>?_) _root_.id);refine Rk htB XQ yL fuel _ _ a' w' (by simpa using xS) (by simpa using abl) (JK htB xS abl hLB yL) ?_ hk;rw[jG (by omega),cq rfl]
   .intro k o' hk hl e xf hb;obtain⟨i,o,hi,rfl,ho,rfl⟩:=xT htB hk;rw[hLB i hi]at hl;unfold qi at xf;simp only[List.mem_toArray,Zz,Yk,List.mem_filter,Array.mem_toList_iff]at xf;rcases xf with⟨x,⟨hx,Di⟩,rfl⟩|xf
    .rw[hLB _ (XQ.on i o ho x hx)];exact aeq i o ho hl x hx Di
    .by_cases hic:i=c
     .subst hic;rw[u_]at hl;cases hl
     .rw[cm hic]at xf;simp at xf
   .refine⟨by rw[b0,<-a0];exact x_.len,λk o' t hk ht dm=>?_,λt x7=>?_⟩
    .obtain⟨i,o,hi,rfl,ho,rfl⟩:=xT htB hk;have ht':o.dst=some t:=ht;have h1:=x_.hit i _ t (gA i o ho) ht (by rw[a0,<-b0];exact dm);rw[h1,hLB i hi];cases q:listed.getD i false with
     |false=>simp[a0,b0]
     |
      true=>
      rw[cq rfl,cq rfl,og i o t ho (ajR i q) ht' (by rw[<-b0];exact dm)]
    .rw[b0,<-a0];refine x_.miss t λk o' hk Wk=>?_
     obtain⟨o,ho,rfl⟩:=iA k o' hk;exact x7 _ _ (gB k o ho) Wk
   .intro k o' hk hco;obtain⟨i,o,hi,rfl,ho,rfl⟩:=xT htB hk;rw[chO]at hco;rw[hLB i hi];have h1:=A8 i _ (gA i o ho) (by rw[chO];exact hco);by_cases hic:i<c
    .rw[show sL c j i=i by unfold sL;rw[cq hic]];exact h1
    .have:=aeo i hic;refine⟨λh=>by omega,λh=>?_⟩;have:=h1.2 h;omega
 .simp only[AK,Array.toList_replicate];exact Yp (Xu _ _) (by simp)
 .intro j o _ hl;rw[Y2]at hl;cases hl
 .rw[a0];refine⟨rfl,λi o t hi ht dm=>?_,λt _=>rfl⟩;rw[Y2];simp[List.getD,Zb dm]
 .intro k o _ _;rw[Y2];simp
def Rn(hm:C.P.follows .mixedOrders=true)(hT:∀t i,C.T t=some i->eH C.P t=some i)(cJ:iZ C call)(eZ:∀g xs h r h',C.inl g=false->call g xs h=some (r,h')->h'=h)(rm:∀(o:Oper)(a:Array Edge),C.jI {o with after:=a}=C.jI o){c d:Nat}(gI:Ck C ops c d=true){s s':St}{out:Out}(he:acO C call c d ops s=some (out,s')){X:Nat->Prop}{w:World}{ρ:Nat->Nat}{a:Act}(hs:gf C.G w X ρ s.2)(hf:RF w (dK X ρ s.2) ρ s.2.length a.tmps s.1){id:Nat}{Q:Exit->Act->World->Prop}(hQ:∀a' w' ρ',Ext C.G w X ρ s.2 w' ρ' s'.2->RF w' (dK X ρ' s'.2) ρ' s'.2.length a'.tmps s'.1->a'.defers=a.defers->Q (ug out) a' w'):(Code.region id ops true).wp C.P Q a w:=by
 unfold acO at he;split at he
 case h_2=>cases he
 rename_i sa sb hda hdb;split at he
 case h_2=>cases he
 rename_i sA sB sc hlA hlB ZV;split at he
 case isFalse=>cases he
 rename_i hck;simp only[Zc,Zg]at he;obtain⟨rfl,rfl⟩:=he;simp only[abL,Zh,Yt,List.mem_range]at hck;obtain⟨k1,k2,k3,k4,k5,k6⟩:=hck;have hsw:XP sc.2.length sB.2 sA.2:=by
  refine⟨Nat.le_of_ble_eq_true k2,Nat.eq_of_beq_eq_true k3,λi hi=>?_⟩;have:=k5 i hi;split at this
  .rename_i x y hx hy;exact⟨x,hx,by rw[hy,Mj this]⟩
  .cases this
 have ajT:=CN k4;refine NH hm hT cJ eZ rm gI hda hdb hlA hlB (λi o t ho hb ht=>?_) hs hf hQ λa' w' ρ' h1 h2 h3=>hQ a' w' _ (Ext.ren hsw (Nat.le_of_ble_eq_true k1) h1) (by rw[<-ajT];exact RF.ren hsw h2) h3
 have h1:=k6 i (Xt.1 ho).1;rw[hb]at h1;simp only[Bool.false_or,ho,Option.bind_some,ht]at h1;split at h1
 .rename_i x y hx hy;rw[hx,hy,CM h1]
 .rename_i hx hy;rw[hx,hy]
 .cases h1
end two
def codeOk(C:Cx):Code->Bool
 | .region id ops true=>match C.two id ops with|some (c,d)=>Ck C ops c d|none=>rok C ops
 | .seq a b=>codeOk C a && codeOk C b
 | .cond _ a b=>codeOk C a && codeOk C b
 | .block _ c=>codeOk C c
 | .loop c=>codeOk C c
 |_=>true
structure Dp (C:Cx):Prop where
 mixed:C.P.follows .mixedOrders=true
 jI:∀(o:Oper)(a:Array Edge),C.jI {o with after:=a}=C.jI o
 types:∀t i,C.T t=some i->eH C.P t=some i
 Vw:∀f fi,C.F f=some fi->G4 C.P f=some fi/\codeOk C fi.body=true/\∀fn,C.P.funcs[f]?=some fn->fn.name≠ "runtime.NumGoroutine"
section exec
variable {C : Cx} {call : Bool -> FuncId -> List AV -> Hp -> Option (AV × Hp)}
def kY(hC:Dp C)(cJ:∀b,iZ C (call b))(eZ:∀g xs h r h',C.inl g=false->call false g xs h=some (r,h')->h'=h){X:Nat->Prop}:
 ∀(c:Code),codeOk C c=true->∀(s s':St)(out:Out),exec C call c s=some (out,s')->∀(a:Act)(w:World)(ρ:Nat->Nat)(Q:Exit->Act->World->Prop),gf C.G w X ρ s.2->RF w (dK X ρ s.2) ρ s.2.length a.tmps s.1->
  (∀a' w' ρ',Ext C.G w X ρ s.2 w' ρ' s'.2->RF w' (dK X ρ' s'.2) ρ' s'.2.length a'.tmps s'.1->a'.defers=a.defers->Q (ug out) a' w')->c.wp C.P Q a w:=by
 intro c
 induction c with
 |
  skip=>
  intro _ s s' out he a w ρ Q hs hf hQ;simp only[exec,Zc,Zg]at he;obtain⟨rfl,rfl⟩:=he;exact wp_skip (hQ a w ρ (Ext.refl hs) hf rfl)
 |label l=>
  intro _ s s' out he a w ρ Q hs hf hQ;simp only[exec,Zc,Zg]at he;obtain⟨rfl,rfl⟩:=he;exact wp_label (hQ a w ρ (Ext.refl hs) hf rfl)
 |exit id=>
  intro _ s s' out he a w ρ Q hs hf hQ;simp only[exec,Zc,Zg]at he;obtain⟨rfl,rfl⟩:=he;exact wp_exit (hQ a w ρ (Ext.refl hs) hf rfl)
 |
  ret=>
  intro _ s s' out he a w ρ Q hs hf hQ;simp only[exec,Zc,Zg]at he;obtain⟨rfl,rfl⟩:=he;exact wp_ret (hQ a w ρ (Ext.refl hs) hf rfl)
 |region id ops draw=>
  intro gI s s' out he a w ρ Q hs hf hQ;simp only[exec]at he;cases draw with
  |
   false=>
   simp only[Ys,if_false]at he;refine wp_region ?_;have:=EF hC.types (cJ true) ops.toList 0 s s' out (by simp) he a w ρ hs hf hQ;simpa using this
  |
   true=>
   simp only[if_true]at he;cases htw:C.two id ops with
   |some p=>
    obtain⟨c,d⟩:=p;simp only[codeOk,htw]at gI he;exact Rn hC.mixed hC.types (cJ false) eZ hC.jI gI he hs hf hQ
   |none=>
   simp only[codeOk,htw]at gI he;split at he
   .rename_i jv hr;split at he
    .rename_i dN;simp only[Ze,Zg]at he;obtain⟨s1,hl,rfl,rfl⟩:=he;exact Mi hC.mixed hC.types (cJ false) eZ gI hr dN hl hs hf hQ
    .cases he
   .unfold vS at he;split at he
    .obtain⟨v,h',rfl,rfl,hd⟩:=Eu he;exact Wp hC.mixed hC.types (cJ false) eZ gI hd hs hf λa' w' ρ' h1 h2 h3=>hQ a' w' ρ' h1 h2 h3
    .cases he
 |seq x y ND Wu=>
  intro gI s s' out he a w ρ Q hs hf hQ;simp only[codeOk,Zh]at gI;simp only[exec]at he;refine wp_seq ?_;split at he
  .rename_i s1 h1;refine ND gI.1 s s1 .normal h1 a w ρ _ hs hf λa1 w1 ρ1 e1 aa d1=>?_
   show y.wp C.P Q a1 w1;exact Wu gI.2 s1 s' out he a1 w1 ρ1 Q e1.u6 aa λa2 w2 ρ2 e2 af d2=>hQ a2 w2 ρ2 (e1.trans e2) af (d2.trans d1)
  .rename_i hn;refine ND gI.1 s s' out he a w ρ _ hs hf λa1 w1 ρ1 e1 aa d1=>?_
   cases out with
   |normal=>exact absurd he (by intro h;exact hn s' h)
   |exit id=>exact hQ a1 w1 ρ1 e1 aa d1
   |ret=>exact hQ a1 w1 ρ1 e1 aa d1
   |th u=>exact hQ a1 w1 ρ1 e1 aa d1
 |cond c x y ND Wu=>
  intro gI s s' out he a w ρ Q hs hf hQ;simp only[codeOk,Zh]at gI;simp only[exec]at he;have hc:=dA hs hf c;split at he
  .rename_i hv;rw[hv]at hc;exact wp_cond_true hc.dH.1 (ND gI.1 s s' out he a w ρ Q hs hf hQ)
  .rename_i hv;rw[hv]at hc;exact wp_cond_false hc.dH.1 (Wu gI.2 s s' out he a w ρ Q hs hf hQ)
  .cases he
 |block id c ih=>
  intro gI s s' out he a w ρ Q hs hf hQ;simp only[codeOk]at gI;simp only[exec]at he;refine wp_block ?_;split at he
  .rename_i i s1 h1;simp only[Zc,Zg]at he;obtain⟨ho,rfl⟩:=he;refine ih gI s s1 (.exit i) h1 a w ρ _ hs hf λa1 w1 ρ1 e1 aa d1=>?_
   have hq:=hQ a1 w1 ρ1 e1 aa d1;rw[<-ho]at hq;show(if i=id then Q .normal a1 w1 else Q (.exit i) a1 w1);by_cases hi:i=id
   .rw[cq hi];rw[cq hi]at hq;exact hq
   .rw[cm hi];rw[cm hi]at hq;exact hq
  .rename_i hn;refine ih gI s s' out he a w ρ _ hs hf λa1 w1 ρ1 e1 aa d1=>?_
   cases out with
   |normal=>exact hQ a1 w1 ρ1 e1 aa d1
   |exit i=>exact absurd he (hn i s')
   |ret=>exact hQ a1 w1 ρ1 e1 aa d1
   |th u=>exact hQ a1 w1 ρ1 e1 aa d1
 |loop c ih=>
  intro gI s s' out he a w ρ Q hs hf hQ;simp only[codeOk]at gI;simp only[exec]at he;refine wp_loop_rounds C.fuel ?_;have key:∀(n:Nat)(s:St)(a1:Act)(w1:World)(ρ1:Nat->Nat),tj (exec C call c) n s=some (out,s')->gf C.G w1 X ρ1 s.2->RF w1 (dK X ρ1 s.2) ρ1 s.2.length a1.tmps s.1->
   (∀a' w' ρ',Ext C.G w1 X ρ1 s.2 w' ρ' s'.2->RF w' (dK X ρ' s'.2) ρ' s'.2.length a'.tmps s'.1->a'.defers=a1.defers->Q (ug out) a' w')->Code.rounds C.P c Q n a1 w1:=by
   intro n
   induction n with
   |zero=>intro s a1 w1 ρ1 hl;simp[tj]at hl
   |succ n ihn=>
    intro s a1 w1 ρ1 hl zZ JY hQ1;simp only[tj]at hl;rw[rounds_succ];split at hl
    .rename_i s1 h1;refine ih gI s s1 .normal h1 a1 w1 ρ1 _ zZ JY λa2 w2 ρ2 e2 af d2=>?_
     show Code.rounds C.P c Q n a2 w2;exact ihn s1 a2 w2 ρ2 hl e2.u6 af λa3 w3 ρ3 e3 ah d3=>hQ1 a3 w3 ρ3 (e2.trans e3) ah (d3.trans d2)
    .rename_i hn;refine ih gI s s' out hl a1 w1 ρ1 _ zZ JY λa2 w2 ρ2 e2 af d2=>?_
     cases out with
     |normal=>exact absurd hl (by intro h;exact hn s' h)
     |exit id=>exact hQ1 a2 w2 ρ2 e2 af d2
     |ret=>exact hQ1 a2 w2 ρ2 e2 af d2
     |th u=>exact hQ1 a2 w2 ρ2 e2 af d2
  exact key C.fuel s a w ρ he hs hf hQ
 |
  _=>
  intro _ s s' out he;simp[exec]at he
end exec
def Mk{C:Cx}{w:World}{X:Nat->Prop}{ρ:Nat->Nat}{s:St}(hs:gf C.G w X ρ s.2){tmps:Array Value}(hf:RF w (dK X ρ s.2) ρ s.2.length tmps s.1):
 ∀(rs:List ResultVar)(rvs:List Rv)(xs:List AV),
  (rs.mapM λ(r:ResultVar)=>match r with
   | .tmp t=>some (Rv.tmp t)
   | .cell a t=>match C.P.info? t,C.P.underlying t with|some i,some d=>some (Rv.cell a i.size (sM d))|_,_=>none)=some rvs->
  rvs.mapM (wZ s)=some xs->∃vs:List Value,(rs.mapM (m:=Sem) λ(r:ResultVar)=>match r with| .tmp t=>pure (tmps.getD t undef)| .cell a t=>do loadVar t (<-asAddr (tmps.getD a undef))).run C.P w= .ok vs w/\
   vs.length=xs.length/\∀(k:Nat)(x:AV),xs[k]?=some x->Rp w (dK X ρ s.2) ρ s.2.length (vs.getD k undef) x
 |
  [],rvs,xs,h1,h2=>by
  simp at h1;subst h1;simp at h2;subst h2;exact⟨[],by simp,rfl,by simp⟩
 |
  r::rs,rvs,xs,h1,h2=>by
  simp only[Zo,Option.bind_eq_bind,Yj,Option.pure_def,Zc]at h1;obtain⟨q,hq,qs,hqs,rfl⟩:=h1;simp only[Zo,Option.bind_eq_bind,Yj,Option.pure_def,Zc]at h2;obtain⟨y,hy,ys,yg,rfl⟩:=h2;obtain⟨vs,z_,vB,hv3⟩:=Mk hs hf rs qs ys hqs yg;have slot:∀t,Rp w (dK X ρ s.2) ρ s.2.length (tmps.getD t undef) (s.1.getD t .ud):=λt=>by
   cases ht:s.1[t]? with
   |some z=>have:=hf.2 t z ht;simpa[List.getD,ht]using this
   |none=>simp[List.getD,ht];exact .im (.ud _)
  have one:∃v,(match r with| .tmp t=>pure (tmps.getD t undef)| .cell a t=>do loadVar t (<-asAddr (tmps.getD a undef)):Sem Value).run C.P w= .ok v w/\Rp w (dK X ρ s.2) ρ s.2.length v y:=by
   cases r with
   |tmp t=>
    simp only[Zc]at hq;subst hq;simp only[wZ,Zc]at hy;subst hy;exact⟨_,rfl,slot t⟩
   |cell a t=>
    simp only at hq;split at hq
    .rename_i i d hi hd;simp only[Zc]at hq;subst hq;simp only[wZ]at hy;have wm:=slot a;split at hy
     .rename_i id off GK;rw[GK]at wm;obtain⟨e1,e2⟩:=wm.nk;split at hy
      .rename_i cs cZ;obtain⟨cF,t0,fz,us,c1,c3⟩:=hs.cells cZ;obtain⟨v,hv,hr⟩:=BK (ρ:=ρ) (n:=s.2.length) (X:=dK X ρ s.2) hd hi (o:=0) c1 (us:=us) (cs:=cs) (λk x hk=>by simpa using c3 k x hk) hy;refine⟨v,?_,hr⟩;simp only[Xs]at hv;simp only[e1,asAddr,Sem.run_bind,Sem.run_pure,Result.andThen_ok,hv]
      .cases hy
     .cases hy
    .cases hq
  obtain⟨v,hv,hr⟩:=one;refine⟨v::vs,?_,by simp[vB],λk x hk=>?_⟩
  .simp only[Zo,Sem.run_bind,hv,Result.andThen_ok,z_,Sem.run_pure]
  .cases k with
   |zero=>simp at hk;subst hk;simpa using hr
   |succ k=>simp at hk;simpa[List.getD]using hv3 k x hk
def yR{P:Program}{f:FuncId}{fi:Fi}(h:G4 P f=some fi):∃fn,P.funcs[f]?=some fn/\fn.body=some fi.body/\fi.ntmps=fn.ntmps/\
 (fn.results.toList.mapM λ(r:ResultVar)=>match r with
  | .tmp t=>some (Rv.tmp t)
  | .cell a t=>match P.info? t,P.underlying t with|some i,some d=>some (Rv.cell a i.size (sM d))|_,_=>none)=some fi.res:=by
 unfold G4 at h;split at h
 .rename_i fn Dx;split at h
  .rename_i c hc;simp only[Ze]at h;obtain⟨res,vw,rfl⟩:=h;exact⟨fn,Dx,hc,rfl,vw⟩
  .cases h
 .cases h
def kN{C:Cx}{w:World}{X:Nat->Prop}{ρ:Nat->Nat}{s:St}(hs:gf C.G w X ρ s.2){tmps:Array Value}(hf:RF w (dK X ρ s.2) ρ s.2.length tmps s.1){fn:Func}{fi:Fi}(vw:(fn.results.toList.mapM λ(r:ResultVar)=>match r with
  | .tmp t=>some (Rv.tmp t)
  | .cell a t=>match C.P.info? t,C.P.underlying t with|some i,some d=>some (Rv.cell a i.size (sM d))|_,_=>none)=some fi.res){r:AV}(hr:sE fi s=some r):
 ∃v,(results fn tmps).run C.P w= .ok v w/\Rp w (dK X ρ s.2) ρ s.2.length v r:=by
 have hm:∀vs:List Value,(fn.results.toList.mapM (m:=Sem) λ(r:ResultVar)=>match r with| .tmp t=>pure (tmps.getD t undef)| .cell a t=>do loadVar t (<-asAddr (tmps.getD a undef))).run C.P w= .ok vs w->
  (results fn tmps).run C.P w= .ok (if h:vs.toArray.size=1 then vs.toArray[0]else .tuple vs.toArray) w:=by
  intro vs yf;unfold results;simp only[Sem.run_bind];rw[Array.mapM_eq_mapM_toList,Sem.run_map];exact congrArg (λz:Result (List Value)=>(z.andThen λa w'=>Result.ok a.toArray w').andThen λ(a:Array Value)w'=>Sem.run C.P (pure (if h:a.size=1 then a[0]else Value.tuple a)) w') yf
 unfold sE at hr;split at hr
 .rename_i t ht;have h1:[t].mapM (wZ s)=some [r]:=by simp[hr]
  rw[ht]at vw;obtain⟨vs,z_,vB,hv3⟩:=Mk hs hf _ _ _ vw h1;refine⟨_,hm vs z_,?_⟩;cases vs with
  |nil=>simp at vB
  |cons v vs=>
   have:vs=[]:=by simpa using vB
   subst this;simpa using hv3 0 r rfl
 .rename_i eF;simp only[Ze]at hr;obtain⟨xs,UZ,rfl⟩:=hr;obtain⟨vs,z_,vB,hv3⟩:=Mk hs hf _ _ _ vw UZ;refine⟨_,hm vs z_,?_⟩;have hl:vs.length≠1:=by
   intro h1;have h2:=(iP UZ).1;rw[<-vB,h1]at h2
   match hq:fi.res with
   | []=>rw[hq]at h2;simp at h2
   | [t]=>exact eF t hq
   |_::_::_=>rw[hq]at h2;simp at h2
  rw[dif_neg (by simpa using hl)];refine .tp _ _ (by simpa using vB) λk x hk=>?_
  have:=hv3 k x hk;simpa[List.getD,Zr]using this
def Cj{w:World}{X:Nat->Prop}{ρ:Nat->Nat}{n m m':Nat}{vs:Array Value}{xs:List AV}(hl:vs.size=xs.length)(hm:m=m')(hv:∀(k:Nat)(x:AV),xs[k]?=some x->Rp w X ρ n (vs.getD k undef) x):
 RF w X ρ n (vs++Array.replicate (m-vs.size) undef) (xs++List.replicate (m'-xs.length) .un):=by
 subst hm;refine⟨by simp[hl],λi x hx=>?_⟩;by_cases hi:i<xs.length
 .rw[Zd hi]at hx;have p8:i<vs.size:=by omega
  have:=hv i x hx;rw[Zr,Array.getElem?_append_left p8,<-Zr];exact this
 .rw[Zf (by omega)]at hx;have U1:x= .un:=by
   rw[List.getElem?_replicate]at hx;split at hx
   .simpa using hx.symm
   .cases hx
  subst U1;have:(vs++Array.replicate (m-vs.size) undef).getD i undef=undef:=by
   rw[Zr,Array.getElem?_append_right (by omega),Array.getElem?_replicate];split<;>rfl
  rw[this];exact .im .un
def zK{C:Cx}{call:Bool->FuncId->List AV->Hp->Option (AV × Hp)}(hC:Dp C)(cJ:∀b,iZ C (call b))(eZ:∀g xs h r h',C.inl g=false->call false g xs h=some (r,h')->h'=h){f:FuncId}{xs:List AV}{h h':Hp}{r:AV}(hb:om C call f xs h=some (r,h'))(w:World)(X:Nat->Prop)(ρ:Nat->Nat)(vs:Array Value)(hs:gf C.G w X ρ h)(hl:vs.size=xs.length)(hv:∀(k:Nat)(x:AV),xs[k]?=some x->Rp w (dK X ρ h) ρ h.length (vs.getD k undef) x):
 (∃fn,C.P.funcs[f]?=some fn/\fn.name≠ "runtime.NumGoroutine" /\fn.body.isSome=true)/\
 Calls C.P f vs w (xQ C w X ρ h h' r):=by
 unfold om at hb;split at hb
 case h_2=>cases hb
 rename_i fi hfi;obtain⟨h1,h2,h3⟩:=hC.Vw f fi hfi;obtain⟨fn,aa,af,ah,ai⟩:=yR h1;refine⟨⟨fn,aa,h3 fn aa,by simp[af]⟩,?_⟩;split at hb
 case isFalse=>cases hb
 rename_i da;refine calls_of_wp aa af ?_;have hrf:=Cj (m:=fn.ntmps) (m':=fi.ntmps) hl ah.symm hv;have fin:∀(out:Out)(s':St),exec C call fi.body (xs++List.replicate (fi.ntmps-xs.length) .un,h)=some (out,s')->(out= .normal\/out= .ret)->(sE fi s').map (λr=>(r,s'.2))=some (r,h')->
  fi.body.wp C.P (bodyPost C.P fn (xQ C w X ρ h h' r)) {tmps:=vs++Array.replicate (fn.ntmps-vs.size) undef,defers:=[]} w:=by
  intro out s' hex ho vw;simp only[Ze,Zg]at vw;obtain⟨r',cz,rfl,rfl⟩:=vw;refine kY hC cJ eZ fi.body h2 _ s' out hex _ w ρ _ hs hrf λa' w' ρ' he sF hd=>?_
  obtain⟨v,z_,vB⟩:=kN he.u6 sF ai cz;rcases ho with rfl|rfl
  .exact⟨hd,v,z_,ρ',he,.inl ⟨v,rfl,vB⟩⟩
  .exact⟨hd,v,z_,ρ',he,.inl ⟨v,rfl,vB⟩⟩
 split at hb
 .rename_i s' hex;exact fin .normal s' hex (.inl rfl) hb
 .rename_i s' hex;exact fin .ret s' hex (.inr rfl) hb
 .rename_i u s' hex;simp only[Zc,Zg]at hb;obtain⟨rfl,rfl⟩:=hb;refine kY hC cJ eZ fi.body h2 _ s' _ hex _ w ρ _ hs hrf λa' w' ρ' he sF hd=>?_
  exact⟨hd,ρ',he,.inr ⟨u,rfl,rfl⟩⟩
 .cases hb
def Ro{h:Hp}{n:Nat}{x y:AV}(hc:dk x=true)(hs:cD h (n+1) x=some y):y=x:=by
 have aca:∀(xs ys:List AV),(xs.all λ| .sc _| .ls .. | .rp .. =>true|_=>false)=true->xs.mapM (cD h n)=some ys->ys=xs:=by
  intro xs
  induction xs with
  |nil=>intro ys _ hm;simp at hm;exact hm
  |cons x xs ih=>
   intro ys dN hm;simp only[Zn,Zh]at dN;simp only[Zo,Option.bind_eq_bind,Yj,Option.pure_def,Zc]at hm;obtain⟨b,hb,bs,hbs,rfl⟩:=hm;rw[ih bs dN.2 hbs];have:b=x:=by
    cases x<;>simp at dN<;>(cases n<;>simp only[cD,Zc]at hb<;>exact hb.symm)
   rw[this]
 unfold dk at hc;split at hc
 .simp only[cD,Zc]at hs;exact hs.symm
 .simp only[cD,Zc]at hs;exact hs.symm
 .simp only[cD,Zc]at hs;exact hs.symm
 .simp only[cD,Ze]at hs;obtain⟨ys,yg,rfl⟩:=hs;rw[aca _ _ hc yg]
 .simp only[cD,Ze]at hs;obtain⟨ys,yg,rfl⟩:=hs;rw[aca _ _ hc yg]
 .cases hc
end Go.Ae
