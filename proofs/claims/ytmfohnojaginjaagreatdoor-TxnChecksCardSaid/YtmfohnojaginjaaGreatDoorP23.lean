/- Part of the proof. -/
import Derived.Test.YtmfohnojaginjaaGreatDoorP22
set_option linter.all false
set_option maxHeartbeats 16000000
set_option maxRecDepth 100000
namespace Go.Proofs.YtmfohnojaginjaaGreatDoor
open Go Go.Ae Go.Proofs.Tryz
section
attribute [local simp] cn eD
def M3{a b c d:Nat}(h:a*d=c*b)(g:Nat.gcd a b=1):b ∣ d:=by
 have h1:b ∣ a*d:=⟨c,by rw[h,Nat.mul_comm]⟩;exact Nat.Coprime.dvd_of_dvd_mul_left (Nat.Coprime.symm g) h1
def Po{x:Int}:ij x=0↔x=0:=by unfold ij;(repeat' split)<;>omega
def adu{n1 d1 n2 d2:Int}(h1:fv n1 d1=true)(h2:fv n2 d2=true):ve n1 d1 n2 d2=0↔n1=n2/\d1=d2:=by
 unfold ve fO jn;rw[h1,h2,Po];simp only[cond_true];simp only[fv,Zh,Zy,Lm]at h1 h2;constructor
 .intro h;have e:n1*d2=n2*d1:=by omega
  have en:n1.natAbs*d2.natAbs=n2.natAbs*d1.natAbs:=by rw[<-Int.natAbs_mul,<-Int.natAbs_mul,e]
  have g1:Nat.gcd n1.natAbs d1.natAbs=1:=Int.ofNat.inj (of_decide_eq_true h1.2);have g2:Nat.gcd n2.natAbs d2.natAbs=1:=Int.ofNat.inj (of_decide_eq_true h2.2);have a1:=M3 en g1;have a2:=M3 en.symm g2;have a3:=Nat.dvd_antisymm a1 a2;have ed:d1=d2:=by omega
  subst ed;exact⟨Int.eq_of_mul_eq_mul_right (by omega) e,rfl⟩
 .rintro⟨rfl,rfl⟩;omega
def Up{v:V}(h:jR v=true):fv (lI v) (lJ v)=true:=by
 unfold jR at h;rw[Zh,Yy,Zy,Zy]at h;obtain⟨ho,hk⟩:=h;unfold lI lJ;rw[cq ho,cq ho];cases v with
 |mk k n d s z l=>
  simp only[V.k,V.n,V.d]at hk|-;unfold jo at ho;rw[oY]at ho;simp only[Zh]at ho;obtain⟨_,ho⟩:=ho;rcases hk with rfl|rfl
  .simp at ho|-;rw[fv,ho];simp[Lm]
  .simp at ho|-;exact ho.2
def adv{v w:V}(hv:jR v=true)(hw:jR w=true):decide (ve (lI v) (lJ v) (lI w) (lJ w)=0)=(decide (lI v=lI w) && decide (lJ v=lJ w)):=by
 rw[Bool.eq_iff_iff,Zh,Zy,Zy,Zy];exact adu (Up hv) (Up hw)
noncomputable def Uq(u v:AV):Option AV:=j_ cx (λo=>match o with| .tmp 0=>u|_=>v) {dst:=none,op:= .binOp .eql 250 (.tmp 0) (.tmp 1) 250,type:=0,pos:= "",after:= #[],guard:=none}
def Ur(fr:LA)(d:Option Tmp)(x y:Tmp)(ty:TypeId)(p:String)(a:Array Edge)(g:Option (Nat × Bool)):j_ cx (ev cx fr) {dst:=d,op:= .binOp .eql 250 (.tmp x) (.tmp y) 250,type:=ty,pos:=p,after:=a,guard:=g}=Uq (gt fr x) (gt fr y):=rfl
def lZ{P:Program}{α β:Type}(s:Sem α)(f:α->Sem β):eQ P (s>>=f)=(eQ P s).bind λa=>eQ P (f a):=by
 induction s with
 |pure a=>rfl
 |program k ih=>exact ih P
 |mark m k ih=>exact ih
 |_=>rfl
def rV{P:Program}{α:Type}(a:α):eQ P (pure a:Sem α)=some a:=rfl
def rW{P:Program}:eQ P program=some P:=rfl
def Ln :prog.underlying 250=some (.struct #[{name:= "N",type:=3,offset:=0,embedded:=false,tag:= "",pkgPath:= "",byteOffset:=0},{name:= "D",type:=3,offset:=1,embedded:=false,tag:= "",pkgPath:= "",byteOffset:=8}]):=by kernel_rfl
def Us(a b c d:Int):Uq (.ag [a,b]) (.ag [c,d])=some (.sc (.bool (decide (a=c) && decide (b=d)))):=by
 have hP:cx.P=prog:=rfl;have u1:∀t x,prog.underlying t=some x->eQ prog (underlying t)=some x:=λt x h=>by
  simp only[underlying,lZ,rW,Option.bind_some,h];rfl
 have p1:∀(x y:Value),eQ prog (part 3 #[x,y] 0)=some x:=λx y=>by
  kernel_rfl
 have p2:∀(x y:Value),eQ prog (part 3 #[x,y] 1)=some y:=λx y=>by kernel_rfl
 have ai4:=u1 _ _ Ln;have u3:=u1 3 (.int .i64) (by kernel_rfl);have e3:∀(n:Nat)(x y:Int),eQ prog (Op.equalIn (n+1) 3 (.int .i64 x) (.int .i64 y))=some (decide (x=y)):=λn x y=>by
  simp only[Op.equalIn,lZ,u3,Option.bind_some,if_true,rV];rfl
 have e1:eQ prog (Op.equalIn 10000 250 (.agg #[.int .i64 a,.int .i64 b]) (.agg #[.int .i64 c,.int .i64 d]))=some (decide (a=c) && decide (b=d)):=by
  rw[show(10000:Nat)=9998+1+1 from rfl,Op.equalIn];have e3':∀x y:Int,eQ prog (Op.equalIn 9999 3 (.int .i64 x) (.int .i64 y))=some (decide (x=y)):=e3 9998;have hs:prog.stoodInHeld 250=false:=by kernel_rfl
  have n1:("N" ≠ "_"):=by decide
  have n2:("D" ≠ "_"):=by decide
  simp only[lZ,ai4,Option.bind_some,rW,hs,Ys,if_false,List.forIn_toArray,List.forIn_cons,List.forIn_nil,n1,n2,if_true,p1,e3,ne_eq,not_false_eq_true];by_cases h1:a=c<;>by_cases h2:b=d<;>simp[h1,h2,rV,lZ,p2,e3']
 have e:eQ cx.P (execOp (λx=>vA (match x with| .tmp 0=>AV.ag [a,b]|_=>AV.ag [c,d])) {dst:=none,op:= .binOp .eql 250 (.tmp 0) (.tmp 1) 250,type:=0,pos:= "",after:= #[],guard:=none})=some (.value (.bool (decide (a=c) && decide (b=d)))):=by
  have hg:prog.eqGuardType prog.depth 250=false:=by kernel_rfl
  simp only[execOp,vA,List.map,acM,eqGuard,binOp,Op.equal,Op.maxDepth,lZ,hP,rW,Option.bind_some,hg,Xv,Qa,Ys,if_false,if_true,rV,e1]
 unfold Uq j_;refine(cq rfl).trans ?_;rw[e];rfl
def VE(N:Nat)(v w:V):Prop:=∀b h,ch cx N b 373 [.ag (enc v),.ag (enc w)] h=some (.sc (.int .i64 (nU v w)),h)
def Lp(M:Nat)(k n d n' d':Int)(s s':ByteArray)(z z':Bool)(l m:List V)(N1 D1 N2 D2:Int)(af:∀b h,ch cx M b 347 [.ag [k,n,d,s,eG z l]] h=some (.tp [kI N1 D1,false],h))(ai:∀b h,ch cx M b 347 [.ag [k,n',d',s',eG z' m]] h=some (.tp [kI N2 D2,false],h))(ha:∀x y b h,ch cx M b 449 [.sc (.int .i64 x),.sc (.int .i64 y)] h=some (.sc (.int .i64 (HW x y)),h))(ho:∀x∈l,∀y∈m,VE M x y)(hk:k=8\/k=7)(hl:l.length<=1000000000000000)(b:Bool)(h:Hp):
 ch cx (M+1) b 373 [.ag [k,n,d,s,eG z l],.ag [k,n',d',s',eG z' m]] h=some (.sc (.int .i64 (
  if¬l.length=m.length then 0 else xY l m 2)),h):=by
 have c1:eu (eG z l)=true:=by unfold eG po;cases z && (ef l).isEmpty<;>rfl
 have c2:eu (eG z' m)=true:=by unfold eG po;cases z' && (ef m).isEmpty<;>rfl
 refine eR f373 [.tmp 4] (by rw[Zn,Zn,iL,iL];simp[c1,c2]) rfl ?_ b h;unfold kI at af ai;clear c1 c2;have hL:=jN z l;have eW:=jN z' m;generalize eG z l=L at hL af;generalize eG z' m=L' at eW ai;have hq:=dI l;have hg:=gh l;have mR:=dI m;have x6:=gh m;generalize ef l=cg at hq hg hL;generalize ef m=rows' at mR x6 eW;by_cases cf:l.length=m.length
 .rw[cm (by simp[cf])];have p8:((l.length:Int)=(m.length:Int)):=by omega
  by_cases h0:l.length=0
  .have lQ:m.length=0:=by omega
   have e0:xY l m 2=2:=by
    have:=Zl h0;subst this;rw[xY]
   have hr:cg=[]:=Zl (by omega);have cz:rows'=[]:=Zl (by omega);subst hr cz;rw[e0];rcases hL with hL|⟨hL,hz⟩<;>rcases eW with eW|⟨eW,JZ⟩<;>subst hL<;>subst eW<;>rcases hk with rfl|rfl
   all_goals
    simp[f373,af,ai];refine pQ
     (λi st _=>st.length=95/\gt st 77=(0:Int)/\gt st 76=(0:Int)/\gt st 9=(2:Int))
     (λo st _=>o= .exit 1/\st.length=95/\gt st 9=(2:Int)) 0 (by simp) (by exact ⟨rfl,rfl,rfl,rfl⟩) ?_ ?_
    .rintro i fr h da ⟨cf,g77,g76,g9⟩;simp[cf,g77,g76,g9]
    .rintro o fr h hn ⟨rfl,cf,g9⟩;simp[cf,g9]
  .rcases hL with hL|⟨hL,hz⟩
   .rcases eW with eW|⟨eW,JZ⟩
    .subst hL eW;have tN:=cf;rcases hk with rfl|rfl
     .simp[f373,af,ai,hq,mR,cf];refine pQ
       (λi st dn=>i<=m.length/\st.length=95/\gt st 2= .pt 0 0/\gt st 3= .pt 1 0/\gt st 76=m.length/\gt st 77=i/\dn[0]?=some (.row [(8:Int),n,d,s,.ls 5 cg z])/\dn[1]?=some (.row [(8:Int),n',d',s',.ls 5 rows' z'])/\∃a,gt st 9= .sc (.int .i64 a)/\xY l m 2=yy l m a i)
       (λo st _=>o= .exit 1/\st.length=95/\gt st 9= .sc (.int .i64 (xY l m 2))) m.length (by simp;omega) (by simp[yy]) ?_ ?_
      .rintro i fr h da ⟨jw,cf,g2,g3,g76,g77,s0,s1,a,g9,j9⟩;have hf:cS .i64 ((i:Int)+1)=((i+1:Nat):Int):=cu (by omega) (by omega);by_cases hi:i<m.length
       .obtain⟨x,hx⟩:∃c,l[i]?=some c:=⟨_,Zb (by omega)⟩;obtain⟨y,hy⟩:=eA hi;have hr:cg[i]?=some (enc x):=by rw[hg,hx];rfl
        have vY:rows'[i]?=some (enc y):=by rw[x6,hy];rfl
        have cz:=gA hr
        have nG:=gA vY
        have cJ:=ho x (Zi hx) y (Zi hy);unfold VE at cJ;rw[uK a hx hy]at j9;generalize nU x y=c at cJ j9;generalize xY l m 2=T at j9;simp[cf,g2,g3,g76,g77,g9,s0,s1,hi,tN,hq,mR,cz,nG,cJ,ha,hf];exact⟨by omega,j9⟩
       .have hz:=xt l m a i (by omega);rw[hz]at j9;simp[cf,g76,g77,g9,hi,j9]
      .rintro o fr h hn ⟨rfl,cf,g9⟩;simp[cf,g9]
     .simp[f373,af,ai,hq,mR,cf];refine pQ
       (λi st dn=>i<=m.length/\st.length=95/\gt st 2= .pt 0 0/\gt st 3= .pt 1 0/\gt st 76=m.length/\gt st 77=i/\dn[0]?=some (.row [(7:Int),n,d,s,.ls 5 cg z])/\dn[1]?=some (.row [(7:Int),n',d',s',.ls 5 rows' z'])/\∃a,gt st 9= .sc (.int .i64 a)/\xY l m 2=yy l m a i)
       (λo st _=>o= .exit 1/\st.length=95/\gt st 9= .sc (.int .i64 (xY l m 2))) m.length (by simp;omega) (by simp[yy]) ?_ ?_
      .rintro i fr h da ⟨jw,cf,g2,g3,g76,g77,s0,s1,a,g9,j9⟩;have hf:cS .i64 ((i:Int)+1)=((i+1:Nat):Int):=cu (by omega) (by omega);by_cases hi:i<m.length
       .obtain⟨x,hx⟩:∃c,l[i]?=some c:=⟨_,Zb (by omega)⟩;obtain⟨y,hy⟩:=eA hi;have hr:cg[i]?=some (enc x):=by rw[hg,hx];rfl
        have vY:rows'[i]?=some (enc y):=by rw[x6,hy];rfl
        have cz:=gA hr
        have nG:=gA vY
        have cJ:=ho x (Zi hx) y (Zi hy);unfold VE at cJ;rw[uK a hx hy]at j9;generalize nU x y=c at cJ j9;generalize xY l m 2=T at j9;simp[cf,g2,g3,g76,g77,g9,s0,s1,hi,tN,hq,mR,cz,nG,cJ,ha,hf];exact⟨by omega,j9⟩
       .have hz:=xt l m a i (by omega);rw[hz]at j9;simp[cf,g76,g77,g9,hi,j9]
      .rintro o fr h hn ⟨rfl,cf,g9⟩;simp[cf,g9]
    .omega
   .omega
 .rw[cq cf];have p8:¬((l.length:Int)=(m.length:Int)):=by omega
  rcases hL with hL|⟨hL,hz⟩
  .rcases eW with eW|⟨eW,JZ⟩
   .subst hL eW;rcases hk with rfl|rfl<;>simp[f373,af,ai,hq,mR,p8]
   .subst hL eW;have eF:¬l=[]:=λe=>cf (by rw[e,JZ];rfl)
    rcases hk with rfl|rfl<;>simp[f373,af,ai,hq,eF]
  .rcases eW with eW|⟨eW,JZ⟩
   .subst hL eW;have eF:¬0=(m.length:Int):=λe=>cf (by omega)
    rcases hk with rfl|rfl<;>simp[f373,af,ai,mR,eF]
   .exact absurd (by omega) cf
def Lq(M:Nat)(k n d k' n' d':Int)(s s':ByteArray)(L L':AV)(N1 D1 N2 D2:Int)(hL:eu L=true)(eW:eu L'=true)(af:∀b h,ch cx M b 347 [.ag [k,n,d,s,L]] h=some (.tp [kI N1 D1,true],h))(ai:∀b h,ch cx M b 347 [.ag [k',n',d',s',L']] h=some (.tp [kI N2 D2,true],h))(hy:∀x b h,ch cx M b 448 [.sc (.bool x)] h=some (.sc (.int .i64 (tv x)),h))(hn:¬k=0)(hn':¬k'=0)(b:Bool)(h:Hp):
 ch cx (M+1) b 373 [.ag [k,n,d,s,L],.ag [k',n',d',s',L']] h=some (.sc (.int .i64 (tv (decide (N1=N2) && decide (D1=D2)))),h):=by
 refine eR f373 [.tmp 4] (by rw[Zn,Zn,iL,iL];simp[hL,eW]) rfl ?_ b h;unfold kI at af ai;have e:=Us N1 D1 N2 D2;generalize(decide (N1=N2) && decide (D1=D2))=q at e|-;simp[f373,hn,hn',af,ai,hy,Ur,e]
def if3{P Q R:Prop}[Decidable P][Decidable Q][Decidable R](p:¬P)(q:¬Q)(r:¬R)(a b c T:Int):(if P then a else if Q then b else if R then c else T)=T:=by
 rw[cm p,cm q,cm r]
def adw :∀(D:Nat)(v w:V),gS v<=D->gS w<=D->jK v->jK w->jo v=true->jo w=true->∀N,VE (N+2*D+6) v w:=by
 intro D
 induction D with
 |zero=>intro v w h;have:=kS v;omega
 |succ D ih=>
  intro v w dv dw bv bw ov ow N b h;have pv:=kf ov;have pw:=kf ow;have ho:∀x∈v.l,∀y∈w.l,VE (N+2*D+7) x y:=λx hx y hy=>by
   have:=ih x y (ql dv x hx) (ql dw y hy) ((lh bv).2 x hx) ((lh bw).2 y hy) (pv.2.2.2.2.2 x hx) (pw.2.2.2.2.2 y hy) (N+1);rw[show N+1+2*D+6=N+2*D+7 by omega]at this;exact this
  have nv:=λb h=>rG N (D+1) v dv bv b h
  have nw:=λb h=>rG N (D+1) w dw bw b h
  rw[show N+2*(D+1)+5=N+2*D+7 by omega]at nv nw;rw[show N+2*(D+1)+6=N+2*D+7+1 by omega];have hy:=λx b h=>Pn (N+2*D+6) b x h
  have ha:=λx y b h=>ZT (N+2*D+5) b x y h
  have hl:=(lh bv).1;have eF:=λ(q1:jR v=true)(q2:jR w=true)=>adv q1 q2
  cases v with
  |mk k n d s z l=>
   cases w with
   |mk k' n' d' s' z' m=>
    simp only[V.l,V.k,V.n,V.s,V.d]at ho hl pv pw;have c1:eu (eG z l)=true:=by unfold eG po;cases z && (ef l).isEmpty<;>rfl
    have c2:eu (eG z' m)=true:=by unfold eG po;cases z' && (ef m).isEmpty<;>rfl
    rw[nU,ov,ow];simp only[V.k,V.n,V.s,V.l,Bool.true_eq_false,or_false];rw[eI]at nv nw;by_cases h0:k=0\/k'=0
    .rw[cq h0];by_cases hB:jR (.mk k n d s z l)=true/\jR (.mk k' n' d' s' z' m)=true
     .exfalso;rcases h0 with rfl|rfl
      .have:jR (.mk 0 n d s z l)=false:=by show(jo _ && false)=false;exact Bool.and_false _
       rw[this]at hB;exact absurd hB.1 (by simp)
      .have:jR (.mk 0 n' d' s' z' m)=false:=by show(jo _ && false)=false;exact Bool.and_false _
       rw[this]at hB;exact absurd hB.2 (by simp)
     .have:=BQ (N+2*D+7) k n d k' n' d' s s' _ _ _ _ _ _ _ _ c1 c2 nv nw hy hB (.inl h0) b h;rw[cq h0]at this;exact this
    .rw[cm h0];have hk0:¬k=0:=λe=>h0 (.inl e)
     have ai5:¬k'=0:=λe=>h0 (.inr e)
     by_cases hB:jR (.mk k n d s z l)=true/\jR (.mk k' n' d' s' z' m)=true
     .rw[cq hB,eF hB.1 hB.2];rw[hB.1]at nv;rw[hB.2]at nw;exact Lq _ _ _ _ _ _ _ _ _ _ _ _ _ _ _ c1 c2 nv nw hy hk0 ai5 b h
     .rw[cm hB];by_cases h8:k=k'/\(k=8\/k=7)
      .obtain⟨e,h8⟩:=h8;subst e;have b0:(decide (k=2)||decide (k=3))=false:=by simp;omega
       have b1:jR (.mk k n d s z l)=false:=by show(jo _ && (decide (k=2)||decide (k=3)))=false;rw[b0,Bool.and_false]
       have b2:jR (.mk k n' d' s' z' m)=false:=by show(jo _ && (decide (k=2)||decide (k=3)))=false;rw[b0,Bool.and_false]
       rw[b1]at nv;rw[b2]at nw;exact(Lp _ _ _ _ _ _ _ _ _ _ _ _ _ _ _ _ nv nw ha ho h8 hl b h).trans (congrArg (λx=>some (AV.sc (.int .i64 x),h)) (if3 (λe=>e rfl) (by omega) (by omega) _ _ _ _).symm)
      .have hn:¬k=k'\/(¬k=8/\¬k=7):=by omega
       have:=BQ (N+2*D+7) k n d k' n' d' s s' _ _ _ _ _ _ _ _ c1 c2 nv nw hy hB (.inr hn) b h;rw[cm h0]at this;refine this.trans (congrArg (λx=>some (AV.sc (.int .i64 x),h)) ?_);by_cases e:k=k'
       .subst e;rw[cm (c:=¬k=k) (λe=>e rfl)];by_cases k4:k=4
        .rw[cq k4];have e1:=pv.2.2.2.2.1 k4;have e2:=pw.2.2.2.2.1 k4;simp[e1,e2]
        .rw[cm k4,cq (by omega)];have e1:=pv.2.2.2.1.resolve_left k4;have e2:=pw.2.2.2.1.resolve_left k4;rw[e1,e2];have:fm ⟨#[]⟩ ⟨#[]⟩=true:=rfl;rw[this,Bool.and_true];exact(cm (λe=>e rfl)).symm
       .rw[cq e];exact(cq e).symm
end
section
attribute [local simp] eD
def M4(z:Bool):AV:=if z then .sc (.slice none 0 0)else .ls 5 [] true
noncomputable def abT(u:AV):Option AV:=j_ cx (λo=>match o with| .tmp _=>u|_=> .sc (.slice none 0 0)) {dst:=none,op:= .binOp .eql 71 (.tmp 0) (.const (.slice none 0 0)) 71,type:=0,pos:= "",after:= #[],guard:=none}
def Ut(fr:LA)(d:Option Tmp)(x:Tmp)(ty:TypeId)(p:String)(a:Array Edge)(g:Option (Nat × Bool)):j_ cx (ev cx fr) {dst:=d,op:= .binOp .eql 71 (.tmp x) (.const (.slice none 0 0)) 71,type:=ty,pos:=p,after:=a,guard:=g}=abT (gt fr x):=rfl
def Uu :abT (.sc (.slice none 0 0))=some (.sc (.bool true)):=by kernel_rfl
def Pp(n:Nat)(b z:Bool)(h:Hp):ch cx (n+1) b 399 [eG z []] h=some (M4 z,h):=by
 have e1:cx.oW 399=none:=by kernel_rfl
 have e2:cx.inl 399=true:=by kernel_rfl
 have e3:cx.ins 399=none:=by kernel_rfl
 cases z with
 |
  false=>
  have e4:(if[eG false []].all dk then cx.ux 399 [eG false []]else none)=some (.ls 5 [] true):=rfl;simp only[ch,e1,e2,e3,e4,if_true];rfl
 |
  true=>
  have e4:(if[eG true []].all dk then cx.ux 399 [eG true []]else none)=none:=rfl;have e5:cx.F 399=some ⟨f399.ntmps,(f399.body).getD .skip,[.tmp 2]⟩:=by kernel_rfl
  have e6:(jQ cx ((f399.body).getD .skip)).isNone=true:=by kernel_rfl
  have oZ:ch cx (n+1) b 399 [eG true []] h=dL [.tmp 2] (n ((f399.body).getD .skip) ([eG true []]++List.replicate (f399.ntmps-1) .un,h)):=by
   simp only[ch,e1,e2,e3,e4,e5,if_true,Yb.1 e6];exact jL e5 (by kernel_rfl) (by simp[f399]) h
  rw[oZ];have:eG true []=():=rfl;rw[this];simp[f399,M4,Ut,Uu,s9]
def Uv(n:Nat)(b z:Bool)(k m d:Int)(s:ByteArray)(h:Hp):
 ch cx (n+2) b 439 [.ag [k,m,d,s,eG z []]] h=some (.ag [k,m,d,s,M4 z],h++[.row [k,m,d,s,M4 z],.row [k,m,d,s,M4 z]]):=by
 rw[CV (n:=n+1) (λi=>i==5) f439 [.cell 2 5 true]];have aa:=λb h=>Pp n b z h
 have hL:(eG z []=()/\M4 z=())\/(eG z []= .ls 5 [] false/\M4 z= .ls 5 [] true):=by cases z<;>simp[eG,po,ef,M4]
 generalize eG z []=L,M4 z=L' at aa hL|-;rcases hL with⟨rfl,rfl⟩|⟨rfl,rfl⟩
 .simp[f439,aa,cn];refine lY (C:=cx) (G:=λr=>dL _ (qM _ _ _ (du _ r) _)=some _)
   (λi st=>st.1.length=26/\gt st.1 1= .pt h.length 0/\gt st.1 2= .pt (h.length+1) 0/\gt st.1 10=(0:Int)/\gt st.1 11=(0:Int)/\st.2=h++[.row [k,m,d,s,()],.row [(0:Int),(0:Int),(0:Int),.sc (.string ⟨#[]⟩),()]])
   (λo st=>o= .exit 0/\st.1.length=26/\gt st.1 1= .pt h.length 0/\gt st.1 2= .pt (h.length+1) 0/\st.2=h++[.row [k,m,d,s,()],.row [(0:Int),(0:Int),(0:Int),.sc (.string ⟨#[]⟩),()]]) 0 (by simp) ⟨rfl,rfl,rfl,rfl,rfl,rfl⟩ ?_ ?_
  .rintro i fr hp da ⟨cf,g1,g2,g10,g11,hh⟩;simp only at cf g1 g2 g10 g11 hh;subst hh;simp[cf,g1,g2,g10,g11]
  .rintro o fr hp hn ⟨rfl,cf,g1,g2,hh⟩;simp only at cf g1 g2 hh;subst hh;simp[cf,g1,g2,cn]
 .simp[f439,aa,cn];refine lY (C:=cx) (G:=λr=>dL _ (qM _ _ _ (du _ r) _)=some _)
   (λi st=>st.1.length=26/\gt st.1 1= .pt h.length 0/\gt st.1 2= .pt (h.length+1) 0/\gt st.1 10=(0:Int)/\gt st.1 11=(0:Int)/\st.2=h++[.row [k,m,d,s,.ls 5 [] true],.row [(0:Int),(0:Int),(0:Int),.sc (.string ⟨#[]⟩),()]])
   (λo st=>o= .exit 0/\st.1.length=26/\gt st.1 1= .pt h.length 0/\gt st.1 2= .pt (h.length+1) 0/\st.2=h++[.row [k,m,d,s,.ls 5 [] true],.row [(0:Int),(0:Int),(0:Int),.sc (.string ⟨#[]⟩),()]]) 0 (by simp) ⟨rfl,rfl,rfl,rfl,rfl,rfl⟩ ?_ ?_
  .rintro i fr hp da ⟨cf,g1,g2,g10,g11,hh⟩;simp only at cf g1 g2 g10 g11 hh;subst hh;simp[cf,g1,g2,g10,g11]
  .rintro o fr hp hn ⟨rfl,cf,g1,g2,hh⟩;simp only at cf g1 g2 hh;subst hh;simp[cf,g1,g2,cn]
def Pq{f:FuncId}{args:LA}{n:Nat}(bad:Nat->Bool)(r0:AV)(fi:Fi)(hF:cx.F f=some fi)(gI:FE cx bad fi.body=true)(hs:cx.oW f=none)(hi:cx.inl f=false)(hl:args.length<=fi.ntmps)(hc:args.all dk=true)(hb:∃r h',dL fi.res (eE cx (ch cx n) bad fi.body (args++List.replicate (fi.ntmps-args.length) .un,[]))=some (r,h')/\∃r',Ae.cD h' 8 r=some r'/\nfW r'=r0)(ht:(xo f && (Ps f && !Fs f))=true:=by decide)(b:Bool)(h:Hp):ch cx (n+1) b f args h=some (r0,h):=by
 obtain⟨r,h',hb,r',hr,hR⟩:=hb;rw[Zh,Zh,Xj]at ht;have:=mq (C:=cx) hs hi (uH ht.1) hc (by rw[uO hF gI hl];exact hb) hr b h;rw[this];show some (OW f r',h)=_;unfold OW;rw[ht.2.1,ht.2.2];simp[hR]
def At(h:Hp)(i:Nat)(b:eK):Prop:=h[i]?=some b
def At.app{h:Hp}{i:Nat}{b:eK}(k:At h i b)(y:Hp):At (h++y) i b:=by
 unfold At at *;rw[Zd (Za.1 k).1];exact k
def At.get{h:Hp}{i:Nat}{b:eK}(k:At h i b)(j:i<h.length):h[i]'j=b:=(Za.1 k).2
def ai6(v:V):V:= .mk v.k v.n v.d v.s false []
def z6 :List ByteArray->Int->Int
 | [],b=>b
 |c::l,b=>if 0<=b then z6 l (b-(c.size:Int)/50)else b
def BR :List Nd->Int->Int
 | [],b=>b
 |c::l,b=>if 0<=b then BR l (z6 c.labels (tP c.props (b-c.labels.length)))else b
def edW :List Ed->Int->Int
 | [],b=>b
 |c::l,b=>if 0<=b then edW l (tP c.props (b-(c.type.size:Int)/50))else b
def zp(l:List ByteArray)(b:Int)(i:Nat):Int:=z6 (l.drop i) b
def Pt(l:List ByteArray)(b:Int)(i:Nat)(h:l.length<=i):zp l b i=b:=by unfold zp;rw[Zt h,z6]
def Pu(l:List ByteArray)(b:Int)(i:Nat)(h:b<0):zp l b i=b:=by
 unfold zp;cases l.drop i with
 |nil=>rw[z6]
 |cons x xs=>rw[z6,cm (by omega)]
def Lr{l:List ByteArray}{i:Nat}{c:ByteArray}{b:Int}(h:l[i]?=some c)(hb:0<=b):zp l b i=zp l (b-(c.size:Int)/50) (i+1):=by
 obtain⟨k,e⟩:=Za.1 h;unfold zp;rw[Zm k,e,z6,cq hb]
def zq(l:List Nd)(b:Int)(i:Nat):Int:=BR (l.drop i) b
def Pv(l:List Nd)(b:Int)(i:Nat)(h:l.length<=i):zq l b i=b:=by unfold zq;rw[Zt h,BR]
def Pw(l:List Nd)(b:Int)(i:Nat)(h:b<0):zq l b i=b:=by
 unfold zq;cases l.drop i with
 |nil=>rw[BR]
 |cons x xs=>rw[BR,cm (by omega)]
def Ls{l:List Nd}{i:Nat}{c:Nd}{b:Int}(h:l[i]?=some c)(hb:0<=b):zq l b i=zq l (z6 c.labels (tP c.props (b-c.labels.length))) (i+1):=by
 obtain⟨k,e⟩:=Za.1 h;unfold zq;rw[Zm k,e,BR,cq hb]
def Ix(l:List Ed)(b:Int)(i:Nat):Int:=edW (l.drop i) b
def Uw(l:List Ed)(b:Int)(i:Nat)(h:l.length<=i):Ix l b i=b:=by unfold Ix;rw[Zt h,edW]
def Ux(l:List Ed)(b:Int)(i:Nat)(h:b<0):Ix l b i=b:=by
 unfold Ix;cases l.drop i with
 |nil=>rw[edW]
 |cons x xs=>rw[edW,cm (by omega)]
def Px{l:List Ed}{i:Nat}{c:Ed}{b:Int}(h:l[i]?=some c)(hb:0<=b):Ix l b i=Ix l (tP c.props (b-(c.type.size:Int)/50)) (i+1):=by
 obtain⟨k,e⟩:=Za.1 h;unfold Ix;rw[Zm k,e,edW,cq hb]
def FJ :∀(l:List ByteArray)(b:Int),b<=2000->z6 l b<=2000
 | [],b,h=>by rw[z6];exact h
 |
  x::xs,b,h=>by
  rw[z6];split
  .exact FJ xs _ (by omega)
  .exact h
def M5 :∀(l:List Nd)(b:Int),b<=2000->BR l b<=2000
 | [],b,h=>by rw[BR];exact h
 |
  x::xs,b,h=>by
  rw[BR];split
  .exact M5 xs _ (FJ _ _ (Aw _ _ (by omega)))
  .exact h
structure SzB (g:Gr):Prop where
 n:∀m∈g.nodes,(∀x∈m.labels,x.size<=1000000000000000)/\∀c∈m.props,c.key.size<=1000000000000000
 e:∀m∈g.cj,m.type.size<=1000000000000000/\∀c∈m.props,c.key.size<=1000000000000000
def Uy{call:Bool->FuncId->LA->Hp->Option (AV × Hp)}(Inv:Nat->St->Prop)(Q:Out->St->Prop)(N:Nat)(hN:N<cx.fuel)(X:Option (Out × St))(c:Code)(fr:LA)(h:Hp)(hX:cO cx call (.loop c) (fr,h)=X)(hI:Inv 0 (fr,h))(step:∀i fr h,i<=N->Inv i (fr,h)->Py Inv Q N i (cO cx call c (fr,h))):∃o gO h',X=some (o,(gO,h'))/\Q o (gO,h'):=by
 subst hX;exact ej (C:=cx) (G:=λr=>∃o gO h',r=some (o,(gO,h'))/\Q o (gO,h')) Inv Q N hN hI step (λo fr h _ hq=>⟨o,fr,h,rfl,hq⟩)
def Uz(g:Gr)(x y:Int):[AV.ag (cl g),.sc (.int .i64 x),.sc (.int .i64 y)].all dk=true:=rfl
end
end Go.Proofs.YtmfohnojaginjaaGreatDoor
namespace Go.Proofs.YtmfohnojaginjaaGreatDoor
open Go Go.Ae Go.ChangeShapes Go.WideShapes Go.Proofs.Tryz
def RR(w:World)(cs:List Value)(row:LA):Prop:=cs.length=row.length/\∀(j:Nat)(y:AV),row[j]?=some y->(cs.getD j undef).oneCell'=true/\Ri w dR (cs.getD j undef) y
def UA{w:World}{cs:List Value}{v:V}(h:RV w cs v):RR w cs (enc v):=⟨by rw[h.1,dB],h.2⟩
def Iy{α:Type}{p:Nat->α->Prop}:∀n,(∀i,i<n->∃x,p i x)->∃l:List α,l.length=n/\∀i v,l[i]?=some v->p i v
 |0,_=>⟨[],rfl,by simp⟩
 |
  n+1,h=>by
  obtain⟨l,hl,hp⟩:=Iy n λi hi=>h i (by omega)
  obtain⟨x,hx⟩:=h n (by omega);refine⟨l++[x],by simp[hl],λi v hv=>?_⟩;by_cases hi:i<n
  .rw[Zd (by omega)]at hv;exact hp i v hv
  .have dm:=(Za.1 hv).1;simp at dm;obtain rfl:i=n:=by omega
   rw[Zf (by omega),hl]at hv;simp at hv;subst hv;exact hx
def ft{w:World}{c1 c2:List Value}{r1 r2:LA}(h1:RR w c1 r1)(h2:RR w c2 r2):RR w (c1++c2) (r1++r2):=by
 refine⟨by rw[Zu,Zu,h1.1,h2.1],λj y hj=>?_⟩;by_cases dm:j<r1.length
 .rw[Zd dm]at hj;rw[Yl,Zd (by rw[h1.1];exact dm),<-Yl];exact h1.2 j y hj
 .rw[Zf (by omega)]at hj;rw[Yl,Zf (by rw[h1.1];omega),h1.1,<-Yl];exact h2.2 _ y hj
def FK{w:World}{c:Value}{x:AV}(ho:c.oneCell'=true)(h:Ri w dR c x):RR w [c] [x]:=⟨rfl,λj y hj=>by
 match j,hj with
 |0,hj=>cases hj;exact⟨ho,h⟩
 |_+1,hj=>simp at hj⟩
section
variable {w : World}
def ZU{a:Addr}{cap sz:Nat}{cg:List LA}(fX:0<sz)(hl:cg.length<=cap)(hm:cap<=maxLen)(fG:∀row∈cg,row.length=sz)(hp:∀(i:Nat)(row:LA),cg[i]?=some row->∃cs,w.cells? 0 (a.add (i*sz)) sz=some cs/\RR w cs row):Ri w dR (.slice (some a) cg.length cap) (.ls sz cg false):=by
 cases pg:cg with
 |nil=>exact .le _ _ _ _ hm (by simp)
 |cons v0 l0=>
  rw[<-pg];obtain⟨XY,u_,hr0⟩:=hp 0 v0 (by rw[pg];rfl);have WZ:XY.length=sz:=by rw[hr0.1];exact fG v0 (by rw[pg];simp)
  obtain⟨_,_,hg0⟩:=World.cells?_some u_;have h00:=hg0 0 fX;rw[Nat.zero_mul,Go.Deep.add_add,Zb (by omega)]at h00;obtain⟨b,o,sp⟩:=a;have h0:w.cell? ⟨b,o,sp⟩=some XY[0]:=h00;unfold World.cell? at h0;cases hb:w.heap[b]? with
  |none=>rw[hb]at h0;cases h0
  |some ob=>
   rw[hb]at h0;cases ob<;>simp only[reduceCtorEq]at h0;rename_i cF t fz;cases sp with
   |some q=>simp at h0
   |
    none=>
    have at':∀k,w.cell? ⟨b,o+k,none⟩=cF[o+k]?:=λk=>by unfold World.cell?;rw[hb];rfl
    have ac5:∀k,(Addr.mk b o none).add k=⟨b,o+k,none⟩:=λk=>by
     unfold Addr.add;by_cases hk:k=0
     .subst hk;simp
     .simp[hk]
    have key:∀(i:Nat)(row:LA)(j:Nat)(x:AV),cg[i]?=some row->row[j]?=some x->cF[o+i*sz+j]?=some (cF.getD (o+i*sz+j) undef)/\(cF.getD (o+i*sz+j) undef).oneCell'=true/\Ri w dR (cF.getD (o+i*sz+j) undef) x:=by
     intro i row j x hi hj;have vp:=fG row (Zi hi);have hj5:j<sz:=by have:=(Za.1 hj).1;omega
     obtain⟨cs,hc,hr⟩:=hp i row hi;have hn:cs.length=sz:=by rw[hr.1,vp]
     obtain⟨_,_,hg⟩:=World.cells?_some hc;have h1:=hg j hj5;rw[Go.Deep.add_add,ac5,at',Zb (by omega)]at h1;have e:cF.getD (o+i*sz+j) undef=cs.getD j undef:=by
      rw[Zr,Nat.add_assoc,h1,Yl,Zb (by omega)]
     rw[e,Nat.add_assoc,h1,Yl,Zb (by omega)];have:=hr.2 j x hj;rw[Yl,Zb (by omega)]at this;exact⟨rfl,this.1,this.2⟩
    exact .ls b o cg.length cap sz cg false (λi j=>cF.getD (o+i*sz+j) undef) cF t fz (λh=>h) hb rfl hl hm (by simp) (λi row hi=>fG row (Zi hi)) (λi row j x hi hj=>⟨(key i row j x hi hj).1,(key i row j x hi hj).2.1⟩) (λi row j x hi hj=>(key i row j x hi hj).2.2)
end
section
variable {H : Type} {en : TypeId × Value -> H} {w : World} {held : Bool}
def Reads(H:Type)(en:TypeId × Value->H)(w:World)(held:Bool){α:Type}(t:TypeId)(encA:α->LA)(P:Nat->α->Prop):Prop:=
 ∀(fuel:Nat)(cs:List Value)(x:DataW H × List MemPlace),DataW.trod en prog w 0 (λ_=>true) held fuel t cs=some x->Fits t x.1->∃a:α,P fuel a/\RR w cs (encA a)
def iR{α:Type}{encA:α->LA}{P:Nat->α->Prop}{te tl:TypeId}{sz bs:Nat}(ht:prog.underlying tl=some (.slice te))(fX:0<sz)(hc:prog.cellsOf te=sz)(hb:prog.bytesOf te=bs+1)(ai7:∀a,(encA a).length=sz)(afP:∀m n a,m<=n->P m a->P n a)(rd:Reads H en w held te encA P):
 Reads H en w held tl (λl:List α=> [.ls sz (l.map encA) false]) (λn l=>(∀a∈l,P n a)/\l.length<=reachBytes):=by
 intro fuel cs x h hw;rcases DataW.trod_slice ht h with⟨e,_⟩|⟨a,len,cap,elems,rest,m,hm,e,wx,_,ZV,vh,ni,hq,_⟩
 .subst e;exact⟨[],⟨by simp,by simp⟩,FK rfl (.le none 0 sz false (Nat.zero_le _) (by simp))⟩
 .subst e;unfold Fits at hw;rw[wx,DataW.weights,ht]at hw;have cf:elems.length<=reachBytes:=by
   have:=hw _ (List.mem_cons_self ..);simp only[Ym]at this;rw[hb]at this;have h2:elems.length*1<=(elems.length+rest.length)*(bs+1):=Nat.mul_le_mul (by omega) (by omega);omega
  obtain⟨l,zd,hp⟩:=Iy (p:=λi v=>P m v/\∃cs',w.cells? 0 (a.add (i*sz)) sz=some cs'/\RR w cs' (encA v)) len (λi hi=>by
   have h5:=hq i hi;rw[hc,Zb (by omega)]at h5;obtain⟨cs',q1,q2⟩:=Yj.1 h5;obtain⟨v,d1,d3⟩:=rd m cs' _ q2 (λk hk=>hw k (List.mem_cons_of_mem _ (List.mem_append_left _ (tx hk (Yk.2 ⟨_,List.getElem_mem _,rfl⟩)))));exact⟨v,d1,cs',q1,d3⟩)
  refine⟨l,⟨λy hy=>?_,by omega⟩,FK rfl ?_⟩
  .obtain⟨i,hi⟩:=List.getElem?_of_mem hy;exact afP _ _ _ (by omega) (hp i y hi).1
  .have:=ZU (w:=w) (a:=a) (cap:=cap) (cg:=l.map encA) fX (by rw[Ym];omega) vh (λrow hr=>by obtain⟨v,_,rfl⟩:=Yk.1 hr;exact ai7 v) (λi row hr=>by
    rw[Zs]at hr;obtain⟨v,hv,rfl⟩:=Ze.1 hr;exact(hp i v hv).2)
   rw[Ym,zd]at this;exact this
end
end Go.Proofs.YtmfohnojaginjaaGreatDoor
namespace Go.Ae
def i64(n:Int):Prop:= -9223372036854775808<=n/\n<=9223372036854775807
end Go.Ae
namespace Go.Ae
open List
structure ZW {α:Type}(cmp:α->α->Int):Prop where
 zero:∀a b,cmp a b=0↔a=b
 neg:∀a b,cmp a b<0↔0<cmp b a
 tr:∀a b c,cmp a b<0->cmp b c<0->cmp a c<0
variable {α : Type} {cmp : α -> α -> Int} {add : Int -> Int -> Int}
def Inc(cmp:α->α->Int)(l:List (α × Int)):Prop:=l.Pairwise λa b=>cmp a.1 b.1<0
def ZW.irr(h:ZW cmp)(a:α):¬cmp a a<0:=by have:=(h.zero a a).2 rfl;omega
def Inc.nodup(hc:ZW cmp){l:List (α × Int)}(h:Inc cmp l):(l.map (·.1)).Nodup:=by
 rw[List.Nodup,List.pairwise_map];have g:∀{a b:α × Int},cmp a.1 b.1<0->a.1≠b.1:=λ{a b}q e=>hc.irr b.1 (by rw[e]at q;exact q)
 exact List.Pairwise.imp g h
def Inc.le(hc:ZW cmp){l:List (α × Int)}(h:Inc cmp l):l.Pairwise λa b=>¬cmp b.1 a.1<0:=by
 have g:∀{a b:α × Int},cmp a.1 b.1<0->¬cmp b.1 a.1<0:=λ{a b}q k=>hc.irr a.1 (hc.tr _ _ _ q k)
 exact List.Pairwise.imp g h
end Go.Ae
namespace Go.Proofs.YtmfohnojaginjaaGreatDoor
open Go Go.Ae Go.Proofs.Tryz
mutual
def J9 :V->Prop
 | .mk k n d s z l=>i64 k/\i64 n/\i64 d/\s.size<=1000000000000000/\l.length<=1000000000000000/\z=false/\gdL l
def gdL :List V->Prop
 | []=>True
 |x::xs=>J9 x/\gdL xs
end
def M6 :∀{l:List V},gdL l->∀x∈l,J9 x
 | [],_,_,h=>by cases h
 |
  y::l,h,x,hx=>by
  rw[gdL]at h;rcases Yw.1 hx with rfl|e
  .exact h.1
  .exact M6 h.2 x e
def UB :∀{l:List V},(∀x∈l,J9 x)->gdL l
 | [],_=>by rw[gdL];trivial
 |
  y::l,h=>by
  rw[gdL];exact⟨h y (by simp),UB λx hx=>h x (List.mem_cons_of_mem _ hx)⟩
def Pz :∀D,(∀v:V,gS v<=D->J9 v->jK v):=by
 intro D
 induction D with
 |zero=>intro v h;have:=kS v;omega
 |succ D ih=>
  intro v hd hg;cases v with
  |mk k n d s z l=>
   rw[J9]at hg;rw[jK];refine⟨hg.2.2.2.1,hg.2.2.2.2.1,?_⟩;have hm:=M6 hg.2.2.2.2.2.2;have:∀m:List V,(∀x∈m,gS x<=D)->(∀x∈m,J9 x)->YD m:=by
    intro m
    induction m with
    |nil=>intro _ _;rw[YD];trivial
    |cons x m ihm=>intro h1 h2;rw[YD];exact⟨ih x (h1 x (by simp)) (h2 x (by simp)),ihm (λy hy=>h1 y (List.mem_cons_of_mem _ hy)) λy hy=>h2 y (List.mem_cons_of_mem _ hy)⟩
   exact this l (λx hx=>by have:=w7 hx;rw[gS]at hd;omega) hm
def UC{v:V}(h:J9 v):jK v:=Pz _ v (Xc _) h
abbrev Rw :={l:List V//gdL l}
noncomputable instance : DecidableEq Rw:=λa b=>Classical.propDecidable (a=b)
@[simp] def akH :cx.T 22=some {size:=1,agg:=false,zero:=[.slice none 0 0],kd:= .slice 6 true 80 [.int .i64 0,.int .i64 0,.string ⟨#[]⟩,.string ⟨#[]⟩,.string ⟨#[]⟩,.string ⟨#[]⟩]}:=by kernel_rfl
@[simp] def akP :cx.T 94=some {size:=6,agg:=true,zero:=[.int .i64 0,.int .i64 0,.string ⟨#[]⟩,.string ⟨#[]⟩,.string ⟨#[]⟩,.string ⟨#[]⟩],kd:= .struct [(0,1,false),(1,1,false),(2,1,false),(3,1,false),(4,1,false),(5,1,false)]}:=by kernel_rfl
@[simp] def afQ :cx.T 27=some {size:=1,agg:=false,zero:=[.slice none 0 0],kd:= .slice 2 true 32 [.int .i64 0,.slice none 0 0]}:=by kernel_rfl
@[simp] def akN :cx.T 37=some {size:=2,agg:=true,zero:=[.int .i64 0,.slice none 0 0],kd:= .struct [(0,1,false),(1,1,false)]}:=by kernel_rfl
@[simp] def akT :cx.T 29=some {size:=6,agg:=true,zero:=[.int .i64 0,.slice none 0 0,.slice none 0 0,.int .i64 0,.int .i64 0,.slice none 0 0],kd:= .struct [(0,1,false),(1,4,true),(5,1,false)]}:=by kernel_rfl
@[simp] def akC :cx.T 30=some {size:=1,agg:=false,zero:=[.slice none 0 0],kd:= .slice 4 true 64 [.int .i64 0,.int .i64 0,.slice none 0 0,.slice none 0 0]}:=by kernel_rfl
@[simp] def akW :cx.T 41=some {size:=4,agg:=true,zero:=[.int .i64 0,.int .i64 0,.slice none 0 0,.slice none 0 0],kd:= .struct [(0,1,false),(1,1,false),(2,1,false),(3,1,false)]}:=by kernel_rfl
@[simp] def akV :cx.T 32=some {size:=9,agg:=true,zero:=[.slice none 0 0,.int .i64 0,.slice none 0 0,.slice none 0 0,.int .i64 0,.int .i64 0,.slice none 0 0,.slice none 0 0,.int .i64 0],kd:= .struct [(0,1,false),(1,6,true),(7,1,false),(8,1,false)]}:=by kernel_rfl
@[simp] def abU :cx.T 132=some {size:=1,agg:=false,zero:=[.slice none 0 0],kd:= .slice 3 true 24 [.int .i64 0,.int .i64 0,.int .i64 0]}:=by kernel_rfl
@[simp] def akR :cx.T 136=some {size:=3,agg:=true,zero:=[.int .i64 0,.int .i64 0,.int .i64 0],kd:= .struct [(0,1,false),(1,1,false),(2,1,false)]}:=by kernel_rfl
@[simp] def akM :cx.T 176=some {size:=3,agg:=true,zero:=[.bool false,.bool false,.bool false],kd:= .struct [(0,1,false),(1,1,false),(2,1,false)]}:=by kernel_rfl
@[simp] def afR :cx.T 183=some {size:=1,agg:=false,zero:=[.slice none 0 0],kd:= .slice 2 true 16 [.int .i64 0,.int .i64 0]}:=by kernel_rfl
@[simp] def akY :cx.T 185=some {size:=2,agg:=true,zero:=[.int .i64 0,.int .i64 0],kd:= .array 2 1 false}:=by kernel_rfl
@[simp] def afS :cx.T 324=some {size:=1,agg:=false,zero:=[.slice none 0 0],kd:= .slice 6 true 72 [.int .i64 0,.int .i64 0,.int .i64 0,.int .i64 0,.string ⟨#[]⟩,.slice none 0 0]}:=by kernel_rfl
@[simp] def akU :cx.T 328=some {size:=6,agg:=true,zero:=[.int .i64 0,.int .i64 0,.int .i64 0,.int .i64 0,.string ⟨#[]⟩,.slice none 0 0],kd:= .struct [(0,1,false),(1,5,true)]}:=by kernel_rfl
@[simp] def akI :lf cx 22=true:=by kernel_rfl
@[simp] def akD :lf cx 27=true:=by kernel_rfl
@[simp] def akJ :lf cx 30=true:=by kernel_rfl
@[simp] def akF :lf cx 132=true:=by kernel_rfl
@[simp] def akG :lf cx 183=true:=by kernel_rfl
@[simp] def akB :lf cx 324=true:=by kernel_rfl
def cL :Code->Code| .seq a _=>a| .block _ a=>a| .cond _ a _=>a| .loop a=>a|c=>c
def cR :Code->Code| .seq _ b=>b| .cond _ _ b=>b|c=>c
def cT :Nat->Code->Code
 |0,c=>c
 |n+1,c=>cT n (cR c)
def afT{call:Bool->iB}(Inv:Nat->St->Prop)(Q:Out->St->Prop)(N:Nat)(hN:N<cx.fuel)(X:Option (Out × St))(c:Code)(fr:LA)(h:Hp)(hX:cO cx call (.loop c) (fr,h)=X)(hI:Inv 0 (fr,h))(step:∀i fr h,i<=N->Inv i (fr,h)->Py Inv Q N i (cO cx call c (fr,h))):∃o gO h',X=some (o,(gO,h'))/\Q o (gO,h'):=by
 subst hX;exact ej (C:=cx) (G:=λr=>∃o gO h',r=some (o,(gO,h'))/\Q o (gO,h')) Inv Q N hN hI step (λo fr h _ hq=>⟨o,fr,h,rfl,hq⟩)
def UD{P:Prop}{call:Bool->iB}{X:Option (Out × St)}{c:Code}{fr:LA}{h:Hp}(hX:cO cx call (.loop c) (fr,h)=X)(Inv:Nat->St->Prop)(Q:Out->St->Prop)(N:Nat)(hN:N<cx.fuel)(hI:Inv 0 (fr,h))(step:∀i fr h,i<=N->Inv i (fr,h)->Py Inv Q N i (cO cx call c (fr,h)))(fin:∀o gO h',X=some (o,(gO,h'))->Q o (gO,h')->P):P:=by
 obtain⟨o,gO,h',e,hQ⟩:=afT Inv Q N hN X c fr h hX hI step;exact fin o gO h' e hQ
def pU{P:Prop}{call:Bool->FuncId->LA->Hp->Option (AV × Hp)}{X:Option (Out × St)}{c:Code}{fr:LA}{h:Hp}(hX:cO cx call (.loop c) (fr,h)=X)(Inv:Nat->LA->Hp->Prop)(Q:Out->LA->Hp->Prop)(N:Nat)(hN:N<cx.fuel)(hI:Inv 0 fr h)(step:∀i fr h,i<=N->Inv i fr h->Py (λi s=>Inv i s.1 s.2) (λo s=>Q o s.1 s.2) N i (cO cx call c (fr,h)))(fin:∀o gO h',X=some (o,(gO,h'))->Q o gO h'->P):P:=
 UD hX (λi s=>Inv i s.1 s.2) (λo s=>Q o s.1 s.2) N hN hI step fin
def kT{α:Type}{R:List LA}{l:List α}{enc:α->LA}(hg:∀i:Nat,R[i]?=(l[i]?).map enc){i:Nat}(hi:i<l.length):∃x,l[i]?=some x/\R[i]?=some (enc x)/\∀k,R[i]'k=enc x:=by
 have hx:l[i]?=some l[i]:=Zb hi;have hr:R[i]?=some (enc l[i]):=by rw[hg,hx];rfl
 exact⟨_,hx,hr,λk=>by obtain⟨_,e⟩:=Za.1 hr;exact e⟩
def jk{α:Type}{l:List α}{i:Nat}{x:α}(h:l[i]?=some x):l.take (i+1)=l.take i++[x]:=by rw[List.take_add_one,h];rfl
def jd{α:Type}{l:List α}{i:Nat}{x:α}(h:l[i]?=some x):l.drop i=x::l.drop (i+1):=by
 obtain⟨k,e⟩:=Za.1 h;rw[Zm k,e]
def fT{α:Type}{l:List α}{j:Nat}{b:α}(hj:l[j]?=some b):∀k,l[j]'k=b:=λkx=>by obtain⟨_,e⟩:=Za.1 hj;exact e
def jr{α:Type}{R:List LA}{l:List α}{enc:α->LA}(hg:∀i:Nat,R[i]?=(l[i]?).map enc){i:Nat}(da:i<=l.length):(∃x,i<l.length/\l[i]?=some x/\R[i]?=some (enc x)/\∀k,R[i]'k=enc x)\/i=l.length:=by
 by_cases hi:i<l.length
 .obtain⟨x,h⟩:=kT hg hi;exact .inl ⟨x,hi,h⟩
 .exact .inr (Nat.le_antisymm da (Ya hi))
def tZ{x:AV}(hx:∀v,x≠ .pn v):∀(cal:iB)(ops:Array Oper)(d:Tmp)(rest:List Oper)(fr:LA)(h:Hp),sY cx cal ops (some d) rest fr (some (x,h))=dr cx cal ops rest (fr.set d x,h):=λ_ _ d rest fr h=>yq hx d rest fr h
def npR{x:AV}(hx:∀v,x≠ .pn v):∀(cal:iB)(ops:Array Oper)(d:Tmp)(rest:List Oper)(fr:LA)(h:Hp),vV cx cal ops (some d) rest fr (some (x,h))=cp cx cal ops rest (fr.set d x,h):=λ_ _ d rest fr h=>tG hx d rest fr h
section
attribute [local simp] cn eD
structure Rl where
 kd:Int
 nn:Int
 nm:ByteArray
 ky:ByteArray
 fr:ByteArray
 tt:ByteArray
def dd(r:Rl):LA:=[.sc (.int .i64 r.kd),.sc (.int .i64 r.nn),.sc (.string r.nm),.sc (.string r.ky),.sc (.string r.fr),.sc (.string r.tt)]
def sR(l:List Rl):List LA:=l.map dd
def kX(l:List Rl):(sR l).length=l.length:=by simp[sR]
def uR(l:List Rl)(i:Nat):(sR l)[i]?=(l[i]?).map dd:=by simp[sR]
def cE(k:Int):Bool:=decide (1<=k) && decide (k<=5)
def gK(k n:Int):Bool:=if k=3\/k=5 then decide (n=1)||decide (n=2)||decide (n=4)else if k=7 then decide (0<=n) && decide (n<=4000)else decide (n=0)
def ZX(r:Rl):Bool:=decide (r.kd<1)||decide (7<r.kd)|| !gK r.kd r.nn||(!cE r.kd && !fm r.ky ⟨#[]⟩)||(!decide (r.kd=6) && (!fm r.fr ⟨#[]⟩|| !fm r.tt ⟨#[]⟩))
def adx(r:Rl):Bool:= !fR r.nm||(cE r.kd && !fR r.ky)||(!fm r.fr ⟨#[]⟩ && !fR r.fr)||(!fm r.tt ⟨#[]⟩ && !fR r.tt)
def mW(r:Rl):Int:=if ZX r=true then 1 else if adx r=true then 6 else 0
def PA(n:Nat)(b:Bool)(k:Int)(h:Hp):ch cx (n+1) b 104 [k] h=some (.sc (.bool (cE k)),h):=by
 refine eR f104 [.tmp 2] rfl rfl ?_ b h;unfold cE;by_cases h1:1<=k
 .by_cases h2:k<=5<;>simp[f104,h1,h2]
 .simp[f104,h1]
def Lt(n:Nat)(b:Bool)(r:Rl)(h:Hp):ch cx (n+1) b 103 [.ag (dd r)] h=some (.sc (.bool (gK r.kd r.nn)),h):=by
 refine eR f103 [.tmp 2] rfl rfl ?_ b h;obtain⟨k,nn,nm,ky,f,t⟩:=r;unfold gK dd;simp only;by_cases k3:k=3
 .subst k3;by_cases n1:nn=1
  .subst n1;simp[f103]
  by_cases n2:nn=2
  .subst n2;simp[f103]
  .simp[f103,n1,n2]
 by_cases k5:k=5
 .subst k5;by_cases n1:nn=1
  .subst n1;simp[f103]
  by_cases n2:nn=2
  .subst n2;simp[f103]
  .simp[f103,n1,n2]
 by_cases k7:k=7
 .subst k7;by_cases n1:0<=nn
  .simp[f103,n1]
  .simp[f103,n1]
 .simp[f103,k3,k5,k7]
def Iz(k:Int):Int:=if k=1 then 13 else if k=2\/k=4 then 14 else if k=3\/k=5 then 15 else if k=6 then 16 else if k=7 then 17 else 0
def PB(n:Nat)(b:Bool)(k:Int)(h:Hp):ch cx (n+1) b 63 [k] h=some (.sc (.int .i64 (Iz k)),h):=by
 refine eR f63 [.tmp 2] rfl rfl ?_ b h;unfold Iz;by_cases k1:k=1
 .subst k1;simp[f63]
 by_cases k2:k=2
 .subst k2;simp[f63]
 by_cases k4:k=4
 .subst k4;simp[f63]
 by_cases k3:k=3
 .subst k3;simp[f63]
 by_cases k5:k=5
 .subst k5;simp[f63]
 by_cases k6:k=6
 .subst k6;simp[f63]
 by_cases k7:k=7
 .subst k7;simp[f63]
 .simp[f63,k1,k2,k3,k4,k5,k6,k7]
def UE(n:Nat)(b:Bool)(k:Int)(h:Hp):ch cx (n+1) b 58 [k] h=some (.sc (.int .i64 (Iz k)),h):=by
 refine eR f58 [.tmp 2] rfl rfl ?_ b h;unfold Iz;by_cases k1:k=1
 .subst k1;simp[f58]
 by_cases k2:k=2
 .subst k2;simp[f58]
 by_cases k4:k=4
 .subst k4;simp[f58]
 by_cases k3:k=3
 .subst k3;simp[f58]
 by_cases k5:k=5
 .subst k5;simp[f58]
 by_cases k6:k=6
 .subst k6;simp[f58]
 by_cases k7:k=7
 .subst k7;simp[f58]
 .simp[f58,k1,k2,k3,k4,k5,k6,k7]
def uS(n:Nat)(b:Bool)(x y:ByteArray)(h:Hp):ch cx (n+1) b 106 [x,y] h=some (.sc (.int .i64 (gJ x y)),h):=by
 refine eR f106 [.tmp 4] rfl rfl ?_ b h;cases h1:nC x y
 .cases h2:fm x y
  .simp[f106,h1,h2,lg h1 h2,gJ]
  .simp[f106,h1,h2,Mz h2]
 .simp[f106,h1,gJ]
def xy(a b:Rl):Int:=sN [dE a.kd b.kd,gJ a.nm b.nm,gJ a.ky b.ky,dE a.nn b.nn,gJ a.fr b.fr,gJ a.tt b.tt]
def UF(M:Nat)(p q:Rl)(b:Bool)(h:Hp):ch cx (M+3) b 56 [.ag (dd p),.ag (dd q)] h=some (.sc (.int .i64 (xy p q)),h):=by
 refine eR f56 [.tmp 4] rfl rfl ?_ b h;have h1:=λb h=>gT M b p.kd q.kd h
 have h2:=λb h=>kg M b p.nm q.nm h
 have h3:=λb h=>kg M b p.ky q.ky h
 have h4:=λb h=>gT M b p.nn q.nn h
 have h5:=λb h=>kg M b p.fr q.fr h
 have h6:=λb h=>kg M b p.tt q.tt h
 unfold xy dd;generalize dE p.kd q.kd=c1 at h1|-;generalize gJ p.nm q.nm=c2 at h2|-;generalize gJ p.ky q.ky=c3 at h3|-;generalize dE p.nn q.nn=c4 at h4|-;generalize gJ p.fr q.fr=c5 at h5|-;generalize gJ p.tt q.tt=c6 at h6|-;have h7:=λb=>Kz (M+1) b [.row [p.kd,p.nn,p.nm,p.ky,p.fr,p.tt],.row [q.kd,q.nn,q.nm,q.ky,q.fr,q.tt],.row [c1,c2,c3,c4,c5,c6]] 2 6 [c1,c2,c3,c4,c5,c6] rfl rfl (by simp)
 generalize sN [c1,c2,c3,c4,c5,c6]=o at h7|-;have ai8:List.range 6=[0,1,2,3,4,5]:=rfl;simp[f56,h1,h2,h3,h4,h5,h6,h7,ai8]
def PD(M:Nat)(p q:Rl)(b:Bool)(h:Hp):ch cx (M+2) b 61 [.ag (dd p),.ag (dd q)] h=some (.sc (.int .i64 (xy p q)),h):=by
 refine eR f61 [.tmp 4] rfl rfl ?_ b h;have h2:=λb h=>uS M b p.nm q.nm h
 have h3:=λb h=>uS M b p.ky q.ky h
 have h5:=λb h=>uS M b p.fr q.fr h
 have h6:=λb h=>uS M b p.tt q.tt h
 unfold xy dd;generalize gJ p.nm q.nm=c2 at h2|-;generalize gJ p.ky q.ky=c3 at h3|-;generalize gJ p.fr q.fr=c5 at h5|-;generalize gJ p.tt q.tt=c6 at h6|-;obtain⟨pk,pn,pm,py,pf,pt⟩:=p;obtain⟨qk,qn,qm,qy,qf,qt⟩:=q;simp only at h2 h3 h5 h6|-;by_cases e1:pk=qk
 .subst e1;by_cases e2:c2=0
  .subst e2;by_cases e3:c3=0
   .subst e3;by_cases e4:pn=qn
    .subst e4;by_cases e5:c5=0
     .subst e5;simp[f61,h2,h3,h5,h6,sN,dE]
      first|done|(split<;>simp_all)
     .simp[f61,h2,h3,h5,e5,sN,dE]
    .by_cases l4:pn<qn
     .simp[f61,h2,h3,e4,l4,sN,dE]
     .have:qn<pn:=by omega
      simp[f61,h2,h3,e4,l4,this,sN,dE]
   .simp[f61,h2,h3,e3,sN,dE]
  .simp[f61,h2,e2,sN,dE]
 .by_cases l1:pk<qk
  .simp[f61,e1,l1,sN,dE]
  .have:qk<pk:=by omega
   simp[f61,e1,l1,this,sN,dE]
end
end Go.Proofs.YtmfohnojaginjaaGreatDoor
