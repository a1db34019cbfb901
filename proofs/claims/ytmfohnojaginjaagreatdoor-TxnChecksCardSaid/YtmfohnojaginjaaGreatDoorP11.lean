/- Part of the proof. -/
import Derived.Test.YtmfohnojaginjaaGreatDoorP10
import Derived.Laws.RangeAny
import Derived.Laws.RangeString
set_option linter.all false
set_option maxHeartbeats 8000000
set_option maxRecDepth 100000
namespace Go.Proofs.YtmfohnojaginjaaGreatDoor
open Go Go.Ae Go.Proofs.Tryz
section
attribute [local simp] eD
@[simp] def dB(v:V):(enc v).length=5:=by cases v;rfl
@[simp] def ag5(v:V):List.take 5 (enc v)=enc v:=by cases v;rfl
def VC(N:Nat)(v:V):Prop:=∀b m h,0<=m->m<=8->ch cx N b 269 [.ag (enc v),.sc (.int .i64 m)] h=some (.sc (.bool (oY v m)),h)
def C3(l:List V)(m:Int)(i:Nat):Bool:=Aj (l.drop i) m
def DF(l:List V)(m:Int):Aj l m=C3 l m 0:=rfl
def G9(l:List V)(m:Int)(i:Nat)(h:l.length<=i):C3 l m i=true:=by unfold C3;rw[Zt h];rfl
def DG{l:List V}{m:Int}{i:Nat}{c:V}(h:l[i]?=some c):C3 l m i=(oY c m && C3 l m (i+1)):=by
 obtain⟨k,e⟩:=Za.1 h;unfold C3;rw[Zm k,e,Aj]
def DH(l:List V)(m:Int):Bool:=decide ((l.length:Int)<=64) && decide (1<=m) && Aj l (m-1)
def lP(z:Bool)(l:List V):dk (eG z l)=true:=by unfold eG po;cases z && (ef l).isEmpty<;>rfl
def SN(N:Nat)(b:Bool)(z:Bool)(l:List V)(m:Int)(h:Hp)(zQ:0<=m)(hm8:m<=8)(hv:∀x∈l,VC N x):ch cx (N+1) b 379 [eG z l,m] h=some (.sc (.bool (DH l m)),h):=by
 have hc:[eG z l,.sc (.int .i64 m)].all dk=true:=by rw[Zn,lP];rfl
 refine eR f379 [.tmp 4] hc rfl ?_ b h;clear hc;unfold DH;by_cases h1:m<1
 .rcases fI z l with⟨rfl,e⟩|e<;>simp[f379,h1,show¬1<=m by omega,e]
 have JY:cS .i64 (m-1)=m-1:=cu (by omega) (by omega);have kL:1<=m:=by omega
 rcases fI z l with⟨rfl,e⟩|e
 .rw[e];simp[f379,h1,kL,Aj];refine pQ
   (λi s _=>i=0/\s.length=27/\gt s 0=()/\gt s 5=(0:Int))
   (λo s _=>s.length=27/\o= .exit 0) 0 (by simp) (by simp) ?_ ?_
  .rintro i fr h da ⟨rfl,cf,h0,h5⟩;simp[cf,h0,h5]
  .rintro o fr h hn ⟨cf,rfl⟩;simp[cf]
 .rw[e];have hq:=dI l;have hg:=gh l;generalize ef l=cg at hq hg;by_cases h2:64< (l.length:Int)
  .simp[f379,h1,kL,hq,h2,show¬(l.length:Int)<=64 by omega]
  .have ry:(l.length:Int)<=64:=by omega
   simp[f379,h1,kL,hq,h2,ry];refine pQ
    (λi s _=>Aj l (m-1)=C3 l (m-1) i/\s.length=27/\gt s 0= .ls 5 cg z/\gt s 1=m/\gt s 5=i)
    (λo s _=>s.length=27/\((o= .exit 0/\Aj l (m-1)=true)\/(o= .ret/\Aj l (m-1)=false/\gt s 4=false))) l.length (by simp;omega) (by simp[DF]) ?_ ?_
   .rintro i fr h da ⟨ho,cf,h0,h1,h5⟩;by_cases hi:i<l.length
    .obtain⟨c,hc⟩:=eA hi;have hr:cg[i]?=some (enc c):=by rw[hg,hc];rfl
     have cz:=gA hr
     have hcv:=hv c (Zi hc);have cJ:=λb h=>hcv b (m-1) h (by omega) (by omega)
     rw[DG hc]at ho;have hf:cS .i64 ((i:Int)+1)=((i+1:Nat):Int):=cu (by omega) (by omega);cases hk:oY c (m-1)
     .have zz:Aj l (m-1)=false:=by rw[ho,hk];rfl
      clear ho;simp[cf,h0,h1,h5,hi,hq,cz,JY,cJ,hk,zz]
     .have zz:Aj l (m-1)=C3 l (m-1) (i+1):=by rw[ho,hk];rfl
      clear ho;simp[cf,h0,h1,h5,hi,hq,cz,JY,cJ,hk,hf];exact zz
    .have zz:Aj l (m-1)=true:=by rw[ho,G9 l _ i (by omega)]
     simp[cf,h0,h5,hi,hq,zz]
   .rintro o fr h hn ⟨cf,⟨rfl,hz⟩|⟨rfl,hz,h2⟩⟩
    .simp[cf,hz]
    .simp[h2,hz]
def zR(l:List V)(i:Nat):Bool:=wO (l.drop i) (decide (i % 2=1))
def DI(l:List V):wO l false=zR l 0:=rfl
def G_(l:List V)(i:Nat)(h:l.length<=i):zR l i=true:=by unfold zR;rw[Zt h,wO]
def DJ{l:List V}{i:Nat}{c:V}(h:l[i]?=some c):zR l i=((decide (c.k=if i % 2=1 then 6 else 5) && oY c 0) && zR l (i+1)):=by
 obtain⟨k,e⟩:=Za.1 h;unfold zR;rw[Zm k,e,wO];rcases Nat.mod_two_eq_zero_or_one i with q|q
 .rw[show decide ((i+1) % 2=1)= !decide (i % 2=1)from by rw[q];simp;omega];simp[q]
 .rw[show decide ((i+1) % 2=1)= !decide (i % 2=1)from by rw[q];simp;omega];simp[q]
def y_(l:List V):Bool:=decide (l.length % 2=1) && decide ((l.length:Int)<=25) && wO l false
def SP(N:Nat)(b:Bool)(z:Bool)(l:List V)(h:Hp)(hv:∀x∈l,VC N x):ch cx (N+1) b 378 [eG z l] h=some (.sc (.bool (y_ l)),h):=by
 have hc:[eG z l].all dk=true:=by rw[Zn,lP];rfl
 refine eR f378 [.tmp 2] hc rfl ?_ b h;clear hc;unfold y_;rcases fI z l with⟨rfl,e⟩|e
 .simp[f378,e]
 rw[e];have hq:=dI l;have hg:=gh l;generalize ef l=cg at hq hg;have hm:((l.length:Int).tmod 2)=((l.length % 2:Nat):Int):=rfl;by_cases h0:l.length % 2=0
 .rw[h0]at hm;simp[f378,hq,hm,h0]
 have lQ:l.length % 2=1:=by omega
 rw[lQ]at hm;by_cases h2:25< (l.length:Int)
 .simp[f378,hq,hm,lQ,h2,show¬(l.length:Int)<=25 by omega]
 have ry:(l.length:Int)<=25:=by omega
 simp[f378,hq,hm,lQ,h2,ry];refine pQ
  (λi s _=>wO l false=zR l i/\s.length=38/\gt s 0= .ls 5 cg z/\gt s 3=i)
  (λo s _=>s.length=38/\((o= .exit 0/\wO l false=true)\/(o= .ret/\wO l false=false/\gt s 2=false))) l.length (by simp;omega) (by simp[DI]) ?_ ?_
 .rintro i fr h da ⟨ho,cf,h0,h3⟩;by_cases hi:i<l.length
  .obtain⟨c,hc⟩:=eA hi;have hr:cg[i]?=some (enc c):=by rw[hg,hc];rfl
   have cz:=gA hr
   have hcv:=hv c (Zi hc);have cJ:=λb h=>hcv b 0 h (by omega) (by omega)
   rw[DJ hc]at ho;have hf:cS .i64 ((i:Int)+1)=((i+1:Nat):Int):=cu (by omega) (by omega);generalize oY c 0=K at ho cJ;cases c with
   |mk k n d s z' l'=>
    simp only[V.k]at ho;simp only[enc]at hr cz cJ;generalize po z' (ef l')=L' at hr cz cJ;have hm:((i:Int).tmod 2)=((i % 2:Nat):Int):=rfl;rcases Nat.mod_two_eq_zero_or_one i with q|q<;>rw[q]at hm ho
    all_goals
     simp only[show¬((0:Nat)=1)from by decide,if_false,if_true]at ho
    .by_cases hk:k=5
     .subst hk;cases K
      .have zz:wO l false=false:=by rw[ho];simp
       clear ho;simp[cf,h0,h3,hi,hq,cz,cJ,hm,zz]
      .have zz:wO l false=zR l (i+1):=by rw[ho];simp
       clear ho;simp[cf,h0,h3,hi,hq,cz,cJ,hm,hf];exact zz
     .have zz:wO l false=false:=by rw[ho];simp[hk]
      clear ho;simp[cf,h0,h3,hi,hq,cz,hm,hk,zz]
    .by_cases hk:k=6
     .subst hk;cases K
      .have zz:wO l false=false:=by rw[ho];simp
       clear ho;simp[cf,h0,h3,hi,hq,cz,cJ,hm,zz]
      .have zz:wO l false=zR l (i+1):=by rw[ho];simp
       clear ho;simp[cf,h0,h3,hi,hq,cz,cJ,hm,hf];exact zz
     .have zz:wO l false=false:=by rw[ho];simp[hk]
      clear ho;simp[cf,h0,h3,hi,hq,cz,hm,hk,zz]
  .have zz:wO l false=true:=by rw[ho,G_ l i (by omega)]
   simp[cf,h0,h3,hi,hq,zz]
 .rintro o fr h hn ⟨cf,⟨rfl,hz⟩|⟨rfl,hz,h2⟩⟩
  .simp[cf,hz]
  .simp[h2,hz]
def ke(k n d:Int)(s:ByteArray)(z:Bool)(l:List V)(m:Int):oY (.mk k n d s z l) m=
 (
  if k=0 then gN (.mk k n d s z l) false false false false
  else if k=1 then gN (.mk k n d s z l) true false false false && (decide (n=0)||decide (n=1))
  else if k=2 then gN (.mk k n d s z l) true false false false && vg n
  else if k=3 then gN (.mk k n d s z l) true true false false && decide (2<=d) && fv n d
  else if k=4 then gN (.mk k n d s z l) false false true false && (G7 s && decide ((s.size:Int)<=100))
  else if k=5\/k=6 then gN (.mk k n d s z l) true false false false && decide (1<=n) && decide (n<=1000000)
  else if k=7 then gN (.mk k n d s z l) false false false true && y_ l
  else if k=8 then gN (.mk k n d s z l) false false false true && DH l m else false):=by
 have e1:decide ((s.size:Int)<=100)=decide (s.size<=100):=decide_eq_decide.2 (by omega);have e2:decide ((l.length:Int)<=25)=decide (l.length<=25):=decide_eq_decide.2 (by omega);have e3:decide ((l.length:Int)<=64)=decide (l.length<=64):=decide_eq_decide.2 (by omega);rw[oY];unfold gN y_ DH;simp only[V.n,V.d,V.s,V.l,e1,e2,e3];generalize Aj l (m-1)=P1,wO l false=P2,G7 s=P3,fm s ⟨#[]⟩=P4,l.isEmpty=P9,vg n=P10,fv n d=P11;rw[Bool.eq_iff_iff];by_cases h0:k=0
 .subst h0;clear e1 e2 e3;simp;try grind
 by_cases h1:k=1
 .subst h1;clear e1 e2 e3;simp;try grind
 by_cases h2:k=2
 .subst h2;clear e1 e2 e3;simp;try grind
 by_cases h3:k=3
 .subst h3;clear e1 e2 e3;simp;try grind
 by_cases h4:k=4
 .subst h4;clear e1 e2 e3;simp;try grind
 by_cases h5:k=5
 .subst h5;clear e1 e2 e3;simp;try grind
 by_cases h6:k=6
 .subst h6;clear e1 e2 e3;simp;try grind
 by_cases h7:k=7
 .subst h7;clear e1 e2 e3;simp;try grind
 by_cases h8:k=8
 .subst h8;clear e1 e2 e3;simp;try grind
 simp[h0,h1,h2,h3,h4,h5,h6,h7,h8]
def Ou(N:Nat)(v:V)(hs:v.s.size<=1000000000000000)(hv:∀x∈v.l,VC (N+3) x):VC (N+5) v:=by
 intro b m h zQ hm8;have hc:[AV.ag (enc v),.sc (.int .i64 m)].all dk=true:=by
  have:=kb v;simp only[iX]at this;rw[Zn,this];rfl
 refine eR f269 [.tmp 4] hc rfl ?_ b h;clear hc;cases v with
 |mk k n d s z l=>
  simp only[V.s,V.l]at hs hv;have ar:=λb h=>E4 (N+3) b (.mk k n d s z l) h
  have aa:=λb h=>E5 (N+3) b (.mk k n d s z l) h
  have af:=λb h=>E6 (N+3) b (.mk k n d s z l) h
  have ah:=λb h=>E7 (N+3) b (.mk k n d s z l) h
  have ai:=λb h=>E8 (N+3) b (.mk k n d s z l) h
  have g1:=λb h=>acT (N+3) b n h
  have g2:=λb h=>qj (N+2) b n d h
  have g3:=λb h=>YC (N+3) b s h hs
  have g4:=λb h=>SP (N+3) b z l h hv
  have g5:=λb h=>SN (N+3) b z l m h zQ hm8 hv
  have he:enc (.mk k n d s z l)=[.sc (.int .i64 k),.sc (.int .i64 n),.sc (.int .i64 d),.sc (.string s),eG z l]:=rfl;rw[ke,he];simp only[eI]at ar aa af ah ai;simp only[kI]at g2;clear he hv;have hL:(∃r,eG z l= .ls 5 r z)\/eG z l=():=(fI z l).elim (λe=> .inr e.2) (λe=> .inl ⟨_,e⟩);generalize eG z l=L at hL ar aa af ah ai g4 g5;generalize gN (.mk k n d s z l) false false false false=B0 at ar;generalize gN (.mk k n d s z l) true false false false=B1 at aa;generalize gN (.mk k n d s z l) true true false false=B2 at af;generalize gN (.mk k n d s z l) false false true false=B3 at ah;generalize gN (.mk k n d s z l) false false false true=B4 at ai;generalize y_ l=R4 at g4;generalize DH l m=R5 at g5;generalize(G7 s && decide ((s.size:Int)<=100))=R3 at g3;generalize fv n d=R2 at g2;generalize vg n=R1 at g1;by_cases h0:k=0
  .subst h0;simp[f269,ar]
  by_cases h1:k=1
  .subst h1;cases B1
   .simp[f269,aa]
   .by_cases q:n=0
    .subst q;simp[f269,aa]
    .simp[f269,aa,q]
  by_cases h2:k=2
  .subst h2;cases B1<;>simp[f269,aa,g1]
  by_cases h3:k=3
  .subst h3;cases B2
   .simp[f269,af]
   .by_cases q:2<=d
    .simp[cn,f269,af,q,g2]
    .simp[f269,af,q]
  by_cases h4:k=4
  .subst h4;cases B3<;>simp[f269,ah,g3]
  by_cases h5:k=5
  .subst h5;cases B1
   .simp[f269,aa]
   .by_cases q:1<=n<;>simp[f269,aa,q]
  by_cases h6:k=6
  .subst h6;cases B1
   .simp[f269,aa]
   .by_cases q:1<=n<;>simp[f269,aa,q]
  by_cases h7:k=7
  .subst h7;cases B4<;>rcases hL with⟨r,rfl⟩|rfl<;>simp[f269,ai,g4]
  by_cases h8:k=8
  .subst h8;cases B4<;>rcases hL with⟨r,rfl⟩|rfl<;>simp[f269,ai,g5]
  simp[f269,h0,h1,h2,h3,h4,h5,h6,h7,h8]
mutual
def jK :V->Prop
 | .mk _ _ _ s _ l=>s.size<=1000000000000000/\l.length<=1000000000000000/\YD l
def YD :List V->Prop
 | []=>True
 |x::xs=>jK x/\YD xs
end
def E9{v:V}:∀{l:List V},YD l->v∈l->jK v
 |
  x::xs,hb,h=>by
  rw[YD]at hb;rcases Yw.1 h with rfl|h
  .exact hb.1
  .exact E9 hb.2 h
def acU :∀(D:Nat)(v:V),gS v<=D->jK v->∀N,VC (N+2*D+3) v:=by
 intro D
 induction D with
 |zero=>intro v h;cases v;simp[gS]at h
 |succ D ih=>
  intro v h hb N;have hl:∀x∈v.l,gS x<=D/\jK x:=by
   cases v with
   |mk k n d s z l=>
    intro x hx;simp only[gS]at h;rw[jK]at hb;have:=w7 (l:=l) hx;exact⟨by omega,E9 hb.2.2 hx⟩
  have hs:v.s.size<=1000000000000000:=by cases v;rw[jK]at hb;exact hb.1
  have:=Ou (N+2*D) v hs (λx hx=>ih x (hl x hx).1 (hl x hx).2 N);rw[show N+2*(D+1)+3=N+2*D+5 by omega];exact this
def nW(N D:Nat)(v:V)(hd:gS v<=D)(hb:jK v)(b:Bool)(h:Hp):ch cx (N+2*D+4) b 167 [iX v] h=some (.sc (.bool (jo v)),h):=by
 have hv:=λb h=>acU D v hd hb N b 8 h (by omega) (by omega)
 have hc:=kA v;refine eR (n:=N+2*D+3) f167 [.tmp 2] hc rfl ?_ b h;clear hc;unfold jo;generalize oY v 8=K,N+2*D+3=M at hv;cases v with
 |mk k n d s z l=>
  rw[eI];have he:enc (.mk k n d s z l)=[.sc (.int .i64 k),.sc (.int .i64 n),.sc (.int .i64 d),.sc (.string s),eG z l]:=rfl;rw[he]at hv;generalize eG z l=L at hv;simp[f167,hv]
end
section
attribute [local simp] cn eD
def lI(v:V):Int:=if jo v then(if v.k=2 then v.n else if v.k=3 then v.n else 0)else 0
def lJ(v:V):Int:=if jo v then(if v.k=2 then 1 else if v.k=3 then v.d else 0)else 0
def jR(v:V):Bool:=jo v && (decide (v.k=2)||decide (v.k=3))
def rF(N D:Nat)(v:V)(hd:gS v<=D)(hb:jK v)(b:Bool)(h:Hp):ch cx (N+2*D+5) b 172 [iX v] h=some (.tp [kI (lI v) (lJ v),.sc (.bool (jR v))],h):=by
 have hv:=λb h=>nW N D v hd hb b h
 have hc:=kA v;have hr:cD [] 8 (.tp [kI (lI v) (lJ v),.sc (.bool (jR v))])=some (.tp [kI (lI v) (lJ v),.sc (.bool (jR v))]):=rfl;clear hr
 suffices H:(∃r,r=AV.tp [kI (lI v) (lJ v),.sc (.bool (jR v))]/\∀b h,ch cx (N+2*D+5) b 172 [iX v] h=some (r,h)) by
  obtain⟨r,rfl,hr⟩:=H;exact hr b h
 refine gP (f:=172) (n:=N+2*D+4) (args:=[iX v]) (λr=>r= .tp [kI (lI v) (lJ v),.sc (.bool (jR v))]) ⟨f172.ntmps,(f172.body).getD .skip,[.cell 2 2 true,.tmp 3]⟩ (by kernel_rfl) (by kernel_rfl) rfl (by kernel_rfl) (by simp[f172]) hc ?_;clear hc;generalize N+2*D+4=M at hv;cases v with
 |mk k n d s z l=>
  unfold lI lJ jR;generalize jo (.mk k n d s z l)=K at hv;simp only[V.k,V.n,V.d];rw[eI]at hv|-;generalize eG z l=L at hv;cases K
  .simp[f172,hv,kI];exact gq rfl
  .by_cases h2:k=2
   .subst h2;simp[f172,hv,kI];exact gq rfl
   .by_cases h3:k=3
    .subst h3;simp[f172,hv,kI];exact gq rfl
    .simp[f172,hv,kI,h2,h3];exact gq rfl
end
section
attribute [local simp] eD
def sO(v w:V):Int:=sN [dE v.k w.k,dE v.n w.n,dE v.d w.d,gJ v.s w.s,je v.l w.l]
def Kk(N:Nat)(v w:V)(hl:∀b h,ch cx (N+1) b 271 [eG v.isNil v.l,eG w.isNil w.l] h=some (.sc (.int .i64 (je v.l w.l)),h))(b:Bool)(h:Hp):
 ch cx (N+2) b 169 [iX v,iX w] h=some (.sc (.int .i64 (sO v w)),h):=by
 have hc:=mm v w;refine eR f169 [.tmp 4] hc rfl ?_ b h;clear hc;cases v with
 |mk k n d s z l=>
  cases w with
  |mk k' n' d' s' z' l'=>
   have hi:=λx y b h=>Ba N b x y h
   have hs:=λb h=>SK N b s s' h
   simp only[V.l,V.isNil]at hl;simp only[sO,V.k,V.n,V.d,V.s,V.l,eI];have hL:(∃r,eG z l= .ls 5 r z)\/eG z l=():=(fI z l).elim (λe=> .inr e.2) (λe=> .inl ⟨_,e⟩);have eW:(∃r,eG z' l'= .ls 5 r z')\/eG z' l'=():=(fI z' l').elim (λe=> .inr e.2) (λe=> .inl ⟨_,e⟩);generalize eG z l=L at hl hL;generalize eG z' l'=L' at hl eW;have i1:=λb h=>hi k k' b h
   have i2:=λb h=>hi n n' b h
   have i3:=λb h=>hi d d' b h
   generalize dE k k'=c1 at i1;generalize dE n n'=c2 at i2;generalize dE d d'=c3 at i3;generalize gJ s s'=c4 at hs;generalize je l l'=c5 at hl;clear hi;by_cases h1:c1=0
   .subst h1;by_cases h2:c2=0
    .subst h2;by_cases h3:c3=0
     .subst h3;by_cases h4:c4=0
      .subst h4;rcases hL with⟨r,rfl⟩|rfl<;>rcases eW with⟨r',rfl⟩|rfl<;>simp[f169,i1,i2,i3,hs,hl,sN]
      .simp[f169,i1,i2,i3,hs,h4,sN]
     .simp[f169,i1,i2,i3,h3,sN]
    .simp[f169,i1,i2,h2,sN]
   .simp[f169,i1,h1,sN]
def OC(N:Nat)(v w:V):Prop:=∀b h,ch cx N b 109 [.ag (enc v),.ag (enc w)] h=some (.sc (.int .i64 (mg v w)),h)
def w9(l m:List V)(i:Nat):Int:=je (l.drop i) (m.drop i)
def vW(l m:List V):je l m=w9 l m 0:=rfl
def nX(l m:List V)(i:Nat)(h1:i<=l.length)(h2:i<=m.length)(h:i=l.length\/i=m.length):w9 l m i=dE l.length m.length:=by
 unfold w9;rcases Nat.lt_or_ge i l.length with q|q
 .have e':m.drop i=[]:=Zt (by omega);rw[Zm q,e'];show(1:Int)=dE l.length m.length;unfold dE;rw[cm (by omega),cq (by omega)]
 .have e:l.drop i=[]:=Zt q;rcases Nat.lt_or_ge i m.length with p|p
  .rw[e,Zm p];show(-1:Int)=dE l.length m.length;unfold dE;rw[cq (by omega)]
  .rw[e,Zt p];show(0:Int)=dE l.length m.length;unfold dE;rw[cm (by omega),cm (by omega)]
def vX{l m:List V}{i:Nat}{x y:V}(h:l[i]?=some x)(h':m[i]?=some y):w9 l m i=if mg x y=0 then w9 l m (i+1)else mg x y:=by
 obtain⟨k,e⟩:=Za.1 h;obtain⟨k',e'⟩:=Za.1 h';unfold w9;rw[Zm k,e,Zm k',e',je]
def jN(z:Bool)(l:List V):(eG z l= .ls 5 (ef l) z)\/(eG z l=()/\l.length=0):=(fI z l).elim (λe=> .inr ⟨e.2,by rw[e.1];rfl⟩) .inl
def Ov(N:Nat)(z z':Bool)(l m:List V)(hl:l.length<=1000000000000000)(_hm:m.length<=1000000000000000)(ho:∀x∈l,∀y∈m,OC (N+1) x y)(b:Bool)(h:Hp):
 ch cx (N+2) b 271 [eG z l,eG z' m] h=some (.sc (.int .i64 (je l m)),h):=by
 have hc:[eG z l,eG z' m].all dk=true:=by rw[Zn,Zn,lP,lP];rfl
 refine eR f271 [.tmp 4] hc rfl ?_ b h;clear hc;have hL:=jN z l;have eW:=jN z' m;generalize eG z l=L at hL;generalize eG z' m=L' at eW;simp[f271];refine pQ
  (λi s _=>i<=m.length/\je l m=w9 l m i/\s.length=36/\gt s 0=L/\gt s 1=L'/\gt s 5=i)
  (λo s _=>s.length=36/\((o= .exit 0/\je l m=dE l.length m.length/\gt s 0=L/\gt s 1=L')\/(o= .ret/\gt s 4= .sc (.int .i64 (je l m))))) l.length (by simp;omega) (by simp[vW]) ?_ ?_
 .rintro i fr h da ⟨jw,j9,cf,h0,h1,h5⟩;have hq:=dI l;have hg:=gh l;have mR:=dI m;have x6:=gh m;generalize ef l=cg at hq hg hL;generalize ef m=rows' at mR x6 eW;by_cases hi:i<l.length
  .rcases hL with hL|⟨hL,hz⟩
   .subst hL;by_cases hj:i<m.length
    .rcases eW with eW|⟨eW,hz⟩
     .subst eW;obtain⟨x,hx⟩:=eA hi;obtain⟨y,hy⟩:=eA hj;have hr:cg[i]?=some (enc x):=by rw[hg,hx];rfl
      have vY:rows'[i]?=some (enc y):=by rw[x6,hy];rfl
      have cz:=gA hr
      have nG:=gA vY
      have cJ:=ho x (Zi hx) y (Zi hy);unfold OC at cJ;rw[vX hx hy]at j9;have hf:cS .i64 ((i:Int)+1)=((i+1:Nat):Int):=cu (by omega) (by omega);generalize mg x y=c at cJ j9;by_cases u_:c=0
      .subst u_;rw[cq rfl]at j9;simp[cf,h0,h1,h5,hi,hj,hq,mR,cz,nG,cJ,hf];exact⟨by omega,j9⟩
      .rw[cm u_]at j9;simp[cf,h0,h1,h5,hi,hj,hq,mR,cz,nG,cJ,u_,j9]
     .omega
    .have hz:=nX l m i (by omega) (by omega) (by omega);rw[<-j9]at hz;rcases eW with eW|⟨eW,JZ⟩
     .subst eW;simp[cf,h0,h1,h5,hi,hj,hq,mR,hz]
     .subst eW;obtain rfl:i=0:=by omega
      simp[cf,h0,h1,h5,hi,hq,hz]
   .omega
  .have hz:=nX l m i (by omega) (by omega) (by omega);rw[<-j9]at hz;rcases hL with hL|⟨hL,JZ⟩
   .subst hL;simp[cf,h0,h1,h5,hi,hq,hz]
   .subst hL;obtain rfl:i=0:=by omega
    simp[cf,h0,h1,h5,hz]
 .have hq:=dI l;have mR:=dI m;have oZ:=λx y b h=>Ba N b x y h
  rintro o fr h hn ⟨cf,⟨rfl,hz,h0,h1⟩|⟨rfl,h2⟩⟩
  .rw[hz];rcases hL with hL|⟨hL,e⟩<;>rcases eW with eW|⟨eW,e'⟩<;>subst hL<;>subst eW<;>simp[*]
  .simp[h2]
end
section
attribute [local simp] cn eD
def Bb(M:Nat)(v w:V)(b:Bool)(h:Hp)(p q:Bool)(hv:∀b h,ch cx M b 167 [iX v] h=some ((p:AV),h))(hw:∀b h,ch cx M b 167 [iX w] h=some ((q:AV),h))(hy:∀x b h,ch cx M b 168 [.sc (.bool x)] h=some (.sc (.int .i64 (tv x)),h))(hpq:p≠q):
 ch cx (M+1) b 109 [iX v,iX w] h=some (.sc (.int .i64 (if q then 1 else-1)),h):=by
 have hc:=mm v w;refine eR f109 [.tmp 4] hc rfl ?_ b h;clear hc;cases v with
 |mk k n d s z l=>
  cases w with
  |mk k' n' d' s' z' l'=>
   rw[eI]at hv hw|-;rw[eI];generalize eG z l=L at hv;generalize eG z' l'=L' at hw;cases p<;>cases q<;>simp at hpq<;>simp[f109,hv,hw,hy,tv,show cS .i64 1=1 from rfl,show cS .i64 (-1)= -1 from rfl]
def Kl(M:Nat)(v w:V)(b:Bool)(h:Hp)(c:Int)(hv:∀b h,ch cx M b 167 [iX v] h=some ((false:AV),h))(hw:∀b h,ch cx M b 167 [iX w] h=some ((false:AV),h))(hf:∀b h,ch cx M b 169 [iX v,iX w] h=some ((c:AV),h)):
 ch cx (M+1) b 109 [iX v,iX w] h=some ((c:AV),h):=by
 have hc:=mm v w;refine eR f109 [.tmp 4] hc rfl ?_ b h;clear hc;cases v with
 |mk k n d s z l=>
  cases w with
  |mk k' n' d' s' z' l'=>
   rw[eI]at hv hw hf|-;rw[eI]at hf|-;generalize eG z l=L at hv hf;generalize eG z' l'=L' at hw hf;by_cases e:(AV.ag [k,n,d,s,L])=(AV.ag [k',n',d',s',L'])
   .simp[f109,hv,hw,hf]
   .simp[f109,hv,hw,hf]
def Km(M:Nat)(v w:V)(b:Bool)(h:Hp)(c g N1 D1 N2 D2:Int)(B1 B2:Bool)(hv:∀b h,ch cx M b 167 [iX v] h=some ((true:AV),h))(hw:∀b h,ch cx M b 167 [iX w] h=some ((true:AV),h))(hk:∀k b h,ch cx M b 171 [.sc (.int .i64 k)] h=some (.sc (.int .i64 (eg k)),h))(hi:∀x y b h,ch cx M b 170 [.sc (.int .i64 x),.sc (.int .i64 y)] h=some (.sc (.int .i64 (dE x y)),h))(YE:∀b h,ch cx M b 172 [iX v] h=some (.tp [kI N1 D1,B1],h))(YF:∀b h,ch cx M b 172 [iX w] h=some (.tp [kI N2 D2,B2],h))(vh:∀b h,ch cx M b 173 [kI N1 D1,kI N2 D2] h=some ((g:AV),h))(hf:∀b h,ch cx M b 169 [iX v,iX w] h=some ((c:AV),h)):
 ch cx (M+1) b 109 [iX v,iX w] h=some (.sc (.int .i64 (if dE (eg v.k) (eg w.k)=0 then(bif B1 then g else c)else dE (eg v.k) (eg w.k))),h):=by
 have hc:=mm v w;refine eR f109 [.tmp 4] hc rfl ?_ b h;clear hc;cases v with
 |mk k n d s z l=>
  cases w with
  |mk k' n' d' s' z' l'=>
   have mS:=λb h=>hk k b h
   have WW:=λb h=>hk k' b h
   have JX:=λb h=>hi (eg k) (eg k') b h
   simp only[V.k];clear hk hi;obtain⟨x,hx⟩:∃x,dE (eg k) (eg k')=x:=⟨_,rfl⟩;simp only[hx]at JX|-;clear hx;generalize eg k=y1 at mS JX;generalize eg k'=y2 at WW JX;simp only[kI]at YE YF vh;rw[eI]at hv hw hf YE YF|-;rw[eI]at hf|-;generalize eG z l=L at hv hf YE;generalize eG z' l'=L' at hw hf YF;by_cases h0:x=0
   .subst h0;cases B1<;>simp[f109,hv,hw,hf,mS,WW,JX,YE,YF,vh]
   .simp[f109,hv,hw,mS,WW,JX,h0]
def lh{v:V}(h:jK v):v.l.length<=1000000000000000/\∀x∈v.l,jK x:=by
 cases v;rw[jK]at h;exact⟨h.2.1,λx hx=>E9 h.2.2 hx⟩
def ql{v:V}{D:Nat}(h:gS v<=D+1):∀x∈v.l,gS x<=D:=by
 cases v with
 |mk k n d s z l=>intro x hx;have:=w7 (l:=l) hx;simp only[gS]at h;omega
def kS(v:V):1<=gS v:=by cases v;simp only[gS];omega
def SQ :∀(D:Nat)(v w:V),gS v<=D->gS w<=D->jK v->jK w->∀N,OC (N+3*D+6) v w:=by
 intro D
 induction D with
 |zero=>intro v w h;have:=kS v;omega
 |succ D ih=>
  intro v w dv dw bv bw N b h;have hl:=Ov (N+3*D+5) v.isNil w.isNil v.l w.l (lh bv).1 (lh bw).1 (λx hx y hy=>ih x y (ql dv x hx) (ql dw y hy) ((lh bv).2 x hx) ((lh bw).2 y hy) N);have hf:=λb h=>Kk (N+3*D+6) v w hl b h
  have hv:=λb h=>nW (N+D+2) (D+1) v dv bv b h
  have hw:=λb h=>nW (N+D+2) (D+1) w dw bw b h
  have nv:=λb h=>rF (N+D+1) (D+1) v dv bv b h
  have nw:=λb h=>rF (N+D+1) (D+1) w dw bw b h
  rw[show N+D+2+2*(D+1)+4=N+3*D+8 by omega]at hv hw;rw[show N+D+1+2*(D+1)+5=N+3*D+8 by omega]at nv nw;rw[show N+3*(D+1)+6=N+3*D+8+1 by omega];have hy:=λx b h=>MA (N+3*D+7) b x h
  have hk:=λk b h=>Ot (N+3*D+7) b k h
  have hi:=λx y b h=>Ba (N+3*D+7) b x y h
  have vh:=λb h=>My (N+3*D+5) b (lI v) (lJ v) (lI w) (lJ w) h
  have e:mg v w=if jo v=jo w then(if jo w then(if dE (eg v.k) (eg w.k)=0 then(if v.k=2\/v.k=3 then ve v.n (if v.k=2 then 1 else v.d) w.n (if w.k=2 then 1 else w.d)else sO v w)else dE (eg v.k) (eg w.k))else sO v w)else if jo w then 1 else-1:=by
   cases v;rw[mg];rfl
  rw[e];cases hp:jo v<;>cases hq:jo w<;>rw[hp]at hv<;>rw[hq]at hw
  .have:=Kl (N+3*D+8) v w b h (sO v w) hv hw hf;simpa[iX]using this
  .have:=Bb (N+3*D+8) v w b h false true hv hw hy (by decide);simpa[iX]using this
  .have:=Bb (N+3*D+8) v w b h true false hv hw hy (by decide);simpa[iX]using this
  .have:=Km (N+3*D+8) v w b h (sO v w) _ _ _ _ _ _ _ hv hw hk hi nv nw vh hf;simp only[iX]at this;rw[this];simp only[if_true,jR,hp,Xd];by_cases h0:dE (eg v.k) (eg w.k)=0
   .simp only[h0,if_true];by_cases h1:v.k=2\/v.k=3
    .have dZ:eg v.k=eg w.k:=by
      unfold dE at h0;by_cases a:eg v.k<eg w.k
      .rw[cq a]at h0;omega
      .by_cases a':eg w.k<eg v.k
       .rw[cm a,cq a']at h0;omega
       .omega
     have h2:eg v.k=2:=by rcases h1 with e|e<;>rw[e]<;>rfl
     have h3:w.k=2\/w.k=3:=by
      rw[h2]at dZ;unfold eg at dZ
      (repeat' split at dZ)<;>omega
     have q:(decide (v.k=2)||decide (v.k=3))=true:=by simpa using h1
     simp only[h1,if_true,q,cond_true,lI,lJ,hp,hq];rcases h1 with e1|e1<;>rcases h3 with e3|e3<;>simp[e1,e3]
    .have q:(decide (v.k=2)||decide (v.k=3))=false:=by simp;omega
     simp[h1,q]
   .simp only[h0,if_false]
end
section
attribute [local simp] eD
def qo{f:FuncId}{args:LA}{n:Nat}(fi:Fi)(hs:cx.oW f=none)(hi:cx.inl f=true)(hF:cx.F f=some fi)(hd:(jQ cx fi.body).isNone=true)(gI:sZ cx fi.body=true)(hl:args.length<=fi.ntmps)(b:Bool)(h:Hp)(hp:jx f=true:=by decide):
 ch cx (n+1) b f args h=dL fi.res (n fi.body (args++List.replicate (fi.ntmps-args.length) .un,h)):=by
 have e1:cx.ins f=none:=Bc hp;have e2:(if args.all dk then cx.ux f args else none)=none:=by rw[show cx.ux f args=none from tw hp];split<;>rfl
 simp only[ch,hs,hi,if_true,e1,e2,hF,Yb.1 hd];exact jL hF gI hl h
def WX{f:FuncId}{args:LA}{n:Nat}(fn:Func)(res:List Rv){b:Bool}{h:Hp}(hs:cx.oW f=none:=by rfl)(hi:cx.inl f=true:=by kernel_rfl)(hF:cx.F f=some ⟨fn.ntmps,(fn.body).getD .skip,res⟩:=by kernel_rfl)(hd:(jQ cx ((fn.body).getD .skip)).isNone=true:=by kernel_rfl)(gI:sZ cx ((fn.body).getD .skip)=true:=by kernel_rfl)(hl:Nat.ble args.length fn.ntmps=true:=by rfl)(hp:jx f=true:=by decide):ch cx (n+1) b f args h=dL res (n ((fn.body).getD .skip) (args++List.replicate (fn.ntmps-args.length) .un,h)):=
 qo ⟨fn.ntmps,(fn.body).getD .skip,res⟩ hs hi hF hd gI (Nat.le_of_ble_eq_true hl) b h hp
def SR(n:Nat)(b:Bool)(r:Int)(h:Hp):ch cx (n+1) b 434 [.sc (.int .i32 r)] h=some (.sc (.bool (decide (r<32)||decide (126<r))),h):=by
 rw[WX f434 [.tmp 2]];by_cases h1:r<32<;>simp[f434,h1]
def Ow :List UInt8->Nat->Int
 | [],_=> -1
 |c::l,i=>if Kj c=true then Ow l (i+1)else i
def vj(x:ByteArray)(i:Nat):Int:=Ow (x.data.toList.drop i) i
def Ha :∀(l:List UInt8)(i:Nat),(Ow l i<0)=(l.all Kj=true)
 | [],i=>by simp[Ow]
 |
  c::l,i=>by
  rw[Ow,Zn];cases h:Kj c
  .simp
  .simp[Ha l (i+1)]
def SS(x:ByteArray)(i:Nat)(h:x.size<=i):vj x i= -1:=by unfold vj;rw[Zt h];rfl
def Ox{x:ByteArray}{i:Nat}{c:UInt8}(h:x.data.toList[i]?=some c):vj x i=if Kj c=true then vj x (i+1)else i:=by
 obtain⟨k,e⟩:=Za.1 h;unfold vj;rw[Zm k,e,Ow]
def YG{x:ByteArray}{i:Nat}{c:UInt8}(h:x.data.toList[i]?=some c):(Kj c=true/\Utf8.decode x i=(c.toNat,1)/\32<=c.toNat/\c.toNat<=126)\/(Kj c=false/\((Utf8.decode x i).1<32\/126< (Utf8.decode x i).1)):=by
 obtain⟨k,e⟩:=Za.1 h;have kx:i<x.size:=k;have ex:x[i]'kx=c:=e;by_cases ha:c.toNat<128
 .have hd:=decode_ascii x i kx (by rw[ex];exact ha);rw[ex]at hd;cases hc:Kj c with
  |
   true=>
   left;simp only[Kj,Zh,Zy]at hc;exact⟨rfl,hd,hc.1,hc.2⟩
  |
   false=>
   right;rw[hd];simp only[Kj,Bool.and_eq_false_iff,decide_eq_false_iff_not]at hc;exact⟨rfl,by simp only;omega⟩
 .have hd:=decode_high x i kx (by rw[ex];omega);right;refine⟨?_,.inr (by omega)⟩;simp only[Kj,Bool.and_eq_false_iff,decide_eq_false_iff_not];omega
def C4(n:Nat)(b:Bool)(x:ByteArray)(h:Hp)(hx:x.size<=1000000000000000):ch cx (n+2) b 489 [x,.fn 434 [],true] h=some (.sc (.int .i64 (vj x 0)),h):=by
 refine eR f489 [.tmp 6] rfl rfl ?_ b h;have fX:x.data.toList.length=x.size:=rfl;have dZ:=λb r h=>SR n b r h
 simp[f489];refine pQ
  (λi s dn=>vj x 0=vj x i/\s.length=21/\gt s 1= .fn 434 []/\gt s 2=true/\gt s 10= .pt 0 0/\dn=[.iter x i])
  (λo s _=>s.length=21/\((o= .exit 0/\vj x 0= -1)\/(o= .ret/\gt s 6= .sc (.int .i64 (vj x 0))))) x.size (by simp;omega) (by simp) ?_ ?_
 .rintro i fr h da ⟨ho,cf,h1,h2,lN,hh⟩;subst hh;by_cases hi:i<x.size
  .obtain⟨c,hc⟩:∃c,x.data.toList[i]?=some c:=⟨_,Zb (by omega)⟩;rw[Ox hc]at ho;rcases YG hc with⟨hk,hd,k1,k2⟩|⟨hk,hd⟩
   .rw[cq hk]at ho;have aa:¬((c.toNat:Int)<32):=by omega
    have af:¬(126< (c.toNat:Int)):=by omega
    generalize c.toNat=d at hd aa af;simp[cf,h1,h2,lN,hi,hd,dZ,aa,af];exact ho
   .rw[cm (by rw[hk];simp)]at ho;generalize hde:Utf8.decode x i=de at hd;obtain⟨d,wd⟩:=de;simp only at hd;by_cases aa:(d:Int)<32
    .simp[cf,h1,h2,lN,hi,hde,dZ,aa,ho]
    .have af:126< (d:Int):=by omega
     simp[cf,h1,h2,lN,hi,hde,dZ,aa,af,ho]
  .have hz:vj x 0= -1:=by rw[ho,SS x i (by omega)]
   simp[cf,lN,hi,hz]
 .rintro o fr h hn ⟨cf,⟨rfl,hz⟩|⟨rfl,h2⟩⟩
  .simp[cf,hz]
  .simp[h2]
def C5(n:Nat)(b:Bool)(x:ByteArray)(h:Hp)(hx:x.size<=1000000000000000):ch cx (n+3) b 433 [x,.fn 434 []] h=some (.sc (.int .i64 (vj x 0)),h):=by
 refine eR f433 [.tmp 4] rfl rfl ?_ b h;have hc:=λb h=>C4 n b x h hx
 simp[f433,hc]
def YH(x:ByteArray):(vj x 0<0)=(G7 x=true):=by
 unfold vj;rw[Ha];rfl
end
section
attribute [local simp] cn eD
@[simp] def ahi(h:Hp)(a:eK)(l:Hp):(h++a::l)[h.length]?=some a:=by simp
@[simp] def agJ(h:Hp)(a b:eK)(l:Hp):(h++a::b::l)[h.length+1]?=some b:=by rw[Zf (by omega)];simp
@[simp] def ahh(h:Hp)(a b:eK)(l:Hp):(h++a::l).set h.length b=h++b::l:=by rw[List.set_append_right _ _ (Xc _)];simp
@[simp] def agT(h:Hp)(a b c:eK)(l:Hp):(h++a::b::l).set (h.length+1) c=h++a::c::l:=by rw[List.set_append_right _ _ (by omega)];simp
@[simp] def akX :List.range 2=[0,1]:=rfl
@[simp] def akO :List.range 3=[0,1,2]:=rfl
@[simp] def akS :List.range 4=[0,1,2,3]:=rfl
@[simp] def akQ :List.range 5=[0,1,2,3,4]:=rfl
def PVC(N:Nat)(v:V):Prop:=∀b q h,0<=q->q<=8->ch cx N b 345 [.ag (enc v),.sc (.int .i64 q)] h=some (.sc (.bool (oY v (8-q))),h)
def acV{v:V}(h:v.k=5\/v.k=6)(m m':Int):oY v m=oY v m':=by
 cases v with
 |mk k n d s z l=>
  simp only[V.k]at h;rw[oY,oY];rcases h with rfl|rfl<;>simp
def SU(N:Nat)(b:Bool)(z:Bool)(l:List V)(h:Hp)(hv:∀x∈l,PVC N x):ch cx (N+1) b 435 [eG z l] h=some (.sc (.bool (y_ l)),h):=by
 have hc:[eG z l].all dk=true:=by rw[Zn,lP];rfl
 refine eR f435 [.tmp 2] hc rfl ?_ b h;clear hc;unfold y_;rcases fI z l with⟨rfl,e⟩|e
 .simp[f435,e]
 rw[e];have hq:=dI l;have hg:=gh l;generalize ef l=cg at hq hg;have hm:((l.length:Int).tmod 2)=((l.length % 2:Nat):Int):=rfl;by_cases h0:l.length % 2=0
 .rw[h0]at hm;simp[f435,hq,hm,h0]
 have lQ:l.length % 2=1:=by omega
 rw[lQ]at hm;by_cases h2:25< (l.length:Int)
 .simp[f435,hq,hm,lQ,h2,show¬(l.length:Int)<=25 by omega]
 have ry:(l.length:Int)<=25:=by omega
 simp[f435,hq,hm,lQ,h2,ry];refine pQ
  (λi s _=>wO l false=zR l i/\s.length=37/\gt s 15= .ls 5 cg z/\gt s 16=l.length/\gt s 17=i)
  (λo s _=>s.length=37/\((o= .exit 0/\wO l false=true)\/(o= .ret/\wO l false=false/\gt s 2=false))) l.length (by simp;omega) (by simp[DI]) ?_ ?_
 .rintro i fr h da ⟨ho,cf,h15,mN,h17⟩;by_cases hi:i<l.length
  .obtain⟨c,hc⟩:=eA hi;have hr:cg[i]?=some (enc c):=by rw[hg,hc];rfl
   have cz:=gA hr
   have hcv:=hv c (Zi hc);have cJ:=λb h=>hcv b 0 h (by omega) (by omega)
   rw[DJ hc]at ho;have hf:cS .i64 ((i:Int)+1)=((i+1:Nat):Int):=cu (by omega) (by omega);have h56:c.k=5\/c.k=6->oY c (8-0)=oY c 0:=λq=>acV q _ _
   generalize oY c 0=K0 at ho h56;generalize oY c (8-0)=K at cJ h56;cases c with
   |mk k n d s z' l'=>
    simp only[V.k]at ho h56;simp only[enc]at hr cz cJ;generalize po z' (ef l')=L' at hr cz cJ;have hm:((i:Int).tmod 2)=((i % 2:Nat):Int):=rfl;rcases Nat.mod_two_eq_zero_or_one i with q|q<;>rw[q]at hm ho
    all_goals
     simp only[show¬((0:Nat)=1)from by decide,if_false,if_true]at ho
    .by_cases hk:k=5
     .subst hk;obtain rfl:=h56 (.inl rfl);cases K
      .have zz:wO l false=false:=by rw[ho];simp
       clear ho;simp[cf,h15,mN,h17,hi,hq,cz,cJ,hm,zz]
      .have zz:wO l false=zR l (i+1):=by rw[ho];simp
       clear ho;simp[cf,h15,mN,h17,hi,hq,cz,cJ,hm,hf];exact zz
     .have zz:wO l false=false:=by rw[ho];simp[hk]
      clear ho;simp[cf,h15,mN,h17,hi,hq,cz,hm,hk,zz]
    .by_cases hk:k=6
     .subst hk;obtain rfl:=h56 (.inr rfl);cases K
      .have zz:wO l false=false:=by rw[ho];simp
       clear ho;simp[cf,h15,mN,h17,hi,hq,cz,cJ,hm,zz]
      .have zz:wO l false=zR l (i+1):=by rw[ho];simp
       clear ho;simp[cf,h15,mN,h17,hi,hq,cz,cJ,hm,hf];exact zz
     .have zz:wO l false=false:=by rw[ho];simp[hk]
      clear ho;simp[cf,h15,mN,h17,hi,hq,cz,hm,hk,zz]
  .have zz:wO l false=true:=by rw[ho,G_ l i (by omega)]
   simp[cf,mN,h17,hi,zz]
 .rintro o fr h hn ⟨cf,⟨rfl,hz⟩|⟨rfl,hz,h2⟩⟩
  .simp[cf,hz]
  .simp[h2,hz]
def w_(z:Bool)(l:List V):(eG z l=()/\l.isEmpty=true)\/(eG z l= .ls 5 [] z/\l.isEmpty=true)\/∃cg,eG z l= .ls 5 cg z/\0<cg.length/\l.isEmpty=false:=by
 rcases fI z l with⟨rfl,e⟩|e
 .exact .inl ⟨e,rfl⟩
 .cases l with
  |nil=>exact .inr (.inl ⟨e,rfl⟩)
  |cons x xs=>exact .inr (.inr ⟨_,e,by rw[dI];simp,rfl⟩)
def iY(v:V)(q:Int):[iX v,.sc (.int .i64 q)].all dk=true:=by rw[Zn,kb];rfl
def Kn(M:Nat)(n d q:Int)(s:ByteArray)(z:Bool)(l:List V)(b:Bool)(h:Hp):ch cx (M+1) b 345 [iX (.mk 0 n d s z l),q] h=some (.sc (.bool (oY (.mk 0 n d s z l) (8-q))),h):=by
 refine eR f345 [.tmp 4] (iY _ _) rfl ?_ b h;rw[ke,eI];unfold gN;simp only[V.n,V.d,V.s,V.l];have hl:=w_ z l;generalize eG z l=L,l.isEmpty=E at hl;by_cases hd:d=0
 rotate_left
 .simp[f345,hd]
 cases hs:fm s ⟨#[]⟩
 .simp[f345,hs,hd]
 rcases hl with⟨rfl,rfl⟩|⟨rfl,rfl⟩|⟨cg,rfl,hr,rfl⟩
 rotate_right
 .simp[f345,hr,hd,hs]
 all_goals
  by_cases hn:n=0<;>simp[f345,hn,hd,hs]
def Ko(M:Nat)(n d q:Int)(s:ByteArray)(z:Bool)(l:List V)(b:Bool)(h:Hp):ch cx (M+1) b 345 [iX (.mk 1 n d s z l),q] h=some (.sc (.bool (oY (.mk 1 n d s z l) (8-q))),h):=by
 refine eR f345 [.tmp 4] (iY _ _) rfl ?_ b h;rw[ke,eI];unfold gN;simp only[V.n,V.d,V.s,V.l];have hl:=w_ z l;generalize eG z l=L,l.isEmpty=E at hl;by_cases hd:d=0
 rotate_left
 .simp[f345,hd]
 cases hs:fm s ⟨#[]⟩
 .simp[f345,hs,hd]
 rcases hl with⟨rfl,rfl⟩|⟨rfl,rfl⟩|⟨cg,rfl,hr,rfl⟩
 rotate_right
 .simp[f345,hr,hd,hs]
 all_goals
  by_cases hn:n=0
  .simp[f345,hn,hd,hs]
  .simp[f345,hn,hd,hs]
def Kp(M:Nat)(n d q:Int)(s:ByteArray)(z:Bool)(l:List V)(b:Bool)(h:Hp)(g1:∀b h,ch cx M b 431 [n] h=some (.sc (.bool (vg n)),h)):ch cx (M+1) b 345 [iX (.mk 2 n d s z l),q] h=some (.sc (.bool (oY (.mk 2 n d s z l) (8-q))),h):=by
 refine eR f345 [.tmp 4] (iY _ _) rfl ?_ b h;rw[ke,eI];unfold gN;simp only[V.n,V.d,V.s,V.l];have hl:=w_ z l;generalize eG z l=L,l.isEmpty=E at hl;by_cases hd:d=0
 rotate_left
 .simp[f345,hd]
 cases hs:fm s ⟨#[]⟩
 .simp[f345,hs,hd]
 rcases hl with⟨rfl,rfl⟩|⟨rfl,rfl⟩|⟨cg,rfl,hr,rfl⟩
 rotate_right
 .simp[f345,hr,hd,hs]
 all_goals simp[f345,g1,hd,hs]
def Kq(M:Nat)(n d q:Int)(s:ByteArray)(z:Bool)(l:List V)(b:Bool)(h:Hp)(g2:∀b h,ch cx M b 432 [.ag [n,d]] h=some (.sc (.bool (fv n d)),h)):ch cx (M+1) b 345 [iX (.mk 3 n d s z l),q] h=some (.sc (.bool (oY (.mk 3 n d s z l) (8-q))),h):=by
 refine eR f345 [.tmp 4] (iY _ _) rfl ?_ b h;rw[ke,eI];unfold gN;simp only[V.n,V.d,V.s,V.l];have hl:=w_ z l;generalize eG z l=L,l.isEmpty=E at hl;cases hs:fm s ⟨#[]⟩
 .simp[f345,hs]
 rcases hl with⟨rfl,rfl⟩|⟨rfl,rfl⟩|⟨cg,rfl,hr,rfl⟩
 rotate_right
 .simp[f345,hr,hs]
 all_goals
  by_cases hd:2<=d<;>simp[f345,hd,g2,hs]
def Kr(M:Nat)(n d q:Int)(s:ByteArray)(z:Bool)(l:List V)(b:Bool)(h:Hp)(g3:∀b h,ch cx M b 433 [s,.fn 434 []] h=some (.sc (.int .i64 (vj s 0)),h)):ch cx (M+1) b 345 [iX (.mk 4 n d s z l),q] h=some (.sc (.bool (oY (.mk 4 n d s z l) (8-q))),h):=by
 refine eR f345 [.tmp 4] (iY _ _) rfl ?_ b h;rw[ke,eI];unfold gN;simp only[V.n,V.d,V.s,V.l];have hl:=w_ z l;generalize eG z l=L,l.isEmpty=E at hl;by_cases hd:d=0
 rotate_left
 .simp[f345,hd]
 rcases hl with⟨rfl,rfl⟩|⟨rfl,rfl⟩|⟨cg,rfl,hr,rfl⟩
 rotate_right
 .simp[f345,hr,hd]
 all_goals
  have hw:=YH s;generalize vj s 0=w at hw g3;by_cases hn:n=0
  .by_cases h1:(s.size:Int)<=100
   .by_cases h2:w<0
    .have h3:G7 s=true:=by rw[<-hw];exact h2
     simp[f345,hn,h1,h2,h3,g3,hd]
    .have h3:G7 s=false:=by cases h4:G7 s with|false=>rfl|true=>rw[h4]at hw;exact absurd (hw.mpr rfl) h2
     simp[f345,hn,h1,h2,h3,g3,hd]
   .simp[f345,hn,h1,hd]
  .simp[f345,hn,hd]
def Ks(M:Nat)(n d q:Int)(s:ByteArray)(z:Bool)(l:List V)(b:Bool)(h:Hp):ch cx (M+1) b 345 [iX (.mk 5 n d s z l),q] h=some (.sc (.bool (oY (.mk 5 n d s z l) (8-q))),h):=by
 refine eR f345 [.tmp 4] (iY _ _) rfl ?_ b h;rw[ke,eI];unfold gN;simp only[V.n,V.d,V.s,V.l];have hl:=w_ z l;generalize eG z l=L,l.isEmpty=E at hl;by_cases hd:d=0
 rotate_left
 .simp[f345,hd]
 cases hs:fm s ⟨#[]⟩
 .simp[f345,hs,hd]
 rcases hl with⟨rfl,rfl⟩|⟨rfl,rfl⟩|⟨cg,rfl,hr,rfl⟩
 rotate_right
 .simp[f345,hr,hd,hs]
 all_goals
  by_cases hn:1<=n<;>simp[f345,hn,hd,hs]
def Kt(M:Nat)(n d q:Int)(s:ByteArray)(z:Bool)(l:List V)(b:Bool)(h:Hp):ch cx (M+1) b 345 [iX (.mk 6 n d s z l),q] h=some (.sc (.bool (oY (.mk 6 n d s z l) (8-q))),h):=by
 refine eR f345 [.tmp 4] (iY _ _) rfl ?_ b h;rw[ke,eI];unfold gN;simp only[V.n,V.d,V.s,V.l];have hl:=w_ z l;generalize eG z l=L,l.isEmpty=E at hl;by_cases hd:d=0
 rotate_left
 .simp[f345,hd]
 cases hs:fm s ⟨#[]⟩
 .simp[f345,hs,hd]
 rcases hl with⟨rfl,rfl⟩|⟨rfl,rfl⟩|⟨cg,rfl,hr,rfl⟩
 rotate_right
 .simp[f345,hr,hd,hs]
 all_goals
  by_cases hn:1<=n<;>simp[f345,hn,hd,hs]
def Ku(M:Nat)(n d q:Int)(s:ByteArray)(z:Bool)(l:List V)(b:Bool)(h:Hp)(g4:∀b h,ch cx M b 435 [eG z l] h=some (.sc (.bool (y_ l)),h)):ch cx (M+1) b 345 [iX (.mk 7 n d s z l),q] h=some (.sc (.bool (oY (.mk 7 n d s z l) (8-q))),h):=by
 refine eR f345 [.tmp 4] (iY _ _) rfl ?_ b h;rw[ke,eI];unfold gN;simp only[V.n,V.d,V.s,V.l];have hl:=w_ z l;generalize eG z l=L at hl g4;generalize l.isEmpty=E at hl;by_cases hd:d=0
 rotate_left
 .simp[f345,hd]
 cases hs:fm s ⟨#[]⟩
 .simp[f345,hs,hd]
 rcases hl with⟨rfl,rfl⟩|⟨rfl,rfl⟩|⟨cg,rfl,hr,rfl⟩
 all_goals
  by_cases hn:n=0<;>simp[f345,hn,g4,hd,hs]
end
end Go.Proofs.YtmfohnojaginjaaGreatDoor
