/- Part of the proof. -/
import Derived.Test.YtmocfjnklfpnbaaGreatDoorP19
set_option linter.all false
set_option maxHeartbeats 32000000
set_option maxRecDepth 100000
namespace Go.Proofs.YtmocfjnklfpnbaaGreatDoor
open Go Go.Ae Go.Proofs.Tryz
section
attribute [local simp] ew eY
def He{e:Operand->AV}{d:Option Tmp}{x:Operand}{ty:TypeId}{p:String}{a:Array Edge}{g:Option (Nat × Bool)}(he:e x=()):
 mO cx e {dst:=d,op:= .call {callee:= .builtin .cap,args:= #[x],argTypes:= #[52]},type:=ty,pos:=p,after:=a,guard:=g}=some (.sc (.int .i64 0)):=by
 simp only[mO,pD,Op.operands,Go.Call.operands];simp[tR,he,tS,execOp,resolve,invoke,builtin]
 kernel_rfl
def JV{e:Operand->AV}{d:Option Tmp}{x y:Operand}{ty:TypeId}{p:String}{a:Array Edge}{g:Option (Nat × Bool)}(he:e x=())(hy:e y=(0:Int)):
 mO cx e {dst:=d,op:= .slice 52 x none (some y) none,type:=ty,pos:=p,after:=a,guard:=g}=some (.sc (.slice none 0 0)):=by
 simp only[mO,pD,Op.operands];simp[tR,he,hy,tS,execOp]
 kernel_rfl
def Nz :I4 cx 3=true:=by kernel_rfl
def Wu(n:Nat)(b:Bool)(h:Hp):cu cx (n+1) b 228 [(),(0:Int)] h=some (.sc (.slice none 0 0),h):=by
 kernel_rfl
def abp(n:Nat)(b:Bool)(m:Nat)(h:Hp)(hm:0<m)(hm2:m<=1000000000):cu cx (n+1) b 228 [(),m] h=some (.sl h.length 10 0 0 false,h++[.row ((List.range m).flatMap λ_=> [.sc (.string ⟨#[]⟩),.sc (.int .i64 0),.sc (.int .i64 0),.sc (.int .i64 0),.sc (.int .i64 0),.sc (.string ⟨#[]⟩),.sc (.slice none 0 0),.sc (.string ⟨#[]⟩),.sc (.bool false),.sc (.slice none 0 0)])]):=by
 rw[rr (n:=n) f228 [.tmp 4]];have hz:zJ cx h 52 3 (.sc (.slice none 0 0)) (.sc (.int .i64 (m:Nat)))=some (.sl h.length 10 0 m false,h++[.row ((List.range m).flatMap λ_=> [.sc (.string ⟨#[]⟩),.sc (.int .i64 0),.sc (.int .i64 0),.sc (.int .i64 0),.sc (.int .i64 0),.sc (.string ⟨#[]⟩),.sc (.slice none 0 0),.sc (.string ⟨#[]⟩),.sc (.bool false),.sc (.slice none 0 0)])]):=by
  have h1:jy (.sc (.int .i64 (m:Int)))=some m:=by simp[jy]
  simp only[zJ,Ej,h1,Nz];rw[cw ⟨trivial,hm,by unfold maxLen;omega,by omega⟩];rfl
 have vV:(0:Int)< (m:Int):=by omega
 have F2:¬(m:Int)<0:=by omega
 have adO:dA .i64 0=0:=by kernel_rfl
 have hf:dA .i64 ((m:Int)-0)=(m:Int):=by rw[cK (by omega) (by omega)];omega
 have cp:(((List.range m).flatMap λ_=>([.sc (.string ⟨#[]⟩),.sc (.int .i64 0),.sc (.int .i64 0),.sc (.int .i64 0),.sc (.int .i64 0),.sc (.string ⟨#[]⟩),.sc (.slice none 0 0),.sc (.string ⟨#[]⟩),.sc (.bool false),.sc (.slice none 0 0)]:LA))).length=m*10:=by
  rw[List.length_flatMap];simp[List.map_const']
 generalize((List.range m).flatMap λ_=>([.sc (.string ⟨#[]⟩),.sc (.int .i64 0),.sc (.int .i64 0),.sc (.int .i64 0),.sc (.int .i64 0),.sc (.string ⟨#[]⟩),.sc (.slice none 0 0),.sc (.string ⟨#[]⟩),.sc (.bool false),.sc (.slice none 0 0)]:LA))=Z,hL:(m:Int)=L at *;simp[f228,F2];rw[He (by rfl)];simp[adO];rw[show L-0=L by omega]at hf;simp[hf,vV];rw[He (by rfl)];simp;rw[JV (by rfl) (by rfl)];have ahk:10<=Z.length:=by clear hf adO;omega
 simp[hz,lY,iC,ahk]
def Hf{t:TypeId}{i:Ti}{sz bytes:Nat}{ag:Bool}{ez:List Value}(hT:cx.T t=some i)(hk:i.kd= .slice sz ag bytes ez)(R cq:List LA)(rest:LA)(z:Bool)(hR:∀r∈R,r.length=sz)(hr:∀r∈cq,r.length=sz)(AU:cq.length*sz<=rest.length):
 fg cx [.row (R.flatten++rest)] t (.sl 0 sz 0 R.length false) (.ls sz cq z)=some (.sl 0 sz 0 (R.length+cq.length) false,[.row ((R++cq).flatten++rest.drop (cq.length*sz))]):=by
 obtain⟨size,agg,zero,kd⟩:=i;simp only at hk;subst hk;have nb:gV [.row (R.flatten++rest)] (.ls sz cq z)=some (cq.length,cq.flatten):=by simp[gV]
 have h1:=e9 R hR;have h2:=e9 cq hr;unfold fg;rw[hT];simp only[kM,beq_self_eq_true,Bool.and_self,if_true,nb];by_cases h0:cq.length=0
 .have:cq=[]:=Xp.1 h0;subst this;simp
 .rw[cv h0];have hg:([eV.row (R.flatten++rest)])[0]?=some (.row (R.flatten++rest)):=rfl;simp only[hg];rw[cw (by rw[Zu,Xh,h1];omega)]
  congr 1
  congr 1
  simp only[List.set_cons_zero,cF,Xk]
  congr 1
  congr 1
  rw[<-h1,List.take_left,<-Zu,<-List.flatten_append];rw[List.flatten_append,Zu,h2,Zp,<-List.drop_drop,List.drop_left,<-Zp]
@[simp] def ajD :cx.T 281=some {size:=1,agg:=false,zero:=[.slice none 0 0],kd:= .slice 1 false 24 [.slice none 0 0]}:=by kernel_rfl
def JW(a b i:Nat):Nat:=if i=0 then 0 else if i=1 then a else a+b
def vW(A B:List LA)(i:Nat):List LA:=if i=0 then[]else if i=1 then A else A++B
def EL(l:List Pp):(∀r∈jw l,r.length=10)/\(jw l).flatten.all l6=true:=by
 refine⟨λr hr=>by obtain⟨c,_,rfl⟩:=Yf.1 hr;exact nh c,nW λr hr=>?_⟩;obtain⟨⟨k,⟨op,⟨vk,vn,vd,vs,vz,vl⟩,nm,ds,ks⟩⟩,_,rfl⟩:=Yf.1 hr;cases vz<;>cases hE:(fj vl).isEmpty<;>simp[eF,cM,enc,zT,l6,hE]
noncomputable def yH :Code:=(f151.body).getD .skip
def Ru(n:Nat)(b:Bool)(A B:List Pp)(za zb:Bool)(h:Hp)(hl:A.length+B.length<=10^9):cu cx (n+2) b 151 [.ls 1 [[.ls 10 (jw A) za],[.ls 10 (jw B) zb]] true] h=some (.ls 10 (jw (A++B)) false,h):=by
 refine ZT f151 [.tmp 2] rfl ?_ b h;have Ev:kx 151 =10:=by decide
 rw[Ev];have hAB:jw (A++B)=jw A++jw B:=by simp[jw]
 have fZ:=EL (A++B);have ha1:=(EL A).1;have Py:=(EL B).1;rw[hAB]at fZ|-;have UY:=dP A;have UZ:=dP B;have fG:=λb m h h1 h2=>abp n b m h h1 h2
 have fG0:=λb h=>Wu n b h
 generalize jw A=RA,jw B=RB,n+1=M at *;clear hAB;have IP:dA .i64 ((RA.length:Int)+(RB.length:Int))=((RA.length+RB.length:Nat):Int):=by rw[cK (by omega) (by omega)];omega
 have BL:dA .i64 ((RA.length:Int))=(RA.length:Int):=cK (by omega) (by omega);have tV:dA .i64 1=1:=by kernel_rfl
 have hf2:dA .i64 2=2:=by kernel_rfl
 have hgm:=λ(hm:RA.length+RB.length≠0)=>fG true (RA.length+RB.length) [] (by omega) (by omega)
 have hn0:¬((RA.length+RB.length:Nat):Int)<0:=by omega
 have hna:¬(RA.length:Int)<0:=by omega
 show∃r h',dT [.tmp 2] (M yH _)=some (r,h')/\_;rw[show yH= .seq (cL (cT 0 yH)) (.seq (cL (cT 1 yH)) (.seq (cL (cT 2 yH)) (.seq (cL (cT 3 yH)) (.seq (cL (cT 4 yH)) (cT 5 yH))))) by kernel_rfl];generalize hmm:RA.length+RB.length=m at *;have BO:∀fr h y,fr.length=36->gt fr 6=y->(m=0/\y= .sc (.slice none 0 0)\/0<m/\y= .sl 0 10 0 m false/\h=[.row (RA++RB).flatten])->∃r h',dT [.tmp 2] (M (cT 5 yH) (fr,h))=some (r,h')/\∃r',Ae.da h' 8 r=some r'/\EM 10 r'= .ls 10 (RA++RB) false:=by
  intro fr h y cp g6 hy;have hB:ka h 10 (RA++RB) y:=by
   rcases hy with⟨h0,rfl⟩|⟨h0,rfl,rfl⟩
   .have ha:RA=[]:=Xp.1 (by omega);have hb:RB=[]:=Xp.1 (by omega);subst ha;subst hb;exact .inl ⟨rfl,rfl⟩
   .refine .inr ⟨λe=>?_,0,by rw[Zu,hmm],rfl⟩;have:=congrArg List.length e;rw[Zu,hmm]at this;simp at this;omega
  have jx:=gf (n:=7) (by omega) fZ.1 fZ.2 hB;have q3:=akN (λv=>hB.np v)
  simp[yH,cT,cR,f151,cp,g6,q3];exact qW ⟨_,jx,kT _ _⟩
 have xb:∀fr h y,fr.length=36->gt fr 0= .ls 1 [[.ls 10 RA za],[.ls 10 RB zb]] true->gt fr 6=y->(m=0/\y= .sc (.slice none 0 0)\/∃Z:LA,Z.length=m*10/\0<m/\y= .sl 0 10 0 0 false/\h=[.row Z])->∃r h',dT [.tmp 2] (M (.seq (cL (cT 4 yH)) (cT 5 yH)) (fr,h))=some (r,h')/\∃r',Ae.da h' 8 r=some r'/\EM 10 r'= .ls 10 (RA++RB) false:=by
  intro fr h y cp g0 g6 hy;generalize cT 5 yH=Z5 at BO|-;simp[yH,cT,cR,cL,f151,cp,g0];generalize cU:M (.loop _) _=XX;refine gk cU
   (λi st cD=>st.length=36/\gt st 25= .ls 1 [[.ls 10 RA za],[.ls 10 RB zb]] true/\gt st 26=(2:Int)/\gt st 27=i/\∃y,gt st 6=y/\(m=0/\y= .sc (.slice none 0 0)\/0<m/\y= .sl 0 10 0 (vW RA RB i).length false/\∃Z:LA,Z.length=(m-(vW RA RB i).length)*10/\cD=[.row ((vW RA RB i).flatten++Z)]))
   (λo st cD=>o= .exit 2/\st.length=36/\∃y,gt st 6=y/\(m=0/\y= .sc (.slice none 0 0)\/0<m/\y= .sl 0 10 0 m false/\cD=[.row (RA++RB).flatten]))
   2 (by decide) ⟨by simp[cp],by simp[cp],by simp[cp],by simp[cp],y,by simp[g6],by
    rcases hy with⟨h0,rfl⟩|⟨Z,hZ,h0,rfl,rfl⟩
    .exact .inl ⟨h0,rfl⟩
    .exact .inr ⟨h0,by simp[vW],Z,by simp[vW,hZ]⟩⟩ ?_ ?_
  .clear cU XX hy;rintro i fr h cP ⟨cp,g25,Wv,Ww,y,g6,hy⟩;rcases hy with⟨h0,rfl⟩|⟨h0,rfl,Z,hZ,rfl⟩
   .have ha:RA=[]:=Xp.1 (by omega);have hb:RB=[]:=Xp.1 (by omega);have hap:∀za:Bool,fg cx h 52 (.sc (.slice none 0 0)) (.ls 10 [] za)=some (.sc (.slice none 0 0),h):=λza=>by
     simp[fg,Ej,gV]
    subst ha;subst hb;subst h0;have Rx:i=0\/i=1\/i=2:=by omega
    rcases Rx with rfl|rfl|rfl
    .simp[cp,g25,Wv,Ww,g6,hap,tV]
    .simp[cp,g25,Wv,Ww,g6,hap,hf2]
    .simp[cp,Wv,Ww,g6]
   .have Rx:i=0\/i=1\/i=2:=by omega
    rcases Rx with rfl|rfl|rfl
    .have hap:=Hf (t:=52) (sz:=10) Ej rfl [] RA Z za (λ_ h=>by cases h) ha1 (by simp[vW]at hZ;rw[hZ];exact Nat.mul_le_mul_right _ (by omega));simp[vW]at g6 hap hZ;have hZ':(Z.drop (RA.length*10)).length=(m-RA.length)*10:=by rw[List.length_drop,hZ,Nat.mul_sub_right_distrib]
     simp[cp,g25,Wv,Ww,g6,vW,hap,tV,h0];rw[List.length_drop]at hZ';exact hZ'
    .have hap:=Hf (t:=52) (sz:=10) Ej rfl RA RB Z zb ha1 Py (by simp[vW]at hZ;rw[hZ];exact Nat.mul_le_mul_right _ (by omega));simp[vW]at g6 hap hZ;have hZ':(Z.drop (RB.length*10)).length=(m-(RA.length+RB.length))*10:=by rw[List.length_drop,hZ,<-Nat.mul_sub_right_distrib];omega
     simp[cp,g25,Wv,Ww,g6,vW,hap,hf2,h0];rw[List.length_drop]at hZ';exact hZ'
    .have hZ0:Z=[]:=Xp.1 (by simp[vW]at hZ;omega);subst hZ0;simp[vW]at g6;simp[cp,Wv,Ww,g6,vW,h0,hmm]
  .rintro o cG h' rfl ⟨rfl,cp,y,g6,hy⟩;simp;exact BO cG h' y cp g6 hy
 have tJ:∀fr h,fr.length=36->gt fr 0= .ls 1 [[.ls 10 RA za],[.ls 10 RB zb]] true->gt fr 3= .sc (.int .i64 (m:Nat))->h=[]->∃r h',dT [.tmp 2] (M (.seq (cL (cT 3 yH)) (.seq (cL (cT 4 yH)) (cT 5 yH))) (fr,h))=some (r,h')/\∃r',Ae.da h' 8 r=some r'/\EM 10 r'= .ls 10 (RA++RB) false:=by
  rintro fr _ cp g0 g3 rfl;generalize Code.seq (cL (cT 4 yH)) (cT 5 yH)=Z5 at xb|-;by_cases h0:m=0
  .subst h0;have f:=fG0 true [];have s4:=λfr cp g0 g6=>xb fr [] (.sc (.slice none 0 0)) cp g0 g6 (.inl ⟨rfl,rfl⟩)
   simp at g3;simp[yH,cT,cR,cL,f151,cp,g3,f];exact s4 _ (by simp[cp]) (by simp[g0]) (by simp[cp])
  .have f:=hgm h0;have hZl:((List.range m).flatMap λ_=>([.sc (.string ⟨#[]⟩),.sc (.int .i64 0),.sc (.int .i64 0),.sc (.int .i64 0),.sc (.int .i64 0),.sc (.string ⟨#[]⟩),.sc (.slice none 0 0),.sc (.string ⟨#[]⟩),.sc (.bool false),.sc (.slice none 0 0)]:LA)).length=m*10:=by
    rw[List.length_flatMap];simp[List.map_const']
   generalize((List.range m).flatMap λ_=>([.sc (.string ⟨#[]⟩),.sc (.int .i64 0),.sc (.int .i64 0),.sc (.int .i64 0),.sc (.int .i64 0),.sc (.string ⟨#[]⟩),.sc (.slice none 0 0),.sc (.string ⟨#[]⟩),.sc (.bool false),.sc (.slice none 0 0)]:LA))=Z at f hZl;have s4:=λfr cp g0 g6=>xb fr [.row Z] (.sl 0 10 0 0 false) cp g0 g6 (.inr ⟨Z,hZl,by omega,rfl,rfl⟩)
   simp at f;simp[yH,cT,cR,cL,f151,cp,g3,f];exact s4 _ (by simp[cp]) (by simp[g0]) (by simp[cp])
 generalize Code.seq (cL (cT 3 yH)) (.seq (cL (cT 4 yH)) (cT 5 yH))=Z3 at tJ|-;simp[yH,cT,cR,cL,f151];generalize cU:M (.loop _) _=XX;refine gk cU
  (λi st cD=>st.length=36/\gt st 0= .ls 1 [[.ls 10 RA za],[.ls 10 RB zb]] true/\gt st 9= .ls 1 [[.ls 10 RA za],[.ls 10 RB zb]] true/\gt st 10=(2:Int)/\gt st 11=i/\gt st 3= .sc (.int .i64 (JW RA.length RB.length i:Nat))/\cD=[])
  (λo st cD=>o= .exit 0/\st.length=36/\gt st 0= .ls 1 [[.ls 10 RA za],[.ls 10 RB zb]] true/\gt st 3=m/\cD=[])
  2 (by decide) ⟨by simp,by simp,by simp,by simp,by simp,by simp[JW],rfl⟩ ?_ ?_
 .clear cU XX;rintro i fr h cP ⟨cp,g0,g9,g10,g11,g3,rfl⟩;have Rx:i=0\/i=1\/i=2:=by omega
  rcases Rx with rfl|rfl|rfl
  .simp[JW]at g3;simp[cp,g0,g9,g10,g11,g3,JW,tV,BL,hna]
  .simp[JW]at g3;simp[cp,g0,g9,g10,g11,g3,JW,hf2,IP,hn0]
   exact_mod_cast hmm.symm
  .simp[JW,hmm]at g3;simp[cp,g0,g10,g11,g3]
 .rintro o cG h' rfl ⟨rfl,cp,g0,g3,hh⟩;simp;exact tJ cG h' cp g0 g3 hh
end
def abq(M:Nat)(b:Bool)(k n d:Int)(s:ByteArray)(h:Hp):cu cx (M+5) b 150 [.ls 5 [[.sc (.int .i64 k),.sc (.int .i64 n),.sc (.int .i64 d),.sc (.string s),.ls 5 [] false]] true] h=some (.ag [(8:Int),(0:Int),(0:Int),.sc (.string ⟨#[]⟩),.ls 5 [[.sc (.int .i64 k),.sc (.int .i64 n),.sc (.int .i64 d),.sc (.string s),.ls 5 [] false]] false],h):=by
 kernel_rfl
section
attribute [local simp] ew eY
def NA(q:Pp):Bool:=decide (q.e.op=1) && mP q.e.v
def fY :List Pp->Nat->Option Nat
 | [],_=>none
 |q::l,i=>if NA q=true then some i else fY l (i+1)
def rF(l:List Pp):List Pr:=l.map λq=>ij 3 q.key
def oB(l:List ByteArray):List Pr:=l.map λs=>ij 2 s
def FM(x:Np):List Pr:=
 if x.labels.length=0 then[ij 1 mI]++(oB x.labels++rF x.props)
 else match fY x.props 0 with
  |none=>oB x.labels++rF x.props
  |some j=>match x.labels,x.props[j]? with
   |s::rest,some q=> [⟨4,s,q.key,q.e.v⟩]++(oB rest++rF (x.props.take j++x.props.drop (j+1)))
   |_,_=> []
def sf :∀(l:List Pp)(i j:Nat),fY l i=some j->i<=j/\∃q,l[j-i]?=some q/\NA q=true
 | [],i,j,h=>by cases h
 |
  q::l,i,j,h=>by
  rw[fY]at h;split at h
  .rename_i hq;cases h;exact⟨Yq _,q,by simp,hq⟩
  .obtain⟨h1,q',h2,h3⟩:=sf l (i+1) j h;refine⟨by omega,q',?_,h3⟩;rw[show j-i=(j-(i+1))+1 by omega];exact h2
def C5(p:LA->Bool):∀(l:List Pp)(i:Nat),(∀q∈l,p (eF q)=NA q)->Aj p (jw l) (i:Nat)=match fY l i with|some j=>(j:Int)|none=> -1
 | [],i,h=>rfl
 |
  q::l,i,h=>by
  have ih:=C5 p l (i+1) (λx hx=>h x (by simp[hx]));rw[show jw (q::l)=eF q::jw l from rfl,Aj,fY,h q (by simp)];cases NA q
  .rw[cv (by simp),cv (by simp)];exact ih
  .rw[cw rfl,cw rfl]
def NB{v:V}(h:mP v=true)(hg:CT v):∃k n d s,v= .mk k n d s false []:=by
 obtain⟨k,n,d,s,z,l⟩:=v;rw[CT]at hg;obtain⟨_,_,_,_,_,rfl,_⟩:=hg;unfold mP k_ at h;simp only[V.k,Zh,Yx]at h;obtain⟨h1,hk⟩:=h;have h8:k≠8:=by rintro rfl;simp at hk
 have h7:k≠7:=by rintro rfl;simp at hk
 rw[px]at h1;simp only[Zh,Yx,Zy,List.isEmpty_iff]at h1;have:l=[]:=by
  rcases h1.1.2 with(h|h)|hl
  .exact absurd h h8
  .exact absurd h h7
  .exact hl
 subst this;exact⟨_,_,_,_,rfl⟩
def Ry(N D:Nat)(v:V)(hd:kj v<=D)(hb:oK v)(b:Bool)(h:Hp):cu cx (N+2*D+5) b 149 [.ag (enc v)] h=some (.sc (.bool (mP v)),h):=by
 have hv:=λb h=>pK N D v hd hb b h
 have hc:[AV.ag (enc v)].all calm=true:=l8 v;refine fU (n:=N+2*D+4) f149 [.tmp 2] hc rfl ?_ b h;clear hc;unfold mP;generalize k_ v=K,N+2*D+4=M at hv;cases v with
 |mk k n d s z l=>
  simp only[V.k];rw[fJ]at hv;have he:enc (.mk k n d s z l)=[.sc (.int .i64 k),.sc (.int .i64 n),.sc (.int .i64 d),.sc (.string s),gY z l]:=rfl;rw[he];clear he;generalize gY z l=L at hv;by_cases h1:k=1
  .subst h1;cases K<;>simp[f149,hv]
  by_cases h2:k=2
  .subst h2;cases K<;>simp[f149,hv]
  by_cases h4:k=4
  .subst h4;cases K<;>simp[f149,hv]
  cases K<;>simp[f149,h1,h2,h4]
def aaa(N D:Nat)(b:Bool)(q:Pp)(h:Hp)(hq:ke D q.e):cu cx (N+2*D+6) b 148 [.ag (eF q)] h=some (.sc (.bool (NA q)),h):=by
 have dL:[AV.ag (eF q)].all calm=true:=by
  have h0:=dR q.e;simp[eF,calm]at h0|-;exact h0
 refine fU (n:=N+2*D+5) f148 [.tmp 2] dL rfl ?_ b h;obtain⟨key,e⟩:=q;obtain⟨op,v,nm,ds,ks⟩:=e;rw[ke]at hq;have ae:=λb h=>Ry N D v hq.1.1 (Ad hq.1.2) b h
 have hv:=jN v;unfold NA eF;simp only[Ep.op,Ep.v];rw[cM];generalize mP v=w,N+2*D+5=M at ae|-;generalize cZ ks=rk;obtain⟨a1,a2,a3,a4,a5,he⟩:∃a1 a2 a3 a4 a5,enc v=[a1,a2,a3,a4,a5]:=by
  match enc v,hv with
  | [a1,a2,a3,a4,a5],_=>exact⟨_,_,_,_,_,rfl⟩
 rw[he]at ae|-;by_cases ho:op=1
 .subst ho;simp[f148,ae]
 .simp[f148,ho]
def adP(N D:Nat)(b:Bool)(l:List Pp)(h:Hp)(hl:l.length<=10^9)(hb:∀q∈l,ke D q.e):cu cx (N+2*D+7) b 147 [.ls 10 (jw l) false,.fn 148 []] h=some (.sc (.int .i64 (match fY l 0 with|some j=>(j:Int)|none=> -1)),h):=by
 have hex:∃p:LA->Bool,∀q∈l,p (eF q)=NA q:=by
  refine⟨λr=>match cu cx (N+2*D+6) true 148 [.ag r] []with|some (.sc (.bool q),_)=>q|_=>false,λq hq=>?_⟩;simp only[aaa N D true q [] (hb q hq)]
 obtain⟨p,hp⟩:=hex;have ae:=aa9 (N+2*D+6) b 148 (jw l) p false h (λr hr=>by obtain⟨x,_,rfl⟩:=Yf.1 hr;exact nh x) (by rw[dP];omega) (λr hr b h=>by
  obtain⟨x,hx,rfl⟩:=Yf.1 hr;rw[hp x hx];exact aaa N D b x h (hb x hx))
 rw[show(0:Int)=((0:Nat):Int)from rfl,C5 p l 0 hp]at ae;exact ae
def Rz(l:List ByteArray):(oB l).length=l.length:=by simp[oB]
def LH(x:Np):(FM x).length<=1+x.labels.length+x.props.length:=by
 unfold FM;split
 .simp[rF,oB]<;>omega
 .split
  .simp[rF,oB]<;>omega
  .split
   .rename_i j _ s rest q h1 h2;rw[h1];have:=(Za.1 h2).1;simp[rF,oB];omega
   .simp
def Wx(N D M id:Nat)(t:Bool)(l:List Pr)(x:Np)(h:Hp)(hS:RS id l h)(h1:x.labels.length<=10^8)(h2:x.props.length<=10^8)(hl:l.length+1+x.labels.length+x.props.length<=10^9)(hb:∀q∈x.props,ke D q.e)(hM:M=N+2*D+7):
 ∃h',cu cx (M+1) t 85 [.pt id 0,.ag (dD x)] h=some (.tp [],h')/\RS id (l++FM x) h'/\KR id h h':=by
 rw[rr (n:=M) f85 []];have fa:=λ(l:List Pr)k nm h hS hl=>kL (N+2*D+6) true id l k nm h hS hl
 have fix:=λb h=>adP N D b x.props h (by omega) hb
 have abr:=λ(A B:List Pp)za zb b h hl=>Ru (N+2*D+5) b A B za zb h hl
 have adQ:=λk n d s b h=>abq (N+2*D+2) b k n d s h
 rw[show N+2*D+6+1=M by omega]at fa;rw[<-hM]at fix;rw[show N+2*D+5+2=M by omega]at abr;rw[show N+2*D+2+5=M by omega]at adQ;show PR id (l++FM x) h (M FL _);rw[show FL= .seq (cL (cT 0 FL)) (.seq (cL (cT 1 FL)) (.seq (cL (cT 2 FL)) (.seq (cL (cT 3 FL)) (cT 4 FL)))) by kernel_rfl];have du:=hS.lt;have Rm:=hS.app [.row (dD x)];have vT:KR id h (h++[.row (dD x)]):=KR.app _ du;have gj:(h++[eV.row (dD x)])[h.length]?=some (.row (dD x)):=by simp
 have rest:∀(l1:List Pr)(ZN:List ByteArray)(ps:List Pp)z z' fr h',RS id l1 h'->KR id h h'->l1++(oB ZN++rF ps)=l++FM x->l1.length<=l.length+1->ZN.length<=x.labels.length->ps.length<=x.props.length->fr.length=83->gt fr 0= .pt id 0->gt fr 4= .ls 1 (eE ZN) z->gt fr 5= .ls 10 (jw ps) z'->PR id (l++FM x) h (M (.seq (cL (cT 3 FL)) (cT 4 FL)) (fr,h')):=by
  intro l1 ZN ps z z' fr h' hS hK hT wN hla Pz cp g0 g4 g5;refine ahh M id ZN (eE ZN) z _ _ h _ (cI _) (iW _) (by omega) (by omega) l1 (by omega) ?_ fr h' hS hK cp g0 g4 g5;rintro fr h' _ hS hK rfl cp g0 g5;refine ahi M id ps (jw ps) z' _ h (dP _) (jf _) (by omega) (by omega) _ (by simp;omega) ?_ fr h' hS hK cp g0 g5;rw[Zp];exact hT
 generalize Code.seq (cL (cT 3 FL)) (cT 4 FL)=Z at rest|-;have Lu:=cI x.labels;by_cases h0:x.labels.length=0
 .obtain⟨h',ae,ig,hK'⟩:=fa l 1 mI _ Rm (by omega);have rs:=λfr=>rest _ x.labels x.props false false fr h' ig (vT.trans hK') (by unfold FM;rw[cw h0];simp) (by simp) (Yq _) (Yq _)
  unfold mI at ae;unfold dD at *;generalize eE x.labels=rt,jw x.props=rp at *;simp[FL,cT,cR,cL,f85,Lu,h0,ae];exact rs _ (by simp) (by simp) (by simp) (by simp)
 have tU:¬(x.labels.length:Int)=0:=by omega
 cases hfb:fY x.props 0 with
 |
  none=>
  rw[hfb]at fix;have rs:=λfr=>rest l x.labels x.props false false fr _ Rm vT (by unfold FM;rw[cv h0,hfb]) (by omega) (Yq _) (Yq _)
  simp only at fix;unfold dD at *;generalize eE x.labels=rt,jw x.props=rp at *;simp[FL,cT,cR,cL,f85,Lu,h0,fix];exact rs _ (by simp) (by simp) (by simp) (by simp)
 |some j=>
  rw[hfb]at fix;simp only at fix;obtain⟨_,q,hj,oy⟩:=sf x.props 0 j hfb;rw[Nat.sub_zero]at hj;have lD:=(Za.1 hj).1;have hbq:=hb q (Zi hj);have hrp:=jf x.props j;rw[hj,Yw]at hrp;have adR:=gA hrp
  have wM:=dP x.props;obtain⟨s,rl,RD⟩:∃s r,x.labels=s::r:=by
   match hx:x.labels,h0 with
   |s::r,_=>exact⟨s,r,rfl⟩
   | [],h0=>exact absurd (by simp) h0
  have rs:=λz z' fr h' hS hK=>rest (l++[⟨4,s,q.key,q.e.v⟩]) rl (x.props.take j++x.props.drop (j+1)) z z' fr h' hS hK (by unfold FM;rw[cv h0,hfb];simp only[RD,hj];simp) (by simp) (by rw[RD];simp) (by simp;omega)
  have fc:=λza zb b h=>abr (x.props.take j) (x.props.drop (j+1)) za zb b h (by simp;omega)
  have e1:jw (x.props.take j)=(jw x.props).take j:=by simp[jw,List.map_take]
  have e2:jw (x.props.drop (j+1))=(jw x.props).drop (j+1):=by simp[jw,Xn]
  rw[e1,e2]at fc;generalize jw (x.props.take j++x.props.drop (j+1))=RC at fc rs;clear rest abr e1 e2 fa tU;obtain⟨key,op,v,nm,ds,ks⟩:=q;rw[ke]at hbq;have ahl:op=1/\mP v=true:=by
   unfold NA at oy;dsimp only[Ep.op,Ep.v]at oy;rw[Zh]at oy;exact⟨of_decide_eq_true oy.1,oy.2⟩
  dsimp only[Ep.op,Ep.v]at rs;clear oy;obtain⟨rfl,hpv⟩:=ahl;obtain⟨vk,vn,vd,vs,rfl⟩:=NB hpv hbq.1.2;have hep:eF ⟨key,.mk 1 (.mk vk vn vd vs false []) nm ds ks⟩=[.sc (.string key),.sc (.int .i64 1),.sc (.int .i64 vk),.sc (.int .i64 vn),.sc (.int .i64 vd),.sc (.string vs),.ls 5 [] false,.sc (.string nm),.sc (.bool ds),.ls 9 (cZ ks) false]:=by
   simp[eF,cM,enc,zT,fj]
  have heP:eQ ⟨4,s,key,.mk vk vn vd vs false []⟩=[.sc (.int .i64 4),.sc (.string s),.sc (.string key),.sc (.int .i64 vk),.sc (.int .i64 vn),.sc (.int .i64 vd),.sc (.string vs),.ls 5 [] false]:=by
   simp[eQ,enc,zT,fj]
  rw[hep]at hrp adR;obtain⟨y,tU,hB,hn⟩:=Rm;obtain⟨i1,h1,b1,b2,b3,b4⟩:=G3 (t:=82) ZV rfl _ (eQ ⟨4,s,key,.mk vk vn vd vs false []⟩) true (gN l) y hB (eI _) (lM l) (by omega) (by rw[ef];omega) (by omega);obtain⟨r1,r2⟩:=G4 ⟨4,s,key,.mk vk vn vd vs false []⟩ tU hn b2 b3 b4;have rs2:=λz z' fr=>rs z z' fr _ r1 (vT.trans r2)
  have jv:=b3 id _ tU (λk n e=>(hn k n e).symm);have q1:=akN (λv=>hB.np v)
  have q2:=akO (λv=>hB.np v)
  have Wm:cls y=some [y]:=by rcases hB with⟨_,rfl⟩|⟨_,j,rfl,_⟩<;>rfl
  rw[heP]at b1;have hlr:eE x.labels=[.sc (.string s)]::eE rl:=by rw[RD];rfl
  have RG:j<=1000000000000000:=by omega
  clear rs r1 r2 b2 b3 hb;unfold dD at *;simp only[hlr]at b1 tU|-;clear gj vT hS;generalize eE rl=rt at *;have hrt:¬(rt.length:Int)+1=0:=by omega
  generalize jw x.props=rp,(gN l).length=m at *;rw[<-wM]at lD;have UN:j<=rp.length:=by omega
  have AR:(0:Int)<=(j:Int)+1:=by omega
  have CC:j+1<=rp.length:=by omega
  have hdr:List.take (rp.length-(j+1)) (List.drop (j+1) rp)=List.drop (j+1) rp:=Yy (by simp);have hf:=cz RG;simp[FL,cT,cR,cL,f85,hrt,AR,UN,CC,hdr,fix,adR,lD,hf,adQ,fc,tU,jv,q2,b1,cF,lY,iC,chunk,calm,qi];exact rs2 false false _ (by simp) (by simp) (by simp) (by simp)
noncomputable def Hg :Code:=(f43.body).getD .skip
def qK(kd:Int)(K:gM)(x:Np):List Pr:=tL x.props++(if kd=5 then(if dn x.var ⟨#[]⟩=true then[]else if db K x.var=0 then[]else[ij 1 mI])else FM x)
def si(kd:Int)(x:Gp):List Pr:=tL x.props++(if kd=5 then[]else vU x)
def ml(kd:Int)(K:gM)(p:Tp):List Pr:=p.nodes.flatMap (qK kd K)++p.cE.flatMap (si kd)
def ue(x:Np):Nat:=1+x.labels.length+x.props.length+2*nj x.props
def vX(x:Gp):Nat:=1+x.types.length+x.props.length+2*nj x.props
def vm(p:Tp):Nat:=(p.nodes.map ue).sum+(p.cE.map vX).sum
def LI(x:Gp):(vU x).length<=1+x.types.length+x.props.length:=by
 unfold vU;split<;>simp<;>omega
def AW(kd:Int)(K:gM)(x:Np):(qK kd K x).length<=ue x:=by
 have h1:=td x.props;have h2:=LH x;unfold qK ue;rw[Zu]
 repeat' split
 all_goals simp
 all_goals omega
def Hh(kd:Int)(x:Gp):(si kd x).length<=vX x:=by
 have h1:=td x.props;have h2:=LI x;unfold si vX;rw[Zu];split
 .simp;omega
 .omega
def brN(D d:Nat)(x:Np):Prop:=(∀q∈x.props,oz D d q.e)/\x.labels.length<=10^8/\x.props.length<=10^8
def brG(D d:Nat)(x:Gp):Prop:=(∀q∈x.props,oz D d q.e)/\x.types.length<=10^8/\x.props.length<=10^8
def brT(D d:Nat)(p:Tp):Prop:=(∀x∈p.nodes,brN D d x)/\(∀x∈p.cE,brG D d x)/\p.nodes.length<=10^8/\p.cE.length<=10^8
def SR(id hc jp:Nat)(yk:AV)(rp:List LA)(m i:Nat)(row ahm:LA)(fr:LA)(h:Hp):Prop:=fr.length=70/\gt fr 0= .pt id 0/\gt fr 2=yk/\gt fr 4= .pt hc 0/\gt fr 7= .pt jp 0/\gt fr 13= .ls 3 rp false/\gt fr 14=m/\gt fr 15=i/\(h[hc]?=some (.row row)/\pP id hc h)/\h[jp]?=some (.row ahm)/\pP id jp h
def PI(S:LA->Hp->Prop)(id:Nat)(T:List Pr)(h0:Hp)(r:Option (Out × St)):Prop:=∃cG h',r=some (.normal,(cG,h'))/\S cG h'/\RS id T h'/\KR id h0 h'
def kR{id j:Nat}{h:Hp}(k:Hp)(du:id<h.length)(hf:pP id j h):pP id j (h++k):=⟨hf.1,λm e=>hf.2 m (by rw[Zd du]at e;exact e)⟩
def RH(D d M id hc jp:Nat)(K:gM)(yk:AV)(my:yk=eH 2 (ib K))(rG:K.length<=24)(kd:Int)(rp:List LA)(m i:Nat)(row:LA)(cY:row[0]?=some (.sc (.int .i64 kd)))(vr:ByteArray)(rn re:List LA)(l:List Np)(hq:rn.length=l.length)(hg:∀i:Nat,rn[i]?=(l[i]?).map dD)(hl:l.length<=10^8)(hb:∀x∈l,brN D d x)(hn:2*D+d+20<=M)(h0:Hp)(l0:List Pr)(ki:l0.length+(l.map ue).sum<=1000000000)(fr:LA)(h:Hp)(hS:SR id hc jp yk rp m i row [vr,.ls 3 rn false,.ls 7 re false] fr h)(hR:RS id l0 h)(hK:KR id h0 h):
 PI (SR id hc jp yk rp m i row [vr,.ls 3 rn false,.ls 7 re false]) id (l0++l.flatMap (qK kd K)) h0 (M (cL (cR (cL (cL (cR (cR (cL (cL (cT 2 Hg))))))))) (fr,h)):=by
 obtain⟨k1,e1⟩:∃k,M=k+1:=⟨M-1,by omega⟩;have fpp:=λ(l:List Pr)ps h hS hb oy hl=>G7 D d M true id l ps h hS hb oy hl (by omega)
 have fa:=λ(l:List Pr)k nm h hS hl=>kL k1 true id l k nm h hS hl
 have fk:=λb nm h=>CY k1 b K nm h (by omega)
 have fno:=λ(l:List Pr)x h hS h1 h2 hl hb=>Wx (M-1-2*D-7) D (M-1) id true l x h hS h1 h2 hl hb (by omega)
 rw[<-e1]at fa fk;rw[show M-1+1=M by omega]at fno;rw[<-my]at fk;have hyp:∀v,yk≠ .pn v:=λv=>by rw[my];unfold eH;split<;>simp
 have q2:=akN hyp
 clear e1 hn my;obtain⟨cp,g0,g2,g4,g7,g13,g14,g15,⟨gc,lF⟩,gp,C6⟩:=hS;generalize dN:l0++l.flatMap (qK kd K)=TL;simp[Hg,cT,cR,cL,f43,cp,g7,gp,hq];generalize cU:M (.loop _) _=XX;refine Lk cU
  (λi' st=>SR id hc jp yk rp m i row [vr,.ls 3 rn false,.ls 7 re false] st.1 st.2/\gt st.1 20= .ls 3 rn false/\gt st.1 21=l.length/\gt st.1 22=i'/\∃l',RS id l' st.2/\KR id h0 st.2/\l'.length+((l.drop i').map ue).sum<=1000000000/\l'++(l.drop i').flatMap (qK kd K)=TL)
  (λo st=>o= .exit 2/\SR id hc jp yk rp m i row [vr,.ls 3 rn false,.ls 7 re false] st.1 st.2/\RS id TL st.2/\KR id h0 st.2)
  l.length (by simp;omega) ⟨⟨by simp[cp],by simp[g0],by simp[g2],by simp[g4],by simp[g7],by simp[g13],by simp[g14],by simp[g15],⟨gc,lF⟩,gp,C6⟩,by simp[cp],by simp[cp],by simp[cp],l0,hR,hK,ki,dN⟩ ?_ ?_
 .clear cU XX dN hR hK cp g0 g2 g4 g7 g13 g14 g15 gc lF gp C6 ki;rintro i' fr hp cP ⟨⟨cp,g0,g2,g4,g7,g13,g14,g15,⟨gc,lF⟩,gp,C6⟩,h1,h2,h3,l',hR,hK,iF,dN⟩;simp only at cp g0 g2 g4 g7 g13 g14 g15 gc lF gp C6 h1 h2 h3 hR hK;by_cases hi:i'<l.length
  .obtain⟨x,hx,hr,cC⟩:=il hg hi;have dB:=Zi hx;have fH:i'<=1000000000000000:=by omega
   rw[cH hx,Yn,Yo]at iF;rw[cH hx,Ym,<-Zp]at dN;have du:=hR.lt;obtain⟨ry,Py,Li⟩:=hb x dB;have NC:=hR.app [.row (dD x)];have AK:=hK.trans (KR.app (id:=id) [.row (dD x)] du);have JX:=cJ [.row (dD x)] gc;have uL:=kR [.row (dD x)] du lF;have rC:=cJ [.row (dD x)] gp;have JY:=kR [.row (dD x)] du C6;have gx1:(hp++[eV.row (dD x)])[hp.length]?=some (.row (dD x)):=by simp
   have abt:=hR.free [.row (dD x)];have U2:ue x=1+x.labels.length+x.props.length+2*nj x.props:=rfl;obtain⟨ha,ae,hRb,GQ⟩:=fpp l' x.props _ NC ry (by omega) (by omega);obtain⟨IQ,Cj⟩:=GQ _ _ JX uL;obtain⟨Ci,Ck⟩:=GQ _ _ rC JY;obtain⟨PA,ahn⟩:=GQ _ _ gx1 abt;have FK:=AK.trans GQ;have hlx:(l'++tL x.props).length+(1+x.labels.length+x.props.length)+((l.drop (i'+1)).map ue).sum<=1000000000:=by have:=td x.props;rw[Zu];omega
   have yI:=λ(R:List Pr)(hR:R.length<=1+x.labels.length+x.props.length)=>(show(l'++tL x.props++R).length+((l.drop (i'+1)).map ue).sum<=1000000000 by rw[Zu];omega)
   unfold qK at dN;rw[<-Zp]at dN;have hlp:=Rz x.labels;by_cases k5:kd=5
   .rw[cw k5]at dN;by_cases he:dn x.var ⟨#[]⟩=true
    .rw[cw he]at dN;have x_:=yI [] (by simp);rw[Yk]at dN x_;unfold dD at hr cC ae PA;generalize eE x.labels=rl,jw x.props=V0 at *;have hf:=cz fH;subst k5;simp[cp,g0,g4,h1,h2,h3,hi,hq,cC,qC,ae,IQ,cY,PA,hf,he];exact⟨⟨by simp[cp],by simp[g0],by simp[g2],by simp[g4],by simp[g7],by simp[g13],by simp[g14],by simp[g15],⟨IQ,Cj⟩,Ci,Ck⟩,_,hRb,FK,by simpa only[Xn]using x_,dN⟩
    rw[cv he]at dN;have fk1:=fk true x.var ha;by_cases hk:db K x.var=0
    .rw[cw hk]at dN;rw[hk]at fk1;have x_:=yI [] (by simp);rw[Yk]at dN x_;unfold dD at hr cC ae PA;generalize eE x.labels=rl,jw x.props=V0 at *;have hf:=cz fH;subst k5;simp[cp,g0,g2,g4,h1,h2,h3,hi,hq,cC,qC,ae,IQ,cY,PA,hf,he,q2,fk1];exact⟨⟨by simp[cp],by simp[g0],by simp[g2],by simp[g4],by simp[g7],by simp[g13],by simp[g14],by simp[g15],⟨IQ,Cj⟩,Ci,Ck⟩,_,hRb,FK,by simpa only[Xn]using x_,dN⟩
    .rw[cv hk]at dN;obtain⟨hd,af,hRd,EG⟩:=fa _ 1 mI ha hRb (by omega);obtain⟨gc3,JZ⟩:=EG _ _ IQ Cj;obtain⟨Rg,RI⟩:=EG _ _ Ci Ck;have hKe:=FK.trans EG;have Hj:=yI [ij 1 mI] (by rw[List.length_singleton];omega);unfold dD at hr cC ae PA;unfold mI at af;generalize eE x.labels=rl,jw x.props=V0,db K x.var=kk at *;have hf:=cz fH;subst k5;simp[cp,g0,g2,g4,h1,h2,h3,hi,hq,cC,qC,ae,IQ,cY,PA,hf,he,q2,fk1,hk,af];exact⟨⟨by simp[cp],by simp[g0],by simp[g2],by simp[g4],by simp[g7],by simp[g13],by simp[g14],by simp[g15],⟨gc3,JZ⟩,Rg,RI⟩,_,hRd,hKe,by simpa only[Xn]using Hj,dN⟩
   .rw[cv k5]at dN;obtain⟨hd,af,hRd,EG⟩:=fno _ x ha hRb Py Li (by omega) (λq hq=>(ry q hq).2);obtain⟨gc3,JZ⟩:=EG _ _ IQ Cj;obtain⟨Rg,RI⟩:=EG _ _ Ci Ck;have hKe:=FK.trans EG;have Hj:=yI _ (LH x);unfold dD at hr cC ae PA af;generalize eE x.labels=rl,jw x.props=V0 at *;have hf:=cz fH;simp[cp,g0,g4,h1,h2,h3,hi,hq,cC,qC,ae,IQ,cY,PA,hf,k5,af];exact⟨⟨by simp[cp],by simp[g0],by simp[g2],by simp[g4],by simp[g7],by simp[g13],by simp[g14],by simp[g15],⟨gc3,JZ⟩,Rg,RI⟩,_,hRd,hKe,by simpa only[Xn]using Hj,dN⟩
  .have iJ:i'=l.length:=Yb cP (Ya hi);subst iJ;rw[Yc,Xo,Yk]at dN;subst dN;simp[cp,h2,h3];exact⟨⟨by simp[cp],by simp[g0],by simp[g2],by simp[g4],by simp[g7],by simp[g13],by simp[g14],by simp[g15],⟨gc,lF⟩,gp,C6⟩,hR,hK⟩
 .rintro o cG h' rfl ⟨rfl,hS,hR,hK⟩;exact⟨cG,h',by simp,hS,hR,hK⟩
def RJ(D d M id hc jp:Nat)(K:gM)(yk:AV)(my:yk=eH 2 (ib K))(rG:K.length<=24)(kd:Int)(rp:List LA)(m i:Nat)(row:LA)(cY:row[0]?=some (.sc (.int .i64 kd)))(vr:ByteArray)(rn re:List LA)(l:List Gp)(hq:re.length=l.length)(hg:∀i:Nat,re[i]?=(l[i]?).map dE)(hl:l.length<=10^8)(hb:∀x∈l,brG D d x)(hn:2*D+d+20<=M)(h0:Hp)(l0:List Pr)(ki:l0.length+(l.map vX).sum<=1000000000)(fr:LA)(h:Hp)(hS:SR id hc jp yk rp m i row [vr,.ls 3 rn false,.ls 7 re false] fr h)(hR:RS id l0 h)(hK:KR id h0 h)(h9:gt fr 52= .ls 7 re false/\gt fr 53=re.length/\gt fr 54= .sc (.int .i64 (0:Nat))):
 PI (SR id hc jp yk rp m i row [vr,.ls 3 rn false,.ls 7 re false]) id (l0++l.flatMap (si kd)) h0 (M (cR (cR (cR (cL (cL (cR (cR (cL (cL (cT 2 Hg)))))))))) (fr,h)):=by
 obtain⟨k1,e1⟩:∃k,M=k+1:=⟨M-1,by omega⟩;have fpp:=λ(l:List Pr)ps h hS hb oy hl=>G7 D d M true id l ps h hS hb oy hl (by omega)
 have fa:=λ(l:List Pr)k nm h hS hl=>kL k1 true id l k nm h hS hl
 have fno:=λ(l:List Pr)x h hS h1 h2 hl=>Wp M true id l x h hS h1 h2 hl (by omega)
 clear fa e1 hn my;obtain⟨cp,g0,g2,g4,g7,g13,g14,g15,⟨gc,lF⟩,gp,C6⟩:=hS;generalize dN:l0++l.flatMap (si kd)=TL;simp[Hg,cT,cR,cL,f43];generalize cU:M (.loop _) _=XX;refine Lk cU
  (λi' st=>SR id hc jp yk rp m i row [vr,.ls 3 rn false,.ls 7 re false] st.1 st.2/\gt st.1 52= .ls 7 re false/\gt st.1 53=l.length/\gt st.1 54=i'/\∃l',RS id l' st.2/\KR id h0 st.2/\l'.length+((l.drop i').map vX).sum<=1000000000/\l'++(l.drop i').flatMap (si kd)=TL)
  (λo st=>o= .exit 5/\SR id hc jp yk rp m i row [vr,.ls 3 rn false,.ls 7 re false] st.1 st.2/\RS id TL st.2/\KR id h0 st.2)
  l.length (by simp;omega) ⟨⟨by simp[cp],by simp[g0],by simp[g2],by simp[g4],by simp[g7],by simp[g13],by simp[g14],by simp[g15],⟨gc,lF⟩,gp,C6⟩,by simp[h9],by simp[h9,hq],by simp[h9],l0,hR,hK,ki,dN⟩ ?_ ?_
 .clear cU XX dN hR hK cp g0 g2 g4 g7 g13 g14 g15 gc lF gp C6 ki h9;rintro i' fr hp cP ⟨⟨cp,g0,g2,g4,g7,g13,g14,g15,⟨gc,lF⟩,gp,C6⟩,h1,h2,h3,l',hR,hK,iF,dN⟩;simp only at cp g0 g2 g4 g7 g13 g14 g15 gc lF gp C6 h1 h2 h3 hR hK;by_cases hi:i'<l.length
  .obtain⟨x,hx,hr,cC⟩:=il hg hi;have dB:=Zi hx;have fH:i'<=1000000000000000:=by omega
   rw[cH hx,Yn,Yo]at iF;rw[cH hx,Ym,<-Zp]at dN;have du:=hR.lt;obtain⟨ry,Py,Li⟩:=hb x dB;have NC:=hR.app [.row (dE x)];have AK:=hK.trans (KR.app (id:=id) [.row (dE x)] du);have JX:=cJ [.row (dE x)] gc;have uL:=kR [.row (dE x)] du lF;have rC:=cJ [.row (dE x)] gp;have JY:=kR [.row (dE x)] du C6;have gx1:(hp++[eV.row (dE x)])[hp.length]?=some (.row (dE x)):=by simp
   have abt:=hR.free [.row (dE x)];have U2:vX x=1+x.types.length+x.props.length+2*nj x.props:=rfl;obtain⟨ha,ae,hRb,GQ⟩:=fpp l' x.props _ NC ry (by omega) (by omega);obtain⟨IQ,Cj⟩:=GQ _ _ JX uL;obtain⟨Ci,Ck⟩:=GQ _ _ rC JY;obtain⟨PA,ahn⟩:=GQ _ _ gx1 abt;have FK:=AK.trans GQ;have hlx:(l'++tL x.props).length+(1+x.types.length+x.props.length)+((l.drop (i'+1)).map vX).sum<=1000000000:=by have:=td x.props;rw[Zu];omega
   have yI:=λ(R:List Pr)(hR:R.length<=1+x.types.length+x.props.length)=>(show(l'++tL x.props++R).length+((l.drop (i'+1)).map vX).sum<=1000000000 by rw[Zu];omega)
   unfold si at dN;rw[<-Zp]at dN;by_cases k5:kd=5
   .rw[cw k5]at dN;have x_:=yI [] (by simp);rw[Yk]at dN x_;unfold dE at hr cC ae PA;generalize eE x.types=rl,jw x.props=V0 at *;have hf:=cz fH;subst k5;simp[cp,g0,g4,h1,h2,h3,hi,hq,cC,M2,ae,IQ,cY,hf];exact⟨⟨by simp[cp],by simp[g0],by simp[g2],by simp[g4],by simp[g7],by simp[g13],by simp[g14],by simp[g15],⟨IQ,Cj⟩,Ci,Ck⟩,_,hRb,FK,by simpa only[Xn]using x_,dN⟩
   .rw[cv k5]at dN;obtain⟨hd,af,hRd,EG⟩:=fno _ x ha hRb (Yj Py (by omega)) (Yj Li (by omega)) (by omega);obtain⟨gc3,JZ⟩:=EG _ _ IQ Cj;obtain⟨Rg,RI⟩:=EG _ _ Ci Ck;have hKe:=FK.trans EG;have Hj:=yI _ (LI x);unfold dE at hr cC ae PA af;generalize eE x.types=rl,jw x.props=V0 at *;have hf:=cz fH;simp[cp,g0,g4,h1,h2,h3,hi,hq,cC,M2,ae,IQ,cY,PA,hf,k5,af];exact⟨⟨by simp[cp],by simp[g0],by simp[g2],by simp[g4],by simp[g7],by simp[g13],by simp[g14],by simp[g15],⟨gc3,JZ⟩,Rg,RI⟩,_,hRd,hKe,by simpa only[Xn]using Hj,dN⟩
  .have iJ:i'=l.length:=Yb cP (Ya hi);subst iJ;rw[Yc,Xo,Yk]at dN;subst dN;simp[cp,h2,h3];exact⟨⟨by simp[cp],by simp[g0],by simp[g2],by simp[g4],by simp[g7],by simp[g13],by simp[g14],by simp[g15],⟨gc,lF⟩,gp,C6⟩,hR,hK⟩
 .rintro o cG h' rfl ⟨rfl,hS,hR,hK⟩;exact⟨cG,h',by simp,hS,hR,hK⟩
end
end Go.Proofs.YtmocfjnklfpnbaaGreatDoor
namespace Go.Ae
open List
variable {α : Type} {cmp : α -> α -> Int}
def Up(cmp:α->α->Int)(l:List α):Prop:=l.Pairwise λa b=>cmp a b<0
def Up.tail{x:α}{l:List α}(h:Up cmp (x::l)):Up cmp l:=(List.pairwise_cons.1 h).2
end Go.Ae
namespace Go.Ae
open Go List
structure aab {α:Type}(cmp:α->α->Int)(l:List α):Prop where
 irr:∀x∈l,¬cmp x x<0
 tr:∀x∈l,∀y∈l,∀z∈l,cmp x y<0->cmp y z<0->cmp x z<0
 ntr:∀x∈l,∀y∈l,∀z∈l,¬cmp x y<0->¬cmp y z<0->¬cmp x z<0
def RL{m:Nat}{cf:Nat->Nat->Int}(h:Ea m cf):(lZ m cf).Pairwise λi j=>¬cf j.1 i.1<0:=by
 have hs:=(Sort.pdq_sorts _ h (Array.ofFn λi:Fin (m+1)=>i) 0 (m+1) (Lib.bitLen (m+1)) true true (Yt _) (by simp) (Or.inl rfl)).2;have hz:(lZ m cf).length=m+1:=by rw[(od h).length_eq,List.length_ofFn]
 rw[List.pairwise_iff_getElem];intro i j hi hj tC;have:=hs i j (Yt _) tC (by omega);unfold lZ at hi hj;rw[getElem!_pos _ i (by simpa using hi),getElem!_pos _ j (by simpa using hj)]at this;have h2:=of_decide_eq_false this;unfold lZ;rw[Array.getElem_toList,Array.getElem_toList];exact h2
def uM{α:Type}{enc:α->List AV}{s:Nat}(hs:∀x,(enc x).length=s)(rest:List AV):∀(l:List α)(i:Nat)(hi:i<l.length),rowAt s 0 (l.flatMap enc++rest) i=enc l[i]
 |
  x::l,0,_=>by
  unfold rowAt;rw[Ym,Zp,Nat.zero_mul,Xk,Yd,List.take_append_of_le_length (by rw[hs];exact Yq _),<-hs x,Xq];rfl
 |
  x::l,i+1,hi=>by
  have:=uM hs rest l i (by simpa using hi);unfold rowAt at this|-;rw[Ym,Zp,Xh,Nat.one_mul,Xk,Nat.add_comm (i*s),<-List.drop_drop,<-hs x,List.drop_left];rw[Xk,hs x]at *;simpa using this
def Hk{α β:Type}{f:α->Option β}{g:α->β}:∀(l:List α),(∀x∈l,f x=some (g x))->l.mapM f=some (l.map g)
 | [],_=>rfl
 |
  x::l,h=>by
  rw[Zo,h x (by simp),Hk l λy hy=>h y (Yr _ hy)];rfl
def RM{α:Type}[Inhabited α]{call:FuncId->List AV->Hp->Option (AV × Hp)}{k:Nat}{h:Hp}{id:Nat}{b:Bool}{g:FuncId}(enc:α->List AV)(se:α->AV)(cmp:α->α->Int)(l:List α)(rest:List AV)(po:∀x,(enc x).length=nc k)(ej:h[id]?=some (.row (l.flatMap enc++rest)))(cp:l.length<4611686018427387904)(jx:∀x∈l,da (h.set id .dead) 8 (MD k (enc x))=some (se x))(cW:∀x∈l,∀y∈l,∃h',call g [se x,se y] []=some (.sc (.int .i64 (cmp x y)),h'))(hw:aab cmp l):
 ∃r:List α,r ~ l/\(r.Pairwise λa b=>¬cmp b a<0)/\MF call k h [.sl id (nc k) 0 l.length b,.fn g []]=some (.tp [],h.set id (.row (r.flatMap enc++rest))):=by
 cases hl:l with
 |
  nil=>
  subst hl;refine⟨[],List.Perm.refl _,List.Pairwise.nil,?_⟩;unfold MF;have kQ:h.set id (.row (([]:List α).flatMap enc++rest))=h:=by
   apply List.ext_getElem?;intro j;rw[List.getElem?_set];split
   .rename_i e;subst e;have:=(Za.1 ej).1;rw[cw this,ej]
   .rfl
  simp only[ej,List.length_nil,kQ]
 |cons x0 l0=>
  obtain⟨m,hm⟩:∃m,l.length=m+1:=⟨l0.length,by rw[hl];rfl⟩;rw[<-hl];have vj:∀l:List α,(l.flatMap enc).length=l.length*nc k:=λl=>fP po l
  have hss:(List.range (m+1)).mapM (λi=>da (h.set id .dead) 8 (MD k (rowAt (nc k) 0 (l.flatMap enc++rest) i)))=some ((List.range (m+1)).map λi=>se l[i]!):=by
   refine Hk _ λi hi=>?_
   have rN:i<l.length:=by rw[hm];simpa using hi
   rw[uM po rest l i rN,jx _ (List.getElem_mem _),getElem!_pos l i rN]
  have hsd:∀i,i<=m->((List.range (m+1)).map λi=>se l[i]!).getD i .ud=se l[i]!:=λi hi=>by
   simp[List.getD,show i<m+1 by omega]
  have dB:∀i,i<=m->l[i]!∈l:=λi hi=>by rw[getElem!_pos l i (by omega)];exact List.getElem_mem _
  have ML:∀i j,i<=m->j<=m->qp call g ((List.range (m+1)).map λi=>se l[i]!) i j=cmp l[i]! l[j]!:=λi j hi hj=>by
   obtain⟨h',e⟩:=cW _ (dB i hi) _ (dB j hj);unfold qp;rw[hsd i hi,hsd j hj,e]
  have AX:Ea m (qp call g ((List.range (m+1)).map λi=>se l[i]!)):=by
   unfold Ea;have hb:∀i:Fin (m+1),i.1<=m:=λi=>by omega
   constructor
   .intro i;rw[ML _ _ (hb i) (hb i)];exact decide_eq_false (hw.irr _ (dB _ (hb i)))
   .intro i j q h1 h2;rw[ML _ _ (hb _) (hb _)]at h1 h2|-;exact decide_eq_true (hw.tr _ (dB _ (hb _)) _ (dB _ (hb _)) _ (dB _ (hb _)) (of_decide_eq_true h1) (of_decide_eq_true h2))
   .intro i j q h1 h2;rw[ML _ _ (hb _) (hb _)]at h1 h2|-;exact decide_eq_false (hw.ntr _ (dB _ (hb _)) _ (dB _ (hb _)) _ (dB _ (hb _)) (of_decide_eq_false h1) (of_decide_eq_false h2))
  have AY:ME call g ((List.range (m+1)).map λi=>se l[i]!) m=true:=by
   have jB:KZ call g ((List.range (m+1)).map λi=>se l[i]!) m:=⟨λi j hi hj=>by
    rw[ML i j hi hj,hsd i hi,hsd j hj];exact cW _ (dB i hi) _ (dB j hj),AX⟩
   exact Wy jB
  have LJ:=od AX;have aho:(List.ofFn λi:Fin (m+1)=>i).map (λi=>l[i.1]!)=l:=by
   apply List.ext_getElem
   .simp[hm]
   .intro i h1 h2;rw[List.getElem_map,List.getElem_ofFn,getElem!_pos l i h2]
  refine⟨(lZ m (qp call g ((List.range (m+1)).map λi=>se l[i]!))).map (λi=>l[i.1]!),?_,?_,?_⟩
  .exact(LJ.map _).trans (by rw[aho])
  .rw[List.pairwise_map];have:=RL AX;have g:∀{i j:Fin (m+1)},¬qp call g ((List.range (m+1)).map λi=>se l[i]!) j.1 i.1<0->¬cmp l[j.1]! l[i.1]!<0:=λ{i j}q=>by
    rw[ML _ _ (by omega) (by omega)]at q;exact q
   exact List.Pairwise.imp g this
  .unfold MF;simp only[ej,hm];rw[cw ⟨trivial,by rw[Zu,vj,hm];omega,by omega⟩,hss];simp only[AY,if_true];rw[Hl AX];have e1:(lZ m (qp call g ((List.range (m+1)).map λi=>se l[i]!))).flatMap (λi=>rowAt (nc k) 0 (l.flatMap enc++rest) i.1)=((lZ m (qp call g ((List.range (m+1)).map λi=>se l[i]!))).map (λi=>l[i.1]!)).flatMap enc:=by
    rw[List.flatMap_map]
    congr 1
    funext i
    have hi:i.1<l.length:=by omega
    rw[uM po rest l i.1 hi,getElem!_pos l i.1 hi]
   have e2:(l.flatMap enc++rest).drop ((m+1)*nc k)=rest:=by rw[<-hm,<-vj,List.drop_left]
   rw[e1,List.take_zero,Zw,Xk,e2]
end Go.Ae
namespace Go.Proofs.YtmocfjnklfpnbaaGreatDoor
open Go Go.Ae Go.Proofs.Tryz
instance : Inhabited Pr:=⟨⟨0,⟨#[]⟩,⟨#[]⟩,zV⟩⟩
def nI(a:Pr):dx a a=0:=by have:=nU a a;omega
def ND(L:List Pr):aab dx L where
 irr:=λx _ h=>by rw[nI]at h;omega
 tr:=λx _ y _ z _ h1 h2=>by
  rcases pM.zeros (a:=x) (b:=y) (c:=z) trivial trivial trivial (by omega) (by omega)with h|⟨_,h,_⟩<;>omega
 ntr:=λx _ y _ z _ h1 h2 h3=>by
  have a1:=nU x y;have a2:=nU y z;have a3:=nU x z;have:=Ei z y x (by omega) (by omega);omega
def Hm(L:List Pr):(gN L).flatten=L.flatMap eQ:=by unfold gN;rw[List.flatMap_def]
def LK(N D:Nat)(p q:Pr)(hp:kj p.v<=D/\oK p.v)(hq:kj q.v<=D/\oK q.v)(b:Bool)(h:Hp):cu cx (N+2*D+9) b 14 [uw p,uw q] h=some (.sc (.int .i64 (dx p q)),h):=by
 refine Qt (N+2*D+6) p q b h (kE p.v q.v) λb h=>?_
 have:=F5 D p.v q.v hp.1 hq.1 hp.2 hq.2 (N+1) b h;rw[show N+1+2*D+7=N+2*D+6+2 by omega]at this;exact this
def NF(n:Nat)(b:Bool)(h:Hp):cu cx (n+1) b 18 [(),.fn 14 []] h=some (.tp [],h):=by
 have e1:cx.vc 18 =none:=rfl;have e2:cx.inl 18 =true:=by kernel_rfl
 have e3:cx.ins 18 =some (8,0):=by kernel_rfl
 simp only[cu,e1,e2,e3,if_true];rfl
end Go.Proofs.YtmocfjnklfpnbaaGreatDoor
