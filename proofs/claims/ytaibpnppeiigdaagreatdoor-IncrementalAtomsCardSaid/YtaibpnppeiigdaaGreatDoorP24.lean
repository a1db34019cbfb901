/- Part of the proof. -/
import Derived.Test.YtaibpnppeiigdaaGreatDoorP23
set_option linter.all false
set_option maxHeartbeats 32000000
set_option maxRecDepth 100000
namespace Go.Proofs.YtaibpnppeiigdaaGreatDoor
open Go Go.Ae Go.Proofs.Tryz
@[simp] def X7 :cx.T 26=some {size:=1,agg:=false,zero:=[.slice none 0 0],kd:= .slice 10 true 112 [.int .i64 0,.int .i64 0,.int .i64 0,.int .i64 0,.string ⟨#[]⟩,.int .i64 0,.int .i64 0,.int .i64 0,.string ⟨#[]⟩,.slice none 0 0]}:=by kernel_rfl
section
attribute [local simp] zi XM
def ja :Gr->List Ch->Nat->Gr × Int × Int
 |g,[],i=>(g,i,0)
 |g,c::cs,i=>if(jc g c).2=0 then ja (jc g c).1 cs (i+1)else(iq,i,(jc g c).2)
def OkF (D:Nat):Gr->List Ch->Prop
 |_,[]=>True
 |g,c::cs=>GV g/\NB g/\fB c.v<=D/\gV c.v/\((jc g c).2=0->OkF D (jc g c).1 cs)
def jG (g:Gr)(cs:List Ch):Gr × Int × Int:=if¬gN g=0 then(iq,0,gN g)else ja g cs 0
def zd (cs:List Ch):List LA:=cs.map dp
def wm (l:List Ch):(zd l).length=l.length:=by simp[zd]
def Gh (l:List Ch)(i:Nat):(zd l)[i]?=(l[i]?).map dp:=by simp[zd]
@[simp] def ahB (a0 a1 a2 a3 a4 a5 a6 a7 a8 a9:AV)(c:Ch):da [a0,a1,a2,a3,a4,a5,a6,a7,a8,a9] 0 (dp c)=dp c:=by simp[da]
def QL {h:Hp}{tag:Nat->Tg}{E:Nat}{g:Gr}{N V:AV}{nr er:List LA}(H:iF h tag E g N V nr er)(n:Nat):
 ∃y1 y2,Ae.dq h (n+4) (.ag [N,V,g.nn,g.ne])=some (.ag [y1,y2,g.nn,g.ne])/\LU (.ag [y1,y2,g.nn,g.ne])= .ag (dn g):=by
 obtain⟨r1,y1,a1,a2,a3,a4,a5⟩:=Cf n H.ns H.na;obtain⟨r2,y2,b1,b2,b3,b4,b5⟩:=Cg n H.es H.ea;have en:r1.map Ul=lU g.nodes:=by
  apply Xe;intro i;rw[Zs,mM];cases hc:g.nodes[i]? with
  |
   none=>
   rw[Xt (by have:=List.getElem?_eq_none_iff.1 hc;omega)];rfl
  |
   some c=>
   obtain⟨r',h1,a,b,rfl,h2,h3⟩:=a5 i c hc;rw[h1];simp only[Xq,Ul,h2,h3];rfl
 have ee:r2.map Un=mA g.cZ:=by
  apply Xe;intro i;rw[Zs,mN];cases hc:g.cZ[i]? with
  |
   none=>
   rw[Xt (by have:=List.getElem?_eq_none_iff.1 hc;omega)];rfl
  |
   some c=>
   obtain⟨r',h1,b,rfl,h3⟩:=b5 i c hc;rw[h1];simp only[Xq,Un,h3];rfl
 have l1:Ir 3 Ul y1=gh g.nodes:=by
  rcases u5 a2 with⟨z,rfl⟩|⟨rfl,rfl⟩
  .simp[Ir,en,gh]
  .have:lU g.nodes=[]:=by rw[<-en];rfl
   simp[Ir,gh,this]
 have l2:Ir 5 Un y2=gE g.cZ:=by
  rcases u5 b2 with⟨z,rfl⟩|⟨rfl,rfl⟩
  .simp[Ir,ee,gE]
  .have:mA g.cZ=[]:=by rw[<-ee];rfl
   simp[Ir,gE,this]
 refine⟨y1,y2,?_,?_⟩
 .show([N,V,.sc (.int .i64 g.nn),.sc (.int .i64 g.ne)].mapM (Ae.dq h (n+3))).map AV.ag=_;rw[Zo,Zo,Zo,Zo,List.mapM_nil,a1,b1];simp[Ae.dq]
 .simp only[LU,l1,l2,dn]
def aax {x y:AV}{u v:AV}(h:LU x=y):Ai (.tp [x,u,v])= .tp [y,u,v]:=by simp only[Ai,h]
def Vh {h:Hp}{x x':AV}{u v:Value}(e:Ae.dq h 7 x=some x'):Ae.dq h 8 (.tp [x,.sc u,.sc v])=some (.tp [x',.sc u,.sc v]):=by
 show([x,.sc u,.sc v].mapM (Ae.dq h 7)).map AV.tp=_;rw[Zo,Zo,Zo,List.mapM_nil,e];simp[Ae.dq]
def Mn (n D:Nat)(b:Bool)(g:Gr)(cs:List Ch)(z:Bool)(h:Hp)(hg:AX D g)(hc:cs.length<=1000000)(iG:gN g=0->OkF D g cs):
 cW cx (n+2*D+12) b 25 [.ag (dn g),.ls 10 (zd cs) z] h=some (.tp [.ag (dn (jG g cs).1),.sc (.int .i64 (jG g cs).2.1),.sc (.int .i64 (jG g cs).2.2)],h):=by
 refine nA f25 [.cell 4 4 true,.tmp 5,.tmp 6] rfl ?_ b h;have aa:=λbb hh=>N7 (n+3) D bb g hh hg
 rw[show n+3+2*D+8=n+2*D+11 by omega]at aa;unfold jG;by_cases he:gN g=0
 .rw[db (by simp[he])];have AO:=Ew he;have hnb:=aci he;have iG:=iG he;obtain⟨r,h1,c1,N,V,t1,nr,er,rfl,o1,o2,a1,a2,FO⟩:=Vg (n+2*D+9) true g (λ_=> .none) [.row (dn g),.row [(),(),(0:Int),(0:Int)]] AO.nl AO.el (λm hm=>by have:=jX (AO.np m hm);omega) (λm hm=>by have:=jX (AO.ep m hm);omega);have k4:=FO 1 _ rfl (by simp);have pE:=gW.push h1 t1 (.row [N,V,g.nn,g.ne]) .box (λ_=>False);have R0:iF (h1++[.row [N,V,g.nn,g.ne]]) (gr t1 h1.length .box) h1.length g N V nr er:={
   box:=by simp
   tb:=jj _ _ _
   ns:=o1.gH pE (λq=>q)
   es:=o2.gH pE (λq=>q)
   na:=a1.imp λa _ r q=>q.gH pE (λq=>q) (λq=>q)
   ea:=a2.imp λa _ r q=>q.gH pE (λq=>q)}
  have k5:=pE 1 _ k4.1 (λq=>q);have hq:=wm cs;have tQ:=Gh cs;generalize zd cs=cY at hq tQ|-;generalize hT:AV.tp [.ag (dn (ja g cs 0).1),.sc (.int .i64 (ja g cs 0).2.1),.sc (.int .i64 (ja g cs 0).2.2)]=T;rw[he]at aa;simp only[dn,gh,gE]at aa c1;simp[f25,dn,gh,gE,aa,c1,da,hq];refine eC (C:=cx) (G:=λr=>∃r0 h',eQ _ (eR _ _ (dL _ r) _)=some (r0,h')/\∃r',Ae.dq h' 8 r0=some r'/\Ai r'=T)
   (λi s=>∃gi tt N V nr er,i<=cs.length/\s.1.length=40/\gt s.1 1= .ls 10 cY z/\gt s.1 4= .pt 1 0/\gt s.1 8= .pt h1.length 0/\gt s.1 21= .ls 10 cY z/\gt s.1 22=cs.length/\gt s.1 23=i/\ja g cs 0=ja gi (cs.drop i) i/\OkF D gi (cs.drop i)/\iF s.2 tt h1.length gi N V nr er/\s.2[1]?=some (.row [(),(),(0:Int),(0:Int)])/\tt 1= .none)
   (λo s=>s.1.length=40/\gt s.1 4= .pt 1 0/\((o= .ret/\∃i e:Int,gt s.1 5=i/\gt s.1 6=e/\ja g cs 0=(iq,i,e)/\s.2[1]?=some (.row [(),(),(0:Int),(0:Int)]))\/
    (o= .exit 0/\gt s.1 1= .ls 10 cY z/\gt s.1 8= .pt h1.length 0/\∃gi tt N V nr er,ja g cs 0=(gi,(cs.length:Int),0)/\iF s.2 tt h1.length gi N V nr er/\s.2[1]?=some (.row [(),(),(0:Int),(0:Int)])/\tt 1= .none))) cs.length (by simp;omega) ?_ ?_ ?_
  .exact⟨g,_,N,V,nr,er,by omega,rfl,rfl,rfl,rfl,rfl,rfl,rfl,rfl,iG,R0,k5.1,k5.2.trans k4.2⟩
  .rintro i fr hp n_ ⟨gi,tt,N',V',tf,u6,rE,cU,g1,g4,g8,g21,g22,g23,dD,iG,RG,ta,tz1⟩;simp only at cU g1 g4 g8 g21 g22 g23 RG ta;by_cases hi:i<cs.length
   .obtain⟨c,hc⟩:=eA hi;have hr:cY[i]?=some (dp c):=by rw[tQ,hc];rfl
    have du:=gA hr
    have Dh:cs.drop i=c::cs.drop (i+1):=by
     obtain⟨k,e⟩:=Za.1 hc;rw[Zm k,e]
    rw[Dh,ja]at dD;rw[Dh]at iG;obtain⟨v1,v2,v3,v4,v5⟩:=iG;have p1:=gW.push hp tt (.row (dp c)) .none (λ_=>False);have RG1:=fQ RG (dp c);obtain⟨h',s1,⟨t4,s2⟩,s3⟩:=aaw n D true h1.length gi c N' V' tf u6 _ _ RG1 v1 v2 v3 v4;have kz:=p1 1 _ ta (λq=>q);have kz2:=s2 1 _ kz.1 (by rw[kz.2,tz1];simp);have hf:=di (i:=i) (by omega);generalize jc gi c=r at dD s1 s3 v5;by_cases h0:r.2=0
    .rw[dd h0]at dD;rw[h0]at s1;obtain⟨t5,N2,V2,nr2,er2,RG2,FO2⟩:=s3 h0;have kz3:=FO2 1 _ kz.1 (by rw[kz.2,tz1];simp);simp[cU,g1,g4,g8,g21,g22,g23,hi,hq,du,s1,hf];exact⟨hi,r.1,dD,v5 h0,t5,⟨N2,V2,nr2,er2,RG2⟩,kz3.1,kz3.2.trans (kz.2.trans tz1)⟩
    .rw[db h0]at dD;have KW:=kz2.1;have lz:=(Za.1 KW).1;have YN:∀y,(h'.set 1 y)[1]?=some y:=λy=>Zj lz
     simp[cU,g1,g4,g8,g21,g22,g23,hi,hq,du,s1,h0,KW,YN,da];exact dD
   .have gG:i=cs.length:=Yc rE (Yb hi);subst gG;rw[List.drop_length,ja]at dD;simp[cU,g1,g4,g8,g22,g23];exact⟨gi,dD,tt,⟨N',V',tf,u6,RG⟩,ta,tz1⟩
  .rintro o fr hp hn ⟨cU,g4,⟨rfl,i,e,g5,g6,dD,ta⟩|⟨rfl,g1,g8,gi,tt,N',V',tf,u6,dD,RG,ta,tz1⟩⟩
   .simp only at cU g4 g5 g6 ta;rw[dD]at hT;simp[g4,g5,g6,ta];exact gz ⟨_,rfl,hT⟩
   .simp only at cU g1 g4 g8 RG ta;rw[dD]at hT;have hb:=RG.box;have lz:=(Za.1 ta).1;have YN:∀y,(hp.set 1 y)[1]?=some y:=λy=>Zj lz
    have RG':=RG.gH (gW.set hp tt 1 (.row [N',V',gi.nn,gi.ne]) (S:=λt=>t= .none) tz1);obtain⟨y1,y2,w1,w2⟩:=QL RG' 3;simp[cU,g1,g4,g8,hb,ta,YN,hq,da];exact gz ⟨_,Vh w1,by rw[<-hT];exact aax w2⟩
 .rw[dd he];generalize gN g=e at aa he;simp only[dn,gh,gE]at aa;simp[f25,dn,gh,gE,aa,he,da];exact gz ⟨_,rfl,rfl⟩
end
section
attribute [local simp] zi da XM
def Cl {f:FuncId}{args ys:LA}{n:Nat}{r:AV}{h h':Hp}(hs:cx.ox f=none)(hi:cx.inl f=false)(ha:args.mapM (Ae.dq h 8)=some ys)(hc:ys.all d_=true)(HF:args.all d_=false)(hr:ml r=false)(hm:(args.mapM (Ae.dq (mask (args.flatMap (reach h 8)) h) 8)).isSome=true)(hf:Ae.freeze (args.flatMap (reach h 8)) h=some h')
 (dy:cW cx (n+1) true f ys h=some (r,h)):cW cx (n+1) true f args h=some (r,h'):=by
 have e:ys.mapM (Ae.dq h 8)=some ys:=qZ (n:=6) hc;simp only[cW,hs,hi,Yq,if_false,e,hc,Bool.true_or,if_true,ha]at dy|-;split at dy
 .rename_i r0 h0;simp only[Zc,Zg,and_true]at dy;subst dy;simp only[HF,hr,Bool.or_self,Yq,if_false,hm,Bool.and_self,if_true,hf,Xq]
 .cases dy
def Jm {h:Hp}{n:Nat}{x:AV}(hx:eT x=true):reach h n x=[]:=by
 cases n<;>cases x<;>simp[eT]at hx<;>rfl
def pH {h:Hp}{n:Nat}:∀{xs:LA},xs.all eT=true->xs.flatMap (reach h n)=[]
 | [],_=>rfl
 |
  x::xs,hx=>by
  rw[Zn,Zh]at hx;rw[Yu,Jm hx.1,pH hx.2];rfl
def QM (n:Nat)(b x:Bool)(h:Hp):cW cx (n+1) b 251 [x] h=some (.sc (.int .i64 (tL x)),h):=by
 refine fZ f251 [.tmp 2] rfl rfl ?_ b h;cases x<;>simp[f251,tL]
def aay (n:Nat)(b:Bool)(x:Int)(h:Hp):cW cx (n+1) b 303 [x] h=some (.sc (.int .i64 (vv x)),h):=by
 refine fZ f303 [.tmp 2] rfl rfl ?_ b h;by_cases h0:x=0
 .simp[f303,vv,h0]
 .by_cases h2:x=2
  .simp[f303,vv,h2]
  .simp[f303,vv,h0,h2]
def aaz (n:Nat)(b:Bool)(x y:Int)(h:Hp):cW cx (n+2) b 252 [x,y] h=some (.sc (.int .i64 (IX x y)),h):=by
 refine fZ f252 [.tmp 4] rfl rfl ?_ b h;have aa:=aay n;unfold IX;by_cases hc:vv y<vv x
 .simp[f252,aa,hc]
 .simp[f252,aa,hc]
def Cm (M:Nat)(k n d k' n' d':Int)(s s':ByteArray)(L L':AV)(N1 D1 N2 D2:Int)(B1 B2:Bool)(hL:eT L=true)(fT:eT L'=true)
 (ae:∀b h,cW cx M b 248 [.ag [k,n,d,.sc (.string s),L]] h=some (.tp [lJ N1 D1,B1],h))
 (ah:∀b h,cW cx M b 248 [.ag [k',n',d',.sc (.string s'),L']] h=some (.tp [lJ N2 D2,B2],h))
 (hy:∀x b h,cW cx M b 251 [.sc (.bool x)] h=some (.sc (.int .i64 (tL x)),h))
 (hB:¬(B1=true/\B2=true)) (hn:(k=0\/k'=0)\/¬k=k'\/(¬k=8/\¬k=7)) (b:Bool) (h:Hp):
 cW cx (M+1) b 194 [.ag [k,n,d,.sc (.string s),L],.ag [k',n',d',.sc (.string s'),L']] h=some (.sc (.int .i64 (
  if k=0\/k'=0 then 1
  else if¬k=k' then 0
  else tL (decide (n=n') && kr s s'))),h):=by
 refine fZ f194 [.tmp 4] (by rw[Zn,Zn,gT,gT];simp[hL,fT]) rfl ?_ b h;unfold lJ at ae ah;by_cases k0:k=0
 .simp[f194,k0]
 .by_cases KT:k'=0
  .simp[f194,k0,KT]
  .have Dx:¬k=k'\/(¬k=8/\¬k=7):=by
    rcases hn with(e|e)|e
    .exact absurd e k0
    .exact absurd e KT
    .exact e
   clear hn;cases B1<;>cases B2
   case true.true=>exact absurd ⟨rfl,rfl⟩ hB
   all_goals
    by_cases hk:k=k'
    .subst hk;have h8:¬k=8/\¬k=7:=by
      rcases Dx with e|e
      .exact absurd rfl e
      .exact e
     by_cases e1:n=n'
     .subst e1;simp[f194,k0,ae,ah,hy,h8.1,h8.2]
     .simp[f194,k0,ae,ah,hy,h8.1,h8.2,e1]
    .simp[f194,k0,KT,ae,ah,hk]
def OB {a b c d:Nat}(h:a*d=c*b)(g:Nat.gcd a b=1):b ∣ d:=by
 have h1:b ∣ a*d:=⟨c,by rw[h,Nat.mul_comm]⟩;exact Nat.Coprime.dvd_of_dvd_mul_left (Nat.Coprime.symm g) h1
def QN {x:Int}:iU x=0↔x=0:=by unfold iU;(repeat' split)<;>omega
def adR {n1 d1 n2 d2:Int}(h1:fv n1 d1=true)(h2:fv n2 d2=true):tj n1 d1 n2 d2=0↔n1=n2/\d1=d2:=by
 unfold tj gO jN;rw[h1,h2,QN];simp only[cond_true];simp only[fv,Zh,Zz,FJ]at h1 h2;constructor
 .intro h;have e:n1*d2=n2*d1:=by omega
  have en:n1.natAbs*d2.natAbs=n2.natAbs*d1.natAbs:=by rw[<-Int.natAbs_mul,<-Int.natAbs_mul,e]
  have g1:Nat.gcd n1.natAbs d1.natAbs=1:=Int.ofNat.inj (of_decide_eq_true h1.2);have g2:Nat.gcd n2.natAbs d2.natAbs=1:=Int.ofNat.inj (of_decide_eq_true h2.2);have a1:=OB en g1;have a2:=OB en.symm g2;have a3:=Nat.dvd_antisymm a1 a2;have ed:d1=d2:=by omega
  subst ed;exact⟨Int.eq_of_mul_eq_mul_right (by omega) e,rfl⟩
 .rintro⟨rfl,rfl⟩;omega
def Vi {v:V}(h:kj v=true):fv (mg v) (mh v)=true:=by
 unfold kj at h;rw[Zh,Bool.or_eq_true,Zz,Zz]at h;obtain⟨ho,hk⟩:=h;unfold mg mh;rw[dd ho,dd ho];cases v with
 |
  mk k n d s z l=>
  simp only[V.k,V.n,V.d]at hk|-;unfold jF at ho;rw[pR]at ho;simp only[Zh]at ho;obtain⟨_,ho⟩:=ho;rcases hk with rfl|rfl
  .simp at ho|-;rw[fv,ho];simp[FJ]
  .simp at ho|-;exact ho.2
def adS {v w:V}(hv:kj v=true)(hw:kj w=true):decide (tj (mg v) (mh v) (mg w) (mh w)=0)=(decide (mg v=mg w) && decide (mh v=mh w)):=by
 rw[Bool.eq_iff_iff,Zh,Zz,Zz,Zz];exact adR (Vi hv) (Vi hw)
noncomputable def Vj (u v:AV):Option AV:=j4 cx (λo=>match o with| .tmp 0=>u|_=>v) {dst:=none,op:= .binOp .eql 175 (.tmp 0) (.tmp 1) 175,type:=0,pos:= "",after:= #[],guard:=none}
def Vk (fr:LA)(d:Option Tmp)(x y:Tmp)(ty:TypeId)(p:String)(a:Array Edge)(g:Option (Nat × Bool)):j4 cx (ev cx fr) {dst:=d,op:= .binOp .eql 175 (.tmp x) (.tmp y) 175,type:=ty,pos:=p,after:=a,guard:=g}=Vj (gt fr x) (gt fr y):=rfl
def mT {P:Program}{α β:Type}(s:Sem α)(f:α->Sem β):gf P (s>>=f)=(gf P s).bind λa=>gf P (f a):=by
 induction s with
 |pure a=>rfl
 |program k ih=>exact ih P
 |mark m k ih=>exact ih
 |_=>rfl
def sK {P:Program}{α:Type}(a:α):gf P (pure a:Sem α)=some a:=rfl
def sL {P:Program}:gf P program=some P:=rfl
def Mo :prog.underlying 175=some (.struct #[{name:= "N",type:=3,offset:=0,embedded:=false,tag:= "",pkgPath:= "",byteOffset:=0},{name:= "D",type:=3,offset:=1,embedded:=false,tag:= "",pkgPath:= "",byteOffset:=8}]):=by kernel_rfl
def Vl (a b c d:Int):Vj (.ag [a,b]) (.ag [c,d])=some (.sc (.bool (decide (a=c) && decide (b=d)))):=by
 have hP:cx.P=prog:=rfl;have u1:∀t x,prog.underlying t=some x->gf prog (underlying t)=some x:=λt x h=>by
  simp only[underlying,mT,sL,Option.bind_some,h];rfl
 have p1:∀(x y:Value),gf prog (part 3 #[x,y] 0)=some x:=λx y=>by
  kernel_rfl
 have p2:∀(x y:Value),gf prog (part 3 #[x,y] 1)=some y:=λx y=>by kernel_rfl
 have ajV:=u1 _ _ Mo;have u3:=u1 3 (.int .i64) (by kernel_rfl);have e3:∀(n:Nat) (x y:Int),gf prog (Op.equalIn (n+1) 3 (.int .i64 x) (.int .i64 y))=some (decide (x=y)):=λn x y=>by
  simp only[Op.equalIn,mT,u3,Option.bind_some,if_true,sK];rfl
 have e1:gf prog (Op.equalIn 10000 175 (.agg #[.int .i64 a,.int .i64 b]) (.agg #[.int .i64 c,.int .i64 d]))=some (decide (a=c) && decide (b=d)):=by
  rw[show(10000:Nat)=9998+1+1 from rfl,Op.equalIn];have e3':∀x y:Int,gf prog (Op.equalIn 9999 3 (.int .i64 x) (.int .i64 y))=some (decide (x=y)):=e3 9998;have hs:prog.stoodInHeld 175=false:=by kernel_rfl
  have n1:("N" ≠ "_"):=by decide
  have n2:("D" ≠ "_"):=by decide
  simp only[mT,ajV,Option.bind_some,sL,hs,Yq,if_false,List.forIn_toArray,List.forIn_cons,List.forIn_nil,n1,n2,if_true,p1,e3,ne_eq,not_false_eq_true];by_cases h1:a=c<;>by_cases h2:b=d<;>simp[h1,h2,sK,mT,p2,e3']
 have e:gf cx.P (execOp (λx=>vD (match x with| .tmp 0=>AV.ag [a,b]|_=>AV.ag [c,d])) {dst:=none,op:= .binOp .eql 175 (.tmp 0) (.tmp 1) 175,type:=0,pos:= "",after:= #[],guard:=none})=some (.value (.bool (decide (a=c) && decide (b=d)))):=by
  have hg:prog.eqGuardType prog.depth 175=false:=by kernel_rfl
  simp only[execOp,vD,List.map,adg,eqGuard,binOp,Op.equal,Op.maxDepth,mT,hP,sL,Option.bind_some,hg,Xz,Xj,Yq,if_false,if_true,sK,e1]
 unfold Vj j4;refine(dd rfl).trans ?_;rw[e];rfl
def VE (N:Nat)(v w:V):Prop:=∀b h,cW cx N b 194 [.ag (enc v),.ag (enc w)] h=some (.sc (.int .i64 (rZ v w)),h)
def Mp (M:Nat)(k n d n' d':Int)(s s':ByteArray)(z z':Bool)(l m:List V)(N1 D1 N2 D2:Int)
 (ae:∀b h,cW cx M b 248 [.ag [k,n,d,.sc (.string s),fG z l]] h=some (.tp [lJ N1 D1,false],h))
 (ah:∀b h,cW cx M b 248 [.ag [k,n',d',.sc (.string s'),fG z' m]] h=some (.tp [lJ N2 D2,false],h))
 (ha:∀x y b h,cW cx M b 252 [.sc (.int .i64 x),.sc (.int .i64 y)] h=some (.sc (.int .i64 (IX x y)),h))
 (ho:∀x∈l,∀y∈m,VE M x y) (hk:k=8\/k=7) (hl:l.length<=1000000000000000) (b:Bool) (h:Hp):
 cW cx (M+1) b 194 [.ag [k,n,d,.sc (.string s),fG z l],.ag [k,n',d',.sc (.string s'),fG z' m]] h=some (.sc (.int .i64 (
  if¬l.length=m.length then 0 else Ca l m 2)),h):=by
 have c1:eT (fG z l)=true:=by unfold fG ql;cases z && (dN l).isEmpty<;>rfl
 have c2:eT (fG z' m)=true:=by unfold fG ql;cases z' && (dN m).isEmpty<;>rfl
 refine fZ f194 [.tmp 4] (by rw[Zn,Zn,gT,gT];simp[c1,c2]) rfl ?_ b h;unfold lJ at ae ah;clear c1 c2;have hL:=jg z l;have fT:=jg z' m;generalize fG z l=L at hL ae;generalize fG z' m=L' at fT ah;have hq:=dK l;have hg:=fP l;have jA:=dK m;have qK:=fP m;generalize dN l=cY at hq hg hL;generalize dN m=rows' at jA qK fT;by_cases cU:l.length=m.length
 .rw[db (by simp[cU])];have pQ:((l.length:Int)=(m.length:Int)):=by omega
  by_cases h0:l.length=0
  .have Ft:m.length=0:=by omega
   have e0:Ca l m 2=2:=by
    have:=Zl h0;subst this;rw[Ca]
   have hr:cY=[]:=Zl (by omega);have du:rows'=[]:=Zl (by omega);subst hr du;rw[e0];rcases hL with hL|⟨hL,hz⟩<;>rcases fT with fT|⟨fT,wC⟩<;>subst hL<;>subst fT<;>rcases hk with rfl|rfl
   all_goals
    simp[f194,ae,ah];refine lS
     (λi st _=>st.length=95/\gt st 77=(0:Int)/\gt st 76=(0:Int)/\gt st 9=(2:Int))
     (λo st _=>o= .exit 1/\st.length=95/\gt st 9=(2:Int)) 0 (by simp) (by exact ⟨rfl,rfl,rfl,rfl⟩) ?_ ?_
    .rintro i fr h eG ⟨cU,g77,g76,g9⟩;simp[cU,g77,g76,g9]
    .rintro o fr h hn ⟨rfl,cU,g9⟩;simp[cU,g9]
  .rcases hL with hL|⟨hL,hz⟩
   .rcases fT with fT|⟨fT,wC⟩
    .subst hL fT;have rD:=cU;rcases hk with rfl|rfl
     .simp[f194,ae,ah,hq,jA,cU];refine lS
       (λi st iR=>i<=m.length/\st.length=95/\gt st 2= .pt 0 0/\gt st 3= .pt 1 0/\gt st 76=m.length/\gt st 77=i/\iR[0]?=some (.row [(8:Int),n,d,.sc (.string s),.ls 5 cY z])/\iR[1]?=some (.row [(8:Int),n',d',.sc (.string s'),.ls 5 rows' z'])/\∃a,gt st 9= .sc (.int .i64 a)/\Ca l m 2=yE l m a i)
       (λo st _=>o= .exit 1/\st.length=95/\gt st 9= .sc (.int .i64 (Ca l m 2))) m.length (by simp;omega) (by simp[yE]) ?_ ?_
      .rintro i fr h eG ⟨n_,cU,g2,g3,g76,g77,s0,s1,a,g9,jM⟩;have hf:dM .i64 ((i:Int)+1)=((i+1:Nat):Int):=dh (by omega) (by omega);by_cases hi:i<m.length
       .obtain⟨x,hx⟩:∃c,l[i]?=some c:=⟨_,Zb (by omega)⟩;obtain⟨y,hy⟩:=eA hi;have hr:cY[i]?=some (enc x):=by rw[hg,hx];rfl
        have r9:rows'[i]?=some (enc y):=by rw[qK,hy];rfl
        have du:=gA hr
        have lK:=gA r9
        have dy:=ho x (Zi hx) y (Zi hy);unfold VE at dy;rw[uZ a hx hy]at jM;generalize rZ x y=c at dy jM;generalize Ca l m 2=T at jM;simp[cU,g2,g3,g76,g77,g9,s0,s1,hi,rD,hq,jA,du,lK,dy,ha,hf];exact⟨by omega,jM⟩
       .have hz:=xx l m a i (by omega);rw[hz]at jM;simp[cU,g76,g77,g9,hi,jM]
      .rintro o fr h hn ⟨rfl,cU,g9⟩;simp[cU,g9]
     .simp[f194,ae,ah,hq,jA,cU];refine lS
       (λi st iR=>i<=m.length/\st.length=95/\gt st 2= .pt 0 0/\gt st 3= .pt 1 0/\gt st 76=m.length/\gt st 77=i/\iR[0]?=some (.row [(7:Int),n,d,.sc (.string s),.ls 5 cY z])/\iR[1]?=some (.row [(7:Int),n',d',.sc (.string s'),.ls 5 rows' z'])/\∃a,gt st 9= .sc (.int .i64 a)/\Ca l m 2=yE l m a i)
       (λo st _=>o= .exit 1/\st.length=95/\gt st 9= .sc (.int .i64 (Ca l m 2))) m.length (by simp;omega) (by simp[yE]) ?_ ?_
      .rintro i fr h eG ⟨n_,cU,g2,g3,g76,g77,s0,s1,a,g9,jM⟩;have hf:dM .i64 ((i:Int)+1)=((i+1:Nat):Int):=dh (by omega) (by omega);by_cases hi:i<m.length
       .obtain⟨x,hx⟩:∃c,l[i]?=some c:=⟨_,Zb (by omega)⟩;obtain⟨y,hy⟩:=eA hi;have hr:cY[i]?=some (enc x):=by rw[hg,hx];rfl
        have r9:rows'[i]?=some (enc y):=by rw[qK,hy];rfl
        have du:=gA hr
        have lK:=gA r9
        have dy:=ho x (Zi hx) y (Zi hy);unfold VE at dy;rw[uZ a hx hy]at jM;generalize rZ x y=c at dy jM;generalize Ca l m 2=T at jM;simp[cU,g2,g3,g76,g77,g9,s0,s1,hi,rD,hq,jA,du,lK,dy,ha,hf];exact⟨by omega,jM⟩
       .have hz:=xx l m a i (by omega);rw[hz]at jM;simp[cU,g76,g77,g9,hi,jM]
      .rintro o fr h hn ⟨rfl,cU,g9⟩;simp[cU,g9]
    .omega
   .omega
 .rw[dd cU];have pQ:¬((l.length:Int)=(m.length:Int)):=by omega
  rcases hL with hL|⟨hL,hz⟩
  .rcases fT with fT|⟨fT,wC⟩
   .subst hL fT;rcases hk with rfl|rfl<;>simp[f194,ae,ah,hq,jA,pQ]
   .subst hL fT;have eW:¬l=[]:=λe=>cU (by rw[e,wC];rfl)
    rcases hk with rfl|rfl<;>simp[f194,ae,ah,hq,eW]
  .rcases fT with fT|⟨fT,wC⟩
   .subst hL fT;have eW:¬0=(m.length:Int):=λe=>cU (by omega)
    rcases hk with rfl|rfl<;>simp[f194,ae,ah,jA,eW]
   .exact absurd (by omega) cU
def Mq (M:Nat)(k n d k' n' d':Int)(s s':ByteArray)(L L':AV)(N1 D1 N2 D2:Int)(hL:eT L=true)(fT:eT L'=true)
 (ae:∀b h,cW cx M b 248 [.ag [k,n,d,.sc (.string s),L]] h=some (.tp [lJ N1 D1,true],h))
 (ah:∀b h,cW cx M b 248 [.ag [k',n',d',.sc (.string s'),L']] h=some (.tp [lJ N2 D2,true],h))
 (hy:∀x b h,cW cx M b 251 [.sc (.bool x)] h=some (.sc (.int .i64 (tL x)),h))
 (hn:¬k=0) (hn':¬k'=0) (b:Bool) (h:Hp):
 cW cx (M+1) b 194 [.ag [k,n,d,.sc (.string s),L],.ag [k',n',d',.sc (.string s'),L']] h=some (.sc (.int .i64 (tL (decide (N1=N2) && decide (D1=D2)))),h):=by
 refine fZ f194 [.tmp 4] (by rw[Zn,Zn,gT,gT];simp[hL,fT]) rfl ?_ b h;unfold lJ at ae ah;have e:=Vl N1 D1 N2 D2;generalize(decide (N1=N2) && decide (D1=D2))=q at e|-;simp[f194,hn,hn',ae,ah,hy,Vk,e]
def if3 {P Q R:Prop}[Decidable P][Decidable Q][Decidable R](p:¬P)(q:¬Q)(r:¬R)(a b c T:Int):(if P then a else if Q then b else if R then c else T)=T:=by
 rw[db p,db q,db r]
def adT :∀(D:Nat) (v w:V),fB v<=D->fB w<=D->gV v->gV w->jF v=true->jF w=true->∀N,VE (N+2*D+6) v w:=by
 intro D
 induction D with
 |zero=>intro v w h;have:=gZ v;omega
 |
  succ D ih=>
  intro v w dv dw bv bw ov ow N b h;have pv:=kT ov;have pw:=kT ow;have ho:∀x∈v.l,∀y∈w.l,VE (N+2*D+7) x y:=λx hx y hy=>by
   have:=ih x y (qX dv x hx) (qX dw y hy) ((mq bv).2 x hx) ((mq bw).2 y hy) (pv.2.2.2.2.2 x hx) (pw.2.2.2.2.2 y hy) (N+1);rw[show N+1+2*D+6=N+2*D+7 by omega]at this;exact this
  have nv:=λb h=>sa N (D+1) v dv bv b h
  have nw:=λb h=>sa N (D+1) w dw bw b h
  rw[show N+2*(D+1)+5=N+2*D+7 by omega]at nv nw;rw[show N+2*(D+1)+6=N+2*D+7+1 by omega];have hy:=λx b h=>QM (N+2*D+6) b x h
  have ha:=λx y b h=>aaz (N+2*D+5) b x y h
  have hl:=(mq bv).1;have eW:=λ(q1:kj v=true) (q2:kj w=true)=>adS q1 q2
  cases v with
  |
   mk k n d s z l=>
   cases w with
   |
    mk k' n' d' s' z' m=>
    simp only[V.l,V.k,V.n,V.s,V.d]at ho hl pv pw;have c1:eT (fG z l)=true:=by unfold fG ql;cases z && (dN l).isEmpty<;>rfl
    have c2:eT (fG z' m)=true:=by unfold fG ql;cases z' && (dN m).isEmpty<;>rfl
    rw[rZ,ov,ow];simp only[V.k,V.n,V.s,V.l,Bool.true_eq_false,or_false];rw[fY]at nv nw;by_cases h0:k=0\/k'=0
    .rw[dd h0];by_cases hB:kj (.mk k n d s z l)=true/\kj (.mk k' n' d' s' z' m)=true
     .exfalso;rcases h0 with rfl|rfl
      .have:kj (.mk 0 n d s z l)=false:=by show(jF _ && false)=false;exact Bool.and_false _
       rw[this]at hB;exact absurd hB.1 (by simp)
      .have:kj (.mk 0 n' d' s' z' m)=false:=by show(jF _ && false)=false;exact Bool.and_false _
       rw[this]at hB;exact absurd hB.2 (by simp)
     .have:=Cm (N+2*D+7) k n d k' n' d' s s' _ _ _ _ _ _ _ _ c1 c2 nv nw hy hB (.inl h0) b h;rw[dd h0]at this;exact this
    .rw[db h0];have X_:¬k=0:=λe=>h0 (.inl e)
     have ajW:¬k'=0:=λe=>h0 (.inr e)
     by_cases hB:kj (.mk k n d s z l)=true/\kj (.mk k' n' d' s' z' m)=true
     .rw[dd hB,eW hB.1 hB.2];rw[hB.1]at nv;rw[hB.2]at nw;exact Mq _ _ _ _ _ _ _ _ _ _ _ _ _ _ _ c1 c2 nv nw hy X_ ajW b h
     .rw[db hB];by_cases h8:k=k'/\(k=8\/k=7)
      .obtain⟨e,h8⟩:=h8;subst e;have b0:(decide (k=2)||decide (k=3))=false:=by simp;omega
       have b1:kj (.mk k n d s z l)=false:=by show(jF _ && (decide (k=2)||decide (k=3)))=false;rw[b0,Bool.and_false]
       have b2:kj (.mk k n' d' s' z' m)=false:=by show(jF _ && (decide (k=2)||decide (k=3)))=false;rw[b0,Bool.and_false]
       rw[b1]at nv;rw[b2]at nw;exact(Mp _ _ _ _ _ _ _ _ _ _ _ _ _ _ _ _ nv nw ha ho h8 hl b h).trans (congrArg (λx=>some (AV.sc (.int .i64 x),h)) (if3 (λe=>e rfl) (by omega) (by omega) _ _ _ _).symm)
      .have hn:¬k=k'\/(¬k=8/\¬k=7):=by omega
       have:=Cm (N+2*D+7) k n d k' n' d' s s' _ _ _ _ _ _ _ _ c1 c2 nv nw hy hB (.inr hn) b h;rw[db h0]at this;refine this.trans (congrArg (λx=>some (AV.sc (.int .i64 x),h)) ?_);by_cases e:k=k'
       .subst e;rw[db (c:=¬k=k) (λe=>e rfl)];by_cases k4:k=4
        .rw[dd k4];have e1:=pv.2.2.2.2.1 k4;have e2:=pw.2.2.2.2.1 k4;simp[e1,e2]
        .rw[db k4,dd (by omega)];have e1:=pv.2.2.2.1.resolve_left k4;have e2:=pw.2.2.2.1.resolve_left k4;rw[e1,e2];have:kr ⟨#[]⟩ ⟨#[]⟩=true:=rfl;rw[this,Bool.and_true];exact(db (λe=>e rfl)).symm
       .rw[dd e];exact(dd e).symm
end
section
attribute [local simp] zi XM
def SV (z:Bool):AV:=if z then .sc (.slice none 0 0)else .ls 5 [] true
noncomputable def ack (u:AV):Option AV:=j4 cx (λo=>match o with| .tmp _=>u|_=> .sc (.slice none 0 0)) {dst:=none,op:= .binOp .eql 29 (.tmp 0) (.const (.slice none 0 0)) 29,type:=0,pos:= "",after:= #[],guard:=none}
def Vm (fr:LA)(d:Option Tmp)(x:Tmp)(ty:TypeId)(p:String)(a:Array Edge)(g:Option (Nat × Bool)):j4 cx (ev cx fr) {dst:=d,op:= .binOp .eql 29 (.tmp x) (.const (.slice none 0 0)) 29,type:=ty,pos:=p,after:=a,guard:=g}=ack (gt fr x):=rfl
def Vn :ack (.sc (.slice none 0 0))=some (.sc (.bool true)):=by kernel_rfl
def QO (n:Nat)(b z:Bool)(h:Hp):cW cx (n+1) b 253 [fG z []] h=some (SV z,h):=by
 have e1:cx.ox 253=none:=by kernel_rfl
 have e2:cx.inl 253=true:=by kernel_rfl
 have e3:cx.ins 253=none:=by kernel_rfl
 cases z with
 |
  false=>
  have e4:(if[fG false []].all d_ then cx.tE 253 [fG false []]else none)=some (.ls 5 [] true):=rfl;simp only[cW,e1,e2,e3,e4,if_true];rfl
 |
  true=>
  have e4:(if[fG true []].all d_ then cx.tE 253 [fG true []]else none)=none:=rfl;have e5:cx.F 253=some ⟨f253.ntmps,(f253.body).getD .skip,[.tmp 2]⟩:=by kernel_rfl
  have e6:(j5 cx ((f253.body).getD .skip)).isNone=true:=by kernel_rfl
  have ny:cW cx (n+1) b 253 [fG true []] h=eQ [.tmp 2] (dS cx (cW cx n) ((f253.body).getD .skip) ([fG true []]++List.replicate (f253.ntmps-1) .un,h)):=by
   simp only[cW,e1,e2,e3,e4,e5,if_true,Yd.1 e6];exact kh e5 (by kernel_rfl) (by simp[f253]) h
  rw[ny];have:fG true []=():=rfl;rw[this];simp[f253,SV,Vm,Vn,tF]
def Vo (n:Nat)(b z:Bool)(k m d:Int)(s:ByteArray)(h:Hp):
 cW cx (n+2) b 195 [.ag [k,m,d,.sc (.string s),fG z []]] h=some (.ag [k,m,d,.sc (.string s),SV z],h++[.row [k,m,d,.sc (.string s),SV z],.row [k,m,d,.sc (.string s),SV z]]):=by
 rw[De (n:=n+1) (λi=>i==5) f195 [.cell 2 5 true]];have aa:=λb h=>QO n b z h
 have hL:(fG z []=()/\SV z=())\/(fG z []= .ls 5 [] false/\SV z= .ls 5 [] true):=by cases z<;>simp[fG,ql,dN,SV]
 generalize fG z []=L at aa hL|-;generalize SV z=L' at aa hL|-;rcases hL with⟨rfl,rfl⟩|⟨rfl,rfl⟩
 .simp[f195,aa,da];refine mS (C:=cx) (G:=λr=>eQ _ (qw _ _ _ (dL _ r) _)=some _)
   (λi st=>st.1.length=26/\gt st.1 1= .pt h.length 0/\gt st.1 2= .pt (h.length+1) 0/\gt st.1 10=(0:Int)/\gt st.1 11=(0:Int)/\st.2=h++[.row [k,m,d,.sc (.string s),()],.row [(0:Int),(0:Int),(0:Int),.sc (.string ⟨#[]⟩),()]])
   (λo st=>o= .exit 0/\st.1.length=26/\gt st.1 1= .pt h.length 0/\gt st.1 2= .pt (h.length+1) 0/\st.2=h++[.row [k,m,d,.sc (.string s),()],.row [(0:Int),(0:Int),(0:Int),.sc (.string ⟨#[]⟩),()]]) 0 (by simp) ⟨rfl,rfl,rfl,rfl,rfl,rfl⟩ ?_ ?_
  .rintro i fr hp eG ⟨cU,g1,g2,g10,g11,hh⟩;simp only at cU g1 g2 g10 g11 hh;subst hh;simp[cU,g1,g2,g10,g11]
  .rintro o fr hp hn ⟨rfl,cU,g1,g2,hh⟩;simp only at cU g1 g2 hh;subst hh;simp[cU,g1,g2,da]
 .simp[f195,aa,da];refine mS (C:=cx) (G:=λr=>eQ _ (qw _ _ _ (dL _ r) _)=some _)
   (λi st=>st.1.length=26/\gt st.1 1= .pt h.length 0/\gt st.1 2= .pt (h.length+1) 0/\gt st.1 10=(0:Int)/\gt st.1 11=(0:Int)/\st.2=h++[.row [k,m,d,.sc (.string s),.ls 5 [] true],.row [(0:Int),(0:Int),(0:Int),.sc (.string ⟨#[]⟩),()]])
   (λo st=>o= .exit 0/\st.1.length=26/\gt st.1 1= .pt h.length 0/\gt st.1 2= .pt (h.length+1) 0/\st.2=h++[.row [k,m,d,.sc (.string s),.ls 5 [] true],.row [(0:Int),(0:Int),(0:Int),.sc (.string ⟨#[]⟩),()]]) 0 (by simp) ⟨rfl,rfl,rfl,rfl,rfl,rfl⟩ ?_ ?_
  .rintro i fr hp eG ⟨cU,g1,g2,g10,g11,hh⟩;simp only at cU g1 g2 g10 g11 hh;subst hh;simp[cU,g1,g2,g10,g11]
  .rintro o fr hp hn ⟨rfl,cU,g1,g2,hh⟩;simp only at cU g1 g2 hh;subst hh;simp[cU,g1,g2,da]
def Vp {f:FuncId}{args:LA}{n:Nat}(r0:AV)(fi:Fi)(hF:cx.F f=some fi)(iG:tv cx fi.body=true)(hs:cx.ox f=none)(hi:cx.inl f=false)(hl:args.length<=fi.ntmps)(hc:args.all d_=true)
 (hb:∃r h',eQ fi.res (dS cx (cW cx n) fi.body (args++List.replicate (fi.ntmps-args.length) .un,[]))=some (r,h')/\∃r',Ae.dq h' 8 r=some r'/\nfW r'=r0) (ht:(vM f && (Mr f && !Dw f))=true:=by decide) (b:Bool) (h:Hp):cW cx (n+1) b f args h=some (r0,h):=by
 obtain⟨r,h',hb,r',hr,hR⟩:=hb;rw[Zh,Zh,Xc]at ht;have:=nD (C:=cx) hs hi (rv ht.1) hc (by rw[kh hF iG hl];exact hb) hr b h;rw[this];show some (LS f r',h)=_;unfold LS;rw[ht.2.1,ht.2.2];simp[hR]
def wAq {f:FuncId}{args:LA}{n:Nat}{r0:AV}(fn:Func)(res:List Rv)(hc:args.all d_=true)(hb:∃r h',eQ res (dS cx (cW cx n) ((fn.body).getD .skip) (args++List.replicate (fn.ntmps-args.length) .un,[]))=some (r,h')/\∃r',Ae.dq h' 8 r=some r'/\nfW r'=r0)(b:Bool)(h:Hp)(ht:(vM f&&(Mr f&&!Dw f))=true:=by decide)(hF:cx.F f=some ⟨fn.ntmps,(fn.body).getD .skip,res⟩:=by kernel_rfl)(iG:tv cx ((fn.body).getD .skip)=true:=by kernel_rfl)(hi:cx.inl f=false:=by kernel_rfl)(hl:Nat.ble args.length fn.ntmps=true:=by rfl):cW cx (n+1) b f args h=some (r0,h):=
 Vp r0 ⟨fn.ntmps,(fn.body).getD .skip,res⟩ hF iG rfl hi (Nat.le_of_ble_eq_true hl) hc hb ht b h
def adU (n:Nat)(b:Bool)(h:Hp):cW cx (n+1) b 196 [] h=some (.ag (enc zeroV),h):=by
 refine fZ f196 [.cell 0 5 true] rfl rfl ?_ b h;simp[f196,da,rk]
def At (h:Hp)(i:Nat)(b:fp):Prop:=h[i]?=some b
def At.app {h:Hp}{i:Nat}{b:fp}(k:At h i b)(y:Hp):At (h++y) i b:=by
 unfold At at *;rw[Zd (Za.1 k).1];exact k
def At.get {h:Hp}{i:Nat}{b:fp}(k:At h i b)(j:i<h.length):h[i]'j=b:=(Za.1 k).2
def Cn (v:V):V:= .mk v.k v.n v.d v.s false []
def adV (n:Nat)(b:Bool)(l:List iP)(z:Bool)(x:ByteArray)(h:Hp)(hl:l.length<=1000000000000000)(hp:∀c∈l,c.v.l=[]):
 cW cx (n+3) b 122 [iE l z,.sc (.string x)] h=some (.ag (enc (Cn (jf l x))),h):=by
 refine wAq f122 [.cell 4 5 true] (N_ _ _ _) ?_ b h;have hq:=dW l;have hg:=qo l;have aa:=adU (n+1);unfold iE;generalize iy l=cY at hq hg;generalize hv:jf l x=v;have wG:v=xe l x 0:=hv.symm;have nd:∀(z':Bool),∃r',Ae.dq ([]:Hp) 8 (.ag [v.k,v.n,v.d,.sc (.string v.s),SV z'])=some r'/\nfW r'= .ag (enc (Cn v)):=λz'=>by cases z'<;>exact⟨_,rfl,rfl⟩
 simp[f122];refine eC (C:=cx) (G:=λr=>∃r0 h',eQ _ (eR _ _ (dL _ r) _)=some (r0,h')/\∃r',Ae.dq h' 8 r0=some r'/\nfW r'=_)
  (λi s=>v=xe l x i/\s.1.length=22/\gt s.1 1= .sc (.string x)/\gt s.1 4= .pt 0 0/\gt s.1 7= .ls 6 cY z/\gt s.1 8=l.length/\gt s.1 9=i/\At s.2 0 (.row (enc zeroV)))
  (λo s=>s.1.length=22/\gt s.1 4= .pt 0 0/\((o= .exit 0/\v=zeroV/\At s.2 0 (.row (enc zeroV)))\/(o= .ret/\∃z',At s.2 0 (.row [v.k,v.n,v.d,.sc (.string v.s),SV z'])))) l.length (by simp;omega) ⟨wG,rfl,rfl,rfl,rfl,by simp[hq],rfl,by rw[rk];rfl⟩ ?_ ?_
 .rintro i fr h eG ⟨ho,cU,h1,h4,h7,h8,h9,hh⟩;simp only at cU h1 h4 h7 h8 h9 hh;by_cases hi:i<l.length
  .obtain⟨c,hx⟩:=eA hi;have fq:=hp c (Zi hx);rw[BA hx]at ho;obtain⟨ck,cv⟩:=c;obtain⟨k,m,d,s,z',q⟩:=cv;simp only[V.l]at fq;subst fq;have hr:cY[i]?=some [.sc (.string ck),.sc (.int .i64 k),.sc (.int .i64 m),.sc (.int .i64 d),.sc (.string s),fG z' []]:=by rw[hg,hx];rfl
   have du:∀kx,cY[i]'kx=[.sc (.string ck),.sc (.int .i64 k),.sc (.int .i64 m),.sc (.int .i64 d),.sc (.string s),fG z' []]:=λk=>by obtain⟨_,e⟩:=Za.1 hr;exact e
   have hf:=di (Yn eG hl);have ae:=λb h=>Vo n b z' k m d s h
   have qg:0<h.length:=(Za.1 hh).1;have hh':∀y,(h++y)[0]?=some (.row (enc zeroV)):=λy=>hh.app y
   have hh2:∀y k,(h++y)[0]'k= .row (enc zeroV):=λy k=>(hh.app y).get k
   have KV:∀y w,((h++y).set 0 w)[0]?=some w:=λy w=>Zj (by simp;omega)
   have hL:eT (fG z' [])=true:=by cases z'<;>rfl
   have q0:=λ(cal:FuncId->LA->Hp->Option (AV × Hp)) (ops:Array Oper) (d:Tmp) (rest:List Oper) (fr:LA) (h:Hp)=>kW (C:=cx) (cal:=cal) (ops:=ops) (x:=fG z' []) (λv e=>by rw[e]at hL;cases hL) d rest fr h
   generalize fG z' []=L at *;cases hk:kr ck x
   .rw[db (by simp[hk])]at ho;simp[cU,h1,h4,h7,h8,h9,hi,hq,du,hk,hf,da];exact⟨ho,hh.app _⟩
   .rw[dd (by simp[hk])]at ho;subst ho;simp[cU,h1,h4,h7,h8,h9,hi,hq,du,hk,da,ae,hh2,rk];cases z'
    .exact .inl (KV _ _)
    .exact .inr (KV _ _)
  .have zz:v=zeroV:=by rw[ho,El l x i (by omega)]
   simp[cU,h4,h8,h9,hi,zz];exact hh
 .rintro o fr h hn ⟨cU,h4,⟨rfl,hz,hh⟩|⟨rfl,z',hh⟩⟩
  .simp only at cU h4 hh;have xC:h[0]?=some (.row (enc zeroV)):=hh;have KV:∀w,(h.set 0 w)[0]?=some w:=λw=>Zj (Za.1 xC).1
   rw[rk]at xC aa;simp[cU,h4,aa,xC,KV,da];exact gz ⟨_,rfl,by rw[hz];rfl⟩
  .simp only at cU h4 hh;have xC:h[0]?=some (.row [v.k,v.n,v.d,.sc (.string v.s),SV z']):=hh;simp[h4,xC];refine⟨_,_,⟨rfl,rfl⟩,?_⟩;cases z'<;>exact⟨_,rfl,rfl⟩
def Ak :List ByteArray->Int->Int
 | [],b=>b
 |c::l,b=>if 0<=b then Ak l (b-(c.size:Int)/50)else b
def Co :List Nd->Int->Int
 | [],b=>b
 |c::l,b=>if 0<=b then Co l (Ak c.labels (um c.props (b-c.labels.length)))else b
def edW :List Ed->Int->Int
 | [],b=>b
 |c::l,b=>if 0<=b then edW l (um c.props (b-(c.type.size:Int)/50))else b
def zF (l:List ByteArray)(b:Int)(i:Nat):Int:=Ak (l.drop i) b
def QP (l:List ByteArray)(b:Int)(i:Nat)(h:l.length<=i):zF l b i=b:=by unfold zF;rw[Zt h,Ak]
def QQ (l:List ByteArray)(b:Int)(i:Nat)(h:b<0):zF l b i=b:=by
 unfold zF;cases l.drop i with
 |nil=>rw[Ak]
 |cons x xs=>rw[Ak,db (by omega)]
def Ms {l:List ByteArray}{i:Nat}{c:ByteArray}{b:Int}(h:l[i]?=some c)(hb:0<=b):zF l b i=zF l (b-(c.size:Int)/50) (i+1):=by
 obtain⟨k,e⟩:=Za.1 h;unfold zF;rw[Zm k,e,Ak,dd hb]
def zG (l:List Nd)(b:Int)(i:Nat):Int:=Co (l.drop i) b
def QR (l:List Nd)(b:Int)(i:Nat)(h:l.length<=i):zG l b i=b:=by unfold zG;rw[Zt h,Co]
def QS (l:List Nd)(b:Int)(i:Nat)(h:b<0):zG l b i=b:=by
 unfold zG;cases l.drop i with
 |nil=>rw[Co]
 |cons x xs=>rw[Co,db (by omega)]
def Mt {l:List Nd}{i:Nat}{c:Nd}{b:Int}(h:l[i]?=some c)(hb:0<=b):zG l b i=zG l (Ak c.labels (um c.props (b-c.labels.length))) (i+1):=by
 obtain⟨k,e⟩:=Za.1 h;unfold zG;rw[Zm k,e,Co,dd hb]
def Jn (l:List Ed)(b:Int)(i:Nat):Int:=edW (l.drop i) b
def Vq (l:List Ed)(b:Int)(i:Nat)(h:l.length<=i):Jn l b i=b:=by unfold Jn;rw[Zt h,edW]
def Vr (l:List Ed)(b:Int)(i:Nat)(h:b<0):Jn l b i=b:=by
 unfold Jn;cases l.drop i with
 |nil=>rw[edW]
 |cons x xs=>rw[edW,db (by omega)]
def QT {l:List Ed}{i:Nat}{c:Ed}{b:Int}(h:l[i]?=some c)(hb:0<=b):Jn l b i=Jn l (um c.props (b-(c.type.size:Int)/50)) (i+1):=by
 obtain⟨k,e⟩:=Za.1 h;unfold Jn;rw[Zm k,e,edW,dd hb]
def Gi :∀(l:List ByteArray) (b:Int),b<=2000->Ak l b<=2000
 | [],b,h=>by rw[Ak];exact h
 |
  x::xs,b,h=>by
  rw[Ak];split
  .exact Gi xs _ (by omega)
  .exact h
def OD :∀(l:List Nd) (b:Int),b<=2000->Co l b<=2000
 | [],b,h=>by rw[Co];exact h
 |
  x::xs,b,h=>by
  rw[Co];split
  .exact OD xs _ (Gi _ _ (AJ _ _ (by omega)))
  .exact h
def tC (g:Gr):Bool:=if 10<g.nodes.length\/12<g.cZ.length then false else decide (0<=edW g.cZ (Co g.nodes 2000))
structure SzB (g:Gr):Prop where
 n:∀m∈g.nodes,(∀x∈m.labels,x.size<=1000000000000000)/\∀c∈m.props,c.key.size<=1000000000000000
 e:∀m∈g.cZ,m.type.size<=1000000000000000/\∀c∈m.props,c.key.size<=1000000000000000
def Cp {call:Bool->FuncId->LA->Hp->Option (AV × Hp)}(Inv:Nat->St->Prop)(Q:Out->St->Prop)(N:Nat)(hN:N<cx.fuel)(X:Option (Out × St))(c:Code)(fr:LA)(h:Hp)(hX:dS cx call (.loop c) (fr,h)=X)(hI:Inv 0 (fr,h))
 (step:∀i fr h,i<=N->Inv i (fr,h)->YO Inv Q N i (dS cx call c (fr,h))):∃o oC h',X=some (o,(oC,h'))/\Q o (oC,h'):=by
 subst hX;exact eC (C:=cx) (G:=λr=>∃o oC h',r=some (o,(oC,h'))/\Q o (oC,h')) Inv Q N hN hI step (λo fr h _ hq=>⟨o,fr,h,rfl,hq⟩)
def Vs (g:Gr)(x y:Int):[AV.ag (dn g),.sc (.int .i64 x),.sc (.int .i64 y)].all d_=true:=rfl
def QU (N D:Nat)(b:Bool)(g:Gr)(h:Hp)(hb:AX D g)(hs:SzB g):
 cW cx (N+D+3) b 21 [.ag (dn g),(10:Int),(12:Int)] h=some (.sc (.bool (tC g)),h):=by
 refine fZ f21 [.tmp 6] (Vs _ _ _) rfl ?_ b h;have hq:=fJ g.nodes;have hg:=mM g.nodes;have jA:=fU g.cZ;have qK:=mN g.cZ;have nS:=hb.nl;have Bu:=hb.el;have fw:=λb (l:List iP) (z:Bool) (n:Int) h hl hn hb=>QD N D b l z n h hl hn hb
 unfold tC dn gh gE;generalize lU g.nodes=cY at hq hg;generalize mA g.cZ=h_ at jA qK;by_cases PV:10<g.nodes.length\/12<g.cZ.length
 .rw[dd PV];by_cases h1:10<g.nodes.length
  .have zH:(10:Int)<g.nodes.length:=by omega
   simp[f21,hq,zH]
  .have h2:12<g.cZ.length:=by omega
   have zH:¬(10:Int)<g.nodes.length:=by omega
   have wT:(12:Int)<g.cZ.length:=by omega
   simp[f21,hq,jA,zH,wT]
 .rw[db PV];have h1:¬10<g.nodes.length:=by omega
  have h2:¬12<g.cZ.length:=by omega
  have zH:¬(10:Int)<g.nodes.length:=by omega
  have wT:¬(12:Int)<g.cZ.length:=by omega
  generalize hT1:Co g.nodes 2000=T1;have ajX:T1<=2000:=by rw[<-hT1];exact OD _ _ (by omega)
  generalize hT2:edW g.cZ T1=T2;simp[f21,hq,jA,zH,wT];refine lS
   (λi st iR=>∃c:Int,T1=zG g.nodes c i/\c<=2000/\st.length=98/\gt st 3= .pt 0 0/\gt st 7=c/\gt st 8=i/\At iR 0 (.row [.ls 3 cY false,.ls 5 h_ false,g.nn,g.ne]))
   (λo s iR=>o= .exit 0/\s.length=98/\gt s 3= .pt 0 0/\gt s 7=T1/\At iR 0 (.row [.ls 3 cY false,.ls 5 h_ false,g.nn,g.ne])) g.nodes.length (by simp;omega) (by exact ⟨2000,hT1.symm,by omega,rfl,rfl,rfl,rfl,rfl⟩) ?_ ?_
  .rintro i fr hp eG ⟨c,hT,hc,cU,h3,h7,h8,hh⟩;have xC:hp[0]?=some (.row [.ls 3 cY false,.ls 5 h_ false,g.nn,g.ne]):=hh;have qg:=(Za.1 xC).1;have hh1:∀y,(hp++y)[0]?=some (.row [.ls 3 cY false,.ls 5 h_ false,g.nn,g.ne]):=λy=>hh.app y
   have hh2:∀y k,(hp++y)[0]'k= .row [.ls 3 cY false,.ls 5 h_ false,g.nn,g.ne]:=λy k=>(hh.app y).get k
   by_cases hi:i<g.nodes.length
   .by_cases pS:0<=c
    .obtain⟨x,hx⟩:=eA hi;have hm:=Zi hx;have AK:=hb.ns x hm;have hxs:=hs.n x hm;have C_:=AK.1;have hfu:x.labels.length<cx.fuel:=by simp;omega
     have Fg:=AJ x.props (c-(x.labels.length:Int)) (by omega);have fq:c-(x.labels.length:Int)<=2000:=by omega
     have e1:dM .i64 (c-(x.labels.length:Int))=c-(x.labels.length:Int):=dh (by omega) (by omega);have hw:=λb h=>fw b x.props false (c-(x.labels.length:Int)) h AK.2.1 fq λy hy=>⟨(AK.2.2 y hy).1,(AK.2.2 y hy).2,hxs.2 y hy⟩
     have hr:cY[i]?=some [.sc (.int .i64 x.id),.ls 1 (gP x.labels) false,.ls 6 (iy x.props) false]:=by rw[hg,hx];rfl
     have du:=gA hr
     have hql:=dG x.labels;have EB:=kF x.labels;unfold iE at hw;have dD:=Mt hx pS;rw[<-hT]at dD;have hf:=di (Yn eG nS);generalize hW0:um x.props (c-(x.labels.length:Int))=W0 at hw dD Fg;generalize hW:Ak x.labels W0=W at dD;have hWl:W<=2000:=by rw[<-hW];exact Gi _ _ Fg
     generalize gP x.labels=Jo at hr du hql EB;simp[cU,h3,h7,h8,hi,hq,du,pS,hw,e1,hql,xC,da];generalize hX:dS cx (cW cx (N+D+2)) (Code.loop _) _=X;obtain⟨o2,xz,lW,rfl,rfl,fl,q3,q7,q8,qh⟩:=Cp (call:=cW cx (N+D+2))
      (λj st=>∃c':Int,W=zF x.labels c' j/\c'<=2000/\st.1.length=98/\gt st.1 3= .pt 0 0/\gt st.1 7=c'/\gt st.1 8=i/\gt st.1 9= .pt hp.length 0/\gt st.1 10=j/\At st.2 0 (.row [.ls 3 cY false,.ls 5 h_ false,g.nn,g.ne])/\At st.2 hp.length (.row [x.id,.ls 1 Jo false,.ls 6 (iy x.props) false]))
      (λo s=>o= .exit 2/\s.1.length=98/\gt s.1 3= .pt 0 0/\gt s.1 7=W/\gt s.1 8=i/\At s.2 0 (.row [.ls 3 cY false,.ls 5 h_ false,g.nn,g.ne])) x.labels.length hfu X _ _ _ hX ⟨W0,hW.symm,Fg,by simp[cU],by simp[h3],by simp[cU],by simp[h8],by simp[cU],by simp[cU],hh.app _,by unfold At;simp⟩ (by
      clear h3 h7 h8 cU xC hh1 hh2 qg hh dD hW Fg hw e1 hc hT hr du hf hX;rintro j fr lW rE ⟨c',Z3,Hj,cU,h3,h7,h8,h9,lQ,hh,hn⟩;simp only at cU h3 h7 h8 h9 lQ hh hn;have x9:lW[hp.length]?=some (.row [x.id,.ls 1 Jo false,.ls 6 (iy x.props) false]):=hn;by_cases hj:j<x.labels.length
      .by_cases hc3:0<=c'
       .obtain⟨y,hy⟩:=eA hj;have wL:=hxs.1 y (Zi hy);have r9:Jo[j]?=some [.sc (.string y)]:=by rw[EB,hy];rfl
        have lK:=gA r9
        have hc4:c'-(y.size:Int)/50<=2000:=by omega
        have agp:=Ms hy hc3;rw[<-Z3]at agp;have hf2:=di (Yn rE C_);have e2:dM .i64 ((y.size:Int)/50)=(y.size:Int)/50:=dh (by omega) (by omega);have e3:dM .i64 (c'-(y.size:Int)/50)=c'-(y.size:Int)/50:=dh (by omega) (by omega);simp[cU,h3,h7,h8,h9,lQ,hj,hql,lK,hc3,x9,e2,e3,hf2];exact⟨_,agp,hc4,rfl,hh,hn⟩
       .have zz:W=c':=by rw[Z3,QQ _ _ _ (by omega)]
        simp[cU,h3,h7,h8,h9,lQ,hj,hql,hc3,x9,zz];exact hh
      .have zz:W=c':=by rw[Z3,QP _ _ _ (by omega)]
       simp[cU,h3,h7,h8,h9,lQ,hj,hql,x9,zz];exact hh)
     simp only at fl q3 q7 q8 qh;simp[fl,q3,q7,q8,hf];exact⟨hi,_,dD,hWl,rfl,qh⟩
    .have zz:T1=c:=by rw[hT,QS _ _ _ (by omega)]
     simp[cU,h3,h7,h8,hi,hq,pS,zz,xC];exact hh
   .have zz:T1=c:=by rw[hT,QR _ _ _ (by omega)]
    simp[cU,h3,h7,h8,hi,hq,zz,xC];exact hh
  .rintro o fr hp hn ⟨rfl,cU,h3,h7,hh⟩;simp;have xC:hp[0]?=some (.row [.ls 3 cY false,.ls 5 h_ false,g.nn,g.ne]):=hh;refine lS
    (λi st iR=>∃c:Int,T2=Jn g.cZ c i/\c<=2000/\st.length=98/\gt st 3= .pt 0 0/\gt st 7=c/\gt st 11=i/\At iR 0 (.row [.ls 3 cY false,.ls 5 h_ false,g.nn,g.ne]))
    (λo s _=>o= .exit 4/\s.length=98/\gt s 7=T2) g.cZ.length (by simp;omega) (by exact ⟨T1,hT2.symm,ajX,by simp[cU],by simp[h3],by simp[h7],by simp[cU],hh⟩) ?_ ?_
   .clear cU h3 h7 hh xC;rintro i fr hp eG ⟨c,hT,hc,cU,h3,h7,tM,hh⟩;have xC:hp[0]?=some (.row [.ls 3 cY false,.ls 5 h_ false,g.nn,g.ne]):=hh;by_cases hi:i<g.cZ.length
    .by_cases pS:0<=c
     .obtain⟨x,hx⟩:=eA hi;have hm:=Zi hx;have AK:=hb.es x hm;have hxs:=hs.e x hm;have fq:c-(x.type.size:Int)/50<=2000:=by omega
      have Fg:=AJ x.props (c-(x.type.size:Int)/50) fq;have e2:dM .i64 ((x.type.size:Int)/50)=(x.type.size:Int)/50:=dh (by omega) (by omega);have e3:dM .i64 (c-(x.type.size:Int)/50)=c-(x.type.size:Int)/50:=dh (by omega) (by omega);have hw:=λb h=>fw b x.props false (c-(x.type.size:Int)/50) h AK.1 fq λy hy=>⟨(AK.2 y hy).1,(AK.2 y hy).2,hxs.2 y hy⟩
      have hr:h_[i]?=some [.sc (.int .i64 x.id),.sc (.int .i64 x.src),.sc (.int .i64 x.dst),.sc (.string x.type),.ls 6 (iy x.props) false]:=by rw[qK,hx];rfl
      have du:=gA hr
      unfold iE at hw;have dD:=QT hx pS;rw[<-hT]at dD;have hf:=di (Yn eG Bu);generalize um x.props (c-(x.type.size:Int)/50)=W0 at hw dD Fg;simp[cU,h3,h7,tM,hi,jA,du,pS,hw,e2,e3,xC,hf];exact⟨_,dD,Fg,rfl,hh⟩
     .have zz:T2=c:=by rw[hT,Vr _ _ _ (by omega)]
      simp[cU,h3,h7,tM,hi,jA,pS,zz,xC]
    .have zz:T2=c:=by rw[hT,Vq _ _ _ (by omega)]
     simp[cU,h3,h7,tM,hi,jA,zz,xC]
   .rintro o fr hp hn ⟨rfl,cU,h7⟩;simp[cU,h7]
end
end Go.Proofs.YtaibpnppeiigdaaGreatDoor
