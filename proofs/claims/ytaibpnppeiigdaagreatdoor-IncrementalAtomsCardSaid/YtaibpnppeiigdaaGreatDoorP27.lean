/- Part of the proof. -/
import Derived.Test.YtaibpnppeiigdaaGreatDoorP26
set_option linter.all false
set_option maxHeartbeats 16000000
set_option maxRecDepth 100000
namespace Go.Proofs.YtaibpnppeiigdaaGreatDoor
open Go Go.Ae Go.Proofs.Tryz
section
attribute [local simp] zi da XM
def sO (k:Int):Int:=if k=1 then 1 else if k=2 then 1 else if k=4 then 1 else if k=3 then 3 else 0
def DF (k:Int):Int:=if k=1 then 1 else if k=2 then 1 else if k=4 then 1 else if k=3 then 3 else-1
def aaK (n:Nat)(b:Bool)(k:Int)(h:Hp):cW cx (n+1) b 112 [k] h=some (.sc (.int .i64 (sO k)),h):=by
 refine fZ f112 [.tmp 2] rfl rfl ?_ b h;unfold sO;by_cases h1:k=1
 .subst h1;simp[f112]
 by_cases h2:k=2
 .subst h2;simp[f112]
 by_cases h4:k=4
 .subst h4;simp[f112]
 by_cases h3:k=3
 .subst h3;simp[f112]
 simp[f112,h1,h2,h3,h4]
def aaL (n:Nat)(b:Bool)(k:Int)(h:Hp):cW cx (n+1) b 80 [k] h=some (.sc (.int .i64 (DF k)),h):=by
 refine fZ f80 [.tmp 2] rfl rfl ?_ b h;unfold DF;by_cases h1:k=1
 .subst h1;simp[f80]
 by_cases h2:k=2
 .subst h2;simp[f80]
 by_cases h4:k=4
 .subst h4;simp[f80]
 by_cases h3:k=3
 .subst h3;simp[f80]
 simp[f80,h1,h2,h3,h4]
def SY (x:Int)(l:List Int)(i:Nat):Int:=(l.take i).foldl (λm y=>if y<m then y else m) x
def VT (l:List Int):Int:=match l with| []=>0|x::t=>SY x t t.length
def VU {x:Int}{l:List Int}{i:Nat}{y:Int}(h:l[i]?=some y):SY x l (i+1)=if y<SY x l i then y else SY x l i:=by
 unfold SY;rw[Yx,h,List.foldl_append];rfl
def agI (n:Nat)(b:Bool)(x:Int)(l:List Int)(z:Bool)(h:Hp)(hl:l.length<=1000000):cW cx (n+1) b 113 [.ls 1 (tI (x::l)) z] h=some (.sc (.int .i64 (VT (x::l))),h):=by
 refine fZ f113 [.tmp 2] rfl rfl ?_ b h;have hq:=dU (x::l);have hg:=lf (x::l);rw[Yw]at hq;have h0:(tI (x::l))[0]?=some [.sc (.int .i64 x)]:=by rw[hg];rfl
 have Q1:VT (x::l)=SY x l l.length:=rfl;rw[Q1];generalize tI (x::l)=cY at hq hg h0;have Ft:=gA h0
 have hn1:¬((cY.length:Nat):Int)<1:=by omega
 have qC:0<cY.length:=by omega
 simp[f113,Ft,hn1,qC];refine lS
  (λi s _=>i<=l.length/\s.length=25/\gt s 0= .ls 1 cY z/\gt s 3= .sc (.int .i64 (SY x l i))/\gt s 4= .sc (.int .i64 ((i+1:Nat):Int)))
  (λo s _=>o= .exit 0/\s.length=25/\gt s 3= .sc (.int .i64 (SY x l l.length))) l.length (by simp;omega) (by exact ⟨by omega,rfl,rfl,rfl,rfl⟩) ?_ ?_
 .rintro i fr hp _ ⟨kY,cU,g0,g3,g4⟩;obtain⟨j,hj⟩:∃j,j=i+1:=⟨_,rfl⟩;rw[<-hj]at g4;have DE:j<=1000000000000000:=by omega
  have BT:((i+1+1:Nat):Int)=((j+1:Nat):Int):=by rw[hj]
  by_cases hi:i<l.length
  .obtain⟨y,hy⟩:=eA hi;have hr:cY[j]?=some [.sc (.int .i64 y)]:=by rw[hg,hj,Yf,hy];rfl
   have du:=gA hr
   have dD:=VU (x:=x) hy;have jU:j<cY.length:=by omega
   generalize SY x l i=m at g3 dD;simp[cU,g0,g3,g4,du,jU,hi,di DE];rw[dD];clear dD;refine⟨hi,rfl,?_⟩;rw[hj];simp
  .have gG:i=l.length:=Yc kY (Yb hi);subst gG;have jU:¬j<cY.length:=by omega
   simp[cU,g0,g3,g4,jU]
 .rintro o fr hp hn ⟨rfl,cU,g3⟩;simp[cU,g3]
def htS (e:Ed)(ts:List ByteArray):Bool:=ts.isEmpty||oI ts e.type
def OI (e:Ed)(ts:List ByteArray):[AV.ag (eY e),iK ts false].all d_=true:=rfl
def Q2 (n:Nat)(b:Bool)(e:Ed)(ts:List ByteArray)(h:Hp)(hl:ts.length<=1000000000000000):cW cx (n+3) b 62 [.ag (eY e),iK ts false] h=some (.sc (.bool (htS e ts)),h):=by
 refine fZ f62 [.tmp 4] (OI _ _) rfl ?_ b h;have aa:=λb h=>zp n b ts false e.type h hl
 have hq:=dG ts;have he:ts.isEmpty=decide (ts.length=0):=by cases ts<;>simp
 unfold htS;rw[he];generalize oI ts e.type=r at aa|-;unfold eY iK at *;generalize gP ts=cY at aa hq|-;generalize ts.length=m at hq|-;generalize n+2=M at aa|-;by_cases h0:m=0
 .subst h0;simp[f62,hq]
 .simp[f62,hq,h0,aa]
def Q3 (n:Nat)(b:Bool)(e:Ed)(ts:List ByteArray)(h:Hp)(hl:ts.length<=1000000000000000):cW cx (n+2) b 71 [.ag (eY e),iK ts false] h=some (.sc (.bool (htS e ts)),h):=by
 refine fZ f71 [.tmp 4] (OI _ _) rfl ?_ b h;have aa:=λb h=>Bw n b ts false e.type h hl
 have hq:=dG ts;have he:ts.isEmpty=decide (ts.length=0):=by cases ts<;>simp
 unfold htS;rw[he];generalize oI ts e.type=r at aa|-;unfold eY iK at *;generalize gP ts=cY at aa hq|-;generalize ts.length=m at hq|-;generalize n+1=M at aa|-;by_cases h0:m=0
 .subst h0;simp[f71,hq]
 .simp[f71,hq,h0,aa]
end
section
attribute [local simp] zi XM
def Gp {α:Type}[DecidableEq α](x y:α)(t:List α):oK (x::y::t)=if x=y then oK (y::t)else x::oK (y::t):=by rw[oK]
def Cu {α:Type}[DecidableEq α](x y:α):∀a:List α,oK (a++[y]++[x])=oK (a++[y])++(if y=x then[]else[x])
 |
  []=>by
  show oK [y,x]=oK [y]++_;rw[oK,oK,oK];split
  .rename_i e;subst e;rfl
  .rfl
 |
  [z]=>by
  have ih:=Cu x y [];simp only[Zw,List.singleton_append]at ih;show oK (z::y:: [x])=oK (z::y:: [])++_;rw[Gp z y [x],Gp z y [],ih];split<;>simp
 |
  z::w::a=>by
  have ih:=Cu x y (w::a);simp only[Zv]at ih;show oK (z::w::(a++[y]++[x]))=oK (z::w::(a++[y]))++_;rw[Gp,Gp,ih];split<;>simp
def Jw {α:Type}[DecidableEq α]{l:List α}{m:Nat}{x y:α}(hx:l[m+1]?=some x)(hy:l[m]?=some y):oK (l.take (m+2))=oK (l.take (m+1))++(if y=x then[]else[x]):=by
 have h1:l.take (m+2)=l.take m++[y]++[x]:=by rw[Yx,hx,Yx,hy];rfl
 have h2:l.take (m+1)=l.take m++[y]:=by rw[Yx,hy];rfl
 rw[h1,h2];exact Cu x y _
def aaM {α:Type}[DecidableEq α]{l:List α}(h:l≠ []):0< (oK l).length:=by
 fun_induction oK l with
 |case1=>exact absurd rfl h
 |case2 x=>simp
 |case3 y t ih=>exact ih (by simp)
 |case4 x y t q ih=>simp
def ux {call:Bool->FuncId->LA->Hp->Option (AV × Hp)}(Inv:Nat->St->Prop)(Q:Out->St->Prop)(N:Nat)(hN:N<cx.fuel)(X:Option (Out × St))(c:Code)(fr:LA)(h:Hp)(hX:dS cx call (.loop c) (fr,h)=X)(hI:Inv 0 (fr,h))
 (step:∀i fr h,i<=N->Inv i (fr,h)->YO Inv Q N i (dS cx call c (fr,h))):∃o oC h',X=some (o,(oC,h'))/\Q o (oC,h'):=by
 subst hX;exact eC (C:=cx) (G:=λr=>∃o oC h',r=some (o,(oC,h'))/\Q o (oC,h')) Inv Q N hN hI step (λo fr h _ hq=>⟨o,fr,h,rfl,hq⟩)
def eI (x:Int):AV:= .sc (.int .i64 x)
def fD (l:List Int):LA:=l.map eI
def jk (l:List Int):(fD l).length=l.length:=by simp[fD]
def u_ (l:List Int)(i:Nat):(fD l)[i]?=(l[i]?).map eI:=by simp[fD]
def EK (a b:List Int):fD (a++b)=fD a++fD b:=by simp[fD]
structure CpI (l:List Int)(id:Nat)(h:Hp)(k:Nat)(c:Nat)(s:St):Prop where
 le:k+c<l.length
 len:s.1.length=61
 g0:gt s.1 0= .sl id 1 0 l.length false
 g3:gt s.1 3= .sc (.int .i64 ((oK (l.take (k+c+1))).length:Nat))
 g4:gt s.1 4= .sl id 1 k (l.length-k) false
 g5:gt s.1 5= .sc (.int .i64 ((c+1:Nat):Int))
 lt:(oK (l.take (k+c+1))).length<=k+c
 keep:∀j,j≠id->s.2[j]?=h[j]?
 row:∃X,X.length=k+c-(oK (l.take (k+c+1))).length/\s.2[id]?=some (.row (fD (oK (l.take (k+c+1)))++(X++fD (l.drop (k+c)))))
def CpQ (l:List Int)(id:Nat)(h:Hp)(o:Out)(s:St):Prop:=o= .exit 2/\s.1.length=61/\gt s.1 0= .sl id 1 0 l.length false/\gt s.1 3= .sc (.int .i64 ((oK l).length:Nat))/\(oK l).length<l.length/\(∀j,j≠id->s.2[j]?=h[j]?)/\∃X,X.length=l.length-(oK l).length/\s.2[id]?=some (.row (fD (oK l)++X))
def Q4 (n:Nat)(b:Bool)(l:List Int)(id:Nat)(h:Hp)(eW:l≠ [])(hl:l.length<=1000000)(dC:h[id]?=some (.row (fD l))):
 ∃h' rest,cW cx (n+1) b 126 [.sl id 1 0 l.length false] h=some (.sl id 1 0 (oK l).length false,h')/\(∀j,j≠id->h'[j]?=h[j]?)/\h'[id]?=some (.row (fD (oK l)++rest)):=by
 rw[K7 (n:=n) f126 [.tmp 2]];have qC:0<l.length:=List.length_pos_iff.2 eW;have Dp:=gA dC
 by_cases h1:l.length<2
 .have e1:l.length=1:=by omega
  obtain⟨x,rfl⟩:∃x,l=[x]:=by
   match l,e1 with
   | [x],_=>exact⟨x,rfl⟩
  simp[f126];exact⟨_,⟨rfl,rfl⟩,λj _=>rfl,[],by rw[dC];rfl⟩
 .have zH:¬(l.length:Int)<2:=by omega
  simp[f126,zH];refine eC (C:=cx) (G:=λr=>∃h',eQ _ (eR _ _ (dL _ r) _)=some (_,h')/\(∀j,¬j=id->h'[j]?=h[j]?)/\∃rest,h'[id]?=some (.row (fD (oK l)++rest)))
   (λi s=>i<l.length/\s.1.length=61/\gt s.1 0= .sl id 1 0 l.length false/\gt s.1 3= .sc (.int .i64 ((i+1:Nat):Int))/\oK (l.take (i+1))=l.take (i+1)/\s.2=h)
   (λo s=>s.1.length=61/\((o= .exit 0/\gt s.1 0= .sl id 1 0 l.length false/\oK l=l/\s.2=h)\/(o= .ret/\gt s.1 2= .sl id 1 0 (oK l).length false/\(∀j,j≠id->s.2[j]?=h[j]?)/\∃rest,s.2[id]?=some (.row (fD (oK l)++rest)))))
   l.length (by simp;omega) ⟨qC,rfl,rfl,rfl,?_,rfl⟩ ?_ ?_
  .cases l with
   |nil=>exact absurd rfl eW
   |cons x t=>simp[oK]
  .rintro i fr hp _ ⟨kY,cU,g0,g3,hct,hh⟩;simp only at cU g0 g3 hh;subst hh;obtain⟨k,hk⟩:∃k,k=i+1:=⟨_,rfl⟩;rw[<-hk]at g3 hct;have QJ:k<=1000000000000000:=by omega
   by_cases hi:k<l.length
   .obtain⟨x,hx⟩:=eA hi;obtain⟨y,hy⟩:=eA kY;have hr:(fD l)[k]?=some (.sc (.int .i64 x)):=by rw[u_,hx];rfl
    have hs:(fD l)[i]?=some (.sc (.int .i64 y)):=by rw[u_,hy];rfl
    have du:=gA hr
    have kC:=gA hs
    have hql:=jk l;have dD:=Jw (l:=l) (m:=i) (x:=x) (y:=y) (by rw[<-hk];exact hx) hy;rw[show i+2=k+1 by omega,<-hk,hct]at dD;have Av:i+1<l.length:=by omega
    by_cases OJ:x=y
    .subst OJ;rw[dd rfl,Yp]at dD;have g_:k<=l.length:=by omega
     have hkn:¬k=l.length:=by omega
     simp[cU,g0,g3,hi,kY,dC,hql,du,kC,iL hk QJ,ku,gQ,g_,hkn];generalize hX:dS cx (cW cx n) (Code.loop _) _=X;have tW:(l.take k).length=k:=by rw[Yy];omega
     have HL:∃o oC h',X=some (o,(oC,h'))/\CpQ l id hp o (oC,h'):=by
      refine ux (call:=cW cx n) (λc s=>CpI l id hp k c s) (CpQ l id hp) l.length (by simp;omega) X _ _ _ hX ⟨by omega,by simp[cU],by simp[g0],by simp[g3,dD,tW],by simp[cU],by simp[cU],by rw[Nat.add_zero,dD,tW];omega,λj _=>rfl,l.drop (k-k)|>.take 0|>fD,?_,?_⟩ ?_
      .rw[Nat.add_zero,dD,tW];simp[fD]
      .rw[Nat.add_zero,dD];show hp[id]?=_;rw[dC,<-Zp];simp[fD]
      .rintro c xz h2 _ ⟨c1,c2,c3,c4,c5,c6,c7,c8,Y,c9,c10⟩;simp only at c2 c3 c4 c5 c6 c8 c10;obtain⟨j,hj⟩:∃j,j=c+1:=⟨_,rfl⟩;obtain⟨cs,hcs⟩:∃cs,cs=fD (oK (l.take (k+c+1)))++(Y++fD (l.drop (k+c))):=⟨_,rfl⟩;have fq:cs.length=l.length:=by rw[hcs,Zu,Zu,jk,jk,Xk,c9];omega
       have Jx:(fD (oK (l.take (k+c+1)))++Y).length=k+c:=by rw[Zu,jk,c9];omega
       have s6:∀q,k+c<=q->cs[q]?=(l[q]?).map eI:=λq hq=>by
        rw[hcs,<-Zp,Zf (by rw[Jx];exact hq),Jx,u_,Xg]
        congr 2;omega
       rw[<-hcs]at c10;rw[<-hj]at c6;have DE:j<=1000000000000000:=by omega
       by_cases jU:j<l.length-k
       .have OK:k+j<l.length:=by omega
        obtain⟨x',KY⟩:∃p,l[k+j]?=some p:=⟨_,Zb OK⟩;obtain⟨y',Gd⟩:∃p,l[k+c]?=some p:=⟨_,Zb c1⟩;have r1:cs[k+j]?=some (.sc (.int .i64 x')):=by rw[s6 _ (by omega),KY];rfl
        have r2:cs[k+c]?=some (.sc (.int .i64 y')):=by rw[s6 _ (by omega),Gd];rfl
        have r1':=gA r1
        have r2':=gA r2
        have c10':=gA c10
        have Al:=Jw (l:=l) (m:=k+c) (x:=x') (y:=y') (by rw[show k+c+1=k+j by omega];exact KY) Gd;have jD:id<h2.length:=(Za.1 c10).1;have BT:∀s,CpI l id hp k j s->CpI l id hp k (c+1) s:=λs q=>by rw[<-hj];exact q
        have PI:c<l.length-k:=by omega
        have hcN:c<l.length:=by omega
        rw[show k+c+2=k+j+1 by omega]at Al;have Dh:fD (l.drop (k+c))=eI y'::fD (l.drop (k+j)):=by
         obtain⟨q,e⟩:=Za.1 Gd;rw[Zm q,e,show k+c+1=k+j by omega];rfl
        clear Jx s6;generalize oK (l.take (k+c+1))=C at c4 c7 c9 hcs Al;by_cases OJ:x'=y'
        .rw[dd OJ.symm,Yp]at Al;subst OJ;simp[c2,c5,c6,c10,fq,jU,PI,OK,c1,hcN,r1',r2',iL hj DE,di DE];apply BT;refine⟨by omega,by simp[c2],by simp[c3],by simp[c4,Al],by simp[c5],by simp[c2],by rw[Al];omega,c8,Y++[eI x'],by rw[Al,Zu,c9];simp;omega,?_⟩;show h2[id]?=_;rw[c10,hcs,Dh,Al];simp
        .rw[db (λe=>OJ e.symm)]at Al;have hCl:C.length<l.length:=by omega
         have hC1:C.length+1<=l.length:=by omega
         have hC6:C.length<=1000000000000000:=by omega
         simp[c2,c3,c4,c5,c6,c10,fq,jU,PI,OK,c1,hcN,r1',r2',iL hj DE,OJ,hCl,hC1,di hC6,di DE];apply BT;refine⟨by omega,by simp[c2],by simp[c3],by simp[c2,Al],by simp[c5],by simp[c2],by rw[Al,Zu,Xf];omega,λq hq=>by rw[Zq (λe=>hq e.symm)];exact c8 q hq,?_⟩;obtain⟨y0,Y',he⟩:∃y0 Y',Y++[eI y']=y0::Y':=by
          cases Y with
          |nil=>exact⟨_,[],rfl⟩
          |cons y0 Y=>exact⟨y0,Y++[eI y'],rfl⟩
         have hYl:=congrArg List.length he;rw[Zu,Xf,Yw,c9]at hYl;have aj1:cs=fD C++([y0]++(Y'++fD (l.drop (k+j)))):=by
          have:Y++eI y'::fD (l.drop (k+j))=y0::Y'++fD (l.drop (k+j)):=by rw[<-he];simp
          rw[hcs,Dh,this];rfl
         have pY:=pg (A:=fD C) (Z:=[y0]) (E:=[eI x']) (B:=Y'++fD (l.drop (k+j))) (o:=C.length) (jk C).symm rfl;rw[<-aj1]at pY;refine⟨Y',by rw[Al,Zu,Xf];omega,?_⟩;show(h2.set id _)[id]?=_;rw[Zj jD,Al,EK];unfold eI at pY;rw[pY];simp[fD,eI]
       .have Db:k+c+1=l.length:=by omega
        simp[c2,c5,c6,jU];rw[Db,Yz]at c4 c7 c9 hcs;refine⟨rfl,by simp[c2],by simp[c3],by simp[c4],by omega,c8,Y++fD (l.drop (k+c)),?_,?_⟩
        .rw[Zu,c9,jk,Xk];omega
        .show h2[id]?=_;rw[c10,hcs]
     obtain⟨o,lX,h1,rfl,rfl,q0,q1,q2,q3,q4,Y,q5,q6⟩:=HL;simp only at q0 q1 q2 q4 q6;have hpc:=aaM eW;have q6':=gA q6
     have nC:=jk (oK l);have jD:id<h1.length:=(Za.1 q6).1;generalize fD (oK l)=R at q6 q6' nC|-;generalize(oK l).length=m at q2 q3 q5 hpc nC|-;have Ac:m<=l.length:=by omega
     have Hg:¬m=l.length:=by omega
     have hm3:¬m=0:=by omega
     have hm4:¬0=m:=by omega
     have hm5:m+(l.length-m)<=m+Y.length:=by omega
     have hm6:0<l.length-m:=by omega
     have hm7:l.length<=m+Y.length:=by omega
     simp[q0,q1,q2,q6,ku,gQ,vV,Ac,Hg,hm4,hm6,hm7,nC];refine⟨λq hq=>by rw[Zq (λe=>hq e.symm)];exact q4 q hq,?_⟩;rw[Zj jD];unfold da;rw[List.take_left' nC,Zp];exact⟨_,rfl⟩
    .rw[db (λe=>OJ e.symm)]at dD;simp[cU,g0,g3,hi,kY,dC,hql,du,kC,iL hk QJ,OJ,di QJ];refine⟨Av,by rw[hk];simp,?_⟩;rw[<-hk,dD,Yx,hx];rfl
   .have hl2:k=l.length:=by omega
    simp[cU,g0,g3,hl2];rw[hl2,Yz]at hct;exact hct
  .rintro o fr hp hn ⟨cU,⟨rfl,g0,hct,hh⟩|⟨rfl,g2,hk,rest,hr⟩⟩
   .simp only at cU g0 hh;subst hh;rw[hct];simp[cU,g0];exact⟨[],by rw[dC];simp⟩
   .simp only at cU g2 hk hr;simp[g2];exact⟨hk,rest,hr⟩
end
end Go.Proofs.YtaibpnppeiigdaaGreatDoor
namespace Go.Proofs
open Go Go.Ae Go.Proofs.Tryz
def yQ (x:Int):∀l:List Int,(Q5 x l).Perm (x::l)
 | []=> .refl _
 |
  y::t=>by
  unfold Q5;split
  .exact .refl _
  .exact((yQ x t).cons y).trans (.swap x y t)
def lg :∀l:List Int,(km l).Perm l
 | []=> .refl _
 |x::l=>(yQ x _).trans ((lg l).cons x)
def OL (x:Int):∀l:List Int,l.Pairwise (· <= ·)->(Q5 x l).Pairwise (· <= ·)
 | [],_=>List.pairwise_singleton _ _
 |
  y::t,h=>by
  have h1:=Ye.1 h;unfold Q5;split
  .rename_i q;refine Ye.2 ⟨λz hz=>?_,h⟩;rcases Xm.1 hz with e|e
   .rw[e];exact q
   .exact Int.le_trans q (h1.1 z e)
  .rename_i q;refine Ye.2 ⟨λz hz=>?_,OL x t h1.2⟩;rcases Xm.1 ((yQ x t).mem_iff.1 hz)with e|e
   .rw[e];omega
   .exact h1.1 z e
def Cv :∀l:List Int,(km l).Pairwise (· <= ·)
 | []=>List.Pairwise.nil
 |x::l=>OL x _ (Cv l)
end Go.Proofs
namespace Go.Proofs.YtaibpnppeiigdaaGreatDoor
open Go Go.Ae Go.Proofs.Tryz
section
attribute [local simp] zi XM
def EL :∀l:List Int,yR (tI l)=some l
 | []=>rfl
 |
  x::l=>by
  show(match yR (tI l)with|some l=>some (x::l)|none=>none)=_;rw[EL l]
def YP (l:List Int)(z:Bool):AV:= .fn 210 [.rp [.ls 1 (tI l) z] 0]
def VV (n:Nat)(b:Bool)(l:List Int)(z:Bool)(h:Hp):cW cx (n+1) b 128 [.ls 1 (tI l) z] h=some (YP l z,h):=by
 unfold YP;generalize tI l=cY;refine Q6 (r:= .fn 210 [.pt 0 0]) (h':=[.row [.ls 1 cY z]]) f128 [.tmp 2] rfl ?_ rfl b h;simp[f128]
def yS (l:List Int):(l.map p8).flatten=fD l:=by
 induction l with
 |nil=>rfl
 |cons x l ih=>rw[Xi,List.flatten_cons,ih];rfl
def VW (n:Nat)(b:Bool)(l:List Int)(z:Bool)(h:Hp)(eW:l≠ [])(hl:l.length<=1000000):cW cx (n+1) b 127 [YP l z] h=some (.sl h.length 1 0 l.length false,h++[.row (fD (km l))]):=by
 have e1:cx.ox 127=none:=rfl;have e2:cx.inl 127=true:=by kernel_rfl
 have e3:cx.ins 127=some (1,1):=by kernel_rfl
 have et:cx.tE 127 [YP l z]=some (.ls 1 ((km l).map p8) false):=by
  show yn 127 [YP l z]=_;unfold yn YP;rw[db (by decide),dd rfl];simp only[EL,dU];rw[dd ⟨trivial,by omega⟩];unfold EM;rw[db eW]
 have cU:=(lg l).length_eq;have lH:[YP l z].mapM (Ae.dq h 8)=some [YP l z]:=rfl;have aj2:((km l).map p8).isEmpty=false:=by
  rw[List.isEmpty_eq_false_iff];intro e;have:=congrArg List.length e;rw[Yk,cU]at this;exact eW (Zl this)
 simp only[cW,e1,e2,e3,if_true];show Th cx 127 h [YP l z]=_;unfold Th;simp only[lH,et,aj2,Xj,Bool.and_true,Yk,cU,yS];rw[dd];rw[Yr];intro r hr;obtain⟨x,_,rfl⟩:=Yi.1 hr;rfl
def VX {vs:List Int}:oK (km vs)=eu vs:=by
 rw[nY];refine Qf rH (lg vs) ((Cv vs).imp λ{a b} h=>?_);unfold ej;rw[db (by omega)];split<;>omega
def VY (n:Nat)(b:Bool)(a:Am)(h:Hp)(eW:a.vs≠ [])(hl:a.vs.length<=1000000):cW cx (n+2) b 66 [.ag (encA a)] h=some (.ls 1 (tI (eu a.vs)) false,h):=by
 refine wH f66 [.tmp 2] (kp a) ?_ b h;have mi:kx 66=1:=by decide
 rw[mi];have ak:=λb h=>VV n b a.vs false h
 have aa:=λb h=>VW n b a.vs false h eW hl
 have cU:=(lg a.vs).length_eq;have aj3:km a.vs≠ []:=λe=>by rw[e]at cU;exact eW (Zl cU.symm)
 have ae:=λb id h (dC:h[id]?=some (.row (fD (km a.vs))))=>Q4 n b (km a.vs) id h aj3 (by omega) dC
 rw[VX,cU]at ae;generalize n+1=M at ak aa ae|-;generalize hS:fD (km a.vs)=ox at aa ae;have eM:=gB a;unfold encA at eM|-;generalize yb:tI a.vs=cY at ak eM|-;generalize enc a.v=ev at eM|-;simp only[Yw]at eM;have eM:ev.length=5:=by omega
 unfold YP at ak aa;obtain⟨h3,rest,ae,_,h3r⟩:=ae true 1 [.row (.sc (.int .i64 a.k):: .ls 1 cY false:: .sc (.string a.nm)::iK a.ts false::ev),.row ox] (by rfl);have lH:Ae.dq h3 8 (.sl 1 1 0 (eu a.vs).length false)=some (.ls 1 (tI (eu a.vs)) false):=by
  have dJ:=pJ (eu a.vs);have:=jP (h:=h3) (n:=7) (id:=1) (sz:=1) (cY:=tI (eu a.vs)) (cs:=fD (eu a.vs)++rest) (by omega) dJ.1 dJ.2 (by rw[gI,h3r]) (by
   rw[dU,Nat.mul_one,List.take_left' (jk _)];exact(yS _).symm) (by rw[dU,Zu,jk];omega)
  rw[dU]at this;exact this
 rw[yb]at ak aa;simp[f66,eM,ak,aa,ae];exact gz ⟨_,lH,rfl⟩
end
def fx (vs:List Int)(v:Int):Nat:=vs.findIdx (· ==v)
def vd {vs:List Int}{v:Int}(h:v∈vs):fx vs v<vs.length/\vs[fx vs v]?=some v:=by
 have h1:fx vs v<vs.length:=List.findIdx_lt_length_of_exists ⟨v,h,by simp⟩;refine⟨h1,?_⟩;have:=List.findIdx_getElem (p:=(· ==v)) (xs:=vs) (w:=h1);rw[Zb h1];simp only[beq_iff_eq]at this;exact congrArg some this
def MG {v:Int}:∀{vs:List Int} {i:Nat},v∈vs->ixI vs v i=((i+fx vs v:Nat):Int)
 | [],_,h=>by simp at h
 |
  w::vs,i,h=>by
  unfold ixI fx;rw[List.findIdx_cons];by_cases e:v=w
  .subst e;simp
  .have e':(w==v)=false:=by simp;exact λq=>e q.symm
   have h':v∈vs:=by
    rcases Xm.1 h with q|q
    .exact absurd q e
    .exact q
   rw[db e,MG h',e',cond_false];unfold fx
   congr 1
   omega
def agT (vs ids:List Int):Prop:=∀i,i<vs.length->ids.getD (fx vs (vs.getD i 0)) 0=ids.getD i 0
instance (vs ids:List Int):Decidable (agT vs ids):=by unfold agT;infer_instance
def pK (vs ids:List Int):Option (List Int):=if agT vs ids then some ((eu vs).map λv=>ids.getD (fx vs v) 0)else none
def zI (v:Int)(o:Option Int)(p:Int × Int):Option Int:=match o with
 |none=>none
 |some x=>if p.1=v then(if x≠0/\x≠p.2 then none else some p.2)else some x
def rx (vs ids:List Int)(v:Int):Option Int:=(vs.zip ids).foldl (zI v) (some 0)
def MH (vs ids:List Int):Option (List Int):=(eu vs).mapM (rx vs ids)
def Gq (v:Int):∀l:List (Int × Int),l.foldl (zI v) none=none
 | []=>rfl
 |p::l=>by rw[Yl];exact Gq v l
def VZ (v x:Int)(hx:x≠0):∀l:List (Int × Int),(∀p∈l,p.2≠0)->((∀p∈l,p.1=v->p.2=x)->l.foldl (zI v) (some x)=some x)/\((∃p∈l,p.1=v/\p.2≠x)->l.foldl (zI v) (some x)=none)
 | [],_=>⟨λ_=>rfl,λ⟨p,hp,_⟩=>by simp at hp⟩
 |
  r::l,hz=>by
  have wC:∀p∈l,p.2≠0:=λp hp=>hz p (Xn _ hp)
  obtain⟨i1,i2⟩:=VZ v x hx l wC;rw[Yl];by_cases e:r.1=v
  .by_cases e2:r.2=x
   .have e3:zI v (some x) r=some x:=by unfold zI;simp[e,e2]
    rw[e3];refine⟨λh=>i1 λp hp=>h p (Xn _ hp),λ⟨p,hp,h1,h2⟩=>i2 ?_⟩;rcases Xm.1 hp with q|q
    .rw[q]at h2;exact absurd e2 h2
    .exact⟨p,q,h1,h2⟩
   .have e3:zI v (some x) r=none:=by
     unfold zI;simp only[e,if_true];rw[dd ⟨hx,λq=>e2 q.symm⟩]
    rw[e3,Gq];exact⟨λh=>absurd (h r (by simp) e) e2,λ_=>rfl⟩
  .have e3:zI v (some x) r=some x:=by unfold zI;simp[e]
   rw[e3];refine⟨λh=>i1 λp hp=>h p (Xn _ hp),λ⟨p,hp,h1,h2⟩=>i2 ?_⟩;rcases Xm.1 hp with q|q
   .rw[q]at h1;exact absurd h1 e
   .exact⟨p,q,h1,h2⟩
def Gs (v:Int):∀l:List (Int × Int),(∀p∈l,p.2≠0)->(∀p∈l,p.1=v->(∀q∈l,q.1=v->q.2=p.2)->l.foldl (zI v) (some 0)=some p.2)/\(∀p∈l,∀q∈l,p.1=v->q.1=v->p.2≠q.2->l.foldl (zI v) (some 0)=none)
 | [],_=>⟨λp hp=>by simp at hp,λp hp=>by simp at hp⟩
 |
  r::l,hz=>by
  have wC:∀p∈l,p.2≠0:=λp hp=>hz p (Xn _ hp)
  obtain⟨i1,i2⟩:=Gs v l wC;rw[Yl];by_cases e:r.1=v
  .have e3:zI v (some 0) r=some r.2:=by unfold zI;simp[e]
   rw[e3];obtain⟨j1,j2⟩:=VZ v r.2 (hz r (by simp)) l wC;refine⟨λp hp h1 h2=>?_,λp hp q hq h1 h2 h3=>j2 ?_⟩
   .have e4:r.2=p.2:=h2 r (by simp) e;rw[<-e4];exact j1 λq hq h3=>by rw[e4];exact h2 q (Xn _ hq) h3
   .by_cases e5:p.2=r.2
    .rcases Xm.1 hq with k|k
     .rw[k]at h3;exact absurd e5 h3
     .exact⟨q,k,h2,λz=>h3 (by rw[e5,z])⟩
    .rcases Xm.1 hp with k|k
     .rw[k]at e5;exact absurd rfl e5
     .exact⟨p,k,h1,e5⟩
  .have e3:zI v (some 0) r=some 0:=by unfold zI;simp[e]
   rw[e3];have ny:∀p∈r::l,p.1=v->p∈l:=λp hp h1=>by
    rcases Xm.1 hp with k|k
    .rw[k]at h1;exact absurd h1 e
    .exact k
   exact⟨λp hp h1 h2=>i1 p (ny p hp h1) h1 λq hq h3=>h2 q (Xn _ hq) h3,λp hp q hq h1 h2 h3=>i2 p (ny p hp h1) q (ny q hq h2) h1 h2 h3⟩
def ad6 {vs ids:List Int}(hl:vs.length=ids.length){p:Int × Int}(h:p∈vs.zip ids):∃i,i<vs.length/\vs.getD i 0=p.1/\ids.getD i 0=p.2:=by
 obtain⟨i,hi,e⟩:=List.mem_iff_getElem.1 h;rw[List.length_zip]at hi;have h1:i<vs.length:=by omega
 have h2:i<ids.length:=by omega
 rw[List.getElem_zip]at e;refine⟨i,h1,?_,?_⟩
 .rw[<-e];simp[List.getD,h1]
 .rw[<-e];simp[List.getD,h2]
def Gt {vs ids:List Int}(hl:vs.length=ids.length){i:Nat}(hi:i<vs.length):(vs.getD i 0,ids.getD i 0)∈vs.zip ids:=by
 have h2:i<ids.length:=by omega
 refine List.mem_iff_getElem.2 ⟨i,by rw[List.length_zip];omega,?_⟩;rw[List.getElem_zip];simp[List.getD,hi,h2]
def mapM_none {α β:Type}{f:α->Option β}:∀(l:List α),(∃x∈l,f x=none)->l.mapM f=none
 | [],⟨x,hx,_⟩=>by simp at hx
 |
  y::l,⟨x,hx,e⟩=>by
  rw[Zo];rcases Xm.1 hx with q|q
  .rw[<-q,e];rfl
  .rw[mapM_none l ⟨x,q,e⟩];cases f y<;>rfl
def lD (vs:List Int)(v:Int):v∈eu vs↔v∈vs:=by
 rw[nY];exact lv rH v vs
def ad7 {vs ids:List Int}(hl:vs.length=ids.length)(hz:∀d∈ids,d≠0):MH vs ids=pK vs ids:=by
 have wC:∀p∈vs.zip ids,p.2≠0:=λp hp=>hz _ (List.of_mem_zip hp).2
 unfold MH pK;by_cases ho:agT vs ids
 .rw[dd ho];refine uc _ λv hv=>?_
  obtain⟨aa,ae⟩:=vd ((lD vs v).1 hv);have e:vs.getD (fx vs v) 0=v:=by rw[List.getD,ae];rfl
  have hm:=Gt hl aa;rw[e]at hm;refine(Gs v _ wC).1 _ hm rfl λq hq h1=>?_
  obtain⟨i,hi,q1,q2⟩:=ad6 hl hq;rw[<-q2,<-ho i hi,q1,h1]
 .rw[db ho];have:∃i,i<vs.length/\ids.getD (fx vs (vs.getD i 0)) 0≠ids.getD i 0:=by
   apply Classical.byContradiction;intro hn;exact ho λi hi=>Classical.byContradiction λh=>hn ⟨i,hi,h⟩
  obtain⟨i,hi,eW⟩:=this;have hv:vs.getD i 0∈vs:=by rw[List.getD,Zb hi];exact Xd hi
  obtain⟨aa,ae⟩:=vd hv;have e:vs.getD (fx vs (vs.getD i 0)) 0=vs.getD i 0:=by rw[List.getD,ae];rfl
  refine mapM_none _ ⟨vs.getD i 0,(lD _ _).2 hv,?_⟩;have hm:=Gt hl aa;rw[e]at hm;exact(Gs _ _ wC).2 _ hm _ (Gt hl hi) rfl rfl eW
def aaN {vs ids agJ t:List Int}(h:pK vs ids=some t)(h':pK vs agJ=some t)(hl:1<vs.length):ids.getD 1 0=agJ.getD 1 0:=by
 unfold pK at h h';split at h
 case isFalse=>cases h
 rename_i o;split at h'
 case isFalse=>cases h'
 rename_i o';cases h;injection h' with h'
 have hv:vs.getD 1 0∈vs:=by rw[List.getD,Zb hl];exact Xd hl
 have:=List.map_inj_left.1 h' (vs.getD 1 0) ((lD _ _).2 hv);rw[<-o 1 hl,<-o' 1 hl,this]
def V1 (v x:Int):pK [v] [x]=some [x]:=by
 have h1:eu [v]=[v]:=by
  rw[nY];rfl
 have h2:fx [v] v=0:=by simp[fx]
 unfold pK;rw[dd,h1]
 .simp[h2]
 .intro i hi;have:i=0:=by simpa using hi
  subst this;simp[h2]
section
variable {α : Type} {R : α -> α -> Prop} {lt eq : α -> Bool} {l pre gj post : List α}
def uy (hs:iX lt eq l pre gj post)(hl:l.Pairwise R):(pre++post).Pairwise R:=by
 have:=hs.e;rw[Zp]at this;rw[this]at hl;exact hl.sublist ((List.Sublist.refl pre).append (List.sublist_append_right gj post))
def AU (hs:iX lt eq l pre gj post)(hl:l.Pairwise R)(n:α)(h1:∀x∈pre,R x n)(h2:∀x∈post,R n x):(pre++n::post).Pairwise R:=by
 have:=uy hs hl;rw[List.pairwise_append]at this|-;refine⟨this.1,Ye.2 ⟨h2,this.2.1⟩,λx hx y hy=>?_⟩;rcases Xm.1 hy with rfl|hy
 .exact h1 x hx
 .exact this.2.2 x hx y hy
def xG (hs:iX lt eq l pre gj post){x:α}(h:x∈pre):x∈l:=by rw[hs.e];simp[h]
def xH (hs:iX lt eq l pre gj post){x:α}(h:x∈post):x∈l:=by rw[hs.e];simp[h]
def sP (hs:iX lt eq l pre gj post):l.length=pre.length+gj.length+post.length:=by rw[hs.e];simp;omega
end
def rI {l:List ByteArray}{p:List iP}:ie l p=0↔(l.length<=8/\p.length<=16)/\(fg l=true/\fg (i6 p)=true)/\(dZ l=true/\dZ (i6 p)=true)/\jb p=true:=by
 unfold ie;by_cases h1:8<l.length\/16<p.length
 .rw[dd h1];constructor
  .intro h;cases h
  .intro h;omega
 rw[db h1];have h2:l.length<=8/\p.length<=16:=by omega
 cases fg l<;>cases fg (i6 p)<;>cases dZ l<;>cases dZ (i6 p)<;>cases jb p<;>simp[h2]
def sQ :∀{l:List ByteArray},l.Pairwise (λa b=>nZ a b=true)->dZ l=true
 | [],_=>rfl
 | [x],_=>rfl
 |
  x::y::l,h=>by
  rw[Ye]at h;show(nZ x y && dZ (y::l))=true;rw[h.1 y (by simp),sQ h.2];rfl
structure p9 (D:Nat)(g:Gr):Prop where
 v:GV g
 b:NB g
 n:∀n∈g.nodes,KM D n.props
 e:∀e∈g.cZ,KM D e.props
def Gu {D:Nat}{g:Gr}(h:gN g=0)(hb:AX D g):p9 D g:=⟨Ew h,aci h,λn hn=>(hb.ns n hn).2.2,λn hn=>(hb.es n hn).2⟩
section
variable {D : Nat} {g : Gr} {x : Int}
def ve {pre gj post:List Nd}{m:Nd}(H:p9 D g)(hs:iX (qM x) (qp x) g.nodes pre gj post)(hm:m.id=x)(hl:pre.length+post.length<2000)(hp:ie m.labels m.props=0)(hb:KM D m.props):p9 D (rA g pre post m):=by
 have a1:∀a∈pre,a.id<m.id:=λa ha=>by have:=(hs.p a ha).1;unfold qM at this;rw[Zz]at this;omega
 have a3:∀a∈post,m.id<a.id:=λa ha=>by
  obtain⟨u,w⟩:=hs.q a ha;unfold qM at u;unfold qp at w;rw[decide_eq_false_iff_not]at u w;omega
 have mem:∀a∈pre++m::post,a∈g.nodes\/a=m:=λa ha=>by
  rw[Ya,Xm]at ha;rcases ha with ha|ha|ha
  .exact .inl (xG hs ha)
  .exact .inr ha
  .exact .inl (xH hs ha)
 refine⟨⟨by simp[rA];omega,H.v.el,AU hs H.v.sn m a1 a3,H.v.se,λa ha=>?_,H.v.ep⟩,⟨λa ha=>?_,H.b.e⟩,λa ha=>?_,H.e⟩
 .rcases mem a ha with ha|rfl
  .exact H.v.np a ha
  .exact hp
 .show a.id+1<=max g.nn (m.id+1);rcases mem a ha with ha|rfl
  .have:=H.b.n a ha;omega
  .omega
 .rcases mem a ha with ha|rfl
  .exact H.n a ha
  .exact hb
def Q7 {pre gj post:List Nd}(H:p9 D g)(hs:iX (qM x) (qp x) g.nodes pre gj post):p9 D {g with nodes:=pre++post}:=by
 have mem:∀a∈pre++post,a∈g.nodes:=λa ha=>by
  rw[Ya]at ha;exact ha.elim (xG hs) (xH hs)
 have hl:=sP hs;have hn:=H.v.nl;exact⟨⟨by simp;omega,H.v.el,uy hs H.v.sn,H.v.se,λa ha=>H.v.np a (mem a ha),H.v.ep⟩,⟨λa ha=>H.b.n a (mem a ha),H.b.e⟩,λa ha=>H.n a (mem a ha),H.e⟩
def EN {pre gj post:List Ed}{m:Ed}(H:p9 D g)(hs:iX (xf x) (wa x) g.cZ pre gj post)(hm:m.id=x)(hl:pre.length+post.length<4000)(hp:ie [] m.props=0)(hb:KM D m.props):p9 D (rB g pre post m):=by
 have a1:∀a∈pre,a.id<m.id:=λa ha=>by have:=(hs.p a ha).1;unfold xf at this;rw[Zz]at this;omega
 have a3:∀a∈post,m.id<a.id:=λa ha=>by
  obtain⟨u,w⟩:=hs.q a ha;unfold xf at u;unfold wa at w;rw[decide_eq_false_iff_not]at u w;omega
 have mem:∀a∈pre++m::post,a∈g.cZ\/a=m:=λa ha=>by
  rw[Ya,Xm]at ha;rcases ha with ha|ha|ha
  .exact .inl (xG hs ha)
  .exact .inr ha
  .exact .inl (xH hs ha)
 refine⟨⟨H.v.nl,by simp[rB];omega,H.v.sn,AU hs H.v.se m a1 a3,H.v.np,λa ha=>?_⟩,⟨H.b.n,λa ha=>?_⟩,H.n,λa ha=>?_⟩
 .rcases mem a ha with ha|rfl
  .exact H.v.ep a ha
  .exact hp
 .show a.id+1<=max g.ne (m.id+1);rcases mem a ha with ha|rfl
  .have:=H.b.e a ha;omega
  .omega
 .rcases mem a ha with ha|rfl
  .exact H.e a ha
  .exact hb
def Q8 {pre gj post:List Ed}(H:p9 D g)(hs:iX (xf x) (wa x) g.cZ pre gj post):p9 D {g with cZ:=pre++post}:=by
 have mem:∀a∈pre++post,a∈g.cZ:=λa ha=>by
  rw[Ya]at ha;exact ha.elim (xG hs) (xH hs)
 have hl:=sP hs;have hn:=H.v.el;exact⟨⟨H.v.nl,by simp;omega,H.v.sn,uy hs H.v.se,H.v.np,λa ha=>H.v.ep a (mem a ha)⟩,⟨H.b.n,λa ha=>H.b.e a (mem a ha)⟩,H.n,λa ha=>H.e a (mem a ha)⟩
end
def sR {c:Ch}(h:dr c=0)(k:dt c.k=true):jo c.name=true:=by
 unfold dr at h;split at h
 .cases h
 .split at h
  .cases h
  .split at h
   .cases h
   .rename_i q;cases e:jo c.name with
    |true=>rfl
    |false=>exact absurd ⟨k,e⟩ q
def vO {c:Ch}(h:dr c=0)(k:dj c.k=true)(hn:mD c.v=false):jd c.v=true:=by
 unfold dr at h;split at h
 .cases h
 .split at h
  .cases h
  .split at h
   .cases h
   .split at h
    .cases h
    .rename_i q;cases e:jd c.v with
     |true=>rfl
     |false=>exact absurd ⟨k,hn,e⟩ q
def EO {l:List ByteArray}{p:List iP}{x:ByteArray}{v:V}(h:ie l p=0)(hx:jo x=true)(hv:mD v=false->jd v=true)(hl:(iY p x v).length<=16):ie l (iY p x v)=0:=by
 obtain⟨pr,m,q,hs⟩:=aau x (nV h);have hp:=rI.1 h;have hk:=nV h;refine rI.2 ⟨⟨hp.1.1,hl⟩,⟨hp.2.1.1,?_⟩,⟨hp.2.2.1.1,?_⟩,?_⟩
 all_goals rw[u7 hs];unfold qI
 .have hn:=hp.2.1.2;unfold fg i6 at hn|-;rw[hs.e]at hn;simp only[List.map_append,List.all_append,Zh]at hn|-;refine⟨⟨hn.1.1,?_⟩,hn.2⟩;cases mD v<;>simp[hx]
 .refine sQ ?_;unfold i6;rw[List.pairwise_map];cases hn:mD v with
  |
   true=>
   have:=uy hs hk;simpa using this
  |
   false=>
   have:=AU hs hk ⟨x,v⟩ (λa ha=>(hs.p a ha).1) (λa ha=>nz (hs.q a ha).1 (hs.q a ha).2);simpa using this
 .have hn:=hp.2.2.2;unfold jb at hn|-;rw[hs.e]at hn;simp only[List.all_append,Zh]at hn|-;refine⟨⟨hn.1.1,?_⟩,hn.2⟩;cases hq:mD v with
  |true=>rfl
  |false=>simp[hv hq]
def OM {D:Nat}{l:List ByteArray}{p:List iP}{x:ByteArray}{v:V}(h:ie l p=0)(hb:KM D p)(hd:fB v<=D)(hv:gV v):KM D (iY p x v):=by
 obtain⟨pr,m,q,hs⟩:=aau x (nV h);rw[u7 hs];unfold qI;intro y hy;rw[Ya,Ya]at hy;rcases hy with(hy|hy)|hy
 .exact hb y (xG hs hy)
 .cases hq:mD v with
  |true=>rw[hq]at hy;simp at hy
  |
   false=>
   rw[hq]at hy;have:y=⟨x,v⟩:=by simpa using hy
   subst this;exact⟨hd,hv⟩
 .exact hb y (xH hs hy)
def V3 {D:Nat}{g:Gr}{c:Ch}{m:Ed}(H:p9 D g)(he:dr c=0)(hd:fB c.v<=D)(hv:gV c.v)(hk:c.k=7\/c.k=8)(hm:je g.cZ c.a=some m)(h0:(IW g c m).2=0):p9 D (IW g c m).1:=by
 have hi:=Ez hm;obtain⟨p,md,q,hs⟩:=UB c.a H.v.se;have e1:=kJ hs;have e2:=ju hs;have hn:=H.v.el;have hl:=sP hs;rw[fm hs]at hm;have:=jS hm hs.one;subst this;rw[Xf]at hl;unfold IW loE hiE at h0|-;rw[e1,e2]at h0|-;rcases hk with k|k
 .rw[dd k];exact Q8 H hs
 .rw[db (by omega)]at h0|-;dsimp only at h0|-;have hp:=H.v.ep m hi.1;have su:dj c.k=true:=by rw[k];rfl
  split
  .rename_i oe;exact EN H hs hi.2 (by omega) (EO hp (sR he (by rw[k];rfl)) (vO he su) oe) (OM hp (H.e m hi.1) hd hv)
  .rename_i oe;rw[db oe]at h0;cases h0
def V4 {D:Nat}{g:Gr}{c:Ch}{m:Nd}(H:p9 D g)(he:dr c=0)(hd:fB c.v<=D)(hv:gV c.v)(h1:¬c.k=1)(h6:¬c.k=6)(h7:¬(c.k=7\/c.k=8))(hm:dQ g.nodes c.a=some m)(h0:(IV g c m).2=0):p9 D (IV g c m).1:=by
 have hi:=Ey hm;have TD:=oM he;obtain⟨p,md,q,hs⟩:=LW c.a H.v.sn;have e1:=kJ hs;have e2:=ju hs;have hn:=H.v.nl;have hl:=sP hs;rw[eU hs]at hm;have:=jS hm hs.one;subst this;rw[Xf]at hl;have hp:=H.v.np m hi.1;have Q9:=rI.1 hp;have hr:=sE Q9.2.2.1.1;obtain⟨lp,lm,lq,ht⟩:=aab c.name hr;have e3:=kJ ht;have e4:=ju ht;have hnm:=Q9.2.1.1;unfold fg at hnm;rw[ht.e]at hnm;simp only[List.all_append,Zh]at hnm;have dY:=sP ht;unfold IV YK YL loT hiT at h0|-;rw[e1,e2,e3,e4]at h0|-;by_cases k2:c.k=2
 .rw[dd k2]at h0|-;dsimp only at h0|-;split
  .rename_i hu;rw[dd hu]at h0;cases h0
  .exact Q7 H hs
 rw[db k2]at h0|-;by_cases k3:c.k=3
 .rw[dd k3]at h0|-;dsimp only at h0|-;have hx:=sR he (by rw[k3];rfl);split
  .rename_i hu;rw[dd hu]at h0;cases h0
  .rename_i hu;rw[db hu]at h0;split
   .rename_i hw;rw[dd hw]at h0;cases h0
   .rename_i hw;refine ve H hs hi.2 (by omega) (rI.2 ⟨⟨?_,Q9.1.2⟩,⟨?_,Q9.2.1.2⟩,⟨?_,Q9.2.2.1.2⟩,Q9.2.2.2⟩) (H.n m hi.1)
    .simp;omega
    .unfold fg;simp only[List.all_append,Zh];exact⟨⟨hnm.1.1,by simp[hx]⟩,hnm.2⟩
    .refine sQ ?_;have:=AU ht hr c.name (λa ha=>(ht.p a ha).1) (λa ha=>nz (ht.q a ha).1 (ht.q a ha).2);simpa using this
 rw[db k3]at h0|-;by_cases k4:c.k=4
 .rw[dd k4]at h0|-;dsimp only at h0|-;split
  .refine ve H hs hi.2 (by omega) (rI.2 ⟨⟨?_,Q9.1.2⟩,⟨?_,Q9.2.1.2⟩,⟨?_,Q9.2.2.1.2⟩,Q9.2.2.2⟩) (H.n m hi.1)
   .simp;omega
   .unfold fg;simp only[List.all_append,Zh];exact⟨hnm.1.1,hnm.2⟩
   .exact sQ (uy ht hr)
  .rename_i hu;rw[db hu]at h0;cases h0
 rw[db k4]at h0|-;dsimp only at h0|-;have k5:c.k=5:=by omega
 have su:dj c.k=true:=by rw[k5];rfl
 split
 .rename_i oe;exact ve H hs hi.2 (by omega) (EO hp (sR he (by rw[k5];rfl)) (vO he su) oe) (OM hp (H.n m hi.1) hd hv)
 .rename_i oe;rw[db oe]at h0;cases h0
def yT {D:Nat}{g:Gr}{c:Ch}(H:p9 D g)(hd:fB c.v<=D)(hv:gV c.v)(h0:(jc g c).2=0):p9 D (jc g c).1:=by
 unfold jc at h0|-;by_cases OA:¬dr c=0
 .rw[dd OA]at h0;exact absurd h0 OA
 rw[db OA]at h0|-;have he:=Classical.not_not.1 OA;have hln:=H.v.nl;have eG:=H.v.el;by_cases k1:c.k=1
 .rw[dd k1]at h0|-;cases hm:dQ g.nodes c.a with
  |some m=>rw[hm]at h0;cases h0
  |
   none=>
   rw[hm]at h0;dsimp only at h0|-;split
   .rename_i hw;rw[dd hw]at h0;cases h0
   .rename_i hw;obtain⟨p,md,q,hs⟩:=LW c.a H.v.sn;have hl:=sP hs;unfold YK YL;rw[kJ hs,ju hs];exact ve (m:=⟨c.a,[],[]⟩) H hs rfl (by omega) rfl (λx hx=>by cases hx)
 rw[db k1]at h0|-;by_cases k6:c.k=6
 .rw[dd k6]at h0|-;cases hm:je g.cZ c.a with
  |some m=>rw[hm]at h0;cases h0
  |
   none=>
   rw[hm]at h0;dsimp only at h0|-;split
   .rename_i hw;rw[dd hw]at h0;cases h0
   .rename_i hu;rw[db hu]at h0;split
    .rename_i hw;rw[dd hw]at h0;cases h0
    .rename_i hw;obtain⟨p,md,q,hs⟩:=UB c.a H.v.se;have hl:=sP hs;unfold loE hiE;rw[kJ hs,ju hs];exact EN (m:=⟨c.a,c.b,c.c,c.name,[]⟩) H hs rfl (by omega) rfl (λx hx=>by cases hx)
 rw[db k6]at h0|-;by_cases k7:c.k=7\/c.k=8
 .rw[dd k7]at h0|-;cases hm:je g.cZ c.a with
  |none=>rw[hm]at h0;cases h0
  |
   some m=>
   rw[hm]at h0;exact V3 H he hd hv k7 hm h0
 rw[db k7]at h0|-;cases hm:dQ g.nodes c.a with
 |none=>rw[hm]at h0;cases h0
 |
  some m=>
  rw[hm]at h0;exact V4 H he hd hv k1 k6 k7 hm h0
def V5 {D:Nat}:∀{cs:List Ch} {g:Gr},p9 D g->(∀c∈cs,fB c.v<=D/\gV c.v)->OkF D g cs
 | [],_,_,_=>trivial
 |c::cs,g,H,hc=>⟨H.v,H.b,(hc c (by simp)).1,(hc c (by simp)).2,λh0=>V5 (yT H (hc c (by simp)).1 (hc c (by simp)).2 h0) λx hx=>hc x (by simp[hx])⟩
def mU (e:Ed):List Int:=[e.src,e.id,e.dst]
def Cw (v:V):Bool:=decide (j6 v zeroV=0)
def V6 (a:Am):Bool:= !(decide (a.k≠3) && decide (0<a.ts.length)) && !(decide (a.k≠1) && (decide (a.k≠2) && !kr a.nm ⟨#[]⟩))
def Jy (a:Am):Bool:=decide (DF a.k=a.vs.length) && (dZ a.ts && (V6 a && (if a.k=2 then jd a.v else Cw a.v)))
def lY (a:Am):Bool:=decide (sO a.k≠0) && (decide (sO a.k=a.vs.length) && (decide (0<=VT a.vs) && (V6 a && (if a.k=2 then jd a.v else dZ a.ts && Cw a.v))))
def yU (a:Am):Bool:=(if a.k=1\/a.k=2 then jo a.nm else true) && fg a.ts
def xI (n:Nd)(a:Am):Bool:=if a.k=1 then oI n.labels a.nm else if a.k=2 then decide (rZ (jf n.props a.nm) a.v=2)else true
def ke (a:Am)(e:Ed):Option (List Int):=if htS e a.ts=true then pK a.vs (mU e)else none
def kn (a:Am)(n:Nd):Option (List Int):=if xI n a=true then some [n.id]else none
def lh (g:Gr)(a:Am):List (List Int):=if a.k=3 then g.cZ.filterMap (ke a)else g.nodes.filterMap (kn a)
def iW (g:Gr)(a:Am):List (List Int):=if gN g=0/\lY a=true/\yU a=true then gd gq (lh g a)else[]
def ad8 (x:Int)(l:List Int):(0<=SY x l l.length)↔(0<=x/\∀y∈l,0<=y):=by
 have key:∀(l:List Int) (m:Int),(0<=l.foldl (λm y=>if y<m then y else m) m)↔(0<=m/\∀y∈l,0<=y):=by
  intro l
  induction l with
  |nil=>intro m;simp
  |
   cons y l ih=>
   intro m;rw[Yl,ih];constructor
   .rintro⟨h1,h2⟩;split at h1
    .exact⟨by omega,λz hz=>(Xm.1 hz).elim (λe=>by omega) (h2 z)⟩
    .exact⟨h1,λz hz=>(Xm.1 hz).elim (λe=>by omega) (h2 z)⟩
   .rintro⟨h1,h2⟩;refine⟨?_,λz hz=>h2 z (Xn _ hz)⟩;have:=h2 y (by simp);split<;>omega
 unfold SY;rw[Yz];exact key l x
def V7 (k:Int):(DF k=sO k/\sO k≠0)\/(DF k= -1/\sO k=0):=by
 unfold DF sO
 (repeat' split)<;>simp
def aaO {k:Int}{n:Nat}(h:DF k=n):sO k≠0/\sO k=n:=by
 rcases V7 k with⟨h1,h2⟩|⟨h1,h2⟩
 .exact⟨h2,by omega⟩
 .omega
def V8 {k:Int}{n:Nat}(h0:sO k≠0)(h:sO k=n):DF k=n:=by
 rcases V7 k with⟨h1,h2⟩|⟨h1,h2⟩
 .omega
 .exact absurd h2 h0
def aaP {k:Int}(h:sO k≠0):(k=3/\sO k=3)\/(k≠3/\sO k=1):=by
 unfold sO at *
 (repeat' split at h)<;>(repeat' split)<;>omega
def uz {a:Am}(h:lY a=true):(a.k=3/\a.vs.length=3)\/(a.k≠3/\a.vs.length=1):=by
 unfold lY at h;simp only[Zh,Zz]at h;rcases aaP h.1 with h1|h1<;>omega
def OO {vs:List Int}(h:vs≠ []):0<=VT vs↔∀x∈vs,0<=x:=by
 cases vs with
 |nil=>exact absurd rfl h
 |
  cons x l=>
  show 0<=SY x l l.length↔_;rw[ad8];simp
def Q_ (a:Am):lY a=(Jy a && a.vs.all λx=>decide (0<=x)):=by
 rw[Bool.eq_iff_iff];unfold lY Jy;simp only[Zh,Zz,Yr];constructor
 .rintro⟨h1,h2,h3,h4,h5⟩;have eW:a.vs≠ []:=λe=>by
   rw[e]at h2;exact h1 h2
  have hr:dZ a.ts=true/\(if a.k=2 then jd a.v else Cw a.v)=true:=by
   split at h5
   .rename_i hk;have:a.ts=[]:=by
     unfold V6 at h4;simp only[Zh,Xc,Bool.and_eq_false_iff,decide_eq_false_iff_not]at h4;rcases h4.1 with q|q
     .omega
     .exact Zl (by omega)
    rw[this];exact⟨by decide,by rw[dd hk];exact h5⟩
   .rename_i hk;simp only[Zh]at h5;exact⟨h5.1,by rw[db hk];exact h5.2⟩
  exact⟨⟨V8 h1 h2,hr.1,h4,hr.2⟩,(OO eW).1 h3⟩
 .rintro⟨⟨h1,h2,h3,h4⟩,h5⟩;obtain⟨q1,q2⟩:=aaO h1;have eW:a.vs≠ []:=λe=>by
   rw[e]at q2;exact q1 q2
  refine⟨q1,q2,(OO eW).2 h5,h3,?_⟩;split
  .rename_i hk;rw[dd hk]at h4;exact h4
  .rename_i hk;rw[db hk]at h4;simp only[Zh];exact⟨h2,h4⟩
def V9 {g:Gr}(h:gN g=0):(∀n∈g.nodes,1<=n.id/\n.id<=1000001)/\(∀e∈g.cZ,(1<=e.id/\e.id<=1000001)/\(1<=e.src/\e.src<=1000001)/\(1<=e.dst/\e.dst<=1000001)):=by
 unfold gN at h;split at h
 .cases h
 split at h
 .cases h
 rename_i hb;split at h
 case isFalse h3=>exact absurd h h3
 rename_i h3;have zn:∀j,j<g.nodes.length->mB g j=0:=λj hj=>j7 (mB g) g.nodes.length 0 h3 j (by omega) (by omega)
 have ze:∀j,j<g.cZ.length->mC g j=0:=λj hj=>j7 (mC g) g.cZ.length 0 h j (by omega) (by omega)
 have hn:∀n∈g.nodes,1<=n.id/\n.id<=1000001:=λn hn=>by
  obtain⟨j,hj,e⟩:=List.mem_iff_getElem.1 hn;have:=zn j hj;unfold mB at this;rw[Zb hj,e]at this;simp only at this;split at this
  .cases this
  split at this
  .cases this
  .omega
 have s6:∀x,¬(dQ g.nodes x).isSome=false->1<=x/\x<=1000001:=λx hx=>by
  cases q:dQ g.nodes x with
  |none=>rw[q]at hx;exact absurd rfl hx
  |
   some m=>
   unfold dQ at q;have h1:=List.mem_of_find?_eq_some q;have h2:=List.find?_some q;have h3:m.id=x:=by simpa using h2
   rw[<-h3];exact hn m h1
 refine⟨hn,λe he=>?_⟩;obtain⟨j,hj,e1⟩:=List.mem_iff_getElem.1 he;have:=ze j hj;unfold mC at this;rw[Zb hj,e1]at this;simp only at this;split at this
 .cases this
 split at this
 .cases this
 split at this
 .cases this
 rename_i q1 q2 q3;exact⟨by omega,s6 _ λz=>q3 (.inl z),s6 _ λz=>q3 (.inr z)⟩
def Jz {g:Gr}{a:Am}(hg:GV g)(hs:lY a=true):(lh g a).Nodup:=by
 unfold lh;split
 .rename_i hk;have hl:1<a.vs.length:=by rcases uz hs with h|h<;>omega
  refine List.Pairwise.filterMap _ (λe e' dY t ht t' UD=>?_) hg.se;intro heq;subst heq;unfold ke at ht UD;split at ht
  case isFalse=>cases ht
  split at UD
  case isFalse=>cases UD
  have:=aaN ht UD hl;simp[mU]at this;omega
 .refine List.Pairwise.filterMap _ (λn n' dY t ht t' UD=>?_) hg.sn;intro heq;subst heq;unfold kn at ht UD;split at ht
  case isFalse=>cases ht
  split at UD
  case isFalse=>cases UD
  cases ht;simp at UD;omega
def yV {g:Gr}(hg:GV g)(a:Am):(lh g a).length<=4000:=by
 unfold lh;split
 .exact Yn (List.length_filterMap_le _ _) hg.el
 .have:=hg.nl;exact Yn (List.length_filterMap_le _ _) (by omega)
def ad9 {g:Gr}{a:Am}(hg:GV g)(hs:lY a=true){r:List (List Int)}(hp:r.Perm (lh g a))(ho:r.Pairwise λa b=>¬gq b a<0):Up gq r/\r=gd gq (lh g a):=by
 have hn:r.Nodup:=hp.nodup_iff.2 (Jz hg hs);have hu:Up gq r:=by
  have:=ho.and hn;refine this.imp λ{x y} h=>?_
  obtain⟨h1,h2⟩:=h;have h4:=lV.neg y x;have:¬gq x y=0:=λe=>h2 ((lV.zero x y).1 e)
  omega
 exact⟨hu,xo lV hu λx=>hp.mem_iff⟩
def vy (t:List Int):Rw:=⟨t.map vI,TC λx hx=>by obtain⟨n,_,rfl⟩:=Yi.1 hx;exact acn n⟩
def Gv (t:List Int):(vy t).1=t.map vI:=rfl
def yW :∀(k u:Nat),(tm k u).length<=k+1
 |0,u=>by simp[tm]
 |
  k+1,u=>by
  unfold tm;split
  .simp
  .have:=yW k (u/10);simp;omega
def nH (n:Int):(fM n).length<=22:=by
 unfold fM;split
 .have:=yW 20 n.natAbs;simp;omega
 .have:=yW 20 n.toNat;omega
def V_ (n:Int):(Dn (vI n)).length<=200:=by
 unfold vI;rw[Dn,tk];have h1:=nH 2;have h2:=nH (dM .i64 n);have h3:=nH 0;simp only[Zu,Yw,Xa,Zw];have h4:=nH ((ByteArray.size ⟨#[]⟩:Nat):Int);have h5:=nH ((([]:List V).length:Nat):Int);simp only[Xa]at h5;omega
def JA :∀t:List Int,(tk (t.map vI)).length<=200*t.length
 | []=>by rw[List.map_nil,tk];simp
 |
  x::t=>by
  rw[Xi,tk,Zu,Yw];have h1:=V_ x;have h2:=JA t;omega
def Wa (t:List Int):(wD (t.map vI)).length<=200*t.length+30:=by
 unfold wD;have h1:=nH ((t.map vI).length:Nat);have h2:=JA t;simp only[Zu,Yw,Xa];omega
def agK {D:Nat}{t:List Int}(hD:1<=D)(ht:t.length<=1000000):mP D (vy t)where
 len:=by rw[Gv,Yk];omega
 key:=by rw[Gv];have:=Wa t;omega
 fB:=λx hx=>by
  rw[Gv]at hx;obtain⟨n,_,rfl⟩:=Yi.1 hx;refine⟨?_,af8 (acn n)⟩;show fB (V.mk 2 (dM .i64 n) 0 ⟨#[]⟩ false [])<=D;rw[fB,Gw];omega
def mH (L:List (List Int)):List (Rw × Int):=oN (L.map vy)
def MI {D:Nat}{L:List (List Int)}(hD:1<=D)(hL:L.length<=10000)(ht:∀t∈L,t.length<=1000000):oo D (mH L)where
 row:=λp hp=>by
  unfold mH oN at hp;obtain⟨r,hr,rfl⟩:=Yi.1 hp;obtain⟨t,h1,rfl⟩:=Yi.1 hr;exact agK hD (ht t h1)
 num:=λp hp=>by
  unfold mH oN at hp;obtain⟨r,hr,rfl⟩:=Yi.1 hp;show i64 1;unfold i64;omega
 len:=by
  unfold mH oN;rw[Yk,Yk];omega
def Hq (A B:List (List Int)):List (Rw × Int):=dP (dP (mH B)++jJ (dP (dP (mH A))))
def agL {D:Nat}{A B:List (List Int)}(hD:1<=D)(hA:A.length<=10000)(ha:∀t∈A,t.length<=1000000)(hB:B.length<=10000)(hb:∀t∈B,t.length<=1000000):oo D (dP (mH B)++jJ (dP (dP (mH A)))):=by
 have h1:=qf (MI hD hB hb);have h2:=ad2 (qf (qf (MI hD hA ha)));refine⟨λp hp=>?_,λp hp=>?_,?_⟩
 .rcases Ya.1 hp with q|q
  .exact h1.row p q
  .exact h2.row p q
 .rcases Ya.1 hp with q|q
  .exact h1.num p q
  .exact h2.num p q
 .rw[Zu,uv];have e1:=u9 (mH B);have e2:=u9 (dP (mH A));have e3:=u9 (mH A);have e4:(mH A).length=A.length:=by unfold mH oN;simp
  have e5:(mH B).length=B.length:=by unfold mH oN;simp
  omega
def EP {α:Type}{cmp:α->α->Int}(l:List α):(gd cmp l).length<=l.length:=by
 have ins:∀(x:α) (l:List α),(qG cmp x l).length<=l.length+1:=by
  intro x l
  induction l with
  |nil=>simp[qG]
  |
   cons y l ih=>
   unfold qG;split
   .simp;omega
   .split<;>simp
 induction l with
 |nil=>simp[gd]
 |
  cons x l ih=>
  have:gd cmp (x::l)=qG cmp x (gd cmp l):=rfl;rw[this,Yw];have:=ins x (gd cmp l);omega
def xJ (g:Gr)(a:Am):(iW g a).length<=4000:=by
 unfold iW;split
 .rename_i h;have:=EP (cmp:=gq) (lh g a);have:=yV (Ew h.1) a;omega
 .simp
def sS (vs:List Int):(eu vs).length<=vs.length:=by
 rw[nY];exact EP vs
def yX {g:Gr}{a:Am}(hs:lY a=true):∀t∈lh g a,t.length<=3:=by
 intro t ht;unfold lh at ht;have hl:=uz hs;split at ht
 .obtain⟨e,_,h⟩:=List.mem_filterMap.1 ht;unfold ke pK at h;split at h
  case isFalse=>cases h
  split at h
  case isFalse=>cases h
  cases h;rw[Yk];have:=sS a.vs;omega
 .obtain⟨n,_,h⟩:=List.mem_filterMap.1 ht;unfold kn at h;split at h
  case isFalse=>cases h
  cases h;simp
def xK (g:Gr)(a:Am):∀t∈iW g a,t.length<=3:=by
 intro t ht;unfold iW at ht;split at ht
 .rename_i h;exact yX h.2.1 t ((lv lV t _).1 ht)
 .simp at ht
def Ra {g:Gr}{a:Am}(hg:gN g=0)(hs:lY a=true):∀t∈lh g a,∀x∈t,1<=x/\x<=1000001:=by
 intro t ht x hx;obtain⟨i1,i2⟩:=V9 hg;unfold lh at ht;have hl:=uz hs;split at ht
 .obtain⟨e,he,h⟩:=List.mem_filterMap.1 ht;unfold ke pK at h;split at h
  case isFalse=>cases h
  split at h
  case isFalse=>cases h
  cases h;obtain⟨v,hv,rfl⟩:=Yi.1 hx;have hf:=(vd ((lD _ _).1 hv)).1;have h3:fx a.vs v<3:=by omega
  obtain⟨j1,j2,j3⟩:=i2 e he;have:fx a.vs v=0\/fx a.vs v=1\/fx a.vs v=2:=by omega
  rcases this with q|q|q<;>rw[q]<;>simp[mU]<;>omega
 .obtain⟨n,hn,h⟩:=List.mem_filterMap.1 ht;unfold kn at h;split at h
  case isFalse=>cases h
  cases h;have:=i1 n hn;simp at hx;omega
def Wb (g:Gr)(a:Am):∀t∈iW g a,∀x∈t,1<=x/\x<=1000001:=by
 intro t ht;unfold iW at ht;split at ht
 .rename_i h;exact Ra h.1 h.2.1 t ((lv lV t _).1 ht)
 .simp at ht
end Go.Proofs.YtaibpnppeiigdaaGreatDoor
