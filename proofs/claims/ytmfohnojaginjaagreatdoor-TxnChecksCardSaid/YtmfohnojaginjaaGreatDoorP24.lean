/- Part of the proof. -/
import Derived.Test.YtmfohnojaginjaaGreatDoorP23
set_option linter.all false
set_option maxHeartbeats 16000000
set_option maxRecDepth 100000
namespace Go.Proofs.YtmfohnojaginjaaGreatDoor
open Go Go.Ae Go.Proofs.Tryz
section
attribute [local simp] cn eD
noncomputable def rX :Code:=(f60.body).getD .skip
def EN(e:Int)(r:Option (Out × St)):Prop:=∃h',dL [.tmp 2] r=some ((e:AV),h')
def yF(hN:∀n b(s:ByteArray)h,ch cx (n+1) b 105 [s] h=some (.sc (.bool (fR s)),h))(n:Nat)(b:Bool)(r:Rl)(h:Hp):ch cx (n+2) b 60 [.ag (dd r)] h=some (.sc (.int .i64 (mW r)),h):=by
 have main:EN (mW r) (cO cx (ch cx (n+1)) rX ([.ag (dd r)]++List.replicate 76 .un,[])):=by
  have fk:=λb h=>PA n b r.kd h
  have fn:=λb h=>Lt n b r h
  have aa:=λb h=>hN n b r.nm h
  have af:=λb h=>hN n b r.ky h
  have ah:=λb h=>hN n b r.fr h
  have ai:=λb h=>hN n b r.tt h
  generalize n+1=M at fk fn aa af ah ai|-;unfold dd at *;generalize hE:mW r=E;unfold mW ZX adx at hE;generalize cE r.kd=kq at fk hE;generalize gK r.kd r.nn=nq at fn hE;generalize fR r.nm=n1 at aa hE;generalize fR r.ky=n2 at af hE;generalize fR r.fr=n3 at ah hE;generalize fR r.tt=n4 at ai hE;obtain⟨k,nn,nm,ky,f,t⟩:=r;simp only at hE fk fn aa af ah ai|-;rw[show rX= .seq (cL (cT 0 rX)) (.seq (cL (cT 1 rX)) (.seq (cL (cT 2 rX)) (cT 3 rX))) by kernel_rfl];have s3:∀fr,(if(!n1||(kq && !n2)||(!fm f ⟨#[]⟩ && !n3)||(!fm t ⟨#[]⟩ && !n4))=true then(6:Int)else 0)=E->fr.length=77->gt fr 1= .pt 0 0->EN E (M (cT 3 rX) (fr,[.row [k,nn,nm,ky,f,t]])):=by
   intro fr hE cf g1;clear fn;unfold EN;subst hE;cases hn1:n1
   .simp_all [rX,cT,cR,f60]
   .cases Sd:kq
    .cases he3:fm f ⟨#[]⟩
     .cases hn3:n3
      .simp_all [rX,cT,cR,f60]
      .cases he4:fm t ⟨#[]⟩
       .cases hn4:n4
        .simp_all [rX,cT,cR,f60]
        .simp_all [rX,cT,cR,f60]
       .simp_all [rX,cT,cR,f60]
     .cases he4:fm t ⟨#[]⟩
      .cases hn4:n4
       .simp_all [rX,cT,cR,f60]
       .simp_all [rX,cT,cR,f60]
      .simp_all [rX,cT,cR,f60]
    .cases tM:n2
     .simp_all [rX,cT,cR,f60]
     .cases he3:fm f ⟨#[]⟩
      .cases hn3:n3
       .simp_all [rX,cT,cR,f60]
       .cases he4:fm t ⟨#[]⟩
        .cases hn4:n4
         .simp_all [rX,cT,cR,f60]
         .simp_all [rX,cT,cR,f60]
        .simp_all [rX,cT,cR,f60]
      .cases he4:fm t ⟨#[]⟩
       .cases hn4:n4
        .simp_all [rX,cT,cR,f60]
        .simp_all [rX,cT,cR,f60]
       .simp_all [rX,cT,cR,f60]
  generalize cT 3 rX=Z3 at s3|-;have s2:∀fr,(if(!kq && !fm ky ⟨#[]⟩)||(!decide (k=6) && (!fm f ⟨#[]⟩|| !fm t ⟨#[]⟩))=true then 1 else if(!n1||(kq && !n2)||(!fm f ⟨#[]⟩ && !n3)||(!fm t ⟨#[]⟩ && !n4))=true then(6:Int)else 0)=E->fr.length=77->gt fr 1= .pt 0 0->EN E (M (.seq (cL (cT 2 rX)) Z3) (fr,[.row [k,nn,nm,ky,f,t]])):=by
   intro fr hE cf g1;cases Sd:kq
   .rw[Sd]at fk;cases hek:fm ky ⟨#[]⟩
    .rw[<-hE];unfold EN;simp[rX,cT,cR,cL,f60,cf,g1,fk,Sd,hek]
    .by_cases M1:k=6
     .subst M1;simp[rX,cT,cR,cL,f60,cf,g1,fk,hek];exact s3 _ (by rw[<-hE];simp[Sd,hek]) (by simp[cf]) (by simp[g1])
     .cases ZY:fm f ⟨#[]⟩
      .rw[<-hE];unfold EN;simp[rX,cT,cR,cL,f60,cf,g1,fk,Sd,hek,M1,ZY]
      .cases CW:fm t ⟨#[]⟩
       .rw[<-hE];unfold EN;simp[rX,cT,cR,cL,f60,cf,g1,fk,Sd,hek,M1,ZY,CW]
       .simp[rX,cT,cR,cL,f60,cf,g1,fk,hek,M1,ZY,CW];exact s3 _ (by rw[<-hE];simp[Sd,hek,M1,ZY,CW]) (by simp[cf]) (by simp[g1])
   .rw[Sd]at fk;by_cases M1:k=6
    .subst M1;simp[rX,cT,cR,cL,f60,cf,g1,fk];exact s3 _ (by rw[<-hE];simp[Sd]) (by simp[cf]) (by simp[g1])
    .cases ZY:fm f ⟨#[]⟩
     .rw[<-hE];unfold EN;simp[rX,cT,cR,cL,f60,cf,g1,fk,Sd,M1,ZY]
     .cases CW:fm t ⟨#[]⟩
      .rw[<-hE];unfold EN;simp[rX,cT,cR,cL,f60,cf,g1,fk,Sd,M1,ZY,CW]
      .simp[rX,cT,cR,cL,f60,cf,g1,fk,M1,ZY,CW];exact s3 _ (by rw[<-hE];simp[Sd,M1,ZY,CW]) (by simp[cf]) (by simp[g1])
  generalize Code.seq (cL (cT 2 rX)) Z3=Z2 at s2|-;clear s3;have cf:True:=trivial;have g1:True:=trivial;by_cases mS:k<1
  .rw[<-hE];unfold EN;simp[rX,cT,cR,cL,f60,mS]
  by_cases hk7:7<k
  .rw[<-hE];unfold EN;simp[rX,cT,cR,cL,f60,mS,hk7]
  cases hnq:nq
  .rw[hnq]at fn;rw[<-hE];unfold EN;simp[rX,cT,cR,cL,f60,fn,mS,hk7,hnq]
  .rw[hnq]at fn;simp[rX,cT,cR,cL,f60,fn,mS,hk7];exact s2 _ (by rw[<-hE];simp[mS,hk7,hnq]) (by simp) (by simp)
 obtain⟨h',e⟩:=main;refine PE (r:= .sc (.int .i64 (mW r))) (h':=h') f60 [.tmp 2] rfl e rfl b h
def PG(x:ByteArray)(i:Nat):Bool:=if i=0 then(match x.data.toList[0]? with|none=>false|some c=>rH c.toNat) && fQ x 1 else fQ x i
def BS(n:Nat)(b:Bool)(x:ByteArray)(h:Hp):ch cx (n+1) b 105 [x] h=some (.sc (.bool (fR x)),h):=by
 refine eR f105 [.tmp 2] rfl rfl ?_ b h;have fX:=tz x;have hN:fR x=(decide ((x.size:Int)<=20) && PG x 0):=by unfold fR PG;rw[cq rfl,Bool.and_assoc];rfl
 rw[hN];clear hN;by_cases z0:x.size=0
 .have:PG x 0=false:=by
   unfold PG;rw[cq rfl,List.getElem?_eq_none_iff.2 (by omega)];rfl
  rw[this];simp[f105,z0]
 have z1:¬(x.size:Int)<1:=by omega
 by_cases Hd:(x.size:Int)<=20
 rotate_left
 .simp[f105,z1,show 20< (x.size:Int) by omega,Hd]
 have KH:¬20< (x.size:Int):=by omega
 rw[decide_eq_true Hd,Xd];generalize hT:PG x 0=T;simp[f105,z1,KH];generalize gU:n (.loop _) _=XX;refine pU gU
  (λi s _=>PG x i=T/\s.length=65/\gt s 0=x/\gt s 3=i)
  (λo s _=>s.length=65/\((o= .exit 0/\T=true)\/(o= .ret/\T=false/\gt s 2=false))) x.size (by simp;omega) ⟨hT,by simp⟩ ?_ ?_
 .clear gU XX hT;rintro i fr h da ⟨ho,cf,h0,h3⟩;by_cases hi:i<x.size
  .obtain⟨c,hc⟩:∃c,x.data.toList[i]?=some c:=⟨_,Zb (by omega)⟩;have hf:cS .i64 ((i:Int)+1)=((i+1:Nat):Int):=cu (by omega) (by omega);have kK:∀k,x.data[i]'k=c:=λk=>by obtain⟨_,e⟩:=Za.1 hc;exact e
   obtain⟨q,hq⟩:∃q:Int,q=c.toNat:=⟨_,rfl⟩;have gI:Bg c=px q:=by rw[hq];rfl
   have hn1:PG x (i+1)=fQ x (i+1):=by unfold PG;rw[cm (by omega)]
   have dq:PG x i=if i=0 then rH q && PG x (i+1)else px q && PG x (i+1):=by
    rw[hn1];unfold PG;by_cases uT:i=0
    .subst uT;rw[cq rfl,cq rfl,hc,hq]
    .rw[cm uT,cm uT,rI hc,gI]
   rw[ho]at dq;clear ho hn1 gI;by_cases l1:97<=q/\q<=122
   .have hl:rH q=true:=by unfold rH;simp[l1.1,l1.2]
    have hw:px q=true:=Bi q hl;rw[hl,hw]at dq;simp only[Xd,ite_self]at dq;simp[cf,h0,h3,hi,kK,<-hq,l1.1,l1.2,hf];exact dq.symm
   by_cases l2:65<=q/\q<=90
   .have hl:rH q=true:=by unfold rH;simp[l2.1,l2.2]
    have hw:px q=true:=Bi q hl;rw[hl,hw]at dq;simp only[Xd,ite_self]at dq;simp[cf,h0,h3,hi,kK,<-hq,show¬97<=q by omega,l2.1,l2.2,hf];exact dq.symm
   have hl:rH q=false:=by
    unfold rH;by_cases a1:97<=q
    .simp[show¬q<=122 by omega,show¬q<=90 by omega]
    .by_cases a2:65<=q
     .simp[a1,show¬q<=90 by omega]
     .simp[a1,a2]
   rw[hl,Xi]at dq;have hwI:px q=((decide (48<=q) && decide (q<=57))||decide (q=95)):=by unfold px;rw[hl];simp
   rw[hwI]at dq;clear hwI hl;by_cases uT:i=0
   .subst uT;rw[cq rfl]at dq;subst dq;by_cases a1:97<=q
    .simp[cf,h0,h3,hi,kK,<-hq,a1,show¬q<=122 by omega,show 65<=q by omega,show¬q<=90 by omega]
    .by_cases a2:65<=q
     .simp[cf,h0,h3,hi,kK,<-hq,a1,a2,show¬q<=90 by omega]
     .simp[cf,h0,h3,hi,kK,<-hq,a1,a2]
   rw[cm uT]at dq;by_cases a1:97<=q
   .simp only[show¬q<=57 by omega,show¬q=95 by omega,decide_false,Bool.and_false,Bool.false_or,Xi]at dq;subst dq;simp[cf,h0,h3,hi,uT,kK,<-hq,a1,show¬q<=122 by omega,show 65<=q by omega,show¬q<=90 by omega,show¬q=95 by omega,show¬q<48 by omega,show 57<q by omega]
   by_cases a2:65<=q
   .by_cases a3:q=95
    .simp only[a3,decide_true,Bool.or_true,Xd]at dq;subst a3;simp[cf,h0,h3,hi,uT,kK,<-hq,hf];exact dq.symm
    .simp only[show¬q<=57 by omega,a3,decide_false,Bool.and_false,Bool.false_or,Xi]at dq;subst dq;simp[cf,h0,h3,hi,uT,kK,<-hq,a1,a2,a3,show¬q<=90 by omega,show¬q<48 by omega,show 57<q by omega]
   .by_cases a3:q<48
    .simp only[show¬48<=q by omega,show¬q=95 by omega,decide_false,Xi,Bool.false_or]at dq;subst dq;simp[cf,h0,h3,hi,uT,kK,<-hq,a1,a2,a3,show¬q=95 by omega]
    .by_cases a4:57<q
     .simp only[show¬q<=57 by omega,show¬q=95 by omega,decide_false,Bool.and_false,Bool.false_or,Xi]at dq;subst dq;simp[cf,h0,h3,hi,uT,kK,<-hq,a1,a2,a3,a4,show¬q=95 by omega]
     .simp only[show 48<=q by omega,show q<=57 by omega,decide_true,Xd,Bool.true_or]at dq;simp[cf,h0,h3,hi,uT,kK,<-hq,a1,a2,a3,a4,show¬q=95 by omega,hf];exact dq.symm
  .have k_:i=x.size:=by omega
   have hz:T=true:=by
    rw[<-ho];unfold PG;rw[cm (by omega),yo x i (by omega)]
   simp[cf,h0,h3,hi,hz]
 .rintro o gO h' rfl ⟨cf,⟨rfl,hz⟩|⟨rfl,hz,h2⟩⟩
  .simp[cf,hz]
  .simp[h2,hz]
def wC(l:List Rl)(i:Nat):Bool:=match l[i]? with
 |none=>true
 |some r=>decide (mW r=0) && (if i=0 then true else match l[i-1]? with|some p=>decide (xy p r<0)|none=>true)
def z7(l:List Rl)(i:Nat):Bool:=(List.range' i (l.length-i)).all (wC l)
def fL(l:List Rl):Bool:=decide (l.length<=40) && z7 l 0
def IA(l:List Rl)(i:Nat)(h:l.length<=i):z7 l i=true:=by unfold z7;rw[show l.length-i=0 by omega];rfl
def D5(l:List Rl)(i:Nat)(h:i<l.length):z7 l i=(wC l i && z7 l (i+1)):=by
 unfold z7;rw[show l.length-i=(l.length-(i+1))+1 by omega,List.range'_succ,Zn]
def D6(n:Nat)(b:Bool)(l:List Rl)(z:Bool)(h:Hp):ch cx (n+4) b 31 [.ls 6 (sR l) z] h=some (.sc (.bool (fL l)),h):=by
 refine eR f31 [.tmp 2] rfl rfl ?_ b h;have hq:=kX l;have hg:=uR l;have fk:=λ(r:Rl)b h=>yF BS (n+1) b r h
 have fo:=λ(p q:Rl)b h=>PD (n+1) p q b h
 rw[show n+1+2=n+3 from rfl]at fk fo;generalize n+3=M at fk fo|-;by_cases GH:l.length<=40
 rotate_left
 .have:fL l=false:=by unfold fL;simp[GH]
  rw[this];simp[f31,hq,show(40:Int)< (l.length:Int) by omega]
 have ai9:¬(40:Int)< (l.length:Int):=by omega
 rw[show fL l=z7 l 0 by unfold fL;rw[decide_eq_true GH,Xd]];generalize sR l=R at hq hg|-;generalize hT:z7 l 0=T;simp[f31,hq,ai9];generalize gU:M (.loop _) _=XX;refine pU gU
  (λi s _=>z7 l i=T/\s.length=36/\gt s 0= .ls 6 R z/\gt s 3=i)
  (λo s _=>s.length=36/\((o= .exit 0/\T=true)\/(o= .ret/\T=false/\gt s 2=false))) l.length (by simp;omega) ⟨hT,by simp⟩ ?_ ?_
 .clear gU XX hT;rintro i fr h da ⟨ho,cf,h0,h3⟩;rcases jr hg da with⟨x,hi,hx,hr,cz⟩|rfl
  .have IB:(dd x).length=6:=rfl;have Se:(dd x).take 6=dd x:=rfl;have hs:=D5 l i hi;rw[ho]at hs;by_cases e0:mW x=0
   .have fx:=λb h=>fk x b h
    rw[e0]at fx;by_cases uT:i=0
    .subst uT;have:wC l 0=true:=by unfold wC;rw[hx];simp[e0]
     rw[this,Xd]at hs;have hf:cS .i64 (((0:Nat):Int)+1)=((0+1:Nat):Int):=cu (by omega) (by omega);simp[cf,h0,h3,hq,hi,cz,IB,Se,fx];exact⟨hs.symm,by simpa using hf⟩
    .obtain⟨j,rfl⟩:∃j,i=j+1:=⟨i-1,by omega⟩;obtain⟨p,hp,ZZ,PH⟩:=kT hg (show j<l.length by omega);have fp:=λb h=>fo p x b h
     have qD:(dd p).length=6:=rfl;have GK:(dd p).take 6=dd p:=rfl;have c1:j<l.length:=by omega
     have c2:(j:Int)+1< (l.length:Int):=by omega
     have c3:(0:Int)< (j:Int)+1:=by omega
     have c4:(0:Int)<=(j:Int)+1:=by omega
     have c5:(((j+1:Nat):Int)-1)=(j:Int):=by omega
     have b1:(j:Int)+1+1<9223372036854775807:=by clear hs;omega
     have IC:cS .i64 (j:Int)=(j:Int):=cu (by omega) (by omega);have Sf:cS .i64 (((j+1:Nat):Int)-1)=(j:Int):=by rw[c5];exact IC
     have hf4:cS .i64 ((j:Int)+1+1)=(j:Int)+1+1:=by clear Sf IC;exact cu (by omega) (by omega)
     have dq:wC l (j+1)=decide (xy p x<0):=by unfold wC;rw[hx];simp[e0,hp]
     rw[dq]at hs;generalize xy p x=k at fp hs;by_cases hk:k<0
     .rw[decide_eq_true hk,Xd]at hs;simp[cf,h0,h3,hq,hi,cz,IB,Se,fx,hf4,IC,PH,qD,GK,fp,c1,c2,c3,c4,show¬(0:Int)<=k by clear Sf IC hf4;omega];exact hs.symm
     .rw[decide_eq_false hk,Xi]at hs;simp[cf,h0,h3,hq,hi,cz,IB,Se,fx,IC,PH,qD,GK,fp,c1,c2,c3,c4,show(0:Int)<=k by clear Sf IC hf4;omega];exact hs
   .have:wC l i=false:=by unfold wC;rw[hx];simp[e0]
    rw[this,Xi]at hs;have fx:=λb h=>fk x b h
    simp[cf,h0,h3,hq,hi,cz,IB,Se,fx,e0];exact hs
  .rw[IA l _ (Xc _)]at ho;simp[cf,h0,h3,hq,<-ho]
 .rintro o gO h' rfl ⟨cf,⟨rfl,hz⟩|⟨rfl,hz,h2⟩⟩
  .simp[cf,hz]
  .simp[h2,hz]
def nE(k:Int):Bool:=decide (k=3)||decide (k=5)||decide (k=7)
def m_(k:Int):Bool:=decide (1<=k) && decide (k<=7)
def Z0(a b c d:Bool):[AV.ag [a,b,c],.sc (.bool d)].all dk=true:=rfl
def PI(n:Nat)(b:Bool)(k:Int)(h:Hp):ch cx (n+1) b 95 [k] h=some (.tp [.ag [.sc (.bool (cE k)),.sc (.bool (nE k)),.sc (.bool (decide (k=6)))],.sc (.bool (m_ k))],h):=by
 refine tA (xs:=[.ag [.sc (.bool (cE k)),.sc (.bool (nE k)),.sc (.bool (decide (k=6)))],.sc (.bool (m_ k))]) f95 [.cell 2 3 true,.tmp 3] rfl (by exact Z0 _ _ _ _) ?_ b h;unfold cE nE m_;by_cases e1:k=1
 .subst e1;simp[f95]
 by_cases e2:k=2
 .subst e2;simp[f95]
 by_cases e3:k=3
 .subst e3;simp[f95]
 by_cases e4:k=4
 .subst e4;simp[f95]
 by_cases e5:k=5
 .subst e5;simp[f95]
 by_cases e6:k=6
 .subst e6;simp[f95]
 by_cases e7:k=7
 .subst e7;simp[f95]
 have a1:¬(1<=k/\k<=7):=by omega
 have a2:¬(1<=k/\k<=5):=by omega
 rw[<-Bool.decide_and,<-Bool.decide_and,decide_eq_false a1,decide_eq_false a2];simp[f95,e1,e2,e3,e4,e5,e6,e7]
def kwR(k:Int):ByteArray:=if k=1 then⟨#[98,111,111,108]⟩else if k=2 then⟨#[105,110,116]⟩else if k=4 then⟨#[115,116,114]⟩else⟨#[]⟩
def ady(k:Int):fm (kwR k) ⟨#[]⟩= !(decide (k=1)||decide (k=2)||decide (k=4)):=by
 unfold kwR;by_cases e1:k=1
 .rw[cq e1];simp[e1];rfl
 by_cases e2:k=2
 .rw[cm e1,cq e2];simp[e2];rfl
 by_cases e4:k=4
 .rw[cm e1,cm e2,cq e4];simp[e4];rfl
 .rw[cm e1,cm e2,cm e4];simp[e1,e2,e4];rfl
def ID(n:Nat)(b:Bool)(k:Int)(h:Hp):ch cx (n+1) b 96 [k] h=some (.sc (.string (kwR k)),h):=by
 refine eR f96 [.tmp 2] rfl rfl ?_ b h;unfold kwR;by_cases e1:k=1
 .subst e1;simp[f96]
 by_cases e2:k=2
 .subst e2;simp[f96]
 by_cases e4:k=4
 .subst e4;simp[f96]
 .simp[f96,e1,e2,e4]
def UG(n:Nat)(b:Bool)(r:Rl)(h:Hp):ch cx (n+3) b 55 [.ag (dd r)] h=some (.sc (.int .i64 (mW r)),h):=by
 refine eR f55 [.tmp 2] rfl rfl ?_ b h;have ar:=λb h=>PI (n+1) b r.kd h
 have fw:=λb h=>ID (n+1) b r.nn h
 have aa:=λb h=>wa n b r.nm h
 have af:=λb h=>wa n b r.ky h
 have ah:=λb h=>wa n b r.fr h
 have ai:=λb h=>wa n b r.tt h
 have kw:=ady r.nn;rw[show n+1+1=n+2 from rfl]at ar fw;generalize n+2=M at ar fw aa af ah ai|-;unfold dd at *;generalize hE:mW r=E;unfold mW ZX adx at hE;generalize fR r.nm=n1 at aa hE;generalize fR r.ky=n2 at af hE;generalize fR r.fr=n3 at ah hE;generalize fR r.tt=n4 at ai hE;generalize kwR r.nn=w at fw kw;obtain⟨k,nn,nm,ky,f,t⟩:=r;simp only at hE ar fw aa af ah ai kw|-;by_cases e1:k=1
 .subst e1;by_cases h0:nn=0
  rotate_left
  .rw[show E=1 by rw[<-hE];simp[cE,gK,h0]];simp[f55,ar,show cE 1=true from rfl,show nE 1=false from rfl,show m_ 1=true from rfl,h0]
  rcases Qb (fm f ⟨#[]⟩)with hf|hf
  rotate_left
  .rw[show E=1 by rw[<-hE];simp[cE,gK,h0,hf]];simp[f55,ar,show cE 1=true from rfl,show nE 1=false from rfl,show m_ 1=true from rfl,h0,hf]
  rcases Qb (fm t ⟨#[]⟩)with ht|ht
  rotate_left
  .rw[show E=1 by rw[<-hE];simp[cE,gK,h0,hf,ht]];simp[f55,ar,show cE 1=true from rfl,show nE 1=false from rfl,show m_ 1=true from rfl,h0,hf,ht]
  rcases Qb (n1)with h1|h1
  rotate_left
  .rw[show E=6 by rw[<-hE];simp[cE,gK,h0,hf,ht,h1]];simp[f55,ar,aa,show cE 1=true from rfl,show nE 1=false from rfl,show m_ 1=true from rfl,h0,hf,ht,h1]
  rcases Qb (n2)with h2|h2
  rotate_left
  .rw[show E=6 by rw[<-hE];simp[cE,gK,h0,hf,ht,h1,h2]];simp[f55,ar,aa,af,show cE 1=true from rfl,show nE 1=false from rfl,show m_ 1=true from rfl,h0,hf,ht,h1,h2]
  rw[show E=0 by rw[<-hE];simp[cE,gK,h0,hf,ht,h1,h2]];simp[f55,ar,aa,af,show cE 1=true from rfl,show nE 1=false from rfl,show m_ 1=true from rfl,h0,hf,ht,h1,h2]
 by_cases e2:k=2
 .subst e2;by_cases h0:nn=0
  rotate_left
  .rw[show E=1 by rw[<-hE];simp[cE,gK,h0]];simp[f55,ar,show cE 2=true from rfl,show nE 2=false from rfl,show m_ 2=true from rfl,h0]
  rcases Qb (fm f ⟨#[]⟩)with hf|hf
  rotate_left
  .rw[show E=1 by rw[<-hE];simp[cE,gK,h0,hf]];simp[f55,ar,show cE 2=true from rfl,show nE 2=false from rfl,show m_ 2=true from rfl,h0,hf]
  rcases Qb (fm t ⟨#[]⟩)with ht|ht
  rotate_left
  .rw[show E=1 by rw[<-hE];simp[cE,gK,h0,hf,ht]];simp[f55,ar,show cE 2=true from rfl,show nE 2=false from rfl,show m_ 2=true from rfl,h0,hf,ht]
  rcases Qb (n1)with h1|h1
  rotate_left
  .rw[show E=6 by rw[<-hE];simp[cE,gK,h0,hf,ht,h1]];simp[f55,ar,aa,show cE 2=true from rfl,show nE 2=false from rfl,show m_ 2=true from rfl,h0,hf,ht,h1]
  rcases Qb (n2)with h2|h2
  rotate_left
  .rw[show E=6 by rw[<-hE];simp[cE,gK,h0,hf,ht,h1,h2]];simp[f55,ar,aa,af,show cE 2=true from rfl,show nE 2=false from rfl,show m_ 2=true from rfl,h0,hf,ht,h1,h2]
  rw[show E=0 by rw[<-hE];simp[cE,gK,h0,hf,ht,h1,h2]];simp[f55,ar,aa,af,show cE 2=true from rfl,show nE 2=false from rfl,show m_ 2=true from rfl,h0,hf,ht,h1,h2]
 by_cases e3:k=3
 .subst e3;rcases Qb (fm f ⟨#[]⟩)with hf|hf
  rotate_left
  .rw[show E=1 by rw[<-hE];simp[cE,gK,hf]];simp[f55,ar,show cE 3=true from rfl,show nE 3=true from rfl,show m_ 3=true from rfl,hf]
  rcases Qb (fm t ⟨#[]⟩)with ht|ht
  rotate_left
  .rw[show E=1 by rw[<-hE];simp[cE,gK,hf,ht]];simp[f55,ar,show cE 3=true from rfl,show nE 3=true from rfl,show m_ 3=true from rfl,hf,ht]
  rcases Qb (decide (nn=1)||decide (nn=2)||decide (nn=4))with hw|hw
  rotate_left
  .rw[show E=1 by rw[<-hE];simp[cE,gK,hf,ht,hw]];simp[f55,ar,fw,kw,show cE 3=true from rfl,show nE 3=true from rfl,show m_ 3=true from rfl,hf,ht,hw]
  rcases Qb (n1)with h1|h1
  rotate_left
  .rw[show E=6 by rw[<-hE];simp[cE,gK,hf,ht,hw,h1]];simp[f55,ar,fw,aa,kw,show cE 3=true from rfl,show nE 3=true from rfl,show m_ 3=true from rfl,hf,ht,hw,h1]
  rcases Qb (n2)with h2|h2
  rotate_left
  .rw[show E=6 by rw[<-hE];simp[cE,gK,hf,ht,hw,h1,h2]];simp[f55,ar,fw,aa,af,kw,show cE 3=true from rfl,show nE 3=true from rfl,show m_ 3=true from rfl,hf,ht,hw,h1,h2]
  rw[show E=0 by rw[<-hE];simp[cE,gK,hf,ht,hw,h1,h2]];simp[f55,ar,fw,aa,af,kw,show cE 3=true from rfl,show nE 3=true from rfl,show m_ 3=true from rfl,hf,ht,hw,h1,h2]
 by_cases e4:k=4
 .subst e4;by_cases h0:nn=0
  rotate_left
  .rw[show E=1 by rw[<-hE];simp[cE,gK,h0]];simp[f55,ar,show cE 4=true from rfl,show nE 4=false from rfl,show m_ 4=true from rfl,h0]
  rcases Qb (fm f ⟨#[]⟩)with hf|hf
  rotate_left
  .rw[show E=1 by rw[<-hE];simp[cE,gK,h0,hf]];simp[f55,ar,show cE 4=true from rfl,show nE 4=false from rfl,show m_ 4=true from rfl,h0,hf]
  rcases Qb (fm t ⟨#[]⟩)with ht|ht
  rotate_left
  .rw[show E=1 by rw[<-hE];simp[cE,gK,h0,hf,ht]];simp[f55,ar,show cE 4=true from rfl,show nE 4=false from rfl,show m_ 4=true from rfl,h0,hf,ht]
  rcases Qb (n1)with h1|h1
  rotate_left
  .rw[show E=6 by rw[<-hE];simp[cE,gK,h0,hf,ht,h1]];simp[f55,ar,aa,show cE 4=true from rfl,show nE 4=false from rfl,show m_ 4=true from rfl,h0,hf,ht,h1]
  rcases Qb (n2)with h2|h2
  rotate_left
  .rw[show E=6 by rw[<-hE];simp[cE,gK,h0,hf,ht,h1,h2]];simp[f55,ar,aa,af,show cE 4=true from rfl,show nE 4=false from rfl,show m_ 4=true from rfl,h0,hf,ht,h1,h2]
  rw[show E=0 by rw[<-hE];simp[cE,gK,h0,hf,ht,h1,h2]];simp[f55,ar,aa,af,show cE 4=true from rfl,show nE 4=false from rfl,show m_ 4=true from rfl,h0,hf,ht,h1,h2]
 by_cases e5:k=5
 .subst e5;rcases Qb (fm f ⟨#[]⟩)with hf|hf
  rotate_left
  .rw[show E=1 by rw[<-hE];simp[cE,gK,hf]];simp[f55,ar,show cE 5=true from rfl,show nE 5=true from rfl,show m_ 5=true from rfl,hf]
  rcases Qb (fm t ⟨#[]⟩)with ht|ht
  rotate_left
  .rw[show E=1 by rw[<-hE];simp[cE,gK,hf,ht]];simp[f55,ar,show cE 5=true from rfl,show nE 5=true from rfl,show m_ 5=true from rfl,hf,ht]
  rcases Qb (decide (nn=1)||decide (nn=2)||decide (nn=4))with hw|hw
  rotate_left
  .rw[show E=1 by rw[<-hE];simp[cE,gK,hf,ht,hw]];simp[f55,ar,fw,kw,show cE 5=true from rfl,show nE 5=true from rfl,show m_ 5=true from rfl,hf,ht,hw]
  rcases Qb (n1)with h1|h1
  rotate_left
  .rw[show E=6 by rw[<-hE];simp[cE,gK,hf,ht,hw,h1]];simp[f55,ar,fw,aa,kw,show cE 5=true from rfl,show nE 5=true from rfl,show m_ 5=true from rfl,hf,ht,hw,h1]
  rcases Qb (n2)with h2|h2
  rotate_left
  .rw[show E=6 by rw[<-hE];simp[cE,gK,hf,ht,hw,h1,h2]];simp[f55,ar,fw,aa,af,kw,show cE 5=true from rfl,show nE 5=true from rfl,show m_ 5=true from rfl,hf,ht,hw,h1,h2]
  rw[show E=0 by rw[<-hE];simp[cE,gK,hf,ht,hw,h1,h2]];simp[f55,ar,fw,aa,af,kw,show cE 5=true from rfl,show nE 5=true from rfl,show m_ 5=true from rfl,hf,ht,hw,h1,h2]
 by_cases e6:k=6
 .subst e6;rcases Qb (fm ky ⟨#[]⟩)with hk|hk
  rotate_left
  .rw[show E=1 by rw[<-hE];simp[cE,gK,hk]];simp[f55,ar,show cE 6=false from rfl,show nE 6=false from rfl,show m_ 6=true from rfl,hk]
  by_cases h0:nn=0
  rotate_left
  .rw[show E=1 by rw[<-hE];simp[cE,gK,hk,h0]];simp[f55,ar,show cE 6=false from rfl,show nE 6=false from rfl,show m_ 6=true from rfl,hk,h0]
  rcases Qb (n1)with h1|h1
  rotate_left
  .rw[show E=6 by rw[<-hE];simp[cE,gK,hk,h0,h1]];simp[f55,ar,aa,show cE 6=false from rfl,show nE 6=false from rfl,show m_ 6=true from rfl,hk,h0,h1]
  rcases Qb (fm f ⟨#[]⟩)with hf|hf
  .rcases Qb (fm t ⟨#[]⟩)with ht|ht
   .rw[show E=0 by rw[<-hE];simp[cE,gK,hk,h0,h1,hf,ht]];simp[f55,ar,aa,show cE 6=false from rfl,show nE 6=false from rfl,show m_ 6=true from rfl,hk,h0,h1,hf,ht]
   .rcases Qb n4 with h4|h4
    .rw[show E=0 by rw[<-hE];simp[cE,gK,hk,h0,h1,hf,ht,h4]];simp[f55,ar,aa,ai,show cE 6=false from rfl,show nE 6=false from rfl,show m_ 6=true from rfl,hk,h0,h1,hf,ht,h4]
    .rw[show E=6 by rw[<-hE];simp[cE,gK,hk,h0,h1,hf,ht,h4]];simp[f55,ar,aa,ai,show cE 6=false from rfl,show nE 6=false from rfl,show m_ 6=true from rfl,hk,h0,h1,hf,ht,h4]
  .rcases Qb n3 with h3|h3
   .rcases Qb (fm t ⟨#[]⟩)with ht|ht
    .rw[show E=0 by rw[<-hE];simp[cE,gK,hk,h0,h1,hf,h3,ht]];simp[f55,ar,aa,ah,show cE 6=false from rfl,show nE 6=false from rfl,show m_ 6=true from rfl,hk,h0,h1,hf,h3,ht]
    .rcases Qb n4 with h4|h4
     .rw[show E=0 by rw[<-hE];simp[cE,gK,hk,h0,h1,hf,h3,ht,h4]];simp[f55,ar,aa,ah,ai,show cE 6=false from rfl,show nE 6=false from rfl,show m_ 6=true from rfl,hk,h0,h1,hf,h3,ht,h4]
     .rw[show E=6 by rw[<-hE];simp[cE,gK,hk,h0,h1,hf,h3,ht,h4]];simp[f55,ar,aa,ah,ai,show cE 6=false from rfl,show nE 6=false from rfl,show m_ 6=true from rfl,hk,h0,h1,hf,h3,ht,h4]
   .rw[show E=6 by rw[<-hE];simp[cE,gK,hk,h0,h1,hf,h3]];simp[f55,ar,aa,ah,show cE 6=false from rfl,show nE 6=false from rfl,show m_ 6=true from rfl,hk,h0,h1,hf,h3]
 by_cases e7:k=7
 .subst e7;rcases Qb (fm ky ⟨#[]⟩)with hk|hk
  rotate_left
  .rw[show E=1 by rw[<-hE];simp[cE,gK,hk]];simp[f55,ar,show cE 7=false from rfl,show nE 7=true from rfl,show m_ 7=true from rfl,hk]
  rcases Qb (fm f ⟨#[]⟩)with hf|hf
  rotate_left
  .rw[show E=1 by rw[<-hE];simp[cE,gK,hk,hf]];simp[f55,ar,show cE 7=false from rfl,show nE 7=true from rfl,show m_ 7=true from rfl,hk,hf]
  rcases Qb (fm t ⟨#[]⟩)with ht|ht
  rotate_left
  .rw[show E=1 by rw[<-hE];simp[cE,gK,hk,hf,ht]];simp[f55,ar,show cE 7=false from rfl,show nE 7=true from rfl,show m_ 7=true from rfl,hk,hf,ht]
  by_cases ha:0<=nn
  rotate_left
  .rw[show E=1 by rw[<-hE];simp[cE,gK,hk,hf,ht,ha]];simp[f55,ar,show cE 7=false from rfl,show nE 7=true from rfl,show m_ 7=true from rfl,hk,hf,ht,show nn<0 by omega]
  by_cases hb:nn<=4000
  rotate_left
  .rw[show E=1 by rw[<-hE];simp[cE,gK,hk,hf,ht,ha,show¬nn<0 by omega,hb]];simp[f55,ar,show cE 7=false from rfl,show nE 7=true from rfl,show m_ 7=true from rfl,hk,hf,ht,show¬nn<0 by omega,show 4000<nn by omega]
  rcases Qb (n1)with h1|h1
  rotate_left
  .rw[show E=6 by rw[<-hE];simp[cE,gK,hk,hf,ht,ha,show¬nn<0 by omega,hb,show¬4000<nn by omega,h1]];simp[f55,ar,aa,show cE 7=false from rfl,show nE 7=true from rfl,show m_ 7=true from rfl,hk,hf,ht,show¬nn<0 by omega,show¬4000<nn by omega,h1]
  rw[show E=0 by rw[<-hE];simp[cE,gK,hk,hf,ht,ha,show¬nn<0 by omega,hb,show¬4000<nn by omega,h1]];simp[f55,ar,aa,show cE 7=false from rfl,show nE 7=true from rfl,show m_ 7=true from rfl,hk,hf,ht,show¬nn<0 by omega,show¬4000<nn by omega,h1]
 have a1:m_ k=false:=by unfold m_;rw[<-Bool.decide_and];exact decide_eq_false (by omega)
 have a2:k<1\/7<k:=by omega
 rw[show E=1 by rw[<-hE];rcases a2 with a2|a2<;>simp[a2]];simp[f55,ar,a1]
def IE(n:Nat)(b:Bool)(l:List Rl)(z:Bool)(h:Hp)(hl:l.length<=1000000000000):ch cx (n+4) b 26 [.ls 6 (sR l) z] h=some (.sc (.bool (fL l)),h):=by
 have main:∃h',dL [.tmp 2] (cO cx (ch cx (n+3)) ((f26.body).getD .skip) ([.ls 6 (sR l) z]++List.replicate 32 .un,[]))=some (.sc (.bool (fL l)),h'):=by
  have hq:=kX l;have hg:=uR l;have fk:=λ(r:Rl)b h=>UG n b r h
  have fo:=λ(p q:Rl)b h=>UF n p q b h
  generalize n+3=M at fk fo|-;generalize hT:fL l=T,hV:z7 l 0=V;have hTV:T=(decide ((l.length:Int)<=40) && V):=by rw[<-hT,<-hV];unfold fL;congr 1;exact decide_eq_decide.2 (by omega)
  clear hT;generalize sR l=R at hq hg|-;simp[f26,hq];generalize gU:M (.loop _) _=XX;refine pU gU
   (λi s _=>z7 l i=V/\s.length=33/\gt s 0= .ls 6 R z/\gt s 5= .ls 6 R z/\gt s 6=l.length/\gt s 7=i)
   (λo s _=>s.length=33/\((o= .exit 0/\V=true/\gt s 0= .ls 6 R z)\/(o= .ret/\V=false/\gt s 2=false))) l.length (by simp;omega) ⟨hV,by simp⟩ ?_ ?_
  .clear gU XX hV hTV;rintro i fr h da ⟨ho,cf,h0,h5,h6,h7⟩;rcases jr hg da with⟨x,hi,hx,hr,cz⟩|rfl
   .have hs:=D5 l i hi;rw[ho]at hs;have IB:(dd x).length=6:=rfl;have Se:(dd x).take 6=dd x:=rfl;by_cases e0:mW x=0
    .have fx:=λb h=>fk x b h
     rw[e0]at fx;by_cases uT:i=0
     .subst uT;have:wC l 0=true:=by unfold wC;rw[hx];simp[e0]
      rw[this,Xd]at hs;generalize dd x=row at hr cz fx IB Se;have hf:cS .i64 (((0:Nat):Int)+1)=((0+1:Nat):Int):=cu (by omega) (by omega);simp[cf,h0,h5,h6,h7,hq,hi,cz,Se,fx,IB];exact⟨hs.symm,by simpa using hf⟩
     .obtain⟨j,rfl⟩:∃j,i=j+1:=⟨i-1,by omega⟩;obtain⟨p,hp,ZZ,PH⟩:=kT hg (show j<l.length by omega);have fp:=λb h=>fo p x b h
      have qD:(dd p).length=6:=rfl;have GK:(dd p).take 6=dd p:=rfl;have c1:j<l.length:=by omega
      have c2:(j:Int)+1< (l.length:Int):=by omega
      have c3:(0:Int)< (j:Int)+1:=by omega
      have c4:(0:Int)<=(j:Int)+1:=by omega
      have c5:(((j+1:Nat):Int)-1)=(j:Int):=by omega
      have b1:(j:Int)+1+1<9223372036854775807:=by clear hs;omega
      have IC:cS .i64 (j:Int)=(j:Int):=cu (by omega) (by omega);have Sf:cS .i64 (((j+1:Nat):Int)-1)=(j:Int):=by rw[c5];exact IC
      have hf4:cS .i64 ((j:Int)+1+1)=(j:Int)+1+1:=by clear Sf IC;exact cu (by omega) (by omega)
      have dq:wC l (j+1)=decide (xy p x<0):=by unfold wC;rw[hx];simp[e0,hp]
      rw[dq]at hs;generalize xy p x=k at fp hs;generalize dd x=row at hr cz fx IB Se fp;generalize dd p=rowp at ZZ PH fp qD GK;by_cases hk:k<0
      .rw[decide_eq_true hk,Xd]at hs;simp[cf,h0,h5,h6,h7,hq,hi,cz,Se,fx,hf4,IC,PH,qD,GK,fp,IB,c1,c2,c3,c4,show¬(0:Int)<=k by clear Sf IC hf4;omega];exact hs.symm
      .rw[decide_eq_false hk,Xi]at hs;simp[cf,h0,h5,h6,h7,hq,hi,cz,Se,fx,IC,PH,qD,GK,fp,IB,c1,c2,c3,c4,show(0:Int)<=k by clear Sf IC hf4;omega];exact hs
    .have:wC l i=false:=by unfold wC;rw[hx];simp[e0]
     rw[this,Xi]at hs;have fx:=λb h=>fk x b h
     generalize dd x=row at hr cz fx IB Se;simp[cf,h0,h5,h6,h7,hq,hi,cz,Se,fx,e0,IB];exact hs
   .rw[IA l _ (Xc _)]at ho;simp[cf,h0,h6,h7,<-ho]
  .rintro o gO h' rfl ⟨cf,⟨rfl,hz,h0⟩|⟨rfl,hz,h2⟩⟩
   .rw[hTV,hz,Bool.and_true];by_cases GH:(l.length:Int)<=40<;>simp[cf,h0,hq,GH]
   .rw[hTV,hz,Bool.and_false];simp[h2]
 obtain⟨h',e⟩:=main;exact gD (r:= .sc (.bool (fL l))) (h':=h') (n:=n+3) ⟨f26.ntmps,(f26.body).getD .skip,[.tmp 2]⟩ (by kernel_rfl) (by kernel_rfl) rfl (by kernel_rfl) (by simp[f26]) rfl e rfl b h
end
section
variable {α : Type} {R : α -> α -> Prop} {lt eq : α -> Bool} {l pre eY post : List α}
def t_(hs:gZ lt eq l pre eY post)(hl:l.Pairwise R):(pre++post).Pairwise R:=by
 have:=hs.e;rw[Zp]at this;rw[this]at hl;exact hl.sublist ((List.Sublist.refl pre).append (List.sublist_append_right eY post))
def AB(hs:gZ lt eq l pre eY post)(hl:l.Pairwise R)(n:α)(h1:∀x∈pre,R x n)(h2:∀x∈post,R n x):(pre++n::post).Pairwise R:=by
 have:=t_ hs hl;rw[List.pairwise_append]at this|-;refine⟨this.1,List.pairwise_cons.2 ⟨h2,this.2.1⟩,λx hx y hy=>?_⟩;rcases Yw.1 hy with rfl|hy
 .exact h1 x hx
 .exact this.2.2 x hx y hy
def xz(hs:gZ lt eq l pre eY post){x:α}(h:x∈pre):x∈l:=by rw[hs.e];simp[h]
def xA(hs:gZ lt eq l pre eY post){x:α}(h:x∈post):x∈l:=by rw[hs.e];simp[h]
def rY(hs:gZ lt eq l pre eY post):l.length=pre.length+eY.length+post.length:=by rw[hs.e];simp;omega
end
def lv{l:List ByteArray}{p:List fZ}:gk l p=0↔(l.length<=8/\p.length<=16)/\(eT l=true/\eT (iq p)=true)/\(dS l=true/\dS (iq p)=true)/\gE p=true:=by
 unfold gk;by_cases h1:8<l.length\/16<p.length
 .rw[cq h1];constructor
  .intro h;cases h
  .intro h;omega
 rw[cm h1];have h2:l.length<=8/\p.length<=16:=by omega
 cases eT l<;>cases eT (iq p)<;>cases dS l<;>cases dS (iq p)<;>cases gE p<;>simp[h2]
def rZ :∀{l:List ByteArray},l.Pairwise (λa b=>nC a b=true)->dS l=true
 | [],_=>rfl
 | [x],_=>rfl
 |
  x::y::l,h=>by
  rw[List.pairwise_cons]at h;show(nC x y && dS (y::l))=true;rw[h.1 y (by simp),rZ h.2];rfl
structure ny (D:Nat)(g:Gr):Prop where
 v:GV g
 b:NB g
 n:∀n∈g.nodes,RZ D n.props
 e:∀e∈g.cj,RZ D e.props
def ny.gr{D:Nat}{g:Gr}(H:ny D g):qw D g:={
 nl:=by have:=H.v.nl;omega
 el:=by have:=H.v.el;omega
 ns:=λn hn=>by have:=lv.1 (H.v.np n hn);exact⟨by omega,by omega,H.n n hn⟩
 es:=λn hn=>by have:=lv.1 (H.v.ep n hn);exact⟨by omega,H.e n hn⟩}
def FL{D:Nat}{g:Gr}(h:dQ g=0)(hb:qw D g):ny D g:=⟨HT h,Uc h,λn hn=>(hb.ns n hn).2.2,λn hn=>(hb.es n hn).2⟩
section
variable {D : Nat} {g : Gr} {x : Int}
def uU{pre eY post:List Nd}{m:Nd}(H:ny D g)(hs:gZ (p_ x) (pB x) g.nodes pre eY post)(hm:m.id=x)(hl:pre.length+post.length<2000)(hp:gk m.labels m.props=0)(hb:RZ D m.props):ny D (qG g pre post m):=by
 have a1:∀a∈pre,a.id<m.id:=λa ha=>by have:=(hs.p a ha).1;unfold p_ at this;rw[Zy]at this;omega
 have a3:∀a∈post,m.id<a.id:=λa ha=>by
  obtain⟨u,w⟩:=hs.q a ha;unfold p_ at u;unfold pB at w;rw[decide_eq_false_iff_not]at u w;omega
 have mem:∀a∈pre++m::post,a∈g.nodes\/a=m:=λa ha=>by
  rw[Zz,Yw]at ha;rcases ha with ha|ha|ha
  .exact .inl (xz hs ha)
  .exact .inr ha
  .exact .inl (xA hs ha)
 refine⟨⟨by simp[qG];omega,H.v.el,AB hs H.v.sn m a1 a3,H.v.se,λa ha=>?_,H.v.ep⟩,⟨λa ha=>?_,H.b.e⟩,λa ha=>?_,H.e⟩
 .rcases mem a ha with ha|rfl
  .exact H.v.np a ha
  .exact hp
 .show a.id+1<=max g.nn (m.id+1);rcases mem a ha with ha|rfl
  .have:=H.b.n a ha;omega
  .omega
 .rcases mem a ha with ha|rfl
  .exact H.n a ha
  .exact hb
def PJ{pre eY post:List Nd}(H:ny D g)(hs:gZ (p_ x) (pB x) g.nodes pre eY post):ny D {g with nodes:=pre++post}:=by
 have mem:∀a∈pre++post,a∈g.nodes:=λa ha=>by
  rw[Zz]at ha;exact ha.elim (xz hs) (xA hs)
 have hl:=rY hs;have hn:=H.v.nl;exact⟨⟨by simp;omega,H.v.el,t_ hs H.v.sn,H.v.se,λa ha=>H.v.np a (mem a ha),H.v.ep⟩,⟨λa ha=>H.b.n a (mem a ha),H.b.e⟩,λa ha=>H.n a (mem a ha),H.e⟩
def D7{pre eY post:List Ed}{m:Ed}(H:ny D g)(hs:gZ (xj x) (wk x) g.cj pre eY post)(hm:m.id=x)(hl:pre.length+post.length<4000)(hp:gk [] m.props=0)(hb:RZ D m.props):ny D (qH g pre post m):=by
 have a1:∀a∈pre,a.id<m.id:=λa ha=>by have:=(hs.p a ha).1;unfold xj at this;rw[Zy]at this;omega
 have a3:∀a∈post,m.id<a.id:=λa ha=>by
  obtain⟨u,w⟩:=hs.q a ha;unfold xj at u;unfold wk at w;rw[decide_eq_false_iff_not]at u w;omega
 have mem:∀a∈pre++m::post,a∈g.cj\/a=m:=λa ha=>by
  rw[Zz,Yw]at ha;rcases ha with ha|ha|ha
  .exact .inl (xz hs ha)
  .exact .inr ha
  .exact .inl (xA hs ha)
 refine⟨⟨H.v.nl,by simp[qH];omega,H.v.sn,AB hs H.v.se m a1 a3,H.v.np,λa ha=>?_⟩,⟨H.b.n,λa ha=>?_⟩,H.n,λa ha=>?_⟩
 .rcases mem a ha with ha|rfl
  .exact H.v.ep a ha
  .exact hp
 .show a.id+1<=max g.ne (m.id+1);rcases mem a ha with ha|rfl
  .have:=H.b.e a ha;omega
  .omega
 .rcases mem a ha with ha|rfl
  .exact H.e a ha
  .exact hb
def PK{pre eY post:List Ed}(H:ny D g)(hs:gZ (xj x) (wk x) g.cj pre eY post):ny D {g with cj:=pre++post}:=by
 have mem:∀a∈pre++post,a∈g.cj:=λa ha=>by
  rw[Zz]at ha;exact ha.elim (xz hs) (xA hs)
 have hl:=rY hs;have hn:=H.v.el;exact⟨⟨H.v.nl,by simp;omega,H.v.sn,t_ hs H.v.se,H.v.np,λa ha=>H.v.ep a (mem a ha)⟩,⟨H.b.n,λa ha=>H.b.e a (mem a ha)⟩,H.n,λa ha=>H.e a (mem a ha)⟩
end
def r7{c:Ch}(h:dx c=0)(k:cC c.k=true):fR c.name=true:=by
 unfold dx at h;split at h
 .cases h
 .split at h
  .cases h
  .split at h
   .cases h
   .rename_i q;cases e:fR c.name with
    |true=>rfl
    |false=>exact absurd ⟨k,e⟩ q
def vG{c:Ch}(h:dx c=0)(k:cw c.k=true)(hn:lr c.v=false):jg c.v=true:=by
 unfold dx at h;split at h
 .cases h
 .split at h
  .cases h
  .split at h
   .cases h
   .split at h
    .cases h
    .rename_i q;cases e:jg c.v with
     |true=>rfl
     |false=>exact absurd ⟨k,hn,e⟩ q
def D8{l:List ByteArray}{p:List fZ}{x:ByteArray}{v:V}(h:gk l p=0)(hx:fR x=true)(hv:lr v=false->jg v=true)(hl:(g_ p x v).length<=16):gk l (g_ p x v)=0:=by
 obtain⟨pr,m,q,hs⟩:=ZO x (mV h);have hp:=lv.1 h;have hk:=mV h;refine lv.2 ⟨⟨hp.1.1,hl⟩,⟨hp.2.1.1,?_⟩,⟨hp.2.2.1.1,?_⟩,?_⟩
 all_goals rw[uQ hs];unfold pT
 .have hn:=hp.2.1.2;unfold eT iq at hn|-;rw[hs.e]at hn;simp only[Yn,List.all_append,Zh]at hn|-;refine⟨⟨hn.1.1,?_⟩,hn.2⟩;cases lr v<;>simp[hx]
 .refine rZ ?_;unfold iq;rw[List.pairwise_map];cases hn:lr v with
  |
   true=>
   have:=t_ hs hk;simpa using this
  |
   false=>
   have:=AB hs hk ⟨x,v⟩ (λa ha=>(hs.p a ha).1) (λa ha=>lg (hs.q a ha).1 (hs.q a ha).2);simpa using this
 .have hn:=hp.2.2.2;unfold gE at hn|-;rw[hs.e]at hn;simp only[List.all_append,Zh]at hn|-;refine⟨⟨hn.1.1,?_⟩,hn.2⟩;cases hq:lr v with
  |true=>rfl
  |false=>simp[hv hq]
def M7{D:Nat}{l:List ByteArray}{p:List fZ}{x:ByteArray}{v:V}(h:gk l p=0)(hb:RZ D p)(hd:gS v<=D)(hv:jK v):RZ D (g_ p x v):=by
 obtain⟨pr,m,q,hs⟩:=ZO x (mV h);rw[uQ hs];unfold pT;intro y hy;rw[Zz,Zz]at hy;rcases hy with(hy|hy)|hy
 .exact hb y (xz hs hy)
 .cases hq:lr v with
  |true=>rw[hq]at hy;simp at hy
  |
   false=>
   rw[hq]at hy;have:y=⟨x,v⟩:=by simpa using hy
   subst this;exact⟨hd,hv⟩
 .exact hb y (xA hs hy)
def UH{D:Nat}{g:Gr}{c:Ch}{m:Ed}(H:ny D g)(he:dx c=0)(hd:gS c.v<=D)(hv:jK c.v)(hk:c.k=7\/c.k=8)(hm:iE g.cj c.a=some m)(h0:(HV g c m).2=0):ny D (HV g c m).1:=by
 have hi:=DX hm;obtain⟨p,md,q,hs⟩:=TN c.a H.v.se;have e1:=j4 hs;have e2:=iM hs;have hn:=H.v.el;have hl:=rY hs;rw[dV hs]at hm;have:=ji hm hs.one;subst this;rw[List.length_singleton]at hl;unfold HV loE hiE at h0|-;rw[e1,e2]at h0|-;rcases hk with k|k
 .rw[cq k];exact PK H hs
 .rw[cm (by omega)]at h0|-;dsimp only at h0|-;have hp:=H.v.ep m hi.1;have rL:cw c.k=true:=by rw[k];rfl
  split
  .rename_i mN;exact D7 H hs hi.2 (by omega) (D8 hp (r7 he (by rw[k];rfl)) (vG he rL) mN) (M7 hp (H.e m hi.1) hd hv)
  .rename_i mN;rw[cm mN]at h0;cases h0
def UI{D:Nat}{g:Gr}{c:Ch}{m:Nd}(H:ny D g)(he:dx c=0)(hd:gS c.v<=D)(hv:jK c.v)(h1:¬c.k=1)(h6:¬c.k=6)(h7:¬(c.k=7\/c.k=8))(hm:cM g.nodes c.a=some m)(h0:(HU g c m).2=0):ny D (HU g c m).1:=by
 have hi:=yx hm;have W9:=nM he;obtain⟨p,md,q,hs⟩:=KX c.a H.v.sn;have e1:=j4 hs;have e2:=iM hs;have hn:=H.v.nl;have hl:=rY hs;rw[dO hs]at hm;have:=ji hm hs.one;subst this;rw[List.length_singleton]at hl;have hp:=H.v.np m hi.1;have Ol:=lv.1 hp;have hr:=rQ Ol.2.2.1.1;obtain⟨lp,lm,lq,ht⟩:=Y3 c.name hr;have e3:=j4 ht;have e4:=iM ht;have Z1:=Ol.2.1.1;unfold eT at Z1;rw[ht.e]at Z1;simp only[List.all_append,Zh]at Z1;have dm:=rY ht;unfold HU W7 W8 loT hiT at h0|-;rw[e1,e2,e3,e4]at h0|-;by_cases k2:c.k=2
 .rw[cq k2]at h0|-;dsimp only at h0|-;split
  .rename_i hu;rw[cq hu]at h0;cases h0
  .exact PJ H hs
 rw[cm k2]at h0|-;by_cases k3:c.k=3
 .rw[cq k3]at h0|-;dsimp only at h0|-;have hx:=r7 he (by rw[k3];rfl);split
  .rename_i hu;rw[cq hu]at h0;cases h0
  .rename_i hu;rw[cm hu]at h0;split
   .rename_i hw;rw[cq hw]at h0;cases h0
   .rename_i hw;refine uU H hs hi.2 (by omega) (lv.2 ⟨⟨?_,Ol.1.2⟩,⟨?_,Ol.2.1.2⟩,⟨?_,Ol.2.2.1.2⟩,Ol.2.2.2⟩) (H.n m hi.1)
    .simp;omega
    .unfold eT;simp only[List.all_append,Zh];exact⟨⟨Z1.1.1,by simp[hx]⟩,Z1.2⟩
    .refine rZ ?_;have:=AB ht hr c.name (λa ha=>(ht.p a ha).1) (λa ha=>lg (ht.q a ha).1 (ht.q a ha).2);simpa using this
 rw[cm k3]at h0|-;by_cases k4:c.k=4
 .rw[cq k4]at h0|-;dsimp only at h0|-;split
  .refine uU H hs hi.2 (by omega) (lv.2 ⟨⟨?_,Ol.1.2⟩,⟨?_,Ol.2.1.2⟩,⟨?_,Ol.2.2.1.2⟩,Ol.2.2.2⟩) (H.n m hi.1)
   .simp;omega
   .unfold eT;simp only[List.all_append,Zh];exact⟨Z1.1.1,Z1.2⟩
   .exact rZ (t_ ht hr)
  .rename_i hu;rw[cm hu]at h0;cases h0
 rw[cm k4]at h0|-;dsimp only at h0|-;have k5:c.k=5:=by omega
 have rL:cw c.k=true:=by rw[k5];rfl
 split
 .rename_i mN;exact uU H hs hi.2 (by omega) (D8 hp (r7 he (by rw[k5];rfl)) (vG he rL) mN) (M7 hp (H.n m hi.1) hd hv)
 .rename_i mN;rw[cm mN]at h0;cases h0
def yG{D:Nat}{g:Gr}{c:Ch}(H:ny D g)(hd:gS c.v<=D)(hv:jK c.v)(h0:(iN g c).2=0):ny D (iN g c).1:=by
 unfold iN at h0|-;by_cases M0:¬dx c=0
 .rw[cq M0]at h0;exact absurd h0 M0
 rw[cm M0]at h0|-;have he:=Classical.not_not.1 M0;have hln:=H.v.nl;have da:=H.v.el;by_cases k1:c.k=1
 .rw[cq k1]at h0|-;cases hm:cM g.nodes c.a with
  |some m=>rw[hm]at h0;cases h0
  |
   none=>
   rw[hm]at h0;dsimp only at h0|-;split
   .rename_i hw;rw[cq hw]at h0;cases h0
   .rename_i hw;obtain⟨p,md,q,hs⟩:=KX c.a H.v.sn;have hl:=rY hs;unfold W7 W8;rw[j4 hs,iM hs];exact uU (m:=⟨c.a,[],[]⟩) H hs rfl (by omega) rfl (λx hx=>by cases hx)
 rw[cm k1]at h0|-;by_cases k6:c.k=6
 .rw[cq k6]at h0|-;cases hm:iE g.cj c.a with
  |some m=>rw[hm]at h0;cases h0
  |
   none=>
   rw[hm]at h0;dsimp only at h0|-;split
   .rename_i hw;rw[cq hw]at h0;cases h0
   .rename_i hu;rw[cm hu]at h0;split
    .rename_i hw;rw[cq hw]at h0;cases h0
    .rename_i hw;obtain⟨p,md,q,hs⟩:=TN c.a H.v.se;have hl:=rY hs;unfold loE hiE;rw[j4 hs,iM hs];exact D7 (m:=⟨c.a,c.b,c.c,c.name,[]⟩) H hs rfl (by omega) rfl (λx hx=>by cases hx)
 rw[cm k6]at h0|-;by_cases k7:c.k=7\/c.k=8
 .rw[cq k7]at h0|-;cases hm:iE g.cj c.a with
  |none=>rw[hm]at h0;cases h0
  |some m=>
   rw[hm]at h0;exact UH H he hd hv k7 hm h0
 rw[cm k7]at h0|-;cases hm:cM g.nodes c.a with
 |none=>rw[hm]at h0;cases h0
 |some m=>
  rw[hm]at h0;exact UI H he hd hv k1 k6 k7 hm h0
def UJ{D:Nat}:∀{cs:List Ch}{g:Gr},ny D g->(∀c∈cs,gS c.v<=D/\jK c.v)->OkF D g cs
 | [],_,_,_=>trivial
 |c::cs,g,H,hc=>⟨H.v,H.b,(hc c (by simp)).1,(hc c (by simp)).2,λh0=>UJ (yG H (hc c (by simp)).1 (hc c (by simp)).2 h0) λx hx=>hc x (by simp[hx])⟩
end Go.Proofs.YtmfohnojaginjaaGreatDoor
