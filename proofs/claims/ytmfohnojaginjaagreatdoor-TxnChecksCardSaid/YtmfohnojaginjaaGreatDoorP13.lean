/- Part of the proof. -/
import Derived.Test.YtmfohnojaginjaaGreatDoorP12
set_option linter.all false
set_option maxHeartbeats 8000000
set_option maxRecDepth 100000
namespace Go.Proofs.YtmfohnojaginjaaGreatDoor
open Go Go.Ae Go.Proofs.Tryz
section
attribute [local simp] cn eD
def rH(q:Int):Bool:=(decide (97<=q) && decide (q<=122))||(decide (65<=q) && decide (q<=90))
def px(q:Int):Bool:=rH q||(decide (48<=q) && decide (q<=57))||decide (q=95)
def S6(n:Nat)(b:Bool)(q:Int)(h:Hp):ch cx (n+1) b 155 [.sc (.int .u8 q)] h=some (.sc (.bool (rH q)),h):=by
 refine eR f155 [.tmp 2] rfl rfl ?_ b h;unfold rH;by_cases h1:97<=q
 .by_cases h2:q<=122
  .simp[f155,h1,h2]
  .simp[f155,h1,h2,show 65<=q by omega,show¬q<=90 by omega]
 .by_cases h2:65<=q
  .by_cases h3:q<=90<;>simp[f155,h1,h2,h3]
  .simp[f155,h1,h2]
def KG(n:Nat)(b:Bool)(q:Int)(h:Hp):ch cx (n+1) b 264 [.sc (.int .u8 q)] h=some (.sc (.bool (rH q)),h):=by
 refine eR f264 [.tmp 2] rfl rfl ?_ b h;unfold rH;by_cases h1:97<=q
 .by_cases h2:q<=122
  .simp[f264,h1,h2]
  .simp[f264,h1,h2,show 65<=q by omega,show¬q<=90 by omega]
 .by_cases h2:65<=q
  .by_cases h3:q<=90<;>simp[f264,h1,h2,h3]
  .simp[f264,h1,h2]
def Bg(c:UInt8):Bool:=px c.toNat
def fQ(x:ByteArray)(i:Nat):Bool:=(x.data.toList.drop i).all Bg
def yo(x:ByteArray)(i:Nat)(h:x.size<=i):fQ x i=true:=by unfold fQ;rw[Zt h];rfl
def rI{x:ByteArray}{i:Nat}{c:UInt8}(h:x.data.toList[i]?=some c):fQ x i=(Bg c && fQ x (i+1)):=by
 obtain⟨k,e⟩:=Za.1 h;unfold fQ;rw[Zm k,e,Zn]
def fR(x:ByteArray):Bool:=decide ((x.size:Int)<=20) && (match x.data.toList[0]? with|none=>false|some c=>rH c.toNat) && fQ x 1
def tz(x:ByteArray):x.data.toList.length=x.size:=rfl
def Bh(x:ByteArray):(x.size=0/\x.data.toList[0]?=none/\fm x ⟨#[]⟩=true)\/∃c,0<x.size/\x.data.toList[0]?=some c/\fm x ⟨#[]⟩=false/\fQ x 0=(Bg c && fQ x 1):=by
 cases h:x.data.toList[0]? with
 |
  none=>
  have h1:=List.getElem?_eq_none_iff.1 h;have h2:x.data.toList=[]:=Zl (by omega);exact .inl ⟨by have:=tz x;omega,rfl,by unfold fm;rw[h2];rfl⟩
 |some c=>
  have h1:=(Za.1 h).1;refine .inr ⟨c,by have:=tz x;omega,rfl,?_,rI h⟩;unfold fm;cases hq:x.data.toList with
  |nil=>rw[hq]at h1;simp at h1
  |cons a l=>rfl
def Bi(q:Int)(h:rH q=true):px q=true:=by unfold px;rw[h];rfl
def wa(n:Nat)(b:Bool)(x:ByteArray)(h:Hp):ch cx (n+2) b 94 [x] h=some (.sc (.bool (fR x)),h):=by
 refine eR f94 [.tmp 2] rfl rfl ?_ b h;have fX:=tz x;have dZ:=λb q h=>S6 n b q h
 unfold fR;rcases Bh x with⟨z0,z1,z2⟩|⟨c0,z0,z1,z2,z3⟩
 .simp[f94,z0,z2]
 have z1':∀k,x.data[0]'k=c0:=λk=>by obtain⟨_,e⟩:=Za.1 z1;exact e
 by_cases Hd:(x.size:Int)<=20
 rotate_left
 .simp[f94,z0,z2,show 20< (x.size:Int) by omega,Hd]
 have KH:¬20< (x.size:Int):=by omega
 obtain⟨q0,YI⟩:∃q:Int,q=c0.toNat:=⟨_,rfl⟩;have u_:=λb h=>dZ b q0 h
 cases pg:rH q0
 .simp[f94,z0,z1',z2,Hd,KH,<-YI,u_,pg]
 have z4:fQ x 0=fQ x 1:=by
  rw[z3,show Bg c0=px q0 from by rw[YI];rfl,Bi q0 pg];rfl
 clear z3;simp[f94,z0,z1',z2,Hd,KH,<-YI,u_,pg];refine pQ
  (λi s _=>fQ x 1=fQ x i/\s.length=46/\gt s 0=x/\gt s 18=x.size/\gt s 19=i)
  (λo s _=>s.length=46/\((o= .exit 0/\fQ x 1=true)\/(o= .ret/\fQ x 1=false/\gt s 2=false))) x.size (by simp;omega) (by simp[z4]) ?_ ?_
 .rintro i fr h da ⟨ho,cf,h0,OE,W2⟩;by_cases hi:i<x.size
  .obtain⟨c,hc⟩:∃c,x.data.toList[i]?=some c:=⟨_,Zb (by omega)⟩;rw[rI hc]at ho;have hf:cS .i64 ((i:Int)+1)=((i+1:Nat):Int):=cu (by omega) (by omega);have kK:∀k,x.data[i]'k=c:=λk=>by obtain⟨_,e⟩:=Za.1 hc;exact e
   obtain⟨q,hq⟩:∃q:Int,q=c.toNat:=⟨_,rfl⟩;have gI:Bg c=px q:=by rw[hq];rfl
   rw[gI]at ho;clear gI;have S7:=λb h=>dZ b q h
   unfold px at ho;cases hl:rH q
   .by_cases c1:q<48
    .have z:fQ x 1=false:=by rw[ho,hl];simp;omega
     clear ho;simp[cf,h0,OE,W2,hi,kK,<-hq,S7,hl,c1,show¬q=95 by omega,z]
    .by_cases c2:57<q
     .by_cases c3:q=95
      .have z:fQ x 1=fQ x (i+1):=by rw[ho,hl];simp[c3]
       clear ho;subst c3;simp[cf,h0,OE,W2,hi,kK,<-hq,S7,hl,hf];exact z
      .have z:fQ x 1=false:=by rw[ho,hl];simp;omega
       clear ho;simp[cf,h0,OE,W2,hi,kK,<-hq,S7,hl,c1,c2,c3,z]
     .have z:fQ x 1=fQ x (i+1):=by rw[ho,hl];simp[show 48<=q by omega,show q<=57 by omega]
      clear ho;simp[cf,h0,OE,W2,hi,kK,<-hq,S7,hl,c1,c2,show¬q=95 by omega,hf];exact z
   .have z:fQ x 1=fQ x (i+1):=by rw[ho,hl];simp
    clear ho;simp[cf,h0,OE,W2,hi,kK,<-hq,S7,hl,hf];exact z
  .have hz:fQ x 1=true:=by rw[ho,yo x i (by omega)]
   simp[cf,OE,W2,hi,hz]
 .rintro o fr h hn ⟨cf,⟨rfl,hz⟩|⟨rfl,hz,h2⟩⟩
  .simp[cf,hz]
  .simp[h2,hz]
def Bj(n:Nat)(b:Bool)(x:ByteArray)(h:Hp):ch cx (n+2) b 163 [x] h=some (.sc (.bool (fR x)),h):=by
 refine eR f163 [.tmp 2] rfl rfl ?_ b h;have fX:=tz x;have dZ:=λb q h=>KG n b q h
 unfold fR;rcases Bh x with⟨z0,z1,z2⟩|⟨c0,z0,z1,z2,z3⟩
 .simp[f163,z0]
 have z1':∀k,x.data[0]'k=c0:=λk=>by obtain⟨_,e⟩:=Za.1 z1;exact e
 clear z3;have z5:¬(x.size:Int)<1:=by omega
 by_cases Hd:(x.size:Int)<=20
 rotate_left
 .simp[f163,z0,z5,show 20< (x.size:Int) by omega,Hd]
 have KH:¬20< (x.size:Int):=by omega
 obtain⟨q0,YI⟩:∃q:Int,q=c0.toNat:=⟨_,rfl⟩;have u_:=λb h=>dZ b q0 h
 cases pg:rH q0
 .simp[f163,z0,z1',z5,Hd,KH,<-YI,u_,pg]
 simp[f163,z0,z1',z5,Hd,KH,<-YI,u_,pg];refine pQ
  (λj s _=>j+1<=x.size/\fQ x 1=fQ x (j+1)/\s.length=47/\gt s 0=x/\gt s 3= .sc (.int .i64 (j+1:Nat)))
  (λo s _=>s.length=47/\((o= .exit 0/\fQ x 1=true)\/(o= .ret/\fQ x 1=false/\gt s 2=false))) x.size (by simp;omega) (by simp;omega) ?_ ?_
 .rintro j fr h da ⟨C8,ho,cf,h0,h3⟩;by_cases hi:j+1<x.size
  .obtain⟨c,hc⟩:∃c,x.data.toList[j+1]?=some c:=⟨_,Zb (by omega)⟩;rw[rI hc]at ho;have hf:cS .i64 (((j+1:Nat):Int)+1)=((j+1+1:Nat):Int):=cu (by omega) (by omega);have kK:∀k,x.data[j+1]'k=c:=λk=>by obtain⟨_,e⟩:=Za.1 hc;exact e
   obtain⟨q,hq⟩:∃q:Int,q=c.toNat:=⟨_,rfl⟩;have gI:Bg c=px q:=by rw[hq];rfl
   rw[gI]at ho;clear gI;have S7:=λb h=>dZ b q h
   unfold px at ho;generalize hjj:((j+1:Nat):Int)=J at h3 hf;have S8:J.toNat=j+1:=by omega
   have S9:0<=J:=by omega
   have xa:J< (x.size:Int):=by omega
   cases hl:rH q
   .by_cases c1:q<48
    .have z:fQ x 1=false:=by rw[ho,hl];simp;omega
     clear ho;simp[cf,h0,h3,S9,S8,xa,hc,<-hq,S7,hl,c1,show¬q=95 by omega,z]
    .by_cases c2:57<q
     .by_cases c3:q=95
      .have z:fQ x 1=fQ x (j+1+1):=by rw[ho,hl];simp[c3]
       clear ho;subst c3;simp[cf,h0,h3,S9,S8,xa,hc,<-hq,S7,hl,hf]
       and_intros<;>first|omega|assumption
      .have z:fQ x 1=false:=by rw[ho,hl];simp;omega
       clear ho;simp[cf,h0,h3,S9,S8,xa,hc,<-hq,S7,hl,c1,c2,c3,z]
     .have z:fQ x 1=fQ x (j+1+1):=by rw[ho,hl];simp[show 48<=q by omega,show q<=57 by omega]
      clear ho;simp[cf,h0,h3,S9,S8,xa,hc,<-hq,S7,hl,c1,c2,show¬q=95 by omega,hf]
      and_intros<;>first|omega|assumption
   .have z:fQ x 1=fQ x (j+1+1):=by rw[ho,hl];simp
    clear ho;simp[cf,h0,h3,S9,S8,xa,hc,<-hq,S7,hl,hf]
    and_intros<;>first|omega|assumption
  .have hz:fQ x 1=true:=by rw[ho,yo x (j+1) (by omega)]
   have xa:¬((j+1:Nat):Int)< (x.size:Int):=by omega
   generalize((j+1:Nat):Int)=J at h3 xa;simp[cf,h0,h3,xa,hz]
 .rintro o fr h hn ⟨cf,⟨rfl,hz⟩|⟨rfl,hz,h2⟩⟩
  .simp[cf,hz]
  .simp[h2,hz]
end
@[simp] def aeU :cx.T 89=some {size:=6,agg:=true,zero:=[.string ⟨#[]⟩,.int .i64 (0),.int .i64 (0),.int .i64 (0),.string ⟨#[]⟩,.slice none 0 0],kd:= .struct [(0,1,false),(1,5,true)]}:=by kernel_rfl
@[simp] def nI :cx.T 49=some {size:=1,agg:=false,zero:=[.slice none 0 0],kd:= .slice 6 true 80 [.string ⟨#[]⟩,.int .i64 (0),.int .i64 (0),.int .i64 (0),.string ⟨#[]⟩,.slice none 0 0]}:=by kernel_rfl
@[simp] def ae4 :cx.T 51=some {size:=3,agg:=true,zero:=[.int .i64 (0),.slice none 0 0,.slice none 0 0],kd:= .struct [(0,1,false),(1,1,false),(2,1,false)]}:=by kernel_rfl
@[simp] def nJ :cx.T 23=some {size:=1,agg:=false,zero:=[.slice none 0 0],kd:= .slice 3 true 56 [.int .i64 (0),.slice none 0 0,.slice none 0 0]}:=by kernel_rfl
@[simp] def aeL :cx.T 54=some {size:=5,agg:=true,zero:=[.int .i64 (0),.int .i64 (0),.int .i64 (0),.string ⟨#[]⟩,.slice none 0 0],kd:= .struct [(0,1,false),(1,1,false),(2,1,false),(3,1,false),(4,1,false)]}:=by kernel_rfl
@[simp] def nK :cx.T 24=some {size:=1,agg:=false,zero:=[.slice none 0 0],kd:= .slice 5 true 64 [.int .i64 (0),.int .i64 (0),.int .i64 (0),.string ⟨#[]⟩,.slice none 0 0]}:=by kernel_rfl
@[simp] def acf :cx.T 26=some {size:=4,agg:=true,zero:=[.slice none 0 0,.slice none 0 0,.int .i64 (0),.int .i64 (0)],kd:= .struct [(0,1,false),(1,1,false),(2,1,false),(3,1,false)]}:=by kernel_rfl
@[simp] def abH :cx.T 75=some {size:=10,agg:=true,zero:=[.int .i64 (0),.int .i64 (0),.int .i64 (0),.int .i64 (0),.string ⟨#[]⟩,.int .i64 (0),.int .i64 (0),.int .i64 (0),.string ⟨#[]⟩,.slice none 0 0],kd:= .struct [(0,1,false),(1,1,false),(2,1,false),(3,1,false),(4,1,false),(5,5,true)]}:=by kernel_rfl
@[simp] def acH :cx.T 42=some {size:=1,agg:=false,zero:=[.int .i64 (0)],kd:= .GY}:=by kernel_rfl
@[simp] def afr :lf cx 48=true:=by kernel_rfl
@[simp] def aio :lf cx 49=true:=by kernel_rfl
@[simp] def aii :lf cx 23=true:=by kernel_rfl
@[simp] def ahF :lf cx 24=true:=by kernel_rfl
@[simp] def aid :lf cx 39=true:=by kernel_rfl
@[simp] def afc :lf cx 35=true:=by kernel_rfl
section
attribute [local simp] cn eD
def fj(l:List ByteArray):List LA:=l.map λs=> [.sc (.string s)]
def iD(l:List ByteArray)(z:Bool):AV:= .ls 1 (fj l) z
def di(l:List ByteArray):(fj l).length=l.length:=by simp[fj]
def lS(l:List ByteArray)(i:Nat):(fj l)[i]?=(l[i]?).map λs=> [.sc (.string s)]:=by simp[fj]
def dS :List ByteArray->Bool
 | []=>true
 |
  x::l=>match l with
  | []=>true
  |y::_=>nC x y && dS l
def ox(l:List ByteArray)(i:Nat):Bool:=dS (l.drop i)
def Bk(l:List ByteArray)(i:Nat)(h:l.length<=i+1):ox l i=true:=by
 unfold ox;cases hq:l.drop i with
 |nil=>rfl
 |cons x m=>
  have:=congrArg List.length hq;simp at this;have hm:m=[]:=Zl (by omega);subst hm;rfl
def za{l:List ByteArray}{i:Nat}{x y:ByteArray}(h:l[i]?=some x)(h':l[i+1]?=some y):ox l i=(nC x y && ox l (i+1)):=by
 obtain⟨k,e⟩:=Za.1 h;obtain⟨k',e'⟩:=Za.1 h';unfold ox;rw[Zm k,Zm k',e,e',dS]
def abN(x y:ByteArray):(nC y x||fm y x)= !(nC x y):=by
 cases h1:nC x y with
 |
  true=>
  have h2:=DL h1;cases h3:fm y x with
  |false=>simp[h2]
  |true=>have:=(iC y x).1 h3;subst this;rw[kc]at h1;cases h1
 |
  false=>
  cases h3:fm y x with
  |true=>simp
  |
   false=>
   cases h4:nC y x with
   |true=>simp
   |false=>have:=lg h4 h3;rw[h1]at this;cases this
def xb(n:Nat)(b:Bool)(l:List ByteArray)(z:Bool)(h:Hp)(hl:l.length<=1000000000000000):ch cx (n+1) b 151 [iD l z] h=some (.sc (.bool (dS l)),h):=by
 refine eR f151 [.tmp 2] rfl rfl ?_ b h;have hq:=di l;have hg:=lS l;unfold iD;generalize fj l=cg at hq hg;simp[f151];refine pQ
  (λj s _=>dS l=ox l j/\(j+1<=l.length\/j=0)/\s.length=20/\gt s 0= .ls 1 cg z/\gt s 3= .sc (.int .i64 (j+1:Nat)))
  (λo s _=>s.length=20/\((o= .exit 0/\dS l=true)\/(o= .ret/\dS l=false/\gt s 2=false))) l.length (by simp;omega) (by simp[ox]) ?_ ?_
 .rintro j fr h da ⟨ho,hj,cf,h0,h3⟩;by_cases hi:j+1<l.length
  .obtain⟨x,hx⟩:∃c,l[j]?=some c:=⟨_,Zb (by omega)⟩;obtain⟨y,hy⟩:=eA hi;have hr:cg[j]?=some [.sc (.string x)]:=by rw[hg,hx];rfl
   have vY:cg[j+1]?=some [.sc (.string y)]:=by rw[hg,hy];rfl
   have cz:=gA hr
   have nG:=gA vY
   rw[za hx hy]at ho;have da:=abN x y;have hf:cS .i64 (((j+1:Nat):Int)+1)=((j+1+1:Nat):Int):=cu (by omega) (by omega);have xc:cS .i64 (((j+1:Nat):Int)-1)=((j:Nat):Int):=by rw[cu (by omega) (by omega)];omega
   generalize hjj:((j+1:Nat):Int)=J at h3 hf xc;have S8:J.toNat=j+1:=by omega
   have S9:0<=J:=by omega
   have xa:J< (l.length:Int):=by omega
   cases dm:nC x y
   .have zz:dS l=false:=by rw[ho,dm];rfl
    clear ho;rw[dm]at da;simp[cf,h0,h3,S8,S9,xa,hq,hr,vY,xc,da,zz]
   .have zz:dS l=ox l (j+1):=by rw[ho,dm];rfl
    clear ho;rw[dm]at da;simp[cf,h0,h3,S8,S9,xa,hq,hr,vY,xc,da,hf];exact⟨by omega,zz,by omega⟩
  .have zz:dS l=true:=by rw[ho,Bk l j (by omega)]
   have xa:¬((j+1:Nat):Int)< (l.length:Int):=by omega
   generalize((j+1:Nat):Int)=J at h3 xa;simp[cf,h0,h3,xa,hq,zz]
 .rintro o fr h hn ⟨cf,⟨rfl,hz⟩|⟨rfl,hz,h2⟩⟩
  .simp[cf,hz]
  .simp[h2,hz]
def qu(n:Nat)(b:Bool)(h:Hp):ch cx (n+1) b 151 [()] h=some ((true:AV),h):=by
 refine eR f151 [.tmp 2] rfl rfl ?_ b h;simp[f151];refine pQ
  (λj s _=>j=0/\s.length=20/\gt s 0=()/\gt s 3=(1:Int))
  (λo s _=>s.length=20/\o= .exit 0) 0 (by simp) (by simp) ?_ ?_
 .rintro j fr h da ⟨rfl,cf,h0,h3⟩;simp[cf,h0,h3]
 .rintro o fr h hn ⟨cf,rfl⟩;simp[cf]
def DM(n:Nat)(b:Bool)(l:List ByteArray)(z:Bool)(h:Hp)(hl:l.length<=1000000000000000):ch cx (n+1) b 263 [iD l z] h=some (.sc (.bool (dS l)),h):=by
 refine eR f263 [.tmp 2] rfl rfl ?_ b h;have hq:=di l;have hg:=lS l;unfold iD;generalize fj l=cg at hq hg;simp[f263];refine pQ
  (λj s _=>dS l=ox l j/\(j+1<=l.length\/j=0)/\s.length=20/\gt s 0= .ls 1 cg z/\gt s 3= .sc (.int .i64 (j+1:Nat)))
  (λo s _=>s.length=20/\((o= .exit 0/\dS l=true)\/(o= .ret/\dS l=false/\gt s 2=false))) l.length (by simp;omega) (by simp[ox]) ?_ ?_
 .rintro j fr h da ⟨ho,hj,cf,h0,h3⟩;by_cases hi:j+1<l.length
  .obtain⟨x,hx⟩:∃c,l[j]?=some c:=⟨_,Zb (by omega)⟩;obtain⟨y,hy⟩:=eA hi;have hr:cg[j]?=some [.sc (.string x)]:=by rw[hg,hx];rfl
   have vY:cg[j+1]?=some [.sc (.string y)]:=by rw[hg,hy];rfl
   have cz:=gA hr
   have nG:=gA vY
   rw[za hx hy]at ho;have da:=abN x y;have hf:cS .i64 (((j+1:Nat):Int)+1)=((j+1+1:Nat):Int):=cu (by omega) (by omega);have xc:cS .i64 (((j+1:Nat):Int)-1)=((j:Nat):Int):=by rw[cu (by omega) (by omega)];omega
   generalize hjj:((j+1:Nat):Int)=J at h3 hf xc;have S8:J.toNat=j+1:=by omega
   have S9:0<=J:=by omega
   have xa:J< (l.length:Int):=by omega
   cases dm:nC x y
   .have zz:dS l=false:=by rw[ho,dm];rfl
    clear ho;rw[dm]at da;simp[cf,h0,h3,S8,S9,xa,hq,hr,vY,xc,da,zz]
   .have zz:dS l=ox l (j+1):=by rw[ho,dm];rfl
    clear ho;rw[dm]at da;simp[cf,h0,h3,S8,S9,xa,hq,hr,vY,xc,da,hf];exact⟨by omega,zz,by omega⟩
  .have zz:dS l=true:=by rw[ho,Bk l j (by omega)]
   have xa:¬((j+1:Nat):Int)< (l.length:Int):=by omega
   generalize((j+1:Nat):Int)=J at h3 xa;simp[cf,h0,h3,xa,hq,zz]
 .rintro o fr h hn ⟨cf,⟨rfl,hz⟩|⟨rfl,hz,h2⟩⟩
  .simp[cf,hz]
  .simp[h2,hz]
def vC(n:Nat)(b:Bool)(h:Hp):ch cx (n+1) b 263 [()] h=some ((true:AV),h):=by
 refine eR f263 [.tmp 2] rfl rfl ?_ b h;simp[f263];refine pQ
  (λj s _=>j=0/\s.length=20/\gt s 0=()/\gt s 3=(1:Int))
  (λo s _=>s.length=20/\o= .exit 0) 0 (by simp) (by simp) ?_ ?_
 .rintro j fr h da ⟨rfl,cf,h0,h3⟩;simp[cf,h0,h3]
 .rintro o fr h hn ⟨cf,rfl⟩;simp[cf]
def eT(l:List ByteArray):Bool:=l.all fR
def tC(l:List ByteArray)(i:Nat):Bool:=eT (l.drop i)
def KI(l:List ByteArray)(i:Nat)(h:l.length<=i):tC l i=true:=by unfold tC;rw[Zt h];rfl
def He{l:List ByteArray}{i:Nat}{c:ByteArray}(h:l[i]?=some c):tC l i=(fR c && tC l (i+1)):=by
 obtain⟨k,e⟩:=Za.1 h;unfold tC eT;rw[Zm k,e,Zn]
def DN(n:Nat)(b:Bool)(l:List ByteArray)(z:Bool)(h:Hp)(hl:l.length<=1000000000000000):ch cx (n+3) b 262 [iD l z] h=some (.sc (.bool (eT l)),h):=by
 refine eR f262 [.tmp 2] rfl rfl ?_ b h;have hq:=di l;have hg:=lS l;have dZ:=λb x h=>Bj n b x h
 unfold iD;generalize fj l=cg at hq hg;simp[f262];refine pQ
  (λi s _=>eT l=tC l i/\s.length=16/\gt s 0= .ls 1 cg z/\gt s 3=i)
  (λo s _=>s.length=16/\((o= .exit 0/\eT l=true)\/(o= .ret/\eT l=false/\gt s 2=false))) l.length (by simp;omega) (by simp[tC]) ?_ ?_
 .rintro i fr h da ⟨ho,cf,h0,h3⟩;by_cases hi:i<l.length
  .obtain⟨x,hx⟩:=eA hi;have hr:cg[i]?=some [.sc (.string x)]:=by rw[hg,hx];rfl
   have cz:=gA hr
   rw[He hx]at ho;have rz:=λb h=>dZ b x h
   have hf:cS .i64 ((i:Int)+1)=((i+1:Nat):Int):=cu (by omega) (by omega);cases hk:fR x
   .have zz:eT l=false:=by rw[ho,hk];rfl
    clear ho;simp[cf,h0,h3,hi,hq,cz,rz,hk,zz]
   .have zz:eT l=tC l (i+1):=by rw[ho,hk];rfl
    clear ho;simp[cf,h0,h3,hi,hq,cz,rz,hk,hf];exact zz
  .have zz:eT l=true:=by rw[ho,KI l i (by omega)]
   simp[cf,h0,h3,hi,hq,zz]
 .rintro o fr h hn ⟨cf,⟨rfl,hz⟩|⟨rfl,hz,h2⟩⟩
  .simp[cf,hz]
  .simp[h2,hz]
def vD(n:Nat)(b:Bool)(h:Hp):ch cx (n+1) b 262 [()] h=some ((true:AV),h):=by
 refine eR f262 [.tmp 2] rfl rfl ?_ b h;simp[f262];refine pQ
  (λj s _=>j=0/\s.length=16/\gt s 0=()/\gt s 3=(0:Int))
  (λo s _=>s.length=16/\o= .exit 0) 0 (by simp) (by simp) ?_ ?_
 .rintro j fr h da ⟨rfl,cf,h0,h3⟩;simp[cf,h0,h3]
 .rintro o fr h hn ⟨cf,rfl⟩;simp[cf]
def OG(n:Nat)(b:Bool)(x:ByteArray)(h:Hp):ch cx (n+3) b 150 [x] h=some (.sc (.bool (!fR x)),h):=by
 refine eR f150 [.tmp 2] rfl rfl ?_ b h;have hc:=λb h=>wa n b x h
 cases hk:fR x<;>simp[f150,hc,hk]
def OH :List ByteArray->Nat->Int
 | [],_=> -1
 |c::l,i=>if fR c=true then OH l (i+1)else i
def qv(l:List ByteArray)(i:Nat):Int:=OH (l.drop i) i
def Hf :∀(l:List ByteArray)(i:Nat),(0<=OH l i)=(eT l=false)
 | [],i=>by simp[OH,eT]
 |
  c::l,i=>by
  rw[OH,eT,Zn];cases h:fR c
  .simp
  .have:=Hf l (i+1);unfold eT at this;simp[this]
def OI(l:List ByteArray)(i:Nat)(h:l.length<=i):qv l i= -1:=by unfold qv;rw[Zt h];rfl
def KJ{l:List ByteArray}{i:Nat}{c:ByteArray}(h:l[i]?=some c):qv l i=if fR c=true then qv l (i+1)else i:=by
 obtain⟨k,e⟩:=Za.1 h;unfold qv;rw[Zm k,e,OH]
def tD(n:Nat)(b:Bool)(l:List ByteArray)(z:Bool)(h:Hp)(hl:l.length<=1000000000000000):ch cx (n+4) b 255 [iD l z,.fn 150 []] h=some (.sc (.int .i64 (qv l 0)),h):=by
 refine eR f255 [.tmp 4] rfl rfl ?_ b h;have hq:=di l;have hg:=lS l;have dZ:=λb x h=>OG n b x h
 unfold iD;generalize fj l=cg at hq hg;simp[f255,hq];refine pQ
  (λi s _=>qv l 0=qv l i/\s.length=19/\gt s 0= .ls 1 cg z/\gt s 1= .fn 150 []/\gt s 7=l.length/\gt s 8=i)
  (λo s _=>s.length=19/\((o= .exit 0/\qv l 0= -1)\/(o= .ret/\gt s 4= .sc (.int .i64 (qv l 0))))) l.length (by simp;omega) (by simp) ?_ ?_
 .rintro i fr h da ⟨ho,cf,h0,h1,h7,h8⟩;by_cases hi:i<l.length
  .obtain⟨x,hx⟩:=eA hi;have hr:cg[i]?=some [.sc (.string x)]:=by rw[hg,hx];rfl
   have cz:=gA hr
   rw[KJ hx]at ho;have rz:=λb h=>dZ b x h
   have hf:cS .i64 ((i:Int)+1)=((i+1:Nat):Int):=cu (by omega) (by omega);cases hk:fR x
   .rw[cm (by rw[hk];simp)]at ho;simp[cf,h0,h1,h7,h8,hi,hq,cz,rz,hk,ho]
   .rw[cq hk]at ho;simp[cf,h0,h1,h7,h8,hi,hq,cz,rz,hk,hf];exact ho
  .have zz:qv l 0= -1:=by rw[ho,OI l i (by omega)]
   simp[cf,h7,h8,hi,zz]
 .rintro o fr h hn ⟨cf,⟨rfl,hz⟩|⟨rfl,h2⟩⟩
  .simp[cf,hz]
  .simp[h2]
def yp(n:Nat)(b:Bool)(g:FuncId)(h:Hp):ch cx (n+1) b 255 [(),.fn g []] h=some (.sc (.int .i64 (-1)),h):=by
 refine eR f255 [.tmp 4] rfl rfl ?_ b h;simp[f255];refine pQ
  (λj s _=>j=0/\s.length=19/\gt s 7=(0:Int)/\gt s 8=(0:Int))
  (λo s _=>s.length=19/\o= .exit 0) 0 (by simp) (by simp) ?_ ?_
 .rintro j fr h da ⟨rfl,cf,h7,h8⟩;simp[cf,h7,h8]
 .rintro o fr h hn ⟨cf,rfl⟩;simp[cf]
def ln(n:Nat)(b:Bool)(l:List ByteArray)(z:Bool)(h:Hp)(hl:l.length<=1000000000000000):ch cx (n+5) b 149 [iD l z,.fn 150 []] h=some (.sc (.bool (!eT l)),h):=by
 refine eR f149 [.tmp 4] rfl rfl ?_ b h;have hc:=λb h=>tD n b l z h hl
 have hw:=Hf l 0;change(0<=qv l 0)=_ at hw;unfold iD at hc|-;generalize qv l 0=w at hc hw;cases hk:eT l
 .have:0<=w:=hw.mpr hk;simp[f149,hc,this]
 .have:¬0<=w:=λq=>by rw[hw.mp q]at hk;cases hk
  simp[f149,hc,this]
def nD(n:Nat)(b:Bool)(h:Hp):ch cx (n+2) b 149 [(),.fn 150 []] h=some ((false:AV),h):=by
 refine eR f149 [.tmp 4] rfl rfl ?_ b h;have hc:=λb h=>yp n b 150 h
 simp[f149,hc]
def jg(v:V):Bool:=jo v && (decide (v.k=1)||decide (v.k=2)||decide (v.k=4))
def DP(N D:Nat)(v:V)(hd:gS v<=D)(hb:jK v)(b:Bool)(h:Hp):ch cx (N+2*D+5) b 152 [.ag (enc v)] h=some (.sc (.bool (jg v)),h):=by
 have hv:=λb h=>nY N D v hd hb b h
 have hc:[AV.ag (enc v)].all dk=true:=kA v;refine eR (n:=N+2*D+4) f152 [.tmp 2] hc rfl ?_ b h;clear hc;unfold jg;generalize jo v=K,N+2*D+4=M at hv;cases v with
 |mk k n d s z l=>
  simp only[V.k];rw[eI]at hv;have he:enc (.mk k n d s z l)=[.sc (.int .i64 k),.sc (.int .i64 n),.sc (.int .i64 d),.sc (.string s),eG z l]:=rfl;rw[he];clear he;generalize eG z l=L at hv;by_cases h1:k=1
  .subst h1;cases K<;>simp[f152,hv]
  by_cases h2:k=2
  .subst h2;cases K<;>simp[f152,hv]
  by_cases h4:k=4
  .subst h4;cases K<;>simp[f152,hv]
  cases K<;>simp[f152,h1,h2,h4]
def DQ(N D:Nat)(v:V)(hd:gS v<=D)(hb:jK v)(b:Bool)(h:Hp):ch cx (N+2*D+5) b 249 [.ag (enc v)] h=some (.sc (.bool (jg v)),h):=by
 have hv:=λb h=>nW N D v hd hb b h
 have hc:[AV.ag (enc v)].all dk=true:=kA v;refine eR (n:=N+2*D+4) f249 [.tmp 2] hc rfl ?_ b h;clear hc;unfold jg;generalize jo v=K,N+2*D+4=M at hv;cases v with
 |mk k n d s z l=>
  simp only[V.k];rw[eI]at hv;have he:enc (.mk k n d s z l)=[.sc (.int .i64 k),.sc (.int .i64 n),.sc (.int .i64 d),.sc (.string s),eG z l]:=rfl;rw[he];clear he;generalize eG z l=L at hv;by_cases h1:k=1
  .subst h1;cases K<;>simp[f249,hv]
  by_cases h2:k=2
  .subst h2;cases K<;>simp[f249,hv]
  by_cases h4:k=4
  .subst h4;cases K<;>simp[f249,hv]
  cases K<;>simp[f249,hv,h1,h2,h4]
structure fZ where
 key:ByteArray
 v:V
def fK(p:fZ):LA:= .sc (.string p.key)::enc p.v
def d_(l:List fZ):List LA:=l.map fK
def eU(l:List fZ)(z:Bool):AV:= .ls 6 (d_ l) z
@[simp] def acj(p:fZ):(fK p).length=6:=by simp[fK]
def cP(l:List fZ):(d_ l).length=l.length:=by simp[d_]
def lT(l:List fZ)(i:Nat):(d_ l)[i]?=(l[i]?).map fK:=by simp[d_]
def iq(l:List fZ):List ByteArray:=l.map fZ.key
def KK(l:List fZ):LA:=l.map λp=> .sc (.string p.key)
def Fh(l:List fZ):AV:=match l with
 | []=> .sc (.slice none 0 0)
 |_::_=>iD (iq l) false
@[simp] def abD(h:Hp)(a b d:eK)(id:Nat):((h++[a]).set id d++[b])[h.length+1]?=some b:=by rw[Zf (by simp)];simp
def S_{h:Hp}{n id len:Nat}{vs:List Value}(hx:h[id]?=some (.row (vs.map .sc)))(cf:vs.length=len):cD h (n+1) (.sl id 1 0 len false)=some (.ls 1 (vs.map λx=> [.sc x]) false):=by
 subst cf;have e:∀l:List Value,(l.map AV.sc).mapM (cD h n)=some (l.map AV.sc):=by
  intro l
  induction l with
  |nil=>rfl
  |cons x l ih=>rw[Yz,Zo,ih,SJ];rfl
 have e2:((vs.map AV.sc).drop 0).take (vs.length*1)=vs.map AV.sc:=by
  rw[Yi,Xa (by simp)]
 have e3:0+vs.length*1<=(vs.map AV.sc).length:=by simp
 simp only[cD,rowOf,hx,e3,if_true,e2,e,Yx,Zc,AV.ls.injEq,true_and,and_true];apply List.ext_getElem?;intro i;by_cases hi:i<vs.length
 .simp only[Zs,Xb hi,Zb hi,Yx,Nat.mul_one];rw[Zm (by simpa using hi)];simp
 .simp[hi]
def ac6(l:List fZ):KK l=(l.map λp=>Value.string p.key).map .sc:=by simp[KK]
def Hg{h:Hp}{n id len:Nat}{l:List fZ}(hl:l≠ [])(hx:h[id]?=some (.row (KK l)))(cf:l.length=len):cD h (n+1) (.sl id 1 0 len false)=some (Fh l):=by
 rw[ac6]at hx;rw[S_ hx (by simp[cf])];cases l with
 |nil=>exact absurd rfl hl
 |cons p l=>simp[Fh,iD,fj,iq]
def Ak{t:TypeId}{i:Ti}{sz bytes:Nat}{ag:Bool}{ez:List Value}(hT:cx.T t=some i)(hk:i.kd= .slice sz ag bytes ez)(h:Hp)(cs:LA)(hc:cs.length=sz)(hb:bytes<=1000):
 ew cx (h++[.row cs]) t (.sc (.slice none 0 0)) (.sl h.length sz 0 1 false)=some (.sl (h.length+1) sz 0 1 false,h++[.row cs,.row cs]):=by
 obtain⟨size,agg,zero,kd⟩:=i;simp only at hk;subst hk;have hr:rowOf (h++[eK.row cs]) h.length=some cs:=by simp[rowOf]
 have hn:ju (h++[eK.row cs]) (.sl h.length sz 0 1 false)=some (1,cs):=by
  simp only[ju,hr];rw[cq (by omega),Yi,Nat.one_mul,Xa (by omega)]
 unfold ew;rw[hT];simp only[ka,beq_self_eq_true,Bool.and_self,if_true,hn];rw[cm (by omega),cq (by unfold maxLen;omega)];simp
def Al{t:TypeId}{i:Ti}{sz bytes:Nat}{ag:Bool}{ez:List Value}(hT:cx.T t=some i)(hk:i.kd= .slice sz ag bytes ez)(h:Hp)(cs old:LA)(id n:Nat)(cZ:h[id]?=some (.row old))(hc:cs.length=sz)(ho:old.length=n*sz)(fX:0<sz)(hn1:n<=1000000000000000)(hb:(n+1)*bytes<=140737488355328):
 ew cx (h++[.row cs]) t (.sl id sz 0 n false) (.sl h.length sz 0 1 false)=some (.sl (h.length+1) sz 0 (n+1) false,(h++[eK.row cs]).set id .dead++[.row (old++cs)]):=by
 obtain⟨size,agg,zero,kd⟩:=i;simp only at hk;subst hk;have ng:id<h.length:=(Za.1 cZ).1;have hr:rowOf (h++[eK.row cs]) h.length=some cs:=by simp[rowOf]
 have hn:ju (h++[eK.row cs]) (.sl h.length sz 0 1 false)=some (1,cs):=by
  simp only[ju,hr];rw[cq (by omega),Yi,Nat.one_mul,Xa (by omega)]
 have Ta:(h++[eK.row cs])[id]?=some (.row old):=by rw[Zd ng];exact cZ
 have hmul:(n+1)*sz=n*sz+sz:=by rw[Xp,Nat.one_mul]
 unfold ew;rw[hT];simp only[ka,beq_self_eq_true,Bool.and_self,if_true,hn,Ta];rw[cm (by omega),cm (by omega),cq ⟨trivial,ho,by unfold maxLen;omega,hb⟩];simp
def Tb(n:Nat)(b:Bool)(l:List fZ)(z:Bool)(h:Hp)(hl:l.length<=1000):ch cx (n+1) b 261 [eU l z] h=some (Fh l,h):=by
 suffices H:∃r,r=Fh l/\∀b h,ch cx (n+1) b 261 [eU l z] h=some (r,h) by
  obtain⟨r,rfl,hr⟩:=H;exact hr b h
 refine gP (f:=261) (n:=n) (args:=[eU l z]) (λr=>r=Fh l) ⟨f261.ntmps,(f261.body).getD .skip,[.tmp 2]⟩ (by kernel_rfl) (by kernel_rfl) rfl (by kernel_rfl) (by simp[f261]) rfl ?_;have hq:=cP l;have hg:=lT l;unfold eU;generalize d_ l=cg at hq hg;simp[f261];refine ej (C:=cx) (G:=λr=>∃r0 h',dL _ (eX _ _ (du _ r) _)=some (r0,h')/\cD h' 8 r0=some (Fh l))
  (λi s=>s.1.length=20/\gt s.1 0= .ls 6 cg z/\gt s.1 4=i/\((i=0/\gt s.1 3=())\/(0<i/\∃id cs,gt s.1 3= .sl id 1 0 i false/\s.2[id]?=some (.row cs)/\cs=KK (l.take i))))
  (λo s=>s.1.length=20/\o= .exit 0/\((l=[]/\gt s.1 3=())\/(l≠ []/\∃id,gt s.1 3= .sl id 1 0 l.length false/\s.2[id]?=some (.row (KK l))))) l.length (by simp;omega) (by simp) ?_ ?_
 .rintro i fr h da ⟨cf,h0,h4,h3⟩;simp only at cf h0 h4 h3;by_cases hi:i<l.length
  .obtain⟨x,hx⟩:=eA hi;have hr:cg[i]?=some (.sc (.string x.key)::enc x.v):=by rw[hg,hx];rfl
   have cz:=gA hr
   have hf:cS .i64 ((i:Int)+1)=((i+1:Nat):Int):=cu (by omega) (by omega);have wc:KK (l.take (i+1))=KK (l.take i)++[.sc (.string x.key)]:=by
    rw[List.take_add_one,hx];simp[KK]
   rcases h3 with⟨rfl,h3⟩|⟨tE,id,cs,h3,cZ,hcs⟩
   .have Fj:=Ak (t:=48) kh rfl h [x.key] rfl (by omega);simp[cf,h0,h4,h3,hi,hq,cz,Fj];exact⟨rfl,wc.symm⟩
   .have dZ:cs.length=i:=by rw[hcs];simp[KK];omega
    have Fj:=Al (t:=48) kh rfl h [x.key] cs id i cZ rfl (by omega) (by omega) (by omega) (by omega);simp[cf,h0,h4,h3,hi,hq,cz,Fj,hf];rw[wc,hcs]
  .have k_:i=l.length:=by omega
   subst k_;simp[cf,h0,h4,hq];rcases h3 with⟨h1,h3⟩|⟨tE,id,cs,h3,cZ,hcs⟩
   .exact .inl ⟨Zl h1,h3⟩
   .refine .inr ⟨λe=>by rw[e]at tE;simp at tE,id,h3,?_⟩;rw[cZ,hcs,Xa (Xc _)]
 .rintro o fr h hn ⟨cf,rfl,⟨rfl,h3⟩|⟨eF,id,h3,cZ⟩⟩
  .simp only at cf h3;simp[cf,h3,Fh];exact gq rfl
  .simp only at cf h3 cZ;simp[cf,h3];exact gq (Hg eF cZ rfl)
section
variable {C : Cx} {cal : FuncId -> LA -> Hp -> Option (AV × Hp)} {ops : Array Oper}
@[simp] def ah0(d:Tmp)(rest:List Oper)(fr:LA)(l:List fZ)(h:Hp):sY C cal ops (some d) rest fr (some (Fh l,h))=dr C cal ops rest (fr.set d (Fh l),h):=by cases l<;>rfl
@[simp] def ahW(d:Tmp)(rest:List Oper)(fr:LA)(l:List fZ)(h:Hp):vV C cal ops (some d) rest fr (some (Fh l,h))=cp C cal ops rest (fr.set d (Fh l),h):=by cases l<;>rfl
end
def Hh(o:Option Bool)(l:List ByteArray):AV:=match o with
 |none=> .sc (.slice none 0 0)
 |some z=>iD l z
def OJ(o:Option Bool)(l:List ByteArray):Prop:=o=none->l=[]
def Tc(o:Option Bool)(l:List ByteArray):dk (Hh o l)=true:=by cases o<;>rfl
def Hj(l:List fZ):dk (Fh l)=true:=by cases l<;>rfl
def Bl(o:Option Bool)(l:List ByteArray)(p:List fZ)(z:Bool):[Hh o l,eU p z].all dk=true:=by rw[Zn,Tc];rfl
def nL(l:List fZ):(iq l).length=l.length:=by simp[iq]
def Td(n:Nat)(b:Bool)(l:List fZ)(h:Hp)(hl:l.length<=1000000000000000):ch cx (n+3) b 262 [Fh l] h=some (.sc (.bool (eT (iq l))),h):=by
 cases l with
 |nil=>exact vD (n+2) b h
 |cons p l=>exact DN n b (iq (p::l)) false h (by rw[nL];exact hl)
def Te(n:Nat)(b:Bool)(l:List fZ)(h:Hp)(hl:l.length<=1000000000000000):ch cx (n+1) b 263 [Fh l] h=some (.sc (.bool (dS (iq l))),h):=by
 cases l with
 |nil=>exact vC n b h
 |cons p l=>exact DM n b (iq (p::l)) false h (by rw[nL];exact hl)
def Tf(n:Nat)(b:Bool)(o:Option Bool)(l:List ByteArray)(h:Hp)(ho:OJ o l)(hl:l.length<=1000000000000000):ch cx (n+3) b 262 [Hh o l] h=some (.sc (.bool (eT l)),h):=by
 cases o with
 |none=>rw[ho rfl];exact vD (n+2) b h
 |some z=>exact DN n b l z h hl
def Th(n:Nat)(b:Bool)(o:Option Bool)(l:List ByteArray)(h:Hp)(ho:OJ o l)(hl:l.length<=1000000000000000):ch cx (n+1) b 263 [Hh o l] h=some (.sc (.bool (dS l)),h):=by
 cases o with
 |none=>rw[ho rfl];exact vC n b h
 |some z=>exact DM n b l z h hl
def gE(l:List fZ):Bool:=l.all λp=>jg p.v
def lU(l:List fZ)(i:Nat):Bool:=gE (l.drop i)
def zb(l:List fZ)(i:Nat)(h:l.length<=i):lU l i=true:=by unfold lU;rw[Zt h];rfl
def xd{l:List fZ}{i:Nat}{c:fZ}(h:l[i]?=some c):lU l i=(jg c.v && lU l (i+1)):=by
 obtain⟨k,e⟩:=Za.1 h;unfold lU gE;rw[Zm k,e,Zn]
def gk(l:List ByteArray)(p:List fZ):Int:=
 if 8<l.length\/16<p.length then 4
 else if(eT l && eT (iq p))=false then 6
 else if(dS l && dS (iq p))=false then 26
 else if gE p=false then 8 else 0
def RZ(D:Nat)(p:List fZ):Prop:=∀x∈p,gS x.v<=D/\jK x.v
def DR(N D:Nat)(b:Bool)(o:Option Bool)(l:List ByteArray)(p:List fZ)(z:Bool)(h:Hp)(ho:OJ o l)(hl:l.length<=1000000000000000)(hp:p.length<=1000000000000000)(hb:RZ D p):
 ch cx (N+2*D+6) b 162 [Hh o l,eU p z] h=some (.sc (.int .i64 (gk l p)),h):=by
 refine eR (n:=N+2*D+5) f162 [.tmp 4] (Bl _ _ _ _) rfl ?_ b h;have aa:=λb h=>Tf (N+2*D+2) b o l h ho hl
 have af:=λb h=>Th (N+2*D+4) b o l h ho hl
 have ah:=λb h=>Td (N+2*D+2) b p h hp
 have ai:=λb h=>Te (N+2*D+4) b p h hp
 have aj:=λb h(hk:p.length<=1000)=>Tb (N+2*D+4) b p z h hk
 have ak:=λb x h(hx:x∈p)=>DQ N D x.v (hb x hx).1 (hb x hx).2 b h
 unfold gk;have hq:=cP p;have hg:=lT p;unfold eU at aj|-;generalize d_ p=cg at hq hg aj;generalize N+2*D+5=M at aa af ah ai aj ak;have cf:(∃z',Hh o l= .ls 1 (fj l) z')\/(Hh o l=()/\l.length=0):=by
  cases o with
  |none=>exact .inr ⟨rfl,by rw[ho rfl];rfl⟩
  |some z'=>exact .inl ⟨z',rfl⟩
 have Fk:=di l;generalize fj l=rows' at cf Fk;generalize Hh o l=L at aa af cf;by_cases h8:8<l.length
 .rcases cf with⟨z',rfl⟩|⟨rfl,e⟩
  .simp[f162,Fk,h8,show 8< (l.length:Int) by omega]
  .omega
 have OK:¬8< (l.length:Int):=by omega
 by_cases mN:16<p.length
 .have tF:16< (p.length:Int):=by omega
  rcases cf with⟨z',rfl⟩|⟨rfl,e⟩
  .simp[f162,Fk,hq,h8,OK,mN,tF]
  .simp[f162,hq,h8,mN,tF]
 have f5':=λb h=>aj b h (by omega)
 have j9:¬(8<l.length\/16<p.length):=by omega
 rw[cm j9];have tF:¬16< (p.length:Int):=by omega
 clear aj j9;generalize eT l=n1 at aa;generalize dS l=n2 at af;generalize eT (iq p)=n3 at ah;generalize dS (iq p)=n4 at ai;cases n1
 .rcases cf with⟨z',rfl⟩|⟨rfl,e⟩<;>simp[f162,Fk,hq,OK,tF,aa,f5']
 cases n3
 .rcases cf with⟨z',rfl⟩|⟨rfl,e⟩<;>simp[f162,Fk,hq,OK,tF,aa,ah,f5']
 cases n2
 .rcases cf with⟨z',rfl⟩|⟨rfl,e⟩<;>simp[f162,Fk,hq,OK,tF,aa,af,ah,f5']
 cases n4
 .rcases cf with⟨z',rfl⟩|⟨rfl,e⟩<;>simp[f162,Fk,hq,OK,tF,aa,af,ah,ai,f5']
 rcases cf with⟨z',rfl⟩|⟨rfl,e⟩
 all_goals
  simp[f162,Fk,hq,OK,tF,aa,af,ah,ai,f5'];refine pQ
   (λi s _=>gE p=lU p i/\s.length=46/\gt s 1= .ls 6 cg z/\gt s 6=i)
   (λo s _=>s.length=46/\((o= .exit 0/\gE p=true)\/(o= .ret/\gE p=false/\gt s 4=(8:Int)))) p.length (by simp;omega) (by simp[lU]) ?_ ?_
  .rintro i fr h da ⟨ho,cf,h1,h6⟩;by_cases hi:i<p.length
   .obtain⟨x,hx⟩:=eA hi;have hr:cg[i]?=some (.sc (.string x.key)::enc x.v):=by rw[hg,hx];rfl
    have cz:=gA hr
    rw[xd hx]at ho;have rz:=λb h=>ak b x h (Zi hx)
    have hf:cS .i64 ((i:Int)+1)=((i+1:Nat):Int):=cu (by omega) (by omega);cases hk:jg x.v
    .have zz:gE p=false:=by rw[ho,hk];rfl
     clear ho;simp[cf,h1,h6,hi,hq,cz,rz,hk,zz]
    .have zz:gE p=lU p (i+1):=by rw[ho,hk];rfl
     clear ho;simp[cf,h1,h6,hi,hq,cz,rz,hk,hf];exact zz
   .have zz:gE p=true:=by rw[ho,zb p i (by omega)]
    simp[cf,h1,h6,hi,hq,zz]
  .rintro o fr h hn ⟨cf,⟨rfl,hz⟩|⟨rfl,hz,h2⟩⟩
   .simp[cf,hz]
   .simp[h2,hz]
@[simp] def agU(h:Hp)(a b c:eK)(l:Hp):(h++a::b::c::l)[h.length+2]?=some c:=by rw[Zf (by omega)];simp
@[simp] def XS(h:Hp)(a b c d:eK)(id:Nat):((h++[a,b]).set id d++[c])[h.length+2]?=some c:=by rw[Zf (by simp)];simp
def C9(n:Nat)(b:Bool)(l:List fZ)(h:Hp)(hl:l.length<=1000000000000000):ch cx (n+1) b 151 [Fh l] h=some (.sc (.bool (dS (iq l))),h):=by
 cases l with
 |nil=>exact qu n b h
 |cons p l=>exact xb n b (iq (p::l)) false h (by rw[nL];exact hl)
def Hk(n:Nat)(b:Bool)(l:List fZ)(h:Hp)(hl:l.length<=1000000000000000):ch cx (n+5) b 149 [Fh l,.fn 150 []] h=some (.sc (.bool (!eT (iq l))),h):=by
 cases l with
 |nil=>exact nD (n+3) b h
 |cons p l=>exact ln n b (iq (p::l)) false h (by rw[nL];exact hl)
def C_(n:Nat)(b:Bool)(o:Option Bool)(l:List ByteArray)(h:Hp)(ho:OJ o l)(hl:l.length<=1000000000000000):ch cx (n+1) b 151 [Hh o l] h=some (.sc (.bool (dS l)),h):=by
 cases o with
 |none=>rw[ho rfl];exact qu n b h
 |some z=>exact xb n b l z h hl
def Hl(n:Nat)(b:Bool)(o:Option Bool)(l:List ByteArray)(h:Hp)(ho:OJ o l)(hl:l.length<=1000000000000000):ch cx (n+5) b 149 [Hh o l,.fn 150 []] h=some (.sc (.bool (!eT l)),h):=by
 cases o with
 |none=>rw[ho rfl];exact nD (n+3) b h
 |some z=>exact ln n b l z h hl
def OL(h:Hp)(l:List fZ)(x:AV):Prop:=(l=[]/\x=())\/(l≠ []/\∃id,x= .sl id 1 0 l.length false/\h[id]?=some (.row (KK l)))
def DS{h:Hp}{l:List fZ}{x:AV}(hx:OL h l x):cD h 8 x=some (Fh l):=by
 rcases hx with⟨rfl,rfl⟩|⟨eF,id,rfl,cZ⟩
 .rfl
 .exact Hg eF cZ rfl
def zU(n:Nat)(b:Bool)(l:List fZ)(h:Hp)(x:AV)(hx:OL h l x)(hl:l.length<=1000000000000000):ch cx (n+1) b 151 [x] h=some (.sc (.bool (dS (iq l))),h):=by
 refine lj (ys:=[Fh l]) rfl (by kernel_rfl) ?_ ?_ rfl (C9 n b l h hl)
 .rw[Zo,DS hx];rfl
 .rw[Zn,Hj];rfl
def Da(n:Nat)(b:Bool)(l:List fZ)(h:Hp)(x:AV)(hx:OL h l x)(hl:l.length<=1000000000000000):ch cx (n+5) b 149 [x,.fn 150 []] h=some (.sc (.bool (!eT (iq l))),h):=by
 refine lj (n:=n+4) (ys:=[Fh l,.fn 150 []]) rfl (by kernel_rfl) ?_ ?_ rfl (Hk n b l h hl)
 .rw[Zo,DS hx];rfl
 .rw[Zn,Hj];rfl
def MG(N D:Nat)(b:Bool)(o:Option Bool)(l:List ByteArray)(p:List fZ)(z:Bool)(h:Hp)(ho:OJ o l)(hl:l.length<=1000000000000000)(hp:p.length<=1000000000000000)(hb:RZ D p):
 ch cx (N+2*D+6) b 92 [Hh o l,eU p z] h=some (.sc (.int .i64 (gk l p)),h):=by
 refine eR (n:=N+2*D+5) f92 [.tmp 4] (Bl _ _ _ _) rfl ?_ b h;have aa:=λb h=>Hl (N+2*D) b o l h ho hl
 have af:=λb h=>C_ (N+2*D+4) b o l h ho hl
 have ah:=λb x h(hx:OL h p x)=>Da (N+2*D) b p h x hx hp
 have ai:=λb x h(hx:OL h p x)=>zU (N+2*D+4) b p h x hx hp
 have ak:=λb x h(hx:x∈p)=>DP N D x.v (hb x hx).1 (hb x hx).2 b h
 unfold gk;have hq:=cP p;have hg:=lT p;unfold eU;generalize d_ p=cg at hq hg;generalize N+2*D+5=M at aa af ah ai ak;have cf:(∃z',Hh o l= .ls 1 (fj l) z')\/(Hh o l=()/\l.length=0):=by
  cases o with
  |none=>exact .inr ⟨rfl,by rw[ho rfl];rfl⟩
  |some z'=>exact .inl ⟨z',rfl⟩
 have Fk:=di l;generalize fj l=rows' at cf Fk;generalize Hh o l=L at aa af cf;by_cases h8:8<l.length
 .rcases cf with⟨z',rfl⟩|⟨rfl,e⟩
  .simp[f92,Fk,h8,show 8< (l.length:Int) by omega]
  .omega
 have OK:¬8< (l.length:Int):=by omega
 by_cases mN:16<p.length
 .have tF:16< (p.length:Int):=by omega
  rcases cf with⟨z',rfl⟩|⟨rfl,e⟩
  .simp[f92,Fk,hq,h8,OK,mN,tF]
  .simp[f92,hq,h8,mN,tF]
 have j9:¬(8<l.length\/16<p.length):=by omega
 rw[cm j9];have tF:¬16< (p.length:Int):=by omega
 clear j9;generalize eT l=n1 at aa;generalize dS l=n2 at af;generalize eT (iq p)=n3 at ah;generalize dS (iq p)=n4 at ai;have afF:∀(hh:Hp)(x:fZ),ew cx (hh++[eK.row (.sc (.string x.key)::enc x.v),eK.row [x.key]]) 48 (.sc (.slice none 0 0)) (.sl (hh.length+1) 1 0 1 false)=some (.sl (hh.length+2) 1 0 1 false,hh++[eK.row (.sc (.string x.key)::enc x.v),eK.row [x.key],eK.row [x.key]]):=λhh x=>by
  have Fj:=Ak (t:=48) kh rfl (hh++[eK.row (.sc (.string x.key)::enc x.v)]) [x.key] rfl (by omega);simpa only[Zp,Zv,Zw,Zu,Xe,Xq,Xs,Nat.add_assoc]using Fj
 have afG:∀(hh:Hp)(x:fZ)(cs:LA)(id n:Nat)(cZ:hh[id]?=some (.row cs))(ho:cs.length=n*1)(hn:n<=16),ew cx (hh++[eK.row (.sc (.string x.key)::enc x.v),eK.row [x.key]]) 48 (.sl id 1 0 n false) (.sl (hh.length+1) 1 0 1 false)=some (.sl (hh.length+2) 1 0 (n+1) false,(hh++[eK.row (.sc (.string x.key)::enc x.v),eK.row [x.key]]).set id .dead++[.row (cs++[.sc (.string x.key)])]):=λhh x cs id n cZ ho hn=>by
  have ng:id<hh.length:=(Za.1 cZ).1;have Fj:=Al (t:=48) kh rfl (hh++[eK.row (.sc (.string x.key)::enc x.v)]) [x.key] cs id n (by rw[Zd ng];exact cZ) rfl ho (by omega) (by omega) (by omega);simpa only[Zp,Zv,Zw,Zu,Xe,Xq,Xs,Nat.add_assoc]using Fj
 rcases cf with⟨z',hz⟩|⟨hz,e⟩
 all_goals
  simp[f92,hz,Fk,hq,OK,tF];refine pQ
   (λi s dn=>s.length=55/\gt s 0=L/\gt s 1= .ls 6 cg z/\gt s 18= .ls 6 cg z/\gt s 19=p.length/\gt s 20=i/\((i=0/\gt s 5=())\/(0<i/\∃id cs,gt s 5= .sl id 1 0 i false/\dn[id]?=some (.row cs)/\cs=KK (p.take i))))
   (λo s dn=>s.length=55/\o= .exit 0/\gt s 0=L/\gt s 1= .ls 6 cg z/\OL dn p (gt s 5)) p.length (by simp;omega) (by simp[hz]) ?_ ?_
  .rintro i fr h da ⟨cf,h0,h1,OE,W2,Hd,h5⟩;by_cases hi:i<p.length
   .obtain⟨x,hx⟩:=eA hi;have hr:cg[i]?=some (.sc (.string x.key)::enc x.v):=by rw[hg,hx];rfl
    have cz:=gA hr
    have hf:cS .i64 ((i:Int)+1)=((i+1:Nat):Int):=cu (by omega) (by omega);have wc:KK (p.take (i+1))=KK (p.take i)++[.sc (.string x.key)]:=by
     rw[List.take_add_one,hx];simp[KK]
    rcases h5 with⟨rfl,h5⟩|⟨tE,id,cs,h5,cZ,hcs⟩
    .simp[cf,h0,h1,OE,W2,Hd,h5,hi,hq,cz,afF];exact⟨rfl,wc.symm⟩
    .have dZ:cs.length=i:=by rw[hcs];simp[KK];omega
     have Fj:=afG h x cs id i cZ (by omega) (by omega);simp[cf,h0,h1,OE,W2,Hd,h5,hi,hq,cz,Fj,hf];rw[wc,hcs]
   .have k_:i=p.length:=by omega
    subst k_;simp[cf,h0,h1,W2,Hd];rcases h5 with⟨h2,h5⟩|⟨tE,id,cs,h5,cZ,hcs⟩
    .exact .inl ⟨Zl h2,h5⟩
    .refine .inr ⟨λe=>by rw[e]at tE;simp at tE,id,h5,?_⟩;rw[cZ,hcs,Xa (Xc _)]
  .rintro o fr h hn ⟨cf,rfl,h0,h1,GF⟩;generalize h5:gt fr 5=x5 at GF;have W3:=λb=>ah b x5 h GF
   have f4':=λb=>ai b x5 h GF
   have e0:∀{cal:iB}{ops:Array Oper}(d:Tmp)(rest:List Oper)(fr:LA)(h:Hp),sY cx cal ops (some d) rest fr (some (L,h))=dr cx cal ops rest (fr.set d L,h):=by rw[hz];intros;rfl
   have e5:∀{cal:iB}{ops:Array Oper}(d:Tmp)(rest:List Oper)(fr:LA)(h:Hp),sY cx cal ops (some d) rest fr (some (x5,h))=dr cx cal ops rest (fr.set d x5,h):=by rcases GF with⟨_,rfl⟩|⟨_,_,rfl,_⟩<;>(intros;rfl)
   cases n1
   .simp[e0,cf,h0,aa]
   cases n3
   .simp[e0,e5,cf,h0,h5,aa,W3]
   cases n2
   .simp[e0,e5,cf,h0,h5,aa,af,W3]
   cases n4
   .simp[e0,e5,cf,h0,h5,aa,af,W3,f4']
   simp[e0,e5,cf,h0,h1,h5,aa,af,W3,f4',hq];refine pQ
    (λi s _=>gE p=lU p i/\s.length=55/\gt s 44= .ls 6 cg z/\gt s 45=p.length/\gt s 46=i)
    (λo s _=>s.length=55/\((o= .exit 2/\gE p=true)\/(o= .ret/\gE p=false/\gt s 4=(8:Int)))) p.length (by simp;omega) (by simp[lU,cf]) ?_ ?_
   .rintro i fr h da ⟨ho,cf,h44,h45,h46⟩;by_cases hi:i<p.length
    .obtain⟨x,hx⟩:=eA hi;have hr:cg[i]?=some (.sc (.string x.key)::enc x.v):=by rw[hg,hx];rfl
     have cz:=gA hr
     rw[xd hx]at ho;have rz:=λb h=>ak b x h (Zi hx)
     have hf:cS .i64 ((i:Int)+1)=((i+1:Nat):Int):=cu (by omega) (by omega);cases hk:jg x.v
     .have zz:gE p=false:=by rw[ho,hk];rfl
      clear ho;simp[cf,h44,h45,h46,hi,hq,cz,rz,hk,zz]
     .have zz:gE p=lU p (i+1):=by rw[ho,hk];rfl
      clear ho;simp[cf,h44,h45,h46,hi,hq,cz,rz,hk,hf];exact zz
    .have zz:gE p=true:=by rw[ho,zb p i (by omega)]
     simp[cf,h45,h46,hi,zz]
   .rintro o fr h hn ⟨cf,⟨rfl,hz⟩|⟨rfl,hz,h2⟩⟩
    .simp[cf,hz]
    .simp[h2,hz]
end
end Go.Proofs.YtmfohnojaginjaaGreatDoor
