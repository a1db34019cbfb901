/- Part of the proof. -/
import Derived.Test.YtmocfjnklfpnbaaGreatDoorP11
import Derived.Lib.ItoaNum
set_option linter.all false
set_option maxHeartbeats 16000000
set_option maxRecDepth 100000
namespace Go.Proofs.YtmocfjnklfpnbaaGreatDoor
open Go Go.Ae Go.Proofs.Tryz
section
attribute [local simp] ew cF eY
def z7(q:Int):Bool:=(decide (97<=q) && decide (q<=122))||(decide (65<=q) && decide (q<=90))
def vE(q:Int):Bool:=z7 q||(decide (48<=q) && decide (q<=57))||decide (q=95)
def Qw(n:Nat)(b:Bool)(q:Int)(h:Hp):cu cx (n+1) b 180 [.sc (.int .u8 q)] h=some (.sc (.bool (z7 q)),h):=by
 refine fU f180 [.tmp 2] rfl rfl ?_ b h;unfold z7;by_cases h1:97<=q
 .by_cases h2:q<=122
  .simp[f180,h1,h2]
  .simp[f180,h1,h2,show 65<=q by omega,show¬q<=90 by omega]
 .by_cases h2:65<=q
  .by_cases h3:q<=90<;>simp[f180,h1,h2,h3]
  .simp[f180,h1,h2]
def tX(c:UInt8):Bool:=vE c.toNat
def gR(x:ByteArray)(i:Nat):Bool:=(x.data.toList.drop i).all tX
def CP(x:ByteArray)(i:Nat)(h:x.size<=i):gR x i=true:=by unfold gR;rw[Zt h];rfl
def ux{x:ByteArray}{i:Nat}{c:UInt8}(h:x.data.toList[i]?=some c):gR x i=(tX c && gR x (i+1)):=by
 obtain⟨k,e⟩:=Za.1 h;unfold gR;rw[Zm k,e,Zn]
def qX(x:ByteArray):Bool:=decide ((x.size:Int)<=20) && (match x.data.toList[0]? with|none=>false|some c=>z7 c.toNat) && gR x 1
def pN(x:ByteArray):x.data.toList.length=x.size:=rfl
def z8(x:ByteArray):(x.size=0/\x.data.toList[0]?=none/\dn x ⟨#[]⟩=true)\/∃c,0<x.size/\x.data.toList[0]?=some c/\dn x ⟨#[]⟩=false/\gR x 0=(tX c && gR x 1):=by
 cases h:x.data.toList[0]? with
 |
  none=>
  have h1:=List.getElem?_eq_none_iff.1 h;have h2:x.data.toList=[]:=Zl (by omega);exact .inl ⟨by have:=pN x;omega,rfl,by unfold dn;rw[h2];rfl⟩
 |some c=>
  have h1:=(Za.1 h).1;refine .inr ⟨c,by have:=pN x;omega,rfl,?_,ux h⟩;unfold dn;cases hq:x.data.toList with
  |nil=>rw[hq]at h1;simp at h1
  |cons a l=>rfl
def Qx(q:Int)(h:z7 q=true):vE q=true:=by unfold vE;rw[h];rfl
def aa1(n:Nat)(b:Bool)(x:ByteArray)(h:Hp):cu cx (n+2) b 124 [x] h=some (.sc (.bool (qX x)),h):=by
 refine fU f124 [.tmp 2] rfl rfl ?_ b h;have ik:=pN x;have gI:=λb q h=>Qw n b q h
 unfold qX;rcases z8 x with⟨z0,z1,z2⟩|⟨c0,z0,z1,z2,z3⟩
 .simp[f124,z0,z1,z2]
 have z1':∀k,x.data[0]'k=c0:=λk=>by obtain⟨_,e⟩:=Za.1 z1;exact e
 by_cases K8:(x.size:Int)<=20
 rotate_left
 .simp[f124,z0,z1,z2,show 20< (x.size:Int) by omega,K8]
 have Qy:¬20< (x.size:Int):=by omega
 obtain⟨q0,IG⟩:∃q:Int,q=c0.toNat:=⟨_,rfl⟩;have rO:=λb h=>gI b q0 h
 cases ki:z7 q0
 .simp[f124,z0,z1,z1',z2,K8,Qy,<-IG,rO,ki]
 have z4:gR x 0=gR x 1:=by
  rw[z3,show tX c0=vE q0 from by rw[IG];rfl,Qx q0 ki];rfl
 clear z3;simp[f124,z0,z1,z1',z2,K8,Qy,<-IG,rO,ki];refine ve
  (λi s _=>gR x 1=gR x i/\s.length=46/\gt s 0=x/\gt s 18=x.size/\gt s 19=i)
  (λo s _=>s.length=46/\((o= .exit 0/\gR x 1=true)\/(o= .ret/\gR x 1=false/\gt s 2=false))) x.size (by simp;omega) (by simp[z4]) ?_ ?_
 .rintro i fr h cP ⟨ho,cp,h0,Pm,FE⟩;by_cases hi:i<x.size
  .obtain⟨c,hc⟩:∃c,x.data.toList[i]?=some c:=⟨_,Zb (by omega)⟩;rw[ux hc]at ho;have hf:dA .i64 ((i:Int)+1)=((i+1:Nat):Int):=cK (by omega) (by omega);have z_:∀k,x.data[i]'k=c:=λk=>by obtain⟨_,e⟩:=Za.1 hc;exact e
   obtain⟨q,hq⟩:∃q:Int,q=c.toNat:=⟨_,rfl⟩;have jB:tX c=vE q:=by rw[hq];rfl
   rw[jB]at ho;clear jB;have Qz:=λb h=>gI b q h
   unfold vE at ho;cases hl:z7 q
   .by_cases c1:q<48
    .have z:gR x 1=false:=by rw[ho,hl];simp;omega
     clear ho;simp[cp,h0,Pm,FE,hi,hc,z_,<-hq,Qz,hl,c1,show¬q=95 by omega,z]
    .by_cases c2:57<q
     .by_cases c3:q=95
      .have z:gR x 1=gR x (i+1):=by rw[ho,hl];simp[c3]
       clear ho;subst c3;simp[cp,h0,Pm,FE,hi,hc,z_,<-hq,Qz,hl,hf];exact z
      .have z:gR x 1=false:=by rw[ho,hl];simp;omega
       clear ho;simp[cp,h0,Pm,FE,hi,hc,z_,<-hq,Qz,hl,c1,c2,c3,z]
     .have z:gR x 1=gR x (i+1):=by rw[ho,hl];simp[show 48<=q by omega,show q<=57 by omega]
      clear ho;simp[cp,h0,Pm,FE,hi,hc,z_,<-hq,Qz,hl,c1,c2,show¬q=95 by omega,hf];exact z
   .have z:gR x 1=gR x (i+1):=by rw[ho,hl];simp
    clear ho;simp[cp,h0,Pm,FE,hi,hc,z_,<-hq,Qz,hl,hf];exact z
  .have hz:gR x 1=true:=by rw[ho,CP x i (by omega)]
   simp[cp,h0,Pm,FE,hi,hz]
 .rintro o fr h hn ⟨cp,⟨rfl,hz⟩|⟨rfl,hz,h2⟩⟩
  .simp[cp,hz]
  .simp[h2,hz]
def eE(l:List ByteArray):List LA:=l.map λs=> [.sc (.string s)]
def tsV(l:List ByteArray)(z:Bool):AV:= .ls 1 (eE l) z
def cI(l:List ByteArray):(eE l).length=l.length:=by simp[eE]
def iW(l:List ByteArray)(i:Nat):(eE l)[i]?=(l[i]?).map λs=> [.sc (.string s)]:=by simp[eE]
def eR :List ByteArray->Bool
 | []=>true
 |
  x::l=>match l with
  | []=>true
  |y::_=>nO x y && eR l
def nV(l:List ByteArray)(i:Nat):Bool:=eR (l.drop i)
def Aa(l:List ByteArray)(i:Nat)(h:l.length<=i+1):nV l i=true:=by
 unfold nV;cases hq:l.drop i with
 |nil=>rfl
 |cons x m=>
  have:=congrArg List.length hq;simp at this;have hm:m=[]:=Zl (by omega);subst hm;rfl
def xU{l:List ByteArray}{i:Nat}{x y:ByteArray}(h:l[i]?=some x)(h':l[i+1]?=some y):nV l i=(nO x y && nV l (i+1)):=by
 obtain⟨k,e⟩:=Za.1 h;obtain⟨k',e'⟩:=Za.1 h';unfold nV;rw[Zm k,Zm k',e,e',eR]
def ZM(x y:ByteArray):(nO y x||dn y x)= !(nO x y):=by
 cases h1:nO x y with
 |
  true=>
  have h2:=CL h1;cases h3:dn y x with
  |false=>simp[h2]
  |true=>have:=(ng y x).1 h3;subst this;rw[l_]at h1;cases h1
 |
  false=>
  cases h3:dn y x with
  |true=>simp
  |
   false=>
   cases h4:nO y x with
   |true=>simp
   |false=>have:=nB h4 h3;rw[h1]at this;cases this
def mP(v:V):Bool:=k_ v && (decide (v.k=1)||decide (v.k=2)||decide (v.k=4))
structure Pn where
 key:ByteArray
 v:V
def Jv(p:Pn):LA:= .sc (.string p.key)::enc p.v
def prR(l:List Pn):List LA:=l.map Jv
def prV(l:List Pn)(z:Bool):AV:= .ls 6 (prR l) z
@[simp] def aaF(p:Pn):(Jv p).length=6:=by simp[Jv]
@[simp] def ZC(h:Hp)(a b d:eV)(id:Nat):((h++[a]).set id d++[b])[h.length+1]?=some b:=by rw[Zf (by simp)];simp
def K9{t:TypeId}{i:Ti}{sz bytes:Nat}{ag:Bool}{ez:List Value}(hT:cx.T t=some i)(hk:i.kd= .slice sz ag bytes ez)(h:Hp)(cs:LA)(hc:cs.length=sz)(hb:bytes<=1000):
 fg cx (h++[.row cs]) t (.sc (.slice none 0 0)) (.sl h.length sz 0 1 false)=some (.sl (h.length+1) sz 0 1 false,h++[.row cs,.row cs]):=by
 obtain⟨size,agg,zero,kd⟩:=i;simp only at hk;subst hk;have hr:gu (h++[eV.row cs]) h.length=some cs:=by simp[gu]
 have hn:gV (h++[eV.row cs]) (.sl h.length sz 0 1 false)=some (1,cs):=by
  simp only[gV,hr];rw[cw (by omega),Yd,Nat.one_mul,Yy (by omega)]
 unfold fg;rw[hT];simp only[kM,beq_self_eq_true,Bool.and_self,if_true,hn];rw[cv (by omega),cw (by unfold maxLen;omega)];simp
def Vz{t:TypeId}{i:Ti}{sz bytes:Nat}{ag:Bool}{ez:List Value}(hT:cx.T t=some i)(hk:i.kd= .slice sz ag bytes ez)(h:Hp)(cs old:LA)(id n:Nat)(ej:h[id]?=some (.row old))(hc:cs.length=sz)(ho:old.length=n*sz)(ik:0<sz)(hn1:n<=1000000000000000)(hb:(n+1)*bytes<=140737488355328):
 fg cx (h++[.row cs]) t (.sl id sz 0 n false) (.sl h.length sz 0 1 false)=some (.sl (h.length+1) sz 0 (n+1) false,(h++[eV.row cs]).set id .dead++[.row (old++cs)]):=by
 obtain⟨size,agg,zero,kd⟩:=i;simp only at hk;subst hk;have wY:id<h.length:=(Za.1 ej).1;have hr:gu (h++[eV.row cs]) h.length=some cs:=by simp[gu]
 have hn:gV (h++[eV.row cs]) (.sl h.length sz 0 1 false)=some (1,cs):=by
  simp only[gV,hr];rw[cw (by omega),Yd,Nat.one_mul,Yy (by omega)]
 have QC:(h++[eV.row cs])[id]?=some (.row old):=by rw[Zd wY];exact ej
 have hmul:(n+1)*sz=n*sz+sz:=by rw[Xh,Nat.one_mul]
 unfold fg;rw[hT];simp only[kM,beq_self_eq_true,Bool.and_self,if_true,hn,QC];rw[cv (by omega),cv (by omega),cw ⟨trivial,ho,by unfold maxLen;omega,hb⟩];simp
structure Nd where
 id:Int
 labels:List ByteArray
 props:List Pn
structure Ed where
 id:Int
 src:Int
 dst:Int
 type:ByteArray
 props:List Pn
structure Gr where
 nodes:List Nd
 cE:List Ed
 nn:Int
 ne:Int
def VA(n:Nd):LA:=[.sc (.int .i64 n.id),tsV n.labels false,prV n.props false]
def aa2(e:Ed):LA:=[.sc (.int .i64 e.id),.sc (.int .i64 e.src),.sc (.int .i64 e.dst),.sc (.string e.type),prV e.props false]
section
variable {C : Cx} {eG : FuncId -> LA -> Hp -> Option (AV × Hp)} {ops : Array Oper}
def aa3{x:AV}(hx:∀v,x≠ .pn v)(d:Tmp)(rest:List Oper)(fr:LA)(h:Hp):vF C eG ops (some d) rest fr (some (x,h))=dV C eG ops rest (fr.set d x,h):=by
 cases x<;>first|rfl|exact absurd rfl (hx _)
def aa4{x:AV}(hx:∀v,x≠ .pn v)(d:Tmp)(rest:List Oper)(fr:LA)(h:Hp):vG C eG ops (some d) rest fr (some (x,h))=dG C eG ops rest (fr.set d x,h):=by
 cases x<;>first|rfl|exact absurd rfl (hx _)
end
def akN{x:AV}(hx:∀v,x≠ .pn v):∀(eG:FuncId->LA->Hp->Option (AV × Hp))(ops:Array Oper)(d:Tmp)(rest:List Oper)(fr:LA)(h:Hp),vF cx eG ops (some d) rest fr (some (x,h))=dV cx eG ops rest (fr.set d x,h):=λ_ _ d rest fr h=>aa3 hx d rest fr h
def akO{x:AV}(hx:∀v,x≠ .pn v):∀(eG:FuncId->LA->Hp->Option (AV × Hp))(ops:Array Oper)(d:Tmp)(rest:List Oper)(fr:LA)(h:Hp),vG cx eG ops (some d) rest fr (some (x,h))=dG cx eG ops rest (fr.set d x,h):=λ_ _ d rest fr h=>aa4 hx d rest fr h
def ndC(o:Option Nd):LA:=match o with
 |none=> [.sc (.int .i64 0),.sc (.slice none 0 0),.sc (.slice none 0 0)]
 |some n=>VA n
@[simp] def ac5(o:Option Nd):(ndC o).length=3:=by cases o<;>rfl
def F7{h:Hp}{n:Nat}:∀{xs:LA},xs.all calm=true->xs.mapM (da h (n+2))=some xs
 | [],_=>rfl
 |
  x::xs,hc=>by
  rw[Zn,Zh]at hc;rw[Zo,iE hc.1,F7 hc.2];rfl
def QD{f:FuncId}{args:LA}{n:Nat}{xs:LA}(fi:Fi)(hF:cx.F f=some fi)(jB:vg cx fi.body=true)(hs:cx.vc f=none)(hi:cx.inl f=false)(hl:args.length<=fi.ntmps)(hc:args.all calm=true)(hr:xs.all calm=true)(hb:(dT fi.res (n fi.body (args++List.replicate (fi.ntmps-args.length) .un,[]))).map Prod.fst=some (.tp xs))(b:Bool)(h:Hp)(ht:la f=true:=by decide):cu cx (n+1) b f args h=some (.tp xs,h):=by
 simp only[Ze]at hb;obtain⟨⟨r0,h'⟩,hb,rfl⟩:=hb;exact sY fi hF jB hs hi hl hc hb (by show(xs.mapM (da h' 7)).map AV.tp=_;rw[F7 hr];rfl) b h ht
def tA{f:FuncId}{args:LA}{n:Nat}{xs:LA}(fn:Func)(res:List Rv)(hc:args.all calm=true)(hr:xs.all calm=true)(hb:(dT res (n ((fn.body).getD .skip) (args++List.replicate (fn.ntmps-args.length) .un,[]))).map Prod.fst=some (.tp xs))(b:Bool)(h:Hp)(ht:la f=true:=by decide)(hs:cx.vc f=none:=by rfl)(hF:cx.F f=some ⟨fn.ntmps,(fn.body).getD .skip,res⟩:=by kernel_rfl)(jB:vg cx ((fn.body).getD .skip)=true:=by kernel_rfl)(hi:cx.inl f=false:=by kernel_rfl)(hl:Nat.ble args.length fn.ntmps=true:=by rfl):cu cx (n+1) b f args h=some (.tp xs,h):=
 QD ⟨fn.ntmps,(fn.body).getD .skip,res⟩ hF jB hs hi (Nat.le_of_ble_eq_true hl) hc hr hb b h ht
@[simp] def aaI(c:Nd):(VA c).length=3:=rfl
@[simp] def aaE(c:Ed):(aa2 c).length=5:=rfl
@[simp] def adm(c:Nd):(VA c).take 3=VA c:=rfl
@[simp] def ade(c:Ed):(aa2 c).take 5=aa2 c:=rfl
@[simp] def ajS :cx.P.underlying 131=some (.int .u64):=by kernel_rfl
structure LowN (l:List Nd)(x:Int)(lo:Nat):Prop where
 le:lo<=l.length
 lt:∀(i:Nat)(a:Nd),l[i]?=some a->i<lo->a.id<x
 ge:∀(i:Nat)(a:Nd),l[i]?=some a->lo<=i->x<=a.id
def cz{i:Nat}(h:i<=10^15):dA .i64 ((i:Int)+1)=((i+1:Nat):Int):=cK (by omega) (by omega)
structure Ch where
 k:Int
 a:Int
 b:Int
 c:Int
 name:ByteArray
 v:V
def adv(c:Ch):LA:=[.sc (.int .i64 c.k),.sc (.int .i64 c.a),.sc (.int .i64 c.b),.sc (.int .i64 c.c),.sc (.string c.name)]++enc c.v
@[simp] def aaA(c:Ch):(adv c).length=10:=by simp[adv]
@[simp] def aeS(v:V):(enc v).take 5=enc v:=Yy (by simp)
def zeroV :V:= .mk 0 0 0 ⟨#[]⟩ true []
def adw(v:V):Bool:=decide (kE v zeroV=0)
@[simp] def ajO :cx.T 241=some {size:=3,agg:=true,zero:=[.bool false,.bool false,.bool false],kd:= .struct [(0,1,false),(1,1,false),(2,1,false)]}:=by kernel_rfl
end
end Go.Proofs.YtmocfjnklfpnbaaGreatDoor
namespace Go.Ae
open Go
structure Po {α:Type}(lt eq:α->Bool)(l pre Pq post:List α):Prop where
 e:l=pre++Pq++post
 p:∀x∈pre,lt x=true/\eq x=false
 m:∀x∈Pq,lt x=false/\eq x=true
 one:Pq.length<=1
 q:∀x∈post,lt x=false/\eq x=false
section
variable {α : Type} {lt eq : α -> Bool} {l pre Pq post : List α}
def agD(lt eq:α->Bool)(n:α)(add:Bool)(st:List α × Bool)(x:α):List α × Bool:=
 ((st.1++(if !st.2 && !lt x && add then[n]else[]))++(if eq x then[]else[x]),st.2|| !lt x)
def agE(n:α)(add:Bool)(st:List α × Bool):List α:=if !st.2 && add then st.1++[n]else st.1
def agF(lt eq:α->Bool)(n:α)(add:Bool)(l:List α)(i:Nat):List α × Bool:=(l.take i).foldl (agD lt eq n add) ([],false)
def agG(lt eq:α->Bool)(n:α)(add:Bool)(l:List α):List α:=agE n add (agF lt eq n add l l.length)
def Po.filter(h:Po lt eq l pre Pq post):l.filter (λx=> !eq x)=pre++post:=by
 have h1:pre.filter (λx=> !eq x)=pre:=List.filter_eq_self.2 λx hx=>by simp[(h.p x hx).2]
 have h2:Pq.filter (λx=> !eq x)=[]:=List.filter_eq_nil_iff.2 λx hx=>by simp[(h.m x hx).2]
 have h3:post.filter (λx=> !eq x)=post:=List.filter_eq_self.2 λx hx=>by simp[(h.q x hx).2]
 rw[h.e,List.filter_append,List.filter_append,h1,h2,h3,Yk]
def Po.any(h:Po lt eq l pre Pq post):l.any eq= !Pq.isEmpty:=by
 rw[h.e,List.any_append,List.any_append];have h1:pre.any eq=false:=List.any_eq_false.2 λx hx=>by simp[(h.p x hx).2]
 have h3:post.any eq=false:=List.any_eq_false.2 λx hx=>by simp[(h.q x hx).2]
 rw[h1,h3]
 match hmid:Pq with
 | []=>rfl
 |x::_=>simp[(h.m x (by simp)).2]
def Po.take(h:Po lt eq l pre Pq post):l.take pre.length=pre:=by rw[h.e,Zp];simp
def Po.drop(h:Po lt eq l pre Pq post):l.drop pre.length=Pq++post:=by rw[h.e,Zp];simp
def Po.at{x:α}(h:Po lt eq l pre [x] post):l[pre.length]?=some x:=by rw[h.e,Zp];simp
def Po.set{x:α}(h:Po lt eq l pre [x] post)(n:α):l.set pre.length n=pre++[n]++post:=by rw[h.e,Zp];simp
end
end Go.Ae
namespace Go.Proofs.YtmocfjnklfpnbaaGreatDoor
open Go Go.Ae Go.Proofs.Tryz
section
attribute [local simp] ew cF eY
def MT(c:Pn):(Jv c).take 6=Jv c:=Yy (by simp)
def ltR(x:ByteArray)(p:Pn):Bool:=nO p.key x
def eqR(x:ByteArray)(p:Pn):Bool:=dn p.key x
def ka(h:Hp)(sz:Nat)(cq:List LA)(x:AV):Prop:=(cq=[]/\x=())\/(cq≠ []/\∃id,x= .sl id sz 0 cq.length false/\h[id]?=some (.row cq.flatten))
def ka.np{h:Hp}{sz:Nat}{cq:List LA}{x:AV}(hx:ka h sz cq x)(v:Value):x≠ .pn v:=by
 rcases hx with⟨_,rfl⟩|⟨_,id,rfl,_⟩<;>simp
def iy{t:TypeId}{i:Ti}{sz bytes:Nat}{ag:Bool}{ez:List Value}(hT:cx.T t=some i)(hk:i.kd= .slice sz ag bytes ez)(h:Hp)(c:LA)(cq:List LA)(x:AV)(hx:ka h sz cq x)(hc:c.length=sz)(hr:∀r∈cq,r.length=sz)(ik:0<sz)(hn:cq.length<=10^9)(hb:bytes<=1000):
 ∃id h',fg cx (h++[.row c]) t x (.sl h.length sz 0 1 false)=some (.sl id sz 0 (cq.length+1) false,h')/\h'[id]?=some (.row (cq++[c]).flatten)/\
  (∀j b,h[j]?=some b->(∀k n,x= .sl k sz 0 n false->j≠k)->h'[j]?=some b)/\h.length<=id:=by
 rcases hx with⟨rfl,rfl⟩|⟨gE,id,rfl,ej⟩
 .refine⟨_,_,K9 hT hk h c hc hb,?_,λj b hj _=>?_,by omega⟩
  .rw[show h++[eV.row c,eV.row c]=(h++[eV.row c])++[eV.row c] by simp,Zf (by simp)];simp
  .have:=(Za.1 hj).1;rw[Zd this];exact hj
 .have vj:cq.flatten.length=cq.length*sz:=e9 cq hr;have yF:(cq.length+1)*bytes<=140737488355328:=by
   have:=Nat.mul_le_mul (show cq.length+1<=1000000001 by omega) hb;omega
  refine⟨_,_,Vz hT hk h c cq.flatten id cq.length ej hc vj ik (by omega) yF,?_,λj b hj hjk=>?_,by omega⟩
  .rw[Zf (by simp)];simp
  .have lD:=(Za.1 hj).1;have Cc:j≠id:=hjk id _ rfl;rw[Zd (by simp;omega),Zq (λe=>Cc e.symm),Zd lD];exact hj
def Ab{h:Hp}{sz:Nat}{cq:List LA}{c:LA}{id:Nat}(ej:h[id]?=some (.row (cq++[c]).flatten)):ka h sz (cq++[c]) (.sl id sz 0 (cq.length+1) false):=
 .inr ⟨by simp,id,by simp,ej⟩
def eH(sz:Nat)(cq:List LA):AV:=if cq.isEmpty then .sc (.slice none 0 0)else .ls sz cq false
def mc(sz:Nat)(cq:List LA):calm (eH sz cq)=true:=by unfold eH;split<;>rfl
def uy{sz:Nat}(ik:0<sz):∀(cq:List LA),(∀r∈cq,r.length=sz)->(List.range cq.length).map (λi=>(cq.flatten.drop (i*sz)).take sz)=cq
 | [],_=>rfl
 |
  r::cq,h=>by
  have hr:=h r (by simp);have ih:=uy ik cq λx hx=>h x (by simp[hx])
  rw[Ys,List.range_succ_eq_map,Yn,List.map_map]
  congr 1
  .simp[<-hr]
  .refine Eq.trans (List.map_congr_left λi _=>?_) ih;simp only[Function.comp_apply,List.flatten_cons,Nat.succ_eq_add_one,Xh,Nat.one_mul];rw[Nat.add_comm,<-List.drop_drop,<-hr,List.drop_left]
def l6 :AV->Bool
 | .sc _| .ls .. | .rp .. =>true
 |_=>false
@[simp] def aeV(v:Value):l6 (.sc v)=true:=rfl
@[simp] def aff(sz:Nat)(cq:List LA)(z:Bool):l6 (.ls sz cq z)=true:=rfl
def Jw{h:Hp}{n:Nat}{x:AV}(hx:l6 x=true):da h n x=some x:=by
 cases x<;>simp[l6]at hx<;>simp[da]
def Ac{h:Hp}{n:Nat}:∀{xs:LA},xs.all l6=true->xs.mapM (da h n)=some xs
 | [],_=>rfl
 |
  x::xs,hx=>by
  rw[Zn,Zh]at hx;rw[Zo,Jw hx.1,Ac hx.2];rfl
def CQ{h:Hp}{n id sz:Nat}{cq:List LA}{cs:LA}(ik:0<sz)(hr:∀r∈cq,r.length=sz)(hc:cq.flatten.all l6=true)(ej:gu h id=some cs)(htk:cs.take (cq.length*sz)=cq.flatten)(cP:cq.length*sz<=cs.length):da h (n+1) (.sl id sz 0 cq.length false)=some (.ls sz cq false):=by
 simp only[da,ej,Xk,Yd,cw cP,htk,Ac hc,Yw,uy ik cq hr]
def gf{h:Hp}{n sz:Nat}{cq:List LA}{x:AV}(ik:0<sz)(hr:∀r∈cq,r.length=sz)(hc:cq.flatten.all l6=true)(hx:ka h sz cq x):da h (n+1) x=some (eH sz cq):=by
 rcases hx with⟨rfl,rfl⟩|⟨gE,id,rfl,ej⟩
 .rfl
 .have vj:cq.flatten.length=cq.length*sz:=e9 cq hr;rw[CQ ik hr hc (CR ej) (by rw[Yy (by omega)]) (by omega)];unfold eH;cases cq with
  |nil=>exact absurd rfl gE
  |cons r cq=>rfl
def kT(sz:Nat)(cq:List LA):wZ sz (eH sz cq)= .ls sz cq false:=by
 unfold eH;cases cq with
 |nil=>rfl
 |cons r cq=>simp[wZ]
def nW{cq:List LA}(h:∀r∈cq,r.all l6=true):cq.flatten.all l6=true:=by
 induction cq with
 |nil=>rfl
 |cons r cq ih=>rw[List.flatten_cons,List.all_append,h r (by simp),ih λx hx=>h x (by simp[hx])];rfl
def g_(l:List ByteArray):(∀r∈eE l,r.length=1)/\(eE l).flatten.all l6=true:=
 ⟨λr hr=>by obtain⟨c,_,rfl⟩:=Yf.1 hr;rfl,nW λr hr=>by obtain⟨c,_,rfl⟩:=Yf.1 hr;rfl⟩
@[simp] def adb(c:Pn)(h:0< (Jv c).length):(Jv c)[0]'h=c.key:=rfl
attribute [local simp] MT
def rV(l:List Pn)(x:ByteArray)(v:V):List Pn:=agG (ltR x) (eqR x) ⟨x,v⟩ (!adw v) l
def bn :Bool->Nat
 |true=>0
 |false=>1
inductive Tg where
 |none
 |box
 |nodes
 |cE
 |ZN (n:Int)
 |prop (n:Int)
 |adx (n:Int)
def Jx(h:Hp)(tag:Nat->Tg)(tg:Tg)(sz:Nat)(cq:List LA)(x:AV):Prop:=
 (cq=[]/\(x= .ls sz [] true\/x=()))\/∃id cs,x= .sl id sz 0 cq.length false/\h[id]?=some (.row cs)/\cs.take (cq.length*sz)=cq.flatten/\cq.length*sz<=cs.length/\tag id=tg
def agH(h:Hp)(tag:Nat->Tg)(n:Nd)(row:LA):Prop:=∃L P,row=[.sc (.int .i64 n.id),L,P]/\Jx h tag (.ZN n.id) 1 (eE n.labels) L/\Jx h tag (.prop n.id) 6 (prR n.props) P
def agI(h:Hp)(tag:Nat->Tg)(e:Ed)(row:LA):Prop:=∃P,row=[.sc (.int .i64 e.id),.sc (.int .i64 e.src),.sc (.int .i64 e.dst),.sc (.string e.type),P]/\Jx h tag (.adx e.id) 6 (prR e.props) P
def QE{α:Type}(R:α->LA->Prop)(l:List α)(cq:List LA):Prop:=cq.length=l.length/\∀(i:Nat)(a:α)(r:LA),l[i]?=some a->cq[i]?=some r->R a r
structure RepG (h:Hp)(tag:Nat->Tg)(E:Nat)(g:Gr)(N V:AV)(ZO ZP:List LA):Prop where
 box:h[E]?=some (.row [N,V,g.nn,g.ne])
 tb:tag E= .box
 ns:Jx h tag .nodes 3 ZO N
 es:Jx h tag .cE 5 ZP V
 na:QE (agH h tag) g.nodes ZO
 ea:QE (agI h tag) g.cE ZP
def UO(h:Hp)(tag:Nat->Tg)(h':Hp)(agJ:Nat->Tg)(S:Tg->Prop):Prop:=∀id b,h[id]?=some b->¬S (tag id)->h'[id]?=some b/\agJ id=tag id
def QE.imp{α:Type}{R R':α->LA->Prop}{l:List α}{cq:List LA}(h:QE R l cq)(k:∀a∈l,∀r,R a r->R' a r):QE R' l cq:=
 ⟨h.1,λi a r ha hr=>k a (Zi ha) r (h.2 i a r ha hr)⟩
def UO.refl(h:Hp)(tag:Nat->Tg)(S:Tg->Prop):UO h tag h tag S:=λ_ _ h1 _=>⟨h1,rfl⟩
def UO.trans{h h1 h2:Hp}{t t1 t2:Nat->Tg}{S S1 S2:Tg->Prop}(a:UO h t h1 t1 S)(b:UO h1 t1 h2 t2 S1)(k:∀x,S x->S2 x)(k1:∀x,S1 x->S2 x):UO h t h2 t2 S2:=λid bl h0 hs=>by
 obtain⟨e1,e2⟩:=a id bl h0 (λq=>hs (k _ q));obtain⟨e3,e4⟩:=b id bl e1 (λq=>hs (by rw[e2]at q;exact k1 _ q));exact⟨e3,e4.trans e2⟩
def ady(tag:Nat->Tg)(i:Nat)(t:Tg):Nat->Tg:=λj=>if j=i then t else tag j
def UO.push(h:Hp)(tag:Nat->Tg)(b:eV)(t:Tg)(S:Tg->Prop):UO h tag (h++[b]) (ady tag h.length t) S:=λid bl h1 _=>by
 have hl:=(Za.1 h1).1;exact⟨by rw[Zd hl];exact h1,by unfold ady;rw[cv (by omega)]⟩
def UO.set(h:Hp)(tag:Nat->Tg)(i:Nat)(b:eV){S:Tg->Prop}(hs:S (tag i)):UO h tag (h.set i b) tag S:=λid bl h1 k=>by
 have:i≠id:=λe=>k (e▸hs)
 exact⟨by rw[Zq this];exact h1,rfl⟩
def Jx.da{h:Hp}{tag:Nat->Tg}{tg:Tg}{sz n:Nat}{cq rows':List LA}{x:AV}(ik:0<sz)(hr:∀r∈rows',r.length=sz)(ho:Jx h tag tg sz cq x)(hl:rows'.length=cq.length)(hm:cq.flatten.mapM (da h n)=some rows'.flatten):
 ∃y,da h (n+1) x=some y/\wZ sz y= .ls sz rows' false:=by
 rcases ho with⟨rfl,rfl|rfl⟩|⟨id,cs,rfl,h1,h2,h3,h4⟩
 .have:rows'=[]:=Zl (by simpa using hl);subst this;exact⟨_,rfl,by simp[wZ]⟩
 .have:rows'=[]:=Zl (by simpa using hl);subst this;exact⟨_,rfl,by simp[wZ]⟩
 .refine⟨.ls sz rows' false,?_,by simp[wZ]⟩;simp only[Ae.da,CR h1,Xk,Yd,cw h3,h2,hm,Yw];rw[<-hl,uy ik rows' hr]
def VB(x:Int):Int:=if x=0 then 0 else if x=2 then 2 else 1
def agK(x y:Int):Int:=if VB y<VB x then VB y else VB x
mutual
def eqV :V->V->Int
 |
  .mk k n d s z l,w=>
  if k=0\/w.k=0\/k_ (.mk k n d s z l)=false\/k_ w=false then 1
  else if um (.mk k n d s z l)=true/\um w=true then I8 (decide (wW (pG (.mk k n d s z l)) (pH (.mk k n d s z l)) (pG w) (pH w)=0))
  else if¬k=w.k then 0
  else if k=4 then I8 (dn s w.s)
  else if¬k=8/\¬k=7 then I8 (decide (n=w.n))
  else if¬l.length=w.l.length then 0 else eqL l w.l 2
def eqL :List V->List V->Int->Int
 | [],_,a=>a
 |
  x::xs,m,a=>match m with
  | []=>a
  |y::ys=>eqL xs ys (agK a (eqV x y))
end
def VD(v:V):calm (.ag (enc v))=true:=by
 cases v;rw[enc];unfold zT;rename_i z l;cases (z && (fj l).isEmpty)<;>rfl
end
end Go.Proofs.YtmocfjnklfpnbaaGreatDoor
namespace Go.Ae
def i64(n:Int):Prop:= -9223372036854775808<=n/\n<=9223372036854775807
end Go.Ae
namespace Go.Ae
open List
structure VE {α:Type}(cmp:α->α->Int):Prop where
 zero:∀a b,cmp a b=0↔a=b
 neg:∀a b,cmp a b<0↔0<cmp b a
 tr:∀a b c,cmp a b<0->cmp b c<0->cmp a c<0
def VF{α:Type}[DecidableEq α](add:Int->Int->Int):List (α × Int)->α->Int->List (α × Int)
 | [],r,n=> [(r,n)]
 |(s,m)::t,r,n=>if s=r then(s,add m n)::t else(s,m)::VF add t r n
variable {α : Type} {cmp : α -> α -> Int} {add : Int -> Int -> Int}
def Inc(cmp:α->α->Int)(l:List (α × Int)):Prop:=l.Pairwise λa b=>cmp a.1 b.1<0
def VE.irr(h:VE cmp)(a:α):¬cmp a a<0:=by have:=(h.zero a a).2 rfl;omega
def Inc.nodup(hc:VE cmp){l:List (α × Int)}(h:Inc cmp l):(l.map (·.1)).Nodup:=by
 rw[List.Nodup,List.pairwise_map];have g:∀{a b:α × Int},cmp a.1 b.1<0->a.1≠b.1:=λ{a b}q e=>hc.irr b.1 (by rw[e]at q;exact q)
 exact List.Pairwise.imp g h
def Inc.le(hc:VE cmp){l:List (α × Int)}(h:Inc cmp l):l.Pairwise λa b=>¬cmp b.1 a.1<0:=by
 have g:∀{a b:α × Int},cmp a.1 b.1<0->¬cmp b.1 a.1<0:=λ{a b}q k=>hc.irr a.1 (hc.tr _ _ _ q k)
 exact List.Pairwise.imp g h
end Go.Ae
namespace Go.Proofs.YtmocfjnklfpnbaaGreatDoor
open Go Go.Ae Go.Proofs.Tryz
mutual
def CT :V->Prop
 | .mk k n d s z l=>i64 k/\i64 n/\i64 d/\s.size<=1000000000000000/\l.length<=1000000000000000/\z=false/\ZQ l
def ZQ :List V->Prop
 | []=>True
 |x::xs=>CT x/\ZQ xs
end
def K_ :∀{l:List V},ZQ l->∀x∈l,CT x
 | [],_,_,h=>by cases h
 |
  y::l,h,x,hx=>by
  rw[ZQ]at h;rcases Yv.1 hx with rfl|e
  .exact h.1
  .exact K_ h.2 x e
def MU :∀D,(∀v:V,kj v<=D->CT v->oK v):=by
 intro D
 induction D with
 |zero=>intro v h;have:=qq v;omega
 |succ D ih=>
  intro v hd hg;cases v with
  |mk k n d s z l=>
   rw[CT]at hg;rw[oK];refine⟨hg.2.2.2.1,hg.2.2.2.2.1,?_⟩;have hm:=K_ hg.2.2.2.2.2.2;have:∀m:List V,(∀x∈m,kj x<=D)->(∀x∈m,CT x)->bdL m:=by
    intro m
    induction m with
    |nil=>intro _ _;rw[bdL];trivial
    |cons x m ihm=>intro h1 h2;rw[bdL];exact⟨ih x (h1 x (by simp)) (h2 x (by simp)),ihm (λy hy=>h1 y (Yr _ hy)) λy hy=>h2 y (Yr _ hy)⟩
   exact this l (λx hx=>by have:=vw hx;rw[kj]at hd;omega) hm
def Ad{v:V}(h:CT v):oK v:=MU _ v (Yq _) h
abbrev Rw :={l:List V//ZQ l}
noncomputable instance : DecidableEq Rw:=λa b=>Classical.propDecidable (a=b)
@[simp] def akp :cx.T 43=some {size:=9,agg:=true,zero:=[.int .i64 (0),.int .i64 (0),.int .i64 (0),.int .i64 (0),.string ⟨#[]⟩,.slice none 0 0,.string ⟨#[]⟩,.bool false,.slice none 0 0],kd:= .struct [(0,1,false),(1,5,true),(6,1,false),(7,1,false),(8,1,false)]}:=by kernel_rfl
@[simp] def aa5 :cx.T 41=some {size:=1,agg:=false,zero:=[.slice none 0 0],kd:= .slice 9 true 120 [.int .i64 (0),.int .i64 (0),.int .i64 (0),.int .i64 (0),.string ⟨#[]⟩,.slice none 0 0,.string ⟨#[]⟩,.bool false,.slice none 0 0]}:=by kernel_rfl
@[simp] def ajM :j9 cx 41=true:=by kernel_rfl
@[simp] def akk :cx.T 51=some {size:=10,agg:=true,zero:=[.string ⟨#[]⟩,.int .i64 (0),.int .i64 (0),.int .i64 (0),.int .i64 (0),.string ⟨#[]⟩,.slice none 0 0,.string ⟨#[]⟩,.bool false,.slice none 0 0],kd:= .struct [(0,1,false),(1,9,true)]}:=by kernel_rfl
@[simp] def Ej :cx.T 52=some {size:=1,agg:=false,zero:=[.slice none 0 0],kd:= .slice 10 true 136 [.string ⟨#[]⟩,.int .i64 (0),.int .i64 (0),.int .i64 (0),.int .i64 (0),.string ⟨#[]⟩,.slice none 0 0,.string ⟨#[]⟩,.bool false,.slice none 0 0]}:=by kernel_rfl
@[simp] def ajL :j9 cx 52=true:=by kernel_rfl
@[simp] def akx :cx.T 54=some {size:=3,agg:=true,zero:=[.string ⟨#[]⟩,.slice none 0 0,.slice none 0 0],kd:= .struct [(0,1,false),(1,1,false),(2,1,false)]}:=by kernel_rfl
@[simp] def akg :cx.T 55=some {size:=1,agg:=false,zero:=[.slice none 0 0],kd:= .slice 3 true 64 [.string ⟨#[]⟩,.slice none 0 0,.slice none 0 0]}:=by kernel_rfl
@[simp] def aj4 :j9 cx 55=true:=by kernel_rfl
@[simp] def aks :cx.T 57=some {size:=7,agg:=true,zero:=[.string ⟨#[]⟩,.slice none 0 0,.int .i64 (0),.int .i64 (0),.int .i64 (0),.int .i64 (0),.slice none 0 0],kd:= .struct [(0,1,false),(1,1,false),(2,1,false),(3,1,false),(4,1,false),(5,1,false),(6,1,false)]}:=by kernel_rfl
@[simp] def ajT :cx.T 58=some {size:=1,agg:=false,zero:=[.slice none 0 0],kd:= .slice 7 true 96 [.string ⟨#[]⟩,.slice none 0 0,.int .i64 (0),.int .i64 (0),.int .i64 (0),.int .i64 (0),.slice none 0 0]}:=by kernel_rfl
@[simp] def aj7 :j9 cx 58=true:=by kernel_rfl
@[simp] def akB :cx.T 60=some {size:=3,agg:=true,zero:=[.string ⟨#[]⟩,.slice none 0 0,.slice none 0 0],kd:= .struct [(0,1,false),(1,1,false),(2,1,false)]}:=by kernel_rfl
@[simp] def ajw :cx.T 40=some {size:=1,agg:=false,zero:=[.slice none 0 0],kd:= .slice 3 true 64 [.string ⟨#[]⟩,.slice none 0 0,.slice none 0 0]}:=by kernel_rfl
@[simp] def ajE :j9 cx 40=true:=by kernel_rfl
@[simp] def akl :cx.T 62=some {size:=10,agg:=true,zero:=[.int .i64 (0),.int .i64 (0),.int .i64 (0),.int .i64 (0),.string ⟨#[]⟩,.slice none 0 0,.string ⟨#[]⟩,.bool false,.slice none 0 0,.string ⟨#[]⟩],kd:= .struct [(0,9,true),(9,1,false)]}:=by kernel_rfl
@[simp] def ajG :cx.T 44=some {size:=1,agg:=false,zero:=[.slice none 0 0],kd:= .slice 10 true 136 [.int .i64 (0),.int .i64 (0),.int .i64 (0),.int .i64 (0),.string ⟨#[]⟩,.slice none 0 0,.string ⟨#[]⟩,.bool false,.slice none 0 0,.string ⟨#[]⟩]}:=by kernel_rfl
@[simp] def ajZ :j9 cx 44=true:=by kernel_rfl
@[simp] def akn :cx.T 94=some {size:=10,agg:=true,zero:=[.int .i64 (0),.int .i64 (0),.int .i64 (0),.int .i64 (0),.string ⟨#[]⟩,.slice none 0 0,.string ⟨#[]⟩,.bool false,.slice none 0 0,.bool false],kd:= .struct [(0,9,true),(9,1,false)]}:=by kernel_rfl
@[simp] def ajt :cx.T 45=some {size:=1,agg:=false,zero:=[.slice none 0 0],kd:= .slice 10 true 128 [.int .i64 (0),.int .i64 (0),.int .i64 (0),.int .i64 (0),.string ⟨#[]⟩,.slice none 0 0,.string ⟨#[]⟩,.bool false,.slice none 0 0,.bool false]}:=by kernel_rfl
@[simp] def aj0 :j9 cx 45=true:=by kernel_rfl
@[simp] def akH :cx.T 64=some {size:=13,agg:=true,zero:=[.string ⟨#[]⟩,.string ⟨#[]⟩,.string ⟨#[]⟩,.bool false,.int .i64 (0),.int .i64 (0),.int .i64 (0),.int .i64 (0),.string ⟨#[]⟩,.slice none 0 0,.string ⟨#[]⟩,.bool false,.slice none 0 0],kd:= .struct [(0,1,false),(1,1,false),(2,1,false),(3,1,false),(4,9,true)]}:=by kernel_rfl
@[simp] def akb :cx.T 46=some {size:=1,agg:=false,zero:=[.slice none 0 0],kd:= .slice 13 true 176 [.string ⟨#[]⟩,.string ⟨#[]⟩,.string ⟨#[]⟩,.bool false,.int .i64 (0),.int .i64 (0),.int .i64 (0),.int .i64 (0),.string ⟨#[]⟩,.slice none 0 0,.string ⟨#[]⟩,.bool false,.slice none 0 0]}:=by kernel_rfl
@[simp] def ajz :j9 cx 46=true:=by kernel_rfl
@[simp] def akC :cx.T 49=some {size:=21,agg:=true,zero:=[.int .i64 (0),.bool false,.bool false,.slice none 0 0,.slice none 0 0,.int .i64 (0),.int .i64 (0),.int .i64 (0),.int .i64 (0),.string ⟨#[]⟩,.slice none 0 0,.string ⟨#[]⟩,.bool false,.slice none 0 0,.string ⟨#[]⟩,.slice none 0 0,.slice none 0 0,.int .i64 (0),.int .i64 (0),.slice none 0 0,.slice none 0 0],kd:= .struct [(0,1,false),(1,1,false),(2,1,false),(3,1,false),(4,1,false),(5,9,true),(14,1,false),(15,1,false),(16,1,false),(17,1,false),(18,1,false),(19,1,false),(20,1,false)]}:=by kernel_rfl
@[simp] def aj2 :cx.T 22=some {size:=1,agg:=false,zero:=[.slice none 0 0],kd:= .slice 21 true 312 [.int .i64 (0),.bool false,.bool false,.slice none 0 0,.slice none 0 0,.int .i64 (0),.int .i64 (0),.int .i64 (0),.int .i64 (0),.string ⟨#[]⟩,.slice none 0 0,.string ⟨#[]⟩,.bool false,.slice none 0 0,.string ⟨#[]⟩,.slice none 0 0,.slice none 0 0,.int .i64 (0),.int .i64 (0),.slice none 0 0,.slice none 0 0]}:=by kernel_rfl
@[simp] def ajU :j9 cx 22=true:=by kernel_rfl
@[simp] def aki :cx.T 24=some {size:=1,agg:=true,zero:=[.slice none 0 0],kd:= .struct [(0,1,false)]}:=by kernel_rfl
@[simp] def akG :cx.T 115=some {size:=2,agg:=true,zero:=[.string ⟨#[]⟩,.int .i64 (0)],kd:= .struct [(0,1,false),(1,1,false)]}:=by kernel_rfl
@[simp] def Ek :cx.T 83=some {size:=1,agg:=false,zero:=[.slice none 0 0],kd:= .slice 2 true 24 [.string ⟨#[]⟩,.int .i64 (0)]}:=by kernel_rfl
@[simp] def ake :j9 cx 83=true:=by kernel_rfl
@[simp] def akA :cx.T 37=some {size:=8,agg:=true,zero:=[.int .i64 (0),.string ⟨#[]⟩,.string ⟨#[]⟩,.int .i64 (0),.int .i64 (0),.int .i64 (0),.string ⟨#[]⟩,.slice none 0 0],kd:= .struct [(0,1,false),(1,1,false),(2,1,false),(3,5,true)]}:=by kernel_rfl
@[simp] def El :cx.T 27=some {size:=1,agg:=false,zero:=[.slice none 0 0],kd:= .slice 8 true 104 [.int .i64 (0),.string ⟨#[]⟩,.string ⟨#[]⟩,.int .i64 (0),.int .i64 (0),.int .i64 (0),.string ⟨#[]⟩,.slice none 0 0]}:=by kernel_rfl
@[simp] def aj1 :j9 cx 27=true:=by kernel_rfl
inductive Ep where
 |mk (op:Int) (v:V) (nm:ByteArray) (ds:Bool) (ks:List Ep)
namespace Ep
def op :Ep->Int| .mk o _ _ _ _=>o
def v :Ep->V| .mk _ v _ _ _=>v
def nm :Ep->ByteArray| .mk _ _ n _ _=>n
def ds :Ep->Bool| .mk _ _ _ d _=>d
def ks :Ep->List Ep| .mk _ _ _ _ l=>l
end Ep
mutual
def cM :Ep->LA
 | .mk o v n d l=> .sc (.int .i64 o)::(enc v++[.sc (.string n),.sc (.bool d),.ls 9 (cZ l) false])
def cZ :List Ep->List LA
 | []=> []
 |x::xs=>cM x::cZ xs
end
mutual
def lE :Ep->Nat
 | .mk _ _ _ _ l=>Af l+1
def Af :List Ep->Nat
 | []=>0
 |x::xs=>max (lE x) (Af xs)
end
mutual
def ke(D:Nat):Ep->Prop
 | .mk _ v n _ l=>(kj v<=D/\CT v)/\n.size<=1000000000000000/\l.length<=1000000000000000/\w9 D l
def w9(D:Nat):List Ep->Prop
 | []=>True
 |x::xs=>ke D x/\w9 D xs
end
def jU(e:Ep):1<=lE e:=by cases e;rw[lE];omega
def F8{e:Ep}:∀{l:List Ep},e∈l->lE e<=Af l
 |
  x::xs,h=>by
  rw[Af];rcases Yv.1 h with rfl|h
  .omega
  .have:=F8 h;omega
def La{D:Nat}{e:Ep}:∀{l:List Ep},w9 D l->e∈l->ke D e
 |
  x::xs,hb,h=>by
  rw[w9]at hb;rcases Yv.1 h with rfl|h
  .exact hb.1
  .exact La hb.2 h
def cX :∀l:List Ep,(cZ l).length=l.length
 | []=>by rw[cZ];rfl
 |x::xs=>by rw[cZ,Ys,Ys,cX xs]
def eM :∀(l:List Ep)(i:Nat),(cZ l)[i]?=(l[i]?).map cM
 | [],i=>by simp[cZ]
 |x::xs,0=>by simp[cZ]
 |x::xs,i+1=>by simp[cZ,eM xs i]
def cB(e:Ep):(cM e).length=9:=by
 cases e;rw[cM];simp[jN]
def nC :∀l:List Ep,l.map cM=cZ l
 | []=>by simp[cZ]
 |x::l=>by rw[Yn,nC l,cZ]
def kU{n:Nat}{e k:Ep}(h:lE e<=n+1)(hk:k∈e.ks):lE k<=n:=by
 cases e;rw[lE]at h;have:=F8 hk;simp only[Ep.ks]at *;omega
def mQ{D:Nat}{e k:Ep}(h:ke D e)(hk:k∈e.ks):ke D k:=by
 cases e;rw[ke]at h;exact La h.2.2.2 hk
section
attribute [local simp] ew eY
def mN(x:ByteArray):Int × Int:=if dn x ⟨#[105,100]⟩then(1,1)else if dn x ⟨#[116,121,112,101]⟩then(1,1)else if dn x ⟨#[108,97,98,101,108,115]⟩then(1,1)else if dn x ⟨#[115,105,122,101]⟩then(1,1)else if dn x ⟨#[108,101,110,103,116,104]⟩then(1,1)else if dn x ⟨#[110,111,100,101,115]⟩then(1,1)else if dn x ⟨#[101,100,103,101,115]⟩then(1,1)else if dn x ⟨#[102,105,114,115,116]⟩then(1,1)else if dn x ⟨#[108,97,115,116]⟩then(1,1)else if dn x ⟨#[115,116,97,114,116]⟩then(1,1)else if dn x ⟨#[101,110,100]⟩then(1,1)else if dn x ⟨#[97,98,115]⟩then(1,1)else if dn x ⟨#[116,101,120,116]⟩then(1,1)else if dn x ⟨#[99,111,97,108,101,115,99,101]⟩then(2,4)else(0,0)
def Em(x:ByteArray):Bool:=dn x ⟨#[99,111,117,110,116]⟩||dn x ⟨#[115,117,109]⟩||dn x ⟨#[109,105,110]⟩||dn x ⟨#[109,97,120]⟩||dn x ⟨#[97,118,103]⟩||dn x ⟨#[99,111,108,108,101,99,116]⟩
def F9(n:Nat)(b:Bool)(x:ByteArray)(h:Hp):cu cx (n+1) b 298 [x] h=some (.tp [.sc (.int .i64 (mN x).1),.sc (.int .i64 (mN x).2)],h):=by
 refine tA (xs:=[.sc (.int .i64 (mN x).1),.sc (.int .i64 (mN x).2)]) f298 [.tmp 2,.tmp 3] rfl rfl ?_ b h;by_cases h0:dn x ⟨#[105,100]⟩=true
 .simp[f298,mN,h0]
 simp only[Xs]at h0;by_cases h1:dn x ⟨#[116,121,112,101]⟩=true
 .simp[f298,mN,h0,h1]
 simp only[Xs]at h1;by_cases h2:dn x ⟨#[108,97,98,101,108,115]⟩=true
 .simp[f298,mN,h0,h1,h2]
 simp only[Xs]at h2;by_cases h3:dn x ⟨#[115,105,122,101]⟩=true
 .simp[f298,mN,h0,h1,h2,h3]
 simp only[Xs]at h3;by_cases h4:dn x ⟨#[108,101,110,103,116,104]⟩=true
 .simp[f298,mN,h0,h1,h2,h3,h4]
 simp only[Xs]at h4;by_cases h5:dn x ⟨#[110,111,100,101,115]⟩=true
 .simp[f298,mN,h0,h1,h2,h3,h4,h5]
 simp only[Xs]at h5;by_cases h6:dn x ⟨#[101,100,103,101,115]⟩=true
 .simp[f298,mN,h0,h1,h2,h3,h4,h5,h6]
 simp only[Xs]at h6;by_cases h7:dn x ⟨#[102,105,114,115,116]⟩=true
 .simp[f298,mN,h0,h1,h2,h3,h4,h5,h6,h7]
 simp only[Xs]at h7;by_cases h8:dn x ⟨#[108,97,115,116]⟩=true
 .simp[f298,mN,h0,h1,h2,h3,h4,h5,h6,h7,h8]
 simp only[Xs]at h8;by_cases h9:dn x ⟨#[115,116,97,114,116]⟩=true
 .simp[f298,mN,h0,h1,h2,h3,h4,h5,h6,h7,h8,h9]
 simp only[Xs]at h9;by_cases jv:dn x ⟨#[101,110,100]⟩=true
 .simp[f298,mN,h0,h1,h2,h3,h4,h5,h6,h7,h8,h9,jv]
 simp only[Xs]at jv;by_cases uu:dn x ⟨#[97,98,115]⟩=true
 .simp[f298,mN,h0,h1,h2,h3,h4,h5,h6,h7,h8,h9,jv,uu]
 simp only[Xs]at uu;by_cases sX:dn x ⟨#[116,101,120,116]⟩=true
 .simp[f298,mN,h0,h1,h2,h3,h4,h5,h6,h7,h8,h9,jv,uu,sX]
 simp only[Xs]at sX;by_cases tW:dn x ⟨#[99,111,97,108,101,115,99,101]⟩=true
 .simp[f298,mN,h0,h1,h2,h3,h4,h5,h6,h7,h8,h9,jv,uu,sX,tW]
 simp only[Xs]at tW;simp[f298,mN,h0,h1,h2,h3,h4,h5,h6,h7,h8,h9,jv,uu,sX,tW]
def En(n:Nat)(b:Bool)(x:ByteArray)(h:Hp):cu cx (n+1) b 299 [x] h=some (.sc (.bool (Em x)),h):=by
 refine fU f299 [.tmp 2] rfl rfl ?_ b h;by_cases h0:dn x ⟨#[99,111,117,110,116]⟩=true
 .simp[f299,Em,h0]
 simp only[Xs]at h0;by_cases h1:dn x ⟨#[115,117,109]⟩=true
 .simp[f299,Em,h0,h1]
 simp only[Xs]at h1;by_cases h2:dn x ⟨#[109,105,110]⟩=true
 .simp[f299,Em,h0,h1,h2]
 simp only[Xs]at h2;by_cases h3:dn x ⟨#[109,97,120]⟩=true
 .simp[f299,Em,h0,h1,h2,h3]
 simp only[Xs]at h3;by_cases h4:dn x ⟨#[97,118,103]⟩=true
 .simp[f299,Em,h0,h1,h2,h3,h4]
 simp only[Xs]at h4;by_cases h5:dn x ⟨#[99,111,108,108,101,99,116]⟩=true
 .simp[f299,Em,h0,h1,h2,h3,h4,h5]
 simp only[Xs]at h5;simp[f299,Em,h0,h1,h2,h3,h4,h5]
def CU(n:Nat)(b:Bool)(x:ByteArray)(h:Hp):cu cx (n+1) b 327 [x] h=some (.tp [.sc (.int .i64 (mN x).1),.sc (.int .i64 (mN x).2)],h):=by
 refine tA (xs:=[.sc (.int .i64 (mN x).1),.sc (.int .i64 (mN x).2)]) f327 [.tmp 2,.tmp 3] rfl rfl ?_ b h;by_cases h0:dn x ⟨#[105,100]⟩=true
 .simp[f327,mN,h0]
 simp only[Xs]at h0;by_cases h1:dn x ⟨#[116,121,112,101]⟩=true
 .simp[f327,mN,h0,h1]
 simp only[Xs]at h1;by_cases h2:dn x ⟨#[108,97,98,101,108,115]⟩=true
 .simp[f327,mN,h0,h1,h2]
 simp only[Xs]at h2;by_cases h3:dn x ⟨#[115,105,122,101]⟩=true
 .simp[f327,mN,h0,h1,h2,h3]
 simp only[Xs]at h3;by_cases h4:dn x ⟨#[108,101,110,103,116,104]⟩=true
 .simp[f327,mN,h0,h1,h2,h3,h4]
 simp only[Xs]at h4;by_cases h5:dn x ⟨#[110,111,100,101,115]⟩=true
 .simp[f327,mN,h0,h1,h2,h3,h4,h5]
 simp only[Xs]at h5;by_cases h6:dn x ⟨#[101,100,103,101,115]⟩=true
 .simp[f327,mN,h0,h1,h2,h3,h4,h5,h6]
 simp only[Xs]at h6;by_cases h7:dn x ⟨#[102,105,114,115,116]⟩=true
 .simp[f327,mN,h0,h1,h2,h3,h4,h5,h6,h7]
 simp only[Xs]at h7;by_cases h8:dn x ⟨#[108,97,115,116]⟩=true
 .simp[f327,mN,h0,h1,h2,h3,h4,h5,h6,h7,h8]
 simp only[Xs]at h8;by_cases h9:dn x ⟨#[115,116,97,114,116]⟩=true
 .simp[f327,mN,h0,h1,h2,h3,h4,h5,h6,h7,h8,h9]
 simp only[Xs]at h9;by_cases jv:dn x ⟨#[101,110,100]⟩=true
 .simp[f327,mN,h0,h1,h2,h3,h4,h5,h6,h7,h8,h9,jv]
 simp only[Xs]at jv;by_cases uu:dn x ⟨#[97,98,115]⟩=true
 .simp[f327,mN,h0,h1,h2,h3,h4,h5,h6,h7,h8,h9,jv,uu]
 simp only[Xs]at uu;by_cases sX:dn x ⟨#[116,101,120,116]⟩=true
 .simp[f327,mN,h0,h1,h2,h3,h4,h5,h6,h7,h8,h9,jv,uu,sX]
 simp only[Xs]at sX;by_cases tW:dn x ⟨#[99,111,97,108,101,115,99,101]⟩=true
 .simp[f327,mN,h0,h1,h2,h3,h4,h5,h6,h7,h8,h9,jv,uu,sX,tW]
 simp only[Xs]at tW;simp[f327,mN,h0,h1,h2,h3,h4,h5,h6,h7,h8,h9,jv,uu,sX,tW]
def Cd(n:Nat)(b:Bool)(x:ByteArray)(h:Hp):cu cx (n+1) b 326 [x] h=some (.sc (.bool (Em x)),h):=by
 refine fU f326 [.tmp 2] rfl rfl ?_ b h;by_cases h0:dn x ⟨#[99,111,117,110,116]⟩=true
 .simp[f326,Em,h0]
 simp only[Xs]at h0;by_cases h1:dn x ⟨#[115,117,109]⟩=true
 .simp[f326,Em,h0,h1]
 simp only[Xs]at h1;by_cases h2:dn x ⟨#[109,105,110]⟩=true
 .simp[f326,Em,h0,h1,h2]
 simp only[Xs]at h2;by_cases h3:dn x ⟨#[109,97,120]⟩=true
 .simp[f326,Em,h0,h1,h2,h3]
 simp only[Xs]at h3;by_cases h4:dn x ⟨#[97,118,103]⟩=true
 .simp[f326,Em,h0,h1,h2,h3,h4]
 simp only[Xs]at h4;by_cases h5:dn x ⟨#[99,111,108,108,101,99,116]⟩=true
 .simp[f326,Em,h0,h1,h2,h3,h4,h5]
 simp only[Xs]at h5;simp[f326,Em,h0,h1,h2,h3,h4,h5]
end
end Go.Proofs.YtmocfjnklfpnbaaGreatDoor
