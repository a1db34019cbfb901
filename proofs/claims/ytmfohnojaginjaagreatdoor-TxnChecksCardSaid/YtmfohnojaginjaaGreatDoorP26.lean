/- Part of the proof. -/
import Derived.Test.YtmfohnojaginjaaGreatDoorP25
set_option linter.all false
set_option maxHeartbeats 16000000
set_option maxRecDepth 100000
namespace Go.Proofs.YtmfohnojaginjaaGreatDoor
open Go Go.Ae Go.Proofs.Tryz
section
attribute [local simp] cn eD
def PU(n:Nat)(b z:Bool)(k m d:Int)(s:ByteArray)(h:Hp):ch cx (n+2) b 370 [.ls 5 [[.sc (.int .i64 k),.sc (.int .i64 m),.sc (.int .i64 d),.sc (.string s),.ls 5 [] false]] z] h=some (.ls 5 [[.sc (.int .i64 k),.sc (.int .i64 m),.sc (.int .i64 d),.sc (.string s),.ls 5 [] false]] false,h):=by kernel_rfl
def PlP(l:List fZ):Prop:=∀p∈l,p.v.l=[]/\p.v.isNil=false
def Nc(l:List fZ):∀r∈d_ l,r.length=6:=λr hr=>by
 obtain⟨c,_,rfl⟩:=Yk.1 hr;simp[fK,dB]
def PV(l:List fZ):(d_ l).flatten.all eu=true:=by
 rw[Yt];intro x hx;obtain⟨r,hr,hx⟩:=List.mem_flatten.1 hx;obtain⟨c,_,rfl⟩:=Yk.1 hr;rcases Yw.1 hx with rfl|hx
 .rfl
 .obtain⟨ky,v⟩:=c;obtain⟨k,n,d,s,z,l⟩:=v;simp only[enc,Yw,Qf,or_false]at hx;rcases hx with rfl|rfl|rfl|rfl|rfl<;>first|rfl|(unfold po;cases (z && (ef l).isEmpty)<;>rfl)
def PW(n:Nat)(b:Bool)(l:List fZ)(z:Bool)(h:Hp)(hl:l.length<=10^6)(hp:PlP l):
 ch cx (n+3) b 244 [eU l z] h=some (eU l false,h):=by
 refine kcA f244 [.tmp 2] rfl ?_ b h;have fc:=λbb z k m d s h=>PU n bb z k m d s h
 generalize n+2=M at fc|-;have hq:=cP l;have jc:=lT l;unfold eU;generalize hrw:d_ l=cg at hq jc|-;simp[f244];generalize gU:M (.loop _) _=XX;refine pU gU
  (λi s dn=>s.length=30/\gt s 0= .ls 6 cg z/\gt s 4=i/\∃y,gt s 3=y/\gz dn 6 (d_ (l.take i)) y)
  (λo s dn=>o= .exit 0/\s.length=30/\∃y,gt s 3=y/\gz dn 6 (d_ l) y) l.length (by simp;omega) ⟨by simp,by simp,by simp,_,rfl,.inl ⟨rfl,by simp⟩⟩ ?_ ?_
 .clear gU XX;rintro i fr MX da ⟨cf,g0,g4,y,g3,hB⟩;rcases jr jc da with⟨c,hi,hx,hr,cz⟩|rfl
  .obtain⟨z_,vB⟩:=hp c (Zi hx);have hf:=cG (i:=i) (by omega);obtain⟨j,h2,b1,b2,b3,b4⟩:=xF (t:=49) nI rfl MX (fK c) true (d_ (l.take i)) y hB (by simp[fK,dB]) (Nc _) (by omega) (by rw[cP,Xf];omega) (by omega);have zd:(d_ (l.take i)).length=i:=by rw[cP,Xf];omega
   have sS:d_ (l.take i)++[fK c]=d_ (l.take (i+1)):=by rw[jk hx];simp[d_]
   have q1:=λops d rest fr h=>npR (λv=>hB.np v) (ch cx M false) ops d rest fr h
   have nQ:=hB.cls;rw[zd]at b1;rw[sS]at b2;obtain⟨ky,k,m,d,s,zz,ll⟩:=c;simp only[V.l,V.isNil]at z_ vB;subst z_;subst vB;simp only[fK,enc,po,ef,Qc,Xi,cond_false]at b1 hr cz;simp[cf,g0,g3,g4,hi,hq,cz,hf,fc,q1,b1,oh,chunk,dk];exact .inr ⟨by rw[<-sS];simp,j,by rw[cP,Xf,Nat.min_eq_left hi],b2⟩
  .simp[cf,g0,g4,hq];rw[Xx]at hB;rw[g3];exact hB
 .rintro o gO MX rfl ⟨rfl,cf,y,g3,hB⟩;have q1:=λops d rest fr h=>tZ (λv=>hB.np v) (ch cx M true) ops d rest fr h
  have nQ:=hB.cls;have hs:=fJ (n:=7) (by omega) (Nc l) (PV l) hB;simp[cf,g3,q1];exact gq ⟨_,hs,by rw[<-hrw];exact Aq 6 _⟩
def ja(l:List fZ)(k:ByteArray):Option V:=match l with
 | []=>none
 |c::l=>if fm c.key k=true then some c.v else ja l k
def IK(o:Option V):LA:=enc (o.getD zeroV)
def IL(o:Option V)(b:Bool):[AV.ag (IK o),.sc (.bool b)].all dk=true:=by
 cases o with
 |none=>rfl
 |some v=>
  obtain⟨k,n,d,s,z,l⟩:=v;simp only[IK,Xm,enc,Zn,dk,List.all_nil,Bool.and_true,Xd];unfold po;cases (z && (ef l).isEmpty)<;>rfl
def Nf(l:List fZ)(z:Bool)(x:ByteArray):[eU l z,.sc (.string x)].all dk=true:=rfl
def BV(v:V):(enc v).take 5=enc v:=by rw[Xa (by rw[dB];omega)]
def mE :enc zeroV=[.sc (.int .i64 0),.sc (.int .i64 0),.sc (.int .i64 0),.sc (.string ⟨#[]⟩),.sc (.slice none 0 0)]:=rfl
def Ng(n:Nat)(b:Bool)(l:List fZ)(z:Bool)(x:ByteArray)(h:Hp)(hl:l.length<=10^6):
 ch cx (n+1) b 256 [eU l z,x] h=some (.tp [.ag (IK (ja l x)),.sc (.bool (ja l x).isSome)],h):=by
 refine tA (xs:=[.ag (IK (ja l x)),.sc (.bool (ja l x).isSome)]) f256 [.cell 4 5 true,.tmp 5] (Nf _ _ _) (by exact IL _ _) ?_ b h;have hq:=cP l;have hg:=lT l;unfold eU;generalize d_ l=cg at hq hg;generalize hT:ja l x=T;simp[f256];generalize gU:n (.loop _) _=XX;refine pU gU
  (λi s dn=>ja (l.drop i) x=T/\s.length=22/\gt s 1=x/\gt s 4= .pt 0 0/\gt s 8= .ls 6 cg z/\gt s 9=l.length/\gt s 10=i/\At dn 0 (.row (enc zeroV)))
  (λo s dn=>s.length=22/\gt s 4= .pt 0 0/\((o= .exit 0/\T=none/\At dn 0 (.row (enc zeroV)))\/(o= .ret/\∃v,T=some v/\gt s 5=true/\At dn 0 (.row (enc v))))) l.length (by simp;omega) ⟨hT,by simp,by simp,by simp,by simp,by simp[hq],by simp,rfl⟩ ?_ ?_
 .clear gU XX hT;rintro i fr hp da ⟨ho,cf,g1,g4,g8,g9,g10,db⟩;rcases jr hg da with⟨c,hi,hx,hr,cz⟩|rfl
  .have uV:∀y,(hp++y)[0]?=some (.row (enc zeroV)):=λy=>(db.app y).fh
   have aq:∀y k,(hp++y)[0]'k= .row (enc zeroV):=λy k=>(db.app y).get k
   have an:∀y,(hp++[y])[hp.length]?=some y:=λy=>by simp
   have hf:=cG (i:=i) (by omega);rw[jd hx,ja]at ho;have ni:(enc c.v).length=5:=dB c.v;have hez:(enc zeroV).length=5:=rfl;have hed:∀k,(enc zeroV).drop (5+k)=[]:=λk=>Zt (by rw[hez];omega)
   have vp:(fK c).length=6:=by simp[fK,dB]
   have hrt:(fK c).take 6=fK c:=by rw[Xa (by omega)]
   by_cases hk:fm c.key x=true
   .rw[cq hk]at ho;simp[cf,g1,g4,g8,g9,g10,hi,hq,cz,aq,hk,fK,ni,hez];refine⟨_,ho.symm,?_⟩;rw[show enc c.v++List.drop 5 (enc zeroV)=enc c.v by rw[Zt (by rw[hez];omega),Yr]];exact(db.app _).new _
   .rw[cm hk]at ho;have lk:fm c.key x=false:=by simpa using hk
    simp[cf,g1,g4,g8,g9,g10,hi,hq,cz,lk,fK,ni,hf];exact⟨ho,db.app _⟩
  .rw[Yc,ja]at ho;simp[cf,g4,g9,g10,<-ho];exact db
 .rintro o gO hp rfl ⟨cf,g4,⟨rfl,rfl,db⟩|⟨rfl,v,rfl,g5,db⟩⟩
  .have a0:=db.fh;have s1:∀y,(hp.set 0 y)[0]?=some y:=λy=>(db.new y).fh
   rw[mE]at a0;simp[cf,g4,a0,s1,IK,mE]
  .have a0:=db.fh;have ni:(enc v).length=5:=dB v;simp[g4,g5,a0,IK,ni]
def Nh(n:Nat)(b:Bool)(l:List fZ)(z:Bool)(x:ByteArray)(h:Hp)(hl:l.length<=10^6):
 ch cx (n+1) b 265 [eU l z,x] h=some (.tp [.ag (IK (ja l x)),.sc (.bool (ja l x).isSome)],h):=by
 refine tA (xs:=[.ag (IK (ja l x)),.sc (.bool (ja l x).isSome)]) f265 [.cell 4 5 true,.tmp 5] (Nf _ _ _) (by exact IL _ _) ?_ b h;have hq:=cP l;have hg:=lT l;unfold eU;generalize d_ l=cg at hq hg;generalize hT:ja l x=T;simp[f265];generalize gU:n (.loop _) _=XX;refine pU gU
  (λi s dn=>ja (l.drop i) x=T/\s.length=26/\gt s 1=x/\gt s 4= .pt 0 0/\gt s 0= .ls 6 cg z/\gt s 6=i/\At dn 0 (.row (enc zeroV)))
  (λo s dn=>s.length=26/\gt s 4= .pt 0 0/\((o= .exit 0/\T=none/\At dn 0 (.row (enc zeroV)))\/(o= .ret/\∃v,T=some v/\gt s 5=true/\At dn 0 (.row (enc v))))) l.length (by simp;omega) ⟨hT,by simp,by simp,by simp,by simp,by simp,rfl⟩ ?_ ?_
 .clear gU XX hT;rintro i fr hp da ⟨ho,cf,g1,g4,g0,g6,db⟩;rcases jr hg da with⟨c,hi,hx,hr,cz⟩|rfl
  .have uV:=db.fh;have aq:∀k,hp[0]'k= .row (enc zeroV):=λk=>db.get k
   have l0:=db.lt;have hf:=cG (i:=i) (by omega);rw[jd hx,ja]at ho;have ni:(enc c.v).length=5:=dB c.v;have hez:(enc zeroV).length=5:=rfl;have hed:∀k,(enc zeroV).drop (5+k)=[]:=λk=>Zt (by rw[hez];omega)
   have vp:(fK c).length=6:=by simp[fK,dB]
   have hrt:(fK c).take 6=fK c:=by rw[Xa (by omega)]
   by_cases hk:fm c.key x=true
   .rw[cq hk]at ho;simp[cf,g0,g1,g4,g6,hi,hq,cz,aq,l0,hk,fK,ni,hez];refine⟨_,ho.symm,?_⟩;rw[show enc c.v++List.drop 5 (enc zeroV)=enc c.v by rw[Zt (by rw[hez];omega),Yr]];exact db.new _
   .rw[cm hk]at ho;have lk:fm c.key x=false:=by simpa using hk
    simp[cf,g0,g1,g4,g6,hi,hq,cz,lk,fK,ni,hf];exact⟨ho,db⟩
  .rw[Yc,ja]at ho;simp[cf,g0,g4,g6,hq,<-ho];exact db
 .rintro o gO hp rfl ⟨cf,g4,⟨rfl,rfl,db⟩|⟨rfl,v,rfl,g5,db⟩⟩
  .have a0:=db.fh;have s1:∀y,(hp.set 0 y)[0]?=some y:=λy=>(db.new y).fh
   rw[mE]at a0;simp[cf,g4,a0,s1,IK,mE]
  .have a0:=db.fh;have ni:(enc v).length=5:=dB v;simp[g4,g5,a0,IK,ni]
def jU(r:Rl)(l:List fZ):Bool:=match ja l r.ky with
 |none=>decide (r.kd=2)||decide (r.kd=4)
 |some v=> !(decide (r.kd=2)||decide (r.kd=4)) && !decide (v.k=r.nn)
def Ni(r:Rl)(l:List fZ)(z:Bool):[AV.ag (dd r),eU l z].all dk=true:=rfl
def Ea(n:Nat)(b:Bool)(r:Rl)(l:List fZ)(z:Bool)(h:Hp)(hl:l.length<=10^6):
 ch cx (n+2) b 259 [.ag (dd r),eU l z] h=some (.sc (.bool (jU r l)),h):=by
 refine eR f259 [.tmp 4] (Ni _ _ _) rfl ?_ b h;have aa:=λbb h=>Ng n bb l z r.ky h hl
 generalize n+1=M at aa|-;obtain⟨k,nn,nm,ky,f,t⟩:=r;unfold jU dd eU at *;simp only at *;generalize d_ l=cg at *;cases ho:ja l ky with
 |
  none=>
  rw[ho]at aa;simp only[IK,Option.getD_none,mE,Xz]at aa;by_cases k2:k=2
  .subst k2;simp[f259,aa]
  .by_cases k4:k=4
   .subst k4;simp[f259,aa]
   .simp[f259,aa,k2,k4]
 |some v=>
  rw[ho]at aa;obtain⟨vk,vn,vd,vs,vz,vl⟩:=v;simp only[IK,Xm,enc,Xy]at aa;generalize hL:po vz (ef vl)=L at aa;have O9:∀v,L≠ .pn v:=λv=>by rw[<-hL];unfold po;cases (vz && (ef vl).isEmpty)<;>simp
  have dZ:cls L=some [L]:=by rw[<-hL];unfold po;cases (vz && (ef vl).isEmpty)<;>rfl
  unfold cls at dZ;simp only[V.k];by_cases k2:k=2
  .subst k2;simp[f259,aa]
  .by_cases k4:k=4
   .subst k4;simp[f259,aa]
   .by_cases hv:vk=nn
    .subst hv;simp[f259,aa,k2,k4]
    .simp[f259,aa,k2,k4,hv]
def Eb(n:Nat)(b:Bool)(r:Rl)(l:List fZ)(z:Bool)(h:Hp)(hl:l.length<=10^6):
 ch cx (n+2) b 267 [.ag (dd r),eU l z] h=some (.sc (.bool (jU r l)),h):=by
 refine eR f267 [.tmp 4] (Ni _ _ _) rfl ?_ b h;have aa:=λbb h=>Nh n bb l z r.ky h hl
 generalize n+1=M at aa|-;obtain⟨k,nn,nm,ky,f,t⟩:=r;unfold jU dd eU at *;simp only at *;generalize d_ l=cg at *;cases ho:ja l ky with
 |
  none=>
  rw[ho]at aa;simp only[IK,Option.getD_none,mE,Xz]at aa;by_cases k2:k=2
  .subst k2;simp[f267,aa]
  .by_cases k4:k=4
   .subst k4;simp[f267,aa]
   .simp[f267,aa,k2,k4]
 |some v=>
  rw[ho]at aa;obtain⟨vk,vn,vd,vs,vz,vl⟩:=v;simp only[IK,Xm,enc,Xy]at aa;generalize hL:po vz (ef vl)=L at aa;have O9:∀v,L≠ .pn v:=λv=>by rw[<-hL];unfold po;cases (vz && (ef vl).isEmpty)<;>simp
  have dZ:cls L=some [L]:=by rw[<-hL];unfold po;cases (vz && (ef vl).isEmpty)<;>rfl
  unfold cls at dZ;simp only[V.k];by_cases k2:k=2
  .subst k2;simp[f267,aa]
  .by_cases k4:k=4
   .subst k4;simp[f267,aa]
   .by_cases hv:vk=nn
    .subst hv;simp[f267,aa,k2,k4]
    .simp[f267,aa,k2,k4,hv]
def p2(P:List (Int × Int)):List LA:=P.map λp=> [.sc (.int .i64 p.1),.sc (.int .i64 p.2)]
def qU(P:List (Int × Int)):(p2 P).length=P.length:=by simp[p2]
def UU(P:List (Int × Int))(i:Nat):(p2 P)[i]?=(P[i]?).map λp=> [.sc (.int .i64 p.1),.sc (.int .i64 p.2)]:=by simp[p2]
def ua(P:List (Int × Int)):∀r∈p2 P,r.length=2:=λr hr=>by obtain⟨c,_,rfl⟩:=Yk.1 hr;rfl
def oM(P:List (Int × Int)):(p2 P).flatten.all eu=true:=by
 rw[Yt];intro x hx;obtain⟨r,hr,hx⟩:=List.mem_flatten.1 hx;obtain⟨c,_,rfl⟩:=Yk.1 hr;simp only[Yw,Qf,or_false]at hx;rcases hx with rfl|rfl<;>rfl
def Z8(P:List (Int × Int))(a b:Int):p2 P++[[.sc (.int .i64 a),.sc (.int .i64 b)]]=p2 (P++[(a,b)]):=by simp[p2]
def kD(bad:Nd->Bool)(l:List Nd):List (Int × Int):=(l.filter bad).map λn=>(n.id,0)
def oN(bad:Ed->Bool)(l:List Ed):List (Int × Int):=(l.filter bad).map λn=>(n.id,0)
def yH{bad:Nd->Bool}{l:List Nd}{i:Nat}{c:Nd}(h:l[i]?=some c):kD bad (l.take (i+1))=kD bad (l.take i)++(if bad c=true then[(c.id,0)]else[]):=by
 rw[jk h];unfold kD;rw[Yq,Yn];cases hb:bad c<;>simp[hb]
def Ec{bad:Ed->Bool}{l:List Ed}{i:Nat}{c:Ed}(h:l[i]?=some c):oN bad (l.take (i+1))=oN bad (l.take i)++(if bad c=true then[(c.id,0)]else[]):=by
 rw[jk h];unfold oN;rw[Yq,Yn];cases hb:bad c<;>simp[hb]
def r_(bad:Nd->Bool)(l:List Nd):(kD bad l).length<=l.length:=by unfold kD;rw[Ym];exact Xu _ _
def sd(bad:Ed->Bool)(l:List Ed):(oN bad l).length<=l.length:=by unfold oN;rw[Ym];exact Xu _ _
def mF{h:Hp}{P:List (Int × Int)}{y:AV}(hB:gz h 2 (p2 P) y)(hl:P.length<=10^8)(a b:Int):∃j h',ew cx (h++[.row [a,b]]) 183 y (.sl h.length 2 0 1 false)=some (.sl j 2 0 (P.length+1) false,h')/\gz h' 2 (p2 (P++[(a,b)])) (.sl j 2 0 (P.length+1) false)/\
 (∀j b,h[j]?=some b->(∀k n,y= .sl k 2 0 n false->j≠k)->h'[j]?=some b)/\h.length<=j:=by
 obtain⟨j,h',b1,b2,b3,b4⟩:=kj (t:=183) afR rfl h [a,.sc (.int .i64 b)] (p2 P) y hB rfl (ua _) (by omega) (by rw[qU];omega) (by omega);rw[qU]at b1;rw[Z8]at b2;exact⟨j,h',b1,.inr ⟨by simp[p2],j,by rw[qU,Zu];rfl,b2⟩,b3,b4⟩
def qW(r:Rl)(n:Nd):Bool:=jS n.labels r.nm && jU r n.props
structure VG (D:Nat)(g:Gr):Prop where
 nl:g.nodes.length<=2000
 el:g.cj.length<=4000
 ns:∀n∈g.nodes,n.labels.length<=10^6/\n.props.length<=10^6
 es:∀e∈g.cj,e.props.length<=10^6
 pl:∀n∈g.nodes,∀c∈n.props,c.v.l=[]
def mP(r:Rl)(g:Gr):[AV.ag (dd r),.ag (cl g)].all dk=true:=rfl
def UW(n D:Nat)(b:Bool)(r:Rl)(g:Gr)(h:Hp)(hv:VG D g):
 ch cx (n+5) b 159 [.ag (dd r),.ag (cl g)] h=some (dt 2 (p2 (kD (qW r) g.nodes)),h):=by
 have main:∃y h',dL [.tmp 4] (cO cx (ch cx (n+4)) ((f159.body).getD .skip) ([.ag (dd r),.ag (cl g)]++List.replicate 31 .un,[]))=some (y,h')/\gz h' 2 (p2 (kD (qW r) g.nodes)) y:=by
  have aa:=λ(c:Nd)x bb h hl=>wi (n+1) bb c x h hl
  have af:=λ(c:Nd)bb h hl=>Ea (n+2) bb r c.props false h hl
  rw[show n+1+3=n+4 from rfl]at aa;rw[show n+2+2=n+4 from rfl]at af;generalize n+4=M at aa af|-;have hq:=dC g.nodes;have jc:=iJ g.nodes;have vF:=hv.nl;have j6:=hv.ns;clear hv;obtain⟨k,nn,nm,ky,f,t⟩:=r;unfold cl dy;generalize Aa:qW ⟨k,nn,nm,ky,f,t⟩=bad;generalize f_ g.nodes=cg at hq jc|-;unfold dd at *;simp only at *;simp[f159,hq];generalize gU:M (.loop _) _=XX;refine pU gU
   (λi s dn=>s.length=33/\gt s 2= .pt 0 0/\gt s 9= .ls 3 cg false/\gt s 10=g.nodes.length/\gt s 11=i/\At dn 0 (.row [k,nn,nm,ky,f,t])/\∃y,gt s 5=y/\gz dn 2 (p2 (kD bad (g.nodes.take i))) y/\∀k m,y= .sl k 2 0 m false->k≠0)
   (λo s dn=>o= .exit 0/\s.length=33/\∃y,gt s 5=y/\gz dn 2 (p2 (kD bad g.nodes)) y) g.nodes.length (by simp;omega)
   ⟨by simp,by simp,by simp,by simp,by simp,rfl,.sc (.slice none 0 0),by simp,.inl ⟨rfl,rfl⟩,λk m e=>by cases e⟩ ?_ ?_
  .clear gU XX;rintro i fr hp da ⟨cf,g2,g9,g10,g11,db,y,g5,hB,hn⟩;rcases jr jc da with⟨c,hi,hx,hr,cz⟩|rfl
   .have Z9:=j6 c (Zi hx);have aa:=λx bb h=>aa c x bb h (by omega)
    have af:=λbb h=>af c bb h Z9.2
    have hf:=cG (i:=i) (by omega);have gw:=yH (bad:=bad) hx;have l0:=db.lt;have uV:∀y',(hp++y')[0]?=some (.row [.sc (.int .i64 k),nn,nm,ky,f,t]):=λy'=>(db.app y').fh
    have aq:∀y' kz,(hp++y')[0]'kz= .row [.sc (.int .i64 k),nn,nm,ky,f,t]:=λy' kz=>(db.app y').get kz
    have an:∀y',(hp++[y'])[hp.length]?=some y':=λy=>by simp
    have lC:bad c=(jS c.labels nm && jU ⟨k,nn,nm,ky,f,t⟩ c.props):=by rw[<-Aa];rfl
    have q1:=λops d rest fr h=>tZ (λv=>hB.np v) (ch cx M true) ops d rest fr h
    have nQ:=hB.cls;unfold dh iD at hr cz aa;unfold eU at hr cz aa af;cases h1:jS c.labels nm
    .have Z5:=λbb h=>aa nm bb h
     rw[h1]at Z5 lC;rw[lC,Xi,cm (by simp),Yr]at gw;simp[cf,g2,g9,g10,g11,g5,hi,hq,cz,aq,hf,Z5];exact⟨db.app _,by rw[gw];exact hB.grow _,hn⟩
    .have Z5:=λbb h=>aa nm bb h
     rw[h1]at Z5 lC;rw[Xd]at lC;cases h2:jU ⟨k,nn,nm,ky,f,t⟩ c.props
     .rw[h2]at af lC;rw[lC,cm (by simp),Yr]at gw;simp[cf,g2,g9,g10,g11,g5,hi,hq,cz,aq,hf,Z5,af];exact⟨db.app _,by rw[gw];exact hB.grow _,hn⟩
     .rw[h2]at af lC;rw[lC,cq rfl]at gw;obtain⟨j,ry,b1,b2,b3,b4⟩:=mF (hB.grow [.row [c.id,.ls 1 (fj c.labels) false,.ls 6 (d_ c.props) false]]) (by have:=r_ bad (g.nodes.take i);rw[Xf]at this;omega) c.id 0;have c0:=b3 0 _ (db.app _).fh λk n e=>(hn k n e).symm
      simp only[Zp,Zv,Zw,Zu,Xe,Xq,Xs]at b1 b4;rw[<-gw]at b2;simp[cf,g2,g9,g10,g11,g5,hi,hq,cz,aq,hf,Z5,af,q1,b1];exact⟨c0,b2,by omega⟩
   .simp[cf,g10,g11,g5];rw[Xx]at hB;exact hB
  .rintro o gO hp rfl ⟨rfl,cf,y,g5,hB⟩;have q1:=λops d rest fr h=>tZ (λv=>hB.np v) (ch cx M true) ops d rest fr h
   have nQ:=hB.cls;simp[cf,g5,q1];exact gq hB
 obtain⟨y,h',e,hB⟩:=main;exact gD (r:=y) (h':=h') (n:=n+4) ⟨f159.ntmps,(f159.body).getD .skip,[.tmp 4]⟩ (by kernel_rfl) (by kernel_rfl) rfl (by kernel_rfl) (by simp[f159]) (mP _ _) e (fJ (n:=7) (by omega) (ua _) (oM _) hB) b h
def vI(g:Gr)(x:Int)(qE:ByteArray):Bool:= !fm qE ⟨#[]⟩ && !jS (z8 (cM g.nodes x)).labels qE
def sK(g:Gr)(x:Int)(qE:ByteArray):Bool:= !((cM g.nodes x).isSome && (fm qE ⟨#[]⟩||jS (z8 (cM g.nodes x)).labels qE))
def Nj{g:Gr}{x:Int}(qE:ByteArray)(h:(cM g.nodes x).isSome=true):sK g x qE=vI g x qE:=by
 unfold sK vI;rw[h];cases fm qE ⟨#[]⟩<;>simp
def IM(g:Gr)(x:Int)(s:ByteArray):[AV.ag (cl g),.sc (.int .i64 x),.sc (.string s)].all dk=true:=rfl
def IP{g:Gr}{x:Int}(h:∀n∈g.nodes,n.labels.length<=10^6/\n.props.length<=10^6):(z8 (cM g.nodes x)).labels.length<=10^6:=by
 cases ho:cM g.nodes x with
 |none=>simp[z8]
 |some m=>exact(h m (yx ho).1).1
def UX(n D:Nat)(b:Bool)(g:Gr)(x:Int)(qE:ByteArray)(h:Hp)(hv:VG D g):
 ch cx (n+5) b 260 [.ag (cl g),x,qE] h=some (.sc (.bool (vI g x qE)),h):=by
 refine eR f260 [.tmp 6] (IM _ _ _) rfl ?_ b h;have aa:=λbb h=>adA n bb g x h (by have:=hv.nl;omega) (λm hm=>⟨(hv.ns m hm).1,(hv.ns m hm).2,hv.pl m hm⟩)
 have af:=λbb h=>wi (n+1) bb (z8 (cM g.nodes x)) qE h (by have:=IP (x:=x) hv.ns;omega)
 rw[show n+1+3=n+4 from rfl]at af;unfold vI;generalize z8 (cM g.nodes x)=c at aa af|-;generalize(cM g.nodes x).isSome=ok at aa;generalize n+4=M at aa af|-;generalize jS c.labels qE=hb at af|-;unfold cl dh dy dz at *;simp only[iD,eU]at *;cases he:fm qE ⟨#[]⟩
 .simp[f260,aa,af,he]
 .simp[f260,aa,he]
def FU(n D:Nat)(b:Bool)(g:Gr)(x:Int)(qE:ByteArray)(h:Hp)(hv:VG D g):
 ch cx (n+5) b 268 [.ag (cl g),x,qE] h=some (.sc (.bool (!sK g x qE)),h):=by
 refine eR f268 [.tmp 6] (IM _ _ _) rfl ?_ b h;have aa:=λbb h=>ir (n+3) bb g x h (by have:=hv.nl;omega)
 rw[show n+3+1=n+4 from rfl]at aa;have hl:=IP (x:=x) hv.ns;unfold sK;cases ho:cM g.nodes x with
 |
  none=>
  rw[ho]at aa;simp only[zV,Xz]at aa;generalize n+4=M at aa|-;unfold cl dy dz at *;simp[f268,aa]
 |some c=>
  rw[ho]at aa hl;have af:=λbb h=>jz (n+2) bb c qE h (by simp only[z8]at hl;omega)
  rw[show n+2+2=n+4 from rfl]at af;simp only[zV,Xy,z8]at aa|-;generalize n+4=M at aa af|-;generalize jS c.labels qE=hb at af|-;unfold cl dh dy dz at *;simp only[iD,eU]at *;cases he:fm qE ⟨#[]⟩
  .simp[f268,aa,af,he]
  .simp[f268,aa,he]
def qX(r:Rl)(g:Gr)(e:Ed):Bool:=fm e.type r.nm && (if r.kd=6 then vI g e.src r.fr||vI g e.dst r.tt else jU r e.props)
def BW(r:Rl)(g:Gr)(e:Ed):Bool:=fm e.type r.nm && (if r.kd=6 then sK g e.src r.fr||sK g e.dst r.tt else jU r e.props)
def UY(n D:Nat)(b:Bool)(r:Rl)(g:Gr)(h:Hp)(hv:VG D g):
 ch cx (n+6) b 161 [.ag (dd r),.ag (cl g)] h=some (dt 2 (p2 (oN (qX r g) g.cj)),h):=by
 have main:∃y h',dL [.tmp 4] (cO cx (ch cx (n+5)) ((f161.body).getD .skip) ([.ag (dd r),.ag (cl g)]++List.replicate 49 .un,[]))=some (y,h')/\gz h' 2 (p2 (oN (qX r g) g.cj)) y:=by
  have aa:=λ(x:Int)qE bb h=>UX n D bb g x qE h hv
  have af:=λ(c:Ed)bb h hl=>Ea (n+3) bb r c.props false h hl
  rw[show n+3+2=n+5 from rfl]at af;generalize n+5=M at aa af|-;have hq:=dD g.cj;have jc:=jy g.cj;have vF:=hv.el;have j6:=hv.es;clear hv;obtain⟨k,nn,nm,ky,f,t⟩:=r;unfold cl dy dz at *;generalize Aa:qX ⟨k,nn,nm,ky,f,t⟩ g=bad;generalize fV g.cj=cg at hq jc aa|-;unfold dd at *;simp only at *;simp[f161,hq];generalize gU:M (.loop _) _=XX;refine pU gU
   (λi s dn=>s.length=51/\gt s 2= .pt 0 0/\gt s 3= .pt 1 0/\gt s 10= .ls 5 cg false/\gt s 11=g.cj.length/\gt s 12=i/\At dn 0 (.row [k,nn,nm,ky,f,t])/\At dn 1 (.row [.ls 3 (f_ g.nodes) false,.ls 5 cg false,g.nn,g.ne])/\∃y,gt s 5=y/\gz dn 2 (p2 (oN bad (g.cj.take i))) y/\∀k m,y= .sl k 2 0 m false->k≠0/\k≠1)
   (λo s dn=>o= .exit 0/\s.length=51/\∃y,gt s 5=y/\gz dn 2 (p2 (oN bad g.cj)) y) g.cj.length (by simp;omega)
   ⟨by simp,by simp,by simp,by simp,by simp,by simp,rfl,rfl,.sc (.slice none 0 0),by simp,.inl ⟨rfl,rfl⟩,λk m e=>by cases e⟩ ?_ ?_
  .clear gU XX;rintro i fr hp da ⟨cf,g2,g3,g10,g11,g12,db,eo,y,g5,hB,hn⟩;have l0:=db.lt;have l1:=eo.lt;have a0:=db.fh;have a1:=eo.fh;have oO:∀kz,hp[0]'kz= .row [.sc (.int .i64 k),nn,nm,ky,f,t]:=λkz=>db.get kz
   have wU:∀kz,hp[1]'kz= .row [.ls 3 (f_ g.nodes) false,.ls 5 cg false,g.nn,g.ne]:=λkz=>eo.get kz
   rcases jr jc da with⟨c,hi,hx,hr,cz⟩|rfl
   .have Z9:=j6 c (Zi hx);have af:=λbb h=>af c bb h Z9
    have hf:=cG (i:=i) (by omega);have gw:=Ec (bad:=bad) hx;have uV:∀y',(hp++y')[0]?=some (.row [.sc (.int .i64 k),nn,nm,ky,f,t]):=λy'=>(db.app y').fh
    have Av:∀y',(hp++y')[1]?=some (.row [.ls 3 (f_ g.nodes) false,.ls 5 cg false,g.nn,g.ne]):=λy'=>(eo.app y').fh
    have jH:∀y' kz,(hp++y')[0]'kz= .row [.sc (.int .i64 k),nn,nm,ky,f,t]:=λy' kz=>(db.app y').get kz
    have GL:∀y' kz,(hp++y')[1]'kz= .row [.ls 3 (f_ g.nodes) false,.ls 5 cg false,g.nn,g.ne]:=λy' kz=>(eo.app y').get kz
    have an:∀y',(hp++[y'])[hp.length]?=some y':=λy=>by simp
    have jm:∀y' kz,(hp++[y'])[hp.length]'kz=y':=λy kz=>by simp
    have lC:bad c=(fm c.type nm && (if k=6 then vI g c.src f||vI g c.dst t else jU ⟨k,nn,nm,ky,f,t⟩ c.props)):=by rw[<-Aa];rfl
    have q1:=λops d rest fr h=>tZ (λv=>hB.np v) (ch cx M true) ops d rest fr h
    have nQ:=hB.cls;unfold dP at hr cz;unfold eU at hr cz af;cases h1:fm c.type nm
    .rw[h1,Xi]at lC;rw[lC,cm (by simp),Yr]at gw;simp[cf,g2,g3,g10,g11,g12,g5,hi,hq,cz,jH,jm,hf,h1];exact⟨db.app _,eo.app _,by rw[gw];exact hB.grow _,hn⟩
    .rw[h1,Xd]at lC;by_cases hk:k=6
     .subst hk;rw[cq rfl]at lC;have fs:=λbb h=>aa c.src f bb h
      have fd:=λbb h=>aa c.dst t bb h
      cases h2:vI g c.src f
      .rw[h2]at fs;cases h3:vI g c.dst t
       .rw[h3]at fd;rw[h2,h3,Bool.or_false]at lC;rw[lC,cm (by simp),Yr]at gw;simp[cf,g2,g3,g10,g11,g12,g5,hi,hq,cz,l0,jH,GL,jm,hf,h1,fs,fd];exact⟨db.app _,eo.app _,by rw[gw];exact hB.grow _,hn⟩
       .rw[h3]at fd;rw[h2,h3,Bool.or_true]at lC;rw[lC,cq rfl]at gw;obtain⟨j,ry,b1,b2,b3,b4⟩:=mF (hB.grow [.row [c.id,c.src,c.dst,c.type,.ls 6 (d_ c.props) false]]) (by have:=sd bad (g.cj.take i);rw[Xf]at this;omega) c.id 0;have c0:=b3 0 _ (db.app _).fh λk n e=>((hn k n e).1).symm
        have c1:=b3 1 _ (eo.app _).fh λk n e=>((hn k n e).2).symm
        simp only[Zp,Zv,Zw,Zu,Xe,Xq,Xs]at b1 b4;rw[<-gw]at b2;simp[cf,g2,g3,g10,g11,g12,g5,hi,hq,cz,l0,jH,GL,jm,hf,h1,fs,fd,q1,b1];exact⟨c0,c1,b2,by omega⟩
      .rw[h2]at fs;rw[h2,Bool.true_or]at lC;rw[lC,cq rfl]at gw;obtain⟨j,ry,b1,b2,b3,b4⟩:=mF (hB.grow [.row [c.id,c.src,c.dst,c.type,.ls 6 (d_ c.props) false]]) (by have:=sd bad (g.cj.take i);rw[Xf]at this;omega) c.id 0;have c0:=b3 0 _ (db.app _).fh λk n e=>((hn k n e).1).symm
       have c1:=b3 1 _ (eo.app _).fh λk n e=>((hn k n e).2).symm
       simp only[Zp,Zv,Zw,Zu,Xe,Xq,Xs]at b1 b4;rw[<-gw]at b2;simp[cf,g2,g3,g10,g11,g12,g5,hi,hq,cz,l0,jH,GL,jm,hf,h1,fs,q1,b1];exact⟨c0,c1,b2,by omega⟩
     .rw[cm hk]at lC;cases h2:jU ⟨k,nn,nm,ky,f,t⟩ c.props
      .rw[h2]at af lC;rw[lC,cm (by simp),Yr]at gw;simp[cf,g2,g3,g10,g11,g12,g5,hi,hq,cz,jH,jm,hf,h1,hk,af];exact⟨db.app _,eo.app _,by rw[gw];exact hB.grow _,hn⟩
      .rw[h2]at af lC;rw[lC,cq rfl]at gw;obtain⟨j,ry,b1,b2,b3,b4⟩:=mF (hB.grow [.row [c.id,c.src,c.dst,c.type,.ls 6 (d_ c.props) false]]) (by have:=sd bad (g.cj.take i);rw[Xf]at this;omega) c.id 0;have c0:=b3 0 _ (db.app _).fh λk n e=>((hn k n e).1).symm
       have c1:=b3 1 _ (eo.app _).fh λk n e=>((hn k n e).2).symm
       simp only[Zp,Zv,Zw,Zu,Xe,Xq,Xs]at b1 b4;rw[<-gw]at b2;simp[cf,g2,g3,g10,g11,g12,g5,hi,hq,cz,jH,jm,hf,h1,hk,af,q1,b1];exact⟨c0,c1,b2,by omega⟩
   .simp[cf,g11,g12,g5];rw[Xx]at hB;exact hB
  .rintro o gO hp rfl ⟨rfl,cf,y,g5,hB⟩;have q1:=λops d rest fr h=>tZ (λv=>hB.np v) (ch cx M true) ops d rest fr h
   have nQ:=hB.cls;simp[cf,g5,q1];exact gq hB
 obtain⟨y,h',e,hB⟩:=main;exact gD (r:=y) (h':=h') (n:=n+5) ⟨f161.ntmps,(f161.body).getD .skip,[.tmp 4]⟩ (by kernel_rfl) (by kernel_rfl) rfl (by kernel_rfl) (by simp[f161]) (mP _ _) e (fJ (n:=7) (by omega) (ua _) (oM _) hB) b h
def PX(n D:Nat)(b:Bool)(r:Rl)(g:Gr)(h:Hp)(hv:VG D g):
 ch cx (n+6) b 165 [.ag (dd r),.ag (cl g)] h=some (dt 2 (p2 (oN (BW r g) g.cj)),h):=by
 have main:∃y h',dL [.tmp 4] (cO cx (ch cx (n+5)) ((f165.body).getD .skip) ([.ag (dd r),.ag (cl g)]++List.replicate 57 .un,[]))=some (y,h')/\gz h' 2 (p2 (oN (BW r g) g.cj)) y:=by
  have aa:=λ(x:Int)qE bb h=>FU n D bb g x qE h hv
  have af:=λ(c:Ed)bb h hl=>Eb (n+3) bb r c.props false h hl
  rw[show n+3+2=n+5 from rfl]at af;generalize n+5=M at aa af|-;have hq:=dD g.cj;have jc:=jy g.cj;have vF:=hv.el;have j6:=hv.es;clear hv;obtain⟨k,nn,nm,ky,f,t⟩:=r;unfold cl dy dz at *;generalize Aa:BW ⟨k,nn,nm,ky,f,t⟩ g=bad;generalize fV g.cj=cg at hq jc aa|-;unfold dd at *;simp only at *;simp[f165];generalize gU:M (.loop _) _=XX;refine pU gU
   (λi s dn=>s.length=59/\gt s 2= .pt 0 0/\gt s 3= .pt 1 0/\gt s 6=i/\At dn 0 (.row [k,nn,nm,ky,f,t])/\At dn 1 (.row [.ls 3 (f_ g.nodes) false,.ls 5 cg false,g.nn,g.ne])/\∃y,gt s 5=y/\gz dn 2 (p2 (oN bad (g.cj.take i))) y/\∀k m,y= .sl k 2 0 m false->k≠0/\k≠1)
   (λo s dn=>o= .exit 0/\s.length=59/\∃y,gt s 5=y/\gz dn 2 (p2 (oN bad g.cj)) y) g.cj.length (by simp;omega)
   ⟨by simp,by simp,by simp,by simp,rfl,rfl,.sc (.slice none 0 0),by simp,.inl ⟨rfl,rfl⟩,λk m e=>by cases e⟩ ?_ ?_
  .clear gU XX;rintro i fr hp da ⟨cf,g2,g3,g6,db,eo,y,g5,hB,hn⟩;have l0:=db.lt;have l1:=eo.lt;have a0:=db.fh;have a1:=eo.fh;have oO:∀kz,hp[0]'kz= .row [.sc (.int .i64 k),nn,nm,ky,f,t]:=λkz=>db.get kz
   have wU:∀kz,hp[1]'kz= .row [.ls 3 (f_ g.nodes) false,.ls 5 cg false,g.nn,g.ne]:=λkz=>eo.get kz
   rcases jr jc da with⟨c,hi,hx,hr,cz⟩|rfl
   .have Z9:=j6 c (Zi hx);have af:=λbb h=>af c bb h Z9
    have hf:=cG (i:=i) (by omega);have gw:=Ec (bad:=bad) hx;have uV:∀y',(hp++y')[0]?=some (.row [.sc (.int .i64 k),nn,nm,ky,f,t]):=λy'=>(db.app y').fh
    have Av:∀y',(hp++y')[1]?=some (.row [.ls 3 (f_ g.nodes) false,.ls 5 cg false,g.nn,g.ne]):=λy'=>(eo.app y').fh
    have jH:∀y' kz,(hp++y')[0]'kz= .row [.sc (.int .i64 k),nn,nm,ky,f,t]:=λy' kz=>(db.app y').get kz
    have GL:∀y' kz,(hp++y')[1]'kz= .row [.ls 3 (f_ g.nodes) false,.ls 5 cg false,g.nn,g.ne]:=λy' kz=>(eo.app y').get kz
    have an:∀y',(hp++[y'])[hp.length]?=some y':=λy=>by simp
    have jm:∀y' kz,(hp++[y'])[hp.length]'kz=y':=λy kz=>by simp
    have lC:bad c=(fm c.type nm && (if k=6 then sK g c.src f||sK g c.dst t else jU ⟨k,nn,nm,ky,f,t⟩ c.props)):=by rw[<-Aa];rfl
    have q1:=λops d rest fr h=>tZ (λv=>hB.np v) (ch cx M true) ops d rest fr h
    have nQ:=hB.cls;unfold dP at hr cz;unfold eU at hr cz af;cases h1:fm c.type nm
    .rw[h1,Xi]at lC;generalize jU ⟨k,nn,nm,ky,f,t⟩ c.props=wb at af;have fs:=λbb h=>aa c.src f bb h
     have fd:=λbb h=>aa c.dst t bb h
     generalize sK g c.src f=ls at fs;generalize sK g c.dst t=ld at fd;by_cases hk:k=6
     .subst hk;cases ls
      .cases ld
       .rw[lC,cm (by simp),Yr]at gw;simp[cf,g2,g3,g6,g5,hi,hq,cz,l0,l1,wU,jH,GL,jm,hf,h1,af,fs,fd];exact⟨db.app _,eo.app _,by rw[gw];exact hB.grow _,hn⟩
       .rw[lC,cm (by simp),Yr]at gw;simp[cf,g2,g3,g6,g5,hi,hq,cz,l0,l1,wU,jH,GL,jm,hf,h1,af,fs,fd];exact⟨db.app _,eo.app _,by rw[gw];exact hB.grow _,hn⟩
      .rw[lC,cm (by simp),Yr]at gw;simp[cf,g2,g3,g6,g5,hi,hq,cz,l0,l1,wU,jH,GL,jm,hf,h1,af,fs];exact⟨db.app _,eo.app _,by rw[gw];exact hB.grow _,hn⟩
     .rw[lC,cm (by simp),Yr]at gw;simp[cf,g2,g3,g6,g5,hi,hq,cz,l1,wU,jH,jm,hf,h1,hk,af];exact⟨db.app _,eo.app _,by rw[gw];exact hB.grow _,hn⟩
    .rw[h1,Xd]at lC;by_cases hk:k=6
     .subst hk;rw[cq rfl]at lC;generalize jU ⟨6,nn,nm,ky,f,t⟩ c.props=wb at af;have fs:=λbb h=>aa c.src f bb h
      have fd:=λbb h=>aa c.dst t bb h
      cases h2:sK g c.src f
      .rw[h2]at fs;cases h3:sK g c.dst t
       .rw[h3]at fd;rw[h2,h3,Bool.or_false]at lC;rw[lC,cm (by simp),Yr]at gw;simp[cf,g2,g3,g6,g5,hi,hq,cz,l0,l1,wU,jH,GL,jm,hf,h1,af,fs,fd];exact⟨db.app _,eo.app _,by rw[gw];exact hB.grow _,hn⟩
       .rw[h3]at fd;rw[h2,h3,Bool.or_true]at lC;rw[lC,cq rfl]at gw;obtain⟨j,ry,b1,b2,b3,b4⟩:=mF (hB.grow [.row [c.id,c.src,c.dst,c.type,.ls 6 (d_ c.props) false]]) (by have:=sd bad (g.cj.take i);rw[Xf]at this;omega) c.id 0;have c0:=b3 0 _ (db.app _).fh λk n e=>((hn k n e).1).symm
        have c1:=b3 1 _ (eo.app _).fh λk n e=>((hn k n e).2).symm
        simp only[Zp,Zv,Zw,Zu,Xe,Xq,Xs]at b1 b4;rw[<-gw]at b2;simp[cf,g2,g3,g6,g5,hi,hq,cz,l0,l1,wU,jH,GL,jm,hf,h1,af,fs,fd,q1,b1];exact⟨c0,c1,b2,by omega⟩
      .rw[h2]at fs;rw[h2,Bool.true_or]at lC;rw[lC,cq rfl]at gw;obtain⟨j,ry,b1,b2,b3,b4⟩:=mF (hB.grow [.row [c.id,c.src,c.dst,c.type,.ls 6 (d_ c.props) false]]) (by have:=sd bad (g.cj.take i);rw[Xf]at this;omega) c.id 0;have c0:=b3 0 _ (db.app _).fh λk n e=>((hn k n e).1).symm
       have c1:=b3 1 _ (eo.app _).fh λk n e=>((hn k n e).2).symm
       simp only[Zp,Zv,Zw,Zu,Xe,Xq,Xs]at b1 b4;rw[<-gw]at b2;simp[cf,g2,g3,g6,g5,hi,hq,cz,l0,l1,wU,jH,GL,jm,hf,h1,af,fs,q1,b1];exact⟨c0,c1,b2,by omega⟩
     .rw[cm hk]at lC;cases h2:jU ⟨k,nn,nm,ky,f,t⟩ c.props
      .rw[h2]at af lC;rw[lC,cm (by simp),Yr]at gw;simp[cf,g2,g3,g6,g5,hi,hq,cz,l1,wU,jH,jm,hf,h1,hk,af];exact⟨db.app _,eo.app _,by rw[gw];exact hB.grow _,hn⟩
      .rw[h2]at af lC;rw[lC,cq rfl]at gw;obtain⟨j,ry,b1,b2,b3,b4⟩:=mF (hB.grow [.row [c.id,c.src,c.dst,c.type,.ls 6 (d_ c.props) false]]) (by have:=sd bad (g.cj.take i);rw[Xf]at this;omega) c.id 0;have c0:=b3 0 _ (db.app _).fh λk n e=>((hn k n e).1).symm
       have c1:=b3 1 _ (eo.app _).fh λk n e=>((hn k n e).2).symm
       simp only[Zp,Zv,Zw,Zu,Xe,Xq,Xs]at b1 b4;rw[<-gw]at b2;simp[cf,g2,g3,g6,g5,hi,hq,cz,l1,wU,jH,jm,hf,h1,hk,af,q1,b1];exact⟨c0,c1,b2,by omega⟩
   .simp[cf,g3,g6,g5,hq,wU,l1];rw[Xx]at hB;exact hB
  .rintro o gO hp rfl ⟨rfl,cf,y,g5,hB⟩;have q1:=λops d rest fr h=>tZ (λv=>hB.np v) (ch cx M true) ops d rest fr h
   have nQ:=hB.cls;simp[cf,g5,q1];exact gq hB
 obtain⟨y,h',e,hB⟩:=main;exact gD (r:=y) (h':=h') (n:=n+5) ⟨f165.ntmps,(f165.body).getD .skip,[.tmp 4]⟩ (by kernel_rfl) (by kernel_rfl) rfl (by kernel_rfl) (by simp[f165]) (mP _ _) e (fJ (n:=7) (by omega) (ua _) (oM _) hB) b h
def o8(l:List Ed)(nm:ByteArray)(x:Int):Nat:=(l.filter λe=>decide (e.src=x) && fm e.type nm).length
def FV(l:List Ed)(nm:ByteArray)(x:Int):o8 l nm x<=l.length:=Xu _ _
def yI{l:List Ed}{nm:ByteArray}{x:Int}{i:Nat}{c:Ed}(h:l[i]?=some c):o8 (l.take (i+1)) nm x=o8 (l.take i) nm x+(if(decide (c.src=x) && fm c.type nm)=true then 1 else 0):=by
 rw[jk h];unfold o8;rw[Yq,Zu]
 congr 1
 cases hb:(decide (c.src=x) && fm c.type nm)<;>simp[hb]
def AE :List (Int × Int)->Int->Int
 | [],_=>0
 |p::l,x=>if x=p.1 then p.2 else AE l x
def XA :List (Int × Int)->Int->Int->List (Int × Int)
 | [],x,y=> [(x,y)]
 |p::l,x,y=>if x=p.1 then(x,y)::l else p::XA l x y
def abY(x y z:Int):∀l,AE (XA l x y) z=if z=x then y else AE l z
 | []=>by simp[XA,AE]
 |
  p::l=>by
  unfold XA;by_cases hp:x=p.1
  .rw[cq hp];by_cases hz:z=x
   .rw[AE,cq hz,cq hz]
   .rw[AE,cm hz,cm hz,AE,cm (by rw[<-hp];exact hz)]
  .rw[cm hp,AE,abY x y z l,AE];by_cases hz:z=x
   .subst hz;simp[hp]
   .rw[cm hz,cm hz]
def yJ(M:List (Int × Int)):List (Value × AV):=M.map λp=>(.int .i64 p.1,.sc (.int .i64 p.2))
def Nk(M:List (Int × Int)):(yJ M).all td=true:=by
 rw[Yt];intro x hx;obtain⟨p,_,rfl⟩:=Yk.1 hx;rfl
def BX(x y:Int):∀(M:List (Int × Int))(k:Nat),(∃j,mQ x (yJ M) k=some (k+j)/\(yJ M)[j]?=some (.int .i64 x,.sc (.int .i64 (AE M x)))/\(yJ M).set j (.int .i64 x,.sc (.int .i64 y))=yJ (XA M x y))\/(mQ x (yJ M) k=none/\AE M x=0/\yJ M++[(.int .i64 x,.sc (.int .i64 y))]=yJ (XA M x y))
 | [],k=> .inr ⟨rfl,rfl,rfl⟩
 |
  p::M,k=>by
  by_cases hp:x=p.1
  .refine .inl ⟨0,?_,?_,?_⟩
   .simp[yJ,mQ,EU,hp]
   .simp[yJ,AE,hp]
   .simp[yJ,XA,hp]
  .rcases BX x y M (k+1)with⟨j,h1,h2,h3⟩|⟨h1,h2,h3⟩
   .refine .inl ⟨j+1,?_,?_,?_⟩
    .rw[show k+(j+1)=k+1+j by omega,<-h1];have:(x==p.1)=false:=by simpa using hp
     simp[yJ,mQ,EU,this]
    .simp only[yJ,Yz,Yd,AE,cm hp];exact h2
    .simp only[yJ,Yz,List.set_cons_succ,XA,cm hp];rw[<-yJ,h3];rfl
   .refine .inr ⟨?_,?_,?_⟩
    .have:(x==p.1)=false:=by simpa using hp
     rw[<-h1];simp[yJ,mQ,EU,this]
    .rw[AE,cm hp,h2]
    .simp only[yJ,Yz,Zv,XA,cm hp];rw[<-yJ,h3];rfl
@[simp] def akK :tc cx 330=true:=by kernel_rfl
@[simp] def akL :pO cx 330=false:=by kernel_rfl
def afW :X1 cx 330=some (.sc (.int .i64 0)):=by kernel_rfl
def abZ(M:List (Int × Int))(x:Int):∃b,Oe cx 330 (mQ x (yJ M) 0) (yJ M)=some (.sc (.int .i64 (AE M x)),b):=by
 unfold Oe;rcases BX x 0 M 0 with⟨j,h1,h2,_⟩|⟨h1,h2,_⟩
 .rw[h1,Xs];exact⟨true,by simp only[h2,Yx]⟩
 .rw[h1];exact⟨false,by simp only[afW,h2,Yx]⟩
def qY(r:Rl)(g:Gr)(n:Nd):Bool:=decide (r.nn< (o8 g.cj r.nm n.id:Int))
def Lw(n D:Nat)(b:Bool)(r:Rl)(g:Gr)(h:Hp)(hv:VG D g):
 ch cx (n+1) b 160 [.ag (dd r),.ag (cl g)] h=some (dt 2 (p2 (kD (qY r g) g.nodes)),h):=by
 have main:∃y h',dL [.tmp 4] (n ((f160.body).getD .skip) ([.ag (dd r),.ag (cl g)]++List.replicate 50 .un,[]))=some (y,h')/\gz h' 2 (p2 (kD (qY r g) g.nodes)) y:=by
  generalize hM:ch cx n=M;clear hM;have hq:=dC g.nodes;have jc:=iJ g.nodes;have mO:=dD g.cj;have pz:=jy g.cj;have vF:=hv.nl;have BM:=hv.el;clear hv;obtain⟨k,nn,nm,ky,f,t⟩:=r;unfold cl dy dz at *;generalize Aa:qY ⟨k,nn,nm,ky,f,t⟩ g=bad;generalize f_ g.nodes=cg at hq jc|-;generalize fV g.cj=cY at mO pz|-;unfold dd at *;simp only at *;simp[f160,mO];generalize gU:cO cx M (.loop _) _=XX;refine pU gU
   (λi s dn=>s.length=52/\gt s 2= .pt 0 0/\gt s 3= .pt 1 0/\gt s 5= .mp 2/\gt s 13= .ls 5 cY false/\gt s 14=g.cj.length/\gt s 15=i/\At dn 0 (.row [k,nn,nm,ky,f,t])/\At dn 1 (.row [.ls 3 cg false,.ls 5 cY false,g.nn,g.ne])/\∃Mp ck,At dn 2 (.map (yJ Mp) ck)/\∀x,AE Mp x=(o8 (g.cj.take i) nm x:Int))
   (λo s dn=>o= .exit 0/\s.length=52/\gt s 2= .pt 0 0/\gt s 3= .pt 1 0/\gt s 5= .mp 2/\At dn 0 (.row [k,nn,nm,ky,f,t])/\At dn 1 (.row [.ls 3 cg false,.ls 5 cY false,g.nn,g.ne])/\∃Mp ck,At dn 2 (.map (yJ Mp) ck)/\∀x,AE Mp x=(o8 g.cj nm x:Int)) g.cj.length (by simp;omega)
   ⟨by simp,by simp,by simp,by simp,by simp,by simp,by simp,rfl,rfl,[],0,rfl,λx=>rfl⟩ ?_ ?_
  .clear gU XX;rintro i fr hp da ⟨cf,g2,g3,g5,g13,g14,g15,db,eo,Mp,ck,pI,hM⟩;rcases jr pz da with⟨c,hi,hx,hr,cz⟩|rfl
   .have hf:=cG (i:=i) (by omega);have uV:∀y',(hp++y')[0]?=some (.row [k,nn,nm,ky,f,t]):=λy'=>(db.app y').fh
    have jH:∀y' kz,(hp++y')[0]'kz= .row [k,nn,nm,ky,f,t]:=λy' kz=>(db.app y').get kz
    have Nl:∀y',(hp++y')[2]?=some (.map (yJ Mp) ck):=λy'=>(pI.app y').fh
    have aq2:∀y' kz,(hp++y')[2]'kz= .map (yJ Mp) ck:=λy' kz=>(pI.app y').get kz
    have an:∀y',(hp++[y'])[hp.length]?=some y':=λy=>by simp
    have jm:∀y' kz,(hp++[y'])[hp.length]'kz=y':=λy kz=>by simp
    have dN:=Nk Mp;have J_:=λx=>yI (nm:=nm) (x:=x) hx
    obtain⟨bb,hlk⟩:=abZ Mp c.src;unfold dP eU at hr cz;cases h1:fm c.type nm
    .simp[cf,g2,g3,g5,g13,g14,g15,hi,mO,cz,jH,jm,hf,h1];refine⟨db.app _,eo.app _,Mp,⟨ck,pI.app _⟩,λx=>?_⟩;rw[hM x,J_ x,h1];simp
    .have z_:=hM c.src;have dm:o8 (g.cj.take i) nm c.src<=4000:=by have:=FV (g.cj.take i) nm c.src;rw[Xf]at this;omega
     have hfv:cS .i64 (AE Mp c.src+1)=AE Mp c.src+1:=by rw[z_];exact cu (by omega) (by omega)
     have Kc:∀x,AE (XA Mp c.src (AE Mp c.src+1)) x=(o8 (g.cj.take (i+1)) nm x:Int):=by
      intro x;rw[abY,J_ x,h1,hM x,hM c.src];by_cases UZ:x=c.src
      .subst UZ;simp
      .rw[cm UZ];have:¬c.src=x:=λe=>UZ e.symm
       simp[this]
     rcases BX c.src (AE Mp c.src+1) Mp 0 with⟨j,q1,q2,q3⟩|⟨q1,q2,q3⟩
     .rw[Xs]at q1;rw[q1]at hlk;simp[cf,g2,g3,g5,g13,g14,g15,hi,mO,cz,jH,Nl,jm,hf,h1,dN,hlk,q1,q3,hfv];exact⟨(db.app _).set (by decide) _,(eo.app _).set (by decide) _,_,⟨ck,(pI.app _).new _⟩,Kc⟩
     .rw[q1]at hlk;simp[cf,g2,g3,g5,g13,g14,g15,hi,mO,cz,jH,Nl,jm,hf,h1,dN,hlk,q1,q3,hfv];exact⟨(db.app _).set (by decide) _,(eo.app _).set (by decide) _,_,⟨ck+1,(pI.app _).new _⟩,Kc⟩
   .simp[cf,g2,g3,g5,g14,g15];rw[Xx]at hM;exact⟨db,eo,Mp,⟨ck,pI⟩,hM⟩
  .rintro o kH h1 rfl ⟨rfl,cf,g2,g3,g5,db,eo,Mp,ck,pI,hM⟩;have a1:=eo.fh;simp[cf,g3,a1,hq];generalize o9:cO cx M (.loop _) _=YY;refine pU o9
    (λi s dn=>s.length=52/\gt s 2= .pt 0 0/\gt s 5= .mp 2/\gt s 31= .ls 3 cg false/\gt s 32=g.nodes.length/\gt s 33=i/\At dn 0 (.row [k,nn,nm,ky,f,t])/\At dn 2 (.map (yJ Mp) ck)/\∃y,gt s 8=y/\gz dn 2 (p2 (kD bad (g.nodes.take i))) y/\∀k m,y= .sl k 2 0 m false->k≠0/\k≠2)
    (λo s dn=>o= .exit 2/\s.length=52/\∃y,gt s 8=y/\gz dn 2 (p2 (kD bad g.nodes)) y) g.nodes.length (by simp;omega)
    ⟨by simp[cf],by simp[g2],by simp[g5],by simp[cf],by simp[cf],by simp[cf],db,pI,.sc (.slice none 0 0),by simp[cf],.inl ⟨rfl,rfl⟩,λk m e=>by cases e⟩ ?_ ?_
   .clear o9 YY cf g2 g3 g5 db eo pI a1;rintro i fr hp da ⟨cf,g2,g5,g31,g32,g33,db,pI,y,g8,hB,hn⟩;rcases jr jc da with⟨c,hi,hx,hr,cz⟩|rfl
    .have hf:=cG (i:=i) (by omega);have gw:=yH (bad:=bad) hx;have l2:=pI.lt;have uV:∀y',(hp++y')[0]?=some (.row [.sc (.int .i64 k),nn,nm,ky,f,t]):=λy'=>(db.app y').fh
     have jH:∀y' kz,(hp++y')[0]'kz= .row [.sc (.int .i64 k),nn,nm,ky,f,t]:=λy' kz=>(db.app y').get kz
     have Nl:∀y',(hp++y')[2]?=some (.map (yJ Mp) ck):=λy'=>(pI.app y').fh
     have aq2:∀y' kz,(hp++y')[2]'kz= .map (yJ Mp) ck:=λy' kz=>(pI.app y').get kz
     have an:∀y',(hp++[y'])[hp.length]?=some y':=λy=>by simp
     have jm:∀y' kz,(hp++[y'])[hp.length]'kz=y':=λy kz=>by simp
     have dN:=Nk Mp;obtain⟨bb,hlk⟩:=abZ Mp c.id;have lC:bad c=decide (nn<AE Mp c.id):=by rw[<-Aa,hM];rfl
     have q1:=λops d rest fr h=>tZ (λv=>hB.np v) (M true) ops d rest fr h
     have nQ:=hB.cls;unfold dh iD eU at hr cz;by_cases hc:nn<AE Mp c.id
     .rw[lC,cq (by simpa using hc)]at gw;obtain⟨j,ry,b1,b2,b3,b4⟩:=mF (hB.grow [.row [c.id,.ls 1 (fj c.labels) false,.ls 6 (d_ c.props) false]]) (by have:=r_ bad (g.nodes.take i);rw[Xf]at this;omega) c.id 0;have c0:=b3 0 _ (db.app _).fh λk n e=>((hn k n e).1).symm
      have c2:=b3 2 _ (pI.app _).fh λk n e=>((hn k n e).2).symm
      simp only[Zp,Zv,Zw,Zu,Xe,Xq,Xs]at b1 b4;rw[<-gw]at b2;simp[cf,g2,g5,g31,g32,g33,g8,hi,hq,cz,jH,Nl,jm,hf,dN,hlk,hc,q1,b1];exact⟨c0,c2,b2,by omega⟩
     .rw[lC,cm (by simpa using hc),Yr]at gw;simp[cf,g2,g5,g31,g32,g33,g8,hi,hq,cz,jH,Nl,jm,hf,dN,hlk,hc];exact⟨db.app _,pI.app _,by rw[gw];exact hB.grow _,hn⟩
    .simp[cf,g32,g33,g8];rw[Xx]at hB;exact hB
   .rintro o gO hp rfl ⟨rfl,cf,y,g8,hB⟩;have q1:=λops d rest fr h=>tZ (λv=>hB.np v) (M true) ops d rest fr h
    have nQ:=hB.cls;simp[cf,g8,q1];exact gq hB
 obtain⟨y,h',e,hB⟩:=main;exact gD (r:=y) (h':=h') (n:=n) ⟨f160.ntmps,(f160.body).getD .skip,[.tmp 4]⟩ (by kernel_rfl) (by kernel_rfl) rfl (by kernel_rfl) (by simp[f160]) (mP _ _) e (fJ (n:=7) (by omega) (ua _) (oM _) hB) b h
end
end Go.Proofs.YtmfohnojaginjaaGreatDoor
