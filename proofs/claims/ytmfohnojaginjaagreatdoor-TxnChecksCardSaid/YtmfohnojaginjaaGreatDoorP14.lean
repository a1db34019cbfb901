/- Part of the proof. -/
import Derived.Test.YtmfohnojaginjaaGreatDoorP13
set_option linter.all false
set_option maxHeartbeats 32000000
set_option maxRecDepth 100000
namespace Go.Proofs.YtmfohnojaginjaaGreatDoor
open Go Go.Ae Go.Proofs.Tryz
section
attribute [local simp] cn eD
structure Nd where
 id:Int
 labels:List ByteArray
 props:List fZ
structure Ed where
 id:Int
 src:Int
 dst:Int
 type:ByteArray
 props:List fZ
structure Gr where
 nodes:List Nd
 cj:List Ed
 nn:Int
 ne:Int
def dh(n:Nd):LA:=[.sc (.int .i64 n.id),iD n.labels false,eU n.props false]
def dP(e:Ed):LA:=[.sc (.int .i64 e.id),.sc (.int .i64 e.src),.sc (.int .i64 e.dst),.sc (.string e.type),eU e.props false]
def f_(l:List Nd):List LA:=l.map dh
def fV(l:List Ed):List LA:=l.map dP
def dy(l:List Nd):AV:= .ls 3 (f_ l) false
def dz(l:List Ed):AV:= .ls 5 (fV l) false
def cl(g:Gr):LA:=[dy g.nodes,dz g.cj,.sc (.int .i64 g.nn),.sc (.int .i64 g.ne)]
def dC(l:List Nd):(f_ l).length=l.length:=by simp[f_]
def iJ(l:List Nd)(i:Nat):(f_ l)[i]?=(l[i]?).map dh:=by simp[f_]
def dD(l:List Ed):(fV l).length=l.length:=by simp[fV]
def jy(l:List Ed)(i:Nat):(fV l)[i]?=(l[i]?).map dP:=by simp[fV]
section
variable {C : Cx} {cal : FuncId -> LA -> Hp -> Option (AV × Hp)} {ops : Array Oper}
def yq{x:AV}(hx:∀v,x≠ .pn v)(d:Tmp)(rest:List Oper)(fr:LA)(h:Hp):sY C cal ops (some d) rest fr (some (x,h))=dr C cal ops rest (fr.set d x,h):=by
 cases x<;>first|rfl|exact absurd rfl (hx _)
def tG{x:AV}(hx:∀v,x≠ .pn v)(d:Tmp)(rest:List Oper)(fr:LA)(h:Hp):vV C cal ops (some d) rest fr (some (x,h))=cp C cal ops rest (fr.set d x,h):=by
 cases x<;>first|rfl|exact absurd rfl (hx _)
end
def kV{x:AV}(hx:∀v,x≠ .pn v):∀(cal:FuncId->LA->Hp->Option (AV × Hp))(ops:Array Oper)(d:Tmp)(rest:List Oper)(fr:LA)(h:Hp),sY cx cal ops (some d) rest fr (some (x,h))=dr cx cal ops rest (fr.set d x,h):=λ_ _ d rest fr h=>yq hx d rest fr h
def yr{x:AV}(hx:∀v,x≠ .pn v):∀(cal:FuncId->LA->Hp->Option (AV × Hp))(ops:Array Oper)(d:Tmp)(rest:List Oper)(fr:LA)(h:Hp),vV cx cal ops (some d) rest fr (some (x,h))=cp cx cal ops rest (fr.set d x,h):=λ_ _ d rest fr h=>tG hx d rest fr h
def cM(l:List Nd)(x:Int):Option Nd:=l.find? λn=>n.id==x
def zc(l:List Nd)(x:Int)(i:Nat):Option Nd:=cM (l.drop i) x
def DT(l:List Nd)(x:Int)(i:Nat)(h:l.length<=i):zc l x i=none:=by unfold zc;rw[Zt h];rfl
def Bm{l:List Nd}{x:Int}{i:Nat}{c:Nd}(h:l[i]?=some c):zc l x i=if c.id=x then some c else zc l x (i+1):=by
 obtain⟨k,e⟩:=Za.1 h;unfold zc cM;rw[Zm k,e,List.find?_cons];by_cases q:c.id=x
 .simp[q]
 .have q':(c.id==x)=false:=by simpa using q
  simp[q,q']
def zV(o:Option Nd):LA:=match o with
 |none=> [.sc (.int .i64 0),.sc (.slice none 0 0),.sc (.slice none 0 0)]
 |some n=>dh n
@[simp] def aeK(o:Option Nd):(zV o).length=3:=by cases o<;>rfl
def YP(o:Option Nd)(b:Bool):[AV.ag (zV o),.sc (.bool b)].all dk=true:=by cases o<;>rfl
def Hm{h:Hp}{n:Nat}:∀{xs:LA},xs.all dk=true->xs.mapM (cD h (n+2))=some xs
 | [],_=>rfl
 |
  x::xs,hc=>by
  rw[Zn,Zh]at hc;rw[Zo,rJ hc.1,Hm hc.2];rfl
def Tj{f:FuncId}{args:LA}{n:Nat}{xs:LA}(fi:Fi)(hF:cx.F f=some fi)(gI:sZ cx fi.body=true)(hs:cx.oW f=none)(hi:cx.inl f=false)(hl:args.length<=fi.ntmps)(hc:args.all dk=true)(hr:xs.all dk=true)(hb:(dL fi.res (n fi.body (args++List.replicate (fi.ntmps-args.length) .un,[]))).map Prod.fst=some (.tp xs))(b:Bool)(h:Hp)(ht:jx f=true:=by decide):ch cx (n+1) b f args h=some (.tp xs,h):=by
 simp only[Ze]at hb;obtain⟨⟨r0,h'⟩,hb,rfl⟩:=hb;exact gD fi hF gI hs hi hl hc hb (by show(xs.mapM (cD h' 7)).map AV.tp=_;rw[Hm hr];rfl) b h ht
def tA{f:FuncId}{args:LA}{n:Nat}{xs:LA}(fn:Func)(res:List Rv)(hc:args.all dk=true)(hr:xs.all dk=true)(hb:(dL res (n ((fn.body).getD .skip) (args++List.replicate (fn.ntmps-args.length) .un,[]))).map Prod.fst=some (.tp xs))(b:Bool)(h:Hp)(ht:jx f=true:=by decide)(hs:cx.oW f=none:=by rfl)(hF:cx.F f=some ⟨fn.ntmps,(fn.body).getD .skip,res⟩:=by kernel_rfl)(gI:sZ cx ((fn.body).getD .skip)=true:=by kernel_rfl)(hi:cx.inl f=false:=by kernel_rfl)(hl:Nat.ble args.length fn.ntmps=true:=by rfl):ch cx (n+1) b f args h=some (.tp xs,h):=
 Tj ⟨fn.ntmps,(fn.body).getD .skip,res⟩ hF gI hs hi (Nat.le_of_ble_eq_true hl) hc hr hb b h ht
def Bn(g:Gr)(x:Int):[AV.ag (cl g),.sc (.int .i64 x)].all dk=true:=rfl
def ir(n:Nat)(b:Bool)(g:Gr)(x:Int)(h:Hp)(hl:g.nodes.length<=1000000000000000):
 ch cx (n+1) b 143 [.ag (cl g),x] h=some (.tp [.ag (zV (cM g.nodes x)),.sc (.bool (cM g.nodes x).isSome)],h):=by
 refine tA (xs:=[.ag (zV (cM g.nodes x)),.sc (.bool (cM g.nodes x).isSome)]) f143 [.cell 4 3 true,.tmp 5] (Bn _ _) (by exact YP _ _) ?_ b h;have hq:=dC g.nodes;have hg:=iJ g.nodes;unfold cl dy;generalize f_ g.nodes=cg at hq hg;simp[f143];refine pQ
  (λi s dn=>cM g.nodes x=zc g.nodes x i/\s.length=28/\gt s 1=x/\gt s 2= .pt 0 0/\gt s 4= .pt 1 0/\gt s 6=i/\dn=[.row [.ls 3 cg false,dz g.cj,g.nn,g.ne],.row [(0:Int),(),()]])
  (λo s dn=>s.length=28/\gt s 4= .pt 1 0/\((o= .exit 0/\cM g.nodes x=none/\∃a b,dn=[.row a,.row b]/\b.length=3)\/(o= .ret/\∃c a,cM g.nodes x=some c/\gt s 5=true/\dn=[.row a,.row (dh c)]))) g.nodes.length (by simp;omega) (by simp[zc]) ?_ ?_
 .rintro i fr h da ⟨ho,cf,h1,h2,h4,h6,hh⟩;subst hh;by_cases hi:i<g.nodes.length
  .obtain⟨c,hx⟩:=eA hi;have hr:cg[i]?=some [.sc (.int .i64 c.id),iD c.labels false,eU c.props false]:=by rw[hg,hx];rfl
   have cz:=gA hr
   rw[Bm hx]at ho;have hf:cS .i64 ((i:Int)+1)=((i+1:Nat):Int):=cu (by omega) (by omega);by_cases hk:c.id=x
   .rw[cq hk]at ho;simp[cf,h1,h2,h4,h6,hi,hq,cz,hk,ho,dh]
   .rw[cm hk]at ho;simp[cf,h1,h2,h4,h6,hi,hq,cz,hk,hf];exact ho
  .have zz:cM g.nodes x=none:=by rw[ho,DT _ _ i (by omega)]
   simp[cf,h2,h4,h6,hi,hq,zz];exact gq rfl
 .rintro o fr h hn ⟨cf,h4,⟨rfl,hz,a,b',hh,hb⟩|⟨rfl,c,a,hz,h5,hh⟩⟩
  .subst hh;simp[cf,h4,hz,hb,zV]
  .subst hh;simp[h4,h5,hz,zV,dh]
structure qw (D:Nat)(g:Gr):Prop where
 nl:g.nodes.length<=1000000000000000
 el:g.cj.length<=1000000000000000
 ns:∀n∈g.nodes,n.labels.length<=1000000000000000/\n.props.length<=1000000000000000/\RZ D n.props
 es:∀e∈g.cj,e.props.length<=1000000000000000/\RZ D e.props
def mT(g:Gr)(i:Nat):Int:=match g.nodes[i]? with
 |none=>0
 |some n=>if 0<i/\(∃m,g.nodes[i-1]?=some m/\n.id<=m.id)then 26
  else if n.id<1\/g.nn<=n.id then 1 else gk n.labels n.props
def lV(g:Gr)(i:Nat):Int:=match g.cj[i]? with
 |none=>0
 |some e=>if 0<i/\(∃m,g.cj[i-1]?=some m/\e.id<=m.id)then 26
  else if e.id<1\/g.ne<=e.id then 1
  else if(cM g.nodes e.src).isSome=false\/(cM g.nodes e.dst).isSome=false then 10
  else if fR e.type=false then 6 else gk [] e.props
def Tk(N D:Nat)(b:Bool)(g:Gr)(i:Nat)(h:Hp)(hb:qw D g)(hi:i<g.nodes.length):
 ch cx (N+2*D+7) b 101 [.ag (cl g),i] h=some (.sc (.int .i64 (mT g i)),h):=by
 refine eR (n:=N+2*D+6) f101 [.tmp 4] (Bn _ _) rfl ?_ b h;have nh:=hb.nl;obtain⟨c,hx⟩:=eA hi;have Bo:=hb.ns c (Zi hx);have aa:=λb h=>DR N D b (some false) c.labels c.props false h (by intro e;cases e) Bo.1 Bo.2.1 Bo.2.2
 have hq:=dC g.nodes;have hg:=iJ g.nodes;unfold cl dy;generalize f_ g.nodes=cg at hq hg;generalize N+2*D+6=M at aa;have hr:cg[i]?=some [.sc (.int .i64 c.id),iD c.labels false,eU c.props false]:=by rw[hg,hx];rfl
 have cz:=gA hr
 unfold mT;rw[hx];simp only[Hh,iD,eU]at aa hr cz|-;generalize fj c.labels=r1,d_ c.props=r2 at aa hr cz;generalize gk c.labels c.props=pe at aa;have hii:¬(i:Int)<0:=by omega
 obtain rfl|⟨j,R6⟩:i=0\/∃j,i=j+1:=by cases i with|zero=>exact .inl rfl|succ j=>exact .inr ⟨j,rfl⟩
 .rw[cm (by rintro⟨a,_⟩;omega)];have p8:0< (g.nodes.length:Int):=by omega
  by_cases k1:c.id<1
  .simp[f101,hq,hi,cz,k1]
  by_cases k2:g.nn<=c.id
  .simp[f101,hq,hi,cz,k1,k2]
  .simp[f101,hq,hi,cz,k1,k2,aa]
 .obtain⟨m,hm⟩:∃m,g.nodes[j]?=some m:=⟨_,Zb (by omega)⟩;have hs:cg[j]?=some [.sc (.int .i64 m.id),iD m.labels false,eU m.props false]:=by rw[hg,hm];rfl
  have pR:=gA hs
  have hf:cS .i64 ((i:Int)-1)=(j:Int):=by rw[show((i:Int)-1)=((j:Nat):Int) by omega];exact cu (by omega) (by omega)
  have hp:0<i:=by omega
  have hj:j<g.nodes.length:=by omega
  by_cases k0:c.id<=m.id
  .rw[cq ⟨by omega,m,by rw[show i-1=j by omega];exact hm,k0⟩];simp[f101,hq,hi,hj,cz,pR,hf,hp,k0]
  rw[cm (by rintro⟨_,m',e,k⟩;rw[show i-1=j by omega,hm]at e;cases e;exact k0 k)];by_cases k1:c.id<1
  .simp[f101,hq,hi,hj,cz,pR,hf,hp,k0,k1]
  by_cases k2:g.nn<=c.id
  .simp[f101,hq,hi,hj,cz,pR,hf,hp,k0,k1,k2]
  .simp[f101,hq,hi,hj,cz,pR,hf,hp,k0,k1,k2,aa]
def Tl(N D:Nat)(b:Bool)(g:Gr)(i:Nat)(h:Hp)(hb:qw D g)(hi:i<g.cj.length):
 ch cx (N+2*D+7) b 102 [.ag (cl g),i] h=some (.sc (.int .i64 (lV g i)),h):=by
 refine eR (n:=N+2*D+6) f102 [.tmp 4] (Bn _ _) rfl ?_ b h;have nh:=hb.el;obtain⟨c,hx⟩:=eA hi;have Bo:=hb.es c (Zi hx);have aa:=λb h=>DR N D b none [] c.props false h (λ_=>rfl) (by simp) Bo.1 Bo.2
 have af:=λb x h=>ir (N+2*D+5) b g x h hb.nl
 have ah:=λb x h=>Bj (N+2*D+4) b x h
 have hq:=dD g.cj;have hg:=jy g.cj;unfold cl at af|-;unfold dz at af|-;generalize fV g.cj=cg at hq hg af;simp only[dy]at af|-;generalize f_ g.nodes=kM at af;generalize N+2*D+6=M at aa af ah;have hr:cg[i]?=some [.sc (.int .i64 c.id),.sc (.int .i64 c.src),.sc (.int .i64 c.dst),.sc (.string c.type),eU c.props false]:=by rw[hg,hx];rfl
 have cz:=gA hr
 unfold lV;rw[hx];simp only[Hh,eU]at aa hr cz|-;generalize d_ c.props=r2 at aa hr cz;generalize gk [] c.props=pe at aa;have Hn:=λb h=>af b c.src h
 have J0:=λb h=>af b c.dst h
 generalize cM g.nodes c.src=na at Hn|-;generalize cM g.nodes c.dst=nb at J0|-;have W3:=λb h=>ah b c.type h
 generalize fR c.type=nt at W3|-;generalize na.isSome=ba at Hn|-;generalize nb.isSome=bb at J0|-;clear af ah;obtain rfl|⟨j,R6⟩:i=0\/∃j,i=j+1:=by cases i with|zero=>exact .inl rfl|succ j=>exact .inr ⟨j,rfl⟩
 .rw[cm (by rintro⟨a,_⟩;omega)];have p8:0< (g.cj.length:Int):=by omega
  by_cases k1:c.id<1
  .simp[f102,hq,hi,cz,k1]
  by_cases k2:g.ne<=c.id
  .simp[f102,hq,hi,cz,k1,k2]
  cases ba
  .simp[f102,hq,hi,cz,k1,k2,Hn,J0]
  cases bb
  .simp[f102,hq,hi,cz,k1,k2,Hn,J0]
  cases nt
  .simp[f102,hq,hi,cz,k1,k2,Hn,J0,W3]
  .simp[f102,hq,hi,cz,k1,k2,Hn,J0,W3,aa]
 .obtain⟨m,hm⟩:∃m,g.cj[j]?=some m:=⟨_,Zb (by omega)⟩;have hs:cg[j]?=some [.sc (.int .i64 m.id),.sc (.int .i64 m.src),.sc (.int .i64 m.dst),.sc (.string m.type),eU m.props false]:=by rw[hg,hm];rfl
  have pR:=gA hs
  have hf:cS .i64 ((i:Int)-1)=(j:Int):=by rw[show((i:Int)-1)=((j:Nat):Int) by omega];exact cu (by omega) (by omega)
  have hp:0<i:=by omega
  have hj:j<g.cj.length:=by omega
  by_cases k0:c.id<=m.id
  .rw[cq ⟨by omega,m,by rw[show i-1=j by omega];exact hm,k0⟩];simp[f102,hq,hi,hj,cz,pR,hf,hp,k0]
  rw[cm (by rintro⟨_,m',e,k⟩;rw[show i-1=j by omega,hm]at e;cases e;exact k0 k)];by_cases k1:c.id<1
  .simp[f102,hq,hi,hj,cz,pR,hf,hp,k0,k1]
  by_cases k2:g.ne<=c.id
  .simp[f102,hq,hi,hj,cz,pR,hf,hp,k0,k1,k2]
  cases ba
  .simp[f102,hq,hi,hj,cz,pR,hf,hp,k0,k1,k2,Hn,J0]
  cases bb
  .simp[f102,hq,hi,hj,cz,pR,hf,hp,k0,k1,k2,Hn,J0]
  cases nt
  .simp[f102,hq,hi,hj,cz,pR,hf,hp,k0,k1,k2,Hn,J0,W3]
  .simp[f102,hq,hi,hj,cz,pR,hf,hp,k0,k1,k2,Hn,J0,W3,aa]
def tH(f:Nat->Int)(i:Nat):Nat->Int
 |0=>0
 |k+1=>if f i=0 then tH f (i+1) k else f i
def rK(f:Nat->Int){i n:Nat}(h:i<n):tH f i (n-i)=if f i=0 then tH f (i+1) (n-(i+1))else f i:=by
 obtain⟨k,rfl⟩:∃k,n=i+1+k:=⟨n-(i+1),by omega⟩;rw[show i+1+k-i=k+1 by omega,show i+1+k-(i+1)=k by omega];rfl
def yt(g:Gr):Int:=tH (lV g) 0 g.cj.length
def tI(g:Gr):Int:=tH (mT g) 0 g.nodes.length
def dQ(g:Gr):Int:=
 if 2000<g.nodes.length\/4000<g.cj.length then 4
 else if g.nn<1\/1000001<g.nn\/g.ne<1\/1000001<g.ne then 1
 else if tI g=0 then yt g else tI g
def MH(g:Gr):[AV.ag (cl g)].all dk=true:=rfl
def uA(N D:Nat)(b:Bool)(g:Gr)(h:Hp)(hb:qw D g):
 ch cx (N+2*D+8) b 59 [.ag (cl g)] h=some (.sc (.int .i64 (dQ g)),h):=by
 refine eR (n:=N+2*D+7) f59 [.tmp 2] (MH _) rfl ?_ b h;have aa:=λb i h(hi:i<g.nodes.length)=>Tk N D b g i h hb hi
 have af:=λb i h(hi:i<g.cj.length)=>Tl N D b g i h hb hi
 have nh:=hb.nl;have ni:=hb.el;have xe:=dC g.nodes;have mO:=dD g.cj;unfold dQ;generalize eF:tI g=ne,xf:yt g=ee;unfold tI at eF;unfold yt at xf;generalize mT g=fn at aa eF;generalize lV g=fe at af xf;unfold cl dy dz at aa af|-;generalize f_ g.nodes=kM at xe aa af;generalize fV g.cj=cY at mO aa af;generalize N+2*D+7=M at aa af;obtain⟨nodes,cj,nn,en⟩:=g;simp only at *;by_cases k1:2000<nodes.length
 .simp[f59,xe,k1,show 2000< (nodes.length:Int) by omega]
 have OM:¬2000< (nodes.length:Int):=by omega
 by_cases k2:4000<cj.length
 .simp[f59,xe,mO,k1,OM,k2,show 4000< (cj.length:Int) by omega]
 have Tm:¬4000< (cj.length:Int):=by omega
 by_cases k3:nn<1
 .simp[f59,xe,mO,k1,OM,k2,Tm,k3]
 by_cases k4:1000001<nn
 .simp[f59,xe,mO,k1,OM,k2,Tm,k3,k4]
 by_cases k5:en<1
 .simp[f59,xe,mO,k1,OM,k2,Tm,k3,k4,k5]
 by_cases k6:1000001<en
 .simp[f59,xe,mO,k1,OM,k2,Tm,k3,k4,k5,k6]
 simp[f59,xe,mO,k1,OM,k2,Tm,k3,k4,k5,k6];refine pQ
  (λi s dn=>ne=tH fn i (nodes.length-i)/\s.length=61/\gt s 1= .pt 0 0/\gt s 3=i/\dn=[.row [.ls 3 kM false,.ls 5 cY false,nn,en]])
  (λo s dn=>s.length=61/\((o= .exit 0/\ne=0/\gt s 1= .pt 0 0/\dn=[.row [.ls 3 kM false,.ls 5 cY false,nn,en]])\/(o= .ret/\ne≠0/\gt s 2=ne))) nodes.length (by simp;omega) (by simp[eF]) ?_ ?_
 .rintro i fr h da ⟨ho,cf,h1,h3,hh⟩;subst hh;by_cases hi:i<nodes.length
  .have rz:=λb h=>aa b i h hi
   rw[rK fn hi]at ho;have hf:cS .i64 ((i:Int)+1)=((i+1:Nat):Int):=cu (by omega) (by omega);by_cases hk:fn i=0
   .rw[cq hk]at ho;simp[cf,h1,h3,hi,xe,rz,hk,hf];exact ho
   .rw[cm hk]at ho;simp[cf,h1,h3,hi,xe,rz,hk,ho]
  .rw[show nodes.length-i=0 by omega]at ho;have yn:ne=0:=ho;simp[cf,h1,h3,hi,xe,yn]
 .rintro o fr h hn ⟨cf,⟨rfl,hz,h1,hh⟩|⟨rfl,hz,h2⟩⟩
  .subst hh;clear eF hn;subst hz;simp;refine pQ
    (λi s dn=>ee=tH fe i (cj.length-i)/\s.length=61/\gt s 1= .pt 0 0/\gt s 5=i/\dn=[.row [.ls 3 kM false,.ls 5 cY false,nn,en]])
    (λo s _=>s.length=61/\((o= .exit 2/\ee=0)\/(o= .ret/\gt s 2=ee))) cj.length (by simp;omega) (by simp[xf,cf,h1]) ?_ ?_
   .rintro i fr h da ⟨ho,cf,h1,h5,hh⟩;subst hh;by_cases hi:i<cj.length
    .have rz:=λb h=>af b i h hi
     rw[rK fe hi]at ho;have hf:cS .i64 ((i:Int)+1)=((i+1:Nat):Int):=cu (by omega) (by omega);by_cases hk:fe i=0
     .rw[cq hk]at ho;simp[cf,h1,h5,hi,mO,rz,hk,hf];exact ho
     .rw[cm hk]at ho;simp[cf,h1,h5,hi,mO,rz,hk,ho]
    .rw[show cj.length-i=0 by omega]at ho;have yn:ee=0:=ho;simp[cf,h1,h5,hi,mO,yn]
   .rintro o fr h hn ⟨cf,⟨rfl,hz⟩|⟨rfl,h2⟩⟩
    .simp[cf,hz]
    .simp[h2]
  .simp[h2,hz]
@[simp] def acp(c:Nd):(dh c).length=3:=rfl
@[simp] def acq(c:Ed):(dP c).length=5:=rfl
@[simp] def afm(c:Nd):(dh c).take 3=dh c:=rfl
@[simp] def afd(c:Ed):(dP c).take 5=dP c:=rfl
@[simp] def akh :cx.P.underlying 215=some (.int .u64):=by kernel_rfl
def uB(l:List Nd):Prop:=∀(i j:Nat)(a b:Nd),l[i]?=some a->l[j]?=some b->i<j->a.id<b.id
def Tn(l:List Nd)(x:Int)(f:FuncId):[dy l,.sc (.int .i64 x),.fn f []].all dk=true:=rfl
def Tp(l:List Nd)(x:Int):[dy l,.sc (.int .i64 x)].all dk=true:=rfl
def ac7(n:Nat)(b:Bool)(c:Nd)(x:Int)(h:Hp):ch cx (n+3) b 154 [.ag (dh c),x] h=some (.sc (.int .i64 (dE c.id x)),h++[.row (dh c)]):=by
 rw[WX (n:=n+2) f154 [.tmp 4]];have aa:=λb h=>gT n b c.id x h
 generalize dE c.id x=r at aa;simp[f154,dh,aa]
structure OO (l:List Nd)(x:Int)(lo:Nat):Prop where
 le:lo<=l.length
 lt:∀(i:Nat)(a:Nd),l[i]?=some a->i<lo->a.id<x
 ge:∀(i:Nat)(a:Nd),l[i]?=some a->lo<=i->x<=a.id
def Ho{l:List Nd}{x:Int}{i:Nat}{a:Nd}(h:l[i]?=some a)(e:a.id=x):(cM l x).isSome=true:=by
 unfold cM;rw[List.find?_isSome];exact⟨a,Zi h,by simpa using e⟩
def OO.found{l:List Nd}{x:Int}{lo:Nat}(hs:uB l)(h:OO l x lo):(cM l x).isSome=true↔∃a:Nd,l[lo]?=some a/\a.id=x:=by
 constructor
 .intro k;unfold cM at k;rw[List.find?_isSome]at k;obtain⟨a,ha,e⟩:=k;obtain⟨i,hi⟩:=List.mem_iff_getElem?.1 ha;simp only[beq_iff_eq]at e;have h1:¬i<lo:=λq=>by have:=h.lt i a hi q;omega
  by_cases h2:i=lo
  .subst h2;exact⟨a,hi,e⟩
  .obtain⟨c,hc⟩:∃c,l[lo]?=some c:=⟨_,Zb (by have:=(Za.1 hi).1;omega)⟩;have h3:=hs lo i c a hc hi (by omega);have h4:=h.ge lo c hc (Xc _);omega
 .rintro⟨a,ha,e⟩;exact Ho ha e
def Db(n:Nat)(l:List Nd)(x:Int)(hl:l.length<=1000000000000000)(hs:uB l):
 ∃r,(∃lo:Nat,OO l x lo/\r= .tp [lo,.sc (.bool (cM l x).isSome)])/\∀b h,ch cx (n+4) b 153 [dy l,x,.fn 154 []] h=some (r,h):=by
 refine gP (f:=153) (n:=n+3) (args:=[dy l,.sc (.int .i64 x),.fn 154 []]) (λr=>∃lo:Nat,OO l x lo/\r= .tp [lo,.sc (.bool (cM l x).isSome)]) ⟨f153.ntmps,(f153.body).getD .skip,[.tmp 6,.tmp 7]⟩ (by kernel_rfl) (by kernel_rfl) rfl (by kernel_rfl) (by simp[f153]) (Tn _ _ _) ?_;have hq:=dC l;have hg:=iJ l;have aa:=λb c h=>ac7 n b c x h
 unfold dy;generalize f_ l=cg at hq hg;generalize n+3=M at aa;simp[f153];refine ej (C:=cx) (G:=λr=>∃r0 h',dL _ (eX _ _ (du _ r) _)=some (r0,h')/\∃r',cD h' 8 r0=some r'/\∃lo:Nat,OO l x lo/\r'= .tp [lo,.sc (.bool (cM l x).isSome)])
  (λk s=>∃lo hi:Nat,s.1.length=49/\gt s.1 0= .ls 3 cg false/\gt s.1 1=x/\gt s.1 2= .fn 154 []/\gt s.1 8=l.length/\gt s.1 9=lo/\gt s.1 10=hi
   /\lo<=hi/\hi<=l.length/\hi-lo+k<=l.length/\(∀(i:Nat)(a:Nd),l[i]?=some a->i<lo->a.id<x)/\(∀(i:Nat)(a:Nd),l[i]?=some a->hi<=i->x<=a.id))
  (λo s=>o= .exit 0/\s.1.length=49/\gt s.1 0= .ls 3 cg false/\gt s.1 1=x/\gt s.1 2= .fn 154 []/\gt s.1 8=l.length/\∃lo:Nat,gt s.1 9=lo/\OO l x lo) l.length (by simp;omega) ?_ ?_ ?_
 .refine⟨0,l.length,?_⟩;simp[hq];intro i a ha q;have:=(Za.1 ha).1;omega
 .rintro k fr h da ⟨lo,hi,cf,h0,h1,h2,h8,h9,lN,q1,q2,q3,q4,q5⟩;simp only at cf h0 h1 h2 h8 h9 lN;by_cases hh:lo<hi
  .have Hq:lo<=(lo+hi)/2:=by omega
   have GG:(lo+hi)/2<hi:=by omega
   generalize Hr:(lo+hi)/2=eY at Hq GG;obtain⟨c,hc⟩:∃c,l[eY]?=some c:=⟨_,Zb (by omega)⟩;have hr:cg[eY]?=some (dh c):=by rw[hg,hc];rfl
   have cz:=gA hr
   have e1:cS .i64 ((lo:Int)+hi)=((lo+hi:Nat):Int):=by rw[show(lo:Int)+hi=((lo+hi:Nat):Int) by omega];exact cu (by omega) (by omega)
   have e2:cS .u64 ((lo:Int)+hi)=(lo:Int)+hi:=jX (by omega) (by omega);have e3:((lo:Int)+hi)/2=(eY:Int):=by omega
   have e4:cS .i64 (eY:Int)=eY:=cu (by omega) (by omega);have e5:cS .i64 ((eY:Int)+1)=((eY+1:Nat):Int):=cu (by omega) (by omega);have MI:eY<l.length:=Yo GG q2;by_cases hk:dE c.id x<0
   .simp[cf,h0,h1,h2,h8,h9,lN,hh,e1,e2,e3,e4,e5,hq,MI,cz,aa,hk,IntKind.bits];clear e1 e2 e3 e4 e5;refine⟨by omega,eY+1,by omega,hi,rfl,by omega,by omega,by omega,?_,q5⟩;intro i a ha q;have rz:c.id<x:=by unfold dE at hk;split at hk<;>omega
    by_cases h3:i=eY
    .subst h3;rw[hc]at ha;cases ha;exact rz
    .have:=hs i eY a c ha hc (by omega);omega
   .simp[cf,h0,h1,h2,h8,h9,lN,hh,e1,e2,e3,e4,hq,MI,cz,aa,hk,IntKind.bits];clear e1 e2 e3 e4 e5;refine⟨by omega,lo,rfl,eY,rfl,by omega,by omega,by omega,q4,?_⟩;intro i a ha q;have rz:x<=c.id:=by unfold dE at hk;split at hk<;>omega
    by_cases h3:i=eY
    .subst h3;rw[hc]at ha;cases ha;exact rz
    .have:=hs eY i c a hc ha (by omega);omega
  .have R7:lo=hi:=by omega
   subst R7;simp[cf,h0,h1,h2,h8,h9,lN];exact⟨lo,rfl,q2,q4,q5⟩
 .rintro o fr h hn ⟨rfl,cf,h0,h1,h2,h8,lo,h9,hL⟩;simp only at cf h0 h1 h2 h8 h9;have uC:=hL.found hs;have zd:=hL.le;by_cases hh:lo<l.length
  .obtain⟨c,hc⟩:=eA hh;have hr:cg[lo]?=some (dh c):=by rw[hg,hc];rfl
   have cz:=gA hr
   have ac8:(cM l x).isSome=decide (dE c.id x=0):=by
    rw[Bool.eq_iff_iff,uC,decide_eq_true_iff];rw[hc];unfold dE;constructor
    .rintro⟨a,ha,e⟩;cases ha;rw[cm (by omega),cm (by omega)]
    .intro e;refine⟨c,rfl,?_⟩;split at e<;>(try split at e)<;>omega
   rw[ac8];simp[cf,h0,h1,h2,h8,h9,hh,hq,cz,aa];exact gq ⟨_,rfl,lo,hL,rfl⟩
  .have R7:lo=l.length:=by omega
   have ac8:(cM l x).isSome=false:=by
    rw[Bool.eq_false_iff];intro e;obtain⟨a,ha,_⟩:=uC.1 e;have:=(Za.1 ha).1;omega
   rw[ac8];simp[cf,h8,h9,hh];exact gq ⟨_,rfl,lo,hL,rfl⟩
def afH(n:Nat)(b:Bool)(l:List Nd)(x:Int)(h:Hp)(hl:l.length<=1000000000000000)(hs:uB l):
 ch cx (n+5) b 93 [dy l,x] h=some (.sc (.bool (cM l x).isSome),h):=by
 refine eR f93 [.tmp 4] (Tp _ _) rfl ?_ b h;obtain⟨r,⟨lo,hL,rfl⟩,aa⟩:=Db n l x hl hs;generalize(cM l x).isSome=r,n+4=M at aa;unfold dy at aa|-;simp[f93,aa]
def ki(f:Nat->Int):∀(k i:Nat),tH f i k=0->∀j,i<=j->j<i+k->f j=0
 |0,i,_,j,h1,h2=>by omega
 |
  k+1,i,h,j,h1,h2=>by
  rw[tH]at h;by_cases hk:f i=0
  .rw[cq hk]at h;by_cases e:i=j
   .subst e;exact hk
   .exact ki f k (i+1) h j (by omega) (by omega)
  .rw[cm hk]at h;exact absurd h hk
def Hs{g:Gr}{i:Nat}{a c:Nd}(ha:g.nodes[i]?=some a)(hc:g.nodes[i+1]?=some c)(h:mT g (i+1)=0):a.id<c.id:=by
 unfold mT at h;rw[hc]at h;simp only at h;split at h
 .exact absurd h (by decide)
 .rename_i k;rw[Nat.add_sub_cancel]at k;by_cases q:c.id<=a.id
  .exact absurd ⟨by omega,a,ha,q⟩ k
  .omega
def xg{g:Gr}(h:tI g=0):uB g.nodes:=by
 have hz:∀j,j<g.nodes.length->mT g j=0:=λj hj=>ki (mT g) g.nodes.length 0 h j (by omega) (by omega)
 intro i j a b ha hb pZ;obtain⟨k,rfl⟩:∃k,j=i+1+k:=⟨j-(i+1),by omega⟩;clear pZ
 induction k generalizing b with
 |zero=>exact Hs ha hb (hz _ (Za.1 hb).1)
 |succ k ih=>
  have hl:=(Za.1 hb).1;obtain⟨c,hc⟩:∃c,g.nodes[i+1+k]?=some c:=⟨_,Zb (by omega)⟩;have h1:=ih c hc;have h2:=Hs hc hb (hz _ hl);omega
def cG{i:Nat}(h:i<=10^15):cS .i64 ((i:Int)+1)=((i+1:Nat):Int):=cu (by omega) (by omega)
def lW{i j:Nat}(e:i=j+1)(h:i<=10^15):cS .i64 ((i:Int)-1)=(j:Int):=by
 subst e;rw[show((j+1:Nat):Int)-1=(j:Int) by omega];exact cu (by omega) (by omega)
def Am(N D:Nat)(b:Bool)(g:Gr)(h:Hp)(hb:qw D g):
 ch cx (N+2*D+8) b 53 [.ag (cl g)] h=some (.sc (.int .i64 (dQ g)),h):=by
 refine eR (n:=N+2*D+7) f53 [.tmp 2] (MH _) rfl ?_ b h;have aa:=λb(n:Nd)h(hn:n∈g.nodes)=>MG (N+1) D b (some false) n.labels n.props false h (by intro e;cases e) (hb.ns n hn).1 (hb.ns n hn).2.1 (hb.ns n hn).2.2
 have af:=λb(e:Ed)h(he:e∈g.cj)=>MG (N+1) D b none [] e.props false h (λ_=>rfl) (by simp) (hb.es e he).1 (hb.es e he).2
 have ah:=λb x h=>wa (N+2*D+5) b x h
 have ai:=λb x h(hs:uB g.nodes)=>afH (N+2*D+2) b g.nodes x h hb.nl hs
 have nh:=hb.nl;have ni:=hb.el;have xe:=dC g.nodes;have mO:=dD g.cj;have hgn:=iJ g.nodes;have pz:=jy g.cj;have MJ:tI g=0->uB g.nodes:=xg;unfold dQ;generalize eF:tI g=ne at MJ;generalize xf:yt g=ee;unfold tI at eF;unfold yt at xf;have Dx:∀i n,g.nodes[i]?=some n->mT g i=if 0<i/\(∃m,g.nodes[i-1]?=some m/\n.id<=m.id)then 26
  else if n.id<1\/g.nn<=n.id then 1 else gk n.labels n.props:=λi n hn=>by unfold mT;rw[hn]
 have Bp:∀i e,g.cj[i]?=some e->lV g i=if 0<i/\(∃m,g.cj[i-1]?=some m/\e.id<=m.id)then 26
  else if e.id<1\/g.ne<=e.id then 1
  else if(cM g.nodes e.src).isSome=false\/(cM g.nodes e.dst).isSome=false then 10
  else if fR e.type=false then 6 else gk [] e.props:=λi n hn=>by unfold lV;rw[hn]
 generalize mT g=fn at eF Dx;generalize lV g=fe at xf Bp;unfold cl dy dz;unfold dy at ai;simp only[Hh,iD,eU]at aa af;generalize f_ g.nodes=kM at xe hgn ai;generalize fV g.cj=cY at mO pz;have e7:N+1+2*D+6=N+2*D+7:=by omega
 simp only[e7]at aa af;generalize N+2*D+7=M at aa af ah ai|-;obtain⟨nodes,cj,nn,en⟩:=g;simp only at *;by_cases k1:2000<nodes.length
 .simp[f53,xe,k1,show 2000< (nodes.length:Int) by omega]
 have OM:¬2000< (nodes.length:Int):=by omega
 by_cases k2:4000<cj.length
 .simp[f53,xe,mO,k1,OM,k2,show 4000< (cj.length:Int) by omega]
 have Tm:¬4000< (cj.length:Int):=by omega
 by_cases k3:nn<1
 .simp[f53,xe,mO,k1,OM,k2,Tm,k3]
 by_cases k4:1000001<nn
 .simp[f53,xe,mO,k1,OM,k2,Tm,k3,k4]
 by_cases k5:en<1
 .simp[f53,xe,mO,k1,OM,k2,Tm,k3,k4,k5]
 by_cases k6:1000001<en
 .simp[f53,xe,mO,k1,OM,k2,Tm,k3,k4,k5,k6]
 simp[f53,xe,mO,k1,OM,k2,Tm,k3,k4,k5,k6];refine pQ
  (λi s dn=>ne=tH fn i (nodes.length-i)/\s.length=135/\gt s 1= .pt 0 0/\gt s 38= .ls 3 kM false/\gt s 39=nodes.length/\gt s 40= .sc (.int .i64 i)/\∃tl,dn= .row [.ls 3 kM false,.ls 5 cY false,nn,en]::tl)
  (λo s dn=>s.length=135/\((o= .exit 0/\ne=0/\gt s 1= .pt 0 0/\∃tl,dn= .row [.ls 3 kM false,.ls 5 cY false,nn,en]::tl)\/(o= .ret/\ne≠0/\gt s 2=ne))) nodes.length (by simp;omega) (by simp[eF]) ?_ ?_
 .rintro i fr h da ⟨ho,cf,h1,YQ,W4,GH,tl,hh⟩;subst hh;have vo:i<=10^15:=Yp da nh;by_cases hi:i<nodes.length
  .rw[rK fn hi]at ho;obtain⟨c,hx⟩:=eA hi;have rz:=λb h=>aa b c h (Zi hx)
   have hr:kM[i]?=some [.sc (.int .i64 c.id),.ls 1 (fj c.labels) false,.ls 6 (d_ c.props) false]:=by rw[hgn,hx];rfl
   have cz:=gA hr
   have hv:=Dx i c hx;generalize gk c.labels c.props=pe at rz hv;clear aa af ah ai Dx Bp MJ;obtain rfl|⟨j,R6⟩:i=0\/∃j,i=j+1:=by cases i with|zero=>exact .inl rfl|succ j=>exact .inr ⟨j,rfl⟩
   .rw[cm (by rintro⟨a,_⟩;omega)]at hv;have p8:0< (nodes.length:Int):=by omega
    by_cases q1:c.id<1
    .have rL:ne=1:=by rw[ho,hv];simp[q1]
     simp[cf,YQ,W4,GH,xe,hi,cz,q1,rL]
    by_cases q2:nn<=c.id
    .have rL:ne=1:=by rw[ho,hv];simp[q1,q2]
     simp[cf,h1,YQ,W4,GH,xe,hi,cz,q1,q2,rL]
    rw[cm (by omega)]at hv;by_cases q3:pe=0
    .rw[hv,cq q3]at ho;simp[cf,h1,YQ,W4,GH,xe,hi,cz,q1,q2,q3,rz];exact⟨ho,rfl⟩
    .rw[hv,cm q3]at ho;simp[cf,h1,YQ,W4,GH,xe,hi,cz,q1,q2,q3,rz,ho]
   .obtain⟨m,hm⟩:∃m,nodes[j]?=some m:=⟨_,Zb (by omega)⟩;have hs:kM[j]?=some [.sc (.int .i64 m.id),iD m.labels false,eU m.props false]:=by rw[hgn,hm];rfl
    have pR:=gA hs
    have hp:0<i:=by omega
    have hj:j<nodes.length:=by omega
    by_cases q0:c.id<=m.id
    .rw[cq ⟨by omega,m,by rw[show i-1=j by omega];exact hm,q0⟩]at hv;have rL:ne=26:=by rw[ho,hv];simp
     have sF:=lW R6 vo;simp[cf,h1,YQ,W4,GH,xe,hi,hj,cz,pR,sF,hp,q0,rL]
    rw[cm (by rintro⟨_,m',e,k⟩;rw[show i-1=j by omega,hm]at e;cases e;exact q0 k)]at hv;by_cases q1:c.id<1
    .have rL:ne=1:=by rw[ho,hv];simp[q1]
     have sF:=lW R6 vo;simp[cf,h1,YQ,W4,GH,xe,hi,hj,cz,pR,sF,hp,q0,q1,rL]
    by_cases q2:nn<=c.id
    .have rL:ne=1:=by rw[ho,hv];simp[q1,q2]
     have sF:=lW R6 vo;simp[cf,h1,YQ,W4,GH,xe,hi,hj,cz,pR,sF,hp,q0,q1,q2,rL]
    rw[cm (by omega)]at hv;by_cases q3:pe=0
    .rw[hv,cq q3]at ho;have hf:=cG vo;have sF:=lW R6 vo;simp[cf,h1,YQ,W4,GH,xe,hi,hj,cz,pR,sF,hf,hp,q0,q1,q2,q3,rz];exact ho
    .rw[hv,cm q3]at ho;have sF:=lW R6 vo;simp[cf,h1,YQ,W4,GH,xe,hi,hj,cz,pR,sF,hp,q0,q1,q2,q3,rz,ho]
  .rw[show nodes.length-i=0 by omega]at ho;have yn:ne=0:=ho;simp[cf,h1,W4,GH,hi,yn]
 .rintro o fr h hn ⟨cf,⟨rfl,hz,h1,tl,hh⟩|⟨rfl,hz,h2⟩⟩
  .subst hh;clear eF hn Dx aa;subst hz;have f4':=λb x h=>ai b x h (MJ rfl)
   clear ai MJ;simp[cf,h1,mO];refine pQ
    (λi s dn=>ee=tH fe i (cj.length-i)/\s.length=135/\gt s 1= .pt 0 0/\gt s 79= .ls 5 cY false/\gt s 80=cj.length/\gt s 81= .sc (.int .i64 i)/\∃tl,dn= .row [.ls 3 kM false,.ls 5 cY false,nn,en]::tl)
    (λo s _=>s.length=135/\((o= .exit 2/\ee=0)\/(o= .ret/\gt s 2=ee))) cj.length (by simp;omega) (by simp[xf,cf,h1]) ?_ ?_
   .rintro i fr h da ⟨ho,cf,h1,KL,J1,J2,tl,hh⟩;subst hh;have vo:i<=10^15:=Yp da ni;by_cases hi:i<cj.length
    .rw[rK fe hi]at ho;obtain⟨c,hx⟩:=eA hi;have rz:=λb h=>af b c h (Zi hx)
     have hr:cY[i]?=some [.sc (.int .i64 c.id),.sc (.int .i64 c.src),.sc (.int .i64 c.dst),.sc (.string c.type),.ls 6 (d_ c.props) false]:=by rw[pz,hx];rfl
     have cz:=gA hr
     have hv:=Bp i c hx;have fa:=λb h=>f4' b c.src h
     have fb:=λb h=>f4' b c.dst h
     have fc:=λb h=>ah b c.type h
     generalize(cM nodes c.src).isSome=ba at fa hv;generalize(cM nodes c.dst).isSome=bb at fb hv;generalize fR c.type=nt at fc hv;generalize gk [] c.props=pe at rz hv;clear af ah f4' Bp;obtain rfl|⟨j,R6⟩:i=0\/∃j,i=j+1:=by cases i with|zero=>exact .inl rfl|succ j=>exact .inr ⟨j,rfl⟩
     .rw[cm (by rintro⟨a,_⟩;omega)]at hv;have p8:0< (cj.length:Int):=by omega
      by_cases q1:c.id<1
      .have rL:ee=1:=by rw[ho,hv];simp[q1]
       simp[cf,KL,J1,J2,mO,hi,cz,q1,rL]
      by_cases q2:en<=c.id
      .have rL:ee=1:=by rw[ho,hv];simp[q1,q2]
       simp[cf,h1,KL,J1,J2,mO,hi,cz,q1,q2,rL]
      rw[cm (by omega)]at hv;cases ba
      .have rL:ee=10:=by rw[ho,hv];simp
       simp[cf,h1,KL,J1,J2,mO,hi,cz,q1,q2,rL,fa]
      cases bb
      .have rL:ee=10:=by rw[ho,hv];simp
       simp[cf,h1,KL,J1,J2,mO,hi,cz,q1,q2,rL,fa,fb]
      rw[cm (by simp)]at hv;cases nt
      .have rL:ee=6:=by rw[ho,hv];simp
       simp[cf,h1,KL,J1,J2,mO,hi,cz,q1,q2,rL,fa,fb,fc]
      rw[cm (by simp)]at hv;by_cases q3:pe=0
      .rw[hv,cq q3]at ho;simp[cf,h1,KL,J1,J2,mO,hi,cz,q1,q2,q3,fa,fb,fc,rz];exact⟨ho,rfl⟩
      .rw[hv,cm q3]at ho;simp[cf,h1,KL,J1,J2,mO,hi,cz,q1,q2,q3,fa,fb,fc,rz,ho]
     .obtain⟨m,hm⟩:∃m,cj[j]?=some m:=⟨_,Zb (by omega)⟩;have hs:cY[j]?=some [.sc (.int .i64 m.id),.sc (.int .i64 m.src),.sc (.int .i64 m.dst),.sc (.string m.type),.ls 6 (d_ m.props) false]:=by rw[pz,hm];rfl
      have pR:=gA hs
      have hp:0<i:=by omega
      have hj:j<cj.length:=by omega
      by_cases q0:c.id<=m.id
      .rw[cq ⟨by omega,m,by rw[show i-1=j by omega];exact hm,q0⟩]at hv;have rL:ee=26:=by rw[ho,hv];simp
       have sF:=lW R6 vo;simp[cf,h1,KL,J1,J2,mO,hi,hj,cz,pR,sF,hp,q0,rL]
      rw[cm (by rintro⟨_,m',e,k⟩;rw[show i-1=j by omega,hm]at e;cases e;exact q0 k)]at hv;by_cases q1:c.id<1
      .have rL:ee=1:=by rw[ho,hv];simp[q1]
       have sF:=lW R6 vo;simp[cf,h1,KL,J1,J2,mO,hi,hj,cz,pR,sF,hp,q0,q1,rL]
      by_cases q2:en<=c.id
      .have rL:ee=1:=by rw[ho,hv];simp[q1,q2]
       have sF:=lW R6 vo;simp[cf,h1,KL,J1,J2,mO,hi,hj,cz,pR,sF,hp,q0,q1,q2,rL]
      rw[cm (by omega)]at hv;have sF:=lW R6 vo;have hf:=cG vo;cases ba
      .have rL:ee=10:=by rw[ho,hv];simp
       simp[cf,h1,KL,J1,J2,mO,hi,hj,cz,pR,sF,hp,q0,q1,q2,rL,fa]
      cases bb
      .have rL:ee=10:=by rw[ho,hv];simp
       simp[cf,h1,KL,J1,J2,mO,hi,hj,cz,pR,sF,hp,q0,q1,q2,rL,fa,fb]
      rw[cm (by simp)]at hv;cases nt
      .have rL:ee=6:=by rw[ho,hv];simp
       simp[cf,h1,KL,J1,J2,mO,hi,hj,cz,pR,sF,hp,q0,q1,q2,rL,fa,fb,fc]
      rw[cm (by simp)]at hv;by_cases q3:pe=0
      .rw[hv,cq q3]at ho;simp[cf,h1,KL,J1,J2,mO,hi,hj,cz,pR,sF,hf,hp,q0,q1,q2,q3,fa,fb,fc,rz];exact ho
      .rw[hv,cm q3]at ho;simp[cf,h1,KL,J1,J2,mO,hi,hj,cz,pR,sF,hp,q0,q1,q2,q3,fa,fb,fc,rz,ho]
    .rw[show cj.length-i=0 by omega]at ho;have yn:ee=0:=ho;simp[cf,J1,J2,hi,yn]
   .rintro o fr h hn ⟨cf,⟨rfl,hz⟩|⟨rfl,h2⟩⟩
    .simp[cf,hz]
    .simp[h2]
  .simp[h2,hz]
structure Ch where
 k:Int
 a:Int
 b:Int
 c:Int
 name:ByteArray
 v:V
def cB(c:Ch):LA:=[.sc (.int .i64 c.k),.sc (.int .i64 c.a),.sc (.int .i64 c.b),.sc (.int .i64 c.c),.sc (.string c.name)]++enc c.v
@[simp] def acx(c:Ch):(cB c).length=10:=by simp[cB]
def nZ(c:Ch):[AV.ag (cB c)].all dk=true:=by
 obtain⟨k,a,b,d,name,v⟩:=c;cases v with
 |mk k' n' d' s' z' l'=>simp only[cB,enc,Zn,List.all_nil,Bool.and_true,dk,po];cases z' && (ef l').isEmpty<;>rfl
@[simp] def agW(v:V):(enc v).take 5=enc v:=Xa (by simp)
def J3(x:Int):Bool:=decide (1<=x) && decide (x<=1000000)
def cC(k:Int):Bool:=decide (k=3)||decide (k=4)||decide (k=5)||decide (k=6)||decide (k=8)
def cw(k:Int):Bool:=decide (k=5)||decide (k=8)
def zeroV :V:= .mk 0 0 0 ⟨#[]⟩ true []
def lr(v:V):Bool:=decide (mg v zeroV=0)
def Bq :jK zeroV:=⟨by decide,by decide,trivial⟩
def tJ(x:Int):[AV.sc (.int .i64 x)].all dk=true:=rfl
def KM(n:Nat)(b:Bool)(x:Int)(h:Hp):ch cx (n+1) b 245 [x] h=some (.sc (.bool (J3 x)),h):=by
 refine eR f245 [.tmp 2] (tJ _) rfl ?_ b h;by_cases h1:1<=x<;>by_cases h2:x<=1000000<;>simp[f245,J3,h1,h2]
def ac9(n:Nat)(b:Bool)(x:Int)(h:Hp):ch cx (n+1) b 231 [x] h=some (.sc (.bool (J3 x)),h):=by
 refine eR f231 [.tmp 2] (tJ _) rfl ?_ b h;by_cases h1:1<=x<;>by_cases h2:x<=1000000<;>simp[f231,J3,h1,h2]
def KN(n:Nat)(b:Bool)(x:Int)(h:Hp):ch cx (n+1) b 247 [x] h=some (.sc (.bool (cw x)),h):=by
 refine eR f247 [.tmp 2] (tJ _) rfl ?_ b h;by_cases h1:x=5
 .simp[f247,cw,h1]
 .by_cases h2:x=8<;>simp[f247,cw,h1,h2]
def OP(n:Nat)(b:Bool)(x:Int)(h:Hp):ch cx (n+1) b 246 [x] h=some (.sc (.bool (cC x)),h):=by
 refine eR f246 [.tmp 2] (tJ _) rfl ?_ b h;by_cases h1:x=3
 .simp[f246,cC,h1]
 by_cases h2:x=4
 .simp[f246,cC,h2]
 by_cases h3:x=5
 .simp[f246,cC,h3]
 by_cases h4:x=6
 .simp[f246,cC,h4]
 .by_cases h5:x=8<;>simp[f246,cC,h1,h2,h3,h4,h5]
def Ht(N D:Nat)(b:Bool)(v:V)(h:Hp)(hd:gS v<=D)(hv:jK v):ch cx (N+3*D+7) b 248 [.ag (enc v)] h=some (.sc (.bool (lr v)),h):=by
 refine eR (n:=N+3*D+6) f248 [.tmp 2] (kA _) rfl ?_ b h;have hz:gS zeroV<=D:=Yp (by show 1<=gS v;have:=kS v;omega) hd;have aa:=λb h=>SQ D v zeroV hd hz hv Bq N b h
 unfold lr;generalize mg v zeroV=r at aa;simp only[zeroV,enc,ef,po,Qc,Bool.and_self,cond_true]at aa;generalize N+3*D+6=M at aa;by_cases hr:r=0<;>simp[f248,iX,aa,hr]
def Tq(N D:Nat)(b:Bool)(v:V)(h:Hp)(hd:gS v<=D)(hv:jK v):ch cx (N+2*D+8) b 232 [.ag (enc v)] h=some (.sc (.bool (lr v)),h):=by
 refine eR (n:=N+2*D+7) f232 [.tmp 2] (kA _) rfl ?_ b h;have hz:gS zeroV<=D:=Yp (by show 1<=gS v;have:=kS v;omega) hd;have aa:=λb h=>Hc D v zeroV hd hz hv Bq N b h
 unfold lr;generalize mg v zeroV=r at aa;simp only[zeroV,enc,ef,po,Qc,Bool.and_self,cond_true]at aa;generalize N+2*D+7=M at aa;by_cases hr:r=0<;>simp[f232,iX,aa,hr]
def zW(k:Int):LA:=if k=3\/k=4 then[.sc (.bool false),.sc (.bool true),.sc (.bool false)]else if k=5\/k=8 then[.sc (.bool false),.sc (.bool true),.sc (.bool true)]else if k=6 then[.sc (.bool true),.sc (.bool true),.sc (.bool false)]else[.sc (.bool false),.sc (.bool false),.sc (.bool false)]
def cI(k:Int):Bool:=decide (1<=k) && decide (k<=8)
@[simp] def aj3 :cx.T 304=some {size:=3,agg:=true,zero:=[.bool false,.bool false,.bool false],kd:= .struct [(0,1,false),(1,1,false),(2,1,false)]}:=by kernel_rfl
def YR(k:Int):[AV.ag (zW k),.sc (.bool (cI k))].all dk=true:=by unfold zW;split<;>(try split)<;>(try split)<;>rfl
def Tr(n:Nat)(b:Bool)(k:Int)(h:Hp):ch cx (n+1) b 230 [k] h=some (.tp [.ag (zW k),.sc (.bool (cI k))],h):=by
 refine tA (xs:=[.ag (zW k),.sc (.bool (cI k))]) f230 [.cell 2 3 true,.tmp 3] (tJ _) (by exact YR _) ?_ b h;by_cases h1:k=1
 .subst h1;simp[f230,zW,cI]
 by_cases h2:k=2
 .subst h2;simp[f230,zW,cI]
 by_cases h7:k=7
 .subst h7;simp[f230,zW,cI]
 by_cases h3:k=3
 .subst h3;simp[f230,zW,cI]
 by_cases h4:k=4
 .subst h4;simp[f230,zW,cI]
 by_cases h5:k=5
 .subst h5;simp[f230,zW,cI]
 by_cases h8:k=8
 .subst h8;simp[f230,zW,cI]
 by_cases h6:k=6
 .subst h6;simp[f230,zW,cI]
 .have hk:cI k=false:=by
   unfold cI;by_cases q:1<=k
   .by_cases q':k<=8
    .omega
    .simp[q']
   .simp[q]
  simp[f230,zW,hk,h1,h2,h3,h4,h5,h6,h7,h8]
def dx(c:Ch):Int:=
 if cI c.k=false\/J3 c.a=false\/(cC c.k=false/\fm c.name ⟨#[]⟩=false)\/(cw c.k=false/\lr c.v=false)then 1
 else if(c.k=6/\(J3 c.b=false\/J3 c.c=false))\/(¬c.k=6/\(¬c.b=0\/¬c.c=0))then 1
 else if cC c.k=true/\fR c.name=false then 6
 else if cw c.k=true/\lr c.v=false/\jg c.v=false then 8 else 0
def gF(N D:Nat)(b:Bool)(c:Ch)(h:Hp)(hd:gS c.v<=D)(hv:jK c.v):ch cx (N+3*D+8) b 142 [.ag (cB c)] h=some (.sc (.int .i64 (dx c)),h):=by
 refine eR (n:=N+3*D+7) f142 [.tmp 2] (nZ _) rfl ?_ b h;have fW:=λb h=>KM (N+3*D+6) b c.a h
 have zf:=λb h=>KM (N+3*D+6) b c.b h
 have R8:=λb h=>KM (N+3*D+6) b c.c h
 have ah:=λb h=>OP (N+3*D+6) b c.k h
 have ai:=λb h=>KN (N+3*D+6) b c.k h
 have aj:=λb h=>Ht N D b c.v h hd hv
 have ak:=λb h=>Bj (N+3*D+5) b c.name h
 have au:=λb h=>DQ (N+D+2) D c.v hd hv b h
 rw[show N+D+2+2*D+5=N+3*D+7 by omega]at au;have af:True:=trivial;generalize N+3*D+7=M at fW zf R8 ah ai aj ak au|-;obtain⟨k,a0,b0,c0,name,v⟩:=c;simp only[cB,dx,Zv,Zw]at *;generalize J3 a0=ia at fW|-;generalize J3 b0=ib at zf|-;generalize J3 c0=ic at R8|-;generalize lr v=nl at aj|-;generalize jg v=pl at au|-;generalize fR name=ns at ak|-;generalize wh:fm name ⟨#[]⟩=en;by_cases mS:k<1
 .have hk:cI k=false:=by simp[cI,show¬1<=k by omega]
  simp[f142,hk,mS]
 by_cases hk8:8<k
 .have hk:cI k=false:=by simp[cI,show¬k<=8 by omega]
  simp[f142,hk,mS,hk8]
 have OE:k=1\/k=2\/k=3\/k=4\/k=5\/k=6\/k=7\/k=8:=by omega
 rcases OE with rfl|rfl|rfl|rfl|rfl|rfl|rfl|rfl
 .cases ia
  .simp[f142,cI,cC,cw,fW]
  cases en
  .simp[f142,cI,cC,cw,ah,fW,wh]
  cases nl
  .simp[f142,cI,cC,cw,ah,ai,fW,aj,wh]
  by_cases hb:b0=0
  rotate_left
  .simp[f142,cI,cC,cw,ah,ai,fW,aj,wh,hb]
  by_cases hc:c0=0
  rotate_left
  .simp[f142,cI,cC,cw,ah,ai,fW,aj,wh,hb,hc]
  simp[f142,cI,cC,cw,ah,ai,fW,aj,wh,hb,hc]
 .cases ia
  .simp[f142,cI,cC,cw,fW]
  cases en
  .simp[f142,cI,cC,cw,ah,fW,wh]
  cases nl
  .simp[f142,cI,cC,cw,ah,ai,fW,aj,wh]
  by_cases hb:b0=0
  rotate_left
  .simp[f142,cI,cC,cw,ah,ai,fW,aj,wh,hb]
  by_cases hc:c0=0
  rotate_left
  .simp[f142,cI,cC,cw,ah,ai,fW,aj,wh,hb,hc]
  simp[f142,cI,cC,cw,ah,ai,fW,aj,wh,hb,hc]
 .cases ia
  .simp[f142,cI,cC,cw,fW]
  cases nl
  .simp[f142,cI,cC,cw,ah,ai,fW,aj]
  by_cases hb:b0=0
  rotate_left
  .simp[f142,cI,cC,cw,ah,ai,fW,aj,hb]
  by_cases hc:c0=0
  rotate_left
  .simp[f142,cI,cC,cw,ah,ai,fW,aj,hb,hc]
  cases ns
  .simp[f142,cI,cC,cw,ah,ai,fW,aj,hb,hc,ak]
  simp[f142,cI,cC,cw,ah,ai,fW,aj,hb,hc,ak]
 .cases ia
  .simp[f142,cI,cC,cw,fW]
  cases nl
  .simp[f142,cI,cC,cw,ah,ai,fW,aj]
  by_cases hb:b0=0
  rotate_left
  .simp[f142,cI,cC,cw,ah,ai,fW,aj,hb]
  by_cases hc:c0=0
  rotate_left
  .simp[f142,cI,cC,cw,ah,ai,fW,aj,hb,hc]
  cases ns
  .simp[f142,cI,cC,cw,ah,ai,fW,aj,hb,hc,ak]
  simp[f142,cI,cC,cw,ah,ai,fW,aj,hb,hc,ak]
 .cases ia
  .simp[f142,cI,cC,cw,fW]
  by_cases hb:b0=0
  rotate_left
  .simp[f142,cI,cC,cw,ah,ai,fW,hb]
  by_cases hc:c0=0
  rotate_left
  .simp[f142,cI,cC,cw,ah,ai,fW,hb,hc]
  cases ns
  .simp[f142,cI,cC,cw,ah,ai,fW,hb,hc,ak]
  cases nl
  rotate_left
  .simp[f142,cI,cC,cw,ah,ai,fW,aj,hb,hc,ak]
  cases pl
  .simp[f142,cI,cC,cw,ah,ai,fW,aj,hb,hc,ak,au]
  simp[f142,cI,cC,cw,ah,ai,fW,aj,hb,hc,ak,au]
 .cases ia
  .simp[f142,cI,cC,cw,fW]
  cases nl
  .simp[f142,cI,cC,cw,ah,ai,fW,aj]
  cases ib
  .simp[f142,cI,cC,cw,ah,ai,fW,aj,zf]
  cases ic
  .simp[f142,cI,cC,cw,ah,ai,fW,aj,zf,R8]
  cases ns
  .simp[f142,cI,cC,cw,ah,ai,fW,aj,zf,R8,ak]
  simp[f142,cI,cC,cw,ah,ai,fW,aj,zf,R8,ak]
 .cases ia
  .simp[f142,cI,cC,cw,fW]
  cases en
  .simp[f142,cI,cC,cw,ah,fW,wh]
  cases nl
  .simp[f142,cI,cC,cw,ah,ai,fW,aj,wh]
  by_cases hb:b0=0
  rotate_left
  .simp[f142,cI,cC,cw,ah,ai,fW,aj,wh,hb]
  by_cases hc:c0=0
  rotate_left
  .simp[f142,cI,cC,cw,ah,ai,fW,aj,wh,hb,hc]
  simp[f142,cI,cC,cw,ah,ai,fW,aj,wh,hb,hc]
 .cases ia
  .simp[f142,cI,cC,cw,fW]
  by_cases hb:b0=0
  rotate_left
  .simp[f142,cI,cC,cw,ah,ai,fW,hb]
  by_cases hc:c0=0
  rotate_left
  .simp[f142,cI,cC,cw,ah,ai,fW,hb,hc]
  cases ns
  .simp[f142,cI,cC,cw,ah,ai,fW,hb,hc,ak]
  cases nl
  rotate_left
  .simp[f142,cI,cC,cw,ah,ai,fW,aj,hb,hc,ak]
  cases pl
  .simp[f142,cI,cC,cw,ah,ai,fW,aj,hb,hc,ak,au]
  simp[f142,cI,cC,cw,ah,ai,fW,aj,hb,hc,ak,au]
end
end Go.Proofs.YtmfohnojaginjaaGreatDoor
