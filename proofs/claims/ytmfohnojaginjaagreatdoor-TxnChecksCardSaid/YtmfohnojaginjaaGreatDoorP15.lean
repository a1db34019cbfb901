/- Part of the proof. -/
import Derived.Test.YtmfohnojaginjaaGreatDoorP14
set_option linter.all false
set_option maxHeartbeats 32000000
set_option maxRecDepth 100000
namespace Go.Proofs.YtmfohnojaginjaaGreatDoor
open Go Go.Ae Go.Proofs.Tryz
section
attribute [local simp] cn eD
def YS(N D:Nat)(b:Bool)(c:Ch)(h:Hp)(hd:gS c.v<=D)(hv:jK c.v):ch cx (N+2*D+9) b 137 [.ag (cB c)] h=some (.sc (.int .i64 (dx c)),h):=by
 refine eR (n:=N+2*D+8) f137 [.tmp 2] (nZ _) rfl ?_ b h;have fW:=λb h=>ac9 (N+2*D+7) b c.a h
 have zf:=λb h=>ac9 (N+2*D+7) b c.b h
 have R8:=λb h=>ac9 (N+2*D+7) b c.c h
 have ah:=λb h=>Tr (N+2*D+7) b c.k h
 have aj:=λb h=>Tq N D b c.v h hd hv
 have ak:=λb h=>wa (N+2*D+6) b c.name h
 have au:=λb h=>DP (N+3) D c.v hd hv b h
 rw[show N+3+2*D+5=N+2*D+8 by omega]at au;have af:True:=trivial;have ai:True:=trivial;generalize N+2*D+8=M at fW zf R8 ah aj ak au|-;obtain⟨k,a0,b0,c0,name,v⟩:=c;simp only[cB,dx,Zv,Zw]at *;generalize J3 a0=ia at fW|-;generalize J3 b0=ib at zf|-;generalize J3 c0=ic at R8|-;generalize lr v=nl at aj|-;generalize jg v=pl at au|-;generalize fR name=ns at ak|-;generalize wh:fm name ⟨#[]⟩=en;by_cases mS:k<1
 .have hk:cI k=false:=by simp[cI,show¬1<=k by omega]
  rw[hk]at ah;have CR:zW k=[.sc (.bool false),.sc (.bool false),.sc (.bool false)]:=by unfold zW;rw[cm (by omega),cm (by omega),cm (by omega)]
  rw[CR]at ah;simp[f137,hk,ah]
 by_cases hk8:8<k
 .have hk:cI k=false:=by simp[cI,show¬k<=8 by omega]
  rw[hk]at ah;have CR:zW k=[.sc (.bool false),.sc (.bool false),.sc (.bool false)]:=by unfold zW;rw[cm (by omega),cm (by omega),cm (by omega)]
  rw[CR]at ah;simp[f137,hk,ah]
 have OE:k=1\/k=2\/k=3\/k=4\/k=5\/k=6\/k=7\/k=8:=by omega
 rcases OE with rfl|rfl|rfl|rfl|rfl|rfl|rfl|rfl
 .simp[zW,cI]at ah;cases ia
  .simp[f137,cI,cC,cw,ah,fW]
  by_cases hb:b0=0
  rotate_left
  .simp[f137,cI,cC,cw,ah,fW,hb]
  by_cases hc:c0=0
  rotate_left
  .simp[f137,cI,cC,cw,ah,fW,hb,hc]
  cases en
  .simp[f137,cI,cC,cw,ah,fW,hb,hc,wh]
  cases nl
  .simp[f137,cI,cC,cw,ah,fW,aj,hb,hc,wh]
  simp[f137,cI,cC,cw,ah,fW,aj,hb,hc,wh]
 .simp[zW,cI]at ah;cases ia
  .simp[f137,cI,cC,cw,ah,fW]
  by_cases hb:b0=0
  rotate_left
  .simp[f137,cI,cC,cw,ah,fW,hb]
  by_cases hc:c0=0
  rotate_left
  .simp[f137,cI,cC,cw,ah,fW,hb,hc]
  cases en
  .simp[f137,cI,cC,cw,ah,fW,hb,hc,wh]
  cases nl
  .simp[f137,cI,cC,cw,ah,fW,aj,hb,hc,wh]
  simp[f137,cI,cC,cw,ah,fW,aj,hb,hc,wh]
 .simp[zW,cI]at ah;cases ia
  .simp[f137,cI,cC,cw,ah,fW]
  by_cases hb:b0=0
  rotate_left
  .simp[f137,cI,cC,cw,ah,fW,hb]
  by_cases hc:c0=0
  rotate_left
  .simp[f137,cI,cC,cw,ah,fW,hb,hc]
  cases nl
  .simp[f137,cI,cC,cw,ah,fW,aj,hb,hc]
  cases ns
  .simp[f137,cI,cC,cw,ah,fW,aj,hb,hc,ak]
  simp[f137,cI,cC,cw,ah,fW,aj,hb,hc,ak]
 .simp[zW,cI]at ah;cases ia
  .simp[f137,cI,cC,cw,ah,fW]
  by_cases hb:b0=0
  rotate_left
  .simp[f137,cI,cC,cw,ah,fW,hb]
  by_cases hc:c0=0
  rotate_left
  .simp[f137,cI,cC,cw,ah,fW,hb,hc]
  cases nl
  .simp[f137,cI,cC,cw,ah,fW,aj,hb,hc]
  cases ns
  .simp[f137,cI,cC,cw,ah,fW,aj,hb,hc,ak]
  simp[f137,cI,cC,cw,ah,fW,aj,hb,hc,ak]
 .simp[zW,cI]at ah;cases ia
  .simp[f137,cI,cC,cw,ah,fW]
  by_cases hb:b0=0
  rotate_left
  .simp[f137,cI,cC,cw,ah,fW,hb]
  by_cases hc:c0=0
  rotate_left
  .simp[f137,cI,cC,cw,ah,fW,hb,hc]
  cases ns
  .simp[f137,cI,cC,cw,ah,fW,hb,hc,ak]
  cases nl
  rotate_left
  .simp[f137,cI,cC,cw,ah,fW,aj,hb,hc,ak]
  cases pl
  .simp[f137,cI,cC,cw,ah,fW,aj,hb,hc,ak,au]
  simp[f137,cI,cC,cw,ah,fW,aj,hb,hc,ak,au]
 .simp[zW,cI]at ah;cases ia
  .simp[f137,cI,cC,cw,ah,fW]
  cases ib
  .simp[f137,cI,cC,cw,ah,fW,zf]
  cases ic
  .simp[f137,cI,cC,cw,ah,fW,zf,R8]
  cases nl
  .simp[f137,cI,cC,cw,ah,fW,aj,zf,R8]
  cases ns
  .simp[f137,cI,cC,cw,ah,fW,aj,zf,R8,ak]
  simp[f137,cI,cC,cw,ah,fW,aj,zf,R8,ak]
 .simp[zW,cI]at ah;cases ia
  .simp[f137,cI,cC,cw,ah,fW]
  by_cases hb:b0=0
  rotate_left
  .simp[f137,cI,cC,cw,ah,fW,hb]
  by_cases hc:c0=0
  rotate_left
  .simp[f137,cI,cC,cw,ah,fW,hb,hc]
  cases en
  .simp[f137,cI,cC,cw,ah,fW,hb,hc,wh]
  cases nl
  .simp[f137,cI,cC,cw,ah,fW,aj,hb,hc,wh]
  simp[f137,cI,cC,cw,ah,fW,aj,hb,hc,wh]
 .simp[zW,cI]at ah;cases ia
  .simp[f137,cI,cC,cw,ah,fW]
  by_cases hb:b0=0
  rotate_left
  .simp[f137,cI,cC,cw,ah,fW,hb]
  by_cases hc:c0=0
  rotate_left
  .simp[f137,cI,cC,cw,ah,fW,hb,hc]
  cases ns
  .simp[f137,cI,cC,cw,ah,fW,hb,hc,ak]
  cases nl
  rotate_left
  .simp[f137,cI,cC,cw,ah,fW,aj,hb,hc,ak]
  cases pl
  .simp[f137,cI,cC,cw,ah,fW,aj,hb,hc,ak,au]
  simp[f137,cI,cC,cw,ah,fW,aj,hb,hc,ak,au]
def jS(l:List ByteArray)(x:ByteArray):Bool:=l.any λy=>fm y x
def Hu(l:List ByteArray)(x:ByteArray)(i:Nat):Bool:=jS (l.drop i) x
def Ts(l:List ByteArray)(x:ByteArray)(i:Nat)(h:l.length<=i):Hu l x i=false:=by unfold Hu;rw[Zt h];rfl
def OQ{l:List ByteArray}{x:ByteArray}{i:Nat}{c:ByteArray}(h:l[i]?=some c):Hu l x i=(fm c x||Hu l x (i+1)):=by
 obtain⟨k,e⟩:=Za.1 h;unfold Hu jS;rw[Zm k,e,List.any_cons]
def Fl(l:List ByteArray)(z:Bool)(x:ByteArray):[iD l z,.sc (.string x)].all dk=true:=rfl
def MK(c:Nd)(x:ByteArray):[AV.ag (dh c),.sc (.string x)].all dk=true:=rfl
def KO(n:Nat)(b:Bool)(l:List ByteArray)(z:Bool)(x:ByteArray)(h:Hp)(hl:l.length<=1000000000000000):
 ch cx (n+1) b 371 [iD l z,x] h=some (.sc (.bool (jS l x)),h):=by
 refine eR f371 [.tmp 4] (Fl _ _ _) rfl ?_ b h;have hq:=di l;have hg:=lS l;unfold iD;generalize fj l=cg at hq hg;simp[f371];refine pQ
  (λi s _=>jS l x=Hu l x i/\s.length=18/\gt s 0= .ls 1 cg z/\gt s 1=x/\gt s 5=i)
  (λo s _=>s.length=18/\((o= .exit 0/\jS l x=false)\/(o= .ret/\jS l x=true/\gt s 4=true))) l.length (by simp;omega) (by simp[Hu]) ?_ ?_
 .rintro i fr h da ⟨ho,cf,h0,h1,h5⟩;by_cases hi:i<l.length
  .obtain⟨c,hx⟩:=eA hi;have hr:cg[i]?=some [.sc (.string c)]:=by rw[hg,hx];rfl
   have cz:=gA hr
   rw[OQ hx]at ho;have hf:=cG (Yp da hl);cases hk:fm c x
   .have zz:jS l x=Hu l x (i+1):=by rw[ho,hk];rfl
    clear ho;simp[cf,h0,h1,h5,hi,hq,cz,hk,hf];exact zz
   .have zz:jS l x=true:=by rw[ho,hk];rfl
    clear ho;simp[cf,h0,h1,h5,hi,hq,cz,hk,zz]
  .have zz:jS l x=false:=by rw[ho,Ts l x i (by omega)]
   simp[cf,h0,h5,hi,hq,zz]
 .rintro o fr h hn ⟨cf,⟨rfl,hz⟩|⟨rfl,hz,h2⟩⟩
  .simp[cf,hz]
  .simp[h2,hz]
def jz(n:Nat)(b:Bool)(c:Nd)(x:ByteArray)(h:Hp)(hl:c.labels.length<=1000000000000000):
 ch cx (n+2) b 251 [.ag (dh c),x] h=some (.sc (.bool (jS c.labels x)),h):=by
 refine eR f251 [.tmp 4] (MK _ _) rfl ?_ b h;have aa:=λb h=>KO n b c.labels false x h hl
 generalize jS c.labels x=r at aa;unfold dh;unfold iD at aa|-;simp[f251,aa]
def KP(l:List ByteArray)(x:ByteArray)(i:Nat):Int:=match l with
 | []=> -1
 |c::l=>if fm x c=true then i else KP l x (i+1)
def Br(l:List ByteArray)(x:ByteArray)(i:Nat):Int:=KP (l.drop i) x i
def OT(l:List ByteArray)(x:ByteArray)(i:Nat)(h:l.length<=i):Br l x i= -1:=by unfold Br;rw[Zt h];rfl
def KQ{l:List ByteArray}{x:ByteArray}{i:Nat}{c:ByteArray}(h:l[i]?=some c):Br l x i=if fm x c=true then(i:Int)else Br l x (i+1):=by
 obtain⟨k,e⟩:=Za.1 h;unfold Br;rw[Zm k,e];rfl
def Hv(x:ByteArray):∀(l:List ByteArray)(i:Nat),decide (0<=KP l x i)=jS l x
 | [],i=>rfl
 |
  c::l,i=>by
  have ih:=Hv x l (i+1);unfold KP jS;rw[List.any_cons];cases hk:fm x c
  .have lk:fm c x=false:=by
    rw[Bool.eq_false_iff]at hk|-;intro e;apply hk;rw[iC]at e|-;exact e.symm
   rw[lk,Bool.false_or];exact ih
  .have lk:fm c x=true:=by rw[iC]at hk|-;exact hk.symm
   rw[lk,Bool.true_or];simp
def Tt(n:Nat)(b:Bool)(l:List ByteArray)(z:Bool)(x:ByteArray)(h:Hp)(hl:l.length<=1000000000000000):
 ch cx (n+1) b 298 [iD l z,x] h=some (.sc (.int .i64 (KP l x 0)),h):=by
 refine eR f298 [.tmp 4] (Fl _ _ _) rfl ?_ b h;have hq:=di l;have hg:=lS l;unfold iD;generalize fj l=cg at hq hg;generalize hd:KP l x 0=v;have hd0:v=Br l x 0:=hd.symm;simp[f298];refine pQ
  (λi s _=>v=Br l x i/\s.length=19/\gt s 0= .ls 1 cg z/\gt s 1=x/\gt s 7=l.length/\gt s 8=i)
  (λo s _=>s.length=19/\((o= .exit 0/\v= -1)\/(o= .ret/\gt s 4=v))) l.length (by simp;omega) (by simp[hd0,hq]) ?_ ?_
 .rintro i fr h da ⟨ho,cf,h0,h1,h7,h8⟩;by_cases hi:i<l.length
  .obtain⟨c,hx⟩:=eA hi;have hr:cg[i]?=some [.sc (.string c)]:=by rw[hg,hx];rfl
   have cz:=gA hr
   rw[KQ hx]at ho;have hf:=cG (Yp da hl);cases hk:fm x c
   .rw[cm (by rw[hk];decide)]at ho;simp[cf,h0,h1,h7,h8,hi,hq,cz,hk,hf];exact ho
   .rw[cq hk]at ho;simp[cf,h0,h1,h7,h8,hi,hq,cz,hk,ho]
  .have zz:v= -1:=by rw[ho,OT l x i (by omega)]
   simp[cf,h7,h8,hi,zz]
 .rintro o fr h hn ⟨cf,⟨rfl,hz⟩|⟨rfl,h2⟩⟩
  .simp[cf,hz]
  .simp[h2]
def Hw(n:Nat)(b:Bool)(l:List ByteArray)(z:Bool)(x:ByteArray)(h:Hp)(hl:l.length<=1000000000000000):
 ch cx (n+2) b 182 [iD l z,x] h=some (.sc (.bool (jS l x)),h):=by
 refine eR f182 [.tmp 4] (Fl _ _ _) rfl ?_ b h;have aa:=λb h=>Tt n b l z x h hl
 have af:=Hv x l 0;generalize KP l x 0=r at aa af;generalize jS l x=w at af;subst af;unfold iD at aa|-;simp[f182,aa]
def wi(n:Nat)(b:Bool)(c:Nd)(x:ByteArray)(h:Hp)(hl:c.labels.length<=1000000000000000):
 ch cx (n+3) b 257 [.ag (dh c),x] h=some (.sc (.bool (jS c.labels x)),h):=by
 refine eR f257 [.tmp 4] (MK _ _) rfl ?_ b h;have aa:=λb h=>Hw n b c.labels false x h hl
 generalize jS c.labels x=r at aa;unfold dh;unfold iD at aa|-;simp[f257,aa]
def iE(l:List Ed)(x:Int):Option Ed:=l.find? λn=>n.id==x
def Bs(l:List Ed)(x:Int)(i:Nat):Option Ed:=iE (l.drop i) x
def OU(l:List Ed)(x:Int)(i:Nat)(h:l.length<=i):Bs l x i=none:=by unfold Bs;rw[Zt h];rfl
def KR{l:List Ed}{x:Int}{i:Nat}{c:Ed}(h:l[i]?=some c):Bs l x i=if c.id=x then some c else Bs l x (i+1):=by
 obtain⟨k,e⟩:=Za.1 h;unfold Bs iE;rw[Zm k,e,List.find?_cons];by_cases q:c.id=x
 .simp[q]
 .have q':(c.id==x)=false:=by simpa using q
  simp[q,q']
def Ao(o:Option Ed):LA:=match o with
 |none=> [.sc (.int .i64 0),.sc (.int .i64 0),.sc (.int .i64 0),.sc (.string ⟨#[]⟩),.sc (.slice none 0 0)]
 |some n=>dP n
@[simp] def aeG(o:Option Ed):(Ao o).length=5:=by cases o<;>rfl
def YT(o:Option Ed)(b:Bool):[AV.ag (Ao o),.sc (.bool b)].all dk=true:=by cases o<;>rfl
def jh(n:Nat)(b:Bool)(g:Gr)(x:Int)(h:Hp)(hl:g.cj.length<=1000000000000000):
 ch cx (n+1) b 144 [.ag (cl g),x] h=some (.tp [.ag (Ao (iE g.cj x)),.sc (.bool (iE g.cj x).isSome)],h):=by
 refine tA (xs:=[.ag (Ao (iE g.cj x)),.sc (.bool (iE g.cj x).isSome)]) f144 [.cell 4 5 true,.tmp 5] (Bn _ _) (by exact YT _ _) ?_ b h;have hq:=dD g.cj;have hg:=jy g.cj;unfold cl dz;generalize fV g.cj=cg at hq hg;simp[f144];refine pQ
  (λi s dn=>iE g.cj x=Bs g.cj x i/\s.length=28/\gt s 1=x/\gt s 2= .pt 0 0/\gt s 4= .pt 1 0/\gt s 6=i/\dn=[.row [dy g.nodes,.ls 5 cg false,g.nn,g.ne],.row [(0:Int),(0:Int),(0:Int),.sc (.string ⟨#[]⟩),()]])
  (λo s dn=>s.length=28/\gt s 4= .pt 1 0/\((o= .exit 0/\iE g.cj x=none/\∃a b,dn=[.row a,.row b]/\b.length=5)\/(o= .ret/\∃c a,iE g.cj x=some c/\gt s 5=true/\dn=[.row a,.row (dP c)]))) g.cj.length (by simp;omega) (by simp[Bs]) ?_ ?_
 .rintro i fr h da ⟨ho,cf,h1,h2,h4,h6,hh⟩;subst hh;by_cases hi:i<g.cj.length
  .obtain⟨c,hx⟩:=eA hi;have hr:cg[i]?=some [.sc (.int .i64 c.id),.sc (.int .i64 c.src),.sc (.int .i64 c.dst),.sc (.string c.type),eU c.props false]:=by rw[hg,hx];rfl
   have cz:=gA hr
   rw[KR hx]at ho;have hf:cS .i64 ((i:Int)+1)=((i+1:Nat):Int):=cu (by omega) (by omega);by_cases hk:c.id=x
   .rw[cq hk]at ho;simp[cf,h1,h2,h4,h6,hi,hq,cz,hk,ho,dP]
   .rw[cm hk]at ho;simp[cf,h1,h2,h4,h6,hi,hq,cz,hk,hf];exact ho
  .have zz:iE g.cj x=none:=by rw[ho,OU _ _ i (by omega)]
   simp[cf,h2,h4,h6,hi,hq,zz];exact gq rfl
 .rintro o fr h hn ⟨cf,h4,⟨rfl,hz,a,b',hh,hb⟩|⟨rfl,c,a,hz,h5,hh⟩⟩
  .subst hh;simp[cf,h4,hz,hb,Ao]
  .subst hh;simp[h4,h5,hz,Ao,dP]
end
end Go.Proofs.YtmfohnojaginjaaGreatDoor
namespace Go.Ae
open Go
structure gZ {α:Type}(lt eq:α->Bool)(l pre eY post:List α):Prop where
 e:l=pre++eY++post
 p:∀x∈pre,lt x=true/\eq x=false
 m:∀x∈eY,lt x=false/\eq x=true
 one:eY.length<=1
 q:∀x∈post,lt x=false/\eq x=false
section
variable {α : Type} {lt eq : α -> Bool} {l pre eY post : List α}
def jA(lt eq:α->Bool)(n:α)(add:Bool)(st:List α × Bool)(x:α):List α × Bool:=
 ((st.1++(if !st.2 && !lt x && add then[n]else[]))++(if eq x then[]else[x]),st.2|| !lt x)
def wj(n:α)(add:Bool)(st:List α × Bool):List α:=if !st.2 && add then st.1++[n]else st.1
def nj(lt eq:α->Bool)(n:α)(add:Bool)(l:List α)(i:Nat):List α × Bool:=(l.take i).foldl (jA lt eq n add) ([],false)
def OV(lt eq:α->Bool)(n:α)(add:Bool)(l:List α):List α:=wj n add (nj lt eq n add l l.length)
def DU(n:α)(add:Bool)(l:List α):nj lt eq n add l 0=([],false):=rfl
def qx(n:α)(add:Bool){l:List α}{i:Nat}{x:α}(h:l[i]?=some x):nj lt eq n add l (i+1)=jA lt eq n add (nj lt eq n add l i) x:=by
 unfold nj;rw[List.take_add_one,h,List.foldl_append];rfl
def Bt(n:α)(add:Bool):∀(post acc:List α),(∀x∈post,lt x=false/\eq x=false)->post.foldl (jA lt eq n add) (acc,true)=(acc++post,true)
 | [],acc,_=>by simp
 |
  x::post,acc,h=>by
  have hx:=h x (by simp);rw[List.foldl_cons];have:jA lt eq n add (acc,true) x=(acc++[x],true):=by simp[jA,hx.2]
  rw[this,Bt n add post _ (λy hy=>h y (by simp[hy]))];simp
def ML(n:α)(add:Bool):∀(pre acc:List α),(∀x∈pre,lt x=true/\eq x=false)->pre.foldl (jA lt eq n add) (acc,false)=(acc++pre,false)
 | [],acc,_=>by simp
 |
  x::pre,acc,h=>by
  have hx:=h x (by simp);rw[List.foldl_cons];have:jA lt eq n add (acc,false) x=(acc++[x],false):=by simp[jA,hx.1,hx.2]
  rw[this,ML n add pre _ (λy hy=>h y (by simp[hy]))];simp
def Bu(h:gZ lt eq l pre eY post)(n:α)(add:Bool):OV lt eq n add l=pre++(if add then[n]else[])++post:=by
 unfold OV nj;rw[Xx,h.e,List.foldl_append,List.foldl_append,ML n add pre [] h.p];have hm:=h.one
 match Hr:eY,hm with
 |
  [],_=>
  rw[List.foldl_nil]
  match MM:post,h.q with
  | [],_=>cases add<;>simp[wj]
  |
   y::ys,hq=>
   have hy:=hq y (by simp);rw[List.foldl_cons];have:jA lt eq n add ([]++pre,false) y=(pre++(if add then[n]else[])++[y],true):=by cases add<;>simp[jA,hy.1,hy.2]
   rw[this,Bt n add ys _ (λz hz=>hq z (by simp[hz]))];simp[wj]
 |
  [x],_=>
  have hx:=h.m x (by simp);rw[List.foldl_cons,List.foldl_nil];have:jA lt eq n add ([]++pre,false) x=(pre++(if add then[n]else[]),true):=by cases add<;>simp[jA,hx.1,hx.2]
  rw[this,Bt n add post _ h.q];simp[wj]
 |_::_::_,hm=>simp at hm
def gZ.filter(h:gZ lt eq l pre eY post):l.filter (λx=> !eq x)=pre++post:=by
 have h1:pre.filter (λx=> !eq x)=pre:=List.filter_eq_self.2 λx hx=>by simp[(h.p x hx).2]
 have h2:eY.filter (λx=> !eq x)=[]:=List.filter_eq_nil_iff.2 λx hx=>by simp[(h.m x hx).2]
 have h3:post.filter (λx=> !eq x)=post:=List.filter_eq_self.2 λx hx=>by simp[(h.q x hx).2]
 rw[h.e,Yq,Yq,h1,h2,h3,Yr]
def gZ.find(h:gZ lt eq l pre eY post):l.find? eq=eY.head?:=by
 have h1:pre.find? eq=none:=List.find?_eq_none.2 λx hx=>by simp[(h.p x hx).2]
 rw[h.e,List.find?_append,List.find?_append,h1]
 match Hr:eY with
 |
  []=>
  have h3:post.find? eq=none:=List.find?_eq_none.2 λx hx=>by simp[(h.q x hx).2]
  simp[h3]
 |x::_=>simp[(h.m x (by simp)).2]
def gZ.any(h:gZ lt eq l pre eY post):l.any eq= !eY.isEmpty:=by
 rw[h.e,List.any_append,List.any_append];have h1:pre.any eq=false:=List.any_eq_false.2 λx hx=>by simp[(h.p x hx).2]
 have h3:post.any eq=false:=List.any_eq_false.2 λx hx=>by simp[(h.q x hx).2]
 rw[h1,h3]
 match Hr:eY with
 | []=>rfl
 |x::_=>simp[(h.m x (by simp)).2]
def gZ.take(h:gZ lt eq l pre eY post):l.take pre.length=pre:=by rw[h.e,Zp];simp
def gZ.drop(h:gZ lt eq l pre eY post):l.drop pre.length=eY++post:=by rw[h.e,Zp];simp
def gZ.at{x:α}(h:gZ lt eq l pre [x] post):l[pre.length]?=some x:=by rw[h.e,Zp];simp
def gZ.set{x:α}(h:gZ lt eq l pre [x] post)(n:α):l.set pre.length n=pre++[n]++post:=by rw[h.e,Zp];simp
def gZ.lt_iff(h:gZ lt eq l pre eY post){i:Nat}{x:α}(hx:l[i]?=some x):lt x=true↔i<pre.length:=by
 rw[h.e,Zp]at hx;by_cases hi:i<pre.length
 .rw[Zd hi]at hx;simp[hi,(h.p x (Zi hx)).1]
 .rw[Zf (by omega)]at hx;have hm:=Zi hx;have:lt x=false:=by
   rcases Zz.1 hm with hm|hm
   .exact(h.m x hm).1
   .exact(h.q x hm).1
  simp[hi,this]
def gZ.Hx(h:gZ lt eq l pre eY post){x:α}(hx:l[pre.length]?=some x):eq x= !eY.isEmpty:=by
 rw[h.e,Zp,Zf (Xc _),Nat.sub_self]at hx
 match Hr:eY with
 |
  []=>
  simp at hx;have:=h.q x (Zi hx);simp[this.2]
 |
  y::_=>
  simp at hx;subst hx;simp[(h.m y (by simp)).2]
def gZ.tK(h:gZ lt eq l pre eY post)(hx:l.length<=pre.length):eY=[]:=by
 have:l.length=pre.length+eY.length+post.length:=by rw[h.e];simp;omega
 exact Zl (by omega)
def Fm(R:α->α->Prop)(hl:l.Pairwise R)(h1:∀x y,R x y->lt y=true->lt x=true)(h2:∀x y,R x y->eq y=true->lt x=true)(h4:∀x,lt x=true->eq x=false):
 ∃pre eY post,gZ lt eq l pre eY post:=by
 induction l with
 |nil=>exact⟨[],[],[],{e:=rfl,p:=by simp,m:=by simp,one:=by simp,q:=by simp}⟩
 |cons x l ih=>
  rw[List.pairwise_cons]at hl;obtain⟨pre,eY,post,hs⟩:=ih hl.2;cases hx:lt x with
  |true=>exact⟨x::pre,eY,post,⟨by rw[hs.e];rfl,λy hy=>by
   rcases Yw.1 hy with rfl|hy
   .exact⟨hx,h4 _ hx⟩
   .exact hs.p y hy,hs.m,hs.one,hs.q⟩⟩
  |
   false=>
   have x7:∀y∈l,lt y=false:=λy hy=>by
    cases hq:lt y with
    |false=>rfl
    |true=>rw[h1 x y (hl.1 y hy) hq]at hx;cases hx
   have eF:∀y∈l,eq y=false:=λy hy=>by
    cases hq:eq y with
    |false=>rfl
    |true=>rw[h2 x y (hl.1 y hy) hq]at hx;cases hx
   cases he:eq x with
   |true=>exact⟨[],[x],l,⟨rfl,by simp,by simp[hx,he],by simp,λy hy=>⟨x7 y hy,eF y hy⟩⟩⟩
   |false=>exact⟨[],[],x::l,⟨rfl,by simp,by simp,by simp,λy hy=>by
    rcases Yw.1 hy with rfl|hy
    .exact⟨hx,he⟩
    .exact⟨x7 y hy,eF y hy⟩⟩⟩
end
end Go.Ae
namespace Go.Proofs.YtmfohnojaginjaaGreatDoor
open Go Go.Ae Go.Proofs.Tryz
section
attribute [local simp] cn eD
def uD(c:fZ):fK c=[.sc (.string c.key),.sc (.int .i64 c.v.k),.sc (.int .i64 c.v.n),.sc (.int .i64 c.v.d),.sc (.string c.v.s),eG c.v.isNil c.v.l]:=by obtain⟨k,v⟩:=c;cases v;rfl
def qz(c:fZ):(fK c).take 6=fK c:=Xa (by simp)
def p_(x:Int)(n:Nd):Bool:=decide (n.id<x)
def pB(x:Int)(n:Nd):Bool:=decide (n.id=x)
def xj(x:Int)(n:Ed):Bool:=decide (n.id<x)
def wk(x:Int)(n:Ed):Bool:=decide (n.id=x)
def CS(x:ByteArray)(p:fZ):Bool:=nC p.key x
def Dc(x:ByteArray)(p:fZ):Bool:=fm p.key x
def KS(x:ByteArray)(s:ByteArray):Bool:=nC s x
def yu(x:ByteArray)(s:ByteArray):Bool:=fm s x
def Ap(a b:Int):dE a b<0↔a<b:=by unfold dE;split<;>(try split)<;>omega
def MN(a b:Int):dE a b=0↔a=b:=by unfold dE;split<;>(try split)<;>omega
def MO(a b:ByteArray):gJ a b<0↔nC a b=true:=by
 unfold gJ;cases h:nC a b
 .cases h2:nC b a<;>simp
 .simp
def Tu(a b:ByteArray):gJ a b=0↔fm a b=true:=by rw[DK,iC]
def Tv(n:Nat)(bb:Bool)(y x:Int)(a b:AV)(h:Hp):ch cx (n+3) bb 355 [.ag [y,a,b],x] h=some (.sc (.int .i64 (dE y x)),h++[.row [y,a,b]]):=by
 rw[WX (n:=n+2) f355 [.tmp 4]];have aa:=λb h=>gT n b y x h
 generalize dE y x=r at aa;simp[f355,aa]
def Tw(n:Nat)(bb:Bool)(y x:Int)(a b d e:AV)(h:Hp):ch cx (n+3) bb 367 [.ag [y,a,b,d,e],x] h=some (.sc (.int .i64 (dE y x)),h++[.row [y,a,b,d,e]]):=by
 rw[WX (n:=n+2) f367 [.tmp 4]];have aa:=λb h=>gT n b y x h
 generalize dE y x=r at aa;simp[f367,aa]
def ada(n:Nat)(b:Bool)(c:fZ)(x:ByteArray)(h:Hp):ch cx (n+3) b 363 [.ag (fK c),x] h=some (.sc (.int .i64 (gJ c.key x)),h++[.row (fK c)]):=by
 rw[WX (n:=n+2) f363 [.tmp 4]];have aa:=λb h=>kg n b c.key x h
 generalize gJ c.key x=r at aa;simp[f363,uD,aa]
def Bv(n:Nat)(l pre eY post:List Nd)(x:Int)(cg:List LA)(S:AV)(hS:(∃z,S= .ls 3 cg z)\/(cg=[]/\S=()))(hl:l.length<=1000000000000000)(hq:cg.length=l.length)(hg:∀(i:Nat)(c:Nd),l[i]?=some c->∃a b:AV,cg[i]?=some [.sc (.int .i64 c.id),a,b])(hs:gZ (p_ x) (pB x) l pre eY post)(bb:Bool)(h:Hp):
 ch cx (n+4) bb 153 [S,x,.fn 355 []] h=some (.tp [pre.length,.sc (.bool !eY.isEmpty)],h):=by
 have hp:pre.length<=l.length:=by rw[hs.e];simp
 rcases hS with⟨z,rfl⟩|⟨rfl,rfl⟩
 case inr=>
  have pg:l=[]:=Zl (by simpa using hq.symm);subst pg;have J4:pre=[]:=Zl (by simpa using hp);have zQ:eY=[]:=hs.tK (by simp);subst J4 zQ
  suffices H:∃r,r=AV.tp [(0:Int),false]/\∀b h,ch cx (n+4) b 153 [(),x,.fn 355 []] h=some (r,h) by
   obtain⟨r,rfl,hr⟩:=H;exact hr bb h
  refine gP (f:=153) (n:=n+3) (args:=[.sc (.slice none 0 0),.sc (.int .i64 x),.fn 355 []]) (λr=>r= .tp [(0:Int),false]) ⟨f153.ntmps,(f153.body).getD .skip,[.tmp 6,.tmp 7]⟩ (by kernel_rfl) (by kernel_rfl) rfl (by kernel_rfl) (by simp[f153]) rfl ?_;simp[f153];refine ej (C:=cx) (G:=λr=>∃r0 h',dL _ (eX _ _ (du _ r) _)=some (r0,h')/\cD h' 8 r0=some (.tp [(0:Int),false]))
   (λk s=>s.1.length=49/\gt s.1 8=(0:Int)/\gt s.1 9=(0:Int)/\gt s.1 10=(0:Int))
   (λo s=>o= .exit 0/\s.1.length=49/\gt s.1 8=(0:Int)/\gt s.1 9=(0:Int)) 0 (by simp) (by simp) ?_ ?_
  .rintro k fr h da ⟨cf,h8,h9,lN⟩;simp only at cf h8 h9 lN;simp[cf,h8,h9,lN]
  .rintro o fr h hn ⟨rfl,cf,h8,h9⟩;simp only at cf h8 h9;simp[cf,h8,h9];exact gq rfl
 suffices H:∃r,r=AV.tp [pre.length,.sc (.bool !eY.isEmpty)]/\∀b h,ch cx (n+4) b 153 [.ls 3 cg z,x,.fn 355 []] h=some (r,h) by
  obtain⟨r,rfl,hr⟩:=H;exact hr bb h
 refine gP (f:=153) (n:=n+3) (args:=[.ls 3 cg z,.sc (.int .i64 x),.fn 355 []]) (λr=>r= .tp [pre.length,.sc (.bool !eY.isEmpty)]) ⟨f153.ntmps,(f153.body).getD .skip,[.tmp 6,.tmp 7]⟩ (by kernel_rfl) (by kernel_rfl) rfl (by kernel_rfl) (by simp[f153]) rfl ?_;have aa:=Tv n;generalize n+3=M at aa;simp[f153];refine ej (C:=cx) (G:=λr=>∃r0 h',dL _ (eX _ _ (du _ r) _)=some (r0,h')/\cD h' 8 r0=some (.tp [pre.length,.sc (.bool !eY.isEmpty)]))
  (λk s=>∃lo hi:Nat,s.1.length=49/\gt s.1 0= .ls 3 cg z/\gt s.1 1=x/\gt s.1 2= .fn 355 []/\gt s.1 8=l.length/\gt s.1 9=lo/\gt s.1 10=hi
   /\lo<=pre.length/\pre.length<=hi/\hi<=l.length/\hi-lo+k<=l.length)
  (λo s=>o= .exit 0/\s.1.length=49/\gt s.1 0= .ls 3 cg z/\gt s.1 1=x/\gt s.1 2= .fn 355 []/\gt s.1 8=l.length/\gt s.1 9=pre.length) l.length (by simp;omega) ?_ ?_ ?_
 .refine⟨0,l.length,?_⟩;simp[hq,hp]
 .rintro k fr h da ⟨lo,hi,cf,h0,h1,h2,h8,h9,lN,q1,q2,q3,q4⟩;simp only at cf h0 h1 h2 h8 h9 lN;by_cases hh:lo<hi
  .have Hq:lo<=(lo+hi)/2:=by omega
   have GG:(lo+hi)/2<hi:=by omega
   generalize Hr:(lo+hi)/2=md at Hq GG;obtain⟨c,hc⟩:∃c,l[md]?=some c:=⟨_,Zb (by omega)⟩;obtain⟨a,b,hr⟩:=hg md c hc;have cz:=gA hr
   have e1:cS .i64 ((lo:Int)+hi)=((lo+hi:Nat):Int):=by rw[show(lo:Int)+hi=((lo+hi:Nat):Int) by omega];exact cu (by omega) (by omega)
   have e2:cS .u64 ((lo:Int)+hi)=(lo:Int)+hi:=jX (by omega) (by omega);have e3:((lo:Int)+hi)/2=(md:Int):=by omega
   have e4:cS .i64 (md:Int)=md:=cu (by omega) (by omega);have e5:cS .i64 ((md:Int)+1)=((md+1:Nat):Int):=cu (by omega) (by omega);have MI:md<l.length:=Yo GG q3;have dm:=hs.lt_iff hc;by_cases hk:dE c.id x<0
   .have hmp:md<pre.length:=dm.1 (by simpa[p_,xj]using(Ap _ _).1 hk);simp[cf,h0,h1,h2,h8,h9,lN,hh,e1,e2,e3,e4,e5,hq,MI,cz,aa,hk,IntKind.bits];clear e1 e2 e3 e4 e5;exact⟨by omega,md+1,by omega,hi,rfl,by omega,by omega,by omega,by omega⟩
   .have hmp:pre.length<=md:=by
     refine Ya λq=>hk ?_
     have:=dm.2 q;exact(Ap _ _).2 (by simpa[p_,xj]using this)
    simp[cf,h0,h1,h2,h8,h9,lN,hh,e1,e2,e3,e4,hq,MI,cz,aa,hk,IntKind.bits];clear e1 e2 e3 e4 e5;exact⟨by omega,lo,rfl,md,rfl,by omega,by omega,by omega,by omega⟩
  .have R7:lo=pre.length:=by omega
   subst R7;simp[cf,h0,h1,h2,h8,h9,lN,hh]
 .rintro o fr h hn ⟨rfl,cf,h0,h1,h2,h8,h9⟩;simp only at cf h0 h1 h2 h8 h9;by_cases hh:pre.length<l.length
  .obtain⟨c,hc⟩:=eA hh;obtain⟨a,b,hr⟩:=hg pre.length c hc;have cz:=gA hr
   have uC:(!eY.isEmpty)=decide (dE c.id x=0):=by
    rw[<-hs.Hx hc,Bool.eq_iff_iff,decide_eq_true_iff,MN];simp[pB]
   rw[uC];simp[cf,h0,h1,h2,h8,h9,hh,hq,cz,aa];exact gq rfl
  .have uC:(!eY.isEmpty)=false:=by rw[hs.tK (by omega)];rfl
   rw[uC];simp[cf,h8,h9,hh];exact gq rfl
def Bw(n:Nat)(l pre eY post:List Ed)(x:Int)(cg:List LA)(S:AV)(hS:(∃z,S= .ls 5 cg z)\/(cg=[]/\S=()))(hl:l.length<=1000000000000000)(hq:cg.length=l.length)(hg:∀(i:Nat)(c:Ed),l[i]?=some c->∃a b d e:AV,cg[i]?=some [.sc (.int .i64 c.id),a,b,d,e])(hs:gZ (xj x) (wk x) l pre eY post)(bb:Bool)(h:Hp):
 ch cx (n+4) bb 366 [S,x,.fn 367 []] h=some (.tp [pre.length,.sc (.bool !eY.isEmpty)],h):=by
 have hp:pre.length<=l.length:=by rw[hs.e];simp
 rcases hS with⟨z,rfl⟩|⟨rfl,rfl⟩
 case inr=>
  have pg:l=[]:=Zl (by simpa using hq.symm);subst pg;have J4:pre=[]:=Zl (by simpa using hp);have zQ:eY=[]:=hs.tK (by simp);subst J4 zQ
  suffices H:∃r,r=AV.tp [(0:Int),false]/\∀b h,ch cx (n+4) b 366 [(),x,.fn 367 []] h=some (r,h) by
   obtain⟨r,rfl,hr⟩:=H;exact hr bb h
  refine gP (f:=366) (n:=n+3) (args:=[.sc (.slice none 0 0),.sc (.int .i64 x),.fn 367 []]) (λr=>r= .tp [(0:Int),false]) ⟨f366.ntmps,(f366.body).getD .skip,[.tmp 6,.tmp 7]⟩ (by kernel_rfl) (by kernel_rfl) rfl (by kernel_rfl) (by simp[f366]) rfl ?_;simp[f366];refine ej (C:=cx) (G:=λr=>∃r0 h',dL _ (eX _ _ (du _ r) _)=some (r0,h')/\cD h' 8 r0=some (.tp [(0:Int),false]))
   (λk s=>s.1.length=49/\gt s.1 8=(0:Int)/\gt s.1 9=(0:Int)/\gt s.1 10=(0:Int))
   (λo s=>o= .exit 0/\s.1.length=49/\gt s.1 8=(0:Int)/\gt s.1 9=(0:Int)) 0 (by simp) (by simp) ?_ ?_
  .rintro k fr h da ⟨cf,h8,h9,lN⟩;simp only at cf h8 h9 lN;simp[cf,h8,h9,lN]
  .rintro o fr h hn ⟨rfl,cf,h8,h9⟩;simp only at cf h8 h9;simp[cf,h8,h9];exact gq rfl
 suffices H:∃r,r=AV.tp [pre.length,.sc (.bool !eY.isEmpty)]/\∀b h,ch cx (n+4) b 366 [.ls 5 cg z,x,.fn 367 []] h=some (r,h) by
  obtain⟨r,rfl,hr⟩:=H;exact hr bb h
 refine gP (f:=366) (n:=n+3) (args:=[.ls 5 cg z,.sc (.int .i64 x),.fn 367 []]) (λr=>r= .tp [pre.length,.sc (.bool !eY.isEmpty)]) ⟨f366.ntmps,(f366.body).getD .skip,[.tmp 6,.tmp 7]⟩ (by kernel_rfl) (by kernel_rfl) rfl (by kernel_rfl) (by simp[f366]) rfl ?_;have aa:=Tw n;generalize n+3=M at aa;simp[f366];refine ej (C:=cx) (G:=λr=>∃r0 h',dL _ (eX _ _ (du _ r) _)=some (r0,h')/\cD h' 8 r0=some (.tp [pre.length,.sc (.bool !eY.isEmpty)]))
  (λk s=>∃lo hi:Nat,s.1.length=49/\gt s.1 0= .ls 5 cg z/\gt s.1 1=x/\gt s.1 2= .fn 367 []/\gt s.1 8=l.length/\gt s.1 9=lo/\gt s.1 10=hi
   /\lo<=pre.length/\pre.length<=hi/\hi<=l.length/\hi-lo+k<=l.length)
  (λo s=>o= .exit 0/\s.1.length=49/\gt s.1 0= .ls 5 cg z/\gt s.1 1=x/\gt s.1 2= .fn 367 []/\gt s.1 8=l.length/\gt s.1 9=pre.length) l.length (by simp;omega) ?_ ?_ ?_
 .refine⟨0,l.length,?_⟩;simp[hq,hp]
 .rintro k fr h da ⟨lo,hi,cf,h0,h1,h2,h8,h9,lN,q1,q2,q3,q4⟩;simp only at cf h0 h1 h2 h8 h9 lN;by_cases hh:lo<hi
  .have Hq:lo<=(lo+hi)/2:=by omega
   have GG:(lo+hi)/2<hi:=by omega
   generalize Hr:(lo+hi)/2=md at Hq GG;obtain⟨c,hc⟩:∃c,l[md]?=some c:=⟨_,Zb (by omega)⟩;obtain⟨a,b,d,e,hr⟩:=hg md c hc;have cz:=gA hr
   have e1:cS .i64 ((lo:Int)+hi)=((lo+hi:Nat):Int):=by rw[show(lo:Int)+hi=((lo+hi:Nat):Int) by omega];exact cu (by omega) (by omega)
   have e2:cS .u64 ((lo:Int)+hi)=(lo:Int)+hi:=jX (by omega) (by omega);have e3:((lo:Int)+hi)/2=(md:Int):=by omega
   have e4:cS .i64 (md:Int)=md:=cu (by omega) (by omega);have e5:cS .i64 ((md:Int)+1)=((md+1:Nat):Int):=cu (by omega) (by omega);have MI:md<l.length:=Yo GG q3;have dm:=hs.lt_iff hc;by_cases hk:dE c.id x<0
   .have hmp:md<pre.length:=dm.1 (by simpa[p_,xj]using(Ap _ _).1 hk);simp[cf,h0,h1,h2,h8,h9,lN,hh,e1,e2,e3,e4,e5,hq,MI,cz,aa,hk,IntKind.bits];clear e1 e2 e3 e4 e5;exact⟨by omega,md+1,by omega,hi,rfl,by omega,by omega,by omega,by omega⟩
   .have hmp:pre.length<=md:=by
     refine Ya λq=>hk ?_
     have:=dm.2 q;exact(Ap _ _).2 (by simpa[p_,xj]using this)
    simp[cf,h0,h1,h2,h8,h9,lN,hh,e1,e2,e3,e4,hq,MI,cz,aa,hk,IntKind.bits];clear e1 e2 e3 e4 e5;exact⟨by omega,lo,rfl,md,rfl,by omega,by omega,by omega,by omega⟩
  .have R7:lo=pre.length:=by omega
   subst R7;simp[cf,h0,h1,h2,h8,h9,lN,hh]
 .rintro o fr h hn ⟨rfl,cf,h0,h1,h2,h8,h9⟩;simp only at cf h0 h1 h2 h8 h9;by_cases hh:pre.length<l.length
  .obtain⟨c,hc⟩:=eA hh;obtain⟨a,b,d,e,hr⟩:=hg pre.length c hc;have cz:=gA hr
   have uC:(!eY.isEmpty)=decide (dE c.id x=0):=by
    rw[<-hs.Hx hc,Bool.eq_iff_iff,decide_eq_true_iff,MN];simp[wk]
   rw[uC];simp[cf,h0,h1,h2,h8,h9,hh,hq,cz,aa];exact gq rfl
  .have uC:(!eY.isEmpty)=false:=by rw[hs.tK (by omega)];rfl
   rw[uC];simp[cf,h8,h9,hh];exact gq rfl
def Bx(n:Nat)(l pre eY post:List fZ)(x:ByteArray)(cg:List LA)(S:AV)(hS:(∃z,S= .ls 6 cg z)\/(cg=[]/\S=()))(hl:l.length<=1000000000000000)(hq:cg.length=l.length)(hg:∀(i:Nat)(c:fZ),l[i]?=some c->cg[i]?=some (fK c))(hs:gZ (CS x) (Dc x) l pre eY post)(bb:Bool)(h:Hp):
 ch cx (n+4) bb 362 [S,x,.fn 363 []] h=some (.tp [pre.length,.sc (.bool !eY.isEmpty)],h):=by
 have hp:pre.length<=l.length:=by rw[hs.e];simp
 rcases hS with⟨z,rfl⟩|⟨rfl,rfl⟩
 case inr=>
  have pg:l=[]:=Zl (by simpa using hq.symm);subst pg;have J4:pre=[]:=Zl (by simpa using hp);have zQ:eY=[]:=hs.tK (by simp);subst J4 zQ
  suffices H:∃r,r=AV.tp [(0:Int),false]/\∀b h,ch cx (n+4) b 362 [(),x,.fn 363 []] h=some (r,h) by
   obtain⟨r,rfl,hr⟩:=H;exact hr bb h
  refine gP (f:=362) (n:=n+3) (args:=[.sc (.slice none 0 0),.sc (.string x),.fn 363 []]) (λr=>r= .tp [(0:Int),false]) ⟨f362.ntmps,(f362.body).getD .skip,[.tmp 6,.tmp 7]⟩ (by kernel_rfl) (by kernel_rfl) rfl (by kernel_rfl) (by simp[f362]) rfl ?_;simp[f362];refine ej (C:=cx) (G:=λr=>∃r0 h',dL _ (eX _ _ (du _ r) _)=some (r0,h')/\cD h' 8 r0=some (.tp [(0:Int),false]))
   (λk s=>s.1.length=49/\gt s.1 8=(0:Int)/\gt s.1 9=(0:Int)/\gt s.1 10=(0:Int))
   (λo s=>o= .exit 0/\s.1.length=49/\gt s.1 8=(0:Int)/\gt s.1 9=(0:Int)) 0 (by simp) (by simp) ?_ ?_
  .rintro k fr h da ⟨cf,h8,h9,lN⟩;simp only at cf h8 h9 lN;simp[cf,h8,h9,lN]
  .rintro o fr h hn ⟨rfl,cf,h8,h9⟩;simp only at cf h8 h9;simp[cf,h8,h9];exact gq rfl
 suffices H:∃r,r=AV.tp [pre.length,.sc (.bool !eY.isEmpty)]/\∀b h,ch cx (n+4) b 362 [.ls 6 cg z,x,.fn 363 []] h=some (r,h) by
  obtain⟨r,rfl,hr⟩:=H;exact hr bb h
 refine gP (f:=362) (n:=n+3) (args:=[.ls 6 cg z,.sc (.string x),.fn 363 []]) (λr=>r= .tp [pre.length,.sc (.bool !eY.isEmpty)]) ⟨f362.ntmps,(f362.body).getD .skip,[.tmp 6,.tmp 7]⟩ (by kernel_rfl) (by kernel_rfl) rfl (by kernel_rfl) (by simp[f362]) rfl ?_;have aa:=ada n;generalize n+3=M at aa;simp[f362];refine ej (C:=cx) (G:=λr=>∃r0 h',dL _ (eX _ _ (du _ r) _)=some (r0,h')/\cD h' 8 r0=some (.tp [pre.length,.sc (.bool !eY.isEmpty)]))
  (λk s=>∃lo hi:Nat,s.1.length=49/\gt s.1 0= .ls 6 cg z/\gt s.1 1=x/\gt s.1 2= .fn 363 []/\gt s.1 8=l.length/\gt s.1 9=lo/\gt s.1 10=hi
   /\lo<=pre.length/\pre.length<=hi/\hi<=l.length/\hi-lo+k<=l.length)
  (λo s=>o= .exit 0/\s.1.length=49/\gt s.1 0= .ls 6 cg z/\gt s.1 1=x/\gt s.1 2= .fn 363 []/\gt s.1 8=l.length/\gt s.1 9=pre.length) l.length (by simp;omega) ?_ ?_ ?_
 .refine⟨0,l.length,?_⟩;simp[hq,hp]
 .rintro k fr h da ⟨lo,hi,cf,h0,h1,h2,h8,h9,lN,q1,q2,q3,q4⟩;simp only at cf h0 h1 h2 h8 h9 lN;by_cases hh:lo<hi
  .have Hq:lo<=(lo+hi)/2:=by omega
   have GG:(lo+hi)/2<hi:=by omega
   generalize Hr:(lo+hi)/2=md at Hq GG;obtain⟨c,hc⟩:∃c,l[md]?=some c:=⟨_,Zb (by omega)⟩;have hr:=hg md c hc;have cz:=gA hr
   have e1:cS .i64 ((lo:Int)+hi)=((lo+hi:Nat):Int):=by rw[show(lo:Int)+hi=((lo+hi:Nat):Int) by omega];exact cu (by omega) (by omega)
   have e2:cS .u64 ((lo:Int)+hi)=(lo:Int)+hi:=jX (by omega) (by omega);have e3:((lo:Int)+hi)/2=(md:Int):=by omega
   have e4:cS .i64 (md:Int)=md:=cu (by omega) (by omega);have e5:cS .i64 ((md:Int)+1)=((md+1:Nat):Int):=cu (by omega) (by omega);have MI:md<l.length:=Yo GG q3;have dm:=hs.lt_iff hc;by_cases hk:gJ c.key x<0
   .have hmp:md<pre.length:=dm.1 (by simpa[CS]using(MO _ _).1 hk);simp[cf,h0,h1,h2,h8,h9,lN,hh,e1,e2,e3,e4,e5,hq,MI,cz,aa,hk,IntKind.bits,qz];clear e1 e2 e3 e4 e5;exact⟨by omega,md+1,by omega,hi,rfl,by omega,by omega,by omega,by omega⟩
   .have hmp:pre.length<=md:=by
     refine Ya λq=>hk ?_
     have:=dm.2 q;exact(MO _ _).2 (by simpa[CS]using this)
    simp[cf,h0,h1,h2,h8,h9,lN,hh,e1,e2,e3,e4,hq,MI,cz,aa,hk,IntKind.bits,qz];clear e1 e2 e3 e4 e5;exact⟨by omega,lo,rfl,md,rfl,by omega,by omega,by omega,by omega⟩
  .have R7:lo=pre.length:=by omega
   subst R7;simp[cf,h0,h1,h2,h8,h9,lN,hh]
 .rintro o fr h hn ⟨rfl,cf,h0,h1,h2,h8,h9⟩;simp only at cf h0 h1 h2 h8 h9;by_cases hh:pre.length<l.length
  .obtain⟨c,hc⟩:=eA hh;have hr:=hg pre.length c hc;have cz:=gA hr
   have uC:(!eY.isEmpty)=decide (gJ c.key x=0):=by
    rw[<-hs.Hx hc,Bool.eq_iff_iff,decide_eq_true_iff,Tu];simp[Dc]
   rw[uC];simp[cf,h0,h1,h2,h8,h9,hh,hq,cz,aa,qz];exact gq rfl
  .have uC:(!eY.isEmpty)=false:=by rw[hs.tK (by omega)];rfl
   rw[uC];simp[cf,h8,h9,hh];exact gq rfl
def gz(h:Hp)(sz:Nat)(cg:List LA)(x:AV):Prop:=(cg=[]/\x=())\/(cg≠ []/\∃id,x= .sl id sz 0 cg.length false/\h[id]?=some (.row cg.flatten))
def gz.np{h:Hp}{sz:Nat}{cg:List LA}{x:AV}(hx:gz h sz cg x)(v:Value):x≠ .pn v:=by
 rcases hx with⟨_,rfl⟩|⟨_,id,rfl,_⟩<;>simp
def kj{t:TypeId}{i:Ti}{sz bytes:Nat}{ag:Bool}{ez:List Value}(hT:cx.T t=some i)(hk:i.kd= .slice sz ag bytes ez)(h:Hp)(c:LA)(cg:List LA)(x:AV)(hx:gz h sz cg x)(hc:c.length=sz)(hr:∀r∈cg,r.length=sz)(fX:0<sz)(hn:cg.length<=10^9)(hb:bytes<=1000):
 ∃id h',ew cx (h++[.row c]) t x (.sl h.length sz 0 1 false)=some (.sl id sz 0 (cg.length+1) false,h')/\h'[id]?=some (.row (cg++[c]).flatten)/\
  (∀j b,h[j]?=some b->(∀k n,x= .sl k sz 0 n false->j≠k)->h'[j]?=some b)/\h.length<=id:=by
 rcases hx with⟨rfl,rfl⟩|⟨eF,id,rfl,cZ⟩
 .refine⟨_,_,Ak hT hk h c hc hb,?_,λj b hj _=>?_,by omega⟩
  .rw[show h++[eK.row c,eK.row c]=(h++[eK.row c])++[eK.row c] by simp,Zf (by simp)];simp
  .have:=(Za.1 hj).1;rw[Zd this];exact hj
 .have CR:cg.flatten.length=cg.length*sz:=cQ cg hr;have wP:(cg.length+1)*bytes<=140737488355328:=by
   have:=Nat.mul_le_mul (show cg.length+1<=1000000001 by omega) hb;omega
  refine⟨_,_,Al hT hk h c cg.flatten id cg.length cZ hc CR fX (by omega) wP,?_,λj b hj hjk=>?_,by omega⟩
  .rw[Zf (by simp)];simp
  .have mZ:=(Za.1 hj).1;have xk:j≠id:=hjk id _ rfl;rw[Zd (by simp;omega),Zq (λe=>xk e.symm),Zd mZ];exact hj
def xm{t:TypeId}{i:Ti}{sz bytes:Nat}{ag:Bool}{ez:List Value}(hT:cx.T t=some i)(hk:i.kd= .slice sz ag bytes ez)(h:Hp)(c:LA)(cg:List LA)(x:AV)(hx:gz h sz cg x)(hc:c.length=sz)(hr:∀r∈cg,r.length=sz)(fX:0<sz)(hn:cg.length<=10^9)(hb:bytes<=1000):
 ∃id h',ew cx (h++[.row c]) t x (.sl h.length sz 0 1 false)=some (.sl id sz 0 (cg.length+1) false,h')/\h'[id]?=some (.row (cg++[c]).flatten)/\
  (∀j b,h[j]?=some b->(∀k n,x= .sl k sz 0 n false->j≠k)->h'[j]?=some b):=by
 obtain⟨id,h',a,b,c,_⟩:=kj hT hk h c cg x hx hc hr fX hn hb;exact⟨id,h',a,b,c⟩
def oy{h:Hp}{sz:Nat}{cg:List LA}{c:LA}{id:Nat}(cZ:h[id]?=some (.row (cg++[c]).flatten)):gz h sz (cg++[c]) (.sl id sz 0 (cg.length+1) false):=
 .inr ⟨by simp,id,by simp,cZ⟩
def dt(sz:Nat)(cg:List LA):AV:=if cg.isEmpty then .sc (.slice none 0 0)else .ls sz cg false
def DV(sz:Nat)(cg:List LA):dk (dt sz cg)=true:=by unfold dt;split<;>rfl
def rM{sz:Nat}(fX:0<sz):∀(cg:List LA),(∀r∈cg,r.length=sz)->(List.range cg.length).map (λi=>(cg.flatten.drop (i*sz)).take sz)=cg
 | [],_=>rfl
 |
  r::cg,h=>by
  have hr:=h r (by simp);have ih:=rM fX cg λx hx=>h x (by simp[hx])
  rw[Xe,List.range_succ_eq_map,Yz,List.map_map]
  congr 1
  .simp[<-hr]
  .refine Eq.trans (List.map_congr_left λi _=>?_) ih;simp only[Function.comp_apply,List.flatten_cons,Nat.succ_eq_add_one,Xp,Nat.one_mul];rw[Nat.add_comm,<-List.drop_drop,<-hr,List.drop_left]
def eu :AV->Bool
 | .sc _| .ls .. | .rp .. =>true
 |_=>false
@[simp] def ag8(v:Value):eu (.sc v)=true:=rfl
@[simp] def agN(sz:Nat)(cg:List LA)(z:Bool):eu (.ls sz cg z)=true:=rfl
def KT{h:Hp}{n:Nat}{x:AV}(hx:eu x=true):cD h n x=some x:=by
 cases x<;>simp[eu]at hx<;>simp[cD]
def rN{h:Hp}{n:Nat}:∀{xs:LA},xs.all eu=true->xs.mapM (cD h n)=some xs
 | [],_=>rfl
 |
  x::xs,hx=>by
  rw[Zn,Zh]at hx;rw[Zo,KT hx.1,rN hx.2];rfl
def uE{h:Hp}{n id sz:Nat}{cg:List LA}{cs:LA}(fX:0<sz)(hr:∀r∈cg,r.length=sz)(hc:cg.flatten.all eu=true)(cZ:rowOf h id=some cs)(wc:cs.take (cg.length*sz)=cg.flatten)(da:cg.length*sz<=cs.length):cD h (n+1) (.sl id sz 0 cg.length false)=some (.ls sz cg false):=by
 simp only[cD,cZ,Xs,Yi,cq da,wc,rN hc,Yx,rM fX cg hr]
def fJ{h:Hp}{n sz:Nat}{cg:List LA}{x:AV}(fX:0<sz)(hr:∀r∈cg,r.length=sz)(hc:cg.flatten.all eu=true)(hx:gz h sz cg x):cD h (n+1) x=some (dt sz cg):=by
 rcases hx with⟨rfl,rfl⟩|⟨eF,id,rfl,cZ⟩
 .rfl
 .have CR:cg.flatten.length=cg.length*sz:=cQ cg hr;rw[uE fX hr hc (qC cZ) (by rw[Xa (by omega)]) (by omega)];unfold dt;cases cg with
  |nil=>exact absurd rfl eF
  |cons r cg=>rfl
def Aq(sz:Nat)(cg:List LA):uF sz (dt sz cg)= .ls sz cg false:=by
 unfold dt;cases cg with
 |nil=>rfl
 |cons r cg=>simp[uF]
def KU(c:fZ):(fK c).all eu=true:=by
 rw[uD];rcases fI c.v.isNil c.v.l with⟨_,h⟩|h<;>(rw[h];rfl)
def kW{cg:List LA}(h:∀r∈cg,r.all eu=true):cg.flatten.all eu=true:=by
 induction cg with
 |nil=>rfl
 |cons r cg ih=>rw[List.flatten_cons,List.all_append,h r (by simp),ih λx hx=>h x (by simp[hx])];rfl
def gQ(l:List fZ):(∀r∈d_ l,r.length=6)/\(d_ l).flatten.all eu=true:=
 ⟨λr hr=>by obtain⟨c,_,rfl⟩:=Yk.1 hr;simp,kW λr hr=>by obtain⟨c,_,rfl⟩:=Yk.1 hr;exact KU c⟩
def gm(l:List ByteArray):(∀r∈fj l,r.length=1)/\(fj l).flatten.all eu=true:=
 ⟨λr hr=>by obtain⟨c,_,rfl⟩:=Yk.1 hr;rfl,kW λr hr=>by obtain⟨c,_,rfl⟩:=Yk.1 hr;rfl⟩
def Ar(l:List Nd):(∀r∈f_ l,r.length=3)/\(f_ l).flatten.all eu=true:=
 ⟨λr hr=>by obtain⟨c,_,rfl⟩:=Yk.1 hr;rfl,kW λr hr=>by obtain⟨c,_,rfl⟩:=Yk.1 hr;rfl⟩
def Au(l:List Ed):(∀r∈fV l,r.length=5)/\(fV l).flatten.all eu=true:=
 ⟨λr hr=>by obtain⟨c,_,rfl⟩:=Yk.1 hr;rfl,kW λr hr=>by obtain⟨c,_,rfl⟩:=Yk.1 hr;rfl⟩
end
end Go.Proofs.YtmfohnojaginjaaGreatDoor
