/- The reference's Check of graphs: its edges, the whole. -/
import Derived.Test.YtadaeokidcgdlaaGreatDoorP21
set_option linter.unusedSimpArgs false
set_option maxRecDepth 100000
namespace Go.Proofs.YtadaeokidcgdlaaGreatDoor
open Go Go.Ae
section
attribute [local simp] aop aopW coldF extF putA ofConst flat scalarOp fastOp binFast intOp strOp guardX Ae.part rowOf szOk natOf lenA cls fillA splice newsOf isNilC cellX
set_option maxHeartbeats 8000000
theorem r07_edge (N D:Nat)(b:Bool)(g:Gr)(i:Nat)(h:Hp)(hb:GrB D g)(hi:i<g.edges.length):
 callN cx (N+2*D+7) b 147 [.ag (encG g),.sc (.int .i64 i)] h=some (.sc (.int .i64 (edgeE g i)),h):=by
 refine pure_calm (r:= .sc (.int .i64 (edgeE g i))) (n:=N+2*D+6) ⟨Tryz.f147.ntmps,(Tryz.f147.body).getD .skip,[.tmp 4]⟩ (by kernel_rfl) (by kernel_rfl) rfl (by kernel_rfl) (by simp[Tryz.f147]) (calm_G _ _) rfl ?_ b h;have hnl:=hb.el;obtain⟨c,hx⟩:∃c,g.edges[i]?=some c:=⟨_,Zb hi⟩;have hcb:=hb.es c (Zi hx);have f1:=fun b h=>r07_parts N D b none [] c.props false h (fun _=>rfl) (by simp) hcb.1 hcb.2
 have f2:=fun b x h=>r07_Node (N+2*D+5) b g x h hb.nl
 have f3:=fun b x h=>r07_Name (N+2*D+4) b x h
 have hq:=edR_length g.edges;have hg:=edR_get g.edges;unfold encG at f2⊢;unfold edV at f2⊢;generalize edR g.edges=rows at hq hg f2;simp only[ndV]at f2⊢;generalize ndR g.nodes=nrows at f2;generalize N+2*D+6=M at f1 f2 f3;have hr:rows[i]?=some [.sc (.int .i64 c.id),.sc (.int .i64 c.src),.sc (.int .i64 c.dst),.sc (.string c.type),prV c.props false]:=by rw[hg,hx];rfl
 have hr':∀k,rows[i]'k=[.sc (.int .i64 c.id),.sc (.int .i64 c.src),.sc (.int .i64 c.dst),.sc (.string c.type),prV c.props false]:=fun k=>by obtain⟨_,e⟩:=Za.1 hr;exact e
 unfold edgeE;rw[hx];simp only[lbV,prV]at f1 hr hr'⊢;generalize prR c.props=r2 at f1 hr hr';generalize partsE [] c.props=pe at f1;have f2a:=fun b h=>f2 b c.src h
 have f2b:=fun b h=>f2 b c.dst h
 generalize nodeAt g.nodes c.src=na at f2a⊢;generalize nodeAt g.nodes c.dst=nb at f2b⊢;have f3':=fun b h=>f3 b c.type h
 generalize nameS c.type=nt at f3'⊢;generalize na.isSome=ba at f2a⊢;generalize nb.isSome=bb at f2b⊢;clear f2 f3;obtain rfl|⟨j,hji⟩:i=0∨∃j,i=j+1:=by cases i with|zero=>exact .inl rfl|succ j=>exact .inr ⟨j,rfl⟩
 ·rw[if_neg (by rintro⟨a,_⟩;omega)];have hi':0< (g.edges.length:Int):=by omega
  by_cases k1:c.id<1
  ·simp[Tryz.f147,hq,hi,hi',hr,hr',k1]
  by_cases k2:g.ne≤c.id
  ·simp[Tryz.f147,hq,hi,hi',hr,hr',k1,k2]
  cases ba
  ·simp[Tryz.f147,hq,hi,hi',hr,hr',k1,k2,f2a,f2b]
  cases bb
  ·simp[Tryz.f147,hq,hi,hi',hr,hr',k1,k2,f2a,f2b]
  cases nt
  ·simp[Tryz.f147,hq,hi,hi',hr,hr',k1,k2,f2a,f2b,f3']
  ·simp[Tryz.f147,hq,hi,hi',hr,hr',k1,k2,f2a,f2b,f3',f1]
 ·obtain⟨m,hm⟩:∃m,g.edges[j]?=some m:=⟨_,Zb (by omega)⟩;have hs:rows[j]?=some [.sc (.int .i64 m.id),.sc (.int .i64 m.src),.sc (.int .i64 m.dst),.sc (.string m.type),prV m.props false]:=by rw[hg,hm];rfl
  have hs':∀k,rows[j]'k=[.sc (.int .i64 m.id),.sc (.int .i64 m.src),.sc (.int .i64 m.dst),.sc (.string m.type),prV m.props false]:=fun k=>by obtain⟨_,e⟩:=Za.1 hs;exact e
  have hf:fitI .i64 ((i:Int)-1)=(j:Int):=by rw[show((i:Int)-1)=((j:Nat):Int) by omega];exact fit_i64 (by omega) (by omega)
  have hp:0<i:=by omega
  have hj:j<g.edges.length:=by omega
  by_cases k0:c.id≤m.id
  ·rw[if_pos ⟨by omega,m,by rw[show i-1=j by omega];exact hm,k0⟩];simp[Tryz.f147,hq,hi,hj,hr,hr',hs,hs',hf,hp,k0]
  rw[if_neg (by rintro⟨_,m',e,k⟩;rw[show i-1=j by omega,hm]at e;cases e;exact k0 k)];by_cases k1:c.id<1
  ·simp[Tryz.f147,hq,hi,hj,hr,hr',hs,hs',hf,hp,k0,k1]
  by_cases k2:g.ne≤c.id
  ·simp[Tryz.f147,hq,hi,hj,hr,hr',hs,hs',hf,hp,k0,k1,k2]
  cases ba
  ·simp[Tryz.f147,hq,hi,hj,hr,hr',hs,hs',hf,hp,k0,k1,k2,f2a,f2b]
  cases bb
  ·simp[Tryz.f147,hq,hi,hj,hr,hr',hs,hs',hf,hp,k0,k1,k2,f2a,f2b]
  cases nt
  ·simp[Tryz.f147,hq,hi,hj,hr,hr',hs,hs',hf,hp,k0,k1,k2,f2a,f2b,f3']
  ·simp[Tryz.f147,hq,hi,hj,hr,hr',hs,hs',hf,hp,k0,k1,k2,f2a,f2b,f3',f1]
def scanE (f:Nat→Int)(i:Nat):Nat→Int
 |0=>0
 |k+1=>if f i=0 then scanE f (i+1) k else f i
theorem scanE_step (f:Nat→Int){i n:Nat}(h:i<n):scanE f i (n-i)=if f i=0 then scanE f (i+1) (n-(i+1))else f i:=by
 obtain⟨k,rfl⟩:∃k,n=i+1+k:=⟨n-(i+1),by omega⟩;rw[show i+1+k-i=k+1 by omega,show i+1+k-(i+1)=k by omega];rfl
def edgesE (g:Gr):Int:=scanE (edgeE g) 0 g.edges.length
def nodesE (g:Gr):Int:=scanE (nodeE g) 0 g.nodes.length
def graphE (g:Gr):Int:=
 if 2000<g.nodes.length∨4000<g.edges.length then 4
 else if g.nn<1∨1000001<g.nn∨g.ne<1∨1000001<g.ne then 1
 else if nodesE g=0 then edgesE g else nodesE g
theorem calm_G1 (g:Gr):[AV.ag (encG g)].all calm=true:=rfl
theorem r07_Check (N D:Nat)(b:Bool)(g:Gr)(h:Hp)(hb:GrB D g):
 callN cx (N+2*D+8) b 84 [.ag (encG g)] h=some (.sc (.int .i64 (graphE g)),h):=by
 refine pure_calm (r:= .sc (.int .i64 (graphE g))) (n:=N+2*D+7) ⟨Tryz.f84.ntmps,(Tryz.f84.body).getD .skip,[.tmp 2]⟩ (by kernel_rfl) (by kernel_rfl) rfl (by kernel_rfl) (by simp[Tryz.f84]) (calm_G1 _) rfl ?_ b h;have f1:=fun b i h (hi:i<g.nodes.length)=>r07_node N D b g i h hb hi
 have f2:=fun b i h (hi:i<g.edges.length)=>r07_edge N D b g i h hb hi
 have hnl:=hb.nl;have hel:=hb.el;have hqn:=ndR_length g.nodes;have hqe:=edR_length g.edges;unfold graphE;generalize hne:nodesE g=ne;generalize hee:edgesE g=ee;unfold nodesE at hne;unfold edgesE at hee;generalize nodeE g=fn at f1 hne;generalize edgeE g=fe at f2 hee;unfold encG ndV edV at f1 f2⊢;generalize ndR g.nodes=nrows at hqn f1 f2;generalize edR g.edges=erows at hqe f1 f2;generalize N+2*D+7=M at f1 f2;obtain⟨nodes,edges,nn,en⟩:=g;simp only at *;by_cases k1:2000<nodes.length
 ·simp[Tryz.f84,hqn,k1,show 2000< (nodes.length:Int) by omega]
 have k1':¬2000< (nodes.length:Int):=by omega
 by_cases k2:4000<edges.length
 ·simp[Tryz.f84,hqn,hqe,k1,k1',k2,show 4000< (edges.length:Int) by omega]
 have k2':¬4000< (edges.length:Int):=by omega
 by_cases k3:nn<1
 ·simp[Tryz.f84,hqn,hqe,k1,k1',k2,k2',k3]
 by_cases k4:1000001<nn
 ·simp[Tryz.f84,hqn,hqe,k1,k1',k2,k2',k3,k4]
 by_cases k5:en<1
 ·simp[Tryz.f84,hqn,hqe,k1,k1',k2,k2',k3,k4,k5]
 by_cases k6:1000001<en
 ·simp[Tryz.f84,hqn,hqe,k1,k1',k2,k2',k3,k4,k5,k6]
 simp[Tryz.f84,hqn,hqe,k1,k1',k2,k2',k3,k4,k5,k6];refine loop_up (C:=cx) (G:=fun r=>∃x,finX _ (thenX _ _ (blockX _ r) _)=some (_,x))
  (fun i s=>ne=scanE fn i (nodes.length-i)∧s.1.length=61∧gt s.1 1= .pt 0 0∧gt s.1 3= .sc (.int .i64 i)∧s.2=[.row [.ls 3 nrows false,.ls 5 erows false,.sc (.int .i64 nn),.sc (.int .i64 en)]])
  (fun o s=>s.1.length=61∧((o= .exit 0∧ne=0∧gt s.1 1= .pt 0 0∧s.2=[.row [.ls 3 nrows false,.ls 5 erows false,.sc (.int .i64 nn),.sc (.int .i64 en)]])∨(o= .ret∧ne≠0∧gt s.1 2= .sc (.int .i64 ne)))) nodes.length (by simp;omega) (by simp[hne]) ?_ ?_
 ·rintro i fr h hle ⟨ho,hlen,h1,h3,hh⟩;simp only at hlen h1 h3 hh;subst hh;by_cases hi:i<nodes.length
  ·have hcx:=fun b h=>f1 b i h hi
   rw[scanE_step fn hi]at ho;have hf:fitI .i64 ((i:Int)+1)=((i+1:Nat):Int):=fit_i64 (by omega) (by omega);by_cases hk:fn i=0
   ·rw[if_pos hk]at ho;simp[hlen,h1,h3,hi,hqn,hcx,hk,hf];exact ho
   ·rw[if_neg hk]at ho;simp[hlen,h1,h3,hi,hqn,hcx,hk,ho]
  ·rw[show nodes.length-i=0 by omega]at ho;have ho':ne=0:=ho;simp[hlen,h1,h3,hi,hqn,ho']
 ·rintro o fr h hn ⟨hlen,⟨rfl,hz,h1,hh⟩|⟨rfl,hz,h2⟩⟩
  ·simp only at hlen h1 hh;subst hh;clear hne hn;subst hz;simp[hlen,h1];refine loop_up (C:=cx) (G:=fun r=>∃x,finX _ (thenX _ _ (blockX _ r) _)=some (_,x))
    (fun i s=>ee=scanE fe i (edges.length-i)∧s.1.length=61∧gt s.1 1= .pt 0 0∧gt s.1 5= .sc (.int .i64 i)∧s.2=[.row [.ls 3 nrows false,.ls 5 erows false,.sc (.int .i64 nn),.sc (.int .i64 en)]])
    (fun o s=>s.1.length=61∧((o= .exit 2∧ee=0)∨(o= .ret∧gt s.1 2= .sc (.int .i64 ee)))) edges.length (by simp;omega) (by simp[hee,hlen,h1]) ?_ ?_
   ·rintro i fr h hle ⟨ho,hlen,h1,h5,hh⟩;simp only at hlen h1 h5 hh;subst hh;by_cases hi:i<edges.length
    ·have hcx:=fun b h=>f2 b i h hi
     rw[scanE_step fe hi]at ho;have hf:fitI .i64 ((i:Int)+1)=((i+1:Nat):Int):=fit_i64 (by omega) (by omega);by_cases hk:fe i=0
     ·rw[if_pos hk]at ho;simp[hlen,h1,h5,hi,hqe,hcx,hk,hf];exact ho
     ·rw[if_neg hk]at ho;simp[hlen,h1,h5,hi,hqe,hcx,hk,ho]
    ·rw[show edges.length-i=0 by omega]at ho;have ho':ee=0:=ho;simp[hlen,h1,h5,hi,hqe,ho']
   ·rintro o fr h hn ⟨hlen,⟨rfl,hz⟩|⟨rfl,h2⟩⟩
    ·simp only at hlen;simp[hlen,hz]
    ·simp only at h2;simp[h2]
  ·simp only at h2;simp[h2,hz]
@[simp] theorem encN_length (c:Nd):(encN c).length=3:=rfl
@[simp] theorem encE_length (c:Ed):(encE c).length=5:=rfl
@[simp] theorem encN_take (c:Nd):(encN c).take 3=encN c:=rfl
@[simp] theorem encE_take (c:Ed):(encE c).take 5=encE c:=rfl
@[simp] theorem U_uint :cx.P.underlying 136=some (.int .u64):=by kernel_rfl
def SortedN (l:List Nd):Prop:=∀(i j:Nat) (a b:Nd),l[i]?=some a→l[j]?=some b→i<j→a.id<b.id
theorem calm_ndx (l:List Nd)(x:Int)(f:FuncId):[ndV l,.sc (.int .i64 x),.fn f []].all calm=true:=rfl
theorem calm_nd1 (l:List Nd)(x:Int):[ndV l,.sc (.int .i64 x)].all calm=true:=rfl
theorem g_has1 (n:Nat)(b:Bool)(c:Nd)(x:Int)(h:Hp):callN cx (n+3) b 227 [.ag (encN c),.sc (.int .i64 x)] h=some (.sc (.int .i64 (cmpI c.id x)),h++[.row (encN c)]):=by
 rw[call_inl (n:=n+2) ⟨Tryz.f227.ntmps,(Tryz.f227.body).getD .skip,[.tmp 4]⟩ rfl (by kernel_rfl) (by kernel_rfl) (by kernel_rfl) (by kernel_rfl) (by simp[Tryz.f227])];have f1:=fun b h=>Compare_int n b c.id x h
 generalize cmpI c.id x=r at f1;simp[Tryz.f227,encN,f1]
structure LowN (l:List Nd)(x:Int)(lo:Nat):Prop where
 le:lo≤l.length
 lt:∀(i:Nat) (a:Nd),l[i]?=some a→i<lo→a.id<x
 ge:∀(i:Nat) (a:Nd),l[i]?=some a→lo≤i→x≤a.id
theorem nodeAt_some {l:List Nd}{x:Int}{i:Nat}{a:Nd}(h:l[i]?=some a)(e:a.id=x):(nodeAt l x).isSome=true:=by
 unfold nodeAt;rw[List.find?_isSome];exact⟨a,Zi h,by simpa using e⟩
theorem LowN.found {l:List Nd}{x:Int}{lo:Nat}(hs:SortedN l)(h:LowN l x lo):(nodeAt l x).isSome=true↔∃a:Nd,l[lo]?=some a∧a.id=x:=by
 constructor
 ·intro k;unfold nodeAt at k;rw[List.find?_isSome]at k;obtain⟨a,ha,e⟩:=k;obtain⟨i,hi⟩:=List.mem_iff_getElem?.1 ha;simp only[beq_iff_eq]at e;have h1:¬i<lo:=fun q=>by have:=h.lt i a hi q;omega
  by_cases h2:i=lo
  ·subst h2;exact⟨a,hi,e⟩
  ·obtain⟨c,hc⟩:∃c,l[lo]?=some c:=⟨_,Zb (by have:=(Za.1 hi).1;omega)⟩;have h3:=hs lo i c a hc hi (by omega);have h4:=h.ge lo c hc (Nat.le_refl _);omega
 ·rintro⟨a,ha,e⟩;exact nodeAt_some ha e
theorem sl_Search_has (n:Nat)(l:List Nd)(x:Int)(hl:l.length≤1000000000000000)(hs:SortedN l):
 ∃r,(∃lo:Nat,LowN l x lo∧r= .tp [.sc (.int .i64 lo),.sc (.bool (nodeAt l x).isSome)])∧∀b h,callN cx (n+4) b 226 [ndV l,.sc (.int .i64 x),.fn 227 []] h=some (r,h):=by
 refine pure_ex (f:=226) (n:=n+3) (args:=[ndV l,.sc (.int .i64 x),.fn 227 []]) (fun r=>∃lo:Nat,LowN l x lo∧r= .tp [.sc (.int .i64 lo),.sc (.bool (nodeAt l x).isSome)]) ⟨Tryz.f226.ntmps,(Tryz.f226.body).getD .skip,[.tmp 6,.tmp 7]⟩ (by kernel_rfl) (by kernel_rfl) rfl (by kernel_rfl) (by simp[Tryz.f226]) (calm_ndx _ _ _) ?_;have hq:=ndR_length l;have hg:=ndR_get l;have f1:=fun b c h=>g_has1 n b c x h
 unfold ndV;generalize ndR l=rows at hq hg;generalize n+3=M at f1;simp[Tryz.f226];refine loop_up (C:=cx) (G:=fun r=>∃r0 h',finX _ (thenX _ _ (blockX _ r) _)=some (r0,h')∧∃r',snap h' 8 r0=some r'∧∃lo:Nat,LowN l x lo∧r'= .tp [.sc (.int .i64 lo),.sc (.bool (nodeAt l x).isSome)])
  (fun k s=>∃lo hi:Nat,s.1.length=49∧gt s.1 0= .ls 3 rows false∧gt s.1 1= .sc (.int .i64 x)∧gt s.1 2= .fn 227 []∧gt s.1 8= .sc (.int .i64 l.length)∧gt s.1 9= .sc (.int .i64 lo)∧gt s.1 10= .sc (.int .i64 hi)
   ∧lo≤hi∧hi≤l.length∧hi-lo+k≤l.length∧(∀(i:Nat) (a:Nd),l[i]?=some a→i<lo→a.id<x)∧(∀(i:Nat) (a:Nd),l[i]?=some a→hi≤i→x≤a.id))
  (fun o s=>o= .exit 0∧s.1.length=49∧gt s.1 0= .ls 3 rows false∧gt s.1 1= .sc (.int .i64 x)∧gt s.1 2= .fn 227 []∧gt s.1 8= .sc (.int .i64 l.length)∧∃lo:Nat,gt s.1 9= .sc (.int .i64 lo)∧LowN l x lo) l.length (by simp;omega) ?_ ?_ ?_
 ·refine⟨0,l.length,?_⟩;simp[hq];intro i a ha q;have:=(Za.1 ha).1;omega
 ·rintro k fr h hle ⟨lo,hi,hlen,h0,h1,h2,h8,h9,h10,q1,q2,q3,q4,q5⟩;simp only at hlen h0 h1 h2 h8 h9 h10;by_cases hh:lo<hi
  ·have hm1:lo≤(lo+hi)/2:=by omega
   have hm2:(lo+hi)/2<hi:=by omega
   generalize hmid:(lo+hi)/2=mid at hm1 hm2;obtain⟨c,hc⟩:∃c,l[mid]?=some c:=⟨_,Zb (by omega)⟩;have hr:rows[mid]?=some (encN c):=by rw[hg,hc];rfl
   have hr':∀k,rows[mid]'k=encN c:=fun k=>by obtain⟨_,e⟩:=Za.1 hr;exact e
   have e1:fitI .i64 ((lo:Int)+hi)=((lo+hi:Nat):Int):=by rw[show(lo:Int)+hi=((lo+hi:Nat):Int) by omega];exact fit_i64 (by omega) (by omega)
   have e2:fitI .u64 ((lo:Int)+hi)=(lo:Int)+hi:=fit_u64 (by omega) (by omega);have e3:((lo:Int)+hi)/2=(mid:Int):=by omega
   have e4:fitI .i64 (mid:Int)=mid:=fit_i64 (by omega) (by omega);have e5:fitI .i64 ((mid:Int)+1)=((mid+1:Nat):Int):=fit_i64 (by omega) (by omega);have hmq:mid<l.length:=Yl hm2 q2;by_cases hk:cmpI c.id x<0
   ·simp[hlen,h0,h1,h2,h8,h9,h10,hh,e1,e2,e3,e4,e5,hq,hmq,hr,hr',f1,hk,IntKind.bits];clear e1 e2 e3 e4 e5;refine⟨by omega,mid+1,by omega,hi,rfl,by omega,by omega,by omega,?_,q5⟩;intro i a ha q;have hcx:c.id<x:=by unfold cmpI at hk;split at hk<;>omega
    by_cases h3:i=mid
    ·subst h3;rw[hc]at ha;cases ha;exact hcx
    ·have:=hs i mid a c ha hc (by omega);omega
   ·simp[hlen,h0,h1,h2,h8,h9,h10,hh,e1,e2,e3,e4,e5,hq,hmq,hr,hr',f1,hk,IntKind.bits];clear e1 e2 e3 e4 e5;refine⟨by omega,lo,rfl,mid,rfl,by omega,by omega,by omega,q4,?_⟩;intro i a ha q;have hcx:x≤c.id:=by unfold cmpI at hk;split at hk<;>omega
    by_cases h3:i=mid
    ·subst h3;rw[hc]at ha;cases ha;exact hcx
    ·have:=hs mid i c a hc ha (by omega);omega
  ·have hlo:lo=hi:=by omega
   subst hlo;simp[hlen,h0,h1,h2,h8,h9,h10];exact⟨lo,rfl,q2,q4,q5⟩
 ·rintro o fr h hn ⟨rfl,hlen,h0,h1,h2,h8,lo,h9,hL⟩;simp only at hlen h0 h1 h2 h8 h9;have hfd:=hL.found hs;have hll:=hL.le;by_cases hh:lo<l.length
  ·obtain⟨c,hc⟩:∃c,l[lo]?=some c:=⟨_,Zb hh⟩;have hr:rows[lo]?=some (encN c):=by rw[hg,hc];rfl
   have hr':∀k,rows[lo]'k=encN c:=fun k=>by obtain⟨_,e⟩:=Za.1 hr;exact e
   have hfd':(nodeAt l x).isSome=decide (cmpI c.id x=0):=by
    rw[Bool.eq_iff_iff,hfd,decide_eq_true_iff];rw[hc];unfold cmpI;constructor
    ·rintro⟨a,ha,e⟩;cases ha;rw[if_neg (by omega),if_neg (by omega)]
    ·intro e;refine⟨c,rfl,?_⟩;split at e<;>(try split at e)<;>omega
   rw[hfd'];simp[hlen,h0,h1,h2,h8,h9,hh,hq,hr,hr',f1];exact⟨_,_,⟨rfl,rfl⟩,_,rfl,lo,hL,rfl⟩
  ·have hlo:lo=l.length:=by omega
   have hfd':(nodeAt l x).isSome=false:=by
    rw[Bool.eq_false_iff];intro e;obtain⟨a,ha,_⟩:=hfd.1 e;have:=(Za.1 ha).1;omega
   rw[hfd'];simp[hlen,h0,h1,h2,h8,h9,hh];exact⟨_,_,⟨rfl,rfl⟩,_,rfl,lo,hL,rfl⟩
theorem g_has (n:Nat)(b:Bool)(l:List Nd)(x:Int)(h:Hp)(hl:l.length≤1000000000000000)(hs:SortedN l):
 callN cx (n+5) b 156 [ndV l,.sc (.int .i64 x)] h=some (.sc (.bool (nodeAt l x).isSome),h):=by
 refine pure_calm (r:= .sc (.bool (nodeAt l x).isSome)) (n:=n+4) ⟨Tryz.f156.ntmps,(Tryz.f156.body).getD .skip,[.tmp 4]⟩ (by kernel_rfl) (by kernel_rfl) rfl (by kernel_rfl) (by simp[Tryz.f156]) (calm_nd1 _ _) rfl ?_ b h;obtain⟨r,⟨lo,hL,rfl⟩,f1⟩:=sl_Search_has n l x hl hs;generalize(nodeAt l x).isSome=r at f1;generalize n+4=M at f1;unfold ndV at f1⊢;simp[Tryz.f156,f1]
set_option maxHeartbeats 16000000
theorem scanE_zero (f:Nat→Int):∀(k i:Nat),scanE f i k=0→∀j,i≤j→j<i+k→f j=0
 |0,i,_,j,h1,h2=>by omega
 |
  k+1,i,h,j,h1,h2=>by
  rw[scanE]at h;by_cases hk:f i=0
  ·rw[if_pos hk]at h;by_cases e:i=j
   ·subst e;exact hk
   ·exact scanE_zero f k (i+1) h j (by omega) (by omega)
  ·rw[if_neg hk]at h;exact absurd h hk
theorem nodeE_ne {g:Gr}{i:Nat}{a c:Nd}(ha:g.nodes[i]?=some a)(hc:g.nodes[i+1]?=some c)(h:nodeE g (i+1)=0):a.id<c.id:=by
 unfold nodeE at h;rw[hc]at h;simp only at h;split at h
 ·exact absurd h (by decide)
 ·rename_i k;rw[Nat.add_sub_cancel]at k;by_cases q:c.id≤a.id
  ·exact absurd ⟨by omega,a,ha,q⟩ k
  ·omega
theorem nodes_sorted {g:Gr}(h:nodesE g=0):SortedN g.nodes:=by
 have hz:∀j,j<g.nodes.length→nodeE g j=0:=fun j hj=>scanE_zero (nodeE g) g.nodes.length 0 h j (by omega) (by omega)
 intro i j a b ha hb hij;obtain⟨k,rfl⟩:∃k,j=i+1+k:=⟨j-(i+1),by omega⟩;clear hij
 induction k generalizing b with
 |zero=>exact nodeE_ne ha hb (hz _ (Za.1 hb).1)
 |
  succ k ih=>
  have hl:=(Za.1 hb).1;obtain⟨c,hc⟩:∃c,g.nodes[i+1+k]?=some c:=⟨_,Zb (by omega)⟩;have h1:=ih c hc;have h2:=nodeE_ne hc hb (hz _ hl);omega
theorem fit_succ {i:Nat}(h:i≤1000000000000000):fitI .i64 ((i:Int)+1)=((i+1:Nat):Int):=fit_i64 (by omega) (by omega)
theorem fit_pred {i j:Nat}(e:i=j+1)(h:i≤1000000000000000):fitI .i64 ((i:Int)-1)=(j:Int):=by
 subst e;rw[show((j+1:Nat):Int)-1=(j:Int) by omega];exact fit_i64 (by omega) (by omega)
theorem g_Check (N D:Nat)(b:Bool)(g:Gr)(h:Hp)(hb:GrB D g):
 callN cx (N+2*D+8) b 90 [.ag (encG g)] h=some (.sc (.int .i64 (graphE g)),h):=by
 refine pure_calm (r:= .sc (.int .i64 (graphE g))) (n:=N+2*D+7) ⟨Tryz.f90.ntmps,(Tryz.f90.body).getD .skip,[.tmp 2]⟩ (by kernel_rfl) (by kernel_rfl) rfl (by kernel_rfl) (by simp[Tryz.f90]) (calm_G1 _) rfl ?_ b h;have f1:=fun b (n:Nd) h (hn:n∈g.nodes)=>g_parts (N+1) D b (some false) n.labels n.props false h (by intro e;cases e) (hb.ns n hn).1 (hb.ns n hn).2.1 (hb.ns n hn).2.2
 have f2:=fun b (e:Ed) h (he:e∈g.edges)=>g_parts (N+1) D b none [] e.props false h (fun _=>rfl) (by simp) (hb.es e he).1 (hb.es e he).2
 have f3:=fun b x h=>g_Name (N+2*D+5) b x h
 have f4:=fun b x h (hs:SortedN g.nodes)=>g_has (N+2*D+2) b g.nodes x h hb.nl hs
 have hnl:=hb.nl;have hel:=hb.el;have hqn:=ndR_length g.nodes;have hqe:=edR_length g.edges;have hgn:=ndR_get g.nodes;have hge:=edR_get g.edges;have hsort:nodesE g=0→SortedN g.nodes:=nodes_sorted;unfold graphE;generalize hne:nodesE g=ne at hsort;generalize hee:edgesE g=ee;unfold nodesE at hne;unfold edgesE at hee;have hfn:∀i n,g.nodes[i]?=some n→nodeE g i=if 0<i∧(∃m,g.nodes[i-1]?=some m∧n.id≤m.id)then 26
  else if n.id<1∨g.nn≤n.id then 1 else partsE n.labels n.props:=fun i n hn=>by unfold nodeE;rw[hn]
 have hfe:∀i e,g.edges[i]?=some e→edgeE g i=if 0<i∧(∃m,g.edges[i-1]?=some m∧e.id≤m.id)then 26
  else if e.id<1∨g.ne≤e.id then 1
  else if(nodeAt g.nodes e.src).isSome=false∨(nodeAt g.nodes e.dst).isSome=false then 10
  else if nameS e.type=false then 6 else partsE [] e.props:=fun i n hn=>by unfold edgeE;rw[hn]
 generalize nodeE g=fn at hne hfn;generalize edgeE g=fe at hee hfe;unfold encG ndV edV;unfold ndV at f4;simp only[lbV,tsV,prV]at f1 f2;generalize ndR g.nodes=nrows at hqn hgn f4;generalize edR g.edges=erows at hqe hge;have e7:N+1+2*D+6=N+2*D+7:=by omega
 simp only[e7]at f1 f2;generalize N+2*D+7=M at f1 f2 f3 f4⊢;obtain⟨nodes,edges,nn,en⟩:=g;simp only at *;by_cases k1:2000<nodes.length
 ·simp[Tryz.f90,hqn,k1,show 2000< (nodes.length:Int) by omega]
 have k1':¬2000< (nodes.length:Int):=by omega
 by_cases k2:4000<edges.length
 ·simp[Tryz.f90,hqn,hqe,k1,k1',k2,show 4000< (edges.length:Int) by omega]
 have k2':¬4000< (edges.length:Int):=by omega
 by_cases k3:nn<1
 ·simp[Tryz.f90,hqn,hqe,k1,k1',k2,k2',k3]
 by_cases k4:1000001<nn
 ·simp[Tryz.f90,hqn,hqe,k1,k1',k2,k2',k3,k4]
 by_cases k5:en<1
 ·simp[Tryz.f90,hqn,hqe,k1,k1',k2,k2',k3,k4,k5]
 by_cases k6:1000001<en
 ·simp[Tryz.f90,hqn,hqe,k1,k1',k2,k2',k3,k4,k5,k6]
 simp[Tryz.f90,hqn,hqe,k1,k1',k2,k2',k3,k4,k5,k6];refine loop_up (C:=cx) (G:=fun r=>∃x,finX _ (thenX _ _ (blockX _ r) _)=some (_,x))
  (fun i s=>ne=scanE fn i (nodes.length-i)∧s.1.length=135∧gt s.1 1= .pt 0 0∧gt s.1 38= .ls 3 nrows false∧gt s.1 39= .sc (.int .i64 nodes.length)∧gt s.1 40= .sc (.int .i64 i)∧∃tl,s.2= .row [.ls 3 nrows false,.ls 5 erows false,.sc (.int .i64 nn),.sc (.int .i64 en)]::tl)
  (fun o s=>s.1.length=135∧((o= .exit 0∧ne=0∧gt s.1 1= .pt 0 0∧∃tl,s.2= .row [.ls 3 nrows false,.ls 5 erows false,.sc (.int .i64 nn),.sc (.int .i64 en)]::tl)∨(o= .ret∧ne≠0∧gt s.1 2= .sc (.int .i64 ne)))) nodes.length (by simp;omega) (by simp[hne,hqn]) ?_ ?_
 ·rintro i fr h hle ⟨ho,hlen,h1,h38,h39,h40,tl,hh⟩;simp only at hlen h1 h38 h39 h40 hh;subst hh;have hile:i≤1000000000000000:=Ym hle hnl;by_cases hi:i<nodes.length
  ·rw[scanE_step fn hi]at ho;obtain⟨c,hx⟩:∃c,nodes[i]?=some c:=⟨_,Zb hi⟩;have hcx:=fun b h=>f1 b c h (Zi hx)
   have hr:nrows[i]?=some [.sc (.int .i64 c.id),.ls 1 (tsR c.labels) false,.ls 6 (prR c.props) false]:=by rw[hgn,hx];rfl
   have hr':∀k,nrows[i]'k=[.sc (.int .i64 c.id),.ls 1 (tsR c.labels) false,.ls 6 (prR c.props) false]:=fun k=>by obtain⟨_,e⟩:=Za.1 hr;exact e
   have hv:=hfn i c hx;generalize partsE c.labels c.props=pe at hcx hv;clear f1 f2 f3 f4 hfn hfe hsort;obtain rfl|⟨j,hji⟩:i=0∨∃j,i=j+1:=by cases i with|zero=>exact .inl rfl|succ j=>exact .inr ⟨j,rfl⟩
   ·rw[if_neg (by rintro⟨a,_⟩;omega)]at hv;have hi':0< (nodes.length:Int):=by omega
    by_cases q1:c.id<1
    ·have hv':ne=1:=by rw[ho,hv];simp[q1]
     simp[hlen,h1,h38,h39,h40,hqn,hi,hi',hr,hr',q1,hv']
    by_cases q2:nn≤c.id
    ·have hv':ne=1:=by rw[ho,hv];simp[q1,q2]
     simp[hlen,h1,h38,h39,h40,hqn,hi,hi',hr,hr',q1,q2,hv']
    rw[if_neg (by omega)]at hv;by_cases q3:pe=0
    ·rw[hv,if_pos q3]at ho;simp[hlen,h1,h38,h39,h40,hqn,hi,hi',hr,hr',q1,q2,q3,hcx];exact⟨ho,rfl⟩
    ·rw[hv,if_neg q3]at ho;simp[hlen,h1,h38,h39,h40,hqn,hi,hi',hr,hr',q1,q2,q3,hcx,ho]
   ·obtain⟨m,hm⟩:∃m,nodes[j]?=some m:=⟨_,Zb (by omega)⟩;have hs:nrows[j]?=some [.sc (.int .i64 m.id),tsV m.labels false,prV m.props false]:=by rw[hgn,hm];rfl
    have hs':∀k,nrows[j]'k=[.sc (.int .i64 m.id),tsV m.labels false,prV m.props false]:=fun k=>by obtain⟨_,e⟩:=Za.1 hs;exact e
    have hp:0<i:=by omega
    have hj:j<nodes.length:=by omega
    by_cases q0:c.id≤m.id
    ·rw[if_pos ⟨by omega,m,by rw[show i-1=j by omega];exact hm,q0⟩]at hv;have hv':ne=26:=by rw[ho,hv];simp
     have hf':=fit_pred hji hile;simp[hlen,h1,h38,h39,h40,hqn,hi,hj,hr,hr',hs,hs',hf',hp,q0,hv']
    rw[if_neg (by rintro⟨_,m',e,k⟩;rw[show i-1=j by omega,hm]at e;cases e;exact q0 k)]at hv;by_cases q1:c.id<1
    ·have hv':ne=1:=by rw[ho,hv];simp[q1]
     have hf':=fit_pred hji hile;simp[hlen,h1,h38,h39,h40,hqn,hi,hj,hr,hr',hs,hs',hf',hp,q0,q1,hv']
    by_cases q2:nn≤c.id
    ·have hv':ne=1:=by rw[ho,hv];simp[q1,q2]
     have hf':=fit_pred hji hile;simp[hlen,h1,h38,h39,h40,hqn,hi,hj,hr,hr',hs,hs',hf',hp,q0,q1,q2,hv']
    rw[if_neg (by omega)]at hv;by_cases q3:pe=0
    ·rw[hv,if_pos q3]at ho;have hf:=fit_succ hile;have hf':=fit_pred hji hile;simp[hlen,h1,h38,h39,h40,hqn,hi,hj,hr,hr',hs,hs',hf',hf,hp,q0,q1,q2,q3,hcx];exact ho
    ·rw[hv,if_neg q3]at ho;have hf':=fit_pred hji hile;simp[hlen,h1,h38,h39,h40,hqn,hi,hj,hr,hr',hs,hs',hf',hp,q0,q1,q2,q3,hcx,ho]
  ·rw[show nodes.length-i=0 by omega]at ho;have ho':ne=0:=ho;simp[hlen,h1,h38,h39,h40,hi,hqn,ho']
 ·rintro o fr h hn ⟨hlen,⟨rfl,hz,h1,tl,hh⟩|⟨rfl,hz,h2⟩⟩
  ·simp only at hlen h1 hh;subst hh;clear hne hn hfn f1;subst hz;have f4':=fun b x h=>f4 b x h (hsort rfl)
   clear f4 hsort;simp[hlen,h1,hqe];refine loop_up (C:=cx) (G:=fun r=>∃x,finX _ (thenX _ _ (blockX _ r) _)=some (_,x))
    (fun i s=>ee=scanE fe i (edges.length-i)∧s.1.length=135∧gt s.1 1= .pt 0 0∧gt s.1 79= .ls 5 erows false∧gt s.1 80= .sc (.int .i64 edges.length)∧gt s.1 81= .sc (.int .i64 i)∧∃tl,s.2= .row [.ls 3 nrows false,.ls 5 erows false,.sc (.int .i64 nn),.sc (.int .i64 en)]::tl)
    (fun o s=>s.1.length=135∧((o= .exit 2∧ee=0)∨(o= .ret∧gt s.1 2= .sc (.int .i64 ee)))) edges.length (by simp;omega) (by simp[hee,hqe,hlen,h1]) ?_ ?_
   ·rintro i fr h hle ⟨ho,hlen,h1,h79,h80,h81,tl,hh⟩;simp only at hlen h1 h79 h80 h81 hh;subst hh;have hile:i≤1000000000000000:=Ym hle hel;by_cases hi:i<edges.length
    ·rw[scanE_step fe hi]at ho;obtain⟨c,hx⟩:∃c,edges[i]?=some c:=⟨_,Zb hi⟩;have hcx:=fun b h=>f2 b c h (Zi hx)
     have hr:erows[i]?=some [.sc (.int .i64 c.id),.sc (.int .i64 c.src),.sc (.int .i64 c.dst),.sc (.string c.type),.ls 6 (prR c.props) false]:=by rw[hge,hx];rfl
     have hr':∀k,erows[i]'k=[.sc (.int .i64 c.id),.sc (.int .i64 c.src),.sc (.int .i64 c.dst),.sc (.string c.type),.ls 6 (prR c.props) false]:=fun k=>by obtain⟨_,e⟩:=Za.1 hr;exact e
     have hv:=hfe i c hx;have fa:=fun b h=>f4' b c.src h
     have fb:=fun b h=>f4' b c.dst h
     have fc:=fun b h=>f3 b c.type h
     generalize(nodeAt nodes c.src).isSome=ba at fa hv;generalize(nodeAt nodes c.dst).isSome=bb at fb hv;generalize nameS c.type=nt at fc hv;generalize partsE [] c.props=pe at hcx hv;clear f2 f3 f4' hfe;obtain rfl|⟨j,hji⟩:i=0∨∃j,i=j+1:=by cases i with|zero=>exact .inl rfl|succ j=>exact .inr ⟨j,rfl⟩
     ·rw[if_neg (by rintro⟨a,_⟩;omega)]at hv;have hi':0< (edges.length:Int):=by omega
      by_cases q1:c.id<1
      ·have hv':ee=1:=by rw[ho,hv];simp[q1]
       simp[hlen,h1,h79,h80,h81,hqe,hi,hi',hr,hr',q1,hv']
      by_cases q2:en≤c.id
      ·have hv':ee=1:=by rw[ho,hv];simp[q1,q2]
       simp[hlen,h1,h79,h80,h81,hqe,hi,hi',hr,hr',q1,q2,hv']
      rw[if_neg (by omega)]at hv;cases ba
      ·have hv':ee=10:=by rw[ho,hv];simp
       simp[hlen,h1,h79,h80,h81,hqe,hi,hi',hr,hr',q1,q2,hv',fa]
      cases bb
      ·have hv':ee=10:=by rw[ho,hv];simp
       simp[hlen,h1,h79,h80,h81,hqe,hi,hi',hr,hr',q1,q2,hv',fa,fb]
      rw[if_neg (by simp)]at hv;cases nt
      ·have hv':ee=6:=by rw[ho,hv];simp
       simp[hlen,h1,h79,h80,h81,hqe,hi,hi',hr,hr',q1,q2,hv',fa,fb,fc]
      rw[if_neg (by simp)]at hv;by_cases q3:pe=0
      ·rw[hv,if_pos q3]at ho;simp[hlen,h1,h79,h80,h81,hqe,hi,hi',hr,hr',q1,q2,q3,fa,fb,fc,hcx];exact⟨ho,rfl⟩
      ·rw[hv,if_neg q3]at ho;simp[hlen,h1,h79,h80,h81,hqe,hi,hi',hr,hr',q1,q2,q3,fa,fb,fc,hcx,ho]
     ·obtain⟨m,hm⟩:∃m,edges[j]?=some m:=⟨_,Zb (by omega)⟩;have hs:erows[j]?=some [.sc (.int .i64 m.id),.sc (.int .i64 m.src),.sc (.int .i64 m.dst),.sc (.string m.type),.ls 6 (prR m.props) false]:=by rw[hge,hm];rfl
      have hs':∀k,erows[j]'k=[.sc (.int .i64 m.id),.sc (.int .i64 m.src),.sc (.int .i64 m.dst),.sc (.string m.type),.ls 6 (prR m.props) false]:=fun k=>by obtain⟨_,e⟩:=Za.1 hs;exact e
      have hp:0<i:=by omega
      have hj:j<edges.length:=by omega
      by_cases q0:c.id≤m.id
      ·rw[if_pos ⟨by omega,m,by rw[show i-1=j by omega];exact hm,q0⟩]at hv;have hv':ee=26:=by rw[ho,hv];simp
       have hf':=fit_pred hji hile;simp[hlen,h1,h79,h80,h81,hqe,hi,hj,hr,hr',hs,hs',hf',hp,q0,hv']
      rw[if_neg (by rintro⟨_,m',e,k⟩;rw[show i-1=j by omega,hm]at e;cases e;exact q0 k)]at hv;by_cases q1:c.id<1
      ·have hv':ee=1:=by rw[ho,hv];simp[q1]
       have hf':=fit_pred hji hile;simp[hlen,h1,h79,h80,h81,hqe,hi,hj,hr,hr',hs,hs',hf',hp,q0,q1,hv']
      by_cases q2:en≤c.id
      ·have hv':ee=1:=by rw[ho,hv];simp[q1,q2]
       have hf':=fit_pred hji hile;simp[hlen,h1,h79,h80,h81,hqe,hi,hj,hr,hr',hs,hs',hf',hp,q0,q1,q2,hv']
      rw[if_neg (by omega)]at hv;have hf':=fit_pred hji hile;have hf:=fit_succ hile;cases ba
      ·have hv':ee=10:=by rw[ho,hv];simp
       simp[hlen,h1,h79,h80,h81,hqe,hi,hj,hr,hr',hs,hs',hf',hp,q0,q1,q2,hv',fa]
      cases bb
      ·have hv':ee=10:=by rw[ho,hv];simp
       simp[hlen,h1,h79,h80,h81,hqe,hi,hj,hr,hr',hs,hs',hf',hp,q0,q1,q2,hv',fa,fb]
      rw[if_neg (by simp)]at hv;cases nt
      ·have hv':ee=6:=by rw[ho,hv];simp
       simp[hlen,h1,h79,h80,h81,hqe,hi,hj,hr,hr',hs,hs',hf',hp,q0,q1,q2,hv',fa,fb,fc]
      rw[if_neg (by simp)]at hv;by_cases q3:pe=0
      ·rw[hv,if_pos q3]at ho;simp[hlen,h1,h79,h80,h81,hqe,hi,hj,hr,hr',hs,hs',hf',hf,hp,q0,q1,q2,q3,fa,fb,fc,hcx];exact ho
      ·rw[hv,if_neg q3]at ho;simp[hlen,h1,h79,h80,h81,hqe,hi,hj,hr,hr',hs,hs',hf',hp,q0,q1,q2,q3,fa,fb,fc,hcx,ho]
    ·rw[show edges.length-i=0 by omega]at ho;have ho':ee=0:=ho;simp[hlen,h1,h79,h80,h81,hi,hqe,ho']
   ·rintro o fr h hn ⟨hlen,⟨rfl,hz⟩|⟨rfl,h2⟩⟩
    ·simp only at hlen;simp[hlen,hz]
    ·simp only at h2;simp[h2]
  ·simp only at h2;simp[h2,hz]
end
end Go.Proofs.YtadaeokidcgdlaaGreatDoor
