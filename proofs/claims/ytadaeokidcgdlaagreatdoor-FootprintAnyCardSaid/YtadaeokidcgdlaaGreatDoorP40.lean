/- The program's look-ups in a graph: a node, an edge. -/
import Derived.Test.YtadaeokidcgdlaaGreatDoorP39
import Derived.Test.YtadaeokidcgdlaaGreatDoorP32
set_option linter.unusedSimpArgs false
set_option maxRecDepth 100000
set_option linter.unusedVariables false
namespace Go.Proofs.YtadaeokidcgdlaaGreatDoor
open Go Go.Ae
section
attribute [local simp] aop aopW coldF extF putA ofConst flat scalarOp fastOp binFast intOp strOp guardX Ae.part rowOf szOk natOf lenA cls fillA newsOf isNilC cellX
set_option maxHeartbeats 16000000
@[simp] theorem encN_q0 (m:Nd):(encN m)[0]?=some (.sc (.int .i64 m.id)):=rfl
@[simp] theorem encE_q0 (m:Ed):(encE m)[0]?=some (.sc (.int .i64 m.id)):=rfl
@[simp] theorem encN_g0 (m:Nd)(h:0< (encN m).length):(encN m)[0]'h= .sc (.int .i64 m.id):=rfl
@[simp] theorem encE_g0 (m:Ed)(h:0< (encE m).length):(encE m)[0]'h= .sc (.int .i64 m.id):=rfl
@[simp] theorem encN_tk (m:Nd):(encN m).take 3=encN m:=rfl
@[simp] theorem encE_tk (m:Ed):(encE m).take 5=encE m:=rfl
def clnN (o:Option Nd):Nd:=match o with
 |none=>⟨0,[],[]⟩
 |some m=>⟨m.id,m.labels,m.props.map clnP⟩
def clnE (o:Option Ed):Ed:=match o with
 |none=>⟨0,0,0,⟨#[]⟩,[]⟩
 |some m=>{m with props:=m.props.map clnP}
theorem bytes_beq (s:ByteArray):(s==s)=true:=by
 obtain⟨d⟩:=s;show(d==d)=true;simp
theorem eqA_props {l:List Prp}(hp:∀c∈l,c.v.l=[]):eqvR (prR l) (prR l)=true:=by
 refine eqvR_refl fun r hr=>?_
 obtain⟨c,hc,rfl⟩:=Yi.1 hr;rw[encR_eq,hp c hc];have e:eqvB (evL c.v.isNil []) (evL c.v.isNil [])=true:=by cases c.v.isNil<;>rfl
 simp only[eqvC,eqvB,Ae.eqV,bytes_beq,decide_true,Bool.and_self,e]
theorem g_Node (n:Nat)(b:Bool)(g:Gr)(x:Int)(h:Hp)(hl:g.nodes.length≤1000000000000000)(hp:∀m∈g.nodes,m.labels.length≤1000000∧m.props.length≤1000000∧∀c∈m.props,c.v.l=[]):
 callN cx (n+4) b 34 [.ag (encG g),.sc (.int .i64 x)] h=some (.tp [.ag (encN (clnN (nodeAt g.nodes x))),.sc (.bool (nodeAt g.nodes x).isSome)],h):=by
 refine pure_exW3 (f:=34) (n:=n+3) (args:=[.ag (encG g),.sc (.int .i64 x)]) (fun i=>i==5) (.tp [.ag (encN (clnN (nodeAt g.nodes x))),.sc (.bool (nodeAt g.nodes x).isSome)]) ⟨Tryz.f34.ntmps,(Tryz.f34.body).getD .skip,[.cell 4 3 true,.tmp 5]⟩ (by kernel_rfl) (by kernel_rfl) rfl (by kernel_rfl) (by simp[Tryz.f34]) rfl ?_ (by decide) b h;have hq:=ndR_length g.nodes;have hg:=ndR_get g.nodes;generalize hT:AV.tp [.ag (encN (clnN (nodeAt g.nodes x))),.sc (.bool (nodeAt g.nodes x).isSome)]=T;unfold encG ndV edV;generalize ndR g.nodes=rows at hq hg;simp[Tryz.f34,hq];refine loop3_up (C:=cx) (G:=fun r=>∃r0 h',finX _ (then3 _ _ _ (blockX _ r) _)=some (r0,h')∧∃r',Ae.snap h' 8 r0=some r'∧nfW r'=T)
  (fun i s=>nodeAt g.nodes x=nodeD g.nodes x i∧s.1.length=29∧gt s.1 1= .sc (.int .i64 x)∧gt s.1 4= .pt 1 0∧gt s.1 9= .ls 3 rows false∧gt s.1 10= .sc (.int .i64 g.nodes.length)∧gt s.1 11= .sc (.int .i64 i)∧At s.2 1 (.row [.sc (.int .i64 0),.sc (.slice none 0 0),.sc (.slice none 0 0)]))
  (fun o s=>s.1.length=29∧gt s.1 4= .pt 1 0∧((o= .exit 0∧nodeAt g.nodes x=none∧At s.2 1 (.row [.sc (.int .i64 0),.sc (.slice none 0 0),.sc (.slice none 0 0)]))∨
   (o= .ret∧gt s.1 5= .sc (.bool true)∧∃c L P y1 y2,nodeAt g.nodes x=some c∧At s.2 1 (.row [.sc (.int .i64 c.id),L,P])∧Ae.snap s.2 6 L=some y1∧Ae.snap s.2 6 P=some y2∧nfS 1 y1= .ls 1 (tsR c.labels) false∧nfL 6 nfP y2= .ls 6 (prR (c.props.map clnP)) false))) g.nodes.length (by simp;omega) ⟨rfl,rfl,rfl,rfl,rfl,rfl,rfl,rfl⟩ ?_ ?_
 ·rintro i fr hp2 hle ⟨ho,hlen,h1,h4,h9,h10,h11,hh⟩;simp only at hlen h1 h4 h9 h10 h11 hh;by_cases hi:i<g.nodes.length
  ·obtain⟨c,hx⟩:∃c,g.nodes[i]?=some c:=⟨_,Zb hi⟩;have hcp:=hp c (Zi hx);have hr:rows[i]?=some (encN c):=by rw[hg,hx];rfl
   have hr':∀k,rows[i]'k=encN c:=fun k=>by obtain⟨_,e⟩:=Za.1 hr;exact e
   rw[nodeD_step hx]at ho;have hf:fitI .i64 ((i:Int)+1)=((i+1:Nat):Int):=fit_i64 (by omega) (by omega);by_cases hk:c.id=x
   ·rw[if_pos hk]at ho;obtain⟨L,h2,l1,l2,l3,l4,l5⟩:=clone_lab (n+2) c.labels false (hp2++[.row (encN c)]) hcp.1;obtain⟨P,h3,p1,p2⟩:=g_cloneProps n false c.props false h2 hcp.2.1 hcp.2.2;have k1:=p2.f 1 _ (l3 1 _ (hh.app _));have kn:=l3 hp2.length (.row (encN c)) (by simp);have kn0:(hp2++[Blk.row (encN c)])[hp2.length]?=some (.row (encN c)):=by simp
    have l5':=l5;have c5:=p2.c;unfold cls at l5' c5;have qL:=fun(cal:Cal) (ops:Array Oper) (d:Tmp) (rest:List Oper) (fr:List AV) (h:Hp)=>opN_np (C:=cx) (cal:=cal) (ops:=ops) l4 d rest fr h
    have qP:=fun(cal:Cal) (ops:Array Oper) (d:Tmp) (rest:List Oper) (fr:List AV) (h:Hp)=>opN_np (C:=cx) (cal:=cal) (ops:=ops) p2.np d rest fr h
    simp[hlen,h1,h4,h9,h10,h11,hi,hq,hr,hr',hk];rw[mix_at (j:=5) (m:=0) ?_ ?_ ?_ ?_]
    rotate_left
    ·kernel_rfl
    ·simp
    ·rfl
    ·simp
    simp[hlen,h1,h4,h9,h10,h11,kn,kn0,l1,p1,qL,qP,l5',c5,k1,splice,eqvB,eqvC,eqA_props hcp.2.2];have l1h:1<hp2.length:=(Za.1 hh).1;have l2h:hp2.length<h2.length:=(Za.1 kn).1;obtain⟨y1,s1,n1⟩:=l2 (h3.set 1 (.row [.sc (.int .i64 x),L,P])) (fun i b hi hb=>by
     have:hp2.length+1≤i:=by simpa using hi
     rw[Zq (by omega)];exact p2.f i b hb)
    obtain⟨y2,s2,n2⟩:=p2.y (h3.set 1 (.row [.sc (.int .i64 x),L,P])) (fun i b hi hb=>by
     rw[Zq (by omega)];exact hb)
    exact⟨c,ho,L,P,by rw[hk];exact Zj (Za.1 k1).1,y1,s1 5,y2,s2 5,n1,n2⟩
   ·rw[if_neg hk]at ho;simp[hlen,h1,h4,h9,h10,h11,hi,hq,hr,hr',hk,hf];exact⟨ho,hh.app _⟩
  ·have zz:nodeAt g.nodes x=none:=by rw[ho,nodeD_end _ _ i (by omega)]
   simp[hlen,h1,h4,h9,h10,h11,hi,hq,zz];exact hh
 ·rintro o fr hp2 hn ⟨hlen,h4,⟨rfl,hz,hh⟩|⟨rfl,h5,c,L,P,y1,y2,hz,hh,s1,s2,s3,s4⟩⟩
  ·simp only at hlen h4 hh;have hh0:hp2[1]?=some (.row [.sc (.int .i64 0),.sc (.slice none 0 0),.sc (.slice none 0 0)]):=hh;have hs1:∀w,(hp2.set 1 w)[1]?=some w:=fun w=>Zj (Za.1 hh0).1
   simp[hlen,h4,hh0,hs1,splice];exact⟨_,_,⟨rfl,rfl⟩,_,rfl,by rw[←hT,hz];rfl⟩
  ·simp only at hlen h4 h5 hh s1 s2;have hh0:hp2[1]?=some (.row [.sc (.int .i64 c.id),L,P]):=hh;simp[hlen,h4,h5,hh0];refine⟨_,_,⟨rfl,rfl⟩,.tp [.ag [.sc (.int .i64 c.id),y1,y2],.sc (.bool true)],?_,?_⟩
   ·have e:Ae.snap hp2 7 (.ag [.sc (.int .i64 c.id),L,P])=some (.ag [.sc (.int .i64 c.id),y1,y2]):=by
     show([.sc (.int .i64 c.id),L,P].mapM (Ae.snap hp2 6)).map AV.ag=_;rw[Zo,Zo,Zo,List.mapM_nil,s1,s2];simp[Ae.snap]
    show([.ag [.sc (.int .i64 c.id),L,P],.sc (.bool true)].mapM (Ae.snap hp2 7)).map AV.tp=_;rw[Zo,Zo,List.mapM_nil,e];simp[Ae.snap]
   ·rw[←hT,hz];simp only[nfW,s3,s4,clnN,encN,Option.isSome_some];rfl
theorem g_Edge (n:Nat)(b:Bool)(g:Gr)(x:Int)(h:Hp)(hl:g.edges.length≤1000000000000000)(hp:∀m∈g.edges,m.props.length≤1000000∧∀c∈m.props,c.v.l=[]):
 callN cx (n+4) b 36 [.ag (encG g),.sc (.int .i64 x)] h=some (.tp [.ag (encE (clnE (edgeAt g.edges x))),.sc (.bool (edgeAt g.edges x).isSome)],h):=by
 refine pure_exW (f:=36) (n:=n+3) (args:=[.ag (encG g),.sc (.int .i64 x)]) (.tp [.ag (encE (clnE (edgeAt g.edges x))),.sc (.bool (edgeAt g.edges x).isSome)]) ⟨Tryz.f36.ntmps,(Tryz.f36.body).getD .skip,[.cell 4 5 true,.tmp 5]⟩ (by kernel_rfl) (by kernel_rfl) rfl (by kernel_rfl) (by simp[Tryz.f36]) rfl ?_ (by decide) b h;have hq:=edR_length g.edges;have hg:=edR_get g.edges;generalize hT:AV.tp [.ag (encE (clnE (edgeAt g.edges x))),.sc (.bool (edgeAt g.edges x).isSome)]=T;unfold encG ndV edV;generalize edR g.edges=rows at hq hg;simp[Tryz.f36,hq];refine loop_up (C:=cx) (G:=fun r=>∃r0 h',finX _ (thenX _ _ (blockX _ r) _)=some (r0,h')∧∃r',Ae.snap h' 8 r0=some r'∧nfW r'=T)
  (fun i s=>edgeAt g.edges x=edgeD g.edges x i∧s.1.length=26∧gt s.1 1= .sc (.int .i64 x)∧gt s.1 4= .pt 1 0∧gt s.1 9= .ls 5 rows false∧gt s.1 10= .sc (.int .i64 g.edges.length)∧gt s.1 11= .sc (.int .i64 i)∧At s.2 1 (.row [.sc (.int .i64 0),.sc (.int .i64 0),.sc (.int .i64 0),.sc (.string ⟨#[]⟩),.sc (.slice none 0 0)]))
  (fun o s=>s.1.length=26∧gt s.1 4= .pt 1 0∧((o= .exit 0∧edgeAt g.edges x=none∧At s.2 1 (.row [.sc (.int .i64 0),.sc (.int .i64 0),.sc (.int .i64 0),.sc (.string ⟨#[]⟩),.sc (.slice none 0 0)]))∨
   (o= .ret∧gt s.1 5= .sc (.bool true)∧∃c P y2,edgeAt g.edges x=some c∧At s.2 1 (.row [.sc (.int .i64 c.id),.sc (.int .i64 c.src),.sc (.int .i64 c.dst),.sc (.string c.type),P])∧Ae.snap s.2 6 P=some y2∧nfL 6 nfP y2= .ls 6 (prR (c.props.map clnP)) false))) g.edges.length (by simp;omega) ⟨rfl,rfl,rfl,rfl,rfl,rfl,rfl,rfl⟩ ?_ ?_
 ·rintro i fr hp2 hle ⟨ho,hlen,h1,h4,h9,h10,h11,hh⟩;simp only at hlen h1 h4 h9 h10 h11 hh;by_cases hi:i<g.edges.length
  ·obtain⟨c,hx⟩:∃c,g.edges[i]?=some c:=⟨_,Zb hi⟩;have hcp:=hp c (Zi hx);have hr:rows[i]?=some [.sc (.int .i64 c.id),.sc (.int .i64 c.src),.sc (.int .i64 c.dst),.sc (.string c.type),.ls 6 (prR c.props) false]:=by rw[hg,hx];rfl
   have hr':∀k,rows[i]'k=[.sc (.int .i64 c.id),.sc (.int .i64 c.src),.sc (.int .i64 c.dst),.sc (.string c.type),.ls 6 (prR c.props) false]:=fun k=>by obtain⟨_,e⟩:=Za.1 hr;exact e
   rw[edgeD_step hx]at ho;have hf:fitI .i64 ((i:Int)+1)=((i+1:Nat):Int):=fit_i64 (by omega) (by omega);by_cases hk:c.id=x
   ·rw[if_pos hk]at ho;obtain⟨P,h3,p1,p2⟩:=g_cloneProps n true c.props false (hp2++[.row [.sc (.int .i64 x),.sc (.int .i64 c.src),.sc (.int .i64 c.dst),.sc (.string c.type),.ls 6 (prR c.props) false]]) hcp.1 hcp.2;have k1:=p2.f 1 _ (hh.app _);have kn:=p2.f hp2.length (.row [.sc (.int .i64 x),.sc (.int .i64 c.src),.sc (.int .i64 c.dst),.sc (.string c.type),.ls 6 (prR c.props) false]) (by simp);have l1h:1<hp2.length:=(Za.1 hh).1;have ln:=(Za.1 kn).1;have hsn:∀w,(h3.set hp2.length w)[hp2.length]?=some w:=fun w=>Zj ln
    have k1n:∀w,(h3.set hp2.length w)[1]?=some (.row [.sc (.int .i64 0),.sc (.int .i64 0),.sc (.int .i64 0),.sc (.string ⟨#[]⟩),.sc (.slice none 0 0)]):=fun w=>by rw[Zq (by omega)];exact k1
    have c5:=p2.c;unfold cls at c5;have qP:=fun(cal:Cal) (ops:Array Oper) (d:Tmp) (rest:List Oper) (fr:List AV) (h:Hp)=>opP_np (C:=cx) (cal:=cal) (ops:=ops) p2.np d rest fr h
    simp[hlen,h1,h4,h9,h10,h11,hi,hq,hr,hr',hk,splice,p1,qP,c5,kn,hsn,k1n];obtain⟨y2,s2,n2⟩:=p2.y ((h3.set hp2.length (.row [.sc (.int .i64 x),.sc (.int .i64 c.src),.sc (.int .i64 c.dst),.sc (.string c.type),P])).set 1 (.row [.sc (.int .i64 x),.sc (.int .i64 c.src),.sc (.int .i64 c.dst),.sc (.string c.type),P])) (fun i b hi hb=>by
     have:hp2.length+1≤i:=by simpa using hi
     rw[Zq (by omega),Zq (by omega)];exact hb)
    exact⟨c,ho,P,by rw[hk];exact Zj (by rw[List.length_set];omega),y2,s2 5,n2⟩
   ·rw[if_neg hk]at ho;simp[hlen,h1,h4,h9,h10,h11,hi,hq,hr,hr',hk,hf,splice];exact⟨ho,hh.app _⟩
  ·have zz:edgeAt g.edges x=none:=by rw[ho,edgeD_end _ _ i (by omega)]
   simp[hlen,h1,h4,h9,h10,h11,hi,hq,zz];exact hh
 ·rintro o fr hp2 hn ⟨hlen,h4,⟨rfl,hz,hh⟩|⟨rfl,h5,c,P,y2,hz,hh,s2,s4⟩⟩
  ·simp only at hlen h4 hh;have hh0:hp2[1]?=some (.row [.sc (.int .i64 0),.sc (.int .i64 0),.sc (.int .i64 0),.sc (.string ⟨#[]⟩),.sc (.slice none 0 0)]):=hh;have hs1:∀w,(hp2.set 1 w)[1]?=some w:=fun w=>Zj (Za.1 hh0).1
   simp[hlen,h4,hh0,hs1,splice];exact⟨_,_,⟨rfl,rfl⟩,_,rfl,by rw[←hT,hz];rfl⟩
  ·simp only at hlen h4 h5 hh s2;have hh0:hp2[1]?=some (.row [.sc (.int .i64 c.id),.sc (.int .i64 c.src),.sc (.int .i64 c.dst),.sc (.string c.type),P]):=hh;simp[hlen,h4,h5,hh0];refine⟨_,_,⟨rfl,rfl⟩,.tp [.ag [.sc (.int .i64 c.id),.sc (.int .i64 c.src),.sc (.int .i64 c.dst),.sc (.string c.type),y2],.sc (.bool true)],?_,?_⟩
   ·have e:Ae.snap hp2 7 (.ag [.sc (.int .i64 c.id),.sc (.int .i64 c.src),.sc (.int .i64 c.dst),.sc (.string c.type),P])=some (.ag [.sc (.int .i64 c.id),.sc (.int .i64 c.src),.sc (.int .i64 c.dst),.sc (.string c.type),y2]):=by
     show([.sc (.int .i64 c.id),.sc (.int .i64 c.src),.sc (.int .i64 c.dst),.sc (.string c.type),P].mapM (Ae.snap hp2 6)).map AV.ag=_;rw[Zo,Zo,Zo,Zo,Zo,List.mapM_nil,s2];simp[Ae.snap]
    show([.ag [.sc (.int .i64 c.id),.sc (.int .i64 c.src),.sc (.int .i64 c.dst),.sc (.string c.type),P],.sc (.bool true)].mapM (Ae.snap hp2 7)).map AV.tp=_;rw[Zo,Zo,List.mapM_nil,e];simp[Ae.snap]
   ·rw[←hT,hz];simp only[nfW,s4,clnE,encE,Option.isSome_some];rfl
attribute [local simp] encR_take
theorem val_Equal (N D:Nat)(b:Bool)(v w:V)(h:Hp)(dv:dep v≤D)(dw:dep w≤D)(bv:bdV v)(bw:bdV w):callN cx (N+2*D+7) b 142 [.ag (enc v),.ag (enc w)] h=some (.sc (.int .i64 (eqV v w)),h):=by
 refine pure_calm (n:=N+2*D+6) (r:= .sc (.int .i64 (eqV v w))) ⟨Tryz.f142.ntmps,(Tryz.f142.body).getD .skip,[.tmp 4]⟩ (by kernel_rfl) (by kernel_rfl) rfl (by kernel_rfl) (by simp[Tryz.f142]) (calm_vv v w) rfl ?_ b h;have f1:=fun b h=>val_Valid (N+2) D v dv bv b h
 have f2:=fun b h=>val_Valid (N+2) D w dw bw b h
 rw[show N+2+2*D+4=N+2*D+6 by omega]at f1 f2;have f3:okT v=true→okT w=true→∀b h,callN cx (N+2*D+6) b 211 [.ag (enc v),.ag (enc w)] h=some (.sc (.int .i64 (eqV v w)),h):=fun a c b h=>VE_all D v w dv dw bv bw a c N b h
 have e0:v.k=0∨w.k=0∨okT v=false∨okT w=false→eqV v w=1:=fun q=>by
  cases v;rw[eqV];exact if_pos q
 generalize eqV v w=E at f3 e0⊢;unfold evV at f1 f2;generalize okT v=p at *;generalize okT w=q at *;obtain⟨k,m,d,s,z,l⟩:=v;obtain⟨k',m',d',s',z',l'⟩:=w;simp only[V.k]at e0;simp only[enc]at f1 f2 f3⊢;generalize lsV z (encL l)=L at *;generalize lsV z' (encL l')=L' at *;by_cases k0:k=0
 ·rw[e0 (.inl k0)];simp[Tryz.f142,k0]
 ·by_cases k0':k'=0
  ·rw[e0 (.inr (.inl k0'))];simp[Tryz.f142,k0,k0']
  ·cases p
   ·rw[e0 (.inr (.inr (.inl rfl)))];simp[Tryz.f142,k0,k0',f1]
   ·cases q
    ·rw[e0 (.inr (.inr (.inr rfl)))];simp[Tryz.f142,k0,k0',f1,f2]
    ·have f3:=f3 rfl rfl;simp[Tryz.f142,k0,k0',f1,f2,f3]
theorem fp_equal (N D:Nat)(b:Bool)(v w:V)(h:Hp)(dv:dep v≤D)(dw:dep w≤D)(bv:bdV v)(bw:bdV w):callN cx (N+2*D+8) b 79 [.ag (enc v),.ag (enc w)] h=some (.sc (.bool (decide (eqV v w=2))),h):=by
 refine pure_calm (n:=N+2*D+7) (r:= .sc (.bool (decide (eqV v w=2)))) ⟨Tryz.f79.ntmps,(Tryz.f79.body).getD .skip,[.tmp 4]⟩ (by kernel_rfl) (by kernel_rfl) rfl (by kernel_rfl) (by simp[Tryz.f79]) (calm_vv v w) rfl ?_ b h;have f1:=fun b h=>val_Equal N D b v w h dv dw bv bw
 generalize eqV v w=E at f1⊢;obtain⟨k,m,d,s,z,l⟩:=v;obtain⟨k',m',d',s',z',l'⟩:=w;simp only[enc]at f1⊢;generalize lsV z (encL l)=L at *;generalize lsV z' (encL l')=L' at *;simp[Tryz.f79,f1]
def idxP {α:Type}(p:α→Bool):List α→Nat→Int
 | [],_=> -1
 |x::l,i=>if p x=true then i else idxP p l (i+1)
def idxPD {α:Type}(p:α→Bool)(l:List α)(i:Nat):Int:=idxP p (l.drop i) i
theorem idxPD_end {α:Type}(p:α→Bool)(l:List α)(i:Nat)(h:l.length≤i):idxPD p l i= -1:=by unfold idxPD;rw[Zt h,idxP]
theorem idxPD_step {α:Type}{p:α→Bool}{l:List α}{i:Nat}{c:α}(h:l[i]?=some c):idxPD p l i=if p c=true then(i:Int)else idxPD p l (i+1):=by
 obtain⟨k,e⟩:=Za.1 h;unfold idxPD;rw[Zm k,e,idxP]
theorem idxP_any {α:Type}(p:α→Bool):∀(l:List α) (i:Nat),(0≤idxP p l i)=(l.any p=true)
 | [],i=>by simp[idxP]
 |
  x::l,i=>by
  rw[idxP,List.any_cons];cases h:p x
  ·simp[idxP_any p l (i+1)]
  ·simp
theorem t_has1 (n:Nat)(b:Bool)(c:Prp)(x:ByteArray)(h:Hp):callN cx (n+1) b 83 [.ag (encR c),.rp [.sc (.string x)] 0] h=some (.sc (.bool (eqS c.key x)),h++[.row (encR c)]):=by
 rw[call_inl (n:=n) ⟨Tryz.f83.ntmps,(Tryz.f83.body).getD .skip,[.tmp 3]⟩ rfl (by kernel_rfl) (by kernel_rfl) (by kernel_rfl) (by kernel_rfl) (by simp[Tryz.f83])];cases hk:eqS c.key x<;>simp[Tryz.f83,encR_eq,hk]
theorem sl_Index_has (n:Nat)(b:Bool)(l:List Prp)(z:Bool)(x:ByteArray)(h:Hp)(hl:l.length≤1000000000000000):callN cx (n+2) b 145 [prV l z,.fn 83 [.rp [.sc (.string x)] 0]] h=some (.sc (.int .i64 (idxPD (eqR x) l 0)),h):=by
 refine pure_calm (n:=n+1) (r:= .sc (.int .i64 (idxPD (eqR x) l 0))) ⟨Tryz.f145.ntmps,(Tryz.f145.body).getD .skip,[.tmp 4]⟩ (by kernel_rfl) (by kernel_rfl) rfl (by kernel_rfl) (by simp[Tryz.f145]) rfl rfl ?_ b h;have hq:=prR_length l;have hg:=prR_get l;have hcl:=fun b c h=>t_has1 n b c x h
 unfold prV;generalize prR l=rows at hq hg;simp[Tryz.f145,hq];refine loop_up (C:=cx) (G:=fun r=>∃h',finX _ (thenX _ _ (blockX _ r) _)=some (_,h'))
  (fun i s=>idxPD (eqR x) l 0=idxPD (eqR x) l i∧s.1.length=19∧gt s.1 0= .ls 6 rows z∧gt s.1 1= .fn 83 [.rp [.sc (.string x)] 0]∧gt s.1 7= .sc (.int .i64 l.length)∧gt s.1 8= .sc (.int .i64 i))
  (fun o s=>s.1.length=19∧((o= .exit 0∧idxPD (eqR x) l 0= -1)∨(o= .ret∧gt s.1 4= .sc (.int .i64 (idxPD (eqR x) l 0))))) l.length (by simp;omega) (by simp) ?_ ?_
 ·rintro i fr h hle ⟨ho,hlen,h0,h1,h7,h8⟩;simp only at hlen h0 h1 h7 h8;by_cases hi:i<l.length
  ·obtain⟨c,hx⟩:∃c,l[i]?=some c:=⟨_,Zb hi⟩;have hr:rows[i]?=some (encR c):=by rw[hg,hx];rfl
   have hr':∀k,rows[i]'k=encR c:=fun k=>by obtain⟨_,e⟩:=Za.1 hr;exact e
   rw[idxPD_step hx]at ho;have hcx:=fun b h=>hcl b c h
   have hf:fitI .i64 ((i:Int)+1)=((i+1:Nat):Int):=fit_i64 (by omega) (by omega);cases hk:eqS c.key x
   ·rw[if_neg (by unfold eqR;simp[hk])]at ho;simp[hlen,h0,h1,h7,h8,hi,hq,hr,hr',hcx,hk,hf];exact ho
   ·rw[if_pos (by unfold eqR;simp[hk])]at ho;simp[hlen,h0,h1,h7,h8,hi,hq,hr,hr',hcx,hk,ho]
  ·have zz:idxPD (eqR x) l 0= -1:=by rw[ho,idxPD_end _ l i (by omega)]
   simp[hlen,h0,h1,h7,h8,hi,hq,zz]
 ·rintro o fr h hn ⟨hlen,⟨rfl,hz⟩|⟨rfl,h2⟩⟩
  ·simp only at hlen;simp[hlen,hz]
  ·simp only at h2;simp[h2]
theorem sl_Contains_has (n:Nat)(b:Bool)(l:List Prp)(z:Bool)(x:ByteArray)(h:Hp)(hl:l.length≤1000000000000000):callN cx (n+3) b 82 [prV l z,.fn 83 [.rp [.sc (.string x)] 0]] h=some (.sc (.bool (l.any (eqR x))),h):=by
 refine pure_calm (n:=n+2) (r:= .sc (.bool (l.any (eqR x)))) ⟨Tryz.f82.ntmps,(Tryz.f82.body).getD .skip,[.tmp 4]⟩ (by kernel_rfl) (by kernel_rfl) rfl (by kernel_rfl) (by simp[Tryz.f82]) rfl rfl ?_ b h;have hc:=fun b h=>sl_Index_has n b l z x h hl
 have hw:=idxP_any (eqR x) l 0;change(0≤idxPD (eqR x) l 0)=_ at hw;unfold prV at hc⊢;generalize idxPD (eqR x) l 0=w at hc hw;cases hk:l.any (eqR x)
 ·have:¬0≤w:=fun q=>by rw[hw.mp q]at hk;cases hk
  simp[Tryz.f82,hc,this]
 ·have:0≤w:=hw.mpr hk;simp[Tryz.f82,hc,this]
theorem fp_has (n:Nat)(b:Bool)(l:List Prp)(z:Bool)(x:ByteArray)(h:Hp)(hl:l.length≤1000000000000000):callN cx (n+4) b 38 [prV l z,.sc (.string x)] h=some (.sc (.bool (l.any (eqR x))),h):=by
 refine pure_calm (n:=n+3) (r:= .sc (.bool (l.any (eqR x)))) ⟨Tryz.f38.ntmps,(Tryz.f38.body).getD .skip,[.tmp 4]⟩ (by kernel_rfl) (by kernel_rfl) rfl (by kernel_rfl) (by simp[Tryz.f38]) rfl rfl ?_ b h;have hc:∀b,callN cx (n+3) b 82 [prV l z,.fn 83 [.pt 0 0]] [.row [.sc (.string x)]]=some (.sc (.bool (l.any (eqR x))),[.row [.sc (.string x)]]):=fun b=>
  call_snap (n:=n+2) (ys:=[prV l z,.fn 83 [.rp [.sc (.string x)] 0]]) (by kernel_rfl) (by kernel_rfl) rfl rfl rfl (sl_Contains_has n b l z x _ hl)
 unfold prV at hc⊢;generalize l.any (eqR x)=r at hc⊢;simp[Tryz.f38,hc]
theorem t_tn1 (n:Nat)(b:Bool)(p:Pr)(x:ByteArray)(h:Hp):callN cx (n+2) b 78 [.sc (.string x),.rp (encP p) 0] h=some (.sc (.bool (sameS p.n x)),h):=by
 rw[call_inl (n:=n+1) ⟨Tryz.f78.ntmps,(Tryz.f78.body).getD .skip,[.tmp 3]⟩ rfl (by kernel_rfl) (by kernel_rfl) (by kernel_rfl) (by kernel_rfl) (by simp[Tryz.f78])];have f1:=fun b h=>fp_same n b p.n x h
 generalize sameS p.n x=r at f1⊢;simp[Tryz.f78,encP,f1]
theorem sl_Index_tn (n:Nat)(b:Bool)(l:List ByteArray)(z:Bool)(p:Pr)(h:Hp)(hl:l.length≤1000000000000000):callN cx (n+3) b 141 [tsV l z,.fn 78 [.rp (encP p) 0]] h=some (.sc (.int .i64 (idxPD (sameS p.n) l 0)),h):=by
 refine pure_calm (n:=n+2) (r:= .sc (.int .i64 (idxPD (sameS p.n) l 0))) ⟨Tryz.f141.ntmps,(Tryz.f141.body).getD .skip,[.tmp 4]⟩ (by kernel_rfl) (by kernel_rfl) rfl (by kernel_rfl) (by simp[Tryz.f141]) rfl rfl ?_ b h;have hq:=tsR_length l;have hg:=tsR_get l;have hcl:=fun b c h=>t_tn1 n b p c h
 unfold tsV;generalize tsR l=rows at hq hg;simp[Tryz.f141,hq];refine loop_up (C:=cx) (G:=fun r=>∃h',finX _ (thenX _ _ (blockX _ r) _)=some (_,h'))
  (fun i s=>idxPD (sameS p.n) l 0=idxPD (sameS p.n) l i∧s.1.length=19∧gt s.1 0= .ls 1 rows z∧gt s.1 1= .fn 78 [.rp (encP p) 0]∧gt s.1 7= .sc (.int .i64 l.length)∧gt s.1 8= .sc (.int .i64 i))
  (fun o s=>s.1.length=19∧((o= .exit 0∧idxPD (sameS p.n) l 0= -1)∨(o= .ret∧gt s.1 4= .sc (.int .i64 (idxPD (sameS p.n) l 0))))) l.length (by simp;omega) (by simp) ?_ ?_
 ·rintro i fr h hle ⟨ho,hlen,h0,h1,h7,h8⟩;simp only at hlen h0 h1 h7 h8;by_cases hi:i<l.length
  ·obtain⟨c,hx⟩:∃c,l[i]?=some c:=⟨_,Zb hi⟩;have hr:rows[i]?=some [.sc (.string c)]:=by rw[hg,hx];rfl
   have hr':∀k,rows[i]'k=[.sc (.string c)]:=fun k=>by obtain⟨_,e⟩:=Za.1 hr;exact e
   rw[idxPD_step hx]at ho;have hcx:=fun b h=>hcl b c h
   have hf:fitI .i64 ((i:Int)+1)=((i+1:Nat):Int):=fit_i64 (by omega) (by omega);cases hk:sameS p.n c
   ·rw[if_neg (by rw[hk];simp)]at ho;rw[hk]at hcx;simp[hlen,h0,h1,h7,h8,hi,hq,hr,hr',hcx,hf];exact ho
   ·rw[if_pos hk]at ho;rw[hk]at hcx;simp[hlen,h0,h1,h7,h8,hi,hq,hr,hr',hcx,ho]
  ·have zz:idxPD (sameS p.n) l 0= -1:=by rw[ho,idxPD_end _ l i (by omega)]
   simp[hlen,h0,h1,h7,h8,hi,hq,zz]
 ·rintro o fr h hn ⟨hlen,⟨rfl,hz⟩|⟨rfl,h2⟩⟩
  ·simp only at hlen;simp[hlen,hz]
  ·simp only at h2;simp[h2]
theorem sl_Contains_tn (n:Nat)(b:Bool)(l:List ByteArray)(z:Bool)(p:Pr)(h:Hp)(hl:l.length≤1000000000000000):callN cx (n+4) b 77 [tsV l z,.fn 78 [.rp (encP p) 0]] h=some (.sc (.bool (l.any (sameS p.n))),h):=by
 refine pure_calm (n:=n+3) (r:= .sc (.bool (l.any (sameS p.n)))) ⟨Tryz.f77.ntmps,(Tryz.f77.body).getD .skip,[.tmp 4]⟩ (by kernel_rfl) (by kernel_rfl) rfl (by kernel_rfl) (by simp[Tryz.f77]) rfl rfl ?_ b h;have hc:=fun b h=>sl_Index_tn n b l z p h hl
 have hw:=idxP_any (sameS p.n) l 0;change(0≤idxPD (sameS p.n) l 0)=_ at hw;unfold tsV at hc⊢;generalize idxPD (sameS p.n) l 0=w at hc hw;cases hk:l.any (sameS p.n)
 ·have:¬0≤w:=fun q=>by rw[hw.mp q]at hk;cases hk
  simp[Tryz.f77,hc,this]
 ·have:0≤w:=hw.mpr hk;simp[Tryz.f77,hc,this]
end
section
attribute [local simp] aop aopW coldF extF putA ofConst flat scalarOp fastOp binFast intOp strOp guardX Ae.part rowOf szOk natOf lenA cls fillA splice newsOf isNilC cellX
set_option maxHeartbeats 16000000
def touN (m:Nd)(p:Pr)(c:Ch):Bool:=
 if p.k=1 then decide (c.k=2)||decide (c.k=1)
 else if p.k=2 then((decide (c.k=3)||decide (c.k=4)) && sameS p.n c.name)||(decide (c.k=2) && m.labels.any (sameS p.n))
 else if p.k=3 then(decide (c.k=5) && eqS c.name p.n)||(decide (c.k=2) && m.props.any (eqR p.n))
 else if p.k=4 then((decide (c.k=3)||decide (c.k=4)) && eqS c.name p.n)||(((decide (c.k=5) && eqS c.name p.y) && (decide (eqV (clnV (propAt m.props p.y)) p.v=2)||decide (eqV c.v p.v=2)))||((decide (c.k=2) && decide (eqV (clnV (propAt m.props p.y)) p.v=2)) && hasS m.labels p.n))
 else false
structure TnB (D:Nat)(m:Nd)(p:Pr)(c:Ch):Prop where
 ll:m.labels.length≤1000000000000000
 pl:m.props.length≤1000000000000000
 pe:∀x∈m.props,x.v.l=[]
 ob:bdV (clnV (propAt m.props p.y))
 pd:dep p.v≤D
 pv:bdV p.v
 cd:dep c.v≤D
 cv:bdV c.v
theorem dep_cln (v:V)(D:Nat):dep (clnV v)≤D+1:=by
 unfold clnV;simp[dep,depL]
theorem fp_touN (N D:Nat)(b:Bool)(m:Nd)(p:Pr)(c:Ch)(h:Hp)(H:TnB (D+1) m p c):
 callN cx (N+2*D+11) b 35 [.ag (encN m),.ag (encP p),.ag (encC c)] h=some (.sc (.bool (touN m p c)),h):=by
 refine pure_calm (r:= .sc (.bool (touN m p c))) (n:=N+2*D+10) ⟨Tryz.f35.ntmps,(Tryz.f35.body).getD .skip,[.tmp 6]⟩ (by kernel_rfl) (by kernel_rfl) rfl (by kernel_rfl) (by simp[Tryz.f35]) (calm_npc _ _ _) rfl ?_ b h;have f1:=fun b h=>fp_same (N+2*D+9) b p.n c.name h
 have encP_w:((encP p).length)=8:=by obtain⟨_,_,_,v⟩:=p;cases v;rfl
 have hsn:∀(h:Hp) n,List.mapM (snap h n) (encP p)=some (encP p):=fun h n=>mapM_calm1 (by have q:=calm_evP p;unfold evP at q;exact q)
 have f2:∀b h,h[1]?=some (.row (encP p))→callN cx (N+2*D+10) b 77 [tsV m.labels false,.fn 78 [.pt 1 0]] h=some (.sc (.bool (m.labels.any (sameS p.n))),h):=fun b h k=>
  call_snap (n:=N+2*D+9) (ys:=[tsV m.labels false,.fn 78 [.rp (encP p) 0]]) (by kernel_rfl) (by kernel_rfl) (by unfold tsV;simp[snap,k,encP_w,hsn]) (by unfold tsV;rfl) rfl (sl_Contains_tn (N+2*D+6) b m.labels false p h H.ll)
 have f3:=fun b h=>fp_has (N+2*D+6) b m.props false p.n h H.pl
 have f4:=fun b h=>g_Prop (N+2*D+7) b m.props false p.y h H.pl H.pe
 have f5:=fun b h=>fp_equal N (D+1) b (clnV (propAt m.props p.y)) p.v h (dep_cln _ D) H.pd H.ob H.pv
 have f6:=fun b h=>fp_equal N (D+1) b c.v p.v h H.cd H.pd H.cv H.pv
 rw[show N+2*(D+1)+8=N+2*D+10 by omega]at f5 f6;have f7:=fun b h=>g_HasLabel (N+2*D+7) b m p.n h H.ll
 clear H;unfold touN;generalize sameS p.n c.name=u1 at f1⊢;generalize m.labels.any (sameS p.n)=u2 at f2⊢;generalize m.props.any (eqR p.n)=u3 at f3⊢;generalize clnV (propAt m.props p.y)=o at f4 f5⊢;generalize eqV o p.v=u5 at f5⊢;generalize eqV c.v p.v=u6 at f6⊢;generalize hasS m.labels p.n=u7 at f7⊢;obtain⟨pk,pn,py,pv⟩:=p;obtain⟨ck,ca,cb,cc,cn,cv⟩:=c;obtain⟨k1,m1,d1,s1,z1,q1⟩:=pv;obtain⟨k2,m2,d2,s2,z2,q2⟩:=cv;obtain⟨k3,m3,d3,s3,z3,q3⟩:=o;obtain⟨id,labels,props⟩:=m;clear hsn encP_w;simp only[encN,encP,encC,enc,tsV,prV,Zv,Zw]at f1 f2 f3 f4 f5 f6 f7⊢;generalize lsV z1 (encL q1)=y1 at f2 f5 f6⊢;generalize lsV z2 (encL q2)=y2 at f6⊢;generalize lsV z3 (encL q3)=y3 at f4 f5;generalize tsR labels=ls at f2 f7⊢;generalize prR props=ps at f3 f4 f7⊢;generalize N+2*D+10=M at f1 f2 f3 f4 f5 f6 f7;by_cases p1:pk=1
 ·subst p1;by_cases c1:ck=1
  ·simp[Tryz.f35,c1]
  ·by_cases c2:ck=2
   ·simp[Tryz.f35,c2]
   ·by_cases c3:ck=3
    ·simp[Tryz.f35,c3]
    ·by_cases c4:ck=4
     ·simp[Tryz.f35,c4]
     ·simp[Tryz.f35,c1,c2,c3,c4]
 ·by_cases p2:pk=2
  ·subst p2;by_cases c2:ck=2
   ·simp[Tryz.f35,c2,f2]
   ·by_cases c3:ck=3
    ·cases u1<;>simp[Tryz.f35,c3,f1]
    ·by_cases c4:ck=4
     ·cases u1<;>simp[Tryz.f35,c4,f1]
     ·simp[Tryz.f35,c2,c3,c4]
  ·by_cases p3:pk=3
   ·subst p3;by_cases c2:ck=2
    ·simp[Tryz.f35,c2,f3]
    ·by_cases c5:ck=5
     ·cases e1:eqS cn pn<;>simp[Tryz.f35,c5,e1]
     ·by_cases c3:ck=3
      ·simp[Tryz.f35,c3]
      ·by_cases c4:ck=4
       ·simp[Tryz.f35,c4]
       ·simp[Tryz.f35,c2,c3,c4,c5]
   ·by_cases p4:pk=4
    ·subst p4;by_cases c2:ck=2
     ·by_cases h5:u5=2
      ·simp[Tryz.f35,c2,f4,f5,f7,h5]
      ·simp[Tryz.f35,c2,f4,f5,f7,h5]
     ·by_cases c3:ck=3
      ·cases e1:eqS cn pn<;>simp[Tryz.f35,c3,f4,f5,e1]
      ·by_cases c4:ck=4
       ·cases e1:eqS cn pn<;>simp[Tryz.f35,c4,f4,f5,e1]
       ·by_cases c5:ck=5
        ·cases e1:eqS cn py
         ·simp[Tryz.f35,c5,f4,f5,e1]
         ·by_cases h5:u5=2
          ·simp[Tryz.f35,c5,f4,f5,f6,e1,h5]
          ·by_cases h6:u6=2<;>simp[Tryz.f35,c5,f4,f5,f6,e1,h5,h6]
        ·simp[Tryz.f35,c2,c3,c4,c5,f4,f5]
    ·by_cases c3:ck=3
     ·simp[Tryz.f35,p1,p2,p3,p4,c3]
     ·by_cases c4:ck=4
      ·simp[Tryz.f35,p1,p2,p3,p4,c4]
      ·simp[Tryz.f35,p1,p2,p3,p4,c3,c4]
end
end Go.Proofs.YtadaeokidcgdlaaGreatDoor
