/- A node, an edge put into a graph. -/
import Derived.Test.YtadaeokidcgdlaaGreatDoorP25
import Derived.Test.YtadaeokidcgdlaaGreatDoorP26
set_option linter.unusedSimpArgs false
set_option maxRecDepth 100000
namespace Go.Proofs.YtadaeokidcgdlaaGreatDoor
open Go Go.Ae
section
attribute [local simp] aop aopW coldF extF putA ofConst flat scalarOp fastOp binFast intOp strOp guardX Ae.part rowOf szOk natOf lenA cls fillA splice newsOf isNilC cellX
set_option maxHeartbeats 16000000
theorem calm_ag1 (xs:List AV):calm (.ag xs)=xs.all calm1:=rfl
def tabOk (f:FuncId):Bool:= !(f==342||(clnF f).isSome)
theorem tab_none' {f:FuncId}{args:List AV}(h:tabOk f=true):tabF f args=none:=by
 simp only[tabOk,Bool.not_eq_true',Bool.or_eq_false_iff,Option.isSome_eq_false_iff,Yc,beq_eq_false_iff_ne]at h;unfold tabF;rw[if_neg h.1,h.2]
theorem pure_exN {f:FuncId}{args:List AV}{n:Nat}(r0:AV)(fi:Fi)(hF:cx.F f=some fi)(hok:ok2 cx fi.body=true)(hs:cx.srt f=none)(hi:cx.inl f=false)(hl:args.length≤fi.ntmps)(hc:args.all calm=true)
 (hb:∃r h',finX fi.res (exec2 cx (callN cx n) fi.body (args++List.replicate (fi.ntmps-args.length) .un,[]))=some (r,h')∧∃r',snap h' 8 r=some r'∧nfR r'=r0) (ht:(tabOk f && isNf f)=true:=by decide) (b:Bool) (h:Hp):callN cx (n+1) b f args h=some (r0,h):=by
 obtain⟨r,h',hb,r',hr,hR⟩:=hb;rw[Zh]at ht;have:=call_pureN (C:=cx) hs hi (tab_none' ht.1) hc (by rw[body1_of hF hok hl];exact hb) hr b h;rw[this];show some (nfF f r',h)=_;unfold nfF;rw[ht.2];simp[hR]
def kR (l:List (List AV))(ids:List Int):List (List AV × Int):=l.zip ids
def ltK (x:Int)(p:List AV × Int):Bool:=decide (p.2<x)
def eqK (x:Int)(p:List AV × Int):Bool:=decide (p.2=x)
theorem spl_map {α β:Type}{lt eq:α→Bool}{lt' eq':β→Bool}{l pre mid post:List α}(h:Spl lt eq l pre mid post)(f:α→β)(h1:∀a,lt' (f a)=lt a)(h2:∀a,eq' (f a)=eq a):Spl lt' eq' (l.map f) (pre.map f) (mid.map f) (post.map f):={
 e:=by rw[h.e];simp
 p:=fun x hx=>by obtain⟨a,ha,rfl⟩:=Yi.1 hx;rw[h1,h2];exact h.p a ha
 m:=fun x hx=>by obtain⟨a,ha,rfl⟩:=Yi.1 hx;rw[h1,h2];exact h.m a ha
 one:=by simpa using h.one
 q:=fun x hx=>by obtain⟨a,ha,rfl⟩:=Yi.1 hx;rw[h1,h2];exact h.q a ha}
theorem nfN_encN (n:Nd):nfN (encN n)=encN n:=rfl
theorem nfE_encE (n:Ed):nfE (encE n)=encE n:=rfl
theorem map_nfN (l:List Nd):(ndR l).map nfN=ndR l:=by
 unfold ndR;rw[List.map_map];exact List.map_congr_left fun n _=>nfN_encN n
theorem map_nfE (l:List Ed):(edR l).map nfE=edR l:=by
 unfold edR;rw[List.map_map];exact List.map_congr_left fun n _=>nfE_encE n
theorem nfL_bld (sz:Nat)(g:List AV→List AV)(rows:List (List AV)):nfL sz g (bldV sz rows)= .ls sz (rows.map g) false:=by
 unfold bldV;cases rows with
 |nil=>rfl
 |cons r rows=>simp[nfL]
theorem nfL_ls (sz:Nat)(g:List AV→List AV)(rows:List (List AV))(z:Bool):nfL sz g (.ls sz rows z)= .ls sz (rows.map g) false:=by simp[nfL]
theorem snap_ag4 {h:Hp}{a a' b b':AV}{u v:Value}(e:snap h 7 a=some a')(e2:snap h 7 b=some b'):snap h 8 (.ag [a,b,.sc u,.sc v])=some (.ag [a',b',.sc u,.sc v]):=by
 show(List.mapM (snap h 7) [a,b,.sc u,.sc v]).map AV.ag=_;rw[Zo,e,Zo,e2];rfl
set_option maxHeartbeats 32000000 in
theorem r08_putNode (n:Nat)(b:Bool)(g:Gr)(x:Int)(L P:AV)(m:Nd)(pre mid post:List Nd)(h:Hp)(hl:g.nodes.length≤100000)(hL:calm1 L=true)(hP:calm1 P=true)(hm:nfN [.sc (.int .i64 x),L,P]=encN m)(hs:Spl (ltN x) (eqN x) g.nodes pre mid post)(hx:0≤x∧x≤1000000000):
 callN cx (n+1) b 149 [.ag (encG g),.ag [.sc (.int .i64 x),L,P]] h=some (.ag (encG {g with nodes:=pre++[m]++post,nn:=max g.nn (x+1)}),h):=by
 refine pure_exN (f:=149) (n:=n) (args:=[.ag (encG g),.ag [.sc (.int .i64 x),L,P]]) (.ag (encG {g with nodes:=pre++[m]++post,nn:=max g.nn (x+1)})) ⟨Tryz.f149.ntmps,(Tryz.f149.body).getD .skip,[.cell 4 4 true]⟩ (by kernel_rfl) (by kernel_rfl) rfl (by kernel_rfl) (by simp[Tryz.f149]) (by
  rw[Zn,Zn,calm_ag1,calm_ag1];simp[encG,ndV,edV,hL,hP]) ?_ (by decide) b h
 have hs':=spl_map hs (lt':=ltK x) (eq':=eqK x) (fun c:Nd=>(encN c,c.id)) (fun _=>rfl) (fun _=>rfl);have hput:=putL_spl hs' ([.sc (.int .i64 x),L,P],x) true;have hle:=putF_le (ltK x) (eqK x) ([.sc (.int .i64 x),L,P],x) true (g.nodes.map fun c=>(encN c,c.id));have hsz:∀i,∀r∈((putF (ltK x) (eqK x) ([.sc (.int .i64 x),L,P],x) true (g.nodes.map fun c=>(encN c,c.id)) i).1).map Prod.fst,r.length=3∧r.all calm1=true:=by
  intro i
  induction i with
  |zero=>simp[putF_zero]
  |
   succ i ih=>
   by_cases hi:i<g.nodes.length
   ·rw[putF_succ (x:=(encN (g.nodes[i]),(g.nodes[i]).id)) _ _ (by rw[Zs,Zb hi];rfl)];intro r hr;simp only[putR,List.map_append,Ya]at hr;rcases hr with(hr|hr)|hr
    ·exact ih r hr
    ·split at hr
     ·simp at hr;subst hr;exact⟨rfl,by simp[hL,hP]⟩
     ·cases hr
    ·split at hr
     ·cases hr
     ·simp at hr;subst hr;exact⟨rfl,rfl⟩
   ·have:putF (ltK x) (eqK x) ([.sc (.int .i64 x),L,P],x) true (g.nodes.map fun c=>(encN c,c.id)) (i+1)=putF (ltK x) (eqK x) ([.sc (.int .i64 x),L,P],x) true (g.nodes.map fun c=>(encN c,c.id)) i:=by
     unfold putF;rw[List.take_of_length_le (by simp;omega),List.take_of_length_le (by simp;omega)]
    rw[this];exact ih
 have hq:=ndR_length g.nodes;have hg:=ndR_get g.nodes;rw[Yk]at hle;unfold putL at hput;rw[Yk]at hput;have hstep:∀{i:Nat} {c:Nd},g.nodes[i]?=some c→putF (ltK x) (eqK x) ([.sc (.int .i64 x),L,P],x) true (g.nodes.map fun c=>(encN c,c.id)) (i+1)=putR (ltK x) (eqK x) ([.sc (.int .i64 x),L,P],x) true (putF (ltK x) (eqK x) ([.sc (.int .i64 x),L,P],x) true (g.nodes.map fun c=>(encN c,c.id)) i) (encN c,c.id):=fun hc=>putF_succ _ _ (by rw[Zs,hc];rfl)
 have h0:putF (ltK x) (eqK x) ([.sc (.int .i64 x),L,P],x) true (g.nodes.map fun c=>(encN c,c.id)) 0=([],false):=rfl;generalize putF (ltK x) (eqK x) ([.sc (.int .i64 x),L,P],x) true (g.nodes.map fun c=>(encN c,c.id))=PF at hput hle hsz hstep h0;have hfin:(((putZ ([.sc (.int .i64 x),L,P],x) true (PF g.nodes.length)).map Prod.fst).map nfN)=ndR (pre++[m]++post):=by
  rw[hput];simp only[if_true,List.map_append,List.map_map,List.map_cons,List.map_nil,hm];unfold ndR;simp only[List.map_append,List.map_cons,List.map_nil]
  congr 1
 have hx1:fitI .i64 (x+1)=x+1:=fit_i64 (by omega) (by omega);unfold encG ndV;generalize ndR g.nodes=rows at hq hg;simp[Tryz.f149];refine loop_up (C:=cx) (G:=fun r=>∃r0 h',finX _ (thenX _ _ (blockX _ r) _)=some (r0,h')∧∃r',snap h' 8 r0=some r'∧nfR r'= .ag [.ls 3 (ndR (pre++m::post)) false,edV g.edges,.sc (.int .i64 (max g.nn (x+1))),.sc (.int .i64 g.ne)])
  (fun i s=>s.1.length=65∧gt s.1 2= .pt 0 0∧gt s.1 3= .pt 1 0∧gt s.1 4= .pt 2 0∧gt s.1 6= .sc (.bool (PF i).2)∧gt s.1 7= .sc (.int .i64 i)∧s.2[0]?=some (.row [.ls 3 rows false,edV g.edges,.sc (.int .i64 g.nn),.sc (.int .i64 g.ne)])∧s.2[1]?=some (.row [.sc (.int .i64 x),L,P])∧s.2[2]?=some (.row [.sc (.slice none 0 0),.sc (.slice none 0 0),.sc (.int .i64 0),.sc (.int .i64 0)])∧∃y,gt s.1 5=y∧Bld s.2 3 ((PF i).1.map Prod.fst) y∧∀k n,y= .sl k 3 0 n false→2<k)
  (fun o s=>o= .exit 0∧s.1.length=65∧gt s.1 2= .pt 0 0∧gt s.1 3= .pt 1 0∧gt s.1 4= .pt 2 0∧gt s.1 6= .sc (.bool (PF g.nodes.length).2)∧s.2[0]?=some (.row [.ls 3 rows false,edV g.edges,.sc (.int .i64 g.nn),.sc (.int .i64 g.ne)])∧s.2[1]?=some (.row [.sc (.int .i64 x),L,P])∧s.2[2]?=some (.row [.sc (.slice none 0 0),.sc (.slice none 0 0),.sc (.int .i64 0),.sc (.int .i64 0)])∧∃y,gt s.1 5=y∧Bld s.2 3 ((PF g.nodes.length).1.map Prod.fst) y∧∀k n,y= .sl k 3 0 n false→2<k) g.nodes.length (by simp;omega) (by simp[h0,Bld]) ?_ ?_
 ·rintro i fr h hle' ⟨hlen,e2,e3,e4,e6,e7,b0,b1,b2,y,e5,hy,hk⟩;simp only at hlen e2 e3 e4 e6 e7 b0 b1 b2 e5 hy;have hlenh:2<h.length:=(Za.1 b2).1;by_cases hi:i<g.nodes.length
  ·obtain⟨c,hc⟩:∃c,g.nodes[i]?=some c:=⟨_,Zb hi⟩;have hr:rows[i]?=some [.sc (.int .i64 c.id),tsV c.labels false,prV c.props false]:=by rw[hg,hc];rfl
   have hr':∀k,rows[i]'k=[.sc (.int .i64 c.id),tsV c.labels false,prV c.props false]:=fun k=>by obtain⟨_,e⟩:=Za.1 hr;exact e
   have hf:=fit_succ (i:=i) (by omega);have hst:=hstep hc;have hPl:=hle i;have hall:=hsz i;generalize PF i=P0 at hst hPl e6 hy hall;obtain⟨p0,d0⟩:=P0;simp only at e6 hy hPl hall;have q0:=fun(ops:Array Oper) (d:Tmp) (rest:List Oper) (fr:List AV) (h:Hp)=>opP_np (C:=cx) (cal:=callN cx n true) (ops:=ops) (fun v=>hy.np v) d rest fr h
   have add:∀(rw1:List (List AV)) (y1:AV) (h1:Hp) (r:List AV),Bld h1 3 rw1 y1→rw1.length≤200002→(∀r∈rw1,r.length=3)→r.length=3→2<h1.length→h1[0]?=h[0]?→h1[1]?=h[1]?→h1[2]?=h[2]?→(∀k n,y1= .sl k 3 0 n false→2<k)→
    ∃id h2,appendA cx (h1++[.row r]) 32 y1 (.sl h1.length 3 0 1 false)=some (.sl id 3 0 (rw1.length+1) false,h2)∧Bld h2 3 (rw1++[r]) (.sl id 3 0 (rw1.length+1) false)∧h2[0]?=h[0]?∧h2[1]?=h[1]?∧h2[2]?=h[2]?∧2<h2.length∧2<id:=by
    intro rw1 y1 h1 r hb hn hrs hrl hl1 z0 z1 z2 hk1;obtain⟨id,h2,a1,a2,a3,a4⟩:=bld_app' (t:=32) T_s_api_Node rfl h1 r rw1 y1 hb hrl hrs (by omega) (by omega) (by omega);have w0:=a3 0 _ (z0.trans b0) (fun k n e=>by have:=hk1 k n e;omega);have w1:=a3 1 _ (z1.trans b1) (fun k n e=>by have:=hk1 k n e;omega);have w2:=a3 2 _ (z2.trans b2) (fun k n e=>by have:=hk1 k n e;omega);exact⟨id,h2,a1,bld_of a2,w0.trans b0.symm,w1.trans b1.symm,w2.trans b2.symm,(Za.1 w2).1,by omega⟩
   have hpl:(p0.map Prod.fst).length=p0.length:=by simp
   obtain⟨ik,hk2,k1,k2,k3,k4,k5,k6,k7⟩:=add _ y h [.sc (.int .i64 c.id),tsV c.labels false,prV c.props false] hy (by omega) (fun r hr=>(hall r hr).1) rfl hlenh rfl rfl rfl hk;obtain⟨ip,hp2,p1,p2,p3,p4,p5,p6,p7⟩:=add _ y h [.sc (.int .i64 x),L,P] hy (by omega) (fun r hr=>(hall r hr).1) rfl hlenh rfl rfl rfl hk;obtain⟨im,hm2,m1,m2,m3,m4,m5,m6,m7⟩:=add _ _ hp2 [.sc (.int .i64 c.id),tsV c.labels false,prV c.props false] p2 (by simp;omega) (fun r hr=>by
    rcases Ya.1 hr with hr|hr
    ·exact(hall r hr).1
    ·simp at hr;rw[hr];rfl) rfl p6 p3 p4 p5 (fun k n e=>by simp only[AV.sl.injEq]at e;omega)
   rw[b0]at k3 p3 m3;rw[b1]at k4 p4 m4;rw[b2]at k5 p5 m5;simp only[Zu,Yk,List.length_singleton]at k1 k2 p1 p2 m1 m2;have hge:∀q:c.id<x,¬x≤c.id:=fun q=>by omega
   have hge':∀q:¬c.id<x,x≤c.id:=fun q=>by omega
   cases d0
   ·by_cases hlt:c.id<x
    ·have hne:¬c.id=x:=by omega
     have hg2:=hge hlt;simp[hlen,e2,e3,e4,e5,e6,e7,q0,hst,b0,b1,b2,hi,hq,hr,hr',hf,hlt,hne,hg2,k1,k3,k4,k5,putR,ltK,eqK];exact⟨k2,k7⟩
    ·have hg2:=hge' hlt;by_cases heq:c.id=x
     ·simp[hlen,e2,e3,e4,e5,e6,e7,q0,hst,b0,b1,b2,hi,hq,hr,hr',hf,hlt,heq,hg2,p1,p3,p4,p5,putR,ltK,eqK];exact⟨p2,p7⟩
     ·simp[hlen,e2,e3,e4,e5,e6,e7,q0,hst,b0,b1,b2,hi,hq,hr,hr',hf,hlt,heq,hg2,p1,p3,p4,p5,m1,m3,m4,m5,putR,ltK,eqK];exact⟨by simpa[encN]using m2,m7⟩
   ·by_cases heq:c.id=x
    ·simp[hlen,e2,e3,e4,e5,e6,e7,q0,hst,b0,b1,b2,hi,hq,hr,hr',hf,heq,putR,ltK,eqK];exact⟨hy,hk⟩
    ·simp[hlen,e2,e3,e4,e5,e6,e7,q0,hst,b0,b1,b2,hi,hq,hr,hr',hf,heq,k1,k3,k4,k5,putR,ltK,eqK];exact⟨k2,k7⟩
  ·have hil:i=g.nodes.length:=by omega
   subst hil;simp[hlen,e2,e3,e4,e5,e6,e7,b0,b1,b2,hi,hq];exact⟨hy,hk⟩
 ·rintro o fr h hn ⟨rfl,hlen,e2,e3,e4,e6,b0,b1,b2,y,e5,hy,hk⟩;simp only at hlen e2 e3 e4 e6 b0 b1 b2 e5 hy;have hlenh:2<h.length:=(Za.1 b2).1;have hmax:(if g.nn<x+1 then x+1 else g.nn)=max g.nn (x+1):=by rw[Int.max_def];split<;>split<;>omega
  have hPl:=hle g.nodes.length;have hall:=hsz g.nodes.length;generalize PF g.nodes.length=P0 at hPl e6 hy hall hfin;obtain⟨p0,d0⟩:=P0;simp only at e6 hy hPl hall;have hmv:∀(rows1:List (List AV)) (h1 h2:Hp) (y1:AV),Bld h1 3 rows1 y1→(∀k n,y1= .sl k 3 0 n false→2<k)→(∀j,2<j→h2[j]?=h1[j]?)→(∀r∈rows1,r.length=3∧r.all calm1=true)→snap h2 7 y1=some (bldV 3 rows1):=by
   intro rows1 h1 h2 y1 hb hk1 hj hr1;refine bld_snap (by omega) (fun r hr=>(hr1 r hr).1) (calm1_rows fun r hr=>(hr1 r hr).2) ?_;rcases hb with hb|⟨hne,id,rfl,hid⟩
   ·exact .inl hb
   ·exact .inr ⟨hne,id,rfl,by rw[hj id (hk1 id _ rfl)];exact hid⟩
  have hmap2:(edR g.edges).map nfE=edR g.edges:=map_nfE _;cases d0
  ·have hn2:2< (h++[Blk.row [.sc (.int .i64 x),L,P]]).length:=by simp;omega
   obtain⟨id,h2,a1,a2,a3,a4⟩:=bld_app' (t:=32) T_s_api_Node rfl h [.sc (.int .i64 x),L,P] _ y hy rfl (fun r hr=>(hall r hr).1) (by omega) (by simp;omega) (by omega);have w0:=a3 0 _ b0 (fun k n e=>by have:=hk k n e;omega);have w1:=a3 1 _ b1 (fun k n e=>by have:=hk k n e;omega);have w2:=a3 2 _ b2 (fun k n e=>by have:=hk k n e;omega);have hl2:2<h2.length:=(Za.1 w2).1;have s0:∀B,(h2.set 0 B)[0]?=some B:=fun B=>Zj (by omega)
   have s2:∀B C,((h2.set 0 B).set 2 C)[2]?=some C:=fun B C=>Zj (by simp;omega)
   have q0:=fun(ops:Array Oper) (d:Tmp) (rest:List Oper) (fr:List AV) (h:Hp)=>opP_np (C:=cx) (cal:=callN cx n true) (ops:=ops) (fun v=>hy.np v) d rest fr h
   have a5:=bld_of (sz:=3) a2;simp only[Yk]at a1 a5;simp only[putZ,Bool.not_false,Bool.true_and,if_true,List.map_append,List.map_cons,List.map_nil]at hfin;simp[hlen,e2,e3,e4,e5,e6,q0,b0,b1,b2,a1,w0,w1,w2,hx1,hmax,s0,s2];refine⟨_,_,⟨rfl,rfl⟩,_,snap_ag4 (hmv (p0.map Prod.fst++[[.sc (.int .i64 x),L,P]]) h2 _ _ a5 (fun k n e=>by simp only[AV.sl.injEq]at e;omega) (fun j hj=>by simp[List.getElem?_set,show¬0=j by omega,show¬2=j by omega]) ?_) rfl,?_⟩
   ·intro r hr;rcases Ya.1 hr with hr|hr
    ·exact hall r hr
    ·simp at hr;subst hr;exact⟨rfl,by simp[hL,hP]⟩
   ·simp only[nfR,nfG,nfL_bld,List.map_append,List.map_cons,List.map_nil,edV,nfL_ls,hmap2];rw[hfin];simp
  ·simp only[putZ,Bool.not_true,Bool.false_and,Yp,if_false]at hfin;rcases hy with⟨hp0,rfl⟩|⟨hne,id,rfl,hid⟩
   ·have hfin':ndR (pre++m::post)=[]:=by rw[show pre++m::post=pre++[m]++post by simp,←hfin,hp0];rfl
    simp[ndR]at hfin'
   ·have s0:∀B,(h.set 0 B)[0]?=some B:=fun B=>Zj (by omega)
    have s2:∀B C,((h.set 0 B).set 2 C)[2]?=some C:=fun B C=>Zj (by simp;omega)
    have hk':=hk id _ rfl;simp[hlen,e2,e3,e4,e5,e6,b0,b1,b2,hx1,hmax,s0,s2];refine⟨_,_,⟨rfl,rfl⟩,_,snap_ag4 (hmv (p0.map Prod.fst) h _ _ (.inr ⟨hne,id,by simp,hid⟩) (fun k n e=>by simp only[AV.sl.injEq]at e;omega) (fun j hj=>by simp[List.getElem?_set,show¬0=j by omega,show¬2=j by omega]) hall) rfl,?_⟩;simp only[nfR,nfG,nfL_bld,edV,nfL_ls,hmap2];rw[hfin];simp
set_option maxHeartbeats 32000000 in
theorem r08_putEdge (n:Nat)(b:Bool)(g:Gr)(x:Int)(A B:Int)(T:ByteArray)(P:AV)(m:Ed)(pre mid post:List Ed)(h:Hp)(hl:g.edges.length≤100000)(hP:calm1 P=true)(hm:nfE [.sc (.int .i64 x),.sc (.int .i64 A),.sc (.int .i64 B),.sc (.string T),P]=encE m)(hs:Spl (ltE x) (eqE x) g.edges pre mid post)(hx:0≤x∧x≤1000000000):
 callN cx (n+1) b 150 [.ag (encG g),.ag [.sc (.int .i64 x),.sc (.int .i64 A),.sc (.int .i64 B),.sc (.string T),P]] h=some (.ag (encG {g with edges:=pre++[m]++post,ne:=max g.ne (x+1)}),h):=by
 refine pure_exN (f:=150) (n:=n) (args:=[.ag (encG g),.ag [.sc (.int .i64 x),.sc (.int .i64 A),.sc (.int .i64 B),.sc (.string T),P]]) (.ag (encG {g with edges:=pre++[m]++post,ne:=max g.ne (x+1)})) ⟨Tryz.f150.ntmps,(Tryz.f150.body).getD .skip,[.cell 4 4 true]⟩ (by kernel_rfl) (by kernel_rfl) rfl (by kernel_rfl) (by simp[Tryz.f150]) (by
  rw[Zn,Zn,calm_ag1,calm_ag1];simp[encG,ndV,edV,hP]) ?_ (by decide) b h
 have hs':=spl_map hs (lt':=ltK x) (eq':=eqK x) (fun c:Ed=>(encE c,c.id)) (fun _=>rfl) (fun _=>rfl);have hput:=putL_spl hs' ([.sc (.int .i64 x),.sc (.int .i64 A),.sc (.int .i64 B),.sc (.string T),P],x) true;have hle:=putF_le (ltK x) (eqK x) ([.sc (.int .i64 x),.sc (.int .i64 A),.sc (.int .i64 B),.sc (.string T),P],x) true (g.edges.map fun c=>(encE c,c.id));have hsz:∀i,∀r∈((putF (ltK x) (eqK x) ([.sc (.int .i64 x),.sc (.int .i64 A),.sc (.int .i64 B),.sc (.string T),P],x) true (g.edges.map fun c=>(encE c,c.id)) i).1).map Prod.fst,r.length=5∧r.all calm1=true:=by
  intro i
  induction i with
  |zero=>simp[putF_zero]
  |
   succ i ih=>
   by_cases hi:i<g.edges.length
   ·rw[putF_succ (x:=(encE (g.edges[i]),(g.edges[i]).id)) _ _ (by rw[Zs,Zb hi];rfl)];intro r hr;simp only[putR,List.map_append,Ya]at hr;rcases hr with(hr|hr)|hr
    ·exact ih r hr
    ·split at hr
     ·simp at hr;subst hr;exact⟨rfl,by simp[hP]⟩
     ·cases hr
    ·split at hr
     ·cases hr
     ·simp at hr;subst hr;exact⟨rfl,rfl⟩
   ·have:putF (ltK x) (eqK x) ([.sc (.int .i64 x),.sc (.int .i64 A),.sc (.int .i64 B),.sc (.string T),P],x) true (g.edges.map fun c=>(encE c,c.id)) (i+1)=putF (ltK x) (eqK x) ([.sc (.int .i64 x),.sc (.int .i64 A),.sc (.int .i64 B),.sc (.string T),P],x) true (g.edges.map fun c=>(encE c,c.id)) i:=by
     unfold putF;rw[List.take_of_length_le (by simp;omega),List.take_of_length_le (by simp;omega)]
    rw[this];exact ih
 have hq:=edR_length g.edges;have hg:=edR_get g.edges;rw[Yk]at hle;unfold putL at hput;rw[Yk]at hput;have hstep:∀{i:Nat} {c:Ed},g.edges[i]?=some c→putF (ltK x) (eqK x) ([.sc (.int .i64 x),.sc (.int .i64 A),.sc (.int .i64 B),.sc (.string T),P],x) true (g.edges.map fun c=>(encE c,c.id)) (i+1)=putR (ltK x) (eqK x) ([.sc (.int .i64 x),.sc (.int .i64 A),.sc (.int .i64 B),.sc (.string T),P],x) true (putF (ltK x) (eqK x) ([.sc (.int .i64 x),.sc (.int .i64 A),.sc (.int .i64 B),.sc (.string T),P],x) true (g.edges.map fun c=>(encE c,c.id)) i) (encE c,c.id):=fun hc=>putF_succ _ _ (by rw[Zs,hc];rfl)
 have h0:putF (ltK x) (eqK x) ([.sc (.int .i64 x),.sc (.int .i64 A),.sc (.int .i64 B),.sc (.string T),P],x) true (g.edges.map fun c=>(encE c,c.id)) 0=([],false):=rfl;generalize putF (ltK x) (eqK x) ([.sc (.int .i64 x),.sc (.int .i64 A),.sc (.int .i64 B),.sc (.string T),P],x) true (g.edges.map fun c=>(encE c,c.id))=PF at hput hle hsz hstep h0;have hfin:(((putZ ([.sc (.int .i64 x),.sc (.int .i64 A),.sc (.int .i64 B),.sc (.string T),P],x) true (PF g.edges.length)).map Prod.fst).map nfE)=edR (pre++[m]++post):=by
  rw[hput];simp only[if_true,List.map_append,List.map_map,List.map_cons,List.map_nil,hm];unfold edR;simp only[List.map_append,List.map_cons,List.map_nil]
  congr 1
 have hx1:fitI .i64 (x+1)=x+1:=fit_i64 (by omega) (by omega);unfold encG edV;generalize edR g.edges=rows at hq hg;simp[Tryz.f150];refine loop_up (C:=cx) (G:=fun r=>∃r0 h',finX _ (thenX _ _ (blockX _ r) _)=some (r0,h')∧∃r',snap h' 8 r0=some r'∧nfR r'= .ag [ndV g.nodes,.ls 5 (edR (pre++m::post)) false,.sc (.int .i64 g.nn),.sc (.int .i64 (max g.ne (x+1)))])
  (fun i s=>s.1.length=65∧gt s.1 2= .pt 0 0∧gt s.1 3= .pt 1 0∧gt s.1 4= .pt 2 0∧gt s.1 6= .sc (.bool (PF i).2)∧gt s.1 7= .sc (.int .i64 i)∧s.2[0]?=some (.row [ndV g.nodes,.ls 5 rows false,.sc (.int .i64 g.nn),.sc (.int .i64 g.ne)])∧s.2[1]?=some (.row [.sc (.int .i64 x),.sc (.int .i64 A),.sc (.int .i64 B),.sc (.string T),P])∧s.2[2]?=some (.row [.sc (.slice none 0 0),.sc (.slice none 0 0),.sc (.int .i64 0),.sc (.int .i64 0)])∧∃y,gt s.1 5=y∧Bld s.2 5 ((PF i).1.map Prod.fst) y∧∀k n,y= .sl k 5 0 n false→2<k)
  (fun o s=>o= .exit 0∧s.1.length=65∧gt s.1 2= .pt 0 0∧gt s.1 3= .pt 1 0∧gt s.1 4= .pt 2 0∧gt s.1 6= .sc (.bool (PF g.edges.length).2)∧s.2[0]?=some (.row [ndV g.nodes,.ls 5 rows false,.sc (.int .i64 g.nn),.sc (.int .i64 g.ne)])∧s.2[1]?=some (.row [.sc (.int .i64 x),.sc (.int .i64 A),.sc (.int .i64 B),.sc (.string T),P])∧s.2[2]?=some (.row [.sc (.slice none 0 0),.sc (.slice none 0 0),.sc (.int .i64 0),.sc (.int .i64 0)])∧∃y,gt s.1 5=y∧Bld s.2 5 ((PF g.edges.length).1.map Prod.fst) y∧∀k n,y= .sl k 5 0 n false→2<k) g.edges.length (by simp;omega) (by simp[h0,Bld]) ?_ ?_
 ·rintro i fr h hle' ⟨hlen,e2,e3,e4,e6,e7,b0,b1,b2,y,e5,hy,hk⟩;simp only at hlen e2 e3 e4 e6 e7 b0 b1 b2 e5 hy;have hlenh:2<h.length:=(Za.1 b2).1;by_cases hi:i<g.edges.length
  ·obtain⟨c,hc⟩:∃c,g.edges[i]?=some c:=⟨_,Zb hi⟩;have hr:rows[i]?=some [.sc (.int .i64 c.id),.sc (.int .i64 c.src),.sc (.int .i64 c.dst),.sc (.string c.type),prV c.props false]:=by rw[hg,hc];rfl
   have hr':∀k,rows[i]'k=[.sc (.int .i64 c.id),.sc (.int .i64 c.src),.sc (.int .i64 c.dst),.sc (.string c.type),prV c.props false]:=fun k=>by obtain⟨_,e⟩:=Za.1 hr;exact e
   have hf:=fit_succ (i:=i) (by omega);have hst:=hstep hc;have hPl:=hle i;have hall:=hsz i;generalize PF i=P0 at hst hPl e6 hy hall;obtain⟨p0,d0⟩:=P0;simp only at e6 hy hPl hall;have q0:=fun(ops:Array Oper) (d:Tmp) (rest:List Oper) (fr:List AV) (h:Hp)=>opP_np (C:=cx) (cal:=callN cx n true) (ops:=ops) (fun v=>hy.np v) d rest fr h
   have add:∀(rw1:List (List AV)) (y1:AV) (h1:Hp) (r:List AV),Bld h1 5 rw1 y1→rw1.length≤200002→(∀r∈rw1,r.length=5)→r.length=5→2<h1.length→h1[0]?=h[0]?→h1[1]?=h[1]?→h1[2]?=h[2]?→(∀k n,y1= .sl k 5 0 n false→2<k)→
    ∃id h2,appendA cx (h1++[.row r]) 33 y1 (.sl h1.length 5 0 1 false)=some (.sl id 5 0 (rw1.length+1) false,h2)∧Bld h2 5 (rw1++[r]) (.sl id 5 0 (rw1.length+1) false)∧h2[0]?=h[0]?∧h2[1]?=h[1]?∧h2[2]?=h[2]?∧2<h2.length∧2<id:=by
    intro rw1 y1 h1 r hb hn hrs hrl hl1 z0 z1 z2 hk1;obtain⟨id,h2,a1,a2,a3,a4⟩:=bld_app' (t:=33) T_s_api_Edge rfl h1 r rw1 y1 hb hrl hrs (by omega) (by omega) (by omega);have w0:=a3 0 _ (z0.trans b0) (fun k n e=>by have:=hk1 k n e;omega);have w1:=a3 1 _ (z1.trans b1) (fun k n e=>by have:=hk1 k n e;omega);have w2:=a3 2 _ (z2.trans b2) (fun k n e=>by have:=hk1 k n e;omega);exact⟨id,h2,a1,bld_of a2,w0.trans b0.symm,w1.trans b1.symm,w2.trans b2.symm,(Za.1 w2).1,by omega⟩
   have hpl:(p0.map Prod.fst).length=p0.length:=by simp
   obtain⟨ik,hk2,k1,k2,k3,k4,k5,k6,k7⟩:=add _ y h [.sc (.int .i64 c.id),.sc (.int .i64 c.src),.sc (.int .i64 c.dst),.sc (.string c.type),prV c.props false] hy (by omega) (fun r hr=>(hall r hr).1) rfl hlenh rfl rfl rfl hk;obtain⟨ip,hp2,p1,p2,p3,p4,p5,p6,p7⟩:=add _ y h [.sc (.int .i64 x),.sc (.int .i64 A),.sc (.int .i64 B),.sc (.string T),P] hy (by omega) (fun r hr=>(hall r hr).1) rfl hlenh rfl rfl rfl hk;obtain⟨im,hm2,m1,m2,m3,m4,m5,m6,m7⟩:=add _ _ hp2 [.sc (.int .i64 c.id),.sc (.int .i64 c.src),.sc (.int .i64 c.dst),.sc (.string c.type),prV c.props false] p2 (by simp;omega) (fun r hr=>by
    rcases Ya.1 hr with hr|hr
    ·exact(hall r hr).1
    ·simp at hr;rw[hr];rfl) rfl p6 p3 p4 p5 (fun k n e=>by simp only[AV.sl.injEq]at e;omega)
   rw[b0]at k3 p3 m3;rw[b1]at k4 p4 m4;rw[b2]at k5 p5 m5;simp only[Zu,Yk,List.length_singleton]at k1 k2 p1 p2 m1 m2;have hge:∀q:c.id<x,¬x≤c.id:=fun q=>by omega
   have hge':∀q:¬c.id<x,x≤c.id:=fun q=>by omega
   cases d0
   ·by_cases hlt:c.id<x
    ·have hne:¬c.id=x:=by omega
     have hg2:=hge hlt;simp[hlen,e2,e3,e4,e5,e6,e7,q0,hst,b0,b1,b2,hi,hq,hr,hr',hf,hlt,hne,hg2,k1,k3,k4,k5,putR,ltK,eqK];exact⟨k2,k7⟩
    ·have hg2:=hge' hlt;by_cases heq:c.id=x
     ·simp[hlen,e2,e3,e4,e5,e6,e7,q0,hst,b0,b1,b2,hi,hq,hr,hr',hf,hlt,heq,hg2,p1,p3,p4,p5,putR,ltK,eqK];exact⟨p2,p7⟩
     ·simp[hlen,e2,e3,e4,e5,e6,e7,q0,hst,b0,b1,b2,hi,hq,hr,hr',hf,hlt,heq,hg2,p1,p3,p4,p5,m1,m3,m4,m5,putR,ltK,eqK];exact⟨by simpa[encE]using m2,m7⟩
   ·by_cases heq:c.id=x
    ·simp[hlen,e2,e3,e4,e5,e6,e7,q0,hst,b0,b1,b2,hi,hq,hr,hr',hf,heq,putR,ltK,eqK];exact⟨hy,hk⟩
    ·simp[hlen,e2,e3,e4,e5,e6,e7,q0,hst,b0,b1,b2,hi,hq,hr,hr',hf,heq,k1,k3,k4,k5,putR,ltK,eqK];exact⟨k2,k7⟩
  ·have hil:i=g.edges.length:=by omega
   subst hil;simp[hlen,e2,e3,e4,e5,e6,e7,b0,b1,b2,hi,hq];exact⟨hy,hk⟩
 ·rintro o fr h hn ⟨rfl,hlen,e2,e3,e4,e6,b0,b1,b2,y,e5,hy,hk⟩;simp only at hlen e2 e3 e4 e6 b0 b1 b2 e5 hy;have hlenh:2<h.length:=(Za.1 b2).1;have hmax:(if g.ne<x+1 then x+1 else g.ne)=max g.ne (x+1):=by rw[Int.max_def];split<;>split<;>omega
  have hPl:=hle g.edges.length;have hall:=hsz g.edges.length;generalize PF g.edges.length=P0 at hPl e6 hy hall hfin;obtain⟨p0,d0⟩:=P0;simp only at e6 hy hPl hall;have hmv:∀(rows1:List (List AV)) (h1 h2:Hp) (y1:AV),Bld h1 5 rows1 y1→(∀k n,y1= .sl k 5 0 n false→2<k)→(∀j,2<j→h2[j]?=h1[j]?)→(∀r∈rows1,r.length=5∧r.all calm1=true)→snap h2 7 y1=some (bldV 5 rows1):=by
   intro rows1 h1 h2 y1 hb hk1 hj hr1;refine bld_snap (by omega) (fun r hr=>(hr1 r hr).1) (calm1_rows fun r hr=>(hr1 r hr).2) ?_;rcases hb with hb|⟨hne,id,rfl,hid⟩
   ·exact .inl hb
   ·exact .inr ⟨hne,id,rfl,by rw[hj id (hk1 id _ rfl)];exact hid⟩
  have hmap2:(ndR g.nodes).map nfN=ndR g.nodes:=map_nfN _;cases d0
  ·have hn2:2< (h++[Blk.row [.sc (.int .i64 x),.sc (.int .i64 A),.sc (.int .i64 B),.sc (.string T),P]]).length:=by simp;omega
   obtain⟨id,h2,a1,a2,a3,a4⟩:=bld_app' (t:=33) T_s_api_Edge rfl h [.sc (.int .i64 x),.sc (.int .i64 A),.sc (.int .i64 B),.sc (.string T),P] _ y hy rfl (fun r hr=>(hall r hr).1) (by omega) (by simp;omega) (by omega);have w0:=a3 0 _ b0 (fun k n e=>by have:=hk k n e;omega);have w1:=a3 1 _ b1 (fun k n e=>by have:=hk k n e;omega);have w2:=a3 2 _ b2 (fun k n e=>by have:=hk k n e;omega);have hl2:2<h2.length:=(Za.1 w2).1;have s0:∀B,(h2.set 0 B)[0]?=some B:=fun B=>Zj (by omega)
   have s2:∀B C,((h2.set 0 B).set 2 C)[2]?=some C:=fun B C=>Zj (by simp;omega)
   have q0:=fun(ops:Array Oper) (d:Tmp) (rest:List Oper) (fr:List AV) (h:Hp)=>opP_np (C:=cx) (cal:=callN cx n true) (ops:=ops) (fun v=>hy.np v) d rest fr h
   have a5:=bld_of (sz:=5) a2;simp only[Yk]at a1 a5;simp only[putZ,Bool.not_false,Bool.true_and,if_true,List.map_append,List.map_cons,List.map_nil]at hfin;simp[hlen,e2,e3,e4,e5,e6,q0,b0,b1,b2,a1,w0,w1,w2,hx1,hmax,s0,s2];refine⟨_,_,⟨rfl,rfl⟩,_,snap_ag4 rfl (hmv (p0.map Prod.fst++[[.sc (.int .i64 x),.sc (.int .i64 A),.sc (.int .i64 B),.sc (.string T),P]]) h2 _ _ a5 (fun k n e=>by simp only[AV.sl.injEq]at e;omega) (fun j hj=>by simp[List.getElem?_set,show¬0=j by omega,show¬2=j by omega]) ?_),?_⟩
   ·intro r hr;rcases Ya.1 hr with hr|hr
    ·exact hall r hr
    ·simp at hr;subst hr;exact⟨rfl,by simp[hP]⟩
   ·simp only[nfR,nfG,nfL_bld,List.map_append,List.map_cons,List.map_nil,ndV,nfL_ls,hmap2];rw[hfin];simp
  ·simp only[putZ,Bool.not_true,Bool.false_and,Yp,if_false]at hfin;rcases hy with⟨hp0,rfl⟩|⟨hne,id,rfl,hid⟩
   ·have hfin':edR (pre++m::post)=[]:=by rw[show pre++m::post=pre++[m]++post by simp,←hfin,hp0];rfl
    simp[edR]at hfin'
   ·have s0:∀B,(h.set 0 B)[0]?=some B:=fun B=>Zj (by omega)
    have s2:∀B C,((h.set 0 B).set 2 C)[2]?=some C:=fun B C=>Zj (by simp;omega)
    have hk':=hk id _ rfl;simp[hlen,e2,e3,e4,e5,e6,b0,b1,b2,hx1,hmax,s0,s2];refine⟨_,_,⟨rfl,rfl⟩,_,snap_ag4 rfl (hmv (p0.map Prod.fst) h _ _ (.inr ⟨hne,id,by simp,hid⟩) (fun k n e=>by simp only[AV.sl.injEq]at e;omega) (fun j hj=>by simp[List.getElem?_set,show¬0=j by omega,show¬2=j by omega]) hall),?_⟩;simp only[nfR,nfG,nfL_bld,ndV,nfL_ls,hmap2];rw[hfin];simp
end
end Go.Proofs.YtadaeokidcgdlaaGreatDoor
