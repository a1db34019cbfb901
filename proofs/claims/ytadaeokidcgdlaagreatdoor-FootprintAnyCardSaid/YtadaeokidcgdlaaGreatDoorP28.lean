/- A change of a node that exists: the reference's. -/
import Derived.Test.YtadaeokidcgdlaaGreatDoorP27
set_option linter.unusedSimpArgs false
set_option maxRecDepth 100000
namespace Go.Proofs.YtadaeokidcgdlaaGreatDoor
open Go Go.Ae
section
attribute [local simp] aop aopW coldF extF putA ofConst flat scalarOp fastOp binFast intOp strOp guardX Ae.part rowOf szOk natOf lenA cls fillA splice newsOf isNilC cellX
set_option maxHeartbeats 32000000
def zeroG :Gr:=⟨[],[],0,0⟩
theorem hasS_any (l:List ByteArray)(x:ByteArray):hasS l x=l.any (eqT x):=by
 induction l with
 |nil=>rfl
 |cons c l ih=>rfl
def putG (g:Gr)(pre post:List Nd)(m:Nd):Gr:={g with nodes:=pre++m::post,nn:=max g.nn (m.id+1)}
structure OnN (g:Gr)(c:Ch)(n:Nd)(pre post:List Nd)(lp lm lq:List ByteArray):Prop where
 nl:g.nodes.length≤100000
 sp:Spl (ltN c.a) (eqN c.a) g.nodes pre [n] post
 id:n.id=c.a
 lab:Spl (ltT c.name) (eqT c.name) n.labels lp lm lq
 ll:n.labels.length≤100000
 pl:n.props.length≤100000
 rng:0≤c.a∧c.a≤1000000000
theorem nfR_tpG (g:Gr)(e:AV):nfR (.tp [.ag (encG g),e])= .tp [.ag (encG g),e]:=by simp[nfR,nfG,encG,ndV,edV,nfL_ls,map_nfN,map_nfE]
theorem snap_tpG {h:Hp}{y y':AV}{rows:List (List AV)}{u v w:Value}(e:snap h 6 y=some y'):snap h 8 (.tp [.ag [y,.ls 5 rows false,.sc u,.sc v],.sc w])=some (.tp [.ag [y',.ls 5 rows false,.sc u,.sc v],.sc w]):=by
 show(List.mapM (snap h 7) [.ag [y,.ls 5 rows false,.sc u,.sc v],.sc w]).map AV.tp=_;have:snap h 7 (.ag [y,.ls 5 rows false,.sc u,.sc v])=some (.ag [y',.ls 5 rows false,.sc u,.sc v]):=by
  show(List.mapM (snap h 6) [y,.ls 5 rows false,.sc u,.sc v]).map AV.ag=_;rw[Zo,e];rfl
 rw[Zo,this];rfl
theorem nfR_tp0 (e:AV):nfR (.tp [.ag [.sc (.slice none 0 0),.sc (.slice none 0 0),.sc (.int .i64 0),.sc (.int .i64 0)],e])= .tp [.ag (encG zeroG),e]:=rfl
theorem calm_onN (g:Gr)(c:Ch)(n:Nd):[AV.ag (encG g),.ag (encC c),.ag (encN n)].all calm=true:=by
 have h1:=calm_encC c;rw[Zn,Zh]at h1;rw[Zn,Zn,h1.1];rfl
theorem r08_on3 (N D:Nat)(b:Bool)(g:Gr)(c:Ch)(n:Nd)(pre post:List Nd)(lp lm lq:List ByteArray)(h:Hp)(H:OnN g c n pre post lp lm lq)(hk:c.k=3):
 callN cx (N+3*D+9) b 152 [.ag (encG g),.ag (encC c),.ag (encN n)] h=some (.tp [.ag (encG (if lm.isEmpty then(if 8≤n.labels.length then zeroG else putG g pre post {n with labels:=lp++[c.name]++lq})else zeroG)),.sc (.int .i64 (if lm.isEmpty then(if 8≤n.labels.length then 20 else 0)else 7))],h):=by
 refine pure_exN (f:=152) (n:=N+3*D+8) (args:=[.ag (encG g),.ag (encC c),.ag (encN n)]) (.tp [.ag (encG (if lm.isEmpty then(if 8≤n.labels.length then zeroG else putG g pre post {n with labels:=lp++[c.name]++lq})else zeroG)),.sc (.int .i64 (if lm.isEmpty then(if 8≤n.labels.length then 20 else 0)else 7))]) ⟨Tryz.f152.ntmps,(Tryz.f152.body).getD .skip,[.cell 6 4 true,.tmp 7]⟩ (by kernel_rfl) (by kernel_rfl) rfl (by kernel_rfl) (by simp[Tryz.f152]) (calm_onN _ _ _) ?_ (by decide) b h;have f1:=fun b h=>r07_HasLabel (N+3*D+6) b n c.name h (Ym H.ll (by omega))
 rw[hasS_any,H.lab.any]at f1;have hsp:Spl (ltN n.id) (eqN n.id) g.nodes pre [n] post:=by rw[H.id];exact H.sp
 have hrn:0≤n.id∧n.id≤1000000000:=by rw[H.id];exact H.rng
 have hq:(tsR n.labels).length=n.labels.length:=tsR_length _;cases hm:lm.isEmpty
 ·rw[hm]at f1;simp only[encN,encG,ndV,edV,tsV,prV]at f1;generalize N+3*D+8=M at f1;simp[Tryz.f152,encN,encG,ndV,edV,tsV,prV,encC,f1,hk];exact⟨_,_,⟨rfl,rfl⟩,_,rfl,nfR_tp0 _⟩
 ·rw[hm]at f1;have hl0:lm=[]:=List.isEmpty_iff.1 hm;subst hl0;have f2:=fun b h=>r07_PutStr (N+3*D+7) b n.labels lp lq c.name h H.ll H.lab
  have f3:=fun b h=>r08_putNode (N+3*D+7) b g n.id (.ls 1 (tsR (lp++[c.name]++lq)) false) (prV n.props false) {n with labels:=lp++[c.name]++lq} pre [n] post h H.nl rfl rfl rfl hsp hrn
  simp only[encN,encG,ndV,edV,tsV,prV]at f1 f2 f3;generalize N+3*D+8=M at f1 f2 f3;by_cases h8:8≤n.labels.length
  ·have h8':(8:Int)≤(n.labels.length:Int):=by omega
   simp[Tryz.f152,encN,encG,ndV,edV,tsV,prV,encC,f1,hk,hq,h8,h8'];exact⟨_,_,⟨rfl,rfl⟩,_,rfl,nfR_tp0 _⟩
  ·have h8':¬(8:Int)≤(n.labels.length:Int):=by omega
   simp only[Zp,List.singleton_append,Zv,Zw]at f2 f3;simp[Tryz.f152,encN,encG,ndV,edV,tsV,prV,encC,f1,f2,f3,hk,hq,h8,h8'];exact⟨_,_,⟨rfl,rfl⟩,_,rfl,nfR_tpG (putG g pre post {n with labels:=lp++c.name::lq}) _⟩
theorem r08_on4 (N D:Nat)(b:Bool)(g:Gr)(c:Ch)(n:Nd)(pre post:List Nd)(lp lm lq:List ByteArray)(h:Hp)(H:OnN g c n pre post lp lm lq)(hk:c.k=4):
 callN cx (N+3*D+9) b 152 [.ag (encG g),.ag (encC c),.ag (encN n)] h=some (.tp [.ag (encG (if lm.isEmpty then zeroG else putG g pre post {n with labels:=lp++lq})),.sc (.int .i64 (if lm.isEmpty then 23 else 0))],h):=by
 refine pure_exN (f:=152) (n:=N+3*D+8) (args:=[.ag (encG g),.ag (encC c),.ag (encN n)]) (.tp [.ag (encG (if lm.isEmpty then zeroG else putG g pre post {n with labels:=lp++lq})),.sc (.int .i64 (if lm.isEmpty then 23 else 0))]) ⟨Tryz.f152.ntmps,(Tryz.f152.body).getD .skip,[.cell 6 4 true,.tmp 7]⟩ (by kernel_rfl) (by kernel_rfl) rfl (by kernel_rfl) (by simp[Tryz.f152]) (calm_onN _ _ _) ?_ (by decide) b h;have f1:=fun b h=>r07_HasLabel (N+3*D+6) b n c.name h (Ym H.ll (by omega))
 rw[hasS_any,H.lab.any]at f1;have hsp:Spl (ltN n.id) (eqN n.id) g.nodes pre [n] post:=by rw[H.id];exact H.sp
 have hrn:0≤n.id∧n.id≤1000000000:=by rw[H.id];exact H.rng
 have hq:(tsR n.labels).length=n.labels.length:=tsR_length _;cases hm:lm.isEmpty
 ·rw[hm]at f1;have f2:=fun b h=>r08_without (N+3*D+7) b n.labels c.name h H.ll
  rw[H.lab.filter]at f2;have f3:=fun b h=>r08_putNode (N+3*D+7) b g n.id (bldV 1 (tsR (lp++lq))) (prV n.props false) {n with labels:=lp++lq} pre [n] post h H.nl (by unfold bldV;cases tsR (lp++lq)<;>rfl) rfl (by show[AV.sc (.int .i64 n.id),nfS 1 (bldV 1 (tsR (lp++lq))),nfS 6 (prV n.props false)]=_;rw[nfS_bld];rfl) hsp hrn
  have hbv:∀(ops:Array Oper) (cal:Cal) (d:Tmp) (rest:List Oper) (fr:List AV) (h:Hp),opP cx cal ops (some d) rest fr (some (bldV 1 (tsR (lp++lq)),h))=runOpsP cx cal ops rest (fr.set d (bldV 1 (tsR (lp++lq))),h):=fun ops cal d rest fr h=>opP_np (by intro v;unfold bldV;split<;>simp) d rest fr h
  have hcl:cls (bldV 1 (tsR (lp++lq)))=some [bldV 1 (tsR (lp++lq))]:=by unfold bldV;cases tsR (lp++lq)<;>rfl
  unfold cls at hcl;simp only[encN,encG,ndV,edV,tsV,prV]at f1 f2 f3;generalize N+3*D+8=M at f1 f2 f3;generalize bldV 1 (tsR (lp++lq))=y at f2 f3 hbv hcl;simp[Tryz.f152,encN,encG,ndV,edV,tsV,prV,encC,f1,f2,f3,hbv,hcl,hk,hq];exact⟨_,_,⟨rfl,rfl⟩,_,rfl,nfR_tpG (putG g pre post {n with labels:=lp++lq}) _⟩
 ·rw[hm]at f1;simp only[encN,encG,ndV,edV,tsV,prV]at f1;generalize N+3*D+8=M at f1;simp[Tryz.f152,encN,encG,ndV,edV,tsV,prV,encC,f1,hk];exact⟨_,_,⟨rfl,rfl⟩,_,rfl,nfR_tp0 _⟩
theorem r08_on5 (N D:Nat)(b:Bool)(g:Gr)(c:Ch)(n:Nd)(pre post:List Nd)(lp lm lq:List ByteArray)(h:Hp)(H:OnN g c n pre post lp lm lq)(hk:c.k=5)(hd:dep c.v≤D)(hv:bdV c.v):
 callN cx (N+3*D+9) b 152 [.ag (encG g),.ag (encC c),.ag (encN n)] h=some (.tp [.ag (encG (if(setR n.props c.name c.v).length≤16 then putG g pre post {n with props:=setR n.props c.name c.v}else zeroG)),.sc (.int .i64 (if(setR n.props c.name c.v).length≤16 then 0 else 20))],h):=by
 refine pure_exN (f:=152) (n:=N+3*D+8) (args:=[.ag (encG g),.ag (encC c),.ag (encN n)]) (.tp [.ag (encG (if(setR n.props c.name c.v).length≤16 then putG g pre post {n with props:=setR n.props c.name c.v}else zeroG)),.sc (.int .i64 (if(setR n.props c.name c.v).length≤16 then 0 else 20))]) ⟨Tryz.f152.ntmps,(Tryz.f152.body).getD .skip,[.cell 6 4 true,.tmp 7]⟩ (by kernel_rfl) (by kernel_rfl) rfl (by kernel_rfl) (by simp[Tryz.f152]) (calm_onN _ _ _) ?_ (by decide) b h;have f1:=fun b h=>r07_HasLabel (N+3*D+6) b n c.name h (Ym H.ll (by omega))
 rw[hasS_any,H.lab.any]at f1;have hsp:Spl (ltN n.id) (eqN n.id) g.nodes pre [n] post:=by rw[H.id];exact H.sp
 have hrn:0≤n.id∧n.id≤1000000000:=by rw[H.id];exact H.rng
 have f2:=fun b h=>r08_setProp N D b n.props c.name c.v h H.pl hd hv
 have f3:=fun b h=>r08_putNode (N+3*D+7) b g n.id (tsV n.labels false) (bldV 6 (prR (setR n.props c.name c.v))) {n with props:=setR n.props c.name c.v} pre [n] post h H.nl rfl (by unfold bldV;cases prR (setR n.props c.name c.v)<;>rfl) (by show[AV.sc (.int .i64 n.id),nfS 1 (tsV n.labels false),nfS 6 (bldV 6 (prR (setR n.props c.name c.v)))]=_;rw[nfS_bld];rfl) hsp hrn
 have hbv:∀(ops:Array Oper) (cal:Cal) (d:Tmp) (rest:List Oper) (fr:List AV) (h:Hp),opP cx cal ops (some d) rest fr (some (bldV 6 (prR (setR n.props c.name c.v)),h))=runOpsP cx cal ops rest (fr.set d (bldV 6 (prR (setR n.props c.name c.v))),h):=fun ops cal d rest fr h=>opP_np (by intro v;unfold bldV;split<;>simp) d rest fr h
 have hcl:cls (bldV 6 (prR (setR n.props c.name c.v)))=some [bldV 6 (prR (setR n.props c.name c.v))]:=by unfold bldV;cases prR (setR n.props c.name c.v)<;>rfl
 unfold cls at hcl;simp only[encN,encG,ndV,edV,tsV,prV]at f1 f2 f3;generalize N+3*D+8=M at f1 f2 f3;generalize bldV 6 (prR (setR n.props c.name c.v))=y at f2 f3 hbv hcl;by_cases h16:(setR n.props c.name c.v).length≤16
 ·simp[Tryz.f152,encN,encG,ndV,edV,tsV,prV,encC,f1,f2,f3,hbv,hcl,hk,h16];exact⟨_,_,⟨rfl,rfl⟩,_,rfl,nfR_tpG (putG g pre post {n with props:=setR n.props c.name c.v}) _⟩
 ·simp[Tryz.f152,encN,encG,ndV,edV,tsV,prV,encC,f1,f2,f3,hbv,hcl,hk,h16];exact⟨_,_,⟨rfl,rfl⟩,_,rfl,nfR_tp0 _⟩
theorem r08_on2 (N D:Nat)(b:Bool)(g:Gr)(c:Ch)(n:Nd)(pre post:List Nd)(lp lm lq:List ByteArray)(h:Hp)(H:OnN g c n pre post lp lm lq)(hk:c.k=2)(u:Bool)(hU:∀b h,callN cx (N+3*D+8) b 220 [.ag (encG g),.sc (.int .i64 c.a)] h=some (.sc (.bool u),h)):
 callN cx (N+3*D+9) b 152 [.ag (encG g),.ag (encC c),.ag (encN n)] h=some (.tp [.ag (encG (if u then zeroG else{g with nodes:=pre++post})),.sc (.int .i64 (if u then 12 else 0))],h):=by
 refine pure_exN (f:=152) (n:=N+3*D+8) (args:=[.ag (encG g),.ag (encC c),.ag (encN n)]) (.tp [.ag (encG (if u then zeroG else{g with nodes:=pre++post})),.sc (.int .i64 (if u then 12 else 0))]) ⟨Tryz.f152.ntmps,(Tryz.f152.body).getD .skip,[.cell 6 4 true,.tmp 7]⟩ (by kernel_rfl) (by kernel_rfl) rfl (by kernel_rfl) (by simp[Tryz.f152]) (calm_onN _ _ _) ?_ (by decide) b h;have f1:=fun b h=>r07_HasLabel (N+3*D+6) b n c.name h (Ym H.ll (by omega))
 rw[hasS_any,H.lab.any]at f1;have hsp:Spl (ltN n.id) (eqN n.id) g.nodes pre [n] post:=by rw[H.id];exact H.sp
 have hrn:0≤n.id∧n.id≤1000000000:=by rw[H.id];exact H.rng
 have hq:=ndR_length g.nodes;have hg:=ndR_get g.nodes;simp only[encN,encG,ndV,edV]at f1 hU;generalize N+3*D+8=M at f1 hU;cases u
 ·generalize hP:(fun i=>(g.nodes.take i).filter fun s=> !eqN c.a s)=P;have h0:P 0=[]:=by rw[←hP];rfl
  have hend:P g.nodes.length=pre++post:=by rw[←hP];simp only[List.take_length];exact H.sp.filter
  have hstep:∀{i:Nat} {d:Nd},g.nodes[i]?=some d→P (i+1)=P i++(if eqN c.a d then[]else[d]):=fun{i d} hc=>by
   rw[←hP];simp only[List.take_add_one,hc,Yn]
   congr 1
   cases hq:eqN c.a d<;>simp[hq]
  have hle:∀i,(P i).length≤g.nodes.length:=fun i=>by rw[←hP];exact Ym (List.length_filter_le _ _) (by simp;omega)
  have hnl:=H.nl;clear hP;have hfin:AV.tp [.ag (encG {g with nodes:=pre++post}),.sc (.int .i64 0)]= .tp [.ag [.ls 3 (ndR (P g.nodes.length)) false,edV g.edges,.sc (.int .i64 g.nn),.sc (.int .i64 g.ne)],.sc (.int .i64 0)]:=by rw[hend];rfl
  simp only[Yp,if_false];rw[hfin];simp[Tryz.f152,encN,encG,ndV,edV,encC,f1,hk,hU];have hcm:∀(i:Nat),∀r∈ndR (P i),r.length=3∧r.all calm1=true:=fun i r hr=>by obtain⟨a,_,rfl⟩:=Yi.1 hr;exact⟨rfl,rfl⟩
  refine loop_up (C:=cx) (G:=fun r=>∃r0 h',finX _ (thenX _ _ (blockX _ (thenX _ _ (blockX _ r) _)) _)=some (r0,h')∧∃r',snap h' 8 r0=some r'∧nfR r'=AV.tp [.ag [.ls 3 (ndR (P g.nodes.length)) false,.ls 5 (edR g.edges) false,.sc (.int .i64 g.nn),.sc (.int .i64 g.ne)],.sc (.int .i64 0)])
   (fun i s=>s.1.length=103∧gt s.1 3= .pt 0 0∧gt s.1 4= .pt 1 0∧gt s.1 6= .pt 3 0∧gt s.1 10= .sc (.int .i64 i)∧s.2[0]?=some (.row [.ls 3 (ndR g.nodes) false,.ls 5 (edR g.edges) false,.sc (.int .i64 g.nn),.sc (.int .i64 g.ne)])∧s.2[1]?=some (.row (encC c))∧s.2[3]?=some (.row [.sc (.slice none 0 0),.sc (.slice none 0 0),.sc (.int .i64 0),.sc (.int .i64 0)])∧∃y,gt s.1 9=y∧Bld s.2 3 (ndR (P i)) y∧∀k n,y= .sl k 3 0 n false→3<k)
   (fun o s=>o= .exit 1∧s.1.length=103∧gt s.1 3= .pt 0 0∧gt s.1 6= .pt 3 0∧s.2[0]?=some (.row [.ls 3 (ndR g.nodes) false,.ls 5 (edR g.edges) false,.sc (.int .i64 g.nn),.sc (.int .i64 g.ne)])∧s.2[3]?=some (.row [.sc (.slice none 0 0),.sc (.slice none 0 0),.sc (.int .i64 0),.sc (.int .i64 0)])∧∃y,gt s.1 9=y∧Bld s.2 3 (ndR (P g.nodes.length)) y∧∀k n,y= .sl k 3 0 n false→3<k) g.nodes.length (by simp;omega) (by simp[h0,Bld,ndR,encC,hk]) ?_ ?_
  ·rintro i fr h hle' ⟨hlen,e3,e4,e6,e10,b0,b1,b3,y,e9,hy,hk3⟩;simp only at hlen e3 e4 e6 e10 b0 b1 b3 e9 hy;have hlenh:3<h.length:=(Za.1 b3).1;by_cases hi:i<g.nodes.length
   ·obtain⟨d,hc⟩:∃d,g.nodes[i]?=some d:=⟨_,Zb hi⟩;have hr:(ndR g.nodes)[i]?=some [.sc (.int .i64 d.id),tsV d.labels false,prV d.props false]:=by rw[hg,hc];rfl
    have hr':∀k,(ndR g.nodes)[i]'k=[.sc (.int .i64 d.id),tsV d.labels false,prV d.props false]:=fun k=>by obtain⟨_,e⟩:=Za.1 hr;exact e
    have hf:=fit_succ (i:=i) (by omega);have hst:=hstep hc;have hPl:=hle i;have hc1:=hcm i;generalize P i=p0 at hst hPl hy hc1;have q0:=fun(ops:Array Oper) (d:Tmp) (rest:List Oper) (fr:List AV) (h:Hp)=>opP_np (C:=cx) (cal:=callN cx M true) (ops:=ops) (fun v=>hy.np v) d rest fr h
    obtain⟨id,h2,a1,a2,a3,a4⟩:=bld_app' (t:=32) T_s_api_Node rfl h [.sc (.int .i64 d.id),tsV d.labels false,prV d.props false] (ndR p0) y hy rfl (fun r hr=>(hc1 r hr).1) (by omega) (by rw[ndR_length];omega) (by omega);have w0:=a3 0 _ b0 (fun k n e=>by have:=hk3 k n e;omega);have w1:=a3 1 _ b1 (fun k n e=>by have:=hk3 k n e;omega);have w3:=a3 3 _ b3 (fun k n e=>by have:=hk3 k n e;omega);have a5:=bld_of (sz:=3) a2;rw[ndR_length]at a1 a5;have e7:ndR p0++[[.sc (.int .i64 d.id),tsV d.labels false,prV d.props false]]=ndR (p0++[d]):=by simp[ndR,encN]
    rw[e7]at a5;simp only[encC]at b1 w1⊢;by_cases heq:d.id=c.a
    ·simp[hlen,e3,e4,e6,e9,e10,q0,hst,b0,b1,b3,hi,hq,hr,hr',hf,heq,eqN];exact⟨hy,hk3⟩
    ·simp[hlen,e3,e4,e6,e9,e10,q0,hst,b0,b1,b3,hi,hq,hr,hr',hf,heq,eqN,a1,w0,w1,w3];exact⟨a5,by omega⟩
   ·have hil:i=g.nodes.length:=by omega
    subst hil;simp[hlen,e3,e4,e6,e9,e10,b0,b1,b3,hi,hq];exact⟨hy,hk3⟩
  ·rintro o fr h hn ⟨rfl,hlen,e3,e6,b0,b3,y,e9,hy,hk3⟩;simp only at hlen e3 e6 b0 b3 e9 hy;have hlenh:3<h.length:=(Za.1 b3).1;have q0:=fun(ops:Array Oper) (d:Tmp) (rest:List Oper) (fr:List AV) (h:Hp)=>opP_np (C:=cx) (cal:=callN cx M true) (ops:=ops) (fun v=>hy.np v) d rest fr h
   have hcl:cls y=some [y]:=by rcases hy with⟨_,rfl⟩|⟨_,id,rfl,_⟩<;>rfl
   unfold cls at hcl;have s0:∀B,(h.set 0 B)[0]?=some B:=fun B=>Zj (by omega)
   have s3:∀B C,((h.set 0 B).set 3 C)[3]?=some C:=fun B C=>Zj (by simp;omega)
   have hsn:∀h2:Hp,(∀j,3<j→h2[j]?=h[j]?)→snap h2 6 y=some (bldV 3 (ndR (P g.nodes.length))):=fun h2 hj=>by
    refine bld_snap (by omega) (ndR_all _).1 (ndR_all _).2 ?_;rcases hy with hb|⟨hne,id,rfl,hid⟩
    ·exact .inl hb
    ·exact .inr ⟨hne,id,rfl,by rw[hj id (hk3 id _ rfl)];exact hid⟩
   simp[hlen,e3,e6,e9,q0,b0,b3,hcl,s0,s3];refine⟨_,_,⟨rfl,rfl⟩,_,snap_tpG (hsn _ fun j hj=>by simp[List.getElem?_set,show¬0=j by omega,show¬3=j by omega]),?_⟩;simp only[nfR,nfG,nfL_bld,nfL_ls,map_nfN,map_nfE]
 ·simp[Tryz.f152,encN,encG,ndV,edV,encC,f1,hk,hU];exact⟨_,_,⟨rfl,rfl⟩,_,rfl,nfR_tp0 _⟩
def putGE (g:Gr)(pre post:List Ed)(m:Ed):Gr:={g with edges:=pre++m::post,ne:=max g.ne (m.id+1)}
structure OnE (g:Gr)(c:Ch)(n:Ed)(pre post:List Ed):Prop where
 nl:g.edges.length≤100000
 sp:Spl (ltE c.a) (eqE c.a) g.edges pre [n] post
 id:n.id=c.a
 pl:n.props.length≤100000
 rng:0≤c.a∧c.a≤1000000000
theorem calm_onE (g:Gr)(c:Ch)(n:Ed):[AV.ag (encG g),.ag (encC c),.ag (encE n)].all calm=true:=by
 have h1:=calm_encC c;rw[Zn,Zh]at h1;rw[Zn,Zn,h1.1];rfl
theorem snap_tpE {h:Hp}{y y':AV}{rows:List (List AV)}{u v w:Value}(e:snap h 6 y=some y'):snap h 8 (.tp [.ag [.ls 3 rows false,y,.sc u,.sc v],.sc w])=some (.tp [.ag [.ls 3 rows false,y',.sc u,.sc v],.sc w]):=by
 show(List.mapM (snap h 7) [.ag [.ls 3 rows false,y,.sc u,.sc v],.sc w]).map AV.tp=_;have:snap h 7 (.ag [.ls 3 rows false,y,.sc u,.sc v])=some (.ag [.ls 3 rows false,y',.sc u,.sc v]):=by
  show(List.mapM (snap h 6) [.ls 3 rows false,y,.sc u,.sc v]).map AV.ag=_;rw[Zo,Zo,e];rfl
 rw[Zo,this];rfl
theorem r08_one8 (N D:Nat)(b:Bool)(g:Gr)(c:Ch)(n:Ed)(pre post:List Ed)(h:Hp)(H:OnE g c n pre post)(hk:c.k=8)(hd:dep c.v≤D)(hv:bdV c.v):
 callN cx (N+3*D+9) b 151 [.ag (encG g),.ag (encC c),.ag (encE n)] h=some (.tp [.ag (encG (if(setR n.props c.name c.v).length≤16 then putGE g pre post {n with props:=setR n.props c.name c.v}else zeroG)),.sc (.int .i64 (if(setR n.props c.name c.v).length≤16 then 0 else 20))],h):=by
 refine pure_exN (f:=151) (n:=N+3*D+8) (args:=[.ag (encG g),.ag (encC c),.ag (encE n)]) (.tp [.ag (encG (if(setR n.props c.name c.v).length≤16 then putGE g pre post {n with props:=setR n.props c.name c.v}else zeroG)),.sc (.int .i64 (if(setR n.props c.name c.v).length≤16 then 0 else 20))]) ⟨Tryz.f151.ntmps,(Tryz.f151.body).getD .skip,[.cell 6 4 true,.tmp 7]⟩ (by kernel_rfl) (by kernel_rfl) rfl (by kernel_rfl) (by simp[Tryz.f151]) (calm_onE _ _ _) ?_ (by decide) b h;have f2:=fun b h=>r08_setProp N D b n.props c.name c.v h H.pl hd hv
 have hsp:Spl (ltE n.id) (eqE n.id) g.edges pre [n] post:=by rw[H.id];exact H.sp
 have hrn:0≤n.id∧n.id≤1000000000:=by rw[H.id];exact H.rng
 have f3:=fun b h=>r08_putEdge (N+3*D+7) b g n.id n.src n.dst n.type (bldV 6 (prR (setR n.props c.name c.v))) {n with props:=setR n.props c.name c.v} pre [n] post h H.nl (by unfold bldV;cases prR (setR n.props c.name c.v)<;>rfl) (by show[AV.sc (.int .i64 n.id),.sc (.int .i64 n.src),.sc (.int .i64 n.dst),.sc (.string n.type),nfS 6 (bldV 6 (prR (setR n.props c.name c.v)))]=_;rw[nfS_bld];rfl) hsp hrn
 have hbv:∀(ops:Array Oper) (cal:FuncId→List AV→Hp→Option (AV × Hp)) (d:Tmp) (rest:List Oper) (fr:List AV) (h:Hp),opP cx cal ops (some d) rest fr (some (bldV 6 (prR (setR n.props c.name c.v)),h))=runOpsP cx cal ops rest (fr.set d (bldV 6 (prR (setR n.props c.name c.v))),h):=fun ops cal d rest fr h=>opP_np (by intro v;unfold bldV;split<;>simp) d rest fr h
 have hcl:cls (bldV 6 (prR (setR n.props c.name c.v)))=some [bldV 6 (prR (setR n.props c.name c.v))]:=by unfold bldV;cases prR (setR n.props c.name c.v)<;>rfl
 unfold cls at hcl;simp only[encE,encG,ndV,edV,tsV,prV]at f2 f3;generalize N+3*D+8=M at f2 f3;generalize bldV 6 (prR (setR n.props c.name c.v))=y at f2 f3 hbv hcl;by_cases h16:(setR n.props c.name c.v).length≤16
 ·simp[Tryz.f151,encE,encG,ndV,edV,tsV,prV,encC,f2,f3,hbv,hcl,hk,h16];exact⟨_,_,⟨rfl,rfl⟩,_,rfl,nfR_tpG (putGE g pre post {n with props:=setR n.props c.name c.v}) _⟩
 ·simp[Tryz.f151,encE,encG,ndV,edV,tsV,prV,encC,f2,f3,hbv,hcl,hk,h16];exact⟨_,_,⟨rfl,rfl⟩,_,rfl,nfR_tp0 _⟩
theorem r08_one7 (N D:Nat)(b:Bool)(g:Gr)(c:Ch)(n:Ed)(pre post:List Ed)(h:Hp)(H:OnE g c n pre post)(hk:c.k=7):
 callN cx (N+3*D+9) b 151 [.ag (encG g),.ag (encC c),.ag (encE n)] h=some (.tp [.ag (encG ({g with edges:=pre++post})),.sc (.int .i64 (0))],h):=by
 refine pure_exN (f:=151) (n:=N+3*D+8) (args:=[.ag (encG g),.ag (encC c),.ag (encE n)]) (.tp [.ag (encG ({g with edges:=pre++post})),.sc (.int .i64 (0))]) ⟨Tryz.f151.ntmps,(Tryz.f151.body).getD .skip,[.cell 6 4 true,.tmp 7]⟩ (by kernel_rfl) (by kernel_rfl) rfl (by kernel_rfl) (by simp[Tryz.f151]) (calm_onE _ _ _) ?_ (by decide) b h;have hq:=edR_length g.edges;have hg:=edR_get g.edges;generalize N+3*D+8=M;generalize hP:(fun i=>(g.edges.take i).filter fun s=> !eqE c.a s)=P;have h0:P 0=[]:=by rw[←hP];rfl
 have hend:P g.edges.length=pre++post:=by rw[←hP];simp only[List.take_length];exact H.sp.filter
 have hstep:∀{i:Nat} {d:Ed},g.edges[i]?=some d→P (i+1)=P i++(if eqE c.a d then[]else[d]):=fun{i d} hc=>by
  rw[←hP];simp only[List.take_add_one,hc,Yn]
  congr 1
  cases hq:eqE c.a d<;>simp[hq]
 have hle:∀i,(P i).length≤g.edges.length:=fun i=>by rw[←hP];exact Ym (List.length_filter_le _ _) (by simp;omega)
 have hnl:=H.nl;clear hP;have hfin:AV.tp [.ag (encG {g with edges:=pre++post}),.sc (.int .i64 0)]= .tp [.ag [ndV g.nodes,.ls 5 (edR (P g.edges.length)) false,.sc (.int .i64 g.nn),.sc (.int .i64 g.ne)],.sc (.int .i64 0)]:=by rw[hend];rfl
 rw[hfin];simp[Tryz.f151,encE,encG,ndV,edV,encC,hk];have hcm:∀(i:Nat),∀r∈edR (P i),r.length=5∧r.all calm1=true:=fun i r hr=>by obtain⟨a,_,rfl⟩:=Yi.1 hr;exact⟨rfl,rfl⟩
 refine loop_up (C:=cx) (G:=fun r=>∃r0 h',finX _ (thenX _ _ (blockX _ r) _)=some (r0,h')∧∃r',snap h' 8 r0=some r'∧nfR r'=AV.tp [.ag [.ls 3 (ndR g.nodes) false,.ls 5 (edR (P g.edges.length)) false,.sc (.int .i64 g.nn),.sc (.int .i64 g.ne)],.sc (.int .i64 0)])
  (fun i s=>s.1.length=60∧gt s.1 3= .pt 0 0∧gt s.1 4= .pt 1 0∧gt s.1 6= .pt 3 0∧gt s.1 11= .sc (.int .i64 i)∧s.2[0]?=some (.row [.ls 3 (ndR g.nodes) false,.ls 5 (edR g.edges) false,.sc (.int .i64 g.nn),.sc (.int .i64 g.ne)])∧s.2[1]?=some (.row (encC c))∧s.2[3]?=some (.row [.sc (.slice none 0 0),.sc (.slice none 0 0),.sc (.int .i64 0),.sc (.int .i64 0)])∧∃y,gt s.1 10=y∧Bld s.2 5 (edR (P i)) y∧∀k n,y= .sl k 5 0 n false→3<k)
  (fun o s=>o= .exit 0∧s.1.length=60∧gt s.1 3= .pt 0 0∧gt s.1 6= .pt 3 0∧s.2[0]?=some (.row [.ls 3 (ndR g.nodes) false,.ls 5 (edR g.edges) false,.sc (.int .i64 g.nn),.sc (.int .i64 g.ne)])∧s.2[3]?=some (.row [.sc (.slice none 0 0),.sc (.slice none 0 0),.sc (.int .i64 0),.sc (.int .i64 0)])∧∃y,gt s.1 10=y∧Bld s.2 5 (edR (P g.edges.length)) y∧∀k n,y= .sl k 5 0 n false→3<k) g.edges.length (by simp;omega) (by simp[h0,Bld,edR,encC,hk]) ?_ ?_
 ·rintro i fr h hle' ⟨hlen,e3,e4,e6,e10,b0,b1,b3,y,e9,hy,hk3⟩;simp only at hlen e3 e4 e6 e10 b0 b1 b3 e9 hy;have hlenh:3<h.length:=(Za.1 b3).1;by_cases hi:i<g.edges.length
  ·obtain⟨d,hc⟩:∃d,g.edges[i]?=some d:=⟨_,Zb hi⟩;have hr:(edR g.edges)[i]?=some [.sc (.int .i64 d.id),.sc (.int .i64 d.src),.sc (.int .i64 d.dst),.sc (.string d.type),prV d.props false]:=by rw[hg,hc];rfl
   have hr':∀k,(edR g.edges)[i]'k=[.sc (.int .i64 d.id),.sc (.int .i64 d.src),.sc (.int .i64 d.dst),.sc (.string d.type),prV d.props false]:=fun k=>by obtain⟨_,e⟩:=Za.1 hr;exact e
   have hf:=fit_succ (i:=i) (by omega);have hst:=hstep hc;have hPl:=hle i;have hc1:=hcm i;generalize P i=p0 at hst hPl hy hc1;have q0:=fun(ops:Array Oper) (d:Tmp) (rest:List Oper) (fr:List AV) (h:Hp)=>opP_np (C:=cx) (cal:=callN cx M true) (ops:=ops) (fun v=>hy.np v) d rest fr h
   obtain⟨id,h2,a1,a2,a3,a4⟩:=bld_app' (t:=33) T_s_api_Edge rfl h [.sc (.int .i64 d.id),.sc (.int .i64 d.src),.sc (.int .i64 d.dst),.sc (.string d.type),prV d.props false] (edR p0) y hy rfl (fun r hr=>(hc1 r hr).1) (by omega) (by rw[edR_length];omega) (by omega);have w0:=a3 0 _ b0 (fun k n e=>by have:=hk3 k n e;omega);have w1:=a3 1 _ b1 (fun k n e=>by have:=hk3 k n e;omega);have w3:=a3 3 _ b3 (fun k n e=>by have:=hk3 k n e;omega);have a5:=bld_of (sz:=5) a2;rw[edR_length]at a1 a5;have e7:edR p0++[[.sc (.int .i64 d.id),.sc (.int .i64 d.src),.sc (.int .i64 d.dst),.sc (.string d.type),prV d.props false]]=edR (p0++[d]):=by simp[edR,encE]
   rw[e7]at a5;simp only[encC]at b1 w1⊢;by_cases heq:d.id=c.a
   ·simp[hlen,e3,e4,e6,e9,e10,q0,hst,b0,b1,b3,hi,hq,hr,hr',hf,heq,eqE];exact⟨hy,hk3⟩
   ·simp[hlen,e3,e4,e6,e9,e10,q0,hst,b0,b1,b3,hi,hq,hr,hr',hf,heq,eqE,a1,w0,w1,w3];exact⟨a5,by omega⟩
  ·have hil:i=g.edges.length:=by omega
   subst hil;simp[hlen,e3,e4,e6,e9,e10,b0,b1,b3,hi,hq];exact⟨hy,hk3⟩
 ·rintro o fr h hn ⟨rfl,hlen,e3,e6,b0,b3,y,e9,hy,hk3⟩;simp only at hlen e3 e6 b0 b3 e9 hy;have hlenh:3<h.length:=(Za.1 b3).1;have q0:=fun(ops:Array Oper) (d:Tmp) (rest:List Oper) (fr:List AV) (h:Hp)=>opP_np (C:=cx) (cal:=callN cx M true) (ops:=ops) (fun v=>hy.np v) d rest fr h
  have hcl:cls y=some [y]:=by rcases hy with⟨_,rfl⟩|⟨_,id,rfl,_⟩<;>rfl
  unfold cls at hcl;have s0:∀B,(h.set 0 B)[0]?=some B:=fun B=>Zj (by omega)
  have s3:∀B C,((h.set 0 B).set 3 C)[3]?=some C:=fun B C=>Zj (by simp;omega)
  have hsn:∀h2:Hp,(∀j,3<j→h2[j]?=h[j]?)→snap h2 6 y=some (bldV 5 (edR (P g.edges.length))):=fun h2 hj=>by
   refine bld_snap (by omega) (edR_all _).1 (edR_all _).2 ?_;rcases hy with hb|⟨hne,id,rfl,hid⟩
   ·exact .inl hb
   ·exact .inr ⟨hne,id,rfl,by rw[hj id (hk3 id _ rfl)];exact hid⟩
  simp[hlen,e3,e6,e9,q0,b0,b3,hcl,s0,s3];refine⟨_,_,⟨rfl,rfl⟩,_,snap_tpE (hsn _ fun j hj=>by simp[List.getElem?_set,show¬0=j by omega,show¬3=j by omega]),?_⟩;simp only[nfR,nfG,nfL_bld,nfL_ls,map_nfN,map_nfE]
end
end Go.Proofs.YtadaeokidcgdlaaGreatDoor
