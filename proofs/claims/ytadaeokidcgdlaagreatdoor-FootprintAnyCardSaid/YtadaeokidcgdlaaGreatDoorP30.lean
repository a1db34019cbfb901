/- A change of a valid graph: the reference's. -/
import Derived.Test.YtadaeokidcgdlaaGreatDoorP28
import Derived.Test.YtadaeokidcgdlaaGreatDoorP29
import Derived.Test.YtadaeokidcgdlaaGreatDoorP22
set_option linter.unusedSimpArgs false
set_option maxRecDepth 100000
namespace Go.Proofs.YtadaeokidcgdlaaGreatDoor
open Go Go.Ae
section
attribute [local simp] aop aopW coldF extF putA ofConst flat scalarOp fastOp binFast intOp strOp guardX Ae.part rowOf szOk natOf lenA cls fillA splice newsOf isNilC cellX
set_option maxHeartbeats 32000000
theorem calm_st (g:Gr)(c:Ch):[AV.ag (encG g),.ag (encC c)].all calm=true:=by
 have h1:=calm_encC c;rw[Zn,Zh]at h1;rw[Zn,Zn,h1.1];rfl
theorem nodeAt_spl {l pre mid post:List Nd}{x:Int}(h:Spl (ltN x) (eqN x) l pre mid post):nodeAt l x=mid.head?:=by
 rw[←h.find];unfold nodeAt
 congr 1
theorem edgeAt_spl {l pre mid post:List Ed}{x:Int}(h:Spl (ltE x) (eqE x) l pre mid post):edgeAt l x=mid.head?:=by
 rw[←h.find];unfold edgeAt
 congr 1
structure StB (D:Nat)(g:Gr)(c:Ch)(pn mn qn:List Nd)(pe me qe:List Ed):Prop where
 nl:g.nodes.length≤100000
 el:g.edges.length≤100000
 sn:Spl (ltN c.a) (eqN c.a) g.nodes pn mn qn
 se:Spl (ltE c.a) (eqE c.a) g.edges pe me qe
 rng:0≤c.a∧c.a≤1000000000
 hd:dep c.v≤D
 hv:bdV c.v
theorem r08_step_bad (N D:Nat)(b:Bool)(g:Gr)(c:Ch)(h:Hp)(hd:dep c.v≤D)(hv:bdV c.v)(he:¬changeE c=0):
 callN cx (N+3*D+10) b 85 [.ag (encG g),.ag (encC c)] h=some (.tp [.ag (encG (zeroG)),.sc (.int .i64 (changeE c))],h):=by
 refine pure_exN (f:=85) (n:=N+3*D+9) (args:=[.ag (encG g),.ag (encC c)]) (.tp [.ag (encG (zeroG)),.sc (.int .i64 (changeE c))]) ⟨Tryz.f85.ntmps,(Tryz.f85.body).getD .skip,[.cell 4 4 true,.tmp 5]⟩ (by kernel_rfl) (by kernel_rfl) rfl (by kernel_rfl) (by simp[Tryz.f85]) (calm_st _ _) ?_ (by decide) b h;have fC:=fun b h=>r08_Check (N:=N+1) (D:=D) b c h hd hv
 rw[show N+1+3*D+8=N+3*D+9 by omega]at fC;simp only[encC,Zv,Zw]at fC;generalize N+3*D+9=M at fC;generalize changeE c=e at fC he;simp[Tryz.f85,encG,encC,fC,he];exact⟨_,_,⟨rfl,rfl⟩,_,rfl,nfR_tp0 _⟩
theorem r08_step_1a (N D:Nat)(b:Bool)(g:Gr)(c:Ch)(pn mn qn:List Nd)(pe me qe:List Ed)(h:Hp)(H:StB D g c pn mn qn pe me qe)(he:changeE c=0)(hk:c.k=1)(n:Nd)(hmn:mn=[n])(o:Option Ed)(hme:me.head?=o):
 callN cx (N+3*D+10) b 85 [.ag (encG g),.ag (encC c)] h=some (.tp [.ag (encG (zeroG)),.sc (.int .i64 (7))],h):=by
 refine pure_exN (f:=85) (n:=N+3*D+9) (args:=[.ag (encG g),.ag (encC c)]) (.tp [.ag (encG (zeroG)),.sc (.int .i64 (7))]) ⟨Tryz.f85.ntmps,(Tryz.f85.body).getD .skip,[.cell 4 4 true,.tmp 5]⟩ (by kernel_rfl) (by kernel_rfl) rfl (by kernel_rfl) (by simp[Tryz.f85]) (calm_st _ _) ?_ (by decide) b h;have fC:=fun b h=>r08_Check (N:=N+1) (D:=D) b c h H.hd H.hv
 have fN:=fun b x h=>r07_Node (N+3*D+8) b g x h (Ym H.nl (by omega))
 have fE:=fun b x h=>r07_Edge (N+3*D+8) b g x h (Ym H.el (by omega))
 have fN1:=fun b h=>fN b c.a h
 have fE1:=fun b h=>fE b c.a h
 rw[nodeAt_spl H.sn]at fN1;rw[edgeAt_spl H.se]at fE1;rw[show N+1+3*D+8=N+3*D+9 by omega]at fC;simp only[he,hk,encC,Zv,Zw]at fC;simp only[hmn,hme,List.head?_cons,Option.isSome_some,ndC,encN,encE,encG,ndV,edV,tsV,prV]at fN1 fE1;generalize N+3*D+9=M at fC fN1 fE1;cases o with
 |
  none=>
  simp only[edC,Option.isSome_none]at fE1;simp[Tryz.f85,encN,encE,encG,ndV,edV,tsV,prV,encC,fC,fN1,fE1,hk];exact⟨_,_,⟨rfl,rfl⟩,_,rfl,nfR_tp0 _⟩
 |
  some e=>
  simp only[edC,Option.isSome_some,encN,encE,encG,ndV,edV,tsV,prV]at fE1;simp[Tryz.f85,encN,encE,encG,ndV,edV,tsV,prV,encC,fC,fN1,fE1,hk];exact⟨_,_,⟨rfl,rfl⟩,_,rfl,nfR_tp0 _⟩
theorem r08_step_1b (N D:Nat)(b:Bool)(g:Gr)(c:Ch)(pn mn qn:List Nd)(pe me qe:List Ed)(h:Hp)(H:StB D g c pn mn qn pe me qe)(he:changeE c=0)(hk:c.k=1)(hmn:mn=[])(hl:2000≤g.nodes.length):
 callN cx (N+3*D+10) b 85 [.ag (encG g),.ag (encC c)] h=some (.tp [.ag (encG (zeroG)),.sc (.int .i64 (20))],h):=by
 refine pure_exN (f:=85) (n:=N+3*D+9) (args:=[.ag (encG g),.ag (encC c)]) (.tp [.ag (encG (zeroG)),.sc (.int .i64 (20))]) ⟨Tryz.f85.ntmps,(Tryz.f85.body).getD .skip,[.cell 4 4 true,.tmp 5]⟩ (by kernel_rfl) (by kernel_rfl) rfl (by kernel_rfl) (by simp[Tryz.f85]) (calm_st _ _) ?_ (by decide) b h;have fC:=fun b h=>r08_Check (N:=N+1) (D:=D) b c h H.hd H.hv
 have fN:=fun b x h=>r07_Node (N+3*D+8) b g x h (Ym H.nl (by omega))
 have fE:=fun b x h=>r07_Edge (N+3*D+8) b g x h (Ym H.el (by omega))
 have fN1:=fun b h=>fN b c.a h
 have fE1:=fun b h=>fE b c.a h
 rw[nodeAt_spl H.sn]at fN1;rw[edgeAt_spl H.se]at fE1;rw[show N+1+3*D+8=N+3*D+9 by omega]at fC;simp only[he,hk,encC,Zv,Zw]at fC;simp only[hmn,List.head?_nil,Option.isSome_none,ndC,encN,encE,encG,ndV,edV,tsV,prV]at fN1;have hq:=ndR_length g.nodes;generalize N+3*D+9=M at fC fN1 fE1;have hl':(2000:Int)≤g.nodes.length:=by omega
 cases ho:me.head? with
 |
  none=>
  simp only[ho,edC,Option.isSome_none,encN,encE,encG,ndV,edV,tsV,prV]at fE1;simp[Tryz.f85,encN,encE,encG,ndV,edV,tsV,prV,encC,fC,fN1,fE1,hk,hq,hl,hl'];exact⟨_,_,⟨rfl,rfl⟩,_,rfl,nfR_tp0 _⟩
 |
  some e=>
  simp only[ho,edC,Option.isSome_some,encN,encE,encG,ndV,edV,tsV,prV]at fE1;simp[Tryz.f85,encN,encE,encG,ndV,edV,tsV,prV,encC,fC,fN1,fE1,hk,hq,hl,hl'];exact⟨_,_,⟨rfl,rfl⟩,_,rfl,nfR_tp0 _⟩
theorem r08_step_1c (N D:Nat)(b:Bool)(g:Gr)(c:Ch)(pn mn qn:List Nd)(pe me qe:List Ed)(h:Hp)(H:StB D g c pn mn qn pe me qe)(he:changeE c=0)(hk:c.k=1)(hmn:mn=[])(hl:g.nodes.length<2000):
 callN cx (N+3*D+10) b 85 [.ag (encG g),.ag (encC c)] h=some (.tp [.ag (encG (putG g pn qn ⟨c.a,[],[]⟩)),.sc (.int .i64 (0))],h):=by
 refine pure_exN (f:=85) (n:=N+3*D+9) (args:=[.ag (encG g),.ag (encC c)]) (.tp [.ag (encG (putG g pn qn ⟨c.a,[],[]⟩)),.sc (.int .i64 (0))]) ⟨Tryz.f85.ntmps,(Tryz.f85.body).getD .skip,[.cell 4 4 true,.tmp 5]⟩ (by kernel_rfl) (by kernel_rfl) rfl (by kernel_rfl) (by simp[Tryz.f85]) (calm_st _ _) ?_ (by decide) b h;have fC:=fun b h=>r08_Check (N:=N+1) (D:=D) b c h H.hd H.hv
 have fN:=fun b x h=>r07_Node (N+3*D+8) b g x h (Ym H.nl (by omega))
 have fE:=fun b x h=>r07_Edge (N+3*D+8) b g x h (Ym H.el (by omega))
 have fN1:=fun b h=>fN b c.a h
 have fE1:=fun b h=>fE b c.a h
 rw[nodeAt_spl H.sn]at fN1;rw[edgeAt_spl H.se]at fE1;rw[show N+1+3*D+8=N+3*D+9 by omega]at fC;simp only[he,hk,encC,Zv,Zw]at fC;simp only[hmn,List.head?_nil,Option.isSome_none,ndC,encN,encE,encG,ndV,edV,tsV,prV]at fN1;have hq:=ndR_length g.nodes;have f9:=fun b h=>r08_putNode (N+3*D+8) b g c.a (.sc (.slice none 0 0)) (.sc (.slice none 0 0)) ⟨c.a,[],[]⟩ pn [] qn h H.nl rfl rfl rfl (by have:=H.sn;rw[hmn]at this;exact this) H.rng
 simp only[encN,encE,encG,ndV,edV,tsV,prV]at f9;generalize N+3*D+9=M at fC fN1 fE1 f9;have hl':¬(2000:Int)≤g.nodes.length:=by omega
 cases ho:me.head? with
 |
  none=>
  simp only[ho,edC,Option.isSome_none,encN,encE,encG,ndV,edV,tsV,prV]at fE1;simp[Tryz.f85,encN,encE,encG,ndV,edV,tsV,prV,encC,fC,fN1,fE1,hk,hq,hl,hl',f9];exact⟨_,_,⟨rfl,rfl⟩,_,rfl,nfR_tpG (putG g pn qn ⟨c.a,[],[]⟩) _⟩
 |
  some e=>
  simp only[ho,edC,Option.isSome_some,encN,encE,encG,ndV,edV,tsV,prV]at fE1;simp[Tryz.f85,encN,encE,encG,ndV,edV,tsV,prV,encC,fC,fN1,fE1,hk,hq,hl,hl',f9];exact⟨_,_,⟨rfl,rfl⟩,_,rfl,nfR_tpG (putG g pn qn ⟨c.a,[],[]⟩) _⟩
theorem r08_step_n0 (N D:Nat)(b:Bool)(g:Gr)(c:Ch)(pn mn qn:List Nd)(pe me qe:List Ed)(h:Hp)(H:StB D g c pn mn qn pe me qe)(he:changeE c=0)(h1:¬c.k=1)(h6:¬c.k=6)(h7:¬c.k=7)(h8:¬c.k=8)(hmn:mn=[]):
 callN cx (N+3*D+10) b 85 [.ag (encG g),.ag (encC c)] h=some (.tp [.ag (encG (zeroG)),.sc (.int .i64 (10))],h):=by
 refine pure_exN (f:=85) (n:=N+3*D+9) (args:=[.ag (encG g),.ag (encC c)]) (.tp [.ag (encG (zeroG)),.sc (.int .i64 (10))]) ⟨Tryz.f85.ntmps,(Tryz.f85.body).getD .skip,[.cell 4 4 true,.tmp 5]⟩ (by kernel_rfl) (by kernel_rfl) rfl (by kernel_rfl) (by simp[Tryz.f85]) (calm_st _ _) ?_ (by decide) b h;have fC:=fun b h=>r08_Check (N:=N+1) (D:=D) b c h H.hd H.hv
 have fN:=fun b x h=>r07_Node (N+3*D+8) b g x h (Ym H.nl (by omega))
 have fE:=fun b x h=>r07_Edge (N+3*D+8) b g x h (Ym H.el (by omega))
 have fN1:=fun b h=>fN b c.a h
 have fE1:=fun b h=>fE b c.a h
 rw[nodeAt_spl H.sn]at fN1;rw[edgeAt_spl H.se]at fE1;rw[show N+1+3*D+8=N+3*D+9 by omega]at fC;simp only[he,encC,Zv,Zw]at fC;simp only[hmn,List.head?_nil,Option.isSome_none,ndC,encN,encE,encG,ndV,edV,tsV,prV]at fN1;generalize N+3*D+9=M at fC fN1 fE1;cases ho:me.head? with
 |
  none=>
  simp only[ho,edC,Option.isSome_none,encN,encE,encG,ndV,edV,tsV,prV]at fE1;simp[Tryz.f85,encN,encE,encG,ndV,edV,tsV,prV,encC,fC,fN1,fE1,h1,h6,h7,h8];exact⟨_,_,⟨rfl,rfl⟩,_,rfl,nfR_tp0 _⟩
 |
  some e=>
  simp only[ho,edC,Option.isSome_some,encN,encE,encG,ndV,edV,tsV,prV]at fE1;simp[Tryz.f85,encN,encE,encG,ndV,edV,tsV,prV,encC,fC,fN1,fE1,h1,h6,h7,h8];exact⟨_,_,⟨rfl,rfl⟩,_,rfl,nfR_tp0 _⟩
theorem r08_step_n1 (N D:Nat)(b:Bool)(g:Gr)(c:Ch)(pn mn qn:List Nd)(pe me qe:List Ed)(h:Hp)(H:StB D g c pn mn qn pe me qe)(he:changeE c=0)(h1:¬c.k=1)(h6:¬c.k=6)(h7:¬c.k=7)(h8:¬c.k=8)(n:Nd)(hmn:mn=[n])(G:Gr)(E:Int)(hon:∀b h,callN cx (N+3*D+9) b 152 [.ag (encG g),.ag (encC c),.ag (encN n)] h=some (.tp [.ag (encG G),.sc (.int .i64 E)],h)):
 callN cx (N+3*D+10) b 85 [.ag (encG g),.ag (encC c)] h=some (.tp [.ag (encG (G)),.sc (.int .i64 (E))],h):=by
 refine pure_exN (f:=85) (n:=N+3*D+9) (args:=[.ag (encG g),.ag (encC c)]) (.tp [.ag (encG (G)),.sc (.int .i64 (E))]) ⟨Tryz.f85.ntmps,(Tryz.f85.body).getD .skip,[.cell 4 4 true,.tmp 5]⟩ (by kernel_rfl) (by kernel_rfl) rfl (by kernel_rfl) (by simp[Tryz.f85]) (calm_st _ _) ?_ (by decide) b h;have fC:=fun b h=>r08_Check (N:=N+1) (D:=D) b c h H.hd H.hv
 have fN:=fun b x h=>r07_Node (N+3*D+8) b g x h (Ym H.nl (by omega))
 have fE:=fun b x h=>r07_Edge (N+3*D+8) b g x h (Ym H.el (by omega))
 have fN1:=fun b h=>fN b c.a h
 have fE1:=fun b h=>fE b c.a h
 rw[nodeAt_spl H.sn]at fN1;rw[edgeAt_spl H.se]at fE1;rw[show N+1+3*D+8=N+3*D+9 by omega]at fC;simp only[he,encC,Zv,Zw]at fC;simp only[hmn,List.head?_cons,Option.isSome_some,ndC,encN,encE,encG,ndV,edV,tsV,prV]at fN1;simp only[encC,Zv,Zw,encN,encE,encG,ndV,edV,tsV,prV]at hon;generalize N+3*D+9=M at fC fN1 fE1 hon;cases ho:me.head? with
 |
  none=>
  simp only[ho,edC,Option.isSome_none,encN,encE,encG,ndV,edV,tsV,prV]at fE1;simp[Tryz.f85,encN,encE,encG,ndV,edV,tsV,prV,encC,fC,fN1,fE1,h1,h6,h7,h8,hon];exact⟨_,_,⟨rfl,rfl⟩,_,rfl,nfR_tpG G _⟩
 |
  some e=>
  simp only[ho,edC,Option.isSome_some,encN,encE,encG,ndV,edV,tsV,prV]at fE1;simp[Tryz.f85,encN,encE,encG,ndV,edV,tsV,prV,encC,fC,fN1,fE1,h1,h6,h7,h8,hon];exact⟨_,_,⟨rfl,rfl⟩,_,rfl,nfR_tpG G _⟩
theorem r08_step_e0_7 (N D:Nat)(b:Bool)(g:Gr)(c:Ch)(pn mn qn:List Nd)(pe me qe:List Ed)(h:Hp)(H:StB D g c pn mn qn pe me qe)(he:changeE c=0)(hk:c.k=7)(hme:me=[]):
 callN cx (N+3*D+10) b 85 [.ag (encG g),.ag (encC c)] h=some (.tp [.ag (encG (zeroG)),.sc (.int .i64 (11))],h):=by
 refine pure_exN (f:=85) (n:=N+3*D+9) (args:=[.ag (encG g),.ag (encC c)]) (.tp [.ag (encG (zeroG)),.sc (.int .i64 (11))]) ⟨Tryz.f85.ntmps,(Tryz.f85.body).getD .skip,[.cell 4 4 true,.tmp 5]⟩ (by kernel_rfl) (by kernel_rfl) rfl (by kernel_rfl) (by simp[Tryz.f85]) (calm_st _ _) ?_ (by decide) b h;have fC:=fun b h=>r08_Check (N:=N+1) (D:=D) b c h H.hd H.hv
 have fN:=fun b x h=>r07_Node (N+3*D+8) b g x h (Ym H.nl (by omega))
 have fE:=fun b x h=>r07_Edge (N+3*D+8) b g x h (Ym H.el (by omega))
 have fN1:=fun b h=>fN b c.a h
 have fE1:=fun b h=>fE b c.a h
 rw[nodeAt_spl H.sn]at fN1;rw[edgeAt_spl H.se]at fE1;rw[show N+1+3*D+8=N+3*D+9 by omega]at fC;simp only[he,hk,encC,Zv,Zw]at fC;simp only[hme,List.head?_nil,Option.isSome_none,edC,encN,encE,encG,ndV,edV,tsV,prV]at fE1;generalize N+3*D+9=M at fC fN1 fE1;cases ho:mn.head? with
 |
  none=>
  simp only[ho,ndC,Option.isSome_none,encN,encE,encG,ndV,edV,tsV,prV]at fN1;simp[Tryz.f85,encN,encE,encG,ndV,edV,tsV,prV,encC,fC,fN1,fE1,hk];exact⟨_,_,⟨rfl,rfl⟩,_,rfl,nfR_tp0 _⟩
 |
  some nn=>
  simp only[ho,ndC,Option.isSome_some,encN,encE,encG,ndV,edV,tsV,prV]at fN1;simp[Tryz.f85,encN,encE,encG,ndV,edV,tsV,prV,encC,fC,fN1,fE1,hk];exact⟨_,_,⟨rfl,rfl⟩,_,rfl,nfR_tp0 _⟩
theorem r08_step_e1_7 (N D:Nat)(b:Bool)(g:Gr)(c:Ch)(pn mn qn:List Nd)(pe me qe:List Ed)(h:Hp)(H:StB D g c pn mn qn pe me qe)(he:changeE c=0)(hk:c.k=7)(n:Ed)(hme:me=[n])(G:Gr)(E:Int)(hon:∀b h,callN cx (N+3*D+9) b 151 [.ag (encG g),.ag (encC c),.ag (encE n)] h=some (.tp [.ag (encG G),.sc (.int .i64 E)],h)):
 callN cx (N+3*D+10) b 85 [.ag (encG g),.ag (encC c)] h=some (.tp [.ag (encG (G)),.sc (.int .i64 (E))],h):=by
 refine pure_exN (f:=85) (n:=N+3*D+9) (args:=[.ag (encG g),.ag (encC c)]) (.tp [.ag (encG (G)),.sc (.int .i64 (E))]) ⟨Tryz.f85.ntmps,(Tryz.f85.body).getD .skip,[.cell 4 4 true,.tmp 5]⟩ (by kernel_rfl) (by kernel_rfl) rfl (by kernel_rfl) (by simp[Tryz.f85]) (calm_st _ _) ?_ (by decide) b h;have fC:=fun b h=>r08_Check (N:=N+1) (D:=D) b c h H.hd H.hv
 have fN:=fun b x h=>r07_Node (N+3*D+8) b g x h (Ym H.nl (by omega))
 have fE:=fun b x h=>r07_Edge (N+3*D+8) b g x h (Ym H.el (by omega))
 have fN1:=fun b h=>fN b c.a h
 have fE1:=fun b h=>fE b c.a h
 rw[nodeAt_spl H.sn]at fN1;rw[edgeAt_spl H.se]at fE1;rw[show N+1+3*D+8=N+3*D+9 by omega]at fC;simp only[he,hk,encC,Zv,Zw]at fC;simp only[hme,List.head?_cons,Option.isSome_some,edC,encN,encE,encG,ndV,edV,tsV,prV]at fE1;simp only[hk,encC,Zv,Zw,encN,encE,encG,ndV,edV,tsV,prV]at hon;generalize N+3*D+9=M at fC fN1 fE1 hon;cases ho:mn.head? with
 |
  none=>
  simp only[ho,ndC,Option.isSome_none,encN,encE,encG,ndV,edV,tsV,prV]at fN1;simp[Tryz.f85,encN,encE,encG,ndV,edV,tsV,prV,encC,fC,fN1,fE1,hk,hon];exact⟨_,_,⟨rfl,rfl⟩,_,rfl,nfR_tpG G _⟩
 |
  some nn=>
  simp only[ho,ndC,Option.isSome_some,encN,encE,encG,ndV,edV,tsV,prV]at fN1;simp[Tryz.f85,encN,encE,encG,ndV,edV,tsV,prV,encC,fC,fN1,fE1,hk,hon];exact⟨_,_,⟨rfl,rfl⟩,_,rfl,nfR_tpG G _⟩
theorem r08_step_e0_8 (N D:Nat)(b:Bool)(g:Gr)(c:Ch)(pn mn qn:List Nd)(pe me qe:List Ed)(h:Hp)(H:StB D g c pn mn qn pe me qe)(he:changeE c=0)(hk:c.k=8)(hme:me=[]):
 callN cx (N+3*D+10) b 85 [.ag (encG g),.ag (encC c)] h=some (.tp [.ag (encG (zeroG)),.sc (.int .i64 (11))],h):=by
 refine pure_exN (f:=85) (n:=N+3*D+9) (args:=[.ag (encG g),.ag (encC c)]) (.tp [.ag (encG (zeroG)),.sc (.int .i64 (11))]) ⟨Tryz.f85.ntmps,(Tryz.f85.body).getD .skip,[.cell 4 4 true,.tmp 5]⟩ (by kernel_rfl) (by kernel_rfl) rfl (by kernel_rfl) (by simp[Tryz.f85]) (calm_st _ _) ?_ (by decide) b h;have fC:=fun b h=>r08_Check (N:=N+1) (D:=D) b c h H.hd H.hv
 have fN:=fun b x h=>r07_Node (N+3*D+8) b g x h (Ym H.nl (by omega))
 have fE:=fun b x h=>r07_Edge (N+3*D+8) b g x h (Ym H.el (by omega))
 have fN1:=fun b h=>fN b c.a h
 have fE1:=fun b h=>fE b c.a h
 rw[nodeAt_spl H.sn]at fN1;rw[edgeAt_spl H.se]at fE1;rw[show N+1+3*D+8=N+3*D+9 by omega]at fC;simp only[he,hk,encC,Zv,Zw]at fC;simp only[hme,List.head?_nil,Option.isSome_none,edC,encN,encE,encG,ndV,edV,tsV,prV]at fE1;generalize N+3*D+9=M at fC fN1 fE1;cases ho:mn.head? with
 |
  none=>
  simp only[ho,ndC,Option.isSome_none,encN,encE,encG,ndV,edV,tsV,prV]at fN1;simp[Tryz.f85,encN,encE,encG,ndV,edV,tsV,prV,encC,fC,fN1,fE1,hk];exact⟨_,_,⟨rfl,rfl⟩,_,rfl,nfR_tp0 _⟩
 |
  some nn=>
  simp only[ho,ndC,Option.isSome_some,encN,encE,encG,ndV,edV,tsV,prV]at fN1;simp[Tryz.f85,encN,encE,encG,ndV,edV,tsV,prV,encC,fC,fN1,fE1,hk];exact⟨_,_,⟨rfl,rfl⟩,_,rfl,nfR_tp0 _⟩
theorem r08_step_e1_8 (N D:Nat)(b:Bool)(g:Gr)(c:Ch)(pn mn qn:List Nd)(pe me qe:List Ed)(h:Hp)(H:StB D g c pn mn qn pe me qe)(he:changeE c=0)(hk:c.k=8)(n:Ed)(hme:me=[n])(G:Gr)(E:Int)(hon:∀b h,callN cx (N+3*D+9) b 151 [.ag (encG g),.ag (encC c),.ag (encE n)] h=some (.tp [.ag (encG G),.sc (.int .i64 E)],h)):
 callN cx (N+3*D+10) b 85 [.ag (encG g),.ag (encC c)] h=some (.tp [.ag (encG (G)),.sc (.int .i64 (E))],h):=by
 refine pure_exN (f:=85) (n:=N+3*D+9) (args:=[.ag (encG g),.ag (encC c)]) (.tp [.ag (encG (G)),.sc (.int .i64 (E))]) ⟨Tryz.f85.ntmps,(Tryz.f85.body).getD .skip,[.cell 4 4 true,.tmp 5]⟩ (by kernel_rfl) (by kernel_rfl) rfl (by kernel_rfl) (by simp[Tryz.f85]) (calm_st _ _) ?_ (by decide) b h;have fC:=fun b h=>r08_Check (N:=N+1) (D:=D) b c h H.hd H.hv
 have fN:=fun b x h=>r07_Node (N+3*D+8) b g x h (Ym H.nl (by omega))
 have fE:=fun b x h=>r07_Edge (N+3*D+8) b g x h (Ym H.el (by omega))
 have fN1:=fun b h=>fN b c.a h
 have fE1:=fun b h=>fE b c.a h
 rw[nodeAt_spl H.sn]at fN1;rw[edgeAt_spl H.se]at fE1;rw[show N+1+3*D+8=N+3*D+9 by omega]at fC;simp only[he,hk,encC,Zv,Zw]at fC;simp only[hme,List.head?_cons,Option.isSome_some,edC,encN,encE,encG,ndV,edV,tsV,prV]at fE1;simp only[hk,encC,Zv,Zw,encN,encE,encG,ndV,edV,tsV,prV]at hon;generalize N+3*D+9=M at fC fN1 fE1 hon;cases ho:mn.head? with
 |
  none=>
  simp only[ho,ndC,Option.isSome_none,encN,encE,encG,ndV,edV,tsV,prV]at fN1;simp[Tryz.f85,encN,encE,encG,ndV,edV,tsV,prV,encC,fC,fN1,fE1,hk,hon];exact⟨_,_,⟨rfl,rfl⟩,_,rfl,nfR_tpG G _⟩
 |
  some nn=>
  simp only[ho,ndC,Option.isSome_some,encN,encE,encG,ndV,edV,tsV,prV]at fN1;simp[Tryz.f85,encN,encE,encG,ndV,edV,tsV,prV,encC,fC,fN1,fE1,hk,hon];exact⟨_,_,⟨rfl,rfl⟩,_,rfl,nfR_tpG G _⟩
theorem r08_step_6a (N D:Nat)(b:Bool)(g:Gr)(c:Ch)(pn mn qn:List Nd)(pe me qe:List Ed)(h:Hp)(H:StB D g c pn mn qn pe me qe)(he:changeE c=0)(hk:c.k=6)(n:Ed)(hme:me=[n]):
 callN cx (N+3*D+10) b 85 [.ag (encG g),.ag (encC c)] h=some (.tp [.ag (encG (zeroG)),.sc (.int .i64 (7))],h):=by
 refine pure_exN (f:=85) (n:=N+3*D+9) (args:=[.ag (encG g),.ag (encC c)]) (.tp [.ag (encG (zeroG)),.sc (.int .i64 (7))]) ⟨Tryz.f85.ntmps,(Tryz.f85.body).getD .skip,[.cell 4 4 true,.tmp 5]⟩ (by kernel_rfl) (by kernel_rfl) rfl (by kernel_rfl) (by simp[Tryz.f85]) (calm_st _ _) ?_ (by decide) b h;have fC:=fun b h=>r08_Check (N:=N+1) (D:=D) b c h H.hd H.hv
 have fN:=fun b x h=>r07_Node (N+3*D+8) b g x h (Ym H.nl (by omega))
 have fE:=fun b x h=>r07_Edge (N+3*D+8) b g x h (Ym H.el (by omega))
 have fN1:=fun b h=>fN b c.a h
 have fE1:=fun b h=>fE b c.a h
 rw[nodeAt_spl H.sn]at fN1;rw[edgeAt_spl H.se]at fE1;rw[show N+1+3*D+8=N+3*D+9 by omega]at fC;simp only[he,hk,encC,Zv,Zw]at fC;have fN2:=fun b h=>fN b c.b h
 have fN3:=fun b h=>fN b c.c h
 have HB:True=True:=rfl;simp only[hme,List.head?_cons,Option.isSome_some,edC,encN,encE,encG,ndV,edV,tsV,prV]at fE1;generalize N+3*D+9=M at fC fN1 fE1 fN2 fN3 fN fE;clear fN fE;generalize mn.head?=oa at fN1 HB;generalize nodeAt g.nodes c.b=ob at fN2 HB;generalize nodeAt g.nodes c.c=oc at fN3 HB;rcases oa with _|na<;>rcases ob with _|nb<;>rcases oc with _|nc<;>simp only[ndC,Option.isSome_some,Option.isSome_none,encN,encE,encG,ndV,edV,tsV,prV]at fN1 fN2 fN3 HB<;>first|(exfalso;revert HB;decide)|skip
 all_goals (simp[Tryz.f85,encN,encE,encG,ndV,edV,tsV,prV,encC,fC,fN1,fE1,hk,fN2,fN3];exact⟨_,_,⟨rfl,rfl⟩,_,rfl,nfR_tp0 _⟩)
theorem r08_step_6b (N D:Nat)(b:Bool)(g:Gr)(c:Ch)(pn mn qn:List Nd)(pe me qe:List Ed)(h:Hp)(H:StB D g c pn mn qn pe me qe)(he:changeE c=0)(hk:c.k=6)(hme:me=[])(HB:((nodeAt g.nodes c.b).isSome && (nodeAt g.nodes c.c).isSome)=false):
 callN cx (N+3*D+10) b 85 [.ag (encG g),.ag (encC c)] h=some (.tp [.ag (encG (zeroG)),.sc (.int .i64 (10))],h):=by
 refine pure_exN (f:=85) (n:=N+3*D+9) (args:=[.ag (encG g),.ag (encC c)]) (.tp [.ag (encG (zeroG)),.sc (.int .i64 (10))]) ⟨Tryz.f85.ntmps,(Tryz.f85.body).getD .skip,[.cell 4 4 true,.tmp 5]⟩ (by kernel_rfl) (by kernel_rfl) rfl (by kernel_rfl) (by simp[Tryz.f85]) (calm_st _ _) ?_ (by decide) b h;have fC:=fun b h=>r08_Check (N:=N+1) (D:=D) b c h H.hd H.hv
 have fN:=fun b x h=>r07_Node (N+3*D+8) b g x h (Ym H.nl (by omega))
 have fE:=fun b x h=>r07_Edge (N+3*D+8) b g x h (Ym H.el (by omega))
 have fN1:=fun b h=>fN b c.a h
 have fE1:=fun b h=>fE b c.a h
 rw[nodeAt_spl H.sn]at fN1;rw[edgeAt_spl H.se]at fE1;rw[show N+1+3*D+8=N+3*D+9 by omega]at fC;simp only[he,hk,encC,Zv,Zw]at fC;have fN2:=fun b h=>fN b c.b h
 have fN3:=fun b h=>fN b c.c h
 simp only[hme,List.head?_nil,Option.isSome_none,edC,encN,encE,encG,ndV,edV,tsV,prV]at fE1;generalize N+3*D+9=M at fC fN1 fE1 fN2 fN3 fN fE;clear fN fE;generalize mn.head?=oa at fN1 HB;generalize nodeAt g.nodes c.b=ob at fN2 HB;generalize nodeAt g.nodes c.c=oc at fN3 HB;rcases oa with _|na<;>rcases ob with _|nb<;>rcases oc with _|nc<;>simp only[ndC,Option.isSome_some,Option.isSome_none,encN,encE,encG,ndV,edV,tsV,prV]at fN1 fN2 fN3 HB<;>first|(exfalso;revert HB;decide)|skip
 all_goals (simp[Tryz.f85,encN,encE,encG,ndV,edV,tsV,prV,encC,fC,fN1,fE1,hk,fN2,fN3];exact⟨_,_,⟨rfl,rfl⟩,_,rfl,nfR_tp0 _⟩)
theorem r08_step_6c (N D:Nat)(b:Bool)(g:Gr)(c:Ch)(pn mn qn:List Nd)(pe me qe:List Ed)(h:Hp)(H:StB D g c pn mn qn pe me qe)(he:changeE c=0)(hk:c.k=6)(hme:me=[])(HB:((nodeAt g.nodes c.b).isSome && (nodeAt g.nodes c.c).isSome)=true)(hl:4000≤g.edges.length):
 callN cx (N+3*D+10) b 85 [.ag (encG g),.ag (encC c)] h=some (.tp [.ag (encG (zeroG)),.sc (.int .i64 (20))],h):=by
 refine pure_exN (f:=85) (n:=N+3*D+9) (args:=[.ag (encG g),.ag (encC c)]) (.tp [.ag (encG (zeroG)),.sc (.int .i64 (20))]) ⟨Tryz.f85.ntmps,(Tryz.f85.body).getD .skip,[.cell 4 4 true,.tmp 5]⟩ (by kernel_rfl) (by kernel_rfl) rfl (by kernel_rfl) (by simp[Tryz.f85]) (calm_st _ _) ?_ (by decide) b h;have fC:=fun b h=>r08_Check (N:=N+1) (D:=D) b c h H.hd H.hv
 have fN:=fun b x h=>r07_Node (N+3*D+8) b g x h (Ym H.nl (by omega))
 have fE:=fun b x h=>r07_Edge (N+3*D+8) b g x h (Ym H.el (by omega))
 have fN1:=fun b h=>fN b c.a h
 have fE1:=fun b h=>fE b c.a h
 rw[nodeAt_spl H.sn]at fN1;rw[edgeAt_spl H.se]at fE1;rw[show N+1+3*D+8=N+3*D+9 by omega]at fC;simp only[he,hk,encC,Zv,Zw]at fC;have fN2:=fun b h=>fN b c.b h
 have fN3:=fun b h=>fN b c.c h
 have hq:=edR_length g.edges;have hl':(4000:Int)≤g.edges.length:=by omega
 simp only[hme,List.head?_nil,Option.isSome_none,edC,encN,encE,encG,ndV,edV,tsV,prV]at fE1;generalize N+3*D+9=M at fC fN1 fE1 fN2 fN3 fN fE;clear fN fE;generalize mn.head?=oa at fN1 HB;generalize nodeAt g.nodes c.b=ob at fN2 HB;generalize nodeAt g.nodes c.c=oc at fN3 HB;rcases oa with _|na<;>rcases ob with _|nb<;>rcases oc with _|nc<;>simp only[ndC,Option.isSome_some,Option.isSome_none,encN,encE,encG,ndV,edV,tsV,prV]at fN1 fN2 fN3 HB<;>first|(exfalso;revert HB;decide)|skip
 all_goals (simp[Tryz.f85,encN,encE,encG,ndV,edV,tsV,prV,encC,fC,fN1,fE1,hk,fN2,fN3,hq,hl,hl'];exact⟨_,_,⟨rfl,rfl⟩,_,rfl,nfR_tp0 _⟩)
theorem r08_step_6d (N D:Nat)(b:Bool)(g:Gr)(c:Ch)(pn mn qn:List Nd)(pe me qe:List Ed)(h:Hp)(H:StB D g c pn mn qn pe me qe)(he:changeE c=0)(hk:c.k=6)(hme:me=[])(HB:((nodeAt g.nodes c.b).isSome && (nodeAt g.nodes c.c).isSome)=true)(hl:g.edges.length<4000):
 callN cx (N+3*D+10) b 85 [.ag (encG g),.ag (encC c)] h=some (.tp [.ag (encG (putGE g pe qe ⟨c.a,c.b,c.c,c.name,[]⟩)),.sc (.int .i64 (0))],h):=by
 refine pure_exN (f:=85) (n:=N+3*D+9) (args:=[.ag (encG g),.ag (encC c)]) (.tp [.ag (encG (putGE g pe qe ⟨c.a,c.b,c.c,c.name,[]⟩)),.sc (.int .i64 (0))]) ⟨Tryz.f85.ntmps,(Tryz.f85.body).getD .skip,[.cell 4 4 true,.tmp 5]⟩ (by kernel_rfl) (by kernel_rfl) rfl (by kernel_rfl) (by simp[Tryz.f85]) (calm_st _ _) ?_ (by decide) b h;have fC:=fun b h=>r08_Check (N:=N+1) (D:=D) b c h H.hd H.hv
 have fN:=fun b x h=>r07_Node (N+3*D+8) b g x h (Ym H.nl (by omega))
 have fE:=fun b x h=>r07_Edge (N+3*D+8) b g x h (Ym H.el (by omega))
 have fN1:=fun b h=>fN b c.a h
 have fE1:=fun b h=>fE b c.a h
 rw[nodeAt_spl H.sn]at fN1;rw[edgeAt_spl H.se]at fE1;rw[show N+1+3*D+8=N+3*D+9 by omega]at fC;simp only[he,hk,encC,Zv,Zw]at fC;have fN2:=fun b h=>fN b c.b h
 have fN3:=fun b h=>fN b c.c h
 have hq:=edR_length g.edges;have hl':¬(4000:Int)≤g.edges.length:=by omega
 simp only[hme,List.head?_nil,Option.isSome_none,edC,encN,encE,encG,ndV,edV,tsV,prV]at fE1;have f9:=fun b h=>r08_putEdge (N+3*D+8) b g c.a c.b c.c c.name (.sc (.slice none 0 0)) ⟨c.a,c.b,c.c,c.name,[]⟩ pe [] qe h H.el rfl rfl (by have:=H.se;rw[hme]at this;exact this) H.rng
 simp only[encN,encE,encG,ndV,edV,tsV,prV]at f9;generalize N+3*D+9=M at fC fN1 fE1 fN2 fN3 fN fE f9;clear fN fE;generalize mn.head?=oa at fN1 HB;generalize nodeAt g.nodes c.b=ob at fN2 HB;generalize nodeAt g.nodes c.c=oc at fN3 HB;rcases oa with _|na<;>rcases ob with _|nb<;>rcases oc with _|nc<;>simp only[ndC,Option.isSome_some,Option.isSome_none,encN,encE,encG,ndV,edV,tsV,prV]at fN1 fN2 fN3 HB<;>first|(exfalso;revert HB;decide)|skip
 all_goals (simp[Tryz.f85,encN,encE,encG,ndV,edV,tsV,prV,encC,fC,fN1,fE1,hk,fN2,fN3,hq,hl,hl',f9];exact⟨_,_,⟨rfl,rfl⟩,_,rfl,nfR_tpG (putGE g pe qe ⟨c.a,c.b,c.c,c.name,[]⟩) _⟩)
set_option maxHeartbeats 4000000
section
variable {α : Type} {lt eq : α → Bool} {l pre mid post : List α}
theorem filter_all {f:α→Bool}{l:List α}(h:∀x∈l,f x=true):l.filter f=l:=List.filter_eq_self.2 h
theorem filter_no {f:α→Bool}{l:List α}(h:∀x∈l,f x=false):l.filter f=[]:=by
 rw[List.filter_eq_nil_iff];intro x hx;rw[h x hx];simp
theorem spl_pre (h:Spl lt eq l pre mid post):l.filter lt=pre:=by
 rw[h.e,Yn,Yn,filter_all (fun x hx=>(h.p x hx).1),filter_no (fun x hx=>(h.m x hx).1),filter_no (fun x hx=>(h.q x hx).1),Yo,Yo]
theorem spl_post (h:Spl lt eq l pre mid post):l.filter (fun x=> !lt x && !eq x)=post:=by
 rw[h.e,Yn,Yn,filter_no (fun x hx=>by rw[(h.p x hx).1];rfl),filter_no (fun x hx=>by rw[(h.m x hx).2];simp),filter_all (fun x hx=>by rw[(h.q x hx).1,(h.q x hx).2];rfl),Zw,Zw]
end
theorem splN {l:List Nd}(x:Int)(h:l.Pairwise fun a b=>a.id<b.id):∃p m q,Spl (ltN x) (eqN x) l p m q:=
 spl_of _ h (fun a b r q=>by simp only[ltN,Zz]at *;omega) (fun a b r q=>by simp only[ltN,eqN,Zz]at *;omega) (fun a q=>by simp only[ltN,eqN,Zz,decide_eq_false_iff_not]at *;omega)
theorem splE {l:List Ed}(x:Int)(h:l.Pairwise fun a b=>a.id<b.id):∃p m q,Spl (ltE x) (eqE x) l p m q:=
 spl_of _ h (fun a b r q=>by simp only[ltE,Zz]at *;omega) (fun a b r q=>by simp only[ltE,eqE,Zz]at *;omega) (fun a q=>by simp only[ltE,eqE,Zz,decide_eq_false_iff_not]at *;omega)
theorem splT {l:List ByteArray}(x:ByteArray)(h:l.Pairwise fun a b=>ltS a b=true):∃p m q,Spl (ltT x) (eqT x) l p m q:=
 spl_of _ h (fun a b r q=>ltS_trans r q) (fun a b r q=>by have:=(eqS_iff _ _).1 q;subst this;exact r) (fun a q=>by
  cases e:eqT x a with
  |false=>rfl
  |true=>have:=(eqS_iff _ _).1 e;subst this;unfold ltT at q;rw[ltS_irrefl]at q;cases q)
theorem rises_pair :∀{l:List ByteArray},risesL l=true→l.Pairwise fun a b=>ltS a b=true
 | [],_=>List.Pairwise.nil
 | [x],_=>List.pairwise_singleton _ _
 |
  x::y::l,h=>by
  have h':(ltS x y && risesL (y::l))=true:=h;rw[Zh]at h';have ih:=rises_pair h'.2;refine List.pairwise_cons.2 ⟨fun z hz=>?_,ih⟩;rcases List.mem_cons.1 hz with rfl|hz
  ·exact h'.1
  ·exact ltS_trans h'.1 ((List.pairwise_cons.1 ih).1 z hz)
theorem edgeE_ne {g:Gr}{i:Nat}{a c:Ed}(ha:g.edges[i]?=some a)(hc:g.edges[i+1]?=some c)(h:edgeE g (i+1)=0):a.id<c.id:=by
 unfold edgeE at h;rw[hc]at h;dsimp only at h;split at h
 ·cases h
 ·rename_i q;refine Int.lt_of_not_ge fun k=>q ⟨by omega,a,ha,k⟩
theorem edges_sorted {g:Gr}(h:edgesE g=0):∀(i j:Nat) (a b:Ed),g.edges[i]?=some a→g.edges[j]?=some b→i<j→a.id<b.id:=by
 have hz:∀j,j<g.edges.length→edgeE g j=0:=fun j hj=>scanE_zero (edgeE g) g.edges.length 0 h j (by omega) (by omega)
 intro i j a b ha hb hij;obtain⟨k,rfl⟩:∃k,j=i+1+k:=⟨j-(i+1),by omega⟩;clear hij
 induction k generalizing b with
 |zero=>exact edgeE_ne ha hb (hz _ (Za.1 hb).1)
 |
  succ k ih=>
  have hl:i+1+k+1<g.edges.length:=by have:=(Za.1 hb).1;omega
  have hc:g.edges[i+1+k]?=some g.edges[i+1+k]:=Zb (by omega);have h1:=ih _ hc;have h2:=edgeE_ne hc hb (hz _ hl);omega
structure GV (g:Gr):Prop where
 nl:g.nodes.length≤2000
 el:g.edges.length≤4000
 sn:g.nodes.Pairwise fun a b=>a.id<b.id
 se:g.edges.Pairwise fun a b=>a.id<b.id
 np:∀n∈g.nodes,partsE n.labels n.props=0
 ep:∀e∈g.edges,partsE [] e.props=0
theorem partsE_zero {l:List ByteArray}{p:List Prp}(h:partsE l p=0):l.length≤8∧p.length≤16∧l.Pairwise (fun a b=>ltS a b=true):=by
 unfold partsE at h;split at h
 ·cases h
 ·rename_i h1;split at h
  ·cases h
  ·split at h
   ·cases h
   ·rename_i h3;have h4:(risesL l && risesL (keysL p))=true:=by
     cases q:(risesL l && risesL (keysL p))with
     |true=>rfl
     |false=>exact absurd q h3
    rw[Zh]at h4;exact⟨by omega,by omega,rises_pair h4.1⟩
theorem gv_of {g:Gr}(h:graphE g=0):GV g:=by
 unfold graphE at h;split at h
 ·cases h
 ·rename_i h1;split at h
  ·cases h
  ·split at h
   ·rename_i h2 h3;have hn:=nodes_sorted h3;have he:=edges_sorted h;have zn:∀j,j<g.nodes.length→nodeE g j=0:=fun j hj=>scanE_zero (nodeE g) g.nodes.length 0 h3 j (by omega) (by omega)
    have ze:∀j,j<g.edges.length→edgeE g j=0:=fun j hj=>scanE_zero (edgeE g) g.edges.length 0 h j (by omega) (by omega)
    refine⟨by omega,by omega,?_,?_,?_,?_⟩
    ·rw[List.pairwise_iff_getElem];intro i j hi hj hij;exact hn i j _ _ (Zb hi) (Zb hj) hij
    ·rw[List.pairwise_iff_getElem];intro i j hi hj hij;exact he i j _ _ (Zb hi) (Zb hj) hij
    ·intro n hn;obtain⟨i,hi,rfl⟩:=List.mem_iff_getElem.1 hn;have:=zn i hi;unfold nodeE at this;rw[Zb hi]at this;dsimp only at this;split at this
     ·cases this
     ·split at this
      ·cases this
      ·exact this
    ·intro n hn;obtain⟨i,hi,rfl⟩:=List.mem_iff_getElem.1 hn;have:=ze i hi;unfold edgeE at this;rw[Zb hi]at this;dsimp only at this;split at this
     ·cases this
     ·split at this
      ·cases this
      ·split at this
       ·cases this
       ·split at this
        ·cases this
        ·exact this
   ·rename_i h2 h3;exact absurd h h3
end
end Go.Proofs.YtadaeokidcgdlaaGreatDoor
