/- A change of a valid graph leaves a valid one. -/
import Derived.Test.YtadaeokidcgdlaaGreatDoorP38
import Derived.Test.YtadaeokidcgdlaaGreatDoorP40
set_option linter.unusedSimpArgs false
set_option linter.unusedVariables false
set_option maxRecDepth 100000
namespace Go.Proofs.YtadaeokidcgdlaaGreatDoor
open Go Go.Ae
section
variable {α : Type} {R : α → α → Prop} {lt eq : α → Bool} {l pre mid post : List α}
theorem spl_pair (hs:Spl lt eq l pre mid post)(hl:l.Pairwise R):(pre++post).Pairwise R:=by
 have:=hs.e;rw[Zp]at this;rw[this]at hl;exact hl.sublist ((List.Sublist.refl pre).append (List.sublist_append_right mid post))
theorem spl_put (hs:Spl lt eq l pre mid post)(hl:l.Pairwise R)(n:α)(h1:∀x∈pre,R x n)(h2:∀x∈post,R n x):(pre++n::post).Pairwise R:=by
 have:=spl_pair hs hl;rw[List.pairwise_append]at this⊢;refine⟨this.1,List.pairwise_cons.2 ⟨h2,this.2.1⟩,fun x hx y hy=>?_⟩;rcases List.mem_cons.1 hy with rfl|hy
 ·exact h1 x hx
 ·exact this.2.2 x hx y hy
theorem spl_in1 (hs:Spl lt eq l pre mid post){x:α}(h:x∈pre):x∈l:=by rw[hs.e];simp[h]
theorem spl_in3 (hs:Spl lt eq l pre mid post){x:α}(h:x∈post):x∈l:=by rw[hs.e];simp[h]
theorem spl_len (hs:Spl lt eq l pre mid post):l.length=pre.length+mid.length+post.length:=by rw[hs.e];simp;omega
end
theorem parts_iff {l:List ByteArray}{p:List Prp}:partsE l p=0↔(l.length≤8∧p.length≤16)∧(namesL l=true∧namesL (keysL p)=true)∧(risesL l=true∧risesL (keysL p)=true)∧plainsL p=true:=by
 unfold partsE;by_cases h1:8<l.length∨16<p.length
 ·rw[if_pos h1];constructor
  ·intro h;cases h
  ·intro h;omega
 rw[if_neg h1];have h2:l.length≤8∧p.length≤16:=by omega
 cases namesL l<;>cases namesL (keysL p)<;>cases risesL l<;>cases risesL (keysL p)<;>cases plainsL p<;>simp[h2]
theorem pair_rises :∀{l:List ByteArray},l.Pairwise (fun a b=>ltS a b=true)→risesL l=true
 | [],_=>rfl
 | [x],_=>rfl
 |
  x::y::l,h=>by
  rw[List.pairwise_cons]at h;show(ltS x y && risesL (y::l))=true;rw[h.1 y (by simp),pair_rises h.2];rfl
structure Fine (D:Nat)(g:Gr):Prop where
 v:GV g
 b:NB g
 n:∀n∈g.nodes,PrB D n.props
 e:∀e∈g.edges,PrB D e.props
theorem Fine.gr {D:Nat}{g:Gr}(H:Fine D g):GrB D g:={
 nl:=by have:=H.v.nl;omega
 el:=by have:=H.v.el;omega
 ns:=fun n hn=>by have:=parts_iff.1 (H.v.np n hn);exact⟨by omega,by omega,H.n n hn⟩
 es:=fun n hn=>by have:=parts_iff.1 (H.v.ep n hn);exact⟨by omega,H.e n hn⟩}
theorem fine_of {D:Nat}{g:Gr}(h:graphE g=0)(hb:GrB D g):Fine D g:=⟨gv_of h,nb_of h,fun n hn=>(hb.ns n hn).2.2,fun n hn=>(hb.es n hn).2⟩
section
variable {D : Nat} {g : Gr} {x : Int}
theorem fine_putN {pre mid post:List Nd}{m:Nd}(H:Fine D g)(hs:Spl (ltN x) (eqN x) g.nodes pre mid post)(hm:m.id=x)(hl:pre.length+post.length<2000)(hp:partsE m.labels m.props=0)(hb:PrB D m.props):Fine D (putG g pre post m):=by
 have a1:∀a∈pre,a.id<m.id:=fun a ha=>by have:=(hs.p a ha).1;unfold ltN at this;rw[Zz]at this;omega
 have a3:∀a∈post,m.id<a.id:=fun a ha=>by
  obtain⟨u,w⟩:=hs.q a ha;unfold ltN at u;unfold eqN at w;rw[decide_eq_false_iff_not]at u w;omega
 have mem:∀a∈pre++m::post,a∈g.nodes∨a=m:=fun a ha=>by
  rw[Ya,List.mem_cons]at ha;rcases ha with ha|ha|ha
  ·exact .inl (spl_in1 hs ha)
  ·exact .inr ha
  ·exact .inl (spl_in3 hs ha)
 refine⟨⟨by simp[putG];omega,H.v.el,spl_put hs H.v.sn m a1 a3,H.v.se,fun a ha=>?_,H.v.ep⟩,⟨fun a ha=>?_,H.b.e⟩,fun a ha=>?_,H.e⟩
 ·rcases mem a ha with ha|rfl
  ·exact H.v.np a ha
  ·exact hp
 ·show a.id+1≤max g.nn (m.id+1);rcases mem a ha with ha|rfl
  ·have:=H.b.n a ha;omega
  ·omega
 ·rcases mem a ha with ha|rfl
  ·exact H.n a ha
  ·exact hb
theorem fine_delN {pre mid post:List Nd}(H:Fine D g)(hs:Spl (ltN x) (eqN x) g.nodes pre mid post):Fine D {g with nodes:=pre++post}:=by
 have mem:∀a∈pre++post,a∈g.nodes:=fun a ha=>by
  rw[Ya]at ha;exact ha.elim (spl_in1 hs) (spl_in3 hs)
 have hl:=spl_len hs;have hn:=H.v.nl;exact⟨⟨by simp;omega,H.v.el,spl_pair hs H.v.sn,H.v.se,fun a ha=>H.v.np a (mem a ha),H.v.ep⟩,⟨fun a ha=>H.b.n a (mem a ha),H.b.e⟩,fun a ha=>H.n a (mem a ha),H.e⟩
theorem fine_putE {pre mid post:List Ed}{m:Ed}(H:Fine D g)(hs:Spl (ltE x) (eqE x) g.edges pre mid post)(hm:m.id=x)(hl:pre.length+post.length<4000)(hp:partsE [] m.props=0)(hb:PrB D m.props):Fine D (putGE g pre post m):=by
 have a1:∀a∈pre,a.id<m.id:=fun a ha=>by have:=(hs.p a ha).1;unfold ltE at this;rw[Zz]at this;omega
 have a3:∀a∈post,m.id<a.id:=fun a ha=>by
  obtain⟨u,w⟩:=hs.q a ha;unfold ltE at u;unfold eqE at w;rw[decide_eq_false_iff_not]at u w;omega
 have mem:∀a∈pre++m::post,a∈g.edges∨a=m:=fun a ha=>by
  rw[Ya,List.mem_cons]at ha;rcases ha with ha|ha|ha
  ·exact .inl (spl_in1 hs ha)
  ·exact .inr ha
  ·exact .inl (spl_in3 hs ha)
 refine⟨⟨H.v.nl,by simp[putGE];omega,H.v.sn,spl_put hs H.v.se m a1 a3,H.v.np,fun a ha=>?_⟩,⟨H.b.n,fun a ha=>?_⟩,H.n,fun a ha=>?_⟩
 ·rcases mem a ha with ha|rfl
  ·exact H.v.ep a ha
  ·exact hp
 ·show a.id+1≤max g.ne (m.id+1);rcases mem a ha with ha|rfl
  ·have:=H.b.e a ha;omega
  ·omega
 ·rcases mem a ha with ha|rfl
  ·exact H.e a ha
  ·exact hb
theorem fine_delE {pre mid post:List Ed}(H:Fine D g)(hs:Spl (ltE x) (eqE x) g.edges pre mid post):Fine D {g with edges:=pre++post}:=by
 have mem:∀a∈pre++post,a∈g.edges:=fun a ha=>by
  rw[Ya]at ha;exact ha.elim (spl_in1 hs) (spl_in3 hs)
 have hl:=spl_len hs;have hn:=H.v.el;exact⟨⟨H.v.nl,by simp;omega,H.v.sn,spl_pair hs H.v.se,H.v.np,fun a ha=>H.v.ep a (mem a ha)⟩,⟨H.b.n,fun a ha=>H.b.e a (mem a ha)⟩,H.n,fun a ha=>H.e a (mem a ha)⟩
end
theorem changeE_name {c:Ch}(h:changeE c=0)(k:namedS c.k=true):nameS c.name=true:=by
 unfold changeE at h;split at h
 ·cases h
 ·split at h
  ·cases h
  ·split at h
   ·cases h
   ·rename_i q;cases e:nameS c.name with
    |true=>rfl
    |false=>exact absurd ⟨k,e⟩ q
theorem changeE_plain {c:Ch}(h:changeE c=0)(k:valuedS c.k=true)(hn:nullS c.v=false):plainV c.v=true:=by
 unfold changeE at h;split at h
 ·cases h
 ·split at h
  ·cases h
  ·split at h
   ·cases h
   ·split at h
    ·cases h
    ·rename_i q;cases e:plainV c.v with
     |true=>rfl
     |false=>exact absurd ⟨k,hn,e⟩ q
theorem parts_set {l:List ByteArray}{p:List Prp}{x:ByteArray}{v:V}(h:partsE l p=0)(hx:nameS x=true)(hv:nullS v=false→plainV v=true)(hl:(setR p x v).length≤16):partsE l (setR p x v)=0:=by
 obtain⟨pr,m,q,hs⟩:=splR x (partsE_keys h);have hp:=parts_iff.1 h;have hk:=partsE_keys h;refine parts_iff.2 ⟨⟨hp.1.1,hl⟩,⟨hp.2.1.1,?_⟩,⟨hp.2.2.1.1,?_⟩,?_⟩
 all_goals rw[setR_setL hs];unfold setL
 ·have hn:=hp.2.1.2;unfold namesL keysL at hn⊢;rw[hs.e]at hn;simp only[List.map_append,List.all_append,Zh]at hn⊢;refine⟨⟨hn.1.1,?_⟩,hn.2⟩;cases nullS v<;>simp[hx]
 ·refine pair_rises ?_;unfold keysL;rw[List.pairwise_map];cases hn:nullS v with
  |
   true=>
   have:=spl_pair hs hk;simpa using this
  |
   false=>
   have:=spl_put hs hk ⟨x,v⟩ (fun a ha=>(hs.p a ha).1) (fun a ha=>ltS_total (hs.q a ha).1 (hs.q a ha).2);simpa using this
 ·have hn:=hp.2.2.2;unfold plainsL at hn⊢;rw[hs.e]at hn;simp only[List.all_append,Zh]at hn⊢;refine⟨⟨hn.1.1,?_⟩,hn.2⟩;cases hq:nullS v with
  |true=>rfl
  |false=>simp[hv hq]
theorem prB_set {D:Nat}{l:List ByteArray}{p:List Prp}{x:ByteArray}{v:V}(h:partsE l p=0)(hb:PrB D p)(hd:dep v≤D)(hv:bdV v):PrB D (setR p x v):=by
 obtain⟨pr,m,q,hs⟩:=splR x (partsE_keys h);rw[setR_setL hs];unfold setL;intro y hy;rw[Ya,Ya]at hy;rcases hy with(hy|hy)|hy
 ·exact hb y (spl_in1 hs hy)
 ·cases hq:nullS v with
  |true=>rw[hq]at hy;simp at hy
  |
   false=>
   rw[hq]at hy;have:y=⟨x,v⟩:=by simpa using hy
   subst this;exact⟨hd,hv⟩
 ·exact hb y (spl_in3 hs hy)
theorem fine_onE {D:Nat}{g:Gr}{c:Ch}{m:Ed}(H:Fine D g)(he:changeE c=0)(hd:dep c.v≤D)(hv:bdV c.v)(hk:c.k=7∨c.k=8)(hm:edgeAt g.edges c.a=some m)(h0:(onEF g c m).2=0):Fine D (onEF g c m).1:=by
 have hi:=edgeAt_id hm;obtain⟨p,md,q,hs⟩:=splE c.a H.v.se;have e1:=spl_pre hs;have e2:=spl_post hs;have hn:=H.v.el;have hl:=spl_len hs;rw[edgeAt_spl hs]at hm;have:=head_one hm hs.one;subst this;rw[List.length_singleton]at hl;unfold onEF loE hiE at h0⊢;rw[e1,e2]at h0⊢;rcases hk with k|k
 ·rw[if_pos k];exact fine_delE H hs
 ·rw[if_neg (by omega)]at h0⊢;dsimp only at h0⊢;have hp:=H.v.ep m hi.1;have hv':valuedS c.k=true:=by rw[k];rfl
  split
  ·rename_i h16;exact fine_putE H hs hi.2 (by omega) (parts_set hp (changeE_name he (by rw[k];rfl)) (changeE_plain he hv') h16) (prB_set hp (H.e m hi.1) hd hv)
  ·rename_i h16;rw[if_neg h16]at h0;cases h0
theorem fine_onN {D:Nat}{g:Gr}{c:Ch}{m:Nd}(H:Fine D g)(he:changeE c=0)(hd:dep c.v≤D)(hv:bdV c.v)(h1:¬c.k=1)(h6:¬c.k=6)(h7:¬(c.k=7∨c.k=8))(hm:nodeAt g.nodes c.a=some m)(h0:(onNF g c m).2=0):Fine D (onNF g c m).1:=by
 have hi:=nodeAt_id hm;have hkk:=changeE_kind he;obtain⟨p,md,q,hs⟩:=splN c.a H.v.sn;have e1:=spl_pre hs;have e2:=spl_post hs;have hn:=H.v.nl;have hl:=spl_len hs;rw[nodeAt_spl hs]at hm;have:=head_one hm hs.one;subst this;rw[List.length_singleton]at hl;have hp:=H.v.np m hi.1;have hpi:=parts_iff.1 hp;have hr:=rises_pair hpi.2.2.1.1;obtain⟨lp,lm,lq,ht⟩:=splT c.name hr;have e3:=spl_pre ht;have e4:=spl_post ht;have hnm:=hpi.2.1.1;unfold namesL at hnm;rw[ht.e]at hnm;simp only[List.all_append,Zh]at hnm;have hlt:=spl_len ht;unfold onNF loN hiN loT hiT at h0⊢;rw[e1,e2,e3,e4]at h0⊢;by_cases k2:c.k=2
 ·rw[if_pos k2]at h0⊢;dsimp only at h0⊢;split
  ·rename_i hu;rw[if_pos hu]at h0;cases h0
  ·exact fine_delN H hs
 rw[if_neg k2]at h0⊢;by_cases k3:c.k=3
 ·rw[if_pos k3]at h0⊢;dsimp only at h0⊢;have hx:=changeE_name he (by rw[k3];rfl);split
  ·rename_i hu;rw[if_pos hu]at h0;cases h0
  ·rename_i hu;rw[if_neg hu]at h0;split
   ·rename_i hw;rw[if_pos hw]at h0;cases h0
   ·rename_i hw;refine fine_putN H hs hi.2 (by omega) (parts_iff.2 ⟨⟨?_,hpi.1.2⟩,⟨?_,hpi.2.1.2⟩,⟨?_,hpi.2.2.1.2⟩,hpi.2.2.2⟩) (H.n m hi.1)
    ·simp;omega
    ·unfold namesL;simp only[List.all_append,Zh];exact⟨⟨hnm.1.1,by simp[hx]⟩,hnm.2⟩
    ·refine pair_rises ?_;have:=spl_put ht hr c.name (fun a ha=>(ht.p a ha).1) (fun a ha=>ltS_total (ht.q a ha).1 (ht.q a ha).2);simpa using this
 rw[if_neg k3]at h0⊢;by_cases k4:c.k=4
 ·rw[if_pos k4]at h0⊢;dsimp only at h0⊢;split
  ·refine fine_putN H hs hi.2 (by omega) (parts_iff.2 ⟨⟨?_,hpi.1.2⟩,⟨?_,hpi.2.1.2⟩,⟨?_,hpi.2.2.1.2⟩,hpi.2.2.2⟩) (H.n m hi.1)
   ·simp;omega
   ·unfold namesL;simp only[List.all_append,Zh];exact⟨hnm.1.1,hnm.2⟩
   ·exact pair_rises (spl_pair ht hr)
  ·rename_i hu;rw[if_neg hu]at h0;cases h0
 rw[if_neg k4]at h0⊢;dsimp only at h0⊢;have k5:c.k=5:=by omega
 have hv':valuedS c.k=true:=by rw[k5];rfl
 split
 ·rename_i h16;exact fine_putN H hs hi.2 (by omega) (parts_set hp (changeE_name he (by rw[k5];rfl)) (changeE_plain he hv') h16) (prB_set hp (H.n m hi.1) hd hv)
 ·rename_i h16;rw[if_neg h16]at h0;cases h0
theorem fine_step {D:Nat}{g:Gr}{c:Ch}(H:Fine D g)(hd:dep c.v≤D)(hv:bdV c.v)(h0:(stepF g c).2=0):Fine D (stepF g c).1:=by
 unfold stepF at h0⊢;by_cases he':¬changeE c=0
 ·rw[if_pos he']at h0;exact absurd h0 he'
 rw[if_neg he']at h0⊢;have he:=Classical.not_not.1 he';have hln:=H.v.nl;have hle:=H.v.el;by_cases k1:c.k=1
 ·rw[if_pos k1]at h0⊢;cases hm:nodeAt g.nodes c.a with
  |some m=>rw[hm]at h0;cases h0
  |
   none=>
   rw[hm]at h0;dsimp only at h0⊢;split
   ·rename_i hw;rw[if_pos hw]at h0;cases h0
   ·rename_i hw;obtain⟨p,md,q,hs⟩:=splN c.a H.v.sn;have hl:=spl_len hs;unfold loN hiN;rw[spl_pre hs,spl_post hs];exact fine_putN (m:=⟨c.a,[],[]⟩) H hs rfl (by omega) rfl (fun x hx=>by cases hx)
 rw[if_neg k1]at h0⊢;by_cases k6:c.k=6
 ·rw[if_pos k6]at h0⊢;cases hm:edgeAt g.edges c.a with
  |some m=>rw[hm]at h0;cases h0
  |
   none=>
   rw[hm]at h0;dsimp only at h0⊢;split
   ·rename_i hw;rw[if_pos hw]at h0;cases h0
   ·rename_i hu;rw[if_neg hu]at h0;split
    ·rename_i hw;rw[if_pos hw]at h0;cases h0
    ·rename_i hw;obtain⟨p,md,q,hs⟩:=splE c.a H.v.se;have hl:=spl_len hs;unfold loE hiE;rw[spl_pre hs,spl_post hs];exact fine_putE (m:=⟨c.a,c.b,c.c,c.name,[]⟩) H hs rfl (by omega) rfl (fun x hx=>by cases hx)
 rw[if_neg k6]at h0⊢;by_cases k7:c.k=7∨c.k=8
 ·rw[if_pos k7]at h0⊢;cases hm:edgeAt g.edges c.a with
  |none=>rw[hm]at h0;cases h0
  |
   some m=>
   rw[hm]at h0;exact fine_onE H he hd hv k7 hm h0
 rw[if_neg k7]at h0⊢;cases hm:nodeAt g.nodes c.a with
 |none=>rw[hm]at h0;cases h0
 |
  some m=>
  rw[hm]at h0;exact fine_onN H he hd hv k1 k6 k7 hm h0
theorem okF_of {D:Nat}:∀{cs:List Ch} {g:Gr},Fine D g→(∀c∈cs,dep c.v≤D∧bdV c.v)→OkF D g cs
 | [],_,_,_=>trivial
 |c::cs,g,H,hc=>⟨H.v,H.b,(hc c (by simp)).1,(hc c (by simp)).2,fun h0=>okF_of (fine_step H (hc c (by simp)).1 (hc c (by simp)).2 h0) fun x hx=>hc x (by simp[hx])⟩
section
attribute [local simp] aop aopW coldF extF putA ofConst flat scalarOp fastOp binFast intOp strOp guardX Ae.part rowOf szOk natOf lenA cls fillA splice newsOf isNilC cellX
set_option maxHeartbeats 32000000
section
variable {C : Cx} {cal : FuncId → List AV → Hp → Option (AV × Hp)}
def chkY (x y:Option (AV × Hp))(r:Option (Out × St)):Option (Out × St):=match x,y with|some (v,_),some (v',_)=>(if eqvB v' v=true then r else none)|_,_=>none
@[simp] theorem chkY_some (v v':AV)(h h':Hp)(r:Option (Out × St)):chkY (some (v,h)) (some (v',h')) r=if eqvB v' v=true then r else none:=rfl
def bindO (x:Option Oper)(f:Oper→Option (Out × St)):Option (Out × St):=match x with|some o=>f o|none=>none
@[simp] theorem bindO_some (o:Oper)(f:Oper→Option (Out × St)):bindO (some o) f=f o:=rfl
def mixL (C:Cx)(cal:FuncId→List AV→Hp→Option (AV × Hp))(l:List Oper)(s:St)(z:Option (Out × St)):List (Nat × Nat)→Option (Out × St)
 | []=>z
 |(j,m)::ps=>bindO l[j]? fun o=>bindX (runOps C cal l.toArray (l.take j) s) fun sj=>bindX (runOps C cal l.toArray (l.take m) s) fun sm=>chkY (aop C cal (ev C sj.1) sj.2 o) (aop C cal (ev C sj.1) sm.2 o) (mixL C cal l s z ps)
theorem mixL_none (l:List Oper)(s:St):∀ps,mixL C cal l s none ps=none
 | []=>rfl
 |
  (j,m)::ps=>by
  unfold mixL;rw[mixL_none l s ps];cases l[j]? with
  |none=>rfl
  |some o=>
  rw[bindO_some];cases runOps C cal l.toArray (l.take j) s with
  |none=>rfl
  |
   some sj=>
   cases runOps C cal l.toArray (l.take m) s with
   |none=>rfl
   |
    some sm=>
    simp only[bindX,chkY];split<;>(try rfl);split<;>rfl
def okM (l:List Oper)(ps:List (Nat × Nat)):Bool:=ps.all fun p=>(match l[p.1]? with|some o=>o.guard.isNone|none=>false) && decide (p.2≤l.length)
theorem mixL_all {l:List Oper}{s:St}{sts:List St}(hL:runOpsL C cal l.toArray l s=some sts)(z:Option (Out × St)):∀ps,okM l ps=true→mixL C cal l s z ps=if ps.all (sameAt C cal l.toArray sts)then z else none
 | [],_=>rfl
 |
  (j,m)::ps,hk=>by
  unfold okM at hk;rw[Zn,Zh,Zh,Zz]at hk;obtain⟨⟨hk1,hm⟩,hk2⟩:=hk;have ih:=mixL_all hL z ps hk2;obtain⟨o,ho⟩:∃o,l[j]?=some o:=by
   cases q:l[j]? with
   |none=>dsimp only at hk1;rw[q]at hk1;cases hk1
   |some o=>exact⟨o,rfl⟩
  dsimp only at hk1 hm;rw[ho]at hk1;have hg:=Yc.1 hk1;have hj:j≤l.length:=Nat.le_of_lt (Za.1 ho).1;have hat:=runOpsL_at l s sts hL;have h1:=hat j hj;have h2:=hat m hm;have hso:l.toArray[j]?=some o:=by simpa using ho
  unfold mixL;rw[ih,Zn,ho,bindO_some];cases hq:runOps C cal l.toArray (l.take j) s with
  |
   none=>
   have:sameAt C cal l.toArray sts (j,m)=false:=by
    simp only[sameAt,hso,h1,hq]
   rw[this];rfl
  |
   some sj=>
   cases hr:runOps C cal l.toArray (l.take m) s with
   |
    none=>
    have:sameAt C cal l.toArray sts (j,m)=false:=by
     simp only[sameAt,hso,h1,hq,h2,hr,wantA,hg]
    rw[this];rfl
   |
    some sm=>
    simp only[bindX_some];cases ha:aop C cal (ev C sj.1) sj.2 o with
    |
     none=>
     have:sameAt C cal l.toArray sts (j,m)=false:=by
      simp only[sameAt,hso,h1,hq,h2,hr,wantA,hg,ha]
     rw[this];rfl
    |
     some q=>
     obtain⟨v,h'⟩:=q;cases hb:aop C cal (ev C sj.1) sm.2 o with
     |
      none=>
      have:sameAt C cal l.toArray sts (j,m)=false:=by
       simp only[sameAt,hso,h1,hq,h2,hr,wantA,hg,ha,hb]
      rw[this];rfl
     |
      some q'=>
      obtain⟨v',h''⟩:=q';have:sameAt C cal l.toArray sts (j,m)=eqvB v' v:=by
       simp only[sameAt,hso,h1,hq,h2,hr,wantA,hg,ha,hb]
      rw[this];simp only[chkY_some];cases eqvB v' v<;>rfl
theorem mix_many {l:List Oper}(ps:List (Nat × Nat))(hn:(needs C l.toArray,thrs C l.toArray)=(ps,false))(hk:okM l ps=true)(s:St):draw3 C cal true l s=mixL C cal l s (mapX (runOps C cal l.toArray l s)) ps:=by
 have hn1:=congrArg Prod.fst hn;have hth:=congrArg Prod.snd hn;dsimp only at hn1 hth;cases hL:runOpsL C cal l.toArray l s with
 |
  none=>
  rw[mix_alt];have h0:runOps C cal l.toArray l s=none:=runOpsL_none hL;rw[h0];show panA C cal l.toArray s=_;have:mapX (none:Option St)=none:=rfl;rw[this,mixL_none];simp only[panA,hth,Yp,if_false]
 |
  some sts=>
  obtain⟨S,_,el,e1,_⟩:=run_split l s sts hL;have hr:runOps C cal l.toArray l s=some (S l.length):=by rw[←runOpsL_runOps,hL,Option.bind_some,e1 l.length (Nat.le_refl _)]
  rw[mix_alt,hr,altX_some,hL,hn1,mixL_all hL _ ps hk];dsimp only;rw[e1 l.length (Nat.le_refl _)];rfl
end
theorem eqvC_app :∀{xs ys:List AV},eqvC xs xs=true→eqvC ys ys=true→eqvC (xs++ys) (xs++ys)=true
 | [],_,_,h=>h
 |
  x::xs,ys,h,k=>by
  rw[eqvC,Zh]at h;rw[Zv,eqvC,h.1,eqvC_app h.2 k];rfl
mutual
theorem eqv_V :∀v:V,eqvC (enc v) (enc v)=true
 |
  .mk k n d s z l=>by
  have h:=eqv_VL l;have e:eqvB (lsV z (encL l)) (lsV z (encL l))=true:=by
   unfold lsV;cases z && (encL l).isEmpty
   ·simp[eqvB,h]
   ·simp[eqvB,Ae.eqV]
  simp only[enc,eqvC,eqvB,Ae.eqV,bytes_beq,decide_true,Bool.and_self,e]
theorem eqv_VL :∀l:List V,eqvR (encL l) (encL l)=true
 | []=>by simp[encL,eqvR]
 |x::xs=>by simp[encL,eqvR,eqv_V x,eqv_VL xs]
end
theorem eqv_C (c:Ch):eqvC (encC c) (encC c)=true:=eqvC_app (by simp[eqvC,eqvB,Ae.eqV,bytes_beq]) (eqv_V c.v)
theorem eqv_prR (l:List Prp):eqvR (prR l) (prR l)=true:=eqvR_refl fun r hr=>by
 obtain⟨c,_,rfl⟩:=Yi.1 hr;have e:encR c=[.sc (.string c.key)]++enc c.v:=rfl;rw[e];exact eqvC_app (by simp[eqvC,eqvB,Ae.eqV,bytes_beq]) (eqv_V c.v)
theorem eqv_tsR (l:List ByteArray):eqvR (tsR l) (tsR l)=true:=eqvR_refl fun r hr=>by
 obtain⟨c,_,rfl⟩:=Yi.1 hr;simp[eqvC,eqvB,Ae.eqV,bytes_beq]
theorem eqv_ndR (l:List Nd):eqvR (ndR l) (ndR l)=true:=eqvR_refl fun r hr=>by
 obtain⟨c,_,rfl⟩:=Yi.1 hr;simp[encN,tsV,prV,eqvC,eqvB,Ae.eqV,eqv_prR,eqv_tsR]
theorem eqv_edR (l:List Ed):eqvR (edR l) (edR l)=true:=eqvR_refl fun r hr=>by
 obtain⟨c,_,rfl⟩:=Yi.1 hr;simp[encE,prV,eqvC,eqvB,Ae.eqV,eqv_prR,bytes_beq]
theorem pure_exN3 {f:FuncId}{args:List AV}{n:Nat}(bad:Nat→Bool)(r0:AV)(fi:Fi)(hF:cx.F f=some fi)(hok:ok3 cx bad fi.body=true)(hs:cx.srt f=none)(hi:cx.inl f=false)(hl:args.length≤fi.ntmps)(hc:args.all calm=true)
 (hb:∃r h',finX fi.res (exec3 cx (callN cx n) bad fi.body (args++List.replicate (fi.ntmps-args.length) .un,[]))=some (r,h')∧∃r',Ae.snap h' 8 r=some r'∧nfR r'=r0) (ht:(tabOk f && isNf f)=true:=by decide) (b:Bool) (h:Hp):callN cx (n+1) b f args h=some (r0,h):=by
 obtain⟨r,h',hb,r',hr,hR⟩:=hb;rw[Zh]at ht;have:=call_pureN (C:=cx) hs hi (tab_none' ht.1) hc (by rw[body1_of3 hF hok hl];exact hb) hr b h;rw[this];show some (nfF f r',h)=_;unfold nfF;rw[ht.2];simp[hR]
theorem At.eq0 {h:Hp}{i:Nat}{b:Blk}(k:At h i b):h[i]?=some b:=k
theorem At.set {h:Hp}{i j:Nat}{b:Blk}(k:At h i b)(hn:j≠i)(y:Blk):At (h.set j y) i b:=by
 unfold At at *;rw[Zq hn];exact k
theorem At.lt {h:Hp}{i:Nat}{b:Blk}(k:At h i b):i<h.length:=(Za.1 k).1
theorem At.new {h:Hp}{i:Nat}{b:Blk}(k:At h i b)(y:Blk):At (h.set i y) i y:=Zj k.lt
theorem nfR_g3 (g:Gr)(u v:Value):nfR (.tp [.ag (encG g),.sc u,.sc v])= .tp [.ag (encG g),.sc u,.sc v]:=by simp[nfR,nfG,encG,ndV,edV,nfL_ls,map_nfN,map_nfE]
theorem r08_ApplyAll (N D:Nat)(b:Bool)(g:Gr)(cs:List Ch)(z:Bool)(h:Hp)(hg:GrB D g)(hl:cs.length≤1000000)(hc:∀c∈cs,dep c.v≤D∧bdV c.v):
 callN cx (N+3*D+11) b 47 [.ag (encG g),.ls 10 (chR cs) z] h=some (.tp [.ag (encG (allF g cs).1),.sc (.int .i64 (allF g cs).2.1),.sc (.int .i64 (allF g cs).2.2)],h):=by
 refine pure_exN3 (f:=47) (n:=N+3*D+10) (args:=[.ag (encG g),.ls 10 (chR cs) z]) (fun i=>i==7) (.tp [.ag (encG (allF g cs).1),.sc (.int .i64 (allF g cs).2.1),.sc (.int .i64 (allF g cs).2.2)]) ⟨Tryz.f47.ntmps,(Tryz.f47.body).getD .skip,[.cell 4 4 true,.tmp 5,.tmp 6]⟩ (by kernel_rfl) (by kernel_rfl) rfl (by kernel_rfl) (by simp[Tryz.f47]) rfl ?_ (by decide) b h;have f1:=fun bb hh=>r07_Check (N+D+2) D bb g hh hg
 rw[show N+D+2+2*D+8=N+3*D+10 by omega]at f1;have f2:=fun(gi:Gr) (c:Ch) bb hh (H:Fine D gi) (hd:dep c.v≤D∧bdV c.v)=>r08_step N D bb gi c hh H.v hd.1 hd.2
 unfold allF;generalize N+3*D+10=M at f1 f2;by_cases he:graphE g=0
 ·rw[if_neg (by simp[he])];have F0:=fine_of he hg;have hq:=chR_length cs;have hgt:=chR_get cs;generalize chR cs=rows at hq hgt⊢;generalize hT:AV.tp [.ag (encG (stepsF g cs 0).1),.sc (.int .i64 (stepsF g cs 0).2.1),.sc (.int .i64 (stepsF g cs 0).2.2)]=T;rw[he]at f1;simp only[encG,ndV,edV]at f1;simp[Tryz.f47,encG,ndV,edV,f1,splice,hq];refine loop3_up (C:=cx) (G:=fun r=>∃r0 h',finX _ (then3 _ _ _ (blockX _ r) _)=some (r0,h')∧∃r',Ae.snap h' 8 r0=some r'∧nfR r'=T)
   (fun i s=>∃gi,i≤cs.length∧s.1.length=41∧gt s.1 1= .ls 10 rows z∧gt s.1 2= .pt 0 0∧gt s.1 4= .pt 1 0∧gt s.1 8= .sc (.int .i64 i)∧stepsF g cs 0=stepsF gi (cs.drop i) i∧Fine D gi∧At s.2 0 (.row (encG gi))∧At s.2 1 (.row [.sc (.slice none 0 0),.sc (.slice none 0 0),.sc (.int .i64 0),.sc (.int .i64 0)]))
   (fun o s=>s.1.length=41∧gt s.1 4= .pt 1 0∧((o= .ret∧∃i e:Int,gt s.1 5= .sc (.int .i64 i)∧gt s.1 6= .sc (.int .i64 e)∧stepsF g cs 0=(zeroG,i,e)∧At s.2 1 (.row [.sc (.slice none 0 0),.sc (.slice none 0 0),.sc (.int .i64 0),.sc (.int .i64 0)]))∨
    (o= .exit 0∧gt s.1 1= .ls 10 rows z∧gt s.1 2= .pt 0 0∧∃gi,stepsF g cs 0=(gi,(cs.length:Int),0)∧At s.2 0 (.row (encG gi))∧At s.2 1 (.row [.sc (.slice none 0 0),.sc (.slice none 0 0),.sc (.int .i64 0),.sc (.int .i64 0)])))) cs.length (by simp;omega) ?_ ?_ ?_
  ·exact⟨g,by omega,rfl,rfl,rfl,rfl,rfl,rfl,F0,rfl,rfl⟩
  ·rintro i fr hp hle' ⟨gi,hle2,hlen,g1,g2,g4,g8,hst,FI,hz0,hz1⟩;simp only at hlen g1 g2 g4 g8 hz0 hz1;by_cases hi:i<cs.length
   ·obtain⟨c,hcx⟩:∃e,cs[i]?=some e:=⟨_,Zb hi⟩;have hr:rows[i]?=some (encC c):=by rw[hgt,hcx];rfl
    have hr':∀k,rows[i]'k=encC c:=fun k=>by obtain⟨_,e⟩:=Za.1 hr;exact e
    have hdr:cs.drop i=c::cs.drop (i+1):=by
     obtain⟨k,e⟩:=Za.1 hcx;rw[Zm k,e]
    have hcd:=hc c (Zi hcx);have f2:=fun bb hh=>f2 gi c bb hh FI hcd
    have hfs:=fine_step (c:=c) FI hcd.1 hcd.2;rw[hdr,stepsF]at hst;have hf:=fit_succ (i:=i) (by omega);generalize stepF gi c=r at hst f2 hfs;obtain⟨G,e⟩:=r;dsimp only at hst f2 hfs;have l1:=hz1.lt;have a0:=hz0.eq0;have a1:=hz1.eq0;have aq:∀y k,(hp++y)[0]'k= .row (encG gi):=fun y k=>(hz0.app y).get k
    have a0':∀y,(hp++y)[0]?=some (.row (encG gi)):=fun y=>(hz0.app y).eq0
    have an:∀y,(hp++[y])[hp.length]?=some y:=fun y=>by simp
    have a1':∀y,(hp++y)[1]?=some (.row [.sc (.slice none 0 0),.sc (.slice none 0 0),.sc (.int .i64 0),.sc (.int .i64 0)]):=fun y=>(hz1.app y).eq0
    by_cases h0:e=0
    ·rw[if_pos h0]at hst;subst h0;simp only[encG,ndV,edV]at f2 a0 a0' aq;simp[hlen,g1,g2,g4,g8,hi,hq,hr,hr'];rw[mix_many [(0,10),(4,10),(5,10)] ?_ ?_]
     rotate_left
     ·kernel_rfl
     ·kernel_rfl
     simp(maxSteps:=1000000) [mixL,hlen,g1,g2,g4,g8,hi,hq,hr,hr',hf,f2,a0,a0',a1',aq,an,splice,eqvB,eqvC,Ae.eqV,eqv_C,eqv_ndR,eqv_edR];exact⟨hi,G,hst,hfs rfl,(hz0.app _).new _,(hz1.app _).set (j:=0) (by decide) _⟩
    ·rw[if_neg h0]at hst;simp only[encG,ndV,edV]at f2 a0 a0' aq;simp[hlen,g1,g2,g4,g8,hi,hq,hr,hr'];rw[mix_many [(0,10),(4,10),(5,10)] ?_ ?_]
     rotate_left
     ·kernel_rfl
     ·kernel_rfl
     simp(maxSteps:=1000000) [mixL,hlen,g1,g2,g4,g8,hi,hq,hr,hr',h0,f2,a0,a0',a1',aq,an,splice,eqvB,eqvC,Ae.eqV,eqv_C,eqv_ndR,eqv_edR];exact⟨hst,(hz1.app _).new _⟩
   ·have hil:i=cs.length:=Nat.le_antisymm hle2 (Yb hi);subst hil;rw[List.drop_length,stepsF]at hst;simp[hlen,g1,g2,g4,g8,hq];exact⟨gi,hst,hz0,hz1⟩
  ·rintro o fr hp hn ⟨hlen,g4,⟨rfl,i,e,g5,g6,hst,hz1⟩|⟨rfl,g1,g2,gi,hst,hz0,hz1⟩⟩
   ·simp only at hlen g4 g5 g6 hz1;rw[hst]at hT;have a1:=hz1.eq0;simp[hlen,g4,g5,g6,a1];exact⟨_,_,⟨rfl,rfl⟩,_,rfl,hT⟩
   ·simp only at hlen g1 g2 hz0 hz1;rw[hst]at hT;have a0:=hz0.eq0;have a1:=hz1.eq0;have s1:∀y,(hp.set 1 y)[1]?=some y:=fun y=>(hz1.new y).eq0
    simp only[encG,ndV,edV]at a0;simp[hlen,g1,g2,g4,hq,a0,a1,s1,splice];exact⟨_,_,⟨rfl,rfl⟩,_,rfl,by rw[←hT];exact nfR_g3 gi _ _⟩
 ·rw[if_pos he];generalize graphE g=e at f1 he;simp only[encG,ndV,edV]at f1;simp[Tryz.f47,encG,ndV,edV,f1,he,splice];exact⟨_,_,⟨rfl,rfl⟩,_,rfl,rfl⟩
end
end Go.Proofs.YtadaeokidcgdlaaGreatDoor
