/- What the reference's step and Apply compute. -/
import Derived.Test.YtadaeokidcgdlaaGreatDoorP30
import Derived.Test.YtadaeokidcgdlaaGreatDoorP19
set_option linter.unusedSimpArgs false
set_option maxRecDepth 100000
namespace Go.Proofs.YtadaeokidcgdlaaGreatDoor
open Go Go.Ae
section
attribute [local simp] aop aopW coldF extF putA ofConst flat scalarOp fastOp binFast intOp strOp guardX Ae.part rowOf szOk natOf lenA cls fillA splice newsOf isNilC cellX
set_option maxHeartbeats 8000000
def loN (l:List Nd)(x:Int):=l.filter (ltN x)
def hiN (l:List Nd)(x:Int):=l.filter fun n=> !ltN x n && !eqN x n
def loE (l:List Ed)(x:Int):=l.filter (ltE x)
def hiE (l:List Ed)(x:Int):=l.filter fun n=> !ltE x n && !eqE x n
def loT (l:List ByteArray)(x:ByteArray):=l.filter (ltT x)
def hiT (l:List ByteArray)(x:ByteArray):=l.filter fun n=> !ltT x n && !eqT x n
def onNF (g:Gr)(c:Ch)(n:Nd):Gr × Int:=
 if c.k=2 then(if g.edges.any (touS c.a)then zeroG else{g with nodes:=loN g.nodes c.a++hiN g.nodes c.a},if g.edges.any (touS c.a)then 12 else 0)
 else if c.k=3 then(if n.labels.any (eqT c.name)then zeroG else if 8≤n.labels.length then zeroG else putG g (loN g.nodes c.a) (hiN g.nodes c.a) {n with labels:=loT n.labels c.name++[c.name]++hiT n.labels c.name},
  if n.labels.any (eqT c.name)then 7 else if 8≤n.labels.length then 20 else 0)
 else if c.k=4 then(if n.labels.any (eqT c.name)then putG g (loN g.nodes c.a) (hiN g.nodes c.a) {n with labels:=loT n.labels c.name++hiT n.labels c.name}else zeroG,if n.labels.any (eqT c.name)then 0 else 23)
 else(if(setR n.props c.name c.v).length≤16 then putG g (loN g.nodes c.a) (hiN g.nodes c.a) {n with props:=setR n.props c.name c.v}else zeroG,if(setR n.props c.name c.v).length≤16 then 0 else 20)
def onEF (g:Gr)(c:Ch)(m:Ed):Gr × Int:=
 if c.k=7 then({g with edges:=loE g.edges c.a++hiE g.edges c.a},0)
 else(if(setR m.props c.name c.v).length≤16 then putGE g (loE g.edges c.a) (hiE g.edges c.a) {m with props:=setR m.props c.name c.v}else zeroG,if(setR m.props c.name c.v).length≤16 then 0 else 20)
def stepF (g:Gr)(c:Ch):Gr × Int:=
 if¬changeE c=0 then(zeroG,changeE c)
 else if c.k=1 then(match nodeAt g.nodes c.a with
  |some _=>(zeroG,7)
  |none=>if 2000≤g.nodes.length then(zeroG,20)else(putG g (loN g.nodes c.a) (hiN g.nodes c.a) ⟨c.a,[],[]⟩,0))
 else if c.k=6 then(match edgeAt g.edges c.a with
  |some _=>(zeroG,7)
  |
   none=>if((nodeAt g.nodes c.b).isSome && (nodeAt g.nodes c.c).isSome)=false then(zeroG,10)
   else if 4000≤g.edges.length then(zeroG,20)else(putGE g (loE g.edges c.a) (hiE g.edges c.a) ⟨c.a,c.b,c.c,c.name,[]⟩,0))
 else if c.k=7∨c.k=8 then(match edgeAt g.edges c.a with
  |none=>(zeroG,11)
  |some m=>onEF g c m)
 else(match nodeAt g.nodes c.a with
  |none=>(zeroG,10)
  |some n=>onNF g c n)
theorem changeE_id {c:Ch}(h:changeE c=0):1≤c.a∧c.a≤1000000:=by
 unfold changeE at h;split at h
 ·cases h
 ·rename_i q;have:idS c.a=true:=by
   cases e:idS c.a with
   |true=>rfl
   |false=>exact absurd (Or.inr (Or.inl e)) q
  unfold idS at this;rw[Zh,Zz,Zz]at this;exact this
theorem changeE_kind {c:Ch}(h:changeE c=0):1≤c.k∧c.k≤8:=by
 unfold changeE at h;split at h
 ·cases h
 ·rename_i q;have:kindS c.k=true:=by
   cases e:kindS c.k with
   |true=>rfl
   |false=>exact absurd (Or.inl e) q
  unfold kindS at this;rw[Zh,Zz,Zz]at this;exact this
theorem head_one {α:Type}{l:List α}{x:α}(h:l.head?=some x)(h1:l.length≤1):l=[x]:=by
 cases l with
 |nil=>cases h
 |
  cons y l=>
  cases l with
  |nil=>cases h;rfl
  |cons z l=>simp at h1
theorem head_none {α:Type}{l:List α}(h:l.head?=none):l=[]:=by
 cases l with
 |nil=>rfl
 |cons y l=>cases h
theorem nodeAt_id {l:List Nd}{x:Int}{n:Nd}(h:nodeAt l x=some n):n∈l∧n.id=x:=by
 unfold nodeAt at h;exact⟨List.mem_of_find?_eq_some h,by have:=List.find?_some h;simpa using this⟩
theorem edgeAt_id {l:List Ed}{x:Int}{n:Ed}(h:edgeAt l x=some n):n∈l∧n.id=x:=by
 unfold edgeAt at h;exact⟨List.mem_of_find?_eq_some h,by have:=List.find?_some h;simpa using this⟩
theorem r08_onN (N D:Nat)(b:Bool)(g:Gr)(c:Ch)(n:Nd)(h:Hp)(hg:GV g)(he:changeE c=0)(hd:dep c.v≤D)(hv:bdV c.v)(h1:¬c.k=1)(h6:¬c.k=6)(h7:¬c.k=7)(h8:¬c.k=8)(hn:nodeAt g.nodes c.a=some n):
 callN cx (N+3*D+9) b 152 [.ag (encG g),.ag (encC c),.ag (encN n)] h=some (.tp [.ag (encG (onNF g c n).1),.sc (.int .i64 (onNF g c n).2)],h):=by
 have hid:=changeE_id he;have hk:=changeE_kind he;have hm:=nodeAt_id hn;have hp:=partsE_zero (hg.np n hm.1);obtain⟨p,m,q,hs⟩:=splN c.a hg.sn;obtain⟨lp,lm,lq,hl⟩:=splT c.name hp.2.2;rw[nodeAt_spl hs]at hn;have hm1:=head_one hn hs.one;subst hm1;have H:OnN g c n p q lp lm lq:=⟨by have:=hg.nl;omega,hs,hm.2,hl,by omega,by omega,by omega⟩;have e1:=spl_pre hs;have e2:=spl_post hs;have e3:=spl_pre hl;have e4:=spl_post hl;have e5:=hl.any;unfold onNF loN hiN loT hiT;rw[e1,e2,e3,e4,e5];by_cases k2:c.k=2
 ·rw[if_pos k2];exact r08_on2 N D b g c n p q lp lm lq h H k2 _ (fun b h=>by
   rw[show N+3*D+8=N+3*D+5+3 by omega];exact r08_Used _ b g c.a h (by have:=hg.el;omega))
 ·rw[if_neg k2];by_cases k3:c.k=3
  ·rw[if_pos k3,r08_on3 N D b g c n p q lp lm lq h H k3];cases lm<;>rfl
  ·rw[if_neg k3];by_cases k4:c.k=4
   ·rw[if_pos k4,r08_on4 N D b g c n p q lp lm lq h H k4];cases lm<;>rfl
   ·rw[if_neg k4];exact r08_on5 N D b g c n p q lp lm lq h H (by omega) hd hv
theorem r08_onE (N D:Nat)(b:Bool)(g:Gr)(c:Ch)(n:Ed)(h:Hp)(hg:GV g)(he:changeE c=0)(hd:dep c.v≤D)(hv:bdV c.v)(hk:c.k=7∨c.k=8)(hn:edgeAt g.edges c.a=some n):
 callN cx (N+3*D+9) b 151 [.ag (encG g),.ag (encC c),.ag (encE n)] h=some (.tp [.ag (encG (onEF g c n).1),.sc (.int .i64 (onEF g c n).2)],h):=by
 have hid:=changeE_id he;have hm:=edgeAt_id hn;have hp:=partsE_zero (hg.ep n hm.1);obtain⟨p,m,q,hs⟩:=splE c.a hg.se;rw[edgeAt_spl hs]at hn;have hm1:=head_one hn hs.one;subst hm1;have H:OnE g c n p q:=⟨by have:=hg.el;omega,hs,hm.2,by omega,by omega⟩;have e1:=spl_pre hs;have e2:=spl_post hs;unfold onEF loE hiE;rw[e1,e2];rcases hk with k|k
 ·rw[if_pos k];exact r08_one7 N D b g c n p q h H k
 ·rw[if_neg (by omega)];exact r08_one8 N D b g c n p q h H k hd hv
theorem r08_step (N D:Nat)(b:Bool)(g:Gr)(c:Ch)(h:Hp)(hg:GV g)(hd:dep c.v≤D)(hv:bdV c.v):
 callN cx (N+3*D+10) b 85 [.ag (encG g),.ag (encC c)] h=some (.tp [.ag (encG (stepF g c).1),.sc (.int .i64 (stepF g c).2)],h):=by
 unfold stepF;by_cases he:changeE c=0
 ·rw[if_neg (by simp[he])];have hid:=changeE_id he;obtain⟨pn,mn,qn,hs⟩:=splN c.a hg.sn;obtain⟨pe,me,qe,hse⟩:=splE c.a hg.se;have H:StB D g c pn mn qn pe me qe:=⟨by have:=hg.nl;omega,by have:=hg.el;omega,hs,hse,by omega,hd,hv⟩;have e1:loN g.nodes c.a=pn:=spl_pre hs;have e2:hiN g.nodes c.a=qn:=spl_post hs;have e3:loE g.edges c.a=pe:=spl_pre hse;have e4:hiE g.edges c.a=qe:=spl_post hse;by_cases k1:c.k=1
  ·rw[if_pos k1,e1,e2];cases hn:nodeAt g.nodes c.a with
   |
    some n=>
    rw[nodeAt_spl hs]at hn;exact r08_step_1a N D b g c pn mn qn pe me qe h H he k1 n (head_one hn hs.one) _ rfl
   |
    none=>
    rw[nodeAt_spl hs]at hn;dsimp only;by_cases hl:2000≤g.nodes.length
    ·rw[if_pos hl];exact r08_step_1b N D b g c pn mn qn pe me qe h H he k1 (head_none hn) hl
    ·rw[if_neg hl];exact r08_step_1c N D b g c pn mn qn pe me qe h H he k1 (head_none hn) (by omega)
  ·rw[if_neg k1];by_cases k6:c.k=6
   ·rw[if_pos k6,e3,e4];cases hn:edgeAt g.edges c.a with
    |
     some n=>
     rw[edgeAt_spl hse]at hn;exact r08_step_6a N D b g c pn mn qn pe me qe h H he k6 n (head_one hn hse.one)
    |
     none=>
     rw[edgeAt_spl hse]at hn;dsimp only;by_cases hb:((nodeAt g.nodes c.b).isSome && (nodeAt g.nodes c.c).isSome)=false
     ·rw[if_pos hb];exact r08_step_6b N D b g c pn mn qn pe me qe h H he k6 (head_none hn) hb
     ·rw[if_neg hb];have hb':((nodeAt g.nodes c.b).isSome && (nodeAt g.nodes c.c).isSome)=true:=by cases q:((nodeAt g.nodes c.b).isSome && (nodeAt g.nodes c.c).isSome)with|true=>rfl|false=>exact absurd q hb
      by_cases hl:4000≤g.edges.length
      ·rw[if_pos hl];exact r08_step_6c N D b g c pn mn qn pe me qe h H he k6 (head_none hn) hb' hl
      ·rw[if_neg hl];exact r08_step_6d N D b g c pn mn qn pe me qe h H he k6 (head_none hn) hb' (by omega)
   ·rw[if_neg k6];by_cases k78:c.k=7∨c.k=8
    ·rw[if_pos k78];cases hn:edgeAt g.edges c.a with
     |
      none=>
      rw[edgeAt_spl hse]at hn;rcases k78 with k|k
      ·exact r08_step_e0_7 N D b g c pn mn qn pe me qe h H he k (head_none hn)
      ·exact r08_step_e0_8 N D b g c pn mn qn pe me qe h H he k (head_none hn)
     |
      some n=>
      have hon:=fun b h=>r08_onE N D b g c n h hg he hd hv k78 hn
      rw[edgeAt_spl hse]at hn;rcases k78 with k|k
      ·exact r08_step_e1_7 N D b g c pn mn qn pe me qe h H he k n (head_one hn hse.one) _ _ hon
      ·exact r08_step_e1_8 N D b g c pn mn qn pe me qe h H he k n (head_one hn hse.one) _ _ hon
    ·rw[if_neg k78];have k7:¬c.k=7:=fun e=>k78 (Or.inl e)
     have k8:¬c.k=8:=fun e=>k78 (Or.inr e)
     cases hn:nodeAt g.nodes c.a with
     |
      none=>
      rw[nodeAt_spl hs]at hn;exact r08_step_n0 N D b g c pn mn qn pe me qe h H he k1 k6 k7 k8 (head_none hn)
     |
      some n=>
      have hon:=fun b h=>r08_onN N D b g c n h hg he hd hv k1 k6 k7 k8 hn
      rw[nodeAt_spl hs]at hn;exact r08_step_n1 N D b g c pn mn qn pe me qe h H he k1 k6 k7 k8 n (head_one hn hs.one) _ _ hon
 ·rw[if_pos he];exact r08_step_bad N D b g c h hd hv he
set_option maxHeartbeats 16000000
def appF (g:Gr)(c:Ch):Gr × Int:=if¬graphE g=0 then(zeroG,graphE g)else stepF g c
theorem r08_Apply (N D:Nat)(b:Bool)(g:Gr)(c:Ch)(h:Hp)(hb:GrB D g)(hd:dep c.v≤D)(hv:bdV c.v):
 callN cx (N+3*D+11) b 39 [.ag (encG g),.ag (encC c)] h=some (.tp [.ag (encG (appF g c).1),.sc (.int .i64 (appF g c).2)],h):=by
 refine pure_exN (f:=39) (n:=N+3*D+10) (args:=[.ag (encG g),.ag (encC c)]) (.tp [.ag (encG (appF g c).1),.sc (.int .i64 (appF g c).2)]) ⟨Tryz.f39.ntmps,(Tryz.f39.body).getD .skip,[.cell 4 4 true,.tmp 5]⟩ (by kernel_rfl) (by kernel_rfl) rfl (by kernel_rfl) (by simp[Tryz.f39]) (calm_st _ _) ?_ (by decide) b h;have f1:=fun b h=>r07_Check (N+D+2) D b g h hb
 rw[show N+D+2+2*D+8=N+3*D+10 by omega]at f1;have f2:=fun b h (k:graphE g=0)=>r08_step N D b g c h (gv_of k) hd hv
 generalize N+3*D+10=M at f1 f2;unfold appF;by_cases he:graphE g=0
 ·rw[if_neg (by simp[he])];have f2:=fun b h=>f2 b h he
  generalize stepF g c=r at f2;obtain⟨G,E⟩:=r;rw[he]at f1;simp only[encC,encG,ndV,edV,Zv,Zw]at f1 f2;simp[Tryz.f39,encG,ndV,edV,encC,f1,f2];exact⟨_,_,⟨rfl,rfl⟩,_,rfl,nfR_tpG G _⟩
 ·rw[if_pos he];clear f2;simp only[encC,encG,ndV,edV,Zv,Zw]at f1;generalize graphE g=e at f1 he;simp[Tryz.f39,encG,ndV,edV,encC,f1,he];exact⟨_,_,⟨rfl,rfl⟩,_,rfl,nfR_tp0 _⟩
def triS (x:Int):Int:=if x=0 then 0 else if x=2 then 2 else 1
theorem r04_tri (n:Nat)(b:Bool)(x:Int)(h:Hp):callN cx (n+1) b 223 [.sc (.int .i64 x)] h=some (.sc (.int .i64 (triS x)),h):=by
 refine pure_calm (n:=n) (r:= .sc (.int .i64 (triS x))) ⟨Tryz.f223.ntmps,(Tryz.f223.body).getD .skip,[.tmp 2]⟩ (by kernel_rfl) (by kernel_rfl) rfl (by kernel_rfl) (by simp[Tryz.f223]) rfl rfl ?_ b h;by_cases h0:x=0
 ·simp[Tryz.f223,triS,h0]
 ·by_cases h2:x=2
  ·simp[Tryz.f223,triS,h2]
  ·simp[Tryz.f223,triS,h0,h2]
def andS (x y:Int):Int:=if triS y<triS x then triS y else triS x
theorem r04_And (n:Nat)(b:Bool)(x y:Int)(h:Hp):callN cx (n+2) b 154 [.sc (.int .i64 x),.sc (.int .i64 y)] h=some (.sc (.int .i64 (andS x y)),h):=by
 refine pure_calm (n:=n+1) (r:= .sc (.int .i64 (andS x y))) ⟨Tryz.f154.ntmps,(Tryz.f154.body).getD .skip,[.tmp 4]⟩ (by kernel_rfl) (by kernel_rfl) rfl (by kernel_rfl) (by simp[Tryz.f154]) rfl rfl ?_ b h;have f1:=r04_tri n;unfold andS;by_cases hc:triS y<triS x
 ·simp[Tryz.f154,f1,hc]
 ·simp[Tryz.f154,f1,hc]
mutual
def eqV :V→V→Int
 |
  .mk k n d s z l,w=>
  if k=0∨w.k=0∨okT (.mk k n d s z l)=false∨okT w=false then 1
  else if numB (.mk k n d s z l)=true∧numB w=true then yesI (decide (cmpF (numN (.mk k n d s z l)) (numD (.mk k n d s z l)) (numN w) (numD w)=0))
  else if¬k=w.k then 0
  else if k=4 then yesI (eqS s w.s)
  else if¬k=8∧¬k=7 then yesI (decide (n=w.n))
  else if¬l.length=w.l.length then 0 else eqL l w.l 2
def eqL :List V→List V→Int→Int
 | [],_,a=>a
 |
  x::xs,m,a=>match m with
  | []=>a
  |y::ys=>eqL xs ys (andS a (eqV x y))
end
def EC (N:Nat)(v w:V):Prop:=∀b h,callN cx N b 88 [.ag (enc v),.ag (enc w)] h=some (.sc (.int .i64 (eqV v w)),h)
def eqLD (l m:List V)(a:Int)(i:Nat):Int:=eqL (l.drop i) (m.drop i) a
theorem eqLD_end (l m:List V)(a:Int)(i:Nat)(h:l.length≤i):eqLD l m a i=a:=by
 unfold eqLD;rw[Zt h,eqL]
theorem eqLD_step {l m:List V}{i:Nat}{x y:V}(a:Int)(h:l[i]?=some x)(h':m[i]?=some y):eqLD l m a i=eqLD l m (andS a (eqV x y)) (i+1):=by
 obtain⟨k,e⟩:=Za.1 h;obtain⟨k',e'⟩:=Za.1 h';unfold eqLD;rw[Zm k,e,Zm k',e',eqL]
theorem calm_v1 (v:V):calm (.ag (enc v))=true:=by
 cases v;rw[enc];unfold lsV;rename_i z l;cases (z && (encL l).isEmpty)<;>rfl
theorem calm_vv (v w:V):[AV.ag (enc v),.ag (enc w)].all calm=true:=by
 rw[Zn,Zn,calm_v1,calm_v1];rfl
structure EqB (M:Nat)(k n d:Int)(s:ByteArray)(L:AV)(p:Bool)(N1 D1:Int)(B1:Bool):Prop where
 v:∀b h,callN cx M b 96 [.ag [.sc (.int .i64 k),.sc (.int .i64 n),.sc (.int .i64 d),.sc (.string s),L]] h=some (.sc (.bool p),h)
 n:∀b h,callN cx M b 101 [.ag [.sc (.int .i64 k),.sc (.int .i64 n),.sc (.int .i64 d),.sc (.string s),L]] h=some (.tp [frA N1 D1,.sc (.bool B1)],h)
theorem r04_Equal1 (M:Nat)(k n d k' n' d':Int)(s s':ByteArray)(L L':AV)(p q:Bool)(N1 D1 N2 D2:Int)(B1 B2:Bool)(hL:calm1 L=true)(hL':calm1 L'=true)
 (H:EqB M k n d s L p N1 D1 B1) (H':EqB M k' n' d' s' L' q N2 D2 B2) (c:Int)
 (hc:∀b h,callN cx M b 102 [frA N1 D1,frA N2 D2] h=some (.sc (.int .i64 c),h)) (hy:∀x b h,callN cx M b 97 [.sc (.bool x)] h=some (.sc (.int .i64 (yesI x)),h))
 (hn:(k=0∨k'=0∨p=false∨q=false)∨(B1=true∧B2=true)∨¬k=k'∨k=4∨(¬k=8∧¬k=7)) (b:Bool) (h:Hp):
 callN cx (M+1) b 88 [.ag [.sc (.int .i64 k),.sc (.int .i64 n),.sc (.int .i64 d),.sc (.string s),L],.ag [.sc (.int .i64 k'),.sc (.int .i64 n'),.sc (.int .i64 d'),.sc (.string s'),L']] h=some (.sc (.int .i64 (
  if k=0∨k'=0∨p=false∨q=false then 1
  else if B1=true∧B2=true then yesI (decide (c=0))
  else if¬k=k' then 0
  else if k=4 then yesI (eqS s s')
  else yesI (decide (n=n')))),h):=by
 refine pure_calm (n:=M) (r:= .sc (.int .i64 _)) ⟨Tryz.f88.ntmps,(Tryz.f88.body).getD .skip,[.tmp 4]⟩ (by kernel_rfl) (by kernel_rfl) rfl (by kernel_rfl) (by simp[Tryz.f88]) (by rw[Zn,Zn,calm_ag1,calm_ag1];simp[hL,hL']) rfl ?_ b h;have f1:=H.v;have f2:=H.n;have f3:=H'.v;have f4:=H'.n;unfold frA at f2 f4 hc;clear H H';by_cases k0:k=0
 ·simp[Tryz.f88,k0]
 ·by_cases k0':k'=0
  ·simp[Tryz.f88,k0,k0']
  ·cases p
   ·simp[Tryz.f88,k0,k0',f1]
   ·cases q
    ·simp[Tryz.f88,k0,k0',f1,f3]
    ·have hn':(B1=true∧B2=true)∨¬k=k'∨k=4∨(¬k=8∧¬k=7):=by
      rcases hn with(e|e|e|e)|e
      ·exact absurd e k0
      ·exact absurd e k0'
      ·cases e
      ·cases e
      ·exact e
     clear hn;by_cases hB:B1=true∧B2=true
     ·obtain⟨rfl,rfl⟩:=hB;simp[Tryz.f88,k0,k0',f1,f2,f3,f4,hc,hy]
     ·have hn2:¬k=k'∨k=4∨(¬k=8∧¬k=7):=by
       rcases hn' with e|e
       ·exact absurd e hB
       ·exact e
      cases B1<;>cases B2
      case true.true=>exact absurd ⟨rfl,rfl⟩ hB
      all_goals
       by_cases hk:k=k'
       ·subst hk;by_cases h4:k=4
        ·subst h4;simp[Tryz.f88,f1,f2,f3,f4,hy]
        ·have h8:¬k=8∧¬k=7:=by
          rcases hn2 with e|e|e
          ·exact absurd rfl e
          ·exact absurd e h4
          ·exact e
         simp[Tryz.f88,k0,f1,f2,f3,f4,hy,h4,h8.1,h8.2]
       ·simp[Tryz.f88,k0,k0',f1,f2,f3,f4,hy,hk]
set_option maxHeartbeats 16000000
theorem r04_Equal2 (M:Nat)(k n d n' d':Int)(s s':ByteArray)(z z':Bool)(l m:List V)(N1 D1 N2 D2:Int)
 (H:EqB M k n d s (evL z l) true N1 D1 false) (H':EqB M k n' d' s' (evL z' m) true N2 D2 false)
 (ha:∀x y b h,callN cx M b 154 [.sc (.int .i64 x),.sc (.int .i64 y)] h=some (.sc (.int .i64 (andS x y)),h))
 (ho:∀x∈l,∀y∈m,EC M x y) (hk:k=8∨k=7) (hl:l.length≤1000000000000000) (b:Bool) (h:Hp):
 callN cx (M+1) b 88 [.ag [.sc (.int .i64 k),.sc (.int .i64 n),.sc (.int .i64 d),.sc (.string s),evL z l],.ag [.sc (.int .i64 k),.sc (.int .i64 n'),.sc (.int .i64 d'),.sc (.string s'),evL z' m]] h=some (.sc (.int .i64 (
  if¬l.length=m.length then 0 else eqL l m 2)),h):=by
 have c1:calm1 (evL z l)=true:=by unfold evL lsV;cases z && (encL l).isEmpty<;>rfl
 have c2:calm1 (evL z' m)=true:=by unfold evL lsV;cases z' && (encL m).isEmpty<;>rfl
 refine pure_calm (n:=M) (r:= .sc (.int .i64 _)) ⟨Tryz.f88.ntmps,(Tryz.f88.body).getD .skip,[.tmp 4]⟩ (by kernel_rfl) (by kernel_rfl) rfl (by kernel_rfl) (by simp[Tryz.f88]) (by rw[Zn,Zn,calm_ag1,calm_ag1];simp[c1,c2]) rfl ?_ b h;have f1:=H.v;have f2:=H.n;have f3:=H'.v;have f4:=H'.n;unfold frA at f2 f4;clear H H' c1 c2;have hL:=evL_cases z l;have hL':=evL_cases z' m;generalize evL z l=L at hL f1 f2;generalize evL z' m=L' at hL' f3 f4;have hq:=encL_length l;have hg:=encL_get l;have hq':=encL_length m;have hg':=encL_get m;generalize encL l=rows at hq hg hL;generalize encL m=rows' at hq' hg' hL';by_cases hlen:l.length=m.length
 ·rw[if_neg (by simp[hlen])];have hi':((l.length:Int)=(m.length:Int)):=by omega
  by_cases h0:l.length=0
  ·have h0':m.length=0:=by omega
   have e0:eqL l m 2=2:=by
    have:=Zl h0;subst this;rw[eqL]
   have hr:rows=[]:=Zl (by omega);have hr':rows'=[]:=Zl (by omega);subst hr hr';rw[e0];rcases hL with hL|⟨hL,hz⟩<;>rcases hL' with hL'|⟨hL',hz'⟩<;>subst hL<;>subst hL'<;>rcases hk with rfl|rfl
   all_goals
    simp[Tryz.f88,f1,f2,f3,f4];refine loop_up (C:=cx) (G:=fun r=>∃h',finX _ (thenX _ _ (blockX _ r) _)=some (_,h'))
     (fun i st=>st.1.length=104∧gt st.1 2= .pt 0 0∧gt st.1 10= .sc (.int .i64 0)∧gt st.1 9= .sc (.int .i64 2)∧∃k n d s L0,st.2[0]?=some (.row [.sc (.int .i64 k),.sc (.int .i64 n),.sc (.int .i64 d),.sc (.string s),L0])∧(L0= .ls 5 [] z∨L0= .sc (.slice none 0 0)))
     (fun o st=>o= .exit 0∧st.1.length=104∧gt st.1 9= .sc (.int .i64 2)) 0 (by simp) (by first|exact⟨rfl,rfl,rfl,rfl,_,_,_,_,_,rfl,Or.inl rfl⟩|exact⟨rfl,rfl,rfl,rfl,_,_,_,_,_,rfl,Or.inr rfl⟩) ?_ ?_
    ·rintro i fr h hle ⟨hlen,g2,g10,g9,k,n,d,s,L0,s0,hL0|hL0⟩<;>subst hL0<;>simp only at hlen g2 g10 g9 s0<;>simp[hlen,g2,g10,g9,s0]
    ·rintro o fr h hn ⟨rfl,hlen,g9⟩;simp only at hlen g9;simp[hlen,g9]
  ·rcases hL with hL|⟨hL,hz⟩
   ·rcases hL' with hL'|⟨hL',hz'⟩
    ·subst hL hL';have hlen0:=hlen;rcases hk with rfl|rfl
     ·simp[Tryz.f88,f1,f2,f3,f4,hq,hq',hi',hlen];refine loop_up (C:=cx) (G:=fun r=>∃h',finX _ (thenX _ _ (blockX _ r) _)=some (_,h'))
       (fun i st=>i≤m.length∧st.1.length=104∧gt st.1 2= .pt 0 0∧gt st.1 3= .pt 1 0∧gt st.1 10= .sc (.int .i64 i)∧st.2[0]?=some (.row [.sc (.int .i64 8),.sc (.int .i64 n),.sc (.int .i64 d),.sc (.string s),.ls 5 rows z])∧st.2[1]?=some (.row [.sc (.int .i64 8),.sc (.int .i64 n'),.sc (.int .i64 d'),.sc (.string s'),.ls 5 rows' z'])∧∃a,gt st.1 9= .sc (.int .i64 a)∧eqL l m 2=eqLD l m a i)
       (fun o st=>o= .exit 0∧st.1.length=104∧gt st.1 9= .sc (.int .i64 (eqL l m 2))) m.length (by simp;omega) (by simp[eqLD]) ?_ ?_
      ·rintro i fr h hle ⟨hle',hlen,g2,g3,g10,s0,s1,a,g9,hor⟩;simp only at hlen g2 g3 g10 g9 s0 s1;have hf:fitI .i64 ((i:Int)+1)=((i+1:Nat):Int):=fit_i64 (by omega) (by omega);by_cases hi:i<m.length
       ·obtain⟨x,hx⟩:∃c,l[i]?=some c:=⟨_,Zb (by omega)⟩;obtain⟨y,hy⟩:∃c,m[i]?=some c:=⟨_,Zb hi⟩;have hr:rows[i]?=some (enc x):=by rw[hg,hx];rfl
        have hr2:rows'[i]?=some (enc y):=by rw[hg',hy];rfl
        have hr':∀k,rows[i]'k=enc x:=fun k=>by obtain⟨_,e⟩:=Za.1 hr;exact e
        have hr2':∀k,rows'[i]'k=enc y:=fun k=>by obtain⟨_,e⟩:=Za.1 hr2;exact e
        have hcall:=ho x (Zi hx) y (Zi hy);unfold EC at hcall;rw[eqLD_step a hx hy]at hor;generalize eqV x y=c at hcall hor;generalize eqL l m 2=T at hor;simp[hlen,g2,g3,g10,g9,s0,s1,hi,hlen0,hq,hq',hr,hr',hr2,hr2',hcall,ha,hf];exact⟨by omega,hor⟩
       ·have hz:=eqLD_end l m a i (by omega);rw[hz]at hor;simp[hlen,g2,g3,g10,g9,s0,s1,hi,hlen0,hq,hq',hor]
      ·rintro o fr h hn ⟨rfl,hlen,g9⟩;simp only at hlen g9;simp[hlen,g9]
     ·simp[Tryz.f88,f1,f2,f3,f4,hq,hq',hi',hlen];refine loop_up (C:=cx) (G:=fun r=>∃h',finX _ (thenX _ _ (blockX _ r) _)=some (_,h'))
       (fun i st=>i≤m.length∧st.1.length=104∧gt st.1 2= .pt 0 0∧gt st.1 3= .pt 1 0∧gt st.1 10= .sc (.int .i64 i)∧st.2[0]?=some (.row [.sc (.int .i64 7),.sc (.int .i64 n),.sc (.int .i64 d),.sc (.string s),.ls 5 rows z])∧st.2[1]?=some (.row [.sc (.int .i64 7),.sc (.int .i64 n'),.sc (.int .i64 d'),.sc (.string s'),.ls 5 rows' z'])∧∃a,gt st.1 9= .sc (.int .i64 a)∧eqL l m 2=eqLD l m a i)
       (fun o st=>o= .exit 0∧st.1.length=104∧gt st.1 9= .sc (.int .i64 (eqL l m 2))) m.length (by simp;omega) (by simp[eqLD]) ?_ ?_
      ·rintro i fr h hle ⟨hle',hlen,g2,g3,g10,s0,s1,a,g9,hor⟩;simp only at hlen g2 g3 g10 g9 s0 s1;have hf:fitI .i64 ((i:Int)+1)=((i+1:Nat):Int):=fit_i64 (by omega) (by omega);by_cases hi:i<m.length
       ·obtain⟨x,hx⟩:∃c,l[i]?=some c:=⟨_,Zb (by omega)⟩;obtain⟨y,hy⟩:∃c,m[i]?=some c:=⟨_,Zb hi⟩;have hr:rows[i]?=some (enc x):=by rw[hg,hx];rfl
        have hr2:rows'[i]?=some (enc y):=by rw[hg',hy];rfl
        have hr':∀k,rows[i]'k=enc x:=fun k=>by obtain⟨_,e⟩:=Za.1 hr;exact e
        have hr2':∀k,rows'[i]'k=enc y:=fun k=>by obtain⟨_,e⟩:=Za.1 hr2;exact e
        have hcall:=ho x (Zi hx) y (Zi hy);unfold EC at hcall;rw[eqLD_step a hx hy]at hor;generalize eqV x y=c at hcall hor;generalize eqL l m 2=T at hor;simp[hlen,g2,g3,g10,g9,s0,s1,hi,hlen0,hq,hq',hr,hr',hr2,hr2',hcall,ha,hf];exact⟨by omega,hor⟩
       ·have hz:=eqLD_end l m a i (by omega);rw[hz]at hor;simp[hlen,g2,g3,g10,g9,s0,s1,hi,hlen0,hq,hq',hor]
      ·rintro o fr h hn ⟨rfl,hlen,g9⟩;simp only at hlen g9;simp[hlen,g9]
    ·omega
   ·omega
 ·rw[if_pos hlen];have hi':¬((l.length:Int)=(m.length:Int)):=by omega
  rcases hL with hL|⟨hL,hz⟩
  ·rcases hL' with hL'|⟨hL',hz'⟩
   ·subst hL hL';rcases hk with rfl|rfl<;>simp[Tryz.f88,f1,f2,f3,f4,hq,hq',hi',hlen]
   ·subst hL hL';have hne:¬l=[]:=fun e=>hlen (by rw[e,hz'];rfl)
    rcases hk with rfl|rfl<;>simp[Tryz.f88,f1,f2,f3,f4,hq,hne]
  ·rcases hL' with hL'|⟨hL',hz'⟩
   ·subst hL hL';have hne:¬0=(m.length:Int):=fun e=>hlen (by omega)
    rcases hk with rfl|rfl<;>simp[Tryz.f88,f1,f2,f3,f4,hq',hne]
   ·exact absurd (by omega) hlen
set_option maxHeartbeats 8000000
theorem if5 {P Q R S U:Prop}[Decidable P][Decidable Q][Decidable R][Decidable S][Decidable U](hn:P∨Q∨R∨S∨U)(a b c d e T:Int):
 (if P then a else if Q then b else if R then c else if S then d else if U then e else T)=(if P then a else if Q then b else if R then c else if S then d else e):=by
 split
 ·rfl
 ·rename_i q1;split
  ·rfl
  ·rename_i q2;split
   ·rfl
   ·rename_i q3;split
    ·rfl
    ·rename_i q4;rw[if_pos];rcases hn with e|e|e|e|e
     ·exact absurd e q1
     ·exact absurd e q2
     ·exact absurd e q3
     ·exact absurd e q4
     ·exact e
theorem if6 {P Q R S U:Prop}[Decidable P][Decidable Q][Decidable R][Decidable S][Decidable U](p:¬P)(q:¬Q)(r:¬R)(s:¬S)(u:¬U)(a b c d e T:Int):
 (if P then a else if Q then b else if R then c else if S then d else if U then e else T)=T:=by
 rw[if_neg p,if_neg q,if_neg r,if_neg s,if_neg u]
theorem EC_all :∀(D:Nat) (v w:V),dep v≤D→dep w≤D→bdV v→bdV w→∀N,EC (N+2*D+6) v w:=by
 intro D
 induction D with
 |zero=>intro v w h;have:=dep_pos v;omega
 |
  succ D ih=>
  intro v w dv dw bv bw N b h;have ho:∀x∈v.l,∀y∈w.l,EC (N+2*D+7) x y:=fun x hx y hy=>by
   have:=ih x y (dep_l dv x hx) (dep_l dw y hy) ((bdV_l bv).2 x hx) ((bdV_l bw).2 y hy) (N+1);rw[show N+1+2*D+6=N+2*D+7 by omega]at this;exact this
  have hv:=fun b h=>r04_Valid (N+1) (D+1) v dv bv b h
  have hw:=fun b h=>r04_Valid (N+1) (D+1) w dw bw b h
  have nv:=fun b h=>r04_Number N (D+1) v dv bv b h
  have nw:=fun b h=>r04_Number N (D+1) w dw bw b h
  rw[show N+1+2*(D+1)+4=N+2*D+7 by omega]at hv hw;rw[show N+2*(D+1)+5=N+2*D+7 by omega]at nv nw;rw[show N+2*(D+1)+6=N+2*D+7+1 by omega];have hy:=fun x b h=>r04_yes (N+2*D+6) b x h
  have ha:=fun x y b h=>r04_And (N+2*D+5) b x y h
  have hcm:=fun b h=>r03_Cmp (N+2*D+4) b (numN v) (numD v) (numN w) (numD w) h
  have hl:=(bdV_l bv).1;cases v with
  |
   mk k n d s z l=>
   cases w with
   |
    mk k' n' d' s' z' m=>
    simp only[V.l]at ho hl;have H:EqB (N+2*D+7) k n d s (evL z l) (okT (.mk k n d s z l)) (numN (.mk k n d s z l)) (numD (.mk k n d s z l)) (numB (.mk k n d s z l)):=⟨hv,nv⟩;have H':EqB (N+2*D+7) k' n' d' s' (evL z' m) (okT (.mk k' n' d' s' z' m)) (numN (.mk k' n' d' s' z' m)) (numD (.mk k' n' d' s' z' m)) (numB (.mk k' n' d' s' z' m)):=⟨hw,nw⟩;have c1:calm1 (evL z l)=true:=by unfold evL lsV;cases z && (encL l).isEmpty<;>rfl
    have c2:calm1 (evL z' m)=true:=by unfold evL lsV;cases z' && (encL m).isEmpty<;>rfl
    rw[eqV];simp only[V.k,V.n,V.s,V.l];by_cases hn:(k=0∨k'=0∨okT (.mk k n d s z l)=false∨okT (.mk k' n' d' s' z' m)=false)∨(numB (.mk k n d s z l)=true∧numB (.mk k' n' d' s' z' m)=true)∨¬k=k'∨k=4∨(¬k=8∧¬k=7)
    ·have:=r04_Equal1 _ _ _ _ _ _ _ _ _ _ _ _ _ _ _ _ _ _ _ c1 c2 H H' _ hcm hy hn b h;exact this.trans (congrArg (fun x=>some (AV.sc (.int .i64 x),h)) (if5 hn _ _ _ _ _ _).symm)
    ·have q1:¬(k=0∨k'=0∨okT (.mk k n d s z l)=false∨okT (.mk k' n' d' s' z' m)=false):=fun e=>hn (.inl e)
     have q2:¬(numB (.mk k n d s z l)=true∧numB (.mk k' n' d' s' z' m)=true):=fun e=>hn (.inr (.inl e))
     have q3:k=k':=by
      by_cases e:k=k'
      ·exact e
      ·exact absurd (.inr (.inr (.inl e))) hn
     have q5:k=8∨k=7:=by
      by_cases e:k=8
      ·exact .inl e
      ·by_cases e':k=7
       ·exact .inr e'
       ·exact absurd (.inr (.inr (.inr (.inr ⟨e,e'⟩)))) hn
     subst q3;have o1:okT (.mk k n d s z l)=true:=by
      cases e:okT (.mk k n d s z l)with
      |true=>rfl
      |false=>exact absurd (.inr (.inr (.inl e))) q1
     have o2:okT (.mk k n' d' s' z' m)=true:=by
      cases e:okT (.mk k n' d' s' z' m)with
      |true=>rfl
      |false=>exact absurd (.inr (.inr (.inr e))) q1
     have b0:(decide (k=2)||decide (k=3))=false:=by simp;omega
     have b1:numB (.mk k n d s z l)=false:=by show(okT _ && (decide (k=2)||decide (k=3)))=false;rw[b0,Bool.and_false]
     have b2:numB (.mk k n' d' s' z' m)=false:=by show(okT _ && (decide (k=2)||decide (k=3)))=false;rw[b0,Bool.and_false]
     rw[o1,b1]at H;rw[o2,b2]at H';exact(r04_Equal2 _ _ _ _ _ _ _ _ _ _ _ _ _ _ _ _ H H' ha ho q5 hl b h).trans (congrArg (fun x=>some (AV.sc (.int .i64 x),h)) (if6 q1 q2 (by simp) (by omega) (by omega) _ _ _ _ _ _).symm)
theorem r04_Equal (N D:Nat)(b:Bool)(v w:V)(h:Hp)(dv:dep v≤D)(dw:dep w≤D)(bv:bdV v)(bw:bdV w):callN cx (N+2*D+6) b 88 [.ag (enc v),.ag (enc w)] h=some (.sc (.int .i64 (eqV v w)),h):=
 EC_all D v w dv dw bv bw N b h
theorem propAt_b {l:List Prp}{D:Nat}(x:ByteArray)(hb:PrB D l)(hD:1≤D):dep (propAt l x)≤D∧bdV (propAt l x):=by
 induction l with
 |nil=>exact⟨hD,bdV_zero⟩
 |
  cons c l ih=>
  rw[propAt];split
  ·exact hb c (List.mem_cons_self ..)
  ·exact ih fun y hy=>hb y (List.mem_cons_of_mem _ hy)
theorem calm_P1 (l:List Prp)(z:Bool)(p:Pr):[prV l z,.ag (encP p)].all calm=true:=by
 have h:calm (.ag (encP p))=true:=calm_evP p;rw[Zn,Zn,h];rfl
def equalS (l:List Prp)(p:Pr):Bool:=decide (eqV (propAt l p.y) p.v=2)
theorem r45_equal (N D:Nat)(b:Bool)(l:List Prp)(z:Bool)(p:Pr)(h:Hp)(hl:l.length≤1000000000000000)(hb:PrB D l)(hD:dep p.v≤D)(hv:bdV p.v):
 callN cx (N+2*D+7) b 87 [prV l z,.ag (encP p)] h=some (.sc (.bool (equalS l p)),h):=by
 have h1:1≤D:=Ym (dep_pos p.v) hD;have hp:=propAt_b p.y hb h1;refine pure_calm (r:= .sc (.bool (equalS l p))) (n:=N+2*D+6) ⟨Tryz.f87.ntmps,(Tryz.f87.body).getD .skip,[.tmp 4]⟩ (by kernel_rfl) (by kernel_rfl) rfl (by kernel_rfl) (by simp[Tryz.f87]) (calm_P1 _ _ _) rfl ?_ b h;have f1:=fun b h=>r07_Prop (N+2*D+5) b l z p.y h hl
 have f2:=fun b h=>r04_Equal N D b (propAt l p.y) p.v h hp.1 hD hp.2 hv
 unfold equalS;generalize eqV (propAt l p.y) p.v=e at f2;generalize propAt l p.y=v at f1 f2;obtain⟨pk,pn,py,pv⟩:=p;dsimp only at f1 f2;obtain⟨k,m,d,s,z1,q⟩:=v;obtain⟨k',m',d',s',z2,q'⟩:=pv;simp only[enc,prV,encP,Zv,Zw]at f1 f2⊢;generalize lsV z1 (encL q)=y at f1 f2;generalize lsV z2 (encL q')=y' at f2⊢;generalize N+2*D+6=M at f1 f2;by_cases he:e=2<;>simp[Tryz.f87,f1,f2,he]
end
end Go.Proofs.YtadaeokidcgdlaaGreatDoor
