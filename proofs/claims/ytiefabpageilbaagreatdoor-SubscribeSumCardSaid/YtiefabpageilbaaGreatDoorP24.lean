/- The plain law: the order of values is a total order. -/
import Derived.Test.YtiefabpageilbaaGreatDoorP21
import Derived.Test.YtiefabpageilbaaGreatDoorP23
import Derived.Test.YtiefabpageilbaaGreatDoorP15
import Derived.Test.YtiefabpageilbaaGreatDoorP12
set_option linter.all false
set_option maxRecDepth 100000
namespace Go.Proofs.YtiefabpageilbaaGreatDoor
open Go Go.Ae
structure Cmp3 {α:Type}(P:α→Prop)(f:α→α→Int):Prop where
 neg:∀a b,P a→P b→f a b= -(f b a)
 tr:∀a b c,P a→P b→P c→f a b≤0→f b c≤0→f a c≤0
theorem Cmp3.self {α:Type}{P:α→Prop}{f:α→α→Int}(h:Cmp3 P f){a:α}(ha:P a):f a a=0:=by have:=h.neg a a ha ha;omega
def lexI {α:Type}(f g:α→α→Int)(a b:α):Int:=if f a b=0 then g a b else f a b
theorem Cmp3.zeros {α:Type}{P:α→Prop}{f:α→α→Int}(hf:Cmp3 P f){a b c:α}(ha:P a)(hb:P b)(hc:P c)(h1:f a b≤0)(h2:f b c≤0):f a c<0∨f a c=0∧f a b=0∧f b c=0:=by
 have h3:=hf.tr a b c ha hb hc h1 h2;by_cases e:f a c=0
 ·right;have e1:=hf.neg c a hc ha;have e2:=hf.tr b c a hb hc ha h2 (by omega);have e3:=hf.tr c a b hc ha hb (by omega) h1;have e4:=hf.neg a b ha hb;have e5:=hf.neg b c hb hc;omega
 ·left;omega
theorem lex_le {f g:Int}(h:(if f=0 then g else f)≤0):f≤0∧(f=0→g≤0):=by
 by_cases e:f=0
 ·rw[if_pos e]at h;exact⟨by omega,fun _=>h⟩
 ·rw[if_neg e]at h;exact⟨h,fun q=>absurd q e⟩
theorem Cmp3.lex {α:Type}{P:α→Prop}{f g:α→α→Int}(hf:Cmp3 P f)(hgn:∀a b,P a→P b→f a b=0→g a b= -(g b a))
 (hg:∀a b c,P a→P b→P c→f a b=0→f b c=0→f a c=0→g a b≤0→g b c≤0→g a c≤0):Cmp3 P (lexI f g):={
 neg:=fun a b ha hb=>by
  have e:=hf.neg a b ha hb;unfold lexI;by_cases h:f a b=0
  ·rw[if_pos h,if_pos (by omega)];exact hgn a b ha hb h
  ·rw[if_neg h,if_neg (by omega)];exact e
 tr:=fun a b c ha hb hc h1 h2=>by
  unfold lexI at *;obtain⟨a1,a2⟩:=lex_le h1;obtain⟨b1,b2⟩:=lex_le h2;rcases hf.zeros ha hb hc a1 b1 with h|⟨h,h',h''⟩
  ·rw[if_neg (by omega)];omega
  ·rw[if_pos h];exact hg a b c ha hb hc h' h'' h (a2 h') (b2 h'')}
theorem Cmp3.lex' {α:Type}{P:α→Prop}{f g:α→α→Int}(hf:Cmp3 P f)(hg:Cmp3 P g):Cmp3 P (lexI f g):=
 hf.lex (fun a b ha hb _=>hg.neg a b ha hb) fun a b c ha hb hc _ _ _=>hg.tr a b c ha hb hc
theorem Cmp3.map {α β:Type}{P:α→Prop}{Q:β→Prop}{f:β→β→Int}(hf:Cmp3 Q f)(k:α→β)(h:∀a,P a→Q (k a)):Cmp3 P (fun a b=>f (k a) (k b)):=
 ⟨fun a b ha hb=>hf.neg _ _ (h a ha) (h b hb),fun a b c ha hb hc=>hf.tr _ _ _ (h a ha) (h b hb) (h c hc)⟩
theorem Cmp3.anti {α:Type}{P Q:α→Prop}{f:α→α→Int}(hf:Cmp3 Q f)(h:∀a,P a→Q a):Cmp3 P f:=hf.map (fun a=>a) h
theorem cmpI_zero {x y:Int}:cmpI x y=0↔x=y:=by unfold cmpI;(repeat' split)<;>omega
theorem cmpI_3 (P:Int→Prop):Cmp3 P cmpI:=
 ⟨fun a b _ _=>by unfold cmpI;(repeat' split)<;>omega,fun a b c _ _ _=>by unfold cmpI;(repeat' split)<;>omega⟩
theorem cmpS_zero {x y:ByteArray}:cmpS x y=0↔x=y:=by
 constructor
 ·intro h;unfold cmpS at h;cases h1:ltS x y with
  |true=>rw[h1]at h;cases h
  |
   false=>
   cases h2:eqS x y with
   |true=>exact(eqS_iff x y).1 h2
   |false=>rw[h1,ltS_total h1 h2]at h;cases h
 ·rintro rfl;simp[cmpS,ltS_irrefl]
theorem cmpS_cases (x y:ByteArray):(cmpS x y= -1∧ltS x y=true)∨(cmpS x y=0∧x=y)∨(cmpS x y=1∧ltS y x=true):=by
 cases h1:ltS x y with
 |true=>left;simp[cmpS,h1]
 |
  false=>
  cases h2:eqS x y with
  |true=>right;left;exact⟨cmpS_zero.2 ((eqS_iff x y).1 h2),(eqS_iff x y).1 h2⟩
  |false=>right;right;have:=ltS_total h1 h2;simp[cmpS,h1,this]
theorem cmpS_3 (P:ByteArray→Prop):Cmp3 P cmpS:=by
 refine⟨fun a b _ _=>?_,fun a b c _ _ _ h1 h2=>?_⟩
 ·rcases cmpS_cases a b with⟨e,h⟩|⟨e,rfl⟩|⟨e,h⟩
  ·have h':=ltS_asymm h;rw[e];simp[cmpS,h,h']
  ·rw[e];rfl
  ·rw[e];simp[cmpS,h]
 ·rcases cmpS_cases a b with⟨e,h⟩|⟨e,rfl⟩|⟨e,h⟩
  ·rcases cmpS_cases b c with⟨e',h'⟩|⟨e',rfl⟩|⟨e',h'⟩
   ·have:=ltS_trans h h';simp[cmpS,this]
   ·omega
   ·omega
  ·exact h2
  ·omega
theorem sgnI_neg (x:Int):sgnI (-x)= -(sgnI x):=by unfold sgnI;(repeat' split)<;>omega
theorem sgnI_le {x:Int}:sgnI x≤0↔x≤0:=by unfold sgnI;(repeat' split)<;>omega
theorem frac_3 :Cmp3 (fun q:Int × Int=>0<q.2) (fun p q=>sgnI (p.1*q.2-q.1*p.2)):=by
 refine⟨fun a b _ _=>?_,fun a b c ha hb hc h1 h2=>?_⟩
 ·rw[←sgnI_neg];congr 1;omega
 ·rw[sgnI_le]at *;have e1:a.1*b.2*c.2≤b.1*a.2*c.2:=Int.mul_le_mul_of_nonneg_right (by omega) (by omega);have e2:b.1*c.2*a.2≤c.1*b.2*a.2:=Int.mul_le_mul_of_nonneg_right (by omega) (by omega);have e3:b.1*a.2*c.2=b.1*c.2*a.2:=by rw[Int.mul_assoc,Int.mul_assoc,Int.mul_comm a.2]
  have e4:a.1*b.2*c.2=a.1*c.2*b.2:=by rw[Int.mul_assoc,Int.mul_assoc,Int.mul_comm b.2]
  have e5:c.1*b.2*a.2=c.1*a.2*b.2:=by rw[Int.mul_assoc,Int.mul_assoc,Int.mul_comm b.2]
  have e6:a.1*c.2*b.2≤c.1*a.2*b.2:=by omega
  have:=Int.le_of_mul_le_mul_right e6 hb;omega
theorem ordL_3 {P:V→Prop}(hf:Cmp3 P ordV):Cmp3 (fun l:List V=>∀x∈l,P x) ordL:=by
 have key:∀(a b:List V),(∀x∈a,P x)→(∀x∈b,P x)→ordL a b= -(ordL b a):=by
  intro a
  induction a with
  |nil=>intro b _ _;cases b<;>simp[ordL]
  |
   cons x xs ih=>
   intro b ha hb;cases b with
   |nil=>simp[ordL]
   |
    cons y ys=>
    have e:=hf.neg x y (ha x (by simp)) (hb y (by simp));simp only[ordL];by_cases h:ordV x y=0
    ·rw[if_pos h,if_pos (by omega)];exact ih ys (fun z hz=>ha z (by simp[hz])) (fun z hz=>hb z (by simp[hz]))
    ·rw[if_neg h,if_neg (by omega)];exact e
 refine⟨fun a b ha hb=>key a b ha hb,fun a=>?_⟩
 induction a with
 |
  nil=>
  intro b c _ _ _ _ _;cases c<;>simp[ordL]
 |
  cons x xs ih=>
  intro b c ha hb hc h1 h2;cases b with
  |nil=>simp[ordL]at h1
  |
   cons y ys=>
   cases c with
   |nil=>simp[ordL]at h2
   |
    cons z zs=>
    simp only[ordL]at h1 h2⊢;obtain⟨a1,a2⟩:=lex_le h1;obtain⟨b1,b2⟩:=lex_le h2;rcases hf.zeros (ha x (by simp)) (hb y (by simp)) (hc z (by simp)) a1 b1 with h|⟨h,h',h''⟩
    ·rw[if_neg (by omega)];omega
    ·rw[if_pos h];exact ih ys zs (fun q hq=>ha q (by simp[hq])) (fun q hq=>hb q (by simp[hq])) (fun q hq=>hc q (by simp[hq])) (a2 h') (b2 h'')
def rnk (v:V):Int:=if okT v then clsV v.k else 100
def nmV (v:V):Int × Int:=(nrmN v.n (if v.k=2 then 1 else v.d),nrmD v.n (if v.k=2 then 1 else v.d))
theorem clsV_bd (k:Int):0≤clsV k∧clsV k≤7:=by unfold clsV;(repeat' split)<;>omega
theorem clsV_two {k:Int}:clsV k=2↔k=2∨k=3:=by unfold clsV;(repeat' split)<;>omega
theorem ordV_eq (v w:V):ordV v w=if okT v=okT w then(if okT w then(if cmpI (clsV v.k) (clsV w.k)=0 then(if v.k=2∨v.k=3 then cmpF v.n (if v.k=2 then 1 else v.d) w.n (if w.k=2 then 1 else w.d)else fldV v w)else cmpI (clsV v.k) (clsV w.k))else fldV v w)else if okT w then 1 else-1:=by
 cases v;rw[ordV];rfl
theorem ordV_lex (v w:V):ordV v w=lexI (fun v w=>cmpI (rnk v) (rnk w)) (fun v w=>if rnk v=2 then sgnI ((nmV v).1*(nmV w).2-(nmV w).1*(nmV v).2)else fldV v w) v w:=by
 have rt:∀v,okT v=true→rnk v=clsV v.k:=fun v h=>if_pos h
 have rf:∀v,okT v=false→rnk v=100:=fun v h=>if_neg (by rw[h];simp)
 rw[ordV_eq];unfold lexI;dsimp only;have h1:=clsV_bd v.k;have h2:=clsV_bd w.k;have h3:=clsV_two (k:=v.k);cases hv:okT v<;>cases hw:okT w
 ·simp only[rf v hv,rf w hw,cmpI_zero.2 rfl,if_true,Yg,if_false];rw[if_neg (by omega)]
 ·simp only[rf v hv,rt w hw,Yg,if_false,if_true];rw[if_neg (by rw[cmpI_zero];omega)];unfold cmpI;rw[if_neg (by omega),if_pos (by omega)]
 ·simp only[rt v hv,rf w hw,Bool.true_eq_false,Yg,if_false];rw[if_neg (by rw[cmpI_zero];omega)];unfold cmpI;rw[if_pos (by omega)]
 ·simp only[rt v hv,rt w hw,if_true,h3,cmpF,nmV]
theorem fldV_lex (v w:V):fldV v w=lexI (fun v w=>cmpI v.k w.k) (lexI (fun v w=>cmpI v.n w.n) (lexI (fun v w=>cmpI v.d w.d) (lexI (fun v w=>cmpS v.s w.s) (fun v w=>ordL v.l w.l)))) v w:=by
 simp only[fldV,orI,lexI]
 (repeat' split)<;>simp_all
theorem ordV_3 :∀D,Cmp3 (fun v=>dep v≤D) ordV:=by
 intro D
 induction D with
 |zero=>exact⟨fun a _ h=>by have:=dep_pos a;omega,fun a _ _ h=>by have:=dep_pos a;omega⟩
 |
  succ D ih=>
  have hL:Cmp3 (fun v:V=>dep v≤D+1) (fun v w=>ordL v.l w.l):=(ordL_3 ih).map V.l fun v hv=>dep_l hv
  have hF:Cmp3 (fun v:V=>dep v≤D+1) fldV:=by
   have e:fldV=lexI (fun v w=>cmpI v.k w.k) (lexI (fun v w=>cmpI v.n w.n) (lexI (fun v w=>cmpI v.d w.d) (lexI (fun v w=>cmpS v.s w.s) (fun v w=>ordL v.l w.l)))):=funext fun v=>funext fun w=>fldV_lex v w
   rw[e];exact((cmpI_3 fun _=>True).map V.k fun _ _=>trivial).lex' (((cmpI_3 fun _=>True).map V.n fun _ _=>trivial).lex' (((cmpI_3 fun _=>True).map V.d fun _ _=>trivial).lex' (((cmpS_3 fun _=>True).map V.s fun _ _=>trivial).lex' hL)))
  have hN:Cmp3 (fun v:V=>dep v≤D+1) (fun v w=>sgnI ((nmV v).1*(nmV w).2-(nmV w).1*(nmV v).2)):=frac_3.map nmV fun v _=>(nrm_ok _ _).2.2
  have e:ordV=lexI (fun v w=>cmpI (rnk v) (rnk w)) (fun v w=>if rnk v=2 then sgnI ((nmV v).1*(nmV w).2-(nmV w).1*(nmV v).2)else fldV v w):=funext fun v=>funext fun w=>ordV_lex v w
  rw[e];refine((cmpI_3 fun _=>True).map rnk fun _ _=>trivial).lex (fun a b ha hb h=>?_) fun a b c ha hb hc h1 h2 h3 k1 k2=>?_
  ·rw[cmpI_zero]at h;simp only[←h];by_cases q:rnk a=2
   ·rw[if_pos q,if_pos q];exact hN.neg a b ha hb
   ·rw[if_neg q,if_neg q];exact hF.neg a b ha hb
  ·rw[cmpI_zero]at h1 h3;simp only[←h1]at k2;by_cases q:rnk a=2
   ·rw[if_pos q]at k1 k2⊢;exact hN.tr a b c ha hb hc k1 k2
   ·rw[if_neg q]at k1 k2⊢;exact hF.tr a b c ha hb hc k1 k2
theorem ordV_neg (v w:V):ordV v w= -(ordV w v):=(ordV_3 (dep v+dep w)).neg v w (by show dep v≤_;omega) (by show dep w≤_;omega)
theorem ordV_tr (u v w:V)(h1:ordV u v≤0)(h2:ordV v w≤0):ordV u w≤0:=
 (ordV_3 (dep u+dep v+dep w)).tr u v w (by show dep u≤_;omega) (by show dep v≤_;omega) (by show dep w≤_;omega) h1 h2
theorem ordV_all :Cmp3 (fun _:V=>True) ordV:=⟨fun a b _ _=>ordV_neg a b,fun a b c _ _ _=>ordV_tr a b c⟩
section
attribute [local simp] aop aopW coldF extF putA ofConst flat scalarOp fastOp binFast intOp strOp guardX Ae.part rowOf szOk natOf lenA cls fillA splice newsOf isNilC cellX
set_option maxHeartbeats 8000000
theorem val_Order1 (M:Nat)(v w:V)(b:Bool)(h:Hp)(c:Int)(p q:Bool)
 (hv:∀b h,callN cx (M+1) b 100 [evV v] h=some (.sc (.bool p),h)) (hw:∀b h,callN cx (M+1) b 100 [evV w] h=some (.sc (.bool q),h))
 (ho:p=true→q=true→∀b h,callN cx (M+1) b 101 [evV v,evV w] h=some (.sc (.int .i64 c),h)) (hpq:¬(p=false∧q=false)):
 callN cx (M+2) b 59 [evV v,evV w] h=some (.sc (.int .i64 (bif p then(bif q then c else-1)else 1)),h):=by
 have hca:=calm_evV2 v w;refine pure_calm (r:= .sc (.int .i64 (bif p then(bif q then c else-1)else 1))) (n:=M+1) ⟨Tryz.f59.ntmps,(Tryz.f59.body).getD .skip,[.tmp 4]⟩ (by kernel_rfl) (by kernel_rfl) rfl (by kernel_rfl) (by simp[Tryz.f59]) hca rfl ?_ b h;clear hca;cases v with
 |
  mk k n d s z l=>
  cases w with
  |
   mk k' n' d' s' z' l'=>
   rw[evV_eq]at hv ho⊢;rw[evV_eq]at hw ho⊢;generalize evL z l=L at hv ho;generalize evL z' l'=L' at hw ho;cases p<;>cases q<;>simp at hpq
   ·simp[Tryz.f59,hv,hw]
   ·simp[Tryz.f59,hv,hw]
   ·have ho':=ho rfl rfl;simp[Tryz.f59,hv,hw,ho']
theorem val_Order2 (M:Nat)(v w:V)(b:Bool)(h:Hp)(c1 c2 c3 c4 c5:Int)
 (hv:∀b h,callN cx (M+1) b 100 [evV v] h=some (.sc (.bool false),h)) (hw:∀b h,callN cx (M+1) b 100 [evV w] h=some (.sc (.bool false),h))
 (h1:∀b h,callN cx (M+1) b 73 [.sc (.int .i64 v.k),.sc (.int .i64 w.k)] h=some (.sc (.int .i64 c1),h))
 (h2:∀b h,callN cx (M+1) b 73 [.sc (.int .i64 v.n),.sc (.int .i64 w.n)] h=some (.sc (.int .i64 c2),h))
 (h3:∀b h,callN cx (M+1) b 73 [.sc (.int .i64 v.d),.sc (.int .i64 w.d)] h=some (.sc (.int .i64 c3),h))
 (h4:∀b h,callN cx (M+1) b 103 [.sc (.string v.s),.sc (.string w.s)] h=some (.sc (.int .i64 c4),h))
 (hl:∀b h,callN cx (M+1) b 104 [evL v.isNil v.l,evL w.isNil w.l,.fn 59 []] h=some (.sc (.int .i64 c5),h)):
 callN cx (M+2) b 59 [evV v,evV w] h=some (.sc (.int .i64 (orI [c1,c2,c3,c4,c5])),h):=by
 have hca:=calm_evV2 v w;refine pure_calm (r:= .sc (.int .i64 (orI [c1,c2,c3,c4,c5]))) (n:=M+1) ⟨Tryz.f59.ntmps,(Tryz.f59.body).getD .skip,[.tmp 4]⟩ (by kernel_rfl) (by kernel_rfl) rfl (by kernel_rfl) (by simp[Tryz.f59]) hca rfl ?_ b h;clear hca;cases v with
 |
  mk k n d s z l=>
  cases w with
  |
   mk k' n' d' s' z' l'=>
   simp only[V.k,V.n,V.d,V.s,V.l,V.isNil]at h1 h2 h3 h4 hl;rw[evV_eq]at hv⊢;rw[evV_eq]at hw⊢;have hL:(∃r,evL z l= .ls 5 r z)∨evL z l= .sc (.slice none 0 0):=(lsV_cases z l).elim (fun e=> .inr e.2) (fun e=> .inl ⟨_,e⟩);have hL':(∃r,evL z' l'= .ls 5 r z')∨evL z' l'= .sc (.slice none 0 0):=(lsV_cases z' l').elim (fun e=> .inr e.2) (fun e=> .inl ⟨_,e⟩);generalize evL z l=L at hv hl hL;generalize evL z' l'=L' at hw hl hL';have hor:=fun b=>Or_own M b [.row [.sc (.int .i64 k),.sc (.int .i64 n),.sc (.int .i64 d),.sc (.string s),L],.row [.sc (.int .i64 k'),.sc (.int .i64 n'),.sc (.int .i64 d'),.sc (.string s'),L'],.row [.sc (.int .i64 c1),.sc (.int .i64 c2),.sc (.int .i64 c3),.sc (.int .i64 c4),.sc (.int .i64 c5)]] 2 5 [c1,c2,c3,c4,c5] rfl rfl (by simp)
   generalize orI [c1,c2,c3,c4,c5]=o at hor;rcases hL with⟨r,rfl⟩|rfl<;>rcases hL' with⟨r',rfl⟩|rfl<;>simp[Tryz.f59,hv,hw,h1,h2,h3,h4,hl,hor]
theorem C_Order_all :∀(D:Nat) (v w:V),dep v≤D→dep w≤D→bdV v→bdV w→∀N,C_Order (N+2*D+7) v w:=by
 intro D
 induction D with
 |zero=>intro v w h;have:=dep_pos v;omega
 |
  succ D ih=>
  intro v w dv dw bv bw N b h;have hl:=val_lists_Order (N+2*D+7) v.isNil w.isNil v.l w.l (bdV_l bv).1 (bdV_l bw).1 (fun x hx y hy=>ih x y (dep_l dv x hx) (dep_l dw y hy) ((bdV_l bv).2 x hx) ((bdV_l bw).2 y hy) N);have hv:=fun b h=>val_Valid (N+2) (D+1) v dv bv b h
  have hw:=fun b h=>val_Valid (N+2) (D+1) w dw bw b h
  rw[show N+2+2*(D+1)+4=N+2*D+7+1 by omega]at hv hw;rw[show N+2*(D+1)+7=N+2*D+7+2 by omega];by_cases hn:okT v=false∧okT w=false
  ·rw[hn.1]at hv;rw[hn.2]at hw;have:=val_Order2 (N+2*D+7) v w b h _ _ _ _ _ hv hw (fun b h=>Compare_int (N+2*D+6) b _ _ h) (fun b h=>Compare_int (N+2*D+6) b _ _ h) (fun b h=>Compare_int (N+2*D+6) b _ _ h) (fun b h=>Compare_str (N+2*D+6) b _ _ h) hl;simp only[evV]at this;rw[this,ordV_eq' v w,hn.1,hn.2];rfl
  ·have:=val_Order1 (N+2*D+7) v w b h (ordV v w) (okT v) (okT w) hv hw (fun ov ow b h=>by
    have:=C_order_all (D+1) v w dv dw bv bw ov ow N b h;rw[show N+2*(D+1)+6=N+2*D+7+1 by omega]at this;exact this) hn
   simp only[evV]at this;rw[this,ordV_eq' v w];cases hp:okT v<;>cases hq:okT w
   ·exact absurd ⟨hp,hq⟩ hn
   ·rfl
   ·rfl
   ·simp only[cond_true]
end
end Go.Proofs.YtiefabpageilbaaGreatDoor
namespace Go.Ae
def i64 (n:Int):Prop:= -9223372036854775808≤n∧n≤9223372036854775807
theorem not_in {n:Int}(h:i64 n){c:UInt8}(hc:c.toNat≠45∧(c.toNat<48∨57<c.toNat)):c∉itoaC n:=fun q=>by
 have:=itoaC_byte n h.1 h.2 c q;omega
end Go.Ae
namespace Go.Ae
open List
structure TotC {α:Type}(cmp:α→α→Int):Prop where
 zero:∀a b,cmp a b=0↔a=b
 neg:∀a b,cmp a b<0↔0<cmp b a
 tr:∀a b c,cmp a b<0→cmp b c<0→cmp a c<0
def insV {α:Type}[DecidableEq α](add:Int→Int→Int):List (α × Int)→α→Int→List (α × Int)
 | [],r,n=> [(r,n)]
 |(s,m)::t,r,n=>if s=r then(s,add m n)::t else(s,m)::insV add t r n
def insR {α:Type}(cmp:α→α→Int)(add:Int→Int→Int):List (α × Int)→α→Int→List (α × Int)
 | [],r,n=> [(r,n)]
 |(s,m)::t,r,n=>if cmp s r<0 then(s,m)::insR cmp add t r n else if cmp s r=0 then(s,add m n)::t else(r,n)::(s,m)::t
def upd {α:Type}[DecidableEq α](add:Int→Int→Int)(l:List (α × Int))(r:α)(n:Int):List (α × Int):=
 if r∈l.map (·.1)then l.map fun p=>if p.1=r then(r,add p.2 n)else p else(r,n)::l
variable {α : Type} {cmp : α → α → Int} {add : Int → Int → Int}
theorem upd_perm [DecidableEq α]{a b:List (α × Int)}(h:a ~ b)(r:α)(n:Int):upd add a r n ~ upd add b r n:=by
 unfold upd;have e:r∈a.map (·.1)↔r∈b.map (·.1):=(h.map _).mem_iff;by_cases q:r∈a.map (·.1)
 ·rw[if_pos q,if_pos (e.1 q)];exact h.map _
 ·rw[if_neg q,if_neg fun k=>q (e.2 k)];exact h.cons _
theorem map_away [DecidableEq α]{t:List (α × Int)}{r:α}(f:α × Int→α × Int)(h:r∉t.map (·.1)):(t.map fun p=>if p.1=r then f p else p)=t:=by
 induction t with
 |nil=>rfl
 |
  cons x t ih=>
  rw[List.map_cons,List.mem_cons,not_or]at h;rw[List.map_cons,if_neg fun q=>h.1 q.symm,ih h.2]
theorem insV_upd [DecidableEq α]:∀(l:List (α × Int)) (r:α) (n:Int),(l.map (·.1)).Nodup→insV add l r n ~ upd add l r n
 | [],r,n,_=>by simp[insV,upd]
 |
  (s,m)::t,r,n,h=>by
  have hs:s∉t.map (·.1):=(List.nodup_cons.1 h).1;have ht:(t.map (·.1)).Nodup:=(List.nodup_cons.1 h).2;unfold insV;by_cases e:s=r
  ·subst e;rw[if_pos rfl];unfold upd;rw[if_pos (by simp),List.map_cons,if_pos rfl,map_away _ hs]
  ·rw[if_neg e];refine((insV_upd t r n ht).cons _).trans ?_;unfold upd;by_cases q:r∈t.map (·.1)
   ·rw[if_pos q,if_pos (by rw[List.map_cons];exact List.mem_cons_of_mem _ q),List.map_cons,if_neg e]
   ·rw[if_neg q,if_neg (by rw[List.map_cons,List.mem_cons,not_or];exact⟨fun k=>e k.symm,q⟩)];exact List.Perm.swap _ _ _
def Inc (cmp:α→α→Int)(l:List (α × Int)):Prop:=l.Pairwise fun a b=>cmp a.1 b.1<0
theorem TotC.irr (h:TotC cmp)(a:α):¬cmp a a<0:=by have:=(h.zero a a).2 rfl;omega
theorem Inc.nodup (hc:TotC cmp){l:List (α × Int)}(h:Inc cmp l):(l.map (·.1)).Nodup:=by
 rw[List.Nodup,List.pairwise_map];have g:∀{a b:α × Int},cmp a.1 b.1<0→a.1≠b.1:=fun{a b} q e=>hc.irr b.1 (by rw[e]at q;exact q)
 exact List.Pairwise.imp g h
theorem insR_mem :∀(l:List (α × Int)) (r:α) (n:Int) (x:α × Int),x∈insR cmp add l r n→x.1=r∨x.1∈l.map (·.1)
 | [],r,n,x,h=>by unfold insR at h;simp at h;left;rw[h]
 |
  (s,m)::t,r,n,x,h=>by
  unfold insR at h;split at h
  ·rcases List.mem_cons.1 h with h|h
   ·right;rw[h];simp
   ·rcases insR_mem t r n x h with h|h
    ·exact .inl h
    ·right;rw[List.map_cons];exact List.mem_cons_of_mem _ h
  ·split at h
   ·rcases List.mem_cons.1 h with h|h
    ·right;rw[h];simp
    ·right;rw[List.map_cons];exact List.mem_cons_of_mem _ (List.mem_map_of_mem h)
   ·rcases List.mem_cons.1 h with h|h
    ·left;rw[h]
    ·right;exact List.mem_map_of_mem h
theorem insR_inc (hc:TotC cmp):∀(l:List (α × Int)) (r:α) (n:Int),Inc cmp l→Inc cmp (insR cmp add l r n)
 | [],r,n,_=>by unfold insR;exact List.pairwise_singleton _ _
 |
  (s,m)::t,r,n,h=>by
  have h1:=(List.pairwise_cons.1 h).1;have h2:Inc cmp t:=(List.pairwise_cons.1 h).2;unfold insR;split
  ·rename_i q;refine List.pairwise_cons.2 ⟨fun x hx=>?_,insR_inc hc t r n h2⟩;rcases insR_mem t r n x hx with e|e
   ·rw[e];exact q
   ·obtain⟨y,hy,e⟩:=Yc.1 e;rw[←e];exact h1 y hy
  ·split
   ·exact List.pairwise_cons.2 ⟨fun x hx=>h1 x hx,h2⟩
   ·rename_i q1 q2;have q3:cmp r s<0:=(hc.neg r s).2 (by omega);refine List.pairwise_cons.2 ⟨fun x hx=>?_,h⟩;rcases List.mem_cons.1 hx with e|e
    ·rw[e];exact q3
    ·exact hc.tr _ _ _ q3 (h1 x e)
theorem insR_upd [DecidableEq α](hc:TotC cmp):∀(l:List (α × Int)) (r:α) (n:Int),Inc cmp l→insR cmp add l r n ~ upd add l r n
 | [],r,n,_=>by simp[insR,upd]
 |
  (s,m)::t,r,n,h=>by
  have hn:=Inc.nodup hc h;have hs:s∉t.map (·.1):=(List.nodup_cons.1 hn).1;have h1:=(List.pairwise_cons.1 h).1;have h2:Inc cmp t:=(List.pairwise_cons.1 h).2;unfold insR;split
  ·rename_i q;have e:s≠r:=fun e=>hc.irr r (by rw[e]at q;exact q)
   refine((insR_upd hc t r n h2).cons _).trans ?_;unfold upd;by_cases q:r∈t.map (·.1)
   ·rw[if_pos q,if_pos (by rw[List.map_cons];exact List.mem_cons_of_mem _ q),List.map_cons,if_neg e]
   ·rw[if_neg q,if_neg (by rw[List.map_cons,List.mem_cons,not_or];exact⟨fun k=>e k.symm,q⟩)];exact List.Perm.swap _ _ _
  ·split
   ·rename_i q;obtain rfl:=(hc.zero s r).1 q;unfold upd;rw[if_pos (by simp),List.map_cons,if_pos rfl,map_away _ hs]
   ·rename_i q1 q2;have q3:cmp r s<0:=(hc.neg r s).2 (by omega);unfold upd;rw[if_neg];intro k;rw[List.map_cons,List.mem_cons]at k;rcases k with k|k
    ·exact q2 ((hc.zero s r).2 k.symm)
    ·obtain⟨y,hy,e⟩:=Yc.1 k;have:=hc.tr _ _ _ q3 (h1 y hy);rw[e]at this;exact hc.irr r this
def sumV [DecidableEq α](add:Int→Int→Int)(z:List (α × Int)):List (α × Int):=z.foldl (fun s x=>insV add s x.1 x.2) []
def sumR (cmp:α→α→Int)(add:Int→Int→Int)(z:List (α × Int)):List (α × Int):=z.foldl (fun s x=>insR cmp add s x.1 x.2) []
theorem sum_fold [DecidableEq α](hc:TotC cmp):∀(z a b:List (α × Int)),a ~ b→Inc cmp b→(z.foldl (fun s x=>insV add s x.1 x.2) a) ~ (z.foldl (fun s x=>insR cmp add s x.1 x.2) b)∧Inc cmp (z.foldl (fun s x=>insR cmp add s x.1 x.2) b)
 | [],_,_,h,hb=>⟨h,hb⟩
 |
  x::z,a,b,h,hb=>by
  refine sum_fold hc z _ _ ?_ (insR_inc hc b _ _ hb);have hn:(a.map (·.1)).Nodup:=((h.map _).nodup_iff).2 (Inc.nodup hc hb);exact(insV_upd a _ _ hn).trans ((upd_perm h _ _).trans (insR_upd hc b _ _ hb).symm)
theorem sum_perm [DecidableEq α](hc:TotC cmp)(z:List (α × Int)):sumV add z ~ sumR cmp add z:=(sum_fold hc z [] [] (List.Perm.refl _) List.Pairwise.nil).1
theorem sumR_inc (hc:TotC cmp)(z:List (α × Int)):Inc cmp (sumR cmp add z):=by
 suffices h:∀(z b:List (α × Int)),Inc cmp b→Inc cmp (z.foldl (fun s x=>insR cmp add s x.1 x.2) b)from h z [] List.Pairwise.nil
 intro z
 induction z with
 |nil=>exact fun b h=>h
 |cons x z ih=>exact fun b h=>ih _ (insR_inc hc b _ _ h)
def normR (cmp:α→α→Int)(add:Int→Int→Int)(z:List (α × Int)):List (α × Int):=(sumR cmp add z).filter fun x=>x.2 !=0
theorem normR_inc (hc:TotC cmp)(z:List (α × Int)):Inc cmp (normR cmp add z):=(sumR_inc hc z).filter _
theorem Inc.le (hc:TotC cmp){l:List (α × Int)}(h:Inc cmp l):l.Pairwise fun a b=>¬cmp b.1 a.1<0:=by
 have g:∀{a b:α × Int},cmp a.1 b.1<0→¬cmp b.1 a.1<0:=fun{a b} q k=>hc.irr a.1 (hc.tr _ _ _ q k)
 exact List.Pairwise.imp g h
theorem norm_eq [DecidableEq α](hc:TotC cmp)(z l:List (α × Int))(hp:l ~ (sumV add z).filter fun x=>x.2 !=0)(hs:l.Pairwise fun a b=>¬cmp b.1 a.1<0):l=normR cmp add z:=by
 have h1:l ~ normR cmp add z:=hp.trans ((sum_perm hc z).filter _);have hn:(l.map (·.1)).Nodup:=((h1.map _).nodup_iff).2 (Inc.nodup hc (normR_inc hc z));refine List.Perm.eq_of_pairwise (le:=fun a b=>¬cmp b.1 a.1<0) ?_ hs (Inc.le hc (normR_inc hc z)) h1;intro a b ha hb q1 q2;have e:a.1=b.1:=(hc.zero _ _).1 (by have:=hc.neg a.1 b.1;have:=hc.neg b.1 a.1;omega);have ha':=h1.mem_iff.1 ha;have hu:∀(l:List (α × Int)),(l.map (·.1)).Nodup→∀a∈l,∀b∈l,a.1=b.1→a=b:=by
  intro l
  induction l with
  |nil=>intro _ a h;cases h
  |
   cons x l ih=>
   intro hn a ha b hb e;rw[List.map_cons,List.nodup_cons]at hn;rcases List.mem_cons.1 ha with ha|ha
   ·rcases List.mem_cons.1 hb with hb|hb
    ·rw[ha,hb]
    ·exact absurd (by rw[←ha,e];exact List.mem_map_of_mem hb) hn.1
   ·rcases List.mem_cons.1 hb with hb|hb
    ·exact absurd (by rw[←hb,←e];exact List.mem_map_of_mem ha) hn.1
    ·exact ih hn.2 a ha b hb e
 exact hu _ (Inc.nodup hc (normR_inc hc z)) a ha' b hb e
end Go.Ae
