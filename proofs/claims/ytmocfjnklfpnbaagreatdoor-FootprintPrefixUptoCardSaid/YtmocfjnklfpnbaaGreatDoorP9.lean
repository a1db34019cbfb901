/- The abstract evaluator, part 9: a region that draws its order, and one that does not. -/
import Derived.Test.YtmocfjnklfpnbaaGreatDoorP8
set_option linter.all false
namespace Go.Ae
open Go
section want
variable {w : World} {X : Nat → Prop} {ρ : Nat → Nat} {n : Nat}
theorem want_sound {ops:Array Oper}{tmps:Array Value}{fr:List AV}(hf:RF w X ρ n tmps fr){o:Oper}{b:Bool}(h:wantA ops fr o=some b):Region.wanted o (yielded ops tmps)=b:=by
 unfold wantA at h;unfold Region.wanted;cases hg:o.guard with
 |none=>simp only[hg,Zc]at h⊢;exact h
 |
  some q=>
  obtain⟨j,want⟩:=q;simp only[hg]at h⊢;unfold yielded;cases hd:(ops[j]?).bind (·.dst)with
  |none=>simp only[hd,Zc]at h;simp[←h]
  |
   some d=>
   simp only[hd]at h;split at h
   ·rename_i b' hb;simp only[Zc]at h;have hr:=(hf.2 d _ hb).sc_inv.1;have hlt:d<tmps.size:=by rw[hf.1];exact(Za.1 hb).1
    have hv:tmps[d]?=some (.bool b'):=by
     rw[Array.getElem?_eq_getElem hlt];simpa[hlt]using hr
    simp[hv,←h]
   ·rename_i hb;simp only[Zc]at h;have hr:=(hf.2 d _ hb).un_inv;have hlt:d<tmps.size:=by rw[hf.1];exact(Za.1 hb).1
    have hv:tmps[d]?=some undef:=by
     rw[Array.getElem?_eq_getElem hlt];simpa[hlt]using hr
    simp[hv,undef,←h]
   ·cases h
end want
def res1 (C:Cx)(call:Cal)(ops:Array Oper)(o:Oper)(s:St):AV:=
 match wantA ops s.1 o with
 |
  some true=>match aop C call (ev C s.1) s.2 o with
  |some (v,_)=>v
  |none=> .ud
 |_=> .un
theorem step1_spec {C:Cx}{call:Cal}{ops:Array Oper}{o:Oper}{s s':St}(h:step1 C call ops o s=some s'):
 s'.1=putA o s.1 (res1 C call ops o s)∧((wantA ops s.1 o=some true∧aop C call (ev C s.1) s.2 o=some (res1 C call ops o s,s'.2))∨(wantA ops s.1 o=some false∧res1 C call ops o s= .un∧s'.2=s.2))∧∀u,res1 C call ops o s≠ .pn u:=by
 unfold step1 at h;unfold res1;split at h
 ·rename_i hw;split at h
  ·cases h
  ·rename_i v h1 hnp ha;simp only[Zc]at h;subst h;simp only[hw,ha];exact⟨trivial,.inl ⟨trivial,trivial⟩,fun u e=>hnp u e⟩
  ·cases h
 ·rename_i hw;simp only[Zc]at h;subst h;simp[hw]
 ·cases h
theorem run_split {C:Cx}{call:Cal}{ops:Array Oper}:∀(l:List Oper) (s:St) (sts:List St),runOpsL C call ops l s=some sts→
 ∃S:Nat→St,S 0=s∧sts.length=l.length+1∧(∀k,k≤l.length→sts[k]?=some (S k))∧∀(k:Nat) (o:Oper),l[k]?=some o→step1 C call ops o (S k)=some (S (k+1))
 |
  [],s,sts,h=>by
  simp only[runOpsL,Zc]at h;subst h;refine⟨fun _=>s,rfl,rfl,fun k hk=>?_,by simp⟩;have hk0:k=0:=by simpa using hk
  subst hk0;rfl
 |
  o::l,s,sts,h=>by
  simp only[runOpsL]at h;split at h
  ·rename_i s1 h1;simp only[Ze]at h;obtain⟨sts',h2,rfl⟩:=h;obtain⟨S,e0,el,e1,e2⟩:=run_split l s1 sts' h2;refine⟨fun k=>match k with|0=>s|k+1=>S k,rfl,by simp[el],fun k hk=>?_,fun k o' hk=>?_⟩
   ·cases k with
    |zero=>rfl
    |succ k=>simpa using e1 k (by simpa using hk)
   ·cases k with
    |zero=>simp at hk;subst hk;simp[e0,h1]
    |succ k=>simp at hk;exact e2 k o' hk
  ·cases h
theorem run_splitO {C:Cx}{call:Cal}{ops:Array Oper}:∀(l:List Oper) (s s':St),runOps C call ops l s=some s'→
 ∃S:Nat→St,S 0=s∧S l.length=s'∧∀(k:Nat) (o:Oper),l[k]?=some o→step1 C call ops o (S k)=some (S (k+1))
 |
  [],s,s',h=>by
  simp only[runOps,Zc]at h;subst h;exact⟨fun _=>s,rfl,rfl,by simp⟩
 |
  o::l,s,s',h=>by
  simp only[runOps]at h;split at h
  ·rename_i s1 h1;obtain⟨S,e0,el,e2⟩:=run_splitO l s1 s' h;refine⟨fun k=>match k with|0=>s|k+1=>S k,rfl,by simp[el],fun k o' hk=>?_⟩;cases k with
   |zero=>simp at hk;subst hk;simp[e0,h1]
   |succ k=>simp at hk;exact e2 k o' hk
  ·cases h
theorem run_skip {C:Cx}{call:Cal}{ops:Array Oper}:∀(l:List (Oper × Bool)) (s s':St),runOps C call ops (restO l) s=some s'→
 ∃S:Nat→St,S 0=s∧∀(k:Nat) (o:Oper) (b:Bool),l[k]?=some (o,b)→if b=true then S (k+1)=S k else step1 C call ops o (S k)=some (S (k+1))
 | [],s,s',h=>⟨fun _=>s,rfl,by simp⟩
 |
  (o,true)::l,s,s',h=>by
  obtain⟨S,e0,e2⟩:=run_skip l s s' h;refine⟨fun k=>match k with|0=>s|k+1=>S k,rfl,fun k o' b hk=>?_⟩;cases k with
  |zero=>simp at hk;obtain⟨rfl,rfl⟩:=hk;simp[e0]
  |succ k=>simp at hk;exact e2 k o' b hk
 |
  (o,false)::l,s,s',h=>by
  have h:runOps C call ops (o::restO l) s=some s':=h;simp only[runOps]at h;split at h
  ·rename_i s1 h1;obtain⟨S,e0,e2⟩:=run_skip l s1 s' h;refine⟨fun k=>match k with|0=>s|k+1=>S k,rfl,fun k o' b hk=>?_⟩;cases k with
   |zero=>simp at hk;obtain⟨rfl,rfl⟩:=hk;simp[e0,h1]
   |succ k=>simp at hk;exact e2 k o' b hk
  ·cases h
def PanD (C:Cx)(call:Cal)(ops:Array Oper)(s:St)(v:Value)(hP:Hp):Prop:=
 ∃J o sj s2,ops[J]?=some o∧runOps C call ops (ops.toList.take J) s=some sj∧changer C o=true∧(∀q∈needs C ops,J<q.2)∧wantA ops sj.1 o=some true∧aop C call (ev C sj.1) sj.2 o=some (.pn v,hP)∧runOps C call ops (restO (restJ ops J)) sj=some s2
theorem panX_spec {C:Cx}{call:Cal}{ops:Array Oper}{J:Nat}{s s':St}{out:Out}(h:panX C call ops J s=some (out,s')):∃v h',out= .pan v∧s'=(udF ops.toList s.1,h')∧PanD C call ops s v h':=by
 unfold panX at h;split at h
 ·rename_i o sj h1 h2;split at h
  ·rename_i h3;rw[Zh,List.all_eq_true]at h3;split at h
   ·rename_i h4;split at h
    ·rename_i v h' h5;split at h
     ·rename_i s2 h6;simp only[Zc,Zg]at h;exact⟨v,h',h.1.symm,h.2.symm,J,o,sj,s2,h1,h2,h3.1,fun q hq=>of_decide_eq_true (h3.2 q hq),h4,h5,h6⟩
     ·cases h
    ·cases h
   ·cases h
  ·cases h
 ·cases h
def put (a:Act)(o:Oper)(v:Value):Act:=a.put o.dst v
theorem rf_put {w:World}{X:Nat→Prop}{ρ:Nat→Nat}{n:Nat}{a:Act}{fr:List AV}(hf:RF w X ρ n a.tmps fr)(o:Oper){v:Value}{x:AV}(hv:Rp w X ρ n v x):RF w X ρ n (a.put o.dst v).tmps (putA o fr x):=by
 unfold putA Act.put;cases o.dst with
 |none=>exact hf
 |some d=>exact hf.put d hv
theorem put_defers (a:Act)(o:Oper)(v:Value):(a.put o.dst v).defers=a.defers:=by
 unfold Act.put;cases o.dst<;>rfl
theorem op_sound {C:Cx}{call:Cal}(hT:∀t i,C.T t=some i→tiOf C.P t=some i)(hcall:CallOK C call){ops:Array Oper}{i:Nat}{o:Oper}(hi:ops[i]?=some o){w:World}{X:Nat→Prop}{ρ:Nat→Nat}{h h':Hp}{a:Act}{fr:List AV}
 (hs:Sim C.G w X ρ h) (hf:RF w (tot X ρ h) ρ h.length a.tmps fr) {r:AV} (hnp:∀u,r≠ .pn u) (hr:(wantA ops fr o=some true∧aop C call (ev C fr) h o=some (r,h'))∨(wantA ops fr o=some false∧r= .un∧h'=h))
 {K:Act→World→Prop} {Q:Exit→Act→World→Prop} (hK:∀v w' ρ',Ext C.G w X ρ h w' ρ' h'→RF w' (tot X ρ' h') ρ' h'.length (a.put o.dst v).tmps (putA o fr r)→(a.put o.dst v).defers=a.defers→K (a.put o.dst v) w'):
 wpOp C.P ops Q i K a w:=by
 unfold wpOp;simp only[hi];rcases hr with⟨hw,ha⟩|⟨hw,rfl,rfl⟩
 ·rw[want_sound hf hw,if_pos rfl];exact .inl (aop_sound hs hf hT hcall ha K Q (fun v w' ρ' he hv=>hK v w' ρ' he (rf_put (he.rf hf) o hv) (put_defers a o v)) fun u _ _ e _=>absurd e (hnp u))
 ·rw[want_sound hf hw];simp only[Yl,if_false];exact hK undef w ρ (Ext.refl hs) (rf_put hf o (.im .un)) (put_defers a o undef)
def exitOf :Out→Exit
 | .normal=> .normal
 | .exit id=> .exit id
 | .ret=> .ret
 | .pan v=> .panic [{v,recovered:=false}]
theorem op_panics {C:Cx}{call:Cal}(hT:∀t i,C.T t=some i→tiOf C.P t=some i)(hcall:CallOK C call){ops:Array Oper}{i:Nat}{o:Oper}(hi:ops[i]?=some o){w:World}{X:Nat→Prop}{ρ:Nat→Nat}{h h':Hp}{a:Act}{fr:List AV}
 (hs:Sim C.G w X ρ h) (hf:RF w (tot X ρ h) ρ h.length a.tmps fr) {u:Value} (hw:wantA ops fr o=some true) (ha:aop C call (ev C fr) h o=some (.pn u,h'))
 {K:Act→World→Prop} {Q:Exit→Act→World→Prop} (hQ:∀w' ρ',Ext C.G w X ρ h w' ρ' h'→RF w' (tot X ρ' h') ρ' h'.length a.tmps fr→Q (.panic [{v:=u,recovered:=false}]) a w'):
 wpOp C.P ops Q i K a w:=by
 unfold wpOp;simp only[hi];rw[want_sound hf hw,if_pos rfl];refine .inl (aop_sound hs hf hT hcall ha K Q (fun v w' ρ' he hv=>absurd hv.pn_inv (fun h=>h)) fun u' w' ρ' e he=>?_);simp only[AV.pn.injEq]at e;subst e;exact hQ w' ρ' he (he.rf hf)
theorem ops_sound {C:Cx}{call:Cal}(hT:∀t i,C.T t=some i→tiOf C.P t=some i)(hcall:CallOK C call){ops:Array Oper}{X:Nat→Prop}{Q:Exit→Act→World→Prop}:
 ∀(rest:List Oper) (k:Nat) (s s':St) (out:Out),ops.toList.drop k=rest→runOpsP C call ops rest s=some (out,s')→∀(a:Act) (w:World) (ρ:Nat→Nat),Sim C.G w X ρ s.2→RF w (tot X ρ s.2) ρ s.2.length a.tmps s.1→
  (∀a' w' ρ',Ext C.G w X ρ s.2 w' ρ' s'.2→RF w' (tot X ρ' s'.2) ρ' s'.2.length a'.tmps s'.1→a'.defers=a.defers→Q (exitOf out) a' w')→wpOps C.P ops Q ((List.range ops.size).drop k) a w
 |
  [],k,s,s',out,hd,hr,a,w,ρ,hs,hf,hQ=>by
  have hk:ops.size≤k:=by
   have:=congrArg List.length hd;simp at this;omega
  rw[Zt (by simpa using hk)];simp only[runOpsP,Zc,Zg]at hr;obtain⟨rfl,rfl⟩:=hr;exact hQ a w ρ (Ext.refl hs) hf rfl
 |
  o::rest,k,s,s',out,hd,hr,a,w,ρ,hs,hf,hQ=>by
  have hk:k<ops.size:=by
   have:=congrArg List.length hd;simp at this;omega
  have ho:ops[k]?=some o:=by
   have:(ops.toList.drop k)[0]?=some o:=by rw[hd];rfl
   rw[List.getElem?_drop]at this;simpa using this
  rw[Zm (by simpa using hk),List.getElem_range,wpOps_cons];simp only[runOpsP]at hr;split at hr
  ·rename_i s1 h1;obtain⟨e1,e2,e3⟩:=step1_spec h1;refine op_sound hT hcall ho hs hf e3 e2 fun v w' ρ' he hf' hdf=>?_
   have hd':ops.toList.drop (k+1)=rest:=by rw[←List.drop_drop,hd];rfl
   exact ops_sound hT hcall rest (k+1) s1 s' out hd' hr (a.put o.dst v) w' ρ' he.sim (by rw[e1];exact hf') fun a' w'' ρ'' he' hf'' hdf'=>hQ a' w'' ρ'' (he.trans he') hf'' (hdf'.trans hdf)
  ·split at hr
   ·rename_i hw;split at hr
    ·rename_i u h1 ha;simp only[Zc,Zg]at hr;obtain⟨rfl,rfl⟩:=hr;exact op_panics hT hcall ho hs hf hw ha fun w' ρ' he hf'=>hQ a w' ρ' he hf' rfl
    ·cases hr
   ·cases hr
structure FrL (ops:Array Oper)(base:List AV)(R:Nat→AV)(L:Nat→Bool)(fr:List AV):Prop where
 len:fr.length=base.length
 hit:∀(i:Nat) (o:Oper) (t:Tmp),ops[i]?=some o→o.dst=some t→t<base.length→fr[t]?=some (if L i then R i else base.getD t .ud)
 miss:∀t:Tmp,(∀(i:Nat) (o:Oper),ops[i]?=some o→o.dst≠some t)→fr[t]?=base[t]?
theorem FrL.put {ops:Array Oper}{C:Cx}(hr:Rok C ops){base:List AV}{R:Nat→AV}{L L':Nat→Bool}{fr:List AV}(h:FrL ops base R L fr){j:Nat}{o:Oper}(hj:ops[j]?=some o)
 (hL:∀i,L' i=if i=j then true else L i):FrL ops base R L' (putA o fr (R j)):=by
 unfold putA;cases hd:o.dst with
 |
  none=>
  refine⟨h.len,fun i oi t hi ht hlt=>?_,h.miss⟩;have hne:i≠j:=fun e=>by subst e;rw[hj]at hi;cases hi;rw[hd]at ht;cases ht
  rw[h.hit i oi t hi ht hlt,hL,if_neg hne]
 |
  some d=>
  refine⟨by simp[h.len],fun i oi t hi ht hlt=>?_,fun t ht=>?_⟩
  ·by_cases hij:i=j
   ·subst hij;rw[hj]at hi;cases hi;rw[hd]at ht;cases ht;simp only[hL,if_true];rw[Zj (by rw[h.len];exact hlt)]
   ·have hne:d≠t:=fun e=>hr.dst j i o oi d (Ne.symm hij) hj hi hd (by rw[ht,e])
    rw[Zq hne,h.hit i oi t hi ht hlt,hL,if_neg hij]
  ·have hne:d≠t:=fun e=>ht j o hj (by rw[hd,e])
   rw[Zq hne];exact h.miss t ht
theorem FrL.skip {ops:Array Oper}{base:List AV}{R:Nat→AV}{L L':Nat→Bool}{fr:List AV}(h:FrL ops base R L fr){j:Nat}{o:Oper}(hj:ops[j]?=some o)(hR:∀d,o.dst=some d→R j=base.getD d .ud)
 (hL:∀i,L' i=if i=j then true else L i):FrL ops base R L' fr:=by
 refine⟨h.len,fun i oi t hi ht hlt=>?_,h.miss⟩;rw[h.hit i oi t hi ht hlt,hL];by_cases hij:i=j
 ·subst hij;rw[hj]at hi;cases hi;rw[hR t ht];simp
 ·rw[if_neg hij]
theorem udF_get {l:List Oper}{fr:List AV}{t:Nat}{x:AV}(h:(udF l fr)[t]?=some x):x= .ud∨(fr[t]?=some x∧∀o∈l,o.dst≠some t):=by
 induction l generalizing fr with
 |nil=>exact .inr ⟨h,by simp⟩
 |
  cons o l ih=>
  rcases ih (fr:=putA o fr .ud) h with q|⟨q,hq⟩
  ·exact .inl q
  ·unfold putA at q;cases hd:o.dst with
   |
    none=>
    rw[hd]at q;exact .inr ⟨q,fun o' ho'=>by
     rcases List.mem_cons.1 ho' with rfl|ho'; · rw[hd];simp
     ·exact hq o' ho'⟩
   |
    some d=>
    rw[hd]at q;by_cases hdt:d=t
    ·subst hdt;have hlt:d<fr.length:=by have:=(Za.1 q).1;simpa using this
     simp only[Zj hlt,Zc]at q;exact .inl q.symm
    ·simp only[Zq hdt]at q;exact .inr ⟨q,fun o' ho'=>by
      rcases List.mem_cons.1 ho' with rfl|ho'; · rw[hd];simpa using hdt
      ·exact hq o' ho'⟩
theorem udF_length (l:List Oper)(fr:List AV):(udF l fr).length=fr.length:=by
 induction l generalizing fr with
 |nil=>rfl
 |
  cons o l ih=>
  show(udF l (putA o fr .ud)).length=_;rw[ih];unfold putA;cases o.dst<;>simp
theorem FrL.ud {ops:Array Oper}{base:List AV}{R:Nat→AV}{L:Nat→Bool}{fr:List AV}(h:FrL ops base R L fr){w:World}{X:Nat→Prop}{ρ:Nat→Nat}{n:Nat}{tmps:Array Value}(hf:RF w X ρ n tmps fr):RF w X ρ n tmps (udF ops.toList base):=by
 refine⟨by rw[hf.1,h.len,udF_length],fun t x hx=>?_⟩;rcases udF_get hx with rfl|⟨q,hq⟩
 ·exact .im (.ud _)
 ·refine hf.2 t x ?_;rw[h.miss t fun i o hi=>hq o (by
   have:ops.toList[i]?=some o:=by simpa using hi
   exact Zi this)]
  exact q
theorem FrL.unique {ops:Array Oper}{base:List AV}{R:Nat→AV}{L L':Nat→Bool}{fr fr':List AV}(h:FrL ops base R L fr)(h':FrL ops base R L' fr'){t:Tmp}
 (hL:∀(i:Nat) (o:Oper),ops[i]?=some o→o.dst=some t→L i=L' i):fr[t]?=fr'[t]?:=by
 by_cases ht:∃(i:Nat) (o:Oper),ops[i]?=some o∧o.dst=some t
 ·obtain⟨i,o,hi,hd⟩:=ht;by_cases hlt:t<base.length
  ·rw[h.hit i o t hi hd hlt,h'.hit i o t hi hd hlt,hL i o hi hd]
  ·have h1:fr.length≤t:=by rw[h.len];exact Yb hlt
   have h2:fr'.length≤t:=by rw[h'.len];exact Yb hlt
   rw[List.getElem?_eq_none h1,List.getElem?_eq_none h2]
 ·have hm:∀(i:Nat) (o:Oper),ops[i]?=some o→o.dst≠some t:=fun i o hi hd=>ht ⟨i,o,hi,hd⟩
  rw[h.miss t hm,h'.miss t hm]
def cnt (l:List Bool):Nat:=(l.filter fun b=> !b).length
theorem cnt_set :∀(l:List Bool) (i:Nat),l[i]?=some false→cnt (l.set i true)+1=cnt l
 | [],i,h=>by simp at h
 |b::l,0,h=>by simp at h;subst h;simp[cnt]
 |
  b::l,i+1,h=>by
  simp at h;have:=cnt_set l i h;cases b<;>simp[cnt]at this⊢ <;>omega
theorem cnt_zero :∀(l:List Bool),cnt l=0→∀(i:Nat) (b:Bool),l[i]?=some b→b=true
 | [],_,i,b,h=>by simp at h
 |
  c::l,hc,i,b,h=>by
  cases c with
  |false=>simp[cnt]at hc
  |
   true=>
   have hc':cnt l=0:=by simpa[cnt]using hc
   cases i with
   |zero=>simp at h;exact h
   |succ i=>simp at h;exact cnt_zero l hc' i b h
theorem changerW_toucherW {C:Cx}{o:Oper}(h:changerW C o=true):toucherW C o=true:=by
 unfold changerW at h;unfold toucherW;cases hop:o.op<;>simp only[hop]at h⊢
 all_goals try contradiction
 case convert src dst x=>rw[h];rfl
 case makeFunc f first caps=>cases f<;>simp only at h⊢ <;>first|contradiction|rfl
 case call c=>
  obtain⟨callee,args,tys⟩:=c;cases callee with
  |value f=>rfl
  |invoke r m=>rfl
  |builtin b=>cases b<;>simp only at h⊢ <;>first|contradiction|rfl
theorem changer_toucher {C:Cx}{o:Oper}(h:changer C o=true):toucher C o=true:=by
 unfold changer at h;unfold toucher;rw[Zh]at h;rw[changerW_toucherW h.2,Bool.or_true]
theorem MB.lt {C:Cx}{ops:Array Oper}(hr:Rok C ops){j i:Nat}(h:MB ops j i):i<j:=by
 induction h with
 |edge ho he hb=>exact hr.back _ _ ho _ he hb
 |trans ho he hb _ ih=>exact Nat.lt_trans ih (hr.back _ _ ho _ he hb)
section draw
variable {C : Cx} {call : FuncId → List AV → Hp → Option (AV × Hp)} {ops : Array Oper}
theorem listed_get {listed:Array Bool}{j:Nat}(hj:j<listed.size)(i:Nat):(listed.setIfInBounds j true).getD i false=if i=j then true else listed.getD i false:=by
 by_cases h:i=j
 ·subst h;simp[hj]
 ·rw[if_neg h,getD_set_ne false (Ne.symm h)]
set_option maxHeartbeats 1000000 in
theorem draw_aux (hT:∀t i,C.T t=some i→tiOf C.P t=some i)(hcall:CallOK C call)(hkeep:∀g xs h r h',C.inl g=false→call g xs h=some (r,h')→h'=h)(hr:Rok C ops)
 {J:Nat} {bad:Nat→Prop} (hbJ:∀k,bad k→k=J∨MB ops k J) (hJb:J<ops.size→bad J) (hJc:∀o,ops[J]?=some o→changer C o=true)
 {S:Nat→St} (hS:∀(k:Nat) (o:Oper),ops[k]?=some o→¬bad k→step1 C call ops o (S k)=some (S (k+1))) (hB:∀(k:Nat) (o:Oper),ops[k]?=some o→bad k→S (k+1)=S k)
 {R:Nat→AV} (hR:∀(k:Nat) (o:Oper),ops[k]?=some o→¬bad k→R k=res1 C call ops o (S k)) (hRB:∀(k:Nat) (o:Oper),ops[k]?=some o→bad k→∀d,o.dst=some d→R k=(S 0).1.getD d .ud)
 (hdyn:∀(j:Nat) (o:Oper),ops[j]?=some o→¬bad j→changer C o=false→toucher C o=true→wantA ops (S j).1 o=some true→∀m,m≤ops.size→m≤J→
  (∀(i:Nat) (oi:Oper),ops[i]?=some oi→changer C oi=true→(((masks ops.toList []).getD j 0).testBit i=true→i<m)∧(((masks ops.toList []).getD i 0).testBit j=true→m≤i))→aop C call (ev C (S j).1) (S m).2 o=some (R j,(S m).2))
 {X:Nat→Prop} {w0:World} {ρ0:Nat→Nat} {d0:List Deferred} {Q:Exit→Act→World→Prop}
 (hQ:ops.size≤J→∀a' w' ρ',Ext C.G w0 X ρ0 (S 0).2 w' ρ' (S ops.size).2→RF w' (tot X ρ' (S ops.size).2) ρ' (S ops.size).2.length a'.tmps (S ops.size).1→a'.defers=d0→Q .normal a' w')
 (hpn:∀o,ops[J]?=some o→wantA ops (S J).1 o=some true∧∃u hP,aop C call (ev C (S J).1) (S J).2 o=some (.pn u,hP)∧∀a' w' ρ',Ext C.G w0 X ρ0 (S 0).2 w' ρ' hP→RF w' (tot X ρ' hP) ρ' hP.length a'.tmps (udF ops.toList (S 0).1)→a'.defers=d0→Q (.panic [{v:=u,recovered:=false}]) a' w'):
 ∀(fuel:Nat) (listed:Array Bool) (a:Act) (w:World) (ρ:Nat→Nat) (fr:List AV) (m:Nat),listed.size=ops.size→cnt listed.toList≤fuel→
  (∀(j:Nat) (o:Oper),ops[j]?=some o→listed.getD j false=true→∀e∈o.after,Region.binds .any e=true→listed.getD e.on false=true)→
  FrL ops (S 0).1 R (fun i=>listed.getD i false) fr→m≤ops.size→(J<ops.size→listed.getD J false=false)→
  (∀(k:Nat) (o:Oper),ops[k]?=some o→changer C o=true→(k<m↔listed.getD k false=true))→
  Ext C.G w0 X ρ0 (S 0).2 w ρ (S m).2→RF w (tot X ρ (S m).2) ρ (S m).2.length a.tmps fr→a.defers=d0→wpAny C.P .any ops Q fuel listed a w:=by
 have hpre:∀k,k≤ops.size→FrL ops (S 0).1 R (fun i=>decide (i<k)) (S k).1:=by
  intro k
  induction k with
  |
   zero=>
   intro _;refine⟨rfl,fun i o t hi ht hlt=>?_,fun t _=>rfl⟩;simp[List.getD,Zb hlt]
  |
   succ k ih=>
   intro hk;have ho:ops[k]?=some ops[k]:=Array.getElem?_eq_getElem (by omega);have hL:∀i,decide (i<k+1)=if i=k then true else decide (i<k):=fun i=>by
    by_cases hik:i=k
    ·subst hik;simp
    ·rw[if_neg hik];have:(i<k+1)↔(i<k):=by omega
     simp[this]
   by_cases hb:bad k
   ·rw[hB k _ ho hb];exact(ih (by omega)).skip ho (hRB k _ ho hb) hL
   ·have h1:=(step1_spec (hS k _ ho hb)).1;rw[h1,←hR k _ ho hb];exact(ih (by omega)).put hr ho hL
 have hsame:∀i d,i+d≤ops.size→(∀(k:Nat) (o:Oper),i≤k→k<i+d→ops[k]?=some o→changer C o=false)→(S (i+d)).2=(S i).2:=by
  intro i d
  induction d with
  |zero=>intro _ _;rfl
  |
   succ d ih=>
   intro hle hno;have ho:ops[i+d]?=some ops[i+d]:=Array.getElem?_eq_getElem (by omega);have h2:=ih (by omega) (fun k o h1 h2 h3=>hno k o h1 (by omega) h3);by_cases hb:bad (i+d)
   ·rw[show i+(d+1)=i+d+1 by omega,hB (i+d) _ ho hb,h2]
   have h1:=(step1_spec (hS (i+d) _ ho hb)).2.1;rcases h1 with⟨_,ha⟩|⟨_,_,ha⟩
   ·have:=aop_same hkeep (hno (i+d) _ (by omega) (by omega) ho) ha;rw[show i+(d+1)=i+d+1 by omega,this,h2]
   ·rw[show i+(d+1)=i+d+1 by omega,ha,h2]
 have hmb:∀{listed:Array Bool},(∀(j:Nat) (o:Oper),ops[j]?=some o→listed.getD j false=true→∀e∈o.after,Region.binds .any e=true→listed.getD e.on false=true)→
  ∀{j i:Nat},MB ops j i→listed.getD j false=true→listed.getD i false=true:=by
  intro listed hcl j i h
  induction h with
  |edge ho he hb=>exact fun hj=>hcl _ _ ho hj _ he hb
  |trans ho he hb _ ih=>exact fun hj=>ih (hcl _ _ ho hj _ he hb)
 have hmbr:∀{listed:Array Bool},(∀(j:Nat) (o:Oper),ops[j]?=some o→listed.getD j false=true→∀e∈o.after,Region.binds .any e=true→listed.getD e.on false=true)→
  ∀{j i:Nat},MB ops j i→(∀o,ops[j]?=some o→∀e∈o.after,Region.binds .any e=true→listed.getD e.on false=true)→listed.getD i false=true:=by
  intro listed hcl j i h hrd;cases h with
  |edge ho he hb=>exact hrd _ ho _ he hb
  |trans ho he hb h2=>exact hmb hcl h2 (hrd _ ho _ he hb)
 have hdone:∀{listed:Array Bool} {a:Act} {w:World} {ρ:Nat→Nat} {fr:List AV} {m:Nat},(∀i,i<ops.size→listed.getD i false=true)→FrL ops (S 0).1 R (fun i=>listed.getD i false) fr→m≤ops.size→(J<ops.size→listed.getD J false=false)→
  (∀(k:Nat) (o:Oper),ops[k]?=some o→changer C o=true→(k<m↔listed.getD k false=true))→
  Ext C.G w0 X ρ0 (S 0).2 w ρ (S m).2→RF w (tot X ρ (S m).2) ρ (S m).2.length a.tmps fr→a.defers=d0→Q .normal a w:=by
  intro listed a w ρ fr m hall hfr hm hJl hch he hf hd;have hJs:ops.size≤J:=by
   apply Classical.byContradiction;intro hlt;have h1:=hJl (by omega);rw[hall J (by omega)]at h1;cases h1
  have h1:(S ops.size).2=(S m).2:=by
   have:=hsame m (ops.size-m) (by omega) (fun k o h1 h2 h3=>by
    cases hq:changer C o with
    |false=>rfl
    |
     true=>
     have hkl:k<ops.size:=(Array.getElem?_eq_some_iff.1 h3).1;have:=(hch k o h3 hq).2 (hall k hkl);omega)
   rwa [show m+(ops.size-m)=ops.size by omega]at this
  have h2:fr=(S ops.size).1:=by
   apply List.ext_getElem?;intro t;refine hfr.unique (hpre ops.size (Nat.le_refl _)) fun i o hi _=>?_
   have hil:i<ops.size:=(Array.getElem?_eq_some_iff.1 hi).1;simp[hil];have:=hall i hil;simpa using this
  rw[←h1]at he hf;rw[h2]at hf;exact hQ hJs a w ρ he hf hd
 intro fuel
 induction fuel with
 |
  zero=>
  intro listed a w ρ fr m hsz hcnt hcl hfr hm hJl hch he hf hd;have hall:∀i,i<ops.size→listed.getD i false=true:=fun i hi=>by
   have hil:i<listed.size:=by omega
   have:=cnt_zero listed.toList (by omega) i listed[i] (by simp[hil]);simpa[hil]using this
  refine⟨?_,hdone hall hfr hm hJl hch he hf hd⟩;apply List.eq_nil_iff_forall_not_mem.2;intro j hj;obtain⟨h0,o,ho,_⟩:=mem_ready.1 hj;have hjl:j<ops.size:=(Array.getElem?_eq_some_iff.1 ho).1;have h1:=hall j hjl;have hjl':j<listed.size:=by omega
  simp[hjl']at h0 h1;rw[h0]at h1;cases h1
 |
  succ fuel ih=>
  intro listed a w ρ fr m hsz hcnt hcl hfr hm hJl hch he hf hd;refine⟨fun hnil=>?_,fun j hj=>?_⟩
  ·by_cases hall:∀i,i<ops.size→listed.getD i false=true
   ·exact hdone hall hfr hm hJl hch he hf hd
   ·exfalso;have hex:∃i,i<ops.size∧listed.getD i false=false:=by
     apply Classical.byContradiction;intro hne;apply hall;intro i hi;cases hq:listed.getD i false with
     |true=>rfl
     |false=>exact absurd ⟨i,hi,hq⟩ hne
    have hleast:∀b i,i≤b→i<ops.size→listed.getD i false=false→∃j,j<ops.size∧listed.getD j false=false∧∀k,k<j→listed.getD k false=true:=by
     intro b
     induction b with
     |
      zero=>
      intro i hib hi hif;have:i=0:=by omega
      subst this;exact⟨0,hi,hif,fun k hk=>by omega⟩
     |
      succ b ihb=>
      intro i hib hi hif;by_cases hsm:∃k,k<i∧listed.getD k false=false
      ·obtain⟨k,hk,hkf⟩:=hsm;exact ihb k (by omega) (by omega) hkf
      ·refine⟨i,hi,hif,fun k hk=>?_⟩;cases hq:listed.getD k false with
       |true=>rfl
       |false=>exact absurd ⟨k,hk,hq⟩ hsm
    obtain⟨i,hi,hif⟩:=hex;obtain⟨j,hj,hjf,hlow⟩:=hleast i i (Nat.le_refl _) hi hif;have ho:ops[j]?=some ops[j]:=Array.getElem?_eq_getElem hj;have:j∈Region.ready .any ops listed:=mem_ready.2 ⟨by
     have hjl:j<listed.size:=by omega
     simp[hjl]at hjf⊢;exact hjf,ops[j],ho,fun e hee hb=>hlow e.on (hr.back j _ ho e hee hb)⟩
    rw[hnil]at this;cases this
  ·obtain⟨hj0,o,ho,hpreds⟩:=mem_ready.1 hj;have hjl:j<ops.size:=(Array.getElem?_eq_some_iff.1 ho).1;have hjls:j<listed.size:=by omega
   have hjf:listed.getD j false=false:=by simp[hjls]at hj0⊢;exact hj0
   have hpr:∀o',ops[j]?=some o'→∀e∈o'.after,Region.binds .any e=true→listed.getD e.on false=true:=fun o' ho' e hee hb=>by
    rw[ho]at ho';cases ho';exact hpreds e hee hb
   have hslot:∀t∈o.looksAt ops,fr[t]?=(S j).1[t]?:=fun t ht=>by
    refine hfr.unique (hpre j (by omega)) fun i oi hi hdst=>?_
    by_cases hij:i=j
    ·subst hij;simp;simpa using hjf
    ·rcases hr.look i j oi o t hij hi ho hdst ht with⟨hlt,hmbji⟩|⟨hlt,hmbij⟩
     ·have:=hmbr hcl hmbji hpr;simp[hlt];simpa using this
     ·have hnl:listed.getD i false=false:=by
       cases hq:listed.getD i false with
       |false=>rfl
       |true=>have:=hmb hcl hmbij hq;rw[hjf]at this;cases this
      have:¬i<j:=by omega
      simp[this];simpa using hnl
   have hev:∀x∈o.op.operands,ev C fr x=ev C (S j).1 x:=fun x hx=>by
    cases x with
    |
     tmp t=>
     have ht:t∈o.looksAt ops:=Zy _ (List.mem_filterMap.2 ⟨.tmp t,by simpa using hx,rfl⟩);simp only[ev,List.getD,hslot t ht]
    |_=>rfl
   have hwant:wantA ops fr o=wantA ops (S j).1 o:=by
    unfold wantA;cases hg:o.guard with
    |none=>rfl
    |
     some q=>
     obtain⟨g,wt⟩:=q;simp only;cases hdst:(ops[g]?).bind (·.dst)with
     |none=>rfl
     |
      some d=>
      have ht:d∈o.looksAt ops:=Zk _ (by simp[hg,hdst]);simp only[hslot d ht]
   have hheap:changer C o=true→(S m).2=(S j).2:=fun htch=>by
    by_cases hmj:m≤j
    ·have:=hsame m (j-m) (by omega) (fun k ok h1 h2 h3=>by
      cases hq:changer C ok with
      |false=>rfl
      |
       true=>
       have hkj:k≠j:=by omega
       rcases hr.heap k j ok o hkj h3 ho hq htch with⟨_,hmbjk⟩|⟨hlt,_⟩
       ·have h4:=hmbr hcl hmbjk hpr;have:=(hch k ok h3 hq).2 h4;omega
       ·omega)
     rw[←this,show m+(j-m)=j by omega]
    ·have:=hsame j (m-j) (by omega) (fun k ok h1 h2 h3=>by
      cases hq:changer C ok with
      |false=>rfl
      |
       true=>
       have h4:=(hch k ok h3 hq).1 (by omega);by_cases hkj:k=j
       ·subst hkj;rw[hjf]at h4;cases h4
       ·rcases hr.heap k j ok o hkj h3 ho hq htch with⟨hlt,_⟩|⟨_,hmbkj⟩
        ·omega
        ·have:=hmb hcl hmbkj h4;rw[hjf]at this;cases this)
     rw[show j+(m-j)=m by omega]at this;exact this
   have hmJ:m≤J:=by
    by_cases hJs:J<ops.size
    ·have hoJ:ops[J]?=some ops[J]:=Array.getElem?_eq_getElem hJs;apply Classical.byContradiction;intro hlt;have h1:=(hch J _ hoJ (hJc _ hoJ)).1 (by omega);rw[hJl hJs]at h1;cases h1
    ·omega
   by_cases hjJ:j=J
   ·subst hjJ;obtain⟨hwJ,u,hP,haJ,hQJ⟩:=hpn o ho;have hhp:=hheap (hJc o ho);rw[←hhp,←aop_congr hev]at haJ;rw[←hwant]at hwJ;exact op_panics hT hcall ho he.sim hf hwJ haJ fun w' ρ' he' hf'=>hQJ a w' ρ' (he.trans he') (hfr.ud hf') hd
   have hnb:¬bad j:=fun hb=>by
    rcases hbJ j hb with q|q
    ·exact hjJ q
    ·by_cases hJs:J<ops.size
     ·have h1:=hmbr hcl q hpr;rw[hJl hJs]at h1;cases h1
     ·have:=q.lt hr;omega
   obtain⟨hput,hstep,hnp⟩:=step1_spec (hS j o ho hnb);have hRj:=hR j o ho hnb;have hsz':(listed.setIfInBounds j true).size=ops.size:=by simpa using hsz
   have hcnt':cnt (listed.setIfInBounds j true).toList≤fuel:=by
    have h1:=cnt_set listed.toList j (by
     have:listed[j]=false:=by simpa[hjls]using hjf
     simp[hjls,this])
    rw[Array.toList_setIfInBounds];omega
   have hcl':∀(j':Nat) (o':Oper),ops[j']?=some o'→(listed.setIfInBounds j true).getD j' false=true→∀e∈o'.after,Region.binds .any e=true→(listed.setIfInBounds j true).getD e.on false=true:=by
    intro j' o' ho' hl e hee hb;rw[listed_get hjls]at hl;by_cases hjj:j'=j
    ·subst hjj;exact getD_set_true (hpr o' ho' e hee hb)
    ·rw[if_neg hjj]at hl;exact getD_set_true (hcl j' o' ho' hl e hee hb)
   have hfr':FrL ops (S 0).1 R (fun i=>(listed.setIfInBounds j true).getD i false) (putA o fr (R j)):=hfr.put hr ho fun i=>listed_get hjls i
   have next:∀(m':Nat) (h':Hp),m'≤ops.size→h'=(S m').2→(∀(k:Nat) (ok:Oper),ops[k]?=some ok→changer C ok=true→(k<m'↔(listed.setIfInBounds j true).getD k false=true))→
    ((wantA ops fr o=some true∧aop C call (ev C fr) (S m).2 o=some (R j,h'))∨(wantA ops fr o=some false∧R j= .un∧h'=(S m).2))→wpOp C.P ops Q j (wpAny C.P .any ops Q fuel (listed.setIfInBounds j true)) a w:=by
    intro m' h' hm' hh' hch' hres;subst hh';refine op_sound hT hcall ho he.sim hf (by rw[hR j o ho hnb];exact hnp) hres fun v w' ρ' he' hf' hdf=>?_
    exact ih _ _ w' ρ' _ m' hsz' hcnt' hcl' hfr' hm' (fun hJs=>by rw[listed_get hjls,if_neg (Ne.symm hjJ)];exact hJl hJs) hch' (he.trans he') hf' (hdf.trans hd)
   have stay:changer C o=false→∀(k:Nat) (ok:Oper),ops[k]?=some ok→changer C ok=true→(k<m↔(listed.setIfInBounds j true).getD k false=true):=by
    intro hnc k ok hk hq;have hkj:k≠j:=fun e=>by subst e;rw[ho]at hk;cases hk;rw[hnc]at hq;cases hq
    rw[listed_get hjls,if_neg hkj];exact hch k ok hk hq
   by_cases hch0:changer C o=true
   ·have htch:=hch0;have hhp:=hheap htch;refine next (j+1) _ (by omega) rfl ?_ ?_
    ·intro k ok hk hq;rw[listed_get hjls];by_cases hkj:k=j
     ·subst hkj;simp
     ·rw[if_neg hkj];rcases hr.heap k j ok o hkj hk ho hq htch with⟨hlt,hmbjk⟩|⟨hlt,hmbkj⟩
      ·have:=hmbr hcl hmbjk hpr;exact⟨fun _=>this,fun _=>by omega⟩
      ·refine⟨fun h1=>by omega,fun h1=>?_⟩;have:=hmb hcl hmbkj h1;rw[hjf]at this;cases this
    ·rw[hhp,hwant,aop_congr hev,hRj];exact hstep
   ·have hnc:changer C o=false:=by simpa using hch0
    refine next m _ hm rfl (stay hnc) ?_
    rw[hwant,aop_congr hev,hRj];rcases hstep with⟨h1,h2⟩|⟨h1,h2,h3⟩
    ·left;refine⟨h1,?_⟩;by_cases htch:toucher C o=true
     ·have hms:=masks_spec (ops:=ops) ops.toList [] (by simp) (fun j i h=>by simp at h);rw[←hRj];refine hdyn j o ho hnb hnc htch h1 m hm hmJ fun i oi hi hci=>⟨fun hb=>?_,fun hb=>?_⟩
      ·exact(hch i oi hi hci).2 (hmbr hcl (hms j i hb) hpr)
      ·have hnl:listed.getD i false=false:=by
        cases hq:listed.getD i false with
        |false=>rfl
        |true=>have:=hmb hcl (hms i j hb) hq;rw[hjf]at this;cases this
       have:¬i<m:=fun hlt=>by rw[(hch i oi hi hci).1 hlt]at hnl;cases hnl
       omega
     ·exact aop_free (by simpa using htch) h2 _
    ·exact .inr ⟨h1,h2,rfl⟩
theorem cc_mono {C:Cx}{ops:Array Oper}{m:Nat}(hm:m<ops.size):cc C ops (m+1)=cc C ops m+if changer C ops[m]=true then 1 else 0:=by
 unfold cc;rw[List.take_succ_eq_append_getElem (by simpa using hm),List.filter_append,Zu]
 congr 1
 simp only[Array.getElem_toList,List.filter_cons,List.filter_nil];split<;>rfl
theorem cc_none {C:Cx}{ops:Array Oper}:∀(d m:Nat),m+d≤ops.size→cc C ops (m+d)=cc C ops m→∀(k:Nat) (o:Oper),m≤k→k<m+d→ops[k]?=some o→changer C o=false
 |0,m,_,_,k,o,h1,h2,_=>by omega
 |
  d+1,m,hle,he,k,o,h1,h2,ho=>by
  have hstep:=cc_mono (C:=C) (ops:=ops) (m:=m+d) (by omega);have hge:∀d',m+d'≤ops.size→cc C ops m≤cc C ops (m+d'):=by
   intro d'
   induction d' with
   |zero=>intro _;exact Nat.le_refl _
   |
    succ d' ih=>
    intro h;have:=cc_mono (C:=C) (ops:=ops) (m:=m+d') (by omega);rw[←Nat.add_assoc,this];exact Yj (ih (by omega)) (Nat.le_add_right _ _)
  have h3:=hge d (by omega);rw[←Nat.add_assoc]at he;rw[he]at hstep;by_cases hc:changer C ops[m+d]=true
  ·rw[if_pos hc]at hstep;omega
  ·rw[if_neg hc]at hstep;by_cases hk:k=m+d
   ·subst hk;rw[Array.getElem?_eq_getElem (by omega)]at ho;cases ho;simpa using hc
   ·exact cc_none d m (by omega) (by omega) k o h1 (by omega) ho
theorem canon {C:Cx}{ops:Array Oper}:∀m,m≤ops.size→∃m0,m0≤m∧cc C ops m0=cc C ops m∧(m0=0∨∃o',ops[m0-1]?=some o'∧changer C o'=true)∧∀(k:Nat) (o:Oper),m0≤k→k<m→ops[k]?=some o→changer C o=false
 |0,_=>⟨0,Nat.le_refl _,rfl,.inl rfl,fun k o h1 h2=>by omega⟩
 |
  m+1,hm=>by
  have hmm:m<ops.size:=by omega
  have hstep:=cc_mono (C:=C) (ops:=ops) (m:=m) (by omega);by_cases hc:changer C ops[m]=true
  ·exact⟨m+1,Nat.le_refl _,rfl,.inr ⟨ops[m]'hmm,by simp,hc⟩,fun k o h1 h2=>by omega⟩
  ·obtain⟨m0,h1,h2,h3,h4⟩:=canon (C:=C) (ops:=ops) m (by omega);rw[if_neg hc]at hstep;refine⟨m0,by omega,by omega,h3,fun k o k1 k2 ho=>?_⟩;by_cases hk:k=m
   ·rw[hk,Array.getElem?_eq_getElem (show m<ops.size by omega)]at ho;simp only[Zc]at ho;rw[←ho];simpa using hc
   ·exact h4 k o k1 (by omega) ho
theorem chMask_bit {C:Cx}{ops:Array Oper}{i:Nat}(h:(chMask C ops).testBit i=true):isCh C ops i=true:=by
 have key:∀(l:List Nat) (s:Nat),(l.foldl (fun s i=>cond (isCh C ops i) (s|||2^i) s) s).testBit i=true→s.testBit i=true∨isCh C ops i=true:=by
  intro l
  induction l with
  |nil=>exact fun s h=> .inl h
  |
   cons k l ih=>
   intro s h;rcases ih _ h with h1|h1
   ·simp only at h1;cases hk:isCh C ops k with
    |false=>rw[hk]at h1;exact .inl h1
    |
     true=>
     rw[hk]at h1;simp only[cond_true,Nat.testBit_or,Bool.or_eq_true,Nat.testBit_two_pow,Zz]at h1;rcases h1 with h1|h1
     ·exact .inl h1
     ·subst h1;exact .inr hk
   ·exact .inr h1
 rcases key _ 0 h with h1|h1
 ·simp at h1
 ·exact h1
theorem isCh_spec {C:Cx}{ops:Array Oper}{i:Nat}(h:isCh C ops i=true):∃o,ops[i]?=some o∧changer C o=true:=by
 unfold isCh at h;split at h
 ·rename_i o ho;exact⟨o,ho,h⟩
 ·cases h
theorem mayRun_of {C:Cx}{ops:Array Oper}{ms:List Nat}{j m:Nat}(hm:m≤ops.size)
 (h:∀(i:Nat) (oi:Oper),ops[i]?=some oi→changer C oi=true→((ms.getD j 0).testBit i=true→i<m)∧((ms.getD i 0).testBit j=true→m≤i)):mayRun C ops ms j m=true:=by
 unfold mayRun;rw[Zh];constructor
 ·refine Nat.ble_eq_true_of_le ?_;unfold befN;cases hq:Nat.beq (ms.getD j 0 &&& chMask C ops) 0 with
  |true=>exact Nat.zero_le _
  |
   false=>
   have hne:ms.getD j 0 &&& chMask C ops≠0:=fun e=>by rw[e]at hq;cases hq
   have hb:=Nat.testBit_log2 hne;rw[Nat.testBit_and,Zh]at hb;obtain⟨o,ho,hc⟩:=isCh_spec (chMask_bit hb.2);exact(h _ o ho hc).1 hb.1
 ·refine Nat.ble_eq_true_of_le ?_;unfold aftN;cases hf:(List.range ops.size).find? fun i=>isCh C ops i && (ms.getD i 0).testBit j with
  |none=>exact hm
  |
   some i=>
   have hp:=List.find?_some hf;rw[Zh]at hp;obtain⟨o,ho,hc⟩:=isCh_spec hp.1;exact(h i o ho hc).2 hp.2
theorem draw_sound (hm:C.P.follows .mixedOrders=true)(hT:∀t i,C.T t=some i→tiOf C.P t=some i)(hcall:CallOK C call)(hkeep:∀g xs h r h',C.inl g=false→call g xs h=some (r,h')→h'=h)(hr:rok C ops=true)
 {s s':St} {sts:List St} (hrun:runOpsL C call ops ops.toList s=some sts) (hsame:(needs C ops).all (sameAt C call ops sts)=true) (hlast:sts[ops.size]?=some s')
 {X:Nat→Prop} {w:World} {ρ:Nat→Nat} {a:Act} (hs:Sim C.G w X ρ s.2) (hf:RF w (tot X ρ s.2) ρ s.2.length a.tmps s.1) {id:Nat} {Q:Exit→Act→World→Prop}
 (hQ:∀a' w' ρ',Ext C.G w X ρ s.2 w' ρ' s'.2→RF w' (tot X ρ' s'.2) ρ' s'.2.length a'.tmps s'.1→a'.defers=a.defers→Q .normal a' w'):(Code.region id ops true).wp C.P Q a w:=by
 obtain⟨S,e0,el,e1,e2⟩:=run_split _ s sts hrun;rw[Array.length_toList]at e1;have eL:S ops.size=s':=by
  have:=e1 ops.size (Nat.le_refl _);rw[hlast]at this;exact(Option.some.inj this).symm
 have hS:∀(k:Nat) (o:Oper),ops[k]?=some o→step1 C call ops o (S k)=some (S (k+1)):=fun k o hk=>e2 k o (by simpa using hk)
 have hquiet:∀i d,i+d≤ops.size→(∀(k:Nat) (o:Oper),i≤k→k<i+d→ops[k]?=some o→changer C o=false)→(S (i+d)).2=(S i).2:=by
  intro i d
  induction d with
  |zero=>intro _ _;rfl
  |
   succ d ih=>
   intro hle hno;have ho:ops[i+d]?=some ops[i+d]:=Array.getElem?_eq_getElem (by omega);have h1:=(step1_spec (hS (i+d) _ ho)).2.1;have h2:=ih (by omega) (fun k o h1 h2 h3=>hno k o h1 (by omega) h3);rcases h1 with⟨_,ha⟩|⟨_,_,ha⟩
   ·have:=aop_same hkeep (hno (i+d) _ (by omega) (by omega) ho) ha;rw[show i+(d+1)=i+d+1 by omega,this,h2]
   ·rw[show i+(d+1)=i+d+1 by omega,ha,h2]
 have hcceq:∀i k,i≤k→k≤ops.size→cc C ops i=cc C ops k→(S k).2=(S i).2:=by
  intro i k h1 h2 h3;have:=hquiet i (k-i) (by omega) (fun q o q1 q2 q3=>cc_none (k-i) i (by omega) (by rw[show i+(k-i)=k by omega];exact h3.symm) q o q1 q2 q3)
  rwa [show i+(k-i)=k by omega]at this
 have hdyn:∀(j:Nat) (o:Oper),ops[j]?=some o→changer C o=false→toucher C o=true→wantA ops (S j).1 o=some true→∀m,m≤ops.size→
  (∀(i:Nat) (oi:Oper),ops[i]?=some oi→changer C oi=true→(((masks ops.toList []).getD j 0).testBit i=true→i<m)∧(((masks ops.toList []).getD i 0).testBit j=true→m≤i))→aop C call (ev C (S j).1) (S m).2 o=some (res1 C call ops o (S j),(S m).2):=by
  intro j o ho hc ht hw m hm' hmay;have hj:j<ops.size:=(Array.getElem?_eq_some_iff.1 ho).1;have hstep:=step1_spec (hS j o ho);have haj:aop C call (ev C (S j).1) (S j).2 o=some (res1 C call ops o (S j),(S j).2):=by
   rcases hstep.2.1 with⟨_,h2⟩|⟨h1,_⟩
   ·have:=aop_same hkeep hc h2;rw[this]at h2;exact h2
   ·rw[hw]at h1;cases h1
  obtain⟨m0,c1,c2,c3,c4⟩:=canon (C:=C) (ops:=ops) m hm';have hm0:=hcceq m0 m c1 hm' c2;rw[hm0];by_cases hcj:cc C ops m0=cc C ops j
  ·have:(S m0).2=(S j).2:=by
    by_cases hle:m0≤j
    ·exact(hcceq m0 j hle (by omega) hcj).symm
    ·exact hcceq j m0 (by omega) (by omega) hcj.symm
   rw[this];exact haj
  ·rw[List.all_eq_true]at hsame;have hmr:mayRun C ops (masks ops.toList []) j m0=true:=by
    refine mayRun_of (by omega) fun i oi hi hci=>⟨fun hb=>?_,fun hb=>?_⟩
    ·have h5:=(hmay i oi hi hci).1 hb;apply Classical.byContradiction;intro hlt;have:=c4 i oi (by omega) h5 hi;rw[hci]at this;cases this
    ·have:=(hmay i oi hi hci).2 hb;omega
   have hmz:atChange C ops m0=true:=by
    unfold atChange;rcases c3 with rfl|⟨o',h3,h4⟩
    ·rfl
    ·rw[h3];simp[h4]
   have hmem:(j,m0)∈needs C ops:=by
    unfold needs;refine List.mem_flatMap.2 ⟨j,by simpa using hj,?_⟩;rw[ho];simp only[hc,ht,Bool.false_or,Bool.not_true,Yl,if_false];refine List.mem_filterMap.2 ⟨m0,by simp;omega,?_⟩;have hnb:Nat.beq (cc C ops m0) (cc C ops j)=false:=by
     cases hq:Nat.beq (cc C ops m0) (cc C ops j)with
     |false=>rfl
     |true=>exact absurd (Nat.eq_of_beq_eq_true hq) hcj
    simp only[hnb,hmz,hmr,Bool.false_or,Bool.not_true,Bool.or_self,Yl,if_false]
   have h2:=hsame _ hmem;simp only[sameAt,ho,e1 j (by omega),hw,e1 m0 (by omega),haj]at h2;split at h2
   ·rename_i v' h' hav;have:=eqvB_sound h2;have hh:=aop_same hkeep hc hav;rw[hav,this,hh]
   ·cases h2
 have he:=ext_drawn hs (w.drawn+1);refine wp_region_any hm ?_;have hcl:∀i,(Array.replicate ops.size false).getD i false=false:=fun i=>by
  by_cases h:i<ops.size<;>simp[h]
 have hno:∀o,ops[ops.size]?≠some o:=fun o=>by simp
 refine draw_aux (S:=S) (R:=fun k=>match ops[k]? with|some o=>res1 C call ops o (S k)|none=> .ud) (w0:=w) (ρ0:=ρ) (d0:=a.defers) hT hcall hkeep (rok_spec hr) (J:=ops.size) (bad:=fun _=>False) (fun k h=>h.elim) (fun h=>by omega) (fun o ho=>absurd ho (hno o)) (fun k o hk _=>hS k o hk) (fun k o _ h=>h.elim) (fun k o hk _=>by simp only[hk]) (fun k o _ h=>h.elim)
  (fun j o ho _ hc ht hw m hm' _ hmay=>by simp only[ho];exact hdyn j o ho hc ht hw m hm' hmay)
  (fun _ a' w' ρ' h1 h2 h3=>hQ a' w' ρ' (by rw[e0,eL]at h1;exact h1) (by rw[eL]at h2;exact h2) h3) (fun o ho=>absurd ho (hno o)) ops.size _ a _ ρ s.1 0 (by simp) ?_ ?_ ?_ (Nat.zero_le _) (fun h=>by omega) ?_ (by rw[e0];exact he) (by rw[e0];exact he.rf hf) rfl
 ·simp only[cnt,Array.toList_replicate];exact Yj (List.length_filter_le _ _) (by simp)
 ·intro j o _ hl;rw[hcl]at hl;cases hl
 ·rw[e0];refine⟨rfl,fun i o t hi ht hlt=>?_,fun t _=>rfl⟩;rw[hcl];simp[List.getD,Zb hlt]
 ·intro k o _ _;rw[hcl];simp
theorem need_or {j m:Nat}{o:Oper}(ho:ops[j]?=some o)(hc:changer C o=false)(ht:toucher C o=true)(hm':m≤ops.size)
 (hmay:∀(i:Nat) (oi:Oper),ops[i]?=some oi→changer C oi=true→(((masks ops.toList []).getD j 0).testBit i=true→i<m)∧(((masks ops.toList []).getD i 0).testBit j=true→m≤i)):
 ∃m0,m0≤m∧cc C ops m0=cc C ops m∧(cc C ops m0=cc C ops j∨(j,m0)∈needs C ops):=by
 have hj:j<ops.size:=(Array.getElem?_eq_some_iff.1 ho).1;obtain⟨m0,c1,c2,c3,c4⟩:=canon (C:=C) (ops:=ops) m hm';refine⟨m0,c1,c2,?_⟩;by_cases hcj:cc C ops m0=cc C ops j
 ·exact .inl hcj
 ·refine .inr ?_;have hmr:mayRun C ops (masks ops.toList []) j m0=true:=by
   refine mayRun_of (by omega) fun i oi hi hci=>⟨fun hb=>?_,fun hb=>?_⟩
   ·have h5:=(hmay i oi hi hci).1 hb;apply Classical.byContradiction;intro hlt;have:=c4 i oi (by omega) h5 hi;rw[hci]at this;cases this
   ·have:=(hmay i oi hi hci).2 hb;omega
  have hmz:atChange C ops m0=true:=by
   unfold atChange;rcases c3 with rfl|⟨o',h3,h4⟩
   ·rfl
   ·rw[h3];simp[h4]
  unfold needs;refine List.mem_flatMap.2 ⟨j,by simpa using hj,?_⟩;rw[ho];simp only[hc,ht,Bool.false_or,Bool.not_true,Yl,if_false];refine List.mem_filterMap.2 ⟨m0,by simp;omega,?_⟩;have hnb:Nat.beq (cc C ops m0) (cc C ops j)=false:=by
   cases hq:Nat.beq (cc C ops m0) (cc C ops j)with
   |false=>rfl
   |true=>exact absurd (Nat.eq_of_beq_eq_true hq) hcj
  simp only[hnb,hmz,hmr,Bool.false_or,Bool.not_true,Bool.or_self,Yl,if_false]
theorem draw_pan (hm:C.P.follows .mixedOrders=true)(hT:∀t i,C.T t=some i→tiOf C.P t=some i)(hcall:CallOK C call)(hkeep:∀g xs h r h',C.inl g=false→call g xs h=some (r,h')→h'=h)(hr:rok C ops=true)
 {s:St} {v:Value} {hP:Hp} (hd:PanD C call ops s v hP)
 {X:Nat→Prop} {w:World} {ρ:Nat→Nat} {a:Act} (hs:Sim C.G w X ρ s.2) (hf:RF w (tot X ρ s.2) ρ s.2.length a.tmps s.1) {id:Nat} {Q:Exit→Act→World→Prop}
 (hQ:∀a' w' ρ',Ext C.G w X ρ s.2 w' ρ' hP→RF w' (tot X ρ' hP) ρ' hP.length a'.tmps (udF ops.toList s.1)→a'.defers=a.defers→Q (.panic [{v,recovered:=false}]) a' w'):(Code.region id ops true).wp C.P Q a w:=by
 obtain⟨J,oJ,sj,s2,h1,h2,h3,h4,h5,h6,h7⟩:=hd;have hJ:J<ops.size:=(Array.getElem?_eq_some_iff.1 h1).1;obtain⟨S1,a0,aJ,aS⟩:=run_splitO _ _ _ h2;obtain⟨S2,b0,bS⟩:=run_skip _ _ _ h7;have lenJ:(ops.toList.take J).length=J:=by rw[List.length_take,Array.length_toList];omega
 rw[lenJ]at aJ;have hrest:∀k o,J<k→ops[k]?=some o→(restJ ops J)[k-(J+1)]?=some (o,((masks ops.toList []).getD k 0).testBit J):=fun k o hk ho=>by
  have ho':ops.toList[k]?=some o:=by simpa using ho
  unfold restJ;rw[Zs,List.getElem?_drop,List.getElem?_zipIdx,show J+1+(k-(J+1))=k by omega,ho'];simp
 obtain⟨S,eS⟩:∃S:Nat→St,∀k,S k=if k≤J then S1 k else S2 (k-(J+1)):=⟨_,fun _=>rfl⟩
 obtain⟨bad,eb⟩:∃bad:Nat→Prop,∀k,bad k↔(k=J∨(J<k∧((masks ops.toList []).getD k 0).testBit J=true)):=⟨_,fun _=>Iff.rfl⟩;have e0:S 0=s:=by rw[eS,if_pos (Nat.zero_le _),a0]
 have eJ:S J=sj:=by rw[eS,if_pos (Nat.le_refl _),aJ]
 have hS:∀(k:Nat) (o:Oper),ops[k]?=some o→¬bad k→step1 C call ops o (S k)=some (S (k+1)):=fun k o ho hb=>by
  rw[eb]at hb;by_cases hk:k<J
  ·rw[eS,eS,if_pos (by omega),if_pos (by omega)];refine aS k o ?_;rw[List.getElem?_take_of_lt hk];simpa using ho
  ·have hk':J<k:=by omega
   have:=bS _ _ _ (hrest k o hk' ho);rw[if_neg (fun q=>hb (.inr ⟨hk',q⟩))]at this;rw[eS,eS,if_neg (by omega),if_neg (by omega),show k+1-(J+1)=k-(J+1)+1 by omega];exact this
 have hB:∀(k:Nat) (o:Oper),ops[k]?=some o→bad k→S (k+1)=S k:=fun k o ho hb=>by
  rw[eb]at hb;rcases hb with rfl|⟨hk,hb⟩
  ·rw[eS,eS,if_neg (by omega),if_pos (Nat.le_refl _),Nat.sub_self,b0,aJ]
  ·have:=bS _ _ _ (hrest k o hk ho);rw[if_pos hb]at this;rw[eS,eS,if_neg (by omega),if_neg (by omega),show k+1-(J+1)=k-(J+1)+1 by omega];exact this
 have hquiet:∀i d,i+d≤ops.size→(∀(k:Nat) (o:Oper),i≤k→k<i+d→ops[k]?=some o→changer C o=false)→(S (i+d)).2=(S i).2:=by
  intro i d
  induction d with
  |zero=>intro _ _;rfl
  |
   succ d ih=>
   intro hle hno;have ho:ops[i+d]?=some ops[i+d]:=Array.getElem?_eq_getElem (by omega);have h2:=ih (by omega) (fun k o h1 h2 h3=>hno k o h1 (by omega) h3);by_cases hb:bad (i+d)
   ·rw[show i+(d+1)=i+d+1 by omega,hB (i+d) _ ho hb,h2]
   have h1:=(step1_spec (hS (i+d) _ ho hb)).2.1;rcases h1 with⟨_,ha⟩|⟨_,_,ha⟩
   ·have:=aop_same hkeep (hno (i+d) _ (by omega) (by omega) ho) ha;rw[show i+(d+1)=i+d+1 by omega,this,h2]
   ·rw[show i+(d+1)=i+d+1 by omega,ha,h2]
 have hcceq:∀i k,i≤k→k≤ops.size→cc C ops i=cc C ops k→(S k).2=(S i).2:=by
  intro i k h1 h2 h3;have:=hquiet i (k-i) (by omega) (fun q o q1 q2 q3=>cc_none (k-i) i (by omega) (by rw[show i+(k-i)=k by omega];exact h3.symm) q o q1 q2 q3)
  rwa [show i+(k-i)=k by omega]at this
 have hms:=masks_spec (ops:=ops) ops.toList [] (by simp) (fun j i h=>by simp at h);have he:=ext_drawn hs (w.drawn+1);refine wp_region_any hm ?_;have hcl:∀i,(Array.replicate ops.size false).getD i false=false:=fun i=>by
  by_cases h:i<ops.size<;>simp[h]
 refine draw_aux (S:=S) (R:=fun k=>match ops[k]? with|some o=>(open Classical in if bad k then(match o.dst with|some d=>(S 0).1.getD d .ud|none=> .ud)else res1 C call ops o (S k))|none=> .ud) (w0:=w) (ρ0:=ρ) (d0:=a.defers) hT hcall hkeep (rok_spec hr) (J:=J) (bad:=bad) ?_ (fun _=>(eb J).2 (.inl rfl)) (fun o ho=>?_) hS hB (fun k o hk hb=>by simp only[hk,if_neg hb]) (fun k o hk hb d hd=>by simp only[hk,if_pos hb,hd])
  (fun j o ho hb hc ht hw m hm' hmJ hmay=>?_)
  (fun h=>by omega) (fun o ho=>?_) ops.size _ a _ ρ s.1 0 (by simp) ?_ ?_ ?_ (Nat.zero_le _) (fun _=>hcl J) ?_ (by rw[e0];exact he) (by rw[e0];exact he.rf hf) rfl
 ·intro k hb;rcases(eb k).1 hb with q|⟨_,q⟩
  ·exact .inl q
  ·exact .inr (hms k J q)
 ·rw[h1]at ho;cases ho;exact h3
 ·simp only[ho,if_neg hb];have hj:j<ops.size:=(Array.getElem?_eq_some_iff.1 ho).1;have haj:aop C call (ev C (S j).1) (S j).2 o=some (res1 C call ops o (S j),(S j).2):=by
   rcases(step1_spec (hS j o ho hb)).2.1 with⟨_,h2⟩|⟨h1,_⟩
   ·have:=aop_same hkeep hc h2;rw[this]at h2;exact h2
   ·rw[hw]at h1;cases h1
  obtain⟨m0,c1,c2,c3⟩:=need_or ho hc ht hm' hmay;rw[hcceq m0 m c1 hm' c2];rcases c3 with hcj|hmem
  ·have:(S m0).2=(S j).2:=by
    by_cases hle:m0≤j
    ·exact(hcceq m0 j hle (by omega) hcj).symm
    ·exact hcceq j m0 (by omega) (by omega) hcj.symm
   rw[this];exact haj
  ·have:=h4 _ hmem;exact absurd this (by simp only;omega)
 ·rw[h1]at ho;cases ho;rw[eJ];refine⟨h5,v,hP,h6,fun a' w' ρ' k1 k2 k3=>hQ a' w' ρ' ?_ ?_ k3⟩
  ·rw[e0]at k1;exact k1
  ·rw[e0]at k2;exact k2
 ·simp only[cnt,Array.toList_replicate];exact Yj (List.length_filter_le _ _) (by simp)
 ·intro j o _ hl;rw[hcl]at hl;cases hl
 ·rw[e0];refine⟨rfl,fun i o t hi ht hlt=>?_,fun t _=>rfl⟩;rw[hcl];simp[List.getD,Zb hlt]
 ·intro k o _ _;rw[hcl];simp
end draw
end Go.Ae
