/- The abstract evaluator, part 14: the same evaluator over frames that are trees: what the kernel runs. -/
import Derived.Test.YtadaeokidcgdlaaGreatDoorP11
set_option linter.unusedSimpArgs false
namespace Go.Ae
open Go
inductive Tr where
 |lf
 |nd (l:Tr) (v:AV) (r:Tr)
noncomputable def Tr.get (t:Tr):Nat→AV:=Tr.rec (motive:=fun _=>Nat→AV) (fun _=> .ud) (fun _ v _ gl gr n=>Bool.rec (motive:=fun _=>AV) (Bool.rec (motive:=fun _=>AV) (gr (Nat.div (Nat.sub n 1) 2)) (gl (Nat.div n 2)) (Nat.beq (Nat.mod n 2) 1)) v (Nat.beq n 0)) t
noncomputable def Tr.set (t:Tr):Nat→AV→Tr:=Tr.rec (motive:=fun _=>Nat→AV→Tr) (fun _ _=> .lf) (fun l v r sl sr n x=>Bool.rec (motive:=fun _=>Tr) (Bool.rec (motive:=fun _=>Tr) (.nd l v (sr (Nat.div (Nat.sub n 1) 2) x)) (.nd (sl (Nat.div n 2) x) v r) (Nat.beq (Nat.mod n 2) 1)) (.nd l x r) (Nat.beq n 0)) t
noncomputable def Tr.mk (n:Nat)(x:AV)(k:Nat):Nat→Nat→Tr:=Nat.rec (motive:=fun _=>Nat→Nat→Tr) (fun _ _=> .lf) (fun _ rest a s=>cond (Nat.ble (Nat.succ a) n) (.nd (rest (Nat.add a s) (Nat.mul 2 s)) x (rest (Nat.add a (Nat.mul 2 s)) (Nat.mul 2 s))) .lf) k
noncomputable def Tr.hasB (t:Tr):Nat→Bool:=Tr.rec (motive:=fun _=>Nat→Bool) (fun _=>false) (fun _ _ _ gl gr n=>cond (Nat.beq n 0) true (cond (Nat.beq (Nat.mod n 2) 1) (gl (Nat.div n 2)) (gr (Nat.div (Nat.sub n 1) 2)))) t
def Tr.has :Tr→Nat→Prop
 | .lf,_=>False
 | .nd l _ r,n=>n=0∨(n % 2=1∧l.has (n/2))∨(n≠0∧n % 2=0∧r.has ((n-1)/2))
theorem beq_ite (a b:Nat){α:Type}(x y:α):cond (Nat.beq a b) x y=if a=b then x else y:=by
 by_cases h:a=b
 ·subst h;rw[show Nat.beq a a=true from Nat.beq_refl a,if_pos rfl];rfl
 ·have:Nat.beq a b=false:=by
   cases hq:Nat.beq a b with
   |false=>rfl
   |true=>exact absurd (Nat.eq_of_beq_eq_true hq) h
  rw[this,if_neg h];rfl
theorem brec {α:Type}(b:Bool)(x y:α):Bool.rec (motive:=fun _=>α) y x b=cond b x y:=by cases b<;>rfl
theorem Tr.get_nd (l r:Tr)(v:AV)(n:Nat):(Tr.nd l v r).get n=if n=0 then v else if n % 2=1 then l.get (n/2)else r.get ((n-1)/2):=by
 show Bool.rec (motive:=fun _=>AV) (Bool.rec (motive:=fun _=>AV) (r.get (Nat.div (Nat.sub n 1) 2)) (l.get (Nat.div n 2)) (Nat.beq (Nat.mod n 2) 1)) v (Nat.beq n 0)=_;rw[brec,brec,beq_ite,beq_ite];rfl
theorem Tr.set_nd (l r:Tr)(v x:AV)(n:Nat):(Tr.nd l v r).set n x=if n=0 then .nd l x r else if n % 2=1 then .nd (l.set (n/2) x) v r else .nd l v (r.set ((n-1)/2) x):=by
 show Bool.rec (motive:=fun _=>Tr) (Bool.rec (motive:=fun _=>Tr) (Tr.nd l v (r.set (Nat.div (Nat.sub n 1) 2) x)) (Tr.nd (l.set (Nat.div n 2) x) v r) (Nat.beq (Nat.mod n 2) 1)) (Tr.nd l x r) (Nat.beq n 0)=_;rw[brec,brec,beq_ite,beq_ite];rfl
theorem Tr.has_set (x:AV):∀(t:Tr) (d i:Nat),(t.set d x).has i↔t.has i
 | .lf,_,_=>Iff.rfl
 |
  .nd l v r,d,i=>by
  rw[Tr.set_nd];split
  ·exact Iff.rfl
  ·split
   ·simp only[Tr.has,Tr.has_set x l]
   ·simp only[Tr.has,Tr.has_set x r]
theorem Tr.get_set (x:AV):∀(t:Tr) (d i:Nat),t.has d→(t.set d x).get i=if i=d then x else t.get i
 | .lf,_,_,h=>h.elim
 |
  .nd l v r,d,i,h=>by
  rw[Tr.set_nd];by_cases hd:d=0
  ·rw[if_pos hd,Tr.get_nd,Tr.get_nd];subst hd;by_cases hi:i=0
   ·rw[if_pos hi,if_pos hi]
   ·rw[if_neg hi,if_neg hi,if_neg hi]
  ·rw[if_neg hd];by_cases hp:d % 2=1
   ·rw[if_pos hp,Tr.get_nd,Tr.get_nd];have hh:l.has (d/2):=by
     rcases h with h|⟨_,h⟩|⟨_,h,_⟩
     ·exact absurd h hd
     ·exact h
     ·omega
    by_cases hi:i=0
    ·rw[if_pos hi,if_pos hi,if_neg (by omega)]
    ·rw[if_neg hi,if_neg hi];by_cases hq:i % 2=1
     ·rw[if_pos hq,if_pos hq,Tr.get_set x l _ _ hh];by_cases e:i=d
      ·rw[if_pos e,if_pos (by rw[e])]
      ·rw[if_neg e,if_neg (by omega)]
     ·rw[if_neg hq,if_neg hq,if_neg (by omega)]
   ·rw[if_neg hp,Tr.get_nd,Tr.get_nd];have hh:r.has ((d-1)/2):=by
     rcases h with h|⟨h,_⟩|⟨_,_,h⟩
     ·exact absurd h hd
     ·omega
     ·exact h
    by_cases hi:i=0
    ·rw[if_pos hi,if_pos hi,if_neg (by omega)]
    ·rw[if_neg hi,if_neg hi];by_cases hq:i % 2=1
     ·rw[if_pos hq,if_pos hq,if_neg (by omega)]
     ·rw[if_neg hq,if_neg hq,Tr.get_set x r _ _ hh];by_cases e:i=d
      ·rw[if_pos e,if_pos (by rw[e])]
      ·rw[if_neg e,if_neg (by omega)]
theorem ble_ite (a b:Nat){α:Type}(x y:α):cond (Nat.ble (Nat.succ a) b) x y=if a<b then x else y:=by
 by_cases h:a<b
 ·rw[show Nat.ble (Nat.succ a) b=true from Nat.ble_eq_true_of_le h,if_pos h];rfl
 ·have:Nat.ble (Nat.succ a) b=false:=by
   cases hq:Nat.ble (Nat.succ a) b with
   |false=>rfl
   |true=>exact absurd (Nat.le_of_ble_eq_true hq) h
  rw[this,if_neg h];rfl
theorem Tr.hasB_iff :∀(t:Tr) (n:Nat),t.hasB n=true↔t.has n
 | .lf,n=>⟨fun h=>(by cases h),fun h=>h.elim⟩
 |
  .nd l v r,n=>by
  have e:(Tr.nd l v r).hasB n=if n=0 then true else if n % 2=1 then l.hasB (n/2)else r.hasB ((n-1)/2):=by
   show cond (Nat.beq n 0) true (cond (Nat.beq (Nat.mod n 2) 1) (l.hasB (Nat.div n 2)) (r.hasB (Nat.div (Nat.sub n 1) 2)))=_;rw[beq_ite,beq_ite];rfl
  rw[e];simp only[Tr.has];by_cases h0:n=0
  ·simp[h0]
  ·by_cases h1:n % 2=1
   ·rw[if_neg h0,if_pos h1,Tr.hasB_iff l];exact⟨fun h=> .inr (.inl ⟨h1,h⟩),fun h=>by rcases h with h|h|h<;>first|exact absurd h h0|exact h.2|omega⟩
   ·rw[if_neg h0,if_neg h1,Tr.hasB_iff r];exact⟨fun h=> .inr (.inr ⟨h0,by omega,h⟩),fun h=>by rcases h with h|h|h<;>first|exact absurd h h0|exact h.2.2|omega⟩
theorem Tr.mk_succ (n:Nat)(x:AV)(k a s:Nat):Tr.mk n x (k+1) a s=if a<n then .nd (Tr.mk n x k (a+s) (2*s)) x (Tr.mk n x k (a+2*s) (2*s))else .lf:=by
 show cond (Nat.ble (Nat.succ a) n) (Tr.nd (Tr.mk n x k (Nat.add a s) (Nat.mul 2 s)) x (Tr.mk n x k (Nat.add a (Nat.mul 2 s)) (Nat.mul 2 s))) .lf=_;rw[ble_ite];rfl
theorem Tr.mk_spec (n:Nat)(x:AV):∀(k a s d:Nat),0<s→n<a+s*(2^k-1)+1→((Tr.mk n x k a s).has d↔a+s*d<n)∧((Tr.mk n x k a s).has d→(Tr.mk n x k a s).get d=x)
 |
  0,a,s,d,hs,hn=>by
  refine⟨⟨fun h=>h.elim,fun h=>?_⟩,fun h=>h.elim⟩;have hz:s*(2^0-1)=0:=by simp
  rw[hz]at hn;have:=Nat.zero_le (s*d);omega
 |
  k+1,a,s,d,hs,hn=>by
  rw[Tr.mk_succ];have hp:s*(2^(k+1)-1)=s+2*s*(2^k-1):=by
   have h1:0<2^k:=Nat.two_pow_pos k;have h2:2^(k+1)-1=1+2*(2^k-1):=by rw[Nat.pow_succ];omega
   rw[h2,Nat.mul_add,Nat.mul_one,←Nat.mul_assoc,Nat.mul_comm s 2]
  rw[hp]at hn;split
  ·rename_i ha;obtain⟨l1,l2⟩:=Tr.mk_spec n x k (a+s) (2*s) (d/2) (by omega) (by omega);obtain⟨r1,r2⟩:=Tr.mk_spec n x k (a+2*s) (2*s) ((d-1)/2) (by omega) (by omega);have hl:d % 2=1→a+s+2*s*(d/2)=a+s*d:=fun h=>by
    have e:d=2*(d/2)+1:=by omega
    have:s*d=s*(2*(d/2)+1):=by rw[←e]
    rw[this,Nat.mul_add,Nat.mul_one,←Nat.mul_assoc,Nat.mul_comm s 2];omega
   have hr:d≠0→d % 2=0→a+2*s+2*s*((d-1)/2)=a+s*d:=fun h0 h=>by
    have e:d=2*((d-1)/2)+2:=by omega
    have:s*d=s*(2*((d-1)/2)+2):=by rw[←e]
    rw[this,Nat.mul_add,←Nat.mul_assoc,Nat.mul_comm s 2];omega
   refine⟨?_,?_⟩
   ·simp only[Tr.has,l1,r1];by_cases h0:d=0
    ·subst h0;simp[ha]
    ·by_cases h1:d % 2=1
     ·rw[hl h1];exact⟨fun h=>by rcases h with h|h|h<;>first|exact absurd h h0|exact h.2|omega,fun h=> .inr (.inl ⟨h1,h⟩)⟩
     ·rw[hr h0 (by omega)];exact⟨fun h=>by rcases h with h|h|h<;>first|exact absurd h h0|exact h.2.2|omega,fun h=> .inr (.inr ⟨h0,by omega,h⟩)⟩
   ·intro h;rw[Tr.get_nd];split
    ·rfl
    ·rename_i h0;split
     ·rename_i h1;rcases h with h|h|h
      ·exact absurd h h0
      ·exact l2 h.2
      ·omega
     ·rename_i h1;rcases h with h|h|h
      ·exact absurd h h0
      ·omega
      ·exact r2 h.2.2
  ·rename_i ha;refine⟨⟨fun h=>h.elim,fun h=>?_⟩,fun h=>h.elim⟩;have:=Nat.zero_le (s*d);omega
theorem Tr.get_miss :∀(t:Tr) (d:Nat),¬t.has d→t.get d= .ud
 | .lf,_,_=>rfl
 |
  .nd l v r,d,h=>by
  simp only[Tr.has,not_or]at h;rw[Tr.get_nd,if_neg h.1];split
  ·rename_i h1;exact Tr.get_miss l _ fun hh=>h.2.1 ⟨h1,hh⟩
  ·rename_i h1;exact Tr.get_miss r _ fun hh=>h.2.2 ⟨h.1,by omega,hh⟩
theorem Tr.set_miss (x:AV):∀(t:Tr) (d:Nat),¬t.has d→t.set d x=t
 | .lf,_,_=>rfl
 |
  .nd l v r,d,h=>by
  simp only[Tr.has,not_or]at h;rw[Tr.set_nd,if_neg h.1];split
  ·rename_i h1;rw[Tr.set_miss x l _ fun hh=>h.2.1 ⟨h1,hh⟩]
  ·rename_i h1;rw[Tr.set_miss x r _ fun hh=>h.2.2 ⟨h.1,by omega,hh⟩]
noncomputable def setAll :Tr→Nat→List AV→Tr
 |t,_,[]=>t
 |t,i,x::xs=>setAll (t.set i x) (i+1) xs
abbrev TF :=Tr
noncomputable def Tr.start (n:Nat)(args:List AV):Tr:=setAll (Tr.mk n .un (Nat.log2 n+1) 0 1) 0 args
def Rep (t:Tr)(fr:List AV):Prop:=∀i,(t.has i↔i<fr.length)∧t.get i=fr.getD i .ud
theorem Rep.at {t:Tr}{fr:List AV}(h:Rep t fr)(i:Nat):t.get i=fr.getD i .ud:=(h i).2
theorem Rep.put {t:Tr}{fr:List AV}(h:Rep t fr)(d:Nat)(v:AV):Rep (t.set d v) (fr.set d v):=by
 intro i;refine⟨by rw[Tr.has_set,List.length_set];exact(h i).1,?_⟩;by_cases hd:t.has d
 ·rw[Tr.get_set v _ _ _ hd];split
  ·rename_i e;subst e;rw[List.getD,Zj ((h i).1.1 hd)];rfl
  ·rename_i e;rw[(h i).2,List.getD,List.getD,Zq (fun q=>e q.symm)]
 ·rw[Tr.set_miss v _ _ hd,List.set_eq_of_length_le (Yb fun q=>hd ((h d).1.2 q))];exact(h i).2
theorem Rep.setAll :∀(xs:List AV) (pre:List AV) (t:Tr) (m:Nat),Rep t (pre++List.replicate m .un)→xs.length≤m→Rep (setAll t pre.length xs) (pre++xs++List.replicate (m-xs.length) .un)
 | [],pre,t,m,h,_=>by simpa[Ae.setAll]using h
 |
  x::xs,pre,t,m,h,hle=>by
  simp only[List.length_cons]at hle;obtain⟨m',rfl⟩:∃m',m=m'+1:=⟨m-1,by omega⟩;have h1:=h.put pre.length x;have e:(pre++List.replicate (m'+1) AV.un).set pre.length x=(pre++[x])++List.replicate m' AV.un:=by
   rw[List.set_append_right _ _ (Nat.le_refl _),Nat.sub_self,List.replicate_succ,List.set_cons_zero,Zp];rfl
  rw[e]at h1;have h2:=Rep.setAll xs (pre++[x]) _ m' h1 (by omega);show Rep (Ae.setAll (t.set pre.length x) (pre.length+1) xs) _;rw[Zu,List.length_singleton]at h2;simp only[List.length_cons,Nat.add_sub_add_right];rw[show pre++x::xs=pre++[x]++xs by simp];exact h2
theorem Rep.start {n:Nat}{args:List AV}(h:args.length≤n):Rep (Tr.start n args) (args++List.replicate (n-args.length) .un):=by
 have hk:n<2^(Nat.log2 n+1):=Nat.lt_log2_self;have h0:Rep (Tr.mk n .un (Nat.log2 n+1) 0 1) ([]++List.replicate n .un):=by
  intro i;obtain⟨m1,m2⟩:=Tr.mk_spec n .un (Nat.log2 n+1) 0 1 i (by omega) (by omega);refine⟨by rw[m1];simp,?_⟩;by_cases hi:i<n
  ·rw[m2 (m1.2 (by omega)),List.getD,Zw,List.getElem?_replicate,if_pos hi];rfl
  ·rw[Tr.get_miss _ _ (fun hh=>hi (by have:=m1.1 hh;omega)),List.getD,List.getElem?_eq_none (by simpa using hi)];rfl
 have:=Rep.setAll args [] _ n h0 h;simpa[Tr.start]using this
abbrev TS :=TF × Hp
noncomputable def evT (C:Cx)(f:TF):Operand→AV
 | .tmp t=>f.get t
 | .const v=>ofConst v
 | .global g=>match C.G g with|some row=> .rp (row.map gav) 0|none=> .ud
 | .func f=> .fn f []
noncomputable def wantT (ops:Array Oper)(f:TF)(o:Oper):Option Bool:=
 match o.guard with
 |none=>some true
 |
  some (j,w)=>match(ops[j]?).bind (·.dst)with
  |none=>some false
  |
   some d=>match f.get d with
   | .sc (.bool b)=>some (b==w)
   | .un=>some false
   |_=>none
noncomputable def putT (o:Oper)(f:TF)(v:AV):TF:=match o.dst with|some d=>f.set d v|none=>f
noncomputable def step1T (C:Cx)(call:Cal)(ops:Array Oper)(o:Oper)(s:TS):Option TS:=
 match wantT ops s.1 o with
 |
  some true=>match aop C call (evT C s.1) s.2 o with
  |some (.pn _,_)=>none
  |some (v,h)=>some (putT o s.1 v,h)
  |none=>none
 |some false=>some (putT o s.1 .un,s.2)
 |none=>none
noncomputable def runOpsLT (C:Cx)(call:Cal)(ops:Array Oper):List Oper→TS→Option (List TS)
 | [],s=>some [s]
 |
  o::rest,s=>match step1T C call ops o s with
  |some s'=>(runOpsLT C call ops rest s').map (s:: ·)
  |none=>none
noncomputable def sameAtT (C:Cx)(call:Cal)(ops:Array Oper)(sts:List TS)(q:Nat × Nat):Bool:=
 match ops[q.1]?,sts[q.1]? with
 |
  some o,some sj=>(match wantT ops sj.1 o with
  |some true=>(match sts[q.2]?,aop C call (evT C sj.1) sj.2 o with
   |some sm,some (v,_)=>(match aop C call (evT C sj.1) sm.2 o with|some (v',_)=>eqvB v' v|none=>false)
   |_,_=>false)
  |_=>true)
 |_,_=>false
noncomputable def runOpsPT (C:Cx)(call:Cal)(ops:Array Oper):List Oper→TS→Option (Out × TS)
 | [],s=>some (.normal,s)
 |
  o::rest,s=>match step1T C call ops o s with
  |some s'=>runOpsPT C call ops rest s'
  |
   none=>match wantT ops s.1 o with
   |
    some true=>match aop C call (evT C s.1) s.2 o with
    |some (.pn v,h)=>some (.pan v,(s.1,h))
    |_=>none
   |_=>none
noncomputable def runOpsT (C:Cx)(call:Cal)(ops:Array Oper):List Oper→TS→Option TS
 | [],s=>some s
 |
  o::rest,s=>match step1T C call ops o s with
  |some s'=>runOpsT C call ops rest s'
  |none=>none
noncomputable def stopsT (C:Cx)(call:Cal)(ops:Array Oper):List Oper→TS→Nat
 | [],_=>0
 |
  o::rest,s=>match step1T C call ops o s with
  |some s'=>stopsT C call ops rest s'+1
  |none=>0
noncomputable def udT (ops:List Oper)(f:TF):TF:=ops.foldl (fun f o=>putT o f .ud) f
noncomputable def panXT (C:Cx)(call:Cal)(ops:Array Oper)(J:Nat)(s:TS):Option (Out × TS):=
 match ops[J]?,runOpsT C call ops (ops.toList.take J) s with
 |
  some o,some sj=>if changer C o && (needs C ops).all (fun q=>decide (J<q.2))then(match wantT ops sj.1 o with
  |
   some true=>(match aop C call (evT C sj.1) sj.2 o with
   |
    some (.pn v,h)=>(match runOpsT C call ops (restO (restJ ops J)) sj with
    |some _=>some (.pan v,(udT ops.toList s.1,h))
    |none=>none)
   |_=>none)
  |_=>none)else none
 |_,_=>none
noncomputable def panAT (C:Cx)(call:Cal)(ops:Array Oper)(s:TS):Option (Out × TS):=
 if thrs C ops then panXT C call ops (stopsT C call ops ops.toList s) s else none
noncomputable def loopNT (body:TS→Option (Out × TS)):Nat→TS→Option (Out × TS)
 |0,_=>none
 |
  n+1,s=>match body s with
  |some (.normal,s')=>loopNT body n s'
  |r=>r
noncomputable def execT (C:Cx)(call:Bool→Cal):Code→TS→Option (Out × TS)
 | .skip,s=>some (.normal,s)
 | .label _,s=>some (.normal,s)
 |
  .region _ ops mixed,s=>if mixed then(match runOpsLT C (call false) ops ops.toList s with
  |some sts=>if(needs C ops).all (sameAtT C (call false) ops sts)then(sts[ops.size]?).map fun s'=>(.normal,s')else none
  |none=>panAT C (call false) ops s)else runOpsPT C (call true) ops ops.toList s
 |
  .seq a b,s=>match execT C call a s with
  |some (.normal,s')=>execT C call b s'
  |r=>r
 |
  .cond c a b,s=>match evT C s.1 c with
  | .sc (.bool true)=>execT C call a s
  | .sc (.bool false)=>execT C call b s
  |_=>none
 |
  .block id c,s=>match execT C call c s with
  |some (.exit i,s')=>some (if i=id then .normal else .exit i,s')
  |r=>r
 | .loop c,s=>loopNT (execT C call c) C.fuel s
 | .exit id,s=>some (.exit id,s)
 | .ret,s=>some (.ret,s)
 |_,_=>none
noncomputable def rvOfT (s:TS):Rv→Option AV
 | .tmp t=>some (s.1.get t)
 |
  .cell a sz agg=>match s.1.get a with
  |
   .pt id off=>match rowOf s.2 id with
   |some cs=>part agg off sz cs
   |none=>none
  |_=>none
noncomputable def resOfT (fi:Fi)(s:TS):Option AV:=
 match fi.res with
 | [t]=>rvOfT s t
 |ts=>(ts.mapM (rvOfT s)).map .tp
noncomputable def body1T (C:Cx)(call:Bool→Cal)(f:FuncId)(args:List AV)(h:Hp):Option (AV × Hp):=
 match C.F f with
 |some fi=>if args.length≤fi.ntmps then
  match execT C call fi.body (Tr.start fi.ntmps args,h)with
  |some (.normal,s)=>(resOfT fi s).map fun r=>(r,s.2)
  |some (.ret,s)=>(resOfT fi s).map fun r=>(r,s.2)
  |some (.pan v,s)=>some (.pn v,s.2)
  |_=>none
  else none
 |none=>none
noncomputable def execLT (C:Cx)(call:Bool→Cal):List Code→TS→Option (Out × TS)
 | [],s=>some (.normal,s)
 |
  c::cs,s=>match execT C call c s with
  |some (.normal,s')=>execLT C call cs s'
  |r=>r
noncomputable def bodyDT (C:Cx)(call:Bool→Cal)(f:FuncId)(args:List AV)(h:Hp):Option (AV × Hp):=
 match C.F f with
 |some fi=>if args.length≤fi.ntmps then
  match splitD C fi.body with
  |
   some (pre,d,x,T,rest)=>match execLT C call pre (Tr.start fi.ntmps args,h)with
   |some (.ret,s)=>(resOfT fi s).map fun r=>(r,s.2)
   |
    some (.normal,s)=>match evT C s.1 x with
    |
     .pt id 0=>if s.1.hasB d=true then match execT C call rest (s.1.set d .ud,s.2)with
     |some (.normal,s')=>(resOfT fi s').map fun r=>(r,s'.2)
     |some (.ret,s')=>(resOfT fi s').map fun r=>(r,s'.2)
     |
      some (.pan (.iface T' (.int k n)),s')=>match s'.2[id]? with
      |some (.row [_])=>if T=T' then(resOfT fi (s'.1,s'.2.set id (.row [.sc (.int k n)]))).map fun r=>(r,s'.2.set id (.row [.sc (.int k n)]))else none
      |_=>none
     |_=>none
     else none
    |_=>none
   |_=>none
  |none=>none
  else none
 |none=>none
noncomputable def callT (C:Cx):Nat→Bool→Cal
 |0,_,_,_,_=>none
 |
  n+1,b,f,args,h=>
  match C.srt f with
  |some (g,_)=>if C.inl f then sortedA h g args else none
  |none=>
  if C.inl f then(match C.ins f with
   |some (sz,bytes)=>insA sz bytes h args
   |
    none=>match(if args.all calm then C.tab f args else none)with
    |some r=>some (r,h)
    |
     none=>match C.F f with
     |some fi=>(match splitD C fi.body with|some _=>bodyDT C (callT C n) f args h|none=>body1T C (callT C n) f args h)
     |none=>none)
  else
   match args.mapM (snap h 8)with
   |
    some as=>
    let r:=match C.tab f as with
     |some r=>some r
     |
      none=>match body1T C (callT C n) f as []with
      |some (r,h')=>(snap h' 8 r).map (C.nf f)
      |none=>none
    match r with
    |some r=>if args.all calm||scalarRes r then some (r,h)else if b && (args.mapM (snap (mask (args.flatMap (reach h 8)) h) 8)).isSome then(freeze (args.flatMap (reach h 8)) h).map fun h'=>(r,h')else none
    |none=>none
   |none=>none
def Lift (s:TS)(s':St):Prop:=Rep s.1 s'.1∧s.2=s'.2
def RelS (a:Option TS)(b:Option St):Prop:=(a=none∧b=none)∨∃s s',a=some s∧b=some s'∧Lift s s'
def RelO (a:Option (Out × TS))(b:Option (Out × St)):Prop:=(a=none∧b=none)∨∃o s s',a=some (o,s)∧b=some (o,s')∧Lift s s'
section rel
variable {C : Cx} {call : Bool → FuncId → List AV → Hp → Option (AV × Hp)} {cal : FuncId → List AV → Hp → Option (AV × Hp)} {ops : Array Oper}
theorem evT_eq {f:TF}{fr:List AV}(h:Rep f fr):evT C f=ev C fr:=by
 funext x
 cases x with
 |tmp t=>exact h.at t
 |_=>rfl
theorem wantT_eq {f:TF}{fr:List AV}(h:Rep f fr)(o:Oper):wantT ops f o=wantA ops fr o:=by
 unfold wantT wantA;cases o.guard with
 |none=>rfl
 |
  some q=>
  obtain⟨j,w⟩:=q;simp only;cases (ops[j]?).bind (·.dst)with
  |none=>rfl
  |
   some d=>
   simp only[h.at d,List.getD];cases hq:fr[d]? with
   |none=>rfl
   |
    some x=>
    cases x<;>try rfl
    rename_i v;cases v<;>rfl
theorem putT_rep {f:TF}{fr:List AV}(h:Rep f fr)(o:Oper)(v:AV):Rep (putT o f v) (putA o fr v):=by
 unfold putT putA;cases o.dst with
 |none=>exact h
 |some d=>exact h.put d v
theorem step1T_rel {s:TS}{s':St}(h:Lift s s')(o:Oper):RelS (step1T C cal ops o s) (step1 C cal ops o s'):=by
 obtain⟨f,hp⟩:=s;obtain⟨fr,hp'⟩:=s';obtain⟨h1,h2⟩:=h;simp only at h1 h2;subst h2;unfold step1T step1;simp only[wantT_eq h1,evT_eq h1];cases wantA ops fr o with
 |none=>exact .inl ⟨rfl,rfl⟩
 |
  some b=>
  cases b with
  |false=>exact .inr ⟨_,_,rfl,rfl,putT_rep h1 o _,rfl⟩
  |
   true=>
   simp only;cases aop C cal (ev C fr) hp o with
   |none=>exact .inl ⟨rfl,rfl⟩
   |
    some q=>
    obtain⟨v,h'⟩:=q;cases v<;>first|exact .inl ⟨rfl,rfl⟩|exact .inr ⟨_,_,rfl,rfl,putT_rep h1 o _,rfl⟩
theorem runOpsPT_rel :∀(l:List Oper) {s:TS} {s':St},Lift s s'→RelO (runOpsPT C cal ops l s) (runOpsP C cal ops l s')
 | [],_,_,h=> .inr ⟨_,_,_,rfl,rfl,h⟩
 |
  o::l,s,s',h=>by
  simp only[runOpsPT,runOpsP];rcases step1T_rel (C:=C) (cal:=cal) (ops:=ops) h o with⟨h1,h2⟩|⟨t,t',h1,h2,h3⟩
  ·rw[h1,h2];obtain⟨f,hp⟩:=s;obtain⟨fr,hp'⟩:=s';obtain⟨h3,h4⟩:=h;simp only at h3 h4;subst h4;simp only[wantT_eq h3,evT_eq h3];cases wantA ops fr o with
   |none=>exact .inl ⟨rfl,rfl⟩
   |
    some b=>
    cases b with
    |false=>exact .inl ⟨rfl,rfl⟩
    |
     true=>
     simp only;cases aop C cal (ev C fr) hp o with
     |none=>exact .inl ⟨rfl,rfl⟩
     |
      some q=>
      obtain⟨v,h'⟩:=q;cases v<;>first|exact .inl ⟨rfl,rfl⟩|exact .inr ⟨_,_,_,rfl,rfl,h3,rfl⟩
  ·rw[h1,h2];exact runOpsPT_rel l h3
def RelL (a:Option (List TS))(b:Option (List St)):Prop:=(a=none∧b=none)∨∃l l',a=some l∧b=some l'∧l.length=l'.length∧∀(k:Nat) (s:TS) (s':St),l[k]?=some s→l'[k]?=some s'→Lift s s'
theorem runOpsLT_rel :∀(l:List Oper) {s:TS} {s':St},Lift s s'→RelL (runOpsLT C cal ops l s) (runOpsL C cal ops l s')
 | [],s,s',h=> .inr ⟨_,_,rfl,rfl,rfl,fun k t t' h1 h2=>by
  cases k with
  |zero=>simp at h1 h2;subst h1;subst h2;exact h
  |succ k=>simp at h1⟩
 |
  o::l,s,s',h=>by
  simp only[runOpsLT,runOpsL];rcases step1T_rel (C:=C) (cal:=cal) (ops:=ops) h o with⟨h1,h2⟩|⟨t,t',h1,h2,h3⟩
  ·rw[h1,h2];exact .inl ⟨rfl,rfl⟩
  ·rw[h1,h2];simp only;rcases runOpsLT_rel l h3 with⟨h4,h5⟩|⟨m,m',h4,h5,h6,h7⟩
   ·rw[h4,h5];exact .inl ⟨rfl,rfl⟩
   ·rw[h4,h5];refine .inr ⟨_,_,rfl,rfl,by simp[h6],fun k u u' h1 h2=>?_⟩;cases k with
    |zero=>simp at h1 h2;subst h1;subst h2;exact h
    |succ k=>simp at h1 h2;exact h7 k u u' h1 h2
theorem sameAtT_eq {l:List TS}{l':List St}(hl:l.length=l'.length)(h:∀(k:Nat) (s:TS) (s':St),l[k]?=some s→l'[k]?=some s'→Lift s s')(q:Nat × Nat):sameAtT C cal ops l q=sameAt C cal ops l' q:=by
 unfold sameAtT sameAt;cases ops[q.1]? with
 |none=>rfl
 |
  some o=>
  have get:∀k,(l[k]?=none∧l'[k]?=none)∨∃s s',l[k]?=some s∧l'[k]?=some s'∧Lift s s':=fun k=>by
   by_cases hk:k<l.length
   ·exact .inr ⟨l[k],l'[k],Zb hk,Zb (by omega),h k _ _ (Zb hk) (Zb (by omega))⟩
   ·exact .inl ⟨List.getElem?_eq_none (by omega),List.getElem?_eq_none (by omega)⟩
  rcases get q.1 with⟨h1,h2⟩|⟨s,s',h1,h2,h3,h4⟩
  ·rw[h1,h2]
  ·rw[h1,h2];simp only[wantT_eq h3,evT_eq h3,h4];cases wantA ops s'.1 o with
   |none=>rfl
   |
    some b=>
    cases b with
    |false=>rfl
    |
     true=>
     simp only;rcases get q.2 with⟨h5,h6⟩|⟨t,t',h5,h6,h7,h8⟩
     ·rw[h5,h6]
     ·rw[h5,h6];cases aop C cal (ev C s'.1) s'.2 o with
      |none=>rfl
      |
       some q=>
       obtain⟨v,_⟩:=q;simp only[h8];rfl
theorem runOpsT_rel :∀(l:List Oper) {s:TS} {s':St},Lift s s'→RelS (runOpsT C cal ops l s) (runOps C cal ops l s')
 | [],_,_,h=> .inr ⟨_,_,rfl,rfl,h⟩
 |
  o::l,s,s',h=>by
  simp only[runOpsT,runOps];rcases step1T_rel (C:=C) (cal:=cal) (ops:=ops) h o with⟨h1,h2⟩|⟨t,t',h1,h2,h3⟩
  ·rw[h1,h2];exact .inl ⟨rfl,rfl⟩
  ·rw[h1,h2];exact runOpsT_rel l h3
theorem stopsT_eq :∀(l:List Oper) {s:TS} {s':St},Lift s s'→stopsT C cal ops l s=stops C cal ops l s'
 | [],_,_,h=>rfl
 |
  o::l,s,s',h=>by
  simp only[stopsT,stops];rcases step1T_rel (C:=C) (cal:=cal) (ops:=ops) h o with⟨h1,h2⟩|⟨t,t',h1,h2,h3⟩
  ·rw[h1,h2]
  ·rw[h1,h2];simp only[stopsT_eq l h3]
theorem udT_rep :∀(l:List Oper) {f:TF} {fr:List AV},Rep f fr→Rep (udT l f) (udF l fr)
 | [],_,_,h=>h
 |o::l,_,_,h=>udT_rep l (putT_rep h o .ud)
theorem panAT_rel {s:TS}{s':St}(h:Lift s s'):RelO (panAT C cal ops s) (panA C cal ops s'):=by
 unfold panAT panA;rw[stopsT_eq ops.toList h];split
 ·unfold panXT panX;cases ops[stops C cal ops ops.toList s']? with
  |none=>exact .inl ⟨rfl,rfl⟩
  |
   some o=>
   rcases runOpsT_rel (C:=C) (cal:=cal) (ops:=ops) (ops.toList.take (stops C cal ops ops.toList s')) h with⟨h1,h2⟩|⟨t,t',h1,h2,h3⟩
   ·rw[h1,h2];exact .inl ⟨rfl,rfl⟩
   ·rw[h1,h2];simp only[wantT_eq h3.1,evT_eq h3.1,h3.2];split
    ·cases wantA ops t'.1 o with
     |none=>exact .inl ⟨rfl,rfl⟩
     |
      some b=>
      cases b with
      |false=>exact .inl ⟨rfl,rfl⟩
      |
       true=>
       simp only;cases aop C cal (ev C t'.1) t'.2 o with
       |none=>exact .inl ⟨rfl,rfl⟩
       |
        some q=>
        obtain⟨v,h'⟩:=q;cases v<;>(try exact .inl ⟨rfl,rfl⟩);simp only;rcases runOpsT_rel (C:=C) (cal:=cal) (ops:=ops) (restO (restJ ops (stops C cal ops ops.toList s'))) h3 with⟨h4,h5⟩|⟨u,u',h4,h5,h6⟩
        ·rw[h4,h5];exact .inl ⟨rfl,rfl⟩
        ·rw[h4,h5];exact .inr ⟨_,_,_,rfl,rfl,udT_rep _ h.1,rfl⟩
    ·exact .inl ⟨rfl,rfl⟩
 ·exact .inl ⟨rfl,rfl⟩
theorem execT_rel :∀(c:Code) {s:TS} {s':St},Lift s s'→RelO (execT C call c s) (exec C call c s'):=by
 intro c
 induction c with
 |skip=>exact fun h=> .inr ⟨_,_,_,rfl,rfl,h⟩
 |label l=>exact fun h=> .inr ⟨_,_,_,rfl,rfl,h⟩
 |exit id=>exact fun h=> .inr ⟨_,_,_,rfl,rfl,h⟩
 |ret=>exact fun h=> .inr ⟨_,_,_,rfl,rfl,h⟩
 |
  region id ops mixed=>
  intro s s' h;simp only[execT,exec];cases mixed with
  |false=>exact runOpsPT_rel _ h
  |
   true=>
   simp only[if_true];rcases runOpsLT_rel (C:=C) (cal:=call false) (ops:=ops) ops.toList h with⟨h4,h5⟩|⟨m,m',h4,h5,h6,h7⟩
   ·rw[h4,h5];exact panAT_rel h
   ·rw[h4,h5];simp only[show sameAtT C (call false) ops m=sameAt C (call false) ops m' from funext fun q=>sameAtT_eq h6 h7 q];split
    ·by_cases hk:ops.size<m.length
     ·rw[Zb hk,Zb (show ops.size<m'.length by omega)];exact .inr ⟨_,_,_,rfl,rfl,h7 ops.size _ _ (Zb hk) (Zb (by omega))⟩
     ·rw[List.getElem?_eq_none (by omega),List.getElem?_eq_none (by omega)];exact .inl ⟨rfl,rfl⟩
    ·exact .inl ⟨rfl,rfl⟩
 |
  seq x y ihx ihy=>
  intro s s' h;simp only[execT,exec];rcases ihx h with⟨h1,h2⟩|⟨o,t,t',h1,h2,h3⟩
  ·rw[h1,h2];exact .inl ⟨rfl,rfl⟩
  ·rw[h1,h2];cases o with
   |normal=>exact ihy h3
   |_=>exact .inr ⟨_,_,_,rfl,rfl,h3⟩
 |
  cond c x y ihx ihy=>
  intro s s' h;simp only[execT,exec,evT_eq h.1];cases ev C s'.1 c with
  |
   sc v=>
   cases v with
   |
    bool b=>
    cases b with
    |true=>exact ihx h
    |false=>exact ihy h
   |_=>exact .inl ⟨rfl,rfl⟩
  |_=>exact .inl ⟨rfl,rfl⟩
 |
  block id c ih=>
  intro s s' h;simp only[execT,exec];rcases ih h with⟨h1,h2⟩|⟨o,t,t',h1,h2,h3⟩
  ·rw[h1,h2];exact .inl ⟨rfl,rfl⟩
  ·rw[h1,h2];cases o<;>exact .inr ⟨_,_,_,rfl,rfl,h3⟩
 |
  loop c ih=>
  intro s s' h;simp only[execT,exec];have key:∀(n:Nat) {s:TS} {s':St},Lift s s'→RelO (loopNT (execT C call c) n s) (loopN (exec C call c) n s'):=by
   intro n
   induction n with
   |zero=>exact fun _=> .inl ⟨rfl,rfl⟩
   |
    succ n ihn=>
    intro s s' h;simp only[loopNT,loopN];rcases ih h with⟨h1,h2⟩|⟨o,t,t',h1,h2,h3⟩
    ·rw[h1,h2];exact .inl ⟨rfl,rfl⟩
    ·rw[h1,h2];cases o with
     |normal=>exact ihn h3
     |_=>exact .inr ⟨_,_,_,rfl,rfl,h3⟩
  exact key _ h
 |_=>exact fun _=> .inl ⟨rfl,rfl⟩
theorem execLT_rel :∀(l:List Code) {s:TS} {s':St},Lift s s'→RelO (execLT C call l s) (execL C call l s')
 | [],_,_,h=> .inr ⟨_,_,_,rfl,rfl,h⟩
 |
  c::l,s,s',h=>by
  simp only[execLT,execL];rcases execT_rel (C:=C) (call:=call) c h with⟨h1,h2⟩|⟨o,t,t',h1,h2,h3⟩
  ·rw[h1,h2];exact .inl ⟨rfl,rfl⟩
  ·rw[h1,h2];cases o with
   |normal=>exact execLT_rel l h3
   |_=>exact .inr ⟨_,_,_,rfl,rfl,h3⟩
theorem rvOfT_eq {s:TS}{s':St}(h:Lift s s')(r:Rv):rvOfT s r=rvOf s' r:=by
 cases r with
 |tmp t=>simp only[rvOfT,rvOf,h.1.at]
 |
  cell a sz agg=>
  simp only[rvOfT,rvOf,h.1.at,h.2];cases s'.1.getD a .ud with
  |pt id off=>simp only;cases rowOf s'.2 id<;>rfl
  |_=>rfl
theorem resOfT_eq {s:TS}{s':St}(h:Lift s s')(fi:Fi):resOfT fi s=resOf fi s':=by
 unfold resOfT resOf;rw[show rvOfT s=rvOf s' from funext fun r=>rvOfT_eq h r];rfl
theorem body1T_eq (f:FuncId)(args:List AV)(h:Hp):body1T C call f args h=body1 C call f args h:=by
 unfold body1T body1;cases C.F f with
 |none=>rfl
 |
  some fi=>
  simp only;split
  ·rename_i hle;rcases execT_rel (C:=C) (call:=call) fi.body (s:=(Tr.start fi.ntmps args,h)) (s':=(args++List.replicate (fi.ntmps-args.length) .un,h)) ⟨Rep.start hle,rfl⟩with⟨h1,h2⟩|⟨o,t,t',h1,h2,h3⟩
   ·rw[h1,h2]
   ·rw[h1,h2];cases o<;>simp only[resOfT_eq h3,h3.2]
  ·rfl
theorem bodyDT_eq (f:FuncId)(args:List AV)(h:Hp):bodyDT C call f args h=bodyD C call f args h:=by
 unfold bodyDT bodyD;cases C.F f with
 |none=>rfl
 |
  some fi=>
  simp only;split
  ·rename_i hle;cases splitD C fi.body with
   |none=>rfl
   |
    some q=>
    obtain⟨pre,d,x,T,rest⟩:=q;simp only;rcases execLT_rel (C:=C) (call:=call) pre (s:=(Tr.start fi.ntmps args,h)) (s':=(args++List.replicate (fi.ntmps-args.length) .un,h)) ⟨Rep.start hle,rfl⟩with⟨h1,h2⟩|⟨o,t,t',h1,h2,h3⟩
    ·rw[h1,h2]
    ·rw[h1,h2];cases o with
     |
      normal=>
      simp only[evT_eq h3.1];have hn:(t.1.hasB d=true)=(d<t'.1.length):=propext ((Tr.hasB_iff _ _).trans (h3.1 d).1);cases ev C t'.1 x with
      |
       pt id off=>
       cases off with
       |succ m=>rfl
       |
        zero=>
        simp only;by_cases hd:d<t'.1.length
        ·rw[if_pos (hn▸hd),if_pos hd];have hput:Lift (t.1.set d .ud,t.2) (t'.1.set d .ud,t'.2):=⟨h3.1.put d .ud,h3.2⟩;rcases execT_rel (C:=C) (call:=call) rest hput with⟨k1,k2⟩|⟨o2,u,u',k1,k2,k3⟩
         ·rw[k1,k2]
         ·rw[k1,k2];cases o2 with
          |normal=>simp only[resOfT_eq k3,k3.2]
          |ret=>simp only[resOfT_eq k3,k3.2]
          |exit i=>rfl
          |
           pan v=>
           have hre:∀b:Hp,resOfT fi (u.1,b)=resOf fi (u'.1,b):=fun b=>resOfT_eq (s:=(u.1,b)) (s':=(u'.1,b)) ⟨k3.1,rfl⟩ fi
           cases v<;>try rfl
           rename_i T' w;cases w<;>try rfl
           simp only[k3.2,hre];rfl
        ·rw[if_neg (fun q=>hd (hn▸q)),if_neg hd]
      |_=>rfl
     |ret=>simp only[resOfT_eq h3,h3.2]
     |_=>rfl
  ·rfl
end rel
theorem callT_eq (C:Cx):∀n,callT C n=callN C n
 |0=>rfl
 |
  n+1=>by
  funext b f args h
  simp only[callT,callN,callT_eq C n,body1T_eq,bodyDT_eq];rfl
end Go.Ae
