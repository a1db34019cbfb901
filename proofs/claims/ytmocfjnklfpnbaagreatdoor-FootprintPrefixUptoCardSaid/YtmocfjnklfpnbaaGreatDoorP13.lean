/- The abstract evaluator, part 16: graphs, read as values of which nobody asks whether a slice is nil. -/
import Derived.Test.YtmocfjnklfpnbaaGreatDoorP12
import Derived.Test.YtmocfjnklfpnbaaGreatDoorP11
import Derived.Lib.ItoaNum
import Derived.Test.YtmocfjnklfpnbaaGreatDoorProg
import Derived.KernelRfl
import Derived.Lib.IndexMore
set_option linter.all false
namespace Go.Ae
open Go
def nfS (sz:Nat):AV→AV
 | .sc (.slice none 0 0)=> .ls sz [] false
 | .ls s rows z=>if s=sz then .ls sz rows false else .ls s rows z
 |x=>x
def nfN :List AV→List AV
 | [a,l,p]=> [a,nfS 1 l,nfS 6 p]
 |r=>r
def nfE :List AV→List AV
 | [a,b,c,d,p]=> [a,b,c,d,nfS 6 p]
 |r=>r
def nfL (sz:Nat)(g:List AV→List AV):AV→AV
 | .sc (.slice none 0 0)=> .ls sz [] false
 | .ls s rows z=>if s=sz then .ls sz (rows.map g) false else .ls s rows z
 |x=>x
def nfG :AV→AV
 | .ag [n,e,a,b]=> .ag [nfL 3 nfN n,nfL 5 nfE e,a,b]
 |x=>x
def nfR :AV→AV
 | .tp (x::xs)=> .tp (nfG x::xs)
 |x=>nfG x
theorem nfS_ok {w:World}{X:Nat→Prop}{v:Value}{x:AV}(sz:Nat)(h:Ri w X v x):Ri w X v (nfS sz x):=by
 unfold nfS;split
 ·obtain⟨rfl,_⟩:=h.sc_inv;exact .le none 0 sz false (by simp[maxLen]) (by simp)
 ·rename_i s rows z;split
  ·rename_i e;subst e;rcases h.ls_cases with⟨rfl,b,cap,rfl,c1,c2⟩|⟨b,o',cap,us,cur,t0,fz,rfl,c1,c2,c4,c5,c6,c7,c8⟩
   ·exact .le _ _ _ _ c1 (by simp)
   ·exact .ls b o' rows.length cap s rows false us cur t0 fz c1 c2 rfl c4 c5 (by simp) c7 (fun i row j x h1 h2=>⟨(c8 i row j x h1 h2).1,(c8 i row j x h1 h2).2.1⟩) (fun i row j x h1 h2=>(c8 i row j x h1 h2).2.2)
  ·exact h
 ·exact h
def Weak (g:List AV→List AV):Prop:=∀(r:List AV),(g r).length=r.length∧∀(w:World) (X:Nat→Prop) (us:Nat→Value),(∀(j:Nat) (x:AV),r[j]?=some x→Ri w X (us j) x)→∀(j:Nat) (x:AV),(g r)[j]?=some x→Ri w X (us j) x
theorem nfN_weak :Weak nfN:=by
 intro r;unfold nfN;split
 ·refine⟨rfl,fun w X us h j x hj=>?_⟩
  match j,hj with
  |0,hj=>exact h 0 x hj
  |1,hj=>simp at hj;subst hj;exact nfS_ok 1 (h 1 _ rfl)
  |2,hj=>simp at hj;subst hj;exact nfS_ok 6 (h 2 _ rfl)
  |n+3,hj=>simp at hj
 ·exact⟨rfl,fun w X us h=>h⟩
theorem nfE_weak :Weak nfE:=by
 intro r;unfold nfE;split
 ·refine⟨rfl,fun w X us h j x hj=>?_⟩
  match j,hj with
  |0,hj=>exact h 0 x hj
  |1,hj=>exact h 1 x hj
  |2,hj=>exact h 2 x hj
  |3,hj=>exact h 3 x hj
  |4,hj=>simp at hj;subst hj;exact nfS_ok 6 (h 4 _ rfl)
  |n+5,hj=>simp at hj
 ·exact⟨rfl,fun w X us h=>h⟩
theorem nfL_ok {w:World}{X:Nat→Prop}{v:Value}{x:AV}(sz:Nat){g:List AV→List AV}(hg:Weak g)(h:Ri w X v x):Ri w X v (nfL sz g x):=by
 unfold nfL;split
 ·obtain⟨rfl,_⟩:=h.sc_inv;exact .le none 0 sz false (by simp[maxLen]) (by simp)
 ·rename_i s rows z;split
  ·rename_i e;subst e;rcases h.ls_cases with⟨rfl,b,cap,rfl,c1,c2⟩|⟨b,o',cap,us,cur,t0,fz,rfl,c1,c2,c4,c5,c6,c7,c8⟩
   ·exact .le _ _ _ _ c1 (by simp)
   ·refine .ls b o' rows.length cap s (rows.map g) false us cur t0 fz c1 c2 (by simp) c4 c5 (by simp) (fun i row hr=>?_) (fun i row j x h1 h2=>?_) (fun i row j x h1 h2=>?_)
    ·simp only[Zs,Ze]at hr;obtain⟨r,hr,rfl⟩:=hr;rw[(hg r).1];exact c7 i r hr
    ·simp only[Zs,Ze]at h1;obtain⟨r,hr,rfl⟩:=h1;have hj:j<r.length:=by rw[←(hg r).1];exact(Za.1 h2).1
     have:=c8 i r j _ hr (Zb hj);exact⟨this.1,this.2.1⟩
    ·simp only[Zs,Ze]at h1;obtain⟨r,hr,rfl⟩:=h1;exact(hg r).2 w X (us i) (fun j x hj=>(c8 i r j x hr hj).2.2) j x h2
  ·exact h
 ·exact h
theorem Ri.ag_inv' {w:World}{X:Nat→Prop}{v:Value}{xs:List AV}(h:Ri w X v (.ag xs)):∃us:Array Value,v= .agg us∧us.size=xs.length∧(∀k,k<us.size→(us.getD k undef).oneCell'=true)∧∀(k:Nat) (x:AV),xs[k]?=some x→Ri w X (us.getD k undef) x:=by
 cases h with
 |ag us _ h1 h2 h3=>exact⟨us,rfl,h1,h2,h3⟩
theorem Ri.tp_inv' {w:World}{X:Nat→Prop}{v:Value}{xs:List AV}(h:Ri w X v (.tp xs)):∃us:Array Value,v= .tuple us∧us.size=xs.length∧∀(k:Nat) (x:AV),xs[k]?=some x→Ri w X (us.getD k undef) x:=by
 cases h with
 |tp us _ h1 h2=>exact⟨us,rfl,h1,h2⟩
theorem nfG_ok {w:World}{X:Nat→Prop}{v:Value}{x:AV}(h:Ri w X v x):Ri w X v (nfG x):=by
 unfold nfG;split
 ·obtain⟨us,rfl,h1,h2,h3⟩:=h.ag_inv';refine .ag us _ (by simpa using h1) h2 fun k x hk=>?_
  match k,hk with
  |0,hk=>simp at hk;subst hk;exact nfL_ok 3 nfN_weak (h3 0 _ rfl)
  |1,hk=>simp at hk;subst hk;exact nfL_ok 5 nfE_weak (h3 1 _ rfl)
  |2,hk=>exact h3 2 x hk
  |3,hk=>exact h3 3 x hk
  |n+4,hk=>simp at hk
 ·exact h
theorem nfR_ok {w:World}{X:Nat→Prop}{v:Value}{x:AV}(h:Ri w X v x):Ri w X v (nfR x):=by
 unfold nfR;split
 ·obtain⟨us,rfl,h1,h2⟩:=h.tp_inv';refine .tp us _ (by simpa using h1) fun k x hk=>?_
  match k,hk with
  |0,hk=>simp at hk;subst hk;exact nfG_ok (h2 0 _ rfl)
  |n+1,hk=>exact h2 (n+1) x hk
 ·exact nfG_ok h
def nfP :List AV→List AV
 | [a,b,c,d,e,l]=> [a,b,c,d,e,nfS 5 l]
 |r=>r
theorem nfP_weak :Weak nfP:=by
 intro r;unfold nfP;split
 ·refine⟨rfl,fun w X us h j x hj=>?_⟩
  match j,hj with
  |0,hj=>exact h 0 x hj
  |1,hj=>exact h 1 x hj
  |2,hj=>exact h 2 x hj
  |3,hj=>exact h 3 x hj
  |4,hj=>exact h 4 x hj
  |5,hj=>simp at hj;subst hj;exact nfS_ok 5 (h 5 _ rfl)
  |n+6,hj=>simp at hj
 ·exact⟨rfl,fun w X us h=>h⟩
def nfW :AV→AV
 | .ag [a,b,c,d,l]=> .ag [a,b,c,d,nfS 5 l]
 | .tp [.ag [a,l,p],x]=> .tp [.ag [a,nfS 1 l,nfL 6 nfP p],x]
 | .tp [.ag [a,b,c,d,p],x]=> .tp [.ag [a,b,c,d,nfL 6 nfP p],x]
 |x=>x
theorem nfW_ok {w:World}{X:Nat→Prop}{v:Value}{x:AV}(h:Ri w X v x):Ri w X v (nfW x):=by
 unfold nfW;split
 ·obtain⟨us,rfl,h1,h2,h3⟩:=h.ag_inv';refine .ag us _ (by simpa using h1) h2 fun k x hk=>?_
  match k,hk with
  |0,hk=>exact h3 0 x hk
  |1,hk=>exact h3 1 x hk
  |2,hk=>exact h3 2 x hk
  |3,hk=>exact h3 3 x hk
  |4,hk=>simp at hk;subst hk;exact nfS_ok 5 (h3 4 _ rfl)
  |n+5,hk=>simp at hk
 ·obtain⟨us,rfl,h1,h2⟩:=h.tp_inv';refine .tp us _ (by simpa using h1) fun k x hk=>?_
  match k,hk with
  |
   0,hk=>
   simp at hk;subst hk;obtain⟨vs,e,h1,h2,h3⟩:=(h2 0 _ rfl).ag_inv';rw[e];refine .ag vs _ (by simpa using h1) h2 fun k x hk=>?_
   match k,hk with
   |0,hk=>exact h3 0 x hk
   |1,hk=>simp at hk;subst hk;exact nfS_ok 1 (h3 1 _ rfl)
   |2,hk=>simp at hk;subst hk;exact nfL_ok 6 nfP_weak (h3 2 _ rfl)
   |n+3,hk=>simp at hk
  |n+1,hk=>exact h2 (n+1) x hk
 ·obtain⟨us,rfl,h1,h2⟩:=h.tp_inv';refine .tp us _ (by simpa using h1) fun k x hk=>?_
  match k,hk with
  |
   0,hk=>
   simp at hk;subst hk;obtain⟨vs,e,h1,h2,h3⟩:=(h2 0 _ rfl).ag_inv';rw[e];refine .ag vs _ (by simpa using h1) h2 fun k x hk=>?_
   match k,hk with
   |0,hk=>exact h3 0 x hk
   |1,hk=>exact h3 1 x hk
   |2,hk=>exact h3 2 x hk
   |3,hk=>exact h3 3 x hk
   |4,hk=>simp at hk;subst hk;exact nfL_ok 6 nfP_weak (h3 4 _ rfl)
   |n+5,hk=>simp at hk
  |n+1,hk=>exact h2 (n+1) x hk
 ·exact h
def mixX (C:Cx)(cal:Cal)(ops:Array Oper)(s:St):Option (Out × St):=
 match runOpsL C cal ops ops.toList s with
 |some sts=>if(needs C ops).all (sameAt C cal ops sts)then(sts[ops.size]?).map fun s'=>(.normal,s')else none
 |none=>panA C cal ops s
def exec3 (C:Cx)(call:Bool→Cal)(bad:Nat→Bool):Code→St→Option (Out × St)
 | .skip,s=>some (.normal,s)
 | .label _,s=>some (.normal,s)
 | .region id ops mixed,s=>bif mixed then(bif bad id then mixX C (call false) ops s else mapX (runOps C (call false) ops ops.toList s))else runOpsP C (call true) ops ops.toList s
 |
  .seq a b,s=>match exec3 C call bad a s with
  |some (.normal,s')=>exec3 C call bad b s'
  |r=>r
 |
  .cond c a b,s=>match ev C s.1 c with
  | .sc (.bool true)=>exec3 C call bad a s
  | .sc (.bool false)=>exec3 C call bad b s
  |_=>none
 |
  .block id c,s=>match exec3 C call bad c s with
  |some (.exit i,s')=>some (if i=id then .normal else .exit i,s')
  |r=>r
 | .loop c,s=>loopN (exec3 C call bad c) C.fuel s
 | .exit id,s=>some (.exit id,s)
 | .ret,s=>some (.ret,s)
 |_,_=>none
def ok3 (C:Cx)(bad:Nat→Bool):Code→Bool
 | .region id ops true=>bad id||((needs C ops).isEmpty && !thrs C ops)
 | .seq a b=>ok3 C bad a && ok3 C bad b
 | .cond _ a b=>ok3 C bad a && ok3 C bad b
 | .block _ c=>ok3 C bad c
 | .loop c=>ok3 C bad c
 |_=>true
section three
variable {C : Cx} {call : Bool → FuncId → List AV → Hp → Option (AV × Hp)} {bad : Nat → Bool}
theorem exec3_eq :∀(c:Code),ok3 C bad c=true→exec C call c=exec3 C call bad c:=by
 intro c
 induction c with
 |
  region id ops mixed=>
  intro hk
  funext s
  simp only[exec,exec3];cases mixed with
  |false=>rfl
  |
   true=>
   cases hb:bad id with
   |true=>rfl
   |
    false=>
    simp only[ok3,hb,Bool.false_or,Zh,Bool.not_eq_true',List.isEmpty_iff]at hk;simp only[hk.1,panA,hk.2,Yl,if_false,if_true,cond_true,cond_false];rw[←runOpsL_runOps,Array.length_toList];cases runOpsL C (call false) ops ops.toList s with
    |none=>rfl
    |
     some m=>
     simp;cases m[ops.size]?<;>rfl
 |
  seq x y ihx ihy=>
  intro hk;simp only[ok3,Zh]at hk
  funext s
  simp only[exec,exec3,ihx hk.1,ihy hk.2];rfl
 |
  cond q x y ihx ihy=>
  intro hk;simp only[ok3,Zh]at hk
  funext s
  simp only[exec,exec3,ihx hk.1,ihy hk.2];rfl
 |
  block id x ih=>
  intro hk;simp only[ok3]at hk
  funext s
  simp only[exec,exec3,ih hk];rfl
 |
  loop x ih=>
  intro hk;simp only[ok3]at hk
  funext s
  simp only[exec,exec3,ih hk]
 |_=>intro _;rfl
def then3 (C:Cx)(call:Bool→Cal)(bad:Nat→Bool)(x:Option (Out × St))(b:Code):Option (Out × St):=
 match x with|some (.normal,s)=>exec3 C call bad b s|r=>r
def cond3 (C:Cx)(call:Bool→Cal)(bad:Nat→Bool)(v:AV)(a b:Code)(s:St):Option (Out × St):=
 match v with| .sc (.bool true)=>exec3 C call bad a s| .sc (.bool false)=>exec3 C call bad b s|_=>none
@[simp] theorem exec3_skip (s:St):exec3 C call bad .skip s=some (.normal,s):=rfl
@[simp] theorem exec3_label (l:Nat)(s:St):exec3 C call bad (.label l) s=some (.normal,s):=rfl
@[simp] theorem exec3_exit (i:Nat)(s:St):exec3 C call bad (.exit i) s=some (.exit i,s):=rfl
@[simp] theorem exec3_ret (s:St):exec3 C call bad .ret s=some (.ret,s):=rfl
@[simp] theorem exec3_seq (a b:Code)(s:St):exec3 C call bad (.seq a b) s=then3 C call bad (exec3 C call bad a s) b:=rfl
@[simp] theorem exec3_cond (q:Operand)(a b:Code)(fr:List AV)(h:Hp):exec3 C call bad (.cond q a b) (fr,h)=cond3 C call bad (ev C fr q) a b (fr,h):=rfl
@[simp] theorem exec3_block (id:Nat)(c:Code)(s:St):exec3 C call bad (.block id c) s=blockX id (exec3 C call bad c s):=rfl
@[simp] theorem exec3_plain (id:Nat)(l:List Oper)(s:St):exec3 C call bad (.region id l.toArray false) s=runOpsP C (call true) l.toArray l s:=rfl
def draw3 (C:Cx)(cal:Cal)(b:Bool)(l:List Oper)(s:St):Option (Out × St):=bif b then mixX C cal l.toArray s else mapX (runOps C cal l.toArray l s)
@[simp] theorem exec3_mixed (id:Nat)(l:List Oper)(s:St):exec3 C call bad (.region id l.toArray true) s=draw3 C (call false) (bad id) l s:=rfl
@[simp] theorem draw3_false (cal:Cal)(l:List Oper)(s:St):draw3 C cal false l s=mapX (runOps C cal l.toArray l s):=rfl
@[simp] theorem then3_normal (s:St)(b:Code):then3 C call bad (some (.normal,s)) b=exec3 C call bad b s:=rfl
@[simp] theorem then3_ret (s:St)(b:Code):then3 C call bad (some (.ret,s)) b=some (.ret,s):=rfl
@[simp] theorem then3_exit (i:Nat)(s:St)(b:Code):then3 C call bad (some (.exit i,s)) b=some (.exit i,s):=rfl
@[simp] theorem then3_pan (v:Value)(s:St)(b:Code):then3 C call bad (some (.pan v,s)) b=some (.pan v,s):=rfl
@[simp] theorem cond3_true (a b:Code)(s:St):cond3 C call bad (.sc (.bool true)) a b s=exec3 C call bad a s:=rfl
@[simp] theorem cond3_false (a b:Code)(s:St):cond3 C call bad (.sc (.bool false)) a b s=exec3 C call bad b s:=rfl
theorem body1_of3 {f:FuncId}{fi:Fi}(hF:C.F f=some fi)(hok:ok3 C bad fi.body=true){args:List AV}(hl:args.length≤fi.ntmps)(h:Hp):
 body1 C call f args h=finX fi.res (exec3 C call bad fi.body (args++List.replicate (fi.ntmps-args.length) .un,h)):=by
 unfold body1;rw[hF];simp only[hl,if_true];rw[exec3_eq _ hok];rfl
def bindX (x:Option St)(f:St→Option (Out × St)):Option (Out × St):=match x with|some s=>f s|none=>none
@[simp] theorem bindX_some (s:St)(f:St→Option (Out × St)):bindX (some s) f=f s:=rfl
def chkX (x y:Option (AV × Hp))(r:Option St):Option (Out × St):=match x,y with|some (v,_),some (v',_)=>(if eqvB v' v=true then mapX r else none)|_,_=>none
@[simp] theorem chkX_some (v v':AV)(h h':Hp)(r:Option St):chkX (some (v,h)) (some (v',h')) r=if eqvB v' v=true then mapX r else none:=rfl
theorem runOpsL_at {cal:Cal}{ops:Array Oper}:∀(l:List Oper) (s:St) (sts:List St),runOpsL C cal ops l s=some sts→∀k,k≤l.length→sts[k]?=runOps C cal ops (l.take k) s
 |
  [],s,sts,h,k,hk=>by
  simp only[runOpsL,Zc]at h;subst h;have:k=0:=by simpa using hk
  subst this;rfl
 |
  o::l,s,sts,h,k,hk=>by
  simp only[runOpsL]at h;cases hq:step1 C cal ops o s with
  |none=>rw[hq]at h;cases h
  |
   some s'=>
   rw[hq]at h;simp only[Ze]at h;obtain⟨m,hm,rfl⟩:=h;cases k with
   |zero=>rfl
   |
    succ k=>
    have:=runOpsL_at l s' m hm k (by simpa using hk);simp only[Ye,List.take_succ_cons,runOps,hq,this]
theorem runOpsL_none {cal:Cal}{ops:Array Oper}{l:List Oper}{s:St}(h:runOpsL C cal ops l s=none):runOps C cal ops l s=none:=by
 rw[←runOpsL_runOps,h];rfl
def altX (r:Option St)(x:Option (Out × St))(y:Option (Out × St)):Option (Out × St):=match r with|some _=>x|none=>y
@[simp] theorem altX_some (s:St)(x y:Option (Out × St)):altX (some s) x y=x:=rfl
theorem mix_alt {cal:Cal}{l:List Oper}(s:St):draw3 C cal true l s=altX (runOps C cal l.toArray l s) (match runOpsL C cal l.toArray l s with|some sts=>if(needs C l.toArray).all (sameAt C cal l.toArray sts)then(sts[l.length]?).map fun s'=>(.normal,s')else none|none=>none) (panA C cal l.toArray s):=by
 show mixX C cal l.toArray s=_;unfold mixX;rw[←runOpsL_runOps];have e:l.toArray.size=l.length:=by simp
 rw[e];cases hL:runOpsL C cal l.toArray l s with
 |none=>rfl
 |
  some sts=>
  have h3:=runOpsL_at l s sts hL l.length (Nat.le_refl _);rw[List.take_length,←runOpsL_runOps,hL]at h3;simp only[Option.bind_some];have hne:sts[l.length]?≠none:=by
   have hl:∀(l:List Oper) (s:St) (sts:List St),runOpsL C cal l.toArray l s=some sts→True:=fun _ _ _ _=>trivial
   obtain⟨S,_,el,e1,_⟩:=run_split l s sts hL;rw[e1 l.length (Nat.le_refl _)];simp
  cases hs:sts[l.length]? with
  |none=>exact absurd hs hne
  |some s'=>rfl
theorem mix_nil {cal:Cal}{l:List Oper}(hn:needs C l.toArray=[])(s:St):draw3 C cal true l s=altX (runOps C cal l.toArray l s) (mapX (runOps C cal l.toArray l s)) (panA C cal l.toArray s):=by
 rw[mix_alt,←runOpsL_runOps];simp only[hn,List.all_nil,if_true];cases runOpsL C cal l.toArray l s with
 |none=>rfl
 |
  some sts=>
  simp only[Option.bind_some];cases sts[l.length]?<;>rfl
theorem stops_at {cal:Cal}{ops:Array Oper}:∀(l:List Oper) (J:Nat) (o:Oper) (s sj:St),l[J]?=some o→runOps C cal ops (l.take J) s=some sj→step1 C cal ops o sj=none→stops C cal ops l s=J
 | [],J,o,s,sj,h,_,_=>by simp at h
 |
  o'::l,0,o,s,sj,h,h2,h3=>by
  simp at h;subst h;simp only[List.take_zero,runOps,Zc]at h2;subst h2;simp only[stops,h3]
 |
  o'::l,J+1,o,s,sj,h,h2,h3=>by
  simp only[List.take_succ_cons,runOps]at h2;split at h2
  ·rename_i s1 h1;simp only[stops,h1];rw[stops_at l J o s1 sj (by simpa using h) h2 h3]
  ·cases h2
theorem runOps_take {cal:Cal}{ops:Array Oper}:∀(l:List Oper) (J:Nat) (o:Oper) (s sj:St),l[J]?=some o→runOps C cal ops (l.take J) s=some sj→step1 C cal ops o sj=none→runOps C cal ops l s=none
 | [],J,o,s,sj,h,_,_=>by simp at h
 |
  o'::l,0,o,s,sj,h,h2,h3=>by
  simp at h;subst h;simp only[List.take_zero,runOps,Zc]at h2;subst h2;simp only[runOps,h3]
 |
  o'::l,J+1,o,s,sj,h,h2,h3=>by
  simp only[List.take_succ_cons,runOps]at h2;split at h2
  ·rename_i s1 h1;simp only[runOps,h1];exact runOps_take l J o s1 sj (by simpa using h) h2 h3
  ·cases h2
theorem mix_pan {cal:Cal}{l:List Oper}(J:Nat){pre post:List Oper}{o:Oper}(ht:thrs C l.toArray=true)(ho:l[J]?=some o)(hpre:l.take J=pre)(hpost:restO (restJ l.toArray J)=post)(hc:(changer C o && (needs C l.toArray).all (fun q=>decide (J<q.2)))=true)(hg:o.guard=none)
 {s sj s2:St} {v:Value} {hP:Hp} (h1:runOps C cal l.toArray pre s=some sj) (h2:aop C cal (ev C sj.1) sj.2 o=some (.pn v,hP)) (h3:runOps C cal l.toArray post sj=some s2):
 draw3 C cal true l s=some (.pan v,(udF l s.1,hP)):=by
 subst hpre;subst hpost;have hw:wantA l.toArray sj.1 o=some true:=by unfold wantA;rw[hg]
 have hst:step1 C cal l.toArray o sj=none:=by unfold step1;rw[hw];simp only[h2]
 rw[mix_alt,runOps_take l J o s sj ho h1 hst];show panA C cal l.toArray s=_;unfold panA;rw[if_pos ht];have e:stops C cal l.toArray l.toArray.toList s=J:=stops_at l J o s sj ho h1 hst;rw[e];unfold panX;have ho':l.toArray[J]?=some o:=by simpa using ho
 have h1':runOps C cal l.toArray (l.toArray.toList.take J) s=some sj:=h1;simp only[ho',h1',hc,if_true,hw,h2,h3]
theorem mix_some {cal:Cal}{l:List Oper}{j m:Nat}{o:Oper}(hn:needs C l.toArray=[(j,m)])(ho:l[j]?=some o)(hg:o.guard=none)(hm:m≤l.length){s:St}{sts:List St}(hL:runOpsL C cal l.toArray l.toArray.toList s=some sts):
 draw3 C cal true l s=bindX (runOps C cal l.toArray (l.take j) s) fun sj=>bindX (runOps C cal l.toArray (l.take m) s) fun sm=>chkX (aop C cal (ev C sj.1) sj.2 o) (aop C cal (ev C sj.1) sm.2 o) (runOps C cal l.toArray l s):=by
 show mixX C cal l.toArray s=_;unfold mixX;have hj:j≤l.length:=Nat.le_of_lt (Za.1 ho).1;simp only[hL];have hat:=runOpsL_at l s sts hL;have h1:=hat j hj;have h2:=hat m hm;have h3:=hat l.length (Nat.le_refl _);rw[List.take_length]at h3;have e:l.toArray.size=l.length:=by simp
 simp only[hn,Zn,List.all_nil,Bool.and_true,e,h3];have hso:l.toArray[j]?=some o:=by simpa using ho
 cases hq:runOps C cal l.toArray (l.take j) s with
 |
  none=>
  have:sameAt C cal l.toArray sts (j,m)=false:=by
   simp only[sameAt,hso,h1,hq]
  rw[this];rfl
 |
  some sj=>
  cases hr:runOps C cal l.toArray (l.take m) s with
  |
   none=>
   have:sameAt C cal l.toArray sts (j,m)=false:=by
    simp only[sameAt,hso,h1,hq,h2,hr,wantA,hg]
   rw[this];rfl
  |
   some sm=>
   simp only[bindX_some];cases ha:aop C cal (ev C sj.1) sj.2 o with
   |
    none=>
    have:sameAt C cal l.toArray sts (j,m)=false:=by
     simp only[sameAt,hso,h1,hq,h2,hr,wantA,hg,ha]
    rw[this];rfl
   |
    some q=>
    obtain⟨v,h'⟩:=q;cases hb:aop C cal (ev C sj.1) sm.2 o with
    |
     none=>
     have:sameAt C cal l.toArray sts (j,m)=false:=by
      simp only[sameAt,hso,h1,hq,h2,hr,wantA,hg,ha,hb]
     rw[this];rfl
    |
     some q'=>
     obtain⟨v',h''⟩:=q';have:sameAt C cal l.toArray sts (j,m)=eqvB v' v:=by
      simp only[sameAt,hso,h1,hq,h2,hr,wantA,hg,ha,hb]
     rw[this];simp only[chkX_some];split
     ·cases runOps C cal l.toArray l s<;>rfl
     ·rfl
theorem mix_one {cal:Cal}{l:List Oper}{j m:Nat}{o:Oper}(hn:needs C l.toArray=[(j,m)])(ho:l[j]?=some o)(hg:o.guard=none)(hm:m≤l.length)(hth:thrs C l.toArray=false)(s:St):
 draw3 C cal true l s=bindX (runOps C cal l.toArray (l.take j) s) fun sj=>bindX (runOps C cal l.toArray (l.take m) s) fun sm=>chkX (aop C cal (ev C sj.1) sj.2 o) (aop C cal (ev C sj.1) sm.2 o) (runOps C cal l.toArray l s):=by
 show mixX C cal l.toArray s=_;unfold mixX;have hj:j≤l.length:=Nat.le_of_lt (Za.1 ho).1;cases hL:runOpsL C cal l.toArray l.toArray.toList s with
 |
  none=>
  have h0:=runOpsL_none hL;have h0':runOps C cal l.toArray l s=none:=h0;rw[h0'];simp only[panA,hth,Yl,if_false];cases runOps C cal l.toArray (l.take j) s with
  |none=>rfl
  |
   some sj=>
   cases runOps C cal l.toArray (l.take m) s with
   |none=>rfl
   |
    some sm=>
    simp only[bindX,chkX];split<;>(try rfl);split<;>rfl
 |
  some sts=>
  have:=mix_some hn ho hg hm hL;change mixX C cal l.toArray s=_ at this;unfold mixX at this;simp only[hL]at this;exact this
theorem mix_oneT {cal:Cal}{l:List Oper}{j m:Nat}{o:Oper}(hn:needs C l.toArray=[(j,m)])(ho:l[j]?=some o)(hg:o.guard=none)(hm:m≤l.length)(s:St):
 draw3 C cal true l s=altX (runOps C cal l.toArray l s) (bindX (runOps C cal l.toArray (l.take j) s) fun sj=>bindX (runOps C cal l.toArray (l.take m) s) fun sm=>chkX (aop C cal (ev C sj.1) sj.2 o) (aop C cal (ev C sj.1) sm.2 o) (runOps C cal l.toArray l s)) (panA C cal l.toArray s):=by
 cases hL:runOpsL C cal l.toArray l.toArray.toList s with
 |
  none=>
  rw[mix_alt];have h0:runOps C cal l.toArray l s=none:=runOpsL_none hL;rw[h0];rfl
 |
  some sts=>
  have hL':runOpsL C cal l.toArray l s=some sts:=hL;obtain⟨S,_,el,e1,_⟩:=run_split l s sts hL';have hr:runOps C cal l.toArray l s=some (S l.length):=by rw[←runOpsL_runOps,hL',Option.bind_some,e1 l.length (Nat.le_refl _)]
  rw[mix_some hn ho hg hm hL,hr];rfl
theorem loop3_up {c:Code}{fr:List AV}{h:Hp}{G:Option (Out × St)→Prop}(Inv:Nat→St→Prop)(Q:Out→St→Prop)(N:Nat)(hN:N<C.fuel)(hI:Inv 0 (fr,h))
 (step:∀i fr h,i≤N→Inv i (fr,h)→UpX Inv Q N i (exec3 C call bad c (fr,h))) (fin:∀o fr h,o≠ .normal→Q o (fr,h)→G (some (o,(fr,h)))):G (exec3 C call bad (.loop c) (fr,h)):=by
 obtain⟨o,s',h1,h2,h3⟩:=loopN_rule (f:=exec3 C call bad c) (fun k s=>∃i,i+k=N∧Inv i s) Q (fun k s hs=>by
  obtain⟨i,hi,hs⟩:=hs;have:=step i s.1 s.2 (by omega) hs
  revert this
  cases exec3 C call bad c (s.1,s.2)with
  |none=>exact fun h=>h.elim
  |
   some q=>
   obtain⟨o,s'⟩:=q;intro h;refine⟨o,s',rfl,?_⟩;cases o with
   |normal=>exact⟨k-1,by have:=h.1;omega,i+1,by have:=h.1;omega,h.2⟩
   |exit j=>exact h
   |ret=>exact h
   |pan v=>exact h) N (fr,h) ⟨0,by omega,hI⟩ C.fuel hN
 show G (loopN (exec3 C call bad c) C.fuel (fr,h));rw[h1];exact fin o s'.1 s'.2 h2 h3
end three
def nfQ :AV→AV
 | .ag [a,l]=> .ag [a,nfS 1 l]
 |x=>x
def nfX (k:Nat)(r:AV):AV:=if k=0 then r else if k=8 then nfQ r else nfS k r
theorem nfQ_ok {w:World}{X:Nat→Prop}{v:Value}{x:AV}(h:Ri w X v x):Ri w X v (nfQ x):=by
 unfold nfQ;split
 ·obtain⟨us,rfl,h1,h2,h3⟩:=h.ag_inv';refine .ag us _ (by simpa using h1) h2 fun k x hk=>?_
  match k,hk with
  |0,hk=>exact h3 0 x hk
  |1,hk=>simp at hk;subst hk;exact nfS_ok 1 (h3 1 _ rfl)
  |n+2,hk=>simp at hk
 ·exact h
theorem nfX_ok (k:Nat){w:World}{X:Nat→Prop}{v:Value}{x:AV}(h:Ri w X v x):Ri w X v (nfX k x):=by
 unfold nfX;split
 ·exact h
 ·split
  ·exact nfQ_ok h
  ·exact nfS_ok k h
end Go.Ae
namespace Go.Proofs.YtmocfjnklfpnbaaGreatDoor
open Go Go.Ae
def inlF (f:FuncId):Bool:=([17,18,19,20,35,41,42,43,44,45,47,48,51,58,59,61,66,68,69,77,78,81,82,83,84,85,86,87,88,89,90,91,92,93,94,98,99,101,102,103,104,115,116,125,126,128,129,130,198,137,140,142,143,146,152,154,155,156,160,161,173,179,184,185,186,187,189,190,191,192,193,194,203,222,223,224,225,227,228,229,248,250,254,256,257,258,260,262,279,280,281]:List Nat).contains f
def coldF (o:Oper):Bool:=
 match o.op with
 | .makeSlice t _ _=>t==153 && (o.dst==some 31||o.dst==some 32)
 |
  .buildSlice t n _=>(t==83 && n==0 && o.dst==some 35)||(t==33 && n==1 && o.dst==some 42)||
  (t==27 && n==1 && (o.dst==some 152||o.dst==some 161))||(t==78 && (n==2 && o.dst==some 155||n==3 && o.dst==some 165))||(t==82 && n==1 && (o.dst==some 13||o.dst==some 48))||(t==281 && n==2 && o.dst==some 60)||(t==153 && (o.dst==some 7||o.dst==some 14||o.dst==some 31||o.dst==some 41||o.dst==some 47||o.dst==some 114||o.dst==some 125))
 | .slice t _ _ (some _) none=>(o.dst==some 25 && t==52)||(o.dst==some 22||o.dst==some 31) && (t==47||t==67||t==70||t==71)
 | .call {callee:= .builtin .append,argTypes,.. }=>o.dst==some 37 && argTypes.toList==[83,83]
 |_=>false
def extF (f:FuncId):Bool:=f==267||f==269
def clnF (f:FuncId):Option Nat:=if f=58 then some 1 else if f=115 then some 6 else if f=125 then some 3 else if f=126 then some 5 else if f=173 then some 5 else none
def insF (f:FuncId):Option (Nat × Nat):=if f=189 then some (1,16)else if f=258 then some (6,80)else if f=186 then some (3,56)else if f=193 then some (5,64)else if f=18 then some (8,0)else none
def tabF (f:FuncId)(xs:List AV):Option AV:=
 if f=296 then(match xs with
  | [.sc (.string a),.sc (.string b)]=>if a.size<4294967281 then some (.sc (.bool (Lib.contains a.data.toList b.data.toList)))else none
  |_=>none)else match clnF f,xs with
  |some sz,[.ls s [] _]=>if s=sz then some (.ls sz [] (!(f==173)))else none
  |_,_=>none
def isNf (f:FuncId):Bool:=([27,33]:List Nat).contains f
def isNw (f:FuncId):Bool:=([63,28,30]:List Nat).contains f
def kx (f:FuncId):Nat:=if([215,144,305,162,236]:List Nat).contains f then 1 else if([212]:List Nat).contains f then 3 else if([26]:List Nat).contains f then 9 else if([151]:List Nat).contains f then 10 else 0
def pk (f:FuncId):Bool:=([55,53,105,106,107,52,54,23]:List Nat).contains f
def nfF (f:FuncId)(r:AV):AV:=if isNf f then nfR r else if isNw f then nfW r else if pk f then nfS 8 r else nfX (kx f) r
def plainF (f:FuncId):Bool:= !(f==296||(clnF f).isSome||(insF f).isSome||(isNf f||isNw f)||(kx f !=0||pk f))
def globF (g:Nat):Option (List Value):=if g=0 then some [.int .i64 0,.int .i64 1]else if g=1 then some [.tuple #[]]else none
theorem tab_none {f:FuncId}{args:List AV}(h:plainF f=true):tabF f args=none:=by
 simp only[plainF,Bool.not_eq_true',Bool.or_eq_false_iff,Option.isSome_eq_false_iff,Option.isNone_iff_eq_none,beq_eq_false_iff_ne,bne_eq_false_iff_eq]at h;unfold tabF;rw[if_neg h.1.1.1.1,h.1.1.1.2]
theorem ins_none {f:FuncId}(h:plainF f=true):insF f=none:=by
 simp only[plainF,Bool.not_eq_true',Bool.or_eq_false_iff,Option.isSome_eq_false_iff,Option.isNone_iff_eq_none,beq_eq_false_iff_ne,bne_eq_false_iff_eq]at h;exact h.1.1.2
theorem nf_none {f:FuncId}(h:plainF f=true)(r:AV):nfF f r=r:=by
 simp only[plainF,Bool.not_eq_true',Bool.or_eq_false_iff,Option.isSome_eq_false_iff,Option.isNone_iff_eq_none,beq_eq_false_iff_ne,bne_eq_false_iff_eq]at h;unfold nfF;rw[h.1.2.1,h.1.2.2,h.2.1,h.2.2];rfl
def tabOk (f:FuncId):Bool:= !(f==296||(clnF f).isSome)
theorem tab_none' {f:FuncId}{args:List AV}(h:tabOk f=true):tabF f args=none:=by
 simp only[tabOk,Bool.not_eq_true',Bool.or_eq_false_iff,Option.isSome_eq_false_iff,Option.isNone_iff_eq_none,beq_eq_false_iff_ne]at h;unfold tabF;rw[if_neg h.1,h.2]
@[simp] def mvF (t:TypeId):Option Nat:=none
attribute [simp] mvA mvB
noncomputable def cx :Cx:={P:=Tryz.prog,T:=tiOf Tryz.prog,G:=globF,F:=fun f=>bif Nat.blt f 360 then fiOf Tryz.prog f else none,inl:=inlF,tab:=tabF,srt:=fun f=>if f=224 then some (281,9)else none,rcv:=fun f=>if f=128 then some 203 else none,cold:=coldF,ext:=extF,ins:=insF,nf:=nfF,thr:=fun f=>Nat.beq f 191,mv:=mvF,fuel:=1125899906842624}
theorem pure_at {f:FuncId}{args:List AV}{n:Nat}{r r':AV}{h':Hp}(fi:Fi)(hF:cx.F f=some fi)(hok:ok2 cx fi.body=true)(hs:cx.srt f=none)(hi:cx.inl f=false)(hl:args.length≤fi.ntmps)(hc:args.all calm=true)
 (hb:finX fi.res (exec2 cx (callN cx n) fi.body (args++List.replicate (fi.ntmps-args.length) .un,[]))=some (r,h')) (hr:snap h' 8 r=some r') (b:Bool) (h:Hp) (ht:plainF f=true:=by decide):callN cx (n+1) b f args h=some (r',h):=
 call_pure hs hi (tab_none ht) (nf_none ht _) hc (by rw[body1_of hF hok hl];exact hb) hr b h
theorem pure_calm {f:FuncId}{args:List AV}{n:Nat}{r:AV}(fi:Fi)(hF:cx.F f=some fi)(hok:ok2 cx fi.body=true)(hs:cx.srt f=none)(hi:cx.inl f=false)(hl:args.length≤fi.ntmps)(hc:args.all calm=true)(hr:calm r=true)
 (hb:(finX fi.res (exec2 cx (callN cx n) fi.body (args++List.replicate (fi.ntmps-args.length) .un,[]))).map Prod.fst=some r) (b:Bool) (h:Hp) (ht:plainF f=true:=by decide):callN cx (n+1) b f args h=some (r,h):=by
 simp only[Ze]at hb;obtain⟨⟨r0,h'⟩,hb,rfl⟩:=hb;exact pure_at fi hF hok hs hi hl hc hb (snap_of_calm (n:=6) hr) b h ht
theorem pure_ex {f:FuncId}{args:List AV}{n:Nat}(R:AV→Prop)(fi:Fi)(hF:cx.F f=some fi)(hok:ok2 cx fi.body=true)(hs:cx.srt f=none)(hi:cx.inl f=false)(hl:args.length≤fi.ntmps)(hc:args.all calm=true)
 (hb:∃r h',finX fi.res (exec2 cx (callN cx n) fi.body (args++List.replicate (fi.ntmps-args.length) .un,[]))=some (r,h')∧∃r',snap h' 8 r=some r'∧R r') (ht:plainF f=true:=by decide):∃r',R r'∧∀b h,callN cx (n+1) b f args h=some (r',h):=by
 obtain⟨r,h',hb,r',hr,hR⟩:=hb;exact⟨r',hR,fun b h=>pure_at fi hF hok hs hi hl hc hb hr b h ht⟩
theorem kx_call {f:FuncId}{args:List AV}{n:Nat}(r0:AV)(fi:Fi)(hF:cx.F f=some fi)(hok:ok2 cx fi.body=true)(hs:cx.srt f=none)(hi:cx.inl f=false)(hl:args.length≤fi.ntmps)(hc:args.all calm=true)
 (hb:∃r h',finX fi.res (exec2 cx (callN cx n) fi.body (args++List.replicate (fi.ntmps-args.length) .un,[]))=some (r,h')∧∃r',snap h' 8 r=some r'∧nfX (kx f) r'=r0) (ht:(tabOk f && !isNf f && !isNw f && !pk f)=true:=by decide) (b:Bool) (h:Hp):callN cx (n+1) b f args h=some (r0,h):=by
 obtain⟨r,h',hb,r',hr,hR⟩:=hb;simp only[Zh,Bool.not_eq_true']at ht;have:=call_pureN (C:=cx) hs hi (tab_none' ht.1.1.1) hc (by rw[body1_of hF hok hl];exact hb) hr b h;rw[this];show some (nfF f r',h)=_;unfold nfF;rw[ht.1.1.2,ht.1.2,ht.2];simp[hR]
theorem pk_call {f:FuncId}{args:List AV}{n:Nat}(r0:AV)(fi:Fi)(hF:cx.F f=some fi)(hok:ok2 cx fi.body=true)(hs:cx.srt f=none)(hi:cx.inl f=false)(hl:args.length≤fi.ntmps)(hc:args.all calm=true)
 (hb:∃r h',finX fi.res (exec2 cx (callN cx n) fi.body (args++List.replicate (fi.ntmps-args.length) .un,[]))=some (r,h')∧∃r',snap h' 8 r=some r'∧nfS 8 r'=r0) (ht:(tabOk f && !isNf f && !isNw f && pk f)=true:=by decide) (b:Bool) (h:Hp):callN cx (n+1) b f args h=some (r0,h):=by
 obtain⟨r,h',hb,r',hr,hR⟩:=hb;simp only[Zh,Bool.not_eq_true']at ht;have:=call_pureN (C:=cx) hs hi (tab_none' ht.1.1.1) hc (by rw[body1_of hF hok hl];exact hb) hr b h;rw[this];show some (nfF f r',h)=_;unfold nfF;rw[ht.1.1.2,ht.1.2,ht.2];simp[hR]
@[simp] theorem cx_mv :cx.mv=mvF:=rfl
@[simp] theorem cx_cold :cx.cold=coldF:=rfl
@[simp] theorem cx_ext :cx.ext=extF:=rfl
end Go.Proofs.YtmocfjnklfpnbaaGreatDoor
