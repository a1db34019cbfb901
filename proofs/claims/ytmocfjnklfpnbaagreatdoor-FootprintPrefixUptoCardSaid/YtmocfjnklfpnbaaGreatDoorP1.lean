/- The abstract evaluator, part 1: abstract values, how they stand to the model's values and worlds, and that the relation is kept while memory grows. -/
import Derived.Orders
import Derived.Laws.AppendOwn
import Derived.Laws.CopyRow
import Derived.Below
import Derived.Laws.IdiomStrings
import Derived.Laws.Cover3
import Derived.MapKept
set_option linter.all false
namespace Go.Ae
open Go
abbrev Za:=@List.getElem?_eq_some_iff
abbrev Zb:=@List.getElem?_eq_getElem
abbrev Zc:=@Option.some.injEq
abbrev Zd:=@List.getElem?_append_left
abbrev Ze:=@Option.map_eq_some_iff
abbrev Zf:=@List.getElem?_append_right
abbrev Zg:=@Prod.mk.injEq
abbrev Zh:=@Bool.and_eq_true
abbrev Zi:=@List.mem_of_getElem?
abbrev Zj:=@List.getElem?_set_self
abbrev Zk:=@List.mem_append_right
abbrev Zl:=@List.eq_nil_of_length_eq_zero
abbrev Zm:=@List.drop_eq_getElem_cons
abbrev Zn:=@List.all_cons
abbrev Zo:=@List.mapM_cons
abbrev Zp:=@List.append_assoc
abbrev Zq:=@List.getElem?_set_ne
abbrev Zr:=@Array.getD_eq_getD_getElem?
abbrev Zs:=@List.getElem?_map
abbrev Zt:=@List.drop_eq_nil_of_le
abbrev Zu:=@List.length_append
abbrev Zv:=@List.cons_append
abbrev Zw:=@List.nil_append
abbrev Zx:=@Nat.mul_le_mul_right
abbrev Zy:=@List.mem_append_left
abbrev Zz:=@decide_eq_true_eq
abbrev Ya:=@List.mem_append
abbrev Yb:=@Nat.le_of_not_lt
abbrev Yc:=@Nat.le_antisymm
abbrev Yd:=@List.drop_length
abbrev Ye:=@List.getElem?_cons_succ
abbrev Yf:=@List.drop_zero
abbrev Yg:=@Option.bind_eq_some_iff
abbrev Yh:=@List.mem_map
abbrev Yi:=@List.getD_eq_getElem?_getD
abbrev Yj:=@Nat.le_trans
abbrev Yk:=@List.append_nil
abbrev Yl:=@Bool.false_eq_true
def flat :Value→Bool
 | .bool _| .int .. | .float .. | .string _| .pointer none| .slice none 0 0| .map none| .nilFunc| .nilIface=>true
 | .iface _ v=>flat v
 |_=>false
inductive AV where
 |ud
 |un
 |sc (v:Value)
 |ls (sz:Nat) (rows:List (List AV)) (z:Bool)
 |sl (id sz off len:Nat) (k:Bool)
 |pt (id off:Nat)
 |rp (row:List AV) (j:Nat)
 |fn (f:FuncId) (caps:List AV)
 |ag (cells:List AV)
 |tp (vs:List AV)
 |mp (id:Nat)
 |pn (v:Value)
 |oc
 deriving Inhabited
inductive Blk where
 |dead
 |row (cs:List AV)
 |map (es:List (Value × AV)) (clock:Nat)
 |ice (cs:List AV)
 |raw (cs:List AV)
 |iter (s:ByteArray) (pos:Nat)
abbrev Hp :=List Blk
inductive Ri (w:World)(X:Nat→Prop):Value→AV→Prop where
 |ud (v:Value):Ri w X v .ud
 |un:Ri w X undef .un
 |sc (v:Value):flat v=true→Ri w X v (.sc v)
 |le (a:Option Addr) (cap sz:Nat) (z:Bool):cap≤maxLen→(z=true→cap=0)→Ri w X (.slice a 0 cap) (.ls sz [] z)
 |ls (b o len cap sz:Nat) (rows:List (List AV)) (z:Bool) (us:Nat→Nat→Value) (cur:Array Value) (t:TypeId) (fz:Nat × Nat):
  ¬X b→w.heap[b]?=some (.cells cur t fz)→rows.length=len→len≤cap→cap≤maxLen→(z=true→cap=len)→
  (∀(i:Nat) (row:List AV),rows[i]?=some row→row.length=sz)→
  (∀(i:Nat) (row:List AV) (j:Nat) (x:AV),rows[i]?=some row→row[j]?=some x→cur[o+i*sz+j]?=some (us i j)∧(us i j).oneCell'=true)→
  (∀(i:Nat) (row:List AV) (j:Nat) (x:AV),rows[i]?=some row→row[j]?=some x→Ri w X (us i j) x)→
  Ri w X (.slice (some ⟨b,o,none⟩) len cap) (.ls sz rows z)
 |rp (b o j:Nat) (row:List AV) (us:Nat→Value) (cur:Array Value) (t:TypeId) (fz:Nat × Nat):
  ¬X b→w.heap[b]?=some (.cells cur t fz)→
  (∀(k:Nat) (x:AV),row[k]?=some x→cur[o+k]?=some (us k)∧(us k).oneCell'=true)→
  (∀(k:Nat) (x:AV),row[k]?=some x→Ri w X (us k) x)→
  Ri w X (.pointer (some ⟨b,o+j,none⟩)) (.rp row j)
 |fn (f:FuncId) (us:Array Value) (xs:List AV):us.size=xs.length→(∀(k:Nat) (x:AV),xs[k]?=some x→Ri w X (us.getD k undef) x)→Ri w X (.func (.func f) #[] us) (.fn f xs)
 |ag (us:Array Value) (xs:List AV):us.size=xs.length→(∀k,k<us.size→(us.getD k undef).oneCell'=true)→(∀(k:Nat) (x:AV),xs[k]?=some x→Ri w X (us.getD k undef) x)→Ri w X (.agg us) (.ag xs)
 |tp (us:Array Value) (xs:List AV):us.size=xs.length→(∀(k:Nat) (x:AV),xs[k]?=some x→Ri w X (us.getD k undef) x)→Ri w X (.tuple us) (.tp xs)
 |oc (v:Value):v.oneCell'=true→Ri w X v .oc
inductive Rp (w:World)(X:Nat→Prop)(ρ:Nat→Nat)(n:Nat):Value→AV→Prop where
 |im {v:Value} {x:AV}:Ri w X v x→Rp w X ρ n v x
 |sl (id sz off len cap:Nat) (k:Bool) (cur:Array Value) (t:TypeId) (fz:Nat × Nat):id<n→w.heap[ρ id]?=some (.cells cur t fz)→off+cap*sz≤cur.size→(k=true→cap=len)→(k=false→off+cap*sz=cur.size)→len≤cap→cap≤maxLen→
  Rp w X ρ n (.slice (some ⟨ρ id,off,none⟩) len cap) (.sl id sz off len k)
 |pt (id off:Nat):id<n→Rp w X ρ n (.pointer (some ⟨ρ id,off,none⟩)) (.pt id off)
 |mp (id:Nat):id<n→Rp w X ρ n (.map (some (ρ id))) (.mp id)
 |fn (f:FuncId) (us:Array Value) (xs:List AV):us.size=xs.length→(∀(k:Nat) (x:AV),xs[k]?=some x→Rp w X ρ n (us.getD k undef) x)→Rp w X ρ n (.func (.func f) #[] us) (.fn f xs)
 |ag (us:Array Value) (xs:List AV):us.size=xs.length→(∀k,k<us.size→(us.getD k undef).oneCell'=true)→(∀(k:Nat) (x:AV),xs[k]?=some x→Rp w X ρ n (us.getD k undef) x)→Rp w X ρ n (.agg us) (.ag xs)
 |tp (us:Array Value) (xs:List AV):us.size=xs.length→(∀(k:Nat) (x:AV),xs[k]?=some x→Rp w X ρ n (us.getD k undef) x)→Rp w X ρ n (.tuple us) (.tp xs)
def liveB :Blk→Bool
 | .row _| .raw _| .map .. | .iter .. =>true
 |_=>false
def live (h:Hp)(i:Nat):Prop:=∃b,h[i]?=some b∧liveB b=true
def own (ρ:Nat→Nat)(h:Hp)(b:Nat):Prop:=∃i,live h i∧ρ i=b
def tot (X:Nat→Prop)(ρ:Nat→Nat)(h:Hp)(b:Nat):Prop:=X b∨own ρ h b
structure Step (w:World)(O:Nat→Prop)(w':World)(O':Nat→Prop):Prop where
 os:w'.os=w.os
 tape:w'.tape=w.tape
 output:w'.output=w.output
 size:w.heap.size≤w'.heap.size
 keep:∀b,b<w.heap.size→¬O b→w'.heap[b]?=w.heap[b]?
 row:∀(b:Nat) (cur:Array Value) (t:TypeId) (fz:Nat × Nat),w.heap[b]?=some (Obj.cells cur t fz)→∃(cur':Array Value) (t':TypeId) (fz':Nat × Nat),w'.heap[b]?=some (Obj.cells cur' t' fz')∧cur'.size=cur.size
 less:∀b,b<w.heap.size→O' b→O b
 drew:w.drawn≤w'.drawn
theorem Step.refl (w:World)(O:Nat→Prop):Step w O w O:=
 ⟨rfl,rfl,rfl,Nat.le_refl _,fun _ _ _=>rfl,fun _ _ _ _ h=>⟨_,_,_,h,rfl⟩,fun _ _ h=>h,Nat.le_refl _⟩
theorem Step.trans {w w1 w2:World}{O O1 O2:Nat→Prop}(h:Step w O w1 O1)(k:Step w1 O1 w2 O2):Step w O w2 O2:={
 os:=k.os.trans h.os
 tape:=k.tape.trans h.tape
 output:=k.output.trans h.output
 size:=Yj h.size k.size
 keep:=fun b hb hO=>(k.keep b (Nat.lt_of_lt_of_le hb h.size) fun h1=>hO (h.less b hb h1)).trans (h.keep b hb hO)
 row:=fun b cur t fz hc=>by
  obtain⟨c1,t1,f1,h1,e1⟩:=h.row b cur t fz hc;obtain⟨c2,t2,f2,h2,e2⟩:=k.row b c1 t1 f1 h1;exact⟨c2,t2,f2,h2,e2.trans e1⟩
 less:=fun b hb h2=>h.less b hb (k.less b (Nat.lt_of_lt_of_le hb h.size) h2)
 drew:=Yj h.drew k.drew}
theorem heap_lt {w:World}{b:Nat}{o:Obj}(h:w.heap[b]?=some o):b<w.heap.size:=(Array.getElem?_eq_some_iff.1 h).1
structure Kept (w:World)(X:Nat→Prop)(w':World)(X':Nat→Prop):Prop where
 keep:∀b,b<w.heap.size→¬X b→w'.heap[b]?=w.heap[b]?
 less:∀b,b<w.heap.size→X' b→X b
theorem Ri.kept {w w':World}{X X':Nat→Prop}(hk:Kept w X w' X'){v:Value}{x:AV}(h:Ri w X v x):Ri w' X' v x:=by
 induction h with
 |ud v=>exact .ud v
 |un=>exact .un
 |sc v hv=>exact .sc v hv
 |le a cap sz z h1 h2=>exact .le a cap sz z h1 h2
 |
  ls b o len cap sz rows z us cur t fz hx hb h1 h2 h3 h4 h5 h6 h7 ih=>
  have hlt:=heap_lt hb;exact .ls b o len cap sz rows z us cur t fz (fun hh=>hx (hk.less b hlt hh)) ((hk.keep b hlt hx).trans hb) h1 h2 h3 h4 h5 h6 ih
 |
  rp b o j row us cur t fz hx hb h1 h2 ih=>
  have hlt:=heap_lt hb;exact .rp b o j row us cur t fz (fun hh=>hx (hk.less b hlt hh)) ((hk.keep b hlt hx).trans hb) h1 ih
 |fn f us xs h1 h2 ih=>exact .fn f us xs h1 ih
 |ag us xs h1 h2 h3 ih=>exact .ag us xs h1 h2 ih
 |tp us xs h1 h2 ih=>exact .tp us xs h1 ih
 |oc v h1=>exact .oc v h1
theorem Ri.anti {w:World}{X X':Nat→Prop}(hX:∀b,X' b→X b){v:Value}{x:AV}(h:Ri w X v x):Ri w X' v x:=
 h.kept ⟨fun _ _ _=>rfl,fun b _=>hX b⟩
theorem Step.kept {w w':World}{X:Nat→Prop}{ρ ρ':Nat→Nat}{h h':Hp}(hs:Step w (own ρ h) w' (own ρ' h')):Kept w (tot X ρ h) w' (tot X ρ' h'):={
 keep:=fun b hb hX=>hs.keep b hb fun ho=>hX (.inr ho)
 less:=fun b hb hX=>hX.imp id (hs.less b hb)}
theorem Rp.step {w w':World}{X:Nat→Prop}{ρ ρ':Nat→Nat}{h h':Hp}(hs:Step w (own ρ h) w' (own ρ' h')){n n':Nat}(hρ:∀i,i<n→ρ' i=ρ i)(hn:n≤n')
 {v:Value} {x:AV} (hr:Rp w (tot X ρ h) ρ n v x):Rp w' (tot X ρ' h') ρ' n' v x:=by
 induction hr with
 |im hi=>exact .im (hi.kept hs.kept)
 |
  sl id sz off len cap k cur t fz h1 h2 h3 h4 h5 h6 h7=>
  obtain⟨c',t',f',hc,hsz⟩:=hs.row _ _ _ _ h2;rw[←hρ id h1]at hc⊢;exact .sl id sz off len cap k c' t' f' (Nat.lt_of_lt_of_le h1 hn) hc (by rw[hsz];exact h3) h4 (by rw[hsz];exact h5) h6 h7
 |pt id off h1=>rw[←hρ id h1];exact .pt id off (Nat.lt_of_lt_of_le h1 hn)
 |mp id h1=>rw[←hρ id h1];exact .mp id (Nat.lt_of_lt_of_le h1 hn)
 |fn f us xs h1 h2 ih=>exact .fn f us xs h1 ih
 |ag us xs h1 h2 h3 ih=>exact .ag us xs h1 h2 ih
 |tp us xs h1 h2 ih=>exact .tp us xs h1 ih
def Fz (fz:Nat × Nat)(cur:Array Value):Prop:=fz=(0,0)∨(cur.size≤fz.1∧False)
def Fw (fz:Nat × Nat)(cur:Array Value):Prop:=fz=(0,0)∨cur.size≤fz.1
theorem Fz.eq {fz:Nat × Nat}{cur:Array Value}(h:Fz fz cur):fz=(0,0):=h.elim (fun q=>q) fun q=>q.2.elim
def BlkR (w:World)(X:Nat→Prop)(ρ:Nat→Nat)(n:Nat)(ob:Option Obj):Blk→Prop
 | .dead=>True
 | .row cs=>∃(cur:Array Value) (t:TypeId) (fz:Nat × Nat) (us:Nat→Value),ob=some (.cells cur t fz)∧Fz fz cur∧cs.length≤cur.size∧
  ∀k x,cs[k]?=some x→cur[k]?=some (us k)∧(us k).oneCell'=true∧Rp w X ρ n (us k) x
 | .map es clock=>∃ms:Array MapEntry,ob=some (.map ms clock)∧ms.size=es.length∧(ms.toList.map (·.born)).Nodup∧
  ∀(k:Nat) (e:Value × AV),es[k]?=some e→∃m:MapEntry,ms[k]?=some m∧m.key=e.1∧flat e.1=true∧m.born<clock∧Rp w X ρ n m.val e.2
 | .ice cs=>∃(cur:Array Value) (t:TypeId) (fz:Nat × Nat) (us:Nat→Value),ob=some (.cells cur t fz)∧
  ∀k x,cs[k]?=some x→cur[k]?=some (us k)∧(us k).oneCell'=true∧Ri w X (us k) x
 | .iter s pos=>ob=some (.stringIter s pos)
 | .raw cs=>∃(cur:Array Value) (t:TypeId) (fz:Nat × Nat) (us:Nat→Value),ob=some (.cells cur t fz)∧Fw fz cur∧cs.length≤cur.size∧
  ∀k x,cs[k]?=some x→cur[k]?=some (us k)∧(us k).oneCell'=true∧Rp w X ρ n (us k) x
theorem BlkR.step {w w':World}{X:Nat→Prop}{ρ ρ':Nat→Nat}{h h':Hp}(hs:Step w (own ρ h) w' (own ρ' h')){n n':Nat}(hρ:∀i,i<n→ρ' i=ρ i)(hn:n≤n')
 {ob:Option Obj} {b:Blk} (hr:BlkR w (tot X ρ h) ρ n ob b):BlkR w' (tot X ρ' h') ρ' n' ob b:=by
 cases b with
 |dead=>trivial
 |
  row cs=>
  obtain⟨cur,t,fz,us,h1,hf,h2,h3⟩:=hr;exact⟨cur,t,fz,us,h1,hf,h2,fun k x hk=>⟨(h3 k x hk).1,(h3 k x hk).2.1,(h3 k x hk).2.2.step hs hρ hn⟩⟩
 |
  map es clock=>
  obtain⟨ms,h1,h2,hnd,h3⟩:=hr;refine⟨ms,h1,h2,hnd,fun k e hk=>?_⟩;obtain⟨m,a1,a2,a3,a4,a5⟩:=h3 k e hk;exact⟨m,a1,a2,a3,a4,a5.step hs hρ hn⟩
 |
  ice cs=>
  obtain⟨cur,t,fz,us,h1,h3⟩:=hr;exact⟨cur,t,fz,us,h1,fun k x hk=>⟨(h3 k x hk).1,(h3 k x hk).2.1,(h3 k x hk).2.2.kept hs.kept⟩⟩
 |iter s pos=>exact hr
 |
  raw cs=>
  obtain⟨cur,t,fz,us,h1,hf,h2,h3⟩:=hr;exact⟨cur,t,fz,us,h1,hf,h2,fun k x hk=>⟨(h3 k x hk).1,(h3 k x hk).2.1,(h3 k x hk).2.2.step hs hρ hn⟩⟩
theorem BlkR.lt {w w0:World}{X:Nat→Prop}{ρ:Nat→Nat}{n p:Nat}{b:Blk}(h:BlkR w X ρ n w0.heap[p]? b)(hb:b≠ .dead):p<w0.heap.size:=by
 cases b with
 |dead=>exact absurd rfl hb
 |row cs=>obtain⟨_,_,_,_,hc,_⟩:=h;exact heap_lt hc
 |map es c=>obtain⟨_,hc,_⟩:=h;exact heap_lt hc
 |ice cs=>obtain⟨_,_,_,_,hc,_⟩:=h;exact heap_lt hc
 |raw cs=>obtain⟨_,_,_,_,hc,_⟩:=h;exact heap_lt hc
 |iter s pos=>exact heap_lt h
def gav :Value→AV
 | .tuple _=> .ud
 |v=> .sc v
def gok (v u:Value):Prop:=
 match v with
 | .tuple _=>∃m:Int,u= .int .i64 m
 |v=>u=v∧flat v=true
theorem gok_ri {w:World}{X:Nat→Prop}{v u:Value}(h:gok v u):Ri w X u (gav v):=by
 unfold gok at h;unfold gav;split
 ·exact .ud u
 ·rename_i hn;split at h
  ·exact absurd rfl (hn _)
  ·obtain⟨rfl,hf⟩:=h;exact .sc _ hf
structure Sim (G:Nat→Option (List Value))(w:World)(X:Nat→Prop)(ρ:Nat→Nat)(h:Hp):Prop where
 xlt:∀b,X b→b<w.heap.size
 glob:∀(g:Nat) (row:List Value),G g=some row→¬tot X ρ h g∧∃(cur:Array Value) (t:TypeId) (fz:Nat × Nat),w.heap[g]?=some (.cells cur t fz)∧cur.size=row.length∧∀(k:Nat) (v:Value),row[k]?=some v→∃u,cur[k]?=some u∧u.oneCell'=true∧gok v u
 inj:∀i j,live h i→live h j→ρ i=ρ j→i=j
 out:∀i,live h i→¬X (ρ i)
 cold:∀(i:Nat) (cs:List AV),h[i]?=some (.ice cs)→¬tot X ρ h (ρ i)
 blk:∀(i:Nat) (b:Blk),h[i]?=some b→BlkR w (tot X ρ h) ρ h.length w.heap[ρ i]? b
theorem Sim.row {G:Nat→Option (List Value)}{w:World}{X:Nat→Prop}{ρ:Nat→Nat}{h:Hp}(hs:Sim G w X ρ h)(i:Nat)(cs:List AV)(hi:h[i]?=some (.row cs)):
 ∃(cur:Array Value) (t:TypeId) (fz:Nat × Nat) (us:Nat→Value),w.heap[ρ i]?=some (.cells cur t fz)∧Fz fz cur∧cs.length≤cur.size∧
 ∀k x,cs[k]?=some x→cur[k]?=some (us k)∧(us k).oneCell'=true∧Rp w (tot X ρ h) ρ h.length (us k) x:=hs.blk i _ hi
theorem Sim.lt {G:Nat→Option (List Value)}{w:World}{X:Nat→Prop}{ρ:Nat→Nat}{h:Hp}(hs:Sim G w X ρ h){i:Nat}(hi:live h i):ρ i<w.heap.size:=by
 obtain⟨b,hb,hd⟩:=hi;exact(hs.blk i b hb).lt (fun e=>by subst e;cases hd)
def RF (w:World)(X:Nat→Prop)(ρ:Nat→Nat)(n:Nat)(tmps:Array Value)(fr:List AV):Prop:=
 tmps.size=fr.length∧∀(i:Nat) (x:AV),fr[i]?=some x→Rp w X ρ n (tmps.getD i undef) x
theorem RF.step {w w':World}{X:Nat→Prop}{ρ ρ':Nat→Nat}{h h':Hp}(hs:Step w (own ρ h) w' (own ρ' h')){n n':Nat}(hρ:∀i,i<n→ρ' i=ρ i)(hn:n≤n')
 {tmps:Array Value} {fr:List AV} (hr:RF w (tot X ρ h) ρ n tmps fr):RF w' (tot X ρ' h') ρ' n' tmps fr:=
 ⟨hr.1,fun i x hx=>(hr.2 i x hx).step hs hρ hn⟩
theorem RF.put {w:World}{X:Nat→Prop}{ρ:Nat→Nat}{n:Nat}{tmps:Array Value}{fr:List AV}(hr:RF w X ρ n tmps fr)(d:Nat){v:Value}{x:AV}(hv:Rp w X ρ n v x):
 RF w X ρ n (tmps.setIfInBounds d v) (fr.set d x):=by
 refine⟨by simp[hr.1],fun i y hy=>?_⟩;by_cases hid:d=i
 ·subst hid;have hlt:d<fr.length:=by have:=(Za.1 hy).1;simpa using this
  rw[Zj hlt]at hy;cases hy;have:d<tmps.size:=by rw[hr.1];exact hlt
  simpa[this]using hv
 ·rw[Zq hid]at hy;have h2:=hr.2 i y hy;simpa[Array.getElem?_setIfInBounds_ne hid]using h2
structure Ext (G:Nat→Option (List Value))(w:World)(X:Nat→Prop)(ρ:Nat→Nat)(h:Hp)(w':World)(ρ':Nat→Nat)(h':Hp):Prop where
 sim:Sim G w' X ρ' h'
 rho:∀i,i<h.length→ρ' i=ρ i
 len:h.length≤h'.length
 step:Step w (own ρ h) w' (own ρ' h')
theorem Ext.refl {G:Nat→Option (List Value)}{w:World}{X:Nat→Prop}{ρ:Nat→Nat}{h:Hp}(hs:Sim G w X ρ h):Ext G w X ρ h w ρ h:=⟨hs,fun _ _=>rfl,Nat.le_refl _,Step.refl _ _⟩
theorem Ext.trans {G:Nat→Option (List Value)}{w w1 w2:World}{X:Nat→Prop}{ρ ρ1 ρ2:Nat→Nat}{h h1 h2:Hp}(e:Ext G w X ρ h w1 ρ1 h1)(k:Ext G w1 X ρ1 h1 w2 ρ2 h2):Ext G w X ρ h w2 ρ2 h2:=
 ⟨k.sim,fun i hi=>(k.rho i (Nat.lt_of_lt_of_le hi e.len)).trans (e.rho i hi),Yj e.len k.len,e.step.trans k.step⟩
theorem Ext.rp {G:Nat→Option (List Value)}{w w':World}{X:Nat→Prop}{ρ ρ':Nat→Nat}{h h':Hp}(e:Ext G w X ρ h w' ρ' h'){v:Value}{x:AV}(hr:Rp w (tot X ρ h) ρ h.length v x):Rp w' (tot X ρ' h') ρ' h'.length v x:=
 hr.step e.step e.rho e.len
theorem Ext.rf {G:Nat→Option (List Value)}{w w':World}{X:Nat→Prop}{ρ ρ':Nat→Nat}{h h':Hp}(e:Ext G w X ρ h w' ρ' h'){tmps:Array Value}{fr:List AV}(hr:RF w (tot X ρ h) ρ h.length tmps fr):RF w' (tot X ρ' h') ρ' h'.length tmps fr:=
 hr.step e.step e.rho e.len
theorem ext_new {G:Nat→Option (List Value)}{w:World}{X:Nat→Prop}{ρ:Nat→Nat}{h:Hp}(hs:Sim G w X ρ h)(ob:Obj)(b:Blk)(hlb:liveB b=true)(hb:BlkR w (tot X ρ h) ρ h.length (some ob) b):
 Ext G w X ρ h (w.alloc ob) (fun i=>if i=h.length then w.heap.size else ρ i) (h++[b]):=by
 have hheap:(w.alloc ob).heap=w.heap.push ob:=rfl;have hsize:(w.alloc ob).heap.size=w.heap.size+1:=by rw[hheap];simp
 have hold:∀b,b<w.heap.size→(w.alloc ob).heap[b]?=w.heap[b]?:=fun b hb=>by
  rw[hheap];simp[Array.getElem?_push,Nat.ne_of_lt hb]
 have hnew:(w.alloc ob).heap[w.heap.size]?=some ob:=by rw[hheap];simp
 have hlive:∀i,live (h++[b]) i→(live h i∧i<h.length)∨i=h.length:=by
  rintro i ⟨b',hb',hd⟩;by_cases hi:i<h.length
  ·rw[Zd hi]at hb';exact .inl ⟨⟨b',hb',hd⟩,hi⟩
  ·right;have:i< (h++[b]).length:=(Za.1 hb').1;simp at this;omega
 have hstep:Step w (own ρ h) (w.alloc ob) (own (fun i=>if i=h.length then w.heap.size else ρ i) (h++[b])):=by
  refine⟨rfl,rfl,rfl,by omega,fun b hb _=>hold b hb,fun b c t' fz' hb=>⟨c,t',fz',?_,rfl⟩,?_,Nat.le_refl _⟩
  ·rw[hold b (heap_lt hb)];exact hb
  ·rintro b hb ⟨i,hi,hρ⟩;rcases hlive i hi with⟨hl,hlt⟩|rfl
   ·exact⟨i,hl,by simpa[Nat.ne_of_lt hlt]using hρ⟩
   ·simp at hρ;omega
 have hrho:∀i,i<h.length→(fun i=>if i=h.length then w.heap.size else ρ i) i=ρ i:=fun i hi=>by simp[Nat.ne_of_lt hi]
 have hX:=hs.xlt;have hcase:∀(i:Nat) (b':Blk),(h++[b])[i]?=some b'→(i<h.length∧h[i]?=some b')∨(i=h.length∧b'=b):=by
  intro i b' hi;by_cases hlt:i<h.length
  ·rw[Zd hlt]at hi;exact .inl ⟨hlt,hi⟩
  ·have he:i=h.length:=by have:i< (h++[b]).length:=(Za.1 hi).1;simp at this;omega
   subst he;simp at hi;exact .inr ⟨rfl,hi.symm⟩
 refine⟨⟨fun b hb=>by have:=hX b hb;omega,fun g row hg=>?_,?_,?_,?_,?_⟩,hrho,by simp,hstep⟩
 ·obtain⟨h1,c,t',fz',h2,h3⟩:=hs.glob g row hg;refine⟨fun hh=>h1 (hstep.kept.less g (heap_lt h2) hh),c,t',fz',?_,h3⟩;rw[hold g (heap_lt h2)];exact h2
 ·intro i j hi hj hij;rcases hlive i hi with⟨hi1,hi2⟩|rfl<;>rcases hlive j hj with⟨hj1,hj2⟩|rfl
  ·simp[Nat.ne_of_lt hi2,Nat.ne_of_lt hj2]at hij;exact hs.inj i j hi1 hj1 hij
  ·simp[Nat.ne_of_lt hi2]at hij;have:=hs.lt hi1;omega
  ·simp[Nat.ne_of_lt hj2]at hij;have:=hs.lt hj1;omega
  ·rfl
 ·intro i hi hx;rcases hlive i hi with⟨hi1,hi2⟩|rfl
  ·simp[Nat.ne_of_lt hi2]at hx;exact hs.out i hi1 hx
  ·simp at hx;have:=hX _ hx;omega
 ·intro i cs hi hh;rcases hcase i _ hi with⟨hlt,hi'⟩|⟨_,e⟩
  ·have h1:=hs.cold i cs hi';have h2:=(hs.blk i _ hi').lt (by simp);simp only[Nat.ne_of_lt hlt,if_false]at hh;exact h1 (hstep.kept.less _ h2 hh)
  ·subst e;cases hlb
 ·intro i b' hi;rcases hcase i b' hi with⟨hlt,hi'⟩|⟨rfl,rfl⟩
  ·have h1:=hs.blk i b' hi';by_cases hd:b'= .dead
   ·subst hd;trivial
   ·simp only[Nat.ne_of_lt hlt,if_false];rw[hold _ (h1.lt hd)];exact h1.step hstep hrho (by simp)
  ·simp only[if_true,hnew];exact hb.step hstep hrho (by simp)
theorem ext_alloc {G:Nat→Option (List Value)}{w:World}{X:Nat→Prop}{ρ:Nat→Nat}{h:Hp}(hs:Sim G w X ρ h)(cur:Array Value)(t:TypeId)(cs:List AV)(us:Nat→Value)(hlen:cs.length≤cur.size)
 (hcs:∀k x,cs[k]?=some x→cur[k]?=some (us k)∧(us k).oneCell'=true∧Rp w (tot X ρ h) ρ h.length (us k) x) (fz:Nat × Nat) (hfz:Fz fz cur):
 Ext G w X ρ h (w.alloc (.cells cur t fz)) (fun i=>if i=h.length then w.heap.size else ρ i) (h++[Blk.row cs]):=
 ext_new hs _ _ rfl ⟨cur,t,fz,us,rfl,hfz,hlen,hcs⟩
theorem ext_turn {G:Nat→Option (List Value)}{w w':World}{X:Nat→Prop}{ρ:Nat→Nat}{h:Hp}(hs:Sim G w X ρ h)(id:Nat)(b0 b:Blk)(hid:h[id]?=some b0)(hl0:liveB b0=true)(hlb:liveB b=true)
 (ho:w'.os=w.os) (hta:w'.tape=w.tape) (hou:w'.output=w.output) (hsz:w'.heap.size=w.heap.size)
 (hrow:∀(cur:Array Value) (t:TypeId) (fz:Nat × Nat),w.heap[ρ id]?=some (.cells cur t fz)→∃(cur':Array Value) (t':TypeId) (fz':Nat × Nat),w'.heap[ρ id]?=some (.cells cur' t' fz')∧cur'.size=cur.size)
 (hne:∀b,b≠ρ id→w'.heap[b]?=w.heap[b]?) (hb:BlkR w (tot X ρ h) ρ h.length w'.heap[ρ id]? b) (hdr:w.drawn≤w'.drawn:=by exact Nat.le_refl _):
 Ext G w X ρ h w' ρ (h.set id b):=by
 have hlt:id<h.length:=(Za.1 hid).1;have hlive:∀i,live (h.set id b) i↔live h i:=by
  intro i;unfold live;by_cases hi:id=i
  ·subst hi;exact⟨fun _=>⟨_,hid,hl0⟩,fun _=>⟨_,Zj hlt,hlb⟩⟩
  ·rw[Zq hi]
 have hown:∀p,own ρ (h.set id b) p↔own ρ h p:=fun p=>⟨fun⟨i,a,c⟩=>⟨i,(hlive i).1 a,c⟩,fun⟨i,a,c⟩=>⟨i,(hlive i).2 a,c⟩⟩
 have hidown:own ρ h (ρ id):=⟨id,⟨_,hid,hl0⟩,rfl⟩;have hstep:Step w (own ρ h) w' (own ρ (h.set id b)):=by
  refine⟨ho,hta,hou,by omega,fun b _ hb=>hne b (fun e=>hb (e▸hidown)),fun p c t' fz hp=>?_,fun p _ hp=>(hown p).1 hp,hdr⟩;by_cases e:p=ρ id
  ·subst e;exact hrow c t' fz hp
  ·exact⟨c,t',fz,(hne p e).trans hp,rfl⟩
 refine⟨⟨fun p hp=>by have:=hs.xlt p hp;omega,fun g row hg=>?_,fun i j hi hj=>hs.inj i j ((hlive i).1 hi) ((hlive j).1 hj),fun i hi=>hs.out i ((hlive i).1 hi),?_,?_⟩,fun _ _=>rfl,by simp,hstep⟩
 ·obtain⟨h1,c,t',fz,h2,h3⟩:=hs.glob g row hg;refine⟨fun hh=>h1 (hstep.kept.less g (heap_lt h2) hh),c,t',fz,?_,h3⟩;rw[hne g (fun e=>h1 (.inr (e▸hidown)))];exact h2
 ·intro i cs hi hh;by_cases e:id=i
  ·subst e;rw[Zj hlt]at hi;cases hi;cases hlb
  ·rw[Zq e]at hi;exact hs.cold i cs hi (hh.imp (fun q=>q) (hown _).1)
 ·intro i b' hi;by_cases e:id=i
  ·subst e;rw[Zj hlt]at hi;cases hi;exact hb.step hstep (fun _ _=>rfl) (by simp)
  ·rw[Zq e]at hi;have h1:=hs.blk i b' hi;by_cases hd:b'= .dead
   ·subst hd;trivial
   ·have hpne:ρ i≠ρ id:=by
     intro e';cases hbl:liveB b' with
     |true=>exact e (hs.inj id i ⟨_,hid,hl0⟩ ⟨_,hi,hbl⟩ e'.symm)
     |
      false=>
      cases b' with
      |dead=>exact hd rfl
      |ice cs=>exact hs.cold i cs hi (.inr (e'▸hidown))
      |row cs=>cases hbl
      |raw cs=>cases hbl
      |map es c=>cases hbl
      |iter s p=>cases hbl
    rw[hne _ hpne];exact h1.step hstep (fun _ _=>rfl) (by simp)
theorem ext_write {G:Nat→Option (List Value)}{w w':World}{X:Nat→Prop}{ρ:Nat→Nat}{h:Hp}(hs:Sim G w X ρ h)(id:Nat)(cs0:List AV)(hid:h[id]?=some (.row cs0))(cur cur':Array Value)(t:TypeId)(fz0:Nat × Nat)(hfz:Fz fz0 cur)
 (hcur:w.heap[ρ id]?=some (.cells cur t fz0))
 (ho:w'.os=w.os) (hta:w'.tape=w.tape) (hou:w'.output=w.output) (hsz:w'.heap.size=w.heap.size) (hat:w'.heap[ρ id]?=some (.cells cur' t fz0)) (hsame:cur'.size=cur.size)
 (hne:∀b,b≠ρ id→w'.heap[b]?=w.heap[b]?) (cs:List AV) (us:Nat→Value) (hlen:cs.length≤cur'.size)
 (hcs:∀k x,cs[k]?=some x→cur'[k]?=some (us k)∧(us k).oneCell'=true∧Rp w (tot X ρ h) ρ h.length (us k) x) (hdr:w.drawn≤w'.drawn:=by exact Nat.le_refl _):
 Ext G w X ρ h w' ρ (h.set id (.row cs)):=
 ext_turn hs id _ _ hid rfl rfl ho hta hou hsz (fun c t' f hc=>by rw[hcur]at hc;cases hc;exact⟨_,_,_,hat,hsame⟩) hne
  ⟨cur',t,fz0,us,hat,hfz.imp (fun q=>q) (fun hh=>by rw[hsame];exact hh),hlen,hcs⟩ hdr
theorem ext_less {G:Nat→Option (List Value)}{w:World}{X:Nat→Prop}{ρ:Nat→Nat}{h:Hp}(hs:Sim G w X ρ h)(h':Hp)(hlen:h'.length=h.length)
 (hb:∀(i:Nat) (b':Blk),h'[i]?=some b'→b'= .dead∨h[i]?=some b'∨∃cs,b'= .ice cs∧live h i∧BlkR w (tot X ρ h') ρ h.length w.heap[ρ i]? (.ice cs)):Ext G w X ρ h w ρ h':=by
 have hlive:∀i,live h' i→live h i:=by
  rintro i ⟨b,hi,hl⟩;rcases hb i b hi with rfl|h1|⟨cs,rfl,_⟩
  ·cases hl
  ·exact⟨b,h1,hl⟩
  ·cases hl
 have hown:∀b,own ρ h' b→own ρ h b:=fun b ⟨i,a,c⟩=>⟨i,hlive i a,c⟩
 have hstep:Step w (own ρ h) w (own ρ h'):=⟨rfl,rfl,rfl,Nat.le_refl _,fun _ _ _=>rfl,fun _ _ _ _ hb=>⟨_,_,_,hb,rfl⟩,fun b _=>hown b,Nat.le_refl _⟩;have hlen':h.length≤h'.length:=by omega
 refine⟨⟨hs.xlt,fun g row hg=>?_,fun i j hi hj=>hs.inj i j (hlive i hi) (hlive j hj),fun i hi=>hs.out i (hlive i hi),?_,?_⟩,fun _ _=>rfl,hlen',hstep⟩
 ·obtain⟨h1,c,t',fz,h2,h3⟩:=hs.glob g row hg;exact⟨fun hh=>h1 (hstep.kept.less g (heap_lt h2) hh),c,t',fz,h2,h3⟩
 ·intro i cs hi hh;rcases hb i _ hi with h1|h1|⟨cs',_,hl,_⟩
  ·cases h1
  ·exact hs.cold i cs h1 (hh.imp (fun q=>q) (hown _))
  ·rcases hh with hx|⟨j,hj,e⟩
   ·exact hs.out i hl hx
   ·have:j=i:=hs.inj j i (hlive j hj) hl e;subst this;obtain⟨b,hjb,hbl⟩:=hj;rw[hi]at hjb;cases hjb;cases hbl
 ·intro i b' hi;rcases hb i b' hi with rfl|h1|⟨cs,rfl,_,h2⟩
  ·trivial
  ·exact(hs.blk i b' h1).step hstep (fun _ _=>rfl) hlen'
  ·exact h2.step (Step.refl w (own ρ h')) (fun _ _=>rfl) hlen'
theorem ext_kill {G:Nat→Option (List Value)}{w:World}{X:Nat→Prop}{ρ:Nat→Nat}{h:Hp}(hs:Sim G w X ρ h)(id:Nat):Ext G w X ρ h w ρ (h.set id Blk.dead):=by
 refine ext_less hs _ (by simp) fun i b hi=>?_
 by_cases e:id=i
 ·subst e;rw[List.getElem?_set_self']at hi;cases hq:h[id]?<;>simp[hq]at hi;exact .inl hi.symm
 ·rw[Zq e]at hi;exact .inr (.inl hi)
theorem ext_rename {G:Nat→Option (List Value)}{w:World}{X:Nat→Prop}{ρ:Nat→Nat}{h:Hp}(hs:Sim G w X ρ h)(id:Nat)(cs:List AV)(hid:h[id]?=some (.row cs)):
 Ext G w X ρ h w (fun i=>if i=h.length then ρ id else ρ i) (h.set id Blk.dead++[Blk.row cs]):=by
 have hlt:id<h.length:=(Za.1 hid).1;have hlen:(h.set id Blk.dead).length=h.length:=by simp
 have hcase:∀(i:Nat) (b:Blk),(h.set id Blk.dead++[Blk.row cs])[i]?=some b→b≠ .dead→(i<h.length∧i≠id∧h[i]?=some b)∨(i=h.length∧b= .row cs):=by
  intro i b hi hd;by_cases hil:i<h.length
  ·rw[Zd (by omega)]at hi;by_cases e:id=i
   ·subst e;simp[hlt]at hi;exact absurd hi.symm hd
   ·rw[Zq e]at hi;exact .inl ⟨hil,fun e'=>e e'.symm,hi⟩
  ·have:i< (h.set id Blk.dead++[Blk.row cs]).length:=(Za.1 hi).1;have he:i=h.length:=by simp at this;omega
   subst he;rw[Zf (by omega)]at hi;simp at hi;exact .inr ⟨rfl,hi.symm⟩
 have hlid:live h id:=⟨_,hid,rfl⟩;have hlive:∀i,live (h.set id Blk.dead++[Blk.row cs]) i→(i<h.length∧i≠id∧live h i)∨i=h.length:=by
  rintro i ⟨b,hb,hd⟩;rcases hcase i b hb (fun e=>by subst e;cases hd)with⟨h1,h2,h3⟩|⟨h1,_⟩
  ·exact .inl ⟨h1,h2,b,h3,hd⟩
  ·exact .inr h1
 have hown:∀b,own (fun i=>if i=h.length then ρ id else ρ i) (h.set id Blk.dead++[Blk.row cs]) b→own ρ h b:=by
  rintro b ⟨i,hi,e⟩;rcases hlive i hi with⟨h1,_,h3⟩|rfl
  ·exact⟨i,h3,by simpa[Nat.ne_of_lt h1]using e⟩
  ·exact⟨id,hlid,by simpa using e⟩
 have hstep:Step w (own ρ h) w (own (fun i=>if i=h.length then ρ id else ρ i) (h.set id Blk.dead++[Blk.row cs])):=
  ⟨rfl,rfl,rfl,Nat.le_refl _,fun _ _ _=>rfl,fun _ _ _ _ hb=>⟨_,_,_,hb,rfl⟩,fun b _=>hown b,Nat.le_refl _⟩
 have hrho:∀i,i<h.length→(fun i=>if i=h.length then ρ id else ρ i) i=ρ i:=fun i hi=>by simp[Nat.ne_of_lt hi]
 refine⟨⟨hs.xlt,fun g row hg=>?_,fun i j hi hj hij=>?_,fun i hi=>?_,?_,?_⟩,hrho,by simp,hstep⟩
 ·obtain⟨h1,c,t',fz,h2,h3⟩:=hs.glob g row hg;exact⟨fun hh=>h1 (hstep.kept.less g (heap_lt h2) hh),c,t',fz,h2,h3⟩
 ·rcases hlive i hi with⟨i1,i2,i3⟩|rfl<;>rcases hlive j hj with⟨j1,j2,j3⟩|rfl
  ·simp[Nat.ne_of_lt i1,Nat.ne_of_lt j1]at hij;exact hs.inj i j i3 j3 hij
  ·simp[Nat.ne_of_lt i1]at hij;exact absurd (hs.inj i id i3 hlid hij) i2
  ·simp[Nat.ne_of_lt j1]at hij;exact absurd (hs.inj j id j3 hlid hij.symm) j2
  ·rfl
 ·rcases hlive i hi with⟨i1,_,i3⟩|rfl
  ·simpa[Nat.ne_of_lt i1]using hs.out i i3
  ·simpa using hs.out id hlid
 ·intro i cs' hi hh;rcases hcase i _ hi (by simp)with⟨i1,_,i3⟩|⟨_,e⟩
  ·simp only[Nat.ne_of_lt i1,if_false]at hh;exact hs.cold i cs' i3 (hh.imp (fun q=>q) (hown _))
  ·cases e
 ·intro i b hi;by_cases hd:b= .dead
  ·subst hd;trivial
  ·rcases hcase i b hi hd with⟨i1,_,i3⟩|⟨rfl,rfl⟩
   ·simp only[Nat.ne_of_lt i1,if_false];exact(hs.blk i b i3).step hstep hrho (by simp)
   ·simp only[if_true];exact(hs.blk id _ hid).step hstep hrho (by simp)
theorem ext_drawn {G:Nat→Option (List Value)}{w:World}{X:Nat→Prop}{ρ:Nat→Nat}{h:Hp}(hs:Sim G w X ρ h)(k:Nat)(hk:w.drawn≤k:=by omega):Ext G w X ρ h {w with drawn:=k} ρ h:=by
 have hstep:Step w (own ρ h) {w with drawn:=k} (own ρ h):=⟨rfl,rfl,rfl,Nat.le_refl _,fun _ _ _=>rfl,fun _ _ _ _ hb=>⟨_,_,_,hb,rfl⟩,fun _ _ hh=>hh,hk⟩;exact⟨⟨hs.xlt,hs.glob,hs.inj,hs.out,hs.cold,fun i b hi=>(hs.blk i b hi).step hstep (fun _ _=>rfl) (Nat.le_refl _)⟩,fun _ _=>rfl,Nat.le_refl _,hstep⟩
end Go.Ae
