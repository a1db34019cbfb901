/-
  The abstract evaluator, part 1: abstract values, how they stand to the model's values and worlds, and that the relation is kept while memory grows.
-/
import Derived.Orders
import Derived.Laws.AppendOwn
import Derived.Laws.CopyRow
import Derived.Below
import Derived.Laws.IdiomStrings
import Derived.Laws.Cover3
import Derived.MapKept
import Derived.IntWalk
import Derived.Laws.Strings
namespace Go.Ae
open Go

/-- A value without addresses, that fits one cell. -/
def flat : Value → Bool
  | .bool _ | .int .. | .float .. | .string _ | .pointer none | .slice none 0 0 | .map none | .nilFunc | .nilIface => true
  | .iface _ v => flat v
  | _ => false

/-- Abstract values. `ud`: nothing is known; `un`: what a passed-over operation leaves; `sc`: a value without addresses; `ls`: a slice that is never written again, row by row (z: its capacity is its length); `sl`: a slice of an own block (k: its capacity is its length; else it reaches to the block's end); `pt`: a pointer into an own block; `rp`: a pointer into a row that is never written; `fn`: a function value; `ag`: a struct by value; `tp`: several results; `mp`: an own map; `pn`: no value: the call that should yield it panicked. -/
inductive AV where
  | ud
  | un
  | sc (v : Value)
  | ls (sz : Nat) (rows : List (List AV)) (z : Bool)
  | sl (id sz off len : Nat) (k : Bool)
  | pt (id off : Nat)
  | rp (row : List AV) (j : Nat)
  | fn (f : FuncId) (caps : List AV)
  | ag (cells : List AV)
  | tp (vs : List AV)
  | mp (id : Nat)
  | pn (v : Value)
  deriving Inhabited

/-- Blocks of the own heap. -/
inductive Blk where
  | dead
  | row (cs : List AV)
  | map (es : List (Value × AV)) (clock : Nat)
  /-- no longer own: never written again -/
  | ice (cs : List AV)
  /-- where a range over a string stands -/
  | iter (s : ByteArray) (pos : Nat)

abbrev Hp := List Blk

/-- A value that never turns again: it may stand in every world that keeps the blocks outside X. -/
inductive Ri (w : World) (X : Nat → Prop) : Value → AV → Prop where
  | ud (v : Value) : Ri w X v .ud
  | un : Ri w X undef .un
  | sc (v : Value) : flat v = true → Ri w X v (.sc v)
  | le (a : Option Addr) (cap sz : Nat) (z : Bool) : cap ≤ maxLen → (z = true → cap = 0) → Ri w X (.slice a 0 cap) (.ls sz [] z)
  | ls (b o len cap sz : Nat) (rows : List (List AV)) (z : Bool) (us : Nat → Nat → Value) (cur : Array Value) (t : TypeId) (fz : Nat × Nat) :
      ¬ X b → w.heap[b]? = some (.cells cur t fz) → rows.length = len → len ≤ cap → cap ≤ maxLen → (z = true → cap = len) →
      (∀ (i : Nat) (row : List AV), rows[i]? = some row → row.length = sz) →
      (∀ (i : Nat) (row : List AV) (j : Nat) (x : AV), rows[i]? = some row → row[j]? = some x → cur[o + i * sz + j]? = some (us i j) ∧ (us i j).oneCell' = true) →
      (∀ (i : Nat) (row : List AV) (j : Nat) (x : AV), rows[i]? = some row → row[j]? = some x → Ri w X (us i j) x) →
      Ri w X (.slice (some ⟨b, o, none⟩) len cap) (.ls sz rows z)
  | rp (b o j : Nat) (row : List AV) (us : Nat → Value) (cur : Array Value) (t : TypeId) (fz : Nat × Nat) :
      ¬ X b → w.heap[b]? = some (.cells cur t fz) →
      (∀ (k : Nat) (x : AV), row[k]? = some x → cur[o + k]? = some (us k) ∧ (us k).oneCell' = true) →
      (∀ (k : Nat) (x : AV), row[k]? = some x → Ri w X (us k) x) →
      Ri w X (.pointer (some ⟨b, o + j, none⟩)) (.rp row j)
  | fn (f : FuncId) (us : Array Value) (xs : List AV) : us.size = xs.length → (∀ (k : Nat) (x : AV), xs[k]? = some x → Ri w X (us.getD k undef) x) → Ri w X (.func (.func f) #[] us) (.fn f xs)
  | ag (us : Array Value) (xs : List AV) : us.size = xs.length → (∀ k, k < us.size → (us.getD k undef).oneCell' = true) → (∀ (k : Nat) (x : AV), xs[k]? = some x → Ri w X (us.getD k undef) x) → Ri w X (.agg us) (.ag xs)
  | tp (us : Array Value) (xs : List AV) : us.size = xs.length → (∀ (k : Nat) (x : AV), xs[k]? = some x → Ri w X (us.getD k undef) x) → Ri w X (.tuple us) (.tp xs)

/-- A value that may lead into own blocks: block id lies at block ρ id; n ids are given out. -/
inductive Rp (w : World) (X : Nat → Prop) (ρ : Nat → Nat) (n : Nat) : Value → AV → Prop where
  | im {v : Value} {x : AV} : Ri w X v x → Rp w X ρ n v x
  | sl (id sz off len cap : Nat) (k : Bool) (cur : Array Value) (t : TypeId) (fz : Nat × Nat) : id < n → w.heap[ρ id]? = some (.cells cur t fz) → off + cap * sz ≤ cur.size → (k = true → cap = len) → (k = false → off + cap * sz = cur.size) → len ≤ cap → cap ≤ maxLen →
      Rp w X ρ n (.slice (some ⟨ρ id, off, none⟩) len cap) (.sl id sz off len k)
  | pt (id off : Nat) : id < n → Rp w X ρ n (.pointer (some ⟨ρ id, off, none⟩)) (.pt id off)
  | mp (id : Nat) : id < n → Rp w X ρ n (.map (some (ρ id))) (.mp id)
  | fn (f : FuncId) (us : Array Value) (xs : List AV) : us.size = xs.length → (∀ (k : Nat) (x : AV), xs[k]? = some x → Rp w X ρ n (us.getD k undef) x) → Rp w X ρ n (.func (.func f) #[] us) (.fn f xs)
  | ag (us : Array Value) (xs : List AV) : us.size = xs.length → (∀ k, k < us.size → (us.getD k undef).oneCell' = true) → (∀ (k : Nat) (x : AV), xs[k]? = some x → Rp w X ρ n (us.getD k undef) x) → Rp w X ρ n (.agg us) (.ag xs)
  | tp (us : Array Value) (xs : List AV) : us.size = xs.length → (∀ (k : Nat) (x : AV), xs[k]? = some x → Rp w X ρ n (us.getD k undef) x) → Rp w X ρ n (.tuple us) (.tp xs)

/-- Own: to be written yet. -/
def liveB : Blk → Bool
  | .row _ | .map .. | .iter .. => true
  | _ => false
def live (h : Hp) (i : Nat) : Prop := ∃ b, h[i]? = some b ∧ liveB b = true
/-- The own live blocks' places. -/
def own (ρ : Nat → Nat) (h : Hp) (b : Nat) : Prop := ∃ i, live h i ∧ ρ i = b
def tot (X : Nat → Prop) (ρ : Nat → Nat) (h : Hp) (b : Nat) : Prop := X b ∨ own ρ h b

/-- From w to w' only own blocks (O) may have turned; O' are the own ones behind it. -/
structure Step (w : World) (O : Nat → Prop) (w' : World) (O' : Nat → Prop) : Prop where
  os : w'.os = w.os
  tape : w'.tape = w.tape
  output : w'.output = w.output
  size : w.heap.size ≤ w'.heap.size
  keep : ∀ b, b < w.heap.size → ¬ O b → w'.heap[b]? = w.heap[b]?
  row : ∀ (b : Nat) (cur : Array Value) (t : TypeId) (fz : Nat × Nat), w.heap[b]? = some (Obj.cells cur t fz) → ∃ (cur' : Array Value) (t' : TypeId) (fz' : Nat × Nat), w'.heap[b]? = some (Obj.cells cur' t' fz') ∧ cur'.size = cur.size
  less : ∀ b, b < w.heap.size → O' b → O b

theorem Step.refl (w : World) (O : Nat → Prop) : Step w O w O :=
  ⟨rfl, rfl, rfl, Nat.le_refl _, fun _ _ _ => rfl, fun _ _ _ _ h => ⟨_, _, _, h, rfl⟩, fun _ _ h => h⟩

theorem Step.trans {w w1 w2 : World} {O O1 O2 : Nat → Prop} (h : Step w O w1 O1) (k : Step w1 O1 w2 O2) : Step w O w2 O2 := {
  os := k.os.trans h.os
  tape := k.tape.trans h.tape
  output := k.output.trans h.output
  size := Nat.le_trans h.size k.size
  keep := fun b hb hO => (k.keep b (Nat.lt_of_lt_of_le hb h.size) fun h1 => hO (h.less b hb h1)).trans (h.keep b hb hO)
  row := fun b cur t fz hc => by
    obtain ⟨c1, t1, f1, h1, e1⟩ := h.row b cur t fz hc
    obtain ⟨c2, t2, f2, h2, e2⟩ := k.row b c1 t1 f1 h1
    exact ⟨c2, t2, f2, h2, e2.trans e1⟩
  less := fun b hb h2 => h.less b hb (k.less b (Nat.lt_of_lt_of_le hb h.size) h2) }

theorem heap_lt {w : World} {b : Nat} {o : Obj} (h : w.heap[b]? = some o) : b < w.heap.size := (Array.getElem?_eq_some_iff.1 h).1

/-- Blocks outside X are as they were. -/
structure Kept (w : World) (X : Nat → Prop) (w' : World) (X' : Nat → Prop) : Prop where
  keep : ∀ b, b < w.heap.size → ¬ X b → w'.heap[b]? = w.heap[b]?
  less : ∀ b, b < w.heap.size → X' b → X b

theorem Ri.kept {w w' : World} {X X' : Nat → Prop} (hk : Kept w X w' X') {v : Value} {x : AV} (h : Ri w X v x) : Ri w' X' v x := by
  induction h with
  | ud v => exact .ud v
  | un => exact .un
  | sc v hv => exact .sc v hv
  | le a cap sz z h1 h2 => exact .le a cap sz z h1 h2
  | ls b o len cap sz rows z us cur t fz hx hb h1 h2 h3 h4 h5 h6 h7 ih =>
    have hlt := heap_lt hb
    exact .ls b o len cap sz rows z us cur t fz (fun hh => hx (hk.less b hlt hh)) ((hk.keep b hlt hx).trans hb) h1 h2 h3 h4 h5 h6 ih
  | rp b o j row us cur t fz hx hb h1 h2 ih =>
    have hlt := heap_lt hb
    exact .rp b o j row us cur t fz (fun hh => hx (hk.less b hlt hh)) ((hk.keep b hlt hx).trans hb) h1 ih
  | fn f us xs h1 h2 ih => exact .fn f us xs h1 ih
  | ag us xs h1 h2 h3 ih => exact .ag us xs h1 h2 ih
  | tp us xs h1 h2 ih => exact .tp us xs h1 ih

theorem Ri.anti {w : World} {X X' : Nat → Prop} (hX : ∀ b, X' b → X b) {v : Value} {x : AV} (h : Ri w X v x) : Ri w X' v x :=
  h.kept ⟨fun _ _ _ => rfl, fun b _ => hX b⟩

theorem Step.kept {w w' : World} {X : Nat → Prop} {ρ ρ' : Nat → Nat} {h h' : Hp} (hs : Step w (own ρ h) w' (own ρ' h')) : Kept w (tot X ρ h) w' (tot X ρ' h') := {
  keep := fun b hb hX => hs.keep b hb fun ho => hX (.inr ho)
  less := fun b hb hX => hX.imp id (hs.less b hb) }

theorem Rp.step {w w' : World} {X : Nat → Prop} {ρ ρ' : Nat → Nat} {h h' : Hp} (hs : Step w (own ρ h) w' (own ρ' h')) {n n' : Nat} (hρ : ∀ i, i < n → ρ' i = ρ i) (hn : n ≤ n')
    {v : Value} {x : AV} (hr : Rp w (tot X ρ h) ρ n v x) : Rp w' (tot X ρ' h') ρ' n' v x := by
  induction hr with
  | im hi => exact .im (hi.kept hs.kept)
  | sl id sz off len cap k cur t fz h1 h2 h3 h4 h5 h6 h7 =>
    obtain ⟨c', t', f', hc, hsz⟩ := hs.row _ _ _ _ h2
    rw [← hρ id h1] at hc ⊢
    exact .sl id sz off len cap k c' t' f' (Nat.lt_of_lt_of_le h1 hn) hc (by rw [hsz]; exact h3) h4 (by rw [hsz]; exact h5) h6 h7
  | pt id off h1 => rw [← hρ id h1]; exact .pt id off (Nat.lt_of_lt_of_le h1 hn)
  | mp id h1 => rw [← hρ id h1]; exact .mp id (Nat.lt_of_lt_of_le h1 hn)
  | fn f us xs h1 h2 ih => exact .fn f us xs h1 ih
  | ag us xs h1 h2 h3 ih => exact .ag us xs h1 h2 ih
  | tp us xs h1 h2 ih => exact .tp us xs h1 ih

/-- No cell of the row is frozen. -/
def Fz (fz : Nat × Nat) (cur : Array Value) : Prop := fz = (0, 0) ∨ cur.size ≤ fz.1

/-- What lies in memory is what the block says. -/
def BlkR (w : World) (X : Nat → Prop) (ρ : Nat → Nat) (n : Nat) (ob : Option Obj) : Blk → Prop
  | .dead => True
  | .row cs => ∃ (cur : Array Value) (t : TypeId) (fz : Nat × Nat) (us : Nat → Value), ob = some (.cells cur t fz) ∧ Fz fz cur ∧ cs.length ≤ cur.size ∧
      ∀ k x, cs[k]? = some x → cur[k]? = some (us k) ∧ (us k).oneCell' = true ∧ Rp w X ρ n (us k) x
  | .map es clock => ∃ ms : Array MapEntry, ob = some (.map ms clock) ∧ ms.size = es.length ∧ (ms.toList.map (·.born)).Nodup ∧
      ∀ (k : Nat) (e : Value × AV), es[k]? = some e → ∃ m : MapEntry, ms[k]? = some m ∧ m.key = e.1 ∧ flat e.1 = true ∧ m.born < clock ∧ Rp w X ρ n m.val e.2
  | .ice cs => ∃ (cur : Array Value) (t : TypeId) (fz : Nat × Nat) (us : Nat → Value), ob = some (.cells cur t fz) ∧
      ∀ k x, cs[k]? = some x → cur[k]? = some (us k) ∧ (us k).oneCell' = true ∧ Ri w X (us k) x
  | .iter s pos => ob = some (.stringIter s pos)

theorem BlkR.step {w w' : World} {X : Nat → Prop} {ρ ρ' : Nat → Nat} {h h' : Hp} (hs : Step w (own ρ h) w' (own ρ' h')) {n n' : Nat} (hρ : ∀ i, i < n → ρ' i = ρ i) (hn : n ≤ n')
    {ob : Option Obj} {b : Blk} (hr : BlkR w (tot X ρ h) ρ n ob b) : BlkR w' (tot X ρ' h') ρ' n' ob b := by
  cases b with
  | dead => trivial
  | row cs =>
    obtain ⟨cur, t, fz, us, h1, hf, h2, h3⟩ := hr
    exact ⟨cur, t, fz, us, h1, hf, h2, fun k x hk => ⟨(h3 k x hk).1, (h3 k x hk).2.1, (h3 k x hk).2.2.step hs hρ hn⟩⟩
  | map es clock =>
    obtain ⟨ms, h1, h2, hnd, h3⟩ := hr
    refine ⟨ms, h1, h2, hnd, fun k e hk => ?_⟩
    obtain ⟨m, a1, a2, a3, a4, a5⟩ := h3 k e hk
    exact ⟨m, a1, a2, a3, a4, a5.step hs hρ hn⟩
  | ice cs =>
    obtain ⟨cur, t, fz, us, h1, h3⟩ := hr
    exact ⟨cur, t, fz, us, h1, fun k x hk => ⟨(h3 k x hk).1, (h3 k x hk).2.1, (h3 k x hk).2.2.kept hs.kept⟩⟩
  | iter s pos => exact hr

theorem BlkR.lt {w w0 : World} {X : Nat → Prop} {ρ : Nat → Nat} {n p : Nat} {b : Blk} (h : BlkR w X ρ n w0.heap[p]? b) (hb : b ≠ .dead) : p < w0.heap.size := by
  cases b with
  | dead => exact absurd rfl hb
  | row cs => obtain ⟨_, _, _, _, hc, _⟩ := h; exact heap_lt hc
  | map es c => obtain ⟨_, hc, _⟩ := h; exact heap_lt hc
  | ice cs => obtain ⟨_, _, _, _, hc, _⟩ := h; exact heap_lt hc
  | iter s pos => exact heap_lt h

/-- What stands for the cell of a listed variable, given its list's entry: 'tuple': nothing is known but that it is a number. -/
def gav : Value → AV
  | .tuple _ => .ud
  | v => .sc v
def gok (v u : Value) : Prop :=
  match v with
  | .tuple _ => ∃ m : Int, u = .int .i64 m
  | v => u = v ∧ flat v = true
theorem gok_ri {w : World} {X : Nat → Prop} {v u : Value} (h : gok v u) : Ri w X u (gav v) := by
  unfold gok at h
  unfold gav
  split
  · exact .ud u
  · rename_i hn
    split at h
    · exact absurd rfl (hn _)
    · obtain ⟨rfl, hf⟩ := h
      exact .sc _ hf

/-- The world w holds the own heap h, at the places ρ, apart from X. -/
structure Sim (G : Nat → Option (List Value)) (w : World) (X : Nat → Prop) (ρ : Nat → Nat) (h : Hp) : Prop where
  xlt : ∀ b, X b → b < w.heap.size
  glob : ∀ (g : Nat) (row : List Value), G g = some row → ¬ tot X ρ h g ∧ ∃ (cur : Array Value) (t : TypeId) (fz : Nat × Nat), w.heap[g]? = some (.cells cur t fz) ∧ ∀ (k : Nat) (v : Value), row[k]? = some v → ∃ u, cur[k]? = some u ∧ u.oneCell' = true ∧ gok v u
  inj : ∀ i j, live h i → live h j → ρ i = ρ j → i = j
  out : ∀ i, live h i → ¬ X (ρ i)
  cold : ∀ (i : Nat) (cs : List AV), h[i]? = some (.ice cs) → ¬ tot X ρ h (ρ i)
  blk : ∀ (i : Nat) (b : Blk), h[i]? = some b → BlkR w (tot X ρ h) ρ h.length w.heap[ρ i]? b

theorem Sim.row {G : Nat → Option (List Value)} {w : World} {X : Nat → Prop} {ρ : Nat → Nat} {h : Hp} (hs : Sim G w X ρ h) (i : Nat) (cs : List AV) (hi : h[i]? = some (.row cs)) :
    ∃ (cur : Array Value) (t : TypeId) (fz : Nat × Nat) (us : Nat → Value), w.heap[ρ i]? = some (.cells cur t fz) ∧ Fz fz cur ∧ cs.length ≤ cur.size ∧
    ∀ k x, cs[k]? = some x → cur[k]? = some (us k) ∧ (us k).oneCell' = true ∧ Rp w (tot X ρ h) ρ h.length (us k) x := hs.blk i _ hi

theorem Sim.lt {G : Nat → Option (List Value)} {w : World} {X : Nat → Prop} {ρ : Nat → Nat} {h : Hp} (hs : Sim G w X ρ h) {i : Nat} (hi : live h i) : ρ i < w.heap.size := by
  obtain ⟨b, hb, hd⟩ := hi
  exact (hs.blk i b hb).lt (fun e => by subst e; cases hd)

/-- The frame's slots. -/
def RF (w : World) (X : Nat → Prop) (ρ : Nat → Nat) (n : Nat) (tmps : Array Value) (fr : List AV) : Prop :=
  tmps.size = fr.length ∧ ∀ (i : Nat) (x : AV), fr[i]? = some x → Rp w X ρ n (tmps.getD i undef) x

theorem RF.step {w w' : World} {X : Nat → Prop} {ρ ρ' : Nat → Nat} {h h' : Hp} (hs : Step w (own ρ h) w' (own ρ' h')) {n n' : Nat} (hρ : ∀ i, i < n → ρ' i = ρ i) (hn : n ≤ n')
    {tmps : Array Value} {fr : List AV} (hr : RF w (tot X ρ h) ρ n tmps fr) : RF w' (tot X ρ' h') ρ' n' tmps fr :=
  ⟨hr.1, fun i x hx => (hr.2 i x hx).step hs hρ hn⟩

theorem RF.put {w : World} {X : Nat → Prop} {ρ : Nat → Nat} {n : Nat} {tmps : Array Value} {fr : List AV} (hr : RF w X ρ n tmps fr) (d : Nat) {v : Value} {x : AV} (hv : Rp w X ρ n v x) :
    RF w X ρ n (tmps.setIfInBounds d v) (fr.set d x) := by
  refine ⟨by simp [hr.1], fun i y hy => ?_⟩
  by_cases hid : d = i
  · subst hid
    have hlt : d < fr.length := by have := (List.getElem?_eq_some_iff.1 hy).1; simpa using this
    rw [List.getElem?_set_self hlt] at hy
    cases hy
    have : d < tmps.size := by rw [hr.1]; exact hlt
    simpa [this] using hv
  · rw [List.getElem?_set_ne hid] at hy
    have h2 := hr.2 i y hy
    simpa [Array.getElem?_setIfInBounds_ne hid] using h2

/-- What one piece of the run leads to. -/
structure Ext (G : Nat → Option (List Value)) (w : World) (X : Nat → Prop) (ρ : Nat → Nat) (h : Hp) (w' : World) (ρ' : Nat → Nat) (h' : Hp) : Prop where
  sim : Sim G w' X ρ' h'
  rho : ∀ i, i < h.length → ρ' i = ρ i
  len : h.length ≤ h'.length
  step : Step w (own ρ h) w' (own ρ' h')

theorem Ext.refl {G : Nat → Option (List Value)} {w : World} {X : Nat → Prop} {ρ : Nat → Nat} {h : Hp} (hs : Sim G w X ρ h) : Ext G w X ρ h w ρ h := ⟨hs, fun _ _ => rfl, Nat.le_refl _, Step.refl _ _⟩
theorem Ext.trans {G : Nat → Option (List Value)} {w w1 w2 : World} {X : Nat → Prop} {ρ ρ1 ρ2 : Nat → Nat} {h h1 h2 : Hp} (e : Ext G w X ρ h w1 ρ1 h1) (k : Ext G w1 X ρ1 h1 w2 ρ2 h2) : Ext G w X ρ h w2 ρ2 h2 :=
  ⟨k.sim, fun i hi => (k.rho i (Nat.lt_of_lt_of_le hi e.len)).trans (e.rho i hi), Nat.le_trans e.len k.len, e.step.trans k.step⟩
theorem Ext.rp {G : Nat → Option (List Value)} {w w' : World} {X : Nat → Prop} {ρ ρ' : Nat → Nat} {h h' : Hp} (e : Ext G w X ρ h w' ρ' h') {v : Value} {x : AV} (hr : Rp w (tot X ρ h) ρ h.length v x) : Rp w' (tot X ρ' h') ρ' h'.length v x :=
  hr.step e.step e.rho e.len
theorem Ext.rf {G : Nat → Option (List Value)} {w w' : World} {X : Nat → Prop} {ρ ρ' : Nat → Nat} {h h' : Hp} (e : Ext G w X ρ h w' ρ' h') {tmps : Array Value} {fr : List AV} (hr : RF w (tot X ρ h) ρ h.length tmps fr) : RF w' (tot X ρ' h') ρ' h'.length tmps fr :=
  hr.step e.step e.rho e.len

/-- A new block, whatever it holds. -/
theorem ext_new {G : Nat → Option (List Value)} {w : World} {X : Nat → Prop} {ρ : Nat → Nat} {h : Hp} (hs : Sim G w X ρ h) (ob : Obj) (b : Blk) (hlb : liveB b = true) (hb : BlkR w (tot X ρ h) ρ h.length (some ob) b) :
    Ext G w X ρ h (w.alloc ob) (fun i => if i = h.length then w.heap.size else ρ i) (h ++ [b]) := by
  have hheap : (w.alloc ob).heap = w.heap.push ob := rfl
  have hsize : (w.alloc ob).heap.size = w.heap.size + 1 := by rw [hheap]; simp
  have hold : ∀ b, b < w.heap.size → (w.alloc ob).heap[b]? = w.heap[b]? := fun b hb => by
    rw [hheap]; simp [Array.getElem?_push, Nat.ne_of_lt hb]
  have hnew : (w.alloc ob).heap[w.heap.size]? = some ob := by rw [hheap]; simp
  have hlive : ∀ i, live (h ++ [b]) i → (live h i ∧ i < h.length) ∨ i = h.length := by
    rintro i ⟨b', hb', hd⟩
    by_cases hi : i < h.length
    · rw [List.getElem?_append_left hi] at hb'
      exact .inl ⟨⟨b', hb', hd⟩, hi⟩
    · right
      have : i < (h ++ [b]).length := (List.getElem?_eq_some_iff.1 hb').1
      simp at this
      omega
  have hstep : Step w (own ρ h) (w.alloc ob) (own (fun i => if i = h.length then w.heap.size else ρ i) (h ++ [b])) := by
    refine ⟨rfl, rfl, rfl, by omega, fun b hb _ => hold b hb, fun b c t' fz' hb => ⟨c, t', fz', ?_, rfl⟩, ?_⟩
    · rw [hold b (heap_lt hb)]; exact hb
    · rintro b hb ⟨i, hi, hρ⟩
      rcases hlive i hi with ⟨hl, hlt⟩ | rfl
      · exact ⟨i, hl, by simpa [Nat.ne_of_lt hlt] using hρ⟩
      · simp at hρ; omega
  have hrho : ∀ i, i < h.length → (fun i => if i = h.length then w.heap.size else ρ i) i = ρ i := fun i hi => by simp [Nat.ne_of_lt hi]
  have hX := hs.xlt
  have hcase : ∀ (i : Nat) (b' : Blk), (h ++ [b])[i]? = some b' → (i < h.length ∧ h[i]? = some b') ∨ (i = h.length ∧ b' = b) := by
    intro i b' hi
    by_cases hlt : i < h.length
    · rw [List.getElem?_append_left hlt] at hi
      exact .inl ⟨hlt, hi⟩
    · have he : i = h.length := by have : i < (h ++ [b]).length := (List.getElem?_eq_some_iff.1 hi).1; simp at this; omega
      subst he
      simp at hi
      exact .inr ⟨rfl, hi.symm⟩
  refine ⟨⟨fun b hb => by have := hX b hb; omega, fun g row hg => ?_, ?_, ?_, ?_, ?_⟩, hrho, by simp, hstep⟩
  · obtain ⟨h1, c, t', fz', h2, h3⟩ := hs.glob g row hg
    refine ⟨fun hh => h1 (hstep.kept.less g (heap_lt h2) hh), c, t', fz', ?_, h3⟩
    rw [hold g (heap_lt h2)]; exact h2
  · intro i j hi hj hij
    rcases hlive i hi with ⟨hi1, hi2⟩ | rfl <;> rcases hlive j hj with ⟨hj1, hj2⟩ | rfl
    · simp [Nat.ne_of_lt hi2, Nat.ne_of_lt hj2] at hij
      exact hs.inj i j hi1 hj1 hij
    · simp [Nat.ne_of_lt hi2] at hij
      have := hs.lt hi1
      omega
    · simp [Nat.ne_of_lt hj2] at hij
      have := hs.lt hj1
      omega
    · rfl
  · intro i hi hx
    rcases hlive i hi with ⟨hi1, hi2⟩ | rfl
    · simp [Nat.ne_of_lt hi2] at hx
      exact hs.out i hi1 hx
    · simp at hx
      have := hX _ hx
      omega
  · intro i cs hi hh
    rcases hcase i _ hi with ⟨hlt, hi'⟩ | ⟨_, e⟩
    · have h1 := hs.cold i cs hi'
      have h2 := (hs.blk i _ hi').lt (by simp)
      simp only [Nat.ne_of_lt hlt, if_false] at hh
      exact h1 (hstep.kept.less _ h2 hh)
    · subst e; cases hlb
  · intro i b' hi
    rcases hcase i b' hi with ⟨hlt, hi'⟩ | ⟨rfl, rfl⟩
    · have h1 := hs.blk i b' hi'
      by_cases hd : b' = .dead
      · subst hd; trivial
      · simp only [Nat.ne_of_lt hlt, if_false]
        rw [hold _ (h1.lt hd)]
        exact h1.step hstep hrho (by simp)
    · simp only [if_true, hnew]
      exact hb.step hstep hrho (by simp)

/-- A new row. -/
theorem ext_alloc {G : Nat → Option (List Value)} {w : World} {X : Nat → Prop} {ρ : Nat → Nat} {h : Hp} (hs : Sim G w X ρ h) (cur : Array Value) (t : TypeId) (cs : List AV) (us : Nat → Value) (hlen : cs.length ≤ cur.size)
    (hcs : ∀ k x, cs[k]? = some x → cur[k]? = some (us k) ∧ (us k).oneCell' = true ∧ Rp w (tot X ρ h) ρ h.length (us k) x) (fz : Nat × Nat) (hfz : Fz fz cur) :
    Ext G w X ρ h (w.alloc (.cells cur t fz)) (fun i => if i = h.length then w.heap.size else ρ i) (h ++ [Blk.row cs]) :=
  ext_new hs _ _ rfl ⟨cur, t, fz, us, rfl, hfz, hlen, hcs⟩

/-- A world that turns one own block, and the abstract heap with it. -/
theorem ext_turn {G : Nat → Option (List Value)} {w w' : World} {X : Nat → Prop} {ρ : Nat → Nat} {h : Hp} (hs : Sim G w X ρ h) (id : Nat) (b0 b : Blk) (hid : h[id]? = some b0) (hl0 : liveB b0 = true) (hlb : liveB b = true)
    (ho : w'.os = w.os) (hta : w'.tape = w.tape) (hou : w'.output = w.output) (hsz : w'.heap.size = w.heap.size)
    (hrow : ∀ (cur : Array Value) (t : TypeId) (fz : Nat × Nat), w.heap[ρ id]? = some (.cells cur t fz) → ∃ (cur' : Array Value) (t' : TypeId) (fz' : Nat × Nat), w'.heap[ρ id]? = some (.cells cur' t' fz') ∧ cur'.size = cur.size)
    (hne : ∀ b, b ≠ ρ id → w'.heap[b]? = w.heap[b]?) (hb : BlkR w (tot X ρ h) ρ h.length w'.heap[ρ id]? b) :
    Ext G w X ρ h w' ρ (h.set id b) := by
  have hlt : id < h.length := (List.getElem?_eq_some_iff.1 hid).1
  have hlive : ∀ i, live (h.set id b) i ↔ live h i := by
    intro i
    unfold live
    by_cases hi : id = i
    · subst hi
      exact ⟨fun _ => ⟨_, hid, hl0⟩, fun _ => ⟨_, List.getElem?_set_self hlt, hlb⟩⟩
    · rw [List.getElem?_set_ne hi]
  have hown : ∀ p, own ρ (h.set id b) p ↔ own ρ h p := fun p => ⟨fun ⟨i, a, c⟩ => ⟨i, (hlive i).1 a, c⟩, fun ⟨i, a, c⟩ => ⟨i, (hlive i).2 a, c⟩⟩
  have hidown : own ρ h (ρ id) := ⟨id, ⟨_, hid, hl0⟩, rfl⟩
  have hstep : Step w (own ρ h) w' (own ρ (h.set id b)) := by
    refine ⟨ho, hta, hou, by omega, fun b _ hb => hne b (fun e => hb (e ▸ hidown)), fun p c t' fz hp => ?_, fun p _ hp => (hown p).1 hp⟩
    by_cases e : p = ρ id
    · subst e; exact hrow c t' fz hp
    · exact ⟨c, t', fz, (hne p e).trans hp, rfl⟩
  refine ⟨⟨fun p hp => by have := hs.xlt p hp; omega, fun g row hg => ?_, fun i j hi hj => hs.inj i j ((hlive i).1 hi) ((hlive j).1 hj), fun i hi => hs.out i ((hlive i).1 hi), ?_, ?_⟩, fun _ _ => rfl, by simp, hstep⟩
  · obtain ⟨h1, c, t', fz, h2, h3⟩ := hs.glob g row hg
    refine ⟨fun hh => h1 (hstep.kept.less g (heap_lt h2) hh), c, t', fz, ?_, h3⟩
    rw [hne g (fun e => h1 (.inr (e ▸ hidown)))]; exact h2
  · intro i cs hi hh
    by_cases e : id = i
    · subst e
      rw [List.getElem?_set_self hlt] at hi
      cases hi; cases hlb
    · rw [List.getElem?_set_ne e] at hi
      exact hs.cold i cs hi (hh.imp (fun q => q) (hown _).1)
  · intro i b' hi
    by_cases e : id = i
    · subst e
      rw [List.getElem?_set_self hlt] at hi
      cases hi
      exact hb.step hstep (fun _ _ => rfl) (by simp)
    · rw [List.getElem?_set_ne e] at hi
      have h1 := hs.blk i b' hi
      by_cases hd : b' = .dead
      · subst hd; trivial
      · have hpne : ρ i ≠ ρ id := by
          intro e'
          cases hbl : liveB b' with
          | true => exact e (hs.inj id i ⟨_, hid, hl0⟩ ⟨_, hi, hbl⟩ e'.symm)
          | false =>
            cases b' with
            | dead => exact hd rfl
            | ice cs => exact hs.cold i cs hi (.inr (e' ▸ hidown))
            | row cs => cases hbl
            | map es c => cases hbl
            | iter s p => cases hbl
        rw [hne _ hpne]
        exact h1.step hstep (fun _ _ => rfl) (by simp)

/-- A world that turns one own block of cells, and the abstract heap with it. -/
theorem ext_write {G : Nat → Option (List Value)} {w w' : World} {X : Nat → Prop} {ρ : Nat → Nat} {h : Hp} (hs : Sim G w X ρ h) (id : Nat) (cs0 : List AV) (hid : h[id]? = some (.row cs0)) (cur cur' : Array Value) (t : TypeId) (fz0 : Nat × Nat) (hfz : Fz fz0 cur)
    (hcur : w.heap[ρ id]? = some (.cells cur t fz0))
    (ho : w'.os = w.os) (hta : w'.tape = w.tape) (hou : w'.output = w.output) (hsz : w'.heap.size = w.heap.size) (hat : w'.heap[ρ id]? = some (.cells cur' t fz0)) (hsame : cur'.size = cur.size)
    (hne : ∀ b, b ≠ ρ id → w'.heap[b]? = w.heap[b]?) (cs : List AV) (us : Nat → Value) (hlen : cs.length ≤ cur'.size)
    (hcs : ∀ k x, cs[k]? = some x → cur'[k]? = some (us k) ∧ (us k).oneCell' = true ∧ Rp w (tot X ρ h) ρ h.length (us k) x) :
    Ext G w X ρ h w' ρ (h.set id (.row cs)) :=
  ext_turn hs id _ _ hid rfl rfl ho hta hou hsz (fun c t' f hc => by rw [hcur] at hc; cases hc; exact ⟨_, _, _, hat, hsame⟩) hne
    ⟨cur', t, fz0, us, hat, hfz.imp (fun q => q) (fun hh => by rw [hsame]; exact hh), hlen, hcs⟩

/-- Blocks are given up, or given up for writing; the world is as it was. -/
theorem ext_less {G : Nat → Option (List Value)} {w : World} {X : Nat → Prop} {ρ : Nat → Nat} {h : Hp} (hs : Sim G w X ρ h) (h' : Hp) (hlen : h'.length = h.length)
    (hb : ∀ (i : Nat) (b' : Blk), h'[i]? = some b' → b' = .dead ∨ h[i]? = some b' ∨ ∃ cs, b' = .ice cs ∧ live h i ∧ BlkR w (tot X ρ h') ρ h.length w.heap[ρ i]? (.ice cs)) : Ext G w X ρ h w ρ h' := by
  have hlive : ∀ i, live h' i → live h i := by
    rintro i ⟨b, hi, hl⟩
    rcases hb i b hi with rfl | h1 | ⟨cs, rfl, _⟩
    · cases hl
    · exact ⟨b, h1, hl⟩
    · cases hl
  have hown : ∀ b, own ρ h' b → own ρ h b := fun b ⟨i, a, c⟩ => ⟨i, hlive i a, c⟩
  have hstep : Step w (own ρ h) w (own ρ h') := ⟨rfl, rfl, rfl, Nat.le_refl _, fun _ _ _ => rfl, fun _ _ _ _ hb => ⟨_, _, _, hb, rfl⟩, fun b _ => hown b⟩
  have hlen' : h.length ≤ h'.length := by omega
  refine ⟨⟨hs.xlt, fun g row hg => ?_, fun i j hi hj => hs.inj i j (hlive i hi) (hlive j hj), fun i hi => hs.out i (hlive i hi), ?_, ?_⟩, fun _ _ => rfl, hlen', hstep⟩
  · obtain ⟨h1, c, t', fz, h2, h3⟩ := hs.glob g row hg
    exact ⟨fun hh => h1 (hstep.kept.less g (heap_lt h2) hh), c, t', fz, h2, h3⟩
  · intro i cs hi hh
    rcases hb i _ hi with h1 | h1 | ⟨cs', _, hl, _⟩
    · cases h1
    · exact hs.cold i cs h1 (hh.imp (fun q => q) (hown _))
    · rcases hh with hx | ⟨j, hj, e⟩
      · exact hs.out i hl hx
      · have : j = i := hs.inj j i (hlive j hj) hl e
        subst this
        obtain ⟨b, hjb, hbl⟩ := hj
        rw [hi] at hjb
        cases hjb
        cases hbl
  · intro i b' hi
    rcases hb i b' hi with rfl | h1 | ⟨cs, rfl, _, h2⟩
    · trivial
    · exact (hs.blk i b' h1).step hstep (fun _ _ => rfl) hlen'
    · exact h2.step (Step.refl w (own ρ h')) (fun _ _ => rfl) hlen'

/-- A block is given up. -/
theorem ext_kill {G : Nat → Option (List Value)} {w : World} {X : Nat → Prop} {ρ : Nat → Nat} {h : Hp} (hs : Sim G w X ρ h) (id : Nat) : Ext G w X ρ h w ρ (h.set id Blk.dead) := by
  refine ext_less hs _ (by simp) fun i b hi => ?_
  by_cases e : id = i
  · subst e
    rw [List.getElem?_set_self'] at hi
    cases hq : h[id]? <;> simp [hq] at hi
    exact .inl hi.symm
  · rw [List.getElem?_set_ne e] at hi
    exact .inr (.inl hi)

/-- A block is given a new name. -/
theorem ext_rename {G : Nat → Option (List Value)} {w : World} {X : Nat → Prop} {ρ : Nat → Nat} {h : Hp} (hs : Sim G w X ρ h) (id : Nat) (cs : List AV) (hid : h[id]? = some (.row cs)) :
    Ext G w X ρ h w (fun i => if i = h.length then ρ id else ρ i) (h.set id Blk.dead ++ [Blk.row cs]) := by
  have hlt : id < h.length := (List.getElem?_eq_some_iff.1 hid).1
  have hlen : (h.set id Blk.dead).length = h.length := by simp
  have hcase : ∀ (i : Nat) (b : Blk), (h.set id Blk.dead ++ [Blk.row cs])[i]? = some b → b ≠ .dead → (i < h.length ∧ i ≠ id ∧ h[i]? = some b) ∨ (i = h.length ∧ b = .row cs) := by
    intro i b hi hd
    by_cases hil : i < h.length
    · rw [List.getElem?_append_left (by omega)] at hi
      by_cases e : id = i
      · subst e
        simp [hlt] at hi
        exact absurd hi.symm hd
      · rw [List.getElem?_set_ne e] at hi
        exact .inl ⟨hil, fun e' => e e'.symm, hi⟩
    · have : i < (h.set id Blk.dead ++ [Blk.row cs]).length := (List.getElem?_eq_some_iff.1 hi).1
      have he : i = h.length := by simp at this; omega
      subst he
      rw [List.getElem?_append_right (by omega)] at hi
      simp at hi
      exact .inr ⟨rfl, hi.symm⟩
  have hlid : live h id := ⟨_, hid, rfl⟩
  have hlive : ∀ i, live (h.set id Blk.dead ++ [Blk.row cs]) i → (i < h.length ∧ i ≠ id ∧ live h i) ∨ i = h.length := by
    rintro i ⟨b, hb, hd⟩
    rcases hcase i b hb (fun e => by subst e; cases hd) with ⟨h1, h2, h3⟩ | ⟨h1, _⟩
    · exact .inl ⟨h1, h2, b, h3, hd⟩
    · exact .inr h1
  have hown : ∀ b, own (fun i => if i = h.length then ρ id else ρ i) (h.set id Blk.dead ++ [Blk.row cs]) b → own ρ h b := by
    rintro b ⟨i, hi, e⟩
    rcases hlive i hi with ⟨h1, _, h3⟩ | rfl
    · exact ⟨i, h3, by simpa [Nat.ne_of_lt h1] using e⟩
    · exact ⟨id, hlid, by simpa using e⟩
  have hstep : Step w (own ρ h) w (own (fun i => if i = h.length then ρ id else ρ i) (h.set id Blk.dead ++ [Blk.row cs])) :=
    ⟨rfl, rfl, rfl, Nat.le_refl _, fun _ _ _ => rfl, fun _ _ _ _ hb => ⟨_, _, _, hb, rfl⟩, fun b _ => hown b⟩
  have hrho : ∀ i, i < h.length → (fun i => if i = h.length then ρ id else ρ i) i = ρ i := fun i hi => by simp [Nat.ne_of_lt hi]
  refine ⟨⟨hs.xlt, fun g row hg => ?_, fun i j hi hj hij => ?_, fun i hi => ?_, ?_, ?_⟩, hrho, by simp, hstep⟩
  · obtain ⟨h1, c, t', fz, h2, h3⟩ := hs.glob g row hg
    exact ⟨fun hh => h1 (hstep.kept.less g (heap_lt h2) hh), c, t', fz, h2, h3⟩
  · rcases hlive i hi with ⟨i1, i2, i3⟩ | rfl <;> rcases hlive j hj with ⟨j1, j2, j3⟩ | rfl
    · simp [Nat.ne_of_lt i1, Nat.ne_of_lt j1] at hij
      exact hs.inj i j i3 j3 hij
    · simp [Nat.ne_of_lt i1] at hij
      exact absurd (hs.inj i id i3 hlid hij) i2
    · simp [Nat.ne_of_lt j1] at hij
      exact absurd (hs.inj j id j3 hlid hij.symm) j2
    · rfl
  · rcases hlive i hi with ⟨i1, _, i3⟩ | rfl
    · simpa [Nat.ne_of_lt i1] using hs.out i i3
    · simpa using hs.out id hlid
  · intro i cs' hi hh
    rcases hcase i _ hi (by simp) with ⟨i1, _, i3⟩ | ⟨_, e⟩
    · simp only [Nat.ne_of_lt i1, if_false] at hh
      exact hs.cold i cs' i3 (hh.imp (fun q => q) (hown _))
    · cases e
  · intro i b hi
    by_cases hd : b = .dead
    · subst hd; trivial
    · rcases hcase i b hi hd with ⟨i1, _, i3⟩ | ⟨rfl, rfl⟩
      · simp only [Nat.ne_of_lt i1, if_false]
        exact (hs.blk i b i3).step hstep hrho (by simp)
      · simp only [if_true]
        exact (hs.blk id _ hid).step hstep hrho (by simp)

/-- Draws turn no block. -/
theorem ext_drawn {G : Nat → Option (List Value)} {w : World} {X : Nat → Prop} {ρ : Nat → Nat} {h : Hp} (hs : Sim G w X ρ h) (k : Nat) : Ext G w X ρ h { w with drawn := k } ρ h := by
  have hstep : Step w (own ρ h) { w with drawn := k } (own ρ h) := ⟨rfl, rfl, rfl, Nat.le_refl _, fun _ _ _ => rfl, fun _ _ _ _ hb => ⟨_, _, _, hb, rfl⟩, fun _ _ hh => hh⟩
  exact ⟨⟨hs.xlt, hs.glob, hs.inj, hs.out, hs.cold, fun i b hi => (hs.blk i b hi).step hstep (fun _ _ => rfl) (Nat.le_refl _)⟩, fun _ _ => rfl, Nat.le_refl _, hstep⟩

end Go.Ae

/-
  The abstract evaluator, part 2: its tables, and the evaluator itself.
-/
namespace Go.Ae
open Go

/-- How the values of a type lie. -/
inductive Kd where
  | prim
  | struct (fs : List (Nat × Nat × Bool))
  | slice (esz : Nat) (eagg : Bool) (ebytes : Nat) (ezero : List Value)
  | array (n esz : Nat) (eagg : Bool)
structure Ti where
  size : Nat
  agg : Bool
  zero : List Value
  kd : Kd
/-- A function: its slots, its body, the slots of its results. -/
inductive Rv where
  | tmp (t : Nat)
  | cell (a sz : Nat) (agg : Bool)
structure Fi where
  ntmps : Nat
  body : Code
  res : List Rv

structure Cx where
  P : Program
  T : TypeId → Option Ti
  G : Nat → Option (List Value)
  F : FuncId → Option Fi
  inl : FuncId → Bool
  tab : FuncId → List AV → Option AV
  /-- 'slices.Sorted' at the iterator of 'maps.Keys'; the keys' type -/
  srt : FuncId → Option (FuncId × TypeId)
  /-- a deferred closure that turns a panic of this type into a result -/
  rcv : FuncId → Option TypeId
  /-- operations that make memory which nobody writes: they yield what is never written at once -/
  cold : Oper → Bool
  /-- functions without a body that only reckon -/
  ext : FuncId → Bool
  fuel : Nat

/-- What needs no world. -/
def runPure (P : Program) {α : Type} : Sem α → Option α
  | .pure a => some a
  | .program k => runPure P (k P)
  | .mark _ k => runPure P k
  | _ => none

def ofConst : Value → AV
  | .agg cs => if cs.toList.all flat then .ag (cs.toList.map .sc) else .ud
  | v => if flat v then .sc v else .ud

def ev (C : Cx) (fr : List AV) : Operand → AV
  | .tmp t => fr.getD t .ud
  | .const v => ofConst v
  | .global g => match C.G g with | some row => .rp (row.map gav) 0 | none => .ud
  | .func f => .fn f []

def cls : AV → Option (List AV)
  | .ag xs => some xs
  | .ud | .un | .tp _ | .pn _ => none
  | x => some [x]

def part (agg : Bool) (off sz : Nat) (cs : List AV) : Option AV :=
  if agg then (if off + sz ≤ cs.length then some (.ag ((cs.drop off).take sz)) else none) else cs[off]?

def splice (cs : List AV) (off : Nat) (vs : List AV) : List AV := cs.take off ++ vs ++ cs.drop (off + vs.length)

def fillA (place : Nat → Option (Nat × Nat)) : List AV → List (Nat × AV) → Option (List AV)
  | cells, [] => some cells
  | cells, (i, x) :: rest =>
    match place i, cls x with
    | some (off, size), some cs => if cs.length = size ∧ off + size ≤ cells.length then fillA place (splice cells off cs) rest else none
    | _, _ => none

def isSc : AV → Bool | .sc _ => true | _ => false
def scOf : AV → Value | .sc v => v | _ => undef

/-- A value that is known to the last cell. -/
def isDet : AV → Bool
  | .sc _ => true
  | .fn _ [] => true
  | .ag xs => xs.all isSc
  | _ => false
def detOf : AV → Value
  | .sc v => v
  | .fn f [] => .func (.func f) #[] #[]
  | .ag xs => .agg (xs.map scOf).toArray
  | _ => undef

def ofResult : Value → Option AV
  | .tuple vs => if vs.toList.all flat then some (.tp (vs.toList.map .sc)) else none
  | .agg vs => if vs.toList.all flat then some (.ag (vs.toList.map .sc)) else none
  | v => if flat v then some (.sc v) else none

def isSelect : Op → Bool | .select .. => true | _ => false

/-- Arithmetic that stays within its kind. -/
def fitI (k : IntKind) (n : Int) : Int :=
  match k with
  | .i64 => if -9223372036854775808 ≤ n ∧ n ≤ 9223372036854775807 then n else k.wrap n
  | .u64 => if 0 ≤ n ∧ n ≤ 18446744073709551615 then n else k.wrap n
  | _ => k.wrap n
def intOp (op : BinOp) (k : IntKind) (a b : Int) : Option Value :=
  match op with
  | .add => some (.int k (fitI k (a + b)))
  | .sub => some (.int k (fitI k (a - b)))
  | .mul => some (.int k (fitI k (a * b)))
  | .quo => if b = 0 then none else some (.int k (fitI k (a.tdiv b)))
  | .rem => if b = 0 then none else some (.int k (a.tmod b))
  | .eql => some (.bool (decide (a = b)))
  | .neq => some (.bool !(decide (a = b)))
  | .lss => some (.bool (decide (a < b)))
  | .leq => some (.bool (decide (a ≤ b)))
  | .gtr => some (.bool (decide (a > b)))
  | .geq => some (.bool (decide (a ≥ b)))
  | .and => if k = .u64 ∧ 0 ≤ a ∧ a ≤ 18446744073709551615 ∧ 0 ≤ b ∧ b ≤ 18446744073709551615 then some (.int k (a.toNat &&& b.toNat : Nat)) else none
  | .or => if k = .u64 ∧ 0 ≤ a ∧ a ≤ 18446744073709551615 ∧ 0 ≤ b ∧ b ≤ 18446744073709551615 then some (.int k (a.toNat ||| b.toNat : Nat)) else none
  | _ => none
def binFast (op : BinOp) (k : IntKind) (a : Int) (k' : IntKind) (b : Int) : Option Value :=
  match op with
  | .shr => if 0 ≤ b ∧ b ≤ k.bits then some (.int k (a / (2 ^ b.toNat : Nat))) else none
  | op => if k = k' then intOp op k a b else none
def eqS (x y : ByteArray) : Bool := x.data.toList == y.data.toList
def ltS (x y : ByteArray) : Bool := Op.bytesLess x.data.toList y.data.toList
def strOp (op : BinOp) (x y : ByteArray) : Option Value :=
  match op with
  | .eql => some (.bool (eqS x y))
  | .neq => some (.bool !(eqS x y))
  | .lss => some (.bool (ltS x y))
  | .leq => some (.bool (ltS x y || eqS x y))
  | .gtr => some (.bool !(ltS x y || eqS x y))
  | .geq => some (.bool !(ltS x y))
  | _ => none
def isSlT (C : Cx) (t : TypeId) : Bool := match C.P.underlying t with | some (.slice _) => true | _ => false
def isStr (C : Cx) (t : TypeId) : Bool := match C.P.underlying t with | some .string => true | _ => false
/-- The commonest operations on numbers and strings. -/
def fastOp (C : Cx) (e : Operand → AV) (o : Oper) : Option AV :=
  match o.op with
  | .binOp op t x y _ => match e x, e y with
    | .sc (.bool a), .sc (.bool b) => (match C.P.underlying t, op with
      | some .bool, .eql => some (.sc (.bool (a == b)))
      | some .bool, .neq => some (.sc (.bool (a != b)))
      | _, _ => none)
    | .sc (.int k a), .sc (.int k' b) => (binFast op k a k' b).map .sc
    | .sc (.string a), .sc (.string b) => (strOp op a b).map .sc
    | _, _ => none
  | .unOp .not _ x => match e x with
    | .sc (.bool b) => some (.sc (.bool !b))
    | _ => none
  | .unOp .neg _ x => match e x with
    | .sc (.int k n) => (intOp .sub k 0 n).map .sc
    | _ => none
  | .convert src dst x => match e x with
    | .sc (.int _ n) => match C.P.underlying src, C.P.underlying dst with
      | some (.int _), some (.int k) => some (.sc (.int k (fitI k n)))
      | _, _ => none
    | _ => none
  | .index t x ix => match e x, e ix with
    | .sc (.string s), .sc (.int _ i) => if isStr C t ∧ 0 ≤ i then (s.data.toList[i.toNat]?).map fun b => .sc (.int .u8 b.toNat) else none
    | _, _ => none
  | .call { callee := .builtin .len, args, argTypes } => match args.toList, argTypes.toList with
    | [x], [t] => match e x with
      | .sc (.string s) => if isStr C t then some (.sc (.int .i64 s.size)) else none
      | .sc (.slice none 0 0) => if isSlT C t then some (.sc (.int .i64 0)) else none
      | _ => none
    | _, _ => none
  | .call { callee := .builtin .max, args, .. } => match args.toList with
    | [x, y] => match e x, e y with
      | .sc (.int k a), .sc (.int _ b) => some (.sc (.int k (if b > a then b else a)))
      | _, _ => none
    | _ => none
  | .call { callee := .builtin .min, args, .. } => match args.toList with
    | [x, y] => match e x, e y with
      | .sc (.int k a), .sc (.int _ b) => some (.sc (.int k (if b < a then b else a)))
      | _, _ => none
    | _ => none
  | _ => none

/-- An operation whose operands are all without addresses, carried out by the model itself. -/
def slowOp (C : Cx) (e : Operand → AV) (o : Oper) : Option AV :=
  if !isSelect o.op && o.op.operands.toList.all fun x => isDet (e x) then
    match runPure C.P (execOp (fun x => detOf (e x)) o) with
    | some (.value v) => ofResult v
    | _ => none
  else none
def scalarOp (C : Cx) (e : Operand → AV) (o : Oper) : Option AV :=
  match fastOp C e o with
  | some r => some r
  | none => slowOp C e o

/-- The cells of a block that may be read. -/
def rowOf (h : Hp) (id : Nat) : Option (List AV) :=
  match h[id]? with
  | some (.row cs) => some cs
  | some (.ice cs) => some cs
  | _ => none

/-- The cells of a slice's elements. -/
def newsOf (h : Hp) : AV → Option (Nat × List AV)
  | .sc (.slice none 0 0) => some (0, [])
  | .ls _ rows _ => some (rows.length, rows.flatten)
  | .sl id sz off len _ => match rowOf h id with
    | some cs => if off + len * sz ≤ cs.length then some (len, (cs.drop off).take (len * sz)) else none
    | none => none
  | _ => none

def szOk (sz : Nat) : AV → Bool
  | .sc _ => true
  | .ls s _ _ => s == sz
  | .sl _ s _ _ _ => s == sz
  | _ => false

def appendA (C : Cx) (h : Hp) (t : TypeId) (s x : AV) : Option (AV × Hp) :=
  match C.T t with
  | some { kd := .slice sz _ bytes _, .. } =>
    if szOk sz s && szOk sz x then
      match newsOf h x with
      | some (m, news) =>
        if m = 0 then (match s with | .sc (.slice none 0 0) | .ls .. | .sl .. => some (s, h) | _ => none)
        else match s with
          | .sc (.slice none 0 0) => if m ≤ maxLen ∧ m * bytes ≤ 140737488355328 then some (.sl h.length sz 0 m false, h ++ [.row news]) else none
          | .ls _ rows true => if rows.length + m ≤ maxLen ∧ (rows.length + m) * bytes ≤ 140737488355328 then some (.sl h.length sz 0 (rows.length + m) false, h ++ [.row (rows.flatten ++ news)]) else none
          | .sl id _ off len true => match rowOf h id with
            | some cs =>
              if off + len * sz ≤ cs.length ∧ len + m ≤ maxLen ∧ (len + m) * bytes ≤ 140737488355328 then some (.sl h.length sz 0 (len + m) false, h ++ [.row ((cs.drop off).take (len * sz) ++ news)])
              else none
            | none => none
          | .sl id _ off len false => match h[id]? with
            | some (.row cs) =>
              if off + (len + m) * sz ≤ cs.length then some (.sl id sz off (len + m) false, h.set id (.row (splice cs (off + len * sz) news)))
              else if off = 0 ∧ cs.length = len * sz ∧ len + m ≤ maxLen ∧ (len + m) * bytes ≤ 140737488355328 then some (.sl h.length sz 0 (len + m) false, h.set id .dead ++ [.row (cs ++ news)])
              else none
            | _ => none
          | _ => none
      | none => none
    else none
  | _ => none

def copyA (C : Cx) (h : Hp) (t : TypeId) (d x : AV) : Option (AV × Hp) :=
  match C.T t with
  | some { kd := .slice sz .., .. } =>
    if szOk sz d && szOk sz x then
      match newsOf h x, d with
      | some (m, news), .sl id _ off len _ => match h[id]? with
        | some (.row cs) => if off + min m len * sz ≤ cs.length then some (.sc (.int .i64 (min m len : Nat)), h.set id (.row (splice cs off (news.take (min m len * sz))))) else none
        | _ => none
      | some (_, _), .ls _ [] _ => some (.sc (.int .i64 0), h)
      | some (_, _), .sc (.slice none 0 0) => some (.sc (.int .i64 0), h)
      | _, _ => none
    else none
  | _ => none

def lenA : AV → Option Nat
  | .ls _ rows _ => some rows.length
  | .sl _ _ _ len _ => some len
  | _ => none

def natOf : AV → Option Nat
  | .sc (.int _ i) => if 0 ≤ i then some i.toNat else none
  | _ => none
def boundA (d : Nat) : Option AV → Option Nat
  | none => some d
  | some x => natOf x

def sliceA (x : AV) (lo hi mx : Option AV) : Option AV :=
  match lenA x with
  | some len => match boundA 0 lo, boundA len hi, mx with
    | some l, some h, none =>
      if l ≤ h ∧ h ≤ len then match x with
        | .ls sz rows z => some (.ls sz ((rows.drop l).take (h - l)) (z && h == len))
        | .sl id sz off _ k => if l = h then some (.ls sz [] (k && h == len)) else if k && h != len then none else some (.sl id sz (off + l * sz) (h - l) k)
        | _ => none
      else none
    | some l, some h, some m => match natOf m with
      | some m => if l ≤ h ∧ h = m ∧ m ≤ len ∧ hi.isSome then (match x with
        | .ls sz rows _ => some (.ls sz ((rows.drop l).take (h - l)) true)
        | .sl id sz off _ _ => if l = h then some (.ls sz [] true) else some (.sl id sz (off + l * sz) (h - l) true)
        | _ => none) else none
      | none => none
    | _, _, _ => none
  | none => none

/-- Is it other than nil, for certain? -/
def someA : AV → Bool
  | .ls _ (_ :: _) _ | .sl .. => true
  | _ => false
def isNilC : Operand → Bool
  | .const (.slice none 0 0) => true
  | _ => false

/-- The bytes that cells hold. -/
def byteA : AV → Option UInt8
  | .sc (.int .u8 i) => if 0 ≤ i ∧ i < 256 then some (UInt8.ofNat i.toNat) else none
  | _ => none

def isU8 (C : Cx) (t : TypeId) : Bool :=
  match C.P.underlying t with
  | some (.slice e) => (match C.P.underlying e with | some (.int .u8) => true | _ => false)
  | _ => false
/-- A map's type, by its keys: strings. -/
def isMapS (C : Cx) (t : TypeId) : Bool :=
  match C.P.underlying t with
  | some (.map kt _) => isStr C kt
  | _ => false

def strKey : Value × AV → Bool
  | (.string _, _) => true
  | _ => false
def keyB (s : ByteArray) : Value → Bool
  | .string a => s == a
  | _ => false
/-- Where a key lies. -/
def keyIx (s : ByteArray) : List (Value × AV) → Nat → Option Nat
  | [], _ => none
  | (j, _) :: es, i => bif keyB s j then some i else keyIx s es (i + 1)

/-- No way into own blocks. -/
def calm : AV → Bool
  | .sc _ | .ls .. | .rp .. => true
  | .ag xs => xs.all fun | .sc _ | .ls .. | .rp .. => true | _ => false
  | .fn _ xs => xs.all fun | .sc _ | .ls .. | .rp .. => true | _ => false
  | _ => false

/-- Cells, by rows. -/
def chunk (sz len : Nat) (cs : List AV) : List (List AV) := (List.range len).map fun i => (cs.drop (i * sz)).take sz
/-- An operation that makes memory which nobody writes. -/
def coldA (C : Cx) (e : Operand → AV) (h : Hp) (o : Oper) : Option (AV × Hp) :=
  match o.op with
  | .buildSlice t len parts => match C.T t with
    | some { kd := .slice sz _ _ ez, .. } =>
      if len * sz ≤ 16777216 then match fillA (fun i => some (i * sz, sz)) ((List.range len).flatMap fun _ => ez.map .sc) (parts.toList.map fun p => (p.1, e p.2)) with
        | some cs => if cs.all calm then some (.ls sz (chunk sz len cs) true, h) else none
        | none => none
      else none
    | _ => none
  | .makeSlice t l c => match C.T t, natOf (e l), natOf (e c) with
    | some { kd := .slice sz _ bytes ez, .. }, some n, some m =>
      if n = m ∧ n ≤ maxLen ∧ n * bytes ≤ 140737488355328 then some (.ls sz (chunk sz n ((List.range n).flatMap fun _ => ez.map .sc)) true, h) else none
    | _, _, _ => none
  | .call { callee := .builtin .append, args, argTypes } => match args.toList, argTypes.toList with
    | [s, x], [t, t'] => if t = t' then (match C.T t with
      | some { kd := .slice sz _ bytes _, .. } => if szOk sz (e s) && szOk sz (e x) then (match newsOf h (e x), e s with
        | some (m, news), .ls s0 [] z => if m = 0 then some (.ls s0 [] z, h) else if m ≤ maxLen ∧ m * bytes ≤ 140737488355328 ∧ z = true ∧ news.all calm = true then some (.ls sz (chunk sz m news) false, h) else none
        | _, _ => none) else none
      | _ => none) else none
    | _, _ => none
  | _ => none

def aopW (C : Cx) (call : FuncId → List AV → Hp → Option (AV × Hp)) (e : Operand → AV) (h : Hp) (o : Oper) : Option (AV × Hp) :=
  match o.op with
  | .move x | .assign x => some (e x, h)
  | .pick c a b => match e c with
    | .sc (.bool t) => some (bif t then e a else e b, h)
    | _ => none
  | .alloc t => match C.T t with
    | some i => some (.pt h.length 0, h ++ [.row (i.zero.map .sc)])
    | none => none
  | .box t x => match C.T t, cls (e x) with
    | some i, some cs => if cs.length = i.size then some (.pt h.length 0, h ++ [.row cs]) else none
    | _, _ => none
  | .build t parts => match C.T t with
    | some { zero, kd := .struct fs, .. } => (fillA (fun i => (fs[i]?).map fun f => (f.1, f.2.1)) (zero.map .sc) (parts.toList.map fun p => (p.1, e p.2))).map fun cs => (.ag cs, h)
    | some { zero, kd := .array _ esz _, .. } => (fillA (fun i => some (i * esz, esz)) (zero.map .sc) (parts.toList.map fun p => (p.1, e p.2))).map fun cs => (.ag cs, h)
    | _ => none
  | .buildSlice t len parts => match C.T t with
    | some { kd := .slice sz _ _ ez, .. } =>
      if len * sz ≤ 16777216 then
        (fillA (fun i => some (i * sz, sz)) ((List.range len).flatMap fun _ => ez.map .sc) (parts.toList.map fun p => (p.1, e p.2))).map fun cs => (.sl h.length sz 0 len false, h ++ [.row cs])
      else none
    | _ => none
  | .load t x => match C.T t, e x with
    | some i, .pt id off => match rowOf h id with
      | some cs => (part i.agg off i.size cs).map fun y => (y, h)
      | none => none
    | some i, .rp row j => (part i.agg j i.size row).map fun y => (y, h)
    | _, _ => none
  | .store t x y => match C.T t, e x, cls (e y) with
    | some i, .pt id off, some vs => match h[id]? with
      | some (.row cs) => if vs.length = i.size ∧ off + i.size ≤ cs.length then some (.un, h.set id (.row (splice cs off vs))) else none
      | _ => none
    | _, _, _ => none
  | .nilCheck x => match e x with
    | .pt id off => some (.pt id off, h)
    | .rp row j => some (.rp row j, h)
    | .fn f cs => some (.fn f cs, h)
    | _ => none
  | .fieldAddr t x f => match C.T t with
    | some { kd := .struct fs, .. } => match fs[f]?, e x with
      | some (o, sz, _), .pt id off => if sz = 0 then none else some (.pt id (off + o), h)
      | some (o, sz, _), .rp row j => if sz = 0 then none else some (.rp row (j + o), h)
      | _, _ => none
    | _ => none
  | .indexAddr t x ix => match C.T t, natOf (e ix) with
    | some { kd := .slice sz .., .. }, some i => match e x with
      | .sl id s off len _ => if s = sz ∧ i < len then some (.pt id (off + i * sz), h) else none
      | .ls s rows _ => if s = sz then (rows[i]?).map fun row => (.rp row 0, h) else none
      | _ => none
    | some { kd := .array n sz _, .. }, some i => match e x with
      | .pt id off => if i < n then some (.pt id (off + i * sz), h) else none
      | .rp row j => if i < n then some (.rp row (j + i * sz), h) else none
      | _ => none
    | _, _ => none
  | .field t x f => match C.T t, e x with
    | some { kd := .struct fs, .. }, .ag cs => match fs[f]? with
      | some (off, sz, agg) => (part agg off sz cs).map fun y => (y, h)
      | none => none
    | _, _ => none
  | .index t x ix => match C.T t, e x with
    | some { kd := .array n sz agg, .. }, .ag cs => match natOf (e ix) with
      | some i => if i < n then (part agg (i * sz) sz cs).map fun y => (y, h) else none
      | none => none
    | _, _ => (scalarOp C e o).map fun y => (y, h)
  | .extract x i => match e x with
    | .tp vs => (vs[i]?).map fun y => (y, h)
    | _ => none
  | .makeFunc (.func f) first caps => if first.isEmpty then some (.fn f (caps.toList.map e), h) else none
  | .makeSlice t l c => match C.T t, natOf (e l), natOf (e c) with
    | some { kd := .slice sz _ bytes ez, .. }, some n, some m =>
      if n = m ∧ n ≤ maxLen ∧ n * bytes ≤ 140737488355328 then some (.sl h.length sz 0 n false, h ++ [.row ((List.range n).flatMap fun _ => ez.map .sc)]) else none
    | _, _, _ => none
  | .slice t x lo hi mx => match e x with
    | .sc _ => (scalarOp C e o).map fun y => (y, h)
    | y => match C.T t with
      | some { kd := .slice sz .., .. } => if szOk sz y then (sliceA y (lo.map e) (hi.map e) (mx.map e)).map fun y => (y, h) else none
      | _ => none
  | .binOp op t x y _ => if isSlT C t && isNilC y && someA (e x) then (match op with
      | .eql => some (.sc (.bool false), h)
      | .neq => some (.sc (.bool true), h)
      | _ => none) else (scalarOp C e o).map fun y => (y, h)
  | .convert src dst x => match e x with
    | .sc (.string s) => if isStr C src && isU8 C dst then (if s.size ≤ maxLen then some (.sl h.length 1 0 s.size false, h ++ [.row (s.data.toList.map fun b => .sc (.int .u8 b.toNat))]) else none) else (scalarOp C e o).map fun y => (y, h)
    | .sl id 1 off len k => if isStr C dst && isU8 C src then (match newsOf h (.sl id 1 off len k) with
      | some (_, news) => (news.mapM byteA).map fun bs => (.sc (.string ⟨bs.toArray⟩), h)
      | none => none) else none
    | _ => (scalarOp C e o).map fun y => (y, h)
  | .makeMap t none => if isMapS C t then some (.mp h.length, h ++ [.map [] 0]) else none
  | .mapUpdate t m k x => match e m, e k, e x with
    | .mp id, .sc (.string s), y => if isMapS C t then (match h[id]? with
      | some (.map es clock) => if es.all strKey then (match keyIx s es 0 with
        | some i => some (.un, h.set id (.map (es.set i (.string s, y)) clock))
        | none => some (.un, h.set id (.map (es ++ [(.string s, y)]) (clock + 1)))) else none
      | _ => none) else none
    | _, _, _ => none
  | .range t x => match e x with
    | .sc (.string s) => if isStr C t then some (.pt h.length 0, h ++ [.iter s 0]) else none
    | _ => none
  | .next x true => match e x with
    | .pt id 0 => match h[id]? with
      | some (.iter s pos) => if pos < s.size then some (.tp [.sc (.bool true), .sc (.int .i64 pos), .sc (.int .i32 (Utf8.decode s pos).1)], h.set id (.iter s (pos + (Utf8.decode s pos).2))) else some (.tp [.sc (.bool false)], h)
      | _ => none
    | _ => none
  | .panic x => match e x with
    | .sc (.iface t v) => some (.pn (.iface t v), h)
    | _ => none
  | .call { callee := .value f, args, .. } => match e f with
    | .fn g caps => if C.ext g then (scalarOp C e o).map fun y => (y, h) else call g (args.toList.map e ++ caps) h
    | _ => none
  | .call { callee := .builtin .append, args, argTypes } => match args.toList, argTypes.toList with
    | [s, x], [t, t'] => if t = t' then appendA C h t (e s) (e x) else none
    | _, _ => none
  | .call { callee := .builtin .copy, args, argTypes } => match args.toList, argTypes.toList with
    | [s, x], [t, t'] => if t = t' then copyA C h t (e s) (e x) else none
    | _, _ => none
  | .call { callee := .builtin .len, args, argTypes } => match args.toList, argTypes.toList with
    | [x], [t] => match lenA (e x), C.T t with
      | some n, some { kd := .slice .., .. } => some (.sc (.int .i64 n), h)
      | _, _ => (scalarOp C e o).map fun y => (y, h)
    | _, _ => none
  | _ => (scalarOp C e o).map fun y => (y, h)

def aop (C : Cx) (call : FuncId → List AV → Hp → Option (AV × Hp)) (e : Operand → AV) (h : Hp) (o : Oper) : Option (AV × Hp) :=
  if C.cold o then coldA C e h o else aopW C call e h o

/-- Is operation o carried out? -/
def wantA (ops : Array Oper) (fr : List AV) (o : Oper) : Option Bool :=
  match o.guard with
  | none => some true
  | some (j, w) => match (ops[j]?).bind (·.dst) with
    | none => some false
    | some d => match fr[d]? with
      | some (.sc (.bool b)) => some (b == w)
      | some .un => some false
      | _ => none

def putA (o : Oper) (fr : List AV) (v : AV) : List AV := match o.dst with | some d => fr.set d v | none => fr

abbrev St := List AV × Hp

def step1 (C : Cx) (call : FuncId → List AV → Hp → Option (AV × Hp)) (ops : Array Oper) (o : Oper) (s : St) : Option St :=
  match wantA ops s.1 o with
  | some true => match aop C call (ev C s.1) s.2 o with
    | some (.pn _, _) => none
    | some (v, h) => some (putA o s.1 v, h)
    | none => none
  | some false => some (putA o s.1 .un, s.2)
  | none => none

def runOps (C : Cx) (call : FuncId → List AV → Hp → Option (AV × Hp)) (ops : Array Oper) : List Oper → St → Option St
  | [], s => some s
  | o :: rest, s => match step1 C call ops o s with
    | some s' => runOps C call ops rest s'
    | none => none

/-! ### the static look at a region that draws its order -/
def maskOf (acc : List Nat) (o : Oper) : Nat := o.after.toList.foldl (fun s e => if Region.binds .any e then s ||| 2 ^ e.on ||| acc.getD e.on 0 else s) 0
def masks : List Oper → List Nat → List Nat
  | [], acc => acc
  | o :: rest, acc => masks rest (acc ++ [maskOf acc o])

/-- It may turn the own heap. -/
def changerW (C : Cx) (o : Oper) : Bool :=
  match o.op with
  | .move _ | .assign _ | .pick .. | .build .. | .load .. | .nilCheck _ | .fieldAddr .. | .indexAddr .. | .field .. | .index .. | .extract .. | .slice .. | .binOp .. | .unOp .. | .makeInterface .. | .typeAssert .. => false
  | .convert src dst _ => isStr C src && isU8 C dst
  | .makeFunc (.func _) _ _ => false
  | .call { callee := .builtin .len, .. } | .call { callee := .builtin .min, .. } | .call { callee := .builtin .max, .. } => false
  | .call { callee := .value (.func g), .. } => C.inl g
  | _ => true
def changer (C : Cx) (o : Oper) : Bool := !C.cold o && changerW C o
/-- It may look at the own heap. -/
def toucherW (C : Cx) (o : Oper) : Bool :=
  match o.op with
  | .move _ | .assign _ | .pick .. | .build .. | .nilCheck _ | .fieldAddr .. | .indexAddr .. | .field .. | .index .. | .extract .. | .slice .. | .binOp .. | .unOp .. | .makeInterface .. | .typeAssert .. => false
  | .convert src dst _ => (isStr C src && isU8 C dst) || (isStr C dst && isU8 C src)
  | .makeFunc (.func _) _ _ => false
  | .call { callee := .builtin .len, .. } | .call { callee := .builtin .min, .. } | .call { callee := .builtin .max, .. } => false
  | _ => true

def toucher (C : Cx) (o : Oper) : Bool := C.cold o || toucherW C o

def ordered (ms : List Nat) (i j : Nat) : Bool := if i < j then (ms.getD j 0).testBit i else (ms.getD i 0).testBit j


/-! ### when two abstract values are the same -/
def eqV : Value → Value → Bool
  | .bool a, .bool b => a == b
  | .int k a, .int j b => decide (k = j) && decide (a = b)
  | .string a, .string b => a == b
  | .pointer none, .pointer none => true
  | .slice none 0 0, .slice none 0 0 => true
  | .map none, .map none => true
  | .nilFunc, .nilFunc => true
  | .nilIface, .nilIface => true
  | _, _ => false
def eqL {α : Type} (f : α → α → Bool) : List α → List α → Bool
  | [], [] => true
  | x :: xs, y :: ys => f x y && eqL f xs ys
  | _, _ => false
def eqA : Nat → AV → AV → Bool
  | _, .sc v, .sc u => eqV v u
  | _, .sl a b c d k, .sl a' b' c' d' k' => decide (a = a') && decide (b = b') && decide (c = c') && decide (d = d') && (k == k')
  | _, .pt a b, .pt a' b' => decide (a = a') && decide (b = b')
  | _, .mp a, .mp a' => decide (a = a')
  | n + 1, .ls sz rows z, .ls sz' rows' z' => decide (sz = sz') && (z == z') && eqL (eqL (eqA n)) rows rows'
  | n + 1, .rp row j, .rp row' j' => decide (j = j') && eqL (eqA n) row row'
  | n + 1, .fn f xs, .fn f' xs' => decide (f = f') && eqL (eqA n) xs xs'
  | n + 1, .ag xs, .ag ys => eqL (eqA n) xs ys
  | n + 1, .tp xs, .tp ys => eqL (eqA n) xs ys
  | _, _, _ => false

/-- The states of a region, in the order of its text. -/
def runOpsL (C : Cx) (call : FuncId → List AV → Hp → Option (AV × Hp)) (ops : Array Oper) : List Oper → St → Option (List St)
  | [], s => some [s]
  | o :: rest, s => match step1 C call ops o s with
    | some s' => (runOpsL C call ops rest s').map (s :: ·)
    | none => none
def cc (C : Cx) (ops : Array Oper) (m : Nat) : Nat := ((ops.toList.take m).filter (changer C)).length
def isCh (C : Cx) (ops : Array Oper) (i : Nat) : Bool := match ops[i]? with | some o => changer C o | none => false
def chMask (C : Cx) (ops : Array Oper) : Nat := (List.range ops.size).foldl (fun s i => cond (isCh C ops i) (s ||| 2 ^ i) s) 0
/-- One behind the last changer that must come ahead of operation j. -/
def befN (C : Cx) (ops : Array Oper) (ms : List Nat) (j : Nat) : Nat := cond (Nat.beq (ms.getD j 0 &&& chMask C ops) 0) 0 (Nat.log2 (ms.getD j 0 &&& chMask C ops) + 1)
/-- The first changer that must come behind operation j. -/
def aftN (C : Cx) (ops : Array Oper) (ms : List Nat) (j : Nat) : Nat := ((List.range ops.size).find? fun i => isCh C ops i && (ms.getD i 0).testBit j).getD ops.size
/-- May operation j come up when just the changers ahead of m have? -/
def mayRun (C : Cx) (ops : Array Oper) (ms : List Nat) (j m : Nat) : Bool := Nat.ble (befN C ops ms j) m && Nat.ble m (aftN C ops ms j)
/-- Is it the first state, or has a changer just come up? -/
def atChange (C : Cx) (ops : Array Oper) (m : Nat) : Bool := m == 0 || (match ops[m - 1]? with | some o' => changer C o' | none => false)
/-- The states that operation j, which turns no own block, may meet, other than in the order of the text. -/
def needs (C : Cx) (ops : Array Oper) : List (Nat × Nat) :=
  (List.range ops.size).flatMap fun j => match ops[j]? with
    | some o => if changer C o || !toucher C o then [] else
      (List.range (ops.size + 1)).filterMap fun m => if !atChange C ops m || !mayRun C ops (masks ops.toList []) j m || Nat.beq (cc C ops m) (cc C ops j) then none else some (j, m)
    | none => []
/-- .. it yields the same there. -/
def sameAt (C : Cx) (call : FuncId → List AV → Hp → Option (AV × Hp)) (ops : Array Oper) (sts : List St) (q : Nat × Nat) : Bool :=
  match ops[q.1]?, sts[q.1]? with
  | some o, some sj => (match wantA ops sj.1 o with
    | some true => (match sts[q.2]?, aop C call (ev C sj.1) sj.2 o with
          | some sm, some (v, _) => (match aop C call (ev C sj.1) sm.2 o with | some (v', _) => eqA 24 v' v | none => false)
          | _, _ => false)
    | _ => true)
  | _, _ => false

inductive Out where
  | normal
  | exit (id : Nat)
  | ret
  | pan (v : Value)

/-- A region in the order of its text; an operation may panic. -/
def runOpsP (C : Cx) (call : FuncId → List AV → Hp → Option (AV × Hp)) (ops : Array Oper) : List Oper → St → Option (Out × St)
  | [], s => some (.normal, s)
  | o :: rest, s => match step1 C call ops o s with
    | some s' => runOpsP C call ops rest s'
    | none => match wantA ops s.1 o with
      | some true => match aop C call (ev C s.1) s.2 o with
        | some (.pn v, h) => some (.pan v, (s.1, h))
        | _ => none
      | _ => none

def loopN (body : St → Option (Out × St)) : Nat → St → Option (Out × St)
  | 0, _ => none
  | n + 1, s => match body s with
    | some (.normal, s') => loopN body n s'
    | r => r

/-- CODE. 'call false': what is called in a region that draws (it may give up no block); 'call true': elsewhere. -/
def exec (C : Cx) (call : Bool → FuncId → List AV → Hp → Option (AV × Hp)) : Code → St → Option (Out × St)
  | .skip, s => some (.normal, s)
  | .label _, s => some (.normal, s)
  | .region _ ops mixed, s => if mixed then (match runOpsL C (call false) ops ops.toList s with
    | some sts => if (needs C ops).all (sameAt C (call false) ops sts) then (sts[ops.size]?).map fun s' => (.normal, s') else none
    | none => none) else runOpsP C (call true) ops ops.toList s
  | .seq a b, s => match exec C call a s with
    | some (.normal, s') => exec C call b s'
    | r => r
  | .cond c a b, s => match ev C s.1 c with
    | .sc (.bool true) => exec C call a s
    | .sc (.bool false) => exec C call b s
    | _ => none
  | .block id c, s => match exec C call c s with
    | some (.exit i, s') => some (if i = id then .normal else .exit i, s')
    | r => r
  | .loop c, s => loopN (exec C call c) C.fuel s
  | .exit id, s => some (.exit id, s)
  | .ret, s => some (.ret, s)
  | _, _ => none

/-- A value as it may be handed on for good: own slices as what they hold. -/
def snap (h : Hp) : Nat → AV → Option AV
  | _, .sc v => some (.sc v)
  | _, .ls sz rows z => some (.ls sz rows z)
  | _, .rp row j => some (.rp row j)
  | 0, _ => none
  | n + 1, .sl id sz off len _ => match rowOf h id with
    | some cs => if off + len * sz ≤ cs.length then
        (((cs.drop off).take (len * sz)).mapM (snap h n)).map fun xs => .ls sz ((List.range len).map fun i => (xs.drop (i * sz)).take sz) false
      else none
    | none => none
  | n + 1, .pt id off => match rowOf h id with
    | some cs => (cs.mapM (snap h n)).map fun xs => .rp xs off
    | none => none
  | n + 1, .ag xs => (xs.mapM (snap h n)).map .ag
  | n + 1, .tp xs => (xs.mapM (snap h n)).map .tp
  | n + 1, .fn f xs => (xs.mapM (snap h n)).map (.fn f)
  | _, _ => none

def scalarRes : AV → Bool
  | .sc _ => true
  | .tp xs => xs.all isSc
  | _ => false

def rvOf (s : St) : Rv → Option AV
  | .tmp t => some (s.1.getD t .ud)
  | .cell a sz agg => match s.1.getD a .ud with
    | .pt id off => match rowOf s.2 id with
      | some cs => part agg off sz cs
      | none => none
    | _ => none
def resOf (fi : Fi) (s : St) : Option AV :=
  match fi.res with
  | [t] => rvOf s t
  | ts => (ts.mapM (rvOf s)).map .tp

/-- One call, given how deeper calls go. -/
def body1 (C : Cx) (call : Bool → FuncId → List AV → Hp → Option (AV × Hp)) (f : FuncId) (args : List AV) (h : Hp) : Option (AV × Hp) :=
  match C.F f with
  | some fi => if args.length ≤ fi.ntmps then
      match exec C call fi.body (args ++ List.replicate (fi.ntmps - args.length) .un, h) with
      | some (.normal, s) => (resOf fi s).map fun r => (r, s.2)
      | some (.ret, s) => (resOf fi s).map fun r => (r, s.2)
      | some (.pan v, s) => some (.pn v, s.2)
      | _ => none
    else none
  | none => none

/-- A body that defers one closure over one variable, and then runs on. -/
def deferOf (C : Cx) : Code → Option (Tmp × Operand × TypeId × Code)
  | .seq (.region _ ops false) rest => match ops.toList with
    | [{ op := .makeFunc (.func g) first caps, dst := some d, guard := none, .. }, { op := .defer { callee := .value (.tmp d'), args, .. }, guard := none, dst := none, .. }] =>
      match C.rcv g, caps.toList with
      | some T, [x] => if d = d' && first.isEmpty && args.isEmpty then some (d, x, T, rest) else none
      | _, _ => none
    | _ => none
  | _ => none
def splitD (C : Cx) : Code → Option (List Code × Tmp × Operand × TypeId × Code)
  | .seq a b => match deferOf C b with
    | some (d, x, T, rest) => some ([a], d, x, T, rest)
    | none => match splitD C b with
      | some (pre, d, x, T, rest) => some (a :: pre, d, x, T, rest)
      | none => none
  | _ => none

def execL (C : Cx) (call : Bool → FuncId → List AV → Hp → Option (AV × Hp)) : List Code → St → Option (Out × St)
  | [], s => some (.normal, s)
  | c :: cs, s => match exec C call c s with
    | some (.normal, s') => execL C call cs s'
    | r => r

/-- .. its call: the closure turns a panic of its type into the variable's value. -/
def bodyD (C : Cx) (call : Bool → FuncId → List AV → Hp → Option (AV × Hp)) (f : FuncId) (args : List AV) (h : Hp) : Option (AV × Hp) :=
  match C.F f with
  | some fi => if args.length ≤ fi.ntmps then
      match splitD C fi.body with
      | some (pre, d, x, T, rest) => match execL C call pre (args ++ List.replicate (fi.ntmps - args.length) .un, h) with
        | some (.ret, s) => (resOf fi s).map fun r => (r, s.2)
        | some (.normal, s) => match ev C s.1 x with
          | .pt id 0 => if d < s.1.length then match exec C call rest (s.1.set d .ud, s.2) with
            | some (.normal, s') => (resOf fi s').map fun r => (r, s'.2)
            | some (.ret, s') => (resOf fi s').map fun r => (r, s'.2)
            | some (.pan (.iface T' (.int k n)), s') => match s'.2[id]? with
              | some (.row [_]) => if T = T' then (resOf fi (s'.1, s'.2.set id (.row [.sc (.int k n)]))).map fun r => (r, s'.2.set id (.row [.sc (.int k n)])) else none
              | _ => none
            | _ => none
            else none
          | _ => none
        | _ => none
      | none => none
    else none
  | none => none

/-- What 'slices.Sorted' makes of the keys of a map: a new slice, or nil. -/
def keysA (es : List (Value × AV)) : Option (List ByteArray) := es.mapM fun e => match e.1 with | .string s => some s | _ => none
def leS (x y : ByteArray) : Bool := decide (x.data.toList ≤ y.data.toList)
def insS (x : ByteArray) : List ByteArray → List ByteArray
  | [] => [x]
  | y :: l => if leS x y then x :: y :: l else y :: insS x l
def nodupS : List ByteArray → Bool
  | [] => true
  | x :: l => !(l.any fun y => x == y) && nodupS l
def sortS (l : List ByteArray) : List ByteArray := l.foldr insS []
def sortedA (h : Hp) (g : FuncId) : List AV → Option (AV × Hp)
  | [.fn g' [.pt b 0]] => if g = g' then (match h[b]? with
    | some (.row [.mp id]) => match h[id]? with
      | some (.map es _) => match keysA es with
        | some [] => some (.sc (.slice none 0 0), h)
        | some ks => if !(nodupS ks && ks.all fun s => decide (s.size ≤ maxLen)) || decide (1000000 < ks.length) then none else some (.sl h.length 1 0 ks.length false, h ++ [.row ((sortS ks).map fun s => .sc (.string s))])
        | none => none
      | _ => none
    | _ => none) else none
  | _ => none

/-- The own blocks that a value leads to. -/
def reach (h : Hp) : Nat → AV → List Nat
  | 0, _ => []
  | n + 1, .sl id _ _ _ _ => id :: ((rowOf h id).getD []).flatMap (reach h n)
  | n + 1, .pt id _ => id :: ((rowOf h id).getD []).flatMap (reach h n)
  | n + 1, .ag xs => xs.flatMap (reach h n)
  | n + 1, .tp xs => xs.flatMap (reach h n)
  | n + 1, .fn _ xs => xs.flatMap (reach h n)
  | _, _ => []
def mask (ids : List Nat) (h : Hp) : Hp := (List.range h.length).map fun i => if ids.contains i then h.getD i .dead else .dead
/-- Blocks are given up for writing; they are read as before. -/
def freeze (ids : List Nat) (h : Hp) : Option Hp :=
  (List.range h.length).mapM fun i => if ids.contains i then (match h[i]? with
    | some (.row cs) => (cs.mapM (snap (mask ids h) 8)).map .ice
    | some (.ice cs) => some (.ice cs)
    | some .dead => some .dead
    | _ => none) else h[i]?

def callN (C : Cx) : Nat → Bool → FuncId → List AV → Hp → Option (AV × Hp)
  | 0, _, _, _, _ => none
  | n + 1, b, f, args, h =>
    match C.srt f with
    | some (g, _) => if C.inl f then sortedA h g args else none
    | none =>
    if C.inl f then (match C.F f with
      | some fi => (match splitD C fi.body with | some _ => bodyD C (callN C n) f args h | none => body1 C (callN C n) f args h)
      | none => none)
    else
      match args.mapM (snap h 8) with
      | some as =>
        let r := match C.tab f as with
          | some r => some r
          | none => match body1 C (callN C n) f as [] with
            | some (r, h') => snap h' 8 r
            | none => none
        match r with
        | some r => if args.all calm || scalarRes r then some (r, h) else if b && (args.mapM (snap (mask (args.flatMap (reach h 8)) h) 8)).isSome then (freeze (args.flatMap (reach h 8)) h).map fun h' => (r, h') else none
        | none => none
      | none => none

def aggD : TypeDesc → Bool
  | .struct _ | .array .. => true
  | _ => false
/-- What the loaded program says of a type. -/
def kdOf (P : Program) (d : TypeDesc) : Option Kd :=
  match d with
  | .struct fs => (fs.toList.mapM fun (f : Field) => match P.info? f.type, P.underlying f.type with | some fi, some fd => some (f.offset, fi.size, aggD fd) | _, _ => none).map .struct
  | .slice e => match P.info? e, P.underlying e with
    | some ei, some ed => match ei.zero with
      | some ez => if ez.cells.toList.all flat && ez.cells.size == ei.size && ei.size != 0 then some (.slice ei.size (aggD ed) ei.bytes ez.cells.toList) else none
      | none => none
    | _, _ => none
  | .array n e => match P.info? e, P.underlying e with
    | some ei, some ed => some (.array n ei.size (aggD ed))
    | _, _ => none
  | _ => some .prim
def tiOf (P : Program) (t : TypeId) : Option Ti :=
  match P.underlying t, P.info? t with
  | some d, some i => match i.zero, kdOf P d with
    | some z, some kd => if z.cells.toList.all flat && z.cells.size == i.size then some { size := i.size, agg := aggD d, zero := z.cells.toList, kd := kd } else none
    | _, _ => none
  | _, _ => none
def fiOf (P : Program) (f : FuncId) : Option Fi :=
  match P.funcs[f]? with
  | some fn => match fn.body with
    | some c => (fn.results.toList.mapM fun (r : ResultVar) => match r with
      | .tmp t => some (Rv.tmp t)
      | .cell a t => match P.info? t, P.underlying t with | some i, some d => some (Rv.cell a i.size (aggD d)) | _, _ => none).map fun res => { ntmps := fn.ntmps, body := c, res := res }
    | none => none
  | none => none
end Go.Ae

/-
  The abstract evaluator, part 3: each operation of the evaluator is what the model does.
-/
set_option linter.unusedSimpArgs false
namespace Go.Ae
open Go

section inv
variable {w : World} {X : Nat → Prop} {ρ : Nat → Nat} {n : Nat} {v : Value}
theorem Rp.sc_inv {u : Value} (h : Rp w X ρ n v (.sc u)) : v = u ∧ flat u = true := by
  cases h with
  | im h => cases h with
    | sc _ hf => exact ⟨rfl, hf⟩
theorem Rp.pt_inv {id off : Nat} (h : Rp w X ρ n v (.pt id off)) : v = .pointer (some ⟨ρ id, off, none⟩) ∧ id < n := by
  cases h with
  | im h => cases h
  | pt _ _ hl => exact ⟨rfl, hl⟩
theorem Rp.rp_inv {row : List AV} {j : Nat} (h : Rp w X ρ n v (.rp row j)) : Ri w X v (.rp row j) := by
  cases h with
  | im h => exact h
theorem Rp.ls_inv {sz : Nat} {rows : List (List AV)} {z : Bool} (h : Rp w X ρ n v (.ls sz rows z)) : Ri w X v (.ls sz rows z) := by
  cases h with
  | im h => exact h
theorem Rp.sl_inv {id sz off len : Nat} {k : Bool} (h : Rp w X ρ n v (.sl id sz off len k)) : ∃ cap cur t fz, v = .slice (some ⟨ρ id, off, none⟩) len cap ∧ id < n ∧ w.heap[ρ id]? = some (Obj.cells cur t fz) ∧ off + cap * sz ≤ cur.size ∧ (k = true → cap = len) ∧ (k = false → off + cap * sz = cur.size) ∧ len ≤ cap ∧ cap ≤ maxLen := by
  cases h with
  | im h => cases h
  | sl _ _ _ _ cap _ cur t fz h1 h2 h3 h4 h5 h6 h7 => exact ⟨cap, cur, t, fz, rfl, h1, h2, h3, h4, h5, h6, h7⟩
theorem Rp.mp_inv {id : Nat} (h : Rp w X ρ n v (.mp id)) : v = .map (some (ρ id)) ∧ id < n := by
  cases h with
  | im h => cases h
  | mp _ hl => exact ⟨rfl, hl⟩
theorem Rp.pn_inv {u : Value} (h : Rp w X ρ n v (.pn u)) : False := by
  cases h with
  | im h => cases h
theorem Rp.un_inv (h : Rp w X ρ n v .un) : v = undef := by
  cases h with
  | im h => cases h with
    | un => rfl
theorem Rp.fn_inv {f : FuncId} {xs : List AV} (h : Rp w X ρ n v (.fn f xs)) : ∃ us : Array Value, v = .func (.func f) #[] us ∧ us.size = xs.length ∧ ∀ k x, xs[k]? = some x → Rp w X ρ n (us.getD k undef) x := by
  cases h with
  | im h => cases h with
    | fn _ us _ h1 h2 => exact ⟨us, rfl, h1, fun k x hk => .im (h2 k x hk)⟩
  | fn _ us _ h1 h2 => exact ⟨us, rfl, h1, h2⟩
theorem Rp.ag_inv {xs : List AV} (h : Rp w X ρ n v (.ag xs)) : ∃ us : Array Value, v = .agg us ∧ us.size = xs.length ∧ (∀ k, k < us.size → (us.getD k undef).oneCell' = true) ∧ ∀ k x, xs[k]? = some x → Rp w X ρ n (us.getD k undef) x := by
  cases h with
  | im h => cases h with
    | ag us _ h1 h2 h3 => exact ⟨us, rfl, h1, h2, fun k x hk => .im (h3 k x hk)⟩
  | ag us _ h1 h2 h3 => exact ⟨us, rfl, h1, h2, h3⟩
theorem Rp.tp_inv {xs : List AV} (h : Rp w X ρ n v (.tp xs)) : ∃ us : Array Value, v = .tuple us ∧ us.size = xs.length ∧ ∀ k x, xs[k]? = some x → Rp w X ρ n (us.getD k undef) x := by
  cases h with
  | im h => cases h with
    | tp us _ h1 h2 => exact ⟨us, rfl, h1, fun k x hk => .im (h2 k x hk)⟩
  | tp us _ h1 h2 => exact ⟨us, rfl, h1, h2⟩
theorem Ri.ls_cases {sz : Nat} {rows : List (List AV)} {z : Bool} (h : Ri w X v (.ls sz rows z)) :
    (rows = [] ∧ ∃ a cap, v = .slice a 0 cap ∧ cap ≤ maxLen ∧ (z = true → cap = 0)) ∨
    ∃ (b o cap : Nat) (us : Nat → Nat → Value) (cur : Array Value) (t : TypeId) (fz : Nat × Nat), v = .slice (some ⟨b, o, none⟩) rows.length cap ∧ ¬ X b ∧ w.heap[b]? = some (Obj.cells cur t fz) ∧ rows.length ≤ cap ∧ cap ≤ maxLen ∧ (z = true → cap = rows.length) ∧
      (∀ (i : Nat) (row : List AV), rows[i]? = some row → row.length = sz) ∧
      (∀ (i : Nat) (row : List AV) (j : Nat) (x : AV), rows[i]? = some row → row[j]? = some x → cur[o + i * sz + j]? = some (us i j) ∧ Value.oneCell' (us i j) = true ∧ Ri w X (us i j) x) := by
  cases h with
  | le a cap _ _ h1 h2 => exact .inl ⟨rfl, a, cap, rfl, h1, h2⟩
  | ls b o len cap _ _ _ us cur t fz h1 h2 h3 h4 h5 h6 h7 h8 h9 =>
    subst h3
    exact .inr ⟨b, o, cap, us, cur, t, fz, rfl, h1, h2, h4, h5, h6, h7, fun i row j x hr hx => ⟨(h8 i row j x hr hx).1, (h8 i row j x hr hx).2, h9 i row j x hr hx⟩⟩
theorem flat_one {v : Value} (h : flat v = true) : v.oneCell' = true := by
  cases v <;> simp_all [flat, Value.oneCell']
theorem flat_cells {v : Value} (h : flat v = true) : v.cells = #[v] := by
  cases v <;> first | rfl | simp [flat] at h
/-- A value by its cells. -/
theorem Rp.cls_inv {x : AV} {xs : List AV} (h : Rp w X ρ n v x) (hc : cls x = some xs) : v.cells.size = xs.length ∧ (∀ k, k < v.cells.size → (v.cells.getD k undef).oneCell' = true) ∧ ∀ k y, xs[k]? = some y → Rp w X ρ n (v.cells.getD k undef) y := by
  have single : ∀ {x : AV}, Rp w X ρ n v x → v.cells = #[v] → v.oneCell' = true → xs = [x] → v.cells.size = xs.length ∧ (∀ k, k < v.cells.size → (v.cells.getD k undef).oneCell' = true) ∧ ∀ k y, xs[k]? = some y → Rp w X ρ n (v.cells.getD k undef) y := by
    intro x h e1 e2 e3
    subst e3
    rw [e1]
    refine ⟨rfl, fun k hk => ?_, fun k y hy => ?_⟩
    · have : k = 0 := by simpa using hk
      subst this; simpa using e2
    · cases k with
      | zero => simp at hy; subst hy; simpa using h
      | succ k => simp at hy
  cases x with
  | ag ys =>
    simp [cls] at hc
    subst hc
    obtain ⟨us, rfl, h1, h2, h3⟩ := h.ag_inv
    exact ⟨h1, h2, h3⟩
  | ud => simp [cls] at hc
  | un => simp [cls] at hc
  | tp ys => simp [cls] at hc
  | sc u =>
    simp [cls] at hc
    obtain ⟨rfl, hf⟩ := h.sc_inv
    exact single h (flat_cells hf) (flat_one hf) hc.symm
  | ls sz rows z =>
    simp [cls] at hc
    have h' := h.ls_inv
    cases h' <;> exact single h rfl rfl hc.symm
  | pn u => simp [cls] at hc
  | sl id sz off len k =>
    simp [cls] at hc
    obtain ⟨cap, cur, t, fz, rfl, _⟩ := h.sl_inv
    exact single h rfl rfl hc.symm
  | pt id off =>
    simp [cls] at hc
    obtain ⟨rfl, _⟩ := h.pt_inv
    exact single h rfl rfl hc.symm
  | rp row j =>
    simp [cls] at hc
    have h' := h.rp_inv
    cases h'; exact single h rfl rfl hc.symm
  | fn f ys =>
    simp [cls] at hc
    obtain ⟨us, rfl, _⟩ := h.fn_inv
    exact single h rfl rfl hc.symm
  | mp id =>
    simp [cls] at hc
    cases h with
    | im h => cases h
    | mp _ _ => exact single (.mp id (by assumption)) rfl rfl hc.symm
end inv

theorem runPure_run {P : Program} {α : Type} {s : Sem α} {a : α} (h : runPure P s = some a) (w : World) : s.run P w = .ok a w := by
  induction s with
  | pure b => simp [runPure] at h; subst h; rfl
  | program k ih => simp only [runPure] at h; simp only [Sem.run]; exact ih P h
  | mark m k ih => simp only [runPure] at h; simp only [Sem.run]; exact ih h
  | _ => simp [runPure] at h

theorem ofConst_rp {w : World} {X : Nat → Prop} {ρ : Nat → Nat} {n : Nat} (v : Value) : Rp w X ρ n v (ofConst v) := by
  unfold ofConst
  split
  · rename_i cs
    split
    · rename_i hall
      refine .ag cs _ (by simp) (fun k hk => flat_one ?_) fun k x hk => ?_
      · have : cs.toList.all flat = true := hall
        rw [List.all_eq_true] at this
        simpa [hk] using this (cs[k]) (by simp)
      · simp only [List.getElem?_map, Option.map_eq_some_iff] at hk
        obtain ⟨u, hu, rfl⟩ := hk
        have hm : u ∈ cs.toList := List.mem_of_getElem? hu
        rw [List.all_eq_true] at hall
        have : cs.getD k undef = u := by simp at hu; simp [hu]
        rw [this]
        exact .im (.sc u (hall u hm))
    · exact .im (.ud _)
  · split
    · exact .im (.sc _ (by assumption))
    · exact .im (.ud _)

theorem ev_rp {C : Cx} {w : World} {X : Nat → Prop} {ρ : Nat → Nat} {h : Hp} (hs : Sim C.G w X ρ h) {a : Act} {fr : List AV} (hf : RF w (tot X ρ h) ρ h.length a.tmps fr) (x : Operand) :
    Rp w (tot X ρ h) ρ h.length (a.eval x) (ev C fr x) := by
  cases x with
  | tmp t =>
    simp only [ev, Act.eval]
    cases ht : fr[t]? with
    | some y => have := hf.2 t y ht; simpa [List.getD, ht] using this
    | none => simp [List.getD, ht]; exact .im (.ud _)
  | const v => exact ofConst_rp v
  | func f => exact .fn f #[] [] rfl (by simp)
  | global g =>
    simp only [ev, Act.eval]
    cases hg : C.G g with
    | none => exact .im (.ud _)
    | some row =>
      obtain ⟨h1, cur, t, fz, h2, h3⟩ := hs.glob g row hg
      have : Ri w (tot X ρ h) (.pointer (some ⟨g, 0 + 0, none⟩)) (.rp (row.map gav) 0) := by
        refine .rp g 0 0 _ (fun k => (cur[k]?).getD undef) cur t fz h1 h2 ?_ ?_
        · intro k x hk
          simp only [List.getElem?_map, Option.map_eq_some_iff] at hk
          obtain ⟨u, hu, rfl⟩ := hk
          obtain ⟨u', e1, e2, _⟩ := h3 k u hu
          simp [e1, e2]
        · intro k x hk
          simp only [List.getElem?_map, Option.map_eq_some_iff] at hk
          obtain ⟨u, hu, rfl⟩ := hk
          obtain ⟨u', e1, _, e3⟩ := h3 k u hu
          simpa [e1] using gok_ri e3
      exact .im this

/-! ### types -/
theorem tiOf_spec {P : Program} {t : TypeId} {i : Ti} (h : tiOf P t = some i) : ∃ d info z, P.underlying t = some d ∧ P.info? t = some info ∧ info.zero = some z ∧ kdOf P d = some i.kd ∧
    i.size = info.size ∧ i.agg = aggD d ∧ i.zero = z.cells.toList ∧ (∀ u ∈ z.cells.toList, flat u = true) ∧ z.cells.size = info.size := by
  unfold tiOf at h
  split at h
  · rename_i d info hd hi
    split at h
    · rename_i z kd hz hk
      split at h
      · rename_i hc
        simp only [Option.some.injEq] at h
        subst h
        simp only [Bool.and_eq_true, List.all_eq_true, beq_iff_eq] at hc
        exact ⟨d, info, z, hd, hi, hz, hk, rfl, rfl, rfl, hc.1, hc.2⟩
      · cases h
    · cases h
  · cases h

theorem kdOf_slice {P : Program} {d : TypeDesc} {sz bytes : Nat} {agg : Bool} {ez : List Value} (h : kdOf P d = some (.slice sz agg bytes ez)) :
    ∃ e ei ed z, d = .slice e ∧ P.info? e = some ei ∧ P.underlying e = some ed ∧ ei.zero = some z ∧ sz = ei.size ∧ agg = aggD ed ∧ bytes = ei.bytes ∧ ez = z.cells.toList ∧ (∀ u ∈ z.cells.toList, flat u = true) ∧ z.cells.size = ei.size ∧ 0 < sz := by
  unfold kdOf at h
  split at h
  · simp at h
  · rename_i e
    split at h
    · rename_i ei ed hi hu
      split at h
      · rename_i z hz
        split at h
        · rename_i hc
          simp only [Option.some.injEq, Kd.slice.injEq] at h
          simp only [Bool.and_eq_true, List.all_eq_true, beq_iff_eq, bne_iff_ne] at hc
          exact ⟨e, ei, ed, z, rfl, hi, hu, hz, h.1.symm, h.2.1.symm, h.2.2.1.symm, h.2.2.2.symm, hc.1.1, hc.1.2, by have := hc.2; omega⟩
        · cases h
      · cases h
    · cases h
  · split at h <;> simp at h
  · simp at h

theorem kdOf_array {P : Program} {d : TypeDesc} {n sz : Nat} {agg : Bool} (h : kdOf P d = some (.array n sz agg)) :
    ∃ e ei ed, d = .array n e ∧ P.info? e = some ei ∧ P.underlying e = some ed ∧ sz = ei.size ∧ agg = aggD ed := by
  unfold kdOf at h
  split at h
  · simp at h
  · split at h
    · split at h
      · split at h <;> simp at h
      · cases h
    · cases h
  · rename_i m e
    split at h
    · rename_i ei ed hi hu
      simp only [Option.some.injEq, Kd.array.injEq] at h
      obtain ⟨rfl, rfl, rfl⟩ := h
      exact ⟨e, ei, ed, rfl, hi, hu, rfl, rfl⟩
    · cases h
  · simp at h

theorem mapM_get {α β : Type} {f : α → Option β} : ∀ {l : List α} {m : List β}, l.mapM f = some m → m.length = l.length ∧ ∀ (k : Nat) (a : α), l[k]? = some a → ∃ b, m[k]? = some b ∧ f a = some b
  | [], m, h => by simp at h; subst h; simp
  | a :: l, m, h => by
    simp only [List.mapM_cons, Option.bind_eq_bind, Option.bind_eq_some_iff, Option.pure_def, Option.some.injEq] at h
    obtain ⟨b, hb, m', hm, rfl⟩ := h
    obtain ⟨h1, h2⟩ := mapM_get hm
    refine ⟨by simp [h1], fun k x hk => ?_⟩
    cases k with
    | zero => simp at hk; subst hk; exact ⟨b, rfl, hb⟩
    | succ k => simp at hk; simpa using h2 k x hk

theorem kdOf_struct {P : Program} {d : TypeDesc} {l : List (Nat × Nat × Bool)} (h : kdOf P d = some (.struct l)) :
    ∃ fs : Array Field, d = .struct fs ∧ l.length = fs.size ∧ ∀ (k : Nat) (f : Field), fs[k]? = some f → ∃ fi fd, P.info? f.type = some fi ∧ P.underlying f.type = some fd ∧ l[k]? = some (f.offset, fi.size, aggD fd) := by
  unfold kdOf at h
  split at h
  · rename_i fs
    simp only [Option.map_eq_some_iff, Kd.struct.injEq] at h
    obtain ⟨l', hl, rfl⟩ := h
    obtain ⟨h1, h2⟩ := mapM_get hl
    refine ⟨fs, rfl, by simpa using h1, fun k f hk => ?_⟩
    obtain ⟨b, hb, hf⟩ := h2 k f (by simpa using hk)
    split at hf
    · rename_i fi fd hi hu
      simp only [Option.some.injEq] at hf
      exact ⟨fi, fd, hi, hu, by rw [hb, ← hf]⟩
    · cases hf
  · split at h
    · split at h
      · split at h <;> simp at h
      · cases h
    · cases h
  · split at h <;> simp at h
  · simp at h

theorem run_isAgg {P : Program} {t : TypeId} {d : TypeDesc} (h : P.underlying t = some d) (w : World) : (isAgg t).run P w = .ok (aggD d) w := by
  unfold isAgg
  simp only [Sem.run_bind, run_underlying h, Result.andThen_ok]
  cases d <;> simp [aggD]
theorem run_size {P : Program} {t : TypeId} {i : TypeInfo} (h : P.info? t = some i) (w : World) : (sizeOf t).run P w = .ok i.size w := by
  simp [sizeOf, typeInfo, h]
theorem run_zero {P : Program} {t : TypeId} {i : TypeInfo} {z : Value} (h : P.info? t = some i) (hz : i.zero = some z) (w : World) : (zeroValue t).run P w = .ok z w := by
  simp [zeroValue, typeInfo, h, hz]

theorem add_lit (b o j : Nat) : (⟨b, o, none⟩ : Addr).add j = ⟨b, o + j, none⟩ := by
  unfold Addr.add
  split <;> simp_all
theorem cell_at {w : World} {b : Nat} {cur : Array Value} {t : TypeId} {fz : Nat × Nat} (h : w.heap[b]? = some (.cells cur t fz)) (o : Nat) : w.cell? ⟨b, o, none⟩ = cur[o]? := by
  simp [World.cell?, h]

/-- What is loaded from a row of known cells. -/
theorem load_part' {P : Program} {w : World} {X : Nat → Prop} {ρ : Nat → Nat} {n : Nat} {t : TypeId} {d : TypeDesc} {info : TypeInfo} (h1 : P.underlying t = some d) (h2 : P.info? t = some info) {b o off : Nat} {cur : Array Value} {t0 : TypeId} {fz : Nat × Nat}
    (hb : w.heap[b]? = some (.cells cur t0 fz)) {cs : List AV} {us : Nat → Value} (hc : ∀ k x, cs[k]? = some x → cur[o + k]? = some (us k) ∧ (us k).oneCell' = true ∧ Rp w X ρ n (us k) x)
    {y : AV} (hp : part (aggD d) off info.size cs = some y) : ∃ v, (loadVar t ⟨b, o + off, none⟩).run P w = .ok v w ∧ Rp w X ρ n v y := by
  unfold part at hp
  cases ha : aggD d with
  | true =>
    simp only [ha, if_true] at hp
    split at hp
    · rename_i hle
      simp only [Option.some.injEq] at hp
      subst hp
      have hl := run_loadCells (P := P) w ⟨b, o + off, none⟩ info.size (fun j => us (off + j)) (fun j hj => by
        have hk : off + j < cs.length := by omega
        rw [add_lit, cell_at hb, Nat.add_assoc]
        exact (hc (off + j) _ (List.getElem?_eq_getElem hk)).1)
      refine ⟨.agg ((List.range info.size).map fun j => us (off + j)).toArray, ?_, ?_⟩
      · simp [loadVar, run_isAgg h1, ha, run_size h2, hl]
      · refine .ag _ _ (by simp; omega) (fun k hk => ?_) fun k x hk => ?_
        · simp at hk
          have hk' : off + k < cs.length := by omega
          simpa [hk] using (hc (off + k) _ (List.getElem?_eq_getElem hk')).2.1
        · rw [List.getElem?_take] at hk
          split at hk
          · rename_i hlt
            rw [List.getElem?_drop] at hk
            have : k < info.size := by omega
            simpa [this] using (hc (off + k) x hk).2.2
          · cases hk
    · cases hp
  | false =>
    simp only [ha] at hp
    have hp' : cs[off]? = some y := by simpa using hp
    have hh := hc off y hp'
    refine ⟨us off, ?_, hh.2.2⟩
    have hcell : w.cell? ⟨b, o + off, none⟩ = some (us off) := by rw [cell_at hb]; exact hh.1
    simp [loadVar, run_isAgg h1, ha, hcell]
theorem load_part {P : Program} {w : World} {X : Nat → Prop} {ρ : Nat → Nat} {n : Nat} {t : TypeId} {i : Ti} (hi : tiOf P t = some i) {b o off : Nat} {cur : Array Value} {t0 : TypeId} {fz : Nat × Nat}
    (hb : w.heap[b]? = some (.cells cur t0 fz)) {cs : List AV} {us : Nat → Value} (hc : ∀ k x, cs[k]? = some x → cur[o + k]? = some (us k) ∧ (us k).oneCell' = true ∧ Rp w X ρ n (us k) x)
    {y : AV} (hp : part i.agg off i.size cs = some y) : ∃ v, (loadVar t ⟨b, o + off, none⟩).run P w = .ok v w ∧ Rp w X ρ n v y := by
  obtain ⟨d, info, z, h1, h2, h3, h4, h5, h6, h7, h8, h9⟩ := tiOf_spec hi
  rw [h5, h6] at hp
  exact load_part' h1 h2 hb hc hp

theorem Sim.cells {G : Nat → Option (List Value)} {w : World} {X : Nat → Prop} {ρ : Nat → Nat} {h : Hp} (hs : Sim G w X ρ h) {id : Nat} {cs : List AV} (hid : rowOf h id = some cs) :
    ∃ (cur : Array Value) (t : TypeId) (fz : Nat × Nat) (us : Nat → Value), w.heap[ρ id]? = some (.cells cur t fz) ∧ ∀ k x, cs[k]? = some x → cur[k]? = some (us k) ∧ (us k).oneCell' = true ∧ Rp w (tot X ρ h) ρ h.length (us k) x := by
  unfold rowOf at hid
  split at hid
  · rename_i cs' hi
    cases hid
    obtain ⟨cur, t, fz, us, h1, _, _, h3⟩ := hs.row id _ hi
    exact ⟨cur, t, fz, us, h1, h3⟩
  · rename_i cs' hi
    cases hid
    obtain ⟨cur, t, fz, us, h1, h3⟩ := hs.blk id _ hi
    exact ⟨cur, t, fz, us, h1, fun k x hk => ⟨(h3 k x hk).1, (h3 k x hk).2.1, .im (h3 k x hk).2.2⟩⟩
  · cases hid
theorem rowOf_row {h : Hp} {id : Nat} {cs : List AV} (hid : h[id]? = some (.row cs)) : rowOf h id = some cs := by
  unfold rowOf; rw [hid]

/-- What one operation does, for whatever comes behind it. -/
def Good (C : Cx) (o : Oper) (a : Act) (w : World) (X : Nat → Prop) (ρ : Nat → Nat) (h : Hp) (r : AV) (h' : Hp) : Prop :=
  ∀ (K : Act → World → Prop) (Q : Exit → Act → World → Prop),
    (∀ v w' ρ', Ext C.G w X ρ h w' ρ' h' → Rp w' (tot X ρ' h') ρ' h'.length v r → K (a.put o.dst v) w') →
    (∀ u w' ρ', r = .pn u → Ext C.G w X ρ h w' ρ' h' → Q (.panic [{ v := u, recovered := false }]) a w') → o.wp C.P a w K Q

section good
variable {C : Cx} {o : Oper} {a : Act} {w : World} {X : Nat → Prop} {ρ : Nat → Nat} {h : Hp}
theorem good_value {w' : World} {ρ' : Nat → Nat} {h' : Hp} {v : Value} {r : AV} (hr : (execOp a.eval o).run C.P w = .ok (.value v) w') (he : Ext C.G w X ρ h w' ρ' h') (hv : Rp w' (tot X ρ' h') ρ' h'.length v r) : Good C o a w X ρ h r h' := by
  intro K Q hK _
  unfold Oper.wp
  rw [hr, Oper.upon_value]
  exact hK v w' ρ' he hv
theorem good_skip {w' : World} {ρ' : Nat → Nat} {h' : Hp} (hr : (execOp a.eval o).run C.P w = .ok .skip w') (he : Ext C.G w X ρ h w' ρ' h') : Good C o a w X ρ h .un h' := by
  intro K Q hK _
  unfold Oper.wp
  rw [hr, Oper.upon_skip]
  exact hK undef w' ρ' he (.im .un)
theorem good_same (hs : Sim C.G w X ρ h) {v : Value} {r : AV} (hr : (execOp a.eval o).run C.P w = .ok (.value v) w) (hv : Rp w (tot X ρ h) ρ h.length v r) : Good C o a w X ρ h r h :=
  good_value hr (Ext.refl hs) hv
end good

theorem det_inv {w : World} {X : Nat → Prop} {ρ : Nat → Nat} {n : Nat} {v : Value} {x : AV} (h : Rp w X ρ n v x) (hd : isDet x = true) : v = detOf x := by
  cases x with
  | sc u => exact h.sc_inv.1
  | ag xs =>
    obtain ⟨us, rfl, h1, h2, h3⟩ := h.ag_inv
    simp only [isDet, List.all_eq_true] at hd
    simp only [detOf]
    congr 1
    apply Array.ext
    · simpa using h1
    · intro i hi hi'
      have hl : i < xs.length := by simpa using hi'
      have h4 := h3 i _ (List.getElem?_eq_getElem hl)
      have h5 := hd xs[i] (List.getElem_mem hl)
      cases hx : xs[i] with
      | sc u =>
        rw [hx] at h4
        have := h4.sc_inv.1
        simp only [hi, Array.getD_eq_getD_getElem?, Array.getElem?_eq_getElem, Option.getD_some] at this
        simp [hx, scOf, this]
      | _ => rw [hx] at h5; simp [isSc] at h5
  | fn f xs =>
    cases xs with
    | cons y ys => simp [isDet] at hd
    | nil =>
      obtain ⟨us, rfl, h1, _⟩ := h.fn_inv
      have : us = #[] := Array.eq_empty_of_size_eq_zero (by simpa using h1)
      rw [this]
      rfl
  | _ => simp [isDet] at hd

theorem flats_rp {w : World} {X : Nat → Prop} {vs : Array Value} (hall : vs.toList.all flat = true) : vs.size = (vs.toList.map AV.sc).length ∧ (∀ k, k < vs.size → (vs.getD k undef).oneCell' = true) ∧ ∀ (k : Nat) (x : AV), (vs.toList.map AV.sc)[k]? = some x → Ri w X (vs.getD k undef) x := by
  rw [List.all_eq_true] at hall
  refine ⟨by simp, fun k hk => flat_one (hall _ ?_), fun k x hk => ?_⟩
  · have : vs.getD k undef = vs[k] := by simp [hk]
    rw [this]
    exact Array.getElem_mem_toList hk
  · simp only [List.getElem?_map, Option.map_eq_some_iff] at hk
    obtain ⟨u, hu, rfl⟩ := hk
    have : vs.getD k undef = u := by simp at hu; simp [hu]
    rw [this]
    exact .sc u (hall u (List.mem_of_getElem? hu))

theorem fitI_wrap (k : IntKind) (n : Int) : fitI k n = k.wrap n := by
  unfold fitI
  split
  · split
    · rename_i h
      exact (IntWalk.i64_in n (by omega)).symm
    · rfl
  · split
    · rename_i h
      simp only [IntKind.wrap, IntKind.signed, IntKind.bits, Bool.false_and, Bool.false_eq_true, if_false]
      omega
    · rfl
  · rfl

theorem bits_ofInt {a : Int} (h0 : 0 ≤ a) (h1 : a ≤ 18446744073709551615) : (BitVec.ofInt 64 a).toNat = a.toNat := by
  rw [BitVec.toNat_ofInt]
  have : a % ((2 ^ 64 : Nat) : Int) = a := Int.emod_eq_of_lt h0 (by omega)
  rw [this]
theorem wrap_u64 {n : Nat} (h : n < 18446744073709551616) : IntKind.u64.wrap (n : Int) = n := by
  simp only [IntKind.wrap, IntKind.signed, IntKind.bits, Bool.false_and, Bool.false_eq_true, if_false]
  omega
theorem intOp_run {P : Program} {op : BinOp} {k : IntKind} {a b : Int} {v : Value} (h : intOp op k a b = some v) (t : TypeId) (w : World) : (binOp op t (.int k a) (.int k b)).run P w = .ok v w := by
  unfold intOp at h
  cases op <;> simp only [Option.some.injEq, fitI_wrap] at h <;> first | contradiction | skip
  case and =>
    split at h
    · rename_i hc
      obtain ⟨rfl, a0, a1, b0, b1⟩ := hc
      simp only [Option.some.injEq] at h
      subst h
      have hr : (BitVec.ofInt 64 a &&& BitVec.ofInt 64 b).toNat = a.toNat &&& b.toNat := by rw [BitVec.toNat_and, bits_ofInt a0 a1, bits_ofInt b0 b1]
      have hl : a.toNat &&& b.toNat < 18446744073709551616 := by have := (BitVec.ofInt 64 a &&& BitVec.ofInt 64 b).isLt; rw [hr] at this; exact this
      show Result.ok (Value.int IntKind.u64 (IntKind.u64.wrap ((BitVec.ofInt 64 a &&& BitVec.ofInt 64 b).toNat : Int))) w = _
      rw [hr, wrap_u64 hl]
    · cases h
  case or =>
    split at h
    · rename_i hc
      obtain ⟨rfl, a0, a1, b0, b1⟩ := hc
      simp only [Option.some.injEq] at h
      subst h
      have hr : (BitVec.ofInt 64 a ||| BitVec.ofInt 64 b).toNat = a.toNat ||| b.toNat := by rw [BitVec.toNat_or, bits_ofInt a0 a1, bits_ofInt b0 b1]
      have hl : a.toNat ||| b.toNat < 18446744073709551616 := by have := (BitVec.ofInt 64 a ||| BitVec.ofInt 64 b).isLt; rw [hr] at this; exact this
      show Result.ok (Value.int IntKind.u64 (IntKind.u64.wrap ((BitVec.ofInt 64 a ||| BitVec.ofInt 64 b).toNat : Int))) w = _
      rw [hr, wrap_u64 hl]
    · cases h
  all_goals first
    | (split at h
       · cases h
       · rename_i hb
         simp only [Option.some.injEq] at h
         subst h
         simp [binOp, Op.intDiv, hb])
    | (subst h; simp [binOp, Op.intArith, Op.intCmp]; done)
    | (subst h; simp [binOp, Op.intArith, Op.intCmp]; rfl)
theorem intOp_flat {op : BinOp} {k : IntKind} {a b : Int} {v : Value} (hv : intOp op k a b = some v) : flat v = true := by
  unfold intOp at hv
  cases op <;> simp only [Option.some.injEq] at hv <;> first | contradiction | (subst hv; rfl) | (split at hv <;> first | contradiction | (simp only [Option.some.injEq] at hv; subst hv; rfl))
theorem binFast_run {P : Program} {op : BinOp} {k k' : IntKind} {a b : Int} {v : Value} (h : binFast op k a k' b = some v) (t : TypeId) (w : World) : (binOp op t (.int k a) (.int k' b)).run P w = .ok v w ∧ flat v = true := by
  unfold binFast at h
  split at h
  · split at h
    · rename_i hc
      simp only [Option.some.injEq] at h
      subst h
      refine ⟨?_, rfl⟩
      have hn : ¬ b < 0 := by omega
      have hm : min b.toNat k.bits = b.toNat := by omega
      have hd : a.fdiv (2 ^ b.toNat) = a / ((2 ^ b.toNat : Nat) : Int) := by
        rw [Int.fdiv_eq_ediv_of_nonneg a (Int.pow_nonneg (by decide))]
        congr 1
      simp only [binOp, Op.shift, hn, if_false, hm, hd, Sem.run_pure]
    · cases h
  · split at h
    · rename_i hk
      subst hk
      exact ⟨intOp_run h t w, intOp_flat h⟩
    · cases h

theorem strOp_run {P : Program} {op : BinOp} {a b : ByteArray} {v : Value} (h : strOp op a b = some v) (t : TypeId) (w : World) : (binOp op t (.string a) (.string b)).run P w = .ok v w := by
  unfold strOp at h
  cases op <;> simp only [Option.some.injEq] at h <;> first | contradiction | skip
  all_goals (subst h; simp [binOp, Op.stringOp, eqS, ltS, ByteArray.toList_eq])

theorem fast_good {C : Cx} {w : World} {X : Nat → Prop} {ρ : Nat → Nat} {h : Hp} (hs : Sim C.G w X ρ h) {a : Act} {fr : List AV} (hf : RF w (tot X ρ h) ρ h.length a.tmps fr) {o : Oper} {r : AV}
    (hr : fastOp C (ev C fr) o = some r) : Good C o a w X ρ h r h := by
  unfold fastOp at hr
  split at hr
  · rename_i op t x y t' hop
    split at hr
    · rename_i p q hx hy
      have ex := ev_rp hs hf x
      have ey := ev_rp hs hf y
      rw [hx] at ex
      rw [hy] at ey
      have he : C.P.underlying t = some .bool → (Op.equal t (.bool p) (.bool q)).run C.P w = .ok (p == q) w := fun hu => by
        show (Op.equalIn (9999 + 1) t (.bool p) (.bool q)).run C.P w = _
        unfold Op.equalIn
        simp [run_underlying hu]
      split at hr
      · rename_i hu
        simp only [Option.some.injEq] at hr
        subst hr
        refine good_same hs (v := .bool (p == q)) ?_ (.im (.sc _ rfl))
        simp [execOp, hop, ex.sc_inv.1, ey.sc_inv.1, eqGuard, binOp, Sem.run_bind, he hu]
      · rename_i hu
        simp only [Option.some.injEq] at hr
        subst hr
        refine good_same hs (v := .bool (p != q)) ?_ (.im (.sc _ rfl))
        simp [execOp, hop, ex.sc_inv.1, ey.sc_inv.1, eqGuard, binOp, Sem.run_bind, he hu, bne]
      · cases hr
    · rename_i k n k' m hx hy
      simp only [Option.map_eq_some_iff] at hr
      obtain ⟨v, hv, rfl⟩ := hr
      have ex := ev_rp hs hf x
      have ey := ev_rp hs hf y
      rw [hx] at ex
      rw [hy] at ey
      obtain ⟨this, hfl⟩ := binFast_run (P := C.P) hv t w
      refine good_same hs (v := v) ?_ (.im (.sc _ hfl))
      simp only [execOp, hop, ex.sc_inv.1, ey.sc_inv.1, eqGuard]
      cases op <;> simp [Sem.run_bind, this]
    · rename_i s1 s2 hx hy
      simp only [Option.map_eq_some_iff] at hr
      obtain ⟨v, hv, rfl⟩ := hr
      have ex := ev_rp hs hf x
      have ey := ev_rp hs hf y
      rw [hx] at ex
      rw [hy] at ey
      refine good_same hs (v := v) ?_ (.im (.sc _ ?_))
      · have := strOp_run (P := C.P) hv t w
        simp only [execOp, hop, ex.sc_inv.1, ey.sc_inv.1, eqGuard]
        cases op <;> simp [Sem.run_bind, this]
      · unfold strOp at hv
        cases op <;> simp only [Option.some.injEq] at hv <;> first | contradiction | (subst hv; rfl)
    · cases hr
  · rename_i t x hop
    split at hr
    · rename_i b hx
      simp only [Option.some.injEq] at hr
      subst hr
      have ex := ev_rp hs hf x
      rw [hx] at ex
      exact good_same hs (v := .bool !b) (by simp [execOp, hop, ex.sc_inv.1, Op.unary]) (.im (.sc _ rfl))
    · cases hr
  · rename_i t x hop
    split at hr
    · rename_i k n hx
      simp only [Option.map_eq_some_iff] at hr
      obtain ⟨v, hv, rfl⟩ := hr
      have ex := ev_rp hs hf x
      rw [hx] at ex
      simp only [intOp, Option.some.injEq, fitI_wrap] at hv
      subst hv
      exact good_same hs (by simp [execOp, hop, ex.sc_inv.1, Op.unary, Op.intArith]) (.im (.sc _ rfl))
    · cases hr
  · rename_i src dst x hop
    split at hr
    · rename_i k0 n hx
      split at hr
      · rename_i k1 k h1 h2
        simp only [Option.some.injEq] at hr
        subst hr
        have ex := ev_rp hs hf x
        rw [hx] at ex
        rw [fitI_wrap]
        exact good_same hs (v := .int k (k.wrap n)) (by simp [execOp, hop, ex.sc_inv.1, convert, run_underlying h1, run_underlying h2, Conv.intToInt]) (.im (.sc _ rfl))
      · cases hr
    · cases hr
  · rename_i t x ix hop
    split at hr
    · rename_i s k i hx hi
      split at hr
      · rename_i hc
        simp only [Option.map_eq_some_iff] at hr
        obtain ⟨b, hb, rfl⟩ := hr
        have ex := ev_rp hs hf x
        have ei := ev_rp hs hf ix
        rw [hx] at ex
        rw [hi] at ei
        have hu : C.P.underlying t = some .string := by
          have := hc.1
          unfold isStr at this
          split at this
          · assumption
          · cases this
        have hg : s[i.toNat]? = some b := by
          rw [← hb]
          show (if h : i.toNat < s.size then some s[i.toNat] else none) = _
          split
          · rename_i h
            have : i.toNat < s.data.toList.length := by simpa using h
            rw [List.getElem?_eq_getElem this]
            rfl
          · rename_i h
            rw [List.getElem?_eq_none (by simpa using h)]
        refine good_same hs (v := .int .u8 b.toNat) ?_ (.im (.sc _ rfl))
        simp [execOp, hop, ex.sc_inv.1, ei.sc_inv.1, Instr.index, asIntOf, run_underlying hu, hc.2, hg]
      · cases hr
    · cases hr
  · rename_i args tys hop
    split at hr
    · rename_i x t hl ht
      have hl' : args = #[x] := by cases args; simp_all
      have ht' : tys = #[t] := by cases tys; simp_all
      subst hl' ht'
      split at hr
      · rename_i s hx
        split at hr
        · rename_i hc
          simp only [Option.some.injEq] at hr
          subst hr
          have ex := ev_rp hs hf x
          rw [hx] at ex
          have hu : C.P.underlying t = some .string := by
            unfold isStr at hc
            split at hc
            · assumption
            · cases hc
          refine good_same hs (v := .int .i64 s.size) ?_ (.im (.sc _ rfl))
          simp [execOp, hop, resolve, invoke, builtin, Builtin.len_, ex.sc_inv.1, run_underlying hu, goInt]
        · cases hr
      · rename_i hx
        split at hr
        · rename_i hc
          simp only [Option.some.injEq] at hr
          subst hr
          have ex := ev_rp hs hf x
          rw [hx] at ex
          obtain ⟨el, hu⟩ : ∃ el, C.P.underlying t = some (.slice el) := by
            unfold isSlT at hc
            split at hc
            · rename_i el hu; exact ⟨el, hu⟩
            · cases hc
          refine good_same hs (v := .int .i64 0) ?_ (.im (.sc _ rfl))
          simp [execOp, hop, resolve, invoke, builtin, Builtin.len_, ex.sc_inv.1, run_underlying hu, goInt]
        · cases hr
      · cases hr
    · cases hr
  · rename_i args tys hop
    split at hr
    · rename_i x y hl
      have hl' : args = #[x, y] := by cases args; simp_all
      subst hl'
      split at hr
      · rename_i k p k' q hx hy
        simp only [Option.some.injEq] at hr
        subst hr
        have ex := ev_rp hs hf x
        have ey := ev_rp hs hf y
        rw [hx] at ex
        rw [hy] at ey
        refine good_same hs (v := .int k (if q > p then q else p)) ?_ (.im (.sc _ rfl))
        simp [execOp, hop, resolve, invoke, builtin, Builtin.max_, Builtin.max2, ex.sc_inv.1, ey.sc_inv.1]
      · cases hr
    · cases hr
  · rename_i args tys hop
    split at hr
    · rename_i x y hl
      have hl' : args = #[x, y] := by cases args; simp_all
      subst hl'
      split at hr
      · rename_i k p k' q hx hy
        simp only [Option.some.injEq] at hr
        subst hr
        have ex := ev_rp hs hf x
        have ey := ev_rp hs hf y
        rw [hx] at ex
        rw [hy] at ey
        refine good_same hs (v := .int k (if q < p then q else p)) ?_ (.im (.sc _ rfl))
        simp [execOp, hop, resolve, invoke, builtin, Builtin.min_, Builtin.min2, ex.sc_inv.1, ey.sc_inv.1]
      · cases hr
    · cases hr
  · cases hr

theorem slow_good {C : Cx} {w : World} {X : Nat → Prop} {ρ : Nat → Nat} {h : Hp} (hs : Sim C.G w X ρ h) {a : Act} {fr : List AV} (hf : RF w (tot X ρ h) ρ h.length a.tmps fr) {o : Oper} {r : AV}
    (hr : slowOp C (ev C fr) o = some r) : Good C o a w X ρ h r h := by
  unfold slowOp at hr
  split at hr
  · rename_i hc
    simp only [Bool.and_eq_true, List.all_eq_true, Bool.not_eq_true'] at hc
    obtain ⟨hns, hall⟩ := hc
    have he : execOp a.eval o = execOp (fun x => detOf (ev C fr x)) o :=
      execOp_congr o (fun cs b hsel => by simp [hsel, isSelect] at hns) fun x hx => det_inv (ev_rp hs hf x) (hall x (by simpa using hx))
    split at hr
    · rename_i v hv
      have hrun := runPure_run hv w
      rw [← he] at hrun
      refine good_same hs hrun ?_
      unfold ofResult at hr
      split at hr
      · rename_i vs
        split at hr
        · rename_i hall
          simp only [Option.some.injEq] at hr
          subst hr
          obtain ⟨h1, _, h3⟩ := flats_rp (w := w) (X := tot X ρ h) hall
          exact .im (.tp vs _ h1 h3)
        · cases hr
      · rename_i vs
        split at hr
        · rename_i hall
          simp only [Option.some.injEq] at hr
          subst hr
          obtain ⟨h1, h2, h3⟩ := flats_rp (w := w) (X := tot X ρ h) hall
          exact .im (.ag vs _ h1 h2 h3)
        · cases hr
      · split at hr
        · simp only [Option.some.injEq] at hr
          subst hr
          exact .im (.sc _ (by assumption))
        · cases hr
    · cases hr
  · cases hr


theorem scalar_good {C : Cx} {w : World} {X : Nat → Prop} {ρ : Nat → Nat} {h : Hp} (hs : Sim C.G w X ρ h) {a : Act} {fr : List AV} (hf : RF w (tot X ρ h) ρ h.length a.tmps fr) {o : Oper} {r : AV}
    (hr : scalarOp C (ev C fr) o = some r) : Good C o a w X ρ h r h := by
  unfold scalarOp at hr
  split at hr
  · rename_i r' hq
    simp only [Option.some.injEq] at hr
    subst hr
    exact fast_good hs hf hq
  · exact slow_good hs hf hr

end Go.Ae

/-
  The abstract evaluator, part 4: the operations on memory.
-/
set_option linter.unusedSimpArgs false
namespace Go.Ae
open Go

section ops
variable {C : Cx} {w : World} {X : Nat → Prop} {ρ : Nat → Nat} {h : Hp} {a : Act} {fr : List AV} {o : Oper}

theorem run_new (P : Program) (w : World) (ob : Obj) : (newObj ob).run P w = .ok w.heap.size (w.alloc ob) := rfl
theorem natOf_inv {n : Nat} {v : Value} {x : AV} {i : Nat} (hv : Rp w X ρ n v x) (hn : natOf x = some i) : ∃ k j, v = .int k j ∧ 0 ≤ j ∧ j.toNat = i := by
  unfold natOf at hn
  split at hn
  · rename_i k j
    split at hn
    · simp only [Option.some.injEq] at hn
      obtain ⟨rfl, _⟩ := hv.sc_inv
      exact ⟨k, j, rfl, by assumption, hn⟩
    · cases hn
  · cases hn

theorem g_move (hs : Sim C.G w X ρ h) (hf : RF w (tot X ρ h) ρ h.length a.tmps fr) {x : Operand} (hop : o.op = .move x ∨ o.op = .assign x) : Good C o a w X ρ h (ev C fr x) h :=
  good_same hs (by rcases hop with hop | hop <;> simp only [execOp, hop, Sem.run_pure]) (ev_rp hs hf x)

theorem g_pick (hs : Sim C.G w X ρ h) (hf : RF w (tot X ρ h) ρ h.length a.tmps fr) {c x y : Operand} (hop : o.op = .pick c x y) {t : Bool} (hc : ev C fr c = .sc (.bool t)) :
    Good C o a w X ρ h (bif t then ev C fr x else ev C fr y) h := by
  have h1 := ev_rp hs hf c
  rw [hc] at h1
  have h2 := h1.sc_inv.1
  refine good_same (v := if t then a.eval x else a.eval y) hs ?_ ?_
  · simp only [execOp, hop, h2, asBool, Sem.run_bind, Sem.run_pure, Result.andThen_ok]
  · cases t
    · exact ev_rp hs hf y
    · exact ev_rp hs hf x

theorem own_pt (w0 : World) (h : Hp) (ρ : Nat → Nat) (w' : World) (X' : Nat → Prop) (m : Nat) (hm : h.length < m) : Rp w' X' (fun i => if i = h.length then w0.heap.size else ρ i) m (.pointer (some ⟨w0.heap.size, 0, none⟩)) (.pt h.length 0) := by
  have := Rp.pt (w := w') (X := X') (ρ := fun i => if i = h.length then w0.heap.size else ρ i) h.length 0 hm
  simpa using this

theorem g_alloc (hs : Sim C.G w X ρ h) {t : TypeId} (hop : o.op = .alloc t) {i : Ti} (hi : tiOf C.P t = some i) : Good C o a w X ρ h (.pt h.length 0) (h ++ [.row (i.zero.map .sc)]) := by
  obtain ⟨d, info, z, h1, h2, h3, h4, h5, h6, h7, h8, h9⟩ := tiOf_spec hi
  have he := ext_alloc hs z.cells t (i.zero.map .sc) (fun k => z.cells.getD k undef) (by simp [h7]) (fun k x hk => by
    rw [h7] at hk
    simp only [List.getElem?_map, Option.map_eq_some_iff] at hk
    obtain ⟨u, hu, rfl⟩ := hk
    have hm : u ∈ z.cells.toList := List.mem_of_getElem? hu
    have hu' : z.cells[k]? = some u := by simpa using hu
    have : z.cells.getD k undef = u := by simp [hu']
    rw [this]
    exact ⟨hu', flat_one (h8 u hm), .im (.sc u (h8 u hm))⟩) (0, 0) (.inl rfl)
  refine good_value (v := .pointer (some ⟨w.heap.size, 0, none⟩)) ?_ he (own_pt w h ρ _ _ _ (by simp))
  simp only [execOp, hop, Instr.alloc, Sem.run_bind, run_zero h2 h3, Result.andThen_ok, newVar, newRow, run_new, Sem.run_pure]

theorem g_box (hs : Sim C.G w X ρ h) (hf : RF w (tot X ρ h) ρ h.length a.tmps fr) {t : TypeId} {x : Operand} (hop : o.op = .box t x) {cs : List AV} (hc : cls (ev C fr x) = some cs) :
    Good C o a w X ρ h (.pt h.length 0) (h ++ [.row cs]) := by
  obtain ⟨h1, h2, h3⟩ := (ev_rp hs hf x).cls_inv hc
  have he := ext_alloc hs (a.eval x).cells t cs (fun k => (a.eval x).cells.getD k undef) (by omega) (fun k y hk => by
    have hlt : k < (a.eval x).cells.size := by have := (List.getElem?_eq_some_iff.1 hk).1; omega
    refine ⟨?_, h2 k hlt, h3 k y hk⟩
    simp [hlt]) (0, 0) (.inl rfl)
  refine good_value (v := .pointer (some ⟨w.heap.size, 0, none⟩)) ?_ he (own_pt w h ρ _ _ _ (by simp))
  simp only [execOp, hop, Instr.box, Sem.run_bind, Result.andThen_ok, newVar, newRow, run_new, Sem.run_pure]

theorem g_load (hs : Sim C.G w X ρ h) (hf : RF w (tot X ρ h) ρ h.length a.tmps fr) {t : TypeId} {x : Operand} (hop : o.op = .load t x) {i : Ti} (hi : tiOf C.P t = some i) {id off : Nat} {cs : List AV}
    (hx : ev C fr x = .pt id off) (hid : rowOf h id = some cs) {y : AV} (hp : part i.agg off i.size cs = some y) : Good C o a w X ρ h y h := by
  have h1 := ev_rp hs hf x
  rw [hx] at h1
  obtain ⟨h2, h3⟩ := h1.pt_inv
  obtain ⟨cur, t0, fz, us, c1, c3⟩ := hs.cells hid
  obtain ⟨v, hv, hr⟩ := load_part (ρ := ρ) (n := h.length) (X := tot X ρ h) hi (o := 0) c1 (us := us) (cs := cs) (fun k x hk => by simpa using c3 k x hk) hp
  refine good_same hs (v := v) ?_ hr
  simp only [Nat.zero_add] at hv
  simp only [execOp, hop, Instr.loadAt, Instr.sureAddr, h2, Sem.run_bind, Sem.run_pure, Result.andThen_ok, hv]

theorem g_loadR (hs : Sim C.G w X ρ h) (hf : RF w (tot X ρ h) ρ h.length a.tmps fr) {t : TypeId} {x : Operand} (hop : o.op = .load t x) {i : Ti} (hi : tiOf C.P t = some i) {row : List AV} {j : Nat}
    (hx : ev C fr x = .rp row j) {y : AV} (hp : part i.agg j i.size row = some y) : Good C o a w X ρ h y h := by
  have h1 := ev_rp hs hf x
  rw [hx] at h1
  have h2 := h1.rp_inv
  cases hq : a.eval x <;> rw [hq] at h2 <;> cases h2
  rename_i b o' us cur t0 fz c1 c2 c3 c4
  obtain ⟨v, hv, hr⟩ := load_part (ρ := ρ) (n := h.length) (X := tot X ρ h) hi (o := o') c2 (us := us) (cs := row) (fun k x hk => ⟨(c3 k x hk).1, (c3 k x hk).2, .im (c4 k x hk)⟩) hp
  refine good_same hs (v := v) ?_ hr
  simp only [execOp, hop, Instr.loadAt, Instr.sureAddr, hq, Sem.run_bind, Sem.run_pure, Result.andThen_ok, hv]

theorem splice_get {cs vs : List AV} {off : Nat} (hle : off ≤ cs.length) (k : Nat) : (splice cs off vs)[k]? = if off ≤ k ∧ k < off + vs.length then vs[k - off]? else cs[k]? := by
  unfold splice
  by_cases h1 : k < off
  · rw [if_neg (by omega), List.append_assoc, List.getElem?_append_left (by simp; omega), List.getElem?_take, if_pos h1]
  · by_cases h2 : k < off + vs.length
    · rw [if_pos (by omega), List.append_assoc, List.getElem?_append_right (by simp; omega), List.getElem?_append_left (by simp; omega)]
      congr 1
      simp
      omega
    · rw [if_neg (by omega), List.getElem?_append_right (by simp; omega), List.getElem?_drop]
      congr 1
      simp
      omega
theorem splice_length' {cs vs : List AV} {off : Nat} (hle : off ≤ cs.length) : (splice cs off vs).length = max cs.length (off + vs.length) := by
  unfold splice; simp; omega
theorem splice_length {cs vs : List AV} {off : Nat} (hle : off + vs.length ≤ cs.length) : (splice cs off vs).length = cs.length := by
  unfold splice; simp; omega

theorem run_storeCells_fz (P : Program) (g o : Nat) (t : TypeId) (fz : Nat × Nat) : ∀ (vs : List Value) (i : Nat) (cur : Array Value) (w : World), w.heap[g]? = some (.cells cur t fz) → Fz fz cur → o + i + vs.length ≤ cur.size → (∀ v ∈ vs, v.oneCell' = true) →
    (storeCells ⟨g, o, none⟩ vs i).run P w = .ok () (w.setRow g (cur.toList.take (o + i) ++ vs ++ cur.toList.drop (o + i + vs.length)).toArray)
  | [], i, cur, w, hg, _, _, _ => by
    simp only [storeCells, List.append_nil, List.length_nil, Nat.add_zero, List.take_append_drop, Array.toArray_toList]
    rw [setRow_self w g cur t fz hg]
    rfl
  | v :: rest, i, cur, w, hg, hfz, hl, h1 => by
    have hi : o + i < cur.size := by simp at hl; omega
    have hadd : (⟨g, o, none⟩ : Addr).add i = ⟨g, o + i, none⟩ := by unfold Addr.add; split <;> simp_all
    have hcell : w.cell? ⟨g, o + i, none⟩ = some cur[o + i] := by simp [World.cell?, hg, hi]
    have hfro : w.frozen? ⟨g, o + i, none⟩ = false := by
      rcases hfz with rfl | hfz
      · simp [World.frozen?, hg]
      · obtain ⟨lo, hi'⟩ := fz
        simp only [World.frozen?, hg, Bool.and_eq_false_iff, decide_eq_false_iff_not]
        left
        simp only at hfz
        omega
    have hst : (store ((⟨g, o, none⟩ : Addr).add i) v).run P w = .ok () (w.setRow g (cur.setIfInBounds (o + i) v)) := by
      rw [hadd, run_store P w _ v _ (h1 v (by simp)), hcell]
      simp [hfro, setCell_eq_setRow w g (o + i) cur t fz v hg]
    have ih := run_storeCells_fz P g o t fz rest (i + 1) (cur.setIfInBounds (o + i) v) (w.setRow g (cur.setIfInBounds (o + i) v)) (setRow_heap w g cur _ t _ hg) (hfz.imp (fun q => q) (fun q => by simpa using q)) (by simp at hl ⊢; omega) (fun x hx => h1 x (by simp [hx]))
    simp only [storeCells, Sem.run_bind, hst, Result.andThen_ok, ih, setRow_setRow]
    congr 3
    have e := list_seg_step cur.toList (o + i) v rest (by simp at hl ⊢; omega)
    simpa [Array.toList_setIfInBounds, Nat.add_assoc] using e

/-- A run of cells written into an own row. -/
theorem write_row' (hs : Sim C.G w X ρ h) {id off : Nat} {cs : List AV} (hid : h[id]? = some (.row cs)) {vs : List AV} (hle : off ≤ cs.length)
    (hfit : ∀ (cur : Array Value) (t : TypeId) (fz : Nat × Nat), w.heap[ρ id]? = some (.cells cur t fz) → off + vs.length ≤ cur.size) {vals : List Value} (hlen : vals.length = vs.length)
    (hone : ∀ v ∈ vals, v.oneCell' = true) (hrel : ∀ (k : Nat) (x : AV), vs[k]? = some x → Rp w (tot X ρ h) ρ h.length (vals.getD k undef) x) :
    ∃ w', (storeCells ⟨ρ id, off, none⟩ vals).run C.P w = .ok () w' ∧ Ext C.G w X ρ h w' ρ (h.set id (.row (splice cs off vs))) := by
  obtain ⟨cur, t0, fz, us, c1, hfz, c2, c3⟩ := hs.row id cs hid
  have hfit' := hfit cur t0 fz c1
  have hst := run_storeCells_fz C.P (ρ id) off t0 fz vals 0 cur w c1 hfz (by omega) hone
  refine ⟨_, hst, ?_⟩
  have hsz : (cur.toList.take (off + 0) ++ vals ++ cur.toList.drop (off + 0 + vals.length)).toArray.size = cur.size := by simp; omega
  refine ext_write (w' := w.setRow (ρ id) (cur.toList.take (off + 0) ++ vals ++ cur.toList.drop (off + 0 + vals.length)).toArray) hs id cs hid cur _ t0 fz hfz c1 rfl rfl rfl (by simp [World.setRow]) (setRow_heap w (ρ id) cur _ t0 _ c1) hsz (fun b hb => setRow_other w (ρ id) b _ hb) (splice cs off vs)
    (fun k => (cur.toList.take (off + 0) ++ vals ++ cur.toList.drop (off + 0 + vals.length)).getD k undef) (by rw [splice_length' hle, hsz]; omega) ?_
  intro k x hk
  rw [splice_get hle] at hk
  by_cases hin : off ≤ k ∧ k < off + vs.length
  · rw [if_pos hin] at hk
    have hv : (cur.toList.take (off + 0) ++ vals ++ cur.toList.drop (off + 0 + vals.length))[k]? = some (vals.getD (k - off) undef) := by
      rw [List.append_assoc, List.getElem?_append_right (by simp; omega), List.getElem?_append_left (by simp; omega)]
      have : k - off < vals.length := by omega
      simp [show min off cur.size = off by omega, List.getD, List.getElem?_eq_getElem this]
    have hm : vals.getD (k - off) undef ∈ vals := by
      have : k - off < vals.length := by omega
      simp [List.getD, List.getElem?_eq_getElem this]
    refine ⟨by rw [List.getElem?_toArray]; simp only [List.getD, hv, Option.getD_some], ?_, ?_⟩
    · simp only [List.getD, hv, Option.getD_some]; exact hone _ hm
    · simp only [List.getD, hv, Option.getD_some]
      have := hrel (k - off) x hk
      simpa [List.getD] using this
  · rw [if_neg hin] at hk
    have h3 := c3 k x hk
    have hv : (cur.toList.take (off + 0) ++ vals ++ cur.toList.drop (off + 0 + vals.length))[k]? = some (us k) := by
      have hck : cur.toList[k]? = some (us k) := by simpa using h3.1
      by_cases h4 : k < off
      · rw [List.append_assoc, List.getElem?_append_left (by simp; omega), List.getElem?_take, if_pos (by omega)]; exact hck
      · rw [List.getElem?_append_right (by simp; omega), List.getElem?_drop, ← hck]
        congr 1
        simp
        omega
    refine ⟨by rw [List.getElem?_toArray]; simp only [List.getD, hv, Option.getD_some], ?_, ?_⟩
    · simp only [List.getD, hv, Option.getD_some]; exact h3.2.1
    · simp only [List.getD, hv, Option.getD_some]; exact h3.2.2

/-- The same within the known cells. -/
theorem write_row (hs : Sim C.G w X ρ h) {id off : Nat} {cs : List AV} (hid : h[id]? = some (.row cs)) {vs : List AV} (hle : off + vs.length ≤ cs.length) {vals : List Value} (hlen : vals.length = vs.length)
    (hone : ∀ v ∈ vals, v.oneCell' = true) (hrel : ∀ (k : Nat) (x : AV), vs[k]? = some x → Rp w (tot X ρ h) ρ h.length (vals.getD k undef) x) :
    ∃ w', (storeCells ⟨ρ id, off, none⟩ vals).run C.P w = .ok () w' ∧ Ext C.G w X ρ h w' ρ (h.set id (.row (splice cs off vs))) :=
  write_row' hs hid (by omega) (fun cur t fz hc => by
    obtain ⟨cur', t', fz', us, c1, _, c2, c3⟩ := hs.row id cs hid
    rw [hc] at c1
    cases c1
    omega) hlen hone hrel

theorem g_store (hs : Sim C.G w X ρ h) (hf : RF w (tot X ρ h) ρ h.length a.tmps fr) {t : TypeId} {x y : Operand} (hop : o.op = .store t x y) {i : Ti} (hi : tiOf C.P t = some i) {id off : Nat} {cs vs : List AV}
    (hx : ev C fr x = .pt id off) (hid : h[id]? = some (.row cs)) (hv : cls (ev C fr y) = some vs) (hl : vs.length = i.size) (hle : off + i.size ≤ cs.length) :
    Good C o a w X ρ h .un (h.set id (.row (splice cs off vs))) := by
  obtain ⟨d, info, z, h1, h2, h3, h4, h5, h6, h7, h8, h9⟩ := tiOf_spec hi
  have e1 := ev_rp hs hf x
  rw [hx] at e1
  obtain ⟨e2, e3⟩ := e1.pt_inv
  obtain ⟨f1, f2, f3⟩ := (ev_rp hs hf y).cls_inv hv
  obtain ⟨w', hw, he⟩ := write_row hs hid (off := off) (vs := vs) (by omega) (vals := (a.eval y).cells.toList) (by simpa using f1) (fun v hv => by
    obtain ⟨k, hk, rfl⟩ := List.getElem_of_mem hv
    have := f2 k (by simpa using hk)
    simp at hk
    simpa [hk] using this) (fun k x hk => by simpa [List.getD] using f3 k x hk)
  refine good_skip ?_ he
  have hne : ¬ (a.eval y).cells.size ≠ info.size := by omega
  simp only [execOp, hop, Instr.storeAt, Instr.sureAddr, e2, storeVar, Sem.run_bind, Sem.run_pure, Result.andThen_ok, run_size h2, hne, if_false, hw]

theorem g_nil (hs : Sim C.G w X ρ h) (hf : RF w (tot X ρ h) ρ h.length a.tmps fr) {x : Operand} (hop : o.op = .nilCheck x) (hx : (∃ id off, ev C fr x = .pt id off) ∨ (∃ row j, ev C fr x = .rp row j) ∨ ∃ f cs, ev C fr x = .fn f cs) :
    Good C o a w X ρ h (ev C fr x) h := by
  have h1 := ev_rp hs hf x
  refine good_same hs (v := a.eval x) ?_ h1
  rcases hx with ⟨id, off, hx⟩ | ⟨row, j, hx⟩ | ⟨f, cs, hx⟩ <;> rw [hx] at h1
  · simp only [execOp, hop, h1.pt_inv.1, Sem.run_pure]
  · have h2 := h1.rp_inv
    cases hq : a.eval x <;> rw [hq] at h2 <;> cases h2
    simp only [execOp, hop, hq, Sem.run_pure]
  · obtain ⟨us, h2, _⟩ := h1.fn_inv
    simp only [execOp, hop, h2, Sem.run_pure]

theorem g_field (hs : Sim C.G w X ρ h) (hf : RF w (tot X ρ h) ρ h.length a.tmps fr) {t : TypeId} {x : Operand} {f : Nat} (hop : o.op = .fieldAddr t x f) {i : Ti} (hi : tiOf C.P t = some i) {fs : List (Nat × Nat × Bool)}
    (hk : i.kd = .struct fs) {of sz : Nat} {ag : Bool} (hfd : fs[f]? = some (of, sz, ag)) (hsz : sz ≠ 0) :
    (∀ id off, ev C fr x = .pt id off → Good C o a w X ρ h (.pt id (off + of)) h) ∧ (∀ row j, ev C fr x = .rp row j → Good C o a w X ρ h (.rp row (j + of)) h) := by
  obtain ⟨d, info, z, h1, h2, h3, h4, h5, h6, h7, h8, h9⟩ := tiOf_spec hi
  rw [hk] at h4
  obtain ⟨fields, rfl, hlen, hget⟩ := kdOf_struct h4
  have hflt : f < fields.size := by have := (List.getElem?_eq_some_iff.1 hfd).1; omega
  obtain ⟨fi, fd, g1, g2, g3⟩ := hget f fields[f] (Array.getElem?_eq_getElem hflt)
  rw [hfd] at g3
  simp only [Option.some.injEq, Prod.mk.injEq] at g3
  obtain ⟨rfl, rfl, rfl⟩ := g3
  have e1 := ev_rp hs hf x
  constructor
  · intro id off hx
    rw [hx] at e1
    obtain ⟨e2, e3⟩ := e1.pt_inv
    refine good_same hs (v := .pointer (some ⟨ρ id, off + fields[f].offset, none⟩)) ?_ (.pt id _ e3)
    simp only [execOp, hop, Instr.fieldAt, run_underlying h1, Sem.run_bind, Result.andThen_ok, Array.getElem?_eq_getElem hflt, e2, Instr.sureAddr, Sem.run_pure, fieldPlace, run_size g1, hsz, if_false, add_lit]
  · intro row j hx
    rw [hx] at e1
    have e2 := e1.rp_inv
    cases hq : a.eval x <;> rw [hq] at e2 <;> cases e2
    rename_i b o' us cur t0 fz c1 c2 c3 c4
    refine good_same hs (v := .pointer (some ⟨b, o' + (j + fields[f].offset), none⟩)) ?_ (.im (.rp b o' _ row us cur t0 fz c1 c2 c3 c4))
    simp only [execOp, hop, Instr.fieldAt, run_underlying h1, Sem.run_bind, Result.andThen_ok, Array.getElem?_eq_getElem hflt, hq, Instr.sureAddr, Sem.run_pure, fieldPlace, run_size g1, hsz, if_false, add_lit, Nat.add_assoc]

theorem g_indexS (hs : Sim C.G w X ρ h) (hf : RF w (tot X ρ h) ρ h.length a.tmps fr) {t : TypeId} {x ix : Operand} (hop : o.op = .indexAddr t x ix) {i : Ti} (hi : tiOf C.P t = some i) {sz by' : Nat} {ag : Bool} {ez : List Value}
    (hk : i.kd = .slice sz ag by' ez) {n : Nat} (hn : natOf (ev C fr ix) = some n) :
    (∀ id off len k, ev C fr x = .sl id sz off len k → n < len → Good C o a w X ρ h (.pt id (off + n * sz)) h) ∧ (∀ rows z row, ev C fr x = .ls sz rows z → rows[n]? = some row → Good C o a w X ρ h (.rp row 0) h) := by
  obtain ⟨d, info, z, h1, h2, h3, h4, h5, h6, h7, h8, h9⟩ := tiOf_spec hi
  rw [hk] at h4
  obtain ⟨e, ei, ed, ez', rfl, k1, k2, k3, rfl, k5, k6, k7, k8, k9, k10⟩ := kdOf_slice h4
  obtain ⟨kk, j, hj, hj0, hjn⟩ := natOf_inv (ev_rp hs hf ix) hn
  have e1 := ev_rp hs hf x
  constructor
  · intro id off len k hx hlt
    rw [hx] at e1
    obtain ⟨cap, cur, t0, fz, e2, e3, e4, _, _, e6, e7⟩ := e1.sl_inv
    refine good_same hs (v := .pointer (some ⟨ρ id, off + n * ei.size, none⟩)) ?_ (.pt id _ e3)
    have hc : 0 ≤ j ∧ j < (len : Int) := by omega
    simp only [execOp, hop, Instr.indexAt, hj, asIntOf, e2, run_underlying h1, Sem.run_bind, Result.andThen_ok, Sem.run_pure, hc, and_self, if_true, run_size k1, add_lit, hjn]
  · intro rows zz row hx hrow
    rw [hx] at e1
    rcases e1.ls_inv.ls_cases with ⟨rfl, _⟩ | ⟨b, o', cap, us, cur, t0, fz, hq, c1, c2, c4, c5, c6, c7, c8⟩
    · simp at hrow
    · have hlt : n < rows.length := (List.getElem?_eq_some_iff.1 hrow).1
      have hc : 0 ≤ j ∧ j < (rows.length : Int) := by omega
      refine good_same hs (v := .pointer (some ⟨b, (o' + n * ei.size) + 0, none⟩)) ?_ (.im (.rp b _ 0 row (us n) cur t0 fz c1 c2 (fun k x hk => ⟨(c8 n row k x hrow hk).1, (c8 n row k x hrow hk).2.1⟩) (fun k x hk => (c8 n row k x hrow hk).2.2)))
      simp only [execOp, hop, Instr.indexAt, hj, asIntOf, hq, run_underlying h1, Sem.run_bind, Result.andThen_ok, Sem.run_pure, hc, and_self, if_true, run_size k1, add_lit, hjn, Nat.add_zero]

theorem g_indexA (hs : Sim C.G w X ρ h) (hf : RF w (tot X ρ h) ρ h.length a.tmps fr) {t : TypeId} {x ix : Operand} (hop : o.op = .indexAddr t x ix) {i : Ti} (hi : tiOf C.P t = some i) {m sz : Nat} {ag : Bool}
    (hk : i.kd = .array m sz ag) {n : Nat} (hn : natOf (ev C fr ix) = some n) (hlt : n < m) :
    (∀ id off, ev C fr x = .pt id off → Good C o a w X ρ h (.pt id (off + n * sz)) h) ∧ (∀ row j, ev C fr x = .rp row j → Good C o a w X ρ h (.rp row (j + n * sz)) h) := by
  obtain ⟨d, info, z, h1, h2, h3, h4, h5, h6, h7, h8, h9⟩ := tiOf_spec hi
  rw [hk] at h4
  obtain ⟨e, ei, ed, rfl, k1, k2, rfl, k4⟩ := kdOf_array h4
  obtain ⟨kk, j0, hj, hj0, hjn⟩ := natOf_inv (ev_rp hs hf ix) hn
  have e1 := ev_rp hs hf x
  have hc : 0 ≤ j0 ∧ j0 < (m : Int) := by omega
  constructor
  · intro id off hx
    rw [hx] at e1
    obtain ⟨e2, e3⟩ := e1.pt_inv
    refine good_same hs (v := .pointer (some ⟨ρ id, off + n * ei.size, none⟩)) ?_ (.pt id _ e3)
    simp only [execOp, hop, Instr.indexAt, hj, asIntOf, e2, run_underlying h1, Sem.run_bind, Result.andThen_ok, Sem.run_pure, Instr.sureAddr, hc, and_self, if_true, run_size k1, add_lit, hjn]
  · intro row j hx
    rw [hx] at e1
    have e2 := e1.rp_inv
    cases hq : a.eval x <;> rw [hq] at e2 <;> cases e2
    rename_i b o' us cur t0 fz c1 c2 c3 c4
    refine good_same hs (v := .pointer (some ⟨b, o' + (j + n * ei.size), none⟩)) ?_ (.im (.rp b o' _ row us cur t0 fz c1 c2 c3 c4))
    simp only [execOp, hop, Instr.indexAt, hj, asIntOf, hq, run_underlying h1, Sem.run_bind, Result.andThen_ok, Sem.run_pure, Instr.sureAddr, hc, and_self, if_true, run_size k1, add_lit, hjn, Nat.add_assoc]

/-- A part of a value at hand. -/
theorem part_run {P : Program} {n : Nat} {t : TypeId} {d : TypeDesc} {info : TypeInfo} (h1 : P.underlying t = some d) (h2 : P.info? t = some info) {us : Array Value} {xs : List AV} (hl : us.size = xs.length)
    (hone : ∀ k, k < us.size → (us.getD k undef).oneCell' = true) (hrel : ∀ (k : Nat) (x : AV), xs[k]? = some x → Rp w X ρ n (us.getD k undef) x) {off : Nat} {y : AV} (hp : part (aggD d) off info.size xs = some y) :
    ∃ v, (Go.part t us off).run P w = .ok v w ∧ Rp w X ρ n v y := by
  unfold part at hp
  cases ha : aggD d with
  | true =>
    simp only [ha, if_true] at hp
    split at hp
    · rename_i hle
      simp only [Option.some.injEq] at hp
      subst hp
      refine ⟨.agg (us.extract off (off + info.size)), ?_, .ag _ _ (by simp; omega) (fun k hk => ?_) fun k x hk => ?_⟩
      · simp [Go.part, run_isAgg h1, ha, run_size h2]
      · have hk' : off + k < us.size := by simp at hk; omega
        have := hone (off + k) hk'
        simp at hk
        simpa [Array.getElem?_extract, hk', show k < min (off + info.size) us.size - off by omega] using this
      · rw [List.getElem?_take] at hk
        split at hk
        · rename_i hlt
          rw [List.getElem?_drop] at hk
          have hk' : off + k < us.size := by have := (List.getElem?_eq_some_iff.1 hk).1; omega
          have := hrel (off + k) x hk
          simpa [Array.getElem?_extract, hk', show k < min (off + info.size) us.size - off by omega] using this
        · cases hk
    · cases hp
  | false =>
    simp only [ha] at hp
    have hp' : xs[off]? = some y := by simpa using hp
    have hlt : off < us.size := by have := (List.getElem?_eq_some_iff.1 hp').1; omega
    refine ⟨us[off], ?_, by simpa [hlt] using hrel off y hp'⟩
    simp [Go.part, run_isAgg h1, ha, hlt]

theorem g_fieldV (hs : Sim C.G w X ρ h) (hf : RF w (tot X ρ h) ρ h.length a.tmps fr) {t : TypeId} {x : Operand} {f : Nat} (hop : o.op = .field t x f) {i : Ti} (hi : tiOf C.P t = some i) {fs : List (Nat × Nat × Bool)}
    (hk : i.kd = .struct fs) {of sz : Nat} {ag : Bool} (hfd : fs[f]? = some (of, sz, ag)) {cs : List AV} (hx : ev C fr x = .ag cs) {y : AV} (hp : part ag of sz cs = some y) : Good C o a w X ρ h y h := by
  obtain ⟨d, info, z, h1, h2, h3, h4, h5, h6, h7, h8, h9⟩ := tiOf_spec hi
  rw [hk] at h4
  obtain ⟨fields, rfl, hlen, hget⟩ := kdOf_struct h4
  have hflt : f < fields.size := by have := (List.getElem?_eq_some_iff.1 hfd).1; omega
  obtain ⟨fi, fd, g1, g2, g3⟩ := hget f fields[f] (Array.getElem?_eq_getElem hflt)
  rw [hfd] at g3
  simp only [Option.some.injEq, Prod.mk.injEq] at g3
  obtain ⟨rfl, rfl, rfl⟩ := g3
  have e1 := ev_rp hs hf x
  rw [hx] at e1
  obtain ⟨us, e2, e3, e4, e5⟩ := e1.ag_inv
  obtain ⟨v, hv, hr⟩ := part_run (P := C.P) g2 g1 e3 e4 e5 hp
  refine good_same hs (v := v) ?_ hr
  simp only [execOp, hop, Instr.field, run_underlying h1, Sem.run_bind, Result.andThen_ok, Array.getElem?_eq_getElem hflt, e2, asAgg, Sem.run_pure, hv]

theorem g_indexV (hs : Sim C.G w X ρ h) (hf : RF w (tot X ρ h) ρ h.length a.tmps fr) {t : TypeId} {x ix : Operand} (hop : o.op = .index t x ix) {i : Ti} (hi : tiOf C.P t = some i) {m sz : Nat} {ag : Bool}
    (hk : i.kd = .array m sz ag) {n : Nat} (hn : natOf (ev C fr ix) = some n) (hlt : n < m) {cs : List AV} (hx : ev C fr x = .ag cs) {y : AV} (hp : part ag (n * sz) sz cs = some y) : Good C o a w X ρ h y h := by
  obtain ⟨d, info, z, h1, h2, h3, h4, h5, h6, h7, h8, h9⟩ := tiOf_spec hi
  rw [hk] at h4
  obtain ⟨e, ei, ed, rfl, k1, k2, rfl, rfl⟩ := kdOf_array h4
  obtain ⟨kk, j0, hj, hj0, hjn⟩ := natOf_inv (ev_rp hs hf ix) hn
  have hc : 0 ≤ j0 ∧ j0 < (m : Int) := by omega
  have e1 := ev_rp hs hf x
  rw [hx] at e1
  obtain ⟨us, e2, e3, e4, e5⟩ := e1.ag_inv
  obtain ⟨v, hv, hr⟩ := part_run (P := C.P) k2 k1 e3 e4 e5 hp
  refine good_same hs (v := v) ?_ hr
  simp only [execOp, hop, Instr.index, hj, asIntOf, run_underlying h1, Sem.run_bind, Result.andThen_ok, e2, Sem.run_pure, hc, and_self, if_true, run_size k1, hjn, hv]

theorem g_extract (hs : Sim C.G w X ρ h) (hf : RF w (tot X ρ h) ρ h.length a.tmps fr) {x : Operand} {i : Nat} (hop : o.op = .extract x i) {vs : List AV} (hx : ev C fr x = .tp vs) {y : AV} (hy : vs[i]? = some y) : Good C o a w X ρ h y h := by
  have e1 := ev_rp hs hf x
  rw [hx] at e1
  obtain ⟨us, e2, e3, e4⟩ := e1.tp_inv
  have hlt : i < us.size := by have := (List.getElem?_eq_some_iff.1 hy).1; omega
  refine good_same hs (v := us.getD i undef) ?_ (e4 i y hy)
  simp [execOp, hop, Instr.extract, e2, hlt]

theorem g_makeFunc (hs : Sim C.G w X ρ h) (hf : RF w (tot X ρ h) ρ h.length a.tmps fr) {f : FuncId} {first caps : Array Operand} (hop : o.op = .makeFunc (.func f) first caps) (h0 : first.isEmpty = true) :
    Good C o a w X ρ h (.fn f (caps.toList.map (ev C fr))) h := by
  have : first = #[] := by simpa using h0
  subst this
  refine good_same hs (v := .func (.func f) #[] (caps.map a.eval)) ?_ ?_
  · simp [execOp, hop, Instr.makeFunc]
  · refine .fn f _ _ (by simp) fun k x hk => ?_
    simp only [List.getElem?_map, Option.map_eq_some_iff] at hk
    obtain ⟨y, hy, rfl⟩ := hk
    have hy' : caps[k]? = some y := by simpa using hy
    have := ev_rp hs hf y
    simpa [hy'] using this

theorem g_len (hs : Sim C.G w X ρ h) (hf : RF w (tot X ρ h) ρ h.length a.tmps fr) {x : Operand} {t : TypeId} {args : Array Operand} {tys : Array TypeId} (hop : o.op = .call { callee := .builtin .len, args := args, argTypes := tys }) (ha : args.toList = [x]) (ht : tys.toList = [t])
    {i : Ti} (hi : tiOf C.P t = some i) {sz by' : Nat} {ag : Bool} {ez : List Value} (hk : i.kd = .slice sz ag by' ez) {n : Nat} (hn : lenA (ev C fr x) = some n) : Good C o a w X ρ h (.sc (.int .i64 n)) h := by
  obtain ⟨d, info, z, h1, h2, h3, h4, h5, h6, h7, h8, h9⟩ := tiOf_spec hi
  rw [hk] at h4
  obtain ⟨e, ei, ed, ez', rfl, _⟩ := kdOf_slice h4
  obtain ⟨args⟩ := args
  obtain ⟨tys⟩ := tys
  simp only at ha ht
  subst ha ht
  have e1 := ev_rp hs hf x
  have hval : ∃ b cap, a.eval x = .slice b n cap := by
    cases hx : ev C fr x <;> rw [hx] at e1 hn <;> simp [lenA] at hn
    · rcases e1.ls_inv.ls_cases with ⟨rfl, b, cap, hq, _⟩ | ⟨b, o', cap, us, cur, t0, fz, hq, _⟩
      · exact ⟨b, cap, by rw [hq, ← hn]; rfl⟩
      · exact ⟨_, cap, by rw [hq, hn]⟩
    · obtain ⟨cap, _, _, _, e2, _⟩ := e1.sl_inv
      exact ⟨_, cap, by rw [e2, hn]⟩
  obtain ⟨b, cap, hq⟩ := hval
  refine good_same hs (v := .int .i64 n) ?_ (.im (.sc _ rfl))
  simp [execOp, hop, resolve, invoke, builtin, Builtin.len_, hq, run_underlying h1, goInt]
end ops
end Go.Ae

/-
  The abstract evaluator, part 5: literals, slices, append, copy.
-/
set_option linter.unusedSimpArgs false
namespace Go.Ae
open Go

def none' : Nat → Prop := fun _ => False

theorem quiet_step {w w' : World} {ρ : Nat → Nat} {h : Hp} (hst : Step w none' w' none') : Step w (own ρ h) w' (own ρ h) :=
  ⟨hst.os, hst.tape, hst.output, hst.size, fun b hb _ => hst.keep b hb (fun h => h), hst.row, fun _ _ hh => hh⟩

theorem ext_quiet {G : Nat → Option (List Value)} {w w' : World} {X : Nat → Prop} {ρ : Nat → Nat} {h : Hp} (hs : Sim G w X ρ h) (hst : Step w none' w' none') : Ext G w X ρ h w' ρ h := by
  have hk : ∀ b o, w.heap[b]? = some o → w'.heap[b]? = some o := fun b o hb => (hst.keep b (heap_lt hb) (fun h => h)).trans hb
  have hstep : Step w (own ρ h) w' (own ρ h) := quiet_step hst
  refine ⟨⟨fun b hb => Nat.lt_of_lt_of_le (hs.xlt b hb) hst.size, fun g row hg => ?_, hs.inj, hs.out, hs.cold, ?_⟩, fun _ _ => rfl, Nat.le_refl _, hstep⟩
  · obtain ⟨h1, c, t, fz, h2, h3⟩ := hs.glob g row hg
    exact ⟨h1, c, t, fz, hk g _ h2, h3⟩
  · intro i b hi
    by_cases hd : b = .dead
    · subst hd; trivial
    · have hb := hs.blk i b hi
      rw [hst.keep _ (hb.lt hd) (fun h => h)]
      exact hb.step hstep (fun _ _ => rfl) (Nat.le_refl _)

theorem calm_ri {w : World} {X : Nat → Prop} {ρ : Nat → Nat} {n : Nat} {v : Value} {x : AV} (h : Rp w X ρ n v x) (hc : calm x = true) : Ri w X v x := by
  have one : ∀ {v : Value} {x : AV}, Rp w X ρ n v x → (match x with | .sc _ | .ls .. | .rp .. => true | _ => false) = true → Ri w X v x := by
    intro v x h hx
    cases h with
    | im hi => exact hi
    | _ => simp at hx
  unfold calm at hc
  split at hc
  · exact one h rfl
  · exact one h rfl
  · exact one h rfl
  · rename_i xs
    obtain ⟨us, rfl, h1, h2, h3⟩ := h.ag_inv
    rw [List.all_eq_true] at hc
    exact .ag us xs h1 h2 fun k x hk => one (h3 k x hk) (hc x (List.mem_of_getElem? hk))
  · rename_i xs
    obtain ⟨us, rfl, h1, h3⟩ := h.fn_inv
    rw [List.all_eq_true] at hc
    exact .fn _ us xs h1 fun k x hk => one (h3 k x hk) (hc x (List.mem_of_getElem? hk))
  · cases hc

/-- The cells of a value under construction. -/
def RC (w : World) (X : Nat → Prop) (ρ : Nat → Nat) (n : Nat) (us : Array Value) (xs : List AV) : Prop :=
  us.size = xs.length ∧ (∀ k, k < us.size → (us.getD k undef).oneCell' = true) ∧ ∀ (k : Nat) (x : AV), xs[k]? = some x → Rp w X ρ n (us.getD k undef) x

theorem foldl_set_get (off : Nat) : ∀ (vs : List Value) (s : Nat) (cells : Array Value) (k : Nat), off + s + vs.length ≤ cells.size →
    ((vs.zipIdx s).foldl (fun cs p => cs.setIfInBounds (off + p.2) p.1) cells)[k]? = if off + s ≤ k ∧ k < off + s + vs.length then vs[k - (off + s)]? else cells[k]?
  | [], s, cells, k, _ => by simp; omega
  | v :: vs, s, cells, k, hle => by
    simp only [List.length_cons] at hle
    simp only [List.zipIdx_cons, List.foldl_cons]
    rw [foldl_set_get off vs (s + 1) _ k (by simp; omega)]
    by_cases h1 : off + s = k
    · subst h1
      rw [if_neg (by omega), if_pos (by simp)]
      have : off + s < cells.size := by omega
      simp [this]
    · by_cases h2 : off + (s + 1) ≤ k ∧ k < off + (s + 1) + vs.length
      · rw [if_pos h2, if_pos (by simp only [List.length_cons]; omega)]
        have : k - (off + s) = (k - (off + (s + 1))) + 1 := by omega
        rw [this, List.getElem?_cons_succ]
      · rw [if_neg h2, if_neg (by simp only [List.length_cons]; omega), Array.getElem?_setIfInBounds_ne h1]
theorem foldl_set_size (off : Nat) : ∀ (vs : List Value) (s : Nat) (cells : Array Value), ((vs.zipIdx s).foldl (fun cs p => cs.setIfInBounds (off + p.2) p.1) cells).size = cells.size
  | [], s, cells => rfl
  | v :: vs, s, cells => by simp only [List.zipIdx_cons, List.foldl_cons]; rw [foldl_set_size off vs (s + 1)]; simp

section lit
variable {C : Cx} {w : World} {X : Nat → Prop} {ρ : Nat → Nat} {h : Hp} {a : Act} {fr : List AV} {o : Oper}

theorem RC.set {n : Nat} {us : Array Value} {xs : List AV} (hr : RC w X ρ n us xs) {v : Value} {ys : List AV} (h1 : v.cells.size = ys.length) (h2 : ∀ k, k < v.cells.size → (v.cells.getD k undef).oneCell' = true)
    (h3 : ∀ (k : Nat) (y : AV), ys[k]? = some y → Rp w X ρ n (v.cells.getD k undef) y) {off : Nat} (hle : off + ys.length ≤ xs.length) :
    RC w X ρ n (v.cells.zipIdx.foldl (fun cs (p : Value × Nat) => cs.setIfInBounds (off + p.2) p.1) us) (splice xs off ys) := by
  obtain ⟨r1, r2, r3⟩ := hr
  have e : v.cells.zipIdx.foldl (fun cs (p : Value × Nat) => cs.setIfInBounds (off + p.2) p.1) us = (v.cells.toList.zipIdx 0).foldl (fun cs p => cs.setIfInBounds (off + p.2) p.1) us := by
    rw [← Array.foldl_toList, Array.toList_zipIdx]
  rw [e]
  have hget := fun k => foldl_set_get off v.cells.toList 0 us k (by simp; omega)
  simp only [Nat.add_zero, Array.length_toList] at hget
  have hval : ∀ k, ((v.cells.toList.zipIdx 0).foldl (fun cs (p : Value × Nat) => cs.setIfInBounds (off + p.2) p.1) us).getD k undef = if off ≤ k ∧ k < off + v.cells.size then v.cells.getD (k - off) undef else us.getD k undef := by
    intro k
    rw [Array.getD_eq_getD_getElem?, hget k]
    split
    · simp [Array.getD_eq_getD_getElem?]
    · simp [Array.getD_eq_getD_getElem?]
  refine ⟨by rw [foldl_set_size, splice_length hle]; exact r1, fun k hk => ?_, fun k x hk => ?_⟩
  · rw [hval]
    rw [foldl_set_size] at hk
    by_cases hc : off ≤ k ∧ k < off + v.cells.size
    · rw [if_pos hc]; exact h2 _ (by omega)
    · rw [if_neg hc]; exact r2 k hk
  · rw [hval]
    rw [splice_get (by omega)] at hk
    split at hk
    · rename_i hc
      rw [if_pos (by omega)]
      exact h3 _ x hk
    · rename_i hc
      rw [if_neg (by omega)]
      exact r3 k x hk

theorem fill_rel (hs : Sim C.G w X ρ h) (hf : RF w (tot X ρ h) ρ h.length a.tmps fr) {pA pV : Nat → Option (Nat × Nat)} (hp : ∀ i q, pA i = some q → pV i = some q) :
    ∀ (ps : List (Nat × Operand)) (us : Array Value) (xs out : List AV), RC w (tot X ρ h) ρ h.length us xs → fillA pA xs (ps.map fun p => (p.1, ev C fr p.2)) = some out →
      ∃ us', Instr.fill pV us (ps.map fun p => (p.1, a.eval p.2)) = some us' ∧ RC w (tot X ρ h) ρ h.length us' out
  | [], us, xs, out, hr, ho => by simp [fillA] at ho; subst ho; exact ⟨us, rfl, hr⟩
  | p :: ps, us, xs, out, hr, ho => by
    simp only [List.map_cons, fillA] at ho
    split at ho
    · rename_i off size cs hq hc
      split at ho
      · rename_i hcond
        obtain ⟨c1, c2, c3⟩ := (ev_rp hs hf p.2).cls_inv hc
        have hr' := hr.set c1 c2 c3 (off := off) (by omega)
        obtain ⟨us', e1, e2⟩ := fill_rel hs hf hp ps _ _ out hr' ho
        refine ⟨us', ?_, e2⟩
        simp only [List.map_cons, Instr.fill, hp _ _ hq]
        rw [if_neg (by have := hr.1; simp only [bne_iff_ne, ne_eq, Bool.or_eq_true, decide_eq_true_eq, not_or]; omega)]
        exact e1
      · cases ho
    · cases ho

theorem zero_RC {z : Value} (h8 : ∀ u ∈ z.cells.toList, flat u = true) (n : Nat) : RC w X ρ n z.cells (z.cells.toList.map .sc) := by
  refine ⟨by simp, fun k hk => ?_, fun k x hk => ?_⟩
  · have : z.cells.getD k undef ∈ z.cells.toList := by simp [hk]
    exact flat_one (h8 _ this)
  · simp only [List.getElem?_map, Option.map_eq_some_iff] at hk
    obtain ⟨u, hu, rfl⟩ := hk
    have hu' : z.cells[k]? = some u := by simpa using hu
    have : z.cells.getD k undef = u := by simp [hu']
    rw [this]
    exact .im (.sc u (h8 u (List.mem_of_getElem? hu)))

theorem places_run {P : Program} (w : World) : ∀ (fs : List Field) (l : List (Nat × Nat × Bool)), l.length = fs.length → (∀ (k : Nat) (f : Field), fs[k]? = some f → ∃ fi, P.info? f.type = some fi ∧ (l[k]?).map (fun q => (q.1, q.2.1)) = some (f.offset, fi.size)) →
    (fs.mapM (m := Sem) fun f => do pure (f.offset, ← sizeOf f.type)).run P w = .ok (l.map fun q => (q.1, q.2.1)) w
  | [], l, hl, _ => by
    have : l = [] := List.eq_nil_of_length_eq_zero (by simpa using hl)
    subst this
    simp
  | f :: fs, l, hl, hg => by
    cases l with
    | nil => simp at hl
    | cons q l =>
      obtain ⟨fi, h1, h2⟩ := hg 0 f rfl
      have ih := places_run w fs l (by simpa using hl) (fun k f' hk => by simpa using hg (k + 1) f' (by simpa using hk))
      simp only [List.getElem?_cons_zero, Option.map_some, Option.some.injEq] at h2
      simp only [List.mapM_cons, Sem.run_bind, run_size h1, Result.andThen_ok, Sem.run_pure, ih, List.map_cons, h2]

theorem g_build (hs : Sim C.G w X ρ h) (hf : RF w (tot X ρ h) ρ h.length a.tmps fr) {t : TypeId} {parts : Array (Nat × Operand)} (hop : o.op = .build t parts) {i : Ti} (hi : tiOf C.P t = some i) {pA : Nat → Option (Nat × Nat)}
    (hk : (∃ fs, i.kd = .struct fs ∧ pA = fun k => (fs[k]?).map fun f => (f.1, f.2.1)) ∨ (∃ n sz ag, i.kd = .array n sz ag ∧ pA = fun k => some (k * sz, sz))) {cs : List AV}
    (hc : fillA pA (i.zero.map .sc) (parts.toList.map fun p => (p.1, ev C fr p.2)) = some cs) : Good C o a w X ρ h (.ag cs) h := by
  obtain ⟨d, info, z, h1, h2, h3, h4, h5, h6, h7, h8, h9⟩ := tiOf_spec hi
  rw [h7] at hc
  have hz := zero_RC (w := w) (X := tot X ρ h) (ρ := ρ) h8 h.length
  have hmap : (parts.map fun p => (p.1, a.eval p.2)).toList = parts.toList.map fun p => (p.1, a.eval p.2) := by simp
  rcases hk with ⟨fs, hk, rfl⟩ | ⟨n, sz, ag, hk, rfl⟩
  · rw [hk] at h4
    obtain ⟨fields, rfl, hlen, hget⟩ := kdOf_struct h4
    have hpl := places_run (P := C.P) w fields.toList fs (by simpa using hlen) (fun k f hf' => by
      obtain ⟨fi, fd, g1, g2, g3⟩ := hget k f (by simpa using hf')
      exact ⟨fi, g1, by rw [g3]; rfl⟩)
    obtain ⟨us', e1, e2⟩ := fill_rel hs hf (pV := fun k => ((fs.map fun q => (q.1, q.2.1)).toArray)[k]?) (fun k q hq => by simpa using hq) parts.toList _ _ cs hz hc
    refine good_same hs (v := .agg us') ?_ (.ag us' cs e2.1 e2.2.1 e2.2.2)
    have hpl' : (fields.mapM (m := Sem) fun f => do pure (f.offset, ← sizeOf f.type)).run C.P w = .ok (fs.map fun q => (q.1, q.2.1)).toArray w := by
      rw [Array.mapM_eq_mapM_toList, Sem.run_map, hpl]
      rfl
    simp only [execOp, hop, Instr.build, Sem.run_bind, run_zero h2 h3, Result.andThen_ok, run_underlying h1, hpl', hmap, e1, Sem.run_pure]
  · rw [hk] at h4
    obtain ⟨e, ei, ed, rfl, k1, k2, rfl, k4⟩ := kdOf_array h4
    obtain ⟨us', e1, e2⟩ := fill_rel hs hf (pV := fun k => some (k * ei.size, ei.size)) (fun k q hq => hq) parts.toList _ _ cs hz hc
    refine good_same hs (v := .agg us') ?_ (.ag us' cs e2.1 e2.2.1 e2.2.2)
    simp only [execOp, hop, Instr.build, Sem.run_bind, run_zero h2 h3, Result.andThen_ok, run_underlying h1, run_size k1, hmap, e1, Sem.run_pure]

theorem rep_get {α : Type} (l : List α) : ∀ (n k : Nat), ((List.range n).flatMap fun _ => l)[k]? = if k < n * l.length then l[k % l.length]? else none
  | 0, k => by simp
  | n + 1, k => by
    have e : ((List.range (n + 1)).flatMap fun _ => l) = l ++ (List.range n).flatMap fun _ => l := by
      rw [List.range_succ_eq_map, List.flatMap_cons, List.flatMap_map]
    rw [e]
    by_cases hk : k < l.length
    · rw [List.getElem?_append_left hk, if_pos (by rw [Nat.add_mul]; omega), Nat.mod_eq_of_lt hk]
    · rw [List.getElem?_append_right (by omega), rep_get l n (k - l.length)]
      have hm : k % l.length = (k - l.length) % l.length := by
        rw [Nat.mod_eq_sub_mod (by omega)]
      rw [hm]
      by_cases h2 : k - l.length < n * l.length
      · rw [if_pos h2, if_pos (by rw [Nat.add_mul]; omega)]
      · rw [if_neg h2, if_neg (by rw [Nat.add_mul]; omega)]
theorem rep_length {α : Type} (l : List α) (n : Nat) : ((List.range n).flatMap fun _ => l).length = n * l.length := by
  induction n with
  | zero => simp
  | succ n ih =>
    have e : ((List.range (n + 1)).flatMap fun _ => l) = l ++ (List.range n).flatMap fun _ => l := by
      rw [List.range_succ_eq_map, List.flatMap_cons, List.flatMap_map]
    rw [e, List.length_append, ih, Nat.add_mul]; omega

theorem zeros_RC {z : Value} (h8 : ∀ u ∈ z.cells.toList, flat u = true) (n m : Nat) (hz : 0 < z.cells.size) : RC w X ρ n ((Array.range (m * z.cells.size)).map (z.cells[· % z.cells.size]!)) ((List.range m).flatMap fun _ => z.cells.toList.map .sc) := by
  refine ⟨by rw [rep_length]; simp, fun k hk => ?_, fun k x hk => ?_⟩
  · simp only [Array.size_map, Array.size_range] at hk
    have hm : k % z.cells.size < z.cells.size := Nat.mod_lt _ hz
    have : ((Array.range (m * z.cells.size)).map (z.cells[· % z.cells.size]!)).getD k undef = z.cells[k % z.cells.size] := by simp [hk, hm]
    rw [this]
    exact flat_one (h8 _ (by simp))
  · rw [rep_get] at hk
    simp only [List.length_map, Array.length_toList] at hk
    split at hk
    · rename_i hlt
      simp only [List.getElem?_map, Option.map_eq_some_iff] at hk
      obtain ⟨u, hu, rfl⟩ := hk
      have hm : k % z.cells.size < z.cells.size := Nat.mod_lt _ hz
      have hu' : z.cells[k % z.cells.size] = u := by
        have : z.cells[k % z.cells.size]? = some u := by simpa using hu
        rw [Array.getElem?_eq_getElem hm] at this
        simpa using this
      have : ((Array.range (m * z.cells.size)).map (z.cells[· % z.cells.size]!)).getD k undef = u := by simp [hlt, hm, hu']
      rw [this]
      exact .im (.sc u (h8 u (by rw [← hu']; simp)))
    · cases hk

theorem alloc_row (hs : Sim C.G w X ρ h) {us : Array Value} {cs : List AV} (hr : RC w (tot X ρ h) ρ h.length us cs) (t : TypeId) :
    Ext C.G w X ρ h (w.alloc (.cells us t (0, 0))) (fun i => if i = h.length then w.heap.size else ρ i) (h ++ [.row cs]) :=
  ext_alloc hs us t cs (fun k => us.getD k undef) (by rw [hr.1]; omega) (fun k x hk => by
    have hlt : k < us.size := by have := (List.getElem?_eq_some_iff.1 hk).1; rw [hr.1]; exact this
    exact ⟨by simp [hlt], hr.2.1 k hlt, hr.2.2 k x hk⟩) (0, 0) (.inl rfl)

theorem own_sl (w0 w' : World) (h : Hp) (ρ : Nat → Nat) (X' : Nat → Prop) (m sz len cap : Nat) (hm : h.length < m) (cur : Array Value) (t : TypeId) (fz : Nat × Nat) (hw : w'.heap[w0.heap.size]? = some (.cells cur t fz)) (hc : cap * sz = cur.size) (hl : len ≤ cap) (hx : cap ≤ maxLen) :
    Rp w' X' (fun i => if i = h.length then w0.heap.size else ρ i) m (.slice (some ⟨w0.heap.size, 0, none⟩) len cap) (.sl h.length sz 0 len false) := by
  have := Rp.sl (w := w') (X := X') (ρ := fun i => if i = h.length then w0.heap.size else ρ i) h.length sz 0 len cap false cur t fz hm (by simpa using hw) (by omega) (by simp) (by simp; omega) hl hx
  simpa using this
theorem alloc_new (w : World) (ob : Obj) : (w.alloc ob).heap[w.heap.size]? = some ob := by
  show (w.heap.push ob)[w.heap.size]? = some ob
  simp


theorem chunk_ri {w : World} {X : Nat → Prop} {b cap sz len : Nat} {cs : List AV} {cur : Array Value} {t : TypeId} {fz : Nat × Nat} (hx : ¬ X b) (hb : w.heap[b]? = some (.cells cur t fz)) (hlen : len * sz ≤ cs.length)
    (hc : len ≤ cap) (hm : cap ≤ maxLen) (z : Bool) (hz : z = true → cap = len) (hcell : ∀ (k : Nat) (y : AV), cs[k]? = some y → ∃ u, cur[k]? = some u ∧ u.oneCell' = true ∧ Ri w X u y) :
    Ri w X (.slice (some ⟨b, 0, none⟩) len cap) (.ls sz (chunk sz len cs) z) := by
  have hrow : ∀ (i : Nat) (row : List AV), (chunk sz len cs)[i]? = some row → i < len ∧ row = (cs.drop (i * sz)).take sz := by
    intro i row hr'
    simp only [chunk, List.getElem?_map, Option.map_eq_some_iff] at hr'
    obtain ⟨k, hk, rfl⟩ := hr'
    have hil : i < len := by have := (List.getElem?_eq_some_iff.1 hk).1; simpa using this
    rw [List.getElem?_range hil] at hk
    cases hk
    exact ⟨hil, rfl⟩
  have hc2 : ∀ (i : Nat) (row : List AV) (j : Nat) (x : AV), (chunk sz len cs)[i]? = some row → row[j]? = some x → ∃ u, cur[0 + i * sz + j]? = some u ∧ u.oneCell' = true ∧ Ri w X u x := by
    intro i row j x hr' hx
    obtain ⟨hil, rfl⟩ := hrow i row hr'
    rw [List.getElem?_take] at hx
    split at hx
    · rw [List.getElem?_drop] at hx
      rw [Nat.zero_add]
      exact hcell _ _ hx
    · cases hx
  refine .ls b 0 len cap sz _ z (fun i j => cur.getD (0 + i * sz + j) undef) cur t fz hx hb (by simp [chunk]) hc hm hz ?_ ?_ ?_
  · intro i row hr'
    obtain ⟨hil, rfl⟩ := hrow i row hr'
    have : (i + 1) * sz ≤ len * sz := Nat.mul_le_mul_right sz hil
    rw [Nat.add_mul, Nat.one_mul] at this
    simp only [List.length_take, List.length_drop]
    omega
  · intro i row j x hr' hx
    obtain ⟨u, h1, h2, _⟩ := hc2 i row j x hr' hx
    have : cur.getD (0 + i * sz + j) undef = u := by rw [Array.getD_eq_getD_getElem?, h1]; rfl
    simp only [this]
    exact ⟨h1, h2⟩
  · intro i row j x hr' hx
    obtain ⟨u, h1, _, h3⟩ := hc2 i row j x hr' hx
    have : cur.getD (0 + i * sz + j) undef = u := by rw [Array.getD_eq_getD_getElem?, h1]; rfl
    simp only [this]
    exact h3

theorem alloc_quiet (w : World) (ob : Obj) : Step w none' (w.alloc ob) none' := by
  have hold : ∀ b, b < w.heap.size → (w.alloc ob).heap[b]? = w.heap[b]? := fun b hb => by
    show (w.heap.push ob)[b]? = _
    simp [Array.getElem?_push, Nat.ne_of_lt hb]
  exact ⟨rfl, rfl, rfl, by show _ ≤ (w.heap.push ob).size; simp, fun b hb _ => hold b hb, fun b c t' fz' hb => ⟨c, t', fz', (hold b (heap_lt hb)).trans hb, rfl⟩, fun _ _ h => h⟩
theorem drawn_quiet (w : World) (k : Nat) : Step w none' { w with drawn := k } none' := ⟨rfl, rfl, rfl, Nat.le_refl _, fun _ _ _ => rfl, fun _ _ _ _ hb => ⟨_, _, _, hb, rfl⟩, fun _ _ h => h⟩

/-- A new row that nobody writes. -/
theorem cold_good (hs : Sim C.G w X ρ h) {w' : World} (hst : Step w none' w' none') {cur : Array Value} {e : TypeId} {fz : Nat × Nat} (hcur : w'.heap[w.heap.size]? = some (.cells cur e fz)) {cs : List AV} {len cap sz : Nat} (hlen : len * sz ≤ cs.length)
    (hc : len ≤ cap) (hm : cap ≤ maxLen) (z : Bool) (hz : z = true → cap = len) (hall : cs.all calm = true) (hcell : ∀ (k : Nat) (y : AV), cs[k]? = some y → ∃ u, cur[k]? = some u ∧ u.oneCell' = true ∧ Rp w (tot X ρ h) ρ h.length u y)
    (hr : (execOp a.eval o).run C.P w = .ok (.value (.slice (some ⟨w.heap.size, 0, none⟩) len cap)) w') : Good C o a w X ρ h (.ls sz (chunk sz len cs) z) h := by
  have he := ext_quiet hs hst
  have hnX : ¬ tot X ρ h w.heap.size := fun hh => by
    rcases hh with hx | ⟨i, hi, e⟩
    · have := hs.xlt _ hx; omega
    · have := hs.lt hi; omega
  refine good_value hr he (.im (chunk_ri hnX hcur hlen hc hm z hz fun k y hk => ?_))
  obtain ⟨u, h1, h2, h3⟩ := hcell k y hk
  rw [List.all_eq_true] at hall
  exact ⟨u, h1, h2, calm_ri (he.rp h3) (hall y (List.mem_of_getElem? hk))⟩

theorem RC.cell {n : Nat} {us : Array Value} {xs : List AV} (hr : RC w X ρ n us xs) (k : Nat) (y : AV) (hk : xs[k]? = some y) : ∃ u, us[k]? = some u ∧ u.oneCell' = true ∧ Rp w X ρ n u y := by
  have hlt : k < us.size := by have := (List.getElem?_eq_some_iff.1 hk).1; rw [hr.1]; exact this
  refine ⟨us.getD k undef, by simp [hlt], hr.2.1 k hlt, hr.2.2 k y hk⟩

theorem r_buildSlice (hs : Sim C.G w X ρ h) (hf : RF w (tot X ρ h) ρ h.length a.tmps fr) {t : TypeId} {len : Nat} {parts : Array (Nat × Operand)} (hop : o.op = .buildSlice t len parts) {i : Ti} (hi : tiOf C.P t = some i)
    {sz by' : Nat} {ag : Bool} {ez : List Value} (hk : i.kd = .slice sz ag by' ez) (hlim : len * sz ≤ 16777216) {cs : List AV}
    (hc : fillA (fun k => some (k * sz, sz)) ((List.range len).flatMap fun _ => ez.map .sc) (parts.toList.map fun p => (p.1, ev C fr p.2)) = some cs) :
    ∃ (us' : Array Value) (e : TypeId), RC w (tot X ρ h) ρ h.length us' cs ∧ us'.size = len * sz ∧ len ≤ maxLen ∧ (execOp a.eval o).run C.P w = .ok (.value (.slice (some ⟨w.heap.size, 0, none⟩) len len)) (w.alloc (.cells us' e (0, 0))) := by
  obtain ⟨d, info, z, h1, h2, h3, h4, h5, h6, h7, h8, h9⟩ := tiOf_spec hi
  rw [hk] at h4
  obtain ⟨e, ei, ed, ez', rfl, k1, k2, k3, rfl, k5, k6, rfl, k8, k9, k10⟩ := kdOf_slice h4
  have hzr : RC w (tot X ρ h) ρ h.length ((Array.range (len * ei.size)).map ((if len * ei.size = 0 then #[] else ez'.cells)[· % (if len * ei.size = 0 then (#[] : Array Value) else ez'.cells).size]!)) ((List.range len).flatMap fun _ => ez'.cells.toList.map .sc) := by
    by_cases h0 : len * ei.size = 0
    · have : len = 0 := by rcases Nat.mul_eq_zero.1 h0 with h | h <;> omega
      subst this
      exact ⟨by simp, by simp, by simp⟩
    · simp only [h0, if_false]
      have := zeros_RC (w := w) (X := tot X ρ h) (ρ := ρ) k8 h.length len (by omega)
      rwa [k9] at this ⊢
  obtain ⟨us', e1, e2⟩ := fill_rel hs hf (pV := fun k => some (k * ei.size, ei.size)) (fun k q hq => hq) parts.toList _ _ cs hzr hc
  have hcl : us'.size = len * ei.size := by
    rw [e2.1]
    have hfl : ∀ (p : Nat → Option (Nat × Nat)) (ps : List (Nat × AV)) (xs out : List AV), fillA p xs ps = some out → out.length = xs.length := by
      intro p ps
      induction ps with
      | nil => intro xs out ho; simp [fillA] at ho; rw [ho]
      | cons q ps ih =>
        intro xs out ho
        simp only [fillA] at ho
        split at ho
        · split at ho
          · rename_i hcond
            rw [ih _ _ ho, splice_length (by omega)]
          · cases ho
        · cases ho
    rw [hfl _ _ _ _ hc, rep_length]; simp [k9]
  have hmax : len ≤ maxLen := by
    have : len ≤ len * ei.size := Nat.le_mul_of_pos_right _ k10
    simp only [maxLen]; omega
  refine ⟨us', e, e2, hcl, hmax, ?_⟩
  have hmap : (parts.map fun p => (p.1, a.eval p.2)).toList = parts.toList.map fun p => (p.1, a.eval p.2) := by simp
  have hz : (if len * ei.size = 0 then (pure #[] : Sem (Array Value)) else do pure (← zeroValue e).cells).run C.P w = .ok (if len * ei.size = 0 then #[] else ez'.cells) w := by
    split
    · rfl
    · simp only [Sem.run_bind, run_zero k1 k3, Result.andThen_ok, Sem.run_pure]
  have hlim' : ¬ (len * ei.size > 2 ^ 24) := by omega
  clear hz
  by_cases h0 : len * ei.size = 0
  · simp only [h0, if_true] at e1
    simp only [execOp, hop, Instr.buildSlice, Sem.run_bind, Result.andThen_ok, run_underlying h1, run_size k1, h0, show ¬ (0 > 2 ^ 24) by omega, if_false, if_true, hmap, newRow, run_new, Sem.run_pure, e1]
  · simp only [h0, if_false] at e1
    simp only [execOp, hop, Instr.buildSlice, Sem.run_bind, Result.andThen_ok, run_underlying h1, run_size k1, h0, hlim', if_false, hmap, newRow, run_new, Sem.run_pure, e1, run_zero k1 k3]

theorem g_buildSlice (hs : Sim C.G w X ρ h) (hf : RF w (tot X ρ h) ρ h.length a.tmps fr) {t : TypeId} {len : Nat} {parts : Array (Nat × Operand)} (hop : o.op = .buildSlice t len parts) {i : Ti} (hi : tiOf C.P t = some i)
    {sz by' : Nat} {ag : Bool} {ez : List Value} (hk : i.kd = .slice sz ag by' ez) (hlim : len * sz ≤ 16777216) {cs : List AV}
    (hc : fillA (fun k => some (k * sz, sz)) ((List.range len).flatMap fun _ => ez.map .sc) (parts.toList.map fun p => (p.1, ev C fr p.2)) = some cs) : Good C o a w X ρ h (.sl h.length sz 0 len false) (h ++ [.row cs]) := by
  obtain ⟨us', e, e2, hcl, hmax, hr⟩ := r_buildSlice hs hf hop hi hk hlim hc
  exact good_value hr (alloc_row hs e2 e) (own_sl w _ h ρ _ _ _ _ _ (by simp) us' e (0, 0) (alloc_new _ _) (by omega) (Nat.le_refl _) hmax)
theorem c_buildSlice (hs : Sim C.G w X ρ h) (hf : RF w (tot X ρ h) ρ h.length a.tmps fr) {t : TypeId} {len : Nat} {parts : Array (Nat × Operand)} (hop : o.op = .buildSlice t len parts) {i : Ti} (hi : tiOf C.P t = some i)
    {sz by' : Nat} {ag : Bool} {ez : List Value} (hk : i.kd = .slice sz ag by' ez) (hlim : len * sz ≤ 16777216) {cs : List AV}
    (hc : fillA (fun k => some (k * sz, sz)) ((List.range len).flatMap fun _ => ez.map .sc) (parts.toList.map fun p => (p.1, ev C fr p.2)) = some cs) (hall : cs.all calm = true) : Good C o a w X ρ h (.ls sz (chunk sz len cs) true) h := by
  obtain ⟨us', e, e2, hcl, hmax, hr⟩ := r_buildSlice hs hf hop hi hk hlim hc
  exact cold_good hs (alloc_quiet w _) (alloc_new w _) (by rw [← e2.1, hcl]; exact Nat.le_refl _) (Nat.le_refl _) hmax true (fun _ => rfl) hall e2.cell hr

theorem r_makeSlice (hs : Sim C.G w X ρ h) (hf : RF w (tot X ρ h) ρ h.length a.tmps fr) {t : TypeId} {l c : Operand} (hop : o.op = .makeSlice t l c) {i : Ti} (hi : tiOf C.P t = some i)
    {sz by' : Nat} {ag : Bool} {ez : List Value} (hk : i.kd = .slice sz ag by' ez) {n : Nat} (hn : natOf (ev C fr l) = some n) (hm : natOf (ev C fr c) = some n) (hmax : n ≤ maxLen) (hby : n * by' ≤ 140737488355328) :
    ∃ (us' : Array Value) (e : TypeId), RC w (tot X ρ h) ρ h.length us' ((List.range n).flatMap fun _ => ez.map .sc) ∧ us'.size = n * sz ∧ (∀ u ∈ ez, flat u = true) ∧ (execOp a.eval o).run C.P w = .ok (.value (.slice (some ⟨w.heap.size, 0, none⟩) n n)) (w.alloc (.cells us' e (0, 0))) := by
  obtain ⟨d, info, z, h1, h2, h3, h4, h5, h6, h7, h8, h9⟩ := tiOf_spec hi
  rw [hk] at h4
  obtain ⟨e, ei, ed, ez', rfl, k1, k2, k3, rfl, k5, rfl, rfl, k8, k9, k10⟩ := kdOf_slice h4
  obtain ⟨q1, j1, hj1, hj10, hj1n⟩ := natOf_inv (ev_rp hs hf l) hn
  obtain ⟨q2, j2, hj2, hj20, hj2n⟩ := natOf_inv (ev_rp hs hf c) hm
  have w1 : IntKind.i64.wrap j1 = j1 := IntWalk.i64_in j1 (by simp only [maxLen] at hmax; omega)
  have w2 : IntKind.i64.wrap j2 = j2 := IntWalk.i64_in j2 (by simp only [maxLen] at hmax; omega)
  have hr : RC w (tot X ρ h) ρ h.length ((Array.range (n * ei.size)).map ((if n * ei.size = 0 then #[] else ez'.cells)[· % (if n * ei.size = 0 then (#[] : Array Value) else ez'.cells).size]!)) ((List.range n).flatMap fun _ => ez'.cells.toList.map .sc) := by
    by_cases h0 : n * ei.size = 0
    · have : n = 0 := by rcases Nat.mul_eq_zero.1 h0 with h | h <;> omega
      subst this
      exact ⟨by simp, by simp, by simp⟩
    · simp only [h0, if_false]
      have := zeros_RC (w := w) (X := tot X ρ h) (ρ := ρ) k8 h.length n (by omega)
      rwa [k9] at this ⊢
  refine ⟨_, e, hr, by simp, k8, ?_⟩
  have hz : (if n * ei.size = 0 then (pure #[] : Sem (Array Value)) else do pure (← zeroValue e).cells).run C.P w = .ok (if n * ei.size = 0 then #[] else ez'.cells) w := by
    split
    · rfl
    · simp only [Sem.run_bind, run_zero k1 k3, Result.andThen_ok, Sem.run_pure]
  have hti : (typeInfo e).run C.P w = .ok ei w := by simp [typeInfo, k1]
  have hjn : j1 = (n : Int) := by omega
  have hjm : j2 = (n : Int) := by omega
  have hsmall : ¬ ((ei.bytes : Int) * (n : Int) > 2 ^ 48) := by
    have : (ei.bytes : Int) * (n : Int) = ((n * ei.bytes : Nat) : Int) := by rw [Nat.mul_comm]; simp
    rw [this]
    omega
  have hroom : ¬ (n * ei.bytes > roomBytes) := by simp only [roomBytes]; omega
  have hcond : ((decide ((n : Int) < 0) || decide ((ei.bytes : Int) * (n : Int) > 2 ^ 48)) || decide ((n : Int) < 0) || decide ((n : Int) > (n : Int))) = false := by
    simp; omega
  rw [hjn] at w1
  clear hz
  by_cases h0 : n * ei.size = 0
  · simp only [execOp, hop, Instr.makeSlice, Sem.run_bind, Result.andThen_ok, run_underlying h1, hj1, hj2, asInt, asIntOf, Sem.run_pure, hti, hjn, hjm, w1, askRoom, Int.toNat_natCast, hroom, if_false, run_size k1, newRow, run_new, hcond, h0, if_true, Bool.false_eq_true]
  · simp only [execOp, hop, Instr.makeSlice, Sem.run_bind, Result.andThen_ok, run_underlying h1, hj1, hj2, asInt, asIntOf, Sem.run_pure, hti, hjn, hjm, w1, askRoom, Int.toNat_natCast, hroom, if_false, run_size k1, newRow, run_new, hcond, h0, run_zero k1 k3, Bool.false_eq_true]

theorem g_makeSlice (hs : Sim C.G w X ρ h) (hf : RF w (tot X ρ h) ρ h.length a.tmps fr) {t : TypeId} {l c : Operand} (hop : o.op = .makeSlice t l c) {i : Ti} (hi : tiOf C.P t = some i)
    {sz by' : Nat} {ag : Bool} {ez : List Value} (hk : i.kd = .slice sz ag by' ez) {n : Nat} (hn : natOf (ev C fr l) = some n) (hm : natOf (ev C fr c) = some n) (hmax : n ≤ maxLen) (hby : n * by' ≤ 140737488355328) :
    Good C o a w X ρ h (.sl h.length sz 0 n false) (h ++ [.row ((List.range n).flatMap fun _ => ez.map .sc)]) := by
  obtain ⟨us', e, e2, hcl, _, hr⟩ := r_makeSlice hs hf hop hi hk hn hm hmax hby
  exact good_value hr (alloc_row hs e2 e) (own_sl w _ h ρ _ _ _ _ _ (by simp) us' e (0, 0) (alloc_new _ _) (by omega) (Nat.le_refl _) hmax)
theorem c_makeSlice (hs : Sim C.G w X ρ h) (hf : RF w (tot X ρ h) ρ h.length a.tmps fr) {t : TypeId} {l c : Operand} (hop : o.op = .makeSlice t l c) {i : Ti} (hi : tiOf C.P t = some i)
    {sz by' : Nat} {ag : Bool} {ez : List Value} (hk : i.kd = .slice sz ag by' ez) {n : Nat} (hn : natOf (ev C fr l) = some n) (hm : natOf (ev C fr c) = some n) (hmax : n ≤ maxLen) (hby : n * by' ≤ 140737488355328) :
    Good C o a w X ρ h (.ls sz (chunk sz n ((List.range n).flatMap fun _ => ez.map .sc)) true) h := by
  obtain ⟨us', e, e2, hcl, hz, hr⟩ := r_makeSlice hs hf hop hi hk hn hm hmax hby
  refine cold_good hs (alloc_quiet w _) (alloc_new w _) (by rw [← e2.1, hcl]; exact Nat.le_refl _) (Nat.le_refl _) hmax true (fun _ => rfl) ?_ e2.cell hr
  rw [List.all_eq_true]
  intro x hx
  simp only [List.mem_flatMap, List.mem_map] at hx
  obtain ⟨_, _, u, _, rfl⟩ := hx
  rfl

end lit
end Go.Ae

/-
  The abstract evaluator, part 6: slices, append, copy, calls; every operation.
-/
set_option linter.unusedSimpArgs false
namespace Go.Ae
open Go

section ops
variable {C : Cx} {w : World} {X : Nat → Prop} {ρ : Nat → Nat} {h : Hp} {a : Act} {fr : List AV} {o : Oper}

theorem bound_run (hs : Sim C.G w X ρ h) (hf : RF w (tot X ρ h) ρ h.length a.tmps fr) {x : Operand} {i y : Nat} (hn : natOf (ev C fr x) = some i) (hle : i ≤ y) (code : BoundsCode) : (Instr.sliceBound (a.eval x) y code).run C.P w = .ok i w := by
  obtain ⟨k, j, hj, hj0, hjn⟩ := natOf_inv (ev_rp hs hf x) hn
  have hc : 0 ≤ j ∧ j ≤ (y : Int) := by omega
  simp only [Instr.sliceBound, hj, asIntOf, Sem.run_bind, Sem.run_pure, Result.andThen_ok, hc, and_self, if_true, hjn]

theorem bounds_run (hs : Sim C.G w X ρ h) (hf : RF w (tot X ρ h) ρ h.length a.tmps fr) {lo hi : Option Operand} {l hh len cap : Nat} (hl : boundA 0 (lo.map (ev C fr)) = some l) (hhi : boundA len (hi.map (ev C fr)) = some hh)
    (h1 : l ≤ hh) (h2 : hh ≤ cap) : (Instr.sliceBounds true len cap (lo.map a.eval) (hi.map a.eval) none).run C.P w = .ok (l, hh, cap) w := by
  cases hi with
  | none =>
    simp only [Option.map_none, boundA, Option.some.injEq] at hhi
    subst hhi
    cases lo with
    | none =>
      simp only [Option.map_none, boundA, Option.some.injEq] at hl
      subst hl
      simp only [Instr.sliceBounds, Option.map_none, Sem.run_bind, Sem.run_pure, Result.andThen_ok]
    | some x =>
      simp only [Option.map_some, boundA] at hl
      simp only [Instr.sliceBounds, Option.map_none, Option.map_some, Sem.run_bind, Sem.run_pure, Result.andThen_ok, bound_run hs hf hl h1]
  | some y =>
    simp only [Option.map_some, boundA] at hhi
    cases lo with
    | none =>
      simp only [Option.map_none, boundA, Option.some.injEq] at hl
      subst hl
      simp only [Instr.sliceBounds, Option.map_none, Option.map_some, Sem.run_bind, Sem.run_pure, Result.andThen_ok, bound_run hs hf hhi h2]
    | some x =>
      simp only [Option.map_some, boundA] at hl
      simp only [Instr.sliceBounds, Option.map_some, Sem.run_bind, Sem.run_pure, Result.andThen_ok, bound_run hs hf hhi h2, bound_run hs hf hl h1]

theorem bounds3_run (hs : Sim C.G w X ρ h) (hf : RF w (tot X ρ h) ρ h.length a.tmps fr) {lo : Option Operand} {hi mx : Operand} {l m len cap : Nat} (hl : boundA 0 (lo.map (ev C fr)) = some l) (hlm : l ≤ m) (hhi : natOf (ev C fr hi) = some m)
    (hm : natOf (ev C fr mx) = some m) (h2 : m ≤ cap) : (Instr.sliceBounds true len cap (lo.map a.eval) (some (a.eval hi)) (some (a.eval mx))).run C.P w = .ok (l, m, m) w := by
  cases lo with
  | none =>
    simp only [Option.map_none, boundA, Option.some.injEq] at hl
    subst hl
    simp only [Instr.sliceBounds, Option.map_none, Sem.run_bind, Sem.run_pure, Result.andThen_ok, bound_run hs hf hm h2, bound_run hs hf hhi (Nat.le_refl _)]
  | some x =>
    simp only [Option.map_some, boundA] at hl
    simp only [Instr.sliceBounds, Option.map_some, Sem.run_bind, Sem.run_pure, Result.andThen_ok, bound_run hs hf hm h2, bound_run hs hf hhi (Nat.le_refl _), bound_run hs hf hl hlm]

/-- A part of a slice that is never written again. -/
theorem ls_part {X : Nat → Prop} {b o' cap sz l hh m : Nat} {rows : List (List AV)} {us : Nat → Nat → Value} {cur : Array Value} {t0 : TypeId} {fz : Nat × Nat} (c1 : ¬ X b) (c2 : w.heap[b]? = some (Obj.cells cur t0 fz)) (c5 : cap ≤ maxLen)
    (c7 : ∀ (i : Nat) (row : List AV), rows[i]? = some row → row.length = sz)
    (c8 : ∀ (i : Nat) (row : List AV) (j : Nat) (x : AV), rows[i]? = some row → row[j]? = some x → cur[o' + i * sz + j]? = some (us i j) ∧ Value.oneCell' (us i j) = true ∧ Ri w X (us i j) x)
    (h1 : l ≤ hh) (h2 : hh ≤ rows.length) (h3 : hh ≤ m) (h4 : m ≤ cap) (z : Bool) (hz : z = true → m = hh) (ad : Option Addr) (had : ad = if m = l then some ⟨b, o', none⟩ else some ⟨b, o' + l * sz, none⟩) :
    Ri w X (.slice ad (hh - l) (m - l)) (.ls sz ((rows.drop l).take (hh - l)) z) := by
  have hlen' : ((rows.drop l).take (hh - l)).length = hh - l := by simp; omega
  by_cases hlh : l = hh
  · subst hlh
    simp only [Nat.sub_self, List.take_zero]
    exact .le _ _ _ _ (by omega) (fun q => by have := hz q; omega)
  · have hml : ¬ m = l := by omega
    rw [if_neg hml] at had
    subst had
    have hget : ∀ (k : Nat) (row : List AV), ((rows.drop l).take (hh - l))[k]? = some row → rows[l + k]? = some row := by
      intro k row hr
      rw [List.getElem?_take] at hr
      split at hr
      · rwa [List.getElem?_drop] at hr
      · cases hr
    exact .ls b (o' + l * sz) (hh - l) (m - l) sz ((rows.drop l).take (hh - l)) z (fun k j => us (l + k) j) cur t0 fz c1 c2 hlen' (by omega) (by omega)
      (fun q => by have := hz q; omega) (fun k row hr => c7 _ _ (hget k row hr))
      (fun k row j x hr hx => by
        have := c8 (l + k) row j x (hget k row hr) hx
        refine ⟨?_, this.2.1⟩
        rw [← this.1]
        congr 1
        rw [Nat.add_mul]
        omega)
      (fun k row j x hr hx => (c8 (l + k) row j x (hget k row hr) hx).2.2)

theorem g_slice (hs : Sim C.G w X ρ h) (hf : RF w (tot X ρ h) ρ h.length a.tmps fr) {t : TypeId} {x : Operand} {lo hi mx : Option Operand} (hop : o.op = .slice t x lo hi mx) {i : Ti} (hi' : tiOf C.P t = some i)
    {sz by' : Nat} {ag : Bool} {ez : List Value} (hk : i.kd = .slice sz ag by' ez) (hz : szOk sz (ev C fr x) = true) {y : AV} (hy : sliceA (ev C fr x) (lo.map (ev C fr)) (hi.map (ev C fr)) (mx.map (ev C fr)) = some y) :
    Good C o a w X ρ h y h := by
  obtain ⟨d, info, z, h1, h2, h3, h4, h5, h6, h7, h8, h9⟩ := tiOf_spec hi'
  rw [hk] at h4
  obtain ⟨e, ei, ed, ez', rfl, k1, k2, k3, rfl, k5, k6, k7, k8, k9, k10⟩ := kdOf_slice h4
  have e1 := ev_rp hs hf x
  -- the value
  have hrun : ∀ (base : Option Addr) (len cap l hh m : Nat), a.eval x = .slice base len cap → (Instr.sliceBounds true len cap (lo.map a.eval) (hi.map a.eval) (mx.map a.eval)).run C.P w = .ok (l, hh, m) w →
      (execOp a.eval o).run C.P w = .ok (.value (.slice (if m = l then base else base.map (·.add (l * ei.size))) (hh - l) (m - l))) w := by
    intro base len cap l hh m hq hb
    simp only [execOp, hop, Instr.sliceAt, Instr.slice, run_underlying h1, Sem.run_bind, Result.andThen_ok, hq, hb, run_size k1, Sem.run_pure]
  unfold sliceA at hy
  split at hy
  case h_2 => cases hy
  rename_i len hlen
  split at hy
  case h_3 => cases hy
  · rename_i l hh hl hhi hmx
    have hmx' : mx = none := by cases mx <;> simp_all
    subst hmx'
    split at hy
    case isFalse => cases hy
    rename_i hc
    cases hx : ev C fr x with
    | ls sz' rows zz =>
      rw [hx] at hy e1 hz hlen
      simp only [szOk, beq_iff_eq] at hz
      subst hz
      simp only [lenA, Option.some.injEq] at hlen
      subst hlen
      simp only [Option.some.injEq] at hy
      subst hy
      rcases e1.ls_inv.ls_cases with ⟨rfl, b, cap, hq, c1, c2⟩ | ⟨b, o', cap, us, cur, t0, fz, hq, c1, c2, c4, c5, c6, c7, c8⟩
      · simp only [List.length_nil] at hc hhi ⊢
        have hb := bounds_run hs hf hl hhi hc.1 (cap := cap) (by omega)
        have hl0 : l = 0 := by omega
        have hh0 : hh = 0 := by omega
        subst hl0 hh0
        refine good_same hs (hrun _ _ _ _ _ _ hq hb) (.im ?_)
        simp only [List.drop_nil, List.take_nil]
        exact .le _ _ _ _ (by omega) (fun hz => by simp at hz; have := c2 hz; omega)
      · have hb := bounds_run hs hf hl hhi hc.1 (cap := cap) (by omega)
        refine good_same hs (hrun _ _ _ _ _ _ hq hb) (.im ?_)
        refine ls_part c1 c2 c5 c7 c8 hc.1 hc.2 (by omega) (Nat.le_refl _) _ (fun q => ?_) _ ?_
        · simp only [Bool.and_eq_true, beq_iff_eq] at q
          have := c6 q.1
          omega
        · split <;> simp [add_lit]
    | sl id sz' off len' k =>
      rw [hx] at hy e1 hz hlen
      simp only [szOk, beq_iff_eq] at hz
      subst hz
      simp only [lenA, Option.some.injEq] at hlen
      subst hlen
      obtain ⟨cap, cur, t0, fz, hq, c1, c2, c3, ck, ck', c4, c5⟩ := e1.sl_inv
      have hb := bounds_run hs hf hl hhi hc.1 (cap := cap) (by omega)
      by_cases hlh : l = hh
      · simp only [hlh, if_true, Option.some.injEq] at hy
        subst hy hlh
        refine good_same hs (hrun _ _ _ _ _ _ hq hb) (.im ?_)
        simp only [Nat.sub_self]
        refine .le _ _ _ _ (by omega) (fun hz => ?_)
        simp only [Bool.and_eq_true, beq_iff_eq] at hz
        have := ck hz.1
        omega
      · simp only [hlh, if_false] at hy
        split at hy
        case isTrue => cases hy
        rename_i hkk
        simp only [Option.some.injEq] at hy
        subst hy
        refine good_same hs (hrun _ _ _ _ _ _ hq hb) ?_
        rw [if_neg (show ¬ cap = l by omega)]
        have hcl : l * ei.size + (cap - l) * ei.size = cap * ei.size := by rw [← Nat.add_mul]; congr 1; omega
        have := Rp.sl (w := w) (X := tot X ρ h) (ρ := ρ) (n := h.length) id ei.size (off + l * ei.size) (hh - l) (cap - l) k cur t0 fz c1 c2 (by omega)
          (fun q => by
            have := ck q
            simp only [q, Bool.true_and, bne_iff_ne, ne_eq, Decidable.not_not] at hkk
            omega) (fun q => by have := ck' q; omega) (by omega) (by omega)
        simpa [add_lit] using this
    | _ => rw [hx] at hlen; simp [lenA] at hlen
  · rename_i l hh m hl hhi hmx
    split at hy
    case h_2 => cases hy
    rename_i m' hm'
    split at hy
    case isFalse => cases hy
    rename_i hc
    obtain ⟨mo, rfl⟩ : ∃ mo, mx = some mo := by cases mx with | none => simp at hmx | some mo => exact ⟨mo, rfl⟩
    obtain ⟨ho, rfl⟩ : ∃ ho, hi = some ho := by cases hi with | none => simp at hc | some ho => exact ⟨ho, rfl⟩
    simp only [Option.map_some, Option.some.injEq] at hmx
    subst hmx
    simp only [Option.map_some, boundA] at hhi
    obtain ⟨hc1, hc2, hc3, _⟩ := hc
    subst hc2
    cases hx : ev C fr x with
    | ls sz' rows zz =>
      rw [hx] at hy e1 hz hlen
      simp only [szOk, beq_iff_eq] at hz
      subst hz
      simp only [Option.some.injEq] at hy
      subst hy
      simp only [lenA, Option.some.injEq] at hlen
      subst hlen
      rcases e1.ls_inv.ls_cases with ⟨rfl, b, cap, hq, c1, c2⟩ | ⟨b, o', cap, us, cur, t0, fz, hq, c1, c2, c4, c5, c6, c7, c8⟩
      · simp only [List.length_nil] at hc3
        have hb := bounds3_run hs hf hl hc1 hhi hm' (len := 0) (cap := cap) (by omega)
        refine good_same hs (hrun _ _ _ _ _ _ hq hb) (.im ?_)
        have hl0 : l = 0 := by omega
        have hh0 : hh = 0 := by omega
        subst hl0 hh0
        simp only [List.drop_nil, List.take_nil]
        exact .le _ _ _ _ (by omega) (fun _ => rfl)
      · have hb := bounds3_run hs hf hl hc1 hhi hm' (len := rows.length) (cap := cap) (by omega)
        refine good_same hs (hrun _ _ _ _ _ _ hq hb) (.im ?_)
        refine ls_part c1 c2 c5 c7 c8 hc1 hc3 (Nat.le_refl _) (by omega) _ (fun _ => rfl) _ ?_
        split <;> simp [add_lit]
    | sl id sz' off len' k =>
      rw [hx] at hy e1 hz hlen
      simp only [szOk, beq_iff_eq] at hz
      subst hz
      simp only [lenA, Option.some.injEq] at hlen
      subst hlen
      obtain ⟨cap, cur, t0, fz, hq, c1, c2, c3, ck, ck', c4, c5⟩ := e1.sl_inv
      have hb := bounds3_run hs hf hl hc1 hhi hm' (len := len') (cap := cap) (by omega)
      by_cases hlh : l = hh
      · simp only [hlh, if_true, Option.some.injEq] at hy
        subst hy hlh
        refine good_same hs (hrun _ _ _ _ _ _ hq hb) (.im ?_)
        simp only [Nat.sub_self]
        exact .le _ _ _ _ (by simp [maxLen]) (fun _ => rfl)
      · simp only [hlh, if_false, Option.some.injEq] at hy
        subst hy
        refine good_same hs (hrun _ _ _ _ _ _ hq hb) ?_
        rw [if_neg (show ¬ hh = l by omega)]
        have hcl : l * ei.size + (hh - l) * ei.size = hh * ei.size := by rw [← Nat.add_mul]; congr 1; omega
        have hle : hh * ei.size ≤ cap * ei.size := Nat.mul_le_mul_right _ (by omega)
        have := Rp.sl (w := w) (X := tot X ρ h) (ρ := ρ) (n := h.length) id ei.size (off + l * ei.size) (hh - l) (hh - l) true cur t0 fz c1 c2 (by omega)
          (fun _ => rfl) (fun q => by cases q) (Nat.le_refl _) (by omega)
        simpa [add_lit] using this
    | _ => rw [hx] at hlen; simp [lenA] at hlen

theorem flatten_get {sz : Nat} (hsz : 0 < sz) : ∀ (rows : List (List AV)), (∀ row ∈ rows, row.length = sz) → ∀ k, rows.flatten[k]? = (rows[k / sz]?).bind (·[k % sz]?)
  | [], _, k => by simp
  | row :: rows, hr, k => by
    have hl := hr row (by simp)
    have ih := flatten_get hsz rows (fun r hm => hr r (by simp [hm]))
    simp only [List.flatten_cons]
    by_cases hk : k < sz
    · rw [List.getElem?_append_left (by omega), Nat.div_eq_of_lt hk, Nat.mod_eq_of_lt hk]
      simp
    · rw [List.getElem?_append_right (by omega), ih (k - row.length), hl]
      have h1 : k / sz = (k - sz) / sz + 1 := by rw [Nat.div_eq_sub_div hsz (by omega)]
      have h2 : k % sz = (k - sz) % sz := Nat.mod_eq_sub_mod (by omega)
      rw [h1, h2, List.getElem?_cons_succ]
theorem flatten_length {sz : Nat} : ∀ (rows : List (List AV)), (∀ row ∈ rows, row.length = sz) → rows.flatten.length = rows.length * sz
  | [], _ => by simp
  | row :: rows, hr => by
    have := flatten_length rows (fun r hm => hr r (by simp [hm]))
    simp only [List.flatten_cons, List.length_append, List.length_cons, Nat.add_mul, hr row (by simp), this]
    omega

/-- What a slice's elements are in memory. -/
theorem news_rel (hs : Sim C.G w X ρ h) (hf : RF w (tot X ρ h) ρ h.length a.tmps fr) {x : Operand} {sz m : Nat} {news : List AV} (hsz : 0 < sz) (hz : szOk sz (ev C fr x) = true) (hn : newsOf h (ev C fr x) = some (m, news)) :
    ∃ base cap, a.eval x = .slice base m cap ∧ news.length = m * sz ∧ (m = 0 ∨ ∃ (b o' : Nat) (vals : List Value), base = some ⟨b, o', none⟩ ∧ vals.length = m * sz ∧
      (∀ (j : Nat) (u : Value), vals[j]? = some u → w.cell? ((⟨b, o', none⟩ : Addr).add j) = some u) ∧ (∀ u ∈ vals, u.oneCell' = true) ∧ ∀ (k : Nat) (y : AV), news[k]? = some y → Rp w (tot X ρ h) ρ h.length (vals.getD k undef) y) := by
  have e1 := ev_rp hs hf x
  unfold newsOf at hn
  split at hn
  · rename_i hx
    simp only [Option.some.injEq, Prod.mk.injEq] at hn
    obtain ⟨rfl, rfl⟩ := hn
    rw [hx] at e1
    exact ⟨none, 0, e1.sc_inv.1, by simp, .inl rfl⟩
  · rename_i sz' rows zz hx
    rw [hx] at e1 hz
    simp only [szOk, beq_iff_eq] at hz
    subst hz
    simp only [Option.some.injEq, Prod.mk.injEq] at hn
    obtain ⟨rfl, rfl⟩ := hn
    rcases e1.ls_inv.ls_cases with ⟨rfl, b, cap, hq, c1, c2⟩ | ⟨b, o', cap, us, cur, t0, fz, hq, c1, c2, c4, c5, c6, c7, c8⟩
    · exact ⟨b, cap, hq, by simp, .inl rfl⟩
    · have hall : ∀ row ∈ rows, row.length = sz' := fun row hm => by
        obtain ⟨k, hk, rfl⟩ := List.getElem_of_mem hm
        exact c7 k _ (List.getElem?_eq_getElem hk)
      have hfg := flatten_get hsz rows hall
      have hlen := flatten_length rows hall
      refine ⟨_, cap, hq, hlen, .inr ⟨b, o', (List.range (rows.length * sz')).map fun k => us (k / sz') (k % sz'), rfl, by simp, ?_, ?_, ?_⟩⟩
      · intro j u hj
        simp only [List.getElem?_map, Option.map_eq_some_iff] at hj
        obtain ⟨k, hk, rfl⟩ := hj
        have hjl : j < rows.length * sz' := by have := (List.getElem?_eq_some_iff.1 hk).1; simpa using this
        rw [List.getElem?_range hjl] at hk
        cases hk
        have h1 : j / sz' < rows.length := by rw [Nat.div_lt_iff_lt_mul hsz]; exact hjl
        have h2 : j % sz' < (rows[j / sz']).length := by rw [c7 _ _ (List.getElem?_eq_getElem h1)]; exact Nat.mod_lt _ hsz
        have := c8 (j / sz') _ (j % sz') _ (List.getElem?_eq_getElem h1) (List.getElem?_eq_getElem h2)
        rw [add_lit, cell_at c2, ← this.1]
        congr 1
        have := Nat.div_add_mod j sz'
        rw [Nat.mul_comm] at this
        omega
      · intro u hu
        simp only [List.mem_map, List.mem_range] at hu
        obtain ⟨j, hjl, rfl⟩ := hu
        have h1 : j / sz' < rows.length := by rw [Nat.div_lt_iff_lt_mul hsz]; exact hjl
        have h2 : j % sz' < (rows[j / sz']).length := by rw [c7 _ _ (List.getElem?_eq_getElem h1)]; exact Nat.mod_lt _ hsz
        exact (c8 (j / sz') _ (j % sz') _ (List.getElem?_eq_getElem h1) (List.getElem?_eq_getElem h2)).2.1
      · intro k y hk
        have hkl : k < rows.length * sz' := by have := (List.getElem?_eq_some_iff.1 hk).1; rwa [hlen] at this
        rw [hfg] at hk
        simp only [Option.bind_eq_some_iff] at hk
        obtain ⟨row, hr, hy⟩ := hk
        have := c8 _ row _ y hr hy
        have e2 : ((List.range (rows.length * sz')).map fun k => us (k / sz') (k % sz')).getD k undef = us (k / sz') (k % sz') := by simp [List.getD, List.getElem?_range hkl]
        rw [e2]
        exact .im this.2.2
  · rename_i id sz' off len k hx
    rw [hx] at e1 hz
    simp only [szOk, beq_iff_eq] at hz
    subst hz
    split at hn
    case h_2 => cases hn
    rename_i cs hid
    split at hn
    case isFalse => cases hn
    rename_i hle
    simp only [Option.some.injEq, Prod.mk.injEq] at hn
    obtain ⟨rfl, rfl⟩ := hn
    obtain ⟨cap, cur, t0, fz, hq, c1, c2, c3, _, _, c4, c5⟩ := e1.sl_inv
    obtain ⟨cur', t1, fz', us, d1, d3⟩ := hs.cells hid
    refine ⟨_, cap, hq, by simp; omega, .inr ⟨ρ id, off, (List.range (len * sz')).map fun k => us (off + k), rfl, by simp, ?_, ?_, ?_⟩⟩
    · intro j u hj
      simp only [List.getElem?_map, Option.map_eq_some_iff] at hj
      obtain ⟨k, hk, rfl⟩ := hj
      have hjl : j < len * sz' := by have := (List.getElem?_eq_some_iff.1 hk).1; simpa using this
      rw [List.getElem?_range hjl] at hk
      cases hk
      rw [add_lit, cell_at d1]
      exact (d3 (off + j) _ (List.getElem?_eq_getElem (by omega))).1
    · intro u hu
      simp only [List.mem_map, List.mem_range] at hu
      obtain ⟨j, hjl, rfl⟩ := hu
      exact (d3 (off + j) _ (List.getElem?_eq_getElem (by omega))).2.1
    · intro k y hk
      rw [List.getElem?_take] at hk
      split at hk
      · rename_i hkl
        rw [List.getElem?_drop] at hk
        have e2 : ((List.range (len * sz')).map fun k => us (off + k)).getD k undef = us (off + k) := by simp [List.getD, List.getElem?_range hkl]
        rw [e2]
        exact (d3 (off + k) y hk).2.2
      · cases hk
  · cases hn

end ops
end Go.Ae

/-
  The abstract evaluator, part 7: append, copy, calls; every operation.
-/
set_option linter.unusedSimpArgs false
namespace Go.Ae
open Go

section ops
variable {C : Cx} {w : World} {X : Nat → Prop} {ρ : Nat → Nat} {h : Hp} {a : Act} {fr : List AV} {o : Oper}

theorem list2 {α : Type} {xs : Array α} {x y : α} (h : xs.toList = [x, y]) : xs = #[x, y] := by
  obtain ⟨l⟩ := xs
  simp only at h
  rw [h]
theorem list1 {α : Type} {xs : Array α} {x : α} (h : xs.toList = [x]) : xs = #[x] := by
  obtain ⟨l⟩ := xs
  simp only at h
  rw [h]

theorem append_zero {P : Program} {t ty e : TypeId} {i : TypeInfo} (ht : P.underlying t = some (.slice e)) (hi : P.info? e = some i) (b0 base : Option Addr) (n cap0 cap : Nat) (hn : n ≤ cap0) (w : World) :
    (Builtin.append_ #[t, t] ty #[.slice b0 n cap0, .slice base 0 cap]).run P w = .ok (.slice b0 n cap0) w := by
  cases b0 <;> cases base <;>
    simp [Builtin.append_, run_underlying ht, sizeOf, typeInfo, hi, Builtin.lenOf, Builtin.firstCells, loadCells, loadCellsFrom, hn, storeCells]

theorem append_room {P : Program} {t ty e : TypeId} {i : TypeInfo} (ht : P.underlying t = some (.slice e)) (hi : P.info? e = some i) (b o' sLen sCap m c : Nat) (ad : Addr) (news : List Value) (hl : news.length = m * i.size) {w w' : World}
    (hnews : ∀ (j : Nat) (u : Value), news[j]? = some u → w.cell? (ad.add j) = some u) (hroom : sLen + m ≤ sCap) (hst : (storeCells ⟨b, o' + sLen * i.size, none⟩ news).run P w = .ok () w') :
    (Builtin.append_ #[t, t] ty #[.slice (some ⟨b, o', none⟩) sLen sCap, .slice (some ad) m c]).run P w = .ok (.slice (some ⟨b, o', none⟩) (sLen + m) sCap) w' := by
  have hf := run_firstCells_some (P := P) w i.size m ad m c news hl hnews
  simp [Builtin.append_, run_underlying ht, sizeOf, typeInfo, hi, Builtin.lenOf, hroom, hf, add_lit, hst]

/-- A slice of a block that a Step leaves. -/
theorem sl_after {w w' : World} {O O' : Nat → Prop} (hst : Step w O w' O') {X' : Nat → Prop} {ρ' : Nat → Nat} {n' id sz off len cap : Nat} {cur : Array Value} {t : TypeId} {fz : Nat × Nat} (hid : id < n') (hw : w.heap[ρ' id]? = some (.cells cur t fz)) (h1 : off + cap * sz = cur.size)
    (h2 : len ≤ cap) (h3 : cap ≤ maxLen) : Rp w' X' ρ' n' (.slice (some ⟨ρ' id, off, none⟩) len cap) (.sl id sz off len false) := by
  obtain ⟨c', t', f', hc, hsz⟩ := hst.row _ _ _ _ hw
  exact .sl id sz off len cap false c' t' f' hid hc (by omega) (by simp) (by intro; omega) h2 h3

theorem grown_ext {G : Nat → Option (List Value)} (hs : Sim G w X ρ h) (e : TypeId) (vals zeros : List Value) {cs : List AV} (hlen : vals.length = cs.length) (hone : ∀ u ∈ vals, u.oneCell' = true)
    (hrel : ∀ (k : Nat) (y : AV), cs[k]? = some y → Rp w (tot X ρ h) ρ h.length (vals.getD k undef) y) (cur : Array Value) (hcur : cur = (vals ++ zeros).toArray) :
    Ext G w X ρ h (w.drew.alloc (.cells cur e (0, 0))) (fun i => if i = h.length then w.heap.size else ρ i) (h ++ [.row cs]) := by
  have h1 := ext_drawn hs (w.drawn + 1)
  have h2 := ext_alloc h1.sim cur e cs (fun k => vals.getD k undef) (by subst hcur; simp; omega) (fun k x hk => by
    have hkl : k < vals.length := by have := (List.getElem?_eq_some_iff.1 hk).1; omega
    have hv : vals.getD k undef = vals[k] := by simp [List.getD, List.getElem?_eq_getElem hkl]
    refine ⟨?_, by rw [hv]; exact hone _ (List.getElem_mem hkl), h1.rp (hrel k x hk)⟩
    subst hcur
    rw [List.getElem?_toArray, List.getElem?_append_left hkl, hv, List.getElem?_eq_getElem hkl]) (0, 0) (.inl rfl)
  exact h1.trans h2

theorem exec_append {x s : Operand} {t : TypeId} (hop : o.op = .call { callee := .builtin .append, args := #[s, x], argTypes := #[t, t] }) {v : Value} {w' : World}
    (hr : (Builtin.append_ #[t, t] o.type #[a.eval s, a.eval x]).run C.P w = .ok v w') : (execOp a.eval o).run C.P w = .ok (.value v) w' := by
  unfold execOp
  simp only [hop, resolve, invoke, builtin, Sem.run_bind, Sem.run_pure, Result.andThen_ok, List.map_toArray, List.map_cons, List.map_nil, hr]

/-- An append that must grow, onto cells that are known. -/
theorem grow_good (hs : Sim C.G w X ρ h) {s x : Operand} {t e : TypeId} {ei : TypeInfo} {z' : Value} (hop : o.op = .call { callee := .builtin .append, args := #[s, x], argTypes := #[t, t] })
    (h1 : C.P.underlying t = some (.slice e)) (k1 : C.P.info? e = some ei) (k3 : ei.zero = some z') (k9 : z'.cells.size = ei.size) {ad : Addr} {n cap' : Nat} (hv : a.eval s = .slice (some ad) n cap') {olds : List Value} {oldA : List AV}
    (hol : olds.length = n * ei.size) (hoA : oldA.length = olds.length) (hoc : ∀ (j : Nat) (u : Value), olds[j]? = some u → w.cell? (ad.add j) = some u) (ho1 : ∀ u ∈ olds, u.oneCell' = true)
    (hor : ∀ (k : Nat) (y : AV), oldA[k]? = some y → Rp w (tot X ρ h) ρ h.length (olds.getD k undef) y) {b o' m cap : Nat} {vals : List Value} {news : List AV} (hx : a.eval x = .slice (some ⟨b, o', none⟩) m cap)
    (hvl : vals.length = m * ei.size) (hnl : news.length = m * ei.size) (hcell : ∀ (j : Nat) (u : Value), vals[j]? = some u → w.cell? ((⟨b, o', none⟩ : Addr).add j) = some u) (hone : ∀ u ∈ vals, u.oneCell' = true)
    (hrel : ∀ (k : Nat) (y : AV), news[k]? = some y → Rp w (tot X ρ h) ρ h.length (vals.getD k undef) y) (hno : cap' < n + m) (hmax : n + m ≤ maxLen) (hby : (n + m) * ei.bytes ≤ 140737488355328) :
    Good C o a w X ρ h (.sl h.length ei.size 0 (n + m) false) (h ++ [.row (oldA ++ news)]) := by
  have hgc := grownCap_le_maxLen w (n + m) cap' e hmax
  have hge := grownCap_ge w (n + m) cap' e
  have he := grown_ext hs e (olds ++ vals) (Builtin.zeroCells z'.cells (grownCap w (n + m) cap' e - (n + m))).toList (cs := oldA ++ news) (by simp; omega)
    (fun u hu => by
      rcases List.mem_append.1 hu with hu | hu
      · exact ho1 u hu
      · exact hone u hu)
    (fun k y hky => by
      by_cases hkl : k < oldA.length
      · rw [List.getElem?_append_left hkl] at hky
        have e2 : (olds ++ vals).getD k undef = olds.getD k undef := by
          simp only [List.getD]
          rw [List.getElem?_append_left (by omega)]
        rw [e2]
        exact hor k y hky
      · rw [List.getElem?_append_right (by omega)] at hky
        have e2 : (olds ++ vals).getD k undef = vals.getD (k - oldA.length) undef := by
          simp only [List.getD]
          rw [List.getElem?_append_right (by omega), hoA]
        rw [e2]
        exact hrel _ y hky)
    (olds.toArray ++ vals.toArray ++ Builtin.zeroCells z'.cells (grownCap w (n + m) cap' e - (n + m))) (by apply Array.ext'; simp)
  have hmax' : ((n + m : Nat) : Int) ≤ 9223372036854775807 := by simp only [maxLen] at hmax; omega
  refine good_value (v := .slice (some ⟨w.heap.size, 0, none⟩) (n + m) (grownCap w (n + m) cap' e)) ?_ he (own_sl w _ h ρ _ _ _ _ _ (by simp) _ e (0, 0) (alloc_new w.drew _) ?_ hge hgc)
  · refine exec_append hop ?_
    rw [hv, hx]
    exact run_append_grow (P := C.P) w t o.type e ei z' h1 k1 k3 ad n cap' olds hol hoc ⟨b, o', none⟩ m cap vals hvl hcell hno hmax' (growslice_fits hno hby)
  · rw [Array.size_append, Array.size_append, List.size_toArray, List.size_toArray, size_zeroCells, k9, hvl, hol, ← Nat.add_mul, ← Nat.add_mul]
    congr 1
    omega

/-- The cells of a slice that is never written again, one behind the other. -/
theorem ls_vals {b o' sz : Nat} {X : Nat → Prop} {rows : List (List AV)} {us : Nat → Nat → Value} {cur : Array Value} {t0 : TypeId} {fz : Nat × Nat} (hsz : 0 < sz) (c2 : w.heap[b]? = some (Obj.cells cur t0 fz))
    (c7 : ∀ (i : Nat) (row : List AV), rows[i]? = some row → row.length = sz)
    (c8 : ∀ (i : Nat) (row : List AV) (j : Nat) (x : AV), rows[i]? = some row → row[j]? = some x → cur[o' + i * sz + j]? = some (us i j) ∧ Value.oneCell' (us i j) = true ∧ Ri w X (us i j) x) :
    ∃ vals : List Value, vals.length = rows.length * sz ∧ rows.flatten.length = rows.length * sz ∧ (∀ (j : Nat) (u : Value), vals[j]? = some u → w.cell? ((⟨b, o', none⟩ : Addr).add j) = some u) ∧ (∀ u ∈ vals, u.oneCell' = true) ∧
      ∀ (k : Nat) (y : AV), rows.flatten[k]? = some y → Ri w X (vals.getD k undef) y := by
  have hall : ∀ row ∈ rows, row.length = sz := fun row hm => by
    obtain ⟨k, hk, rfl⟩ := List.getElem_of_mem hm
    exact c7 k _ (List.getElem?_eq_getElem hk)
  have hfg := flatten_get hsz rows hall
  have hlen := flatten_length rows hall
  refine ⟨(List.range (rows.length * sz)).map fun k => us (k / sz) (k % sz), by simp, hlen, ?_, ?_, ?_⟩
  · intro j u hj
    simp only [List.getElem?_map, Option.map_eq_some_iff] at hj
    obtain ⟨k, hk, rfl⟩ := hj
    have hjl : j < rows.length * sz := by have := (List.getElem?_eq_some_iff.1 hk).1; simpa using this
    rw [List.getElem?_range hjl] at hk
    cases hk
    have h1 : j / sz < rows.length := by rw [Nat.div_lt_iff_lt_mul hsz]; exact hjl
    have h2 : j % sz < (rows[j / sz]).length := by rw [c7 _ _ (List.getElem?_eq_getElem h1)]; exact Nat.mod_lt _ hsz
    have := c8 (j / sz) _ (j % sz) _ (List.getElem?_eq_getElem h1) (List.getElem?_eq_getElem h2)
    rw [add_lit, cell_at c2, ← this.1]
    congr 1
    have := Nat.div_add_mod j sz
    rw [Nat.mul_comm] at this
    omega
  · intro u hu
    simp only [List.mem_map, List.mem_range] at hu
    obtain ⟨j, hjl, rfl⟩ := hu
    have h1 : j / sz < rows.length := by rw [Nat.div_lt_iff_lt_mul hsz]; exact hjl
    have h2 : j % sz < (rows[j / sz]).length := by rw [c7 _ _ (List.getElem?_eq_getElem h1)]; exact Nat.mod_lt _ hsz
    exact (c8 (j / sz) _ (j % sz) _ (List.getElem?_eq_getElem h1) (List.getElem?_eq_getElem h2)).2.1
  · intro k y hk
    have hkl : k < rows.length * sz := by have := (List.getElem?_eq_some_iff.1 hk).1; rwa [hlen] at this
    rw [hfg] at hk
    simp only [Option.bind_eq_some_iff] at hk
    obtain ⟨row, hr, hy⟩ := hk
    have := c8 _ row _ y hr hy
    have e2 : ((List.range (rows.length * sz)).map fun k => us (k / sz) (k % sz)).getD k undef = us (k / sz) (k % sz) := by simp [List.getD, List.getElem?_range hkl]
    rw [e2]
    exact this.2.2

theorem g_append (hs : Sim C.G w X ρ h) (hf : RF w (tot X ρ h) ρ h.length a.tmps fr) {s x : Operand} {t : TypeId} (hop : o.op = .call { callee := .builtin .append, args := #[s, x], argTypes := #[t, t] })
    (hT : ∀ t i, C.T t = some i → tiOf C.P t = some i) {r : AV} {h' : Hp} (ha : appendA C h t (ev C fr s) (ev C fr x) = some (r, h')) : Good C o a w X ρ h r h' := by
  unfold appendA at ha
  split at ha
  case h_2 => cases ha
  rename_i sz ag by' ez hti
  obtain ⟨d, info, z, h1, h2, h3, h4, h5, h6, h7, h8, h9⟩ := tiOf_spec (hT t _ hti)
  obtain ⟨e, ei, ed, z', rfl, k1, k2, k3, rfl, k5, rfl, k7, k8, k9, k10⟩ := kdOf_slice h4
  split at ha
  case isFalse => cases ha
  rename_i hsz
  simp only [Bool.and_eq_true] at hsz
  split at ha
  case h_2 => cases ha
  rename_i m news hnews
  obtain ⟨base, cap, hx, hnl, hvals⟩ := news_rel hs hf k10 hsz.2 hnews
  have es := ev_rp hs hf s
  split at ha
  · -- nothing is appended
    rename_i hm
    subst hm
    have hval : ∃ b0 n cap0, a.eval s = .slice b0 n cap0 ∧ n ≤ cap0 ∧ r = ev C fr s ∧ h' = h := by
      cases hq : ev C fr s with
      | sc u =>
        rw [hq] at ha es hsz
        split at ha
        · rename_i hu
          simp only [AV.sc.injEq] at hu
          subst hu
          simp only [Option.some.injEq, Prod.mk.injEq] at ha
          exact ⟨none, 0, 0, es.sc_inv.1, Nat.le_refl _, ha.1.symm, ha.2.symm⟩
        · rename_i hu; cases hu
        · rename_i hu; cases hu
        · cases ha
      | ls sz' rows zz =>
        rw [hq] at ha es
        simp only [Option.some.injEq, Prod.mk.injEq] at ha
        rcases es.ls_inv.ls_cases with ⟨rfl, b, cap', hv, _⟩ | ⟨b, o', cap', us, cur, t0, fz, hv, _, _, hc, _⟩
        · exact ⟨b, 0, cap', hv, Nat.zero_le _, ha.1.symm, ha.2.symm⟩
        · exact ⟨_, _, cap', hv, hc, ha.1.symm, ha.2.symm⟩
      | sl id sz' off len k =>
        rw [hq] at ha es
        simp only [Option.some.injEq, Prod.mk.injEq] at ha
        obtain ⟨cap', cur, t0, fz, hv, _, _, _, _, _, hc, _⟩ := es.sl_inv
        exact ⟨_, _, cap', hv, hc, ha.1.symm, ha.2.symm⟩
      | _ => rw [hq] at ha; cases ha
    obtain ⟨b0, n, cap0, hv, hle, rfl, rfl⟩ := hval
    refine good_same hs (exec_append hop (v := .slice b0 n cap0) (by rw [hv, hx]; exact append_zero h1 k1 b0 base n cap0 cap hle w)) ?_
    rw [← hv]; exact es
  · rename_i hm
    rcases hvals with hm0 | ⟨b, o', vals, rfl, hvl, hcell, hone, hrel⟩
    · exact absurd hm0 hm
    have hmpos : 0 < m := by omega
    -- a new row, nothing before it
    have fresh : (∃ b0, a.eval s = .slice b0 0 0) → m ≤ maxLen → m * ei.bytes ≤ 140737488355328 → Good C o a w X ρ h (.sl h.length ei.size 0 m false) (h ++ [.row news]) := by
      rintro ⟨b0, hv⟩ hmax hby
      have hmax' : (m : Int) ≤ 9223372036854775807 := by simp only [maxLen] at hmax; omega
      have hgc := grownCap_le_maxLen w m 0 e hmax
      have hge := grownCap_ge w m 0 e
      have he := grown_ext hs e vals (Builtin.zeroCells z'.cells (grownCap w m 0 e - m)).toList (cs := news) (by omega) hone hrel (vals.toArray ++ Builtin.zeroCells z'.cells (grownCap w m 0 e - m)) (by apply Array.ext'; simp)
      refine good_value (v := .slice (some ⟨w.heap.size, 0, none⟩) m (grownCap w m 0 e)) ?_ he (own_sl w _ h ρ _ _ _ _ _ (by simp) _ e (0, 0) (alloc_new w.drew _) ?_ hge hgc)
      · refine exec_append hop ?_
        rw [hv, hx]
        cases b0 with
        | none => exact run_append_nil (P := C.P) w t o.type e ei z' h1 k1 k3 ⟨b, o', none⟩ m cap vals hvl hcell hmpos hmax' (by omega)
        | some ad =>
          have := run_append_grow (P := C.P) w t o.type e ei z' h1 k1 k3 ad 0 0 [] (by simp) (by simp) ⟨b, o', none⟩ m cap vals hvl hcell (by omega) (by simpa using hmax') (growslice_fits (by omega) (by simpa using hby))
          simpa using this
      · simp only [Array.size_append, List.size_toArray, size_zeroCells, k9, hvl, ← Nat.add_mul]
        congr 1
        omega
    split at ha
    · rename_i hq
      split at ha
      · rename_i hc
        simp only [Option.some.injEq, Prod.mk.injEq] at ha
        obtain ⟨rfl, rfl⟩ := ha
        rw [hq] at es
        exact fresh ⟨none, es.sc_inv.1⟩ hc.1 hc.2
      · cases ha
    · rename_i sz' rows hq
      split at ha
      · rename_i hc
        simp only [Option.some.injEq, Prod.mk.injEq] at ha
        obtain ⟨rfl, rfl⟩ := ha
        rw [hq] at es hsz
        have hszs : sz' = ei.size := by simpa [szOk] using hsz.1
        subst hszs
        rcases es.ls_inv.ls_cases with ⟨rfl, b0, cap', hv, _, hcap⟩ | ⟨b0, o0, cap', us, cur, t0, fz, hv, c1, c2, _, _, hcap, c7, c8⟩
        · rw [hcap rfl] at hv
          have := fresh ⟨b0, hv⟩ (by simpa using hc.1) (by simpa using hc.2)
          simpa using this
        · rw [hcap rfl] at hv
          obtain ⟨olds, q1, q2, q3, q4, q5⟩ := ls_vals (w := w) (X := tot X ρ h) k10 c2 c7 c8
          exact grow_good hs hop h1 k1 k3 k9 hv q1 (by omega) q3 q4 (fun k y hk => .im (q5 k y hk)) hx hvl hnl hcell hone hrel (by omega) hc.1 hc.2
      · cases ha
    · rename_i id sz' off len hq
      rw [hq] at es hsz
      have hszs : sz' = ei.size := by simpa [szOk] using hsz.1
      subst hszs
      obtain ⟨cap', cur, t0, fz, hv, hidlt, hheap, hcap, hk, _, hlc, hcm⟩ := es.sl_inv
      split at ha
      case h_2 => cases ha
      rename_i cs hid
      split at ha
      case isFalse => cases ha
      rename_i hc
      simp only [Option.some.injEq, Prod.mk.injEq] at ha
      obtain ⟨rfl, rfl⟩ := ha
      obtain ⟨cur1, t1, fz1, us, c1, c3⟩ := hs.cells hid
      rw [hk rfl] at hv
      have hget : ∀ j, j < len * ei.size → cs[off + j]? = some cs[off + j]! := fun j hj => by
        have : off + j < cs.length := by omega
        simp [List.getElem?_eq_getElem this, getElem!_pos cs (off + j) this]
      refine grow_good hs hop h1 k1 k3 k9 hv (olds := (List.range (len * ei.size)).map fun j => us (off + j)) (by simp) (by simp; omega) ?_ ?_ ?_ hx hvl hnl hcell hone hrel (by omega) hc.2.1 hc.2.2
      · intro j u hj
        simp only [List.getElem?_map, Option.map_eq_some_iff] at hj
        obtain ⟨k, hk', rfl⟩ := hj
        have hjl : j < len * ei.size := by have := (List.getElem?_eq_some_iff.1 hk').1; simpa using this
        rw [List.getElem?_range hjl] at hk'
        cases hk'
        rw [add_lit, cell_at c1]
        exact (c3 _ _ (hget j hjl)).1
      · intro u hu
        simp only [List.mem_map, List.mem_range] at hu
        obtain ⟨j, hjl, rfl⟩ := hu
        exact (c3 _ _ (hget j hjl)).2.1
      · intro k y hk'
        rw [List.getElem?_take] at hk'
        split at hk'
        · rename_i hkl
          rw [List.getElem?_drop] at hk'
          have e2 : ((List.range (len * ei.size)).map fun j => us (off + j)).getD k undef = us (off + k) := by simp [List.getD, List.getElem?_range hkl]
          rw [e2]
          exact (c3 _ y hk').2.2
        · cases hk'
    · rename_i id sz' off len hq
      rw [hq] at es hsz
      have hszs : sz' = ei.size := by simpa [szOk] using hsz.1
      subst hszs
      obtain ⟨cap', cur, t0, fz, hv, hidlt, hheap, _, _, hcap', hlc, hcm⟩ := es.sl_inv
      have hcap := hcap' rfl
      split at ha
      case h_2 => cases ha
      rename_i cs hid
      obtain ⟨cur1, t1, fz1, us, c1, hfz1, c2, c3⟩ := hs.row id cs hid
      have hcc : cur1 = cur := by rw [hheap] at c1; cases c1; rfl
      subst hcc
      split at ha
      · -- within the known cells
        rename_i hroom
        simp only [Option.some.injEq, Prod.mk.injEq] at ha
        obtain ⟨rfl, rfl⟩ := ha
        have hne : len + m ≤ cap' := by
          have : (len + m) * ei.size ≤ cap' * ei.size := by omega
          exact Nat.le_of_mul_le_mul_right this k10
        obtain ⟨w', hst, he⟩ := write_row hs hid (off := off + len * ei.size) (vs := news) (by rw [hnl]; rw [Nat.add_mul] at hroom; omega) (vals := vals) (by omega) hone hrel
        refine good_value (v := .slice (some ⟨ρ id, off, none⟩) (len + m) cap') ?_ he (sl_after he.step (by simpa using hidlt) hheap hcap hne hcm)
        refine exec_append hop ?_
        rw [hv, hx]
        exact append_room h1 k1 _ _ _ _ _ _ _ vals hvl hcell hne hst
      · split at ha
        case isFalse => cases ha
        rename_i hnroom hc
        obtain ⟨rfl, hcl, hmax, hby⟩ := hc
        simp only [Option.some.injEq, Prod.mk.injEq] at ha
        obtain ⟨rfl, rfl⟩ := ha
        by_cases hne : len + m ≤ cap'
        · -- in place, behind the known cells
          have hfit : cs.length + news.length ≤ cur1.size := by
            rw [hcl, hnl, ← Nat.add_mul, ← hcap, Nat.zero_add]
            exact Nat.mul_le_mul_right _ hne
          obtain ⟨w', hst, he⟩ := write_row' hs hid (off := cs.length) (vs := news) (Nat.le_refl _) (fun cur' t' fz' hc' => by rw [hheap] at hc'; cases hc'; exact hfit) (vals := vals) (by omega) hone hrel
          have hsp : splice cs cs.length news = cs ++ news := by simp [splice]
          rw [hsp] at he
          have hid' : (h.set id (Blk.row (cs ++ news)))[id]? = some (.row (cs ++ news)) := by
            have : id < h.length := hidlt
            simp [this]
          have hr := ext_rename he.sim id (cs ++ news) hid'
          have hset : (h.set id (Blk.row (cs ++ news))).set id Blk.dead = h.set id Blk.dead := by simp
          rw [hset] at hr
          have hall := he.trans hr
          refine good_value (v := .slice (some ⟨ρ id, 0, none⟩) (len + m) cap') ?_ hall ?_
          · refine exec_append hop ?_
            rw [hv, hx]
            refine append_room h1 k1 _ _ _ _ _ _ _ vals hvl hcell hne ?_
            rw [Nat.zero_add, ← hcl]; exact hst
          · have := sl_after (X' := tot X (fun i => if i = (h.set id (Blk.row (cs ++ news))).length then ρ id else ρ i) (h.set id Blk.dead ++ [Blk.row (cs ++ news)])) (ρ' := fun i => if i = (h.set id (Blk.row (cs ++ news))).length then ρ id else ρ i)
              (n' := (h.set id Blk.dead ++ [Blk.row (cs ++ news)]).length) (id := h.length) (sz := ei.size) (off := 0) (len := len + m) (cap := cap') hall.step (by simp) (by simpa using hheap) hcap hne hcm
            simpa using this
        · -- a new row
          have hk := ext_kill hs id
          have hvals0 : ∀ (j : Nat) (u : Value), ((List.range cs.length).map us)[j]? = some u → w.cell? ((⟨ρ id, 0, none⟩ : Addr).add j) = some u := by
            intro j u hj
            simp only [List.getElem?_map, Option.map_eq_some_iff] at hj
            obtain ⟨k, hk', rfl⟩ := hj
            have hjl : j < cs.length := by have := (List.getElem?_eq_some_iff.1 hk').1; simpa using this
            rw [List.getElem?_range hjl] at hk'
            cases hk'
            rw [add_lit, cell_at hheap, Nat.zero_add]
            exact (c3 j _ (List.getElem?_eq_getElem hjl)).1
          have hlen0 : ((List.range cs.length).map us).length = cs.length := by simp
          have hgc := grownCap_le_maxLen w (len + m) cap' e hmax
          have hge := grownCap_ge w (len + m) cap' e
          have he := grown_ext hk.sim e ((List.range cs.length).map us ++ vals) (Builtin.zeroCells z'.cells (grownCap w (len + m) cap' e - (len + m))).toList (cs := cs ++ news) (by simp; omega)
            (fun u hu => by
              rcases List.mem_append.1 hu with hu | hu
              · simp only [List.mem_map, List.mem_range] at hu
                obtain ⟨j, hjl, rfl⟩ := hu
                exact (c3 j _ (List.getElem?_eq_getElem hjl)).2.1
              · exact hone u hu)
            (fun k y hky => by
              by_cases hkl : k < cs.length
              · rw [List.getElem?_append_left hkl] at hky
                have e2 : ((List.range cs.length).map us ++ vals).getD k undef = us k := by
                  simp only [List.getD]
                  rw [List.getElem?_append_left (by simpa using hkl)]
                  simp [List.getElem?_range hkl]
                rw [e2]
                exact hk.rp (c3 k y hky).2.2
              · rw [List.getElem?_append_right (by omega)] at hky
                have e2 : ((List.range cs.length).map us ++ vals).getD k undef = vals.getD (k - cs.length) undef := by
                  simp only [List.getD]
                  rw [List.getElem?_append_right (by simp; omega)]
                  simp
                rw [e2]
                exact hk.rp (hrel _ y hky))
            (((List.range cs.length).map us).toArray ++ vals.toArray ++ Builtin.zeroCells z'.cells (grownCap w (len + m) cap' e - (len + m))) (by apply Array.ext'; simp)
          have hall := hk.trans he
          have hmax' : ((len + m : Nat) : Int) ≤ 9223372036854775807 := by simp only [maxLen] at hmax; omega
          have hlen' : (h.set id Blk.dead).length = h.length := by simp
          rw [hlen'] at hall
          refine good_value (v := .slice (some ⟨w.heap.size, 0, none⟩) (len + m) (grownCap w (len + m) cap' e)) ?_ hall (own_sl w _ h ρ _ _ _ _ _ (by simp) _ e (0, 0) (alloc_new w.drew _) ?_ hge hgc)
          · refine exec_append hop ?_
            rw [hv, hx]
            exact run_append_grow (P := C.P) w t o.type e ei z' h1 k1 k3 ⟨ρ id, 0, none⟩ len cap' ((List.range cs.length).map us) (by simp [hcl]) hvals0 ⟨b, o', none⟩ m cap vals hvl hcell (by omega) hmax' (growslice_fits (by omega) hby)
          · rw [Array.size_append, Array.size_append, List.size_toArray, List.size_toArray, size_zeroCells, k9, hvl, hlen0, hcl, ← Nat.add_mul, ← Nat.add_mul]
            congr 1
            omega
    · cases ha

/-- An append onto nothing, to memory that nobody writes. -/
theorem c_append (hs : Sim C.G w X ρ h) (hf : RF w (tot X ρ h) ρ h.length a.tmps fr) {s x : Operand} {t : TypeId} (hop : o.op = .call { callee := .builtin .append, args := #[s, x], argTypes := #[t, t] })
    (hT : ∀ t i, C.T t = some i → tiOf C.P t = some i) {sz by' : Nat} {zero : List Value} {size : Nat} {agg ag : Bool} {ez : List Value} (hti : C.T t = some { size := size, agg := agg, zero := zero, kd := .slice sz ag by' ez })
    (hsz : (szOk sz (ev C fr s) && szOk sz (ev C fr x)) = true) {m : Nat} {news : List AV} (hnews : newsOf h (ev C fr x) = some (m, news)) {s0 : Nat} {z : Bool} (hq : ev C fr s = .ls s0 [] z) :
    (m = 0 → Good C o a w X ρ h (.ls s0 [] z) h) ∧ (0 < m → m ≤ maxLen → m * by' ≤ 140737488355328 → z = true → news.all calm = true → Good C o a w X ρ h (.ls sz (chunk sz m news) false) h) := by
  obtain ⟨d, info, zv, h1, h2, h3, h4, h5, h6, h7, h8, h9⟩ := tiOf_spec (hT t _ hti)
  obtain ⟨e, ei, ed, z', rfl, k1, k2, k3, rfl, k5, rfl, k7, k8, k9, k10⟩ := kdOf_slice h4
  simp only [Bool.and_eq_true] at hsz
  obtain ⟨base, cap, hx, hnl, hvals⟩ := news_rel hs hf k10 hsz.2 hnews
  have es := ev_rp hs hf s
  rw [hq] at es
  have hbase : ∃ b0 cap0, a.eval s = .slice b0 0 cap0 ∧ (z = true → cap0 = 0) := by
    rcases es.ls_inv.ls_cases with ⟨_, b0, cap', hv, _, hcap⟩ | ⟨b0, o0, cap', us, cur, t0, fz, hv, c1, c2, _, _, hcap, c7, c8⟩
    · exact ⟨b0, cap', hv, hcap⟩
    · exact ⟨_, cap', hv, fun hz => hcap hz⟩
  obtain ⟨b0, cap0, hv, hc0⟩ := hbase
  refine ⟨fun hm => ?_, fun hmpos hmax hby hz hall => ?_⟩
  · subst hm
    refine good_same hs (exec_append hop (v := .slice b0 0 cap0) (by rw [hv, hx]; exact append_zero h1 k1 b0 base 0 cap0 cap (Nat.zero_le _) w)) ?_
    rw [← hv]; exact es
  · have hc00 := hc0 hz
    subst hc00
    rcases hvals with hm0 | ⟨b, o', vals, rfl, hvl, hcell, hone, hrel⟩
    · omega
    have hmax' : (m : Int) ≤ 9223372036854775807 := by simp only [maxLen] at hmax; omega
    have hgc := grownCap_le_maxLen w m 0 e hmax
    have hge := grownCap_ge w m 0 e
    have hst : Step w none' (w.drew.alloc (.cells (vals.toArray ++ Builtin.zeroCells z'.cells (grownCap w m 0 e - m)) e (0, 0))) none' := (drawn_quiet w (w.drawn + 1)).trans (alloc_quiet w.drew _)
    refine cold_good (cap := grownCap w m 0 e) hs hst (alloc_new w.drew _) (by rw [hnl]; exact Nat.le_refl _) hge hgc false (fun hh => by cases hh) hall (fun k y hk => ?_) ?_
    · have hkl : k < vals.length := by have := (List.getElem?_eq_some_iff.1 hk).1; omega
      refine ⟨vals[k], ?_, hone _ (List.getElem_mem hkl), ?_⟩
      · rw [Array.getElem?_append_left (by simpa using hkl)]
        simp [hkl]
      · have := hrel k y hk
        simpa [List.getD, List.getElem?_eq_getElem hkl] using this
    · refine exec_append hop ?_
      rw [hv, hx]
      cases b0 with
      | none => exact run_append_nil (P := C.P) w t o.type e ei z' h1 k1 k3 ⟨b, o', none⟩ m cap vals hvl hcell hmpos hmax' (by omega)
      | some ad =>
        have := run_append_grow (P := C.P) w t o.type e ei z' h1 k1 k3 ad 0 0 [] (by simp) (by simp) ⟨b, o', none⟩ m cap vals hvl hcell (by omega) (by simpa using hmax') (growslice_fits (by omega) (by simpa using hby))
        simpa using this

theorem g_copy (hs : Sim C.G w X ρ h) (hf : RF w (tot X ρ h) ρ h.length a.tmps fr) {s x : Operand} {t : TypeId} (hop : o.op = .call { callee := .builtin .copy, args := #[s, x], argTypes := #[t, t] })
    (hT : ∀ t i, C.T t = some i → tiOf C.P t = some i) {r : AV} {h' : Hp} (ha : copyA C h t (ev C fr s) (ev C fr x) = some (r, h')) : Good C o a w X ρ h r h' := by
  have hex : ∀ {v : Value} {w' : World}, (Builtin.copy_ #[t, t] o.type #[a.eval s, a.eval x]).run C.P w = .ok v w' → (execOp a.eval o).run C.P w = .ok (.value v) w' := by
    intro v w' hr
    unfold execOp
    simp only [hop, resolve, invoke, builtin, Sem.run_bind, Sem.run_pure, Result.andThen_ok, List.map_toArray, List.map_cons, List.map_nil, hr]
  unfold copyA at ha
  split at ha
  case h_2 => cases ha
  rename_i sz ag by' ez hti
  obtain ⟨d, info, z, h1, h2, h3, h4, h5, h6, h7, h8, h9⟩ := tiOf_spec (hT t _ hti)
  obtain ⟨e, ei, ed, z', rfl, k1, k2, k3, rfl, k5, rfl, k7, k8, k9, k10⟩ := kdOf_slice h4
  split at ha
  case isFalse => cases ha
  rename_i hsz
  simp only [Bool.and_eq_true] at hsz
  have es := ev_rp hs hf s
  split at ha
  case h_4 => cases ha
  · rename_i m news id sz' off len kk hnews hq
    obtain ⟨base, cap, hx, hnl, hvals⟩ := news_rel hs hf k10 hsz.2 hnews
    rw [hq] at es
    obtain ⟨cap', cur, t0, fz, hv, hidlt, hheap, hcap, _, _, hlc, hcm⟩ := es.sl_inv
    split at ha
    case h_2 => cases ha
    rename_i cs hid
    split at ha
    case isFalse => cases ha
    rename_i hfit
    simp only [Option.some.injEq, Prod.mk.injEq] at ha
    obtain ⟨rfl, rfl⟩ := ha
    have hmin : Nat.min m len = min m len := rfl
    rcases hvals with rfl | ⟨b, o', vals, rfl, hvl, hcell, hone, hrel⟩
    · obtain ⟨w', hst, he⟩ := write_row hs hid (off := off) (vs := news.take (min 0 len * ei.size)) (by simp; omega) (vals := []) (by simp) (by simp) (by simp)
      refine good_value (v := .int .i64 (min 0 len : Nat)) (hex ?_) he (.im (.sc _ rfl))
      rw [hv, hx]
      have hf0 : (Builtin.firstCells ei.size 0 (.slice base 0 cap)).run C.P w = .ok #[] w := by
        cases base <;> simp [Builtin.firstCells, loadCells, loadCellsFrom]
      simp [Builtin.copy_, run_underlying h1, Builtin.lenOf, sizeOf, typeInfo, k1, hmin, hf0, hst, goInt]
    · have htl : (vals.take (min m len * ei.size)).length = min m len * ei.size := by
        rw [List.length_take, hvl]
        have : min m len * ei.size ≤ m * ei.size := Nat.mul_le_mul_right _ (Nat.min_le_left _ _)
        omega
      have hnl' : (news.take (min m len * ei.size)).length = min m len * ei.size := by
        rw [List.length_take, hnl]
        have : min m len * ei.size ≤ m * ei.size := Nat.mul_le_mul_right _ (Nat.min_le_left _ _)
        omega
      obtain ⟨w', hst, he⟩ := write_row hs hid (off := off) (vs := news.take (min m len * ei.size)) (by omega) (vals := vals.take (min m len * ei.size)) (by omega) (fun u hu => hone u (List.mem_of_mem_take hu)) (fun k y hk => by
        rw [List.getElem?_take] at hk
        split at hk
        · rename_i hkl
          have := hrel k y hk
          simpa [List.getD, List.getElem?_take, hkl] using this
        · cases hk)
      refine good_value (v := .int .i64 (min m len : Nat)) (hex ?_) he (.im (.sc _ rfl))
      rw [hv, hx]
      have hf0 : (Builtin.firstCells ei.size (min m len) (.slice (some ⟨b, o', none⟩) m cap)).run C.P w = .ok (vals.take (min m len * ei.size)).toArray w :=
        run_firstCells_some (P := C.P) w ei.size (min m len) ⟨b, o', none⟩ m cap _ htl (fun j u hj => by
          rw [List.getElem?_take] at hj
          split at hj
          · exact hcell j u hj
          · cases hj)
      simp [Builtin.copy_, run_underlying h1, Builtin.lenOf, sizeOf, typeInfo, k1, hmin, hf0, hst, goInt]
  · rename_i m news sz' zz hnews hq
    obtain ⟨base, cap, hx, hnl, hvals⟩ := news_rel hs hf k10 hsz.2 hnews
    simp only [Option.some.injEq, Prod.mk.injEq] at ha
    obtain ⟨rfl, rfl⟩ := ha
    rw [hq] at es
    have hval : ∃ b0 cap0, a.eval s = .slice b0 0 cap0 := by
      rcases es.ls_inv.ls_cases with ⟨_, b, cap', hv, _⟩ | ⟨b, o', cap', us, cur, t0, fz, hv, _⟩
      · exact ⟨b, cap', hv⟩
      · exact ⟨_, cap', hv⟩
    obtain ⟨b0, cap0, hv⟩ := hval
    refine good_same hs (v := .int .i64 0) (hex ?_) (.im (.sc _ rfl))
    rw [hv, hx]
    cases b0 <;> cases base <;> simp [Builtin.copy_, run_underlying h1, Builtin.lenOf, sizeOf, typeInfo, k1, Builtin.firstCells, loadCells, loadCellsFrom, goInt, storeCells]
  · rename_i m news hnews hq
    obtain ⟨base, cap, hx, hnl, hvals⟩ := news_rel hs hf k10 hsz.2 hnews
    simp only [Option.some.injEq, Prod.mk.injEq] at ha
    obtain ⟨rfl, rfl⟩ := ha
    rw [hq] at es
    have hv := es.sc_inv.1
    refine good_same hs (v := .int .i64 0) (hex ?_) (.im (.sc _ rfl))
    rw [hv, hx]
    cases base <;> simp [Builtin.copy_, run_underlying h1, Builtin.lenOf, sizeOf, typeInfo, k1, Builtin.firstCells, loadCells, loadCellsFrom, goInt]

/-- How a call ends. -/
def CallR (C : Cx) (w : World) (X : Nat → Prop) (ρ : Nat → Nat) (h h' : Hp) (r : AV) (e : Ending) (w' : World) : Prop :=
  ∃ ρ', Ext C.G w X ρ h w' ρ' h' ∧ ((∃ v, e = .returned v ∧ Rp w' (tot X ρ' h') ρ' h'.length v r) ∨ ∃ u, e = .panicked [{ v := u, recovered := false }] ∧ r = .pn u)

/-- How calls go. -/
def CallOK (C : Cx) (call : FuncId → List AV → Hp → Option (AV × Hp)) : Prop :=
  ∀ g xs h r h', call g xs h = some (r, h') → ∀ (w : World) (X : Nat → Prop) (ρ : Nat → Nat) (vs : Array Value), Sim C.G w X ρ h → vs.size = xs.length →
    (∀ (k : Nat) (x : AV), xs[k]? = some x → Rp w (tot X ρ h) ρ h.length (vs.getD k undef) x) →
    (∃ fn, C.P.funcs[g]? = some fn ∧ fn.name ≠ "runtime.NumGoroutine" ∧ fn.body.isSome = true) ∧
    Calls C.P g vs w (CallR C w X ρ h h' r)

theorem g_call (hs : Sim C.G w X ρ h) (hf : RF w (tot X ρ h) ρ h.length a.tmps fr) {call : FuncId → List AV → Hp → Option (AV × Hp)} (hcall : CallOK C call) {f : Operand} {args : Array Operand} {tys : Array TypeId}
    (hop : o.op = .call { callee := .value f, args := args, argTypes := tys }) {g : FuncId} {caps : List AV} (hfn : ev C fr f = .fn g caps) {r : AV} {h' : Hp} (hr : call g (args.toList.map (ev C fr) ++ caps) h = some (r, h')) : Good C o a w X ρ h r h' := by
  have e1 := ev_rp hs hf f
  rw [hfn] at e1
  obtain ⟨us, hv, hul, hur⟩ := e1.fn_inv
  obtain ⟨⟨fn, c1, c2, c3⟩, c4⟩ := hcall g _ h r h' hr w X ρ (args.map a.eval ++ us) hs (by simp [hul]) (fun k x hk => by
    by_cases hkl : k < args.size
    · rw [List.getElem?_append_left (by simpa using hkl)] at hk
      simp only [List.getElem?_map, Option.map_eq_some_iff] at hk
      obtain ⟨y, hy, rfl⟩ := hk
      have hy' : args[k]? = some y := by simpa using hy
      have hy'' : args[k] = y := by rw [Array.getElem?_eq_getElem hkl] at hy'; simpa using hy'
      have e2 : (args.map a.eval ++ us).getD k undef = a.eval y := by
        rw [Array.getD_eq_getD_getElem?, Array.getElem?_append_left (by simpa using hkl)]
        simp [hkl, hy'']
      rw [e2]
      exact ev_rp hs hf y
    · rw [List.getElem?_append_right (by simpa using hkl)] at hk
      have e2 : (args.map a.eval ++ us).getD k undef = us.getD (k - args.size) undef := by
        rw [Array.getD_eq_getD_getElem?, Array.getElem?_append_right (by simpa using hkl)]
        simp [Array.getD_eq_getD_getElem?]
      rw [e2]
      exact hur _ x (by simpa using hk))
  intro K Q hK hQ
  unfold Oper.wp
  have hrun : (execOp a.eval o).run C.P w = .ok (.enter g (args.map a.eval ++ us)) w := by
    have hb : fn.body.isNone = false := by cases hq : fn.body <;> simp_all
    simp only [execOp, hop, resolve, hv, Deferred.ofValue, invoke, callFunc, Sem.run_bind, Sem.run_pure, Result.andThen_ok, run_program, c1]
    simp [c2, hb]
  rw [hrun, Oper.upon_enter]
  refine c4.mono fun e w' ⟨ρ', hx, hh⟩ => ?_
  rcases hh with ⟨v, rfl, hrp⟩ | ⟨u, rfl, hru⟩
  · exact hK v w' ρ' hx hrp
  · exact hQ u w' ρ' hru hx

/-! ### nil, bytes, maps, panics -/
theorem someA_inv {n : Nat} {v : Value} {x : AV} (h : Rp w X ρ n v x) (hs : someA x = true) : ∃ ad l c, v = .slice (some ad) l c := by
  cases x with
  | ls sz rows z =>
    cases rows with
    | nil => simp [someA] at hs
    | cons r rows =>
      rcases h.ls_inv.ls_cases with ⟨h0, _⟩ | ⟨b, o', cap, us, cur, t0, fz, hq, _⟩
      · cases h0
      · exact ⟨_, _, _, hq⟩
  | sl id sz off len k =>
    obtain ⟨cap, cur, t, fz, hv, _⟩ := h.sl_inv
    exact ⟨_, _, _, hv⟩
  | _ => simp [someA] at hs

theorem g_nilcmp (hs : Sim C.G w X ρ h) (hf : RF w (tot X ρ h) ρ h.length a.tmps fr) {op : BinOp} {t t' : TypeId} {x y : Operand} (hop : o.op = .binOp op t x y t') (hc : (isSlT C t && isNilC y && someA (ev C fr x)) = true) :
    (op = .eql → Good C o a w X ρ h (.sc (.bool false)) h) ∧ (op = .neq → Good C o a w X ρ h (.sc (.bool true)) h) := by
  simp only [Bool.and_eq_true] at hc
  obtain ⟨⟨hc1, hc2⟩, hc3⟩ := hc
  obtain ⟨ad, l, c, hv⟩ := someA_inv (ev_rp hs hf x) hc3
  obtain ⟨e, he⟩ : ∃ e, C.P.underlying t = some (.slice e) := by
    unfold isSlT at hc1
    split at hc1
    · rename_i e he; exact ⟨e, he⟩
    · cases hc1
  have hy : a.eval y = .slice none 0 0 := by
    unfold isNilC at hc2
    split at hc2
    · rfl
    · cases hc2
  have hq := run_equal_slice_nil w t e (some ad) l c he
  constructor
  · rintro rfl
    refine good_same hs (v := .bool false) ?_ (.im (.sc _ rfl))
    simp [execOp, hop, hv, hy, eqGuard, binOp, hq]
  · rintro rfl
    refine good_same hs (v := .bool true) ?_ (.im (.sc _ rfl))
    simp [execOp, hop, hv, hy, eqGuard, binOp, hq]

theorem isU8_inv {t : TypeId} (h : isU8 C t = true) : ∃ e, C.P.underlying t = some (.slice e) ∧ C.P.underlying e = some (.int .u8) := by
  unfold isU8 at h
  split at h
  · rename_i e he
    split at h
    · rename_i h2; exact ⟨e, he, h2⟩
    · cases h
  · cases h
theorem isStr_inv {t : TypeId} (h : isStr C t = true) : C.P.underlying t = some .string := by
  unfold isStr at h
  split at h
  · assumption
  · cases h
theorem isMapS_inv {t : TypeId} (h : isMapS C t = true) : ∃ kt et, C.P.underlying t = some (.map kt et) ∧ C.P.underlying kt = some .string := by
  unfold isMapS at h
  split at h
  · rename_i kt et he; exact ⟨kt, et, he, isStr_inv h⟩
  · cases h

theorem g_toBytes (hs : Sim C.G w X ρ h) (hf : RF w (tot X ρ h) ρ h.length a.tmps fr) {src dst : TypeId} {x : Operand} (hop : o.op = .convert src dst x) {s : ByteArray} (hx : ev C fr x = .sc (.string s)) (h1 : isStr C src = true) (h2 : isU8 C dst = true) (hmax : s.size ≤ maxLen) :
    Good C o a w X ρ h (.sl h.length 1 0 s.size false) (h ++ [.row (s.data.toList.map fun b => .sc (.int .u8 b.toNat))]) := by
  obtain ⟨e, he, hu⟩ := isU8_inv h2
  have e1 := ev_rp hs hf x
  rw [hx] at e1
  have hv := e1.sc_inv.1
  have hrun := run_bytes_of_string (P := C.P) w src dst e s (isStr_inv h1) he hu
  have hge := grownCap_ge w s.size 0 e
  have hle := grownCap_le_maxLen w s.size 0 e hmax
  have hsz : (bytesRow s (grownCap w s.size 0 e)).size = grownCap w s.size 0 e := by
    simp only [bytesRow, Array.size_append, Array.size_map, Array.size_replicate]
    show s.size + _ = _
    omega
  have hd := ext_drawn hs (w.drawn + 1)
  have ha := ext_alloc hd.sim (bytesRow s (grownCap w s.size 0 e)) e (s.data.toList.map fun b => .sc (.int .u8 b.toNat)) (fun k => (bytesRow s (grownCap w s.size 0 e)).getD k undef)
    (by rw [hsz]; simp; exact hge) (fun k y hk => by
      simp only [List.getElem?_map, Option.map_eq_some_iff] at hk
      obtain ⟨b, hb, rfl⟩ := hk
      have hkl : k < s.data.size := by have := (List.getElem?_eq_some_iff.1 hb).1; simpa using this
      have hb' : s.data[k]? = some b := by simpa using hb
      have hrow : (bytesRow s (grownCap w s.size 0 e))[k]? = some (.int .u8 b.toNat) := by
        unfold bytesRow
        rw [Array.getElem?_append_left (by simpa using hkl)]
        simp [hb']
      have hg : (bytesRow s (grownCap w s.size 0 e)).getD k undef = .int .u8 b.toNat := by rw [Array.getD_eq_getD_getElem?, hrow]; rfl
      rw [hg]
      exact ⟨hrow, rfl, .im (.sc _ rfl)⟩) ((bytesRow s (grownCap w s.size 0 e)).size, (bytesRow s (grownCap w s.size 0 e)).size + 1) (.inr (Nat.le_refl _))
  refine good_value (v := .slice (some ⟨w.heap.size, 0, none⟩) s.size (grownCap w s.size 0 e)) ?_ (hd.trans ha) (own_sl w _ h ρ _ _ _ _ _ (by simp) _ e _ (alloc_new w.drew _) (by rw [hsz]; omega) hge hle)
  simp only [execOp, hop, hv, Sem.run_bind, hrun, Result.andThen_ok, Sem.run_pure]
  rfl

theorem byteA_inv {n : Nat} {v : Value} {x : AV} {b : UInt8} (h : Rp w X ρ n v x) (hb : byteA x = some b) : v = .int .u8 (b.toNat : Int) := by
  unfold byteA at hb
  split at hb
  · rename_i i
    split at hb
    · rename_i hc
      simp only [Option.some.injEq] at hb
      subst hb
      have := h.sc_inv.1
      rw [this]
      have h3 : (UInt8.ofNat i.toNat).toNat = i.toNat := by
        simp
        omega
      rw [h3]
      congr 1
      omega
    · cases hb
  · cases hb

theorem g_toString (hs : Sim C.G w X ρ h) (hf : RF w (tot X ρ h) ρ h.length a.tmps fr) {src dst : TypeId} {x : Operand} (hop : o.op = .convert src dst x) {id off len : Nat} {k : Bool} (hx : ev C fr x = .sl id 1 off len k) (h1 : isStr C dst = true) (h2 : isU8 C src = true)
    {m : Nat} {news : List AV} (hn : newsOf h (.sl id 1 off len k) = some (m, news)) {bs : List UInt8} (hb : news.mapM byteA = some bs) : Good C o a w X ρ h (.sc (.string ⟨bs.toArray⟩)) h := by
  obtain ⟨e, he, hu⟩ := isU8_inv h2
  have e1 := ev_rp hs hf x
  rw [hx] at e1
  obtain ⟨cap, cur, t, fz, hv, _⟩ := e1.sl_inv
  have hml : m = len := by
    simp only [newsOf] at hn
    split at hn
    · split at hn
      · simp only [Option.some.injEq, Prod.mk.injEq] at hn; exact hn.1.symm
      · cases hn
    · cases hn
  subst hml
  obtain ⟨base, cap', hv', hnl, hvals⟩ := news_rel hs hf (x := x) (sz := 1) (by omega) (by rw [hx]; simp [szOk]) (by rw [hx]; exact hn)
  obtain ⟨m1, m2⟩ := mapM_get hb
  have hbl : bs.length = m := by rw [m1, hnl]; omega
  rw [hv] at hv'
  simp only [Value.slice.injEq] at hv'
  obtain ⟨rfl, _, rfl⟩ := hv'
  refine good_same hs (v := .string ⟨bs.toArray⟩) ?_ (.im (.sc _ rfl))
  have hc := run_convert_bytes_back (P := C.P) w src dst e ⟨ρ id, off, none⟩ cap bs he hu (isStr_inv h1) (fun j hj => by
    rcases hvals with h0 | ⟨b, o', vals, hbase, hvl, hcell, hone, hrel⟩
    · omega
    · simp only [Option.some.injEq, Addr.mk.injEq] at hbase
      obtain ⟨rfl, rfl, _⟩ := hbase
      have hjv : j < vals.length := by omega
      have hjn : j < news.length := by omega
      rw [hcell j _ (List.getElem?_eq_getElem hjv)]
      obtain ⟨b', hb1, hb2⟩ := m2 j _ (List.getElem?_eq_getElem hjn)
      rw [List.getElem?_eq_getElem hj] at hb1
      cases hb1
      have := byteA_inv (hrel j _ (List.getElem?_eq_getElem hjn)) hb2
      simp only [List.getD, List.getElem?_eq_getElem hjv, Option.getD_some] at this
      rw [this])
  rw [hbl] at hc
  simp only [execOp, hop, hv, Sem.run_bind, hc, Result.andThen_ok, Sem.run_pure]

theorem g_makeMap (hs : Sim C.G w X ρ h) {t : TypeId} (hop : o.op = .makeMap t none) : Good C o a w X ρ h (.mp h.length) (h ++ [.map [] 0]) := by
  have he := ext_new hs (.map #[] 0) (.map [] 0) rfl ⟨#[], rfl, rfl, by simp, by simp⟩
  refine good_value (v := .map (some w.heap.size)) ?_ he ?_
  · simp [execOp, hop, Instr.makeMap, run_new]
  · have := Rp.mp (w := w.alloc (.map #[] 0)) (X := tot X (fun i => if i = h.length then w.heap.size else ρ i) (h ++ [Blk.map [] 0])) (ρ := fun i => if i = h.length then w.heap.size else ρ i) (n := (h ++ [Blk.map [] 0]).length) h.length (by simp)
    simpa using this

theorem g_range (hs : Sim C.G w X ρ h) (hf : RF w (tot X ρ h) ρ h.length a.tmps fr) {t : TypeId} {x : Operand} (hop : o.op = .range t x) {s : ByteArray} (hx : ev C fr x = .sc (.string s)) (ht : isStr C t = true) :
    Good C o a w X ρ h (.pt h.length 0) (h ++ [.iter s 0]) := by
  have e1 := ev_rp hs hf x
  rw [hx] at e1
  have he := ext_new hs (.stringIter s 0) (.iter s 0) rfl rfl
  refine good_value (v := .pointer (some ⟨w.heap.size, 0, none⟩)) ?_ he (own_pt w h ρ _ _ _ (by simp))
  simp only [execOp, hop, Instr.range, e1.sc_inv.1, Sem.run_bind, run_underlying (isStr_inv ht), Result.andThen_ok, Sem.run_pure, run_new]

theorem g_next (hs : Sim C.G w X ρ h) (hf : RF w (tot X ρ h) ρ h.length a.tmps fr) {x : Operand} (hop : o.op = .next x true) {id : Nat} (hx : ev C fr x = .pt id 0) {s : ByteArray} {pos : Nat} (hid : h[id]? = some (.iter s pos)) :
    (pos < s.size → Good C o a w X ρ h (.tp [.sc (.bool true), .sc (.int .i64 pos), .sc (.int .i32 (Utf8.decode s pos).1)]) (h.set id (.iter s (pos + (Utf8.decode s pos).2)))) ∧ (¬ pos < s.size → Good C o a w X ρ h (.tp [.sc (.bool false)]) h) := by
  have e1 := ev_rp hs hf x
  rw [hx] at e1
  have hv := e1.pt_inv.1
  have b1 : w.heap[ρ id]? = some (.stringIter s pos) := hs.blk id _ hid
  have hlt := heap_lt b1
  have hget : (getObj (ρ id)).run C.P w = .ok (.stringIter s pos) w := by simp only [getObj, Sem.run, b1]
  have hset : ∀ ob : Obj, (setObj (ρ id) ob).run C.P w = .ok () { w with heap := w.heap.setIfInBounds (ρ id) ob } := fun ob => by
    simp only [setObj, Sem.run, b1, Array.set!_eq_setIfInBounds]
  have tup : ∀ (w' : World) (X' : Nat → Prop) (us : List Value), (∀ u ∈ us, flat u = true) → Ri w' X' (.tuple us.toArray) (.tp (us.map .sc)) := fun w' X' us hu => by
    refine .tp _ _ (by simp) fun k y hk => ?_
    simp only [List.getElem?_map, Option.map_eq_some_iff] at hk
    obtain ⟨u, hk, rfl⟩ := hk
    have : us.toArray.getD k undef = u := by simp [hk]
    rw [this]
    exact .sc u (hu u (List.mem_of_getElem? hk))
  constructor
  · intro hlt'
    have hext : Ext C.G w X ρ h { w with heap := w.heap.setIfInBounds (ρ id) (.stringIter s (pos + (Utf8.decode s pos).2)) } ρ (h.set id (.iter s (pos + (Utf8.decode s pos).2))) := by
      refine ext_turn hs id _ _ hid rfl rfl rfl rfl rfl (by simp) (fun cur t' fz hc => by rw [b1] at hc; cases hc) (fun p hp => ?_) ?_
      · show (w.heap.setIfInBounds (ρ id) _)[p]? = _
        rw [Array.getElem?_setIfInBounds_ne (Ne.symm hp)]
      · show (w.heap.setIfInBounds (ρ id) _)[ρ id]? = _
        simp [hlt]
    refine good_value (v := .tuple #[.bool true, .int .i64 pos, .int .i32 (Utf8.decode s pos).1]) ?_ hext (.im (tup _ _ [_, _, _] (by simp [flat])))
    simp only [execOp, hop, hv, Instr.next, Sem.run_bind, hget, Result.andThen_ok, hlt', if_true, hset, Sem.run_pure, goInt]
  · intro hlt'
    refine good_same hs (v := .tuple #[.bool false]) ?_ (.im (tup _ _ [_] (by simp [flat])))
    simp only [execOp, hop, hv, Instr.next, Sem.run_bind, hget, Result.andThen_ok, hlt', if_false, Sem.run_pure]

theorem g_panic (hs : Sim C.G w X ρ h) (hf : RF w (tot X ρ h) ρ h.length a.tmps fr) {x : Operand} (hop : o.op = .panic x) {t : TypeId} {v : Value} (hx : ev C fr x = .sc (.iface t v)) : Good C o a w X ρ h (.pn (.iface t v)) h := by
  have e1 := ev_rp hs hf x
  rw [hx] at e1
  have hv := e1.sc_inv.1
  intro K Q _ hQ
  unfold Oper.wp
  have hrun : (execOp a.eval o).run C.P w = .halt (.panic (.iface t v)) w := by
    simp only [execOp, hop, hv, Instr.panic, goPanic]
    rfl
  rw [hrun]
  exact hQ _ w ρ rfl (Ext.refl hs)

/-- Where a key of strings lies. -/
theorem find_string (s : ByteArray) : ∀ (ms : List MapEntry) (es : List (Value × AV)) (i : Nat), ms.length = es.length → es.all strKey = true → (∀ (k : Nat) (e : Value × AV), es[k]? = some e → ∃ m, ms[k]? = some m ∧ m.key = e.1) →
    ∃ r, Instr.findNow .string (.string s) ms i = some r ∧ r.map Prod.fst = keyIx s es i
  | [], [], i, _, _, _ => ⟨none, rfl, rfl⟩
  | [], _ :: _, _, hl, _, _ => by simp at hl
  | _ :: _, [], _, hl, _, _ => by simp at hl
  | m :: ms, (j, y) :: es, i, hl, hk, hm => by
    simp only [List.all_cons, Bool.and_eq_true] at hk
    obtain ⟨m', hm', hkey⟩ := hm 0 _ rfl
    simp only [List.getElem?_cons_zero, Option.some.injEq] at hm'
    subst hm'
    obtain ⟨r, h1, h2⟩ := find_string s ms es (i + 1) (by simpa using hl) hk.2 (fun k e he => by simpa using hm (k + 1) e (by simpa using he))
    cases j with
    | string a =>
      simp only at hkey
      simp only [Instr.findNow, hkey, Instr.sameNow, keyIx, keyB]
      cases hsa : s == a with
      | true => exact ⟨_, rfl, rfl⟩
      | false => exact ⟨r, h1, h2⟩
    | _ => simp [strKey] at hk
theorem keyIx_lt {s : ByteArray} : ∀ {es : List (Value × AV)} {i j : Nat}, keyIx s es i = some j → i ≤ j ∧ j - i < es.length ∧ ∃ y, es[j - i]? = some (.string s, y)
  | [], i, j, h => by simp [keyIx] at h
  | (k, y) :: es, i, j, h => by
    simp only [keyIx] at h
    cases hc : keyB s k with
    | true =>
      simp only [hc, cond_true, Option.some.injEq] at h
      subst h
      cases k with
      | string a =>
        have hc' : s = a := (MapKept.bytes_beq s a).1 hc
        subst hc'
        exact ⟨Nat.le_refl _, by simp, y, by simp⟩
      | _ => simp [keyB] at hc
    | false =>
      simp only [hc, cond_false] at h
      obtain ⟨h1, h2, y', h3⟩ := keyIx_lt h
      refine ⟨by omega, by simp; omega, y', ?_⟩
      have : j - i = (j - (i + 1)) + 1 := by omega
      rw [this, List.getElem?_cons_succ, h3]

theorem g_mapUpdate (hs : Sim C.G w X ρ h) (hf : RF w (tot X ρ h) ρ h.length a.tmps fr) {t : TypeId} {m k x : Operand} (hop : o.op = .mapUpdate t m k x) {id : Nat} {s : ByteArray} (hm : ev C fr m = .mp id) (hk : ev C fr k = .sc (.string s)) (ht : isMapS C t = true)
    {es : List (Value × AV)} {clock : Nat} (hid : h[id]? = some (.map es clock)) (hes : es.all strKey = true) :
    (∀ i, keyIx s es 0 = some i → Good C o a w X ρ h .un (h.set id (.map (es.set i (.string s, ev C fr x)) clock))) ∧
    (keyIx s es 0 = none → Good C o a w X ρ h .un (h.set id (.map (es ++ [(.string s, ev C fr x)]) (clock + 1)))) := by
  obtain ⟨kt, et, h1, h2⟩ := isMapS_inv ht
  have em := ev_rp hs hf m
  rw [hm] at em
  have hv := em.mp_inv.1
  have ek := ev_rp hs hf k
  rw [hk] at ek
  have hkv := ek.sc_inv.1
  have ex := ev_rp hs hf x
  obtain ⟨ms, b1, b2, bnd, b3⟩ := hs.blk id _ hid
  have hkeys : ∀ (k : Nat) (e : Value × AV), es[k]? = some e → ∃ m, ms.toList[k]? = some m ∧ m.key = e.1 := fun k e he => by
    obtain ⟨m, q1, q2, _⟩ := b3 k e he
    exact ⟨m, by simpa using q1, q2⟩
  obtain ⟨r, hr, hix⟩ := find_string s ms.toList es 0 (by simpa using b2) hes hkeys
  have hfind : (Instr.findKey kt (.string s) ms.toList).run C.P w = .ok r w := by
    simp only [Instr.findKey, Sem.run_bind, run_underlying h2, Result.andThen_ok, hr, Sem.run_pure]
  have hget : (getObj (ρ id)).run C.P w = .ok (.map ms clock) w := by
    simp only [getObj, Sem.run, b1]
  have hchk : (Instr.checkKey false 10000 kt (.string s)).run C.P w = .ok () w := by
    show (Instr.checkKey false (9999 + 1) kt (.string s)).run C.P w = .ok () w
    unfold Instr.checkKey
    simp only [Sem.run_bind, run_underlying h2, Result.andThen_ok, Sem.run_pure]
  have hlt := heap_lt b1
  have hset : ∀ ob : Obj, (setObj (ρ id) ob).run C.P w = .ok () { w with heap := w.heap.setIfInBounds (ρ id) ob } := fun ob => by
    simp only [setObj, Sem.run, b1, Array.set!_eq_setIfInBounds]
  have hext : ∀ (ob : Obj) (b : Blk), liveB b = true → BlkR w (tot X ρ h) ρ h.length (some ob) b → Ext C.G w X ρ h { w with heap := w.heap.setIfInBounds (ρ id) ob } ρ (h.set id b) := fun ob b hl hb => by
    refine ext_turn hs id _ b hid rfl hl rfl rfl rfl (by simp) (fun cur t' fz hc => by rw [b1] at hc; cases hc) (fun p hp => ?_) ?_
    · show (w.heap.setIfInBounds (ρ id) ob)[p]? = _
      rw [Array.getElem?_setIfInBounds_ne (Ne.symm hp)]
    · have : ({ w with heap := w.heap.setIfInBounds (ρ id) ob } : World).heap[ρ id]? = some ob := by
        show (w.heap.setIfInBounds (ρ id) ob)[ρ id]? = _
        simp [hlt]
      rw [this]
      exact hb
  constructor
  · intro i hi
    rw [hi] at hix
    cases r with
    | none => cases hix
    | some p =>
      obtain ⟨p1, p2⟩ := p
      simp only [Option.map_some, Option.some.injEq] at hix
      subst hix
      obtain ⟨_, hil, y0, hy0⟩ := keyIx_lt hi
      simp only [Nat.sub_zero] at hil hy0
      obtain ⟨m0, q1, q2, q3, q4, q5⟩ := b3 p1 _ hy0
      have hsame : (Instr.keyThatStays (((ms[p1]?).map (·.key)).getD (.string s)) (.string s)).run C.P w = .ok (.string s) w := by
        have hsb : Instr.sameBits 10000 (.string s) (.string s) = true := by
          unfold Instr.sameBits
          exact (MapKept.bytes_beq s s).2 rfl
        simp only [q1, Option.map_some, Option.getD_some, q2, Instr.keyThatStays, hsb, if_true, Sem.run_pure]
      refine good_skip ?_ (hext (.map (ms.modify p1 fun e => { e with key := .string s, val := a.eval x }) clock) _ rfl ⟨_, rfl, by simpa using b2, ?_, fun k e hke => ?_⟩)
      · simp only [execOp, hop, Instr.mapUpdate, hv, hkv, Sem.run_bind, run_underlying h1, Result.andThen_ok, hget, hchk, hfind, hsame, hset, Sem.run_pure]
      · have : (ms.modify p1 fun e => { e with key := .string s, val := a.eval x }).toList.map (·.born) = ms.toList.map (·.born) := by
          apply List.ext_getElem?
          intro j
          simp only [List.getElem?_map, Array.getElem?_toList, Array.getElem?_modify]
          split
          · cases ms[j]? <;> rfl
          · rfl
        rw [this]
        exact bnd
      · by_cases hkp : p1 = k
        · subst hkp
          rw [List.getElem?_set_self hil] at hke
          cases hke
          exact ⟨{ m0 with key := .string s, val := a.eval x }, by simp [Array.getElem?_modify, q1], rfl, rfl, q4, ex⟩
        · rw [List.getElem?_set_ne hkp] at hke
          obtain ⟨m1, r1, r2, r3, r4, r5⟩ := b3 k e hke
          exact ⟨m1, by simp [Array.getElem?_modify, hkp, r1], r2, r3, r4, r5⟩
  · intro hn
    rw [hn] at hix
    cases r with
    | some p => cases hix
    | none =>
      refine good_skip ?_ (hext (.map (ms.push { key := .string s, val := a.eval x, born := clock }) (clock + 1)) _ rfl ⟨_, rfl, by simp [b2], ?_, fun k e hke => ?_⟩)
      · simp only [execOp, hop, Instr.mapUpdate, hv, hkv, Sem.run_bind, run_underlying h1, Result.andThen_ok, hget, hchk, hfind, hset, Sem.run_pure]
      · simp only [Array.toList_push, List.map_append, List.map_cons, List.map_nil]
        refine List.nodup_append.2 ⟨bnd, by simp, ?_⟩
        intro q hq q' hq' e
        simp only [List.mem_singleton] at hq'
        simp only [List.mem_map] at hq
        obtain ⟨m1, hm1, rfl⟩ := hq
        obtain ⟨j, hj, rfl⟩ := List.getElem_of_mem hm1
        have hj' : j < es.length := by simp at hj; omega
        obtain ⟨m2, r1, _, _, r4, _⟩ := b3 j _ (List.getElem?_eq_getElem hj')
        have : ms.toList[j] = m2 := by
          have : ms.toList[j]? = some m2 := by simpa using r1
          rw [List.getElem?_eq_getElem hj] at this
          simpa using this
        rw [this] at e
        omega
      · by_cases hkl : k < es.length
        · rw [List.getElem?_append_left hkl] at hke
          obtain ⟨m1, r1, r2, r3, r4, r5⟩ := b3 k e hke
          have hkm : k < ms.size := by omega
          exact ⟨m1, by simp [Array.getElem?_push, Nat.ne_of_lt hkm, r1], r2, r3, by omega, r5⟩
        · have hkk : k = es.length := by
            have : k < (es ++ [(Value.string s, ev C fr x)]).length := (List.getElem?_eq_some_iff.1 hke).1
            simp at this
            omega
          subst hkk
          simp at hke
          subst hke
          refine ⟨{ key := .string s, val := a.eval x, born := clock }, by rw [← b2]; simp, rfl, rfl, by simp, ex⟩

/-- EVERY OPERATION. -/
theorem aopW_sound (hs : Sim C.G w X ρ h) (hf : RF w (tot X ρ h) ρ h.length a.tmps fr) (hT : ∀ t i, C.T t = some i → tiOf C.P t = some i) {call : FuncId → List AV → Hp → Option (AV × Hp)} (hcall : CallOK C call)
    {r : AV} {h' : Hp} (ho : aopW C call (ev C fr) h o = some (r, h')) : Good C o a w X ρ h r h' := by
  have scal : ∀ {r : AV} {h' : Hp}, ((scalarOp C (ev C fr) o).map fun y => (y, h)) = some (r, h') → Good C o a w X ρ h r h' := by
    intro r h' hh
    simp only [Option.map_eq_some_iff, Prod.mk.injEq] at hh
    obtain ⟨y, hy, rfl, rfl⟩ := hh
    exact scalar_good hs hf hy
  unfold aopW at ho
  split at ho
  · -- move
    rename_i x hop
    simp only [Option.some.injEq, Prod.mk.injEq] at ho
    obtain ⟨rfl, rfl⟩ := ho
    exact g_move hs hf (.inl hop)
  · rename_i x hop
    simp only [Option.some.injEq, Prod.mk.injEq] at ho
    obtain ⟨rfl, rfl⟩ := ho
    exact g_move hs hf (.inr hop)
  · rename_i c x y hop
    split at ho
    · rename_i t hc
      simp only [Option.some.injEq, Prod.mk.injEq] at ho
      obtain ⟨rfl, rfl⟩ := ho
      exact g_pick hs hf hop hc
    · cases ho
  · rename_i t hop
    split at ho
    · rename_i i hi
      simp only [Option.some.injEq, Prod.mk.injEq] at ho
      obtain ⟨rfl, rfl⟩ := ho
      exact g_alloc hs hop (hT t i hi)
    · cases ho
  · rename_i t x hop
    split at ho
    · rename_i i cs hi hc
      split at ho
      · simp only [Option.some.injEq, Prod.mk.injEq] at ho
        obtain ⟨rfl, rfl⟩ := ho
        exact g_box hs hf hop hc
      · cases ho
    · cases ho
  · rename_i t parts hop
    split at ho
    · rename_i sz ag zero fs hi
      simp only [Option.map_eq_some_iff, Prod.mk.injEq] at ho
      obtain ⟨cs, hc, rfl, rfl⟩ := ho
      exact g_build hs hf hop (hT t _ hi) (.inl ⟨fs, rfl, rfl⟩) hc
    · rename_i sz ag zero n esz eag hi
      simp only [Option.map_eq_some_iff, Prod.mk.injEq] at ho
      obtain ⟨cs, hc, rfl, rfl⟩ := ho
      exact g_build hs hf hop (hT t _ hi) (.inr ⟨n, esz, eag, rfl, rfl⟩) hc
    · cases ho
  · rename_i t len parts hop
    split at ho
    · rename_i sz ag zero esz eag eb ez hi
      split at ho
      · rename_i hlim
        simp only [Option.map_eq_some_iff, Prod.mk.injEq] at ho
        obtain ⟨cs, hc, rfl, rfl⟩ := ho
        exact g_buildSlice hs hf hop (hT t _ hi) rfl hlim hc
      · cases ho
    · cases ho
  · rename_i t x hop
    split at ho
    · rename_i i id off hi hx
      split at ho
      · rename_i cs hid
        simp only [Option.map_eq_some_iff, Prod.mk.injEq] at ho
        obtain ⟨y, hp, rfl, rfl⟩ := ho
        exact g_load hs hf hop (hT t i hi) hx hid hp
      · cases ho
    · rename_i i row j hi hx
      simp only [Option.map_eq_some_iff, Prod.mk.injEq] at ho
      obtain ⟨y, hp, rfl, rfl⟩ := ho
      exact g_loadR hs hf hop (hT t i hi) hx hp
    · cases ho
  · rename_i t x y hop
    split at ho
    · rename_i i id off vs hi hx hv
      split at ho
      · rename_i cs hid
        split at ho
        · rename_i hc
          simp only [Option.some.injEq, Prod.mk.injEq] at ho
          obtain ⟨rfl, rfl⟩ := ho
          exact g_store hs hf hop (hT t i hi) hx hid hv hc.1 hc.2
        · cases ho
      · cases ho
    · cases ho
  · rename_i x hop
    split at ho
    · rename_i id off hx
      simp only [Option.some.injEq, Prod.mk.injEq] at ho
      obtain ⟨rfl, rfl⟩ := ho
      have := g_nil hs hf hop (.inl ⟨_, _, hx⟩)
      rwa [hx] at this
    · rename_i row j hx
      simp only [Option.some.injEq, Prod.mk.injEq] at ho
      obtain ⟨rfl, rfl⟩ := ho
      have := g_nil hs hf hop (.inr (.inl ⟨_, _, hx⟩))
      rwa [hx] at this
    · rename_i f cs hx
      simp only [Option.some.injEq, Prod.mk.injEq] at ho
      obtain ⟨rfl, rfl⟩ := ho
      have := g_nil hs hf hop (.inr (.inr ⟨_, _, hx⟩))
      rwa [hx] at this
    · cases ho
  · rename_i t x f hop
    split at ho
    · rename_i sz ag zero fs hi
      split at ho
      · rename_i of fsz fag id off hfd hx
        split at ho
        · cases ho
        · rename_i hsz
          simp only [Option.some.injEq, Prod.mk.injEq] at ho
          obtain ⟨rfl, rfl⟩ := ho
          exact (g_field hs hf hop (hT t _ hi) rfl hfd hsz).1 id off hx
      · rename_i of fsz fag row j hfd hx
        split at ho
        · cases ho
        · rename_i hsz
          simp only [Option.some.injEq, Prod.mk.injEq] at ho
          obtain ⟨rfl, rfl⟩ := ho
          exact (g_field hs hf hop (hT t _ hi) rfl hfd hsz).2 row j hx
      · cases ho
    · cases ho
  · rename_i t x ix hop
    split at ho
    · rename_i sz ag zero esz eag eb ez n hi hn
      split at ho
      · rename_i id s off len kk hx
        split at ho
        · rename_i hc
          simp only [Option.some.injEq, Prod.mk.injEq] at ho
          obtain ⟨rfl, rfl⟩ := ho
          obtain ⟨rfl, hlt⟩ := hc
          exact (g_indexS hs hf hop (hT t _ hi) rfl hn).1 id off len kk hx hlt
        · cases ho
      · rename_i s rows z hx
        split at ho
        · rename_i hc
          simp only [Option.map_eq_some_iff, Prod.mk.injEq] at ho
          obtain ⟨row, hrow, rfl, rfl⟩ := ho
          subst hc
          exact (g_indexS hs hf hop (hT t _ hi) rfl hn).2 rows z row hx hrow
        · cases ho
      · cases ho
    · rename_i sz ag zero m esz eag n hi hn
      split at ho
      · rename_i id off hx
        split at ho
        · rename_i hlt
          simp only [Option.some.injEq, Prod.mk.injEq] at ho
          obtain ⟨rfl, rfl⟩ := ho
          exact (g_indexA hs hf hop (hT t _ hi) rfl hn hlt).1 id off hx
        · cases ho
      · rename_i row j hx
        split at ho
        · rename_i hlt
          simp only [Option.some.injEq, Prod.mk.injEq] at ho
          obtain ⟨rfl, rfl⟩ := ho
          exact (g_indexA hs hf hop (hT t _ hi) rfl hn hlt).2 row j hx
        · cases ho
      · cases ho
    · cases ho
  · rename_i t x f hop
    split at ho
    · rename_i sz ag zero fs cs hi hx
      split at ho
      · rename_i off fsz fag hfd
        simp only [Option.map_eq_some_iff, Prod.mk.injEq] at ho
        obtain ⟨y, hp, rfl, rfl⟩ := ho
        exact g_fieldV hs hf hop (hT t _ hi) rfl hfd hx hp
      · cases ho
    · cases ho
  · rename_i t x ix hop
    split at ho
    · rename_i sz ag zero n esz eag cs hi hx
      split at ho
      · rename_i k hn
        split at ho
        · rename_i hlt
          simp only [Option.map_eq_some_iff, Prod.mk.injEq] at ho
          obtain ⟨y, hp, rfl, rfl⟩ := ho
          exact g_indexV hs hf hop (hT t _ hi) rfl hn hlt hx hp
        · cases ho
      · cases ho
    · exact scal ho
  · rename_i x i hop
    split at ho
    · rename_i vs hx
      simp only [Option.map_eq_some_iff, Prod.mk.injEq] at ho
      obtain ⟨y, hy, rfl, rfl⟩ := ho
      exact g_extract hs hf hop hx hy
    · cases ho
  · rename_i f first caps hop
    split at ho
    · rename_i h0
      simp only [Option.some.injEq, Prod.mk.injEq] at ho
      obtain ⟨rfl, rfl⟩ := ho
      exact g_makeFunc hs hf hop h0
    · cases ho
  · rename_i t l c hop
    split at ho
    · rename_i sz ag zero esz eag eb ez n m hi hn hm
      split at ho
      · rename_i hc
        obtain ⟨rfl, hmax, hby⟩ := hc
        simp only [Option.some.injEq, Prod.mk.injEq] at ho
        obtain ⟨rfl, rfl⟩ := ho
        exact g_makeSlice hs hf hop (hT t _ hi) rfl hn hm hmax hby
      · cases ho
    · cases ho
  · rename_i t x lo hi mx hop
    split at ho
    · exact scal ho
    · split at ho
      · rename_i sz ag zero esz eag eb ez hti
        split at ho
        · rename_i hz
          simp only [Option.map_eq_some_iff, Prod.mk.injEq] at ho
          obtain ⟨y, hy, rfl, rfl⟩ := ho
          exact g_slice hs hf hop (hT t _ hti) rfl hz hy
        · cases ho
      · cases ho
  · rename_i op t x y t' hop
    split at ho
    · rename_i hc
      have hg := g_nilcmp hs hf hop hc
      split at ho
      · simp only [Option.some.injEq, Prod.mk.injEq] at ho
        obtain ⟨rfl, rfl⟩ := ho
        exact hg.1 rfl
      · simp only [Option.some.injEq, Prod.mk.injEq] at ho
        obtain ⟨rfl, rfl⟩ := ho
        exact hg.2 rfl
      · cases ho
    · exact scal ho
  · rename_i src dst x hop
    split at ho
    · rename_i s hx
      split at ho
      · rename_i hc
        simp only [Bool.and_eq_true] at hc
        split at ho
        · rename_i hmax
          simp only [Option.some.injEq, Prod.mk.injEq] at ho
          obtain ⟨rfl, rfl⟩ := ho
          exact g_toBytes hs hf hop hx hc.1 hc.2 hmax
        · cases ho
      · exact scal ho
    · rename_i id off len k hx
      split at ho
      · rename_i hc
        simp only [Bool.and_eq_true] at hc
        split at ho
        · rename_i m news hn
          simp only [Option.map_eq_some_iff, Prod.mk.injEq] at ho
          obtain ⟨bs, hb, rfl, rfl⟩ := ho
          exact g_toString hs hf hop hx hc.1 hc.2 hn hb
        · cases ho
      · cases ho
    · exact scal ho
  · rename_i t hop
    split at ho
    · simp only [Option.some.injEq, Prod.mk.injEq] at ho
      obtain ⟨rfl, rfl⟩ := ho
      exact g_makeMap hs hop
    · cases ho
  · rename_i t m k x hop
    split at ho
    · rename_i id s hm hk
      split at ho
      · rename_i ht
        split at ho
        · rename_i es clock hid
          split at ho
          · rename_i hes
            have hg := g_mapUpdate hs hf hop hm hk ht hid hes
            split at ho
            · rename_i i hi
              simp only [Option.some.injEq, Prod.mk.injEq] at ho
              obtain ⟨rfl, rfl⟩ := ho
              exact hg.1 i hi
            · rename_i hi
              simp only [Option.some.injEq, Prod.mk.injEq] at ho
              obtain ⟨rfl, rfl⟩ := ho
              exact hg.2 hi
          · cases ho
        · cases ho
      · cases ho
    · cases ho
  · rename_i t x hop
    split at ho
    · rename_i s hx
      split at ho
      · rename_i ht
        simp only [Option.some.injEq, Prod.mk.injEq] at ho
        obtain ⟨rfl, rfl⟩ := ho
        exact g_range hs hf hop hx ht
      · cases ho
    · cases ho
  · rename_i x hop
    split at ho
    · rename_i id hx
      split at ho
      · rename_i s pos hid
        obtain ⟨g1, g2⟩ := g_next hs hf hop hx hid
        split at ho
        · rename_i hp
          simp only [Option.some.injEq, Prod.mk.injEq] at ho
          obtain ⟨rfl, rfl⟩ := ho
          exact g1 hp
        · rename_i hp
          simp only [Option.some.injEq, Prod.mk.injEq] at ho
          obtain ⟨rfl, rfl⟩ := ho
          exact g2 hp
      · cases ho
    · cases ho
  · rename_i x hop
    split at ho
    · rename_i t v hx
      simp only [Option.some.injEq, Prod.mk.injEq] at ho
      obtain ⟨rfl, rfl⟩ := ho
      exact g_panic hs hf hop hx
    · cases ho
  · rename_i f args tys hop
    split at ho
    · rename_i g caps hfn
      split at ho
      · exact scal ho
      · exact g_call hs hf hcall hop hfn ho
    · cases ho
  · rename_i args tys hop
    split at ho
    · rename_i s x t t' hargs htys
      split at ho
      · rename_i ht
        subst ht
        rw [list2 hargs, list2 htys] at hop
        exact g_append hs hf hop hT ho
      · cases ho
    · cases ho
  · rename_i args tys hop
    split at ho
    · rename_i s x t t' hargs htys
      split at ho
      · rename_i ht
        subst ht
        rw [list2 hargs, list2 htys] at hop
        exact g_copy hs hf hop hT ho
      · cases ho
    · cases ho
  · rename_i args tys hop
    split at ho
    · rename_i x t hargs htys
      split at ho
      · rename_i n sz ag zero esz eag eb ez hn hi
        simp only [Option.some.injEq, Prod.mk.injEq] at ho
        obtain ⟨rfl, rfl⟩ := ho
        exact g_len hs hf hop hargs htys (hT t _ hi) rfl hn
      · exact scal ho
    · cases ho
  · exact scal ho


/-- An operation that makes memory which nobody writes. -/
theorem coldA_sound (hs : Sim C.G w X ρ h) (hf : RF w (tot X ρ h) ρ h.length a.tmps fr) (hT : ∀ t i, C.T t = some i → tiOf C.P t = some i) {r : AV} {h' : Hp} (ho : coldA C (ev C fr) h o = some (r, h')) : Good C o a w X ρ h r h' := by
  unfold coldA at ho
  split at ho
  · rename_i t len parts hop
    split at ho
    · rename_i sz ag zero esz eag eb ez hi
      split at ho
      · rename_i hlim
        split at ho
        · rename_i cs hc
          split at ho
          · rename_i hall
            simp only [Option.some.injEq, Prod.mk.injEq] at ho
            obtain ⟨rfl, rfl⟩ := ho
            exact c_buildSlice hs hf hop (hT t _ hi) rfl hlim hc hall
          · cases ho
        · cases ho
      · cases ho
    · cases ho
  · rename_i t l c hop
    split at ho
    · rename_i hi hn hm
      split at ho
      · rename_i hc
        simp only [Option.some.injEq, Prod.mk.injEq] at ho
        obtain ⟨rfl, rfl⟩ := ho
        obtain ⟨rfl, hmax, hby⟩ := hc
        exact c_makeSlice hs hf hop (hT t _ hi) rfl hn hm hmax hby
      · cases ho
    · cases ho
  · rename_i args tys hop
    split at ho
    · rename_i s x t t' hl ht
      split at ho
      · rename_i htt
        subst htt
        have hop' := hop
        rw [list2 hl, list2 ht] at hop'
        split at ho
        · rename_i hi
          split at ho
          · rename_i hsz
            split at ho
            · rename_i m news s0 z hn hq
              have key := c_append hs hf hop' hT hi hsz hn hq
              split at ho
              · rename_i hm
                simp only [Option.some.injEq, Prod.mk.injEq] at ho
                obtain ⟨rfl, rfl⟩ := ho
                exact key.1 hm
              · rename_i hm
                split at ho
                · rename_i hc
                  simp only [Option.some.injEq, Prod.mk.injEq] at ho
                  obtain ⟨rfl, rfl⟩ := ho
                  exact key.2 (by omega) hc.1 hc.2.1 hc.2.2.1 hc.2.2.2
                · cases ho
            · cases ho
          · cases ho
        · cases ho
      · cases ho
    · cases ho
  · cases ho

theorem aop_sound (hs : Sim C.G w X ρ h) (hf : RF w (tot X ρ h) ρ h.length a.tmps fr) (hT : ∀ t i, C.T t = some i → tiOf C.P t = some i) {call : FuncId → List AV → Hp → Option (AV × Hp)} (hcall : CallOK C call)
    {r : AV} {h' : Hp} (ho : aop C call (ev C fr) h o = some (r, h')) : Good C o a w X ρ h r h' := by
  unfold aop at ho
  split at ho
  · exact coldA_sound hs hf hT ho
  · exact aopW_sound hs hf hT hcall ho

end ops
end Go.Ae
