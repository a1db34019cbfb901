/-
  The tables of the abstract evaluator for this seat's program.
-/
import Derived.Test.YtadaeokidcgdlaaGreatDoorKitB
import Derived.Test.YtadaeokidcgdlaaGreatDoorProg
import Derived.KernelRfl
import Derived.Lib.IndexMore
namespace Go.Proofs.YtadaeokidcgdlaaGreatDoor
open Go Go.Ae

/-- Functions that share their caller's own memory. -/
def inlF (f : FuncId) : Bool := ([25, 26, 27, 28, 46, 59, 60, 61, 62, 63, 65, 66, 69, 75, 76, 78, 83, 91, 92, 108, 109, 112, 113, 114, 115, 116, 117, 118, 119, 120, 121, 122, 123, 124, 125, 129, 130, 132, 133, 134, 135, 139, 140, 158, 159, 161, 162, 163, 175, 182, 185, 187, 188, 191, 193, 196, 197, 199, 200, 201, 205, 206, 210, 227, 232, 233, 234, 235, 237, 238, 239, 240, 241, 242, 259, 263, 266, 273, 278, 279, 280, 281, 283, 284, 285, 300, 302, 306, 308, 309, 310, 312, 314, 320, 325, 326, 327] : List Nat).contains f
def coldF (o : Oper) : Bool :=
  match o.op with
  | .makeSlice t _ _ => t == 160 && (o.dst == some 31 || o.dst == some 32)
  | .buildSlice t n _ => (t == 86 && n == 0 && o.dst == some 35) || (t == 36 && n == 1 && o.dst == some 42) ||
    (t == 27 && n == 1 && (o.dst == some 152 || o.dst == some 161)) || (t == 45 && (n == 2 && o.dst == some 155 || n == 3 && o.dst == some 165))
  | .call { callee := .builtin .append, argTypes, .. } => o.dst == some 37 && argTypes.toList == [86, 86]
  | _ => false
def extF (f : FuncId) : Bool := f == 256 || f == 258
def tabF (f : FuncId) (xs : List AV) : Option AV :=
  if f = 342 then (match xs with
    | [.sc (.string a), .sc (.string b)] => if a.size < 4294967281 then some (.sc (.bool (Lib.contains a.data.toList b.data.toList))) else none
    | _ => none) else none
def globF (g : Nat) : Option (List Value) := if g = 0 then some [.int .i64 0, .int .i64 1] else if g = 1 then some [.tuple #[]] else none
theorem tab_none {f : FuncId} {args : List AV} (h : f ≠ 342) : tabF f args = none := if_neg h
noncomputable def cx : Cx := { P := Tryz.prog, T := tiOf Tryz.prog, G := globF, F := fun f => bif Nat.blt f 385 then fiOf Tryz.prog f else none, inl := inlF, tab := tabF, srt := fun f => if f = 280 then some (327, 9) else none, rcv := fun f => if f = 161 then some 215 else none, cold := coldF, ext := extF, fuel := 1125899906842624 }

theorem pure_at {f : FuncId} {args : List AV} {n : Nat} {r r' : AV} {h' : Hp} (fi : Fi) (hF : cx.F f = some fi) (hok : ok2 cx fi.body = true) (hs : cx.srt f = none) (hi : cx.inl f = false) (hl : args.length ≤ fi.ntmps) (hc : args.all calm = true)
    (hb : finX fi.res (exec2 cx (callN cx n) fi.body (args ++ List.replicate (fi.ntmps - args.length) .un, [])) = some (r, h')) (hr : snap h' 8 r = some r') (b : Bool) (h : Hp) (ht : f ≠ 342 := by decide) : callN cx (n + 1) b f args h = some (r', h) :=
  call_pure hs hi (tab_none ht) hc (by rw [body1_of hF hok hl]; exact hb) hr b h
theorem pure_calm {f : FuncId} {args : List AV} {n : Nat} {r : AV} (fi : Fi) (hF : cx.F f = some fi) (hok : ok2 cx fi.body = true) (hs : cx.srt f = none) (hi : cx.inl f = false) (hl : args.length ≤ fi.ntmps) (hc : args.all calm = true) (hr : calm r = true)
    (hb : (finX fi.res (exec2 cx (callN cx n) fi.body (args ++ List.replicate (fi.ntmps - args.length) .un, []))).map Prod.fst = some r) (b : Bool) (h : Hp) (ht : f ≠ 342 := by decide) : callN cx (n + 1) b f args h = some (r, h) := by
  simp only [Option.map_eq_some_iff] at hb
  obtain ⟨⟨r0, h'⟩, hb, rfl⟩ := hb
  exact pure_at fi hF hok hs hi hl hc hb (snap_of_calm (n := 6) hr) b h ht
theorem pure_ex {f : FuncId} {args : List AV} {n : Nat} (R : AV → Prop) (fi : Fi) (hF : cx.F f = some fi) (hok : ok2 cx fi.body = true) (hs : cx.srt f = none) (hi : cx.inl f = false) (hl : args.length ≤ fi.ntmps) (hc : args.all calm = true)
    (hb : ∃ r h', finX fi.res (exec2 cx (callN cx n) fi.body (args ++ List.replicate (fi.ntmps - args.length) .un, [])) = some (r, h') ∧ ∃ r', snap h' 8 r = some r' ∧ R r') (ht : f ≠ 342 := by decide) : ∃ r', R r' ∧ ∀ b h, callN cx (n + 1) b f args h = some (r', h) := by
  obtain ⟨r, h', hb, r', hr, hR⟩ := hb
  exact ⟨r', hR, fun b h => pure_at fi hF hok hs hi hl hc hb hr b h ht⟩
@[simp] theorem cx_cold : cx.cold = coldF := rfl
@[simp] theorem cx_ext : cx.ext = extF := rfl
end Go.Proofs.YtadaeokidcgdlaaGreatDoor
