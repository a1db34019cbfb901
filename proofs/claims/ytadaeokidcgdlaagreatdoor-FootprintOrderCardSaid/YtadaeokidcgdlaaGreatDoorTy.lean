/-
  Facts on this seat's types.
-/
import Derived.Test.YtadaeokidcgdlaaGreatDoorCx
set_option maxRecDepth 100000
namespace Go.Proofs.YtadaeokidcgdlaaGreatDoor
open Go Go.Ae
@[simp] theorem T_int : cx.T 3 = some { size := 1, agg := false, zero := [.int .i64 (0)], kd := .prim } := by kernel_rfl
@[simp] theorem T_bool : cx.T 4 = some { size := 1, agg := false, zero := [.bool false], kd := .prim } := by kernel_rfl
@[simp] theorem T_string : cx.T 9 = some { size := 1, agg := false, zero := [.string ⟨#[]⟩], kd := .prim } := by kernel_rfl
@[simp] theorem T___int : cx.T 160 = some { size := 1, agg := false, zero := [.slice none 0 0], kd := .slice 1 false 8 [.int .i64 (0)] } := by kernel_rfl
@[simp] theorem T_api_Value : cx.T 38 = some { size := 5, agg := true, zero := [.int .i64 (0), .int .i64 (0), .int .i64 (0), .string ⟨#[]⟩, .slice none 0 0], kd := .struct [(0, 1, false), (1, 1, false), (2, 1, false), (3, 1, false), (4, 1, false)] } := by kernel_rfl
@[simp] theorem T___api_Value : cx.T 36 = some { size := 1, agg := false, zero := [.slice none 0 0], kd := .slice 5 true 64 [.int .i64 (0), .int .i64 (0), .int .i64 (0), .string ⟨#[]⟩, .slice none 0 0] } := by kernel_rfl
@[simp] theorem T_api_Pred : cx.T 40 = some { size := 8, agg := true, zero := [.int .i64 (0), .string ⟨#[]⟩, .string ⟨#[]⟩, .int .i64 (0), .int .i64 (0), .int .i64 (0), .string ⟨#[]⟩, .slice none 0 0], kd := .struct [(0, 1, false), (1, 1, false), (2, 1, false), (3, 5, true)] } := by kernel_rfl
@[simp] theorem T___api_Pred : cx.T 27 = some { size := 1, agg := false, zero := [.slice none 0 0], kd := .slice 8 true 104 [.int .i64 (0), .string ⟨#[]⟩, .string ⟨#[]⟩, .int .i64 (0), .int .i64 (0), .int .i64 (0), .string ⟨#[]⟩, .slice none 0 0] } := by kernel_rfl
@[simp] theorem T_api_Frac : cx.T 165 = some { size := 2, agg := true, zero := [.int .i64 (0), .int .i64 (0)], kd := .struct [(0, 1, false), (1, 1, false)] } := by kernel_rfl
@[simp] theorem T_frac_wide : cx.T 227 = some { size := 3, agg := true, zero := [.bool false, .int .u64 (0), .int .u64 (0)], kd := .struct [(0, 1, false), (1, 1, false), (2, 1, false)] } := by kernel_rfl
@[simp] theorem T___string : cx.T 60 = some { size := 1, agg := false, zero := [.slice none 0 0], kd := .slice 1 false 16 [.string ⟨#[]⟩] } := by kernel_rfl
@[simp] theorem T_int32 : cx.T 21 = some { size := 1, agg := false, zero := [.int .i32 (0)], kd := .prim } := by kernel_rfl
@[simp] theorem T_uint64 : cx.T 191 = some { size := 1, agg := false, zero := [.int .u64 (0)], kd := .prim } := by kernel_rfl
@[simp] theorem T_uint8 : cx.T 5 = some { size := 1, agg := false, zero := [.int .u8 (0)], kd := .prim } := by kernel_rfl
@[simp] theorem U_int : cx.P.underlying 3 = some (.int .i64) := by kernel_rfl
@[simp] theorem U_uint64 : cx.P.underlying 191 = some (.int .u64) := by kernel_rfl
@[simp] theorem U_bool : cx.P.underlying 4 = some .bool := by kernel_rfl
@[simp] theorem S_string : isStr cx 9 = true := by kernel_rfl
@[simp] theorem L_ints : isSlT cx 160 = true := by kernel_rfl
@[simp] theorem L_values : isSlT cx 36 = true := by kernel_rfl
theorem fit_i64 {n : Int} (h1 : -9223372036854775808 ≤ n) (h2 : n ≤ 9223372036854775807) : fitI .i64 n = n := by
  show (if -9223372036854775808 ≤ n ∧ n ≤ 9223372036854775807 then n else IntKind.i64.wrap n) = n
  rw [if_pos ⟨h1, h2⟩]
theorem fit_u64 {n : Int} (h1 : 0 ≤ n) (h2 : n ≤ 18446744073709551615) : fitI .u64 n = n := by
  show (if 0 ≤ n ∧ n ≤ 18446744073709551615 then n else IntKind.u64.wrap n) = n
  rw [if_pos ⟨h1, h2⟩]
@[simp] theorem cx_fuel : cx.fuel = 1125899906842624 := rfl
end Go.Proofs.YtadaeokidcgdlaaGreatDoor
