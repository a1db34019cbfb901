/- Proved: for every query and every number whose reading is of bulk at most 1,048,576 the law on the footprints of a query's beginnings (FootprintPrefix) returns true and leaves its arguments as they were. Its one further condition: the listed variable of package frac starts as the program's text lays it. -/
import Derived.Test.YtmocfjnklfpnbaaGreatDoorRow45
import Derived.Test.YtmocfjnklfpnbaaGreatDoorFacts45
import Derived.Test.YtmocfjnklfpnbaaGreatDoorGoes
set_option linter.all false
set_option maxRecDepth 100000
namespace Go.Proofs.YtmocfjnklfpnbaaGreatDoor
open Go Go.Ae Go.ChangeShapes Go.WideShapes Go.ChangeAt Go.RowKit
noncomputable def laidWorld (os:Os):World:=
 {World.holding Tryz.prog os ⟨#[],#[],[]⟩with heap:=(World.holding Tryz.prog os ⟨#[],#[],[]⟩).heap.modify 0 fun
  | .cells _ t frozen=> .cells #[.int .i64 0,.int .i64 1] t frozen
  |o=>o}
def zeroQuery :Value:= .agg #[.slice none 0 0]
def zeroData {H:Type}:DataW H:= .agg [.nil]
theorem laid_met (os:Os):laidMet Tryz.prog Rows.footprintPrefixUptoRow.laid ((laidWorld os).forCall (fun _ _=>0) ⟨#[],#[zeroQuery,.int .i64 0],[]⟩).memory:=
 laidMet_of_run' 8 (by kernel_rfl) (by kernel_rfl)
theorem reads (os:Os){H:Type}(enc:TypeId × Value→H):∃places,DataW.whole enc Tryz.prog ((laidWorld os).forCall (fun _ _=>0) ⟨#[],#[zeroQuery,.int .i64 0],[]⟩).memory Tryz.f4.params.toList Rows.footprintPrefixSpec.vars false #[zeroQuery,.int .i64 0].toList 8=some ([zeroData,.lit (.int .i64 0)],[],places):=
 ⟨[],by kernel_rfl⟩
theorem lifted (os:Os)(started:os.Started)(H:Type)(enc:TypeId × Value→H)(F:Stop.Interp):
 ReturnsInHanded {} Tryz.checked os 4 .any ((Rows.OpenSpec.upto Rows.footprintPrefixSpec).preRow enc Tryz.prog Tryz.f4 Rows.footprintPrefixUptoRow.domain false Rows.footprintPrefixUptoRow.laid) (((Rows.OpenSpec.upto Rows.footprintPrefixSpec).at F).post enc Tryz.prog Tryz.f4 false true false false):=by
 obtain⟨places,hx⟩:=reads os enc;refine returnsInHanded_of_row (C:=Tryz.checked) (s:=Rows.OpenSpec.upto Rows.footprintPrefixSpec) own started (by kernel_rfl) Tryz.func4
  (witness_row_at (enc:=enc) (C:=Tryz.checked) false (laidWorld os) #[zeroQuery,.int .i64 0] rfl (by kernel_rfl) (by kernel_rfl) (by kernel_rfl)
   (OpenSpec.preRow_of_cond 8 hx (by kernel_rfl) (fun k hk=>by cases hk;kernel_rfl) (by kernel_rfl) (laid_met os))) ?_
 intro W base args ds gs before hval hW _ hcond hz hL hS _;exact contract H enc W base args ds gs before hval hW (hcond _ rfl) hz hL hS
theorem said :Rows.FootprintPrefixUptoSaid:=
 OpenClaim.holds_of_cond 4 Tryz.f4 rfl rfl rfl rfl rfl rfl rfl ⟨rfl,rfl,rfl,rfl,rfl⟩ rfl rfl rfl rfl rfl (by kernel_rfl) Tryz.func4 joined
  (of_decide_eq_true (by kernel_rfl)) (by unfold Func.isWrapper;first|(rw[if_pos (by decide+kernel)];kernel_rfl)|(rw[if_neg (by decide+kernel)];exact⟨rfl,rfl⟩))
  (fun os started H enc _ F=>by rw[OpenClaim.pre_eq_preRow];exact lifted os started H enc F)
theorem plain (f:FuncId)(fn:Func)(hf:Tryz.pinned.checked.prog.funcNamed "graphdb/graphdblaw45.FootprintPrefix" =some f)(hfn:Tryz.pinned.checked.prog.funcs[f]?=some fn):
 true=Tryz.pinned.checked.prog.looks []∧∀(j:Nat) t,fn.params[j]?=some t→Tryz.pinned.checked.prog.wantsStandIn t=false:=by
 obtain rfl:f=4:=Option.some.inj ((show Tryz.prog.funcNamed "graphdb/graphdblaw45.FootprintPrefix" =some 4 by kernel_rfl).symm.trans hf)|>.symm
 obtain rfl:fn=Tryz.f4:=(Option.some.inj (Tryz.func4.symm.trans hfn)).symm;refine⟨by kernel_rfl,fun j t ht=>?_⟩;rw[Tryz.params4]at ht;have h3:t=24∨t=3:=by simpa using Array.mem_of_getElem? ht
 rcases h3 with rfl|rfl
 ·exact(show Tryz.prog.wantsStandIn 24=false by kernel_rfl)
 ·exact(show Tryz.prog.wantsStandIn 3=false by kernel_rfl)
theorem footprintPrefixUpto_card :Rows.FootprintPrefixUptoCardSaid:=
 Claim7.holds_tied_plain_at .later [] _ _ _ _ said (fun _ h=>by cases h) (by kernel_rfl) (fun _ h=>by cases h) footprintPrefixUpto_row_tie rfl ⟨rfl,rfl⟩ (by kernel_rfl) rfl plain goes_row
#print axioms footprintPrefixUpto_card
end Go.Proofs.YtmocfjnklfpnbaaGreatDoor
