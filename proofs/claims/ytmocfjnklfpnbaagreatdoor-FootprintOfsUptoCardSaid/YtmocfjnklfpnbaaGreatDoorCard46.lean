/- Proved: for every query whose reading is of bulk at most 1,048,576 the law on the footprint of a query (FootprintOfs: Of agrees with the specification) returns true and leaves its argument as it was. Its one further condition: the listed variable of package frac starts as the program's text lays it. -/
import Derived.Test.YtmocfjnklfpnbaaGreatDoorRow46
import Derived.Test.YtmocfjnklfpnbaaGreatDoorFacts46
import Derived.Test.YtmocfjnklfpnbaaGreatDoorGoes46
set_option maxRecDepth 100000
namespace Go.Proofs.YtmocfjnklfpnbaaGreatDoor
open Go Go.Ae Go.ChangeShapes Go.WideShapes Go.ChangeAt Go.RowKit Go.Proofs.Tryz
noncomputable def wS(os:Os):World:=
 {World.holding prog os ⟨#[],#[],[]⟩with heap:=(World.holding prog os ⟨#[],#[],[]⟩).heap.modify 0 fun
  | .cells _ t frozen=> .cells #[.int .i64 0,.int .i64 1] t frozen
  |o=>o}
def sQ :Value:= .agg #[.slice none 0 0]
def PV{H:Type}:DataW H:= .agg [.nil]
theorem PW(os:Os):laidMet prog Rows.footprintOfsUptoRow.laid ((wS os).forCall (λ_ _=>0) ⟨#[],#[sQ],[]⟩).memory:=
 laidMet_of_run' 8 (by kernel_rfl) (by kernel_rfl)
theorem reads(os:Os){H:Type}(enc:TypeId × Value->H):∃places,DataW.whole enc prog ((wS os).forCall (λ_ _=>0) ⟨#[],#[sQ],[]⟩).memory f3.params.toList Rows.footprintOfsSpec.vars false #[sQ].toList 8=some ([PV],[],places):=
 ⟨[],by kernel_rfl⟩
theorem lifted(os:Os)(started:os.Started)(H:Type)(enc:TypeId × Value->H)(F:Stop.Interp):
 ReturnsInHanded {} Tryz.checked os 3 .any ((Rows.OpenSpec.upto Rows.footprintOfsSpec).preRow enc prog f3 Rows.footprintOfsUptoRow.domain false Rows.footprintOfsUptoRow.laid) (((Rows.OpenSpec.upto Rows.footprintOfsSpec).at F).post enc prog f3 false true false false):=by
 obtain⟨places,hx⟩:=reads os enc;refine returnsInHanded_of_row (C:=Tryz.checked) (s:=Rows.OpenSpec.upto Rows.footprintOfsSpec) own started (by kernel_rfl) func3
  (witness_row_at (enc:=enc) (C:=Tryz.checked) false (wS os) #[sQ] rfl (by kernel_rfl) (by kernel_rfl) (by kernel_rfl)
   (OpenSpec.preRow_of_cond 8 hx (by kernel_rfl) (λk hk=>by cases hk;kernel_rfl) (by kernel_rfl) (PW os))) ?_
 intro W base args ds gs before hval hW _ qU hz hL hS _;exact contract H enc W base args ds gs before hval hW (qU _ rfl) hz hL hS
theorem said :Rows.FootprintOfsUptoSaid:=
 OpenClaim.holds_of_cond 3 f3 rfl rfl rfl rfl rfl rfl rfl ⟨rfl,rfl,rfl,rfl,rfl⟩ rfl rfl rfl rfl rfl (by kernel_rfl) func3 aaK
  (of_decide_eq_true (by kernel_rfl)) (by unfold Func.isWrapper;first|(rw[cw (by decide+kernel)];kernel_rfl)|(rw[cv (by decide+kernel)];exact⟨rfl,rfl⟩))
  (λos started H enc _ F=>by rw[OpenClaim.pre_eq_preRow];exact lifted os started H enc F)
theorem plain(f:FuncId)(fn:Func)(hf:Tryz.pinned.checked.prog.funcNamed "graphdb/graphdblaw45.FootprintOfs" =some f)(FQ:Tryz.pinned.checked.prog.funcs[f]?=some fn):
 true=Tryz.pinned.checked.prog.looks []/\∀(j:Nat)t,fn.params[j]?=some t->Tryz.pinned.checked.prog.wantsStandIn t=false:=by
 obtain rfl:f=3:=Option.some.inj ((show prog.funcNamed "graphdb/graphdblaw45.FootprintOfs" =some 3 by kernel_rfl).symm.trans hf)|>.symm
 obtain rfl:fn=f3:=(Option.some.inj (func3.symm.trans FQ)).symm;refine⟨by kernel_rfl,λj t ht=>?_⟩;rw[params3]at ht;have h3:t=24:=by simpa using Array.mem_of_getElem? ht
 subst h3;exact(show prog.wantsStandIn 24=false by kernel_rfl)
theorem footprintOfsUpto_card :Rows.FootprintOfsUptoCardSaid:=
 Claim7.holds_tied_plain_at .later [] _ _ _ _ said (λ_ h=>by cases h) (by kernel_rfl) (λ_ h=>by cases h) footprintOfsUpto_row_tie rfl ⟨rfl,rfl⟩ (by kernel_rfl) rfl plain PY
#print axioms footprintOfsUpto_card
end Go.Proofs.YtmocfjnklfpnbaaGreatDoor
