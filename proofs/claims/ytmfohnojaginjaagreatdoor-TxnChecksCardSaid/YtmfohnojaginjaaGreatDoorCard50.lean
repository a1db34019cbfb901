/- Proved: for every manager of transactions and every number of a transaction the law on Check and View (TxnChecks) returns true and leaves its arguments as they were. Its one condition: the listed package-level variables start as the program's text lays them. -/
import Derived.Test.YtmfohnojaginjaaGreatDoorRow50
import Derived.Test.YtmfohnojaginjaaGreatDoorFacts50
import Derived.Test.YtmfohnojaginjaaGreatDoorGoes50
set_option maxRecDepth 100000
namespace Go.Proofs.YtmfohnojaginjaaGreatDoor
open Go Go.Ae Go.ChangeShapes Go.WideShapes Go.ChangeAt Go.RowKit Go.Proofs.Tryz
def Ms :Value:= .agg #[.slice none 0 0,.int .i64 0,.slice none 0 0,.slice none 0 0,.int .i64 0,.int .i64 0,.slice none 0 0,.slice none 0 0,.int .i64 0]
def afy{H:Type}:DataW H:= .agg [.nil,.agg [.lit (.int .i64 0),.agg [.nil,.nil,.lit (.int .i64 0),.lit (.int .i64 0)],.nil],.nil,.lit (.int .i64 0)]
def putRow(g:Nat)(cs:Array Value)(h:Array Obj):Array Obj:=h.modify g fun
 | .cells _ t frozen=> .cells cs t frozen
 |o=>o
def abI :DataW Unit->List Value
 | .lit (.int k n)=> [.int k n]
 |_=> []
def acJ :DataW Unit->List Value
 | .agg ps=>ps.flatMap abI
 |d=>abI d
def Ob :DataW Unit->Array Value
 | .agg ps=>(ps.flatMap acJ).toArray
 |_=> #[]
noncomputable def yi(os:Os):World:=
 {World.holding prog os ⟨#[],#[],[]⟩with heap:=(putRow 8 (Ob Rows.laid_math_bits_deBruijn64tab) (putRow 7 (Ob Rows.laid_math_bits_deBruijn32tab) (putRow 2 (Ob Rows.laid_internal_strconv_uint64pow10) (putRow 0 (Ob Rows.laid_graphdb_frac_zero) (putRow 4 (Ob Rows.laid_unicode_utf8_acceptRanges) (putRow 3 (Ob Rows.laid_unicode_utf8_first) (World.holding prog os ⟨#[],#[],[]⟩).heap))))))}
theorem Sl(os:Os):laidMet prog Rows.txnChecksRow.laid ((yi os).forCall (λ_ _=>0) ⟨#[],#[Ms,.int .i64 0],[]⟩).memory:=
 laidMet_of_run' 8 (by kernel_rfl) (by kernel_rfl)
theorem reads(os:Os){H:Type}(enc:TypeId × Value->H):∃places,DataW.whole enc prog ((yi os).forCall (λ_ _=>0) ⟨#[],#[Ms,.int .i64 0],[]⟩).memory f3.params.toList Rows.txnChecksSpec.vars false #[Ms,.int .i64 0].toList 8=some ([afy,.lit (.int .i64 0)],[],places):=
 ⟨[],by kernel_rfl⟩
theorem lifted(os:Os)(started:os.Started)(H:Type)(enc:TypeId × Value->H)(F:Stop.Interp):
 ReturnsInHanded {} Tryz.checked os 3 .any ((OpenSpec.ofChange Rows.txnChecksSpec).preRow enc prog f3 Rows.txnChecksRow.domain false Rows.txnChecksRow.laid) (((OpenSpec.ofChange Rows.txnChecksSpec).at F).post enc prog f3 false true false false):=by
 obtain⟨places,hx⟩:=reads os enc;refine returnsInHanded_of_row (C:=Tryz.checked) (s:=OpenSpec.ofChange Rows.txnChecksSpec) own started (by kernel_rfl) func3
  (witness_row_at (enc:=enc) (C:=Tryz.checked) false (yi os) #[Ms,.int .i64 0] rfl (by kernel_rfl) (by kernel_rfl) (by kernel_rfl)
   (OpenSpec.preRow_of_cond 8 hx (by kernel_rfl) (λk hk=>by cases hk) (by kernel_rfl) (Sl os))) ?_
 intro W base args ds gs before hval hW _ _ hz hL hS _;exact contract H enc W base args ds gs before hval hW hz hL hS
theorem said :Rows.TxnChecksSaid:=
 OpenClaim.holds_of_cond 3 f3 rfl rfl rfl rfl rfl rfl rfl ⟨rfl,rfl,rfl,rfl,rfl⟩ rfl rfl rfl rfl rfl (by kernel_rfl) func3 acK
  (of_decide_eq_true (by kernel_rfl)) (by unfold Func.isWrapper;first|(rw[cq (by decide+kernel)];kernel_rfl)|(rw[cm (by decide+kernel)];exact⟨rfl,rfl⟩))
  (λos started H enc _ F=>by rw[OpenClaim.pre_eq_preRow];exact lifted os started H enc F)
theorem plain(f:FuncId)(fn:Func)(hf:Tryz.pinned.checked.prog.funcNamed "graphdb/graphdblaw46.TxnChecks" =some f)(Dx:Tryz.pinned.checked.prog.funcs[f]?=some fn):
 true=Tryz.pinned.checked.prog.looks []/\∀(j:Nat)t,fn.params[j]?=some t->Tryz.pinned.checked.prog.wantsStandIn t=false:=by
 obtain rfl:f=3:=Option.some.inj ((show prog.funcNamed "graphdb/graphdblaw46.TxnChecks" =some 3 by kernel_rfl).symm.trans hf)|>.symm
 obtain rfl:fn=f3:=(Option.some.inj (func3.symm.trans Dx)).symm;refine⟨by kernel_rfl,λj t ht=>?_⟩;rw[params3]at ht;have h3:t=32\/t=3:=by simpa using Array.mem_of_getElem? ht
 rcases h3 with rfl|rfl
 .exact(show prog.wantsStandIn 32=false by kernel_rfl)
 .exact(show prog.wantsStandIn 3=false by kernel_rfl)
theorem txnChecks_card :Rows.TxnChecksCardSaid:=
 Claim7.holds_tied_plain_at .later [] _ _ _ _ said (λ_ h=>by cases h) (by kernel_rfl) (λ_ h=>by cases h) AM rfl ⟨rfl,rfl⟩ (by kernel_rfl) rfl plain Sm
#print axioms txnChecks_card
end Go.Proofs.YtmfohnojaginjaaGreatDoor
