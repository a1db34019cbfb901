/- Proved: for every graph, list of changes and atom the law on the differences of atoms (IncrementalAtoms) returns true and leaves its arguments as they were. Its one condition: the four listed package-level variables start as the program's text lays them. -/
import Derived.Test.YtaibpnppeiigdaaGreatDoorRow48
import Derived.Test.YtaibpnppeiigdaaGreatDoorFacts48
set_option maxRecDepth 100000
namespace Go.Proofs.YtaibpnppeiigdaaGreatDoor
open Go Go.Ae Go.ChangeShapes Go.WideShapes Go.ChangeAt Go.RowKit Go.Proofs.Tryz
def putRow (g:Nat)(cs:Array Value)(h:Array Obj):Array Obj:=h.modify g fun
 | .cells _ t frozen=> .cells cs t frozen
 |o=>o
noncomputable def yd (os:Os):World:=
 {World.holding prog os ⟨#[],#[],[]⟩with heap:=(putRow 3 #[.int .u8 0,.int .u8 1,.int .u8 56,.int .u8 2,.int .u8 57,.int .u8 49,.int .u8 28,.int .u8 3,.int .u8 61,.int .u8 58,.int .u8 42,.int .u8 50,.int .u8 38,.int .u8 29,.int .u8 17,.int .u8 4,.int .u8 62,.int .u8 47,.int .u8 59,.int .u8 36,.int .u8 45,.int .u8 43,.int .u8 51,.int .u8 22,.int .u8 53,.int .u8 39,.int .u8 33,.int .u8 30,.int .u8 24,.int .u8 18,.int .u8 12,.int .u8 5,.int .u8 63,.int .u8 55,.int .u8 48,.int .u8 27,.int .u8 60,.int .u8 41,.int .u8 37,.int .u8 16,.int .u8 46,.int .u8 35,.int .u8 44,.int .u8 21,.int .u8 52,.int .u8 32,.int .u8 23,.int .u8 11,.int .u8 54,.int .u8 26,.int .u8 40,.int .u8 15,.int .u8 34,.int .u8 20,.int .u8 31,.int .u8 10,.int .u8 25,.int .u8 14,.int .u8 19,.int .u8 9,.int .u8 13,.int .u8 8,.int .u8 7,.int .u8 6] (putRow 2 #[.int .u8 0,.int .u8 1,.int .u8 28,.int .u8 2,.int .u8 29,.int .u8 14,.int .u8 24,.int .u8 3,.int .u8 30,.int .u8 22,.int .u8 20,.int .u8 15,.int .u8 25,.int .u8 17,.int .u8 4,.int .u8 8,.int .u8 31,.int .u8 27,.int .u8 13,.int .u8 23,.int .u8 21,.int .u8 19,.int .u8 16,.int .u8 7,.int .u8 26,.int .u8 12,.int .u8 18,.int .u8 6,.int .u8 11,.int .u8 5,.int .u8 10,.int .u8 9] (putRow 1 #[.int .u64 1,.int .u64 10,.int .u64 100,.int .u64 1000,.int .u64 10000,.int .u64 100000,.int .u64 1000000,.int .u64 10000000,.int .u64 100000000,.int .u64 1000000000,.int .u64 10000000000,.int .u64 100000000000,.int .u64 1000000000000,.int .u64 10000000000000,.int .u64 100000000000000,.int .u64 1000000000000000,.int .u64 10000000000000000,.int .u64 100000000000000000,.int .u64 1000000000000000000,.int .u64 10000000000000000000] (putRow 0 #[.int .i64 0,.int .i64 1] (World.holding prog os ⟨#[],#[],[]⟩).heap))))}
def uO :Value:= .agg #[.slice none 0 0,.slice none 0 0,.int .i64 0,.int .i64 0]
def Df {H:Type}:DataW H:= .agg [.nil,.nil,.lit (.int .i64 0),.lit (.int .i64 0)]
def wM :Value:= .agg #[.int .i64 0,.slice none 0 0,.string ⟨#[]⟩,.slice none 0 0,.int .i64 0,.int .i64 0,.int .i64 0,.string ⟨#[]⟩,.slice none 0 0]
def Fh {H:Type}:DataW H:= .agg [.lit (.int .i64 0),.nil,.lit (.string []),.nil,.agg [.lit (.int .i64 0),.lit (.int .i64 0),.lit (.int .i64 0),.lit (.string []),.nil]]
theorem S7 (os:Os):laidMet prog Rows.incrementalAtomsRow.laid ((yd os).forCall (λ_ _=>0) ⟨#[],#[uO,.slice none 0 0,wM],[]⟩).memory:=
 laidMet_of_run' 8 (by kernel_rfl) (by kernel_rfl)
theorem reads (os:Os){H:Type}(enc:TypeId × Value->H):∃places,DataW.whole enc prog ((yd os).forCall (λ_ _=>0) ⟨#[],#[uO,.slice none 0 0,wM],[]⟩).memory f3.params.toList Rows.incrementalAtomsSpec.vars false #[uO,.slice none 0 0,wM].toList 8=some ([Df,.nil,Fh],[],places):=
 ⟨[],by kernel_rfl⟩
theorem lifted (os:Os)(started:os.Started)(H:Type)(enc:TypeId × Value->H)(F:Stop.Interp):
 ReturnsInHanded {} Tryz.checked os 3 .any ((OpenSpec.ofChange Rows.incrementalAtomsSpec).preRow enc prog f3 Rows.incrementalAtomsRow.domain false Rows.incrementalAtomsRow.laid) (((OpenSpec.ofChange Rows.incrementalAtomsSpec).at F).post enc prog f3 false true false false):=by
 obtain⟨places,hx⟩:=reads os enc;refine returnsInHanded_of_row (C:=Tryz.checked) (s:=OpenSpec.ofChange Rows.incrementalAtomsSpec) own started (by kernel_rfl) func3
  (witness_row_at (enc:=enc) (C:=Tryz.checked) false (yd os) #[uO,.slice none 0 0,wM] rfl (by kernel_rfl) (by kernel_rfl) (by kernel_rfl)
   (OpenSpec.preRow_of_cond 8 hx (by kernel_rfl) (λk hk=>by cases hk) (by kernel_rfl) (S7 os))) ?_
 intro W base args ds gs before hval hW _ _ hz hL _ _;exact contract H enc W base args ds gs before hval hW hz hL
theorem said :Rows.IncrementalAtomsSaid:=
 OpenClaim.holds_of_cond 3 f3 rfl rfl rfl rfl rfl rfl rfl ⟨rfl,rfl,rfl,rfl,rfl⟩ rfl rfl rfl rfl rfl (by kernel_rfl) func3 ac9
  (of_decide_eq_true (by kernel_rfl)) (by unfold Func.isWrapper;first|(rw[dd (by decide+kernel)];kernel_rfl)|(rw[db (by decide+kernel)];exact⟨rfl,rfl⟩))
  (λos started H enc _ F=>by rw[OpenClaim.pre_eq_preRow];exact lifted os started H enc F)
theorem plain (f:FuncId)(fn:Func)(hf:Tryz.pinned.checked.prog.funcNamed "graphdb/graphdblaw48.IncrementalAtoms" =some f)(wz:Tryz.pinned.checked.prog.funcs[f]?=some fn):
 true=Tryz.pinned.checked.prog.looks []/\∀(j:Nat) t,fn.params[j]?=some t->Tryz.pinned.checked.prog.wantsStandIn t=false:=by
 obtain rfl:f=3:=Option.some.inj ((show prog.funcNamed "graphdb/graphdblaw48.IncrementalAtoms" =some 3 by kernel_rfl).symm.trans hf)|>.symm
 obtain rfl:fn=f3:=(Option.some.inj (func3.symm.trans wz)).symm;refine⟨by kernel_rfl,λj t ht=>?_⟩;rw[params3]at ht;have h3:t=25\/t=26\/t=33:=by simpa using Array.mem_of_getElem? ht
 rcases h3 with rfl|rfl|rfl
 .exact(show prog.wantsStandIn 25=false by kernel_rfl)
 .exact(show prog.wantsStandIn 26=false by kernel_rfl)
 .exact(show prog.wantsStandIn 33=false by kernel_rfl)
theorem incrementalAtoms_card :Rows.IncrementalAtomsCardSaid:=
 Claim7.holds_tied_plain_at .later [] _ _ _ _ said (λ_ h=>by cases h) (by kernel_rfl) (λ_ h=>by cases h) incrementalAtoms_row_tie rfl ⟨rfl,rfl⟩ (by kernel_rfl) rfl plain (by kernel_rfl)
#print axioms incrementalAtoms_card
end Go.Proofs.YtaibpnppeiigdaaGreatDoor
