/- Part of the proof. -/
import Derived.Recover
import Derived.WalkKit
import Derived.Test.YtmocfjnklfpnbaaGreatDoorTab
set_option linter.all false
set_option maxRecDepth 100000
namespace Go.Proofs.YtmocfjnklfpnbaaGreatDoor
open Go Go.Ae Go.Proofs.Tryz
def TV(w:World)(p:Nat):CallsD prog 128 #[.pointer (some ⟨p,0,none⟩)] .returning w λe u' w'=>(∃v,e= .returned v)/\u'= .returning/\w'=w:=by
 refine callsD_of_wpS func128 rfl λc₀ cs hu=>?_
 apply wpS_seq;apply wpS_region;simp[wpOpsS,go_sem,recoverD,hu,ntmps128,Exit.thenS];apply wpS_seq;apply wpS_region;simp[wpOpsS,go_sem,Exit.thenS];refine wpS_cond (t:=false) (by simp[Act.eval,Array.replicate]) ?_;simp only[Yl,if_false];refine wpS_of_wp (wp_skip ?_);cases c₀
 simp_all [bodyPostS,results,Tryz.results128]
def acn(v:Value)(w:World):(Instr.typeAssert (.iface 203 v) 20 203 true).run prog w= .ok (.tuple #[v,.bool true]) w:=by kernel_rfl
def YA(w:World)(p:Nat)(cV:Array Value)(t:TypeId)(fz:Nat × Nat)(hc:w.heap[p]?=some (.cells cV t fz))(hf:Fz fz cV)(h0:0<cV.size):w.frozen? ⟨p,0,none⟩=false:=by
 rcases hf with rfl|hf
 .simp[World.frozen?,hc]
 .obtain⟨lo,rN⟩:=fz;simp only[World.frozen?,hc,Bool.and_eq_false_iff,decide_eq_false_iff_not];left;simp only at hf;omega
set_option maxHeartbeats 1000000 in
def TW(w:World)(p:Nat)(cV:Array Value)(t:TypeId)(fz:Nat × Nat)(hc:w.heap[p]?=some (.cells cV t fz))(hf:Fz fz cV)(h0:0<cV.size)(k:IntKind)(n:Int):
 CallsD prog 128 #[.pointer (some ⟨p,0,none⟩)] (.panicking [{v:= .iface 203 (.int k n),recovered:=false}]) w
  (λe u' w'=>(∃v,e= .returned v)/\u'= .panicking [{v:= .iface 203 (.int k n),recovered:=true}]/\w'=w.setRow p (cV.setIfInBounds 0 (.int k n))):=by
 have fO:w.cell? ⟨p,0,none⟩=some cV[0]:=by simp[World.cell?,hc,h0]
 have abo:=YA w p cV t fz hc hf h0;have kQ:=setCell_eq_setRow w p 0 cV t fz (.int k n) hc;refine callsD_of_wpS func128 rfl λc₀ cs hu=>?_
 rw[show #[Value.pointer (some ⟨p,0,none⟩)]++Array.replicate (f128.ntmps- #[Value.pointer (some ⟨p,0,none⟩)].size) undef= #[.pointer (some ⟨p,0,none⟩),undef,undef,undef,undef,undef,undef,undef,undef,undef,undef,undef,undef,undef,undef]from rfl];apply wpS_seq;apply wpS_region;simp[wpOpsS,go_sem,recoverD,hu,Exit.thenS];apply wpS_seq;apply wpS_region;simp[wpOpsS,go_sem,Exit.thenS];refine wpS_cond (t:=true) rfl ?_;simp only[if_true];apply wpS_seq;apply wpS_seq;apply wpS_region;simp[wpOpsS,go_sem,acn,Exit.thenS];apply wpS_seq;apply wpS_region;simp[wpOpsS,go_sem,Exit.thenS];refine wpS_cond (t:=true) rfl ?_;simp only[if_true];apply wpS_seq;apply wpS_region;simp[wpOpsS,go_sem,fO,abo,kQ,Exit.thenS];refine wpS_of_wp (wp_ret ?_);cases c₀
 simp_all [bodyPostS,results,Tryz.results128,Exit.thenS]
def aco :TX cx 128 203:=
 ⟨⟨_,func128,of_decide_eq_true (by kernel_rfl),by kernel_rfl⟩,TV,λw p cV t fz hc hf h0 k n=>TW w p cV t fz hc hf h0 k n⟩
def acp :kg cx:={
 base:=aeu
 MC:=λg T h=>by
  have h':(if g=128 then some 203 else none)=some T:=h;split at h'
  .rename_i e;subst e;cases h';exact aco
  .cases h'
 vc:=λf g kt h=>by
  have h':(if f=224 then some (281,9)else none)=some (g,kt):=h;split at h'
  .rename_i e;subst e;cases h';exact X6
  .cases h'
 BZ:=acq
 sfn:=acr
 nf:=aev}
end Go.Proofs.YtmocfjnklfpnbaaGreatDoor
