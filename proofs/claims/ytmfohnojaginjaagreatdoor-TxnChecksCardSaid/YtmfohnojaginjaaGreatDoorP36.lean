/- Part of the proof. -/
import Derived.Recover
import Derived.WalkKit
import Derived.Test.YtmfohnojaginjaaGreatDoorTab
set_option linter.all false
set_option maxRecDepth 100000
namespace Go.Proofs.YtmfohnojaginjaaGreatDoor
open Go Go.Ae Go.Proofs.Tryz
def VZ(w:World)(p:Nat):CallsD prog 138 #[.pointer (some ⟨p,0,none⟩)] .returning w λe u' w'=>(∃v,e= .returned v)/\u'= .returning/\w'=w:=by
 refine callsD_of_wpS func138 rfl λc₀ cs hu=>?_
 apply wpS_seq;apply wpS_region;simp[wpOpsS,go_sem,recoverD,hu,ntmps138,Exit.thenS];apply wpS_seq;apply wpS_region;simp[wpOpsS,go_sem,Exit.thenS];refine wpS_cond (t:=false) (by simp[Act.eval,Array.replicate]) ?_;simp only[Ys,if_false];refine wpS_of_wp (wp_skip ?_);cases c₀
 simp_all [bodyPostS,results,Tryz.results138]
def aec(v:Value)(w:World):(Instr.typeAssert (.iface 228 v) 20 228 true).run prog w= .ok (.tuple #[v,.bool true]) w:=by kernel_rfl
def aa3(w:World)(p:Nat)(cF:Array Value)(t:TypeId)(fz:Nat × Nat)(hc:w.heap[p]?=some (.cells cF t fz))(hf:Fz fz cF)(h0:0<cF.size):w.frozen? ⟨p,0,none⟩=false:=by
 rcases hf with rfl|hf
 .simp[World.frozen?,hc]
 .obtain⟨lo,p8⟩:=fz;simp only[World.frozen?,hc,Bool.and_eq_false_iff,decide_eq_false_iff_not];left;simp only at hf;omega
set_option maxHeartbeats 1000000 in
def V1(w:World)(p:Nat)(cF:Array Value)(t:TypeId)(fz:Nat × Nat)(hc:w.heap[p]?=some (.cells cF t fz))(hf:Fz fz cF)(h0:0<cF.size)(k:IntKind)(n:Int):
 CallsD prog 138 #[.pointer (some ⟨p,0,none⟩)] (.panicking [{v:= .iface 228 (.int k n),recovered:=false}]) w
  (λe u' w'=>(∃v,e= .returned v)/\u'= .panicking [{v:= .iface 228 (.int k n),recovered:=true}]/\w'=w.setRow p (cF.setIfInBounds 0 (.int k n))):=by
 have dX:w.cell? ⟨p,0,none⟩=some cF[0]:=by simp[World.cell?,hc,h0]
 have adk:=aa3 w p cF t fz hc hf h0;have u9:=setCell_eq_setRow w p 0 cF t fz (.int k n) hc;refine callsD_of_wpS func138 rfl λc₀ cs hu=>?_
 rw[show #[Value.pointer (some ⟨p,0,none⟩)]++Array.replicate (f138.ntmps- #[Value.pointer (some ⟨p,0,none⟩)].size) undef= #[.pointer (some ⟨p,0,none⟩),undef,undef,undef,undef,undef,undef,undef,undef,undef,undef,undef,undef,undef,undef]from rfl];apply wpS_seq;apply wpS_region;simp[wpOpsS,go_sem,recoverD,hu,Exit.thenS];apply wpS_seq;apply wpS_region;simp[wpOpsS,go_sem,Exit.thenS];refine wpS_cond (t:=true) rfl ?_;simp only[if_true];apply wpS_seq;apply wpS_seq;apply wpS_region;simp[wpOpsS,go_sem,aec,Exit.thenS];apply wpS_seq;apply wpS_region;simp[wpOpsS,go_sem,Exit.thenS];refine wpS_cond (t:=true) rfl ?_;simp only[if_true];apply wpS_seq;apply wpS_region;simp[wpOpsS,go_sem,dX,adk,u9,Exit.thenS];refine wpS_of_wp (wp_ret ?_);cases c₀
 simp_all [bodyPostS,results,Tryz.results138,Exit.thenS]
def aed :V3 cx 138 228:=
 ⟨⟨_,func138,of_decide_eq_true (by kernel_rfl),by kernel_rfl⟩,VZ,λw p cF t fz hc hf h0 k n=>V1 w p cF t fz hc hf h0 k n⟩
def kZ :pL cx:={
 base:=agj
 Ss:=λg T h=>by
  have h':(if g=138 then some 228 else none)=some T:=h;split at h'
  .rename_i e;subst e;cases h';exact aed
  .cases h'
 oW:=λf g kt h=>by
  have h':(if f=427 then some (487,9)else none)=some (g,kt):=h;split at h'
  .rename_i e;subst e;cases h';exact aaX
  .cases h'
 ux:=aee
 ins:=aef
 nf:=agk}
def cW(n:Int):AV:= .sc (.int .i64 n)
def Ex(b:Bool):AV:= .sc (.bool b)
def h_(l:List UInt8):AV:= .sc (.string ⟨l.toArray⟩)
def gj :AV:= .sc (.slice none 0 0)
def g0K :AV:= .ag [gj,gj,cW 1,cW 1]
def m0K :AV:= .ag [gj,cW 0,.ls 3 [] false,.ls 5 [] false,cW 1,cW 1,gj,gj,cW 1]
def m1K :AV:= .ag [gj,cW 0,.ls 3 [] false,.ls 5 [] false,cW 1,cW 1,gj,.ls 4 [[cW 1,cW 0,gj,gj]] false,cW 2]
def m2K :AV:= .ag [gj,cW 0,.ls 3 [] false,.ls 5 [] false,cW 1,cW 1,gj,.ls 4 [[cW 1,cW 0,gj,gj],[cW 2,cW 0,gj,gj]] false,cW 3]
def m3K :AV:= .ag [gj,cW 0,.ls 3 [] false,.ls 5 [] false,cW 1,cW 1,gj,.ls 4 [[cW 1,cW 0,.ls 8 [[cW 2,h_ [65],h_ [],cW 0,cW 0,cW 0,h_ [],gj]] false,gj],[cW 2,cW 0,gj,gj]] false,cW 3]
def m4K :AV:= .ag [gj,cW 0,.ls 3 [] false,.ls 5 [] false,cW 1,cW 1,gj,.ls 4 [[cW 1,cW 0,.ls 8 [[cW 2,h_ [65],h_ [],cW 0,cW 0,cW 0,h_ [],gj]] false,.ls 10 [[cW 1,cW 1,cW 0,cW 0,h_ [],cW 0,cW 0,cW 0,h_ [],gj],[cW 3,cW 1,cW 0,cW 0,h_ [65],cW 0,cW 0,cW 0,h_ [],gj]] false],[cW 2,cW 0,gj,gj]] false,cW 3]
def m5K :AV:= .ag [gj,cW 0,.ls 3 [] false,.ls 5 [] false,cW 1,cW 1,gj,.ls 4 [[cW 1,cW 0,.ls 8 [[cW 2,h_ [65],h_ [],cW 0,cW 0,cW 0,h_ [],gj]] false,.ls 10 [[cW 1,cW 1,cW 0,cW 0,h_ [],cW 0,cW 0,cW 0,h_ [],gj],[cW 3,cW 1,cW 0,cW 0,h_ [65],cW 0,cW 0,cW 0,h_ [],gj]] false],[cW 2,cW 0,.ls 8 [[cW 2,h_ [66],h_ [],cW 0,cW 0,cW 0,h_ [],gj]] false,gj]] false,cW 3]
def m6K :AV:= .ag [gj,cW 0,.ls 3 [] false,.ls 5 [] false,cW 1,cW 1,gj,.ls 4 [[cW 1,cW 0,.ls 8 [[cW 2,h_ [65],h_ [],cW 0,cW 0,cW 0,h_ [],gj]] false,.ls 10 [[cW 1,cW 1,cW 0,cW 0,h_ [],cW 0,cW 0,cW 0,h_ [],gj],[cW 3,cW 1,cW 0,cW 0,h_ [65],cW 0,cW 0,cW 0,h_ [],gj]] false],[cW 2,cW 0,.ls 8 [[cW 2,h_ [66],h_ [],cW 0,cW 0,cW 0,h_ [],gj]] false,.ls 10 [[cW 1,cW 1,cW 0,cW 0,h_ [],cW 0,cW 0,cW 0,h_ [],gj],[cW 3,cW 1,cW 0,cW 0,h_ [66],cW 0,cW 0,cW 0,h_ [],gj]] false]] false,cW 3]
def m7K :AV:= .ag [gj,cW 0,.ls 3 [] false,.ls 5 [] false,cW 1,cW 1,.ls 2 [[cW 1,.ls 10 [[cW 1,cW 1,cW 0,cW 0,h_ [],cW 0,cW 0,cW 0,h_ [],gj],[cW 3,cW 1,cW 0,cW 0,h_ [65],cW 0,cW 0,cW 0,h_ [],gj]] false]] false,.ls 4 [[cW 2,cW 0,.ls 8 [[cW 2,h_ [66],h_ [],cW 0,cW 0,cW 0,h_ [],gj]] false,.ls 10 [[cW 1,cW 1,cW 0,cW 0,h_ [],cW 0,cW 0,cW 0,h_ [],gj],[cW 3,cW 1,cW 0,cW 0,h_ [66],cW 0,cW 0,cW 0,h_ [],gj]] false]] false,cW 3]
def m8K :AV:= .ag [gj,cW 0,.ls 3 [] false,.ls 5 [] false,cW 1,cW 1,.ls 2 [[cW 1,.ls 10 [[cW 1,cW 1,cW 0,cW 0,h_ [],cW 0,cW 0,cW 0,h_ [],gj],[cW 3,cW 1,cW 0,cW 0,h_ [65],cW 0,cW 0,cW 0,h_ [],gj]] false]] false,.ls 4 [] false,cW 3]
def Af :AV:= .ag [.ls 21 [[cW 1,Ex false,Ex false,.ls 3 [[h_ [],.ls 3 [[h_ [120],.ls 1 [[h_ [65]]] false,gj]] false,gj]] false,gj,cW 0,cW 0,cW 0,cW 0,h_ [],gj,h_ [],Ex false,gj,h_ [],gj,gj,cW (-1),cW (-1),gj,gj],[cW 4,Ex false,Ex false,gj,gj,cW 0,cW 0,cW 0,cW 0,h_ [],gj,h_ [],Ex false,gj,h_ [],.ls 10 [[cW 24,cW 0,cW 0,cW 0,h_ [],gj,h_ [99,111,117,110,116],Ex false,gj,h_ [110]]] false,gj,cW (-1),cW (-1),gj,gj]] false]
def wV :AV:= .ag [.ls 21 [[cW 5,Ex false,Ex false,.ls 3 [[h_ [],.ls 3 [[h_ [120],.ls 1 [[h_ [65]]] false,gj]] false,gj]] false,gj,cW 0,cW 0,cW 0,cW 0,h_ [],gj,h_ [],Ex false,gj,h_ [],gj,gj,cW (-1),cW (-1),gj,gj]] false]
def Ag :AV:= .ag [.ls 21 [[cW 1,Ex false,Ex false,.ls 3 [[h_ [],.ls 3 [[h_ [120],.ls 1 [[h_ [66]]] false,gj]] false,gj]] false,gj,cW 0,cW 0,cW 0,cW 0,h_ [],gj,h_ [],Ex false,gj,h_ [],gj,gj,cW (-1),cW (-1),gj,gj],[cW 4,Ex false,Ex false,gj,gj,cW 0,cW 0,cW 0,cW 0,h_ [],gj,h_ [],Ex false,gj,h_ [],.ls 10 [[cW 24,cW 0,cW 0,cW 0,h_ [],gj,h_ [99,111,117,110,116],Ex false,gj,h_ [110]]] false,gj,cW (-1),cW (-1),gj,gj]] false]
def wW :AV:= .ag [.ls 21 [[cW 5,Ex false,Ex false,.ls 3 [[h_ [],.ls 3 [[h_ [120],.ls 1 [[h_ [66]]] false,gj]] false,gj]] false,gj,cW 0,cW 0,cW 0,cW 0,h_ [],gj,h_ [],Ex false,gj,h_ [],gj,gj,cW (-1),cW (-1),gj,gj]] false]
def t1K :AV:= .ag [.ls 1 [[h_ [110]]] false,.ls 1 [[.ls 5 [[cW 2,cW 0,cW 0,h_ [],.ls 5 [] false]] false]] false]
def t2K :AV:= .ag [gj,gj]
def t3K :AV:= .ag [.ls 1 [[h_ [110]]] false,.ls 1 [[.ls 5 [[cW 2,cW 0,cW 0,h_ [],.ls 5 [] false]] false]] false]
def t4K :AV:= .ag [gj,gj]
def agl :runK cx 13 [g0K,gj,cW 0]=some (.tp [m0K,cW 0]):=by kernel_rfl
def ajB :runK cx 14 [m0K]=some (.tp [m1K,cW 1,cW 0]):=by kernel_rfl
def ajC :runK cx 14 [m1K]=some (.tp [m2K,cW 2,cW 0]):=by kernel_rfl
def V4 :runK cx 16 [h_ [65]]=some (Af):=by kernel_rfl
def Q7 :runK cx 17 [h_ [65]]=some (wV):=by kernel_rfl
def V5 :runK cx 16 [h_ [66]]=some (Ag):=by kernel_rfl
def Q8 :runK cx 17 [h_ [66]]=some (wW):=by kernel_rfl
end Go.Proofs.YtmfohnojaginjaaGreatDoor
