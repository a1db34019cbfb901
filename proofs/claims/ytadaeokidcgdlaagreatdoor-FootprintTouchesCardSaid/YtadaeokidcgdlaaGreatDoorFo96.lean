/- The law on what a change touches: its walk. -/
import Derived.Test.YtadaeokidcgdlaaGreatDoorP39
import Derived.Test.YtadaeokidcgdlaaGreatDoorP41
import Derived.Test.YtadaeokidcgdlaaGreatDoorP19
set_option linter.unusedSimpArgs false
set_option maxRecDepth 100000
set_option linter.unusedVariables false
namespace Go.Proofs.YtadaeokidcgdlaaGreatDoor
open Go Go.Ae
section
attribute [local simp] aop aopW coldF extF putA ofConst flat scalarOp fastOp binFast intOp strOp guardX Ae.part rowOf szOk natOf lenA cls fillA splice newsOf isNilC cellX
set_option maxHeartbeats 16000000
theorem ft_walk (M:Nat)(g:Gr)(p:Pr)(c:Ch)(u s:Bool)
 (hS:∀t h,callN cx M t 13 [.ag (encG g),.sc (.int .i64 40),.sc (.int .i64 60)] h=some (.sc (.bool s),h))
 (hT:∀t h,callN cx M t 14 [.ag (encG g),.ag (encP p),.ag (encC c)] h=some (.sc (.bool u),h))
 (hR:∀t h,callN cx M t 15 [.ag (encG g),.ag (encP p),.ag (encC c)] h=some (.sc (.bool u),h))
 (hl:∀t h,callN cx M t 9 [] h=some (.sc (.bool true),h)):
 ∃h',finX [.tmp 6] (exec2 cx (callN cx M) ((Tryz.f4.body).getD .skip) ([.ag (encG g),.ag (encP p),.ag (encC c)]++List.replicate (Tryz.f4.ntmps-3) .un,[]))=some (.sc (.bool true),h'):=by
 obtain⟨pk,pn,py,pv⟩:=p;obtain⟨ck,ca,cb,cc,cn,cv⟩:=c;obtain⟨k1,m1,d1,s1,z1,q1⟩:=pv;obtain⟨k2,m2,d2,s2,z2,q2⟩:=cv;simp only[encG,ndV,edV,encP,encC,enc,Zv,Zw]at hS hT hR⊢;generalize lsV z1 (encL q1)=y1 at hT hR⊢;generalize lsV z2 (encL q2)=y2 at hT hR⊢;cases s
 ·simp[Tryz.f4,hS,hl]
 ·simp[Tryz.f4,hS,hT,hR,hl]
end
end Go.Proofs.YtadaeokidcgdlaaGreatDoor
