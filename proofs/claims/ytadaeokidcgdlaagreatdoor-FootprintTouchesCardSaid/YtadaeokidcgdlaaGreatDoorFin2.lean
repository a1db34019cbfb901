/- The law on what a change touches as a contract: it answers true, and turns nothing. -/
import Derived.Test.YtadaeokidcgdlaaGreatDoorFo96
import Derived.Test.YtadaeokidcgdlaaGreatDoorP43
import Derived.Test.YtadaeokidcgdlaaGreatDoorP47
set_option maxRecDepth 100000
namespace Go.Proofs.YtadaeokidcgdlaaGreatDoor
open Go Go.Ae
theorem ft_pure (D:Nat)(g:Gr)(p:Pr)(c:Ch)(hb:GrB D g)(hs:SzB g)(pd:dep p.v≤D)(pv:bdV p.v)(cd:dep c.v≤D)(cv:bdV c.v):PureOK cx 4 [.ag (encG g),.ag (encP p),.ag (encC c)] (.sc (.bool true)):=by
 have hS:∀t h,callN cx (3*D+100) t 13 [.ag (encG g),.sc (.int .i64 40),.sc (.int .i64 60)] h=some (.sc (.bool (smallS g)),h):=fun t h=>by
  have:=r07_Small (2*D+97) D t g h hb hs
  rwa [show 2*D+97+D+3=3*D+100 by omega]at this
 have hT:∀t h,callN cx (3*D+100) t 14 [.ag (encG g),.ag (encP p),.ag (encC c)] h=some (.sc (.bool (touchS g p c)),h):=fun t h=>by
  have:=fp_Touches (D+86) D t g p c h hb pd pv cd cv
  rwa [show D+86+2*D+14=3*D+100 by omega]at this
 have hR:∀t h,callN cx (3*D+100) t 15 [.ag (encG g),.ag (encP p),.ag (encC c)] h=some (.sc (.bool (touchS g p c)),h):=fun t h=>by
  have:=r45_Touches 88 D t g p c h hb pd pv cd cv
  rwa [show 88+3*D+12=3*D+100 by omega]at this
 have hl:∀t h,callN cx (3*D+100) t 9 [] h=some (.sc (.bool true),h):=fun t h=>by
  have:=live (3*D+10);exact call_none (n:=3*D+99) rfl (by kernel_rfl) this t h
 obtain⟨h',hw⟩:=ft_walk (3*D+100) g p c _ _ hS hT hR hl;have hb:body1 cx (callN cx (3*D+100)) 4 [.ag (encG g),.ag (encP p),.ag (encC c)] []=some (.sc (.bool true),h'):=by
  rw[body1_of (fi:=⟨Tryz.f4.ntmps,(Tryz.f4.body).getD .skip,[.tmp 6]⟩) (by kernel_rfl) (by kernel_rfl) (by simp[Tryz.f4])];exact hw
 exact pure_of_run cx_all hb (m:=8) rfl
end Go.Proofs.YtadaeokidcgdlaaGreatDoor
