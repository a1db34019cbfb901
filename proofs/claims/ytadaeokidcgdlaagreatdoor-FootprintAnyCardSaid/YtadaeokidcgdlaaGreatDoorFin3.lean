/- The law on whether changes touch predicates as a contract: it answers true, and turns nothing. -/
import Derived.Test.YtadaeokidcgdlaaGreatDoorP149
import Derived.Test.YtadaeokidcgdlaaGreatDoorP43
import Derived.Test.YtadaeokidcgdlaaGreatDoorP47
set_option maxRecDepth 100000
namespace Go.Proofs.YtadaeokidcgdlaaGreatDoor
open Go Go.Ae
theorem fa_pure (D:Nat)(g:Gr)(l:List Pr)(cs:List Ch)(y z:Bool)(hb:GrB D g)(hs:SzB g)(hp:∀p∈l,dep p.v≤D∧bdV p.v)(hc:∀c∈cs,dep c.v≤D∧bdV c.v):PureOK cx 5 [.ag (encG g),.ls 8 (pdR l) y,.ls 10 (chR cs) z] (.sc (.bool true)):=by
 have hS:∀t h,callN cx (3*D+100) t 13 [.ag (encG g),.sc (.int .i64 40),.sc (.int .i64 60)] h=some (.sc (.bool (smallS g)),h):=fun t h=>by
  have:=r07_Small (2*D+97) D t g h hb hs
  rwa [show 2*D+97+D+3=3*D+100 by omega]at this
 have hT:¬20< (pdR l).length→¬12< (chR cs).length→∀t h,callN cx (3*D+100) t 16 [.ag (encG g),.ls 8 (pdR l) y,.ls 10 (chR cs) z] h=some (.sc (.bool (anyF g l cs)),h):=fun k1 k2 t h=>by
  rw[pdR_length]at k1;rw[chR_length]at k2;have:=fp_Any (D+82) D t g l cs y z h hb (by omega) (by omega) hp hc
  rwa [show D+82+2*D+18=3*D+100 by omega]at this
 have hR:¬20< (pdR l).length→¬12< (chR cs).length→∀t h,callN cx (3*D+100) t 17 [.ag (encG g),.ls 8 (pdR l) y,.ls 10 (chR cs) z] h=some (.sc (.bool (anyF g l cs)),h):=fun k1 k2 t h=>by
  rw[pdR_length]at k1;rw[chR_length]at k2;have:=r45_Any 87 D t g l cs y z h hb (by omega) (by omega) hp hc
  rwa [show 87+3*D+13=3*D+100 by omega]at this
 have hl:∀t h,callN cx (3*D+100) t 9 [] h=some (.sc (.bool true),h):=fun t h=>by
  have:=live (3*D+10);exact call_none (n:=3*D+99) rfl (by kernel_rfl) this t h
 obtain⟨h',hw⟩:=fa_walk (3*D+100) g (pdR l) (chR cs) y z _ _ hS hT hR hl;have hb:body1 cx (callN cx (3*D+100)) 5 [.ag (encG g),.ls 8 (pdR l) y,.ls 10 (chR cs) z] []=some (.sc (.bool true),h'):=by
  rw[body1_of (fi:=⟨Tryz.f5.ntmps,(Tryz.f5.body).getD .skip,[.tmp 6]⟩) (by kernel_rfl) (by kernel_rfl) (by simp[Tryz.f5])];exact hw
 exact pure_of_run cx_all hb (m:=8) rfl
end Go.Proofs.YtadaeokidcgdlaaGreatDoor
