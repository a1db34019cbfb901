/- 'slices.Insert' at slices of []api.Prop. -/
import Derived.Test.YtmocfjnklfpnbaaGreatDoorP44
set_option linter.all false
set_option maxRecDepth 100000
namespace Go.Proofs.YtmocfjnklfpnbaaGreatDoor
set_option maxHeartbeats 4000000
open Go Go.Ae
theorem insProp_e :WE Tryz.prog 258 67:=fun w base n cap vb vc r W Q hn hmx hm hrun fin=>by
 go_enter Tryz.func258,Tryz.ntmps258
 cases base with
 |
  none=>
  go_wp2_with (at_builtin;refine Lib.wpList_append_run _ rfl _ _ _ _ rfl _ _ rfl rfl _ _ (hrun _) ?_)
  all_goals exact fin
 |
  some a=>
  obtain⟨ab,ao,asp⟩:=a
  go_wp2_with (at_builtin;refine Lib.wpList_append_run _ rfl _ _ _ _ rfl _ _ rfl rfl _ _ (hrun _) ?_)
  all_goals exact fin
theorem insProp_s :WS Tryz.prog 258 292 67 6:=fun e ei w W b n cap i vb vc C Q ht hi hs hse hin hroom hmx hm hov hcp1 hcp2 fin=>by
 have hz2:¬((i:Int)=(n:Int)):=by omega
 have hw1:IntKind.i64.wrap ((i:Int)+1)=(i:Int)+1:=by rw[IntKind.wrap_i64];omega
 have hw2:IntKind.i64.wrap ((n:Int)+1)=(n:Int)+1:=by rw[IntKind.wrap_i64];omega
 have hb1:(0:Int)≤(i:Int)+1:=by omega
 have hii:i≤n:=by omega
 have htn:((i:Int)+1).toNat=i+1:=by omega
 have htn':((n:Int)+1).toNat=n+1:=by omega
 have hb2:¬(cap=i+1):=by omega
 have hb3:(i:Int)≤(n:Int)+1:=by omega
 have hb4:¬(cap=i):=by omega
 have u1:=run_underlying ht;have mixed:Tryz.prog.follows .mixedOrders=true:=by kernel_rfl
 go_enter Tryz.func258,Tryz.ntmps258
 go_wp2_with (simp only[hov])
 go_region_law_o (refine step_copy_eq rfl _ _ 67 67 rfl _ _ (by simp[Act.eval,Act.put]) (by simp[Act.eval,Act.put]) (hcp1 _ _ _) ?_)
 go_wp2_with (at_builtin;refine wpList_copy_eq _ rfl _ _ 67 67 rfl _ _ rfl rfl (hcp2 _ rfl _ _) ?_)
 exact fin
theorem insProp_g :WG Tryz.prog 258 67 3 6:=fun e ei w W b B cap i vb vc G R S Q ht hi hs hse hin hmx hm hge hle' hrz hcpA hcpB fin=>by
 have hz2:¬((i:Int)=(cap:Int)):=by omega
 have hw1:IntKind.i64.wrap ((i:Int)+1)=(i:Int)+1:=by rw[IntKind.wrap_i64];omega
 have hw2:IntKind.i64.wrap ((cap:Int)+1)=(cap:Int)+1:=by rw[IntKind.wrap_i64];omega
 have hw3:IntKind.i64.wrap ((cap:Int)+1-(i:Int))=(cap:Int)+1-(i:Int):=by rw[IntKind.wrap_i64];omega
 have hb1:(0:Int)≤(i:Int)+1:=by omega
 have hii:i≤cap:=by omega
 have htn1:((i:Int)+1).toNat=i+1:=by omega
 have hb2:¬(cap=i):=by omega
 have hb3:(i:Int)≤(cap:Int):=by omega
 have hb4:¬(G=i):=by omega
 have hb5:¬(G=i+1):=by omega
 have hz3:(cap:Int)< (cap:Int)+1:=by omega
 have u1:=run_underlying ht;have mixed:Tryz.prog.follows .mixedOrders=true:=by kernel_rfl
 go_enter Tryz.func258,Tryz.ntmps258
 go_wp2_with (first
  |(at_builtin;refine Lib.wpList_append_run _ rfl _ _ _ _ rfl _ _ rfl rfl _ _ (hrz _) ?_)
  |(at_builtin;refine wpList_copy_eq _ rfl _ _ 67 67 rfl _ _ rfl rfl (hcpA _ rfl _ _) ?_))
 go_region_law_o (refine step_copy_eq rfl _ _ 67 67 rfl (.slice (some ⟨B,(i+1)*6,none⟩) (cap-i) (G-(i+1))) (.slice (some ⟨b,i*6,none⟩) (cap-i) (cap-i)) (by simp[Act.eval,Act.put]) (by simp[Act.eval,Act.put]) (hcpB ((W.setRow B R).drew) rfl 3 (G-(i+1)) (cap-i)) ?_)
 go_wp2
 exact fin _ rfl rfl rfl rfl (by first|exact Nat.le_refl _|exact Nat.le_succ _|(show W.drawn≤W.drawn+1+1;omega))
theorem insProp_ok :InsOK cx 258 6 80:=
 insAll (O:=292) (T:=67) (I:=3) (D:=4) (by omega) (by omega) (by kernel_rfl) (by kernel_rfl) ⟨_,Tryz.func258,of_decide_eq_true (by kernel_rfl),by kernel_rfl⟩
  (fun args w=>run_callFunc_extern Tryz.func292 (by kernel_rfl) (by kernel_rfl) (by kernel_rfl) (by kernel_rfl) args w) insProp_e insProp_s insProp_g
open Go Go.Ae
theorem insNode_e :WE Tryz.prog 186 70:=fun w base n cap vb vc r W Q hn hmx hm hrun fin=>by
 go_enter Tryz.func186,Tryz.ntmps186
 cases base with
 |
  none=>
  go_wp2_with (at_builtin;refine Lib.wpList_append_run _ rfl _ _ _ _ rfl _ _ rfl rfl _ _ (hrun _) ?_)
  all_goals exact fin
 |
  some a=>
  obtain⟨ab,ao,asp⟩:=a
  go_wp2_with (at_builtin;refine Lib.wpList_append_run _ rfl _ _ _ _ rfl _ _ rfl rfl _ _ (hrun _) ?_)
  all_goals exact fin
theorem insNode_s :WS Tryz.prog 186 249 70 3:=fun e ei w W b n cap i vb vc C Q ht hi hs hse hin hroom hmx hm hov hcp1 hcp2 fin=>by
 have hz2:¬((i:Int)=(n:Int)):=by omega
 have hw1:IntKind.i64.wrap ((i:Int)+1)=(i:Int)+1:=by rw[IntKind.wrap_i64];omega
 have hw2:IntKind.i64.wrap ((n:Int)+1)=(n:Int)+1:=by rw[IntKind.wrap_i64];omega
 have hb1:(0:Int)≤(i:Int)+1:=by omega
 have hii:i≤n:=by omega
 have htn:((i:Int)+1).toNat=i+1:=by omega
 have htn':((n:Int)+1).toNat=n+1:=by omega
 have hb2:¬(cap=i+1):=by omega
 have hb3:(i:Int)≤(n:Int)+1:=by omega
 have hb4:¬(cap=i):=by omega
 have u1:=run_underlying ht;have mixed:Tryz.prog.follows .mixedOrders=true:=by kernel_rfl
 go_enter Tryz.func186,Tryz.ntmps186
 go_wp2_with (simp only[hov])
 go_region_law_o (refine step_copy_eq rfl _ _ 70 70 rfl _ _ (by simp[Act.eval,Act.put]) (by simp[Act.eval,Act.put]) (hcp1 _ _ _) ?_)
 go_wp2_with (at_builtin;refine wpList_copy_eq _ rfl _ _ 70 70 rfl _ _ rfl rfl (hcp2 _ rfl _ _) ?_)
 exact fin
theorem insNode_g :WG Tryz.prog 186 70 3 3:=fun e ei w W b B cap i vb vc G R S Q ht hi hs hse hin hmx hm hge hle' hrz hcpA hcpB fin=>by
 have hz2:¬((i:Int)=(cap:Int)):=by omega
 have hw1:IntKind.i64.wrap ((i:Int)+1)=(i:Int)+1:=by rw[IntKind.wrap_i64];omega
 have hw2:IntKind.i64.wrap ((cap:Int)+1)=(cap:Int)+1:=by rw[IntKind.wrap_i64];omega
 have hw3:IntKind.i64.wrap ((cap:Int)+1-(i:Int))=(cap:Int)+1-(i:Int):=by rw[IntKind.wrap_i64];omega
 have hb1:(0:Int)≤(i:Int)+1:=by omega
 have hii:i≤cap:=by omega
 have htn1:((i:Int)+1).toNat=i+1:=by omega
 have hb2:¬(cap=i):=by omega
 have hb3:(i:Int)≤(cap:Int):=by omega
 have hb4:¬(G=i):=by omega
 have hb5:¬(G=i+1):=by omega
 have hz3:(cap:Int)< (cap:Int)+1:=by omega
 have u1:=run_underlying ht;have mixed:Tryz.prog.follows .mixedOrders=true:=by kernel_rfl
 go_enter Tryz.func186,Tryz.ntmps186
 go_wp2_with (first
  |(at_builtin;refine Lib.wpList_append_run _ rfl _ _ _ _ rfl _ _ rfl rfl _ _ (hrz _) ?_)
  |(at_builtin;refine wpList_copy_eq _ rfl _ _ 70 70 rfl _ _ rfl rfl (hcpA _ rfl _ _) ?_))
 go_region_law_o (refine step_copy_eq rfl _ _ 70 70 rfl (.slice (some ⟨B,(i+1)*3,none⟩) (cap-i) (G-(i+1))) (.slice (some ⟨b,i*3,none⟩) (cap-i) (cap-i)) (by simp[Act.eval,Act.put]) (by simp[Act.eval,Act.put]) (hcpB ((W.setRow B R).drew) rfl 3 (G-(i+1)) (cap-i)) ?_)
 go_wp2
 exact fin _ rfl rfl rfl rfl (by first|exact Nat.le_refl _|exact Nat.le_succ _|(show W.drawn≤W.drawn+1+1;omega))
theorem insNode_ok :InsOK cx 186 3 56:=
 insAll (O:=249) (T:=70) (I:=3) (D:=4) (by omega) (by omega) (by kernel_rfl) (by kernel_rfl) ⟨_,Tryz.func186,of_decide_eq_true (by kernel_rfl),by kernel_rfl⟩
  (fun args w=>run_callFunc_extern Tryz.func249 (by kernel_rfl) (by kernel_rfl) (by kernel_rfl) (by kernel_rfl) args w) insNode_e insNode_s insNode_g
open Go Go.Ae
theorem insEdge_e :WE Tryz.prog 193 71:=fun w base n cap vb vc r W Q hn hmx hm hrun fin=>by
 go_enter Tryz.func193,Tryz.ntmps193
 cases base with
 |
  none=>
  go_wp2_with (at_builtin;refine Lib.wpList_append_run _ rfl _ _ _ _ rfl _ _ rfl rfl _ _ (hrun _) ?_)
  all_goals exact fin
 |
  some a=>
  obtain⟨ab,ao,asp⟩:=a
  go_wp2_with (at_builtin;refine Lib.wpList_append_run _ rfl _ _ _ _ rfl _ _ rfl rfl _ _ (hrun _) ?_)
  all_goals exact fin
theorem insEdge_s :WS Tryz.prog 193 261 71 5:=fun e ei w W b n cap i vb vc C Q ht hi hs hse hin hroom hmx hm hov hcp1 hcp2 fin=>by
 have hz2:¬((i:Int)=(n:Int)):=by omega
 have hw1:IntKind.i64.wrap ((i:Int)+1)=(i:Int)+1:=by rw[IntKind.wrap_i64];omega
 have hw2:IntKind.i64.wrap ((n:Int)+1)=(n:Int)+1:=by rw[IntKind.wrap_i64];omega
 have hb1:(0:Int)≤(i:Int)+1:=by omega
 have hii:i≤n:=by omega
 have htn:((i:Int)+1).toNat=i+1:=by omega
 have htn':((n:Int)+1).toNat=n+1:=by omega
 have hb2:¬(cap=i+1):=by omega
 have hb3:(i:Int)≤(n:Int)+1:=by omega
 have hb4:¬(cap=i):=by omega
 have u1:=run_underlying ht;have mixed:Tryz.prog.follows .mixedOrders=true:=by kernel_rfl
 go_enter Tryz.func193,Tryz.ntmps193
 go_wp2_with (simp only[hov])
 go_region_law_o (refine step_copy_eq rfl _ _ 71 71 rfl _ _ (by simp[Act.eval,Act.put]) (by simp[Act.eval,Act.put]) (hcp1 _ _ _) ?_)
 go_wp2_with (at_builtin;refine wpList_copy_eq _ rfl _ _ 71 71 rfl _ _ rfl rfl (hcp2 _ rfl _ _) ?_)
 exact fin
theorem insEdge_g :WG Tryz.prog 193 71 3 5:=fun e ei w W b B cap i vb vc G R S Q ht hi hs hse hin hmx hm hge hle' hrz hcpA hcpB fin=>by
 have hz2:¬((i:Int)=(cap:Int)):=by omega
 have hw1:IntKind.i64.wrap ((i:Int)+1)=(i:Int)+1:=by rw[IntKind.wrap_i64];omega
 have hw2:IntKind.i64.wrap ((cap:Int)+1)=(cap:Int)+1:=by rw[IntKind.wrap_i64];omega
 have hw3:IntKind.i64.wrap ((cap:Int)+1-(i:Int))=(cap:Int)+1-(i:Int):=by rw[IntKind.wrap_i64];omega
 have hb1:(0:Int)≤(i:Int)+1:=by omega
 have hii:i≤cap:=by omega
 have htn1:((i:Int)+1).toNat=i+1:=by omega
 have hb2:¬(cap=i):=by omega
 have hb3:(i:Int)≤(cap:Int):=by omega
 have hb4:¬(G=i):=by omega
 have hb5:¬(G=i+1):=by omega
 have hz3:(cap:Int)< (cap:Int)+1:=by omega
 have u1:=run_underlying ht;have mixed:Tryz.prog.follows .mixedOrders=true:=by kernel_rfl
 go_enter Tryz.func193,Tryz.ntmps193
 go_wp2_with (first
  |(at_builtin;refine Lib.wpList_append_run _ rfl _ _ _ _ rfl _ _ rfl rfl _ _ (hrz _) ?_)
  |(at_builtin;refine wpList_copy_eq _ rfl _ _ 71 71 rfl _ _ rfl rfl (hcpA _ rfl _ _) ?_))
 go_region_law_o (refine step_copy_eq rfl _ _ 71 71 rfl (.slice (some ⟨B,(i+1)*5,none⟩) (cap-i) (G-(i+1))) (.slice (some ⟨b,i*5,none⟩) (cap-i) (cap-i)) (by simp[Act.eval,Act.put]) (by simp[Act.eval,Act.put]) (hcpB ((W.setRow B R).drew) rfl 3 (G-(i+1)) (cap-i)) ?_)
 go_wp2
 exact fin _ rfl rfl rfl rfl (by first|exact Nat.le_refl _|exact Nat.le_succ _|(show W.drawn≤W.drawn+1+1;omega))
theorem insEdge_ok :InsOK cx 193 5 64:=
 insAll (O:=261) (T:=71) (I:=3) (D:=4) (by omega) (by omega) (by kernel_rfl) (by kernel_rfl) ⟨_,Tryz.func193,of_decide_eq_true (by kernel_rfl),by kernel_rfl⟩
  (fun args w=>run_callFunc_extern Tryz.func261 (by kernel_rfl) (by kernel_rfl) (by kernel_rfl) (by kernel_rfl) args w) insEdge_e insEdge_s insEdge_g
end Go.Proofs.YtmocfjnklfpnbaaGreatDoor
