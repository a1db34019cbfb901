/- The law on sums of notices as a contract: it answers true, and turns nothing. -/
import Derived.Test.YtiefabpageilbaaGreatDoorP33
import Derived.Test.YtiefabpageilbaaGreatDoorAv
set_option linter.all false
set_option maxRecDepth 100000
namespace Go.Proofs.YtiefabpageilbaaGreatDoor
open Go Go.Ae
def aT (f:FuncId)(xs:List AV):Option AV:=if f=4 then(if xs.isEmpty then some (.sc (.bool true))else none)else none
theorem aT_ok :∀f xs r,aT f xs=some r→xs.all calm=true∧PureOK cx f xs r:=fun f xs r h=>by
 unfold aT at h;split at h
 ·rename_i e;split at h
  ·rename_i e2;cases h;obtain rfl:=List.isEmpty_iff.1 e2;subst e;exact⟨rfl,alive_ok⟩
  ·cases h
 ·cases h
theorem selS_len (id:Int):∀l:List Nt,(∀n∈l,n.diff.length≤20)→(selS l id).length≤20*l.length
 | [],_=>by simp[selS]
 |
  n::l,h=>by
  have ih:=selS_len id l fun m hm=>h m (List.mem_cons_of_mem _ hm)
  have hn:=h n (List.mem_cons_self ..);have e:selS (n::l) id=(if n.sub=id then n.diff else[])++selS l id:=rfl;have:(if n.sub=id then n.diff else[]).length≤20:=by
   split
   ·exact hn
   ·simp
  rw[e,Zu,List.length_cons];omega
def NtB (D:Nat)(n:Nt):Prop:=(∀p∈n.diff,(∀x∈p.1.1,dep x≤D∧bdV x)∧p.1.1.length≤1000000000000000∧i64 p.2)∧n.diff.length≤1000000000000000
theorem sel_bag {D:Nat}{l:List Nt}(id:Int)(hn:∀n∈l,NtB D n)(h20:l.length≤20)(hok:∀n∈l,OkN n):BagB D (selS l id):=by
 have hm:∀p∈selS l id,∃n∈l,p∈n.diff:=fun p hp=>by
  obtain⟨n,h1,h2⟩:=List.mem_flatMap.1 hp;split at h2
  ·exact⟨n,h1,h2⟩
  ·cases h2
 refine⟨fun p hp=>?_,fun p hp=>?_,?_⟩
 ·obtain⟨n,h1,h2⟩:=hm p hp;have hl:=(hok n h1).2 p h2;unfold litR at hl;have hk:=zk_light (of_decide_eq_true hl) (by omega);refine⟨?_,hk,((hn n h1).1 p h2).1⟩;have:=zkL_len p.1.1;unfold zkR at hk;simp only[Zu,List.length_cons]at hk;omega
 ·obtain⟨n,h1,h2⟩:=hm p hp;exact((hn n h1).1 p h2).2.2
 ·have:=selS_len id l fun n h=>(hok n h).1
  omega
theorem ss_pure (D:Nat)(l:List Nt)(id:Int)(z:Bool)(hl:l.length≤1000000000000000)(hn:∀n∈l,NtB D n):
 PureOK cx 3 [.ls 2 (ntR l) z,.sc (.int .i64 id)] (.sc (.bool true)):=by
 have hK:∀(f:FuncId) (ys:List AV) (t:Bool) (h:Hp),f≠4→(match aT f ys with|some q=>some (q,h)|none=>callN cx (3*D+30) t f ys h)=callN cx (3*D+30) t f ys h:=fun f ys t h hf=>by
  unfold aT;rw[if_neg hf]
 obtain⟨h',hw⟩:=ss_walk (fun b g ys h=>match aT g ys with|some q=>some (q,h)|none=>callN cx (3*D+30) b g ys h) l id z (normS (selS l id)) hl (fun n h=>(hn n h).2)
  (fun t h=>rfl)
  (fun n h1 p h2 t h c=>by
   rw[hK _ _ t _ (by decide)];refine light_own (M:=3*D+29) (v:=litR p.1) (x:= .ls 5 (encL p.1.1) false) ⟨5,encL p.1.1,false,rfl⟩ (fun t h=>?_) t h c;have:=r04_LightR (2*D+28) D t p.1.1 false h ((hn n h1).1 p h2).2.1 ((hn n h1).1 p h2).1;rw[show 2*D+28+D+2=3*D+29+1 by omega]at this;exact this)
  (fun h20 hok t h=>by
   rw[hK _ _ t _ (by decide)];have:=p_Sum (D+17) D t l id z h (by omega) (sel_bag id hn h20 hok)
   rwa [show D+17+2*D+13=3*D+30 by omega]at this)
  (fun h20 hok t h=>by
   rw[hK _ _ t _ (by decide)];have:=r49_Sum 20 D t l id z h (by omega) (sel_bag id hn h20 hok)
   rwa [show 20+3*D+10=3*D+30 by omega]at this)
  (fun h20 hok t h=>by
   rw[hK _ _ t _ (by decide)];have hB:=sel_bag id hn h20 hok;have:=r_Norm 21 D t (normS (selS l id)) false h (normS_B hB);rw[show 21+3*D+9=3*D+30 by omega]at this;rw[this];unfold normS;rw[norm_norm ordR_tot])
  (fun h20 hok t h=>by
   rw[hK _ _ t _ (by decide)];have hB:=sel_bag id hn h20 hok;have:=l49_same 21 D t (normS (selS l id)) h (normS_B hB)
   rwa [show 21+3*D+9=3*D+30 by omega]at this)
 refine pure_of_tab cx_all (n:=3*D+30) (T:=aT) aT_ok (r0:= .sc (.bool true)) (h':=h') ?_ (m:=8) rfl;rw[body1_of (fi:=⟨Tryz.f3.ntmps,(Tryz.f3.body).getD .skip,[.tmp 4]⟩) (by kernel_rfl) (by kernel_rfl) (by simp[Tryz.f3])];exact hw
end Go.Proofs.YtiefabpageilbaaGreatDoor
