/- The abstract evaluator, part 6: slices, append, copy, calls; every operation. -/
import Derived.Test.YtmocfjnklfpnbaaGreatDoorP5
import Derived.Test.YtmocfjnklfpnbaaGreatDoorP4
set_option linter.all false
namespace Go.Ae
open Go
section ops
variable {C : Cx} {w : World} {X : Nat → Prop} {ρ : Nat → Nat} {h : Hp} {a : Act} {fr : List AV} {o : Oper}
theorem bound_run (hs:Sim C.G w X ρ h)(hf:RF w (tot X ρ h) ρ h.length a.tmps fr){x:Operand}{i y:Nat}(hn:natOf (ev C fr x)=some i)(hle:i≤y)(code:BoundsCode):(Instr.sliceBound (a.eval x) y code).run C.P w= .ok i w:=by
 obtain⟨k,j,hj,hj0,hjn⟩:=natOf_inv (ev_rp hs hf x) hn;have hc:0≤j∧j≤(y:Int):=by omega
 simp only[Instr.sliceBound,hj,asIntOf,Sem.run_bind,Sem.run_pure,Result.andThen_ok,hc,and_self,if_true,hjn]
theorem bounds_run (hs:Sim C.G w X ρ h)(hf:RF w (tot X ρ h) ρ h.length a.tmps fr){lo hi:Option Operand}{l hh len cap:Nat}(hl:boundA 0 (lo.map (ev C fr))=some l)(hhi:boundA len (hi.map (ev C fr))=some hh)
 (h1:l≤hh) (h2:hh≤cap):(Instr.sliceBounds true len cap (lo.map a.eval) (hi.map a.eval) none).run C.P w= .ok (l,hh,cap) w:=by
 cases hi with
 |
  none=>
  simp only[Option.map_none,boundA,Zc]at hhi;subst hhi;cases lo with
  |
   none=>
   simp only[Option.map_none,boundA,Zc]at hl;subst hl;simp only[Instr.sliceBounds,Option.map_none,Sem.run_bind,Sem.run_pure,Result.andThen_ok]
  |
   some x=>
   simp only[Option.map_some,boundA]at hl;simp only[Instr.sliceBounds,Option.map_none,Option.map_some,Sem.run_bind,Sem.run_pure,Result.andThen_ok,bound_run hs hf hl h1]
 |
  some y=>
  simp only[Option.map_some,boundA]at hhi;cases lo with
  |
   none=>
   simp only[Option.map_none,boundA,Zc]at hl;subst hl;simp only[Instr.sliceBounds,Option.map_none,Option.map_some,Sem.run_bind,Sem.run_pure,Result.andThen_ok,bound_run hs hf hhi h2]
  |
   some x=>
   simp only[Option.map_some,boundA]at hl;simp only[Instr.sliceBounds,Option.map_some,Sem.run_bind,Sem.run_pure,Result.andThen_ok,bound_run hs hf hhi h2,bound_run hs hf hl h1]
theorem bounds3_run (hs:Sim C.G w X ρ h)(hf:RF w (tot X ρ h) ρ h.length a.tmps fr){lo:Option Operand}{hi mx:Operand}{l hh m len cap:Nat}(hl:boundA 0 (lo.map (ev C fr))=some l)(hlm:l≤hh)(hhi:natOf (ev C fr hi)=some hh)
 (hhm:hh≤m) (hm:natOf (ev C fr mx)=some m) (h2:m≤cap):(Instr.sliceBounds true len cap (lo.map a.eval) (some (a.eval hi)) (some (a.eval mx))).run C.P w= .ok (l,hh,m) w:=by
 cases lo with
 |
  none=>
  simp only[Option.map_none,boundA,Zc]at hl;subst hl;simp only[Instr.sliceBounds,Option.map_none,Sem.run_bind,Sem.run_pure,Result.andThen_ok,bound_run hs hf hm h2,bound_run hs hf hhi hhm]
 |
  some x=>
  simp only[Option.map_some,boundA]at hl;simp only[Instr.sliceBounds,Option.map_some,Sem.run_bind,Sem.run_pure,Result.andThen_ok,bound_run hs hf hm h2,bound_run hs hf hhi hhm,bound_run hs hf hl hlm]
theorem ls_part {X:Nat→Prop}{b o' cap sz l hh m:Nat}{rows:List (List AV)}{us:Nat→Nat→Value}{cur:Array Value}{t0:TypeId}{fz:Nat × Nat}(c1:¬X b)(c2:w.heap[b]?=some (Obj.cells cur t0 fz))(c5:cap≤maxLen)
 (c7:∀(i:Nat) (row:List AV),rows[i]?=some row→row.length=sz)
 (c8:∀(i:Nat) (row:List AV) (j:Nat) (x:AV),rows[i]?=some row→row[j]?=some x→cur[o'+i*sz+j]?=some (us i j)∧Value.oneCell' (us i j)=true∧Ri w X (us i j) x)
 (h1:l≤hh) (h2:hh≤rows.length) (h3:hh≤m) (h4:m≤cap) (z:Bool) (hz:z=true→m=hh) (ad:Option Addr) (had:ad=if m=l then some ⟨b,o',none⟩else some ⟨b,o'+l*sz,none⟩):
 Ri w X (.slice ad (hh-l) (m-l)) (.ls sz ((rows.drop l).take (hh-l)) z):=by
 have hlen':((rows.drop l).take (hh-l)).length=hh-l:=by simp;omega
 by_cases hlh:l=hh
 ·subst hlh;simp only[Nat.sub_self,List.take_zero];exact .le _ _ _ _ (by omega) (fun q=>by have:=hz q;omega)
 ·have hml:¬m=l:=by omega
  rw[if_neg hml]at had;subst had;have hget:∀(k:Nat) (row:List AV),((rows.drop l).take (hh-l))[k]?=some row→rows[l+k]?=some row:=by
   intro k row hr;rw[List.getElem?_take]at hr;split at hr
   ·rwa [List.getElem?_drop]at hr
   ·cases hr
  exact .ls b (o'+l*sz) (hh-l) (m-l) sz ((rows.drop l).take (hh-l)) z (fun k j=>us (l+k) j) cur t0 fz c1 c2 hlen' (by omega) (by omega)
   (fun q=>by have:=hz q;omega) (fun k row hr=>c7 _ _ (hget k row hr))
   (fun k row j x hr hx=>by
    have:=c8 (l+k) row j x (hget k row hr) hx;refine⟨?_,this.2.1⟩;rw[←this.1]
    congr 1
    rw[Nat.add_mul];omega)
   (fun k row j x hr hx=>(c8 (l+k) row j x (hget k row hr) hx).2.2)
theorem g_slice (hs:Sim C.G w X ρ h)(hf:RF w (tot X ρ h) ρ h.length a.tmps fr){t:TypeId}{x:Operand}{lo hi mx:Option Operand}(hop:o.op= .slice t x lo hi mx){i:Ti}(hi':tiOf C.P t=some i)
 {sz by':Nat} {ag:Bool} {ez:List Value} (hk:i.kd= .slice sz ag by' ez) (hz:szOk sz (ev C fr x)=true) {y:AV} (hy:sliceA (ev C fr x) (lo.map (ev C fr)) (hi.map (ev C fr)) (mx.map (ev C fr))=some y):
 Good C o a w X ρ h y h:=by
 obtain⟨d,info,z,h1,h2,h3,h4,h5,h6,h7,h8,h9⟩:=tiOf_spec hi';rw[hk]at h4;obtain⟨e,ei,ed,ez',rfl,k1,k2,k3,rfl,k5,k6,k7,k8,k9,k10⟩:=kdOf_slice h4;have e1:=ev_rp hs hf x;have hrun:∀(base:Option Addr) (len cap l hh m:Nat),a.eval x= .slice base len cap→(Instr.sliceBounds true len cap (lo.map a.eval) (hi.map a.eval) (mx.map a.eval)).run C.P w= .ok (l,hh,m) w→
  (execOp a.eval o).run C.P w= .ok (.value (.slice (if m=l then base else base.map (·.add (l*ei.size))) (hh-l) (m-l))) w:=by
  intro base len cap l hh m hq hb;simp only[execOp,hop,Instr.sliceAt,Instr.slice,run_underlying h1,Sem.run_bind,Result.andThen_ok,hq,hb,run_size k1,Sem.run_pure]
 unfold sliceA at hy;split at hy
 case h_2=>cases hy
 rename_i len hlen;split at hy
 case h_3=>cases hy
 ·rename_i l hh hl hhi hmx;have hmx':mx=none:=by cases mx<;>simp_all
  subst hmx';split at hy
  case isFalse=>cases hy
  rename_i hc;cases hx:ev C fr x with
  |
   ls sz' rows zz=>
   rw[hx]at hy e1 hz hlen;simp only[szOk,beq_iff_eq]at hz;subst hz;simp only[lenA,Zc]at hlen;subst hlen;simp only[Zc]at hy;subst hy;rcases e1.ls_inv.ls_cases with⟨rfl,b,cap,hq,c1,c2⟩|⟨b,o',cap,us,cur,t0,fz,hq,c1,c2,c4,c5,c6,c7,c8⟩
   ·simp only[List.length_nil]at hc hhi⊢;have hb:=bounds_run hs hf hl hhi hc.1 (cap:=cap) (by omega);have hl0:l=0:=by omega
    have hh0:hh=0:=by omega
    subst hl0 hh0;refine good_same hs (hrun _ _ _ _ _ _ hq hb) (.im ?_);simp only[List.drop_nil,List.take_nil];exact .le _ _ _ _ (by omega) (fun hz=>by simp at hz;have:=c2 hz;omega)
   ·have hb:=bounds_run hs hf hl hhi hc.1 (cap:=cap) (by omega);refine good_same hs (hrun _ _ _ _ _ _ hq hb) (.im ?_);refine ls_part c1 c2 c5 c7 c8 hc.1 hc.2 (by omega) (Nat.le_refl _) _ (fun q=>?_) _ ?_
    ·simp only[Zh,beq_iff_eq]at q;have:=c6 q.1;omega
    ·split<;>simp[add_lit]
  |
   sl id sz' off len' k=>
   rw[hx]at hy e1 hz hlen;simp only[szOk,beq_iff_eq]at hz;subst hz;simp only[lenA,Zc]at hlen;subst hlen;obtain⟨cap,cur,t0,fz,hq,c1,c2,c3,ck,ck',c4,c5⟩:=e1.sl_inv;have hb:=bounds_run hs hf hl hhi hc.1 (cap:=cap) (by omega);by_cases hlh:l=hh
   ·simp only[hlh,if_true,Zc]at hy;subst hy hlh;refine good_same hs (hrun _ _ _ _ _ _ hq hb) (.im ?_);simp only[Nat.sub_self];refine .le _ _ _ _ (by omega) (fun hz=>?_);simp only[Zh,beq_iff_eq]at hz;have:=ck hz.1;omega
   ·simp only[hlh,if_false]at hy;split at hy
    case isTrue=>cases hy
    rename_i hkk;simp only[Zc]at hy;subst hy;refine good_same hs (hrun _ _ _ _ _ _ hq hb) ?_;rw[if_neg (show¬cap=l by omega)];have hcl:l*ei.size+(cap-l)*ei.size=cap*ei.size:=by rw[←Nat.add_mul];congr 1;omega
    have:=Rp.sl (w:=w) (X:=tot X ρ h) (ρ:=ρ) (n:=h.length) id ei.size (off+l*ei.size) (hh-l) (cap-l) k cur t0 fz c1 c2 (by omega)
     (fun q=>by
      have:=ck q;simp only[q,Bool.true_and,bne_iff_ne,ne_eq,Decidable.not_not]at hkk;omega) (fun q=>by have:=ck' q;omega) (by omega) (by omega)
    simpa[add_lit]using this
  |_=>rw[hx]at hlen;simp[lenA]at hlen
 ·rename_i l hh m hl hhi hmx;split at hy
  case h_2=>cases hy
  rename_i m' hm';split at hy
  case isFalse=>cases hy
  rename_i hc;obtain⟨mo,rfl⟩:∃mo,mx=some mo:=by cases mx with|none=>simp at hmx|some mo=>exact⟨mo,rfl⟩
  obtain⟨ho,rfl⟩:∃ho,hi=some ho:=by cases hi with|none=>simp at hc|some ho=>exact⟨ho,rfl⟩
  simp only[Option.map_some,Zc]at hmx;subst hmx;simp only[Option.map_some,boundA]at hhi;obtain⟨hc1,hc2,hc3,_⟩:=hc;split at hy
  case isFalse=>
   simp only[Zc]at hy;subst hy;obtain⟨base,len0,cap,hq,hcap⟩:∃base len0 cap,a.eval x= .slice base len0 cap∧len≤cap:=by
    cases hx:ev C fr x with
    |
     ls sz' rows zz=>
     rw[hx]at e1 hlen;simp only[lenA,Zc]at hlen;subst hlen;rcases e1.ls_inv.ls_cases with⟨rfl,b,cap,hq,c1,c2⟩|⟨b,o',cap,us,cur,t0,fz,hq,c1,c2,c4,c5,c6,c7,c8⟩
     ·exact⟨_,_,_,hq,Nat.zero_le _⟩
     ·exact⟨_,_,_,hq,by omega⟩
    |
     sl id sz' off len' k=>
     rw[hx]at e1 hlen;simp only[lenA,Zc]at hlen;subst hlen;obtain⟨cap,cur,t0,fz,hq,c1,c2,c3,ck,ck',c4,c5⟩:=e1.sl_inv;exact⟨_,_,_,hq,by omega⟩
    |_=>rw[hx]at hlen;simp[lenA]at hlen
   have hb:=bounds3_run hs hf hl hc1 hhi hc2 hm' (len:=len0) (cap:=cap) (by omega);exact good_same hs (hrun _ _ _ _ _ _ hq hb) (.im (.ud _))
  rename_i hc2;subst hc2;cases hx:ev C fr x with
  |
   ls sz' rows zz=>
   rw[hx]at hy e1 hz hlen;simp only[szOk,beq_iff_eq]at hz;subst hz;simp only[Zc]at hy;subst hy;simp only[lenA,Zc]at hlen;subst hlen;rcases e1.ls_inv.ls_cases with⟨rfl,b,cap,hq,c1,c2⟩|⟨b,o',cap,us,cur,t0,fz,hq,c1,c2,c4,c5,c6,c7,c8⟩
   ·simp only[List.length_nil]at hc3;have hb:=bounds3_run hs hf hl hc1 hhi (Nat.le_refl _) hm' (len:=0) (cap:=cap) (by omega);refine good_same hs (hrun _ _ _ _ _ _ hq hb) (.im ?_);have hl0:l=0:=by omega
    have hh0:hh=0:=by omega
    subst hl0 hh0;simp only[List.drop_nil,List.take_nil];exact .le _ _ _ _ (by omega) (fun _=>rfl)
   ·have hb:=bounds3_run hs hf hl hc1 hhi (Nat.le_refl _) hm' (len:=rows.length) (cap:=cap) (by omega);refine good_same hs (hrun _ _ _ _ _ _ hq hb) (.im ?_);refine ls_part c1 c2 c5 c7 c8 hc1 hc3 (Nat.le_refl _) (by omega) _ (fun _=>rfl) _ ?_;split<;>simp[add_lit]
  |
   sl id sz' off len' k=>
   rw[hx]at hy e1 hz hlen;simp only[szOk,beq_iff_eq]at hz;subst hz;simp only[lenA,Zc]at hlen;subst hlen;obtain⟨cap,cur,t0,fz,hq,c1,c2,c3,ck,ck',c4,c5⟩:=e1.sl_inv;have hb:=bounds3_run hs hf hl hc1 hhi (Nat.le_refl _) hm' (len:=len') (cap:=cap) (by omega);by_cases hlh:l=hh
   ·simp only[hlh,if_true,Zc]at hy;subst hy hlh;refine good_same hs (hrun _ _ _ _ _ _ hq hb) (.im ?_);simp only[Nat.sub_self];exact .le _ _ _ _ (by simp[maxLen]) (fun _=>rfl)
   ·simp only[hlh,if_false,Zc]at hy;subst hy;refine good_same hs (hrun _ _ _ _ _ _ hq hb) ?_;rw[if_neg (show¬hh=l by omega)];have hcl:l*ei.size+(hh-l)*ei.size=hh*ei.size:=by rw[←Nat.add_mul];congr 1;omega
    have hle:hh*ei.size≤cap*ei.size:=Zx _ (by omega);have:=Rp.sl (w:=w) (X:=tot X ρ h) (ρ:=ρ) (n:=h.length) id ei.size (off+l*ei.size) (hh-l) (hh-l) true cur t0 fz c1 c2 (by omega)
     (fun _=>rfl) (fun q=>by cases q) (Nat.le_refl _) (by omega)
    simpa[add_lit]using this
  |_=>rw[hx]at hlen;simp[lenA]at hlen
theorem flatten_get {sz:Nat}(hsz:0<sz):∀(rows:List (List AV)),(∀row∈rows,row.length=sz)→∀k,rows.flatten[k]?=(rows[k/sz]?).bind (·[k % sz]?)
 | [],_,k=>by simp
 |
  row::rows,hr,k=>by
  have hl:=hr row (by simp);have ih:=flatten_get hsz rows (fun r hm=>hr r (by simp[hm]));simp only[List.flatten_cons];by_cases hk:k<sz
  ·rw[Zd (by omega),Nat.div_eq_of_lt hk,Nat.mod_eq_of_lt hk];simp
  ·rw[Zf (by omega),ih (k-row.length),hl];have h1:k/sz=(k-sz)/sz+1:=by rw[Nat.div_eq_sub_div hsz (by omega)]
   have h2:k % sz=(k-sz) % sz:=Nat.mod_eq_sub_mod (by omega);rw[h1,h2,Ye]
theorem flatten_length {sz:Nat}:∀(rows:List (List AV)),(∀row∈rows,row.length=sz)→rows.flatten.length=rows.length*sz
 | [],_=>by simp
 |
  row::rows,hr=>by
  have:=flatten_length rows (fun r hm=>hr r (by simp[hm]));simp only[List.flatten_cons,Zu,List.length_cons,Nat.add_mul,hr row (by simp),this];omega
theorem news_rel (hs:Sim C.G w X ρ h)(hf:RF w (tot X ρ h) ρ h.length a.tmps fr){x:Operand}{sz m:Nat}{news:List AV}(hsz:0<sz)(hz:szOk sz (ev C fr x)=true)(hn:newsOf h (ev C fr x)=some (m,news)):
 ∃base cap,a.eval x= .slice base m cap∧news.length=m*sz∧(m=0∨∃(b o':Nat) (vals:List Value),base=some ⟨b,o',none⟩∧vals.length=m*sz∧
  (∀(j:Nat) (u:Value),vals[j]?=some u→w.cell? ((⟨b,o',none⟩:Addr).add j)=some u)∧(∀u∈vals,u.oneCell'=true)∧∀(k:Nat) (y:AV),news[k]?=some y→Rp w (tot X ρ h) ρ h.length (vals.getD k undef) y):=by
 have e1:=ev_rp hs hf x;unfold newsOf at hn;split at hn
 ·rename_i hx;simp only[Zc,Zg]at hn;obtain⟨rfl,rfl⟩:=hn;rw[hx]at e1;exact⟨none,0,e1.sc_inv.1,by simp,.inl rfl⟩
 ·rename_i sz' rows zz hx;rw[hx]at e1 hz;simp only[szOk,beq_iff_eq]at hz;subst hz;simp only[Zc,Zg]at hn;obtain⟨rfl,rfl⟩:=hn;rcases e1.ls_inv.ls_cases with⟨rfl,b,cap,hq,c1,c2⟩|⟨b,o',cap,us,cur,t0,fz,hq,c1,c2,c4,c5,c6,c7,c8⟩
  ·exact⟨b,cap,hq,by simp,.inl rfl⟩
  ·have hall:∀row∈rows,row.length=sz':=fun row hm=>by
    obtain⟨k,hk,rfl⟩:=List.getElem_of_mem hm;exact c7 k _ (Zb hk)
   have hfg:=flatten_get hsz rows hall;have hlen:=flatten_length rows hall;refine⟨_,cap,hq,hlen,.inr ⟨b,o',(List.range (rows.length*sz')).map fun k=>us (k/sz') (k % sz'),rfl,by simp,?_,?_,?_⟩⟩
   ·intro j u hj;simp only[Zs,Ze]at hj;obtain⟨k,hk,rfl⟩:=hj;have hjl:j<rows.length*sz':=by have:=(Za.1 hk).1;simpa using this
    rw[List.getElem?_range hjl]at hk;cases hk;have h1:j/sz'<rows.length:=by rw[Nat.div_lt_iff_lt_mul hsz];exact hjl
    have h2:j % sz'< (rows[j/sz']).length:=by rw[c7 _ _ (Zb h1)];exact Nat.mod_lt _ hsz
    have:=c8 (j/sz') _ (j % sz') _ (Zb h1) (Zb h2);rw[add_lit,cell_at c2,←this.1]
    congr 1
    have:=Nat.div_add_mod j sz';rw[Nat.mul_comm]at this;omega
   ·intro u hu;simp only[Yh,List.mem_range]at hu;obtain⟨j,hjl,rfl⟩:=hu;have h1:j/sz'<rows.length:=by rw[Nat.div_lt_iff_lt_mul hsz];exact hjl
    have h2:j % sz'< (rows[j/sz']).length:=by rw[c7 _ _ (Zb h1)];exact Nat.mod_lt _ hsz
    exact(c8 (j/sz') _ (j % sz') _ (Zb h1) (Zb h2)).2.1
   ·intro k y hk;have hkl:k<rows.length*sz':=by have:=(Za.1 hk).1;rwa [hlen]at this
    rw[hfg]at hk;simp only[Yg]at hk;obtain⟨row,hr,hy⟩:=hk;have:=c8 _ row _ y hr hy;have e2:((List.range (rows.length*sz')).map fun k=>us (k/sz') (k % sz')).getD k undef=us (k/sz') (k % sz'):=by simp[List.getD,List.getElem?_range hkl]
    rw[e2];exact .im this.2.2
 ·rename_i id sz' off len k hx;rw[hx]at e1 hz;simp only[szOk,beq_iff_eq]at hz;subst hz;split at hn
  case h_2=>cases hn
  rename_i cs hid;split at hn
  case isFalse=>cases hn
  rename_i hle;simp only[Zc,Zg]at hn;obtain⟨rfl,rfl⟩:=hn;obtain⟨cap,cur,t0,fz,hq,c1,c2,c3,_,_,c4,c5⟩:=e1.sl_inv;obtain⟨cur',t1,fz',us,d1,d3⟩:=hs.cells hid;refine⟨_,cap,hq,by simp;omega,.inr ⟨ρ id,off,(List.range (len*sz')).map fun k=>us (off+k),rfl,by simp,?_,?_,?_⟩⟩
  ·intro j u hj;simp only[Zs,Ze]at hj;obtain⟨k,hk,rfl⟩:=hj;have hjl:j<len*sz':=by have:=(Za.1 hk).1;simpa using this
   rw[List.getElem?_range hjl]at hk;cases hk;rw[add_lit,cell_at d1];exact(d3 (off+j) _ (Zb (by omega))).1
  ·intro u hu;simp only[Yh,List.mem_range]at hu;obtain⟨j,hjl,rfl⟩:=hu;exact(d3 (off+j) _ (Zb (by omega))).2.1
  ·intro k y hk;rw[List.getElem?_take]at hk;split at hk
   ·rename_i hkl;rw[List.getElem?_drop]at hk;have e2:((List.range (len*sz')).map fun k=>us (off+k)).getD k undef=us (off+k):=by simp[List.getD,List.getElem?_range hkl]
    rw[e2];exact(d3 (off+k) y hk).2.2
   ·cases hk
 ·cases hn
end ops
theorem Rp.anti {w:World}{X X':Nat→Prop}{ρ:Nat→Nat}{n:Nat}(hX:∀b,X' b→X b){v:Value}{x:AV}(h:Rp w X ρ n v x):Rp w X' ρ n v x:=by
 induction h with
 |im hi=>exact .im (hi.anti hX)
 |sl id sz off len cap k cur t fz h1 h2 h3 h4 h5 h6 h7=>exact .sl id sz off len cap k cur t fz h1 h2 h3 h4 h5 h6 h7
 |pt id off h1=>exact .pt id off h1
 |mp id h1=>exact .mp id h1
 |fn f us xs h1 h2 ih=>exact .fn f us xs h1 ih
 |ag us xs h1 h2 h3 ih=>exact .ag us xs h1 h2 ih
 |tp us xs h1 h2 ih=>exact .tp us xs h1 ih
theorem Sim.outc {G:Nat→Option (List Value)}{w:World}{X:Nat→Prop}{ρ:Nat→Nat}{h:Hp}(hs:Sim G w X ρ h){id:Nat}{cs:List AV}(hid:rowOf h id=some cs):¬X (ρ id):=by
 unfold rowOf at hid;split at hid
 ·rename_i cs' hi;exact hs.out id ⟨_,hi,rfl⟩
 ·rename_i cs' hi;exact fun hx=>hs.cold id _ hi (.inl hx)
 ·rename_i cs' hi;exact hs.out id ⟨_,hi,rfl⟩
 ·cases hid
theorem snap_sound {G:Nat→Option (List Value)}{w:World}{X:Nat→Prop}{ρ:Nat→Nat}{h:Hp}(hs:Sim G w X ρ h):∀(n:Nat) (v:Value) (x y:AV),Rp w (tot X ρ h) ρ h.length v x→snap h n x=some y→Ri w X v y:=by
 have base:∀{v:Value} {x:AV},Rp w (tot X ρ h) ρ h.length v x→(match x with| .sc _| .ls .. | .rp .. | .oc=>true|_=>false)=true→Ri w X v x:=by
  intro v x hr hx;cases hr with
  |im hi=>exact hi.anti fun b=> .inl
  |_=>simp at hx
 intro n
 induction n with
 |
  zero=>
  intro v x y hr hy;cases x<;>simp only[snap,Zc]at hy<;>first|(subst hy;exact base hr rfl)|cases hy
 |
  succ n ih=>
  intro v x y hr hy;cases x with
  |sc u=>simp only[snap,Zc]at hy;subst hy;exact base hr rfl
  |ls sz rows z=>simp only[snap,Zc]at hy;subst hy;exact base hr rfl
  |rp row j=>simp only[snap,Zc]at hy;subst hy;exact base hr rfl
  |oc=>simp only[snap,Zc]at hy;subst hy;exact base hr rfl
  |
   pt id off=>
   simp only[snap]at hy;split at hy
   case h_2=>cases hy
   rename_i cs hid;simp only[Ze]at hy;obtain⟨ys,hys,rfl⟩:=hy;obtain⟨rfl,_⟩:=hr.pt_inv;obtain⟨cur,t,fz,us,d1,d3⟩:=hs.cells hid;obtain⟨m1,m2⟩:=mapM_get hys;have hcell:∀(k:Nat) (y:AV),ys[k]?=some y→cur[k]?=some (us k)∧(us k).oneCell'=true∧Ri w X (us k) y:=by
    intro k y hk;have hkl:k<cs.length:=by have:=(Za.1 hk).1;omega
    obtain⟨b,hb,hsn⟩:=m2 k _ (Zb hkl);rw[hk]at hb;cases hb;have h3:=d3 k _ (Zb hkl);exact⟨h3.1,h3.2.1,ih _ _ _ h3.2.2 hsn⟩
   have:=Ri.rp (w:=w) (X:=X) (ρ id) 0 off ys us cur t fz (hs.outc hid) d1 (fun k y hk=>by rw[Nat.zero_add];exact⟨(hcell k y hk).1,(hcell k y hk).2.1⟩) (fun k y hk=>(hcell k y hk).2.2);simpa using this
  |
   ag xs=>
   simp only[snap,Ze]at hy;obtain⟨ys,hys,rfl⟩:=hy;obtain⟨us,rfl,h1,h2,h3⟩:=hr.ag_inv;obtain⟨m1,m2⟩:=mapM_get hys;refine .ag us ys (by omega) h2 fun k y hk=>?_
   have hkl:k<xs.length:=by have:=(Za.1 hk).1;omega
   obtain⟨b,hb,hsn⟩:=m2 k _ (Zb hkl);rw[hk]at hb;cases hb;exact ih _ _ _ (h3 k _ (Zb hkl)) hsn
  |
   tp xs=>
   simp only[snap,Ze]at hy;obtain⟨ys,hys,rfl⟩:=hy;obtain⟨us,rfl,h1,h3⟩:=hr.tp_inv;obtain⟨m1,m2⟩:=mapM_get hys;refine .tp us ys (by omega) fun k y hk=>?_
   have hkl:k<xs.length:=by have:=(Za.1 hk).1;omega
   obtain⟨b,hb,hsn⟩:=m2 k _ (Zb hkl);rw[hk]at hb;cases hb;exact ih _ _ _ (h3 k _ (Zb hkl)) hsn
  |
   fn f xs=>
   simp only[snap,Ze]at hy;obtain⟨ys,hys,rfl⟩:=hy;obtain⟨us,rfl,h1,h3⟩:=hr.fn_inv;obtain⟨m1,m2⟩:=mapM_get hys;refine .fn f us ys (by omega) fun k y hk=>?_
   have hkl:k<xs.length:=by have:=(Za.1 hk).1;omega
   obtain⟨b,hb,hsn⟩:=m2 k _ (Zb hkl);rw[hk]at hb;cases hb;exact ih _ _ _ (h3 k _ (Zb hkl)) hsn
  |
   sl id sz off len kk=>
   simp only[snap]at hy;split at hy
   case h_2=>cases hy
   rename_i cs hid;split at hy
   case isFalse=>cases hy
   rename_i hle;simp only[Ze]at hy;obtain⟨ys,hys,rfl⟩:=hy;obtain⟨cap,cur0,t0,fz,rfl,c1,c2,c3,_,_,c4,c5⟩:=hr.sl_inv;obtain⟨cur,t1,fz1,us,d1,d3⟩:=hs.cells hid;obtain⟨m1,m2⟩:=mapM_get hys;have hylen:ys.length=len*sz:=by rw[m1];simp;omega
   have hrow:∀(i:Nat) (row:List AV),((List.range len).map fun i=>(ys.drop (i*sz)).take sz)[i]?=some row→i<len∧row=(ys.drop (i*sz)).take sz:=by
    intro i row hr';simp only[Zs,Ze]at hr';obtain⟨k,hk,rfl⟩:=hr';have hil:i<len:=by have:=(Za.1 hk).1;simpa using this
    rw[List.getElem?_range hil]at hk;cases hk;exact⟨hil,rfl⟩
   have hcell:∀(i:Nat) (row:List AV) (j:Nat) (x:AV),((List.range len).map fun i=>(ys.drop (i*sz)).take sz)[i]?=some row→row[j]?=some x→j<sz∧i*sz+j<len*sz∧ys[i*sz+j]?=some x:=by
    intro i row j x hr' hx;obtain⟨hil,rfl⟩:=hrow i row hr';rw[List.getElem?_take]at hx;split at hx
    ·rename_i hj;rw[List.getElem?_drop]at hx;refine⟨hj,?_,hx⟩;have:=(Za.1 hx).1;omega
    ·cases hx
   have hval:∀(k:Nat) (y:AV),ys[k]?=some y→k<len*sz→cur[off+k]?=some (us (off+k))∧(us (off+k)).oneCell'=true∧Ri w X (us (off+k)) y:=by
    intro k y hk hkl;have hcs:((cs.drop off).take (len*sz))[k]?=cs[off+k]?:=by
     rw[List.getElem?_take,if_pos hkl,List.getElem?_drop]
    have hkc:off+k<cs.length:=by omega
    obtain⟨b,hb,hsn⟩:=m2 k cs[off+k] (by rw[hcs,Zb hkc]);rw[hk]at hb;cases hb;have h3:=d3 (off+k) _ (Zb hkc);exact⟨h3.1,h3.2.1,ih _ _ _ h3.2.2 hsn⟩
   refine .ls (ρ id) off len cap sz _ false (fun i j=>us (off+(i*sz+j))) cur t1 fz1 (hs.outc hid) d1 (by simp) c4 c5 (fun h=>by cases h) ?_ ?_ ?_
   ·intro i row hr';obtain⟨hil,rfl⟩:=hrow i row hr';have:(i+1)*sz≤len*sz:=Zx _ hil;rw[Nat.add_mul]at this;simp;omega
   ·intro i row j x hr' hx;obtain⟨_,q2,q3⟩:=hcell i row j x hr' hx;have:=hval _ _ q3 q2;exact⟨by rw[←this.1];congr 1;omega,this.2.1⟩
   ·intro i row j x hr' hx;obtain⟨_,q2,q3⟩:=hcell i row j x hr' hx;exact(hval _ _ q3 q2).2.2
  |_=>simp[snap]at hy
theorem rowOf_mask {ids:List Nat}{h:Hp}{id:Nat}{cs:List AV}(hr:rowOf (mask ids h) id=some cs):rowOf h id=some cs:=by
 unfold rowOf at hr⊢;have key:∀b,(mask ids h)[id]?=some b→b≠ .dead→h[id]?=some b:=by
  intro b hb hd;unfold mask at hb;simp only[Zs,Ze]at hb;obtain⟨k,hk,hb⟩:=hb;have hkl:id<h.length:=by have:=(Za.1 hk).1;simpa using this
  rw[List.getElem?_range hkl]at hk;cases hk;split at hb
  ·simp only[List.getD,Zb hkl,Option.getD_some]at hb;rw[Zb hkl,hb]
  ·exact absurd hb.symm hd
 split at hr
 ·rename_i cs' hi;rw[key _ hi (by simp)];exact hr
 ·rename_i cs' hi;rw[key _ hi (by simp)];exact hr
 ·rename_i cs' hi;rw[key _ hi (by simp)];exact hr
 ·cases hr
theorem snap_mask {ids:List Nat}{h:Hp}:∀(n:Nat) (x y:AV),snap (mask ids h) n x=some y→snap h n x=some y:=by
 intro n
 induction n with
 |zero=>intro x y hs;cases x<;>simp_all [snap]
 |
  succ n ih=>
  have many:∀(xs ys:List AV),xs.mapM (snap (mask ids h) n)=some ys→xs.mapM (snap h n)=some ys:=by
   intro xs
   induction xs with
   |nil=>intro ys hm;simpa using hm
   |
    cons x xs ihx=>
    intro ys hm;simp only[Zo,Option.bind_eq_bind,Yg,Option.pure_def,Zc]at hm⊢;obtain⟨b,hb,bs,hbs,rfl⟩:=hm;exact⟨b,ih _ _ hb,bs,ihx _ hbs,rfl⟩
  intro x y hs;cases x with
  |sc u=>simpa[snap]using hs
  |ls sz rows z=>simpa[snap]using hs
  |rp row j=>simpa[snap]using hs
  |oc=>simpa[snap]using hs
  |
   pt id off=>
   simp only[snap]at hs⊢;split at hs
   case h_2=>cases hs
   rename_i cs hid;rw[rowOf_mask hid];simp only[Ze]at hs⊢;obtain⟨ys,hys,rfl⟩:=hs;exact⟨ys,many _ _ hys,rfl⟩
  |
   sl id sz off len k=>
   simp only[snap]at hs⊢;split at hs
   case h_2=>cases hs
   rename_i cs hid;rw[rowOf_mask hid];simp only;split at hs
   case isFalse=>cases hs
   rename_i hle;rw[if_pos hle];simp only[Ze]at hs⊢;obtain⟨ys,hys,rfl⟩:=hs;exact⟨ys,many _ _ hys,rfl⟩
  |
   ag xs=>
   simp only[snap,Ze]at hs⊢;obtain⟨ys,hys,rfl⟩:=hs;exact⟨ys,many _ _ hys,rfl⟩
  |
   tp xs=>
   simp only[snap,Ze]at hs⊢;obtain⟨ys,hys,rfl⟩:=hs;exact⟨ys,many _ _ hys,rfl⟩
  |
   fn f xs=>
   simp only[snap,Ze]at hs⊢;obtain⟨ys,hys,rfl⟩:=hs;exact⟨ys,many _ _ hys,rfl⟩
  |_=>simp[snap]at hs
theorem freeze_get {ids:List Nat}{h h':Hp}(hz:freeze ids h=some h'):h'.length=h.length∧∀(i:Nat) (b':Blk),h'[i]?=some b'→
 (i∉ids∧h[i]?=some b')∨(i∈ids∧((∃cs cs',h[i]?=some (.row cs)∧cs.mapM (snap (mask ids h) 8)=some cs'∧b'= .ice cs')∨(h[i]?=some b'∧liveB b'=false))):=by
 unfold freeze at hz;obtain⟨m1,m2⟩:=mapM_get hz;have hl:h'.length=h.length:=by rw[m1];simp
 refine⟨hl,fun i b' hi=>?_⟩;have hil:i<h.length:=by have:=(Za.1 hi).1;omega
 obtain⟨b,hb,hf⟩:=m2 i i (by rw[List.getElem?_range hil]);rw[hi]at hb;cases hb;split at hf
 ·rename_i hc;have hmem:i∈ids:=by simpa using hc
  right;refine⟨hmem,?_⟩;split at hf
  ·rename_i cs hh;simp only[Ze]at hf;obtain⟨cs',hcs,rfl⟩:=hf;exact .inl ⟨cs,cs',hh,hcs,rfl⟩
  ·rename_i cs hh;cases hf;exact .inr ⟨hh,rfl⟩
  ·rename_i hh;cases hf;exact .inr ⟨hh,rfl⟩
  ·cases hf
 ·rename_i hc;exact .inl ⟨by simpa using hc,hf⟩
theorem freeze_sound {G:Nat→Option (List Value)}{w:World}{X:Nat→Prop}{ρ:Nat→Nat}{h h':Hp}{ids:List Nat}(hs:Sim G w X ρ h)(hz:freeze ids h=some h'):
 Ext G w X ρ h w ρ h'∧∀(n:Nat) (v:Value) (x y:AV),Rp w (tot X ρ h) ρ h.length v x→snap (mask ids h) n x=some y→Ri w (tot X ρ h') v y:=by
 obtain⟨hl,hg⟩:=freeze_get hz;have hlive:∀i,live h' i→live h i∧i∉ids:=by
  rintro i ⟨b,hi,hb⟩;rcases hg i b hi with⟨h1,h2⟩|⟨_,⟨cs,cs',_,_,rfl⟩|⟨_,h3⟩⟩
  ·exact⟨⟨b,h2,hb⟩,h1⟩
  ·cases hb
  ·rw[h3]at hb;cases hb
 have hml:(mask ids h).length=h.length:=by simp[mask]
 have hmk:∀(i:Nat) (b:Blk),(mask ids h)[i]?=some b→b≠ .dead→h[i]?=some b∧i∈ids:=by
  intro i b hb hd;unfold mask at hb;simp only[Zs,Ze]at hb;obtain⟨k,hk,hb⟩:=hb;have hkl:i<h.length:=by have:=(Za.1 hk).1;simpa using this
  rw[List.getElem?_range hkl]at hk;cases hk;split at hb
  ·rename_i hc;simp only[List.getD,Zb hkl,Option.getD_some]at hb;rw[Zb hkl,hb];exact⟨rfl,by simpa using hc⟩
  ·exact absurd hb.symm hd
 have hmlive:∀i,live (mask ids h) i→live h i∧i∈ids:=by
  rintro i ⟨b,hi,hb⟩;have:=hmk i b hi (fun e=>by subst e;cases hb);exact⟨⟨b,this.1,hb⟩,this.2⟩
 have hsub:∀b,tot (tot X ρ h') ρ (mask ids h) b→tot X ρ h b:=by
  rintro b ((hx|⟨i,hi,e⟩)|⟨i,hi,e⟩)
  ·exact .inl hx
  ·exact .inr ⟨i,(hlive i hi).1,e⟩
  ·exact .inr ⟨i,(hmlive i hi).1,e⟩
 have hsm:Sim G w (tot X ρ h') ρ (mask ids h):=by
  refine⟨?_,fun g row hgr=>?_,fun i j hi hj=>hs.inj i j (hmlive i hi).1 (hmlive j hj).1,?_,?_,?_⟩
  ·rintro b (hx|⟨i,hi,e⟩)
   ·exact hs.xlt b hx
   ·rw[←e];exact hs.lt (hlive i hi).1
  ·obtain⟨h1,h2⟩:=hs.glob g row hgr;exact⟨fun hh=>h1 (hsub g hh),h2⟩
  ·rintro i hi (hx|⟨j,hj,e⟩)
   ·exact hs.out i (hmlive i hi).1 hx
   ·have:=hs.inj j i (hlive j hj).1 (hmlive i hi).1 e;subst this;exact(hlive j hj).2 (hmlive j hi).2
  ·intro i cs hi hh;exact hs.cold i cs (hmk i _ hi (by simp)).1 (hsub _ hh)
  ·intro i b hi;by_cases hd:b= .dead
   ·subst hd;trivial
   ·have hb:=hs.blk i b (hmk i b hi hd).1;cases b with
    |dead=>exact absurd rfl hd
    |
     row cs=>
     obtain⟨cur,t,fz,us,h1,hf,h2,h3⟩:=hb;exact⟨cur,t,fz,us,h1,hf,h2,fun k x hk=>⟨(h3 k x hk).1,(h3 k x hk).2.1,by rw[hml];exact(h3 k x hk).2.2.anti hsub⟩⟩
    |
     map es clock=>
     obtain⟨ms,h1,h2,hnd,h3⟩:=hb;refine⟨ms,h1,h2,hnd,fun k e hk=>?_⟩;obtain⟨m,a1,a2,a3,a4,a5⟩:=h3 k e hk;exact⟨m,a1,a2,a3,a4,by rw[hml];exact a5.anti hsub⟩
    |
     ice cs=>
     obtain⟨cur,t,fz,us,h1,h3⟩:=hb;exact⟨cur,t,fz,us,h1,fun k x hk=>⟨(h3 k x hk).1,(h3 k x hk).2.1,(h3 k x hk).2.2.anti hsub⟩⟩
    |iter s p=>exact hb
    |
     raw cs=>
     obtain⟨cur,t,fz,us,h1,hf,h2,h3⟩:=hb;exact⟨cur,t,fz,us,h1,hf,h2,fun k x hk=>⟨(h3 k x hk).1,(h3 k x hk).2.1,by rw[hml];exact(h3 k x hk).2.2.anti hsub⟩⟩
 have hsnap:∀(n:Nat) (v:Value) (x y:AV),Rp w (tot X ρ h) ρ h.length v x→snap (mask ids h) n x=some y→Ri w (tot X ρ h') v y:=fun n v x y hr hy=>
  snap_sound hsm n v x y (by rw[hml];exact hr.anti hsub) hy
 refine⟨ext_less hs h' hl fun i b' hi=>?_,hsnap⟩;rcases hg i b' hi with⟨_,h2⟩|⟨_,⟨cs,cs',h1,h2,rfl⟩|⟨h1,_⟩⟩
 ·exact .inr (.inl h2)
 ·refine .inr (.inr ⟨cs',rfl,⟨_,h1,rfl⟩,?_⟩);obtain⟨cur,t,fz,us,d1,_,_,d3⟩:=hs.row i cs h1;obtain⟨m1,m2⟩:=mapM_get h2;refine⟨cur,t,fz,us,d1,fun k y hk=>?_⟩;have hkl:k<cs.length:=by have:=(Za.1 hk).1;omega
  obtain⟨b,hb,hsn⟩:=m2 k _ (Zb hkl);rw[hk]at hb;cases hb;have h3:=d3 k _ (Zb hkl);exact⟨h3.1,h3.2.1,hsnap 8 _ _ _ h3.2.2 hsn⟩
 ·exact .inr (.inl h1)
end Go.Ae
