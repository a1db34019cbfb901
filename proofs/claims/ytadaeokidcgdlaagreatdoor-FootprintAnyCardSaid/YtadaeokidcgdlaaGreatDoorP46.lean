/- 'slices.Insert' at slices of []api.Node. -/
import Derived.Test.YtadaeokidcgdlaaGreatDoorP14
import Derived.Test.YtadaeokidcgdlaaGreatDoorP43
set_option linter.unusedSimpArgs false
set_option linter.unusedVariables false
set_option maxRecDepth 100000
namespace Go.Proofs.YtadaeokidcgdlaaGreatDoor
open Go Go.Ae
theorem tyNode :∃e ei z,Tryz.prog.underlying 32=some (.slice e)∧Tryz.prog.info? e=some ei∧ei.zero=some z∧ei.size=3∧ei.bytes=56∧z.cells.size=3∧(∀w,(Go.sizeOf e).run Tryz.prog w= .ok 3 w):=by
 obtain⟨i,hi⟩:∃i,tiOf Tryz.prog 32=some i∧(match i.kd with| .slice s _ b _=>s==3 && b==56|_=>false)=true:=by
  cases h:tiOf Tryz.prog 32 with
  |none=>exact absurd h (by
   have:(tiOf Tryz.prog 32).isSome=true:=by kernel_rfl
   intro h';rw[h']at this;cases this)
  |
   some i=>
   refine⟨i,rfl,?_⟩;have:(match tiOf Tryz.prog 32 with|some i=>(match i.kd with| .slice s _ b _=>s==3 && b==56|_=>false)|none=>false)=true:=by kernel_rfl
   rw[h]at this;exact this
 obtain⟨hi,hk⟩:=hi;obtain⟨d,info,z,h1,h2,h3,h4,h5,h6,h7,h8,h9⟩:=tiOf_spec hi;split at hk
 ·rename_i s ag b ez hkd;rw[hkd]at h4;obtain⟨e,ei,ed,z',rfl,k1,k2,k3,k4,k5,k6,k7,k8,k9,k10⟩:=kdOf_slice h4;simp only[Zh,beq_iff_eq]at hk;obtain⟨rfl,rfl⟩:=hk;refine⟨e,ei,z',h1,k1,k3,k4.symm,k6.symm,by rw[k9,k4],fun w=>?_⟩;rw[run_size k1,k4]
 ·cases hk
set_option maxHeartbeats 4000000 in
theorem insNode_end (w:World)(base:Option Addr)(n cap vb vc:Nat)(olds vs:List Value)(vcur:Array Value)(vt:TypeId)(vf:Nat × Nat)(ho:olds.length=n*3)(hv:vs.length=3)(hn:n≤cap)(hc:cap≤maxLen)(hm:n+1≤1000000000000000)(hby:(n+1)*56≤140737488355328)(o1:∀u∈olds,u.oneCell'=true)(v1:∀u∈vs,u.oneCell'=true)
 (hvb:w.heap[vb]?=some (.cells vcur vt vf)) (hvc:∀(k:Nat) (u:Value),vs[k]?=some u→vcur[k]?=some u)
 (hb:(n=0∧cap=0)∨∃(b:Nat) (cur:Array Value) (t:TypeId) (fz:Nat × Nat),base=some ⟨b,0,none⟩∧b≠vb∧w.heap[b]?=some (.cells cur t fz)∧Fz fz cur∧cap*3=cur.size∧∀(k:Nat) (u:Value),olds[k]?=some u→cur[k]?=some u):
 Calls Tryz.prog 234 #[.slice base n cap,.int .i64 n,.slice (some ⟨vb,0,none⟩) 1 vc] w (InsQ w base n cap n 3 olds vs):=by
 obtain⟨e,ei,z,ht,hi,hz,hs,hbs,hzs,_⟩:=tyNode;have hmx:cap≤9223372036854775807:=hc;have hvw:∀(j:Nat) (u:Value),vs[j]?=some u→w.cell? ⟨vb,0+j,none⟩=some u:=fun j u hj=>by rw[cell_at hvb,Nat.zero_add];exact hvc j u hj
 have hvw':∀(j:Nat) (u:Value),vs[j]?=some u→w.cell? ((⟨vb,0,none⟩:Addr).add j)=some u:=fun j u hj=>by rw[add_lit];exact hvw j u hj
 by_cases hroom:n+1≤cap
 ·rcases hb with⟨h0,h1⟩|⟨b,cur,t,fz,rfl,hne,hbw,hf,hcap,hcell⟩
  ·omega
  have hfit:n*3+vs.length≤cur.size:=by
   have:=Zx 3 hroom;omega
  have hst:=run_storeCells_fz Tryz.prog b (n*3) t fz vs 0 cur w hbw (.inl hf.eq) (by omega) v1;have hrun:∀ty,(Builtin.append_ #[32,32] ty #[.slice (some ⟨b,0,none⟩) n cap,.slice (some ⟨vb,0,none⟩) 1 vc]).run Tryz.prog w= .ok (.slice (some ⟨b,0,none⟩) (n+1) cap) (w.setRow b (putC cur (n*3) vs)):=fun ty=>
   append_room ht hi b 0 n cap 1 vc ⟨vb,0,none⟩ vs (by omega) hvw' hroom (by rw[hs,Nat.zero_add];exact hst)
  have fin:InsQ w (some ⟨b,0,none⟩) n cap n 3 olds vs (.returned (.slice (some ⟨b,0,none⟩) (n+1) cap)) (w.setRow b (putC cur (n*3) vs)):=
   insQ_at (i:=n) hbw hf hcap hroom hc (setRow_heap w b cur _ t fz hbw) (putC_size hfit) rfl rfl rfl (by simp) (fun k hk=>setRow_other w b k _ hk) (insQ_end ho.symm hfit hcell)
  go_enter Tryz.func234,Tryz.ntmps234
  go_wp2_with (at_builtin;refine Lib.wpList_append_run _ rfl _ _ _ _ rfl _ _ rfl rfl _ _ (hrun _) ?_)
  all_goals
   go_ret
   exact fin
 ·have hcg:cap<n+1:=by omega
  have hsrc:Src Tryz.prog ei.size 32 (.slice (some ⟨vb,0,none⟩) 1 vc) 1 vs w:=Src.ofSlice w ht ⟨vb,0,none⟩ 1 vc vs (by omega) hvw' v1;have hold:(Builtin.firstCells ei.size n (.slice base n cap)).run Tryz.prog w.drew= .ok olds.toArray w.drew:=by
   rcases hb with⟨h0,h1⟩|⟨b,cur,t,fz,rfl,hne,hbw,hf,hcap,hcell⟩
   ·subst h0;have:olds=[]:=Zl (by omega);subst this;cases base<;>simp[Builtin.firstCells,loadCells,loadCellsFrom]
   ·exact run_firstCells_some w.drew ei.size n ⟨b,0,none⟩ n cap olds (by rw[hs];exact ho) (fun j u hj=>by rw[add_lit,Nat.zero_add];exact(cell_at (w:=w.drew) hbw j).trans (hcell j u hj))
  have hge:=grownCap_ge w (n+1) cap e;have hle:=grownCap_le_maxLen w (n+1) cap e (by unfold maxLen;omega);have hrun:∀ty,(Builtin.append_ #[32,32] ty #[.slice base n cap,.slice (some ⟨vb,0,none⟩) 1 vc]).run Tryz.prog w=_:=fun ty=>
   run_append_grow_src w 32 32 ty e ei z ht hi hz base n cap olds hold _ 1 vs hsrc hcg (by omega) (by rw[hbs];exact growslice_fits hcg hby)
  generalize grownCap w (n+1) cap e=G at hrun hge hle;have hsz:G*3=((olds++vs).toArray++Builtin.zeroCells z.cells (G-(n+1))).size:=by
   have h2:G=(n+1)+(G-(n+1)):=by omega
   have h3:G*3=(n+1)*3+(G-(n+1))*3:=by rw[←Nat.add_mul,←h2]
   have h4:=Nat.add_mul n 1 3;rw[Array.size_append,List.size_toArray,size_zeroCells,hzs,Zu];omega
  have hgc:∀(k:Nat) (u:Value),(olds.take (n*3)++vs++olds.drop (n*3))[k]?=some u→((olds++vs).toArray++Builtin.zeroCells z.cells (G-(n+1)))[k]?=some u:=fun k u hk=>by
   rw[←ho,List.take_length,List.drop_length,Yo]at hk;rw[Array.getElem?_append_left (by simpa using(Za.1 hk).1),List.getElem?_toArray];exact hk
  generalize(olds++vs).toArray++Builtin.zeroCells z.cells (G-(n+1))=ROW at hrun hsz hgc;have fin:InsQ w base n cap n 3 olds vs (.returned (.slice (some ⟨w.heap.size,0,none⟩) (n+1) G)) (w.drew.alloc (.cells ROW e)):=
   insQ_new hsz hge hle (alloc_new w.drew _) rfl rfl rfl (by simp[World.alloc]) (fun k hk=>by show(w.heap.push _)[k]?=_;simp[Array.getElem?_push,Nat.ne_of_lt hk]) hgc
  go_enter Tryz.func234,Tryz.ntmps234
  cases base with
  |
   none=>
   go_wp2_with (at_builtin;refine Lib.wpList_append_run _ rfl _ _ _ _ rfl _ _ rfl rfl _ _ (hrun _) ?_)
   all_goals (go_ret;exact fin)
  |
   some a=>
   obtain⟨ab,ao,asp⟩:=a
   go_wp2_with (at_builtin;refine Lib.wpList_append_run _ rfl _ _ _ _ rfl _ _ rfl rfl _ _ (hrun _) ?_)
   all_goals (go_ret;exact fin)
set_option maxHeartbeats 4000000 in
theorem insNode_shift (w:World)(b n cap i vb vc:Nat)(olds vs:List Value)(cur vcur:Array Value)(t vt:TypeId)(fz vf:Nat × Nat)(ho:olds.length=n*3)(hv:vs.length=3)(hin:i<n)(hroom:n+1≤cap)(hc:cap≤maxLen)(hm:n+1≤1000000000000000)(o1:∀u∈olds,u.oneCell'=true)(v1:∀u∈vs,u.oneCell'=true)
 (hvb:w.heap[vb]?=some (.cells vcur vt vf)) (hvf:Fz vf vcur) (hvc:∀(k:Nat) (u:Value),vs[k]?=some u→vcur[k]?=some u) (hne:b≠vb) (hbw:w.heap[b]?=some (.cells cur t fz)) (hf:Fz fz cur) (hcap:cap*3=cur.size) (hcell:∀(k:Nat) (u:Value),olds[k]?=some u→cur[k]?=some u):
 Calls Tryz.prog 234 #[.slice (some ⟨b,0,none⟩) n cap,.int .i64 i,.slice (some ⟨vb,0,none⟩) 1 vc] w (InsQ w (some ⟨b,0,none⟩) n cap i 3 olds vs):=by
 obtain⟨e,ei,z,ht,hi,hz,hs,hbs,hzs,hse⟩:=tyNode;have hmx:cap≤9223372036854775807:=hc;have h9:=Zx 3 hroom;have h10:=Zx 3 hin;rw[Nat.add_mul]at h9;rw[Nat.succ_mul]at h10;have hdl:(olds.drop (i*3)).length=(n-i)*3:=by rw[List.length_drop,ho,Nat.sub_mul]
 have hdl':(olds.drop (i*3)).length=n*3-i*3:=by rw[List.length_drop,ho]
 have hmn:min (n+1-i) (n-i)=n-i:=by omega
 have hvl:vcur.size≠0:=by
  have:=(Array.getElem?_eq_some_iff.1 (hvc 0 _ (Zb (by omega)))).1;omega
 have hov:∀lb cb,(callFunc 301 #[.slice (some ⟨vb,0,none⟩) 1 vc,.slice (some ⟨b,(i+1)*3,none⟩) lb cb]).run Tryz.prog w= .ok (.value (.bool false)) w:=fun lb cb=>by
  rw[run_callFunc_extern Tryz.func301 (by kernel_rfl) (by kernel_rfl) (by kernel_rfl) (e:=Extern.SlicesOverlaps.overlaps #[32,32] #[4]) (by kernel_rfl),
   Lib.run_overlaps_apart w 32 4 e ht 3 hse ⟨vb,0,none⟩ ⟨b,(i+1)*3,none⟩ 1 vc lb cb (fun h=>hne h.symm) vt t vcur.size cur.size (by simp[World.shape?,hvb]) (by simp[World.shape?,hbw]) (by omega) (by simp[World.frozen?,hvb,hvf.eq]) (by simp[World.frozen?,hvb,hvf.eq])]
  rfl
 have hvw:∀(j:Nat) (u:Value),vs[j]?=some u→vb=vb∧vcur[0+j]?=some u:=fun j u hj=>⟨rfl,by rw[Nat.zero_add];exact hvc j u hj⟩
 have hfit1:(i+1)*3+(olds.drop (i*3)).length≤cur.size:=by omega
 have hcp1:∀ty dc sc,(Builtin.copy_ #[32,32] ty #[.slice (some ⟨b,(i+1)*3,none⟩) (n-i) dc,.slice (some ⟨b,i*3,none⟩) (n+1-i) sc]).run Tryz.prog w.drew= .ok (.int .i64 (min (n+1-i) (n-i):Nat)) (w.drew.setRow b (putC cur ((i+1)*3) (olds.drop (i*3)))):=fun ty dc sc=>
  run_copy_k w.drew 32 ty e ei ht hi b ((i+1)*3) _ dc b (i*3) _ sc (olds.drop (i*3)) (by rw[hs,hmn];exact hdl) (fun j u hj=>by
   rw[List.getElem?_drop]at hj;exact(cell_at (w:=w.drew) hbw _).trans (hcell _ u hj)) cur t fz hbw hf hfit1 (fun u hu=>o1 u (List.mem_of_mem_drop hu))
 have hsz1:=putC_size hfit1;obtain⟨W1,hW1⟩:∃W1,W1=w.drew.setRow b (putC cur ((i+1)*3) (olds.drop (i*3))):=⟨_,rfl⟩;have hW1b:W1.heap[b]?=some (.cells (putC cur ((i+1)*3) (olds.drop (i*3))) t fz):=by rw[hW1];exact setRow_heap w.drew b cur _ t fz hbw
 have hW1v:W1.heap[vb]?=some (.cells vcur vt vf):=by rw[hW1,setRow_other w.drew b vb _ (fun h=>hne h.symm)];exact hvb
 have hcp2:∀(W:World),W.heap=W1.heap→∀ty dc,(Builtin.copy_ #[32,32] ty #[.slice (some ⟨b,i*3,none⟩) (n+1-i) dc,.slice (some ⟨vb,0,none⟩) 1 vc]).run Tryz.prog W= .ok (.int .i64 (min 1 (n+1-i):Nat)) (W.setRow b (putC (putC cur ((i+1)*3) (olds.drop (i*3))) (i*3) vs)):=fun W hW ty dc=>
  run_copy_k W 32 ty e ei ht hi b (i*3) _ dc vb 0 1 vc vs (by rw[hs,Nat.min_eq_left (by omega)];omega) (fun j u hj=>by
   rw[Nat.zero_add];exact(cell_at (by rw[hW];exact hW1v) _).trans (hvc _ u hj)) _ t fz (by rw[hW];exact hW1b) (hf.imp (fun q=>q) fun q=>q.2.elim) (by rw[hsz1];omega) v1
 have fin:InsQ w (some ⟨b,0,none⟩) n cap i 3 olds vs (.returned (.slice (some ⟨b,0,none⟩) (n+1) cap)) (W1.setRow b (putC (putC cur ((i+1)*3) (olds.drop (i*3))) (i*3) vs)):=
  insQ_at hbw hf hcap hroom hc (setRow_heap W1 b _ _ t fz hW1b) (by rw[putC_size (by rw[hsz1];omega),hsz1]) (by rw[hW1];rfl) (by rw[hW1];rfl) (by rw[hW1];rfl) (by rw[hW1];simp) (fun k hk=>by rw[setRow_other W1 b k _ hk,hW1,setRow_other w.drew b k _ hk];rfl)
   (insQ_shift (by omega) (by rw[Nat.add_mul];omega) (by omega) hcell)
 rw[←hW1]at hcp1;generalize putC (putC cur ((i+1)*3) (olds.drop (i*3))) (i*3) vs=C2 at hcp2 fin;have hz2:¬((i:Int)=(n:Int)):=by omega
 have hw1:IntKind.i64.wrap ((i:Int)+1)=(i:Int)+1:=by rw[IntKind.wrap_i64];omega
 have hw2:IntKind.i64.wrap ((n:Int)+1)=(n:Int)+1:=by rw[IntKind.wrap_i64];omega
 have hb1:(0:Int)≤(i:Int)+1:=by omega
 have hii:i≤n:=by omega
 have htn:((i:Int)+1).toNat=i+1:=by omega
 have htn':((n:Int)+1).toNat=n+1:=by omega
 have hb2:¬(cap=i+1):=by omega
 have hb3:(i:Int)≤(n:Int)+1:=by omega
 have hb4:¬(cap=i):=by omega
 have u1:=run_underlying ht;have mixed:Tryz.prog.follows .mixedOrders=true:=by kernel_rfl
 clear hvc hcell o1 v1 hdl hdl' hfit1 hsz1 hW1b hW1v hmn h9 h10 ho hv
 go_enter Tryz.func234,Tryz.ntmps234
 go_wp2_with (simp only[hov])
 go_region_law_o (refine step_copy_eq rfl _ _ 32 32 rfl _ _ (by simp[Act.eval,Act.put]) (by simp[Act.eval,Act.put]) (hcp1 _ _ _) ?_)
 go_wp2_with (at_builtin;refine wpList_copy_eq _ rfl _ _ 32 32 rfl _ _ rfl rfl (hcp2 _ rfl _ _) ?_)
 go_ret
 rw[hW1]at fin;exact fin
set_option maxHeartbeats 4000000 in
theorem insNode_grow (w:World)(b n cap i vb vc:Nat)(olds vs:List Value)(cur vcur:Array Value)(t vt:TypeId)(fz vf:Nat × Nat)(ho:olds.length=n*3)(hv:vs.length=3)(hin:i<n)(hn:n≤cap)(hroom:cap<n+1)(hc:cap≤maxLen)(hm:n+1≤1000000000000000)(hby:(n+1)*56≤140737488355328)(o1:∀u∈olds,u.oneCell'=true)(v1:∀u∈vs,u.oneCell'=true)
 (hvb:w.heap[vb]?=some (.cells vcur vt vf)) (hvf:Fz vf vcur) (hvc:∀(k:Nat) (u:Value),vs[k]?=some u→vcur[k]?=some u) (hne:b≠vb) (hbw:w.heap[b]?=some (.cells cur t fz)) (hf:Fz fz cur) (hcap:cap*3=cur.size) (hcell:∀(k:Nat) (u:Value),olds[k]?=some u→cur[k]?=some u):
 Calls Tryz.prog 234 #[.slice (some ⟨b,0,none⟩) n cap,.int .i64 i,.slice (some ⟨vb,0,none⟩) 1 vc] w (InsQ w (some ⟨b,0,none⟩) n cap i 3 olds vs):=by
 obtain⟨e,ei,z,ht,hi,hz,hs,hbs,hzs,hse⟩:=tyNode;have htn:Tryz.prog.underlying 3=some (.int .i64):=by kernel_rfl
 have hmx:cap≤9223372036854775807:=hc;have hcn:cap=n:=by omega
 subst hcn;have h10:=Zx 3 hin;rw[Nat.succ_mul]at h10;have hdl:(olds.drop (i*3)).length=(cap-i)*3:=by rw[List.length_drop,ho,Nat.sub_mul]
 have hdl':(olds.drop (i*3)).length=cap*3-i*3:=by rw[List.length_drop,ho]
 have hvl:vcur.size≠0:=by
  have:=(Array.getElem?_eq_some_iff.1 (hvc 0 _ (Zb (by omega)))).1;omega
 have hkk:(cap:Int)+1-(i:Int)=((cap+1-i:Nat):Int):=by omega
 have hik:i+(cap+1-i)=cap+1:=by omega
 have hold:(Builtin.firstCells ei.size i (.slice (some ⟨b,0,none⟩) i cap)).run Tryz.prog w.drew= .ok (olds.take (i*3)).toArray w.drew:=
  run_firstCells_some w.drew ei.size i ⟨b,0,none⟩ i cap (olds.take (i*3)) (by rw[List.length_take,hs,ho];omega) (fun j u hj=>by
   rw[add_lit,Nat.zero_add];rw[List.getElem?_take]at hj;split at hj
   ·exact(cell_at (w:=w.drew) hbw j).trans (hcell j u hj)
   ·cases hj)
 have hrz:∀ty,(Builtin.append_ #[32,3] ty #[.slice (some ⟨b,0,none⟩) i cap,.int .i64 ((cap:Int)+1-(i:Int))]).run Tryz.prog w=
  .ok (.slice (some ⟨w.heap.size,0,none⟩) (cap+1) (grownCap w (cap+1) cap e)) (w.drew.alloc (.cells ((olds.take (i*3)).toArray++Builtin.zeroCells z.cells (cap+1-i)++Builtin.zeroCells z.cells (grownCap w (cap+1) cap e-(cap+1))) e)):=fun ty=>by
  have h:=Lib.run_append_grow_zeros w 32 3 ty e ei z .i64 .i64 ht htn hi hz (some ⟨b,0,none⟩) i cap (olds.take (i*3)) hold (cap+1-i) (by omega) (by omega) (by omega) (by omega) (by rw[hbs];omega) (by rw[hbs,hik];exact growslice_fits hroom hby);rw[hik]at h;rw[hkk];exact h
 have hge:=grownCap_ge w (cap+1) cap e;have hle:=grownCap_le_maxLen w (cap+1) cap e (by unfold maxLen;omega);generalize grownCap w (cap+1) cap e=G at hrz hge hle;have hle':G≤9223372036854775807:=hle;obtain⟨ROW,hROW⟩:∃ROW:Array Value,ROW=(olds.take (i*3)).toArray++Builtin.zeroCells z.cells (cap+1-i)++Builtin.zeroCells z.cells (G-(cap+1)):=⟨_,rfl⟩;rw[←hROW]at hrz;have hRs:ROW.size=G*3:=by
  rw[hROW,Array.size_append,Array.size_append,List.size_toArray,size_zeroCells,size_zeroCells,hzs,List.length_take,ho];have e1:G=i+(cap+1-i)+(G-(cap+1)):=by omega
  have e2:G*3=i*3+(cap+1-i)*3+(G-(cap+1))*3:=by rw[←Nat.add_mul,←Nat.add_mul,←e1]
  omega
 have hRg:∀(k:Nat) (u:Value),k<i*3→olds[k]?=some u→ROW[k]?=some u:=fun k u hk hu=>by
  rw[hROW,Array.append_assoc,Array.getElem?_append_left (by simp;omega),List.getElem?_toArray,List.getElem?_take,if_pos hk];exact hu
 clear hROW hold;have hG1:=Zx 3 hge;rw[Nat.add_mul]at hG1;have hbl:=heap_lt hbw;have hvbl:=heap_lt hvb;obtain⟨W1,hW1⟩:∃W1,W1=w.drew.alloc (.cells ROW e):=⟨_,rfl⟩;have hW1n:W1.heap[w.heap.size]?=some (.cells ROW e (0,0)):=by rw[hW1];exact alloc_new w.drew _
 have hW1o:∀k,k<w.heap.size→W1.heap[k]?=w.heap[k]?:=fun k hk=>by rw[hW1];show(w.heap.push _)[k]?=_;simp[Array.getElem?_push,Nat.ne_of_lt hk]
 have hW1s:W1.heap.size=w.heap.size+1:=by rw[hW1];show(w.heap.push _).size=_;simp
 have hfit1:i*3+vs.length≤ROW.size:=by omega
 have hsz1:=putC_size hfit1;have hcpA:∀(W:World),W.heap=W1.heap→∀ty dc,(Builtin.copy_ #[32,32] ty #[.slice (some ⟨w.heap.size,i*3,none⟩) (cap+1-i) dc,.slice (some ⟨vb,0,none⟩) 1 vc]).run Tryz.prog W= .ok (.int .i64 (min 1 (cap+1-i):Nat)) (W.setRow w.heap.size (putC ROW (i*3) vs)):=fun W hW ty dc=>
  run_copy_k W 32 ty e ei ht hi w.heap.size (i*3) _ dc vb 0 1 vc vs (by rw[hs,Nat.min_eq_left (by omega)];omega) (fun j u hj=>by
   rw[Nat.zero_add];exact(cell_at (by rw[hW,hW1o _ hvbl];exact hvb) _).trans (hvc _ u hj)) _ e (0,0) (by rw[hW];exact hW1n) (.inl rfl) hfit1 v1
 obtain⟨R2,hR2⟩:∃R2,R2=putC ROW (i*3) vs:=⟨_,rfl⟩;rw[←hR2]at hcpA hsz1;have hfit2:(i+1)*3+(olds.drop (i*3)).length≤R2.size:=by omega
 have hmn:min (cap-i) (cap+1-(i+1))=cap-i:=by omega
 have hcpB:∀(W:World),W.heap=(W1.setRow w.heap.size R2).heap→∀ty dc sc,(Builtin.copy_ #[32,32] ty #[.slice (some ⟨w.heap.size,(i+1)*3,none⟩) (cap-i) dc,.slice (some ⟨b,i*3,none⟩) (cap-i) sc]).run Tryz.prog W= .ok (.int .i64 (min (cap-i) (cap-i):Nat)) (W.setRow w.heap.size (putC R2 ((i+1)*3) (olds.drop (i*3)))):=fun W hW ty dc sc=>
  run_copy_k W 32 ty e ei ht hi w.heap.size ((i+1)*3) _ dc b (i*3) _ sc (olds.drop (i*3)) (by rw[hs,Nat.min_self];exact hdl) (fun j u hj=>by
   rw[List.getElem?_drop]at hj;exact(cell_at (by rw[hW,setRow_other W1 _ b _ (Nat.ne_of_lt hbl),hW1o _ hbl];exact hbw) _).trans (hcell _ u hj)) R2 e (0,0) (by rw[hW];exact setRow_heap W1 _ ROW R2 e _ hW1n) (.inl rfl) hfit2 (fun u hu=>o1 u (List.mem_of_mem_drop hu))
 have hfin:∀(k:Nat) (u:Value),(olds.take (i*3)++vs++olds.drop (i*3))[k]?=some u→(putC R2 ((i+1)*3) (olds.drop (i*3)))[k]?=some u:=by
  rw[hR2];exact insQ_grow (by omega) (by rw[Nat.add_mul];omega) (by omega) hRg
 have hsz2:=putC_size hfit2;obtain⟨R3,hR3⟩:∃R3,R3=putC R2 ((i+1)*3) (olds.drop (i*3)):=⟨_,rfl⟩;rw[←hR3]at hcpB hfin hsz2;have fin:∀W':World,W'.os=w.os→W'.tape=w.tape→W'.output=w.output→W'.heap=((W1.setRow w.heap.size R2).setRow w.heap.size R3).heap→InsQ w (some ⟨b,0,none⟩) cap cap i 3 olds vs (.returned (.slice (some ⟨w.heap.size,0,none⟩) (cap+1) G)) W':=fun W' h1 h2 h3 h4=>
  insQ_new (t:=e) (cur':=R3) (by omega) hge hle (by rw[h4];exact setRow_heap _ _ R2 R3 e _ (setRow_heap W1 _ ROW R2 e _ hW1n)) h1 h2 h3 (by rw[h4];simp;omega) (fun k hk=>by rw[h4,setRow_other _ _ k _ (Nat.ne_of_lt hk),setRow_other _ _ k _ (Nat.ne_of_lt hk)];exact hW1o k hk) hfin
 have hz2:¬((i:Int)=(cap:Int)):=by omega
 have hw1:IntKind.i64.wrap ((i:Int)+1)=(i:Int)+1:=by rw[IntKind.wrap_i64];omega
 have hw2:IntKind.i64.wrap ((cap:Int)+1)=(cap:Int)+1:=by rw[IntKind.wrap_i64];omega
 have hw3:IntKind.i64.wrap ((cap:Int)+1-(i:Int))=(cap:Int)+1-(i:Int):=by rw[IntKind.wrap_i64];omega
 have hb1:(0:Int)≤(i:Int)+1:=by omega
 have hii:i≤cap:=by omega
 have htn1:((i:Int)+1).toNat=i+1:=by omega
 have hb2:¬(cap=i):=by omega
 have hb3:(i:Int)≤(cap:Int):=by omega
 have hb4:¬(G=i):=by omega
 have hb5:¬(G=i+1):=by omega
 have hz3:(cap:Int)< (cap:Int)+1:=by omega
 have u1:=run_underlying ht;have mixed:Tryz.prog.follows .mixedOrders=true:=by kernel_rfl
 subst hW1;have hE1:((w.alloc (.cells ROW e)).drew).heap=(w.drew.alloc (.cells ROW e)).heap:=rfl;have hF1:(((w.alloc (.cells ROW e)).drew.setRow w.heap.size R2).drew).heap=((w.drew.alloc (.cells ROW e)).setRow w.heap.size R2).heap:=rfl;have hcpC:=hcpB _ hF1;clear hvc hcell o1 v1 hdl hdl' hfit1 hsz1 hW1n hW1o hmn h10 ho hv hkk hik hRs hRg hfit2 hfin hR2 hR3 hsz2 hG1
 go_enter Tryz.func234,Tryz.ntmps234
 go_wp2_with (first
  |(at_builtin;refine Lib.wpList_append_run _ rfl _ _ _ _ rfl _ _ rfl rfl _ _ (hrz _) ?_)
  |(at_builtin;refine wpList_copy_eq _ rfl _ _ 32 32 rfl _ _ rfl rfl (hcpA _ rfl _ _) ?_)
  |(at_builtin;refine wpList_copy_eq _ rfl _ _ 32 32 rfl _ _ rfl rfl (hcpA _ hE1 _ _) ?_))
 go_region_law_o (refine step_copy_eq rfl _ _ 32 32 rfl (.slice (some ⟨w.heap.size,(i+1)*3,none⟩) (cap-i) (G-(i+1))) (.slice (some ⟨b,i*3,none⟩) (cap-i) (cap-i)) (by simp[Act.eval,Act.put]) (by simp[Act.eval,Act.put]) (hcpC 3 (G-(i+1)) (cap-i)) ?_)
 go_wp2
 go_ret
 exact fin _ rfl rfl rfl rfl
theorem insNode_ok :InsOK cx 234 3 56:=⟨by omega,by omega,⟨_,Tryz.func234,of_decide_eq_true (by kernel_rfl),by kernel_rfl⟩,fun w base n cap i vb vc olds vs vcur vt vf ho hv hin hn hc hm hby o1 v1 hvb hvf hvc hb=>by
 change Calls Tryz.prog 234 _ w (InsQ w base n cap i 3 olds vs);by_cases he:i=n
 ·subst he;exact insNode_end w base i cap vb vc olds vs vcur vt vf ho hv hn hc hm hby o1 v1 hvb hvc hb
 ·rcases hb with⟨h0,h1⟩|⟨b,cur,t,fz,rfl,hne,hbw,hf,hcap,hcell⟩
  ·omega
  ·by_cases hroom:n+1≤cap
   ·exact insNode_shift w b n cap i vb vc olds vs cur vcur t vt fz vf ho hv (by omega) hroom hc hm o1 v1 hvb hvf hvc hne hbw hf hcap hcell
   ·exact insNode_grow w b n cap i vb vc olds vs cur vcur t vt fz vf ho hv (by omega) hn (by omega) hc hm hby o1 v1 hvb hvf hvc hne hbw hf hcap hcell⟩
end Go.Proofs.YtadaeokidcgdlaaGreatDoor
