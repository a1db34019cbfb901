/- The abstract evaluator, part 4: the operations on memory. -/
import Derived.Test.YtmocfjnklfpnbaaGreatDoorP3
set_option linter.all false
namespace Go.Ae
open Go
section ops
variable {C : Cx} {w : World} {X : Nat → Prop} {ρ : Nat → Nat} {h : Hp} {a : Act} {fr : List AV} {o : Oper}
theorem run_new (P:Program)(w:World)(ob:Obj):(newObj ob).run P w= .ok w.heap.size (w.alloc ob):=rfl
theorem natOf_inv {n:Nat}{v:Value}{x:AV}{i:Nat}(hv:Rp w X ρ n v x)(hn:natOf x=some i):∃k j,v= .int k j∧0≤j∧j.toNat=i:=by
 unfold natOf at hn;split at hn
 ·rename_i k j;split at hn
  ·simp only[Zc]at hn;obtain⟨rfl,_⟩:=hv.sc_inv;exact⟨k,j,rfl,by assumption,hn⟩
  ·cases hn
 ·cases hn
theorem g_move (hs:Sim C.G w X ρ h)(hf:RF w (tot X ρ h) ρ h.length a.tmps fr){x:Operand}(hop:o.op= .move x∨o.op= .assign x):Good C o a w X ρ h (ev C fr x) h:=
 good_same hs (by rcases hop with hop|hop<;>simp only[execOp,hop,Sem.run_pure]) (ev_rp hs hf x)
theorem g_pick (hs:Sim C.G w X ρ h)(hf:RF w (tot X ρ h) ρ h.length a.tmps fr){c x y:Operand}(hop:o.op= .pick c x y){t:Bool}(hc:ev C fr c= .sc (.bool t)):
 Good C o a w X ρ h (bif t then ev C fr x else ev C fr y) h:=by
 have h1:=ev_rp hs hf c;rw[hc]at h1;have h2:=h1.sc_inv.1;refine good_same (v:=if t then a.eval x else a.eval y) hs ?_ ?_
 ·simp only[execOp,hop,h2,asBool,Sem.run_bind,Sem.run_pure,Result.andThen_ok]
 ·cases t
  ·exact ev_rp hs hf y
  ·exact ev_rp hs hf x
theorem own_pt (w0:World)(h:Hp)(ρ:Nat→Nat)(w':World)(X':Nat→Prop)(m:Nat)(hm:h.length<m):Rp w' X' (fun i=>if i=h.length then w0.heap.size else ρ i) m (.pointer (some ⟨w0.heap.size,0,none⟩)) (.pt h.length 0):=by
 have:=Rp.pt (w:=w') (X:=X') (ρ:=fun i=>if i=h.length then w0.heap.size else ρ i) h.length 0 hm;simpa using this
theorem g_alloc (hs:Sim C.G w X ρ h){t:TypeId}(hop:o.op= .alloc t){i:Ti}(hi:tiOf C.P t=some i):Good C o a w X ρ h (.pt h.length 0) (h++[.row (i.zero.map .sc)]):=by
 obtain⟨d,info,z,h1,h2,h3,h4,h5,h6,h7,h8,h9⟩:=tiOf_spec hi;have he:=ext_alloc hs z.cells t (i.zero.map .sc) (fun k=>z.cells.getD k undef) (by simp[h7]) (fun k x hk=>by
  rw[h7]at hk;simp only[Zs,Ze]at hk;obtain⟨u,hu,rfl⟩:=hk;have hm:u∈z.cells.toList:=Zi hu;have hu':z.cells[k]?=some u:=by simpa using hu
  have:z.cells.getD k undef=u:=by simp[hu']
  rw[this];exact⟨hu',flat_one (h8 u hm),.im (.sc u (h8 u hm))⟩) (0,0) (.inl rfl)
 refine good_value (v:= .pointer (some ⟨w.heap.size,0,none⟩)) ?_ he (own_pt w h ρ _ _ _ (by simp));simp only[execOp,hop,Instr.alloc,Sem.run_bind,run_zero h2 h3,Result.andThen_ok,newVar,newRow,run_new,Sem.run_pure]
theorem g_box (hs:Sim C.G w X ρ h)(hf:RF w (tot X ρ h) ρ h.length a.tmps fr){t:TypeId}{x:Operand}(hop:o.op= .box t x){cs:List AV}(hc:cls (ev C fr x)=some cs):
 Good C o a w X ρ h (.pt h.length 0) (h++[.row cs]):=by
 obtain⟨h1,h2,h3⟩:=(ev_rp hs hf x).cls_inv hc;have he:=ext_alloc hs (a.eval x).cells t cs (fun k=>(a.eval x).cells.getD k undef) (by omega) (fun k y hk=>by
  have hlt:k< (a.eval x).cells.size:=by have:=(Za.1 hk).1;omega
  refine⟨?_,h2 k hlt,h3 k y hk⟩;simp[hlt]) (0,0) (.inl rfl)
 refine good_value (v:= .pointer (some ⟨w.heap.size,0,none⟩)) ?_ he (own_pt w h ρ _ _ _ (by simp));simp only[execOp,hop,Instr.box,Sem.run_bind,Result.andThen_ok,newVar,newRow,run_new,Sem.run_pure]
theorem g_load (hs:Sim C.G w X ρ h)(hf:RF w (tot X ρ h) ρ h.length a.tmps fr){t:TypeId}{x:Operand}(hop:o.op= .load t x){i:Ti}(hi:tiOf C.P t=some i){id off:Nat}{cs:List AV}
 (hx:ev C fr x= .pt id off) (hid:rowOf h id=some cs) {y:AV} (hp:part i.agg off i.size cs=some y):Good C o a w X ρ h y h:=by
 have h1:=ev_rp hs hf x;rw[hx]at h1;obtain⟨h2,h3⟩:=h1.pt_inv;obtain⟨cur,t0,fz,us,c1,c3⟩:=hs.cells hid;obtain⟨v,hv,hr⟩:=load_part (ρ:=ρ) (n:=h.length) (X:=tot X ρ h) hi (o:=0) c1 (us:=us) (cs:=cs) (fun k x hk=>by simpa using c3 k x hk) hp;refine good_same hs (v:=v) ?_ hr;simp only[Nat.zero_add]at hv;simp only[execOp,hop,Instr.loadAt,Instr.sureAddr,h2,Sem.run_bind,Sem.run_pure,Result.andThen_ok,hv]
theorem g_loadR (hs:Sim C.G w X ρ h)(hf:RF w (tot X ρ h) ρ h.length a.tmps fr){t:TypeId}{x:Operand}(hop:o.op= .load t x){i:Ti}(hi:tiOf C.P t=some i){row:List AV}{j:Nat}
 (hx:ev C fr x= .rp row j) {y:AV} (hp:part i.agg j i.size row=some y):Good C o a w X ρ h y h:=by
 have h1:=ev_rp hs hf x;rw[hx]at h1;have h2:=h1.rp_inv;cases hq:a.eval x<;>rw[hq]at h2<;>cases h2;rename_i b o' us cur t0 fz c1 c2 c3 c4;obtain⟨v,hv,hr⟩:=load_part (ρ:=ρ) (n:=h.length) (X:=tot X ρ h) hi (o:=o') c2 (us:=us) (cs:=row) (fun k x hk=>⟨(c3 k x hk).1,(c3 k x hk).2,.im (c4 k x hk)⟩) hp;refine good_same hs (v:=v) ?_ hr;simp only[execOp,hop,Instr.loadAt,Instr.sureAddr,hq,Sem.run_bind,Sem.run_pure,Result.andThen_ok,hv]
theorem splice_get {cs vs:List AV}{off:Nat}(hle:off≤cs.length)(k:Nat):(splice cs off vs)[k]?=if off≤k∧k<off+vs.length then vs[k-off]? else cs[k]?:=by
 unfold splice;by_cases h1:k<off
 ·rw[if_neg (by omega),Zp,Zd (by simp;omega),List.getElem?_take,if_pos h1]
 ·by_cases h2:k<off+vs.length
  ·rw[if_pos (by omega),Zp,Zf (by simp;omega),Zd (by simp;omega)]
   congr 1
   simp;omega
  ·rw[if_neg (by omega),Zf (by simp;omega),List.getElem?_drop]
   congr 1
   simp;omega
theorem splice_length' {cs vs:List AV}{off:Nat}(hle:off≤cs.length):(splice cs off vs).length=max cs.length (off+vs.length):=by
 unfold splice;simp;omega
theorem splice_length {cs vs:List AV}{off:Nat}(hle:off+vs.length≤cs.length):(splice cs off vs).length=cs.length:=by
 unfold splice;simp;omega
theorem run_storeCells_fz (P:Program)(g o:Nat)(t:TypeId)(fz:Nat × Nat):∀(vs:List Value) (i:Nat) (cur:Array Value) (w:World),w.heap[g]?=some (.cells cur t fz)→Fw fz cur→o+i+vs.length≤cur.size→(∀v∈vs,v.oneCell'=true)→
 (storeCells ⟨g,o,none⟩ vs i).run P w= .ok () (w.setRow g (cur.toList.take (o+i)++vs++cur.toList.drop (o+i+vs.length)).toArray)
 |
  [],i,cur,w,hg,_,_,_=>by
  simp only[storeCells,Yk,List.length_nil,Nat.add_zero,List.take_append_drop,Array.toArray_toList];rw[setRow_self w g cur t fz hg];rfl
 |
  v::rest,i,cur,w,hg,hfz,hl,h1=>by
  have hi:o+i<cur.size:=by simp at hl;omega
  have hadd:(⟨g,o,none⟩:Addr).add i=⟨g,o+i,none⟩:=by unfold Addr.add;split<;>simp_all
  have hcell:w.cell? ⟨g,o+i,none⟩=some cur[o+i]:=by simp[World.cell?,hg,hi]
  have hfro:w.frozen? ⟨g,o+i,none⟩=false:=by
   rcases hfz with rfl|hfz
   ·simp[World.frozen?,hg]
   ·obtain⟨lo,hi'⟩:=fz;simp only[World.frozen?,hg,Bool.and_eq_false_iff,decide_eq_false_iff_not];left;simp only at hfz;omega
  have hst:(store ((⟨g,o,none⟩:Addr).add i) v).run P w= .ok () (w.setRow g (cur.setIfInBounds (o+i) v)):=by
   rw[hadd,run_store P w _ v _ (h1 v (by simp)),hcell];simp[hfro,setCell_eq_setRow w g (o+i) cur t fz v hg]
  have ih:=run_storeCells_fz P g o t fz rest (i+1) (cur.setIfInBounds (o+i) v) (w.setRow g (cur.setIfInBounds (o+i) v)) (setRow_heap w g cur _ t _ hg) (hfz.imp (fun q=>q) (fun q=>by simpa using q)) (by simp at hl⊢;omega) (fun x hx=>h1 x (by simp[hx]));simp only[storeCells,Sem.run_bind,hst,Result.andThen_ok,ih,setRow_setRow]
  congr 3
  have e:=list_seg_step cur.toList (o+i) v rest (by simp at hl⊢;omega);simpa[Array.toList_setIfInBounds,Nat.add_assoc]using e
theorem write_row' (hs:Sim C.G w X ρ h){id off:Nat}{cs:List AV}(hid:h[id]?=some (.row cs)){vs:List AV}(hle:off≤cs.length)
 (hfit:∀(cur:Array Value) (t:TypeId) (fz:Nat × Nat),w.heap[ρ id]?=some (.cells cur t fz)→off+vs.length≤cur.size) {vals:List Value} (hlen:vals.length=vs.length)
 (hone:∀v∈vals,v.oneCell'=true) (hrel:∀(k:Nat) (x:AV),vs[k]?=some x→Rp w (tot X ρ h) ρ h.length (vals.getD k undef) x):
 ∃w',(storeCells ⟨ρ id,off,none⟩ vals).run C.P w= .ok () w'∧Ext C.G w X ρ h w' ρ (h.set id (.row (splice cs off vs))):=by
 obtain⟨cur,t0,fz,us,c1,hfz,c2,c3⟩:=hs.row id cs hid;have hfit':=hfit cur t0 fz c1;have hst:=run_storeCells_fz C.P (ρ id) off t0 fz vals 0 cur w c1 (.inl hfz.eq) (by omega) hone;refine⟨_,hst,?_⟩;have hsz:(cur.toList.take (off+0)++vals++cur.toList.drop (off+0+vals.length)).toArray.size=cur.size:=by simp;omega
 refine ext_write (w':=w.setRow (ρ id) (cur.toList.take (off+0)++vals++cur.toList.drop (off+0+vals.length)).toArray) hs id cs hid cur _ t0 fz hfz c1 rfl rfl rfl (by simp[World.setRow]) (setRow_heap w (ρ id) cur _ t0 _ c1) hsz (fun b hb=>setRow_other w (ρ id) b _ hb) (splice cs off vs)
  (fun k=>(cur.toList.take (off+0)++vals++cur.toList.drop (off+0+vals.length)).getD k undef) (by rw[splice_length' hle,hsz];omega) ?_
 intro k x hk;rw[splice_get hle]at hk;by_cases hin:off≤k∧k<off+vs.length
 ·rw[if_pos hin]at hk;have hv:(cur.toList.take (off+0)++vals++cur.toList.drop (off+0+vals.length))[k]?=some (vals.getD (k-off) undef):=by
   rw[Zp,Zf (by simp;omega),Zd (by simp;omega)];have:k-off<vals.length:=by omega
   simp[show min off cur.size=off by omega,List.getD,Zb this]
  have hm:vals.getD (k-off) undef∈vals:=by
   have:k-off<vals.length:=by omega
   simp[List.getD,Zb this]
  refine⟨by rw[List.getElem?_toArray];simp only[List.getD,hv,Option.getD_some],?_,?_⟩
  ·simp only[List.getD,hv,Option.getD_some];exact hone _ hm
  ·simp only[List.getD,hv,Option.getD_some];have:=hrel (k-off) x hk;simpa[List.getD]using this
 ·rw[if_neg hin]at hk;have h3:=c3 k x hk;have hv:(cur.toList.take (off+0)++vals++cur.toList.drop (off+0+vals.length))[k]?=some (us k):=by
   have hck:cur.toList[k]?=some (us k):=by simpa using h3.1
   by_cases h4:k<off
   ·rw[Zp,Zd (by simp;omega),List.getElem?_take,if_pos (by omega)];exact hck
   ·rw[Zf (by simp;omega),List.getElem?_drop,←hck]
    congr 1
    simp;omega
  refine⟨by rw[List.getElem?_toArray];simp only[List.getD,hv,Option.getD_some],?_,?_⟩
  ·simp only[List.getD,hv,Option.getD_some];exact h3.2.1
  ·simp only[List.getD,hv,Option.getD_some];exact h3.2.2
theorem write_row (hs:Sim C.G w X ρ h){id off:Nat}{cs:List AV}(hid:h[id]?=some (.row cs)){vs:List AV}(hle:off+vs.length≤cs.length){vals:List Value}(hlen:vals.length=vs.length)
 (hone:∀v∈vals,v.oneCell'=true) (hrel:∀(k:Nat) (x:AV),vs[k]?=some x→Rp w (tot X ρ h) ρ h.length (vals.getD k undef) x):
 ∃w',(storeCells ⟨ρ id,off,none⟩ vals).run C.P w= .ok () w'∧Ext C.G w X ρ h w' ρ (h.set id (.row (splice cs off vs))):=
 write_row' hs hid (by omega) (fun cur t fz hc=>by
  obtain⟨cur',t',fz',us,c1,_,c2,c3⟩:=hs.row id cs hid;rw[hc]at c1;cases c1;omega) hlen hone hrel
theorem write_raw (hs:Sim C.G w X ρ h){id off:Nat}{cs:List AV}(hid:h[id]?=some (.raw cs)){vs:List AV}(hle:off+vs.length≤cs.length){vals:List Value}(hlen:vals.length=vs.length)
 (hone:∀v∈vals,v.oneCell'=true) (hrel:∀(k:Nat) (x:AV),vs[k]?=some x→Rp w (tot X ρ h) ρ h.length (vals.getD k undef) x):
 ∃w',(storeCells ⟨ρ id,off,none⟩ vals).run C.P w= .ok () w'∧Ext C.G w X ρ h w' ρ (h.set id (.raw (splice cs off vs))):=by
 obtain⟨cur,t0,fz,us,c1,hfz,c2,c3⟩:=hs.blk id _ hid;have hst:=run_storeCells_fz C.P (ρ id) off t0 fz vals 0 cur w c1 hfz (by omega) hone;refine⟨_,hst,?_⟩;have hsz:(cur.toList.take (off+0)++vals++cur.toList.drop (off+0+vals.length)).toArray.size=cur.size:=by simp;omega
 refine ext_turn (w':=w.setRow (ρ id) (cur.toList.take (off+0)++vals++cur.toList.drop (off+0+vals.length)).toArray) hs id (.raw cs) (.raw (splice cs off vs)) hid rfl rfl rfl rfl rfl (by simp[World.setRow]) (fun c t f hc=>by rw[c1]at hc;cases hc;exact⟨_,_,_,setRow_heap w (ρ id) cur _ t0 _ c1,hsz⟩) (fun b hb=>setRow_other w (ρ id) b _ hb)
  ⟨_,t0,fz,fun k=>(cur.toList.take (off+0)++vals++cur.toList.drop (off+0+vals.length)).getD k undef,setRow_heap w (ρ id) cur _ t0 _ c1,hfz.imp (fun q=>q) (fun q=>by rw[hsz];exact q),by rw[splice_length' (by omega),hsz];omega,?_⟩
 intro k x hk;rw[splice_get (by omega)]at hk;by_cases hin:off≤k∧k<off+vs.length
 ·rw[if_pos hin]at hk;have hv:(cur.toList.take (off+0)++vals++cur.toList.drop (off+0+vals.length))[k]?=some (vals.getD (k-off) undef):=by
   rw[Zp,Zf (by simp;omega),Zd (by simp;omega)];have:k-off<vals.length:=by omega
   simp[show min off cur.size=off by omega,List.getD,Zb this]
  have hm:vals.getD (k-off) undef∈vals:=by
   have:k-off<vals.length:=by omega
   simp[List.getD,Zb this]
  refine⟨by rw[List.getElem?_toArray];simp only[List.getD,hv,Option.getD_some],?_,?_⟩
  ·simp only[List.getD,hv,Option.getD_some];exact hone _ hm
  ·simp only[List.getD,hv,Option.getD_some];have:=hrel (k-off) x hk;simpa[List.getD]using this
 ·rw[if_neg hin]at hk;have h3:=c3 k x hk;have hv:(cur.toList.take (off+0)++vals++cur.toList.drop (off+0+vals.length))[k]?=some (us k):=by
   have hck:cur.toList[k]?=some (us k):=by simpa using h3.1
   by_cases h4:k<off
   ·rw[Zp,Zd (by simp;omega),List.getElem?_take,if_pos (by omega)];exact hck
   ·rw[Zf (by simp;omega),List.getElem?_drop,←hck]
    congr 1
    simp;omega
  refine⟨by rw[List.getElem?_toArray];simp only[List.getD,hv,Option.getD_some],?_,?_⟩
  ·simp only[List.getD,hv,Option.getD_some];exact h3.2.1
  ·simp only[List.getD,hv,Option.getD_some];exact h3.2.2
theorem g_store (hs:Sim C.G w X ρ h)(hf:RF w (tot X ρ h) ρ h.length a.tmps fr){t:TypeId}{x y:Operand}(hop:o.op= .store t x y){i:Ti}(hi:tiOf C.P t=some i){id off:Nat}{cs vs:List AV}
 (hx:ev C fr x= .pt id off) (hid:h[id]?=some (.row cs)) (hv:cls (ev C fr y)=some vs) (hl:vs.length=i.size) (hle:off+i.size≤cs.length):
 Good C o a w X ρ h .un (h.set id (.row (splice cs off vs))):=by
 obtain⟨d,info,z,h1,h2,h3,h4,h5,h6,h7,h8,h9⟩:=tiOf_spec hi;have e1:=ev_rp hs hf x;rw[hx]at e1;obtain⟨e2,e3⟩:=e1.pt_inv;obtain⟨f1,f2,f3⟩:=(ev_rp hs hf y).cls_inv hv;obtain⟨w',hw,he⟩:=write_row hs hid (off:=off) (vs:=vs) (by omega) (vals:=(a.eval y).cells.toList) (by simpa using f1) (fun v hv=>by
  obtain⟨k,hk,rfl⟩:=List.getElem_of_mem hv;have:=f2 k (by simpa using hk);simp at hk;simpa[hk]using this) (fun k x hk=>by simpa[List.getD]using f3 k x hk)
 refine good_skip ?_ he;have hne:¬(a.eval y).cells.size≠info.size:=by omega
 simp only[execOp,hop,Instr.storeAt,Instr.sureAddr,e2,storeVar,Sem.run_bind,Sem.run_pure,Result.andThen_ok,run_size h2,hne,if_false,hw]
theorem g_storeR (hs:Sim C.G w X ρ h)(hf:RF w (tot X ρ h) ρ h.length a.tmps fr){t:TypeId}{x y:Operand}(hop:o.op= .store t x y){i:Ti}(hi:tiOf C.P t=some i){id off:Nat}{cs vs:List AV}
 (hx:ev C fr x= .pt id off) (hid:h[id]?=some (.raw cs)) (hv:cls (ev C fr y)=some vs) (hl:vs.length=i.size) (hle:off+i.size≤cs.length):
 Good C o a w X ρ h .un (h.set id (.raw (splice cs off vs))):=by
 obtain⟨d,info,z,h1,h2,h3,h4,h5,h6,h7,h8,h9⟩:=tiOf_spec hi;have e1:=ev_rp hs hf x;rw[hx]at e1;obtain⟨e2,e3⟩:=e1.pt_inv;obtain⟨f1,f2,f3⟩:=(ev_rp hs hf y).cls_inv hv;obtain⟨w',hw,he⟩:=write_raw hs hid (off:=off) (vs:=vs) (by omega) (vals:=(a.eval y).cells.toList) (by simpa using f1) (fun v hv=>by
  obtain⟨k,hk,rfl⟩:=List.getElem_of_mem hv;have:=f2 k (by simpa using hk);simp at hk;simpa[hk]using this) (fun k x hk=>by simpa[List.getD]using f3 k x hk)
 refine good_skip ?_ he;have hne:¬(a.eval y).cells.size≠info.size:=by omega
 simp only[execOp,hop,Instr.storeAt,Instr.sureAddr,e2,storeVar,Sem.run_bind,Sem.run_pure,Result.andThen_ok,run_size h2,hne,if_false,hw]
theorem g_nil (hs:Sim C.G w X ρ h)(hf:RF w (tot X ρ h) ρ h.length a.tmps fr){x:Operand}(hop:o.op= .nilCheck x)(hx:(∃id off,ev C fr x= .pt id off)∨(∃row j,ev C fr x= .rp row j)∨∃f cs,ev C fr x= .fn f cs):
 Good C o a w X ρ h (ev C fr x) h:=by
 have h1:=ev_rp hs hf x;refine good_same hs (v:=a.eval x) ?_ h1;rcases hx with⟨id,off,hx⟩|⟨row,j,hx⟩|⟨f,cs,hx⟩<;>rw[hx]at h1
 ·simp only[execOp,hop,h1.pt_inv.1,Sem.run_pure]
 ·have h2:=h1.rp_inv;cases hq:a.eval x<;>rw[hq]at h2<;>cases h2;simp only[execOp,hop,hq,Sem.run_pure]
 ·obtain⟨us,h2,_⟩:=h1.fn_inv;simp only[execOp,hop,h2,Sem.run_pure]
theorem g_field (hs:Sim C.G w X ρ h)(hf:RF w (tot X ρ h) ρ h.length a.tmps fr){t:TypeId}{x:Operand}{f:Nat}(hop:o.op= .fieldAddr t x f){i:Ti}(hi:tiOf C.P t=some i){fs:List (Nat × Nat × Bool)}
 (hk:i.kd= .struct fs) {of sz:Nat} {ag:Bool} (hfd:fs[f]?=some (of,sz,ag)) (hsz:sz≠0):
 (∀id off,ev C fr x= .pt id off→Good C o a w X ρ h (.pt id (off+of)) h)∧(∀row j,ev C fr x= .rp row j→Good C o a w X ρ h (.rp row (j+of)) h):=by
 obtain⟨d,info,z,h1,h2,h3,h4,h5,h6,h7,h8,h9⟩:=tiOf_spec hi;rw[hk]at h4;obtain⟨fields,rfl,hlen,hget⟩:=kdOf_struct h4;have hflt:f<fields.size:=by have:=(Za.1 hfd).1;omega
 obtain⟨fi,fd,g1,g2,g3⟩:=hget f fields[f] (Array.getElem?_eq_getElem hflt);rw[hfd]at g3;simp only[Zc,Zg]at g3;obtain⟨rfl,rfl,rfl⟩:=g3;have e1:=ev_rp hs hf x;constructor
 ·intro id off hx;rw[hx]at e1;obtain⟨e2,e3⟩:=e1.pt_inv;refine good_same hs (v:= .pointer (some ⟨ρ id,off+fields[f].offset,none⟩)) ?_ (.pt id _ e3);simp only[execOp,hop,Instr.fieldAt,run_underlying h1,Sem.run_bind,Result.andThen_ok,Array.getElem?_eq_getElem hflt,e2,Instr.sureAddr,Sem.run_pure,fieldPlace,run_size g1,hsz,if_false,add_lit]
 ·intro row j hx;rw[hx]at e1;have e2:=e1.rp_inv;cases hq:a.eval x<;>rw[hq]at e2<;>cases e2;rename_i b o' us cur t0 fz c1 c2 c3 c4;refine good_same hs (v:= .pointer (some ⟨b,o'+(j+fields[f].offset),none⟩)) ?_ (.im (.rp b o' _ row us cur t0 fz c1 c2 c3 c4));simp only[execOp,hop,Instr.fieldAt,run_underlying h1,Sem.run_bind,Result.andThen_ok,Array.getElem?_eq_getElem hflt,hq,Instr.sureAddr,Sem.run_pure,fieldPlace,run_size g1,hsz,if_false,add_lit,Nat.add_assoc]
theorem g_indexS (hs:Sim C.G w X ρ h)(hf:RF w (tot X ρ h) ρ h.length a.tmps fr){t:TypeId}{x ix:Operand}(hop:o.op= .indexAddr t x ix){i:Ti}(hi:tiOf C.P t=some i){sz by':Nat}{ag:Bool}{ez:List Value}
 (hk:i.kd= .slice sz ag by' ez) {n:Nat} (hn:natOf (ev C fr ix)=some n):
 (∀id off len k,ev C fr x= .sl id sz off len k→n<len→Good C o a w X ρ h (.pt id (off+n*sz)) h)∧(∀rows z row,ev C fr x= .ls sz rows z→rows[n]?=some row→Good C o a w X ρ h (.rp row 0) h):=by
 obtain⟨d,info,z,h1,h2,h3,h4,h5,h6,h7,h8,h9⟩:=tiOf_spec hi;rw[hk]at h4;obtain⟨e,ei,ed,ez',rfl,k1,k2,k3,rfl,k5,k6,k7,k8,k9,k10⟩:=kdOf_slice h4;obtain⟨kk,j,hj,hj0,hjn⟩:=natOf_inv (ev_rp hs hf ix) hn;have e1:=ev_rp hs hf x;constructor
 ·intro id off len k hx hlt;rw[hx]at e1;obtain⟨cap,cur,t0,fz,e2,e3,e4,_,_,e6,e7⟩:=e1.sl_inv;refine good_same hs (v:= .pointer (some ⟨ρ id,off+n*ei.size,none⟩)) ?_ (.pt id _ e3);have hc:0≤j∧j< (len:Int):=by omega
  simp only[execOp,hop,Instr.indexAt,hj,asIntOf,e2,run_underlying h1,Sem.run_bind,Result.andThen_ok,Sem.run_pure,hc,and_self,if_true,run_size k1,add_lit,hjn]
 ·intro rows zz row hx hrow;rw[hx]at e1;rcases e1.ls_inv.ls_cases with⟨rfl,_⟩|⟨b,o',cap,us,cur,t0,fz,hq,c1,c2,c4,c5,c6,c7,c8⟩
  ·simp at hrow
  ·have hlt:n<rows.length:=(Za.1 hrow).1;have hc:0≤j∧j< (rows.length:Int):=by omega
   refine good_same hs (v:= .pointer (some ⟨b,(o'+n*ei.size)+0,none⟩)) ?_ (.im (.rp b _ 0 row (us n) cur t0 fz c1 c2 (fun k x hk=>⟨(c8 n row k x hrow hk).1,(c8 n row k x hrow hk).2.1⟩) (fun k x hk=>(c8 n row k x hrow hk).2.2)));simp only[execOp,hop,Instr.indexAt,hj,asIntOf,hq,run_underlying h1,Sem.run_bind,Result.andThen_ok,Sem.run_pure,hc,and_self,if_true,run_size k1,add_lit,hjn,Nat.add_zero]
theorem g_indexA (hs:Sim C.G w X ρ h)(hf:RF w (tot X ρ h) ρ h.length a.tmps fr){t:TypeId}{x ix:Operand}(hop:o.op= .indexAddr t x ix){i:Ti}(hi:tiOf C.P t=some i){m sz:Nat}{ag:Bool}
 (hk:i.kd= .array m sz ag) {n:Nat} (hn:natOf (ev C fr ix)=some n) (hlt:n<m):
 (∀id off,ev C fr x= .pt id off→Good C o a w X ρ h (.pt id (off+n*sz)) h)∧(∀row j,ev C fr x= .rp row j→Good C o a w X ρ h (.rp row (j+n*sz)) h):=by
 obtain⟨d,info,z,h1,h2,h3,h4,h5,h6,h7,h8,h9⟩:=tiOf_spec hi;rw[hk]at h4;obtain⟨e,ei,ed,rfl,k1,k2,rfl,k4⟩:=kdOf_array h4;obtain⟨kk,j0,hj,hj0,hjn⟩:=natOf_inv (ev_rp hs hf ix) hn;have e1:=ev_rp hs hf x;have hc:0≤j0∧j0< (m:Int):=by omega
 constructor
 ·intro id off hx;rw[hx]at e1;obtain⟨e2,e3⟩:=e1.pt_inv;refine good_same hs (v:= .pointer (some ⟨ρ id,off+n*ei.size,none⟩)) ?_ (.pt id _ e3);simp only[execOp,hop,Instr.indexAt,hj,asIntOf,e2,run_underlying h1,Sem.run_bind,Result.andThen_ok,Sem.run_pure,Instr.sureAddr,hc,and_self,if_true,run_size k1,add_lit,hjn]
 ·intro row j hx;rw[hx]at e1;have e2:=e1.rp_inv;cases hq:a.eval x<;>rw[hq]at e2<;>cases e2;rename_i b o' us cur t0 fz c1 c2 c3 c4;refine good_same hs (v:= .pointer (some ⟨b,o'+(j+n*ei.size),none⟩)) ?_ (.im (.rp b o' _ row us cur t0 fz c1 c2 c3 c4));simp only[execOp,hop,Instr.indexAt,hj,asIntOf,hq,run_underlying h1,Sem.run_bind,Result.andThen_ok,Sem.run_pure,Instr.sureAddr,hc,and_self,if_true,run_size k1,add_lit,hjn,Nat.add_assoc]
theorem part_run {P:Program}{n:Nat}{t:TypeId}{d:TypeDesc}{info:TypeInfo}(h1:P.underlying t=some d)(h2:P.info? t=some info){us:Array Value}{xs:List AV}(hl:us.size=xs.length)
 (hone:∀k,k<us.size→(us.getD k undef).oneCell'=true) (hrel:∀(k:Nat) (x:AV),xs[k]?=some x→Rp w X ρ n (us.getD k undef) x) {off:Nat} {y:AV} (hp:part (aggD d) off info.size xs=some y):
 ∃v,(Go.part t us off).run P w= .ok v w∧Rp w X ρ n v y:=by
 unfold part at hp;cases ha:aggD d with
 |
  true=>
  simp only[ha,if_true]at hp;split at hp
  ·rename_i hle;simp only[Zc]at hp;subst hp;refine⟨.agg (us.extract off (off+info.size)),?_,.ag _ _ (by simp;omega) (fun k hk=>?_) fun k x hk=>?_⟩
   ·simp[Go.part,run_isAgg h1,ha,run_size h2]
   ·have hk':off+k<us.size:=by simp at hk;omega
    have:=hone (off+k) hk';simp at hk;simpa[Array.getElem?_extract,hk',show k<min (off+info.size) us.size-off by omega]using this
   ·rw[List.getElem?_take]at hk;split at hk
    ·rename_i hlt;rw[List.getElem?_drop]at hk;have hk':off+k<us.size:=by have:=(Za.1 hk).1;omega
     have:=hrel (off+k) x hk;simpa[Array.getElem?_extract,hk',show k<min (off+info.size) us.size-off by omega]using this
    ·cases hk
  ·cases hp
 |
  false=>
  simp only[ha]at hp;have hp':xs[off]?=some y:=by simpa using hp
  have hlt:off<us.size:=by have:=(Za.1 hp').1;omega
  refine⟨us[off],?_,by simpa[hlt]using hrel off y hp'⟩;simp[Go.part,run_isAgg h1,ha,hlt]
theorem g_fieldV (hs:Sim C.G w X ρ h)(hf:RF w (tot X ρ h) ρ h.length a.tmps fr){t:TypeId}{x:Operand}{f:Nat}(hop:o.op= .field t x f){i:Ti}(hi:tiOf C.P t=some i){fs:List (Nat × Nat × Bool)}
 (hk:i.kd= .struct fs) {of sz:Nat} {ag:Bool} (hfd:fs[f]?=some (of,sz,ag)) {cs:List AV} (hx:ev C fr x= .ag cs) {y:AV} (hp:part ag of sz cs=some y):Good C o a w X ρ h y h:=by
 obtain⟨d,info,z,h1,h2,h3,h4,h5,h6,h7,h8,h9⟩:=tiOf_spec hi;rw[hk]at h4;obtain⟨fields,rfl,hlen,hget⟩:=kdOf_struct h4;have hflt:f<fields.size:=by have:=(Za.1 hfd).1;omega
 obtain⟨fi,fd,g1,g2,g3⟩:=hget f fields[f] (Array.getElem?_eq_getElem hflt);rw[hfd]at g3;simp only[Zc,Zg]at g3;obtain⟨rfl,rfl,rfl⟩:=g3;have e1:=ev_rp hs hf x;rw[hx]at e1;obtain⟨us,e2,e3,e4,e5⟩:=e1.ag_inv;obtain⟨v,hv,hr⟩:=part_run (P:=C.P) g2 g1 e3 e4 e5 hp;refine good_same hs (v:=v) ?_ hr;simp only[execOp,hop,Instr.field,run_underlying h1,Sem.run_bind,Result.andThen_ok,Array.getElem?_eq_getElem hflt,e2,asAgg,Sem.run_pure,hv]
theorem g_indexV (hs:Sim C.G w X ρ h)(hf:RF w (tot X ρ h) ρ h.length a.tmps fr){t:TypeId}{x ix:Operand}(hop:o.op= .index t x ix){i:Ti}(hi:tiOf C.P t=some i){m sz:Nat}{ag:Bool}
 (hk:i.kd= .array m sz ag) {n:Nat} (hn:natOf (ev C fr ix)=some n) (hlt:n<m) {cs:List AV} (hx:ev C fr x= .ag cs) {y:AV} (hp:part ag (n*sz) sz cs=some y):Good C o a w X ρ h y h:=by
 obtain⟨d,info,z,h1,h2,h3,h4,h5,h6,h7,h8,h9⟩:=tiOf_spec hi;rw[hk]at h4;obtain⟨e,ei,ed,rfl,k1,k2,rfl,rfl⟩:=kdOf_array h4;obtain⟨kk,j0,hj,hj0,hjn⟩:=natOf_inv (ev_rp hs hf ix) hn;have hc:0≤j0∧j0< (m:Int):=by omega
 have e1:=ev_rp hs hf x;rw[hx]at e1;obtain⟨us,e2,e3,e4,e5⟩:=e1.ag_inv;obtain⟨v,hv,hr⟩:=part_run (P:=C.P) k2 k1 e3 e4 e5 hp;refine good_same hs (v:=v) ?_ hr;simp only[execOp,hop,Instr.index,hj,asIntOf,run_underlying h1,Sem.run_bind,Result.andThen_ok,e2,Sem.run_pure,hc,and_self,if_true,run_size k1,hjn,hv]
theorem g_extract (hs:Sim C.G w X ρ h)(hf:RF w (tot X ρ h) ρ h.length a.tmps fr){x:Operand}{i:Nat}(hop:o.op= .extract x i){vs:List AV}(hx:ev C fr x= .tp vs){y:AV}(hy:vs[i]?=some y):Good C o a w X ρ h y h:=by
 have e1:=ev_rp hs hf x;rw[hx]at e1;obtain⟨us,e2,e3,e4⟩:=e1.tp_inv;have hlt:i<us.size:=by have:=(Za.1 hy).1;omega
 refine good_same hs (v:=us.getD i undef) ?_ (e4 i y hy);simp[execOp,hop,Instr.extract,e2,hlt]
theorem g_makeFunc (hs:Sim C.G w X ρ h)(hf:RF w (tot X ρ h) ρ h.length a.tmps fr){f:FuncId}{first caps:Array Operand}(hop:o.op= .makeFunc (.func f) first caps)(h0:first.isEmpty=true):
 Good C o a w X ρ h (.fn f (caps.toList.map (ev C fr))) h:=by
 have:first= #[]:=by simpa using h0
 subst this;refine good_same hs (v:= .func (.func f) #[] (caps.map a.eval)) ?_ ?_
 ·simp[execOp,hop,Instr.makeFunc]
 ·refine .fn f _ _ (by simp) fun k x hk=>?_
  simp only[Zs,Ze]at hk;obtain⟨y,hy,rfl⟩:=hk;have hy':caps[k]?=some y:=by simpa using hy
  have:=ev_rp hs hf y;simpa[hy']using this
theorem g_len (hs:Sim C.G w X ρ h)(hf:RF w (tot X ρ h) ρ h.length a.tmps fr){x:Operand}{t:TypeId}{args:Array Operand}{tys:Array TypeId}(hop:o.op= .call {callee:= .builtin .len,args:=args,argTypes:=tys})(ha:args.toList=[x])(ht:tys.toList=[t])
 {i:Ti} (hi:tiOf C.P t=some i) {sz by':Nat} {ag:Bool} {ez:List Value} (hk:i.kd= .slice sz ag by' ez) {n:Nat} (hn:lenA (ev C fr x)=some n):Good C o a w X ρ h (.sc (.int .i64 n)) h:=by
 obtain⟨d,info,z,h1,h2,h3,h4,h5,h6,h7,h8,h9⟩:=tiOf_spec hi;rw[hk]at h4;obtain⟨e,ei,ed,ez',rfl,_⟩:=kdOf_slice h4;obtain⟨args⟩:=args;obtain⟨tys⟩:=tys;simp only at ha ht;subst ha ht;have e1:=ev_rp hs hf x;have hval:∃b cap,a.eval x= .slice b n cap:=by
  cases hx:ev C fr x<;>rw[hx]at e1 hn<;>simp[lenA]at hn
  ·rcases e1.ls_inv.ls_cases with⟨rfl,b,cap,hq,_⟩|⟨b,o',cap,us,cur,t0,fz,hq,_⟩
   ·exact⟨b,cap,by rw[hq,←hn];rfl⟩
   ·exact⟨_,cap,by rw[hq,hn]⟩
  ·obtain⟨cap,_,_,_,e2,_⟩:=e1.sl_inv;exact⟨_,cap,by rw[e2,hn]⟩
 obtain⟨b,cap,hq⟩:=hval;refine good_same hs (v:= .int .i64 n) ?_ (.im (.sc _ rfl));simp[execOp,hop,resolve,invoke,builtin,Builtin.len_,hq,run_underlying h1,goInt]
end ops
end Go.Ae
