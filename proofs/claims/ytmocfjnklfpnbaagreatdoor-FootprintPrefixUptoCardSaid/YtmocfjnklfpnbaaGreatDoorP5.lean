/- The abstract evaluator, part 5: literals, slices, append, copy. -/
import Derived.Test.YtmocfjnklfpnbaaGreatDoorP4
import Derived.IntWalk
set_option linter.all false
namespace Go.Ae
open Go
def none' :Nat→Prop:=fun _=>False
theorem quiet_step {w w':World}{ρ:Nat→Nat}{h:Hp}(hst:Step w none' w' none'):Step w (own ρ h) w' (own ρ h):=
 ⟨hst.os,hst.tape,hst.output,hst.size,fun b hb _=>hst.keep b hb (fun h=>h),hst.row,fun _ _ hh=>hh,hst.drew⟩
theorem ext_quiet {G:Nat→Option (List Value)}{w w':World}{X:Nat→Prop}{ρ:Nat→Nat}{h:Hp}(hs:Sim G w X ρ h)(hst:Step w none' w' none'):Ext G w X ρ h w' ρ h:=by
 have hk:∀b o,w.heap[b]?=some o→w'.heap[b]?=some o:=fun b o hb=>(hst.keep b (heap_lt hb) (fun h=>h)).trans hb
 have hstep:Step w (own ρ h) w' (own ρ h):=quiet_step hst;refine⟨⟨fun b hb=>Nat.lt_of_lt_of_le (hs.xlt b hb) hst.size,fun g row hg=>?_,hs.inj,hs.out,hs.cold,?_⟩,fun _ _=>rfl,Nat.le_refl _,hstep⟩
 ·obtain⟨h1,c,t,fz,h2,h3⟩:=hs.glob g row hg;exact⟨h1,c,t,fz,hk g _ h2,h3⟩
 ·intro i b hi;by_cases hd:b= .dead
  ·subst hd;trivial
  ·have hb:=hs.blk i b hi;rw[hst.keep _ (hb.lt hd) (fun h=>h)];exact hb.step hstep (fun _ _=>rfl) (Nat.le_refl _)
theorem calm_ri {w:World}{X:Nat→Prop}{ρ:Nat→Nat}{n:Nat}{v:Value}{x:AV}(h:Rp w X ρ n v x)(hc:calm x=true):Ri w X v x:=by
 have one:∀{v:Value} {x:AV},Rp w X ρ n v x→(match x with| .sc _| .ls .. | .rp .. =>true|_=>false)=true→Ri w X v x:=by
  intro v x h hx;cases h with
  |im hi=>exact hi
  |_=>simp at hx
 unfold calm at hc;split at hc
 ·exact one h rfl
 ·exact one h rfl
 ·exact one h rfl
 ·rename_i xs;obtain⟨us,rfl,h1,h2,h3⟩:=h.ag_inv;rw[List.all_eq_true]at hc;exact .ag us xs h1 h2 fun k x hk=>one (h3 k x hk) (hc x (Zi hk))
 ·rename_i xs;obtain⟨us,rfl,h1,h3⟩:=h.fn_inv;rw[List.all_eq_true]at hc;exact .fn _ us xs h1 fun k x hk=>one (h3 k x hk) (hc x (Zi hk))
 ·cases hc
def RC (w:World)(X:Nat→Prop)(ρ:Nat→Nat)(n:Nat)(us:Array Value)(xs:List AV):Prop:=
 us.size=xs.length∧(∀k,k<us.size→(us.getD k undef).oneCell'=true)∧∀(k:Nat) (x:AV),xs[k]?=some x→Rp w X ρ n (us.getD k undef) x
theorem foldl_set_get (off:Nat):∀(vs:List Value) (s:Nat) (cells:Array Value) (k:Nat),off+s+vs.length≤cells.size→
 ((vs.zipIdx s).foldl (fun cs p=>cs.setIfInBounds (off+p.2) p.1) cells)[k]?=if off+s≤k∧k<off+s+vs.length then vs[k-(off+s)]? else cells[k]?
 | [],s,cells,k,_=>by simp;omega
 |
  v::vs,s,cells,k,hle=>by
  simp only[List.length_cons]at hle;simp only[List.zipIdx_cons,List.foldl_cons];rw[foldl_set_get off vs (s+1) _ k (by simp;omega)];by_cases h1:off+s=k
  ·subst h1;rw[if_neg (by omega),if_pos (by simp)];have:off+s<cells.size:=by omega
   simp[this]
  ·by_cases h2:off+(s+1)≤k∧k<off+(s+1)+vs.length
   ·rw[if_pos h2,if_pos (by simp only[List.length_cons];omega)];have:k-(off+s)=(k-(off+(s+1)))+1:=by omega
    rw[this,Ye]
   ·rw[if_neg h2,if_neg (by simp only[List.length_cons];omega),Array.getElem?_setIfInBounds_ne h1]
theorem foldl_set_size (off:Nat):∀(vs:List Value) (s:Nat) (cells:Array Value),((vs.zipIdx s).foldl (fun cs p=>cs.setIfInBounds (off+p.2) p.1) cells).size=cells.size
 | [],s,cells=>rfl
 |v::vs,s,cells=>by simp only[List.zipIdx_cons,List.foldl_cons];rw[foldl_set_size off vs (s+1)];simp
section lit
variable {C : Cx} {w : World} {X : Nat → Prop} {ρ : Nat → Nat} {h : Hp} {a : Act} {fr : List AV} {o : Oper}
theorem RC.set {n:Nat}{us:Array Value}{xs:List AV}(hr:RC w X ρ n us xs){v:Value}{ys:List AV}(h1:v.cells.size=ys.length)(h2:∀k,k<v.cells.size→(v.cells.getD k undef).oneCell'=true)
 (h3:∀(k:Nat) (y:AV),ys[k]?=some y→Rp w X ρ n (v.cells.getD k undef) y) {off:Nat} (hle:off+ys.length≤xs.length):
 RC w X ρ n (v.cells.zipIdx.foldl (fun cs (p:Value × Nat)=>cs.setIfInBounds (off+p.2) p.1) us) (splice xs off ys):=by
 obtain⟨r1,r2,r3⟩:=hr;have e:v.cells.zipIdx.foldl (fun cs (p:Value × Nat)=>cs.setIfInBounds (off+p.2) p.1) us=(v.cells.toList.zipIdx 0).foldl (fun cs p=>cs.setIfInBounds (off+p.2) p.1) us:=by
  rw[←Array.foldl_toList,Array.toList_zipIdx]
 rw[e];have hget:=fun k=>foldl_set_get off v.cells.toList 0 us k (by simp;omega)
 simp only[Nat.add_zero,Array.length_toList]at hget;have hval:∀k,((v.cells.toList.zipIdx 0).foldl (fun cs (p:Value × Nat)=>cs.setIfInBounds (off+p.2) p.1) us).getD k undef=if off≤k∧k<off+v.cells.size then v.cells.getD (k-off) undef else us.getD k undef:=by
  intro k;rw[Zr,hget k];split
  ·simp[Zr]
  ·simp[Zr]
 refine⟨by rw[foldl_set_size,splice_length hle];exact r1,fun k hk=>?_,fun k x hk=>?_⟩
 ·rw[hval];rw[foldl_set_size]at hk;by_cases hc:off≤k∧k<off+v.cells.size
  ·rw[if_pos hc];exact h2 _ (by omega)
  ·rw[if_neg hc];exact r2 k hk
 ·rw[hval];rw[splice_get (by omega)]at hk;split at hk
  ·rename_i hc;rw[if_pos (by omega)];exact h3 _ x hk
  ·rename_i hc;rw[if_neg (by omega)];exact r3 k x hk
theorem fill_rel (hs:Sim C.G w X ρ h)(hf:RF w (tot X ρ h) ρ h.length a.tmps fr){pA pV:Nat→Option (Nat × Nat)}(hp:∀i q,pA i=some q→pV i=some q):
 ∀(ps:List (Nat × Operand)) (us:Array Value) (xs out:List AV),RC w (tot X ρ h) ρ h.length us xs→fillA pA xs (ps.map fun p=>(p.1,ev C fr p.2))=some out→
  ∃us',Instr.fill pV us (ps.map fun p=>(p.1,a.eval p.2))=some us'∧RC w (tot X ρ h) ρ h.length us' out
 | [],us,xs,out,hr,ho=>by simp[fillA]at ho;subst ho;exact⟨us,rfl,hr⟩
 |
  p::ps,us,xs,out,hr,ho=>by
  simp only[List.map_cons,fillA]at ho;split at ho
  ·rename_i off size cs hq hc;split at ho
   ·rename_i hcond;obtain⟨c1,c2,c3⟩:=(ev_rp hs hf p.2).cls_inv hc;have hr':=hr.set c1 c2 c3 (off:=off) (by omega);obtain⟨us',e1,e2⟩:=fill_rel hs hf hp ps _ _ out hr' ho;refine⟨us',?_,e2⟩;simp only[List.map_cons,Instr.fill,hp _ _ hq];rw[if_neg (by have:=hr.1;simp only[bne_iff_ne,ne_eq,Bool.or_eq_true,Zz,not_or];omega)];exact e1
   ·cases ho
  ·cases ho
theorem zero_RC {z:Value}(h8:∀u∈z.cells.toList,flat u=true)(n:Nat):RC w X ρ n z.cells (z.cells.toList.map .sc):=by
 refine⟨by simp,fun k hk=>?_,fun k x hk=>?_⟩
 ·have:z.cells.getD k undef∈z.cells.toList:=by simp[hk]
  exact flat_one (h8 _ this)
 ·simp only[Zs,Ze]at hk;obtain⟨u,hu,rfl⟩:=hk;have hu':z.cells[k]?=some u:=by simpa using hu
  have:z.cells.getD k undef=u:=by simp[hu']
  rw[this];exact .im (.sc u (h8 u (Zi hu)))
theorem places_run {P:Program}(w:World):∀(fs:List Field) (l:List (Nat × Nat × Bool)),l.length=fs.length→(∀(k:Nat) (f:Field),fs[k]?=some f→∃fi,P.info? f.type=some fi∧(l[k]?).map (fun q=>(q.1,q.2.1))=some (f.offset,fi.size))→
 (fs.mapM (m:=Sem) fun f=>do pure (f.offset,←sizeOf f.type)).run P w= .ok (l.map fun q=>(q.1,q.2.1)) w
 |
  [],l,hl,_=>by
  have:l=[]:=Zl (by simpa using hl);subst this;simp
 |
  f::fs,l,hl,hg=>by
  cases l with
  |nil=>simp at hl
  |
   cons q l=>
   obtain⟨fi,h1,h2⟩:=hg 0 f rfl;have ih:=places_run w fs l (by simpa using hl) (fun k f' hk=>by simpa using hg (k+1) f' (by simpa using hk));simp only[List.getElem?_cons_zero,Option.map_some,Zc]at h2;simp only[Zo,Sem.run_bind,run_size h1,Result.andThen_ok,Sem.run_pure,ih,List.map_cons,h2]
theorem g_build (hs:Sim C.G w X ρ h)(hf:RF w (tot X ρ h) ρ h.length a.tmps fr){t:TypeId}{parts:Array (Nat × Operand)}(hop:o.op= .build t parts){i:Ti}(hi:tiOf C.P t=some i){pA:Nat→Option (Nat × Nat)}
 (hk:(∃fs,i.kd= .struct fs∧pA=fun k=>(fs[k]?).map fun f=>(f.1,f.2.1))∨(∃n sz ag,i.kd= .array n sz ag∧pA=fun k=>some (k*sz,sz))) {cs:List AV}
 (hc:fillA pA (i.zero.map .sc) (parts.toList.map fun p=>(p.1,ev C fr p.2))=some cs):Good C o a w X ρ h (.ag cs) h:=by
 obtain⟨d,info,z,h1,h2,h3,h4,h5,h6,h7,h8,h9⟩:=tiOf_spec hi;rw[h7]at hc;have hz:=zero_RC (w:=w) (X:=tot X ρ h) (ρ:=ρ) h8 h.length;have hmap:(parts.map fun p=>(p.1,a.eval p.2)).toList=parts.toList.map fun p=>(p.1,a.eval p.2):=by simp
 rcases hk with⟨fs,hk,rfl⟩|⟨n,sz,ag,hk,rfl⟩
 ·rw[hk]at h4;obtain⟨fields,rfl,hlen,hget⟩:=kdOf_struct h4;have hpl:=places_run (P:=C.P) w fields.toList fs (by simpa using hlen) (fun k f hf'=>by
   obtain⟨fi,fd,g1,g2,g3⟩:=hget k f (by simpa using hf');exact⟨fi,g1,by rw[g3];rfl⟩)
  obtain⟨us',e1,e2⟩:=fill_rel hs hf (pV:=fun k=>((fs.map fun q=>(q.1,q.2.1)).toArray)[k]?) (fun k q hq=>by simpa using hq) parts.toList _ _ cs hz hc;refine good_same hs (v:= .agg us') ?_ (.ag us' cs e2.1 e2.2.1 e2.2.2);have hpl':(fields.mapM (m:=Sem) fun f=>do pure (f.offset,←sizeOf f.type)).run C.P w= .ok (fs.map fun q=>(q.1,q.2.1)).toArray w:=by
   rw[Array.mapM_eq_mapM_toList,Sem.run_map,hpl];rfl
  simp only[execOp,hop,Instr.build,Sem.run_bind,run_zero h2 h3,Result.andThen_ok,run_underlying h1,hpl',hmap,e1,Sem.run_pure]
 ·rw[hk]at h4;obtain⟨e,ei,ed,rfl,k1,k2,rfl,k4⟩:=kdOf_array h4;obtain⟨us',e1,e2⟩:=fill_rel hs hf (pV:=fun k=>some (k*ei.size,ei.size)) (fun k q hq=>hq) parts.toList _ _ cs hz hc;refine good_same hs (v:= .agg us') ?_ (.ag us' cs e2.1 e2.2.1 e2.2.2);simp only[execOp,hop,Instr.build,Sem.run_bind,run_zero h2 h3,Result.andThen_ok,run_underlying h1,run_size k1,hmap,e1,Sem.run_pure]
theorem rep_get {α:Type}(l:List α):∀(n k:Nat),((List.range n).flatMap fun _=>l)[k]?=if k<n*l.length then l[k % l.length]? else none
 |0,k=>by simp
 |
  n+1,k=>by
  have e:((List.range (n+1)).flatMap fun _=>l)=l++(List.range n).flatMap fun _=>l:=by
   rw[List.range_succ_eq_map,List.flatMap_cons,List.flatMap_map]
  rw[e];by_cases hk:k<l.length
  ·rw[Zd hk,if_pos (by rw[Nat.add_mul];omega),Nat.mod_eq_of_lt hk]
  ·rw[Zf (by omega),rep_get l n (k-l.length)];have hm:k % l.length=(k-l.length) % l.length:=by
    rw[Nat.mod_eq_sub_mod (by omega)]
   rw[hm];by_cases h2:k-l.length<n*l.length
   ·rw[if_pos h2,if_pos (by rw[Nat.add_mul];omega)]
   ·rw[if_neg h2,if_neg (by rw[Nat.add_mul];omega)]
theorem rep_length {α:Type}(l:List α)(n:Nat):((List.range n).flatMap fun _=>l).length=n*l.length:=by
 induction n with
 |zero=>simp
 |
  succ n ih=>
  have e:((List.range (n+1)).flatMap fun _=>l)=l++(List.range n).flatMap fun _=>l:=by
   rw[List.range_succ_eq_map,List.flatMap_cons,List.flatMap_map]
  rw[e,Zu,ih,Nat.add_mul];omega
theorem zeros_RC {z:Value}(h8:∀u∈z.cells.toList,flat u=true)(n m:Nat)(hz:0<z.cells.size):RC w X ρ n ((Array.range (m*z.cells.size)).map (z.cells[· % z.cells.size]!)) ((List.range m).flatMap fun _=>z.cells.toList.map .sc):=by
 refine⟨by rw[rep_length];simp,fun k hk=>?_,fun k x hk=>?_⟩
 ·simp only[Array.size_map,Array.size_range]at hk;have hm:k % z.cells.size<z.cells.size:=Nat.mod_lt _ hz;have:((Array.range (m*z.cells.size)).map (z.cells[· % z.cells.size]!)).getD k undef=z.cells[k % z.cells.size]:=by simp[hk,hm]
  rw[this];exact flat_one (h8 _ (by simp))
 ·rw[rep_get]at hk;simp only[List.length_map,Array.length_toList]at hk;split at hk
  ·rename_i hlt;simp only[Zs,Ze]at hk;obtain⟨u,hu,rfl⟩:=hk;have hm:k % z.cells.size<z.cells.size:=Nat.mod_lt _ hz;have hu':z.cells[k % z.cells.size]=u:=by
    have:z.cells[k % z.cells.size]?=some u:=by simpa using hu
    rw[Array.getElem?_eq_getElem hm]at this;simpa using this
   have:((Array.range (m*z.cells.size)).map (z.cells[· % z.cells.size]!)).getD k undef=u:=by simp[hlt,hm,hu']
   rw[this];exact .im (.sc u (h8 u (by rw[←hu'];simp)))
  ·cases hk
theorem alloc_row (hs:Sim C.G w X ρ h){us:Array Value}{cs:List AV}(hr:RC w (tot X ρ h) ρ h.length us cs)(t:TypeId):
 Ext C.G w X ρ h (w.alloc (.cells us t (0,0))) (fun i=>if i=h.length then w.heap.size else ρ i) (h++[.row cs]):=
 ext_alloc hs us t cs (fun k=>us.getD k undef) (by rw[hr.1];omega) (fun k x hk=>by
  have hlt:k<us.size:=by have:=(Za.1 hk).1;rw[hr.1];exact this
  exact⟨by simp[hlt],hr.2.1 k hlt,hr.2.2 k x hk⟩) (0,0) (.inl rfl)
theorem own_sl (w0 w':World)(h:Hp)(ρ:Nat→Nat)(X':Nat→Prop)(m sz len cap:Nat)(hm:h.length<m)(cur:Array Value)(t:TypeId)(fz:Nat × Nat)(hw:w'.heap[w0.heap.size]?=some (.cells cur t fz))(hc:cap*sz=cur.size)(hl:len≤cap)(hx:cap≤maxLen):
 Rp w' X' (fun i=>if i=h.length then w0.heap.size else ρ i) m (.slice (some ⟨w0.heap.size,0,none⟩) len cap) (.sl h.length sz 0 len false):=by
 have:=Rp.sl (w:=w') (X:=X') (ρ:=fun i=>if i=h.length then w0.heap.size else ρ i) h.length sz 0 len cap false cur t fz hm (by simpa using hw) (by omega) (by simp) (by simp;omega) hl hx;simpa using this
theorem alloc_new (w:World)(ob:Obj):(w.alloc ob).heap[w.heap.size]?=some ob:=by
 show(w.heap.push ob)[w.heap.size]?=some ob;simp
theorem chunk_ri {w:World}{X:Nat→Prop}{b cap sz len:Nat}{cs:List AV}{cur:Array Value}{t:TypeId}{fz:Nat × Nat}(hx:¬X b)(hb:w.heap[b]?=some (.cells cur t fz))(hlen:len*sz≤cs.length)
 (hc:len≤cap) (hm:cap≤maxLen) (z:Bool) (hz:z=true→cap=len) (hcell:∀(k:Nat) (y:AV),cs[k]?=some y→∃u,cur[k]?=some u∧u.oneCell'=true∧Ri w X u y):
 Ri w X (.slice (some ⟨b,0,none⟩) len cap) (.ls sz (chunk sz len cs) z):=by
 have hrow:∀(i:Nat) (row:List AV),(chunk sz len cs)[i]?=some row→i<len∧row=(cs.drop (i*sz)).take sz:=by
  intro i row hr';simp only[chunk,Zs,Ze]at hr';obtain⟨k,hk,rfl⟩:=hr';have hil:i<len:=by have:=(Za.1 hk).1;simpa using this
  rw[List.getElem?_range hil]at hk;cases hk;exact⟨hil,rfl⟩
 have hc2:∀(i:Nat) (row:List AV) (j:Nat) (x:AV),(chunk sz len cs)[i]?=some row→row[j]?=some x→∃u,cur[0+i*sz+j]?=some u∧u.oneCell'=true∧Ri w X u x:=by
  intro i row j x hr' hx;obtain⟨hil,rfl⟩:=hrow i row hr';rw[List.getElem?_take]at hx;split at hx
  ·rw[List.getElem?_drop]at hx;rw[Nat.zero_add];exact hcell _ _ hx
  ·cases hx
 refine .ls b 0 len cap sz _ z (fun i j=>cur.getD (0+i*sz+j) undef) cur t fz hx hb (by simp[chunk]) hc hm hz ?_ ?_ ?_
 ·intro i row hr';obtain⟨hil,rfl⟩:=hrow i row hr';have:(i+1)*sz≤len*sz:=Zx sz hil;rw[Nat.add_mul,Nat.one_mul]at this;simp only[List.length_take,List.length_drop];omega
 ·intro i row j x hr' hx;obtain⟨u,h1,h2,_⟩:=hc2 i row j x hr' hx;have:cur.getD (0+i*sz+j) undef=u:=by rw[Zr,h1];rfl
  simp only[this];exact⟨h1,h2⟩
 ·intro i row j x hr' hx;obtain⟨u,h1,_,h3⟩:=hc2 i row j x hr' hx;have:cur.getD (0+i*sz+j) undef=u:=by rw[Zr,h1];rfl
  simp only[this];exact h3
theorem alloc_quiet (w:World)(ob:Obj):Step w none' (w.alloc ob) none':=by
 have hold:∀b,b<w.heap.size→(w.alloc ob).heap[b]?=w.heap[b]?:=fun b hb=>by
  show(w.heap.push ob)[b]?=_;simp[Array.getElem?_push,Nat.ne_of_lt hb]
 exact⟨rfl,rfl,rfl,by show _≤(w.heap.push ob).size;simp,fun b hb _=>hold b hb,fun b c t' fz' hb=>⟨c,t',fz',(hold b (heap_lt hb)).trans hb,rfl⟩,fun _ _ h=>h,Nat.le_refl _⟩
theorem drawn_quiet (w:World)(k:Nat)(hk:w.drawn≤k):Step w none' {w with drawn:=k} none':=⟨rfl,rfl,rfl,Nat.le_refl _,fun _ _ _=>rfl,fun _ _ _ _ hb=>⟨_,_,_,hb,rfl⟩,fun _ _ h=>h,hk⟩
theorem cold_good (hs:Sim C.G w X ρ h){w':World}(hst:Step w none' w' none'){cur:Array Value}{e:TypeId}{fz:Nat × Nat}(hcur:w'.heap[w.heap.size]?=some (.cells cur e fz)){cs:List AV}{len cap sz:Nat}(hlen:len*sz≤cs.length)
 (hc:len≤cap) (hm:cap≤maxLen) (z:Bool) (hz:z=true→cap=len) (hall:cs.all calm=true) (hcell:∀(k:Nat) (y:AV),cs[k]?=some y→∃u,cur[k]?=some u∧u.oneCell'=true∧Rp w (tot X ρ h) ρ h.length u y)
 (hr:(execOp a.eval o).run C.P w= .ok (.value (.slice (some ⟨w.heap.size,0,none⟩) len cap)) w'):Good C o a w X ρ h (.ls sz (chunk sz len cs) z) h:=by
 have he:=ext_quiet hs hst;have hnX:¬tot X ρ h w.heap.size:=fun hh=>by
  rcases hh with hx|⟨i,hi,e⟩
  ·have:=hs.xlt _ hx;omega
  ·have:=hs.lt hi;omega
 refine good_value hr he (.im (chunk_ri hnX hcur hlen hc hm z hz fun k y hk=>?_));obtain⟨u,h1,h2,h3⟩:=hcell k y hk;rw[List.all_eq_true]at hall;exact⟨u,h1,h2,calm_ri (he.rp h3) (hall y (Zi hk))⟩
theorem RC.cell {n:Nat}{us:Array Value}{xs:List AV}(hr:RC w X ρ n us xs)(k:Nat)(y:AV)(hk:xs[k]?=some y):∃u,us[k]?=some u∧u.oneCell'=true∧Rp w X ρ n u y:=by
 have hlt:k<us.size:=by have:=(Za.1 hk).1;rw[hr.1];exact this
 refine⟨us.getD k undef,by simp[hlt],hr.2.1 k hlt,hr.2.2 k y hk⟩
theorem r_buildSlice (hs:Sim C.G w X ρ h)(hf:RF w (tot X ρ h) ρ h.length a.tmps fr){t:TypeId}{len:Nat}{parts:Array (Nat × Operand)}(hop:o.op= .buildSlice t len parts){i:Ti}(hi:tiOf C.P t=some i)
 {sz by':Nat} {ag:Bool} {ez:List Value} (hk:i.kd= .slice sz ag by' ez) (hlim:len*sz≤16777216) {cs:List AV}
 (hc:fillA (fun k=>some (k*sz,sz)) ((List.range len).flatMap fun _=>ez.map .sc) (parts.toList.map fun p=>(p.1,ev C fr p.2))=some cs):
 ∃(us':Array Value) (e:TypeId),RC w (tot X ρ h) ρ h.length us' cs∧us'.size=len*sz∧len≤maxLen∧(execOp a.eval o).run C.P w= .ok (.value (.slice (some ⟨w.heap.size,0,none⟩) len len)) (w.alloc (.cells us' e (0,0))):=by
 obtain⟨d,info,z,h1,h2,h3,h4,h5,h6,h7,h8,h9⟩:=tiOf_spec hi;rw[hk]at h4;obtain⟨e,ei,ed,ez',rfl,k1,k2,k3,rfl,k5,k6,rfl,k8,k9,k10⟩:=kdOf_slice h4;have hzr:RC w (tot X ρ h) ρ h.length ((Array.range (len*ei.size)).map ((if len*ei.size=0 then #[]else ez'.cells)[· % (if len*ei.size=0 then(#[]:Array Value)else ez'.cells).size]!)) ((List.range len).flatMap fun _=>ez'.cells.toList.map .sc):=by
  by_cases h0:len*ei.size=0
  ·have:len=0:=by rcases Nat.mul_eq_zero.1 h0 with h|h<;>omega
   subst this;exact⟨by simp,by simp,by simp⟩
  ·simp only[h0,if_false];have:=zeros_RC (w:=w) (X:=tot X ρ h) (ρ:=ρ) k8 h.length len (by omega)
   rwa [k9]at this⊢
 obtain⟨us',e1,e2⟩:=fill_rel hs hf (pV:=fun k=>some (k*ei.size,ei.size)) (fun k q hq=>hq) parts.toList _ _ cs hzr hc;have hcl:us'.size=len*ei.size:=by
  rw[e2.1];have hfl:∀(p:Nat→Option (Nat × Nat)) (ps:List (Nat × AV)) (xs out:List AV),fillA p xs ps=some out→out.length=xs.length:=by
   intro p ps
   induction ps with
   |nil=>intro xs out ho;simp[fillA]at ho;rw[ho]
   |
    cons q ps ih=>
    intro xs out ho;simp only[fillA]at ho;split at ho
    ·split at ho
     ·rename_i hcond;rw[ih _ _ ho,splice_length (by omega)]
     ·cases ho
    ·cases ho
  rw[hfl _ _ _ _ hc,rep_length];simp[k9]
 have hmax:len≤maxLen:=by
  have:len≤len*ei.size:=Nat.le_mul_of_pos_right _ k10;simp only[maxLen];omega
 refine⟨us',e,e2,hcl,hmax,?_⟩;have hmap:(parts.map fun p=>(p.1,a.eval p.2)).toList=parts.toList.map fun p=>(p.1,a.eval p.2):=by simp
 have hz:(if len*ei.size=0 then(pure #[]:Sem (Array Value))else do pure (←zeroValue e).cells).run C.P w= .ok (if len*ei.size=0 then #[]else ez'.cells) w:=by
  split
  ·rfl
  ·simp only[Sem.run_bind,run_zero k1 k3,Result.andThen_ok,Sem.run_pure]
 have hlim':¬(len*ei.size>2^24):=by omega
 clear hz;by_cases h0:len*ei.size=0
 ·simp only[h0,if_true]at e1;simp only[execOp,hop,Instr.buildSlice,Sem.run_bind,Result.andThen_ok,run_underlying h1,run_size k1,h0,show¬(0>2^24) by omega,if_false,if_true,hmap,newRow,run_new,Sem.run_pure,e1]
 ·simp only[h0,if_false]at e1;simp only[execOp,hop,Instr.buildSlice,Sem.run_bind,Result.andThen_ok,run_underlying h1,run_size k1,h0,hlim',if_false,hmap,newRow,run_new,Sem.run_pure,e1,run_zero k1 k3]
theorem g_buildSlice (hs:Sim C.G w X ρ h)(hf:RF w (tot X ρ h) ρ h.length a.tmps fr){t:TypeId}{len:Nat}{parts:Array (Nat × Operand)}(hop:o.op= .buildSlice t len parts){i:Ti}(hi:tiOf C.P t=some i)
 {sz by':Nat} {ag:Bool} {ez:List Value} (hk:i.kd= .slice sz ag by' ez) (hlim:len*sz≤16777216) {cs:List AV}
 (hc:fillA (fun k=>some (k*sz,sz)) ((List.range len).flatMap fun _=>ez.map .sc) (parts.toList.map fun p=>(p.1,ev C fr p.2))=some cs):Good C o a w X ρ h (.sl h.length sz 0 len false) (h++[.row cs]):=by
 obtain⟨us',e,e2,hcl,hmax,hr⟩:=r_buildSlice hs hf hop hi hk hlim hc;exact good_value hr (alloc_row hs e2 e) (own_sl w _ h ρ _ _ _ _ _ (by simp) us' e (0,0) (alloc_new _ _) (by omega) (Nat.le_refl _) hmax)
theorem c_buildSlice (hs:Sim C.G w X ρ h)(hf:RF w (tot X ρ h) ρ h.length a.tmps fr){t:TypeId}{len:Nat}{parts:Array (Nat × Operand)}(hop:o.op= .buildSlice t len parts){i:Ti}(hi:tiOf C.P t=some i)
 {sz by':Nat} {ag:Bool} {ez:List Value} (hk:i.kd= .slice sz ag by' ez) (hlim:len*sz≤16777216) {cs:List AV}
 (hc:fillA (fun k=>some (k*sz,sz)) ((List.range len).flatMap fun _=>ez.map .sc) (parts.toList.map fun p=>(p.1,ev C fr p.2))=some cs) (hall:cs.all calm=true):Good C o a w X ρ h (.ls sz (chunk sz len cs) true) h:=by
 obtain⟨us',e,e2,hcl,hmax,hr⟩:=r_buildSlice hs hf hop hi hk hlim hc;exact cold_good hs (alloc_quiet w _) (alloc_new w _) (by rw[←e2.1,hcl];exact Nat.le_refl _) (Nat.le_refl _) hmax true (fun _=>rfl) hall e2.cell hr
theorem r_makeSlice (hs:Sim C.G w X ρ h)(hf:RF w (tot X ρ h) ρ h.length a.tmps fr){t:TypeId}{l c:Operand}(hop:o.op= .makeSlice t l c){i:Ti}(hi:tiOf C.P t=some i)
 {sz by':Nat} {ag:Bool} {ez:List Value} (hk:i.kd= .slice sz ag by' ez) {n:Nat} (hn:natOf (ev C fr l)=some n) (hm:natOf (ev C fr c)=some n) (hmax:n≤maxLen) (hby:n*by'≤140737488355328):
 ∃(us':Array Value) (e:TypeId),RC w (tot X ρ h) ρ h.length us' ((List.range n).flatMap fun _=>ez.map .sc)∧us'.size=n*sz∧(∀u∈ez,flat u=true)∧(execOp a.eval o).run C.P w= .ok (.value (.slice (some ⟨w.heap.size,0,none⟩) n n)) (w.alloc (.cells us' e (0,0))):=by
 obtain⟨d,info,z,h1,h2,h3,h4,h5,h6,h7,h8,h9⟩:=tiOf_spec hi;rw[hk]at h4;obtain⟨e,ei,ed,ez',rfl,k1,k2,k3,rfl,k5,rfl,rfl,k8,k9,k10⟩:=kdOf_slice h4;obtain⟨q1,j1,hj1,hj10,hj1n⟩:=natOf_inv (ev_rp hs hf l) hn;obtain⟨q2,j2,hj2,hj20,hj2n⟩:=natOf_inv (ev_rp hs hf c) hm;have w1:IntKind.i64.wrap j1=j1:=IntWalk.i64_in j1 (by simp only[maxLen]at hmax;omega);have w2:IntKind.i64.wrap j2=j2:=IntWalk.i64_in j2 (by simp only[maxLen]at hmax;omega);have hr:RC w (tot X ρ h) ρ h.length ((Array.range (n*ei.size)).map ((if n*ei.size=0 then #[]else ez'.cells)[· % (if n*ei.size=0 then(#[]:Array Value)else ez'.cells).size]!)) ((List.range n).flatMap fun _=>ez'.cells.toList.map .sc):=by
  by_cases h0:n*ei.size=0
  ·have:n=0:=by rcases Nat.mul_eq_zero.1 h0 with h|h<;>omega
   subst this;exact⟨by simp,by simp,by simp⟩
  ·simp only[h0,if_false];have:=zeros_RC (w:=w) (X:=tot X ρ h) (ρ:=ρ) k8 h.length n (by omega)
   rwa [k9]at this⊢
 refine⟨_,e,hr,by simp,k8,?_⟩;have hz:(if n*ei.size=0 then(pure #[]:Sem (Array Value))else do pure (←zeroValue e).cells).run C.P w= .ok (if n*ei.size=0 then #[]else ez'.cells) w:=by
  split
  ·rfl
  ·simp only[Sem.run_bind,run_zero k1 k3,Result.andThen_ok,Sem.run_pure]
 have hti:(typeInfo e).run C.P w= .ok ei w:=by simp[typeInfo,k1]
 have hjn:j1=(n:Int):=by omega
 have hjm:j2=(n:Int):=by omega
 have hsmall:¬((ei.bytes:Int)*(n:Int)>2^48):=by
  have:(ei.bytes:Int)*(n:Int)=((n*ei.bytes:Nat):Int):=by rw[Nat.mul_comm];simp
  rw[this];omega
 have hroom:¬(n*ei.bytes>roomBytes):=by simp only[roomBytes];omega
 have hcond:((decide ((n:Int)<0)||decide ((ei.bytes:Int)*(n:Int)>2^48))||decide ((n:Int)<0)||decide ((n:Int)>(n:Int)))=false:=by
  simp;omega
 rw[hjn]at w1;clear hz;by_cases h0:n*ei.size=0
 ·simp only[execOp,hop,Instr.makeSlice,Sem.run_bind,Result.andThen_ok,run_underlying h1,hj1,hj2,asInt,asIntOf,Sem.run_pure,hti,hjn,hjm,w1,askRoom,Int.toNat_natCast,hroom,if_false,run_size k1,newRow,run_new,hcond,h0,if_true,Yl]
 ·simp only[execOp,hop,Instr.makeSlice,Sem.run_bind,Result.andThen_ok,run_underlying h1,hj1,hj2,asInt,asIntOf,Sem.run_pure,hti,hjn,hjm,w1,askRoom,Int.toNat_natCast,hroom,if_false,run_size k1,newRow,run_new,hcond,h0,run_zero k1 k3,Yl]
theorem g_makeSlice (hs:Sim C.G w X ρ h)(hf:RF w (tot X ρ h) ρ h.length a.tmps fr){t:TypeId}{l c:Operand}(hop:o.op= .makeSlice t l c){i:Ti}(hi:tiOf C.P t=some i)
 {sz by':Nat} {ag:Bool} {ez:List Value} (hk:i.kd= .slice sz ag by' ez) {n:Nat} (hn:natOf (ev C fr l)=some n) (hm:natOf (ev C fr c)=some n) (hmax:n≤maxLen) (hby:n*by'≤140737488355328):
 Good C o a w X ρ h (.sl h.length sz 0 n false) (h++[.row ((List.range n).flatMap fun _=>ez.map .sc)]):=by
 obtain⟨us',e,e2,hcl,_,hr⟩:=r_makeSlice hs hf hop hi hk hn hm hmax hby;exact good_value hr (alloc_row hs e2 e) (own_sl w _ h ρ _ _ _ _ _ (by simp) us' e (0,0) (alloc_new _ _) (by omega) (Nat.le_refl _) hmax)
theorem c_makeSlice (hs:Sim C.G w X ρ h)(hf:RF w (tot X ρ h) ρ h.length a.tmps fr){t:TypeId}{l c:Operand}(hop:o.op= .makeSlice t l c){i:Ti}(hi:tiOf C.P t=some i)
 {sz by':Nat} {ag:Bool} {ez:List Value} (hk:i.kd= .slice sz ag by' ez) {n:Nat} (hn:natOf (ev C fr l)=some n) (hm:natOf (ev C fr c)=some n) (hmax:n≤maxLen) (hby:n*by'≤140737488355328):
 Good C o a w X ρ h (.ls sz (chunk sz n ((List.range n).flatMap fun _=>ez.map .sc)) true) h:=by
 obtain⟨us',e,e2,hcl,hz,hr⟩:=r_makeSlice hs hf hop hi hk hn hm hmax hby;refine cold_good hs (alloc_quiet w _) (alloc_new w _) (by rw[←e2.1,hcl];exact Nat.le_refl _) (Nat.le_refl _) hmax true (fun _=>rfl) ?_ e2.cell hr;rw[List.all_eq_true];intro x hx;simp only[List.mem_flatMap,Yh]at hx;obtain⟨_,_,u,_,rfl⟩:=hx;rfl
end lit
end Go.Ae
