/- The abstract evaluator, part 13: pure calls, the keys of a map in order: the theorem. -/
import Derived.Sort.AssemblyPlain
import Derived.Test.YtmocfjnklfpnbaaGreatDoorP10
set_option linter.all false
namespace Go.Ae
open Go
def GOK (G:Nat→Option (List Value))(w:World)(X:Nat→Prop):Prop:=
 ∀(g:Nat) (row:List Value),G g=some row→¬X g∧∃(cur:Array Value) (t:TypeId) (fz:Nat × Nat),w.heap[g]?=some (.cells cur t fz)∧cur.size=row.length∧∀(k:Nat) (v:Value),row[k]?=some v→∃u,cur[k]?=some u∧u.oneCell'=true∧gok v u
def PureOK (C:Cx)(f:FuncId)(xs:List AV)(r:AV):Prop:=
 ∀(w:World) (X:Nat→Prop) (vs:Array Value),(∀b,X b→b<w.heap.size)→GOK C.G w X→vs.size=xs.length→(∀(k:Nat) (x:AV),xs[k]?=some x→Ri w X (vs.getD k undef) x)→
  (∃fn,C.P.funcs[f]?=some fn∧fn.name≠ "runtime.NumGoroutine" ∧fn.body.isSome=true)∧
  Calls C.P f vs w (fun e w'=>∃v,e= .returned v∧Step w none' w' none'∧Ri w' X v r)
def SortOK (C:Cx)(f g:FuncId):Prop:=
 (∃fn,C.P.funcs[f]?=some fn∧fn.name≠ "runtime.NumGoroutine" ∧fn.body.isSome=true)∧
 ∀(w:World) (bx id:Nat) (ms:Array MapEntry) (clock:Nat) (ks:List ByteArray),w.cell? ⟨bx,0,none⟩=some (.map (some id))→w.heap[id]?=some (.map ms clock)→
  (∀x∈ms.toList,x.born<clock)→(ms.toList.map (·.born)).Nodup→ms.toList.map (·.key)=ks.map .string→ks.Nodup→(∀k∈ks,k.size≤maxLen)→ks.length≤1000000→
  Calls C.P f #[.func (.func g) #[] #[.pointer (some ⟨bx,0,none⟩)]] w (fun e w'=>∃v,e= .returned v∧Step w none' w' none'∧
   ((
    ks=[]∧v= .slice none 0 0)∨ks≠ []∧∃(B cap:Nat) (cur:Array Value) (t:TypeId),v= .slice (some ⟨B,0,none⟩) ks.length cap∧w.heap.size≤B∧w'.heap[B]?=some (.cells cur t (0,0))∧ks.length≤cap∧cap≤maxLen∧cur.size=cap∧
    ∀(k:Nat) (s:ByteArray),(sortS ks)[k]?=some s→cur[k]?=some (.string s)))
def InsOK (C:Cx)(f:FuncId)(sz bytes:Nat):Prop:=
 0<sz∧0<bytes∧
 (∃fn,C.P.funcs[f]?=some fn∧fn.name≠ "runtime.NumGoroutine" ∧fn.body.isSome=true)∧
 ∀(w:World) (base:Option Addr) (n cap i:Nat) (vb vc:Nat) (olds vs:List Value) (vcur:Array Value) (vt:TypeId) (vf:Nat × Nat),
  olds.length=n*sz→vs.length=sz→i≤n→n≤cap→cap≤maxLen→n+1≤1000000000000000→(n+1)*bytes≤140737488355328→(∀u∈olds,u.oneCell'=true)→(∀u∈vs,u.oneCell'=true)→
  w.heap[vb]?=some (.cells vcur vt vf)→Fz vf vcur→(∀(k:Nat) (u:Value),vs[k]?=some u→vcur[k]?=some u)→
  ((n=0∧cap=0)∨∃(b:Nat) (cur:Array Value) (t:TypeId) (fz:Nat × Nat),base=some ⟨b,0,none⟩∧b≠vb∧w.heap[b]?=some (.cells cur t fz)∧Fz fz cur∧cap*sz=cur.size∧∀(k:Nat) (u:Value),olds[k]?=some u→cur[k]?=some u)→
  Calls C.P f #[.slice base n cap,.int .i64 i,.slice (some ⟨vb,0,none⟩) 1 vc] w (fun e w'=>∃(B cap':Nat) (cur':Array Value) (t':TypeId) (fz':Nat × Nat),
   e= .returned (.slice (some ⟨B,0,none⟩) (n+1) cap')∧w'.heap[B]?=some (.cells cur' t' fz')∧Fz fz' cur'∧cap'*sz=cur'.size∧n+1≤cap'∧cap'≤maxLen∧
   (∀(k:Nat) (u:Value),(olds.take (i*sz)++vs++olds.drop (i*sz))[k]?=some u→cur'[k]?=some u)∧
   ((
    w.heap.size≤B∧fz'=(0,0)∧Step w none' w' none')∨(base=some ⟨B,0,none⟩∧0<cap∧w'.os=w.os∧w'.tape=w.tape∧w'.output=w.output∧w'.heap.size=w.heap.size∧w.drawn≤w'.drawn∧(∀b,b≠B→w'.heap[b]?=w.heap[b]?)∧
    ∀(cur:Array Value) (t:TypeId) (fz:Nat × Nat),w.heap[B]?=some (.cells cur t fz)→cur'.size=cur.size)))
def SameBut (blk:Nat)(w W:World):Prop:=W.os=w.os∧W.tape=w.tape∧W.output=w.output∧w.heap.size≤W.heap.size∧∀b,b<w.heap.size→b≠blk→W.heap[b]?=w.heap[b]?
def SfnOK (C:Cx)(f:FuncId)(k:Nat):Prop:=
 (∃fn,C.P.funcs[f]?=some fn∧fn.name≠ "runtime.NumGoroutine" ∧fn.body.isSome=true)∧
 (∀(w:World) (base:Option Addr) (cap:Nat) (g:FuncId) (us:Array Value),us.size=0→Calls C.P f #[.slice base 0 cap,.func (.func g) #[] us] w (fun e w'=>e= .returned (.tuple #[])∧Step w none' w' none'))∧
 ∀(w:World) (m cap blk off:Nat) (cur:Array Value) (t:TypeId) (fz:Nat × Nat) (us:Fin (m+1)→List Value) (cf:Nat→Nat→Int) (g:FuncId) (bs:Array Value),bs.size=0→
  m+1<4611686018427387904→w.heap[blk]?=some (.cells cur t fz)→Fz fz cur→off+(m+1)*szK k≤cur.size→(∀i,(us i).length=szK k)→(∀i,∀u∈us i,u.oneCell'=true)→(∀(i:Fin (m+1)) (j:Nat) (u:Value),(us i)[j]?=some u→cur[off+i.1*szK k+j]?=some u)→SWOn m cf→
  (∃fn,C.P.funcs[g]?=some fn∧fn.name≠ "runtime.NumGoroutine" ∧fn.body.isSome=true)→
  (∀(W:World) (i j:Fin (m+1)),SameBut blk w W→Calls C.P g #[eltV k (us i),eltV k (us j)] W (fun e W'=>e= .returned (.int .i64 (cf i.1 j.1))∧Step W none' W' none'))→
  Calls C.P f #[.slice (some ⟨blk,off,none⟩) (m+1) cap,.func (.func g) #[] bs] w (fun e w'=>e= .returned (.tuple #[])∧∃cur':Array Value,w'.heap[blk]?=some (.cells cur' t fz)∧cur'.size=cur.size∧(∀q,q<off∨off+(m+1)*szK k≤q→cur'[q]?=cur[q]?)∧
   (∀(q:Nat) (u:Value),((sortQ m cf).flatMap us)[q]?=some u→cur'[off+q]?=some u)∧SameBut blk w w'∧w.drawn≤w'.drawn)
def OwnOK (C:Cx)(f:FuncId):Prop:=
 ∀(xs:List AV) (rows:List (List AV)) (z:Bool),C.tab f xs=some (.ls 1 rows z)→rows≠ []→∀(w:World) (X:Nat→Prop) (vs:Array Value),(∀b,X b→b<w.heap.size)→GOK C.G w X→vs.size=xs.length→(∀(k:Nat) (x:AV),xs[k]?=some x→Ri w X (vs.getD k undef) x)→
  Calls C.P f vs w (fun e w'=>Step w none' w' none'∧∃(B cap:Nat) (cur:Array Value) (t:TypeId),e= .returned (.slice (some ⟨B,0,none⟩) rows.length cap)∧w.heap.size≤B∧w'.heap[B]?=some (.cells cur t (0,0))∧rows.length≤cap∧cap≤maxLen∧cur.size=cap∧
   ∀(k:Nat) (v:Value),rows[k]?=some [.sc v]→cur[k]?=some v)
structure CxAll (C:Cx):Prop where
 base:CxOk C
 rcv:∀g T,C.rcv g=some T→RcvOK C g T
 srt:∀f g kt,C.srt f=some (g,kt)→SortOK C f g
 tab:∀f xs r,C.tab f xs=some r→PureOK C f xs r
 ins:∀f sz bytes,C.ins f=some (sz,bytes)→bytes≠0→bytes≠1→InsOK C f sz bytes
 own:∀f sz,C.ins f=some (sz,1)→OwnOK C f
 sfn:∀f sz,C.ins f=some (sz,0)→SfnOK C f sz
 nf:∀f w X v r,Ri w X v r→Ri w X v (C.nf f r)
theorem own_nil (ρ:Nat→Nat)(b:Nat):¬own ρ [] b:=fun⟨i,⟨_,hb,_⟩,_⟩=>by simp at hb
theorem sim_nil {G:Nat→Option (List Value)}{w:World}{X:Nat→Prop}(hX:∀b,X b→b<w.heap.size)(hG:GOK G w X)(ρ:Nat→Nat):Sim G w X ρ []:={
 xlt:=hX
 glob:=fun g row hg=>by
  obtain⟨h1,h2⟩:=hG g row hg;exact⟨fun h=>h.elim h1 (own_nil ρ g),h2⟩
 inj:=fun i j hi=>absurd ⟨i,hi,rfl⟩ (own_nil ρ (ρ i))
 out:=fun i hi=>absurd ⟨i,hi,rfl⟩ (own_nil ρ (ρ i))
 cold:=fun i cs h=>by simp at h
 blk:=fun i b h=>by simp at h}
theorem snap_pn {h:Hp}{n:Nat}{u:Value}{r:AV}(hs:snap h n (.pn u)=some r):False:=by
 cases n<;>simp[snap]at hs
theorem pure_of_body {C:Cx}{call:Bool→Cal}(hC:CxOk C)(hcall:∀b,CallOK C (call b))(hkeep:∀g xs h r h',C.inl g=false→call false g xs h=some (r,h')→h'=h){f:FuncId}{xs:List AV}{h':Hp}{r0 r:AV}
 (hb:body1 C call f xs []=some (r0,h')) {n:Nat} (hsn:snap h' n r0=some r):PureOK C f xs r:=by
 intro w X vs hX hG hl hv;have hs:=sim_nil hX hG id;obtain⟨h1,h2⟩:=body1_sound hC hcall hkeep hb w X id vs hs hl (fun k x hk=> .im ((hv k x hk).anti fun b hb=>hb.elim (fun h=>h) fun h=>absurd h (own_nil id b)));refine⟨h1,h2.mono fun e w' ⟨ρ',hx,hh⟩=>?_⟩;rcases hh with⟨v,he,hr⟩|⟨u,_,hu⟩
 ·refine⟨v,he,?_,snap_sound hx.sim n v r0 r hr hsn⟩;exact⟨hx.step.os,hx.step.tape,hx.step.output,hx.step.size,fun b hb _=>hx.step.keep b hb (own_nil id b),hx.step.row,fun _ _ h=>h,hx.step.drew⟩
 ·subst hu;exact absurd hsn (fun q=>snap_pn q)
theorem ext_adopt' {G:Nat→Option (List Value)}{w w':World}{X:Nat→Prop}{ρ:Nat→Nat}{h:Hp}(hs:Sim G w X ρ h)(hst:Step w none' w' none'){B:Nat}(hB:w.heap.size≤B){cs:List AV}
 {cur:Array Value} {t:TypeId} (hcur:w'.heap[B]?=some (.cells cur t (0,0))) (hlen:cs.length≤cur.size) (hcs:∀(k:Nat) (x:AV),cs[k]?=some x→∃u,cur[k]?=some u∧u.oneCell'=true∧Rp w (tot X ρ h) ρ h.length u x):Ext G w X ρ h w' (fun i=>if i=h.length then B else ρ i) (h++[.row cs]):=by
 have hq:=ext_quiet hs hst;have hBl:B<w'.heap.size:=heap_lt hcur;have hcase:∀(i:Nat) (b':Blk),(h++[Blk.row cs])[i]?=some b'→(i<h.length∧h[i]?=some b')∨(i=h.length∧b'= .row cs):=by
  intro i b' hi;by_cases hlt:i<h.length
  ·rw[Zd hlt]at hi;exact .inl ⟨hlt,hi⟩
  ·have he:i=h.length:=by have:i< (h++[Blk.row cs]).length:=(Za.1 hi).1;simp at this;omega
   subst he;simp at hi;exact .inr ⟨rfl,hi.symm⟩
 have hlive:∀i,live (h++[Blk.row cs]) i→(live h i∧i<h.length)∨i=h.length:=by
  rintro i ⟨b',hb',hd⟩;rcases hcase i b' hb' with⟨h1,h2⟩|⟨h1,_⟩
  ·exact .inl ⟨⟨b',h2,hd⟩,h1⟩
  ·exact .inr h1
 have hown:∀b,own (fun i=>if i=h.length then B else ρ i) (h++[Blk.row cs]) b→own ρ h b∨b=B:=by
  rintro b ⟨i,hi,e⟩;rcases hlive i hi with⟨h1,h2⟩|rfl
  ·exact .inl ⟨i,h1,by simpa[Nat.ne_of_lt h2]using e⟩
  ·exact .inr (by simpa using e.symm)
 have hstep:Step w (own ρ h) w' (own (fun i=>if i=h.length then B else ρ i) (h++[Blk.row cs])):=
  ⟨hst.os,hst.tape,hst.output,hst.size,fun b hb _=>hst.keep b hb (fun h=>h),hst.row,fun b hb hh=>(hown b hh).resolve_right (by omega),hst.drew⟩
 have hrho:∀i,i<h.length→(fun i=>if i=h.length then B else ρ i) i=ρ i:=fun i hi=>by simp[Nat.ne_of_lt hi]
 have hXB:¬X B:=fun hx=>by have:=hs.xlt B hx;omega
 have hoB:∀i,live h i→ρ i≠B:=fun i hi e=>by have:=hs.lt hi;omega
 refine⟨⟨hq.sim.xlt,fun g row hg=>?_,?_,?_,?_,?_⟩,hrho,by simp,hstep⟩
 ·obtain⟨h1,c,t',fz',h2,h3⟩:=hs.glob g row hg;refine⟨fun hh=>h1 (hstep.kept.less g (heap_lt h2) hh),c,t',fz',(hst.keep g (heap_lt h2) (fun h=>h)).trans h2,h3⟩
 ·intro i j hi hj hij;rcases hlive i hi with⟨hi1,hi2⟩|rfl<;>rcases hlive j hj with⟨hj1,hj2⟩|rfl
  ·simp[Nat.ne_of_lt hi2,Nat.ne_of_lt hj2]at hij;exact hs.inj i j hi1 hj1 hij
  ·simp[Nat.ne_of_lt hi2]at hij;exact absurd hij (hoB i hi1)
  ·simp[Nat.ne_of_lt hj2]at hij;exact absurd hij.symm (hoB j hj1)
  ·rfl
 ·intro i hi hx;rcases hlive i hi with⟨hi1,hi2⟩|rfl
  ·simp[Nat.ne_of_lt hi2]at hx;exact hs.out i hi1 hx
  ·simp at hx;exact hXB hx
 ·intro i cs' hi hh;rcases hcase i _ hi with⟨hlt,hi'⟩|⟨_,e⟩
  ·have h2:=(hs.blk i _ hi').lt (by simp);simp only[Nat.ne_of_lt hlt,if_false]at hh;exact hs.cold i cs' hi' (hstep.kept.less _ h2 hh)
  ·cases e
 ·intro i b' hi;rcases hcase i b' hi with⟨hlt,hi'⟩|⟨rfl,rfl⟩
  ·simp only[Nat.ne_of_lt hlt,if_false];have hb:=hs.blk i b' hi';by_cases hd:b'= .dead
   ·subst hd;trivial
   ·rw[hst.keep _ (hb.lt hd) (fun h=>h)];exact hb.step hstep hrho (by simp)
  ·simp only[if_true];refine⟨cur,t,(0,0),fun k=>cur.getD k undef,hcur,.inl rfl,hlen,fun k x hk=>?_⟩;obtain⟨u,hu,hfu,hru⟩:=hcs k x hk;have:cur.getD k undef=u:=by rw[Zr,hu];rfl
   simp only[this];exact⟨hu,hfu,hru.step hstep hrho (by simp)⟩
theorem ext_adopt {G:Nat→Option (List Value)}{w w':World}{X:Nat→Prop}{ρ:Nat→Nat}{h:Hp}(hs:Sim G w X ρ h)(hst:Step w none' w' none'){B:Nat}(hB:w.heap.size≤B){cs:List AV}
 {cur:Array Value} {t:TypeId} (hcur:w'.heap[B]?=some (.cells cur t (0,0))) (hlen:cs.length≤cur.size) (hcs:∀(k:Nat) (x:AV),cs[k]?=some x→∃u,x= .sc u∧flat u=true∧cur[k]?=some u):Ext G w X ρ h w' (fun i=>if i=h.length then B else ρ i) (h++[.row cs]):=
 ext_adopt' hs hst hB hcur hlen fun k x hk=>by
  obtain⟨u,rfl,hfu,hu⟩:=hcs k x hk;exact⟨u,hu,flat_one hfu,.im (.sc u hfu)⟩
theorem Ri.sc_inv {w:World}{X:Nat→Prop}{v u:Value}(h:Ri w X v (.sc u)):v=u∧flat u=true:=by
 cases h with
 |sc _ hf=>exact⟨rfl,hf⟩
theorem scalar_ri {w:World}{X X':Nat→Prop}{v:Value}{r:AV}(h:Ri w X v r)(hs:scalarRes r=true):Ri w X' v r:=by
 unfold scalarRes at hs;split at hs
 ·cases h with
  |sc _ hf=>exact .sc _ hf
 ·rename_i xs;rw[List.all_eq_true]at hs;cases h with
  |
   tp us _ h1 h2=>
   refine .tp us xs h1 fun k x hk=>?_
   have h3:=h2 k x hk;have h4:=hs x (Zi hk);cases x with
   |
    sc u=>
    obtain⟨e,hf⟩:=h3.sc_inv;rw[e];exact .sc _ hf
   |_=>simp[isSc]at h4
 ·cases hs
theorem insS_length (x:ByteArray):∀l:List ByteArray,(insS x l).length=l.length+1
 | []=>rfl
 |
  y::l=>by
  unfold insS;split
  ·rfl
  ·simp[insS_length x l]
theorem sortS_length :∀l:List ByteArray,(sortS l).length=l.length
 | []=>rfl
 |
  x::l=>by
  show(insS x (sortS l)).length=_;rw[insS_length,sortS_length l];rfl
theorem nodupS_spec :∀{l:List ByteArray},nodupS l=true→l.Nodup
 | [],_=>List.nodup_nil
 |
  x::l,h=>by
  simp only[nodupS,Zh,Bool.not_eq_true',List.any_eq_false]at h;refine List.nodup_cons.2 ⟨fun hm=>?_,nodupS_spec h.2⟩;exact h.1 x hm ((MapKept.bytes_beq x x).2 rfl)
theorem sorted_sound {C:Cx}{f g:FuncId}(hS:SortOK C f g){xs:List AV}{h h':Hp}{r:AV}(hb:sortedA h g xs=some (r,h'))(w:World)(X:Nat→Prop)(ρ:Nat→Nat)(vs:Array Value)(hs:Sim C.G w X ρ h)(hl:vs.size=xs.length)
 (hv:∀(k:Nat) (x:AV),xs[k]?=some x→Rp w (tot X ρ h) ρ h.length (vs.getD k undef) x):
 (∃fn,C.P.funcs[f]?=some fn∧fn.name≠ "runtime.NumGoroutine" ∧fn.body.isSome=true)∧Calls C.P f vs w (CallR C w X ρ h h' r):=by
 unfold sortedA at hb;split at hb
 case h_2=>cases hb
 rename_i g' b;split at hb
 case isFalse=>cases hb
 rename_i hgg;subst hgg;split at hb
 case h_2=>cases hb
 rename_i id hbx;split at hb
 case h_2=>cases hb
 rename_i es clock hid;have h0:=hv 0 _ rfl;obtain⟨us,hv0,hul,hur⟩:=h0.fn_inv;have hp:=(hur 0 _ rfl).pt_inv;have hus:us= #[.pointer (some ⟨ρ b,0,none⟩)]:=by
  apply Array.ext
  ·simpa using hul
  ·intro i h1 h2;have hi0:i=0:=by simpa using h2
   subst hi0;have:=hp.1;simp only[h1,Zr,Array.getElem?_eq_getElem,Option.getD_some]at this;simpa using this
 have hvs:vs= #[.func (.func g) #[] #[.pointer (some ⟨ρ b,0,none⟩)]]:=by
  apply Array.ext
  ·simpa using hl
  ·intro i h1 h2;have hi0:i=0:=by simpa using h2
   subst hi0;simp only[h1,Zr,Array.getElem?_eq_getElem,Option.getD_some]at hv0;rw[hv0,hus];rfl
 subst hvs;obtain⟨cur,t,fz,u0,c1,_,c2,c3⟩:=hs.row b _ hbx;obtain⟨d1,d2,d3⟩:=c3 0 _ rfl;have hm:=d3.mp_inv.1;rw[hm]at d1;obtain⟨ms,b1,b2,bnd,b3⟩:=hs.blk id _ hid;have hborn:∀x∈ms.toList,x.born<clock:=fun x hx=>by
  obtain⟨j,hj,rfl⟩:=List.getElem_of_mem hx;have hj':j<es.length:=by simp at hj;omega
  obtain⟨m,q1,_,_,q4,_⟩:=b3 j _ (Zb hj');have:ms.toList[j]=m:=by
   have h3:ms.toList[j]?=some m:=by simpa using q1
   rw[Zb hj]at h3;simpa using h3
  rw[this];exact q4
 have hkeys:∀ks,keysA es=some ks→ms.toList.map (·.key)=ks.map .string:=by
  intro ks hk;obtain⟨m1,m2⟩:=mapM_get hk;apply List.ext_getElem?;intro j;by_cases hj:j<es.length
  ·obtain⟨m,q1,q2,_⟩:=b3 j _ (Zb hj);obtain⟨k',r1,r2⟩:=m2 j _ (Zb hj);have q1':ms.toList[j]?=some m:=by simpa using q1
   rw[Zs,Zs,q1',r1];simp only[Option.map_some,q2];cases hq:es[j].1<;>simp[hq]at r2;rw[r2]
  ·rw[List.getElem?_eq_none (by simp;omega),List.getElem?_eq_none (by simp;omega)]
 have hcell:w.cell? ⟨ρ b,0,none⟩=some (.map (some (ρ id))):=by rw[cell_at c1];exact d1
 obtain⟨hfn,hcon⟩:=hS;refine⟨hfn,?_⟩;split at hb
 ·rename_i hk;simp only[Zc,Zg]at hb;obtain⟨rfl,rfl⟩:=hb;refine(hcon w (ρ b) (ρ id) ms clock [] hcell b1 hborn bnd (hkeys [] hk) List.nodup_nil (by simp) (by simp)).mono ?_;rintro e w' ⟨v,rfl,hst,hh⟩;refine⟨ρ,ext_quiet hs hst,.inl ⟨v,rfl,?_⟩⟩;rcases hh with⟨_,rfl⟩|⟨h0,B,cap,cur',t',rfl,hB,hcur,h1,h2,h3,h4⟩
  ·exact .im (.sc _ rfl)
  ·exact absurd rfl h0
 ·rename_i ks hne hk;split at hb
  case isTrue=>cases hb
  rename_i hcond;simp only[Zc,Zg]at hb;obtain⟨rfl,rfl⟩:=hb;simp only[Bool.or_eq_true,Bool.not_eq_true',Zz,not_or,Bool.not_eq_false,Zh,List.all_eq_true]at hcond;obtain⟨⟨hnd,hsz⟩,hlen⟩:=hcond;refine(hcon w (ρ b) (ρ id) ms clock ks hcell b1 hborn bnd (hkeys ks hk) (nodupS_spec hnd) hsz (by omega)).mono ?_;rintro e w' ⟨v,rfl,hst,hh⟩;rcases hh with⟨h0,_⟩|⟨_,B,cap,cur',t',rfl,hB,hcur,h1,h2,h3,h4⟩
  ·subst h0;exact absurd rfl hne
  ·have hsl:=sortS_length ks;have he:=ext_adopt (cs:=(sortS ks).map fun s=> .sc (.string s)) hs hst hB hcur (by simp;omega) (fun k x hk=>by
    simp only[Zs,Ze]at hk;obtain⟨s,hs',rfl⟩:=hk;exact⟨_,rfl,rfl,h4 k s hs'⟩)
   refine⟨_,he,.inl ⟨_,rfl,?_⟩⟩;have:=Rp.sl (w:=w') (X:=tot X (fun i=>if i=h.length then B else ρ i) (h++[Blk.row ((sortS ks).map fun s=> .sc (.string s))])) (ρ:=fun i=>if i=h.length then B else ρ i) (n:=(h++[Blk.row ((sortS ks).map fun s=> .sc (.string s))]).length)
    h.length 1 0 ks.length cap false cur' t' (0,0) (by simp) (by simpa using hcur) (by omega) (by simp) (by intro;omega) h1 h2
   simpa using this
 ·cases hb
theorem flat_ones :∀{rows:List (List AV)},rows.all (fun r=>match r with| [.sc v]=>flat v|_=>false)=true→rows.flatten.length=rows.length∧∀(k:Nat) (x:AV),rows.flatten[k]?=some x→∃v,x= .sc v∧flat v=true∧rows[k]?=some [.sc v]
 | [],_=>⟨rfl,fun k x hk=>by simp at hk⟩
 |
  r::t,h=>by
  simp only[Zn,Zh]at h;obtain⟨h1,h2⟩:=h;obtain⟨i1,i2⟩:=flat_ones h2;split at h1
  case h_2=>cases h1
  rename_i v;refine⟨by simp[i1],fun k x hk=>?_⟩;cases k with
  |
   zero=>
   simp at hk;exact⟨v,hk.symm,h1,rfl⟩
  |
   succ k=>
   simp only[List.flatten_cons,List.singleton_append,Ye]at hk⊢;exact i2 k x hk
theorem own_sound {C:Cx}{f:FuncId}(hS:OwnOK C f)(hT:∀f xs r,C.tab f xs=some r→PureOK C f xs r){xs:List AV}{h h':Hp}{r:AV}(hb:ownA C f h xs=some (r,h'))(w:World)(X:Nat→Prop)(ρ:Nat→Nat)(vs:Array Value)(hs:Sim C.G w X ρ h)(hl:vs.size=xs.length)
 (hv:∀(k:Nat) (x:AV),xs[k]?=some x→Rp w (tot X ρ h) ρ h.length (vs.getD k undef) x):
 (∃fn,C.P.funcs[f]?=some fn∧fn.name≠ "runtime.NumGoroutine" ∧fn.body.isSome=true)∧Calls C.P f vs w (CallR C w X ρ h h' r):=by
 unfold ownA at hb;split at hb
 case h_2=>cases hb
 rename_i ys hys;obtain⟨m1,m2⟩:=mapM_get hys;have hG:GOK C.G w X:=fun g row hg=>by
  obtain⟨h1,h2⟩:=hs.glob g row hg;exact⟨fun hh=>h1 (.inl hh),h2⟩
 have hya:∀(k:Nat) (y:AV),ys[k]?=some y→Ri w X (vs.getD k undef) y:=fun k y hk=>by
  have hkl:k<xs.length:=by have:=(Za.1 hk).1;omega
  obtain⟨b,hb,hsn⟩:=m2 k _ (Zb hkl);rw[hk]at hb;cases hb;exact snap_sound hs 8 _ _ _ (hv k _ (Zb hkl)) hsn
 have hyl:vs.size=ys.length:=by omega
 split at hb
 ·rename_i rows z htab;split at hb
  case isFalse=>cases hb
  rename_i hcond;simp only[Zh,Bool.not_eq_true',List.isEmpty_eq_false_iff]at hcond;obtain⟨hall,hne⟩:=hcond;simp only[Zc,Zg]at hb;obtain⟨rfl,rfl⟩:=hb;obtain⟨f1,f2⟩:=flat_ones hall;refine⟨(hT f ys _ htab w X vs hs.xlt hG hyl hya).1,?_⟩;refine(hS ys rows z htab hne w X vs hs.xlt hG hyl hya).mono ?_;rintro e w' ⟨hst,B,cap,cur,t,rfl,hB,hcur,h1,h2,h3,h4⟩;have he:=ext_adopt (cs:=rows.flatten) hs hst hB hcur (by omega) (fun k x hk=>by
   obtain⟨v,v1,v2,v3⟩:=f2 k x hk;exact⟨v,v1,v2,h4 k v v3⟩)
  refine⟨_,he,.inl ⟨_,rfl,?_⟩⟩;have:=Rp.sl (w:=w') (X:=tot X (fun i=>if i=h.length then B else ρ i) (h++[Blk.row rows.flatten])) (ρ:=fun i=>if i=h.length then B else ρ i) (n:=(h++[Blk.row rows.flatten]).length)
   h.length 1 0 rows.length cap false cur t (0,0) (by simp) (by simpa using hcur) (by omega) (by simp) (by intro;omega) h1 h2
  simpa using this
 ·rename_i v htab;simp only[Zc,Zg]at hb;obtain⟨rfl,rfl⟩:=hb;obtain⟨p1,p2⟩:=hT f ys _ htab w X vs hs.xlt hG hyl hya;refine⟨p1,p2.mono fun e w' ⟨u,he,hst,hri⟩=>⟨ρ,ext_quiet hs hst,.inl ⟨u,he,.im ?_⟩⟩⟩;obtain⟨e1,e2⟩:=hri.sc_inv;subst e1;exact .sc _ e2
 ·cases hb
theorem arr3 {vs:Array Value}(h:vs.size=3):vs= #[vs.getD 0 undef,vs.getD 1 undef,vs.getD 2 undef]:=by
 apply Array.ext
 ·simpa using h
 ·intro i h1 h2;have h3:i<3:=by omega
  have:i=0∨i=1∨i=2:=by omega
  rcases this with rfl|rfl|rfl<;>simp[h1,Zr]
theorem row_vals {G:Nat→Option (List Value)}{w:World}{X:Nat→Prop}{ρ:Nat→Nat}{h:Hp}(hs:Sim G w X ρ h){id:Nat}{cs:List AV}(hid:h[id]?=some (.row cs))(m:Nat)(hm:m≤cs.length):
 ∃(cur:Array Value) (t:TypeId) (fz:Nat × Nat) (vals:List Value),w.heap[ρ id]?=some (.cells cur t fz)∧Fz fz cur∧cs.length≤cur.size∧vals.length=m∧(∀u∈vals,u.oneCell'=true)∧(∀(k:Nat) (u:Value),vals[k]?=some u→cur[k]?=some u)∧
  ∀(k:Nat) (y:AV),k<m→cs[k]?=some y→Rp w (tot X ρ h) ρ h.length (vals.getD k undef) y:=by
 obtain⟨cur,t,fz,us,c1,c2,c3,c4⟩:=hs.row id cs hid;refine⟨cur,t,fz,(List.range m).map us,c1,c2,c3,by simp,fun u hu=>?_,fun k u hk=>?_,fun k y hk hy=>?_⟩
 ·simp only[Yh,List.mem_range]at hu;obtain⟨j,hj,rfl⟩:=hu;exact(c4 j _ (Zb (by omega))).2.1
 ·simp only[Zs,Ze]at hk;obtain⟨j,hj,rfl⟩:=hk;have hjl:k<m:=by have:=(Za.1 hj).1;simpa using this
  rw[List.getElem?_range hjl]at hj;cases hj;exact(c4 k _ (Zb (by omega))).1
 ·have e:((List.range m).map us).getD k undef=us k:=by simp[List.getD,List.getElem?_range hk]
  rw[e];exact(c4 k y hy).2.2
theorem ins_cells {w:World}{X:Nat→Prop}{ρ:Nat→Nat}{n:Nat}{olds vs:List Value}{oa va:List AV}(p:Nat)(hp:p≤olds.length)(h1:oa.length=olds.length)(h2:va.length=vs.length)
 (ho:∀(k:Nat) (y:AV),oa[k]?=some y→Rp w X ρ n (olds.getD k undef) y) (hv:∀(k:Nat) (y:AV),va[k]?=some y→Rp w X ρ n (vs.getD k undef) y) (o1:∀u∈olds,u.oneCell'=true) (v1:∀u∈vs,u.oneCell'=true)
 (k:Nat) (y:AV) (hk:(oa.take p++va++oa.drop p)[k]?=some y):∃u,(olds.take p++vs++olds.drop p)[k]?=some u∧u.oneCell'=true∧Rp w X ρ n u y:=by
 have hl:(oa.take p++va++oa.drop p).length=(olds.take p++vs++olds.drop p).length:=by simp;omega
 have hkl:k< (olds.take p++vs++olds.drop p).length:=by rw[←hl];exact(Za.1 hk).1
 refine⟨_,Zb hkl,?_,?_⟩
 ·have hm:=List.getElem_mem hkl;rcases Ya.1 hm with hm|hm
  ·rcases Ya.1 hm with hm|hm
   ·exact o1 _ (List.mem_of_mem_take hm)
   ·exact v1 _ hm
  ·exact o1 _ (List.mem_of_mem_drop hm)
 ·have key:∀(l m:List Value) (la ma:List AV),la.length=l.length→(∀k y,la[k]?=some y→Rp w X ρ n (l.getD k undef) y)→(∀k y,ma[k]?=some y→Rp w X ρ n (m.getD k undef) y)→∀k y,(la++ma)[k]?=some y→Rp w X ρ n ((l++m).getD k undef) y:=by
   intro l m la ma e q1 q2 k y hy;by_cases hk:k<la.length
   ·rw[Zd hk]at hy;rw[List.getD,Zd (by omega)];exact q1 k y hy
   ·rw[Zf (by omega)]at hy;rw[List.getD,Zf (by omega),←e];exact q2 _ y hy
  have:=key (olds.take p++vs) (olds.drop p) (oa.take p++va) (oa.drop p) (by simp;omega) (key _ _ _ _ (by simp;omega) (fun k y hy=>by
   rw[List.getElem?_take]at hy;split at hy
   ·rename_i hkp;rw[List.getD,List.getElem?_take,if_pos hkp];exact ho k y hy
   ·cases hy) hv) (fun k y hy=>by
   rw[List.getElem?_drop]at hy;rw[List.getD,List.getElem?_drop];exact ho _ y hy) k y hk
  rwa [List.getD,Zb hkl]at this
theorem ins_sound {C:Cx}{f:FuncId}{sz bytes:Nat}(hI:InsOK C f sz bytes){xs:List AV}{h h':Hp}{r:AV}(hb:insA sz bytes h xs=some (r,h'))(w:World)(X:Nat→Prop)(ρ:Nat→Nat)(vs:Array Value)(hs:Sim C.G w X ρ h)(hl:vs.size=xs.length)
 (hv:∀(k:Nat) (x:AV),xs[k]?=some x→Rp w (tot X ρ h) ρ h.length (vs.getD k undef) x):
 (∃fn,C.P.funcs[f]?=some fn∧fn.name≠ "runtime.NumGoroutine" ∧fn.body.isSome=true)∧Calls C.P f vs w (CallR C w X ρ h h' r):=by
 obtain⟨hsz,hby,hfn,hcon⟩:=hI;refine⟨hfn,?_⟩;unfold insA at hb;split at hb
 case h_2=>cases hb
 rename_i s i vid sv kk;split at hb
 case h_2=>cases hb
 rename_i cv hvid;split at hb
 case isFalse=>cases hb
 rename_i hc;obtain⟨rfl,hcv,hi0⟩:=hc;obtain⟨i',rfl⟩:∃i':Nat,i=i':=⟨i.toNat,by omega⟩;have q1:=(hv 1 _ rfl).sc_inv.1;obtain⟨vc,vcur0,vt0,vf0,q2,_⟩:=(hv 2 _ rfl).sl_inv;have q0:=hv 0 _ rfl;have hvs:=arr3 (by simpa using hl);rw[q1,q2]at hvs;obtain⟨vcur,vt,vf,vvals,v1,v2,v3,v4,v5,v6,v7⟩:=row_vals hs hvid sv (by omega);have hnil:∀(base:Option Addr) (k:Nat),vs.getD 0 undef= .slice base 0 0→((i':Int)=0∧k=0∧bytes≤140737488355328)→(r,h')=(AV.sl h.length sv 0 1 false,h++[Blk.row cv])→Calls C.P f vs w (CallR C w X ρ h h' r):=by
  intro base _ e0 hcc hrh;obtain⟨hi,_,hbb⟩:=hcc;have hi':i'=0:=by omega
  subst hi';simp only[Zg]at hrh;obtain⟨rfl,rfl⟩:=hrh;rw[hvs,e0];refine(hcon w base 0 0 0 (ρ vid) vc [] vvals vcur vt vf (by simp) v4 (by omega) (by omega) (by simp[maxLen]) (by omega) (by omega) (by simp) v5 v1 v2 v6 (.inl ⟨rfl,rfl⟩)).mono ?_;rintro e w' ⟨B,cap',cur',t',fz',rfl,hcur,hfz,hcs,hle,hmx,hcell,hh⟩;rcases hh with⟨hB,rfl,hst⟩|⟨_,h0,_⟩
  ·have he:=ext_adopt' hs hst hB (cs:=cv) hcur (by
    have:1*sv≤cap'*sv:=Zx _ (by omega);omega) (fun k y hk=>by
    have hkl:k<sv:=by have:=(Za.1 hk).1;omega
    have hgv:vvals[k]?=some (vvals.getD k undef):=by simp[List.getD,Zb (show k<vvals.length by omega)]
    exact⟨_,hcell k _ (by simpa using hgv),v5 _ (Zi hgv),v7 k y hkl hk⟩)
   refine⟨_,he,.inl ⟨_,rfl,?_⟩⟩;have:=Rp.sl (w:=w') (X:=tot X (fun i=>if i=h.length then B else ρ i) (h++[Blk.row cv])) (ρ:=fun i=>if i=h.length then B else ρ i) (n:=(h++[Blk.row cv]).length)
    h.length sv 0 1 cap' false cur' t' (0,0) (by simp) (by simpa using hcur) (by omega) (by simp) (by intro;omega) (by omega) hmx
   simpa using this
  ·exact absurd h0 (Nat.lt_irrefl 0)
 split at hb
 ·rename_i id s0 len;split at hb
  case h_2=>cases hb
  rename_i cs hid;split at hb
  case isFalse=>cases hb
  rename_i hc;obtain⟨rfl,hne,hile,hlen,hmax,hbb⟩:=hc;simp only[Int.toNat_natCast,Zc,Zg]at hb hile;obtain⟨rfl,rfl⟩:=hb;obtain⟨cap,cur0,t0,fz0,e0,hidlt,hheap,_,_,hcap',hlc,hcm⟩:=q0.sl_inv;have hcap:=hcap' rfl;obtain⟨cur,t,fz,ovals,o1,o2,o3,o4,o5,o6,o7⟩:=row_vals hs hid (len*s0) hlen;have hcc:cur0=cur∧t0=t∧fz0=fz:=by rw[hheap]at o1;cases o1;exact⟨rfl,rfl,rfl⟩
  obtain⟨rfl,rfl,rfl⟩:=hcc;have hlive:live h id:=⟨_,hid,rfl⟩;have hvlive:live h vid:=⟨_,hvid,rfl⟩;have hρne:ρ id≠ρ vid:=fun e=>hne (hs.inj _ _ hlive hvlive e)
  have hpl:i'*s0≤ovals.length:=by rw[o4];exact Zx _ hile
  have htk:(cs.take (len*s0)).length=ovals.length:=by simp;omega
  have hti:cs.take (i'*s0)=(cs.take (len*s0)).take (i'*s0):=by rw[List.take_take,Nat.min_eq_left (by omega)]
  rw[hvs,e0];refine(hcon w (some ⟨ρ id,0,none⟩) len cap i' (ρ vid) vc ovals vvals vcur vt vf o4 v4 hile hlc hcm hmax hbb o5 v5 v1 v2 v6 (.inr ⟨ρ id,cur0,t0,fz0,rfl,hρne,hheap,o2,by omega,o6⟩)).mono ?_;rintro e w' ⟨B,cap',cur',t',fz',rfl,hcur,hfz,hcs,hle,hmx,hcell,hh⟩;have hnew:∀(k:Nat) (y:AV),(cs.take (i'*s0)++cv++(cs.take (len*s0)).drop (i'*s0))[k]?=some y→∃u,cur'[k]?=some u∧u.oneCell'=true∧Rp w (tot X ρ h) ρ h.length u y:=by
   intro k y hk;rw[hti]at hk;obtain⟨u,u1,u2,u3⟩:=ins_cells (w:=w) (X:=tot X ρ h) (ρ:=ρ) (n:=h.length) (i'*s0) hpl htk (by omega) (fun k y hy=>by
    rw[List.getElem?_take]at hy;split at hy
    ·rename_i hkl;exact o7 k y hkl hy
    ·cases hy) (fun k y hy=>v7 k y (by have:=(Za.1 hy).1;omega) hy) o5 v5 k y hk
   exact⟨u,hcell k u u1,u2,u3⟩
  have hnl:(cs.take (i'*s0)++cv++(cs.take (len*s0)).drop (i'*s0)).length≤cur'.size:=by
   have:(len+1)*s0≤cap'*s0:=Zx _ hle;rw[Nat.add_mul]at this;simp;omega
  rcases hh with⟨hB,rfl,hst⟩|⟨hbase,_,a1,a2,a3,a4,a7,a5,a6⟩
  ·have hk:=ext_kill hs id;have he:=ext_adopt' hk.sim hst hB (cs:=cs.take (i'*s0)++cv++(cs.take (len*s0)).drop (i'*s0)) hcur hnl (fun k y hky=>by
    obtain⟨u,u1,u2,u3⟩:=hnew k y hky;exact⟨u,u1,u2,hk.rp u3⟩)
   have hall:=hk.trans he;have hlen':(h.set id Blk.dead).length=h.length:=by simp
   rw[hlen']at hall;refine⟨_,hall,.inl ⟨_,rfl,?_⟩⟩;have:=Rp.sl (w:=w') (X:=tot X (fun i=>if i=h.length then B else ρ i) (h.set id Blk.dead++[Blk.row (cs.take (i'*s0)++cv++(cs.take (len*s0)).drop (i'*s0))])) (ρ:=fun i=>if i=h.length then B else ρ i) (n:=(h.set id Blk.dead++[Blk.row (cs.take (i'*s0)++cv++(cs.take (len*s0)).drop (i'*s0))]).length)
    h.length s0 0 (len+1) cap' false cur' t' (0,0) (by simp) (by simpa using hcur) (by omega) (by simp) (by intro;omega) hle hmx
   simpa using this
  ·simp only[Zc,Addr.mk.injEq,and_true]at hbase;obtain⟨rfl,_⟩:ρ id=B∧True:=⟨by simpa using hbase,trivial⟩;have he:=ext_turn hs id (.row cs) (.row (cs.take (i'*s0)++cv++(cs.take (len*s0)).drop (i'*s0))) hid rfl rfl a1 a2 a3 a4 (fun c tt ff hc=>⟨cur',t',fz',hcur,a6 c tt ff hc⟩) a5
    ⟨cur',t',fz',fun k=>cur'.getD k undef,hcur,hfz,hnl,fun k y hky=>by
     obtain⟨u,u1,u2,u3⟩:=hnew k y hky;have:cur'.getD k undef=u:=by rw[Zr,u1];rfl
     simp only[this];exact⟨u1,u2,u3⟩⟩ a7
   have hid':(h.set id (Blk.row (cs.take (i'*s0)++cv++(cs.take (len*s0)).drop (i'*s0))))[id]?=some (.row (cs.take (i'*s0)++cv++(cs.take (len*s0)).drop (i'*s0))):=by
    have:id<h.length:=hidlt;simp[this]
   have hr:=ext_rename he.sim id _ hid';have hset:(h.set id (Blk.row (cs.take (i'*s0)++cv++(cs.take (len*s0)).drop (i'*s0)))).set id Blk.dead=h.set id Blk.dead:=by simp
   rw[hset]at hr;have hall:=he.trans hr;refine⟨_,hall,.inl ⟨_,rfl,?_⟩⟩;have hlen':(h.set id (Blk.row (cs.take (i'*s0)++cv++(cs.take (len*s0)).drop (i'*s0)))).length=h.length:=by simp
   have:=Rp.sl (w:=w') (X:=tot X (fun i=>if i=h.length then ρ id else ρ i) (h.set id Blk.dead++[Blk.row (cs.take (i'*s0)++cv++(cs.take (len*s0)).drop (i'*s0))])) (ρ:=fun i=>if i=h.length then ρ id else ρ i) (n:=(h.set id Blk.dead++[Blk.row (cs.take (i'*s0)++cv++(cs.take (len*s0)).drop (i'*s0))]).length)
    h.length s0 0 (len+1) cap' false cur' t' fz' (by simp) (by simpa using hcur) (by omega) (by simp) (by intro;omega) hle hmx
   simpa[hlen']using this
 ·rename_i s0;split at hb
  case isFalse=>cases hb
  rename_i hc;obtain⟨rfl,hi,hbb⟩:=hc;simp only[Zc]at hb;rcases q0.ls_inv.ls_cases with⟨_,b,cap,hq,_,c2⟩|⟨b,o',cap,us,cur,t0,fz,hq,c1,c2,c4,c5,c6,c7,c8⟩
  ·have:=c2 rfl;subst this;exact hnil _ 0 hq ⟨hi,rfl,hbb⟩ hb.symm
  ·have:=c6 rfl;simp only[List.length_nil]at this hq;subst this;exact hnil _ 0 hq ⟨hi,rfl,hbb⟩ hb.symm
 ·split at hb
  case isFalse=>cases hb
  rename_i hc;simp only[Zc]at hb;exact hnil _ 0 q0.sc_inv.1 ⟨hc.1,rfl,hc.2⟩ hb.symm
 ·cases hb
theorem pure_of_call {C:Cx}{call:Cal}(hcall:CallOK C call){g:FuncId}{xs:List AV}{h':Hp}{c:Value}(hc:call g xs []=some (.sc c,h')):PureOK C g xs (.sc c):=by
 intro w X vs hX hG hl hv;have hs:=sim_nil hX hG id;obtain⟨h1,h2⟩:=hcall g xs [] _ _ hc w X id vs hs hl (fun k x hk=> .im ((hv k x hk).anti fun b hb=>hb.elim (fun h=>h) fun h=>absurd h (own_nil id b)));refine⟨h1,h2.mono fun e w' ⟨ρ',hx,hh⟩=>?_⟩;rcases hh with⟨v,he,hr⟩|⟨u,_,hu⟩
 ·obtain⟨rfl,hf⟩:=hr.sc_inv;exact⟨_,he,⟨hx.step.os,hx.step.tape,hx.step.output,hx.step.size,fun b hb _=>hx.step.keep b hb (own_nil id b),hx.step.row,fun _ _ h=>h,hx.step.drew⟩,.sc _ hf⟩
 ·cases hu
theorem tot_give {X:Nat→Prop}{ρ:Nat→Nat}{h:Hp}{id:Nat}{b:Blk}(hid:h[id]?=some b)(hl:liveB b=true):tot (fun p=>X p∨p=ρ id) ρ (h.set id .dead)=tot X ρ h:=by
 have hlt:=(Za.1 hid).1
 funext p
 apply propext;constructor
 ·rintro((hx|rfl)|⟨i,⟨b',hb',hd⟩,rfl⟩)
  ·exact .inl hx
  ·exact .inr ⟨id,⟨b,hid,hl⟩,rfl⟩
  ·by_cases e:id=i
   ·subst e;rw[Zj hlt]at hb';cases hb';cases hd
   ·rw[Zq e]at hb';exact .inr ⟨i,⟨b',hb',hd⟩,rfl⟩
 ·rintro(hx|⟨i,⟨b',hb',hd⟩,rfl⟩)
  ·exact .inl (.inl hx)
  ·by_cases e:id=i
   ·subst e;exact .inl (.inr rfl)
   ·exact .inr ⟨i,⟨b',by rw[Zq e];exact hb',hd⟩,rfl⟩
theorem sim_give {G:Nat→Option (List Value)}{w:World}{X:Nat→Prop}{ρ:Nat→Nat}{h:Hp}(hs:Sim G w X ρ h){id:Nat}{b:Blk}(hid:h[id]?=some b)(hl:liveB b=true):Sim G w (fun p=>X p∨p=ρ id) ρ (h.set id .dead):=by
 have hlt:=(Za.1 hid).1;have e:=tot_give (X:=X) (ρ:=ρ) hid hl;have hlv:∀i,live (h.set id .dead) i→id≠i∧live h i:=by
  rintro i ⟨b',hb',hd⟩;by_cases q:id=i
  ·subst q;rw[Zj hlt]at hb';cases hb';cases hd
  ·rw[Zq q]at hb';exact⟨q,b',hb',hd⟩
 refine⟨fun p hp=>hp.elim (hs.xlt p) fun q=>q▸hs.lt ⟨b,hid,hl⟩,fun g row hg=>?_,fun i j hi hj=>hs.inj i j (hlv i hi).2 (hlv j hj).2,fun i hi hx=>?_,fun i cs hi=>?_,fun i b' hi=>?_⟩
 ·rw[e];exact hs.glob g row hg
 ·obtain⟨q,hi'⟩:=hlv i hi;rcases hx with hx|hx
  ·exact hs.out i hi' hx
  ·exact q (hs.inj _ _ ⟨b,hid,hl⟩ hi' hx.symm)
 ·rw[e];by_cases q:id=i
  ·subst q;rw[Zj hlt]at hi;cases hi
  ·rw[Zq q]at hi;exact hs.cold i cs hi
 ·rw[e,List.length_set];by_cases q:id=i
  ·subst q;rw[Zj hlt]at hi;cases hi;trivial
  ·rw[Zq q]at hi;exact hs.blk i b' hi
theorem flat_rel {ι:Type}{A:ι→List AV}{B:ι→List Value}{s:Nat}{Q:Value→AV→Prop}(hA:∀i,(A i).length=s)(hB:∀i,(B i).length=s)(hR:∀(i:ι) (j:Nat) (x:AV),(A i)[j]?=some x→∃u,(B i)[j]?=some u∧Q u x):
 ∀(l:List ι) (p:Nat) (x:AV),(l.flatMap A)[p]?=some x→∃u,(l.flatMap B)[p]?=some u∧Q u x
 | [],p,x,h=>by simp at h
 |
  i::l,p,x,h=>by
  rw[List.flatMap_cons]at h⊢;by_cases hp:p<s
  ·rw[Zd (by rw[hA];exact hp)]at h;rw[Zd (by rw[hB];exact hp)];exact hR i p x h
  ·rw[Zf (by rw[hA];omega),hA]at h;rw[Zf (by rw[hB];omega),hB];exact flat_rel hA hB hR l _ x h
theorem flat_len {ι α:Type}{A:ι→List α}{s:Nat}(hA:∀i,(A i).length=s):∀l:List ι,(l.flatMap A).length=l.length*s
 | []=>by simp
 |i::l=>by rw[List.flatMap_cons,Zu,hA,flat_len hA l,List.length_cons,Nat.add_mul];omega
theorem sortQ_perm {m:Nat}{cf:Nat→Nat→Int}(h:SWOn m cf):(sortQ m cf).Perm (List.ofFn fun i:Fin (m+1)=>i):=by
 have:=(Sort.pdq_sorts _ h (Array.ofFn fun i:Fin (m+1)=>i) 0 (m+1) (Lib.bitLen (m+1)) true true (Nat.zero_le _) (by simp) (Or.inl rfl)).1;obtain⟨h1,_,h3⟩:=this;have e1:(Array.ofFn fun i:Fin (m+1)=>i).extract 0 (m+1)=Array.ofFn fun i:Fin (m+1)=>i:=by simp
 have hz:(Sort.pdq (fun i j:Fin (m+1)=>decide (cf i.1 j.1<0)) (Array.ofFn fun i:Fin (m+1)=>i) 0 (m+1) (Lib.bitLen (m+1)) true true).size=m+1:=by rw[h1];simp
 rw[e1]at h3;unfold sortQ;have e2:(Sort.pdq (fun i j:Fin (m+1)=>decide (cf i.1 j.1<0)) (Array.ofFn fun i:Fin (m+1)=>i) 0 (m+1) (Lib.bitLen (m+1)) true true).extract 0 (m+1)=Sort.pdq (fun i j:Fin (m+1)=>decide (cf i.1 j.1<0)) (Array.ofFn fun i:Fin (m+1)=>i) 0 (m+1) (Lib.bitLen (m+1)) true true:=by
  have:=Array.extract_size (xs:=Sort.pdq (fun i j:Fin (m+1)=>decide (cf i.1 j.1<0)) (Array.ofFn fun i:Fin (m+1)=>i) 0 (m+1) (Lib.bitLen (m+1)) true true)
  rwa [hz]at this
 rw[e2]at h3;simpa using h3
theorem sortQ_two (cf:Nat→Nat→Int):sortQ 1 cf=if cf 1 0<0 then[1,0]else[0,1]:=by
 have e:(Array.ofFn fun i:Fin (1+1)=>i)= #[0,1]:=by decide
 unfold sortQ;rw[e,Sort.pdq,if_pos (by omega)];unfold Sort.insertionSort;rw[Sort.insOuter,if_pos (by omega),Sort.insOuter,if_neg (by omega)];by_cases h:cf 1 0<0
 ·rw[if_pos h];simp[Sort.insInner,Sort.swp,h]
 ·rw[if_neg h];simp[Sort.insInner,h]
theorem sortP_eq {m:Nat}{cf:Nat→Nat→Int}(h:SWOn m cf):sortP m cf=sortQ m cf:=by
 unfold sortP;split
 ·rename_i e;subst e;have:=sortQ_perm h;rw[List.ofFn_succ,List.ofFn_zero]at this⊢;exact(List.perm_singleton.1 this).symm
 ·split
  ·rename_i e;subst e;rw[sortQ_two];rfl
  ·rfl
theorem cmpB_ok {call:Cal}{g:FuncId}{ss:List AV}{m:Nat}(h:cmpB call g ss m=true):CmpOK call g ss m:=by
 unfold cmpB at h;split at h
 ·rename_i e;subst e;split at h
  case h_2=>cases h
  rename_i c h' hq;have hc:cfV call g ss 0 0=c:=by unfold cfV;rw[hq]
  have h0:0≤c:=by simpa using h
  refine⟨fun i j hi hj=>?_,?_⟩
  ·obtain rfl:i=0:=by omega
   obtain rfl:j=0:=by omega
   exact⟨h',by rw[hc];exact hq⟩
  ·have hz:∀i j:Fin (0+1),decide (cfV call g ss i.1 j.1<0)=false:=fun i j=>by
    have hi:i.1=0:=by omega
    have hj:j.1=0:=by omega
    rw[hi,hj,hc];simp;omega
   unfold SWOn;constructor<;>(intros;simp_all)
 ·split at h
  ·rename_i e;subst e;split at h
   case h_2=>cases h
   rename_i a h1 b h2 c h3 d h4 q1 q2 q3 q4;have e1:cfV call g ss 0 0=a:=by unfold cfV;rw[q1]
   have e2:cfV call g ss 0 1=b:=by unfold cfV;rw[q2]
   have e3:cfV call g ss 1 0=c:=by unfold cfV;rw[q3]
   have e4:cfV call g ss 1 1=d:=by unfold cfV;rw[q4]
   have hh:0≤a∧0≤d∧¬(b<0∧c<0):=by
    simp only[Zh,Zz,Bool.not_eq_true',Bool.and_eq_false_iff,decide_eq_false_iff_not]at h;exact⟨h.1.1,h.1.2,fun q=>h.2.elim (fun w=>w q.1) (fun w=>w q.2)⟩
   have two:∀i,i≤1→i=0∨i=1:=fun i hi=>by omega
   refine⟨fun i j hi hj=>?_,?_⟩
   ·rcases two i hi with rfl|rfl<;>rcases two j hj with rfl|rfl
    ·exact⟨_,by rw[e1];exact q1⟩
    ·exact⟨_,by rw[e2];exact q2⟩
    ·exact⟨_,by rw[e3];exact q3⟩
    ·exact⟨_,by rw[e4];exact q4⟩
   ·have hall:∀i j k:Nat,i≤1→j≤1→k≤1→(¬cfV call g ss i i<0)∧(cfV call g ss i j<0→cfV call g ss j k<0→cfV call g ss i k<0)∧(¬cfV call g ss i j<0→¬cfV call g ss j k<0→¬cfV call g ss i k<0):=fun i j k hi hj hk=>by
     rcases two i hi with rfl|rfl<;>rcases two j hj with rfl|rfl<;>rcases two k hk with rfl|rfl<;>simp only[e1,e2,e3,e4]<;>omega
    have hb:∀i:Fin (1+1),i.1≤1:=fun i=>by omega
    unfold SWOn;constructor
    ·intro i;exact decide_eq_false (hall _ _ _ (hb i) (hb i) (hb i)).1
    ·intro i j q w1 w2;exact decide_eq_true ((hall _ _ _ (hb i) (hb j) (hb q)).2.1 (of_decide_eq_true w1) (of_decide_eq_true w2))
    ·intro i j q w1 w2;exact decide_eq_false ((hall _ _ _ (hb i) (hb j) (hb q)).2.2 (of_decide_eq_false w1) (of_decide_eq_false w2))
  ·exact @of_decide_eq_true _ (Classical.propDecidable _) h
theorem cmpB_of {call:Cal}{g:FuncId}{ss:List AV}{m:Nat}(h:CmpOK call g ss m):cmpB call g ss m=true:=by
 obtain⟨ha,hw⟩:=h;unfold cmpB;split
 ·rename_i e;subst e;obtain⟨h',q⟩:=ha 0 0 (Nat.le_refl _) (Nat.le_refl _);rw[q];have:=of_decide_eq_false (hw.irrefl 0);simp only[Zz];exact Int.not_lt.1 this
 ·split
  ·rename_i e;subst e;obtain⟨h1,q1⟩:=ha 0 0 (by omega) (by omega);obtain⟨h2,q2⟩:=ha 0 1 (by omega) (by omega);obtain⟨h3,q3⟩:=ha 1 0 (by omega) (by omega);obtain⟨h4,q4⟩:=ha 1 1 (by omega) (by omega);have i0:=of_decide_eq_false (hw.irrefl 0);have i1:=of_decide_eq_false (hw.irrefl 1);have t0:cfV call g ss 0 1<0→cfV call g ss 1 0<0→cfV call g ss 0 0<0:=fun a b=>of_decide_eq_true (hw.trans 0 1 0 (decide_eq_true a) (decide_eq_true b))
   have i0':¬cfV call g ss 0 0<0:=i0;have i1':¬cfV call g ss 1 1<0:=i1;rw[q1,q2,q3,q4];simp only[Zh,Zz,Bool.not_eq_true',Bool.and_eq_false_iff,decide_eq_false_iff_not];refine⟨⟨by omega,by omega⟩,?_⟩;by_cases hb:cfV call g ss 0 1<0
   ·exact Or.inr fun hc=>i0' (t0 hb hc)
   ·exact Or.inl hb
  ·exact @decide_eq_true _ (Classical.propDecidable _) ⟨ha,hw⟩
theorem eltV_one {k:Nat}{vs:List Value}(h:vs.length=szK k)(h1:∀v∈vs,v.oneCell'=true):∀(w:World) (X:Nat→Prop) (ρ:Nat→Nat) (n:Nat) (cs:List AV),cs.length=szK k→(∀(j:Nat) (x:AV),cs[j]?=some x→Rp w X ρ n (vs.getD j undef) x)→Rp w X ρ n (eltV k vs) (eltA k cs):=by
 intro w X ρ n cs hl hr;unfold eltV eltA;by_cases hk:k=0
 ·rw[if_pos hk,if_pos hk];have e1:szK k=1:=by unfold szK;rw[if_pos hk]
  rw[e1]at h hl
  match vs,cs,h,hl with
  | [v],[x],_,_=>exact hr 0 x rfl
 ·rw[if_neg hk,if_neg hk];refine .ag _ _ (by simp[h,hl]) (fun j hj=>?_) fun j x hx=>?_
  ·have hj':j<vs.length:=by simpa using hj
   have:vs.toArray.getD j undef=vs[j]:=by simp[Array.getD,hj']
   rw[this];exact h1 _ (List.getElem_mem hj')
  ·have:=hr j x hx;have hj:j<vs.length:=by rw[h,←hl];exact(Za.1 hx).1
   have e:vs.toArray.getD j undef=vs.getD j undef:=by simp[Array.getD,List.getD,hj]
   rw[e];exact this
theorem sfn_sound {C:Cx}{f:FuncId}{kk:Nat}(hS:SfnOK C f kk){call:Cal}(hcall:CallOK C call){xs:List AV}{h h':Hp}{r:AV}(hb:sfnA call kk h xs=some (r,h'))(w:World)(X:Nat→Prop)(ρ:Nat→Nat)(vs:Array Value)(hs:Sim C.G w X ρ h)(hl:vs.size=xs.length)
 (hv:∀(k:Nat) (x:AV),xs[k]?=some x→Rp w (tot X ρ h) ρ h.length (vs.getD k undef) x):
 (∃fn,C.P.funcs[f]?=some fn∧fn.name≠ "runtime.NumGoroutine" ∧fn.body.isSome=true)∧Calls C.P f vs w (CallR C w X ρ h h' r):=by
 obtain⟨hfn,hnil,hcon⟩:=hS;refine⟨hfn,?_⟩;have quiet:∀{e:Ending} {w':World},e= .returned (.tuple #[])∧Step w none' w' none'→CallR C w X ρ h h (.tp []) e w':=fun{e w'} ⟨he,hst⟩=>⟨ρ,ext_quiet hs hst,.inl ⟨_,he,.im (.tp #[] [] rfl fun k x hk=>by simp at hk)⟩⟩
 have hvs:∀a b,vs.size=2→vs.getD 0 undef=a→vs.getD 1 undef=b→vs= #[a,b]:=fun a b h2 ha hb=>by
  obtain⟨l⟩:=vs
  match l,h2 with
  | [x,y],_=>simp at ha hb;rw[ha,hb]
 unfold sfnA at hb;split at hb
 ·rename_i g;simp only[Zc,Zg]at hb;obtain⟨rfl,rfl⟩:=hb;have q0:=(hv 0 _ rfl).sc_inv.1;obtain⟨us,q1,hus,_⟩:=(hv 1 _ rfl).fn_inv;rw[hvs _ _ (by simpa using hl) q0 q1];exact(hnil w none 0 g us (by simpa using hus)).mono fun e w' hh=>quiet hh
 ·rename_i s z g;simp only[Zc,Zg]at hb;obtain⟨rfl,rfl⟩:=hb;obtain⟨base,cap,q0⟩:∃base cap,vs.getD 0 undef= .slice base 0 cap:=by
   rcases(hv 0 _ rfl).ls_inv.ls_cases with⟨_,a,cap,e,_⟩|⟨b,o,cap,_,_,_,_,e,_⟩
   ·exact⟨_,_,e⟩
   ·exact⟨_,_,e⟩
  obtain⟨us,q1,hus,_⟩:=(hv 1 _ rfl).fn_inv;rw[hvs _ _ (by simpa using hl) q0 q1];exact(hnil w base cap g us (by simpa using hus)).mono fun e w' hh=>quiet hh
 ·rename_i id s off len k g;have hsz:0<szK kk:=by unfold szK;split<;>omega
  obtain⟨cap,cur0,t0,fz0,e0,hidlt,hheap,hk1,hk2,hcap',hlc,hcm⟩:=(hv 0 _ rfl).sl_inv;obtain⟨bs,q1,hbs,_⟩:=(hv 1 _ rfl).fn_inv;have hbs0:bs.size=0:=by simpa using hbs
  rw[hvs _ _ (by simpa using hl) e0 q1];split at hb
  ·simp only[Zc,Zg]at hb;obtain⟨rfl,rfl⟩:=hb;exact(hnil w _ cap g bs hbs0).mono fun e w' hh=>quiet hh
  ·rename_i cs m hid;split at hb
   case isFalse=>cases hb
   rename_i hc;obtain⟨hsK,hcs,hm62⟩:=hc;rw[←hsK]at hcon hsz;split at hb
   case h_2=>cases hb
   rename_i ss hss;split at hb
   case isFalse=>cases hb
   rename_i hcmp;simp only[Zc,Zg]at hb;obtain⟨rfl,rfl⟩:=hb;obtain⟨hans,hswo⟩:=cmpB_ok hcmp;rw[sortP_eq hswo];have hlive:live h id:=⟨_,hid,rfl⟩;obtain⟨cur,t,fz,us,c1,c2,c3,c4⟩:=hs.row id cs hid;have hG:=sim_give hs hid rfl;have htot:=tot_give (X:=X) (ρ:=ρ) hid (b:= .row cs) rfl;have hidx:∀(i:Fin (m+1)) (j:Nat),j<s→off+i.1*s+j<cs.length:=fun i j hj=>by
    have h1:(i.1+1)*s≤(m+1)*s:=Zx _ i.2;rw[Nat.add_mul]at h1;omega
   have hrl:∀i:Fin (m+1),(rowAt s off cs i.1).length=s:=fun i=>by
    have:=hidx i (s-1) (by omega);unfold rowAt;simp;omega
   have hrg:∀(i:Fin (m+1)) (j:Nat) (x:AV),(rowAt s off cs i.1)[j]?=some x→j<s∧cs[off+i.1*s+j]?=some x:=fun i j x hx=>by
    unfold rowAt at hx;rw[List.getElem?_take]at hx;split at hx
    ·rename_i hj;rw[List.getElem?_drop]at hx;exact⟨hj,hx⟩
    ·cases hx
   have hun:∀(i:Fin (m+1)) (j:Nat),j<s→((List.range s).map fun j=>us (off+i.1*s+j))[j]?=some (us (off+i.1*s+j)):=fun i j hj=>by simp[hj]
   have hcell:∀(i:Fin (m+1)) (j:Nat),j<s→cur[off+i.1*s+j]?=some (us (off+i.1*s+j))∧(us (off+i.1*s+j)).oneCell'=true:=fun i j hj=>by
    have:=c4 _ _ (Zb (hidx i j hj));exact⟨this.1,this.2.1⟩
   have hrp:∀i:Fin (m+1),Rp w (tot X ρ h) ρ h.length (eltV kk ((List.range s).map fun j=>us (off+i.1*s+j))) (eltA kk (rowAt s off cs i.1)):=fun i=>by
    refine eltV_one (by simp[hsK]) (fun v hv=>?_) _ _ _ _ _ ((hrl i).trans hsK) fun j x hx=>?_
    ·simp only[Yh,List.mem_range]at hv;obtain⟨j,hj,rfl⟩:=hv;exact(hcell i j hj).2
    ·obtain⟨hj,hx'⟩:=hrg i j x hx;have:((List.range s).map fun j=>us (off+i.1*s+j)).getD j undef=us (off+i.1*s+j):=by simp[List.getD,hj]
     rw[this];exact(c4 _ _ hx').2.2
   obtain⟨m1,m2⟩:=mapM_get hss;have hri:∀i:Fin (m+1),Ri w (fun p=>X p∨p=ρ id) (eltV kk ((List.range s).map fun j=>us (off+i.1*s+j))) (ss.getD i.1 .ud):=fun i=>by
    obtain⟨y,hy1,hy2⟩:=m2 i.1 i.1 (by simp);have:ss.getD i.1 .ud=y:=by simp[List.getD,hy1]
    rw[this];refine snap_sound hG 8 _ _ y ?_ hy2;rw[htot,List.length_set];exact hrp i
   have hg:∀(W:World) (i j:Fin (m+1)),SameBut (ρ id) w W→(∃fn,C.P.funcs[g]?=some fn∧fn.name≠ "runtime.NumGoroutine" ∧fn.body.isSome=true)∧
    Calls C.P g #[eltV kk ((List.range s).map fun k=>us (off+i.1*s+k)),eltV kk ((List.range s).map fun k=>us (off+j.1*s+k))] W (fun e W'=>e= .returned (.int .i64 (cfV call g ss i.1 j.1))∧Step W none' W' none'):=by
    intro W i j hW;obtain⟨w1,w2,w3,w4,w5⟩:=hW;obtain⟨h'',hc⟩:=hans i.1 j.1 (by omega) (by omega);have hk:Kept w (fun p=>X p∨p=ρ id) W (fun p=>X p∨p=ρ id):=⟨fun b hb hn=>w5 b hb (fun e=>hn (.inr e)),fun _ _ q=>q⟩;obtain⟨p1,p2⟩:=pure_of_call hcall hc W (fun p=>X p∨p=ρ id) #[eltV kk ((List.range s).map fun k=>us (off+i.1*s+k)),eltV kk ((List.range s).map fun k=>us (off+j.1*s+k))] (fun b hb=>Nat.lt_of_lt_of_le (hG.xlt b hb) w4) (fun gl row hgl=>by
     obtain⟨hn,cur1,t1,f1,hw1,hh⟩:=hG.glob gl row hgl;exact⟨fun q=>hn (.inl q),cur1,t1,f1,(w5 gl (heap_lt hw1) fun e=>hn (.inl (.inr e))).trans hw1,hh⟩) rfl (fun k x hx=>by
     match k,hx with
     |0,hx=>cases hx;exact(hri i).kept hk
     |1,hx=>cases hx;exact(hri j).kept hk
     |_+2,hx=>simp at hx)
    refine⟨p1,p2.mono fun e W' ⟨v,he,hst,hr⟩=>⟨?_,hst⟩⟩;have:=(Rp.im (ρ:=ρ) (n:=0) hr).sc_inv.1;rw[he,this]
   have hrefl:SameBut (ρ id) w w:=⟨rfl,rfl,rfl,Nat.le_refl _,fun _ _ _=>rfl⟩;refine(hcon w m cap (ρ id) off cur t fz (fun i=>(List.range s).map fun k=>us (off+i.1*s+k)) (cfV call g ss) g bs hbs0 hm62 c1 c2 (Yj hcs c3) (fun i=>by simp) (fun i u hu=>?_) (fun i j u hu=>?_) hswo (hg w 0 0 hrefl).1 (fun W i j hW=>(hg W i j hW).2)).mono ?_
   ·simp only[Yh,List.mem_range]at hu;obtain⟨j,hj,rfl⟩:=hu;exact(hcell i j hj).2
   ·have hj:j<s:=by have:=(Za.1 hu).1;simpa using this
    rw[hun i j hj]at hu;cases hu;exact(hcell i j hj).1
   rintro e w' ⟨rfl,cur',d1,d2,d3,d4,⟨o1,o2,o3,o4,o5⟩,d6⟩;have hlt:=heap_lt c1;have hw1:({w with heap:=w.heap.setIfInBounds (ρ id) (.cells cur' t fz)}:World).heap[ρ id]?=some (.cells cur' t fz):=by
    show(w.heap.setIfInBounds (ρ id) _)[ρ id]?=_;simp[hlt]
   have hwn:∀b,b≠ρ id→({w with heap:=w.heap.setIfInBounds (ρ id) (.cells cur' t fz)}:World).heap[b]?=w.heap[b]?:=fun b hb=>by
    show(w.heap.setIfInBounds (ρ id) _)[b]?=_;rw[Array.getElem?_setIfInBounds_ne (Ne.symm hb)]
   have hfl:((sortQ m (cfV call g ss)).flatMap fun i=>rowAt s off cs i.1).length=(m+1)*s:=by
    rw[flat_len hrl,(sortQ_perm hswo).length_eq,List.length_ofFn]
   have hnew:∀(k:Nat) (x:AV),(cs.take off++(sortQ m (cfV call g ss)).flatMap (fun i=>rowAt s off cs i.1)++cs.drop (off+(m+1)*s))[k]?=some x→∃u,cur'[k]?=some u∧u.oneCell'=true∧Rp w (tot X ρ h) ρ h.length u x:=by
    intro k x hx;have hto:(cs.take off).length=off:=by simp;omega
    by_cases k1:k<off
    ·rw[Zp,Zd (by rw[hto];exact k1),List.getElem?_take,if_pos k1]at hx;have:=c4 k x hx;exact⟨_,(d3 k (.inl k1)).trans this.1,this.2⟩
    ·rw[Zp,Zf (by rw[hto];omega),hto]at hx;by_cases k2:k<off+(m+1)*s
     ·rw[Zd (by rw[hfl];omega)]at hx;obtain⟨u,u1,u2⟩:=flat_rel (Q:=fun u x=>u.oneCell'=true∧Rp w (tot X ρ h) ρ h.length u x) hrl (B:=fun i:Fin (m+1)=>(List.range s).map fun k=>us (off+i.1*s+k)) (fun i=>by simp) (fun i j x hx=>by
       obtain⟨hj,hx'⟩:=hrg i j x hx;exact⟨_,hun i j hj,(c4 _ _ hx').2⟩) _ _ _ hx
      have:=d4 _ _ u1;rw[show off+(k-off)=k by omega]at this;exact⟨u,this,u2⟩
     ·rw[Zf (by rw[hfl];omega),hfl,List.getElem?_drop]at hx;rw[show off+(m+1)*s+(k-off-(m+1)*s)=k by omega]at hx;have:=c4 k x hx;exact⟨_,(d3 k (.inr (by omega))).trans this.1,this.2⟩
   have he:=ext_turn (w':={w with heap:=w.heap.setIfInBounds (ρ id) (.cells cur' t fz)}) hs id (.row cs) (.row (cs.take off++(sortQ m (cfV call g ss)).flatMap (fun i=>rowAt s off cs i.1)++cs.drop (off+(m+1)*s))) hid rfl rfl rfl rfl rfl (by simp) (fun c tt ff hc=>by
    rw[c1]at hc;cases hc;exact⟨cur',t,fz,hw1,d2⟩) hwn (by
    rw[hw1];refine⟨cur',t,fz,fun k=>cur'.getD k undef,rfl,c2.imp (fun q=>q) (fun q=>q.2.elim),?_,fun k x hx=>?_⟩
    ·rw[Zu,Zu,hfl,d2];simp;omega
    ·obtain⟨u,u1,u2,u3⟩:=hnew k x hx;have:cur'.getD k undef=u:=by rw[Zr,u1];rfl
     simp only[this];exact⟨u1,u2,u3⟩)
   have hkeep:∀b,b<w.heap.size→w'.heap[b]?=({w with heap:=w.heap.setIfInBounds (ρ id) (.cells cur' t fz)}:World).heap[b]?:=fun b hb=>by
    by_cases e:b=ρ id
    ·subst e;rw[d1,hw1]
    ·rw[o5 b hb e,hwn b e]
   have hst:Step ({w with heap:=w.heap.setIfInBounds (ρ id) (.cells cur' t fz)}:World) none' w' none':=⟨o1,o2,o3,by simpa using o4,fun b hb _=>hkeep b (by simpa using hb),fun b c tt ff hc=>⟨c,tt,ff,(hkeep b (by have:=heap_lt hc;simpa using this)).trans hc,rfl⟩,fun _ _ q=>q,d6⟩;exact⟨ρ,he.trans (ext_quiet he.sim hst),.inl ⟨_,rfl,.im (.tp #[] [] rfl fun k x hk=>by simp at hk)⟩⟩
  ·cases hb
 ·cases hb
theorem callN_sound {C:Cx}(hC:CxAll C):∀n,(∀b,CallOK C (callN C n b))∧∀g xs h r h',C.inl g=false→callN C n false g xs h=some (r,h')→h'=h:=by
 intro n
 induction n with
 |zero=>exact⟨fun b g xs h r h' hc=>by simp[callN]at hc,fun g xs h r h' _ hc=>by simp[callN]at hc⟩
 |
  succ n ih=>
  obtain⟨ih1,ih2⟩:=ih;constructor
  ·intro b g xs h r h' hc w X ρ vs hs hl hv;simp only[callN]at hc;split at hc
   ·rename_i g' kt hsr;split at hc
    ·exact sorted_sound (hC.srt g g' kt hsr) hc w X ρ vs hs hl hv
    ·cases hc
   split at hc
   ·split at hc
    ·rename_i sz bytes hins;unfold insX at hc;split at hc
     ·rename_i hz;subst hz;exact sfn_sound (hC.sfn g sz hins) (ih1 false) hc w X ρ vs hs hl hv
     split at hc
     ·rename_i hz hz1;subst hz1;exact own_sound (hC.own g sz hins) hC.tab hc w X ρ vs hs hl hv
     ·rename_i hz hz1;exact ins_sound (hC.ins g sz bytes hins hz hz1) hc w X ρ vs hs hl hv
    split at hc
    ·rename_i r1 htab;simp only[Zc,Zg]at hc;obtain⟨rfl,rfl⟩:=hc;split at htab
     case isFalse=>cases htab
     rename_i hcalm;rw[List.all_eq_true]at hcalm;obtain⟨p1,p2⟩:=hC.tab g xs _ htab w (tot X ρ h) vs (fun b hb=>hb.elim (hs.xlt b) fun⟨i,hi,e⟩=>e▸hs.lt hi) hs.glob (by omega) (fun k y hk=>calm_ri (hv k y hk) (hcalm _ (Zi hk)));exact⟨p1,p2.mono fun e w' ⟨v,he,hst,hri⟩=>⟨ρ,ext_quiet hs hst,.inl ⟨v,he,.im hri⟩⟩⟩
    split at hc
    ·split at hc
     ·exact bodyD_sound hC.base hC.rcv ih1 ih2 hc w X ρ vs hs hl hv
     ·exact body1_sound hC.base ih1 ih2 hc w X ρ vs hs hl hv
    ·cases hc
   ·split at hc
    case h_2=>cases hc
    rename_i ys hys;obtain⟨m1,m2⟩:=mapM_get hys;split at hc
    case h_2=>cases hc
    rename_i r' hr';have hpure:PureOK C g ys r':=by
     split at hr'
     ·rename_i r1 h1;simp only[Zc]at hr';subst hr';exact hC.tab g ys _ h1
     ·split at hr'
      ·rename_i r1 h1 hb;simp only[Ze]at hr';obtain⟨r2,hr2,rfl⟩:=hr';have hp:=pure_of_body hC.base ih1 ih2 hb hr2;exact fun w X vs h1 h2 h3 h4=>⟨(hp w X vs h1 h2 h3 h4).1,(hp w X vs h1 h2 h3 h4).2.mono fun e w' ⟨v,he,hst,hri⟩=>⟨v,he,hst,hC.nf g w' X v _ hri⟩⟩
      ·cases hr'
    split at hc
    ·rename_i hcond;simp only[Zc,Zg]at hc;obtain⟨rfl,rfl⟩:=hc;simp only[Bool.or_eq_true]at hcond;rcases hcond with hcalm|hsc
     ·rw[List.all_eq_true]at hcalm;have hG:GOK C.G w (tot X ρ h):=hs.glob;obtain⟨p1,p2⟩:=hpure w (tot X ρ h) vs (fun b hb=>hb.elim (hs.xlt b) fun⟨i,hi,e⟩=>e▸hs.lt hi) hG (by omega) (fun k y hk=>by
       have hkl:k<xs.length:=by have:=(Za.1 hk).1;omega
       obtain⟨b,hb,hsn⟩:=m2 k _ (Zb hkl);rw[hk]at hb;cases hb;have hcx:=hcalm _ (List.getElem_mem hkl);rw[snap_calm hcx hsn];exact calm_ri (hv k _ (Zb hkl)) hcx)
      exact⟨p1,p2.mono fun e w' ⟨v,he,hst,hri⟩=>⟨ρ,ext_quiet hs hst,.inl ⟨v,he,.im hri⟩⟩⟩
     ·have hG:GOK C.G w X:=fun g row hg=>by
       obtain⟨h1,h2⟩:=hs.glob g row hg;exact⟨fun hh=>h1 (.inl hh),h2⟩
      obtain⟨p1,p2⟩:=hpure w X vs hs.xlt hG (by omega) (fun k y hk=>by
       have hkl:k<xs.length:=by have:=(Za.1 hk).1;omega
       obtain⟨b,hb,hsn⟩:=m2 k _ (Zb hkl);rw[hk]at hb;cases hb;exact snap_sound hs 8 _ _ _ (hv k _ (Zb hkl)) hsn)
      exact⟨p1,p2.mono fun e w' ⟨v,he,hst,hri⟩=>⟨ρ,ext_quiet hs hst,.inl ⟨v,he,.im (scalar_ri hri hsc)⟩⟩⟩
    ·split at hc
     case isFalse=>cases hc
     rename_i hb;simp only[Zh,Option.isSome_iff_exists]at hb;obtain⟨_,zs,hzs⟩:=hb;simp only[Ze,Zg]at hc;obtain⟨h1,hz,rfl,rfl⟩:=hc;obtain⟨he,hsn⟩:=freeze_sound hs hz;obtain⟨z1,z2⟩:=mapM_get hzs;obtain⟨p1,p2⟩:=hpure w (tot X ρ h1) vs (fun b hb=>hb.elim (hs.xlt b) fun⟨i,hi,e⟩=>e▸he.sim.lt hi) he.sim.glob (by omega) (fun k y hk=>by
      have hkl:k<xs.length:=by have:=(Za.1 hk).1;omega
      obtain⟨b,hb,hs1⟩:=m2 k _ (Zb hkl);obtain⟨b',hb',hs2⟩:=z2 k _ (Zb hkl);have hs3:=snap_mask _ _ _ hs2;rw[hs1]at hs3;cases hs3;rw[hk]at hb;cases hb;exact hsn 8 _ _ _ (hv k _ (Zb hkl)) hs2)
     exact⟨p1,p2.mono fun e w' ⟨v,hev,hst,hri⟩=>⟨ρ,he.trans (ext_quiet he.sim hst),.inl ⟨v,hev,.im hri⟩⟩⟩
  ·intro g xs h r h' hinl hc;simp only[callN,hinl,Yl,if_false,Bool.false_and]at hc;split at hc
   ·cases hc
   split at hc
   case h_2=>cases hc
   split at hc
   case h_2=>cases hc
   split at hc
   case isFalse=>cases hc
   simp only[Zc,Zg]at hc;exact hc.2.symm
theorem pure_of_run {C:Cx}(hC:CxAll C){n:Nat}{f:FuncId}{xs:List AV}{h':Hp}{r0 r:AV}(hb:body1 C (callN C n) f xs []=some (r0,h')){m:Nat}(hsn:snap h' m r0=some r):PureOK C f xs r:=
 pure_of_body hC.base (callN_sound hC n).1 (callN_sound hC n).2 hb hsn
end Go.Ae
