/- What a world's data read as: values and predicates. -/
import Derived.Test.YtadaeokidcgdlaaGreatDoorP19
import Derived.Deep.Slices
import GoSem.ClaimJoined
import Derived.Test.YtadaeokidcgdlaaGreatDoorP39
set_option linter.unusedSimpArgs false
set_option maxRecDepth 100000
namespace Go.Proofs.YtadaeokidcgdlaaGreatDoor
open Go Go.Ae Go.ChangeShapes Go.WideShapes
theorem cellsV :Tryz.prog.cellsOf 38=5:=by kernel_rfl
theorem cellsI :Tryz.prog.cellsOf 3=1:=by kernel_rfl
theorem cellsS :Tryz.prog.cellsOf 9=1:=by kernel_rfl
theorem cellsL :Tryz.prog.cellsOf 36=1:=by kernel_rfl
theorem cellsP :Tryz.prog.cellsOf 40=8:=by kernel_rfl
def RV (w:World)(cs:List Value)(v:V):Prop:=cs.length=5∧∀(j:Nat) (y:AV),(enc v)[j]?=some y→(cs.getD j undef).oneCell'=true∧Ri w none' (cs.getD j undef) y
theorem list_of {p:Nat→V→Prop}:∀n,(∀i,i<n→∃x,p i x)→∃l:List V,l.length=n∧∀i v,l[i]?=some v→p i v
 |0,_=>⟨[],rfl,by simp⟩
 |
  n+1,h=>by
  obtain⟨l,hl,hp⟩:=list_of n fun i hi=>h i (by omega)
  obtain⟨x,hx⟩:=h n (by omega);refine⟨l++[x],by simp[hl],fun i v hv=>?_⟩;by_cases hi:i<n
  ·rw[Zd (by omega)]at hv;exact hp i v hv
  ·have hlt:=(Za.1 hv).1;simp at hlt;obtain rfl:i=n:=by omega
   rw[Zf (by omega),hl]at hv;simp at hv;subst hv;exact hx
theorem depL_le {D:Nat}:∀{l:List V},(∀x∈l,dep x≤D)→depL l≤D
 | [],_=>by simp[depL]
 |
  x::xs,h=>by
  have h1:=h x (by simp);have h2:=depL_le fun y hy=>h y (List.mem_cons_of_mem _ hy)
  rw[depL];omega
theorem bdL_of :∀{l:List V},(∀x∈l,bdV x)→bdL l
 | [],_=>by simp[bdL]
 |
  x::xs,h=>by
  rw[bdL];exact⟨h x (by simp),bdL_of fun y hy=>h y (List.mem_cons_of_mem _ hy)⟩
theorem reach_bd {n:Nat}(h:n≤reachBytes):n≤1000000000000000:=by unfold reachBytes at h;omega
theorem bytesV :Tryz.prog.bytesOf 38=64:=by kernel_rfl
theorem weights_value {H:Type}(a b c d e:DataW H):(DataW.agg [a,b,c,d,e]).weights Tryz.prog 38=a.weights Tryz.prog 3++(b.weights Tryz.prog 3++(c.weights Tryz.prog 3++(d.weights Tryz.prog 9++(e.weights Tryz.prog 36++[])))):=by
 rw[DataW.weights,Tryz.underlying38];rfl
theorem weights_values {H:Type}(es sp:List (DataW H)):(DataW.slice es sp).weights Tryz.prog 36=(es.length+sp.length)*64::(DataW.weightsAll Tryz.prog 38 es++DataW.weightsAll Tryz.prog 38 sp):=by
 rw[DataW.weights,Tryz.underlying36,←bytesV]
theorem weights_pred {H:Type}(a b c d:DataW H):(DataW.agg [a,b,c,d]).weights Tryz.prog 40=a.weights Tryz.prog 3++(b.weights Tryz.prog 9++(c.weights Tryz.prog 9++(d.weights Tryz.prog 38++[]))):=by
 rw[DataW.weights,Tryz.underlying40];rfl
theorem weights_mem {H:Type}{e:TypeId}{d:DataW H}{m:Nat}(hm:m∈d.weights Tryz.prog e):∀{l:List (DataW H)},d∈l→m∈DataW.weightsAll Tryz.prog e l
 |
  x::l,h=>by
  rw[DataW.weightsAll];rcases List.mem_cons.1 h with rfl|h
  ·exact Zy _ hm
  ·exact Zk _ (weights_mem hm h)
def Fits {H:Type}(t:TypeId)(d:DataW H):Prop:=∀m∈d.weights Tryz.prog t,m≤reachBytes
section
variable {H : Type} {en : TypeId × Value → H} {w : World} {held : Bool}
theorem ri_values {a:Addr}{cap:Nat}{l:List V}(hl:l.length≤cap)(hm:cap≤maxLen)(hp:∀(i:Nat) (v:V),l[i]?=some v→∃cs,w.cells? 0 (a.add (i*5)) 5=some cs∧RV w cs v):Ri w none' (.slice (some a) l.length cap) (.ls 5 (encL l) false):=by
 cases hl0:l with
 |nil=>exact .le _ _ _ _ hm (by simp)
 |
  cons v0 l0=>
  rw[←hl0];obtain⟨cs0,hc0,_⟩:=hp 0 v0 (by rw[hl0];rfl);obtain⟨_,hn0,hg0⟩:=World.cells?_some hc0;have h00:=hg0 0 (by omega);rw[Nat.zero_mul,Go.Deep.add_add,Zb (by omega)]at h00;obtain⟨b,o,sp⟩:=a;have h0:w.cell? ⟨b,o,sp⟩=some cs0[0]:=h00;unfold World.cell? at h0;cases hb:w.heap[b]? with
  |none=>rw[hb]at h0;cases h0
  |
   some ob=>
   rw[hb]at h0;cases ob<;>simp only[reduceCtorEq]at h0;rename_i cur t fz;cases sp with
   |some q=>simp at h0
   |
    none=>
    have at':∀k,w.cell? ⟨b,o+k,none⟩=cur[o+k]?:=fun k=>by unfold World.cell?;rw[hb];rfl
    have add':∀k,(Addr.mk b o none).add k=⟨b,o+k,none⟩:=fun k=>by
     unfold Addr.add;by_cases hk:k=0
     ·subst hk;simp
     ·simp[hk]
    have key:∀(i:Nat) (row:List AV) (j:Nat) (x:AV),(encL l)[i]?=some row→row[j]?=some x→cur[o+i*5+j]?=some (cur.getD (o+i*5+j) undef)∧(cur.getD (o+i*5+j) undef).oneCell'=true∧Ri w none' (cur.getD (o+i*5+j) undef) x:=by
     intro i row j x hi hj;rw[encL_get]at hi;cases hv:l[i]? with
     |none=>rw[hv]at hi;cases hi
     |
      some v=>
      rw[hv]at hi;simp only[Option.map_some,Zc]at hi;subst hi;have hj5:j<5:=by have:=(Za.1 hj).1;rwa [enc_length]at this
      obtain⟨cs,hc,hn,hr⟩:=hp i v hv;obtain⟨_,_,hg⟩:=World.cells?_some hc;have h1:=hg j hj5;rw[Go.Deep.add_add,add',at',Zb (by omega)]at h1;have e:cur.getD (o+i*5+j) undef=cs.getD j undef:=by
       rw[Zr,Nat.add_assoc,h1,Yj,Zb (by omega)]
      rw[e,Nat.add_assoc,h1,Yj,Zb (by omega)];have:=hr j x hj;rw[Yj,Zb (by omega)]at this;exact⟨rfl,this.1,this.2⟩
    refine .ls b o l.length cap 5 (encL l) false (fun i j=>cur.getD (o+i*5+j) undef) cur t fz (fun h=>h) hb (encL_length l) hl hm (by simp) ?_ (fun i row j x hi hj=>⟨(key i row j x hi hj).1,(key i row j x hi hj).2.1⟩) (fun i row j x hi hj=>(key i row j x hi hj).2.2);intro i row hi;rw[encL_get]at hi;cases hv:l[i]? with
    |none=>rw[hv]at hi;cases hi
    |
     some v=>
     rw[hv]at hi;simp only[Option.map_some,Zc]at hi;rw[←hi,enc_length]
theorem readV :∀(fuel:Nat) (cs:List Value) (x:DataW H × List MemPlace),DataW.trod en Tryz.prog w 0 (fun _=>true) held fuel 38 cs=some x→Fits 38 x.1→∃v:V,dep v≤fuel∧bdV v∧RV w cs v:=by
 intro fuel
 induction fuel using Nat.strongRecOn with
 |
  ind fuel ih=>
  intro cs x h hw;obtain⟨xs,n,rfl,rfl,hl,hn,hf⟩:=DataW.trod_struct Tryz.underlying38 h;rw[cellsV]at hl;have hn5:xs.length=5:=hn
  match cs,hl,xs,hn5 with
  |
   [c0,c1,c2,c3,c4],_,[x0,x1,x2,x3,x4],_=>
   have h0:=hf 0 _ rfl;have h1:=hf 1 _ rfl;have h2:=hf 2 _ rfl;have h3:=hf 3 _ rfl;have h4:=hf 4 _ rfl;clear hf h;simp only[cellsI,cellsS,cellsL,Yg,List.drop_succ_cons,Yf,List.take_zero,Ye,Yd]at h0 h1 h2 h3 h4;obtain⟨k0,e0,_,_⟩:=DataW.trod_int Tryz.underlying3 h0;obtain⟨k1,e1,_,_⟩:=DataW.trod_int Tryz.underlying3 h1;obtain⟨k2,e2,_,_⟩:=DataW.trod_int Tryz.underlying3 h2;obtain⟨s3,e3,w3,_⟩:=DataW.trod_string Tryz.underlying9 h3;obtain rfl:c0=_:=(List.cons.inj e0).1;obtain rfl:c1=_:=(List.cons.inj e1).1;obtain rfl:c2=_:=(List.cons.inj e2).1;obtain rfl:c3=_:=(List.cons.inj e3).1;have hw':Fits 38 (DataW.agg [x0.1,x1.1,x2.1,x3.1,x4.1]):=hw;unfold Fits at hw';rw[weights_value]at hw';have hs:s3.size≤reachBytes:=hw' _ (by
    refine Zk _ (Zk _ (Zk _ (Zy _ ?_)));rw[w3];exact List.mem_singleton.2 rfl)
   have hw4:Fits 36 x4.1:=fun m hm=>hw' m (Zk _ (Zk _ (Zk _ (Zk _ (Zy _ hm)))))
   have fin:∀(z:Bool) (l:List V) (D:Nat),(∀y∈l,dep y≤D)→D+1≤n+1→(∀y∈l,bdV y)→l.length≤reachBytes→c4.oneCell'=true→Ri w none' c4 (evL z l)→
    ∃v:V,dep v≤n+1∧bdV v∧RV w [.int .i64 k0,.int .i64 k1,.int .i64 k2,.string s3,c4] v:=by
    intro z l D hd hD hb hll ho hr;refine⟨.mk k0 k1 k2 s3 z l,?_,?_,rfl,fun j y hj=>?_⟩
    ·rw[dep];have:=depL_le hd;omega
    ·rw[bdV];exact⟨reach_bd hs,reach_bd hll,bdL_of hb⟩
    ·match j,hj with
     |0,hj=>cases hj;exact⟨rfl,.sc _ rfl⟩
     |1,hj=>cases hj;exact⟨rfl,.sc _ rfl⟩
     |2,hj=>cases hj;exact⟨rfl,.sc _ rfl⟩
     |3,hj=>cases hj;exact⟨rfl,.sc _ rfl⟩
     |4,hj=>cases hj;exact⟨ho,hr⟩
     |_+5,hj=>simp[enc]at hj
   rcases DataW.trod_slice Tryz.underlying36 h4 with⟨e,_⟩|⟨a,len,cap,elems,rest,m,hm,e,wx,_,hlc,hcm,hel,hq,_⟩
   ·obtain rfl:c4=_:=(List.cons.inj e).1;exact fin true [] 0 (by simp) (by omega) (by simp) (by simp) rfl (.sc _ rfl)
   ·obtain rfl:c4=_:=(List.cons.inj e).1;unfold Fits at hw4;rw[wx,weights_values]at hw4;have hlen:elems.length≤reachBytes:=by
     have:=hw4 _ (List.mem_cons_self ..);simp only[Yk]at this;omega
    obtain⟨l,hll,hp⟩:=list_of (p:=fun i v=>dep v≤m∧bdV v∧∃cs',w.cells? 0 (a.add (i*5)) 5=some cs'∧RV w cs' v) len (fun i hi=>by
     have h5:=hq i hi;rw[cellsV,Zb (by omega)]at h5;obtain⟨cs',q1,q2⟩:=Yh.1 h5;obtain⟨v,d1,d2,d3⟩:=ih m (by omega) cs' _ q2 (fun k hk=>hw4 k (List.mem_cons_of_mem _ (Zy _ (weights_mem hk (Yi.2 ⟨_,List.getElem_mem _,rfl⟩)))));exact⟨v,d1,d2,cs',q1,d3⟩)
    have hmem:∀y∈l,dep y≤m∧bdV y:=fun y hy=>by
     obtain⟨i,hi⟩:=List.getElem?_of_mem hy;exact⟨(hp i y hi).1,(hp i y hi).2.1⟩
    refine fin false l m (fun y hy=>(hmem y hy).1) (by omega) (fun y hy=>(hmem y hy).2) (by omega) rfl ?_;have:=ri_values (w:=w) (a:=a) (cap:=cap) (l:=l) (by omega) hcm (fun i v hv=>(hp i v hv).2.2);rw[hll]at this;unfold evL lsV;simpa using this
theorem readP (fuel:Nat)(us:Array Value)(x:DataW H × List MemPlace)(h:DataW.trod en Tryz.prog w 0 (fun _=>true) held fuel 40 us.toList=some x)(hw:Fits 40 x.1):∃p:Pr,dep p.v≤fuel∧bdV p.v∧Ri w none' (.agg us) (evP p):=by
 obtain⟨xs,n,rfl,rfl,hl,hn,hf⟩:=DataW.trod_struct Tryz.underlying40 h;rw[cellsP]at hl;have hn4:xs.length=4:=hn;obtain⟨us⟩:=us;simp only at hl hf
 match us,hl,xs,hn4 with
 |
  [c0,c1,c2,c3,c4,c5,c6,c7],_,[x0,x1,x2,x3],_=>
  have h0:=hf 0 _ rfl;have h1:=hf 1 _ rfl;have h2:=hf 2 _ rfl;have h3:=hf 3 _ rfl;clear hf h;simp only[cellsI,cellsS,cellsV,Yg,List.drop_succ_cons,Yf,List.take_zero,Ye,Yd]at h0 h1 h2 h3;obtain⟨k0,e0,_,_⟩:=DataW.trod_int Tryz.underlying3 h0;obtain⟨s1,e1,_,_⟩:=DataW.trod_string Tryz.underlying9 h1;obtain⟨s2,e2,_,_⟩:=DataW.trod_string Tryz.underlying9 h2;have hw':Fits 40 (DataW.agg [x0.1,x1.1,x2.1,x3.1]):=hw;unfold Fits at hw';rw[weights_pred]at hw';obtain⟨v,d1,d2,_,d3⟩:=readV n _ _ h3 (fun m hm=>hw' m (Zk _ (Zk _ (Zk _ (Zy _ hm)))));obtain rfl:c0=_:=(List.cons.inj e0).1;obtain rfl:c1=_:=(List.cons.inj e1).1;obtain rfl:c2=_:=(List.cons.inj e2).1;have hl5:=enc_length v;have key:∀(j:Nat) (y:AV),(encP ⟨k0,s1,s2,v⟩)[j]?=some y→((#[.int .i64 k0,.string s1,.string s2,c3,c4,c5,c6,c7]:Array Value).getD j undef).oneCell'=true∧Ri w none' ((#[.int .i64 k0,.string s1,.string s2,c3,c4,c5,c6,c7]:Array Value).getD j undef) y:=by
   intro j y hj;have low:j<8:=by have:=(Za.1 hj).1;simp[encP,hl5]at this;omega
   match j,hj,low with
   |0,hj,_=>cases hj;exact⟨rfl,.sc _ rfl⟩
   |1,hj,_=>cases hj;exact⟨rfl,.sc _ rfl⟩
   |2,hj,_=>cases hj;exact⟨rfl,.sc _ rfl⟩
   |3,hj,_=>exact d3 0 y hj
   |4,hj,_=>exact d3 1 y hj
   |5,hj,_=>exact d3 2 y hj
   |6,hj,_=>exact d3 3 y hj
   |7,hj,_=>exact d3 4 y hj
   |_+8,_,low=>omega
  refine⟨⟨k0,s1,s2,v⟩,by show dep v≤n+1;omega,d2,.ag _ _ (by simp[encP,hl5]) (fun k hk=>?_) (fun k y hy=>(key k y hy).2)⟩;have hk8:k< (encP ⟨k0,s1,s2,v⟩).length:=by simp[encP,hl5];simpa using hk
  exact(key k _ (Zb hk8)).1
end
def RR (w:World)(cs:List Value)(row:List AV):Prop:=cs.length=row.length∧∀(j:Nat) (y:AV),row[j]?=some y→(cs.getD j undef).oneCell'=true∧Ri w none' (cs.getD j undef) y
theorem rr_of_rv {w:World}{cs:List Value}{v:V}(h:RV w cs v):RR w cs (enc v):=⟨by rw[h.1,enc_length],h.2⟩
theorem list_of' {α:Type}{p:Nat→α→Prop}:∀n,(∀i,i<n→∃x,p i x)→∃l:List α,l.length=n∧∀i v,l[i]?=some v→p i v
 |0,_=>⟨[],rfl,by simp⟩
 |
  n+1,h=>by
  obtain⟨l,hl,hp⟩:=list_of' n fun i hi=>h i (by omega)
  obtain⟨x,hx⟩:=h n (by omega);refine⟨l++[x],by simp[hl],fun i v hv=>?_⟩;by_cases hi:i<n
  ·rw[Zd (by omega)]at hv;exact hp i v hv
  ·have hlt:=(Za.1 hv).1;simp at hlt;obtain rfl:i=n:=by omega
   rw[Zf (by omega),hl]at hv;simp at hv;subst hv;exact hx
theorem rr_app {w:World}{c1 c2:List Value}{r1 r2:List AV}(h1:RR w c1 r1)(h2:RR w c2 r2):RR w (c1++c2) (r1++r2):=by
 refine⟨by rw[Zu,Zu,h1.1,h2.1],fun j y hj=>?_⟩;by_cases hlt:j<r1.length
 ·rw[Zd hlt]at hj;rw[Yj,Zd (by rw[h1.1];exact hlt),←Yj];exact h1.2 j y hj
 ·rw[Zf (by omega)]at hj;rw[Yj,Zf (by rw[h1.1];omega),h1.1,←Yj];exact h2.2 _ y hj
theorem rr_one {w:World}{c:Value}{x:AV}(ho:c.oneCell'=true)(h:Ri w none' c x):RR w [c] [x]:=⟨rfl,fun j y hj=>by
 match j,hj with
 |0,hj=>cases hj;exact⟨ho,h⟩
 |_+1,hj=>simp at hj⟩
section
variable {w : World}
theorem ri_rows {a:Addr}{cap sz:Nat}{rows:List (List AV)}(hsz:0<sz)(hl:rows.length≤cap)(hm:cap≤maxLen)(hrow:∀row∈rows,row.length=sz)(hp:∀(i:Nat) (row:List AV),rows[i]?=some row→∃cs,w.cells? 0 (a.add (i*sz)) sz=some cs∧RR w cs row):Ri w none' (.slice (some a) rows.length cap) (.ls sz rows false):=by
 cases hl0:rows with
 |nil=>exact .le _ _ _ _ hm (by simp)
 |
  cons v0 l0=>
  rw[←hl0];obtain⟨cs0,hc0,hr0⟩:=hp 0 v0 (by rw[hl0];rfl);have hn0:cs0.length=sz:=by rw[hr0.1];exact hrow v0 (by rw[hl0];simp)
  obtain⟨_,_,hg0⟩:=World.cells?_some hc0;have h00:=hg0 0 hsz;rw[Nat.zero_mul,Go.Deep.add_add,Zb (by omega)]at h00;obtain⟨b,o,sp⟩:=a;have h0:w.cell? ⟨b,o,sp⟩=some cs0[0]:=h00;unfold World.cell? at h0;cases hb:w.heap[b]? with
  |none=>rw[hb]at h0;cases h0
  |
   some ob=>
   rw[hb]at h0;cases ob<;>simp only[reduceCtorEq]at h0;rename_i cur t fz;cases sp with
   |some q=>simp at h0
   |
    none=>
    have at':∀k,w.cell? ⟨b,o+k,none⟩=cur[o+k]?:=fun k=>by unfold World.cell?;rw[hb];rfl
    have add':∀k,(Addr.mk b o none).add k=⟨b,o+k,none⟩:=fun k=>by
     unfold Addr.add;by_cases hk:k=0
     ·subst hk;simp
     ·simp[hk]
    have key:∀(i:Nat) (row:List AV) (j:Nat) (x:AV),rows[i]?=some row→row[j]?=some x→cur[o+i*sz+j]?=some (cur.getD (o+i*sz+j) undef)∧(cur.getD (o+i*sz+j) undef).oneCell'=true∧Ri w none' (cur.getD (o+i*sz+j) undef) x:=by
     intro i row j x hi hj;have hrl:=hrow row (Zi hi);have hj5:j<sz:=by have:=(Za.1 hj).1;omega
     obtain⟨cs,hc,hr⟩:=hp i row hi;have hn:cs.length=sz:=by rw[hr.1,hrl]
     obtain⟨_,_,hg⟩:=World.cells?_some hc;have h1:=hg j hj5;rw[Go.Deep.add_add,add',at',Zb (by omega)]at h1;have e:cur.getD (o+i*sz+j) undef=cs.getD j undef:=by
      rw[Zr,Nat.add_assoc,h1,Yj,Zb (by omega)]
     rw[e,Nat.add_assoc,h1,Yj,Zb (by omega)];have:=hr.2 j x hj;rw[Yj,Zb (by omega)]at this;exact⟨rfl,this.1,this.2⟩
    exact .ls b o rows.length cap sz rows false (fun i j=>cur.getD (o+i*sz+j) undef) cur t fz (fun h=>h) hb rfl hl hm (by simp) (fun i row hi=>hrow row (Zi hi)) (fun i row j x hi hj=>⟨(key i row j x hi hj).1,(key i row j x hi hj).2.1⟩) (fun i row j x hi hj=>(key i row j x hi hj).2.2)
end
section
variable {H : Type} {en : TypeId × Value → H} {w : World} {held : Bool}
def Reads (H:Type)(en:TypeId × Value→H)(w:World)(held:Bool){α:Type}(t:TypeId)(encA:α→List AV)(P:Nat→α→Prop):Prop:=
 ∀(fuel:Nat) (cs:List Value) (x:DataW H × List MemPlace),DataW.trod en Tryz.prog w 0 (fun _=>true) held fuel t cs=some x→Fits t x.1→∃a:α,P fuel a∧RR w cs (encA a)
theorem reads_slice {α:Type}{encA:α→List AV}{P:Nat→α→Prop}{te tl:TypeId}{sz bs:Nat}(ht:Tryz.prog.underlying tl=some (.slice te))(hsz:0<sz)(hc:Tryz.prog.cellsOf te=sz)(hb:Tryz.prog.bytesOf te=bs+1)(henc:∀a,(encA a).length=sz)(hmono:∀m n a,m≤n→P m a→P n a)(rd:Reads H en w held te encA P):
 Reads H en w held tl (fun l:List α=> [.ls sz (l.map encA) false]) (fun n l=>(∀a∈l,P n a)∧l.length≤reachBytes):=by
 intro fuel cs x h hw;rcases DataW.trod_slice ht h with⟨e,_⟩|⟨a,len,cap,elems,rest,m,hm,e,wx,_,hlc,hcm,hel,hq,_⟩
 ·subst e;exact⟨[],⟨by simp,by simp⟩,rr_one rfl (.le none 0 sz false (Nat.zero_le _) (by simp))⟩
 ·subst e;unfold Fits at hw;rw[wx,DataW.weights,ht]at hw;have hlen:elems.length≤reachBytes:=by
   have:=hw _ (List.mem_cons_self ..);simp only[Yk]at this;rw[hb]at this;have h2:elems.length*1≤(elems.length+rest.length)*(bs+1):=Nat.mul_le_mul (by omega) (by omega);omega
  obtain⟨l,hll,hp⟩:=list_of' (p:=fun i v=>P m v∧∃cs',w.cells? 0 (a.add (i*sz)) sz=some cs'∧RR w cs' (encA v)) len (fun i hi=>by
   have h5:=hq i hi;rw[hc,Zb (by omega)]at h5;obtain⟨cs',q1,q2⟩:=Yh.1 h5;obtain⟨v,d1,d3⟩:=rd m cs' _ q2 (fun k hk=>hw k (List.mem_cons_of_mem _ (Zy _ (weights_mem hk (Yi.2 ⟨_,List.getElem_mem _,rfl⟩)))));exact⟨v,d1,cs',q1,d3⟩)
  refine⟨l,⟨fun y hy=>?_,by omega⟩,rr_one rfl ?_⟩
  ·obtain⟨i,hi⟩:=List.getElem?_of_mem hy;exact hmono _ _ _ (by omega) (hp i y hi).1
  ·have:=ri_rows (w:=w) (a:=a) (cap:=cap) (rows:=l.map encA) hsz (by rw[Yk];omega) hcm (fun row hr=>by obtain⟨v,_,rfl⟩:=Yi.1 hr;exact henc v) (fun i row hr=>by
    rw[Zs]at hr;obtain⟨v,hv,rfl⟩:=Ze.1 hr;exact(hp i v hv).2)
   rw[Yk,hll]at this;exact this
end
theorem cellsPr :Tryz.prog.cellsOf 79=6:=by kernel_rfl
theorem bytesPr :Tryz.prog.bytesOf 79=79+1:=by kernel_rfl
theorem bytesS :Tryz.prog.bytesOf 9=15+1:=by kernel_rfl
theorem weights_prop {H:Type}(a b:DataW H):(DataW.agg [a,b]).weights Tryz.prog 79=a.weights Tryz.prog 9++(b.weights Tryz.prog 38++[]):=by
 rw[DataW.weights,Tryz.underlying79];rfl
section
variable {H : Type} {en : TypeId × Value → H} {w : World} {held : Bool}
theorem reads_string :Reads H en w held 9 (fun s:ByteArray=> [.sc (.string s)]) (fun _ s=>s.size≤reachBytes):=by
 intro fuel cs x h hw;obtain⟨s,e,wx,_⟩:=DataW.trod_string Tryz.underlying9 h;subst e;refine⟨s,?_,rr_one rfl (.sc _ rfl)⟩;unfold Fits at hw;rw[wx]at hw;exact hw _ (List.mem_singleton.2 rfl)
theorem reads_value :Reads H en w held 38 enc (fun n v=>dep v≤n∧bdV v):=by
 intro fuel cs x h hw;obtain⟨v,d1,d2,d3⟩:=readV fuel cs x h hw;exact⟨v,⟨d1,d2⟩,rr_of_rv d3⟩
theorem reads_prop :Reads H en w held 79 encR (fun n c=>dep c.v≤n∧bdV c.v∧c.key.size≤reachBytes):=by
 intro fuel cs x h hw;obtain⟨xs,n,rfl,rfl,hl,hn,hf⟩:=DataW.trod_struct Tryz.underlying79 h;rw[cellsPr]at hl;have hn2:xs.length=2:=hn
 match cs,hl,xs,hn2 with
 |
  [c0,c1,c2,c3,c4,c5],_,[x0,x1],_=>
  have h0:=hf 0 _ rfl;have h1:=hf 1 _ rfl;clear hf h;simp only[cellsS,cellsV,Yg,List.drop_succ_cons,Yf,List.take_zero,Ye,Yd]at h0 h1;have hw':Fits 79 (DataW.agg [x0.1,x1.1]):=hw;unfold Fits at hw';rw[weights_prop]at hw';obtain⟨s,hs,r0⟩:=reads_string n _ _ h0 (fun m hm=>hw' m (Zy _ hm));obtain⟨v,hv,r1⟩:=reads_value n _ _ h1 (fun m hm=>hw' m (Zk _ (Zy _ hm)));exact⟨⟨s,v⟩,⟨by have:=hv.1;show dep v≤n+1;omega,hv.2,hs⟩,rr_app r0 r1⟩
end
theorem cellsN :Tryz.prog.cellsOf 82=3:=by kernel_rfl
theorem cellsE :Tryz.prog.cellsOf 96=5:=by kernel_rfl
theorem cellsG :Tryz.prog.cellsOf 35=4:=by kernel_rfl
theorem cellsC :Tryz.prog.cellsOf 42=10:=by kernel_rfl
theorem cellsLs :Tryz.prog.cellsOf 60=1:=by kernel_rfl
theorem cellsLp :Tryz.prog.cellsOf 80=1:=by kernel_rfl
theorem cellsLn :Tryz.prog.cellsOf 32=1:=by kernel_rfl
theorem cellsLe :Tryz.prog.cellsOf 33=1:=by kernel_rfl
theorem bytesN :Tryz.prog.bytesOf 82=55+1:=by kernel_rfl
theorem bytesE :Tryz.prog.bytesOf 96=63+1:=by kernel_rfl
theorem weights_node {H:Type}(a b c:DataW H):(DataW.agg [a,b,c]).weights Tryz.prog 82=a.weights Tryz.prog 3++(b.weights Tryz.prog 60++(c.weights Tryz.prog 80++[])):=by
 rw[DataW.weights,Tryz.underlying82];rfl
theorem weights_edge {H:Type}(a b c d e:DataW H):(DataW.agg [a,b,c,d,e]).weights Tryz.prog 96=a.weights Tryz.prog 3++(b.weights Tryz.prog 3++(c.weights Tryz.prog 3++(d.weights Tryz.prog 9++(e.weights Tryz.prog 80++[])))):=by
 rw[DataW.weights,Tryz.underlying96];rfl
theorem weights_graph {H:Type}(a b c d:DataW H):(DataW.agg [a,b,c,d]).weights Tryz.prog 35=a.weights Tryz.prog 32++(b.weights Tryz.prog 33++(c.weights Tryz.prog 3++(d.weights Tryz.prog 3++[]))):=by
 rw[DataW.weights,Tryz.underlying35];rfl
theorem weights_change {H:Type}(a b c d e f:DataW H):(DataW.agg [a,b,c,d,e,f]).weights Tryz.prog 42=a.weights Tryz.prog 3++(b.weights Tryz.prog 3++(c.weights Tryz.prog 3++(d.weights Tryz.prog 3++(e.weights Tryz.prog 9++(f.weights Tryz.prog 38++[]))))):=by
 rw[DataW.weights,Tryz.underlying42];rfl
section
variable {H : Type} {en : TypeId × Value → H} {w : World} {held : Bool}
theorem reads_int :Reads H en w held 3 (fun k:Int=> [.sc (.int .i64 k)]) (fun _ _=>True):=by
 intro fuel cs x h hw;obtain⟨k,e,_,_⟩:=DataW.trod_int Tryz.underlying3 h;subst e;exact⟨k,trivial,rr_one rfl (.sc _ rfl)⟩
theorem reads_labels :Reads H en w held 60 (fun l:List ByteArray=> [.ls 1 (l.map fun s=> [.sc (.string s)]) false]) (fun _ l=>(∀s∈l,s.size≤reachBytes)∧l.length≤reachBytes):=
 reads_slice (encA:=fun s:ByteArray=> [.sc (.string s)]) (P:=fun _ (s:ByteArray)=>s.size≤reachBytes) Tryz.underlying60 (by omega) cellsS bytesS (fun _=>rfl) (fun _ _ _ _ h=>h) reads_string
theorem reads_props :Reads H en w held 80 (fun l:List Prp=> [.ls 6 (l.map encR) false]) (fun n l=>(∀c∈l,dep c.v≤n∧bdV c.v∧c.key.size≤reachBytes)∧l.length≤reachBytes):=
 reads_slice (encA:=encR) (P:=fun n (c:Prp)=>dep c.v≤n∧bdV c.v∧c.key.size≤reachBytes) Tryz.underlying80 (by omega) cellsPr bytesPr (fun c=>by simp) (fun m n a hm h=>⟨Ym h.1 hm,h.2⟩) reads_prop
def NdR (n:Nat)(m:Nd):Prop:=(∀s∈m.labels,s.size≤reachBytes)∧m.labels.length≤reachBytes∧(∀c∈m.props,dep c.v≤n∧bdV c.v∧c.key.size≤reachBytes)∧m.props.length≤reachBytes
def EdR (n:Nat)(m:Ed):Prop:=m.type.size≤reachBytes∧(∀c∈m.props,dep c.v≤n∧bdV c.v∧c.key.size≤reachBytes)∧m.props.length≤reachBytes
theorem reads_node :Reads H en w held 82 encN NdR:=by
 intro fuel cs x h hw;obtain⟨xs,n,rfl,rfl,hl,hn,hf⟩:=DataW.trod_struct Tryz.underlying82 h;rw[cellsN]at hl;have hn2:xs.length=3:=hn
 match cs,hl,xs,hn2 with
 |
  [c0,c1,c2],_,[x0,x1,x2],_=>
  have h0:=hf 0 _ rfl;have h1:=hf 1 _ rfl;have h2:=hf 2 _ rfl;clear hf h;simp only[cellsI,cellsLs,cellsLp,Yg,List.drop_succ_cons,Yf,List.take_zero,Ye,Yd]at h0 h1 h2;have hw':Fits 82 (DataW.agg [x0.1,x1.1,x2.1]):=hw;unfold Fits at hw';rw[weights_node]at hw';obtain⟨k,_,r0⟩:=reads_int n _ _ h0 (fun m hm=>hw' m (Zy _ hm));obtain⟨l,hl,r1⟩:=reads_labels n _ _ h1 (fun m hm=>hw' m (Zk _ (Zy _ hm)));obtain⟨p,hp,r2⟩:=reads_props n _ _ h2 (fun m hm=>hw' m (Zk _ (Zk _ (Zy _ hm))));exact⟨⟨k,l,p⟩,⟨hl.1,hl.2,fun c hc=>⟨by have:=(hp.1 c hc).1;omega,(hp.1 c hc).2⟩,hp.2⟩,rr_app r0 (rr_app r1 r2)⟩
theorem reads_edge :Reads H en w held 96 encE EdR:=by
 intro fuel cs x h hw;obtain⟨xs,n,rfl,rfl,hl,hn,hf⟩:=DataW.trod_struct Tryz.underlying96 h;rw[cellsE]at hl;have hn2:xs.length=5:=hn
 match cs,hl,xs,hn2 with
 |
  [c0,c1,c2,c3,c4],_,[x0,x1,x2,x3,x4],_=>
  have h0:=hf 0 _ rfl;have h1:=hf 1 _ rfl;have h2:=hf 2 _ rfl;have h3:=hf 3 _ rfl;have h4:=hf 4 _ rfl;clear hf h;simp only[cellsI,cellsS,cellsLp,Yg,List.drop_succ_cons,Yf,List.take_zero,Ye,Yd]at h0 h1 h2 h3 h4;have hw':Fits 96 (DataW.agg [x0.1,x1.1,x2.1,x3.1,x4.1]):=hw;unfold Fits at hw';rw[weights_edge]at hw';obtain⟨k,_,r0⟩:=reads_int n _ _ h0 (fun m hm=>hw' m (Zy _ hm));obtain⟨k1,_,r1⟩:=reads_int n _ _ h1 (fun m hm=>hw' m (Zk _ (Zy _ hm)));obtain⟨k2,_,r2⟩:=reads_int n _ _ h2 (fun m hm=>hw' m (Zk _ (Zk _ (Zy _ hm))));obtain⟨s,hs,r3⟩:=reads_string n _ _ h3 (fun m hm=>hw' m (Zk _ (Zk _ (Zk _ (Zy _ hm)))));obtain⟨p,hp,r4⟩:=reads_props n _ _ h4 (fun m hm=>hw' m (Zk _ (Zk _ (Zk _ (Zk _ (Zy _ hm))))));exact⟨⟨k,k1,k2,s,p⟩,⟨hs,fun c hc=>⟨by have:=(hp.1 c hc).1;omega,(hp.1 c hc).2⟩,hp.2⟩,rr_app r0 (rr_app r1 (rr_app r2 (rr_app r3 r4)))⟩
theorem reads_nodes :Reads H en w held 32 (fun l:List Nd=> [.ls 3 (l.map encN) false]) (fun n l=>(∀c∈l,NdR n c)∧l.length≤reachBytes):=
 reads_slice (encA:=encN) (P:=NdR) Tryz.underlying32 (by omega) cellsN bytesN (fun _=>rfl) (fun m n a hm h=>⟨h.1,h.2.1,fun c hc=>⟨Ym (h.2.2.1 c hc).1 hm,(h.2.2.1 c hc).2⟩,h.2.2.2⟩) reads_node
theorem reads_edges :Reads H en w held 33 (fun l:List Ed=> [.ls 5 (l.map encE) false]) (fun n l=>(∀c∈l,EdR n c)∧l.length≤reachBytes):=
 reads_slice (encA:=encE) (P:=EdR) Tryz.underlying33 (by omega) cellsE bytesE (fun _=>rfl) (fun m n a hm h=>⟨h.1,fun c hc=>⟨Ym (h.2.1 c hc).1 hm,(h.2.1 c hc).2⟩,h.2.2⟩) reads_edge
theorem reads_graph :Reads H en w held 35 encG (fun n g=>GrB n g∧SzB g):=by
 intro fuel cs x h hw;obtain⟨xs,n,rfl,rfl,hl,hn,hf⟩:=DataW.trod_struct Tryz.underlying35 h;rw[cellsG]at hl;have hn2:xs.length=4:=hn
 match cs,hl,xs,hn2 with
 |
  [c0,c1,c2,c3],_,[x0,x1,x2,x3],_=>
  have h0:=hf 0 _ rfl;have h1:=hf 1 _ rfl;have h2:=hf 2 _ rfl;have h3:=hf 3 _ rfl;clear hf h;simp only[cellsI,cellsLn,cellsLe,Yg,List.drop_succ_cons,Yf,List.take_zero,Ye,Yd]at h0 h1 h2 h3;have hw':Fits 35 (DataW.agg [x0.1,x1.1,x2.1,x3.1]):=hw;unfold Fits at hw';rw[weights_graph]at hw';obtain⟨ns,hns,r0⟩:=reads_nodes n _ _ h0 (fun m hm=>hw' m (Zy _ hm));obtain⟨es,hes,r1⟩:=reads_edges n _ _ h1 (fun m hm=>hw' m (Zk _ (Zy _ hm)));obtain⟨k2,_,r2⟩:=reads_int n _ _ h2 (fun m hm=>hw' m (Zk _ (Zk _ (Zy _ hm))));obtain⟨k3,_,r3⟩:=reads_int n _ _ h3 (fun m hm=>hw' m (Zk _ (Zk _ (Zk _ (Zy _ hm)))));refine⟨⟨ns,es,k2,k3⟩,⟨⟨reach_bd hns.2,reach_bd hes.2,fun m hm=>?_,fun m hm=>?_⟩,⟨fun m hm=>?_,fun m hm=>?_⟩⟩,rr_app r0 (rr_app r1 (rr_app r2 r3))⟩
  ·have q:=hns.1 m hm;exact⟨reach_bd q.2.1,reach_bd q.2.2.2,fun c hc=>⟨Nat.le_succ_of_le (q.2.2.1 c hc).1,(q.2.2.1 c hc).2.1⟩⟩
  ·have q:=hes.1 m hm;exact⟨reach_bd q.2.2,fun c hc=>⟨Nat.le_succ_of_le (q.2.1 c hc).1,(q.2.1 c hc).2.1⟩⟩
  ·have q:=hns.1 m hm;exact⟨fun s hs=>reach_bd (q.1 s hs),fun c hc=>reach_bd (q.2.2.1 c hc).2.2⟩
  ·have q:=hes.1 m hm;exact⟨reach_bd q.1,fun c hc=>reach_bd (q.2.1 c hc).2.2⟩
theorem reads_change :Reads H en w held 42 encC (fun n c=>dep c.v≤n∧bdV c.v):=by
 intro fuel cs x h hw;obtain⟨xs,n,rfl,rfl,hl,hn,hf⟩:=DataW.trod_struct Tryz.underlying42 h;rw[cellsC]at hl;have hn2:xs.length=6:=hn
 match cs,hl,xs,hn2 with
 |
  [c0,c1,c2,c3,c4,c5,c6,c7,c8,c9],_,[x0,x1,x2,x3,x4,x5],_=>
  have h0:=hf 0 _ rfl;have h1:=hf 1 _ rfl;have h2:=hf 2 _ rfl;have h3:=hf 3 _ rfl;have h4:=hf 4 _ rfl;have h5:=hf 5 _ rfl;clear hf h;simp only[cellsI,cellsS,cellsV,Yg,List.drop_succ_cons,Yf,List.take_zero,Ye,Yd]at h0 h1 h2 h3 h4 h5;have hw':Fits 42 (DataW.agg [x0.1,x1.1,x2.1,x3.1,x4.1,x5.1]):=hw;unfold Fits at hw';rw[weights_change]at hw';obtain⟨k,_,r0⟩:=reads_int n _ _ h0 (fun m hm=>hw' m (Zy _ hm));obtain⟨k1,_,r1⟩:=reads_int n _ _ h1 (fun m hm=>hw' m (Zk _ (Zy _ hm)));obtain⟨k2,_,r2⟩:=reads_int n _ _ h2 (fun m hm=>hw' m (Zk _ (Zk _ (Zy _ hm))));obtain⟨k3,_,r3⟩:=reads_int n _ _ h3 (fun m hm=>hw' m (Zk _ (Zk _ (Zk _ (Zy _ hm)))));obtain⟨s,_,r4⟩:=reads_string n _ _ h4 (fun m hm=>hw' m (Zk _ (Zk _ (Zk _ (Zk _ (Zy _ hm))))));obtain⟨v,hv,r5⟩:=reads_value n _ _ h5 (fun m hm=>hw' m (Zk _ (Zk _ (Zk _ (Zk _ (Zk _ (Zy _ hm)))))));exact⟨⟨k,k1,k2,k3,s,v⟩,⟨by have:=hv.1;show dep v≤n+1;omega,hv.2⟩,rr_app r0 (rr_app r1 (rr_app r2 (rr_app r3 (rr_app r4 r5))))⟩
end
end Go.Proofs.YtadaeokidcgdlaaGreatDoor
