/- What a world's data read as: values and predicates. -/
import Derived.Test.YtiefabpageilbaaGreatDoorP24
import Derived.Deep.Slices
import GoSem.ClaimJoined
import Derived.Test.YtiefabpageilbaaGreatDoorP30
import Derived.Test.YtiefabpageilbaaGreatDoorP26
import Derived.Test.YtiefabpageilbaaGreatDoorP32
set_option linter.all false
set_option maxRecDepth 100000
namespace Go.Proofs.YtiefabpageilbaaGreatDoor
open Go Go.Ae Go.ChangeShapes Go.WideShapes
theorem cellsV :Tryz.prog.cellsOf 38=5:=by kernel_rfl
theorem cellsI :Tryz.prog.cellsOf 3=1:=by kernel_rfl
theorem cellsS :Tryz.prog.cellsOf 9=1:=by kernel_rfl
theorem cellsL :Tryz.prog.cellsOf 27=1:=by kernel_rfl
def RV (w:World)(cs:List Value)(v:V):Prop:=cs.length=5∧∀(j:Nat) (y:AV),(enc v)[j]?=some y→(cs.getD j undef).oneCell'=true∧Ri w none' (cs.getD j undef) y
theorem list_of {p:Nat→V→Prop}:∀n,(∀i,i<n→∃x,p i x)→∃l:List V,l.length=n∧∀i v,l[i]?=some v→p i v
 |0,_=>⟨[],rfl,by simp⟩
 |
  n+1,h=>by
  obtain⟨l,hl,hp⟩:=list_of n fun i hi=>h i (by omega)
  obtain⟨x,hx⟩:=h n (by omega);refine⟨l++[x],by simp[hl],fun i v hv=>?_⟩;by_cases hi:i<n
  ·rw[Zd (by omega)]at hv;exact hp i v hv
  ·have hlt:=(Za.1 hv).1;simp at hlt;obtain rfl:i=n:=by omega
   rw[Zf (by omega),hl]at hv;simp at hv;subst hv;exact hx
theorem depL_le {D:Nat}:∀{l:List V},(∀x∈l,dep x≤D)→depL l≤D
 | [],_=>by simp[depL]
 |
  x::xs,h=>by
  have h1:=h x (by simp);have h2:=depL_le fun y hy=>h y (List.mem_cons_of_mem _ hy)
  rw[depL];omega
theorem reach_bd {n:Nat}(h:n≤reachBytes):n≤1000000000000000:=by unfold reachBytes at h;omega
theorem bytesV :Tryz.prog.bytesOf 38=64:=by kernel_rfl
theorem weights_value {H:Type}(a b c d e:DataW H):(DataW.agg [a,b,c,d,e]).weights Tryz.prog 38=a.weights Tryz.prog 3++(b.weights Tryz.prog 3++(c.weights Tryz.prog 3++(d.weights Tryz.prog 9++(e.weights Tryz.prog 27++[])))):=by
 rw[DataW.weights,Tryz.underlying38];rfl
theorem weights_values {H:Type}(es sp:List (DataW H)):(DataW.slice es sp).weights Tryz.prog 27=(es.length+sp.length)*64::(DataW.weightsAll Tryz.prog 38 es++DataW.weightsAll Tryz.prog 38 sp):=by
 rw[DataW.weights,Tryz.underlying27,←bytesV]
theorem weights_mem {H:Type}{e:TypeId}{d:DataW H}{m:Nat}(hm:m∈d.weights Tryz.prog e):∀{l:List (DataW H)},d∈l→m∈DataW.weightsAll Tryz.prog e l
 |
  x::l,h=>by
  rw[DataW.weightsAll];rcases List.mem_cons.1 h with rfl|h
  ·exact Zw _ hm
  ·exact Zk _ (weights_mem hm h)
def Fits {H:Type}(t:TypeId)(d:DataW H):Prop:=∀m∈d.weights Tryz.prog t,m≤reachBytes
section
variable {H : Type} {en : TypeId × Value → H} {w : World} {held : Bool}
theorem ri_values {a:Addr}{cap:Nat}{l:List V}(hl:l.length≤cap)(hm:cap≤maxLen)(hp:∀(i:Nat) (v:V),l[i]?=some v→∃cs,w.cells? 0 (a.add (i*5)) 5=some cs∧RV w cs v):Ri w none' (.slice (some a) l.length cap) (.ls 5 (encL l) false):=by
 cases hl0:l with
 |nil=>exact .le _ _ _ _ hm (by simp)
 |
  cons v0 l0=>
  rw[←hl0];obtain⟨cs0,hc0,_⟩:=hp 0 v0 (by rw[hl0];rfl);obtain⟨_,hn0,hg0⟩:=World.cells?_some hc0;have h00:=hg0 0 (by omega);rw[Nat.zero_mul,Go.Deep.add_add,Zb (by omega)]at h00;obtain⟨b,o,sp⟩:=a;have h0:w.cell? ⟨b,o,sp⟩=some cs0[0]:=h00;unfold World.cell? at h0;cases hb:w.heap[b]? with
  |none=>rw[hb]at h0;cases h0
  |
   some ob=>
   rw[hb]at h0;cases ob<;>simp only[reduceCtorEq]at h0;rename_i cur t fz;cases sp with
   |some q=>simp at h0
   |
    none=>
    have at':∀k,w.cell? ⟨b,o+k,none⟩=cur[o+k]?:=fun k=>by unfold World.cell?;rw[hb];rfl
    have add':∀k,(Addr.mk b o none).add k=⟨b,o+k,none⟩:=fun k=>by
     unfold Addr.add;by_cases hk:k=0
     ·subst hk;simp
     ·simp[hk]
    have key:∀(i:Nat) (row:List AV) (j:Nat) (x:AV),(encL l)[i]?=some row→row[j]?=some x→cur[o+i*5+j]?=some (cur.getD (o+i*5+j) undef)∧(cur.getD (o+i*5+j) undef).oneCell'=true∧Ri w none' (cur.getD (o+i*5+j) undef) x:=by
     intro i row j x hi hj;rw[encL_get]at hi;cases hv:l[i]? with
     |none=>rw[hv]at hi;cases hi
     |
      some v=>
      rw[hv]at hi;simp only[Option.map_some,Zc]at hi;subst hi;have hj5:j<5:=by have:=(Za.1 hj).1;rwa [enc_length]at this
      obtain⟨cs,hc,hn,hr⟩:=hp i v hv;obtain⟨_,_,hg⟩:=World.cells?_some hc;have h1:=hg j hj5;rw[Go.Deep.add_add,add',at',Zb (by omega)]at h1;have e:cur.getD (o+i*5+j) undef=cs.getD j undef:=by
       rw[Zr,Nat.add_assoc,h1,Yd,Zb (by omega)]
      rw[e,Nat.add_assoc,h1,Yd,Zb (by omega)];have:=hr j x hj;rw[Yd,Zb (by omega)]at this;exact⟨rfl,this.1,this.2⟩
    refine .ls b o l.length cap 5 (encL l) false (fun i j=>cur.getD (o+i*5+j) undef) cur t fz (fun h=>h) hb (encL_length l) hl hm (by simp) ?_ (fun i row j x hi hj=>⟨(key i row j x hi hj).1,(key i row j x hi hj).2.1⟩) (fun i row j x hi hj=>(key i row j x hi hj).2.2);intro i row hi;rw[encL_get]at hi;cases hv:l[i]? with
    |none=>rw[hv]at hi;cases hi
    |
     some v=>
     rw[hv]at hi;simp only[Option.map_some,Zc]at hi;rw[←hi,enc_length]
end
def RR (w:World)(cs:List Value)(row:List AV):Prop:=cs.length=row.length∧∀(j:Nat) (y:AV),row[j]?=some y→(cs.getD j undef).oneCell'=true∧Ri w none' (cs.getD j undef) y
theorem rr_of_rv {w:World}{cs:List Value}{v:V}(h:RV w cs v):RR w cs (enc v):=⟨by rw[h.1,enc_length],h.2⟩
theorem list_of' {α:Type}{p:Nat→α→Prop}:∀n,(∀i,i<n→∃x,p i x)→∃l:List α,l.length=n∧∀i v,l[i]?=some v→p i v
 |0,_=>⟨[],rfl,by simp⟩
 |
  n+1,h=>by
  obtain⟨l,hl,hp⟩:=list_of' n fun i hi=>h i (by omega)
  obtain⟨x,hx⟩:=h n (by omega);refine⟨l++[x],by simp[hl],fun i v hv=>?_⟩;by_cases hi:i<n
  ·rw[Zd (by omega)]at hv;exact hp i v hv
  ·have hlt:=(Za.1 hv).1;simp at hlt;obtain rfl:i=n:=by omega
   rw[Zf (by omega),hl]at hv;simp at hv;subst hv;exact hx
theorem rr_app {w:World}{c1 c2:List Value}{r1 r2:List AV}(h1:RR w c1 r1)(h2:RR w c2 r2):RR w (c1++c2) (r1++r2):=by
 refine⟨by rw[Zu,Zu,h1.1,h2.1],fun j y hj=>?_⟩;by_cases hlt:j<r1.length
 ·rw[Zd hlt]at hj;rw[Yd,Zd (by rw[h1.1];exact hlt),←Yd];exact h1.2 j y hj
 ·rw[Zf (by omega)]at hj;rw[Yd,Zf (by rw[h1.1];omega),h1.1,←Yd];exact h2.2 _ y hj
theorem rr_one {w:World}{c:Value}{x:AV}(ho:c.oneCell'=true)(h:Ri w none' c x):RR w [c] [x]:=⟨rfl,fun j y hj=>by
 match j,hj with
 |0,hj=>cases hj;exact⟨ho,h⟩
 |_+1,hj=>simp at hj⟩
section
variable {w : World}
theorem ri_rows {a:Addr}{cap sz:Nat}{rows:List (List AV)}(hsz:0<sz)(hl:rows.length≤cap)(hm:cap≤maxLen)(hrow:∀row∈rows,row.length=sz)(hp:∀(i:Nat) (row:List AV),rows[i]?=some row→∃cs,w.cells? 0 (a.add (i*sz)) sz=some cs∧RR w cs row):Ri w none' (.slice (some a) rows.length cap) (.ls sz rows false):=by
 cases hl0:rows with
 |nil=>exact .le _ _ _ _ hm (by simp)
 |
  cons v0 l0=>
  rw[←hl0];obtain⟨cs0,hc0,hr0⟩:=hp 0 v0 (by rw[hl0];rfl);have hn0:cs0.length=sz:=by rw[hr0.1];exact hrow v0 (by rw[hl0];simp)
  obtain⟨_,_,hg0⟩:=World.cells?_some hc0;have h00:=hg0 0 hsz;rw[Nat.zero_mul,Go.Deep.add_add,Zb (by omega)]at h00;obtain⟨b,o,sp⟩:=a;have h0:w.cell? ⟨b,o,sp⟩=some cs0[0]:=h00;unfold World.cell? at h0;cases hb:w.heap[b]? with
  |none=>rw[hb]at h0;cases h0
  |
   some ob=>
   rw[hb]at h0;cases ob<;>simp only[reduceCtorEq]at h0;rename_i cur t fz;cases sp with
   |some q=>simp at h0
   |
    none=>
    have at':∀k,w.cell? ⟨b,o+k,none⟩=cur[o+k]?:=fun k=>by unfold World.cell?;rw[hb];rfl
    have add':∀k,(Addr.mk b o none).add k=⟨b,o+k,none⟩:=fun k=>by
     unfold Addr.add;by_cases hk:k=0
     ·subst hk;simp
     ·simp[hk]
    have key:∀(i:Nat) (row:List AV) (j:Nat) (x:AV),rows[i]?=some row→row[j]?=some x→cur[o+i*sz+j]?=some (cur.getD (o+i*sz+j) undef)∧(cur.getD (o+i*sz+j) undef).oneCell'=true∧Ri w none' (cur.getD (o+i*sz+j) undef) x:=by
     intro i row j x hi hj;have hrl:=hrow row (Zi hi);have hj5:j<sz:=by have:=(Za.1 hj).1;omega
     obtain⟨cs,hc,hr⟩:=hp i row hi;have hn:cs.length=sz:=by rw[hr.1,hrl]
     obtain⟨_,_,hg⟩:=World.cells?_some hc;have h1:=hg j hj5;rw[Go.Deep.add_add,add',at',Zb (by omega)]at h1;have e:cur.getD (o+i*sz+j) undef=cs.getD j undef:=by
      rw[Zr,Nat.add_assoc,h1,Yd,Zb (by omega)]
     rw[e,Nat.add_assoc,h1,Yd,Zb (by omega)];have:=hr.2 j x hj;rw[Yd,Zb (by omega)]at this;exact⟨rfl,this.1,this.2⟩
    exact .ls b o rows.length cap sz rows false (fun i j=>cur.getD (o+i*sz+j) undef) cur t fz (fun h=>h) hb rfl hl hm (by simp) (fun i row hi=>hrow row (Zi hi)) (fun i row j x hi hj=>⟨(key i row j x hi hj).1,(key i row j x hi hj).2.1⟩) (fun i row j x hi hj=>(key i row j x hi hj).2.2)
end
section
variable {H : Type} {en : TypeId × Value → H} {w : World} {held : Bool}
def Reads (H:Type)(en:TypeId × Value→H)(w:World)(held:Bool){α:Type}(t:TypeId)(encA:α→List AV)(P:Nat→α→Prop):Prop:=
 ∀(fuel:Nat) (cs:List Value) (x:DataW H × List MemPlace),DataW.trod en Tryz.prog w 0 (fun _=>true) held fuel t cs=some x→Fits t x.1→∃a:α,P fuel a∧RR w cs (encA a)
theorem reads_slice {α:Type}{encA:α→List AV}{P:Nat→α→Prop}{te tl:TypeId}{sz bs:Nat}(ht:Tryz.prog.underlying tl=some (.slice te))(hsz:0<sz)(hc:Tryz.prog.cellsOf te=sz)(hb:Tryz.prog.bytesOf te=bs+1)(henc:∀a,(encA a).length=sz)(hmono:∀m n a,m≤n→P m a→P n a)(rd:Reads H en w held te encA P):
 Reads H en w held tl (fun l:List α=> [.ls sz (l.map encA) false]) (fun n l=>(∀a∈l,P n a)∧l.length≤reachBytes):=by
 intro fuel cs x h hw;rcases DataW.trod_slice ht h with⟨e,_⟩|⟨a,len,cap,elems,rest,m,hm,e,wx,_,hlc,hcm,hel,hq,_⟩
 ·subst e;exact⟨[],⟨by simp,by simp⟩,rr_one rfl (.le none 0 sz false (Nat.zero_le _) (by simp))⟩
 ·subst e;unfold Fits at hw;rw[wx,DataW.weights,ht]at hw;have hlen:elems.length≤reachBytes:=by
   have:=hw _ (List.mem_cons_self ..);simp only[List.length_map]at this;rw[hb]at this;have h2:elems.length*1≤(elems.length+rest.length)*(bs+1):=Nat.mul_le_mul (by omega) (by omega);omega
  obtain⟨l,hll,hp⟩:=list_of' (p:=fun i v=>P m v∧∃cs',w.cells? 0 (a.add (i*sz)) sz=some cs'∧RR w cs' (encA v)) len (fun i hi=>by
   have h5:=hq i hi;rw[hc,Zb (by omega)]at h5;obtain⟨cs',q1,q2⟩:=Yb.1 h5;obtain⟨v,d1,d3⟩:=rd m cs' _ q2 (fun k hk=>hw k (List.mem_cons_of_mem _ (Zw _ (weights_mem hk (Yc.2 ⟨_,List.getElem_mem _,rfl⟩)))));exact⟨v,d1,cs',q1,d3⟩)
  refine⟨l,⟨fun y hy=>?_,by omega⟩,rr_one rfl ?_⟩
  ·obtain⟨i,hi⟩:=List.getElem?_of_mem hy;exact hmono _ _ _ (by omega) (hp i y hi).1
  ·have:=ri_rows (w:=w) (a:=a) (cap:=cap) (rows:=l.map encA) hsz (by rw[List.length_map];omega) hcm (fun row hr=>by obtain⟨v,_,rfl⟩:=Yc.1 hr;exact henc v) (fun i row hr=>by
    rw[Zs]at hr;obtain⟨v,hv,rfl⟩:=Ze.1 hr;exact(hp i v hv).2)
   rw[List.length_map,hll]at this;exact this
end
end Go.Proofs.YtiefabpageilbaaGreatDoor
namespace Go.Proofs.YtiefabpageilbaaGreatDoor
open Go Go.Ae
section
attribute [local simp] aop aopW coldF extF putA ofConst flat scalarOp fastOp binFast intOp strOp guardX Ae.part rowOf szOk natOf lenA cls fillA newsOf isNilC cellX
set_option maxHeartbeats 16000000
theorem flat_cells {sz:Nat}{pre post:List (List AV)}{r:List AV}{o m:Nat}(hr:∀y∈pre,y.length=sz)(hrl:r.length=sz)(ho:o+m≤sz):((pre++[r]++post).flatten.drop (pre.length*sz+o)).take m=(r.drop o).take m:=by
 have hA:pre.flatten.length=pre.length*sz:=flatten_length pre hr;have e:(pre++[r]++post).flatten=pre.flatten++(r++post.flatten):=by simp
 rw[e,←hA,List.drop_length_add_append,List.drop_append_of_le_length (by omega),List.take_append_of_le_length (by simp;omega)]
@[simp] theorem encN_q0 (m:Nd):(encN m)[0]?=some (.sc (.int .i64 m.id)):=rfl
@[simp] theorem encE_q0 (m:Ed):(encE m)[0]?=some (.sc (.int .i64 m.id)):=rfl
@[simp] theorem encN_g0 (m:Nd)(h:0< (encN m).length):(encN m)[0]'h= .sc (.int .i64 m.id):=rfl
@[simp] theorem encE_g0 (m:Ed)(h:0< (encE m).length):(encE m)[0]'h= .sc (.int .i64 m.id):=rfl
@[simp] theorem encN_tk (m:Nd):(encN m).take 3=encN m:=rfl
@[simp] theorem encE_tk (m:Ed):(encE m).take 5=encE m:=rfl
theorem bytes_beq (s:ByteArray):(s==s)=true:=by
 obtain⟨d⟩:=s;show(d==d)=true;simp
end
section
attribute [local simp] aop aopW coldF extF putA ofConst flat scalarOp fastOp binFast intOp strOp guardX Ae.part rowOf szOk natOf lenA cls fillA splice newsOf isNilC cellX
set_option maxHeartbeats 32000000
section
variable {C : Cx} {cal : FuncId → List AV → Hp → Option (AV × Hp)}
def chkY (x y:Option (AV × Hp))(r:Option (Out × St)):Option (Out × St):=match x,y with|some (v,_),some (v',_)=>(if eqvB v' v=true then r else none)|_,_=>none
@[simp] theorem chkY_some (v v':AV)(h h':Hp)(r:Option (Out × St)):chkY (some (v,h)) (some (v',h')) r=if eqvB v' v=true then r else none:=rfl
def bindO (x:Option Oper)(f:Oper→Option (Out × St)):Option (Out × St):=match x with|some o=>f o|none=>none
@[simp] theorem bindO_some (o:Oper)(f:Oper→Option (Out × St)):bindO (some o) f=f o:=rfl
end
mutual
theorem eqv_V :∀v:V,eqvC (enc v) (enc v)=true
 |
  .mk k n d s z l=>by
  have h:=eqv_VL l;have e:eqvB (lsV z (encL l)) (lsV z (encL l))=true:=by
   unfold lsV;cases z && (encL l).isEmpty
   ·simp[eqvB,h]
   ·simp[eqvB,Ae.eqV]
  simp only[enc,eqvC,eqvB,Ae.eqV,bytes_beq,decide_true,Bool.and_self,e]
theorem eqv_VL :∀l:List V,eqvR (encL l) (encL l)=true
 | []=>by simp[encL,eqvR]
 |x::xs=>by simp[encL,eqvR,eqv_V x,eqv_VL xs]
end
theorem At.set {h:Hp}{i j:Nat}{b:Blk}(k:At h i b)(hn:j≠i)(y:Blk):At (h.set j y) i b:=by
 unfold At at *;rw[Zq hn];exact k
theorem At.lt {h:Hp}{i:Nat}{b:Blk}(k:At h i b):i<h.length:=(Za.1 k).1
theorem At.new {h:Hp}{i:Nat}{b:Blk}(k:At h i b)(y:Blk):At (h.set i y) i y:=Zj k.lt
end
end Go.Proofs.YtiefabpageilbaaGreatDoor
namespace Go.Proofs.YtiefabpageilbaaGreatDoor
open Go Go.Ae Go.ChangeShapes Go.WideShapes
section
variable {H : Type} {en : TypeId × Value → H} {w : World} {held : Bool}
end
theorem arg_list {H:Type}{en:TypeId × Value→H}{W:World}{base:Nat}{α:Type}{R:α→AV}{P:Nat→α→Prop}{t e:TypeId}(ht:Tryz.prog.underlying t=some (.slice e))(rd:Reads H en W true t (fun l=> [R l]) P){v:Value}{d:DataW H}{ps:List MemPlace}(hv:Value.okWide Tryz.prog W .any base t v)(h:DataW.Trod en Tryz.prog W 0 (fun _=>true) true t v d ps)(hw:Fits t d):∃(n:Nat) (a:α),P n a∧Ri W none' v (R a):=by
 obtain⟨fuel,hf⟩:=h;obtain⟨a,hp,hr⟩:=rd fuel _ _ hf hw;refine⟨fuel,a,hp,?_⟩;have hx:=(hr.2 0 _ rfl).2;unfold Value.okWide at hv;rw[ht]at hv;cases v with
 |agg cs=>exact(by simp[Cell.okWide,Cell.ok,ht]at hv)
 |_=>exact hx
theorem wf_i64 {n:Int}(h:(Lit.int .i64 n).wf=true):i64 n:=by
 have h':(decide (IntKind.i64.min≤n) && decide (n≤IntKind.i64.max))=true:=h;simp only[Zh,Zx]at h';have e1:IntKind.i64.min= -9223372036854775808:=by decide
 have e2:IntKind.i64.max=9223372036854775807:=by decide
 unfold i64;omega
theorem cellsSg :Tryz.prog.cellsOf 30=2:=by kernel_rfl
theorem cellsBg :Tryz.prog.cellsOf 24=1:=by kernel_rfl
theorem cellsRw :Tryz.prog.cellsOf 28=1:=by kernel_rfl
theorem cellsNt :Tryz.prog.cellsOf 26=2:=by kernel_rfl
theorem bytesSg :Tryz.prog.bytesOf 30=31+1:=by kernel_rfl
theorem bytesNt :Tryz.prog.bytesOf 26=31+1:=by kernel_rfl
theorem bytesV' :Tryz.prog.bytesOf 38=63+1:=by kernel_rfl
theorem weights_signed {H:Type}(a b:DataW H):(DataW.agg [a,b]).weights Tryz.prog 30=a.weights Tryz.prog 28++(b.weights Tryz.prog 3++[]):=by
 rw[DataW.weights,Tryz.underlying30];rfl
theorem weights_notice {H:Type}(a b:DataW H):(DataW.agg [a,b]).weights Tryz.prog 26=a.weights Tryz.prog 3++(b.weights Tryz.prog 24++[]):=by
 rw[DataW.weights,Tryz.underlying26];rfl
theorem encL_map :∀l:List V,l.map enc=encL l
 | []=>by simp[encL]
 |x::l=>by rw[List.map_cons,encL_map l,encL]
section
variable {H : Type} {en : TypeId × Value → H} {w : World} {held : Bool}
theorem readG :∀(fuel:Nat) (cs:List Value) (x:DataW H × List MemPlace),DataW.trod en Tryz.prog w 0 (fun _=>true) held fuel 38 cs=some x→Fits 38 x.1→∃v:V,dep v≤fuel∧gdV v∧RV w cs v:=by
 intro fuel
 induction fuel using Nat.strongRecOn with
 |
  ind fuel ih=>
  intro cs x h hw;obtain⟨xs,n,rfl,rfl,hl,hn,hf⟩:=DataW.trod_struct Tryz.underlying38 h;rw[cellsV]at hl;have hn5:xs.length=5:=hn
  match cs,hl,xs,hn5 with
  |
   [c0,c1,c2,c3,c4],_,[x0,x1,x2,x3,x4],_=>
   have h0:=hf 0 _ rfl;have h1:=hf 1 _ rfl;have h2:=hf 2 _ rfl;have h3:=hf 3 _ rfl;have h4:=hf 4 _ rfl;clear hf h;simp only[cellsI,cellsS,cellsL,List.drop_zero,List.drop_succ_cons,List.take_succ_cons,List.take_zero,List.getElem?_cons_zero,Ya]at h0 h1 h2 h3 h4;obtain⟨k0,e0,_,b0⟩:=DataW.trod_int Tryz.underlying3 h0;obtain⟨k1,e1,_,b1⟩:=DataW.trod_int Tryz.underlying3 h1;obtain⟨k2,e2,_,b2⟩:=DataW.trod_int Tryz.underlying3 h2;obtain⟨s3,e3,w3,_⟩:=DataW.trod_string Tryz.underlying9 h3;obtain rfl:c0=_:=(List.cons.inj e0).1;obtain rfl:c1=_:=(List.cons.inj e1).1;obtain rfl:c2=_:=(List.cons.inj e2).1;obtain rfl:c3=_:=(List.cons.inj e3).1;have hw':Fits 38 (DataW.agg [x0.1,x1.1,x2.1,x3.1,x4.1]):=hw;unfold Fits at hw';rw[weights_value]at hw';have hs:s3.size≤reachBytes:=hw' _ (by
    refine Zk _ (Zk _ (Zk _ (Zw _ ?_)));rw[w3];exact List.mem_singleton.2 rfl)
   have hw4:Fits 27 x4.1:=fun m hm=>hw' m (Zk _ (Zk _ (Zk _ (Zk _ (Zw _ hm)))))
   have fin:∀(l:List V) (D:Nat),(∀y∈l,dep y≤D)→D+1≤n+1→(∀y∈l,gdV y)→l.length≤reachBytes→c4.oneCell'=true→Ri w none' c4 (.ls 5 (encL l) false)→
    ∃v:V,dep v≤n+1∧gdV v∧RV w [.int .i64 k0,.int .i64 k1,.int .i64 k2,.string s3,c4] v:=by
    intro l D hd hD hb hll ho hr;refine⟨.mk k0 k1 k2 s3 false l,?_,?_,rfl,fun j y hj=>?_⟩
    ·rw[dep];have:=depL_le hd;omega
    ·rw[gdV];exact⟨wf_i64 b0,wf_i64 b1,wf_i64 b2,reach_bd hs,reach_bd hll,rfl,gdL_of hb⟩
    ·match j,hj with
     |0,hj=>cases hj;exact⟨rfl,.sc _ rfl⟩
     |1,hj=>cases hj;exact⟨rfl,.sc _ rfl⟩
     |2,hj=>cases hj;exact⟨rfl,.sc _ rfl⟩
     |3,hj=>cases hj;exact⟨rfl,.sc _ rfl⟩
     |4,hj=>cases hj;exact⟨ho,hr⟩
     |_+5,hj=>simp[enc]at hj
   rcases DataW.trod_slice Tryz.underlying27 h4 with⟨e,_⟩|⟨a,len,cap,elems,rest,m,hm,e,wx,_,hlc,hcm,hel,hq,_⟩
   ·obtain rfl:c4=_:=(List.cons.inj e).1;exact fin [] 0 (by simp) (by omega) (by simp) (by simp) rfl (.le none 0 5 false (Nat.zero_le _) (by simp))
   ·obtain rfl:c4=_:=(List.cons.inj e).1;unfold Fits at hw4;rw[wx,weights_values]at hw4;have hlen:elems.length≤reachBytes:=by
     have:=hw4 _ (List.mem_cons_self ..);simp only[List.length_map]at this;omega
    obtain⟨l,hll,hp⟩:=list_of (p:=fun i v=>dep v≤m∧gdV v∧∃cs',w.cells? 0 (a.add (i*5)) 5=some cs'∧RV w cs' v) len (fun i hi=>by
     have h5:=hq i hi;rw[cellsV,Zb (by omega)]at h5;obtain⟨cs',q1,q2⟩:=Yb.1 h5;obtain⟨v,d1,d2,d3⟩:=ih m (by omega) cs' _ q2 (fun k hk=>hw4 k (List.mem_cons_of_mem _ (Zw _ (weights_mem hk (Yc.2 ⟨_,List.getElem_mem _,rfl⟩)))));exact⟨v,d1,d2,cs',q1,d3⟩)
    have hmem:∀y∈l,dep y≤m∧gdV y:=fun y hy=>by
     obtain⟨i,hi⟩:=List.getElem?_of_mem hy;exact⟨(hp i y hi).1,(hp i y hi).2.1⟩
    refine fin l m (fun y hy=>(hmem y hy).1) (by omega) (fun y hy=>(hmem y hy).2) (by omega) rfl ?_;have:=ri_values (w:=w) (a:=a) (cap:=cap) (l:=l) (by omega) hcm (fun i v hv=>(hp i v hv).2.2);rw[hll]at this;exact this
theorem reads_valueG :Reads H en w held 38 enc (fun n v=>dep v≤n∧gdV v):=by
 intro fuel cs x h hw;obtain⟨v,d1,d2,d3⟩:=readG fuel cs x h hw;exact⟨v,⟨d1,d2⟩,rr_of_rv d3⟩
theorem reads_intR :Reads H en w held 3 (fun k:Int=> [.sc (.int .i64 k)]) (fun _ k=>i64 k):=by
 intro fuel cs x h hw;obtain⟨k,e,_,b⟩:=DataW.trod_int Tryz.underlying3 h;subst e;exact⟨k,wf_i64 b,rr_one rfl (.sc _ rfl)⟩
def RwR (n:Nat)(r:Rw):Prop:=(∀x∈r.1,dep x≤n∧bdV x)∧r.1.length≤1000000000000000
theorem reads_row :Reads H en w held 28 (fun r:Rw=> [.ls 5 (encL r.1) false]) RwR:=by
 intro fuel cs x h hw;obtain⟨l,h1,h2⟩:=reads_slice (encA:=enc) (P:=fun n v=>dep v≤n∧gdV v) Tryz.underlying28 (by omega) cellsV bytesV' enc_length (fun m n a hm h=>⟨Ye h.1 hm,h.2⟩) reads_valueG fuel cs x h hw;refine⟨⟨l,gdL_of fun x hx=>(h1.1 x hx).2⟩,⟨fun x hx=>⟨(h1.1 x hx).1,gd_bd (h1.1 x hx).2⟩,reach_bd h1.2⟩,?_⟩;have h3:RR w cs [.ls 5 (l.map enc) false]:=h2;rw[encL_map]at h3;exact h3
def SgR (n:Nat)(p:Rw × Int):Prop:=RwR n p.1∧i64 p.2
theorem reads_signed :Reads H en w held 30 encS SgR:=by
 intro fuel cs x h hw;obtain⟨xs,n,rfl,rfl,hl,hn,hf⟩:=DataW.trod_struct Tryz.underlying30 h;rw[cellsSg]at hl;have hn2:xs.length=2:=hn
 match cs,hl,xs,hn2 with
 |
  [c0,c1],_,[x0,x1],_=>
  have h0:=hf 0 _ rfl;have h1:=hf 1 _ rfl;clear hf h;simp only[cellsI,cellsRw,List.drop_zero,List.drop_succ_cons,List.take_succ_cons,List.take_zero,List.getElem?_cons_zero,Ya]at h0 h1;have hw':Fits 30 (DataW.agg [x0.1,x1.1]):=hw;unfold Fits at hw';rw[weights_signed]at hw';obtain⟨r,hr,r0⟩:=reads_row n _ _ h0 (fun m hm=>hw' m (Zw _ hm));obtain⟨k,hk,r1⟩:=reads_intR n _ _ h1 (fun m hm=>hw' m (Zk _ (Zw _ hm)));exact⟨(r,k),⟨⟨fun x hx=>⟨by have:=(hr.1 x hx).1;omega,(hr.1 x hx).2⟩,hr.2⟩,hk⟩,rr_app r0 r1⟩
theorem SgR.mono {m n:Nat}{p:Rw × Int}(hm:m≤n)(h:SgR m p):SgR n p:=⟨⟨fun x hx=>⟨Ye (h.1.1 x hx).1 hm,(h.1.1 x hx).2⟩,h.1.2⟩,h.2⟩
theorem reads_bag :Reads H en w held 24 (fun l:List (Rw × Int)=> [.ls 2 (bagR l) false]) (fun n l=>(∀p∈l,SgR n p)∧l.length≤reachBytes):=
 reads_slice (encA:=encS) (P:=SgR) Tryz.underlying24 (by omega) cellsSg bytesSg (fun _=>rfl) (fun m n a hm h=>h.mono hm) reads_signed
def NtR (n:Nat)(p:Nt):Prop:=(∀q∈p.diff,SgR n q)∧p.diff.length≤reachBytes
theorem reads_notice :Reads H en w held 26 encNt NtR:=by
 intro fuel cs x h hw;obtain⟨xs,n,rfl,rfl,hl,hn,hf⟩:=DataW.trod_struct Tryz.underlying26 h;rw[cellsNt]at hl;have hn2:xs.length=2:=hn
 match cs,hl,xs,hn2 with
 |
  [c0,c1],_,[x0,x1],_=>
  have h0:=hf 0 _ rfl;have h1:=hf 1 _ rfl;clear hf h;simp only[cellsI,cellsBg,List.drop_zero,List.drop_succ_cons,List.take_succ_cons,List.take_zero,List.getElem?_cons_zero,Ya]at h0 h1;have hw':Fits 26 (DataW.agg [x0.1,x1.1]):=hw;unfold Fits at hw';rw[weights_notice]at hw';obtain⟨k,hk,r0⟩:=reads_intR n _ _ h0 (fun m hm=>hw' m (Zw _ hm));obtain⟨d,hd,r1⟩:=reads_bag n _ _ h1 (fun m hm=>hw' m (Zk _ (Zw _ hm)));exact⟨⟨k,d⟩,⟨fun q hq=>(hd.1 q hq).mono (by omega),hd.2⟩,rr_app r0 r1⟩
theorem reads_notices :Reads H en w held 22 (fun l:List Nt=> [.ls 2 (ntR l) false]) (fun n l=>(∀p∈l,NtR n p)∧l.length≤reachBytes):=
 reads_slice (encA:=encNt) (P:=NtR) Tryz.underlying22 (by omega) cellsNt bytesNt (fun _=>rfl) (fun m n a hm h=>⟨fun q hq=>(h.1 q hq).mono hm,h.2⟩) reads_notice
end
end Go.Proofs.YtiefabpageilbaaGreatDoor
