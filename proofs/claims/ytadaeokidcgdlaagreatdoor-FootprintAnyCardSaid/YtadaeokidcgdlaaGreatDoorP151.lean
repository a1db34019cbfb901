/- Predicates and changes in slices, read. -/
import Derived.Test.YtadaeokidcgdlaaGreatDoorP49
import Derived.Test.YtadaeokidcgdlaaGreatDoorP149
set_option linter.unusedSimpArgs false
set_option maxRecDepth 100000
namespace Go.Proofs.YtadaeokidcgdlaaGreatDoor
open Go Go.Ae Go.ChangeShapes Go.WideShapes
theorem bytesP :Tryz.prog.bytesOf 40=103+1:=by kernel_rfl
theorem bytesC :Tryz.prog.bytesOf 42=111+1:=by kernel_rfl
section
variable {H : Type} {en : TypeId × Value → H} {w : World} {held : Bool}
theorem reads_pred :Reads H en w held 40 encP (fun n p=>dep p.v≤n∧bdV p.v):=by
 intro fuel cs x h hw;obtain⟨xs,n,rfl,rfl,hl,hn,hf⟩:=DataW.trod_struct Tryz.underlying40 h;rw[cellsP]at hl;have hn2:xs.length=4:=hn
 match cs,hl,xs,hn2 with
 |
  [c0,c1,c2,c3,c4,c5,c6,c7],_,[x0,x1,x2,x3],_=>
  have h0:=hf 0 _ rfl;have h1:=hf 1 _ rfl;have h2:=hf 2 _ rfl;have h3:=hf 3 _ rfl;clear hf h;simp only[cellsI,cellsS,cellsV,Yg,List.drop_succ_cons,Yf,List.take_zero,Ye,Yd]at h0 h1 h2 h3;have hw':Fits 40 (DataW.agg [x0.1,x1.1,x2.1,x3.1]):=hw;unfold Fits at hw';rw[weights_pred]at hw';obtain⟨k,_,r0⟩:=reads_int n _ _ h0 (fun m hm=>hw' m (Zy _ hm));obtain⟨s1,_,r1⟩:=reads_string n _ _ h1 (fun m hm=>hw' m (Zk _ (Zy _ hm)));obtain⟨s2,_,r2⟩:=reads_string n _ _ h2 (fun m hm=>hw' m (Zk _ (Zk _ (Zy _ hm))));obtain⟨v,hv,r3⟩:=reads_value n _ _ h3 (fun m hm=>hw' m (Zk _ (Zk _ (Zk _ (Zy _ hm)))));exact⟨⟨k,s1,s2,v⟩,⟨by have:=hv.1;show dep v≤n+1;omega,hv.2⟩,rr_app r0 (rr_app r1 (rr_app r2 r3))⟩
theorem encC_len' (c:Ch):(encC c).length=10:=by obtain⟨a,b,c,d,e,v⟩:=c;obtain⟨k,m,d,s,z,l⟩:=v;rfl
theorem reads_preds :Reads H en w held 27 (fun l:List Pr=> [.ls 8 (pdR l) false]) (fun n l=>(∀p∈l,dep p.v≤n∧bdV p.v)∧l.length≤reachBytes):=
 reads_slice (encA:=encP) (P:=fun n (p:Pr)=>dep p.v≤n∧bdV p.v) Tryz.underlying27 (by omega) cellsP bytesP encP_len (fun m n a hm h=>⟨Ym h.1 hm,h.2⟩) reads_pred
theorem reads_changes :Reads H en w held 45 (fun l:List Ch=> [.ls 10 (chR l) false]) (fun n l=>(∀c∈l,dep c.v≤n∧bdV c.v)∧l.length≤reachBytes):=
 reads_slice (encA:=encC) (P:=fun n (c:Ch)=>dep c.v≤n∧bdV c.v) Tryz.underlying45 (by omega) cellsC bytesC encC_len' (fun m n a hm h=>⟨Ym h.1 hm,h.2⟩) reads_change
end
theorem arg_list {H:Type}{en:TypeId × Value→H}{W:World}{base:Nat}{α:Type}{R:α→AV}{P:Nat→α→Prop}{t e:TypeId}(ht:Tryz.prog.underlying t=some (.slice e))(rd:Reads H en W true t (fun l=> [R l]) P){v:Value}{d:DataW H}{ps:List MemPlace}(hv:Value.okWide Tryz.prog W .any base t v)(h:DataW.Trod en Tryz.prog W 0 (fun _=>true) true t v d ps)(hw:Fits t d):∃(n:Nat) (a:α),P n a∧Ri W none' v (R a):=by
 obtain⟨fuel,hf⟩:=h;obtain⟨a,hp,hr⟩:=rd fuel _ _ hf hw;refine⟨fuel,a,hp,?_⟩;have hx:=(hr.2 0 _ rfl).2;unfold Value.okWide at hv;rw[ht]at hv;cases v with
 |agg cs=>exact(by simp[Cell.okWide,Cell.ok,ht]at hv)
 |_=>exact hx
end Go.Proofs.YtadaeokidcgdlaaGreatDoor
