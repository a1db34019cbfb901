/- The law on the footprint of a query's beginning as a fact about the program. -/
import Derived.Test.YtmocfjnklfpnbaaGreatDoorP38
import Derived.Test.YtmocfjnklfpnbaaGreatDoorP40
import Derived.Test.YtmocfjnklfpnbaaGreatDoorRows
import Derived.Test.YtmocfjnklfpnbaaGreatDoorP20
set_option linter.all false
set_option maxRecDepth 100000
namespace Go.Proofs.YtmocfjnklfpnbaaGreatDoor
open Go Go.Ae
def aT (f:FuncId)(xs:List AV):Option AV:=if f=6 then(if xs.isEmpty then some (.sc (.bool true))else none)else none
theorem aT_ok (hC:CxAll cx):∀f xs r,aT f xs=some r→xs.all calm=true∧PureOK cx f xs r:=fun f xs r h=>by
 unfold aT at h;split at h
 ·rename_i e;split at h
  ·rename_i e2;cases h;obtain rfl:=List.isEmpty_iff.1 e2;subst e;exact⟨rfl,lives_ok hC⟩
  ·cases h
 ·cases h
theorem of_ofR (D d n:Nat)(hD:1≤D)(q:List Cp)(hb:∀c∈q,BdC D d c)(hb':∀c∈q,BbC D d c)(hr:∀c∈q,BrC D d c)(hl:q.length≤1000000)(hm:(q.map mCp).sum≤1000000000)(hn:2*D+3*d+121≤n):
 ∃r,OfR q r∧∀t h,callN cx n t 7 [.ag (encQ q)] h=some (r,h):=by
 rcases fp_Of D d n q hb hb' hr hl hm (gP_reads hD q q 0 hr) hn with⟨h1,h2⟩|⟨h1,R,hS,hRl,h2⟩
 ·exact⟨_,.inl ⟨_,_,h1,rfl⟩,h2⟩
 ·exact⟨_,.inr ⟨h1,R,hS,hRl,rfl⟩,h2⟩
theorem sum_take {α:Type}(f:α→Nat)(l:List α)(k:Nat):((l.take k).map f).sum≤(l.map f).sum:=by
 conv=>rhs;rw[←List.take_append_drop k l,List.map_append,List.sum_append]
 omega
theorem px_pure (hC:CxAll cx)(D d:Nat)(hD:1≤D)(q:List Cp)(m:Int)(hb:∀c∈q,BdC D d c)(hb':∀c∈q,BbC D d c)(hr:∀c∈q,BrC D d c)(hl:q.length≤1000000)(hm:(q.map mCp).sum≤1000000000):
 PureOK cx 4 [.ag (encQ q),.sc (.int .i64 m)] (.sc (.bool true)):=by
 obtain⟨N,hN⟩:∃N,N=3*D+3*d+200:=⟨_,rfl⟩;have hK:∀(f:FuncId) (ys:List AV) (t:Bool) (h:Hp),f≠6→(match aT f ys with|some q=>some (q,h)|none=>callN cx N t f ys h)=callN cx N t f ys h:=fun f ys t h hf=>by
  unfold aT;rw[if_neg hf]
 obtain⟨w,hw⟩:=r18_Light D d N q hr (fun c hc=>Yj (sum_mem mCp hc) hm) hl (by omega);obtain⟨r1,o1,f1⟩:=of_ofR D d N hD q hb hb' hr hl hm (by omega);obtain⟨h',hw⟩:=fx_walk (fun b g ys h=>match aT g ys with|some q=>some (q,h)|none=>callN cx N b g ys h) q m w
  (fun t h=>rfl)
  (fun t h=>by rw[hK _ _ t _ (by decide)];exact hw t h)
  ⟨r1,o1,fun t h=>by rw[hK _ _ t _ (by decide)];exact f1 t h⟩
  (fun k hk=>by
   obtain⟨r2,o2,f2⟩:=of_ofR D d N hD (q.take k) (fun c hc=>hb c (List.mem_of_mem_take hc)) (fun c hc=>hb' c (List.mem_of_mem_take hc)) (fun c hc=>hr c (List.mem_of_mem_take hc)) (by rw[List.length_take];omega) (Yj (sum_take mCp q k) hm) (by omega);exact⟨r2,o2,fun t h=>by rw[hK _ _ t _ (by decide)];exact f2 t h⟩)
  (fun R R' k hk c1 c2 hS hRl hS' hRl'=>by
   have l1:(readsQ q).length≤(q.map mCp).sum:=readsF_len q q 0;have l2:(readsQ (q.take k)).length≤((q.take k).map mCp).sum:=readsF_len _ _ 0;have l3:=sum_take mCp q k;refine⟨by omega,fun p hp t h=>?_⟩;rw[hK _ _ t _ (by decide)];have hg:=gP_reads hD q q 0 hr;have:=rd_Has (N-3*D-9) D t R p h (by omega) (fun x hx=>hg x (hS.1 x hx)) (hg p (reads_take hk c1 c2 p (hS'.1 p hp)));rw[show N-3*D-9+3*D+9=N by omega,hasP_of hk c1 c2 hS hS' hp]at this;exact this)
 have hbd:body1 cx (fun b g ys h=>match aT g ys with|some q=>some (q,h)|none=>callN cx N b g ys h) 4 [.ag (encQ q),.sc (.int .i64 m)] []=some (.sc (.bool true),h'):=by
  rw[body1_of (fi:=⟨Tryz.f4.ntmps,(Tryz.f4.body).getD .skip,[.tmp 4]⟩) (by kernel_rfl) (by kernel_rfl) (by simp[Tryz.f4])];exact hw
 exact pure_of_tab hC (aT_ok hC) hbd (m:=8) rfl
end Go.Proofs.YtmocfjnklfpnbaaGreatDoor
namespace Go.Proofs.YtmocfjnklfpnbaaGreatDoor
open Go Go.Ae Go.ChangeShapes Go.WideShapes
def RR (w:World)(cs:List Value)(row:List AV):Prop:=cs.length=row.length∧∀(j:Nat) (y:AV),row[j]?=some y→(cs.getD j undef).oneCell'=true∧Ri w none' (cs.getD j undef) y
theorem rr_of_rv {w:World}{cs:List Value}{v:V}(h:RV w cs v):RR w cs (enc v):=⟨by rw[h.1,enc_length],h.2⟩
theorem list_of' {α:Type}{p:Nat→α→Prop}:∀n,(∀i,i<n→∃x,p i x)→∃l:List α,l.length=n∧∀i v,l[i]?=some v→p i v
 |0,_=>⟨[],rfl,by simp⟩
 |
  n+1,h=>by
  obtain⟨l,hl,hp⟩:=list_of' n fun i hi=>h i (by omega)
  obtain⟨x,hx⟩:=h n (by omega);refine⟨l++[x],by simp[hl],fun i v hv=>?_⟩;by_cases hi:i<n
  ·rw[Zd (by omega)]at hv;exact hp i v hv
  ·have hlt:=(Za.1 hv).1;simp at hlt;obtain rfl:i=n:=by omega
   rw[Zf (by omega),hl]at hv;simp at hv;subst hv;exact hx
theorem rr_app {w:World}{c1 c2:List Value}{r1 r2:List AV}(h1:RR w c1 r1)(h2:RR w c2 r2):RR w (c1++c2) (r1++r2):=by
 refine⟨by rw[Zu,Zu,h1.1,h2.1],fun j y hj=>?_⟩;by_cases hlt:j<r1.length
 ·rw[Zd hlt]at hj;rw[Yi,Zd (by rw[h1.1];exact hlt),←Yi];exact h1.2 j y hj
 ·rw[Zf (by omega)]at hj;rw[Yi,Zf (by rw[h1.1];omega),h1.1,←Yi];exact h2.2 _ y hj
theorem rr_one {w:World}{c:Value}{x:AV}(ho:c.oneCell'=true)(h:Ri w none' c x):RR w [c] [x]:=⟨rfl,fun j y hj=>by
 match j,hj with
 |0,hj=>cases hj;exact⟨ho,h⟩
 |_+1,hj=>simp at hj⟩
section
variable {w : World}
theorem ri_rows {a:Addr}{cap sz:Nat}{rows:List (List AV)}(hsz:0<sz)(hl:rows.length≤cap)(hm:cap≤maxLen)(hrow:∀row∈rows,row.length=sz)(hp:∀(i:Nat) (row:List AV),rows[i]?=some row→∃cs,w.cells? 0 (a.add (i*sz)) sz=some cs∧RR w cs row):Ri w none' (.slice (some a) rows.length cap) (.ls sz rows false):=by
 cases hl0:rows with
 |nil=>exact .le _ _ _ _ hm (by simp)
 |
  cons v0 l0=>
  rw[←hl0];obtain⟨cs0,hc0,hr0⟩:=hp 0 v0 (by rw[hl0];rfl);have hn0:cs0.length=sz:=by rw[hr0.1];exact hrow v0 (by rw[hl0];simp)
  obtain⟨_,_,hg0⟩:=World.cells?_some hc0;have h00:=hg0 0 hsz;rw[Nat.zero_mul,Go.Deep.add_add,Zb (by omega)]at h00;obtain⟨b,o,sp⟩:=a;have h0:w.cell? ⟨b,o,sp⟩=some cs0[0]:=h00;unfold World.cell? at h0;cases hb:w.heap[b]? with
  |none=>rw[hb]at h0;cases h0
  |
   some ob=>
   rw[hb]at h0;cases ob<;>simp only[reduceCtorEq]at h0;rename_i cur t fz;cases sp with
   |some q=>simp at h0
   |
    none=>
    have at':∀k,w.cell? ⟨b,o+k,none⟩=cur[o+k]?:=fun k=>by unfold World.cell?;rw[hb];rfl
    have add':∀k,(Addr.mk b o none).add k=⟨b,o+k,none⟩:=fun k=>by
     unfold Addr.add;by_cases hk:k=0
     ·subst hk;simp
     ·simp[hk]
    have key:∀(i:Nat) (row:List AV) (j:Nat) (x:AV),rows[i]?=some row→row[j]?=some x→cur[o+i*sz+j]?=some (cur.getD (o+i*sz+j) undef)∧(cur.getD (o+i*sz+j) undef).oneCell'=true∧Ri w none' (cur.getD (o+i*sz+j) undef) x:=by
     intro i row j x hi hj;have hrl:=hrow row (Zi hi);have hj5:j<sz:=by have:=(Za.1 hj).1;omega
     obtain⟨cs,hc,hr⟩:=hp i row hi;have hn:cs.length=sz:=by rw[hr.1,hrl]
     obtain⟨_,_,hg⟩:=World.cells?_some hc;have h1:=hg j hj5;rw[Go.Deep.add_add,add',at',Zb (by omega)]at h1;have e:cur.getD (o+i*sz+j) undef=cs.getD j undef:=by
      rw[Zr,Nat.add_assoc,h1,Yi,Zb (by omega)]
     rw[e,Nat.add_assoc,h1,Yi,Zb (by omega)];have:=hr.2 j x hj;rw[Yi,Zb (by omega)]at this;exact⟨rfl,this.1,this.2⟩
    exact .ls b o rows.length cap sz rows false (fun i j=>cur.getD (o+i*sz+j) undef) cur t fz (fun h=>h) hb rfl hl hm (by simp) (fun i row hi=>hrow row (Zi hi)) (fun i row j x hi hj=>⟨(key i row j x hi hj).1,(key i row j x hi hj).2.1⟩) (fun i row j x hi hj=>(key i row j x hi hj).2.2)
end
theorem wf_i64 {n:Int}(h:(Lit.int .i64 n).wf=true):i64 n:=by
 have h':(decide (IntKind.i64.min≤n) && decide (n≤IntKind.i64.max))=true:=h;simp only[Zh,Zz]at h';have e1:IntKind.i64.min= -9223372036854775808:=by decide
 have e2:IntKind.i64.max=9223372036854775807:=by decide
 unfold i64;omega
theorem gdL_of' :∀{l:List V},(∀x∈l,gdV x)→gdL l
 | [],_=>by rw[gdL];trivial
 |
  y::l,h=>by
  rw[gdL];exact⟨h y (by simp),gdL_of' fun x hx=>h x (List.mem_cons_of_mem _ hx)⟩
section
variable {H : Type} {en : TypeId × Value → H} {w : World} {held : Bool}
theorem readG :∀(fuel:Nat) (cs:List Value) (x:DataW H × List MemPlace),DataW.trod en Tryz.prog w 0 (fun _=>true) held fuel 35 cs=some x→Fits 35 x.1→∃v:V,dep v≤fuel∧gdV v∧RV w cs v:=by
 intro fuel
 induction fuel using Nat.strongRecOn with
 |
  ind fuel ih=>
  intro cs x h hw;obtain⟨xs,n,rfl,rfl,hl,hn,hf⟩:=DataW.trod_struct Tryz.underlying35 h;rw[cellsV]at hl;have hn5:xs.length=5:=hn
  match cs,hl,xs,hn5 with
  |
   [c0,c1,c2,c3,c4],_,[x0,x1,x2,x3,x4],_=>
   have h0:=hf 0 _ rfl;have h1:=hf 1 _ rfl;have h2:=hf 2 _ rfl;have h3:=hf 3 _ rfl;have h4:=hf 4 _ rfl;clear hf h;simp only[cellsI,cellsS,cellsL,Yf,List.drop_succ_cons,List.take_succ_cons,List.take_zero,List.getElem?_cons_zero,Ye]at h0 h1 h2 h3 h4;obtain⟨k0,e0,_,b0⟩:=DataW.trod_int Tryz.underlying3 h0;obtain⟨k1,e1,_,b1⟩:=DataW.trod_int Tryz.underlying3 h1;obtain⟨k2,e2,_,b2⟩:=DataW.trod_int Tryz.underlying3 h2;obtain⟨s3,e3,w3,_⟩:=DataW.trod_string Tryz.underlying9 h3;obtain rfl:c0=_:=(List.cons.inj e0).1;obtain rfl:c1=_:=(List.cons.inj e1).1;obtain rfl:c2=_:=(List.cons.inj e2).1;obtain rfl:c3=_:=(List.cons.inj e3).1;have hw':Fits 35 (DataW.agg [x0.1,x1.1,x2.1,x3.1,x4.1]):=hw;unfold Fits at hw';rw[weights_value]at hw';have hs:s3.size≤reachBytes:=hw' _ (by
    refine Zk _ (Zk _ (Zk _ (Zy _ ?_)));rw[w3];exact List.mem_singleton.2 rfl)
   have hw4:Fits 33 x4.1:=fun m hm=>hw' m (Zk _ (Zk _ (Zk _ (Zk _ (Zy _ hm)))))
   have fin:∀(l:List V) (D:Nat),(∀y∈l,dep y≤D)→D+1≤n+1→(∀y∈l,gdV y)→l.length≤reachBytes→c4.oneCell'=true→Ri w none' c4 (.ls 5 (encL l) false)→
    ∃v:V,dep v≤n+1∧gdV v∧RV w [.int .i64 k0,.int .i64 k1,.int .i64 k2,.string s3,c4] v:=by
    intro l D hd hD hb hll ho hr;refine⟨.mk k0 k1 k2 s3 false l,?_,?_,rfl,fun j y hj=>?_⟩
    ·rw[dep];have:=depL_le hd;omega
    ·rw[gdV];exact⟨wf_i64 b0,wf_i64 b1,wf_i64 b2,reach_bd hs,reach_bd hll,rfl,gdL_of' hb⟩
    ·match j,hj with
     |0,hj=>cases hj;exact⟨rfl,.sc _ rfl⟩
     |1,hj=>cases hj;exact⟨rfl,.sc _ rfl⟩
     |2,hj=>cases hj;exact⟨rfl,.sc _ rfl⟩
     |3,hj=>cases hj;exact⟨rfl,.sc _ rfl⟩
     |4,hj=>cases hj;exact⟨ho,hr⟩
     |_+5,hj=>simp[enc]at hj
   rcases DataW.trod_slice Tryz.underlying33 h4 with⟨e,_⟩|⟨a,len,cap,elems,rest,m,hm,e,wx,_,hlc,hcm,hel,hq,_⟩
   ·obtain rfl:c4=_:=(List.cons.inj e).1;exact fin [] 0 (by simp) (by omega) (by simp) (by simp) rfl (.le none 0 5 false (Nat.zero_le _) (by simp))
   ·obtain rfl:c4=_:=(List.cons.inj e).1;unfold Fits at hw4;rw[wx,weights_values]at hw4;have hlen:elems.length≤reachBytes:=by
     have:=hw4 _ (List.mem_cons_self ..);simp only[List.length_map]at this;omega
    obtain⟨l,hll,hp⟩:=list_of (p:=fun i v=>dep v≤m∧gdV v∧∃cs',w.cells? 0 (a.add (i*5)) 5=some cs'∧RV w cs' v) len (fun i hi=>by
     have h5:=hq i hi;rw[cellsV,Zb (by omega)]at h5;obtain⟨cs',q1,q2⟩:=Yg.1 h5;obtain⟨v,d1,d2,d3⟩:=ih m (by omega) cs' _ q2 (fun k hk=>hw4 k (List.mem_cons_of_mem _ (Zy _ (weights_mem hk (Yh.2 ⟨_,List.getElem_mem _,rfl⟩)))));exact⟨v,d1,d2,cs',q1,d3⟩)
    have hmem:∀y∈l,dep y≤m∧gdV y:=fun y hy=>by
     obtain⟨i,hi⟩:=List.getElem?_of_mem hy;exact⟨(hp i y hi).1,(hp i y hi).2.1⟩
    refine fin l m (fun y hy=>(hmem y hy).1) (by omega) (fun y hy=>(hmem y hy).2) (by omega) rfl ?_;have:=ri_values (w:=w) (a:=a) (cap:=cap) (l:=l) (by omega) hcm (fun i v hv=>(hp i v hv).2.2);rw[hll]at this;exact this
end
namespace bk
theorem one_le {H:Type}(d:DataW H):1≤Rows.uptoBulk d:=by
 cases d with
 |lit l=>cases l<;>simp[Rows.uptoBulk]
 |nil=>simp[Rows.uptoBulk]
 |ptr d=>simp[Rows.uptoBulk]
 |slice elems spare=>simp[Rows.uptoBulk]
 |agg parts=>simp[Rows.uptoBulk]
 |iface t d=>simp[Rows.uptoBulk]
 |map entries=>simp[Rows.uptoBulk]
 |held h=>simp[Rows.uptoBulk]
end bk
section
variable (H : Type) (en : TypeId × Value → H) (w : World) (held : Bool)
def RdB (N:Nat){α:Type}(t:TypeId)(encA:α→List AV)(Q:Nat→α→Prop)(m:α→Nat):Prop:=
 ∀(fuel:Nat) (cs:List Value) (x:DataW H × List MemPlace),fuel≤N→DataW.trod en Tryz.prog w 0 (fun _=>true) held fuel t cs=some x→Fits t x.1→∃a:α,Q fuel a∧m a≤Rows.uptoBulk x.1∧RR w cs (encA a)
def segs (ts:List (TypeId × Nat × Nat))(cs:List Value):List Value:=ts.flatMap fun t=>(cs.drop t.2.1).take t.2.2
def RdF (N:Nat){α:Type}(ts:List (TypeId × Nat × Nat))(encA:α→List AV)(Q:Nat→α→Prop)(m:α→Nat):Prop:=
 ∀(n:Nat) (cs:List Value) (xs:List (DataW H × List MemPlace)),n≤N→xs.length=ts.length→(∀(i:Nat) (t:TypeId × Nat × Nat),ts[i]?=some t→DataW.trod en Tryz.prog w 0 (fun _=>true) held n t.1 ((cs.drop t.2.1).take t.2.2)=xs[i]?)→(∀k∈DataW.weightsEach Tryz.prog (ts.map (·.1)) (xs.map (·.1)),k≤reachBytes)→∃a:α,Q n a∧m a≤Rows.uptoBulkAll (xs.map (·.1))∧RR w (segs ts cs) (encA a)
def cov :List (TypeId × Nat × Nat)→Nat→Nat→Bool
 | [],o,k=>o==k
 |t::ts,o,k=>t.2.1==o && cov ts (o+t.2.2) k
theorem segs_cov (cs:List Value):∀(ts:List (TypeId × Nat × Nat)) (o:Nat),cov ts o cs.length=true→segs ts cs=cs.drop o
 |
  [],o,h=>by
  simp only[cov,beq_iff_eq]at h;simp[segs,h]
 |
  t::ts,o,h=>by
  simp only[cov,Zh,beq_iff_eq]at h;have:=segs_cov cs ts _ h.2;unfold segs at this⊢;rw[List.flatMap_cons,this,h.1,←List.drop_drop,List.take_append_drop]
end
section
variable {H : Type} {en : TypeId × Value → H} {w : World} {held : Bool}
theorem RdB.le {N N':Nat}{α:Type}{t:TypeId}{encA:α→List AV}{Q:Nat→α→Prop}{m:α→Nat}(h:RdB H en w held N t encA Q m)(hn:N'≤N):RdB H en w held N' t encA Q m:=fun fuel cs x hf=>h fuel cs x (by omega)
theorem rdf_nil (N:Nat):RdF H en w held N [] (fun _:Unit=> []) (fun _ _=>True) (fun _=>0):=fun n cs xs _ _ _ _=>⟨(),trivial,Nat.zero_le _,rfl,fun j y hj=>by simp at hj⟩
theorem rdf_cons {N:Nat}{α β:Type}{t:TypeId}{o s:Nat}{ts:List (TypeId × Nat × Nat)}{eA:α→List AV}{eB:β→List AV}{QA:Nat→α→Prop}{QB:Nat→β→Prop}{mA:α→Nat}{mB:β→Nat}(hA:RdB H en w held N t eA QA mA)(hB:RdF H en w held N ts eB QB mB):
 RdF H en w held N ((t,o,s)::ts) (fun p:α × β=>eA p.1++eB p.2) (fun n p=>QA n p.1∧QB n p.2) (fun p=>mA p.1+mB p.2):=by
 intro n cs xs hn hl hf hw
 match xs,hl with
 |
  x::xs,hl=>
  rw[List.map_cons,List.map_cons,DataW.weightsEach]at hw;obtain⟨a,q1,m1,r1⟩:=hA n _ _ hn (hf 0 _ rfl) (fun k hk=>hw k (Zy _ hk));obtain⟨b,q2,m2,r2⟩:=hB n cs xs hn (by simpa using hl) (fun i t' ht=>by simpa using hf (i+1) t' (by simpa using ht)) (fun k hk=>hw k (Zk _ hk));refine⟨(a,b),⟨q1,q2⟩,?_,?_⟩
  ·rw[List.map_cons,Rows.uptoBulkAll];exact Nat.add_le_add m1 m2
  ·exact rr_app r1 r2
theorem rdb_struct {N k:Nat}{α β:Type}{t:TypeId}{fs:Array Field}{ts:List (TypeId × Nat × Nat)}{eP:α→List AV}{eB:β→List AV}{Q:Nat→α→Prop}{QB:Nat→β→Prop}{m:α→Nat}{mB:β→Nat}(f:α→β)
 (ht:Tryz.prog.underlying t=some (.struct fs)) (hts:fs.toList.map (fun f=>(f.type,f.offset,Tryz.prog.cellsOf f.type))=ts) (hk:Tryz.prog.cellsOf t=k) (hc:cov ts 0 k=true) (rf:RdF H en w held N ts eP Q m)
 (he:∀a,eP a=eB (f a)) (hQ:∀n a,Q n a→QB (n+1) (f a)) (hm:∀a,mB (f a)≤m a+1):RdB H en w held (N+1) t eB QB mB:=by
 intro fuel cs x hN h hw;obtain⟨xs,n,rfl,rfl,hl,hn,hf⟩:=DataW.trod_struct ht h;rw[hk]at hl;have hw':∀k∈DataW.weightsEach Tryz.prog (ts.map (·.1)) (xs.map (·.1)),k≤reachBytes:=by
  unfold Fits at hw;rw[DataW.weights,ht]at hw;rw[←hts,List.map_map];exact hw
 obtain⟨a,q,ma,r⟩:=rf n cs xs (by omega) (by rw[←hts,List.length_map,hn,Array.length_toList]) (fun i t' ht'=>by
  rw[←hts,Zs]at ht';obtain⟨fd,hfd,rfl⟩:=Ze.1 ht';exact hf i fd (by simpa using hfd)) hw'
 refine⟨f a,hQ n a q,?_,?_⟩
 ·have:=hm a;simp only[Rows.uptoBulk];omega
 ·rw[←he];rw[segs_cov cs ts 0 (by rw[hl];exact hc),Yf]at r;exact r
theorem bulk_sum {α:Type}{m:α→Nat}:∀(l:List α) (xs:List (DataW H)),l.length=xs.length→(∀(i:Nat) (a:α) (x:DataW H),l[i]?=some a→xs[i]?=some x→m a≤Rows.uptoBulk x)→(l.map m).sum≤Rows.uptoBulkAll xs
 | [],[],_,_=>by simp
 |
  a::l,x::xs,hl,h=>by
  have h0:=h 0 a x rfl rfl;have h1:=bulk_sum l xs (by simpa using hl) fun i b y hb hy=>h (i+1) b y (by simpa using hb) (by simpa using hy)
  rw[List.map_cons,List.sum_cons,Rows.uptoBulkAll];omega
theorem rdb_slice {N:Nat}{α:Type}{encA:α→List AV}{Q:Nat→α→Prop}{m:α→Nat}{te tl:TypeId}{sz bs:Nat}(ht:Tryz.prog.underlying tl=some (.slice te))(hsz:0<sz)(hc:Tryz.prog.cellsOf te=sz)(hb:Tryz.prog.bytesOf te=bs+1)(henc:∀a,(encA a).length=sz)(hmono:∀m n a,m≤n→Q m a→Q n a)(rd:RdB H en w held N te encA Q m):
 RdB H en w held N tl (fun l:List α=> [.ls sz (l.map encA) false]) (fun n l=>(∀a∈l,Q n a)∧l.length≤reachBytes) (fun l=>(l.map m).sum+1):=by
 intro fuel cs x hN h hw;rcases DataW.trod_slice ht h with⟨e,rfl⟩|⟨a,len,cap,elems,rest,n,hn,e,wx,_,hlc,hcm,hel,hq,_⟩
 ·subst e;exact⟨[],⟨by simp,by simp⟩,by simp[Rows.uptoBulk],rr_one rfl (.le none 0 sz false (Nat.zero_le _) (by simp))⟩
 ·subst e;unfold Fits at hw;rw[wx,DataW.weights,ht]at hw;have hlen:elems.length≤reachBytes:=by
   have:=hw _ (List.mem_cons_self ..);simp only[List.length_map]at this;rw[hb]at this;have h2:elems.length*1≤(elems.length+rest.length)*(bs+1):=Nat.mul_le_mul (by omega) (by omega);omega
  obtain⟨l,hll,hp⟩:=list_of' (p:=fun i v=>(Q n v∧∃cs',w.cells? 0 (a.add (i*sz)) sz=some cs'∧RR w cs' (encA v))∧∀y,elems[i]?=some y→m v≤Rows.uptoBulk y.1) len (fun i hi=>by
   have h5:=hq i hi;rw[hc,Zb (by omega)]at h5;obtain⟨cs',q1,q2⟩:=Yg.1 h5;obtain⟨v,d1,d2,d3⟩:=rd n cs' _ (by omega) q2 (fun k hk=>hw k (List.mem_cons_of_mem _ (Zy _ (weights_mem hk (Yh.2 ⟨_,List.getElem_mem _,rfl⟩)))));exact⟨v,⟨d1,cs',q1,d3⟩,fun y hy=>by
    rw[Zb (by omega)]at hy;cases hy;exact d2⟩)
  refine⟨l,⟨fun y hy=>?_,by omega⟩,?_,rr_one rfl ?_⟩
  ·obtain⟨i,hi⟩:=List.getElem?_of_mem hy;exact hmono _ _ _ (by omega) (hp i y hi).1.1
  ·rw[wx];have:=bulk_sum (H:=H) (m:=m) l (elems.map (·.1)) (by rw[List.length_map];omega) (fun i a' x' h1 h2=>by
    rw[Zs]at h2;obtain⟨y,hy,rfl⟩:=Ze.1 h2;exact(hp i a' h1).2 y hy)
   simp only[Rows.uptoBulk];omega
  ·have:=ri_rows (w:=w) (a:=a) (cap:=cap) (rows:=l.map encA) hsz (by rw[List.length_map];omega) hcm (fun row hr=>by obtain⟨v,_,rfl⟩:=Yh.1 hr;exact henc v) (fun i row hr=>by
    rw[Zs]at hr;obtain⟨v,hv,rfl⟩:=Ze.1 hr;exact(hp i v hv).1.2)
   rw[List.length_map,hll]at this;exact this
theorem rdb_value (N:Nat):RdB H en w held N 35 enc (fun n v=>dep v≤n∧gdV v) (fun _=>0):=by
 intro fuel cs x _ h hw;obtain⟨v,d1,d2,d3⟩:=readG fuel cs x h hw;exact⟨v,⟨d1,d2⟩,Nat.zero_le _,rr_of_rv d3⟩
theorem rdb_int (N:Nat):RdB H en w held N 3 (fun k:Int=> [.sc (.int .i64 k)]) (fun _ _=>True) (fun _=>0):=by
 intro fuel cs x _ h hw;obtain⟨k,e,_,_⟩:=DataW.trod_int Tryz.underlying3 h;subst e;exact⟨k,trivial,Nat.zero_le _,rr_one rfl (.sc _ rfl)⟩
theorem rdb_bool (N:Nat):RdB H en w held N 4 (fun k:Bool=> [.sc (.bool k)]) (fun _ _=>True) (fun _=>0):=by
 intro fuel cs x _ h hw;obtain⟨k,e,_⟩:=DataW.trod_bool Tryz.underlying4 h;subst e;exact⟨k,trivial,Nat.zero_le _,rr_one rfl (.sc _ rfl)⟩
theorem rdb_string (N:Nat):RdB H en w held N 9 (fun s:ByteArray=> [.sc (.string s)]) (fun _ s=>s.size≤1000000000000000) (fun _=>1):=by
 intro fuel cs x _ h hw;obtain⟨s,e,wx,_⟩:=DataW.trod_string Tryz.underlying9 h;subst e;refine⟨s,?_,bk.one_le _,rr_one rfl (.sc _ rfl)⟩;unfold Fits at hw;rw[wx]at hw;exact reach_bd (hw _ (List.mem_singleton.2 rfl))
end
mutual
theorem bdX_mono {D E:Nat}(h:D≤E):∀e:Ep,bdX D e→bdX E e
 |
  .mk op v nm ds ks,hb=>by
  rw[bdX]at hb⊢;exact⟨⟨Yj hb.1.1 h,hb.1.2⟩,hb.2.1,hb.2.2.1,bdXs_mono h ks hb.2.2.2⟩
theorem bdXs_mono {D E:Nat}(h:D≤E):∀l:List Ep,bdXs D l→bdXs E l
 | [],hb=>by rw[bdXs];trivial
 |
  x::xs,hb=>by
  rw[bdXs]at hb⊢;exact⟨bdX_mono h x hb.1,bdXs_mono h xs hb.2⟩
end
theorem bdXs_of {D:Nat}:∀l:List Ep,(∀e∈l,bdX D e)→bdXs D l
 | [],_=>by rw[bdXs];trivial
 |
  x::xs,h=>by
  rw[bdXs];exact⟨h x (by simp),bdXs_of xs fun e he=>h e (List.mem_cons_of_mem _ he)⟩
mutual
theorem depX_cnt :∀e:Ep,depX e≤cntX e
 |
  .mk op v nm ds ks=>by
  rw[depX,cntX];have:=depXs_cnt ks;omega
theorem depXs_cnt :∀l:List Ep,depXs l≤cntXs l
 | []=>by rw[depXs];omega
 |
  x::xs=>by
  rw[depXs,cntXs];have:=depX_cnt x;have:=depXs_cnt xs;omega
end
theorem cellsEx :Tryz.prog.cellsOf 43=9:=by kernel_rfl
theorem bytesEx :Tryz.prog.bytesOf 43=119+1:=by kernel_rfl
theorem sumL {α:Type}(f:α→Nat)(l:List α):(l.map fun x=>2*f x).sum=2*(l.map f).sum:=by
 induction l with
 |nil=>rfl
 |cons a l ih=>rw[List.map_cons,List.map_cons,List.sum_cons,List.sum_cons,ih];omega
section
variable {H : Type} {en : TypeId × Value → H} {w : World} {held : Bool}
theorem rdb_expr :∀N:Nat,RdB H en w held N 43 encX bdX (fun e=>2*cntX e)
 |
  0=>fun fuel cs x hN h hw=>by
  obtain⟨xs,n,e,_⟩:=DataW.trod_struct Tryz.underlying43 h;omega
 |
  N+1=>by
  refine rdb_struct (k:=9) (ts:=[(3,0,1),(35,1,5),(9,6,1),(4,7,1),(41,8,1)])
   (fun p:Int × V × ByteArray × Bool × List Ep × Unit=>Ep.mk p.1 p.2.1 p.2.2.1 p.2.2.2.1 p.2.2.2.2.1) Tryz.underlying43 (by kernel_rfl) cellsEx (by decide)
   (rdf_cons (rdb_int N) (rdf_cons (rdb_value N) (rdf_cons (rdb_string N) (rdf_cons (rdb_bool N) (rdf_cons (rdb_slice (encA:=encX) (Q:=bdX) Tryz.underlying41 (by omega) cellsEx bytesEx encX_length (fun m n e hm h=>bdX_mono hm e h) (rdb_expr N)) (rdf_nil N)))))) ?_ ?_ ?_
  ·rintro⟨o,v,n,d,l,_⟩;rw[encX,←encXs_map];rfl
  ·rintro n ⟨o,v,s,d,l,_⟩ ⟨_,h1,h2,_,h3,_⟩;simp only at h1 h2 h3⊢;rw[bdX];exact⟨⟨Nat.le_succ_of_le h1.1,h1.2⟩,h2,reach_bd h3.2,bdXs_of l fun e he=>bdX_mono (Nat.le_succ n) e (h3.1 e he)⟩
  ·rintro⟨o,v,s,d,l,_⟩;simp only;rw[cntX,cntXs_sum,sumL];omega
end
theorem cellsPP :Tryz.prog.cellsOf 51=10:=by kernel_rfl
theorem bytesPP :Tryz.prog.bytesOf 51=135+1:=by kernel_rfl
theorem cellsNP :Tryz.prog.cellsOf 54=3:=by kernel_rfl
theorem bytesNP :Tryz.prog.bytesOf 54=63+1:=by kernel_rfl
theorem cellsEP :Tryz.prog.cellsOf 57=7:=by kernel_rfl
theorem bytesEP :Tryz.prog.bytesOf 57=95+1:=by kernel_rfl
theorem cellsPa :Tryz.prog.cellsOf 60=3:=by kernel_rfl
theorem bytesPa :Tryz.prog.bytesOf 60=63+1:=by kernel_rfl
theorem cellsIt :Tryz.prog.cellsOf 62=10:=by kernel_rfl
theorem bytesIt :Tryz.prog.bytesOf 62=135+1:=by kernel_rfl
theorem cellsSo :Tryz.prog.cellsOf 94=10:=by kernel_rfl
theorem bytesSo :Tryz.prog.bytesOf 94=127+1:=by kernel_rfl
theorem cellsSI :Tryz.prog.cellsOf 64=13:=by kernel_rfl
theorem bytesSI :Tryz.prog.bytesOf 64=175+1:=by kernel_rfl
theorem cellsCl :Tryz.prog.cellsOf 49=21:=by kernel_rfl
theorem bytesCl :Tryz.prog.bytesOf 49=311+1:=by kernel_rfl
theorem bytesSt :Tryz.prog.bytesOf 9=15+1:=by kernel_rfl
theorem cellsQu :Tryz.prog.cellsOf 24=1:=by kernel_rfl
def qPp (n:Nat)(p:Pp):Prop:=bdX n p.e
def qPs (n:Nat)(l:List Pp):Prop:=∀p∈l,qPp n p
def qNp (n:Nat)(x:Np):Prop:=qPs n x.props
def qGp (n:Nat)(x:Gp):Prop:=qPs n x.props
def qTp (n:Nat)(p:Tp):Prop:=(∀x∈p.nodes,qNp n x)∧∀x∈p.edges,qGp n x
structure qCp (n:Nat)(c:Cp):Prop where
 paths:∀p∈c.paths,qTp n p
 wher:∀e∈c.wher,bdX n e
 e:bdX n c.e
 items:∀x∈c.items,bdX n x.e
 order:∀x∈c.order,bdX n x.e
 sets:∀x∈c.sets,bdX n x.e
theorem qPs_mono {m n:Nat}(h:m≤n){l:List Pp}(hl:qPs m l):qPs n l:=fun p hp=>bdX_mono h p.e (hl p hp)
theorem qTp_mono {m n:Nat}(h:m≤n){p:Tp}(hp:qTp m p):qTp n p:=⟨fun x hx=>qPs_mono h (hp.1 x hx),fun x hx=>qPs_mono h (hp.2 x hx)⟩
theorem qCp_mono {m n:Nat}(h:m≤n){c:Cp}(hc:qCp m c):qCp n c:=⟨fun p hp=>qTp_mono h (hc.paths p hp),fun e he=>bdX_mono h e (hc.wher e he),bdX_mono h _ hc.e,fun x hx=>bdX_mono h _ (hc.items x hx),fun x hx=>bdX_mono h _ (hc.order x hx),fun x hx=>bdX_mono h _ (hc.sets x hx)⟩
theorem sum1 {α:Type}(l:List α):(l.map fun _=>1).sum=l.length:=by
 induction l with
 |nil=>rfl
 |cons a l ih=>rw[List.map_cons,List.sum_cons,ih,List.length_cons];omega
theorem sumA {α:Type}(f:α→Nat)(k:Nat)(l:List α):(l.map fun x=>f x+k).sum=(l.map f).sum+k*l.length:=by
 induction l with
 |nil=>rfl
 |cons a l ih=>rw[List.map_cons,List.map_cons,List.sum_cons,List.sum_cons,ih,List.length_cons,Nat.mul_succ];omega
def wtPp (p:Pp):Nat:=2*cntX p.e+1
theorem wtPs (l:List Pp):(l.map wtPp).sum=2*sumP l+l.length:=by
 unfold wtPp sumP;rw[sumA (fun p:Pp=>2*cntX p.e),sumL (fun p:Pp=>cntX p.e),Nat.one_mul]
def wtCp (c:Cp):Nat:=mCp c+c.paths.length
section
variable {H : Type} {en : TypeId × Value → H} {w : World} {held : Bool}
theorem rdb_labels (N:Nat):RdB H en w held N 47 (fun l:List ByteArray=> [.ls 1 (l.map fun s=> [.sc (.string s)]) false]) (fun _ l=>(∀s∈l,s.size≤1000000000000000)∧l.length≤reachBytes) (fun l=>(l.map fun _=>1).sum+1):=
 rdb_slice (encA:=fun s:ByteArray=> [.sc (.string s)]) (Q:=fun _ (s:ByteArray)=>s.size≤1000000000000000) Tryz.underlying47 (by omega) cellsS bytesSt (fun _=>rfl) (fun _ _ _ _ h=>h) (rdb_string N)
theorem rdb_pp (N:Nat):RdB H en w held (N+1) 51 encPp qPp wtPp:=by
 refine rdb_struct (k:=10) (ts:=[(9,0,1),(43,1,9)]) (fun p:ByteArray × Ep × Unit=>Pp.mk p.1 p.2.1) Tryz.underlying51 (by kernel_rfl) cellsPP (by decide)
  (rdf_cons (rdb_string N) (rdf_cons (rdb_expr N) (rdf_nil N))) ?_ ?_ ?_
 ·rintro⟨s,e,_⟩;simp[encPp]
 ·rintro n ⟨s,e,_⟩ ⟨_,h,_⟩;exact bdX_mono (Nat.le_succ n) e h
 ·rintro⟨s,e,_⟩;simp only[wtPp];omega
theorem rdb_pps (N:Nat):RdB H en w held (N+1) 52 (fun l:List Pp=> [.ls 10 (ppR l) false]) (fun n l=>qPs n l∧l.length≤reachBytes) (fun l=>(l.map wtPp).sum+1):=
 rdb_slice (encA:=encPp) (Q:=qPp) Tryz.underlying52 (by omega) cellsPP bytesPP encPp_length (fun m n p hm h=>bdX_mono hm p.e h) (rdb_pp N)
theorem rdb_np (N:Nat):RdB H en w held (N+2) 54 encNp qNp mNo:=by
 refine rdb_struct (k:=3) (ts:=[(9,0,1),(47,1,1),(52,2,1)]) (fun p:ByteArray × List ByteArray × List Pp × Unit=>Np.mk p.1 p.2.1 p.2.2.1) Tryz.underlying54 (by kernel_rfl) cellsNP (by decide)
  (rdf_cons (rdb_string _) (rdf_cons (rdb_labels _) (rdf_cons (rdb_pps N) (rdf_nil _)))) ?_ ?_ ?_
 ·rintro⟨s,l,p,_⟩;rfl
 ·rintro n ⟨s,l,p,_⟩ ⟨_,_,h,_⟩;exact qPs_mono (Nat.le_succ n) h.1
 ·rintro⟨s,l,p,_⟩;simp only[mNo,wtPs,sum1];omega
theorem rdb_gp (N:Nat):RdB H en w held (N+2) 57 encGp qGp mEd:=by
 refine rdb_struct (k:=7) (ts:=[(9,0,1),(47,1,1),(3,2,1),(3,3,1),(3,4,1),(3,5,1),(52,6,1)])
  (fun p:ByteArray × List ByteArray × Int × Int × Int × Int × List Pp × Unit=>Gp.mk p.1 p.2.1 p.2.2.1 p.2.2.2.1 p.2.2.2.2.1 p.2.2.2.2.2.1 p.2.2.2.2.2.2.1) Tryz.underlying57 (by kernel_rfl) cellsEP (by decide)
  (rdf_cons (rdb_string _) (rdf_cons (rdb_labels _) (rdf_cons (rdb_int _) (rdf_cons (rdb_int _) (rdf_cons (rdb_int _) (rdf_cons (rdb_int _) (rdf_cons (rdb_pps N) (rdf_nil _)))))))) ?_ ?_ ?_
 ·rintro⟨s,l,a,b,c,d,p,_⟩;rfl
 ·rintro n ⟨s,l,a,b,c,d,p,_⟩ ⟨_,_,_,_,_,_,h,_⟩;exact qPs_mono (Nat.le_succ n) h.1
 ·rintro⟨s,l,a,b,c,d,p,_⟩;simp only[mEd,wtPs,sum1];omega
theorem rdb_nps (N:Nat):RdB H en w held (N+2) 55 (fun l:List Np=> [.ls 3 (npR l) false]) (fun n l=>(∀x∈l,qNp n x)∧l.length≤reachBytes) (fun l=>(l.map mNo).sum+1):=
 rdb_slice (encA:=encNp) (Q:=qNp) Tryz.underlying55 (by omega) cellsNP bytesNP (fun _=>rfl) (fun m n p hm h=>qPs_mono hm h) (rdb_np N)
theorem rdb_gps (N:Nat):RdB H en w held (N+2) 58 (fun l:List Gp=> [.ls 7 (gpR l) false]) (fun n l=>(∀x∈l,qGp n x)∧l.length≤reachBytes) (fun l=>(l.map mEd).sum+1):=
 rdb_slice (encA:=encGp) (Q:=qGp) Tryz.underlying58 (by omega) cellsEP bytesEP (fun _=>rfl) (fun m n p hm h=>qPs_mono hm h) (rdb_gp N)
theorem rdb_tp (N:Nat):RdB H en w held (N+3) 60 encTp qTp (fun p=>mTp p+1):=by
 refine rdb_struct (k:=3) (ts:=[(9,0,1),(55,1,1),(58,2,1)]) (fun p:ByteArray × List Np × List Gp × Unit=>Tp.mk p.1 p.2.1 p.2.2.1) Tryz.underlying60 (by kernel_rfl) cellsPa (by decide)
  (rdf_cons (rdb_string _) (rdf_cons (rdb_nps N) (rdf_cons (rdb_gps N) (rdf_nil _)))) ?_ ?_ ?_
 ·rintro⟨s,l,p,_⟩;rfl
 ·rintro n ⟨s,l,p,_⟩ ⟨_,h1,h2,_⟩;exact qTp_mono (Nat.le_succ n) ⟨h1.1,h2.1⟩
 ·rintro⟨s,l,p,_⟩;simp only[mTp];omega
theorem rdb_tps (N:Nat):RdB H en w held (N+3) 40 (fun l:List Tp=> [.ls 3 (tpR l) false]) (fun n l=>(∀x∈l,qTp n x)∧l.length≤reachBytes) (fun l=>(l.map fun p=>mTp p+1).sum+1):=
 rdb_slice (encA:=encTp) (Q:=qTp) Tryz.underlying40 (by omega) cellsPa bytesPa (fun _=>rfl) (fun m n p hm h=>qTp_mono hm h) (rdb_tp N)
theorem rdb_exs (N:Nat):RdB H en w held N 41 (fun l:List Ep=> [.ls 9 (l.map encX) false]) (fun n l=>(∀x∈l,bdX n x)∧l.length≤reachBytes) (fun l=>(l.map fun e=>2*cntX e).sum+1):=
 rdb_slice (encA:=encX) (Q:=bdX) Tryz.underlying41 (by omega) cellsEx bytesEx encX_length (fun m n e hm h=>bdX_mono hm e h) (rdb_expr N)
theorem rdb_it (N:Nat):RdB H en w held (N+1) 62 encIp (fun n x=>bdX n x.e) (fun x=>2*cntX x.e):=by
 refine rdb_struct (k:=10) (ts:=[(43,0,9),(9,9,1)]) (fun p:Ep × ByteArray × Unit=>Ip.mk p.1 p.2.1) Tryz.underlying62 (by kernel_rfl) cellsIt (by decide)
  (rdf_cons (rdb_expr N) (rdf_cons (rdb_string N) (rdf_nil N))) ?_ ?_ ?_
 ·rintro⟨e,s,_⟩;simp[encIp]
 ·rintro n ⟨e,s,_⟩ ⟨h,_⟩;exact bdX_mono (Nat.le_succ n) e h
 ·rintro⟨e,s,_⟩;simp only;omega
theorem rdb_so (N:Nat):RdB H en w held (N+1) 94 encOp (fun n x=>bdX n x.e) (fun x=>2*cntX x.e):=by
 refine rdb_struct (k:=10) (ts:=[(43,0,9),(4,9,1)]) (fun p:Ep × Bool × Unit=>Op'.mk p.1 p.2.1) Tryz.underlying94 (by kernel_rfl) cellsSo (by decide)
  (rdf_cons (rdb_expr N) (rdf_cons (rdb_bool N) (rdf_nil N))) ?_ ?_ ?_
 ·rintro⟨e,s,_⟩;simp[encOp]
 ·rintro n ⟨e,s,_⟩ ⟨h,_⟩;exact bdX_mono (Nat.le_succ n) e h
 ·rintro⟨e,s,_⟩;simp only;omega
theorem rdb_si (N:Nat):RdB H en w held (N+1) 64 encSp (fun n x=>bdX n x.e) (fun x=>2*cntX x.e+2):=by
 refine rdb_struct (k:=13) (ts:=[(9,0,1),(9,1,1),(9,2,1),(4,3,1),(43,4,9)]) (fun p:ByteArray × ByteArray × ByteArray × Bool × Ep × Unit=>Sp.mk p.1 p.2.1 p.2.2.1 p.2.2.2.1 p.2.2.2.2.1) Tryz.underlying64 (by kernel_rfl) cellsSI (by decide)
  (rdf_cons (rdb_string N) (rdf_cons (rdb_string N) (rdf_cons (rdb_string N) (rdf_cons (rdb_bool N) (rdf_cons (rdb_expr N) (rdf_nil N)))))) ?_ ?_ ?_
 ·rintro⟨a,b,c,d,e,_⟩;simp[encSp]
 ·rintro n ⟨a,b,c,d,e,_⟩ ⟨_,_,_,_,h,_⟩;exact bdX_mono (Nat.le_succ n) e h
 ·rintro⟨a,b,c,d,e,_⟩;simp only;omega
theorem rdb_its (N:Nat):RdB H en w held (N+1) 44 (fun l:List Ip=> [.ls 10 (ipR l) false]) (fun n l=>(∀x∈l,bdX n x.e)∧l.length≤reachBytes) (fun l=>(l.map fun x=>2*cntX x.e).sum+1):=
 rdb_slice (encA:=encIp) (Q:=fun n (x:Ip)=>bdX n x.e) Tryz.underlying44 (by omega) cellsIt bytesIt (fun x=>by simp[encIp,encX_length]) (fun m n e hm h=>bdX_mono hm _ h) (rdb_it N)
theorem rdb_sos (N:Nat):RdB H en w held (N+1) 45 (fun l:List Op'=> [.ls 10 (opR l) false]) (fun n l=>(∀x∈l,bdX n x.e)∧l.length≤reachBytes) (fun l=>(l.map fun x=>2*cntX x.e).sum+1):=
 rdb_slice (encA:=encOp) (Q:=fun n (x:Op')=>bdX n x.e) Tryz.underlying45 (by omega) cellsSo bytesSo (fun x=>by simp[encOp,encX_length]) (fun m n e hm h=>bdX_mono hm _ h) (rdb_so N)
theorem rdb_sis (N:Nat):RdB H en w held (N+1) 46 (fun l:List Sp=> [.ls 13 (spR l) false]) (fun n l=>(∀x∈l,bdX n x.e)∧l.length≤reachBytes) (fun l=>(l.map fun x=>2*cntX x.e+2).sum+1):=
 rdb_slice (encA:=encSp) (Q:=fun n (x:Sp)=>bdX n x.e) Tryz.underlying46 (by omega) cellsSI bytesSI (fun x=>by simp[encSp,encX_length]) (fun m n e hm h=>bdX_mono hm _ h) (rdb_si N)
theorem rdb_cp (N:Nat):RdB H en w held (N+4) 49 encCp qCp wtCp:=by
 refine rdb_struct (k:=21) (ts:=[(3,0,1),(4,1,1),(4,2,1),(40,3,1),(41,4,1),(43,5,9),(9,14,1),(44,15,1),(45,16,1),(3,17,1),(3,18,1),(46,19,1),(47,20,1)])
  (fun p:Int × Bool × Bool × List Tp × List Ep × Ep × ByteArray × List Ip × List Op' × Int × Int × List Sp × List ByteArray × Unit=>Cp.mk p.1 p.2.1 p.2.2.1 p.2.2.2.1 p.2.2.2.2.1 p.2.2.2.2.2.1 p.2.2.2.2.2.2.1 p.2.2.2.2.2.2.2.1 p.2.2.2.2.2.2.2.2.1 p.2.2.2.2.2.2.2.2.2.1 p.2.2.2.2.2.2.2.2.2.2.1 p.2.2.2.2.2.2.2.2.2.2.2.1 p.2.2.2.2.2.2.2.2.2.2.2.2.1) Tryz.underlying49 (by kernel_rfl) cellsCl (by decide)
  (rdf_cons (rdb_int _) (rdf_cons (rdb_bool _) (rdf_cons (rdb_bool _) (rdf_cons (rdb_tps N) (rdf_cons (rdb_exs _) (rdf_cons (rdb_expr _) (rdf_cons (rdb_string _) (rdf_cons (rdb_its _) (rdf_cons (rdb_sos _) (rdf_cons (rdb_int _) (rdf_cons (rdb_int _) (rdf_cons (rdb_sis _) (rdf_cons (rdb_labels _) (rdf_nil _)))))))))))))) ?_ ?_ ?_
 ·rintro⟨k,o,d,p,wh,e,s,its,os,a,b,ss,ns,_⟩;unfold encCp;rw[←encXs_map];rfl
 ·rintro n ⟨k,o,d,p,wh,e,s,its,os,a,b,ss,ns,_⟩ ⟨_,_,_,h1,h2,h3,_,h4,h5,_,_,h6,_,_⟩;exact qCp_mono (Nat.le_succ n) ⟨h1.1,h2.1,h3,h4.1,h5.1,h6.1⟩
 ·rintro⟨k,o,d,p,wh,e,s,its,os,a,b,ss,ns,_⟩;simp only[wtCp,mCp,sumA mTp,sum1];omega
theorem rdb_qu (N:Nat):RdB H en w held (N+5) 24 encQ (fun n l=>∀c∈l,qCp n c) (fun l=>(l.map wtCp).sum):=by
 refine rdb_struct (k:=1) (ts:=[(22,0,1)]) (fun p:List Cp × Unit=>p.1) Tryz.underlying24 (by kernel_rfl) cellsQu (by decide)
  (rdf_cons (rdb_slice (encA:=encCp) (Q:=qCp) (m:=wtCp) Tryz.underlying22 (by omega) cellsCl bytesCl (fun x=>by simp[encCp,encX_length]) (fun m n e hm h=>qCp_mono hm h) (rdb_cp N)) (rdf_nil _)) ?_ ?_ ?_
 ·rintro⟨l,_⟩;rfl
 ·rintro n ⟨l,_⟩ ⟨h,_⟩ c hc;exact qCp_mono (Nat.le_succ n) (h.1 c hc)
 ·rintro⟨l,_⟩;simp only;omega
end
theorem len_sum {α:Type}(f:α→Nat)(h:∀x,1≤f x)(l:List α):l.length≤(l.map f).sum:=by
 induction l with
 |nil=>simp
 |cons a l ih=>have:=h a;rw[List.map_cons,List.sum_cons,List.length_cons];omega
theorem cntX_pos (e:Ep):1≤cntX e:=by cases e;rw[cntX];omega
theorem mem_sum {α:Type}(f:α→Nat){l:List α}{x:α}(h:x∈l):f x≤(l.map f).sum:=sum_mem f h
theorem propsB_ok {D B:Nat}{l:List Pp}(hB:B≤1048576)(h:qPs D l)(hs:2*sumP l≤B):∀q∈l,(okX D B q.e∧okE D B q.e)∧depX q.e≤B∧bdX D q.e:=fun q hq=>by
 have h1:=mem_sum (fun q:Pp=>cntX q.e) hq;have h2:=depX_cnt q.e;have h3:bdX D q.e:=h q hq;unfold sumP at hs;exact⟨⟨⟨by omega,h3⟩,⟨by omega,h3⟩,by omega⟩,by omega,h3⟩
theorem nodeB_ok {D B:Nat}{x:Np}(hB:B≤1048576)(h:qNp D x)(hs:mNo x≤B):bdN D B x∧bbN D B x∧brN D B x:=by
 unfold mNo at hs;have hp:=propsB_ok hB h (by omega);exact⟨⟨by omega,by omega,fun q hq=>(hp q hq).2⟩,⟨fun q hq=>(hp q hq).1.2,by omega⟩,⟨fun q hq=>(hp q hq).1.1,by omega,by omega⟩⟩
theorem edgeB_ok {D B:Nat}{x:Gp}(hB:B≤1048576)(h:qGp D x)(hs:mEd x≤B):bdG D B x∧bbG D B x∧brG D B x:=by
 unfold mEd at hs;have hp:=propsB_ok hB h (by omega);exact⟨⟨by omega,by omega,fun q hq=>(hp q hq).2⟩,⟨fun q hq=>(hp q hq).1.2,by omega⟩,⟨fun q hq=>(hp q hq).1.1,by omega,by omega⟩⟩
theorem pathB_ok {D B:Nat}{p:Tp}(hB:B≤1048576)(h:qTp D p)(hs:mTp p≤B):bdT D B p∧bbT D B p∧brT D B p:=by
 unfold mTp at hs;have hn:=fun x hx=>nodeB_ok hB (h.1 x hx) (by have:=mem_sum mNo hx;omega)
 have he:=fun x hx=>edgeB_ok hB (h.2 x hx) (by have:=mem_sum mEd hx;omega)
 have l1:=len_sum mNo (fun x=>by unfold mNo;omega) p.nodes;have l2:=len_sum mEd (fun x=>by unfold mEd;omega) p.edges;exact⟨⟨fun x hx=>(hn x hx).1,fun x hx=>(he x hx).1,by omega,by omega⟩,⟨fun x hx=>(hn x hx).2.1,fun x hx=>(he x hx).2.1,by omega,by omega⟩,⟨fun x hx=>(hn x hx).2.2,fun x hx=>(he x hx).2.2,by omega,by omega⟩⟩
theorem expB_ok {D B:Nat}{e:Ep}(hB:B≤1048576)(h:bdX D e)(hs:2*cntX e≤B):okX D B e∧okE D B e:=by
 have:=depX_cnt e;exact⟨⟨by omega,h⟩,⟨by omega,h⟩,by omega⟩
theorem clauseB_ok {D B:Nat}{c:Cp}(hB:B≤1048576)(h:qCp D c)(hs:wtCp c≤B):BdC D B c∧BbC D B c∧BrC D B c:=by
 unfold wtCp mCp at hs;have hp:=fun p hp=>pathB_ok hB (h.paths p hp) (by have:=mem_sum mTp hp;omega)
 have h1:=fun x hx=>expB_ok hB (h.wher x hx) (by have:=mem_sum (fun x=>2*cntX x) hx;omega)
 have h2:=expB_ok hB h.e (by omega);have h3:=fun x hx=>expB_ok hB (h.items x hx) (by have:=mem_sum (fun x:Ip=>2*cntX x.e) hx;omega)
 have h4:=fun x hx=>expB_ok hB (h.order x hx) (by have:=mem_sum (fun x:Op'=>2*cntX x.e) hx;omega)
 have h5:=fun x hx=>expB_ok hB (h.sets x hx) (by have:=mem_sum (fun x:Sp=>2*cntX x.e+2) hx;omega)
 have l1:=len_sum (fun x=>2*cntX x) (fun x=>by have:=cntX_pos x;omega) c.wher;have l3:=len_sum (fun x:Ip=>2*cntX x.e) (fun x=>by have:=cntX_pos x.e;omega) c.items;have l4:=len_sum (fun x:Op'=>2*cntX x.e) (fun x=>by have:=cntX_pos x.e;omega) c.order;have l5:=len_sum (fun x:Sp=>2*cntX x.e+2) (fun x=>by omega) c.sets;rw[sum1]at hs;exact⟨⟨fun p q=>(hp p q).1,fun e he=>(h1 e he).1,h2.1,fun x hx=>(h3 x hx).1,fun x hx=>(h4 x hx).1,fun x hx=>(h5 x hx).1,by omega,by omega,by omega,by omega,by omega,by omega⟩,
  ⟨fun p q=>(hp p q).2.1,fun e he=>(h1 e he).2,h2.2,fun x hx=>(h3 x hx).2,fun x hx=>(h4 x hx).2,fun x hx=>(h5 x hx).2,by omega,by omega,by omega,by omega,by omega,by omega⟩,
  ⟨fun p q=>(hp p q).2.2,fun e he=>(h1 e he).1,h2.1,fun x hx=>(h3 x hx).1,fun x hx=>(h4 x hx).1,fun x hx=>(h5 x hx).1,by omega,by omega,by omega,by omega,by omega,by omega⟩⟩
theorem queryB_ok {D B:Nat}{q:List Cp}(hB:B≤1048576)(h:∀c∈q,qCp D c)(hs:(q.map wtCp).sum≤B):(∀c∈q,BdC D B c)∧(∀c∈q,BbC D B c)∧(∀c∈q,BrC D B c)∧q.length≤1000000∧(q.map mCp).sum≤1000000000:=by
 have hc:=fun c hc=>clauseB_ok hB (h c hc) (by have:=mem_sum wtCp hc;omega)
 have l1:3*q.length≤(q.map wtCp).sum:=by
  clear hc hs h
  induction q with
  |nil=>simp
  |
   cons c q ih=>
   have:=cntX_pos c.e;rw[List.map_cons,List.sum_cons,List.length_cons];have:3≤wtCp c:=by unfold wtCp mCp;omega
   omega
 have l2:(q.map mCp).sum≤(q.map wtCp).sum:=by
  clear hc hs h l1
  induction q with
  |nil=>simp
  |
   cons c q ih=>
   rw[List.map_cons,List.map_cons,List.sum_cons,List.sum_cons];have:mCp c≤wtCp c:=by unfold wtCp;omega
   omega
 exact⟨fun c h=>(hc c h).1,fun c h=>(hc c h).2.1,fun c h=>(hc c h).2.2,by omega,by omega⟩
end Go.Proofs.YtmocfjnklfpnbaaGreatDoor
