/- The law on the footprints of a query's beginnings: the row, for every input whose reading is of bulk at most 1,048,576. -/
import Derived.Test.YtmocfjnklfpnbaaGreatDoorCards
import Derived.Test.YtmocfjnklfpnbaaGreatDoorTie
import Derived.Test.YtmocfjnklfpnbaaGreatDoorP41
import Derived.Test.YtmocfjnklfpnbaaGreatDoorP47
import Derived.ProofKit
import Derived.OpenShut
import Derived.Carry
import Derived.Deep.DeepHandedRow
import Derived.MakeChecks
import Derived.Shelf.Vars
set_option linter.all false
set_option maxRecDepth 100000
namespace Go.Proofs.YtmocfjnklfpnbaaGreatDoor
open Go Go.Ae Go.ChangeShapes Go.WideShapes Go.ChangeAt Go.RowKit
theorem own :ownKnob Tryz.prog.godebug=none:=by kernel_rfl
theorem laidOut :laidOutB Tryz.prog=true:=by kernel_rfl
theorem gZero :Tryz.prog.globalNamed "graphdb/frac.zero" =some 0:=by kernel_rfl
theorem tZero :(Tryz.prog.globals[0]?).map (·.type)=some 189:=by kernel_rfl
theorem cellsF :Tryz.prog.cellsOf 189=2:=by kernel_rfl
theorem post_below {P:Program}{H:Type}{enc:TypeId × Value→H}{f:Func}{s:ChangeSpec}{apart fresh handsOn again:Bool}{W W':World}{args:Array Value}{v:Value}{ds gs:List (DataW H)}{before pa pv:List MemPlace}
 (hW:DataW.Whole enc P f.params.toList s.vars apart W args.toList ds gs before)
 (hres:∀(b:Nat) (sp:Nat→Bool) (hd:Bool),DataW.TrodAll enc P W' b sp hd f.resultTypes.toList (v.resultList f.resultTypes.size) (s.fn H (ds++gs)).results [])
 (hargs:∀sp:Nat→Bool,(∀p∈before,sp p.block=true)→DataW.TrodAll enc P W' 0 sp true f.params.toList args.toList (s.fn H (ds++gs)).args pa)
 (hvars:∀sp:Nat→Bool,(∀p∈before,sp p.block=true)→DataW.TrodVars enc P W' sp s.vars (s.fn H (ds++gs)).vars pv)
 (hps:before=pa++pv) (hb:Below W.heap.size W W')
 (hok:∀(j:Nat) (t:TypeId) (r:Value),f.resultTypes[j]?=some t→(v.resultList f.resultTypes.size)[j]?=some r→Value.okWide P W' .any 0 t r):
 s.post enc P f apart fresh handsOn again W args v W':=by
 have hlt:=hW.lt;have hold:∀p∈before,(fun b=>decide (b<W.heap.size)) p.block=true:=fun p hp=>by simpa using hlt p hp
 refine⟨ds,gs,before,[],pa,pv,hW,hres _ _ _,hargs _ hold,hvars _ hold,World.keptBut_mono (fun p hp=>⟨hp,?_⟩) (hb.frame (· ∈before)),fun _=>?_⟩
 ·rw[hps,Ya]at hp;exact Or.inr hp
 ·obtain⟨_,_,_,_,_,hz,hn⟩:=hW;refine⟨hok,_,_,([]++pa)++pv,⟨[]++pa,pv,trodAll_append (hargs _ (fun _ _=>rfl)) (hres _ _ _),hvars _ (fun _ _=>rfl),rfl,?_,?_⟩,?_⟩
  ·intro b off hp;have hm:MemPlace.cell b off∈before:=by rw[hps];simpa using hp
   rw[hb.frozen (p:=⟨b,off,none⟩) (hlt _ hm)];exact hz b off hm
  ·intro ha;have:=hn ha;rw[hps]at this;simpa using this
  ·intro p hp _;rw[hps];simpa using hp
theorem var_row {P:Program}{W:World}{name:String}{g:Nat}{cs:Array Value}(hg:P.globalNamed name=some g)(h:W.var? P name=some cs):∃(t:TypeId) (fz:Nat × Nat),W.heap[g]?=some (.cells cs t fz):=by
 unfold World.var? at h;rw[hg]at h;simp only[Option.bind_some]at h;split at h
 ·rename_i cs' t fz e;cases h;exact⟨t,fz,e⟩
 ·cases h
theorem zero_cells {W:World}(h:laidMetH Tryz.prog Rows.footprintPrefixUptoRow.laid W):∃(t:TypeId) (fz:Nat × Nat),W.heap[(0:Nat)]?=some (.cells #[.int .i64 0,.int .i64 1] t fz):=by
 rw[MakeChecks.laidMetH_plain _ _ _ (by kernel_rfl)]at h;obtain⟨ps,⟨g0,t0,cs0,f0,p0,q0,hg0,ht0,hv0,hd0,_,_⟩,_,_⟩:=h;obtain rfl:=Option.some.inj (gZero.symm.trans hg0);obtain rfl:=Option.some.inj (tZero.symm.trans ht0);obtain⟨t,fz,hrow⟩:=var_row hg0 hv0;obtain⟨xs,n,_,hx,hl,hn,hf⟩:=DataW.trod_struct Tryz.underlying189 hd0;rw[cellsF]at hl;have hn2:xs.length=2:=hn;obtain⟨cs⟩:=cs0;simp only at hl hf
 match cs,hl,xs,hn2 with
 |
  [a,b],_,[x,y],_=>
  have h0:=hf 0 _ rfl;have h1:=hf 1 _ rfl;simp only[cellsI,Yf,List.drop_succ_cons,List.take_succ_cons,List.take_zero,List.getElem?_cons_zero,Ye]at h0 h1;obtain⟨k0,e0,d0,_⟩:=DataW.trod_int Tryz.underlying3 h0;obtain⟨k1,e1,d1,_⟩:=DataW.trod_int Tryz.underlying3 h1;obtain rfl:a=_:=(List.cons.inj e0).1;obtain rfl:b=_:=(List.cons.inj e1).1;subst d0 d1;have hk:k0=0∧k1=1:=by
   have:=congrArg Prod.fst hx;simpa[Rows.laid_graphdb_frac_zero,eq_comm]using this
  obtain⟨rfl,rfl⟩:=hk;exact⟨t,fz,hrow⟩
theorem max_cell {W:World}(h:W.ShapedOpen Tryz.prog):∃(cur:Array Value) (t:TypeId) (fz:Nat × Nat) (m:Int),W.heap[(1:Nat)]?=some (.cells cur t fz)∧cur.size=1∧cur[0]?=some (.int .i64 m):=by
 obtain⟨m,hm⟩:=cell_of_shapedOpen_int (g:=1) (zero:= #[.int .i64 0]) (t:=3) h (of_decide_eq_true (by kernel_rfl)) (by kernel_rfl) rfl (by kernel_rfl) (by kernel_rfl) Tryz.underlying3;obtain⟨cs,hh,hs,_⟩:=h.1 1 #[.int .i64 0] 3 (of_decide_eq_true (by kernel_rfl)) (by kernel_rfl);unfold World.cell? at hm;rw[hh]at hm;exact⟨cs,_,_,m,hh,hs,by simpa using hm⟩
theorem gok_of {W:World}(hL:laidMetH Tryz.prog Rows.footprintPrefixUptoRow.laid W)(hS:W.ShapedOpen Tryz.prog):GOK cx.G W none':=by
 intro g row hg;refine⟨fun h=>h,?_⟩;have hg':globF g=some row:=hg;unfold globF at hg';split at hg'
 ·rename_i e;subst e;cases hg';obtain⟨t,fz,h1⟩:=zero_cells hL;refine⟨_,t,fz,h1,rfl,fun k v hv=>?_⟩
  match k,hv with
  |0,hv=>cases hv;exact⟨_,rfl,rfl,rfl,rfl⟩
  |1,hv=>cases hv;exact⟨_,rfl,rfl,rfl,rfl⟩
  |_+2,hv=>simp at hv
 ·split at hg'
  ·rename_i _ e;subst e;cases hg';obtain⟨cur,t,fz,m,h1,hs,h2⟩:=max_cell hS;refine⟨cur,t,fz,h1,hs,fun k v hv=>?_⟩
   match k,hv with
   |0,hv=>cases hv;exact⟨_,h2,rfl,m,rfl⟩
   |_+1,hv=>simp at hv
  ·cases hg'
theorem arg_int {H:Type}{en:TypeId × Value→H}{W:World}{base:Nat}{v:Value}{d:DataW H}{ps:List MemPlace}(hv:Value.okWide Tryz.prog W .any base 3 v)(h:DataW.Trod en Tryz.prog W 0 (fun _=>true) true 3 v d ps):∃k:Int,v= .int .i64 k:=by
 obtain⟨fuel,hf⟩:=h;obtain⟨k,hk,_,_⟩:=DataW.trod_int Tryz.underlying3 hf;refine⟨k,?_⟩;unfold Value.okWide at hv;rw[Tryz.underlying3]at hv;cases v with
 |agg cs=>exact(by simp[Cell.okWide,Cell.ok,Tryz.underlying3]at hv)
 |_=>exact(List.cons.inj hk).1
theorem arg_query {H:Type}{en:TypeId × Value→H}{W:World}{base:Nat}{v:Value}{d:DataW H}{ps:List MemPlace}(hv:Value.okWide Tryz.prog W .any base 24 v)(h:DataW.Trod en Tryz.prog W 0 (fun _=>true) true 24 v d ps)(hw:Fits 24 d):
 ∃(n:Nat) (q:List Cp),(∀c∈q,qCp n c)∧(q.map wtCp).sum≤Rows.uptoBulk d∧Ri W none' v (.ag (encQ q)):=by
 obtain⟨fuel,hf⟩:=h;unfold Value.okWide at hv;rw[Tryz.underlying24]at hv;obtain⟨cs,rfl,_,_⟩:=hv;obtain⟨a,hp,hm,hr⟩:=rdb_qu fuel fuel cs.toList _ (by omega) hf hw;refine⟨fuel,a,hp,hm,.ag _ _ (by simpa using hr.1) (fun k hk=>?_) (fun k y hy=>?_)⟩
 ·have hk':k< (encQ a).length:=by rw[←hr.1];simpa using hk
  have:=(hr.2 k _ (Zb hk')).1;simpa[Yi]using this
 ·have:=(hr.2 k y hy).2;simpa[Yi]using this
theorem weights_two {H:Type}(a b:DataW H):DataW.weightsEach Tryz.prog [24,3] [a,b]=a.weights Tryz.prog 24++(b.weights Tryz.prog 3++[]):=by
 simp only[DataW.weightsEach]
theorem contract (H:Type)(enc:TypeId × Value→H)(W:World)(base:Nat)(args:Array Value)(ds gs:List (DataW H))(before:List MemPlace)
 (hval:∀(j:Nat) t v,Tryz.f4.params[j]?=some t→args[j]?=some v→Value.okWide Tryz.prog W .any base t v)
 (hW:DataW.Whole enc Tryz.prog Tryz.f4.params.toList Rows.footprintPrefixSpec.vars false W args.toList ds gs before)
 (hk:Rows.uptoSmall H (ds++gs)=true)
 (hz:(DataW.weightsEach Tryz.prog (Tryz.f4.params.toList++(Rows.OpenSpec.upto Rows.footprintPrefixSpec).bare.plain.varTypes Tryz.prog) (ds++gs)).all (· ≤reachBytes)=true)
 (hL:laidMetH Tryz.prog Rows.footprintPrefixUptoRow.laid W) (hS:W.ShapedOpen Tryz.prog):
 Calls Tryz.prog 4 args W fun e W'=>∃v,e= .returned v∧Rows.footprintPrefixSpec.post enc Tryz.prog Tryz.f4 false true false false W args v W':=by
 have hW':=hW;have hlt:=hW.lt;obtain⟨p,q,hA0,hV,rfl,hfz,hnd⟩:=hW;have hA:DataW.TrodAll enc Tryz.prog W 0 (fun _=>true) true Tryz.f4.params.toList args.toList ds p:=hA0;rw[Tryz.params4]at hA hval hz;obtain⟨v0,vs0,d0,ds0,p0,q0,hargs,rfl,rfl,h0,r0⟩:=trodAll_cons hA;obtain⟨v1,vs1,d1,ds1,p1,q1,rfl,rfl,rfl,h1,r1⟩:=trodAll_cons r0;obtain⟨rfl,rfl,rfl⟩:=trodAll_nil r1;obtain rfl:args= #[v0,v1]:=by cases args;simp_all
 obtain⟨rfl,rfl⟩:=trodVars_none hV;have hz':∀m∈DataW.weightsEach Tryz.prog [24,3] [d0,d1],m≤reachBytes:=by
  intro m hm;have:=List.all_eq_true.1 hz m hm;simpa using this
 rw[weights_two]at hz';have hk':Rows.uptoBulkAll ([d0,d1]++[])≤1048576:=by simpa only[Rows.uptoSmall,Zz]using hk
 rw[Yk,Rows.uptoBulkAll]at hk';obtain⟨n1,a,ba,ma,ra⟩:=arg_query (hval 0 24 v0 rfl rfl) h0 fun m hm=>hz' m (Zy _ hm)
 obtain⟨k,rfl⟩:=arg_int (hval 1 3 v1 rfl rfl) h1;obtain⟨k1,k2,k3,k4,k5⟩:=queryB_ok (D:=n1+1) (B:=1048576) (by omega) (fun c hc=>qCp_mono (by omega) (ba c hc)) (q:=a) (by omega);obtain⟨_,hcall⟩:=px_pure cx_all (n1+1) 1048576 (by omega) a k k1 k2 k3 k4 k5 W none' #[v0,.int .i64 k] (fun _ h=>h.elim) (gok_of hL hS) rfl (fun k' x hx=>by
  match k',hx with
  |0,hx=>cases hx;exact ra
  |1,hx=>cases hx;exact .sc _ rfl
  |_+2,hx=>simp at hx)
 refine hcall.mono fun e W' ⟨v,he,hst,hr⟩=>?_
 obtain⟨rfl,_⟩:=hr.sc_inv;have hb:Below W.heap.size W W':=⟨hst.os,hst.tape,hst.output,hst.size,fun k hk=>hst.keep k hk fun h=>h⟩;have again:∀(sp:Nat→Bool),(∀p∈p0++(p1++[])++[],sp p.block=true)→DataW.TrodAll enc Tryz.prog W' 0 sp true [24,3] [v0,.int .i64 k] [d0,d1] (p0++(p1++[])):=by
  intro sp hsp;have m0:∀x∈p0,x∈p0++(p1++[])++[]:=fun x hx=>by simp[hx]
  have m1:∀x∈p1,x∈p0++(p1++[])++[]:=fun x hx=>by simp[hx]
  exact trodAll_cons_mk (WideElems.Trod_stays laidOut (by kernel_rfl) (of_decide_eq_true (by kernel_rfl)) h0 (fun x hx=>hb.same (hlt x (m0 x hx))) (fun x hx=>hsp x (m0 x hx)))
   (trodAll_cons_mk (WideElems.Trod_stays laidOut (by kernel_rfl) (of_decide_eq_true (by kernel_rfl)) h1 (fun x hx=>hb.same (hlt x (m1 x hx))) (fun x hx=>hsp x (m1 x hx))) trodAll_mk0)
 exact⟨_,he,post_below (pa:=p0++(p1++[])) (pv:=[]) hW' (fun _ _ _=>trodAll_cons_mk (shut_bool Tryz.underlying4 _) trodAll_mk0) again (fun _ _=>rfl) rfl hb (ok_one (by kernel_rfl) rfl (okWide_bool_mk Tryz.underlying4 _))⟩
end Go.Proofs.YtmocfjnklfpnbaaGreatDoor
