/- The law on sums of notices: the row, for every input. -/
import Derived.Test.YtiefabpageilbaaGreatDoorCards
import Derived.Test.YtiefabpageilbaaGreatDoorTie
import Derived.Test.YtiefabpageilbaaGreatDoorFin49
import Derived.Test.YtiefabpageilbaaGreatDoorP43
import Derived.ProofKit
import Derived.OpenShut
import Derived.Carry
import Derived.Deep.DeepHandedRow
import Derived.MakeChecks
import Derived.Shelf.Vars
import Derived.Lib.LaidTab
set_option linter.all false
set_option maxRecDepth 100000
namespace Go.Proofs.YtiefabpageilbaaGreatDoor
open Go Go.Ae Go.ChangeShapes Go.WideShapes Go.ChangeAt Go.RowKit
theorem own :ownKnob Tryz.prog.godebug=none:=by kernel_rfl
theorem laidOut :laidOutB Tryz.prog=true:=by kernel_rfl
theorem gZero :Tryz.prog.globalNamed "graphdb/frac.zero" =some 0:=by kernel_rfl
theorem tZero :(Tryz.prog.globals[0]?).map (·.type)=some 191:=by kernel_rfl
theorem cellsF :Tryz.prog.cellsOf 191=2:=by kernel_rfl
theorem post_below {P:Program}{H:Type}{enc:TypeId × Value→H}{f:Func}{s:ChangeSpec}{apart fresh handsOn again:Bool}{W W':World}{args:Array Value}{v:Value}{ds gs:List (DataW H)}{before pa pv:List MemPlace}
 (hW:DataW.Whole enc P f.params.toList s.vars apart W args.toList ds gs before)
 (hres:∀(b:Nat) (sp:Nat→Bool) (hd:Bool),DataW.TrodAll enc P W' b sp hd f.resultTypes.toList (v.resultList f.resultTypes.size) (s.fn H (ds++gs)).results [])
 (hargs:∀sp:Nat→Bool,(∀p∈before,sp p.block=true)→DataW.TrodAll enc P W' 0 sp true f.params.toList args.toList (s.fn H (ds++gs)).args pa)
 (hvars:∀sp:Nat→Bool,(∀p∈before,sp p.block=true)→DataW.TrodVars enc P W' sp s.vars (s.fn H (ds++gs)).vars pv)
 (hps:before=pa++pv) (hb:Below W.heap.size W W')
 (hok:∀(j:Nat) (t:TypeId) (r:Value),f.resultTypes[j]?=some t→(v.resultList f.resultTypes.size)[j]?=some r→Value.okWide P W' .any 0 t r):
 s.post enc P f apart fresh handsOn again W args v W':=by
 have hlt:=hW.lt;have hold:∀p∈before,(fun b=>decide (b<W.heap.size)) p.block=true:=fun p hp=>by simpa using hlt p hp
 refine⟨ds,gs,before,[],pa,pv,hW,hres _ _ _,hargs _ hold,hvars _ hold,World.keptBut_mono (fun p hp=>⟨hp,?_⟩) (hb.frame (· ∈before)),fun _=>?_⟩
 ·rw[hps,List.mem_append]at hp;exact Or.inr hp
 ·obtain⟨_,_,_,_,_,hz,hn⟩:=hW;refine⟨hok,_,_,([]++pa)++pv,⟨[]++pa,pv,trodAll_append (hargs _ (fun _ _=>rfl)) (hres _ _ _),hvars _ (fun _ _=>rfl),rfl,?_,?_⟩,?_⟩
  ·intro b off hp;have hm:MemPlace.cell b off∈before:=by rw[hps];simpa using hp
   rw[hb.frozen (p:=⟨b,off,none⟩) (hlt _ hm)];exact hz b off hm
  ·intro ha;have:=hn ha;rw[hps]at this;simpa using this
  ·intro p hp _;rw[hps];simpa using hp
theorem laid_rest {P:Program}{x:String × DataW Unit}{l:List (String × DataW Unit)}{w:World}(h:laidMet P (x::l) w):laidMet P l w:=by
 obtain⟨ps,hv,hnd,hrows⟩:=h;obtain⟨n,d⟩:=x;obtain⟨g,t,cs,fuel,p,q,_,_,_,_,hq,rfl⟩:=hv;exact⟨q,hq,List.Nodup.sublist (List.sublist_append_right _ _) hnd,fun b off hm=>hrows b off (Zk _ hm)⟩
theorem gPow :Tryz.prog.globalNamed "internal/strconv.uint64pow10" =some 1:=by kernel_rfl
theorem tPow :(Tryz.prog.globals[1]?).map (·.type)=some 345:=by kernel_rfl
theorem var_row {P:Program}{W:World}{name:String}{g:Nat}{cs:Array Value}(hg:P.globalNamed name=some g)(h:W.var? P name=some cs):∃(t:TypeId) (fz:Nat × Nat),W.heap[g]?=some (.cells cs t fz):=by
 unfold World.var? at h;rw[hg]at h;simp only[Option.bind_some]at h;split at h
 ·rename_i cs' t fz e;cases h;exact⟨t,fz,e⟩
 ·cases h
theorem pow_cells {W:World}(h:laidMetH Tryz.prog Rows.subscribeSumRow.laid W):∃(t:TypeId) (fz:Nat × Nat),W.heap[(1:Nat)]?=some (.cells pow10C.toArray t fz):=by
 rw[MakeChecks.laidMetH_plain _ _ _ (by kernel_rfl)]at h;have h2:=laid_rest (laid_rest h);have h3:Lib.TabIs Tryz.prog W "internal/strconv.uint64pow10" .u64 Lib.pow10Tab:=Lib.tabIs_of_head (n:=20) gPow tPow Tryz.underlying345 Tryz.underlying184 (by kernel_rfl) (by kernel_rfl) h2
 exact var_row gPow h3
theorem zero_cells {W:World}(h:laidMetH Tryz.prog Rows.subscribeSumRow.laid W):∃(t:TypeId) (fz:Nat × Nat),W.heap[(0:Nat)]?=some (.cells #[.int .i64 0,.int .i64 1] t fz):=by
 rw[MakeChecks.laidMetH_plain _ _ _ (by kernel_rfl)]at h;have h2:=laid_rest (laid_rest (laid_rest (laid_rest h)));obtain⟨ps,⟨g0,t0,cs0,f0,p0,q0,hg0,ht0,hv0,hd0,_,_⟩,_,_⟩:=h2;obtain rfl:=Option.some.inj (gZero.symm.trans hg0);obtain rfl:=Option.some.inj (tZero.symm.trans ht0);obtain⟨t,fz,hrow⟩:=var_row hg0 hv0;obtain⟨xs,n,_,hx,hl,hn,hf⟩:=DataW.trod_struct Tryz.underlying191 hd0;rw[cellsF]at hl;have hn2:xs.length=2:=hn;obtain⟨cs⟩:=cs0;simp only at hl hf
 match cs,hl,xs,hn2 with
 |
  [a,b],_,[x,y],_=>
  have h0:=hf 0 _ rfl;have h1:=hf 1 _ rfl;simp only[cellsI,List.drop_zero,List.drop_succ_cons,List.take_succ_cons,List.take_zero,List.getElem?_cons_zero,Ya]at h0 h1;obtain⟨k0,e0,d0,_⟩:=DataW.trod_int Tryz.underlying3 h0;obtain⟨k1,e1,d1,_⟩:=DataW.trod_int Tryz.underlying3 h1;obtain rfl:a=_:=(List.cons.inj e0).1;obtain rfl:b=_:=(List.cons.inj e1).1;subst d0 d1;have hk:k0=0∧k1=1:=by
   have:=congrArg Prod.fst hx;simpa[Rows.laid_graphdb_frac_zero,eq_comm]using this
  obtain⟨rfl,rfl⟩:=hk;exact⟨t,fz,hrow⟩
theorem max_cell {W:World}(h:W.ShapedOpen Tryz.prog):∃(cur:Array Value) (t:TypeId) (fz:Nat × Nat) (m:Int),W.heap[(4:Nat)]?=some (.cells cur t fz)∧cur.size=1∧cur[0]?=some (.int .i64 m):=by
 obtain⟨m,hm⟩:=cell_of_shapedOpen_int (g:=4) (zero:= #[.int .i64 0]) (t:=3) h (of_decide_eq_true (by kernel_rfl)) (by kernel_rfl) rfl (by kernel_rfl) (by kernel_rfl) Tryz.underlying3;obtain⟨cs,hh,hs,_⟩:=h.1 4 #[.int .i64 0] 3 (of_decide_eq_true (by kernel_rfl)) (by kernel_rfl);unfold World.cell? at hm;rw[hh]at hm;exact⟨cs,_,_,m,hh,hs,by simpa using hm⟩
theorem gok_of {W:World}(hL:laidMetH Tryz.prog Rows.subscribeSumRow.laid W)(hS:W.ShapedOpen Tryz.prog):GOK cx.G W none':=by
 intro g row hg;refine⟨fun h=>h,?_⟩;have hg':globF g=some row:=hg;unfold globF at hg';split at hg'
 ·rename_i e;subst e;cases hg';obtain⟨t,fz,h1⟩:=zero_cells hL;refine⟨_,t,fz,h1,rfl,fun k v hv=>?_⟩
  match k,hv with
  |0,hv=>cases hv;exact⟨_,rfl,rfl,rfl,rfl⟩
  |1,hv=>cases hv;exact⟨_,rfl,rfl,rfl,rfl⟩
  |_+2,hv=>simp at hv
 ·split at hg'
  ·rename_i _ e;subst e;cases hg';obtain⟨t,fz,h1⟩:=pow_cells hL;refine⟨_,t,fz,h1,by simp,fun k v hv=>?_⟩;obtain⟨z,_,rfl⟩:=Yc.1 (show v∈Lib.pow10Tab.map (fun z=>Value.int .u64 z)from Zi hv);exact⟨_,by simpa using hv,rfl,rfl,rfl⟩
  ·split at hg'
   ·rename_i _ _ e;subst e;cases hg';obtain⟨cur,t,fz,m,h1,hs,h2⟩:=max_cell hS;refine⟨cur,t,fz,h1,hs,fun k v hv=>?_⟩
    match k,hv with
    |0,hv=>cases hv;exact⟨_,h2,rfl,m,rfl⟩
    |_+1,hv=>simp at hv
   ·cases hg'
theorem arg_agg {H:Type}{en:TypeId × Value→H}{W:World}{base:Nat}{α:Type}{encA:α→List AV}{P:Nat→α→Prop}{t:TypeId}{fs:Array Field}(ht:Tryz.prog.underlying t=some (.struct fs))(rd:Reads H en W true t encA P){v:Value}{d:DataW H}{ps:List MemPlace}(hv:Value.okWide Tryz.prog W .any base t v)(h:DataW.Trod en Tryz.prog W 0 (fun _=>true) true t v d ps)(hw:Fits t d):∃(n:Nat) (a:α),P n a∧Ri W none' v (.ag (encA a)):=by
 obtain⟨fuel,hf⟩:=h;unfold Value.okWide at hv;rw[ht]at hv;obtain⟨cs,rfl,_,_⟩:=hv;obtain⟨a,hp,hr⟩:=rd fuel cs.toList _ hf hw;refine⟨fuel,a,hp,.ag _ _ (by simpa using hr.1) (fun k hk=>?_) (fun k y hy=>?_)⟩
 ·have hk':k< (encA a).length:=by rw[←hr.1];simpa using hk
  have:=(hr.2 k _ (Zb hk')).1;simpa[Yd]using this
 ·have:=(hr.2 k y hy).2;simpa[Yd]using this
theorem arg_int {H:Type}{en:TypeId × Value→H}{W:World}{base:Nat}{v:Value}{d:DataW H}{ps:List MemPlace}(hv:Value.okWide Tryz.prog W .any base 3 v)(h:DataW.Trod en Tryz.prog W 0 (fun _=>true) true 3 v d ps):∃k:Int,v= .int .i64 k:=by
 obtain⟨fuel,hf⟩:=h;obtain⟨k,hk,_,_⟩:=DataW.trod_int Tryz.underlying3 hf;refine⟨k,?_⟩;unfold Value.okWide at hv;rw[Tryz.underlying3]at hv;cases v with
 |agg cs=>exact(by simp[Cell.okWide,Cell.ok,Tryz.underlying3]at hv)
 |_=>exact(List.cons.inj hk).1
theorem weights_two {H:Type}(a b:DataW H):DataW.weightsEach Tryz.prog [22,3] [a,b]=a.weights Tryz.prog 22++(b.weights Tryz.prog 3++[]):=by
 simp only[DataW.weightsEach]
theorem contract (H:Type)(enc:TypeId × Value→H)(W:World)(base:Nat)(args:Array Value)(ds gs:List (DataW H))(before:List MemPlace)
 (hval:∀(j:Nat) t v,Tryz.f3.params[j]?=some t→args[j]?=some v→Value.okWide Tryz.prog W .any base t v)
 (hW:DataW.Whole enc Tryz.prog Tryz.f3.params.toList Rows.subscribeSumSpec.vars false W args.toList ds gs before)
 (hz:(DataW.weightsEach Tryz.prog (Tryz.f3.params.toList++(OpenSpec.ofChange Rows.subscribeSumSpec).bare.plain.varTypes Tryz.prog) (ds++gs)).all (· ≤reachBytes)=true)
 (hL:laidMetH Tryz.prog Rows.subscribeSumRow.laid W) (hS:W.ShapedOpen Tryz.prog):
 Calls Tryz.prog 3 args W fun e W'=>∃v,e= .returned v∧Rows.subscribeSumSpec.post enc Tryz.prog Tryz.f3 false true false false W args v W':=by
 have hW':=hW;have hlt:=hW.lt;obtain⟨p,q,hA0,hV,rfl,hfz,hnd⟩:=hW;have hA:DataW.TrodAll enc Tryz.prog W 0 (fun _=>true) true Tryz.f3.params.toList args.toList ds p:=hA0;rw[Tryz.params3]at hA hval hz;obtain⟨v0,vs0,d0,ds0,p0,q0,hargs,rfl,rfl,h0,r0⟩:=trodAll_cons hA;obtain⟨v1,vs1,d1,ds1,p1,q1,rfl,rfl,rfl,h1,r1⟩:=trodAll_cons r0;obtain⟨rfl,rfl,rfl⟩:=trodAll_nil r1;obtain rfl:args= #[v0,v1]:=by cases args;simp_all
 obtain⟨rfl,rfl⟩:=trodVars_none hV;have hz':∀m∈DataW.weightsEach Tryz.prog [22,3] [d0,d1],m≤reachBytes:=by
  intro m hm;have:=List.all_eq_true.1 hz m hm;simpa using this
 rw[weights_two]at hz';obtain⟨n1,a,ba,ra⟩:=arg_list Tryz.underlying22 reads_notices (hval 0 22 v0 rfl rfl) h0 fun m hm=>hz' m (Zw _ hm)
 obtain⟨k,rfl⟩:=arg_int (hval 1 3 v1 rfl rfl) h1;obtain⟨_,hcall⟩:=ss_pure n1 a k false (reach_bd ba.2) (fun p hp=>⟨fun q hq=>⟨(ba.1 p hp).1 q hq|>.1.1,((ba.1 p hp).1 q hq).1.2,((ba.1 p hp).1 q hq).2⟩,reach_bd (ba.1 p hp).2⟩) W none' #[v0,.int .i64 k] (fun _ h=>h.elim) (gok_of hL hS) rfl (fun k' x hx=>by
  match k',hx with
  |0,hx=>cases hx;exact ra
  |1,hx=>cases hx;exact .sc _ rfl
  |_+2,hx=>simp at hx)
 refine hcall.mono fun e W' ⟨v,he,hst,hr⟩=>?_
 obtain⟨rfl,_⟩:=hr.sc_inv;have hb:Below W.heap.size W W':=⟨hst.os,hst.tape,hst.output,hst.size,fun k hk=>hst.keep k hk fun h=>h⟩;have again:∀(sp:Nat→Bool),(∀p∈p0++(p1++[])++[],sp p.block=true)→DataW.TrodAll enc Tryz.prog W' 0 sp true [22,3] [v0,.int .i64 k] [d0,d1] (p0++(p1++[])):=by
  intro sp hsp;have m0:∀x∈p0,x∈p0++(p1++[])++[]:=fun x hx=>by simp[hx]
  have m1:∀x∈p1,x∈p0++(p1++[])++[]:=fun x hx=>by simp[hx]
  exact trodAll_cons_mk (WideElems.Trod_stays laidOut (by kernel_rfl) (of_decide_eq_true (by kernel_rfl)) h0 (fun x hx=>hb.same (hlt x (m0 x hx))) (fun x hx=>hsp x (m0 x hx)))
   (trodAll_cons_mk (WideElems.Trod_stays laidOut (by kernel_rfl) (of_decide_eq_true (by kernel_rfl)) h1 (fun x hx=>hb.same (hlt x (m1 x hx))) (fun x hx=>hsp x (m1 x hx))) trodAll_mk0)
 exact⟨_,he,post_below (pa:=p0++(p1++[])) (pv:=[]) hW' (fun _ _ _=>trodAll_cons_mk (shut_bool Tryz.underlying4 _) trodAll_mk0) again (fun _ _=>rfl) rfl hb (ok_one (by kernel_rfl) rfl (okWide_bool_mk Tryz.underlying4 _))⟩
end Go.Proofs.YtiefabpageilbaaGreatDoor
