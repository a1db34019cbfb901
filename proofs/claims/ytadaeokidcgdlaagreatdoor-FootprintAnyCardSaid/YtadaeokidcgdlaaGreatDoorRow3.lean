/- The law on whether changes touch predicates: the row and its card, for every input, without a condition. -/
import Derived.Test.YtadaeokidcgdlaaGreatDoorCards
import Derived.Test.YtadaeokidcgdlaaGreatDoorTie
import Derived.Test.YtadaeokidcgdlaaGreatDoorFin3
import Derived.Test.YtadaeokidcgdlaaGreatDoorP151
import Derived.ProofKit
import Derived.OpenShut
import Derived.Carry
import Derived.Deep.DeepHandedRow
import Derived.MakeChecks
import Derived.Shelf.Vars
set_option linter.unusedSimpArgs false
set_option maxRecDepth 100000
namespace Go.Proofs.YtadaeokidcgdlaaGreatDoor
open Go Go.Ae Go.ChangeShapes Go.WideShapes Go.ChangeAt Go.RowKit
theorem own :ownKnob Tryz.prog.godebug=none:=by kernel_rfl
theorem laidOut :laidOutB Tryz.prog=true:=by kernel_rfl
theorem gZero :Tryz.prog.globalNamed "graphdb/frac.zero" =some 0:=by kernel_rfl
theorem tZero :(Tryz.prog.globals[0]?).map (·.type)=some 165:=by kernel_rfl
theorem cellsF :Tryz.prog.cellsOf 165=2:=by kernel_rfl
theorem post_below {P:Program}{H:Type}{enc:TypeId × Value→H}{f:Func}{s:ChangeSpec}{apart fresh handsOn again:Bool}{W W':World}{args:Array Value}{v:Value}{ds gs:List (DataW H)}{before pa pv:List MemPlace}
 (hW:DataW.Whole enc P f.params.toList s.vars apart W args.toList ds gs before)
 (hres:∀(b:Nat) (sp:Nat→Bool) (hd:Bool),DataW.TrodAll enc P W' b sp hd f.resultTypes.toList (v.resultList f.resultTypes.size) (s.fn H (ds++gs)).results [])
 (hargs:∀sp:Nat→Bool,(∀p∈before,sp p.block=true)→DataW.TrodAll enc P W' 0 sp true f.params.toList args.toList (s.fn H (ds++gs)).args pa)
 (hvars:∀sp:Nat→Bool,(∀p∈before,sp p.block=true)→DataW.TrodVars enc P W' sp s.vars (s.fn H (ds++gs)).vars pv)
 (hps:before=pa++pv) (hb:Below W.heap.size W W')
 (hok:∀(j:Nat) (t:TypeId) (r:Value),f.resultTypes[j]?=some t→(v.resultList f.resultTypes.size)[j]?=some r→Value.okWide P W' .any 0 t r):
 s.post enc P f apart fresh handsOn again W args v W':=by
 have hlt:=hW.lt;have hold:∀p∈before,(fun b=>decide (b<W.heap.size)) p.block=true:=fun p hp=>by simpa using hlt p hp
 refine⟨ds,gs,before,[],pa,pv,hW,hres _ _ _,hargs _ hold,hvars _ hold,World.keptBut_mono (fun p hp=>⟨hp,?_⟩) (hb.frame (· ∈before)),fun _=>?_⟩
 ·rw[hps,Ya]at hp;exact Or.inr hp
 ·obtain⟨_,_,_,_,_,hz,hn⟩:=hW;refine⟨hok,_,_,([]++pa)++pv,⟨[]++pa,pv,trodAll_append (hargs _ (fun _ _=>rfl)) (hres _ _ _),hvars _ (fun _ _=>rfl),rfl,?_,?_⟩,?_⟩
  ·intro b off hp;have hm:MemPlace.cell b off∈before:=by rw[hps];simpa using hp
   rw[hb.frozen (p:=⟨b,off,none⟩) (hlt _ hm)];exact hz b off hm
  ·intro ha;have:=hn ha;rw[hps]at this;simpa using this
  ·intro p hp _;rw[hps];simpa using hp
theorem zero_cells {W:World}(h:laidMetH Tryz.prog Rows.footprintAnyRow.laid W):∃(cur:Array Value) (t:TypeId) (fz:Nat × Nat),W.heap[(0:Nat)]?=some (.cells cur t fz)∧cur[0]?=some (.int .i64 0)∧cur[1]?=some (.int .i64 1):=by
 rw[MakeChecks.laidMetH_plain _ _ _ (by kernel_rfl)]at h;obtain⟨ps,⟨g0,t0,cs0,f0,p0,q0,hg0,ht0,hv0,hd0,_,_⟩,_,_⟩:=h;obtain rfl:=Option.some.inj (gZero.symm.trans hg0);obtain rfl:=Option.some.inj (tZero.symm.trans ht0);have c0:=World.var?_cell hg0 hv0 0;have c1:=World.var?_cell hg0 hv0 1;obtain⟨xs,n,_,hx,hl,hn,hf⟩:=DataW.trod_struct Tryz.underlying165 hd0;rw[cellsF]at hl;have hn2:xs.length=2:=hn;obtain⟨cs⟩:=cs0;simp only at hl hf
 match cs,hl,xs,hn2 with
 |
  [a,b],_,[x,y],_=>
  have h0:=hf 0 _ rfl;have h1:=hf 1 _ rfl;simp only[cellsI,Yg,List.drop_succ_cons,Yf,List.take_zero,Ye,Yd]at h0 h1;obtain⟨k0,e0,d0,_⟩:=DataW.trod_int Tryz.underlying3 h0;obtain⟨k1,e1,d1,_⟩:=DataW.trod_int Tryz.underlying3 h1;obtain rfl:a=_:=(List.cons.inj e0).1;obtain rfl:b=_:=(List.cons.inj e1).1;subst d0 d1;have hk:k0=0∧k1=1:=by
   have:=congrArg Prod.fst hx;simpa[Rows.laid_graphdb_frac_zero,eq_comm]using this
  obtain⟨rfl,rfl⟩:=hk;unfold World.cell? at c0 c1;cases hb:W.heap[(0:Nat)]? with
  |none=>rw[hb]at c0;simp at c0
  |
   some ob=>
   rw[hb]at c0 c1;cases ob<;>simp at c0 c1;rename_i cur t fz;exact⟨cur,t,fz,rfl,by simpa using c0,by simpa using c1⟩
theorem max_cell {W:World}(h:W.ShapedOpen Tryz.prog):∃(cur:Array Value) (t:TypeId) (fz:Nat × Nat) (m:Int),W.heap[(1:Nat)]?=some (.cells cur t fz)∧cur[0]?=some (.int .i64 m):=by
 obtain⟨m,hm⟩:=cell_of_shapedOpen_int (g:=1) (zero:= #[.int .i64 0]) (t:=3) h (of_decide_eq_true (by kernel_rfl)) (by kernel_rfl) rfl (by kernel_rfl) (by kernel_rfl) Tryz.underlying3;unfold World.cell? at hm;cases hb:W.heap[(1:Nat)]? with
 |none=>simp[hb]at hm
 |
  some ob=>
  cases ob<;>simp[hb]at hm;rename_i cur t fz;exact⟨cur,t,fz,m,rfl,hm⟩
theorem gok_of {W:World}(hL:laidMetH Tryz.prog Rows.footprintAnyRow.laid W)(hS:W.ShapedOpen Tryz.prog):GOK cx.G W none':=by
 intro g row hg;refine⟨fun h=>h,?_⟩;have hg':globF g=some row:=hg;unfold globF at hg';split at hg'
 ·rename_i e;subst e;cases hg';obtain⟨cur,t,fz,h1,h2,h3⟩:=zero_cells hL;refine⟨cur,t,fz,h1,fun k v hv=>?_⟩
  match k,hv with
  |0,hv=>cases hv;exact⟨_,h2,rfl,rfl,rfl⟩
  |1,hv=>cases hv;exact⟨_,h3,rfl,rfl,rfl⟩
  |_+2,hv=>simp at hv
 ·split at hg'
  ·rename_i _ e;subst e;cases hg';obtain⟨cur,t,fz,m,h1,h2⟩:=max_cell hS;refine⟨cur,t,fz,h1,fun k v hv=>?_⟩
   match k,hv with
   |0,hv=>cases hv;exact⟨_,h2,rfl,m,rfl⟩
   |_+1,hv=>simp at hv
  ·cases hg'
theorem arg_agg {H:Type}{en:TypeId × Value→H}{W:World}{base:Nat}{α:Type}{encA:α→List AV}{P:Nat→α→Prop}{t:TypeId}{fs:Array Field}(ht:Tryz.prog.underlying t=some (.struct fs))(rd:Reads H en W true t encA P){v:Value}{d:DataW H}{ps:List MemPlace}(hv:Value.okWide Tryz.prog W .any base t v)(h:DataW.Trod en Tryz.prog W 0 (fun _=>true) true t v d ps)(hw:Fits t d):∃(n:Nat) (a:α),P n a∧Ri W none' v (.ag (encA a)):=by
 obtain⟨fuel,hf⟩:=h;unfold Value.okWide at hv;rw[ht]at hv;obtain⟨cs,rfl,_,_⟩:=hv;obtain⟨a,hp,hr⟩:=rd fuel cs.toList _ hf hw;refine⟨fuel,a,hp,.ag _ _ (by simpa using hr.1) (fun k hk=>?_) (fun k y hy=>?_)⟩
 ·have hk':k< (encA a).length:=by rw[←hr.1];simpa using hk
  have:=(hr.2 k _ (Zb hk')).1;simpa[Yj]using this
 ·have:=(hr.2 k y hy).2;simpa[Yj]using this
theorem GrB.mono {D E:Nat}{g:Gr}(h:GrB D g)(hd:D≤E):GrB E g:=⟨h.nl,h.el,fun n hn=>⟨(h.ns n hn).1,(h.ns n hn).2.1,fun x hx=>⟨Ym ((h.ns n hn).2.2 x hx).1 hd,((h.ns n hn).2.2 x hx).2⟩⟩,fun e he=>⟨(h.es e he).1,fun x hx=>⟨Ym ((h.es e he).2 x hx).1 hd,((h.es e he).2 x hx).2⟩⟩⟩
theorem weights_three {H:Type}(a b c:DataW H):DataW.weightsEach Tryz.prog [35,27,45] [a,b,c]=a.weights Tryz.prog 35++(b.weights Tryz.prog 27++(c.weights Tryz.prog 45++[])):=by
 simp only[DataW.weightsEach]
theorem contract (H:Type)(enc:TypeId × Value→H)(W:World)(base:Nat)(args:Array Value)(ds gs:List (DataW H))(before:List MemPlace)
 (hval:∀(j:Nat) t v,Tryz.f5.params[j]?=some t→args[j]?=some v→Value.okWide Tryz.prog W .any base t v)
 (hW:DataW.Whole enc Tryz.prog Tryz.f5.params.toList Rows.footprintAnySpec.vars false W args.toList ds gs before)
 (hz:(DataW.weightsEach Tryz.prog (Tryz.f5.params.toList++(OpenSpec.ofChange Rows.footprintAnySpec).bare.plain.varTypes Tryz.prog) (ds++gs)).all (· ≤reachBytes)=true)
 (hL:laidMetH Tryz.prog Rows.footprintAnyRow.laid W) (hS:W.ShapedOpen Tryz.prog):
 Calls Tryz.prog 5 args W fun e W'=>∃v,e= .returned v∧Rows.footprintAnySpec.post enc Tryz.prog Tryz.f5 false true false false W args v W':=by
 have hW':=hW;have hlt:=hW.lt;obtain⟨p,q,hA0,hV,rfl,hfz,hnd⟩:=hW;have hA:DataW.TrodAll enc Tryz.prog W 0 (fun _=>true) true Tryz.f5.params.toList args.toList ds p:=hA0;rw[Tryz.params5]at hA hval hz;obtain⟨v0,vs0,d0,ds0,p0,q0,hargs,rfl,rfl,h0,r0⟩:=trodAll_cons hA;obtain⟨v1,vs1,d1,ds1,p1,q1,rfl,rfl,rfl,h1,r1⟩:=trodAll_cons r0;obtain⟨v2,vs2,d2,ds2,p2,q2,rfl,rfl,rfl,h2,r2⟩:=trodAll_cons r1;obtain⟨rfl,rfl,rfl⟩:=trodAll_nil r2;obtain rfl:args= #[v0,v1,v2]:=by cases args;simp_all
 obtain⟨rfl,rfl⟩:=trodVars_none hV;have hz':∀m∈DataW.weightsEach Tryz.prog [35,27,45] [d0,d1,d2],m≤reachBytes:=by
  intro m hm;have:=List.all_eq_true.1 hz m hm;simpa using this
 rw[weights_three]at hz';obtain⟨n1,a,ba,ra⟩:=arg_agg Tryz.underlying35 reads_graph (hval 0 35 v0 rfl rfl) h0 fun m hm=>hz' m (Zy _ hm)
 obtain⟨n2,b,bb,rb⟩:=arg_list Tryz.underlying27 reads_preds (hval 1 27 v1 rfl rfl) h1 fun m hm=>hz' m (Zk _ (Zy _ hm))
 obtain⟨n3,c,bc,rc⟩:=arg_list Tryz.underlying45 reads_changes (hval 2 45 v2 rfl rfl) h2 fun m hm=>hz' m (Zk _ (Zk _ (Zy _ hm)))
 obtain⟨_,hcall⟩:=fa_pure (n1+n2+n3) a b c false false (ba.1.mono (by omega)) ba.2 (fun p hp=>⟨Ym (bb.1 p hp).1 (by omega),(bb.1 p hp).2⟩) (fun p hp=>⟨Ym (bc.1 p hp).1 (by omega),(bc.1 p hp).2⟩) W none' #[v0,v1,v2] (fun _ h=>h.elim) (gok_of hL hS) rfl (fun k x hx=>by
  match k,hx with
  |0,hx=>cases hx;exact ra
  |1,hx=>cases hx;exact rb
  |2,hx=>cases hx;exact rc
  |_+3,hx=>simp at hx)
 refine hcall.mono fun e W' ⟨v,he,hst,hr⟩=>?_
 obtain⟨rfl,_⟩:=hr.sc_inv;have hb:Below W.heap.size W W':=⟨hst.os,hst.tape,hst.output,hst.size,fun k hk=>hst.keep k hk fun h=>h⟩;have again:∀(sp:Nat→Bool),(∀p∈p0++(p1++(p2++[]))++[],sp p.block=true)→DataW.TrodAll enc Tryz.prog W' 0 sp true [35,27,45] [v0,v1,v2] [d0,d1,d2] (p0++(p1++(p2++[]))):=by
  intro sp hsp;have m0:∀x∈p0,x∈p0++(p1++(p2++[]))++[]:=fun x hx=>by simp[hx]
  have m1:∀x∈p1,x∈p0++(p1++(p2++[]))++[]:=fun x hx=>by simp[hx]
  have m2:∀x∈p2,x∈p0++(p1++(p2++[]))++[]:=fun x hx=>by simp[hx]
  exact trodAll_cons_mk (WideElems.Trod_stays laidOut (by kernel_rfl) (of_decide_eq_true (by kernel_rfl)) h0 (fun x hx=>hb.same (hlt x (m0 x hx))) (fun x hx=>hsp x (m0 x hx)))
   (trodAll_cons_mk (WideElems.Trod_stays laidOut (by kernel_rfl) (of_decide_eq_true (by kernel_rfl)) h1 (fun x hx=>hb.same (hlt x (m1 x hx))) (fun x hx=>hsp x (m1 x hx)))
    (trodAll_cons_mk (WideElems.Trod_stays laidOut (by kernel_rfl) (of_decide_eq_true (by kernel_rfl)) h2 (fun x hx=>hb.same (hlt x (m2 x hx))) (fun x hx=>hsp x (m2 x hx))) trodAll_mk0))
 exact⟨_,he,post_below (pa:=p0++(p1++(p2++[]))) (pv:=[]) hW' (fun _ _ _=>trodAll_cons_mk (shut_bool Tryz.underlying4 _) trodAll_mk0) again (fun _ _=>rfl) rfl hb (ok_one (by kernel_rfl) rfl (okWide_bool_mk Tryz.underlying4 _))⟩
end Go.Proofs.YtadaeokidcgdlaaGreatDoor
