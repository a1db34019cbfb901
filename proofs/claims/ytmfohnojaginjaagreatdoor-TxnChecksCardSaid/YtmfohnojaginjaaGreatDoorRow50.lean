/- Part of the proof. -/
import Derived.Test.YtmfohnojaginjaaGreatDoorCards
import Derived.Test.YtmfohnojaginjaaGreatDoorP40
import Derived.Test.YtmfohnojaginjaaGreatDoorP42
import Derived.ProofKit
import Derived.OpenShut
import Derived.Carry
import Derived.Deep.DeepHandedRow
import Derived.MakeChecks
import Derived.Shelf.Vars
import Derived.Lib.LaidTab
set_option linter.all false
set_option maxRecDepth 100000
namespace Go.Proofs.YtmfohnojaginjaaGreatDoor
open Go Go.Ae Go.ChangeShapes Go.WideShapes Go.ChangeAt Go.RowKit Go.Proofs.Tryz
theorem own :ownKnob prog.godebug=none:=by kernel_rfl
theorem laidOut :laidOutB prog=true:=by kernel_rfl
theorem agF :prog.globalNamed "graphdb/frac.zero" =some 0:=by kernel_rfl
theorem agG :(prog.globals[0]?).map (·.type)=some 250:=by kernel_rfl
theorem aeA :prog.cellsOf 250=2:=by kernel_rfl
theorem Mq{P:Program}{H:Type}{enc:TypeId × Value->H}{f:Func}{s:ChangeSpec}{apart fresh handsOn again:Bool}{W W':World}{args:Array Value}{v:Value}{ds gs:List (DataW H)}{before pa pv:List MemPlace}(hW:DataW.Whole enc P f.params.toList s.vars apart W args.toList ds gs before)(vw:∀(b:Nat)(sp:Nat->Bool)(hd:Bool),DataW.TrodAll enc P W' b sp hd f.resultTypes.toList (v.resultList f.resultTypes.size) (s.fn H (ds++gs)).results [])(jt:∀sp:Nat->Bool,(∀p∈before,sp p.block=true)->DataW.TrodAll enc P W' 0 sp true f.params.toList args.toList (s.fn H (ds++gs)).args pa)(ace:∀sp:Nat->Bool,(∀p∈before,sp p.block=true)->DataW.TrodVars enc P W' sp s.vars (s.fn H (ds++gs)).vars pv)(hps:before=pa++pv)(hb:Below W.heap.size W W')(gI:∀(j:Nat)(t:TypeId)(r:Value),f.resultTypes[j]?=some t->(v.resultList f.resultTypes.size)[j]?=some r->Value.okWide P W' .any 0 t r):
 s.post enc P f apart fresh handsOn again W args v W':=by
 have dm:=hW.lt;have hold:∀p∈before,(λb=>decide (b<W.heap.size)) p.block=true:=λp hp=>by simpa using dm p hp
 refine⟨ds,gs,before,[],pa,pv,hW,vw _ _ _,jt _ hold,ace _ hold,World.keptBut_mono (λp hp=>⟨hp,?_⟩) (hb.frame (· ∈before)),λ_=>?_⟩
 .rw[hps,Zz]at hp;exact Or.inr hp
 .obtain⟨_,_,_,_,_,hz,hn⟩:=hW;refine⟨gI,_,_,([]++pa)++pv,⟨[]++pa,pv,trodAll_append (jt _ (λ_ _=>rfl)) (vw _ _ _),ace _ (λ_ _=>rfl),rfl,?_,?_⟩,?_⟩
  .intro b off hp;have hm:MemPlace.cell b off∈before:=by rw[hps];simpa using hp
   rw[hb.frozen (p:=⟨b,off,none⟩) (dm _ hm)];exact hz b off hm
  .intro ha;have:=hn ha;rw[hps]at this;simpa using this
  .intro p hp _;rw[hps];simpa using hp
theorem RI{P:Program}{x:String × DataW Unit}{l:List (String × DataW Unit)}{w:World}(h:laidMet P (x::l) w):laidMet P l w:=by
 obtain⟨ps,hv,RW,agH⟩:=h;obtain⟨n,d⟩:=x;obtain⟨g,t,cs,fuel,p,q,_,_,_,_,hq,rfl⟩:=hv;exact⟨q,hq,List.Nodup.sublist (List.sublist_append_right _ _) RW,λb off hm=>agH b off (Zk _ hm)⟩
theorem agI :prog.globalNamed "internal/strconv.uint64pow10" =some 2:=by kernel_rfl
theorem aj1 :(prog.globals[2]?).map (·.type)=some 604:=by kernel_rfl
theorem Oa{P:Program}{W:World}{name:String}{g:Nat}{cs:Array Value}(hg:P.globalNamed name=some g)(h:W.var? P name=some cs):∃(t:TypeId)(fz:Nat × Nat),W.heap[g]?=some (.cells cs t fz):=by
 unfold World.var? at h;rw[hg]at h;simp only[Option.bind_some]at h;split at h
 .rename_i cs' t fz e;cases h;exact⟨t,fz,e⟩
 .cases h
theorem RJ{W:World}(h:laidMetH prog Rows.txnChecksRow.laid W):∃(t:TypeId)(fz:Nat × Nat),W.heap[(2:Nat)]?=some (.cells pow10C.toArray t fz):=by
 rw[MakeChecks.laidMetH_plain _ _ _ (by kernel_rfl)]at h;have h2:=RI h;have h3:Lib.TabIs prog W "internal/strconv.uint64pow10" .u64 Lib.pow10Tab:=Lib.tabIs_of_head (n:=20) agI aj1 underlying604 underlying296 (by kernel_rfl) (by kernel_rfl) h2
 exact Oa agI h3
theorem Mr{W:World}(h:laidMetH prog Rows.txnChecksRow.laid W):∃(t:TypeId)(fz:Nat × Nat),W.heap[(0:Nat)]?=some (.cells #[.int .i64 0,.int .i64 1] t fz):=by
 rw[MakeChecks.laidMetH_plain _ _ _ (by kernel_rfl)]at h;obtain⟨ps,⟨g0,t0,XY,ar,p0,q0,hg0,ht0,uG,hd0,_,_⟩,_,_⟩:=h;obtain rfl:=Option.some.inj (agF.symm.trans hg0);obtain rfl:=Option.some.inj (agG.symm.trans ht0);obtain⟨t,fz,fG⟩:=Oa hg0 uG;obtain⟨xs,n,_,hx,hl,hn,hf⟩:=DataW.trod_struct underlying250 hd0;rw[aeA]at hl;have tM:xs.length=2:=hn;obtain⟨cs⟩:=XY;simp only at hl hf
 match cs,hl,xs,tM with
 |
  [a,b],_,[x,y],_=>
  have h0:=hf 0 _ rfl;have h1:=hf 1 _ rfl;simp only[nd,Yi,Yf,Yg,Yh,Ye,Yd]at h0 h1;obtain⟨k0,e0,d0,_⟩:=DataW.trod_int underlying3 h0;obtain⟨k1,e1,d1,_⟩:=DataW.trod_int underlying3 h1;obtain rfl:a=_:=(List.cons.inj e0).1;obtain rfl:b=_:=(List.cons.inj e1).1;subst d0 d1;have hk:k0=0/\k1=1:=by
   have:=congrArg Prod.fst hx;simpa[Rows.laid_graphdb_frac_zero,eq_comm]using this
  obtain⟨rfl,rfl⟩:=hk;exact⟨t,fz,fG⟩
theorem WT{W:World}(h:W.ShapedOpen prog):∃(cF:Array Value)(t:TypeId)(fz:Nat × Nat)(m:Int),W.heap[(1:Nat)]?=some (.cells cF t fz)/\cF.size=1/\cF[0]?=some (.int .i64 m):=by
 obtain⟨m,hm⟩:=cell_of_shapedOpen_int (g:=1) (zero:= #[.int .i64 0]) (t:=3) h (of_decide_eq_true (by kernel_rfl)) (by kernel_rfl) rfl (by kernel_rfl) (by kernel_rfl) underlying3;obtain⟨cs,hh,hs,_⟩:=h.1 1 #[.int .i64 0] 3 (of_decide_eq_true (by kernel_rfl)) (by kernel_rfl);unfold World.cell? at hm;rw[hh]at hm;exact⟨cs,_,_,m,hh,hs,by simpa using hm⟩
theorem aeB{W:World}(hL:laidMetH prog Rows.txnChecksRow.laid W)(hS:W.ShapedOpen prog):GOK cx.G W dR:=by
 intro g row hg;refine⟨λh=>h,?_⟩;have x6:WM g=some row:=hg;unfold WM at x6;split at x6
 .rename_i e;subst e;cases x6;obtain⟨t,fz,h1⟩:=Mr hL;refine⟨_,t,fz,h1,rfl,λk v hv=>?_⟩
  match k,hv with
  |0,hv=>cases hv;exact⟨_,rfl,rfl,rfl,rfl⟩
  |1,hv=>cases hv;exact⟨_,rfl,rfl,rfl,rfl⟩
  |_+2,hv=>simp at hv
 .split at x6
  .rename_i _ e;subst e;cases x6;obtain⟨t,fz,h1⟩:=RJ hL;refine⟨_,t,fz,h1,by simp,λk v hv=>?_⟩;obtain⟨z,_,rfl⟩:=Yk.1 (show v∈Lib.pow10Tab.map (λz=>Value.int .u64 z)from Zi hv);exact⟨_,by simpa using hv,rfl,rfl,rfl⟩
  .split at x6
   .rename_i _ _ e;subst e;cases x6;obtain⟨cF,t,fz,m,h1,hs,h2⟩:=WT hS;refine⟨cF,t,fz,h1,hs,λk v hv=>?_⟩
    match k,hv with
    |0,hv=>cases hv;exact⟨_,h2,rfl,m,rfl⟩
    |_+1,hv=>simp at hv
   .cases x6
theorem aby{H:Type}{en:TypeId × Value->H}{W:World}{base:Nat}{α:Type}{encA:α->LA}{P:Nat->α->Prop}{t:TypeId}{fs:Array Field}(ht:prog.underlying t=some (.struct fs))(rd:Reads H en W true t encA P){v:Value}{d:DataW H}{ps:List MemPlace}(hv:Value.okWide prog W .any base t v)(h:DataW.Trod en prog W 0 (λ_=>true) true t v d ps)(hw:Fits t d):∃(n:Nat)(a:α),P n a/\Ri W dR v (.ag (encA a)):=by
 obtain⟨fuel,hf⟩:=h;unfold Value.okWide at hv;rw[ht]at hv;obtain⟨cs,rfl,_,_⟩:=hv;obtain⟨a,hp,hr⟩:=rd fuel cs.toList _ hf hw;refine⟨fuel,a,hp,.ag _ _ (by simpa using hr.1) (λk hk=>?_) (λk y hy=>?_)⟩
 .have lk:k< (encA a).length:=by rw[<-hr.1];simpa using hk
  have:=(hr.2 k _ (Zb lk)).1;simpa[Yl]using this
 .have:=(hr.2 k y hy).2;simpa[Yl]using this
theorem abz{H:Type}{en:TypeId × Value->H}{W:World}{base:Nat}{v:Value}{d:DataW H}{ps:List MemPlace}(hv:Value.okWide prog W .any base 3 v)(h:DataW.Trod en prog W 0 (λ_=>true) true 3 v d ps):∃k:Int,v= .int .i64 k:=by
 obtain⟨fuel,hf⟩:=h;obtain⟨k,hk,_,_⟩:=DataW.trod_int underlying3 hf;refine⟨k,?_⟩;unfold Value.okWide at hv;rw[underlying3]at hv;cases v with
 |agg cs=>exact(by simp[Cell.okWide,Cell.ok,underlying3]at hv)
 |_=>exact(List.cons.inj hk).1
theorem JW{H:Type}(a b:DataW H):DataW.weightsEach prog [32,3] [a,b]=a.weights prog 32++(b.weights prog 3++[]):=by
 simp only[DataW.weightsEach]
theorem contract(H:Type)(enc:TypeId × Value->H)(W:World)(base:Nat)(args:Array Value)(ds gs:List (DataW H))(before:List MemPlace)(hval:∀(j:Nat)t v,f3.params[j]?=some t->args[j]?=some v->Value.okWide prog W .any base t v)(hW:DataW.Whole enc prog f3.params.toList Rows.txnChecksSpec.vars false W args.toList ds gs before)(hz:(DataW.weightsEach prog (f3.params.toList++(OpenSpec.ofChange Rows.txnChecksSpec).bare.plain.varTypes prog) (ds++gs)).all (· <=reachBytes)=true)(hL:laidMetH prog Rows.txnChecksRow.laid W)(hS:W.ShapedOpen prog):
 Calls prog 3 args W λe W'=>∃v,e= .returned v/\Rows.txnChecksSpec.post enc prog f3 false true false false W args v W':=by
 have hW':=hW;have dm:=hW.lt;obtain⟨p,q,hA0,hV,rfl,CX,RW⟩:=hW;have hA:DataW.TrodAll enc prog W 0 (λ_=>true) true f3.params.toList args.toList ds p:=hA0;rw[params3]at hA hval hz;obtain⟨v0,vs0,d0,ds0,p0,q0,jt,rfl,rfl,h0,r0⟩:=trodAll_cons hA;obtain⟨v1,vs1,d1,ds1,p1,q1,rfl,rfl,rfl,h1,r1⟩:=trodAll_cons r0;obtain⟨rfl,rfl,rfl⟩:=trodAll_nil r1;obtain rfl:args= #[v0,v1]:=by cases args;simp_all
 obtain⟨rfl,rfl⟩:=trodVars_none hV;have JZ:∀m∈DataW.weightsEach prog [32,3] [d0,d1],m<=reachBytes:=by
  intro m hm;have:=Yt.1 hz m hm;simpa using this
 rw[JW]at JZ;obtain⟨n1,a,ba,ra⟩:=aby underlying32 aaQ (hval 0 32 v0 rfl rfl) h0 λm hm=>JZ m (List.mem_append_left _ hm)
 obtain⟨k,rfl⟩:=abz (hval 1 3 v1 rfl rfl) h1;obtain⟨_,cJ⟩:=aau kZ Wf n1 a k (ad1 ba) W dR #[v0,.int .i64 k] (λ_ h=>h.elim) (aeB hL hS) rfl (λk' x hx=>by
  match k',hx with
  |0,hx=>cases hx;exact ra
  |1,hx=>cases hx;exact .sc _ rfl
  |_+2,hx=>simp at hx)
 refine cJ.mono λe W' ⟨v,he,dq,hr⟩=>?_
 obtain⟨rfl,_⟩:=hr.dH;have hb:Below W.heap.size W W':=⟨dq.os,dq.tape,dq.output,dq.size,λk hk=>dq.keep k hk λh=>h⟩;have again:∀(sp:Nat->Bool),(∀p∈p0++(p1++[])++[],sp p.block=true)->DataW.TrodAll enc prog W' 0 sp true [32,3] [v0,.int .i64 k] [d0,d1] (p0++(p1++[])):=by
  intro sp tq;have m0:∀x∈p0,x∈p0++(p1++[])++[]:=λx hx=>by simp[hx]
  have m1:∀x∈p1,x∈p0++(p1++[])++[]:=λx hx=>by simp[hx]
  exact trodAll_cons_mk (WideElems.Trod_stays laidOut (by kernel_rfl) (of_decide_eq_true (by kernel_rfl)) h0 (λx hx=>hb.same (dm x (m0 x hx))) (λx hx=>tq x (m0 x hx)))
   (trodAll_cons_mk (WideElems.Trod_stays laidOut (by kernel_rfl) (of_decide_eq_true (by kernel_rfl)) h1 (λx hx=>hb.same (dm x (m1 x hx))) (λx hx=>tq x (m1 x hx))) trodAll_mk0)
 exact⟨_,he,Mq (pa:=p0++(p1++[])) (pv:=[]) hW' (λ_ _ _=>trodAll_cons_mk (shut_bool underlying4 _) trodAll_mk0) again (λ_ _=>rfl) rfl hb (ok_one (by kernel_rfl) rfl (okWide_bool_mk underlying4 _))⟩
end Go.Proofs.YtmfohnojaginjaaGreatDoor
