/- Part of the proof. -/
import Derived.Test.YtaibpnppeiigdaaGreatDoorCards
import Derived.Test.YtaibpnppeiigdaaGreatDoorTie
import Derived.Test.YtaibpnppeiigdaaGreatDoorFin48
import Derived.Test.YtaibpnppeiigdaaGreatDoorP35
import Derived.ProofKit
import Derived.OpenShut
import Derived.Carry
import Derived.Deep.DeepHandedRow
import Derived.MakeChecks
import Derived.Shelf.Vars
import Derived.Lib.LaidTab
set_option linter.all false
set_option maxRecDepth 100000
namespace Go.Proofs.YtaibpnppeiigdaaGreatDoor
open Go Go.Ae Go.ChangeShapes Go.WideShapes Go.ChangeAt Go.RowKit Go.Proofs.Tryz
theorem own :ownKnob prog.godebug=none:=by kernel_rfl
theorem laidOut :laidOutB prog=true:=by kernel_rfl
theorem aht :prog.globalNamed "graphdb/frac.zero" =some 0:=by kernel_rfl
theorem ahu :(prog.globals[0]?).map (·.type)=some 175:=by kernel_rfl
theorem aff :prog.cellsOf 175=2:=by kernel_rfl
theorem NC {P:Program}{H:Type}{enc:TypeId × Value->H}{f:Func}{s:ChangeSpec}{apart fresh handsOn again:Bool}{W W':World}{args:Array Value}{v:Value}{ds gs:List (DataW H)}{before pa pv:List MemPlace}
 (hW:DataW.Whole enc P f.params.toList s.vars apart W args.toList ds gs before)
 (rJ:∀(b:Nat) (sp:Nat->Bool) (hd:Bool),DataW.TrodAll enc P W' b sp hd f.resultTypes.toList (v.resultList f.resultTypes.size) (s.fn H (ds++gs)).results [])
 (lk:∀sp:Nat->Bool,(∀p∈before,sp p.block=true)->DataW.TrodAll enc P W' 0 sp true f.params.toList args.toList (s.fn H (ds++gs)).args pa)
 (acG:∀sp:Nat->Bool,(∀p∈before,sp p.block=true)->DataW.TrodVars enc P W' sp s.vars (s.fn H (ds++gs)).vars pv)
 (hps:before=pa++pv) (hb:Below W.heap.size W W')
 (iG:∀(j:Nat) (t:TypeId) (r:Value),f.resultTypes[j]?=some t->(v.resultList f.resultTypes.size)[j]?=some r->Value.okWide P W' .any 0 t r):
 s.post enc P f apart fresh handsOn again W args v W':=by
 have dY:=hW.lt;have hold:∀p∈before,(λb=>decide (b<W.heap.size)) p.block=true:=λp hp=>by simpa using dY p hp
 refine⟨ds,gs,before,[],pa,pv,hW,rJ _ _ _,lk _ hold,acG _ hold,World.keptBut_mono (λp hp=>⟨hp,?_⟩) (hb.frame (· ∈before)),λ_=>?_⟩
 .rw[hps,Ya]at hp;exact Or.inr hp
 .obtain⟨_,_,_,_,_,hz,hn⟩:=hW;refine⟨iG,_,_,([]++pa)++pv,⟨[]++pa,pv,trodAll_append (lk _ (λ_ _=>rfl)) (rJ _ _ _),acG _ (λ_ _=>rfl),rfl,?_,?_⟩,?_⟩
  .intro b off hp;have hm:MemPlace.cell b off∈before:=by rw[hps];simpa using hp
   rw[hb.frozen (p:=⟨b,off,none⟩) (dY _ hm)];exact hz b off hm
  .intro ha;have:=hn ha;rw[hps]at this;simpa using this
  .intro p hp _;rw[hps];simpa using hp
theorem rQ {P:Program}{x:String × DataW Unit}{l:List (String × DataW Unit)}{w:World}(h:laidMet P (x::l) w):laidMet P l w:=by
 obtain⟨ps,hv,S9,J1⟩:=h;obtain⟨n,d⟩:=x;obtain⟨g,t,cs,fuel,p,q,_,_,_,_,hq,rfl⟩:=hv;exact⟨q,hq,List.Nodup.sublist (List.sublist_append_right _ _) S9,λb off hm=>J1 b off (Zk _ hm)⟩
theorem ahv :prog.globalNamed "internal/strconv.uint64pow10" =some 1:=by kernel_rfl
theorem akN :(prog.globals[1]?).map (·.type)=some 326:=by kernel_rfl
theorem Pm {P:Program}{W:World}{name:String}{g:Nat}{cs:Array Value}(hg:P.globalNamed name=some g)(h:W.var? P name=some cs):∃(t:TypeId) (fz:Nat × Nat),W.heap[g]?=some (.cells cs t fz):=by
 unfold World.var? at h;rw[hg]at h;simp only[Option.bind_some]at h;split at h
 .rename_i cs' t fz e;cases h;exact⟨t,fz,e⟩
 .cases h
theorem SG {W:World}(h:laidMetH prog Rows.incrementalAtomsRow.laid W):∃(t:TypeId) (fz:Nat × Nat),W.heap[(1:Nat)]?=some (.cells sY.toArray t fz):=by
 rw[MakeChecks.laidMetH_plain _ _ _ (by kernel_rfl)]at h;have h2:=rQ (rQ h);have h3:Lib.TabIs prog W "internal/strconv.uint64pow10" .u64 Lib.pow10Tab:=Lib.tabIs_of_head (n:=20) ahv akN underlying326 underlying226 (by kernel_rfl) (by kernel_rfl) h2
 exact Pm ahv h3
theorem ND {W:World}(h:laidMetH prog Rows.incrementalAtomsRow.laid W):∃(t:TypeId) (fz:Nat × Nat),W.heap[(0:Nat)]?=some (.cells #[.int .i64 0,.int .i64 1] t fz):=by
 rw[MakeChecks.laidMetH_plain _ _ _ (by kernel_rfl)]at h;have h2:=rQ (rQ (rQ h));obtain⟨ps,⟨g0,t0,Y4,ak,p0,q0,hg0,ht0,wG,LC,_,_⟩,_,_⟩:=h2;obtain rfl:=Option.some.inj (aht.symm.trans hg0);obtain rfl:=Option.some.inj (ahu.symm.trans ht0);obtain⟨t,fz,fX⟩:=Pm hg0 wG;obtain⟨xs,n,_,hx,hl,hn,hf⟩:=DataW.trod_struct underlying175 LC;rw[aff]at hl;have Dx:xs.length=2:=hn;obtain⟨cs⟩:=Y4;simp only at hl hf
 match cs,hl,xs,Dx with
 |
  [a,b],_,[x,y],_=>
  have h0:=hf 0 _ rfl;have h1:=hf 1 _ rfl;simp only[WK,List.drop_zero,List.drop_succ_cons,List.take_succ_cons,List.take_zero,Yg,Yf]at h0 h1;obtain⟨k0,e0,d0,_⟩:=DataW.trod_int underlying3 h0;obtain⟨k1,e1,d1,_⟩:=DataW.trod_int underlying3 h1;obtain rfl:a=_:=(List.cons.inj e0).1;obtain rfl:b=_:=(List.cons.inj e1).1;subst d0 d1;have hk:k0=0/\k1=1:=by
   have:=congrArg Prod.fst hx;simpa[Rows.laid_graphdb_frac_zero,eq_comm]using this
  obtain⟨rfl,rfl⟩:=hk;exact⟨t,fz,fX⟩
theorem afg {W:World}(hL:laidMetH prog Rows.incrementalAtomsRow.laid W):GOK cx.G W ef:=by
 intro g row hg;refine⟨λh=>h,?_⟩;have qK:XT g=some row:=hg;unfold XT at qK;split at qK
 .rename_i e;subst e;cases qK;obtain⟨t,fz,h1⟩:=ND hL;refine⟨_,t,fz,h1,rfl,λk v hv=>?_⟩
  match k,hv with
  |0,hv=>cases hv;exact⟨_,rfl,rfl,rfl,rfl⟩
  |1,hv=>cases hv;exact⟨_,rfl,rfl,rfl,rfl⟩
  |_+2,hv=>simp at hv
 .split at qK
  .rename_i _ e;subst e;cases qK;obtain⟨t,fz,h1⟩:=SG hL;refine⟨_,t,fz,h1,by simp,λk v hv=>?_⟩;obtain⟨z,_,rfl⟩:=Yi.1 (show v∈Lib.pow10Tab.map (λz=>Value.int .u64 z)from Zi hv);exact⟨_,by simpa using hv,rfl,rfl,rfl⟩
  .cases qK
theorem Pn {H:Type}{en:TypeId × Value->H}{W:World}{base:Nat}{α:Type}{encA:α->LA}{P:Nat->α->Prop}{t:TypeId}{fs:Array Field}(ht:prog.underlying t=some (.struct fs))(rd:Reads H en W true t encA P){v:Value}{d:DataW H}{ps:List MemPlace}(hv:Value.okWide prog W .any base t v)(h:DataW.Trod en prog W 0 (λ_=>true) true t v d ps)(hw:Fits t d):∃(n:Nat) (a:α),P n a/\Ri W ef v (.ag (encA a)):=by
 obtain⟨fuel,hf⟩:=h;unfold Value.okWide at hv;rw[ht]at hv;obtain⟨cs,rfl,_,_⟩:=hv;obtain⟨a,hp,hr⟩:=rd fuel cs.toList _ hf hw;refine⟨fuel,a,hp,.ag _ _ (by simpa using hr.1) (λk hk=>?_) (λk y hy=>?_)⟩
 .have og:k< (encA a).length:=by rw[<-hr.1];simpa using hk
  have:=(hr.2 k _ (Zb og)).1;simpa[Yj]using this
 .have:=(hr.2 k y hy).2;simpa[Yj]using this
theorem AX.mono {D E:Nat}{g:Gr}(h:AX D g)(hd:D<=E):AX E g:=⟨h.nl,h.el,λn hn=>⟨(h.ns n hn).1,(h.ns n hn).2.1,λx hx=>⟨Yn ((h.ns n hn).2.2 x hx).1 hd,((h.ns n hn).2.2 x hx).2⟩⟩,λe he=>⟨(h.es e he).1,λx hx=>⟨Yn ((h.es e he).2 x hx).1 hd,((h.es e he).2 x hx).2⟩⟩⟩
theorem DT {H:Type}(a b c:DataW H):DataW.weightsEach prog [25,26,33] [a,b,c]=a.weights prog 25++(b.weights prog 26++(c.weights prog 33++[])):=by
 simp only[DataW.weightsEach]
theorem contract (H:Type)(enc:TypeId × Value->H)(W:World)(base:Nat)(args:Array Value)(ds gs:List (DataW H))(before:List MemPlace)
 (hval:∀(j:Nat) t v,f3.params[j]?=some t->args[j]?=some v->Value.okWide prog W .any base t v)
 (hW:DataW.Whole enc prog f3.params.toList Rows.incrementalAtomsSpec.vars false W args.toList ds gs before)
 (hz:(DataW.weightsEach prog (f3.params.toList++(OpenSpec.ofChange Rows.incrementalAtomsSpec).bare.plain.varTypes prog) (ds++gs)).all (· <=reachBytes)=true)
 (hL:laidMetH prog Rows.incrementalAtomsRow.laid W):
 Calls prog 3 args W λe W'=>∃v,e= .returned v/\Rows.incrementalAtomsSpec.post enc prog f3 false true false false W args v W':=by
 have hW':=hW;have dY:=hW.lt;obtain⟨p,q,hA0,hV,rfl,z6,S9⟩:=hW;have hA:DataW.TrodAll enc prog W 0 (λ_=>true) true f3.params.toList args.toList ds p:=hA0;rw[params3]at hA hval hz;obtain⟨v0,vs0,d0,ds0,p0,q0,lk,rfl,rfl,h0,r0⟩:=trodAll_cons hA;obtain⟨v1,vs1,d1,ds1,p1,q1,rfl,rfl,rfl,h1,r1⟩:=trodAll_cons r0;obtain⟨v2,vs2,d2,ds2,p2,q2,rfl,rfl,rfl,h2,r2⟩:=trodAll_cons r1;obtain⟨rfl,rfl,rfl⟩:=trodAll_nil r2;obtain rfl:args= #[v0,v1,v2]:=by cases args;simp_all
 obtain⟨rfl,rfl⟩:=trodVars_none hV;have wC:∀m∈DataW.weightsEach prog [25,26,33] [d0,d1,d2],m<=reachBytes:=by
  intro m hm;have:=Yr.1 hz m hm;simpa using this
 rw[DT]at wC;obtain⟨n1,a,ba,ra⟩:=Pn underlying25 Kf (hval 0 25 v0 rfl rfl) h0 λm hm=>wC m (Zy _ hm)
 obtain⟨n2,b,bb,rb⟩:=WT underlying26 CR (hval 1 26 v1 rfl rfl) h1 λm hm=>wC m (Zk _ (Zy _ hm))
 obtain⟨n3,c,bc,rc⟩:=Pn underlying33 Ni (hval 2 33 v2 rfl rfl) h2 λm hm=>wC m (Zk _ (Zk _ (Zy _ hm)))
 obtain⟨_,dy⟩:=Y1 (n1+n2+n3) a b c false (ba.1.mono (by omega)) ba.2 (jz bb.2) (λp hp=>⟨Yn (bb.1 p hp).1 (by omega),(bb.1 p hp).2.1,jz (bb.1 p hp).2.2⟩) (by have:=bc.1;omega) bc.2.1 (jz bc.2.2) W ef #[v0,v1,v2] (λ_ h=>h.elim) (afg hL) rfl (λk x hx=>by
  match k,hx with
  |0,hx=>cases hx;exact ra
  |1,hx=>cases hx;exact rb
  |2,hx=>cases hx;exact rc
  |_+3,hx=>simp at hx)
 refine dy.mono λe W' ⟨v,he,dD,hr⟩=>?_
 obtain⟨rfl,_⟩:=hr.eF;have hb:Below W.heap.size W W':=⟨dD.os,dD.tape,dD.output,dD.size,λk hk=>dD.keep k hk λh=>h⟩;have again:∀(sp:Nat->Bool),(∀p∈p0++(p1++(p2++[]))++[],sp p.block=true)->DataW.TrodAll enc prog W' 0 sp true [25,26,33] [v0,v1,v2] [d0,d1,d2] (p0++(p1++(p2++[]))):=by
  intro sp pY;have m0:∀x∈p0,x∈p0++(p1++(p2++[]))++[]:=λx hx=>by simp[hx]
  have m1:∀x∈p1,x∈p0++(p1++(p2++[]))++[]:=λx hx=>by simp[hx]
  have m2:∀x∈p2,x∈p0++(p1++(p2++[]))++[]:=λx hx=>by simp[hx]
  exact trodAll_cons_mk (WideElems.Trod_stays laidOut (by kernel_rfl) (of_decide_eq_true (by kernel_rfl)) h0 (λx hx=>hb.same (dY x (m0 x hx))) (λx hx=>pY x (m0 x hx)))
   (trodAll_cons_mk (WideElems.Trod_stays laidOut (by kernel_rfl) (of_decide_eq_true (by kernel_rfl)) h1 (λx hx=>hb.same (dY x (m1 x hx))) (λx hx=>pY x (m1 x hx)))
    (trodAll_cons_mk (WideElems.Trod_stays laidOut (by kernel_rfl) (of_decide_eq_true (by kernel_rfl)) h2 (λx hx=>hb.same (dY x (m2 x hx))) (λx hx=>pY x (m2 x hx))) trodAll_mk0))
 exact⟨_,he,NC (pa:=p0++(p1++(p2++[]))) (pv:=[]) hW' (λ_ _ _=>trodAll_cons_mk (shut_bool underlying4 _) trodAll_mk0) again (λ_ _=>rfl) rfl hb (ok_one (by kernel_rfl) rfl (okWide_bool_mk underlying4 _))⟩
end Go.Proofs.YtaibpnppeiigdaaGreatDoor
