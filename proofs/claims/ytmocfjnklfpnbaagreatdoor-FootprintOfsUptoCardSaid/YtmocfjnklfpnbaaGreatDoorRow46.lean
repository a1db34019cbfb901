/- Part of the proof. -/
import Derived.Test.YtmocfjnklfpnbaaGreatDoorCards
import Derived.Test.YtmocfjnklfpnbaaGreatDoorTie
import Derived.Test.YtmocfjnklfpnbaaGreatDoorP39
import Derived.ProofKit
import Derived.OpenShut
import Derived.Carry
import Derived.Deep.DeepHandedRow
import Derived.MakeChecks
import Derived.Shelf.Vars
set_option linter.all false
set_option maxRecDepth 100000
namespace Go.Proofs.YtmocfjnklfpnbaaGreatDoor
open Go Go.Ae Go.ChangeShapes Go.WideShapes Go.ChangeAt Go.RowKit Go.Proofs.Tryz
theorem own :ownKnob prog.godebug=none:=by kernel_rfl
theorem laidOut :laidOutB prog=true:=by kernel_rfl
theorem aeP :prog.globalNamed "graphdb/frac.zero" =some 0:=by kernel_rfl
theorem aeQ :(prog.globals[0]?).map (·.type)=some 189:=by kernel_rfl
theorem acO :prog.cellsOf 189=2:=by kernel_rfl
theorem KQ{P:Program}{H:Type}{enc:TypeId × Value->H}{f:Func}{s:ChangeSpec}{apart fresh handsOn again:Bool}{W W':World}{args:Array Value}{v:Value}{ds gs:List (DataW H)}{before pa pv:List MemPlace}(hW:DataW.Whole enc P f.params.toList s.vars apart W args.toList ds gs before)(tO:∀(b:Nat)(sp:Nat->Bool)(hd:Bool),DataW.TrodAll enc P W' b sp hd f.resultTypes.toList (v.resultList f.resultTypes.size) (s.fn H (ds++gs)).results [])(jK:∀sp:Nat->Bool,(∀p∈before,sp p.block=true)->DataW.TrodAll enc P W' 0 sp true f.params.toList args.toList (s.fn H (ds++gs)).args pa)(aat:∀sp:Nat->Bool,(∀p∈before,sp p.block=true)->DataW.TrodVars enc P W' sp s.vars (s.fn H (ds++gs)).vars pv)(Pz:before=pa++pv)(hb:Below W.heap.size W W')(jB:∀(j:Nat)(t:TypeId)(r:Value),f.resultTypes[j]?=some t->(v.resultList f.resultTypes.size)[j]?=some r->Value.okWide P W' .any 0 t r):
 s.post enc P f apart fresh handsOn again W args v W':=by
 have du:=hW.lt;have hold:∀p∈before,(λb=>decide (b<W.heap.size)) p.block=true:=λp hp=>by simpa using du p hp
 refine⟨ds,gs,before,[],pa,pv,hW,tO _ _ _,jK _ hold,aat _ hold,World.keptBut_mono (λp hp=>⟨hp,?_⟩) (hb.frame (· ∈before)),λ_=>?_⟩
 .rw[Pz,Zz]at hp;exact Or.inr hp
 .obtain⟨_,_,_,_,_,hz,hn⟩:=hW;refine⟨jB,_,_,([]++pa)++pv,⟨[]++pa,pv,trodAll_append (jK _ (λ_ _=>rfl)) (tO _ _ _),aat _ (λ_ _=>rfl),rfl,?_,?_⟩,?_⟩
  .intro b off hp;have hm:MemPlace.cell b off∈before:=by rw[Pz];simpa using hp
   rw[hb.frozen (p:=⟨b,off,none⟩) (du _ hm)];exact hz b off hm
  .intro ha;have:=hn ha;rw[Pz]at this;simpa using this
  .intro p hp _;rw[Pz];simpa using hp
theorem Y9{P:Program}{W:World}{name:String}{g:Nat}{cs:Array Value}(hg:P.globalNamed name=some g)(h:W.var? P name=some cs):∃(t:TypeId)(fz:Nat × Nat),W.heap[g]?=some (.cells cs t fz):=by
 unfold World.var? at h;rw[hg]at h;simp only[Option.bind_some]at h;split at h
 .rename_i cs' t fz e;cases h;exact⟨t,fz,e⟩
 .cases h
theorem KS{W:World}(h:laidMetH prog Rows.footprintOfsUptoRow.laid W):∃(t:TypeId)(fz:Nat × Nat),W.heap[(0:Nat)]?=some (.cells #[.int .i64 0,.int .i64 1] t fz):=by
 rw[MakeChecks.laidMetH_plain _ _ _ (by kernel_rfl)]at h;obtain⟨ps,⟨g0,t0,ZH,au,p0,q0,hg0,ht0,hv0,hd0,_,_⟩,_,_⟩:=h;obtain rfl:=Option.some.inj (aeP.symm.trans hg0);obtain rfl:=Option.some.inj (aeQ.symm.trans ht0);obtain⟨t,fz,cY⟩:=Y9 hg0 hv0;obtain⟨xs,n,_,hx,hl,hn,hf⟩:=DataW.trod_struct underlying189 hd0;rw[acO]at hl;have hn2:xs.length=2:=hn;obtain⟨cs⟩:=ZH;simp only at hl hf
 match cs,hl,xs,hn2 with
 |
  [a,b],_,[x,y],_=>
  have h0:=hf 0 _ rfl;have h1:=hf 1 _ rfl;simp only[aaX,Yd,List.drop_succ_cons,List.take_succ_cons,List.take_zero,List.getElem?_cons_zero,List.getElem?_cons_succ]at h0 h1;obtain⟨k0,e0,d0,_⟩:=DataW.trod_int underlying3 h0;obtain⟨k1,e1,d1,_⟩:=DataW.trod_int underlying3 h1;obtain rfl:a=_:=(List.cons.inj e0).1;obtain rfl:b=_:=(List.cons.inj e1).1;subst d0 d1;have hk:k0=0/\k1=1:=by
   have:=congrArg Prod.fst hx;simpa[Rows.laid_graphdb_frac_zero,eq_comm]using this
  obtain⟨rfl,rfl⟩:=hk;exact⟨t,fz,cY⟩
theorem UL{W:World}(h:W.ShapedOpen prog):∃(cV:Array Value)(t:TypeId)(fz:Nat × Nat)(m:Int),W.heap[(1:Nat)]?=some (.cells cV t fz)/\cV.size=1/\cV[0]?=some (.int .i64 m):=by
 obtain⟨m,hm⟩:=cell_of_shapedOpen_int (g:=1) (zero:= #[.int .i64 0]) (t:=3) h (of_decide_eq_true (by kernel_rfl)) (by kernel_rfl) rfl (by kernel_rfl) (by kernel_rfl) underlying3;obtain⟨cs,hh,hs,_⟩:=h.1 1 #[.int .i64 0] 3 (of_decide_eq_true (by kernel_rfl)) (by kernel_rfl);unfold World.cell? at hm;rw[hh]at hm;exact⟨cs,_,_,m,hh,hs,by simpa using hm⟩
theorem acP{W:World}(hL:laidMetH prog Rows.footprintOfsUptoRow.laid W)(hS:W.ShapedOpen prog):GOK cx.G W eK:=by
 intro g row hg;refine⟨λh=>h,?_⟩;have I7:Uu g=some row:=hg;unfold Uu at I7;split at I7
 .rename_i e;subst e;cases I7;obtain⟨t,fz,h1⟩:=KS hL;refine⟨_,t,fz,h1,rfl,λk v hv=>?_⟩
  match k,hv with
  |0,hv=>cases hv;exact⟨_,rfl,rfl,rfl,rfl⟩
  |1,hv=>cases hv;exact⟨_,rfl,rfl,rfl,rfl⟩
  |_+2,hv=>simp at hv
 .split at I7
  .rename_i _ e;subst e;cases I7;obtain⟨cV,t,fz,m,h1,hs,h2⟩:=UL hS;refine⟨cV,t,fz,h1,hs,λk v hv=>?_⟩
   match k,hv with
   |0,hv=>cases hv;exact⟨_,h2,rfl,m,rfl⟩
   |_+1,hv=>simp at hv
  .cases I7
theorem Pg{H:Type}{en:TypeId × Value->H}{W:World}{base:Nat}{v:Value}{d:DataW H}{ps:List MemPlace}(hv:Value.okWide prog W .any base 24 v)(h:DataW.Trod en prog W 0 (λ_=>true) true 24 v d ps)(hw:Fits 24 d):
 ∃(n:Nat)(q:List Cp),(∀c∈q,qCp n c)/\(q.map nk).sum<=Rows.uptoBulk d/\Ri W eK v (.ag (gL q)):=by
 obtain⟨fuel,hf⟩:=h;unfold Value.okWide at hv;rw[underlying24]at hv;obtain⟨cs,rfl,_,_⟩:=hv;obtain⟨a,hp,hm,hr⟩:=abE fuel fuel cs.toList _ (by omega) hf hw;refine⟨fuel,a,hp,hm,.ag _ _ (by simpa using hr.1) (λk hk=>?_) (λk y hy=>?_)⟩
 .have kD:k< (gL a).length:=by rw[<-hr.1];simpa using hk
  have:=(hr.2 k _ (Zb kD)).1;simpa[Yg]using this
 .have:=(hr.2 k y hy).2;simpa[Yg]using this
theorem IE{H:Type}(a:DataW H):DataW.weightsEach prog [24] [a]=a.weights prog 24++[]:=by
 simp only[DataW.weightsEach]
theorem D5 :∀l:List Np,(eo l).length=(l.map λx=>x.props.length).sum
 | []=>rfl
 |
  x::l=>by
  have ih:=D5 l;unfold eo at ih|-;rw[Ym,Zu,ih,Yn,Yo,Yh]
theorem xQ :∀(ns:List Np)(es:List Gp),((c9 ns es).map λx=>x.props.length).sum<=(ns.map ue).sum+(es.map vX).sum
 | [],es=>by simp[c9]
 |
  n::ns,[]=>by
  have h:=xQ ns [];have:n.props.length<=ue n:=by unfold ue;omega
  rw[c9,Yn,Yo,Yn,Yo];omega
 |
  n::ns,e::es=>by
  have h:=xQ ns es;have h1:n.props.length<=ue n:=by unfold ue;omega
  have h2:(Ar e).props.length<=vX e:=by unfold vX Ar;simp only;omega
  rw[c9,Yn,Yo,Yn,Yo,Yn,Yo,Yn,Yo];omega
theorem aeR{q:List Cp}{B:Nat}(hB:B<=1048576)(hs:(q.map nk).sum<=B):(∀c∈q,∀p∈c.paths,yO p)/\(∀c∈q,c.items.length<=10^6):=by
 refine⟨λc hc p hp=>?_,λc hc=>?_⟩
 .have h1:=kY nk hc;have h2:=kY vm hp;have h3:=xQ p.nodes p.cE;have h4:=D5 (c9 p.nodes p.cE);rw[nk,rI]at h1;rw[vm]at h2;unfold yO;omega
 .have h1:=kY nk hc;have l3:=qO (λx:Ip=>dc x.e) (λx=>sw x.e) c.items;have l4:=ad0 (λx:Ip=>dc x.e) c.items;rw[nk,rI]at h1;omega
theorem acQ(q:List Cp):(q.map rI).sum<=(q.map nk).sum:=by
 induction q with
 |nil=>simp
 |cons c q ih=>
  rw[Yn,Yn,Yo,Yo];have:rI c<=nk c:=by unfold nk;omega
  omega
theorem contract(H:Type)(enc:TypeId × Value->H)(W:World)(base:Nat)(args:Array Value)(ds gs:List (DataW H))(before:List MemPlace)(hval:∀(j:Nat)t v,f3.params[j]?=some t->args[j]?=some v->Value.okWide prog W .any base t v)(hW:DataW.Whole enc prog f3.params.toList Rows.footprintOfsSpec.vars false W args.toList ds gs before)(hk:Rows.uptoSmall H (ds++gs)=true)(hz:(DataW.weightsEach prog (f3.params.toList++(Rows.OpenSpec.upto Rows.footprintOfsSpec).bare.plain.varTypes prog) (ds++gs)).all (· <=reachBytes)=true)(hL:laidMetH prog Rows.footprintOfsUptoRow.laid W)(hS:W.ShapedOpen prog):
 Calls prog 3 args W λe W'=>∃v,e= .returned v/\Rows.footprintOfsSpec.post enc prog f3 false true false false W args v W':=by
 have hW':=hW;have du:=hW.lt;obtain⟨p,q,hA0,hV,rfl,BL,ZE⟩:=hW;have hA:DataW.TrodAll enc prog W 0 (λ_=>true) true f3.params.toList args.toList ds p:=hA0;rw[params3]at hA hval hz;obtain⟨v0,vs0,d0,ds0,p0,q0,jK,rfl,rfl,h0,r0⟩:=trodAll_cons hA;obtain⟨rfl,rfl,rfl⟩:=trodAll_nil r0;obtain rfl:args= #[v0]:=by cases args;simp_all
 obtain⟨rfl,rfl⟩:=trodVars_none hV;have hz':∀m∈DataW.weightsEach prog [24] [d0],m<=reachBytes:=by
  intro m hm;have:=Yp.1 hz m hm;simpa using this
 rw[IE]at hz';have kD:Rows.uptoBulkAll ([d0]++[])<=1048576:=by simpa only[Rows.uptoSmall,Zy]using hk
 rw[Yk,Rows.uptoBulkAll]at kD;obtain⟨n1,a,ba,ma,ra⟩:=Pg (hval 0 24 v0 rfl rfl) h0 λm hm=>hz' m (Zx _ hm)
 have hs:(a.map nk).sum<=1048576:=by omega
 obtain⟨k1,k2,k3,k4,_⟩:=NQ (D:=n1+1) (B:=1048576) (by omega) (λc hc=>vZ (by omega) (ba c hc)) (q:=a) hs;obtain⟨k6,k7⟩:=aeR (Yq _) hs;obtain⟨_,cW⟩:=OB acp (n1+1) 1048576 (by omega) a k1 k2 k3 k4 (by have:=acQ a;omega) k7 k6 W eK #[v0] (λ_ h=>h.elim) (acP hL hS) rfl (λk' x hx=>by
  match k',hx with
  |0,hx=>cases hx;exact ra
  |_+1,hx=>simp at hx)
 refine cW.mono λe W' ⟨v,he,dO,hr⟩=>?_
 obtain⟨rfl,_⟩:=hr.dQ;have hb:Below W.heap.size W W':=⟨dO.os,dO.tape,dO.output,dO.size,λk hk=>dO.keep k hk λh=>h⟩;have again:∀(sp:Nat->Bool),(∀p∈p0++[]++[],sp p.block=true)->DataW.TrodAll enc prog W' 0 sp true [24] [v0] [d0] (p0++[]):=by
  intro sp mZ;have m0:∀x∈p0,x∈p0++[]++[]:=λx hx=>by simp[hx]
  exact trodAll_cons_mk (WideElems.Trod_stays laidOut (by kernel_rfl) (of_decide_eq_true (by kernel_rfl)) h0 (λx hx=>hb.same (du x (m0 x hx))) (λx hx=>mZ x (m0 x hx))) trodAll_mk0
 exact⟨_,he,KQ (pa:=p0++[]) (pv:=[]) hW' (λ_ _ _=>trodAll_cons_mk (shut_bool underlying4 _) trodAll_mk0) again (λ_ _=>rfl) rfl hb (ok_one (by kernel_rfl) rfl (okWide_bool_mk underlying4 _))⟩
end Go.Proofs.YtmocfjnklfpnbaaGreatDoor
