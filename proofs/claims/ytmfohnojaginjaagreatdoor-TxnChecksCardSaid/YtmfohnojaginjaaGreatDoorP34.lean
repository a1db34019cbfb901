/- Part of the proof. -/
import Derived.Test.YtmfohnojaginjaaGreatDoorP33
set_option linter.all false
set_option maxHeartbeats 4000000
set_option maxRecDepth 100000
namespace Go.Ae
open Go
def WE(P:Program)(F:FuncId)(T:TypeId):Prop:=∀(w:World)(base:Option Addr)(n cap vb vc:Nat)(r:Value)(W:World)(Q:Ending->World->Prop),n<=cap->cap<=9223372036854775807->n+1<=1000000000000000->
 (∀ty,(Builtin.append_ #[T,T] ty #[.slice base n cap,.slice (some ⟨vb,0,none⟩) 1 vc]).run P w= .ok r W)->Q (.returned r) W->Calls P F #[.slice base n cap,.int .i64 n,.slice (some ⟨vb,0,none⟩) 1 vc] w Q
def WS(P:Program)(F O:FuncId)(T:TypeId)(s:Nat):Prop:=∀(e:TypeId)(ei:TypeInfo)(w W:World)(b n cap i vb vc:Nat)(C:Array Value)(Q:Ending->World->Prop),P.underlying T=some (.slice e)->P.info? e=some ei->ei.size=s->(∀w,(Go.sizeOf e).run P w= .ok s w)->i<n->n+1<=cap->cap<=9223372036854775807->n+1<=1000000000000000->
 (∀lb cb,(callFunc O #[.slice (some ⟨vb,0,none⟩) 1 vc,.slice (some ⟨b,(i+1)*s,none⟩) lb cb]).run P w= .ok (.value (.bool false)) w)->
 (∀ty dc sc,(Builtin.copy_ #[T,T] ty #[.slice (some ⟨b,(i+1)*s,none⟩) (n-i) dc,.slice (some ⟨b,i*s,none⟩) (n+1-i) sc]).run P w.drew= .ok (.int .i64 (min (n+1-i) (n-i):Nat)) W)->
 (∀(W':World),W'.heap=W.heap->∀ty dc,(Builtin.copy_ #[T,T] ty #[.slice (some ⟨b,i*s,none⟩) (n+1-i) dc,.slice (some ⟨vb,0,none⟩) 1 vc]).run P W'= .ok (.int .i64 (min 1 (n+1-i):Nat)) (W'.setRow b C))->
 Q (.returned (.slice (some ⟨b,0,none⟩) (n+1) cap)) (W.setRow b C)->Calls P F #[.slice (some ⟨b,0,none⟩) n cap,.int .i64 i,.slice (some ⟨vb,0,none⟩) 1 vc] w Q
def WG(P:Program)(F:FuncId)(T I:TypeId)(s:Nat):Prop:=∀(e:TypeId)(ei:TypeInfo)(w W:World)(b B cap i vb vc G:Nat)(R S:Array Value)(Q:Ending->World->Prop),P.underlying T=some (.slice e)->P.info? e=some ei->ei.size=s->(∀w,(Go.sizeOf e).run P w= .ok s w)->i<cap->cap<=9223372036854775807->cap+1<=1000000000000000->cap+1<=G->G<=9223372036854775807->
 (∀ty,(Builtin.append_ #[T,I] ty #[.slice (some ⟨b,0,none⟩) i cap,.int .i64 ((cap:Int)+1-(i:Int))]).run P w= .ok (.slice (some ⟨B,0,none⟩) (cap+1) G) W)->
 (∀(W':World),W'.heap=W.heap->∀ty dc,(Builtin.copy_ #[T,T] ty #[.slice (some ⟨B,i*s,none⟩) (cap+1-i) dc,.slice (some ⟨vb,0,none⟩) 1 vc]).run P W'= .ok (.int .i64 (min 1 (cap+1-i):Nat)) (W'.setRow B R))->
 (∀(W':World),W'.heap=(W.setRow B R).heap->∀ty dc sc,(Builtin.copy_ #[T,T] ty #[.slice (some ⟨B,(i+1)*s,none⟩) (cap-i) dc,.slice (some ⟨b,i*s,none⟩) (cap-i) sc]).run P W'= .ok (.int .i64 (min (cap-i) (cap-i):Nat)) (W'.setRow B S))->
 (∀W':World,W'.os=W.os->W'.tape=W.tape->W'.output=W.output->W'.heap=((W.setRow B R).setRow B S).heap->W.drawn<=W'.drawn->Q (.returned (.slice (some ⟨B,0,none⟩) (cap+1) G)) W')->
 Calls P F #[.slice (some ⟨b,0,none⟩) cap cap,.int .i64 i,.slice (some ⟨vb,0,none⟩) 1 vc] w Q
def tyG{P:Program}{T:TypeId}{s B:Nat}(h:(match eH P T with|some i=>(match i.kd with| .slice s' _ b _=>s'==s && b==B|_=>false)|none=>false)=true):
 ∃e ei z,P.underlying T=some (.slice e)/\P.info? e=some ei/\ei.zero=some z/\ei.size=s/\ei.bytes=B/\z.cells.size=s/\(∀w,(Go.sizeOf e).run P w= .ok s w):=by
 cases hi:eH P T with
 |none=>rw[hi]at h;cases h
 |some i=>
  rw[hi]at h;obtain⟨d,info,z,h1,h2,h3,h4,h5,h6,h7,h8,h9⟩:=dG hi;simp only at h;split at h
  .rename_i s' ag b ez LZ;rw[LZ]at h4;obtain⟨e,ei,ed,z',rfl,k1,k2,k3,k4,k5,k6,k7,k8,k9,zm⟩:=ec h4;simp only[Zh,beq_iff_eq]at h;obtain⟨rfl,rfl⟩:=h;refine⟨e,ei,z',h1,k1,k3,k4.symm,k6.symm,by rw[k9,k4],λw=>?_⟩;rw[dY k1,k4]
  .cases h
def Gk{C:Cx}{F O:FuncId}{T I D:TypeId}{s B:Nat}(ZE:0<s)(hb0:0<B)(hT:(match eH C.P T with|some i=>(match i.kd with| .slice s' _ b _=>s'==s && b==B|_=>false)|none=>false)=true)(htn:C.P.underlying I=some (.int .i64))(Dx:∃fn,C.P.funcs[F]?=some fn/\fn.name≠ "runtime.NumGoroutine" /\fn.body.isSome=true)(hO:∀args w,(callFunc O args).run C.P w=((Extern.SlicesOverlaps.overlaps #[T,T] #[D] args).run C.P w).andThen λv w'=> .ok (.value v) w')(hE:WE C.P F T)(hS:WS C.P F O T s)(hG:WG C.P F T I s):zH C F s B:=by
 refine⟨ZE,hb0,Dx,λw base n cap i vb vc olds vs Dt vt vf ho hv oZ hn hc hm wP o1 v1 tm hvf hvc hb=>?_⟩;change Calls C.P F _ w (ad5 w base n cap i s olds vs);obtain⟨e,ei,z,ht,hi,hz,hs,hbs,hzs,wo⟩:=tyG hT;have wS:cap<=9223372036854775807:=hc;have hvw:∀(j:Nat)(u:Value),vs[j]?=some u->w.cell? ⟨vb,0+j,none⟩=some u:=λj u hj=>by rw[jD tm,Xs];exact hvc j u hj
 have agf:∀(j:Nat)(u:Value),vs[j]?=some u->w.cell? ((⟨vb,0,none⟩:Addr).add j)=some u:=λj u hj=>by rw[add_lit];exact hvw j u hj
 have z_:vs.length=1*ei.size:=by omega
 by_cases he:i=n
 .subst he;by_cases mj:i+1<=cap
  .rcases hb with⟨h0,h1⟩|⟨b,cF,t,fz,rfl,eF,N4,hf,mH,dX⟩
   .omega
   have oE:i*s+vs.length<=cF.size:=by
    have:=Zx s mj;rw[Xp]at this;omega
   have dq:=iQ C.P b (i*s) t fz vs 0 cF w N4 (.inl hf.eq) (by omega) v1;exact hE w _ i cap vb vc _ (w.setRow b (nT cF (i*s) vs)) _ (by omega) wS hm (λty=>uo ht hi b 0 i cap 1 vc ⟨vb,0,none⟩ vs z_ agf mj (by rw[hs,Xs];exact dq))
    (N3 (i:=i) N4 hf mH mj hc (setRow_heap w b cF _ t fz N4) (mJ oE) rfl rfl rfl (by simp) (Xc _) (λk hk=>setRow_other w b k _ hk) (VU ho.symm oE dX))
  .have hcg:cap<i+1:=by omega
   have ad4:Src C.P ei.size T (.slice (some ⟨vb,0,none⟩) 1 vc) 1 vs w:=Src.ofSlice w ht ⟨vb,0,none⟩ 1 vc vs z_ agf v1;have hold:(Builtin.firstCells ei.size i (.slice base i cap)).run C.P w.drew= .ok olds.toArray w.drew:=by
    rcases hb with⟨h0,h1⟩|⟨b,cF,t,fz,rfl,eF,N4,hf,mH,dX⟩
    .subst h0;have:olds=[]:=Zl (by omega);subst this;cases base<;>simp[Builtin.firstCells,loadCells,loadCellsFrom]
    .exact run_firstCells_some w.drew ei.size i ⟨b,0,none⟩ i cap olds (by rw[hs];exact ho) (λj u hj=>by rw[add_lit,Xs];exact(jD (w:=w.drew) N4 j).trans (dX j u hj))
   have pz:=grownCap_ge w (i+1) cap e;have da:=grownCap_le_maxLen w (i+1) cap e (by unfold maxLen;omega);have jj:∀ty,(Builtin.append_ #[T,T] ty #[.slice base i cap,.slice (some ⟨vb,0,none⟩) 1 vc]).run C.P w=_:=λty=>
    run_append_grow_src w T T ty e ei z ht hi hz base i cap olds hold _ 1 vs ad4 hcg (by omega) (by rw[hbs];exact growslice_fits hcg wP)
   generalize grownCap w (i+1) cap e=G at jj pz da;have fX:G*s=((olds++vs).toArray++Builtin.zeroCells z.cells (G-(i+1))).size:=by
    have h2:G=(i+1)+(G-(i+1)):=by omega
    have h3:G*s=(i+1)*s+(G-(i+1))*s:=by rw[<-Xp,<-h2]
    have h4:=Xp i 1 s;rw[Array.size_append,List.size_toArray,size_zeroCells,hzs,Zu];omega
   have VX:∀(k:Nat)(u:Value),(olds.take (i*s)++vs++olds.drop (i*s))[k]?=some u->((olds++vs).toArray++Builtin.zeroCells z.cells (G-(i+1)))[k]?=some u:=λk u hk=>by
    rw[<-ho,Xx,Yc,Yr]at hk;rw[Array.getElem?_append_left (by simpa using(Za.1 hk).1),Xr];exact hk
   exact hE w base i cap vb vc _ _ _ hn wS hm jj
    (Jp fX pz da (iI w.drew _) rfl rfl rfl (by simp[World.alloc]) (Yv _) (λk hk=>by show(w.heap.push _)[k]?=_;simp[Array.getElem?_push,Xk hk]) VX)
 rcases hb with⟨h0,h1⟩|⟨b,cF,t,fz,rfl,eF,N4,hf,mH,dX⟩
 .omega
 have dm:i<n:=by omega
 have lN:=Zx s dm;rw[Nat.succ_mul]at lN;have yL:(olds.drop (i*s)).length=(n-i)*s:=by rw[List.length_drop,ho,Nat.sub_mul]
 have hdl':(olds.drop (i*s)).length=n*s-i*s:=by rw[List.length_drop,ho]
 have oT:Dt.size≠0:=by
  have:=(Xt.1 (hvc 0 _ (Zb (by omega)))).1;omega
 have hmv:vs.length=min 1 (n+1-i)*ei.size:=by rw[Nat.min_eq_left (by omega)];omega
 have JX:(i+1)*s=i*s+s:=Nat.succ_mul i s;by_cases mj:n+1<=cap
 .have h9:=Zx s mj;rw[Xp]at h9;have R_:min (n+1-i) (n-i)=n-i:=by omega
  have Jq:(i+1)*s+(olds.drop (i*s)).length<=cF.size:=by omega
  have aa2:=mJ Jq;obtain⟨W1,GN⟩:∃W1,W1=w.drew.setRow b (nT cF ((i+1)*s) (olds.drop (i*s))):=⟨_,rfl⟩;have agh:W1.heap[b]?=some (.cells (nT cF ((i+1)*s) (olds.drop (i*s))) t fz):=by rw[GN];exact setRow_heap w.drew b cF _ t fz N4
  have ajz:W1.heap[vb]?=some (.cells Dt vt vf):=by rw[GN,setRow_other w.drew b vb _ (λh=>eF h.symm)];exact tm
  refine hS e ei w W1 b n cap i vb vc (nT (nT cF ((i+1)*s) (olds.drop (i*s))) (i*s) vs) _ ht hi hs wo dm mj wS hm (λlb cb=>?_) (λty dc sc=>?_) (λW hW ty dc=>?_) ?_
  .rw[hO,Lib.run_overlaps_apart w T D e ht s wo ⟨vb,0,none⟩ ⟨b,(i+1)*s,none⟩ 1 vc lb cb (λh=>eF h.symm) vt t Dt.size cF.size (by simp[World.shape?,tm]) (by simp[World.shape?,N4]) (by omega) (by simp[World.frozen?,tm,hvf.eq]) (by simp[World.frozen?,tm,hvf.eq])];rfl
  .rw[GN];exact sD w.drew T ty e ei ht hi b ((i+1)*s) _ dc b (i*s) _ sc (olds.drop (i*s)) (by rw[hs,R_];exact yL) (λj u hj=>by
    rw[Xo]at hj;exact(jD (w:=w.drew) N4 _).trans (dX _ u hj)) cF t fz N4 hf Jq (λu hu=>o1 u (List.mem_of_mem_drop hu))
  .exact sD W T ty e ei ht hi b (i*s) _ dc vb 0 1 vc vs hmv (λj u hj=>by
    rw[Xs];exact(jD (by rw[hW];exact ajz) _).trans (hvc _ u hj)) _ t fz (by rw[hW];exact agh) (hf.imp (λq=>q) λq=>q.2.elim) (by rw[aa2];omega) v1
  .exact N3 N4 hf mH mj hc (setRow_heap W1 b _ _ t fz agh) (by rw[mJ (by rw[aa2];omega),aa2]) (by rw[GN];rfl) (by rw[GN];rfl) (by rw[GN];rfl) (by rw[GN];simp) (by rw[GN];exact Yv _) (λk hk=>by rw[setRow_other W1 b k _ hk,GN,setRow_other w.drew b k _ hk];rfl)
    (LY (by omega) (by omega) (by omega) dX)
 have Z9:cap=n:=by omega
 subst Z9;have W9:(cap:Int)+1-(i:Int)=((cap+1-i:Nat):Int):=by omega
 have hik:i+(cap+1-i)=cap+1:=by omega
 have hold:(Builtin.firstCells ei.size i (.slice (some ⟨b,0,none⟩) i cap)).run C.P w.drew= .ok (olds.take (i*s)).toArray w.drew:=
  run_firstCells_some w.drew ei.size i ⟨b,0,none⟩ i cap (olds.take (i*s)) (by rw[Xf,hs,ho];omega) (λj u hj=>by
   rw[add_lit,Xs];rw[Xn]at hj;split at hj
   .exact(jD (w:=w.drew) N4 j).trans (dX j u hj)
   .cases hj)
 have VY:∀ty,(Builtin.append_ #[T,I] ty #[.slice (some ⟨b,0,none⟩) i cap,.int .i64 ((cap:Int)+1-(i:Int))]).run C.P w=
  .ok (.slice (some ⟨w.heap.size,0,none⟩) (cap+1) (grownCap w (cap+1) cap e)) (w.drew.alloc (.cells ((olds.take (i*s)).toArray++Builtin.zeroCells z.cells (cap+1-i)++Builtin.zeroCells z.cells (grownCap w (cap+1) cap e-(cap+1))) e)):=λty=>by
  have h:=Lib.run_append_grow_zeros w T I ty e ei z .i64 .i64 ht htn hi hz (some ⟨b,0,none⟩) i cap (olds.take (i*s)) hold (cap+1-i) (by omega) (by omega) (by omega) (by omega) (by rw[hbs];have:=Zx B (show cap+1-i<=cap+1 by omega);omega) (by rw[hbs,hik];exact growslice_fits (by omega) wP);rw[hik]at h;rw[W9];exact h
 have pz:=grownCap_ge w (cap+1) cap e;have da:=grownCap_le_maxLen w (cap+1) cap e (by unfold maxLen;omega);generalize grownCap w (cap+1) cap e=G at VY pz da;obtain⟨ROW,ad8⟩:∃ROW:Array Value,ROW=(olds.take (i*s)).toArray++Builtin.zeroCells z.cells (cap+1-i)++Builtin.zeroCells z.cells (G-(cap+1)):=⟨_,rfl⟩;rw[<-ad8]at VY;have hRs:ROW.size=G*s:=by
  rw[ad8,Array.size_append,Array.size_append,List.size_toArray,size_zeroCells,size_zeroCells,hzs,Xf,ho];have e1:G=i+(cap+1-i)+(G-(cap+1)):=by omega
  have e2:G*s=i*s+(cap+1-i)*s+(G-(cap+1))*s:=by rw[<-Xp,<-Xp,<-e1]
  omega
 have hRg:∀(k:Nat)(u:Value),k<i*s->olds[k]?=some u->ROW[k]?=some u:=λk u hk hu=>by
  rw[ad8,Array.append_assoc,Array.getElem?_append_left (by simp;omega),Xr,Xn,cq hk];exact hu
 have hG1:=Zx s pz;rw[Xp]at hG1;have RX:=eP N4;have ajA:=eP tm;obtain⟨W1,GN⟩:∃W1,W1=w.drew.alloc (.cells ROW e):=⟨_,rfl⟩;have agi:W1.heap[w.heap.size]?=some (.cells ROW e (0,0)):=by rw[GN];exact iI w.drew _
 have ad9:∀k,k<w.heap.size->W1.heap[k]?=w.heap[k]?:=λk hk=>by rw[GN];show(w.heap.push _)[k]?=_;simp[Array.getElem?_push,Xk hk]
 have hW1s:W1.heap.size=w.heap.size+1:=by rw[GN];show(w.heap.push _).size=_;simp
 have Jq:i*s+vs.length<=ROW.size:=by omega
 have aa2:=mJ Jq;have ab5:(i+1)*s+(olds.drop (i*s)).length<=(nT ROW (i*s) vs).size:=by omega
 have hsz2:=mJ ab5;have hR2:(W1.setRow w.heap.size (nT ROW (i*s) vs)).heap[w.heap.size]?=some (.cells (nT ROW (i*s) vs) e (0,0)):=setRow_heap W1 _ ROW _ e _ agi;refine hG e ei w W1 b w.heap.size cap i vb vc G (nT ROW (i*s) vs) (nT (nT ROW (i*s) vs) ((i+1)*s) (olds.drop (i*s))) _ ht hi hs wo dm wS hm pz da (λty=>by rw[GN];exact VY ty) (λW hW ty dc=>?_) (λW hW ty dc sc=>?_) (λW' h1 h2 h3 h4 h6=>?_)
 .exact sD W T ty e ei ht hi w.heap.size (i*s) _ dc vb 0 1 vc vs hmv (λj u hj=>by
   rw[Xs];exact(jD (by rw[hW,ad9 _ ajA];exact tm) _).trans (hvc _ u hj)) _ e (0,0) (by rw[hW];exact agi) (.inl rfl) Jq v1
 .exact sD W T ty e ei ht hi w.heap.size ((i+1)*s) _ dc b (i*s) _ sc (olds.drop (i*s)) (by rw[hs,Nat.min_self];exact yL) (λj u hj=>by
   rw[Xo]at hj;exact(jD (by rw[hW,setRow_other W1 _ b _ (Xk RX),ad9 _ RX];exact N4) _).trans (dX _ u hj)) _ e (0,0) (by rw[hW];exact hR2) (.inl rfl) ab5 (λu hu=>o1 u (List.mem_of_mem_drop hu))
 .exact Jp (t:=e) (cur':=nT (nT ROW (i*s) vs) ((i+1)*s) (olds.drop (i*s))) (by omega) pz da (by rw[h4];exact setRow_heap _ _ _ _ e _ hR2) (by rw[h1,GN];rfl) (by rw[h2,GN];rfl) (by rw[h3,GN];rfl) (by rw[h4];simp;omega) (by rw[GN]at h6;exact Yp (Yv _) h6) (λk hk=>by rw[h4,setRow_other _ _ k _ (Xk hk),setRow_other _ _ k _ (Xk hk)];exact ad9 k hk) (QU (by omega) (by omega) (by omega) hRg)
end Go.Ae
namespace Go.Proofs.YtmfohnojaginjaaGreatDoor
open Go Go.Ae Go.Proofs.Tryz
def Jr :WE prog 238 48:=λw base n cap vb vc r W Q hn wS hm jj fin=>by
 go_enter func238,ntmps238
 cases base with
 |
  none=>
  go_wp2_with (at_builtin;refine Lib.wpList_append_run _ rfl _ _ _ _ rfl _ _ rfl rfl _ _ (jj _) ?_)
  all_goals exact fin
 |some a=>
  obtain⟨ab,ao,asp⟩:=a
  go_wp2_with (at_builtin;refine Lib.wpList_append_run _ rfl _ _ _ _ rfl _ _ rfl rfl _ _ (jj _) ?_)
  all_goals exact fin
def Js :WS prog 238 360 48 1:=λe ei w W b n cap i vb vc C Q ht hi hs wo oZ mj wS hm hov Jt Ju fin=>by
 have UM:IntKind.i64.wrap ((i:Int)+1)=(i:Int)+1:=by rw[IntKind.wrap_i64];omega
 have hw2:IntKind.i64.wrap ((n:Int)+1)=(n:Int)+1:=by rw[IntKind.wrap_i64];omega
 have vF:(0:Int)<=(i:Int)+1:=by omega
 have hii:i<=n:=by omega
 have htn:((i:Int)+1).toNat=i+1:=by omega
 have aea:((n:Int)+1).toNat=n+1:=by omega
 have BM:¬(cap=i+1):=by omega
 have Ua:(i:Int)<=(n:Int)+1:=by omega
 have hb4:¬(cap=i):=by omega
 have mixed:prog.follows .mixedOrders=true:=by kernel_rfl
 go_enter func238,ntmps238
 simp only[Nat.mul_one]at hov Jt Ju
 go_wp2_with (simp only[hov])
 go_region_law_o (refine iV rfl _ _ 48 48 rfl _ _ (by simp[Act.eval,Act.put]) (by simp[Act.eval,Act.put]) (Jt _ _ _) ?_)
 go_wp2_with (at_builtin;refine gv _ rfl _ _ 48 48 rfl _ _ rfl rfl (Ju _ rfl _ _) ?_)
 exact fin
def Jv :WG prog 238 48 3 1:=λe ei w W b B cap i vb vc G R S Q ht hi hs wo oZ wS hm pz jw VY Jw Jx fin=>by
 have UM:IntKind.i64.wrap ((i:Int)+1)=(i:Int)+1:=by rw[IntKind.wrap_i64];omega
 have hw2:IntKind.i64.wrap ((cap:Int)+1)=(cap:Int)+1:=by rw[IntKind.wrap_i64];omega
 have hw3:IntKind.i64.wrap ((cap:Int)+1-(i:Int))=(cap:Int)+1-(i:Int):=by rw[IntKind.wrap_i64];omega
 have vF:(0:Int)<=(i:Int)+1:=by omega
 have aeb:((i:Int)+1).toNat=i+1:=by omega
 have BM:¬(cap=i):=by omega
 have Ua:(i:Int)<=(cap:Int):=by omega
 have hb4:¬(G=i):=by omega
 have hb5:¬(G=i+1):=by omega
 have Sg:(cap:Int)< (cap:Int)+1:=by omega
 have mixed:prog.follows .mixedOrders=true:=by kernel_rfl
 simp only[Nat.mul_one]at Jw Jx
 go_enter func238,ntmps238
 go_wp2_with (first
  |(at_builtin;refine Lib.wpList_append_run _ rfl _ _ _ _ rfl _ _ rfl rfl _ _ (VY _) ?_)
  |(at_builtin;refine gv _ rfl _ _ 48 48 rfl _ _ rfl rfl (Jw _ rfl _ _) ?_))
 go_region_law_o (refine iV rfl _ _ 48 48 rfl (.slice (some ⟨B,i+1,none⟩) (cap-i) (G-(i+1))) (.slice (some ⟨b,i,none⟩) (cap-i) (cap-i)) (by simp[Act.eval,Act.put]) (by simp[Act.eval,Act.put]) (Jx ((W.setRow B R).drew) rfl 3 (G-(i+1)) (cap-i)) ?_)
 go_wp2
 exact fin _ rfl rfl rfl rfl (by first|exact Nat.le_refl _|exact Nat.le_succ _|(show W.drawn<=W.drawn+1+1;omega))
def Gl :zH cx 238 1 16:=
 Gk (O:=360) (T:=48) (I:=3) (D:=4) (by omega) (by omega) (by kernel_rfl) (by kernel_rfl) ⟨_,func238,of_decide_eq_true (by kernel_rfl),by kernel_rfl⟩
  (λargs w=>run_callFunc_extern func360 (by kernel_rfl) (by kernel_rfl) (by kernel_rfl) (by kernel_rfl) args w) Jr Js Jv
open Go Go.Ae
def QY :WE prog 365 49:=λw base n cap vb vc r W Q hn wS hm jj fin=>by
 go_enter func365,ntmps365
 cases base with
 |
  none=>
  go_wp2_with (at_builtin;refine Lib.wpList_append_run _ rfl _ _ _ _ rfl _ _ rfl rfl _ _ (jj _) ?_)
  all_goals exact fin
 |some a=>
  obtain⟨ab,ao,asp⟩:=a
  go_wp2_with (at_builtin;refine Lib.wpList_append_run _ rfl _ _ _ _ rfl _ _ rfl rfl _ _ (jj _) ?_)
  all_goals exact fin
def QZ :WS prog 365 443 49 6:=λe ei w W b n cap i vb vc C Q ht hi hs wo oZ mj wS hm hov Jt Ju fin=>by
 have UM:IntKind.i64.wrap ((i:Int)+1)=(i:Int)+1:=by rw[IntKind.wrap_i64];omega
 have hw2:IntKind.i64.wrap ((n:Int)+1)=(n:Int)+1:=by rw[IntKind.wrap_i64];omega
 have vF:(0:Int)<=(i:Int)+1:=by omega
 have hii:i<=n:=by omega
 have htn:((i:Int)+1).toNat=i+1:=by omega
 have aea:((n:Int)+1).toNat=n+1:=by omega
 have BM:¬(cap=i+1):=by omega
 have Ua:(i:Int)<=(n:Int)+1:=by omega
 have hb4:¬(cap=i):=by omega
 have mixed:prog.follows .mixedOrders=true:=by kernel_rfl
 go_enter func365,ntmps365
 go_wp2_with (simp only[hov])
 go_region_law_o (refine iV rfl _ _ 49 49 rfl _ _ (by simp[Act.eval,Act.put]) (by simp[Act.eval,Act.put]) (Jt _ _ _) ?_)
 go_wp2_with (at_builtin;refine gv _ rfl _ _ 49 49 rfl _ _ rfl rfl (Ju _ rfl _ _) ?_)
 exact fin
def Q0 :WG prog 365 49 3 6:=λe ei w W b B cap i vb vc G R S Q ht hi hs wo oZ wS hm pz jw VY Jw Jx fin=>by
 have UM:IntKind.i64.wrap ((i:Int)+1)=(i:Int)+1:=by rw[IntKind.wrap_i64];omega
 have hw2:IntKind.i64.wrap ((cap:Int)+1)=(cap:Int)+1:=by rw[IntKind.wrap_i64];omega
 have hw3:IntKind.i64.wrap ((cap:Int)+1-(i:Int))=(cap:Int)+1-(i:Int):=by rw[IntKind.wrap_i64];omega
 have vF:(0:Int)<=(i:Int)+1:=by omega
 have aeb:((i:Int)+1).toNat=i+1:=by omega
 have BM:¬(cap=i):=by omega
 have Ua:(i:Int)<=(cap:Int):=by omega
 have hb4:¬(G=i):=by omega
 have hb5:¬(G=i+1):=by omega
 have Sg:(cap:Int)< (cap:Int)+1:=by omega
 have mixed:prog.follows .mixedOrders=true:=by kernel_rfl
 go_enter func365,ntmps365
 go_wp2_with (first
  |(at_builtin;refine Lib.wpList_append_run _ rfl _ _ _ _ rfl _ _ rfl rfl _ _ (VY _) ?_)
  |(at_builtin;refine gv _ rfl _ _ 49 49 rfl _ _ rfl rfl (Jw _ rfl _ _) ?_))
 go_region_law_o (refine iV rfl _ _ 49 49 rfl (.slice (some ⟨B,(i+1)*6,none⟩) (cap-i) (G-(i+1))) (.slice (some ⟨b,i*6,none⟩) (cap-i) (cap-i)) (by simp[Act.eval,Act.put]) (by simp[Act.eval,Act.put]) (Jx ((W.setRow B R).drew) rfl 3 (G-(i+1)) (cap-i)) ?_)
 go_wp2
 exact fin _ rfl rfl rfl rfl (by first|exact Nat.le_refl _|exact Nat.le_succ _|(show W.drawn<=W.drawn+1+1;omega))
def L5 :zH cx 365 6 80:=
 Gk (O:=443) (T:=49) (I:=3) (D:=4) (by omega) (by omega) (by kernel_rfl) (by kernel_rfl) ⟨_,func365,of_decide_eq_true (by kernel_rfl),by kernel_rfl⟩
  (λargs w=>run_callFunc_extern func443 (by kernel_rfl) (by kernel_rfl) (by kernel_rfl) (by kernel_rfl) args w) QY QZ Q0
open Go Go.Ae
def Q1 :WE prog 235 23:=λw base n cap vb vc r W Q hn wS hm jj fin=>by
 go_enter func235,ntmps235
 cases base with
 |
  none=>
  go_wp2_with (at_builtin;refine Lib.wpList_append_run _ rfl _ _ _ _ rfl _ _ rfl rfl _ _ (jj _) ?_)
  all_goals exact fin
 |some a=>
  obtain⟨ab,ao,asp⟩:=a
  go_wp2_with (at_builtin;refine Lib.wpList_append_run _ rfl _ _ _ _ rfl _ _ rfl rfl _ _ (jj _) ?_)
  all_goals exact fin
def Q2 :WS prog 235 356 23 3:=λe ei w W b n cap i vb vc C Q ht hi hs wo oZ mj wS hm hov Jt Ju fin=>by
 have UM:IntKind.i64.wrap ((i:Int)+1)=(i:Int)+1:=by rw[IntKind.wrap_i64];omega
 have hw2:IntKind.i64.wrap ((n:Int)+1)=(n:Int)+1:=by rw[IntKind.wrap_i64];omega
 have vF:(0:Int)<=(i:Int)+1:=by omega
 have hii:i<=n:=by omega
 have htn:((i:Int)+1).toNat=i+1:=by omega
 have aea:((n:Int)+1).toNat=n+1:=by omega
 have BM:¬(cap=i+1):=by omega
 have Ua:(i:Int)<=(n:Int)+1:=by omega
 have hb4:¬(cap=i):=by omega
 have mixed:prog.follows .mixedOrders=true:=by kernel_rfl
 go_enter func235,ntmps235
 go_wp2_with (simp only[hov])
 go_region_law_o (refine iV rfl _ _ 23 23 rfl _ _ (by simp[Act.eval,Act.put]) (by simp[Act.eval,Act.put]) (Jt _ _ _) ?_)
 go_wp2_with (at_builtin;refine gv _ rfl _ _ 23 23 rfl _ _ rfl rfl (Ju _ rfl _ _) ?_)
 exact fin
def Q3 :WG prog 235 23 3 3:=λe ei w W b B cap i vb vc G R S Q ht hi hs wo oZ wS hm pz jw VY Jw Jx fin=>by
 have UM:IntKind.i64.wrap ((i:Int)+1)=(i:Int)+1:=by rw[IntKind.wrap_i64];omega
 have hw2:IntKind.i64.wrap ((cap:Int)+1)=(cap:Int)+1:=by rw[IntKind.wrap_i64];omega
 have hw3:IntKind.i64.wrap ((cap:Int)+1-(i:Int))=(cap:Int)+1-(i:Int):=by rw[IntKind.wrap_i64];omega
 have vF:(0:Int)<=(i:Int)+1:=by omega
 have aeb:((i:Int)+1).toNat=i+1:=by omega
 have BM:¬(cap=i):=by omega
 have Ua:(i:Int)<=(cap:Int):=by omega
 have hb4:¬(G=i):=by omega
 have hb5:¬(G=i+1):=by omega
 have Sg:(cap:Int)< (cap:Int)+1:=by omega
 have mixed:prog.follows .mixedOrders=true:=by kernel_rfl
 go_enter func235,ntmps235
 go_wp2_with (first
  |(at_builtin;refine Lib.wpList_append_run _ rfl _ _ _ _ rfl _ _ rfl rfl _ _ (VY _) ?_)
  |(at_builtin;refine gv _ rfl _ _ 23 23 rfl _ _ rfl rfl (Jw _ rfl _ _) ?_))
 go_region_law_o (refine iV rfl _ _ 23 23 rfl (.slice (some ⟨B,(i+1)*3,none⟩) (cap-i) (G-(i+1))) (.slice (some ⟨b,i*3,none⟩) (cap-i) (cap-i)) (by simp[Act.eval,Act.put]) (by simp[Act.eval,Act.put]) (Jx ((W.setRow B R).drew) rfl 3 (G-(i+1)) (cap-i)) ?_)
 go_wp2
 exact fin _ rfl rfl rfl rfl (by first|exact Nat.le_refl _|exact Nat.le_succ _|(show W.drawn<=W.drawn+1+1;omega))
def L6 :zH cx 235 3 56:=
 Gk (O:=356) (T:=23) (I:=3) (D:=4) (by omega) (by omega) (by kernel_rfl) (by kernel_rfl) ⟨_,func235,of_decide_eq_true (by kernel_rfl),by kernel_rfl⟩
  (λargs w=>run_callFunc_extern func356 (by kernel_rfl) (by kernel_rfl) (by kernel_rfl) (by kernel_rfl) args w) Q1 Q2 Q3
open Go Go.Ae
def Q4 :WE prog 242 24:=λw base n cap vb vc r W Q hn wS hm jj fin=>by
 go_enter func242,ntmps242
 cases base with
 |
  none=>
  go_wp2_with (at_builtin;refine Lib.wpList_append_run _ rfl _ _ _ _ rfl _ _ rfl rfl _ _ (jj _) ?_)
  all_goals exact fin
 |some a=>
  obtain⟨ab,ao,asp⟩:=a
  go_wp2_with (at_builtin;refine Lib.wpList_append_run _ rfl _ _ _ _ rfl _ _ rfl rfl _ _ (jj _) ?_)
  all_goals exact fin
def Q5 :WS prog 242 368 24 5:=λe ei w W b n cap i vb vc C Q ht hi hs wo oZ mj wS hm hov Jt Ju fin=>by
 have UM:IntKind.i64.wrap ((i:Int)+1)=(i:Int)+1:=by rw[IntKind.wrap_i64];omega
 have hw2:IntKind.i64.wrap ((n:Int)+1)=(n:Int)+1:=by rw[IntKind.wrap_i64];omega
 have vF:(0:Int)<=(i:Int)+1:=by omega
 have hii:i<=n:=by omega
 have htn:((i:Int)+1).toNat=i+1:=by omega
 have aea:((n:Int)+1).toNat=n+1:=by omega
 have BM:¬(cap=i+1):=by omega
 have Ua:(i:Int)<=(n:Int)+1:=by omega
 have hb4:¬(cap=i):=by omega
 have mixed:prog.follows .mixedOrders=true:=by kernel_rfl
 go_enter func242,ntmps242
 go_wp2_with (simp only[hov])
 go_region_law_o (refine iV rfl _ _ 24 24 rfl _ _ (by simp[Act.eval,Act.put]) (by simp[Act.eval,Act.put]) (Jt _ _ _) ?_)
 go_wp2_with (at_builtin;refine gv _ rfl _ _ 24 24 rfl _ _ rfl rfl (Ju _ rfl _ _) ?_)
 exact fin
def Q6 :WG prog 242 24 3 5:=λe ei w W b B cap i vb vc G R S Q ht hi hs wo oZ wS hm pz jw VY Jw Jx fin=>by
 have UM:IntKind.i64.wrap ((i:Int)+1)=(i:Int)+1:=by rw[IntKind.wrap_i64];omega
 have hw2:IntKind.i64.wrap ((cap:Int)+1)=(cap:Int)+1:=by rw[IntKind.wrap_i64];omega
 have hw3:IntKind.i64.wrap ((cap:Int)+1-(i:Int))=(cap:Int)+1-(i:Int):=by rw[IntKind.wrap_i64];omega
 have vF:(0:Int)<=(i:Int)+1:=by omega
 have aeb:((i:Int)+1).toNat=i+1:=by omega
 have BM:¬(cap=i):=by omega
 have Ua:(i:Int)<=(cap:Int):=by omega
 have hb4:¬(G=i):=by omega
 have hb5:¬(G=i+1):=by omega
 have Sg:(cap:Int)< (cap:Int)+1:=by omega
 have mixed:prog.follows .mixedOrders=true:=by kernel_rfl
 go_enter func242,ntmps242
 go_wp2_with (first
  |(at_builtin;refine Lib.wpList_append_run _ rfl _ _ _ _ rfl _ _ rfl rfl _ _ (VY _) ?_)
  |(at_builtin;refine gv _ rfl _ _ 24 24 rfl _ _ rfl rfl (Jw _ rfl _ _) ?_))
 go_region_law_o (refine iV rfl _ _ 24 24 rfl (.slice (some ⟨B,(i+1)*5,none⟩) (cap-i) (G-(i+1))) (.slice (some ⟨b,i*5,none⟩) (cap-i) (cap-i)) (by simp[Act.eval,Act.put]) (by simp[Act.eval,Act.put]) (Jx ((W.setRow B R).drew) rfl 3 (G-(i+1)) (cap-i)) ?_)
 go_wp2
 exact fin _ rfl rfl rfl rfl (by first|exact Nat.le_refl _|exact Nat.le_succ _|(show W.drawn<=W.drawn+1+1;omega))
def L7 :zH cx 242 5 64:=
 Gk (O:=368) (T:=24) (I:=3) (D:=4) (by omega) (by omega) (by kernel_rfl) (by kernel_rfl) ⟨_,func242,of_decide_eq_true (by kernel_rfl),by kernel_rfl⟩
  (λargs w=>run_callFunc_extern func368 (by kernel_rfl) (by kernel_rfl) (by kernel_rfl) (by kernel_rfl) args w) Q4 Q5 Q6
end Go.Proofs.YtmfohnojaginjaaGreatDoor
