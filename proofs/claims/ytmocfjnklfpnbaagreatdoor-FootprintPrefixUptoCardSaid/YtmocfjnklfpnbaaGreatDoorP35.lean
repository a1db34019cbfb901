/- 'slices.SortFunc' on rows that are known: a permutation of them, in order. -/
import Derived.Test.YtmocfjnklfpnbaaGreatDoorP34
set_option linter.all false
set_option maxRecDepth 100000
namespace Go.Ae
open Go List
structure WeakC {α:Type}(cmp:α→α→Int)(l:List α):Prop where
 irr:∀x∈l,¬cmp x x<0
 tr:∀x∈l,∀y∈l,∀z∈l,cmp x y<0→cmp y z<0→cmp x z<0
 ntr:∀x∈l,∀y∈l,∀z∈l,¬cmp x y<0→¬cmp y z<0→¬cmp x z<0
theorem TotC.weak {α β:Type}{cmp:α→α→Int}(h:TotC cmp)(f:β→α)(l:List β):WeakC (fun a b=>cmp (f a) (f b)) l where
 irr:=fun x _=>h.irr _
 tr:=fun x _ y _ z _=>h.tr _ _ _
 ntr:=fun x _ y _ z _ h1 h2 h3=>by
  by_cases e1:cmp (f x) (f y)=0
  ·rw[(h.zero _ _).1 e1]at h3;exact h2 h3
  ·have a1:cmp (f y) (f x)<0:=(h.neg _ _).2 (by omega);exact h2 (h.tr _ _ _ a1 h3)
theorem sortQ_up {m:Nat}{cf:Nat→Nat→Int}(h:SWOn m cf):(sortQ m cf).Pairwise fun i j=>¬cf j.1 i.1<0:=by
 have hs:=(Sort.pdq_sorts _ h (Array.ofFn fun i:Fin (m+1)=>i) 0 (m+1) (Lib.bitLen (m+1)) true true (Nat.zero_le _) (by simp) (Or.inl rfl)).2;have hz:(sortQ m cf).length=m+1:=by rw[(sortQ_perm h).length_eq,List.length_ofFn]
 rw[List.pairwise_iff_getElem];intro i j hi hj hij;have:=hs i j (Nat.zero_le _) hij (by omega);unfold sortQ at hi hj;rw[getElem!_pos _ i (by simpa using hi),getElem!_pos _ j (by simpa using hj)]at this;have h2:=of_decide_eq_false this;unfold sortQ;rw[Array.getElem_toList,Array.getElem_toList];exact h2
theorem rowAt_flat {α:Type}{enc:α→List AV}{s:Nat}(hs:∀x,(enc x).length=s)(rest:List AV):∀(l:List α) (i:Nat) (hi:i<l.length),rowAt s 0 (l.flatMap enc++rest) i=enc l[i]
 |
  x::l,0,_=>by
  unfold rowAt;rw[List.flatMap_cons,Zp,Nat.zero_mul,Nat.zero_add,Yf,List.take_append_of_le_length (by rw[hs];exact Nat.le_refl _),←hs x,List.take_length];rfl
 |
  x::l,i+1,hi=>by
  have:=rowAt_flat hs rest l i (by simpa using hi);unfold rowAt at this⊢;rw[List.flatMap_cons,Zp,Nat.add_mul,Nat.one_mul,Nat.zero_add,Nat.add_comm (i*s),←List.drop_drop,←hs x,List.drop_left];rw[Nat.zero_add,hs x]at *;simpa using this
theorem mapM_all {α β:Type}{f:α→Option β}{g:α→β}:∀(l:List α),(∀x∈l,f x=some (g x))→l.mapM f=some (l.map g)
 | [],_=>rfl
 |
  x::l,h=>by
  rw[Zo,h x (by simp),mapM_all l fun y hy=>h y (List.mem_cons_of_mem _ hy)];rfl
theorem sfn_rows {α:Type}[Inhabited α]{call:FuncId→List AV→Hp→Option (AV × Hp)}{k:Nat}{h:Hp}{id:Nat}{b:Bool}{g:FuncId}(enc:α→List AV)(se:α→AV)(cmp:α→α→Int)(l:List α)(rest:List AV)
 (henc:∀x,(enc x).length=szK k) (hid:h[id]?=some (.row (l.flatMap enc++rest))) (hlen:l.length<4611686018427387904) (hsn:∀x∈l,snap (h.set id .dead) 8 (eltA k (enc x))=some (se x))
 (hcall:∀x∈l,∀y∈l,∃h',call g [se x,se y] []=some (.sc (.int .i64 (cmp x y)),h')) (hw:WeakC cmp l):
 ∃r:List α,r ~ l∧(r.Pairwise fun a b=>¬cmp b a<0)∧sfnA call k h [.sl id (szK k) 0 l.length b,.fn g []]=some (.tp [],h.set id (.row (r.flatMap enc++rest))):=by
 cases hl:l with
 |
  nil=>
  subst hl;refine⟨[],List.Perm.refl _,List.Pairwise.nil,?_⟩;unfold sfnA;have hset:h.set id (.row (([]:List α).flatMap enc++rest))=h:=by
   apply List.ext_getElem?;intro j;rw[List.getElem?_set];split
   ·rename_i e;subst e;have:=(Za.1 hid).1;rw[if_pos this,hid]
   ·rfl
  simp only[hid,List.length_nil,hset]
 |
  cons x0 l0=>
  obtain⟨m,hm⟩:∃m,l.length=m+1:=⟨l0.length,by rw[hl];rfl⟩;rw[←hl];have hfl:∀l:List α,(l.flatMap enc).length=l.length*szK k:=fun l=>flat_len henc l
  have hat:∀i,i≤m→∃x∈l,l[i]?=some x:=fun i hi=>⟨l[i]'(by omega),List.getElem_mem _,Zb _⟩
  have hss:(List.range (m+1)).mapM (fun i=>snap (h.set id .dead) 8 (eltA k (rowAt (szK k) 0 (l.flatMap enc++rest) i)))=some ((List.range (m+1)).map fun i=>se l[i]!):=by
   refine mapM_all _ fun i hi=>?_
   have hi':i<l.length:=by rw[hm];simpa using hi
   rw[rowAt_flat henc rest l i hi',hsn _ (List.getElem_mem _),getElem!_pos l i hi']
  have hsd:∀i,i≤m→((List.range (m+1)).map fun i=>se l[i]!).getD i .ud=se l[i]!:=fun i hi=>by
   simp[List.getD,show i<m+1 by omega]
  have hmem:∀i,i≤m→l[i]!∈l:=fun i hi=>by rw[getElem!_pos l i (by omega)];exact List.getElem_mem _
  have hcv:∀i j,i≤m→j≤m→cfV call g ((List.range (m+1)).map fun i=>se l[i]!) i j=cmp l[i]! l[j]!:=fun i j hi hj=>by
   obtain⟨h',e⟩:=hcall _ (hmem i hi) _ (hmem j hj);unfold cfV;rw[hsd i hi,hsd j hj,e]
  have hswo:SWOn m (cfV call g ((List.range (m+1)).map fun i=>se l[i]!)):=by
   unfold SWOn;have hb:∀i:Fin (m+1),i.1≤m:=fun i=>by omega
   constructor
   ·intro i;rw[hcv _ _ (hb i) (hb i)];exact decide_eq_false (hw.irr _ (hmem _ (hb i)))
   ·intro i j q h1 h2;rw[hcv _ _ (hb _) (hb _)]at h1 h2⊢;exact decide_eq_true (hw.tr _ (hmem _ (hb _)) _ (hmem _ (hb _)) _ (hmem _ (hb _)) (of_decide_eq_true h1) (of_decide_eq_true h2))
   ·intro i j q h1 h2;rw[hcv _ _ (hb _) (hb _)]at h1 h2⊢;exact decide_eq_false (hw.ntr _ (hmem _ (hb _)) _ (hmem _ (hb _)) _ (hmem _ (hb _)) (of_decide_eq_false h1) (of_decide_eq_false h2))
  have hcmp:cmpB call g ((List.range (m+1)).map fun i=>se l[i]!) m=true:=by
   have hok:CmpOK call g ((List.range (m+1)).map fun i=>se l[i]!) m:=⟨fun i j hi hj=>by
    rw[hcv i j hi hj,hsd i hi,hsd j hj];exact hcall _ (hmem i hi) _ (hmem j hj),hswo⟩
   exact cmpB_of hok
  have hperm:=sortQ_perm hswo;have hofn:(List.ofFn fun i:Fin (m+1)=>i).map (fun i=>l[i.1]!)=l:=by
   apply List.ext_getElem
   ·simp[hm]
   ·intro i h1 h2;rw[List.getElem_map,List.getElem_ofFn,getElem!_pos l i h2]
  refine⟨(sortQ m (cfV call g ((List.range (m+1)).map fun i=>se l[i]!))).map (fun i=>l[i.1]!),?_,?_,?_⟩
  ·exact(hperm.map _).trans (by rw[hofn])
  ·rw[List.pairwise_map];have:=sortQ_up hswo;have g:∀{i j:Fin (m+1)},¬cfV call g ((List.range (m+1)).map fun i=>se l[i]!) j.1 i.1<0→¬cmp l[j.1]! l[i.1]!<0:=fun{i j} q=>by
    rw[hcv _ _ (by omega) (by omega)]at q;exact q
   exact List.Pairwise.imp g this
  ·unfold sfnA;simp only[hid,hm];rw[if_pos ⟨trivial,by rw[Zu,hfl,hm];omega,by omega⟩,hss];simp only[hcmp,if_true];rw[sortP_eq hswo];have e1:(sortQ m (cfV call g ((List.range (m+1)).map fun i=>se l[i]!))).flatMap (fun i=>rowAt (szK k) 0 (l.flatMap enc++rest) i.1)=((sortQ m (cfV call g ((List.range (m+1)).map fun i=>se l[i]!))).map (fun i=>l[i.1]!)).flatMap enc:=by
    rw[List.flatMap_map]
    congr 1
    funext i
    have hi:i.1<l.length:=by omega
    rw[rowAt_flat henc rest l i.1 hi,getElem!_pos l i.1 hi]
   have e2:(l.flatMap enc++rest).drop ((m+1)*szK k)=rest:=by rw[←hm,←hfl,List.drop_left]
   rw[e1,List.take_zero,Zw,Nat.zero_add,e2]
end Go.Ae
namespace Go.Proofs.YtmocfjnklfpnbaaGreatDoor
open Go Go.Ae
instance : Inhabited Pr:=⟨⟨0,⟨#[]⟩,⟨#[]⟩,zV⟩⟩
theorem ordP_self (a:Pr):ordP a a=0:=by have:=ordP_neg a a;omega
theorem ordP_weak (L:List Pr):WeakC ordP L where
 irr:=fun x _ h=>by rw[ordP_self]at h;omega
 tr:=fun x _ y _ z _ h1 h2=>by
  rcases ordP_all.zeros (a:=x) (b:=y) (c:=z) trivial trivial trivial (by omega) (by omega)with h|⟨_,h,_⟩<;>omega
 ntr:=fun x _ y _ z _ h1 h2 h3=>by
  have a1:=ordP_neg x y;have a2:=ordP_neg y z;have a3:=ordP_neg x z;have:=ordP_tr z y x (by omega) (by omega);omega
theorem pdQ_flat (L:List Pr):(pdQ L).flatten=L.flatMap encP:=by unfold pdQ;rw[List.flatMap_def]
theorem pd_call (N D:Nat)(p q:Pr)(hp:dep p.v≤D∧bdV p.v)(hq:dep q.v≤D∧bdV q.v)(b:Bool)(h:Hp):callN cx (N+2*D+9) b 14 [evP p,evP q] h=some (.sc (.int .i64 (ordP p q)),h):=by
 refine fp_Order (N+2*D+6) p q b h (ordV p.v q.v) fun b h=>?_
 have:=C_Order_all D p.v q.v hp.1 hq.1 hp.2 hq.2 (N+1) b h;rw[show N+1+2*D+7=N+2*D+6+2 by omega]at this;exact this
theorem sort_rows (N D:Nat)(b:Bool)(id:Nat)(L:List Pr)(rest:List AV)(h:Hp)(hid:h[id]?=some (.row (L.flatMap encP++rest)))(hl:L.length≤1000000000)(hb:∀p∈L,dep p.v≤D∧bdV p.v):
 ∃r:List Pr,r.Perm L∧callN cx (N+2*D+9+1) b 18 [.sl id 8 0 L.length false,.fn 14 []] h=some (.tp [],h.set id (.row (r.flatMap encP++rest))):=by
 have hc:=fun x (hx:x∈L) y (hy:y∈L)=>pd_call N D x y (hb x hx) (hb y hy) false []
 generalize N+2*D+9=M at hc⊢;obtain⟨r,p1,p2,p3⟩:=sfn_rows (call:=callN cx M false) (k:=8) (h:=h) (id:=id) (b:=false) (g:=14) encP evP ordP L rest (fun p=>encP_length p) hid (by omega) (fun x _=>snap_of_calm (n:=6) (calm_evP x)) (fun x hx y hy=>⟨[],hc x hx y hy⟩) (ordP_weak L);refine⟨r,p1,?_⟩;have e1:cx.srt 18 =none:=rfl;have e2:cx.inl 18 =true:=by kernel_rfl
 have e3:cx.ins 18 =some (8,0):=by kernel_rfl
 simp only[callN,e1,e2,e3,if_true];exact p3
theorem sort_nilP (n:Nat)(b:Bool)(h:Hp):callN cx (n+1) b 18 [.sc (.slice none 0 0),.fn 14 []] h=some (.tp [],h):=by
 have e1:cx.srt 18 =none:=rfl;have e2:cx.inl 18 =true:=by kernel_rfl
 have e3:cx.ins 18 =some (8,0):=by kernel_rfl
 simp only[callN,e1,e2,e3,if_true];rfl
theorem rd_sort (N D:Nat)(b:Bool)(L:List Pr)(y:AV)(h:Hp)(hy:Bld h 8 (pdQ L) y)(hl:L.length≤1000000000)(hb:∀p∈L,dep p.v≤D∧bdV p.v):
 ∃(r:List Pr) (h':Hp),r.Perm L∧callN cx (N+2*D+9+1) b 18 [y,.fn 14 []] h=some (.tp [],h')∧Bld h' 8 (pdQ r) y∧(∀j,(∀k n,y= .sl k 8 0 n false→j≠k)→h'[j]?=h[j]?):=by
 rcases hy with⟨h1,rfl⟩|⟨h1,id,rfl,hid⟩
 ·exact⟨L,h,.refl _,sort_nilP _ b h,.inl ⟨h1,rfl⟩,fun _ _=>rfl⟩
 ·have hid0:h[id]?=some (.row (L.flatMap encP++[])):=by rw[Yk,←pdQ_flat];exact hid
  obtain⟨r,p1,p3⟩:=sort_rows N D b id L [] h hid0 hl hb;rw[Yk,←pdQ_flat]at p3;rw[pdQ_length];refine⟨r,h.set id (.row (pdQ r).flatten),p1,p3,.inr ⟨?_,id,?_,?_⟩,fun j hj=>?_⟩
  ·intro e;apply h1;have:=p1.length_eq;rw[←pdQ_length,e]at this;have h0:L=[]:=Zl (by rw[←this];rfl);rw[h0];rfl
  ·rw[pdQ_length,p1.length_eq]
  ·rw[Zj (Za.1 hid).1]
  ·rw[Zq (fun e=>hj id _ rfl e.symm)]
section
attribute [local simp] aop aopW coldF extF putA ofConst flat scalarOp fastOp binFast intOp strOp guardX Ae.part rowOf szOk natOf lenA cls fillA newsOf isNilC cellX
set_option maxHeartbeats 32000000
def SO (id hc:Nat)(yk:AV)(rp:List (List AV))(m i:Nat)(row:List AV)(fr:List AV)(h:Hp):Prop:=fr.length=70∧gt fr 0= .pt id 0∧gt fr 2=yk∧gt fr 4= .pt hc 0∧gt fr 13= .ls 3 rp false∧gt fr 14= .sc (.int .i64 (m:Nat))∧gt fr 15= .sc (.int .i64 (i:Nat))∧h[hc]?=some (.row row)∧Free id hc h
noncomputable def kIN :Code:=cL (cL (cR (cR (cL (cL (cT 2 kRP))))))
theorem pr_path (D d M id hc:Nat)(K:Sco)(yk:AV)(hyk:yk=bldV 2 (coR K))(hK24:K.length≤24)(kd:Int)(l:List Tp)(hlL:l.length≤100000000)(i:Nat)(p:Tp)(hx:l[i]?=some p)(row:List AV)(hrow:row[0]?=some (.sc (.int .i64 kd)))(hb:brT D d p)(hn:2*D+d+20≤M)(h0:Hp)(l0:List Pr)(hl0:l0.length+mTp p≤1000000000)(fr:List AV)(h:Hp)(hS:SO id hc yk (tpR l) l.length i row fr h)(hR:RS id l0 h)(hK:KR id h0 h):
 PI (SO id hc yk (tpR l) l.length i row) id (l0++pthR kd K p) h0 (exec2 cx (callN cx M) kIN (fr,h)):=by
 obtain⟨hbn,hbe,hln,hle⟩:=hb;rw[show kIN= .seq (cL kIN) (.seq (cL (cR kIN)) (.seq (cL (cR (cR kIN))) (cR (cR (cR kIN))))) by kernel_rfl];have c1:=fun jp vr re l0 fr h hl0 hS hR hK=>pr_nodes D d M id hc jp K yk hyk hK24 kd (tpR l) l.length i row hrow vr (npR p.nodes) re p.nodes (npR_length _) (npR_get _) hln hbn hn h0 l0 hl0 fr h hS hR hK
 have c2:=fun jp vr rn l0 fr h hl0 hS hR hK h9=>pr_edges D d M id hc jp K yk hyk hK24 kd (tpR l) l.length i row hrow vr rn (gpR p.edges) p.edges (gpR_length _) (gpR_get _) hle hbe hn h0 l0 hl0 fr h hS hR hK h9
 rw[show cL (cR (cL (cL (cR (cR (cL (cL (cT 2 kRP))))))))=cL (cR kIN)from rfl]at c1;rw[show cR (cR (cR (cL (cL (cR (cR (cL (cL (cT 2 kRP)))))))))=cR (cR (cR kIN))from rfl]at c2;have hi:=(Za.1 hx).1;obtain⟨p',hx',hr,hr'⟩:=row_get (tpR_get l) hi;obtain rfl:p=p':=by rw[hx]at hx';injection hx'
 have hq:=tpR_length l;have hqe:=gpR_length p.edges;obtain⟨hlen,g0,g2,g4,g13,g14,g15,gc,gcF⟩:=hS;have hlt:=hR.lt;have hyp:∀v,yk≠ .pn v:=fun v=>by rw[hyk];unfold bldV;split<;>simp
 unfold encTp at hr hr';have r3:∃fr',exec2 cx (callN cx M) (cL kIN) (fr,h)=some (.normal,(fr',h++[.row [.sc (.string p.var),.ls 3 (npR p.nodes) false,.ls 7 (gpR p.edges) false]]))∧fr'.length=70∧gt fr' 0= .pt id 0∧gt fr' 2=yk∧gt fr' 4= .pt hc 0∧gt fr' 7= .pt h.length 0∧gt fr' 13= .ls 3 (tpR l) false∧gt fr' 14= .sc (.int .i64 (l.length:Nat))∧gt fr' 15= .sc (.int .i64 (i:Nat)):=by
  generalize npR p.nodes=rn at *;generalize gpR p.edges=re at *;generalize tpR l=rows at *;simp[kIN,kRP,cT,cR,cL,Tryz.f43,hlen,g13,g14,g15,hi,hq,hr,hr',spl3,g0,g2,g4]
 obtain⟨fr3,r3,hlen3,k0,k2,k4,k7,k13,k14,k15⟩:=r3;have hS3:SR id hc h.length yk (tpR l) l.length i row [.sc (.string p.var),.ls 3 (npR p.nodes) false,.ls 7 (gpR p.edges) false] fr3 (h++[.row [.sc (.string p.var),.ls 3 (npR p.nodes) false,.ls 7 (gpR p.edges) false]]):=
  ⟨hlen3,k0,k2,k4,k7,k13,k14,k15,⟨get_app _ gc,free_app _ hlt gcF⟩,by simp,hR.free _⟩
 have hmt:mTp p=(p.nodes.map mNo).sum+(p.edges.map mEd).sum:=rfl;obtain⟨fr4,h4,f4,hS4,hR4,hK4⟩:=c1 h.length p.var (gpR p.edges) l0 fr3 _ (by omega) hS3 (hR.app _) (hK.trans (KR.app _ hlt));have hnl:(p.nodes.flatMap (nodQ kd K)).length≤(p.nodes.map mNo).sum:=by
  generalize p.nodes=L
  induction L with
  |nil=>simp
  |cons x L ih=>have:=nodQ_len kd K x;rw[List.flatMap_cons,List.map_cons,List.sum_cons,Zu];omega
 have r13:∃fr',exec2 cx (callN cx M) (cL (cR (cR kIN))) (fr4,h4)=some (.normal,(fr',h4))∧SR id hc h.length yk (tpR l) l.length i row [.sc (.string p.var),.ls 3 (npR p.nodes) false,.ls 7 (gpR p.edges) false] fr' h4∧gt fr' 52= .ls 7 (gpR p.edges) false∧gt fr' 53= .sc (.int .i64 ((gpR p.edges).length:Nat))∧gt fr' 54= .sc (.int .i64 (0:Nat)):=by
  obtain⟨hlen,g0,g2,g4,g7,g13,g14,g15,⟨gc,gcF⟩,gp,gpF⟩:=hS4;generalize npR p.nodes=rn at *;generalize gpR p.edges=re at *;generalize tpR l=rows at *;clear f4 c1 c2 r3 hS3 hR4 hK4;generalize h.length=jp at *;simp[kIN,kRP,cT,cR,cL,Tryz.f43,hlen,g7,gp];exact⟨by simp[hlen],by simp[g0],by simp[g2],by simp[g4],by simp[g7],by simp[g13],by simp[g14],by simp[g15],⟨gc,gcF⟩,gp,gpF⟩
 obtain⟨fr5,r13,hS5,h9⟩:=r13;obtain⟨fr6,h6,f6,hS6,hR6,hK6⟩:=c2 h.length p.var (npR p.nodes) _ fr5 h4 (by rw[Zu];omega) hS5 hR4 hK4 h9;rw[Zp]at hR6;generalize cL kIN=Z1 at *;generalize cL (cR kIN)=Z2 at *;generalize cL (cR (cR kIN))=Z3 at *;generalize cR (cR (cR kIN))=Z4 at *;refine⟨fr6,h6,by simp[r3,f4,r13,f6],?_,hR6,hK6⟩;obtain⟨hlen,g0,g2,g4,g7,g13,g14,g15,⟨gc,gcF⟩,gp,gpF⟩:=hS6;exact⟨hlen,g0,g2,g4,g13,g14,g15,gc,gcF⟩
theorem pthR_len (kd:Int)(K:Sco)(p:Tp):(pthR kd K p).length≤mTp p:=by
 unfold pthR mTp;rw[Zu];have h1:(p.nodes.flatMap (nodQ kd K)).length≤(p.nodes.map mNo).sum:=by
  generalize p.nodes=L
  induction L with
  |nil=>simp
  |cons x L ih=>have:=nodQ_len kd K x;rw[List.flatMap_cons,List.map_cons,List.sum_cons,Zu];omega
 have h2:(p.edges.flatMap (edgQ kd)).length≤(p.edges.map mEd).sum:=by
  generalize p.edges=L
  induction L with
  |nil=>simp
  |cons x L ih=>have:=edgQ_len kd x;rw[List.flatMap_cons,List.map_cons,List.sum_cons,Zu];omega
 omega
theorem rd_paths (D d n:Nat)(t:Bool)(id:Nat)(K:Sco)(hK24:K.length≤24)(l0:List Pr)(c:Cp)(h:Hp)(hS:RS id l0 h)(hb:∀p∈c.paths,brT D d p)(hpl:c.paths.length≤100000000)(hl:l0.length+(c.paths.map mTp).sum≤1000000000)(hn:2*D+d+21≤n):
 ∃h',callN cx n t 43 [.pt id 0,.ag (encCp c),bldV 2 (coR K)] h=some (.tp [],h')∧RS id (l0++c.paths.flatMap (pthR c.kind K)) h'∧KR id h h':=by
 obtain⟨M,rfl⟩:∃m,n=m+1:=⟨n-1,by omega⟩;rw[call_inl (n:=M) ⟨Tryz.f43.ntmps,(Tryz.f43.body).getD .skip,[]⟩ rfl (by kernel_rfl) (by kernel_rfl) (by kernel_rfl) (by kernel_rfl) (by simp[Tryz.f43])];generalize hyk:bldV 2 (coR K)=yk;generalize hTL:l0++c.paths.flatMap (pthR c.kind K)=TL;show PR id TL h (exec2 cx (callN cx M) kRP _);rw[show kRP= .seq (cL (cT 0 kRP)) (.seq (cL (cT 1 kRP)) (.block 0 (.loop (.seq (cL (cL (cL (cT 2 kRP)))) (.seq (cL (cR (cL (cL (cT 2 kRP))))) (.seq (.block 1 kIN) (cR (cR (cR (cL (cL (cT 2 kRP)))))))))))) by kernel_rfl];have hlt:=hS.lt;have gc:(h++[Blk.row (encCp c)])[h.length]?=some (.row (encCp c)):=by simp
 have gcF:=hS.free [.row (encCp c)];have hR1:=hS.app [.row (encCp c)];have hK1:KR id h (h++[.row (encCp c)]):=KR.app _ hlt;have hrow:(encCp c)[0]?=some (.sc (.int .i64 c.kind)):=rfl;have hr3:(encCp c)[3]?=some (.ls 3 (tpR c.paths) false):=rfl;have hr3':∀k,(encCp c)[3]'k= .ls 3 (tpR c.paths) false:=fun k=>rfl
 have c1:=fun i p hx l0 fr h' hl0 hS hR hK hbp=>pr_path D d M id h.length K yk hyk.symm hK24 c.kind c.paths hpl i p hx (encCp c) hrow hbp (by omega) h l0 hl0 fr h' hS hR hK
 have hq:=tpR_length c.paths;have hg:=tpR_get c.paths;have hel:(encCp c).length=21:=by simp[encCp,encX_length]
 have hyp:∀v,yk≠ .pn v:=fun v=>by rw[←hyk];unfold bldV;split<;>simp
 have q2:=fun(ops:Array Oper) (dd:Tmp) (rest:List Oper) (fr:List AV) (h:Hp)=>opP_np (C:=cx) (cal:=callN cx M true) (ops:=ops) hyp dd rest fr h
 generalize tpR c.paths=rows at *;generalize c.paths=l at *;generalize c.kind=kd at *;generalize encCp c=row at *;generalize hjc:h.length=hc at *;generalize hH1:h++[Blk.row row]=hp1 at *;generalize kIN=ZI at *;simp[kRP,cT,cR,cL,Tryz.f43,hel,hr3,hr3',hq,hH1,hjc,gc];generalize hXX:exec2 cx (callN cx M) (.loop _) _=XX;refine loopE hXX
  (fun i st=>SO id hc yk rows l.length i row st.1 st.2∧∃l',RS id l' st.2∧KR id h st.2∧l'.length+((l.drop i).map mTp).sum≤1000000000∧l'++(l.drop i).flatMap (pthR kd K)=TL)
  (fun o st=>o= .exit 0∧RS id TL st.2∧KR id h st.2)
  l.length (by simp;omega) ⟨⟨by simp,by simp,by simp,by simp,by simp,by simp,by simp,gc,gcF⟩,l0,hR1,hK1,hl,hTL⟩ ?_ ?_
 ·clear hXX XX hTL hR1 hK1 hl gc gcF hS hlt;rintro i fr hp hle ⟨⟨hlen,g0,g2,g4,g13,g14,g15,gc,gcF⟩,l',hR,hK,hl,hTL⟩;simp only at hlen g0 g2 g4 g13 g14 g15 gc gcF hR hK;by_cases hi:i<l.length
  ·obtain⟨p,hx,hr,hr'⟩:=row_get hg hi;have hmem:=Zi hx;have hf0:i≤1000000000000000:=by omega
   rw[drop_of hx,List.map_cons,List.sum_cons]at hl;rw[drop_of hx,List.flatMap_cons,←Zp]at hTL;have hpe:=pthR_len kd K p;have hl2:(l'++pthR kd K p).length+((l.drop (i+1)).map mTp).sum≤1000000000:=by rw[Zu];omega
   have c2:=fun fr hS=>c1 i p hx l' fr hp (by omega) hS hR hK (hb p hmem)
   have hf:=fit_succ hf0;have hstep:∀fr,SO id hc yk rows l.length i row fr hp→∃fr' h',exec2 cx (callN cx M) ZI (fr,hp)=some (.normal,(fr',h'))∧SO id hc yk rows l.length i row fr' h'∧RS id (l'++pthR kd K p) h'∧KR id h h':=fun fr hS=>c2 fr hS
   clear c1 c2;simp[hlen,g14,g15,hi];obtain⟨fr',h',e,⟨hlen',g0',g2',g4',g13',g14',g15',gc',gcF'⟩,hR',hK'⟩:=hstep (fr.set 16 (.sc (.bool true))) ⟨by simp[hlen],by simp[g0],by simp[g2],by simp[g4],by simp[g13],by simp[g14],by simp[g15],gc,gcF⟩;rw[e];simp[hlen',g15',hf,hi];exact⟨⟨by simp[hlen'],by simp[g0'],by simp[g2'],by simp[g4'],by simp[g13'],by simp[g14'],by simp[hlen'],gc',gcF'⟩,_,hR',hK',by simpa only[List.map_drop]using hl2,hTL⟩
  ·have hil:i=l.length:=Yc hle (Yb hi);subst hil;rw[Yd,List.flatMap_nil,Yk]at hTL;subst hTL;simp[hlen,g14,g15];exact⟨hR,hK⟩
 ·rintro o fr' h' rfl ⟨rfl,hR,hK⟩;exact⟨h',by simp[resR],hR,hK⟩
end
end Go.Proofs.YtmocfjnklfpnbaaGreatDoor
