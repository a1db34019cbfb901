/- Contracts: rows compared, by the program and by the reference. -/
import Derived.Test.YtiefabpageilbaaGreatDoorP24
import Derived.Test.YtiefabpageilbaaGreatDoorP26
set_option linter.all false
set_option maxRecDepth 100000
namespace Go.Proofs.YtiefabpageilbaaGreatDoor
open Go Go.Ae
section
attribute [local simp] aop aopW coldF extF putA ofConst flat scalarOp fastOp binFast intOp strOp guardX Ae.part rowOf szOk natOf lenA cls fillA splice newsOf isNilC cellX
set_option maxHeartbeats 16000000
theorem val_rows_Order (N:Nat)(z z':Bool)(l m:List V)(hl:l.length≤1000000000000000)(hm:m.length≤1000000000000000)(ho:∀x∈l,∀y∈m,C_Order N x y)(b:Bool)(h:Hp):
 callN cx (N+1) b 58 [evL z l,evL z' m,.fn 59 []] h=some (.sc (.int .i64 (ordL l m)),h):=by
 have hc:[evL z l,evL z' m,.fn 59 []].all calm=true:=by rw[Zn,Zn,calm_evL,calm_evL];rfl
 refine pure_calm (r:= .sc (.int .i64 (ordL l m))) (n:=N) ⟨Tryz.f58.ntmps,(Tryz.f58.body).getD .skip,[.tmp 6]⟩ (by kernel_rfl) (by kernel_rfl) rfl (by kernel_rfl) (by simp[Tryz.f58]) hc rfl ?_ b h;clear hc;have hL:=evL_cases z l;have hL':=evL_cases z' m;generalize evL z l=L at hL;generalize evL z' m=L' at hL';have hq:=encL_length l;have hg:=encL_get l;have hq':=encL_length m;have hg':=encL_get m;generalize encL l=rows at hq hg hL;generalize encL m=rows' at hq' hg' hL';rcases hL with hL|⟨hL,hz⟩
 ·subst hL;simp[Tryz.f58,hq];refine loop_up (C:=cx) (G:=fun r=>∃h',finX _ (thenX _ _ (blockX _ r) _)=some (_,h'))
   (fun i s=>i≤m.length∧ordL l m=ordLD l m i∧s.1.length=39∧gt s.1 0= .ls 5 rows z∧gt s.1 1=L'∧gt s.1 2= .fn 59 []∧gt s.1 11= .ls 5 rows z∧gt s.1 12= .sc (.int .i64 l.length)∧gt s.1 13= .sc (.int .i64 i))
   (fun o s=>s.1.length=39∧((o= .exit 0∧l.length≤m.length∧ordL l m=cmpI l.length m.length∧gt s.1 0= .ls 5 rows z∧gt s.1 1=L')∨(o= .ret∧gt s.1 6= .sc (.int .i64 (ordL l m))))) l.length (by simp;omega) (by simp[ordLD_zero]) ?_ ?_
  ·rintro i fr h hle ⟨hle',hor,hlen,h0,h1,h2,h11,h12,h13⟩;simp only at hlen h0 h1 h2 h11 h12 h13;by_cases hi:i<l.length
   ·obtain⟨x,hx⟩:∃c,l[i]?=some c:=⟨_,Zb hi⟩;have hr:rows[i]?=some (enc x):=by rw[hg,hx];rfl
    have hr':∀k,rows[i]'k=enc x:=fun k=>by obtain⟨_,e⟩:=Za.1 hr;exact e
    by_cases hj:i<m.length
    ·rcases hL' with hL'|⟨hL',hz⟩
     ·subst hL';obtain⟨y,hy⟩:∃c,m[i]?=some c:=⟨_,Zb hj⟩;have hr2:rows'[i]?=some (enc y):=by rw[hg',hy];rfl
      have hr2':∀k,rows'[i]'k=enc y:=fun k=>by obtain⟨_,e⟩:=Za.1 hr2;exact e
      have hcall:=ho x (Zi hx) y (Zi hy);unfold C_Order at hcall;rw[ordLD_step hx hy]at hor;have hf:fitI .i64 ((i:Int)+1)=((i+1:Nat):Int):=fit_i64 (by omega) (by omega);have hj2:¬(m.length≤i):=by omega
      generalize ordV x y=c at hcall hor;cases x with
      |
       mk k n d s zx lx=>
       cases y with
       |
        mk k' n' d' s' zy ly=>
        simp only[enc]at hr hr' hr2 hr2' hcall;generalize lsV zx (encL lx)=X at hr hr' hcall;generalize lsV zy (encL ly)=Y at hr2 hr2' hcall;by_cases hc0:c=0
        ·subst hc0;rw[if_pos rfl]at hor;simp[hlen,h0,h1,h2,h11,h12,h13,hi,hj,hj2,hq,hq',hr,hr',hr2,hr2',hcall,hf];exact⟨by omega,hor⟩
        ·rw[if_neg hc0]at hor;simp[hlen,h0,h1,h2,h11,h12,h13,hi,hj,hj2,hq,hq',hr,hr',hr2,hr2',hcall,hc0,hor]
     ·omega
    ·have hz:=ordLD_end l m i (by omega) (by omega) (by omega);rw[←hor]at hz;have hz1:ordL l m=1:=by rw[hz];unfold cmpI;rw[if_neg (by omega),if_pos (by omega)]
     have hj2:m.length≤i:=by omega
     cases x with
     |
      mk k n d s zx lx=>
      simp only[enc]at hr hr';generalize lsV zx (encL lx)=X at hr hr';rcases hL' with hL'|⟨hL',hz'⟩
      ·subst hL';simp[hlen,h0,h1,h2,h11,h12,h13,hi,hj2,hq,hq',hr,hr',hz1]
      ·subst hL';obtain rfl:i=0:=by omega
       simp[hlen,h0,h1,h2,h11,h12,h13,hi,hj2,hq,hq',hr,hr',hz1]
   ·have hz:=ordLD_end l m i (by omega) (by omega) (by omega);rw[←hor]at hz;simp[hlen,h0,h1,h2,h11,h12,h13,hi,hq,hz];omega
  ·rintro o fr h hn ⟨hlen,⟨rfl,hlm,hz,h0,h1⟩|⟨rfl,h2⟩⟩
   ·simp only at hlen h0 h1;rw[hz];unfold cmpI;by_cases hc:(l.length:Int)<m.length
    ·rcases hL' with hL'|⟨hL',e'⟩
     ·subst hL';simp[hlen,h0,h1,hq,hq',show l.length<m.length by omega]
     ·omega
    ·rcases hL' with hL'|⟨hL',e'⟩
     ·subst hL';simp[hlen,h0,h1,hq,hq',show¬l.length<m.length by omega,show¬m.length<l.length by omega]
     ·subst hL';simp[hlen,h0,h1,hq,e',show l.length=0 by omega]
   ·simp only at h2;simp[h2]
 ·subst hL;have hl0:l=[]:=Zl hz;subst hl0;simp[Tryz.f58];refine loop_up (C:=cx) (G:=fun r=>∃h',finX _ (thenX _ _ (blockX _ r) _)=some (_,h'))
   (fun i s=>i=0∧s.1.length=39∧gt s.1 0= .sc (.slice none 0 0)∧gt s.1 1=L'∧gt s.1 12= .sc (.int .i64 0)∧gt s.1 13= .sc (.int .i64 0))
   (fun o s=>s.1.length=39∧o= .exit 0∧gt s.1 0= .sc (.slice none 0 0)∧gt s.1 1=L') 0 (by simp) (by simp) ?_ ?_
  ·rintro i fr h hle ⟨rfl,hlen,h0,h1,h12,h13⟩;simp only at hlen h0 h1 h12 h13;simp[hlen,h0,h1,h12,h13]
  ·rintro o fr h hn ⟨hlen,rfl,h0,h1⟩;simp only at hlen h0 h1;have hor:ordL [] m=if 0<m.length then-1 else 0:=by cases m<;>simp[ordL]
   rw[hor];rcases hL' with hL'|⟨hL',e'⟩
   ·subst hL';by_cases hm0:0<m.length
    ·simp[hlen,h0,h1,hq',hm0]
    ·simp[hlen,h0,h1,hq',hm0]
   ·subst hL';simp[hlen,h0,h1,e']
theorem p_OrderRows (N D:Nat)(l m:List V)(b:Bool)(h:Hp)(hl:l.length≤1000000000000000)(hm:m.length≤1000000000000000)(dl:∀x∈l,dep x≤D∧bdV x)(dm:∀x∈m,dep x≤D∧bdV x):
 callN cx (N+2*D+9) b 35 [.ls 5 (encL l) false,.ls 5 (encL m) false] h=some (.sc (.int .i64 (ordL l m)),h):=by
 refine pure_calm (n:=N+2*D+8) (r:= .sc (.int .i64 (ordL l m))) ⟨Tryz.f35.ntmps,(Tryz.f35.body).getD .skip,[.tmp 4]⟩ (by kernel_rfl) (by kernel_rfl) rfl (by kernel_rfl) (by simp[Tryz.f35]) rfl rfl ?_ b h;have f:=fun b h=>val_rows_Order (N+2*D+7) false false l m hl hm (fun x hx y hy=>C_Order_all D x y (dl x hx).1 (dm y hy).1 (dl x hx).2 (dm y hy).2 N) b h
 simp only[evL,lsV_false]at f;rw[show N+2*D+7+1=N+2*D+8 by omega]at f;generalize N+2*D+8=M at f⊢;generalize ordL l m=r at f⊢;simp[Tryz.f35,f]
theorem r_OrderRows (N D:Nat)(l m:List V)(b:Bool)(h:Hp)(hl:l.length≤1000000000000000)(hm:m.length≤1000000000000000)(dl:∀x∈l,dep x≤D∧bdV x)(dm:∀x∈m,dep x≤D∧bdV x):
 callN cx (N+3*D+8) b 19 [.ls 5 (encL l) false,.ls 5 (encL m) false] h=some (.sc (.int .i64 (ordL l m)),h):=by
 refine pure_calm (n:=N+3*D+7) (r:= .sc (.int .i64 (ordL l m))) ⟨Tryz.f19.ntmps,(Tryz.f19.body).getD .skip,[.tmp 4]⟩ (by kernel_rfl) (by kernel_rfl) rfl (by kernel_rfl) (by simp[Tryz.f19]) rfl rfl ?_ b h;have f:=fun b h=>r04_lists (N+3*D+5) false false l m hl hm (fun x hx y hy=>OC_all D x y (dl x hx).1 (dm y hy).1 (dl x hx).2 (dm y hy).2 N) b h
 simp only[evL,lsV_false]at f;rw[show N+3*D+5+2=N+3*D+7 by omega]at f;generalize N+3*D+7=M at f⊢;generalize ordL l m=r at f⊢;simp[Tryz.f19,f]
end
end Go.Proofs.YtiefabpageilbaaGreatDoor
namespace Go.Ae
open List
variable {α : Type} {cmp : α → α → Int} {add : Int → Int → Int}
theorem insR_last :∀(b:List (α × Int)) (r:α) (n:Int),(∀x∈b,cmp x.1 r<0)→insR cmp add b r n=b++[(r,n)]
 | [],_,_,_=>rfl
 |
  (s,m)::t,r,n,h=>by
  unfold insR;rw[if_pos (h (s,m) (by simp)),insR_last t r n fun x hx=>h x (List.mem_cons_of_mem _ hx)];rfl
theorem sumR_id :∀(z b:List (α × Int)),Inc cmp (b++z)→z.foldl (fun s x=>insR cmp add s x.1 x.2) b=b++z
 | [],b,_=>by simp
 |
  x::z,b,h=>by
  have h1:=(List.pairwise_append.1 h).2.2;rw[List.foldl_cons,insR_last b x.1 x.2 fun y hy=>h1 y hy x (by simp),sumR_id z (b++[(x.1,x.2)]) (by simpa using h)];simp
theorem normR_id {l:List (α × Int)}(h:Inc cmp l)(h0:∀x∈l,x.2≠0):normR cmp add l=l:=by
 unfold normR;have:sumR cmp add l=l:=by
  have:=sumR_id (add:=add) l [] (by simpa using h);simpa[sumR]using this
 rw[this];exact List.filter_eq_self.2 fun x hx=>by simp[h0 x hx]
theorem normR_ne {z:List (α × Int)}:∀x∈normR cmp add z,x.2≠0:=fun x hx=>by
 have:=(List.mem_filter.1 hx).2;simpa using this
theorem norm_norm (hc:TotC cmp)(z:List (α × Int)):normR cmp add (normR cmp add z)=normR cmp add z:=normR_id (normR_inc hc z) normR_ne
theorem insR_mid :∀(a:List (α × Int)) (s:α) (m:Int) (t:List (α × Int)) (r:α) (n:Int),(∀x∈a,cmp x.1 r<0)→¬cmp s r<0→insR cmp add (a++(s,m)::t) r n=a++(if cmp s r=0 then(s,add m n)::t else(r,n)::(s,m)::t)
 |
  [],s,m,t,r,n,_,h=>by
  rw[List.nil_append,List.nil_append,insR,if_neg h]
 |
  (q,k)::a,s,m,t,r,n,h1,h=>by
  rw[List.cons_append,insR,if_pos (h1 (q,k) (by simp)),insR_mid a s m t r n (fun x hx=>h1 x (List.mem_cons_of_mem _ hx)) h];rfl
theorem insV_new [DecidableEq α]:∀(l:List (α × Int)) (r:α) (n:Int),r∉l.map (·.1)→insV add l r n=l++[(r,n)]
 | [],_,_,_=>rfl
 |
  (s,m)::t,r,n,h=>by
  rw[List.map_cons,List.mem_cons,not_or]at h;rw[insV,if_neg (fun e=>h.1 e.symm),insV_new t r n h.2];rfl
theorem insV_old [DecidableEq α]:∀(a:List (α × Int)) (m:Int) (t:List (α × Int)) (r:α) (n:Int),r∉a.map (·.1)→insV add (a++(r,m)::t) r n=a++(r,add m n)::t
 | [],m,t,r,n,_=>by rw[List.nil_append,insV,if_pos rfl];rfl
 |
  (s,k)::a,m,t,r,n,h=>by
  rw[List.map_cons,List.mem_cons,not_or]at h;rw[List.cons_append,insV,if_neg (fun e=>h.1 e.symm),insV_old a m t r n h.2];rfl
theorem sumV_snoc [DecidableEq α](z:List (α × Int))(r:α)(n:Int):sumV add (z++[(r,n)])=insV add (sumV add z) r n:=by simp[sumV]
theorem sumR_snoc (z:List (α × Int))(r:α)(n:Int):sumR cmp add (z++[(r,n)])=insR cmp add (sumR cmp add z) r n:=by simp[sumR]
end Go.Ae
namespace Go.Ae
open Go List
structure WeakC {α:Type}(cmp:α→α→Int)(l:List α):Prop where
 irr:∀x∈l,¬cmp x x<0
 tr:∀x∈l,∀y∈l,∀z∈l,cmp x y<0→cmp y z<0→cmp x z<0
 ntr:∀x∈l,∀y∈l,∀z∈l,¬cmp x y<0→¬cmp y z<0→¬cmp x z<0
theorem TotC.weak {α β:Type}{cmp:α→α→Int}(h:TotC cmp)(f:β→α)(l:List β):WeakC (fun a b=>cmp (f a) (f b)) l where
 irr:=fun x _=>h.irr _
 tr:=fun x _ y _ z _=>h.tr _ _ _
 ntr:=fun x _ y _ z _ h1 h2 h3=>by
  by_cases e1:cmp (f x) (f y)=0
  ·rw[(h.zero _ _).1 e1]at h3;exact h2 h3
  ·have a1:cmp (f y) (f x)<0:=(h.neg _ _).2 (by omega);exact h2 (h.tr _ _ _ a1 h3)
theorem sortQ_up {m:Nat}{cf:Nat→Nat→Int}(h:SWOn m cf):(sortQ m cf).Pairwise fun i j=>¬cf j.1 i.1<0:=by
 have hs:=(Sort.pdq_sorts _ h (Array.ofFn fun i:Fin (m+1)=>i) 0 (m+1) (Lib.bitLen (m+1)) true true (Nat.zero_le _) (by simp) (Or.inl rfl)).2;have hz:(sortQ m cf).length=m+1:=by rw[(sortQ_perm h).length_eq,List.length_ofFn]
 rw[List.pairwise_iff_getElem];intro i j hi hj hij;have:=hs i j (Nat.zero_le _) hij (by omega);unfold sortQ at hi hj;rw[getElem!_pos _ i (by simpa using hi),getElem!_pos _ j (by simpa using hj)]at this;have h2:=of_decide_eq_false this;unfold sortQ;rw[Array.getElem_toList,Array.getElem_toList];exact h2
theorem rowAt_flat {α:Type}{enc:α→List AV}{s:Nat}(hs:∀x,(enc x).length=s)(rest:List AV):∀(l:List α) (i:Nat) (hi:i<l.length),rowAt s 0 (l.flatMap enc++rest) i=enc l[i]
 |
  x::l,0,_=>by
  unfold rowAt;rw[List.flatMap_cons,Zp,Nat.zero_mul,Nat.zero_add,List.drop_zero,List.take_append_of_le_length (by rw[hs];exact Nat.le_refl _),←hs x,List.take_length];rfl
 |
  x::l,i+1,hi=>by
  have:=rowAt_flat hs rest l i (by simpa using hi);unfold rowAt at this⊢;rw[List.flatMap_cons,Zp,Nat.add_mul,Nat.one_mul,Nat.zero_add,Nat.add_comm (i*s),←List.drop_drop,←hs x,List.drop_left];rw[Nat.zero_add,hs x]at *;simpa using this
theorem mapM_all {α β:Type}{f:α→Option β}{g:α→β}:∀(l:List α),(∀x∈l,f x=some (g x))→l.mapM f=some (l.map g)
 | [],_=>rfl
 |
  x::l,h=>by
  rw[Zo,h x (by simp),mapM_all l fun y hy=>h y (List.mem_cons_of_mem _ hy)];rfl
theorem sfn_rows {α:Type}[Inhabited α]{call:FuncId→List AV→Hp→Option (AV × Hp)}{k:Nat}{h:Hp}{id:Nat}{b:Bool}{g:FuncId}(enc:α→List AV)(se:α→AV)(cmp:α→α→Int)(l:List α)(rest:List AV)
 (henc:∀x,(enc x).length=szK k) (hid:h[id]?=some (.row (l.flatMap enc++rest))) (hlen:l.length<4611686018427387904) (hsn:∀x∈l,snap (h.set id .dead) 8 (eltA k (enc x))=some (se x))
 (hcall:∀x∈l,∀y∈l,∃h',call g [se x,se y] []=some (.sc (.int .i64 (cmp x y)),h')) (hw:WeakC cmp l):
 ∃r:List α,r ~ l∧(r.Pairwise fun a b=>¬cmp b a<0)∧sfnA call k h [.sl id (szK k) 0 l.length b,.fn g []]=some (.tp [],h.set id (.row (r.flatMap enc++rest))):=by
 cases hl:l with
 |
  nil=>
  subst hl;refine⟨[],List.Perm.refl _,List.Pairwise.nil,?_⟩;unfold sfnA;have hset:h.set id (.row (([]:List α).flatMap enc++rest))=h:=by
   apply List.ext_getElem?;intro j;rw[List.getElem?_set];split
   ·rename_i e;subst e;have:=(Za.1 hid).1;rw[if_pos this,hid]
   ·rfl
  simp only[hid,List.length_nil,hset]
 |
  cons x0 l0=>
  obtain⟨m,hm⟩:∃m,l.length=m+1:=⟨l0.length,by rw[hl];rfl⟩;rw[←hl];have hfl:∀l:List α,(l.flatMap enc).length=l.length*szK k:=fun l=>flat_len henc l
  have hat:∀i,i≤m→∃x∈l,l[i]?=some x:=fun i hi=>⟨l[i]'(by omega),List.getElem_mem _,Zb _⟩
  have hss:(List.range (m+1)).mapM (fun i=>snap (h.set id .dead) 8 (eltA k (rowAt (szK k) 0 (l.flatMap enc++rest) i)))=some ((List.range (m+1)).map fun i=>se l[i]!):=by
   refine mapM_all _ fun i hi=>?_
   have hi':i<l.length:=by rw[hm];simpa using hi
   rw[rowAt_flat henc rest l i hi',hsn _ (List.getElem_mem _),getElem!_pos l i hi']
  have hsd:∀i,i≤m→((List.range (m+1)).map fun i=>se l[i]!).getD i .ud=se l[i]!:=fun i hi=>by
   simp[List.getD,show i<m+1 by omega]
  have hmem:∀i,i≤m→l[i]!∈l:=fun i hi=>by rw[getElem!_pos l i (by omega)];exact List.getElem_mem _
  have hcv:∀i j,i≤m→j≤m→cfV call g ((List.range (m+1)).map fun i=>se l[i]!) i j=cmp l[i]! l[j]!:=fun i j hi hj=>by
   obtain⟨h',e⟩:=hcall _ (hmem i hi) _ (hmem j hj);unfold cfV;rw[hsd i hi,hsd j hj,e]
  have hswo:SWOn m (cfV call g ((List.range (m+1)).map fun i=>se l[i]!)):=by
   unfold SWOn;have hb:∀i:Fin (m+1),i.1≤m:=fun i=>by omega
   constructor
   ·intro i;rw[hcv _ _ (hb i) (hb i)];exact decide_eq_false (hw.irr _ (hmem _ (hb i)))
   ·intro i j q h1 h2;rw[hcv _ _ (hb _) (hb _)]at h1 h2⊢;exact decide_eq_true (hw.tr _ (hmem _ (hb _)) _ (hmem _ (hb _)) _ (hmem _ (hb _)) (of_decide_eq_true h1) (of_decide_eq_true h2))
   ·intro i j q h1 h2;rw[hcv _ _ (hb _) (hb _)]at h1 h2⊢;exact decide_eq_false (hw.ntr _ (hmem _ (hb _)) _ (hmem _ (hb _)) _ (hmem _ (hb _)) (of_decide_eq_false h1) (of_decide_eq_false h2))
  have hcmp:cmpB call g ((List.range (m+1)).map fun i=>se l[i]!) m=true:=by
   have hok:CmpOK call g ((List.range (m+1)).map fun i=>se l[i]!) m:=⟨fun i j hi hj=>by
    rw[hcv i j hi hj,hsd i hi,hsd j hj];exact hcall _ (hmem i hi) _ (hmem j hj),hswo⟩
   exact cmpB_of hok
  have hperm:=sortQ_perm hswo;have hofn:(List.ofFn fun i:Fin (m+1)=>i).map (fun i=>l[i.1]!)=l:=by
   apply List.ext_getElem
   ·simp[hm]
   ·intro i h1 h2;rw[List.getElem_map,List.getElem_ofFn,getElem!_pos l i h2]
  refine⟨(sortQ m (cfV call g ((List.range (m+1)).map fun i=>se l[i]!))).map (fun i=>l[i.1]!),?_,?_,?_⟩
  ·exact(hperm.map _).trans (by rw[hofn])
  ·rw[List.pairwise_map];have:=sortQ_up hswo;have g:∀{i j:Fin (m+1)},¬cfV call g ((List.range (m+1)).map fun i=>se l[i]!) j.1 i.1<0→¬cmp l[j.1]! l[i.1]!<0:=fun{i j} q=>by
    rw[hcv _ _ (by omega) (by omega)]at q;exact q
   exact List.Pairwise.imp g this
  ·unfold sfnA;simp only[hid,hm];rw[if_pos ⟨trivial,by rw[Zu,hfl,hm];omega,by omega⟩,hss];simp only[hcmp,if_true];rw[sortP_eq hswo];have e1:(sortQ m (cfV call g ((List.range (m+1)).map fun i=>se l[i]!))).flatMap (fun i=>rowAt (szK k) 0 (l.flatMap enc++rest) i.1)=((sortQ m (cfV call g ((List.range (m+1)).map fun i=>se l[i]!))).map (fun i=>l[i.1]!)).flatMap enc:=by
    rw[List.flatMap_map]
    congr 1
    funext i
    have hi:i.1<l.length:=by omega
    rw[rowAt_flat henc rest l i.1 hi,getElem!_pos l i.1 hi]
   have e2:(l.flatMap enc++rest).drop ((m+1)*szK k)=rest:=by rw[←hm,←hfl,List.drop_left]
   rw[e1,List.take_zero,List.nil_append,Nat.zero_add,e2]
end Go.Ae
