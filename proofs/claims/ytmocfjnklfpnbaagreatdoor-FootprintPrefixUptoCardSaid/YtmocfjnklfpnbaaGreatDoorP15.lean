/- Contracts: frac.Cmp. -/
import Derived.Test.YtmocfjnklfpnbaaGreatDoorP14
set_option linter.all false
set_option maxRecDepth 100000
namespace Go.Proofs.YtmocfjnklfpnbaaGreatDoor
open Go Go.Ae
section
attribute [local simp] aop aopW coldF extF putA ofConst flat scalarOp fastOp binFast intOp strOp guardX Ae.part rowOf szOk natOf lenA cls fillA splice newsOf isNilC cellX
def sgnI (z:Int):Int:=if z<0 then-1 else if 0<z then 1 else 0
theorem cmp_math (n1 d1 n2 d2:Int)(h1:0<d1)(h2:0<d2):
 sgW (plG (decide (n1<0) !=decide (d2<0)) (decide (-n2<0) !=decide (d1<0)) (n1.natAbs*d2.natAbs:Nat) ((-n2).natAbs*d1.natAbs:Nat))
  (plM (decide (n1<0) !=decide (d2<0)) (decide (-n2<0) !=decide (d1<0)) (n1.natAbs*d2.natAbs:Nat) ((-n2).natAbs*d1.natAbs:Nat))=sgnI (n1*d2-n2*d1):=by
 obtain⟨p,hp⟩:∃p,p=n1*d2:=⟨_,rfl⟩;obtain⟨q,hq⟩:∃q,q=n2*d1:=⟨_,rfl⟩;have e1:((n1.natAbs*d2.natAbs:Nat):Int)=(p.natAbs:Int):=by rw[hp,Int.natAbs_mul]
 have e2:(((-n2).natAbs*d1.natAbs:Nat):Int)=(q.natAbs:Int):=by rw[hq,Int.natAbs_mul,Int.natAbs_neg]
 have g1:(n1<0)=(p<0):=propext ⟨fun h=>by rw[hp];exact Int.mul_neg_of_neg_of_pos h h2,fun h=>by
  rw[hp]at h;apply Classical.byContradiction;intro hn;have:=Int.mul_nonneg (Int.not_lt.1 hn) (Int.le_of_lt h2);omega⟩
 have g2:(-n2<0)=(0<q):=propext ⟨fun h=>by rw[hq];exact Int.mul_pos (by omega) h1,fun h=>by
  rw[hq]at h;apply Classical.byContradiction;intro hn;have:=Int.mul_nonneg (show 0≤ -n2 by omega) (Int.le_of_lt h1);rw[Int.neg_mul]at this;omega⟩
 rw[e1,e2,←hp,←hq];have d10:decide (d1<0)=false:=decide_eq_false (by omega);have d20:decide (d2<0)=false:=decide_eq_false (by omega);simp only[g1,g2,d10,d20,Bool.bne_false,sgW,plG,plM,sgnI];by_cases a:p<0<;>by_cases b:0<q<;>by_cases c:(p.natAbs:Int)<q.natAbs<;>simp[a,b,c]<;>(repeat' split)<;>omega
theorem plM_bd {g g':Bool}{x y B:Int}(hx:0≤x)(hy:0≤y)(hx':x≤B)(hy':y≤B):0≤plM g g' x y∧plM g g' x y≤2*B:=by
 unfold plM;cases g==g' with
 |true=>simp only[cond_true];omega
 |
  false=>
  by_cases h:x<y
  ·simp only[h,decide_true,cond_true,cond_false];omega
  ·simp only[h,decide_false,cond_false];omega
def nrmN (N D:Int):Int:=bif fv N D then N else 0
def nrmD (N D:Int):Int:=bif fv N D then D else 1
theorem nrm_ok (N D:Int):inR (nrmN N D)=true∧inR (nrmD N D)=true∧0<nrmD N D:=by
 unfold nrmN nrmD;cases h:fv N D with
 |true=>obtain⟨h1,h2,h3⟩:=fv_inR h;exact⟨h1,h2,h3⟩
 |false=>exact⟨rfl,rfl,(by decide:(0:Int)<1)⟩
def cmpF (N1 D1 N2 D2:Int):Int:=sgnI (nrmN N1 D1*nrmD N2 D2-nrmN N2 D2*nrmD N1 D1)
theorem inR_neg {x:Int}(h:inR x=true):inR (-x)=true:=by rw[inR_iff]at *;omega
theorem mul_le30 {x y:Int}(hx:inR x=true)(hy:inR y=true):((x.natAbs*y.natAbs:Nat):Int)≤1000000000000000000000000000000:=by
 rw[inR_iff]at *;have:=Nat.mul_le_mul (show x.natAbs≤1000000000000000 by omega) (show y.natAbs≤1000000000000000 by omega);omega
@[simp] theorem ev_zero (fr:List AV):ev cx fr (.global 0)= .rp [.sc (.int .i64 0),.sc (.int .i64 1)] 0:=rfl
@[simp] theorem opN_wA {C:Cx}{cal:FuncId→List AV→Hp→Option (AV × Hp)}{ops:Array Oper}(d:Tmp)(rest:List Oper)(fr:List AV)(g:Bool)(m:Int)(h:Hp):opN C cal ops (some d) rest fr (some (wA g m,h))=runOps C cal ops rest (fr.set d (wA g m),h):=rfl
theorem frac_Cmp (n:Nat)(b:Bool)(N1 D1 N2 D2:Int)(h:Hp):callN cx (n+4) b 134 [frA N1 D1,frA N2 D2] h=some (.sc (.int .i64 (cmpF N1 D1 N2 D2)),h):=by
 refine pure_calm (r:= .sc (.int .i64 (cmpF N1 D1 N2 D2))) ⟨Tryz.f134.ntmps,(Tryz.f134.body).getD .skip,[.tmp 4]⟩ (by kernel_rfl) (by kernel_rfl) rfl (by kernel_rfl) (by simp[Tryz.f134]) rfl rfl ?_ b h;obtain⟨a1,a2,a3⟩:=nrm_ok N1 D1;obtain⟨b1,b2,b3⟩:=nrm_ok N2 D2;have hm:=cmp_math (nrmN N1 D1) (nrmD N1 D1) (nrmN N2 D2) (nrmD N2 D2) a3 b3;have l1:=mul_le30 a1 b2;have l2:=mul_le30 (inR_neg b1) a2;have c1:=fun h=>frac_product (n+1) false _ _ h a1 b2
 have c2:=fun h=>frac_product (n+1) false _ _ h (inR_neg b1) a2
 have c3:=fun h=>wide_plus (n+1) false (decide (nrmN N1 D1<0) !=decide (nrmD N2 D2<0)) (decide (-nrmN N2 D2<0) !=decide (nrmD N1 D1<0)) _ _ h (Int.natCast_nonneg ((nrmN N1 D1).natAbs*(nrmD N2 D2).natAbs)) (by omega) (Int.natCast_nonneg ((-nrmN N2 D2).natAbs*(nrmD N1 D1).natAbs)) (by omega)
 have c4:=fun h=>wide_sign (n+2) false (plG (decide (nrmN N1 D1<0) !=decide (nrmD N2 D2<0)) (decide (-nrmN N2 D2<0) !=decide (nrmD N1 D1<0)) ((nrmN N1 D1).natAbs*(nrmD N2 D2).natAbs:Nat) ((-nrmN N2 D2).natAbs*(nrmD N1 D1).natAbs:Nat)) (plM (decide (nrmN N1 D1<0) !=decide (nrmD N2 D2<0)) (decide (-nrmN N2 D2<0) !=decide (nrmD N1 D1<0)) ((nrmN N1 D1).natAbs*(nrmD N2 D2).natAbs:Nat) ((-nrmN N2 D2).natAbs*(nrmD N1 D1).natAbs:Nat)) h
  (plM_bd (Int.natCast_nonneg _) (Int.natCast_nonneg _) l1 l2).1 (by have:=(plM_bd (g:=decide (nrmN N1 D1<0) !=decide (nrmD N2 D2<0)) (g':=decide (-nrmN N2 D2<0) !=decide (nrmD N1 D1<0)) (Int.natCast_nonneg _) (Int.natCast_nonneg _) l1 l2).2;omega)
 rw[hm]at c4;generalize(decide (nrmN N1 D1<0) !=decide (nrmD N2 D2<0))=g1 at c1 c3 c4;generalize(decide (-nrmN N2 D2<0) !=decide (nrmD N1 D1<0))=g2 at c2 c3 c4;generalize(((nrmN N1 D1).natAbs*(nrmD N2 D2).natAbs:Nat):Int)=m1 at c1 c3 c4;generalize(((-nrmN N2 D2).natAbs*(nrmD N1 D1).natAbs:Nat):Int)=m2 at c2 c3 c4;generalize plG g1 g2 m1 m2=g3 at c3 c4;generalize plM g1 g2 m1 m2=m3 at c3 c4;have hf:fitI .i64 (-nrmN N2 D2)= -nrmN N2 D2:=by have:=(inR_iff _).1 b1;exact fit_i64 (by omega) (by omega)
 cases hA:fv N1 D1<;>cases hB:fv N2 D2<;>simp only[nrmN,nrmD,hA,hB,cond_true,cond_false]at c1 c2 c3 c4 hf
 case' false.false=>
  have q:wA g2 m2=wA g1 m1:=by
   have q:=c2 [];rw[Int.neg_zero,c1 []]at q;simp only[Zc,Zg,and_true]at q;exact q.symm
  rw[q]at c3
 all_goals
  have hA':=fun n b h=>frac_Valid n b N1 D1 h
  have hB':=fun n b h=>frac_Valid n b N2 D2 h
  simp only[frA]at hA' hB'
  try simp only[Int.neg_zero]at c2 hf
  simp[Tryz.f134,frA,hA',hB',hA,hB,c1,c2,c3,c4,hf,cmpF,nrmN,nrmD]
end
def vl :List Int→Int
 | []=>0
 |d::ds=>d+1000*vl ds
def digs :Nat→Int→List Int
 |0,_=> []
 |n+1,m=>m % 1000::digs n (m/1000)
def dok (ds:List Int):Prop:=∀d∈ds,0≤d∧d<1000
theorem digs_length :∀(n:Nat) (m:Int),(digs n m).length=n
 |0,_=>rfl
 |n+1,m=>by simp[digs,digs_length n]
theorem vl_bd :∀{ds:List Int},dok ds→0≤vl ds∧vl ds<1000^ds.length
 | [],_=>by simp[vl]
 |
  d::ds,h=>by
  have h1:=h d (by simp);have h2:=vl_bd (ds:=ds) fun x hx=>h x (by simp[hx])
  simp only[vl,List.length_cons,Int.pow_succ];omega
theorem digs_vl :∀{ds:List Int},dok ds→digs ds.length (vl ds)=ds
 | [],_=>rfl
 |
  d::ds,h=>by
  have h1:=h d (by simp);have h2:=digs_vl (ds:=ds) fun x hx=>h x (by simp[hx])
  simp only[vl,List.length_cons,digs];rw[show(d+1000*vl ds) % 1000=d by omega,show(d+1000*vl ds)/1000=vl ds by omega,h2]
theorem digs_dok :∀(n:Nat) (m:Int),dok (digs n m)
 |0,_,d,h=>by simp[digs]at h
 |
  n+1,m,d,h=>by
  simp only[digs,List.mem_cons]at h;rcases h with rfl|h
  ·omega
  ·exact digs_dok n _ d h
theorem vl_digs :∀(n:Nat) (m:Int),0≤m→m<1000^n→vl (digs n m)=m
 |0,m,h0,h1=>by simp at h1;simp[digs,vl];omega
 |
  n+1,m,h0,h1=>by
  rw[Int.pow_succ]at h1;simp only[digs,vl];rw[vl_digs n (m/1000) (by omega) (by omega)];omega
theorem vl_set :∀(ds:List Int) (k:Nat) (o x:Int),ds[k]?=some o→vl (ds.set k x)=vl ds+(x-o)*1000^k
 | [],k,o,x,h=>by simp at h
 |
  d::ds,0,o,x,h=>by
  simp at h;subst h;simp[vl];omega
 |
  d::ds,k+1,o,x,h=>by
  simp at h;simp only[List.set_cons_succ,vl,vl_set ds k o x h,Int.pow_succ]
  grind
theorem dok_set {ds:List Int}(h:dok ds)(k:Nat){x:Int}(hx:0≤x∧x<1000):dok (ds.set k x):=by
 intro d hd;rcases List.mem_or_eq_of_mem_set hd with h1|h1
 ·exact h d h1
 ·rw[h1];exact hx
theorem vl_rep :∀n,vl (List.replicate n 0)=0
 |0=>rfl
 |n+1=>by simp[List.replicate_succ,vl,vl_rep n]
theorem mul_step (p o cy d c s:Int)(hs:s=cy+o+d*(c % 1000)):(s % 1000-o)*p+(s/1000+d*(c/1000))*(p*1000)=(cy+d*c)*p:=by
 have h1:s=1000*(s/1000)+s % 1000:=by omega
 have h2:c=1000*(c/1000)+c % 1000:=by omega
 have h3:d*c=d*(1000*(c/1000))+d*(c % 1000):=by rw[←Int.mul_add,←h2]
 generalize s/1000=u at *;generalize s % 1000=v at *;generalize c/1000=e at *;generalize c % 1000=f at *;rw[h3]
 grind
section
attribute [local simp] aop aopW coldF extF putA ofConst flat scalarOp fastOp binFast intOp strOp guardX Ae.part rowOf szOk natOf lenA cls fillA newsOf isNilC cellX
theorem pow_lt_11 {j:Nat}(h:(1000:Int)^j≤1000000000000000000000000000000):j<11:=by
 apply Classical.byContradiction;intro hn;have h1:(1000:Nat)^11≤1000^j:=Nat.pow_le_pow_right (by decide) (by omega);have h2:((1000^j:Nat):Int)=(1000:Int)^j:=by simp
 have h3:((1000:Nat)^11)=1000000000000000000000000000000000:=by decide
 omega
theorem pow_le_of {k i A:Nat}(hk:0<k)(h:(k:Int)*1000^i≤A)(hA:A≤1000000000000000):(1000:Int)^i≤1000000000000000000000000000000:=by
 have h1:(1:Int)*1000^i≤k*1000^i:=Int.mul_le_mul_of_nonneg_right (by omega) (Int.pow_nonneg (by decide));omega
theorem k_le {k i A:Nat}(h:(k:Int)*1000^i≤A)(hA:A≤1000000000000000):k≤1000000000000000:=by
 have h2:((1000^i:Nat):Int)=(1000:Int)^i:=by simp
 have h3:0< (1000:Nat)^i:=Nat.pow_pos (by decide);have h1:(k:Int)*1≤k*1000^i:=Int.mul_le_mul_of_nonneg_left (by omega) (by omega);omega
theorem T_le {k i A B:Nat}{v:Int}(hA:A≤1000000000000000)(hB:B≤1000000000000000)(hv:v+k*B*1000^i=A*B):v+((k % 1000:Nat):Int)*B*1000^i≤1000000000000000000000000000000:=by
 have h1:((k % 1000:Nat):Int)*B*1000^i≤k*B*1000^i:=Int.mul_le_mul_of_nonneg_right (Int.mul_le_mul_of_nonneg_right (by omega) (by omega)) (Int.pow_nonneg (by decide));have h2:(A:Int)*B≤1000000000000000*1000000000000000:=Int.mul_le_mul (by omega) (by omega) (by omega) (by decide);omega
def dg (ds:List Int):List AV:=ds.map fun d=> .sc (.int .i64 d)
def lsI (ds:List Int):AV:= .ls 1 (ds.map fun d=> [.sc (.int .i64 d)]) false
@[simp] theorem dg_length (ds:List Int):(dg ds).length=ds.length:=by simp[dg]
theorem dg_get {ds:List Int}{k:Nat}{o:Int}(h:ds[k]?=some o):(dg ds)[k]?=some (.sc (.int .i64 o)):=by simp[dg,h]
theorem splice_dg (ds:List Int)(k:Nat)(x:Int)(h:k<ds.length):splice (dg ds) k [.sc (.int .i64 x)]=dg (ds.set k x):=by
 unfold splice dg;rw[List.set_eq_take_append_cons_drop,if_pos h];simp
theorem snap_sc (h:Hp)(n:Nat)(ds:List Int):(dg ds).mapM (snap h n)=some (dg ds):=by
 induction ds with
 |nil=>rfl
 |
  cons d ds ih=>
  show List.mapM (snap h n) (AV.sc (.int .i64 d)::dg ds)=_;rw[Zo,ih];cases n<;>rfl
theorem snap_dg (ds:List Int)(k:Bool)(h:Hp)(id:Nat)(hr:rowOf h id=some (dg ds)):snap h 8 (.sl id 1 0 ds.length k)=some (lsI ds):=by
 simp only[snap,hr];rw[if_pos (by simp)];have e:List.take (ds.length*1) (List.drop 0 (dg ds))=dg ds:=by
  rw[Yf,List.take_of_length_le (by simp)]
 rw[e,snap_sc];simp only[Option.map_some,lsI,Zc,AV.ls.injEq,true_and,and_true];apply List.ext_getElem?;intro i;by_cases hi:i<ds.length
 ·rw[Zs,List.getElem?_range hi,Zs,Zb hi];simp[dg,Zm,hi]
 ·rw[List.getElem?_eq_none (by simp;omega),List.getElem?_eq_none (by simp;omega)]
theorem inner_lt {i j k B d c A:Nat}{cy T:Int}{es:List Int}(hk:0<k)(hki:(k:Int)*1000^i≤A)(hA:A≤1000000000000000)(hB:B≤1000000000000000)(hcj:(c:Int)*1000^j≤B*1000^i)(hoe:dok es)
 (hvl:vl es+(cy+d*c)*1000^j=T) (hT:T≤1000000000000000000000000000000) (hgo:0<c∨0<cy):j<11:=by
 have hvb:=vl_bd hoe;have hpj:(0:Int)<1000^j:=Int.pow_pos (by decide);have hpi:(0:Int)<1000^i:=Int.pow_pos (by decide);have hdc:(0:Int)≤d*c:=Int.mul_nonneg (by omega) (by omega);apply pow_lt_11;rcases hgo with hc|hc
 ·have q1:(1:Int)*1000^j≤c*1000^j:=Int.mul_le_mul_of_nonneg_right (by omega) (Int.le_of_lt hpj);have q2:(B:Int)*1000^i≤1000000000000000*1000^i:=Int.mul_le_mul_of_nonneg_right (by omega) (Int.le_of_lt hpi);have q3:(1:Int)*1000^i≤k*1000^i:=Int.mul_le_mul_of_nonneg_right (by omega) (Int.le_of_lt hpi);generalize(1000:Int)^j=u at *;generalize(1000:Int)^i=v at *;omega
 ·have q1:(1:Int)*1000^j≤(cy+d*c)*1000^j:=Int.mul_le_mul_of_nonneg_right (by omega) (Int.le_of_lt hpj);omega
theorem inner_fits {d c e f:Nat}{cy o S:Int}(hd:d≤999)(hc:c≤1000000000000000)(ho:0≤o∧o<1000)(hy0:0≤cy)(hy1:cy≤2000)(he:e=c % 1000)(hf:f=c/1000)(hS:S=cy+o+d*e):
 (0≤S∧S≤2000000)∧S.tmod 1000=S % 1000∧S.tdiv 1000=S/1000∧fitI .i64 (cy+o)=cy+o∧fitI .i64 ((d:Int)*e)=d*e∧fitI .i64 (cy+o+d*e)=S∧fitI .i64 (f:Int)=f∧fitI .i64 (S/1000)=S/1000:=by
 have hde:(0:Int)≤d*e∧(d:Int)*e≤999*999:=⟨Int.mul_nonneg (by omega) (by omega),Int.mul_le_mul (by omega) (by omega) (by omega) (by decide)⟩;have b:0≤S∧S≤2000000:=by omega
 exact⟨b,Int.tmod_eq_emod_of_nonneg b.1,Int.tdiv_eq_ediv_of_nonneg b.1,fit_i64 (by omega) (by omega),fit_i64 (by omega) (by omega),by rw[←hS];exact fit_i64 (by omega) (by omega),fit_i64 (by omega) (by omega),fit_i64 (by omega) (by omega)⟩
theorem inner_next {i j B d c e f q:Nat}{cy T o S:Int}{es:List Int}(hjq:j+q=14)(hj:j<11)(hij:i≤j)(hes:es.length=14)(hoe:dok es)(hc15:c≤1000000000000000)(hcj:(c:Int)*1000^j≤B*1000^i)(hvl:vl es+(cy+d*c)*1000^j=T)
 (ho:es[j]?=some o) (he:e=c % 1000) (hf:f=c/1000) (hS:S=cy+o+d*e) (hSb:0≤S∧S≤2000000):
 ∃k',k'<q∧∃(j' c':Nat) (cy':Int) (es':List Int),j'+k'=14∧i≤j'∧es'.length=14∧dok es'∧0≤cy'∧cy'≤2000∧c'≤1000000000000000∧(c':Int)*1000^j'≤B*1000^i∧vl es'+(cy'+d*c')*1000^j'=T∧(f:Int)=c'∧S/1000=cy'∧(j:Int)+1=j'∧dg (es.set j (S % 1000))=dg es':=by
 have hpj:(0:Int)<1000^j:=Int.pow_pos (by decide);have hstep:=mul_step (1000^j) o cy d c S (by rw[hS,he];simp);have hset:=vl_set es j o (S % 1000) ho;have hv2:vl (es.set j (S % 1000))+(S/1000+d*f)*1000^(j+1)=T:=by
  have hfi:((f:Nat):Int)=(c:Int)/1000:=by rw[hf];simp
  rw[hset,hfi,Int.pow_succ,←hvl,←hstep]
  grind
 have hc2:(f:Int)*1000^(j+1)≤B*1000^i:=by
  refine Int.le_trans ?_ hcj;have e1:(f:Int)*1000≤c:=by omega
  have:=Int.mul_le_mul_of_nonneg_right e1 (Int.le_of_lt hpj);rw[Int.pow_succ]
  grind
 clear hstep hset hcj hvl;exact⟨q-1,by omega,j+1,f,S/1000,es.set j (S % 1000),by omega,by omega,by simpa using hes,dok_set hoe j (by omega),by omega,by omega,by omega,hc2,hv2,rfl,rfl,by omega,rfl⟩
theorem r03_sign (n:Nat)(b:Bool)(x:Int)(h:Hp):callN cx (n+1) b 170 [.sc (.int .i64 x)] h=some (.sc (.int .i64 (sgnI x)),h):=by
 refine pure_calm (r:= .sc (.int .i64 (sgnI x))) ⟨Tryz.f170.ntmps,(Tryz.f170.body).getD .skip,[.tmp 2]⟩ (by kernel_rfl) (by kernel_rfl) rfl (by kernel_rfl) (by simp[Tryz.f170]) rfl rfl ?_ b h;by_cases h1:x<0
 ·simp[Tryz.f170,h1,sgnI]
 ·by_cases h2:0<x<;>simp[Tryz.f170,h1,h2,sgnI]
theorem r03_times (n:Nat)(b:Bool)(A B:Nat)(h:Hp)(hA:A≤1000000000000000)(hB:B≤1000000000000000):
 callN cx (n+1) b 171 [.sc (.int .i64 A),.sc (.int .i64 B)] h=some (lsI (digs 14 (A*B)),h):=by
 refine pure_at (r:= .sl 0 1 0 14 false) (r':=lsI (digs 14 (A*B))) (h':=[.row (dg (digs 14 (A*B)))]) ⟨Tryz.f171.ntmps,(Tryz.f171.body).getD .skip,[.tmp 4]⟩ (by kernel_rfl) (by kernel_rfl) rfl (by kernel_rfl) (by simp[Tryz.f171]) rfl ?_ ?_ b h
 ·have hrep:List.flatMap (fun _=> [AV.sc (Value.int IntKind.i64 0)]) (List.range 14)=dg (List.replicate 14 0):=rfl;simp[Tryz.f171,show 14≤maxLen from(by unfold maxLen;omega),hrep, -List.reduceReplicate];refine loop_down (G:=fun x=>finX _ (thenX _ _ (blockX _ x) _)=_)
   (fun k s=>∃(i:Nat) (ds:List Int),ds.length=14∧dok ds∧(k:Int)*1000^i≤A∧vl ds+k*B*1000^i=A*B∧s.1.length=51∧gt s.1 0= .sc (.int .i64 k)∧gt s.1 1= .sc (.int .i64 B)∧gt s.1 5= .sl 0 1 0 14 false∧gt s.1 6= .sc (.int .i64 i)∧s.2=[.row (dg ds)])
   (fun o s=>o= .exit 0∧s.1.length=51∧gt s.1 5= .sl 0 1 0 14 false∧s.2=[.row (dg (digs 14 (A*B)))]) A (by simp;omega) ⟨0,List.replicate 14 0,rfl,by intro d hd;have:=(List.mem_replicate.1 hd).2;omega,by simp,by rw[vl_rep];simp,by simp⟩ ?_ ?_
  ·rintro k fr h ⟨i,ds,hds,hok,hki,hv,hlen,h0,h1,h5,h6,rfl⟩;simp only at hlen h0 h1 h5 h6;by_cases hk:0<k
   ·obtain⟨u,hu⟩:∃u,u=k/1000:=⟨_,rfl⟩;obtain⟨d,hd⟩:∃d,d=k % 1000:=⟨_,rfl⟩;have hkA:k≤1000000000000000:=k_le hki hA;have hd0:((k:Int).tmod 1000)=(d:Int):=by rw[hd];rfl
    have hd1:((k:Int).tdiv 1000)=(u:Int):=by rw[hu];rfl
    have hf1:fitI .i64 (u:Int)=(u:Int):=fit_i64 (by omega) (by omega);simp[hlen,h0,h1,h5,h6,hk,hd0,hd1,hf1];have hi15:=pow_le_of hk hki hA;have hd9:d≤999:=by omega
    have hul:u<k:=by omega
    have hi14:i≤14:=by have:=pow_lt_11 hi15;omega
    have hi14':i+(14-i)=14:=by omega
    have hif:14-i<1125899906842624:=by omega
    have hT:vl ds+(d:Int)*B*1000^i≤1000000000000000000000000000000:=by rw[hd];exact T_le hA hB hv
    have e:(k:Int)=1000*(u:Int)+(d:Int):=by omega
    have hTe:vl ds+(d:Int)*B*1000^i+(u:Int)*B*1000^(i+1)=A*B:=by
     rw[←hv,e,Int.pow_succ]
     grind
    have hki2:(u:Int)*1000^(i+1)≤A:=by
     refine Int.le_trans ?_ hki;have e:(u:Int)*1000≤k:=by omega
     have:=Int.mul_le_mul_of_nonneg_right e (show(0:Int)≤1000^i from Int.pow_nonneg (by decide));rw[Int.pow_succ]
     grind
    have hfi:fitI .i64 ((i:Int)+1)=(i:Int)+1:=by
     have:=pow_lt_11 hi15;exact fit_i64 (by omega) (by omega)
    generalize hTT:vl ds+(d:Int)*B*1000^i=T at *;refine loop_down (G:=fun x=>RoundX _ _ _ (thenX _ _ (blockX _ (blockX _ x)) _))
     (fun q s=>∃(j c:Nat) (cy:Int) (es:List Int),j+q=14∧i≤j∧es.length=14∧dok es∧0≤cy∧cy≤2000∧c≤1000000000000000∧(c:Int)*1000^j≤B*1000^i∧vl es+(cy+d*c)*1000^j=T∧
      s.1.length=51∧gt s.1 0= .sc (.int .i64 u)∧gt s.1 1= .sc (.int .i64 B)∧gt s.1 5= .sl 0 1 0 14 false∧gt s.1 6= .sc (.int .i64 i)∧gt s.1 7= .sc (.int .i64 d)∧gt s.1 8= .sc (.int .i64 c)∧gt s.1 9= .sc (.int .i64 cy)∧gt s.1 10= .sc (.int .i64 j)∧s.2=[.row (dg es)])
     (fun o s=>o= .exit 2∧s.1.length=51∧gt s.1 0= .sc (.int .i64 u)∧gt s.1 1= .sc (.int .i64 B)∧gt s.1 5= .sl 0 1 0 14 false∧gt s.1 6= .sc (.int .i64 i)∧∃es,es.length=14∧dok es∧vl es=T∧s.2=[.row (dg es)]) (14-i) hif ?_ ?_ ?_
    ·refine⟨i,B,0,ds,hi14',Nat.le_refl _,hds,hok,Int.le_refl _,(by decide:(0:Int)≤2000),hB,Int.le_refl _,by rw[←hTT];simp,?_⟩;simp[hlen,h0,h1,h5,h6]
    ·rintro q fr h ⟨j,c,cy,es,hjq,hij,hes,hoe,hy0,hy1,hc15,hcj,hvl,hlen,h0,h1,h5,h6,h7,h8,h9,h10,rfl⟩;simp only at hlen h0 h1 h5 h6 h7 h8 h9 h10;by_cases hgo:0<c∨0<cy
     ·have hj:j<11:=inner_lt hk hki hA hB hcj hoe hvl hT hgo;obtain⟨o,ho⟩:∃o,es[j]?=some o:=⟨es[j]'(by rw[hes];clear hvl hcj hT hTe hki2 hki hv;omega),Zb _⟩;have hob:=hoe o (Zi ho);have hdo:=dg_get ho;obtain⟨e,he⟩:∃e,e=c % 1000:=⟨_,rfl⟩;obtain⟨f,hf⟩:∃f,f=c/1000:=⟨_,rfl⟩;obtain⟨S,hS⟩:∃S,S=cy+o+d*e:=⟨_,rfl⟩;have t0:((c:Int).tmod 1000)=(e:Int):=by rw[he];rfl
      have t1:((c:Int).tdiv 1000)=(f:Int):=by rw[hf];rfl
      obtain⟨sb,s1,s2,f1,f2,f3,f4,f5⟩:=inner_fits hd9 hc15 hob hy0 hy1 he hf hS;have fin:=inner_next hjq hj hij hes hoe hc15 hcj hvl ho he hf hS sb;have hj14:j<14:=Nat.lt_trans hj (by decide);have f6:fitI .i64 ((j:Int)+1)=(j:Int)+1:=by clear hvl hcj hT hTe hki2 hki hv;exact fit_i64 (by omega) (by omega)
      have hj15:j+1≤es.length:=by rw[hes];exact hj14
      have hsp:=splice_dg es j (S % 1000) hj15;clear hvl hcj hT hTe hki2 hki hv;by_cases hc:0<c
      ·simp[hlen,h0,h1,h5,h6,h7,h8,h9,h10,hc,hj14,hj15,hdo,t0,t1,s1,s2,f1,f2,f3,f4,f5,f6,hsp];obtain⟨k',a1,j',c',cy',es',a2,a3,a4,a5,a6,a7,a8,a9,a10,a11,a12,a13,a14⟩:=fin;exact⟨k',a1,j',a2,a3,c',cy',es',a4,a5,a6,a7,a8,a9,a10,a11,a12,a13,a14⟩
      ·have hy:0<cy:=hgo.resolve_left hc;simp[hlen,h0,h1,h5,h6,h7,h8,h9,h10,hc,hy,hj14,hj15,hdo,t0,t1,s1,s2,f1,f2,f3,f4,f5,f6,hsp];obtain⟨k',a1,j',c',cy',es',a2,a3,a4,a5,a6,a7,a8,a9,a10,a11,a12,a13,a14⟩:=fin;exact⟨k',a1,j',a2,a3,c',cy',es',a4,a5,a6,a7,a8,a9,a10,a11,a12,a13,a14⟩
     ·have hgo':¬0<c∧¬0<cy:=not_or.1 hgo;obtain rfl:c=0:=Nat.eq_zero_of_not_pos hgo'.1;obtain rfl:cy=0:=Int.le_antisymm (Int.not_lt.1 hgo'.2) hy0;have hvT:vl es=T:=by simpa using hvl
      simp[hlen,h0,h1,h5,h6,h7,h8,h9,h10];exact⟨es,hes,hoe,hvT,rfl⟩
    ·rintro o fr h hn ⟨rfl,hlen,h0,h1,h5,h6,es,hes,hoe,hvl,rfl⟩;simp only at hlen h0 h1 h5 h6;simp[hlen,h0,h1,h5,h6,hfi];exact⟨u,hul,i+1,es,hes,hoe,hki2,by rw[hvl];exact hTe,rfl,rfl,rfl⟩
   ·obtain rfl:k=0:=by omega
    have:ds=digs 14 (A*B):=by
     rw[←hv,←hds];simp[digs_vl hok]
    simp[hlen,h0,h1,h5,h6,this]
  ·rintro o fr h hn ⟨rfl,hlen,h5,rfl⟩;simp only at hlen h5;simp[hlen,h5]
 ·have:=snap_dg (digs 14 (A*B)) false [.row (dg (digs 14 (A*B)))] 0 rfl
  rwa [digs_length]at this
theorem vl_split :∀(ds:List Int) (k:Nat),vl ds=vl (ds.take k)+1000^k*vl (ds.drop k)
 | [],k=>by simp[vl]
 |d::ds,0=>by simp[vl]
 |
  d::ds,k+1=>by
  simp only[List.take_succ_cons,List.drop_succ_cons,vl,Int.pow_succ];rw[vl_split ds k]
  grind
theorem vl_top {xs ys:List Int}{k:Nat}{x y:Int}(hx:dok xs)(hy:dok ys)(gx:xs[k]?=some x)(gy:ys[k]?=some y)(hd:xs.drop (k+1)=ys.drop (k+1))(hlt:x<y):vl xs<vl ys:=by
 have sx:=vl_split xs k;have sy:=vl_split ys k;obtain⟨kx,ex⟩:=Za.1 gx;obtain⟨ky,ey⟩:=Za.1 gy;rw[Zm kx,ex,hd]at sx;rw[Zm ky,ey]at sy;simp only[vl]at sx sy;have bx:=vl_bd (ds:=xs.take k) fun d h=>hx d (List.mem_of_mem_take h)
 have by':=vl_bd (ds:=ys.take k) fun d h=>hy d (List.mem_of_mem_take h)
 rw[List.length_take,Nat.min_eq_left (by omega)]at bx;generalize(1000:Int)^k=p at *;generalize vl (ys.drop (k+1))=q at *;have:p*(x+1000*q)+p≤p*(y+1000*q):=by
  have h1:p*(x+1000*q)+p=p*(x+1+1000*q):=by grind
  rw[h1];exact Int.mul_le_mul_of_nonneg_left (by omega) (by omega)
 omega
theorem r03_order (n:Nat)(b:Bool)(xs ys:List Int)(h:Hp)(hx:dok xs)(hy:dok ys)(lx:xs.length=14)(ly:ys.length=14):
 callN cx (n+1) b 244 [lsI xs,lsI ys] h=some (.sc (.int .i64 (sgnI (vl xs-vl ys))),h):=by
 refine pure_calm (r:= .sc (.int .i64 (sgnI (vl xs-vl ys)))) ⟨Tryz.f244.ntmps,(Tryz.f244.body).getD .skip,[.tmp 4]⟩ (by kernel_rfl) (by kernel_rfl) rfl (by kernel_rfl) (by simp[Tryz.f244]) rfl rfl ?_ b h;simp[Tryz.f244,lsI,lx,show fitI .i64 13=13 from rfl];refine loop_down (G:=fun x=>∃h',finX _ (thenX _ _ (blockX _ x) _)=some (_,h'))
  (fun k s=>k≤14∧xs.drop k=ys.drop k∧s.1.length=31∧gt s.1 0= .ls 1 (xs.map fun d=> [.sc (.int .i64 d)]) false∧gt s.1 1= .ls 1 (ys.map fun d=> [.sc (.int .i64 d)]) false∧gt s.1 5= .sc (.int .i64 (k-1)))
  (fun o s=>s.1.length=31∧((o= .exit 0∧xs=ys)∨(o= .ret∧gt s.1 4= .sc (.int .i64 (sgnI (vl xs-vl ys)))))) 14 (by simp) ?_ ?_ ?_
 ·simp[lx,ly];rw[Zt (by omega),Zt (by omega)]
 ·rintro k fr h ⟨hk,hd,hlen,h0,h1,h5⟩;simp only at hlen h0 h1 h5;by_cases hz:k=0
  ·subst hz;simp at hd;simp[hlen,h0,h1,h5,hd]
  ·obtain⟨j,rfl⟩:∃j,k=j+1:=⟨k-1,by omega⟩;obtain⟨x,gx⟩:∃x,xs[j]?=some x:=⟨_,Zb (by omega)⟩;obtain⟨y,gy⟩:∃y,ys[j]?=some y:=⟨_,Zb (by omega)⟩;have e5:(((j+1:Nat):Int)-1)=j:=by omega
   rw[e5]at h5;have f1:fitI .i64 ((j:Int)-1)=(j:Int)-1:=fit_i64 (by omega) (by omega);by_cases hlt:x<y
   ·have:=vl_top hx hy gx gy hd hlt;have hs:sgnI (vl xs-vl ys)= -1:=by unfold sgnI;rw[if_pos (by omega)]
    simp[hlen,h0,h1,h5,gx,gy,hlt,hs]
   ·by_cases hgt:y<x
    ·have:=vl_top hy hx gy gx hd.symm hgt;have hs:sgnI (vl xs-vl ys)=1:=by unfold sgnI;rw[if_neg (by omega),if_pos (by omega)]
     simp[hlen,h0,h1,h5,gx,gy,hlt,hgt,hs]
    ·have hxy:x=y:=by omega
     have hd2:xs.drop j=ys.drop j:=by
      obtain⟨kx,ex⟩:=Za.1 gx;obtain⟨ky,ey⟩:=Za.1 gy;rw[Zm kx,Zm ky,ex,ey,hd,hxy]
     simp[hlen,h0,h1,h5,gx,gy,hlt,hgt,f1];exact⟨j,by omega,by omega,hd2,rfl⟩
 ·rintro o fr h hn ⟨hlen,⟨rfl,hd⟩|⟨rfl,h4⟩⟩
  ·simp only at hlen;simp[hlen,hd,sgnI]
  ·simp only at h4;simp[h4]
theorem r03_plus (n:Nat)(xs ys:List Int)(hx:dok xs)(hy:dok ys)(lx:xs.length=14)(ly:ys.length=14):
 ∃r,(∃es,es.length=14∧r=lsI es)∧∀b h,callN cx (n+1) b 243 [lsI xs,lsI ys] h=some (r,h):=by
 refine pure_ex (f:=243) (n:=n) (args:=[lsI xs,lsI ys]) (fun r=>∃es,es.length=14∧r=lsI es) ⟨Tryz.f243.ntmps,(Tryz.f243.body).getD .skip,[.tmp 4]⟩ (by kernel_rfl) (by kernel_rfl) rfl (by kernel_rfl) (by simp[Tryz.f243]) rfl ?_;have hrep:List.flatMap (fun _=> [AV.sc (Value.int IntKind.i64 0)]) (List.range 14)=dg (List.replicate 14 0):=rfl;simp[Tryz.f243,lsI,lx,show 14≤maxLen from(by unfold maxLen;omega),hrep, -List.reduceReplicate];refine loop_up (C:=cx) (G:=fun x=>∃r h',finX _ (thenX _ _ (blockX _ x) _)=some (r,h')∧∃r',snap h' 8 r=some r'∧∃es,es.length=14∧r'= .ls 1 (List.map (fun d=> [AV.sc (Value.int IntKind.i64 d)]) es) false)
  (fun i s=>∃(es:List Int) (cy:Int),es.length=14∧0≤cy∧cy≤1∧s.1.length=36∧gt s.1 0= .ls 1 (xs.map fun d=> [.sc (.int .i64 d)]) false∧gt s.1 1= .ls 1 (ys.map fun d=> [.sc (.int .i64 d)]) false∧gt s.1 5= .sl 0 1 0 14 false∧gt s.1 6= .sc (.int .i64 cy)∧gt s.1 7= .sc (.int .i64 i)∧s.2=[.row (dg es)])
  (fun o s=>o= .exit 0∧s.1.length=36∧gt s.1 5= .sl 0 1 0 14 false∧∃es,es.length=14∧s.2=[.row (dg es)]) 14 (by decide) ?_ ?_ ?_
 ·exact⟨List.replicate 14 0,0,rfl,by decide,by decide,by simp[-List.reduceReplicate]⟩
 ·rintro i fr h hle ⟨es,cy,hes,hc0,hc1,hlen,h0,h1,h5,h6,h7,rfl⟩;simp only at hlen h0 h1 h5 h6 h7;by_cases hi:i<14
  ·have hi':(i:Int)<14:=by omega
   obtain⟨x,gx⟩:∃x,xs[i]?=some x:=⟨_,Zb (by omega)⟩;obtain⟨y,gy⟩:∃y,ys[i]?=some y:=⟨_,Zb (by omega)⟩;have gx':∀h:i<xs.length,xs[i]=x:=fun h=>by rw[Zb h]at gx;exact Option.some.inj gx
   have gy':∀h:i<ys.length,ys[i]=y:=fun h=>by rw[Zb h]at gy;exact Option.some.inj gy
   have bx:=hx x (Zi gx);have by':=hy y (Zi gy);have hi2:i+1≤es.length:=by omega
   have hi3:i+1≤14:=by omega
   have f1:fitI .i64 (cy+x)=cy+x:=fit_i64 (by omega) (by omega);have f6:fitI .i64 ((i:Int)+1)=(i:Int)+1:=fit_i64 (by omega) (by omega);obtain⟨S,hS⟩:∃S,S=cy+x+y:=⟨_,rfl⟩;have f2:fitI .i64 (cy+x+y)=S:=by rw[hS];exact fit_i64 (by omega) (by omega)
   have s1:S.tmod 1000=S % 1000:=Int.tmod_eq_emod_of_nonneg (by omega);have s2:S.tdiv 1000=S/1000:=Int.tdiv_eq_ediv_of_nonneg (by omega);have f3:fitI .i64 (S/1000)=S/1000:=fit_i64 (by omega) (by omega);have hsp:=splice_dg es i (S % 1000) hi2;simp[hlen,h0,h1,h5,h6,h7,hi,hi',gx,gy,gx',gy',f1,f2,s1,s2,f3,f6,hsp,lx,hes,hi2,hi3];exact⟨es.set i (S % 1000),by simpa using hes,S/1000,by omega,by omega,rfl,rfl⟩
  ·have hi':¬(i:Int)<14:=by omega
   simp[hlen,h0,h1,h5,h6,h7,hi,hi',lx];exact⟨es,hes,rfl⟩
 ·rintro o fr h hn ⟨rfl,hlen,h5,es,hes,rfl⟩;simp only at hlen h5;have hsn:=snap_dg es false [.row (dg es)] 0 rfl;rw[hes]at hsn;simp[hlen,h5];exact⟨_,_,⟨rfl,rfl⟩,_,hsn,es,hes,rfl⟩
theorem r03_minus (n:Nat)(xs ys:List Int)(hx:dok xs)(hy:dok ys)(lx:xs.length=14)(ly:ys.length=14):
 ∃r,(∃es,es.length=14∧r=lsI es)∧∀b h,callN cx (n+1) b 245 [lsI xs,lsI ys] h=some (r,h):=by
 refine pure_ex (f:=245) (n:=n) (args:=[lsI xs,lsI ys]) (fun r=>∃es,es.length=14∧r=lsI es) ⟨Tryz.f245.ntmps,(Tryz.f245.body).getD .skip,[.tmp 4]⟩ (by kernel_rfl) (by kernel_rfl) rfl (by kernel_rfl) (by simp[Tryz.f245]) rfl ?_;have hrep:List.flatMap (fun _=> [AV.sc (Value.int IntKind.i64 0)]) (List.range 14)=dg (List.replicate 14 0):=rfl;simp[Tryz.f245,lsI,lx,show 14≤maxLen from(by unfold maxLen;omega),hrep, -List.reduceReplicate];refine loop_up (C:=cx) (G:=fun x=>∃r h',finX _ (thenX _ _ (blockX _ x) _)=some (r,h')∧∃r',snap h' 8 r=some r'∧∃es,es.length=14∧r'= .ls 1 (List.map (fun d=> [AV.sc (Value.int IntKind.i64 d)]) es) false)
  (fun i s=>∃(es:List Int) (cy:Int),es.length=14∧ -1≤cy∧cy≤0∧s.1.length=40∧gt s.1 0= .ls 1 (xs.map fun d=> [.sc (.int .i64 d)]) false∧gt s.1 1= .ls 1 (ys.map fun d=> [.sc (.int .i64 d)]) false∧gt s.1 5= .sl 0 1 0 14 false∧gt s.1 6= .sc (.int .i64 cy)∧gt s.1 7= .sc (.int .i64 i)∧s.2=[.row (dg es)])
  (fun o s=>o= .exit 0∧s.1.length=40∧gt s.1 5= .sl 0 1 0 14 false∧∃es,es.length=14∧s.2=[.row (dg es)]) 14 (by decide) ?_ ?_ ?_
 ·exact⟨List.replicate 14 0,0,rfl,by decide,by decide,by simp[-List.reduceReplicate]⟩
 ·rintro i fr h hle ⟨es,cy,hes,hc0,hc1,hlen,h0,h1,h5,h6,h7,rfl⟩;simp only at hlen h0 h1 h5 h6 h7;by_cases hi:i<14
  ·have hi':(i:Int)<14:=by omega
   obtain⟨x,gx⟩:∃x,xs[i]?=some x:=⟨_,Zb (by omega)⟩;obtain⟨y,gy⟩:∃y,ys[i]?=some y:=⟨_,Zb (by omega)⟩;have gx':∀h:i<xs.length,xs[i]=x:=fun h=>by rw[Zb h]at gx;exact Option.some.inj gx
   have gy':∀h:i<ys.length,ys[i]=y:=fun h=>by rw[Zb h]at gy;exact Option.some.inj gy
   have bx:=hx x (Zi gx);have by':=hy y (Zi gy);have hi2:i+1≤es.length:=by omega
   have hi3:i+1≤14:=by omega
   have f1:fitI .i64 (cy+x)=cy+x:=fit_i64 (by omega) (by omega);have f6:fitI .i64 ((i:Int)+1)=(i:Int)+1:=fit_i64 (by omega) (by omega);obtain⟨S,hS⟩:∃S,S=cy+x-y:=⟨_,rfl⟩;have f2:fitI .i64 (cy+x-y)=S:=by rw[hS];exact fit_i64 (by omega) (by omega)
   by_cases hn:S<0
   ·have f3:fitI .i64 (S+1000)=S+1000:=fit_i64 (by omega) (by omega);have hsp:=splice_dg es i (S+1000) hi2;simp[hlen,h0,h1,h5,h6,h7,hi,hi',gx,gy,gx',gy',f1,f2,hn,f3,f6,hsp,lx,hes,hi2,hi3];exact⟨es.set i (S+1000),by simpa using hes, -1,by decide,by decide,rfl,rfl⟩
   ·have hsp:=splice_dg es i S hi2;simp[hlen,h0,h1,h5,h6,h7,hi,hi',gx,gy,gx',gy',f1,f2,hn,f6,hsp,lx,hes,hi2,hi3];exact⟨es.set i S,by simpa using hes,0,by decide,by decide,rfl,rfl⟩
  ·have hi':¬(i:Int)<14:=by omega
   simp[hlen,h0,h1,h5,h6,h7,hi,hi',lx];exact⟨es,hes,rfl⟩
 ·rintro o fr h hn ⟨rfl,hlen,h5,es,hes,rfl⟩;simp only at hlen h5;have hsn:=snap_dg es false [.row (dg es)] 0 rfl;rw[hes]at hsn;simp[hlen,h5];exact⟨_,_,⟨rfl,rfl⟩,_,hsn,es,hes,rfl⟩
end
end Go.Proofs.YtmocfjnklfpnbaaGreatDoor
