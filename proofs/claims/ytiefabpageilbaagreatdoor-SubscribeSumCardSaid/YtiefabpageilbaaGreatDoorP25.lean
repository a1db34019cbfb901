/- The plain law: values without nil lists are equal where the order sees no difference; the text that names a row of values names no other. -/
import Derived.Test.YtiefabpageilbaaGreatDoorP24
import Derived.Test.YtiefabpageilbaaGreatDoorP20
import Derived.Test.YtiefabpageilbaaGreatDoorP21
set_option linter.all false
set_option maxRecDepth 100000
namespace Go.Proofs.YtiefabpageilbaaGreatDoor
open Go Go.Ae
mutual
def gdV :V→Prop
 | .mk k n d s z l=>i64 k∧i64 n∧i64 d∧s.size≤1000000000000000∧l.length≤1000000000000000∧z=false∧gdL l
def gdL :List V→Prop
 | []=>True
 |x::xs=>gdV x∧gdL xs
end
theorem gdL_mem :∀{l:List V},gdL l→∀x∈l,gdV x
 | [],_,_,h=>by cases h
 |
  y::l,h,x,hx=>by
  rw[gdL]at h;rcases List.mem_cons.1 hx with rfl|e
  ·exact h.1
  ·exact gdL_mem h.2 x e
theorem gdL_of :∀{l:List V},(∀x∈l,gdV x)→gdL l
 | [],_=>by rw[gdL];trivial
 |
  y::l,h=>by
  rw[gdL];exact⟨h y (by simp),gdL_of fun x hx=>h x (List.mem_cons_of_mem _ hx)⟩
theorem gd_bd_aux :∀D,(∀v:V,dep v≤D→gdV v→bdV v):=by
 intro D
 induction D with
 |zero=>intro v h;have:=dep_pos v;omega
 |
  succ D ih=>
  intro v hd hg;cases v with
  |
   mk k n d s z l=>
   rw[gdV]at hg;rw[bdV];refine⟨hg.2.2.2.1,hg.2.2.2.2.1,?_⟩;have hm:=gdL_mem hg.2.2.2.2.2.2;have:∀m:List V,(∀x∈m,dep x≤D)→(∀x∈m,gdV x)→bdL m:=by
    intro m
    induction m with
    |nil=>intro _ _;rw[bdL];trivial
    |cons x m ihm=>intro h1 h2;rw[bdL];exact⟨ih x (h1 x (by simp)) (h2 x (by simp)),ihm (fun y hy=>h1 y (List.mem_cons_of_mem _ hy)) fun y hy=>h2 y (List.mem_cons_of_mem _ hy)⟩
   exact this l (fun x hx=>by have:=dep_mem hx;rw[dep]at hd;omega) hm
theorem gd_bd {v:V}(h:gdV v):bdV v:=gd_bd_aux _ v (Nat.le_refl _) h
theorem dvd_low' {a b c d:Nat}(h:a*d=c*b)(g:Nat.gcd a b=1):b ∣ d:=by
 have h1:b ∣ a*d:=⟨c,by rw[h,Nat.mul_comm]⟩;exact Nat.Coprime.dvd_of_dvd_mul_left (Nat.Coprime.symm g) h1
theorem sgnI_zero' {x:Int}:sgnI x=0↔x=0:=by unfold sgnI;(repeat' split)<;>omega
theorem low_eq' {n1 d1 n2 d2:Int}(h1:fv n1 d1=true)(h2:fv n2 d2=true)(h:cmpF n1 d1 n2 d2=0):n1=n2∧d1=d2:=by
 unfold cmpF nrmN nrmD at h;rw[h1,h2,sgnI_zero']at h;simp only[cond_true]at h;simp only[fv,Zh,Zx,gcdI]at h1 h2;have e:n1*d2=n2*d1:=by omega
 have en:n1.natAbs*d2.natAbs=n2.natAbs*d1.natAbs:=by rw[←Int.natAbs_mul,←Int.natAbs_mul,e]
 have g1:Nat.gcd n1.natAbs d1.natAbs=1:=Int.ofNat.inj (of_decide_eq_true h1.2);have g2:Nat.gcd n2.natAbs d2.natAbs=1:=Int.ofNat.inj (of_decide_eq_true h2.2);have a1:=dvd_low' en g1;have a2:=dvd_low' en.symm g2;have a3:=Nat.dvd_antisymm a1 a2;have ed:d1=d2:=by omega
 subst ed;exact⟨Int.eq_of_mul_eq_mul_right (by omega) e,rfl⟩
theorem num_facts {k n d:Int}{s:ByteArray}{z:Bool}{l:List V}(ho:okT (.mk k n d s z l)=true)(hk:k=2∨k=3):s=⟨#[]⟩∧l=[]∧(k=2→d=0)∧fv n (if k=2 then 1 else d)=true∧(k=3→2≤d):=by
 unfold okT at ho;rw[okV]at ho;simp only[Zh]at ho;obtain⟨⟨⟨a,b⟩,c⟩,ho⟩:=ho;rcases hk with rfl|rfl
 ·simp at a b c ho;refine⟨(eqS_iff _ _).1 b,c,fun _=>a,?_,fun h=>by omega⟩;rw[if_pos rfl,fv,ho];simp[gcdI]
 ·simp at b c ho;refine⟨(eqS_iff _ _).1 b,c,fun h=>by omega,?_,fun _=>ho.1⟩;rw[if_neg (by decide)];exact ho.2
theorem orI_zero :∀{l:List Int},orI l=0→∀x∈l,x=0
 | [],_,_,h=>by cases h
 |
  y::l,h,x,hx=>by
  unfold orI at h;split at h
  ·rename_i e;rcases List.mem_cons.1 hx with rfl|q
   ·exact e
   ·exact orI_zero h x q
  ·rename_i e;exact absurd h e
theorem ordL_zero :∀(a b:List V),(∀x∈a,∀y∈b,ordV x y=0→x=y)→ordL a b=0→a=b
 | [],[],_,_=>rfl
 | [],y::b,_,h=>by simp[ordL]at h
 |x::a,[],_,h=>by simp[ordL]at h
 |
  x::a,y::b,hz,h=>by
  rw[ordL]at h;by_cases e:ordV x y=0
  ·simp only[e,if_true]at h;rw[hz x (by simp) y (by simp) e,ordL_zero a b (fun p hp q hq=>hz p (List.mem_cons_of_mem _ hp) q (List.mem_cons_of_mem _ hq)) h]
  ·simp only[e,if_false]at h
theorem ordV_zero_aux :∀D (v w:V),dep v≤D→gdV v→gdV w→ordV v w=0→v=w:=by
 intro D
 induction D with
 |zero=>intro v w h;have:=dep_pos v;omega
 |
  succ D ih=>
  intro v w hd gv gw h;cases v with
  |
   mk k n d s z l=>
   cases w with
   |
    mk k' n' d' s' z' l'=>
    rw[gdV]at gv gw;have hz:z=z':=by rw[gv.2.2.2.2.2.1,gw.2.2.2.2.2.1]
    have hL:ordL l l'=0→l=l':=ordL_zero l l' fun x hx y hy=>ih x y (by have:=dep_mem hx;rw[dep]at hd;omega) (gdL_mem gv.2.2.2.2.2.2 x hx) (gdL_mem gw.2.2.2.2.2.2 y hy)
    have hF:fldV (.mk k n d s z l) (.mk k' n' d' s' z' l')=0→V.mk k n d s z l= .mk k' n' d' s' z' l':=by
     intro q;unfold fldV at q;have q':=orI_zero q;simp only[V.k,V.n,V.d,V.s,V.l,List.mem_cons,List.not_mem_nil,or_false,forall_eq_or_imp,forall_eq]at q';obtain⟨q1,q2,q3,q4,q5⟩:=q';rw[cmpI_zero.1 q1,cmpI_zero.1 q2,cmpI_zero.1 q3,cmpS_zero.1 q4,hL q5,hz]
    rw[ordV_eq]at h;split at h
    ·rename_i e;split at h
     ·rename_i ow;by_cases ec:cmpI (clsV (V.mk k n d s z l).k) (clsV (V.mk k' n' d' s' z' l').k)=0
      ·rw[if_pos ec]at h;by_cases hk0:(V.mk k n d s z l).k=2∨(V.mk k n d s z l).k=3
       ·rw[if_pos hk0]at h;have hk:k=2∨k=3:=hk0;have hk':k'=2∨k'=3:=by
         have ec':clsV k=clsV k':=cmpI_zero.1 ec;rw[←clsV_two,←ec',clsV_two];exact hk
        obtain⟨a1,a2,a3,a4,a5⟩:=num_facts (e.trans ow) hk;obtain⟨b1,b2,b3,b4,b5⟩:=num_facts ow hk';obtain⟨c1,c2⟩:=low_eq' a4 b4 h;have hkk:k=k'∧d=d':=by
         rcases hk with rfl|rfl<;>rcases hk' with rfl|rfl
         ·exact⟨rfl,(a3 rfl).trans (b3 rfl).symm⟩
         ·have:=b5 rfl;simp at c2;omega
         ·have:=a5 rfl;simp at c2;omega
         ·simp at c2;exact⟨rfl,c2⟩
        rw[hkk.1,hkk.2,c1,a1,b1,a2,b2,hz]
       ·rw[if_neg hk0]at h;exact hF h
      ·rw[if_neg ec]at h;exact absurd h ec
     ·exact hF h
    ·split at h<;>omega
theorem ordV_zero {v w:V}(gv:gdV v)(gw:gdV w)(h:ordV v w=0):v=w:=ordV_zero_aux _ v w (Nat.le_refl _) gv gw h
mutual
def zkV :V→List UInt8
 | .mk k n d s _ l=>itoaC k++44::(itoaC n++44::(itoaC d++44::(itoaC s.size++58::(s.data.toList++(itoaC l.length++91::(zkL l++[93]))))))
def zkL :List V→List UInt8
 | []=> []
 |x::xs=>zkV x++zkL xs
end
def zkR (l:List V):List UInt8:=itoaC l.length++91::(zkL l++[93])
theorem i64_nat {n:Nat}(h:n≤1000000000000000):i64 (n:Int):=by unfold i64;omega
theorem zkL_inj :∀(a b:List V),a.length=b.length→(∀x∈a,∀y∈b,∀r t,zkV x++r=zkV y++t→x=y∧r=t)→∀r t,zkL a++r=zkL b++t→a=b∧r=t
 | [],[],_,_,r,t,h=>⟨rfl,by simpa[zkL]using h⟩
 | [],_::_,h,_,_,_,_=>by simp at h
 |_::_,[],h,_,_,_,_=>by simp at h
 |
  x::a,y::b,h,hk,r,t,e=>by
  rw[zkL,zkL,Zp,Zp]at e;obtain⟨e1,e2⟩:=hk x (by simp) y (by simp) _ _ e;obtain⟨e3,e4⟩:=zkL_inj a b (by simpa using h) (fun p hp q hq=>hk p (List.mem_cons_of_mem _ hp) q (List.mem_cons_of_mem _ hq)) r t e2;exact⟨by rw[e1,e3],e4⟩
theorem zkV_inj_aux :∀D (v w:V),dep v≤D→gdV v→gdV w→∀r t,zkV v++r=zkV w++t→v=w∧r=t:=by
 intro D
 induction D with
 |zero=>intro v w h;have:=dep_pos v;omega
 |
  succ D ih=>
  intro v w hd gv gw r t h;cases v with
  |
   mk k n d s z l=>
   cases w with
   |
    mk k' n' d' s' z' l'=>
    rw[gdV]at gv gw;rw[zkV,zkV]at h;simp only[Zp,List.cons_append]at h;obtain⟨h1,h⟩:=cut_at (not_in gv.1 (by decide)) (not_in gw.1 (by decide)) h;obtain⟨h2,h⟩:=cut_at (not_in gv.2.1 (by decide)) (not_in gw.2.1 (by decide)) h;obtain⟨h3,h⟩:=cut_at (not_in gv.2.2.1 (by decide)) (not_in gw.2.2.1 (by decide)) h;obtain⟨h4,h⟩:=cut_at (not_in (i64_nat gv.2.2.2.1) (by decide)) (not_in (i64_nat gw.2.2.2.1) (by decide)) h;have e1:=itoaC_inj gv.1.1 gv.1.2 gw.1.1 gw.1.2 h1;have e2:=itoaC_inj gv.2.1.1 gv.2.1.2 gw.2.1.1 gw.2.1.2 h2;have e3:=itoaC_inj gv.2.2.1.1 gv.2.2.1.2 gw.2.2.1.1 gw.2.2.1.2 h3;have e4:=itoaC_inj (i64_nat gv.2.2.2.1).1 (i64_nat gv.2.2.2.1).2 (i64_nat gw.2.2.2.1).1 (i64_nat gw.2.2.2.1).2 h4;have es:s.data.toList.length=s'.data.toList.length:=by
     have:s.size=s'.size:=by omega
     rw[Array.length_toList,Array.length_toList];exact this
    obtain⟨h5,h⟩:=List.append_inj h es;have e5:s=s':=by
     cases s;cases s';simp only at h5;rw[Array.toList_inj.1 h5]
    obtain⟨h6,h⟩:=cut_at (not_in (i64_nat gv.2.2.2.2.1) (by decide)) (not_in (i64_nat gw.2.2.2.2.1) (by decide)) h;have e6:=itoaC_inj (i64_nat gv.2.2.2.2.1).1 (i64_nat gv.2.2.2.2.1).2 (i64_nat gw.2.2.2.2.1).1 (i64_nat gw.2.2.2.2.1).2 h6;obtain⟨h7,h8⟩:=zkL_inj l l' (by omega) (fun x hx y hy=>ih x y (by have:=dep_mem hx;rw[dep]at hd;omega) (gdL_mem gv.2.2.2.2.2.2 x hx) (gdL_mem gw.2.2.2.2.2.2 y hy)) _ _ h;refine⟨by rw[e1,e2,e3,e5,h7,gv.2.2.2.2.2.1,gw.2.2.2.2.2.1],?_⟩;injection h8
theorem zkR_inj {a b:List V}(ga:gdL a)(gb:gdL b)(ha:a.length≤1000000000000000)(hb:b.length≤1000000000000000)(h:zkR a=zkR b):a=b:=by
 unfold zkR at h;obtain⟨h1,h⟩:=cut_at (not_in (i64_nat ha) (by decide)) (not_in (i64_nat hb) (by decide)) h;have e1:=itoaC_inj (i64_nat ha).1 (i64_nat ha).2 (i64_nat hb).1 (i64_nat hb).2 h1;exact(zkL_inj a b (by omega) (fun x hx y hy=>zkV_inj_aux _ x y (Nat.le_refl _) (gdL_mem ga x hx) (gdL_mem gb y hy)) _ _ h).1
abbrev Rw :={l:List V//gdL l}
noncomputable instance : DecidableEq Rw:=fun a b=>Classical.propDecidable (a=b)
def ordR (a b:Rw):Int:=ordL a.1 b.1
theorem ordL_all :Cmp3 (fun _:List V=>True) ordL:=(ordL_3 ordV_all).anti fun _ _ _ _=>trivial
theorem ordR_tot :TotC ordR where
 zero:=fun a b=>⟨fun h=>Subtype.ext (ordL_zero a.1 b.1 (fun x hx y hy=>ordV_zero (gdL_mem a.2 x hx) (gdL_mem b.2 y hy)) h),fun h=>by subst h;exact ordL_all.self trivial⟩
 neg:=fun a b=>by have:=ordL_all.neg a.1 b.1 trivial trivial;unfold ordR;omega
 tr:=fun a b c h1 h2=>by
  unfold ordR at *;have n1:=ordL_all.neg c.1 a.1 trivial trivial;have n2:=ordL_all.neg c.1 b.1 trivial trivial;have t1:=ordL_all.tr a.1 b.1 c.1 trivial trivial trivial (by omega) (by omega);by_cases e:ordL a.1 c.1=0
  ·have:=ordL_all.tr c.1 a.1 b.1 trivial trivial trivial (by omega) (by omega);omega
  ·omega
section
attribute [local simp] aop aopW coldF extF putA ofConst flat scalarOp fastOp binFast intOp guardX Ae.part rowOf szOk natOf lenA cls fillA splice newsOf isNilC cellX
set_option maxHeartbeats 16000000
theorem sadd (a b:ByteArray)(h:a.size+b.size≤9223372036854775807):∃c,strOp .add a b=some (.string c)∧c.data.toList=a.data.toList++b.data.toList∧c.size=a.size+b.size:=by
 refine⟨a++b,?_,by simp,by simp⟩;unfold strOp;rw[if_pos h]
theorem bsize (a:ByteArray):a.size=a.data.toList.length:=by rw[Array.length_toList];rfl
theorem digC_len :∀(k u:Nat),(digC k u).length≤k+1
 |0,u=>by simp[digC]
 |
  k+1,u=>by
  unfold digC;split
  ·simp
  ·have:=digC_len k (u/10);simp;omega
theorem itoaC_len (n:Int):(itoaC n).length≤22:=by
 unfold itoaC;split
 ·have:=digC_len 20 n.natAbs;simp;omega
 ·have:=digC_len 20 n.toNat;omega
theorem itoa_at (n:Nat)(b:Bool)(m:Int)(h:Hp)(hm:i64 m):callN cx (n+1) b 54 [.sc (.int .i64 m)] h=some (.sc (.string ⟨(itoaC m).toArray⟩),h):=by
 refine call_tab rfl (by kernel_rfl) ?_ rfl b h;show tabF 54 [.sc (.int .i64 m)]=_;unfold tabF;rw[if_pos rfl];unfold i64 at hm;simp only[hm,and_self,if_true]
theorem zkL_append :∀(a b:List V),zkL (a++b)=zkL a++zkL b
 | [],b=>by rw[zkL];rfl
 |x::a,b=>by rw[List.cons_append,zkL,zkL,zkL_append a b,Zp]
theorem zkL_take {l:List V}{i:Nat}{x:V}(h:l[i]?=some x):zkL (l.take (i+1))=zkL (l.take i)++zkV x:=by
 rw[List.take_add_one,h,zkL_append];simp[zkL]
theorem zkL_le {l:List V}(i:Nat):(zkL (l.take i)).length≤(zkL l).length:=by
 have:=zkL_append (l.take i) (l.drop i);rw[List.take_append_drop]at this;rw[this,Zu];omega
theorem zkV_le {l:List V}{x:V}(h:x∈l):(zkV x).length≤(zkL l).length:=by
 obtain⟨a,b,rfl⟩:=List.append_of_mem h;rw[zkL_append,zkL,Zu,Zu];omega
theorem lsV_false (rows:List (List AV)):lsV false rows= .ls 5 rows false:=rfl
theorem bs_eq {a:ByteArray}{l:List UInt8}(h:a.data.toList=l):a=⟨l.toArray⟩:=by subst h;simp
theorem setlast (h:Hp)(x y:Blk):(h++[x]).set h.length y=h++[y]:=by simp
theorem getlast (h:Hp)(y:Blk):(h++[y])[h.length]?=some y:=by simp
theorem z_key :∀(D:Nat) (l:List V),(∀x∈l,dep x≤D)→gdL l→l.length≤1000000000000000→(zkR l).length≤1000000000000→∀(N:Nat) (z:Bool) b h,callN cx (N+D+2) b 29 [.ls 5 (encL l) z] h=some (.sc (.string ⟨(zkR l).toArray⟩),h):=by
 intro D
 induction D with
 |
  zero=>
  intro l hd;have:l=[]:=by
   cases l with
   |nil=>rfl
   |cons x l=>have:=hd x (by simp);have:=dep_pos x;omega
  subst this;intro _ _ _ N z b h;refine pure_calm (n:=N+0+1) (r:= .sc (.string ⟨(zkR []).toArray⟩)) ⟨Tryz.f29.ntmps,(Tryz.f29.body).getD .skip,[.tmp 2]⟩ (by kernel_rfl) (by kernel_rfl) rfl (by kernel_rfl) (by simp[Tryz.f29]) rfl rfl ?_ b h;have f0:=fun b h=>itoa_at N b 0 h ⟨by omega,by omega⟩
  obtain⟨A,e,ea⟩:=sadd ⟨(itoaC 0).toArray⟩ ⟨#[91]⟩ (by decide);obtain⟨B,e',eb⟩:=sadd A ⟨#[93]⟩ (by rw[ea.2];decide);have eB:B=⟨(zkR []).toArray⟩:=bs_eq (by rw[eb.1,ea.1];simp[zkR,zkL]);rw[←eB];clear eB;generalize(⟨(itoaC 0).toArray⟩:ByteArray)=I0 at *;rw[show N+0+1=N+1 by omega];simp[Tryz.f29,encL,f0,e];refine loop_up (C:=cx) (G:=fun r=>∃x,finX _ (thenX _ _ (blockX _ r) _)=some (_,x))
   (fun i s=>i=0∧s.1.length=48∧gt s.1 3= .sc (.string A)∧gt s.1 11= .sc (.int .i64 0)∧gt s.1 12= .sc (.int .i64 0))
   (fun o s=>o= .exit 0∧s.1.length=48∧gt s.1 3= .sc (.string A)) 0 (by simp) ⟨rfl,rfl,rfl,rfl,rfl⟩ ?_ ?_
  ·rintro i fr hp hle ⟨rfl,hlen,h3,h11,h12⟩;simp only at hlen h3 h11 h12;simp[hlen,h3,h11,h12]
  ·rintro o fr hp hn ⟨rfl,hlen,h3⟩;simp only at hlen h3;simp[hlen,h3,e']
 |
  succ D ih=>
  intro l hd hg hl hk N z b h;refine pure_calm (n:=N+D+2) (r:= .sc (.string ⟨(zkR l).toArray⟩)) ⟨Tryz.f29.ntmps,(Tryz.f29.body).getD .skip,[.tmp 2]⟩ (by kernel_rfl) (by kernel_rfl) rfl (by kernel_rfl) (by simp[Tryz.f29]) rfl rfl ?_ b h;have fI:=fun m b h (hm:i64 m)=>itoa_at (N+D+1) b m h hm
  have fL:=fun b h=>fI (l.length:Int) b h (i64_nat hl)
  have hkl:(zkR l).length=(itoaC l.length).length+(zkL l).length+2:=by unfold zkR;simp;omega
  have hil:=itoaC_len l.length;have fR:∀x∈l,∀b h,callN cx (N+D+2) b 29 [.ls 5 (encL x.l) false] h=some (.sc (.string ⟨(zkR x.l).toArray⟩),h):=fun x hx=>by
   have gx:=gdL_mem hg x hx;have dx:=hd x hx;have kx:=zkV_le hx;cases x with
   |
    mk k n d s z' l'=>
    rw[gdV]at gx;rw[dep]at dx;have:(zkR l').length≤(zkV (.mk k n d s z' l')).length:=by
     rw[zkV,zkR];simp;omega
    exact ih l' (fun y hy=>by have:=dep_mem hy;omega) gx.2.2.2.2.2.2 gx.2.2.2.2.1 (by omega) N false
  clear ih;rw[show N+D+1+1=N+D+2 by omega]at fI fL;generalize N+D+2=M at fI fL fR⊢;have hq:=encL_length l;have hgt:=encL_get l;generalize encL l=rows at hq hgt;obtain⟨I0,hI0⟩:∃I0:ByteArray,I0=⟨(itoaC l.length).toArray⟩:=⟨_,rfl⟩;rw[←hI0]at fL;have hI1:I0.data.toList=itoaC l.length:=by rw[hI0]
  have hI2:I0.size≤22:=by rw[bsize,hI1];exact hil
  obtain⟨A,e,ea1,ea2⟩:=sadd I0 ⟨#[91]⟩ (by have:(⟨#[91]⟩:ByteArray).size=1:=rfl;omega);obtain⟨T,hT⟩:∃T:ByteArray,T=⟨(zkR l).toArray⟩:=⟨_,rfl⟩;rw[←hT];have hA:A.data.toList=itoaC l.length++91::zkL (l.take 0):=by rw[ea1,hI1];simp[zkL]
  simp[Tryz.f29,fL,e,hq];refine loop_up (C:=cx) (G:=fun r=>∃x,finX _ (thenX _ _ (blockX _ r) _)=some (_,x))
   (fun i s=>i≤l.length∧s.1.length=48∧gt s.1 10= .ls 5 rows z∧gt s.1 11= .sc (.int .i64 l.length)∧gt s.1 12= .sc (.int .i64 i)∧∃S:ByteArray,gt s.1 3= .sc (.string S)∧S.data.toList=itoaC l.length++91::zkL (l.take i))
   (fun o s=>o= .exit 0∧s.1.length=48∧∃S:ByteArray,gt s.1 3= .sc (.string S)∧S.data.toList=itoaC l.length++91::zkL l) l.length (by simp;omega) ?_ ?_ ?_
  ·exact⟨by omega,rfl,rfl,by rw[gt_succ];rfl,rfl,A,rfl,hA⟩
  ·rintro i fr hp hle0 ⟨hle,hlen,h10,h11,h12,S,h3,hS⟩;simp only at hlen h10 h11 h12 h3;by_cases hi:i<l.length
   ·obtain⟨x,hx⟩:∃x,l[i]?=some x:=⟨_,Zb hi⟩;have hmem:=Zi hx;have gx:=gdL_mem hg x hmem;have fK:=fR x hmem;have kx:=zkV_le hmem;have kt:=zkL_take hx;have kl:=zkL_le (l:=l) i;have kl':=zkL_le (l:=l) (i+1);have hr:rows[i]?=some (enc x):=by rw[hgt,hx];rfl
    have hr':∀k,rows[i]'k=enc x:=fun k=>by obtain⟨_,e⟩:=Za.1 hr;exact e
    have hf:fitI .i64 ((i:Int)+1)=((i+1:Nat):Int):=fit_i64 (by omega) (by omega);clear fR;cases x with
    |
     mk k n d s z' l'=>
     rw[gdV]at gx;obtain⟨g1,g2,g3,g4,g5,rfl,_⟩:=gx;simp only[V.l]at fK;simp only[enc,lsV_false]at hr hr';have F1:=fun b h=>fI k b h g1
     have F2:=fun b h=>fI n b h g2
     have F3:=fun b h=>fI d b h g3
     have F4:=fun b h=>fI (s.size:Int) b h (i64_nat g4)
     generalize encL l'=rows' at fK hr hr';have hkv:(zkV (.mk k n d s false l')).length=(itoaC k).length+(itoaC n).length+(itoaC d).length+(itoaC s.size).length+s.size+(zkR l').length+4:=by
      rw[zkV,zkR];simp;omega
     have hkw:zkV (.mk k n d s false l')=itoaC k++[44]++itoaC n++[44]++itoaC d++[44]++itoaC s.size++[58]++s.data.toList++zkR l':=by
      rw[zkV,zkR];simp
     obtain⟨P1,hP1⟩:∃P:ByteArray,P=⟨(itoaC k).toArray⟩:=⟨_,rfl⟩;obtain⟨P2,hP2⟩:∃P:ByteArray,P=⟨(itoaC n).toArray⟩:=⟨_,rfl⟩;obtain⟨P3,hP3⟩:∃P:ByteArray,P=⟨(itoaC d).toArray⟩:=⟨_,rfl⟩;obtain⟨P4,hP4⟩:∃P:ByteArray,P=⟨(itoaC s.size).toArray⟩:=⟨_,rfl⟩;obtain⟨P5,hP5⟩:∃P:ByteArray,P=⟨(zkR l').toArray⟩:=⟨_,rfl⟩;rw[←hP1]at F1;rw[←hP2]at F2;rw[←hP3]at F3;rw[←hP4]at F4;rw[←hP5]at fK;have q1:P1.data.toList=itoaC k:=by rw[hP1]
     have q2:P2.data.toList=itoaC n:=by rw[hP2]
     have q3:P3.data.toList=itoaC d:=by rw[hP3]
     have q4:P4.data.toList=itoaC s.size:=by rw[hP4]
     have q5:P5.data.toList=zkR l':=by rw[hP5]
     have z1:P1.size=(itoaC k).length:=by rw[bsize,q1]
     have z2:P2.size=(itoaC n).length:=by rw[bsize,q2]
     have z3:P3.size=(itoaC d).length:=by rw[bsize,q3]
     have z4:P4.size=(itoaC s.size).length:=by rw[bsize,q4]
     have z5:P5.size=(zkR l').length:=by rw[bsize,q5]
     have zS:S.size=(itoaC l.length).length+1+(zkL (l.take i)).length:=by rw[bsize,hS];simp;omega
     have c44:(⟨#[44]⟩:ByteArray).size=1:=rfl;have c58:(⟨#[58]⟩:ByteArray).size=1:=rfl;obtain⟨B1,b1,l1,w1⟩:=sadd P1 ⟨#[44]⟩ (by omega);obtain⟨B2,b2,l2,w2⟩:=sadd B1 P2 (by omega);obtain⟨B3,b3,l3,w3⟩:=sadd B2 ⟨#[44]⟩ (by omega);obtain⟨B4,b4,l4,w4⟩:=sadd B3 P3 (by omega);obtain⟨B5,b5,l5,w5⟩:=sadd B4 ⟨#[44]⟩ (by omega);obtain⟨B6,b6,l6,w6⟩:=sadd B5 P4 (by omega);obtain⟨B7,b7,l7,w7⟩:=sadd B6 ⟨#[58]⟩ (by omega);obtain⟨B8,b8,l8,w8⟩:=sadd B7 s (by omega);obtain⟨B9,b9,l9,w9⟩:=sadd B8 P5 (by omega);obtain⟨B0,b0,l0,w0⟩:=sadd S B9 (by omega);have hB0:B0.data.toList=itoaC l.length++91::zkL (l.take (i+1)):=by
      rw[kt,hkw,l0,hS,l9,l8,l7,l6,l5,l4,l3,l2,l1,q1,q2,q3,q4,q5];simp
     clear hP1 hP2 hP3 hP4 hP5 l1 l2 l3 l4 l5 l6 l7 l8 l9 l0 w1 w2 w3 w4 w5 w6 w7 w8 w9 w0 z1 z2 z3 z4 z5 zS q1 q2 q3 q4 q5 kt hkw hkv kx kl kl' hS fI fL;simp[hlen,h10,h11,h12,h3,hi,hq,hr,hr',F1,F2,F3,F4,fK,b1,b2,b3,b4,b5,b6,b7,b8,b9,b0,hf,setlast,getlast];exact⟨Nat.succ_le_of_lt hi,hB0⟩
   ·have hil:i=l.length:=Zz hle (Zy hi);subst hil;rw[List.take_length]at hS;simp[hlen,h10,h11,h12,h3,hq,hS]
  ·rintro o fr hp hn ⟨rfl,hlen,S,h3,hS⟩;simp only at hlen h3;have zS:S.size=(itoaC l.length).length+1+(zkL l).length:=by rw[bsize,hS];simp;omega
   obtain⟨B,e',eb,_⟩:=sadd S ⟨#[93]⟩ (by have:(⟨#[93]⟩:ByteArray).size=1:=rfl;omega);have eB:B=T:=by rw[hT];exact bs_eq (by rw[eb,hS,zkR];simp)
   subst eB;simp[hlen,h3,e']
end
section
attribute [local simp] aop aopW coldF extF putA ofConst flat scalarOp fastOp binFast intOp strOp guardX Ae.part rowOf szOk natOf lenA cls fillA splice newsOf isNilC cellX
set_option maxHeartbeats 8000000
def tsR (l:List ByteArray):List (List AV):=l.map fun s=> [.sc (.string s)]
def tsV (l:List ByteArray)(z:Bool):AV:= .ls 1 (tsR l) z
structure Prp where
 key:ByteArray
 v:V
def encR (p:Prp):List AV:= .sc (.string p.key)::enc p.v
def prR (l:List Prp):List (List AV):=l.map encR
def prV (l:List Prp)(z:Bool):AV:= .ls 6 (prR l) z
@[simp] theorem encR_length (p:Prp):(encR p).length=6:=by simp[encR]
@[simp] theorem get_set_last (h:Hp)(a b d:Blk)(id:Nat):((h++[a]).set id d++[b])[h.length+1]?=some b:=by rw[Zf (by simp)];simp
theorem app_nil {t:TypeId}{i:Ti}{sz bytes:Nat}{ag:Bool}{ez:List Value}(hT:cx.T t=some i)(hk:i.kd= .slice sz ag bytes ez)(h:Hp)(cs:List AV)(hc:cs.length=sz)(hb:bytes≤1000):
 appendA cx (h++[.row cs]) t (.sc (.slice none 0 0)) (.sl h.length sz 0 1 false)=some (.sl (h.length+1) sz 0 1 false,h++[.row cs,.row cs]):=by
 obtain⟨size,agg,zero,kd⟩:=i;simp only at hk;subst hk;have hr:rowOf (h++[Blk.row cs]) h.length=some cs:=by simp[rowOf]
 have hn:newsOf (h++[Blk.row cs]) (.sl h.length sz 0 1 false)=some (1,cs):=by
  simp only[newsOf,hr];rw[if_pos (by omega),List.drop_zero,Nat.one_mul,List.take_of_length_le (by omega)]
 unfold appendA;rw[hT];simp only[szOk,beq_self_eq_true,Bool.and_self,if_true,hn];rw[if_neg (by omega),if_pos (by unfold maxLen;omega)];simp
theorem app_own {t:TypeId}{i:Ti}{sz bytes:Nat}{ag:Bool}{ez:List Value}(hT:cx.T t=some i)(hk:i.kd= .slice sz ag bytes ez)(h:Hp)(cs old:List AV)(id n:Nat)(hid:h[id]?=some (.row old))(hc:cs.length=sz)(ho:old.length=n*sz)(hsz:0<sz)(hn1:n≤1000000000000000)(hb:(n+1)*bytes≤140737488355328):
 appendA cx (h++[.row cs]) t (.sl id sz 0 n false) (.sl h.length sz 0 1 false)=some (.sl (h.length+1) sz 0 (n+1) false,(h++[Blk.row cs]).set id .dead++[.row (old++cs)]):=by
 obtain⟨size,agg,zero,kd⟩:=i;simp only at hk;subst hk;have hidl:id<h.length:=(Za.1 hid).1;have hr:rowOf (h++[Blk.row cs]) h.length=some cs:=by simp[rowOf]
 have hn:newsOf (h++[Blk.row cs]) (.sl h.length sz 0 1 false)=some (1,cs):=by
  simp only[newsOf,hr];rw[if_pos (by omega),List.drop_zero,Nat.one_mul,List.take_of_length_le (by omega)]
 have hid':(h++[Blk.row cs])[id]?=some (.row old):=by rw[Zd hidl];exact hid
 have hmul:(n+1)*sz=n*sz+sz:=by rw[Nat.add_mul,Nat.one_mul]
 unfold appendA;rw[hT];simp only[szOk,beq_self_eq_true,Bool.and_self,if_true,hn,hid'];rw[if_neg (by omega),if_neg (by omega),if_pos ⟨trivial,ho,by unfold maxLen;omega,hb⟩];simp
end
end Go.Proofs.YtiefabpageilbaaGreatDoor
