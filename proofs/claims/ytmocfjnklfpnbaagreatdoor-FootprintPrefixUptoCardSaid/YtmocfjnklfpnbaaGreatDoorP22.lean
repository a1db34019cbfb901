/- Expressions without their operands, continued: blank values, how many operands. -/
import Derived.Test.YtmocfjnklfpnbaaGreatDoorP21
set_option linter.all false
set_option maxRecDepth 100000
namespace Go.Proofs.YtmocfjnklfpnbaaGreatDoor
open Go Go.Ae
section
attribute [local simp] aop aopW coldF extF putA ofConst flat scalarOp fastOp binFast intOp strOp guardX Ae.part rowOf szOk natOf lenA cls fillA newsOf isNilC cellX
set_option maxHeartbeats 16000000
def blankC (k n d:Int)(s:ByteArray)(m:Nat):Bool:=decide (k=0) && decide (n=0) && decide (d=0) && eqS s ⟨#[]⟩ && decide (m=0)
def blankS (v:V):Bool:=blankC v.k v.n v.d v.s v.l.length
def opsC (op:Int)(nm:ByteArray)(ds:Bool)(m:Int):Bool:=
 if op=1∨op=2 then decide (m=0)
 else if op=3∨op=4∨op=5∨op=6∨op=21 then decide (m=1)
 else if op=22 then decide (m≤16)
 else if op=23 then decide ((arS nm).1=0)||(decide ((arS nm).1≤m) && decide (m≤(arS nm).2))
 else if op=24 then decide (m=1)||(decide (m=0) && eqS nm ⟨#[99,111,117,110,116]⟩ && !ds)
 else decide (m=2)
theorem arS_cases (x:ByteArray):arS x=(1,1)∨arS x=(2,4)∨arS x=(0,0):=by
 unfold arS;by_cases h0:eqS x ⟨#[105,100]⟩=true
 ·simp[h0]
 simp only[Bool.not_eq_true]at h0;by_cases h1:eqS x ⟨#[116,121,112,101]⟩=true
 ·simp[h0,h1]
 simp only[Bool.not_eq_true]at h1;by_cases h2:eqS x ⟨#[108,97,98,101,108,115]⟩=true
 ·simp[h0,h1,h2]
 simp only[Bool.not_eq_true]at h2;by_cases h3:eqS x ⟨#[115,105,122,101]⟩=true
 ·simp[h0,h1,h2,h3]
 simp only[Bool.not_eq_true]at h3;by_cases h4:eqS x ⟨#[108,101,110,103,116,104]⟩=true
 ·simp[h0,h1,h2,h3,h4]
 simp only[Bool.not_eq_true]at h4;by_cases h5:eqS x ⟨#[110,111,100,101,115]⟩=true
 ·simp[h0,h1,h2,h3,h4,h5]
 simp only[Bool.not_eq_true]at h5;by_cases h6:eqS x ⟨#[101,100,103,101,115]⟩=true
 ·simp[h0,h1,h2,h3,h4,h5,h6]
 simp only[Bool.not_eq_true]at h6;by_cases h7:eqS x ⟨#[102,105,114,115,116]⟩=true
 ·simp[h0,h1,h2,h3,h4,h5,h6,h7]
 simp only[Bool.not_eq_true]at h7;by_cases h8:eqS x ⟨#[108,97,115,116]⟩=true
 ·simp[h0,h1,h2,h3,h4,h5,h6,h7,h8]
 simp only[Bool.not_eq_true]at h8;by_cases h9:eqS x ⟨#[115,116,97,114,116]⟩=true
 ·simp[h0,h1,h2,h3,h4,h5,h6,h7,h8,h9]
 simp only[Bool.not_eq_true]at h9;by_cases h10:eqS x ⟨#[101,110,100]⟩=true
 ·simp[h0,h1,h2,h3,h4,h5,h6,h7,h8,h9,h10]
 simp only[Bool.not_eq_true]at h10;by_cases h11:eqS x ⟨#[97,98,115]⟩=true
 ·simp[h0,h1,h2,h3,h4,h5,h6,h7,h8,h9,h10,h11]
 simp only[Bool.not_eq_true]at h11;by_cases h12:eqS x ⟨#[116,101,120,116]⟩=true
 ·simp[h0,h1,h2,h3,h4,h5,h6,h7,h8,h9,h10,h11,h12]
 simp only[Bool.not_eq_true]at h12;by_cases h13:eqS x ⟨#[99,111,97,108,101,115,99,101]⟩=true
 ·simp[h0,h1,h2,h3,h4,h5,h6,h7,h8,h9,h10,h11,h12,h13]
 simp only[Bool.not_eq_true]at h13;simp[h0,h1,h2,h3,h4,h5,h6,h7,h8,h9,h10,h11,h12,h13]
theorem arS_zero (x:ByteArray):((arS x).2=0)=((arS x).1=0):=by
 rcases arS_cases x with h|h|h<;>rw[h]<;>simp
theorem sy_blank (n:Nat)(b:Bool)(k n' d:Int)(s:ByteArray)(r:List (List AV))(z:Bool)(h:Hp):callN cx (n+1) b 271 [.ag [.sc (.int .i64 k),.sc (.int .i64 n'),.sc (.int .i64 d),.sc (.string s),.ls 5 r z]] h=some (.sc (.bool (blankC k n' d s r.length)),h):=by
 refine pure_calm (r:= .sc (.bool (blankC k n' d s r.length))) ⟨Tryz.f271.ntmps,(Tryz.f271.body).getD .skip,[.tmp 2]⟩ (by kernel_rfl) (by kernel_rfl) rfl (by kernel_rfl) (by simp[Tryz.f271]) rfl rfl ?_ b h;unfold blankC;by_cases h1:k=0
 ·by_cases h2:n'=0
  ·by_cases h3:d=0
   ·cases h4:eqS s ⟨#[]⟩
    ·simp[Tryz.f271,h1,h2,h3,h4]
    ·by_cases h5:r.length=0
     ·simp[Tryz.f271,h1,h2,h3,h4,h5]
     ·simp[Tryz.f271,h1,h2,h3,h4,h5]
   ·simp[Tryz.f271,h1,h2,h3]
  ·simp[Tryz.f271,h1,h2]
 ·simp[Tryz.f271,h1]
theorem sy_operands (n:Nat)(b:Bool)(op k n' d:Int)(s:ByteArray)(r q:List (List AV))(z z':Bool)(nm:ByteArray)(ds:Bool)(h:Hp):callN cx (n+2) b 275 [.ag [.sc (.int .i64 op),.sc (.int .i64 k),.sc (.int .i64 n'),.sc (.int .i64 d),.sc (.string s),.ls 5 r z,.sc (.string nm),.sc (.bool ds),.ls 9 q z']] h=some (.sc (.bool (opsC op nm ds q.length)),h):=by
 refine pure_calm (n:=n+1) (r:= .sc (.bool (opsC op nm ds q.length))) ⟨Tryz.f275.ntmps,(Tryz.f275.body).getD .skip,[.tmp 2]⟩ (by kernel_rfl) (by kernel_rfl) rfl (by kernel_rfl) (by simp[Tryz.f275]) rfl rfl ?_ b h;have fa:=fun b h=>sy_Arity n b nm h
 generalize n+1=M at fa⊢;have ha:=arS_zero nm;unfold opsC;generalize arS nm=ar at fa ha⊢;obtain⟨lo,hi⟩:=ar;generalize hq:q.length=L;by_cases c1:op=1
 ·by_cases e:L=0
  ·have e':(L:Int)=0:=by omega
   simp[Tryz.f275,hq,c1,e,e']
  ·have e':¬(L:Int)=0:=by omega
   simp[Tryz.f275,hq,c1,e,e']
 by_cases c2:op=2
 ·by_cases e:L=0
  ·have e':(L:Int)=0:=by omega
   simp[Tryz.f275,hq,c2,e,e']
  ·have e':¬(L:Int)=0:=by omega
   simp[Tryz.f275,hq,c2,e,e']
 by_cases c3:op=3
 ·by_cases e:L=1
  ·have e':(L:Int)=1:=by omega
   simp[Tryz.f275,hq,c3,e,e']
  ·have e':¬(L:Int)=1:=by omega
   simp[Tryz.f275,hq,c3,e,e']
 by_cases c4:op=4
 ·by_cases e:L=1
  ·have e':(L:Int)=1:=by omega
   simp[Tryz.f275,hq,c4,e,e']
  ·have e':¬(L:Int)=1:=by omega
   simp[Tryz.f275,hq,c4,e,e']
 by_cases c5:op=5
 ·by_cases e:L=1
  ·have e':(L:Int)=1:=by omega
   simp[Tryz.f275,hq,c5,e,e']
  ·have e':¬(L:Int)=1:=by omega
   simp[Tryz.f275,hq,c5,e,e']
 by_cases c6:op=6
 ·by_cases e:L=1
  ·have e':(L:Int)=1:=by omega
   simp[Tryz.f275,hq,c6,e,e']
  ·have e':¬(L:Int)=1:=by omega
   simp[Tryz.f275,hq,c6,e,e']
 by_cases c21:op=21
 ·by_cases e:L=1
  ·have e':(L:Int)=1:=by omega
   simp[Tryz.f275,hq,c21,e,e']
  ·have e':¬(L:Int)=1:=by omega
   simp[Tryz.f275,hq,c21,e,e']
 by_cases c22:op=22
 ·by_cases e:L≤16
  ·have e':(L:Int)≤16:=by omega
   simp[Tryz.f275,hq,c22,e,e']
  ·have e':¬(L:Int)≤16:=by omega
   simp[Tryz.f275,hq,c22,e,e']
 by_cases c23:op=23
 ·by_cases e:lo=0
  ·simp[Tryz.f275,hq,c23,fa,ha,e]
  ·by_cases e1:lo≤L
   ·by_cases e2:(L:Int)≤hi<;>simp[Tryz.f275,hq,c23,fa,ha,e,e1,e2]
   ·simp[Tryz.f275,hq,c23,fa,ha,e,e1]
 by_cases c24:op=24
 ·by_cases e:L=1
  ·have e':(L:Int)=1:=by omega
   simp[Tryz.f275,hq,c24,e,e']
  ·have e':¬(L:Int)=1:=by omega
   by_cases e1:L=0
   ·have e1':(L:Int)=0:=by omega
    cases e2:eqS nm ⟨#[99,111,117,110,116]⟩<;>cases ds<;>simp[Tryz.f275,hq,c24,e1,e1',e2]
   ·have e1':¬(L:Int)=0:=by omega
    simp[Tryz.f275,hq,c24,e,e',e1,e1']
 by_cases e:L=2
 ·have e':(L:Int)=2:=by omega
  simp[Tryz.f275,hq,c1,c2,c3,c4,c5,c6,c21,c22,c23,c24,e,e']
 ·have e':¬(L:Int)=2:=by omega
  simp[Tryz.f275,hq,c1,c2,c3,c4,c5,c6,c21,c22,c23,c24,e,e']
mutual
def szX :Ep→Int
 | .mk _ _ _ _ l=>szL l 1
def szL :List Ep→Int→Int
 | [],n=>n
 |x::xs,n=>szL xs (fitI .i64 (n+szX x))
end
mutual
def dpX :Ep→Int
 | .mk _ _ _ _ l=>fitI .i64 (dpL l 0+1)
def dpL :List Ep→Int→Int
 | [],n=>n
 |x::xs,n=>dpL xs (if n<dpX x then dpX x else n)
end
theorem szL_step {l:List Ep}{i:Nat}{x:Ep}(n:Int)(h:l[i]?=some x):szL (l.drop i) n=szL (l.drop (i+1)) (fitI .i64 (n+szX x)):=by
 obtain⟨k,e⟩:=Za.1 h;rw[Zm k,e,szL]
theorem dpL_step {l:List Ep}{i:Nat}{x:Ep}(n:Int)(h:l[i]?=some x):dpL (l.drop i) n=dpL (l.drop (i+1)) (if n<dpX x then dpX x else n):=by
 obtain⟨k,e⟩:=Za.1 h;rw[Zm k,e,dpL]
theorem spX9 {ev:List AV}(h:ev.length=9)(a b c d e f g i j:AV):splice [a,b,c,d,e,f,g,i,j] 0 ev=ev:=by
 unfold splice;rw[List.take_zero,Zw,Nat.zero_add,h];simp
theorem calm_encX (e:Ep):calm (.ag (encX e))=true:=by
 obtain⟨op,⟨k,n,d,s,z,l⟩,nm,ds,ks⟩:=e;rw[encX,enc];unfold lsV;cases (z && (encL l).isEmpty)<;>rfl
theorem encX_gd {op k n d:Int}{s nm:ByteArray}{z ds:Bool}{l:List V}{ks:List Ep}(hz:z=false):encX (.mk op (.mk k n d s z l) nm ds ks)=[.sc (.int .i64 op),.sc (.int .i64 k),.sc (.int .i64 n),.sc (.int .i64 d),.sc (.string s),.ls 5 (encL l) false,.sc (.string nm),.sc (.bool ds),.ls 9 (encXs ks) false]:=by
 subst hz;rw[encX,enc];rfl
theorem gdX {D:Nat}{op:Int}{v:V}{nm:ByteArray}{ds:Bool}{ks:List Ep}(h:bdX D (.mk op v nm ds ks)):∃k n d s l,v= .mk k n d s false l∧s.size≤1000000000000000∧ks.length≤1000000000000000:=by
 rw[bdX]at h;obtain⟨k,n,d,s,z,l⟩:=v;have h1:=h.1.2;rw[gdV]at h1;obtain⟨_,_,_,h2,_,rfl,_⟩:=h1;exact⟨k,n,d,s,l,rfl,h2,h.2.2.1⟩
theorem sy_Size (D:Nat):∀(d:Nat) (e:Ep),depX e≤d→bdX D e→∀N b h,callN cx (N+d+1) b 220 [.ag (encX e)] h=some (.sc (.int .i64 (szX e)),h):=by
 intro d
 induction d with
 |zero=>intro e h;have:=depX_pos e;omega
 |
  succ d ih=>
  intro e de be N b h;have hcalm:[AV.ag (encX e)].all calm=true:=by rw[Zn,calm_encX];rfl
  refine pure_calm (n:=N+d+1) (r:= .sc (.int .i64 (szX e))) ⟨Tryz.f220.ntmps,(Tryz.f220.body).getD .skip,[.tmp 2]⟩ (by kernel_rfl) (by kernel_rfl) rfl (by kernel_rfl) (by simp[Tryz.f220]) hcalm rfl ?_ b h;have ho:∀x∈e.ks,∀b h,callN cx (N+d+1) b 220 [.ag (encX x)] h=some (.sc (.int .i64 (szX x)),h):=fun x hx=>ih x (kid_dep de hx) (kid_bd be hx) N
  obtain⟨op,v,nm,ds,ks⟩:=e;simp only[Ep.ks]at ho;obtain⟨k,n',d',s,l,rfl,hs,hll⟩:=gdX be;rw[encX_gd rfl,szX];have hq:=encXs_length ks;have hg:=encXs_get ks;generalize encXs ks=rows at hq hg;generalize encL l=r5;generalize hT:szL ks 1=T;simp[Tryz.f220,hq];refine loop_up (C:=cx) (G:=fun r=>∃h',finX _ (thenX _ _ (blockX _ r) _)=some (_,h'))
   (fun i st=>∃c:Int,szL (ks.drop i) c=T∧st.1.length=19∧gt st.1 3= .sc (.int .i64 c)∧gt st.1 7= .ls 9 rows false∧gt st.1 8= .sc (.int .i64 (ks.length:Nat))∧gt st.1 9= .sc (.int .i64 (i:Nat)))
   (fun o s=>o= .exit 0∧s.1.length=19∧gt s.1 3= .sc (.int .i64 T)) ks.length (by simp;omega) ⟨1,hT,rfl,rfl,rfl,rfl,rfl⟩ ?_ ?_
  ·rintro i fr hp hle ⟨c,hT,hlen,h3,h7,h8,h9⟩;simp only at hlen h3 h7 h8 h9;by_cases hi:i<ks.length
   ·obtain⟨x,hx⟩:∃x,ks[i]?=some x:=⟨_,Zb hi⟩;have hr:rows[i]?=some (encX x):=by rw[hg,hx];rfl
    have hr':∀k,rows[i]'k=encX x:=fun k=>by obtain⟨_,e⟩:=Za.1 hr;exact e
    have hw:=fun b h=>ho x (Zi hx) b h
    have hf:=fit_succ (Yj hle hll);have hev:=encX_length x;have hst:=szL_step c hx;rw[hT]at hst;generalize encX x=ev at hr hr' hw hev;have hev9:ev.take 9=ev:=List.take_of_length_le (by omega);have hsp:=spX9 hev;generalize szX x=w at hw hst;simp[hlen,h3,h7,h8,h9,hi,hq,hr,hr',hw,hev,hev9,hsp,hf];exact hst.symm
   ·have hil:i=ks.length:=Yc hle (Yb hi);subst hil;rw[Yd,szL]at hT;subst hT;simp[hlen,h3,h7,h8,h9]
  ·rintro o fr hp hn ⟨rfl,hlen,h3⟩;simp only at hlen h3;simp[hlen,h3]
theorem sy_depth (D:Nat):∀(d:Nat) (e:Ep),depX e≤d→bdX D e→∀N b h,callN cx (N+d+1) b 219 [.ag (encX e)] h=some (.sc (.int .i64 (dpX e)),h):=by
 intro d
 induction d with
 |zero=>intro e h;have:=depX_pos e;omega
 |
  succ d ih=>
  intro e de be N b h;have hcalm:[AV.ag (encX e)].all calm=true:=by rw[Zn,calm_encX];rfl
  refine pure_calm (n:=N+d+1) (r:= .sc (.int .i64 (dpX e))) ⟨Tryz.f219.ntmps,(Tryz.f219.body).getD .skip,[.tmp 2]⟩ (by kernel_rfl) (by kernel_rfl) rfl (by kernel_rfl) (by simp[Tryz.f219]) hcalm rfl ?_ b h;have ho:∀x∈e.ks,∀b h,callN cx (N+d+1) b 219 [.ag (encX x)] h=some (.sc (.int .i64 (dpX x)),h):=fun x hx=>ih x (kid_dep de hx) (kid_bd be hx) N
  obtain⟨op,v,nm,ds,ks⟩:=e;simp only[Ep.ks]at ho;obtain⟨k,n',d',s,l,rfl,hs,hll⟩:=gdX be;rw[encX_gd rfl,dpX];have hq:=encXs_length ks;have hg:=encXs_get ks;generalize encXs ks=rows at hq hg;generalize encL l=r5;generalize hT:dpL ks 0=T;simp[Tryz.f219,hq];refine loop_up (C:=cx) (G:=fun r=>∃h',finX _ (thenX _ _ (blockX _ r) _)=some (_,h'))
   (fun i st=>∃c:Int,dpL (ks.drop i) c=T∧st.1.length=20∧gt st.1 3= .sc (.int .i64 c)∧gt st.1 7= .ls 9 rows false∧gt st.1 8= .sc (.int .i64 (ks.length:Nat))∧gt st.1 9= .sc (.int .i64 (i:Nat)))
   (fun o s=>o= .exit 0∧s.1.length=20∧gt s.1 3= .sc (.int .i64 T)) ks.length (by simp;omega) ⟨0,hT,rfl,rfl,rfl,rfl,rfl⟩ ?_ ?_
  ·rintro i fr hp hle ⟨c,hT,hlen,h3,h7,h8,h9⟩;simp only at hlen h3 h7 h8 h9;by_cases hi:i<ks.length
   ·obtain⟨x,hx⟩:∃x,ks[i]?=some x:=⟨_,Zb hi⟩;have hr:rows[i]?=some (encX x):=by rw[hg,hx];rfl
    have hr':∀k,rows[i]'k=encX x:=fun k=>by obtain⟨_,e⟩:=Za.1 hr;exact e
    have hw:=fun b h=>ho x (Zi hx) b h
    have hf:=fit_succ (Yj hle hll);have hev:=encX_length x;have hst:=dpL_step c hx;rw[hT]at hst;generalize encX x=ev at hr hr' hw hev;have hev9:ev.take 9=ev:=List.take_of_length_le (by omega);have hsp:=spX9 hev;generalize dpX x=w at hw hst;simp[hlen,h3,h7,h8,h9,hi,hq,hr,hr',hw,hev,hev9,hsp,hf];exact hst.symm
   ·have hil:i=ks.length:=Yc hle (Yb hi);subst hil;rw[Yd,dpL]at hT;subst hT;simp[hlen,h3,h7,h8,h9]
  ·rintro o fr hp hn ⟨rfl,hlen,h3⟩;simp only at hlen h3;simp[hlen,h3]
set_option maxHeartbeats 16000000
mutual
def hasX :Ep→Bool
 | .mk o _ _ _ l=>decide (o=24)||hasL l
def hasL :List Ep→Bool
 | []=>false
 |x::xs=>hasX x||hasL xs
end
theorem r18_Size (D:Nat):∀(d:Nat) (e:Ep),depX e≤d→bdX D e→∀N b h,callN cx (N+d+1) b 25 [.ag (encX e)] h=some (.sc (.int .i64 (szX e)),h):=by
 intro d
 induction d with
 |zero=>intro e h;have:=depX_pos e;omega
 |
  succ d ih=>
  intro e de be N b h;have hcalm:[AV.ag (encX e)].all calm=true:=by rw[Zn,calm_encX];rfl
  refine pure_calm (n:=N+d+1) (r:= .sc (.int .i64 (szX e))) ⟨Tryz.f25.ntmps,(Tryz.f25.body).getD .skip,[.tmp 2]⟩ (by kernel_rfl) (by kernel_rfl) rfl (by kernel_rfl) (by simp[Tryz.f25]) hcalm rfl ?_ b h;have ho:∀x∈e.ks,∀b h,callN cx (N+d+1) b 25 [.ag (encX x)] h=some (.sc (.int .i64 (szX x)),h):=fun x hx=>ih x (kid_dep de hx) (kid_bd be hx) N
  obtain⟨op,v,nm,ds,ks⟩:=e;simp only[Ep.ks]at ho;obtain⟨k,n',d',s,l,rfl,hs,hll⟩:=gdX be;rw[encX_gd rfl,szX];have hq:=encXs_length ks;have hg:=encXs_get ks;generalize encXs ks=rows at hq hg;generalize encL l=r5;generalize hT:szL ks 1=T;simp[Tryz.f25,hq];refine loop_up (C:=cx) (G:=fun r=>∃h',finX _ (thenX _ _ (blockX _ r) _)=some (_,h'))
   (fun i st=>∃c:Int,szL (ks.drop i) c=T∧st.1.length=21∧gt st.1 1= .pt 0 0∧gt st.1 3= .sc (.int .i64 c)∧gt st.1 4= .sc (.int .i64 (i:Nat))∧st.2=[.row [.sc (.int .i64 op),.sc (.int .i64 k),.sc (.int .i64 n'),.sc (.int .i64 d'),.sc (.string s),.ls 5 r5 false,.sc (.string nm),.sc (.bool ds),.ls 9 rows false]])
   (fun o s=>o= .exit 0∧s.1.length=21∧gt s.1 3= .sc (.int .i64 T)) ks.length (by simp;omega) ⟨1,hT,rfl,rfl,rfl,rfl,rfl⟩ ?_ ?_
  ·rintro i fr hp hle ⟨c,hT,hlen,h1,h3,h4,hh⟩;simp only at hlen h1 h3 h4 hh;subst hh;by_cases hi:i<ks.length
   ·obtain⟨x,hx⟩:∃x,ks[i]?=some x:=⟨_,Zb hi⟩;have hr:rows[i]?=some (encX x):=by rw[hg,hx];rfl
    have hr':∀k,rows[i]'k=encX x:=fun k=>by obtain⟨_,e⟩:=Za.1 hr;exact e
    have hw:=fun b h=>ho x (Zi hx) b h
    have hf:=fit_succ (Yj hle hll);have hev:=encX_length x;have hst:=szL_step c hx;rw[hT]at hst;generalize encX x=ev at hr hr' hw hev;have hev9:ev.take 9=ev:=List.take_of_length_le (by omega);generalize szX x=w at hw hst;simp[hlen,h1,h3,h4,hi,hq,hr,hr',hw,hev,hev9,hf];exact hst.symm
   ·have hil:i=ks.length:=Yc hle (Yb hi);subst hil;rw[Yd,szL]at hT;subst hT;simp[hlen,h1,h3,h4,hq]
  ·rintro o fr hp hn ⟨rfl,hlen,h3⟩;simp only at hlen h3;simp[hlen,h3]
set_option maxHeartbeats 16000000
def ixR (p:List AV→Bool):List (List AV)→Int→Int
 | [],_=> -1
 |r::l,i=>if p r=true then i else ixR p l (i+1)
theorem ixR_step {p:List AV→Bool}{l:List (List AV)}{i:Nat}{r:List AV}(h:l[i]?=some r):ixR p (l.drop i) (i:Nat)=if p r=true then(i:Int)else ixR p (l.drop (i+1)) ((i+1:Nat):Int):=by
 obtain⟨k,e⟩:=Za.1 h;rw[Zm k,e,ixR];rfl
theorem ixR_any (p:List AV→Bool):∀(l:List (List AV)) (i:Int),0≤i→decide (0≤ixR p l i)=l.any p
 | [],i,h=>by simp[ixR]
 |
  r::l,i,h=>by
  rw[ixR,List.any_cons];cases hp:p r with
  |true=>simp[h]
  |false=>simp[ixR_any p l (i+1) (by omega)]
theorem ix_Exs (n:Nat)(b:Bool)(g:FuncId)(rows:List (List AV))(p:List AV→Bool)(z:Bool)(h:Hp)(hw:∀r∈rows,r.length=9)(hl:rows.length≤1000000000000000)(hc:∀r∈rows,∀b h,callN cx n b g [.ag r] h=some (.sc (.bool (p r)),h))(hx:¬(g=267∨g=269):=by decide):callN cx (n+1) b 282 [.ls 9 rows z,.fn g []] h=some (.sc (.int .i64 (ixR p rows 0)),h):=by
 refine pure_calm (n:=n) (r:= .sc (.int .i64 (ixR p rows 0))) ⟨Tryz.f282.ntmps,(Tryz.f282.body).getD .skip,[.tmp 4]⟩ (by kernel_rfl) (by kernel_rfl) rfl (by kernel_rfl) (by simp[Tryz.f282]) rfl rfl ?_ b h;generalize hT:ixR p rows 0=T;simp[Tryz.f282];refine loop_up (C:=cx) (G:=fun r=>∃h',finX _ (thenX _ _ (blockX _ r) _)=some (_,h'))
  (fun i s=>ixR p (rows.drop i) (i:Nat)=T∧s.1.length=19∧gt s.1 0= .ls 9 rows z∧gt s.1 1= .fn g []∧gt s.1 7= .sc (.int .i64 (rows.length:Nat))∧gt s.1 8= .sc (.int .i64 (i:Nat)))
  (fun o s=>s.1.length=19∧((o= .exit 0∧T= -1)∨(o= .ret∧gt s.1 4= .sc (.int .i64 T)))) rows.length (by simp;omega) ⟨hT,rfl,rfl,rfl,rfl,rfl⟩ ?_ ?_
 ·rintro i fr hp hle ⟨hT,hlen,h0,h1,h7,h8⟩;simp only at hlen h0 h1 h7 h8;by_cases hi:i<rows.length
  ·obtain⟨r,hr⟩:∃p,rows[i]?=some p:=⟨_,Zb hi⟩;have hr':∀k,rows[i]'k=r:=fun k=>by obtain⟨_,e⟩:=Za.1 hr;exact e
   have hm:=Zi hr;have hcx:=fun b h=>hc r hm b h
   have hev:=hw r hm;have hev9:r.take 9=r:=List.take_of_length_le (by omega);have hf:=fit_succ (Yj hle hl);rw[ixR_step hr]at hT;generalize p r=w at hcx hT;cases w with
   |
    true=>
    rw[if_pos rfl]at hT;subst hT;simp[hlen,h0,h1,h7,h8,hi,hr,hr',hcx,hev,hev9,hx]
   |
    false=>
    rw[if_neg (by simp)]at hT;simp[hlen,h0,h1,h7,h8,hi,hr,hr',hcx,hev,hev9,hf,hx];exact hT
  ·have hil:i=rows.length:=Yc hle (Yb hi);subst hil;rw[Yd,ixR]at hT;subst hT;simp[hlen,h0,h1,h7,h8]
 ·rintro o fr h hn ⟨hlen,⟨rfl,hz⟩|⟨rfl,h2⟩⟩
  ·simp only at hlen;simp[hlen,hz]
  ·simp only at hlen h2;simp[hlen,h2]
theorem ct_Exs (n:Nat)(b:Bool)(g:FuncId)(rows:List (List AV))(p:List AV→Bool)(z:Bool)(h:Hp)(hw:∀r∈rows,r.length=9)(hl:rows.length≤1000000000000000)(hc:∀r∈rows,∀b h,callN cx n b g [.ag r] h=some (.sc (.bool (p r)),h))(hx:¬(g=267∨g=269):=by decide):callN cx (n+2) b 226 [.ls 9 rows z,.fn g []] h=some (.sc (.bool (rows.any p)),h):=by
 refine pure_calm (n:=n+1) (r:= .sc (.bool (rows.any p))) ⟨Tryz.f226.ntmps,(Tryz.f226.body).getD .skip,[.tmp 4]⟩ (by kernel_rfl) (by kernel_rfl) rfl (by kernel_rfl) (by simp[Tryz.f226]) rfl rfl ?_ b h;have f1:=fun b h=>ix_Exs n b g rows p z h hw hl hc hx
 rw[←ixR_any p rows 0 (by omega)];generalize ixR p rows 0=T at f1⊢;generalize n+1=M at f1⊢;by_cases hT:0≤T<;>simp[Tryz.f226,f1,hT]
theorem ix_EPs (n:Nat)(b:Bool)(g:FuncId)(rows:List (List AV))(p:List AV→Bool)(z:Bool)(h:Hp)(hw:∀r∈rows,r.length=7)(hl:rows.length≤1000000000000000)(hc:∀r∈rows,∀b h,callN cx n b g [.ag r] h=some (.sc (.bool (p r)),h))(hx:¬(g=267∨g=269):=by decide):callN cx (n+1) b 272 [.ls 7 rows z,.fn g []] h=some (.sc (.int .i64 (ixR p rows 0)),h):=by
 refine pure_calm (n:=n) (r:= .sc (.int .i64 (ixR p rows 0))) ⟨Tryz.f272.ntmps,(Tryz.f272.body).getD .skip,[.tmp 4]⟩ (by kernel_rfl) (by kernel_rfl) rfl (by kernel_rfl) (by simp[Tryz.f272]) rfl rfl ?_ b h;generalize hT:ixR p rows 0=T;simp[Tryz.f272];refine loop_up (C:=cx) (G:=fun r=>∃h',finX _ (thenX _ _ (blockX _ r) _)=some (_,h'))
  (fun i s=>ixR p (rows.drop i) (i:Nat)=T∧s.1.length=19∧gt s.1 0= .ls 7 rows z∧gt s.1 1= .fn g []∧gt s.1 7= .sc (.int .i64 (rows.length:Nat))∧gt s.1 8= .sc (.int .i64 (i:Nat)))
  (fun o s=>s.1.length=19∧((o= .exit 0∧T= -1)∨(o= .ret∧gt s.1 4= .sc (.int .i64 T)))) rows.length (by simp;omega) ⟨hT,rfl,rfl,rfl,rfl,rfl⟩ ?_ ?_
 ·rintro i fr hp hle ⟨hT,hlen,h0,h1,h7,h8⟩;simp only at hlen h0 h1 h7 h8;by_cases hi:i<rows.length
  ·obtain⟨r,hr⟩:∃p,rows[i]?=some p:=⟨_,Zb hi⟩;have hr':∀k,rows[i]'k=r:=fun k=>by obtain⟨_,e⟩:=Za.1 hr;exact e
   have hm:=Zi hr;have hcx:=fun b h=>hc r hm b h
   have hev:=hw r hm;have hev9:r.take 7=r:=List.take_of_length_le (by omega);have hf:=fit_succ (Yj hle hl);rw[ixR_step hr]at hT;generalize p r=w at hcx hT;cases w with
   |
    true=>
    rw[if_pos rfl]at hT;subst hT;simp[hlen,h0,h1,h7,h8,hi,hr,hr',hcx,hev,hev9,hx]
   |
    false=>
    rw[if_neg (by simp)]at hT;simp[hlen,h0,h1,h7,h8,hi,hr,hr',hcx,hev,hev9,hf,hx];exact hT
  ·have hil:i=rows.length:=Yc hle (Yb hi);subst hil;rw[Yd,ixR]at hT;subst hT;simp[hlen,h0,h1,h7,h8]
 ·rintro o fr h hn ⟨hlen,⟨rfl,hz⟩|⟨rfl,h2⟩⟩
  ·simp only at hlen;simp[hlen,hz]
  ·simp only at hlen h2;simp[hlen,h2]
theorem ct_EPs (n:Nat)(b:Bool)(g:FuncId)(rows:List (List AV))(p:List AV→Bool)(z:Bool)(h:Hp)(hw:∀r∈rows,r.length=7)(hl:rows.length≤1000000000000000)(hc:∀r∈rows,∀b h,callN cx n b g [.ag r] h=some (.sc (.bool (p r)),h))(hx:¬(g=267∨g=269):=by decide):callN cx (n+2) b 209 [.ls 7 rows z,.fn g []] h=some (.sc (.bool (rows.any p)),h):=by
 refine pure_calm (n:=n+1) (r:= .sc (.bool (rows.any p))) ⟨Tryz.f209.ntmps,(Tryz.f209.body).getD .skip,[.tmp 4]⟩ (by kernel_rfl) (by kernel_rfl) rfl (by kernel_rfl) (by simp[Tryz.f209]) rfl rfl ?_ b h;have f1:=fun b h=>ix_EPs n b g rows p z h hw hl hc hx
 rw[←ixR_any p rows 0 (by omega)];generalize ixR p rows 0=T at f1⊢;generalize n+1=M at f1⊢;by_cases hT:0≤T<;>simp[Tryz.f209,f1,hT]
theorem ix_PPs (n:Nat)(b:Bool)(g:FuncId)(rows:List (List AV))(p:List AV→Bool)(z:Bool)(h:Hp)(hw:∀r∈rows,r.length=10)(hl:rows.length≤1000000000000000)(hc:∀r∈rows,∀b h,callN cx n b g [.ag r] h=some (.sc (.bool (p r)),h))(hx:¬(g=267∨g=269):=by decide):callN cx (n+1) b 147 [.ls 10 rows z,.fn g []] h=some (.sc (.int .i64 (ixR p rows 0)),h):=by
 refine pure_calm (n:=n) (r:= .sc (.int .i64 (ixR p rows 0))) ⟨Tryz.f147.ntmps,(Tryz.f147.body).getD .skip,[.tmp 4]⟩ (by kernel_rfl) (by kernel_rfl) rfl (by kernel_rfl) (by simp[Tryz.f147]) rfl rfl ?_ b h;generalize hT:ixR p rows 0=T;simp[Tryz.f147];refine loop_up (C:=cx) (G:=fun r=>∃h',finX _ (thenX _ _ (blockX _ r) _)=some (_,h'))
  (fun i s=>ixR p (rows.drop i) (i:Nat)=T∧s.1.length=19∧gt s.1 0= .ls 10 rows z∧gt s.1 1= .fn g []∧gt s.1 7= .sc (.int .i64 (rows.length:Nat))∧gt s.1 8= .sc (.int .i64 (i:Nat)))
  (fun o s=>s.1.length=19∧((o= .exit 0∧T= -1)∨(o= .ret∧gt s.1 4= .sc (.int .i64 T)))) rows.length (by simp;omega) ⟨hT,rfl,rfl,rfl,rfl,rfl⟩ ?_ ?_
 ·rintro i fr hp hle ⟨hT,hlen,h0,h1,h7,h8⟩;simp only at hlen h0 h1 h7 h8;by_cases hi:i<rows.length
  ·obtain⟨r,hr⟩:∃p,rows[i]?=some p:=⟨_,Zb hi⟩;have hr':∀k,rows[i]'k=r:=fun k=>by obtain⟨_,e⟩:=Za.1 hr;exact e
   have hm:=Zi hr;have hcx:=fun b h=>hc r hm b h
   have hev:=hw r hm;have hev9:r.take 10=r:=List.take_of_length_le (by omega);have hf:=fit_succ (Yj hle hl);rw[ixR_step hr]at hT;generalize p r=w at hcx hT;cases w with
   |
    true=>
    rw[if_pos rfl]at hT;subst hT;simp[hlen,h0,h1,h7,h8,hi,hr,hr',hcx,hev,hev9,hx]
   |
    false=>
    rw[if_neg (by simp)]at hT;simp[hlen,h0,h1,h7,h8,hi,hr,hr',hcx,hev,hev9,hf,hx];exact hT
  ·have hil:i=rows.length:=Yc hle (Yb hi);subst hil;rw[Yd,ixR]at hT;subst hT;simp[hlen,h0,h1,h7,h8]
 ·rintro o fr h hn ⟨hlen,⟨rfl,hz⟩|⟨rfl,h2⟩⟩
  ·simp only at hlen;simp[hlen,hz]
  ·simp only at hlen h2;simp[hlen,h2]
theorem anyC {α:Type}{f g:α→Bool}:∀{l:List α},(∀x∈l,f x=g x)→l.any f=l.any g
 | [],_=>rfl
 |y::l,h=>by rw[List.any_cons,List.any_cons,h y (List.mem_cons_self ..),anyC fun x hx=>h x (List.mem_cons_of_mem _ hx)]
theorem hasL_any :∀l:List Ep,hasL l=l.any hasX
 | []=>by rw[hasL];rfl
 |x::xs=>by rw[hasL,List.any_cons,hasL_any xs]
theorem sy_HasAgg (D:Nat):∀(d:Nat) (e:Ep),depX e≤d→bdX D e→∀N b h,callN cx (N+3*d) b 145 [.ag (encX e)] h=some (.sc (.bool (hasX e)),h):=by
 intro d
 induction d with
 |zero=>intro e h;have:=depX_pos e;omega
 |
  succ d ih=>
  intro e de be N b h;have hcalm:[AV.ag (encX e)].all calm=true:=by rw[Zn,calm_encX];rfl
  refine pure_calm (n:=N+3*d+2) (r:= .sc (.bool (hasX e))) ⟨Tryz.f145.ntmps,(Tryz.f145.body).getD .skip,[.tmp 2]⟩ (by kernel_rfl) (by kernel_rfl) rfl (by kernel_rfl) (by simp[Tryz.f145]) hcalm rfl ?_ b h;have ho:∀x∈e.ks,∀b h,callN cx (N+3*d) b 145 [.ag (encX x)] h=some (.sc (.bool (hasX x)),h):=fun x hx=>ih x (kid_dep de hx) (kid_bd be hx) N
  obtain⟨op,v,nm,ds,ks⟩:=e;simp only[Ep.ks]at ho;obtain⟨k,n',d',s,l,rfl,hs,hll⟩:=gdX be;rw[encX_gd rfl,hasX];have hex:∃p:List AV→Bool,(∀x∈ks,p (encX x)=hasX x):=by
   refine⟨fun r=>match callN cx (N+3*d) true 145 [.ag r] []with|some (.sc (.bool q),_)=>q|_=>false,fun x hx=>?_⟩;simp only[ho x hx]
  obtain⟨p,hp⟩:=hex;have f1:=fun b h=>ct_Exs (N+3*d) b 145 (encXs ks) p false h (fun r hr=>by
   rw[←encXs_map]at hr;obtain⟨x,_,rfl⟩:=Yh.1 hr;exact encX_length x) (by rw[encXs_length];exact hll) (fun r hr b h=>by
   rw[←encXs_map]at hr;obtain⟨x,hx,rfl⟩:=Yh.1 hr;rw[hp x hx];exact ho x hx b h)
  have hany:(encXs ks).any p=hasL ks:=by
   rw[hasL_any,←encXs_map,List.any_map];exact anyC fun x hx=>hp x hx
  rw[hany]at f1;generalize encXs ks=rows at f1⊢;generalize encL l=r5;generalize hasL ks=T at f1⊢;generalize N+3*d+2=M at f1⊢;by_cases hop:op=24
  ·simp[Tryz.f145,hop]
  ·simp[Tryz.f145,hop,f1]
end
end Go.Proofs.YtmocfjnklfpnbaaGreatDoor
