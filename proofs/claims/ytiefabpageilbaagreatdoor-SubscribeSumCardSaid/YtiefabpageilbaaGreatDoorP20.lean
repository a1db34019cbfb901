/- Contracts: str of the reference's values. -/
import Derived.Test.YtiefabpageilbaaGreatDoorP19
set_option linter.all false
set_option maxRecDepth 100000
namespace Go.Proofs.YtiefabpageilbaaGreatDoor
open Go Go.Ae
section
attribute [local simp] aop aopW coldF extF putA ofConst flat scalarOp fastOp binFast intOp strOp guardX Ae.part rowOf szOk natOf lenA cls fillA newsOf isNilC cellX
def okC (c:UInt8):Bool:=decide (32≤c.toNat) && decide (c.toNat≤126)
theorem okC_int (c:UInt8):okC c=(decide (32≤(c.toNat:Int)) && decide ((c.toNat:Int)≤126)):=by
 unfold okC;generalize c.toNat=m;have e1:decide (32≤m)=decide (32≤(m:Int)):=decide_eq_decide.2 (by omega);have e2:decide (m≤126)=decide ((m:Int)≤126):=decide_eq_decide.2 (by omega);rw[e1,e2]
def okD (x:ByteArray)(i:Nat):Bool:=(x.data.toList.drop i).all okC
theorem okD_zero (x:ByteArray):okS x=okD x 0:=rfl
theorem okD_end (x:ByteArray)(i:Nat)(h:x.size≤i):okD x i=true:=by unfold okD;rw[Zt h];rfl
theorem okD_step {x:ByteArray}{i:Nat}{c:UInt8}(h:x.data.toList[i]?=some c):okD x i=(okC c && okD x (i+1)):=by
 obtain⟨k,e⟩:=Za.1 h;unfold okD;rw[Zm k,e,Zn]
theorem r04_str (n:Nat)(b:Bool)(x:ByteArray)(h:Hp)(hx:x.size≤1000000000000000):callN cx (n+1) b 205 [.sc (.string x)] h=some (.sc (.bool (okS x && decide ((x.size:Int)≤100))),h):=by
 refine pure_calm (r:= .sc (.bool (okS x && decide ((x.size:Int)≤100)))) ⟨Tryz.f205.ntmps,(Tryz.f205.body).getD .skip,[.tmp 2]⟩ (by kernel_rfl) (by kernel_rfl) rfl (by kernel_rfl) (by simp[Tryz.f205]) rfl rfl ?_ b h;have hsz:x.data.toList.length=x.size:=rfl;simp[Tryz.f205];refine loop_up (C:=cx) (G:=fun r=>∃h',finX _ (thenX _ _ (blockX _ r) _)=some (_,h'))
  (fun i s=>okS x=okD x i∧s.1.length=23∧gt s.1 0= .sc (.string x)∧gt s.1 3= .sc (.int .i64 i))
  (fun o s=>s.1.length=23∧((o= .exit 0∧okS x=true∧gt s.1 0= .sc (.string x))∨(o= .ret∧okS x=false∧gt s.1 2= .sc (.bool false)))) x.size (by simp;omega) (by simp[okD_zero]) ?_ ?_
 ·rintro i fr h hle ⟨ho,hlen,h0,h3⟩;simp only at hlen h0 h3;by_cases hi:i<x.size
  ·obtain⟨c,hc⟩:∃c,x.data.toList[i]?=some c:=⟨_,Zb (by omega)⟩;rw[okD_step hc]at ho;have hf:fitI .i64 ((i:Int)+1)=((i+1:Nat):Int):=fit_i64 (by omega) (by omega);have hc':∀k,x.data[i]'k=c:=fun k=>by obtain⟨_,e⟩:=Za.1 hc;exact e
   obtain⟨q,hq⟩:∃q:Int,q=c.toNat:=⟨_,rfl⟩;have hok:okC c=(decide (32≤q) && decide (q≤126)):=by rw[hq];exact okC_int c
   rw[hok]at ho;clear hok;by_cases c1:q<32
   ·have z:okS x=false:=by rw[ho];simp;omega
    clear ho;simp[hlen,h0,h3,hi,hc,hc',←hq,c1,z]
   ·by_cases c2:126<q
    ·have z:okS x=false:=by rw[ho];simp;omega
     clear ho;simp[hlen,h0,h3,hi,hc,hc',←hq,c1,c2,z]
    ·have z:okS x=okD x (i+1):=by rw[ho];simp[show 32≤q by omega,show q≤126 by omega]
     clear ho;simp[hlen,h0,h3,hi,hc,hc',←hq,c1,c2,hf];exact z
  ·have hz:okS x=true:=by rw[ho,okD_end x i (by omega)]
   simp[hlen,h0,h3,hi,hz]
 ·rintro o fr h hn ⟨hlen,⟨rfl,hz,h0⟩|⟨rfl,hz,h2⟩⟩
  ·simp only at hlen h0;simp[hlen,h0,hz]
  ·simp only at h2;simp[h2,hz]
set_option maxHeartbeats 4000000
@[simp] theorem enc_length (v:V):(enc v).length=5:=by cases v;rfl
@[simp] theorem take_enc (v:V):List.take 5 (enc v)=enc v:=by cases v;rfl
def VC (N:Nat)(v:V):Prop:=∀b m h,0≤m→m≤8→callN cx N b 149 [.ag (enc v),.sc (.int .i64 m)] h=some (.sc (.bool (okV v m)),h)
def okLD (l:List V)(m:Int)(i:Nat):Bool:=okL (l.drop i) m
theorem okLD_zero (l:List V)(m:Int):okL l m=okLD l m 0:=rfl
theorem okLD_end (l:List V)(m:Int)(i:Nat)(h:l.length≤i):okLD l m i=true:=by unfold okLD;rw[Zt h];rfl
theorem okLD_step {l:List V}{m:Int}{i:Nat}{c:V}(h:l[i]?=some c):okLD l m i=(okV c m && okLD l m (i+1)):=by
 obtain⟨k,e⟩:=Za.1 h;unfold okLD;rw[Zm k,e,okL]
def okLst (l:List V)(m:Int):Bool:=decide ((l.length:Int)≤64) && decide (1≤m) && okL l (m-1)
theorem calm_evL (z:Bool)(l:List V):calm (evL z l)=true:=by unfold evL lsV;cases z && (encL l).isEmpty<;>rfl
theorem r04_list (N:Nat)(b:Bool)(z:Bool)(l:List V)(m:Int)(h:Hp)(hm0:0≤m)(hm8:m≤8)(hv:∀x∈l,VC N x):callN cx (N+1) b 207 [evL z l,.sc (.int .i64 m)] h=some (.sc (.bool (okLst l m)),h):=by
 have hc:[evL z l,.sc (.int .i64 m)].all calm=true:=by rw[Zn,calm_evL];rfl
 refine pure_calm (r:= .sc (.bool (okLst l m))) ⟨Tryz.f207.ntmps,(Tryz.f207.body).getD .skip,[.tmp 4]⟩ (by kernel_rfl) (by kernel_rfl) rfl (by kernel_rfl) (by simp[Tryz.f207]) hc rfl ?_ b h;clear hc;unfold okLst;by_cases h1:m<1
 ·rcases lsV_cases z l with⟨rfl,e⟩|e<;>simp[Tryz.f207,h1,show¬1≤m by omega,e]
 have hf1:fitI .i64 (m-1)=m-1:=fit_i64 (by omega) (by omega);have h1':1≤m:=by omega
 rcases lsV_cases z l with⟨rfl,e⟩|e
 ·rw[e];simp[Tryz.f207,h1,h1',okL];refine loop_up (C:=cx) (G:=fun r=>∃h',finX _ (thenX _ _ (blockX _ r) _)=some (_,h'))
   (fun i s=>i=0∧s.1.length=27∧gt s.1 0= .sc (.slice none 0 0)∧gt s.1 5= .sc (.int .i64 0))
   (fun o s=>s.1.length=27∧o= .exit 0) 0 (by simp) (by simp) ?_ ?_
  ·rintro i fr h hle ⟨rfl,hlen,h0,h5⟩;simp only at hlen h0 h5;simp[hlen,h0,h5]
  ·rintro o fr h hn ⟨hlen,rfl⟩;simp only at hlen;simp[hlen]
 ·rw[e];have hq:=encL_length l;have hg:=encL_get l;generalize encL l=rows at hq hg;by_cases h2:64< (l.length:Int)
  ·simp[Tryz.f207,h1,h1',hq,h2,show¬(l.length:Int)≤64 by omega]
  ·have h2':(l.length:Int)≤64:=by omega
   simp[Tryz.f207,h1,h1',hq,h2,h2'];refine loop_up (C:=cx) (G:=fun r=>∃h',finX _ (thenX _ _ (blockX _ r) _)=some (_,h'))
    (fun i s=>okL l (m-1)=okLD l (m-1) i∧s.1.length=27∧gt s.1 0= .ls 5 rows z∧gt s.1 1= .sc (.int .i64 m)∧gt s.1 5= .sc (.int .i64 i))
    (fun o s=>s.1.length=27∧((o= .exit 0∧okL l (m-1)=true)∨(o= .ret∧okL l (m-1)=false∧gt s.1 4= .sc (.bool false)))) l.length (by simp;omega) (by simp[okLD_zero]) ?_ ?_
   ·rintro i fr h hle ⟨ho,hlen,h0,h1,h5⟩;simp only at hlen h0 h1 h5;by_cases hi:i<l.length
    ·obtain⟨c,hc⟩:∃c,l[i]?=some c:=⟨_,Zb hi⟩;have hr:rows[i]?=some (enc c):=by rw[hg,hc];rfl
     have hr':∀k,rows[i]'k=enc c:=fun k=>by obtain⟨_,e⟩:=Za.1 hr;exact e
     have hcv:=hv c (Zi hc);have hcall:=fun b h=>hcv b (m-1) h (by omega) (by omega)
     rw[okLD_step hc]at ho;have hf:fitI .i64 ((i:Int)+1)=((i+1:Nat):Int):=fit_i64 (by omega) (by omega);cases hk:okV c (m-1)
     ·have zz:okL l (m-1)=false:=by rw[ho,hk];rfl
      clear ho;simp[hlen,h0,h1,h5,hi,hq,hr,hr',hf1,hcall,hk,zz]
     ·have zz:okL l (m-1)=okLD l (m-1) (i+1):=by rw[ho,hk];rfl
      clear ho;simp[hlen,h0,h1,h5,hi,hq,hr,hr',hf1,hcall,hk,hf];exact zz
    ·have zz:okL l (m-1)=true:=by rw[ho,okLD_end l _ i (by omega)]
     simp[hlen,h0,h1,h5,hi,hq,zz]
   ·rintro o fr h hn ⟨hlen,⟨rfl,hz⟩|⟨rfl,hz,h2⟩⟩
    ·simp only at hlen;simp[hlen,hz]
    ·simp only at h2;simp[h2,hz]
def okPD (l:List V)(i:Nat):Bool:=okP (l.drop i) (decide (i % 2=1))
theorem okPD_zero (l:List V):okP l false=okPD l 0:=rfl
theorem okPD_end (l:List V)(i:Nat)(h:l.length≤i):okPD l i=true:=by unfold okPD;rw[Zt h,okP]
theorem okPD_step {l:List V}{i:Nat}{c:V}(h:l[i]?=some c):okPD l i=((decide (c.k=if i % 2=1 then 6 else 5) && okV c 0) && okPD l (i+1)):=by
 obtain⟨k,e⟩:=Za.1 h;unfold okPD;rw[Zm k,e,okP];rcases Nat.mod_two_eq_zero_or_one i with q|q
 ·rw[show decide ((i+1) % 2=1)= !decide (i % 2=1)from by rw[q];simp;omega];simp[q]
 ·rw[show decide ((i+1) % 2=1)= !decide (i % 2=1)from by rw[q];simp;omega];simp[q]
def okPth (l:List V):Bool:=decide (l.length % 2=1) && decide ((l.length:Int)≤25) && okP l false
theorem r04_path (N:Nat)(b:Bool)(z:Bool)(l:List V)(h:Hp)(hv:∀x∈l,VC N x):callN cx (N+1) b 206 [evL z l] h=some (.sc (.bool (okPth l)),h):=by
 have hc:[evL z l].all calm=true:=by rw[Zn,calm_evL];rfl
 refine pure_calm (r:= .sc (.bool (okPth l))) ⟨Tryz.f206.ntmps,(Tryz.f206.body).getD .skip,[.tmp 2]⟩ (by kernel_rfl) (by kernel_rfl) rfl (by kernel_rfl) (by simp[Tryz.f206]) hc rfl ?_ b h;clear hc;unfold okPth;rcases lsV_cases z l with⟨rfl,e⟩|e
 ·simp[Tryz.f206,e]
 rw[e];have hq:=encL_length l;have hg:=encL_get l;generalize encL l=rows at hq hg;have hm:((l.length:Int).tmod 2)=((l.length % 2:Nat):Int):=rfl;by_cases h0:l.length % 2=0
 ·rw[h0]at hm;simp[Tryz.f206,hq,hm,h0]
 have h0':l.length % 2=1:=by omega
 rw[h0']at hm;by_cases h2:25< (l.length:Int)
 ·simp[Tryz.f206,hq,hm,h0',h2,show¬(l.length:Int)≤25 by omega]
 have h2':(l.length:Int)≤25:=by omega
 simp[Tryz.f206,hq,hm,h0',h2,h2'];refine loop_up (C:=cx) (G:=fun r=>∃h',finX _ (thenX _ _ (blockX _ r) _)=some (_,h'))
  (fun i s=>okP l false=okPD l i∧s.1.length=38∧gt s.1 0= .ls 5 rows z∧gt s.1 3= .sc (.int .i64 i))
  (fun o s=>s.1.length=38∧((o= .exit 0∧okP l false=true)∨(o= .ret∧okP l false=false∧gt s.1 2= .sc (.bool false)))) l.length (by simp;omega) (by simp[okPD_zero]) ?_ ?_
 ·rintro i fr h hle ⟨ho,hlen,h0,h3⟩;simp only at hlen h0 h3;by_cases hi:i<l.length
  ·obtain⟨c,hc⟩:∃c,l[i]?=some c:=⟨_,Zb hi⟩;have hr:rows[i]?=some (enc c):=by rw[hg,hc];rfl
   have hr':∀k,rows[i]'k=enc c:=fun k=>by obtain⟨_,e⟩:=Za.1 hr;exact e
   have hcv:=hv c (Zi hc);have hcall:=fun b h=>hcv b 0 h (by omega) (by omega)
   rw[okPD_step hc]at ho;have hf:fitI .i64 ((i:Int)+1)=((i+1:Nat):Int):=fit_i64 (by omega) (by omega);generalize okV c 0=K at ho hcall;cases c with
   |
    mk k n d s z' l'=>
    simp only[V.k]at ho;simp only[enc]at hr hr' hcall;generalize lsV z' (encL l')=L' at hr hr' hcall;have hm:((i:Int).tmod 2)=((i % 2:Nat):Int):=rfl;rcases Nat.mod_two_eq_zero_or_one i with q|q<;>rw[q]at hm ho
    all_goals
     simp only[show¬((0:Nat)=1)from by decide,if_false,if_true]at ho
    ·by_cases hk:k=5
     ·subst hk;cases K
      ·have zz:okP l false=false:=by rw[ho];simp
       clear ho;simp[hlen,h0,h3,hi,hq,hr,hr',hcall,hm,zz]
      ·have zz:okP l false=okPD l (i+1):=by rw[ho];simp
       clear ho;simp[hlen,h0,h3,hi,hq,hr,hr',hcall,hm,hf];exact zz
     ·have zz:okP l false=false:=by rw[ho];simp[hk]
      clear ho;simp[hlen,h0,h3,hi,hq,hr,hr',hm,hk,zz]
    ·by_cases hk:k=6
     ·subst hk;cases K
      ·have zz:okP l false=false:=by rw[ho];simp
       clear ho;simp[hlen,h0,h3,hi,hq,hr,hr',hcall,hm,zz]
      ·have zz:okP l false=okPD l (i+1):=by rw[ho];simp
       clear ho;simp[hlen,h0,h3,hi,hq,hr,hr',hcall,hm,hf];exact zz
     ·have zz:okP l false=false:=by rw[ho];simp[hk]
      clear ho;simp[hlen,h0,h3,hi,hq,hr,hr',hm,hk,zz]
  ·have zz:okP l false=true:=by rw[ho,okPD_end l i (by omega)]
   simp[hlen,h0,h3,hi,hq,zz]
 ·rintro o fr h hn ⟨hlen,⟨rfl,hz⟩|⟨rfl,hz,h2⟩⟩
  ·simp only at hlen;simp[hlen,hz]
  ·simp only at h2;simp[h2,hz]
set_option maxHeartbeats 8000000
theorem okV_bare (k n d:Int)(s:ByteArray)(z:Bool)(l:List V)(m:Int):okV (.mk k n d s z l) m=
 (
  if k=0 then bareV (.mk k n d s z l) false false false false
  else if k=1 then bareV (.mk k n d s z l) true false false false && (decide (n=0)||decide (n=1))
  else if k=2 then bareV (.mk k n d s z l) true false false false && inR n
  else if k=3 then bareV (.mk k n d s z l) true true false false && decide (2≤d) && fv n d
  else if k=4 then bareV (.mk k n d s z l) false false true false && (okS s && decide ((s.size:Int)≤100))
  else if k=5∨k=6 then bareV (.mk k n d s z l) true false false false && decide (1≤n) && decide (n≤1000000)
  else if k=7 then bareV (.mk k n d s z l) false false false true && okPth l
  else if k=8 then bareV (.mk k n d s z l) false false false true && okLst l m else false):=by
 have e1:decide ((s.size:Int)≤100)=decide (s.size≤100):=decide_eq_decide.2 (by omega);have e2:decide ((l.length:Int)≤25)=decide (l.length≤25):=decide_eq_decide.2 (by omega);have e3:decide ((l.length:Int)≤64)=decide (l.length≤64):=decide_eq_decide.2 (by omega);rw[okV];unfold bareV okPth okLst;simp only[V.n,V.d,V.s,V.l,e1,e2,e3];generalize okL l (m-1)=P1;generalize okP l false=P2;generalize okS s=P3;generalize eqS s ⟨#[]⟩=P4;generalize l.isEmpty=P9;generalize inR n=P10;generalize fv n d=P11;rw[Bool.eq_iff_iff];by_cases h0:k=0
 ·subst h0;clear e1 e2 e3;simp;try grind
 by_cases h1:k=1
 ·subst h1;clear e1 e2 e3;simp;try grind
 by_cases h2:k=2
 ·subst h2;clear e1 e2 e3;simp;try grind
 by_cases h3:k=3
 ·subst h3;clear e1 e2 e3;simp;try grind
 by_cases h4:k=4
 ·subst h4;clear e1 e2 e3;simp;try grind
 by_cases h5:k=5
 ·subst h5;clear e1 e2 e3;simp;try grind
 by_cases h6:k=6
 ·subst h6;clear e1 e2 e3;simp;try grind
 by_cases h7:k=7
 ·subst h7;clear e1 e2 e3;simp;try grind
 by_cases h8:k=8
 ·subst h8;clear e1 e2 e3;simp;try grind
 simp[h0,h1,h2,h3,h4,h5,h6,h7,h8]
theorem r04_valid (N:Nat)(v:V)(hs:v.s.size≤1000000000000000)(hv:∀x∈v.l,VC (N+3) x):VC (N+5) v:=by
 intro b m h hm0 hm8;have hc:[AV.ag (enc v),.sc (.int .i64 m)].all calm=true:=by
  have:=calm_evV v;simp only[evV]at this;rw[Zn,this];rfl
 refine pure_calm (r:= .sc (.bool (okV v m))) ⟨Tryz.f149.ntmps,(Tryz.f149.body).getD .skip,[.tmp 4]⟩ (by kernel_rfl) (by kernel_rfl) rfl (by kernel_rfl) (by simp[Tryz.f149]) hc rfl ?_ b h;clear hc;cases v with
 |
  mk k n d s z l=>
  simp only[V.s,V.l]at hs hv;have f0:=fun b h=>r04_bare0000 (N+3) b (.mk k n d s z l) h
  have f1:=fun b h=>r04_bare1000 (N+3) b (.mk k n d s z l) h
  have f2:=fun b h=>r04_bare1100 (N+3) b (.mk k n d s z l) h
  have f3:=fun b h=>r04_bare0010 (N+3) b (.mk k n d s z l) h
  have f4:=fun b h=>r04_bare0001 (N+3) b (.mk k n d s z l) h
  have g1:=fun b h=>r01_In (N+3) b n h
  have g2:=fun b h=>r03_Valid (N+2) b n d h
  have g3:=fun b h=>r04_str (N+3) b s h hs
  have g4:=fun b h=>r04_path (N+3) b z l h hv
  have g5:=fun b h=>r04_list (N+3) b z l m h hm0 hm8 hv
  have he:enc (.mk k n d s z l)=[.sc (.int .i64 k),.sc (.int .i64 n),.sc (.int .i64 d),.sc (.string s),evL z l]:=rfl;rw[okV_bare,he];simp only[evV_eq]at f0 f1 f2 f3 f4;simp only[frA]at g2;clear he hv;have hL:(∃r,evL z l= .ls 5 r z)∨evL z l= .sc (.slice none 0 0):=(lsV_cases z l).elim (fun e=> .inr e.2) (fun e=> .inl ⟨_,e⟩);generalize evL z l=L at hL f0 f1 f2 f3 f4 g4 g5;generalize bareV (.mk k n d s z l) false false false false=B0 at f0;generalize bareV (.mk k n d s z l) true false false false=B1 at f1;generalize bareV (.mk k n d s z l) true true false false=B2 at f2;generalize bareV (.mk k n d s z l) false false true false=B3 at f3;generalize bareV (.mk k n d s z l) false false false true=B4 at f4;generalize okPth l=R4 at g4;generalize okLst l m=R5 at g5;generalize(okS s && decide ((s.size:Int)≤100))=R3 at g3;generalize fv n d=R2 at g2;generalize inR n=R1 at g1;by_cases h0:k=0
  ·subst h0;simp[Tryz.f149,f0]
  by_cases h1:k=1
  ·subst h1;cases B1
   ·simp[Tryz.f149,f1]
   ·by_cases q:n=0
    ·subst q;simp[Tryz.f149,f1]
    ·simp[Tryz.f149,f1,q]
  by_cases h2:k=2
  ·subst h2;cases B1<;>simp[Tryz.f149,f1,g1]
  by_cases h3:k=3
  ·subst h3;cases B2
   ·simp[Tryz.f149,f2]
   ·by_cases q:2≤d
    ·simp[splice,Tryz.f149,f2,q,g2]
    ·simp[Tryz.f149,f2,q]
  by_cases h4:k=4
  ·subst h4;cases B3<;>simp[Tryz.f149,f3,g3]
  by_cases h5:k=5
  ·subst h5;cases B1
   ·simp[Tryz.f149,f1]
   ·by_cases q:1≤n<;>simp[Tryz.f149,f1,q]
  by_cases h6:k=6
  ·subst h6;cases B1
   ·simp[Tryz.f149,f1]
   ·by_cases q:1≤n<;>simp[Tryz.f149,f1,q]
  by_cases h7:k=7
  ·subst h7;cases B4<;>rcases hL with⟨r,rfl⟩|rfl<;>simp[Tryz.f149,f4,g4]
  by_cases h8:k=8
  ·subst h8;cases B4<;>rcases hL with⟨r,rfl⟩|rfl<;>simp[Tryz.f149,f4,g5]
  simp[Tryz.f149,h0,h1,h2,h3,h4,h5,h6,h7,h8]
mutual
def bdV :V→Prop
 | .mk _ _ _ s _ l=>s.size≤1000000000000000∧l.length≤1000000000000000∧bdL l
def bdL :List V→Prop
 | []=>True
 |x::xs=>bdV x∧bdL xs
end
theorem bdL_mem {v:V}:∀{l:List V},bdL l→v∈l→bdV v
 |
  x::xs,hb,h=>by
  rw[bdL]at hb;rcases List.mem_cons.1 h with rfl|h
  ·exact hb.1
  ·exact bdL_mem hb.2 h
theorem VC_all :∀(D:Nat) (v:V),dep v≤D→bdV v→∀N,VC (N+2*D+3) v:=by
 intro D
 induction D with
 |zero=>intro v h;cases v;simp[dep]at h
 |
  succ D ih=>
  intro v h hb N;have hl:∀x∈v.l,dep x≤D∧bdV x:=by
   cases v with
   |
    mk k n d s z l=>
    intro x hx;simp only[dep]at h;rw[bdV]at hb;have:=dep_mem (l:=l) hx;exact⟨by omega,bdL_mem hb.2.2 hx⟩
  have hs:v.s.size≤1000000000000000:=by cases v;rw[bdV]at hb;exact hb.1
  have:=r04_valid (N+2*D) v hs (fun x hx=>ih x (hl x hx).1 (hl x hx).2 N);rw[show N+2*(D+1)+3=N+2*D+5 by omega];exact this
theorem r04_Valid (N D:Nat)(v:V)(hd:dep v≤D)(hb:bdV v)(b:Bool)(h:Hp):callN cx (N+2*D+4) b 105 [evV v] h=some (.sc (.bool (okT v)),h):=by
 have hv:=fun b h=>VC_all D v hd hb N b 8 h (by omega) (by omega)
 have hc:=calm_evV1 v;refine pure_calm (n:=N+2*D+3) (r:= .sc (.bool (okT v))) ⟨Tryz.f105.ntmps,(Tryz.f105.body).getD .skip,[.tmp 2]⟩ (by kernel_rfl) (by kernel_rfl) rfl (by kernel_rfl) (by simp[Tryz.f105]) hc rfl ?_ b h;clear hc;unfold okT;generalize okV v 8=K at hv;generalize N+2*D+3=M at hv;cases v with
 |
  mk k n d s z l=>
  rw[evV_eq];have he:enc (.mk k n d s z l)=[.sc (.int .i64 k),.sc (.int .i64 n),.sc (.int .i64 d),.sc (.string s),evL z l]:=rfl;rw[he]at hv;generalize evL z l=L at hv;simp[Tryz.f105,hv]
end
section
attribute [local simp] aop aopW coldF extF putA ofConst flat scalarOp fastOp binFast intOp strOp guardX Ae.part rowOf szOk natOf lenA cls fillA splice newsOf isNilC cellX
def numN (v:V):Int:=if okT v then(if v.k=2 then v.n else if v.k=3 then v.n else 0)else 0
def numD (v:V):Int:=if okT v then(if v.k=2 then 1 else if v.k=3 then v.d else 0)else 0
def numB (v:V):Bool:=okT v && (decide (v.k=2)||decide (v.k=3))
theorem r04_Number (N D:Nat)(v:V)(hd:dep v≤D)(hb:bdV v)(b:Bool)(h:Hp):callN cx (N+2*D+5) b 109 [evV v] h=some (.tp [frA (numN v) (numD v),.sc (.bool (numB v))],h):=by
 have hv:=fun b h=>r04_Valid N D v hd hb b h
 have hc:=calm_evV1 v;have hr:snap [] 8 (.tp [frA (numN v) (numD v),.sc (.bool (numB v))])=some (.tp [frA (numN v) (numD v),.sc (.bool (numB v))]):=rfl;clear hr
 suffices H:(∃r,r=AV.tp [frA (numN v) (numD v),.sc (.bool (numB v))]∧∀b h,callN cx (N+2*D+5) b 109 [evV v] h=some (r,h)) by
  obtain⟨r,rfl,hr⟩:=H;exact hr b h
 refine pure_ex (f:=109) (n:=N+2*D+4) (args:=[evV v]) (fun r=>r= .tp [frA (numN v) (numD v),.sc (.bool (numB v))]) ⟨Tryz.f109.ntmps,(Tryz.f109.body).getD .skip,[.cell 2 2 true,.tmp 3]⟩ (by kernel_rfl) (by kernel_rfl) rfl (by kernel_rfl) (by simp[Tryz.f109]) hc ?_;clear hc;generalize N+2*D+4=M at hv;cases v with
 |
  mk k n d s z l=>
  unfold numN numD numB;generalize okT (.mk k n d s z l)=K at hv;simp only[V.k,V.n,V.d];rw[evV_eq]at hv⊢;generalize evL z l=L at hv;cases K
  ·simp[Tryz.f109,hv,frA];exact⟨_,_,⟨rfl,rfl⟩,rfl⟩
  ·by_cases h2:k=2
   ·subst h2;simp[Tryz.f109,hv,frA];exact⟨_,_,⟨rfl,rfl⟩,rfl⟩
   ·by_cases h3:k=3
    ·subst h3;simp[Tryz.f109,hv,frA];exact⟨_,_,⟨rfl,rfl⟩,rfl⟩
    ·simp[Tryz.f109,hv,frA,h2,h3];exact⟨_,_,⟨rfl,rfl⟩,rfl⟩
end
section
attribute [local simp] aop aopW coldF extF putA ofConst flat scalarOp fastOp binFast intOp strOp guardX Ae.part rowOf szOk natOf lenA cls fillA newsOf isNilC cellX
set_option maxHeartbeats 4000000
def fldV (v w:V):Int:=orI [cmpI v.k w.k,cmpI v.n w.n,cmpI v.d w.d,cmpS v.s w.s,ordL v.l w.l]
theorem r04_fields (N:Nat)(v w:V)(hl:∀b h,callN cx (N+1) b 36 [evL v.isNil v.l,evL w.isNil w.l] h=some (.sc (.int .i64 (ordL v.l w.l)),h))(b:Bool)(h:Hp):
 callN cx (N+2) b 107 [evV v,evV w] h=some (.sc (.int .i64 (fldV v w)),h):=by
 have hc:=calm_evV2 v w;refine pure_calm (r:= .sc (.int .i64 (fldV v w))) ⟨Tryz.f107.ntmps,(Tryz.f107.body).getD .skip,[.tmp 4]⟩ (by kernel_rfl) (by kernel_rfl) rfl (by kernel_rfl) (by simp[Tryz.f107]) hc rfl ?_ b h;clear hc;cases v with
 |
  mk k n d s z l=>
  cases w with
  |
   mk k' n' d' s' z' l'=>
   have hi:=fun x y b h=>r04_ints N b x y h
   have hs:=fun b h=>r04_strs N b s s' h
   simp only[V.l,V.isNil]at hl;simp only[fldV,V.k,V.n,V.d,V.s,V.l,evV_eq];have hL:(∃r,evL z l= .ls 5 r z)∨evL z l= .sc (.slice none 0 0):=(lsV_cases z l).elim (fun e=> .inr e.2) (fun e=> .inl ⟨_,e⟩);have hL':(∃r,evL z' l'= .ls 5 r z')∨evL z' l'= .sc (.slice none 0 0):=(lsV_cases z' l').elim (fun e=> .inr e.2) (fun e=> .inl ⟨_,e⟩);generalize evL z l=L at hl hL;generalize evL z' l'=L' at hl hL';have i1:=fun b h=>hi k k' b h
   have i2:=fun b h=>hi n n' b h
   have i3:=fun b h=>hi d d' b h
   generalize cmpI k k'=c1 at i1;generalize cmpI n n'=c2 at i2;generalize cmpI d d'=c3 at i3;generalize cmpS s s'=c4 at hs;generalize ordL l l'=c5 at hl;clear hi;by_cases h1:c1=0
   ·subst h1;by_cases h2:c2=0
    ·subst h2;by_cases h3:c3=0
     ·subst h3;by_cases h4:c4=0
      ·subst h4;rcases hL with⟨r,rfl⟩|rfl<;>rcases hL' with⟨r',rfl⟩|rfl<;>simp[Tryz.f107,i1,i2,i3,hs,hl,orI]
      ·simp[Tryz.f107,i1,i2,i3,hs,h4,orI]
     ·simp[Tryz.f107,i1,i2,i3,h3,orI]
    ·simp[Tryz.f107,i1,i2,h2,orI]
   ·simp[Tryz.f107,i1,h1,orI]
end
end Go.Proofs.YtiefabpageilbaaGreatDoor
