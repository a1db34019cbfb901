/- Contracts: path of the reference's values. -/
import Derived.Test.YtmocfjnklfpnbaaGreatDoorP16
set_option linter.all false
set_option maxRecDepth 100000
namespace Go.Proofs.YtmocfjnklfpnbaaGreatDoor
open Go Go.Ae
section
attribute [local simp] aop aopW coldF extF putA ofConst flat scalarOp fastOp binFast intOp strOp guardX Ae.part rowOf szOk natOf lenA cls fillA newsOf isNilC cellX
set_option maxHeartbeats 4000000
def okPD (l:List V)(i:Nat):Bool:=okP (l.drop i) (decide (i % 2=1))
theorem okPD_zero (l:List V):okP l false=okPD l 0:=rfl
theorem okPD_end (l:List V)(i:Nat)(h:l.length≤i):okPD l i=true:=by unfold okPD;rw[Zt h,okP]
theorem okPD_step {l:List V}{i:Nat}{c:V}(h:l[i]?=some c):okPD l i=((decide (c.k=if i % 2=1 then 6 else 5) && okV c 0) && okPD l (i+1)):=by
 obtain⟨k,e⟩:=Za.1 h;unfold okPD;rw[Zm k,e,okP];rcases Nat.mod_two_eq_zero_or_one i with q|q
 ·rw[show decide ((i+1) % 2=1)= !decide (i % 2=1)from by rw[q];simp;omega];simp[q]
 ·rw[show decide ((i+1) % 2=1)= !decide (i % 2=1)from by rw[q];simp;omega];simp[q]
def okPth (l:List V):Bool:=decide (l.length % 2=1) && decide ((l.length:Int)≤25) && okP l false
theorem r04_path (N:Nat)(b:Bool)(z:Bool)(l:List V)(h:Hp)(hv:∀x∈l,VC N x):callN cx (N+1) b 240 [evL z l] h=some (.sc (.bool (okPth l)),h):=by
 have hc:[evL z l].all calm=true:=by rw[Zn,calm_evL];rfl
 refine pure_calm (r:= .sc (.bool (okPth l))) ⟨Tryz.f240.ntmps,(Tryz.f240.body).getD .skip,[.tmp 2]⟩ (by kernel_rfl) (by kernel_rfl) rfl (by kernel_rfl) (by simp[Tryz.f240]) hc rfl ?_ b h;clear hc;unfold okPth;rcases lsV_cases z l with⟨rfl,e⟩|e
 ·simp[Tryz.f240,e]
 rw[e];have hq:=encL_length l;have hg:=encL_get l;generalize encL l=rows at hq hg;have hm:((l.length:Int).tmod 2)=((l.length % 2:Nat):Int):=rfl;by_cases h0:l.length % 2=0
 ·rw[h0]at hm;simp[Tryz.f240,hq,hm,h0]
 have h0':l.length % 2=1:=by omega
 rw[h0']at hm;by_cases h2:25< (l.length:Int)
 ·simp[Tryz.f240,hq,hm,h0',h2,show¬(l.length:Int)≤25 by omega]
 have h2':(l.length:Int)≤25:=by omega
 simp[Tryz.f240,hq,hm,h0',h2,h2'];refine loop_up (C:=cx) (G:=fun r=>∃h',finX _ (thenX _ _ (blockX _ r) _)=some (_,h'))
  (fun i s=>okP l false=okPD l i∧s.1.length=38∧gt s.1 0= .ls 5 rows z∧gt s.1 3= .sc (.int .i64 i))
  (fun o s=>s.1.length=38∧((o= .exit 0∧okP l false=true)∨(o= .ret∧okP l false=false∧gt s.1 2= .sc (.bool false)))) l.length (by simp;omega) (by simp[okPD_zero]) ?_ ?_
 ·rintro i fr h hle ⟨ho,hlen,h0,h3⟩;simp only at hlen h0 h3;by_cases hi:i<l.length
  ·obtain⟨c,hc⟩:∃c,l[i]?=some c:=⟨_,Zb hi⟩;have hr:rows[i]?=some (enc c):=by rw[hg,hc];rfl
   have hr':∀k,rows[i]'k=enc c:=fun k=>by obtain⟨_,e⟩:=Za.1 hr;exact e
   have hcv:=hv c (Zi hc);have hcall:=fun b h=>hcv b 0 h (by omega) (by omega)
   rw[okPD_step hc]at ho;have hf:fitI .i64 ((i:Int)+1)=((i+1:Nat):Int):=fit_i64 (by omega) (by omega);generalize okV c 0=K at ho hcall;cases c with
   |
    mk k n d s z' l'=>
    simp only[V.k]at ho;simp only[enc]at hr hr' hcall;generalize lsV z' (encL l')=L' at hr hr' hcall;have hm:((i:Int).tmod 2)=((i % 2:Nat):Int):=rfl;rcases Nat.mod_two_eq_zero_or_one i with q|q<;>rw[q]at hm ho
    all_goals
     simp only[show¬((0:Nat)=1)from by decide,if_false,if_true]at ho
    ·by_cases hk:k=5
     ·subst hk;cases K
      ·have zz:okP l false=false:=by rw[ho];simp
       clear ho;simp[hlen,h0,h3,hi,hq,hr,hr',hcall,hm,zz]
      ·have zz:okP l false=okPD l (i+1):=by rw[ho];simp
       clear ho;simp[hlen,h0,h3,hi,hq,hr,hr',hcall,hm,hf];exact zz
     ·have zz:okP l false=false:=by rw[ho];simp[hk]
      clear ho;simp[hlen,h0,h3,hi,hq,hr,hr',hm,hk,zz]
    ·by_cases hk:k=6
     ·subst hk;cases K
      ·have zz:okP l false=false:=by rw[ho];simp
       clear ho;simp[hlen,h0,h3,hi,hq,hr,hr',hcall,hm,zz]
      ·have zz:okP l false=okPD l (i+1):=by rw[ho];simp
       clear ho;simp[hlen,h0,h3,hi,hq,hr,hr',hcall,hm,hf];exact zz
     ·have zz:okP l false=false:=by rw[ho];simp[hk]
      clear ho;simp[hlen,h0,h3,hi,hq,hr,hr',hm,hk,zz]
  ·have zz:okP l false=true:=by rw[ho,okPD_end l i (by omega)]
   simp[hlen,h0,h3,hi,hq,zz]
 ·rintro o fr h hn ⟨hlen,⟨rfl,hz⟩|⟨rfl,hz,h2⟩⟩
  ·simp only at hlen;simp[hlen,hz]
  ·simp only at h2;simp[h2,hz]
set_option maxHeartbeats 8000000
theorem okV_bare (k n d:Int)(s:ByteArray)(z:Bool)(l:List V)(m:Int):okV (.mk k n d s z l) m=
 (
  if k=0 then bareV (.mk k n d s z l) false false false false
  else if k=1 then bareV (.mk k n d s z l) true false false false && (decide (n=0)||decide (n=1))
  else if k=2 then bareV (.mk k n d s z l) true false false false && inR n
  else if k=3 then bareV (.mk k n d s z l) true true false false && decide (2≤d) && fv n d
  else if k=4 then bareV (.mk k n d s z l) false false true false && (okS s && decide ((s.size:Int)≤100))
  else if k=5∨k=6 then bareV (.mk k n d s z l) true false false false && decide (1≤n) && decide (n≤1000000)
  else if k=7 then bareV (.mk k n d s z l) false false false true && okPth l
  else if k=8 then bareV (.mk k n d s z l) false false false true && okLst l m else false):=by
 have e1:decide ((s.size:Int)≤100)=decide (s.size≤100):=decide_eq_decide.2 (by omega);have e2:decide ((l.length:Int)≤25)=decide (l.length≤25):=decide_eq_decide.2 (by omega);have e3:decide ((l.length:Int)≤64)=decide (l.length≤64):=decide_eq_decide.2 (by omega);rw[okV];unfold bareV okPth okLst;simp only[V.n,V.d,V.s,V.l,e1,e2,e3];generalize okL l (m-1)=P1;generalize okP l false=P2;generalize okS s=P3;generalize eqS s ⟨#[]⟩=P4;generalize l.isEmpty=P9;generalize inR n=P10;generalize fv n d=P11;rw[Bool.eq_iff_iff];by_cases h0:k=0
 ·subst h0;clear e1 e2 e3;simp;try grind
 by_cases h1:k=1
 ·subst h1;clear e1 e2 e3;simp;try grind
 by_cases h2:k=2
 ·subst h2;clear e1 e2 e3;simp;try grind
 by_cases h3:k=3
 ·subst h3;clear e1 e2 e3;simp;try grind
 by_cases h4:k=4
 ·subst h4;clear e1 e2 e3;simp;try grind
 by_cases h5:k=5
 ·subst h5;clear e1 e2 e3;simp;try grind
 by_cases h6:k=6
 ·subst h6;clear e1 e2 e3;simp;try grind
 by_cases h7:k=7
 ·subst h7;clear e1 e2 e3;simp;try grind
 by_cases h8:k=8
 ·subst h8;clear e1 e2 e3;simp;try grind
 simp[h0,h1,h2,h3,h4,h5,h6,h7,h8]
theorem r04_valid (N:Nat)(v:V)(hs:v.s.size≤1000000000000000)(hv:∀x∈v.l,VC (N+3) x):VC (N+5) v:=by
 intro b m h hm0 hm8;have hc:[AV.ag (enc v),.sc (.int .i64 m)].all calm=true:=by
  have:=calm_evV v;simp only[evV]at this;rw[Zn,this];rfl
 refine pure_calm (r:= .sc (.bool (okV v m))) ⟨Tryz.f165.ntmps,(Tryz.f165.body).getD .skip,[.tmp 4]⟩ (by kernel_rfl) (by kernel_rfl) rfl (by kernel_rfl) (by simp[Tryz.f165]) hc rfl ?_ b h;clear hc;cases v with
 |
  mk k n d s z l=>
  simp only[V.s,V.l]at hs hv;have f0:=fun b h=>r04_bare0000 (N+3) b (.mk k n d s z l) h
  have f1:=fun b h=>r04_bare1000 (N+3) b (.mk k n d s z l) h
  have f2:=fun b h=>r04_bare1100 (N+3) b (.mk k n d s z l) h
  have f3:=fun b h=>r04_bare0010 (N+3) b (.mk k n d s z l) h
  have f4:=fun b h=>r04_bare0001 (N+3) b (.mk k n d s z l) h
  have g1:=fun b h=>r01_In (N+3) b n h
  have g2:=fun b h=>r03_Valid (N+2) b n d h
  have g3:=fun b h=>r04_str (N+3) b s h hs
  have g4:=fun b h=>r04_path (N+3) b z l h hv
  have g5:=fun b h=>r04_list (N+3) b z l m h hm0 hm8 hv
  have he:enc (.mk k n d s z l)=[.sc (.int .i64 k),.sc (.int .i64 n),.sc (.int .i64 d),.sc (.string s),evL z l]:=rfl;rw[okV_bare,he];simp only[evV_eq]at f0 f1 f2 f3 f4;simp only[frA]at g2;clear he hv;have hL:(∃r,evL z l= .ls 5 r z)∨evL z l= .sc (.slice none 0 0):=(lsV_cases z l).elim (fun e=> .inr e.2) (fun e=> .inl ⟨_,e⟩);generalize evL z l=L at hL f0 f1 f2 f3 f4 g4 g5;generalize bareV (.mk k n d s z l) false false false false=B0 at f0;generalize bareV (.mk k n d s z l) true false false false=B1 at f1;generalize bareV (.mk k n d s z l) true true false false=B2 at f2;generalize bareV (.mk k n d s z l) false false true false=B3 at f3;generalize bareV (.mk k n d s z l) false false false true=B4 at f4;generalize okPth l=R4 at g4;generalize okLst l m=R5 at g5;generalize(okS s && decide ((s.size:Int)≤100))=R3 at g3;generalize fv n d=R2 at g2;generalize inR n=R1 at g1;by_cases h0:k=0
  ·subst h0;simp[Tryz.f165,f0]
  by_cases h1:k=1
  ·subst h1;cases B1
   ·simp[Tryz.f165,f1]
   ·by_cases q:n=0
    ·subst q;simp[Tryz.f165,f1]
    ·simp[Tryz.f165,f1,q]
  by_cases h2:k=2
  ·subst h2;cases B1<;>simp[Tryz.f165,f1,g1]
  by_cases h3:k=3
  ·subst h3;cases B2
   ·simp[Tryz.f165,f2]
   ·by_cases q:2≤d
    ·simp[splice,Tryz.f165,f2,q,g2]
    ·simp[Tryz.f165,f2,q]
  by_cases h4:k=4
  ·subst h4;cases B3<;>simp[Tryz.f165,f3,g3]
  by_cases h5:k=5
  ·subst h5;cases B1
   ·simp[Tryz.f165,f1]
   ·by_cases q:1≤n<;>simp[Tryz.f165,f1,q]
  by_cases h6:k=6
  ·subst h6;cases B1
   ·simp[Tryz.f165,f1]
   ·by_cases q:1≤n<;>simp[Tryz.f165,f1,q]
  by_cases h7:k=7
  ·subst h7;cases B4<;>rcases hL with⟨r,rfl⟩|rfl<;>simp[Tryz.f165,f4,g4]
  by_cases h8:k=8
  ·subst h8;cases B4<;>rcases hL with⟨r,rfl⟩|rfl<;>simp[Tryz.f165,f4,g5]
  simp[Tryz.f165,h0,h1,h2,h3,h4,h5,h6,h7,h8]
mutual
def bdV :V→Prop
 | .mk _ _ _ s _ l=>s.size≤1000000000000000∧l.length≤1000000000000000∧bdL l
def bdL :List V→Prop
 | []=>True
 |x::xs=>bdV x∧bdL xs
end
theorem bdL_mem {v:V}:∀{l:List V},bdL l→v∈l→bdV v
 |
  x::xs,hb,h=>by
  rw[bdL]at hb;rcases List.mem_cons.1 h with rfl|h
  ·exact hb.1
  ·exact bdL_mem hb.2 h
theorem VC_all :∀(D:Nat) (v:V),dep v≤D→bdV v→∀N,VC (N+2*D+3) v:=by
 intro D
 induction D with
 |zero=>intro v h;cases v;simp[dep]at h
 |
  succ D ih=>
  intro v h hb N;have hl:∀x∈v.l,dep x≤D∧bdV x:=by
   cases v with
   |
    mk k n d s z l=>
    intro x hx;simp only[dep]at h;rw[bdV]at hb;have:=dep_mem (l:=l) hx;exact⟨by omega,bdL_mem hb.2.2 hx⟩
  have hs:v.s.size≤1000000000000000:=by cases v;rw[bdV]at hb;exact hb.1
  have:=r04_valid (N+2*D) v hs (fun x hx=>ih x (hl x hx).1 (hl x hx).2 N);rw[show N+2*(D+1)+3=N+2*D+5 by omega];exact this
theorem r04_Valid (N D:Nat)(v:V)(hd:dep v≤D)(hb:bdV v)(b:Bool)(h:Hp):callN cx (N+2*D+4) b 108 [evV v] h=some (.sc (.bool (okT v)),h):=by
 have hv:=fun b h=>VC_all D v hd hb N b 8 h (by omega) (by omega)
 have hc:=calm_evV1 v;refine pure_calm (n:=N+2*D+3) (r:= .sc (.bool (okT v))) ⟨Tryz.f108.ntmps,(Tryz.f108.body).getD .skip,[.tmp 2]⟩ (by kernel_rfl) (by kernel_rfl) rfl (by kernel_rfl) (by simp[Tryz.f108]) hc rfl ?_ b h;clear hc;unfold okT;generalize okV v 8=K at hv;generalize N+2*D+3=M at hv;cases v with
 |
  mk k n d s z l=>
  rw[evV_eq];have he:enc (.mk k n d s z l)=[.sc (.int .i64 k),.sc (.int .i64 n),.sc (.int .i64 d),.sc (.string s),evL z l]:=rfl;rw[he]at hv;generalize evL z l=L at hv;simp[Tryz.f108,hv]
end
section
attribute [local simp] aop aopW coldF extF putA ofConst flat scalarOp fastOp binFast intOp strOp guardX Ae.part rowOf szOk natOf lenA cls fillA splice newsOf isNilC cellX
def numN (v:V):Int:=if okT v then(if v.k=2 then v.n else if v.k=3 then v.n else 0)else 0
def numD (v:V):Int:=if okT v then(if v.k=2 then 1 else if v.k=3 then v.d else 0)else 0
def numB (v:V):Bool:=okT v && (decide (v.k=2)||decide (v.k=3))
theorem r04_Number (N D:Nat)(v:V)(hd:dep v≤D)(hb:bdV v)(b:Bool)(h:Hp):callN cx (N+2*D+5) b 113 [evV v] h=some (.tp [frA (numN v) (numD v),.sc (.bool (numB v))],h):=by
 have hv:=fun b h=>r04_Valid N D v hd hb b h
 have hc:=calm_evV1 v;have hr:snap [] 8 (.tp [frA (numN v) (numD v),.sc (.bool (numB v))])=some (.tp [frA (numN v) (numD v),.sc (.bool (numB v))]):=rfl;clear hr
 suffices H:(∃r,r=AV.tp [frA (numN v) (numD v),.sc (.bool (numB v))]∧∀b h,callN cx (N+2*D+5) b 113 [evV v] h=some (r,h)) by
  obtain⟨r,rfl,hr⟩:=H;exact hr b h
 refine pure_ex (f:=113) (n:=N+2*D+4) (args:=[evV v]) (fun r=>r= .tp [frA (numN v) (numD v),.sc (.bool (numB v))]) ⟨Tryz.f113.ntmps,(Tryz.f113.body).getD .skip,[.cell 2 2 true,.tmp 3]⟩ (by kernel_rfl) (by kernel_rfl) rfl (by kernel_rfl) (by simp[Tryz.f113]) hc ?_;clear hc;generalize N+2*D+4=M at hv;cases v with
 |
  mk k n d s z l=>
  unfold numN numD numB;generalize okT (.mk k n d s z l)=K at hv;simp only[V.k,V.n,V.d];rw[evV_eq]at hv⊢;generalize evL z l=L at hv;cases K
  ·simp[Tryz.f113,hv,frA];exact⟨_,_,⟨rfl,rfl⟩,rfl⟩
  ·by_cases h2:k=2
   ·subst h2;simp[Tryz.f113,hv,frA];exact⟨_,_,⟨rfl,rfl⟩,rfl⟩
   ·by_cases h3:k=3
    ·subst h3;simp[Tryz.f113,hv,frA];exact⟨_,_,⟨rfl,rfl⟩,rfl⟩
    ·simp[Tryz.f113,hv,frA,h2,h3];exact⟨_,_,⟨rfl,rfl⟩,rfl⟩
end
section
attribute [local simp] aop aopW coldF extF putA ofConst flat scalarOp fastOp binFast intOp strOp guardX Ae.part rowOf szOk natOf lenA cls fillA newsOf isNilC cellX
set_option maxHeartbeats 4000000
def fldV (v w:V):Int:=orI [cmpI v.k w.k,cmpI v.n w.n,cmpI v.d w.d,cmpS v.s w.s,ordL v.l w.l]
theorem r04_fields (N:Nat)(v w:V)(hl:∀b h,callN cx (N+1) b 167 [evL v.isNil v.l,evL w.isNil w.l] h=some (.sc (.int .i64 (ordL v.l w.l)),h))(b:Bool)(h:Hp):
 callN cx (N+2) b 110 [evV v,evV w] h=some (.sc (.int .i64 (fldV v w)),h):=by
 have hc:=calm_evV2 v w;refine pure_calm (r:= .sc (.int .i64 (fldV v w))) ⟨Tryz.f110.ntmps,(Tryz.f110.body).getD .skip,[.tmp 4]⟩ (by kernel_rfl) (by kernel_rfl) rfl (by kernel_rfl) (by simp[Tryz.f110]) hc rfl ?_ b h;clear hc;cases v with
 |
  mk k n d s z l=>
  cases w with
  |
   mk k' n' d' s' z' l'=>
   have hi:=fun x y b h=>r04_ints N b x y h
   have hs:=fun b h=>r04_strs N b s s' h
   simp only[V.l,V.isNil]at hl;simp only[fldV,V.k,V.n,V.d,V.s,V.l,evV_eq];have hL:(∃r,evL z l= .ls 5 r z)∨evL z l= .sc (.slice none 0 0):=(lsV_cases z l).elim (fun e=> .inr e.2) (fun e=> .inl ⟨_,e⟩);have hL':(∃r,evL z' l'= .ls 5 r z')∨evL z' l'= .sc (.slice none 0 0):=(lsV_cases z' l').elim (fun e=> .inr e.2) (fun e=> .inl ⟨_,e⟩);generalize evL z l=L at hl hL;generalize evL z' l'=L' at hl hL';have i1:=fun b h=>hi k k' b h
   have i2:=fun b h=>hi n n' b h
   have i3:=fun b h=>hi d d' b h
   generalize cmpI k k'=c1 at i1;generalize cmpI n n'=c2 at i2;generalize cmpI d d'=c3 at i3;generalize cmpS s s'=c4 at hs;generalize ordL l l'=c5 at hl;clear hi;by_cases h1:c1=0
   ·subst h1;by_cases h2:c2=0
    ·subst h2;by_cases h3:c3=0
     ·subst h3;by_cases h4:c4=0
      ·subst h4;rcases hL with⟨r,rfl⟩|rfl<;>rcases hL' with⟨r',rfl⟩|rfl<;>simp[Tryz.f110,i1,i2,i3,hs,hl,orI]
      ·simp[Tryz.f110,i1,i2,i3,hs,h4,orI]
     ·simp[Tryz.f110,i1,i2,i3,h3,orI]
    ·simp[Tryz.f110,i1,i2,h2,orI]
   ·simp[Tryz.f110,i1,h1,orI]
def OC (N:Nat)(v w:V):Prop:=∀b h,callN cx N b 57 [.ag (enc v),.ag (enc w)] h=some (.sc (.int .i64 (ordV v w)),h)
def ordLD (l m:List V)(i:Nat):Int:=ordL (l.drop i) (m.drop i)
theorem ordLD_zero (l m:List V):ordL l m=ordLD l m 0:=rfl
theorem ordLD_end (l m:List V)(i:Nat)(h1:i≤l.length)(h2:i≤m.length)(h:i=l.length∨i=m.length):ordLD l m i=cmpI l.length m.length:=by
 unfold ordLD;rcases Nat.lt_or_ge i l.length with q|q
 ·have e':m.drop i=[]:=Zt (by omega);rw[Zm q,e'];show(1:Int)=cmpI l.length m.length;unfold cmpI;rw[if_neg (by omega),if_pos (by omega)]
 ·have e:l.drop i=[]:=Zt q;rcases Nat.lt_or_ge i m.length with p|p
  ·rw[e,Zm p];show(-1:Int)=cmpI l.length m.length;unfold cmpI;rw[if_pos (by omega)]
  ·rw[e,Zt p];show(0:Int)=cmpI l.length m.length;unfold cmpI;rw[if_neg (by omega),if_neg (by omega)]
theorem ordLD_step {l m:List V}{i:Nat}{x y:V}(h:l[i]?=some x)(h':m[i]?=some y):ordLD l m i=if ordV x y=0 then ordLD l m (i+1)else ordV x y:=by
 obtain⟨k,e⟩:=Za.1 h;obtain⟨k',e'⟩:=Za.1 h';unfold ordLD;rw[Zm k,e,Zm k',e',ordL]
theorem evL_cases (z:Bool)(l:List V):(evL z l= .ls 5 (encL l) z)∨(evL z l= .sc (.slice none 0 0)∧l.length=0):=(lsV_cases z l).elim (fun e=> .inr ⟨e.2,by rw[e.1];rfl⟩) .inl
theorem r04_lists (N:Nat)(z z':Bool)(l m:List V)(hl:l.length≤1000000000000000)(_hm:m.length≤1000000000000000)(ho:∀x∈l,∀y∈m,OC (N+1) x y)(b:Bool)(h:Hp):
 callN cx (N+2) b 167 [evL z l,evL z' m] h=some (.sc (.int .i64 (ordL l m)),h):=by
 have hc:[evL z l,evL z' m].all calm=true:=by rw[Zn,Zn,calm_evL,calm_evL];rfl
 refine pure_calm (r:= .sc (.int .i64 (ordL l m))) ⟨Tryz.f167.ntmps,(Tryz.f167.body).getD .skip,[.tmp 4]⟩ (by kernel_rfl) (by kernel_rfl) rfl (by kernel_rfl) (by simp[Tryz.f167]) hc rfl ?_ b h;clear hc;have hL:=evL_cases z l;have hL':=evL_cases z' m;generalize evL z l=L at hL;generalize evL z' m=L' at hL';simp[Tryz.f167];refine loop_up (C:=cx) (G:=fun r=>∃h',finX _ (thenX _ _ (blockX _ r) _)=some (_,h'))
  (fun i s=>i≤m.length∧ordL l m=ordLD l m i∧s.1.length=36∧gt s.1 0=L∧gt s.1 1=L'∧gt s.1 5= .sc (.int .i64 i))
  (fun o s=>s.1.length=36∧((o= .exit 0∧ordL l m=cmpI l.length m.length∧gt s.1 0=L∧gt s.1 1=L')∨(o= .ret∧gt s.1 4= .sc (.int .i64 (ordL l m))))) l.length (by simp;omega) (by simp[ordLD_zero]) ?_ ?_
 ·rintro i fr h hle ⟨hle',hor,hlen,h0,h1,h5⟩;simp only at hlen h0 h1 h5;have hq:=encL_length l;have hg:=encL_get l;have hq':=encL_length m;have hg':=encL_get m;generalize encL l=rows at hq hg hL;generalize encL m=rows' at hq' hg' hL';by_cases hi:i<l.length
  ·rcases hL with hL|⟨hL,hz⟩
   ·subst hL;by_cases hj:i<m.length
    ·rcases hL' with hL'|⟨hL',hz⟩
     ·subst hL';obtain⟨x,hx⟩:∃c,l[i]?=some c:=⟨_,Zb hi⟩;obtain⟨y,hy⟩:∃c,m[i]?=some c:=⟨_,Zb hj⟩;have hr:rows[i]?=some (enc x):=by rw[hg,hx];rfl
      have hr2:rows'[i]?=some (enc y):=by rw[hg',hy];rfl
      have hr':∀k,rows[i]'k=enc x:=fun k=>by obtain⟨_,e⟩:=Za.1 hr;exact e
      have hr2':∀k,rows'[i]'k=enc y:=fun k=>by obtain⟨_,e⟩:=Za.1 hr2;exact e
      have hcall:=ho x (Zi hx) y (Zi hy);unfold OC at hcall;rw[ordLD_step hx hy]at hor;have hf:fitI .i64 ((i:Int)+1)=((i+1:Nat):Int):=fit_i64 (by omega) (by omega);generalize ordV x y=c at hcall hor;by_cases hc0:c=0
      ·subst hc0;rw[if_pos rfl]at hor;simp[hlen,h0,h1,h5,hi,hj,hq,hq',hr,hr',hr2,hr2',hcall,hf];exact⟨by omega,hor⟩
      ·rw[if_neg hc0]at hor;simp[hlen,h0,h1,h5,hi,hj,hq,hq',hr,hr',hr2,hr2',hcall,hc0,hor]
     ·omega
    ·have hz:=ordLD_end l m i (by omega) (by omega) (by omega);rw[←hor]at hz;rcases hL' with hL'|⟨hL',hz'⟩
     ·subst hL';simp[hlen,h0,h1,h5,hi,hj,hq,hq',hz]
     ·subst hL';obtain rfl:i=0:=by omega
      simp[hlen,h0,h1,h5,hi,hj,hq,hq',hz]
   ·omega
  ·have hz:=ordLD_end l m i (by omega) (by omega) (by omega);rw[←hor]at hz;rcases hL with hL|⟨hL,hz'⟩
   ·subst hL;simp[hlen,h0,h1,h5,hi,hq,hz]
   ·subst hL;obtain rfl:i=0:=by omega
    simp[hlen,h0,h1,h5,hi,hq,hz]
 ·have hq:=encL_length l;have hq':=encL_length m;have hin:=fun x y b h=>r04_ints N b x y h
  rintro o fr h hn ⟨hlen,⟨rfl,hz,h0,h1⟩|⟨rfl,h2⟩⟩
  ·simp only at hlen h0 h1;rw[hz];rcases hL with hL|⟨hL,e⟩<;>rcases hL' with hL'|⟨hL',e'⟩<;>subst hL<;>subst hL'<;>simp[hlen,h0,h1,hin, *]
  ·simp only at h2;simp[h2]
end
section
attribute [local simp] aop aopW coldF extF putA ofConst flat scalarOp fastOp binFast intOp strOp guardX Ae.part rowOf szOk natOf lenA cls fillA splice newsOf isNilC cellX
set_option maxHeartbeats 4000000
theorem r04_Order1 (M:Nat)(v w:V)(b:Bool)(h:Hp)(p q:Bool)
 (hv:∀b h,callN cx M b 108 [evV v] h=some (.sc (.bool p),h)) (hw:∀b h,callN cx M b 108 [evV w] h=some (.sc (.bool q),h))
 (hy:∀x b h,callN cx M b 109 [.sc (.bool x)] h=some (.sc (.int .i64 (yesI x)),h)) (hpq:p≠q):
 callN cx (M+1) b 57 [evV v,evV w] h=some (.sc (.int .i64 (if q then 1 else-1)),h):=by
 have hc:=calm_evV2 v w;refine pure_calm (r:= .sc (.int .i64 (if q then 1 else-1))) ⟨Tryz.f57.ntmps,(Tryz.f57.body).getD .skip,[.tmp 4]⟩ (by kernel_rfl) (by kernel_rfl) rfl (by kernel_rfl) (by simp[Tryz.f57]) hc rfl ?_ b h;clear hc;cases v with
 |
  mk k n d s z l=>
  cases w with
  |
   mk k' n' d' s' z' l'=>
   rw[evV_eq]at hv hw⊢;rw[evV_eq];generalize evL z l=L at hv;generalize evL z' l'=L' at hw;cases p<;>cases q<;>simp at hpq<;>simp[Tryz.f57,hv,hw,hy,yesI,show fitI .i64 1=1 from rfl,show fitI .i64 (-1)= -1 from rfl]
theorem r04_Order2 (M:Nat)(v w:V)(b:Bool)(h:Hp)(c:Int)
 (hv:∀b h,callN cx M b 108 [evV v] h=some (.sc (.bool false),h)) (hw:∀b h,callN cx M b 108 [evV w] h=some (.sc (.bool false),h))
 (hf:∀b h,callN cx M b 110 [evV v,evV w] h=some (.sc (.int .i64 c),h)):
 callN cx (M+1) b 57 [evV v,evV w] h=some (.sc (.int .i64 c),h):=by
 have hc:=calm_evV2 v w;refine pure_calm (r:= .sc (.int .i64 c)) ⟨Tryz.f57.ntmps,(Tryz.f57.body).getD .skip,[.tmp 4]⟩ (by kernel_rfl) (by kernel_rfl) rfl (by kernel_rfl) (by simp[Tryz.f57]) hc rfl ?_ b h;clear hc;cases v with
 |
  mk k n d s z l=>
  cases w with
  |
   mk k' n' d' s' z' l'=>
   rw[evV_eq]at hv hw hf⊢;rw[evV_eq]at hf⊢;generalize evL z l=L at hv hf;generalize evL z' l'=L' at hw hf;by_cases e:(AV.ag [.sc (.int .i64 k),.sc (.int .i64 n),.sc (.int .i64 d),.sc (.string s),L])=(AV.ag [.sc (.int .i64 k'),.sc (.int .i64 n'),.sc (.int .i64 d'),.sc (.string s'),L'])
   ·simp[Tryz.f57,hv,hw,hf]
   ·simp[Tryz.f57,hv,hw,hf]
theorem r04_Order3 (M:Nat)(v w:V)(b:Bool)(h:Hp)(c g N1 D1 N2 D2:Int)(B1 B2:Bool)
 (hv:∀b h,callN cx M b 108 [evV v] h=some (.sc (.bool true),h)) (hw:∀b h,callN cx M b 108 [evV w] h=some (.sc (.bool true),h))
 (hk:∀k b h,callN cx M b 112 [.sc (.int .i64 k)] h=some (.sc (.int .i64 (clsV k)),h))
 (hi:∀x y b h,callN cx M b 111 [.sc (.int .i64 x),.sc (.int .i64 y)] h=some (.sc (.int .i64 (cmpI x y)),h))
 (hnv:∀b h,callN cx M b 113 [evV v] h=some (.tp [frA N1 D1,.sc (.bool B1)],h)) (hnw:∀b h,callN cx M b 113 [evV w] h=some (.tp [frA N2 D2,.sc (.bool B2)],h))
 (hcm:∀b h,callN cx M b 114 [frA N1 D1,frA N2 D2] h=some (.sc (.int .i64 g),h))
 (hf:∀b h,callN cx M b 110 [evV v,evV w] h=some (.sc (.int .i64 c),h)):
 callN cx (M+1) b 57 [evV v,evV w] h=some (.sc (.int .i64 (if cmpI (clsV v.k) (clsV w.k)=0 then(bif B1 then g else c)else cmpI (clsV v.k) (clsV w.k))),h):=by
 have hc:=calm_evV2 v w;refine pure_calm (r:= .sc (.int .i64 (if cmpI (clsV v.k) (clsV w.k)=0 then(bif B1 then g else c)else cmpI (clsV v.k) (clsV w.k)))) ⟨Tryz.f57.ntmps,(Tryz.f57.body).getD .skip,[.tmp 4]⟩ (by kernel_rfl) (by kernel_rfl) rfl (by kernel_rfl) (by simp[Tryz.f57]) hc rfl ?_ b h;clear hc;cases v with
 |
  mk k n d s z l=>
  cases w with
  |
   mk k' n' d' s' z' l'=>
   have hk1:=fun b h=>hk k b h
   have hk2:=fun b h=>hk k' b h
   have hi1:=fun b h=>hi (clsV k) (clsV k') b h
   simp only[V.k];clear hk hi;obtain⟨x,hx⟩:∃x,cmpI (clsV k) (clsV k')=x:=⟨_,rfl⟩;simp only[hx]at hi1⊢;clear hx;generalize clsV k=y1 at hk1 hi1;generalize clsV k'=y2 at hk2 hi1;simp only[frA]at hnv hnw hcm;rw[evV_eq]at hv hw hf hnv hnw⊢;rw[evV_eq]at hf⊢;generalize evL z l=L at hv hf hnv;generalize evL z' l'=L' at hw hf hnw;by_cases h0:x=0
   ·subst h0;cases B1<;>simp[Tryz.f57,hv,hw,hf,hk1,hk2,hi1,hnv,hnw,hcm]
   ·simp[Tryz.f57,hv,hw,hk1,hk2,hi1,h0]
theorem bdV_l {v:V}(h:bdV v):v.l.length≤1000000000000000∧∀x∈v.l,bdV x:=by
 cases v;rw[bdV]at h;exact⟨h.2.1,fun x hx=>bdL_mem h.2.2 hx⟩
theorem dep_l {v:V}{D:Nat}(h:dep v≤D+1):∀x∈v.l,dep x≤D:=by
 cases v with
 |mk k n d s z l=>intro x hx;have:=dep_mem (l:=l) hx;simp only[dep]at h;omega
theorem dep_pos (v:V):1≤dep v:=by cases v;simp only[dep];omega
theorem OC_all :∀(D:Nat) (v w:V),dep v≤D→dep w≤D→bdV v→bdV w→∀N,OC (N+3*D+6) v w:=by
 intro D
 induction D with
 |zero=>intro v w h;have:=dep_pos v;omega
 |
  succ D ih=>
  intro v w dv dw bv bw N b h;have hl:=r04_lists (N+3*D+5) v.isNil w.isNil v.l w.l (bdV_l bv).1 (bdV_l bw).1 (fun x hx y hy=>ih x y (dep_l dv x hx) (dep_l dw y hy) ((bdV_l bv).2 x hx) ((bdV_l bw).2 y hy) N);have hf:=fun b h=>r04_fields (N+3*D+6) v w hl b h
  have hv:=fun b h=>r04_Valid (N+D+2) (D+1) v dv bv b h
  have hw:=fun b h=>r04_Valid (N+D+2) (D+1) w dw bw b h
  have nv:=fun b h=>r04_Number (N+D+1) (D+1) v dv bv b h
  have nw:=fun b h=>r04_Number (N+D+1) (D+1) w dw bw b h
  rw[show N+D+2+2*(D+1)+4=N+3*D+8 by omega]at hv hw;rw[show N+D+1+2*(D+1)+5=N+3*D+8 by omega]at nv nw;rw[show N+3*(D+1)+6=N+3*D+8+1 by omega];have hy:=fun x b h=>r04_yes (N+3*D+7) b x h
  have hk:=fun k b h=>r04_class (N+3*D+7) b k h
  have hi:=fun x y b h=>r04_ints (N+3*D+7) b x y h
  have hcm:=fun b h=>r03_Cmp (N+3*D+5) b (numN v) (numD v) (numN w) (numD w) h
  have e:ordV v w=if okT v=okT w then(if okT w then(if cmpI (clsV v.k) (clsV w.k)=0 then(if v.k=2∨v.k=3 then cmpF v.n (if v.k=2 then 1 else v.d) w.n (if w.k=2 then 1 else w.d)else fldV v w)else cmpI (clsV v.k) (clsV w.k))else fldV v w)else if okT w then 1 else-1:=by
   cases v;rw[ordV];rfl
  rw[e];cases hp:okT v<;>cases hq:okT w<;>rw[hp]at hv<;>rw[hq]at hw
  ·have:=r04_Order2 (N+3*D+8) v w b h (fldV v w) hv hw hf;simpa[evV]using this
  ·have:=r04_Order1 (N+3*D+8) v w b h false true hv hw hy (by decide);simpa[evV]using this
  ·have:=r04_Order1 (N+3*D+8) v w b h true false hv hw hy (by decide);simpa[evV]using this
  ·have:=r04_Order3 (N+3*D+8) v w b h (fldV v w) _ _ _ _ _ _ _ hv hw hk hi nv nw hcm hf;simp only[evV]at this;rw[this];simp only[if_true,numB,hp,Bool.true_and];by_cases h0:cmpI (clsV v.k) (clsV w.k)=0
   ·simp only[h0,if_true];by_cases h1:v.k=2∨v.k=3
    ·have hcl:clsV v.k=clsV w.k:=by
      unfold cmpI at h0;by_cases a:clsV v.k<clsV w.k
      ·rw[if_pos a]at h0;omega
      ·by_cases a':clsV w.k<clsV v.k
       ·rw[if_neg a,if_pos a']at h0;omega
       ·omega
     have h2:clsV v.k=2:=by rcases h1 with e|e<;>rw[e]<;>rfl
     have h3:w.k=2∨w.k=3:=by
      rw[h2]at hcl;unfold clsV at hcl
      (repeat' split at hcl)<;>omega
     have q:(decide (v.k=2)||decide (v.k=3))=true:=by simpa using h1
     simp only[h1,if_true,q,cond_true,numN,numD,hp,hq];rcases h1 with e1|e1<;>rcases h3 with e3|e3<;>simp[e1,e3]
    ·have q:(decide (v.k=2)||decide (v.k=3))=false:=by simp;omega
     simp[h1,q]
   ·simp only[h0,if_false]
end
end Go.Proofs.YtmocfjnklfpnbaaGreatDoor
