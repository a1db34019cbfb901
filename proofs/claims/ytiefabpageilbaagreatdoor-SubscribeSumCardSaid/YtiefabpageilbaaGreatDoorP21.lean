/- Contracts: lists of the reference's values. -/
import Derived.Test.YtiefabpageilbaaGreatDoorP20
import Derived.Laws.RangeAny
import Derived.Laws.RangeString
set_option linter.all false
set_option maxRecDepth 100000
namespace Go.Proofs.YtiefabpageilbaaGreatDoor
open Go Go.Ae
section
attribute [local simp] aop aopW coldF extF putA ofConst flat scalarOp fastOp binFast intOp strOp guardX Ae.part rowOf szOk natOf lenA cls fillA newsOf isNilC cellX
set_option maxHeartbeats 4000000
def OC (N:Nat)(v w:V):Prop:=∀b h,callN cx N b 60 [.ag (enc v),.ag (enc w)] h=some (.sc (.int .i64 (ordV v w)),h)
def ordLD (l m:List V)(i:Nat):Int:=ordL (l.drop i) (m.drop i)
theorem ordLD_zero (l m:List V):ordL l m=ordLD l m 0:=rfl
theorem ordLD_end (l m:List V)(i:Nat)(h1:i≤l.length)(h2:i≤m.length)(h:i=l.length∨i=m.length):ordLD l m i=cmpI l.length m.length:=by
 unfold ordLD;rcases Nat.lt_or_ge i l.length with q|q
 ·have e':m.drop i=[]:=Zt (by omega);rw[Zm q,e'];show(1:Int)=cmpI l.length m.length;unfold cmpI;rw[if_neg (by omega),if_pos (by omega)]
 ·have e:l.drop i=[]:=Zt q;rcases Nat.lt_or_ge i m.length with p|p
  ·rw[e,Zm p];show(-1:Int)=cmpI l.length m.length;unfold cmpI;rw[if_pos (by omega)]
  ·rw[e,Zt p];show(0:Int)=cmpI l.length m.length;unfold cmpI;rw[if_neg (by omega),if_neg (by omega)]
theorem ordLD_step {l m:List V}{i:Nat}{x y:V}(h:l[i]?=some x)(h':m[i]?=some y):ordLD l m i=if ordV x y=0 then ordLD l m (i+1)else ordV x y:=by
 obtain⟨k,e⟩:=Za.1 h;obtain⟨k',e'⟩:=Za.1 h';unfold ordLD;rw[Zm k,e,Zm k',e',ordL]
theorem evL_cases (z:Bool)(l:List V):(evL z l= .ls 5 (encL l) z)∨(evL z l= .sc (.slice none 0 0)∧l.length=0):=(lsV_cases z l).elim (fun e=> .inr ⟨e.2,by rw[e.1];rfl⟩) .inl
theorem r04_lists (N:Nat)(z z':Bool)(l m:List V)(hl:l.length≤1000000000000000)(_hm:m.length≤1000000000000000)(ho:∀x∈l,∀y∈m,OC (N+1) x y)(b:Bool)(h:Hp):
 callN cx (N+2) b 36 [evL z l,evL z' m] h=some (.sc (.int .i64 (ordL l m)),h):=by
 have hc:[evL z l,evL z' m].all calm=true:=by rw[Zn,Zn,calm_evL,calm_evL];rfl
 refine pure_calm (r:= .sc (.int .i64 (ordL l m))) ⟨Tryz.f36.ntmps,(Tryz.f36.body).getD .skip,[.tmp 4]⟩ (by kernel_rfl) (by kernel_rfl) rfl (by kernel_rfl) (by simp[Tryz.f36]) hc rfl ?_ b h;clear hc;have hL:=evL_cases z l;have hL':=evL_cases z' m;generalize evL z l=L at hL;generalize evL z' m=L' at hL';simp[Tryz.f36];refine loop_up (C:=cx) (G:=fun r=>∃h',finX _ (thenX _ _ (blockX _ r) _)=some (_,h'))
  (fun i s=>i≤m.length∧ordL l m=ordLD l m i∧s.1.length=36∧gt s.1 0=L∧gt s.1 1=L'∧gt s.1 5= .sc (.int .i64 i))
  (fun o s=>s.1.length=36∧((o= .exit 0∧ordL l m=cmpI l.length m.length∧gt s.1 0=L∧gt s.1 1=L')∨(o= .ret∧gt s.1 4= .sc (.int .i64 (ordL l m))))) l.length (by simp;omega) (by simp[ordLD_zero]) ?_ ?_
 ·rintro i fr h hle ⟨hle',hor,hlen,h0,h1,h5⟩;simp only at hlen h0 h1 h5;have hq:=encL_length l;have hg:=encL_get l;have hq':=encL_length m;have hg':=encL_get m;generalize encL l=rows at hq hg hL;generalize encL m=rows' at hq' hg' hL';by_cases hi:i<l.length
  ·rcases hL with hL|⟨hL,hz⟩
   ·subst hL;by_cases hj:i<m.length
    ·rcases hL' with hL'|⟨hL',hz⟩
     ·subst hL';obtain⟨x,hx⟩:∃c,l[i]?=some c:=⟨_,Zb hi⟩;obtain⟨y,hy⟩:∃c,m[i]?=some c:=⟨_,Zb hj⟩;have hr:rows[i]?=some (enc x):=by rw[hg,hx];rfl
      have hr2:rows'[i]?=some (enc y):=by rw[hg',hy];rfl
      have hr':∀k,rows[i]'k=enc x:=fun k=>by obtain⟨_,e⟩:=Za.1 hr;exact e
      have hr2':∀k,rows'[i]'k=enc y:=fun k=>by obtain⟨_,e⟩:=Za.1 hr2;exact e
      have hcall:=ho x (Zi hx) y (Zi hy);unfold OC at hcall;rw[ordLD_step hx hy]at hor;have hf:fitI .i64 ((i:Int)+1)=((i+1:Nat):Int):=fit_i64 (by omega) (by omega);generalize ordV x y=c at hcall hor;by_cases hc0:c=0
      ·subst hc0;rw[if_pos rfl]at hor;simp[hlen,h0,h1,h5,hi,hj,hq,hq',hr,hr',hr2,hr2',hcall,hf];exact⟨by omega,hor⟩
      ·rw[if_neg hc0]at hor;simp[hlen,h0,h1,h5,hi,hj,hq,hq',hr,hr',hr2,hr2',hcall,hc0,hor]
     ·omega
    ·have hz:=ordLD_end l m i (by omega) (by omega) (by omega);rw[←hor]at hz;rcases hL' with hL'|⟨hL',hz'⟩
     ·subst hL';simp[hlen,h0,h1,h5,hi,hj,hq,hq',hz]
     ·subst hL';obtain rfl:i=0:=by omega
      simp[hlen,h0,h1,h5,hi,hj,hq,hq',hz]
   ·omega
  ·have hz:=ordLD_end l m i (by omega) (by omega) (by omega);rw[←hor]at hz;rcases hL with hL|⟨hL,hz'⟩
   ·subst hL;simp[hlen,h0,h1,h5,hi,hq,hz]
   ·subst hL;obtain rfl:i=0:=by omega
    simp[hlen,h0,h1,h5,hi,hq,hz]
 ·have hq:=encL_length l;have hq':=encL_length m;have hin:=fun x y b h=>r04_ints N b x y h
  rintro o fr h hn ⟨hlen,⟨rfl,hz,h0,h1⟩|⟨rfl,h2⟩⟩
  ·simp only at hlen h0 h1;rw[hz];rcases hL with hL|⟨hL,e⟩<;>rcases hL' with hL'|⟨hL',e'⟩<;>subst hL<;>subst hL'<;>simp[hlen,h0,h1,hin, *]
  ·simp only at h2;simp[h2]
end
section
attribute [local simp] aop aopW coldF extF putA ofConst flat scalarOp fastOp binFast intOp strOp guardX Ae.part rowOf szOk natOf lenA cls fillA splice newsOf isNilC cellX
set_option maxHeartbeats 4000000
theorem r04_Order1 (M:Nat)(v w:V)(b:Bool)(h:Hp)(p q:Bool)
 (hv:∀b h,callN cx M b 105 [evV v] h=some (.sc (.bool p),h)) (hw:∀b h,callN cx M b 105 [evV w] h=some (.sc (.bool q),h))
 (hy:∀x b h,callN cx M b 106 [.sc (.bool x)] h=some (.sc (.int .i64 (yesI x)),h)) (hpq:p≠q):
 callN cx (M+1) b 60 [evV v,evV w] h=some (.sc (.int .i64 (if q then 1 else-1)),h):=by
 have hc:=calm_evV2 v w;refine pure_calm (r:= .sc (.int .i64 (if q then 1 else-1))) ⟨Tryz.f60.ntmps,(Tryz.f60.body).getD .skip,[.tmp 4]⟩ (by kernel_rfl) (by kernel_rfl) rfl (by kernel_rfl) (by simp[Tryz.f60]) hc rfl ?_ b h;clear hc;cases v with
 |
  mk k n d s z l=>
  cases w with
  |
   mk k' n' d' s' z' l'=>
   rw[evV_eq]at hv hw⊢;rw[evV_eq];generalize evL z l=L at hv;generalize evL z' l'=L' at hw;cases p<;>cases q<;>simp at hpq<;>simp[Tryz.f60,hv,hw,hy,yesI,show fitI .i64 1=1 from rfl,show fitI .i64 (-1)= -1 from rfl]
theorem r04_Order2 (M:Nat)(v w:V)(b:Bool)(h:Hp)(c:Int)
 (hv:∀b h,callN cx M b 105 [evV v] h=some (.sc (.bool false),h)) (hw:∀b h,callN cx M b 105 [evV w] h=some (.sc (.bool false),h))
 (hf:∀b h,callN cx M b 107 [evV v,evV w] h=some (.sc (.int .i64 c),h)):
 callN cx (M+1) b 60 [evV v,evV w] h=some (.sc (.int .i64 c),h):=by
 have hc:=calm_evV2 v w;refine pure_calm (r:= .sc (.int .i64 c)) ⟨Tryz.f60.ntmps,(Tryz.f60.body).getD .skip,[.tmp 4]⟩ (by kernel_rfl) (by kernel_rfl) rfl (by kernel_rfl) (by simp[Tryz.f60]) hc rfl ?_ b h;clear hc;cases v with
 |
  mk k n d s z l=>
  cases w with
  |
   mk k' n' d' s' z' l'=>
   rw[evV_eq]at hv hw hf⊢;rw[evV_eq]at hf⊢;generalize evL z l=L at hv hf;generalize evL z' l'=L' at hw hf;by_cases e:(AV.ag [.sc (.int .i64 k),.sc (.int .i64 n),.sc (.int .i64 d),.sc (.string s),L])=(AV.ag [.sc (.int .i64 k'),.sc (.int .i64 n'),.sc (.int .i64 d'),.sc (.string s'),L'])
   ·simp[Tryz.f60,hv,hw,hf]
   ·simp[Tryz.f60,hv,hw,hf]
theorem r04_Order3 (M:Nat)(v w:V)(b:Bool)(h:Hp)(c g N1 D1 N2 D2:Int)(B1 B2:Bool)
 (hv:∀b h,callN cx M b 105 [evV v] h=some (.sc (.bool true),h)) (hw:∀b h,callN cx M b 105 [evV w] h=some (.sc (.bool true),h))
 (hk:∀k b h,callN cx M b 108 [.sc (.int .i64 k)] h=some (.sc (.int .i64 (clsV k)),h))
 (hi:∀x y b h,callN cx M b 61 [.sc (.int .i64 x),.sc (.int .i64 y)] h=some (.sc (.int .i64 (cmpI x y)),h))
 (hnv:∀b h,callN cx M b 109 [evV v] h=some (.tp [frA N1 D1,.sc (.bool B1)],h)) (hnw:∀b h,callN cx M b 109 [evV w] h=some (.tp [frA N2 D2,.sc (.bool B2)],h))
 (hcm:∀b h,callN cx M b 110 [frA N1 D1,frA N2 D2] h=some (.sc (.int .i64 g),h))
 (hf:∀b h,callN cx M b 107 [evV v,evV w] h=some (.sc (.int .i64 c),h)):
 callN cx (M+1) b 60 [evV v,evV w] h=some (.sc (.int .i64 (if cmpI (clsV v.k) (clsV w.k)=0 then(bif B1 then g else c)else cmpI (clsV v.k) (clsV w.k))),h):=by
 have hc:=calm_evV2 v w;refine pure_calm (r:= .sc (.int .i64 (if cmpI (clsV v.k) (clsV w.k)=0 then(bif B1 then g else c)else cmpI (clsV v.k) (clsV w.k)))) ⟨Tryz.f60.ntmps,(Tryz.f60.body).getD .skip,[.tmp 4]⟩ (by kernel_rfl) (by kernel_rfl) rfl (by kernel_rfl) (by simp[Tryz.f60]) hc rfl ?_ b h;clear hc;cases v with
 |
  mk k n d s z l=>
  cases w with
  |
   mk k' n' d' s' z' l'=>
   have hk1:=fun b h=>hk k b h
   have hk2:=fun b h=>hk k' b h
   have hi1:=fun b h=>hi (clsV k) (clsV k') b h
   simp only[V.k];clear hk hi;obtain⟨x,hx⟩:∃x,cmpI (clsV k) (clsV k')=x:=⟨_,rfl⟩;simp only[hx]at hi1⊢;clear hx;generalize clsV k=y1 at hk1 hi1;generalize clsV k'=y2 at hk2 hi1;simp only[frA]at hnv hnw hcm;rw[evV_eq]at hv hw hf hnv hnw⊢;rw[evV_eq]at hf⊢;generalize evL z l=L at hv hf hnv;generalize evL z' l'=L' at hw hf hnw;by_cases h0:x=0
   ·subst h0;cases B1<;>simp[Tryz.f60,hv,hw,hf,hk1,hk2,hi1,hnv,hnw,hcm]
   ·simp[Tryz.f60,hv,hw,hk1,hk2,hi1,h0]
theorem bdV_l {v:V}(h:bdV v):v.l.length≤1000000000000000∧∀x∈v.l,bdV x:=by
 cases v;rw[bdV]at h;exact⟨h.2.1,fun x hx=>bdL_mem h.2.2 hx⟩
theorem dep_l {v:V}{D:Nat}(h:dep v≤D+1):∀x∈v.l,dep x≤D:=by
 cases v with
 |mk k n d s z l=>intro x hx;have:=dep_mem (l:=l) hx;simp only[dep]at h;omega
theorem dep_pos (v:V):1≤dep v:=by cases v;simp only[dep];omega
theorem OC_all :∀(D:Nat) (v w:V),dep v≤D→dep w≤D→bdV v→bdV w→∀N,OC (N+3*D+6) v w:=by
 intro D
 induction D with
 |zero=>intro v w h;have:=dep_pos v;omega
 |
  succ D ih=>
  intro v w dv dw bv bw N b h;have hl:=r04_lists (N+3*D+5) v.isNil w.isNil v.l w.l (bdV_l bv).1 (bdV_l bw).1 (fun x hx y hy=>ih x y (dep_l dv x hx) (dep_l dw y hy) ((bdV_l bv).2 x hx) ((bdV_l bw).2 y hy) N);have hf:=fun b h=>r04_fields (N+3*D+6) v w hl b h
  have hv:=fun b h=>r04_Valid (N+D+2) (D+1) v dv bv b h
  have hw:=fun b h=>r04_Valid (N+D+2) (D+1) w dw bw b h
  have nv:=fun b h=>r04_Number (N+D+1) (D+1) v dv bv b h
  have nw:=fun b h=>r04_Number (N+D+1) (D+1) w dw bw b h
  rw[show N+D+2+2*(D+1)+4=N+3*D+8 by omega]at hv hw;rw[show N+D+1+2*(D+1)+5=N+3*D+8 by omega]at nv nw;rw[show N+3*(D+1)+6=N+3*D+8+1 by omega];have hy:=fun x b h=>r04_yes (N+3*D+7) b x h
  have hk:=fun k b h=>r04_class (N+3*D+7) b k h
  have hi:=fun x y b h=>r04_ints (N+3*D+7) b x y h
  have hcm:=fun b h=>r03_Cmp (N+3*D+5) b (numN v) (numD v) (numN w) (numD w) h
  have e:ordV v w=if okT v=okT w then(if okT w then(if cmpI (clsV v.k) (clsV w.k)=0 then(if v.k=2∨v.k=3 then cmpF v.n (if v.k=2 then 1 else v.d) w.n (if w.k=2 then 1 else w.d)else fldV v w)else cmpI (clsV v.k) (clsV w.k))else fldV v w)else if okT w then 1 else-1:=by
   cases v;rw[ordV];rfl
  rw[e];cases hp:okT v<;>cases hq:okT w<;>rw[hp]at hv<;>rw[hq]at hw
  ·have:=r04_Order2 (N+3*D+8) v w b h (fldV v w) hv hw hf;simpa[evV]using this
  ·have:=r04_Order1 (N+3*D+8) v w b h false true hv hw hy (by decide);simpa[evV]using this
  ·have:=r04_Order1 (N+3*D+8) v w b h true false hv hw hy (by decide);simpa[evV]using this
  ·have:=r04_Order3 (N+3*D+8) v w b h (fldV v w) _ _ _ _ _ _ _ hv hw hk hi nv nw hcm hf;simp only[evV]at this;rw[this];simp only[if_true,numB,hp,Bool.true_and];by_cases h0:cmpI (clsV v.k) (clsV w.k)=0
   ·simp only[h0,if_true];by_cases h1:v.k=2∨v.k=3
    ·have hcl:clsV v.k=clsV w.k:=by
      unfold cmpI at h0;by_cases a:clsV v.k<clsV w.k
      ·rw[if_pos a]at h0;omega
      ·by_cases a':clsV w.k<clsV v.k
       ·rw[if_neg a,if_pos a']at h0;omega
       ·omega
     have h2:clsV v.k=2:=by rcases h1 with e|e<;>rw[e]<;>rfl
     have h3:w.k=2∨w.k=3:=by
      rw[h2]at hcl;unfold clsV at hcl
      (repeat' split at hcl)<;>omega
     have q:(decide (v.k=2)||decide (v.k=3))=true:=by simpa using h1
     simp only[h1,if_true,q,cond_true,numN,numD,hp,hq];rcases h1 with e1|e1<;>rcases h3 with e3|e3<;>simp[e1,e3]
    ·have q:(decide (v.k=2)||decide (v.k=3))=false:=by simp;omega
     simp[h1,q]
   ·simp only[h0,if_false]
end
section
attribute [local simp] aop aopW coldF extF putA ofConst flat scalarOp fastOp binFast intOp strOp guardX Ae.part rowOf szOk natOf lenA cls fillA newsOf isNilC cellX
theorem call_inl {f:FuncId}{args:List AV}{n:Nat}(fi:Fi)(hs:cx.srt f=none)(hi:cx.inl f=true)(hF:cx.F f=some fi)(hd:(splitD cx fi.body).isNone=true)(hok:ok2 cx fi.body=true)(hl:args.length≤fi.ntmps)(b:Bool)(h:Hp)(hp:plainF f=true:=by decide):
 callN cx (n+1) b f args h=finX fi.res (exec2 cx (callN cx n) fi.body (args++List.replicate (fi.ntmps-args.length) .un,h)):=by
 have e1:cx.ins f=none:=ins_none hp;have e2:(if args.all calm then cx.tab f args else none)=none:=by rw[show cx.tab f args=none from tab_none hp];split<;>rfl
 simp only[callN,hs,hi,if_true,e1,e2,hF,Option.isNone_iff_eq_none.1 hd];exact body1_of hF hok hl h
theorem val_ctrl (n:Nat)(b:Bool)(r:Int)(h:Hp):callN cx (n+1) b 198 [.sc (.int .i32 r)] h=some (.sc (.bool (decide (r<32)||decide (126<r))),h):=by
 rw[call_inl ⟨Tryz.f198.ntmps,(Tryz.f198.body).getD .skip,[.tmp 2]⟩ rfl (by kernel_rfl) (by kernel_rfl) (by kernel_rfl) (by kernel_rfl) (by simp[Tryz.f198])];by_cases h1:r<32<;>simp[Tryz.f198,h1]
def idxL :List UInt8→Nat→Int
 | [],_=> -1
 |c::l,i=>if okC c=true then idxL l (i+1)else i
def idxD (x:ByteArray)(i:Nat):Int:=idxL (x.data.toList.drop i) i
theorem idxL_neg :∀(l:List UInt8) (i:Nat),(idxL l i<0)=(l.all okC=true)
 | [],i=>by simp[idxL]
 |
  c::l,i=>by
  rw[idxL,Zn];cases h:okC c
  ·simp
  ·simp[idxL_neg l (i+1)]
theorem idxD_end (x:ByteArray)(i:Nat)(h:x.size≤i):idxD x i= -1:=by unfold idxD;rw[Zt h];rfl
theorem idxD_step {x:ByteArray}{i:Nat}{c:UInt8}(h:x.data.toList[i]?=some c):idxD x i=if okC c=true then idxD x (i+1)else i:=by
 obtain⟨k,e⟩:=Za.1 h;unfold idxD;rw[Zm k,e,idxL]
theorem rune_of {x:ByteArray}{i:Nat}{c:UInt8}(h:x.data.toList[i]?=some c):(okC c=true∧Utf8.decode x i=(c.toNat,1)∧32≤c.toNat∧c.toNat≤126)∨(okC c=false∧((Utf8.decode x i).1<32∨126< (Utf8.decode x i).1)):=by
 obtain⟨k,e⟩:=Za.1 h;have kx:i<x.size:=k;have ex:x[i]'kx=c:=e;by_cases ha:c.toNat<128
 ·have hd:=decode_ascii x i kx (by rw[ex];exact ha);rw[ex]at hd;cases hc:okC c with
  |
   true=>
   left;simp only[okC,Zh,Zx]at hc;exact⟨rfl,hd,hc.1,hc.2⟩
  |
   false=>
   right;rw[hd];simp only[okC,Bool.and_eq_false_iff,decide_eq_false_iff_not]at hc;exact⟨rfl,by simp only;omega⟩
 ·have hd:=decode_high x i kx (by rw[ex];omega);right;refine⟨?_,.inr (by omega)⟩;simp only[okC,Bool.and_eq_false_iff,decide_eq_false_iff_not];omega
theorem str_indexFunc (n:Nat)(b:Bool)(x:ByteArray)(h:Hp)(hx:x.size≤1000000000000000):callN cx (n+2) b 264 [.sc (.string x),.fn 198 [],.sc (.bool true)] h=some (.sc (.int .i64 (idxD x 0)),h):=by
 refine pure_calm (r:= .sc (.int .i64 (idxD x 0))) ⟨Tryz.f264.ntmps,(Tryz.f264.body).getD .skip,[.tmp 6]⟩ (by kernel_rfl) (by kernel_rfl) rfl (by kernel_rfl) (by simp[Tryz.f264]) rfl rfl ?_ b h;have hsz:x.data.toList.length=x.size:=rfl;have hcl:=fun b r h=>val_ctrl n b r h
 simp[Tryz.f264];refine loop_up (C:=cx) (G:=fun r=>∃h',finX _ (thenX _ _ (blockX _ r) _)=some (_,h'))
  (fun i s=>idxD x 0=idxD x i∧s.1.length=21∧gt s.1 1= .fn 198 []∧gt s.1 2= .sc (.bool true)∧gt s.1 10= .pt 0 0∧s.2=[.iter x i])
  (fun o s=>s.1.length=21∧((o= .exit 0∧idxD x 0= -1)∨(o= .ret∧gt s.1 6= .sc (.int .i64 (idxD x 0))))) x.size (by simp;omega) (by simp) ?_ ?_
 ·rintro i fr h hle ⟨ho,hlen,h1,h2,h10,hh⟩;simp only at hlen h1 h2 h10 hh;subst hh;by_cases hi:i<x.size
  ·obtain⟨c,hc⟩:∃c,x.data.toList[i]?=some c:=⟨_,Zb (by omega)⟩;rw[idxD_step hc]at ho;rcases rune_of hc with⟨hk,hd,k1,k2⟩|⟨hk,hd⟩
   ·rw[if_pos hk]at ho;have f1:¬((c.toNat:Int)<32):=by omega
    have f2:¬(126< (c.toNat:Int)):=by omega
    generalize c.toNat=d at hd f1 f2;simp[hlen,h1,h2,h10,hi,hd,hcl,f1,f2];exact ho
   ·rw[if_neg (by rw[hk];simp)]at ho;generalize hde:Utf8.decode x i=de at hd;obtain⟨d,wd⟩:=de;simp only at hd;by_cases f1:(d:Int)<32
    ·simp[hlen,h1,h2,h10,hi,hde,hcl,f1,ho]
    ·have f2:126< (d:Int):=by omega
     simp[hlen,h1,h2,h10,hi,hde,hcl,f1,f2,ho]
  ·have hz:idxD x 0= -1:=by rw[ho,idxD_end x i (by omega)]
   simp[hlen,h1,h2,h10,hi,hz]
 ·rintro o fr h hn ⟨hlen,⟨rfl,hz⟩|⟨rfl,h2⟩⟩
  ·simp only at hlen;simp[hlen,hz]
  ·simp only at h2;simp[h2]
theorem str_IndexFunc (n:Nat)(b:Bool)(x:ByteArray)(h:Hp)(hx:x.size≤1000000000000000):callN cx (n+3) b 197 [.sc (.string x),.fn 198 []] h=some (.sc (.int .i64 (idxD x 0)),h):=by
 refine pure_calm (r:= .sc (.int .i64 (idxD x 0))) ⟨Tryz.f197.ntmps,(Tryz.f197.body).getD .skip,[.tmp 4]⟩ (by kernel_rfl) (by kernel_rfl) rfl (by kernel_rfl) (by simp[Tryz.f197]) rfl rfl ?_ b h;have hc:=fun b h=>str_indexFunc n b x h hx
 simp[Tryz.f197,hc]
theorem idx_okS (x:ByteArray):(idxD x 0<0)=(okS x=true):=by
 unfold idxD;rw[idxL_neg];rfl
end
section
attribute [local simp] aop aopW coldF extF putA ofConst flat scalarOp fastOp binFast intOp strOp guardX Ae.part rowOf szOk natOf lenA cls fillA splice newsOf isNilC cellX
set_option maxHeartbeats 4000000
@[simp] theorem get_app0 (h:Hp)(a:Blk)(l:Hp):(h++a::l)[h.length]?=some a:=by simp
@[simp] theorem get_app1 (h:Hp)(a b:Blk)(l:Hp):(h++a::b::l)[h.length+1]?=some b:=by rw[Zf (by omega)];simp
@[simp] theorem set_app0 (h:Hp)(a b:Blk)(l:Hp):(h++a::l).set h.length b=h++b::l:=by rw[List.set_append_right _ _ (Nat.le_refl _)];simp
@[simp] theorem set_app1 (h:Hp)(a b c:Blk)(l:Hp):(h++a::b::l).set (h.length+1) c=h++a::c::l:=by rw[List.set_append_right _ _ (by omega)];simp
@[simp] theorem rng2 :List.range 2=[0,1]:=rfl
@[simp] theorem rng3 :List.range 3=[0,1,2]:=rfl
@[simp] theorem rng4 :List.range 4=[0,1,2,3]:=rfl
@[simp] theorem rng5 :List.range 5=[0,1,2,3,4]:=rfl
def PVC (N:Nat)(v:V):Prop:=∀b q h,0≤q→q≤8→callN cx N b 144 [.ag (enc v),.sc (.int .i64 q)] h=some (.sc (.bool (okV v (8-q))),h)
theorem okV_56 {v:V}(h:v.k=5∨v.k=6)(m m':Int):okV v m=okV v m':=by
 cases v with
 |
  mk k n d s z l=>
  simp only[V.k]at h;rw[okV,okV];rcases h with rfl|rfl<;>simp
theorem val_path (N:Nat)(b:Bool)(z:Bool)(l:List V)(h:Hp)(hv:∀x∈l,PVC N x):callN cx (N+1) b 199 [evL z l] h=some (.sc (.bool (okPth l)),h):=by
 have hc:[evL z l].all calm=true:=by rw[Zn,calm_evL];rfl
 refine pure_calm (r:= .sc (.bool (okPth l))) ⟨Tryz.f199.ntmps,(Tryz.f199.body).getD .skip,[.tmp 2]⟩ (by kernel_rfl) (by kernel_rfl) rfl (by kernel_rfl) (by simp[Tryz.f199]) hc rfl ?_ b h;clear hc;unfold okPth;rcases lsV_cases z l with⟨rfl,e⟩|e
 ·simp[Tryz.f199,e]
 rw[e];have hq:=encL_length l;have hg:=encL_get l;generalize encL l=rows at hq hg;have hm:((l.length:Int).tmod 2)=((l.length % 2:Nat):Int):=rfl;by_cases h0:l.length % 2=0
 ·rw[h0]at hm;simp[Tryz.f199,hq,hm,h0]
 have h0':l.length % 2=1:=by omega
 rw[h0']at hm;by_cases h2:25< (l.length:Int)
 ·simp[Tryz.f199,hq,hm,h0',h2,show¬(l.length:Int)≤25 by omega]
 have h2':(l.length:Int)≤25:=by omega
 simp[Tryz.f199,hq,hm,h0',h2,h2'];refine loop_up (C:=cx) (G:=fun r=>∃h',finX _ (thenX _ _ (blockX _ r) _)=some (_,h'))
  (fun i s=>okP l false=okPD l i∧s.1.length=37∧gt s.1 15= .ls 5 rows z∧gt s.1 16= .sc (.int .i64 l.length)∧gt s.1 17= .sc (.int .i64 i))
  (fun o s=>s.1.length=37∧((o= .exit 0∧okP l false=true)∨(o= .ret∧okP l false=false∧gt s.1 2= .sc (.bool false)))) l.length (by simp;omega) (by simp[okPD_zero]) ?_ ?_
 ·rintro i fr h hle ⟨ho,hlen,h15,h16,h17⟩;simp only at hlen h15 h16 h17;by_cases hi:i<l.length
  ·obtain⟨c,hc⟩:∃c,l[i]?=some c:=⟨_,Zb hi⟩;have hr:rows[i]?=some (enc c):=by rw[hg,hc];rfl
   have hr':∀k,rows[i]'k=enc c:=fun k=>by obtain⟨_,e⟩:=Za.1 hr;exact e
   have hcv:=hv c (Zi hc);have hcall:=fun b h=>hcv b 0 h (by omega) (by omega)
   rw[okPD_step hc]at ho;have hf:fitI .i64 ((i:Int)+1)=((i+1:Nat):Int):=fit_i64 (by omega) (by omega);have h56:c.k=5∨c.k=6→okV c (8-0)=okV c 0:=fun q=>okV_56 q _ _
   generalize okV c 0=K0 at ho h56;generalize okV c (8-0)=K at hcall h56;cases c with
   |
    mk k n d s z' l'=>
    simp only[V.k]at ho h56;simp only[enc]at hr hr' hcall;generalize lsV z' (encL l')=L' at hr hr' hcall;have hm:((i:Int).tmod 2)=((i % 2:Nat):Int):=rfl;rcases Nat.mod_two_eq_zero_or_one i with q|q<;>rw[q]at hm ho
    all_goals
     simp only[show¬((0:Nat)=1)from by decide,if_false,if_true]at ho
    ·by_cases hk:k=5
     ·subst hk;obtain rfl:=h56 (.inl rfl);cases K
      ·have zz:okP l false=false:=by rw[ho];simp
       clear ho;simp[hlen,h15,h16,h17,hi,hq,hr,hr',hcall,hm,zz]
      ·have zz:okP l false=okPD l (i+1):=by rw[ho];simp
       clear ho;simp[hlen,h15,h16,h17,hi,hq,hr,hr',hcall,hm,hf];exact zz
     ·have zz:okP l false=false:=by rw[ho];simp[hk]
      clear ho;simp[hlen,h15,h16,h17,hi,hq,hr,hr',hm,hk,zz]
    ·by_cases hk:k=6
     ·subst hk;obtain rfl:=h56 (.inr rfl);cases K
      ·have zz:okP l false=false:=by rw[ho];simp
       clear ho;simp[hlen,h15,h16,h17,hi,hq,hr,hr',hcall,hm,zz]
      ·have zz:okP l false=okPD l (i+1):=by rw[ho];simp
       clear ho;simp[hlen,h15,h16,h17,hi,hq,hr,hr',hcall,hm,hf];exact zz
     ·have zz:okP l false=false:=by rw[ho];simp[hk]
      clear ho;simp[hlen,h15,h16,h17,hi,hq,hr,hr',hm,hk,zz]
  ·have zz:okP l false=true:=by rw[ho,okPD_end l i (by omega)]
   simp[hlen,h15,h16,h17,hi,hq,zz]
 ·rintro o fr h hn ⟨hlen,⟨rfl,hz⟩|⟨rfl,hz,h2⟩⟩
  ·simp only at hlen;simp[hlen,hz]
  ·simp only at h2;simp[h2,hz]
end
end Go.Proofs.YtiefabpageilbaaGreatDoor
