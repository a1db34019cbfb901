/- Contracts: lists of values compared by a function; the first that is not zero. -/
import Derived.Test.YtmocfjnklfpnbaaGreatDoorP18
import Derived.Test.YtmocfjnklfpnbaaGreatDoorP17
set_option linter.all false
set_option maxRecDepth 100000
namespace Go.Proofs.YtmocfjnklfpnbaaGreatDoor
open Go Go.Ae
section
attribute [local simp] aop aopW coldF extF putA ofConst flat scalarOp fastOp binFast intOp strOp guardX Ae.part rowOf szOk natOf lenA cls fillA splice newsOf isNilC cellX
set_option maxHeartbeats 8000000
theorem call_snap {f:FuncId}{args ys:List AV}{n:Nat}{r:AV}{b:Bool}{h:Hp}(hs:cx.srt f=none)(hi:cx.inl f=false)(ha:args.mapM (snap h 8)=some ys)(hc:ys.all calm=true)(hr:scalarRes r=true)(hcall:callN cx (n+1) b f ys h=some (r,h)):callN cx (n+1) b f args h=some (r,h):=by
 have e:ys.mapM (snap h 8)=some ys:=mapM_calm (n:=6) hc;simp only[callN,hs,hi,Yl,if_false,e,hc,Bool.true_or,if_true,ha]at hcall⊢;split at hcall
 ·rename_i r0 h0;simp only[Zc,Zg,and_true]at hcall;subst hcall;simp only[hr,Bool.or_true,if_true]
 ·cases hcall
theorem snap_ints {h:Hp}{id:Nat}{xs:List Int}(hx:h[id]?=some (.row (xs.map fun x=> .sc (.int .i64 x)))):snap h 8 (.sl id 1 0 xs.length false)=some (.ls 1 (xs.map fun x=> [.sc (.int .i64 x)]) false):=by
 have e:∀l:List Int,(l.map fun x=>AV.sc (.int .i64 x)).mapM (snap h 7)=some (l.map fun x=>AV.sc (.int .i64 x)):=by
  intro l
  induction l with
  |nil=>rfl
  |cons x l ih=>rw[List.map_cons,Zo,ih];rfl
 have e2:((xs.map fun x=>AV.sc (.int .i64 x)).drop 0).take (xs.length*1)=xs.map fun x=>AV.sc (.int .i64 x):=by
  rw[Yf,List.take_of_length_le (by simp)]
 have e3:0+xs.length*1≤(xs.map fun x=>AV.sc (.int .i64 x)).length:=by simp
 simp only[snap,rowOf,hx,e3,if_true,e2,e,Option.map_some,Zc,AV.ls.injEq,true_and,and_true];apply List.ext_getElem?;intro i;by_cases hi:i<xs.length
 ·simp only[Zs,List.getElem?_range hi,Zb hi,Option.map_some,Nat.mul_one];rw[Zm (by simpa using hi)];simp
 ·simp[hi]
theorem Or_own (n:Nat)(b:Bool)(h:Hp)(id k:Nat)(xs:List Int)(hk:k=xs.length)(hx:h[id]?=some (.row (xs.map fun x=> .sc (.int .i64 x))))(hl:xs.length≤1000000):callN cx (n+1) b 36 [.sl id 1 0 k false] h=some (.sc (.int .i64 (orI xs)),h):=by
 subst hk;refine call_snap (ys:=[.ls 1 (xs.map fun x=> [.sc (.int .i64 x)]) false]) rfl (by kernel_rfl) ?_ rfl rfl (Or_int n b xs false h hl);rw[Zo,snap_ints hx];rfl
def C_order (N:Nat)(v w:V):Prop:=∀b h,callN cx N b 74 [.ag (enc v),.ag (enc w)] h=some (.sc (.int .i64 (ordV v w)),h)
theorem val_lists_order (N:Nat)(z z':Bool)(l m:List V)(hl:l.length≤1000000000000000)(hm:m.length≤1000000000000000)(ho:∀x∈l,∀y∈m,C_order N x y)(b:Bool)(h:Hp):
 callN cx (N+1) b 75 [evL z l,evL z' m,.fn 74 []] h=some (.sc (.int .i64 (ordL l m)),h):=by
 have hc:[evL z l,evL z' m,.fn 74 []].all calm=true:=by rw[Zn,Zn,calm_evL,calm_evL];rfl
 refine pure_calm (r:= .sc (.int .i64 (ordL l m))) (n:=N) ⟨Tryz.f75.ntmps,(Tryz.f75.body).getD .skip,[.tmp 6]⟩ (by kernel_rfl) (by kernel_rfl) rfl (by kernel_rfl) (by simp[Tryz.f75]) hc rfl ?_ b h;clear hc;have hL:=evL_cases z l;have hL':=evL_cases z' m;generalize evL z l=L at hL;generalize evL z' m=L' at hL';have hq:=encL_length l;have hg:=encL_get l;have hq':=encL_length m;have hg':=encL_get m;generalize encL l=rows at hq hg hL;generalize encL m=rows' at hq' hg' hL';rcases hL with hL|⟨hL,hz⟩
 ·subst hL;simp[Tryz.f75,hq];refine loop_up (C:=cx) (G:=fun r=>∃h',finX _ (thenX _ _ (blockX _ r) _)=some (_,h'))
   (fun i s=>i≤m.length∧ordL l m=ordLD l m i∧s.1.length=39∧gt s.1 0= .ls 5 rows z∧gt s.1 1=L'∧gt s.1 2= .fn 74 []∧gt s.1 11= .ls 5 rows z∧gt s.1 12= .sc (.int .i64 l.length)∧gt s.1 13= .sc (.int .i64 i))
   (fun o s=>s.1.length=39∧((o= .exit 0∧l.length≤m.length∧ordL l m=cmpI l.length m.length∧gt s.1 0= .ls 5 rows z∧gt s.1 1=L')∨(o= .ret∧gt s.1 6= .sc (.int .i64 (ordL l m))))) l.length (by simp;omega) (by simp[ordLD_zero]) ?_ ?_
  ·rintro i fr h hle ⟨hle',hor,hlen,h0,h1,h2,h11,h12,h13⟩;simp only at hlen h0 h1 h2 h11 h12 h13;by_cases hi:i<l.length
   ·obtain⟨x,hx⟩:∃c,l[i]?=some c:=⟨_,Zb hi⟩;have hr:rows[i]?=some (enc x):=by rw[hg,hx];rfl
    have hr':∀k,rows[i]'k=enc x:=fun k=>by obtain⟨_,e⟩:=Za.1 hr;exact e
    by_cases hj:i<m.length
    ·rcases hL' with hL'|⟨hL',hz⟩
     ·subst hL';obtain⟨y,hy⟩:∃c,m[i]?=some c:=⟨_,Zb hj⟩;have hr2:rows'[i]?=some (enc y):=by rw[hg',hy];rfl
      have hr2':∀k,rows'[i]'k=enc y:=fun k=>by obtain⟨_,e⟩:=Za.1 hr2;exact e
      have hcall:=ho x (Zi hx) y (Zi hy);unfold C_order at hcall;rw[ordLD_step hx hy]at hor;have hf:fitI .i64 ((i:Int)+1)=((i+1:Nat):Int):=fit_i64 (by omega) (by omega);have hj2:¬(m.length≤i):=by omega
      generalize ordV x y=c at hcall hor;cases x with
      |
       mk k n d s zx lx=>
       cases y with
       |
        mk k' n' d' s' zy ly=>
        simp only[enc]at hr hr' hr2 hr2' hcall;generalize lsV zx (encL lx)=X at hr hr' hcall;generalize lsV zy (encL ly)=Y at hr2 hr2' hcall;by_cases hc0:c=0
        ·subst hc0;rw[if_pos rfl]at hor;simp[hlen,h0,h1,h2,h11,h12,h13,hi,hj,hj2,hq,hq',hr,hr',hr2,hr2',hcall,hf];exact⟨by omega,hor⟩
        ·rw[if_neg hc0]at hor;simp[hlen,h0,h1,h2,h11,h12,h13,hi,hj,hj2,hq,hq',hr,hr',hr2,hr2',hcall,hc0,hor]
     ·omega
    ·have hz:=ordLD_end l m i (by omega) (by omega) (by omega);rw[←hor]at hz;have hz1:ordL l m=1:=by rw[hz];unfold cmpI;rw[if_neg (by omega),if_pos (by omega)]
     have hj2:m.length≤i:=by omega
     cases x with
     |
      mk k n d s zx lx=>
      simp only[enc]at hr hr';generalize lsV zx (encL lx)=X at hr hr';rcases hL' with hL'|⟨hL',hz'⟩
      ·subst hL';simp[hlen,h0,h1,h2,h11,h12,h13,hi,hj2,hq,hq',hr,hr',hz1]
      ·subst hL';obtain rfl:i=0:=by omega
       simp[hlen,h0,h1,h2,h11,h12,h13,hi,hj2,hq,hq',hr,hr',hz1]
   ·have hz:=ordLD_end l m i (by omega) (by omega) (by omega);rw[←hor]at hz;simp[hlen,h0,h1,h2,h11,h12,h13,hi,hq,hz];omega
  ·rintro o fr h hn ⟨hlen,⟨rfl,hlm,hz,h0,h1⟩|⟨rfl,h2⟩⟩
   ·simp only at hlen h0 h1;rw[hz];unfold cmpI;by_cases hc:(l.length:Int)<m.length
    ·rcases hL' with hL'|⟨hL',e'⟩
     ·subst hL';simp[hlen,h0,h1,hq,hq',show l.length<m.length by omega]
     ·omega
    ·rcases hL' with hL'|⟨hL',e'⟩
     ·subst hL';simp[hlen,h0,h1,hq,hq',show¬l.length<m.length by omega,show¬m.length<l.length by omega]
     ·subst hL';simp[hlen,h0,h1,hq,e',show l.length=0 by omega]
   ·simp only at h2;simp[h2]
 ·subst hL;have hl0:l=[]:=Zl hz;subst hl0;simp[Tryz.f75];refine loop_up (C:=cx) (G:=fun r=>∃h',finX _ (thenX _ _ (blockX _ r) _)=some (_,h'))
   (fun i s=>i=0∧s.1.length=39∧gt s.1 0= .sc (.slice none 0 0)∧gt s.1 1=L'∧gt s.1 12= .sc (.int .i64 0)∧gt s.1 13= .sc (.int .i64 0))
   (fun o s=>s.1.length=39∧o= .exit 0∧gt s.1 0= .sc (.slice none 0 0)∧gt s.1 1=L') 0 (by simp) (by simp) ?_ ?_
  ·rintro i fr h hle ⟨rfl,hlen,h0,h1,h12,h13⟩;simp only at hlen h0 h1 h12 h13;simp[hlen,h0,h1,h12,h13]
  ·rintro o fr h hn ⟨hlen,rfl,h0,h1⟩;simp only at hlen h0 h1;have hor:ordL [] m=if 0<m.length then-1 else 0:=by cases m<;>simp[ordL]
   rw[hor];rcases hL' with hL'|⟨hL',e'⟩
   ·subst hL';by_cases hm0:0<m.length
    ·simp[hlen,h0,h1,hq',hm0]
    ·simp[hlen,h0,h1,hq',hm0]
   ·subst hL';simp[hlen,h0,h1,e']
def C_Order (N:Nat)(v w:V):Prop:=∀b h,callN cx N b 39 [.ag (enc v),.ag (enc w)] h=some (.sc (.int .i64 (ordV v w)),h)
theorem val_lists_Order (N:Nat)(z z':Bool)(l m:List V)(hl:l.length≤1000000000000000)(hm:m.length≤1000000000000000)(ho:∀x∈l,∀y∈m,C_Order N x y)(b:Bool)(h:Hp):
 callN cx (N+1) b 75 [evL z l,evL z' m,.fn 39 []] h=some (.sc (.int .i64 (ordL l m)),h):=by
 have hc:[evL z l,evL z' m,.fn 39 []].all calm=true:=by rw[Zn,Zn,calm_evL,calm_evL];rfl
 refine pure_calm (r:= .sc (.int .i64 (ordL l m))) (n:=N) ⟨Tryz.f75.ntmps,(Tryz.f75.body).getD .skip,[.tmp 6]⟩ (by kernel_rfl) (by kernel_rfl) rfl (by kernel_rfl) (by simp[Tryz.f75]) hc rfl ?_ b h;clear hc;have hL:=evL_cases z l;have hL':=evL_cases z' m;generalize evL z l=L at hL;generalize evL z' m=L' at hL';have hq:=encL_length l;have hg:=encL_get l;have hq':=encL_length m;have hg':=encL_get m;generalize encL l=rows at hq hg hL;generalize encL m=rows' at hq' hg' hL';rcases hL with hL|⟨hL,hz⟩
 ·subst hL;simp[Tryz.f75,hq];refine loop_up (C:=cx) (G:=fun r=>∃h',finX _ (thenX _ _ (blockX _ r) _)=some (_,h'))
   (fun i s=>i≤m.length∧ordL l m=ordLD l m i∧s.1.length=39∧gt s.1 0= .ls 5 rows z∧gt s.1 1=L'∧gt s.1 2= .fn 39 []∧gt s.1 11= .ls 5 rows z∧gt s.1 12= .sc (.int .i64 l.length)∧gt s.1 13= .sc (.int .i64 i))
   (fun o s=>s.1.length=39∧((o= .exit 0∧l.length≤m.length∧ordL l m=cmpI l.length m.length∧gt s.1 0= .ls 5 rows z∧gt s.1 1=L')∨(o= .ret∧gt s.1 6= .sc (.int .i64 (ordL l m))))) l.length (by simp;omega) (by simp[ordLD_zero]) ?_ ?_
  ·rintro i fr h hle ⟨hle',hor,hlen,h0,h1,h2,h11,h12,h13⟩;simp only at hlen h0 h1 h2 h11 h12 h13;by_cases hi:i<l.length
   ·obtain⟨x,hx⟩:∃c,l[i]?=some c:=⟨_,Zb hi⟩;have hr:rows[i]?=some (enc x):=by rw[hg,hx];rfl
    have hr':∀k,rows[i]'k=enc x:=fun k=>by obtain⟨_,e⟩:=Za.1 hr;exact e
    by_cases hj:i<m.length
    ·rcases hL' with hL'|⟨hL',hz⟩
     ·subst hL';obtain⟨y,hy⟩:∃c,m[i]?=some c:=⟨_,Zb hj⟩;have hr2:rows'[i]?=some (enc y):=by rw[hg',hy];rfl
      have hr2':∀k,rows'[i]'k=enc y:=fun k=>by obtain⟨_,e⟩:=Za.1 hr2;exact e
      have hcall:=ho x (Zi hx) y (Zi hy);unfold C_Order at hcall;rw[ordLD_step hx hy]at hor;have hf:fitI .i64 ((i:Int)+1)=((i+1:Nat):Int):=fit_i64 (by omega) (by omega);have hj2:¬(m.length≤i):=by omega
      generalize ordV x y=c at hcall hor;cases x with
      |
       mk k n d s zx lx=>
       cases y with
       |
        mk k' n' d' s' zy ly=>
        simp only[enc]at hr hr' hr2 hr2' hcall;generalize lsV zx (encL lx)=X at hr hr' hcall;generalize lsV zy (encL ly)=Y at hr2 hr2' hcall;by_cases hc0:c=0
        ·subst hc0;rw[if_pos rfl]at hor;simp[hlen,h0,h1,h2,h11,h12,h13,hi,hj,hj2,hq,hq',hr,hr',hr2,hr2',hcall,hf];exact⟨by omega,hor⟩
        ·rw[if_neg hc0]at hor;simp[hlen,h0,h1,h2,h11,h12,h13,hi,hj,hj2,hq,hq',hr,hr',hr2,hr2',hcall,hc0,hor]
     ·omega
    ·have hz:=ordLD_end l m i (by omega) (by omega) (by omega);rw[←hor]at hz;have hz1:ordL l m=1:=by rw[hz];unfold cmpI;rw[if_neg (by omega),if_pos (by omega)]
     have hj2:m.length≤i:=by omega
     cases x with
     |
      mk k n d s zx lx=>
      simp only[enc]at hr hr';generalize lsV zx (encL lx)=X at hr hr';rcases hL' with hL'|⟨hL',hz'⟩
      ·subst hL';simp[hlen,h0,h1,h2,h11,h12,h13,hi,hj2,hq,hq',hr,hr',hz1]
      ·subst hL';obtain rfl:i=0:=by omega
       simp[hlen,h0,h1,h2,h11,h12,h13,hi,hj2,hq,hq',hr,hr',hz1]
   ·have hz:=ordLD_end l m i (by omega) (by omega) (by omega);rw[←hor]at hz;simp[hlen,h0,h1,h2,h11,h12,h13,hi,hq,hz];omega
  ·rintro o fr h hn ⟨hlen,⟨rfl,hlm,hz,h0,h1⟩|⟨rfl,h2⟩⟩
   ·simp only at hlen h0 h1;rw[hz];unfold cmpI;by_cases hc:(l.length:Int)<m.length
    ·rcases hL' with hL'|⟨hL',e'⟩
     ·subst hL';simp[hlen,h0,h1,hq,hq',show l.length<m.length by omega]
     ·omega
    ·rcases hL' with hL'|⟨hL',e'⟩
     ·subst hL';simp[hlen,h0,h1,hq,hq',show¬l.length<m.length by omega,show¬m.length<l.length by omega]
     ·subst hL';simp[hlen,h0,h1,hq,e',show l.length=0 by omega]
   ·simp only at h2;simp[h2]
 ·subst hL;have hl0:l=[]:=Zl hz;subst hl0;simp[Tryz.f75];refine loop_up (C:=cx) (G:=fun r=>∃h',finX _ (thenX _ _ (blockX _ r) _)=some (_,h'))
   (fun i s=>i=0∧s.1.length=39∧gt s.1 0= .sc (.slice none 0 0)∧gt s.1 1=L'∧gt s.1 12= .sc (.int .i64 0)∧gt s.1 13= .sc (.int .i64 0))
   (fun o s=>s.1.length=39∧o= .exit 0∧gt s.1 0= .sc (.slice none 0 0)∧gt s.1 1=L') 0 (by simp) (by simp) ?_ ?_
  ·rintro i fr h hle ⟨rfl,hlen,h0,h1,h12,h13⟩;simp only at hlen h0 h1 h12 h13;simp[hlen,h0,h1,h12,h13]
  ·rintro o fr h hn ⟨hlen,rfl,h0,h1⟩;simp only at hlen h0 h1;have hor:ordL [] m=if 0<m.length then-1 else 0:=by cases m<;>simp[ordL]
   rw[hor];rcases hL' with hL'|⟨hL',e'⟩
   ·subst hL';by_cases hm0:0<m.length
    ·simp[hlen,h0,h1,hq',hm0]
    ·simp[hlen,h0,h1,hq',hm0]
   ·subst hL';simp[hlen,h0,h1,e']
theorem val_order1 (M:Nat)(v w:V)(b:Bool)(h:Hp)(y1 y2 c0 g c1 c2 c3 N1 D1 N2 D2:Int)(B1 B2:Bool)
 (hk:∀b h,callN cx (M+1) b 132 [evV v] h=some (.sc (.int .i64 y1),h)) (hk':∀b h,callN cx (M+1) b 132 [evV w] h=some (.sc (.int .i64 y2),h))
 (hc:∀b h,callN cx (M+1) b 37 [.sc (.int .i64 y1),.sc (.int .i64 y2)] h=some (.sc (.int .i64 c0),h))
 (hnv:∀b h,callN cx (M+1) b 133 [evV v] h=some (.tp [frA N1 D1,.sc (.bool B1)],h)) (hnw:∀b h,callN cx (M+1) b 133 [evV w] h=some (.tp [frA N2 D2,.sc (.bool B2)],h))
 (hcm:∀b h,callN cx (M+1) b 134 [frA N1 D1,frA N2 D2] h=some (.sc (.int .i64 g),h))
 (hs:∀b h,callN cx (M+1) b 38 [.sc (.string v.s),.sc (.string w.s)] h=some (.sc (.int .i64 c1),h))
 (hn:∀b h,callN cx (M+1) b 37 [.sc (.int .i64 v.n),.sc (.int .i64 w.n)] h=some (.sc (.int .i64 c2),h))
 (hl:∀b h,callN cx (M+1) b 75 [evL v.isNil v.l,evL w.isNil w.l,.fn 74 []] h=some (.sc (.int .i64 c3),h)):
 callN cx (M+2) b 74 [evV v,evV w] h=some (.sc (.int .i64 (if c0=0 then(if y1=2 then g else orI [c1,c2,c3])else c0)),h):=by
 have hca:=calm_evV2 v w;refine pure_calm (r:= .sc (.int .i64 (if c0=0 then(if y1=2 then g else orI [c1,c2,c3])else c0))) (n:=M+1) ⟨Tryz.f74.ntmps,(Tryz.f74.body).getD .skip,[.tmp 4]⟩ (by kernel_rfl) (by kernel_rfl) rfl (by kernel_rfl) (by simp[Tryz.f74]) hca rfl ?_ b h;clear hca;cases v with
 |
  mk k n d s z l=>
  cases w with
  |
   mk k' n' d' s' z' l'=>
   simp only[V.k,V.n,V.s,V.l,V.isNil]at *;simp only[frA]at hnv hnw hcm;rw[evV_eq]at hk hnv⊢;rw[evV_eq]at hk' hnw⊢;have hL:(∃r,evL z l= .ls 5 r z)∨evL z l= .sc (.slice none 0 0):=(lsV_cases z l).elim (fun e=> .inr e.2) (fun e=> .inl ⟨_,e⟩);have hL':(∃r,evL z' l'= .ls 5 r z')∨evL z' l'= .sc (.slice none 0 0):=(lsV_cases z' l').elim (fun e=> .inr e.2) (fun e=> .inl ⟨_,e⟩);generalize evL z l=L at hk hnv hl hL;generalize evL z' l'=L' at hk' hnw hl hL';have hor:=fun b=>Or_own M b [.row [.sc (.int .i64 k),.sc (.int .i64 n),.sc (.int .i64 d),.sc (.string s),L],.row [.sc (.int .i64 k'),.sc (.int .i64 n'),.sc (.int .i64 d'),.sc (.string s'),L'],.row [.sc (.int .i64 c1),.sc (.int .i64 c2),.sc (.int .i64 c3)]] 2 3 [c1,c2,c3] rfl rfl (by simp)
   generalize orI [c1,c2,c3]=o at hor;by_cases h0:c0=0
   ·subst h0;by_cases h2:y1=2
    ·subst h2;simp[Tryz.f74,hk,hk',hc,hnv,hnw,hcm]
    ·rcases hL with⟨r,rfl⟩|rfl<;>rcases hL' with⟨r',rfl⟩|rfl<;>simp[Tryz.f74,hk,hk',hc,hs,hn,hl,hor,h2]
   ·simp[Tryz.f74,hk,hk',hc,h0]
theorem ok_parts {v:V}(h:okT v=true):0≤v.k∧v.k≤8∧(v.k=3∨v.d=0)∧(v.k=4∨v.s=⟨#[]⟩)∧(v.k=4→v.n=0)∧∀x∈v.l,okT x=true:=by
 cases v with
 |
  mk k n d s z l=>
  simp only[okT,V.k,V.n,V.d,V.s,V.l]at *;rw[okV]at h;simp only[Zh,Bool.or_eq_true,Zz]at h;obtain⟨⟨⟨hd,hs⟩,hl⟩,hk⟩:=h;have hs':k=4∨s=⟨#[]⟩:=hs.imp (fun h=>h) (eqS_iff s ⟨#[]⟩).1;have hP:∀(l:List V) (e:Bool),okP l e=true→∀x∈l,okV x 8=true:=by
   intro l
   induction l with
   |nil=>intro _ _ x hx;cases hx
   |
    cons y ys ih=>
    intro e he x hx;rw[okP]at he;simp only[Zh]at he;rcases List.mem_cons.1 hx with rfl|hx
    ·exact okV_mono (by omega) he.1.2
    ·exact ih _ he.2 x hx
  have hLs:∀(l:List V),l.isEmpty=true→∀x∈l,okV x 8=true:=fun l hl x hx=>by cases l<;>simp at hl;cases hx
  by_cases h0:k=0
  ·subst h0;exact⟨by omega,by omega,hd,hs',by omega,hLs l (by simpa using hl)⟩
  by_cases h1:k=1
  ·subst h1;exact⟨by omega,by omega,hd,hs',by omega,hLs l (by simpa using hl)⟩
  by_cases h2:k=2
  ·subst h2;exact⟨by omega,by omega,hd,hs',by omega,hLs l (by simpa using hl)⟩
  by_cases h3:k=3
  ·subst h3;exact⟨by omega,by omega,hd,hs',by omega,hLs l (by simpa using hl)⟩
  by_cases h4:k=4
  ·subst h4;simp at hk;exact⟨by omega,by omega,hd,hs',fun _=>hk.1.1,hLs l (by simpa using hl)⟩
  by_cases h5:k=5
  ·subst h5;exact⟨by omega,by omega,hd,hs',by omega,hLs l (by simpa using hl)⟩
  by_cases h6:k=6
  ·subst h6;exact⟨by omega,by omega,hd,hs',by omega,hLs l (by simpa using hl)⟩
  by_cases h7:k=7
  ·subst h7;simp at hk;exact⟨by omega,by omega,hd,hs',by omega,hP l _ hk.2⟩
  by_cases h8:k=8
  ·subst h8;simp at hk;refine⟨by omega,by omega,hd,hs',by omega,fun x hx=>?_⟩;have:=hk.2;rw[okL_iff,List.all_eq_true]at this;exact okV_mono (by omega) (this x hx)
  simp[h0,h1,h2,h3,h4,h5,h6,h7,h8]at hk
theorem cls_rank {k:Int}(h0:0≤k)(h8:k≤8):(k=0∧clsP k=0∧clsV k=0)∨(k=1∧clsP k=1∧clsV k=1)∨(k=2∧clsP k=2∧clsV k=2)∨(k=3∧clsP k=2∧clsV k=2)∨(k=4∧clsP k=4∧clsV k=3)∨(k=5∧clsP k=5∧clsV k=4)∨(k=6∧clsP k=6∧clsV k=5)∨(k=7∧clsP k=9∧clsV k=7)∨(k=8∧clsP k=8∧clsV k=6):=by
 have:k=0∨k=1∨k=2∨k=3∨k=4∨k=5∨k=6∨k=7∨k=8:=by omega
 rcases this with rfl|rfl|rfl|rfl|rfl|rfl|rfl|rfl|rfl<;>decide
theorem cmpI_eq_of {a b c d:Int}(h1:a<b↔c<d)(h2:b<a↔d<c):cmpI a b=cmpI c d:=by
 unfold cmpI;simp only[h1,h2]
theorem cls_cmp {v w:V}(hv:okT v=true)(hw:okT w=true):cmpI (clsP v.k) (clsP w.k)=cmpI (clsV v.k) (clsV w.k):=by
 obtain⟨a1,a2,_⟩:=ok_parts hv;obtain⟨b1,b2,_⟩:=ok_parts hw;have h1:=cls_rank a1 a2;have h2:=cls_rank b1 b2;generalize clsP v.k=p1 at *;generalize clsP w.k=p2 at *;generalize clsV v.k=q1 at *;generalize clsV w.k=q2 at *;exact cmpI_eq_of (by omega) (by omega)
theorem cls_two {v:V}(hv:okT v=true):clsP v.k=2↔v.k=2∨v.k=3:=by
 obtain⟨a1,a2,_⟩:=ok_parts hv;have h1:=cls_rank a1 a2;generalize clsP v.k=p1 at *;omega
theorem cmpI_self (x:Int):cmpI x x=0:=by unfold cmpI;rw[if_neg (by omega),if_neg (by omega)]
theorem cmpS_self (x:ByteArray):cmpS x x=0:=by unfold cmpS;rw[ltS_irrefl];rfl
theorem fld_short {v w:V}(hv:okT v=true)(hw:okT w=true)(hc:clsV v.k=clsV w.k)(hn:¬(v.k=2∨v.k=3)):fldV v w=orI [cmpS v.s w.s,cmpI v.n w.n,ordL v.l w.l]:=by
 obtain⟨a1,a2,a3,a4,a5,_⟩:=ok_parts hv;obtain⟨b1,b2,b3,b4,b5,_⟩:=ok_parts hw;have h1:=cls_rank a1 a2;have h2:=cls_rank b1 b2;have hk:v.k=w.k:=by
  generalize clsP v.k=p1 at *;generalize clsP w.k=p2 at *;generalize clsV v.k=q1 at *;generalize clsV w.k=q2 at *;omega
 have hd:v.d=w.d:=by
  have e1:v.d=0:=a3.resolve_left (by omega);have e2:w.d=0:=b3.resolve_left (by omega);rw[e1,e2]
 unfold fldV;rw[hk,hd,cmpI_self,cmpI_self];by_cases h4:v.k=4
 ·have e1:=a5 h4;have e2:=b5 (by omega);rw[e1,e2,cmpI_self];simp only[orI,if_true]
 ·have e1:v.s=⟨#[]⟩:=a4.resolve_left h4;have e2:w.s=⟨#[]⟩:=b4.resolve_left (by omega);rw[e1,e2,cmpS_self];simp only[orI,if_true]
theorem num_cmp {v w:V}(hv:okT v=true)(hw:okT w=true)(h1:v.k=2∨v.k=3)(h3:w.k=2∨w.k=3):cmpF (numN v) (numD v) (numN w) (numD w)=cmpF v.n (if v.k=2 then 1 else v.d) w.n (if w.k=2 then 1 else w.d):=by
 simp only[numN,numD,hv,hw,if_true];rcases h1 with e1|e1<;>rcases h3 with e3|e3<;>simp[e1,e3]
theorem ordV_eq' (v w:V):ordV v w=if okT v=okT w then(if okT w then(if cmpI (clsV v.k) (clsV w.k)=0 then(if v.k=2∨v.k=3 then cmpF v.n (if v.k=2 then 1 else v.d) w.n (if w.k=2 then 1 else w.d)else fldV v w)else cmpI (clsV v.k) (clsV w.k))else fldV v w)else if okT w then 1 else-1:=by
 cases v;rw[ordV];rfl
theorem C_order_all :∀(D:Nat) (v w:V),dep v≤D→dep w≤D→bdV v→bdV w→okT v=true→okT w=true→∀N,C_order (N+2*D+6) v w:=by
 intro D
 induction D with
 |zero=>intro v w h;have:=dep_pos v;omega
 |
  succ D ih=>
  intro v w dv dw bv bw ov ow N b h;obtain⟨_,_,_,_,_,vl⟩:=ok_parts ov;obtain⟨_,_,_,_,_,wl⟩:=ok_parts ow;have hl:=val_lists_order (N+2*D+6) v.isNil w.isNil v.l w.l (bdV_l bv).1 (bdV_l bw).1 (fun x hx y hy=>ih x y (dep_l dv x hx) (dep_l dw y hy) ((bdV_l bv).2 x hx) ((bdV_l bw).2 y hy) (vl x hx) (wl y hy) N);have nv:=fun b h=>val_Number N (D+1) v dv bv b h
  have nw:=fun b h=>val_Number N (D+1) w dw bw b h
  rw[show N+2*(D+1)+5=N+2*D+6+1 by omega]at nv nw;have:=val_order1 (N+2*D+6) v w b h _ _ _ _ _ _ _ _ _ _ _ _ _ (fun b h=>val_class _ b v h) (fun b h=>val_class _ b w h) (fun b h=>Compare_int (N+2*D+5) b _ _ h) nv nw
   (fun b h=>frac_Cmp (N+2*D+3) b _ _ _ _ h) (fun b h=>Compare_str (N+2*D+5) b _ _ h) (fun b h=>Compare_int (N+2*D+5) b _ _ h) hl
  rw[show N+2*(D+1)+6=N+2*D+6+2 by omega];simp only[evV]at this;rw[this,ordV_eq' v w,ov,ow];simp only[if_true,cls_cmp ov ow,cls_two ov];by_cases h0:cmpI (clsV v.k) (clsV w.k)=0
  ·simp only[h0,if_true];have hcl:=h0;unfold cmpI at hcl;have hcl':clsV v.k=clsV w.k:=by(repeat' split at hcl)<;>omega
   by_cases h1:v.k=2∨v.k=3
   ·have h3:w.k=2∨w.k=3:=by
     obtain⟨b1,b2,_⟩:=ok_parts ow;obtain⟨a1,a2,_⟩:=ok_parts ov;have r1:=cls_rank a1 a2;have r2:=cls_rank b1 b2;generalize clsP v.k=p1 at *;generalize clsP w.k=p2 at *;generalize clsV v.k=q1 at *;generalize clsV w.k=q2 at *;omega
    simp only[h1,if_true,num_cmp ov ow h1 h3]
   ·simp only[h1,if_false,fld_short ov ow hcl' h1]
  ·simp only[h0,if_false]
end
structure Cmp3 {α:Type}(P:α→Prop)(f:α→α→Int):Prop where
 neg:∀a b,P a→P b→f a b= -(f b a)
 tr:∀a b c,P a→P b→P c→f a b≤0→f b c≤0→f a c≤0
def lexI {α:Type}(f g:α→α→Int)(a b:α):Int:=if f a b=0 then g a b else f a b
theorem Cmp3.zeros {α:Type}{P:α→Prop}{f:α→α→Int}(hf:Cmp3 P f){a b c:α}(ha:P a)(hb:P b)(hc:P c)(h1:f a b≤0)(h2:f b c≤0):f a c<0∨f a c=0∧f a b=0∧f b c=0:=by
 have h3:=hf.tr a b c ha hb hc h1 h2;by_cases e:f a c=0
 ·right;have e1:=hf.neg c a hc ha;have e2:=hf.tr b c a hb hc ha h2 (by omega);have e3:=hf.tr c a b hc ha hb (by omega) h1;have e4:=hf.neg a b ha hb;have e5:=hf.neg b c hb hc;omega
 ·left;omega
theorem lex_le {f g:Int}(h:(if f=0 then g else f)≤0):f≤0∧(f=0→g≤0):=by
 by_cases e:f=0
 ·rw[if_pos e]at h;exact⟨by omega,fun _=>h⟩
 ·rw[if_neg e]at h;exact⟨h,fun q=>absurd q e⟩
theorem Cmp3.lex {α:Type}{P:α→Prop}{f g:α→α→Int}(hf:Cmp3 P f)(hgn:∀a b,P a→P b→f a b=0→g a b= -(g b a))
 (hg:∀a b c,P a→P b→P c→f a b=0→f b c=0→f a c=0→g a b≤0→g b c≤0→g a c≤0):Cmp3 P (lexI f g):={
 neg:=fun a b ha hb=>by
  have e:=hf.neg a b ha hb;unfold lexI;by_cases h:f a b=0
  ·rw[if_pos h,if_pos (by omega)];exact hgn a b ha hb h
  ·rw[if_neg h,if_neg (by omega)];exact e
 tr:=fun a b c ha hb hc h1 h2=>by
  unfold lexI at *;obtain⟨a1,a2⟩:=lex_le h1;obtain⟨b1,b2⟩:=lex_le h2;rcases hf.zeros ha hb hc a1 b1 with h|⟨h,h',h''⟩
  ·rw[if_neg (by omega)];omega
  ·rw[if_pos h];exact hg a b c ha hb hc h' h'' h (a2 h') (b2 h'')}
theorem Cmp3.lex' {α:Type}{P:α→Prop}{f g:α→α→Int}(hf:Cmp3 P f)(hg:Cmp3 P g):Cmp3 P (lexI f g):=
 hf.lex (fun a b ha hb _=>hg.neg a b ha hb) fun a b c ha hb hc _ _ _=>hg.tr a b c ha hb hc
theorem Cmp3.map {α β:Type}{P:α→Prop}{Q:β→Prop}{f:β→β→Int}(hf:Cmp3 Q f)(k:α→β)(h:∀a,P a→Q (k a)):Cmp3 P (fun a b=>f (k a) (k b)):=
 ⟨fun a b ha hb=>hf.neg _ _ (h a ha) (h b hb),fun a b c ha hb hc=>hf.tr _ _ _ (h a ha) (h b hb) (h c hc)⟩
theorem Cmp3.anti {α:Type}{P Q:α→Prop}{f:α→α→Int}(hf:Cmp3 Q f)(h:∀a,P a→Q a):Cmp3 P f:=hf.map (fun a=>a) h
theorem cmpI_zero {x y:Int}:cmpI x y=0↔x=y:=by unfold cmpI;(repeat' split)<;>omega
theorem cmpI_3 (P:Int→Prop):Cmp3 P cmpI:=
 ⟨fun a b _ _=>by unfold cmpI;(repeat' split)<;>omega,fun a b c _ _ _=>by unfold cmpI;(repeat' split)<;>omega⟩
theorem cmpS_zero {x y:ByteArray}:cmpS x y=0↔x=y:=by
 constructor
 ·intro h;unfold cmpS at h;cases h1:ltS x y with
  |true=>rw[h1]at h;cases h
  |
   false=>
   cases h2:eqS x y with
   |true=>exact(eqS_iff x y).1 h2
   |false=>rw[h1,ltS_total h1 h2]at h;cases h
 ·rintro rfl;simp[cmpS,ltS_irrefl]
theorem cmpS_cases (x y:ByteArray):(cmpS x y= -1∧ltS x y=true)∨(cmpS x y=0∧x=y)∨(cmpS x y=1∧ltS y x=true):=by
 cases h1:ltS x y with
 |true=>left;simp[cmpS,h1]
 |
  false=>
  cases h2:eqS x y with
  |true=>right;left;exact⟨cmpS_zero.2 ((eqS_iff x y).1 h2),(eqS_iff x y).1 h2⟩
  |false=>right;right;have:=ltS_total h1 h2;simp[cmpS,h1,this]
theorem cmpS_3 (P:ByteArray→Prop):Cmp3 P cmpS:=by
 refine⟨fun a b _ _=>?_,fun a b c _ _ _ h1 h2=>?_⟩
 ·rcases cmpS_cases a b with⟨e,h⟩|⟨e,rfl⟩|⟨e,h⟩
  ·have h':=ltS_asymm h;rw[e];simp[cmpS,h,h']
  ·rw[e];rfl
  ·rw[e];simp[cmpS,h]
 ·rcases cmpS_cases a b with⟨e,h⟩|⟨e,rfl⟩|⟨e,h⟩
  ·rcases cmpS_cases b c with⟨e',h'⟩|⟨e',rfl⟩|⟨e',h'⟩
   ·have:=ltS_trans h h';simp[cmpS,this]
   ·omega
   ·omega
  ·exact h2
  ·omega
theorem sgnI_neg (x:Int):sgnI (-x)= -(sgnI x):=by unfold sgnI;(repeat' split)<;>omega
theorem sgnI_le {x:Int}:sgnI x≤0↔x≤0:=by unfold sgnI;(repeat' split)<;>omega
theorem frac_3 :Cmp3 (fun q:Int × Int=>0<q.2) (fun p q=>sgnI (p.1*q.2-q.1*p.2)):=by
 refine⟨fun a b _ _=>?_,fun a b c ha hb hc h1 h2=>?_⟩
 ·rw[←sgnI_neg];congr 1;omega
 ·rw[sgnI_le]at *;have e1:a.1*b.2*c.2≤b.1*a.2*c.2:=Int.mul_le_mul_of_nonneg_right (by omega) (by omega);have e2:b.1*c.2*a.2≤c.1*b.2*a.2:=Int.mul_le_mul_of_nonneg_right (by omega) (by omega);have e3:b.1*a.2*c.2=b.1*c.2*a.2:=by rw[Int.mul_assoc,Int.mul_assoc,Int.mul_comm a.2]
  have e4:a.1*b.2*c.2=a.1*c.2*b.2:=by rw[Int.mul_assoc,Int.mul_assoc,Int.mul_comm b.2]
  have e5:c.1*b.2*a.2=c.1*a.2*b.2:=by rw[Int.mul_assoc,Int.mul_assoc,Int.mul_comm b.2]
  have e6:a.1*c.2*b.2≤c.1*a.2*b.2:=by omega
  have:=Int.le_of_mul_le_mul_right e6 hb;omega
theorem ordL_3 {P:V→Prop}(hf:Cmp3 P ordV):Cmp3 (fun l:List V=>∀x∈l,P x) ordL:=by
 have key:∀(a b:List V),(∀x∈a,P x)→(∀x∈b,P x)→ordL a b= -(ordL b a):=by
  intro a
  induction a with
  |nil=>intro b _ _;cases b<;>simp[ordL]
  |
   cons x xs ih=>
   intro b ha hb;cases b with
   |nil=>simp[ordL]
   |
    cons y ys=>
    have e:=hf.neg x y (ha x (by simp)) (hb y (by simp));simp only[ordL];by_cases h:ordV x y=0
    ·rw[if_pos h,if_pos (by omega)];exact ih ys (fun z hz=>ha z (by simp[hz])) (fun z hz=>hb z (by simp[hz]))
    ·rw[if_neg h,if_neg (by omega)];exact e
 refine⟨fun a b ha hb=>key a b ha hb,fun a=>?_⟩
 induction a with
 |
  nil=>
  intro b c _ _ _ _ _;cases c<;>simp[ordL]
 |
  cons x xs ih=>
  intro b c ha hb hc h1 h2;cases b with
  |nil=>simp[ordL]at h1
  |
   cons y ys=>
   cases c with
   |nil=>simp[ordL]at h2
   |
    cons z zs=>
    simp only[ordL]at h1 h2⊢;obtain⟨a1,a2⟩:=lex_le h1;obtain⟨b1,b2⟩:=lex_le h2;rcases hf.zeros (ha x (by simp)) (hb y (by simp)) (hc z (by simp)) a1 b1 with h|⟨h,h',h''⟩
    ·rw[if_neg (by omega)];omega
    ·rw[if_pos h];exact ih ys zs (fun q hq=>ha q (by simp[hq])) (fun q hq=>hb q (by simp[hq])) (fun q hq=>hc q (by simp[hq])) (a2 h') (b2 h'')
def rnk (v:V):Int:=if okT v then clsV v.k else 100
def nmV (v:V):Int × Int:=(nrmN v.n (if v.k=2 then 1 else v.d),nrmD v.n (if v.k=2 then 1 else v.d))
theorem clsV_bd (k:Int):0≤clsV k∧clsV k≤7:=by unfold clsV;(repeat' split)<;>omega
theorem clsV_two {k:Int}:clsV k=2↔k=2∨k=3:=by unfold clsV;(repeat' split)<;>omega
theorem ordV_eq (v w:V):ordV v w=if okT v=okT w then(if okT w then(if cmpI (clsV v.k) (clsV w.k)=0 then(if v.k=2∨v.k=3 then cmpF v.n (if v.k=2 then 1 else v.d) w.n (if w.k=2 then 1 else w.d)else fldV v w)else cmpI (clsV v.k) (clsV w.k))else fldV v w)else if okT w then 1 else-1:=by
 cases v;rw[ordV];rfl
theorem ordV_lex (v w:V):ordV v w=lexI (fun v w=>cmpI (rnk v) (rnk w)) (fun v w=>if rnk v=2 then sgnI ((nmV v).1*(nmV w).2-(nmV w).1*(nmV v).2)else fldV v w) v w:=by
 have rt:∀v,okT v=true→rnk v=clsV v.k:=fun v h=>if_pos h
 have rf:∀v,okT v=false→rnk v=100:=fun v h=>if_neg (by rw[h];simp)
 rw[ordV_eq];unfold lexI;dsimp only;have h1:=clsV_bd v.k;have h2:=clsV_bd w.k;have h3:=clsV_two (k:=v.k);cases hv:okT v<;>cases hw:okT w
 ·simp only[rf v hv,rf w hw,cmpI_zero.2 rfl,if_true,Yl,if_false];rw[if_neg (by omega)]
 ·simp only[rf v hv,rt w hw,Yl,if_false,if_true];rw[if_neg (by rw[cmpI_zero];omega)];unfold cmpI;rw[if_neg (by omega),if_pos (by omega)]
 ·simp only[rt v hv,rf w hw,Bool.true_eq_false,Yl,if_false];rw[if_neg (by rw[cmpI_zero];omega)];unfold cmpI;rw[if_pos (by omega)]
 ·simp only[rt v hv,rt w hw,if_true,h3,cmpF,nmV]
theorem fldV_lex (v w:V):fldV v w=lexI (fun v w=>cmpI v.k w.k) (lexI (fun v w=>cmpI v.n w.n) (lexI (fun v w=>cmpI v.d w.d) (lexI (fun v w=>cmpS v.s w.s) (fun v w=>ordL v.l w.l)))) v w:=by
 simp only[fldV,orI,lexI]
 (repeat' split)<;>simp_all
theorem ordV_3 :∀D,Cmp3 (fun v=>dep v≤D) ordV:=by
 intro D
 induction D with
 |zero=>exact⟨fun a _ h=>by have:=dep_pos a;omega,fun a _ _ h=>by have:=dep_pos a;omega⟩
 |
  succ D ih=>
  have hL:Cmp3 (fun v:V=>dep v≤D+1) (fun v w=>ordL v.l w.l):=(ordL_3 ih).map V.l fun v hv=>dep_l hv
  have hF:Cmp3 (fun v:V=>dep v≤D+1) fldV:=by
   have e:fldV=lexI (fun v w=>cmpI v.k w.k) (lexI (fun v w=>cmpI v.n w.n) (lexI (fun v w=>cmpI v.d w.d) (lexI (fun v w=>cmpS v.s w.s) (fun v w=>ordL v.l w.l)))):=funext fun v=>funext fun w=>fldV_lex v w
   rw[e];exact((cmpI_3 fun _=>True).map V.k fun _ _=>trivial).lex' (((cmpI_3 fun _=>True).map V.n fun _ _=>trivial).lex' (((cmpI_3 fun _=>True).map V.d fun _ _=>trivial).lex' (((cmpS_3 fun _=>True).map V.s fun _ _=>trivial).lex' hL)))
  have hN:Cmp3 (fun v:V=>dep v≤D+1) (fun v w=>sgnI ((nmV v).1*(nmV w).2-(nmV w).1*(nmV v).2)):=frac_3.map nmV fun v _=>(nrm_ok _ _).2.2
  have e:ordV=lexI (fun v w=>cmpI (rnk v) (rnk w)) (fun v w=>if rnk v=2 then sgnI ((nmV v).1*(nmV w).2-(nmV w).1*(nmV v).2)else fldV v w):=funext fun v=>funext fun w=>ordV_lex v w
  rw[e];refine((cmpI_3 fun _=>True).map rnk fun _ _=>trivial).lex (fun a b ha hb h=>?_) fun a b c ha hb hc h1 h2 h3 k1 k2=>?_
  ·rw[cmpI_zero]at h;simp only[←h];by_cases q:rnk a=2
   ·rw[if_pos q,if_pos q];exact hN.neg a b ha hb
   ·rw[if_neg q,if_neg q];exact hF.neg a b ha hb
  ·rw[cmpI_zero]at h1 h3;simp only[←h1]at k2;by_cases q:rnk a=2
   ·rw[if_pos q]at k1 k2⊢;exact hN.tr a b c ha hb hc k1 k2
   ·rw[if_neg q]at k1 k2⊢;exact hF.tr a b c ha hb hc k1 k2
theorem ordV_neg (v w:V):ordV v w= -(ordV w v):=(ordV_3 (dep v+dep w)).neg v w (by show dep v≤_;omega) (by show dep w≤_;omega)
theorem ordV_tr (u v w:V)(h1:ordV u v≤0)(h2:ordV v w≤0):ordV u w≤0:=
 (ordV_3 (dep u+dep v+dep w)).tr u v w (by show dep u≤_;omega) (by show dep v≤_;omega) (by show dep w≤_;omega) h1 h2
theorem ordV_all :Cmp3 (fun _:V=>True) ordV:=⟨fun a b _ _=>ordV_neg a b,fun a b c _ _ _=>ordV_tr a b c⟩
structure Pr where
 k:Int
 n:ByteArray
 y:ByteArray
 v:V
def ordP (a b:Pr):Int:=orI [cmpI a.k b.k,cmpS a.n b.n,cmpS a.y b.y,ordV a.v b.v]
theorem ordP_lex (a b:Pr):ordP a b=lexI (fun a b=>cmpI a.k b.k) (lexI (fun a b=>cmpS a.n b.n) (lexI (fun a b=>cmpS a.y b.y) (fun a b=>ordV a.v b.v))) a b:=by
 simp only[ordP,orI,lexI]
 (repeat' split)<;>simp_all
theorem ordP_all :Cmp3 (fun _:Pr=>True) ordP:=by
 have e:ordP=lexI (fun a b=>cmpI a.k b.k) (lexI (fun a b=>cmpS a.n b.n) (lexI (fun a b=>cmpS a.y b.y) (fun a b=>ordV a.v b.v))):=funext fun v=>funext fun w=>ordP_lex v w
 rw[e];exact((cmpI_3 fun _=>True).map Pr.k fun _ _=>trivial).lex' (((cmpS_3 fun _=>True).map Pr.n fun _ _=>trivial).lex' (((cmpS_3 fun _=>True).map Pr.y fun _ _=>trivial).lex' (ordV_all.map Pr.v fun _ _=>trivial)))
theorem ordP_neg (a b:Pr):ordP a b= -(ordP b a):=ordP_all.neg a b trivial trivial
theorem ordP_tr (a b c:Pr)(h1:ordP a b≤0)(h2:ordP b c≤0):ordP a c≤0:=ordP_all.tr a b c trivial trivial trivial h1 h2
end Go.Proofs.YtmocfjnklfpnbaaGreatDoor
