/- Contracts: lists of values compared by a function; the first that is not zero. -/
import Derived.Test.YtiefabpageilbaaGreatDoorP22
set_option linter.all false
set_option maxRecDepth 100000
namespace Go.Proofs.YtiefabpageilbaaGreatDoor
open Go Go.Ae
section
attribute [local simp] aop aopW coldF extF putA ofConst flat scalarOp fastOp binFast intOp strOp guardX Ae.part rowOf szOk natOf lenA cls fillA splice newsOf isNilC cellX
set_option maxHeartbeats 8000000
theorem call_snap {f:FuncId}{args ys:List AV}{n:Nat}{r:AV}{b:Bool}{h:Hp}(hs:cx.srt f=none)(hi:cx.inl f=false)(ha:args.mapM (snap h 8)=some ys)(hc:ys.all calm=true)(hr:scalarRes r=true)(hcall:callN cx (n+1) b f ys h=some (r,h)):callN cx (n+1) b f args h=some (r,h):=by
 have e:ys.mapM (snap h 8)=some ys:=mapM_calm (n:=6) hc;simp only[callN,hs,hi,Yg,if_false,e,hc,Bool.true_or,if_true,ha]at hcall⊢;split at hcall
 ·rename_i r0 h0;simp only[Zc,Zg,and_true]at hcall;subst hcall;simp only[hr,Bool.or_true,if_true]
 ·cases hcall
theorem snap_ints {h:Hp}{id:Nat}{xs:List Int}(hx:h[id]?=some (.row (xs.map fun x=> .sc (.int .i64 x)))):snap h 8 (.sl id 1 0 xs.length false)=some (.ls 1 (xs.map fun x=> [.sc (.int .i64 x)]) false):=by
 have e:∀l:List Int,(l.map fun x=>AV.sc (.int .i64 x)).mapM (snap h 7)=some (l.map fun x=>AV.sc (.int .i64 x)):=by
  intro l
  induction l with
  |nil=>rfl
  |cons x l ih=>rw[List.map_cons,Zo,ih];rfl
 have e2:((xs.map fun x=>AV.sc (.int .i64 x)).drop 0).take (xs.length*1)=xs.map fun x=>AV.sc (.int .i64 x):=by
  rw[List.drop_zero,List.take_of_length_le (by simp)]
 have e3:0+xs.length*1≤(xs.map fun x=>AV.sc (.int .i64 x)).length:=by simp
 simp only[snap,rowOf,hx,e3,if_true,e2,e,Option.map_some,Zc,AV.ls.injEq,true_and,and_true];apply List.ext_getElem?;intro i;by_cases hi:i<xs.length
 ·simp only[Zs,List.getElem?_range hi,Zb hi,Option.map_some,Nat.mul_one];rw[Zm (by simpa using hi)];simp
 ·simp[hi]
theorem Or_own (n:Nat)(b:Bool)(h:Hp)(id k:Nat)(xs:List Int)(hk:k=xs.length)(hx:h[id]?=some (.row (xs.map fun x=> .sc (.int .i64 x))))(hl:xs.length≤1000000):callN cx (n+1) b 102 [.sl id 1 0 k false] h=some (.sc (.int .i64 (orI xs)),h):=by
 subst hk;refine call_snap (ys:=[.ls 1 (xs.map fun x=> [.sc (.int .i64 x)]) false]) rfl (by kernel_rfl) ?_ rfl rfl (Or_int n b xs false h hl);rw[Zo,snap_ints hx];rfl
def C_order (N:Nat)(v w:V):Prop:=∀b h,callN cx N b 101 [.ag (enc v),.ag (enc w)] h=some (.sc (.int .i64 (ordV v w)),h)
theorem val_lists_order (N:Nat)(z z':Bool)(l m:List V)(hl:l.length≤1000000000000000)(hm:m.length≤1000000000000000)(ho:∀x∈l,∀y∈m,C_order N x y)(b:Bool)(h:Hp):
 callN cx (N+1) b 104 [evL z l,evL z' m,.fn 101 []] h=some (.sc (.int .i64 (ordL l m)),h):=by
 have hc:[evL z l,evL z' m,.fn 101 []].all calm=true:=by rw[Zn,Zn,calm_evL,calm_evL];rfl
 refine pure_calm (r:= .sc (.int .i64 (ordL l m))) (n:=N) ⟨Tryz.f104.ntmps,(Tryz.f104.body).getD .skip,[.tmp 6]⟩ (by kernel_rfl) (by kernel_rfl) rfl (by kernel_rfl) (by simp[Tryz.f104]) hc rfl ?_ b h;clear hc;have hL:=evL_cases z l;have hL':=evL_cases z' m;generalize evL z l=L at hL;generalize evL z' m=L' at hL';have hq:=encL_length l;have hg:=encL_get l;have hq':=encL_length m;have hg':=encL_get m;generalize encL l=rows at hq hg hL;generalize encL m=rows' at hq' hg' hL';rcases hL with hL|⟨hL,hz⟩
 ·subst hL;simp[Tryz.f104,hq];refine loop_up (C:=cx) (G:=fun r=>∃h',finX _ (thenX _ _ (blockX _ r) _)=some (_,h'))
   (fun i s=>i≤m.length∧ordL l m=ordLD l m i∧s.1.length=39∧gt s.1 0= .ls 5 rows z∧gt s.1 1=L'∧gt s.1 2= .fn 101 []∧gt s.1 11= .ls 5 rows z∧gt s.1 12= .sc (.int .i64 l.length)∧gt s.1 13= .sc (.int .i64 i))
   (fun o s=>s.1.length=39∧((o= .exit 0∧l.length≤m.length∧ordL l m=cmpI l.length m.length∧gt s.1 0= .ls 5 rows z∧gt s.1 1=L')∨(o= .ret∧gt s.1 6= .sc (.int .i64 (ordL l m))))) l.length (by simp;omega) (by simp[ordLD_zero]) ?_ ?_
  ·rintro i fr h hle ⟨hle',hor,hlen,h0,h1,h2,h11,h12,h13⟩;simp only at hlen h0 h1 h2 h11 h12 h13;by_cases hi:i<l.length
   ·obtain⟨x,hx⟩:∃c,l[i]?=some c:=⟨_,Zb hi⟩;have hr:rows[i]?=some (enc x):=by rw[hg,hx];rfl
    have hr':∀k,rows[i]'k=enc x:=fun k=>by obtain⟨_,e⟩:=Za.1 hr;exact e
    by_cases hj:i<m.length
    ·rcases hL' with hL'|⟨hL',hz⟩
     ·subst hL';obtain⟨y,hy⟩:∃c,m[i]?=some c:=⟨_,Zb hj⟩;have hr2:rows'[i]?=some (enc y):=by rw[hg',hy];rfl
      have hr2':∀k,rows'[i]'k=enc y:=fun k=>by obtain⟨_,e⟩:=Za.1 hr2;exact e
      have hcall:=ho x (Zi hx) y (Zi hy);unfold C_order at hcall;rw[ordLD_step hx hy]at hor;have hf:fitI .i64 ((i:Int)+1)=((i+1:Nat):Int):=fit_i64 (by omega) (by omega);have hj2:¬(m.length≤i):=by omega
      generalize ordV x y=c at hcall hor;cases x with
      |
       mk k n d s zx lx=>
       cases y with
       |
        mk k' n' d' s' zy ly=>
        simp only[enc]at hr hr' hr2 hr2' hcall;generalize lsV zx (encL lx)=X at hr hr' hcall;generalize lsV zy (encL ly)=Y at hr2 hr2' hcall;by_cases hc0:c=0
        ·subst hc0;rw[if_pos rfl]at hor;simp[hlen,h0,h1,h2,h11,h12,h13,hi,hj,hj2,hq,hq',hr,hr',hr2,hr2',hcall,hf];exact⟨by omega,hor⟩
        ·rw[if_neg hc0]at hor;simp[hlen,h0,h1,h2,h11,h12,h13,hi,hj,hj2,hq,hq',hr,hr',hr2,hr2',hcall,hc0,hor]
     ·omega
    ·have hz:=ordLD_end l m i (by omega) (by omega) (by omega);rw[←hor]at hz;have hz1:ordL l m=1:=by rw[hz];unfold cmpI;rw[if_neg (by omega),if_pos (by omega)]
     have hj2:m.length≤i:=by omega
     cases x with
     |
      mk k n d s zx lx=>
      simp only[enc]at hr hr';generalize lsV zx (encL lx)=X at hr hr';rcases hL' with hL'|⟨hL',hz'⟩
      ·subst hL';simp[hlen,h0,h1,h2,h11,h12,h13,hi,hj2,hq,hq',hr,hr',hz1]
      ·subst hL';obtain rfl:i=0:=by omega
       simp[hlen,h0,h1,h2,h11,h12,h13,hi,hj2,hq,hq',hr,hr',hz1]
   ·have hz:=ordLD_end l m i (by omega) (by omega) (by omega);rw[←hor]at hz;simp[hlen,h0,h1,h2,h11,h12,h13,hi,hq,hz];omega
  ·rintro o fr h hn ⟨hlen,⟨rfl,hlm,hz,h0,h1⟩|⟨rfl,h2⟩⟩
   ·simp only at hlen h0 h1;rw[hz];unfold cmpI;by_cases hc:(l.length:Int)<m.length
    ·rcases hL' with hL'|⟨hL',e'⟩
     ·subst hL';simp[hlen,h0,h1,hq,hq',show l.length<m.length by omega]
     ·omega
    ·rcases hL' with hL'|⟨hL',e'⟩
     ·subst hL';simp[hlen,h0,h1,hq,hq',show¬l.length<m.length by omega,show¬m.length<l.length by omega]
     ·subst hL';simp[hlen,h0,h1,hq,e',show l.length=0 by omega]
   ·simp only at h2;simp[h2]
 ·subst hL;have hl0:l=[]:=Zl hz;subst hl0;simp[Tryz.f104];refine loop_up (C:=cx) (G:=fun r=>∃h',finX _ (thenX _ _ (blockX _ r) _)=some (_,h'))
   (fun i s=>i=0∧s.1.length=39∧gt s.1 0= .sc (.slice none 0 0)∧gt s.1 1=L'∧gt s.1 12= .sc (.int .i64 0)∧gt s.1 13= .sc (.int .i64 0))
   (fun o s=>s.1.length=39∧o= .exit 0∧gt s.1 0= .sc (.slice none 0 0)∧gt s.1 1=L') 0 (by simp) (by simp) ?_ ?_
  ·rintro i fr h hle ⟨rfl,hlen,h0,h1,h12,h13⟩;simp only at hlen h0 h1 h12 h13;simp[hlen,h0,h1,h12,h13]
  ·rintro o fr h hn ⟨hlen,rfl,h0,h1⟩;simp only at hlen h0 h1;have hor:ordL [] m=if 0<m.length then-1 else 0:=by cases m<;>simp[ordL]
   rw[hor];rcases hL' with hL'|⟨hL',e'⟩
   ·subst hL';by_cases hm0:0<m.length
    ·simp[hlen,h0,h1,hq',hm0]
    ·simp[hlen,h0,h1,hq',hm0]
   ·subst hL';simp[hlen,h0,h1,e']
def C_Order (N:Nat)(v w:V):Prop:=∀b h,callN cx N b 59 [.ag (enc v),.ag (enc w)] h=some (.sc (.int .i64 (ordV v w)),h)
theorem val_lists_Order (N:Nat)(z z':Bool)(l m:List V)(hl:l.length≤1000000000000000)(hm:m.length≤1000000000000000)(ho:∀x∈l,∀y∈m,C_Order N x y)(b:Bool)(h:Hp):
 callN cx (N+1) b 104 [evL z l,evL z' m,.fn 59 []] h=some (.sc (.int .i64 (ordL l m)),h):=by
 have hc:[evL z l,evL z' m,.fn 59 []].all calm=true:=by rw[Zn,Zn,calm_evL,calm_evL];rfl
 refine pure_calm (r:= .sc (.int .i64 (ordL l m))) (n:=N) ⟨Tryz.f104.ntmps,(Tryz.f104.body).getD .skip,[.tmp 6]⟩ (by kernel_rfl) (by kernel_rfl) rfl (by kernel_rfl) (by simp[Tryz.f104]) hc rfl ?_ b h;clear hc;have hL:=evL_cases z l;have hL':=evL_cases z' m;generalize evL z l=L at hL;generalize evL z' m=L' at hL';have hq:=encL_length l;have hg:=encL_get l;have hq':=encL_length m;have hg':=encL_get m;generalize encL l=rows at hq hg hL;generalize encL m=rows' at hq' hg' hL';rcases hL with hL|⟨hL,hz⟩
 ·subst hL;simp[Tryz.f104,hq];refine loop_up (C:=cx) (G:=fun r=>∃h',finX _ (thenX _ _ (blockX _ r) _)=some (_,h'))
   (fun i s=>i≤m.length∧ordL l m=ordLD l m i∧s.1.length=39∧gt s.1 0= .ls 5 rows z∧gt s.1 1=L'∧gt s.1 2= .fn 59 []∧gt s.1 11= .ls 5 rows z∧gt s.1 12= .sc (.int .i64 l.length)∧gt s.1 13= .sc (.int .i64 i))
   (fun o s=>s.1.length=39∧((o= .exit 0∧l.length≤m.length∧ordL l m=cmpI l.length m.length∧gt s.1 0= .ls 5 rows z∧gt s.1 1=L')∨(o= .ret∧gt s.1 6= .sc (.int .i64 (ordL l m))))) l.length (by simp;omega) (by simp[ordLD_zero]) ?_ ?_
  ·rintro i fr h hle ⟨hle',hor,hlen,h0,h1,h2,h11,h12,h13⟩;simp only at hlen h0 h1 h2 h11 h12 h13;by_cases hi:i<l.length
   ·obtain⟨x,hx⟩:∃c,l[i]?=some c:=⟨_,Zb hi⟩;have hr:rows[i]?=some (enc x):=by rw[hg,hx];rfl
    have hr':∀k,rows[i]'k=enc x:=fun k=>by obtain⟨_,e⟩:=Za.1 hr;exact e
    by_cases hj:i<m.length
    ·rcases hL' with hL'|⟨hL',hz⟩
     ·subst hL';obtain⟨y,hy⟩:∃c,m[i]?=some c:=⟨_,Zb hj⟩;have hr2:rows'[i]?=some (enc y):=by rw[hg',hy];rfl
      have hr2':∀k,rows'[i]'k=enc y:=fun k=>by obtain⟨_,e⟩:=Za.1 hr2;exact e
      have hcall:=ho x (Zi hx) y (Zi hy);unfold C_Order at hcall;rw[ordLD_step hx hy]at hor;have hf:fitI .i64 ((i:Int)+1)=((i+1:Nat):Int):=fit_i64 (by omega) (by omega);have hj2:¬(m.length≤i):=by omega
      generalize ordV x y=c at hcall hor;cases x with
      |
       mk k n d s zx lx=>
       cases y with
       |
        mk k' n' d' s' zy ly=>
        simp only[enc]at hr hr' hr2 hr2' hcall;generalize lsV zx (encL lx)=X at hr hr' hcall;generalize lsV zy (encL ly)=Y at hr2 hr2' hcall;by_cases hc0:c=0
        ·subst hc0;rw[if_pos rfl]at hor;simp[hlen,h0,h1,h2,h11,h12,h13,hi,hj,hj2,hq,hq',hr,hr',hr2,hr2',hcall,hf];exact⟨by omega,hor⟩
        ·rw[if_neg hc0]at hor;simp[hlen,h0,h1,h2,h11,h12,h13,hi,hj,hj2,hq,hq',hr,hr',hr2,hr2',hcall,hc0,hor]
     ·omega
    ·have hz:=ordLD_end l m i (by omega) (by omega) (by omega);rw[←hor]at hz;have hz1:ordL l m=1:=by rw[hz];unfold cmpI;rw[if_neg (by omega),if_pos (by omega)]
     have hj2:m.length≤i:=by omega
     cases x with
     |
      mk k n d s zx lx=>
      simp only[enc]at hr hr';generalize lsV zx (encL lx)=X at hr hr';rcases hL' with hL'|⟨hL',hz'⟩
      ·subst hL';simp[hlen,h0,h1,h2,h11,h12,h13,hi,hj2,hq,hq',hr,hr',hz1]
      ·subst hL';obtain rfl:i=0:=by omega
       simp[hlen,h0,h1,h2,h11,h12,h13,hi,hj2,hq,hq',hr,hr',hz1]
   ·have hz:=ordLD_end l m i (by omega) (by omega) (by omega);rw[←hor]at hz;simp[hlen,h0,h1,h2,h11,h12,h13,hi,hq,hz];omega
  ·rintro o fr h hn ⟨hlen,⟨rfl,hlm,hz,h0,h1⟩|⟨rfl,h2⟩⟩
   ·simp only at hlen h0 h1;rw[hz];unfold cmpI;by_cases hc:(l.length:Int)<m.length
    ·rcases hL' with hL'|⟨hL',e'⟩
     ·subst hL';simp[hlen,h0,h1,hq,hq',show l.length<m.length by omega]
     ·omega
    ·rcases hL' with hL'|⟨hL',e'⟩
     ·subst hL';simp[hlen,h0,h1,hq,hq',show¬l.length<m.length by omega,show¬m.length<l.length by omega]
     ·subst hL';simp[hlen,h0,h1,hq,e',show l.length=0 by omega]
   ·simp only at h2;simp[h2]
 ·subst hL;have hl0:l=[]:=Zl hz;subst hl0;simp[Tryz.f104];refine loop_up (C:=cx) (G:=fun r=>∃h',finX _ (thenX _ _ (blockX _ r) _)=some (_,h'))
   (fun i s=>i=0∧s.1.length=39∧gt s.1 0= .sc (.slice none 0 0)∧gt s.1 1=L'∧gt s.1 12= .sc (.int .i64 0)∧gt s.1 13= .sc (.int .i64 0))
   (fun o s=>s.1.length=39∧o= .exit 0∧gt s.1 0= .sc (.slice none 0 0)∧gt s.1 1=L') 0 (by simp) (by simp) ?_ ?_
  ·rintro i fr h hle ⟨rfl,hlen,h0,h1,h12,h13⟩;simp only at hlen h0 h1 h12 h13;simp[hlen,h0,h1,h12,h13]
  ·rintro o fr h hn ⟨hlen,rfl,h0,h1⟩;simp only at hlen h0 h1;have hor:ordL [] m=if 0<m.length then-1 else 0:=by cases m<;>simp[ordL]
   rw[hor];rcases hL' with hL'|⟨hL',e'⟩
   ·subst hL';by_cases hm0:0<m.length
    ·simp[hlen,h0,h1,hq',hm0]
    ·simp[hlen,h0,h1,hq',hm0]
   ·subst hL';simp[hlen,h0,h1,e']
theorem val_order1 (M:Nat)(v w:V)(b:Bool)(h:Hp)(y1 y2 c0 g c1 c2 c3 N1 D1 N2 D2:Int)(B1 B2:Bool)
 (hk:∀b h,callN cx (M+1) b 145 [evV v] h=some (.sc (.int .i64 y1),h)) (hk':∀b h,callN cx (M+1) b 145 [evV w] h=some (.sc (.int .i64 y2),h))
 (hc:∀b h,callN cx (M+1) b 73 [.sc (.int .i64 y1),.sc (.int .i64 y2)] h=some (.sc (.int .i64 c0),h))
 (hnv:∀b h,callN cx (M+1) b 146 [evV v] h=some (.tp [frA N1 D1,.sc (.bool B1)],h)) (hnw:∀b h,callN cx (M+1) b 146 [evV w] h=some (.tp [frA N2 D2,.sc (.bool B2)],h))
 (hcm:∀b h,callN cx (M+1) b 147 [frA N1 D1,frA N2 D2] h=some (.sc (.int .i64 g),h))
 (hs:∀b h,callN cx (M+1) b 103 [.sc (.string v.s),.sc (.string w.s)] h=some (.sc (.int .i64 c1),h))
 (hn:∀b h,callN cx (M+1) b 73 [.sc (.int .i64 v.n),.sc (.int .i64 w.n)] h=some (.sc (.int .i64 c2),h))
 (hl:∀b h,callN cx (M+1) b 104 [evL v.isNil v.l,evL w.isNil w.l,.fn 101 []] h=some (.sc (.int .i64 c3),h)):
 callN cx (M+2) b 101 [evV v,evV w] h=some (.sc (.int .i64 (if c0=0 then(if y1=2 then g else orI [c1,c2,c3])else c0)),h):=by
 have hca:=calm_evV2 v w;refine pure_calm (r:= .sc (.int .i64 (if c0=0 then(if y1=2 then g else orI [c1,c2,c3])else c0))) (n:=M+1) ⟨Tryz.f101.ntmps,(Tryz.f101.body).getD .skip,[.tmp 4]⟩ (by kernel_rfl) (by kernel_rfl) rfl (by kernel_rfl) (by simp[Tryz.f101]) hca rfl ?_ b h;clear hca;cases v with
 |
  mk k n d s z l=>
  cases w with
  |
   mk k' n' d' s' z' l'=>
   simp only[V.k,V.n,V.s,V.l,V.isNil]at *;simp only[frA]at hnv hnw hcm;rw[evV_eq]at hk hnv⊢;rw[evV_eq]at hk' hnw⊢;have hL:(∃r,evL z l= .ls 5 r z)∨evL z l= .sc (.slice none 0 0):=(lsV_cases z l).elim (fun e=> .inr e.2) (fun e=> .inl ⟨_,e⟩);have hL':(∃r,evL z' l'= .ls 5 r z')∨evL z' l'= .sc (.slice none 0 0):=(lsV_cases z' l').elim (fun e=> .inr e.2) (fun e=> .inl ⟨_,e⟩);generalize evL z l=L at hk hnv hl hL;generalize evL z' l'=L' at hk' hnw hl hL';have hor:=fun b=>Or_own M b [.row [.sc (.int .i64 k),.sc (.int .i64 n),.sc (.int .i64 d),.sc (.string s),L],.row [.sc (.int .i64 k'),.sc (.int .i64 n'),.sc (.int .i64 d'),.sc (.string s'),L'],.row [.sc (.int .i64 c1),.sc (.int .i64 c2),.sc (.int .i64 c3)]] 2 3 [c1,c2,c3] rfl rfl (by simp)
   generalize orI [c1,c2,c3]=o at hor;by_cases h0:c0=0
   ·subst h0;by_cases h2:y1=2
    ·subst h2;simp[Tryz.f101,hk,hk',hc,hnv,hnw,hcm]
    ·rcases hL with⟨r,rfl⟩|rfl<;>rcases hL' with⟨r',rfl⟩|rfl<;>simp[Tryz.f101,hk,hk',hc,hs,hn,hl,hor,h2]
   ·simp[Tryz.f101,hk,hk',hc,h0]
theorem ok_parts {v:V}(h:okT v=true):0≤v.k∧v.k≤8∧(v.k=3∨v.d=0)∧(v.k=4∨v.s=⟨#[]⟩)∧(v.k=4→v.n=0)∧∀x∈v.l,okT x=true:=by
 cases v with
 |
  mk k n d s z l=>
  simp only[okT,V.k,V.n,V.d,V.s,V.l]at *;rw[okV]at h;simp only[Zh,Bool.or_eq_true,Zx]at h;obtain⟨⟨⟨hd,hs⟩,hl⟩,hk⟩:=h;have hs':k=4∨s=⟨#[]⟩:=hs.imp (fun h=>h) (eqS_iff s ⟨#[]⟩).1;have hP:∀(l:List V) (e:Bool),okP l e=true→∀x∈l,okV x 8=true:=by
   intro l
   induction l with
   |nil=>intro _ _ x hx;cases hx
   |
    cons y ys ih=>
    intro e he x hx;rw[okP]at he;simp only[Zh]at he;rcases List.mem_cons.1 hx with rfl|hx
    ·exact okV_mono (by omega) he.1.2
    ·exact ih _ he.2 x hx
  have hLs:∀(l:List V),l.isEmpty=true→∀x∈l,okV x 8=true:=fun l hl x hx=>by cases l<;>simp at hl;cases hx
  by_cases h0:k=0
  ·subst h0;exact⟨by omega,by omega,hd,hs',by omega,hLs l (by simpa using hl)⟩
  by_cases h1:k=1
  ·subst h1;exact⟨by omega,by omega,hd,hs',by omega,hLs l (by simpa using hl)⟩
  by_cases h2:k=2
  ·subst h2;exact⟨by omega,by omega,hd,hs',by omega,hLs l (by simpa using hl)⟩
  by_cases h3:k=3
  ·subst h3;exact⟨by omega,by omega,hd,hs',by omega,hLs l (by simpa using hl)⟩
  by_cases h4:k=4
  ·subst h4;simp at hk;exact⟨by omega,by omega,hd,hs',fun _=>hk.1.1,hLs l (by simpa using hl)⟩
  by_cases h5:k=5
  ·subst h5;exact⟨by omega,by omega,hd,hs',by omega,hLs l (by simpa using hl)⟩
  by_cases h6:k=6
  ·subst h6;exact⟨by omega,by omega,hd,hs',by omega,hLs l (by simpa using hl)⟩
  by_cases h7:k=7
  ·subst h7;simp at hk;exact⟨by omega,by omega,hd,hs',by omega,hP l _ hk.2⟩
  by_cases h8:k=8
  ·subst h8;simp at hk;refine⟨by omega,by omega,hd,hs',by omega,fun x hx=>?_⟩;have:=hk.2;rw[okL_iff,List.all_eq_true]at this;exact okV_mono (by omega) (this x hx)
  simp[h0,h1,h2,h3,h4,h5,h6,h7,h8]at hk
theorem cls_rank {k:Int}(h0:0≤k)(h8:k≤8):(k=0∧clsP k=0∧clsV k=0)∨(k=1∧clsP k=1∧clsV k=1)∨(k=2∧clsP k=2∧clsV k=2)∨(k=3∧clsP k=2∧clsV k=2)∨(k=4∧clsP k=4∧clsV k=3)∨(k=5∧clsP k=5∧clsV k=4)∨(k=6∧clsP k=6∧clsV k=5)∨(k=7∧clsP k=9∧clsV k=7)∨(k=8∧clsP k=8∧clsV k=6):=by
 have:k=0∨k=1∨k=2∨k=3∨k=4∨k=5∨k=6∨k=7∨k=8:=by omega
 rcases this with rfl|rfl|rfl|rfl|rfl|rfl|rfl|rfl|rfl<;>decide
theorem cmpI_eq_of {a b c d:Int}(h1:a<b↔c<d)(h2:b<a↔d<c):cmpI a b=cmpI c d:=by
 unfold cmpI;simp only[h1,h2]
theorem cls_cmp {v w:V}(hv:okT v=true)(hw:okT w=true):cmpI (clsP v.k) (clsP w.k)=cmpI (clsV v.k) (clsV w.k):=by
 obtain⟨a1,a2,_⟩:=ok_parts hv;obtain⟨b1,b2,_⟩:=ok_parts hw;have h1:=cls_rank a1 a2;have h2:=cls_rank b1 b2;generalize clsP v.k=p1 at *;generalize clsP w.k=p2 at *;generalize clsV v.k=q1 at *;generalize clsV w.k=q2 at *;exact cmpI_eq_of (by omega) (by omega)
theorem cls_two {v:V}(hv:okT v=true):clsP v.k=2↔v.k=2∨v.k=3:=by
 obtain⟨a1,a2,_⟩:=ok_parts hv;have h1:=cls_rank a1 a2;generalize clsP v.k=p1 at *;omega
theorem cmpI_self (x:Int):cmpI x x=0:=by unfold cmpI;rw[if_neg (by omega),if_neg (by omega)]
theorem cmpS_self (x:ByteArray):cmpS x x=0:=by unfold cmpS;rw[ltS_irrefl];rfl
theorem fld_short {v w:V}(hv:okT v=true)(hw:okT w=true)(hc:clsV v.k=clsV w.k)(hn:¬(v.k=2∨v.k=3)):fldV v w=orI [cmpS v.s w.s,cmpI v.n w.n,ordL v.l w.l]:=by
 obtain⟨a1,a2,a3,a4,a5,_⟩:=ok_parts hv;obtain⟨b1,b2,b3,b4,b5,_⟩:=ok_parts hw;have h1:=cls_rank a1 a2;have h2:=cls_rank b1 b2;have hk:v.k=w.k:=by
  generalize clsP v.k=p1 at *;generalize clsP w.k=p2 at *;generalize clsV v.k=q1 at *;generalize clsV w.k=q2 at *;omega
 have hd:v.d=w.d:=by
  have e1:v.d=0:=a3.resolve_left (by omega);have e2:w.d=0:=b3.resolve_left (by omega);rw[e1,e2]
 unfold fldV;rw[hk,hd,cmpI_self,cmpI_self];by_cases h4:v.k=4
 ·have e1:=a5 h4;have e2:=b5 (by omega);rw[e1,e2,cmpI_self];simp only[orI,if_true]
 ·have e1:v.s=⟨#[]⟩:=a4.resolve_left h4;have e2:w.s=⟨#[]⟩:=b4.resolve_left (by omega);rw[e1,e2,cmpS_self];simp only[orI,if_true]
theorem num_cmp {v w:V}(hv:okT v=true)(hw:okT w=true)(h1:v.k=2∨v.k=3)(h3:w.k=2∨w.k=3):cmpF (numN v) (numD v) (numN w) (numD w)=cmpF v.n (if v.k=2 then 1 else v.d) w.n (if w.k=2 then 1 else w.d):=by
 simp only[numN,numD,hv,hw,if_true];rcases h1 with e1|e1<;>rcases h3 with e3|e3<;>simp[e1,e3]
theorem ordV_eq' (v w:V):ordV v w=if okT v=okT w then(if okT w then(if cmpI (clsV v.k) (clsV w.k)=0 then(if v.k=2∨v.k=3 then cmpF v.n (if v.k=2 then 1 else v.d) w.n (if w.k=2 then 1 else w.d)else fldV v w)else cmpI (clsV v.k) (clsV w.k))else fldV v w)else if okT w then 1 else-1:=by
 cases v;rw[ordV];rfl
theorem C_order_all :∀(D:Nat) (v w:V),dep v≤D→dep w≤D→bdV v→bdV w→okT v=true→okT w=true→∀N,C_order (N+2*D+6) v w:=by
 intro D
 induction D with
 |zero=>intro v w h;have:=dep_pos v;omega
 |
  succ D ih=>
  intro v w dv dw bv bw ov ow N b h;obtain⟨_,_,_,_,_,vl⟩:=ok_parts ov;obtain⟨_,_,_,_,_,wl⟩:=ok_parts ow;have hl:=val_lists_order (N+2*D+6) v.isNil w.isNil v.l w.l (bdV_l bv).1 (bdV_l bw).1 (fun x hx y hy=>ih x y (dep_l dv x hx) (dep_l dw y hy) ((bdV_l bv).2 x hx) ((bdV_l bw).2 y hy) (vl x hx) (wl y hy) N);have nv:=fun b h=>val_Number N (D+1) v dv bv b h
  have nw:=fun b h=>val_Number N (D+1) w dw bw b h
  rw[show N+2*(D+1)+5=N+2*D+6+1 by omega]at nv nw;have:=val_order1 (N+2*D+6) v w b h _ _ _ _ _ _ _ _ _ _ _ _ _ (fun b h=>val_class _ b v h) (fun b h=>val_class _ b w h) (fun b h=>Compare_int (N+2*D+5) b _ _ h) nv nw
   (fun b h=>frac_Cmp (N+2*D+3) b _ _ _ _ h) (fun b h=>Compare_str (N+2*D+5) b _ _ h) (fun b h=>Compare_int (N+2*D+5) b _ _ h) hl
  rw[show N+2*(D+1)+6=N+2*D+6+2 by omega];simp only[evV]at this;rw[this,ordV_eq' v w,ov,ow];simp only[if_true,cls_cmp ov ow,cls_two ov];by_cases h0:cmpI (clsV v.k) (clsV w.k)=0
  ·simp only[h0,if_true];have hcl:=h0;unfold cmpI at hcl;have hcl':clsV v.k=clsV w.k:=by(repeat' split at hcl)<;>omega
   by_cases h1:v.k=2∨v.k=3
   ·have h3:w.k=2∨w.k=3:=by
     obtain⟨b1,b2,_⟩:=ok_parts ow;obtain⟨a1,a2,_⟩:=ok_parts ov;have r1:=cls_rank a1 a2;have r2:=cls_rank b1 b2;generalize clsP v.k=p1 at *;generalize clsP w.k=p2 at *;generalize clsV v.k=q1 at *;generalize clsV w.k=q2 at *;omega
    simp only[h1,if_true,num_cmp ov ow h1 h3]
   ·simp only[h1,if_false,fld_short ov ow hcl' h1]
  ·simp only[h0,if_false]
end
end Go.Proofs.YtiefabpageilbaaGreatDoor
