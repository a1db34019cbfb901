/- Is a predicate in a list: the reference's R45.Has. -/
import Derived.Test.YtmocfjnklfpnbaaGreatDoorP35
import Derived.Test.YtmocfjnklfpnbaaGreatDoorP36
import Derived.Test.YtmocfjnklfpnbaaGreatDoorP17
import Derived.Test.YtmocfjnklfpnbaaGreatDoorP37
import Derived.Test.YtmocfjnklfpnbaaGreatDoorP11
set_option linter.all false
set_option maxRecDepth 100000
namespace Go.Proofs.YtmocfjnklfpnbaaGreatDoor
open Go Go.Ae
section
attribute [local simp] aop aopW coldF extF putA ofConst flat scalarOp fastOp binFast intOp strOp guardX Ae.part rowOf szOk natOf lenA cls fillA newsOf isNilC cellX
set_option maxHeartbeats 32000000
theorem rd_Order (N D:Nat)(p q:Pr)(hp:dep p.v≤D∧bdV p.v)(hq:dep q.v≤D∧bdV q.v)(t:Bool)(h:Hp):callN cx (N+3*D+8) t 24 [evP p,evP q] h=some (.sc (.int .i64 (ordP p q)),h):=
 rf_Order (N+3*D+6) p q t h (ordV p.v q.v) (fun t h=>by
  have:=OC_all D p.v q.v hp.1 hq.1 hp.2 hq.2 (N+1) t h
  rwa [show N+1+3*D+6=N+3*D+6+1 by omega]at this)
def hasP (L:List Pr)(p:Pr):Bool:=L.any fun x=>decide (ordP x p=0)
theorem hasP_drop {L:List Pr}{i:Nat}{x:Pr}(p:Pr)(h:L[i]?=some x):hasP (L.drop i) p=(decide (ordP x p=0)||hasP (L.drop (i+1)) p):=by
 rw[drop_of h];rfl
theorem rd_Has (N D:Nat)(b:Bool)(L:List Pr)(p:Pr)(h:Hp)(hl:L.length≤1000000000)(hL:∀x∈L,dep x.v≤D∧bdV x.v)(hp:dep p.v≤D∧bdV p.v):callN cx (N+3*D+9) b 10 [bldV 8 (pdQ L),evP p] h=some (.sc (.bool (hasP L p)),h):=by
 have hca:[bldV 8 (pdQ L),evP p].all calm=true:=by rw[Zn,Zn,calm_bldV,calm_evP];rfl
 refine pure_calm (n:=N+3*D+8) (r:= .sc (.bool (hasP L p))) ⟨Tryz.f10.ntmps,(Tryz.f10.body).getD .skip,[.tmp 4]⟩ (by kernel_rfl) (by kernel_rfl) rfl (by kernel_rfl) (by simp[Tryz.f10]) hca rfl ?_ b h;clear hca;have fo:=fun x hx t h=>rd_Order N D x p (hL x hx) hp t h
 generalize N+3*D+8=M at fo⊢;clear hL;unfold evP at fo⊢;have hpl:=encP_length p;have tp:(encP p).take 8=encP p:=List.take_of_length_le (by omega);have hTT:hasP L p=hasP (L.drop 0) p:=by rw[Yf]
 generalize hasP L p=T at hTT⊢;cases hL:L with
 |
  nil=>
  subst hL;have:T=false:=hTT;subst this;generalize encP p=rp at *;rw[show bldV 8 (pdQ [])= .sc (.slice none 0 0)from rfl];show Option.map Prod.fst (finX [.tmp 4] _)=some (.sc (.bool false));simp[Tryz.f10,hpl];generalize hXX:exec2 cx (callN cx M) (.loop _) _=XX;refine loopE hXX (fun i st=>st.1.length=19∧gt st.1 0= .sc (.slice none 0 0)∧gt st.1 5= .sc (.int .i64 0)) (fun o st=>o= .exit 0∧st.1.length=19) 0 (by simp) ⟨by simp,by simp,by simp⟩ ?_ ?_
  ·rintro i fr hp hle ⟨hlen,g0,g5⟩;simp only at hlen g0 g5;simp[hlen,g0,g5]
  ·rintro o fr' h' rfl ⟨rfl,hlen⟩;simp only at hlen;simp[hlen]
 |
  cons a L0=>
  rw[←hL,show bldV 8 (pdQ L)= .ls 8 (pdQ L) false by rw[hL];rfl];have hq:=pdQ_length L;have hg:=pdQ_get L;generalize pdQ L=rows at hq hg⊢;clear hL;show Option.map Prod.fst (finX [.tmp 4] _)=some (.sc (.bool T));simp[Tryz.f10,hpl];generalize hXX:exec2 cx (callN cx M) (.loop _) _=XX;refine loopE hXX
   (fun i st=>st.1.length=19∧gt st.1 0= .ls 8 rows false∧gt st.1 3= .pt 0 0∧gt st.1 5= .sc (.int .i64 (i:Nat))∧st.2=[.row (encP p)]∧T=hasP (L.drop i) p)
   (fun o st=>st.1.length=19∧((o= .exit 0∧T=false)∨(o= .ret∧T=true∧gt st.1 4= .sc (.bool true))))
   L.length (by simp;omega) ⟨by simp,by simp,by simp,by simp,rfl,hTT⟩ ?_ ?_
  ·clear hXX XX hTT;rintro i fr hp hle ⟨hlen,g0,g3,g5,rfl,hT⟩;simp only at hlen g0 g3 g5;by_cases hi:i<L.length
   ·obtain⟨x,hx,hr,hr'⟩:=row_get hg hi;have hf0:i≤1000000000000000:=by omega
    have f1:=fo x (Zi hx);rw[hasP_drop p hx]at hT;have hxl:=encP_length x;have tx:(encP x).take 8=encP x:=List.take_of_length_le (by omega);generalize encP x=rx at *;generalize encP p=rp at *;generalize ordP x p=c at *;have hf:=fit_succ hf0;by_cases hc:c=0
    ·subst hc;have:T=true:=by rw[hT];rfl
     simp[hlen,g0,g3,g5,hi,hq,hr,hr',hxl,tx,hpl,tp,f1];exact this
    ·have:T=hasP (L.drop (i+1)) p:=by rw[hT,decide_eq_false hc];rfl
     simp[hlen,g0,g3,g5,hi,hq,hr,hr',hxl,tx,hpl,tp,f1,hc,hf];exact this
   ·have hil:i=L.length:=Yc hle (Yb hi);subst hil;rw[Yd]at hT;simp[hlen,g0,g5,hq];exact hT
  ·rintro o fr' h' rfl ⟨hlen,h1⟩;simp only at hlen;rcases h1 with⟨rfl,rfl⟩|⟨rfl,rfl,g4⟩
   ·simp[hlen]
   ·simp only at g4;simp[hlen,g4]
noncomputable def kFX :Code:=(Tryz.f4.body).getD .skip
def OfR (q:List Cp)(r:AV):Prop:=(∃i e:Int,e≠0∧r= .tp [.sc (.slice none 0 0),.sc (.int .i64 i),.sc (.int .i64 e)])∨((chkQ q).2.2=0∧∃R,SubR R (readsQ q)∧R.length≤(readsQ q).length∧r= .tp [bldV 8 (pdQ R),.sc (.int .i64 0),.sc (.int .i64 0)])
def TX (r:Option (Out × St)):Prop:=∃h',finX [.tmp 4] r=some (.sc (.bool true),h')
theorem fx_walk (K:Bool→FuncId→List AV→Hp→Option (AV × Hp))(q:List Cp)(m:Int)(w:Bool)
 (hl:∀t h,K t 6 [] h=some (.sc (.bool true),h))
 (hL:∀t h,K t 5 [.ag (encQ q)] h=some (.sc (.bool w),h))
 (h1:∃r,OfR q r∧∀t h,K t 7 [.ag (encQ q)] h=some (r,h))
 (h2:∀k,k≤q.length→∃r,OfR (q.take k) r∧∀t h,K t 7 [.ag (encQ (q.take k))] h=some (r,h))
 (hH:∀R R' k,k≤q.length→(chkQ q).2.2=0→(chkQ (q.take k)).2.2=0→SubR R (readsQ q)→R.length≤(readsQ q).length→SubR R' (readsQ (q.take k))→R'.length≤(readsQ (q.take k)).length→R'.length≤1000000000∧∀p∈R',∀t h,K t 10 [bldV 8 (pdQ R),evP p] h=some (.sc (.bool true),h)):
 TX (exec2 cx K kFX ([.ag (encQ q),.sc (.int .i64 m)]++List.replicate 62 .un,[])):=by
 rw[show kFX= .seq (cL (cT 0 kFX)) (.seq (cL (cT 1 kFX)) (.seq (cL (cT 2 kFX)) (.seq (cL (cT 3 kFX)) (.seq (cL (cT 4 kFX)) (.seq (cL (cT 5 kFX)) (cT 6 kFX)))))) by kernel_rfl];have hq:=cpR_length q;have s6:∀fr h,fr.length=64→TX (exec2 cx K (cT 6 kFX) (fr,h)):=by
  intro fr h hlen;unfold TX;simp[kFX,cT,cR,cL,Tryz.f4,hlen,hl]
 generalize cT 6 kFX=Z6 at s6⊢;have s5:∀R R' fr h,R'.length≤1000000000→(∀p∈R',∀t h,K t 10 [bldV 8 (pdQ R),evP p] h=some (.sc (.bool true),h))→fr.length=64→gt fr 5=bldV 8 (pdQ R)→gt fr 8=bldV 8 (pdQ R')→TX (exec2 cx K (.seq (cL (cT 5 kFX)) Z6) (fr,h)):=by
  intro R R' fr h hRl hHas hlen g5 g8;have hyp:∀v,bldV 8 (pdQ R)≠ .pn v:=fun v=>by unfold bldV;split<;>simp
  generalize bldV 8 (pdQ R)=y at *;have q2:=fun(ops:Array Oper) (dd:Tmp) (rest:List Oper) (fr:List AV) (h:Hp)=>opP_np (C:=cx) (cal:=K true) (ops:=ops) hyp dd rest fr h
  unfold evP at hHas;cases hR:R' with
  |
   nil=>
   subst hR;rw[show bldV 8 (pdQ [])= .sc (.slice none 0 0)from rfl]at g8;simp[kFX,cT,cR,cL,Tryz.f4,hlen];generalize hXX:exec2 cx K (.loop _) _=XX;refine loopE hXX (fun i st=>st.1.length=64∧gt st.1 8= .sc (.slice none 0 0)∧gt st.1 11= .sc (.int .i64 0)) (fun o st=>o= .exit 0∧st.1.length=64) 0 (by simp) ⟨by simp[hlen],by simp[g8],by simp[hlen]⟩ ?_ ?_
   ·rintro i fr hp hle ⟨hlen,g8,g11⟩;simp only at hlen g8 g11;simp[hlen,g8,g11]
   ·rintro o fr' h' rfl ⟨rfl,hlen⟩;simp;exact s6 _ _ hlen
  |
   cons a R0=>
   rw[show bldV 8 (pdQ R')= .ls 8 (pdQ R') false by rw[hR];rfl]at g8;have hq:=pdQ_length R';have hg:=pdQ_get R';generalize pdQ R'=rows at *;clear hR;simp[kFX,cT,cR,cL,Tryz.f4,hlen];generalize hXX:exec2 cx K (.loop _) _=XX;refine loopE hXX
    (fun i st=>st.1.length=64∧gt st.1 5=y∧gt st.1 8= .ls 8 rows false∧gt st.1 11= .sc (.int .i64 (i:Nat)))
    (fun o st=>o= .exit 0∧st.1.length=64)
    R'.length (by simp;omega) ⟨by simp[hlen],by simp[g5],by simp[g8],by simp[hlen]⟩ ?_ ?_
   ·clear hXX XX hlen g5 g8;rintro i fr hp hle ⟨hlen,g5,g8,g11⟩;simp only at hlen g5 g8 g11;by_cases hi:i<R'.length
    ·obtain⟨x,hx,hr,hr'⟩:=row_get hg hi;have hf0:i≤1000000000000000:=by omega
     have f1:=hHas x (Zi hx);have hxl:=encP_length x;have tx:(encP x).take 8=encP x:=List.take_of_length_le (by omega);generalize encP x=rx at *;have hf:=fit_succ hf0;simp[hlen,g5,g8,g11,hi,hq,hr,hr',hxl,tx,q2,f1,hf]
    ·have hil:i=R'.length:=Yc hle (Yb hi);subst hil;simp[hlen,g8,g11,hq]
   ·rintro o fr' h' rfl ⟨rfl,hlen⟩;simp;exact s6 _ _ hlen
 generalize Code.seq (cL (cT 5 kFX)) Z6=Z5 at s5⊢;cases w with
 |
  false=>
  unfold encQ at *;unfold TX;generalize Code.seq (cL (cT 2 kFX)) (.seq (cL (cT 3 kFX)) (.seq (cL (cT 4 kFX)) Z5))=Z2;generalize cpR q=rows at *;simp[kFX,cT,cR,cL,Tryz.f4,hL,hl]
 |
  true=>
  by_cases hm0:m<0
  ·unfold encQ at *;unfold TX;generalize Code.seq (cL (cT 2 kFX)) (.seq (cL (cT 3 kFX)) (.seq (cL (cT 4 kFX)) Z5))=Z2;generalize cpR q=rows at *;simp[kFX,cT,cR,cL,Tryz.f4,hL,hl,hm0]
  obtain⟨k,rfl⟩:∃k:Nat,m=(k:Int):=⟨m.toNat,by omega⟩;by_cases hmk:q.length<k
  ·have hmk':((cpR q).length:Int)< (k:Int):=by rw[hq];omega
   unfold encQ at *;unfold TX;generalize Code.seq (cL (cT 2 kFX)) (.seq (cL (cT 3 kFX)) (.seq (cL (cT 4 kFX)) Z5))=Z2;generalize cpR q=rows at *;simp[kFX,cT,cR,cL,Tryz.f4,hL,hl,hm0,hmk']
  have hkl:k≤q.length:=Yb hmk;have hmk':¬((cpR q).length:Int)< (k:Int):=by rw[hq];omega
  have hkr:k≤(cpR q).length:=by rw[hq];exact hkl
  obtain⟨r1,o1,f1⟩:=h1;obtain⟨r2,o2,f2⟩:=h2 k hkl;have htk:cpR (q.take k)=(cpR q).take k:=by simp[cpR,List.map_take]
  have hk0:¬(k:Int)<0:=hm0;unfold encQ at *;rw[htk]at f2;rcases o1 with⟨i1,e1,hne1,rfl⟩|⟨c1,R,hS,hRl,rfl⟩
  ·
   rcases o2 with⟨i2,e2,hne2,rfl⟩|⟨c2,R',hS',hRl',rfl⟩
   ·unfold TX;generalize cpR q=rows at *;simp[kFX,cT,cR,cL,Tryz.f4,hL,hl,hm0,hmk',f1,f2,hkr,sliceA,boundA,spl1,hne1,hne2]
   ·have hyp:∀v,bldV 8 (pdQ R')≠ .pn v:=fun v=>by unfold bldV;split<;>simp
    generalize bldV 8 (pdQ R')=y at *;have q2:=fun(ops:Array Oper) (dd:Tmp) (rest:List Oper) (fr:List AV) (h:Hp)=>opP_np (C:=cx) (cal:=K true) (ops:=ops) hyp dd rest fr h
    unfold TX;generalize cpR q=rows at *;simp[kFX,cT,cR,cL,Tryz.f4,hL,hl,hm0,hmk',f1,f2,hkr,sliceA,boundA,spl1,hne1,q2]
  ·rcases o2 with⟨i2,e2,hne2,rfl⟩|⟨c2,R',hS',hRl',rfl⟩
   ·have hyp:∀v,bldV 8 (pdQ R)≠ .pn v:=fun v=>by unfold bldV;split<;>simp
    generalize bldV 8 (pdQ R)=y at *;have q2:=fun(ops:Array Oper) (dd:Tmp) (rest:List Oper) (fr:List AV) (h:Hp)=>opP_np (C:=cx) (cal:=K true) (ops:=ops) hyp dd rest fr h
    unfold TX;generalize cpR q=rows at *;simp[kFX,cT,cR,cL,Tryz.f4,hL,hl,hm0,hmk',f1,f2,hkr,sliceA,boundA,spl1,hne2,q2]
   ·obtain⟨hRl2,hHas⟩:=hH R R' k hkl c1 c2 hS hRl hS' hRl';have s:=fun fr h hlen g5 g8=>s5 R R' fr h hRl2 hHas hlen g5 g8
    have hyp:∀v,bldV 8 (pdQ R)≠ .pn v:=fun v=>by unfold bldV;split<;>simp
    have hyp':∀v,bldV 8 (pdQ R')≠ .pn v:=fun v=>by unfold bldV;split<;>simp
    clear hHas s5 hH;generalize bldV 8 (pdQ R)=y at *;generalize bldV 8 (pdQ R')=y' at *;have q2:=fun(ops:Array Oper) (dd:Tmp) (rest:List Oper) (fr:List AV) (h:Hp)=>opP_np (C:=cx) (cal:=K true) (ops:=ops) hyp dd rest fr h
    have q3:=fun(ops:Array Oper) (dd:Tmp) (rest:List Oper) (fr:List AV) (h:Hp)=>opP_np (C:=cx) (cal:=K true) (ops:=ops) hyp' dd rest fr h
    generalize cpR q=rows at *;simp[kFX,cT,cR,cL,Tryz.f4,hL,hm0,hmk',f1,f2,hkr,sliceA,boundA,spl1,q2,q3];exact s _ _ (by simp) (by simp) (by simp)
end
theorem cutN_of {m i:Nat}(h:i≤m):cutN m (i:Int)=i:=by unfold cutN;omega
theorem chk_query {q:List Cp}(h:(chkQ q).2.2=0):(queryE q).2=0:=by
 unfold chkQ scopeE at h;by_cases hq:(queryE q).2=0
 ·exact hq
 ·rw[if_neg hq]at h;exact h
theorem scope_take {q:List Cp}{k i:Nat}(h1:(queryE q).2=0)(h2:(queryE (q.take k)).2=0)(hi:i≤k)(hk:k≤q.length):scopeE (q.take k) (i:Int)=scopeE q (i:Int):=by
 unfold scopeE;rw[if_pos h1,if_pos h2];have e1:cutN (q.take k).length (i:Int)=i:=by rw[List.length_take_of_le hk];exact cutN_of hi
 have e2:cutN q.length (i:Int)=i:=cutN_of (by omega);rw[e1,e2,List.take_take,Nat.min_eq_left hi]
theorem readsF_take {q:List Cp}{k:Nat}(h1:(queryE q).2=0)(h2:(queryE (q.take k)).2=0)(hk:k≤q.length):∀(n i:Nat),i+n≤k→∀p∈readsF (q.take k) ((q.drop i).take n) i,p∈readsF q (q.drop i) i:=by
 intro n
 induction n with
 |zero=>intro i _ p hp;simp[readsF]at hp
 |
  succ n ih=>
  intro i hin p hp;obtain⟨c,hc⟩:∃c,q[i]?=some c:=⟨_,Zb (by omega)⟩;rw[drop_of hc]at hp⊢;rw[List.take_succ_cons,readsF]at hp;rw[readsF];rcases Ya.1 hp with hp|hp
  ·rw[scope_take h1 h2 (by omega) hk]at hp;exact Zy _ hp
  ·exact Zk _ (ih (i+1) (by omega) p hp)
theorem reads_take {q:List Cp}{k:Nat}(hk:k≤q.length)(h1:(chkQ q).2.2=0)(h2:(chkQ (q.take k)).2.2=0):∀p∈readsQ (q.take k),p∈readsQ q:=by
 intro p hp;have:=readsF_take (chk_query h1) (chk_query h2) hk k 0 (by omega) p;rw[Yf]at this;exact this hp
theorem hasP_of {q:List Cp}{k:Nat}{R R':List Pr}(hk:k≤q.length)(h1:(chkQ q).2.2=0)(h2:(chkQ (q.take k)).2.2=0)(hR:SubR R (readsQ q))(hR':SubR R' (readsQ (q.take k))){p:Pr}(hp:p∈R'):hasP R p=true:=by
 obtain⟨z,hz,he⟩:=hR.2 p (reads_take hk h1 h2 p (hR'.1 p hp));exact List.any_eq_true.2 ⟨z,hz,decide_eq_true he⟩
def gP (D:Nat)(l:List Pr):Prop:=∀p∈l,dep p.v≤D∧bdV p.v
theorem gP_app {D:Nat}{a b:List Pr}(h1:gP D a)(h2:gP D b):gP D (a++b):=fun p hp=>by
 rcases Ya.1 hp with h|h
 ·exact h1 p h
 ·exact h2 p h
theorem gP_nil (D:Nat):gP D []:=fun p hp=>by cases hp
theorem gP_flat {α:Type}{D:Nat}{f:α→List Pr}{l:List α}(h:∀x∈l,gP D (f x)):gP D (l.flatMap f):=fun p hp=>by
 obtain⟨x,hx,hp⟩:=List.mem_flatMap.1 hp;exact h x hx p hp
theorem zV_ok {D:Nat}(hD:1≤D):dep zV≤D∧bdV zV:=by
 unfold zV;refine⟨by rw[dep];simp[depL];omega,?_⟩;rw[bdV];exact⟨Nat.zero_le _,Nat.zero_le _,trivial⟩
theorem gP_prd {D:Nat}(hD:1≤D)(k:Int)(n:ByteArray):gP D [prd k n]:=fun p hp=>by
 obtain rfl:=List.mem_singleton.1 hp;exact zV_ok hD
theorem gP_map {α:Type}{D:Nat}(hD:1≤D)(k:Int)(f:α→ByteArray)(l:List α):gP D (l.map fun x=>prd k (f x)):=fun p hp=>by
 obtain⟨x,_,rfl⟩:=Yh.1 hp;exact zV_ok hD
theorem gP_op {D:Nat}(hD:1≤D)(op:Int)(nm:ByteArray):gP D (opR' op nm):=by
 have h2:∀a b n m,gP D [prd a n,prd b m]:=fun a b n m=>gP_app (gP_prd hD a n) (gP_prd hD b m)
 unfold opR'
 repeat' split
 all_goals first|exact h2 _ _ _ _|exact gP_prd hD _ _|exact gP_nil D
mutual
theorem gP_ex {D:Nat}(hD:1≤D):∀e:Ep,gP D (exR e)
 | .mk op v nm ds ks=>by rw[exR];exact gP_app (gP_op hD op nm) (gP_exs hD ks)
theorem gP_exs {D:Nat}(hD:1≤D):∀l:List Ep,gP D (exRs l)
 | []=>by rw[exRs];exact gP_nil D
 |x::xs=>by rw[exRs];exact gP_app (gP_ex hD x) (gP_exs hD xs)
end
theorem gP_el {D:Nat}(hD:1≤D)(k:Int):gP D (elR k):=by
 unfold elR
 repeat' split
 all_goals first|exact gP_prd hD _ _|exact gP_nil D
theorem gP_no {D d:Nat}(hD:1≤D)(x:Np)(hb:brN D d x):gP D (noR x):=by
 unfold noR;split
 ·exact gP_app (gP_prd hD _ _) (gP_app (gP_map hD 2 (fun s=>s) _) (gP_map hD 3 (fun q:Pp=>q.key) _))
 ·split
  ·exact gP_app (gP_map hD 2 (fun s=>s) _) (gP_map hD 3 (fun q:Pp=>q.key) _)
  ·split
   ·rename_i j _ s rest q h1 h2;refine gP_app (fun p hp=>?_) (gP_app (gP_map hD 2 (fun s=>s) _) (gP_map hD 3 (fun q:Pp=>q.key) _));obtain rfl:=List.mem_singleton.1 hp;have hq:=(hb.1 q (Zi h2)).2;obtain⟨key,⟨op,v,nm,ds,ks⟩⟩:=q;rw[bdX]at hq;exact⟨hq.1.1,gd_bd hq.1.2⟩
   ·exact gP_nil D
theorem gP_pp {D:Nat}(hD:1≤D)(l:List Pp):gP D (ppX l):=gP_flat fun q _=>gP_ex hD q.e
theorem gP_path {D d:Nat}(hD:1≤D)(kd:Int)(K:Sco)(p:Tp)(hb:brT D d p):gP D (pthR kd K p):=by
 unfold pthR;refine gP_app (gP_flat fun x hx=>?_) (gP_flat fun x hx=>?_)
 ·unfold nodQ;refine gP_app (gP_pp hD _) ?_;split
  ·split
   ·exact gP_nil D
   ·split
    ·exact gP_nil D
    ·exact gP_prd hD _ _
  ·exact gP_no hD x (hb.1 x hx)
 ·unfold edgQ;refine gP_app (gP_pp hD _) ?_;split
  ·exact gP_nil D
  ·unfold gpR';refine gP_app (gP_app ?_ (gP_map hD 5 (fun s=>s) _)) (gP_map hD 6 (fun q:Pp=>q.key) _);split
   ·exact gP_prd hD _ _
   ·exact gP_nil D
theorem gP_clause {D d:Nat}(hD:1≤D)(c:Cp)(K:Sco)(hb:BrC D d c):gP D (clauQ c K):=by
 unfold clauQ;refine gP_app (gP_flat fun p hp=>gP_path hD _ K p (hb.paths p hp)) (gP_app (gP_flat fun x _=>gP_ex hD x) (gP_app (gP_ex hD _) (gP_app (gP_flat fun x _=>gP_ex hD x.e) (gP_app (gP_flat fun x _=>gP_ex hD x.e) (gP_app (gP_flat fun x _=>?_) (gP_app (gP_flat fun x _=>gP_el hD _) ?_))))))
 ·unfold setQ;refine gP_app (gP_ex hD _) (gP_app (gP_el hD _) ?_);split
  ·exact gP_nil D
  ·exact gP_prd hD _ _
 ·unfold delQ;split
  ·exact gP_prd hD _ _
  ·exact gP_nil D
theorem gP_reads {D d:Nat}(hD:1≤D)(q:List Cp):∀(l:List Cp) (i:Nat),(∀c∈l,BrC D d c)→gP D (readsF q l i)
 | [],i,_=>gP_nil D
 |
  c::l,i,hb=>by
  rw[readsF];exact gP_app (gP_clause hD c _ (hb c (by simp))) (gP_reads hD q l (i+1) fun x hx=>hb x (by simp[hx]))
end Go.Proofs.YtmocfjnklfpnbaaGreatDoor
namespace Go.Ae
open Go
def addT (C:Cx)(T:FuncId→List AV→Option AV):Cx:={C with tab:=fun f xs=>match T f xs with|some r=>some r|none=>C.tab f xs}
theorem rok_add (C:Cx)(T:FuncId→List AV→Option AV)(ops:Array Oper):rok (addT C T) ops=rok C ops:=rfl
theorem codeOk_add (C:Cx)(T:FuncId→List AV→Option AV):∀c:Code,codeOk (addT C T) c=codeOk C c:=by
 intro c
 induction c with
 |region i ops m=>cases m<;>simp only[codeOk,rok_add]
 |_=>simp_all only[codeOk]
theorem CxAll.more {C:Cx}(h:CxAll C)(T:FuncId→List AV→Option AV)(hT:∀f xs r,T f xs=some r→PureOK C f xs r)(hO:∀f sz,C.ins f≠some (sz,1)):CxAll (addT C T):={
 base:={mixed:=h.base.mixed,types:=h.base.types,funs:=fun f fi hf=>by rw[codeOk_add];exact h.base.funs f fi hf}
 rcv:=fun g T' e=>h.rcv g T' e
 srt:=fun f g kt e=>h.srt f g kt e
 tab:=fun f xs r e=>by
  have e':(match T f xs with|some r=>some r|none=>C.tab f xs)=some r:=e;split at e'
  ·rename_i r' hr;cases e';exact hT f xs _ hr
  ·exact h.tab f xs r e'
 ins:=fun f sz by' e h0 h1=>h.ins f sz by' e h0 h1
 sfn:=fun f sz e=>h.sfn f sz e
 own:=fun f sz e=>absurd e (hO f sz)
 nf:=fun f w X v r e=>h.nf f w X v r e}
theorem pure_of_tab {C:Cx}(hC:CxAll C){n:Nat}{T:FuncId→List AV→Option AV}(hT:∀f xs r,T f xs=some r→xs.all calm=true∧PureOK C f xs r){f:FuncId}{xs:List AV}{h':Hp}{r0 r:AV}
 (hb:body1 C (fun b g ys h=>match T g ys with|some q=>some (q,h)|none=>callN C n b g ys h) f xs []=some (r0,h')) {m:Nat} (hsn:snap h' m r0=some r):PureOK C f xs r:=by
 refine pure_of_body hC.base (fun b g ys h r h' hc w X ρ vs hs hl hv=>?_) (fun g ys h r h' hi hc=>?_) hb hsn
 ·split at hc
  ·rename_i q hq;cases hc;obtain⟨hcalm,hp⟩:=hT g ys _ hq;rw[List.all_eq_true]at hcalm;obtain⟨p1,p2⟩:=hp w (tot X ρ h) vs (fun b hb=>hb.elim (hs.xlt b) fun⟨i,hi,e⟩=>e▸hs.lt hi) hs.glob (by omega) (fun k y hk=>calm_ri (hv k y hk) (hcalm _ (Zi hk)));exact⟨p1,p2.mono fun e w' ⟨v,he,hst,hri⟩=>⟨ρ,ext_quiet hs hst,.inl ⟨v,he,.im hri⟩⟩⟩
  ·exact(callN_sound hC n).1 b g ys h r h' hc w X ρ vs hs hl hv
 ·split at hc
  ·cases hc;rfl
  ·exact(callN_sound hC n).2 g ys h r h' hi hc
def tabL :List (FuncId × List AV × AV)→FuncId→List AV→Option AV
 | [],_,_=>none
 |(g,ys,r)::t,f,xs=>if f=g then(if eqvC xs ys then some r else tabL t f xs)else tabL t f xs
theorem tabL_ok {C:Cx}:∀{L:List (FuncId × List AV × AV)},(∀e∈L,PureOK C e.1 e.2.1 e.2.2)→∀f xs r,tabL L f xs=some r→PureOK C f xs r
 | [],_,f,xs,r,e=>by simp[tabL]at e
 |
  (g,ys,r0)::t,h,f,xs,r,e=>by
  have ht:=tabL_ok (L:=t) (fun x hx=>h x (List.mem_cons_of_mem _ hx)) f xs r;unfold tabL at e;split at e
  ·rename_i hf;split at e
   ·rename_i hx;cases e;have h0:=h _ (List.mem_cons_self ..);rw[hf,eqvC_sound hx];exact h0
   ·exact ht e
  ·exact ht e
noncomputable def runK (C:Cx)(f:FuncId)(xs:List AV):Option AV:=match body1 C (callN C 90) f xs []with
 |some (r0,h')=>(snap h' 8 r0).map (C.nf f)
 |none=>none
theorem runK_ok {C:Cx}(hC:CxAll C){f:FuncId}{xs:List AV}{r:AV}(h:runK C f xs=some r):PureOK C f xs r:=by
 unfold runK at h;split at h
 ·rename_i r0 h' hb;obtain⟨r2,hr2,rfl⟩:=Ze.1 h;have hp:=pure_of_run hC hb hr2;exact fun w X vs h1 h2 h3 h4=>⟨(hp w X vs h1 h2 h3 h4).1,(hp w X vs h1 h2 h3 h4).2.mono fun e w' ⟨v,he,hst,hri⟩=>⟨v,he,hst,hC.nf f w' X v _ hri⟩⟩
 ·cases h
end Go.Ae
