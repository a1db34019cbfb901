/- Predicates without doubles: slices.CompactFunc at this program's list of predicates. -/
import Derived.Test.YtmocfjnklfpnbaaGreatDoorP35
import Derived.Test.YtmocfjnklfpnbaaGreatDoorP36
set_option linter.all false
set_option maxRecDepth 100000
namespace Go.Proofs.YtmocfjnklfpnbaaGreatDoor
open Go Go.Ae
section
attribute [local simp] aop aopW coldF extF putA ofConst flat scalarOp fastOp binFast intOp strOp guardX Ae.part rowOf szOk natOf lenA cls fillA newsOf isNilC cellX
set_option maxHeartbeats 32000000
noncomputable def kCF :Code:=(Tryz.f19.body).getD .skip
noncomputable def kCI :Code:=cL (cR (cL (cL (cR (cL (cL (cR (cL (cT 2 kCF)))))))))
noncomputable def kCB :Code:=cL (cL (cR (cL (cT 2 kCF))))
noncomputable def kCD :Code:=cL (cL (cR kCB))
theorem exRE {P:Prop}{call:Bool→FuncId→List AV→Hp→Option (AV × Hp)}{X:Option (Out × St)}{c:Code}{fr:List AV}{h:Hp}{K:List AV→Hp→Prop}(hX:exec2 cx call c (fr,h)=X)(H:∃fr' h',exec2 cx call c (fr,h)=some (.ret,(fr',h'))∧K fr' h')(fin:∀fr' h',X=some (.ret,(fr',h'))→K fr' h'→P):P:=by
 obtain⟨fr',h',e,k⟩:=H;exact fin fr' h' (hX.symm.trans e) k
theorem pdQ_app (a b:List Pr):pdQ (a++b)=pdQ a++pdQ b:=by simp[pdQ]
theorem pdQ_flen (Q:List Pr):(pdQ Q).flatten.length=Q.length*8:=by rw[flatten_length _ (pdQ_all Q),pdQ_length]
theorem pd_cells :∀{Q:List Pr} {i:Nat} {x:Pr},Q[i]?=some x→((pdQ Q).flatten.drop (i*8)).take 8=encP x
 | [],i,x,h=>by simp at h
 |
  q::Q,0,x,h=>by
  simp at h;subst h;rw[show pdQ (q::Q)=encP q::pdQ Q from rfl,List.flatten_cons,Nat.zero_mul,Yf];exact List.take_left' (encP_length q)
 |
  q::Q,i+1,x,h=>by
  rw[show pdQ (q::Q)=encP q::pdQ Q from rfl,List.flatten_cons,show(i+1)*8=8+i*8 by omega,←List.drop_drop,List.drop_left' (encP_length q)];exact pd_cells (by simpa using h)
theorem pd_splice (W P:List Pr)(x y:Pr):splice (pdQ (W++y::P)).flatten (W.length*8) (encP x)=(pdQ (W++x::P)).flatten:=by
 have hl:=pdQ_flen W;rw[pdQ_app,pdQ_app,List.flatten_append,List.flatten_append];unfold splice;rw[←hl,List.take_left' rfl,encP_length,←List.drop_drop,List.drop_left' rfl];rw[show pdQ (y::P)=encP y::pdQ P from rfl,show pdQ (x::P)=encP x::pdQ P from rfl,List.flatten_cons,List.flatten_cons,List.drop_left' (encP_length y),Zp]
theorem pdQ_calm1 (Q:List Pr):(pdQ Q).flatten.all calm1=true:=by
 refine calm1_rows fun r hr=>?_
 obtain⟨⟨k,n,y,⟨vk,vn,vd,vs,vz,vl⟩⟩,_,rfl⟩:=Yh.1 hr;cases vz<;>cases hE:(encL vl).isEmpty<;>simp[encP,enc,lsV,calm1,hE]
def SubR (R L:List Pr):Prop:=(∀x∈R,x∈L)∧∀x∈L,∃z∈R,ordP z x=0
theorem SubR.refl (hs:∀x,ordP x x=0)(L:List Pr):SubR L L:=⟨fun _ h=>h,fun x h=>⟨x,h,hs x⟩⟩
def CF (L:List Pr)(r:AV)(h:Hp):Prop:=∃R,SubR R L∧R.length≤L.length∧(∀n,Ae.snap h (n+1) r=some (bldV 8 (pdQ R)))∧∀v,r≠ .pn v
theorem cf_of {L R:List Pr}{h:Hp}{id w:Nat}{cs:List AV}(hS:SubR R L)(hR:R.length=w)(hle:R.length≤L.length)(h0:0<w)(hid:h[id]?=some (.row ((pdQ R).flatten++cs))):CF L (.sl id 8 0 w false) h:=by
 refine⟨R,hS,hle,fun n=>?_,fun v e=>by cases e⟩;have hq:=pdQ_length R;have hf:=pdQ_flen R;have:=snap_flat (h:=h) (n:=n) (id:=id) (sz:=8) (rows:=pdQ R) (cs:=(pdQ R).flatten++cs) (by omega) (pdQ_all R) (pdQ_calm1 R) (by rw[rowOf,hid]) (by rw[hq,←hf];exact List.take_left' rfl) (by rw[hq,Zu,hf];omega);rw[hq,hR]at this;rw[this];unfold bldV;cases R with
 |nil=>simp at hR;omega
 |cons a R=>rfl
theorem ce_eq (M:Nat)(t:Bool)(p q:Pr)(h:Hp)(c:Int)(ho:∀b h,callN cx M b 14 [evP p,evP q] h=some (.sc (.int .i64 c),h)):callN cx (M+1) t 20 [evP p,evP q] h=some (.sc (.bool (decide (c=0))),h++[.row (encP p),.row (encP q)]):=by
 rw[call_inl (n:=M) ⟨Tryz.f20.ntmps,(Tryz.f20.body).getD .skip,[.tmp 4]⟩ rfl (by kernel_rfl) (by kernel_rfl) (by kernel_rfl) (by kernel_rfl) (by simp[Tryz.f20])];unfold evP at ho⊢;have hp:=encP_length p;have hq:=encP_length q;have tp:(encP p).take 8=encP p:=List.take_of_length_le (by omega);have tq:(encP q).take 8=encP q:=List.take_of_length_le (by omega);generalize encP p=rp at *;generalize encP q=rq at *;simp[Tryz.f20,hp,hq,tp,tq,ho]
theorem cf_in (M id:Nat)(L:List Pr)(hL:L.length≤1000000000)(hs:∀x,ordP x x=0)(ht:∀x y z,ordP x y=0→ordP z y=0→ordP z x=0)(ho:∀p∈L,∀q∈L,∀t h,∃k,callN cx M t 20 [evP p,evP q] h=some (.sc (.bool (decide (ordP p q=0))),h++k))
 (a:Nat) (ha:1≤a) (haL:a<L.length) (x p:Pr) (hx:L[a]?=some x) (hp:L[a-1]?=some p) (he:ordP x p=0)
 (fr:List AV) (h:Hp) (hlen:fr.length=66) (g0:gt fr 0= .sl id 8 0 L.length false) (g1:gt fr 1= .fn 20 []) (g5:gt fr 5= .sc (.int .i64 (a:Nat))) (hid:h[id]?=some (.row (pdQ L).flatten)):
 ∃fr' h',exec2 cx (callN cx M) kCI (fr,h)=some (.ret,(fr',h'))∧CF L (gt fr' 4) h':=by
 rw[show kCI= .seq (cL kCI) (.seq (cL (cR kCI)) (cR (cR kCI))) by kernel_rfl];have st2:∀(W:List Pr) fr h,SubR W L→0<W.length→W.length<L.length→fr.length=66→gt fr 0= .sl id 8 0 L.length false→gt fr 5= .sc (.int .i64 (W.length:Nat))→h[id]?=some (.row (pdQ (W++L.drop W.length)).flatten)→∃fr' h',exec2 cx (callN cx M) (cR (cR kCI)) (fr,h)=some (.ret,(fr',h'))∧CF L (gt fr' 4) h':=by
  intro W fr h hW h0 hl hlen g0 g5 hid;have b1:W.length≤L.length:=by omega
  have b2:¬W.length=L.length:=by omega
  have b3:0<L.length-W.length:=by omega
  have b4:¬0=W.length:=by omega
  have hfl:=pdQ_flen (W++L.drop W.length);have b5:W.length*8+(L.length-W.length)*8≤(pdQ (W++L.drop W.length)).flatten.length:=by
   rw[hfl,Zu,List.length_drop];omega
  obtain⟨cs,hcs⟩:∃cs,splice (pdQ (W++L.drop W.length)).flatten (W.length*8) ((List.range (L.length-W.length)).flatMap fun _=> [.sc (.int .i64 0),.sc (.string ⟨#[]⟩),.sc (.string ⟨#[]⟩),.sc (.int .i64 0),.sc (.int .i64 0),.sc (.int .i64 0),.sc (.string ⟨#[]⟩),.sc (.slice none 0 0)])=(pdQ W).flatten++cs:=by
   unfold splice;rw[pdQ_app,List.flatten_append,←pdQ_flen W,List.take_left' rfl,Zp];exact⟨_,rfl⟩
  have hlt:=(Za.1 hid).1;have hfin:=cf_of (L:=L) (h:=h.set id (.row ((pdQ W).flatten++cs))) (id:=id) hW rfl b1 h0 (get_set_self hid);generalize(pdQ (W++L.drop W.length)).flatten=CS at *;generalize hm:L.length-W.length=m at *;generalize W.length=w at *;generalize L.length=n at *;simp[kCI,kCF,cT,cR,cL,Tryz.f19,hlen,g0,g5,sliceA,boundA,b1,b2,b4,clearA,hid,b3,b5,hcs,hm];refine⟨_,_,⟨rfl,rfl⟩,?_⟩;simp[hlen];exact hfin
 generalize cR (cR kCI)=Z at st2⊢;obtain⟨m,hm⟩:∃m,L.length-a=m:=⟨_,rfl⟩;have hm2:L.length=a+m:=by omega
 have b6:a≤L.length:=by omega
 have b7:¬a=L.length:=by omega
 have hm1:1≤m:=by omega
 have hz0:∀z∈L.take (a+1),∃y∈L.take a,ordP y z=0:=by
  intro z hz;rw[List.take_add_one,hx]at hz;rcases Ya.1 hz with hz|hz
  ·exact⟨z,hz,hs z⟩
  ·have:z=x:=by simpa using hz
   subst this;refine⟨p,?_,?_⟩
   ·rw[List.mem_iff_getElem?];exact⟨a-1,by rw[List.getElem?_take_of_lt (by omega)];exact hp⟩
   ·exact ht _ _ _ he (hs p)
 have hpos:(L.take a).length=a:=List.length_take_of_le (by omega);have hInv0:∃W,(∀z∈W,z∈L)∧(∀z∈L.take (a+0+1),∃y∈W,ordP y z=0)∧0<W.length∧W.length≤a+0∧gt fr 5= .sc (.int .i64 (W.length:Nat))∧h[id]?=some (.row (pdQ (W++L.drop W.length)).flatten):=
  ⟨L.take a,fun z hz=>List.mem_of_mem_take hz,hz0,by omega,by omega,by rw[hpos];exact g5,by rw[hpos,List.take_append_drop];exact hid⟩
 obtain⟨W0,w1,w2,w3,w4,w5,w6⟩:=hInv0;generalize hLn:L.length=n at *;simp[kCI,kCF,cT,cR,cL,Tryz.f19,hlen,g0,g5,sliceA,boundA,b6,b7,hm];generalize hXX:exec2 cx (callN cx M) (.loop _) _=XX;refine loopE hXX
  (fun i st=>st.1.length=66∧gt st.1 0= .sl id 8 0 n false∧gt st.1 1= .fn 20 []∧gt st.1 6= .sl id 8 (a*8) m false∧gt st.1 7= .sc (.int .i64 ((i:Nat)+1))∧∃W,(∀z∈W,z∈L)∧(∀z∈L.take (a+i+1),∃y∈W,ordP y z=0)∧0<W.length∧W.length≤a+i∧gt st.1 5= .sc (.int .i64 (W.length:Nat))∧st.2[id]?=some (.row (pdQ (W++L.drop W.length)).flatten))
  (fun o st=>o= .exit 2∧st.1.length=66∧gt st.1 0= .sl id 8 0 n false∧∃W,SubR W L∧0<W.length∧W.length<n∧gt st.1 5= .sc (.int .i64 (W.length:Nat))∧st.2[id]?=some (.row (pdQ (W++L.drop W.length)).flatten))
  (m-1) (by simp;omega) ⟨by simp[hlen],by simp[g0],by simp[g1],by simp[hlen],by simp[hlen],W0,w1,w2,w3,w4,by simp[w5],w6⟩ ?_ ?_
 ·clear hXX XX w1 w2 w3 w4 w5 w6 W0 hlen g0 g1 g5 hid hz0 st2 hx hp he x p;rintro i fr h hle ⟨hlen,g0,g1,g6,g7,W,w1,w2,w3,w4,g5,hid⟩;simp only at hlen g0 g1 g5 g6 g7 hid;by_cases hi:i+1<m
  ·obtain⟨x,hx⟩:∃x,L[a+i+1]?=some x:=⟨_,Zb (by omega)⟩;obtain⟨p,hp⟩:∃p,L[a+i]?=some p:=⟨_,Zb (by omega)⟩;obtain⟨y,hy⟩:∃y,L[W.length]?=some y:=⟨_,Zb (by omega)⟩;have hQ:∀j,W.length≤j→(W++L.drop W.length)[j]?=L[j]?:=fun j hj=>by
    rw[Zf hj,List.getElem?_drop,show W.length+(j-W.length)=j by omega]
   have c1:=pd_cells (Q:=W++L.drop W.length) (i:=a+i+1) (x:=x) (by rw[hQ _ (by omega)];exact hx);have c0:=pd_cells (Q:=W++L.drop W.length) (i:=a+i) (x:=p) (by rw[hQ _ (by omega)];exact hp);have hfl:=pdQ_flen (W++L.drop W.length);have hQl:(W++L.drop W.length).length=n:=by rw[Zu,List.length_drop,hLn];omega
   rw[hQl]at hfl;have k1:a*8+(i+1)*8+8≤n*8:=by omega
   have k0:a*8+i*8+8≤n*8:=by omega
   have kw:W.length*8+8≤n*8:=by omega
   have kwn:W.length<n:=by omega
   have k2:(i:Int)+1< (m:Int):=by omega
   have k3:i<m:=by omega
   have k4:¬(i:Int)+1<0:=by omega
   have k5:(0:Int)≤(i:Int)+1:=by omega
   have k6:i<m-1:=by omega
   rw[show(a+i+1)*8=a*8+(i+1)*8 by omega]at c1;rw[show(a+i)*8=a*8+i*8 by omega]at c0;have hxm:=Zi hx;have hpm:=Zi hp;obtain⟨k,f1⟩:=ho x hxm p hpm false h;have hxl:=encP_length x;have hpl:=encP_length p;have htk:L.take (a+(i+1)+1)=L.take (a+i+1)++[x]:=by
    rw[show a+(i+1)=a+i+1 by omega,List.take_add_one,hx];rfl
   have i15:i+1≤1000000000000000:=by omega
   have i15':i≤1000000000000000:=by omega
   have w15:W.length≤1000000000000000:=by omega
   have hid1:=get_app k hid;unfold evP at f1;by_cases hc:ordP x p=0
   ·have hInv:∀z∈L.take (a+(i+1)+1),∃y∈W,ordP y z=0:=by
     intro z hz;rw[htk]at hz;rcases Ya.1 hz with hz|hz
     ·exact w2 z hz
     ·have:z=x:=by simpa using hz
      subst this;obtain⟨y,hy1,hy2⟩:=w2 p (by rw[List.mem_iff_getElem?];exact⟨a+i,by rw[List.getElem?_take_of_lt (by omega)];exact hp⟩);exact⟨y,hy1,ht _ _ _ hc hy2⟩
    have w4':W.length≤a+(i+1):=by omega
    rw[decide_eq_true hc]at f1;generalize hCS:(pdQ (W++L.drop W.length)).flatten=CS at *;have hfa: -9223372036854775808≤(i:Int)∧(i:Int)≤9223372036854775807∧ -9223372036854775808≤(i:Int)+1+1∧(i:Int)+1+1≤9223372036854775807:=by omega
    have hfi:fitI .i64 (i:Int)=(i:Int):=fit_i64 hfa.1 hfa.2.1;have hf:fitI .i64 ((i:Int)+1+1)=(i:Int)+1+1:=fit_i64 hfa.2.2.1 hfa.2.2.2;simp[hlen,g0,g1,g5,g6,g7,k2,k3,k4,k5,hid,hfl,k1,k0,c1,c0,hfi,f1,hi,hf,k6];exact⟨W,w1,hInv,w3,w4',rfl,by rw[hCS];exact hid1⟩
   ·obtain⟨y,hy⟩:∃y,L[W.length]?=some y:=⟨_,Zb (by omega)⟩;have hsp:=pd_splice W (L.drop (W.length+1)) x y;rw[←drop_of hy]at hsp;have hWx:(W++[x]).length=W.length+1:=by simp
    have hsp2:(pdQ (W++x::L.drop (W.length+1))).flatten=(pdQ ((W++[x])++L.drop (W++[x]).length)).flatten:=by rw[hWx,Zp];rfl
    rw[hsp2]at hsp;have w1':∀z∈W++[x],z∈L:=fun z hz=>by
     rcases Ya.1 hz with hz|hz
     ·exact w1 z hz
     ·have:z=x:=by simpa using hz
      rw[this];exact hxm
    have hInv:∀z∈L.take (a+(i+1)+1),∃y∈W++[x],ordP y z=0:=by
     intro z hz;rw[htk]at hz;rcases Ya.1 hz with hz|hz
     ·obtain⟨y,h1,h2⟩:=w2 z hz;exact⟨y,Zy _ h1,h2⟩
     ·have:z=x:=by simpa using hz
      subst this;exact⟨z,Zk _ (by simp),hs z⟩
    have w3':0< (W++[x]).length:=by omega
    have w4':(W++[x]).length≤a+(i+1):=by omega
    have hid2:(List.set (h++k) id (.row (pdQ ((W++[x])++L.drop (W++[x]).length)).flatten))[id]?=some (.row (pdQ ((W++[x])++L.drop (W++[x]).length)).flatten):=get_set_self hid1;rw[decide_eq_false hc]at f1;generalize hCS2:(pdQ ((W++[x])++L.drop (W++[x]).length)).flatten=CS2 at *;generalize hCS:(pdQ (W++L.drop W.length)).flatten=CS at *;have hcx:(encP x).take 8=encP x:=List.take_of_length_le (by omega);have hfa: -9223372036854775808≤(i:Int)∧(i:Int)≤9223372036854775807∧ -9223372036854775808≤(i:Int)+1+1∧(i:Int)+1+1≤9223372036854775807:=by omega
    have hfi:fitI .i64 (i:Int)=(i:Int):=fit_i64 hfa.1 hfa.2.1;have hf:fitI .i64 ((i:Int)+1+1)=(i:Int)+1+1:=fit_i64 hfa.2.2.1 hfa.2.2.2;have hfw:=fit_succ w15;have hW1:((W++[x]).length:Int)=(W.length:Int)+1:=by rw[hWx];rfl
    clear hsp2 hWx;simp[hlen,g0,g1,g5,g6,g7,k2,k3,k4,k5,hid,hid1,hfl,k1,k0,kw,kwn,c1,c0,hxl,hfi,f1,hi,hf,hfw,hsp,k6];exact⟨W++[x],w1',hInv,w3',w4',by simp[hlen],by rw[hCS2];exact hid2⟩
  ·have hil:i+1=m:=by omega
   have k2:¬(i:Int)+1< (m:Int):=by omega
   have hSub:SubR W L:=⟨w1,fun z hz=>w2 z (by rw[List.take_of_length_le (by omega)];exact hz)⟩;have hWn:W.length<n:=by omega
   simp[hlen,g6,g7,k2];exact⟨g0,W,hSub,w3,hWn,g5,hid⟩
 ·rintro o fr' h' rfl ⟨rfl,hlen,g0,W,hSub,w3,hWn,g5,hid⟩;simp only at hlen g0 g5 hid;simp;exact st2 W fr' h' hSub w3 hWn hlen g0 g5 hid
theorem ordP_eqv (x y z:Pr)(h1:ordP x y=0)(h2:ordP z y=0):ordP z x=0:=by
 have a1:=ordP_neg x y;have a2:=ordP_neg z y;have b1:=ordP_tr z y x (by omega) (by omega);have b2:=ordP_tr x y z (by omega) (by omega);have:=ordP_neg x z;omega
theorem rd_compact (N D:Nat)(t:Bool)(L:List Pr)(y:AV)(h:Hp)(hy:Bld h 8 (pdQ L) y)(hl:L.length≤1000000000)(hb:∀p∈L,dep p.v≤D∧bdV p.v):
 ∃r h',callN cx (N+2*D+12) t 19 [y,.fn 20 []] h=some (r,h')∧CF L r h':=by
 have ho:∀p∈L,∀q∈L,∀t h,∃k,callN cx (N+2*D+11) t 20 [evP p,evP q] h=some (.sc (.bool (decide (ordP p q=0))),h++k):=fun p hp q hq t h=>by
  refine⟨_,ce_eq (N+2*D+10) t p q h (ordP p q) fun b h=>?_⟩;have:=pd_call (N+1) D p q (hb p hp) (hb q hq) b h
  rwa [show N+1+2*D+9=N+2*D+10 by omega]at this
 rw[call_inl (n:=N+2*D+11) ⟨Tryz.f19.ntmps,(Tryz.f19.body).getD .skip,[.tmp 4]⟩ rfl (by kernel_rfl) (by kernel_rfl) (by kernel_rfl) (by kernel_rfl) (by simp[Tryz.f19])];generalize N+2*D+11=M at *;have hfull:CF L y h:=⟨L,SubR.refl ordP_self L,Nat.le_refl _,fun n=>bld_snap (by omega) (pdQ_all L) (pdQ_calm1 L) hy,fun v=>hy.np v⟩;show∃r h',finX [.tmp 4] (exec2 cx (callN cx M) kCF ([y,.fn 20 []]++List.replicate 64 .un,h))=some (r,h')∧CF L r h';rw[show kCF= .seq (cL (cT 0 kCF)) (.seq (cL (cT 1 kCF)) (.seq (.seq (cL (cL (cT 2 kCF))) (.block 0 (.loop (.seq (cL kCB) (.seq (.block 1 (.seq (cL kCD) (.cond (.tmp 28) kCI .skip))) (cR (cR kCB))))))) (cT 3 kCF))) by kernel_rfl];rcases hy with⟨h1,rfl⟩|⟨h1,id,rfl,hid⟩
 ·generalize kCI=ZI;generalize cT 3 kCF=Z3;simp[kCB,kCD,kCF,cT,cR,cL,Tryz.f19];exact⟨_,_,⟨rfl,rfl⟩,hfull⟩
 rw[pdQ_length]at hfull⊢;have hL1:1≤L.length:=by
  rcases Nat.eq_zero_or_pos L.length with e|e
  ·rw[List.length_eq_zero_iff.1 e]at h1;exact absurd rfl h1
  ·exact e
 by_cases h2:L.length<2
 ·have h2':(L.length:Int)<2:=by omega
  generalize kCI=ZI;generalize cT 3 kCF=Z3;generalize L.length=n at *;simp[kCB,kCD,kCF,cT,cR,cL,Tryz.f19,h2,h2'];exact⟨_,_,⟨rfl,rfl⟩,hfull⟩
 have h2':¬(L.length:Int)<2:=by omega
 have s3:∀fr h,fr.length=66→gt fr 0= .sl id 8 0 L.length false→h[id]?=some (.row (pdQ L).flatten)→∃r h',finX [.tmp 4] (exec2 cx (callN cx M) (cT 3 kCF) (fr,h))=some (r,h')∧CF L r h':=by
  intro fr h hlen g0 hid;have hB:Bld h 8 (pdQ L) (.sl id 8 0 L.length false):= .inr ⟨h1,id,by rw[pdQ_length],hid⟩;have hfull:CF L (.sl id 8 0 L.length false) h:=⟨L,SubR.refl ordP_self L,Nat.le_refl _,fun n=>bld_snap (by omega) (pdQ_all L) (pdQ_calm1 L) hB,fun v=>hB.np v⟩;simp[kCF,cT,cR,cL,Tryz.f19,hlen,g0];exact⟨_,_,⟨rfl,rfl⟩,hfull⟩
 have ci:=fun a ha haL x p hx hp he fr h hlen g0 g1 g5 hid=>cf_in M id L hl ordP_self ordP_eqv ho a ha haL x p hx hp he fr h hlen g0 g1 g5 hid
 generalize kCI=ZI at ci⊢;generalize cT 3 kCF=Z3 at s3⊢;have hq:=pdQ_length L;have hfl:=pdQ_flen L;generalize hLn:L.length=n at *;clear hfull;simp[kCB,kCD,kCF,cT,cR,cL,Tryz.f19,h2'];generalize hXX:exec2 cx (callN cx M) (.loop _) _=XX;refine loopE hXX
  (fun i st=>st.1.length=66∧gt st.1 0= .sl id 8 0 n false∧gt st.1 1= .fn 20 []∧gt st.1 5= .sc (.int .i64 ((i:Nat)+1))∧st.2[id]?=some (.row (pdQ L).flatten))
  (fun o st=>(o= .exit 0∧st.1.length=66∧gt st.1 0= .sl id 8 0 n false∧st.2[id]?=some (.row (pdQ L).flatten))∨(o= .ret∧CF L (gt st.1 4) st.2))
  (n-1) (by simp;omega) ⟨by simp,by simp,by simp,by simp,hid⟩ ?_ ?_
 ·clear hXX XX hid s3 h;rintro i fr h hle ⟨hlen,g0,g1,g5,hid⟩;simp only at hlen g0 g1 g5 hid;by_cases hi:i+1<n
  ·obtain⟨x,hx⟩:∃x,L[i+1]?=some x:=⟨_,Zb (by omega)⟩;obtain⟨p,hp⟩:∃p,L[i]?=some p:=⟨_,Zb (by omega)⟩;have c1:=pd_cells hx;have c0:=pd_cells hp;obtain⟨k,f1⟩:=ho x (Zi hx) p (Zi hp) false h;have hid1:=get_app k hid;have k1:(i+1)*8+8≤n*8:=by omega
   have k0:i*8+8≤n*8:=by omega
   have k2:(i:Int)+1< (n:Int):=by omega
   have k3:i<n:=by omega
   have k4:¬(i:Int)+1<0:=by omega
   have k5:(0:Int)≤(i:Int)+1:=by omega
   have k6:i<n-1:=by omega
   have ci2:=ci (i+1) (by omega) hi x p hx (by rw[Nat.add_sub_cancel];exact hp);unfold evP at f1;have hfa: -9223372036854775808≤(i:Int)∧(i:Int)≤9223372036854775807∧ -9223372036854775808≤(i:Int)+1+1∧(i:Int)+1+1≤9223372036854775807:=by omega
   have hfi:fitI .i64 (i:Int)=(i:Int):=fit_i64 hfa.1 hfa.2.1;have hf:fitI .i64 ((i:Int)+1+1)=(i:Int)+1+1:=fit_i64 hfa.2.2.1 hfa.2.2.2;clear ci ho;by_cases hc:ordP x p=0
   ·rw[decide_eq_true hc]at f1;have ci3:=ci2 hc;clear ci2;generalize hCS:(pdQ L).flatten=CS at *;simp[hlen,g0,g1,g5,k2,k3,k4,k5,hid,hfl,k1,k0,c1,c0,hfi,f1,hi];generalize hEE:exec2 cx (callN cx M) ZI _=EE;refine exRE hEE (ci3 _ _ (by simp[hlen]) (by simp[g0]) (by simp[g1]) (by simp[g5]) hid1) ?_;rintro fr' h' rfl hCF;simp;exact hCF
   ·rw[decide_eq_false hc]at f1;clear ci2;generalize hCS:(pdQ L).flatten=CS at *;simp[hlen,g0,g1,g5,k2,k3,k4,k5,hid,hfl,k1,k0,c1,c0,hfi,f1,hi,hf,k6];exact hid1
  ·have k2:¬(i:Int)+1< (n:Int):=by omega
   simp[hlen,g0,g5,k2];exact hid
 ·rintro o fr' h' rfl hQ;simp only at hQ;rcases hQ with⟨rfl,hlen,g0,hid⟩|⟨rfl,hCF⟩
  ·simp;exact s3 fr' h' hlen g0 hid
  ·simp;exact⟨_,_,⟨rfl,rfl⟩,hCF⟩
noncomputable def kOF :Code:=(Tryz.f7.body).getD .skip
def readsF (q:List Cp):List Cp→Nat→List Pr
 | [],_=> []
 |c::l,i=>clauQ c (scopeE q (i:Int)).1++readsF q l (i+1)
def readsQ (q:List Cp):List Pr:=readsF q q 0
theorem clauQ_len (c:Cp)(K:Sco):(clauQ c K).length≤mCp c:=by
 have hlp:=flat_len (pthR c.kind K) mTp (pthR_len c.kind K) c.paths;have hlw:=flat_len (fun x=>exR x) (fun x=>2*cntX x) (fun x=>exR_len x) c.wher;have hle:=exR_len c.e;have hli:=flat_len (fun x:Ip=>exR x.e) (fun x=>2*cntX x.e) (fun x=>exR_len x.e) c.items;have hlo:=flat_len (fun x:Op'=>exR x.e) (fun x=>2*cntX x.e) (fun x=>exR_len x.e) c.order;have hls:=flat_len (fun x:Sp=>setQ K x) (fun x=>2*cntX x.e+2) (fun x=>setQ_len K x) c.sets;have hln:=flat_len (fun x:ByteArray=>namQ K x) (fun _=>1) (fun x=>elR_len _) c.names;have hd:(delQ c).length≤1:=by unfold delQ;split<;>simp
 unfold clauQ mCp;simp only[Zu];omega
theorem readsF_len (q:List Cp):∀(l:List Cp) (i:Nat),(readsF q l i).length≤(l.map mCp).sum
 | [],i=>by simp[readsF]
 |
  c::l,i=>by
  have h1:=clauQ_len c (scopeE q (i:Int)).1;have h2:=readsF_len q l (i+1);rw[readsF,Zu,List.map_cons,List.sum_cons];omega
def OF (q:List Cp)(r:Option (Out × St)):Prop:=∃R r0 h',finX [.tmp 2,.tmp 3,.tmp 4] r=some (.tp [r0,.sc (.int .i64 0),.sc (.int .i64 0)],h')∧SubR R (readsQ q)∧R.length≤(readsQ q).length∧(∀n,Ae.snap h' (n+1) r0=some (bldV 8 (pdQ R)))
theorem of_walk (D d M:Nat)(q:List Cp)(hb:∀c∈q,BdC D d c)(hb':∀c∈q,BbC D d c)(hr:∀c∈q,BrC D d c)(hl:q.length≤1000000)(hm:(q.map mCp).sum≤1000000000)(hpd:∀p∈readsQ q,dep p.v≤D∧bdV p.v)(hn:2*D+3*d+120≤M)(hok:(chkQ q).2.2=0):
 OF q (exec2 cx (callN cx M) kOF ([.ag (encQ q)]++List.replicate 46 .un,[])):=by
 rw[show kOF= .seq (cL (cT 0 kOF)) (.seq (cL (cT 1 kOF)) (.seq (cL (cT 2 kOF)) (.seq (cL (cT 3 kOF)) (cT 4 kOF)))) by kernel_rfl];obtain⟨cols,f1⟩:=bd_Check D d M true q [.row (encQ q)] hb hb' hl (by omega);rw[hok]at f1;have fs:=fun b (m:Int) h=>bd_Scope D d M b q m h hb hb' hl (by omega)
 have fc:=fun b K (hK:K.length≤24) l0 c h (hc:c∈q) hR hl=>rd_clause D d M b 1 K hK l0 c h hR (hr c hc) hl (by omega)
 have hT:(readsQ q).length≤(q.map mCp).sum:=readsF_len q q 0;have st4:∀fr h,fr.length=47→gt fr 8= .pt 1 0→RS 1 (readsQ q) h→OF q (exec2 cx (callN cx M) (cT 4 kOF) (fr,h)):=by
  rintro fr h hlen g8 ⟨y,h0,hB,hk⟩;obtain⟨L,h2,hp,f2,hB2,hk2⟩:=rd_sort (M-2*D-10) D true (readsQ q) y h hB (by omega) hpd;rw[show M-2*D-10+2*D+9+1=M by omega]at f2;have h02:h2[1]?=some (.row [y]):=by rw[hk2 1 (fun k n e=>(hk k n e).symm)];exact h0
  have hpd2:∀p∈L,dep p.v≤D∧bdV p.v:=fun p h=>hpd p (hp.mem_iff.1 h)
  obtain⟨r,h3,f3,R,hS,hRl,hsn,hnp⟩:=rd_compact (M-2*D-12) D true L y h2 hB2 (by rw[hp.length_eq];omega) hpd2;rw[show M-2*D-12+2*D+12=M by omega]at f3;have hS2:SubR R (readsQ q):=⟨fun x hx=>hp.mem_iff.1 (hS.1 x hx),fun x hx=>hS.2 x (hp.mem_iff.2 hx)⟩;rw[hp.length_eq]at hRl;have q1:=fun(ops:Array Oper) (dd:Tmp) (rest:List Oper) (fr:List AV) (h:Hp)=>opP_np (C:=cx) (cal:=callN cx M true) (ops:=ops) (fun v=>hB.np v) dd rest fr h
  have q2:=fun(ops:Array Oper) (dd:Tmp) (rest:List Oper) (fr:List AV) (h:Hp)=>opP_np (C:=cx) (cal:=callN cx M true) (ops:=ops) hnp dd rest fr h
  clear f1 fs fc;unfold OF;simp[kOF,cT,cR,cL,Tryz.f7,hlen,g8,h0,q1,f2,h02,f3,q2];exact⟨R,_,_,⟨rfl,rfl⟩,hS2,hRl,hsn⟩
 generalize cT 4 kOF=Z4 at st4⊢;have hq:=cpR_length q;have hg:=cpR_get q;have hy:∀v,bldV 1 (tsR cols)≠ .pn v:=fun v=>by unfold bldV;split<;>simp
 have q3:=fun(ops:Array Oper) (dd:Tmp) (rest:List Oper) (fr:List AV) (h:Hp)=>opP_np (C:=cx) (cal:=callN cx M true) (ops:=ops) hy dd rest fr h
 generalize hTL:readsQ q=TL at *;have hTL':readsF q q 0=TL:=hTL;clear hTL hok;generalize bldV 1 (tsR cols)=yc at *;generalize(chkQ q).2.1=i1 at *;have st3:∀fr h,fr.length=47→gt fr 1= .pt 0 0→gt fr 8= .pt 1 0→h=[.row (encQ q),.row [.sc (.slice none 0 0)]]→OF q (exec2 cx (callN cx M) (.seq (cL (cT 3 kOF)) Z4) (fr,h)):=by
  rintro fr h hlen g1 g8 hh;have hR0:RS 1 [] h:=by subst hh;exact⟨_,rfl,.inl ⟨rfl,rfl⟩,fun k m e=>by cases e⟩
  have hF0:Free 1 0 h:=by
   subst hh;refine⟨by omega,fun m e=>?_⟩;injection e with e
   injection e with e
   injection e with e _
   cases e
  have hh0:h[0]?=some (.row (encQ q)):=by subst hh;rfl
  clear hh f1;have hsl:=scopeE_len q;have henc:encQ q=[.ls 21 (cpR q) false]:=rfl;generalize cpR q=rows at *;simp[kOF,cT,cR,cL,Tryz.f7,hlen,g1,g8,hh0,henc,hq];generalize hXX:exec2 cx (callN cx M) (.loop _) _=XX;refine loopE hXX
   (fun i st=>st.1.length=47∧gt st.1 1= .pt 0 0∧gt st.1 8= .pt 1 0∧gt st.1 25= .ls 21 rows false∧gt st.1 26= .sc (.int .i64 (q.length:Nat))∧gt st.1 27= .sc (.int .i64 (i:Nat))∧st.2[0]?=some (.row (encQ q))∧Free 1 0 st.2∧∃l',RS 1 l' st.2∧l'.length+((q.drop i).map mCp).sum≤1000000000∧l'++readsF q (q.drop i) i=TL)
   (fun o st=>o= .exit 0∧st.1.length=47∧gt st.1 8= .pt 1 0∧RS 1 TL st.2)
   q.length (by simp;omega) ⟨by simp[hlen],by simp[g1],by simp[g8],by simp[hlen],by simp[hlen],by simp[hlen],hh0,hF0,[],hR0,by simpa using hm,by simpa using hTL'⟩ ?_ ?_
  ·clear hXX XX hTL' hR0 hF0 hh0 hlen g1 g8 st4;rintro i fr hp hle ⟨hlen,g1,g8,g25,g26,g27,gc,gcF,l',hR,hl',hT⟩;simp only at hlen g1 g8 g25 g26 g27 gc gcF hR;by_cases hi:i<q.length
   ·obtain⟨c,hx,hr,hr'⟩:=row_get hg hi;have hmem:=Zi hx;have hf0:i≤1000000000000000:=by omega
    rw[drop_of hx,List.map_cons,List.sum_cons]at hl';rw[drop_of hx,readsF,←Zp]at hT;have hlt:=hR.lt;have hRa:=hR.app [.row (encCp c)];have gca:=get_app [.row (encCp c)] gc;have gcFa:=free_app [.row (encCp c)] hlt gcF;have gp:(hp++[Blk.row (encCp c)])[hp.length]?=some (.row (encCp c)):=by simp
    obtain⟨h',f2,hR1,hKx⟩:=fc true (scopeE q (i:Int)).1 (hsl (i:Int)) l' c _ hmem hRa (by omega);obtain⟨gc1,gcF1⟩:=hKx _ _ gca gcFa;have hcl:=clauQ_len c (scopeE q (i:Int)).1;have hl2:(l'++clauQ c (scopeE q (i:Int)).1).length+((q.drop (i+1)).map mCp).sum≤1000000000:=by rw[Zu];omega
    have f1:=fun b h=>fs b (i:Int) h
    have hyk:∀v,bldV 2 (coR (scopeE q (i:Int)).1)≠ .pn v:=fun v=>by unfold bldV;split<;>simp
    have hec:(encCp c).length=21:=by simp[encCp,encX_length]
    have hct:(encCp c).take 21=encCp c:=List.take_of_length_le (by omega);have hsx:=fun(a0 a1 a2 a3 a4 a5 a6 a7 a8 a9 b0 b1 b2 b3 b4 b5 b6 b7 b8 b9 c0:AV)=>spX21 (ev:=encCp c) (z:=[a0,a1,a2,a3,a4,a5,a6,a7,a8,a9,b0,b1,b2,b3,b4,b5,b6,b7,b8,b9,c0]) hec rfl
    clear fs fc hsl hcl;generalize clauQ c (scopeE q (i:Int)).1=RQ at *;generalize bldV 2 (coR (scopeE q (i:Int)).1)=yk at *;generalize(scopeE q (i:Int)).2.1=u1 at *;generalize(scopeE q (i:Int)).2.2=u2 at *;have q4:=fun(ops:Array Oper) (dd:Tmp) (rest:List Oper) (fr:List AV) (h:Hp)=>opP_np (C:=cx) (cal:=callN cx M true) (ops:=ops) hyk dd rest fr h
    rw[henc]at *;generalize encCp c=row at *;generalize hjp:hp.length=jp at *;generalize hHH:hp++[Blk.row row]=hp1 at *;have hf:=fit_succ hf0;simp[hlen,g1,g8,g25,g26,g27,hi,hq,hr,hr',hec,hct,hsx,hHH,hjp,gca,gp,f1,q4,f2,hf];exact⟨gc1,gcF1,_,hR1,by simpa only[List.map_drop]using hl2,hT⟩
   ·have hil:i=q.length:=Yc hle (Yb hi);subst hil;rw[Yd,readsF,Yk]at hT;subst hT;simp[hlen,g26,g27];exact⟨g8,hR⟩
  ·rintro o fr' h' rfl ⟨rfl,hlen,g8,hR⟩;simp only at hlen g8 hR;simp;exact st4 fr' h' hlen g8 hR
 generalize Code.seq (cL (cT 3 kOF)) Z4=Z3 at st3⊢;have hsx1:encQ q=[.ls 21 (cpR q) false]:=rfl;generalize hE:AV.ls 21 (cpR q) false=E at *;simp only[hsx1]at f1 st3⊢;simp[kOF,cT,cR,cL,Tryz.f7,f1,q3];exact st3 _ _ (by simp) (by simp) (by simp) rfl
theorem fp_Of (D d n:Nat)(q:List Cp)(hb:∀c∈q,BdC D d c)(hb':∀c∈q,BbC D d c)(hr:∀c∈q,BrC D d c)(hl:q.length≤1000000)(hm:(q.map mCp).sum≤1000000000)(hpd:∀p∈readsQ q,dep p.v≤D∧bdV p.v)(hn:2*D+3*d+121≤n):
 ((chkQ q).2.2≠0∧∀b h,callN cx n b 7 [.ag (encQ q)] h=some (.tp [.sc (.slice none 0 0),.sc (.int .i64 (chkQ q).2.1),.sc (.int .i64 (chkQ q).2.2)],h))∨
 ((chkQ q).2.2=0∧∃R,SubR R (readsQ q)∧R.length≤(readsQ q).length∧∀b h,callN cx n b 7 [.ag (encQ q)] h=some (.tp [bldV 8 (pdQ R),.sc (.int .i64 0),.sc (.int .i64 0)],h)):=by
 obtain⟨M,rfl⟩:∃m,n=m+1:=⟨n-1,by omega⟩;by_cases hok:(chkQ q).2.2=0
 ·obtain⟨R,r0,h',e,hS,hRl,hsn⟩:=of_walk D d M q hb hb' hr hl hm hpd (by omega) hok;refine .inr ⟨hok,R,hS,hRl,fun b h=>?_⟩;refine pure_at (n:=M) (r:= .tp [r0,.sc (.int .i64 0),.sc (.int .i64 0)]) (h':=h') ⟨Tryz.f7.ntmps,(Tryz.f7.body).getD .skip,[.tmp 2,.tmp 3,.tmp 4]⟩ (by kernel_rfl) (by kernel_rfl) rfl (by kernel_rfl) (by simp[Tryz.f7]) rfl e ?_ b h;show([r0,_,_].mapM (Ae.snap h' 7)).map AV.tp=_;simp[hsn 6,Ae.snap]
 ·refine .inl ⟨hok,?_⟩;intro b h;obtain⟨cols,f1⟩:=bd_Check D d M true q [.row (encQ q)] hb hb' hl (by omega);have hy:∀v,bldV 1 (tsR cols)≠ .pn v:=fun v=>by unfold bldV;split<;>simp
  have q3:=fun(ops:Array Oper) (dd:Tmp) (rest:List Oper) (fr:List AV) (h:Hp)=>opP_np (C:=cx) (cal:=callN cx M true) (ops:=ops) hy dd rest fr h
  have hw:∃h',finX [.tmp 2,.tmp 3,.tmp 4] (exec2 cx (callN cx M) kOF ([.ag (encQ q)]++List.replicate 46 .un,[]))=some (.tp [.sc (.slice none 0 0),.sc (.int .i64 (chkQ q).2.1),.sc (.int .i64 (chkQ q).2.2)],h'):=by
   rw[show kOF= .seq (cL (cT 0 kOF)) (.seq (cL (cT 1 kOF)) (cT 2 kOF)) by kernel_rfl];generalize cT 2 kOF=Z2;have hsx1:encQ q=[.ls 21 (cpR q) false]:=rfl;generalize hE:AV.ls 21 (cpR q) false=E at *;simp only[hsx1]at f1⊢;generalize bldV 1 (tsR cols)=yc at *;generalize(chkQ q).2.1=i1 at *;generalize(chkQ q).2.2=i2 at *;simp[kOF,cT,cR,cL,Tryz.f7,f1,q3,hok]
  obtain⟨h',e⟩:=hw;refine pure_at (n:=M) (r:= .tp [.sc (.slice none 0 0),.sc (.int .i64 (chkQ q).2.1),.sc (.int .i64 (chkQ q).2.2)]) (h':=h') ⟨Tryz.f7.ntmps,(Tryz.f7.body).getD .skip,[.tmp 2,.tmp 3,.tmp 4]⟩ (by kernel_rfl) (by kernel_rfl) rfl (by kernel_rfl) (by simp[Tryz.f7]) rfl e rfl b h
end
end Go.Proofs.YtmocfjnklfpnbaaGreatDoor
