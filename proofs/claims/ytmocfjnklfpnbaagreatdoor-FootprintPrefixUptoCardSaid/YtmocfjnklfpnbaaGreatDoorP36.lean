/- The predicates that a query reads: the loops of a clause: the program's reads.clause. -/
import Derived.Test.YtmocfjnklfpnbaaGreatDoorP35
set_option linter.all false
set_option maxRecDepth 100000
namespace Go.Proofs.YtmocfjnklfpnbaaGreatDoor
open Go Go.Ae
section
attribute [local simp] aop aopW coldF extF putA ofConst flat scalarOp fastOp binFast intOp strOp guardX Ae.part rowOf szOk natOf lenA cls fillA newsOf isNilC cellX
set_option maxHeartbeats 32000000
noncomputable def kRC :Code:=(Tryz.f17.body).getD .skip
def setQ (K:Sco)(x:Sp):List Pr:=exR x.e++(elR (kndS K x.var)++(if eqS x.label emB=true then[]else[prd 2 x.label]))
def namQ (K:Sco)(nm:ByteArray):List Pr:=elR (kndS K nm)
theorem setQ_len (K:Sco)(x:Sp):(setQ K x).length≤2*cntX x.e+2:=by
 have h1:=exR_len x.e;have h2:=elR_len (kndS K x.var);unfold setQ;rw[Zu,Zu];split<;>simp<;>omega
def SQ (id hc:Nat)(yk:AV)(row:List AV)(fr:List AV)(h:Hp):Prop:=fr.length=106∧gt fr 0= .pt id 0∧gt fr 2=yk∧gt fr 4= .pt hc 0∧h[hc]?=some (.row row)∧Free id hc h
theorem rc_2 (D d M id hc:Nat)(K:Sco)(yk:AV)(hyk:yk=bldV 2 (coR K))(hK24:K.length≤24)(l:List Ep)(rows:List (List AV))(row:List AV)(hrow:row[4]?=some (.ls 9 rows false))(T:List Pr)(h0:Hp)(X:Code)
 (hq:rows.length=l.length) (hg:∀i:Nat,rows[i]?=(l[i]?).map encX) (hl:l.length≤1000000000) (hn:d+10≤M) (hb:∀x∈l,okX D d x) (l0:List Pr) (hl0:l0.length+(l.map fun x=>2*cntX x).sum≤1000000000)
 (hX:∀fr h,RS id (l0++l.flatMap fun x=>exR x) h→KR id h0 h→SQ id hc yk row fr h→PR id T h0 (exec2 cx (callN cx M) X (fr,h)))
 (fr:List AV) (h:Hp) (hR:RS id l0 h) (hK:KR id h0 h) (hS:SQ id hc yk row fr h):
 PR id T h0 (exec2 cx (callN cx M) (.seq (cL (cT 2 kRC)) X) (fr,h)):=by
 obtain⟨k0,e0⟩:∃k,M=k+d+1:=⟨M-d-1,by omega⟩;obtain⟨k1,e1⟩:∃k,M=k+1:=⟨M-1,by omega⟩;obtain⟨k2,e2⟩:∃k,M=k+2:=⟨M-2,by omega⟩;have fx:=fun b (l:List Pr) (e:Ep) h (he:okX D d e) hS hl=>rd_expr D d e he.1 he.2 k0 b id l h hS hl
 have fa:=fun(l:List Pr) k nm h hS hl=>rd_add k1 true id l k nm h hS hl
 have fel:=fun b (l:List Pr) k h hS hl=>rd_elem k2 b id l k h hS hl
 have fk:=fun b nm h=>fp_of k1 b K nm h (by omega)
 rw[←hyk,←e1]at fk;rw[←e0]at fx;rw[←e1]at fa;rw[←e2]at fel;clear e0 e1 e2 hn;have hyp:∀v,yk≠ .pn v:=fun v=>by rw[hyk];unfold bldV;split<;>simp
 have q2:=fun(ops:Array Oper) (dd:Tmp) (rest:List Oper) (fr:List AV) (h:Hp)=>opP_np (C:=cx) (cal:=callN cx M true) (ops:=ops) hyp dd rest fr h
 have q3:=fun(ops:Array Oper) (dd:Tmp) (rest:List Oper) (fr:List AV) (h:Hp)=>opN_np (C:=cx) (cal:=callN cx M false) (ops:=ops) hyp dd rest fr h
 clear hyk;obtain⟨hlen,g0,g2,g4,gc,gcF⟩:=hS;generalize hTL:(l0++l.flatMap fun x=>exR x)=TL at hX;simp[kRC,cT,cR,cL,Tryz.f17,hlen,g0,g2,g4,gc,hrow,hq];generalize hXX:exec2 cx (callN cx M) (.loop _) _=XX;refine loopE hXX
  (fun i st=>SQ id hc yk row st.1 st.2∧gt st.1 21= .ls 9 rows false∧gt st.1 22= .sc (.int .i64 (l.length:Nat))∧gt st.1 23= .sc (.int .i64 (i:Nat))∧∃l',RS id l' st.2∧KR id h0 st.2∧l'.length+((l.drop i).map fun x=>2*cntX x).sum≤1000000000∧(l'++(l.drop i).flatMap fun x=>exR x)=TL)
  (fun o st=>o= .exit 0∧SQ id hc yk row st.1 st.2∧RS id TL st.2∧KR id h0 st.2)
  l.length (by simp;omega) ⟨⟨by simp[hlen],by simp[g0],by simp[g2],by simp[g4],gc,gcF⟩,by simp[hlen],by simp[hlen],by simp[hlen],l0,hR,hK,hl0,hTL⟩ ?_ ?_
 ·clear hXX XX hTL hR hK hlen g0 g2 g4 gc gcF hX hl0;rintro i fr hp hle ⟨⟨hlen,g0,g2,g4,gc,gcF⟩,h1,h2,h3,l',hR,hK,hl',hTL⟩;simp only at hlen g0 g2 g4 gc gcF h1 h2 h3 hR hK;by_cases hi:i<l.length
  ·obtain⟨x,hx,hr,hr'⟩:=row_get hg hi;have hmem:=Zi hx;have hf0:i≤1000000000000000:=by omega
   rw[drop_of hx,List.map_cons,List.sum_cons]at hl';rw[drop_of hx,List.flatMap_cons,←Zp]at hTL;have hlt:=hR.lt;have hRa:=hR.app [.row (encX x)];have hKa:=hK.trans (KR.app (id:=id) [.row (encX x)] hlt);have gca:=get_app [.row (encX x)] gc;have gcFa:=free_app [.row (encX x)] hlt gcF;obtain⟨h',f1,hR1,hKx⟩:=fx true l' x _ (hb x hmem) hRa (by omega);obtain⟨gc1,gcF1⟩:=hKx _ _ gca gcFa;have hK1:=hKa.trans hKx;have hl2:(l'++exR x).length+((l.drop (i+1)).map fun x=>2*cntX x).sum≤1000000000:=by have:=exR_len x;rw[Zu];omega
   have hev:=encX_length x;generalize encX x=ev at hr hr' hev f1;have hev9:ev.take 9=ev:=List.take_of_length_le (by omega);have hsx:=spX9 hev;have hf:=fit_succ hf0;simp[hlen,g0,g2,g4,h1,h2,h3,hi,hq,hr,hr',hsx,hev,hev9,f1,hf];exact⟨⟨by simp[hlen],by simp[g0],by simp[g2],by simp[g4],gc1,gcF1⟩,_,hR1,hK1,by simpa only[List.map_drop]using hl2,hTL⟩
  ·have hil:i=l.length:=Yc hle (Yb hi);subst hil;rw[Yd,List.flatMap_nil,Yk]at hTL;subst hTL;simp[hlen,h2,h3];exact⟨⟨by simp[hlen],by simp[g0],by simp[g2],by simp[g4],gc,gcF⟩,hR,hK⟩
 ·rintro o fr' h' rfl ⟨rfl,hS,hR,hK⟩;simp;exact hX _ _ hR hK hS
theorem rc_4 (D d M id hc:Nat)(K:Sco)(yk:AV)(hyk:yk=bldV 2 (coR K))(hK24:K.length≤24)(l:List Ip)(rows:List (List AV))(row:List AV)(hrow:row[15]?=some (.ls 10 rows false))(T:List Pr)(h0:Hp)(X:Code)
 (hq:rows.length=l.length) (hg:∀i:Nat,rows[i]?=(l[i]?).map encIp) (hl:l.length≤1000000000) (hn:d+10≤M) (hb:∀x∈l,okX D d x.e) (l0:List Pr) (hl0:l0.length+(l.map fun x=>2*cntX x.e).sum≤1000000000)
 (hX:∀fr h,RS id (l0++l.flatMap fun x=>exR x.e) h→KR id h0 h→SQ id hc yk row fr h→PR id T h0 (exec2 cx (callN cx M) X (fr,h)))
 (fr:List AV) (h:Hp) (hR:RS id l0 h) (hK:KR id h0 h) (hS:SQ id hc yk row fr h):
 PR id T h0 (exec2 cx (callN cx M) (.seq (cL (cT 4 kRC)) X) (fr,h)):=by
 obtain⟨k0,e0⟩:∃k,M=k+d+1:=⟨M-d-1,by omega⟩;obtain⟨k1,e1⟩:∃k,M=k+1:=⟨M-1,by omega⟩;obtain⟨k2,e2⟩:∃k,M=k+2:=⟨M-2,by omega⟩;have fx:=fun b (l:List Pr) (e:Ep) h (he:okX D d e) hS hl=>rd_expr D d e he.1 he.2 k0 b id l h hS hl
 have fa:=fun(l:List Pr) k nm h hS hl=>rd_add k1 true id l k nm h hS hl
 have fel:=fun b (l:List Pr) k h hS hl=>rd_elem k2 b id l k h hS hl
 have fk:=fun b nm h=>fp_of k1 b K nm h (by omega)
 rw[←hyk,←e1]at fk;rw[←e0]at fx;rw[←e1]at fa;rw[←e2]at fel;clear e0 e1 e2 hn;have hyp:∀v,yk≠ .pn v:=fun v=>by rw[hyk];unfold bldV;split<;>simp
 have q2:=fun(ops:Array Oper) (dd:Tmp) (rest:List Oper) (fr:List AV) (h:Hp)=>opP_np (C:=cx) (cal:=callN cx M true) (ops:=ops) hyp dd rest fr h
 have q3:=fun(ops:Array Oper) (dd:Tmp) (rest:List Oper) (fr:List AV) (h:Hp)=>opN_np (C:=cx) (cal:=callN cx M false) (ops:=ops) hyp dd rest fr h
 clear hyk;obtain⟨hlen,g0,g2,g4,gc,gcF⟩:=hS;generalize hTL:(l0++l.flatMap fun x=>exR x.e)=TL at hX;simp[kRC,cT,cR,cL,Tryz.f17,hlen,g0,g2,g4,gc,hrow,hq];generalize hXX:exec2 cx (callN cx M) (.loop _) _=XX;refine loopE hXX
  (fun i st=>SQ id hc yk row st.1 st.2∧gt st.1 36= .ls 10 rows false∧gt st.1 37= .sc (.int .i64 (l.length:Nat))∧gt st.1 38= .sc (.int .i64 (i:Nat))∧∃l',RS id l' st.2∧KR id h0 st.2∧l'.length+((l.drop i).map fun x=>2*cntX x.e).sum≤1000000000∧(l'++(l.drop i).flatMap fun x=>exR x.e)=TL)
  (fun o st=>o= .exit 2∧SQ id hc yk row st.1 st.2∧RS id TL st.2∧KR id h0 st.2)
  l.length (by simp;omega) ⟨⟨by simp[hlen],by simp[g0],by simp[g2],by simp[g4],gc,gcF⟩,by simp[hlen],by simp[hlen],by simp[hlen],l0,hR,hK,hl0,hTL⟩ ?_ ?_
 ·clear hXX XX hTL hR hK hlen g0 g2 g4 gc gcF hX hl0;rintro i fr hp hle ⟨⟨hlen,g0,g2,g4,gc,gcF⟩,h1,h2,h3,l',hR,hK,hl',hTL⟩;simp only at hlen g0 g2 g4 gc gcF h1 h2 h3 hR hK;by_cases hi:i<l.length
  ·obtain⟨x,hx,hr,hr'⟩:=row_get hg hi;have hmem:=Zi hx;have hf0:i≤1000000000000000:=by omega
   rw[drop_of hx,List.map_cons,List.sum_cons]at hl';rw[drop_of hx,List.flatMap_cons,←Zp]at hTL;have hlt:=hR.lt;have hRa:=hR.app [.row (encIp x)];have hKa:=hK.trans (KR.app (id:=id) [.row (encIp x)] hlt);have gca:=get_app [.row (encIp x)] gc;have gcFa:=free_app [.row (encIp x)] hlt gcF;obtain⟨h',f1,hR1,hKx⟩:=fx true l' x.e _ (hb x hmem) hRa (by omega);obtain⟨gc1,gcF1⟩:=hKx _ _ gca gcFa;have hK1:=hKa.trans hKx;have hl2:(l'++exR x.e).length+((l.drop (i+1)).map fun x=>2*cntX x.e).sum≤1000000000:=by have:=exR_len x.e;rw[Zu];omega
   obtain⟨b0,b1,b2,b3,b4,b5,b6,b7,b8,he9⟩:=encX9 x.e;unfold encIp at hr hr' f1;rw[he9]at hr f1;simp only[he9]at hr';simp only[Zv,Zw]at hr hr' f1;have hsx:=spX10 (ev:=[b0,b1,b2,b3,b4,b5,b6,b7,b8,.sc (.string x.nm)]) rfl;have hev:True:=trivial;have hev9:True:=trivial;have hf:=fit_succ hf0;simp[hlen,g0,g2,g4,h1,h2,h3,hi,hq,hr,hr',hsx,hev,hev9,f1,hf];exact⟨⟨by simp[hlen],by simp[g0],by simp[g2],by simp[g4],gc1,gcF1⟩,_,hR1,hK1,by simpa only[List.map_drop]using hl2,hTL⟩
  ·have hil:i=l.length:=Yc hle (Yb hi);subst hil;rw[Yd,List.flatMap_nil,Yk]at hTL;subst hTL;simp[hlen,h2,h3];exact⟨⟨by simp[hlen],by simp[g0],by simp[g2],by simp[g4],gc,gcF⟩,hR,hK⟩
 ·rintro o fr' h' rfl ⟨rfl,hS,hR,hK⟩;simp;exact hX _ _ hR hK hS
theorem rc_5 (D d M id hc:Nat)(K:Sco)(yk:AV)(hyk:yk=bldV 2 (coR K))(hK24:K.length≤24)(l:List Op')(rows:List (List AV))(row:List AV)(hrow:row[16]?=some (.ls 10 rows false))(T:List Pr)(h0:Hp)(X:Code)
 (hq:rows.length=l.length) (hg:∀i:Nat,rows[i]?=(l[i]?).map encOp) (hl:l.length≤1000000000) (hn:d+10≤M) (hb:∀x∈l,okX D d x.e) (l0:List Pr) (hl0:l0.length+(l.map fun x=>2*cntX x.e).sum≤1000000000)
 (hX:∀fr h,RS id (l0++l.flatMap fun x=>exR x.e) h→KR id h0 h→SQ id hc yk row fr h→PR id T h0 (exec2 cx (callN cx M) X (fr,h)))
 (fr:List AV) (h:Hp) (hR:RS id l0 h) (hK:KR id h0 h) (hS:SQ id hc yk row fr h):
 PR id T h0 (exec2 cx (callN cx M) (.seq (cL (cT 5 kRC)) X) (fr,h)):=by
 obtain⟨k0,e0⟩:∃k,M=k+d+1:=⟨M-d-1,by omega⟩;obtain⟨k1,e1⟩:∃k,M=k+1:=⟨M-1,by omega⟩;obtain⟨k2,e2⟩:∃k,M=k+2:=⟨M-2,by omega⟩;have fx:=fun b (l:List Pr) (e:Ep) h (he:okX D d e) hS hl=>rd_expr D d e he.1 he.2 k0 b id l h hS hl
 have fa:=fun(l:List Pr) k nm h hS hl=>rd_add k1 true id l k nm h hS hl
 have fel:=fun b (l:List Pr) k h hS hl=>rd_elem k2 b id l k h hS hl
 have fk:=fun b nm h=>fp_of k1 b K nm h (by omega)
 rw[←hyk,←e1]at fk;rw[←e0]at fx;rw[←e1]at fa;rw[←e2]at fel;clear e0 e1 e2 hn;have hyp:∀v,yk≠ .pn v:=fun v=>by rw[hyk];unfold bldV;split<;>simp
 have q2:=fun(ops:Array Oper) (dd:Tmp) (rest:List Oper) (fr:List AV) (h:Hp)=>opP_np (C:=cx) (cal:=callN cx M true) (ops:=ops) hyp dd rest fr h
 have q3:=fun(ops:Array Oper) (dd:Tmp) (rest:List Oper) (fr:List AV) (h:Hp)=>opN_np (C:=cx) (cal:=callN cx M false) (ops:=ops) hyp dd rest fr h
 clear hyk;obtain⟨hlen,g0,g2,g4,gc,gcF⟩:=hS;generalize hTL:(l0++l.flatMap fun x=>exR x.e)=TL at hX;simp[kRC,cT,cR,cL,Tryz.f17,hlen,g0,g2,g4,gc,hrow,hq];generalize hXX:exec2 cx (callN cx M) (.loop _) _=XX;refine loopE hXX
  (fun i st=>SQ id hc yk row st.1 st.2∧gt st.1 48= .ls 10 rows false∧gt st.1 49= .sc (.int .i64 (l.length:Nat))∧gt st.1 50= .sc (.int .i64 (i:Nat))∧∃l',RS id l' st.2∧KR id h0 st.2∧l'.length+((l.drop i).map fun x=>2*cntX x.e).sum≤1000000000∧(l'++(l.drop i).flatMap fun x=>exR x.e)=TL)
  (fun o st=>o= .exit 4∧SQ id hc yk row st.1 st.2∧RS id TL st.2∧KR id h0 st.2)
  l.length (by simp;omega) ⟨⟨by simp[hlen],by simp[g0],by simp[g2],by simp[g4],gc,gcF⟩,by simp[hlen],by simp[hlen],by simp[hlen],l0,hR,hK,hl0,hTL⟩ ?_ ?_
 ·clear hXX XX hTL hR hK hlen g0 g2 g4 gc gcF hX hl0;rintro i fr hp hle ⟨⟨hlen,g0,g2,g4,gc,gcF⟩,h1,h2,h3,l',hR,hK,hl',hTL⟩;simp only at hlen g0 g2 g4 gc gcF h1 h2 h3 hR hK;by_cases hi:i<l.length
  ·obtain⟨x,hx,hr,hr'⟩:=row_get hg hi;have hmem:=Zi hx;have hf0:i≤1000000000000000:=by omega
   rw[drop_of hx,List.map_cons,List.sum_cons]at hl';rw[drop_of hx,List.flatMap_cons,←Zp]at hTL;have hlt:=hR.lt;have hRa:=hR.app [.row (encOp x)];have hKa:=hK.trans (KR.app (id:=id) [.row (encOp x)] hlt);have gca:=get_app [.row (encOp x)] gc;have gcFa:=free_app [.row (encOp x)] hlt gcF;obtain⟨h',f1,hR1,hKx⟩:=fx true l' x.e _ (hb x hmem) hRa (by omega);obtain⟨gc1,gcF1⟩:=hKx _ _ gca gcFa;have hK1:=hKa.trans hKx;have hl2:(l'++exR x.e).length+((l.drop (i+1)).map fun x=>2*cntX x.e).sum≤1000000000:=by have:=exR_len x.e;rw[Zu];omega
   obtain⟨b0,b1,b2,b3,b4,b5,b6,b7,b8,he9⟩:=encX9 x.e;unfold encOp at hr hr' f1;rw[he9]at hr f1;simp only[he9]at hr';simp only[Zv,Zw]at hr hr' f1;have hsx:=spX10 (ev:=[b0,b1,b2,b3,b4,b5,b6,b7,b8,.sc (.bool x.desc)]) rfl;have hev:True:=trivial;have hev9:True:=trivial;have hf:=fit_succ hf0;simp[hlen,g0,g2,g4,h1,h2,h3,hi,hq,hr,hr',hsx,hev,hev9,f1,hf];exact⟨⟨by simp[hlen],by simp[g0],by simp[g2],by simp[g4],gc1,gcF1⟩,_,hR1,hK1,by simpa only[List.map_drop]using hl2,hTL⟩
  ·have hil:i=l.length:=Yc hle (Yb hi);subst hil;rw[Yd,List.flatMap_nil,Yk]at hTL;subst hTL;simp[hlen,h2,h3];exact⟨⟨by simp[hlen],by simp[g0],by simp[g2],by simp[g4],gc,gcF⟩,hR,hK⟩
 ·rintro o fr' h' rfl ⟨rfl,hS,hR,hK⟩;simp;exact hX _ _ hR hK hS
theorem rc_6 (D d M id hc:Nat)(K:Sco)(yk:AV)(hyk:yk=bldV 2 (coR K))(hK24:K.length≤24)(l:List Sp)(rows:List (List AV))(row:List AV)(hrow:row[19]?=some (.ls 13 rows false))(T:List Pr)(h0:Hp)(X:Code)
 (hq:rows.length=l.length) (hg:∀i:Nat,rows[i]?=(l[i]?).map encSp) (hl:l.length≤1000000000) (hn:d+10≤M) (hb:∀x∈l,okX D d x.e) (l0:List Pr) (hl0:l0.length+(l.map fun x=>2*cntX x.e+2).sum≤1000000000)
 (hX:∀fr h,RS id (l0++l.flatMap fun x=>setQ K x) h→KR id h0 h→SQ id hc yk row fr h→PR id T h0 (exec2 cx (callN cx M) X (fr,h)))
 (fr:List AV) (h:Hp) (hR:RS id l0 h) (hK:KR id h0 h) (hS:SQ id hc yk row fr h):
 PR id T h0 (exec2 cx (callN cx M) (.seq (cL (cT 6 kRC)) X) (fr,h)):=by
 obtain⟨k0,e0⟩:∃k,M=k+d+1:=⟨M-d-1,by omega⟩;obtain⟨k1,e1⟩:∃k,M=k+1:=⟨M-1,by omega⟩;obtain⟨k2,e2⟩:∃k,M=k+2:=⟨M-2,by omega⟩;have fx:=fun b (l:List Pr) (e:Ep) h (he:okX D d e) hS hl=>rd_expr D d e he.1 he.2 k0 b id l h hS hl
 have fa:=fun(l:List Pr) k nm h hS hl=>rd_add k1 true id l k nm h hS hl
 have fel:=fun b (l:List Pr) k h hS hl=>rd_elem k2 b id l k h hS hl
 have fk:=fun b nm h=>fp_of k1 b K nm h (by omega)
 rw[←hyk,←e1]at fk;rw[←e0]at fx;rw[←e1]at fa;rw[←e2]at fel;clear e0 e1 e2 hn;have hyp:∀v,yk≠ .pn v:=fun v=>by rw[hyk];unfold bldV;split<;>simp
 have q2:=fun(ops:Array Oper) (dd:Tmp) (rest:List Oper) (fr:List AV) (h:Hp)=>opP_np (C:=cx) (cal:=callN cx M true) (ops:=ops) hyp dd rest fr h
 have q3:=fun(ops:Array Oper) (dd:Tmp) (rest:List Oper) (fr:List AV) (h:Hp)=>opN_np (C:=cx) (cal:=callN cx M false) (ops:=ops) hyp dd rest fr h
 clear hyk;obtain⟨hlen,g0,g2,g4,gc,gcF⟩:=hS;generalize hTL:(l0++l.flatMap fun x=>setQ K x)=TL at hX;simp[kRC,cT,cR,cL,Tryz.f17,hlen,g0,g2,g4,gc,hrow,hq];generalize hXX:exec2 cx (callN cx M) (.loop _) _=XX;refine loopE hXX
  (fun i st=>SQ id hc yk row st.1 st.2∧gt st.1 60= .ls 13 rows false∧gt st.1 61= .sc (.int .i64 (l.length:Nat))∧gt st.1 62= .sc (.int .i64 (i:Nat))∧∃l',RS id l' st.2∧KR id h0 st.2∧l'.length+((l.drop i).map fun x=>2*cntX x.e+2).sum≤1000000000∧(l'++(l.drop i).flatMap fun x=>setQ K x)=TL)
  (fun o st=>o= .exit 6∧SQ id hc yk row st.1 st.2∧RS id TL st.2∧KR id h0 st.2)
  l.length (by simp;omega) ⟨⟨by simp[hlen],by simp[g0],by simp[g2],by simp[g4],gc,gcF⟩,by simp[hlen],by simp[hlen],by simp[hlen],l0,hR,hK,hl0,hTL⟩ ?_ ?_
 ·clear hXX XX hTL hR hK hlen g0 g2 g4 gc gcF hX hl0;rintro i fr hp hle ⟨⟨hlen,g0,g2,g4,gc,gcF⟩,h1,h2,h3,l',hR,hK,hl',hTL⟩;simp only at hlen g0 g2 g4 gc gcF h1 h2 h3 hR hK;by_cases hi:i<l.length
  ·obtain⟨x,hx,hr,hr'⟩:=row_get hg hi;have hmem:=Zi hx;have hf0:i≤1000000000000000:=by omega
   rw[drop_of hx,List.map_cons,List.sum_cons]at hl';rw[drop_of hx,List.flatMap_cons,←Zp]at hTL;have hlt:=hR.lt;have hRa:=hR.app [.row (encSp x)];have hKa:=hK.trans (KR.app (id:=id) [.row (encSp x)] hlt);have gca:=get_app [.row (encSp x)] gc;have gcFa:=free_app [.row (encSp x)] hlt gcF;have gp:(hp++[Blk.row (encSp x)])[hp.length]?=some (.row (encSp x)):=by simp
   have gpF:=hR.free [.row (encSp x)];have hex:=exR_len x.e;have hel:=elR_len (kndS K x.var);obtain⟨ha,f1,hR1,hKx⟩:=fx true l' x.e _ (hb x hmem) hRa (by omega);obtain⟨gc1,gcF1⟩:=hKx _ _ gca gcFa;obtain⟨gp1,gpF1⟩:=hKx _ _ gp gpF;have hK1:=hKa.trans hKx;obtain⟨hb',f2,hR2,hKy⟩:=fel true _ (kndS K x.var) ha hR1 (by rw[Zu];omega);obtain⟨gc2,gcF2⟩:=hKy _ _ gc1 gcF1;obtain⟨gp2,gpF2⟩:=hKy _ _ gp1 gpF1;have hK2:=hK1.trans hKy;have f3:=fk true x.var ha;have hnxt:=fun(R:List Pr) (hR:R.length≤1)=>(show(l'++exR x.e++elR (kndS K x.var)++R).length+((l.drop (i+1)).map fun x=>2*cntX x.e+2).sum≤1000000000 by rw[Zu,Zu,Zu];omega)
   unfold setQ at hTL;rw[←Zp,←Zp]at hTL;change(l'++exR x.e++elR (kndS K x.var)++(if eqS x.label emB=true then[]else[prd 2 x.label])++(l.drop (i+1)).flatMap fun x=>setQ K x)=TL at hTL;obtain⟨b0,b1,b2,b3,b4,b5,b6,b7,b8,he9⟩:=encX9 x.e;unfold encSp at hr hr' f1 gp1 gp2 gp;rw[he9]at hr f1 gp1 gp2 gp;simp only[he9]at hr';have hsx:=spX13 (ev:=[.sc (.string x.var),.sc (.string x.key),.sc (.string x.label),.sc (.bool x.off),b0,b1,b2,b3,b4,b5,b6,b7,b8]) rfl;by_cases he:eqS x.label emB=true
   ·rw[if_pos he]at hTL;have hl2:=hnxt [] (by simp);rw[Yk]at hTL hl2;clear hnxt fx fa fel fk gpF gpF1 gpF2;generalize exR x.e=RE at *;generalize kndS K x.var=kk at *;generalize elR kk=RK at *;generalize hjp:hp.length=jp at *;generalize hHH:hp++[Blk.row [.sc (.string x.var),.sc (.string x.key),.sc (.string x.label),.sc (.bool x.off),b0,b1,b2,b3,b4,b5,b6,b7,b8]]=hp1 at *;unfold emB at he;have hf:=fit_succ hf0;simp[hlen,g0,g2,g4,h1,h2,h3,hi,hq,hr,hr',hsx,hHH,hjp,gp,f1,gp1,q2,q3,f3,f2,gp2,he,hf];exact⟨⟨by simp[hlen],by simp[g0],by simp[g2],by simp[g4],gc2,gcF2⟩,_,hR2,hK2,by simpa only[List.map_drop]using hl2,hTL⟩
   ·rw[if_neg he]at hTL;have hl2:=hnxt [prd 2 x.label] (by simp);obtain⟨hd,f4,hR3,hKz⟩:=fa _ 2 x.label hb' hR2 (by rw[Zu,Zu];omega);obtain⟨gc3,gcF3⟩:=hKz _ _ gc2 gcF2;have hK3:=hK2.trans hKz;clear hnxt fx fa fel fk gpF gpF1 gpF2;generalize exR x.e=RE at *;generalize kndS K x.var=kk at *;generalize elR kk=RK at *;generalize hjp:hp.length=jp at *;generalize hHH:hp++[Blk.row [.sc (.string x.var),.sc (.string x.key),.sc (.string x.label),.sc (.bool x.off),b0,b1,b2,b3,b4,b5,b6,b7,b8]]=hp1 at *;unfold emB at he;have hf:=fit_succ hf0;simp[hlen,g0,g2,g4,h1,h2,h3,hi,hq,hr,hr',hsx,hHH,hjp,gp,f1,gp1,q2,q3,f3,f2,gp2,he,f4,hf];exact⟨⟨by simp[hlen],by simp[g0],by simp[g2],by simp[g4],gc3,gcF3⟩,_,hR3,hK3,by simpa only[List.map_drop]using hl2,hTL⟩
  ·have hil:i=l.length:=Yc hle (Yb hi);subst hil;rw[Yd,List.flatMap_nil,Yk]at hTL;subst hTL;simp[hlen,h2,h3];exact⟨⟨by simp[hlen],by simp[g0],by simp[g2],by simp[g4],gc,gcF⟩,hR,hK⟩
 ·rintro o fr' h' rfl ⟨rfl,hS,hR,hK⟩;simp;exact hX _ _ hR hK hS
theorem rc_7 (D d M id hc:Nat)(K:Sco)(yk:AV)(hyk:yk=bldV 2 (coR K))(hK24:K.length≤24)(l:List ByteArray)(rows:List (List AV))(row:List AV)(hrow:row[20]?=some (.ls 1 rows false))(T:List Pr)(h0:Hp)(X:Code)
 (hq:rows.length=l.length) (hg:∀i:Nat,rows[i]?=(l[i]?).map (fun s=> [.sc (.string s)])) (hl:l.length≤1000000000) (hn:d+10≤M) (l0:List Pr) (hl0:l0.length+(l.map fun x=>1).sum≤1000000000)
 (hX:∀fr h,RS id (l0++l.flatMap fun x=>namQ K x) h→KR id h0 h→SQ id hc yk row fr h→PR id T h0 (exec2 cx (callN cx M) X (fr,h)))
 (fr:List AV) (h:Hp) (hR:RS id l0 h) (hK:KR id h0 h) (hS:SQ id hc yk row fr h):
 PR id T h0 (exec2 cx (callN cx M) (.seq (cL (cT 7 kRC)) X) (fr,h)):=by
 obtain⟨k0,e0⟩:∃k,M=k+d+1:=⟨M-d-1,by omega⟩;obtain⟨k1,e1⟩:∃k,M=k+1:=⟨M-1,by omega⟩;obtain⟨k2,e2⟩:∃k,M=k+2:=⟨M-2,by omega⟩;have fx:=fun b (l:List Pr) (e:Ep) h (he:okX D d e) hS hl=>rd_expr D d e he.1 he.2 k0 b id l h hS hl
 have fa:=fun(l:List Pr) k nm h hS hl=>rd_add k1 true id l k nm h hS hl
 have fel:=fun b (l:List Pr) k h hS hl=>rd_elem k2 b id l k h hS hl
 have fk:=fun b nm h=>fp_of k1 b K nm h (by omega)
 rw[←hyk,←e1]at fk;rw[←e0]at fx;rw[←e1]at fa;rw[←e2]at fel;clear e0 e1 e2 hn;have hyp:∀v,yk≠ .pn v:=fun v=>by rw[hyk];unfold bldV;split<;>simp
 have q2:=fun(ops:Array Oper) (dd:Tmp) (rest:List Oper) (fr:List AV) (h:Hp)=>opP_np (C:=cx) (cal:=callN cx M true) (ops:=ops) hyp dd rest fr h
 have q3:=fun(ops:Array Oper) (dd:Tmp) (rest:List Oper) (fr:List AV) (h:Hp)=>opN_np (C:=cx) (cal:=callN cx M false) (ops:=ops) hyp dd rest fr h
 clear hyk;obtain⟨hlen,g0,g2,g4,gc,gcF⟩:=hS;generalize hTL:(l0++l.flatMap fun x=>namQ K x)=TL at hX;simp[kRC,cT,cR,cL,Tryz.f17,hlen,g0,g2,g4,gc,hrow,hq];generalize hXX:exec2 cx (callN cx M) (.loop _) _=XX;refine loopE hXX
  (fun i st=>SQ id hc yk row st.1 st.2∧gt st.1 85= .ls 1 rows false∧gt st.1 86= .sc (.int .i64 (l.length:Nat))∧gt st.1 87= .sc (.int .i64 (i:Nat))∧∃l',RS id l' st.2∧KR id h0 st.2∧l'.length+((l.drop i).map fun x=>1).sum≤1000000000∧(l'++(l.drop i).flatMap fun x=>namQ K x)=TL)
  (fun o st=>o= .exit 8∧SQ id hc yk row st.1 st.2∧RS id TL st.2∧KR id h0 st.2)
  l.length (by simp;omega) ⟨⟨by simp[hlen],by simp[g0],by simp[g2],by simp[g4],gc,gcF⟩,by simp[hlen],by simp[hlen],by simp[hlen],l0,hR,hK,hl0,hTL⟩ ?_ ?_
 ·clear hXX XX hTL hR hK hlen g0 g2 g4 gc gcF hX hl0;rintro i fr hp hle ⟨⟨hlen,g0,g2,g4,gc,gcF⟩,h1,h2,h3,l',hR,hK,hl',hTL⟩;simp only at hlen g0 g2 g4 gc gcF h1 h2 h3 hR hK;by_cases hi:i<l.length
  ·obtain⟨x,hx,hr,hr'⟩:=row_get hg hi;have hmem:=Zi hx;have hf0:i≤1000000000000000:=by omega
   rw[drop_of hx,List.map_cons,List.sum_cons]at hl';rw[drop_of hx,List.flatMap_cons,←Zp]at hTL;have hlt:=hR.lt;have hel:=elR_len (kndS K x);obtain⟨h',f2,hR1,hKx⟩:=fel true _ (kndS K x) hp hR (by omega);obtain⟨gc1,gcF1⟩:=hKx _ _ gc gcF;have hK1:=hK.trans hKx;have f3:=fk true x hp;have hl2:(l'++elR (kndS K x)).length+((l.drop (i+1)).map fun _=>1).sum≤1000000000:=by rw[Zu];omega
   change(l'++elR (kndS K x)++(l.drop (i+1)).flatMap fun x=>namQ K x)=TL at hTL;generalize kndS K x=kk at *;generalize elR kk=RK at *;have hf:=fit_succ hf0;simp[hlen,g0,g2,g4,h1,h2,h3,hi,hq,hr,hr',q2,q3,f3,f2,hf];exact⟨⟨by simp[hlen],by simp[g0],by simp[g2],by simp[g4],gc1,gcF1⟩,_,hR1,hK1,by simpa only[List.map_drop]using hl2,hTL⟩
  ·have hil:i=l.length:=Yc hle (Yb hi);subst hil;rw[Yd,List.flatMap_nil,Yk]at hTL;subst hTL;simp[hlen,h2,h3];exact⟨⟨by simp[hlen],by simp[g0],by simp[g2],by simp[g4],gc,gcF⟩,hR,hK⟩
 ·rintro o fr' h' rfl ⟨rfl,hS,hR,hK⟩;simp;exact hX _ _ hR hK hS
def delQ (c:Cp):List Pr:=if c.kind=8∧c.opt=true then[prd 5 emB]else[]
def clauQ (c:Cp)(K:Sco):List Pr:=c.paths.flatMap (pthR c.kind K)++((c.wher.flatMap fun x=>exR x)++(exR c.e++((c.items.flatMap fun x=>exR x.e)++((c.order.flatMap fun x=>exR x.e)++((c.sets.flatMap fun x=>setQ K x)++((c.names.flatMap fun x=>namQ K x)++delQ c))))))
def mCp (c:Cp):Nat:=(c.paths.map mTp).sum+(c.wher.map fun x=>2*cntX x).sum+2*cntX c.e+(c.items.map fun x=>2*cntX x.e).sum+(c.order.map fun x=>2*cntX x.e).sum+(c.sets.map fun x=>2*cntX x.e+2).sum+(c.names.map fun _=>1).sum+1
theorem flat_len {α:Type}(f:α→List Pr)(g:α→Nat)(h:∀x,(f x).length≤g x)(l:List α):(l.flatMap f).length≤(l.map g).sum:=by
 induction l with
 |nil=>simp
 |cons x l ih=>have:=h x;rw[List.flatMap_cons,List.map_cons,List.sum_cons,Zu];omega
structure BrC (D d:Nat)(c:Cp):Prop where
 paths:∀p∈c.paths,brT D d p
 wher:∀e∈c.wher,okX D d e
 e:okX D d c.e
 items:∀x∈c.items,okX D d x.e
 order:∀x∈c.order,okX D d x.e
 sets:∀x∈c.sets,okX D d x.e
 n1:c.paths.length≤100000000
 n2:c.wher.length≤1000000000
 n3:c.items.length≤1000000000
 n4:c.order.length≤1000000000
 n5:c.sets.length≤1000000000
 n6:c.names.length≤1000000000
theorem rd_clause (D d n:Nat)(t:Bool)(id:Nat)(K:Sco)(hK24:K.length≤24)(l0:List Pr)(c:Cp)(h:Hp)(hR:RS id l0 h)(hb:BrC D d c)(hl:l0.length+mCp c≤1000000000)(hn:2*D+d+40≤n):
 ∃h',callN cx n t 17 [.pt id 0,.ag (encCp c),bldV 2 (coR K)] h=some (.tp [],h')∧RS id (l0++clauQ c K) h'∧KR id h h':=by
 obtain⟨M,rfl⟩:∃m,n=m+1:=⟨n-1,by omega⟩;rw[call_inl (n:=M) ⟨Tryz.f17.ntmps,(Tryz.f17.body).getD .skip,[]⟩ rfl (by kernel_rfl) (by kernel_rfl) (by kernel_rfl) (by kernel_rfl) (by simp[Tryz.f17])];have fpa:=fun b h (hR:RS id l0 h)=>rd_paths D d M b id K hK24 l0 c h hR hb.paths hb.n1 (by unfold mCp at hl;omega) (by omega)
 generalize hyk:bldV 2 (coR K)=yk;rw[hyk]at fpa;have hyp:∀v,yk≠ .pn v:=fun v=>by rw[←hyk];unfold bldV;split<;>simp
 obtain⟨k0,e0⟩:∃k,M=k+d+1:=⟨M-d-1,by omega⟩;obtain⟨k1,e1⟩:∃k,M=k+1:=⟨M-1,by omega⟩;have fx:=fun b (l:List Pr) h hS hl=>rd_expr D d c.e hb.e.1 hb.e.2 k0 b id l h hS hl
 have fa:=fun(l:List Pr) k nm h hS hl=>rd_add k1 true id l k nm h hS hl
 rw[←e0]at fx;rw[←e1]at fa;generalize hTL:l0++clauQ c K=TL;unfold clauQ at hTL;show PR id TL h (exec2 cx (callN cx M) kRC _);rw[show kRC= .seq (cL (cT 0 kRC)) (.seq (cL (cT 1 kRC)) (.seq (cL (cT 2 kRC)) (.seq (cL (cT 3 kRC)) (.seq (cL (cT 4 kRC)) (.seq (cL (cT 5 kRC)) (.seq (cL (cT 6 kRC)) (.seq (cL (cT 7 kRC)) (.seq (cL (cT 8 kRC)) (cT 9 kRC))))))))) by kernel_rfl];have hlt:=hR.lt;have hcr0:(encCp c)[0]?=some (.sc (.int .i64 c.kind)):=rfl;have hcr1:(encCp c)[1]?=some (.sc (.bool c.opt)):=rfl;have hcr0':∀k,(encCp c)[0]'k= .sc (.int .i64 c.kind):=fun k=>rfl
 have hcr1':∀k,(encCp c)[1]'k= .sc (.bool c.opt):=fun k=>rfl
 have hcl:(encCp c).length=21:=by simp[encCp,encX_length]
 have hct:(encCp c).take 21=encCp c:=List.take_of_length_le (by omega);have hr5:((encCp c).drop 5).take 9=encX c.e:=by
  obtain⟨a0,a1,a2,a3,a4,a5,a6,a7,a8,he9,hcc⟩:=encCp9 c;rw[he9,hcc];rfl
 have hmc:mCp c=(c.paths.map mTp).sum+(c.wher.map fun x=>2*cntX x).sum+2*cntX c.e+(c.items.map fun x=>2*cntX x.e).sum+(c.order.map fun x=>2*cntX x.e).sum+(c.sets.map fun x=>2*cntX x.e+2).sum+(c.names.map fun _=>1).sum+1:=rfl;have hlp:=flat_len (pthR c.kind K) mTp (pthR_len c.kind K) c.paths;have hlw:=flat_len (fun x=>exR x) (fun x=>2*cntX x) (fun x=>exR_len x) c.wher;have hle:=exR_len c.e;have hli:=flat_len (fun x:Ip=>exR x.e) (fun x=>2*cntX x.e) (fun x=>exR_len x.e) c.items;have hlo:=flat_len (fun x:Op'=>exR x.e) (fun x=>2*cntX x.e) (fun x=>exR_len x.e) c.order;have hls:=flat_len (fun x:Sp=>setQ K x) (fun x=>2*cntX x.e+2) (fun x=>setQ_len K x) c.sets;have hln:=flat_len (fun x:ByteArray=>namQ K x) (fun _=>1) (fun x=>elR_len _) c.names;have st8:∀(l':List Pr) fr hp,RS id l' hp→KR id h hp→SQ id h.length yk (encCp c) fr hp→l'.length≤1000000000→l'++delQ c=TL→PR id TL h (exec2 cx (callN cx M) (.seq (cL (cT 8 kRC)) (cT 9 kRC)) (fr,hp)):=by
  rintro l' fr hp hR hK ⟨hlen,g0,g2,g4,gc,gcF⟩ hl' hT;clear fpa fx hr5;unfold delQ at hT;generalize encCp c=row at *;generalize c.kind=kd at *;generalize c.opt=op at *;generalize h.length=hc at *;by_cases k8:kd=8
  ·subst k8;cases op
   ·simp at hT;subst hT;simp[kRC,cT,cR,cL,Tryz.f17,hlen,g0,g4,gc,hcl,hcr0,hcr1,hcr0',hcr1'];exact⟨hp,by simp[resR],hR,hK⟩
   ·simp at hT;obtain⟨h',f1,hR',hK'⟩:=fa l' 5 emB hp hR hl';rw[hT]at hR';unfold emB at f1;simp[kRC,cT,cR,cL,Tryz.f17,hlen,g0,g4,gc,hcl,hcr0,hcr1,hcr0',hcr1',f1];exact⟨h',by simp[resR],hR',hK.trans hK'⟩
  ·rw[if_neg (fun e=>k8 e.1),Yk]at hT;subst hT;simp[kRC,cT,cR,cL,Tryz.f17,hlen,g0,g4,gc,hcl,hcr0,hcr1,hcr0',hcr1',k8];exact⟨hp,by simp[resR],hR,hK⟩
 generalize Code.seq (cL (cT 8 kRC)) (cT 9 kRC)=Z8 at st8⊢;have st7:∀(l':List Pr) fr hp,RS id l' hp→KR id h hp→SQ id h.length yk (encCp c) fr hp→l'.length+(c.names.map fun _=>1).sum≤999999999→l'++((c.names.flatMap fun x=>namQ K x)++delQ c)=TL→PR id TL h (exec2 cx (callN cx M) (.seq (cL (cT 7 kRC)) Z8) (fr,hp)):=by
  intro l' fr hp hR hK hS hl' hT;exact rc_7 D d M id h.length K yk hyk.symm hK24 c.names (tsR c.names) (encCp c) (row15 c).2.2.2 TL h Z8 (tsR_length _) (tsR_get _) hb.n6 (by omega) l' (by omega) (fun fr' h' hR' hK' hS'=>st8 _ fr' h' hR' hK' hS' (by rw[Zu];omega) (by rw[Zp];exact hT)) fr hp hR hK hS
 generalize Code.seq (cL (cT 7 kRC)) Z8=Z7 at st7⊢;have st6:∀(l':List Pr) fr hp,RS id l' hp→KR id h hp→SQ id h.length yk (encCp c) fr hp→l'.length+(c.sets.map fun x=>2*cntX x.e+2).sum+(c.names.map fun _=>1).sum≤999999999→l'++((c.sets.flatMap fun x=>setQ K x)++((c.names.flatMap fun x=>namQ K x)++delQ c))=TL→PR id TL h (exec2 cx (callN cx M) (.seq (cL (cT 6 kRC)) Z7) (fr,hp)):=by
  intro l' fr hp hR hK hS hl' hT;exact rc_6 D d M id h.length K yk hyk.symm hK24 c.sets (spR c.sets) (encCp c) (row15 c).2.2.1 TL h Z7 (spR_length _) (spR_get _) hb.n5 (by omega) hb.sets l' (by omega) (fun fr' h' hR' hK' hS'=>st7 _ fr' h' hR' hK' hS' (by rw[Zu];omega) (by rw[Zp];exact hT)) fr hp hR hK hS
 generalize Code.seq (cL (cT 6 kRC)) Z7=Z6 at st6⊢;have st5:∀(l':List Pr) fr hp,RS id l' hp→KR id h hp→SQ id h.length yk (encCp c) fr hp→l'.length+(c.order.map fun x=>2*cntX x.e).sum+(c.sets.map fun x=>2*cntX x.e+2).sum+(c.names.map fun _=>1).sum≤999999999→l'++((c.order.flatMap fun x=>exR x.e)++((c.sets.flatMap fun x=>setQ K x)++((c.names.flatMap fun x=>namQ K x)++delQ c)))=TL→PR id TL h (exec2 cx (callN cx M) (.seq (cL (cT 5 kRC)) Z6) (fr,hp)):=by
  intro l' fr hp hR hK hS hl' hT;exact rc_5 D d M id h.length K yk hyk.symm hK24 c.order (opR c.order) (encCp c) (row15 c).2.1 TL h Z6 (opR_length _) (opR_get _) hb.n4 (by omega) hb.order l' (by omega) (fun fr' h' hR' hK' hS'=>st6 _ fr' h' hR' hK' hS' (by rw[Zu];omega) (by rw[Zp];exact hT)) fr hp hR hK hS
 generalize Code.seq (cL (cT 5 kRC)) Z6=Z5 at st5⊢;have st4:∀(l':List Pr) fr hp,RS id l' hp→KR id h hp→SQ id h.length yk (encCp c) fr hp→l'.length+(c.items.map fun x=>2*cntX x.e).sum+(c.order.map fun x=>2*cntX x.e).sum+(c.sets.map fun x=>2*cntX x.e+2).sum+(c.names.map fun _=>1).sum≤999999999→l'++((c.items.flatMap fun x=>exR x.e)++((c.order.flatMap fun x=>exR x.e)++((c.sets.flatMap fun x=>setQ K x)++((c.names.flatMap fun x=>namQ K x)++delQ c))))=TL→PR id TL h (exec2 cx (callN cx M) (.seq (cL (cT 4 kRC)) Z5) (fr,hp)):=by
  intro l' fr hp hR hK hS hl' hT;exact rc_4 D d M id h.length K yk hyk.symm hK24 c.items (ipR c.items) (encCp c) (row15 c).1 TL h Z5 (ipR_length _) (ipR_get _) hb.n3 (by omega) hb.items l' (by omega) (fun fr' h' hR' hK' hS'=>st5 _ fr' h' hR' hK' hS' (by rw[Zu];omega) (by rw[Zp];exact hT)) fr hp hR hK hS
 generalize Code.seq (cL (cT 4 kRC)) Z5=Z4 at st4⊢;have st3:∀(l':List Pr) fr hp,RS id l' hp→KR id h hp→SQ id h.length yk (encCp c) fr hp→l'.length+2*cntX c.e+(c.items.map fun x=>2*cntX x.e).sum+(c.order.map fun x=>2*cntX x.e).sum+(c.sets.map fun x=>2*cntX x.e+2).sum+(c.names.map fun _=>1).sum≤999999999→l'++(exR c.e++((c.items.flatMap fun x=>exR x.e)++((c.order.flatMap fun x=>exR x.e)++((c.sets.flatMap fun x=>setQ K x)++((c.names.flatMap fun x=>namQ K x)++delQ c)))))=TL→PR id TL h (exec2 cx (callN cx M) (.seq (cL (cT 3 kRC)) Z4) (fr,hp)):=by
  rintro l' fr hp hR hK ⟨hlen,g0,g2,g4,gc,gcF⟩ hl' hT;obtain⟨h',f1,hR',hK'⟩:=fx true l' hp hR (by omega);obtain⟨gc',gcF'⟩:=hK' _ _ gc gcF;have s4:=fun fr' hS'=>st4 _ fr' h' hR' (hK.trans hK') hS' (by rw[Zu];omega) (by rw[Zp];exact hT)
  have hex:=encX_length c.e;clear st4 st5 st6 st7 st8 hT hR hK hR' hK' fpa fx fa hlp hlw hle hli hlo hls hln hmc;generalize encX c.e=ev at *;generalize encCp c=row at *;generalize h.length=hc at *;simp[kRC,cT,cR,cL,Tryz.f17,hlen,g0,g4,gc,hcl,hr5,hex,f1];exact s4 _ ⟨by simp[hlen],by simp[g0],by simp[g2],by simp[g4],gc',gcF'⟩
 generalize Code.seq (cL (cT 3 kRC)) Z4=Z3 at st3⊢;have st2:∀(l':List Pr) fr hp,RS id l' hp→KR id h hp→SQ id h.length yk (encCp c) fr hp→l'.length+(c.wher.map fun x=>2*cntX x).sum+2*cntX c.e+(c.items.map fun x=>2*cntX x.e).sum+(c.order.map fun x=>2*cntX x.e).sum+(c.sets.map fun x=>2*cntX x.e+2).sum+(c.names.map fun _=>1).sum≤999999999→l'++((c.wher.flatMap fun x=>exR x)++(exR c.e++((c.items.flatMap fun x=>exR x.e)++((c.order.flatMap fun x=>exR x.e)++((c.sets.flatMap fun x=>setQ K x)++((c.names.flatMap fun x=>namQ K x)++delQ c))))))=TL→PR id TL h (exec2 cx (callN cx M) (.seq (cL (cT 2 kRC)) Z3) (fr,hp)):=by
  intro l' fr hp hR hK hS hl' hT;exact rc_2 D d M id h.length K yk hyk.symm hK24 c.wher (encXs c.wher) (encCp c) rfl TL h Z3 (encXs_length _) (encXs_get _) hb.n2 (by omega) hb.wher l' (by omega) (fun fr' h' hR' hK' hS'=>st3 _ fr' h' hR' hK' hS' (by rw[Zu];omega) (by rw[Zp];exact hT)) fr hp hR hK hS
 generalize Code.seq (cL (cT 2 kRC)) Z3=Z2 at st2⊢;obtain⟨h',f1,hR',hK'⟩:=fpa true _ (hR.app [.row (encCp c)]);have gc:(h++[Blk.row (encCp c)])[h.length]?=some (.row (encCp c)):=by simp
 have gcF:=hR.free [.row (encCp c)];obtain⟨gc',gcF'⟩:=hK' _ _ gc gcF;have s2:=fun fr' hS'=>st2 _ fr' h' hR' ((KR.app _ hlt).trans hK') hS' (by rw[Zu];omega) (by rw[Zp];exact hTL)
 have q2:=fun(ops:Array Oper) (dd:Tmp) (rest:List Oper) (fr:List AV) (h:Hp)=>opP_np (C:=cx) (cal:=callN cx M true) (ops:=ops) hyp dd rest fr h
 clear st2 st3 st4 st5 st6 st7 st8 hTL hR hR' hK' fpa fx fa hlp hlw hle hli hlo hls hln hmc hl;generalize encCp c=row at *;generalize hjc:h.length=hc at *;generalize hHH:h++[Blk.row row]=hp1 at *;simp[kRC,cT,cR,cL,Tryz.f17,hHH,hjc,gc,hcl,hct,q2,f1];refine s2 _ ?_;exact⟨by simp,by simp,by simp,by simp,gc',gcF'⟩
end
end Go.Proofs.YtmocfjnklfpnbaaGreatDoor
