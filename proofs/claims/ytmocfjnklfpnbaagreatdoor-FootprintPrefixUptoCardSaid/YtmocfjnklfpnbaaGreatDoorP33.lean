/- The predicates that a query reads: the program's reads.props and reads.edge, and the loops of reads.node. -/
import Derived.Test.YtmocfjnklfpnbaaGreatDoorP32
set_option linter.all false
set_option maxRecDepth 100000
namespace Go.Proofs.YtmocfjnklfpnbaaGreatDoor
open Go Go.Ae
section
attribute [local simp] aop aopW coldF extF putA ofConst flat scalarOp fastOp binFast intOp strOp guardX Ae.part rowOf szOk natOf lenA cls fillA newsOf isNilC cellX
set_option maxHeartbeats 32000000
def sumP (l:List Pp):Nat:=(l.map fun q=>cntX q.e).sum
def ppX (l:List Pp):List Pr:=l.flatMap fun q=>exR q.e
theorem ppX_len (l:List Pp):(ppX l).length≤2*sumP l:=by
 induction l with
 |nil=>simp[ppX]
 |
  cons q l ih=>
  have:=exR_len q.e;unfold ppX sumP at *;rw[List.flatMap_cons,Zu,List.map_cons,List.sum_cons];omega
theorem rd_props (D d n:Nat)(t:Bool)(id:Nat)(l:List Pr)(ps:List Pp)(h:Hp)(hS:RS id l h)(hb:∀q∈ps,okX D d q.e)(hpl:ps.length≤1000000000)(hl:l.length+2*sumP ps≤1000000000)(hn:d+5≤n):∃h',callN cx n t 84 [.pt id 0,.ls 10 (ppR ps) false] h=some (.tp [],h')∧RS id (l++ppX ps) h'∧KR id h h':=by
 obtain⟨M,rfl⟩:∃m,n=m+1:=⟨n-1,by omega⟩;obtain⟨k1,e1⟩:∃k,M=k+d+1:=⟨M-d-1,by omega⟩;rw[call_inl (n:=M) ⟨Tryz.f84.ntmps,(Tryz.f84.body).getD .skip,[]⟩ rfl (by kernel_rfl) (by kernel_rfl) (by kernel_rfl) (by kernel_rfl) (by simp[Tryz.f84])];have fx:=fun b (l:List Pr) (e:Ep) h (he:okX D d e) hS hl=>rd_expr D d e he.1 he.2 k1 b id l h hS hl
 rw[←e1]at fx;clear e1 hn;have hq:=ppR_length ps;have hg:=ppR_get ps;generalize ppR ps=rows at hq hg⊢;generalize hT:l++ppX ps=T;show PR id T h _;simp[Tryz.f84,hq];generalize hXX:exec2 cx (callN cx M) (.loop _) _=XX;refine loopE hXX
  (fun i st=>st.1.length=17∧gt st.1 0= .pt id 0∧gt st.1 6= .ls 10 rows false∧gt st.1 7= .sc (.int .i64 (ps.length:Nat))∧gt st.1 8= .sc (.int .i64 (i:Nat))∧∃l',RS id l' st.2∧KR id h st.2∧l'.length+2*sumP (ps.drop i)≤1000000000∧l'++ppX (ps.drop i)=T)
  (fun o st=>o= .exit 0∧RS id T st.2∧KR id h st.2)
  ps.length (by simp;omega) ⟨rfl,rfl,rfl,rfl,rfl,l,hS,KR.refl _ _,hl,hT⟩ ?_ ?_
 ·clear hXX XX hT hS hl l;rintro i fr hp hle ⟨hlen,g0,h6,h7,h8,l,hS,hK,hl,hT⟩;simp only at hlen g0 h6 h7 h8 hS hK;by_cases hi:i<ps.length
  ·obtain⟨x,hx,hr,hr'⟩:=row_get hg hi;have hf0:i≤1000000000000000:=by omega
   rw[drop_of hx]at hl hT;unfold sumP at hl;unfold ppX at hT;rw[List.map_cons,List.sum_cons]at hl;rw[List.flatMap_cons,←Zp]at hT;have hlt:=hS.lt;obtain⟨h',f1,hS',hK'⟩:=fx true l x.e _ (hb x (Zi hx)) (hS.app [.row (encPp x)]) (by omega);have hl':(l++exR x.e).length+2*sumP (ps.drop (i+1))≤1000000000:=by unfold sumP;have:=exR_len x.e;rw[Zu];omega
   have hK2:=(hK.trans (KR.app [.row (encPp x)] hlt)).trans hK';have hev:=encX_length x.e;unfold encPp at hr hr' f1;generalize encX x.e=ev at hr hr' f1 hev;have hev9:ev.take 9=ev:=List.take_of_length_le (by omega);have hsx:=spX10 (ev:= .sc (.string x.key)::ev) (by simp[hev]);have hf:=fit_succ hf0;simp[hlen,g0,h6,h7,h8,hi,hq,hr,hr',hev,hev9,hsx,f1,hf];exact⟨_,hS',hK2,hl',hT⟩
  ·have hil:i=ps.length:=Yc hle (Yb hi);subst hil;rw[Yd]at hT;unfold ppX at hT;rw[List.flatMap_nil,Yk]at hT;subst hT;simp[hlen,h7,h8];exact⟨hS,hK⟩
 ·rintro o fr' h' rfl ⟨rfl,hS,hK⟩;exact⟨h',by simp[resR],hS,hK⟩
noncomputable def kRG :Code:=(Tryz.f86.body).getD .skip
noncomputable def kRN :Code:=(Tryz.f85.body).getD .skip
theorem rg_1 (M id:Nat)(ps:List ByteArray)(rows:List (List AV))(j:Nat)(row:List AV)(hrow:row[1]?=some (.ls 1 rows false))(T:List Pr)(h0:Hp)(X:Code)(hq:rows.length=ps.length)(hg:∀i:Nat,rows[i]?=(ps[i]?).map (fun s=> [.sc (.string s)]))(hpl:ps.length≤500000000)(hn:1≤M)(l0:List Pr)(hl0:l0.length+ps.length≤1000000000)
 (hX:∀fr h l,RS id l h→KR id h0 h→l=l0++(ps.map fun x=>prd 5 x)→fr.length=37→gt fr 0= .pt id 0→gt fr 3= .pt j 0→h[j]?=some (.row row)→Free id j h→PR id T h0 (exec2 cx (callN cx M) X (fr,h)))
 (fr:List AV) (h:Hp) (hS:RS id l0 h) (hK:KR id h0 h) (hlen:fr.length=37) (g0:gt fr 0= .pt id 0) (g3:gt fr 3= .pt j 0) (gj:h[j]?=some (.row row)) (gF:Free id j h):PR id T h0 (exec2 cx (callN cx M) (.seq (cL (cT 2 kRG)) X) (fr,h)):=by
 obtain⟨k1,e1⟩:∃k,M=k+1:=⟨M-1,by omega⟩;have fa:=fun(l:List Pr) k nm h hS hl=>rd_add k1 true id l k nm h hS hl
 rw[←e1]at fa;clear e1 hn;generalize hTL:l0++(ps.map fun x=>prd 5 x)=TL at hX;simp[kRG,cT,cR,cL,Tryz.f86,hlen,g0,g3,gj,hrow,hq];generalize hXX:exec2 cx (callN cx M) (.loop _) _=XX;refine loopE hXX
  (fun i st=>st.1.length=37∧gt st.1 0= .pt id 0∧gt st.1 3= .pt j 0∧st.2[j]?=some (.row row)∧Free id j st.2∧gt st.1 15= .ls 1 rows false∧gt st.1 16= .sc (.int .i64 (ps.length:Nat))∧gt st.1 17= .sc (.int .i64 (i:Nat))∧∃l,RS id l st.2∧KR id h0 st.2∧l.length+(ps.length-i)≤1000000000∧l++((ps.drop i).map fun x=>prd 5 x)=TL)
  (fun o st=>o= .exit 0∧st.1.length=37∧gt st.1 0= .pt id 0∧gt st.1 3= .pt j 0∧st.2[j]?=some (.row row)∧Free id j st.2∧RS id TL st.2∧KR id h0 st.2)
  ps.length (by simp;omega) ⟨by simp[hlen],by simp[g0],by simp[g3],gj,gF,by simp[hlen],by simp[hlen],by simp[hlen],l0,hS,hK,by omega,hTL⟩ ?_ ?_
 ·clear hXX XX hTL hS hK hlen g0 g3 gj gF hX hl0;rintro i fr hp hle ⟨hlen,g0,g3,gj,gF,h1,h2,h3,l,hS,hK,hl,hTL⟩;simp only at hlen g0 g3 gj gF h1 h2 h3 hS hK;by_cases hi:i<ps.length
  ·obtain⟨x,hx,hr,hr'⟩:=row_get hg hi;have hf0:i≤1000000000000000:=by omega
   rw[drop_of hx,List.map_cons]at hTL;have hlt:=hS.lt;have hsx:True:=trivial;have hev:True:=trivial;have hev9:True:=trivial;have hK1:KR id hp hp:=KR.refl _ _;obtain⟨h',f1,hS',hK'⟩:=fa l 5 x hp hS (by omega);have hl':(l++[prd 5 x]).length+(ps.length-(i+1))≤1000000000:=by simp;omega
   have hK2:=(hK.trans hK1).trans hK';have gj2:=hK1 _ _ gj gF;have gj3:=hK' _ _ gj2.1 gj2.2;have hf:=fit_succ hf0;simp[hlen,g0,h1,h2,h3,hi,hq,hr,hr',hsx,hev,hev9,f1,hf,g3];refine⟨gj3.1,gj3.2,_,hS',hK2,hl',?_⟩;rw[←hTL];simp
  ·have hil:i=ps.length:=Yc hle (Yb hi);subst hil;rw[Yd,List.map_nil,Yk]at hTL;subst hTL;simp[hlen,h2,h3];exact⟨g0,g3,gj,gF,hS,hK⟩
 ·rintro o fr' h' rfl ⟨rfl,hlen,g0,g3,gj,gF,hS,hK⟩;simp;exact hX _ _ _ hS hK rfl hlen g0 g3 gj gF
theorem rg_2 (M id:Nat)(ps:List Pp)(rows:List (List AV))(j:Nat)(row:List AV)(hrow:row[6]?=some (.ls 10 rows false))(T:List Pr)(h0:Hp)(hq:rows.length=ps.length)(hg:∀i:Nat,rows[i]?=(ps[i]?).map (encPp))(hpl:ps.length≤500000000)(hn:1≤M)(l0:List Pr)(hl0:l0.length+ps.length≤1000000000)
 (hTL:l0++(ps.map fun x=>prd 6 x.key)=T)
 (fr:List AV) (h:Hp) (hS:RS id l0 h) (hK:KR id h0 h) (hlen:fr.length=37) (g0:gt fr 0= .pt id 0) (g3:gt fr 3= .pt j 0) (gj:h[j]?=some (.row row)) (gF:Free id j h):PR id T h0 (exec2 cx (callN cx M) (cT 3 kRG) (fr,h)):=by
 obtain⟨k1,e1⟩:∃k,M=k+1:=⟨M-1,by omega⟩;have fa:=fun(l:List Pr) k nm h hS hl=>rd_add k1 true id l k nm h hS hl
 rw[←e1]at fa;clear e1 hn;simp[kRG,cT,cR,cL,Tryz.f86,hlen,g0,g3,gj,hrow,hq];generalize hXX:exec2 cx (callN cx M) (.loop _) _=XX;refine loopE hXX
  (fun i st=>st.1.length=37∧gt st.1 0= .pt id 0∧gt st.1 3= .pt j 0∧st.2[j]?=some (.row row)∧Free id j st.2∧gt st.1 26= .ls 10 rows false∧gt st.1 27= .sc (.int .i64 (ps.length:Nat))∧gt st.1 28= .sc (.int .i64 (i:Nat))∧∃l,RS id l st.2∧KR id h0 st.2∧l.length+(ps.length-i)≤1000000000∧l++((ps.drop i).map fun x=>prd 6 x.key)=T)
  (fun o st=>o= .exit 2∧st.1.length=37∧gt st.1 0= .pt id 0∧gt st.1 3= .pt j 0∧st.2[j]?=some (.row row)∧Free id j st.2∧RS id T st.2∧KR id h0 st.2)
  ps.length (by simp;omega) ⟨by simp[hlen],by simp[g0],by simp[g3],gj,gF,by simp[hlen],by simp[hlen],by simp[hlen],l0,hS,hK,by omega,hTL⟩ ?_ ?_
 ·clear hXX XX hTL hS hK hlen g0 g3 gj gF hl0;rintro i fr hp hle ⟨hlen,g0,g3,gj,gF,h1,h2,h3,l,hS,hK,hl,hTL⟩;simp only at hlen g0 g3 gj gF h1 h2 h3 hS hK;by_cases hi:i<ps.length
  ·obtain⟨x,hx,hr,hr'⟩:=row_get hg hi;have hf0:i≤1000000000000000:=by omega
   rw[drop_of hx,List.map_cons]at hTL;have hlt:=hS.lt;have hev:=encX_length x.e;have hK1:KR id hp (hp++[.row (encPp x)]):=KR.app _ hlt;obtain⟨h',f1,hS',hK'⟩:=fa l 6 x.key _ (hS.app [.row (encPp x)]) (by omega);unfold encPp at hr hr' f1 hK1 hK';generalize encX x.e=ev at hr hr' f1 hev hK1 hK';have hsx:=spX10 (ev:= .sc (.string x.key)::ev) (by simp[hev]);have hev9:ev.take 9=ev:=List.take_of_length_le (by omega);have hl':(l++[prd 6 x.key]).length+(ps.length-(i+1))≤1000000000:=by simp;omega
   have hK2:=(hK.trans hK1).trans hK';have gj2:=hK1 _ _ gj gF;have gj3:=hK' _ _ gj2.1 gj2.2;have hf:=fit_succ hf0;simp[hlen,g0,h1,h2,h3,hi,hq,hr,hr',hsx,hev,hev9,f1,hf,g3];refine⟨gj3.1,gj3.2,_,hS',hK2,hl',?_⟩;rw[←hTL];simp
  ·have hil:i=ps.length:=Yc hle (Yb hi);subst hil;rw[Yd,List.map_nil,Yk]at hTL;subst hTL;simp[hlen,h2,h3];exact⟨g0,g3,gj,gF,hS,hK⟩
 ·rintro o fr' h' rfl ⟨rfl,hlen,g0,g3,gj,gF,hS,hK⟩;exact⟨h',by simp[resR],hS,hK⟩
theorem rn_1 (M id:Nat)(ps:List ByteArray)(rows:List (List AV))(z:Bool)(y5:AV)(T:List Pr)(h0:Hp)(X:Code)(hq:rows.length=ps.length)(hg:∀i:Nat,rows[i]?=(ps[i]?).map (fun s=> [.sc (.string s)]))(hpl:ps.length≤500000000)(hn:1≤M)(l0:List Pr)(hl0:l0.length+ps.length≤1000000000)
 (hX:∀fr h l,RS id l h→KR id h0 h→l=l0++(ps.map fun x=>prd 2 x)→fr.length=83→gt fr 0= .pt id 0→gt fr 5=y5→PR id T h0 (exec2 cx (callN cx M) X (fr,h)))
 (fr:List AV) (h:Hp) (hS:RS id l0 h) (hK:KR id h0 h) (hlen:fr.length=83) (g0:gt fr 0= .pt id 0) (g4:gt fr 4= .ls 1 rows z) (g5:gt fr 5=y5):PR id T h0 (exec2 cx (callN cx M) (.seq (cL (cT 3 kRN)) X) (fr,h)):=by
 obtain⟨k1,e1⟩:∃k,M=k+1:=⟨M-1,by omega⟩;have fa:=fun(l:List Pr) k nm h hS hl=>rd_add k1 true id l k nm h hS hl
 rw[←e1]at fa;clear e1 hn;generalize hTL:l0++(ps.map fun x=>prd 2 x)=TL at hX;simp[kRN,cT,cR,cL,Tryz.f85,hlen,g0,g4,hq];generalize hXX:exec2 cx (callN cx M) (.loop _) _=XX;refine loopE hXX
  (fun i st=>st.1.length=83∧gt st.1 0= .pt id 0∧gt st.1 5=y5∧gt st.1 62= .ls 1 rows z∧gt st.1 63= .sc (.int .i64 (ps.length:Nat))∧gt st.1 64= .sc (.int .i64 (i:Nat))∧∃l,RS id l st.2∧KR id h0 st.2∧l.length+(ps.length-i)≤1000000000∧l++((ps.drop i).map fun x=>prd 2 x)=TL)
  (fun o st=>o= .exit 0∧st.1.length=83∧gt st.1 0= .pt id 0∧gt st.1 5=y5∧RS id TL st.2∧KR id h0 st.2)
  ps.length (by simp;omega) ⟨by simp[hlen],by simp[g0],by simp[g5],by simp[hlen],by simp[hlen],by simp[hlen],l0,hS,hK,by omega,hTL⟩ ?_ ?_
 ·clear hXX XX hTL hS hK hlen g0 g4 g5 hX hl0;rintro i fr hp hle ⟨hlen,g0,g5,h1,h2,h3,l,hS,hK,hl,hTL⟩;simp only at hlen g0 g5 h1 h2 h3 hS hK;by_cases hi:i<ps.length
  ·obtain⟨x,hx,hr,hr'⟩:=row_get hg hi;have hf0:i≤1000000000000000:=by omega
   rw[drop_of hx,List.map_cons]at hTL;have hlt:=hS.lt;have hsx:True:=trivial;have hev:True:=trivial;have hev9:True:=trivial;have hK1:KR id hp hp:=KR.refl _ _;obtain⟨h',f1,hS',hK'⟩:=fa l 2 x hp hS (by omega);have hl':(l++[prd 2 x]).length+(ps.length-(i+1))≤1000000000:=by simp;omega
   have hK2:=(hK.trans hK1).trans hK';have hf:=fit_succ hf0;simp[hlen,g0,h1,h2,h3,hi,hq,hr,hr',hsx,hev,hev9,f1,hf,g5];refine⟨_,hS',hK2,hl',?_⟩;rw[←hTL];simp
  ·have hil:i=ps.length:=Yc hle (Yb hi);subst hil;rw[Yd,List.map_nil,Yk]at hTL;subst hTL;simp[hlen,h2,h3];exact⟨g0,g5,hS,hK⟩
 ·rintro o fr' h' rfl ⟨rfl,hlen,g0,g5,hS,hK⟩;simp;exact hX _ _ _ hS hK rfl hlen g0 g5
theorem rn_2 (M id:Nat)(ps:List Pp)(rows:List (List AV))(z:Bool)(T:List Pr)(h0:Hp)(hq:rows.length=ps.length)(hg:∀i:Nat,rows[i]?=(ps[i]?).map (encPp))(hpl:ps.length≤500000000)(hn:1≤M)(l0:List Pr)(hl0:l0.length+ps.length≤1000000000)
 (hTL:l0++(ps.map fun x=>prd 3 x.key)=T)
 (fr:List AV) (h:Hp) (hS:RS id l0 h) (hK:KR id h0 h) (hlen:fr.length=83) (g0:gt fr 0= .pt id 0) (g5:gt fr 5= .ls 10 rows z):PR id T h0 (exec2 cx (callN cx M) (cT 4 kRN) (fr,h)):=by
 obtain⟨k1,e1⟩:∃k,M=k+1:=⟨M-1,by omega⟩;have fa:=fun(l:List Pr) k nm h hS hl=>rd_add k1 true id l k nm h hS hl
 rw[←e1]at fa;clear e1 hn;simp[kRN,cT,cR,cL,Tryz.f85,hlen,g0,g5,hq];generalize hXX:exec2 cx (callN cx M) (.loop _) _=XX;refine loopE hXX
  (fun i st=>st.1.length=83∧gt st.1 0= .pt id 0∧gt st.1 72= .ls 10 rows z∧gt st.1 73= .sc (.int .i64 (ps.length:Nat))∧gt st.1 74= .sc (.int .i64 (i:Nat))∧∃l,RS id l st.2∧KR id h0 st.2∧l.length+(ps.length-i)≤1000000000∧l++((ps.drop i).map fun x=>prd 3 x.key)=T)
  (fun o st=>o= .exit 2∧st.1.length=83∧gt st.1 0= .pt id 0∧RS id T st.2∧KR id h0 st.2)
  ps.length (by simp;omega) ⟨by simp[hlen],by simp[g0],by simp[hlen],by simp[hlen],by simp[hlen],l0,hS,hK,by omega,hTL⟩ ?_ ?_
 ·clear hXX XX hTL hS hK hlen g0 g5 hl0;rintro i fr hp hle ⟨hlen,g0,h1,h2,h3,l,hS,hK,hl,hTL⟩;simp only at hlen g0 h1 h2 h3 hS hK;by_cases hi:i<ps.length
  ·obtain⟨x,hx,hr,hr'⟩:=row_get hg hi;have hf0:i≤1000000000000000:=by omega
   rw[drop_of hx,List.map_cons]at hTL;have hlt:=hS.lt;have hev:=encX_length x.e;have hK1:KR id hp (hp++[.row (encPp x)]):=KR.app _ hlt;obtain⟨h',f1,hS',hK'⟩:=fa l 3 x.key _ (hS.app [.row (encPp x)]) (by omega);unfold encPp at hr hr' f1 hK1 hK';generalize encX x.e=ev at hr hr' f1 hev hK1 hK';have hsx:=spX10 (ev:= .sc (.string x.key)::ev) (by simp[hev]);have hev9:ev.take 9=ev:=List.take_of_length_le (by omega);have hl':(l++[prd 3 x.key]).length+(ps.length-(i+1))≤1000000000:=by simp;omega
   have hK2:=(hK.trans hK1).trans hK';have hf:=fit_succ hf0;simp[hlen,g0,h1,h2,h3,hi,hq,hr,hr',hsx,hev,hev9,f1,hf];refine⟨_,hS',hK2,hl',?_⟩;rw[←hTL];simp
  ·have hil:i=ps.length:=Yc hle (Yb hi);subst hil;rw[Yd,List.map_nil,Yk]at hTL;subst hTL;simp[hlen,h2,h3];exact⟨g0,hS,hK⟩
 ·rintro o fr' h' rfl ⟨rfl,hlen,g0,hS,hK⟩;exact⟨h',by simp[resR],hS,hK⟩
def gpR' (x:Gp):List Pr:=(if x.types.length=0 then[prd 5 emB]else[])++x.types.map (fun s=>prd 5 s)++x.props.map fun q=>prd 6 q.key
theorem rd_edge (n:Nat)(t:Bool)(id:Nat)(l:List Pr)(x:Gp)(h:Hp)(hS:RS id l h)(h1:x.types.length≤400000000)(h2:x.props.length≤400000000)(hl:l.length+1+x.types.length+x.props.length≤1000000000)(hn:3≤n):∃h',callN cx n t 86 [.pt id 0,.ag (encGp x)] h=some (.tp [],h')∧RS id (l++gpR' x) h'∧KR id h h':=by
 obtain⟨M,rfl⟩:∃m,n=m+1:=⟨n-1,by omega⟩;obtain⟨k1,e1⟩:∃k,M=k+1:=⟨M-1,by omega⟩;rw[call_inl (n:=M) ⟨Tryz.f86.ntmps,(Tryz.f86.body).getD .skip,[]⟩ rfl (by kernel_rfl) (by kernel_rfl) (by kernel_rfl) (by kernel_rfl) (by simp[Tryz.f86])];have fa:=fun(l:List Pr) k nm h hS hl=>rd_add k1 true id l k nm h hS hl
 rw[←e1]at fa;show PR id (l++gpR' x) h (exec2 cx (callN cx M) kRG _);rw[show kRG= .seq (cL (cT 0 kRG)) (.seq (cL (cT 1 kRG)) (.seq (cL (cT 2 kRG)) (cT 3 kRG))) by kernel_rfl];have hlt:=hS.lt;have hS0:=hS.app [.row (encGp x)];have gF:=hS.free [.row (encGp x)];have gj:(h++[Blk.row (encGp x)])[h.length]?=some (.row (encGp x)):=by simp
 have hK0:KR id h (h++[.row (encGp x)]):=KR.app _ hlt;have rest:∀(l1:List Pr) fr h',RS id l1 h'→KR id h h'→l1++(x.types.map (fun s=>prd 5 s)++x.props.map fun q=>prd 6 q.key)=l++gpR' x→l1.length≤l.length+1→fr.length=37→gt fr 0= .pt id 0→gt fr 3= .pt h.length 0→h'[h.length]?=some (.row (encGp x))→Free id h.length h'→PR id (l++gpR' x) h (exec2 cx (callN cx M) (.seq (cL (cT 2 kRG)) (cT 3 kRG)) (fr,h')):=by
  intro l1 fr h' hS hK hT hl1 hlen g0 g3 gj gF;refine rg_1 M id x.types (tsR x.types) h.length (encGp x) rfl _ h _ (tsR_length _) (tsR_get _) (by omega) (by omega) l1 (by omega) ?_ fr h' hS hK hlen g0 g3 gj gF;rintro fr h' _ hS hK rfl hlen g0 g3 gj gF;refine rg_2 M id x.props (ppR x.props) h.length (encGp x) rfl _ h (ppR_length _) (ppR_get _) (by omega) (by omega) _ (by simp;omega) ?_ fr h' hS hK hlen g0 g3 gj gF;rw[Zp];exact hT
 generalize Code.seq (cL (cT 2 kRG)) (cT 3 kRG)=Z at rest⊢;have hq:=tsR_length x.types;by_cases h0:x.types.length=0
 ·obtain⟨h',f1,hS',hK'⟩:=fa l 5 emB _ hS0 (by omega);obtain⟨gj1,gF1⟩:=hK' _ _ gj gF;have rs:=fun fr=>rest _ fr h' hS' (hK0.trans hK') (by unfold gpR';rw[if_pos h0];simp) (by simp)
  unfold emB at f1;unfold encGp at *;generalize tsR x.types=rt at *;generalize ppR x.props=rp at *;simp[kRG,cT,cR,cL,Tryz.f86,hq,h0,f1];exact rs _ (by simp) (by simp) (by simp) gj1 gF1
 ·have rs:=fun fr=>rest l fr _ hS0 hK0 (by unfold gpR';rw[if_neg h0];simp) (by omega)
  unfold encGp at *;generalize tsR x.types=rt at *;generalize ppR x.props=rp at *;have h0':¬(x.types.length:Int)=0:=by omega
  simp[kRG,cT,cR,cL,Tryz.f86,hq,h0,h0'];exact rs _ (by simp) (by simp) (by simp) gj gF
theorem slow_cap {e:Operand→AV}{d:Option Tmp}{x:Operand}{ty:TypeId}{p:String}{a:Array Edge}{g:Option (Nat × Bool)}(he:e x= .sc (.slice none 0 0)):
 slowOp cx e {dst:=d,op:= .call {callee:= .builtin .cap,args:= #[x],argTypes:= #[52]},type:=ty,pos:=p,after:=a,guard:=g}=some (.sc (.int .i64 0)):=by
 simp only[slowOp,isSelect,Op.operands,Go.Call.operands];simp[isDet,he,detOf,execOp,resolve,invoke,builtin]
 kernel_rfl
theorem slow_slice {e:Operand→AV}{d:Option Tmp}{x y:Operand}{ty:TypeId}{p:String}{a:Array Edge}{g:Option (Nat × Bool)}(he:e x= .sc (.slice none 0 0))(hy:e y= .sc (.int .i64 0)):
 slowOp cx e {dst:=d,op:= .slice 52 x none (some y) none,type:=ty,pos:=p,after:=a,guard:=g}=some (.sc (.slice none 0 0)):=by
 simp only[slowOp,isSelect,Op.operands];simp[isDet,he,hy,detOf,execOp,resolve,invoke,builtin]
 kernel_rfl
theorem isInt_int :isIntT cx 3=true:=by kernel_rfl
theorem m_Grow0 (n:Nat)(b:Bool)(h:Hp):callN cx (n+1) b 228 [.sc (.slice none 0 0),.sc (.int .i64 0)] h=some (.sc (.slice none 0 0),h):=by
 kernel_rfl
theorem m_Grow (n:Nat)(b:Bool)(m:Nat)(h:Hp)(hm:0<m)(hm2:m≤1000000000):callN cx (n+1) b 228 [.sc (.slice none 0 0),.sc (.int .i64 (m:Nat))] h=some (.sl h.length 10 0 0 false,h++[.row ((List.range m).flatMap fun _=> [.sc (.string ⟨#[]⟩),.sc (.int .i64 0),.sc (.int .i64 0),.sc (.int .i64 0),.sc (.int .i64 0),.sc (.string ⟨#[]⟩),.sc (.slice none 0 0),.sc (.string ⟨#[]⟩),.sc (.bool false),.sc (.slice none 0 0)])]):=by
 rw[call_inl (n:=n) ⟨Tryz.f228.ntmps,(Tryz.f228.body).getD .skip,[.tmp 4]⟩ rfl (by kernel_rfl) (by kernel_rfl) (by kernel_rfl) (by kernel_rfl) (by simp[Tryz.f228])];have hz:zerosA cx h 52 3 (.sc (.slice none 0 0)) (.sc (.int .i64 (m:Nat)))=some (.sl h.length 10 0 m false,h++[.row ((List.range m).flatMap fun _=> [.sc (.string ⟨#[]⟩),.sc (.int .i64 0),.sc (.int .i64 0),.sc (.int .i64 0),.sc (.int .i64 0),.sc (.string ⟨#[]⟩),.sc (.slice none 0 0),.sc (.string ⟨#[]⟩),.sc (.bool false),.sc (.slice none 0 0)])]):=by
  have h1:natOf (.sc (.int .i64 (m:Int)))=some m:=by simp[natOf]
  simp only[zerosA,T_qPPs,h1,isInt_int];rw[if_pos ⟨trivial,hm,by unfold maxLen;omega,by omega⟩];rfl
 have hm':(0:Int)< (m:Int):=by omega
 have hm0:¬(m:Int)<0:=by omega
 have hf00:fitI .i64 0=0:=by kernel_rfl
 have hf:fitI .i64 ((m:Int)-0)=(m:Int):=by rw[fit_i64 (by omega) (by omega)];omega
 have hlen:(((List.range m).flatMap fun _=>([.sc (.string ⟨#[]⟩),.sc (.int .i64 0),.sc (.int .i64 0),.sc (.int .i64 0),.sc (.int .i64 0),.sc (.string ⟨#[]⟩),.sc (.slice none 0 0),.sc (.string ⟨#[]⟩),.sc (.bool false),.sc (.slice none 0 0)]:List AV))).length=m*10:=by
  rw[List.length_flatMap];simp[List.map_const']
 generalize((List.range m).flatMap fun _=>([.sc (.string ⟨#[]⟩),.sc (.int .i64 0),.sc (.int .i64 0),.sc (.int .i64 0),.sc (.int .i64 0),.sc (.string ⟨#[]⟩),.sc (.slice none 0 0),.sc (.string ⟨#[]⟩),.sc (.bool false),.sc (.slice none 0 0)]:List AV))=Z at *;generalize hL:(m:Int)=L at *;simp[Tryz.f228,hm0];rw[slow_cap (by rfl)];simp[hf00];rw[show L-0=L by omega]at hf;simp[hf,hm'];rw[slow_cap (by rfl)];simp;rw[slow_slice (by rfl) (by rfl)];have hz10:10≤Z.length:=by clear hf hf00;omega
 simp[hz,coldA,boundA,hz10]
theorem app_room {t:TypeId}{i:Ti}{sz bytes:Nat}{ag:Bool}{ez:List Value}(hT:cx.T t=some i)(hk:i.kd= .slice sz ag bytes ez)(R rows:List (List AV))(rest:List AV)(z:Bool)(hR:∀r∈R,r.length=sz)(hr:∀r∈rows,r.length=sz)(hroom:rows.length*sz≤rest.length):
 appendA cx [.row (R.flatten++rest)] t (.sl 0 sz 0 R.length false) (.ls sz rows z)=some (.sl 0 sz 0 (R.length+rows.length) false,[.row ((R++rows).flatten++rest.drop (rows.length*sz))]):=by
 obtain⟨size,agg,zero,kd⟩:=i;simp only at hk;subst hk;have hnews:newsOf [.row (R.flatten++rest)] (.ls sz rows z)=some (rows.length,rows.flatten):=by simp[newsOf]
 have h1:=flatten_length R hR;have h2:=flatten_length rows hr;unfold appendA;rw[hT];simp only[szOk,beq_self_eq_true,Bool.and_self,if_true,hnews];by_cases h0:rows.length=0
 ·have:rows=[]:=List.length_eq_zero_iff.1 h0;subst this;simp
 ·rw[if_neg h0];have hg:([Blk.row (R.flatten++rest)])[0]?=some (.row (R.flatten++rest)):=rfl;simp only[hg];rw[if_pos (by rw[Zu,Nat.add_mul,h1];omega)]
  congr 1
  congr 1
  simp only[List.set_cons_zero,splice,Nat.zero_add]
  congr 1
  congr 1
  rw[←h1,List.take_left,←Zu,←List.flatten_append];rw[List.flatten_append,Zu,h2,Zp,←List.drop_drop,List.drop_left,←Zp]
@[simp] theorem T_qPPL :cx.T 281=some {size:=1,agg:=false,zero:=[.slice none 0 0],kd:= .slice 1 false 24 [.slice none 0 0]}:=by kernel_rfl
def plen (a b i:Nat):Nat:=if i=0 then 0 else if i=1 then a else a+b
def prow (A B:List (List AV))(i:Nat):List (List AV):=if i=0 then[]else if i=1 then A else A++B
theorem ppR_all (l:List Pp):(∀r∈ppR l,r.length=10)∧(ppR l).flatten.all calm1=true:=by
 refine⟨fun r hr=>by obtain⟨c,_,rfl⟩:=Yh.1 hr;exact encPp_length c,calm1_rows fun r hr=>?_⟩;obtain⟨⟨k,⟨op,⟨vk,vn,vd,vs,vz,vl⟩,nm,ds,ks⟩⟩,_,rfl⟩:=Yh.1 hr;cases vz<;>cases hE:(encL vl).isEmpty<;>simp[encPp,encX,enc,lsV,calm1,hE]
noncomputable def kCA :Code:=(Tryz.f151.body).getD .skip
theorem m_Concat (n:Nat)(b:Bool)(A B:List Pp)(za zb:Bool)(h:Hp)(hl:A.length+B.length≤1000000000):callN cx (n+2) b 151 [.ls 1 [[.ls 10 (ppR A) za],[.ls 10 (ppR B) zb]] true] h=some (.ls 10 (ppR (A++B)) false,h):=by
 refine kx_call (f:=151) (n:=n+1) (args:=[.ls 1 [[.ls 10 (ppR A) za],[.ls 10 (ppR B) zb]] true]) (.ls 10 (ppR (A++B)) false) ⟨Tryz.f151.ntmps,(Tryz.f151.body).getD .skip,[.tmp 2]⟩ (by kernel_rfl) (by kernel_rfl) rfl (by kernel_rfl) (by simp[Tryz.f151]) rfl ?_ (by decide) b h;have hkx:kx 151 =10:=by decide
 rw[hkx];have hAB:ppR (A++B)=ppR A++ppR B:=by simp[ppR]
 have hall:=ppR_all (A++B);have ha1:=(ppR_all A).1;have hb1:=(ppR_all B).1;rw[hAB]at hall⊢;have hqa:=ppR_length A;have hqb:=ppR_length B;have fG:=fun b m h h1 h2=>m_Grow n b m h h1 h2
 have fG0:=fun b h=>m_Grow0 n b h
 generalize ppR A=RA at *;generalize ppR B=RB at *;generalize n+1=M at *;clear hAB;have hfa:fitI .i64 ((RA.length:Int)+(RB.length:Int))=((RA.length+RB.length:Nat):Int):=by rw[fit_i64 (by omega) (by omega)];omega
 have hfz:fitI .i64 ((RA.length:Int))=(RA.length:Int):=fit_i64 (by omega) (by omega);have hf1:fitI .i64 1=1:=by kernel_rfl
 have hf2:fitI .i64 2=2:=by kernel_rfl
 have hgm:=fun(hm:RA.length+RB.length≠0)=>fG true (RA.length+RB.length) [] (by omega) (by omega)
 have hn0:¬((RA.length+RB.length:Nat):Int)<0:=by omega
 have hna:¬(RA.length:Int)<0:=by omega
 have hcal:∀R,([R,R]:List (List (List AV))).length=2:=fun _=>rfl
 show∃r h',finX [.tmp 2] (exec2 cx (callN cx M) kCA _)=some (r,h')∧_;rw[show kCA= .seq (cL (cT 0 kCA)) (.seq (cL (cT 1 kCA)) (.seq (cL (cT 2 kCA)) (.seq (cL (cT 3 kCA)) (.seq (cL (cT 4 kCA)) (cT 5 kCA))))) by kernel_rfl];generalize hmm:RA.length+RB.length=m at *;have st5:∀fr h y,fr.length=36→gt fr 6=y→(m=0∧y= .sc (.slice none 0 0)∨0<m∧y= .sl 0 10 0 m false∧h=[.row (RA++RB).flatten])→∃r h',finX [.tmp 2] (exec2 cx (callN cx M) (cT 5 kCA) (fr,h))=some (r,h')∧∃r',Ae.snap h' 8 r=some r'∧nfX 10 r'= .ls 10 (RA++RB) false:=by
  intro fr h y hlen g6 hy;have hB:Bld h 10 (RA++RB) y:=by
   rcases hy with⟨h0,rfl⟩|⟨h0,rfl,rfl⟩
   ·have ha:RA=[]:=List.length_eq_zero_iff.1 (by omega);have hb:RB=[]:=List.length_eq_zero_iff.1 (by omega);subst ha;subst hb;exact .inl ⟨rfl,rfl⟩
   ·refine .inr ⟨fun e=>?_,0,by rw[Zu,hmm],rfl⟩;have:=congrArg List.length e;rw[Zu,hmm]at this;simp at this;omega
  have hsn:=bld_snap (n:=7) (by omega) hall.1 hall.2 hB;have q3:=fun(ops:Array Oper) (dd:Tmp) (rest:List Oper) (fr:List AV) (h:Hp)=>opP_np (C:=cx) (cal:=callN cx M true) (ops:=ops) (fun v=>hB.np v) dd rest fr h
  simp[kCA,cT,cR,cL,Tryz.f151,hlen,g6,q3];exact⟨_,_,⟨rfl,rfl⟩,_,hsn,nfS_bld _ _⟩
 have st4:∀fr h y,fr.length=36→gt fr 0= .ls 1 [[.ls 10 RA za],[.ls 10 RB zb]] true→gt fr 6=y→(m=0∧y= .sc (.slice none 0 0)∨∃Z:List AV,Z.length=m*10∧0<m∧y= .sl 0 10 0 0 false∧h=[.row Z])→∃r h',finX [.tmp 2] (exec2 cx (callN cx M) (.seq (cL (cT 4 kCA)) (cT 5 kCA)) (fr,h))=some (r,h')∧∃r',Ae.snap h' 8 r=some r'∧nfX 10 r'= .ls 10 (RA++RB) false:=by
  intro fr h y hlen g0 g6 hy;generalize cT 5 kCA=Z5 at st5⊢;simp[kCA,cT,cR,cL,Tryz.f151,hlen,g0];generalize hXX:exec2 cx (callN cx M) (.loop _) _=XX;refine loopE hXX
   (fun i st=>st.1.length=36∧gt st.1 25= .ls 1 [[.ls 10 RA za],[.ls 10 RB zb]] true∧gt st.1 26= .sc (.int .i64 2)∧gt st.1 27= .sc (.int .i64 (i:Nat))∧∃y,gt st.1 6=y∧(m=0∧y= .sc (.slice none 0 0)∨0<m∧y= .sl 0 10 0 (prow RA RB i).length false∧∃Z:List AV,Z.length=(m-(prow RA RB i).length)*10∧st.2=[.row ((prow RA RB i).flatten++Z)]))
   (fun o st=>o= .exit 2∧st.1.length=36∧∃y,gt st.1 6=y∧(m=0∧y= .sc (.slice none 0 0)∨0<m∧y= .sl 0 10 0 m false∧st.2=[.row (RA++RB).flatten]))
   2 (by decide) ⟨by simp[hlen],by simp[hlen],by simp[hlen],by simp[hlen],y,by simp[hlen,g6],by
    rcases hy with⟨h0,rfl⟩|⟨Z,hZ,h0,rfl,rfl⟩
    ·exact .inl ⟨h0,rfl⟩
    ·exact .inr ⟨h0,by simp[prow],Z,by simp[prow,hZ],by simp[prow]⟩⟩ ?_ ?_
  ·clear hXX XX hy;rintro i fr h hle ⟨hlen,g25,g26,g27,y,g6,hy⟩;simp only at hlen g25 g26 g27 g6 hy;rcases hy with⟨h0,rfl⟩|⟨h0,rfl,Z,hZ,rfl⟩
   ·have ha:RA=[]:=List.length_eq_zero_iff.1 (by omega);have hb:RB=[]:=List.length_eq_zero_iff.1 (by omega);have hap:∀za:Bool,appendA cx h 52 (.sc (.slice none 0 0)) (.ls 10 [] za)=some (.sc (.slice none 0 0),h):=fun za=>by
     simp[appendA,T_qPPs,newsOf]
    subst ha;subst hb;subst h0;have h012:i=0∨i=1∨i=2:=by omega
    rcases h012 with rfl|rfl|rfl
    ·simp[hlen,g25,g26,g27,g6,hap,hf1]
    ·simp[hlen,g25,g26,g27,g6,hap,hf2]
    ·simp[hlen,g26,g27,g6]
   ·have h012:i=0∨i=1∨i=2:=by omega
    rcases h012 with rfl|rfl|rfl
    ·have hap:=app_room (t:=52) (sz:=10) T_qPPs rfl [] RA Z za (fun _ h=>by cases h) ha1 (by simp[prow]at hZ;rw[hZ];exact Zx _ (by omega));simp[prow]at g6 hap hZ;have hZ':(Z.drop (RA.length*10)).length=(m-RA.length)*10:=by rw[List.length_drop,hZ,Nat.mul_sub_right_distrib]
     simp[hlen,g25,g26,g27,g6,prow,hap,hf1,h0];rw[List.length_drop]at hZ';exact hZ'
    ·have hap:=app_room (t:=52) (sz:=10) T_qPPs rfl RA RB Z zb ha1 hb1 (by simp[prow]at hZ;rw[hZ];exact Zx _ (by omega));simp[prow]at g6 hap hZ;have hZ':(Z.drop (RB.length*10)).length=(m-(RA.length+RB.length))*10:=by rw[List.length_drop,hZ,←Nat.mul_sub_right_distrib];omega
     simp[hlen,g25,g26,g27,g6,prow,hap,hf2,h0];rw[List.length_drop]at hZ';exact hZ'
    ·have hZ0:Z=[]:=List.length_eq_zero_iff.1 (by simp[prow]at hZ;omega);subst hZ0;simp[prow]at g6;simp[hlen,g26,g27,g6,prow,h0,hmm]
  ·rintro o fr' h' rfl ⟨rfl,hlen,y,g6,hy⟩;simp only at hlen g6 hy;simp;exact st5 fr' h' y hlen g6 hy
 have st3:∀fr h,fr.length=36→gt fr 0= .ls 1 [[.ls 10 RA za],[.ls 10 RB zb]] true→gt fr 3= .sc (.int .i64 (m:Nat))→h=[]→∃r h',finX [.tmp 2] (exec2 cx (callN cx M) (.seq (cL (cT 3 kCA)) (.seq (cL (cT 4 kCA)) (cT 5 kCA))) (fr,h))=some (r,h')∧∃r',Ae.snap h' 8 r=some r'∧nfX 10 r'= .ls 10 (RA++RB) false:=by
  rintro fr _ hlen g0 g3 rfl;generalize Code.seq (cL (cT 4 kCA)) (cT 5 kCA)=Z5 at st4⊢;by_cases h0:m=0
  ·subst h0;have f:=fG0 true [];have s4:=fun fr hlen g0 g6=>st4 fr [] (.sc (.slice none 0 0)) hlen g0 g6 (.inl ⟨rfl,rfl⟩)
   simp at g3;simp[kCA,cT,cR,cL,Tryz.f151,hlen,g3,f];exact s4 _ (by simp[hlen]) (by simp[g0]) (by simp[hlen])
  ·have f:=hgm h0;have hZl:((List.range m).flatMap fun _=>([.sc (.string ⟨#[]⟩),.sc (.int .i64 0),.sc (.int .i64 0),.sc (.int .i64 0),.sc (.int .i64 0),.sc (.string ⟨#[]⟩),.sc (.slice none 0 0),.sc (.string ⟨#[]⟩),.sc (.bool false),.sc (.slice none 0 0)]:List AV)).length=m*10:=by
    rw[List.length_flatMap];simp[List.map_const']
   generalize((List.range m).flatMap fun _=>([.sc (.string ⟨#[]⟩),.sc (.int .i64 0),.sc (.int .i64 0),.sc (.int .i64 0),.sc (.int .i64 0),.sc (.string ⟨#[]⟩),.sc (.slice none 0 0),.sc (.string ⟨#[]⟩),.sc (.bool false),.sc (.slice none 0 0)]:List AV))=Z at f hZl;have s4:=fun fr hlen g0 g6=>st4 fr [.row Z] (.sl 0 10 0 0 false) hlen g0 g6 (.inr ⟨Z,hZl,by omega,rfl,rfl⟩)
   simp at f;simp[kCA,cT,cR,cL,Tryz.f151,hlen,g3,f];exact s4 _ (by simp[hlen]) (by simp[g0]) (by simp[hlen])
 generalize Code.seq (cL (cT 3 kCA)) (.seq (cL (cT 4 kCA)) (cT 5 kCA))=Z3 at st3⊢;have hna0:(plen RA.length RB.length 0:Int)=0:=rfl;simp[kCA,cT,cR,cL,Tryz.f151];generalize hXX:exec2 cx (callN cx M) (.loop _) _=XX;refine loopE hXX
  (fun i st=>st.1.length=36∧gt st.1 0= .ls 1 [[.ls 10 RA za],[.ls 10 RB zb]] true∧gt st.1 9= .ls 1 [[.ls 10 RA za],[.ls 10 RB zb]] true∧gt st.1 10= .sc (.int .i64 2)∧gt st.1 11= .sc (.int .i64 (i:Nat))∧gt st.1 3= .sc (.int .i64 (plen RA.length RB.length i:Nat))∧st.2=[])
  (fun o st=>o= .exit 0∧st.1.length=36∧gt st.1 0= .ls 1 [[.ls 10 RA za],[.ls 10 RB zb]] true∧gt st.1 3= .sc (.int .i64 (m:Nat))∧st.2=[])
  2 (by decide) ⟨by simp,by simp,by simp,by simp,by simp,by simp[plen],rfl⟩ ?_ ?_
 ·clear hXX XX;rintro i fr h hle ⟨hlen,g0,g9,g10,g11,g3,rfl⟩;simp only at hlen g0 g9 g10 g11 g3;have h012:i=0∨i=1∨i=2:=by omega
  rcases h012 with rfl|rfl|rfl
  ·simp[plen]at g3;simp[hlen,g0,g9,g10,g11,g3,plen,hf1,hfz,hna]
  ·simp[plen]at g3;simp[hlen,g0,g9,g10,g11,g3,plen,hf2,hfa,hn0]
   exact_mod_cast hmm.symm
  ·simp[plen,hmm]at g3;simp[hlen,g0,g10,g11,g3]
 ·rintro o fr' h' rfl ⟨rfl,hlen,g0,g3,hh⟩;simp only at hlen g0 g3 hh;simp;exact st3 fr' h' hlen g0 g3 hh
end
end Go.Proofs.YtmocfjnklfpnbaaGreatDoor
