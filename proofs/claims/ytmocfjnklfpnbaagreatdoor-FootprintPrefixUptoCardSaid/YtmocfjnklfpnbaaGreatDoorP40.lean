/- The worked examples of the chapter on footprints, as a fact about the program: lives() answers true. -/
import Derived.Test.YtmocfjnklfpnbaaGreatDoorE70
import Derived.Test.YtmocfjnklfpnbaaGreatDoorP36
set_option linter.all false
set_option maxRecDepth 100000
namespace Go.Proofs.YtmocfjnklfpnbaaGreatDoor
open Go Go.Ae
theorem rok_V (ops:Array Oper):rok cxV ops=rok cx ops:=rfl
theorem codeOk_V :∀c:Code,codeOk cxV c=codeOk cx c:=by
 intro c
 induction c with
 |region i ops m=>cases m<;>simp only[codeOk,rok_V]
 |_=>simp_all only[codeOk]
theorem insV {f:FuncId}{r:Nat × Nat}(e:cxV.ins f=some r):cx.ins f=some r:=by
 have e':(if f=18 then none else insF f)=some r:=e;split at e'
 ·cases e'
 ·exact e'
theorem insV1 (f:FuncId)(sz:Nat):cxV.ins f≠some (sz,1):=fun h=>by
 have h':insF f=some (sz,1):=insV h;unfold insF at h'
 (repeat' split at h')<;>cases h'
theorem cxV_all (h:CxAll cx):CxAll cxV:={
 base:={mixed:=h.base.mixed,types:=h.base.types,funs:=fun f fi hf=>by rw[codeOk_V];exact h.base.funs f fi hf}
 rcv:=fun g T' e=>h.rcv g T' e
 srt:=fun f g kt e=>h.srt f g kt e
 tab:=fun f xs r e=>h.tab f xs r e
 ins:=fun f sz by' e h0 h1=>h.ins f sz by' (insV e) h0 h1
 sfn:=fun f sz e=>h.sfn f sz (insV e)
 own:=fun f sz e=>absurd e (insV1 f sz)
 nf:=fun f w X v r e=>h.nf f w X v r e}
theorem cV1_all (h:CxAll cx):CxAll cV1:=(cxV_all h).more _ (tabL_ok fun e he=>by
 unfold cL1 at he;simp only[List.mem_cons,List.not_mem_nil,or_false]at he;rcases he with rfl|rfl|rfl
 ·exact runK_ok (cxV_all h) k_c1
 ·exact runK_ok (cxV_all h) k_c2
 ·exact runK_ok (cxV_all h) k_c3) insV1
theorem cV2_all (h:CxAll cx):CxAll cV2:=(cV1_all h).more _ (tabL_ok fun e he=>by
 unfold cL2 at he;simp only[List.mem_cons,List.not_mem_nil,or_false]at he;rcases he with rfl|rfl|rfl
 ·exact runK_ok (cV1_all h) k_o1
 ·exact runK_ok (cV1_all h) k_o2
 ·exact runK_ok (cV1_all h) k_o3) insV1
theorem lives_ok (h:CxAll cx):PureOK cx 6 [] (.sc (.bool true)):=runK_ok (cV2_all h) k_lives
section
attribute [local simp] aop aopW coldF extF putA ofConst flat scalarOp fastOp binFast intOp strOp guardX Ae.part rowOf szOk natOf lenA cls fillA newsOf isNilC cellX
set_option maxHeartbeats 32000000
noncomputable def kPX :Code:=(Tryz.f26.body).getD .skip
theorem encXs_snoc (l:List Ep)(e:Ep):encXs (l++[e])=encXs l++[encX e]:=by
 induction l with
 |nil=>simp[encXs]
 |cons a l ih=>simp only[Zv,encXs,ih]
theorem encXs_all (l:List Ep):(∀r∈encXs l,r.length=9)∧(encXs l).flatten.all calm1=true:=by
 induction l with
 |nil=>exact⟨fun r h=>by simp[encXs]at h,rfl⟩
 |
  cons a l ih=>
  refine⟨fun r h=>?_,?_⟩
  ·rw[encXs]at h;rcases List.mem_cons.1 h with rfl|h
   ·exact encX_length a
   ·exact ih.1 r h
  ·rw[encXs,List.flatten_cons,List.all_append,ih.2,Bool.and_true];obtain⟨op,⟨vk,vn,vd,vs,vz,vl⟩,nm,ds,ks⟩:=a;cases vz<;>cases hE:(encL vl).isEmpty<;>simp[encX,enc,lsV,calm1,hE]
def XB (P:Ep→Prop)(row:List AV)(m:Nat)(fr:List AV)(h:Hp):Prop:=h[0]?=some (.row row)∧∃E y,gt fr 3=y∧Bld h 9 (encXs E) y∧(∀k n,y= .sl k 9 0 n false→k≠0)∧(∀e∈E,P e)∧E.length+m≤1000000000
theorem XB.fr {P:Ep→Prop}{row:List AV}{m:Nat}{fr fr':List AV}{h:Hp}(hX:XB P row m fr h)(e:gt fr' 3=gt fr 3):XB P row m fr' h:=by
 obtain⟨a,E,y,g3,b⟩:=hX;exact⟨a,E,y,e.trans g3,b⟩
theorem XB.le {P:Ep→Prop}{row:List AV}{m m':Nat}{fr:List AV}{h:Hp}(hX:XB P row m fr h)(e:m'≤m):XB P row m' fr h:=by
 obtain⟨a,E,y,g3,b,c,d,f⟩:=hX;exact⟨a,E,y,g3,b,c,d,by omega⟩
theorem exNE {P:Prop}{call:Bool→FuncId→List AV→Hp→Option (AV × Hp)}{X:Option (Out × St)}{c:Code}{fr:List AV}{h:Hp}{K:List AV→Hp→Prop}(hX:exec2 cx call c (fr,h)=X)(H:∃fr' h',exec2 cx call c (fr,h)=some (.normal,(fr',h'))∧K fr' h')(fin:∀fr' h',X=some (.normal,(fr',h'))→K fr' h'→P):P:=by
 obtain⟨fr',h',e,k⟩:=H;exact fin fr' h' (hX.symm.trans e) k
theorem xb_app {h:Hp}{E:List Ep}{y:AV}(e:Ep){row:List AV}(h0:h[0]?=some (.row row))(hB:Bld h 9 (encXs E) y)(hk:∀k n,y= .sl k 9 0 n false→k≠0)(hl:E.length≤1000000000):
 ∃id h',appendA cx (h++[.row (encX e)]) 41 y (.sl h.length 9 0 1 false)=some (.sl id 9 0 ((encXs E).length+1) false,h')∧h'[0]?=some (.row row)∧Bld h' 9 (encXs (E++[e])) (.sl id 9 0 ((encXs E).length+1) false)∧id≠0:=by
 obtain⟨id,h',b1,b2,b3,b4⟩:=bld_app' (t:=41) T_qExs rfl h (encX e) (encXs E) y hB (encX_length e) (encXs_all E).1 (by omega) (by rw[encXs_length];exact hl) (by omega);refine⟨id,h',b1,b3 0 _ h0 (fun k n e=>(hk k n e).symm),?_,?_⟩
 ·rw[encXs_snoc];exact bld_of b2
 ·have:=(Za.1 h0).1;omega
noncomputable def kPL :Code:=cL (cL (cR (cL (cT 2 kPX))))
noncomputable def kPB :Code:=cL (cL (cR kPL))
theorem px_1 (M:Nat)(P:Ep→Prop)(i:Nat)(vr:ByteArray)(rn re:List (List AV))(x:Np)(hr:rn[i]?=some (encNp x))(hP:∀q∈x.props,P q.e)(m:Nat)(fr:List AV)(h:Hp)(hlen:fr.length=68)(g1:gt fr 1= .pt 0 0)(g4:gt fr 4= .sc (.int .i64 (i:Nat)))(hX:XB P [.sc (.string vr),.ls 3 rn false,.ls 7 re false] (x.props.length+m) fr h):
 ∃fr' h',exec2 cx (callN cx M) (cL kPB) (fr,h)=some (.normal,(fr',h'))∧fr'.length=68∧gt fr' 1= .pt 0 0∧gt fr' 4= .sc (.int .i64 (i:Nat))∧XB P [.sc (.string vr),.ls 3 rn false,.ls 7 re false] m fr' h':=by
 have hi:=(Za.1 hr).1;have hr':∀k,rn[i]'k=encNp x:=fun k=>by obtain⟨_,e⟩:=Za.1 hr;exact e
 obtain⟨h0,E,y,g3,hB,hk,hE,hl⟩:=hX;have hqp:=ppR_length x.props;have hgp:=ppR_get x.props;have hpl:x.props.length≤1000000000:=by omega
 unfold encNp at hr hr';generalize ppR x.props=rp at *;simp[kPB,kPL,kPX,cT,cR,cL,Tryz.f26,hlen];generalize hXX:exec2 cx (callN cx M) (.loop _) _=XX;refine loopE hXX
  (fun j st=>st.1.length=68∧gt st.1 1= .pt 0 0∧gt st.1 4= .sc (.int .i64 (i:Nat))∧gt st.1 5= .sc (.int .i64 (j:Nat))∧XB P [.sc (.string vr),.ls 3 rn false,.ls 7 re false] (x.props.length-j+m) st.1 st.2)
  (fun o st=>o= .exit 2∧st.1.length=68∧gt st.1 1= .pt 0 0∧gt st.1 4= .sc (.int .i64 (i:Nat))∧XB P [.sc (.string vr),.ls 3 rn false,.ls 7 re false] m st.1 st.2)
  x.props.length (by simp;omega) ⟨by simp[hlen],by simp[g1],by simp[g4],by simp[hlen],h0,E,y,by simp[g3],hB,hk,hE,by simpa using hl⟩ ?_ ?_
 ·clear hXX XX hlen g1 g3 g4 h0 hB hk hE hl;rintro j fr hp hle ⟨hlen,g1,g4,gj,h0,E,y,g3,hB,hk,hE,hl⟩;simp only at hlen g1 g4 gj g3 h0 hB hl;by_cases hj:j<x.props.length
  ·obtain⟨q,hxj,hrj,hrj'⟩:=row_get hgp hj;have hj0:j≤1000000000000000:=by omega
   have hPq:=hP q (Zi hxj);obtain⟨id,h',b1,b2,b3,b4⟩:=xb_app q.e h0 hB hk (by omega);have hl':(E++[q.e]).length+(x.props.length-(j+1)+m)≤1000000000:=by rw[Zu,List.length_singleton];omega
   have hE':∀e∈E++[q.e],P e:=fun e he=>by
    rcases Ya.1 he with he|he
    ·exact hE e he
    ·have:e=q.e:=by simpa using he
     rw[this];exact hPq
   have q2:=fun(ops:Array Oper) (dd:Tmp) (rest:List Oper) (fr:List AV) (h:Hp)=>opP_np (C:=cx) (cal:=callN cx M true) (ops:=ops) (fun v=>hB.np v) dd rest fr h
   obtain⟨b0,c1,c2,c3,c4,c5,c6,c7,c8,he9⟩:=encX9 q.e;unfold encPp at hrj hrj';rw[he9]at hrj b1;simp only[he9]at hrj';have hsx:=spX9 (ev:=[b0,c1,c2,c3,c4,c5,c6,c7,c8]) rfl;have hk':∀F k n:Nat,AV.sl id 9 0 F false= .sl k 9 0 n false→k≠0:=fun F k n e=>by injection e;omega
   have hf:=fit_succ hj0;generalize(encXs E).length=F at *;simp[hlen,g1,g3,g4,gj,h0,hi,hr,hr',hj,hqp,hrj,hrj',q2,hsx,b1,hf,coldA,boundA]
   skip
   exact⟨b2,E++[q.e],.sl id 9 0 (F+1) false,by simp[hlen],b3,hk' _,hE',hl'⟩
  ·have hil:j=x.props.length:=Yc hle (Yb hj);subst hil;simp[hlen,g1,g4,gj,h0,hi,hr,hr',hqp];exact⟨h0,E,y,by simp[g3],hB,hk,hE,by simpa using hl⟩
 ·rintro o fr' h' rfl ⟨rfl,hlen,g1,g4,hX⟩;simp only at hlen g1 g4 hX;exact⟨fr',h',by simp,hlen,g1,g4,hX⟩
theorem px_2 (M:Nat)(P:Ep→Prop)(i:Nat)(vr:ByteArray)(rn re:List (List AV))(x:Gp)(hr:re[i]?=some (encGp x))(hP:∀q∈x.props,P q.e)(m:Nat)(fr:List AV)(h:Hp)(hlen:fr.length=68)(g1:gt fr 1= .pt 0 0)(g4:gt fr 4= .sc (.int .i64 (i:Nat)))(hX:XB P [.sc (.string vr),.ls 3 rn false,.ls 7 re false] (x.props.length+m) fr h):
 ∃fr' h',exec2 cx (callN cx M) (cL (cR (cR kPB))) (fr,h)=some (.normal,(fr',h'))∧fr'.length=68∧gt fr' 1= .pt 0 0∧gt fr' 4= .sc (.int .i64 (i:Nat))∧XB P [.sc (.string vr),.ls 3 rn false,.ls 7 re false] m fr' h':=by
 have hi:=(Za.1 hr).1;have hr':∀k,re[i]'k=encGp x:=fun k=>by obtain⟨_,e⟩:=Za.1 hr;exact e
 obtain⟨h0,E,y,g3,hB,hk,hE,hl⟩:=hX;have hqp:=ppR_length x.props;have hgp:=ppR_get x.props;have hpl:x.props.length≤1000000000:=by omega
 unfold encGp at hr hr';generalize ppR x.props=rp at *;simp[kPB,kPL,kPX,cT,cR,cL,Tryz.f26,hlen];generalize hXX:exec2 cx (callN cx M) (.loop _) _=XX;refine loopE hXX
  (fun j st=>st.1.length=68∧gt st.1 1= .pt 0 0∧gt st.1 4= .sc (.int .i64 (i:Nat))∧gt st.1 6= .sc (.int .i64 (j:Nat))∧XB P [.sc (.string vr),.ls 3 rn false,.ls 7 re false] (x.props.length-j+m) st.1 st.2)
  (fun o st=>o= .exit 4∧st.1.length=68∧gt st.1 1= .pt 0 0∧gt st.1 4= .sc (.int .i64 (i:Nat))∧XB P [.sc (.string vr),.ls 3 rn false,.ls 7 re false] m st.1 st.2)
  x.props.length (by simp;omega) ⟨by simp[hlen],by simp[g1],by simp[g4],by simp[hlen],h0,E,y,by simp[g3],hB,hk,hE,by simpa using hl⟩ ?_ ?_
 ·clear hXX XX hlen g1 g3 g4 h0 hB hk hE hl;rintro j fr hp hle ⟨hlen,g1,g4,gj,h0,E,y,g3,hB,hk,hE,hl⟩;simp only at hlen g1 g4 gj g3 h0 hB hl;by_cases hj:j<x.props.length
  ·obtain⟨q,hxj,hrj,hrj'⟩:=row_get hgp hj;have hj0:j≤1000000000000000:=by omega
   have hPq:=hP q (Zi hxj);obtain⟨id,h',b1,b2,b3,b4⟩:=xb_app q.e h0 hB hk (by omega);have hl':(E++[q.e]).length+(x.props.length-(j+1)+m)≤1000000000:=by rw[Zu,List.length_singleton];omega
   have hE':∀e∈E++[q.e],P e:=fun e he=>by
    rcases Ya.1 he with he|he
    ·exact hE e he
    ·have:e=q.e:=by simpa using he
     rw[this];exact hPq
   have q2:=fun(ops:Array Oper) (dd:Tmp) (rest:List Oper) (fr:List AV) (h:Hp)=>opP_np (C:=cx) (cal:=callN cx M true) (ops:=ops) (fun v=>hB.np v) dd rest fr h
   obtain⟨b0,c1,c2,c3,c4,c5,c6,c7,c8,he9⟩:=encX9 q.e;unfold encPp at hrj hrj';rw[he9]at hrj b1;simp only[he9]at hrj';have hsx:=spX9 (ev:=[b0,c1,c2,c3,c4,c5,c6,c7,c8]) rfl;have hk':∀F k n:Nat,AV.sl id 9 0 F false= .sl k 9 0 n false→k≠0:=fun F k n e=>by injection e;omega
   have hf:=fit_succ hj0;generalize(encXs E).length=F at *;simp[hlen,g1,g3,g4,gj,h0,hi,hr,hr',hj,hqp,hrj,hrj',q2,hsx,b1,hf,coldA,boundA]
   skip
   exact⟨b2,E++[q.e],.sl id 9 0 (F+1) false,by simp[hlen],b3,hk' _,hE',hl'⟩
  ·have hil:j=x.props.length:=Yc hle (Yb hj);subst hil;simp[hlen,g1,g4,gj,h0,hi,hr,hr',hqp];exact⟨h0,E,y,by simp[g3],hB,hk,hE,by simpa using hl⟩
 ·rintro o fr' h' rfl ⟨rfl,hlen,g1,g4,hX⟩;simp only at hlen g1 g4 hX;exact⟨fr',h',by simp,hlen,g1,g4,hX⟩
def nPp (x:Np):Nat:=x.props.length
def gPp (x:Gp):Nat:=x.props.length
theorem px_walk (M:Nat)(P:Ep→Prop)(p:Tp)(hPn:∀x∈p.nodes,∀q∈x.props,P q.e)(hPe:∀x∈p.edges,∀q∈x.props,P q.e)(hn:p.nodes.length≤1000000000)(hm:(p.nodes.map nPp).sum+(p.edges.map gPp).sum≤1000000000):
 ∃E,(∀e∈E,P e)∧E.length≤1000000000∧∃r h',finX [.tmp 2] (exec2 cx (callN cx M) kPX ([.ag (encTp p)]++List.replicate 67 .un,[]))=some (r,h')∧∃r',Ae.snap h' 8 r=some r'∧nfX 9 r'= .ls 9 (encXs E) false:=by
 rw[show kPX= .seq (cL (cT 0 kPX)) (.seq (cL (cT 1 kPX)) (.seq (.seq (cL (cL (cT 2 kPX))) (.block 0 (.loop (.seq (cL kPL) (.seq (.block 1 (.seq (cL kPB) (.seq (cL (cR kPB)) (.cond (.tmp 42) (cL (cR (cR kPB))) .skip)))) (cR (cR kPL))))))) (cT 3 kPX))) by kernel_rfl];have st3:∀fr h,fr.length=68→XB P [.sc (.string p.var),.ls 3 (npR p.nodes) false,.ls 7 (gpR p.edges) false] 0 fr h→∃E,(∀e∈E,P e)∧E.length≤1000000000∧∃r h',finX [.tmp 2] (exec2 cx (callN cx M) (cT 3 kPX) (fr,h))=some (r,h')∧∃r',Ae.snap h' 8 r=some r'∧nfX 9 r'= .ls 9 (encXs E) false:=by
  rintro fr h hlen ⟨h0,E,y,g3,hB,hk,hE,hl⟩;refine⟨E,hE,hl,?_⟩;have q2:=fun(ops:Array Oper) (dd:Tmp) (rest:List Oper) (fr:List AV) (h:Hp)=>opP_np (C:=cx) (cal:=callN cx M true) (ops:=ops) (fun v=>hB.np v) dd rest fr h
  have hsn:=bld_snap (n:=7) (by omega) (encXs_all E).1 (encXs_all E).2 hB;have hnf:nfX 9 (bldV 9 (encXs E))= .ls 9 (encXs E) false:=nfS_bld _ _;generalize encXs E=rows at *;generalize bldV 9 rows=v at *;simp[kPB,kPL,kPX,cT,cR,cL,Tryz.f26,hlen,g3,q2];exact⟨_,_,⟨rfl,rfl⟩,_,hsn,hnf⟩
 generalize cT 3 kPX=Z at st3⊢;have c1:=fun i x hr hP m fr h hlen g1 g4 hX=>px_1 M P i p.var (npR p.nodes) (gpR p.edges) x hr hP m fr h hlen g1 g4 hX
 have c2:=fun i x hr hP m fr h hlen g1 g4 hX=>px_2 M P i p.var (npR p.nodes) (gpR p.edges) x hr hP m fr h hlen g1 g4 hX
 have hqn:=npR_length p.nodes;have hgn:=npR_get p.nodes;have hqe:=gpR_length p.edges;have hge:=gpR_get p.edges;unfold encTp;generalize npR p.nodes=rn at *;generalize gpR p.edges=re at *;generalize hnod:p.nodes=nod at *;generalize hedg:p.edges=edg at *;generalize hz1:cL kPB=Z1 at *;generalize hz2:cL (cR (cR kPB))=Z2 at *;simp[kPB,kPL,kPX,cT,cR,cL,Tryz.f26];generalize hXX:exec2 cx (callN cx M) (.loop _) _=XX;refine loopE hXX
  (fun i st=>st.1.length=68∧gt st.1 1= .pt 0 0∧gt st.1 4= .sc (.int .i64 (i:Nat))∧XB P [.sc (.string p.var),.ls 3 rn false,.ls 7 re false] (((nod.drop i).map nPp).sum+((edg.drop i).map gPp).sum) st.1 st.2)
  (fun o st=>o= .exit 0∧st.1.length=68∧XB P [.sc (.string p.var),.ls 3 rn false,.ls 7 re false] 0 st.1 st.2)
  nod.length (by simp;omega) ⟨by simp,by simp,by simp,rfl,[],_,rfl,.inl ⟨rfl,rfl⟩,fun k n e=>by simp at e,fun e he=>(by simp at he),by simpa using hm⟩ ?_ ?_
 ·clear hXX XX hm st3;rintro i fr hp hle ⟨hlen,g1,g4,hX⟩;simp only at hlen g1 g4 hX;have h0:=hX.1;by_cases hi:i<nod.length
  ·obtain⟨x,hx,hr,hr'⟩:=row_get hgn hi;have hf0:i≤1000000000000000:=by omega
   rw[drop_of hx,List.map_cons,List.sum_cons,Nat.add_assoc]at hX;have d1:=fun fr h hlen g1 g4 hX=>c1 i x hr (hPn x (Zi hx)) (((nod.drop (i+1)).map nPp).sum+((edg.drop i).map gPp).sum) fr h hlen g1 g4 hX
   simp[hlen,g1,g4,h0,hi,hqn];generalize hEE:exec2 cx (callN cx M) Z1 _=EE;refine exNE hEE (d1 _ _ (by simp[hlen]) (by simp[g1]) (by simp[g4]) (hX.fr (by simp[hlen]))) ?_;clear hEE d1 hX h0 hlen g1 g4;rintro fr1 h1 rfl ⟨hlen,g1,g4,hX⟩;have h0:=hX.1;by_cases he:i<edg.length
   ·obtain⟨e,hxe,hre,hre'⟩:=row_get hge he;rw[drop_of hxe,List.map_cons,List.sum_cons,Nat.add_left_comm]at hX;have d2:=fun fr h hlen g1 g4 hX=>c2 i e hre (hPe e (Zi hxe)) (((nod.drop (i+1)).map nPp).sum+((edg.drop (i+1)).map gPp).sum) fr h hlen g1 g4 hX
    simp[hlen,g1,g4,h0,he,hqe];generalize hEE:exec2 cx (callN cx M) Z2 _=EE;refine exNE hEE (d2 _ _ (by simp[hlen]) (by simp[g1]) (by simp[g4]) (hX.fr (by simp[hlen]))) ?_;clear hEE d2 hX h0 hlen g1 g4;rintro fr2 h2 rfl ⟨hlen,g1,g4,hX⟩;have hf:=fit_succ hf0;simp[hlen,g1,g4,hi,hf];rw[←List.map_drop,←List.map_drop];exact hX.fr (by simp[hlen])
   ·rw[Zt (show edg.length≤i by omega)]at hX;have e2:edg.drop (i+1)=[]:=Zt (by omega);have hf:=fit_succ hf0;simp[hlen,g1,g4,h0,he,hqe,hi,hf];rw[←List.map_drop,←List.map_drop,e2];exact(hX.fr (by simp[hlen])).le (by simp)
  ·have hil:i=nod.length:=Yc hle (Yb hi);subst hil;simp[hlen,g1,g4,h0,hqn];exact(hX.fr (by simp[hlen])).le (Nat.zero_le _)
 ·rintro o fr' h' rfl ⟨rfl,hlen,hX⟩;simp only at hlen hX;simp;exact st3 fr' h' hlen hX
theorem r18_props (n:Nat)(P:Ep→Prop)(p:Tp)(hPn:∀x∈p.nodes,∀q∈x.props,P q.e)(hPe:∀x∈p.edges,∀q∈x.props,P q.e)(hn:p.nodes.length≤1000000000)(hm:(p.nodes.map nPp).sum+(p.edges.map gPp).sum≤1000000000):
 ∃E,(∀e∈E,P e)∧E.length≤1000000000∧∀b h,callN cx (n+1) b 26 [.ag (encTp p)] h=some (.ls 9 (encXs E) false,h):=by
 obtain⟨E,h1,h2,h3⟩:=px_walk n P p hPn hPe hn hm;refine⟨E,h1,h2,fun b h=>?_⟩;exact kx_call (f:=26) (n:=n) (args:=[.ag (encTp p)]) (.ls 9 (encXs E) false) ⟨Tryz.f26.ntmps,(Tryz.f26.body).getD .skip,[.tmp 2]⟩ (by kernel_rfl) (by kernel_rfl) rfl (by kernel_rfl) (by simp[Tryz.f26]) rfl h3 (by decide) b h
noncomputable def kMA :Code:=(Tryz.f11.body).getD .skip
def PM (r:Option (Out × St)):Prop:=∃v h',finX [.tmp 2] r=some (.sc (.int .i64 v),h')
theorem ms_3 (M:Nat)(l:List Ep)(rows:List (List AV))(row:List AV)(hrow:row[4]?=some (.ls 9 rows false))(hq:rows.length=l.length)(hg:∀i:Nat,rows[i]?=(l[i]?).map encX)(hl:l.length≤1000000000)(X:Code)
 (fs:∀x∈l,∀b h,callN cx M b 25 [.ag (encX (x))] h=some (.sc (.int .i64 (szX (x))),h))
 (hX:∀fr v,fr.length=199→gt fr 1= .pt 0 0→gt fr 3= .sc (.int .i64 v)→PM (exec2 cx (callN cx M) X (fr,[.row row]))) (fr:List AV) (v:Int) (hlen:fr.length=199) (g1:gt fr 1= .pt 0 0) (g3:gt fr 3= .sc (.int .i64 v)):
 PM (exec2 cx (callN cx M) (.seq (cL (cT 3 kMA)) X) (fr,[.row row])):=by
 simp[kMA,cT,cR,cL,Tryz.f11,hlen];generalize hXX:exec2 cx (callN cx M) (.loop _) _=XX;refine loopE hXX
  (fun i st=>st.1.length=199∧gt st.1 1= .pt 0 0∧gt st.1 9= .sc (.int .i64 (i:Nat))∧st.2=[.row row]∧∃v,gt st.1 3= .sc (.int .i64 v))
  (fun o st=>o= .exit 8∧st.1.length=199∧gt st.1 1= .pt 0 0∧st.2=[.row row]∧∃v,gt st.1 3= .sc (.int .i64 v))
  l.length (by simp;omega) ⟨by simp[hlen],by simp[g1],by simp[hlen],rfl,v,by simp[g3]⟩ ?_ ?_
 ·clear hXX XX hlen g1 g3 hX;rintro i fr hp hle ⟨hlen,g1,hi9,hh,v,g3⟩;simp only at hlen g1 hi9 hh g3;subst hh;by_cases hi:i<l.length
  ·obtain⟨x,hx,hr,hr'⟩:=row_get hg hi;have hf0:i≤1000000000000000:=by omega
   have f1:=fs x (Zi hx);generalize szX (x)=sz at f1;have hev0:=encX_length x;generalize encX x=ev at hr hr' f1 hev0;have hev:ev.take 9=ev:=List.take_of_length_le (by omega);have hf:=fit_succ hf0;simp[hlen,g1,g3,hi9,hrow,hi,hq,hr,hr',f1,hf,hev,hev0]
  ·have hil:i=l.length:=Yc hle (Yb hi);subst hil;simp[hlen,g1,g3,hi9,hrow,hq]
 ·rintro o fr' h' rfl ⟨rfl,hlen,g1,hh,v,g3⟩;simp only at hlen g1 hh g3;subst hh;simp;exact hX _ _ hlen g1 g3
theorem ms_4 (M:Nat)(l:List Ip)(rows:List (List AV))(row:List AV)(hrow:row[15]?=some (.ls 10 rows false))(hq:rows.length=l.length)(hg:∀i:Nat,rows[i]?=(l[i]?).map encIp)(hl:l.length≤1000000000)(X:Code)
 (fs:∀x∈l,∀b h,callN cx M b 25 [.ag (encX (x.e))] h=some (.sc (.int .i64 (szX (x.e))),h))
 (hX:∀fr v,fr.length=199→gt fr 1= .pt 0 0→gt fr 3= .sc (.int .i64 v)→PM (exec2 cx (callN cx M) X (fr,[.row row]))) (fr:List AV) (v:Int) (hlen:fr.length=199) (g1:gt fr 1= .pt 0 0) (g3:gt fr 3= .sc (.int .i64 v)):
 PM (exec2 cx (callN cx M) (.seq (cL (cT 4 kMA)) X) (fr,[.row row])):=by
 simp[kMA,cT,cR,cL,Tryz.f11,hlen];generalize hXX:exec2 cx (callN cx M) (.loop _) _=XX;refine loopE hXX
  (fun i st=>st.1.length=199∧gt st.1 1= .pt 0 0∧gt st.1 10= .sc (.int .i64 (i:Nat))∧st.2=[.row row]∧∃v,gt st.1 3= .sc (.int .i64 v))
  (fun o st=>o= .exit 10∧st.1.length=199∧gt st.1 1= .pt 0 0∧st.2=[.row row]∧∃v,gt st.1 3= .sc (.int .i64 v))
  l.length (by simp;omega) ⟨by simp[hlen],by simp[g1],by simp[hlen],rfl,v,by simp[g3]⟩ ?_ ?_
 ·clear hXX XX hlen g1 g3 hX;rintro i fr hp hle ⟨hlen,g1,hi9,hh,v,g3⟩;simp only at hlen g1 hi9 hh g3;subst hh;by_cases hi:i<l.length
  ·obtain⟨x,hx,hr,hr'⟩:=row_get hg hi;have hf0:i≤1000000000000000:=by omega
   have f1:=fs x (Zi hx);generalize szX (x.e)=sz at f1;obtain⟨b0,b1,b2,b3,b4,b5,b6,b7,b8,he9⟩:=encX9 x.e;unfold encIp at hr hr';rw[he9]at hr f1;simp only[he9]at hr';have hev0:True:=trivial;have hev:True:=trivial;have hf:=fit_succ hf0;simp[hlen,g1,g3,hi9,hrow,hi,hq,hr,hr',f1,hf,hev,hev0]
  ·have hil:i=l.length:=Yc hle (Yb hi);subst hil;simp[hlen,g1,g3,hi9,hrow,hq]
 ·rintro o fr' h' rfl ⟨rfl,hlen,g1,hh,v,g3⟩;simp only at hlen g1 hh g3;subst hh;simp;exact hX _ _ hlen g1 g3
theorem ms_5 (M:Nat)(l:List Op')(rows:List (List AV))(row:List AV)(hrow:row[16]?=some (.ls 10 rows false))(hq:rows.length=l.length)(hg:∀i:Nat,rows[i]?=(l[i]?).map encOp)(hl:l.length≤1000000000)(X:Code)
 (fs:∀x∈l,∀b h,callN cx M b 25 [.ag (encX (x.e))] h=some (.sc (.int .i64 (szX (x.e))),h))
 (hX:∀fr v,fr.length=199→gt fr 1= .pt 0 0→gt fr 3= .sc (.int .i64 v)→PM (exec2 cx (callN cx M) X (fr,[.row row]))) (fr:List AV) (v:Int) (hlen:fr.length=199) (g1:gt fr 1= .pt 0 0) (g3:gt fr 3= .sc (.int .i64 v)):
 PM (exec2 cx (callN cx M) (.seq (cL (cT 5 kMA)) X) (fr,[.row row])):=by
 simp[kMA,cT,cR,cL,Tryz.f11,hlen];generalize hXX:exec2 cx (callN cx M) (.loop _) _=XX;refine loopE hXX
  (fun i st=>st.1.length=199∧gt st.1 1= .pt 0 0∧gt st.1 11= .sc (.int .i64 (i:Nat))∧st.2=[.row row]∧∃v,gt st.1 3= .sc (.int .i64 v))
  (fun o st=>o= .exit 12∧st.1.length=199∧gt st.1 1= .pt 0 0∧st.2=[.row row]∧∃v,gt st.1 3= .sc (.int .i64 v))
  l.length (by simp;omega) ⟨by simp[hlen],by simp[g1],by simp[hlen],rfl,v,by simp[g3]⟩ ?_ ?_
 ·clear hXX XX hlen g1 g3 hX;rintro i fr hp hle ⟨hlen,g1,hi9,hh,v,g3⟩;simp only at hlen g1 hi9 hh g3;subst hh;by_cases hi:i<l.length
  ·obtain⟨x,hx,hr,hr'⟩:=row_get hg hi;have hf0:i≤1000000000000000:=by omega
   have f1:=fs x (Zi hx);generalize szX (x.e)=sz at f1;obtain⟨b0,b1,b2,b3,b4,b5,b6,b7,b8,he9⟩:=encX9 x.e;unfold encOp at hr hr';rw[he9]at hr f1;simp only[he9]at hr';have hev0:True:=trivial;have hev:True:=trivial;have hf:=fit_succ hf0;simp[hlen,g1,g3,hi9,hrow,hi,hq,hr,hr',f1,hf,hev,hev0]
  ·have hil:i=l.length:=Yc hle (Yb hi);subst hil;simp[hlen,g1,g3,hi9,hrow,hq]
 ·rintro o fr' h' rfl ⟨rfl,hlen,g1,hh,v,g3⟩;simp only at hlen g1 hh g3;subst hh;simp;exact hX _ _ hlen g1 g3
theorem ms_6 (M:Nat)(l:List Sp)(rows:List (List AV))(row:List AV)(hrow:row[19]?=some (.ls 13 rows false))(hq:rows.length=l.length)(hg:∀i:Nat,rows[i]?=(l[i]?).map encSp)(hl:l.length≤1000000000)(X:Code)
 (fs:∀x∈l,∀b h,callN cx M b 25 [.ag (encX (x.e))] h=some (.sc (.int .i64 (szX (x.e))),h))
 (hX:∀fr v,fr.length=199→gt fr 1= .pt 0 0→gt fr 3= .sc (.int .i64 v)→PM (exec2 cx (callN cx M) X (fr,[.row row]))) (fr:List AV) (v:Int) (hlen:fr.length=199) (g1:gt fr 1= .pt 0 0) (g3:gt fr 3= .sc (.int .i64 v)):
 PM (exec2 cx (callN cx M) (.seq (cL (cT 6 kMA)) X) (fr,[.row row])):=by
 simp[kMA,cT,cR,cL,Tryz.f11,hlen];generalize hXX:exec2 cx (callN cx M) (.loop _) _=XX;refine loopE hXX
  (fun i st=>st.1.length=199∧gt st.1 1= .pt 0 0∧gt st.1 12= .sc (.int .i64 (i:Nat))∧st.2=[.row row]∧∃v,gt st.1 3= .sc (.int .i64 v))
  (fun o st=>o= .exit 14∧st.1.length=199∧gt st.1 1= .pt 0 0∧st.2=[.row row]∧∃v,gt st.1 3= .sc (.int .i64 v))
  l.length (by simp;omega) ⟨by simp[hlen],by simp[g1],by simp[hlen],rfl,v,by simp[g3]⟩ ?_ ?_
 ·clear hXX XX hlen g1 g3 hX;rintro i fr hp hle ⟨hlen,g1,hi9,hh,v,g3⟩;simp only at hlen g1 hi9 hh g3;subst hh;by_cases hi:i<l.length
  ·obtain⟨x,hx,hr,hr'⟩:=row_get hg hi;have hf0:i≤1000000000000000:=by omega
   have f1:=fs x (Zi hx);generalize szX (x.e)=sz at f1;obtain⟨b0,b1,b2,b3,b4,b5,b6,b7,b8,he9⟩:=encX9 x.e;unfold encSp at hr hr';rw[he9]at hr f1;simp only[he9]at hr';have hev0:True:=trivial;have hev:True:=trivial;have hf:=fit_succ hf0;simp[hlen,g1,g3,hi9,hrow,hi,hq,hr,hr',f1,hf,hev,hev0]
  ·have hil:i=l.length:=Yc hle (Yb hi);subst hil;simp[hlen,g1,g3,hi9,hrow,hq]
 ·rintro o fr' h' rfl ⟨rfl,hlen,g1,hh,v,g3⟩;simp only at hlen g1 hh g3;subst hh;simp;exact hX _ _ hlen g1 g3
theorem ms_7 (M:Nat)(row:List AV)(fr:List AV)(v:Int)(hlen:fr.length=199)(g3:gt fr 3= .sc (.int .i64 v)):PM (exec2 cx (callN cx M) (cT 7 kMA) (fr,[.row row])):=by
 refine⟨v,[.row row],?_⟩;simp[kMA,cT,cR,cL,Tryz.f11,hlen,g3]
theorem ms_2 (M:Nat)(l:List Tp)(rows:List (List AV))(row:List AV)(hrow:row[3]?=some (.ls 3 rows false))(hq:rows.length=l.length)(hg:∀i:Nat,rows[i]?=(l[i]?).map encTp)(hl:l.length≤1000000000)(hb:∀p∈l,p.nodes.length≤1000000000∧p.edges.length≤1000000000)(X:Code)
 (fp:∀p∈l,∃E:List Ep,E.length≤1000000000∧(∀b h,callN cx M b 26 [.ag (encTp p)] h=some (.ls 9 (encXs E) false,h))∧∀e∈E,∀b h,callN cx M b 25 [.ag (encX e)] h=some (.sc (.int .i64 (szX e)),h))
 (hX:∀fr v,fr.length=199→gt fr 1= .pt 0 0→gt fr 3= .sc (.int .i64 v)→PM (exec2 cx (callN cx M) X (fr,[.row row]))) (fr:List AV) (v:Int) (hlen:fr.length=199) (g1:gt fr 1= .pt 0 0) (g3:gt fr 3= .sc (.int .i64 v)):
 PM (exec2 cx (callN cx M) (.seq (cL (cT 2 kMA)) X) (fr,[.row row])):=by
 simp[kMA,cT,cR,cL,Tryz.f11,hlen];generalize hXX:exec2 cx (callN cx M) (.loop _) _=XX;refine loopE hXX
  (fun i st=>st.1.length=199∧gt st.1 1= .pt 0 0∧gt st.1 4= .sc (.int .i64 (i:Nat))∧st.2=[.row row]∧∃v,gt st.1 3= .sc (.int .i64 v))
  (fun o st=>o= .exit 0∧st.1.length=199∧gt st.1 1= .pt 0 0∧st.2=[.row row]∧∃v,gt st.1 3= .sc (.int .i64 v))
  l.length (by simp;omega) ⟨by simp[hlen],by simp[g1],by simp[hlen],rfl,v,by simp[g3]⟩ ?_ ?_
 ·clear hXX XX hlen g1 g3 hX;rintro i fr hp hle ⟨hlen,g1,hi4,hh,v,g3⟩;simp only at hlen g1 hi4 hh g3;subst hh;by_cases hi:i<l.length
  ·obtain⟨p,hx,hr,hr'⟩:=row_get hg hi;have hf0:i≤1000000000000000:=by omega
   obtain⟨E,hE,f1,fs⟩:=fp p (Zi hx);obtain⟨hbn,hbe⟩:=hb p (Zi hx);have hqE:=encXs_length E;have hgE:=encXs_get E;have hqn:=npR_length p.nodes;have hgn:=npR_get p.nodes;have hqe:=gpR_length p.edges;have hge:=gpR_get p.edges;unfold encTp at hr hr' f1;generalize encXs E=rE at *;generalize npR p.nodes=rn at *;generalize gpR p.edges=re at *;simp[hlen,g1,g3,hi4,hrow,hi,hq,hr,hr',f1,hqE];generalize hYY:exec2 cx (callN cx M) (.loop _) _=YY;refine loopE hYY
    (fun j st=>st.1.length=199∧gt st.1 1= .pt 0 0∧gt st.1 4= .sc (.int .i64 (i:Nat))∧gt st.1 5= .ls 9 rE false∧gt st.1 6= .sc (.int .i64 (j:Nat))∧st.2=[.row row]∧∃v,gt st.1 3= .sc (.int .i64 v))
    (fun o st=>o= .exit 2∧st.1.length=199∧gt st.1 1= .pt 0 0∧gt st.1 4= .sc (.int .i64 (i:Nat))∧st.2=[.row row]∧∃v,gt st.1 3= .sc (.int .i64 v))
    E.length (by simp;omega) ⟨by simp[hlen],by simp[g1],by simp[hi4],by simp[hlen],by simp[hlen],rfl,_,by simp[hlen];rfl⟩ ?_ ?_
   ·clear hYY YY hlen g1 g3 hi4;rintro j fr hp hle' ⟨hlen,g1,hi4,g5,g6,hh,v,g3⟩;simp only at hlen g1 hi4 g5 g6 hh g3;subst hh;by_cases hj:j<E.length
    ·obtain⟨x,hxj,hrj,hrj'⟩:=row_get hgE hj;have hj0:j≤1000000000000000:=by omega
     have fz:=fs x (Zi hxj);generalize szX x=sz at fz;have hev0:=encX_length x;generalize encX x=ev at hrj hrj' fz hev0;have hev:ev.take 9=ev:=List.take_of_length_le (by omega);have hf:=fit_succ hj0;simp[hlen,g1,g3,hi4,g5,g6,hj,hqE,hrj,hrj',fz,hf,hev,hev0]
    ·have hil:j=E.length:=Yc hle' (Yb hj);subst hil;simp[hlen,g1,g3,hi4,g5,g6,hqE]
   ·rintro o fr' h' rfl ⟨rfl,hlen,g1,hi4,hh,v,g3⟩;simp only at hlen g1 hi4 hh g3;subst hh;simp[hlen];generalize hZZ:exec2 cx (callN cx M) (.loop _) _=ZZ;refine loopE hZZ
     (fun j st=>st.1.length=199∧gt st.1 1= .pt 0 0∧gt st.1 4= .sc (.int .i64 (i:Nat))∧gt st.1 7= .sc (.int .i64 (j:Nat))∧st.2=[.row row]∧∃v,gt st.1 3= .sc (.int .i64 v))
     (fun o st=>o= .exit 4∧st.1.length=199∧gt st.1 1= .pt 0 0∧gt st.1 4= .sc (.int .i64 (i:Nat))∧st.2=[.row row]∧∃v,gt st.1 3= .sc (.int .i64 v))
     p.edges.length (by simp;omega) ⟨by simp[hlen],by simp[g1],by simp[hi4],by simp[hlen],rfl,v,by simp[g3]⟩ ?_ ?_
    ·clear hZZ ZZ hlen g1 g3 hi4;rintro j fr hp hle' ⟨hlen,g1,hi4,g7,hh,v,g3⟩;simp only at hlen g1 hi4 g7 hh g3;subst hh;by_cases hj:j<p.edges.length
     ·obtain⟨x,hxj,hrj,hrj'⟩:=row_get hge hj;have hj0:j≤1000000000000000:=by omega
      unfold encGp at hrj hrj';have hf:=fit_succ hj0;simp[hlen,g1,g3,hi4,g7,hrow,hi,hq,hr,hr',hj,hqe,hrj,hrj',hf]
     ·have hil:j=p.edges.length:=Yc hle' (Yb hj);subst hil;simp[hlen,g1,g3,hi4,g7,hrow,hi,hq,hr,hr',hqe]
    ·rintro o fr' h' rfl ⟨rfl,hlen,g1,hi4,hh,v,g3⟩;simp only at hlen g1 hi4 hh g3;subst hh;simp[hlen];generalize hWW:exec2 cx (callN cx M) (.loop _) _=WW;refine loopE hWW
      (fun j st=>st.1.length=199∧gt st.1 1= .pt 0 0∧gt st.1 4= .sc (.int .i64 (i:Nat))∧gt st.1 8= .sc (.int .i64 (j:Nat))∧st.2=[.row row]∧∃v,gt st.1 3= .sc (.int .i64 v))
      (fun o st=>o= .exit 6∧st.1.length=199∧gt st.1 1= .pt 0 0∧gt st.1 4= .sc (.int .i64 (i:Nat))∧st.2=[.row row]∧∃v,gt st.1 3= .sc (.int .i64 v))
      p.nodes.length (by simp;omega) ⟨by simp[hlen],by simp[g1],by simp[hi4],by simp[hlen],rfl,v,by simp[g3]⟩ ?_ ?_
     ·clear hWW WW hlen g1 g3 hi4;rintro j fr hp hle' ⟨hlen,g1,hi4,g8,hh,v,g3⟩;simp only at hlen g1 hi4 g8 hh g3;subst hh;by_cases hj:j<p.nodes.length
      ·obtain⟨x,hxj,hrj,hrj'⟩:=row_get hgn hj;have hj0:j≤1000000000000000:=by omega
       unfold encNp at hrj hrj';have hf:=fit_succ hj0;simp[hlen,g1,g3,hi4,g8,hrow,hi,hq,hr,hr',hj,hqn,hrj,hrj',hf]
      ·have hil:j=p.nodes.length:=Yc hle' (Yb hj);subst hil;simp[hlen,g1,g3,hi4,g8,hrow,hi,hq,hr,hr',hqn]
     ·rintro o fr' h' rfl ⟨rfl,hlen,g1,hi4,hh,v,g3⟩;simp only at hlen g1 hi4 hh g3;subst hh;have hf:=fit_succ hf0;simp[hlen,g1,g3,hi4,hi,hf]
  ·have hil:i=l.length:=Yc hle (Yb hi);subst hil;simp[hlen,g1,g3,hi4,hrow,hq]
 ·rintro o fr' h' rfl ⟨rfl,hlen,g1,hh,v,g3⟩;simp only at hlen g1 hh g3;subst hh;simp;exact hX _ _ hlen g1 g3
theorem sum_mem {α:Type}(f:α→Nat){l:List α}{x:α}(h:x∈l):f x≤(l.map f).sum:=by
 induction l with
 |nil=>cases h
 |
  cons a l ih=>
  rw[List.map_cons,List.sum_cons];rcases List.mem_cons.1 h with rfl|h
  ·omega
  ·have:=ih h;omega
theorem sum_le {α:Type}(f g:α→Nat)(l:List α)(h:∀x,f x≤g x):(l.map f).sum≤(l.map g).sum:=by
 induction l with
 |nil=>simp
 |cons a l ih=>have:=h a;rw[List.map_cons,List.sum_cons,List.map_cons,List.sum_cons];omega
theorem calm_encCp (c:Cp):[AV.ag (encCp c)].all calm=true:=by
 have h0:=calm_encX c.e;simp[encCp,calm]at h0⊢;exact h0
theorem r18_Many (D d n:Nat)(c:Cp)(hb:BrC D d c)(hm:mCp c≤1000000000)(hn:d+10≤n):∃v,∀b h,callN cx n b 11 [.ag (encCp c)] h=some (.sc (.int .i64 v),h):=by
 obtain⟨M,rfl⟩:∃m,n=m+1:=⟨n-1,by omega⟩;have fs:∀e,okX D d e→∀b h,callN cx M b 25 [.ag (encX e)] h=some (.sc (.int .i64 (szX e)),h):=fun e he b h=>by
  have:=r18_Size D d e he.1 he.2 (M-d-1) b h
  rwa [show M-d-1+d+1=M by omega]at this
 have hmc:mCp c=(c.paths.map mTp).sum+(c.wher.map fun x=>2*cntX x).sum+2*cntX c.e+(c.items.map fun x=>2*cntX x.e).sum+(c.order.map fun x=>2*cntX x.e).sum+(c.sets.map fun x=>2*cntX x.e+2).sum+(c.names.map fun _=>1).sum+1:=rfl;have fp:∀p∈c.paths,∃E:List Ep,E.length≤1000000000∧(∀b h,callN cx M b 26 [.ag (encTp p)] h=some (.ls 9 (encXs E) false,h))∧∀e∈E,∀b h,callN cx M b 25 [.ag (encX e)] h=some (.sc (.int .i64 (szX e)),h):=by
  intro p hp;obtain⟨hbn,hbe,hln,hle⟩:=hb.paths p hp;have h1:=sum_mem mTp hp;have h2:mTp p=(p.nodes.map mNo).sum+(p.edges.map mEd).sum:=rfl;have h3:=sum_le nPp mNo p.nodes (fun x=>by unfold nPp mNo;omega);have h4:=sum_le gPp mEd p.edges (fun x=>by unfold gPp mEd;omega);obtain⟨E,hE,hEl,hf⟩:=r18_props (M-1) (okX D d) p (fun x hx q hq=>(hbn x hx).1 q hq) (fun x hx q hq=>(hbe x hx).1 q hq) (by omega) (by omega);rw[show M-1+1=M by omega]at hf;exact⟨E,hEl,hf,fun e he=>fs e (hE e he)⟩
 have hw:PM (exec2 cx (callN cx M) kMA ([.ag (encCp c)]++List.replicate 198 .un,[])):=by
  rw[show kMA= .seq (cL (cT 0 kMA)) (.seq (cL (cT 1 kMA)) (.seq (cL (cT 2 kMA)) (.seq (cL (cT 3 kMA)) (.seq (cL (cT 4 kMA)) (.seq (cL (cT 5 kMA)) (.seq (cL (cT 6 kMA)) (cT 7 kMA))))))) by kernel_rfl];have s7:=fun fr v hlen (g1:gt fr 1= .pt 0 0) g3=>ms_7 M (encCp c) fr v hlen g3
  generalize cT 7 kMA=Z7 at s7⊢;have s6:=ms_6 M c.sets (spR c.sets) (encCp c) (row15 c).2.2.1 (spR_length _) (spR_get _) hb.n5 Z7 (fun x hx=>fs _ (hb.sets x hx)) s7;generalize Code.seq (cL (cT 6 kMA)) Z7=Z6 at s6⊢;have s5:=ms_5 M c.order (opR c.order) (encCp c) (row15 c).2.1 (opR_length _) (opR_get _) hb.n4 Z6 (fun x hx=>fs _ (hb.order x hx)) s6;generalize Code.seq (cL (cT 5 kMA)) Z6=Z5 at s5⊢;have s4:=ms_4 M c.items (ipR c.items) (encCp c) (row15 c).1 (ipR_length _) (ipR_get _) hb.n3 Z5 (fun x hx=>fs _ (hb.items x hx)) s5;generalize Code.seq (cL (cT 4 kMA)) Z5=Z4 at s4⊢;have s3:=ms_3 M c.wher (encXs c.wher) (encCp c) rfl (encXs_length _) (encXs_get _) hb.n2 Z4 (fun x hx=>fs _ (hb.wher x hx)) s4;generalize Code.seq (cL (cT 3 kMA)) Z4=Z3 at s3⊢;have s2:=ms_2 M c.paths (tpR c.paths) (encCp c) rfl (tpR_length _) (tpR_get _) (Yj hb.n1 (by omega)) (fun p hp=>⟨Yj (hb.paths p hp).2.2.1 (by omega),Yj (hb.paths p hp).2.2.2 (by omega)⟩) Z3 fp s3;generalize Code.seq (cL (cT 2 kMA)) Z3=Z2 at s2⊢;have fe:=fs c.e hb.e;clear s3 s4 s5 s6 s7 fp fs hm hmc;have hr20:=(row15 c).2.2.2;have hr5:((encCp c).drop 5).take 9=encX c.e:=by
   obtain⟨a0,a1,a2,a3,a4,a5,a6,a7,a8,he9,hcc⟩:=encCp9 c;rw[he9,hcc];rfl
  have hcl:(encCp c).length=21:=by simp[encCp,encX_length]
  have hr20':∀k,(encCp c)[20]'k= .ls 1 (tsR c.names) false:=fun kx=>by obtain⟨_,e⟩:=Za.1 hr20;exact e
  have hqs:=tsR_length c.names;have hex:=encX_length c.e;generalize szX c.e=sz at *;generalize encX c.e=ev at *;generalize tsR c.names=rt at *;generalize encCp c=row at *;simp[kMA,cT,cR,cL,Tryz.f11,hcl,hr20,hr20',hr5,hex,fe];exact s2 _ _ (by simp) (by simp) (by simp;rfl)
 obtain⟨v,h',e⟩:=hw;refine⟨v,fun b h=>?_⟩;refine pure_calm (n:=M) (r:= .sc (.int .i64 v)) ⟨Tryz.f11.ntmps,(Tryz.f11.body).getD .skip,[.tmp 2]⟩ (by kernel_rfl) (by kernel_rfl) rfl (by kernel_rfl) (by simp[Tryz.f11]) (calm_encCp c) rfl ?_ b h;show Option.map Prod.fst (finX [.tmp 2] (exec2 cx (callN cx M) kMA ([.ag (encCp c)]++List.replicate 198 .un,[])))=_;rw[e];rfl
noncomputable def kLI :Code:=(Tryz.f5.body).getD .skip
theorem r18_Light (D d n:Nat)(q:List Cp)(hb:∀c∈q,BrC D d c)(hm:∀c∈q,mCp c≤1000000000)(hl:q.length≤1000000)(hn:d+11≤n):∃w,∀b h,callN cx n b 5 [.ag (encQ q)] h=some (.sc (.bool w),h):=by
 obtain⟨M,rfl⟩:∃m,n=m+1:=⟨n-1,by omega⟩;have fm:=fun c hc=>r18_Many D d M c (hb c hc) (hm c hc) (by omega)
 have hw:∃w h',finX [.tmp 2] (exec2 cx (callN cx M) kLI ([.ag (encQ q)]++List.replicate 21 .un,[]))=some (.sc (.bool w),h'):=by
  have hq:=cpR_length q;have hg:=cpR_get q;unfold encQ;generalize cpR q=rows at *;simp[kLI,Tryz.f5];generalize hXX:exec2 cx (callN cx M) (.loop _) _=XX;refine loopE hXX
   (fun i st=>st.1.length=22∧gt st.1 1= .pt 0 0∧gt st.1 4= .sc (.int .i64 (i:Nat))∧st.2=[.row [.ls 21 rows false]]∧∃v,gt st.1 3= .sc (.int .i64 v))
   (fun o st=>o= .exit 0∧st.1.length=22∧∃v,gt st.1 3= .sc (.int .i64 v))
   q.length (by simp;omega) ⟨by simp,by simp,by simp,rfl,0,by simp⟩ ?_ ?_
  ·clear hXX XX;rintro i fr hp hle ⟨hlen,g1,g4,hh,v,g3⟩;simp only at hlen g1 g4 hh g3;subst hh;by_cases hi:i<q.length
   ·obtain⟨c,hx,hr,hr'⟩:=row_get hg hi;have hf0:i≤1000000000000000:=by omega
    obtain⟨u,f1⟩:=fm c (Zi hx);have hec:(encCp c).length=21:=by simp[encCp,encX_length]
    have hct:(encCp c).take 21=encCp c:=List.take_of_length_le (by omega);generalize encCp c=row at *;have hf:=fit_succ hf0;simp[hlen,g1,g3,g4,hi,hq,hr,hr',hec,hct,f1,hf]
   ·have hil:i=q.length:=Yc hle (Yb hi);subst hil;simp[hlen,g1,g3,g4,hq]
  ·rintro o fr' h' rfl ⟨rfl,hlen,v,g3⟩;simp only at hlen g3;simp[hlen,g3];omega
 obtain⟨w,h',e⟩:=hw;refine⟨w,fun b h=>?_⟩;refine pure_calm (n:=M) (r:= .sc (.bool w)) ⟨Tryz.f5.ntmps,(Tryz.f5.body).getD .skip,[.tmp 2]⟩ (by kernel_rfl) (by kernel_rfl) rfl (by kernel_rfl) (by simp[Tryz.f5]) rfl rfl ?_ b h;show Option.map Prod.fst (finX [.tmp 2] (exec2 cx (callN cx M) kLI ([.ag (encQ q)]++List.replicate 21 .un,[])))=_;rw[e];rfl
end
end Go.Proofs.YtmocfjnklfpnbaaGreatDoor
