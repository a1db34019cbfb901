/- The binder: the path patterns of a clause: the loop in the program's binder.paths. -/
import Derived.Test.YtmocfjnklfpnbaaGreatDoorP29
set_option linter.all false
set_option maxRecDepth 100000
namespace Go.Proofs.YtmocfjnklfpnbaaGreatDoor
open Go Go.Ae
section
attribute [local simp] aop aopW coldF extF putA ofConst flat scalarOp fastOp binFast intOp strOp guardX Ae.part rowOf szOk natOf lenA cls fillA newsOf isNilC cellX
set_option maxHeartbeats 32000000
noncomputable def kPA :Code:=(Tryz.f77.body).getD .skip
def bbN (D d:Nat)(x:Np):Prop:=(∀q∈x.props,okE D d q.e)∧x.props.length≤1000000000
def bbG (D d:Nat)(x:Gp):Prop:=(∀q∈x.props,okE D d q.e)∧x.props.length≤1000000000
def bbT (D d:Nat)(p:Tp):Prop:=(∀x∈p.nodes,bbN D d x)∧(∀x∈p.edges,bbG D d x)∧p.nodes.length≤1000000000∧p.edges.length≤1000000000
def PB (id:Nat)(T:Bs)(h0:Hp)(r:Option (Out × St)):Prop:=∃h',finX [] r=some (.tp [],h')∧BS id T h'∧Keep id h0 h'
theorem pa_1 (D d M id hc:Nat)(kd:Int)(l:List Tp)(rows:List (List AV))(row:List AV)(hrow:row[0]?=some (.sc (.int .i64 kd))∧row[3]?=some (.ls 3 rows false))(T:Bs)(h0:Hp)(X:Code)
 (hq:rows.length=l.length) (hg:∀i:Nat,rows[i]?=(l[i]?).map encTp) (hl:l.length≤1000000000) (hb:∀p∈l,bbT D d p) (hn:3*d+40≤M) (s:Bs)
 (hX:∀fr h,BS id (l.foldl (fun s p=>s.path p kd) s) h→OkS (l.foldl (fun s p=>s.path p kd) s)→(l.foldl (fun s p=>s.path p kd) s).old=s.old→Keep id h0 h→fr.length=89→gt fr 0= .pt id 0→gt fr 3= .pt hc 0→h[hc]?=some (.row row)→PB id T h0 (exec2 cx (callN cx M) X (fr,h)))
 (fr:List AV) (h:Hp) (hS:BS id s h) (hs:OkS s) (hK:Keep id h0 h) (hlen:fr.length=89) (g0:gt fr 0= .pt id 0) (g3:gt fr 3= .pt hc 0) (g4:gt fr 4= .sc (.bool (decide (kd=1)))) (hh:h[hc]?=some (.row row)) (hne:hc≠id):
 PB id T h0 (exec2 cx (callN cx M) (.seq (cL (cT 2 kPA)) X) (fr,h)):=by
 obtain⟨k1,e1⟩:∃k,M=k+1:=⟨M-1,by omega⟩;obtain⟨k2,e2⟩:∃k,M=k+2:=⟨M-2,by omega⟩;have ff:=fun b (s:Bs) e h hS=>bd_fail k1 b id s e h hS
 have fi:=fun b (s:Bs) nm k h hS hl=>bd_intro k2 b id s nm k h hS hl
 have fk:=fun b (s:Bs) (y:AV) (h:Hp) nm (hB:Bld h 2 (coR s.now) y) (hs:OkS s)=>kind_call k1 b s.now y h nm hB (by have:=hs.2;omega)
 have fnd:=fun b (s:Bs) (x:Np) m h hS (hx:bbN D d x) (hs:OkS s)=>bd_node D d M b id s x m h hS hx.1 hx.2 (by have:=hs.1;omega) (by have:=hs.2;omega) (by omega)
 have fed:=fun b (s:Bs) (x:Gp) m h hS (hx:bbG D d x) (hs:OkS s)=>bd_edge D d M b id s x m h hS hx.1 hx.2 (by have:=hs.1;omega) (by have:=hs.2;omega) (by omega)
 rw[←e1]at ff fk;rw[←e2]at fi;clear e1 e2 hn;obtain⟨hr0,hr3⟩:=hrow;generalize hTL:l.foldl (fun s p=>s.path p kd) s=TL at hX;simp[kPA,cT,cR,cL,Tryz.f77,hlen,g0,g3,g4,hh,hr3,hq];generalize hXX:exec2 cx (callN cx M) (.loop _) _=XX;refine loopE hXX
  (fun i st=>st.1.length=89∧gt st.1 0= .pt id 0∧gt st.1 3= .pt hc 0∧gt st.1 4= .sc (.bool (decide (kd=1)))∧st.2[hc]?=some (.row row)∧gt st.1 15= .ls 3 rows false∧gt st.1 16= .sc (.int .i64 (l.length:Nat))∧gt st.1 17= .sc (.int .i64 (i:Nat))∧∃s',BS id s' st.2∧OkS s'∧s'.old=s.old∧Keep id h0 st.2∧(l.drop i).foldl (fun s p=>s.path p kd) s'=TL)
  (fun o st=>o= .exit 0∧st.1.length=89∧gt st.1 0= .pt id 0∧gt st.1 3= .pt hc 0∧st.2[hc]?=some (.row row)∧BS id TL st.2∧OkS TL∧TL.old=s.old∧Keep id h0 st.2)
  l.length (by simp;omega) ⟨by simp[hlen],by simp[g0],by simp[g3],by simp[g4],hh,by simp[hlen],by simp[hlen],by simp[hlen],s,hS,hs,rfl,hK,hTL⟩ ?_ ?_
 ·clear hXX XX hTL hS hK hlen g0 g3 g4 hh hs hX;rintro i fr hp hle ⟨hlen,g0,g3,g4,hh,h15,h16,h17,s',hS,hs,hso,hK,hTL⟩;simp only at hlen g0 g3 g4 hh h15 h16 h17 hS hK;by_cases hi:i<l.length
  ·obtain⟨p,hx,hr,hr'⟩:=row_get hg hi;have hmem:=Zi hx;have hf0:i≤1000000000000000:=by omega
   rw[drop_of hx,List.foldl_cons]at hTL;obtain⟨hbn,hbe,hln,hle'⟩:=hb p hmem;have hlt:=hS.lt;have hS2:=hS.app [.row (encTp p)];have hh2:=get_app [.row (encTp p)] hh;have hK2:=hK.trans (Keep.app id hp [.row (encTp p)]);have gp:(hp++[Blk.row (encTp p)])[hp.length]?=some (.row (encTp p)):=by simp
   have hpid:hp.length≠id:=by omega
   unfold encTp at hr hr' gp hS2 hh2 hK2;have hqn:=npR_length p.nodes;have hgn:=npR_get p.nodes;have hqe:=gpR_length p.edges;have hge:=gpR_get p.edges;generalize npR p.nodes=rn at *;generalize gpR p.edges=re at *;generalize hHH:hp++[Blk.row [.sc (.string p.var),.ls 3 rn false,.ls 7 re false]]=hp1 at *;generalize hjp:hp.length=jp at *;simp[hlen,g0,g3,g4,h15,h16,h17,hi,hq,hr,hr',spl3,hHH,hjp,gp,hqn];generalize hYY:exec2 cx (callN cx M) (.loop _) _=YY;generalize hm:decide (kd=1)=m at *;generalize hTI:Bs.hops m s' p.nodes p.edges=TI;refine loopE hYY
    (fun i' st=>st.1.length=89∧gt st.1 0= .pt id 0∧gt st.1 3= .pt hc 0∧gt st.1 4= .sc (.bool m)∧gt st.1 6= .pt jp 0∧st.2[hc]?=some (.row row)∧st.2[jp]?=some (.row [.sc (.string p.var),.ls 3 rn false,.ls 7 re false])∧gt st.1 15= .ls 3 rows false∧gt st.1 16= .sc (.int .i64 (l.length:Nat))∧gt st.1 17= .sc (.int .i64 (i:Nat))∧
     gt st.1 22= .ls 3 rn false∧gt st.1 23= .sc (.int .i64 (p.nodes.length:Nat))∧gt st.1 24= .sc (.int .i64 (i':Nat))∧∃s2,BS id s2 st.2∧OkS s2∧s2.old=s.old∧Keep id h0 st.2∧Bs.hops m s2 (p.nodes.drop i') (p.edges.drop i')=TI)
    (fun o st=>o= .exit 2∧st.1.length=89∧gt st.1 0= .pt id 0∧gt st.1 3= .pt hc 0∧gt st.1 4= .sc (.bool m)∧gt st.1 6= .pt jp 0∧st.2[hc]?=some (.row row)∧st.2[jp]?=some (.row [.sc (.string p.var),.ls 3 rn false,.ls 7 re false])∧gt st.1 15= .ls 3 rows false∧gt st.1 16= .sc (.int .i64 (l.length:Nat))∧gt st.1 17= .sc (.int .i64 (i:Nat))∧
     BS id TI st.2∧OkS TI∧TI.old=s.old∧Keep id h0 st.2)
    p.nodes.length (by simp;omega) ⟨by simp[hlen],by simp[g0],by simp[g3],by simp[g4],by simp[hlen],hh2,gp,by simp[h15],by simp[h16],by simp[h17],by simp[hlen],by simp[hlen],by simp[hlen],s',hS2,hs,hso,hK2,hTI⟩ ?_ ?_
   ·clear hYY YY hTI hS2 hK2 hlen g0 g3 g4 hh h15 h16 h17 hS hK hTL hs hso hh2 gp;rintro j fr hp hle ⟨hlen,g0,g3,g4,g6,hh,gp,h15,h16,h17,h22,h23,h24,s2,hS,hs,hso,hK,hTI⟩;simp only at hlen g0 g3 g4 g6 hh gp h15 h16 h17 h22 h23 h24 hS hK;by_cases hj:j<p.nodes.length
    ·obtain⟨x,hxj,hrj,hrj'⟩:=row_get hgn hj;have hfj0:j≤1000000000000000:=by omega
     rw[Bs.hops_step hxj]at hTI;have hS3:=hS.app [.row (encNp x)];obtain⟨h1,f1,hS4,hK4⟩:=fnd true s2 x m _ hS3 (hbn x (Zi hxj)) hs;have hh1:=hK4 _ _ (get_app [.row (encNp x)] hh) hne;have gp1:=hK4 _ _ (get_app [.row (encNp x)] gp) hpid;have hK5:=(hK.trans (Keep.app _ _ [.row (encNp x)])).trans hK4;have hold:=(Bs.node_old s2 x m).trans hso;have hok:=hs.node x m;generalize s2.node x m=s3 at *;unfold encNp at hrj hrj' f1;by_cases he:j<p.edges.length
     ·obtain⟨e,hej,hre,hre'⟩:=row_get hge he;obtain⟨h2,f2,hS6,hK6⟩:=fed true s3 e m h1 hS4 (hbe e (Zi hej)) hok;rw[hej]at hTI;unfold encGp at hre hre' f2;have hfj:=fit_succ hfj0;simp[hlen,g0,g3,g4,g6,h15,h16,h17,h22,h23,h24,hj,hqn,hrj,hrj',spl3,f1,gp1,he,hqe,hre,hre',f2,hfj];exact⟨hK6 _ _ hh1 hne,hK6 _ _ gp1 hpid,_,hS6,hok.edge e m,(Bs.edge_old _ _ _).trans hold,hK5.trans hK6,hTI⟩
     ·rw[List.getElem?_eq_none (by omega)]at hTI;have hfj:=fit_succ hfj0;simp[hlen,g0,g3,g4,g6,h15,h16,h17,h22,h23,h24,hj,hqn,hrj,hrj',spl3,f1,gp1,he,hqe,hfj];exact⟨hh1,_,hS4,hok,hold,hK5,hTI⟩
    ·have hil:j=p.nodes.length:=Yc hle (Yb hj);subst hil;rw[Yd]at hTI;subst hTI;simp[hlen,h23,h24];exact⟨g0,g3,g4,g6,hh,gp,h15,h16,h17,hS,hs,hso,hK⟩
   ·rintro o fr' h' rfl ⟨rfl,hlen,g0,g3,g4,g6,hh,gp,h15,h16,h17,hS,hs,hso,hK⟩;simp only at hlen g0 g3 g4 g6 hh gp h15 h16 h17 hS hK;have hsp:s'.path p kd=(if eqS p.var ⟨#[]⟩=true then TI else if kd=5 then TI.fail 8 else if kndS TI.now p.var=0 then TI.intro p.var 3 else TI.fail 7):=by unfold Bs.path;rw[hm,hTI]
    rw[hsp]at hTL;clear hsp;have hf:=fit_succ hf0;by_cases he:eqS p.var ⟨#[]⟩=true
    ·rw[if_pos he]at hTL;simp[hlen,g0,g3,g4,g6,h15,h16,h17,hi,gp,he,hf];exact⟨hh,TI,hS,hs,hso,hK,hTL⟩
    rw[if_neg he]at hTL;simp only[Bool.not_eq_true]at he;by_cases k5:kd=5
    ·rw[if_pos k5]at hTL;obtain⟨h2,f2,hS6,hK6⟩:=ff true TI 8 h' hS;subst k5;simp[hlen,g0,g3,g4,g6,h15,h16,h17,hi,gp,he,hf,hh,hr0,f2];exact⟨hK6 _ _ hh hne,_,hS6,hs,hso,hK.trans hK6,hTL⟩
    rw[if_neg k5]at hTL;obtain⟨yo,yn,i0,⟨go,go'⟩,gn,gn'⟩:=hS;have hS:BS id TI h':=⟨yo,yn,i0,⟨go,go'⟩,gn,gn'⟩;have fk':=fun b=>fk b TI yn h' p.var gn hs
    have q3:=fun(ops:Array Oper) (dd:Tmp) (rest:List Oper) (fr:List AV) (h:Hp)=>opN_np (C:=cx) (cal:=callN cx M false) (ops:=ops) (fun v=>gn.np v) dd rest fr h
    clear go gn go' gn';by_cases kk:kndS TI.now p.var=0
    ·rw[if_pos kk]at hTL;rw[kk]at fk';obtain⟨h2,f2,hS6,hK6⟩:=fi true TI p.var 3 h' hS (by have:=hs.2;clear hf;omega);simp[hlen,g0,g3,g4,g6,h15,h16,h17,hi,gp,he,hf,hh,hr0,k5,i0,q3,fk',f2];exact⟨hK6 _ _ hh hne,_,hS6,hs.intro _ _,(Bs.intro_old _ _ _).trans hso,hK.trans hK6,hTL⟩
    ·rw[if_neg kk]at hTL;obtain⟨h2,f2,hS6,hK6⟩:=ff true TI 7 h' hS;generalize kndS TI.now p.var=k at fk' kk;simp[hlen,g0,g3,g4,g6,h15,h16,h17,hi,gp,he,hf,hh,hr0,k5,i0,q3,fk',kk,f2];exact⟨hK6 _ _ hh hne,_,hS6,hs,hso,hK.trans hK6,hTL⟩
  ·have hil:i=l.length:=Yc hle (Yb hi);subst hil;rw[Yd,List.foldl_nil]at hTL;subst hTL;simp[hlen,h16,h17];exact⟨g0,g3,hh,hS,hs,hso,hK⟩
 ·rintro o fr' h' rfl ⟨rfl,hlen,g0,g3,hh,hS,hs,hso,hK⟩;simp;exact hX _ _ hS hs hso hK hlen g0 g3 hh
def Bs.chks (s:Bs)(l:List Ep):Bs:=l.foldl (fun s e=>s.fail (chkB s.now e false)) s
theorem Bs.chks_cons (s:Bs)(e:Ep)(l:List Ep):s.chks (e::l)=(s.fail (chkB s.now e false)).chks l:=rfl
theorem chks_ok (l:List Ep):∀{s:Bs},OkS s→OkS (s.chks l)∧(s.chks l).old=s.old∧(s.chks l).now=s.now:=by
 induction l with
 |nil=>exact fun h=>⟨h,rfl,rfl⟩
 |cons e l ih=>exact fun{s} h=>ih (s:=s.fail (chkB s.now e false)) h
def Bs.paths (s:Bs)(c:Cp):Bs:=(c.paths.foldl (fun s p=>s.path p c.kind) s).chks c.wher
noncomputable def kCO :Code:=(Tryz.f82.body).getD .skip
theorem pa_2 (D d M id hc:Nat)(l:List Ep)(rows:List (List AV))(row:List AV)(hrow:row[4]?=some (.ls 9 rows false))(T:Bs)(h0:Hp)
 (hq:rows.length=l.length) (hg:∀i:Nat,rows[i]?=(l[i]?).map encX) (hl:l.length≤1000000000) (hb:∀x∈l,okE D d (x)) (hn:3*d+40≤M) (s:Bs)
 (hTL:s.chks (l.map fun x=>x)=T)
 (fr:List AV) (h:Hp) (hS:BS id s h) (hs:OkS s) (hK:Keep id h0 h) (hlen:fr.length=89) (g0:gt fr 0= .pt id 0) (g3:gt fr 3= .pt hc 0) (hh:h[hc]?=some (.row row)) (hne:hc≠id):
 PB id T h0 (exec2 cx (callN cx M) (cT 3 kPA) (fr,h)):=by
 obtain⟨k1,e1⟩:∃k,M=k+1:=⟨M-1,by omega⟩;have ff:=fun b (s:Bs) e h hS=>bd_fail k1 b id s e h hS
 have fc:=fun(y:AV) (h:Hp) (e:Ep) (he:okE D d e) (hB:Bld h 2 (coR s.now) y) b=>check_call D d M b s.now y h e false hB (by have:=hs.2;omega) he (by omega)
 rw[←e1]at ff;clear e1 hn;simp[kPA,cT,cR,cL,Tryz.f77,hlen,g0,g3,hh,hrow,hq];generalize hXX:exec2 cx (callN cx M) (.loop _) _=XX;refine loopE hXX
  (fun i st=>st.1.length=89∧gt st.1 0= .pt id 0∧gt st.1 3= .pt hc 0∧st.2[hc]?=some (.row row)∧gt st.1 74= .ls 9 rows false∧gt st.1 75= .sc (.int .i64 (l.length:Nat))∧gt st.1 76= .sc (.int .i64 (i:Nat))∧∃s',BS id s' st.2∧s'.now=s.now∧Keep id h0 st.2∧s'.chks ((l.drop i).map fun x=>x)=T)
  (fun o st=>o= .exit 5∧st.1.length=89∧gt st.1 0= .pt id 0∧gt st.1 3= .pt hc 0∧st.2[hc]?=some (.row row)∧BS id T st.2∧Keep id h0 st.2)
  l.length (by simp;omega) ⟨by simp[hlen],by simp[g0],by simp[g3],hh,by simp[hlen],by simp[hlen],by simp[hlen],s,hS,rfl,hK,hTL⟩ ?_ ?_
 ·clear hXX XX hTL hS hK hlen g0 g3 hh;rintro i fr hp hle ⟨hlen,g0,g3,hh,h1,h2,h3,s',hS,hsn,hK,hTL⟩;simp only at hlen g0 g3 hh h1 h2 h3 hS hK;by_cases hi:i<l.length
  ·obtain⟨x,hx,hr,hr'⟩:=row_get hg hi;have hmem:=Zi hx;have hf0:i≤1000000000000000:=by omega
   rw[drop_of hx,List.map_cons,Bs.chks_cons]at hTL;have hS2:=hS.app [.row (encX x)];obtain⟨h',f1,hS',hK'⟩:=ff false s' (chkB s'.now (x) false) _ hS2;obtain⟨yo,yn,i0,⟨go,go'⟩,gn,gn'⟩:=hS;rw[hsn]at gn hTL f1 hS';have g1:=get_app [.row (encX x)] i0;have q3:=fun(ops:Array Oper) (dd:Tmp) (rest:List Oper) (fr:List AV) (h:Hp)=>opN_np (C:=cx) (cal:=callN cx M false) (ops:=ops) (fun v=>gn.np v) dd rest fr h
   have hnow:(s'.fail (chkB s.now (x) false)).now=s.now:=hsn;have hh1:=get_app [.row (encX x)] hh;generalize s'.fail (chkB s.now (x) false)=s2 at hTL hS' hnow;generalize s'.e=e0 at i0 g1;have hev:=encX_length x;have f2:=fc yn (hp++[.row (encX x)]) x (hb x hmem) (gn.grow _) false;generalize chkB s.now x false=c at f1 f2;generalize encX x=ev at hr hr' hev f1 f2 hK' hh1 g1;have hev9:ev.take 9=ev:=List.take_of_length_le (by omega);have hsx:=spX9 hev;have hf:=fit_succ hf0;simp[hlen,g0,g3,h1,h2,h3,hi,hq,hr,hr',hev,hev9,hsx,g1,q3,f1,f2,hf];refine⟨hK' _ _ hh1 hne,s2,hS',hnow,(hK.trans (Keep.app _ _ _)).trans hK',?_⟩
   first|exact hTL|simpa using hTL
  ·have hil:i=l.length:=Yc hle (Yb hi);subst hil;rw[Yd,List.map_nil]at hTL;change s'=T at hTL;subst hTL;simp[hlen,h2,h3];exact⟨g0,g3,hh,hS,hK⟩
 ·rintro o fr' h' rfl ⟨rfl,hlen,g0,g3,hh,hS,hK⟩;simp;exact⟨h',by simp[resR],hS,hK⟩
theorem co_2 (D d M id hc:Nat)(l:List Op')(rows:List (List AV))(row:List AV)(hrow:row[16]?=some (.ls 10 rows false))(T:Bs)(h0:Hp)(X:Code)
 (hq:rows.length=l.length) (hg:∀i:Nat,rows[i]?=(l[i]?).map encOp) (hl:l.length≤1000000000) (hb:∀x∈l,okE D d (x.e)) (hn:3*d+40≤M) (s:Bs)
 (hX:∀fr h,BS id (s.chks (l.map fun x=>x.e)) h→Keep id h0 h→fr.length=91→gt fr 0= .pt id 0→gt fr 3= .pt hc 0→h[hc]?=some (.row row)→PB id T h0 (exec2 cx (callN cx M) X (fr,h)))
 (fr:List AV) (h:Hp) (hS:BS id s h) (hs:OkS s) (hK:Keep id h0 h) (hlen:fr.length=91) (g0:gt fr 0= .pt id 0) (g3:gt fr 3= .pt hc 0) (hh:h[hc]?=some (.row row)) (hne:hc≠id):
 PB id T h0 (exec2 cx (callN cx M) (.seq (cL (cT 3 kCO)) X) (fr,h)):=by
 obtain⟨k1,e1⟩:∃k,M=k+1:=⟨M-1,by omega⟩;have ff:=fun b (s:Bs) e h hS=>bd_fail k1 b id s e h hS
 have fc:=fun(y:AV) (h:Hp) (e:Ep) (he:okE D d e) (hB:Bld h 2 (coR s.now) y) b=>check_call D d M b s.now y h e false hB (by have:=hs.2;omega) he (by omega)
 rw[←e1]at ff;clear e1 hn;generalize hTL:s.chks (l.map fun x=>x.e)=TL at hX;simp[kCO,cT,cR,cL,Tryz.f82,hlen,g0,g3,hh,hrow,hq];generalize hXX:exec2 cx (callN cx M) (.loop _) _=XX;refine loopE hXX
  (fun i st=>st.1.length=91∧gt st.1 0= .pt id 0∧gt st.1 3= .pt hc 0∧st.2[hc]?=some (.row row)∧gt st.1 59= .ls 10 rows false∧gt st.1 60= .sc (.int .i64 (l.length:Nat))∧gt st.1 61= .sc (.int .i64 (i:Nat))∧∃s',BS id s' st.2∧s'.now=s.now∧Keep id h0 st.2∧s'.chks ((l.drop i).map fun x=>x.e)=TL)
  (fun o st=>o= .exit 2∧st.1.length=91∧gt st.1 0= .pt id 0∧gt st.1 3= .pt hc 0∧st.2[hc]?=some (.row row)∧BS id TL st.2∧Keep id h0 st.2)
  l.length (by simp;omega) ⟨by simp[hlen],by simp[g0],by simp[g3],hh,by simp[hlen],by simp[hlen],by simp[hlen],s,hS,rfl,hK,hTL⟩ ?_ ?_
 ·clear hXX XX hTL hS hK hlen g0 g3 hh hX;rintro i fr hp hle ⟨hlen,g0,g3,hh,h1,h2,h3,s',hS,hsn,hK,hTL⟩;simp only at hlen g0 g3 hh h1 h2 h3 hS hK;by_cases hi:i<l.length
  ·obtain⟨x,hx,hr,hr'⟩:=row_get hg hi;have hmem:=Zi hx;have hf0:i≤1000000000000000:=by omega
   rw[drop_of hx,List.map_cons,Bs.chks_cons]at hTL;have hS2:=hS.app [.row (encOp x)];obtain⟨h',f1,hS',hK'⟩:=ff false s' (chkB s'.now (x.e) false) _ hS2;obtain⟨yo,yn,i0,⟨go,go'⟩,gn,gn'⟩:=hS;rw[hsn]at gn hTL f1 hS';have g1:=get_app [.row (encOp x)] i0;have q3:=fun(ops:Array Oper) (dd:Tmp) (rest:List Oper) (fr:List AV) (h:Hp)=>opN_np (C:=cx) (cal:=callN cx M false) (ops:=ops) (fun v=>gn.np v) dd rest fr h
   have hnow:(s'.fail (chkB s.now (x.e) false)).now=s.now:=hsn;have hh1:=get_app [.row (encOp x)] hh;generalize s'.fail (chkB s.now (x.e) false)=s2 at hTL hS' hnow;generalize s'.e=e0 at i0 g1;obtain⟨b0,b1,b2,b3,b4,b5,b6,b7,b8,he9⟩:=encX9 x.e;have f2:=fc yn (hp++[.row (encOp x)]) x.e (hb x hmem) (gn.grow _) false;generalize chkB s.now x.e false=c at f1 f2;unfold encOp at hr hr' f1 f2 hK' hh1 g1;rw[he9]at hr f1 f2 hh1 g1 hK';simp only[he9]at hr';simp only[Zv,Zw]at hr hr' f1 f2 hh1 g1 hK';have hsx:=spX10 (ev:=[b0,b1,b2,b3,b4,b5,b6,b7,b8,.sc (.bool x.desc)]) rfl;have hev:True:=trivial;have hev9:True:=trivial;have hf:=fit_succ hf0;simp[hlen,g0,g3,h1,h2,h3,hi,hq,hr,hr',hev,hev9,hsx,g1,q3,f1,f2,hf];refine⟨hK' _ _ hh1 hne,s2,hS',hnow,(hK.trans (Keep.app _ _ _)).trans hK',?_⟩
   first|exact hTL|simpa using hTL
  ·have hil:i=l.length:=Yc hle (Yb hi);subst hil;rw[Yd,List.map_nil]at hTL;change s'=TL at hTL;subst hTL;simp[hlen,h2,h3];exact⟨g0,g3,hh,hS,hK⟩
 ·rintro o fr' h' rfl ⟨rfl,hlen,g0,g3,hh,hS,hK⟩;simp;exact hX _ _ hS hK hlen g0 g3 hh
theorem co_3 (D d M id hc:Nat)(l:List Ep)(rows:List (List AV))(row:List AV)(hrow:row[4]?=some (.ls 9 rows false))(T:Bs)(h0:Hp)
 (hq:rows.length=l.length) (hg:∀i:Nat,rows[i]?=(l[i]?).map encX) (hl:l.length≤1000000000) (hb:∀x∈l,okE D d (x)) (hn:3*d+40≤M) (s:Bs)
 (hTL:s.chks (l.map fun x=>x)=T)
 (fr:List AV) (h:Hp) (hS:BS id s h) (hs:OkS s) (hK:Keep id h0 h) (hlen:fr.length=91) (g0:gt fr 0= .pt id 0) (g3:gt fr 3= .pt hc 0) (hh:h[hc]?=some (.row row)) (hne:hc≠id):
 PB id T h0 (exec2 cx (callN cx M) (cT 4 kCO) (fr,h)):=by
 obtain⟨k1,e1⟩:∃k,M=k+1:=⟨M-1,by omega⟩;have ff:=fun b (s:Bs) e h hS=>bd_fail k1 b id s e h hS
 have fc:=fun(y:AV) (h:Hp) (e:Ep) (he:okE D d e) (hB:Bld h 2 (coR s.now) y) b=>check_call D d M b s.now y h e false hB (by have:=hs.2;omega) he (by omega)
 rw[←e1]at ff;clear e1 hn;simp[kCO,cT,cR,cL,Tryz.f82,hlen,g0,g3,hh,hrow,hq];generalize hXX:exec2 cx (callN cx M) (.loop _) _=XX;refine loopE hXX
  (fun i st=>st.1.length=91∧gt st.1 0= .pt id 0∧gt st.1 3= .pt hc 0∧st.2[hc]?=some (.row row)∧gt st.1 76= .ls 9 rows false∧gt st.1 77= .sc (.int .i64 (l.length:Nat))∧gt st.1 78= .sc (.int .i64 (i:Nat))∧∃s',BS id s' st.2∧s'.now=s.now∧Keep id h0 st.2∧s'.chks ((l.drop i).map fun x=>x)=T)
  (fun o st=>o= .exit 4∧st.1.length=91∧gt st.1 0= .pt id 0∧gt st.1 3= .pt hc 0∧st.2[hc]?=some (.row row)∧BS id T st.2∧Keep id h0 st.2)
  l.length (by simp;omega) ⟨by simp[hlen],by simp[g0],by simp[g3],hh,by simp[hlen],by simp[hlen],by simp[hlen],s,hS,rfl,hK,hTL⟩ ?_ ?_
 ·clear hXX XX hTL hS hK hlen g0 g3 hh;rintro i fr hp hle ⟨hlen,g0,g3,hh,h1,h2,h3,s',hS,hsn,hK,hTL⟩;simp only at hlen g0 g3 hh h1 h2 h3 hS hK;by_cases hi:i<l.length
  ·obtain⟨x,hx,hr,hr'⟩:=row_get hg hi;have hmem:=Zi hx;have hf0:i≤1000000000000000:=by omega
   rw[drop_of hx,List.map_cons,Bs.chks_cons]at hTL;have hS2:=hS.app [.row (encX x)];obtain⟨h',f1,hS',hK'⟩:=ff false s' (chkB s'.now (x) false) _ hS2;obtain⟨yo,yn,i0,⟨go,go'⟩,gn,gn'⟩:=hS;rw[hsn]at gn hTL f1 hS';have g1:=get_app [.row (encX x)] i0;have q3:=fun(ops:Array Oper) (dd:Tmp) (rest:List Oper) (fr:List AV) (h:Hp)=>opN_np (C:=cx) (cal:=callN cx M false) (ops:=ops) (fun v=>gn.np v) dd rest fr h
   have hnow:(s'.fail (chkB s.now (x) false)).now=s.now:=hsn;have hh1:=get_app [.row (encX x)] hh;generalize s'.fail (chkB s.now (x) false)=s2 at hTL hS' hnow;generalize s'.e=e0 at i0 g1;have hev:=encX_length x;have f2:=fc yn (hp++[.row (encX x)]) x (hb x hmem) (gn.grow _) false;generalize chkB s.now x false=c at f1 f2;generalize encX x=ev at hr hr' hev f1 f2 hK' hh1 g1;have hev9:ev.take 9=ev:=List.take_of_length_le (by omega);have hsx:=spX9 hev;have hf:=fit_succ hf0;simp[hlen,g0,g3,h1,h2,h3,hi,hq,hr,hr',hev,hev9,hsx,g1,q3,f1,f2,hf];refine⟨hK' _ _ hh1 hne,s2,hS',hnow,(hK.trans (Keep.app _ _ _)).trans hK',?_⟩
   first|exact hTL|simpa using hTL
  ·have hil:i=l.length:=Yc hle (Yb hi);subst hil;rw[Yd,List.map_nil]at hTL;change s'=T at hTL;subst hTL;simp[hlen,h2,h3];exact⟨g0,g3,hh,hS,hK⟩
 ·rintro o fr' h' rfl ⟨rfl,hlen,g0,g3,hh,hS,hK⟩;simp;exact⟨h',by simp[resR],hS,hK⟩
structure BbC (D d:Nat)(c:Cp):Prop where
 paths:∀p∈c.paths,bbT D d p
 wher:∀e∈c.wher,okE D d e
 e:okE D d c.e
 items:∀x∈c.items,okE D d x.e
 order:∀x∈c.order,okE D d x.e
 sets:∀x∈c.sets,okE D d x.e
 n1:c.paths.length≤1000000000
 n2:c.wher.length≤1000000000
 n3:c.items.length≤1000000000
 n4:c.order.length≤1000000000
 n5:c.sets.length≤1000000000
 n6:c.names.length≤1000000000
theorem paths_ok (kd:Int):∀(l:List Tp) {s:Bs},OkS s→OkS (l.foldl (fun s p=>s.path p kd) s)∧(l.foldl (fun s p=>s.path p kd) s).old=s.old
 | [],s,h=>⟨h,rfl⟩
 |
  p::l,s,h=>by
  obtain⟨h1,h2⟩:=path_ok h p kd;obtain⟨h3,h4⟩:=paths_ok kd l h1;exact⟨h3,h4.trans h2⟩
theorem bd_paths (D d n:Nat)(t:Bool)(id:Nat)(s:Bs)(c:Cp)(h:Hp)(hS:BS id s h)(hs:OkS s)(hb:BbC D d c)(hn:3*d+50≤n):
 ∃h',callN cx n t 77 [.pt id 0,.ag (encCp c)] h=some (.tp [],h')∧BS id (s.paths c) h'∧Keep id h h':=by
 obtain⟨M,rfl⟩:∃m,n=m+1:=⟨n-1,by omega⟩;rw[call_inl (n:=M) ⟨Tryz.f77.ntmps,(Tryz.f77.body).getD .skip,[]⟩ rfl (by kernel_rfl) (by kernel_rfl) (by kernel_rfl) (by kernel_rfl) (by simp[Tryz.f77])];show PB id (s.paths c) h (exec2 cx (callN cx M) kPA _);rw[show kPA= .seq (cL (cT 0 kPA)) (.seq (cL (cT 1 kPA)) (.seq (cL (cT 2 kPA)) (cT 3 kPA))) by kernel_rfl];have hrest:∀fr,fr.length=89→gt fr 0= .pt id 0→gt fr 3= .pt h.length 0→gt fr 4= .sc (.bool (decide (c.kind=1)))→PB id (s.paths c) h (exec2 cx (callN cx M) (.seq (cL (cT 2 kPA)) (cT 3 kPA)) (fr,h++[.row (encCp c)])):=by
  intro fr hlen g0 g3 g4;have hlt:=hS.lt;refine pa_1 D d M id h.length c.kind c.paths (tpR c.paths) (encCp c) ⟨rfl,rfl⟩ _ h _ (tpR_length _) (tpR_get _) hb.n1 hb.paths (by omega) s ?_ fr _ (hS.app _) hs (Keep.app _ _ _) hlen g0 g3 g4 (by simp) (by omega);intro fr h' hS' hs' ho hK hlen g0 g3 hh;exact pa_2 D d M id h.length c.wher (encXs c.wher) (encCp c) rfl _ h (encXs_length _) (encXs_get _) hb.n2 hb.wher (by omega) _ (by simp[Bs.paths]) fr h' hS' hs' hK hlen g0 g3 hh (by omega)
 generalize Code.seq (cL (cT 2 kPA)) (cT 3 kPA)=Z at hrest⊢;generalize s.paths c=T at hrest⊢;obtain⟨tl,hc,htl⟩:=encCp_tail c;rw[hc]at hrest⊢;by_cases k1:c.kind=1
 ·rw[decide_eq_true k1]at hrest;rw[k1]at hrest⊢;simp[kPA,cT,cR,cL,Tryz.f77,htl];exact hrest _ (by simp) (by simp) (by simp) (by simp)
 ·rw[decide_eq_false k1]at hrest;generalize c.kind=kd at *;simp[kPA,cT,cR,cL,Tryz.f77,htl,k1];exact hrest _ (by simp) (by simp) (by simp) (by simp)
theorem encX9' (e:Ep):∃a1 a2 a3 a4 a5 a7 a8,encX e=[.sc (.int .i64 e.op),a1,a2,a3,a4,a5,.sc (.string e.nm),a7,a8]:=by
 obtain⟨op,v,nm,ds,ks⟩:=e;have hv:=enc_length v;rw[encX]
 match enc v,hv with
 | [a1,a2,a3,a4,a5],_=>exact⟨_,_,_,_,_,_,_,rfl⟩
def Bs.item1 (s:Bs)(x:Ip):Bs:=s.fail (chkB s.old x.e true)
def Bs.item2 (s:Bs)(x:Ip):Bs:=if kndS s.now x.nm=0 then s else s.fail 7
def itemK (s:Bs)(x:Ip):Int:=if x.e.op=2 then kndS s.old x.e.nm else 4
def Bs.item (s:Bs)(x:Ip):Bs:=((s.item1 x).item2 x).intro x.nm (itemK ((s.item1 x).item2 x) x)
theorem item2_ok {s:Bs}(h:OkS s)(x:Ip):OkS (s.item2 x)∧(s.item2 x).old=s.old:=by
 unfold Bs.item2;split
 ·exact⟨h,rfl⟩
 ·exact⟨h,rfl⟩
theorem item_ok {s:Bs}(h:OkS s)(x:Ip):OkS (s.item x)∧(s.item x).old=s.old:=by
 have h1:OkS (s.item1 x):=h;obtain⟨h2,h3⟩:=item2_ok h1 x;exact⟨h2.intro _ _,(Bs.intro_old _ _ _).trans h3⟩
theorem row15 (c:Cp):(encCp c)[15]?=some (.ls 10 (ipR c.items) false)∧(encCp c)[16]?=some (.ls 10 (opR c.order) false)∧(encCp c)[19]?=some (.ls 13 (spR c.sets) false)∧(encCp c)[20]?=some (.ls 1 (tsR c.names) false):=by
 obtain⟨a0,a1,a2,a3,a4,a5,a6,a7,a8,he9⟩:=encX9 c.e;unfold encCp;rw[he9];exact⟨rfl,rfl,rfl,rfl⟩
def Bs.columns (s:Bs)(c:Cp):Bs:=((c.items.foldl Bs.item {s with now:=[]}).chks (c.order.map fun x=>x.e)).chks c.wher
theorem co_1 (D d M id hc:Nat)(l:List Ip)(rows:List (List AV))(row:List AV)(hrow:row[15]?=some (.ls 10 rows false))(T:Bs)(h0:Hp)(X:Code)
 (hq:rows.length=l.length) (hg:∀i:Nat,rows[i]?=(l[i]?).map encIp) (hl:l.length≤1000000000) (hb:∀x∈l,okE D d x.e) (hn:3*d+40≤M) (s:Bs)
 (hX:∀fr h,BS id (l.foldl Bs.item s) h→OkS (l.foldl Bs.item s)→Keep id h0 h→fr.length=91→gt fr 0= .pt id 0→gt fr 3= .pt hc 0→h[hc]?=some (.row row)→PB id T h0 (exec2 cx (callN cx M) X (fr,h)))
 (fr:List AV) (h:Hp) (hS:BS id s h) (hs:OkS s) (hK:Keep id h0 h) (hlen:fr.length=91) (g0:gt fr 0= .pt id 0) (g3:gt fr 3= .pt hc 0) (hh:h[hc]?=some (.row row)) (hne:hc≠id):
 PB id T h0 (exec2 cx (callN cx M) (.seq (cL (cT 2 kCO)) X) (fr,h)):=by
 obtain⟨k1,e1⟩:∃k,M=k+1:=⟨M-1,by omega⟩;obtain⟨k2,e2⟩:∃k,M=k+2:=⟨M-2,by omega⟩;have ff:=fun b (s:Bs) e h hS=>bd_fail k1 b id s e h hS
 have fi:=fun b (s:Bs) nm k h hS (hs:OkS s)=>bd_intro k2 b id s nm k h hS (by have:=hs.2;omega)
 have fk:=fun b (l:Sco) (y:AV) (h:Hp) nm (hB:Bld h 2 (coR l) y) (hs:l.length≤24)=>kind_call k1 b l y h nm hB (by omega)
 have fc:=fun b (l:Sco) (y:AV) (h:Hp) (e:Ep) (he:okE D d e) (hB:Bld h 2 (coR l) y) (hs:l.length≤24)=>check_call D d M b l y h e true hB (by omega) he (by omega)
 rw[←e1]at ff fk;rw[←e2]at fi;clear e1 e2 hn;generalize hTL:l.foldl Bs.item s=TL at hX;simp[kCO,cT,cR,cL,Tryz.f82,hlen,g0,g3,hh,hrow,hq];generalize hXX:exec2 cx (callN cx M) (.loop _) _=XX;refine loopE hXX
  (fun i st=>st.1.length=91∧gt st.1 0= .pt id 0∧gt st.1 3= .pt hc 0∧st.2[hc]?=some (.row row)∧gt st.1 15= .ls 10 rows false∧gt st.1 16= .sc (.int .i64 (l.length:Nat))∧gt st.1 17= .sc (.int .i64 (i:Nat))∧∃s',BS id s' st.2∧OkS s'∧Keep id h0 st.2∧(l.drop i).foldl Bs.item s'=TL)
  (fun o st=>o= .exit 0∧st.1.length=91∧gt st.1 0= .pt id 0∧gt st.1 3= .pt hc 0∧st.2[hc]?=some (.row row)∧BS id TL st.2∧OkS TL∧Keep id h0 st.2)
  l.length (by simp;omega) ⟨by simp[hlen],by simp[g0],by simp[g3],hh,by simp[hlen],by simp[hlen],by simp[hlen],s,hS,hs,hK,hTL⟩ ?_ ?_
 ·clear hXX XX hTL hS hs hK hlen g0 g3 hh hX;rintro i fr hp hle ⟨hlen,g0,g3,hh,h15,h16,h17,s',hS,hs,hK,hTL⟩;simp only at hlen g0 g3 hh h15 h16 h17 hS hK;by_cases hi:i<l.length
  ·obtain⟨x,hx,hr,hr'⟩:=row_get hg hi;have hmem:=Zi hx;have hf0:i≤1000000000000000:=by omega
   rw[drop_of hx,List.foldl_cons]at hTL;have hlt:=hS.lt;have hS2:=hS.app [.row (encIp x)];have hh1:=get_app [.row (encIp x)] hh;have gp1:(hp++[Blk.row (encIp x)])[hp.length]?=some (.row (encIp x)):=by simp
   have hjid:hp.length≠id:=by omega
   have hKa:=hK.trans (Keep.app id hp [.row (encIp x)]);obtain⟨h1,f1,hS4,hK4⟩:=ff false s' (chkB s'.old x.e true) _ hS2;obtain⟨yo,yn,i0,⟨go,go'⟩,gn,gn'⟩:=hS2;have f2:=fc false s'.old yo _ x.e (hb x hmem) go hs.1;have q1:=fun(ops:Array Oper) (dd:Tmp) (rest:List Oper) (fr:List AV) (h:Hp)=>opN_np (C:=cx) (cal:=callN cx M false) (ops:=ops) (fun v=>go.np v) dd rest fr h
   change BS id (s'.item1 x) h1 at hS4;have hs4:OkS (s'.item1 x):=hs;have hh2:=hK4 _ _ hh1 hne;have gp2:=hK4 _ _ gp1 hjid;have hKb:=hKa.trans hK4;unfold Bs.item at hTL;generalize s'.item1 x=s1 at *;clear go go' gn gn';have hS5:=hS4;obtain⟨yo1,yn1,i1,⟨go,go'⟩,gn,gn'⟩:=hS5;have f3:=fk false s1.now yn1 h1 x.nm gn hs4.2;have q2:=fun(ops:Array Oper) (dd:Tmp) (rest:List Oper) (fr:List AV) (h:Hp)=>opN_np (C:=cx) (cal:=callN cx M false) (ops:=ops) (fun v=>gn.np v) dd rest fr h
   clear go go' gn gn';obtain⟨hs6,ho6⟩:=item2_ok hs4 x;obtain⟨h2,f4,hS6,hK6⟩:∃h2,(kndS s1.now x.nm=0∧h2=h1∨kndS s1.now x.nm≠0∧callN cx M true 78 [.pt id 0,.sc (.int .i64 7)] h1=some (.tp [],h2))∧BS id (s1.item2 x) h2∧Keep id h1 h2:=by
    unfold Bs.item2;by_cases kk:kndS s1.now x.nm=0
    ·rw[if_pos kk];exact⟨h1,.inl ⟨kk,rfl⟩,hS4,Keep.refl _ _⟩
    ·rw[if_neg kk];obtain⟨h2,f4,a,b⟩:=ff true s1 7 h1 hS4;exact⟨h2,.inr ⟨kk,f4⟩,a,b⟩
   have hh3:=hK6 _ _ hh2 hne;have gp3:=hK6 _ _ gp2 hjid;have hKc:=hKb.trans hK6;generalize s1.item2 x=s2 at *;have hS7:=hS6;obtain⟨yo2,yn2,i2,⟨go,go'⟩,gn,gn'⟩:=hS7;have f5:=fk false s2.old yo2 h2 x.e.nm go hs6.1;have q3:=fun(ops:Array Oper) (dd:Tmp) (rest:List Oper) (fr:List AV) (h:Hp)=>opN_np (C:=cx) (cal:=callN cx M false) (ops:=ops) (fun v=>go.np v) dd rest fr h
   clear go go' gn gn';obtain⟨h3,f6,hS8,hK8⟩:=fi true s2 x.nm (itemK s2 x) h2 hS6 hs6;have hs8:=hs6.intro x.nm (itemK s2 x);have hh4:=hK8 _ _ hh3 hne;have hKd:=hKc.trans hK8;generalize s2.intro x.nm (itemK s2 x)=s3 at *;unfold itemK at f6;generalize kndS s1.now x.nm=k at f3 f4;generalize kndS s2.old x.e.nm=k2 at f5 f6;generalize chkB s'.old x.e true=c at f1 f2;obtain⟨a1,a2,a3,a4,a5,a7,a8,he9⟩:=encX9' x.e;unfold encIp at hr hr' f1 f2 i0 gp1 gp2 gp3;rw[he9]at hr f1 f2 i0 gp1 gp2 gp3;simp only[he9]at hr';generalize x.e.op=op at *;generalize x.e.nm=enm at *;simp only[Zv,Zw]at hr hr' f1 f2 i0 gp1 gp2 gp3;have hsx:=spX10 (ev:=[.sc (.int .i64 op),a1,a2,a3,a4,a5,.sc (.string enm),a7,a8,.sc (.string x.nm)]) rfl;have gp1':=get_ix gp1;generalize hHH:hp++[Blk.row [.sc (.int .i64 op),a1,a2,a3,a4,a5,.sc (.string enm),a7,a8,.sc (.string x.nm)]]=hp1 at *;clear hS hS4 hS6 hK hK4 hK6 hK8 hKa hKb hKc hs hs4 hs6 ff fi fk fc;generalize hjp:hp.length=jp at *;generalize s'.e=u0 at *;generalize s1.e=u1 at *;generalize s2.e=u2 at *;have hf:=fit_succ hf0;rcases f4 with⟨rfl,rfl⟩|⟨kk,f4⟩
   ·obtain⟨rfl,rfl,rfl⟩:yo1=yo2∧yn1=yn2∧u1=u2:=by
     have e12:=i1.symm.trans i2;simpa using e12
    by_cases ho:op=2
    ·subst ho;rw[if_pos rfl]at f6;simp[hlen,g0,g3,h15,h16,h17,hi,hq,hr,hr',hsx,hHH,hjp,i0,q1,gp1,f2,f1,i1,q2,gp2,f3,gp3,i2,q3,f5,f6,hf];exact⟨hh4,s3,hS8,hs8,hKd,hTL⟩
    ·rw[if_neg ho]at f6;simp[hlen,g0,g3,h15,h16,h17,hi,hq,hr,hr',hsx,hHH,hjp,i0,q1,gp1,f2,f1,i1,q2,gp2,f3,gp3,i2,q3,f5,f6,hf,ho];exact⟨hh4,s3,hS8,hs8,hKd,hTL⟩
   ·by_cases ho:op=2
    ·subst ho;rw[if_pos rfl]at f6;simp[hlen,g0,g3,h15,h16,h17,hi,hq,hr,hr',hsx,hHH,hjp,i0,q1,gp1,f2,f1,i1,q2,gp2,f3,kk,f4,gp3,i2,q3,f5,f6,hf];exact⟨hh4,s3,hS8,hs8,hKd,hTL⟩
    ·rw[if_neg ho]at f6;simp[hlen,g0,g3,h15,h16,h17,hi,hq,hr,hr',hsx,hHH,hjp,i0,q1,gp1,f2,f1,i1,q2,gp2,f3,kk,f4,gp3,i2,q3,f5,f6,hf,ho];exact⟨hh4,s3,hS8,hs8,hKd,hTL⟩
  ·have hil:i=l.length:=Yc hle (Yb hi);subst hil;rw[Yd,List.foldl_nil]at hTL;subst hTL;simp[hlen,h16,h17];exact⟨g0,g3,hh,hS,hs,hK⟩
 ·rintro o fr' h' rfl ⟨rfl,hlen,g0,g3,hh,hS,hs,hK⟩;simp;exact hX _ _ hS hs hK hlen g0 g3 hh
theorem bd_columns (D d n:Nat)(t:Bool)(id:Nat)(s:Bs)(c:Cp)(h:Hp)(hS:BS id s h)(hs:OkS s)(hb:BbC D d c)(hn:3*d+50≤n):
 ∃h',callN cx n t 82 [.pt id 0,.ag (encCp c)] h=some (.tp [],h')∧BS id (s.columns c) h'∧Keep id h h':=by
 obtain⟨M,rfl⟩:∃m,n=m+1:=⟨n-1,by omega⟩;rw[call_inl (n:=M) ⟨Tryz.f82.ntmps,(Tryz.f82.body).getD .skip,[]⟩ rfl (by kernel_rfl) (by kernel_rfl) (by kernel_rfl) (by kernel_rfl) (by simp[Tryz.f82])];show PB id (s.columns c) h (exec2 cx (callN cx M) kCO _);rw[show kCO= .seq (cL (cT 0 kCO)) (.seq (cL (cT 1 kCO)) (.seq (cL (cT 2 kCO)) (.seq (cL (cT 3 kCO)) (cT 4 kCO)))) by kernel_rfl];have hlt:=hS.lt;obtain⟨yo,yn,i0,⟨go,go'⟩,gn,gn'⟩:=hS;have hh0:(h++[Blk.row (encCp c)])[h.length]?=some (.row (encCp c)):=by simp
 have i1:=get_app [.row (encCp c)] i0;have hS1:BS id {s with now:=[]} ((h++[Blk.row (encCp c)]).set id (.row [yo,.sc (.slice none 0 0),.sc (.int .i64 s.e)])):=
  ⟨yo,.sc (.slice none 0 0),get_set_self i1,⟨(go.grow _).keep (Keep.set _ _ _) go',go'⟩,.inl ⟨rfl,rfl⟩,by simp⟩
 have hrest:∀fr,fr.length=91→gt fr 0= .pt id 0→gt fr 3= .pt h.length 0→PB id (s.columns c) h (exec2 cx (callN cx M) (.seq (cL (cT 2 kCO)) (.seq (cL (cT 3 kCO)) (cT 4 kCO))) (fr,(h++[Blk.row (encCp c)]).set id (.row [yo,.sc (.slice none 0 0),.sc (.int .i64 s.e)]))):=by
  intro fr hlen g0 g3;refine co_1 D d M id h.length c.items (ipR c.items) (encCp c) (row15 c).1 _ h _ (ipR_length _) (ipR_get _) hb.n3 hb.items (by omega) {s with now:=[]} ?_ fr _ hS1 ⟨hs.1,by simp⟩ ((Keep.app _ _ _).trans (Keep.set _ _ _)) hlen g0 g3 (get_set_ne hh0 (by omega)) (by omega);intro fr h' hS' hs' hK hlen g0 g3 hh;refine co_2 D d M id h.length c.order (opR c.order) (encCp c) (row15 c).2.1 _ h _ (opR_length _) (opR_get _) hb.n4 hb.order (by omega) _ ?_ fr h' hS' hs' hK hlen g0 g3 hh (by omega);intro fr h' hS'' hK hlen g0 g3 hh;exact co_3 D d M id h.length c.wher (encXs c.wher) (encCp c) rfl _ h (encXs_length _) (encXs_get _) hb.n2 hb.wher (by omega) _ (by simp[Bs.columns]) fr h' hS'' (chks_ok _ hs').1 hK hlen g0 g3 hh (by omega)
 generalize Code.seq (cL (cT 2 kCO)) (.seq (cL (cT 3 kCO)) (cT 4 kCO))=Z at hrest⊢;generalize s.columns c=T at hrest⊢;have hcl:(encCp c).length=21:=by simp[encCp,encX_length]
 clear hh0;generalize encCp c=row at *;generalize s.e=u at *;simp[kCO,cT,cR,cL,Tryz.f82,hcl,i1,splice];exact hrest _ (by simp) (by simp) (by simp)
end
end Go.Proofs.YtmocfjnklfpnbaaGreatDoor
