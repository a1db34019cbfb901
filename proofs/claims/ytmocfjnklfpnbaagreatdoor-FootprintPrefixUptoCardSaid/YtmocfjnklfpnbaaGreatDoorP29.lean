/- The binder: an error noted, a variable introduced: the program's binder.fail and binder.introduce. -/
import Derived.Test.YtmocfjnklfpnbaaGreatDoorP28
set_option linter.all false
set_option maxRecDepth 100000
namespace Go.Proofs.YtmocfjnklfpnbaaGreatDoor
open Go Go.Ae
section
attribute [local simp] aop aopW coldF extF putA ofConst flat scalarOp fastOp binFast intOp strOp guardX Ae.part rowOf szOk natOf lenA cls fillA newsOf isNilC cellX
set_option maxHeartbeats 32000000
def Keep (id:Nat)(h h':Hp):Prop:=∀(j:Nat) (b:Blk),h[j]?=some b→j≠id→h'[j]?=some b
theorem Keep.refl (id:Nat)(h:Hp):Keep id h h:=fun _ _ hj _=>hj
theorem Keep.trans {id:Nat}{a b c:Hp}(h1:Keep id a b)(h2:Keep id b c):Keep id a c:=fun j x hj hn=>h2 j x (h1 j x hj hn) hn
theorem Keep.app (id:Nat)(h k:Hp):Keep id h (h++k):=fun _ _ hj _=>get_app k hj
theorem Keep.set (id:Nat)(h:Hp)(b:Blk):Keep id h (h.set id b):=fun _ _ hj hn=>get_set_ne hj fun e=>hn e.symm
theorem Bld.keep {h h':Hp}{sz id:Nat}{rows:List (List AV)}{y:AV}(hb:Bld h sz rows y)(hk:Keep id h h')(hy:∀k m,y= .sl k sz 0 m false→k≠id):Bld h' sz rows y:=by
 rcases hb with hb|⟨hne,j,e,hj⟩
 ·exact .inl hb
 ·exact .inr ⟨hne,j,e,hk j _ hj (hy j _ e)⟩
structure Bs where
 old:Sco
 now:Sco
 e:Int
def Bs.fail (s:Bs)(e:Int):Bs:={s with e:=failS s.e e}
def Bs.intro (s:Bs)(nm:ByteArray)(k:Int):Bs:=if 24≤s.now.length then s.fail 4 else{s with now:=s.now++[(nm,k)]}
def BS (id:Nat)(s:Bs)(h:Hp):Prop:=∃yo yn,h[id]?=some (.row [yo,yn,.sc (.int .i64 s.e)])∧(Bld h 2 (coR s.old) yo∧∀k m,yo= .sl k 2 0 m false→k≠id)∧(Bld h 2 (coR s.now) yn∧∀k m,yn= .sl k 2 0 m false→k≠id)
theorem BS.app {id:Nat}{s:Bs}{h:Hp}(k:Hp)(hS:BS id s h):BS id s (h++k):=by
 obtain⟨yo,yn,h0,⟨ho,ho'⟩,hn,hn'⟩:=hS;exact⟨yo,yn,get_app k h0,⟨ho.grow k,ho'⟩,hn.grow k,hn'⟩
theorem BS.lt {id:Nat}{s:Bs}{h:Hp}(hS:BS id s h):id<h.length:=by
 obtain⟨yo,yn,h0,_⟩:=hS;exact(Za.1 h0).1
theorem bd_fail (n:Nat)(t:Bool)(id:Nat)(s:Bs)(e:Int)(h:Hp)(hS:BS id s h):∃h',callN cx (n+1) t 78 [.pt id 0,.sc (.int .i64 e)] h=some (.tp [],h')∧BS id (s.fail e) h'∧Keep id h h':=by
 obtain⟨yo,yn,h0,⟨ho,ho'⟩,hn,hn'⟩:=hS;refine⟨h.set id (.row [yo,yn,.sc (.int .i64 (failS s.e e))]),?_,⟨yo,yn,get_set_self h0,⟨ho.keep (Keep.set _ _ _) ho',ho'⟩,hn.keep (Keep.set _ _ _) hn',hn'⟩,Keep.set _ _ _⟩;rw[call_inl (n:=n) ⟨Tryz.f78.ntmps,(Tryz.f78.body).getD .skip,[]⟩ rfl (by kernel_rfl) (by kernel_rfl) (by kernel_rfl) (by kernel_rfl) (by simp[Tryz.f78])];unfold failS;generalize s.e=e0 at h0⊢;by_cases c:e0=0
 ·subst c;simp[Tryz.f78,h0,splice,resR]
 ·rw[if_neg c,set_same h0];simp[Tryz.f78,h0,c,resR]
theorem m_ClipN (n:Nat)(b:Bool)(h:Hp):callN cx (n+1) b 146 [.sc (.slice none 0 0)] h=some (.sc (.slice none 0 0),h):=by
 kernel_rfl
theorem m_ClipS (n:Nat)(b:Bool)(id m:Nat)(h:Hp)(hm:0<m):callN cx (n+1) b 146 [.sl id 2 0 m false] h=some (.sl id 2 0 m true,h):=by
 rw[call_inl (n:=n) ⟨Tryz.f146.ntmps,(Tryz.f146.body).getD .skip,[.tmp 2]⟩ rfl (by kernel_rfl) (by kernel_rfl) (by kernel_rfl) (by kernel_rfl) (by simp[Tryz.f146])];simp[Tryz.f146,sliceA,boundA,show¬0=m by omega]
theorem app_clip {t:TypeId}{i:Ti}{sz bytes:Nat}{ag:Bool}{ez:List Value}(hT:cx.T t=some i)(hk:i.kd= .slice sz ag bytes ez)(h:Hp)(cs old:List AV)(id n:Nat)(hid:h[id]?=some (.row old))(hc:cs.length=sz)(ho:old.length=n*sz)(hsz:0<sz)(hn1:n≤1000000000000000)(hb:(n+1)*bytes≤140737488355328):
 appendA cx (h++[.row cs]) t (.sl id sz 0 n true) (.sl h.length sz 0 1 false)=some (.sl (h.length+1) sz 0 (n+1) false,(h++[Blk.row cs])++[.row (old++cs)]):=by
 obtain⟨size,agg,zero,kd⟩:=i;simp only at hk;subst hk;have hidl:id<h.length:=(Za.1 hid).1;have hr:rowOf (h++[Blk.row cs]) h.length=some cs:=by simp[rowOf]
 have hn:newsOf (h++[Blk.row cs]) (.sl h.length sz 0 1 false)=some (1,cs):=by
  simp only[newsOf,hr];rw[if_pos (by omega),Yf,Nat.one_mul,List.take_of_length_le (by omega)]
 have hid':rowOf (h++[Blk.row cs]) id=some old:=by unfold rowOf;rw[Zd hidl,hid]
 unfold appendA;rw[hT];simp only[szOk,beq_self_eq_true,Bool.and_self,if_true,hn,hid'];rw[if_neg (by omega),if_pos ⟨by omega,by unfold maxLen;omega,hb⟩,Yf,←ho,List.take_length];simp
theorem coR_snoc (l:Sco)(nm:ByteArray)(k:Int):coR (l++[(nm,k)])=coR l++[[.sc (.string nm),.sc (.int .i64 k)]]:=by simp[coR,coV]
theorem bd_intro (n:Nat)(t:Bool)(id:Nat)(s:Bs)(nm:ByteArray)(k:Int)(h:Hp)(hS:BS id s h)(hl:s.now.length≤1000000):∃h',callN cx (n+2) t 81 [.pt id 0,.sc (.string nm),.sc (.int .i64 k)] h=some (.tp [],h')∧BS id (s.intro nm k) h'∧Keep id h h':=by
 rw[call_inl (n:=n+1) ⟨Tryz.f81.ntmps,(Tryz.f81.body).getD .skip,[]⟩ rfl (by kernel_rfl) (by kernel_rfl) (by kernel_rfl) (by kernel_rfl) (by simp[Tryz.f81])];have hlt:=hS.lt;unfold Bs.intro;by_cases c:24≤s.now.length
 ·rw[if_pos c];obtain⟨h',f1,hS',hK⟩:=bd_fail n true id s 4 h hS;refine⟨h',?_,hS',hK⟩;obtain⟨yo,yn,h0,⟨ho,ho'⟩,hn,hn'⟩:=hS;generalize n+1=M at f1⊢;rcases hn with⟨hn,rfl⟩|⟨hne,j,rfl,hj⟩
  ·have:=congrArg List.length hn;rw[coR_length]at this;simp at this;rw[this]at c;simp at c
  ·have hq:=coR_length s.now;have c':(24:Int)≤((coR s.now).length:Int):=by omega
   generalize(coR s.now).length=q at c' h0;simp[Tryz.f81,h0,c',f1,resR]
 ·rw[if_neg c];obtain⟨yo,yn,h0,⟨ho,ho'⟩,hn,hn'⟩:=hS;have hq:=coR_length s.now;rcases hn with⟨hn,rfl⟩|⟨hne,j,rfl,hj⟩
  ·have hz:s.now=[]:=by
    have:=congrArg List.length hn;rw[coR_length]at this;exact List.length_eq_zero_iff.1 (by simpa using this)
   have f2:=fun b h=>m_ClipN n b h
   have f3:=app_nil (t:=118) T_qSc rfl h [.sc (.string nm),.sc (.int .i64 k)] rfl (by omega);have g0:=get_app [.row [.sc (.string nm),.sc (.int .i64 k)],.row [.sc (.string nm),.sc (.int .i64 k)]] h0;refine⟨(h++[Blk.row [.sc (.string nm),.sc (.int .i64 k)],Blk.row [.sc (.string nm),.sc (.int .i64 k)]]).set id (.row [yo,.sl (h.length+1) 2 0 1 false,.sc (.int .i64 s.e)]),?_,⟨yo,.sl (h.length+1) 2 0 1 false,get_set_self g0,⟨(ho.grow _).keep (Keep.set _ _ _) ho',ho'⟩,?_,?_⟩,(Keep.app _ _ _).trans (Keep.set _ _ _)⟩
   ·generalize n+1=M at f2⊢;generalize s.e=e0 at *;simp[Tryz.f81,h0,f2,f3,g0,resR,splice]
   ·refine .inr ⟨by simp[coR],h.length+1,?_,?_⟩
    ·rw[hz];rfl
    ·rw[hz,List.getElem?_set,if_neg (by omega),Zf (by omega)];simp[coR,coV]
   ·rintro k' m e;injection e with e
    omega
  ·have hpos:0< (coR s.now).length:=List.length_pos_iff.2 hne;have hjl:=(Za.1 hj).1;have f2:=fun b h=>m_ClipS n b j (coR s.now).length h hpos
   have f3:=app_clip (t:=118) T_qSc rfl h [.sc (.string nm),.sc (.int .i64 k)] (coR s.now).flatten j (coR s.now).length hj rfl (flatten_length _ (coR_all s.now).1) (by omega) (by omega) (by omega);have g0:=get_app [.row [.sc (.string nm),.sc (.int .i64 k)],.row ((coR s.now).flatten++[.sc (.string nm),.sc (.int .i64 k)])] h0;rw[Zp]at f3;refine⟨(h++[Blk.row [.sc (.string nm),.sc (.int .i64 k)],Blk.row ((coR s.now).flatten++[.sc (.string nm),.sc (.int .i64 k)])]).set id (.row [yo,.sl (h.length+1) 2 0 ((coR s.now).length+1) false,.sc (.int .i64 s.e)]),?_,⟨yo,.sl (h.length+1) 2 0 ((coR s.now).length+1) false,get_set_self g0,⟨(ho.grow _).keep (Keep.set _ _ _) ho',ho'⟩,?_,?_⟩,(Keep.app _ _ _).trans (Keep.set _ _ _)⟩
   ·have c':¬(24:Int)≤((coR s.now).length:Int):=by omega
    generalize n+1=M at f2⊢;generalize s.e=e0 at *;generalize(coR s.now).flatten=F at *;generalize(coR s.now).length=q at *;simp[Tryz.f81,h0,c',f2,f3,g0,resR,splice]
   ·refine .inr ⟨by simp[coR],h.length+1,?_,?_⟩
    ·rw[coR_snoc];simp
    ·rw[coR_snoc,List.getElem?_set,if_neg (by omega),Zf (by omega)];simp
   ·rintro k' m e;injection e with e
    omega
theorem kind_call (n:Nat)(b:Bool)(l:Sco)(y:AV)(h:Hp)(nm:ByteArray)(hB:Bld h 2 (coR l) y)(hl:l.length≤1000000):callN cx (n+1) b 80 [y,.sc (.string nm)] h=some (.sc (.int .i64 (kndS l nm)),h):=
 call_snap (n:=n) (ys:=[bldV 2 (coR l),.sc (.string nm)]) rfl (by kernel_rfl) (by rw[Zo,bld_snap (n:=7) (by omega) (coR_all l).1 (coR_all l).2 hB];rfl) (by rw[Zn,calm_bldV];rfl) rfl (bd_kind n b l nm h (by omega))
def okE (D d:Nat)(e:Ep):Prop:=okX D d e∧cntX e≤1000000
theorem check_call (D d n:Nat)(b:Bool)(l:Sco)(y:AV)(h:Hp)(e:Ep)(w:Bool)(hB:Bld h 2 (coR l) y)(hl:l.length≤1000000)(he:okE D d e)(hn:3*d+10≤n):callN cx n b 79 [y,.ag (encX e),.sc (.bool w)] h=some (.sc (.int .i64 (chkB l e w)),h):=by
 obtain⟨m,rfl⟩:∃m,n=m+1:=⟨n-1,by omega⟩;exact call_snap (n:=m) (ys:=[bldV 2 (coR l),.ag (encX e),.sc (.bool w)]) rfl (by kernel_rfl) (by rw[Zo,bld_snap (n:=7) (by omega) (coR_all l).1 (coR_all l).2 hB,Zo,snap_of_calm (n:=6) (calm_encX e)];rfl) (by rw[Zn,calm_bldV,Zn,calm_encX];rfl) rfl (bd_check D d (m+1) b l e w h (by omega) he.1 he.2 hn)
def Bs.props (s:Bs)(l:List Pp):Bs:=l.foldl (fun s q=>s.fail (chkB s.old q.e false)) s
theorem drop_of {α:Type}{l:List α}{i:Nat}{x:α}(h:l[i]?=some x):l.drop i=x::l.drop (i+1):=by
 obtain⟨k,e⟩:=Za.1 h;rw[Zm k,e]
theorem bd_props (D d n:Nat)(t:Bool)(id:Nat)(s:Bs)(l:List Pp)(h:Hp)(hS:BS id s h)(hb:∀q∈l,okE D d q.e)(hl:l.length≤1000000000)(hso:s.old.length≤1000000)(hn:3*d+20≤n):
 ∃h',callN cx n t 222 [.pt id 0,.ls 10 (ppR l) false] h=some (.tp [],h')∧BS id (s.props l) h'∧Keep id h h':=by
 obtain⟨M,rfl⟩:∃m,n=m+1:=⟨n-1,by omega⟩;obtain⟨k1,e1⟩:∃k,M=k+1:=⟨M-1,by omega⟩;rw[call_inl (n:=M) ⟨Tryz.f222.ntmps,(Tryz.f222.body).getD .skip,[]⟩ rfl (by kernel_rfl) (by kernel_rfl) (by kernel_rfl) (by kernel_rfl) (by simp[Tryz.f222])];have hq:=ppR_length l;have hg:=ppR_get l;have fc:=fun(y:AV) (h:Hp) (q:Pp) (hq:q∈l) (hB:Bld h 2 (coR s.old) y) b=>check_call D d M b s.old y h q.e false hB hso (hb q hq) (by omega)
 have ff:=fun b (s:Bs) e h hS=>bd_fail k1 b id s e h hS
 rw[←e1]at ff;clear e1 hn hb;generalize ppR l=rows at hq hg⊢;generalize hT:s.props l=T;simp[Tryz.f222,hq];generalize hXX:exec2 cx (callN cx M) (.loop _) _=XX;refine loopE hXX
  (fun i st=>st.1.length=22∧gt st.1 0= .pt id 0∧gt st.1 6= .ls 10 rows false∧gt st.1 7= .sc (.int .i64 (l.length:Nat))∧gt st.1 8= .sc (.int .i64 (i:Nat))∧∃s',BS id s' st.2∧Keep id h st.2∧s'.old=s.old∧s'.props (l.drop i)=T)
  (fun o st=>o= .exit 0∧BS id T st.2∧Keep id h st.2)
  l.length (by simp;omega) ⟨rfl,rfl,rfl,rfl,rfl,s,hS,Keep.refl _ _,rfl,hT⟩ ?_ ?_
 ·clear hXX XX hT hS;rintro i fr hp hle ⟨hlen,h0,h6,h7,h8,s',hS,hK,hso',hT⟩;simp only at hlen h0 h6 h7 h8 hS hK;by_cases hi:i<l.length
  ·obtain⟨x,hx,hr,hr'⟩:=row_get hg hi;have hmem:=Zi hx;have hf:=fit_succ (show i≤1000000000000000 by omega);rw[drop_of hx]at hT;change(s'.fail (chkB s'.old x.e false)).props (l.drop (i+1))=T at hT;have hS2:=hS.app [.row (encPp x)];obtain⟨h',f1,hS',hK'⟩:=ff false s' (chkB s'.old x.e false) _ hS2;obtain⟨yo,yn,g0,⟨go,go'⟩,gn⟩:=hS;rw[hso']at go hT f1 hS';have f2:=fc yo (hp++[.row (encPp x)]) x hmem (go.grow _) false;have g1:=get_app [.row (encPp x)] g0;have q3:=fun(ops:Array Oper) (dd:Tmp) (rest:List Oper) (fr:List AV) (h:Hp)=>opN_np (C:=cx) (cal:=callN cx M false) (ops:=ops) (fun v=>go.np v) dd rest fr h
   have hlt:id<hp.length:=(Za.1 g0).1;have hold:(s'.fail (chkB s.old x.e false)).old=s.old:=hso';generalize s'.fail (chkB s.old x.e false)=s2 at hT hS' hold;generalize chkB s.old x.e false=c at f1 f2;generalize s'.e=e0 at g0 g1;unfold encPp at hr hr' f1 f2 g1 hK';have hev:=encX_length x.e;generalize encX x.e=ev at hr hr' hev f1 f2 g1 hK';have hev9:ev.take 9=ev:=List.take_of_length_le (by omega);have hsx:=spX10 (ev:= .sc (.string x.key)::ev) (by simp[hev]);simp[hlen,h0,h6,h7,h8,hi,hq,hr,hr',hev,hev9,hsx,g1,q3,f1,f2,hf];exact⟨s2,hS',(hK.trans (Keep.app _ _ _)).trans hK',hold,hT⟩
  ·have hil:i=l.length:=Yc hle (Yb hi);subst hil;rw[Yd]at hT;subst hT;simp[hlen,h7,h8];exact⟨hS,hK⟩
 ·rintro o fr' h' rfl ⟨rfl,hS',hK'⟩;simp[resR];exact⟨hS',hK'⟩
theorem Bs.intro_old (s:Bs)(nm:ByteArray)(k:Int):(s.intro nm k).old=s.old:=by unfold Bs.intro;split<;>rfl
theorem get_ix {h:Hp}{j:Nat}{b:Blk}(hj:h[j]?=some b):∀k,h[j]'k=b:=fun kx=>by obtain⟨_,e⟩:=Za.1 hj;exact e
def Bs.nodeV (s:Bs)(x:Np)(m:Bool):Bs:=if eqS x.var ⟨#[]⟩=true then s else if kndS s.now x.var=0 then s.intro x.var 1 else if kndS s.now x.var=1 then(if(!m && (decide (0<x.labels.length)||decide (0<x.props.length)))=true then s.fail 7 else s)else s.fail 8
def Bs.node (s:Bs)(x:Np)(m:Bool):Bs:=(s.nodeV x m).props x.props
def Bs.edgeV (s:Bs)(x:Gp)(m:Bool):Bs:=if eqS x.var ⟨#[]⟩=true then s else if kndS s.now x.var=0 then(if x.mode=0 then s.intro x.var 2 else s.intro x.var 4)else if(!m|| !decide (x.mode=0))=true then s.fail 7 else if kndS s.now x.var=2 then s else s.fail 8
def Bs.edge (s:Bs)(x:Gp)(m:Bool):Bs:=(s.edgeV x m).props x.props
theorem bd_node (D d n:Nat)(t:Bool)(id:Nat)(s:Bs)(x:Np)(m:Bool)(h:Hp)(hS:BS id s h)(hb:∀q∈x.props,okE D d q.e)(hl:x.props.length≤1000000000)(hso:s.old.length≤1000000)(hsn:s.now.length≤1000000)(hn:3*d+30≤n):
 ∃h',callN cx n t 142 [.pt id 0,.ag (encNp x),.sc (.bool m)] h=some (.tp [],h')∧BS id (s.node x m) h'∧Keep id h h':=by
 obtain⟨M,rfl⟩:∃m,n=m+1:=⟨n-1,by omega⟩;obtain⟨k1,e1⟩:∃k,M=k+1:=⟨M-1,by omega⟩;obtain⟨k2,e2⟩:∃k,M=k+2:=⟨M-2,by omega⟩;rw[call_inl (n:=M) ⟨Tryz.f142.ntmps,(Tryz.f142.body).getD .skip,[]⟩ rfl (by kernel_rfl) (by kernel_rfl) (by kernel_rfl) (by kernel_rfl) (by simp[Tryz.f142])];have fp:=fun b (s1:Bs) h hS ho=>bd_props D d M b id s1 x.props h hS hb hl ho (by omega)
 have ff:=fun b (s:Bs) e h hS=>bd_fail k1 b id s e h hS
 have fi:=fun b (s:Bs) nm k h hS hl=>bd_intro k2 b id s nm k h hS hl
 have fk:=fun b (y:AV) (h:Hp) (hB:Bld h 2 (coR s.now) y)=>kind_call k1 b s.now y h x.var hB hsn
 rw[←e1]at ff fk;rw[←e2]at fi;clear e1 e2 hn hb;have tail:∀(fr:List AV) (h1:Hp) (s1:Bs),BS id s1 h1→Keep id (h++[.row (encNp x)]) h1→s1.old=s.old→fr.length=51→gt fr 0= .pt id 0→gt fr 4= .pt h.length 0→∃h',finX [] (exec2 cx (callN cx M) (cT 3 ((Tryz.f142.body).getD .skip)) (fr,h1))=some (.tp [],h')∧BS id (s1.props x.props) h'∧Keep id h h':=by
  intro fr h1 s1 hS1 hK ho hlen g0 g4;obtain⟨h',f1,hS',hK'⟩:=fp true s1 h1 hS1 (by rw[ho];exact hso);have gb:h1[h.length]?=some (.row (encNp x)):=hK _ _ (by simp) (by have:=hS.lt;omega);refine⟨h',?_,hS',((Keep.app _ _ _).trans hK).trans hK'⟩;unfold encNp at gb;generalize ppR x.props=rp at f1 gb;simp[cT,cR,Tryz.f142,hlen,g0,g4,gb,f1,resR]
 show∃h',finX [] (exec2 cx (callN cx M) ((Tryz.f142.body).getD .skip) _)=_∧_;rw[show(Tryz.f142.body).getD .skip= .seq (cL (cT 0 ((Tryz.f142.body).getD .skip))) (.seq (cL (cT 1 ((Tryz.f142.body).getD .skip))) (.seq (cL (cT 2 ((Tryz.f142.body).getD .skip))) (cT 3 ((Tryz.f142.body).getD .skip)))) by kernel_rfl];generalize cT 3 ((Tryz.f142.body).getD .skip)=Z at tail⊢;have hS2:=hS.app [.row (encNp x)];obtain⟨yo,yn,g0,⟨go,go'⟩,gn,gn'⟩:=hS2;have fk':=fun b=>fk b yn _ gn
 have g0':=get_ix g0;have q3:=fun(ops:Array Oper) (dd:Tmp) (rest:List Oper) (fr:List AV) (h:Hp)=>opN_np (C:=cx) (cal:=callN cx M false) (ops:=ops) (fun v=>gn.np v) dd rest fr h
 have hS2:BS id s (h++[.row (encNp x)]):=⟨yo,yn,g0,⟨go,go'⟩,gn,gn'⟩;have hlt:=hS.lt;have hFi:=fun b k=>fi b s x.var k _ hS2 hsn
 have hFf:=fun b e=>ff b s e _ hS2
 clear fp ff fi fk go gn hS;unfold Bs.node Bs.nodeV;generalize kndS s.now x.var=k at fk'⊢;have hql:=tsR_length x.labels;have hqp:=ppR_length x.props;unfold encNp at *;generalize tsR x.labels=rl at *;generalize ppR x.props=rp at *;generalize hrow:([.sc (.string x.var),.ls 1 rl false,.ls 10 rp false]:List AV)=row at *;have hrow':=hrow.symm;generalize hH:h++[Blk.row row]=H at *;have gb:H[h.length]?=some (.row row):=by rw[←hH];simp
 have hHl:H.length=h.length+1:=by rw[←hH];simp
 have gb':=get_ix gb;clear gn' go';by_cases he:eqS x.var ⟨#[]⟩=true
 ·rw[if_pos he];subst hrow';simp[cL,cT,cR,Tryz.f142,hH,g0,g0',gb,gb',q3,fk',he];exact tail _ _ s hS2 (Keep.refl _ _) rfl (by simp) (by simp) (by simp)
 rw[if_neg he];simp only[Bool.not_eq_true]at he;by_cases k0:k=0
 ·rw[if_pos k0];subst k0;obtain⟨h1,f1,hS1,hK1⟩:=hFi true 1;subst hrow';simp[cL,cT,cR,Tryz.f142,hH,g0,g0',gb,gb',q3,fk',he,f1];exact tail _ _ _ hS1 hK1 (Bs.intro_old _ _ _) (by simp) (by simp) (by simp)
 rw[if_neg k0];by_cases kk:k=1
 ·rw[if_pos kk];subst kk;cases m
  ·by_cases c1:0<x.labels.length
   ·rw[if_pos (by simp[c1])];obtain⟨h1,f1,hS1,hK1⟩:=hFf true 7;subst hrow';simp[cL,cT,cR,Tryz.f142,hH,g0,g0',gb,gb',q3,fk',he,hql,hqp,c1,f1];exact tail _ _ _ hS1 hK1 (rfl) (by simp) (by simp) (by simp)
   ·by_cases c2:0<x.props.length
    ·rw[if_pos (by simp[c2])];obtain⟨h1,f1,hS1,hK1⟩:=hFf true 7;subst hrow';simp[cL,cT,cR,Tryz.f142,hH,g0,g0',gb,gb',q3,fk',he,hql,hqp,c1,c2,f1];exact tail _ _ _ hS1 hK1 (rfl) (by simp) (by simp) (by simp)
    ·rw[if_neg (by simp[c1,c2])];subst hrow';simp[cL,cT,cR,Tryz.f142,hH,g0,g0',gb,gb',q3,fk',he,hql,hqp,c1,c2];exact tail _ _ s hS2 (Keep.refl _ _) rfl (by simp) (by simp) (by simp)
  ·rw[if_neg (by simp)];subst hrow';simp[cL,cT,cR,Tryz.f142,hH,g0,g0',gb,gb',q3,fk',he,hql];exact tail _ _ s hS2 (Keep.refl _ _) rfl (by simp) (by simp) (by simp)
 ·rw[if_neg kk];obtain⟨h1,f1,hS1,hK1⟩:=hFf true 8;subst hrow';simp[cL,cT,cR,Tryz.f142,hH,g0,g0',gb,gb',q3,fk',he,k0,kk,f1];exact tail _ _ _ hS1 hK1 (rfl) (by simp) (by simp) (by simp)
theorem bd_edge (D d n:Nat)(t:Bool)(id:Nat)(s:Bs)(x:Gp)(m:Bool)(h:Hp)(hS:BS id s h)(hb:∀q∈x.props,okE D d q.e)(hl:x.props.length≤1000000000)(hso:s.old.length≤1000000)(hsn:s.now.length≤1000000)(hn:3*d+30≤n):
 ∃h',callN cx n t 143 [.pt id 0,.ag (encGp x),.sc (.bool m)] h=some (.tp [],h')∧BS id (s.edge x m) h'∧Keep id h h':=by
 obtain⟨M,rfl⟩:∃m,n=m+1:=⟨n-1,by omega⟩;obtain⟨k1,e1⟩:∃k,M=k+1:=⟨M-1,by omega⟩;obtain⟨k2,e2⟩:∃k,M=k+2:=⟨M-2,by omega⟩;rw[call_inl (n:=M) ⟨Tryz.f143.ntmps,(Tryz.f143.body).getD .skip,[]⟩ rfl (by kernel_rfl) (by kernel_rfl) (by kernel_rfl) (by kernel_rfl) (by simp[Tryz.f143])];have fp:=fun b (s1:Bs) h hS ho=>bd_props D d M b id s1 x.props h hS hb hl ho (by omega)
 have ff:=fun b (s:Bs) e h hS=>bd_fail k1 b id s e h hS
 have fi:=fun b (s:Bs) nm k h hS hl=>bd_intro k2 b id s nm k h hS hl
 have fk:=fun b (y:AV) (h:Hp) (hB:Bld h 2 (coR s.now) y)=>kind_call k1 b s.now y h x.var hB hsn
 rw[←e1]at ff fk;rw[←e2]at fi;clear e1 e2 hn hb;have tail:∀(fr:List AV) (h1:Hp) (s1:Bs),BS id s1 h1→Keep id (h++[.row (encGp x)]) h1→s1.old=s.old→fr.length=56→gt fr 0= .pt id 0→gt fr 4= .pt h.length 0→∃h',finX [] (exec2 cx (callN cx M) (cT 3 ((Tryz.f143.body).getD .skip)) (fr,h1))=some (.tp [],h')∧BS id (s1.props x.props) h'∧Keep id h h':=by
  intro fr h1 s1 hS1 hK ho hlen g0 g4;obtain⟨h',f1,hS',hK'⟩:=fp true s1 h1 hS1 (by rw[ho];exact hso);have gb:h1[h.length]?=some (.row (encGp x)):=hK _ _ (by simp) (by have:=hS.lt;omega);refine⟨h',?_,hS',((Keep.app _ _ _).trans hK).trans hK'⟩;unfold encGp at gb;generalize ppR x.props=rp at f1 gb;simp[cT,cR,Tryz.f143,hlen,g0,g4,gb,f1,resR]
 show∃h',finX [] (exec2 cx (callN cx M) ((Tryz.f143.body).getD .skip) _)=_∧_;rw[show(Tryz.f143.body).getD .skip= .seq (cL (cT 0 ((Tryz.f143.body).getD .skip))) (.seq (cL (cT 1 ((Tryz.f143.body).getD .skip))) (.seq (cL (cT 2 ((Tryz.f143.body).getD .skip))) (cT 3 ((Tryz.f143.body).getD .skip)))) by kernel_rfl];generalize cT 3 ((Tryz.f143.body).getD .skip)=Z at tail⊢;have hS2:=hS.app [.row (encGp x)];obtain⟨yo,yn,g0,⟨go,go'⟩,gn,gn'⟩:=hS2;have fk':=fun b=>fk b yn _ gn
 have g0':=get_ix g0;have q3:=fun(ops:Array Oper) (dd:Tmp) (rest:List Oper) (fr:List AV) (h:Hp)=>opN_np (C:=cx) (cal:=callN cx M false) (ops:=ops) (fun v=>gn.np v) dd rest fr h
 have hS2:BS id s (h++[.row (encGp x)]):=⟨yo,yn,g0,⟨go,go'⟩,gn,gn'⟩;have hlt:=hS.lt;have hFi:=fun b k=>fi b s x.var k _ hS2 hsn
 have hFf:=fun b e=>ff b s e _ hS2
 clear fp ff fi fk go gn hS;unfold Bs.edge Bs.edgeV;generalize kndS s.now x.var=k at fk'⊢;unfold encGp at *;generalize tsR x.types=rl at *;generalize ppR x.props=rp at *;generalize x.mode=md at *;generalize hrow:([.sc (.string x.var),.ls 1 rl false,.sc (.int .i64 x.dir),.sc (.int .i64 md),.sc (.int .i64 x.mn),.sc (.int .i64 x.mx),.ls 10 rp false]:List AV)=row at *;have hrow':=hrow.symm;generalize hH:h++[Blk.row row]=H at *;have gb:H[h.length]?=some (.row row):=by rw[←hH];simp
 have hHl:H.length=h.length+1:=by rw[←hH];simp
 have gb':=get_ix gb;clear gn' go';by_cases he:eqS x.var ⟨#[]⟩=true
 ·rw[if_pos he];subst hrow';simp[cL,cT,cR,Tryz.f143,hH,g0,g0',gb,gb',q3,fk',he];exact tail _ _ s hS2 (Keep.refl _ _) rfl (by simp) (by simp) (by simp)
 rw[if_neg he];simp only[Bool.not_eq_true]at he;by_cases k0:k=0
 ·rw[if_pos k0];subst k0;by_cases c0:md=0
  ·rw[if_pos c0];subst c0;obtain⟨h1,f1,hS1,hK1⟩:=hFi true 2;subst hrow';simp[cL,cT,cR,Tryz.f143,hH,g0,g0',gb,gb',q3,fk',he,f1];exact tail _ _ _ hS1 hK1 (Bs.intro_old _ _ _) (by simp) (by simp) (by simp)
  ·rw[if_neg c0];obtain⟨h1,f1,hS1,hK1⟩:=hFi true 4;subst hrow';simp[cL,cT,cR,Tryz.f143,hH,g0,g0',gb,gb',q3,fk',he,c0,f1];exact tail _ _ _ hS1 hK1 (Bs.intro_old _ _ _) (by simp) (by simp) (by simp)
 rw[if_neg k0];cases m
 ·rw[if_pos (by simp)];obtain⟨h1,f1,hS1,hK1⟩:=hFf true 7;subst hrow';simp[cL,cT,cR,Tryz.f143,hH,g0,g0',gb,gb',q3,fk',he,k0,f1];exact tail _ _ _ hS1 hK1 (rfl) (by simp) (by simp) (by simp)
 by_cases c0:md=0
 ·rw[if_neg (by simp[c0])];subst c0;by_cases kk:k=2
  ·rw[if_pos kk];subst kk;subst hrow';simp[cL,cT,cR,Tryz.f143,hH,g0,g0',gb,gb',q3,fk',he];exact tail _ _ s hS2 (Keep.refl _ _) rfl (by simp) (by simp) (by simp)
  ·rw[if_neg kk];obtain⟨h1,f1,hS1,hK1⟩:=hFf true 8;subst hrow';simp[cL,cT,cR,Tryz.f143,hH,g0,g0',gb,gb',q3,fk',he,k0,kk,f1];exact tail _ _ _ hS1 hK1 (rfl) (by simp) (by simp) (by simp)
 ·rw[if_pos (by simp[c0])];obtain⟨h1,f1,hS1,hK1⟩:=hFf true 7;subst hrow';simp[cL,cT,cR,Tryz.f143,hH,g0,g0',gb,gb',q3,fk',he,k0,c0,f1];exact tail _ _ _ hS1 hK1 (rfl) (by simp) (by simp) (by simp)
def OkS (s:Bs):Prop:=s.old.length≤24∧s.now.length≤24
theorem OkS.fail {s:Bs}(h:OkS s)(e:Int):OkS (s.fail e):=h
theorem OkS.intro {s:Bs}(h:OkS s)(nm:ByteArray)(k:Int):OkS (s.intro nm k):=by
 unfold Bs.intro;split
 ·exact h
 ·refine⟨h.1,?_⟩;simp only[Zu,List.length_cons,List.length_nil];omega
theorem Bs.props_old (l:List Pp):∀s:Bs,(s.props l).old=s.old∧(s.props l).now=s.now:=by
 induction l with
 |nil=>exact fun s=>⟨rfl,rfl⟩
 |cons q l ih=>exact fun s=>ih (s.fail (chkB s.old q.e false))
theorem OkS.props {s:Bs}(h:OkS s)(l:List Pp):OkS (s.props l):=by
 obtain⟨h1,h2⟩:=Bs.props_old l s;unfold OkS;rw[h1,h2];exact h
theorem OkS.node {s:Bs}(h:OkS s)(x:Np)(m:Bool):OkS (s.node x m):=by
 refine OkS.props ?_ _;unfold Bs.nodeV;split
 ·exact h
 ·split
  ·exact h.intro _ _
  ·split
   ·split<;>exact h
   ·exact h
theorem OkS.edge {s:Bs}(h:OkS s)(x:Gp)(m:Bool):OkS (s.edge x m):=by
 refine OkS.props ?_ _;unfold Bs.edgeV;split
 ·exact h
 ·split
  ·split<;>exact h.intro _ _
  ·split
   ·exact h
   ·split<;>exact h
theorem Bs.node_old (s:Bs)(x:Np)(m:Bool):(s.node x m).old=s.old:=by
 unfold Bs.node;rw[(Bs.props_old _ _).1];unfold Bs.nodeV;split
 ·rfl
 ·split
  ·exact Bs.intro_old _ _ _
  ·split
   ·split<;>rfl
   ·rfl
theorem Bs.edge_old (s:Bs)(x:Gp)(m:Bool):(s.edge x m).old=s.old:=by
 unfold Bs.edge;rw[(Bs.props_old _ _).1];unfold Bs.edgeV;split
 ·rfl
 ·split
  ·split<;>exact Bs.intro_old _ _ _
  ·split
   ·rfl
   ·split<;>rfl
def Bs.elem (s:Bs)(nm:ByteArray)(ed:Bool):Bs:=if kndS s.now nm=0 then s.fail 6 else if kndS s.now nm=1 then s else if kndS s.now nm=2 then(if ed=true then s else s.fail 8)else s.fail 8
theorem OkS.elem {s:Bs}(h:OkS s)(nm:ByteArray)(ed:Bool):OkS (s.elem nm ed):=by
 unfold Bs.elem;split
 ·exact h
 ·split
  ·exact h
  ·split
   ·split<;>exact h
   ·exact h
theorem bd_elem (n:Nat)(t:Bool)(id:Nat)(s:Bs)(nm:ByteArray)(ed:Bool)(h:Hp)(hS:BS id s h)(hs:OkS s):∃h',callN cx (n+2) t 83 [.pt id 0,.sc (.string nm),.sc (.bool ed)] h=some (.tp [],h')∧BS id (s.elem nm ed) h'∧Keep id h h':=by
 rw[call_inl (n:=n+1) ⟨Tryz.f83.ntmps,(Tryz.f83.body).getD .skip,[]⟩ rfl (by kernel_rfl) (by kernel_rfl) (by kernel_rfl) (by kernel_rfl) (by simp[Tryz.f83])];have ff:=fun b e=>bd_fail n b id s e h hS
 obtain⟨yo,yn,g0,⟨go,go'⟩,gn,gn'⟩:=hS;have fk:=fun b=>kind_call n b s.now yn h nm gn (by have:=hs.2;omega)
 have q3:=fun(ops:Array Oper) (dd:Tmp) (rest:List Oper) (fr:List AV) (h:Hp)=>opP_np (C:=cx) (cal:=callN cx (n+1) true) (ops:=ops) (fun v=>gn.np v) dd rest fr h
 have hS:BS id s h:=⟨yo,yn,g0,⟨go,go'⟩,gn,gn'⟩;clear gn go gn' go';unfold Bs.elem;generalize kndS s.now nm=k at fk⊢;generalize n+1=M at ff fk q3⊢;by_cases k0:k=0
 ·rw[if_pos k0];subst k0;obtain⟨h',f1,hS',hK'⟩:=ff true 6;refine⟨h',?_,hS',hK'⟩;simp[Tryz.f83,g0,q3,fk,f1,resR]
 rw[if_neg k0];by_cases k1:k=1
 ·rw[if_pos k1];subst k1;refine⟨h,?_,hS,Keep.refl _ _⟩;simp[Tryz.f83,g0,q3,fk,resR]
 rw[if_neg k1];obtain⟨h',f1,hS',hK'⟩:=ff true 8;by_cases k2:k=2
 ·rw[if_pos k2];subst k2;cases ed
  ·refine⟨h',?_,hS',hK'⟩;simp[Tryz.f83,g0,q3,fk,f1,resR]
  ·refine⟨h,?_,hS,Keep.refl _ _⟩;simp[Tryz.f83,g0,q3,fk,resR]
 ·rw[if_neg k2];refine⟨h',?_,hS',hK'⟩;simp[Tryz.f83,g0,q3,fk,f1,k0,k1,k2,resR]
def Bs.hops (m:Bool):Bs→List Np→List Gp→Bs
 |s,[],_=>s
 |s,x::ns,[]=>Bs.hops m (s.node x m) ns []
 |s,x::ns,e::es=>Bs.hops m ((s.node x m).edge e m) ns es
theorem Bs.hops_step {m:Bool}{s:Bs}{ns:List Np}{es:List Gp}{i:Nat}{x:Np}(h:ns[i]?=some x):Bs.hops m s (ns.drop i) (es.drop i)=Bs.hops m (match es[i]? with|some e=>(s.node x m).edge e m|none=>s.node x m) (ns.drop (i+1)) (es.drop (i+1)):=by
 rw[drop_of h];cases he:es[i]? with
 |
  none=>
  have hl:es.length≤i:=List.getElem?_eq_none_iff.1 he;have h1:es.drop i=[]:=Zt hl;have h2:es.drop (i+1)=[]:=Zt (by omega);rw[h1,h2];rfl
 |some e=>rw[drop_of he];rfl
def Bs.path (s:Bs)(p:Tp)(kd:Int):Bs:=
 if eqS p.var ⟨#[]⟩=true then s.hops (decide (kd=1)) p.nodes p.edges
 else if kd=5 then(s.hops (decide (kd=1)) p.nodes p.edges).fail 8
 else if kndS (s.hops (decide (kd=1)) p.nodes p.edges).now p.var=0 then(s.hops (decide (kd=1)) p.nodes p.edges).intro p.var 3
 else(s.hops (decide (kd=1)) p.nodes p.edges).fail 7
theorem hops_ok {m:Bool}:∀(ns:List Np) (es:List Gp) (s:Bs),OkS s→OkS (Bs.hops m s ns es)∧(Bs.hops m s ns es).old=s.old
 | [],_,s,h=>⟨h,rfl⟩
 |
  x::ns,[],s,h=>by
  have:=hops_ok (m:=m) ns [] (s.node x m) (h.node x m);exact⟨this.1,this.2.trans (Bs.node_old _ _ _)⟩
 |
  x::ns,e::es,s,h=>by
  have:=hops_ok (m:=m) ns es ((s.node x m).edge e m) ((h.node x m).edge e m);exact⟨this.1,this.2.trans ((Bs.edge_old _ _ _).trans (Bs.node_old _ _ _))⟩
theorem path_ok {s:Bs}(h:OkS s)(p:Tp)(kd:Int):OkS (s.path p kd)∧(s.path p kd).old=s.old:=by
 obtain⟨h1,h2⟩:=hops_ok (m:=decide (kd=1)) p.nodes p.edges s h;unfold Bs.path;split
 ·exact⟨h1,h2⟩
 ·split
  ·exact⟨h1,h2⟩
  ·split
   ·exact⟨h1.intro _ _,(Bs.intro_old _ _ _).trans h2⟩
   ·exact⟨h1,h2⟩
end
end Go.Proofs.YtmocfjnklfpnbaaGreatDoor
