/- A property set; a label put, a label left out. -/
import Derived.Test.YtiefabpageilbaaGreatDoorP26
import Derived.Test.YtiefabpageilbaaGreatDoorP14
import Derived.Test.YtiefabpageilbaaGreatDoorP24
set_option linter.all false
set_option maxRecDepth 100000
namespace Go.Proofs.YtiefabpageilbaaGreatDoor
open Go Go.Ae
section
attribute [local simp] aop aopW coldF extF putA ofConst flat scalarOp fastOp binFast intOp strOp guardX Ae.part rowOf szOk natOf lenA cls fillA splice newsOf isNilC cellX
set_option maxHeartbeats 16000000
@[simp] theorem encR_get0 (c:Prp)(h:0< (encR c).length):(encR c)[0]'h= .sc (.string c.key):=rfl
attribute [local simp] encR_take
def bn :Bool→Nat
 |true=>0
 |false=>1
set_option maxHeartbeats 8000000
inductive Tg where
 |none
 |box
 |nodes
 |edges
 |lab (n:Int)
 |prop (n:Int)
 |eprop (n:Int)
def OwnL (h:Hp)(tag:Nat→Tg)(tg:Tg)(sz:Nat)(rows:List (List AV))(x:AV):Prop:=
 (rows=[]∧(x= .ls sz [] true∨x= .sc (.slice none 0 0)))∨∃id cs,x= .sl id sz 0 rows.length false∧h[id]?=some (.row cs)∧cs.take (rows.length*sz)=rows.flatten∧rows.length*sz≤cs.length∧tag id=tg
def RepN (h:Hp)(tag:Nat→Tg)(n:Nd)(row:List AV):Prop:=∃L P,row=[.sc (.int .i64 n.id),L,P]∧OwnL h tag (.lab n.id) 1 (tsR n.labels) L∧OwnL h tag (.prop n.id) 6 (prR n.props) P
def RepE (h:Hp)(tag:Nat→Tg)(e:Ed)(row:List AV):Prop:=∃P,row=[.sc (.int .i64 e.id),.sc (.int .i64 e.src),.sc (.int .i64 e.dst),.sc (.string e.type),P]∧OwnL h tag (.eprop e.id) 6 (prR e.props) P
def AllR {α:Type}(R:α→List AV→Prop)(l:List α)(rows:List (List AV)):Prop:=rows.length=l.length∧∀(i:Nat) (a:α) (r:List AV),l[i]?=some a→rows[i]?=some r→R a r
structure RepG (h:Hp)(tag:Nat→Tg)(E:Nat)(g:Gr)(N V:AV)(nrows erows:List (List AV)):Prop where
 box:h[E]?=some (.row [N,V,.sc (.int .i64 g.nn),.sc (.int .i64 g.ne)])
 tb:tag E= .box
 ns:OwnL h tag .nodes 3 nrows N
 es:OwnL h tag .edges 5 erows V
 na:AllR (RepN h tag) g.nodes nrows
 ea:AllR (RepE h tag) g.edges erows
def Frm (h:Hp)(tag:Nat→Tg)(h':Hp)(tag':Nat→Tg)(S:Tg→Prop):Prop:=∀id b,h[id]?=some b→¬S (tag id)→h'[id]?=some b∧tag' id=tag id
theorem AllR.imp {α:Type}{R R':α→List AV→Prop}{l:List α}{rows:List (List AV)}(h:AllR R l rows)(k:∀a∈l,∀r,R a r→R' a r):AllR R' l rows:=
 ⟨h.1,fun i a r ha hr=>k a (Zi ha) r (h.2 i a r ha hr)⟩
theorem Frm.refl (h:Hp)(tag:Nat→Tg)(S:Tg→Prop):Frm h tag h tag S:=fun _ _ h1 _=>⟨h1,rfl⟩
theorem Frm.trans {h h1 h2:Hp}{t t1 t2:Nat→Tg}{S S1 S2:Tg→Prop}(a:Frm h t h1 t1 S)(b:Frm h1 t1 h2 t2 S1)(k:∀x,S x→S2 x)(k1:∀x,S1 x→S2 x):Frm h t h2 t2 S2:=fun id bl h0 hs=>by
 obtain⟨e1,e2⟩:=a id bl h0 (fun q=>hs (k _ q));obtain⟨e3,e4⟩:=b id bl e1 (fun q=>hs (by rw[e2]at q;exact k1 _ q));exact⟨e3,e4.trans e2⟩
def tagU (tag:Nat→Tg)(i:Nat)(t:Tg):Nat→Tg:=fun j=>if j=i then t else tag j
theorem Frm.push (h:Hp)(tag:Nat→Tg)(b:Blk)(t:Tg)(S:Tg→Prop):Frm h tag (h++[b]) (tagU tag h.length t) S:=fun id bl h1 _=>by
 have hl:=(Za.1 h1).1;exact⟨by rw[Zd hl];exact h1,by unfold tagU;rw[if_neg (by omega)]⟩
theorem Frm.set (h:Hp)(tag:Nat→Tg)(i:Nat)(b:Blk){S:Tg→Prop}(hs:S (tag i)):Frm h tag (h.set i b) tag S:=fun id bl h1 k=>by
 have:i≠id:=fun e=>k (e▸hs)
 exact⟨by rw[Zq this];exact h1,rfl⟩
theorem OwnL.snap {h:Hp}{tag:Nat→Tg}{tg:Tg}{sz n:Nat}{rows rows':List (List AV)}{x:AV}(hsz:0<sz)(hr:∀r∈rows',r.length=sz)(ho:OwnL h tag tg sz rows x)(hl:rows'.length=rows.length)(hm:rows.flatten.mapM (snap h n)=some rows'.flatten):
 ∃y,snap h (n+1) x=some y∧nfS sz y= .ls sz rows' false:=by
 rcases ho with⟨rfl,rfl|rfl⟩|⟨id,cs,rfl,h1,h2,h3,h4⟩
 ·have:rows'=[]:=Zl (by simpa using hl);subst this;exact⟨_,rfl,by simp[nfS]⟩
 ·have:rows'=[]:=Zl (by simpa using hl);subst this;exact⟨_,rfl,by simp[nfS]⟩
 ·refine⟨.ls sz rows' false,?_,by simp[nfS]⟩;simp only[Ae.snap,rowOf_row h1,Nat.zero_add,List.drop_zero,if_pos h3,h2,hm,Option.map_some];rw[←hl,chunk_flat hsz rows' hr]
set_option maxHeartbeats 16000000
def triS (x:Int):Int:=if x=0 then 0 else if x=2 then 2 else 1
def andS (x y:Int):Int:=if triS y<triS x then triS y else triS x
mutual
def eqV :V→V→Int
 |
  .mk k n d s z l,w=>
  if k=0∨w.k=0∨okT (.mk k n d s z l)=false∨okT w=false then 1
  else if numB (.mk k n d s z l)=true∧numB w=true then yesI (decide (cmpF (numN (.mk k n d s z l)) (numD (.mk k n d s z l)) (numN w) (numD w)=0))
  else if¬k=w.k then 0
  else if k=4 then yesI (eqS s w.s)
  else if¬k=8∧¬k=7 then yesI (decide (n=w.n))
  else if¬l.length=w.l.length then 0 else eqL l w.l 2
def eqL :List V→List V→Int→Int
 | [],_,a=>a
 |
  x::xs,m,a=>match m with
  | []=>a
  |y::ys=>eqL xs ys (andS a (eqV x y))
end
theorem calm_v1 (v:V):calm (.ag (enc v))=true:=by
 cases v;rw[enc];unfold lsV;rename_i z l;cases (z && (encL l).isEmpty)<;>rfl
set_option maxHeartbeats 16000000
mutual
def weiV :V→Int→Int→Int
 | .mk _ _ _ s _ l,b,m=>if m<1 then-1 else weiL l (b-1-(s.size:Int)/50) m
def weiL :List V→Int→Int→Int
 | [],b,_=>b
 |x::xs,b,m=>if 0≤b then weiL xs (weiV x b (m-1)) m else b
end
mutual
theorem weiV_le :∀(v:V) (b m:Int),b≤2000→weiV v b m≤2000
 |
  .mk k n d s z l,b,m,h=>by
  rw[weiV];split
  ·omega
  ·exact weiL_le l _ m (by omega)
theorem weiL_le :∀(l:List V) (b m:Int),b≤2000→weiL l b m≤2000
 | [],b,m,h=>by rw[weiL];exact h
 |
  x::xs,b,m,h=>by
  rw[weiL];split
  ·exact weiL_le xs _ m (weiV_le x b (m-1) h)
  ·exact h
end
mutual
theorem weiV_ge :∀(v:V) (b m:Int),bdV v→(0≤b→ -100000000000001≤weiV v b m)∧(b<0→b-100000000000001≤weiV v b m)
 |
  .mk k n d s z l,b,m,h=>by
  rw[bdV]at h;rw[weiV];have hs:=h.1;split
  ·omega
  ·have:=weiL_ge l (b-1-(s.size:Int)/50) m h.2.2;omega
theorem weiL_ge :∀(l:List V) (b m:Int),bdL l→(0≤b→ -100000000000001≤weiL l b m)∧(b<0→weiL l b m=b)
 | [],b,m,h=>by rw[weiL];omega
 |
  x::xs,b,m,h=>by
  rw[bdL]at h;rw[weiL];refine⟨fun hb=>?_,fun hb=>?_⟩
  ·rw[if_pos hb];have h1:=(weiV_ge x b (m-1) h.1).1 hb;have h2:=weiL_ge xs (weiV x b (m-1)) m h.2;by_cases h3:0≤weiV x b (m-1)
   ·exact h2.1 h3
   ·rw[h2.2 (by omega)];exact h1
  ·rw[if_neg (by omega)]
end
def weiLD (l:List V)(b m:Int)(i:Nat):Int:=weiL (l.drop i) b m
theorem weiLD_end (l:List V)(b m:Int)(i:Nat)(h:l.length≤i):weiLD l b m i=b:=by unfold weiLD;rw[Zt h,weiL]
theorem weiLD_neg (l:List V)(b m:Int)(i:Nat)(h:b<0):weiLD l b m i=b:=by
 unfold weiLD;cases l.drop i with
 |nil=>rw[weiL]
 |cons x xs=>rw[weiL,if_neg (by omega)]
theorem weiLD_step {l:List V}{i:Nat}{x:V}{b:Int}(m:Int)(h:l[i]?=some x)(hb:0≤b):weiLD l b m i=weiLD l (weiV x b (m-1)) m (i+1):=by
 obtain⟨k,e⟩:=Za.1 h;unfold weiLD;rw[Zm k,e,weiL,if_pos hb]
theorem tdiv50 (n:Nat):Int.tdiv (n:Int) 50=(n:Int)/50:=Int.tdiv_eq_ediv_of_nonneg (Int.natCast_nonneg n)
theorem r04_Weigh :∀(D:Nat) (v:V),dep v≤D→bdV v→∀(N:Nat) (n m:Int), -1000000000000000≤n→n≤2000→m≤12→0≤m→∀b h,callN cx (N+D+1) b 17 [.ag (enc v),.sc (.int .i64 n),.sc (.int .i64 m)] h=some (.sc (.int .i64 (weiV v n m)),h):=by
 intro D
 induction D with
 |zero=>intro v h;have:=dep_pos v;omega
 |
  succ D ih=>
  intro v dv bv N n m hn hn' hm hm' b h;have hcalm:[AV.ag (enc v),.sc (.int .i64 n),.sc (.int .i64 m)].all calm=true:=by rw[Zn,calm_v1];rfl
  refine pure_calm (n:=N+D+1) (r:= .sc (.int .i64 (weiV v n m))) ⟨Tryz.f17.ntmps,(Tryz.f17.body).getD .skip,[.tmp 6]⟩ (by kernel_rfl) (by kernel_rfl) rfl (by kernel_rfl) (by simp[Tryz.f17]) hcalm rfl ?_ b h;have ho:∀x∈v.l,∀(n m:Int), -1000000000000000≤n→n≤2000→m≤12→0≤m→∀b h,callN cx (N+D+1) b 17 [.ag (enc x),.sc (.int .i64 n),.sc (.int .i64 m)] h=some (.sc (.int .i64 (weiV x n m)),h):=fun x hx=>ih x (dep_l dv x hx) ((bdV_l bv).2 x hx) N
  obtain⟨k,q,d,s,z,l⟩:=v;simp only[V.l]at ho;rw[bdV]at bv;have hs:=bv.1;have hll:=bv.2.1;have e1:fitI .i64 (n-1)=n-1:=fit_i64 (by omega) (by omega);have e2:fitI .i64 ((s.size:Int)/50)=(s.size:Int)/50:=fit_i64 (by omega) (by omega);have e3:fitI .i64 (n-1-(s.size:Int)/50)=n-1-(s.size:Int)/50:=fit_i64 (by omega) (by omega);rw[weiV];rw[show enc (.mk k q d s z l)=[.sc (.int .i64 k),.sc (.int .i64 q),.sc (.int .i64 d),.sc (.string s),evL z l]from rfl];by_cases h1:m<1
  ·rw[if_pos h1];generalize evL z l=L at *;simp[Tryz.f17,e1,e2,e3,h1,tdiv50]
  ·rw[if_neg h1];have e4:fitI .i64 (m-1)=m-1:=fit_i64 (by omega) (by omega);have hc0:n-1-(s.size:Int)/50≤2000:=by omega
   obtain⟨b0,hb0⟩:∃b0,b0=n-1-(s.size:Int)/50:=⟨_,rfl⟩;rw[←hb0]at hc0⊢;have e3:fitI .i64 (n-1-(s.size:Int)/50)=b0:=by rw[e3,hb0]
   rcases lsV_cases z l with⟨rfl,hL⟩|hL
   ·rw[hL,weiL];simp[Tryz.f17,e1,e2,e3,h1,tdiv50];refine loop_up (C:=cx) (G:=fun r=>∃h',finX _ (thenX _ _ (blockX _ r) _)=some (_,h'))
     (fun i st=>i=0∧st.1.length=38∧gt st.1 1= .sc (.int .i64 b0)∧gt st.1 3= .pt 0 0∧gt st.1 7= .sc (.int .i64 0)∧st.2=[.row [.sc (.int .i64 k),.sc (.int .i64 q),.sc (.int .i64 d),.sc (.string s),.sc (.slice none 0 0)]])
     (fun o s=>o= .exit 0∧s.1.length=38∧gt s.1 1= .sc (.int .i64 b0)) 0 (by simp) ⟨rfl,rfl,rfl,rfl,rfl,rfl⟩ ?_ ?_
    ·rintro i fr hp hle ⟨rfl,hlen,h1,h3,h7,hh⟩;simp only at hlen h1 h3 h7 hh;subst hh;simp[hlen,h1,h3,h7]
    ·rintro o fr hp hn ⟨rfl,hlen,h1⟩;simp only at hlen h1;simp[hlen,h1]
   ·rw[hL];have hq:=encL_length l;have hg:=encL_get l;generalize encL l=rows at hq hg;generalize hT:weiL l b0 m=T;simp[Tryz.f17,e1,e2,e3,h1,tdiv50];refine loop_up (C:=cx) (G:=fun r=>∃h',finX _ (thenX _ _ (blockX _ r) _)=some (_,h'))
     (fun i st=>∃c:Int,T=weiLD l c m i∧c≤2000∧st.1.length=38∧gt st.1 1= .sc (.int .i64 c)∧gt st.1 2= .sc (.int .i64 m)∧gt st.1 3= .pt 0 0∧gt st.1 7= .sc (.int .i64 i)∧st.2=[.row [.sc (.int .i64 k),.sc (.int .i64 q),.sc (.int .i64 d),.sc (.string s),.ls 5 rows z]])
     (fun o s=>o= .exit 0∧s.1.length=38∧gt s.1 1= .sc (.int .i64 T)) l.length (by simp;omega) ⟨b0,hT.symm,hc0,rfl,rfl,rfl,rfl,rfl,rfl⟩ ?_ ?_
    ·rintro i fr hp hle ⟨c,hT,hc,hlen,h1,h2,h3,h7,hh⟩;simp only at hlen h1 h2 h3 h7 hh;subst hh;by_cases hi:i<l.length
     ·obtain⟨x,hx⟩:∃x,l[i]?=some x:=⟨_,Zb hi⟩;have hr:rows[i]?=some (enc x):=by rw[hg,hx];rfl
      have hr':∀k,rows[i]'k=enc x:=fun k=>by obtain⟨_,e⟩:=Za.1 hr;exact e
      by_cases hc':0≤c
      ·have hw:=fun b h=>ho x (Zi hx) c (m-1) (by omega) hc (by omega) (by omega) b h
       have hf:=fit_succ (Ye hle hll);simp[hlen,h1,h2,h3,h7,hi,hq,hr,hr',hc',hw,e4,hf];exact⟨by rw[hT,weiLD_step m hx hc'],weiV_le x c (m-1) hc⟩
      ·have zz:T=c:=by rw[hT,weiLD_neg _ _ _ _ (by omega)]
       simp[hlen,h1,h2,h3,h7,hi,hq,hc',zz]
     ·have zz:T=c:=by rw[hT,weiLD_end _ _ _ _ (by omega)]
      simp[hlen,h1,h2,h3,h7,hi,hq,zz]
    ·rintro o fr hp hn ⟨rfl,hlen,h1⟩;simp only at hlen h1;simp[hlen,h1]
set_option maxHeartbeats 8000000
theorem OwnL.np {h:Hp}{tag:Nat→Tg}{tg:Tg}{sz:Nat}{rows:List (List AV)}{x:AV}(ho:OwnL h tag tg sz rows x)(v:Value):x≠ .pn v:=by
 rcases ho with⟨_,rfl|rfl⟩|⟨id,cs,rfl,_⟩<;>simp
theorem OwnL.cls {h:Hp}{tag:Nat→Tg}{tg:Tg}{sz:Nat}{rows:List (List AV)}{x:AV}(ho:OwnL h tag tg sz rows x):cls x=some [x]:=by
 rcases ho with⟨_,rfl|rfl⟩|⟨id,cs,rfl,_⟩<;>rfl
end
section
attribute [local simp] aop aopW coldF extF putA ofConst flat scalarOp fastOp binFast intOp strOp guardX Ae.part rowOf szOk natOf lenA cls fillA newsOf isNilC cellX
set_option maxHeartbeats 32000000
def panB (r:Option St)(f:St→Prop):Prop:=match r with|some s=>f s|none=>False
@[simp] theorem panB_some (s:St)(f:St→Prop):panB (some s) f=f s:=rfl
theorem AllR.split {α:Type}{R:α→List AV→Prop}{l1 l2:List α}{rows:List (List AV)}(h:AllR R (l1++l2) rows):∃r1 r2,rows=r1++r2∧AllR R l1 r1∧AllR R l2 r2:=by
 have hl:=h.1;rw[Zu]at hl;refine⟨rows.take l1.length,rows.drop l1.length,(List.take_append_drop _ _).symm,⟨by simp;omega,fun i a r ha hr=>?_⟩,⟨by simp;omega,fun i a r ha hr=>?_⟩⟩
 ·rw[List.getElem?_take]at hr;split at hr
  ·exact h.2 i a r (by rw[Zd (by omega)];exact ha) hr
  ·cases hr
 ·rw[List.getElem?_drop]at hr;exact h.2 (l1.length+i) a r (by rw[Zf (by omega),Nat.add_sub_cancel_left];exact ha) hr
theorem AllR.one {α:Type}{R:α→List AV→Prop}{a:α}{r:List AV}(h:R a r):AllR R [a] [r]:=
 ⟨rfl,fun i b s hb hs=>by
  cases i with
  |zero=>simp at hb hs;subst hb hs;exact h
  |succ i=>simp at hb⟩
theorem AllR.all {α:Type}{R:α→List AV→Prop}{l:List α}{rows:List (List AV)}(h:AllR R l rows){P:List AV→Prop}(hp:∀a r,R a r→P r):∀r∈rows,P r:=fun r hr=>by
 obtain⟨i,hi⟩:=List.mem_iff_getElem?.1 hr;have hl:=(Za.1 hi).1;rw[h.1]at hl;exact hp _ r (h.2 i _ r (Zb hl) hi)
theorem RepN.len {h:Hp}{tag:Nat→Tg}{n:Nd}{r:List AV}(hr:RepN h tag n r):r.length=3:=by obtain⟨L,P,rfl,_⟩:=hr;rfl
theorem RepE.len {h:Hp}{tag:Nat→Tg}{n:Ed}{r:List AV}(hr:RepE h tag n r):r.length=5:=by obtain⟨P,rfl,_⟩:=hr;rfl
@[simp] theorem encC_g0 (c:Ch)(h:0< (encC c).length):(encC c)[0]'h= .sc (.int .i64 c.k):=rfl
@[simp] theorem encC_g1 (c:Ch)(h:1< (encC c).length):(encC c)[1]'h= .sc (.int .i64 c.a):=rfl
@[simp] theorem encC_g2 (c:Ch)(h:2< (encC c).length):(encC c)[2]'h= .sc (.int .i64 c.b):=rfl
@[simp] theorem encC_g3 (c:Ch)(h:3< (encC c).length):(encC c)[3]'h= .sc (.int .i64 c.c):=rfl
@[simp] theorem encC_g4 (c:Ch)(h:4< (encC c).length):(encC c)[4]'h= .sc (.string c.name):=rfl
@[simp] theorem encC_d5 (c:Ch):(encC c).drop 5=enc c.v:=rfl
@[simp] theorem resR_nil (s:St):resR [] s=some (.tp []):=rfl
end
section
attribute [local simp] aop aopW coldF extF putA ofConst flat scalarOp fastOp binFast intOp strOp guardX Ae.part rowOf szOk natOf lenA cls fillA splice newsOf isNilC cellX
set_option maxHeartbeats 16000000
theorem call_frz {f:FuncId}{args ys:List AV}{n:Nat}{r:AV}{h h':Hp}(hs:cx.srt f=none)(hi:cx.inl f=false)(ha:args.mapM (Ae.snap h 8)=some ys)(hc:ys.all calm=true)(hca:args.all calm=false)(hr:scalarRes r=false)(hm:(args.mapM (Ae.snap (mask (args.flatMap (reach h 8)) h) 8)).isSome=true)(hf:Ae.freeze (args.flatMap (reach h 8)) h=some h')
 (hcall:callN cx (n+1) true f ys h=some (r,h)):callN cx (n+1) true f args h=some (r,h'):=by
 have e:ys.mapM (Ae.snap h 8)=some ys:=mapM_calm (n:=6) hc;simp only[callN,hs,hi,Yg,if_false,e,hc,Bool.true_or,if_true,ha]at hcall⊢;split at hcall
 ·rename_i r0 h0;simp only[Zc,Zg,and_true]at hcall;subst hcall;simp only[hca,hr,Bool.or_self,Yg,if_false,hm,Bool.and_self,if_true,hf,Option.map_some]
 ·cases hcall
theorem reach_calm1 {h:Hp}{n:Nat}{x:AV}(hx:calm1 x=true):reach h n x=[]:=by
 cases n<;>cases x<;>simp[calm1]at hx<;>rfl
theorem flat_calm1 {h:Hp}{n:Nat}:∀{xs:List AV},xs.all calm1=true→xs.flatMap (reach h n)=[]
 | [],_=>rfl
 |
  x::xs,hx=>by
  rw[Zn,Zh]at hx;rw[List.flatMap_cons,reach_calm1 hx.1,flat_calm1 hx.2];rfl
end
section
attribute [local simp] aop aopW coldF extF putA ofConst flat scalarOp fastOp binFast intOp strOp guardX Ae.part rowOf szOk natOf lenA cls fillA newsOf isNilC cellX
set_option maxHeartbeats 16000000
def At (h:Hp)(i:Nat)(b:Blk):Prop:=h[i]?=some b
theorem loop_exU {call:Bool→FuncId→List AV→Hp→Option (AV × Hp)}(Inv:Nat→St→Prop)(Q:Out→St→Prop)(N:Nat)(hN:N<cx.fuel)(X:Option (Out × St))(c:Code)(fr:List AV)(h:Hp)(hX:exec2 cx call (.loop c) (fr,h)=X)(hI:Inv 0 (fr,h))
 (step:∀i fr h,i≤N→Inv i (fr,h)→UpX Inv Q N i (exec2 cx call c (fr,h))):∃o fr' h',X=some (o,(fr',h'))∧Q o (fr',h'):=by
 subst hX;exact loop_up (C:=cx) (G:=fun r=>∃o fr' h',r=some (o,(fr',h'))∧Q o (fr',h')) Inv Q N hN hI step (fun o fr h _ hq=>⟨o,fr,h,rfl,hq⟩)
end
end Go.Proofs.YtiefabpageilbaaGreatDoor
