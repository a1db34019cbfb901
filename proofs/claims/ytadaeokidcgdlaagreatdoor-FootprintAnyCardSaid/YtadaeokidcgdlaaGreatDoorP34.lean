/- The editor's change of nodes: added. -/
import Derived.Test.YtadaeokidcgdlaaGreatDoorP33
set_option linter.unusedSimpArgs false
set_option maxRecDepth 100000
set_option linter.unusedVariables false
namespace Go.Proofs.YtadaeokidcgdlaaGreatDoor
open Go Go.Ae
section
attribute [local simp] aop aopW coldF extF putA ofConst flat scalarOp fastOp binFast intOp strOp guardX Ae.part rowOf szOk natOf lenA cls fillA newsOf isNilC cellX
set_option maxHeartbeats 32000000
theorem call_inl3 {f:FuncId}{args:List AV}{n:Nat}(bad:Nat→Bool)(fi:Fi)(hs:cx.srt f=none)(hi:cx.inl f=true)(hF:cx.F f=some fi)(hd:(splitD cx fi.body).isNone=true)(hok:ok3 cx bad fi.body=true)(hl:args.length≤fi.ntmps)(b:Bool)(h:Hp)(hp:plainF f=true:=by decide):
 callN cx (n+1) b f args h=finX fi.res (exec3 cx (callN cx n) bad fi.body (args++List.replicate (fi.ntmps-args.length) .un,h)):=by
 have e1:cx.ins f=none:=ins_none hp;have e2:(if args.all calm then cx.tab f args else none)=none:=by rw[show cx.tab f args=none from tab_none hp];split<;>rfl
 simp only[callN,hs,hi,if_true,e1,e2,hF,Yc.1 hd];exact body1_of3 hF hok hl h
theorem mix_at {C:Cx}{cal:Cal}{l:List Oper}{j m:Nat}(hn:(needs C l.toArray,thrs C l.toArray)=([(j,m)],false))(hj:j<l.length)(hg:(l[j]'hj).guard=none)(hm:m≤l.length)(s:St):
 draw3 C cal true l s=bindX (runOps C cal l.toArray (l.take j) s) fun sj=>bindX (runOps C cal l.toArray (l.take m) s) fun sm=>chkX (aop C cal (ev C sj.1) sj.2 (l[j]'hj)) (aop C cal (ev C sj.1) sm.2 (l[j]'hj)) (runOps C cal l.toArray l s):=
 mix_one (congrArg Prod.fst hn) (Zb hj) hg hm (congrArg Prod.snd hn) s
theorem mix_atT {C:Cx}{cal:Cal}{l:List Oper}{j m:Nat}(hn:needs C l.toArray=[(j,m)])(hj:j<l.length)(hg:(l[j]'hj).guard=none)(hm:m≤l.length)(s:St):
 draw3 C cal true l s=altX (runOps C cal l.toArray l s) (bindX (runOps C cal l.toArray (l.take j) s) fun sj=>bindX (runOps C cal l.toArray (l.take m) s) fun sm=>chkX (aop C cal (ev C sj.1) sj.2 (l[j]'hj)) (aop C cal (ev C sj.1) sm.2 (l[j]'hj)) (runOps C cal l.toArray l s)) (panA C cal l.toArray s):=
 mix_oneT hn (Zb hj) hg hm s
def panB (r:Option St)(f:St→Prop):Prop:=match r with|some s=>f s|none=>False
@[simp] theorem panB_some (s:St)(f:St→Prop):panB (some s) f=f s:=rfl
theorem mix_panB {C:Cx}{cal:Cal}{l:List Oper}(J:Nat)(post:List Oper){v:Value}{hP:Hp}(hJ:J<l.length)(hst:(thrs C l.toArray && (changer C (l[J]'hJ) && (needs C l.toArray).all (fun q=>decide (J<q.2))) && (l[J]'hJ).guard.isNone)=true)(hpost:restO (restJ l.toArray J)=post){s:St}
 (hb:panB (runOps C cal l.toArray (l.take J) s) fun sj=>aop C cal (ev C sj.1) sj.2 (l[J]'hJ)=some (.pn v,hP)∧panB (runOps C cal l.toArray post sj) fun _=>True):
 draw3 C cal true l s=some (.pan v,(udF l s.1,hP)):=by
 rw[Zh,Zh,Yc]at hst;unfold panB at hb;split at hb
 ·rename_i sj h1;obtain⟨h2,h3⟩:=hb;split at h3
  ·rename_i s2 h4;exact mix_pan J hst.1.1 (Zb hJ) rfl hpost hst.1.2 hst.2 h1 h2 h4
  ·exact h3.elim
 ·exact hb.elim
theorem own_eqA {h:Hp}{tag:Nat→Tg}{tg:Tg}{sz:Nat}{rows:List (List AV)}{x:AV}(ho:OwnL h tag tg sz rows x):eqvB x x=true:=by
 rcases ho with⟨_,rfl|rfl⟩|⟨id,cs,rfl,_⟩<;>simp[eqvB,eqvR,Ae.eqV]
def Fo (h:Hp)(tag:Nat→Tg)(h':Hp)(tag':Nat→Tg):Prop:=Frm h tag h' tag' (fun t=>t≠ .none)
theorem repG_box {h:Hp}{tag:Nat→Tg}{E:Nat}{g:Gr}{N V:AV}{nr er:List (List AV)}(H:RepG h tag E g N V nr er)(r:List AV):RepG (h++[.row r]) (tagU tag h.length .none) E g N V nr er:=H.frm (Frm.push _ _ _ _ _)
theorem AllR.split {α:Type}{R:α→List AV→Prop}{l1 l2:List α}{rows:List (List AV)}(h:AllR R (l1++l2) rows):∃r1 r2,rows=r1++r2∧AllR R l1 r1∧AllR R l2 r2:=by
 have hl:=h.1;rw[Zu]at hl;refine⟨rows.take l1.length,rows.drop l1.length,(List.take_append_drop _ _).symm,⟨by simp;omega,fun i a r ha hr=>?_⟩,⟨by simp;omega,fun i a r ha hr=>?_⟩⟩
 ·rw[List.getElem?_take]at hr;split at hr
  ·exact h.2 i a r (by rw[Zd (by omega)];exact ha) hr
  ·cases hr
 ·rw[List.getElem?_drop]at hr;exact h.2 (l1.length+i) a r (by rw[Zf (by omega),Nat.add_sub_cancel_left];exact ha) hr
theorem AllR.app {α:Type}{R:α→List AV→Prop}{l1 l2:List α}{r1 r2:List (List AV)}(h1:AllR R l1 r1)(h2:AllR R l2 r2):AllR R (l1++l2) (r1++r2):=by
 refine⟨by rw[Zu,Zu,h1.1,h2.1],fun i a r ha hr=>?_⟩;by_cases hi:i<l1.length
 ·rw[Zd hi]at ha;rw[Zd (by rw[h1.1];exact hi)]at hr;exact h1.2 i a r ha hr
 ·rw[Zf (by omega)]at ha;rw[Zf (by rw[h1.1];omega),h1.1]at hr;exact h2.2 _ a r ha hr
theorem AllR.one {α:Type}{R:α→List AV→Prop}{a:α}{r:List AV}(h:R a r):AllR R [a] [r]:=
 ⟨rfl,fun i b s hb hs=>by
  cases i with
  |zero=>simp at hb hs;subst hb hs;exact h
  |succ i=>simp at hb⟩
theorem AllR.all {α:Type}{R:α→List AV→Prop}{l:List α}{rows:List (List AV)}(h:AllR R l rows){P:List AV→Prop}(hp:∀a r,R a r→P r):∀r∈rows,P r:=fun r hr=>by
 obtain⟨i,hi⟩:=List.mem_iff_getElem?.1 hr;have hl:=(Za.1 hi).1;rw[h.1]at hl;exact hp _ r (h.2 i _ r (Zb hl) hi)
theorem RepN.len {h:Hp}{tag:Nat→Tg}{n:Nd}{r:List AV}(hr:RepN h tag n r):r.length=3:=by obtain⟨L,P,rfl,_⟩:=hr;rfl
theorem RepE.len {h:Hp}{tag:Nat→Tg}{n:Ed}{r:List AV}(hr:RepE h tag n r):r.length=5:=by obtain⟨P,rfl,_⟩:=hr;rfl
theorem tagU_self (tag:Nat→Tg)(i:Nat)(t:Tg):tagU tag i t i=t:=by unfold tagU;rw[if_pos rfl]
theorem tagU_lt {tag:Nat→Tg}{i j:Nat}{t:Tg}(h:j<i):tagU tag i t j=tag j:=by unfold tagU;rw[if_neg (by omega)]
@[simp] theorem encC_g0 (c:Ch)(h:0< (encC c).length):(encC c)[0]'h= .sc (.int .i64 c.k):=rfl
@[simp] theorem encC_g1 (c:Ch)(h:1< (encC c).length):(encC c)[1]'h= .sc (.int .i64 c.a):=rfl
@[simp] theorem encC_g2 (c:Ch)(h:2< (encC c).length):(encC c)[2]'h= .sc (.int .i64 c.b):=rfl
@[simp] theorem encC_g3 (c:Ch)(h:3< (encC c).length):(encC c)[3]'h= .sc (.int .i64 c.c):=rfl
@[simp] theorem encC_g4 (c:Ch)(h:4< (encC c).length):(encC c)[4]'h= .sc (.string c.name):=rfl
@[simp] theorem encC_d5 (c:Ch):(encC c).drop 5=enc c.v:=rfl
@[simp] theorem resR_nil (s:St):resR [] s=some (.tp []):=rfl
theorem ed_nodes_1c (n:Nat)(b:Bool)(E:Nat)(g:Gr)(c:Ch)(N V:AV)(nr er:List (List AV))(tag:Nat→Tg)(h:Hp)(pre post:List Nd)(H:RepG h tag E g N V nr er)(hk:c.k=1)(hid:1≤c.a∧c.a≤1000000)(hs:Spl (ltN c.a) (eqN c.a) g.nodes pre [] post)(hl:g.nodes.length<2000):
 ∃h' tag' N' V' nr' er',callN cx (n+6) b 162 [.pt E 0,.ag (encC c)] h=some (.tp [],h')∧RepG h' tag' E (putG g pre post ⟨c.a,[],[]⟩) N' V' nr' er'∧Fo h tag h' tag':=by
 have hEl:=(Za.1 H.box).1;have f1:=fun bb=>ed_node n bb E g N V nr er _ _ c.a pre [] post (repG_box H (encC c)) (by omega) hs
 have f2:=must_ok (n+4);have fr2:Frm h tag (h++[.row (encC c)]++[.row [.sc (.int .i64 c.a),.sc (.slice none 0 0),.sc (.slice none 0 0)]]) (tagU (tagU tag h.length .none) (h.length+1) .none) (fun _=>False):=by
  have a:=Frm.push h tag (.row (encC c)) .none (fun _=>False);have b:=Frm.push (h++[.row (encC c)]) (tagU tag h.length .none) (.row [.sc (.int .i64 c.a),.sc (.slice none 0 0),.sc (.slice none 0 0)]) .none (fun _=>False);rw[Zu]at b;exact a.trans b (fun _ q=>q) (fun _ q=>q)
 have H2:RepG (h++[.row (encC c)]++[.row [.sc (.int .i64 c.a),.sc (.slice none 0 0),.sc (.slice none 0 0)]]) (tagU (tagU tag h.length .none) (h.length+1) .none) E g N V nr er:=H.frm (fun id b h1 _=>fr2 id b h1 (fun q=>q));have hb2:(h++[.row (encC c)]++[.row [.sc (.int .i64 c.a),.sc (.slice none 0 0),.sc (.slice none 0 0)]])[h.length]?=some (.row (encC c)):=by simp
 have hv2:(h++[.row (encC c)]++[.row [.sc (.int .i64 c.a),.sc (.slice none 0 0),.sc (.slice none 0 0)]])[h.length+1]?=some (.row [.sc (.int .i64 c.a),.sc (.slice none 0 0),.sc (.slice none 0 0)]):=by rw[Zf (by simp)];simp
 generalize hH2:h++[.row (encC c)]++[.row [.sc (.int .i64 c.a),.sc (.slice none 0 0),.sc (.slice none 0 0)]]=h2 at *;generalize hT2:tagU (tagU tag h.length .none) (h.length+1) .none=t2 at *;have hna:=H2.na;rw[hs.e,Yo]at hna;obtain⟨r1,r2,hrr,ha1,ha2⟩:=hna.split;have hns:=H2.ns;rw[hrr]at hns;have hw:=H2.na.all (P:=fun r=>r.length=3) (fun a r q=>q.len);rw[hrr]at hw;have hgl:g.nodes.length=pre.length+post.length:=by rw[hs.e];simp
 obtain⟨x',h3,t3,g1,g2,g3⟩:=own_ins (bytes:=56) (k:=false) hns hw hv2 rfl (by rw[←hT2,tagU_self];simp) (by rw[Zu,ha1.1,ha2.1];omega) (by omega);rw[ha1.1]at g1;have f3:=fun bb=>(ins_Node (n+4) bb _ _).trans g1
 have q1:=fun(cal:Cal) (ops:Array Oper) (d:Tmp) (rest:List Oper) (fr:List AV) (h:Hp)=>opP_np (C:=cx) (cal:=cal) (ops:=ops) (fun v=>H.ns.np v) d rest fr h
 have q1':=fun(cal:Cal) (ops:Array Oper) (d:Tmp) (rest:List Oper) (fr:List AV) (h:Hp)=>opN_np (C:=cx) (cal:=cal) (ops:=ops) (fun v=>H.ns.np v) d rest fr h
 have q2':=fun(cal:Cal) (ops:Array Oper) (d:Tmp) (rest:List Oper) (fr:List AV) (h:Hp)=>opN_np (C:=cx) (cal:=cal) (ops:=ops) (fun v=>g2.np v) d rest fr h
 have eN:=own_eqA H.ns;have cN:=g2.cls;unfold cls at cN;have hE0:∀y,(h++y)[E]?=some (.row [N,V,.sc (.int .i64 g.nn),.sc (.int .i64 g.ne)]):=fun y=>by rw[Zd hEl];exact H.box
 have hE2:=H2.box;have hE3:=(g3 E _ hE2 (by rw[H2.tb];simp)).1;have hb3:=(g3 h.length _ hb2 (by rw[←hT2,tagU_lt (by omega),tagU_self];simp)).1;have hEl3:=(Za.1 hE3).1;have hs3:∀y,(h3.set E y)[E]?=some y:=fun y=>Zj hEl3
 have hs3':∀y,(h3.set E y)[h.length]?=some (.row (encC c)):=fun y=>by rw[Zq (by omega)];exact hb3
 have e1:fitI .i64 (c.a+1)=c.a+1:=fit_i64 (by omega) (by omega);rw[call_inl3 (n:=n+5) (fun i=>i==5||i==10||i==22) ⟨Tryz.f162.ntmps,(Tryz.f162.body).getD .skip,[]⟩ rfl (by kernel_rfl) (by kernel_rfl) (by kernel_rfl) (by kernel_rfl) (by simp[Tryz.f162])];have hmx:(if g.nn<c.a+1 then c.a+1 else g.nn)=max g.nn (c.a+1):=by split<;>omega
 have hN:=own_form H.ns;rw[H.na.1]at hN;have hl':(g.nodes.length:Int)<2000:=by omega
 refine⟨h3.set E (.row [x',V,.sc (.int .i64 (max g.nn (c.a+1))),.sc (.int .i64 g.ne)]),t3,x',V,r1++[[.sc (.int .i64 c.a),.sc (.slice none 0 0),.sc (.slice none 0 0)]]++r2,er,?_,?_,?_⟩
 ·simp only[List.isEmpty_nil,Bool.not_true]at f1;subst hH2;simp only[Zp,Zv,Zw]at f3;rcases hN with⟨h0,rfl⟩|⟨h0,rfl⟩|⟨id,rfl⟩
  all_goals
   simp[Tryz.f162,f1,f2,hk,hE0,hl'];rw[mix_at (j:=5) (m:=11) ?_ ?_ ?_ ?_]
   rotate_left
   ·kernel_rfl
   ·simp
   ·rfl
   ·simp
   simp[f3,hE0,eN,q2',splice,hE3,cN,hs3,hs3',e1,hmx]
 ·have fr:Frm h3 t3 (h3.set E (.row [x',V,.sc (.int .i64 (max g.nn (c.a+1))),.sc (.int .i64 g.ne)])) t3 (fun t=>t= .box):=Frm.set h3 t3 E _ (by
   have:=(g3 E _ hE2 (by rw[H2.tb];simp)).2;rw[this,H2.tb])
  exact{
   box:=hs3 _
   tb:=(g3 E _ hE2 (by rw[H2.tb];simp)).2.trans H2.tb
   ns:=g2.frm fr (by simp)
   es:=(H2.es.frm g3 (by simp)).frm fr (by simp)
   na:=by
    have e:(putG g pre post ⟨c.a,[],[]⟩).nodes=pre++[⟨c.a,[],[]⟩]++post:=by simp[putG]
    rw[e];refine((ha1.imp fun a _ r h1=>(h1.frm g3 (by simp) (by simp)).frm fr (by simp) (by simp)).app (AllR.one ⟨_,_,rfl,.inl ⟨rfl,.inr rfl⟩,.inl ⟨rfl,.inr rfl⟩⟩)).app (ha2.imp fun a _ r h1=>(h1.frm g3 (by simp) (by simp)).frm fr (by simp) (by simp))
   ea:=H2.ea.imp fun a _ r h1=>(h1.frm g3 (by simp)).frm fr (by simp)}
 ·have fr:Frm h3 t3 (h3.set E (.row [x',V,.sc (.int .i64 (max g.nn (c.a+1))),.sc (.int .i64 g.ne)])) t3 (fun t=>t= .box):=Frm.set h3 t3 E _ (by
   have:=(g3 E _ hE2 (by rw[H2.tb];simp)).2;rw[this,H2.tb])
  exact(fr2.trans g3 (S2:=fun t=>t≠ .none) (fun _ q=>q.elim) (fun _ q=>by rw[q];simp)).trans fr (fun _ q=>q) (fun _ q=>by rw[q];simp)
theorem ed_nodes_1a (n:Nat)(b:Bool)(E:Nat)(g:Gr)(c:Ch)(N V:AV)(nr er:List (List AV))(tag:Nat→Tg)(h:Hp)(pre post:List Nd)(m:Nd)(H:RepG h tag E g N V nr er)(hk:c.k=1)(hs:Spl (ltN c.a) (eqN c.a) g.nodes pre [m] post)(hl:g.nodes.length≤2000):
 ∃h' tag',callN cx (n+6) b 162 [.pt E 0,.ag (encC c)] h=some (.pn (.iface 215 (.int .i64 7)),h')∧Fo h tag h' tag':=by
 have hEl:=(Za.1 H.box).1;have f1:=fun bb=>ed_node n bb E g N V nr er _ _ c.a pre [m] post (repG_box H (encC c)) (by omega) hs
 have f2:=must_ok (n+4);have f2':=must_no (n+4);have hE0:∀y,(h++y)[E]?=some (.row [N,V,.sc (.int .i64 g.nn),.sc (.int .i64 g.ne)]):=fun y=>by rw[Zd hEl];exact H.box
 have hb1:(h++[Blk.row (encC c)])[h.length]?=some (.row (encC c)):=by simp
 rw[call_inl3 (n:=n+5) (fun i=>i==5||i==10||i==22) ⟨Tryz.f162.ntmps,(Tryz.f162.body).getD .skip,[]⟩ rfl (by kernel_rfl) (by kernel_rfl) (by kernel_rfl) (by kernel_rfl) (by simp[Tryz.f162])];refine⟨_,_,?_,Frm.push h tag (.row (encC c)) .none _⟩;simp only[List.isEmpty_cons,Bool.not_false]at f1;simp[Tryz.f162,f1,f2',hk]
theorem ed_nodes_1b (n:Nat)(b:Bool)(E:Nat)(g:Gr)(c:Ch)(N V:AV)(nr er:List (List AV))(tag:Nat→Tg)(h:Hp)(pre post:List Nd)(H:RepG h tag E g N V nr er)(hk:c.k=1)(hs:Spl (ltN c.a) (eqN c.a) g.nodes pre [] post)(hl:g.nodes.length≤2000)(hf:2000≤g.nodes.length):
 ∃h' tag',callN cx (n+6) b 162 [.pt E 0,.ag (encC c)] h=some (.pn (.iface 215 (.int .i64 20)),h')∧Fo h tag h' tag':=by
 have hEl:=(Za.1 H.box).1;have f1:=fun bb=>ed_node n bb E g N V nr er _ _ c.a pre [] post (repG_box H (encC c)) (by omega) hs
 have f2:=must_ok (n+4);have f2':=must_no (n+4);have hE0:∀y,(h++y)[E]?=some (.row [N,V,.sc (.int .i64 g.nn),.sc (.int .i64 g.ne)]):=fun y=>by rw[Zd hEl];exact H.box
 have hb1:(h++[Blk.row (encC c)])[h.length]?=some (.row (encC c)):=by simp
 rw[call_inl3 (n:=n+5) (fun i=>i==5||i==10||i==22) ⟨Tryz.f162.ntmps,(Tryz.f162.body).getD .skip,[]⟩ rfl (by kernel_rfl) (by kernel_rfl) (by kernel_rfl) (by kernel_rfl) (by simp[Tryz.f162])];refine⟨_,_,?_,Frm.push h tag (.row (encC c)) .none _⟩;simp only[List.isEmpty_nil,Bool.not_true]at f1;have hN:=own_form H.ns;rw[H.na.1]at hN;have hl':¬(g.nodes.length:Int)<2000:=by omega
 rcases hN with⟨h0,rfl⟩|⟨h0,rfl⟩|⟨id,rfl⟩
 ·omega
 ·omega
 ·simp[Tryz.f162,f1,f2,f2',hk,hE0,hl']
theorem ed_nodes_n0 (n:Nat)(b:Bool)(E:Nat)(g:Gr)(c:Ch)(N V:AV)(nr er:List (List AV))(tag:Nat→Tg)(h:Hp)(pre post:List Nd)(H:RepG h tag E g N V nr er)(hk:¬c.k=1)(hs:Spl (ltN c.a) (eqN c.a) g.nodes pre [] post)(hl:g.nodes.length≤2000):
 ∃h' tag',callN cx (n+6) b 162 [.pt E 0,.ag (encC c)] h=some (.pn (.iface 215 (.int .i64 10)),h')∧Fo h tag h' tag':=by
 have hEl:=(Za.1 H.box).1;have f1:=fun bb=>ed_node n bb E g N V nr er _ _ c.a pre [] post (repG_box H (encC c)) (by omega) hs
 have f2:=must_ok (n+4);have f2':=must_no (n+4);have hE0:∀y,(h++y)[E]?=some (.row [N,V,.sc (.int .i64 g.nn),.sc (.int .i64 g.ne)]):=fun y=>by rw[Zd hEl];exact H.box
 have hb1:(h++[Blk.row (encC c)])[h.length]?=some (.row (encC c)):=by simp
 rw[call_inl3 (n:=n+5) (fun i=>i==5||i==10||i==22) ⟨Tryz.f162.ntmps,(Tryz.f162.body).getD .skip,[]⟩ rfl (by kernel_rfl) (by kernel_rfl) (by kernel_rfl) (by kernel_rfl) (by simp[Tryz.f162])];refine⟨_,_,?_,Frm.push h tag (.row (encC c)) .none _⟩;simp only[List.isEmpty_nil,Bool.not_true]at f1;simp[Tryz.f162,f1,f2',hk]
theorem own_cell {h:Hp}{tag:Nat→Tg}{tg:Tg}{sz:Nat}{pre post:List (List AV)}{r:List AV}{N:AV}(ho:OwnL h tag tg sz (pre++[r]++post) N)(hr:∀y∈pre++[r]++post,y.length=sz):
 ∃id cs,N= .sl id sz 0 (pre++[r]++post).length false∧h[id]?=some (.row cs)∧tag id=tg∧cs.take ((pre++[r]++post).length*sz)=(pre++[r]++post).flatten∧(pre++[r]++post).length*sz≤cs.length∧∀j x,r[j]?=some x→cs[pre.length*sz+j]?=some x:=by
 rcases ho with⟨he,_⟩|⟨id,cs,rfl,h1,h2,h3,h4⟩
 ·simp at he
 ·refine⟨id,cs,rfl,h1,h4,h2,h3,fun j x hj=>?_⟩;have hA:pre.flatten.length=pre.length*sz:=flatten_length pre fun y hy=>hr y (by simp[hy])
  have hjl:=(Za.1 hj).1;have hrl:r.length=sz:=hr r (by simp);have e:(pre++[r]++post).flatten[pre.length*sz+j]?=some x:=by
   rw[List.flatten_append,List.flatten_append,Zp,←hA,Zf (by omega),Nat.add_sub_cancel_left];simp only[List.flatten_cons,List.flatten_nil,Yo];rw[Zd hjl];exact hj
  rw[←h2,List.getElem?_take]at e;split at e
  ·exact e
  ·cases e
theorem put_lab {h h3:Hp}{tag t3:Nat→Tg}{E:Nat}{g:Gr}{N V x':AV}{nr er:List (List AV)}{pre post:List Nd}{m:Nd}{ls:List ByteArray}{id:Nat}{cs:List AV}{i:Nat}(H:RepG h tag E g N V nr er)(he:g.nodes=pre++[m]++post)(hne:∀a∈pre++post,a.id≠m.id)
 (hN:N= .sl id 3 0 i false) (hid:h[id]?=some (.row cs)) (hx:OwnL h3 t3 (.lab m.id) 1 (tsR ls) x') (hf:Frm h tag h3 t3 (fun t=>t= .lab m.id)):
 ∃nr',RepG (h3.set id (.row (splice cs (pre.length*3+1) [x']))) t3 E {g with nodes:=pre++[{m with labels:=ls}]++post} N V nr' er∧Frm h tag (h3.set id (.row (splice cs (pre.length*3+1) [x']))) t3 (fun t=>t= .lab m.id∨t= .nodes):=by
 have hna:=H.na;rw[he]at hna;obtain⟨r12,r3,hr,ha12,ha3⟩:=hna.split;obtain⟨r1,r2,hr',ha1,ha2⟩:=ha12.split;subst hr';obtain⟨r,rfl⟩:∃r,r2=[r]:=List.length_eq_one_iff.1 ha2.1;obtain⟨L,P,rfl,o1,o2⟩:=ha2.2 0 m r rfl rfl;have hns:=H.ns;rw[hr]at hns;have hw:=H.na.all (P:=fun r=>r.length=3) (fun a r q=>q.len);rw[hr]at hw;obtain⟨id',cs',e1,e2,e3,e4,e5,e6⟩:=own_cell hns hw;rw[hN]at e1;simp only[AV.sl.injEq,true_and,and_true]at e1;obtain⟨rfl,rfl⟩:=e1;rw[hid]at e2;cases e2;have k1:=hf id _ hid (by rw[e3];simp);have hput:=own_put (o:=1) (vs:=[x']) (r':=[.sc (.int .i64 m.id),x',P]) k1.1 e4 e5 (k1.2.trans e3) hw (by simp) (by simp[splice]);rw[ha1.1]at hput;have fr:Frm h3 t3 (h3.set id (.row (splice cs (pre.length*3+1) [x']))) t3 (fun t=>t= .nodes):=Frm.set h3 t3 id _ (k1.2.trans e3);have kE:=hf E _ H.box (by rw[H.tb];simp);refine⟨r1++[[.sc (.int .i64 m.id),x',P]]++r3,{
  box:=(fr E _ kE.1 (by rw[kE.2,H.tb];simp)).1
  tb:=kE.2.trans H.tb
  ns:=by rw[hN];exact hput
  es:=(H.es.frm hf (by simp)).frm fr (by simp)
  na:=((ha1.imp fun a ha r q=>(q.frm hf (by simpa using hne a (by simp[ha])) (by simp)).frm fr (by simp) (by simp)).app (AllR.one (a:=({m with labels:=ls}:Nd)) ⟨x',P,rfl,hx.frm fr (by simp),(o2.frm hf (by simp)).frm fr (by simp)⟩)).app (ha3.imp fun a ha r q=>(q.frm hf (by simpa using hne a (by simp[ha])) (by simp)).frm fr (by simp) (by simp))
  ea:=H.ea.imp fun a _ r q=>(q.frm hf (by simp)).frm fr (by simp)},hf.trans fr (fun _ q=> .inl q) (fun _ q=> .inr q)⟩
theorem put_prop {h h3:Hp}{tag t3:Nat→Tg}{E:Nat}{g:Gr}{N V x':AV}{nr er:List (List AV)}{pre post:List Nd}{m:Nd}{ls:List Prp}{id:Nat}{cs:List AV}{i:Nat}(H:RepG h tag E g N V nr er)(he:g.nodes=pre++[m]++post)(hne:∀a∈pre++post,a.id≠m.id)
 (hN:N= .sl id 3 0 i false) (hid:h[id]?=some (.row cs)) (hx:OwnL h3 t3 (.prop m.id) 6 (prR ls) x') (hf:Frm h tag h3 t3 (fun t=>t= .prop m.id)):
 ∃nr',RepG (h3.set id (.row (splice cs (pre.length*3+2) [x']))) t3 E {g with nodes:=pre++[{m with props:=ls}]++post} N V nr' er∧Frm h tag (h3.set id (.row (splice cs (pre.length*3+2) [x']))) t3 (fun t=>t= .prop m.id∨t= .nodes):=by
 have hna:=H.na;rw[he]at hna;obtain⟨r12,r3,hr,ha12,ha3⟩:=hna.split;obtain⟨r1,r2,hr',ha1,ha2⟩:=ha12.split;subst hr';obtain⟨r,rfl⟩:∃r,r2=[r]:=List.length_eq_one_iff.1 ha2.1;obtain⟨L,P,rfl,o1,o2⟩:=ha2.2 0 m r rfl rfl;have hns:=H.ns;rw[hr]at hns;have hw:=H.na.all (P:=fun r=>r.length=3) (fun a r q=>q.len);rw[hr]at hw;obtain⟨id',cs',e1,e2,e3,e4,e5,e6⟩:=own_cell hns hw;rw[hN]at e1;simp only[AV.sl.injEq,true_and,and_true]at e1;obtain⟨rfl,rfl⟩:=e1;rw[hid]at e2;cases e2;have k1:=hf id _ hid (by rw[e3];simp);have hput:=own_put (o:=2) (vs:=[x']) (r':=[.sc (.int .i64 m.id),L,x']) k1.1 e4 e5 (k1.2.trans e3) hw (by simp) (by simp[splice]);rw[ha1.1]at hput;have fr:Frm h3 t3 (h3.set id (.row (splice cs (pre.length*3+2) [x']))) t3 (fun t=>t= .nodes):=Frm.set h3 t3 id _ (k1.2.trans e3);have kE:=hf E _ H.box (by rw[H.tb];simp);refine⟨r1++[[.sc (.int .i64 m.id),L,x']]++r3,{
  box:=(fr E _ kE.1 (by rw[kE.2,H.tb];simp)).1
  tb:=kE.2.trans H.tb
  ns:=by rw[hN];exact hput
  es:=(H.es.frm hf (by simp)).frm fr (by simp)
  na:=((ha1.imp fun a ha r q=>(q.frm hf (by simp) (by simpa using hne a (by simp[ha]))).frm fr (by simp) (by simp)).app (AllR.one (a:=({m with props:=ls}:Nd)) ⟨L,x',rfl,(o1.frm hf (by simp)).frm fr (by simp),hx.frm fr (by simp)⟩)).app (ha3.imp fun a ha r q=>(q.frm hf (by simp) (by simpa using hne a (by simp[ha]))).frm fr (by simp) (by simp))
  ea:=H.ea.imp fun a _ r q=>(q.frm hf (by simp)).frm fr (by simp)},hf.trans fr (fun _ q=> .inl q) (fun _ q=> .inr q)⟩
theorem put_eprop {h h3:Hp}{tag t3:Nat→Tg}{E:Nat}{g:Gr}{N V x':AV}{nr er:List (List AV)}{pre post:List Ed}{m:Ed}{ls:List Prp}{id:Nat}{cs:List AV}{i:Nat}(H:RepG h tag E g N V nr er)(he:g.edges=pre++[m]++post)(hne:∀a∈pre++post,a.id≠m.id)
 (hN:V= .sl id 5 0 i false) (hid:h[id]?=some (.row cs)) (hx:OwnL h3 t3 (.eprop m.id) 6 (prR ls) x') (hf:Frm h tag h3 t3 (fun t=>t= .eprop m.id)):
 ∃er',RepG (h3.set id (.row (splice cs (pre.length*5+4) [x']))) t3 E {g with edges:=pre++[{m with props:=ls}]++post} N V nr er'∧Frm h tag (h3.set id (.row (splice cs (pre.length*5+4) [x']))) t3 (fun t=>t= .eprop m.id∨t= .edges):=by
 have hna:=H.ea;rw[he]at hna;obtain⟨r12,r3,hr,ha12,ha3⟩:=hna.split;obtain⟨r1,r2,hr',ha1,ha2⟩:=ha12.split;subst hr';obtain⟨r,rfl⟩:∃r,r2=[r]:=List.length_eq_one_iff.1 ha2.1;obtain⟨P,rfl,o2⟩:=ha2.2 0 m r rfl rfl;have hns:=H.es;rw[hr]at hns;have hw:=H.ea.all (P:=fun r=>r.length=5) (fun a r q=>q.len);rw[hr]at hw;obtain⟨id',cs',e1,e2,e3,e4,e5,e6⟩:=own_cell hns hw;rw[hN]at e1;simp only[AV.sl.injEq,true_and,and_true]at e1;obtain⟨rfl,rfl⟩:=e1;rw[hid]at e2;cases e2;have k1:=hf id _ hid (by rw[e3];simp);have hput:=own_put (o:=4) (vs:=[x']) (r':=[.sc (.int .i64 m.id),.sc (.int .i64 m.src),.sc (.int .i64 m.dst),.sc (.string m.type),x']) k1.1 e4 e5 (k1.2.trans e3) hw (by simp) (by simp[splice]);rw[ha1.1]at hput;have fr:Frm h3 t3 (h3.set id (.row (splice cs (pre.length*5+4) [x']))) t3 (fun t=>t= .edges):=Frm.set h3 t3 id _ (k1.2.trans e3);have kE:=hf E _ H.box (by rw[H.tb];simp);refine⟨r1++[[.sc (.int .i64 m.id),.sc (.int .i64 m.src),.sc (.int .i64 m.dst),.sc (.string m.type),x']]++r3,{
  box:=(fr E _ kE.1 (by rw[kE.2,H.tb];simp)).1
  tb:=kE.2.trans H.tb
  ns:=(H.ns.frm hf (by simp)).frm fr (by simp)
  es:=by rw[hN];exact hput
  na:=H.na.imp fun a _ r q=>(q.frm hf (by simp) (by simp)).frm fr (by simp) (by simp)
  ea:=((ha1.imp fun a ha r q=>(q.frm hf (by simpa using hne a (by simp[ha]))).frm fr (by simp)).app (AllR.one (a:=({m with props:=ls}:Ed)) ⟨x',rfl,hx.frm fr (by simp)⟩)).app (ha3.imp fun a ha r q=>(q.frm hf (by simpa using hne a (by simp[ha]))).frm fr (by simp))},hf.trans fr (fun _ q=> .inl q) (fun _ q=> .inr q)⟩
theorem spl_ne {x:Int}{l pre post:List Nd}{m:Nd}(hs:Spl (ltN x) (eqN x) l pre [m] post):∀a∈pre++post,a.id≠m.id:=fun a ha e=>by
 have hm:=(hs.m m (by simp)).2;unfold eqN at hm;rw[Zz]at hm;have:eqN x a=false:=by
  rcases Ya.1 ha with q|q
  ·exact(hs.p a q).2
  ·exact(hs.q a q).2
 unfold eqN at this;rw[decide_eq_false_iff_not]at this;exact this (e.trans hm)
theorem tsR_app' (l m:List ByteArray):tsR (l++m)=tsR l++tsR m:=by simp[tsR]
theorem lab_search (n:Nat){h:Hp}{tag:Nat→Tg}{tg:Tg}{l pre mid post:List ByteArray}{X:AV}(ho:OwnL h tag tg 1 (tsR l) X)(hl:l.length≤1000000){x:ByteArray}(hs:Spl (ltT x) (eqT x) l pre mid post)(b:Bool):
 callN cx (n+3) b 236 [X,.sc (.string x)] h=some (.tp [.sc (.int .i64 pre.length),.sc (.bool !mid.isEmpty)],h):=by
 obtain⟨y,e1,e2⟩:=ho.snap1 (n:=7) (by omega) (tsR_all _).1 (tsR_all _).2;have hy:=nfS_inv e2;have hy':(∃z,y= .ls 1 (tsR l) z)∨(l=[]∧y= .sc (.slice none 0 0)):=hy.imp (fun q=>q) (fun q=>⟨by simpa[tsR]using q.1,q.2⟩);have f0:=sl_Search_string n l pre mid post x y hy' (by omega) hs b h;have hcy:calm y=true:=by rcases hy with⟨z,rfl⟩|⟨_,rfl⟩<;>rfl
 exact call_snap (n:=n+2) (ys:=[y,.sc (.string x)]) (by kernel_rfl) (by kernel_rfl) (by
  rw[Zo,Zo,List.mapM_nil,e1];simp[Ae.snap]) (by rw[Zn,hcy];rfl) rfl f0
theorem ed_nodes_3a (n:Nat)(b:Bool)(E:Nat)(g:Gr)(c:Ch)(N V:AV)(nr er:List (List AV))(tag:Nat→Tg)(h:Hp)(pre post:List Nd)(m:Nd)(lp lm lq:List ByteArray)(y:ByteArray)(H:RepG h tag E g N V nr er)(hs:Spl (ltN c.a) (eqN c.a) g.nodes pre [m] post)(hl:g.nodes.length≤2000)(hl8:m.labels.length≤8)(hlt:Spl (ltT c.name) (eqT c.name) m.labels lp [y] lq)(hk:c.k=3):
 ∃h' tag',callN cx (n+6) b 162 [.pt E 0,.ag (encC c)] h=some (.pn (.iface 215 (.int .i64 7)),h')∧Fo h tag h' tag':=by
 have hEl:=(Za.1 H.box).1;have f1:=fun bb=>ed_node n bb E g N V nr er _ _ c.a pre [m] post (repG_box H (encC c)) (by omega) hs
 simp only[List.isEmpty_cons,Bool.not_false]at f1;have f2:=must_ok (n+4);have f2':=must_no (n+4);have hE0:∀y,(h++y)[E]?=some (.row [N,V,.sc (.int .i64 g.nn),.sc (.int .i64 g.ne)]):=fun y=>by rw[Zd hEl];exact H.box
 have hgl:g.nodes.length=pre.length+1+post.length:=by rw[hs.e];simp;omega
 have hna:=H.na;rw[hs.e]at hna;obtain⟨r12,r3,hr,ha12,ha3⟩:=hna.split;obtain⟨r1,r2,hr',ha1,ha2⟩:=ha12.split;subst hr';obtain⟨r,rfl⟩:∃r,r2=[r]:=List.length_eq_one_iff.1 ha2.1;obtain⟨L,P,rfl,o1,o2⟩:=ha2.2 0 m r rfl rfl;have hns:=H.ns;rw[hr]at hns;have hw:=H.na.all (P:=fun r=>r.length=3) (fun a r q=>q.len);rw[hr]at hw;obtain⟨id,cs,hN,hid,hti,_,hcl,hce⟩:=own_cell hns hw;have hL:=hce 1 L rfl;have hP:=hce 2 P rfl;have hlen:(r1++[[.sc (.int .i64 m.id),L,P]]++r3).length=pre.length+1+post.length:=by simp[ha1.1,ha3.1];omega
 rw[hlen]at hN hcl;rw[ha1.1]at hL hP;have hcl1:pre.length*3+1+1≤cs.length:=by omega
 have hcl2:pre.length*3+2+1≤cs.length:=by omega
 have hpl:pre.length<pre.length+1+post.length:=by omega
 have hidl:=(Za.1 hid).1;have hid0:∀y,(h++y)[id]?=some (.row cs):=fun y=>by rw[Zd hidl];exact hid
 have hne:=spl_ne hs;have qL:=fun(cal:Cal) (ops:Array Oper) (d:Tmp) (rest:List Oper) (fr:List AV) (h:Hp)=>opN_np (C:=cx) (cal:=cal) (ops:=ops) (fun v=>o1.np v) d rest fr h
 have qL':=fun(cal:Cal) (ops:Array Oper) (d:Tmp) (rest:List Oper) (fr:List AV) (h:Hp)=>opP_np (C:=cx) (cal:=cal) (ops:=ops) (fun v=>o1.np v) d rest fr h
 have fr1:=Frm.push h tag (.row (encC c)) .none (fun _=>False);have f3:=fun bb=>lab_search (n+2) (o1.frm fr1 (fun q=>q)) (by omega) hlt bb
 rw[call_inl3 (n:=n+5) (fun i=>i==5||i==10||i==22) ⟨Tryz.f162.ntmps,(Tryz.f162.body).getD .skip,[]⟩ rfl (by kernel_rfl) (by kernel_rfl) (by kernel_rfl) (by kernel_rfl) (by simp[Tryz.f162])];refine⟨_,_,?_,Frm.push h tag (.row (encC c)) .none _⟩;simp only[List.isEmpty_cons,Bool.not_false]at f3;subst hN;simp[Tryz.f162,f1,f2,f2',f3,hk,hE0,hid0,hpl,hL,qL,qL']
theorem ed_nodes_3b (n:Nat)(b:Bool)(E:Nat)(g:Gr)(c:Ch)(N V:AV)(nr er:List (List AV))(tag:Nat→Tg)(h:Hp)(pre post:List Nd)(m:Nd)(lp lm lq:List ByteArray)(H:RepG h tag E g N V nr er)(hs:Spl (ltN c.a) (eqN c.a) g.nodes pre [m] post)(hl:g.nodes.length≤2000)(hl8:m.labels.length≤8)(hlt:Spl (ltT c.name) (eqT c.name) m.labels lp [] lq)(hk:c.k=3)(hf:8≤m.labels.length):
 ∃h' tag',callN cx (n+6) b 162 [.pt E 0,.ag (encC c)] h=some (.pn (.iface 215 (.int .i64 20)),h')∧Fo h tag h' tag':=by
 have hEl:=(Za.1 H.box).1;have f1:=fun bb=>ed_node n bb E g N V nr er _ _ c.a pre [m] post (repG_box H (encC c)) (by omega) hs
 simp only[List.isEmpty_cons,Bool.not_false]at f1;have f2:=must_ok (n+4);have f2':=must_no (n+4);have hE0:∀y,(h++y)[E]?=some (.row [N,V,.sc (.int .i64 g.nn),.sc (.int .i64 g.ne)]):=fun y=>by rw[Zd hEl];exact H.box
 have hgl:g.nodes.length=pre.length+1+post.length:=by rw[hs.e];simp;omega
 have hna:=H.na;rw[hs.e]at hna;obtain⟨r12,r3,hr,ha12,ha3⟩:=hna.split;obtain⟨r1,r2,hr',ha1,ha2⟩:=ha12.split;subst hr';obtain⟨r,rfl⟩:∃r,r2=[r]:=List.length_eq_one_iff.1 ha2.1;obtain⟨L,P,rfl,o1,o2⟩:=ha2.2 0 m r rfl rfl;have hns:=H.ns;rw[hr]at hns;have hw:=H.na.all (P:=fun r=>r.length=3) (fun a r q=>q.len);rw[hr]at hw;obtain⟨id,cs,hN,hid,hti,_,hcl,hce⟩:=own_cell hns hw;have hL:=hce 1 L rfl;have hP:=hce 2 P rfl;have hlen:(r1++[[.sc (.int .i64 m.id),L,P]]++r3).length=pre.length+1+post.length:=by simp[ha1.1,ha3.1];omega
 rw[hlen]at hN hcl;rw[ha1.1]at hL hP;have hcl1:pre.length*3+1+1≤cs.length:=by omega
 have hcl2:pre.length*3+2+1≤cs.length:=by omega
 have hpl:pre.length<pre.length+1+post.length:=by omega
 have hidl:=(Za.1 hid).1;have hid0:∀y,(h++y)[id]?=some (.row cs):=fun y=>by rw[Zd hidl];exact hid
 have hne:=spl_ne hs;have qL:=fun(cal:Cal) (ops:Array Oper) (d:Tmp) (rest:List Oper) (fr:List AV) (h:Hp)=>opN_np (C:=cx) (cal:=cal) (ops:=ops) (fun v=>o1.np v) d rest fr h
 have qL':=fun(cal:Cal) (ops:Array Oper) (d:Tmp) (rest:List Oper) (fr:List AV) (h:Hp)=>opP_np (C:=cx) (cal:=cal) (ops:=ops) (fun v=>o1.np v) d rest fr h
 have fr1:=Frm.push h tag (.row (encC c)) .none (fun _=>False);have f3:=fun bb=>lab_search (n+2) (o1.frm fr1 (fun q=>q)) (by omega) hlt bb
 rw[call_inl3 (n:=n+5) (fun i=>i==5||i==10||i==22) ⟨Tryz.f162.ntmps,(Tryz.f162.body).getD .skip,[]⟩ rfl (by kernel_rfl) (by kernel_rfl) (by kernel_rfl) (by kernel_rfl) (by simp[Tryz.f162])];refine⟨_,_,?_,Frm.push h tag (.row (encC c)) .none _⟩;simp only[List.isEmpty_nil,Bool.not_true]at f3;subst hN;have c8:¬(m.labels.length:Int)<8:=by omega
 have hLf:=own_form o1;rw[tsR_length]at hLf;rcases hLf with⟨h0,rfl⟩|⟨h0,rfl⟩|⟨id',rfl⟩
 ·omega
 ·omega
 ·simp[Tryz.f162,f1,f2,f2',f3,hk,hE0,hid0,hpl,hL,c8]
theorem ed_nodes_3c (n:Nat)(b:Bool)(E:Nat)(g:Gr)(c:Ch)(N V:AV)(nr er:List (List AV))(tag:Nat→Tg)(h:Hp)(pre post:List Nd)(m:Nd)(lp lm lq:List ByteArray)(H:RepG h tag E g N V nr er)(hs:Spl (ltN c.a) (eqN c.a) g.nodes pre [m] post)(hl:g.nodes.length≤2000)(hl8:m.labels.length≤8)(hlt:Spl (ltT c.name) (eqT c.name) m.labels lp [] lq)(hk:c.k=3)(hf:m.labels.length<8):
 ∃h' tag' N' V' nr' er',callN cx (n+6) b 162 [.pt E 0,.ag (encC c)] h=some (.tp [],h')∧RepG h' tag' E {g with nodes:=pre++[{m with labels:=lp++[c.name]++lq}]++post} N' V' nr' er'∧Fo h tag h' tag':=by
 have hEl:=(Za.1 H.box).1;have f1:=fun bb=>ed_node n bb E g N V nr er _ _ c.a pre [m] post (repG_box H (encC c)) (by omega) hs
 simp only[List.isEmpty_cons,Bool.not_false]at f1;have f2:=must_ok (n+4);have f2':=must_no (n+4);have hE0:∀y,(h++y)[E]?=some (.row [N,V,.sc (.int .i64 g.nn),.sc (.int .i64 g.ne)]):=fun y=>by rw[Zd hEl];exact H.box
 have hgl:g.nodes.length=pre.length+1+post.length:=by rw[hs.e];simp;omega
 have hna:=H.na;rw[hs.e]at hna;obtain⟨r12,r3,hr,ha12,ha3⟩:=hna.split;obtain⟨r1,r2,hr',ha1,ha2⟩:=ha12.split;subst hr';obtain⟨r,rfl⟩:∃r,r2=[r]:=List.length_eq_one_iff.1 ha2.1;obtain⟨L,P,rfl,o1,o2⟩:=ha2.2 0 m r rfl rfl;have hns:=H.ns;rw[hr]at hns;have hw:=H.na.all (P:=fun r=>r.length=3) (fun a r q=>q.len);rw[hr]at hw;obtain⟨id,cs,hN,hid,hti,_,hcl,hce⟩:=own_cell hns hw;have hL:=hce 1 L rfl;have hP:=hce 2 P rfl;have hlen:(r1++[[.sc (.int .i64 m.id),L,P]]++r3).length=pre.length+1+post.length:=by simp[ha1.1,ha3.1];omega
 rw[hlen]at hN hcl;rw[ha1.1]at hL hP;have hcl1:pre.length*3+1+1≤cs.length:=by omega
 have hcl2:pre.length*3+2+1≤cs.length:=by omega
 have hpl:pre.length<pre.length+1+post.length:=by omega
 have hidl:=(Za.1 hid).1;have hid0:∀y,(h++y)[id]?=some (.row cs):=fun y=>by rw[Zd hidl];exact hid
 have hne:=spl_ne hs;have qL:=fun(cal:Cal) (ops:Array Oper) (d:Tmp) (rest:List Oper) (fr:List AV) (h:Hp)=>opN_np (C:=cx) (cal:=cal) (ops:=ops) (fun v=>o1.np v) d rest fr h
 have qL':=fun(cal:Cal) (ops:Array Oper) (d:Tmp) (rest:List Oper) (fr:List AV) (h:Hp)=>opP_np (C:=cx) (cal:=cal) (ops:=ops) (fun v=>o1.np v) d rest fr h
 have fr1:=Frm.push h tag (.row (encC c)) .none (fun _=>False);have f3:=fun bb=>lab_search (n+2) (o1.frm fr1 (fun q=>q)) (by omega) hlt bb
 have fr2:Frm h tag (h++[.row (encC c)]++[.row [.sc (.string c.name)]]) (tagU (tagU tag h.length .none) (h.length+1) .none) (fun _=>False):=by
  have b:=Frm.push (h++[.row (encC c)]) (tagU tag h.length .none) (.row [.sc (.string c.name)]) .none (fun _=>False);rw[Zu]at b;exact fr1.trans b (fun _ q=>q) (fun _ q=>q)
 have el:m.labels=lp++lq:=by rw[hlt.e];simp
 have o3:=o1.frm fr2 (fun q=>q);rw[el,tsR_app']at o3;obtain⟨x',h3,t3,g1,g2,g3⟩:=own_ins (bytes:=16) (k:=false) (vs:=[.sc (.string c.name)]) (vid:=h.length+1) o3 (fun r hr=>by rw[←tsR_app']at hr;exact(tsR_all _).1 r hr) (by rw[Zf (by simp)];simp) rfl (by rw[tagU_self];simp) (by rw[←tsR_app',tsR_length,←el];omega) (by omega);rw[tsR_length]at g1;have hx:OwnL h3 t3 (.lab m.id) 1 (tsR (lp++[c.name]++lq)) x':=by rw[tsR_app',tsR_app'];exact g2
 have f4:=fun bb=>(ins_String (n+4) bb _ _).trans g1
 simp only[Zp,Zv,Zw]at f4;have q2:=fun(cal:Cal) (ops:Array Oper) (d:Tmp) (rest:List Oper) (fr:List AV) (h:Hp)=>opN_np (C:=cx) (cal:=cal) (ops:=ops) (fun v=>g2.np v) d rest fr h
 have eL:=own_eqA o1;have cX:=g2.cls;unfold cls at cX;have k2:=g3 id (.row cs) (fr2 id _ hid (fun q=>q)).1 (by rw[(fr2 id _ hid (fun q=>q)).2,hti];simp);obtain⟨nr',hG,hF⟩:=put_lab H hs.e hne hN hid hx (fr2.trans g3 (fun _ q=>q.elim) (fun _ q=>q));refine⟨_,_,_,_,_,_,?_,hG,fun i bl q1 q2=>hF i bl q1 (by rintro(q|q)<;>(rw[q]at q2;simp at q2))⟩;subst hN;simp only[List.isEmpty_nil,Bool.not_true]at f3;have c8:(m.labels.length:Int)<8:=by omega
 have hLf:=own_form o1;rw[tsR_length]at hLf;rw[call_inl3 (n:=n+5) (fun i=>i==5||i==10||i==22) ⟨Tryz.f162.ntmps,(Tryz.f162.body).getD .skip,[]⟩ rfl (by kernel_rfl) (by kernel_rfl) (by kernel_rfl) (by kernel_rfl) (by simp[Tryz.f162])];rcases hLf with⟨h0,rfl⟩|⟨h0,rfl⟩|⟨id',rfl⟩
 all_goals
  simp[Tryz.f162,f1,f2,f3,hk,hE0,hid0,hpl,hL,c8];rw[mix_at (j:=4) (m:=9) ?_ ?_ ?_ ?_]
  rotate_left
  ·kernel_rfl
  ·simp
  ·rfl
  ·simp
  simp[f4,hE0,hid0,hL,eL,q2,splice,k2.1,cX,hcl1]
end
end Go.Proofs.YtadaeokidcgdlaaGreatDoor
