/- The editor's change of nodes: labels left out, properties set. -/
import Derived.Test.YtadaeokidcgdlaaGreatDoorP34
set_option linter.unusedSimpArgs false
set_option maxRecDepth 100000
set_option linter.unusedVariables false
namespace Go.Proofs.YtadaeokidcgdlaaGreatDoor
open Go Go.Ae
section
attribute [local simp] aop aopW coldF extF putA ofConst flat scalarOp fastOp binFast intOp strOp guardX Ae.part rowOf szOk natOf lenA cls fillA newsOf isNilC cellX
set_option maxHeartbeats 32000000
theorem ed_nodes_4a (n:Nat)(b:Bool)(E:Nat)(g:Gr)(c:Ch)(N V:AV)(nr er:List (List AV))(tag:Nat→Tg)(h:Hp)(pre post:List Nd)(m:Nd)(lp lm lq:List ByteArray)(H:RepG h tag E g N V nr er)(hs:Spl (ltN c.a) (eqN c.a) g.nodes pre [m] post)(hl:g.nodes.length≤2000)(hl8:m.labels.length≤8)(hlt:Spl (ltT c.name) (eqT c.name) m.labels lp [] lq)(hk:c.k=4):
 ∃h' tag',callN cx (n+6) b 162 [.pt E 0,.ag (encC c)] h=some (.pn (.iface 215 (.int .i64 23)),h')∧Fo h tag h' tag':=by
 have hEl:=(Za.1 H.box).1;have f1:=fun bb=>ed_node n bb E g N V nr er _ _ c.a pre [m] post (repG_box H (encC c)) (by omega) hs
 simp only[List.isEmpty_cons,Bool.not_false]at f1;have f2:=must_ok (n+4);have f2':=must_no (n+4);have hE0:∀y,(h++y)[E]?=some (.row [N,V,.sc (.int .i64 g.nn),.sc (.int .i64 g.ne)]):=fun y=>by rw[Zd hEl];exact H.box
 have hgl:g.nodes.length=pre.length+1+post.length:=by rw[hs.e];simp;omega
 have hna:=H.na;rw[hs.e]at hna;obtain⟨r12,r3,hr,ha12,ha3⟩:=hna.split;obtain⟨r1,r2,hr',ha1,ha2⟩:=ha12.split;subst hr';obtain⟨r,rfl⟩:∃r,r2=[r]:=List.length_eq_one_iff.1 ha2.1;obtain⟨L,P,rfl,o1,o2⟩:=ha2.2 0 m r rfl rfl;have hns:=H.ns;rw[hr]at hns;have hw:=H.na.all (P:=fun r=>r.length=3) (fun a r q=>q.len);rw[hr]at hw;obtain⟨id,cs,hN,hid,hti,_,hcl,hce⟩:=own_cell hns hw;have hL:=hce 1 L rfl;have hP:=hce 2 P rfl;have hlen:(r1++[[.sc (.int .i64 m.id),L,P]]++r3).length=pre.length+1+post.length:=by simp[ha1.1,ha3.1];omega
 rw[hlen]at hN hcl;rw[ha1.1]at hL hP;have hcl1:pre.length*3+1+1≤cs.length:=by omega
 have hcl2:pre.length*3+2+1≤cs.length:=by omega
 have hpl:pre.length<pre.length+1+post.length:=by omega
 have hidl:=(Za.1 hid).1;have hid0:∀y,(h++y)[id]?=some (.row cs):=fun y=>by rw[Zd hidl];exact hid
 have hne:=spl_ne hs;have qL:=fun(cal:Cal) (ops:Array Oper) (d:Tmp) (rest:List Oper) (fr:List AV) (h:Hp)=>opN_np (C:=cx) (cal:=cal) (ops:=ops) (fun v=>o1.np v) d rest fr h
 have qL':=fun(cal:Cal) (ops:Array Oper) (d:Tmp) (rest:List Oper) (fr:List AV) (h:Hp)=>opP_np (C:=cx) (cal:=cal) (ops:=ops) (fun v=>o1.np v) d rest fr h
 have fr1:=Frm.push h tag (.row (encC c)) .none (fun _=>False);have f3:=fun bb=>lab_search (n+2) (o1.frm fr1 (fun q=>q)) (by omega) hlt bb
 rw[call_inl3 (n:=n+5) (fun i=>i==5||i==10||i==22) ⟨Tryz.f162.ntmps,(Tryz.f162.body).getD .skip,[]⟩ rfl (by kernel_rfl) (by kernel_rfl) (by kernel_rfl) (by kernel_rfl) (by simp[Tryz.f162])];refine⟨_,_,?_,Frm.push h tag (.row (encC c)) .none _⟩;simp only[List.isEmpty_nil,Bool.not_true]at f3;subst hN;simp[Tryz.f162,f1,f2,f2',f3,hk,hE0,hid0,hpl,hL,qL,qL']
theorem ed_nodes_4c (n:Nat)(b:Bool)(E:Nat)(g:Gr)(c:Ch)(N V:AV)(nr er:List (List AV))(tag:Nat→Tg)(h:Hp)(pre post:List Nd)(m:Nd)(lp lm lq:List ByteArray)(y:ByteArray)(H:RepG h tag E g N V nr er)(hs:Spl (ltN c.a) (eqN c.a) g.nodes pre [m] post)(hl:g.nodes.length≤2000)(hl8:m.labels.length≤8)(hlt:Spl (ltT c.name) (eqT c.name) m.labels lp [y] lq)(hk:c.k=4):
 ∃h' tag' N' V' nr' er',callN cx (n+6) b 162 [.pt E 0,.ag (encC c)] h=some (.tp [],h')∧RepG h' tag' E {g with nodes:=pre++[{m with labels:=lp++lq}]++post} N' V' nr' er'∧Fo h tag h' tag':=by
 have hEl:=(Za.1 H.box).1;have f1:=fun bb=>ed_node n bb E g N V nr er _ _ c.a pre [m] post (repG_box H (encC c)) (by omega) hs
 simp only[List.isEmpty_cons,Bool.not_false]at f1;have f2:=must_ok (n+4);have f2':=must_no (n+4);have hE0:∀y,(h++y)[E]?=some (.row [N,V,.sc (.int .i64 g.nn),.sc (.int .i64 g.ne)]):=fun y=>by rw[Zd hEl];exact H.box
 have hgl:g.nodes.length=pre.length+1+post.length:=by rw[hs.e];simp;omega
 have hna:=H.na;rw[hs.e]at hna;obtain⟨r12,r3,hr,ha12,ha3⟩:=hna.split;obtain⟨r1,r2,hr',ha1,ha2⟩:=ha12.split;subst hr';obtain⟨r,rfl⟩:∃r,r2=[r]:=List.length_eq_one_iff.1 ha2.1;obtain⟨L,P,rfl,o1,o2⟩:=ha2.2 0 m r rfl rfl;have hns:=H.ns;rw[hr]at hns;have hw:=H.na.all (P:=fun r=>r.length=3) (fun a r q=>q.len);rw[hr]at hw;obtain⟨id,cs,hN,hid,hti,_,hcl,hce⟩:=own_cell hns hw;have hL:=hce 1 L rfl;have hP:=hce 2 P rfl;have hlen:(r1++[[.sc (.int .i64 m.id),L,P]]++r3).length=pre.length+1+post.length:=by simp[ha1.1,ha3.1];omega
 rw[hlen]at hN hcl;rw[ha1.1]at hL hP;have hcl1:pre.length*3+1+1≤cs.length:=by omega
 have hcl2:pre.length*3+2+1≤cs.length:=by omega
 have hpl:pre.length<pre.length+1+post.length:=by omega
 have hidl:=(Za.1 hid).1;have hid0:∀y,(h++y)[id]?=some (.row cs):=fun y=>by rw[Zd hidl];exact hid
 have hne:=spl_ne hs;have qL:=fun(cal:Cal) (ops:Array Oper) (d:Tmp) (rest:List Oper) (fr:List AV) (h:Hp)=>opN_np (C:=cx) (cal:=cal) (ops:=ops) (fun v=>o1.np v) d rest fr h
 have qL':=fun(cal:Cal) (ops:Array Oper) (d:Tmp) (rest:List Oper) (fr:List AV) (h:Hp)=>opP_np (C:=cx) (cal:=cal) (ops:=ops) (fun v=>o1.np v) d rest fr h
 have fr1:=Frm.push h tag (.row (encC c)) .none (fun _=>False);have f3:=fun bb=>lab_search (n+2) (o1.frm fr1 (fun q=>q)) (by omega) hlt bb
 have el:m.labels=lp++[y]++lq:=hlt.e;have o3:=o1.frm fr1 (fun q=>q);have hrl:tsR m.labels=tsR lp++[[.sc (.string y)]]++tsR lq:=by rw[el,tsR_app',tsR_app'];rfl
 rw[hrl]at o3;obtain⟨x',h3,g1,g2,g3⟩:=own_del del_String o3 (fun r hr=>by rw[←hrl]at hr;exact(tsR_all _).1 r hr) (by rw[←hrl,tsR_length];omega) (n+4) true;rw[tsR_length]at g1;have hx:OwnL h3 (tagU tag h.length .none) (.lab m.id) 1 (tsR (lp++lq)) x':=by rw[tsR_app'];exact g2
 have q2:=fun(cal:Cal) (ops:Array Oper) (d:Tmp) (rest:List Oper) (fr:List AV) (h:Hp)=>opP_np (C:=cx) (cal:=cal) (ops:=ops) (fun v=>g2.np v) d rest fr h
 have cX:=g2.cls;unfold cls at cX;have k2:=g3 id (.row cs) (fr1 id _ hid (fun q=>q)).1 (by rw[(fr1 id _ hid (fun q=>q)).2,hti];simp);have hll:lp.length≤8:=by rw[el]at hl8;simp at hl8;omega
 have e5:fitI .i64 ((lp.length:Int)+1)=(lp.length:Int)+1:=fit_i64 (by omega) (by omega);obtain⟨nr',hG,hF⟩:=put_lab H hs.e hne hN hid hx (fr1.trans g3 (fun _ q=>q.elim) (fun _ q=>q));refine⟨_,_,_,_,_,_,?_,hG,fun i bl q1 q2=>hF i bl q1 (by rintro(q|q)<;>(rw[q]at q2;simp at q2))⟩;subst hN;simp only[List.isEmpty_cons,Bool.not_false]at f3;rw[call_inl3 (n:=n+5) (fun i=>i==5||i==10||i==22) ⟨Tryz.f162.ntmps,(Tryz.f162.body).getD .skip,[]⟩ rfl (by kernel_rfl) (by kernel_rfl) (by kernel_rfl) (by kernel_rfl) (by simp[Tryz.f162])];simp[Tryz.f162,f1,f2,f3,hk,hE0,hid0,hpl,hL,qL,qL',e5,g1,q2,splice,k2.1,cX,hcl1]
theorem ed_nodes_5 (n D:Nat)(b:Bool)(E:Nat)(g:Gr)(c:Ch)(N V:AV)(nr er:List (List AV))(tag:Nat→Tg)(h:Hp)(pre post:List Nd)(m:Nd)(pp pm pq:List Prp)(H:RepG h tag E g N V nr er)(hs:Spl (ltN c.a) (eqN c.a) g.nodes pre [m] post)(hl:g.nodes.length≤2000)(hl16:m.props.length≤16)(hpt:Spl (ltR c.name) (eqR c.name) m.props pp pm pq)(hd:dep c.v≤D)(hv:bdV c.v)(hk:c.k≠1∧c.k≠2∧c.k≠3∧c.k≠4):
 if(setL c.name c.v pp pq).length≤16 then∃h' tag' N' V' nr' er',callN cx (n+2*D+10) b 162 [.pt E 0,.ag (encC c)] h=some (.tp [],h')∧RepG h' tag' E {g with nodes:=pre++[{m with props:=setL c.name c.v pp pq}]++post} N' V' nr' er'∧Fo h tag h' tag' else∃h' tag',callN cx (n+2*D+10) b 162 [.pt E 0,.ag (encC c)] h=some (.pn (.iface 215 (.int .i64 20)),h')∧Fo h tag h' tag':=by
 have hEl:=(Za.1 H.box).1;have f1:=fun bb=>ed_node (n+2*D+4) bb E g N V nr er _ _ c.a pre [m] post (repG_box H (encC c)) (by omega) hs
 simp only[List.isEmpty_cons,Bool.not_false]at f1;have f2:=must_ok (n+2*D+8);have f2':=must_no (n+2*D+8);have hE0:∀y,(h++y)[E]?=some (.row [N,V,.sc (.int .i64 g.nn),.sc (.int .i64 g.ne)]):=fun y=>by rw[Zd hEl];exact H.box
 have hgl:g.nodes.length=pre.length+1+post.length:=by rw[hs.e];simp;omega
 have hna:=H.na;rw[hs.e]at hna;obtain⟨r12,r3,hr,ha12,ha3⟩:=hna.split;obtain⟨r1,r2,hr',ha1,ha2⟩:=ha12.split;subst hr';obtain⟨r,rfl⟩:∃r,r2=[r]:=List.length_eq_one_iff.1 ha2.1;obtain⟨L,P,rfl,o1,o2⟩:=ha2.2 0 m r rfl rfl;have hns:=H.ns;rw[hr]at hns;have hw:=H.na.all (P:=fun r=>r.length=3) (fun a r q=>q.len);rw[hr]at hw;obtain⟨id,cs,hN,hid,hti,_,hcl,hce⟩:=own_cell hns hw;have hL:=hce 1 L rfl;have hP:=hce 2 P rfl;have hlen:(r1++[[.sc (.int .i64 m.id),L,P]]++r3).length=pre.length+1+post.length:=by simp[ha1.1,ha3.1];omega
 rw[hlen]at hN hcl;rw[ha1.1]at hL hP;have hcl1:pre.length*3+1+1≤cs.length:=by omega
 have hcl2:pre.length*3+2+1≤cs.length:=by omega
 have hpl:pre.length<pre.length+1+post.length:=by omega
 have hidl:=(Za.1 hid).1;have hid0:∀y,(h++y)[id]?=some (.row cs):=fun y=>by rw[Zd hidl];exact hid
 have hne:=spl_ne hs;have qL:=fun(cal:Cal) (ops:Array Oper) (d:Tmp) (rest:List Oper) (fr:List AV) (h:Hp)=>opN_np (C:=cx) (cal:=cal) (ops:=ops) (fun v=>o1.np v) d rest fr h
 have qL':=fun(cal:Cal) (ops:Array Oper) (d:Tmp) (rest:List Oper) (fr:List AV) (h:Hp)=>opP_np (C:=cx) (cal:=cal) (ops:=ops) (fun v=>o1.np v) d rest fr h
 have fr1:=Frm.push h tag (.row (encC c)) .none (fun _=>False);have f3:=c_set n D false (o2.frm fr1 (fun q=>q)) hl16 hpt hd hv (by simp);have qP:=fun(cal:Cal) (ops:Array Oper) (d:Tmp) (rest:List Oper) (fr:List AV) (h:Hp)=>opN_np (C:=cx) (cal:=cal) (ops:=ops) (fun v=>o2.np v) d rest fr h
 obtain⟨hk1,hk2,hk3,hk4⟩:=hk;split
 ·rename_i h16;rw[if_pos h16]at f3;obtain⟨x',h3,t3,g1,hx,g3⟩:=f3;have q2:=fun(cal:Cal) (ops:Array Oper) (d:Tmp) (rest:List Oper) (fr:List AV) (h:Hp)=>opN_np (C:=cx) (cal:=cal) (ops:=ops) (fun v=>hx.np v) d rest fr h
  have cX:=hx.cls;unfold cls at cX;have k2:=g3 id (.row cs) (fr1 id _ hid (fun q=>q)).1 (by rw[(fr1 id _ hid (fun q=>q)).2,hti];simp);obtain⟨nr',hG,hF⟩:=put_prop H hs.e hne hN hid hx (fr1.trans g3 (fun _ q=>q.elim) (fun _ q=>q));refine⟨_,_,_,_,_,_,?_,hG,fun i bl q1 q2=>hF i bl q1 (by rintro(q|q)<;>(rw[q]at q2;simp at q2))⟩;subst hN;rw[call_inl3 (n:=n+2*D+9) (fun i=>i==5||i==10||i==22) ⟨Tryz.f162.ntmps,(Tryz.f162.body).getD .skip,[]⟩ rfl (by kernel_rfl) (by kernel_rfl) (by kernel_rfl) (by kernel_rfl) (by simp[Tryz.f162])];simp[Tryz.f162,f1,f2,hk1,hk2,hk3,hk4,hE0,hid0,hpl];rw[mix_nil ?_]
  rotate_left
  ·kernel_rfl
  simp[hE0,hid0,hpl,hP,qP,g1,q2,splice,k2.1,cX,hcl2]
 ·rename_i h16;rw[if_neg h16]at f3;obtain⟨h3,t3,g1,g3⟩:=f3;refine⟨h3,t3,?_,(fr1.trans g3 (S2:=fun t=>t≠ .none) (fun _ q=>q.elim) (fun _ q=>by rw[q];simp))⟩;subst hN;rw[call_inl3 (n:=n+2*D+9) (fun i=>i==5||i==10||i==22) ⟨Tryz.f162.ntmps,(Tryz.f162.body).getD .skip,[]⟩ rfl (by kernel_rfl) (by kernel_rfl) (by kernel_rfl) (by kernel_rfl) (by simp[Tryz.f162])];simp[Tryz.f162,f1,f2,hk1,hk2,hk3,hk4,hE0,hid0,hpl];rw[mix_panB 9 [] (v:= .iface 215 (.int .i64 20)) (hP:=h3) ?_ ?_ ?_ ?_]
  rotate_left
  ·simp
  ·kernel_rfl
  ·kernel_rfl
  ·simp[hE0,hid0,hpl,hP,qP,g1,splice]
  simp
theorem own_row {h:Hp}{tag:Nat→Tg}{tg:Tg}{sz:Nat}{rows:List (List AV)}{N:AV}(ho:OwnL h tag tg sz rows N)(hr:∀y∈rows,y.length=sz){i:Nat}{r:List AV}(hi:rows[i]?=some r):
 ∃id cs,N= .sl id sz 0 rows.length false∧h[id]?=some (.row cs)∧tag id=tg∧(cs.drop (i*sz)).take sz=r∧i*sz+sz≤cs.length:=by
 have hil:=(Za.1 hi).1;have e:rows=rows.take i++[r]++rows.drop (i+1):=by
  obtain⟨_,hh⟩:=Za.1 hi;rw[←hh];simp
 have hlen:(rows.take i).length=i:=by simp;omega
 rcases ho with⟨rfl,_⟩|⟨id,cs,rfl,h1,h2,h3,h4⟩
 ·simp at hi
 ·have hle:i*sz+sz≤rows.length*sz:=by
   have:=Zx sz (show i+1≤rows.length by omega);rw[Nat.add_mul,Nat.one_mul]at this;exact this
  have hA:(rows.take i).flatten.length=i*sz:=by rw[flatten_length (rows.take i) (sz:=sz) fun y hy=>hr y (List.mem_of_mem_take hy),hlen]
  have hrl:r.length=sz:=hr r (Zi hi);refine⟨id,cs,rfl,h1,h4,?_,by omega⟩;have hN:rows.length*sz=i*sz+sz+(rows.length*sz-(i*sz+sz)):=by omega
  have htk:cs.take (rows.length*sz)=(rows.take i).flatten++r++(rows.drop (i+1)).flatten:=by
   rw[h2]
   conv=>lhs;rw[e]
   simp
  have e1:cs.take (i*sz+sz)=(rows.take i).flatten++r:=by
   have:=congrArg (List.take (i*sz+sz)) htk;rw[List.take_take,Nat.min_eq_left hle,List.take_left' (by rw[Zu,hA,hrl])]at this;exact this
  have e2:=congrArg (List.drop (i*sz)) e1;rw[List.drop_take,Nat.add_sub_cancel_left,List.drop_left' hA]at e2;exact e2
theorem tou_any {l:List Ed}{x:Int}(h:∀(j:Nat) (e:Ed),j<l.length→l[j]?=some e→touS x e=false):l.any (touS x)=false:=by
 rw[List.any_eq_false];intro e he;obtain⟨j,hj⟩:=List.mem_iff_getElem?.1 he;rw[h j e (Za.1 hj).1 hj];simp
def DoneG (h:Hp)(tag:Nat→Tg)(E:Nat)(g:Gr)(h':Hp):Prop:=∃tag' N' V' nr' er',RepG h' tag' E g N' V' nr' er'∧Fo h tag h' tag'
def DoneE (h:Hp)(tag:Nat→Tg)(h':Hp):Prop:=∃tag',Fo h tag h' tag'
theorem ed_nodes_2 (n:Nat)(b:Bool)(E:Nat)(g:Gr)(c:Ch)(N V:AV)(nr er:List (List AV))(tag:Nat→Tg)(h:Hp)(pre post:List Nd)(m:Nd)(H:RepG h tag E g N V nr er)(hs:Spl (ltN c.a) (eqN c.a) g.nodes pre [m] post)(hl:g.nodes.length≤2000)(hle:g.edges.length≤1000000)(hk:c.k=2):
 if g.edges.any (touS c.a)=true then∃h' tag',callN cx (n+6) b 162 [.pt E 0,.ag (encC c)] h=some (.pn (.iface 215 (.int .i64 12)),h')∧Fo h tag h' tag' else∃h' tag' N' V' nr' er',callN cx (n+6) b 162 [.pt E 0,.ag (encC c)] h=some (.tp [],h')∧RepG h' tag' E {g with nodes:=pre++post} N' V' nr' er'∧Fo h tag h' tag':=by
 have hEl:=(Za.1 H.box).1;have f1:=fun bb=>ed_node n bb E g N V nr er _ _ c.a pre [m] post (repG_box H (encC c)) (by omega) hs
 simp only[List.isEmpty_cons,Bool.not_false]at f1;have f2:=must_ok (n+4);have f2':=must_no (n+4);have hE0:∀y,(h++y)[E]?=some (.row [N,V,.sc (.int .i64 g.nn),.sc (.int .i64 g.ne)]):=fun y=>by rw[Zd hEl];exact H.box
 have hgl:g.nodes.length=pre.length+1+post.length:=by rw[hs.e];simp;omega
 have hna:=H.na;rw[hs.e]at hna;obtain⟨r12,r3,hr,ha12,ha3⟩:=hna.split;obtain⟨r1,r2,hr',ha1,ha2⟩:=ha12.split;subst hr';obtain⟨r,rfl⟩:∃r,r2=[r]:=List.length_eq_one_iff.1 ha2.1;obtain⟨L,P,rfl,o1,o2⟩:=ha2.2 0 m r rfl rfl;have hns:=H.ns;rw[hr]at hns;have hw:=H.na.all (P:=fun r=>r.length=3) (fun a r q=>q.len);rw[hr]at hw;obtain⟨id,cs,hN,hid,hti,_,hcl,hce⟩:=own_cell hns hw;have hL:=hce 1 L rfl;have hP:=hce 2 P rfl;have hlen:(r1++[[.sc (.int .i64 m.id),L,P]]++r3).length=pre.length+1+post.length:=by simp[ha1.1,ha3.1];omega
 rw[hlen]at hN hcl;rw[ha1.1]at hL hP;have hcl1:pre.length*3+1+1≤cs.length:=by omega
 have hcl2:pre.length*3+2+1≤cs.length:=by omega
 have hpl:pre.length<pre.length+1+post.length:=by omega
 have hidl:=(Za.1 hid).1;have hid0:∀y,(h++y)[id]?=some (.row cs):=fun y=>by rw[Zd hidl];exact hid
 have hne:=spl_ne hs;have qL:=fun(cal:Cal) (ops:Array Oper) (d:Tmp) (rest:List Oper) (fr:List AV) (h:Hp)=>opN_np (C:=cx) (cal:=cal) (ops:=ops) (fun v=>o1.np v) d rest fr h
 have qL':=fun(cal:Cal) (ops:Array Oper) (d:Tmp) (rest:List Oper) (fr:List AV) (h:Hp)=>opP_np (C:=cx) (cal:=cal) (ops:=ops) (fun v=>o1.np v) d rest fr h
 have fr1:=Frm.push h tag (.row (encC c)) .none (fun _=>False);have hlen0:=hlen;have hel:=H.ea.1;have hwe:=H.ea.all (P:=fun r=>r.length=5) (fun a r q=>q.len);have hVr:∀(i:Nat) (e:Ed),g.edges[i]?=some e→∃idV csV P,V= .sl idV 5 0 g.edges.length false∧h[idV]?=some (.row csV)∧(csV.drop (i*5)).take 5=[.sc (.int .i64 e.id),.sc (.int .i64 e.src),.sc (.int .i64 e.dst),.sc (.string e.type),P]∧i*5+5≤csV.length:=fun i e he=>by
  obtain⟨r,h1,P,rfl,_⟩:=H.ea.get he;obtain⟨idV,csV,a1,a2,_,a4,a5⟩:=own_row H.es hwe h1;rw[hel]at a1;exact⟨idV,csV,P,a1,a2,a4,a5⟩
 have hV:=own_form H.es;rw[hel]at hV;have e5:fitI .i64 ((pre.length:Int)+1)=(pre.length:Int)+1:=fit_i64 (by omega) (by omega);have hb1:(h++[Blk.row (encC c)])[h.length]?=some (.row (encC c)):=by simp
 cases hA:g.edges.any (touS c.a)
 ·rw[if_neg (by simp)];rw[call_inl3 (n:=n+5) (fun i=>i==5||i==10||i==22) ⟨Tryz.f162.ntmps,(Tryz.f162.body).getD .skip,[]⟩ rfl (by kernel_rfl) (by kernel_rfl) (by kernel_rfl) (by kernel_rfl) (by simp[Tryz.f162])];obtain⟨V0,hV0⟩:∃V0,V0=V:=⟨V,rfl⟩;rw[←hV0]at hVr;have hns0:=hns;subst hN
  suffices HH:∃h',finX ([]:List Rv) (exec3 cx (callN cx (n+5)) (fun i=>i==5||i==10||i==22) ((Tryz.f162.body).getD .skip) ([.pt E 0,.ag (encC c)]++List.replicate (Tryz.f162.ntmps-2) .un,h))=some (.tp [],h')∧DoneG h tag E {g with nodes:=pre++post} h' by
   obtain⟨h',a1,tag',N',V',nr',er',a2,a3⟩:=HH;exact⟨h',tag',N',V',nr',er',a1,a2,a3⟩
  rcases hV with⟨h0,rfl⟩|⟨h0,rfl⟩|⟨idV,rfl⟩
  all_goals
   simp[Tryz.f162,f1,f2,hk,hE0,hid0,hpl];refine loop3_up (C:=cx) (G:=fun r=>∃h',finX _ (blockX _ (then3 _ _ _ (blockX _ r) _))=some (_,h')∧DoneG _ _ _ _ h')
    (fun i s=>i≤g.edges.length∧s.1.length=183∧gt s.1 0= .pt E 0∧gt s.1 3= .pt h.length 0∧gt s.1 4= .sc (.int .i64 pre.length)∧gt s.1 91=V0∧gt s.1 92= .sc (.int .i64 g.edges.length)∧gt s.1 93= .sc (.int .i64 i)∧∃tt,Frm h tag s.2 tt (fun _=>False)∧s.2[h.length]?=some (.row (encC c)))
    (fun o s=>o= .exit 1∧s.1.length=183∧gt s.1 0= .pt E 0∧gt s.1 3= .pt h.length 0∧gt s.1 4= .sc (.int .i64 pre.length)∧∃tt,Frm h tag s.2 tt (fun _=>False)∧s.2[h.length]?=some (.row (encC c))) g.edges.length (by simp;omega) ?_ ?_ ?_
   ·refine⟨by omega,rfl,rfl,rfl,rfl,hV0.symm,?_,rfl,_,fr1,hb1⟩
    first|rfl|(rw[h0];rfl)
   ·rintro i fr hp hle' ⟨hle2,hlen,g0,g3,g4,g91,g92,g93,tt,hF,hc⟩;simp only at hlen g0 g3 g4 g91 g92 g93 hF hc;by_cases hi:i<g.edges.length
    ·obtain⟨e,he⟩:∃e,g.edges[i]?=some e:=⟨_,Zb hi⟩;obtain⟨idW,csV,P',hVe,v1,v2,v3⟩:=hVr i e he;rw[hVe]at g91;have v1':=(hF idW _ v1 (fun q=>q)).1;have hno:touS c.a e=false:=by
      have:=List.any_eq_false.1 hA e (Zi he);simpa using this
     unfold touS at hno;rw[Bool.or_eq_false_iff,decide_eq_false_iff_not,decide_eq_false_iff_not]at hno;obtain⟨t1,t2⟩:=hno;have hf:=fit_succ (i:=i) (by omega);have hhl:=(Za.1 hc).1;have hc':∀y,(hp++y)[h.length]?=some (.row (encC c)):=fun y=>by rw[Zd hhl];exact hc
     simp[hlen,g0,g3,g4,g91,g92,g93,hi,v1',v2,v3,hc',f2,t1,t2,hf,splice];exact⟨hi,hVe.symm,_,hF.trans (Frm.push _ _ _ .none _) (fun _ q=>q) (fun _ q=>q)⟩
    ·simp[hlen,g0,g3,g4,g91,g92,g93,hi];exact⟨⟨tt,hF⟩,hc⟩
   ·rintro o fr hp hn ⟨rfl,hlen,g0,g3,g4,tt,hF,hc⟩;simp only at hlen g0 g3 g4 hF hc;have kE:=hF E _ H.box (fun q=>q);have hnsF:=hns0.frm hF (fun q=>q);obtain⟨x',h3,d1,d2,d3⟩:=own_del del_Node hnsF hw (by rw[hlen0];omega) (n+4) true;rw[ha1.1]at d1;have q2:=fun(cal:Cal) (ops:Array Oper) (d:Tmp) (rest:List Oper) (fr:List AV) (h:Hp)=>opP_np (C:=cx) (cal:=cal) (ops:=ops) (fun v=>d2.np v) d rest fr h
    have cX:=d2.cls;unfold cls at cX;have kE3:=d3 E _ kE.1 (by rw[kE.2,H.tb];simp);have kEl:=(Za.1 kE3.1).1;have fr3:=fun y=>Frm.set h3 tt E (.row y) (S:=fun t=>t= .box) (kE.2.trans H.tb)
    simp[hlen,g0,g3,g4,kE.1,e5,d1,q2,kE3.1,cX,splice];refine⟨tt,x',_,r1++r3,er,{
     box:=Zj kEl
     tb:=kE.2.trans H.tb
     ns:=d2.frm (fr3 _) (by simp)
     es:=((H.es.frm hF (fun q=>q)).frm d3 (by simp)).frm (fr3 _) (by simp)
     na:=((ha1.imp fun a ha r q=>((q.frm hF (fun q=>q) (fun q=>q)).frm d3 (by simp) (by simp)).frm (fr3 _) (by simp) (by simp)).app (ha3.imp fun a ha r q=>((q.frm hF (fun q=>q) (fun q=>q)).frm d3 (by simp) (by simp)).frm (fr3 _) (by simp) (by simp)))
     ea:=H.ea.imp fun a _ r q=>((q.frm hF (fun q=>q)).frm d3 (by simp)).frm (fr3 _) (by simp)},?_⟩
    exact(hF.trans d3 (S2:=fun t=>t≠ .none) (fun _ q=>q.elim) (fun _ q=>by rw[q];simp)).trans (fr3 _) (fun _ q=>q) (fun _ q=>by rw[q];simp)
 ·rw[if_pos rfl];rw[call_inl3 (n:=n+5) (fun i=>i==5||i==10||i==22) ⟨Tryz.f162.ntmps,(Tryz.f162.body).getD .skip,[]⟩ rfl (by kernel_rfl) (by kernel_rfl) (by kernel_rfl) (by kernel_rfl) (by simp[Tryz.f162])];obtain⟨V0,hV0⟩:∃V0,V0=V:=⟨V,rfl⟩;rw[←hV0]at hVr;subst hN
  suffices HH:∃h',finX ([]:List Rv) (exec3 cx (callN cx (n+5)) (fun i=>i==5||i==10||i==22) ((Tryz.f162.body).getD .skip) ([.pt E 0,.ag (encC c)]++List.replicate (Tryz.f162.ntmps-2) .un,h))=some (.pn (.iface 215 (.int .i64 12)),h')∧DoneE h tag h' by
   obtain⟨h',a1,tag',a2⟩:=HH;exact⟨h',tag',a1,a2⟩
  rcases hV with⟨h0,rfl⟩|⟨h0,rfl⟩|⟨idV,rfl⟩
  all_goals
   simp[Tryz.f162,f1,f2,hk,hE0,hid0,hpl];refine loop3_up (C:=cx) (G:=fun r=>∃h',finX _ (blockX _ (then3 _ _ _ (blockX _ r) _))=some (_,h')∧DoneE _ _ h')
    (fun i s=>(∀(j:Nat) (e:Ed),j<i→g.edges[j]?=some e→touS c.a e=false)∧i≤g.edges.length∧s.1.length=183∧gt s.1 0= .pt E 0∧gt s.1 3= .pt h.length 0∧gt s.1 4= .sc (.int .i64 pre.length)∧gt s.1 91=V0∧gt s.1 92= .sc (.int .i64 g.edges.length)∧gt s.1 93= .sc (.int .i64 i)∧∃tt,Frm h tag s.2 tt (fun _=>False)∧s.2[h.length]?=some (.row (encC c)))
    (fun o s=>o= .pan (.iface 215 (.int .i64 12))∧∃tt,Frm h tag s.2 tt (fun _=>False)) g.edges.length (by simp;omega) ?_ ?_ ?_
   ·refine⟨fun j e hj=>absurd hj (Nat.not_lt_zero j),by omega,rfl,rfl,rfl,rfl,hV0.symm,?_,rfl,_,fr1,hb1⟩
    first|rfl|(rw[h0];rfl)
   ·rintro i fr hp hle' ⟨hpast,hle2,hlen,g0,g3,g4,g91,g92,g93,tt,hF,hc⟩;simp only at hlen g0 g3 g4 g91 g92 g93 hF hc;by_cases hi:i<g.edges.length
    ·obtain⟨e,he⟩:∃e,g.edges[i]?=some e:=⟨_,Zb hi⟩;obtain⟨idW,csV,P',hVe,v1,v2,v3⟩:=hVr i e he;rw[hVe]at g91;have v1':=(hF idW _ v1 (fun q=>q)).1;have hf:=fit_succ (i:=i) (by omega);have hhl:=(Za.1 hc).1;have hc':∀y,(hp++y)[h.length]?=some (.row (encC c)):=fun y=>by rw[Zd hhl];exact hc
     have hfr:=fun r=>hF.trans (Frm.push hp tt (.row r) .none (fun _=>False)) (S2:=fun _=>False) (fun _ q=>q) (fun _ q=>q)
     by_cases t1:e.src=c.a
     ·simp[hlen,g0,g3,g4,g91,g92,g93,hi,v1',v2,v3,hc',f2',t1,hf,splice];exact⟨_,hfr _⟩
     ·by_cases t2:e.dst=c.a
      ·simp[hlen,g0,g3,g4,g91,g92,g93,hi,v1',v2,v3,hc',f2',t1,t2,hf,splice];exact⟨_,hfr _⟩
      ·have hpast':∀(j:Nat) (e:Ed),j<i+1→g.edges[j]?=some e→touS c.a e=false:=fun j e' hj he'=>by
        rcases Nat.lt_or_ge j i with q|q
        ·exact hpast j e' q he'
        ·have:j=i:=Nat.le_antisymm (Nat.le_of_lt_succ hj) q;subst this;rw[he]at he';cases he';unfold touS;rw[decide_eq_false t1,decide_eq_false t2];rfl
       simp[hlen,g0,g3,g4,g91,g92,g93,hi,v1',v2,v3,hc',f2,t1,t2,hf,splice];exact⟨hpast',hi,hVe.symm,_,hfr _⟩
    ·exfalso;have:g.edges.any (touS c.a)=false:=tou_any fun j e hj he=>hpast j e (Yl hj (Yb hi)) he
     rw[hA]at this;cases this
   ·rintro o fr hp hn ⟨rfl,tt,hF⟩;simp only at hF;simp;exact⟨tt,fun i b q1 q2=>hF i b q1 (fun q=>q)⟩
theorem ed_edges_6a (n:Nat)(b:Bool)(E:Nat)(g:Gr)(c:Ch)(N V:AV)(nr er:List (List AV))(tag:Nat→Tg)(h:Hp)(pre post:List Ed)(m:Ed)(H:RepG h tag E g N V nr er)(hs:Spl (ltE c.a) (eqE c.a) g.edges pre [m] post)(hl:g.edges.length≤4000)(hln:g.nodes.length≤2000)(hk:c.k=6):
 ∃h' tag',callN cx (n+6) b 163 [.pt E 0,.ag (encC c)] h=some (.pn (.iface 215 (.int .i64 7)),h')∧Fo h tag h' tag':=by
 have hEl:=(Za.1 H.box).1;have f1:=fun bb=>ed_edge n bb E g N V nr er _ _ c.a pre [m] post (repG_box H (encC c)) (by omega) hs
 simp only[List.isEmpty_cons,Bool.not_false]at f1;have f2:=must_ok (n+4);have f2':=must_no (n+4);have hE0:∀y,(h++y)[E]?=some (.row [N,V,.sc (.int .i64 g.nn),.sc (.int .i64 g.ne)]):=fun y=>by rw[Zd hEl];exact H.box
 have hb1:(h++[Blk.row (encC c)])[h.length]?=some (.row (encC c)):=by simp
 have fr1:=Frm.push h tag (.row (encC c)) .none (fun _=>False);rw[call_inl3 (n:=n+5) (fun i=>i==4||i==11) ⟨Tryz.f163.ntmps,(Tryz.f163.body).getD .skip,[]⟩ rfl (by kernel_rfl) (by kernel_rfl) (by kernel_rfl) (by kernel_rfl) (by simp[Tryz.f163])];refine⟨_,_,?_,Frm.push h tag (.row (encC c)) .none _⟩;simp[Tryz.f163,f1,f2',hk]
theorem ed_edges_e0 (n:Nat)(b:Bool)(E:Nat)(g:Gr)(c:Ch)(N V:AV)(nr er:List (List AV))(tag:Nat→Tg)(h:Hp)(pre post:List Ed)(H:RepG h tag E g N V nr er)(hs:Spl (ltE c.a) (eqE c.a) g.edges pre [] post)(hl:g.edges.length≤4000)(hln:g.nodes.length≤2000)(hk:¬c.k=6):
 ∃h' tag',callN cx (n+6) b 163 [.pt E 0,.ag (encC c)] h=some (.pn (.iface 215 (.int .i64 11)),h')∧Fo h tag h' tag':=by
 have hEl:=(Za.1 H.box).1;have f1:=fun bb=>ed_edge n bb E g N V nr er _ _ c.a pre [] post (repG_box H (encC c)) (by omega) hs
 simp only[List.isEmpty_nil,Bool.not_true]at f1;have f2:=must_ok (n+4);have f2':=must_no (n+4);have hE0:∀y,(h++y)[E]?=some (.row [N,V,.sc (.int .i64 g.nn),.sc (.int .i64 g.ne)]):=fun y=>by rw[Zd hEl];exact H.box
 have hb1:(h++[Blk.row (encC c)])[h.length]?=some (.row (encC c)):=by simp
 have fr1:=Frm.push h tag (.row (encC c)) .none (fun _=>False);rw[call_inl3 (n:=n+5) (fun i=>i==4||i==11) ⟨Tryz.f163.ntmps,(Tryz.f163.body).getD .skip,[]⟩ rfl (by kernel_rfl) (by kernel_rfl) (by kernel_rfl) (by kernel_rfl) (by simp[Tryz.f163])];refine⟨_,_,?_,Frm.push h tag (.row (encC c)) .none _⟩;by_cases k7:c.k=7
 ·simp[Tryz.f163,f1,f2',hk,k7]
 ·simp[Tryz.f163,f1,f2',hk,k7]
theorem ed_edges_6b (n:Nat)(b:Bool)(E:Nat)(g:Gr)(c:Ch)(N V:AV)(nr er:List (List AV))(tag:Nat→Tg)(h:Hp)(pre post:List Ed)(pb mb qb pc mc qc:List Nd)(hsb:Spl (ltN c.b) (eqN c.b) g.nodes pb mb qb)(hsc:Spl (ltN c.c) (eqN c.c) g.nodes pc mc qc)(H:RepG h tag E g N V nr er)(hs:Spl (ltE c.a) (eqE c.a) g.edges pre [] post)(hl:g.edges.length≤4000)(hln:g.nodes.length≤2000)(hk:c.k=6)(hm:((!mb.isEmpty) && (!mc.isEmpty))=false):
 ∃h' tag',callN cx (n+6) b 163 [.pt E 0,.ag (encC c)] h=some (.pn (.iface 215 (.int .i64 10)),h')∧Fo h tag h' tag':=by
 have hEl:=(Za.1 H.box).1;have f1:=fun bb=>ed_edge n bb E g N V nr er _ _ c.a pre [] post (repG_box H (encC c)) (by omega) hs
 simp only[List.isEmpty_nil,Bool.not_true]at f1;have f2:=must_ok (n+4);have f2':=must_no (n+4);have hE0:∀y,(h++y)[E]?=some (.row [N,V,.sc (.int .i64 g.nn),.sc (.int .i64 g.ne)]):=fun y=>by rw[Zd hEl];exact H.box
 have hb1:(h++[Blk.row (encC c)])[h.length]?=some (.row (encC c)):=by simp
 have fr1:=Frm.push h tag (.row (encC c)) .none (fun _=>False);have f4:=fun bb=>ed_node n bb E g N V nr er _ _ c.b pb mb qb (repG_box H (encC c)) (by omega) hsb
 have f5:=fun bb=>ed_node n bb E g N V nr er _ _ c.c pc mc qc (repG_box H (encC c)) (by omega) hsc
 rw[call_inl3 (n:=n+5) (fun i=>i==4||i==11) ⟨Tryz.f163.ntmps,(Tryz.f163.body).getD .skip,[]⟩ rfl (by kernel_rfl) (by kernel_rfl) (by kernel_rfl) (by kernel_rfl) (by simp[Tryz.f163])];refine⟨_,_,?_,Frm.push h tag (.row (encC c)) .none _⟩;generalize(!mb.isEmpty)=B at *;generalize(!mc.isEmpty)=B' at *;cases B
 ·simp[Tryz.f163,f1,f2,f2',f4,f5,hk]
 ·have:B'=false:=by simpa using hm
  subst this;simp[Tryz.f163,f1,f2,f2',f4,f5,hk]
theorem ed_edges_6c (n:Nat)(b:Bool)(E:Nat)(g:Gr)(c:Ch)(N V:AV)(nr er:List (List AV))(tag:Nat→Tg)(h:Hp)(pre post:List Ed)(pb mb qb pc mc qc:List Nd)(hsb:Spl (ltN c.b) (eqN c.b) g.nodes pb mb qb)(hsc:Spl (ltN c.c) (eqN c.c) g.nodes pc mc qc)(H:RepG h tag E g N V nr er)(hs:Spl (ltE c.a) (eqE c.a) g.edges pre [] post)(hl:g.edges.length≤4000)(hln:g.nodes.length≤2000)(hk:c.k=6)(hm:((!mb.isEmpty) && (!mc.isEmpty))=true)(hf:4000≤g.edges.length):
 ∃h' tag',callN cx (n+6) b 163 [.pt E 0,.ag (encC c)] h=some (.pn (.iface 215 (.int .i64 20)),h')∧Fo h tag h' tag':=by
 have hEl:=(Za.1 H.box).1;have f1:=fun bb=>ed_edge n bb E g N V nr er _ _ c.a pre [] post (repG_box H (encC c)) (by omega) hs
 simp only[List.isEmpty_nil,Bool.not_true]at f1;have f2:=must_ok (n+4);have f2':=must_no (n+4);have hE0:∀y,(h++y)[E]?=some (.row [N,V,.sc (.int .i64 g.nn),.sc (.int .i64 g.ne)]):=fun y=>by rw[Zd hEl];exact H.box
 have hb1:(h++[Blk.row (encC c)])[h.length]?=some (.row (encC c)):=by simp
 have fr1:=Frm.push h tag (.row (encC c)) .none (fun _=>False);have f4:=fun bb=>ed_node n bb E g N V nr er _ _ c.b pb mb qb (repG_box H (encC c)) (by omega) hsb
 have f5:=fun bb=>ed_node n bb E g N V nr er _ _ c.c pc mc qc (repG_box H (encC c)) (by omega) hsc
 rw[call_inl3 (n:=n+5) (fun i=>i==4||i==11) ⟨Tryz.f163.ntmps,(Tryz.f163.body).getD .skip,[]⟩ rfl (by kernel_rfl) (by kernel_rfl) (by kernel_rfl) (by kernel_rfl) (by simp[Tryz.f163])];refine⟨_,_,?_,Frm.push h tag (.row (encC c)) .none _⟩;rw[Zh]at hm;rw[hm.1]at f4;rw[hm.2]at f5;have hV:=own_form H.es;rw[H.ea.1]at hV;have c8:¬(g.edges.length:Int)<4000:=by omega
 rcases hV with⟨h0,rfl⟩|⟨h0,rfl⟩|⟨id,rfl⟩
 ·omega
 ·omega
 ·simp[Tryz.f163,f1,f2,f2',f4,f5,hk,hE0,c8]
theorem ed_edges_6d (n:Nat)(b:Bool)(E:Nat)(g:Gr)(c:Ch)(N V:AV)(nr er:List (List AV))(tag:Nat→Tg)(h:Hp)(pre post:List Ed)(pb mb qb pc mc qc:List Nd)(hsb:Spl (ltN c.b) (eqN c.b) g.nodes pb mb qb)(hsc:Spl (ltN c.c) (eqN c.c) g.nodes pc mc qc)(H:RepG h tag E g N V nr er)(hs:Spl (ltE c.a) (eqE c.a) g.edges pre [] post)(hl:g.edges.length≤4000)(hln:g.nodes.length≤2000)(hk:c.k=6)(hm:((!mb.isEmpty) && (!mc.isEmpty))=true)(hid:1≤c.a∧c.a≤1000000)(hf:g.edges.length<4000):
 ∃h' tag' N' V' nr' er',callN cx (n+6) b 163 [.pt E 0,.ag (encC c)] h=some (.tp [],h')∧RepG h' tag' E (putGE g pre post ⟨c.a,c.b,c.c,c.name,[]⟩) N' V' nr' er'∧Fo h tag h' tag':=by
 have hEl:=(Za.1 H.box).1;have f1:=fun bb=>ed_edge n bb E g N V nr er _ _ c.a pre [] post (repG_box H (encC c)) (by omega) hs
 simp only[List.isEmpty_nil,Bool.not_true]at f1;have f2:=must_ok (n+4);have f2':=must_no (n+4);have hE0:∀y,(h++y)[E]?=some (.row [N,V,.sc (.int .i64 g.nn),.sc (.int .i64 g.ne)]):=fun y=>by rw[Zd hEl];exact H.box
 have hb1:(h++[Blk.row (encC c)])[h.length]?=some (.row (encC c)):=by simp
 have fr1:=Frm.push h tag (.row (encC c)) .none (fun _=>False);have f4:=fun bb=>ed_node n bb E g N V nr er _ _ c.b pb mb qb (repG_box H (encC c)) (by omega) hsb
 have f5:=fun bb=>ed_node n bb E g N V nr er _ _ c.c pc mc qc (repG_box H (encC c)) (by omega) hsc
 rw[Zh]at hm;rw[hm.1]at f4;rw[hm.2]at f5;have fr2:Frm h tag (h++[.row (encC c)]++[.row [.sc (.int .i64 c.a),.sc (.int .i64 c.b),.sc (.int .i64 c.c),.sc (.string c.name),.sc (.slice none 0 0)]]) (tagU (tagU tag h.length .none) (h.length+1) .none) (fun _=>False):=by
  have b:=Frm.push (h++[.row (encC c)]) (tagU tag h.length .none) (.row [.sc (.int .i64 c.a),.sc (.int .i64 c.b),.sc (.int .i64 c.c),.sc (.string c.name),.sc (.slice none 0 0)]) .none (fun _=>False);rw[Zu]at b;exact fr1.trans b (fun _ q=>q) (fun _ q=>q)
 have H2:RepG (h++[.row (encC c)]++[.row [.sc (.int .i64 c.a),.sc (.int .i64 c.b),.sc (.int .i64 c.c),.sc (.string c.name),.sc (.slice none 0 0)]]) (tagU (tagU tag h.length .none) (h.length+1) .none) E g N V nr er:=H.frm (fun id b h1 _=>fr2 id b h1 (fun q=>q));have hb2:(h++[.row (encC c)]++[.row [.sc (.int .i64 c.a),.sc (.int .i64 c.b),.sc (.int .i64 c.c),.sc (.string c.name),.sc (.slice none 0 0)]])[h.length]?=some (.row (encC c)):=by simp
 have hv2:(h++[.row (encC c)]++[.row [.sc (.int .i64 c.a),.sc (.int .i64 c.b),.sc (.int .i64 c.c),.sc (.string c.name),.sc (.slice none 0 0)]])[h.length+1]?=some (.row [.sc (.int .i64 c.a),.sc (.int .i64 c.b),.sc (.int .i64 c.c),.sc (.string c.name),.sc (.slice none 0 0)]):=by rw[Zf (by simp)];simp
 generalize hH2:h++[.row (encC c)]++[.row [.sc (.int .i64 c.a),.sc (.int .i64 c.b),.sc (.int .i64 c.c),.sc (.string c.name),.sc (.slice none 0 0)]]=h2 at *;generalize hT2:tagU (tagU tag h.length .none) (h.length+1) .none=t2 at *;have hna:=H2.ea;rw[hs.e,Yo]at hna;obtain⟨r1,r2,hrr,ha1,ha2⟩:=hna.split;have hns:=H2.es;rw[hrr]at hns;have hw:=H2.ea.all (P:=fun r=>r.length=5) (fun a r q=>q.len);rw[hrr]at hw;have hgl:g.edges.length=pre.length+post.length:=by rw[hs.e];simp
 obtain⟨x',h3,t3,g1,g2,g3⟩:=own_ins (bytes:=64) (k:=false) hns hw hv2 rfl (by rw[←hT2,tagU_self];simp) (by rw[Zu,ha1.1,ha2.1];omega) (by omega);rw[ha1.1]at g1;have f3:=fun bb=>(ins_Edge (n+4) bb _ _).trans g1
 have q2':=fun(cal:FuncId→List AV→Hp→Option (AV × Hp)) (ops:Array Oper) (d:Tmp) (rest:List Oper) (fr:List AV) (h:Hp)=>opN_np (C:=cx) (cal:=cal) (ops:=ops) (fun v=>g2.np v) d rest fr h
 have eN:=own_eqA H.es;have cN:=g2.cls;unfold cls at cN;have hE2:=H2.box;have kE3:=g3 E _ hE2 (by rw[H2.tb];simp);have hE3:=kE3.1;have hb3:=(g3 h.length _ hb2 (by rw[←hT2,tagU_lt (by omega),tagU_self];simp)).1;have hEl3:=(Za.1 hE3).1;have hs3:∀y,(h3.set E y)[E]?=some y:=fun y=>Zj hEl3
 have hs3':∀y,(h3.set E y)[h.length]?=some (.row (encC c)):=fun y=>by rw[Zq (by omega)];exact hb3
 have e1:fitI .i64 (c.a+1)=c.a+1:=fit_i64 (by omega) (by omega);have hmx:(if g.ne<c.a+1 then c.a+1 else g.ne)=max g.ne (c.a+1):=by split<;>omega
 have hV:=own_form H.es;rw[H.ea.1]at hV;have hl':(g.edges.length:Int)<4000:=by omega
 have fr:Frm h3 t3 (h3.set E (.row [N,x',.sc (.int .i64 g.nn),.sc (.int .i64 (max g.ne (c.a+1)))])) t3 (fun t=>t= .box):=Frm.set h3 t3 E _ (kE3.2.trans H2.tb);refine⟨h3.set E (.row [N,x',.sc (.int .i64 g.nn),.sc (.int .i64 (max g.ne (c.a+1)))]),t3,N,x',nr,r1++[[.sc (.int .i64 c.a),.sc (.int .i64 c.b),.sc (.int .i64 c.c),.sc (.string c.name),.sc (.slice none 0 0)]]++r2,?_,{
  box:=hs3 _
  tb:=kE3.2.trans H2.tb
  ns:=(H2.ns.frm g3 (by simp)).frm fr (by simp)
  es:=g2.frm fr (by simp)
  na:=H2.na.imp fun a _ r h1=>(h1.frm g3 (by simp) (by simp)).frm fr (by simp) (by simp)
  ea:=by
   have e:(putGE g pre post ⟨c.a,c.b,c.c,c.name,[]⟩).edges=pre++[⟨c.a,c.b,c.c,c.name,[]⟩]++post:=by simp[putGE]
   rw[e];exact((ha1.imp fun a _ r h1=>(h1.frm g3 (by simp)).frm fr (by simp)).app (AllR.one ⟨_,rfl,.inl ⟨rfl,.inr rfl⟩⟩)).app (ha2.imp fun a _ r h1=>(h1.frm g3 (by simp)).frm fr (by simp))},
  (fr2.trans g3 (S2:=fun t=>t≠ .none) (fun _ q=>q.elim) (fun _ q=>by rw[q];simp)).trans fr (fun _ q=>q) (fun _ q=>by rw[q];simp)⟩
 subst hH2;simp only[Zp,Zv,Zw]at f3;rw[call_inl3 (n:=n+5) (fun i=>i==4||i==11) ⟨Tryz.f163.ntmps,(Tryz.f163.body).getD .skip,[]⟩ rfl (by kernel_rfl) (by kernel_rfl) (by kernel_rfl) (by kernel_rfl) (by simp[Tryz.f163])];rcases hV with⟨h0,rfl⟩|⟨h0,rfl⟩|⟨id,rfl⟩
 all_goals
  simp[Tryz.f163,f1,f2,f4,f5,hk,hE0,hl'];rw[mix_at (j:=5) (m:=17) ?_ ?_ ?_ ?_]
  rotate_left
  ·kernel_rfl
  ·simp
  ·rfl
  ·simp
  simp[f3,hE0,eN,q2',splice,hE3,cN,hs3,hs3',e1,hmx]
end
end Go.Proofs.YtadaeokidcgdlaaGreatDoor
