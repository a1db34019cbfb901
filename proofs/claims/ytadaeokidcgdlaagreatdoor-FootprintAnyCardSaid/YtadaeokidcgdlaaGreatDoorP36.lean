/- The editor's change of edges: left out; a property set. -/
import Derived.Test.YtadaeokidcgdlaaGreatDoorP35
set_option linter.unusedSimpArgs false
set_option maxRecDepth 100000
set_option linter.unusedVariables false
namespace Go.Proofs.YtadaeokidcgdlaaGreatDoor
open Go Go.Ae
section
attribute [local simp] aop aopW coldF extF putA ofConst flat scalarOp fastOp binFast intOp strOp guardX Ae.part rowOf szOk natOf lenA cls fillA newsOf isNilC cellX
set_option maxHeartbeats 32000000
theorem splE_ne {x:Int}{l pre post:List Ed}{m:Ed}(hs:Spl (ltE x) (eqE x) l pre [m] post):∀a∈pre++post,a.id≠m.id:=fun a ha e=>by
 have hm:=(hs.m m (by simp)).2;unfold eqE at hm;rw[Zz]at hm;have:eqE x a=false:=by
  rcases Ya.1 ha with q|q
  ·exact(hs.p a q).2
  ·exact(hs.q a q).2
 unfold eqE at this;rw[decide_eq_false_iff_not]at this;exact this (e.trans hm)
theorem ed_edges_7 (n:Nat)(b:Bool)(E:Nat)(g:Gr)(c:Ch)(N V:AV)(nr er:List (List AV))(tag:Nat→Tg)(h:Hp)(pre post:List Ed)(m:Ed)(H:RepG h tag E g N V nr er)(hs:Spl (ltE c.a) (eqE c.a) g.edges pre [m] post)(hl:g.edges.length≤4000)(hk:c.k=7):
 ∃h' tag' N' V' nr' er',callN cx (n+6) b 163 [.pt E 0,.ag (encC c)] h=some (.tp [],h')∧RepG h' tag' E {g with edges:=pre++post} N' V' nr' er'∧Fo h tag h' tag':=by
 have hEl:=(Za.1 H.box).1;have f1:=fun bb=>ed_edge n bb E g N V nr er _ _ c.a pre [m] post (repG_box H (encC c)) (by omega) hs
 simp only[List.isEmpty_cons,Bool.not_false]at f1;have f2:=must_ok (n+4);have f2':=must_no (n+4);have hE0:∀y,(h++y)[E]?=some (.row [N,V,.sc (.int .i64 g.nn),.sc (.int .i64 g.ne)]):=fun y=>by rw[Zd hEl];exact H.box
 have hb1:(h++[Blk.row (encC c)])[h.length]?=some (.row (encC c)):=by simp
 have fr1:=Frm.push h tag (.row (encC c)) .none (fun _=>False);have hna:=H.ea;rw[hs.e]at hna;obtain⟨r12,r3,hr,ha12,ha3⟩:=hna.split;obtain⟨r1,r2,hr',ha1,ha2⟩:=ha12.split;subst hr';obtain⟨r,rfl⟩:∃r,r2=[r]:=List.length_eq_one_iff.1 ha2.1;obtain⟨P,rfl,o2⟩:=ha2.2 0 m r rfl rfl;have hns:=H.es;rw[hr]at hns;have hw:=H.ea.all (P:=fun r=>r.length=5) (fun a r q=>q.len);rw[hr]at hw;obtain⟨id,cs,hN,hid,hti,_,hcl,hce⟩:=own_cell hns hw;have hP:=hce 4 P rfl;have hgl:g.edges.length=pre.length+1+post.length:=by rw[hs.e];simp;omega
 have hlen:(r1++[[.sc (.int .i64 m.id),.sc (.int .i64 m.src),.sc (.int .i64 m.dst),.sc (.string m.type),P]]++r3).length=pre.length+1+post.length:=by simp[ha1.1,ha3.1];omega
 rw[ha1.1]at hP;have hns1:=hns.frm fr1 (fun q=>q);obtain⟨x',h3,d1,d2,d3⟩:=own_del del_Edge hns1 hw (by rw[hlen];omega) (n+4) true;rw[ha1.1]at d1;have qV:=fun(cal:Cal) (ops:Array Oper) (d:Tmp) (rest:List Oper) (fr:List AV) (h:Hp)=>opP_np (C:=cx) (cal:=cal) (ops:=ops) (fun v=>H.es.np v) d rest fr h
 have q2:=fun(cal:Cal) (ops:Array Oper) (d:Tmp) (rest:List Oper) (fr:List AV) (h:Hp)=>opP_np (C:=cx) (cal:=cal) (ops:=ops) (fun v=>d2.np v) d rest fr h
 have cX:=d2.cls;unfold cls at cX;have kE:=fr1 E _ H.box (fun q=>q);have kE3:=d3 E _ kE.1 (by rw[kE.2,H.tb];simp);have kEl:=(Za.1 kE3.1).1;have fr3:=fun y=>Frm.set h3 (tagU tag h.length .none) E (.row y) (S:=fun t=>t= .box) (kE3.2.trans (kE.2.trans H.tb))
 refine⟨h3.set E (.row [N,x',.sc (.int .i64 g.nn),.sc (.int .i64 g.ne)]),_,N,x',nr,r1++r3,?_,{
  box:=Zj kEl
  tb:=kE3.2.trans (kE.2.trans H.tb)
  ns:=((H.ns.frm fr1 (fun q=>q)).frm d3 (by simp)).frm (fr3 _) (by simp)
  es:=d2.frm (fr3 _) (by simp)
  na:=H.na.imp fun a _ r q=>((q.frm fr1 (fun q=>q) (fun q=>q)).frm d3 (by simp) (by simp)).frm (fr3 _) (by simp) (by simp)
  ea:=((ha1.imp fun a ha r q=>((q.frm fr1 (fun q=>q)).frm d3 (by simp)).frm (fr3 _) (by simp)).app (ha3.imp fun a ha r q=>((q.frm fr1 (fun q=>q)).frm d3 (by simp)).frm (fr3 _) (by simp)))},
  (fr1.trans d3 (S2:=fun t=>t≠ .none) (fun _ q=>q.elim) (fun _ q=>by rw[q];simp)).trans (fr3 _) (fun _ q=>q) (fun _ q=>by rw[q];simp)⟩
 have e5:fitI .i64 ((pre.length:Int)+1)=(pre.length:Int)+1:=fit_i64 (by omega) (by omega);rw[call_inl3 (n:=n+5) (fun i=>i==4||i==11) ⟨Tryz.f163.ntmps,(Tryz.f163.body).getD .skip,[]⟩ rfl (by kernel_rfl) (by kernel_rfl) (by kernel_rfl) (by kernel_rfl) (by simp[Tryz.f163])];simp[Tryz.f163,f1,f2,hk,hE0,e5,d1,qV,q2,kE3.1,cX,splice]
theorem ed_edges_8 (n D:Nat)(b:Bool)(E:Nat)(g:Gr)(c:Ch)(N V:AV)(nr er:List (List AV))(tag:Nat→Tg)(h:Hp)(pre post:List Ed)(m:Ed)(H:RepG h tag E g N V nr er)(hs:Spl (ltE c.a) (eqE c.a) g.edges pre [m] post)(hl:g.edges.length≤4000)(pp pm pq:List Prp)(hl16:m.props.length≤16)(hpt:Spl (ltR c.name) (eqR c.name) m.props pp pm pq)(hd:dep c.v≤D)(hv:bdV c.v)(hk:c.k≠6∧c.k≠7):
 if(setL c.name c.v pp pq).length≤16 then∃h' tag' N' V' nr' er',callN cx (n+2*D+10) b 163 [.pt E 0,.ag (encC c)] h=some (.tp [],h')∧RepG h' tag' E {g with edges:=pre++[{m with props:=setL c.name c.v pp pq}]++post} N' V' nr' er'∧Fo h tag h' tag' else∃h' tag',callN cx (n+2*D+10) b 163 [.pt E 0,.ag (encC c)] h=some (.pn (.iface 215 (.int .i64 20)),h')∧Fo h tag h' tag':=by
 have hEl:=(Za.1 H.box).1;have f1:=fun bb=>ed_edge (n+2*D+4) bb E g N V nr er _ _ c.a pre [m] post (repG_box H (encC c)) (by omega) hs
 simp only[List.isEmpty_cons,Bool.not_false]at f1;have f2:=must_ok (n+2*D+8);have f2':=must_no (n+2*D+8);have hE0:∀y,(h++y)[E]?=some (.row [N,V,.sc (.int .i64 g.nn),.sc (.int .i64 g.ne)]):=fun y=>by rw[Zd hEl];exact H.box
 have hb1:(h++[Blk.row (encC c)])[h.length]?=some (.row (encC c)):=by simp
 have fr1:=Frm.push h tag (.row (encC c)) .none (fun _=>False);have hna:=H.ea;rw[hs.e]at hna;obtain⟨r12,r3,hr,ha12,ha3⟩:=hna.split;obtain⟨r1,r2,hr',ha1,ha2⟩:=ha12.split;subst hr';obtain⟨r,rfl⟩:∃r,r2=[r]:=List.length_eq_one_iff.1 ha2.1;obtain⟨P,rfl,o2⟩:=ha2.2 0 m r rfl rfl;have hns:=H.es;rw[hr]at hns;have hw:=H.ea.all (P:=fun r=>r.length=5) (fun a r q=>q.len);rw[hr]at hw;obtain⟨id,cs,hN,hid,hti,_,hcl,hce⟩:=own_cell hns hw;have hP:=hce 4 P rfl;have hgl:g.edges.length=pre.length+1+post.length:=by rw[hs.e];simp;omega
 have hlen:(r1++[[.sc (.int .i64 m.id),.sc (.int .i64 m.src),.sc (.int .i64 m.dst),.sc (.string m.type),P]]++r3).length=pre.length+1+post.length:=by simp[ha1.1,ha3.1];omega
 rw[ha1.1]at hP;have f3:=c_set n D false (o2.frm fr1 (fun q=>q)) hl16 hpt hd hv (by simp);rw[hlen]at hN hcl;have hcl2:pre.length*5+4+1≤cs.length:=by omega
 have hpl:pre.length<pre.length+1+post.length:=by omega
 have hidl:=(Za.1 hid).1;have hid0:∀y,(h++y)[id]?=some (.row cs):=fun y=>by rw[Zd hidl];exact hid
 have hne:=splE_ne hs;have qP:=fun(cal:Cal) (ops:Array Oper) (d:Tmp) (rest:List Oper) (fr:List AV) (h:Hp)=>opN_np (C:=cx) (cal:=cal) (ops:=ops) (fun v=>o2.np v) d rest fr h
 have eV:=own_eqA H.es;obtain⟨hk6,hk7⟩:=hk;split
 ·rename_i h16;rw[if_pos h16]at f3;obtain⟨x',h3,t3,g1,hx,g3⟩:=f3;have q2:=fun(cal:Cal) (ops:Array Oper) (d:Tmp) (rest:List Oper) (fr:List AV) (h:Hp)=>opN_np (C:=cx) (cal:=cal) (ops:=ops) (fun v=>hx.np v) d rest fr h
  have cX:=hx.cls;unfold cls at cX;have k2:=g3 id (.row cs) (fr1 id _ hid (fun q=>q)).1 (by rw[(fr1 id _ hid (fun q=>q)).2,hti];simp);have kE:=fr1 E _ H.box (fun q=>q);have kE3:=(g3 E _ kE.1 (by rw[kE.2,H.tb];simp)).1;obtain⟨er',hG,hF⟩:=put_eprop H hs.e hne hN hid hx (fr1.trans g3 (fun _ q=>q.elim) (fun _ q=>q));refine⟨_,_,_,_,_,_,?_,hG,fun i bl q1 q2=>hF i bl q1 (by rintro(q|q)<;>(rw[q]at q2;simp at q2))⟩;subst hN;rw[call_inl3 (n:=n+2*D+9) (fun i=>i==4||i==11) ⟨Tryz.f163.ntmps,(Tryz.f163.body).getD .skip,[]⟩ rfl (by kernel_rfl) (by kernel_rfl) (by kernel_rfl) (by kernel_rfl) (by simp[Tryz.f163])];simp[Tryz.f163,f1,f2,hk6,hk7];rw[mix_atT (j:=4) (m:=20) ?_ ?_ ?_ ?_]
  rotate_left
  ·kernel_rfl
  ·simp
  ·rfl
  ·simp
  simp[hE0,hid0,hpl,hP,qP,g1,q2,splice,k2.1,kE3,cX,hcl2,eV]
 ·rename_i h16;rw[if_neg h16]at f3;obtain⟨h3,t3,g1,g3⟩:=f3;refine⟨h3,t3,?_,(fr1.trans g3 (S2:=fun t=>t≠ .none) (fun _ q=>q.elim) (fun _ q=>by rw[q];simp))⟩;have kE:=fr1 E _ H.box (fun q=>q);subst hN;rw[call_inl3 (n:=n+2*D+9) (fun i=>i==4||i==11) ⟨Tryz.f163.ntmps,(Tryz.f163.body).getD .skip,[]⟩ rfl (by kernel_rfl) (by kernel_rfl) (by kernel_rfl) (by kernel_rfl) (by simp[Tryz.f163])];simp[Tryz.f163,f1,f2,hk6,hk7];rw[mix_panB 19 [] (v:= .iface 215 (.int .i64 20)) (hP:=h3) ?_ ?_ ?_ ?_]
  rotate_left
  ·simp
  ·kernel_rfl
  ·kernel_rfl
  ·simp[hE0,hid0,hpl,hP,qP,g1,splice,eV]
  simp
end
section
attribute [local simp] aop aopW coldF extF putA ofConst flat scalarOp fastOp binFast intOp strOp guardX Ae.part rowOf szOk natOf lenA cls fillA splice newsOf isNilC cellX
set_option maxHeartbeats 8000000
structure NB (g:Gr):Prop where
 n:∀n∈g.nodes,n.id+1≤g.nn
 e:∀e∈g.edges,e.id+1≤g.ne
theorem nb_of {g:Gr}(h:graphE g=0):NB g:=by
 unfold graphE at h;split at h
 ·cases h
 ·split at h
  ·cases h
  ·split at h
   ·rename_i h2 h3;have zn:∀j,j<g.nodes.length→nodeE g j=0:=fun j hj=>scanE_zero (nodeE g) g.nodes.length 0 h3 j (by omega) (by omega)
    have ze:∀j,j<g.edges.length→edgeE g j=0:=fun j hj=>scanE_zero (edgeE g) g.edges.length 0 h j (by omega) (by omega)
    refine⟨fun n hn=>?_,fun n hn=>?_⟩
    ·obtain⟨i,hi,rfl⟩:=List.mem_iff_getElem.1 hn;have:=zn i hi;unfold nodeE at this;rw[Zb hi]at this;dsimp only at this;split at this
     ·cases this
     ·split at this
      ·cases this
      ·omega
    ·obtain⟨i,hi,rfl⟩:=List.mem_iff_getElem.1 hn;have:=ze i hi;unfold edgeE at this;rw[Zb hi]at this;dsimp only at this;split at this
     ·cases this
     ·split at this
      ·cases this
      ·omega
   ·rename_i h2 h3;exact absurd h h3
theorem partsE_keys {l:List ByteArray}{p:List Prp}(h:partsE l p=0):p.Pairwise (fun a b=>ltS a.key b.key=true):=by
 unfold partsE at h;split at h
 ·cases h
 ·split at h
  ·cases h
  ·split at h
   ·cases h
   ·rename_i h3;have h4:(risesL l && risesL (keysL p))=true:=by
     cases q:(risesL l && risesL (keysL p))with
     |true=>rfl
     |false=>exact absurd q h3
    rw[Zh]at h4;have:=rises_pair h4.2;unfold keysL at this
    rwa [List.pairwise_map]at this
theorem splR {l:List Prp}(x:ByteArray)(h:l.Pairwise fun a b=>ltS a.key b.key=true):∃p m q,Spl (ltR x) (eqR x) l p m q:=
 spl_of _ h (fun a b r q=>ltS_trans r q) (fun a b r q=>by have:=(eqS_iff _ _).1 q;subst this;exact r) (fun a q=>by
  cases e:eqR x a with
  |false=>rfl
  |true=>have:=(eqS_iff _ _).1 e;subst this;unfold ltR at q;rw[ltS_irrefl]at q;cases q)
theorem setR_setL {x:ByteArray}{v:V}{l pre mid post:List Prp}(hs:Spl (ltR x) (eqR x) l pre mid post):setR l x v=setL x v pre post:=by
 unfold setR setL;rw[putL_spl hs];cases nullS v<;>simp
theorem putG_same {g:Gr}{pre post:List Nd}{m:Nd}(h:m.id+1≤g.nn):putG g pre post m={g with nodes:=pre++[m]++post}:=by
 unfold putG;rw[show max g.nn (m.id+1)=g.nn by omega];simp
theorem putGE_same {g:Gr}{pre post:List Ed}{m:Ed}(h:m.id+1≤g.ne):putGE g pre post m={g with edges:=pre++[m]++post}:=by
 unfold putGE;rw[show max g.ne (m.id+1)=g.ne by omega];simp
def Did (h:Hp)(tag:Nat→Tg)(E:Nat)(r:Gr × Int)(x:Option (AV × Hp)):Prop:=
 if r.2=0 then∃h',x=some (.tp [],h')∧DoneG h tag E r.1 h' else∃h',x=some (.pn (.iface 215 (.int .i64 r.2)),h')∧DoneE h tag h'
theorem did_ok {h:Hp}{tag:Nat→Tg}{E:Nat}{g:Gr}{x:Option (AV × Hp)}(H:∃h' tag' N' V' nr' er',x=some (.tp [],h')∧RepG h' tag' E g N' V' nr' er'∧Fo h tag h' tag'):Did h tag E (g,0) x:=by
 unfold Did;rw[if_pos rfl];obtain⟨h',t',N',V',nr',er',a,b,c⟩:=H;exact⟨h',a,t',N',V',nr',er',b,c⟩
theorem did_no {h:Hp}{tag:Nat→Tg}{E:Nat}{g:Gr}{e:Int}(he:e≠0){x:Option (AV × Hp)}(H:∃h' tag',x=some (.pn (.iface 215 (.int .i64 e)),h')∧Fo h tag h' tag'):Did h tag E (g,e) x:=by
 unfold Did;rw[if_neg he];obtain⟨h',t',a,c⟩:=H;exact⟨h',a,t',c⟩
theorem ed_doN (n D:Nat)(b:Bool)(E:Nat)(g:Gr)(c:Ch)(N V:AV)(nr er:List (List AV))(tag:Nat→Tg)(h:Hp)(H:RepG h tag E g N V nr er)(hg:GV g)(hb:NB g)(he:changeE c=0)(hd:dep c.v≤D)(hv:bdV c.v)(hk:c.k≤5):
 Did h tag E (stepF g c) (callN cx (n+2*D+10) b 162 [.pt E 0,.ag (encC c)] h):=by
 have hid:=changeE_id he;have hkk:=changeE_kind he;obtain⟨pn,mn,qn,hs⟩:=splN c.a hg.sn;have e1:loN g.nodes c.a=pn:=spl_pre hs;have e2:hiN g.nodes c.a=qn:=spl_post hs;have hnl:=hg.nl;have hel:=hg.el;have hq:n+2*D+10=(n+2*D+4)+6:=by omega
 unfold stepF;rw[if_neg (by simp[he])];by_cases k1:c.k=1
 ·rw[if_pos k1,e1,e2,nodeAt_spl hs,hq];cases hn:mn.head? with
  |
   some m=>
   have:=head_one hn hs.one;subst this;exact did_no (by omega) (ed_nodes_1a _ b E g c N V nr er tag h pn qn m H k1 hs hnl)
  |
   none=>
   have:=head_none hn;subst this;dsimp only;by_cases hl:2000≤g.nodes.length
   ·rw[if_pos hl];exact did_no (by omega) (ed_nodes_1b _ b E g c N V nr er tag h pn qn H k1 hs hnl hl)
   ·rw[if_neg hl];exact did_ok (ed_nodes_1c _ b E g c N V nr er tag h pn qn H k1 hid hs (by omega))
 ·rw[if_neg k1,if_neg (by omega),if_neg (by omega),nodeAt_spl hs];cases hn:mn.head? with
  |
   none=>
   have:=head_none hn;subst this;rw[hq];exact did_no (by omega) (ed_nodes_n0 _ b E g c N V nr er tag h pn qn H k1 hs hnl)
  |
   some m=>
   have:=head_one hn hs.one;subst this;have hmem:m∈g.nodes:=by rw[hs.e];simp
   have hp:=hg.np m hmem;have hz:=partsE_zero hp;have hnn:=hb.n m hmem;dsimp only;unfold onNF;rw[e1,e2];by_cases k2:c.k=2
   ·rw[if_pos k2,hq];have:=ed_nodes_2 (n+2*D+4) b E g c N V nr er tag h pn qn m H hs hnl (by omega) k2;cases hA:g.edges.any (touS c.a)
    ·rw[hA,if_neg (by simp)]at this;exact did_ok this
    ·rw[hA,if_pos rfl]at this;exact did_no (by simp) this
   ·rw[if_neg k2];by_cases k3:c.k=3
    ·rw[if_pos k3,hq];obtain⟨lp,lm,lq,hlt⟩:=splT c.name hz.2.2;have f1:loT m.labels c.name=lp:=spl_pre hlt;have f2:hiT m.labels c.name=lq:=spl_post hlt;rw[f1,f2,hlt.any];cases lm with
     |
      nil=>
      by_cases h8:8≤m.labels.length
      ·rw[if_neg (by simp),if_pos h8,if_neg (by simp),if_pos h8];exact did_no (by omega) (ed_nodes_3b _ b E g c N V nr er tag h pn qn m lp [] lq H hs hnl hz.1 hlt k3 h8)
      ·rw[if_neg (by simp),if_neg h8,if_neg (by simp),if_neg h8,putG_same (m:={m with labels:=lp++[c.name]++lq}) hnn];exact did_ok (ed_nodes_3c _ b E g c N V nr er tag h pn qn m lp [] lq H hs hnl hz.1 hlt k3 (by omega))
     |
      cons y lm=>
      have:lm=[]:=by have:=hlt.one;simpa using this
      subst this;rw[if_pos (by simp),if_pos (by simp)];exact did_no (by omega) (ed_nodes_3a _ b E g c N V nr er tag h pn qn m lp [y] lq y H hs hnl hz.1 hlt k3)
    ·rw[if_neg k3];by_cases k4:c.k=4
     ·rw[if_pos k4,hq];obtain⟨lp,lm,lq,hlt⟩:=splT c.name hz.2.2;have f1:loT m.labels c.name=lp:=spl_pre hlt;have f2:hiT m.labels c.name=lq:=spl_post hlt;rw[f1,f2,hlt.any];cases lm with
      |
       nil=>
       rw[if_neg (by simp),if_neg (by simp)];exact did_no (by omega) (ed_nodes_4a _ b E g c N V nr er tag h pn qn m lp [] lq H hs hnl hz.1 hlt k4)
      |
       cons y lm=>
       have:lm=[]:=by have:=hlt.one;simpa using this
       subst this;rw[if_pos (by simp),if_pos (by simp),putG_same (m:={m with labels:=lp++lq}) hnn];exact did_ok (ed_nodes_4c _ b E g c N V nr er tag h pn qn m lp [y] lq y H hs hnl hz.1 hlt k4)
     ·rw[if_neg k4];obtain⟨pp,pm,pq,hpt⟩:=splR c.name (partsE_keys hp);rw[setR_setL hpt];have:=ed_nodes_5 n D b E g c N V nr er tag h pn qn m pp pm pq H hs hnl hz.2.1 hpt hd hv ⟨k1,k2,k3,k4⟩;by_cases h16:(setL c.name c.v pp pq).length≤16
      ·rw[if_pos h16]at this;rw[if_pos h16,if_pos h16,putG_same (m:={m with props:=setL c.name c.v pp pq}) hnn];exact did_ok this
      ·rw[if_neg h16]at this;rw[if_neg h16,if_neg h16];exact did_no (by omega) this
theorem ed_doE (n D:Nat)(b:Bool)(E:Nat)(g:Gr)(c:Ch)(N V:AV)(nr er:List (List AV))(tag:Nat→Tg)(h:Hp)(H:RepG h tag E g N V nr er)(hg:GV g)(hb:NB g)(he:changeE c=0)(hd:dep c.v≤D)(hv:bdV c.v)(hk:5<c.k):
 Did h tag E (stepF g c) (callN cx (n+2*D+10) b 163 [.pt E 0,.ag (encC c)] h):=by
 have hid:=changeE_id he;have hkk:=changeE_kind he;obtain⟨pe,me,qe,hs⟩:=splE c.a hg.se;obtain⟨pb,mb,qb,hsb⟩:=splN c.b hg.sn;obtain⟨pc,mc,qc,hsc⟩:=splN c.c hg.sn;have e1:loE g.edges c.a=pe:=spl_pre hs;have e2:hiE g.edges c.a=qe:=spl_post hs;have hnl:=hg.nl;have hel:=hg.el;have hq:n+2*D+10=(n+2*D+4)+6:=by omega
 have hm:((nodeAt g.nodes c.b).isSome && (nodeAt g.nodes c.c).isSome)=((!mb.isEmpty) && (!mc.isEmpty)):=by
  rw[nodeAt_spl hsb,nodeAt_spl hsc];cases mb<;>cases mc<;>rfl
 unfold stepF;rw[if_neg (by simp[he]),if_neg (by omega)];by_cases k6:c.k=6
 ·rw[if_pos k6,e1,e2,edgeAt_spl hs,hq];cases hn:me.head? with
  |
   some m=>
   have:=head_one hn hs.one;subst this;exact did_no (by omega) (ed_edges_6a _ b E g c N V nr er tag h pe qe m H hs hel hnl k6)
  |
   none=>
   have:=head_none hn;subst this;dsimp only;rw[hm];by_cases hmm:((!mb.isEmpty) && (!mc.isEmpty))=false
   ·rw[if_pos hmm];exact did_no (by omega) (ed_edges_6b _ b E g c N V nr er tag h pe qe pb mb qb pc mc qc hsb hsc H hs hel hnl k6 hmm)
   ·rw[if_neg hmm];have hmt:((!mb.isEmpty) && (!mc.isEmpty))=true:=by
     cases q:((!mb.isEmpty) && (!mc.isEmpty))with
     |true=>rfl
     |false=>exact absurd q hmm
    by_cases hl:4000≤g.edges.length
    ·rw[if_pos hl];exact did_no (by omega) (ed_edges_6c _ b E g c N V nr er tag h pe qe pb mb qb pc mc qc hsb hsc H hs hel hnl k6 hmt hl)
    ·rw[if_neg hl];exact did_ok (ed_edges_6d _ b E g c N V nr er tag h pe qe pb mb qb pc mc qc hsb hsc H hs hel hnl k6 hmt hid (by omega))
 ·rw[if_neg k6,if_pos (by omega),edgeAt_spl hs];cases hn:me.head? with
  |
   none=>
   have:=head_none hn;subst this;rw[hq];exact did_no (by omega) (ed_edges_e0 _ b E g c N V nr er tag h pe qe H hs hel hnl k6)
  |
   some m=>
   have:=head_one hn hs.one;subst this;have hmem:m∈g.edges:=by rw[hs.e];simp
   have hp:=hg.ep m hmem;have hz:=partsE_zero hp;have hnn:=hb.e m hmem;dsimp only;unfold onEF;rw[e1,e2];by_cases k7:c.k=7
   ·rw[if_pos k7,hq];exact did_ok (ed_edges_7 _ b E g c N V nr er tag h pe qe m H hs hel k7)
   ·rw[if_neg k7];obtain⟨pp,pm,pq,hpt⟩:=splR c.name (partsE_keys hp);rw[setR_setL hpt];have:=ed_edges_8 n D b E g c N V nr er tag h pe qe m H hs hel pp pm pq hz.2.1 hpt hd hv ⟨k6,k7⟩;by_cases h16:(setL c.name c.v pp pq).length≤16
    ·rw[if_pos h16]at this;rw[if_pos h16,if_pos h16,putGE_same (m:={m with props:=setL c.name c.v pp pq}) hnn];exact did_ok this
    ·rw[if_neg h16]at this;rw[if_neg h16,if_neg h16];exact did_no (by omega) this
end
section
attribute [local simp] aop aopW coldF extF putA ofConst flat scalarOp fastOp binFast intOp strOp guardX Ae.part rowOf szOk natOf lenA cls fillA newsOf isNilC cellX
set_option maxHeartbeats 16000000
def exec2L (C:Cx)(call:Bool→Cal):List Code→St→Option (Out × St)
 | [],s=>some (.normal,s)
 |
  c::cs,s=>match exec2 C call c s with
  |some (.normal,s')=>exec2L C call cs s'
  |r=>r
section
variable {C : Cx} {call : Bool → FuncId → List AV → Hp → Option (AV × Hp)}
theorem execL_eq :∀(l:List Code),l.all (ok2 C)=true→execL C call l=exec2L C call l
 | [],_=>rfl
 |
  c::l,h=>by
  rw[Zn,Zh]at h
  funext s
  simp only[execL,exec2L,exec2_eq c h.1,execL_eq l h.2];rfl
def thenL (C:Cx)(call:Bool→Cal)(x:Option (Out × St))(cs:List Code):Option (Out × St):=match x with|some (.normal,s)=>exec2L C call cs s|r=>r
@[simp] theorem exec2L_nil (s:St):exec2L C call [] s=some (.normal,s):=rfl
@[simp] theorem exec2L_cons (c:Code)(cs:List Code)(s:St):exec2L C call (c::cs) s=thenL C call (exec2 C call c s) cs:=rfl
@[simp] theorem thenL_normal (s:St)(cs:List Code):thenL C call (some (.normal,s)) cs=exec2L C call cs s:=rfl
@[simp] theorem thenL_ret (s:St)(cs:List Code):thenL C call (some (.ret,s)) cs=some (.ret,s):=rfl
def recX (res:List Rv)(id:Nat)(T:TypeId):Option (Out × St)→Option (AV × Hp)
 |some (.normal,s')=>(resR res s').map fun r=>(r,s'.2)
 |some (.ret,s')=>(resR res s').map fun r=>(r,s'.2)
 |
  some (.pan (.iface T' (.int k n)),s')=>match s'.2[id]? with
  |some (.row [_])=>if T=T' then(resR res (s'.1,s'.2.set id (.row [.sc (.int k n)]))).map fun r=>(r,s'.2.set id (.row [.sc (.int k n)]))else none
  |_=>none
 |_=>none
def defX (C:Cx)(call:Bool→Cal)(res:List Rv)(d:Tmp)(x:Operand)(T:TypeId)(rest:Code):Option (Out × St)→Option (AV × Hp)
 |some (.ret,s)=>(resR res s).map fun r=>(r,s.2)
 |
  some (.normal,s)=>match ev C s.1 x with
  | .pt id 0=>if d<s.1.length then recX res id T (exec2 C call rest (s.1.set d .ud,s.2))else none
  |_=>none
 |_=>none
@[simp] theorem defX_ret (res:List Rv)(d:Tmp)(x:Operand)(T:TypeId)(rest:Code)(s:St):defX C call res d x T rest (some (.ret,s))=(resR res s).map fun r=>(r,s.2):=rfl
def defY (C:Cx)(call:Bool→Cal)(res:List Rv)(d:Tmp)(T:TypeId)(rest:Code)(s:St):AV→Option (AV × Hp)
 | .pt id 0=>if d<s.1.length then recX res id T (exec2 C call rest (s.1.set d .ud,s.2))else none
 |_=>none
@[simp] theorem defX_normal (res:List Rv)(d:Tmp)(x:Operand)(T:TypeId)(rest:Code)(s:St):defX C call res d x T rest (some (.normal,s))=defY C call res d T rest s (ev C s.1 x):=rfl
@[simp] theorem defY_pt (res:List Rv)(d:Tmp)(T:TypeId)(rest:Code)(s:St)(id:Nat):defY C call res d T rest s (.pt id 0)=if d<s.1.length then recX res id T (exec2 C call rest (s.1.set d .ud,s.2))else none:=rfl
@[simp] theorem recX_normal (res:List Rv)(id:Nat)(T:TypeId)(s':St):recX res id T (some (.normal,s'))=(resR res s').map fun r=>(r,s'.2):=rfl
@[simp] theorem recX_ret (res:List Rv)(id:Nat)(T:TypeId)(s':St):recX res id T (some (.ret,s'))=(resR res s').map fun r=>(r,s'.2):=rfl
def recY (res:List Rv)(id:Nat)(fr:List AV)(h:Hp)(v:Value):Option Blk→Option (AV × Hp)
 |some (.row [_])=>(resR res (fr,h.set id (.row [.sc v]))).map fun r=>(r,h.set id (.row [.sc v]))
 |_=>none
@[simp] theorem recX_pan (res:List Rv)(id:Nat)(T:TypeId)(k:IntKind)(n:Int)(fr:List AV)(h:Hp):recX res id T (some (.pan (.iface T (.int k n)),(fr,h)))=recY res id fr h (.int k n) h[id]?:=by
 unfold recX recY;simp only;split<;>simp_all
@[simp] theorem recY_row (res:List Rv)(id:Nat)(fr:List AV)(h:Hp)(v:Value)(x:AV):recY res id fr h v (some (.row [x]))=(resR res (fr,h.set id (.row [.sc v]))).map fun r=>(r,h.set id (.row [.sc v])):=rfl
theorem bodyD_of {f:FuncId}{fi:Fi}(hF:C.F f=some fi){args:List AV}(hl:args.length≤fi.ntmps){pre:List Code}{d:Tmp}{x:Operand}{T:TypeId}{rest:Code}(hd:splitD C fi.body=some (pre,d,x,T,rest))(hp:pre.all (ok2 C)=true)(hr:ok2 C rest=true)(h:Hp):
 bodyD C call f args h=defX C call fi.res d x T rest (exec2L C call pre (args++List.replicate (fi.ntmps-args.length) .un,h)):=by
 unfold bodyD;rw[hF];simp only[hl,if_true,hd,execL_eq pre hp,exec2_eq rest hr];rfl
end
theorem call_def {f:FuncId}{args:List AV}{n:Nat}(fi:Fi){pre:List Code}{d:Tmp}{x:Operand}{T:TypeId}{rest:Code}(hs:cx.srt f=none)(hi:cx.inl f=true)(hF:cx.F f=some fi)(hd:splitD cx fi.body=some (pre,d,x,T,rest))(hp:pre.all (ok2 cx)=true)(hr:ok2 cx rest=true)(hl:args.length≤fi.ntmps)(b:Bool)(h:Hp)(hpl:plainF f=true:=by decide):
 callN cx (n+1) b f args h=defX cx (callN cx n) fi.res d x T rest (exec2L cx (callN cx n) pre (args++List.replicate (fi.ntmps-args.length) .un,h)):=by
 have e1:cx.ins f=none:=ins_none hpl;have e2:(if args.all calm then cx.tab f args else none)=none:=by rw[show cx.tab f args=none from tab_none hpl];split<;>rfl
 simp only[callN,hs,hi,if_true,e1,e2,hF,hd];exact bodyD_of hF hl hd hp hr h
@[simp] theorem encC_take (c:Ch):(encC c).take 10=encC c:=List.take_of_length_le (by simp)
def seqA :Code→Code
 | .seq a _=>a
 |c=>c
def seqB :Code→Code
 | .seq _ b=>b
 |c=>c
theorem ed_step (n D:Nat)(b:Bool)(E:Nat)(g:Gr)(c:Ch)(N V:AV)(nr er:List (List AV))(tag:Nat→Tg)(h:Hp)(H:RepG h tag E g N V nr er)(hg:GV g)(hb:NB g)(hd:dep c.v≤D)(hv:bdV c.v):
 ∃h',callN cx (n+2*D+11) b 92 [.pt E 0,.ag (encC c)] h=some (.sc (.int .i64 (stepF g c).2),h')∧DoneE h tag h'∧((stepF g c).2=0→DoneG h tag E (stepF g c).1 h'):=by
 have f1:=fun bb hh=>c_Check (n+1) D bb c hh hd hv
 rw[show n+1+2*D+9=n+2*D+10 by omega]at f1;rw[call_def (n:=n+2*D+10) (pre:=[seqA ((Tryz.f92.body).getD .skip),seqA (seqB ((Tryz.f92.body).getD .skip))]) (d:=11) (x:= .tmp 4) (T:=215) (rest:=seqB (seqB (seqB ((Tryz.f92.body).getD .skip)))) ⟨Tryz.f92.ntmps,(Tryz.f92.body).getD .skip,[.cell 4 1 false]⟩ rfl (by kernel_rfl) (by kernel_rfl) (by kernel_rfl) (by kernel_rfl) (by kernel_rfl) (by simp[Tryz.f92])];have fr2:Frm h tag (h++[.row (encC c)]++[.row [.sc (.int .i64 0)]]) (tagU (tagU tag h.length .none) (h.length+1) .none) (fun _=>False):=by
  have a:=Frm.push h tag (.row (encC c)) .none (fun _=>False);have b:=Frm.push (h++[.row (encC c)]) (tagU tag h.length .none) (.row [.sc (.int .i64 0)]) .none (fun _=>False);rw[Zu]at b;exact a.trans b (fun _ q=>q) (fun _ q=>q)
 by_cases he:changeE c=0
 ·have H2:RepG (h++[.row (encC c)]++[.row [.sc (.int .i64 0)]]) (tagU (tagU tag h.length .none) (h.length+1) .none) E g N V nr er:=H.frm (fun id b h1 _=>fr2 id b h1 (fun q=>q));have ht2:tagU (tagU tag h.length .none) (h.length+1) .none (h.length+1)= .none:=tagU_self _ _ _;have hv2:(h++[.row (encC c)]++[.row [.sc (.int .i64 0)]])[h.length+1]?=some (.row [.sc (.int .i64 0)]):=by rw[Zf (by simp)];simp
  have hfin:∀(x:Int) (h3:Hp) (t3:Nat→Tg),Fo (h++[.row (encC c)]++[.row [.sc (.int .i64 0)]]) (tagU (tagU tag h.length .none) (h.length+1) .none) h3 t3→∀(G:Gr),DoneG (h++[.row (encC c)]++[.row [.sc (.int .i64 0)]]) (tagU (tagU tag h.length .none) (h.length+1) .none) E G h3→DoneG h tag E G (h3.set (h.length+1) (.row [.sc (.int .i64 x)])):=by
   rintro x h3 t3 _ G ⟨t4,N',V',nr',er',RG,FO⟩;have k:=FO (h.length+1) _ hv2 (by rw[ht2];simp);refine⟨t4,N',V',nr',er',RG.frm (Frm.set h3 t4 (h.length+1) _ (k.2.trans ht2)),fun i bl q1 q2=>?_⟩;have il:=(Za.1 q1).1;have a:=fr2 i bl q1 (fun q=>q);have a2:=FO i bl a.1 (by rw[a.2];exact q2);exact⟨by rw[Zq (by omega)];exact a2.1,a2.2.trans a.2⟩
  have hk:∀(F:FuncId),Did (h++[.row (encC c)]++[.row [.sc (.int .i64 0)]]) (tagU (tagU tag h.length .none) (h.length+1) .none) E (stepF g c) (callN cx (n+2*D+10) true F [.pt E 0,.ag (encC c)] (h++[.row (encC c)]++[.row [.sc (.int .i64 0)]]))→
   ((stepF g c).2=0∧∃h3,callN cx (n+2*D+10) true F [.pt E 0,.ag (encC c)] (h++[.row (encC c),.row [.sc (.int .i64 0)]])=some (.tp [],h3)∧h3[h.length+1]?=some (.row [.sc (.int .i64 0)])∧∀x:Int,DoneG h tag E (stepF g c).1 (h3.set (h.length+1) (.row [.sc (.int .i64 x)])))∨
   (¬(stepF g c).2=0∧∃h3,callN cx (n+2*D+10) true F [.pt E 0,.ag (encC c)] (h++[.row (encC c),.row [.sc (.int .i64 0)]])=some (.pn (.iface 215 (.int .i64 (stepF g c).2)),h3)∧h3[h.length+1]?=some (.row [.sc (.int .i64 0)])∧∀x:Int,DoneE h tag (h3.set (h.length+1) (.row [.sc (.int .i64 x)]))):=by
   intro F hD;unfold Did at hD;rw[Zp]at hD hv2;split at hD
   ·rename_i h0;obtain⟨h3,a1,hG⟩:=hD;refine .inl ⟨h0,h3,a1,?_,fun x=>?_⟩
    ·obtain⟨t4,N',V',nr',er',RG,FO⟩:=hG;exact(FO (h.length+1) _ hv2 (by rw[ht2];simp)).1
    ·have hG':=hG;obtain⟨t4,N',V',nr',er',RG,FO⟩:=hG;rw[←Zp]at FO hG';exact hfin x h3 t4 FO _ hG'
   ·rename_i h0;obtain⟨h3,a1,t4,FO⟩:=hD;refine .inr ⟨h0,h3,a1,(FO (h.length+1) _ hv2 (by rw[ht2];simp)).1,fun x=>⟨t4,fun i bl q1 q2=>?_⟩⟩;have il:=(Za.1 q1).1;have a:=fr2 i bl q1 (fun q=>q);rw[Zp]at a;have a2:=FO i bl a.1 (by rw[a.2];exact q2);exact⟨by rw[Zq (by omega)];exact a2.1,a2.2.trans a.2⟩
  by_cases h5:c.k≤5
  ·have hh:=hk _ (ed_doN n D true E g c N V nr er _ _ H2 hg hb he hd hv h5);generalize stepF g c=r at hh⊢;rw[he]at f1;rcases hh with⟨h0,h3,a1,a2,a3⟩|⟨h0,h3,a1,a2,a3⟩
   ·rw[h0];refine⟨h3.set (h.length+1) (.row [.sc (.int .i64 0)]),?_,let⟨t',_,_,_,_,_,q⟩:=a3 0;⟨t',q⟩,fun _=>a3 0⟩;have hs3:∀y,(h3.set (h.length+1) y)[h.length+1]?=some y:=fun y=>Zj (Za.1 a2).1
    simp[Tryz.f92,seqA,seqB,f1,splice,h5,a1,a2,hs3]
   ·refine⟨h3.set (h.length+1) (.row [.sc (.int .i64 r.2)]),?_,a3 _,fun q=>absurd q h0⟩;have hs3:∀y,(h3.set (h.length+1) y)[h.length+1]?=some y:=fun y=>Zj (Za.1 a2).1
    simp[Tryz.f92,seqA,seqB,f1,splice,h5,a1,a2,hs3]
  ·have hh:=hk _ (ed_doE n D true E g c N V nr er _ _ H2 hg hb he hd hv (by omega));generalize stepF g c=r at hh⊢;rw[he]at f1;rcases hh with⟨h0,h3,a1,a2,a3⟩|⟨h0,h3,a1,a2,a3⟩
   ·rw[h0];refine⟨h3.set (h.length+1) (.row [.sc (.int .i64 0)]),?_,let⟨t',_,_,_,_,_,q⟩:=a3 0;⟨t',q⟩,fun _=>a3 0⟩;have hs3:∀y,(h3.set (h.length+1) y)[h.length+1]?=some y:=fun y=>Zj (Za.1 a2).1
    simp[Tryz.f92,seqA,seqB,f1,splice,h5,a1,a2,hs3]
   ·refine⟨h3.set (h.length+1) (.row [.sc (.int .i64 r.2)]),?_,a3 _,fun q=>absurd q h0⟩;have hs3:∀y,(h3.set (h.length+1) y)[h.length+1]?=some y:=fun y=>Zj (Za.1 a2).1
    simp[Tryz.f92,seqA,seqB,f1,splice,h5,a1,a2,hs3]
 ·have e:stepF g c=(zeroG,changeE c):=by unfold stepF;rw[if_pos he]
  rw[e];have fr2':Frm h tag (h++[.row (encC c)]++[.row [.sc (.int .i64 (changeE c))]]) (tagU (tagU tag h.length .none) (h.length+1) .none) (fun _=>False):=by
   have a:=Frm.push h tag (.row (encC c)) .none (fun _=>False);have b:=Frm.push (h++[.row (encC c)]) (tagU tag h.length .none) (.row [.sc (.int .i64 (changeE c))]) .none (fun _=>False);rw[Zu]at b;exact a.trans b (fun _ q=>q) (fun _ q=>q)
  refine⟨(h++[.row (encC c)]++[.row [.sc (.int .i64 (changeE c))]]),?_,⟨_,fun i bl q1 q2=>fr2' i bl q1 (fun q=>q)⟩,fun q=>absurd q he⟩;generalize changeE c=x at f1 he;simp[Tryz.f92,seqA,seqB,f1,he,splice]
end
end Go.Proofs.YtadaeokidcgdlaaGreatDoor
