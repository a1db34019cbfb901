/- slices.Clone into memory of its own. -/
import Derived.Test.YtadaeokidcgdlaaGreatDoorP36
set_option linter.unusedSimpArgs false
set_option maxRecDepth 100000
set_option linter.unusedVariables false
namespace Go.Proofs.YtadaeokidcgdlaaGreatDoor
open Go Go.Ae
section
attribute [local simp] appendA aop aopW coldF extF putA ofConst flat scalarOp fastOp binFast intOp strOp guardX Ae.part rowOf szOk natOf lenA cls fillA newsOf isNilC cellX
set_option maxHeartbeats 8000000
def ClnOK (f:FuncId)(sz:Nat):Prop:=∀(n:Nat) (b:Bool) (rows:List (List AV)) (z:Bool) (h:Hp),rows.length≤1000000→(∀r∈rows,r.length=sz)→
 callN cx (n+1) b f [.ls sz rows z] h=some (if rows.isEmpty then(.ls sz [] true,h)else(.sl (h.length+1) sz 0 rows.length false,h++[.dead,.row rows.flatten]))
theorem cln_String :ClnOK 75 1:=fun n b rows z h hl hw=>by
 cases rows with
 |
  nil=>
  have e1:cx.srt 75=none:=by kernel_rfl
  have e2:cx.inl 75=true:=by kernel_rfl
  have e3:cx.ins 75=none:=by kernel_rfl
  have e4:(if[AV.ls 1 [] z].all calm then cx.tab 75 [.ls 1 [] z]else none)=some (.ls 1 [] true):=rfl;simp only[callN,e1,e2,e3,e4,if_true];rfl
 |
  cons r rows=>
  have hfl:(r::rows).flatten.length=(r::rows).length*1:=flatten_length _ hw;have e1:cx.srt 75=none:=by kernel_rfl
  have e2:cx.inl 75=true:=by kernel_rfl
  have e3:cx.ins 75=none:=by kernel_rfl
  have e4:(if[AV.ls 1 (r::rows) z].all calm then cx.tab 75 [.ls 1 (r::rows) z]else none)=none:=rfl;have e5:cx.F 75=some ⟨Tryz.f75.ntmps,(Tryz.f75.body).getD .skip,[.tmp 2]⟩:=by kernel_rfl
  have e6:(splitD cx ((Tryz.f75.body).getD .skip)).isNone=true:=by kernel_rfl
  have hin:callN cx (n+1) b 75 [.ls 1 (r::rows) z] h=finX [.tmp 2] (exec2 cx (callN cx n) ((Tryz.f75.body).getD .skip) ([.ls 1 (r::rows) z]++List.replicate (Tryz.f75.ntmps-1) .un,h)):=by
   simp only[callN,e1,e2,e3,e4,e5,if_true,Yc.1 e6];exact body1_of e5 (by kernel_rfl) (by simp[Tryz.f75]) h
  rw[hin];have c0:rows.length+1≤maxLen:=by unfold maxLen;simp at hl;omega
  have c1:(rows.length+1)*1000≤140737488355328:=by simp at hl;omega
  have c2:¬(rows.length+1)*1≤0:=by omega
  have c3:¬rows.length+1=0:=by omega
  have c4:(rows.length+1)*16≤140737488355328:=by omega
  simp[Tryz.f75,someA,szOk,c0,c4,c3]
theorem cln_Prop :ClnOK 139 6:=fun n b rows z h hl hw=>by
 cases rows with
 |
  nil=>
  have e1:cx.srt 139=none:=by kernel_rfl
  have e2:cx.inl 139=true:=by kernel_rfl
  have e3:cx.ins 139=none:=by kernel_rfl
  have e4:(if[AV.ls 6 [] z].all calm then cx.tab 139 [.ls 6 [] z]else none)=some (.ls 6 [] true):=rfl;simp only[callN,e1,e2,e3,e4,if_true];rfl
 |
  cons r rows=>
  have hfl:(r::rows).flatten.length=(r::rows).length*6:=flatten_length _ hw;have e1:cx.srt 139=none:=by kernel_rfl
  have e2:cx.inl 139=true:=by kernel_rfl
  have e3:cx.ins 139=none:=by kernel_rfl
  have e4:(if[AV.ls 6 (r::rows) z].all calm then cx.tab 139 [.ls 6 (r::rows) z]else none)=none:=rfl;have e5:cx.F 139=some ⟨Tryz.f139.ntmps,(Tryz.f139.body).getD .skip,[.tmp 2]⟩:=by kernel_rfl
  have e6:(splitD cx ((Tryz.f139.body).getD .skip)).isNone=true:=by kernel_rfl
  have hin:callN cx (n+1) b 139 [.ls 6 (r::rows) z] h=finX [.tmp 2] (exec2 cx (callN cx n) ((Tryz.f139.body).getD .skip) ([.ls 6 (r::rows) z]++List.replicate (Tryz.f139.ntmps-1) .un,h)):=by
   simp only[callN,e1,e2,e3,e4,e5,if_true,Yc.1 e6];exact body1_of e5 (by kernel_rfl) (by simp[Tryz.f139]) h
  rw[hin];have c0:rows.length+1≤maxLen:=by unfold maxLen;simp at hl;omega
  have c1:(rows.length+1)*1000≤140737488355328:=by simp at hl;omega
  have c2:¬(rows.length+1)*6≤0:=by omega
  have c3:¬rows.length+1=0:=by omega
  have c4:(rows.length+1)*80≤140737488355328:=by omega
  simp[Tryz.f139,someA,szOk,c0,c4,c3]
theorem cln_Node :ClnOK 158 3:=fun n b rows z h hl hw=>by
 cases rows with
 |
  nil=>
  have e1:cx.srt 158=none:=by kernel_rfl
  have e2:cx.inl 158=true:=by kernel_rfl
  have e3:cx.ins 158=none:=by kernel_rfl
  have e4:(if[AV.ls 3 [] z].all calm then cx.tab 158 [.ls 3 [] z]else none)=some (.ls 3 [] true):=rfl;simp only[callN,e1,e2,e3,e4,if_true];rfl
 |
  cons r rows=>
  have hfl:(r::rows).flatten.length=(r::rows).length*3:=flatten_length _ hw;have e1:cx.srt 158=none:=by kernel_rfl
  have e2:cx.inl 158=true:=by kernel_rfl
  have e3:cx.ins 158=none:=by kernel_rfl
  have e4:(if[AV.ls 3 (r::rows) z].all calm then cx.tab 158 [.ls 3 (r::rows) z]else none)=none:=rfl;have e5:cx.F 158=some ⟨Tryz.f158.ntmps,(Tryz.f158.body).getD .skip,[.tmp 2]⟩:=by kernel_rfl
  have e6:(splitD cx ((Tryz.f158.body).getD .skip)).isNone=true:=by kernel_rfl
  have hin:callN cx (n+1) b 158 [.ls 3 (r::rows) z] h=finX [.tmp 2] (exec2 cx (callN cx n) ((Tryz.f158.body).getD .skip) ([.ls 3 (r::rows) z]++List.replicate (Tryz.f158.ntmps-1) .un,h)):=by
   simp only[callN,e1,e2,e3,e4,e5,if_true,Yc.1 e6];exact body1_of e5 (by kernel_rfl) (by simp[Tryz.f158]) h
  rw[hin];have c0:rows.length+1≤maxLen:=by unfold maxLen;simp at hl;omega
  have c1:(rows.length+1)*1000≤140737488355328:=by simp at hl;omega
  have c2:¬(rows.length+1)*3≤0:=by omega
  have c3:¬rows.length+1=0:=by omega
  have c4:(rows.length+1)*56≤140737488355328:=by omega
  simp[Tryz.f158,someA,szOk,c0,c4,c3]
theorem cln_Edge :ClnOK 159 5:=fun n b rows z h hl hw=>by
 cases rows with
 |
  nil=>
  have e1:cx.srt 159=none:=by kernel_rfl
  have e2:cx.inl 159=true:=by kernel_rfl
  have e3:cx.ins 159=none:=by kernel_rfl
  have e4:(if[AV.ls 5 [] z].all calm then cx.tab 159 [.ls 5 [] z]else none)=some (.ls 5 [] true):=rfl;simp only[callN,e1,e2,e3,e4,if_true];rfl
 |
  cons r rows=>
  have hfl:(r::rows).flatten.length=(r::rows).length*5:=flatten_length _ hw;have e1:cx.srt 159=none:=by kernel_rfl
  have e2:cx.inl 159=true:=by kernel_rfl
  have e3:cx.ins 159=none:=by kernel_rfl
  have e4:(if[AV.ls 5 (r::rows) z].all calm then cx.tab 159 [.ls 5 (r::rows) z]else none)=none:=rfl;have e5:cx.F 159=some ⟨Tryz.f159.ntmps,(Tryz.f159.body).getD .skip,[.tmp 2]⟩:=by kernel_rfl
  have e6:(splitD cx ((Tryz.f159.body).getD .skip)).isNone=true:=by kernel_rfl
  have hin:callN cx (n+1) b 159 [.ls 5 (r::rows) z] h=finX [.tmp 2] (exec2 cx (callN cx n) ((Tryz.f159.body).getD .skip) ([.ls 5 (r::rows) z]++List.replicate (Tryz.f159.ntmps-1) .un,h)):=by
   simp only[callN,e1,e2,e3,e4,e5,if_true,Yc.1 e6];exact body1_of e5 (by kernel_rfl) (by simp[Tryz.f159]) h
  rw[hin];have c0:rows.length+1≤maxLen:=by unfold maxLen;simp at hl;omega
  have c1:(rows.length+1)*1000≤140737488355328:=by simp at hl;omega
  have c2:¬(rows.length+1)*5≤0:=by omega
  have c3:¬rows.length+1=0:=by omega
  have c4:(rows.length+1)*64≤140737488355328:=by omega
  simp[Tryz.f159,someA,szOk,c0,c4,c3]
theorem own_clone {f:FuncId}{sz:Nat}(hC:ClnOK f sz)(h:Hp)(tag:Nat→Tg)(tg:Tg)(rows:List (List AV))(z:Bool)(hl:rows.length≤1000000)(hw:∀r∈rows,r.length=sz):
 ∃x h' tag',(∀n b,callN cx (n+1) b f [.ls sz rows z] h=some (x,h'))∧OwnL h' tag' tg sz rows x∧Frm h tag h' tag' (fun _=>False):=by
 cases rows with
 |nil=>exact⟨.ls sz [] true,h,tag,fun n b=>hC n b [] z h hl hw,.inl ⟨rfl,.inl rfl⟩,Frm.refl _ _ _⟩
 |
  cons r rows=>
  have a:=Frm.push h tag .dead .none (fun _=>False);have b:=Frm.push (h++[.dead]) (tagU tag h.length .none) (.row (r::rows).flatten) tg (fun _=>False);rw[Zp,Zu]at b;have hfl:(r::rows).flatten.length=(r::rows).length*sz:=flatten_length _ hw;refine⟨_,_,_,fun n b=>hC n b (r::rows) z h hl hw,.inr ⟨h.length+1,(r::rows).flatten,rfl,?_,?_,?_,?_⟩,a.trans b (fun _ q=>q) (fun _ q=>q)⟩
  ·rw[Zf (by simp)];simp
  ·rw[←hfl,List.take_length]
  ·rw[hfl];exact Nat.le_refl _
  ·exact tagU_self _ _ _
end
section
attribute [local simp] aop aopW coldF extF putA ofConst flat scalarOp fastOp binFast intOp strOp guardX Ae.part rowOf szOk natOf lenA cls fillA newsOf isNilC cellX
set_option maxHeartbeats 32000000
@[simp] theorem encN_len (m:Nd):(encN m).length=3:=rfl
@[simp] theorem encE_len (m:Ed):(encE m).length=5:=rfl
@[simp] theorem encN_g1 (m:Nd)(h:1< (encN m).length):(encN m)[1]'h= .ls 1 (tsR m.labels) false:=rfl
@[simp] theorem encN_g2 (m:Nd)(h:2< (encN m).length):(encN m)[2]'h= .ls 6 (prR m.props) false:=rfl
@[simp] theorem encE_g4 (m:Ed)(h:4< (encE m).length):(encE m)[4]'h= .ls 6 (prR m.props) false:=rfl
@[simp] theorem encN_q1 (m:Nd):(encN m)[1]?=some (.ls 1 (tsR m.labels) false):=rfl
@[simp] theorem encN_q2 (m:Nd):(encN m)[2]?=some (.ls 6 (prR m.props) false):=rfl
@[simp] theorem encE_q4 (m:Ed):(encE m)[4]?=some (.ls 6 (prR m.props) false):=rfl
@[simp] theorem spl_encN (a b c:AV)(m:Nd):splice [a,b,c] 0 (encN m)=encN m:=by simp[splice]
@[simp] theorem spl_encE (a b c d e:AV)(m:Ed):splice [a,b,c,d,e] 0 (encE m)=encE m:=by simp[splice]
structure CpN (h:Hp)(tag:Nat→Tg)(g:Gr)(N:AV)(i:Nat)(hp:Hp)(tt:Nat→Tg):Prop where
 f:Fo h tag hp tt
 o:hp[h.length+2]?=some (.row [N,edV g.edges,.sc (.int .i64 g.nn),.sc (.int .i64 g.ne)])
 ot:tt (h.length+2)= .none
 b:hp[h.length]?=some (.row (encG g))
 bt:tt h.length= .none
 r:hp[h.length+1]?=some (.row [.sc (.slice none 0 0),.sc (.slice none 0 0),.sc (.int .i64 0),.sc (.int .i64 0)])
 rt:tt (h.length+1)= .none
 n:∃r1,AllR (RepN hp tt) (g.nodes.take i) r1∧OwnL hp tt .nodes 3 (r1++(ndR g.nodes).drop i) N
theorem ndR_drop {l:List Nd}{i:Nat}{m:Nd}(h:l[i]?=some m):(ndR l).drop i=[encN m]++(ndR l).drop (i+1):=by
 have:(ndR l)[i]?=some (encN m):=by rw[ndR_get,h];rfl
 obtain⟨k,e⟩:=Za.1 this;rw[Zm k,e];rfl
theorem take_succ' {α:Type}{l:List α}{i:Nat}{m:α}(h:l[i]?=some m):l.take (i+1)=l.take i++[m]:=by
 rw[List.take_add_one,h];rfl
theorem cpN_step {h:Hp}{tag:Nat→Tg}{g:Gr}{N:AV}{i:Nat}{hp:Hp}{tt:Nat→Tg}(H:CpN h tag g N i hp tt){m:Nd}(hm:g.nodes[i]?=some m)(hll:m.labels.length≤1000000)(hpl:m.props.length≤1000000):
 ∃id cs L P hp2 hp4 tt4,N= .sl id 3 0 g.nodes.length false∧(∀y,(hp++y)[id]?=some (.row cs))∧hp[id]?=some (.row cs)∧(cs.drop (i*3)).take 3=encN m∧i*3+3≤cs.length∧
  (∀n b,callN cx (n+1) b 75 [tsV m.labels false] (hp++[.row (encN m)])=some (L,hp2))∧hp2[id]?=some (.row cs)∧hp2[h.length+2]?=some (.row [N,edV g.edges,.sc (.int .i64 g.nn),.sc (.int .i64 g.ne)])∧hp2[hp.length]?=some (.row (encN m))∧
  (∀n b,callN cx (n+1) b 139 [prV m.props false] (hp2.set id (.row (splice cs (i*3+1) [L])))=some (P,hp4))∧hp4[id]?=some (.row (splice cs (i*3+1) [L]))∧hp4[h.length+2]?=some (.row [N,edV g.edges,.sc (.int .i64 g.nn),.sc (.int .i64 g.ne)])∧
  (hp2.set id (.row (splice cs (i*3+1) [L])))[h.length+2]?=some (.row [N,edV g.edges,.sc (.int .i64 g.nn),.sc (.int .i64 g.ne)])∧(hp2.set id (.row (splice cs (i*3+1) [L])))[hp.length]?=some (.row (encN m))∧
  (∀v,L≠ .pn v)∧(∀v,P≠ .pn v)∧cls L=some [L]∧cls P=some [P]∧
  CpN h tag g N (i+1) (hp4.set id (.row (splice (splice cs (i*3+1) [L]) (i*3+2) [P]))) tt4:=by
 obtain⟨r1,ha,ho⟩:=H.n;have hil:=(Za.1 hm).1;rw[ndR_drop hm]at ho;have hr1:r1.length=i:=by rw[ha.1];simp;omega
 have hw:∀y∈r1++[encN m]++(ndR g.nodes).drop (i+1),y.length=3:=fun y hy=>by
  rw[Zp,Ya,Ya]at hy;rcases hy with hy|hy|hy
  ·exact ha.all (fun a r q=>q.len) y hy
  ·rw[List.mem_singleton]at hy;rw[hy];rfl
  ·exact(ndR_all g.nodes).1 y (List.mem_of_mem_drop hy)
 rw[←Zp]at ho;have hlen:(r1++[encN m]++(ndR g.nodes).drop (i+1)).length=g.nodes.length:=by simp[hr1,ndR_length];omega
 obtain⟨id,cs,hN,hid,hti,htk,hcl,hce⟩:=own_cell ho hw;rw[hlen]at hN;have hidl:=(Za.1 hid).1;have hi3:i*3+3≤cs.length:=by rw[hlen]at hcl;omega
 have hrow:(cs.drop (i*3)).take 3=encN m:=by
  have hh:(r1++[encN m]++(ndR g.nodes).drop (i+1))[i]?=some (encN m):=by
   rw[Zp,Zf (by omega),hr1,Nat.sub_self];rfl
  obtain⟨id',cs',a1,a2,_,a4,_⟩:=own_row ho hw hh;rw[hN,hlen]at a1;simp only[AV.sl.injEq,true_and,and_true]at a1;subst a1;rw[hid]at a2;cases a2;exact a4
 have p1:=Frm.push hp tt (.row (encN m)) .none (fun _=>False);obtain⟨L,hp2,t2,c1,o1,q1⟩:=own_clone cln_String (hp++[.row (encN m)]) (tagU tt hp.length .none) (.lab m.id) (tsR m.labels) false (by rw[tsR_length];exact hll) (tsR_all _).1;have F2:=p1.trans q1 (S2:=fun _=>False) (fun _ q=>q) (fun _ q=>q);have k2:=F2 id _ hid (fun q=>q);have kO2:=F2 _ _ H.o (fun q=>q);have kb2:=q1 hp.length (.row (encN m)) (by simp) (fun q=>q);have S3:Frm hp2 t2 (hp2.set id (.row (splice cs (i*3+1) [L]))) t2 (fun t=>t= .nodes):=Frm.set hp2 t2 id _ (k2.2.trans hti);have tb2:t2 hp.length= .none:=kb2.2.trans (tagU_self _ _ _);have kb3:=S3 hp.length _ kb2.1 (by rw[tb2];simp);have kO3:=S3 _ _ kO2.1 (by rw[kO2.2,H.ot];simp);have hl2:=(Za.1 k2.1).1;obtain⟨P,hp4,t4,c2,o2,q2⟩:=own_clone cln_Prop (hp2.set id (.row (splice cs (i*3+1) [L]))) t2 (.prop m.id) (prR m.props) false (by rw[prR_length];exact hpl) (prR_all _).1;have k4:=q2 id _ (Zj hl2) (fun q=>q);have kO4:=q2 _ _ kO3.1 (fun q=>q);have S5:Frm hp4 t4 (hp4.set id (.row (splice (splice cs (i*3+1) [L]) (i*3+2) [P]))) t4 (fun t=>t= .nodes):=Frm.set hp4 t4 id _ (k4.2.trans (k2.2.trans hti));have F5:Frm hp tt (hp4.set id (.row (splice (splice cs (i*3+1) [L]) (i*3+2) [P]))) t4 (fun t=>t= .nodes):=
  ((F2.trans S3 (S2:=fun t=>t= .nodes) (fun _ q=>q.elim) (fun _ q=>q)).trans q2 (S2:=fun t=>t= .nodes) (fun _ q=>q) (fun _ q=>q.elim)).trans S5 (fun _ q=>q) (fun _ q=>q)
 have put1:=own_put (o:=1) (vs:=[L]) (r':=[.sc (.int .i64 m.id),L,prV m.props false]) (tag:=t2) (tg:= .nodes) k2.1 htk hcl (k2.2.trans hti) hw (by simp) (by simp[splice,encN]);rw[hr1]at put1;have hw':∀y∈r1++[[.sc (.int .i64 m.id),L,prV m.props false]]++(ndR g.nodes).drop (i+1),y.length=3:=fun y hy=>by
  rw[Zp,Ya,Ya]at hy;rcases hy with hy|hy|hy
  ·exact hw y (by simp[hy])
  ·rw[List.mem_singleton]at hy;rw[hy];rfl
  ·exact hw y (by simp[hy])
 have put1':=put1.frm q2 (fun q=>q);have hlen':(r1++[[.sc (.int .i64 m.id),L,prV m.props false]]++(ndR g.nodes).drop (i+1)).length=g.nodes.length:=by simp[hr1,ndR_length];omega
 rw[hlen,←hlen']at put1';obtain⟨id',cs',e1,e2,e3,e4,e5,_⟩:=own_cell put1' hw';simp only[AV.sl.injEq,true_and,and_true]at e1;subst e1;rw[k4.1]at e2;cases e2;have put2:=own_put (o:=2) (vs:=[P]) (r':=[.sc (.int .i64 m.id),L,P]) (tag:=t4) (tg:= .nodes) k4.1 e4 e5 e3 hw' (by simp) (by simp[splice]);rw[hr1,hlen']at put2;refine⟨id,cs,L,P,hp2,hp4,t4,hN,fun y=>by rw[Zd hidl];exact hid,hid,hrow,hi3,c1,k2.1,kO2.1,kb2.1,c2,k4.1,kO4.1,kO3.1,kb3.1,o1.np,o2.np,o1.cls,o2.cls,{
  f:=fun j bl a1 a2=>by
   have k:=H.f j bl a1 a2;have hn:tt j= .none:=k.2.trans (Classical.not_not.1 a2);have k5:=F5 j bl k.1 (by rw[hn];simp);exact⟨k5.1,k5.2.trans k.2⟩
  o:=(F5 _ _ H.o (by rw[H.ot];simp)).1
  ot:=(F5 _ _ H.o (by rw[H.ot];simp)).2.trans H.ot
  b:=(F5 _ _ H.b (by rw[H.bt];simp)).1
  bt:=(F5 _ _ H.b (by rw[H.bt];simp)).2.trans H.bt
  r:=(F5 _ _ H.r (by rw[H.rt];simp)).1
  rt:=(F5 _ _ H.r (by rw[H.rt];simp)).2.trans H.rt
  n:=⟨r1++[[.sc (.int .i64 m.id),L,P]],by
   rw[take_succ' hm];exact(ha.imp fun a _ r q=>q.frm F5 (by simp) (by simp)).app (AllR.one ⟨L,P,rfl,((o1.frm S3 (by simp)).frm q2 (fun q=>q)).frm S5 (by simp),o2.frm S5 (by simp)⟩),by rw[hN];exact put2⟩}⟩
structure CpE (h:Hp)(tag:Nat→Tg)(g:Gr)(N V:AV)(nr:List (List AV))(i:Nat)(hp:Hp)(tt:Nat→Tg):Prop where
 f:Fo h tag hp tt
 o:hp[h.length+2]?=some (.row [N,V,.sc (.int .i64 g.nn),.sc (.int .i64 g.ne)])
 ot:tt (h.length+2)= .none
 r:hp[h.length+1]?=some (.row [.sc (.slice none 0 0),.sc (.slice none 0 0),.sc (.int .i64 0),.sc (.int .i64 0)])
 rt:tt (h.length+1)= .none
 ns:OwnL hp tt .nodes 3 nr N
 na:AllR (RepN hp tt) g.nodes nr
 n:∃r1,AllR (RepE hp tt) (g.edges.take i) r1∧OwnL hp tt .edges 5 (r1++(edR g.edges).drop i) V
theorem edR_drop {l:List Ed}{i:Nat}{m:Ed}(h:l[i]?=some m):(edR l).drop i=[encE m]++(edR l).drop (i+1):=by
 have:(edR l)[i]?=some (encE m):=by rw[edR_get,h];rfl
 obtain⟨k,e⟩:=Za.1 this;rw[Zm k,e];rfl
theorem cpE_step {h:Hp}{tag:Nat→Tg}{g:Gr}{N V:AV}{nr:List (List AV)}{i:Nat}{hp:Hp}{tt:Nat→Tg}(H:CpE h tag g N V nr i hp tt){m:Ed}(hm:g.edges[i]?=some m)(hpl:m.props.length≤1000000):
 ∃id cs P hp2 t2,V= .sl id 5 0 g.edges.length false∧(∀y,(hp++y)[id]?=some (.row cs))∧hp[id]?=some (.row cs)∧(cs.drop (i*5)).take 5=encE m∧i*5+5≤cs.length∧
  (∀n b,callN cx (n+1) b 139 [prV m.props false] (hp++[.row (encE m)])=some (P,hp2))∧hp2[id]?=some (.row cs)∧hp2[h.length+2]?=some (.row [N,V,.sc (.int .i64 g.nn),.sc (.int .i64 g.ne)])∧
  (∀v,P≠ .pn v)∧cls P=some [P]∧CpE h tag g N V nr (i+1) (hp2.set id (.row (splice cs (i*5+4) [P]))) t2:=by
 obtain⟨r1,ha,ho⟩:=H.n;have hil:=(Za.1 hm).1;rw[edR_drop hm]at ho;have hr1:r1.length=i:=by rw[ha.1];simp;omega
 have hw:∀y∈r1++[encE m]++(edR g.edges).drop (i+1),y.length=5:=fun y hy=>by
  rw[Zp,Ya,Ya]at hy;rcases hy with hy|hy|hy
  ·exact ha.all (fun a r q=>q.len) y hy
  ·rw[List.mem_singleton]at hy;rw[hy];rfl
  ·exact(edR_all g.edges).1 y (List.mem_of_mem_drop hy)
 rw[←Zp]at ho;have hlen:(r1++[encE m]++(edR g.edges).drop (i+1)).length=g.edges.length:=by simp[hr1,edR_length];omega
 obtain⟨id,cs,hN,hid,hti,htk,hcl,hce⟩:=own_cell ho hw;rw[hlen]at hN;have hidl:=(Za.1 hid).1;have hi3:i*5+5≤cs.length:=by rw[hlen]at hcl;omega
 have hrow:(cs.drop (i*5)).take 5=encE m:=by
  have hh:(r1++[encE m]++(edR g.edges).drop (i+1))[i]?=some (encE m):=by
   rw[Zp,Zf (by omega),hr1,Nat.sub_self];rfl
  obtain⟨id',cs',a1,a2,_,a4,_⟩:=own_row ho hw hh;rw[hN,hlen]at a1;simp only[AV.sl.injEq,true_and,and_true]at a1;subst a1;rw[hid]at a2;cases a2;exact a4
 have p1:=Frm.push hp tt (.row (encE m)) .none (fun _=>False);obtain⟨P,hp2,t2,c1,o1,q1⟩:=own_clone cln_Prop (hp++[.row (encE m)]) (tagU tt hp.length .none) (.eprop m.id) (prR m.props) false (by rw[prR_length];exact hpl) (prR_all _).1;have F2:=p1.trans q1 (S2:=fun _=>False) (fun _ q=>q) (fun _ q=>q);have k2:=F2 id _ hid (fun q=>q);have kO2:=F2 _ _ H.o (fun q=>q);have S3:Frm hp2 t2 (hp2.set id (.row (splice cs (i*5+4) [P]))) t2 (fun t=>t= .edges):=Frm.set hp2 t2 id _ (k2.2.trans hti);have F5:Frm hp tt (hp2.set id (.row (splice cs (i*5+4) [P]))) t2 (fun t=>t= .edges):=F2.trans S3 (fun _ q=>q.elim) (fun _ q=>q);have put1:=own_put (o:=4) (vs:=[P]) (r':=[.sc (.int .i64 m.id),.sc (.int .i64 m.src),.sc (.int .i64 m.dst),.sc (.string m.type),P]) (tag:=t2) (tg:= .edges) k2.1 htk hcl (k2.2.trans hti) hw (by simp) (by simp[splice,encE]);rw[hr1,hlen]at put1;refine⟨id,cs,P,hp2,t2,hN,fun y=>by rw[Zd hidl];exact hid,hid,hrow,hi3,c1,k2.1,kO2.1,o1.np,o1.cls,{
  f:=fun j bl a1 a2=>by
   have k:=H.f j bl a1 a2;have hn:tt j= .none:=k.2.trans (Classical.not_not.1 a2);have k5:=F5 j bl k.1 (by rw[hn];simp);exact⟨k5.1,k5.2.trans k.2⟩
  o:=(F5 _ _ H.o (by rw[H.ot];simp)).1
  ot:=(F5 _ _ H.o (by rw[H.ot];simp)).2.trans H.ot
  r:=(F5 _ _ H.r (by rw[H.rt];simp)).1
  rt:=(F5 _ _ H.r (by rw[H.rt];simp)).2.trans H.rt
  ns:=H.ns.frm F5 (by simp)
  na:=H.na.imp fun a _ r q=>q.frm F5 (by simp) (by simp)
  n:=⟨r1++[[.sc (.int .i64 m.id),.sc (.int .i64 m.src),.sc (.int .i64 m.dst),.sc (.string m.type),P]],by
   rw[take_succ' hm];exact(ha.imp fun a _ r q=>q.frm F5 (by simp)).app (AllR.one ⟨P,rfl,o1.frm S3 (by simp)⟩),by rw[hN];exact put1⟩}⟩
def CDone (h:Hp)(tag:Nat→Tg)(g:Gr)(r:AV)(h':Hp):Prop:=∃N V tag' nr er,r= .ag [N,V,.sc (.int .i64 g.nn),.sc (.int .i64 g.ne)]∧OwnL h' tag' .nodes 3 nr N∧OwnL h' tag' .edges 5 er V∧AllR (RepN h' tag') g.nodes nr∧AllR (RepE h' tag') g.edges er∧Fo h tag h' tag'
theorem c_copied (n:Nat)(b:Bool)(g:Gr)(tag:Nat→Tg)(h:Hp)(hnl:g.nodes.length≤2000)(hel:g.edges.length≤4000)(hll:∀m∈g.nodes,m.labels.length≤1000000∧m.props.length≤1000000)(hpl:∀m∈g.edges,m.props.length≤1000000):
 ∃r h',callN cx (n+2) b 91 [.ag (encG g)] h=some (r,h')∧CDone h tag g r h':=by
 rw[call_inl3 (n:=n+1) (fun i=>i==6||(i==7||i==13)) ⟨Tryz.f91.ntmps,(Tryz.f91.body).getD .skip,[.cell 2 4 true]⟩ rfl (by kernel_rfl) (by kernel_rfl) (by kernel_rfl) (by kernel_rfl) (by simp[Tryz.f91])];have fr3:Frm h tag (h++[.row (encG g),.row [.sc (.slice none 0 0),.sc (.slice none 0 0),.sc (.int .i64 0),.sc (.int .i64 0)],.row (encG g)]) (tagU (tagU (tagU tag h.length .none) (h.length+1) .none) (h.length+2) .none) (fun _=>False):=by
  have a:=Frm.push h tag (.row (encG g)) .none (fun _=>False);have b:=Frm.push (h++[.row (encG g)]) (tagU tag h.length .none) (.row [.sc (.slice none 0 0),.sc (.slice none 0 0),.sc (.int .i64 0),.sc (.int .i64 0)]) .none (fun _=>False);have c:=Frm.push (h++[.row (encG g)]++[.row [.sc (.slice none 0 0),.sc (.slice none 0 0),.sc (.int .i64 0),.sc (.int .i64 0)]]) (tagU (tagU tag h.length .none) (h.length+1) .none) (.row (encG g)) .none (fun _=>False);simp only[Zu,List.length_cons,List.length_nil,Nat.zero_add,Zp,Zv,Zw]at b c;exact(a.trans b (S2:=fun _=>False) (fun _ q=>q) (fun _ q=>q)).trans c (fun _ q=>q) (fun _ q=>q)
 obtain⟨N,h1,t1,c1,o1,q1⟩:=own_clone cln_Node (h++[.row (encG g),.row [.sc (.slice none 0 0),.sc (.slice none 0 0),.sc (.int .i64 0),.sc (.int .i64 0)],.row (encG g)]) (tagU (tagU (tagU tag h.length .none) (h.length+1) .none) (h.length+2) .none) .nodes (ndR g.nodes) false (by rw[ndR_length];omega) (ndR_all _).1;have kB:=q1 h.length (.row (encG g)) (by rw[Zf (by simp)];simp) (fun q=>q);have kR:=q1 (h.length+1) (.row [.sc (.slice none 0 0),.sc (.slice none 0 0),.sc (.int .i64 0),.sc (.int .i64 0)]) (by rw[Zf (by simp)];simp) (fun q=>q);have kO:=q1 (h.length+2) (.row (encG g)) (by rw[Zf (by simp)];simp) (fun q=>q);have tB:t1 h.length= .none:=kB.2.trans (by rw[tagU_lt (by omega),tagU_lt (by omega),tagU_self]);have tR:t1 (h.length+1)= .none:=kR.2.trans (by rw[tagU_lt (by omega),tagU_self]);have tO:t1 (h.length+2)= .none:=kO.2.trans (tagU_self _ _ _);have frO:=Frm.set h1 t1 (h.length+2) (.row [N,edV g.edges,.sc (.int .i64 g.nn),.sc (.int .i64 g.ne)]) (S:=fun t=>t= .none) tO;have lO:=(Za.1 kO.1).1;have F0:=fr3.trans q1 (S2:=fun _=>False) (fun _ q=>q) (fun _ q=>q);have C0:CpN h tag g N 0 (h1.set (h.length+2) (.row [N,edV g.edges,.sc (.int .i64 g.nn),.sc (.int .i64 g.ne)])) t1:={
  f:=fun j bl a1 a2=>by
   have k:=F0 j bl a1 (fun q=>q);have jl:=(Za.1 a1).1;exact⟨by rw[Zq (by omega)];exact k.1,k.2⟩
  o:=Zj lO
  ot:=tO
  b:=by rw[Zq (by omega)];exact kB.1
  bt:=tB
  r:=by rw[Zq (by omega)];exact kR.1
  rt:=tR
  n:=⟨[],⟨by simp,fun i a r ha=>by simp at ha⟩,by simpa using o1.frm frO (by simp)⟩}
 have hN:=own_form o1;rw[ndR_length]at hN;have cN:=o1.cls;unfold cls at cN;have eN:=own_eqA o1;have qN:=fun(cal:Cal) (ops:Array Oper) (d:Tmp) (rest:List Oper) (fr:List AV) (h:Hp)=>opP_np (C:=cx) (cal:=cal) (ops:=ops) (fun v=>o1.np v) d rest fr h
 have qN':=fun(cal:Cal) (ops:Array Oper) (d:Tmp) (rest:List Oper) (fr:List AV) (h:Hp)=>opN_np (C:=cx) (cal:=cal) (ops:=ops) (fun v=>o1.np v) d rest fr h
 have hO1:=kO.1;have hs1:∀y,(h1.set (h.length+2) y)[h.length+2]?=some y:=fun y=>Zj lO
 obtain⟨N0,hN0⟩:∃N0,N0=N:=⟨N,rfl⟩;simp only[encG,ndV,edV]at c1 hO1;rcases hN with⟨h0,rfl⟩|⟨h0,rfl⟩|⟨idN,rfl⟩
 all_goals
  simp[Tryz.f91,encG,ndV,edV,c1,hO1,hs1,splice,qN];refine loop3_up (C:=cx) (G:=fun r=>∃r0 h',finX _ (then3 _ _ _ (blockX _ r) _)=some (r0,h')∧CDone _ _ _ r0 h')
   (fun i s=>i≤g.nodes.length∧s.1.length=60∧gt s.1 1= .pt h.length 0∧gt s.1 2= .pt (h.length+1) 0∧gt s.1 3= .pt (h.length+2) 0∧gt s.1 14=N0∧gt s.1 15= .sc (.int .i64 g.nodes.length)∧gt s.1 16= .sc (.int .i64 i)∧∃tt,CpN h tag g N0 i s.2 tt)
   (fun o s=>o= .exit 0∧s.1.length=60∧gt s.1 1= .pt h.length 0∧gt s.1 2= .pt (h.length+1) 0∧gt s.1 3= .pt (h.length+2) 0∧∃tt,CpN h tag g N0 g.nodes.length s.2 tt) g.nodes.length (by simp;omega) ?_ ?_ ?_
  ·refine⟨by omega,rfl,rfl,rfl,rfl,hN0.symm,?_,rfl,_,by rw[hN0];exact C0⟩
   first|rfl|(rw[h0];rfl)
  ·rintro i fr hp hle' ⟨hle2,hlen,g1,g2,g3,g14,g15,g16,tt,HC⟩;simp only at hlen g1 g2 g3 g14 g15 g16 HC;by_cases hi:i<g.nodes.length
   ·obtain⟨m,hm⟩:∃e,g.nodes[i]?=some e:=⟨_,Zb hi⟩;have hmm:=hll m (Zi hm);obtain⟨id,cs,L,P,hp2,hp4,tt4,e1,e2,e3,e4,e5,c1,k2,k3,k4,c2,k5,k6,k7,k8,n1,n2,d1,d2,HC'⟩:=cpN_step HC hm hmm.1 hmm.2;have kO:=HC.o;have lO:=(Za.1 kO).1;have hO':∀y,(hp++y)[h.length+2]?=some (.row [N0,edV g.edges,.sc (.int .i64 g.nn),.sc (.int .i64 g.ne)]):=fun y=>by rw[Zd lO];exact kO
    rw[e1]at g14 hO' k3 k6 k7;unfold cls at d1 d2;have eN0:eqvB (.sl id 3 0 g.nodes.length false) (.sl id 3 0 g.nodes.length false)=true:=by simp[eqvB]
    have qL:=fun(cal:Cal) (ops:Array Oper) (d:Tmp) (rest:List Oper) (fr:List AV) (h:Hp)=>opN_np (C:=cx) (cal:=cal) (ops:=ops) n1 d rest fr h
    have qP:=fun(cal:Cal) (ops:Array Oper) (d:Tmp) (rest:List Oper) (fr:List AV) (h:Hp)=>opN_np (C:=cx) (cal:=cal) (ops:=ops) n2 d rest fr h
    have b1:i*3+1+1≤cs.length:=by omega
    have b2:i*3+2+1≤cs.length:=by omega
    have b3:(splice cs (i*3+1) [L]).length=cs.length:=splice_len (by simp;omega);have c1':∀b,callN cx (n+1) b 75 [.ls 1 (tsR m.labels) false] (hp++[.row (encN m)])=some (L,hp2):=fun b=>c1 n b
    have c2':∀b,callN cx (n+1) b 139 [.ls 6 (prR m.props) false] (hp2.set id (.row (splice cs (i*3+1) [L])))=some (P,hp4):=fun b=>c2 n b
    have hf:=fit_succ (i:=i) (by omega);simp[hlen,g1,g2,g3,g14,g15,g16,hi,e3,e4,e5];rw[mix_at (j:=1) (m:=6) ?_ ?_ ?_ ?_]
    rotate_left
    ·kernel_rfl
    ·simp
    ·rfl
    ·simp
    simp[hlen,g1,g2,g3,g14,g15,g16,hi,hO',c1',k2,k3,eN0,qL,d1,b1];rw[mix_at (j:=1) (m:=6) ?_ ?_ ?_ ?_]
    rotate_left
    ·kernel_rfl
    ·simp
    ·rfl
    ·simp
    simp[hlen,g1,g2,g3,g14,g15,g16,hi,k7,k8,c2',k5,k6,eN0,qP,d2,b2,b3,hf];exact⟨hi,e1.symm,_,HC'⟩
   ·have hil:i=g.nodes.length:=Nat.le_antisymm hle2 (Yb hi);subst hil;simp[hlen,g1,g2,g3,g14,g15,g16];exact⟨_,HC⟩
  ·rintro o fr hp hn ⟨rfl,hlen,g1,g2,g3,tt,HC⟩;simp only at hlen g1 g2 g3 HC;obtain⟨nr,ha,ho⟩:=HC.n;rw[List.take_length]at ha;rw[Zt (by rw[ndR_length];exact Nat.le_refl _),Yo]at ho;obtain⟨V,hp2,t2,v1,o2,q2⟩:=own_clone cln_Edge hp tt .edges (edR g.edges) false (by rw[edR_length];omega) (edR_all _).1;have kB:=HC.b;have kO2:=q2 _ _ HC.o (fun q=>q);have kO1:=HC.o;have kR2:=q2 _ _ HC.r (fun q=>q);have lO2:=(Za.1 kO2.1).1;have tO2:t2 (h.length+2)= .none:=kO2.2.trans HC.ot;have frO2:=Frm.set hp2 t2 (h.length+2) (.row [N0,V,.sc (.int .i64 g.nn),.sc (.int .i64 g.ne)]) (S:=fun t=>t= .none) tO2;have D0:CpE h tag g N0 V nr 0 (hp2.set (h.length+2) (.row [N0,V,.sc (.int .i64 g.nn),.sc (.int .i64 g.ne)])) t2:={
    f:=fun j bl a1 a2=>by
     have k:=HC.f j bl a1 a2;have k2:=q2 j bl k.1 (fun q=>q);have jl:=(Za.1 a1).1;exact⟨by rw[Zq (by omega)];exact k2.1,k2.2.trans k.2⟩
    o:=Zj lO2
    ot:=tO2
    r:=by rw[Zq (by omega)];exact kR2.1
    rt:=kR2.2.trans HC.rt
    ns:=(ho.frm q2 (fun q=>q)).frm frO2 (by simp)
    na:=ha.imp fun a _ r q=>(q.frm q2 (fun q=>q) (fun q=>q)).frm frO2 (by simp) (by simp)
    n:=⟨[],⟨by simp,fun i a r ha=>by simp at ha⟩,by simpa using o2.frm frO2 (by simp)⟩}
   have hV:=own_form o2;rw[edR_length]at hV;have cV:=o2.cls;unfold cls at cV;have qV:=fun(cal:Cal) (ops:Array Oper) (d:Tmp) (rest:List Oper) (fr:List AV) (h:Hp)=>opP_np (C:=cx) (cal:=cal) (ops:=ops) (fun v=>o2.np v) d rest fr h
   have hs2:∀y,(hp2.set (h.length+2) y)[h.length+2]?=some y:=fun y=>Zj lO2
   have hO2:=kO2.1;obtain⟨V0,hV0⟩:∃V0,V0=V:=⟨V,rfl⟩;simp only[encG,ndV,edV]at kB hO2;rcases hV with⟨z0,rfl⟩|⟨z0,rfl⟩|⟨idV,rfl⟩
   all_goals
    simp[hlen,g1,g2,g3,kB,v1,hO2,hs2,splice,qV];refine loop3_up (C:=cx) (G:=fun r=>∃r0 h',finX _ (then3 _ _ _ (blockX _ r) _)=some (r0,h')∧CDone _ _ _ r0 h')
     (fun i s=>i≤g.edges.length∧s.1.length=60∧gt s.1 2= .pt (h.length+1) 0∧gt s.1 3= .pt (h.length+2) 0∧gt s.1 43=V0∧gt s.1 44= .sc (.int .i64 g.edges.length)∧gt s.1 45= .sc (.int .i64 i)∧∃tt,CpE h tag g N0 V0 nr i s.2 tt)
     (fun o s=>o= .exit 2∧s.1.length=60∧gt s.1 2= .pt (h.length+1) 0∧gt s.1 3= .pt (h.length+2) 0∧∃tt,CpE h tag g N0 V0 nr g.edges.length s.2 tt) g.edges.length (by simp;omega) ?_ ?_ ?_
    ·first
      |(simp[hlen,g2,g3,hV0,z0];exact⟨_,D0⟩)
      |(simp[hlen,g2,g3,hV0];exact⟨_,D0⟩)
    ·rintro i fr hp hle' ⟨hle2,hlen,g2,g3,g14,g15,g16,tt,HC⟩;simp only at hlen g2 g3 g14 g15 g16 HC;by_cases hi:i<g.edges.length
     ·obtain⟨m,hm⟩:∃e,g.edges[i]?=some e:=⟨_,Zb hi⟩;have hmm:=hpl m (Zi hm);obtain⟨id,cs,P,hp2,tt2,e1,e2,e3,e4,e5,c1,k2,k3,n1,d1,HC'⟩:=cpE_step HC hm hmm;have kO:=HC.o;have lO:=(Za.1 kO).1;have hO':∀y,(hp++y)[h.length+2]?=some (.row [N0,V0,.sc (.int .i64 g.nn),.sc (.int .i64 g.ne)]):=fun y=>by rw[Zd lO];exact kO
      rw[e1]at g14 hO' k3;unfold cls at d1;have eN0:eqvB (.sl id 5 0 g.edges.length false) (.sl id 5 0 g.edges.length false)=true:=by simp[eqvB]
      have qP:=fun(cal:Cal) (ops:Array Oper) (d:Tmp) (rest:List Oper) (fr:List AV) (h:Hp)=>opN_np (C:=cx) (cal:=cal) (ops:=ops) n1 d rest fr h
      have b1:i*5+4+1≤cs.length:=by omega
      have c1':∀b,callN cx (n+1) b 139 [.ls 6 (prR m.props) false] (hp++[.row (encE m)])=some (P,hp2):=fun b=>c1 n b
      have hf:=fit_succ (i:=i) (by omega);simp[hlen,g2,g3,g14,g15,g16,hi,e3,e4,e5];rw[mix_at (j:=1) (m:=6) ?_ ?_ ?_ ?_]
      rotate_left
      ·kernel_rfl
      ·simp
      ·rfl
      ·simp
      simp[hlen,g2,g3,g14,g15,g16,hi,hO',c1',k2,k3,eN0,qP,d1,b1,hf];exact⟨hi,e1.symm,_,HC'⟩
     ·have hil:i=g.edges.length:=Nat.le_antisymm hle2 (Yb hi);subst hil;simp[hlen,g2,g3,g14,g15,g16];exact⟨_,HC⟩
    ·rintro o fr hp hn ⟨rfl,hlen,g2,g3,tt,HC⟩;simp only at hlen g2 g3 HC;obtain⟨er,hea,hoe⟩:=HC.n;rw[List.take_length]at hea;rw[Zt (by rw[edR_length];exact Nat.le_refl _),Yo]at hoe;have kO:=HC.o;have kR:=HC.r;have lR:=(Za.1 kR).1;have hsR:∀y,(hp.set (h.length+1) y)[h.length+1]?=some y:=fun y=>Zj lR
     have frR:=Frm.set hp tt (h.length+1) (.row [N0,V0,.sc (.int .i64 g.nn),.sc (.int .i64 g.ne)]) (S:=fun t=>t= .none) HC.rt;simp[hlen,g2,g3,kO,kR,hsR,splice];refine⟨_,_,⟨rfl,rfl⟩,N0,V0,tt,nr,er,rfl,HC.ns.frm frR (by simp),hoe.frm frR (by simp),HC.na.imp fun a _ r q=>q.frm frR (by simp) (by simp),hea.imp fun a _ r q=>q.frm frR (by simp),fun j bl a1 a2=>?_⟩;have k:=HC.f j bl a1 a2;have jl:=(Za.1 a1).1;exact⟨by rw[Zq (by omega)];exact k.1,k.2⟩
end
end Go.Proofs.YtadaeokidcgdlaaGreatDoor
