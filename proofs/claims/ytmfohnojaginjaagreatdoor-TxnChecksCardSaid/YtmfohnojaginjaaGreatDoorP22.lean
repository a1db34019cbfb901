/- Part of the proof. -/
import Derived.Test.YtmfohnojaginjaaGreatDoorP21
set_option linter.all false
set_option maxHeartbeats 32000000
set_option maxRecDepth 100000
namespace Go.Proofs.YtmfohnojaginjaaGreatDoor
open Go Go.Ae Go.Proofs.Tryz
section
attribute [local simp] ew eD
def Iu(f:FuncId)(sz:Nat):Prop:=∀(n:Nat)(b:Bool)(cg:List LA)(z:Bool)(h:Hp),cg.length<=10^6->(∀r∈cg,r.length=sz)->
 ch cx (n+1) b f [.ls sz cg z] h=some (if cg.isEmpty then(.ls sz [] true,h)else(.sl (h.length+1) sz 0 cg.length false,h++[.dead,.row cg.flatten]))
def BO :Iu 134 1:=λn b cg z h hl hw=>by
 cases cg with
 |
  nil=>
  have e1:cx.oW 134=none:=by kernel_rfl
  have e2:cx.inl 134=true:=by kernel_rfl
  have e3:cx.ins 134=none:=by kernel_rfl
  have e4:(if[AV.ls 1 [] z].all dk then cx.ux 134 [.ls 1 [] z]else none)=some (.ls 1 [] true):=rfl;simp only[ch,e1,e2,e3,e4,if_true];rfl
 |cons r cg=>
  have e1:cx.oW 134=none:=by kernel_rfl
  have e2:cx.inl 134=true:=by kernel_rfl
  have e3:cx.ins 134=none:=by kernel_rfl
  have e4:(if[AV.ls 1 (r::cg) z].all dk then cx.ux 134 [.ls 1 (r::cg) z]else none)=none:=rfl;have e5:cx.F 134=some ⟨f134.ntmps,(f134.body).getD .skip,[.tmp 2]⟩:=by kernel_rfl
  have e6:(jQ cx ((f134.body).getD .skip)).isNone=true:=by kernel_rfl
  have oZ:ch cx (n+1) b 134 [.ls 1 (r::cg) z] h=dL [.tmp 2] (n ((f134.body).getD .skip) ([.ls 1 (r::cg) z]++List.replicate (f134.ntmps-1) .un,h)):=by
   simp only[ch,e1,e2,e3,e4,e5,if_true,Yb.1 e6];exact jL e5 (by kernel_rfl) (by simp[f134]) h
  rw[oZ];have c0:cg.length+1<=maxLen:=by unfold maxLen;simp at hl;omega
  have c1:(cg.length+1)*1000<=140737488355328:=by simp at hl;omega
  have c3:¬cg.length+1=0:=by omega
  have c4:(cg.length+1)*16<=140737488355328:=by omega
  simp[f134,s9,ka,c0,c4]
def BP :Iu 135 6:=λn b cg z h hl hw=>by
 cases cg with
 |
  nil=>
  have e1:cx.oW 135=none:=by kernel_rfl
  have e2:cx.inl 135=true:=by kernel_rfl
  have e3:cx.ins 135=none:=by kernel_rfl
  have e4:(if[AV.ls 6 [] z].all dk then cx.ux 135 [.ls 6 [] z]else none)=some (.ls 6 [] true):=rfl;simp only[ch,e1,e2,e3,e4,if_true];rfl
 |cons r cg=>
  have e1:cx.oW 135=none:=by kernel_rfl
  have e2:cx.inl 135=true:=by kernel_rfl
  have e3:cx.ins 135=none:=by kernel_rfl
  have e4:(if[AV.ls 6 (r::cg) z].all dk then cx.ux 135 [.ls 6 (r::cg) z]else none)=none:=rfl;have e5:cx.F 135=some ⟨f135.ntmps,(f135.body).getD .skip,[.tmp 2]⟩:=by kernel_rfl
  have e6:(jQ cx ((f135.body).getD .skip)).isNone=true:=by kernel_rfl
  have oZ:ch cx (n+1) b 135 [.ls 6 (r::cg) z] h=dL [.tmp 2] (n ((f135.body).getD .skip) ([.ls 6 (r::cg) z]++List.replicate (f135.ntmps-1) .un,h)):=by
   simp only[ch,e1,e2,e3,e4,e5,if_true,Yb.1 e6];exact jL e5 (by kernel_rfl) (by simp[f135]) h
  rw[oZ];have c0:cg.length+1<=maxLen:=by unfold maxLen;simp at hl;omega
  have c1:(cg.length+1)*1000<=140737488355328:=by simp at hl;omega
  have c3:¬cg.length+1=0:=by omega
  have c4:(cg.length+1)*80<=140737488355328:=by omega
  simp[f135,s9,ka,c0,c4]
def Uh :Iu 133 3:=λn b cg z h hl hw=>by
 cases cg with
 |
  nil=>
  have e1:cx.oW 133=none:=by kernel_rfl
  have e2:cx.inl 133=true:=by kernel_rfl
  have e3:cx.ins 133=none:=by kernel_rfl
  have e4:(if[AV.ls 3 [] z].all dk then cx.ux 133 [.ls 3 [] z]else none)=some (.ls 3 [] true):=rfl;simp only[ch,e1,e2,e3,e4,if_true];rfl
 |cons r cg=>
  have e1:cx.oW 133=none:=by kernel_rfl
  have e2:cx.inl 133=true:=by kernel_rfl
  have e3:cx.ins 133=none:=by kernel_rfl
  have e4:(if[AV.ls 3 (r::cg) z].all dk then cx.ux 133 [.ls 3 (r::cg) z]else none)=none:=rfl;have e5:cx.F 133=some ⟨f133.ntmps,(f133.body).getD .skip,[.tmp 2]⟩:=by kernel_rfl
  have e6:(jQ cx ((f133.body).getD .skip)).isNone=true:=by kernel_rfl
  have oZ:ch cx (n+1) b 133 [.ls 3 (r::cg) z] h=dL [.tmp 2] (n ((f133.body).getD .skip) ([.ls 3 (r::cg) z]++List.replicate (f133.ntmps-1) .un,h)):=by
   simp only[ch,e1,e2,e3,e4,e5,if_true,Yb.1 e6];exact jL e5 (by kernel_rfl) (by simp[f133]) h
  rw[oZ];have c0:cg.length+1<=maxLen:=by unfold maxLen;simp at hl;omega
  have c1:(cg.length+1)*1000<=140737488355328:=by simp at hl;omega
  have c3:¬cg.length+1=0:=by omega
  have c4:(cg.length+1)*56<=140737488355328:=by omega
  simp[f133,s9,ka,c0,c4]
def Ui :Iu 136 5:=λn b cg z h hl hw=>by
 cases cg with
 |
  nil=>
  have e1:cx.oW 136=none:=by kernel_rfl
  have e2:cx.inl 136=true:=by kernel_rfl
  have e3:cx.ins 136=none:=by kernel_rfl
  have e4:(if[AV.ls 5 [] z].all dk then cx.ux 136 [.ls 5 [] z]else none)=some (.ls 5 [] true):=rfl;simp only[ch,e1,e2,e3,e4,if_true];rfl
 |cons r cg=>
  have e1:cx.oW 136=none:=by kernel_rfl
  have e2:cx.inl 136=true:=by kernel_rfl
  have e3:cx.ins 136=none:=by kernel_rfl
  have e4:(if[AV.ls 5 (r::cg) z].all dk then cx.ux 136 [.ls 5 (r::cg) z]else none)=none:=rfl;have e5:cx.F 136=some ⟨f136.ntmps,(f136.body).getD .skip,[.tmp 2]⟩:=by kernel_rfl
  have e6:(jQ cx ((f136.body).getD .skip)).isNone=true:=by kernel_rfl
  have oZ:ch cx (n+1) b 136 [.ls 5 (r::cg) z] h=dL [.tmp 2] (n ((f136.body).getD .skip) ([.ls 5 (r::cg) z]++List.replicate (f136.ntmps-1) .un,h)):=by
   simp only[ch,e1,e2,e3,e4,e5,if_true,Yb.1 e6];exact jL e5 (by kernel_rfl) (by simp[f136]) h
  rw[oZ];have c0:cg.length+1<=maxLen:=by unfold maxLen;simp at hl;omega
  have c1:(cg.length+1)*1000<=140737488355328:=by simp at hl;omega
  have c3:¬cg.length+1=0:=by omega
  have c4:(cg.length+1)*64<=140737488355328:=by omega
  simp[f136,s9,ka,c0,c4]
def qO{f:FuncId}{sz:Nat}(hC:Iu f sz)(h:Hp)(tag:Nat->Tg)(tg:Tg)(cg:List LA)(z:Bool)(hl:cg.length<=10^6)(hw:∀r∈cg,r.length=sz):
 ∃x h' dJ,(∀n b,ch cx (n+1) b f [.ls sz cg z] h=some (x,h'))/\iK h' dJ tg sz cg x/\fM h tag h' dJ (λ_=>False):=by
 cases cg with
 |nil=>exact⟨.ls sz [] true,h,tag,λn b=>hC n b [] z h hl hw,.inl ⟨rfl,.inl rfl⟩,fM.refl _ _ _⟩
 |cons r cg=>
  have a:=fM.push h tag .dead .none (λ_=>False);have b:=fM.push (h++[.dead]) (eO tag h.length .none) (.row (r::cg).flatten) tg (λ_=>False);rw[Zp,Zu]at b;have CR:(r::cg).flatten.length=(r::cg).length*sz:=cQ _ hw;refine⟨_,_,_,λn b=>hC n b (r::cg) z h hl hw,.inr ⟨h.length+1,(r::cg).flatten,rfl,?_,?_,?_,?_⟩,a.trans b (λ_ q=>q) (λ_ q=>q)⟩
  .rw[Zf (by simp)];simp
  .rw[<-CR,Xx]
  .rw[CR];exact Xc _
  .exact hY _ _ _
end
section
attribute [local simp] eD
@[simp] def ag2(m:Nd):(dh m).length=3:=rfl
@[simp] def aha(m:Ed):(dP m).length=5:=rfl
@[simp] def ais(m:Nd)(h:1< (dh m).length):(dh m)[1]'h= .ls 1 (fj m.labels) false:=rfl
@[simp] def ahy(m:Nd)(h:2< (dh m).length):(dh m)[2]'h= .ls 6 (d_ m.props) false:=rfl
@[simp] def aib(m:Ed)(h:4< (dP m).length):(dP m)[4]'h= .ls 6 (d_ m.props) false:=rfl
@[simp] def ah4(m:Nd):(dh m)[1]?=some (.ls 1 (fj m.labels) false):=rfl
@[simp] def ahq(m:Nd):(dh m)[2]?=some (.ls 6 (d_ m.props) false):=rfl
@[simp] def ahC(m:Ed):(dP m)[4]?=some (.ls 6 (d_ m.props) false):=rfl
@[simp] def ahj(a b c:AV)(m:Nd):cn [a,b,c] 0 (dh m)=dh m:=by simp[cn]
@[simp] def agY(a b c d e:AV)(m:Ed):cn [a,b,c,d,e] 0 (dP m)=dP m:=by simp[cn]
structure CpN (h:Hp)(tag:Nat->Tg)(g:Gr)(N:AV)(i:Nat)(hp:Hp)(tt:Nat->Tg):Prop where
 f:Fo h tag hp tt
 o:hp[h.length+2]?=some (.row [N,dz g.cj,g.nn,g.ne])
 ot:tt (h.length+2)= .none
 b:hp[h.length]?=some (.row (cl g))
 bt:tt h.length= .none
 r:hp[h.length+1]?=some (.row [(),(),(0:Int),(0:Int)])
 rt:tt (h.length+1)= .none
 n:∃r1,kJ (Dd hp tt) (g.nodes.take i) r1/\iK hp tt .nodes 3 (r1++(f_ g.nodes).drop i) N
def Uj{l:List Nd}{i:Nat}{m:Nd}(h:l[i]?=some m):(f_ l).drop i=[dh m]++(f_ l).drop (i+1):=by
 have:(f_ l)[i]?=some (dh m):=by rw[iJ,h];rfl
 obtain⟨k,e⟩:=Za.1 this;rw[Zm k,e];rfl
def wB{α:Type}{l:List α}{i:Nat}{m:α}(h:l[i]?=some m):l.take (i+1)=l.take i++[m]:=by
 rw[List.take_add_one,h];rfl
def Uk{h:Hp}{tag:Nat->Tg}{g:Gr}{N:AV}{i:Nat}{hp:Hp}{tt:Nat->Tg}(H:CpN h tag g N i hp tt){m:Nd}(hm:g.nodes[i]?=some m)(zd:m.labels.length<=10^6)(qD:m.props.length<=10^6):
 ∃id cs L P lL Sb tt4,N= .sl id 3 0 g.nodes.length false/\(∀y,(hp++y)[id]?=some (.row cs))/\hp[id]?=some (.row cs)/\(cs.drop (i*3)).take 3=dh m/\i*3+3<=cs.length/\
  (∀n b,ch cx (n+1) b 134 [iD m.labels false] (hp++[.row (dh m)])=some (L,lL))/\lL[id]?=some (.row cs)/\lL[h.length+2]?=some (.row [N,dz g.cj,g.nn,g.ne])/\lL[hp.length]?=some (.row (dh m))/\
  (∀n b,ch cx (n+1) b 135 [eU m.props false] (lL.set id (.row (cn cs (i*3+1) [L])))=some (P,Sb))/\Sb[id]?=some (.row (cn cs (i*3+1) [L]))/\Sb[h.length+2]?=some (.row [N,dz g.cj,g.nn,g.ne])/\
  (lL.set id (.row (cn cs (i*3+1) [L])))[h.length+2]?=some (.row [N,dz g.cj,g.nn,g.ne])/\(lL.set id (.row (cn cs (i*3+1) [L])))[hp.length]?=some (.row (dh m))/\
  (∀v,L≠ .pn v)/\(∀v,P≠ .pn v)/\cls L=some [L]/\cls P=some [P]/\
  CpN h tag g N (i+1) (Sb.set id (.row (cn (cn cs (i*3+1) [L]) (i*3+2) [P]))) tt4:=by
 obtain⟨r1,ha,ho⟩:=H.n;have k_:=(Za.1 hm).1;rw[Uj hm]at ho;have BB:r1.length=i:=by rw[ha.1];simp;omega
 have hw:∀y∈r1++[dh m]++(f_ g.nodes).drop (i+1),y.length=3:=λy hy=>by
  rw[Zp,Zz,Zz]at hy;rcases hy with hy|hy|hy
  .exact ha.all (λa r q=>q.len) y hy
  .rw[List.mem_singleton]at hy;rw[hy];rfl
  .exact(Ar g.nodes).1 y (List.mem_of_mem_drop hy)
 rw[<-Zp]at ho;have cf:(r1++[dh m]++(f_ g.nodes).drop (i+1)).length=g.nodes.length:=by simp[BB,dC];omega
 obtain⟨id,cs,hN,cZ,sI,wc,dZ,wT⟩:=iw ho hw;rw[cf]at hN;have ng:=(Za.1 cZ).1;have hi3:i*3+3<=cs.length:=by rw[cf]at dZ;omega
 have fG:(cs.drop (i*3)).take 3=dh m:=by
  have hh:(r1++[dh m]++(f_ g.nodes).drop (i+1))[i]?=some (dh m):=by
   rw[Zp,Zf (by omega),BB,Nat.sub_self];rfl
  obtain⟨id',cs',a1,a2,_,a4,_⟩:=FF ho hw hh;rw[hN,cf]at a1;simp only[AV.sl.injEq,and_true]at a1;subst a1;rw[cZ]at a2;cases a2;exact a4
 have p1:=fM.push hp tt (.row (dh m)) .none (λ_=>False);obtain⟨L,lL,t2,c1,o1,q1⟩:=qO BO (hp++[.row (dh m)]) (eO tt hp.length .none) (.qE m.id) (fj m.labels) false (by rw[di];exact zd) (gm _).1;have F2:=p1.trans q1 (S2:=λ_=>False) (λ_ q=>q) (λ_ q=>q);have k2:=F2 id _ cZ (λq=>q);have ZR:=F2 _ _ H.o (λq=>q);have kb2:=q1 hp.length (.row (dh m)) (by simp) (λq=>q);have S3:fM lL t2 (lL.set id (.row (cn cs (i*3+1) [L]))) t2 (λt=>t= .nodes):=fM.set lL t2 id _ (k2.2.trans sI);have tb2:t2 hp.length= .none:=kb2.2.trans (hY _ _ _);have kb3:=S3 hp.length _ kb2.1 (by rw[tb2];simp);have kO3:=S3 _ _ ZR.1 (by rw[ZR.2,H.ot];simp);have hl2:=(Za.1 k2.1).1;obtain⟨P,Sb,t4,c2,o2,q2⟩:=qO BP (lL.set id (.row (cn cs (i*3+1) [L]))) t2 (.prop m.id) (d_ m.props) false (by rw[cP];exact qD) (gQ _).1;have k4:=q2 id _ (Zj hl2) (λq=>q);have kO4:=q2 _ _ kO3.1 (λq=>q);have S5:fM Sb t4 (Sb.set id (.row (cn (cn cs (i*3+1) [L]) (i*3+2) [P]))) t4 (λt=>t= .nodes):=fM.set Sb t4 id _ (k4.2.trans (k2.2.trans sI));have F5:fM hp tt (Sb.set id (.row (cn (cn cs (i*3+1) [L]) (i*3+2) [P]))) t4 (λt=>t= .nodes):=
  ((F2.trans S3 (S2:=λt=>t= .nodes) (λ_ q=>q.elim) (λ_ q=>q)).trans q2 (S2:=λt=>t= .nodes) (λ_ q=>q) (λ_ q=>q.elim)).trans S5 (λ_ q=>q) (λ_ q=>q)
 have Ul:=rT (o:=1) (vs:=[L]) (r':=[.sc (.int .i64 m.id),L,eU m.props false]) (tag:=t2) (tg:= .nodes) k2.1 wc dZ (k2.2.trans sI) hw (by simp) (by simp[cn,dh]);rw[BB]at Ul;have lu:∀y∈r1++[[.sc (.int .i64 m.id),L,eU m.props false]]++(f_ g.nodes).drop (i+1),y.length=3:=λy hy=>by
  rw[Zp,Zz,Zz]at hy;rcases hy with hy|hy|hy
  .exact hw y (by simp[hy])
  .rw[List.mem_singleton]at hy;rw[hy];rfl
  .exact hw y (by simp[hy])
 have abS:=Ul.fl q2 (λq=>q);have nz:(r1++[[.sc (.int .i64 m.id),L,eU m.props false]]++(f_ g.nodes).drop (i+1)).length=g.nodes.length:=by simp[BB,dC];omega
 rw[cf,<-nz]at abS;obtain⟨id',cs',e1,e2,e3,e4,e5,_⟩:=iw abS lu;simp only[AV.sl.injEq,and_true]at e1;subst e1;rw[k4.1]at e2;cases e2;have afO:=rT (o:=2) (vs:=[P]) (r':=[.sc (.int .i64 m.id),L,P]) (tag:=t4) (tg:= .nodes) k4.1 e4 e5 e3 lu (by simp) (by simp[cn]);rw[BB,nz]at afO;refine⟨id,cs,L,P,lL,Sb,t4,hN,λy=>by rw[Zd ng];exact cZ,cZ,fG,hi3,c1,k2.1,ZR.1,kb2.1,c2,k4.1,kO4.1,kO3.1,kb3.1,o1.np,o2.np,o1.cls,o2.cls,{
  f:=λj bl a1 a2=>by
   have k:=H.f j bl a1 a2;have hn:tt j= .none:=k.2.trans (Classical.not_not.1 a2);have k5:=F5 j bl k.1 (by rw[hn];simp);exact⟨k5.1,k5.2.trans k.2⟩
  o:=(F5 _ _ H.o (by rw[H.ot];simp)).1
  ot:=(F5 _ _ H.o (by rw[H.ot];simp)).2.trans H.ot
  b:=(F5 _ _ H.b (by rw[H.bt];simp)).1
  bt:=(F5 _ _ H.b (by rw[H.bt];simp)).2.trans H.bt
  r:=(F5 _ _ H.r (by rw[H.rt];simp)).1
  rt:=(F5 _ _ H.r (by rw[H.rt];simp)).2.trans H.rt
  n:=⟨r1++[[.sc (.int .i64 m.id),L,P]],by
   rw[wB hm];exact(ha.imp λa _ r q=>q.fl F5 (by simp) (by simp)).app (kJ.one ⟨L,P,rfl,((o1.fl S3 (by simp)).fl q2 (λq=>q)).fl S5 (by simp),o2.fl S5 (by simp)⟩),by rw[hN];exact afO⟩}⟩
structure CpE (h:Hp)(tag:Nat->Tg)(g:Gr)(N V:AV)(nr:List LA)(i:Nat)(hp:Hp)(tt:Nat->Tg):Prop where
 f:Fo h tag hp tt
 o:hp[h.length+2]?=some (.row [N,V,g.nn,g.ne])
 ot:tt (h.length+2)= .none
 r:hp[h.length+1]?=some (.row [(),(),(0:Int),(0:Int)])
 rt:tt (h.length+1)= .none
 ns:iK hp tt .nodes 3 nr N
 na:kJ (Dd hp tt) g.nodes nr
 n:∃r1,kJ (Fq hp tt) (g.cj.take i) r1/\iK hp tt .cj 5 (r1++(fV g.cj).drop i) V
def Um{l:List Ed}{i:Nat}{m:Ed}(h:l[i]?=some m):(fV l).drop i=[dP m]++(fV l).drop (i+1):=by
 have:(fV l)[i]?=some (dP m):=by rw[jy,h];rfl
 obtain⟨k,e⟩:=Za.1 this;rw[Zm k,e];rfl
def Un{h:Hp}{tag:Nat->Tg}{g:Gr}{N V:AV}{nr:List LA}{i:Nat}{hp:Hp}{tt:Nat->Tg}(H:CpE h tag g N V nr i hp tt){m:Ed}(hm:g.cj[i]?=some m)(qD:m.props.length<=10^6):
 ∃id cs P lL t2,V= .sl id 5 0 g.cj.length false/\(∀y,(hp++y)[id]?=some (.row cs))/\hp[id]?=some (.row cs)/\(cs.drop (i*5)).take 5=dP m/\i*5+5<=cs.length/\
  (∀n b,ch cx (n+1) b 135 [eU m.props false] (hp++[.row (dP m)])=some (P,lL))/\lL[id]?=some (.row cs)/\lL[h.length+2]?=some (.row [N,V,g.nn,g.ne])/\
  (∀v,P≠ .pn v)/\cls P=some [P]/\CpE h tag g N V nr (i+1) (lL.set id (.row (cn cs (i*5+4) [P]))) t2:=by
 obtain⟨r1,ha,ho⟩:=H.n;have k_:=(Za.1 hm).1;rw[Um hm]at ho;have BB:r1.length=i:=by rw[ha.1];simp;omega
 have hw:∀y∈r1++[dP m]++(fV g.cj).drop (i+1),y.length=5:=λy hy=>by
  rw[Zp,Zz,Zz]at hy;rcases hy with hy|hy|hy
  .exact ha.all (λa r q=>q.len) y hy
  .rw[List.mem_singleton]at hy;rw[hy];rfl
  .exact(Au g.cj).1 y (List.mem_of_mem_drop hy)
 rw[<-Zp]at ho;have cf:(r1++[dP m]++(fV g.cj).drop (i+1)).length=g.cj.length:=by simp[BB,dD];omega
 obtain⟨id,cs,hN,cZ,sI,wc,dZ,wT⟩:=iw ho hw;rw[cf]at hN;have ng:=(Za.1 cZ).1;have hi3:i*5+5<=cs.length:=by rw[cf]at dZ;omega
 have fG:(cs.drop (i*5)).take 5=dP m:=by
  have hh:(r1++[dP m]++(fV g.cj).drop (i+1))[i]?=some (dP m):=by
   rw[Zp,Zf (by omega),BB,Nat.sub_self];rfl
  obtain⟨id',cs',a1,a2,_,a4,_⟩:=FF ho hw hh;rw[hN,cf]at a1;simp only[AV.sl.injEq,and_true]at a1;subst a1;rw[cZ]at a2;cases a2;exact a4
 have p1:=fM.push hp tt (.row (dP m)) .none (λ_=>False);obtain⟨P,lL,t2,c1,o1,q1⟩:=qO BP (hp++[.row (dP m)]) (eO tt hp.length .none) (.DW m.id) (d_ m.props) false (by rw[cP];exact qD) (gQ _).1;have F2:=p1.trans q1 (S2:=λ_=>False) (λ_ q=>q) (λ_ q=>q);have k2:=F2 id _ cZ (λq=>q);have ZR:=F2 _ _ H.o (λq=>q);have S3:fM lL t2 (lL.set id (.row (cn cs (i*5+4) [P]))) t2 (λt=>t= .cj):=fM.set lL t2 id _ (k2.2.trans sI);have F5:fM hp tt (lL.set id (.row (cn cs (i*5+4) [P]))) t2 (λt=>t= .cj):=F2.trans S3 (λ_ q=>q.elim) (λ_ q=>q);have Ul:=rT (o:=4) (vs:=[P]) (r':=[.sc (.int .i64 m.id),.sc (.int .i64 m.src),.sc (.int .i64 m.dst),.sc (.string m.type),P]) (tag:=t2) (tg:= .cj) k2.1 wc dZ (k2.2.trans sI) hw (by simp) (by simp[cn,dP]);rw[BB,cf]at Ul;refine⟨id,cs,P,lL,t2,hN,λy=>by rw[Zd ng];exact cZ,cZ,fG,hi3,c1,k2.1,ZR.1,o1.np,o1.cls,{
  f:=λj bl a1 a2=>by
   have k:=H.f j bl a1 a2;have hn:tt j= .none:=k.2.trans (Classical.not_not.1 a2);have k5:=F5 j bl k.1 (by rw[hn];simp);exact⟨k5.1,k5.2.trans k.2⟩
  o:=(F5 _ _ H.o (by rw[H.ot];simp)).1
  ot:=(F5 _ _ H.o (by rw[H.ot];simp)).2.trans H.ot
  r:=(F5 _ _ H.r (by rw[H.rt];simp)).1
  rt:=(F5 _ _ H.r (by rw[H.rt];simp)).2.trans H.rt
  ns:=H.ns.fl F5 (by simp)
  na:=H.na.imp λa _ r q=>q.fl F5 (by simp) (by simp)
  n:=⟨r1++[[.sc (.int .i64 m.id),.sc (.int .i64 m.src),.sc (.int .i64 m.dst),.sc (.string m.type),P]],by
   rw[wB hm];exact(ha.imp λa _ r q=>q.fl F5 (by simp)).app (kJ.one ⟨P,rfl,o1.fl S3 (by simp)⟩),by rw[hN];exact Ul⟩}⟩
def Uo(h:Hp)(tag:Nat->Tg)(g:Gr)(r:AV)(h':Hp):Prop:=∃N V dJ nr er,r= .ag [N,V,g.nn,g.ne]/\iK h' dJ .nodes 3 nr N/\iK h' dJ .cj 5 er V/\kJ (Dd h' dJ) g.nodes nr/\kJ (Fq h' dJ) g.cj er/\Fo h tag h' dJ
def Iv(n:Nat)(b:Bool)(g:Gr)(tag:Nat->Tg)(h:Hp)(nh:g.nodes.length<=2000)(ni:g.cj.length<=4000)(zd:∀m∈g.nodes,m.labels.length<=10^6/\m.props.length<=10^6)(qD:∀m∈g.cj,m.props.length<=10^6):
 ∃r h',ch cx (n+2) b 87 [.ag (cl g)] h=some (r,h')/\Uo h tag g r h':=by
 rw[D3 (n:=n+1) (λi=>i==6||(i==7||i==13)) ⟨f87.ntmps,(f87.body).getD .skip,[.cell 2 4 true]⟩ rfl (by kernel_rfl) (by kernel_rfl) (by kernel_rfl) (by kernel_rfl) (by simp[f87])];have Ld:fM h tag (h++[.row (cl g),.row [(),(),(0:Int),(0:Int)],.row (cl g)]) (eO (eO (eO tag h.length .none) (h.length+1) .none) (h.length+2) .none) (λ_=>False):=by
  have a:=fM.push h tag (.row (cl g)) .none (λ_=>False);have b:=fM.push (h++[.row (cl g)]) (eO tag h.length .none) (.row [(),(),(0:Int),(0:Int)]) .none (λ_=>False);have c:=fM.push (h++[.row (cl g)]++[.row [(),(),(0:Int),(0:Int)]]) (eO (eO tag h.length .none) (h.length+1) .none) (.row (cl g)) .none (λ_=>False);simp only[Zu,Xe,Xq,Xs,Zp,Zv,Zw]at b c;exact(a.trans b (S2:=λ_=>False) (λ_ q=>q) (λ_ q=>q)).trans c (λ_ q=>q) (λ_ q=>q)
 obtain⟨N,h1,t1,c1,o1,q1⟩:=qO Uh (h++[.row (cl g),.row [(),(),(0:Int),(0:Int)],.row (cl g)]) (eO (eO (eO tag h.length .none) (h.length+1) .none) (h.length+2) .none) .nodes (f_ g.nodes) false (by rw[dC];omega) (Ar _).1;have kB:=q1 h.length (.row (cl g)) (by rw[Zf (by simp)];simp) (λq=>q);have kR:=q1 (h.length+1) (.row [(),(),(0:Int),(0:Int)]) (by rw[Zf (by simp)];simp) (λq=>q);have kO:=q1 (h.length+2) (.row (cl g)) (by rw[Zf (by simp)];simp) (λq=>q);have tB:t1 h.length= .none:=kB.2.trans (by rw[xw (by omega),xw (by omega),hY]);have tR:t1 (h.length+1)= .none:=kR.2.trans (by rw[xw (by omega),hY]);have tO:t1 (h.length+2)= .none:=kO.2.trans (hY _ _ _);have frO:=fM.set h1 t1 (h.length+2) (.row [N,dz g.cj,g.nn,g.ne]) (S:=λt=>t= .none) tO;have lO:=(Za.1 kO.1).1;have F0:=Ld.trans q1 (S2:=λ_=>False) (λ_ q=>q) (λ_ q=>q);have C0:CpN h tag g N 0 (h1.set (h.length+2) (.row [N,dz g.cj,g.nn,g.ne])) t1:={
  f:=λj bl a1 a2=>by
   have k:=F0 j bl a1 (λq=>q);have jl:=(Za.1 a1).1;exact⟨by rw[Zq (by omega)];exact k.1,k.2⟩
  o:=Zj lO
  ot:=tO
  b:=by rw[Zq (by omega)];exact kB.1
  bt:=tB
  r:=by rw[Zq (by omega)];exact kR.1
  rt:=tR
  n:=⟨[],⟨by simp,λi a r ha=>by simp at ha⟩,by simpa using o1.fl frO (by simp)⟩}
 have hN:=km o1;rw[dC]at hN;have cN:=o1.cls;unfold cls at cN;have eN:=xv o1;have qN:=kV (λv=>o1.np v)
 have qN':=yr (λv=>o1.np v)
 have hO1:=kO.1;have zZ:∀y,(h1.set (h.length+2) y)[h.length+2]?=some y:=λy=>Zj lO
 obtain⟨N0,hN0⟩:∃N0,N0=N:=⟨N,rfl⟩;simp only[cl,dy,dz]at c1 hO1;rcases hN with⟨h0,rfl⟩|⟨h0,rfl⟩|⟨idN,rfl⟩
 all_goals
  simp[f87,cl,dy,dz,c1,hO1,zZ,cn,qN];refine lY (C:=cx) (G:=λr=>∃r0 h',dL _ (qM _ _ _ (du _ r) _)=some (r0,h')/\Uo _ _ _ r0 h')
   (λi s=>i<=g.nodes.length/\s.1.length=60/\gt s.1 1= .pt h.length 0/\gt s.1 2= .pt (h.length+1) 0/\gt s.1 3= .pt (h.length+2) 0/\gt s.1 14=N0/\gt s.1 15=g.nodes.length/\gt s.1 16=i/\∃tt,CpN h tag g N0 i s.2 tt)
   (λo s=>o= .exit 0/\s.1.length=60/\gt s.1 1= .pt h.length 0/\gt s.1 2= .pt (h.length+1) 0/\gt s.1 3= .pt (h.length+2) 0/\∃tt,CpN h tag g N0 g.nodes.length s.2 tt) g.nodes.length (by simp;omega) ?_ ?_ ?_
  .refine⟨by omega,rfl,rfl,rfl,rfl,hN0.symm,?_,rfl,_,by rw[hN0];exact C0⟩
   first|rfl|(rw[h0];rfl)
  .rintro i fr hp jw ⟨pS,cf,g1,g2,g3,g14,g15,g16,tt,HC⟩;simp only at cf g1 g2 g3 g14 g15 g16 HC;by_cases hi:i<g.nodes.length
   .obtain⟨m,hm⟩:=eA hi;have Ud:=zd m (Zi hm);obtain⟨id,cs,L,P,lL,Sb,tt4,e1,e2,e3,e4,e5,c1,k2,k3,k4,c2,k5,k6,k7,k8,n1,n2,d1,d2,HC'⟩:=Uk HC hm Ud.1 Ud.2;have kO:=HC.o;have lO:=(Za.1 kO).1;have hO':∀y,(hp++y)[h.length+2]?=some (.row [N0,dz g.cj,g.nn,g.ne]):=λy=>by rw[Zd lO];exact kO
    rw[e1]at g14 hO' k3 k6 k7;unfold cls at d1 d2;have eN0:fH (.sl id 3 0 g.nodes.length false) (.sl id 3 0 g.nodes.length false)=true:=by simp[fH]
    have qL:=λ(cal:iB)(ops:Array Oper)(d:Tmp)(rest:List Oper)(fr:LA)(h:Hp)=>tG (C:=cx) (cal:=cal) (ops:=ops) n1 d rest fr h
    have qP:=λ(cal:iB)(ops:Array Oper)(d:Tmp)(rest:List Oper)(fr:LA)(h:Hp)=>tG (C:=cx) (cal:=cal) (ops:=ops) n2 d rest fr h
    have b1:i*3+1+1<=cs.length:=by omega
    have b2:i*3+2+1<=cs.length:=by omega
    have b3:(cn cs (i*3+1) [L]).length=cs.length:=fF (by simp;omega);have yE:∀b,ch cx (n+1) b 134 [.ls 1 (fj m.labels) false] (hp++[.row (dh m)])=some (L,lL):=λb=>c1 n b
    have ye:∀b,ch cx (n+1) b 135 [.ls 6 (d_ m.props) false] (lL.set id (.row (cn cs (i*3+1) [L])))=some (P,Sb):=λb=>c2 n b
    have hf:=cG (i:=i) (by omega);simp[cf,g14,g15,g16,hi,e3,e4,e5];rw[wz (j:=1) (m:=6) ?_ ?_ ?_ ?_]
    rotate_left
    .kernel_rfl
    .simp
    .rfl
    .simp
    simp[cf,g3,hi,hO',yE,k2,k3,eN0,qL,d1,b1];rw[wz (j:=1) (m:=6) ?_ ?_ ?_ ?_]
    rotate_left
    .kernel_rfl
    .simp
    .rfl
    .simp
    simp[cf,g1,g2,g3,g14,g15,g16,hi,k7,k8,ye,k5,k6,eN0,qP,d2,b2,b3,hf];exact⟨hi,e1.symm,_,HC'⟩
   .have k_:i=g.nodes.length:=Nat.le_antisymm pS (Ya hi);subst k_;simp[cf,g1,g2,g3,g15,g16];exact⟨_,HC⟩
  .rintro o fr hp hn ⟨rfl,cf,g1,g2,g3,tt,HC⟩;simp only at cf g1 g2 g3 HC;obtain⟨nr,ha,ho⟩:=HC.n;rw[Xx]at ha;rw[Zt (by rw[dC];exact Xc _),Yr]at ho;obtain⟨V,lL,t2,v1,o2,q2⟩:=qO Ui hp tt .cj (fV g.cj) false (by rw[dD];omega) (Au _).1;have kB:=HC.b;have ZR:=q2 _ _ HC.o (λq=>q);have kR2:=q2 _ _ HC.r (λq=>q);have lO2:=(Za.1 ZR.1).1;have tO2:t2 (h.length+2)= .none:=ZR.2.trans HC.ot;have adt:=fM.set lL t2 (h.length+2) (.row [N0,V,g.nn,g.ne]) (S:=λt=>t= .none) tO2;have D0:CpE h tag g N0 V nr 0 (lL.set (h.length+2) (.row [N0,V,g.nn,g.ne])) t2:={
    f:=λj bl a1 a2=>by
     have k:=HC.f j bl a1 a2;have k2:=q2 j bl k.1 (λq=>q);have jl:=(Za.1 a1).1;exact⟨by rw[Zq (by omega)];exact k2.1,k2.2.trans k.2⟩
    o:=Zj lO2
    ot:=tO2
    r:=by rw[Zq (by omega)];exact kR2.1
    rt:=kR2.2.trans HC.rt
    ns:=(ho.fl q2 (λq=>q)).fl adt (by simp)
    na:=ha.imp λa _ r q=>(q.fl q2 (λq=>q) (λq=>q)).fl adt (by simp) (by simp)
    n:=⟨[],⟨by simp,λi a r ha=>by simp at ha⟩,by simpa using o2.fl adt (by simp)⟩}
   have hV:=km o2;rw[dD]at hV;have cV:=o2.cls;unfold cls at cV;have qV:=kV (λv=>o2.np v)
   have AA:∀y,(lL.set (h.length+2) y)[h.length+2]?=some y:=λy=>Zj lO2
   have hO2:=ZR.1;obtain⟨V0,hV0⟩:∃V0,V0=V:=⟨V,rfl⟩;simp only[cl,dy,dz]at kB hO2;rcases hV with⟨z0,rfl⟩|⟨z0,rfl⟩|⟨idV,rfl⟩
   all_goals
    simp[cf,g1,g3,kB,v1,hO2,AA,cn,qV];refine lY (C:=cx) (G:=λr=>∃r0 h',dL _ (qM _ _ _ (du _ r) _)=some (r0,h')/\Uo _ _ _ r0 h')
     (λi s=>i<=g.cj.length/\s.1.length=60/\gt s.1 2= .pt (h.length+1) 0/\gt s.1 3= .pt (h.length+2) 0/\gt s.1 43=V0/\gt s.1 44=g.cj.length/\gt s.1 45=i/\∃tt,CpE h tag g N0 V0 nr i s.2 tt)
     (λo s=>o= .exit 2/\s.1.length=60/\gt s.1 2= .pt (h.length+1) 0/\gt s.1 3= .pt (h.length+2) 0/\∃tt,CpE h tag g N0 V0 nr g.cj.length s.2 tt) g.cj.length (by simp;omega) ?_ ?_ ?_
    .first
      |(simp[cf,g2,g3,hV0,z0];exact⟨_,D0⟩)
      |(simp[cf,g2,g3,hV0];exact⟨_,D0⟩)
    .rintro i fr hp jw ⟨pS,cf,g2,g3,g14,g15,g16,tt,HC⟩;simp only at cf g2 g3 g14 g15 g16 HC;by_cases hi:i<g.cj.length
     .obtain⟨m,hm⟩:=eA hi;have Ud:=qD m (Zi hm);obtain⟨id,cs,P,lL,tt2,e1,e2,e3,e4,e5,c1,k2,k3,n1,d1,HC'⟩:=Un HC hm Ud;have kO:=HC.o;have lO:=(Za.1 kO).1;have hO':∀y,(hp++y)[h.length+2]?=some (.row [N0,V0,g.nn,g.ne]):=λy=>by rw[Zd lO];exact kO
      rw[e1]at g14 hO' k3;unfold cls at d1;have eN0:fH (.sl id 5 0 g.cj.length false) (.sl id 5 0 g.cj.length false)=true:=by simp[fH]
      have qP:=λ(cal:iB)(ops:Array Oper)(d:Tmp)(rest:List Oper)(fr:LA)(h:Hp)=>tG (C:=cx) (cal:=cal) (ops:=ops) n1 d rest fr h
      have b1:i*5+4+1<=cs.length:=by omega
      have yE:∀b,ch cx (n+1) b 135 [.ls 6 (d_ m.props) false] (hp++[.row (dP m)])=some (P,lL):=λb=>c1 n b
      have hf:=cG (i:=i) (by omega);simp[cf,g14,g15,g16,hi,e3,e4,e5];rw[wz (j:=1) (m:=6) ?_ ?_ ?_ ?_]
      rotate_left
      .kernel_rfl
      .simp
      .rfl
      .simp
      simp[cf,g2,g3,g14,g15,g16,hi,hO',yE,k2,k3,eN0,qP,d1,b1,hf];exact⟨hi,e1.symm,_,HC'⟩
     .have k_:i=g.cj.length:=Nat.le_antisymm pS (Ya hi);subst k_;simp[cf,g2,g3,g15,g16];exact⟨_,HC⟩
    .rintro o fr hp hn ⟨rfl,cf,g2,g3,tt,HC⟩;simp only at cf g2 g3 HC;obtain⟨er,hea,Oj⟩:=HC.n;rw[Xx]at hea;rw[Zt (by rw[dD];exact Xc _),Yr]at Oj;have kO:=HC.o;have kR:=HC.r;have lR:=(Za.1 kR).1;have hsR:∀y,(hp.set (h.length+1) y)[h.length+1]?=some y:=λy=>Zj lR
     have frR:=fM.set hp tt (h.length+1) (.row [N0,V0,g.nn,g.ne]) (S:=λt=>t= .none) HC.rt;simp[cf,g2,g3,kO,kR,hsR,cn];refine⟨_,_,⟨rfl,rfl⟩,N0,V0,tt,nr,er,rfl,HC.ns.fl frR (by simp),Oj.fl frR (by simp),HC.na.imp λa _ r q=>q.fl frR (by simp) (by simp),hea.imp λa _ r q=>q.fl frR (by simp),λj bl a1 a2=>?_⟩;have k:=HC.f j bl a1 a2;have jl:=(Za.1 a1).1;exact⟨by rw[Zq (by omega)];exact k.1,k.2⟩
def iy :Gr->List Ch->Nat->Gr × Int × Int
 |g,[],i=>(g,i,0)
 |g,c::cs,i=>if(iN g c).2=0 then iy (iN g c).1 cs (i+1)else(fq,i,(iN g c).2)
def OkF(D:Nat):Gr->List Ch->Prop
 |_,[]=>True
 |g,c::cs=>GV g/\NB g/\gS c.v<=D/\jK c.v/\((iN g c).2=0->OkF D (iN g c).1 cs)
def jE(g:Gr)(cs:List Ch):Gr × Int × Int:=if¬dQ g=0 then(fq,0,dQ g)else iy g cs 0
def sJ(cs:List Ch):List LA:=cs.map cB
def oK(l:List Ch):(sJ l).length=l.length:=by simp[sJ]
def FH(l:List Ch)(i:Nat):(sJ l)[i]?=(l[i]?).map cB:=by simp[sJ]
@[simp] def ag7(a0 a1 a2 a3 a4 a5 a6 a7 a8 a9:AV)(c:Ch):cn [a0,a1,a2,a3,a4,a5,a6,a7,a8,a9] 0 (cB c)=cB c:=by simp[cn]
def D4{h:Hp}{tag:Nat->Tg}{E:Nat}{g:Gr}{N V:AV}{nr er:List LA}(H:gp h tag E g N V nr er)(n:Nat):
 ∃y1 y2,Ae.cD h (n+4) (.ag [N,V,g.nn,g.ne])=some (.ag [y1,y2,g.nn,g.ne])/\GI (.ag [y1,y2,g.nn,g.ne])= .ag (cl g):=by
 obtain⟨r1,y1,a1,a2,a3,a4,a5⟩:=BG n H.ns H.na;obtain⟨r2,y2,b1,b2,b3,b4,b5⟩:=BH n H.es H.ea;have en:r1.map J5=f_ g.nodes:=by
  apply List.ext_getElem?;intro i;rw[Zs,iJ];cases hc:g.nodes[i]? with
  |
   none=>
   rw[Xh (by have:=List.getElem?_eq_none_iff.1 hc;omega)];rfl
  |some c=>
   obtain⟨r',h1,a,b,rfl,h2,h3⟩:=a5 i c hc;rw[h1];simp only[Yx,J5,h2,h3];rfl
 have ee:r2.map MR=fV g.cj:=by
  apply List.ext_getElem?;intro i;rw[Zs,jy];cases hc:g.cj[i]? with
  |
   none=>
   rw[Xh (by have:=List.getElem?_eq_none_iff.1 hc;omega)];rfl
  |some c=>
   obtain⟨r',h1,b,rfl,h3⟩:=b5 i c hc;rw[h1];simp only[Yx,MR,h3];rfl
 have l1:BA 3 J5 y1=dy g.nodes:=by
  rcases uL a2 with⟨z,rfl⟩|⟨rfl,rfl⟩
  .simp[BA,en,dy]
  .have:f_ g.nodes=[]:=by rw[<-en];rfl
   simp[BA,dy,this]
 have l2:BA 5 MR y2=dz g.cj:=by
  rcases uL b2 with⟨z,rfl⟩|⟨rfl,rfl⟩
  .simp[BA,ee,dz]
  .have:fV g.cj=[]:=by rw[<-ee];rfl
   simp[BA,dz,this]
 refine⟨y1,y2,?_,?_⟩
 .show([N,V,.sc (.int .i64 g.nn),.sc (.int .i64 g.ne)].mapM (Ae.cD h (n+3))).map AV.ag=_;rw[Zo,Zo,Zo,Zo,List.mapM_nil,a1,b1];simp[Ae.cD]
 .simp only[GI,l1,l2,cl]
def M2{x y:AV}{u v:AV}(h:GI x=y):xn (.tp [x,u,v])= .tp [y,u,v]:=by simp only[xn,h]
def Iw{h:Hp}{x x':AV}{u v:Value}(e:Ae.cD h 7 x=some x'):Ae.cD h 8 (.tp [x,.sc u,.sc v])=some (.tp [x',.sc u,.sc v]):=by
 show([x,.sc u,.sc v].mapM (Ae.cD h 7)).map AV.tp=_;rw[Zo,Zo,Zo,List.mapM_nil,e];simp[Ae.cD]
def Lk(n D:Nat)(b:Bool)(g:Gr)(cs:List Ch)(z:Bool)(h:Hp)(hg:qw D g)(hc:cs.length<=10^6)(gI:dQ g=0->OkF D g cs):
 ch cx (n+2*D+12) b 50 [.ag (cl g),.ls 10 (sJ cs) z] h=some (.tp [.ag (cl (jE g cs).1),.sc (.int .i64 (jE g cs).2.1),.sc (.int .i64 (jE g cs).2.2)],h):=by
 refine nA (n:=n+2*D+11) f50 [.cell 4 4 true,.tmp 5,.tmp 6] rfl ?_ b h;have aa:=λbb hh=>Am (n+3) D bb g hh hg
 rw[show n+3+2*D+8=n+2*D+11 by omega]at aa;unfold jE;by_cases he:dQ g=0
 .rw[cm (by simp[he])];have Sc:=HT he;have W_:=Uc he;have gI:=gI he;obtain⟨r,h1,c1,N,V,t1,nr,er,rfl,o1,o2,a1,a2,FO⟩:=Iv (n+2*D+9) true g (λ_=> .none) [.row (cl g),.row [(),(),(0:Int),(0:Int)]] Sc.nl Sc.el (λm hm=>by have:=gd (Sc.np m hm);omega) (λm hm=>by have:=gd (Sc.ep m hm);omega);have k4:=FO 1 _ rfl (by simp);have pE:=fM.push h1 t1 (.row [N,V,g.nn,g.ne]) .box (λ_=>False);have R0:gp (h1++[.row [N,V,g.nn,g.ne]]) (eO t1 h1.length .box) h1.length g N V nr er:={
   box:=by simp
   tb:=hY _ _ _
   ns:=o1.fl pE (λq=>q)
   es:=o2.fl pE (λq=>q)
   na:=a1.imp λa _ r q=>q.fl pE (λq=>q) (λq=>q)
   ea:=a2.imp λa _ r q=>q.fl pE (λq=>q)}
  have k5:=pE 1 _ k4.1 (λq=>q);have hq:=oK cs;have jc:=FH cs;generalize sJ cs=cg at hq jc|-;generalize hT:AV.tp [.ag (cl (iy g cs 0).1),.sc (.int .i64 (iy g cs 0).2.1),.sc (.int .i64 (iy g cs 0).2.2)]=T;rw[he]at aa;simp only[cl,dy,dz]at aa c1;simp[f50,cl,dy,dz,aa,c1,cn,hq];refine ej (C:=cx) (G:=λr=>∃r0 h',dL _ (eX _ _ (du _ r) _)=some (r0,h')/\∃r',Ae.cD h' 8 r0=some r'/\xn r'=T)
   (λi s=>∃gi tt N V nr er,i<=cs.length/\s.1.length=40/\gt s.1 1= .ls 10 cg z/\gt s.1 4= .pt 1 0/\gt s.1 8= .pt h1.length 0/\gt s.1 21= .ls 10 cg z/\gt s.1 22=cs.length/\gt s.1 23=i/\iy g cs 0=iy gi (cs.drop i) i/\OkF D gi (cs.drop i)/\gp s.2 tt h1.length gi N V nr er/\s.2[1]?=some (.row [(),(),(0:Int),(0:Int)])/\tt 1= .none)
   (λo s=>s.1.length=40/\gt s.1 4= .pt 1 0/\((o= .ret/\∃i e:Int,gt s.1 5=i/\gt s.1 6=e/\iy g cs 0=(fq,i,e)/\s.2[1]?=some (.row [(),(),(0:Int),(0:Int)]))\/
    (o= .exit 0/\gt s.1 1= .ls 10 cg z/\gt s.1 8= .pt h1.length 0/\∃gi tt N V nr er,iy g cs 0=(gi,(cs.length:Int),0)/\gp s.2 tt h1.length gi N V nr er/\s.2[1]?=some (.row [(),(),(0:Int),(0:Int)])/\tt 1= .none))) cs.length (by simp;omega) ?_ ?_ ?_
  .exact⟨g,_,N,V,nr,er,by omega,rfl,rfl,rfl,rfl,rfl,rfl,rfl,rfl,gI,R0,k5.1,k5.2.trans k4.2⟩
  .rintro i fr hp jw ⟨gi,tt,N',V',sH,uP,pS,cf,g1,g4,g8,g21,g22,g23,dq,gI,RG,eo,tz1⟩;simp only at cf g1 g4 g8 g21 g22 g23 RG eo;by_cases hi:i<cs.length
   .obtain⟨c,hc⟩:=eA hi;have hr:cg[i]?=some (cB c):=by rw[jc,hc];rfl
    have cz:=gA hr
    have Ke:cs.drop i=c::cs.drop (i+1):=by
     obtain⟨k,e⟩:=Za.1 hc;rw[Zm k,e]
    rw[Ke,iy]at dq;rw[Ke]at gI;obtain⟨v1,v2,v3,v4,v5⟩:=gI;have p1:=fM.push hp tt (.row (cB c)) .none (λ_=>False);have RG1:=eh RG (cB c);obtain⟨h',s1,⟨t4,s2⟩,s3⟩:=ZQ n D true h1.length gi c N' V' sH uP _ _ RG1 v1 v2 v3 v4;have kz:=p1 1 _ eo (λq=>q);have kz2:=s2 1 _ kz.1 (by rw[kz.2,tz1];simp);have hf:=cG (i:=i) (by omega);generalize iN gi c=r at dq s1 s3 v5;by_cases h0:r.2=0
    .rw[cq h0]at dq;rw[h0]at s1;obtain⟨t5,N2,V2,nr2,er2,RG2,FO2⟩:=s3 h0;have kz3:=FO2 1 _ kz.1 (by rw[kz.2,tz1];simp);simp[cf,g1,g4,g8,g21,g22,g23,hi,hq,hr,cz,s1,hf];exact⟨hi,r.1,dq,v5 h0,t5,⟨N2,V2,nr2,er2,RG2⟩,kz3.1,kz3.2.trans (kz.2.trans tz1)⟩
    .rw[cm h0]at dq;have BM:=kz2.1;have lz:=(Za.1 BM).1;have AA:∀y,(h'.set 1 y)[1]?=some y:=λy=>Zj lz
     simp[cf,g1,g4,g8,g21,g22,g23,hi,hq,hr,cz,s1,h0,BM,AA,cn];exact dq
   .have k_:i=cs.length:=Nat.le_antisymm pS (Ya hi);subst k_;rw[Yc,iy]at dq;simp[cf,g1,g4,g8,g21,g22,g23];exact⟨gi,dq,tt,⟨N',V',sH,uP,RG⟩,eo,tz1⟩
  .rintro o fr hp hn ⟨cf,g4,⟨rfl,i,e,g5,g6,dq,eo⟩|⟨rfl,g1,g8,gi,tt,N',V',sH,uP,dq,RG,eo,tz1⟩⟩
   .simp only at cf g4 g5 g6 eo;rw[dq]at hT;simp[cf,g4,g5,g6,eo];exact gq ⟨_,rfl,hT⟩
   .simp only at cf g1 g4 g8 RG eo;rw[dq]at hT;have hb:=RG.box;have lz:=(Za.1 eo).1;have AA:∀y,(hp.set 1 y)[1]?=some y:=λy=>Zj lz
    have RG':=RG.fl (fM.set hp tt 1 (.row [N',V',gi.nn,gi.ne]) (S:=λt=>t= .none) tz1);obtain⟨y1,y2,w1,w2⟩:=D4 RG' 3;simp[cf,g1,g4,g8,hb,eo,AA,hq,cn];exact gq ⟨_,Iw w1,by rw[<-hT];exact M2 w2⟩
 .rw[cq he];generalize dQ g=e at aa he;simp only[cl,dy,dz]at aa;simp[f50,cl,dy,dz,aa,he,cn];exact gq ⟨_,rfl,rfl⟩
end
section
attribute [local simp] cn eD
def Ll(c:Ch):(cB c).all eu=true:=by
 have h1:=nZ c;rw[Zn,Zh]at h1;exact h1.1
def Pn(n:Nat)(b x:Bool)(h:Hp):ch cx (n+1) b 448 [x] h=some (.sc (.int .i64 (tv x)),h):=by
 refine eR f448 [.tmp 2] rfl rfl ?_ b h;cases x<;>simp[f448,tv]
def ZS(n:Nat)(b:Bool)(x:Int)(h:Hp):ch cx (n+1) b 499 [x] h=some (.sc (.int .i64 (vq x)),h):=by
 refine eR f499 [.tmp 2] rfl rfl ?_ b h;by_cases h0:x=0
 .simp[f499,vq,h0]
 .by_cases h2:x=2
  .simp[f499,vq,h2]
  .simp[f499,vq,h0,h2]
def ZT(n:Nat)(b:Bool)(x y:Int)(h:Hp):ch cx (n+2) b 449 [x,y] h=some (.sc (.int .i64 (HW x y)),h):=by
 refine eR f449 [.tmp 4] rfl rfl ?_ b h;have aa:=ZS n;unfold HW;by_cases hc:vq y<vq x
 .simp[f449,aa,hc]
 .simp[f449,aa,hc]
def BQ(M:Nat)(k n d k' n' d':Int)(s s':ByteArray)(L L':AV)(N1 D1 N2 D2:Int)(B1 B2:Bool)(hL:eu L=true)(eW:eu L'=true)(af:∀b h,ch cx M b 347 [.ag [k,n,d,s,L]] h=some (.tp [kI N1 D1,B1],h))(ai:∀b h,ch cx M b 347 [.ag [k',n',d',s',L']] h=some (.tp [kI N2 D2,B2],h))(hy:∀x b h,ch cx M b 448 [.sc (.bool x)] h=some (.sc (.int .i64 (tv x)),h))(hB:¬(B1=true/\B2=true))(hn:(k=0\/k'=0)\/¬k=k'\/(¬k=8/\¬k=7))(b:Bool)(h:Hp):
 ch cx (M+1) b 373 [.ag [k,n,d,s,L],.ag [k',n',d',s',L']] h=some (.sc (.int .i64 (
  if k=0\/k'=0 then 1
  else if¬k=k' then 0
  else tv (decide (n=n') && fm s s'))),h):=by
 refine eR f373 [.tmp 4] (by rw[Zn,Zn,iL,iL];simp[hL,eW]) rfl ?_ b h;unfold kI at af ai;by_cases k0:k=0
 .simp[f373,k0]
 .by_cases J6:k'=0
  .simp[f373,k0,J6]
  .have tM:¬k=k'\/(¬k=8/\¬k=7):=by
    rcases hn with(e|e)|e
    .exact absurd e k0
    .exact absurd e J6
    .exact e
   clear hn;cases B1<;>cases B2
   case true.true=>exact absurd ⟨rfl,rfl⟩ hB
   all_goals
    by_cases hk:k=k'
    .subst hk;have h8:¬k=8/\¬k=7:=by
      rcases tM with e|e
      .exact absurd rfl e
      .exact e
     by_cases e1:n=n'
     .subst e1;simp[f373,k0,af,ai,hy,h8.1,h8.2]
     .simp[f373,k0,af,ai,hy,h8.1,h8.2,e1]
    .simp[f373,k0,J6,af,ai,hk]
end
end Go.Proofs.YtmfohnojaginjaaGreatDoor
