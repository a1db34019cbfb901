/- Part of the proof. -/
import Derived.Test.YtmfohnojaginjaaGreatDoorP19
set_option linter.all false
set_option maxHeartbeats 32000000
set_option maxRecDepth 100000
namespace Go.Proofs.YtmfohnojaginjaaGreatDoor
open Go Go.Ae Go.Proofs.Tryz
section
attribute [local simp] eD
@[simp] def Ph(k:ByteArray)(v:V):fK ⟨k,v⟩= .sc (.string k)::enc v:=rfl
def pT(x:ByteArray)(v:V)(pre post:List fZ):List fZ:=pre++(if lr v then[]else[⟨x,v⟩])++post
def Pj{h:Hp}{tag:Nat->Tg}{tg:Tg}{l:List fZ}{X:AV}(ho:iK h tag tg 6 (d_ l) X)(n:Nat):∃y,Ae.cD h (n+1) X=some y/\((∃z,y= .ls 6 (d_ l) z)\/(d_ l=[]/\y= .sc (.slice none 0 0))):=by
 obtain⟨y,a1,a2⟩:=ho.HD (n:=n) (by omega) (gQ _).1 (gQ _).2;exact⟨y,a1,uL a2⟩
def K9(n:Nat){h:Hp}{tag:Nat->Tg}{tg:Tg}{l pre eY post:List fZ}{X:AV}(ho:iK h tag tg 6 (d_ l) X)(hl:l.length<=10^6){x:ByteArray}(hs:gZ (CS x) (Dc x) l pre eY post)(b:Bool):
 ch cx (n+4) b 362 [X,x,.fn 363 []] h=some (.tp [pre.length,.sc (.bool !eY.isEmpty)],h):=by
 obtain⟨y,e1,hy⟩:=Pj ho 7;have ar:=Bx n l pre eY post x (d_ l) y hy (by omega) (cP l) (λi c hc=>by rw[lT,hc];rfl) hs b h;have hcy:dk y=true:=by rcases hy with⟨z,rfl⟩|⟨_,rfl⟩<;>rfl
 exact lj (n:=n+3) (ys:=[y,.sc (.string x),.fn 363 []]) (by kernel_rfl) (by kernel_rfl) (by
  rw[Zo,Zo,Zo,List.mapM_nil,e1];simp[Ae.cD]) (by rw[Zn,hcy];rfl) rfl ar
def km{h:Hp}{tag:Nat->Tg}{tg:Tg}{sz:Nat}{cg:List LA}{X:AV}(ho:iK h tag tg sz cg X):(cg.length=0/\X= .ls sz [] true)\/(cg.length=0/\X=())\/∃id,X= .sl id sz 0 cg.length false:=by
 rcases ho with⟨rfl,rfl|rfl⟩|⟨id,cs,rfl,_⟩
 .exact .inl ⟨rfl,rfl⟩
 .exact .inr (.inl ⟨rfl,rfl⟩)
 .exact .inr (.inr ⟨id,rfl⟩)
def rT{h:Hp}{tag:Nat->Tg}{tg:Tg}{sz:Nat}{pre post:List LA}{r r':LA}{id:Nat}{cs vs:LA}{o:Nat}(h1:h[id]?=some (.row cs))(h2:cs.take ((pre++[r]++post).length*sz)=(pre++[r]++post).flatten)(h3:(pre++[r]++post).length*sz<=cs.length)(h4:tag id=tg)(hr:∀y∈pre++[r]++post,y.length=sz)(ho:o+vs.length<=sz)(cz:r'=cn r o vs):
 iK (h.set id (.row (cn cs (pre.length*sz+o) vs))) tag tg sz (pre++[r']++post) (.sl id sz 0 (pre++[r]++post).length false):=by
 have hl:=(Za.1 h1).1;have cf:(pre++[r]++post).length=pre.length+1+post.length:=by simp;omega
 have hA:pre.flatten.length=pre.length*sz:=cQ pre λy hy=>hr y (by simp[hy])
 have hC:post.flatten.length=post.length*sz:=cQ post λy hy=>hr y (by simp[hy])
 have vp:r.length=sz:=hr r (by simp);have hN:(pre++[r]++post).length*sz=pre.length*sz+sz+post.length*sz:=by rw[cf,Xp,Xp,Nat.one_mul]
 obtain⟨D,hD⟩:∃D,cs=pre.flatten++r++post.flatten++D:=⟨cs.drop ((pre++[r]++post).length*sz),by
  have:=List.take_append_drop ((pre++[r]++post).length*sz) cs;have e:(pre++[r]++post).flatten=pre.flatten++r++post.flatten:=by simp
  rw[h2,e]at this;exact this.symm⟩
 have tq:cn cs (pre.length*sz+o) vs=pre.flatten++cn r o vs++post.flatten++D:=by
  unfold cn;have e1:cs.take (pre.length*sz+o)=pre.flatten++r.take o:=by
   rw[hD,Zp,Zp,<-hA,List.take_length_add_append,List.take_append_of_le_length (by omega)]
  have e2:cs.drop (pre.length*sz+o+vs.length)=r.drop (o+vs.length)++post.flatten++D:=by
   rw[hD,Zp,Zp,<-hA,Nat.add_assoc,List.drop_length_add_append,List.drop_append_of_le_length (by omega),Zp]
  rw[e1,e2];simp
 have oT:(cn r o vs).length=sz:=by rw[fF (by omega),vp]
 refine .inr ⟨id,_,by simp,Zj hl,?_,?_,h4⟩
 .rw[tq,cz];have e:(pre++[cn r o vs]++post).length*sz=(pre.flatten++cn r o vs++post.flatten).length:=by
   simp only[Zu,Xe,Xq,hA,hC,oT,Xp];omega
  rw[e,List.take_left' rfl];simp
 .have e:(pre++[r']++post).length=(pre++[r]++post).length:=by simp
  rw[e,fF (by rw[hN]at h3;omega)];exact h3
def abQ(N D:Nat)(b:Bool){h:Hp}{tag:Nat->Tg}{tg:Tg}{l pre eY post:List fZ}{X:AV}(ho:iK h tag tg 6 (d_ l) X)(hl:l.length<=16){x:ByteArray}{v:V}(hs:gZ (CS x) (Dc x) l pre eY post)(hd:gS v<=D)(hv:jK v)(htg:tg≠ .none):
 if(pT x v pre post).length<=16 then
  ∃X' h' dJ,ch cx (N+2*D+9) b 240 [X,x,.ag (enc v)] h=some (X',h')/\iK h' dJ tg 6 (d_ (pT x v pre post)) X'/\fM h tag h' dJ (λt=>t=tg)
 else∃h' dJ,ch cx (N+2*D+9) b 240 [X,x,.ag (enc v)] h=some (.pn (.iface 228 (.int .i64 20)),h')/\fM h tag h' dJ (λt=>t=tg):=by
 have kH:fM h tag (h++[.row (enc v)]) (eO tag h.length .none) (λt=>t=tg):=fM.push _ _ _ _ _;have fr0:fM h tag (h++[.row (enc v)]) (eO tag h.length .none) (λ_=>False):=fM.push _ _ _ _ _;have ho1:=ho.fl fr0 (λq=>q);have vF:(h++[eK.row (enc v)])[h.length]?=some (.row (enc v)):=by simp
 have ht1:eO tag h.length .none h.length= .none:=by unfold eO;rw[cq rfl]
 have aa:=λbb=>K9 (N+2*D+4) ho1 (by omega) hs bb
 have af:=λbb=>Tq N D bb v (h++[.row (enc v)]) hd hv
 have oZ:=qo (n:=N+2*D+8) (f:=240) (args:=[X,.sc (.string x),.ag (enc v)]) ⟨f240.ntmps,(f240.body).getD .skip,[.tmp 6]⟩ rfl (by kernel_rfl) (by kernel_rfl) (by kernel_rfl) (by kernel_rfl) (by simp[f240]) b h;have O9:=ho.np;have q0:=kV (λv=>O9 v)
 have hplen:pre.length<=l.length:=by rw[hs.e];simp
 have e5:cS .i64 ((pre.length:Int)+1)=(pre.length:Int)+1:=cu (by omega) (by omega);rw[oZ];have mh:=hs.one;cases hz:lr v
 .rw[hz]at af;have ZE:pT x v pre post=pre++[⟨x,v⟩]++post:=by unfold pT;rw[hz];rfl
  cases eY with
  |
   nil=>
   simp only[Qc,Xv]at aa;have el:l=pre++post:=by rw[hs.e];simp
   have ai:=jC (N+2*D+7);have f4':=j5 (N+2*D+7);have zd:(pT x v pre post).length=l.length+1:=by rw[ZE,el];simp;omega
   by_cases mN:l.length<16
   .rw[cq (by omega)];have c16:(l.length:Int)<16:=by omega
    have GJ:fM h tag (h++[.row (enc v)]++[.row (fK ⟨x,v⟩)]) (eO (eO tag h.length .none) (h.length+1) .none) (λ_=>False):=by
     have:=fM.push (h++[.row (enc v)]) (eO tag h.length .none) (.row (fK ⟨x,v⟩)) .none (λ_=>False);rw[Zu]at this;exact fr0.trans this (λ_ q=>q) (λ_ q=>q)
    have ho2:=ho.fl GJ (λq=>q);rw[el,jY]at ho2;have hw:∀r∈d_ pre++d_ post,r.length=6:=λr hr=>by rw[<-jY]at hr;exact(gQ _).1 r hr
    have tM:(d_ pre++d_ post).length+1<=1000000:=by rw[Zu,cP,cP];rw[el,Zu]at mN;omega
    obtain⟨X',h',dJ,g1,g2,g3⟩:=Ax (bytes:=80) (k:=false) (vs:=fK ⟨x,v⟩) (vid:=h.length+1) ho2 hw (by rw[Zf (by simp)];simp) (by simp) (by
     unfold eO;rw[cq rfl];exact λe=>htg e.symm) tM (by omega)
    have aj:=λbb=>(TU (N+2*D+7) bb _ _).trans g1
    have adl:=g2.np;have q2:=kV (λv=>adl v)
    refine⟨X',h',dJ,?_,by rw[ZE,jY,jY];exact g2,GJ.trans g3 (λ_ q=>q.elim) (λ_ q=>q)⟩;rw[cP]at aj;simp only[Zp,Zv,Zw,Ph]at aj;have cf:=cP l;rcases km ho with⟨h0,rfl⟩|⟨h0,rfl⟩|⟨id,rfl⟩
    .simp[f240,q2,aa,af,ai,aj,cn]
    .simp[f240,q2,aa,af,ai,aj,cn]
    .rw[cf]at aa aj|-;simp[f240,q2,aa,af,ai,aj,cn,c16]
   .rw[cm (by omega)];have c16:¬(l.length:Int)<16:=by omega
    refine⟨_,_,?_,kH⟩;have cf:=cP l;rcases km ho with⟨h0,rfl⟩|⟨h0,rfl⟩|⟨id,rfl⟩
    .omega
    .omega
    .rw[cf]at aa|-;simp[f240,aa,af,f4',c16]
  |cons p m=>
   have hm:m=[]:=by simpa using mh
   subst hm;simp only[Qd,Qa]at aa;have el:l=pre++[p]++post:=hs.e;have hk:p.key=x:=(iC _ _).1 (hs.m p (by simp)).2;rw[cq (by rw[ZE];rw[el]at hl;simpa using hl),ZE];have vp:d_ l=d_ pre++[fK p]++d_ post:=by rw[el,jY,jY];rfl
   rcases ho1 with⟨he,_⟩|⟨id,cs,rfl,h1,h2,h3,h4⟩
   .rw[vp]at he;simp at he
   .have cf:=cP l;have c1:pre.length<l.length:=by rw[el];simp
    have c2:pre.length*6+1+5<=cs.length:=by rw[cf]at h3;omega
    have hpu:=rT (o:=1) (vs:=enc v) (r':=fK ⟨x,v⟩) h1 (by rw[<-vp];exact h2) (by rw[<-vp];exact h3) h4 (λy hy=>by rw[<-vp]at hy;exact(gQ _).1 y hy) (by simp) (by
     obtain⟨k,w⟩:=p;simp only at hk;subst hk;simp[cn])
    rw[cP,<-vp]at hpu;refine⟨.sl id 6 0 (d_ l).length false,_,_,?_,?_,kH.trans (fM.set _ _ id (.row (cn cs (pre.length*6+1) (enc v))) (S:=λt=>t=tg) h4) (λ_ q=>q) (λ_ q=>q)⟩
    .rw[cf]at aa|-;simp[f240,aa,af,c1,c2,h1]
    .rw[jY,jY];exact hpu
 .rw[hz]at af;cases eY with
  |
   nil=>
   have e:pT x v pre post=l:=by unfold pT;rw[hz,hs.e];simp
   rw[e,cq hl];refine⟨X,_,_,?_,ho1,kH⟩;simp only[Qc,Xv]at aa;simp[f240,q0,aa,af]
  |cons p m=>
   have hm:m=[]:=by simpa using mh
   subst hm;simp only[Qd,Qa]at aa;have el:l=pre++[p]++post:=hs.e;have ZE:pT x v pre post=pre++post:=by unfold pT;rw[hz];simp
   rw[cq (by rw[ZE];rw[el]at hl;simp at hl|-;omega),ZE];have vp:d_ l=d_ pre++[fK p]++d_ post:=by rw[el,jY,jY];rfl
   rw[vp]at ho1;have hd2:=λbb=>Ay TX ho1 (λy hy=>by rw[<-vp]at hy;exact(gQ _).1 y hy) (by rw[<-vp,cP];omega) (N+2*D+7) bb
   obtain⟨X',h',g1,g2,g3⟩:=hd2 true;rw[cP]at g1;have adl:=g2.np;have q2:=kV (λv=>adl v)
   refine⟨X',h',_,?_,by rw[jY];exact g2,kH.trans g3 (λ_ q=>q) (λ_ q=>q)⟩;simp[f240,q0,q2,aa,af,e5,g1]
def D3{f:FuncId}{args:LA}{n:Nat}(bad:Nat->Bool)(fi:Fi)(hs:cx.oW f=none)(hi:cx.inl f=true)(hF:cx.F f=some fi)(hd:(jQ cx fi.body).isNone=true)(gI:FE cx bad fi.body=true)(hl:args.length<=fi.ntmps)(b:Bool)(h:Hp)(hp:jx f=true:=by decide):
 ch cx (n+1) b f args h=dL fi.res (eE cx (ch cx n) bad fi.body (args++List.replicate (fi.ntmps-args.length) .un,h)):=by
 have e1:cx.ins f=none:=Bc hp;have e2:(if args.all dk then cx.ux f args else none)=none:=by rw[show cx.ux f args=none from tw hp];split<;>rfl
 simp only[ch,hs,hi,if_true,e1,e2,hF,Yb.1 hd];exact uO hF gI hl h
def CV{f:FuncId}{args:LA}{n:Nat}(bad:Nat->Bool)(fn:Func)(res:List Rv){b:Bool}{h:Hp}(hs:cx.oW f=none:=by rfl)(hi:cx.inl f=true:=by kernel_rfl)(hF:cx.F f=some ⟨fn.ntmps,(fn.body).getD .skip,res⟩:=by kernel_rfl)(hd:(jQ cx ((fn.body).getD .skip)).isNone=true:=by kernel_rfl)(gI:FE cx bad ((fn.body).getD .skip)=true:=by kernel_rfl)(hl:Nat.ble args.length fn.ntmps=true:=by rfl)(hp:jx f=true:=by decide):ch cx (n+1) b f args h=dL res (eE cx (ch cx n) bad ((fn.body).getD .skip) (args++List.replicate (fn.ntmps-args.length) .un,h)):=
 D3 bad ⟨fn.ntmps,(fn.body).getD .skip,res⟩ hs hi hF hd gI (Nat.le_of_ble_eq_true hl) b h hp
def wz{C:Cx}{cal:iB}{l:List Oper}{j m:Nat}(hn:(needs C l.toArray,G0 C l.toArray)=([(j,m)],false))(hj:j<l.length)(hg:(l[j]'hj).guard=none)(hm:m<=l.length)(s:St):
 sG C cal true l s=oF (cp C cal l.toArray (l.take j) s) λsj=>oF (cp C cal l.toArray (l.take m) s) λsm=>K_ (lG C cal (ev C sj.1) sj.2 (l[j]'hj)) (lG C cal (ev C sj.1) sm.2 (l[j]'hj)) (cp C cal l.toArray l s):=
 ZF (congrArg Prod.fst hn) (Zb hj) hg hm (congrArg Prod.snd hn) s
def ZG{C:Cx}{cal:iB}{l:List Oper}{j m:Nat}(hn:needs C l.toArray=[(j,m)])(hj:j<l.length)(hg:(l[j]'hj).guard=none)(hm:m<=l.length)(s:St):
 sG C cal true l s=T9 (cp C cal l.toArray l s) (oF (cp C cal l.toArray (l.take j) s) λsj=>oF (cp C cal l.toArray (l.take m) s) λsm=>K_ (lG C cal (ev C sj.1) sj.2 (l[j]'hj)) (lG C cal (ev C sj.1) sm.2 (l[j]'hj)) (cp C cal l.toArray l s)) (vS C cal l.toArray s):=
 T_ hn (Zb hj) hg hm s
def ZH(r:Option St)(f:St->Prop):Prop:=match r with|some s=>f s|none=>False
@[simp] def afb(s:St)(f:St->Prop):ZH (some s) f=f s:=rfl
def H8{C:Cx}{cal:iB}{l:List Oper}(J:Nat)(post:List Oper){v:Value}{hP:Hp}(hJ:J<l.length)(dq:(G0 C l.toArray && (cU C (l[J]'hJ) && (needs C l.toArray).all (λq=>decide (J<q.2))) && (l[J]'hJ).guard.isNone)=true)(MM:DB (DA l.toArray J)=post){s:St}(hb:ZH (cp C cal l.toArray (l.take J) s) λsj=>lG C cal (ev C sj.1) sj.2 (l[J]'hJ)=some (.pn v,hP)/\ZH (cp C cal l.toArray post sj) λ_=>True):
 sG C cal true l s=some (.th v,(Sy l s.1,hP)):=by
 rw[Zh,Zh,Yb]at dq;unfold ZH at hb;split at hb
 .rename_i sj h1;obtain⟨h2,h3⟩:=hb;split at h3
  .rename_i s2 h4;exact ZI J dq.1.1 (Zb hJ) rfl MM dq.1.2 dq.2 h1 h2 h4
  .exact h3.elim
 .exact hb.elim
def xv{h:Hp}{tag:Nat->Tg}{tg:Tg}{sz:Nat}{cg:List LA}{x:AV}(ho:iK h tag tg sz cg x):fH x x=true:=by
 rcases ho with⟨_,rfl|rfl⟩|⟨id,cs,rfl,_⟩<;>simp[fH,mf,Ae.nU]
def Fo(h:Hp)(tag:Nat->Tg)(h':Hp)(dJ:Nat->Tg):Prop:=fM h tag h' dJ (λt=>t≠ .none)
def eh{h:Hp}{tag:Nat->Tg}{E:Nat}{g:Gr}{N V:AV}{nr er:List LA}(H:gp h tag E g N V nr er)(r:LA):gp (h++[.row r]) (eO tag h.length .none) E g N V nr er:=H.fl (fM.push _ _ _ _ _)
def kJ.split{α:Type}{R:α->LA->Prop}{l1 l2:List α}{cg:List LA}(h:kJ R (l1++l2) cg):∃r1 r2,cg=r1++r2/\kJ R l1 r1/\kJ R l2 r2:=by
 have hl:=h.1;rw[Zu]at hl;refine⟨cg.take l1.length,cg.drop l1.length,(List.take_append_drop _ _).symm,⟨by simp;omega,λi a r ha hr=>?_⟩,⟨by simp;omega,λi a r ha hr=>?_⟩⟩
 .rw[Xn]at hr;split at hr
  .exact h.2 i a r (by rw[Zd (by omega)];exact ha) hr
  .cases hr
 .rw[Xo]at hr;exact h.2 (l1.length+i) a r (by rw[Zf (by omega),Nat.add_sub_cancel_left];exact ha) hr
def kJ.app{α:Type}{R:α->LA->Prop}{l1 l2:List α}{r1 r2:List LA}(h1:kJ R l1 r1)(h2:kJ R l2 r2):kJ R (l1++l2) (r1++r2):=by
 refine⟨by rw[Zu,Zu,h1.1,h2.1],λi a r ha hr=>?_⟩;by_cases hi:i<l1.length
 .rw[Zd hi]at ha;rw[Zd (by rw[h1.1];exact hi)]at hr;exact h1.2 i a r ha hr
 .rw[Zf (by omega)]at ha;rw[Zf (by rw[h1.1];omega),h1.1]at hr;exact h2.2 _ a r ha hr
def kJ.one{α:Type}{R:α->LA->Prop}{a:α}{r:LA}(h:R a r):kJ R [a] [r]:=
 ⟨rfl,λi b s hb hs=>by
  cases i with
  |zero=>simp at hb hs;subst hb hs;exact h
  |succ i=>simp at hb⟩
def kJ.all{α:Type}{R:α->LA->Prop}{l:List α}{cg:List LA}(h:kJ R l cg){P:LA->Prop}(hp:∀a r,R a r->P r):∀r∈cg,P r:=λr hr=>by
 obtain⟨i,hi⟩:=List.mem_iff_getElem?.1 hr;have hl:=(Za.1 hi).1;rw[h.1]at hl;exact hp _ r (h.2 i _ r (Zb hl) hi)
def Dd.len{h:Hp}{tag:Nat->Tg}{n:Nd}{r:LA}(hr:Dd h tag n r):r.length=3:=by obtain⟨L,P,rfl,_⟩:=hr;rfl
def Fq.len{h:Hp}{tag:Nat->Tg}{n:Ed}{r:LA}(hr:Fq h tag n r):r.length=5:=by obtain⟨P,rfl,_⟩:=hr;rfl
def hY(tag:Nat->Tg)(i:Nat)(t:Tg):eO tag i t i=t:=by unfold eO;rw[cq rfl]
def xw{tag:Nat->Tg}{i j:Nat}{t:Tg}(h:j<i):eO tag i t j=tag j:=by unfold eO;rw[cm (by omega)]
@[simp] def ait(c:Ch)(h:0< (cB c).length):(cB c)[0]'h=c.k:=rfl
@[simp] def ahk(c:Ch)(h:1< (cB c).length):(cB c)[1]'h=c.a:=rfl
@[simp] def aij(c:Ch)(h:2< (cB c).length):(cB c)[2]'h=c.b:=rfl
@[simp] def ahL(c:Ch)(h:3< (cB c).length):(cB c)[3]'h=c.c:=rfl
@[simp] def ahV(c:Ch)(h:4< (cB c).length):(cB c)[4]'h=c.name:=rfl
@[simp] def aho(c:Ch):(cB c).drop 5=enc c.v:=rfl
@[simp] def ahf(s:St):tT [] s=some (.tp []):=rfl
def H9(n:Nat)(b:Bool)(E:Nat)(g:Gr)(c:Ch)(N V:AV)(nr er:List LA)(tag:Nat->Tg)(h:Hp)(pre post:List Nd)(H:gp h tag E g N V nr er)(hk:c.k=1)(cZ:1<=c.a/\c.a<=1000000)(hs:gZ (p_ c.a) (pB c.a) g.nodes pre [] post)(hl:g.nodes.length<2000):
 ∃h' dJ N' V' sH uP,ch cx (n+6) b 139 [.pt E 0,.ag (cB c)] h=some (.tp [],h')/\gp h' dJ E (qG g pre post ⟨c.a,[],[]⟩) N' V' sH uP/\Fo h tag h' dJ:=by
 have tU:=(Za.1 H.box).1;have aa:=λbb=>iO n bb E g N V nr er _ _ c.a pre [] post (eh H (cB c)) (by omega) hs
 have af:=jC (n+4);have GJ:fM h tag (h++[.row (cB c)]++[.row [c.a,(),()]]) (eO (eO tag h.length .none) (h.length+1) .none) (λ_=>False):=by
  have a:=fM.push h tag (.row (cB c)) .none (λ_=>False);have b:=fM.push (h++[.row (cB c)]) (eO tag h.length .none) (.row [c.a,(),()]) .none (λ_=>False);rw[Zu]at b;exact a.trans b (λ_ q=>q) (λ_ q=>q)
 have H2:gp (h++[.row (cB c)]++[.row [c.a,(),()]]) (eO (eO tag h.length .none) (h.length+1) .none) E g N V nr er:=H.fl (λid b h1 _=>GJ id b h1 (λq=>q));have BM:(h++[.row (cB c)]++[.row [c.a,(),()]])[h.length]?=some (.row (cB c)):=by simp
 have vB:(h++[.row (cB c)]++[.row [c.a,(),()]])[h.length+1]?=some (.row [c.a,(),()]):=by rw[Zf (by simp)];simp
 generalize hH2:h++[.row (cB c)]++[.row [c.a,(),()]]=h2,hT2:eO (eO tag h.length .none) (h.length+1) .none=t2 at *;have qJ:=H2.na;rw[hs.e,Yr]at qJ;obtain⟨r1,r2,hrr,oG,qK⟩:=qJ.split;have j6:=H2.ns;rw[hrr]at j6;have hw:=H2.na.all (P:=λr=>r.length=3) (λa r q=>q.len);rw[hrr]at hw;have J7:g.nodes.length=pre.length+post.length:=by rw[hs.e];simp
 obtain⟨x',h3,t3,g1,g2,g3⟩:=Ax (bytes:=56) (k:=false) j6 hw vB rfl (by rw[<-hT2,hY];simp) (by rw[Zu,oG.1,qK.1];omega) (by omega);rw[oG.1]at g1;have ah:=λbb=>(TV (n+4) bb _ _).trans g1
 have q1:=kV (λv=>H.ns.np v)
 have q1':=yr (λv=>H.ns.np v)
 have q2':=yr (λv=>g2.np v)
 have eN:=xv H.ns;have cN:=g2.cls;unfold cls at cN;have tV:∀y,(h++y)[E]?=some (.row [N,V,g.nn,g.ne]):=λy=>by rw[Zd tU];exact H.box
 have hE2:=H2.box;have hE3:=(g3 E _ hE2 (by rw[H2.tb];simp)).1;have Ua:=(g3 h.length _ BM (by rw[<-hT2,xw (by omega),hY];simp)).1;have adm:=(Za.1 hE3).1;have J8:∀y,(h3.set E y)[E]?=some y:=λy=>Zj adm
 have adn:∀y,(h3.set E y)[h.length]?=some (.row (cB c)):=λy=>by rw[Zq (by omega)];exact Ua
 have e1:cS .i64 (c.a+1)=c.a+1:=cu (by omega) (by omega);rw[CV (n:=n+5) (λi=>i==5||i==10||i==22) f139 []];have wS:(if g.nn<c.a+1 then c.a+1 else g.nn)=max g.nn (c.a+1):=by split<;>omega
 have hN:=km H.ns;rw[H.na.1]at hN;have CU:(g.nodes.length:Int)<2000:=by omega
 refine⟨h3.set E (.row [x',V,.sc (.int .i64 (max g.nn (c.a+1))),g.ne]),t3,x',V,r1++[[.sc (.int .i64 c.a),.sc (.slice none 0 0),.sc (.slice none 0 0)]]++r2,er,?_,?_,?_⟩
 .simp only[Qc,Xv]at aa;subst hH2;simp only[Zp,Zv,Zw]at ah;rcases hN with⟨h0,rfl⟩|⟨h0,rfl⟩|⟨id,rfl⟩
  all_goals
   simp[f139,aa,af,hk,tV,CU];rw[wz (j:=5) (m:=11) ?_ ?_ ?_ ?_]
   rotate_left
   .kernel_rfl
   .simp
   .rfl
   .simp
   simp[ah,tV,eN,q2',cn,hE3,cN,J8,adn,e1,wS]
 .have fr:fM h3 t3 (h3.set E (.row [x',V,.sc (.int .i64 (max g.nn (c.a+1))),g.ne])) t3 (λt=>t= .box):=fM.set h3 t3 E _ (by
   have:=(g3 E _ hE2 (by rw[H2.tb];simp)).2;rw[this,H2.tb])
  exact{
   box:=J8 _
   tb:=(g3 E _ hE2 (by rw[H2.tb];simp)).2.trans H2.tb
   ns:=g2.fl fr (by simp)
   es:=(H2.es.fl g3 (by simp)).fl fr (by simp)
   na:=by
    have e:(qG g pre post ⟨c.a,[],[]⟩).nodes=pre++[⟨c.a,[],[]⟩]++post:=by simp[qG]
    rw[e];refine((oG.imp λa _ r h1=>(h1.fl g3 (by simp) (by simp)).fl fr (by simp) (by simp)).app (kJ.one ⟨_,_,rfl,.inl ⟨rfl,.inr rfl⟩,.inl ⟨rfl,.inr rfl⟩⟩)).app (qK.imp λa _ r h1=>(h1.fl g3 (by simp) (by simp)).fl fr (by simp) (by simp))
   ea:=H2.ea.imp λa _ r h1=>(h1.fl g3 (by simp)).fl fr (by simp)}
 .have fr:fM h3 t3 (h3.set E (.row [x',V,.sc (.int .i64 (max g.nn (c.a+1))),g.ne])) t3 (λt=>t= .box):=fM.set h3 t3 E _ (by
   have:=(g3 E _ hE2 (by rw[H2.tb];simp)).2;rw[this,H2.tb])
  exact(GJ.trans g3 (S2:=λt=>t≠ .none) (λ_ q=>q.elim) (λ_ q=>by rw[q];simp)).trans fr (λ_ q=>q) (λ_ q=>by rw[q];simp)
def H_(n:Nat)(b:Bool)(E:Nat)(g:Gr)(c:Ch)(N V:AV)(nr er:List LA)(tag:Nat->Tg)(h:Hp)(pre post:List Nd)(m:Nd)(H:gp h tag E g N V nr er)(hk:c.k=1)(hs:gZ (p_ c.a) (pB c.a) g.nodes pre [m] post)(hl:g.nodes.length<=2000):
 ∃h' dJ,ch cx (n+6) b 139 [.pt E 0,.ag (cB c)] h=some (.pn (.iface 228 (.int .i64 7)),h')/\Fo h tag h' dJ:=by
 have tU:=(Za.1 H.box).1;have aa:=λbb=>iO n bb E g N V nr er _ _ c.a pre [m] post (eh H (cB c)) (by omega) hs
 have zo:=j5 (n+4);have tV:∀y,(h++y)[E]?=some (.row [N,V,g.nn,g.ne]):=λy=>by rw[Zd tU];exact H.box
 rw[CV (n:=n+5) (λi=>i==5||i==10||i==22) f139 []];refine⟨_,_,?_,fM.push h tag (.row (cB c)) .none _⟩;simp only[Qd,Qa]at aa;simp[f139,aa,zo,hk]
def Ia(n:Nat)(b:Bool)(E:Nat)(g:Gr)(c:Ch)(N V:AV)(nr er:List LA)(tag:Nat->Tg)(h:Hp)(pre post:List Nd)(H:gp h tag E g N V nr er)(hk:c.k=1)(hs:gZ (p_ c.a) (pB c.a) g.nodes pre [] post)(hl:g.nodes.length<=2000)(hf:2000<=g.nodes.length):
 ∃h' dJ,ch cx (n+6) b 139 [.pt E 0,.ag (cB c)] h=some (.pn (.iface 228 (.int .i64 20)),h')/\Fo h tag h' dJ:=by
 have tU:=(Za.1 H.box).1;have aa:=λbb=>iO n bb E g N V nr er _ _ c.a pre [] post (eh H (cB c)) (by omega) hs
 have af:=jC (n+4);have zo:=j5 (n+4);have tV:∀y,(h++y)[E]?=some (.row [N,V,g.nn,g.ne]):=λy=>by rw[Zd tU];exact H.box
 rw[CV (n:=n+5) (λi=>i==5||i==10||i==22) f139 []];refine⟨_,_,?_,fM.push h tag (.row (cB c)) .none _⟩;simp only[Qc,Xv]at aa;have hN:=km H.ns;rw[H.na.1]at hN;have CU:¬(g.nodes.length:Int)<2000:=by omega
 rcases hN with⟨h0,rfl⟩|⟨h0,rfl⟩|⟨id,rfl⟩
 .omega
 .omega
 .simp[f139,aa,af,zo,hk,tV,CU]
def Ib(n:Nat)(b:Bool)(E:Nat)(g:Gr)(c:Ch)(N V:AV)(nr er:List LA)(tag:Nat->Tg)(h:Hp)(pre post:List Nd)(H:gp h tag E g N V nr er)(hk:¬c.k=1)(hs:gZ (p_ c.a) (pB c.a) g.nodes pre [] post)(hl:g.nodes.length<=2000):
 ∃h' dJ,ch cx (n+6) b 139 [.pt E 0,.ag (cB c)] h=some (.pn (.iface 228 (.int .i64 10)),h')/\Fo h tag h' dJ:=by
 have tU:=(Za.1 H.box).1;have aa:=λbb=>iO n bb E g N V nr er _ _ c.a pre [] post (eh H (cB c)) (by omega) hs
 have zo:=j5 (n+4);have tV:∀y,(h++y)[E]?=some (.row [N,V,g.nn,g.ne]):=λy=>by rw[Zd tU];exact H.box
 rw[CV (n:=n+5) (λi=>i==5||i==10||i==22) f139 []];refine⟨_,_,?_,fM.push h tag (.row (cB c)) .none _⟩;simp only[Qc,Xv]at aa;simp[f139,aa,zo,hk]
def iw{h:Hp}{tag:Nat->Tg}{tg:Tg}{sz:Nat}{pre post:List LA}{r:LA}{N:AV}(ho:iK h tag tg sz (pre++[r]++post) N)(hr:∀y∈pre++[r]++post,y.length=sz):
 ∃id cs,N= .sl id sz 0 (pre++[r]++post).length false/\h[id]?=some (.row cs)/\tag id=tg/\cs.take ((pre++[r]++post).length*sz)=(pre++[r]++post).flatten/\(pre++[r]++post).length*sz<=cs.length/\∀j x,r[j]?=some x->cs[pre.length*sz+j]?=some x:=by
 rcases ho with⟨he,_⟩|⟨id,cs,rfl,h1,h2,h3,h4⟩
 .simp at he
 .refine⟨id,cs,rfl,h1,h4,h2,h3,λj x hj=>?_⟩;have hA:pre.flatten.length=pre.length*sz:=cQ pre λy hy=>hr y (by simp[hy])
  have mZ:=(Za.1 hj).1;have e:(pre++[r]++post).flatten[pre.length*sz+j]?=some x:=by
   rw[List.flatten_append,List.flatten_append,Zp,<-hA,Zf (by omega),Nat.add_sub_cancel_left];simp only[List.flatten_cons,List.flatten_nil,Yr];rw[Zd mZ];exact hj
  rw[<-h2,Xn]at e;split at e
  .exact e
  .cases e
def MZ{h h3:Hp}{tag t3:Nat->Tg}{E:Nat}{g:Gr}{N V x':AV}{nr er:List LA}{pre post:List Nd}{m:Nd}{ls:List ByteArray}{id:Nat}{cs:LA}{i:Nat}(H:gp h tag E g N V nr er)(he:g.nodes=pre++[m]++post)(eF:∀a∈pre++post,a.id≠m.id)(hN:N= .sl id 3 0 i false)(cZ:h[id]?=some (.row cs))(hx:iK h3 t3 (.qE m.id) 1 (fj ls) x')(hf:fM h tag h3 t3 (λt=>t= .qE m.id)):
 ∃sH,gp (h3.set id (.row (cn cs (pre.length*3+1) [x']))) t3 E {g with nodes:=pre++[{m with labels:=ls}]++post} N V sH er/\fM h tag (h3.set id (.row (cn cs (pre.length*3+1) [x']))) t3 (λt=>t= .qE m.id\/t= .nodes):=by
 have qJ:=H.na;rw[he]at qJ;obtain⟨tW,r3,hr,oH,zY⟩:=qJ.split;obtain⟨r1,r2,cz,oG,qK⟩:=oH.split;subst cz;obtain⟨r,rfl⟩:∃r,r2=[r]:=Qe.1 qK.1;obtain⟨L,P,rfl,o1,o2⟩:=qK.2 0 m r rfl rfl;have j6:=H.ns;rw[hr]at j6;have hw:=H.na.all (P:=λr=>r.length=3) (λa r q=>q.len);rw[hr]at hw;obtain⟨id',cs',e1,e2,e3,e4,e5,e6⟩:=iw j6 hw;rw[hN]at e1;simp only[AV.sl.injEq,true_and,and_true]at e1;obtain⟨rfl,rfl⟩:=e1;rw[cZ]at e2;cases e2;have k1:=hf id _ cZ (by rw[e3];simp);have oz:=rT (o:=1) (vs:=[x']) (r':=[.sc (.int .i64 m.id),x',P]) k1.1 e4 e5 (k1.2.trans e3) hw (by simp) (by simp[cn]);rw[oG.1]at oz;have fr:fM h3 t3 (h3.set id (.row (cn cs (pre.length*3+1) [x']))) t3 (λt=>t= .nodes):=fM.set h3 t3 id _ (k1.2.trans e3);have kE:=hf E _ H.box (by rw[H.tb];simp);refine⟨r1++[[.sc (.int .i64 m.id),x',P]]++r3,{
  box:=(fr E _ kE.1 (by rw[kE.2,H.tb];simp)).1
  tb:=kE.2.trans H.tb
  ns:=by rw[hN];exact oz
  es:=(H.es.fl hf (by simp)).fl fr (by simp)
  na:=((oG.imp λa ha r q=>(q.fl hf (by simpa using eF a (by simp[ha])) (by simp)).fl fr (by simp) (by simp)).app (kJ.one (a:=({m with labels:=ls}:Nd)) ⟨x',P,rfl,hx.fl fr (by simp),(o2.fl hf (by simp)).fl fr (by simp)⟩)).app (zY.imp λa ha r q=>(q.fl hf (by simpa using eF a (by simp[ha])) (by simp)).fl fr (by simp) (by simp))
  ea:=H.ea.imp λa _ r q=>(q.fl hf (by simp)).fl fr (by simp)},hf.trans fr (λ_ q=> .inl q) (λ_ q=> .inr q)⟩
def Ub{h h3:Hp}{tag t3:Nat->Tg}{E:Nat}{g:Gr}{N V x':AV}{nr er:List LA}{pre post:List Nd}{m:Nd}{ls:List fZ}{id:Nat}{cs:LA}{i:Nat}(H:gp h tag E g N V nr er)(he:g.nodes=pre++[m]++post)(eF:∀a∈pre++post,a.id≠m.id)(hN:N= .sl id 3 0 i false)(cZ:h[id]?=some (.row cs))(hx:iK h3 t3 (.prop m.id) 6 (d_ ls) x')(hf:fM h tag h3 t3 (λt=>t= .prop m.id)):
 ∃sH,gp (h3.set id (.row (cn cs (pre.length*3+2) [x']))) t3 E {g with nodes:=pre++[{m with props:=ls}]++post} N V sH er/\fM h tag (h3.set id (.row (cn cs (pre.length*3+2) [x']))) t3 (λt=>t= .prop m.id\/t= .nodes):=by
 have qJ:=H.na;rw[he]at qJ;obtain⟨tW,r3,hr,oH,zY⟩:=qJ.split;obtain⟨r1,r2,cz,oG,qK⟩:=oH.split;subst cz;obtain⟨r,rfl⟩:∃r,r2=[r]:=Qe.1 qK.1;obtain⟨L,P,rfl,o1,o2⟩:=qK.2 0 m r rfl rfl;have j6:=H.ns;rw[hr]at j6;have hw:=H.na.all (P:=λr=>r.length=3) (λa r q=>q.len);rw[hr]at hw;obtain⟨id',cs',e1,e2,e3,e4,e5,e6⟩:=iw j6 hw;rw[hN]at e1;simp only[AV.sl.injEq,true_and,and_true]at e1;obtain⟨rfl,rfl⟩:=e1;rw[cZ]at e2;cases e2;have k1:=hf id _ cZ (by rw[e3];simp);have oz:=rT (o:=2) (vs:=[x']) (r':=[.sc (.int .i64 m.id),L,x']) k1.1 e4 e5 (k1.2.trans e3) hw (by simp) (by simp[cn]);rw[oG.1]at oz;have fr:fM h3 t3 (h3.set id (.row (cn cs (pre.length*3+2) [x']))) t3 (λt=>t= .nodes):=fM.set h3 t3 id _ (k1.2.trans e3);have kE:=hf E _ H.box (by rw[H.tb];simp);refine⟨r1++[[.sc (.int .i64 m.id),L,x']]++r3,{
  box:=(fr E _ kE.1 (by rw[kE.2,H.tb];simp)).1
  tb:=kE.2.trans H.tb
  ns:=by rw[hN];exact oz
  es:=(H.es.fl hf (by simp)).fl fr (by simp)
  na:=((oG.imp λa ha r q=>(q.fl hf (by simp) (by simpa using eF a (by simp[ha]))).fl fr (by simp) (by simp)).app (kJ.one (a:=({m with props:=ls}:Nd)) ⟨L,x',rfl,(o1.fl hf (by simp)).fl fr (by simp),hx.fl fr (by simp)⟩)).app (zY.imp λa ha r q=>(q.fl hf (by simp) (by simpa using eF a (by simp[ha]))).fl fr (by simp) (by simp))
  ea:=H.ea.imp λa _ r q=>(q.fl hf (by simp)).fl fr (by simp)},hf.trans fr (λ_ q=> .inl q) (λ_ q=> .inr q)⟩
def Pk{h h3:Hp}{tag t3:Nat->Tg}{E:Nat}{g:Gr}{N V x':AV}{nr er:List LA}{pre post:List Ed}{m:Ed}{ls:List fZ}{id:Nat}{cs:LA}{i:Nat}(H:gp h tag E g N V nr er)(he:g.cj=pre++[m]++post)(eF:∀a∈pre++post,a.id≠m.id)(hN:V= .sl id 5 0 i false)(cZ:h[id]?=some (.row cs))(hx:iK h3 t3 (.DW m.id) 6 (d_ ls) x')(hf:fM h tag h3 t3 (λt=>t= .DW m.id)):
 ∃uP,gp (h3.set id (.row (cn cs (pre.length*5+4) [x']))) t3 E {g with cj:=pre++[{m with props:=ls}]++post} N V nr uP/\fM h tag (h3.set id (.row (cn cs (pre.length*5+4) [x']))) t3 (λt=>t= .DW m.id\/t= .cj):=by
 have qJ:=H.ea;rw[he]at qJ;obtain⟨tW,r3,hr,oH,zY⟩:=qJ.split;obtain⟨r1,r2,cz,oG,qK⟩:=oH.split;subst cz;obtain⟨r,rfl⟩:∃r,r2=[r]:=Qe.1 qK.1;obtain⟨P,rfl,o2⟩:=qK.2 0 m r rfl rfl;have j6:=H.es;rw[hr]at j6;have hw:=H.ea.all (P:=λr=>r.length=5) (λa r q=>q.len);rw[hr]at hw;obtain⟨id',cs',e1,e2,e3,e4,e5,e6⟩:=iw j6 hw;rw[hN]at e1;simp only[AV.sl.injEq,true_and,and_true]at e1;obtain⟨rfl,rfl⟩:=e1;rw[cZ]at e2;cases e2;have k1:=hf id _ cZ (by rw[e3];simp);have oz:=rT (o:=4) (vs:=[x']) (r':=[.sc (.int .i64 m.id),.sc (.int .i64 m.src),.sc (.int .i64 m.dst),.sc (.string m.type),x']) k1.1 e4 e5 (k1.2.trans e3) hw (by simp) (by simp[cn]);rw[oG.1]at oz;have fr:fM h3 t3 (h3.set id (.row (cn cs (pre.length*5+4) [x']))) t3 (λt=>t= .cj):=fM.set h3 t3 id _ (k1.2.trans e3);have kE:=hf E _ H.box (by rw[H.tb];simp);refine⟨r1++[[.sc (.int .i64 m.id),.sc (.int .i64 m.src),.sc (.int .i64 m.dst),.sc (.string m.type),x']]++r3,{
  box:=(fr E _ kE.1 (by rw[kE.2,H.tb];simp)).1
  tb:=kE.2.trans H.tb
  ns:=(H.ns.fl hf (by simp)).fl fr (by simp)
  es:=by rw[hN];exact oz
  na:=H.na.imp λa _ r q=>(q.fl hf (by simp) (by simp)).fl fr (by simp) (by simp)
  ea:=((oG.imp λa ha r q=>(q.fl hf (by simpa using eF a (by simp[ha]))).fl fr (by simp)).app (kJ.one (a:=({m with props:=ls}:Ed)) ⟨x',rfl,hx.fl fr (by simp)⟩)).app (zY.imp λa ha r q=>(q.fl hf (by simpa using eF a (by simp[ha]))).fl fr (by simp))},hf.trans fr (λ_ q=> .inl q) (λ_ q=> .inr q)⟩
def La{x:Int}{l pre post:List Nd}{m:Nd}(hs:gZ (p_ x) (pB x) l pre [m] post):∀a∈pre++post,a.id≠m.id:=λa ha e=>by
 have hm:=(hs.m m (by simp)).2;unfold pB at hm;rw[Zy]at hm;have:pB x a=false:=by
  rcases Zz.1 ha with q|q
  .exact(hs.p a q).2
  .exact(hs.q a q).2
 unfold pB at this;rw[decide_eq_false_iff_not]at this;exact this (e.trans hm)
def mU(l m:List ByteArray):fj (l++m)=fj l++fj m:=by simp[fj]
def oI(n:Nat){h:Hp}{tag:Nat->Tg}{tg:Tg}{l pre eY post:List ByteArray}{X:AV}(ho:iK h tag tg 1 (fj l) X)(hl:l.length<=10^6){x:ByteArray}(hs:gZ (KS x) (yu x) l pre eY post)(b:Bool):
 ch cx (n+3) b 237 [X,x] h=some (.tp [pre.length,.sc (.bool !eY.isEmpty)],h):=by
 obtain⟨y,e1,e2⟩:=ho.HD (n:=7) (by omega) (gm _).1 (gm _).2;have hy:=uL e2;have K8:(∃z,y= .ls 1 (fj l) z)\/(l=[]/\y=()):=hy.imp (λq=>q) (λq=>⟨by simpa[fj]using q.1,q.2⟩);have ar:=yA n l pre eY post x y K8 (by omega) hs b h;have hcy:dk y=true:=by rcases hy with⟨z,rfl⟩|⟨_,rfl⟩<;>rfl
 exact lj (n:=n+2) (ys:=[y,.sc (.string x)]) (by kernel_rfl) (by kernel_rfl) (by
  rw[Zo,Zo,List.mapM_nil,e1];simp[Ae.cD]) (by rw[Zn,hcy];rfl) rfl ar
def Ic(n:Nat)(b:Bool)(E:Nat)(g:Gr)(c:Ch)(N V:AV)(nr er:List LA)(tag:Nat->Tg)(h:Hp)(pre post:List Nd)(m:Nd)(lp lm lq:List ByteArray)(y:ByteArray)(H:gp h tag E g N V nr er)(hs:gZ (p_ c.a) (pB c.a) g.nodes pre [m] post)(hl:g.nodes.length<=2000)(hl8:m.labels.length<=8)(dm:gZ (KS c.name) (yu c.name) m.labels lp [y] lq)(hk:c.k=3):
 ∃h' dJ,ch cx (n+6) b 139 [.pt E 0,.ag (cB c)] h=some (.pn (.iface 228 (.int .i64 7)),h')/\Fo h tag h' dJ:=by
 have tU:=(Za.1 H.box).1;have aa:=λbb=>iO n bb E g N V nr er _ _ c.a pre [m] post (eh H (cB c)) (by omega) hs
 simp only[Qd,Qa]at aa;have af:=jC (n+4);have zo:=j5 (n+4);have tV:∀y,(h++y)[E]?=some (.row [N,V,g.nn,g.ne]):=λy=>by rw[Zd tU];exact H.box
 have J7:g.nodes.length=pre.length+1+post.length:=by rw[hs.e];simp;omega
 have qJ:=H.na;rw[hs.e]at qJ;obtain⟨tW,r3,hr,oH,zY⟩:=qJ.split;obtain⟨r1,r2,cz,oG,qK⟩:=oH.split;subst cz;obtain⟨r,rfl⟩:∃r,r2=[r]:=Qe.1 qK.1;obtain⟨L,P,rfl,o1,o2⟩:=qK.2 0 m r rfl rfl;have j6:=H.ns;rw[hr]at j6;have hw:=H.na.all (P:=λr=>r.length=3) (λa r q=>q.len);rw[hr]at hw;obtain⟨id,cs,hN,cZ,sI,_,dZ,wT⟩:=iw j6 hw;have hL:=wT 1 L rfl;have hP:=wT 2 P rfl;have cf:(r1++[[.sc (.int .i64 m.id),L,P]]++r3).length=pre.length+1+post.length:=by simp[oG.1,zY.1];omega
 rw[cf]at hN dZ;rw[oG.1]at hL hP;have Ie:pre.length*3+1+1<=cs.length:=by omega
 have qD:pre.length<pre.length+1+post.length:=by omega
 have ng:=(Za.1 cZ).1;have sP:∀y,(h++y)[id]?=some (.row cs):=λy=>by rw[Zd ng];exact cZ
 have qL:=yr (λv=>o1.np v)
 have qL':=kV (λv=>o1.np v)
 have kH:=fM.push h tag (.row (cB c)) .none (λ_=>False);have ah:=λbb=>oI (n+2) (o1.fl kH (λq=>q)) (by omega) dm bb
 rw[CV (n:=n+5) (λi=>i==5||i==10||i==22) f139 []];refine⟨_,_,?_,fM.push h tag (.row (cB c)) .none _⟩;simp only[Qd,Qa]at ah;subst hN;simp[f139,aa,af,zo,ah,hk,tV,sP,qD,hL,qL]
def Ig(n:Nat)(b:Bool)(E:Nat)(g:Gr)(c:Ch)(N V:AV)(nr er:List LA)(tag:Nat->Tg)(h:Hp)(pre post:List Nd)(m:Nd)(lp lm lq:List ByteArray)(H:gp h tag E g N V nr er)(hs:gZ (p_ c.a) (pB c.a) g.nodes pre [m] post)(hl:g.nodes.length<=2000)(hl8:m.labels.length<=8)(dm:gZ (KS c.name) (yu c.name) m.labels lp [] lq)(hk:c.k=3)(hf:8<=m.labels.length):
 ∃h' dJ,ch cx (n+6) b 139 [.pt E 0,.ag (cB c)] h=some (.pn (.iface 228 (.int .i64 20)),h')/\Fo h tag h' dJ:=by
 have tU:=(Za.1 H.box).1;have aa:=λbb=>iO n bb E g N V nr er _ _ c.a pre [m] post (eh H (cB c)) (by omega) hs
 simp only[Qd,Qa]at aa;have af:=jC (n+4);have zo:=j5 (n+4);have tV:∀y,(h++y)[E]?=some (.row [N,V,g.nn,g.ne]):=λy=>by rw[Zd tU];exact H.box
 have J7:g.nodes.length=pre.length+1+post.length:=by rw[hs.e];simp;omega
 have qJ:=H.na;rw[hs.e]at qJ;obtain⟨tW,r3,hr,oH,zY⟩:=qJ.split;obtain⟨r1,r2,cz,oG,qK⟩:=oH.split;subst cz;obtain⟨r,rfl⟩:∃r,r2=[r]:=Qe.1 qK.1;obtain⟨L,P,rfl,o1,o2⟩:=qK.2 0 m r rfl rfl;have j6:=H.ns;rw[hr]at j6;have hw:=H.na.all (P:=λr=>r.length=3) (λa r q=>q.len);rw[hr]at hw;obtain⟨id,cs,hN,cZ,sI,_,dZ,wT⟩:=iw j6 hw;have hL:=wT 1 L rfl;have hP:=wT 2 P rfl;have cf:(r1++[[.sc (.int .i64 m.id),L,P]]++r3).length=pre.length+1+post.length:=by simp[oG.1,zY.1];omega
 rw[cf]at hN dZ;rw[oG.1]at hL hP;have Ie:pre.length*3+1+1<=cs.length:=by omega
 have qD:pre.length<pre.length+1+post.length:=by omega
 have ng:=(Za.1 cZ).1;have sP:∀y,(h++y)[id]?=some (.row cs):=λy=>by rw[Zd ng];exact cZ
 have qL:=yr (λv=>o1.np v)
 have qL':=kV (λv=>o1.np v)
 have kH:=fM.push h tag (.row (cB c)) .none (λ_=>False);have ah:=λbb=>oI (n+2) (o1.fl kH (λq=>q)) (by omega) dm bb
 rw[CV (n:=n+5) (λi=>i==5||i==10||i==22) f139 []];refine⟨_,_,?_,fM.push h tag (.row (cB c)) .none _⟩;simp only[Qc,Xv]at ah;subst hN;have c8:¬(m.labels.length:Int)<8:=by omega
 have hLf:=km o1;rw[di]at hLf;rcases hLf with⟨h0,rfl⟩|⟨h0,rfl⟩|⟨id',rfl⟩
 .omega
 .omega
 .simp[f139,aa,af,zo,ah,hk,tV,sP,qD,hL,c8]
def Ih(n:Nat)(b:Bool)(E:Nat)(g:Gr)(c:Ch)(N V:AV)(nr er:List LA)(tag:Nat->Tg)(h:Hp)(pre post:List Nd)(m:Nd)(lp lm lq:List ByteArray)(H:gp h tag E g N V nr er)(hs:gZ (p_ c.a) (pB c.a) g.nodes pre [m] post)(hl:g.nodes.length<=2000)(hl8:m.labels.length<=8)(dm:gZ (KS c.name) (yu c.name) m.labels lp [] lq)(hk:c.k=3)(hf:m.labels.length<8):
 ∃h' dJ N' V' sH uP,ch cx (n+6) b 139 [.pt E 0,.ag (cB c)] h=some (.tp [],h')/\gp h' dJ E {g with nodes:=pre++[{m with labels:=lp++[c.name]++lq}]++post} N' V' sH uP/\Fo h tag h' dJ:=by
 have tU:=(Za.1 H.box).1;have aa:=λbb=>iO n bb E g N V nr er _ _ c.a pre [m] post (eh H (cB c)) (by omega) hs
 simp only[Qd,Qa]at aa;have af:=jC (n+4);have tV:∀y,(h++y)[E]?=some (.row [N,V,g.nn,g.ne]):=λy=>by rw[Zd tU];exact H.box
 have J7:g.nodes.length=pre.length+1+post.length:=by rw[hs.e];simp;omega
 have qJ:=H.na;rw[hs.e]at qJ;obtain⟨tW,r3,hr,oH,zY⟩:=qJ.split;obtain⟨r1,r2,cz,oG,qK⟩:=oH.split;subst cz;obtain⟨r,rfl⟩:∃r,r2=[r]:=Qe.1 qK.1;obtain⟨L,P,rfl,o1,o2⟩:=qK.2 0 m r rfl rfl;have j6:=H.ns;rw[hr]at j6;have hw:=H.na.all (P:=λr=>r.length=3) (λa r q=>q.len);rw[hr]at hw;obtain⟨id,cs,hN,cZ,sI,_,dZ,wT⟩:=iw j6 hw;have hL:=wT 1 L rfl;have hP:=wT 2 P rfl;have cf:(r1++[[.sc (.int .i64 m.id),L,P]]++r3).length=pre.length+1+post.length:=by simp[oG.1,zY.1];omega
 rw[cf]at hN dZ;rw[oG.1]at hL hP;have Ie:pre.length*3+1+1<=cs.length:=by omega
 have qD:pre.length<pre.length+1+post.length:=by omega
 have ng:=(Za.1 cZ).1;have sP:∀y,(h++y)[id]?=some (.row cs):=λy=>by rw[Zd ng];exact cZ
 have eF:=La hs;have qL:=yr (λv=>o1.np v)
 have qL':=kV (λv=>o1.np v)
 have kH:=fM.push h tag (.row (cB c)) .none (λ_=>False);have ah:=λbb=>oI (n+2) (o1.fl kH (λq=>q)) (by omega) dm bb
 have GJ:fM h tag (h++[.row (cB c)]++[.row [c.name]]) (eO (eO tag h.length .none) (h.length+1) .none) (λ_=>False):=by
  have b:=fM.push (h++[.row (cB c)]) (eO tag h.length .none) (.row [c.name]) .none (λ_=>False);rw[Zu]at b;exact kH.trans b (λ_ q=>q) (λ_ q=>q)
 have el:m.labels=lp++lq:=by rw[dm.e];simp
 have o3:=o1.fl GJ (λq=>q);rw[el,mU]at o3;obtain⟨x',h3,t3,g1,g2,g3⟩:=Ax (bytes:=16) (k:=false) (vs:=[.sc (.string c.name)]) (vid:=h.length+1) o3 (λr hr=>by rw[<-mU]at hr;exact(gm _).1 r hr) (by rw[Zf (by simp)];simp) rfl (by rw[hY];simp) (by rw[<-mU,di,<-el];omega) (by omega);rw[di]at g1;have hx:iK h3 t3 (.qE m.id) 1 (fj (lp++[c.name]++lq)) x':=by rw[mU,mU];exact g2
 have ai:=λbb=>(K3 (n+4) bb _ _).trans g1
 simp only[Zp,Zv,Zw]at ai;have q2:=yr (λv=>g2.np v)
 have eL:=xv o1;have cX:=g2.cls;unfold cls at cX;have k2:=g3 id (.row cs) (GJ id _ cZ (λq=>q)).1 (by rw[(GJ id _ cZ (λq=>q)).2,sI];simp);obtain⟨sH,hG,hF⟩:=MZ H hs.e eF hN cZ hx (GJ.trans g3 (λ_ q=>q.elim) (λ_ q=>q));refine⟨_,_,_,_,_,_,?_,hG,λi bl q1 q2=>hF i bl q1 (by rintro(q|q)<;>(rw[q]at q2;simp at q2))⟩;subst hN;simp only[Qc,Xv]at ah;have c8:(m.labels.length:Int)<8:=by omega
 have hLf:=km o1;rw[di]at hLf;rw[CV (n:=n+5) (λi=>i==5||i==10||i==22) f139 []];rcases hLf with⟨h0,rfl⟩|⟨h0,rfl⟩|⟨id',rfl⟩
 all_goals
  simp[f139,aa,af,ah,hk,tV,sP,qD,hL,c8];rw[wz (j:=4) (m:=9) ?_ ?_ ?_ ?_]
  rotate_left
  .kernel_rfl
  .simp
  .rfl
  .simp
  simp[ai,sP,hL,eL,q2,cn,k2.1,cX,Ie]
def Ii(n:Nat)(b:Bool)(E:Nat)(g:Gr)(c:Ch)(N V:AV)(nr er:List LA)(tag:Nat->Tg)(h:Hp)(pre post:List Nd)(m:Nd)(lp lm lq:List ByteArray)(H:gp h tag E g N V nr er)(hs:gZ (p_ c.a) (pB c.a) g.nodes pre [m] post)(hl:g.nodes.length<=2000)(hl8:m.labels.length<=8)(dm:gZ (KS c.name) (yu c.name) m.labels lp [] lq)(hk:c.k=4):
 ∃h' dJ,ch cx (n+6) b 139 [.pt E 0,.ag (cB c)] h=some (.pn (.iface 228 (.int .i64 23)),h')/\Fo h tag h' dJ:=by
 have tU:=(Za.1 H.box).1;have aa:=λbb=>iO n bb E g N V nr er _ _ c.a pre [m] post (eh H (cB c)) (by omega) hs
 simp only[Qd,Qa]at aa;have af:=jC (n+4);have zo:=j5 (n+4);have tV:∀y,(h++y)[E]?=some (.row [N,V,g.nn,g.ne]):=λy=>by rw[Zd tU];exact H.box
 have J7:g.nodes.length=pre.length+1+post.length:=by rw[hs.e];simp;omega
 have qJ:=H.na;rw[hs.e]at qJ;obtain⟨tW,r3,hr,oH,zY⟩:=qJ.split;obtain⟨r1,r2,cz,oG,qK⟩:=oH.split;subst cz;obtain⟨r,rfl⟩:∃r,r2=[r]:=Qe.1 qK.1;obtain⟨L,P,rfl,o1,o2⟩:=qK.2 0 m r rfl rfl;have j6:=H.ns;rw[hr]at j6;have hw:=H.na.all (P:=λr=>r.length=3) (λa r q=>q.len);rw[hr]at hw;obtain⟨id,cs,hN,cZ,sI,_,dZ,wT⟩:=iw j6 hw;have hL:=wT 1 L rfl;have hP:=wT 2 P rfl;have cf:(r1++[[.sc (.int .i64 m.id),L,P]]++r3).length=pre.length+1+post.length:=by simp[oG.1,zY.1];omega
 rw[cf]at hN dZ;rw[oG.1]at hL hP;have Ie:pre.length*3+1+1<=cs.length:=by omega
 have qD:pre.length<pre.length+1+post.length:=by omega
 have ng:=(Za.1 cZ).1;have sP:∀y,(h++y)[id]?=some (.row cs):=λy=>by rw[Zd ng];exact cZ
 have qL:=yr (λv=>o1.np v)
 have qL':=kV (λv=>o1.np v)
 have kH:=fM.push h tag (.row (cB c)) .none (λ_=>False);have ah:=λbb=>oI (n+2) (o1.fl kH (λq=>q)) (by omega) dm bb
 rw[CV (n:=n+5) (λi=>i==5||i==10||i==22) f139 []];refine⟨_,_,?_,fM.push h tag (.row (cB c)) .none _⟩;simp only[Qc,Xv]at ah;subst hN;simp[f139,aa,af,zo,ah,hk,tV,sP,qD,hL,qL]
def Ij(n:Nat)(b:Bool)(E:Nat)(g:Gr)(c:Ch)(N V:AV)(nr er:List LA)(tag:Nat->Tg)(h:Hp)(pre post:List Nd)(m:Nd)(lp lm lq:List ByteArray)(y:ByteArray)(H:gp h tag E g N V nr er)(hs:gZ (p_ c.a) (pB c.a) g.nodes pre [m] post)(hl:g.nodes.length<=2000)(hl8:m.labels.length<=8)(dm:gZ (KS c.name) (yu c.name) m.labels lp [y] lq)(hk:c.k=4):
 ∃h' dJ N' V' sH uP,ch cx (n+6) b 139 [.pt E 0,.ag (cB c)] h=some (.tp [],h')/\gp h' dJ E {g with nodes:=pre++[{m with labels:=lp++lq}]++post} N' V' sH uP/\Fo h tag h' dJ:=by
 have tU:=(Za.1 H.box).1;have aa:=λbb=>iO n bb E g N V nr er _ _ c.a pre [m] post (eh H (cB c)) (by omega) hs
 simp only[Qd,Qa]at aa;have af:=jC (n+4);have zo:=j5 (n+4);have tV:∀y,(h++y)[E]?=some (.row [N,V,g.nn,g.ne]):=λy=>by rw[Zd tU];exact H.box
 have J7:g.nodes.length=pre.length+1+post.length:=by rw[hs.e];simp;omega
 have qJ:=H.na;rw[hs.e]at qJ;obtain⟨tW,r3,hr,oH,zY⟩:=qJ.split;obtain⟨r1,r2,cz,oG,qK⟩:=oH.split;subst cz;obtain⟨r,rfl⟩:∃r,r2=[r]:=Qe.1 qK.1;obtain⟨L,P,rfl,o1,o2⟩:=qK.2 0 m r rfl rfl;have j6:=H.ns;rw[hr]at j6;have hw:=H.na.all (P:=λr=>r.length=3) (λa r q=>q.len);rw[hr]at hw;obtain⟨id,cs,hN,cZ,sI,_,dZ,wT⟩:=iw j6 hw;have hL:=wT 1 L rfl;have hP:=wT 2 P rfl;have cf:(r1++[[.sc (.int .i64 m.id),L,P]]++r3).length=pre.length+1+post.length:=by simp[oG.1,zY.1];omega
 rw[cf]at hN dZ;rw[oG.1]at hL hP;have Ie:pre.length*3+1+1<=cs.length:=by omega
 have ZJ:pre.length*3+2+1<=cs.length:=by omega
 have qD:pre.length<pre.length+1+post.length:=by omega
 have ng:=(Za.1 cZ).1;have sP:∀y,(h++y)[id]?=some (.row cs):=λy=>by rw[Zd ng];exact cZ
 have eF:=La hs;have qL:=yr (λv=>o1.np v)
 have qL':=kV (λv=>o1.np v)
 have kH:=fM.push h tag (.row (cB c)) .none (λ_=>False);have ah:=λbb=>oI (n+2) (o1.fl kH (λq=>q)) (by omega) dm bb
 have el:m.labels=lp++[y]++lq:=dm.e;have o3:=o1.fl kH (λq=>q);have vp:fj m.labels=fj lp++[[.sc (.string y)]]++fj lq:=by rw[el,mU,mU];rfl
 rw[vp]at o3;obtain⟨x',h3,g1,g2,g3⟩:=Ay K4 o3 (λr hr=>by rw[<-vp]at hr;exact(gm _).1 r hr) (by rw[<-vp,di];omega) (n+4) true;rw[di]at g1;have hx:iK h3 (eO tag h.length .none) (.qE m.id) 1 (fj (lp++lq)) x':=by rw[mU];exact g2
 have q2:=kV (λv=>g2.np v)
 have cX:=g2.cls;unfold cls at cX;have k2:=g3 id (.row cs) (kH id _ cZ (λq=>q)).1 (by rw[(kH id _ cZ (λq=>q)).2,sI];simp);have zd:lp.length<=8:=by rw[el]at hl8;simp at hl8;omega
 have e5:cS .i64 ((lp.length:Int)+1)=(lp.length:Int)+1:=cu (by omega) (by omega);obtain⟨sH,hG,hF⟩:=MZ H hs.e eF hN cZ hx (kH.trans g3 (λ_ q=>q.elim) (λ_ q=>q));refine⟨_,_,_,_,_,_,?_,hG,λi bl q1 q2=>hF i bl q1 (by rintro(q|q)<;>(rw[q]at q2;simp at q2))⟩;subst hN;simp only[Qd,Qa]at ah;rw[CV (n:=n+5) (λi=>i==5||i==10||i==22) f139 []];simp[f139,aa,af,ah,hk,tV,sP,qD,hL,qL,qL',e5,g1,q2,cn,k2.1,cX,Ie]
def Lb(n D:Nat)(b:Bool)(E:Nat)(g:Gr)(c:Ch)(N V:AV)(nr er:List LA)(tag:Nat->Tg)(h:Hp)(pre post:List Nd)(m:Nd)(pp pm pq:List fZ)(H:gp h tag E g N V nr er)(hs:gZ (p_ c.a) (pB c.a) g.nodes pre [m] post)(hl:g.nodes.length<=2000)(ado:m.props.length<=16)(GK:gZ (CS c.name) (Dc c.name) m.props pp pm pq)(hd:gS c.v<=D)(hv:jK c.v)(hk:c.k≠1/\c.k≠2/\c.k≠3/\c.k≠4):
 if(pT c.name c.v pp pq).length<=16 then∃h' dJ N' V' sH uP,ch cx (n+2*D+10) b 139 [.pt E 0,.ag (cB c)] h=some (.tp [],h')/\gp h' dJ E {g with nodes:=pre++[{m with props:=pT c.name c.v pp pq}]++post} N' V' sH uP/\Fo h tag h' dJ else∃h' dJ,ch cx (n+2*D+10) b 139 [.pt E 0,.ag (cB c)] h=some (.pn (.iface 228 (.int .i64 20)),h')/\Fo h tag h' dJ:=by
 have tU:=(Za.1 H.box).1;have aa:=λbb=>iO (n+2*D+4) bb E g N V nr er _ _ c.a pre [m] post (eh H (cB c)) (by omega) hs
 simp only[Qd,Qa]at aa;have af:=jC (n+2*D+8);have tV:∀y,(h++y)[E]?=some (.row [N,V,g.nn,g.ne]):=λy=>by rw[Zd tU];exact H.box
 have J7:g.nodes.length=pre.length+1+post.length:=by rw[hs.e];simp;omega
 have qJ:=H.na;rw[hs.e]at qJ;obtain⟨tW,r3,hr,oH,zY⟩:=qJ.split;obtain⟨r1,r2,cz,oG,qK⟩:=oH.split;subst cz;obtain⟨r,rfl⟩:∃r,r2=[r]:=Qe.1 qK.1;obtain⟨L,P,rfl,o1,o2⟩:=qK.2 0 m r rfl rfl;have j6:=H.ns;rw[hr]at j6;have hw:=H.na.all (P:=λr=>r.length=3) (λa r q=>q.len);rw[hr]at hw;obtain⟨id,cs,hN,cZ,sI,_,dZ,wT⟩:=iw j6 hw;have hL:=wT 1 L rfl;have hP:=wT 2 P rfl;have cf:(r1++[[.sc (.int .i64 m.id),L,P]]++r3).length=pre.length+1+post.length:=by simp[oG.1,zY.1];omega
 rw[cf]at hN dZ;rw[oG.1]at hL hP;have Ie:pre.length*3+1+1<=cs.length:=by omega
 have ZJ:pre.length*3+2+1<=cs.length:=by omega
 have qD:pre.length<pre.length+1+post.length:=by omega
 have ng:=(Za.1 cZ).1;have sP:∀y,(h++y)[id]?=some (.row cs):=λy=>by rw[Zd ng];exact cZ
 have eF:=La hs;have kH:=fM.push h tag (.row (cB c)) .none (λ_=>False);have ah:=abQ n D false (o2.fl kH (λq=>q)) ado GK hd hv (by simp);have qP:=yr (λv=>o2.np v)
 obtain⟨mS,WW,x9,hk4⟩:=hk;split
 .rename_i mN;rw[cq mN]at ah;obtain⟨x',h3,t3,g1,hx,g3⟩:=ah;have q2:=yr (λv=>hx.np v)
  have cX:=hx.cls;unfold cls at cX;have k2:=g3 id (.row cs) (kH id _ cZ (λq=>q)).1 (by rw[(kH id _ cZ (λq=>q)).2,sI];simp);obtain⟨sH,hG,hF⟩:=Ub H hs.e eF hN cZ hx (kH.trans g3 (λ_ q=>q.elim) (λ_ q=>q));refine⟨_,_,_,_,_,_,?_,hG,λi bl q1 q2=>hF i bl q1 (by rintro(q|q)<;>(rw[q]at q2;simp at q2))⟩;subst hN;rw[CV (n:=n+2*D+9) (λi=>i==5||i==10||i==22) f139 []];simp[f139,aa,af,mS,WW,x9,hk4,tV,qD];rw[ZK ?_]
  rotate_left
  .kernel_rfl
  simp[sP,hP,qP,g1,q2,cn,k2.1,cX,ZJ]
 .rename_i mN;rw[cm mN]at ah;obtain⟨h3,t3,g1,g3⟩:=ah;refine⟨h3,t3,?_,(kH.trans g3 (S2:=λt=>t≠ .none) (λ_ q=>q.elim) (λ_ q=>by rw[q];simp))⟩;subst hN;rw[CV (n:=n+2*D+9) (λi=>i==5||i==10||i==22) f139 []];simp[f139,aa,af,mS,WW,x9,hk4,tV,qD];rw[H8 9 [] (v:= .iface 228 (.int .i64 20)) (hP:=h3) ?_ ?_ ?_ ?_]
  rotate_left
  .simp
  .kernel_rfl
  .kernel_rfl
  .simp[sP,hP,qP,g1]
  simp
end
end Go.Proofs.YtmfohnojaginjaaGreatDoor
