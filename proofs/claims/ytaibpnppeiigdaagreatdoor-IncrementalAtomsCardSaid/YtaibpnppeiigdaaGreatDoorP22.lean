/- Part of the proof. -/
import Derived.Test.YtaibpnppeiigdaaGreatDoorP21
set_option linter.all false
set_option maxHeartbeats 32000000
set_option maxRecDepth 100000
namespace Go.Proofs.YtaibpnppeiigdaaGreatDoor
open Go Go.Ae Go.Proofs.Tryz
section
attribute [local simp] zi XM
def Md {x:Int}{l pre post:List Nd}{m:Nd}(hs:iX (qM x) (qp x) l pre [m] post):∀a∈pre++post,a.id≠m.id:=λa ha e=>by
 have hm:=(hs.m m (by simp)).2;unfold qp at hm;rw[Zz]at hm;have:qp x a=false:=by
  rcases Ya.1 ha with q|q
  .exact(hs.p a q).2
  .exact(hs.q a q).2
 unfold qp at this;rw[decide_eq_false_iff_not]at this;exact this (e.trans hm)
def nU (l m:List ByteArray):gP (l++m)=gP l++gP m:=by simp[gP]
def pG (n:Nat){h:Hp}{tag:Nat->Tg}{tg:Tg}{l pre gj post:List ByteArray}{X:AV}(ho:js h tag tg 1 (gP l) X)(hl:l.length<=1000000){x:ByteArray}(hs:iX (LG x) (yv x) l pre gj post)(b:Bool):
 cW cx (n+3) b 172 [X,.sc (.string x)] h=some (.tp [pre.length,.sc (.bool !gj.isEmpty)],h):=by
 obtain⟨y,e1,e2⟩:=ho.Iq (n:=7) (by omega) (jK _).1 (jK _).2;have hy:=u5 e2;have Gd:(∃z,y= .ls 1 (gP l) z)\/(l=[]/\y=()):=hy.imp (λq=>q) (λq=>⟨by simpa[gP]using q.1,q.2⟩);have ak:=yI n l pre gj post x y Gd (by omega) hs b h;have hcy:d_ y=true:=by rcases hy with⟨z,rfl⟩|⟨_,rfl⟩<;>rfl
 exact mr (n:=n+2) (ys:=[y,.sc (.string x)]) (by kernel_rfl) (by kernel_rfl) (by
  rw[Zo,Zo,List.mapM_nil,e1];simp[Ae.dq]) (by rw[Zn,hcy];rfl) rfl ak
def I9 (n:Nat)(b:Bool)(E:Nat)(g:Gr)(c:Ch)(N V:AV)(nr er:List LA)(tag:Nat->Tg)(h:Hp)(pre post:List Nd)(m:Nd)(lp lm lq:List ByteArray)(y:ByteArray)(H:iF h tag E g N V nr er)(hs:iX (qM c.a) (qp c.a) g.nodes pre [m] post)(hl:g.nodes.length<=2000)(hl8:m.labels.length<=8)(dY:iX (LG c.name) (yv c.name) m.labels lp [y] lq)(hk:c.k=3):
 ∃h' eO,cW cx (n+6) b 107 [.pt E 0,.ag (dp c)] h=some (.pn (.iface 150 (.int .i64 7)),h')/\Fo h tag h' eO:=by
 have uq:=(Za.1 H.box).1;have aa:=λbb=>jw n bb E g N V nr er _ _ c.a pre [m] post (fQ H (dp c)) (by omega) hs
 simp only[Qd,Xj]at aa;have ae:=kc (n+4);have zD:=kK (n+4);have ur:∀y,(h++y)[E]?=some (.row [N,V,g.nn,g.ne]):=λy=>by rw[Zd uq];exact H.box
 have EB:g.nodes.length=pre.length+1+post.length:=by rw[hs.e];simp;omega
 have po:=H.na;rw[hs.e]at po;obtain⟨U2,r3,hr,pF,Aj⟩:=po.split;obtain⟨r1,r2,du,oV,rF⟩:=pF.split;subst du;obtain⟨r,rfl⟩:∃r,r2=[r]:=Qe.1 rF.1;obtain⟨L,P,rfl,o1,o2⟩:=rF.2 0 m r rfl rfl;have ou:=H.ns;rw[hr]at ou;have hw:=H.na.all (P:=λr=>r.length=3) (λa r q=>q.len);rw[hr]at hw;obtain⟨id,cs,hN,dC,rT,_,fq,zE⟩:=i_ ou hw;have hL:=zE 1 L rfl;have hP:=zE 2 P rfl;have cU:(r1++[[.sc (.int .i64 m.id),L,P]]++r3).length=pre.length+1+post.length:=by simp[oV.1,Aj.1];omega
 rw[cU]at hN fq;rw[oV.1]at hL hP;have I_:pre.length*3+1+1<=cs.length:=by omega
 have pT:pre.length<pre.length+1+post.length:=by omega
 have jD:=(Za.1 dC).1;have py:∀y,(h++y)[id]?=some (.row cs):=λy=>by rw[Zd jD];exact dC
 have qL:=NZ (λv=>o1.np v)
 have qL':=oG (λv=>o1.np v)
 have lX:=gW.push h tag (.row (dp c)) .none (λ_=>False);have af:=λbb=>pG (n+2) (o1.gH lX (λq=>q)) (by omega) dY bb
 rw[De (n:=n+5) (λi=>i==5||i==10||i==22) f107 []];refine⟨_,_,?_,gW.push h tag (.row (dp c)) .none _⟩;simp only[Qd,Xj]at af;subst hN;simp[f107,aa,ae,zD,af,hk,ur,py,pT,hL,qL]
def Ja (n:Nat)(b:Bool)(E:Nat)(g:Gr)(c:Ch)(N V:AV)(nr er:List LA)(tag:Nat->Tg)(h:Hp)(pre post:List Nd)(m:Nd)(lp lm lq:List ByteArray)(H:iF h tag E g N V nr er)(hs:iX (qM c.a) (qp c.a) g.nodes pre [m] post)(hl:g.nodes.length<=2000)(hl8:m.labels.length<=8)(dY:iX (LG c.name) (yv c.name) m.labels lp [] lq)(hk:c.k=3)(hf:8<=m.labels.length):
 ∃h' eO,cW cx (n+6) b 107 [.pt E 0,.ag (dp c)] h=some (.pn (.iface 150 (.int .i64 20)),h')/\Fo h tag h' eO:=by
 have uq:=(Za.1 H.box).1;have aa:=λbb=>jw n bb E g N V nr er _ _ c.a pre [m] post (fQ H (dp c)) (by omega) hs
 simp only[Qd,Xj]at aa;have ae:=kc (n+4);have zD:=kK (n+4);have ur:∀y,(h++y)[E]?=some (.row [N,V,g.nn,g.ne]):=λy=>by rw[Zd uq];exact H.box
 have EB:g.nodes.length=pre.length+1+post.length:=by rw[hs.e];simp;omega
 have po:=H.na;rw[hs.e]at po;obtain⟨U2,r3,hr,pF,Aj⟩:=po.split;obtain⟨r1,r2,du,oV,rF⟩:=pF.split;subst du;obtain⟨r,rfl⟩:∃r,r2=[r]:=Qe.1 rF.1;obtain⟨L,P,rfl,o1,o2⟩:=rF.2 0 m r rfl rfl;have ou:=H.ns;rw[hr]at ou;have hw:=H.na.all (P:=λr=>r.length=3) (λa r q=>q.len);rw[hr]at hw;obtain⟨id,cs,hN,dC,rT,_,fq,zE⟩:=i_ ou hw;have hL:=zE 1 L rfl;have hP:=zE 2 P rfl;have cU:(r1++[[.sc (.int .i64 m.id),L,P]]++r3).length=pre.length+1+post.length:=by simp[oV.1,Aj.1];omega
 rw[cU]at hN fq;rw[oV.1]at hL hP;have I_:pre.length*3+1+1<=cs.length:=by omega
 have pT:pre.length<pre.length+1+post.length:=by omega
 have jD:=(Za.1 dC).1;have py:∀y,(h++y)[id]?=some (.row cs):=λy=>by rw[Zd jD];exact dC
 have qL:=NZ (λv=>o1.np v)
 have qL':=oG (λv=>o1.np v)
 have lX:=gW.push h tag (.row (dp c)) .none (λ_=>False);have af:=λbb=>pG (n+2) (o1.gH lX (λq=>q)) (by omega) dY bb
 rw[De (n:=n+5) (λi=>i==5||i==10||i==22) f107 []];refine⟨_,_,?_,gW.push h tag (.row (dp c)) .none _⟩;simp only[Qa,Xz]at af;subst hN;have c8:¬(m.labels.length:Int)<8:=by omega
 have hLf:=k_ o1;rw[dG]at hLf;rcases hLf with⟨h0,rfl⟩|⟨h0,rfl⟩|⟨qO,rfl⟩
 .omega
 .omega
 .simp[f107,aa,ae,zD,af,hk,ur,py,pT,hL,c8]
def Jb (n:Nat)(b:Bool)(E:Nat)(g:Gr)(c:Ch)(N V:AV)(nr er:List LA)(tag:Nat->Tg)(h:Hp)(pre post:List Nd)(m:Nd)(lp lm lq:List ByteArray)(H:iF h tag E g N V nr er)(hs:iX (qM c.a) (qp c.a) g.nodes pre [m] post)(hl:g.nodes.length<=2000)(hl8:m.labels.length<=8)(dY:iX (LG c.name) (yv c.name) m.labels lp [] lq)(hk:c.k=3)(hf:m.labels.length<8):
 ∃h' eO N' V' tf u6,cW cx (n+6) b 107 [.pt E 0,.ag (dp c)] h=some (.tp [],h')/\iF h' eO E {g with nodes:=pre++[{m with labels:=lp++[c.name]++lq}]++post} N' V' tf u6/\Fo h tag h' eO:=by
 have uq:=(Za.1 H.box).1;have aa:=λbb=>jw n bb E g N V nr er _ _ c.a pre [m] post (fQ H (dp c)) (by omega) hs
 simp only[Qd,Xj]at aa;have ae:=kc (n+4);have ur:∀y,(h++y)[E]?=some (.row [N,V,g.nn,g.ne]):=λy=>by rw[Zd uq];exact H.box
 have EB:g.nodes.length=pre.length+1+post.length:=by rw[hs.e];simp;omega
 have po:=H.na;rw[hs.e]at po;obtain⟨U2,r3,hr,pF,Aj⟩:=po.split;obtain⟨r1,r2,du,oV,rF⟩:=pF.split;subst du;obtain⟨r,rfl⟩:∃r,r2=[r]:=Qe.1 rF.1;obtain⟨L,P,rfl,o1,o2⟩:=rF.2 0 m r rfl rfl;have ou:=H.ns;rw[hr]at ou;have hw:=H.na.all (P:=λr=>r.length=3) (λa r q=>q.len);rw[hr]at hw;obtain⟨id,cs,hN,dC,rT,_,fq,zE⟩:=i_ ou hw;have hL:=zE 1 L rfl;have hP:=zE 2 P rfl;have cU:(r1++[[.sc (.int .i64 m.id),L,P]]++r3).length=pre.length+1+post.length:=by simp[oV.1,Aj.1];omega
 rw[cU]at hN fq;rw[oV.1]at hL hP;have I_:pre.length*3+1+1<=cs.length:=by omega
 have pT:pre.length<pre.length+1+post.length:=by omega
 have jD:=(Za.1 dC).1;have py:∀y,(h++y)[id]?=some (.row cs):=λy=>by rw[Zd jD];exact dC
 have eW:=Md hs;have qL:=NZ (λv=>o1.np v)
 have qL':=oG (λv=>o1.np v)
 have lX:=gW.push h tag (.row (dp c)) .none (λ_=>False);have af:=λbb=>pG (n+2) (o1.gH lX (λq=>q)) (by omega) dY bb
 have xz:gW h tag (h++[.row (dp c)]++[.row [.sc (.string c.name)]]) (gr (gr tag h.length .none) (h.length+1) .none) (λ_=>False):=by
  have b:=gW.push (h++[.row (dp c)]) (gr tag h.length .none) (.row [.sc (.string c.name)]) .none (λ_=>False);rw[Zu]at b;exact lX.trans b (λ_ q=>q) (λ_ q=>q)
 have el:m.labels=lp++lq:=by rw[dY.e];simp
 have o3:=o1.gH xz (λq=>q);rw[el,nU]at o3;obtain⟨x',h3,t3,g1,g2,g3⟩:=AL (bytes:=16) (k:=false) (vs:=[.sc (.string c.name)]) (vid:=h.length+1) o3 (λr hr=>by rw[<-nU]at hr;exact(jK _).1 r hr) (by rw[Zf (by simp)];simp) rfl (by rw[jj];simp) (by rw[<-nU,dG,<-el];omega) (by omega);rw[dG]at g1;have hx:js h3 t3 (.LR m.id) 1 (gP (lp++[c.name]++lq)) x':=by rw[nU,nU];exact g2
 have ah:=λbb=>(L_ (n+4) bb _ _).trans g1
 simp only[Zp,Zv,Zw]at ah;have q2:=NZ (λv=>g2.np v)
 have eL:=xA o1;have cX:=g2.cls;unfold cls at cX;have k2:=g3 id (.row cs) (xz id _ dC (λq=>q)).1 (by rw[(xz id _ dC (λq=>q)).2,rT];simp);obtain⟨tf,hG,hF⟩:=Oz H hs.e eW hN dC hx (xz.trans g3 (λ_ q=>q.elim) (λ_ q=>q));refine⟨_,_,_,_,_,_,?_,hG,λi bl q1 q2=>hF i bl q1 (by rintro(q|q)<;>(rw[q]at q2;simp at q2))⟩;subst hN;simp only[Qa,Xz]at af;have c8:(m.labels.length:Int)<8:=by omega
 have hLf:=k_ o1;rw[dG]at hLf;rw[De (n:=n+5) (λi=>i==5||i==10||i==22) f107 []];rcases hLf with⟨h0,rfl⟩|⟨h0,rfl⟩|⟨qO,rfl⟩
 all_goals
  simp[f107,aa,ae,af,hk,ur,py,pT,hL,c8];rw[yL (j:=4) (m:=9) ?_ ?_ ?_ ?_]
  rotate_left
  .kernel_rfl
  .simp
  .rfl
  .simp
  simp[ah,py,hL,eL,q2,da,k2.1,cX,I_]
def Jc (n:Nat)(b:Bool)(E:Nat)(g:Gr)(c:Ch)(N V:AV)(nr er:List LA)(tag:Nat->Tg)(h:Hp)(pre post:List Nd)(m:Nd)(lp lm lq:List ByteArray)(H:iF h tag E g N V nr er)(hs:iX (qM c.a) (qp c.a) g.nodes pre [m] post)(hl:g.nodes.length<=2000)(hl8:m.labels.length<=8)(dY:iX (LG c.name) (yv c.name) m.labels lp [] lq)(hk:c.k=4):
 ∃h' eO,cW cx (n+6) b 107 [.pt E 0,.ag (dp c)] h=some (.pn (.iface 150 (.int .i64 23)),h')/\Fo h tag h' eO:=by
 have uq:=(Za.1 H.box).1;have aa:=λbb=>jw n bb E g N V nr er _ _ c.a pre [m] post (fQ H (dp c)) (by omega) hs
 simp only[Qd,Xj]at aa;have ae:=kc (n+4);have zD:=kK (n+4);have ur:∀y,(h++y)[E]?=some (.row [N,V,g.nn,g.ne]):=λy=>by rw[Zd uq];exact H.box
 have EB:g.nodes.length=pre.length+1+post.length:=by rw[hs.e];simp;omega
 have po:=H.na;rw[hs.e]at po;obtain⟨U2,r3,hr,pF,Aj⟩:=po.split;obtain⟨r1,r2,du,oV,rF⟩:=pF.split;subst du;obtain⟨r,rfl⟩:∃r,r2=[r]:=Qe.1 rF.1;obtain⟨L,P,rfl,o1,o2⟩:=rF.2 0 m r rfl rfl;have ou:=H.ns;rw[hr]at ou;have hw:=H.na.all (P:=λr=>r.length=3) (λa r q=>q.len);rw[hr]at hw;obtain⟨id,cs,hN,dC,rT,_,fq,zE⟩:=i_ ou hw;have hL:=zE 1 L rfl;have hP:=zE 2 P rfl;have cU:(r1++[[.sc (.int .i64 m.id),L,P]]++r3).length=pre.length+1+post.length:=by simp[oV.1,Aj.1];omega
 rw[cU]at hN fq;rw[oV.1]at hL hP;have I_:pre.length*3+1+1<=cs.length:=by omega
 have pT:pre.length<pre.length+1+post.length:=by omega
 have jD:=(Za.1 dC).1;have py:∀y,(h++y)[id]?=some (.row cs):=λy=>by rw[Zd jD];exact dC
 have qL:=NZ (λv=>o1.np v)
 have qL':=oG (λv=>o1.np v)
 have lX:=gW.push h tag (.row (dp c)) .none (λ_=>False);have af:=λbb=>pG (n+2) (o1.gH lX (λq=>q)) (by omega) dY bb
 rw[De (n:=n+5) (λi=>i==5||i==10||i==22) f107 []];refine⟨_,_,?_,gW.push h tag (.row (dp c)) .none _⟩;simp only[Qa,Xz]at af;subst hN;simp[f107,aa,ae,zD,af,hk,ur,py,pT,hL,qL]
def Jd (n:Nat)(b:Bool)(E:Nat)(g:Gr)(c:Ch)(N V:AV)(nr er:List LA)(tag:Nat->Tg)(h:Hp)(pre post:List Nd)(m:Nd)(lp lm lq:List ByteArray)(y:ByteArray)(H:iF h tag E g N V nr er)(hs:iX (qM c.a) (qp c.a) g.nodes pre [m] post)(hl:g.nodes.length<=2000)(hl8:m.labels.length<=8)(dY:iX (LG c.name) (yv c.name) m.labels lp [y] lq)(hk:c.k=4):
 ∃h' eO N' V' tf u6,cW cx (n+6) b 107 [.pt E 0,.ag (dp c)] h=some (.tp [],h')/\iF h' eO E {g with nodes:=pre++[{m with labels:=lp++lq}]++post} N' V' tf u6/\Fo h tag h' eO:=by
 have uq:=(Za.1 H.box).1;have aa:=λbb=>jw n bb E g N V nr er _ _ c.a pre [m] post (fQ H (dp c)) (by omega) hs
 simp only[Qd,Xj]at aa;have ae:=kc (n+4);have zD:=kK (n+4);have ur:∀y,(h++y)[E]?=some (.row [N,V,g.nn,g.ne]):=λy=>by rw[Zd uq];exact H.box
 have EB:g.nodes.length=pre.length+1+post.length:=by rw[hs.e];simp;omega
 have po:=H.na;rw[hs.e]at po;obtain⟨U2,r3,hr,pF,Aj⟩:=po.split;obtain⟨r1,r2,du,oV,rF⟩:=pF.split;subst du;obtain⟨r,rfl⟩:∃r,r2=[r]:=Qe.1 rF.1;obtain⟨L,P,rfl,o1,o2⟩:=rF.2 0 m r rfl rfl;have ou:=H.ns;rw[hr]at ou;have hw:=H.na.all (P:=λr=>r.length=3) (λa r q=>q.len);rw[hr]at hw;obtain⟨id,cs,hN,dC,rT,_,fq,zE⟩:=i_ ou hw;have hL:=zE 1 L rfl;have hP:=zE 2 P rfl;have cU:(r1++[[.sc (.int .i64 m.id),L,P]]++r3).length=pre.length+1+post.length:=by simp[oV.1,Aj.1];omega
 rw[cU]at hN fq;rw[oV.1]at hL hP;have I_:pre.length*3+1+1<=cs.length:=by omega
 have pX:pre.length*3+2+1<=cs.length:=by omega
 have pT:pre.length<pre.length+1+post.length:=by omega
 have jD:=(Za.1 dC).1;have py:∀y,(h++y)[id]?=some (.row cs):=λy=>by rw[Zd jD];exact dC
 have eW:=Md hs;have qL:=NZ (λv=>o1.np v)
 have qL':=oG (λv=>o1.np v)
 have lX:=gW.push h tag (.row (dp c)) .none (λ_=>False);have af:=λbb=>pG (n+2) (o1.gH lX (λq=>q)) (by omega) dY bb
 have el:m.labels=lp++[y]++lq:=dY.e;have o3:=o1.gH lX (λq=>q);have nC:gP m.labels=gP lp++[[.sc (.string y)]]++gP lq:=by rw[el,nU,nU];rfl
 rw[nC]at o3;obtain⟨x',h3,g1,g2,g3⟩:=AM Ma o3 (λr hr=>by rw[<-nC]at hr;exact(jK _).1 r hr) (by rw[<-nC,dG];omega) (n+4) true;rw[dG]at g1;have hx:js h3 (gr tag h.length .none) (.LR m.id) 1 (gP (lp++lq)) x':=by rw[nU];exact g2
 have q2:=oG (λv=>g2.np v)
 have cX:=g2.cls;unfold cls at cX;have k2:=g3 id (.row cs) (lX id _ dC (λq=>q)).1 (by rw[(lX id _ dC (λq=>q)).2,rT];simp);have C_:lp.length<=8:=by rw[el]at hl8;simp at hl8;omega
 have e5:dM .i64 ((lp.length:Int)+1)=(lp.length:Int)+1:=dh (by omega) (by omega);obtain⟨tf,hG,hF⟩:=Oz H hs.e eW hN dC hx (lX.trans g3 (λ_ q=>q.elim) (λ_ q=>q));refine⟨_,_,_,_,_,_,?_,hG,λi bl q1 q2=>hF i bl q1 (by rintro(q|q)<;>(rw[q]at q2;simp at q2))⟩;subst hN;simp only[Qd,Xj]at af;rw[De (n:=n+5) (λi=>i==5||i==10||i==22) f107 []];simp[f107,aa,ae,af,hk,ur,py,pT,hL,qL,qL',e5,g1,q2,da,k2.1,cX,I_]
def Me (n D:Nat)(b:Bool)(E:Nat)(g:Gr)(c:Ch)(N V:AV)(nr er:List LA)(tag:Nat->Tg)(h:Hp)(pre post:List Nd)(m:Nd)(pp pm pq:List iP)(H:iF h tag E g N V nr er)(hs:iX (qM c.a) (qp c.a) g.nodes pre [m] post)(hl:g.nodes.length<=2000)(adL:m.props.length<=16)(U4:iX (Da c.name) (zq c.name) m.props pp pm pq)(hd:fB c.v<=D)(hv:gV c.v)(hk:c.k≠1/\c.k≠2/\c.k≠3/\c.k≠4):
 if(qI c.name c.v pp pq).length<=16 then∃h' eO N' V' tf u6,cW cx (n+2*D+10) b 107 [.pt E 0,.ag (dp c)] h=some (.tp [],h')/\iF h' eO E {g with nodes:=pre++[{m with props:=qI c.name c.v pp pq}]++post} N' V' tf u6/\Fo h tag h' eO else∃h' eO,cW cx (n+2*D+10) b 107 [.pt E 0,.ag (dp c)] h=some (.pn (.iface 150 (.int .i64 20)),h')/\Fo h tag h' eO:=by
 have uq:=(Za.1 H.box).1;have aa:=λbb=>jw (n+2*D+4) bb E g N V nr er _ _ c.a pre [m] post (fQ H (dp c)) (by omega) hs
 simp only[Qd,Xj]at aa;have ae:=kc (n+2*D+8);have ur:∀y,(h++y)[E]?=some (.row [N,V,g.nn,g.ne]):=λy=>by rw[Zd uq];exact H.box
 have EB:g.nodes.length=pre.length+1+post.length:=by rw[hs.e];simp;omega
 have po:=H.na;rw[hs.e]at po;obtain⟨U2,r3,hr,pF,Aj⟩:=po.split;obtain⟨r1,r2,du,oV,rF⟩:=pF.split;subst du;obtain⟨r,rfl⟩:∃r,r2=[r]:=Qe.1 rF.1;obtain⟨L,P,rfl,o1,o2⟩:=rF.2 0 m r rfl rfl;have ou:=H.ns;rw[hr]at ou;have hw:=H.na.all (P:=λr=>r.length=3) (λa r q=>q.len);rw[hr]at hw;obtain⟨id,cs,hN,dC,rT,_,fq,zE⟩:=i_ ou hw;have hL:=zE 1 L rfl;have hP:=zE 2 P rfl;have cU:(r1++[[.sc (.int .i64 m.id),L,P]]++r3).length=pre.length+1+post.length:=by simp[oV.1,Aj.1];omega
 rw[cU]at hN fq;rw[oV.1]at hL hP;have I_:pre.length*3+1+1<=cs.length:=by omega
 have pX:pre.length*3+2+1<=cs.length:=by omega
 have pT:pre.length<pre.length+1+post.length:=by omega
 have jD:=(Za.1 dC).1;have py:∀y,(h++y)[id]?=some (.row cs):=λy=>by rw[Zd jD];exact dC
 have eW:=Md hs;have lX:=gW.push h tag (.row (dp c)) .none (λ_=>False);have af:=acg n D false (o2.gH lX (λq=>q)) adL U4 hd hv (by simp);have qP:=NZ (λv=>o2.np v)
 obtain⟨r_,SI,yc,SN⟩:=hk;split
 .rename_i oe;rw[dd oe]at af;obtain⟨x',h3,t3,g1,hx,g3⟩:=af;have q2:=NZ (λv=>hx.np v)
  have cX:=hx.cls;unfold cls at cX;have k2:=g3 id (.row cs) (lX id _ dC (λq=>q)).1 (by rw[(lX id _ dC (λq=>q)).2,rT];simp);obtain⟨tf,hG,hF⟩:=U3 H hs.e eW hN dC hx (lX.trans g3 (λ_ q=>q.elim) (λ_ q=>q));refine⟨_,_,_,_,_,_,?_,hG,λi bl q1 q2=>hF i bl q1 (by rintro(q|q)<;>(rw[q]at q2;simp at q2))⟩;subst hN;rw[De (n:=n+2*D+9) (λi=>i==5||i==10||i==22) f107 []];simp[f107,aa,ae,r_,SI,yc,SN,ur,pT];rw[aar ?_]
  rotate_left
  .kernel_rfl
  simp[py,hP,qP,g1,q2,da,k2.1,cX,pX]
 .rename_i oe;rw[db oe]at af;obtain⟨h3,t3,g1,g3⟩:=af;refine⟨h3,t3,?_,(lX.trans g3 (S2:=λt=>t≠ .none) (λ_ q=>q.elim) (λ_ q=>by rw[q];simp))⟩;subst hN;rw[De (n:=n+2*D+9) (λi=>i==5||i==10||i==22) f107 []];simp[f107,aa,ae,r_,SI,yc,SN,ur,pT];rw[I4 9 [] (v:= .iface 150 (.int .i64 20)) (hP:=h3) ?_ ?_ ?_ ?_]
  rotate_left
  .simp
  .kernel_rfl
  .kernel_rfl
  .simp[py,hP,qP,g1]
  simp
def Gf {h:Hp}{tag:Nat->Tg}{tg:Tg}{sz:Nat}{cY:List LA}{N:AV}(ho:js h tag tg sz cY N)(hr:∀y∈cY,y.length=sz){i:Nat}{r:LA}(hi:cY[i]?=some r):
 ∃id cs,N= .sl id sz 0 cY.length false/\h[id]?=some (.row cs)/\tag id=tg/\(cs.drop (i*sz)).take sz=r/\i*sz+sz<=cs.length:=by
 have gG:=(Za.1 hi).1;have e:cY=cY.take i++[r]++cY.drop (i+1):=by
  obtain⟨_,hh⟩:=Za.1 hi;rw[<-hh];simp
 have cU:(cY.take i).length=i:=by simp;omega
 rcases ho with⟨rfl,_⟩|⟨id,cs,rfl,h1,h2,h3,h4⟩
 .simp at hi
 .have eG:i*sz+sz<=cY.length*sz:=by
   have:=Zx sz (show i+1<=cY.length by omega);rw[Xw,Nat.one_mul]at this;exact this
  have hA:(cY.take i).flatten.length=i*sz:=by rw[dH (cY.take i) (sz:=sz) λy hy=>hr y (Xl hy),cU]
  have nC:r.length=sz:=hr r (Zi hi);refine⟨id,cs,rfl,h1,h4,?_,by omega⟩;have rR:cs.take (cY.length*sz)=(cY.take i).flatten++r++(cY.drop (i+1)).flatten:=by
   rw[h2]
   conv=>lhs;rw[e]
   simp
  have e1:cs.take (i*sz+sz)=(cY.take i).flatten++r:=by
   have:=congrArg (List.take (i*sz+sz)) rR;rw[List.take_take,Nat.min_eq_left eG,List.take_left' (by rw[Zu,hA,nC])]at this;exact this
  have e2:=congrArg (List.drop (i*sz)) e1;rw[List.drop_take,Nat.add_sub_cancel_left,List.drop_left' hA]at e2;exact e2
def aas {l:List Ed}{x:Int}(h:∀(j:Nat) (e:Ed),j<l.length->l[j]?=some e->nE x e=false):l.any (nE x)=false:=by
 rw[List.any_eq_false];intro e he;obtain⟨j,hj⟩:=List.mem_iff_getElem?.1 he;rw[h j e (Za.1 hj).1 hj];simp
def Ci (h:Hp)(tag:Nat->Tg)(E:Nat)(g:Gr)(h':Hp):Prop:=∃eO N' V' tf u6,iF h' eO E g N' V' tf u6/\Fo h tag h' eO
def Je (h:Hp)(tag:Nat->Tg)(h':Hp):Prop:=∃eO,Fo h tag h' eO
def Mf (n:Nat)(b:Bool)(E:Nat)(g:Gr)(c:Ch)(N V:AV)(nr er:List LA)(tag:Nat->Tg)(h:Hp)(pre post:List Nd)(m:Nd)(H:iF h tag E g N V nr er)(hs:iX (qM c.a) (qp c.a) g.nodes pre [m] post)(hl:g.nodes.length<=2000)(eG:g.cZ.length<=1000000)(hk:c.k=2):
 if g.cZ.any (nE c.a)=true then∃h' eO,cW cx (n+6) b 107 [.pt E 0,.ag (dp c)] h=some (.pn (.iface 150 (.int .i64 12)),h')/\Fo h tag h' eO else∃h' eO N' V' tf u6,cW cx (n+6) b 107 [.pt E 0,.ag (dp c)] h=some (.tp [],h')/\iF h' eO E {g with nodes:=pre++post} N' V' tf u6/\Fo h tag h' eO:=by
 have uq:=(Za.1 H.box).1;have aa:=λbb=>jw n bb E g N V nr er _ _ c.a pre [m] post (fQ H (dp c)) (by omega) hs
 simp only[Qd,Xj]at aa;have ae:=kc (n+4);have zD:=kK (n+4);have ur:∀y,(h++y)[E]?=some (.row [N,V,g.nn,g.ne]):=λy=>by rw[Zd uq];exact H.box
 have EB:g.nodes.length=pre.length+1+post.length:=by rw[hs.e];simp;omega
 have po:=H.na;rw[hs.e]at po;obtain⟨U2,r3,hr,pF,Aj⟩:=po.split;obtain⟨r1,r2,du,oV,rF⟩:=pF.split;subst du;obtain⟨r,rfl⟩:∃r,r2=[r]:=Qe.1 rF.1;obtain⟨L,P,rfl,o1,o2⟩:=rF.2 0 m r rfl rfl;have ou:=H.ns;rw[hr]at ou;have hw:=H.na.all (P:=λr=>r.length=3) (λa r q=>q.len);rw[hr]at hw;obtain⟨id,cs,hN,dC,rT,_,fq,zE⟩:=i_ ou hw;have hL:=zE 1 L rfl;have hP:=zE 2 P rfl;have cU:(r1++[[.sc (.int .i64 m.id),L,P]]++r3).length=pre.length+1+post.length:=by simp[oV.1,Aj.1];omega
 rw[cU]at hN fq;rw[oV.1]at hL hP;have I_:pre.length*3+1+1<=cs.length:=by omega
 have pT:pre.length<pre.length+1+post.length:=by omega
 have jD:=(Za.1 dC).1;have py:∀y,(h++y)[id]?=some (.row cs):=λy=>by rw[Zd jD];exact dC
 have lX:=gW.push h tag (.row (dp c)) .none (λ_=>False);have rD:=cU;have Bu:=H.ea.1;have hwe:=H.ea.all (P:=λr=>r.length=5) (λa r q=>q.len);have hVr:∀(i:Nat) (e:Ed),g.cZ[i]?=some e->∃idV csV P,V= .sl idV 5 0 g.cZ.length false/\h[idV]?=some (.row csV)/\(csV.drop (i*5)).take 5=[.sc (.int .i64 e.id),.sc (.int .i64 e.src),.sc (.int .i64 e.dst),.sc (.string e.type),P]/\i*5+5<=csV.length:=λi e he=>by
  obtain⟨r,h1,P,rfl,_⟩:=H.ea.get he;obtain⟨idV,csV,a1,a2,_,a4,a5⟩:=Gf H.es hwe h1;rw[Bu]at a1;exact⟨idV,csV,P,a1,a2,a4,a5⟩
 have hV:=k_ H.es;rw[Bu]at hV;have e5:dM .i64 ((pre.length:Int)+1)=(pre.length:Int)+1:=dh (by omega) (by omega);have Dd:(h++[fp.row (dp c)])[h.length]?=some (.row (dp c)):=by simp
 cases hA:g.cZ.any (nE c.a)
 .rw[db (by simp)];rw[De (n:=n+5) (λi=>i==5||i==10||i==22) f107 []];obtain⟨V0,hV0⟩:∃V0,V0=V:=⟨V,rfl⟩;rw[<-hV0]at hVr;have ajR:=ou;subst hN
  suffices HH:∃h',eQ ([]:List Rv) (gM cx (cW cx (n+5)) (λi=>i==5||i==10||i==22) ((f107.body).getD .skip) ([.pt E 0,.ag (dp c)]++List.replicate (f107.ntmps-2) .un,h))=some (.tp [],h')/\Ci h tag E {g with nodes:=pre++post} h' by
   obtain⟨h',a1,eO,N',V',tf,u6,a2,a3⟩:=HH;exact⟨h',eO,N',V',tf,u6,a1,a2,a3⟩
  rcases hV with⟨h0,rfl⟩|⟨h0,rfl⟩|⟨idV,rfl⟩
  all_goals
   simp[f107,aa,ae,hk,ur,pT];refine mS (C:=cx) (G:=λr=>∃h',eQ _ (dL _ (qw _ _ _ (dL _ r) _))=some (_,h')/\Ci _ _ _ _ h')
    (λi s=>i<=g.cZ.length/\s.1.length=183/\gt s.1 0= .pt E 0/\gt s.1 3= .pt h.length 0/\gt s.1 4=pre.length/\gt s.1 91=V0/\gt s.1 92=g.cZ.length/\gt s.1 93=i/\∃tt,gW h tag s.2 tt (λ_=>False)/\s.2[h.length]?=some (.row (dp c)))
    (λo s=>o= .exit 1/\s.1.length=183/\gt s.1 0= .pt E 0/\gt s.1 3= .pt h.length 0/\gt s.1 4=pre.length/\∃tt,gW h tag s.2 tt (λ_=>False)/\s.2[h.length]?=some (.row (dp c))) g.cZ.length (by simp;omega) ?_ ?_ ?_
   .refine⟨by omega,rfl,rfl,rfl,rfl,hV0.symm,?_,rfl,_,lX,Dd⟩
    first|rfl|(rw[h0];rfl)
   .rintro i fr hp n_ ⟨rE,cU,g0,g3,g4,dO,g92,g93,tt,hF,hc⟩;simp only at cU g0 g3 g4 dO g92 g93 hF hc;by_cases hi:i<g.cZ.length
    .obtain⟨e,he⟩:=eA hi;obtain⟨idW,csV,P',hVe,v1,v2,v3⟩:=hVr i e he;rw[hVe]at dO;have v1':=(hF idW _ v1 (λq=>q)).1;have qE:nE c.a e=false:=by
      have:=List.any_eq_false.1 hA e (Zi he);simpa using this
     unfold nE at qE;rw[Bool.or_eq_false_iff,decide_eq_false_iff_not,decide_eq_false_iff_not]at qE;obtain⟨t1,t2⟩:=qE;have hf:=di (i:=i) (by omega);have Dc:=(Za.1 hc).1;have pS:∀y,(hp++y)[h.length]?=some (.row (dp c)):=λy=>by rw[Zd Dc];exact hc
     simp[cU,g0,g3,g4,dO,g92,g93,hi,v1',v2,v3,pS,ae,t1,t2,hf,da];exact⟨hi,hVe.symm,_,hF.trans (gW.push _ _ _ .none _) (λ_ q=>q) (λ_ q=>q)⟩
    .simp[cU,g0,g3,g4,g92,g93,hi];exact⟨⟨tt,hF⟩,hc⟩
   .rintro o fr hp hn ⟨rfl,cU,g0,g3,g4,tt,hF,hc⟩;simp only at cU g0 g3 g4 hF hc;have kE:=hF E _ H.box (λq=>q);have ajS:=ajR.gH hF (λq=>q);obtain⟨x',h3,d1,d2,d3⟩:=AM UX ajS hw (by rw[rD];omega) (n+4) true;rw[oV.1]at d1;have q2:=λ(cal:FuncId->LA->Hp->Option (AV × Hp)) (ops:Array Oper) (d:Tmp) (rest:List Oper) (fr:LA) (h:Hp)=>kW (C:=cx) (cal:=cal) (ops:=ops) (λv=>d2.np v) d rest fr h
    have cX:=d2.cls;unfold cls at cX;have QI:=d3 E _ kE.1 (by rw[kE.2,H.tb];simp);have kEl:=(Za.1 QI.1).1;have Mg:=λy=>gW.set h3 tt E (.row y) (S:=λt=>t= .box) (kE.2.trans H.tb)
    simp[cU,g0,g4,kE.1,e5,d1,q2,QI.1,cX,da];refine⟨tt,x',_,r1++r3,er,{
     box:=Zj kEl
     tb:=kE.2.trans H.tb
     ns:=d2.gH (Mg _) (by simp)
     es:=((H.es.gH hF (λq=>q)).gH d3 (by simp)).gH (Mg _) (by simp)
     na:=((oV.imp λa ha r q=>((q.gH hF (λq=>q) (λq=>q)).gH d3 (by simp) (by simp)).gH (Mg _) (by simp) (by simp)).app (Aj.imp λa ha r q=>((q.gH hF (λq=>q) (λq=>q)).gH d3 (by simp) (by simp)).gH (Mg _) (by simp) (by simp)))
     ea:=H.ea.imp λa _ r q=>((q.gH hF (λq=>q)).gH d3 (by simp)).gH (Mg _) (by simp)},?_⟩
    exact(hF.trans d3 (S2:=λt=>t≠ .none) (λ_ q=>q.elim) (λ_ q=>by rw[q];simp)).trans (Mg _) (λ_ q=>q) (λ_ q=>by rw[q];simp)
 .rw[dd rfl];rw[De (n:=n+5) (λi=>i==5||i==10||i==22) f107 []];obtain⟨V0,hV0⟩:∃V0,V0=V:=⟨V,rfl⟩;rw[<-hV0]at hVr;subst hN
  suffices HH:∃h',eQ ([]:List Rv) (gM cx (cW cx (n+5)) (λi=>i==5||i==10||i==22) ((f107.body).getD .skip) ([.pt E 0,.ag (dp c)]++List.replicate (f107.ntmps-2) .un,h))=some (.pn (.iface 150 (.int .i64 12)),h')/\Je h tag h' by
   obtain⟨h',a1,eO,a2⟩:=HH;exact⟨h',eO,a1,a2⟩
  rcases hV with⟨h0,rfl⟩|⟨h0,rfl⟩|⟨idV,rfl⟩
  all_goals
   simp[f107,aa,ae,hk,ur,pT];refine mS (C:=cx) (G:=λr=>∃h',eQ _ (dL _ (qw _ _ _ (dL _ r) _))=some (_,h')/\Je _ _ h')
    (λi s=>(∀(j:Nat) (e:Ed),j<i->g.cZ[j]?=some e->nE c.a e=false)/\i<=g.cZ.length/\s.1.length=183/\gt s.1 0= .pt E 0/\gt s.1 3= .pt h.length 0/\gt s.1 4=pre.length/\gt s.1 91=V0/\gt s.1 92=g.cZ.length/\gt s.1 93=i/\∃tt,gW h tag s.2 tt (λ_=>False)/\s.2[h.length]?=some (.row (dp c)))
    (λo s=>o= .vE (.iface 150 (.int .i64 12))/\∃tt,gW h tag s.2 tt (λ_=>False)) g.cZ.length (by simp;omega) ?_ ?_ ?_
   .refine⟨λj e hj=>absurd hj (Nat.not_lt_zero j),by omega,rfl,rfl,rfl,rfl,hV0.symm,?_,rfl,_,lX,Dd⟩
    first|rfl|(rw[h0];rfl)
   .rintro i fr hp n_ ⟨ach,rE,cU,g0,g3,g4,dO,g92,g93,tt,hF,hc⟩;simp only at cU g0 g3 g4 dO g92 g93 hF hc;by_cases hi:i<g.cZ.length
    .obtain⟨e,he⟩:=eA hi;obtain⟨idW,csV,P',hVe,v1,v2,v3⟩:=hVr i e he;rw[hVe]at dO;have v1':=(hF idW _ v1 (λq=>q)).1;have hf:=di (i:=i) (by omega);have Dc:=(Za.1 hc).1;have pS:∀y,(hp++y)[h.length]?=some (.row (dp c)):=λy=>by rw[Zd Dc];exact hc
     have KU:=λr=>hF.trans (gW.push hp tt (.row r) .none (λ_=>False)) (S2:=λ_=>False) (λ_ q=>q) (λ_ q=>q)
     by_cases t1:e.src=c.a
     .simp[cU,g3,dO,g92,g93,hi,v1',v2,v3,pS,zD,t1,da];exact⟨_,KU _⟩
     .by_cases t2:e.dst=c.a
      .simp[cU,g3,dO,g92,g93,hi,v1',v2,v3,pS,zD,t1,t2,da];exact⟨_,KU _⟩
      .have adM:∀(j:Nat) (e:Ed),j<i+1->g.cZ[j]?=some e->nE c.a e=false:=λj e' hj OA=>by
        rcases Nat.lt_or_ge j i with q|q
        .exact ach j e' q OA
        .have:j=i:=Yc (Nat.le_of_lt_succ hj) q;subst this;rw[he]at OA;cases OA;unfold nE;rw[decide_eq_false t1,decide_eq_false t2];rfl
       simp[cU,g0,g3,g4,dO,g92,g93,hi,v1',v2,v3,pS,ae,t1,t2,hf,da];exact⟨adM,hi,hVe.symm,_,KU _⟩
    .exfalso;have:g.cZ.any (nE c.a)=false:=aas λj e hj he=>ach j e (Ym hj (Yb hi)) he
     rw[hA]at this;cases this
   .rintro o fr hp hn ⟨rfl,tt,hF⟩;simp only at hF;simp;exact⟨tt,λi b q1 q2=>hF i b q1 (λq=>q)⟩
def Jf (n:Nat)(b:Bool)(E:Nat)(g:Gr)(c:Ch)(N V:AV)(nr er:List LA)(tag:Nat->Tg)(h:Hp)(pre post:List Ed)(m:Ed)(H:iF h tag E g N V nr er)(hs:iX (xf c.a) (wa c.a) g.cZ pre [m] post)(hl:g.cZ.length<=4000)(hln:g.nodes.length<=2000)(hk:c.k=6):
 ∃h' eO,cW cx (n+6) b 108 [.pt E 0,.ag (dp c)] h=some (.pn (.iface 150 (.int .i64 7)),h')/\Fo h tag h' eO:=by
 have uq:=(Za.1 H.box).1;have aa:=λbb=>sH n bb E g N V nr er _ _ c.a pre [m] post (fQ H (dp c)) (by omega) hs
 simp only[Qd,Xj]at aa;have zD:=kK (n+4);have ur:∀y,(h++y)[E]?=some (.row [N,V,g.nn,g.ne]):=λy=>by rw[Zd uq];exact H.box
 rw[De (n:=n+5) (λi=>i==4||i==11) f108 []];refine⟨_,_,?_,gW.push h tag (.row (dp c)) .none _⟩;simp[f108,aa,zD,hk]
def Jg (n:Nat)(b:Bool)(E:Nat)(g:Gr)(c:Ch)(N V:AV)(nr er:List LA)(tag:Nat->Tg)(h:Hp)(pre post:List Ed)(H:iF h tag E g N V nr er)(hs:iX (xf c.a) (wa c.a) g.cZ pre [] post)(hl:g.cZ.length<=4000)(hln:g.nodes.length<=2000)(hk:¬c.k=6):
 ∃h' eO,cW cx (n+6) b 108 [.pt E 0,.ag (dp c)] h=some (.pn (.iface 150 (.int .i64 11)),h')/\Fo h tag h' eO:=by
 have uq:=(Za.1 H.box).1;have aa:=λbb=>sH n bb E g N V nr er _ _ c.a pre [] post (fQ H (dp c)) (by omega) hs
 simp only[Qa,Xz]at aa;have zD:=kK (n+4);have ur:∀y,(h++y)[E]?=some (.row [N,V,g.nn,g.ne]):=λy=>by rw[Zd uq];exact H.box
 rw[De (n:=n+5) (λi=>i==4||i==11) f108 []];refine⟨_,_,?_,gW.push h tag (.row (dp c)) .none _⟩;by_cases k7:c.k=7
 .simp[f108,aa,zD,k7]
 .simp[f108,aa,zD,hk,k7]
def Jh (n:Nat)(b:Bool)(E:Nat)(g:Gr)(c:Ch)(N V:AV)(nr er:List LA)(tag:Nat->Tg)(h:Hp)(pre post:List Ed)(pb mb qb pc mc qc:List Nd)(SR:iX (qM c.b) (qp c.b) g.nodes pb mb qb)(SS:iX (qM c.c) (qp c.c) g.nodes pc mc qc)(H:iF h tag E g N V nr er)(hs:iX (xf c.a) (wa c.a) g.cZ pre [] post)(hl:g.cZ.length<=4000)(hln:g.nodes.length<=2000)(hk:c.k=6)(hm:((!mb.isEmpty) && (!mc.isEmpty))=false):
 ∃h' eO,cW cx (n+6) b 108 [.pt E 0,.ag (dp c)] h=some (.pn (.iface 150 (.int .i64 10)),h')/\Fo h tag h' eO:=by
 have uq:=(Za.1 H.box).1;have aa:=λbb=>sH n bb E g N V nr er _ _ c.a pre [] post (fQ H (dp c)) (by omega) hs
 simp only[Qa,Xz]at aa;have ae:=kc (n+4);have zD:=kK (n+4);have ur:∀y,(h++y)[E]?=some (.row [N,V,g.nn,g.ne]):=λy=>by rw[Zd uq];exact H.box
 have ah:=λbb=>jw n bb E g N V nr er _ _ c.b pb mb qb (fQ H (dp c)) (by omega) SR
 have ai:=λbb=>jw n bb E g N V nr er _ _ c.c pc mc qc (fQ H (dp c)) (by omega) SS
 rw[De (n:=n+5) (λi=>i==4||i==11) f108 []];refine⟨_,_,?_,gW.push h tag (.row (dp c)) .none _⟩;generalize(!mb.isEmpty)=B at *;generalize(!mc.isEmpty)=B' at *;cases B
 .simp[f108,aa,ae,zD,ah,ai,hk]
 .have:B'=false:=by simpa using hm
  subst this;simp[f108,aa,ae,zD,ah,ai,hk]
def Ji (n:Nat)(b:Bool)(E:Nat)(g:Gr)(c:Ch)(N V:AV)(nr er:List LA)(tag:Nat->Tg)(h:Hp)(pre post:List Ed)(pb mb qb pc mc qc:List Nd)(SR:iX (qM c.b) (qp c.b) g.nodes pb mb qb)(SS:iX (qM c.c) (qp c.c) g.nodes pc mc qc)(H:iF h tag E g N V nr er)(hs:iX (xf c.a) (wa c.a) g.cZ pre [] post)(hl:g.cZ.length<=4000)(hln:g.nodes.length<=2000)(hk:c.k=6)(hm:((!mb.isEmpty) && (!mc.isEmpty))=true)(hf:4000<=g.cZ.length):
 ∃h' eO,cW cx (n+6) b 108 [.pt E 0,.ag (dp c)] h=some (.pn (.iface 150 (.int .i64 20)),h')/\Fo h tag h' eO:=by
 have uq:=(Za.1 H.box).1;have aa:=λbb=>sH n bb E g N V nr er _ _ c.a pre [] post (fQ H (dp c)) (by omega) hs
 simp only[Qa,Xz]at aa;have ae:=kc (n+4);have zD:=kK (n+4);have ur:∀y,(h++y)[E]?=some (.row [N,V,g.nn,g.ne]):=λy=>by rw[Zd uq];exact H.box
 have Dd:(h++[fp.row (dp c)])[h.length]?=some (.row (dp c)):=by simp
 have lX:=gW.push h tag (.row (dp c)) .none (λ_=>False);have ah:=λbb=>jw n bb E g N V nr er _ _ c.b pb mb qb (fQ H (dp c)) (by omega) SR
 have ai:=λbb=>jw n bb E g N V nr er _ _ c.c pc mc qc (fQ H (dp c)) (by omega) SS
 rw[De (n:=n+5) (λi=>i==4||i==11) f108 []];refine⟨_,_,?_,gW.push h tag (.row (dp c)) .none _⟩;rw[Zh]at hm;rw[hm.1]at ah;rw[hm.2]at ai;have hV:=k_ H.es;rw[H.ea.1]at hV;have c8:¬(g.cZ.length:Int)<4000:=by omega
 rcases hV with⟨h0,rfl⟩|⟨h0,rfl⟩|⟨id,rfl⟩
 .omega
 .omega
 .simp[f108,aa,ae,zD,ah,ai,hk,ur,c8]
def Jj (n:Nat)(b:Bool)(E:Nat)(g:Gr)(c:Ch)(N V:AV)(nr er:List LA)(tag:Nat->Tg)(h:Hp)(pre post:List Ed)(pb mb qb pc mc qc:List Nd)(SR:iX (qM c.b) (qp c.b) g.nodes pb mb qb)(SS:iX (qM c.c) (qp c.c) g.nodes pc mc qc)(H:iF h tag E g N V nr er)(hs:iX (xf c.a) (wa c.a) g.cZ pre [] post)(hl:g.cZ.length<=4000)(hln:g.nodes.length<=2000)(hk:c.k=6)(hm:((!mb.isEmpty) && (!mc.isEmpty))=true)(dC:1<=c.a/\c.a<=1000000)(hf:g.cZ.length<4000):
 ∃h' eO N' V' tf u6,cW cx (n+6) b 108 [.pt E 0,.ag (dp c)] h=some (.tp [],h')/\iF h' eO E (rB g pre post ⟨c.a,c.b,c.c,c.name,[]⟩) N' V' tf u6/\Fo h tag h' eO:=by
 have uq:=(Za.1 H.box).1;have aa:=λbb=>sH n bb E g N V nr er _ _ c.a pre [] post (fQ H (dp c)) (by omega) hs
 simp only[Qa,Xz]at aa;have ae:=kc (n+4);have zD:=kK (n+4);have ur:∀y,(h++y)[E]?=some (.row [N,V,g.nn,g.ne]):=λy=>by rw[Zd uq];exact H.box
 have Dd:(h++[fp.row (dp c)])[h.length]?=some (.row (dp c)):=by simp
 have lX:=gW.push h tag (.row (dp c)) .none (λ_=>False);have ah:=λbb=>jw n bb E g N V nr er _ _ c.b pb mb qb (fQ H (dp c)) (by omega) SR
 have ai:=λbb=>jw n bb E g N V nr er _ _ c.c pc mc qc (fQ H (dp c)) (by omega) SS
 rw[Zh]at hm;rw[hm.1]at ah;rw[hm.2]at ai;have xz:gW h tag (h++[.row (dp c)]++[.row [c.a,c.b,c.c,.sc (.string c.name),()]]) (gr (gr tag h.length .none) (h.length+1) .none) (λ_=>False):=by
  have b:=gW.push (h++[.row (dp c)]) (gr tag h.length .none) (.row [c.a,c.b,c.c,.sc (.string c.name),()]) .none (λ_=>False);rw[Zu]at b;exact lX.trans b (λ_ q=>q) (λ_ q=>q)
 have H2:iF (h++[.row (dp c)]++[.row [c.a,c.b,c.c,.sc (.string c.name),()]]) (gr (gr tag h.length .none) (h.length+1) .none) E g N V nr er:=H.gH (λid b h1 _=>xz id b h1 (λq=>q));have KW:(h++[.row (dp c)]++[.row [c.a,c.b,c.c,.sc (.string c.name),()]])[h.length]?=some (.row (dp c)):=by simp
 have yM:(h++[.row (dp c)]++[.row [c.a,c.b,c.c,.sc (.string c.name),()]])[h.length+1]?=some (.row [c.a,c.b,c.c,.sc (.string c.name),()]):=by rw[Zf (by simp)];simp
 generalize hH2:h++[.row (dp c)]++[.row [c.a,c.b,c.c,.sc (.string c.name),()]]=h2 at *;generalize hT2:gr (gr tag h.length .none) (h.length+1) .none=t2 at *;have po:=H2.ea;rw[hs.e,Yp]at po;obtain⟨r1,r2,YM,oV,rF⟩:=po.split;have ou:=H2.es;rw[YM]at ou;have hw:=H2.ea.all (P:=λr=>r.length=5) (λa r q=>q.len);rw[YM]at hw;have EB:g.cZ.length=pre.length+post.length:=by rw[hs.e];simp
 obtain⟨x',h3,t3,g1,g2,g3⟩:=AL (bytes:=64) (k:=false) ou hw yM rfl (by rw[<-hT2,jj];simp) (by rw[Zu,oV.1,rF.1];omega) (by omega);rw[oV.1]at g1;have af:=λbb=>(UT (n+4) bb _ _).trans g1
 have q2':=λ(cal:FuncId->LA->Hp->Option (AV × Hp)) (ops:Array Oper) (d:Tmp) (rest:List Oper) (fr:LA) (h:Hp)=>Bp (C:=cx) (cal:=cal) (ops:=ops) (λv=>g2.np v) d rest fr h
 have eN:=xA H.es;have cN:=g2.cls;unfold cls at cN;have hE2:=H2.box;have QI:=g3 E _ hE2 (by rw[H2.tb];simp);have hE3:=QI.1;have DD:=(g3 h.length _ KW (by rw[<-hT2,xB (by omega),jj];simp)).1;have adJ:=(Za.1 hE3).1;have KX:∀y,(h3.set E y)[E]?=some y:=λy=>Zj adJ
 have adK:∀y,(h3.set E y)[h.length]?=some (.row (dp c)):=λy=>by rw[Zq (by omega)];exact DD
 have e1:dM .i64 (c.a+1)=c.a+1:=dh (by omega) (by omega);have wk:(if g.ne<c.a+1 then c.a+1 else g.ne)=max g.ne (c.a+1):=by split<;>omega
 have hV:=k_ H.es;rw[H.ea.1]at hV;have Dy:(g.cZ.length:Int)<4000:=by omega
 have fr:gW h3 t3 (h3.set E (.row [N,x',g.nn,.sc (.int .i64 (max g.ne (c.a+1)))])) t3 (λt=>t= .box):=gW.set h3 t3 E _ (QI.2.trans H2.tb);refine⟨h3.set E (.row [N,x',g.nn,.sc (.int .i64 (max g.ne (c.a+1)))]),t3,N,x',nr,r1++[[.sc (.int .i64 c.a),.sc (.int .i64 c.b),.sc (.int .i64 c.c),.sc (.string c.name),.sc (.slice none 0 0)]]++r2,?_,{
  box:=KX _
  tb:=QI.2.trans H2.tb
  ns:=(H2.ns.gH g3 (by simp)).gH fr (by simp)
  es:=g2.gH fr (by simp)
  na:=H2.na.imp λa _ r h1=>(h1.gH g3 (by simp) (by simp)).gH fr (by simp) (by simp)
  ea:=by
   have e:(rB g pre post ⟨c.a,c.b,c.c,c.name,[]⟩).cZ=pre++[⟨c.a,c.b,c.c,c.name,[]⟩]++post:=by simp[rB]
   rw[e];exact((oV.imp λa _ r h1=>(h1.gH g3 (by simp)).gH fr (by simp)).app (lP.one ⟨_,rfl,.inl ⟨rfl,.inr rfl⟩⟩)).app (rF.imp λa _ r h1=>(h1.gH g3 (by simp)).gH fr (by simp))},
  (xz.trans g3 (S2:=λt=>t≠ .none) (λ_ q=>q.elim) (λ_ q=>by rw[q];simp)).trans fr (λ_ q=>q) (λ_ q=>by rw[q];simp)⟩
 subst hH2;simp only[Zp,Zv,Zw]at af;rw[De (n:=n+5) (λi=>i==4||i==11) f108 []];rcases hV with⟨h0,rfl⟩|⟨h0,rfl⟩|⟨id,rfl⟩
 all_goals
  simp[f108,aa,ae,ah,ai,hk,ur,Dy];rw[yL (j:=5) (m:=17) ?_ ?_ ?_ ?_]
  rotate_left
  .kernel_rfl
  .simp
  .rfl
  .simp
  simp[af,ur,eN,q2',da,hE3,cN,KX,adK,e1,wk]
def aat {x:Int}{l pre post:List Ed}{m:Ed}(hs:iX (xf x) (wa x) l pre [m] post):∀a∈pre++post,a.id≠m.id:=λa ha e=>by
 have hm:=(hs.m m (by simp)).2;unfold wa at hm;rw[Zz]at hm;have:wa x a=false:=by
  rcases Ya.1 ha with q|q
  .exact(hs.p a q).2
  .exact(hs.q a q).2
 unfold wa at this;rw[decide_eq_false_iff_not]at this;exact this (e.trans hm)
def Mh (n:Nat)(b:Bool)(E:Nat)(g:Gr)(c:Ch)(N V:AV)(nr er:List LA)(tag:Nat->Tg)(h:Hp)(pre post:List Ed)(m:Ed)(H:iF h tag E g N V nr er)(hs:iX (xf c.a) (wa c.a) g.cZ pre [m] post)(hl:g.cZ.length<=4000)(hk:c.k=7):
 ∃h' eO N' V' tf u6,cW cx (n+6) b 108 [.pt E 0,.ag (dp c)] h=some (.tp [],h')/\iF h' eO E {g with cZ:=pre++post} N' V' tf u6/\Fo h tag h' eO:=by
 have uq:=(Za.1 H.box).1;have aa:=λbb=>sH n bb E g N V nr er _ _ c.a pre [m] post (fQ H (dp c)) (by omega) hs
 simp only[Qd,Xj]at aa;have ae:=kc (n+4);have ur:∀y,(h++y)[E]?=some (.row [N,V,g.nn,g.ne]):=λy=>by rw[Zd uq];exact H.box
 have lX:=gW.push h tag (.row (dp c)) .none (λ_=>False);have po:=H.ea;rw[hs.e]at po;obtain⟨U2,r3,hr,pF,Aj⟩:=po.split;obtain⟨r1,r2,du,oV,rF⟩:=pF.split;subst du;obtain⟨r,rfl⟩:∃r,r2=[r]:=Qe.1 rF.1;obtain⟨P,rfl,o2⟩:=rF.2 0 m r rfl rfl;have ou:=H.es;rw[hr]at ou;have hw:=H.ea.all (P:=λr=>r.length=5) (λa r q=>q.len);rw[hr]at hw;obtain⟨id,cs,hN,dC,rT,_,fq,zE⟩:=i_ ou hw;have hP:=zE 4 P rfl;have EB:g.cZ.length=pre.length+1+post.length:=by rw[hs.e];simp;omega
 have cU:(r1++[[.sc (.int .i64 m.id),.sc (.int .i64 m.src),.sc (.int .i64 m.dst),.sc (.string m.type),P]]++r3).length=pre.length+1+post.length:=by simp[oV.1,Aj.1];omega
 rw[oV.1]at hP;have ajT:=ou.gH lX (λq=>q);obtain⟨x',h3,d1,d2,d3⟩:=AM UY ajT hw (by rw[cU];omega) (n+4) true;rw[oV.1]at d1;have qV:=oG (λv=>H.es.np v)
 have q2:=oG (λv=>d2.np v)
 have cX:=d2.cls;unfold cls at cX;have kE:=lX E _ H.box (λq=>q);have QI:=d3 E _ kE.1 (by rw[kE.2,H.tb];simp);have kEl:=(Za.1 QI.1).1;have Mg:=λy=>gW.set h3 (gr tag h.length .none) E (.row y) (S:=λt=>t= .box) (QI.2.trans (kE.2.trans H.tb))
 refine⟨h3.set E (.row [N,x',g.nn,g.ne]),_,N,x',nr,r1++r3,?_,{
  box:=Zj kEl
  tb:=QI.2.trans (kE.2.trans H.tb)
  ns:=((H.ns.gH lX (λq=>q)).gH d3 (by simp)).gH (Mg _) (by simp)
  es:=d2.gH (Mg _) (by simp)
  na:=H.na.imp λa _ r q=>((q.gH lX (λq=>q) (λq=>q)).gH d3 (by simp) (by simp)).gH (Mg _) (by simp) (by simp)
  ea:=((oV.imp λa ha r q=>((q.gH lX (λq=>q)).gH d3 (by simp)).gH (Mg _) (by simp)).app (Aj.imp λa ha r q=>((q.gH lX (λq=>q)).gH d3 (by simp)).gH (Mg _) (by simp)))},
  (lX.trans d3 (S2:=λt=>t≠ .none) (λ_ q=>q.elim) (λ_ q=>by rw[q];simp)).trans (Mg _) (λ_ q=>q) (λ_ q=>by rw[q];simp)⟩
 have e5:dM .i64 ((pre.length:Int)+1)=(pre.length:Int)+1:=dh (by omega) (by omega);rw[De (n:=n+5) (λi=>i==4||i==11) f108 []];simp[f108,aa,ae,hk,ur,e5,d1,qV,q2,QI.1,cX,da]
def Mi (n D:Nat)(b:Bool)(E:Nat)(g:Gr)(c:Ch)(N V:AV)(nr er:List LA)(tag:Nat->Tg)(h:Hp)(pre post:List Ed)(m:Ed)(H:iF h tag E g N V nr er)(hs:iX (xf c.a) (wa c.a) g.cZ pre [m] post)(hl:g.cZ.length<=4000)(pp pm pq:List iP)(adL:m.props.length<=16)(U4:iX (Da c.name) (zq c.name) m.props pp pm pq)(hd:fB c.v<=D)(hv:gV c.v)(hk:c.k≠6/\c.k≠7):
 if(qI c.name c.v pp pq).length<=16 then∃h' eO N' V' tf u6,cW cx (n+2*D+10) b 108 [.pt E 0,.ag (dp c)] h=some (.tp [],h')/\iF h' eO E {g with cZ:=pre++[{m with props:=qI c.name c.v pp pq}]++post} N' V' tf u6/\Fo h tag h' eO else∃h' eO,cW cx (n+2*D+10) b 108 [.pt E 0,.ag (dp c)] h=some (.pn (.iface 150 (.int .i64 20)),h')/\Fo h tag h' eO:=by
 have uq:=(Za.1 H.box).1;have aa:=λbb=>sH (n+2*D+4) bb E g N V nr er _ _ c.a pre [m] post (fQ H (dp c)) (by omega) hs
 simp only[Qd,Xj]at aa;have ae:=kc (n+2*D+8);have ur:∀y,(h++y)[E]?=some (.row [N,V,g.nn,g.ne]):=λy=>by rw[Zd uq];exact H.box
 have lX:=gW.push h tag (.row (dp c)) .none (λ_=>False);have po:=H.ea;rw[hs.e]at po;obtain⟨U2,r3,hr,pF,Aj⟩:=po.split;obtain⟨r1,r2,du,oV,rF⟩:=pF.split;subst du;obtain⟨r,rfl⟩:∃r,r2=[r]:=Qe.1 rF.1;obtain⟨P,rfl,o2⟩:=rF.2 0 m r rfl rfl;have ou:=H.es;rw[hr]at ou;have hw:=H.ea.all (P:=λr=>r.length=5) (λa r q=>q.len);rw[hr]at hw;obtain⟨id,cs,hN,dC,rT,_,fq,zE⟩:=i_ ou hw;have hP:=zE 4 P rfl;have EB:g.cZ.length=pre.length+1+post.length:=by rw[hs.e];simp;omega
 have cU:(r1++[[.sc (.int .i64 m.id),.sc (.int .i64 m.src),.sc (.int .i64 m.dst),.sc (.string m.type),P]]++r3).length=pre.length+1+post.length:=by simp[oV.1,Aj.1];omega
 rw[oV.1]at hP;have af:=acg n D false (o2.gH lX (λq=>q)) adL U4 hd hv (by simp);rw[cU]at hN fq;have pX:pre.length*5+4+1<=cs.length:=by omega
 have pT:pre.length<pre.length+1+post.length:=by omega
 have jD:=(Za.1 dC).1;have py:∀y,(h++y)[id]?=some (.row cs):=λy=>by rw[Zd jD];exact dC
 have eW:=aat hs;have qP:=NZ (λv=>o2.np v)
 have eV:=xA H.es;obtain⟨QJ,hk7⟩:=hk;split
 .rename_i oe;rw[dd oe]at af;obtain⟨x',h3,t3,g1,hx,g3⟩:=af;have q2:=NZ (λv=>hx.np v)
  have cX:=hx.cls;unfold cls at cX;have k2:=g3 id (.row cs) (lX id _ dC (λq=>q)).1 (by rw[(lX id _ dC (λq=>q)).2,rT];simp);have kE:=lX E _ H.box (λq=>q);have QI:=(g3 E _ kE.1 (by rw[kE.2,H.tb];simp)).1;obtain⟨u6,hG,hF⟩:=QH H hs.e eW hN dC hx (lX.trans g3 (λ_ q=>q.elim) (λ_ q=>q));refine⟨_,_,_,_,_,_,?_,hG,λi bl q1 q2=>hF i bl q1 (by rintro(q|q)<;>(rw[q]at q2;simp at q2))⟩;subst hN;rw[De (n:=n+2*D+9) (λi=>i==4||i==11) f108 []];simp[f108,aa,ae,QJ,hk7];rw[aao (j:=4) (m:=20) ?_ ?_ ?_ ?_]
  rotate_left
  .kernel_rfl
  .simp
  .rfl
  .simp
  simp[ur,py,pT,hP,qP,g1,q2,da,k2.1,QI,cX,pX,eV]
 .rename_i oe;rw[db oe]at af;obtain⟨h3,t3,g1,g3⟩:=af;refine⟨h3,t3,?_,(lX.trans g3 (S2:=λt=>t≠ .none) (λ_ q=>q.elim) (λ_ q=>by rw[q];simp))⟩;have kE:=lX E _ H.box (λq=>q);subst hN;rw[De (n:=n+2*D+9) (λi=>i==4||i==11) f108 []];simp[f108,aa,ae,QJ,hk7];rw[I4 19 [] (v:= .iface 150 (.int .i64 20)) (hP:=h3) ?_ ?_ ?_ ?_]
  rotate_left
  .simp
  .kernel_rfl
  .kernel_rfl
  .simp[ur,py,pT,hP,qP,g1]
  simp
end
end Go.Proofs.YtaibpnppeiigdaaGreatDoor
