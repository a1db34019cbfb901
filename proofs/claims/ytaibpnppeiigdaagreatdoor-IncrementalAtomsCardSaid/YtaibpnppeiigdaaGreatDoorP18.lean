/- Part of the proof. -/
import Derived.Test.YtaibpnppeiigdaaGreatDoorP17
set_option linter.all false
set_option maxHeartbeats 32000000
set_option maxRecDepth 100000
namespace Go.Proofs.YtaibpnppeiigdaaGreatDoor
open Go Go.Ae Go.Proofs.Tryz
section
attribute [local simp] zi da XM
inductive Tg where
 |none
 |box
 |nodes
 |cZ
 |LR (n:Int)
 |prop (n:Int)
 |Eu (n:Int)
def js (h:Hp)(tag:Nat->Tg)(tg:Tg)(sz:Nat)(cY:List LA)(x:AV):Prop:=
 (cY=[]/\(x= .ls sz [] true\/x=()))\/∃id cs,x= .sl id sz 0 cY.length false/\h[id]?=some (.row cs)/\cs.take (cY.length*sz)=cY.flatten/\cY.length*sz<=cs.length/\tag id=tg
def Dv (h:Hp)(tag:Nat->Tg)(n:Nd)(row:LA):Prop:=∃L P,row=[.sc (.int .i64 n.id),L,P]/\js h tag (.LR n.id) 1 (gP n.labels) L/\js h tag (.prop n.id) 6 (iy n.props) P
def FY (h:Hp)(tag:Nat->Tg)(e:Ed)(row:LA):Prop:=∃P,row=[.sc (.int .i64 e.id),.sc (.int .i64 e.src),.sc (.int .i64 e.dst),.sc (.string e.type),P]/\js h tag (.Eu e.id) 6 (iy e.props) P
def lP {α:Type}(R:α->LA->Prop)(l:List α)(cY:List LA):Prop:=cY.length=l.length/\∀(i:Nat) (a:α) (r:LA),l[i]?=some a->cY[i]?=some r->R a r
structure iF (h:Hp)(tag:Nat->Tg)(E:Nat)(g:Gr)(N V:AV)(jW h_:List LA):Prop where
 box:h[E]?=some (.row [N,V,g.nn,g.ne])
 tb:tag E= .box
 ns:js h tag .nodes 3 jW N
 es:js h tag .cZ 5 h_ V
 na:lP (Dv h tag) g.nodes jW
 ea:lP (FY h tag) g.cZ h_
def gW (h:Hp)(tag:Nat->Tg)(h':Hp)(eO:Nat->Tg)(S:Tg->Prop):Prop:=∀id b,h[id]?=some b->¬S (tag id)->h'[id]?=some b/\eO id=tag id
def js.gH {h h':Hp}{tag eO:Nat->Tg}{S:Tg->Prop}(hf:gW h tag h' eO S){tg:Tg}(hs:¬S tg){sz:Nat}{cY:List LA}{x:AV}(ho:js h tag tg sz cY x):js h' eO tg sz cY x:=by
 rcases ho with ho|⟨id,cs,rfl,h1,h2,h3,h4⟩
 .exact .inl ho
 .have:=hf id _ h1 (by rw[h4];exact hs);exact .inr ⟨id,cs,rfl,this.1,h2,h3,by rw[this.2,h4]⟩
def Dv.gH {h h':Hp}{tag eO:Nat->Tg}{S:Tg->Prop}(hf:gW h tag h' eO S){n:Nd}(h1:¬S (.LR n.id))(h2:¬S (.prop n.id)){row:LA}(hr:Dv h tag n row):Dv h' eO n row:=by
 obtain⟨L,P,rfl,a,b⟩:=hr;exact⟨L,P,rfl,a.gH hf h1,b.gH hf h2⟩
def FY.gH {h h':Hp}{tag eO:Nat->Tg}{S:Tg->Prop}(hf:gW h tag h' eO S){n:Ed}(h1:¬S (.Eu n.id)){row:LA}(hr:FY h tag n row):FY h' eO n row:=by
 obtain⟨P,rfl,a⟩:=hr;exact⟨P,rfl,a.gH hf h1⟩
def lP.imp {α:Type}{R R':α->LA->Prop}{l:List α}{cY:List LA}(h:lP R l cY)(k:∀a∈l,∀r,R a r->R' a r):lP R' l cY:=
 ⟨h.1,λi a r ha hr=>k a (Zi ha) r (h.2 i a r ha hr)⟩
def lP.get {α:Type}{R:α->LA->Prop}{l:List α}{cY:List LA}(h:lP R l cY){i:Nat}{a:α}(ha:l[i]?=some a):∃r,cY[i]?=some r/\R a r:=by
 have hi:i<cY.length:=by rw[h.1];exact(Za.1 ha).1
 exact⟨_,Zb hi,h.2 i a _ ha (Zb hi)⟩
def gW.refl (h:Hp)(tag:Nat->Tg)(S:Tg->Prop):gW h tag h tag S:=λ_ _ h1 _=>⟨h1,rfl⟩
def gW.trans {h h1 h2:Hp}{t t1 t2:Nat->Tg}{S S1 S2:Tg->Prop}(a:gW h t h1 t1 S)(b:gW h1 t1 h2 t2 S1)(k:∀x,S x->S2 x)(k1:∀x,S1 x->S2 x):gW h t h2 t2 S2:=λid bl h0 hs=>by
 obtain⟨e1,e2⟩:=a id bl h0 (λq=>hs (k _ q));obtain⟨e3,e4⟩:=b id bl e1 (λq=>hs (by rw[e2]at q;exact k1 _ q));exact⟨e3,e4.trans e2⟩
def gr (tag:Nat->Tg)(i:Nat)(t:Tg):Nat->Tg:=λj=>if j=i then t else tag j
def gW.push (h:Hp)(tag:Nat->Tg)(b:fp)(t:Tg)(S:Tg->Prop):gW h tag (h++[b]) (gr tag h.length t) S:=λid bl h1 _=>by
 have hl:=(Za.1 h1).1;exact⟨by rw[Zd hl];exact h1,by unfold gr;rw[db (by omega)]⟩
def gW.set (h:Hp)(tag:Nat->Tg)(i:Nat)(b:fp){S:Tg->Prop}(hs:S (tag i)):gW h tag (h.set i b) tag S:=λid bl h1 k=>by
 have:i≠id:=λe=>k (e▸hs)
 exact⟨by rw[Zq this];exact h1,rfl⟩
def iF.gH {h h':Hp}{tag eO:Nat->Tg}(hf:gW h tag h' eO (λt=>t= .none)){E:Nat}{g:Gr}{N V:AV}{jW h_:List LA}(hr:iF h tag E g N V jW h_):iF h' eO E g N V jW h_:={
 box:=(hf E _ hr.box (by rw[hr.tb];simp)).1
 tb:=(hf E _ hr.box (by rw[hr.tb];simp)).2.trans hr.tb
 ns:=hr.ns.gH hf (by simp)
 es:=hr.es.gH hf (by simp)
 na:=hr.na.imp λa _ r h1=>h1.gH hf (by simp) (by simp)
 ea:=hr.ea.imp λa _ r h1=>h1.gH hf (by simp)}
def js.dq {h:Hp}{tag:Nat->Tg}{tg:Tg}{sz n:Nat}{cY rows':List LA}{x:AV}(gC:0<sz)(hr:∀r∈rows',r.length=sz)(ho:js h tag tg sz cY x)(hl:rows'.length=cY.length)(hm:cY.flatten.mapM (dq h n)=some rows'.flatten):
 ∃y,dq h (n+1) x=some y/\uT sz y= .ls sz rows' false:=by
 rcases ho with⟨rfl,rfl|rfl⟩|⟨id,cs,rfl,h1,h2,h3,h4⟩
 .have:rows'=[]:=Zl (by simpa using hl);subst this;exact⟨_,rfl,by simp[uT]⟩
 .have:rows'=[]:=Zl (by simpa using hl);subst this;exact⟨_,rfl,by simp[uT]⟩
 .refine⟨.ls sz rows' false,?_,by simp[uT]⟩;simp only[Ae.dq,jQ h1,Xb,List.drop_zero,dd h3,h2,hm,Xq];rw[<-hl,wb gC rows' hr]
def js.Iq {h:Hp}{tag:Nat->Tg}{tg:Tg}{sz n:Nat}{cY:List LA}{x:AV}(gC:0<sz)(hr:∀r∈cY,r.length=sz)(hc:cY.flatten.all eT=true)(ho:js h tag tg sz cY x):∃y,Ae.dq h (n+1) x=some y/\uT sz y= .ls sz cY false:=
 ho.dq gC hr rfl (kX hc)
def gT (xs:LA):d_ (.ag xs)=xs.all eT:=rfl
def Uj {f:FuncId}{args:LA}{n:Nat}(r0:AV)(fi:Fi)(hF:cx.F f=some fi)(iG:tv cx fi.body=true)(hs:cx.ox f=none)(hi:cx.inl f=false)(hl:args.length<=fi.ntmps)(hc:args.all d_=true)
 (hb:∃r h',eQ fi.res (dS cx (cW cx n) fi.body (args++List.replicate (fi.ntmps-args.length) .un,[]))=some (r,h')/\∃r',dq h' 8 r=some r'/\Ai r'=r0) (ht:(vM f && Dw f)=true:=by decide) (b:Bool) (h:Hp):cW cx (n+1) b f args h=some (r0,h):=by
 obtain⟨r,h',hb,r',hr,hR⟩:=hb;rw[Zh]at ht;have:=nD (C:=cx) hs hi (rv ht.1) hc (by rw[kh hF iG hl];exact hb) hr b h;rw[this];show some (LS f r',h)=_;unfold LS;rw[ht.2];simp[hR]
def nA {f:FuncId}{args:LA}{n:Nat}{r0:AV}(fn:Func)(res:List Rv)(hc:args.all d_=true)(hb:∃r h',eQ res (dS cx (cW cx n) ((fn.body).getD .skip) (args++List.replicate (fn.ntmps-args.length) .un,[]))=some (r,h')/\∃r',Ae.dq h' 8 r=some r'/\Ai r'=r0)(b:Bool)(h:Hp)(ht:(vM f&&Dw f)=true:=by decide)(hF:cx.F f=some ⟨fn.ntmps,(fn.body).getD .skip,res⟩:=by kernel_rfl)(iG:tv cx ((fn.body).getD .skip)=true:=by kernel_rfl)(hi:cx.inl f=false:=by kernel_rfl)(hl:Nat.ble args.length fn.ntmps=true:=by rfl):cW cx (n+1) b f args h=some (r0,h):=
 Uj r0 ⟨fn.ntmps,(fn.body).getD .skip,res⟩ hF iG rfl hi (Nat.le_of_ble_eq_true hl) hc hb ht b h
def kR (l:List LA)(ids:List Int):List (LA × Int):=l.zip ids
def wJ (x:Int)(p:LA × Int):Bool:=decide (p.2<x)
def wK (x:Int)(p:LA × Int):Bool:=decide (p.2=x)
def Oo {α β:Type}{lt eq:α->Bool}{lt' eq':β->Bool}{l pre gj post:List α}(h:iX lt eq l pre gj post)(f:α->β)(h1:∀a,lt' (f a)=lt a)(h2:∀a,eq' (f a)=eq a):iX lt' eq' (l.map f) (pre.map f) (gj.map f) (post.map f):={
 e:=by rw[h.e];simp
 p:=λx hx=>by obtain⟨a,ha,rfl⟩:=Yi.1 hx;rw[h1,h2];exact h.p a ha
 m:=λx hx=>by obtain⟨a,ha,rfl⟩:=Yi.1 hx;rw[h1,h2];exact h.m a ha
 one:=by simpa using h.one
 q:=λx hx=>by obtain⟨a,ha,rfl⟩:=Yi.1 hx;rw[h1,h2];exact h.q a ha}
def Uk (n:Nd):Ul (eo n)=eo n:=rfl
def Um (n:Ed):Un (eY n)=eY n:=rfl
def xp (l:List Nd):(lU l).map Ul=lU l:=by
 unfold lU;rw[List.map_map];exact List.map_congr_left λn _=>Uk n
def xq (l:List Ed):(mA l).map Un=mA l:=by
 unfold mA;rw[List.map_map];exact List.map_congr_left λn _=>Um n
def uV (sz:Nat)(g:LA->LA)(cY:List LA):Ir sz g (gF sz cY)= .ls sz (cY.map g) false:=by
 unfold gF;cases cY with
 |nil=>rfl
 |cons r cY=>simp[Ir]
def uh (sz:Nat)(g:LA->LA)(cY:List LA)(z:Bool):Ir sz g (.ls sz cY z)= .ls sz (cY.map g) false:=by simp[Ir]
def xt {h:Hp}{a a' b b':AV}{u v:Value}(e:dq h 7 a=some a')(e2:dq h 7 b=some b'):dq h 8 (.ag [a,b,.sc u,.sc v])=some (.ag [a',b',.sc u,.sc v]):=by
 show(List.mapM (dq h 7) [a,b,.sc u,.sc v]).map AV.ag=_;rw[Zo,e,Zo,e2];rfl
set_option maxHeartbeats 32000000 in
def qq (n:Nat)(b:Bool)(g:Gr)(x:Int)(L P:AV)(m:Nd)(pre gj post:List Nd)(h:Hp)(hl:g.nodes.length<=100000)(hL:eT L=true)(hP:eT P=true)(hm:Ul [x,L,P]=eo m)(hs:iX (qM x) (qp x) g.nodes pre gj post)(hx:0<=x/\x<=1000000000):
 cW cx (n+1) b 91 [.ag (dn g),.ag [x,L,P]] h=some (.ag (dn {g with nodes:=pre++[m]++post,nn:=max g.nn (x+1)}),h):=by
 refine nA f91 [.cell 4 4 true] (by
  rw[Zn,Zn,gT,gT];simp[dn,gh,gE,hL,hP]) ?_ b h
 have kC:=Oo hs (lt':=wJ x) (eq':=wK x) (λc:Nd=>(eo c,c.id)) (λ_=>rfl) (λ_=>rfl);have px:=BC kC ([.sc (.int .i64 x),L,P],x) true;have eG:=FX (wJ x) (wK x) ([.sc (.int .i64 x),L,P],x) true (g.nodes.map λc=>(eo c,c.id));have gC:∀i,∀r∈((om (wJ x) (wK x) ([.sc (.int .i64 x),L,P],x) true (g.nodes.map λc=>(eo c,c.id)) i).1).map Prod.fst,r.length=3/\r.all eT=true:=by
  intro i
  induction i with
  |zero=>simp[Em]
  |
   succ i ih=>
   by_cases hi:i<g.nodes.length
   .rw[rm (x:=(eo (g.nodes[i]),(g.nodes[i]).id)) _ _ (by rw[Zs,Zb hi];rfl)];intro r hr;simp only[j8,List.map_append,Ya]at hr;rcases hr with(hr|hr)|hr
    .exact ih r hr
    .split at hr
     .simp at hr;subst hr;exact⟨rfl,by simp[hL,hP]⟩
     .cases hr
    .split at hr
     .cases hr
     .simp at hr;subst hr;exact⟨rfl,rfl⟩
   .have:om (wJ x) (wK x) ([.sc (.int .i64 x),L,P],x) true (g.nodes.map λc=>(eo c,c.id)) (i+1)=om (wJ x) (wK x) ([.sc (.int .i64 x),L,P],x) true (g.nodes.map λc=>(eo c,c.id)) i:=by
     unfold om;rw[Ys (by simp;omega),Ys (by simp;omega)]
    rw[this];exact ih
 have hq:=fJ g.nodes;have hg:=mM g.nodes;rw[Yk]at eG;unfold P6 at px;rw[Yk]at px;have eZ:∀{i:Nat} {c:Nd},g.nodes[i]?=some c->om (wJ x) (wK x) ([.sc (.int .i64 x),L,P],x) true (g.nodes.map λc=>(eo c,c.id)) (i+1)=j8 (wJ x) (wK x) ([.sc (.int .i64 x),L,P],x) true (om (wJ x) (wK x) ([.sc (.int .i64 x),L,P],x) true (g.nodes.map λc=>(eo c,c.id)) i) (eo c,c.id):=λhc=>rm _ _ (by rw[Zs,hc];rfl)
 have h0:om (wJ x) (wK x) ([.sc (.int .i64 x),L,P],x) true (g.nodes.map λc=>(eo c,c.id)) 0=([],false):=rfl;generalize om (wJ x) (wK x) ([.sc (.int .i64 x),L,P],x) true (g.nodes.map λc=>(eo c,c.id))=PF at px eG gC eZ h0;have nd:(((v_ ([.sc (.int .i64 x),L,P],x) true (PF g.nodes.length)).map Prod.fst).map Ul)=lU (pre++[m]++post):=by
  rw[px];simp only[if_true,List.map_append,List.map_map,Xi,List.map_nil,hm];unfold lU;simp only[List.map_append,Xi,List.map_nil]
  congr 1
 have hx1:dM .i64 (x+1)=x+1:=dh (by omega) (by omega);unfold dn gh;generalize lU g.nodes=cY at hq hg;simp[f91];refine eC (C:=cx) (G:=λr=>∃r0 h',eQ _ (eR _ _ (dL _ r) _)=some (r0,h')/\∃r',dq h' 8 r0=some r'/\Ai r'= .ag [.ls 3 (lU (pre++m::post)) false,gE g.cZ,.sc (.int .i64 (max g.nn (x+1))),g.ne])
  (λi s=>s.1.length=65/\gt s.1 2= .pt 0 0/\gt s.1 3= .pt 1 0/\gt s.1 4= .pt 2 0/\gt s.1 6= .sc (.bool (PF i).2)/\gt s.1 7= .sc (.int .i64 i)/\s.2[0]?=some (.row [.ls 3 cY false,gE g.cZ,g.nn,g.ne])/\s.2[1]?=some (.row [x,L,P])/\s.2[2]?=some (.row [(),(),(0:Int),(0:Int)])/\∃y,gt s.1 5=y/\kP s.2 3 ((PF i).1.map Prod.fst) y/\∀k n,y= .sl k 3 0 n false->2<k)
  (λo s=>o= .exit 0/\s.1.length=65/\gt s.1 2= .pt 0 0/\gt s.1 3= .pt 1 0/\gt s.1 4= .pt 2 0/\gt s.1 6= .sc (.bool (PF g.nodes.length).2)/\s.2[0]?=some (.row [.ls 3 cY false,gE g.cZ,g.nn,g.ne])/\s.2[1]?=some (.row [x,L,P])/\s.2[2]?=some (.row [(),(),(0:Int),(0:Int)])/\∃y,gt s.1 5=y/\kP s.2 3 ((PF g.nodes.length).1.map Prod.fst) y/\∀k n,y= .sl k 3 0 n false->2<k) g.nodes.length (by simp;omega) (by simp[h0,kP]) ?_ ?_
 .rintro i fr h n_ ⟨cU,e2,e3,e4,e6,e7,b0,b1,b2,y,e5,hy,hk⟩;simp only at cU e2 e3 e4 e6 e7 b0 b1 b2 e5 hy;have rz:2<h.length:=(Za.1 b2).1;by_cases hi:i<g.nodes.length
  .obtain⟨c,hc⟩:=eA hi;have hr:cY[i]?=some [.sc (.int .i64 c.id),iK c.labels false,iE c.props false]:=by rw[hg,hc];rfl
   have du:=gA hr
   have hf:=di (i:=i) (by omega);have dD:=eZ hc;have Ah:=eG i;have dJ:=gC i;generalize PF i=P0 at dD Ah e6 hy dJ;obtain⟨p0,d0⟩:=P0;simp only at e6 hy Ah dJ;have q0:=oG (λv=>hy.np v)
   have add:∀(Iu:List LA) (y1:AV) (h1:Hp) (r:LA),kP h1 3 Iu y1->Iu.length<=200002->(∀r∈Iu,r.length=3)->r.length=3->2<h1.length->h1[0]?=h[0]?->h1[1]?=h[1]?->h1[2]?=h[2]?->(∀k n,y1= .sl k 3 0 n false->2<k)->
    ∃id h2,eE cx (h1++[.row r]) 22 y1 (.sl h1.length 3 0 1 false)=some (.sl id 3 0 (Iu.length+1) false,h2)/\kP h2 3 (Iu++[r]) (.sl id 3 0 (Iu.length+1) false)/\h2[0]?=h[0]?/\h2[1]?=h[1]?/\h2[2]?=h[2]?/\2<h2.length/\2<id:=by
    intro Iu y1 h1 r hb hn yb nC hl1 z0 z1 z2 r_;obtain⟨id,h2,a1,a2,a3,a4⟩:=gm (t:=22) si rfl h1 r Iu y1 hb nC yb (by omega) (by omega) (by omega);have w0:=a3 0 _ (z0.trans b0) (λk n e=>by have:=r_ k n e;omega);have w1:=a3 1 _ (z1.trans b1) (λk n e=>by have:=r_ k n e;omega);have w2:=a3 2 _ (z2.trans b2) (λk n e=>by have:=r_ k n e;omega);exact⟨id,h2,a1,pf a2,w0.trans b0.symm,w1.trans b1.symm,w2.trans b2.symm,(Za.1 w2).1,by omega⟩
   have pT:(p0.map Prod.fst).length=p0.length:=by simp
   obtain⟨ik,SI,k1,k2,k3,k4,k5,k6,k7⟩:=add _ y h [c.id,iK c.labels false,iE c.props false] hy (by omega) (λr hr=>(dJ r hr).1) rfl rz rfl rfl rfl hk;obtain⟨ip,lW,p1,p2,p3,p4,p5,p6,p7⟩:=add _ y h [x,L,P] hy (by omega) (λr hr=>(dJ r hr).1) rfl rz rfl rfl rfl hk;obtain⟨im,Hg,m1,m2,m3,m4,m5,m6,m7⟩:=add _ _ lW [c.id,iK c.labels false,iE c.props false] p2 (by simp;omega) (λr hr=>by
    rcases Ya.1 hr with hr|hr
    .exact(dJ r hr).1
    .simp at hr;rw[hr];rfl) rfl p6 p3 p4 p5 (λk n e=>by simp only[AV.sl.injEq]at e;omega)
   rw[b0]at k3 p3 m3;rw[b1]at k4 p4 m4;rw[b2]at k5 p5 m5;simp only[Zu,Yk,Xf]at k1 k2 p1 p2 m1 m2;have rS:∀q:c.id<x,¬x<=c.id:=λq=>by omega
   have adA:∀q:¬c.id<x,x<=c.id:=λq=>by omega
   cases d0
   .by_cases dY:c.id<x
    .have eW:¬c.id=x:=by omega
     have hg2:=rS dY;simp[cU,e2,e3,e4,e5,e6,e7,q0,dD,b0,b1,hi,hq,du,hf,dY,eW,hg2,k1,k3,k4,k5,j8,wJ,wK];exact⟨k2,k7⟩
    .have hg2:=adA dY;by_cases heq:c.id=x
     .simp[cU,e2,e3,e4,e5,e6,e7,q0,dD,b0,b1,hi,hq,du,hf,heq,p1,p3,p4,p5,j8,wJ,wK];exact⟨p2,p7⟩
     .simp[cU,e2,e3,e4,e5,e6,e7,q0,dD,b0,b1,hi,hq,du,hf,dY,heq,hg2,p1,p3,p4,m1,m3,m4,m5,j8,wJ,wK];exact⟨by simpa[eo]using m2,m7⟩
   .by_cases heq:c.id=x
    .simp[cU,e2,e3,e4,e5,e6,e7,dD,b0,b1,b2,hi,hq,du,hf,heq,j8,wJ,wK];exact⟨hy,hk⟩
    .simp[cU,e2,e3,e4,e5,e6,e7,q0,dD,b0,b1,hi,hq,du,hf,heq,k1,k3,k4,k5,j8,wJ,wK];exact⟨k2,k7⟩
  .have gG:i=g.nodes.length:=by omega
   subst gG;simp[cU,e2,e3,e4,e5,e6,e7,b0,b1,b2,hq];exact⟨hy,hk⟩
 .rintro o fr h hn ⟨rfl,cU,e2,e3,e4,e6,b0,b1,b2,y,e5,hy,hk⟩;simp only at cU e2 e3 e4 e6 b0 b1 b2 e5 hy;have rz:2<h.length:=(Za.1 b2).1;have jt:(if g.nn<x+1 then x+1 else g.nn)=max g.nn (x+1):=by rw[Int.max_def];split<;>split<;>omega
  have Ah:=eG g.nodes.length;have dJ:=gC g.nodes.length;generalize PF g.nodes.length=P0 at Ah e6 hy dJ nd;obtain⟨p0,d0⟩:=P0;simp only at e6 hy Ah dJ;have Uo:∀(mQ:List LA) (h1 h2:Hp) (y1:AV),kP h1 3 mQ y1->(∀k n,y1= .sl k 3 0 n false->2<k)->(∀j,2<j->h2[j]?=h1[j]?)->(∀r∈mQ,r.length=3/\r.all eT=true)->dq h2 7 y1=some (gF 3 mQ):=by
   intro mQ h1 h2 y1 hb r_ hj AG;refine ij (by omega) (λr hr=>(AG r hr).1) (jE λr hr=>(AG r hr).2) ?_;rcases hb with hb|⟨eW,id,rfl,dC⟩
   .exact .inl hb
   .exact .inr ⟨eW,id,rfl,by rw[hj id (r_ id _ rfl)];exact dC⟩
  have Iv:(mA g.cZ).map Un=mA g.cZ:=xq _;cases d0
  .have Dx:2< (h++[fp.row [x,L,P]]).length:=by simp;omega
   obtain⟨id,h2,a1,a2,a3,a4⟩:=gm (t:=22) si rfl h [x,L,P] _ y hy rfl (λr hr=>(dJ r hr).1) (by omega) (by simp;omega) (by omega);have w0:=a3 0 _ b0 (λk n e=>by have:=hk k n e;omega);have w1:=a3 1 _ b1 (λk n e=>by have:=hk k n e;omega);have w2:=a3 2 _ b2 (λk n e=>by have:=hk k n e;omega);have hl2:2<h2.length:=(Za.1 w2).1;have s0:∀B,(h2.set 0 B)[0]?=some B:=λB=>Zj (by omega)
   have s2:∀B C,((h2.set 0 B).set 2 C)[2]?=some C:=λB C=>Zj (by simp;omega)
   have q0:=oG (λv=>hy.np v)
   have a5:=pf (sz:=3) a2;simp only[Yk]at a1 a5;simp only[v_,Xj,Bool.true_and,if_true,List.map_append,Xi,List.map_nil]at nd;simp[cU,e2,e3,e4,e5,e6,q0,b1,a1,w0,w1,w2,hx1,jt,s0,s2];refine⟨_,_,⟨rfl,rfl⟩,_,xt (Uo (p0.map Prod.fst++[[.sc (.int .i64 x),L,P]]) h2 _ _ a5 (λk n e=>by simp only[AV.sl.injEq]at e;omega) (λj hj=>by simp[show¬0=j by omega,show¬2=j by omega]) ?_) rfl,?_⟩
   .intro r hr;rcases Ya.1 hr with hr|hr
    .exact dJ r hr
    .simp at hr;subst hr;exact⟨rfl,by simp[hL,hP]⟩
   .simp only[Ai,LU,uV,List.map_append,Xi,List.map_nil,gE,uh,Iv];rw[nd];simp
  .simp only[v_,Xz,Bool.false_and,Yq,if_false]at nd;rcases hy with⟨LH,rfl⟩|⟨eW,id,rfl,dC⟩
   .have Uq:lU (pre++m::post)=[]:=by rw[show pre++m::post=pre++[m]++post by simp,<-nd,LH];rfl
    simp[lU]at Uq
   .have s0:∀B,(h.set 0 B)[0]?=some B:=λB=>Zj (by omega)
    have s2:∀B C,((h.set 0 B).set 2 C)[2]?=some C:=λB C=>Zj (by simp;omega)
    have og:=hk id _ rfl;simp[cU,e2,e3,e4,e5,e6,b0,b1,b2,hx1,jt,s0,s2];refine⟨_,_,⟨rfl,rfl⟩,_,xt (Uo (p0.map Prod.fst) h _ _ (.inr ⟨eW,id,by simp,dC⟩) (λk n e=>by simp only[AV.sl.injEq]at e;omega) (λj hj=>by simp[show¬0=j by omega,show¬2=j by omega]) dJ) rfl,?_⟩;simp only[Ai,LU,uV,gE,uh,Iv];rw[nd];simp
set_option maxHeartbeats 32000000 in
def zw (n:Nat)(b:Bool)(g:Gr)(x:Int)(A B:Int)(T:ByteArray)(P:AV)(m:Ed)(pre gj post:List Ed)(h:Hp)(hl:g.cZ.length<=100000)(hP:eT P=true)(hm:Un [x,A,B,.sc (.string T),P]=eY m)(hs:iX (xf x) (wa x) g.cZ pre gj post)(hx:0<=x/\x<=1000000000):
 cW cx (n+1) b 92 [.ag (dn g),.ag [x,A,B,.sc (.string T),P]] h=some (.ag (dn {g with cZ:=pre++[m]++post,ne:=max g.ne (x+1)}),h):=by
 refine nA f92 [.cell 4 4 true] (by
  rw[Zn,Zn,gT,gT];simp[dn,gh,gE,hP]) ?_ b h
 have kC:=Oo hs (lt':=wJ x) (eq':=wK x) (λc:Ed=>(eY c,c.id)) (λ_=>rfl) (λ_=>rfl);have px:=BC kC ([.sc (.int .i64 x),.sc (.int .i64 A),.sc (.int .i64 B),.sc (.string T),P],x) true;have eG:=FX (wJ x) (wK x) ([.sc (.int .i64 x),.sc (.int .i64 A),.sc (.int .i64 B),.sc (.string T),P],x) true (g.cZ.map λc=>(eY c,c.id));have gC:∀i,∀r∈((om (wJ x) (wK x) ([.sc (.int .i64 x),.sc (.int .i64 A),.sc (.int .i64 B),.sc (.string T),P],x) true (g.cZ.map λc=>(eY c,c.id)) i).1).map Prod.fst,r.length=5/\r.all eT=true:=by
  intro i
  induction i with
  |zero=>simp[Em]
  |
   succ i ih=>
   by_cases hi:i<g.cZ.length
   .rw[rm (x:=(eY (g.cZ[i]),(g.cZ[i]).id)) _ _ (by rw[Zs,Zb hi];rfl)];intro r hr;simp only[j8,List.map_append,Ya]at hr;rcases hr with(hr|hr)|hr
    .exact ih r hr
    .split at hr
     .simp at hr;subst hr;exact⟨rfl,by simp[hP]⟩
     .cases hr
    .split at hr
     .cases hr
     .simp at hr;subst hr;exact⟨rfl,rfl⟩
   .have:om (wJ x) (wK x) ([.sc (.int .i64 x),.sc (.int .i64 A),.sc (.int .i64 B),.sc (.string T),P],x) true (g.cZ.map λc=>(eY c,c.id)) (i+1)=om (wJ x) (wK x) ([.sc (.int .i64 x),.sc (.int .i64 A),.sc (.int .i64 B),.sc (.string T),P],x) true (g.cZ.map λc=>(eY c,c.id)) i:=by
     unfold om;rw[Ys (by simp;omega),Ys (by simp;omega)]
    rw[this];exact ih
 have hq:=fU g.cZ;have hg:=mN g.cZ;rw[Yk]at eG;unfold P6 at px;rw[Yk]at px;have eZ:∀{i:Nat} {c:Ed},g.cZ[i]?=some c->om (wJ x) (wK x) ([.sc (.int .i64 x),.sc (.int .i64 A),.sc (.int .i64 B),.sc (.string T),P],x) true (g.cZ.map λc=>(eY c,c.id)) (i+1)=j8 (wJ x) (wK x) ([.sc (.int .i64 x),.sc (.int .i64 A),.sc (.int .i64 B),.sc (.string T),P],x) true (om (wJ x) (wK x) ([.sc (.int .i64 x),.sc (.int .i64 A),.sc (.int .i64 B),.sc (.string T),P],x) true (g.cZ.map λc=>(eY c,c.id)) i) (eY c,c.id):=λhc=>rm _ _ (by rw[Zs,hc];rfl)
 have h0:om (wJ x) (wK x) ([.sc (.int .i64 x),.sc (.int .i64 A),.sc (.int .i64 B),.sc (.string T),P],x) true (g.cZ.map λc=>(eY c,c.id)) 0=([],false):=rfl;generalize om (wJ x) (wK x) ([.sc (.int .i64 x),.sc (.int .i64 A),.sc (.int .i64 B),.sc (.string T),P],x) true (g.cZ.map λc=>(eY c,c.id))=PF at px eG gC eZ h0;have nd:(((v_ ([.sc (.int .i64 x),.sc (.int .i64 A),.sc (.int .i64 B),.sc (.string T),P],x) true (PF g.cZ.length)).map Prod.fst).map Un)=mA (pre++[m]++post):=by
  rw[px];simp only[if_true,List.map_append,List.map_map,Xi,List.map_nil,hm];unfold mA;simp only[List.map_append,Xi,List.map_nil]
  congr 1
 have hx1:dM .i64 (x+1)=x+1:=dh (by omega) (by omega);unfold dn gE;generalize mA g.cZ=cY at hq hg;simp[f92];refine eC (C:=cx) (G:=λr=>∃r0 h',eQ _ (eR _ _ (dL _ r) _)=some (r0,h')/\∃r',dq h' 8 r0=some r'/\Ai r'= .ag [gh g.nodes,.ls 5 (mA (pre++m::post)) false,g.nn,.sc (.int .i64 (max g.ne (x+1)))])
  (λi s=>s.1.length=65/\gt s.1 2= .pt 0 0/\gt s.1 3= .pt 1 0/\gt s.1 4= .pt 2 0/\gt s.1 6= .sc (.bool (PF i).2)/\gt s.1 7= .sc (.int .i64 i)/\s.2[0]?=some (.row [gh g.nodes,.ls 5 cY false,g.nn,g.ne])/\s.2[1]?=some (.row [x,A,B,.sc (.string T),P])/\s.2[2]?=some (.row [(),(),(0:Int),(0:Int)])/\∃y,gt s.1 5=y/\kP s.2 5 ((PF i).1.map Prod.fst) y/\∀k n,y= .sl k 5 0 n false->2<k)
  (λo s=>o= .exit 0/\s.1.length=65/\gt s.1 2= .pt 0 0/\gt s.1 3= .pt 1 0/\gt s.1 4= .pt 2 0/\gt s.1 6= .sc (.bool (PF g.cZ.length).2)/\s.2[0]?=some (.row [gh g.nodes,.ls 5 cY false,g.nn,g.ne])/\s.2[1]?=some (.row [x,A,B,.sc (.string T),P])/\s.2[2]?=some (.row [(),(),(0:Int),(0:Int)])/\∃y,gt s.1 5=y/\kP s.2 5 ((PF g.cZ.length).1.map Prod.fst) y/\∀k n,y= .sl k 5 0 n false->2<k) g.cZ.length (by simp;omega) (by simp[h0,kP]) ?_ ?_
 .rintro i fr h n_ ⟨cU,e2,e3,e4,e6,e7,b0,b1,b2,y,e5,hy,hk⟩;simp only at cU e2 e3 e4 e6 e7 b0 b1 b2 e5 hy;have rz:2<h.length:=(Za.1 b2).1;by_cases hi:i<g.cZ.length
  .obtain⟨c,hc⟩:=eA hi;have hr:cY[i]?=some [.sc (.int .i64 c.id),.sc (.int .i64 c.src),.sc (.int .i64 c.dst),.sc (.string c.type),iE c.props false]:=by rw[hg,hc];rfl
   have du:=gA hr
   have hf:=di (i:=i) (by omega);have dD:=eZ hc;have Ah:=eG i;have dJ:=gC i;generalize PF i=P0 at dD Ah e6 hy dJ;obtain⟨p0,d0⟩:=P0;simp only at e6 hy Ah dJ;have q0:=oG (λv=>hy.np v)
   have add:∀(Iu:List LA) (y1:AV) (h1:Hp) (r:LA),kP h1 5 Iu y1->Iu.length<=200002->(∀r∈Iu,r.length=5)->r.length=5->2<h1.length->h1[0]?=h[0]?->h1[1]?=h[1]?->h1[2]?=h[2]?->(∀k n,y1= .sl k 5 0 n false->2<k)->
    ∃id h2,eE cx (h1++[.row r]) 23 y1 (.sl h1.length 5 0 1 false)=some (.sl id 5 0 (Iu.length+1) false,h2)/\kP h2 5 (Iu++[r]) (.sl id 5 0 (Iu.length+1) false)/\h2[0]?=h[0]?/\h2[1]?=h[1]?/\h2[2]?=h[2]?/\2<h2.length/\2<id:=by
    intro Iu y1 h1 r hb hn yb nC hl1 z0 z1 z2 r_;obtain⟨id,h2,a1,a2,a3,a4⟩:=gm (t:=23) sk rfl h1 r Iu y1 hb nC yb (by omega) (by omega) (by omega);have w0:=a3 0 _ (z0.trans b0) (λk n e=>by have:=r_ k n e;omega);have w1:=a3 1 _ (z1.trans b1) (λk n e=>by have:=r_ k n e;omega);have w2:=a3 2 _ (z2.trans b2) (λk n e=>by have:=r_ k n e;omega);exact⟨id,h2,a1,pf a2,w0.trans b0.symm,w1.trans b1.symm,w2.trans b2.symm,(Za.1 w2).1,by omega⟩
   have pT:(p0.map Prod.fst).length=p0.length:=by simp
   obtain⟨ik,SI,k1,k2,k3,k4,k5,k6,k7⟩:=add _ y h [c.id,c.src,c.dst,.sc (.string c.type),iE c.props false] hy (by omega) (λr hr=>(dJ r hr).1) rfl rz rfl rfl rfl hk;obtain⟨ip,lW,p1,p2,p3,p4,p5,p6,p7⟩:=add _ y h [x,A,B,.sc (.string T),P] hy (by omega) (λr hr=>(dJ r hr).1) rfl rz rfl rfl rfl hk;obtain⟨im,Hg,m1,m2,m3,m4,m5,m6,m7⟩:=add _ _ lW [c.id,c.src,c.dst,.sc (.string c.type),iE c.props false] p2 (by simp;omega) (λr hr=>by
    rcases Ya.1 hr with hr|hr
    .exact(dJ r hr).1
    .simp at hr;rw[hr];rfl) rfl p6 p3 p4 p5 (λk n e=>by simp only[AV.sl.injEq]at e;omega)
   rw[b0]at k3 p3 m3;rw[b1]at k4 p4 m4;rw[b2]at k5 p5 m5;simp only[Zu,Yk,Xf]at k1 k2 p1 p2 m1 m2;have rS:∀q:c.id<x,¬x<=c.id:=λq=>by omega
   have adA:∀q:¬c.id<x,x<=c.id:=λq=>by omega
   cases d0
   .by_cases dY:c.id<x
    .have eW:¬c.id=x:=by omega
     have hg2:=rS dY;simp[cU,e2,e3,e4,e5,e6,e7,q0,dD,b0,b1,hi,hq,du,hf,dY,eW,hg2,k1,k3,k4,k5,j8,wJ,wK];exact⟨k2,k7⟩
    .have hg2:=adA dY;by_cases heq:c.id=x
     .simp[cU,e2,e3,e4,e5,e6,e7,q0,dD,b0,b1,hi,hq,du,hf,heq,p1,p3,p4,p5,j8,wJ,wK];exact⟨p2,p7⟩
     .simp[cU,e2,e3,e4,e5,e6,e7,q0,dD,b0,b1,hi,hq,du,hf,dY,heq,hg2,p1,p3,p4,m1,m3,m4,m5,j8,wJ,wK];exact⟨by simpa[eY]using m2,m7⟩
   .by_cases heq:c.id=x
    .simp[cU,e2,e3,e4,e5,e6,e7,dD,b0,b1,b2,hi,hq,du,hf,heq,j8,wJ,wK];exact⟨hy,hk⟩
    .simp[cU,e2,e3,e4,e5,e6,e7,q0,dD,b0,b1,hi,hq,du,hf,heq,k1,k3,k4,k5,j8,wJ,wK];exact⟨k2,k7⟩
  .have gG:i=g.cZ.length:=by omega
   subst gG;simp[cU,e2,e3,e4,e5,e6,e7,b0,b1,b2,hq];exact⟨hy,hk⟩
 .rintro o fr h hn ⟨rfl,cU,e2,e3,e4,e6,b0,b1,b2,y,e5,hy,hk⟩;simp only at cU e2 e3 e4 e6 b0 b1 b2 e5 hy;have rz:2<h.length:=(Za.1 b2).1;have jt:(if g.ne<x+1 then x+1 else g.ne)=max g.ne (x+1):=by rw[Int.max_def];split<;>split<;>omega
  have Ah:=eG g.cZ.length;have dJ:=gC g.cZ.length;generalize PF g.cZ.length=P0 at Ah e6 hy dJ nd;obtain⟨p0,d0⟩:=P0;simp only at e6 hy Ah dJ;have Uo:∀(mQ:List LA) (h1 h2:Hp) (y1:AV),kP h1 5 mQ y1->(∀k n,y1= .sl k 5 0 n false->2<k)->(∀j,2<j->h2[j]?=h1[j]?)->(∀r∈mQ,r.length=5/\r.all eT=true)->dq h2 7 y1=some (gF 5 mQ):=by
   intro mQ h1 h2 y1 hb r_ hj AG;refine ij (by omega) (λr hr=>(AG r hr).1) (jE λr hr=>(AG r hr).2) ?_;rcases hb with hb|⟨eW,id,rfl,dC⟩
   .exact .inl hb
   .exact .inr ⟨eW,id,rfl,by rw[hj id (r_ id _ rfl)];exact dC⟩
  have Iv:(lU g.nodes).map Ul=lU g.nodes:=xp _;cases d0
  .have Dx:2< (h++[fp.row [x,A,B,.sc (.string T),P]]).length:=by simp;omega
   obtain⟨id,h2,a1,a2,a3,a4⟩:=gm (t:=23) sk rfl h [x,A,B,.sc (.string T),P] _ y hy rfl (λr hr=>(dJ r hr).1) (by omega) (by simp;omega) (by omega);have w0:=a3 0 _ b0 (λk n e=>by have:=hk k n e;omega);have w1:=a3 1 _ b1 (λk n e=>by have:=hk k n e;omega);have w2:=a3 2 _ b2 (λk n e=>by have:=hk k n e;omega);have hl2:2<h2.length:=(Za.1 w2).1;have s0:∀B,(h2.set 0 B)[0]?=some B:=λB=>Zj (by omega)
   have s2:∀B C,((h2.set 0 B).set 2 C)[2]?=some C:=λB C=>Zj (by simp;omega)
   have q0:=oG (λv=>hy.np v)
   have a5:=pf (sz:=5) a2;simp only[Yk]at a1 a5;simp only[v_,Xj,Bool.true_and,if_true,List.map_append,Xi,List.map_nil]at nd;simp[cU,e2,e3,e4,e5,e6,q0,b1,a1,w0,w1,w2,hx1,jt,s0,s2];refine⟨_,_,⟨rfl,rfl⟩,_,xt rfl (Uo (p0.map Prod.fst++[[.sc (.int .i64 x),.sc (.int .i64 A),.sc (.int .i64 B),.sc (.string T),P]]) h2 _ _ a5 (λk n e=>by simp only[AV.sl.injEq]at e;omega) (λj hj=>by simp[show¬0=j by omega,show¬2=j by omega]) ?_),?_⟩
   .intro r hr;rcases Ya.1 hr with hr|hr
    .exact dJ r hr
    .simp at hr;subst hr;exact⟨rfl,by simp[hP]⟩
   .simp only[Ai,LU,uV,List.map_append,Xi,List.map_nil,gh,uh,Iv];rw[nd];simp
  .simp only[v_,Xz,Bool.false_and,Yq,if_false]at nd;rcases hy with⟨LH,rfl⟩|⟨eW,id,rfl,dC⟩
   .have Uq:mA (pre++m::post)=[]:=by rw[show pre++m::post=pre++[m]++post by simp,<-nd,LH];rfl
    simp[mA]at Uq
   .have s0:∀B,(h.set 0 B)[0]?=some B:=λB=>Zj (by omega)
    have s2:∀B C,((h.set 0 B).set 2 C)[2]?=some C:=λB C=>Zj (by simp;omega)
    have og:=hk id _ rfl;simp[cU,e2,e3,e4,e5,e6,b0,b1,b2,hx1,jt,s0,s2];refine⟨_,_,⟨rfl,rfl⟩,_,xt rfl (Uo (p0.map Prod.fst) h _ _ (.inr ⟨eW,id,by simp,dC⟩) (λk n e=>by simp only[AV.sl.injEq]at e;omega) (λj hj=>by simp[show¬0=j by omega,show¬2=j by omega]) dJ),?_⟩;simp only[Ai,LU,uV,gh,uh,Iv];rw[nd];simp
def iq :Gr:=⟨[],[],0,0⟩
def xu (l:List ByteArray)(x:ByteArray):oI l x=l.any (yv x):=by
 induction l with
 |nil=>rfl
 |cons c l ih=>rfl
def rA (g:Gr)(pre post:List Nd)(m:Nd):Gr:={g with nodes:=pre++m::post,nn:=max g.nn (m.id+1)}
structure OnN (g:Gr)(c:Ch)(n:Nd)(pre post:List Nd)(lp lm lq:List ByteArray):Prop where
 nl:g.nodes.length<=100000
 sp:iX (qM c.a) (qp c.a) g.nodes pre [n] post
 id:n.id=c.a
 LR:iX (LG c.name) (yv c.name) n.labels lp lm lq
 ll:n.labels.length<=100000
 pl:n.props.length<=100000
 Z6:0<=c.a/\c.a<=1000000000
def lA (g:Gr)(e:AV):Ai (.tp [.ag (dn g),e])= .tp [.ag (dn g),e]:=by simp[Ai,LU,dn,gh,gE,uh,xp,xq]
def Ur {h:Hp}{y y':AV}{cY:List LA}{u v w:Value}(e:dq h 6 y=some y'):dq h 8 (.tp [.ag [y,.ls 5 cY false,.sc u,.sc v],.sc w])=some (.tp [.ag [y',.ls 5 cY false,.sc u,.sc v],.sc w]):=by
 show(List.mapM (dq h 7) [.ag [y,.ls 5 cY false,.sc u,.sc v],.sc w]).map AV.tp=_;have:dq h 7 (.ag [y,.ls 5 cY false,.sc u,.sc v])=some (.ag [y',.ls 5 cY false,.sc u,.sc v]):=by
  show(List.mapM (dq h 6) [y,.ls 5 cY false,.sc u,.sc v]).map AV.ag=_;rw[Zo,e];rfl
 rw[Zo,this];rfl
def iD (e:AV):Ai (.tp [.ag [(),(),(0:Int),(0:Int)],e])= .tp [.ag (dn iq),e]:=rfl
def xv (g:Gr)(c:Ch)(n:Nd):[AV.ag (dn g),.ag (dp c),.ag (eo n)].all d_=true:=by
 have h1:=rj c;rw[Zn,Zh]at h1;rw[Zn,Zn,h1.1];rfl
def Z7 (N D:Nat)(b:Bool)(g:Gr)(c:Ch)(n:Nd)(pre post:List Nd)(lp lm lq:List ByteArray)(h:Hp)(H:OnN g c n pre post lp lm lq)(hk:c.k=3):
 cW cx (N+3*D+9) b 94 [.ag (dn g),.ag (dp c),.ag (eo n)] h=some (.tp [.ag (dn (if lm.isEmpty then(if 8<=n.labels.length then iq else rA g pre post {n with labels:=lp++[c.name]++lq})else iq)),.sc (.int .i64 (if lm.isEmpty then(if 8<=n.labels.length then 20 else 0)else 7))],h):=by
 refine nA f94 [.cell 6 4 true,.tmp 7] (xv _ _ _) ?_ b h;have aa:=λb h=>mO (N+3*D+6) b n c.name h (Yn H.ll (by omega))
 rw[xu,H.LR.any]at aa;have pY:iX (qM n.id) (qp n.id) g.nodes pre [n] post:=by rw[H.id];exact H.sp
 have Ol:0<=n.id/\n.id<=1000000000:=by rw[H.id];exact H.Z6
 have hq:(gP n.labels).length=n.labels.length:=dG _;cases hm:lm.isEmpty
 .rw[hm]at aa;simp only[eo,iK,iE]at aa;generalize N+3*D+8=M at aa;simp[f94,eo,dn,gh,gE,iK,iE,dp,aa,hk];exact gz ⟨_,rfl,iD _⟩
 .rw[hm]at aa;have qg:lm=[]:=List.isEmpty_iff.1 hm;subst qg;have ae:=λb h=>LQ (N+3*D+7) b n.labels lp lq c.name h H.ll H.LR
  have af:=λb h=>qq (N+3*D+7) b g n.id (.ls 1 (gP (lp++[c.name]++lq)) false) (iE n.props false) {n with labels:=lp++[c.name]++lq} pre [n] post h H.nl rfl rfl rfl pY Ol
  simp only[eo,dn,gh,gE,iK,iE]at aa ae af;generalize N+3*D+8=M at aa ae af;by_cases h8:8<=n.labels.length
  .have HV:(8:Int)<=(n.labels.length:Int):=by omega
   simp[f94,eo,dn,gh,gE,iK,iE,dp,aa,hk,hq,h8,HV];exact gz ⟨_,rfl,iD _⟩
  .have HV:¬(8:Int)<=(n.labels.length:Int):=by omega
   simp only[Zp,Zv,Zw]at ae af;simp[f94,eo,dn,gh,gE,iK,iE,dp,aa,ae,af,hk,hq,h8,HV];exact gz ⟨_,rfl,lA (rA g pre post {n with labels:=lp++c.name::lq}) _⟩
def Z8 (N D:Nat)(b:Bool)(g:Gr)(c:Ch)(n:Nd)(pre post:List Nd)(lp lm lq:List ByteArray)(h:Hp)(H:OnN g c n pre post lp lm lq)(hk:c.k=4):
 cW cx (N+3*D+9) b 94 [.ag (dn g),.ag (dp c),.ag (eo n)] h=some (.tp [.ag (dn (if lm.isEmpty then iq else rA g pre post {n with labels:=lp++lq})),.sc (.int .i64 (if lm.isEmpty then 23 else 0))],h):=by
 refine nA f94 [.cell 6 4 true,.tmp 7] (xv _ _ _) ?_ b h;have aa:=λb h=>mO (N+3*D+6) b n c.name h (Yn H.ll (by omega))
 rw[xu,H.LR.any]at aa;have pY:iX (qM n.id) (qp n.id) g.nodes pre [n] post:=by rw[H.id];exact H.sp
 have Ol:0<=n.id/\n.id<=1000000000:=by rw[H.id];exact H.Z6
 have hq:(gP n.labels).length=n.labels.length:=dG _;cases hm:lm.isEmpty
 .rw[hm]at aa;have ae:=λb h=>Ip (N+3*D+7) b n.labels c.name h H.ll
  rw[H.LR.filter]at ae;have af:=λb h=>qq (N+3*D+7) b g n.id (gF 1 (gP (lp++lq))) (iE n.props false) {n with labels:=lp++lq} pre [n] post h H.nl (by unfold gF;cases gP (lp++lq)<;>rfl) rfl (by show[AV.sc (.int .i64 n.id),uT 1 (gF 1 (gP (lp++lq))),uT 6 (iE n.props false)]=_;rw[mf];rfl) pY Ol
  have YJ:∀(ops:Array Oper) (cal:jH) (d:Tmp) (rest:List Oper) (fr:LA) (h:Hp),tV cx cal ops (some d) rest fr (some (gF 1 (gP (lp++lq)),h))=eh cx cal ops rest (fr.set d (gF 1 (gP (lp++lq))),h):=λops cal d rest fr h=>kW (by intro v;unfold gF;split<;>simp) d rest fr h
  have fq:cls (gF 1 (gP (lp++lq)))=some [gF 1 (gP (lp++lq))]:=by unfold gF;cases gP (lp++lq)<;>rfl
  unfold cls at fq;simp only[eo,dn,gh,gE,iK,iE]at aa ae af;generalize N+3*D+8=M at aa ae af;generalize gF 1 (gP (lp++lq))=y at ae af YJ fq;simp[f94,eo,dn,gh,gE,iK,iE,dp,aa,ae,af,YJ,fq,hk];exact gz ⟨_,rfl,lA (rA g pre post {n with labels:=lp++lq}) _⟩
 .rw[hm]at aa;simp only[eo,iK,iE]at aa;generalize N+3*D+8=M at aa;simp[f94,eo,dn,gh,gE,iK,iE,dp,aa,hk];exact gz ⟨_,rfl,iD _⟩
def Z9 (N D:Nat)(b:Bool)(g:Gr)(c:Ch)(n:Nd)(pre post:List Nd)(lp lm lq:List ByteArray)(h:Hp)(H:OnN g c n pre post lp lm lq)(hk:c.k=5)(hd:fB c.v<=D)(hv:gV c.v):
 cW cx (N+3*D+9) b 94 [.ag (dn g),.ag (dp c),.ag (eo n)] h=some (.tp [.ag (dn (if(iY n.props c.name c.v).length<=16 then rA g pre post {n with props:=iY n.props c.name c.v}else iq)),.sc (.int .i64 (if(iY n.props c.name c.v).length<=16 then 0 else 20))],h):=by
 refine nA f94 [.cell 6 4 true,.tmp 7] (xv _ _ _) ?_ b h;have aa:=λb h=>mO (N+3*D+6) b n c.name h (Yn H.ll (by omega))
 rw[xu,H.LR.any]at aa;have pY:iX (qM n.id) (qp n.id) g.nodes pre [n] post:=by rw[H.id];exact H.sp
 have Ol:0<=n.id/\n.id<=1000000000:=by rw[H.id];exact H.Z6
 have ae:=λb h=>zu N D b n.props c.name c.v h H.pl hd hv
 have af:=λb h=>qq (N+3*D+7) b g n.id (iK n.labels false) (gF 6 (iy (iY n.props c.name c.v))) {n with props:=iY n.props c.name c.v} pre [n] post h H.nl rfl (by unfold gF;cases iy (iY n.props c.name c.v)<;>rfl) (by show[AV.sc (.int .i64 n.id),uT 1 (iK n.labels false),uT 6 (gF 6 (iy (iY n.props c.name c.v)))]=_;rw[mf];rfl) pY Ol
 have YJ:∀(ops:Array Oper) (cal:jH) (d:Tmp) (rest:List Oper) (fr:LA) (h:Hp),tV cx cal ops (some d) rest fr (some (gF 6 (iy (iY n.props c.name c.v)),h))=eh cx cal ops rest (fr.set d (gF 6 (iy (iY n.props c.name c.v))),h):=λops cal d rest fr h=>kW (by intro v;unfold gF;split<;>simp) d rest fr h
 have fq:cls (gF 6 (iy (iY n.props c.name c.v)))=some [gF 6 (iy (iY n.props c.name c.v))]:=by unfold gF;cases iy (iY n.props c.name c.v)<;>rfl
 unfold cls at fq;simp only[eo,dn,gh,gE,iK,iE]at aa ae af;generalize N+3*D+8=M at aa ae af;generalize gF 6 (iy (iY n.props c.name c.v))=y at ae af YJ fq;by_cases oe:(iY n.props c.name c.v).length<=16
 .simp[f94,eo,dn,gh,gE,iK,iE,dp,aa,ae,af,YJ,fq,hk,oe];exact gz ⟨_,rfl,lA (rA g pre post {n with props:=iY n.props c.name c.v}) _⟩
 .simp[f94,eo,dn,gh,gE,iK,iE,dp,aa,ae,YJ,hk,oe];exact gz ⟨_,rfl,iD _⟩
def Z_ (N D:Nat)(b:Bool)(g:Gr)(c:Ch)(n:Nd)(pre post:List Nd)(lp lm lq:List ByteArray)(h:Hp)(H:OnN g c n pre post lp lm lq)(hk:c.k=2)(u:Bool)(hU:∀b h,cW cx (N+3*D+8) b 156 [.ag (dn g),c.a] h=some ((u:AV),h)):
 cW cx (N+3*D+9) b 94 [.ag (dn g),.ag (dp c),.ag (eo n)] h=some (.tp [.ag (dn (if u then iq else{g with nodes:=pre++post})),.sc (.int .i64 (if u then 12 else 0))],h):=by
 refine nA f94 [.cell 6 4 true,.tmp 7] (xv _ _ _) ?_ b h;have aa:=λb h=>mO (N+3*D+6) b n c.name h (Yn H.ll (by omega))
 rw[xu,H.LR.any]at aa;have pY:iX (qM n.id) (qp n.id) g.nodes pre [n] post:=by rw[H.id];exact H.sp
 have Ol:0<=n.id/\n.id<=1000000000:=by rw[H.id];exact H.Z6
 have hq:=fJ g.nodes;have hg:=mM g.nodes;simp only[eo,dn,gh,gE]at aa hU;generalize N+3*D+8=M at aa hU;cases u
 .generalize hP:(λi=>(g.nodes.take i).filter λs=> !qp c.a s)=P;have h0:P 0=[]:=by rw[<-hP];rfl
  have vu:P g.nodes.length=pre++post:=by rw[<-hP];simp only[Yz];exact H.sp.filter
  have eZ:∀{i:Nat} {d:Nd},g.nodes[i]?=some d->P (i+1)=P i++(if qp c.a d then[]else[d]):=λ{i d} hc=>by
   rw[<-hP];simp only[Yx,hc,Yo]
   congr 1
   cases hq:qp c.a d<;>simp[hq]
  have eG:∀i,(P i).length<=g.nodes.length:=λi=>by rw[<-hP];exact Yn (Xo _ _) (by simp;omega)
  have nS:=H.nl;clear hP;have nd:AV.tp [.ag (dn {g with nodes:=pre++post}),(0:Int)]= .tp [.ag [.ls 3 (lU (P g.nodes.length)) false,gE g.cZ,g.nn,g.ne],(0:Int)]:=by rw[vu];rfl
  simp only[Yq,if_false];rw[nd];simp[f94,eo,dn,gh,gE,dp,aa,hk,hU];have yf:∀(i:Nat),∀r∈lU (P i),r.length=3/\r.all eT=true:=λi r hr=>by obtain⟨a,_,rfl⟩:=Yi.1 hr;exact⟨rfl,rfl⟩
  refine eC (C:=cx) (G:=λr=>∃r0 h',eQ _ (eR _ _ (dL _ (eR _ _ (dL _ r) _)) _)=some (r0,h')/\∃r',dq h' 8 r0=some r'/\Ai r'=AV.tp [.ag [.ls 3 (lU (P g.nodes.length)) false,.ls 5 (mA g.cZ) false,g.nn,g.ne],(0:Int)])
   (λi s=>s.1.length=103/\gt s.1 3= .pt 0 0/\gt s.1 4= .pt 1 0/\gt s.1 6= .pt 3 0/\gt s.1 10= .sc (.int .i64 i)/\s.2[0]?=some (.row [.ls 3 (lU g.nodes) false,.ls 5 (mA g.cZ) false,g.nn,g.ne])/\s.2[1]?=some (.row (dp c))/\s.2[3]?=some (.row [(),(),(0:Int),(0:Int)])/\∃y,gt s.1 9=y/\kP s.2 3 (lU (P i)) y/\∀k n,y= .sl k 3 0 n false->3<k)
   (λo s=>o= .exit 1/\s.1.length=103/\gt s.1 3= .pt 0 0/\gt s.1 6= .pt 3 0/\s.2[0]?=some (.row [.ls 3 (lU g.nodes) false,.ls 5 (mA g.cZ) false,g.nn,g.ne])/\s.2[3]?=some (.row [(),(),(0:Int),(0:Int)])/\∃y,gt s.1 9=y/\kP s.2 3 (lU (P g.nodes.length)) y/\∀k n,y= .sl k 3 0 n false->3<k) g.nodes.length (by simp;omega) (by simp[h0,kP,lU,dp,hk]) ?_ ?_
  .rintro i fr h n_ ⟨cU,e3,e4,e6,ya,b0,b1,b3,y,e9,hy,yc⟩;simp only at cU e3 e4 e6 ya b0 b1 b3 e9 hy;have rz:3<h.length:=(Za.1 b3).1;by_cases hi:i<g.nodes.length
   .obtain⟨d,hc⟩:=eA hi;have hr:(lU g.nodes)[i]?=some [.sc (.int .i64 d.id),iK d.labels false,iE d.props false]:=by rw[hg,hc];rfl
    have du:=gA hr
    have hf:=di (i:=i) (by omega);have dD:=eZ hc;have Ah:=eG i;have xm:=yf i;generalize P i=p0 at dD Ah hy xm;have q0:=oG (λv=>hy.np v)
    obtain⟨id,h2,a1,a2,a3,a4⟩:=gm (t:=22) si rfl h [d.id,iK d.labels false,iE d.props false] (lU p0) y hy rfl (λr hr=>(xm r hr).1) (by omega) (by rw[fJ];omega) (by omega);have w0:=a3 0 _ b0 (λk n e=>by have:=yc k n e;omega);have w1:=a3 1 _ b1 (λk n e=>by have:=yc k n e;omega);have w3:=a3 3 _ b3 (λk n e=>by have:=yc k n e;omega);have a5:=pf (sz:=3) a2;rw[fJ]at a1 a5;have e7:lU p0++[[.sc (.int .i64 d.id),iK d.labels false,iE d.props false]]=lU (p0++[d]):=by simp[lU,eo]
    rw[e7]at a5;simp only[dp]at b1 w1|-;by_cases heq:d.id=c.a
    .simp[cU,e3,e4,e6,e9,ya,dD,b0,b1,b3,hi,hq,du,hf,heq,qp];exact⟨hy,yc⟩
    .simp[cU,e3,e4,e6,e9,ya,q0,dD,b0,b1,hi,hq,du,hf,heq,qp,a1,w0,w1,w3];exact⟨a5,by omega⟩
   .have gG:i=g.nodes.length:=by omega
    subst gG;simp[cU,e3,e6,e9,ya,b0,b3,hq];exact⟨hy,yc⟩
  .rintro o fr h hn ⟨rfl,cU,e3,e6,b0,b3,y,e9,hy,yc⟩;simp only at cU e3 e6 b0 b3 e9 hy;have rz:3<h.length:=(Za.1 b3).1;have q0:=oG (λv=>hy.np v)
   have fq:cls y=some [y]:=by rcases hy with⟨_,rfl⟩|⟨_,id,rfl,_⟩<;>rfl
   unfold cls at fq;have s0:∀B,(h.set 0 B)[0]?=some B:=λB=>Zj (by omega)
   have s3:∀B C,((h.set 0 B).set 3 C)[3]?=some C:=λB C=>Zj (by simp;omega)
   have lH:∀h2:Hp,(∀j,3<j->h2[j]?=h[j]?)->dq h2 6 y=some (gF 3 (lU (P g.nodes.length))):=λh2 hj=>by
    refine ij (by omega) (AB _).1 (AB _).2 ?_;rcases hy with hb|⟨eW,id,rfl,dC⟩
    .exact .inl hb
    .exact .inr ⟨eW,id,rfl,by rw[hj id (yc id _ rfl)];exact dC⟩
   simp[cU,e3,e6,e9,q0,b0,b3,fq,s0,s3];refine⟨_,_,⟨rfl,rfl⟩,_,Ur (lH _ λj hj=>by simp[show¬0=j by omega,show¬3=j by omega]),?_⟩;simp only[Ai,LU,uV,uh,xp,xq]
 .simp[f94,eo,dn,gh,gE,dp,aa,hk,hU];exact gz ⟨_,rfl,iD _⟩
def rB (g:Gr)(pre post:List Ed)(m:Ed):Gr:={g with cZ:=pre++m::post,ne:=max g.ne (m.id+1)}
structure OnE (g:Gr)(c:Ch)(n:Ed)(pre post:List Ed):Prop where
 nl:g.cZ.length<=100000
 sp:iX (xf c.a) (wa c.a) g.cZ pre [n] post
 id:n.id=c.a
 pl:n.props.length<=100000
 Z6:0<=c.a/\c.a<=1000000000
def Iw (g:Gr)(c:Ch)(n:Ed):[AV.ag (dn g),.ag (dp c),.ag (eY n)].all d_=true:=by
 have h1:=rj c;rw[Zn,Zh]at h1;rw[Zn,Zn,h1.1];rfl
def Us {h:Hp}{y y':AV}{cY:List LA}{u v w:Value}(e:dq h 6 y=some y'):dq h 8 (.tp [.ag [.ls 3 cY false,y,.sc u,.sc v],.sc w])=some (.tp [.ag [.ls 3 cY false,y',.sc u,.sc v],.sc w]):=by
 show(List.mapM (dq h 7) [.ag [.ls 3 cY false,y,.sc u,.sc v],.sc w]).map AV.tp=_;have:dq h 7 (.ag [.ls 3 cY false,y,.sc u,.sc v])=some (.ag [.ls 3 cY false,y',.sc u,.sc v]):=by
  show(List.mapM (dq h 6) [.ls 3 cY false,y,.sc u,.sc v]).map AV.ag=_;rw[Zo,Zo,e];rfl
 rw[Zo,this];rfl
def Ut (N D:Nat)(b:Bool)(g:Gr)(c:Ch)(n:Ed)(pre post:List Ed)(h:Hp)(H:OnE g c n pre post)(hk:c.k=8)(hd:fB c.v<=D)(hv:gV c.v):
 cW cx (N+3*D+9) b 93 [.ag (dn g),.ag (dp c),.ag (eY n)] h=some (.tp [.ag (dn (if(iY n.props c.name c.v).length<=16 then rB g pre post {n with props:=iY n.props c.name c.v}else iq)),.sc (.int .i64 (if(iY n.props c.name c.v).length<=16 then 0 else 20))],h):=by
 refine nA f93 [.cell 6 4 true,.tmp 7] (Iw _ _ _) ?_ b h;have ae:=λb h=>zu N D b n.props c.name c.v h H.pl hd hv
 have pY:iX (xf n.id) (wa n.id) g.cZ pre [n] post:=by rw[H.id];exact H.sp
 have Ol:0<=n.id/\n.id<=1000000000:=by rw[H.id];exact H.Z6
 have af:=λb h=>zw (N+3*D+7) b g n.id n.src n.dst n.type (gF 6 (iy (iY n.props c.name c.v))) {n with props:=iY n.props c.name c.v} pre [n] post h H.nl (by unfold gF;cases iy (iY n.props c.name c.v)<;>rfl) (by show[AV.sc (.int .i64 n.id),.sc (.int .i64 n.src),.sc (.int .i64 n.dst),.sc (.string n.type),uT 6 (gF 6 (iy (iY n.props c.name c.v)))]=_;rw[mf];rfl) pY Ol
 have YJ:∀(ops:Array Oper) (cal:FuncId->LA->Hp->Option (AV × Hp)) (d:Tmp) (rest:List Oper) (fr:LA) (h:Hp),tV cx cal ops (some d) rest fr (some (gF 6 (iy (iY n.props c.name c.v)),h))=eh cx cal ops rest (fr.set d (gF 6 (iy (iY n.props c.name c.v))),h):=λops cal d rest fr h=>kW (by intro v;unfold gF;split<;>simp) d rest fr h
 have fq:cls (gF 6 (iy (iY n.props c.name c.v)))=some [gF 6 (iy (iY n.props c.name c.v))]:=by unfold gF;cases iy (iY n.props c.name c.v)<;>rfl
 unfold cls at fq;simp only[dn,gh,gE,iE]at ae af;generalize N+3*D+8=M at ae af;generalize gF 6 (iy (iY n.props c.name c.v))=y at ae af YJ fq;by_cases oe:(iY n.props c.name c.v).length<=16
 .simp[f93,eY,dn,gh,gE,iE,dp,ae,af,YJ,fq,hk,oe];exact gz ⟨_,rfl,lA (rB g pre post {n with props:=iY n.props c.name c.v}) _⟩
 .simp[f93,eY,dn,gh,gE,iE,dp,ae,YJ,hk,oe];exact gz ⟨_,rfl,iD _⟩
def Uu (N D:Nat)(b:Bool)(g:Gr)(c:Ch)(n:Ed)(pre post:List Ed)(h:Hp)(H:OnE g c n pre post)(hk:c.k=7):
 cW cx (N+3*D+9) b 93 [.ag (dn g),.ag (dp c),.ag (eY n)] h=some (.tp [.ag (dn ({g with cZ:=pre++post})),.sc (.int .i64 (0))],h):=by
 refine nA f93 [.cell 6 4 true,.tmp 7] (Iw _ _ _) ?_ b h;have hq:=fU g.cZ;have hg:=mN g.cZ;generalize N+3*D+8=M;generalize hP:(λi=>(g.cZ.take i).filter λs=> !wa c.a s)=P;have h0:P 0=[]:=by rw[<-hP];rfl
 have vu:P g.cZ.length=pre++post:=by rw[<-hP];simp only[Yz];exact H.sp.filter
 have eZ:∀{i:Nat} {d:Ed},g.cZ[i]?=some d->P (i+1)=P i++(if wa c.a d then[]else[d]):=λ{i d} hc=>by
  rw[<-hP];simp only[Yx,hc,Yo]
  congr 1
  cases hq:wa c.a d<;>simp[hq]
 have eG:∀i,(P i).length<=g.cZ.length:=λi=>by rw[<-hP];exact Yn (Xo _ _) (by simp;omega)
 have nS:=H.nl;clear hP;have nd:AV.tp [.ag (dn {g with cZ:=pre++post}),(0:Int)]= .tp [.ag [gh g.nodes,.ls 5 (mA (P g.cZ.length)) false,g.nn,g.ne],(0:Int)]:=by rw[vu];rfl
 rw[nd];simp[f93,eY,dn,gh,gE,dp,hk];have yf:∀(i:Nat),∀r∈mA (P i),r.length=5/\r.all eT=true:=λi r hr=>by obtain⟨a,_,rfl⟩:=Yi.1 hr;exact⟨rfl,rfl⟩
 refine eC (C:=cx) (G:=λr=>∃r0 h',eQ _ (eR _ _ (dL _ r) _)=some (r0,h')/\∃r',dq h' 8 r0=some r'/\Ai r'=AV.tp [.ag [.ls 3 (lU g.nodes) false,.ls 5 (mA (P g.cZ.length)) false,g.nn,g.ne],(0:Int)])
  (λi s=>s.1.length=60/\gt s.1 3= .pt 0 0/\gt s.1 4= .pt 1 0/\gt s.1 6= .pt 3 0/\gt s.1 11= .sc (.int .i64 i)/\s.2[0]?=some (.row [.ls 3 (lU g.nodes) false,.ls 5 (mA g.cZ) false,g.nn,g.ne])/\s.2[1]?=some (.row (dp c))/\s.2[3]?=some (.row [(),(),(0:Int),(0:Int)])/\∃y,gt s.1 10=y/\kP s.2 5 (mA (P i)) y/\∀k n,y= .sl k 5 0 n false->3<k)
  (λo s=>o= .exit 0/\s.1.length=60/\gt s.1 3= .pt 0 0/\gt s.1 6= .pt 3 0/\s.2[0]?=some (.row [.ls 3 (lU g.nodes) false,.ls 5 (mA g.cZ) false,g.nn,g.ne])/\s.2[3]?=some (.row [(),(),(0:Int),(0:Int)])/\∃y,gt s.1 10=y/\kP s.2 5 (mA (P g.cZ.length)) y/\∀k n,y= .sl k 5 0 n false->3<k) g.cZ.length (by simp;omega) (by simp[h0,kP,mA,dp,hk]) ?_ ?_
 .rintro i fr h n_ ⟨cU,e3,e4,e6,ya,b0,b1,b3,y,e9,hy,yc⟩;simp only at cU e3 e4 e6 ya b0 b1 b3 e9 hy;have rz:3<h.length:=(Za.1 b3).1;by_cases hi:i<g.cZ.length
  .obtain⟨d,hc⟩:=eA hi;have hr:(mA g.cZ)[i]?=some [.sc (.int .i64 d.id),.sc (.int .i64 d.src),.sc (.int .i64 d.dst),.sc (.string d.type),iE d.props false]:=by rw[hg,hc];rfl
   have du:=gA hr
   have hf:=di (i:=i) (by omega);have dD:=eZ hc;have Ah:=eG i;have xm:=yf i;generalize P i=p0 at dD Ah hy xm;have q0:=oG (λv=>hy.np v)
   obtain⟨id,h2,a1,a2,a3,a4⟩:=gm (t:=23) sk rfl h [d.id,d.src,d.dst,.sc (.string d.type),iE d.props false] (mA p0) y hy rfl (λr hr=>(xm r hr).1) (by omega) (by rw[fU];omega) (by omega);have w0:=a3 0 _ b0 (λk n e=>by have:=yc k n e;omega);have w1:=a3 1 _ b1 (λk n e=>by have:=yc k n e;omega);have w3:=a3 3 _ b3 (λk n e=>by have:=yc k n e;omega);have a5:=pf (sz:=5) a2;rw[fU]at a1 a5;have e7:mA p0++[[.sc (.int .i64 d.id),.sc (.int .i64 d.src),.sc (.int .i64 d.dst),.sc (.string d.type),iE d.props false]]=mA (p0++[d]):=by simp[mA,eY]
   rw[e7]at a5;simp only[dp]at b1 w1|-;by_cases heq:d.id=c.a
   .simp[cU,e3,e4,e6,e9,ya,dD,b0,b1,b3,hi,hq,du,hf,heq,wa];exact⟨hy,yc⟩
   .simp[cU,e3,e4,e6,e9,ya,q0,dD,b0,b1,hi,hq,du,hf,heq,wa,a1,w0,w1,w3];exact⟨a5,by omega⟩
  .have gG:i=g.cZ.length:=by omega
   subst gG;simp[cU,e3,e6,e9,ya,b0,b3,hq];exact⟨hy,yc⟩
 .rintro o fr h hn ⟨rfl,cU,e3,e6,b0,b3,y,e9,hy,yc⟩;simp only at cU e3 e6 b0 b3 e9 hy;have rz:3<h.length:=(Za.1 b3).1;have q0:=oG (λv=>hy.np v)
  have fq:cls y=some [y]:=by rcases hy with⟨_,rfl⟩|⟨_,id,rfl,_⟩<;>rfl
  unfold cls at fq;have s0:∀B,(h.set 0 B)[0]?=some B:=λB=>Zj (by omega)
  have s3:∀B C,((h.set 0 B).set 3 C)[3]?=some C:=λB C=>Zj (by simp;omega)
  have lH:∀h2:Hp,(∀j,3<j->h2[j]?=h[j]?)->dq h2 6 y=some (gF 5 (mA (P g.cZ.length))):=λh2 hj=>by
   refine ij (by omega) (AD _).1 (AD _).2 ?_;rcases hy with hb|⟨eW,id,rfl,dC⟩
   .exact .inl hb
   .exact .inr ⟨eW,id,rfl,by rw[hj id (yc id _ rfl)];exact dC⟩
  simp[cU,e3,e6,e9,q0,b0,b3,fq,s0,s3];refine⟨_,_,⟨rfl,rfl⟩,_,Us (lH _ λj hj=>by simp[show¬0=j by omega,show¬3=j by omega]),?_⟩;simp only[Ai,LU,uV,uh,xp,xq]
end
end Go.Proofs.YtaibpnppeiigdaaGreatDoor
