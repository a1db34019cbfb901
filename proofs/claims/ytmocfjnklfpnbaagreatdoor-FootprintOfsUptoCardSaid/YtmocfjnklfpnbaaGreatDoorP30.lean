/- Part of the proof. -/
import Derived.Test.YtmocfjnklfpnbaaGreatDoorP29
set_option linter.all false
set_option maxHeartbeats 32000000
set_option maxRecDepth 100000
namespace Go.Proofs.YtmocfjnklfpnbaaGreatDoor
open Go Go.Ae Go.Proofs.Tryz
section
attribute [local simp] ew eY
def cO.Du(s:cO)(mode:Int):cO:=if(!decide (s.kd=1)|| !decide (mode=0))=true then s.fail 7 else s
def cO.Dv(s:cO)(k:Int):cO:=if k=2 then s else s.fail 8
def cO.ju(s:cO)(x:Gp):cO:=if dn x.var ⟨#[]⟩=true then s else if db s.now x.var=0 then s.intro x.var (if x.mode=0 then 2 else 4)else(s.Du x.mode).Dv (db s.now x.var)
def cO.edge(s:cO)(x:Gp):cO:=(s.ju x).props x.props
def gQ.ju{s:cO}(h:gQ s)(x:Gp):gQ (s.ju x)/\(s.ju x).old=s.old/\(s.ju x).kd=s.kd:=by
 unfold cO.ju;split
 .exact⟨h,rfl,rfl⟩
 .split
  .exact⟨h.intro _ _,dU _ _ _,Bg _ _ _⟩
  .unfold cO.Du cO.Dv;split<;>split<;>exact⟨⟨h.old,h.now⟩,rfl,rfl⟩
def S6(N:Nat->Prop)(D d n:Nat)(t:Bool)(id:Nat)(yo:AV)(s:cO)(x:Gp)(h:Hp)(hS:ga N id yo s h)(hs:gQ s)(xz:∀k m,yo= .sl k 2 0 m false->N k)(hb:bbG D d x)(hd:bdG D d x)(hn:3*d+30<=n):
 ∃h',cu cx n t 161 [.pt id 0,.ag (dE x)] h=some (.tp [],h')/\ga N id yo (s.edge x) h'/\KN N h h':=by
 obtain⟨M,rfl⟩:∃m,n=m+1:=⟨n-1,by omega⟩;obtain⟨k1,e1⟩:∃k,M=k+1:=⟨M-1,by omega⟩;obtain⟨k2,e2⟩:∃k,M=k+2:=⟨M-2,by omega⟩;rw[rr (n:=M) f161 []];change∃h',dT [] (M nt ([.pt id 0,.ag (dE x)]++List.replicate 65 .un,h))=some (.tp [],h')/\ga N id yo (s.edge x) h'/\KN N h h';have jI:=hS.more (.row (dE x));obtain⟨hV1,hV2,hV3⟩:=hs.ju x;have tail:∀(fr:LA)(h1:Hp)(s1:cO),ga (λj=>N j\/j=h.length) id yo s1 h1->KN (λj=>N j\/j=h.length) (h++[.row (dE x)]) h1->s1.old.length<=10^6->fr.length=67->gt fr 0= .pt id 0->gt fr 3= .pt h.length 0->∃h',dT [] (M (cT 5 nt) (fr,h1))=some (.tp [],h')/\ga N id yo (s1.props x.props) h'/\KN N h h':=by
  intro fr h1 s1 gm hK ho cp g0 g3;obtain⟨h',ae,ig,hK'⟩:=aii (λj=>N j\/j=h.length) D d M id h.length yo s1 x h1 fr gm ho hb.1 hb.2 (by omega) cp g0 g3 (.inr rfl) (hK _ _ (.inr rfl) (by simp));exact⟨h',ae,ig.less (λj hj=> .inl hj) xz,(KN.app N h _).trans ((hK.trans hK').less λj hj=> .inl hj)⟩
 rw[show nt= .seq (cL (cT 0 nt)) (.seq (cL (cT 1 nt)) (.seq (cL (cT 2 nt)) (.seq (cL (cT 3 nt)) (.seq (cL (cT 4 nt)) (cT 5 nt))))) by kernel_rfl];have Xy:¬(λj=>N j\/j=h.length) id:=jI.PO;have ff:=λ(s:cO)e H hS=>lS (λj=>N j\/j=h.length) k1 true id yo s e H hS
 have fi:=λnm k=>ti (λj=>N j\/j=h.length) k2 true id yo s nm k _ jI hs.now
 rw[<-e1]at ff;rw[<-e2]at fi;generalize cT 5 nt=Z at tail|-;have wQ:∀{a b:Hp},dm id a b->KN (λj=>N j\/j=h.length) a b:=λhk=>KN.jg hk Xy
 have zg:=jI;obtain⟨yn,g0,hN,FT,⟨ho,lV⟩,Mb,S0⟩:=zg;have fk:=λb=>og k1 b s.now yn x.var _ Mb hs.now
 rw[<-e1]at fk;have q3:=akO (λv=>Mb.np v)
 clear ho lV Mb S0 FT e1 e2 hn hN;have gb:(h++[.row (dE x)])[h.length]?=some (.row (dE x)):=by simp
 have S3:∀{h1:Hp},KN (λj=>N j\/j=h.length) (h++[.row (dE x)]) h1->h1[h.length]?=some (.row (dE x)):=λhk=>hk _ _ (.inr rfl) gb
 unfold cO.edge cO.ju;generalize db s.now x.var=k at *;have Lu:=cI x.types;have wM:=dP x.props;unfold dE at *;generalize eE x.types=rl,jw x.props=rp,x.mode=mo at *;generalize cY:([.sc (.string x.var),.ls 1 rl false,.sc (.int .i64 x.dir),.sc (.int .i64 mo),.sc (.int .i64 x.mn),.sc (.int .i64 x.mx),.ls 10 rp false]:LA)=row at *;have di:=cY.symm;generalize hH:h++[eV.row row]=H at *;have gb':=dh gb;have Nc:=dh g0;by_cases he:dn x.var ⟨#[]⟩=true
 .rw[cw he];subst di;by_cases cm:mo=0
  .subst cm;simp[cL,cT,cR,nt,f161,hH,g0,gb,q3,fk,he];exact tail _ _ s jI (KN.refl _ _) hs.old (by simp) (by simp) (by simp)
  .simp[cL,cT,cR,nt,f161,hH,g0,gb,q3,fk,he,cm];exact tail _ _ s jI (KN.refl _ _) hs.old (by simp) (by simp) (by simp)
 rw[cv he];simp only[Xs]at he;by_cases k0:k=0
 .rw[cw k0];subst k0;by_cases cm:mo=0
  .obtain⟨h1,ae,gm,f_⟩:=fi x.var 2;rw[cw cm];subst di;subst cm;simp[cL,cT,cR,nt,f161,hH,g0,gb,q3,fk,he,ae];exact tail _ _ _ gm f_ (by rw[dU];exact hs.old) (by simp) (by simp) (by simp)
  .obtain⟨h1,ae,gm,f_⟩:=fi x.var 4;rw[cv cm];subst di;simp[cL,cT,cR,nt,f161,hH,g0,gb,q3,fk,he,ae,cm];exact tail _ _ _ gm f_ (by rw[dU];exact hs.old) (by simp) (by simp) (by simp)
 rw[cv k0];have last:∀(s1:cO)(h1:Hp),ga (λj=>N j\/j=h.length) id yo s1 h1->KN (λj=>N j\/j=h.length) H h1->s1.old=s.old->True:=λ_ _ _ _ _=>trivial
 unfold cO.Du cO.Dv;by_cases cc:(!decide (s.kd=1)|| !decide (mo=0))=true
 .rw[cw cc];obtain⟨h1,ae,gm,f_⟩:=ff s 7 _ jI;obtain⟨h3,ah,zg,Hq⟩:=ff (s.fail 7) 8 _ gm;have E5:=S3 (wQ f_);have abN:=dh E5;simp only[Yx,Xd,decide_eq_false_iff_not]at cc;generalize s.kd=kd at cc g0 Nc;by_cases kk:k=2
  .rw[cw kk];subst kk;subst di;by_cases c1:kd=1
   .have cm:¬mo=0:=cc.resolve_left (λq=>q c1);subst c1;simp[cL,cT,cR,nt,f161,hH,g0,gb,q3,fk,he,ae,cm];exact tail _ _ _ gm (wQ f_) hs.old (by simp) (by simp) (by simp)
   .by_cases cm:mo=0
    .subst cm;simp[cL,cT,cR,nt,f161,hH,g0,gb,q3,fk,he,ae,c1];exact tail _ _ _ gm (wQ f_) hs.old (by simp) (by simp) (by simp)
    .simp[cL,cT,cR,nt,f161,hH,g0,gb,q3,fk,he,ae,c1,cm];exact tail _ _ _ gm (wQ f_) hs.old (by simp) (by simp) (by simp)
  .rw[cv kk];subst di;by_cases c1:kd=1
   .have cm:¬mo=0:=cc.resolve_left (λq=>q c1);subst c1;simp[cL,cT,cR,nt,f161,hH,g0,gb,q3,fk,he,k0,kk,ae,ah,cm];exact tail _ _ _ zg ((wQ f_).trans (wQ Hq)) hs.old (by simp) (by simp) (by simp)
   .by_cases cm:mo=0
    .subst cm;simp[cL,cT,cR,nt,f161,hH,g0,gb,q3,fk,he,k0,kk,ae,ah,c1];exact tail _ _ _ zg ((wQ f_).trans (wQ Hq)) hs.old (by simp) (by simp) (by simp)
    .simp[cL,cT,cR,nt,f161,hH,g0,gb,q3,fk,he,k0,kk,ae,ah,c1,cm];exact tail _ _ _ zg ((wQ f_).trans (wQ Hq)) hs.old (by simp) (by simp) (by simp)
 .rw[cv cc];obtain⟨h1,ae,gm,f_⟩:=ff s 8 _ jI;simp only[Yx,Xd,decide_eq_false_iff_not,not_or,Classical.not_not]at cc;obtain⟨c1,cm⟩:=cc;subst cm;rw[c1]at g0 Nc;subst di;by_cases kk:k=2
  .rw[cw kk];subst kk;simp[cL,cT,cR,nt,f161,hH,g0,gb,q3,fk,he];exact tail _ _ s jI (KN.refl _ _) hs.old (by simp) (by simp) (by simp)
  .rw[cv kk];simp[cL,cT,cR,nt,f161,hH,g0,gb,q3,fk,he,k0,kk,ae];exact tail _ _ _ gm (wQ f_) hs.old (by simp) (by simp) (by simp)
def HQ :∀(l:List Pp)(s:cO),(s.props l).kd=s.kd
 | [],s=>rfl
 |q::l,s=>HQ l (s.fail (jH s.old q.e false))
def p6(s s':cO):Prop:=gQ s'/\s'.old=s.old/\s'.kd=s.kd
def p6.refl{s:cO}(h:gQ s):p6 s s:=⟨h,rfl,rfl⟩
def p6.trans{a b c:cO}(h1:p6 a b)(h2:p6 b c):p6 a c:=⟨h2.1,h2.2.1.trans h1.2.1,h2.2.2.trans h1.2.2⟩
def gQ.props{s:cO}(h:gQ s)(l:List Pp):p6 s (s.props l):=⟨(Bf l h).1,(Bf l h).2,HQ l s⟩
def gQ.node{s:cO}(h:gQ s)(x:Np):p6 s (s.node x):=by
 have h1:p6 s (s.jt x):=h.jt x;exact h1.trans (h1.1.props x.props)
def gQ.edge{s:cO}(h:gQ s)(x:Gp):p6 s (s.edge x):=by
 have h1:p6 s (s.ju x):=h.ju x;exact h1.trans (h1.1.props x.props)
def gQ.aec{s:cO}(h:gQ s)(nm:ByteArray)(k:Int):p6 s (s.intro nm k):=⟨h.intro nm k,dU s nm k,Bg s nm k⟩
def cO.jD :cO->List Np->List Gp->cO
 |s,[],_=>s
 |s,x::ns,[]=>cO.jD (s.node x) ns []
 |s,x::ns,e::es=>cO.jD ((s.node x).edge e) ns es
def cO.xg{s:cO}{ns:List Np}{es:List Gp}{i:Nat}{x:Np}(h:ns[i]?=some x):cO.jD s (ns.drop i) (es.drop i)=cO.jD (match es[i]? with|some e=>(s.node x).edge e|none=>s.node x) (ns.drop (i+1)) (es.drop (i+1)):=by
 rw[cH h];cases he:es[i]? with
 |
  none=>
  have hl:es.length<=i:=List.getElem?_eq_none_iff.1 he;have h1:es.drop i=[]:=Zt hl;have h2:es.drop (i+1)=[]:=Zt (by omega);rw[h1,h2];rfl
 |some e=>rw[cH he];rfl
def gQ.jD :∀(ns:List Np)(es:List Gp){s:cO},gQ s->p6 s (s.jD ns es)
 | [],_,s,h=> .refl h
 |x::ns,[],s,h=>(h.node x).trans (gQ.jD ns [] (h.node x).1)
 |
  x::ns,e::es,s,h=>by
  have h1:=h.node x;have h2:=h1.1.edge e;exact(h1.trans h2).trans (gQ.jD ns es h2.1)
def cO.wu(s:cO):cO:=if s.kd=5 then s.fail 8 else s
def cO.wv(s:cO)(nm:ByteArray):cO:=if db s.now nm=0 then s else s.fail 7
def cO.yi(s:cO)(nm:ByteArray):cO:=if dn nm ⟨#[]⟩=true then s else((s.wu).wv nm).intro nm 3
def cO.path(s:cO)(p:Tp):cO:=(s.jD p.nodes p.cE).yi p.var
def gQ.wu{s:cO}(h:gQ s):p6 s s.wu:=by
 unfold cO.wu;split<;>exact⟨⟨h.old,h.now⟩,rfl,rfl⟩
def gQ.wv{s:cO}(h:gQ s)(nm:ByteArray):p6 s (s.wv nm):=by
 unfold cO.wv;split<;>exact⟨⟨h.old,h.now⟩,rfl,rfl⟩
def gQ.yi{s:cO}(h:gQ s)(nm:ByteArray):p6 s (s.yi nm):=by
 unfold cO.yi;split
 .exact .refl h
 .exact(h.wu.trans (h.wu.1.wv nm)).trans ((h.wu.1.wv nm).1.aec nm 3)
def gQ.path{s:cO}(h:gQ s)(p:Tp):p6 s (s.path p):=(h.jD p.nodes p.cE).trans ((h.jD p.nodes p.cE).1.yi p.var)
noncomputable def lG :Code:=(f98.body).getD .skip
def RW(N:Nat->Prop)(id:Nat)(yo:AV)(T:cO)(h0:Hp)(r:Option (Out × St)):Prop:=∃h',dT [] r=some (.tp [],h')/\ga N id yo T h'/\KN N h0 h'
def aed(N:Nat->Prop)(M id q:Nat)(yo:AV)(s:cO)(nm:ByteArray)(rn re:List LA)(h:Hp)(fr:LA)(hS:ga N id yo s h)(hs:gQ s)(hM:5<=M)(cp:fr.length=55)(g0:gt fr 0= .pt id 0)(g3:gt fr 3= .pt q 0)(wP:N q)(gb:h[q]?=some (.row [nm,.ls 3 rn false,.ls 7 re false])):
 RW N id yo (s.yi nm) h (M (cT 2 lG) (fr,h)):=by
 obtain⟨k1,e1⟩:∃k,M=k+1:=⟨M-1,by omega⟩;obtain⟨k2,e2⟩:∃k,M=k+2:=⟨M-2,by omega⟩;have ff:=λ(s:cO)e H hS=>lS N k1 true id yo s e H hS
 have fi:=λ(s:cO)H(hS:ga N id yo s H)(hs:gQ s)=>ti N k2 true id yo s nm 3 H hS hs.now
 have fk:=λ(s:cO)y H(hB:iV H s.now y)(hs:gQ s)b=>og k1 b s.now y nm H hB hs.now
 rw[<-e1]at ff fk;rw[<-e2]at fi;have hN:=hS.PO;clear e1 e2 hM;have t5:∀(s1:cO)(h1:Hp)(fr:LA),ga N id yo s1 h1->gQ s1->KN N h h1->fr.length=55->gt fr 0= .pt id 0->gt fr 3= .pt q 0->RW N id yo (s1.intro nm 3) h (M (cT 5 lG) (fr,h1)):=by
  intro s1 h1 fr gm q8 hK cp g0 g3;obtain⟨h2,ae,jI,ph⟩:=fi s1 h1 gm q8;have E5:=hK _ _ wP gb;refine⟨h2,?_,jI,hK.trans ph⟩;simp[lG,cT,cR,f98,cp,g0,g3,E5,ae,h_]
 have t4:∀(s1:cO)(h1:Hp)(fr:LA),ga N id yo s1 h1->gQ s1->KN N h h1->fr.length=55->gt fr 0= .pt id 0->gt fr 3= .pt q 0->RW N id yo ((s1.wv nm).intro nm 3) h (M (cT 4 lG) (fr,h1)):=by
  intro s1 h1 fr gm q8 hK cp g0 g3;rw[show cT 4 lG= .seq (cL (cT 4 lG)) (cT 5 lG) by kernel_rfl];generalize cT 5 lG=Z at t5|-;have E5:=hK _ _ wP gb;have abN:=dh E5;obtain⟨h2,ae,jI,ph⟩:=ff s1 7 h1 gm;have hSx:=gm;obtain⟨yn,g1,_,_,_,Mb,_⟩:=hSx;have fk1:=fk s1 yn h1 Mb q8;have q3:=akO (λv=>Mb.np v)
  have g1':=dh g1;unfold cO.wv;generalize db s1.now nm=k at fk1|-;by_cases k0:k=0
  .subst k0;rw[cw rfl];simp[lG,cT,cR,cL,f98,cp,g0,g3,E5,g1,q3,fk1];exact t5 _ _ _ gm q8 hK (by simp[cp]) (by simp[g0]) (by simp[g3])
  .rw[cv k0];simp[lG,cT,cR,cL,f98,cp,g0,g3,E5,g1,q3,fk1,k0,ae];exact t5 _ _ _ jI (q8.fail 7) (hK.trans (KN.jg ph hN)) (by simp[cp]) (by simp[g0]) (by simp[g3])
 have t3:∀(fr:LA),fr.length=55->gt fr 0= .pt id 0->gt fr 3= .pt q 0->RW N id yo ((s.wu.wv nm).intro nm 3) h (M (cT 3 lG) (fr,h)):=by
  intro fr cp g0 g3;rw[show cT 3 lG= .seq (cL (cT 3 lG)) (cT 4 lG) by kernel_rfl];generalize cT 4 lG=Z at t4|-;clear t5;obtain⟨h2,ae,jI,ph⟩:=ff s 8 h hS;obtain⟨yn,g1⟩:=hS.row;unfold cO.wu;by_cases k0:s.kd=5
  .rw[k0]at g1;rw[cw k0];simp[lG,cT,cR,cL,f98,cp,g0,g1,ae];exact t4 _ _ _ jI (hs.fail 8) (KN.jg ph hN) (by simp[cp]) (by simp[g0]) (by simp[g3])
  .rw[cv k0];generalize s.kd=kd at g1 k0;simp[lG,cT,cR,cL,f98,cp,g0,g1,k0];exact t4 _ _ _ hS hs (KN.refl _ _) (by simp[cp]) (by simp[g0]) (by simp[g3])
 rw[show cT 2 lG= .seq (cL (cT 2 lG)) (cT 3 lG) by kernel_rfl];generalize cT 3 lG=Z at t3|-;clear t4 t5;unfold cO.yi;by_cases he:dn nm ⟨#[]⟩=true
 .rw[cw he];refine⟨h,?_,hS,KN.refl _ _⟩;simp[lG,cT,cR,cL,f98,cp,g3,gb,he,h_]
 .rw[cv he];simp only[Xs]at he;simp[lG,cT,cR,cL,f98,cp,g3,gb,he];exact t3 _ (by simp[cp]) (by simp[g0]) (by simp[g3])
def S7(N:Nat->Prop)(D d n:Nat)(t:Bool)(id:Nat)(yo:AV)(s:cO)(p:Tp)(h:Hp)(hS:ga N id yo s h)(hs:gQ s)(xz:∀k m,yo= .sl k 2 0 m false->N k)(hb:bbT D d p)(hd:bdT D d p)(hn:3*d+40<=n):
 ∃h',cu cx n t 98 [.pt id 0,.ag (dW p)] h=some (.tp [],h')/\ga N id yo (s.path p) h'/\KN N h h':=by
 obtain⟨M,rfl⟩:∃m,n=m+1:=⟨n-1,by omega⟩;rw[rr (n:=M) f98 []];change∃h',dT [] (M lG ([.pt id 0,.ag (dW p)]++List.replicate 53 .un,h))=some (.tp [],h')/\ga N id yo (s.path p) h'/\KN N h h';have jI:=hS.more (.row (dW p));have xD:∀k m,yo= .sl k 2 0 m false->N k\/k=h.length:=λk m e=> .inl (xz k m e)
 have fN:=λ(s:cO)(x:Np)(hx:x∈p.nodes)H(hS:ga (λj=>N j\/j=h.length) id yo s H)(hs:gQ s)=>SZ (λj=>N j\/j=h.length) D d M true id yo s x H hS hs xD (hb.1 x hx) (hd.1 x hx) (by omega)
 have fE:=λ(s:cO)(x:Gp)(hx:x∈p.cE)H(hS:ga (λj=>N j\/j=h.length) id yo s H)(hs:gQ s)=>S6 (λj=>N j\/j=h.length) D d M true id yo s x H hS hs xD (hb.2.1 x hx) (hd.2.1 x hx) (by omega)
 have BT:p.nodes.length<=10^9:=hb.2.2.1;have PD:p.cE.length<=10^9:=hb.2.2.2;rw[show lG= .seq (cL (cT 0 lG)) (.seq (cL (cT 1 lG)) (cT 2 lG)) by kernel_rfl];have tail:=λ(s:cO)H fr hS hs=>aed (λj=>N j\/j=h.length) M id h.length yo s p.var (gZ p.nodes) (nD p.cE) H fr hS hs (by omega)
 generalize cT 2 lG=Z at tail|-;have gb:(h++[.row (dW p)])[h.length]?=some (.row (dW p)):=by simp
 have vJ:=fK p.nodes;have MQ:=kV p.nodes;have xc:=fL p.cE;have vK:=kW p.cE;have Ki:∀r:Option (Out × St),RW (λj=>N j\/j=h.length) id yo (s.path p) (h++[.row (dW p)]) r->∃h',dT [] r=some (.tp [],h')/\ga N id yo (s.path p) h'/\KN N h h':=λr ⟨h',a,b,c⟩=>⟨h',a,b.less (λj hj=> .inl hj) xz,(KN.app N h _).trans (c.less λj hj=> .inl hj)⟩
 refine Ki _ ?_;unfold cO.path;unfold dW at *;generalize hT:s.jD p.nodes p.cE=T;generalize p.nodes=ns,p.cE=es at *;generalize gZ ns=rn,nD es=re at *;generalize hH:h++[eV.row [p.var,.ls 3 rn false,.ls 7 re false]]=H at *;simp[lG,cT,cR,cL,f98,hH];generalize cU:M (.loop _) _=XX;refine gk cU
  (λi st cD=>st.length=55/\gt st 0= .pt id 0/\gt st 3= .pt h.length 0/\gt st 4=i/\∃s',ga (λj=>N j\/j=h.length) id yo s' cD/\gQ s'/\KN (λj=>N j\/j=h.length) H cD/\s'.jD (ns.drop i) (es.drop i)=T)
  (λo st cD=>o= .exit 0/\st.length=55/\gt st 0= .pt id 0/\gt st 3= .pt h.length 0/\ga (λj=>N j\/j=h.length) id yo T cD/\gQ T/\KN (λj=>N j\/j=h.length) H cD)
  ns.length (by simp;omega) ⟨by simp,by simp,by simp,by simp,s,jI,hs,KN.refl _ _,hT⟩ ?_ ?_
 .clear cU XX hT jI hS hs tail Ki;rintro i fr hp cP ⟨cp,h0,h3,h4,s',hS,hs,hK,hT⟩;have gq:=hK _ _ (.inr rfl) gb;rcases dY MQ cP with⟨x,hi,hx,hr,cC⟩|rfl
  .have hf:=cz (show i<=10^15 by omega);rw[cO.xg hx]at hT;obtain⟨h1,ae,gm,f_⟩:=fN s' x (Zi hx) hp hS hs;have q8:=(hs.node x).1;have gq1:=f_ _ _ (.inr rfl) gq;have Bk:=Ex x;generalize dD x=xv at hr cC ae Bk;have hx3:xv.take 3=xv:=Yy (Nat.le_of_eq Bk);by_cases hie:i<es.length
   .obtain⟨y,hy,hry,XI⟩:=il vK hie;simp only[hy]at hT;obtain⟨h2,af,jI,ph⟩:=fE (s'.node x) y (Zi hy) h1 gm q8;have hs2:=(q8.edge y).1;have IY:=Ew y;generalize dE y=yv at hry XI af IY;have hy7:yv.take 7=yv:=Yy (Nat.le_of_eq IY);simp[cp,h0,h3,h4,hi,vJ,xc,cC,hie,XI,gq,gq1,ae,af,hf,Bk,IY,hx3,hy7];exact⟨_,jI,hs2,(hK.trans f_).trans ph,hT⟩
   .have gE:es[i]?=none:=List.getElem?_eq_none_iff.2 (Ya hie);simp only[gE]at hT;simp[cp,h0,h3,h4,hi,vJ,xc,cC,hie,gq,gq1,ae,hf,Bk,hx3];exact⟨_,gm,q8,hK.trans f_,hT⟩
  .rw[Yc,cO.jD]at hT;subst hT;simp[cp,h0,h3,h4,gq,vJ];exact⟨hS,hs,hK⟩
 .rintro o cG h' rfl ⟨rfl,cp,h0,h3,ig,yY,hK'⟩;obtain⟨h2,a,b,c⟩:=tail T h' cG ig yY cp h0 h3 (.inr rfl) (hK' _ _ (.inr rfl) gb);simp;exact⟨h2,a,b,hK'.trans c⟩
def cO.E7(s:cO)(k:Int):cO:=if k=0 then s else s.fail 7
def Cu(s:cO)(x:Ip):Int:=if x.e.op=2 then(if db s.old x.e.nm=0 then 4 else db s.old x.e.nm)else 4
def p7(r:cO × gM)(x:Ip):cO × gM:=((r.1.fail (jH r.1.old x.e true)).E7 (db r.2 x.nm),r.2++[(x.nm,Cu r.1 x)])
def cO.gw(s:cO)(l:List Ip):cO:={(l.foldl p7 (s,[])).1 with now:=(l.foldl p7 (s,[])).2}
noncomputable def sK :Code:=(f103.body).getD .skip
def S8(y:AV)(j:Nat):Prop:=∃m,y= .sl j 2 0 m false
def ga.XN{N:Nat->Prop}{id:Nat}{yo y:AV}{s:cO}{h h4:Hp}{lB m:Nat}(hS:ga (λj=>N j\/S8 y j) id yo s h)(PL:∀k m,yo= .sl k 2 0 m false->N k)(xz:∀k m,y= .sl k 2 0 m false->¬N k)(hk:∀(j:Nat)(b:eV),h[j]?=some b->(∀k n,y= .sl k 2 0 n false->j≠k)->h4[j]?=some b)(ej:h.length<=lB)(wY:lB<h4.length)(p8:¬N id):
 ga (λj=>N j\/S8 (.sl lB 2 0 m false) j) id yo s h4:=by
 have du:=hS.lt;obtain⟨yn,h0,hN,hl,⟨ho,lV⟩,hn,rz⟩:=hS;have hKN:KN N h h4:=λj b hj hb=>hk j b hb λk n e q=>xz k n e (q▸hj)
 have hyn:∀k m,yn= .sl k 2 0 m false->k≠id/\¬N k/\¬S8 y k:=λk m e=>⟨(rz k m e).1,λq=>(rz k m e).2 (.inl q),λq=>(rz k m e).2 (.inr q)⟩
 have hold:∀(j:Nat),j<h.length->¬S8 y j->j<h4.length:=λj hj hy=>by
  have:=hk j _ (Zb hj) λk n e q=>hy ⟨n,q▸e⟩
  exact(Za.1 this).1
 refine⟨yn,hk id _ h0 λk n e q=>hN (.inr ⟨n,q▸e⟩),?_,?_,⟨ho.kn hKN PL,λk m e=> .inl (PL k m e)⟩,?_,?_⟩
 .rintro(q|⟨n,q⟩)
  .exact p8 q
  .injection q with q
   omega
 .rintro j (q|⟨n,q⟩)
  .exact hold j (hl j (.inl q)) λ⟨n,e⟩=>xz j n e q
  .injection q with q
   omega
 .rcases hn with(⟨e0,rfl⟩|⟨gE,j,rfl,hj⟩)|hb
  .exact .inl (.inl ⟨e0,rfl⟩)
  .exact .inl (.inr ⟨gE,j,rfl,hk j _ hj λk n e q=>(hyn j _ rfl).2.2 ⟨n,q▸e⟩⟩)
  .exact .inr hb
 .intro k m e;refine⟨(hyn k m e).1,?_⟩;rintro(q|⟨n,q⟩)
  .exact(hyn k m e).2.1 q
  .injection q with q
   subst q;subst e;rcases hn with(⟨_,e⟩|⟨_,j,e,hj⟩)|⟨_,e⟩
   .cases e
   .injection e with e
    subst e;have:=(Za.1 hj).1;omega
   .cases e
def ga.aee{N N':Nat->Prop}{id:Nat}{yo:AV}{s:cO}{h:Hp}(hS:ga N id yo s h)(Xy:∀j,N' j->N j)(hN:∀j,N j->N' j:=by exact λj hj=> .inl hj):ga N' id yo s h:=by
 refine hS.less Xy ?_;obtain⟨yn,h0,_,hl,⟨ho,lV⟩,hn,rz⟩:=hS;exact λk m e=>hN _ (lV k m e)
def S9(x:Ip){r:cO × gM}(h:gQ r.1):p6 r.1 (p7 r x).1:=by
 unfold p7 cO.E7;split<;>exact⟨⟨h.old,h.now⟩,rfl,rfl⟩
def Mg :∀(l:List Ip){r:cO × gM},gQ r.1->p6 r.1 (l.foldl p7 r).1/\(l.foldl p7 r).2.length=r.2.length+l.length
 | [],r,h=>⟨.refl h,rfl⟩
 |
  x::l,r,h=>by
  have h1:=S9 x h;obtain⟨h2,h3⟩:=Mg l (r:=p7 r x) h1.1;refine⟨h1.trans h2,?_⟩;rw[Yi,h3];simp[p7];omega
def gQ.gw{s:cO}(h:gQ s)(l:List Ip)(hl:l.length<=10^6):p6 s (s.gw l):=by
 obtain⟨h1,h2⟩:=Mg l (r:=(s,[])) h;refine⟨⟨h1.1.old,?_⟩,h1.2⟩;show(l.foldl p7 (s,[])).2.length<=10^6;rw[h2];simpa using hl
def dm.len{id:Nat}{a b:Hp}(hk:dm id a b)(ej:id<b.length):a.length<=b.length:=by
 apply Classical.byContradiction;intro du;have hj:b.length<a.length:=by omega
 have:=hk b.length _ (Zb hj) (by omega);rw[Xc (Yq _)]at this;cases this
noncomputable def kB :Code:=cL (cL (cR (cL (cL (cR (cL (cT 1 sK)))))))
def ail(M i id lB om:Nat)(kv KV:Int)(y:AV)(nm:ByteArray)(cq:List LA)(row:LA)(h h4:Hp)(fr:LA)(cp:fr.length=68)(g0:gt fr 0= .pt id 0)(g1:gt fr 1= .ls 10 cq false)(g4:gt fr 4=y)(g5:gt fr 5=i)(g6:gt fr 6=kv)(hKV:KV=if kv=0 then 4 else kv)(hi:i<cq.length)(hr:cq[i]?=some row)(cC:∀k,cq[i]'k=row)(hnm:row[9]?=some (.sc (.string nm)))(aim:∀k,row[9]'k=nm)(xw:∀v,y≠ .pn v)(b1:fg cx (h++[.row [nm,KV]]) 83 y (.sl h.length 2 0 1 false)=some (.sl lB 2 0 om false,h4)):
 ∃cG,M (cT 4 kB) (fr,h)=some (.normal,(cG,h4))/\cG.length=68/\gt cG 0= .pt id 0/\gt cG 1= .ls 10 cq false/\gt cG 4= .sl lB 2 0 om false/\gt cG 5=i:=by
 have q1:=akN xw
 have lj:9<row.length:=(Za.1 hnm).1;rw[show cT 4 kB= .seq (cL (cT 4 kB)) (cT 5 kB) by kernel_rfl];have t5:∀fr,fr.length=68->gt fr 0= .pt id 0->gt fr 1= .ls 10 cq false->gt fr 4=y->gt fr 5= .sc (.int .i64 i)->gt fr 6= .sc (.int .i64 KV)->∃cG,M (cT 5 kB) (fr,h)=some (.normal,(cG,h4))/\cG.length=68/\gt cG 0= .pt id 0/\gt cG 1= .ls 10 cq false/\gt cG 4= .sl lB 2 0 om false/\gt cG 5=i:=by
  intro fr cp g0 g1 g4 g5 g6;simp[kB,sK,cT,cR,cL,f103,cp,g0,g1,g4,g5,g6,hi,cC,lj,aim,q1,b1,cF]
 clear b1 q1;generalize cT 5 kB=Z at t5|-;by_cases c:kv=0
 .subst c;rw[cw rfl]at hKV;subst hKV;simp[kB,sK,cT,cR,cL,f103,cp,g6];exact t5 _ (by simp[cp]) (by simp[g0]) (by simp[g1]) (by simp[g4]) (by simp[g5]) (by simp[cp])
 .rw[cv c]at hKV;subst hKV;simp[kB,sK,cT,cR,cL,f103,cp,g6,c];exact t5 _ (by simp[cp]) (by simp[g0]) (by simp[g1]) (by simp[g4]) (by simp[g5]) (by simp[g6])
def ain(M i id:Nat)(op kk e kd:Int)(y yo ync a1 a2 a3 a4 a5 a7 a8:AV)(nm GR:ByteArray)(cq:List LA)(h:Hp)(fr:LA)(Z:Code)(cp:fr.length=68)(g0:gt fr 0= .pt id 0)(g1:gt fr 1= .ls 10 cq false)(g4:gt fr 4=y)(g5:gt fr 5=i)(hi:i<cq.length)(hr:cq[i]?=some [.sc (.int .i64 op),a1,a2,a3,a4,a5,.sc (.string GR),a7,a8,.sc (.string nm)])(cC:∀k,cq[i]'k=[.sc (.int .i64 op),a1,a2,a3,a4,a5,.sc (.string GR),a7,a8,.sc (.string nm)])(xw:∀v,yo≠ .pn v)(gc:h[id]?=some (.row [yo,ync,kd,e]))(ai:∀b,cu cx M b 100 [yo,GR] h=some ((kk:AV),h)):
 ∃cG,M (.seq (cL (cT 2 kB)) (.seq (cL (cT 3 kB)) Z)) (fr,h)=M Z (cG,h)/\cG.length=68/\gt cG 0= .pt id 0/\gt cG 1= .ls 10 cq false/\gt cG 4=y/\gt cG 5=i/\gt cG 6= .sc (.int .i64 (if op=2 then kk else 4)):=by
 have q3:=akO xw
 have gc':=dh gc;by_cases co:op=2
 .subst co;rw[cw rfl];simp[kB,sK,cT,cR,cL,f103,cp,g0,g1,g5,hi,cC,gc,q3,ai];exact⟨_,rfl,by simp[cp,g0,g1,g4,g5]⟩
 .rw[cv co];simp[kB,sK,cT,cR,cL,f103,cp,g1,g5,hi,cC,co];exact⟨_,rfl,by simp[cp,g0,g1,g4,g5]⟩
def aio(M i id:Nat)(op kO e kd:Int)(y yo yn a1 a2 a3 a4 a5 a7 a8:AV)(nm GR:ByteArray)(cq:List LA)(h h2 hc:Hp)(fr:LA)(Z:Code)(cp:fr.length=68)(g0:gt fr 0= .pt id 0)(g1:gt fr 1= .ls 10 cq false)(g4:gt fr 4=y)(g5:gt fr 5=i)(hi:i<cq.length)(hr:cq[i]?=some [.sc (.int .i64 op),a1,a2,a3,a4,a5,.sc (.string GR),a7,a8,.sc (.string nm)])(cC:∀k,cq[i]'k=[.sc (.int .i64 op),a1,a2,a3,a4,a5,.sc (.string GR),a7,a8,.sc (.string nm)])(xw:∀v,yo≠ .pn v)(hny:∀v,y≠ .pn v)(gr:h[id]?=some (.row [yo,yn,kd,e]))(ae:cu cx M false 99 [.pt id 0,.ag [op,a1,a2,a3,a4,a5,GR,a7,a8],yo,true] h=some (.tp [],h2))(af:∀b,cu cx M b 100 [y,nm] h2=some ((kO:AV),h2))(ah:kO=0/\hc=h2\/kO≠0/\cu cx M true 101 [.pt id 0,(7:Int)] h2=some (.tp [],hc)):
 ∃cG,M (.seq (cL (cT 0 kB)) (.seq (cL (cT 1 kB)) Z)) (fr,h)=M Z (cG,hc)/\cG.length=68/\gt cG 0= .pt id 0/\gt cG 1= .ls 10 cq false/\gt cG 4=y/\gt cG 5=i:=by
 have q3:=akO xw
 have q1:=akN hny
 have Ma:=dh gr;have p0:∃cG,M (.seq (cL (cT 0 kB)) (.seq (cL (cT 1 kB)) Z)) (fr,h)=M (.seq (cL (cT 1 kB)) Z) (cG,h2)/\cG.length=68/\gt cG 0= .pt id 0/\gt cG 1= .ls 10 cq false/\gt cG 4=y/\gt cG 5=i:=by
  generalize Code.seq (cL (cT 1 kB)) Z=ZZ;simp[kB,sK,cT,cR,cL,f103,cp,g0,g1,g5,hi,cC,gr,q3,ae];exact⟨_,rfl,by simp[cp,g0,g1,g4,g5]⟩
 obtain⟨FJ,p1,cp,g0,g1,g4,g5⟩:=p0;rw[p1];clear p1 ae gr Ma q3;rcases ah with⟨rfl,rfl⟩|⟨k0,ah⟩
 .simp[kB,sK,cT,cR,cL,f103,cp,g1,g4,g5,hi,cC,q1,af];exact⟨_,rfl,by simp[cp,g0,g1,g4,g5]⟩
 .simp[kB,sK,cT,cR,cL,f103,cp,g0,g1,g4,g5,hi,cC,q1,af,ah,k0];exact⟨_,rfl,by simp[cp,g0,g1,g4,g5]⟩
def abP(M i id lB om:Nat)(op kO kk KV e kd ec kdc:Int)(y yo yn ync a1 a2 a3 a4 a5 a7 a8:AV)(nm GR:ByteArray)(cq:List LA)(h h2 hc h4:Hp)(fr:LA)(cp:fr.length=68)(g0:gt fr 0= .pt id 0)(g1:gt fr 1= .ls 10 cq false)(g4:gt fr 4=y)(g5:gt fr 5=i)(hi:i<cq.length)(hr:cq[i]?=some [.sc (.int .i64 op),a1,a2,a3,a4,a5,.sc (.string GR),a7,a8,.sc (.string nm)])(xw:∀v,yo≠ .pn v)(hny:∀v,y≠ .pn v)(gr:h[id]?=some (.row [yo,yn,kd,e]))(ae:cu cx M false 99 [.pt id 0,.ag [op,a1,a2,a3,a4,a5,GR,a7,a8],yo,true] h=some (.tp [],h2))(af:∀b,cu cx M b 100 [y,nm] h2=some ((kO:AV),h2))(ah:kO=0/\hc=h2\/kO≠0/\cu cx M true 101 [.pt id 0,(7:Int)] h2=some (.tp [],hc))(gc:hc[id]?=some (.row [yo,ync,kdc,ec]))(ai:∀b,cu cx M b 100 [yo,GR] hc=some ((kk:AV),hc))(hKV:KV=if op=2 then(if kk=0 then 4 else kk)else 4)(b1:fg cx (hc++[.row [nm,KV]]) 83 y (.sl hc.length 2 0 1 false)=some (.sl lB 2 0 om false,h4)):
 ∃cG,M kB (fr,h)=some (.normal,(cG,h4))/\cG.length=68/\gt cG 0= .pt id 0/\gt cG 1= .ls 10 cq false/\gt cG 4= .sl lB 2 0 om false/\gt cG 5=i:=by
 have cC:∀k,cq[i]'k=[.sc (.int .i64 op),a1,a2,a3,a4,a5,.sc (.string GR),a7,a8,.sc (.string nm)]:=λk=>by
  have:=Zb k;rw[hr]at this;exact(Option.some.inj this).symm
 obtain⟨FJ,p1,l1,c0,c1,c4,c5⟩:=aio M i id op kO e kd y yo yn a1 a2 a3 a4 a5 a7 a8 nm GR cq h h2 hc fr (.seq (cL (cT 2 kB)) (.seq (cL (cT 3 kB)) (cT 4 kB))) cp g0 g1 g4 g5 hi hr cC xw hny gr ae af ah;obtain⟨Lm,p2,l2,d0,d1,d4,d5,d6⟩:=ain M i id op kk ec kdc y yo ync a1 a2 a3 a4 a5 a7 a8 nm GR cq hc FJ (cT 4 kB) l1 c0 c1 c4 c5 hi hr cC xw gc ai;obtain⟨fr3,p3,l3,e0,e1,e4,e5⟩:=ail M i id lB om _ KV y nm cq _ hc h4 Lm l2 d0 d1 d4 d5 d6 (by rw[hKV];by_cases co:op=2<;>simp[co]) hi hr cC rfl (λ_=>rfl) hny b1;refine⟨fr3,?_,l3,e0,e1,e4,e5⟩;rw[show kB= .seq (cL (cT 0 kB)) (.seq (cL (cT 1 kB)) (.seq (cL (cT 2 kB)) (.seq (cL (cT 3 kB)) (cT 4 kB)))) by kernel_rfl];exact p1.trans (p2.trans p3)
def HR(N:Nat->Prop)(D d n:Nat)(t:Bool)(id:Nat)(yo:AV)(s:cO)(l:List Ip)(h:Hp)(hS:ga N id yo s h)(hs:gQ s)(xz:∀k m,yo= .sl k 2 0 m false->N k)(hb:∀x∈l,ub D d x.e)(hl:l.length<=10^6)(hn:3*d+20<=n):
 ∃h',cu cx n t 103 [.pt id 0,.ls 10 (xa l) false] h=some (.tp [],h')/\ga N id yo (s.gw l) h'/\KN N h h':=by
 obtain⟨M,rfl⟩:∃m,n=m+1:=⟨n-1,by omega⟩;obtain⟨k1,e1⟩:∃k,M=k+1:=⟨M-1,by omega⟩;rw[rr (n:=M) f103 []];change∃h',dT [] (M sK ([.pt id 0,.ls 10 (xa l) false]++List.replicate 66 .un,h))=some (.tp [],h')/\ga N id yo (s.gw l) h'/\KN N h h';have p8:=hS.PO;have hNl:∀j,N j->j<h.length:=by obtain⟨_,_,_,q,_⟩:=hS;exact q
 have ff:=λ(N:Nat->Prop)(s:cO)e H hS=>lS N k1 true id yo s e H hS
 have fk:=λ(l:gM)y nm H(hB:iV H l y)(hl:l.length<=10^6)b=>og k1 b l y nm H hB hl
 have fc:=λ(N:Nat->Prop)(s':cO)(x:Ip)(hx:x∈l)H(hS:ga N id yo s' H)(ho:s'.old=s.old)b=>mq N D d M b id yo s' x.e s'.old yo true H hS hS.old hS.off (by rw[ho];exact hs.old) (hb x hx).1 (hb x hx).2 (by omega)
 rw[<-e1]at ff fk;clear e1 hn hb;have hq:=iO l;have hg:=qv l;unfold cO.gw;generalize hT:l.foldl p7 (s,[])=T;generalize xa l=cq at hq hg|-;have ZU:=abP;rw[show sK= .seq (cL (cT 0 sK)) (.seq (.seq (cL (cL (cT 1 sK))) (.block 0 (.loop (.seq (cL (cL (cL (cR (cL (cT 1 sK)))))) (.seq (.block 1 kB) (cR (cR (cL (cL (cR (cL (cT 1 sK)))))))))))) (cT 2 sK)) by kernel_rfl];generalize kB=B at ZU|-;simp[sK,cT,cR,cL,f103];generalize cU:M (.loop _) _=XX;refine gk cU
  (λi st cD=>st.length=68/\gt st 0= .pt id 0/\gt st 1= .ls 10 cq false/\gt st 5=i/\∃y r,gt st 4=y/\ga (λj=>N j\/S8 y j) id yo r.1 cD/\p6 s r.1/\iV cD r.2 y/\r.2.length=i/\(∀k m,y= .sl k 2 0 m false->h.length<=k)/\KN N h cD/\h.length<=cD.length/\(l.drop i).foldl p7 r=T)
  (λo st cD=>o= .exit 0/\st.length=68/\gt st 0= .pt id 0/\∃y,gt st 4=y/\ga (λj=>N j\/S8 y j) id yo T.1 cD/\iV cD T.2 y/\(∀k m,y= .sl k 2 0 m false->h.length<=k)/\KN N h cD)
  l.length (by simp;omega) ⟨by simp,by simp,by simp,by simp,.sc (.slice none 0 0),(s,[]),by simp,hS.aee (λj hj=>hj.elim (λq=>q) λ⟨m,e⟩=>by cases e),.refl hs,.inl (.inl ⟨rfl,rfl⟩),rfl,(λk m e=>by cases e),KN.refl _ _,Yq _,by simpa using hT⟩ ?_ ?_
 .clear cU XX hT hS;rintro i fr hp cP ⟨cp,h0,h1,h5,y,r,h4',hS,ho,hB,lj,IY,hK,Cf,hT⟩;obtain⟨s',out⟩:=r;simp only at cp h0 h1 h5 h4' hS ho hB lj IY hK Cf;rcases dY hg cP with⟨x,hi,hx,hr,cC⟩|rfl
  .have hf:=cz (show i<=10^15 by clear hNl;omega);rw[cH hx,Yi]at hT;have xD:∀k m,y= .sl k 2 0 m false->¬N k:=λk m e q=>by have:=IY k m e;have:=hNl k q;clear hf;omega
   have hol:out.length<=10^6:=by clear hf;omega
   have NU:p7 (s',out) x=((s'.fail (jH s'.old x.e true)).E7 (db out x.nm),out++[(x.nm,Cu s' x)]):=rfl;obtain⟨h2,ae,gm,f_⟩:=fc (λj=>N j\/S8 y j) s' x (Zi hx) hp hS ho.2.1 false;have aef:¬(N id\/S8 y id):=hS.PO;have wQ:∀{a b:Hp},dm id a b->KN N a b:=λhk=>KN.jg hk p8
   have S_:A8 id y:=λk m e q=>aef (.inr ⟨m,q▸e⟩)
   have hB1:iV h2 out y:=hB.keep f_ S_;have af:=fk out y x.nm h2 hB1 hol;have PL:=hS.old;obtain⟨yn,gr⟩:=hS.row;have Ma:=dh gr;have q1:=akN (λv=>hB.np v)
   have q3:=akO (λv=>PL.np v)
   obtain⟨hc,ah,hSc,FK⟩:∃hc,(db out x.nm=0/\hc=h2\/db out x.nm≠0/\cu cx M true 101 [.pt id 0,(7:Int)] h2=some (.tp [],hc))/\ga (λj=>N j\/S8 y j) id yo ((s'.fail (jH s'.old x.e true)).E7 (db out x.nm)) hc/\dm id h2 hc:=by
    unfold cO.E7;by_cases kk:db out x.nm=0
    .rw[cw kk];exact⟨h2,.inl ⟨kk,rfl⟩,gm,dm.refl _ _⟩
    .rw[cv kk];obtain⟨h3,ai,a,b⟩:=ff (λj=>N j\/S8 y j) _ 7 h2 gm;exact⟨h3,.inr ⟨kk,ai⟩,a,b⟩
   have hBc:iV hc out y:=hB1.keep FK S_;have HS:KN N h hc:=(hK.trans (wQ f_)).trans (wQ FK);have hoc:((s'.fail (jH s'.old x.e true)).E7 (db out x.nm)).old=s'.old:=by unfold cO.E7;split<;>rfl
   have hco:=hSc.old;rw[hoc]at hco;have ai:=fk s'.old yo x.e.nm hc hco (by rw[ho.2.1];exact hs.old);have hOk:p6 s (p7 (s',out) x).1:=ho.trans (S9 x (r:=(s',out)) ho.1);obtain⟨ync,gc⟩:=hSc.row;have gc':=dh gc;rw[NU]at hT hOk;simp only at hOk;have aaj:Cu s' x=if x.e.op=2 then(if db s'.old x.e.nm=0 then 4 else db s'.old x.e.nm)else 4:=rfl
   obtain⟨lB,h4,b1,b2,b3,b4⟩:=HF hc x.nm (Cu s' x) out y hBc hol;have wY:=(Za.1 b2).1;have hSn:=ga.XN (m:=out.length+1) hSc xz xD b3 b4 wY p8;have hKn:KN N h h4:=HS.trans λj b hj hb=>b3 j b hb λk n e q=>xD k n e (q▸hj)
   have gI:=fl (out++[(x.nm,Cu s' x)]);have hBn:iV h4 (out++[(x.nm,Cu s' x)]) (.sl lB 2 0 (out.length+1) false):= .inl (.inr ⟨λe=>by rw[e]at gI;simp at gI,lB,by rw[gI];simp,b2⟩);have Sc:h.length<=hc.length:=Yj (Yj Cf (f_.len gm.lt)) (FK.len hSc.lt);have hl4:h.length<=h4.length:=Nat.le_of_lt (Nat.lt_of_le_of_lt (Yj Sc b4) wY);have aeg:∀k m,AV.sl lB 2 0 (out.length+1) false= .sl k 2 0 m false->h.length<=k:=λk m e=>by
    injection e with e
    exact e▸Yj Sc b4
   have hiw:∃r:cO × gM,ga (λj=>N j\/S8 (.sl lB 2 0 (out.length+1) false) j) id yo r.1 h4/\p6 s r.1/\iV h4 r.2 (.sl lB 2 0 (out.length+1) false)/\r.2.length=i+1/\(∀k m,AV.sl lB 2 0 (out.length+1) false= .sl k 2 0 m false->h.length<=k)/\KN N h h4/\h.length<=h4.length/\(l.drop (i+1)).foldl p7 r=T:=⟨_,hSn,hOk,hBn,by simp[lj],aeg,hKn,hl4,hT⟩;obtain⟨a1,a2,a3,a4,a5,a7,a8,gC⟩:=EF x.e;unfold jr at hr;rw[gC]at hr ae;simp only[Zv,Zw]at hr;obtain⟨cG,p1,l1,c0,c1,c4,c5⟩:=ZU M i id lB (out.length+1) x.e.op (db out x.nm) (db s'.old x.e.nm) (Cu s' x) _ _ _ _ y yo yn ync a1 a2 a3 a4 a5 a7 a8 x.nm x.e.nm cq hp h2 hc h4 ((((fr.set 7 (.sc (.int .i64 i))).set 8 (.ls 10 cq false)).set 9 (.sc (.int .i64 l.length))).set 10 (.sc (.bool true))) (by simp[cp]) (by simp[h0]) (by simp[h1]) (by simp[h4']) (by simp[h5]) (by rw[hq];exact hi) hr (λv=>PL.np v) (λv=>hB.np v) gr ae af ah gc ai aaj b1;clear hSn hOk hBn aeg hKn hl4 hT gI b1 b2 b3 b4 Sc wY hBc HS hoc hco hSc FK gm f_ hB1 hB hS ho IY hK Cf S_ wQ PL NU fc ff fk ae af ah ai q1 q3 gc gc' gr Ma ZU aaj gC;simp[cp,h1,h5,hi,hq,p1,l1,c0,c1,c4,c5,hf];obtain⟨r,w1,w2,w3,w4,w5,w6,w7,w8⟩:=hiw;exact⟨r.1,w1,w2,r.2,w3,w4,w5 _ _ rfl,w6,w7,w8⟩
  .rw[Yc,Xr]at hT;subst hT;simp[cp,h0,h1,h5,hq];subst h4';exact⟨hS,hB,IY,hK⟩
 .rintro o cG h' rfl ⟨rfl,cp,h0,y,h4,ig,Oj,IY,hK'⟩;have q1:=akN (λv=>Oj.np v)
  have xD:∀k m,y= .sl k 2 0 m false->¬N k:=λk m e q=>by have:=IY k m e;have:=hNl k q;omega
  obtain⟨yn,g0,hN,oE,⟨hoo,aip⟩,Mb,S0⟩:=ig;have Bl:A8 id y:=λk m e q=>hN (.inr ⟨m,q▸e⟩)
  have aeh:A8 id yo:=λk m e q=>p8 (q▸xz k m e)
  have hKs:KN N h' (h'.set id (.row [yo,y,T.1.kd,T.1.e])):=KN.jg (dm.set _ _ _) p8;refine⟨h'.set id (.row [yo,y,T.1.kd,T.1.e]),?_,⟨y,dC g0,p8,λj hj=>by rw[List.length_set];exact oE j (.inl hj),⟨hoo.keep (dm.set _ _ _) aeh,xz⟩,Oj.keep (dm.set _ _ _) Bl,λk m e=>⟨Bl k m e,xD k m e⟩⟩,hK'.trans hKs⟩;clear hKs Mb S0 hoo aip oE;generalize T.1.kd=kd,T.1.e=ee at *;have hsh:y=()\/y= .ls 2 [] true\/∃j m,y= .sl j 2 0 m false:=by
   rcases Oj with(⟨_,rfl⟩|⟨_,j,rfl,_⟩)|⟨_,rfl⟩
   .exact .inl rfl
   .exact .inr (.inr ⟨j,_,rfl⟩)
   .exact .inr (.inl rfl)
  clear Oj q1;rcases hsh with rfl|rfl|⟨j,m,rfl⟩<;>simp[cp,h0,h4,g0,cF,h_]
def gQ.elem{s:cO}(h:gQ s)(nm:ByteArray)(nd:Bool):p6 s (s.elem nm nd):=by
 unfold cO.elem cO.Ds cO.Be;split<;>split<;>exact⟨⟨h.old,h.now⟩,rfl,rfl⟩
def cO.elems(s:cO)(l:List ByteArray):cO:=l.foldl (λs nm=>s.elem nm false) s
def cO.i_(s:cO)(l:List Ep):cO:=l.foldl (λs e=>s.fail (jH s.now e false)) s
def gQ.elems :∀(l:List ByteArray){s:cO},gQ s->p6 s (s.elems l)
 | [],s,h=> .refl h
 |x::l,s,h=>(h.elem x false).trans (gQ.elems l (h.elem x false).1)
def gQ.i_ :∀(l:List Ep){s:cO},gQ s->p6 s (s.i_ l)
 | [],s,h=> .refl h
 |
  x::l,s,h=>by
  have h1:p6 s (s.fail (jH s.now x false)):=⟨h.fail _,rfl,rfl⟩;exact h1.trans (gQ.i_ l h1.1)
noncomputable def iH :Code:=(f51.body).getD .skip
def aiq(N:Nat->Prop)(M id q:Nat)(yo:AV)(s:cO)(l:List ByteArray)(row:LA)(h:Hp)(fr:LA)(hS:ga N id yo s h)(hs:gQ s)(hl:l.length<=10^9)(hM:5<=M)(cp:fr.length=142)(g0:gt fr 0= .pt id 0)(g3:gt fr 3= .pt q 0)(wP:N q)(gb:h[q]?=some (.row row))(cY:row[20]?=some (.ls 1 (eE l) false)):
 RW N id yo (s.elems l) h (M (cT 6 iH) (fr,h)):=by
 obtain⟨k2,e2⟩:∃k,M=k+2:=⟨M-2,by omega⟩;have fe:=λ(s:cO)nm H(hS:ga N id yo s H)(hs:gQ s)=>HM N k2 true id yo s nm false H hS hs.now
 rw[<-e2]at fe;have p8:=hS.PO;clear e2 hM;have hq:=cI l;have hg:=iW l;generalize eE l=cq at hq hg cY;have di:∀k,row[20]'k= .ls 1 cq false:=λk=>by have:=Zb k;rw[cY]at this;exact(Option.some.inj this).symm
 generalize hT:s.elems l=T;simp[iH,cT,cR,f51];generalize cU:M (.loop _) _=XX;refine gk cU
  (λi st cD=>st.length=142/\gt st 0= .pt id 0/\gt st 3= .pt q 0/\gt st 9=i/\∃s',ga N id yo s' cD/\gQ s'/\KN N h cD/\s'.elems (l.drop i)=T)
  (λo st cD=>o= .exit 8/\ga N id yo T cD/\KN N h cD)
  l.length (by simp;omega) ⟨by simp[cp],by simp[g0],by simp[g3],by simp[cp],s,hS,hs,KN.refl _ _,hT⟩ ?_ ?_
 .clear cU XX hT hS hs cp g0 g3;rintro i fr hp cP ⟨cp,h0,h3,h9,s',hS,hs,hK,hT⟩;have gq:=hK _ _ wP gb;rcases dY hg cP with⟨x,hi,hx,hr,cC⟩|rfl
  .have hf:=cz (show i<=10^15 by omega);rw[cH hx]at hT;change(s'.elem x false).elems (l.drop (i+1))=T at hT;obtain⟨h1,ae,gm,f_⟩:=fe s' x hp hS hs;have q8:=(hs.elem x false).1;simp[cp,h0,h3,h9,hi,hq,cC,gq,cY,ae,hf];exact⟨_,gm,q8,hK.trans (KN.jg f_ p8),hT⟩
  .rw[Yc]at hT;subst hT;simp[cp,h3,h9,gq,hq,cY];exact⟨hS,hK⟩
 .rintro o cG h' rfl ⟨rfl,ig,hK'⟩;simp;exact⟨h',rfl,ig,hK'⟩
def ga.now{N:Nat->Prop}{id:Nat}{yo:AV}{s:cO}{h:Hp}(hS:ga N id yo s h):∃yn,h[id]?=some (.row [yo,yn,s.kd,s.e])/\iV h s.now yn/\A8 id yn:=by
 obtain⟨yn,h0,hN,hl,⟨ho,lV⟩,hn,rz⟩:=hS;exact⟨yn,h0,hn,λk m e=>(rz k m e).1⟩
def air(N:Nat->Prop)(D d M id q:Nat)(yo:AV)(s T:cO)(l:List Ep)(cq:List LA)(row:LA)(h0 h:Hp)(fr:LA)(X:Code)(hq:cq.length=l.length)(hg:∀i:Nat,cq[i]?=(l[i]?).map cM)(hS:ga N id yo s h)(hs:gQ s)(xz:∀k m,yo= .sl k 2 0 m false->N k)(vT:KN N h0 h)(hb:∀x∈l,ub D d x)(hl:l.length<=10^9)(hM:3*d+30<=M)(cp:fr.length=142)(g0:gt fr 0= .pt id 0)(g3:gt fr 3= .pt q 0)(wP:N q)(gb:h[q]?=some (.row row))(cY:row[4]?=some (.ls 9 cq false))(hX:∀fr h1,ga N id yo (s.i_ (l.map λx=>x)) h1->p6 s (s.i_ (l.map λx=>x))->KN N h0 h1->fr.length=142->gt fr 0= .pt id 0->gt fr 3= .pt q 0->h1[q]?=some (.row row)->RW N id yo T h0 (M X (fr,h1))):
 RW N id yo T h0 (M (.seq (cL (cT 4 iH)) X) (fr,h)):=by
 have fc:=λ(s':cO)(x:Ep)(hx:x∈l)H yn(hS:ga N id yo s' H)(hs:gQ s')(hB:iV H s'.now yn)(ho:A8 id yn)b=>mq N D d M b id yo s' x s'.now yn false H hS hB ho hs.now (hb x hx).1 (hb x hx).2 (by omega)
 have p8:=hS.PO;have Dw:=gQ.i_ (l.map λx=>x) hs;clear hM;have di:∀k,row[4]'k= .ls 9 cq false:=λk=>by have:=Zb k;rw[cY]at this;exact(Option.some.inj this).symm
 generalize hT:s.i_ (l.map λx=>x)=TT at hX Dw;simp[iH,cT,cR,cL,f51];generalize cU:M (.loop _) _=XX;refine gk cU
  (λi st cD=>st.length=142/\gt st 0= .pt id 0/\gt st 3= .pt q 0/\gt st 6=i/\∃s',ga N id yo s' cD/\gQ s'/\KN N h cD/\s'.i_ ((l.drop i).map λx=>x)=TT)
  (λo st cD=>o= .exit 4/\st.length=142/\gt st 0= .pt id 0/\gt st 3= .pt q 0/\ga N id yo TT cD/\KN N h cD)
  l.length (by simp;omega) ⟨by simp[cp],by simp[g0],by simp[g3],by simp[cp],s,hS,hs,KN.refl _ _,hT⟩ ?_ ?_
 .clear cU XX hT hS hs cp g0 g3 hX;rintro i fr hp cP ⟨cp,h0,h3,h9,s',hS,hs,hK,hT⟩;have gq:=hK _ _ wP gb;have gq':=dh gq;rcases dY hg cP with⟨x,hi,hx,hr,cC⟩|rfl
  .have hf:=cz (show i<=10^15 by omega);rw[cH hx]at hT;change(s'.fail (jH s'.now x false)).i_ ((l.drop (i+1)).map λx=>x)=TT at hT;obtain⟨yn,gr,hB,Bl⟩:=hS.now;obtain⟨h1,ae,gm,f_⟩:=fc s' x (Zi hx) hp yn hS hs hB Bl false;have q8:=hs.fail (jH s'.now x false);have q3:=akO (λv=>hB.np v)
   have Ma:=dh gr;generalize s'.fail (jH s'.now x false)=s2 at hT gm q8;generalize s'.e=e0,s'.kd=kd0 at gr Ma;have dH:=cB x;generalize cM x=ev at hr cC dH ae;have dJ:ev.take 9=ev:=Yy (Nat.le_of_eq dH);simp[cp,h0,h3,h9,hi,hq,cC,gq,cY,gr,q3,ae,hf,dH,dJ];exact⟨_,gm,q8,hK.trans (KN.jg f_ p8),by simpa using hT⟩
  .rw[Yc]at hT;subst hT;simp[cp,h0,h3,h9,gq,hq,cY];exact⟨hS,hK⟩
 .rintro o cG h' rfl ⟨rfl,cp,h0,h3,ig,hK'⟩;simp;exact hX _ _ ig Dw (vT.trans hK') cp h0 h3 (hK' _ _ wP gb)
def aei(N:Nat->Prop)(D d M id q:Nat)(yo:AV)(s T:cO)(l:List BN)(cq:List LA)(row:LA)(h0 h:Hp)(fr:LA)(X:Code)(hq:cq.length=l.length)(hg:∀i:Nat,cq[i]?=(l[i]?).map js)(hS:ga N id yo s h)(hs:gQ s)(xz:∀k m,yo= .sl k 2 0 m false->N k)(vT:KN N h0 h)(hb:∀x∈l,ub D d x.e)(hl:l.length<=10^9)(hM:3*d+30<=M)(cp:fr.length=142)(g0:gt fr 0= .pt id 0)(g3:gt fr 3= .pt q 0)(wP:N q)(gb:h[q]?=some (.row row))(cY:row[16]?=some (.ls 10 cq false))(hX:∀fr h1,ga N id yo (s.i_ (l.map λx=>x.e)) h1->p6 s (s.i_ (l.map λx=>x.e))->KN N h0 h1->fr.length=142->gt fr 0= .pt id 0->gt fr 3= .pt q 0->h1[q]?=some (.row row)->RW N id yo T h0 (M X (fr,h1))):
 RW N id yo T h0 (M (.seq (cR (cL (cR (cL (cT 3 iH))))) X) (fr,h)):=by
 have fc:=λ(s':cO)(x:BN)(hx:x∈l)H yn(hS:ga N id yo s' H)(hs:gQ s')(hB:iV H s'.now yn)(ho:A8 id yn)b=>mq N D d M b id yo s' x.e s'.now yn false H hS hB ho hs.now (hb x hx).1 (hb x hx).2 (by omega)
 have p8:=hS.PO;have Dw:=gQ.i_ (l.map λx=>x.e) hs;clear hM;have di:∀k,row[16]'k= .ls 10 cq false:=λk=>by have:=Zb k;rw[cY]at this;exact(Option.some.inj this).symm
 generalize hT:s.i_ (l.map λx=>x.e)=TT at hX Dw;simp[iH,cT,cR,cL,f51];generalize cU:M (.loop _) _=XX;refine gk cU
  (λi st cD=>st.length=142/\gt st 0= .pt id 0/\gt st 3= .pt q 0/\gt st 5=i/\∃s',ga N id yo s' cD/\gQ s'/\KN N h cD/\s'.i_ ((l.drop i).map λx=>x.e)=TT)
  (λo st cD=>o= .exit 2/\st.length=142/\gt st 0= .pt id 0/\gt st 3= .pt q 0/\ga N id yo TT cD/\KN N h cD)
  l.length (by simp;omega) ⟨by simp[cp],by simp[g0],by simp[g3],by simp[cp],s,hS,hs,KN.refl _ _,hT⟩ ?_ ?_
 .clear cU XX hT hS hs cp g0 g3 hX;rintro i fr hp cP ⟨cp,h0,h3,h9,s',hS,hs,hK,hT⟩;have gq:=hK _ _ wP gb;have gq':=dh gq;rcases dY hg cP with⟨x,hi,hx,hr,cC⟩|rfl
  .have hf:=cz (show i<=10^15 by omega);rw[cH hx]at hT;change(s'.fail (jH s'.now x.e false)).i_ ((l.drop (i+1)).map λx=>x.e)=TT at hT;obtain⟨yn,gr,hB,Bl⟩:=hS.now;obtain⟨h1,ae,gm,f_⟩:=fc s' x (Zi hx) hp yn hS hs hB Bl false;have q8:=hs.fail (jH s'.now x.e false);have q3:=akO (λv=>hB.np v)
   have Ma:=dh gr;generalize s'.fail (jH s'.now x.e false)=s2 at hT gm q8;generalize s'.e=e0,s'.kd=kd0 at gr Ma;unfold js at hr cC;obtain⟨a0,a1,a2,a3,a4,a5,a6,a7,a8,gC⟩:=iK x.e;rw[gC]at hr cC ae;simp only[Zv,Zw]at hr cC;have dH:True:=trivial;have dJ:True:=trivial;simp[cp,h0,h3,h9,hi,hq,cC,gq,cY,gr,q3,ae,hf];exact⟨_,gm,q8,hK.trans (KN.jg f_ p8),by simpa using hT⟩
  .rw[Yc]at hT;subst hT;simp[cp,h0,h3,h9,gq,hq,cY];exact⟨hS,hK⟩
 .rintro o cG h' rfl ⟨rfl,cp,h0,h3,ig,hK'⟩;simp;exact hX _ _ ig Dw (vT.trans hK') cp h0 h3 (hK' _ _ wP gb)
end
end Go.Proofs.YtmocfjnklfpnbaaGreatDoor
