/- Part of the proof. -/
import Derived.Test.YtmfohnojaginjaaGreatDoorP20
set_option linter.all false
set_option maxHeartbeats 32000000
set_option maxRecDepth 100000
namespace Go.Proofs.YtmfohnojaginjaaGreatDoor
open Go Go.Ae Go.Proofs.Tryz
section
attribute [local simp] eD
def FF{h:Hp}{tag:Nat->Tg}{tg:Tg}{sz:Nat}{cg:List LA}{N:AV}(ho:iK h tag tg sz cg N)(hr:∀y∈cg,y.length=sz){i:Nat}{r:LA}(hi:cg[i]?=some r):
 ∃id cs,N= .sl id sz 0 cg.length false/\h[id]?=some (.row cs)/\tag id=tg/\(cs.drop (i*sz)).take sz=r/\i*sz+sz<=cs.length:=by
 have k_:=(Za.1 hi).1;have e:cg=cg.take i++[r]++cg.drop (i+1):=by
  obtain⟨_,hh⟩:=Za.1 hi;rw[<-hh];simp
 have cf:(cg.take i).length=i:=by simp;omega
 rcases ho with⟨rfl,_⟩|⟨id,cs,rfl,h1,h2,h3,h4⟩
 .simp at hi
 .have da:i*sz+sz<=cg.length*sz:=by
   have:=Zx sz (show i+1<=cg.length by omega);rw[Xp,Nat.one_mul]at this;exact this
  have hA:(cg.take i).flatten.length=i*sz:=by rw[cQ (cg.take i) (sz:=sz) λy hy=>hr y (List.mem_of_mem_take hy),cf]
  have vp:r.length=sz:=hr r (Zi hi);refine⟨id,cs,rfl,h1,h4,?_,by omega⟩;have wc:cs.take (cg.length*sz)=(cg.take i).flatten++r++(cg.drop (i+1)).flatten:=by
   rw[h2]
   conv=>lhs;rw[e]
   simp
  have e1:cs.take (i*sz+sz)=(cg.take i).flatten++r:=by
   have:=congrArg (List.take (i*sz+sz)) wc;rw[List.take_take,Nat.min_eq_left da,List.take_left' (by rw[Zu,hA,vp])]at this;exact this
  have e2:=congrArg (List.drop (i*sz)) e1;rw[List.drop_take,Nat.add_sub_cancel_left,List.drop_left' hA]at e2;exact e2
def ZL{l:List Ed}{x:Int}(h:∀(j:Nat)(e:Ed),j<l.length->l[j]?=some e->mv x e=false):l.any (mv x)=false:=by
 rw[List.any_eq_false];intro e he;obtain⟨j,hj⟩:=List.mem_iff_getElem?.1 he;rw[h j e (Za.1 hj).1 hj];simp
def BN(h:Hp)(tag:Nat->Tg)(E:Nat)(g:Gr)(h':Hp):Prop:=∃dJ N' V' sH uP,gp h' dJ E g N' V' sH uP/\Fo h tag h' dJ
def Ik(h:Hp)(tag:Nat->Tg)(h':Hp):Prop:=∃dJ,Fo h tag h' dJ
def Lc(n:Nat)(b:Bool)(E:Nat)(g:Gr)(c:Ch)(N V:AV)(nr er:List LA)(tag:Nat->Tg)(h:Hp)(pre post:List Nd)(m:Nd)(H:gp h tag E g N V nr er)(hs:gZ (p_ c.a) (pB c.a) g.nodes pre [m] post)(hl:g.nodes.length<=2000)(da:g.cj.length<=10^6)(hk:c.k=2):
 if g.cj.any (mv c.a)=true then∃h' dJ,ch cx (n+6) b 139 [.pt E 0,.ag (cB c)] h=some (.pn (.iface 228 (.int .i64 12)),h')/\Fo h tag h' dJ else∃h' dJ N' V' sH uP,ch cx (n+6) b 139 [.pt E 0,.ag (cB c)] h=some (.tp [],h')/\gp h' dJ E {g with nodes:=pre++post} N' V' sH uP/\Fo h tag h' dJ:=by
 have tU:=(Za.1 H.box).1;have aa:=λbb=>iO n bb E g N V nr er _ _ c.a pre [m] post (eh H (cB c)) (by omega) hs
 simp only[Qd,Qa]at aa;have af:=jC (n+4);have zo:=j5 (n+4);have tV:∀y,(h++y)[E]?=some (.row [N,V,g.nn,g.ne]):=λy=>by rw[Zd tU];exact H.box
 have J7:g.nodes.length=pre.length+1+post.length:=by rw[hs.e];simp;omega
 have qJ:=H.na;rw[hs.e]at qJ;obtain⟨tW,r3,hr,oH,zY⟩:=qJ.split;obtain⟨r1,r2,cz,oG,qK⟩:=oH.split;subst cz;obtain⟨r,rfl⟩:∃r,r2=[r]:=Qe.1 qK.1;obtain⟨L,P,rfl,o1,o2⟩:=qK.2 0 m r rfl rfl;have j6:=H.ns;rw[hr]at j6;have hw:=H.na.all (P:=λr=>r.length=3) (λa r q=>q.len);rw[hr]at hw;obtain⟨id,cs,hN,cZ,sI,_,dZ,wT⟩:=iw j6 hw;have hL:=wT 1 L rfl;have hP:=wT 2 P rfl;have cf:(r1++[[.sc (.int .i64 m.id),L,P]]++r3).length=pre.length+1+post.length:=by simp[oG.1,zY.1];omega
 rw[cf]at hN dZ;rw[oG.1]at hL hP;have Ie:pre.length*3+1+1<=cs.length:=by omega
 have qD:pre.length<pre.length+1+post.length:=by omega
 have ng:=(Za.1 cZ).1;have sP:∀y,(h++y)[id]?=some (.row cs):=λy=>by rw[Zd ng];exact cZ
 have kH:=fM.push h tag (.row (cB c)) .none (λ_=>False);have tN:=cf;have ni:=H.ea.1;have hwe:=H.ea.all (P:=λr=>r.length=5) (λa r q=>q.len);have hVr:∀(i:Nat)(e:Ed),g.cj[i]?=some e->∃idV csV P,V= .sl idV 5 0 g.cj.length false/\h[idV]?=some (.row csV)/\(csV.drop (i*5)).take 5=[.sc (.int .i64 e.id),.sc (.int .i64 e.src),.sc (.int .i64 e.dst),.sc (.string e.type),P]/\i*5+5<=csV.length:=λi e he=>by
  obtain⟨r,h1,P,rfl,_⟩:=H.ea.get he;obtain⟨idV,csV,a1,a2,_,a4,a5⟩:=FF H.es hwe h1;rw[ni]at a1;exact⟨idV,csV,P,a1,a2,a4,a5⟩
 have hV:=km H.es;rw[ni]at hV;have e5:cS .i64 ((pre.length:Int)+1)=(pre.length:Int)+1:=cu (by omega) (by omega);have vF:(h++[eK.row (cB c)])[h.length]?=some (.row (cB c)):=by simp
 cases hA:g.cj.any (mv c.a)
 .rw[cm (by simp)];rw[CV (n:=n+5) (λi=>i==5||i==10||i==22) f139 []];obtain⟨V0,hV0⟩:∃V0,V0=V:=⟨V,rfl⟩;rw[<-hV0]at hVr;have ai0:=j6;subst hN
  suffices HH:∃h',dL ([]:List Rv) (eE cx (ch cx (n+5)) (λi=>i==5||i==10||i==22) ((f139.body).getD .skip) ([.pt E 0,.ag (cB c)]++List.replicate (f139.ntmps-2) .un,h))=some (.tp [],h')/\BN h tag E {g with nodes:=pre++post} h' by
   obtain⟨h',a1,dJ,N',V',sH,uP,a2,a3⟩:=HH;exact⟨h',dJ,N',V',sH,uP,a1,a2,a3⟩
  rcases hV with⟨h0,rfl⟩|⟨h0,rfl⟩|⟨idV,rfl⟩
  all_goals
   simp[f139,aa,af,hk,tV,qD];refine lY (C:=cx) (G:=λr=>∃h',dL _ (du _ (qM _ _ _ (du _ r) _))=some (_,h')/\BN _ _ _ _ h')
    (λi s=>i<=g.cj.length/\s.1.length=183/\gt s.1 0= .pt E 0/\gt s.1 3= .pt h.length 0/\gt s.1 4=pre.length/\gt s.1 91=V0/\gt s.1 92=g.cj.length/\gt s.1 93=i/\∃tt,fM h tag s.2 tt (λ_=>False)/\s.2[h.length]?=some (.row (cB c)))
    (λo s=>o= .exit 1/\s.1.length=183/\gt s.1 0= .pt E 0/\gt s.1 3= .pt h.length 0/\gt s.1 4=pre.length/\∃tt,fM h tag s.2 tt (λ_=>False)/\s.2[h.length]?=some (.row (cB c))) g.cj.length (by simp;omega) ?_ ?_ ?_
   .refine⟨by omega,rfl,rfl,rfl,rfl,hV0.symm,?_,rfl,_,kH,vF⟩
    first|rfl|(rw[h0];rfl)
   .rintro i fr hp jw ⟨pS,cf,g0,g3,g4,ZM,g92,g93,tt,hF,hc⟩;simp only at cf g0 g3 g4 ZM g92 g93 hF hc;by_cases hi:i<g.cj.length
    .obtain⟨e,he⟩:=eA hi;obtain⟨idW,csV,P',hVe,v1,v2,v3⟩:=hVr i e he;rw[hVe]at ZM;have v1':=(hF idW _ v1 (λq=>q)).1;have x7:mv c.a e=false:=by
      have:=List.any_eq_false.1 hA e (Zi he);simpa using this
     unfold mv at x7;rw[Bool.or_eq_false_iff,decide_eq_false_iff_not,decide_eq_false_iff_not]at x7;obtain⟨t1,t2⟩:=x7;have hf:=cG (i:=i) (by omega);have hhl:=(Za.1 hc).1;have kK:∀y,(hp++y)[h.length]?=some (.row (cB c)):=λy=>by rw[Zd hhl];exact hc
     simp[cf,g0,g3,g4,ZM,g92,g93,hi,v1',v2,v3,kK,af,t1,t2,hf,cn];exact⟨hi,hVe.symm,_,hF.trans (fM.push _ _ _ .none _) (λ_ q=>q) (λ_ q=>q)⟩
    .simp[cf,g0,g3,g4,g92,g93,hi];exact⟨⟨tt,hF⟩,hc⟩
   .rintro o fr hp hn ⟨rfl,cf,g0,g3,g4,tt,hF,hc⟩;simp only at cf g0 g3 g4 hF hc;have kE:=hF E _ H.box (λq=>q);have ai1:=ai0.fl hF (λq=>q);obtain⟨x',h3,d1,d2,d3⟩:=Ay TY ai1 hw (by rw[tN];omega) (n+4) true;rw[oG.1]at d1;have q2:=λ(cal:FuncId->LA->Hp->Option (AV × Hp))(ops:Array Oper)(d:Tmp)(rest:List Oper)(fr:LA)(h:Hp)=>yq (C:=cx) (cal:=cal) (ops:=ops) (λv=>d2.np v) d rest fr h
    have cX:=d2.cls;unfold cls at cX;have Pl:=d3 E _ kE.1 (by rw[kE.2,H.tb];simp);have kEl:=(Za.1 Pl.1).1;have Ld:=λy=>fM.set h3 tt E (.row y) (S:=λt=>t= .box) (kE.2.trans H.tb)
    simp[cf,g0,g4,kE.1,e5,d1,q2,Pl.1,cX,cn];refine⟨tt,x',_,r1++r3,er,{
     box:=Zj kEl
     tb:=kE.2.trans H.tb
     ns:=d2.fl (Ld _) (by simp)
     es:=((H.es.fl hF (λq=>q)).fl d3 (by simp)).fl (Ld _) (by simp)
     na:=((oG.imp λa ha r q=>((q.fl hF (λq=>q) (λq=>q)).fl d3 (by simp) (by simp)).fl (Ld _) (by simp) (by simp)).app (zY.imp λa ha r q=>((q.fl hF (λq=>q) (λq=>q)).fl d3 (by simp) (by simp)).fl (Ld _) (by simp) (by simp)))
     ea:=H.ea.imp λa _ r q=>((q.fl hF (λq=>q)).fl d3 (by simp)).fl (Ld _) (by simp)},?_⟩
    exact(hF.trans d3 (S2:=λt=>t≠ .none) (λ_ q=>q.elim) (λ_ q=>by rw[q];simp)).trans (Ld _) (λ_ q=>q) (λ_ q=>by rw[q];simp)
 .rw[cq rfl];rw[CV (n:=n+5) (λi=>i==5||i==10||i==22) f139 []];obtain⟨V0,hV0⟩:∃V0,V0=V:=⟨V,rfl⟩;rw[<-hV0]at hVr;subst hN
  suffices HH:∃h',dL ([]:List Rv) (eE cx (ch cx (n+5)) (λi=>i==5||i==10||i==22) ((f139.body).getD .skip) ([.pt E 0,.ag (cB c)]++List.replicate (f139.ntmps-2) .un,h))=some (.pn (.iface 228 (.int .i64 12)),h')/\Ik h tag h' by
   obtain⟨h',a1,dJ,a2⟩:=HH;exact⟨h',dJ,a1,a2⟩
  rcases hV with⟨h0,rfl⟩|⟨h0,rfl⟩|⟨idV,rfl⟩
  all_goals
   simp[f139,aa,af,hk,tV,qD];refine lY (C:=cx) (G:=λr=>∃h',dL _ (du _ (qM _ _ _ (du _ r) _))=some (_,h')/\Ik _ _ h')
    (λi s=>(∀(j:Nat)(e:Ed),j<i->g.cj[j]?=some e->mv c.a e=false)/\i<=g.cj.length/\s.1.length=183/\gt s.1 0= .pt E 0/\gt s.1 3= .pt h.length 0/\gt s.1 4=pre.length/\gt s.1 91=V0/\gt s.1 92=g.cj.length/\gt s.1 93=i/\∃tt,fM h tag s.2 tt (λ_=>False)/\s.2[h.length]?=some (.row (cB c)))
    (λo s=>o= .th (.iface 228 (.int .i64 12))/\∃tt,fM h tag s.2 tt (λ_=>False)) g.cj.length (by simp;omega) ?_ ?_ ?_
   .refine⟨λj e hj=>absurd hj (Nat.not_lt_zero j),by omega,rfl,rfl,rfl,rfl,hV0.symm,?_,rfl,_,kH,vF⟩
    first|rfl|(rw[h0];rfl)
   .rintro i fr hp jw ⟨abR,pS,cf,g0,g3,g4,ZM,g92,g93,tt,hF,hc⟩;simp only at cf g0 g3 g4 ZM g92 g93 hF hc;by_cases hi:i<g.cj.length
    .obtain⟨e,he⟩:=eA hi;obtain⟨idW,csV,P',hVe,v1,v2,v3⟩:=hVr i e he;rw[hVe]at ZM;have v1':=(hF idW _ v1 (λq=>q)).1;have hf:=cG (i:=i) (by omega);have hhl:=(Za.1 hc).1;have kK:∀y,(hp++y)[h.length]?=some (.row (cB c)):=λy=>by rw[Zd hhl];exact hc
     have x_:=λr=>hF.trans (fM.push hp tt (.row r) .none (λ_=>False)) (S2:=λ_=>False) (λ_ q=>q) (λ_ q=>q)
     by_cases t1:e.src=c.a
     .simp[cf,g3,ZM,g92,g93,hi,v1',v2,v3,kK,zo,t1,cn];exact⟨_,x_ _⟩
     .by_cases t2:e.dst=c.a
      .simp[cf,g3,ZM,g92,g93,hi,v1',v2,v3,kK,zo,t1,t2,cn];exact⟨_,x_ _⟩
      .have adp:∀(j:Nat)(e:Ed),j<i+1->g.cj[j]?=some e->mv c.a e=false:=λj e' hj M0=>by
        rcases Nat.lt_or_ge j i with q|q
        .exact abR j e' q M0
        .have:j=i:=Nat.le_antisymm (Nat.le_of_lt_succ hj) q;subst this;rw[he]at M0;cases M0;unfold mv;rw[decide_eq_false t1,decide_eq_false t2];rfl
       simp[cf,g0,g3,g4,ZM,g92,g93,hi,v1',v2,v3,kK,af,t1,t2,hf,cn];exact⟨adp,hi,hVe.symm,_,x_ _⟩
    .exfalso;have:g.cj.any (mv c.a)=false:=ZL λj e hj he=>abR j e (Yo hj (Ya hi)) he
     rw[hA]at this;cases this
   .rintro o fr hp hn ⟨rfl,tt,hF⟩;simp only at hF;simp;exact⟨tt,λi b q1 q2=>hF i b q1 (λq=>q)⟩
def Il(n:Nat)(b:Bool)(E:Nat)(g:Gr)(c:Ch)(N V:AV)(nr er:List LA)(tag:Nat->Tg)(h:Hp)(pre post:List Ed)(m:Ed)(H:gp h tag E g N V nr er)(hs:gZ (xj c.a) (wk c.a) g.cj pre [m] post)(hl:g.cj.length<=4000)(hln:g.nodes.length<=2000)(hk:c.k=6):
 ∃h' dJ,ch cx (n+6) b 140 [.pt E 0,.ag (cB c)] h=some (.pn (.iface 228 (.int .i64 7)),h')/\Fo h tag h' dJ:=by
 have tU:=(Za.1 H.box).1;have aa:=λbb=>rR n bb E g N V nr er _ _ c.a pre [m] post (eh H (cB c)) (by omega) hs
 simp only[Qd,Qa]at aa;have zo:=j5 (n+4);have tV:∀y,(h++y)[E]?=some (.row [N,V,g.nn,g.ne]):=λy=>by rw[Zd tU];exact H.box
 rw[CV (n:=n+5) (λi=>i==4||i==11) f140 []];refine⟨_,_,?_,fM.push h tag (.row (cB c)) .none _⟩;simp[f140,aa,zo,hk]
def Im(n:Nat)(b:Bool)(E:Nat)(g:Gr)(c:Ch)(N V:AV)(nr er:List LA)(tag:Nat->Tg)(h:Hp)(pre post:List Ed)(H:gp h tag E g N V nr er)(hs:gZ (xj c.a) (wk c.a) g.cj pre [] post)(hl:g.cj.length<=4000)(hln:g.nodes.length<=2000)(hk:¬c.k=6):
 ∃h' dJ,ch cx (n+6) b 140 [.pt E 0,.ag (cB c)] h=some (.pn (.iface 228 (.int .i64 11)),h')/\Fo h tag h' dJ:=by
 have tU:=(Za.1 H.box).1;have aa:=λbb=>rR n bb E g N V nr er _ _ c.a pre [] post (eh H (cB c)) (by omega) hs
 simp only[Qc,Xv]at aa;have zo:=j5 (n+4);have tV:∀y,(h++y)[E]?=some (.row [N,V,g.nn,g.ne]):=λy=>by rw[Zd tU];exact H.box
 rw[CV (n:=n+5) (λi=>i==4||i==11) f140 []];refine⟨_,_,?_,fM.push h tag (.row (cB c)) .none _⟩;by_cases k7:c.k=7
 .simp[f140,aa,zo,k7]
 .simp[f140,aa,zo,hk,k7]
def Io(n:Nat)(b:Bool)(E:Nat)(g:Gr)(c:Ch)(N V:AV)(nr er:List LA)(tag:Nat->Tg)(h:Hp)(pre post:List Ed)(pb mb qb pc mc qc:List Nd)(Sa:gZ (p_ c.b) (pB c.b) g.nodes pb mb qb)(Le:gZ (p_ c.c) (pB c.c) g.nodes pc mc qc)(H:gp h tag E g N V nr er)(hs:gZ (xj c.a) (wk c.a) g.cj pre [] post)(hl:g.cj.length<=4000)(hln:g.nodes.length<=2000)(hk:c.k=6)(hm:((!mb.isEmpty) && (!mc.isEmpty))=false):
 ∃h' dJ,ch cx (n+6) b 140 [.pt E 0,.ag (cB c)] h=some (.pn (.iface 228 (.int .i64 10)),h')/\Fo h tag h' dJ:=by
 have tU:=(Za.1 H.box).1;have aa:=λbb=>rR n bb E g N V nr er _ _ c.a pre [] post (eh H (cB c)) (by omega) hs
 simp only[Qc,Xv]at aa;have af:=jC (n+4);have zo:=j5 (n+4);have tV:∀y,(h++y)[E]?=some (.row [N,V,g.nn,g.ne]):=λy=>by rw[Zd tU];exact H.box
 have ai:=λbb=>iO n bb E g N V nr er _ _ c.b pb mb qb (eh H (cB c)) (by omega) Sa
 have aj:=λbb=>iO n bb E g N V nr er _ _ c.c pc mc qc (eh H (cB c)) (by omega) Le
 rw[CV (n:=n+5) (λi=>i==4||i==11) f140 []];refine⟨_,_,?_,fM.push h tag (.row (cB c)) .none _⟩;generalize(!mb.isEmpty)=B,(!mc.isEmpty)=B' at *;cases B
 .simp[f140,aa,af,zo,ai,aj,hk]
 .have:B'=false:=by simpa using hm
  subst this;simp[f140,aa,af,zo,ai,aj,hk]
def Ip(n:Nat)(b:Bool)(E:Nat)(g:Gr)(c:Ch)(N V:AV)(nr er:List LA)(tag:Nat->Tg)(h:Hp)(pre post:List Ed)(pb mb qb pc mc qc:List Nd)(Sa:gZ (p_ c.b) (pB c.b) g.nodes pb mb qb)(Le:gZ (p_ c.c) (pB c.c) g.nodes pc mc qc)(H:gp h tag E g N V nr er)(hs:gZ (xj c.a) (wk c.a) g.cj pre [] post)(hl:g.cj.length<=4000)(hln:g.nodes.length<=2000)(hk:c.k=6)(hm:((!mb.isEmpty) && (!mc.isEmpty))=true)(hf:4000<=g.cj.length):
 ∃h' dJ,ch cx (n+6) b 140 [.pt E 0,.ag (cB c)] h=some (.pn (.iface 228 (.int .i64 20)),h')/\Fo h tag h' dJ:=by
 have tU:=(Za.1 H.box).1;have aa:=λbb=>rR n bb E g N V nr er _ _ c.a pre [] post (eh H (cB c)) (by omega) hs
 simp only[Qc,Xv]at aa;have af:=jC (n+4);have zo:=j5 (n+4);have tV:∀y,(h++y)[E]?=some (.row [N,V,g.nn,g.ne]):=λy=>by rw[Zd tU];exact H.box
 have vF:(h++[eK.row (cB c)])[h.length]?=some (.row (cB c)):=by simp
 have kH:=fM.push h tag (.row (cB c)) .none (λ_=>False);have ai:=λbb=>iO n bb E g N V nr er _ _ c.b pb mb qb (eh H (cB c)) (by omega) Sa
 have aj:=λbb=>iO n bb E g N V nr er _ _ c.c pc mc qc (eh H (cB c)) (by omega) Le
 rw[CV (n:=n+5) (λi=>i==4||i==11) f140 []];refine⟨_,_,?_,fM.push h tag (.row (cB c)) .none _⟩;rw[Zh]at hm;rw[hm.1]at ai;rw[hm.2]at aj;have hV:=km H.es;rw[H.ea.1]at hV;have c8:¬(g.cj.length:Int)<4000:=by omega
 rcases hV with⟨h0,rfl⟩|⟨h0,rfl⟩|⟨id,rfl⟩
 .omega
 .omega
 .simp[f140,aa,af,zo,ai,aj,hk,tV,c8]
def Iq(n:Nat)(b:Bool)(E:Nat)(g:Gr)(c:Ch)(N V:AV)(nr er:List LA)(tag:Nat->Tg)(h:Hp)(pre post:List Ed)(pb mb qb pc mc qc:List Nd)(Sa:gZ (p_ c.b) (pB c.b) g.nodes pb mb qb)(Le:gZ (p_ c.c) (pB c.c) g.nodes pc mc qc)(H:gp h tag E g N V nr er)(hs:gZ (xj c.a) (wk c.a) g.cj pre [] post)(hl:g.cj.length<=4000)(hln:g.nodes.length<=2000)(hk:c.k=6)(hm:((!mb.isEmpty) && (!mc.isEmpty))=true)(cZ:1<=c.a/\c.a<=1000000)(hf:g.cj.length<4000):
 ∃h' dJ N' V' sH uP,ch cx (n+6) b 140 [.pt E 0,.ag (cB c)] h=some (.tp [],h')/\gp h' dJ E (qH g pre post ⟨c.a,c.b,c.c,c.name,[]⟩) N' V' sH uP/\Fo h tag h' dJ:=by
 have tU:=(Za.1 H.box).1;have aa:=λbb=>rR n bb E g N V nr er _ _ c.a pre [] post (eh H (cB c)) (by omega) hs
 simp only[Qc,Xv]at aa;have af:=jC (n+4);have zo:=j5 (n+4);have tV:∀y,(h++y)[E]?=some (.row [N,V,g.nn,g.ne]):=λy=>by rw[Zd tU];exact H.box
 have vF:(h++[eK.row (cB c)])[h.length]?=some (.row (cB c)):=by simp
 have kH:=fM.push h tag (.row (cB c)) .none (λ_=>False);have ai:=λbb=>iO n bb E g N V nr er _ _ c.b pb mb qb (eh H (cB c)) (by omega) Sa
 have aj:=λbb=>iO n bb E g N V nr er _ _ c.c pc mc qc (eh H (cB c)) (by omega) Le
 rw[Zh]at hm;rw[hm.1]at ai;rw[hm.2]at aj;have GJ:fM h tag (h++[.row (cB c)]++[.row [c.a,c.b,c.c,c.name,()]]) (eO (eO tag h.length .none) (h.length+1) .none) (λ_=>False):=by
  have b:=fM.push (h++[.row (cB c)]) (eO tag h.length .none) (.row [c.a,c.b,c.c,c.name,()]) .none (λ_=>False);rw[Zu]at b;exact kH.trans b (λ_ q=>q) (λ_ q=>q)
 have H2:gp (h++[.row (cB c)]++[.row [c.a,c.b,c.c,c.name,()]]) (eO (eO tag h.length .none) (h.length+1) .none) E g N V nr er:=H.fl (λid b h1 _=>GJ id b h1 (λq=>q));have BM:(h++[.row (cB c)]++[.row [c.a,c.b,c.c,c.name,()]])[h.length]?=some (.row (cB c)):=by simp
 have vB:(h++[.row (cB c)]++[.row [c.a,c.b,c.c,c.name,()]])[h.length+1]?=some (.row [c.a,c.b,c.c,c.name,()]):=by rw[Zf (by simp)];simp
 generalize hH2:h++[.row (cB c)]++[.row [c.a,c.b,c.c,c.name,()]]=h2,hT2:eO (eO tag h.length .none) (h.length+1) .none=t2 at *;have qJ:=H2.ea;rw[hs.e,Yr]at qJ;obtain⟨r1,r2,hrr,oG,qK⟩:=qJ.split;have j6:=H2.es;rw[hrr]at j6;have hw:=H2.ea.all (P:=λr=>r.length=5) (λa r q=>q.len);rw[hrr]at hw;have J7:g.cj.length=pre.length+post.length:=by rw[hs.e];simp
 obtain⟨x',h3,t3,g1,g2,g3⟩:=Ax (bytes:=64) (k:=false) j6 hw vB rfl (by rw[<-hT2,hY];simp) (by rw[Zu,oG.1,qK.1];omega) (by omega);rw[oG.1]at g1;have ah:=λbb=>(TW (n+4) bb _ _).trans g1
 have q2':=λ(cal:FuncId->LA->Hp->Option (AV × Hp))(ops:Array Oper)(d:Tmp)(rest:List Oper)(fr:LA)(h:Hp)=>tG (C:=cx) (cal:=cal) (ops:=ops) (λv=>g2.np v) d rest fr h
 have eN:=xv H.es;have cN:=g2.cls;unfold cls at cN;have hE2:=H2.box;have Pl:=g3 E _ hE2 (by rw[H2.tb];simp);have hE3:=Pl.1;have Ua:=(g3 h.length _ BM (by rw[<-hT2,xw (by omega),hY];simp)).1;have adm:=(Za.1 hE3).1;have J8:∀y,(h3.set E y)[E]?=some y:=λy=>Zj adm
 have adn:∀y,(h3.set E y)[h.length]?=some (.row (cB c)):=λy=>by rw[Zq (by omega)];exact Ua
 have e1:cS .i64 (c.a+1)=c.a+1:=cu (by omega) (by omega);have wS:(if g.ne<c.a+1 then c.a+1 else g.ne)=max g.ne (c.a+1):=by split<;>omega
 have hV:=km H.es;rw[H.ea.1]at hV;have CU:(g.cj.length:Int)<4000:=by omega
 have fr:fM h3 t3 (h3.set E (.row [N,x',g.nn,.sc (.int .i64 (max g.ne (c.a+1)))])) t3 (λt=>t= .box):=fM.set h3 t3 E _ (Pl.2.trans H2.tb);refine⟨h3.set E (.row [N,x',g.nn,.sc (.int .i64 (max g.ne (c.a+1)))]),t3,N,x',nr,r1++[[.sc (.int .i64 c.a),.sc (.int .i64 c.b),.sc (.int .i64 c.c),.sc (.string c.name),.sc (.slice none 0 0)]]++r2,?_,{
  box:=J8 _
  tb:=Pl.2.trans H2.tb
  ns:=(H2.ns.fl g3 (by simp)).fl fr (by simp)
  es:=g2.fl fr (by simp)
  na:=H2.na.imp λa _ r h1=>(h1.fl g3 (by simp) (by simp)).fl fr (by simp) (by simp)
  ea:=by
   have e:(qH g pre post ⟨c.a,c.b,c.c,c.name,[]⟩).cj=pre++[⟨c.a,c.b,c.c,c.name,[]⟩]++post:=by simp[qH]
   rw[e];exact((oG.imp λa _ r h1=>(h1.fl g3 (by simp)).fl fr (by simp)).app (kJ.one ⟨_,rfl,.inl ⟨rfl,.inr rfl⟩⟩)).app (qK.imp λa _ r h1=>(h1.fl g3 (by simp)).fl fr (by simp))},
  (GJ.trans g3 (S2:=λt=>t≠ .none) (λ_ q=>q.elim) (λ_ q=>by rw[q];simp)).trans fr (λ_ q=>q) (λ_ q=>by rw[q];simp)⟩
 subst hH2;simp only[Zp,Zv,Zw]at ah;rw[CV (n:=n+5) (λi=>i==4||i==11) f140 []];rcases hV with⟨h0,rfl⟩|⟨h0,rfl⟩|⟨id,rfl⟩
 all_goals
  simp[f140,aa,af,ai,aj,hk,tV,CU];rw[wz (j:=5) (m:=17) ?_ ?_ ?_ ?_]
  rotate_left
  .kernel_rfl
  .simp
  .rfl
  .simp
  simp[ah,tV,eN,q2',cn,hE3,cN,J8,adn,e1,wS]
def ZN{x:Int}{l pre post:List Ed}{m:Ed}(hs:gZ (xj x) (wk x) l pre [m] post):∀a∈pre++post,a.id≠m.id:=λa ha e=>by
 have hm:=(hs.m m (by simp)).2;unfold wk at hm;rw[Zy]at hm;have:wk x a=false:=by
  rcases Zz.1 ha with q|q
  .exact(hs.p a q).2
  .exact(hs.q a q).2
 unfold wk at this;rw[decide_eq_false_iff_not]at this;exact this (e.trans hm)
def Lf(n:Nat)(b:Bool)(E:Nat)(g:Gr)(c:Ch)(N V:AV)(nr er:List LA)(tag:Nat->Tg)(h:Hp)(pre post:List Ed)(m:Ed)(H:gp h tag E g N V nr er)(hs:gZ (xj c.a) (wk c.a) g.cj pre [m] post)(hl:g.cj.length<=4000)(hk:c.k=7):
 ∃h' dJ N' V' sH uP,ch cx (n+6) b 140 [.pt E 0,.ag (cB c)] h=some (.tp [],h')/\gp h' dJ E {g with cj:=pre++post} N' V' sH uP/\Fo h tag h' dJ:=by
 have tU:=(Za.1 H.box).1;have aa:=λbb=>rR n bb E g N V nr er _ _ c.a pre [m] post (eh H (cB c)) (by omega) hs
 simp only[Qd,Qa]at aa;have af:=jC (n+4);have tV:∀y,(h++y)[E]?=some (.row [N,V,g.nn,g.ne]):=λy=>by rw[Zd tU];exact H.box
 have kH:=fM.push h tag (.row (cB c)) .none (λ_=>False);have qJ:=H.ea;rw[hs.e]at qJ;obtain⟨tW,r3,hr,oH,zY⟩:=qJ.split;obtain⟨r1,r2,cz,oG,qK⟩:=oH.split;subst cz;obtain⟨r,rfl⟩:∃r,r2=[r]:=Qe.1 qK.1;obtain⟨P,rfl,o2⟩:=qK.2 0 m r rfl rfl;have j6:=H.es;rw[hr]at j6;have hw:=H.ea.all (P:=λr=>r.length=5) (λa r q=>q.len);rw[hr]at hw;obtain⟨id,cs,hN,cZ,sI,_,dZ,wT⟩:=iw j6 hw;have hP:=wT 4 P rfl;have J7:g.cj.length=pre.length+1+post.length:=by rw[hs.e];simp;omega
 have cf:(r1++[[.sc (.int .i64 m.id),.sc (.int .i64 m.src),.sc (.int .i64 m.dst),.sc (.string m.type),P]]++r3).length=pre.length+1+post.length:=by simp[oG.1,zY.1];omega
 rw[oG.1]at hP;have ai2:=j6.fl kH (λq=>q);obtain⟨x',h3,d1,d2,d3⟩:=Ay TZ ai2 hw (by rw[cf];omega) (n+4) true;rw[oG.1]at d1;have qV:=kV (λv=>H.es.np v)
 have q2:=kV (λv=>d2.np v)
 have cX:=d2.cls;unfold cls at cX;have kE:=kH E _ H.box (λq=>q);have Pl:=d3 E _ kE.1 (by rw[kE.2,H.tb];simp);have kEl:=(Za.1 Pl.1).1;have Ld:=λy=>fM.set h3 (eO tag h.length .none) E (.row y) (S:=λt=>t= .box) (Pl.2.trans (kE.2.trans H.tb))
 refine⟨h3.set E (.row [N,x',g.nn,g.ne]),_,N,x',nr,r1++r3,?_,{
  box:=Zj kEl
  tb:=Pl.2.trans (kE.2.trans H.tb)
  ns:=((H.ns.fl kH (λq=>q)).fl d3 (by simp)).fl (Ld _) (by simp)
  es:=d2.fl (Ld _) (by simp)
  na:=H.na.imp λa _ r q=>((q.fl kH (λq=>q) (λq=>q)).fl d3 (by simp) (by simp)).fl (Ld _) (by simp) (by simp)
  ea:=((oG.imp λa ha r q=>((q.fl kH (λq=>q)).fl d3 (by simp)).fl (Ld _) (by simp)).app (zY.imp λa ha r q=>((q.fl kH (λq=>q)).fl d3 (by simp)).fl (Ld _) (by simp)))},
  (kH.trans d3 (S2:=λt=>t≠ .none) (λ_ q=>q.elim) (λ_ q=>by rw[q];simp)).trans (Ld _) (λ_ q=>q) (λ_ q=>by rw[q];simp)⟩
 have e5:cS .i64 ((pre.length:Int)+1)=(pre.length:Int)+1:=cu (by omega) (by omega);rw[CV (n:=n+5) (λi=>i==4||i==11) f140 []];simp[f140,aa,af,hk,tV,e5,d1,qV,q2,Pl.1,cX,cn]
def Lg(n D:Nat)(b:Bool)(E:Nat)(g:Gr)(c:Ch)(N V:AV)(nr er:List LA)(tag:Nat->Tg)(h:Hp)(pre post:List Ed)(m:Ed)(H:gp h tag E g N V nr er)(hs:gZ (xj c.a) (wk c.a) g.cj pre [m] post)(hl:g.cj.length<=4000)(pp pm pq:List fZ)(ado:m.props.length<=16)(GK:gZ (CS c.name) (Dc c.name) m.props pp pm pq)(hd:gS c.v<=D)(hv:jK c.v)(hk:c.k≠6/\c.k≠7):
 if(pT c.name c.v pp pq).length<=16 then∃h' dJ N' V' sH uP,ch cx (n+2*D+10) b 140 [.pt E 0,.ag (cB c)] h=some (.tp [],h')/\gp h' dJ E {g with cj:=pre++[{m with props:=pT c.name c.v pp pq}]++post} N' V' sH uP/\Fo h tag h' dJ else∃h' dJ,ch cx (n+2*D+10) b 140 [.pt E 0,.ag (cB c)] h=some (.pn (.iface 228 (.int .i64 20)),h')/\Fo h tag h' dJ:=by
 have tU:=(Za.1 H.box).1;have aa:=λbb=>rR (n+2*D+4) bb E g N V nr er _ _ c.a pre [m] post (eh H (cB c)) (by omega) hs
 simp only[Qd,Qa]at aa;have af:=jC (n+2*D+8);have tV:∀y,(h++y)[E]?=some (.row [N,V,g.nn,g.ne]):=λy=>by rw[Zd tU];exact H.box
 have kH:=fM.push h tag (.row (cB c)) .none (λ_=>False);have qJ:=H.ea;rw[hs.e]at qJ;obtain⟨tW,r3,hr,oH,zY⟩:=qJ.split;obtain⟨r1,r2,cz,oG,qK⟩:=oH.split;subst cz;obtain⟨r,rfl⟩:∃r,r2=[r]:=Qe.1 qK.1;obtain⟨P,rfl,o2⟩:=qK.2 0 m r rfl rfl;have j6:=H.es;rw[hr]at j6;have hw:=H.ea.all (P:=λr=>r.length=5) (λa r q=>q.len);rw[hr]at hw;obtain⟨id,cs,hN,cZ,sI,_,dZ,wT⟩:=iw j6 hw;have hP:=wT 4 P rfl;have J7:g.cj.length=pre.length+1+post.length:=by rw[hs.e];simp;omega
 have cf:(r1++[[.sc (.int .i64 m.id),.sc (.int .i64 m.src),.sc (.int .i64 m.dst),.sc (.string m.type),P]]++r3).length=pre.length+1+post.length:=by simp[oG.1,zY.1];omega
 rw[oG.1]at hP;have ah:=abQ n D false (o2.fl kH (λq=>q)) ado GK hd hv (by simp);rw[cf]at hN dZ;have ZJ:pre.length*5+4+1<=cs.length:=by omega
 have qD:pre.length<pre.length+1+post.length:=by omega
 have ng:=(Za.1 cZ).1;have sP:∀y,(h++y)[id]?=some (.row cs):=λy=>by rw[Zd ng];exact cZ
 have eF:=ZN hs;have qP:=yr (λv=>o2.np v)
 have eV:=xv H.es;obtain⟨M1,hk7⟩:=hk;split
 .rename_i mN;rw[cq mN]at ah;obtain⟨x',h3,t3,g1,hx,g3⟩:=ah;have q2:=yr (λv=>hx.np v)
  have cX:=hx.cls;unfold cls at cX;have k2:=g3 id (.row cs) (kH id _ cZ (λq=>q)).1 (by rw[(kH id _ cZ (λq=>q)).2,sI];simp);have kE:=kH E _ H.box (λq=>q);have Pl:=(g3 E _ kE.1 (by rw[kE.2,H.tb];simp)).1;obtain⟨uP,hG,hF⟩:=Pk H hs.e eF hN cZ hx (kH.trans g3 (λ_ q=>q.elim) (λ_ q=>q));refine⟨_,_,_,_,_,_,?_,hG,λi bl q1 q2=>hF i bl q1 (by rintro(q|q)<;>(rw[q]at q2;simp at q2))⟩;subst hN;rw[CV (n:=n+2*D+9) (λi=>i==4||i==11) f140 []];simp[f140,aa,af,M1,hk7];rw[ZG (j:=4) (m:=20) ?_ ?_ ?_ ?_]
  rotate_left
  .kernel_rfl
  .simp
  .rfl
  .simp
  simp[tV,sP,qD,hP,qP,g1,q2,cn,k2.1,Pl,cX,ZJ,eV]
 .rename_i mN;rw[cm mN]at ah;obtain⟨h3,t3,g1,g3⟩:=ah;refine⟨h3,t3,?_,(kH.trans g3 (S2:=λt=>t≠ .none) (λ_ q=>q.elim) (λ_ q=>by rw[q];simp))⟩;have kE:=kH E _ H.box (λq=>q);subst hN;rw[CV (n:=n+2*D+9) (λi=>i==4||i==11) f140 []];simp[f140,aa,af,M1,hk7];rw[H8 19 [] (v:= .iface 228 (.int .i64 20)) (hP:=h3) ?_ ?_ ?_ ?_]
  rotate_left
  .simp
  .kernel_rfl
  .kernel_rfl
  .simp[tV,sP,qD,hP,qP,g1]
  simp
end
section
attribute [local simp] cn eD
structure NB (g:Gr):Prop where
 n:∀n∈g.nodes,n.id+1<=g.nn
 e:∀e∈g.cj,e.id+1<=g.ne
def Uc{g:Gr}(h:dQ g=0):NB g:=by
 unfold dQ at h;split at h
 .cases h
 .split at h
  .cases h
  .split at h
   .rename_i h2 h3;have zn:∀j,j<g.nodes.length->mT g j=0:=λj hj=>ki (mT g) g.nodes.length 0 h3 j (by omega) (by omega)
    have ze:∀j,j<g.cj.length->lV g j=0:=λj hj=>ki (lV g) g.cj.length 0 h j (by omega) (by omega)
    refine⟨λn hn=>?_,λn hn=>?_⟩
    .obtain⟨i,hi,rfl⟩:=List.mem_iff_getElem.1 hn;have:=zn i hi;unfold mT at this;rw[Zb hi]at this;dsimp only at this;split at this
     .cases this
     .split at this
      .cases this
      .omega
    .obtain⟨i,hi,rfl⟩:=List.mem_iff_getElem.1 hn;have:=ze i hi;unfold lV at this;rw[Zb hi]at this;dsimp only at this;split at this
     .cases this
     .split at this
      .cases this
      .omega
   .rename_i h2 h3;exact absurd h h3
def mV{l:List ByteArray}{p:List fZ}(h:gk l p=0):p.Pairwise (λa b=>nC a.key b.key=true):=by
 unfold gk at h;split at h
 .cases h
 .split at h
  .cases h
  .split at h
   .cases h
   .rename_i h3;have h4:(dS l && dS (iq p))=true:=by
     cases q:(dS l && dS (iq p))with
     |true=>rfl
     |false=>exact absurd q h3
    rw[Zh]at h4;have:=rQ h4.2;unfold iq at this
    rwa [List.pairwise_map]at this
def ZO{l:List fZ}(x:ByteArray)(h:l.Pairwise λa b=>nC a.key b.key=true):∃p m q,gZ (CS x) (Dc x) l p m q:=
 Fm _ h (λa b r q=>qq r q) (λa b r q=>by have:=(iC _ _).1 q;subst this;exact r) (λa q=>by
  cases e:Dc x a with
  |false=>rfl
  |true=>have:=(iC _ _).1 e;subst this;unfold CS at q;rw[kc]at q;cases q)
def uQ{x:ByteArray}{v:V}{l pre eY post:List fZ}(hs:gZ (CS x) (Dc x) l pre eY post):g_ l x v=pT x v pre post:=by
 unfold g_ pT;rw[Bu hs];cases lr v<;>simp
def yD{g:Gr}{pre post:List Nd}{m:Nd}(h:m.id+1<=g.nn):qG g pre post m={g with nodes:=pre++[m]++post}:=by
 unfold qG;rw[show max g.nn (m.id+1)=g.nn by omega];simp
def Lh{g:Gr}{pre post:List Ed}{m:Ed}(h:m.id+1<=g.ne):qH g pre post m={g with cj:=pre++[m]++post}:=by
 unfold qH;rw[show max g.ne (m.id+1)=g.ne by omega];simp
def Did(h:Hp)(tag:Nat->Tg)(E:Nat)(r:Gr × Int)(x:Option (AV × Hp)):Prop:=
 if r.2=0 then∃h',x=some (.tp [],h')/\BN h tag E r.1 h' else∃h',x=some (.pn (.iface 228 (.int .i64 r.2)),h')/\Ik h tag h'
def tX{h:Hp}{tag:Nat->Tg}{E:Nat}{g:Gr}{x:Option (AV × Hp)}(H:∃h' dJ N' V' sH uP,x=some (.tp [],h')/\gp h' dJ E g N' V' sH uP/\Fo h tag h' dJ):Did h tag E (g,0) x:=by
 unfold Did;rw[cq rfl];obtain⟨h',t',N',V',sH,uP,a,b,c⟩:=H;exact⟨h',a,t',N',V',sH,uP,b,c⟩
def mD{h:Hp}{tag:Nat->Tg}{E:Nat}{g:Gr}{e:Int}(he:e≠0){x:Option (AV × Hp)}(H:∃h' dJ,x=some (.pn (.iface 228 (.int .i64 e)),h')/\Fo h tag h' dJ):Did h tag E (g,e) x:=by
 unfold Did;rw[cm he];obtain⟨h',t',a,c⟩:=H;exact⟨h',a,t',c⟩
def adq(n D:Nat)(b:Bool)(E:Nat)(g:Gr)(c:Ch)(N V:AV)(nr er:List LA)(tag:Nat->Tg)(h:Hp)(H:gp h tag E g N V nr er)(hg:GV g)(hb:NB g)(he:dx c=0)(hd:gS c.v<=D)(hv:jK c.v)(hk:c.k<=5):
 Did h tag E (iN g c) (ch cx (n+2*D+10) b 139 [.pt E 0,.ag (cB c)] h):=by
 have cZ:=oB he;have W9:=nM he;obtain⟨pn,mn,qn,hs⟩:=KX c.a hg.sn;have e1:W7 g.nodes c.a=pn:=j4 hs;have e2:W8 g.nodes c.a=qn:=iM hs;have nh:=hg.nl;have ni:=hg.el;have hq:n+2*D+10=(n+2*D+4)+6:=by omega
 unfold iN;rw[cm (by simp[he])];by_cases k1:c.k=1
 .rw[cq k1,e1,e2,dO hs,hq];cases hn:mn.head? with
  |some m=>
   have:=ji hn hs.one;subst this;exact mD (by omega) (H_ _ b E g c N V nr er tag h pn qn m H k1 hs nh)
  |
   none=>
   have:=iH hn;subst this;dsimp only;by_cases hl:2000<=g.nodes.length
   .rw[cq hl];exact mD (by omega) (Ia _ b E g c N V nr er tag h pn qn H k1 hs nh hl)
   .rw[cm hl];exact tX (H9 _ b E g c N V nr er tag h pn qn H k1 cZ hs (by omega))
 .rw[cm k1,cm (by omega),cm (by omega),dO hs];cases hn:mn.head? with
  |
   none=>
   have:=iH hn;subst this;rw[hq];exact mD (by omega) (Ib _ b E g c N V nr er tag h pn qn H k1 hs nh)
  |some m=>
   have:=ji hn hs.one;subst this;have tY:m∈g.nodes:=by rw[hs.e];simp
   have hp:=hg.np m tY;have hz:=gd hp;have hnn:=hb.n m tY;dsimp only;unfold HU;rw[e1,e2];by_cases k2:c.k=2
   .rw[cq k2,hq];have:=Lc (n+2*D+4) b E g c N V nr er tag h pn qn m H hs nh (by omega) k2;cases hA:g.cj.any (mv c.a)
    .rw[hA,cm (by simp)]at this;exact tX this
    .rw[hA,cq rfl]at this;exact mD (by simp) this
   .rw[cm k2];by_cases k3:c.k=3
    .rw[cq k3,hq];obtain⟨lp,lm,lq,dm⟩:=Y3 c.name hz.2.2;have aa:loT m.labels c.name=lp:=j4 dm;have af:hiT m.labels c.name=lq:=iM dm;rw[aa,af,dm.any];cases lm with
     |
      nil=>
      by_cases h8:8<=m.labels.length
      .rw[cm (by simp),cq h8,cm (by simp),cq h8];exact mD (by omega) (Ig _ b E g c N V nr er tag h pn qn m lp [] lq H hs nh hz.1 dm k3 h8)
      .rw[cm (by simp),cm h8,cm (by simp),cm h8,yD (m:={m with labels:=lp++[c.name]++lq}) hnn];exact tX (Ih _ b E g c N V nr er tag h pn qn m lp [] lq H hs nh hz.1 dm k3 (by omega))
     |cons y lm=>
      have:lm=[]:=by have:=dm.one;simpa using this
      subst this;rw[cq (by simp),cq (by simp)];exact mD (by omega) (Ic _ b E g c N V nr er tag h pn qn m lp [y] lq y H hs nh hz.1 dm k3)
    .rw[cm k3];by_cases k4:c.k=4
     .rw[cq k4,hq];obtain⟨lp,lm,lq,dm⟩:=Y3 c.name hz.2.2;have aa:loT m.labels c.name=lp:=j4 dm;have af:hiT m.labels c.name=lq:=iM dm;rw[aa,af,dm.any];cases lm with
      |
       nil=>
       rw[cm (by simp),cm (by simp)];exact mD (by omega) (Ii _ b E g c N V nr er tag h pn qn m lp [] lq H hs nh hz.1 dm k4)
      |cons y lm=>
       have:lm=[]:=by have:=dm.one;simpa using this
       subst this;rw[cq (by simp),cq (by simp),yD (m:={m with labels:=lp++lq}) hnn];exact tX (Ij _ b E g c N V nr er tag h pn qn m lp [y] lq y H hs nh hz.1 dm k4)
     .rw[cm k4];obtain⟨pp,pm,pq,GK⟩:=ZO c.name (mV hp);rw[uQ GK];have:=Lb n D b E g c N V nr er tag h pn qn m pp pm pq H hs nh hz.2.1 GK hd hv ⟨k1,k2,k3,k4⟩;by_cases mN:(pT c.name c.v pp pq).length<=16
      .rw[cq mN]at this;rw[cq mN,cq mN,yD (m:={m with props:=pT c.name c.v pp pq}) hnn];exact tX this
      .rw[cm mN]at this;rw[cm mN,cm mN];exact mD (by omega) this
def adr(n D:Nat)(b:Bool)(E:Nat)(g:Gr)(c:Ch)(N V:AV)(nr er:List LA)(tag:Nat->Tg)(h:Hp)(H:gp h tag E g N V nr er)(hg:GV g)(hb:NB g)(he:dx c=0)(hd:gS c.v<=D)(hv:jK c.v)(hk:5<c.k):
 Did h tag E (iN g c) (ch cx (n+2*D+10) b 140 [.pt E 0,.ag (cB c)] h):=by
 have cZ:=oB he;have W9:=nM he;obtain⟨pe,me,qe,hs⟩:=TN c.a hg.se;obtain⟨pb,mb,qb,Sa⟩:=KX c.b hg.sn;obtain⟨pc,mc,qc,Le⟩:=KX c.c hg.sn;have e1:loE g.cj c.a=pe:=j4 hs;have e2:hiE g.cj c.a=qe:=iM hs;have nh:=hg.nl;have ni:=hg.el;have hq:n+2*D+10=(n+2*D+4)+6:=by omega
 have hm:((cM g.nodes c.b).isSome && (cM g.nodes c.c).isSome)=((!mb.isEmpty) && (!mc.isEmpty)):=by
  rw[dO Sa,dO Le];cases mb<;>cases mc<;>rfl
 unfold iN;rw[cm (by simp[he]),cm (by omega)];by_cases k6:c.k=6
 .rw[cq k6,e1,e2,dV hs,hq];cases hn:me.head? with
  |some m=>
   have:=ji hn hs.one;subst this;exact mD (by omega) (Il _ b E g c N V nr er tag h pe qe m H hs ni nh k6)
  |
   none=>
   have:=iH hn;subst this;dsimp only;rw[hm];by_cases Ud:((!mb.isEmpty) && (!mc.isEmpty))=false
   .rw[cq Ud];exact mD (by omega) (Io _ b E g c N V nr er tag h pe qe pb mb qb pc mc qc Sa Le H hs ni nh k6 Ud)
   .rw[cm Ud];have Pm:((!mb.isEmpty) && (!mc.isEmpty))=true:=by
     cases q:((!mb.isEmpty) && (!mc.isEmpty))with
     |true=>rfl
     |false=>exact absurd q Ud
    by_cases hl:4000<=g.cj.length
    .rw[cq hl];exact mD (by omega) (Ip _ b E g c N V nr er tag h pe qe pb mb qb pc mc qc Sa Le H hs ni nh k6 Pm hl)
    .rw[cm hl];exact tX (Iq _ b E g c N V nr er tag h pe qe pb mb qb pc mc qc Sa Le H hs ni nh k6 Pm cZ (by omega))
 .rw[cm k6,cq (by omega),dV hs];cases hn:me.head? with
  |
   none=>
   have:=iH hn;subst this;rw[hq];exact mD (by omega) (Im _ b E g c N V nr er tag h pe qe H hs ni nh k6)
  |some m=>
   have:=ji hn hs.one;subst this;have tY:m∈g.cj:=by rw[hs.e];simp
   have hp:=hg.ep m tY;have hz:=gd hp;have hnn:=hb.e m tY;dsimp only;unfold HV;rw[e1,e2];by_cases k7:c.k=7
   .rw[cq k7,hq];exact tX (Lf _ b E g c N V nr er tag h pe qe m H hs ni k7)
   .rw[cm k7];obtain⟨pp,pm,pq,GK⟩:=ZO c.name (mV hp);rw[uQ GK];have:=Lg n D b E g c N V nr er tag h pe qe m H hs ni pp pm pq hz.2.1 GK hd hv ⟨k6,k7⟩;by_cases mN:(pT c.name c.v pp pq).length<=16
    .rw[cq mN]at this;rw[cq mN,cq mN,Lh (m:={m with props:=pT c.name c.v pp pq}) hnn];exact tX this
    .rw[cm mN]at this;rw[cm mN,cm mN];exact mD (by omega) this
end
section
attribute [local simp] eD
def rU(C:Cx)(call:Bool->iB):List Code->St->Option (Out × St)
 | [],s=>some (.normal,s)
 |
  c::cs,s=>match cO C call c s with
  |some (.normal,s')=>rU C call cs s'
  |r=>r
section
variable {C : Cx} {call : Bool -> FuncId -> LA -> Hp -> Option (AV × Hp)}
def Ir :∀(l:List Code),l.all (sZ C)=true->A4 C call l=rU C call l
 | [],_=>rfl
 |
  c::l,h=>by
  rw[Zn,Zh]at h
  funext s
  simp only[A4,rU,xx c h.1,Ir l h.2];rfl
def Ue(C:Cx)(call:Bool->iB)(x:Option (Out × St))(cs:List Code):Option (Out × St):=match x with|some (.normal,s)=>rU C call cs s|r=>r
@[simp] def ae5(s:St):rU C call [] s=some (.normal,s):=rfl
@[simp] def acv(c:Code)(cs:List Code)(s:St):rU C call (c::cs) s=Ue C call (cO C call c s) cs:=rfl
@[simp] def abE(s:St)(cs:List Code):Ue C call (some (.normal,s)) cs=rU C call cs s:=rfl
@[simp] def afa(s:St)(cs:List Code):Ue C call (some (.ret,s)) cs=some (.ret,s):=rfl
def Li(res:List Rv)(id:Nat)(T:TypeId):Option (Out × St)->Option (AV × Hp)
 |some (.normal,s')=>(tT res s').map λr=>(r,s'.2)
 |some (.ret,s')=>(tT res s').map λr=>(r,s'.2)
 |some (.th (.iface T' (.int k n)),s')=>match s'.2[id]? with
  |some (.row [_])=>if T=T' then(tT res (s'.1,s'.2.set id (.row [.sc (.int k n)]))).map λr=>(r,s'.2.set id (.row [.sc (.int k n)]))else none
  |_=>none
 |_=>none
def ZP(C:Cx)(call:Bool->iB)(res:List Rv)(d:Tmp)(x:Operand)(T:TypeId)(rest:Code):Option (Out × St)->Option (AV × Hp)
 |some (.ret,s)=>(tT res s).map λr=>(r,s.2)
 |some (.normal,s)=>match ev C s.1 x with
  | .pt id 0=>if d<s.1.length then Li res id T (cO C call rest (s.1.set d .ud,s.2))else none
  |_=>none
 |_=>none
@[simp] def agS(res:List Rv)(d:Tmp)(x:Operand)(T:TypeId)(rest:Code)(s:St):ZP C call res d x T rest (some (.ret,s))=(tT res s).map λr=>(r,s.2):=rfl
def afN(C:Cx)(call:Bool->iB)(res:List Rv)(d:Tmp)(T:TypeId)(rest:Code)(s:St):AV->Option (AV × Hp)
 | .pt id 0=>if d<s.1.length then Li res id T (cO C call rest (s.1.set d .ud,s.2))else none
 |_=>none
@[simp] def aci(res:List Rv)(d:Tmp)(x:Operand)(T:TypeId)(rest:Code)(s:St):ZP C call res d x T rest (some (.normal,s))=afN C call res d T rest s (ev C s.1 x):=rfl
@[simp] def ahx(res:List Rv)(d:Tmp)(T:TypeId)(rest:Code)(s:St)(id:Nat):afN C call res d T rest s (.pt id 0)=if d<s.1.length then Li res id T (cO C call rest (s.1.set d .ud,s.2))else none:=rfl
@[simp] def acE(res:List Rv)(id:Nat)(T:TypeId)(s':St):Li res id T (some (.normal,s'))=(tT res s').map λr=>(r,s'.2):=rfl
@[simp] def agQ(res:List Rv)(id:Nat)(T:TypeId)(s':St):Li res id T (some (.ret,s'))=(tT res s').map λr=>(r,s'.2):=rfl
def ads(res:List Rv)(id:Nat)(fr:LA)(h:Hp)(v:Value):Option eK->Option (AV × Hp)
 |some (.row [_])=>(tT res (fr,h.set id (.row [.sc v]))).map λr=>(r,h.set id (.row [.sc v]))
 |_=>none
@[simp] def agO(res:List Rv)(id:Nat)(T:TypeId)(k:IntKind)(n:Int)(fr:LA)(h:Hp):Li res id T (some (.th (.iface T (.int k n)),(fr,h)))=ads res id fr h (.int k n) h[id]?:=by
 unfold Li ads;simp only;split<;>simp_all
@[simp] def ag6(res:List Rv)(id:Nat)(fr:LA)(h:Hp)(v:Value)(x:AV):ads res id fr h v (some (.row [x]))=(tT res (fr,h.set id (.row [.sc v]))).map λr=>(r,h.set id (.row [.sc v])):=rfl
def Uf{f:FuncId}{fi:Fi}(hF:C.F f=some fi){args:LA}(hl:args.length<=fi.ntmps){pre:List Code}{d:Tmp}{x:Operand}{T:TypeId}{rest:Code}(hd:jQ C fi.body=some (pre,d,x,T,rest))(hp:pre.all (sZ C)=true)(hr:sZ C rest=true)(h:Hp):
 G1 C call f args h=ZP C call fi.res d x T rest (rU C call pre (args++List.replicate (fi.ntmps-args.length) .un,h)):=by
 unfold G1;rw[hF];simp only[hl,if_true,hd,Ir pre hp,xx rest hr];rfl
end
def Ug{f:FuncId}{args:LA}{n:Nat}(fi:Fi){pre:List Code}{d:Tmp}{x:Operand}{T:TypeId}{rest:Code}(hs:cx.oW f=none)(hi:cx.inl f=true)(hF:cx.F f=some fi)(hd:jQ cx fi.body=some (pre,d,x,T,rest))(hp:pre.all (sZ cx)=true)(hr:sZ cx rest=true)(hl:args.length<=fi.ntmps)(b:Bool)(h:Hp)(qD:jx f=true:=by decide):
 ch cx (n+1) b f args h=ZP cx (ch cx n) fi.res d x T rest (rU cx (ch cx n) pre (args++List.replicate (fi.ntmps-args.length) .un,h)):=by
 have e1:cx.ins f=none:=Bc qD;have e2:(if args.all dk then cx.ux f args else none)=none:=by rw[show cx.ux f args=none from tw qD];split<;>rfl
 simp only[ch,hs,hi,if_true,e1,e2,hF,hd];exact Uf hF hl hd hp hr h
@[simp] def afo(c:Ch):(cB c).take 10=cB c:=Xa (by simp)
def Lj :Code->Code
 | .seq a _=>a
 |c=>c
def FG :Code->Code
 | .seq _ b=>b
 |c=>c
def ZQ(n D:Nat)(b:Bool)(E:Nat)(g:Gr)(c:Ch)(N V:AV)(nr er:List LA)(tag:Nat->Tg)(h:Hp)(H:gp h tag E g N V nr er)(hg:GV g)(hb:NB g)(hd:gS c.v<=D)(hv:jK c.v):
 ∃h',ch cx (n+2*D+11) b 88 [.pt E 0,.ag (cB c)] h=some (.sc (.int .i64 (iN g c).2),h')/\Ik h tag h'/\((iN g c).2=0->BN h tag E (iN g c).1 h'):=by
 have aa:=λbb hh=>YS (n+1) D bb c hh hd hv
 rw[show n+1+2*D+9=n+2*D+10 by omega]at aa;rw[Ug (n:=n+2*D+10) (pre:=[Lj ((f88.body).getD .skip),Lj (FG ((f88.body).getD .skip))]) (d:=11) (x:= .tmp 4) (T:=228) (rest:=FG (FG (FG ((f88.body).getD .skip)))) ⟨f88.ntmps,(f88.body).getD .skip,[.cell 4 1 false]⟩ rfl (by kernel_rfl) (by kernel_rfl) (by kernel_rfl) (by kernel_rfl) (by kernel_rfl) (by simp[f88])];have GJ:fM h tag (h++[.row (cB c)]++[.row [(0:Int)]]) (eO (eO tag h.length .none) (h.length+1) .none) (λ_=>False):=by
  have a:=fM.push h tag (.row (cB c)) .none (λ_=>False);have b:=fM.push (h++[.row (cB c)]) (eO tag h.length .none) (.row [(0:Int)]) .none (λ_=>False);rw[Zu]at b;exact a.trans b (λ_ q=>q) (λ_ q=>q)
 by_cases he:dx c=0
 .have H2:gp (h++[.row (cB c)]++[.row [(0:Int)]]) (eO (eO tag h.length .none) (h.length+1) .none) E g N V nr er:=H.fl (λid b h1 _=>GJ id b h1 (λq=>q));have ht2:eO (eO tag h.length .none) (h.length+1) .none (h.length+1)= .none:=hY _ _ _;have vB:(h++[.row (cB c)]++[.row [(0:Int)]])[h.length+1]?=some (.row [(0:Int)]):=by rw[Zf (by simp)];simp
  have mr:∀(x:Int)(h3:Hp)(t3:Nat->Tg),Fo (h++[.row (cB c)]++[.row [(0:Int)]]) (eO (eO tag h.length .none) (h.length+1) .none) h3 t3->∀(G:Gr),BN (h++[.row (cB c)]++[.row [(0:Int)]]) (eO (eO tag h.length .none) (h.length+1) .none) E G h3->BN h tag E G (h3.set (h.length+1) (.row [x])):=by
   rintro x h3 t3 _ G ⟨t4,N',V',sH,uP,RG,FO⟩;have k:=FO (h.length+1) _ vB (by rw[ht2];simp);refine⟨t4,N',V',sH,uP,RG.fl (fM.set h3 t4 (h.length+1) _ (k.2.trans ht2)),λi bl q1 q2=>?_⟩;have il:=(Za.1 q1).1;have a:=GJ i bl q1 (λq=>q);have a2:=FO i bl a.1 (by rw[a.2];exact q2);exact⟨by rw[Zq (by omega)];exact a2.1,a2.2.trans a.2⟩
  have hk:∀(F:FuncId),Did (h++[.row (cB c)]++[.row [(0:Int)]]) (eO (eO tag h.length .none) (h.length+1) .none) E (iN g c) (ch cx (n+2*D+10) true F [.pt E 0,.ag (cB c)] (h++[.row (cB c)]++[.row [(0:Int)]]))->
   ((iN g c).2=0/\∃h3,ch cx (n+2*D+10) true F [.pt E 0,.ag (cB c)] (h++[.row (cB c),.row [(0:Int)]])=some (.tp [],h3)/\h3[h.length+1]?=some (.row [(0:Int)])/\∀x:Int,BN h tag E (iN g c).1 (h3.set (h.length+1) (.row [x])))\/
   (¬(iN g c).2=0/\∃h3,ch cx (n+2*D+10) true F [.pt E 0,.ag (cB c)] (h++[.row (cB c),.row [(0:Int)]])=some (.pn (.iface 228 (.int .i64 (iN g c).2)),h3)/\h3[h.length+1]?=some (.row [(0:Int)])/\∀x:Int,Ik h tag (h3.set (h.length+1) (.row [x]))):=by
   intro F hD;unfold Did at hD;rw[Zp]at hD vB;split at hD
   .rename_i h0;obtain⟨h3,a1,hG⟩:=hD;refine .inl ⟨h0,h3,a1,?_,λx=>?_⟩
    .obtain⟨t4,N',V',sH,uP,RG,FO⟩:=hG;exact(FO (h.length+1) _ vB (by rw[ht2];simp)).1
    .have hG':=hG;obtain⟨t4,N',V',sH,uP,RG,FO⟩:=hG;rw[<-Zp]at FO hG';exact mr x h3 t4 FO _ hG'
   .rename_i h0;obtain⟨h3,a1,t4,FO⟩:=hD;refine .inr ⟨h0,h3,a1,(FO (h.length+1) _ vB (by rw[ht2];simp)).1,λx=>⟨t4,λi bl q1 q2=>?_⟩⟩;have il:=(Za.1 q1).1;have a:=GJ i bl q1 (λq=>q);rw[Zp]at a;have a2:=FO i bl a.1 (by rw[a.2];exact q2);exact⟨by rw[Zq (by omega)];exact a2.1,a2.2.trans a.2⟩
  by_cases h5:c.k<=5
  .have hh:=hk _ (adq n D true E g c N V nr er _ _ H2 hg hb he hd hv h5);generalize iN g c=r at hh|-;rw[he]at aa;rcases hh with⟨h0,h3,a1,a2,a3⟩|⟨h0,h3,a1,a2,a3⟩
   .rw[h0];refine⟨h3.set (h.length+1) (.row [(0:Int)]),?_,let⟨t',_,_,_,_,_,q⟩:=a3 0;⟨t',q⟩,λ_=>a3 0⟩;have J8:∀y,(h3.set (h.length+1) y)[h.length+1]?=some y:=λy=>Zj (Za.1 a2).1
    simp[f88,Lj,FG,aa,cn,h5,a1,a2,J8]
   .refine⟨h3.set (h.length+1) (.row [r.2]),?_,a3 _,λq=>absurd q h0⟩;have J8:∀y,(h3.set (h.length+1) y)[h.length+1]?=some y:=λy=>Zj (Za.1 a2).1
    simp[f88,Lj,FG,aa,h5,a1,a2,J8]
  .have hh:=hk _ (adr n D true E g c N V nr er _ _ H2 hg hb he hd hv (by omega));generalize iN g c=r at hh|-;rw[he]at aa;rcases hh with⟨h0,h3,a1,a2,a3⟩|⟨h0,h3,a1,a2,a3⟩
   .rw[h0];refine⟨h3.set (h.length+1) (.row [(0:Int)]),?_,let⟨t',_,_,_,_,_,q⟩:=a3 0;⟨t',q⟩,λ_=>a3 0⟩;have J8:∀y,(h3.set (h.length+1) y)[h.length+1]?=some y:=λy=>Zj (Za.1 a2).1
    simp[f88,Lj,FG,aa,cn,h5,a1,a2,J8]
   .refine⟨h3.set (h.length+1) (.row [r.2]),?_,a3 _,λq=>absurd q h0⟩;have J8:∀y,(h3.set (h.length+1) y)[h.length+1]?=some y:=λy=>Zj (Za.1 a2).1
    simp[f88,Lj,FG,aa,h5,a1,a2,J8]
 .have e:iN g c=(fq,dx c):=by unfold iN;rw[cq he]
  rw[e];have ai3:fM h tag (h++[.row (cB c)]++[.row [.sc (.int .i64 (dx c))]]) (eO (eO tag h.length .none) (h.length+1) .none) (λ_=>False):=by
   have a:=fM.push h tag (.row (cB c)) .none (λ_=>False);have b:=fM.push (h++[.row (cB c)]) (eO tag h.length .none) (.row [.sc (.int .i64 (dx c))]) .none (λ_=>False);rw[Zu]at b;exact a.trans b (λ_ q=>q) (λ_ q=>q)
  refine⟨(h++[.row (cB c)]++[.row [.sc (.int .i64 (dx c))]]),?_,⟨_,λi bl q1 q2=>ai3 i bl q1 (λq=>q)⟩,λq=>absurd q he⟩;generalize dx c=x at aa he;simp[f88,Lj,FG,aa,he,cn]
end
end Go.Proofs.YtmfohnojaginjaaGreatDoor
