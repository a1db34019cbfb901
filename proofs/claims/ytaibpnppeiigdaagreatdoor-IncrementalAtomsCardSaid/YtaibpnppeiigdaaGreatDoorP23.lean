/- Part of the proof. -/
import Derived.Test.YtaibpnppeiigdaaGreatDoorP22
set_option linter.all false
set_option maxHeartbeats 32000000
set_option maxRecDepth 100000
namespace Go.Proofs.YtaibpnppeiigdaaGreatDoor
open Go Go.Ae Go.Proofs.Tryz
section
attribute [local simp] zi da XM
structure NB (g:Gr):Prop where
 n:∀n∈g.nodes,n.id+1<=g.nn
 e:∀e∈g.cZ,e.id+1<=g.ne
def aci {g:Gr}(h:gN g=0):NB g:=by
 unfold gN at h;split at h
 .cases h
 .split at h
  .cases h
  .split at h
   .rename_i h2 h3;have zn:∀j,j<g.nodes.length->mB g j=0:=λj hj=>j7 (mB g) g.nodes.length 0 h3 j (by omega) (by omega)
    have ze:∀j,j<g.cZ.length->mC g j=0:=λj hj=>j7 (mC g) g.cZ.length 0 h j (by omega) (by omega)
    refine⟨λn hn=>?_,λn hn=>?_⟩
    .obtain⟨i,hi,rfl⟩:=List.mem_iff_getElem.1 hn;have:=zn i hi;unfold mB at this;rw[Zb hi]at this;dsimp only at this;split at this
     .cases this
     .split at this
      .cases this
      .omega
    .obtain⟨i,hi,rfl⟩:=List.mem_iff_getElem.1 hn;have:=ze i hi;unfold mC at this;rw[Zb hi]at this;dsimp only at this;split at this
     .cases this
     .split at this
      .cases this
      .omega
   .rename_i h2 h3;exact absurd h h3
def nV {l:List ByteArray}{p:List iP}(h:ie l p=0):p.Pairwise (λa b=>nZ a.key b.key=true):=by
 unfold ie at h;split at h
 .cases h
 .split at h
  .cases h
  .split at h
   .cases h
   .rename_i h3;have h4:(dZ l && dZ (i6 p))=true:=by
     cases q:(dZ l && dZ (i6 p))with
     |true=>rfl
     |false=>exact absurd q h3
    rw[Zh]at h4;have:=sE h4.2;unfold i6 at this
    rwa [List.pairwise_map]at this
def aau {l:List iP}(x:ByteArray)(h:l.Pairwise λa b=>nZ a.key b.key=true):∃p m q,iX (Da x) (zq x) l p m q:=
 FP _ h (λa b r q=>q_ r q) (λa b r q=>by have:=(iT _ _).1 q;subst this;exact r) (λa q=>by
  cases e:zq x a with
  |false=>rfl
  |true=>have:=(iT _ _).1 e;subst this;unfold Da at q;rw[kU]at q;cases q)
def u7 {x:ByteArray}{v:V}{l pre gj post:List iP}(hs:iX (Da x) (zq x) l pre gj post):iY l x v=qI x v pre post:=by
 unfold iY qI;rw[BC hs];cases mD v<;>simp
def yN {g:Gr}{pre post:List Nd}{m:Nd}(h:m.id+1<=g.nn):rA g pre post m={g with nodes:=pre++[m]++post}:=by
 unfold rA;rw[show max g.nn (m.id+1)=g.nn by omega];simp
def Mj {g:Gr}{pre post:List Ed}{m:Ed}(h:m.id+1<=g.ne):rB g pre post m={g with cZ:=pre++[m]++post}:=by
 unfold rB;rw[show max g.ne (m.id+1)=g.ne by omega];simp
def Did (h:Hp)(tag:Nat->Tg)(E:Nat)(r:Gr × Int)(x:Option (AV × Hp)):Prop:=
 if r.2=0 then∃h',x=some (.tp [],h')/\Ci h tag E r.1 h' else∃h',x=some (.pn (.iface 150 (.int .i64 r.2)),h')/\Je h tag h'
def uu {h:Hp}{tag:Nat->Tg}{E:Nat}{g:Gr}{x:Option (AV × Hp)}(H:∃h' eO N' V' tf u6,x=some (.tp [],h')/\iF h' eO E g N' V' tf u6/\Fo h tag h' eO):Did h tag E (g,0) x:=by
 unfold Did;rw[dd rfl];obtain⟨h',t',N',V',tf,u6,a,b,c⟩:=H;exact⟨h',a,t',N',V',tf,u6,b,c⟩
def nG {h:Hp}{tag:Nat->Tg}{E:Nat}{g:Gr}{e:Int}(he:e≠0){x:Option (AV × Hp)}(H:∃h' eO,x=some (.pn (.iface 150 (.int .i64 e)),h')/\Fo h tag h' eO):Did h tag E (g,e) x:=by
 unfold Did;rw[db he];obtain⟨h',t',a,c⟩:=H;exact⟨h',a,t',c⟩
def adN (n D:Nat)(b:Bool)(E:Nat)(g:Gr)(c:Ch)(N V:AV)(nr er:List LA)(tag:Nat->Tg)(h:Hp)(H:iF h tag E g N V nr er)(hg:GV g)(hb:NB g)(he:dr c=0)(hd:fB c.v<=D)(hv:gV c.v)(hk:c.k<=5):
 Did h tag E (jc g c) (cW cx (n+2*D+10) b 107 [.pt E 0,.ag (dp c)] h):=by
 have dC:=pC he;have TD:=oM he;obtain⟨pn,mn,qn,hs⟩:=LW c.a hg.sn;have e1:YK g.nodes c.a=pn:=kJ hs;have e2:YL g.nodes c.a=qn:=ju hs;have nS:=hg.nl;have Bu:=hg.el;have hq:n+2*D+10=(n+2*D+4)+6:=by omega
 unfold jc;rw[db (by simp[he])];by_cases k1:c.k=1
 .rw[dd k1,e1,e2,eU hs,hq];cases hn:mn.head? with
  |
   some m=>
   have:=jS hn hs.one;subst this;exact nG (by omega) (I6 _ b E g c N V nr er tag h pn qn m H k1 hs nS)
  |
   none=>
   have:=ji hn;subst this;dsimp only;by_cases hl:2000<=g.nodes.length
   .rw[dd hl];exact nG (by omega) (I7 _ b E g c N V nr er tag h pn qn H k1 hs nS hl)
   .rw[db hl];exact uu (I5 _ b E g c N V nr er tag h pn qn H k1 dC hs (by omega))
 .rw[db k1,db (by omega),db (by omega),eU hs];cases hn:mn.head? with
  |
   none=>
   have:=ji hn;subst this;rw[hq];exact nG (by omega) (I8 _ b E g c N V nr er tag h pn qn H k1 hs nS)
  |
   some m=>
   have:=jS hn hs.one;subst this;have kM:m∈g.nodes:=by rw[hs.e];simp
   have hp:=hg.np m kM;have hz:=jX hp;have hnn:=hb.n m kM;dsimp only;unfold IV;rw[e1,e2];by_cases k2:c.k=2
   .rw[dd k2,hq];have:=Mf (n+2*D+4) b E g c N V nr er tag h pn qn m H hs nS (by omega) k2;cases hA:g.cZ.any (nE c.a)
    .rw[hA,db (by simp)]at this;exact uu this
    .rw[hA,dd rfl]at this;exact nG (by simp) this
   .rw[db k2];by_cases k3:c.k=3
    .rw[dd k3,hq];obtain⟨lp,lm,lq,dY⟩:=aab c.name hz.2.2;have aa:loT m.labels c.name=lp:=kJ dY;have ae:hiT m.labels c.name=lq:=ju dY;rw[aa,ae,dY.any];cases lm with
     |
      nil=>
      by_cases h8:8<=m.labels.length
      .rw[db (by simp),dd h8,db (by simp),dd h8];exact nG (by omega) (Ja _ b E g c N V nr er tag h pn qn m lp [] lq H hs nS hz.1 dY k3 h8)
      .rw[db (by simp),db h8,db (by simp),db h8,yN (m:={m with labels:=lp++[c.name]++lq}) hnn];exact uu (Jb _ b E g c N V nr er tag h pn qn m lp [] lq H hs nS hz.1 dY k3 (by omega))
     |
      cons y lm=>
      have:lm=[]:=by have:=dY.one;simpa using this
      subst this;rw[dd (by simp),dd (by simp)];exact nG (by omega) (I9 _ b E g c N V nr er tag h pn qn m lp [y] lq y H hs nS hz.1 dY k3)
    .rw[db k3];by_cases k4:c.k=4
     .rw[dd k4,hq];obtain⟨lp,lm,lq,dY⟩:=aab c.name hz.2.2;have aa:loT m.labels c.name=lp:=kJ dY;have ae:hiT m.labels c.name=lq:=ju dY;rw[aa,ae,dY.any];cases lm with
      |
       nil=>
       rw[db (by simp),db (by simp)];exact nG (by omega) (Jc _ b E g c N V nr er tag h pn qn m lp [] lq H hs nS hz.1 dY k4)
      |
       cons y lm=>
       have:lm=[]:=by have:=dY.one;simpa using this
       subst this;rw[dd (by simp),dd (by simp),yN (m:={m with labels:=lp++lq}) hnn];exact uu (Jd _ b E g c N V nr er tag h pn qn m lp [y] lq y H hs nS hz.1 dY k4)
     .rw[db k4];obtain⟨pp,pm,pq,U4⟩:=aau c.name (nV hp);rw[u7 U4];have:=Me n D b E g c N V nr er tag h pn qn m pp pm pq H hs nS hz.2.1 U4 hd hv ⟨k1,k2,k3,k4⟩;by_cases oe:(qI c.name c.v pp pq).length<=16
      .rw[dd oe]at this;rw[dd oe,dd oe,yN (m:={m with props:=qI c.name c.v pp pq}) hnn];exact uu this
      .rw[db oe]at this;rw[db oe,db oe];exact nG (by omega) this
def adO (n D:Nat)(b:Bool)(E:Nat)(g:Gr)(c:Ch)(N V:AV)(nr er:List LA)(tag:Nat->Tg)(h:Hp)(H:iF h tag E g N V nr er)(hg:GV g)(hb:NB g)(he:dr c=0)(hd:fB c.v<=D)(hv:gV c.v)(hk:5<c.k):
 Did h tag E (jc g c) (cW cx (n+2*D+10) b 108 [.pt E 0,.ag (dp c)] h):=by
 have dC:=pC he;have TD:=oM he;obtain⟨pe,me,qe,hs⟩:=UB c.a hg.se;obtain⟨pb,mb,qb,SR⟩:=LW c.b hg.sn;obtain⟨pc,mc,qc,SS⟩:=LW c.c hg.sn;have e1:loE g.cZ c.a=pe:=kJ hs;have e2:hiE g.cZ c.a=qe:=ju hs;have nS:=hg.nl;have Bu:=hg.el;have hq:n+2*D+10=(n+2*D+4)+6:=by omega
 have hm:((dQ g.nodes c.b).isSome && (dQ g.nodes c.c).isSome)=((!mb.isEmpty) && (!mc.isEmpty)):=by
  rw[eU SR,eU SS];cases mb<;>cases mc<;>rfl
 unfold jc;rw[db (by simp[he]),db (by omega)];by_cases k6:c.k=6
 .rw[dd k6,e1,e2,fm hs,hq];cases hn:me.head? with
  |
   some m=>
   have:=jS hn hs.one;subst this;exact nG (by omega) (Jf _ b E g c N V nr er tag h pe qe m H hs Bu nS k6)
  |
   none=>
   have:=ji hn;subst this;dsimp only;rw[hm];by_cases U5:((!mb.isEmpty) && (!mc.isEmpty))=false
   .rw[dd U5];exact nG (by omega) (Jh _ b E g c N V nr er tag h pe qe pb mb qb pc mc qc SR SS H hs Bu nS k6 U5)
   .rw[db U5];have hmt:((!mb.isEmpty) && (!mc.isEmpty))=true:=by
     cases q:((!mb.isEmpty) && (!mc.isEmpty))with
     |true=>rfl
     |false=>exact absurd q U5
    by_cases hl:4000<=g.cZ.length
    .rw[dd hl];exact nG (by omega) (Ji _ b E g c N V nr er tag h pe qe pb mb qb pc mc qc SR SS H hs Bu nS k6 hmt hl)
    .rw[db hl];exact uu (Jj _ b E g c N V nr er tag h pe qe pb mb qb pc mc qc SR SS H hs Bu nS k6 hmt dC (by omega))
 .rw[db k6,dd (by omega),fm hs];cases hn:me.head? with
  |
   none=>
   have:=ji hn;subst this;rw[hq];exact nG (by omega) (Jg _ b E g c N V nr er tag h pe qe H hs Bu nS k6)
  |
   some m=>
   have:=jS hn hs.one;subst this;have kM:m∈g.cZ:=by rw[hs.e];simp
   have hp:=hg.ep m kM;have hz:=jX hp;have hnn:=hb.e m kM;dsimp only;unfold IW;rw[e1,e2];by_cases k7:c.k=7
   .rw[dd k7,hq];exact uu (Mh _ b E g c N V nr er tag h pe qe m H hs Bu k7)
   .rw[db k7];obtain⟨pp,pm,pq,U4⟩:=aau c.name (nV hp);rw[u7 U4];have:=Mi n D b E g c N V nr er tag h pe qe m H hs Bu pp pm pq hz.2.1 U4 hd hv ⟨k6,k7⟩;by_cases oe:(qI c.name c.v pp pq).length<=16
    .rw[dd oe]at this;rw[dd oe,dd oe,Mj (m:={m with props:=qI c.name c.v pp pq}) hnn];exact uu this
    .rw[db oe]at this;rw[db oe,db oe];exact nG (by omega) this
end
section
attribute [local simp] zi XM
def sJ (C:Cx)(call:Bool->jH):List Code->St->Option (Out × St)
 | [],s=>some (.normal,s)
 |
  c::cs,s=>match dS C call c s with
  |some (.normal,s')=>sJ C call cs s'
  |r=>r
section
variable {C : Cx} {call : Bool -> FuncId -> LA -> Hp -> Option (AV × Hp)}
def Jk :∀(l:List Code),l.all (tv C)=true->A8 C call l=sJ C call l
 | [],_=>rfl
 |
  c::l,h=>by
  rw[Zn,Zh]at h
  funext s
  simp only[A8,sJ,Cj c h.1,Jk l h.2];rfl
def U6 (C:Cx)(call:Bool->jH)(x:Option (Out × St))(cs:List Code):Option (Out × St):=match x with|some (.normal,s)=>sJ C call cs s|r=>r
@[simp] def afI (s:St):sJ C call [] s=some (.normal,s):=rfl
@[simp] def ac5 (c:Code)(cs:List Code)(s:St):sJ C call (c::cs) s=U6 C call (dS C call c s) cs:=rfl
@[simp] def ab6 (s:St)(cs:List Code):U6 C call (some (.normal,s)) cs=sJ C call cs s:=rfl
@[simp] def afQ (s:St)(cs:List Code):U6 C call (some (.ret,s)) cs=some (.ret,s):=rfl
def Mk (res:List Rv)(id:Nat)(T:TypeId):Option (Out × St)->Option (AV × Hp)
 |some (.normal,s')=>(uo res s').map λr=>(r,s'.2)
 |some (.ret,s')=>(uo res s').map λr=>(r,s'.2)
 |
  some (.vE (.iface T' (.int k n)),s')=>match s'.2[id]? with
  |some (.row [_])=>if T=T' then(uo res (s'.1,s'.2.set id (.row [.sc (.int k n)]))).map λr=>(r,s'.2.set id (.row [.sc (.int k n)]))else none
  |_=>none
 |_=>none
def aav (C:Cx)(call:Bool->jH)(res:List Rv)(d:Tmp)(x:Operand)(T:TypeId)(rest:Code):Option (Out × St)->Option (AV × Hp)
 |some (.ret,s)=>(uo res s).map λr=>(r,s.2)
 |
  some (.normal,s)=>match ev C s.1 x with
  | .pt id 0=>if d<s.1.length then Mk res id T (dS C call rest (s.1.set d .ud,s.2))else none
  |_=>none
 |_=>none
@[simp] def ahw (res:List Rv)(d:Tmp)(x:Operand)(T:TypeId)(rest:Code)(s:St):aav C call res d x T rest (some (.ret,s))=(uo res s).map λr=>(r,s.2):=rfl
def agm (C:Cx)(call:Bool->jH)(res:List Rv)(d:Tmp)(T:TypeId)(rest:Code)(s:St):AV->Option (AV × Hp)
 | .pt id 0=>if d<s.1.length then Mk res id T (dS C call rest (s.1.set d .ud,s.2))else none
 |_=>none
@[simp] def ac4 (res:List Rv)(d:Tmp)(x:Operand)(T:TypeId)(rest:Code)(s:St):aav C call res d x T rest (some (.normal,s))=agm C call res d T rest s (ev C s.1 x):=rfl
@[simp] def aiT (res:List Rv)(d:Tmp)(T:TypeId)(rest:Code)(s:St)(id:Nat):agm C call res d T rest s (.pt id 0)=if d<s.1.length then Mk res id T (dS C call rest (s.1.set d .ud,s.2))else none:=rfl
@[simp] def acX (res:List Rv)(id:Nat)(T:TypeId)(s':St):Mk res id T (some (.normal,s'))=(uo res s').map λr=>(r,s'.2):=rfl
@[simp] def ahJ (res:List Rv)(id:Nat)(T:TypeId)(s':St):Mk res id T (some (.ret,s'))=(uo res s').map λr=>(r,s'.2):=rfl
def adP (res:List Rv)(id:Nat)(fr:LA)(h:Hp)(v:Value):Option fp->Option (AV × Hp)
 |some (.row [_])=>(uo res (fr,h.set id (.row [.sc v]))).map λr=>(r,h.set id (.row [.sc v]))
 |_=>none
@[simp] def ahR (res:List Rv)(id:Nat)(T:TypeId)(k:IntKind)(n:Int)(fr:LA)(h:Hp):Mk res id T (some (.vE (.iface T (.int k n)),(fr,h)))=adP res id fr h (.int k n) h[id]?:=by
 unfold Mk adP;simp only;split<;>simp_all
@[simp] def ahW (res:List Rv)(id:Nat)(fr:LA)(h:Hp)(v:Value)(x:AV):adP res id fr h v (some (.row [x]))=(uo res (fr,h.set id (.row [.sc v]))).map λr=>(r,h.set id (.row [.sc v])):=rfl
def U7 {f:FuncId}{fi:Fi}(hF:C.F f=some fi){args:LA}(hl:args.length<=fi.ntmps){pre:List Code}{d:Tmp}{x:Operand}{T:TypeId}{rest:Code}(hd:j5 C fi.body=some (pre,d,x,T,rest))(hp:pre.all (tv C)=true)(hr:tv C rest=true)(h:Hp):
 Hw C call f args h=aav C call fi.res d x T rest (sJ C call pre (args++List.replicate (fi.ntmps-args.length) .un,h)):=by
 unfold Hw;rw[hF];simp only[hl,if_true,hd,Jk pre hp,Cj rest hr];rfl
end
def U8 {f:FuncId}{args:LA}{n:Nat}(fi:Fi){pre:List Code}{d:Tmp}{x:Operand}{T:TypeId}{rest:Code}(hs:cx.ox f=none)(hi:cx.inl f=true)(hF:cx.F f=some fi)(hd:j5 cx fi.body=some (pre,d,x,T,rest))(hp:pre.all (tv cx)=true)(hr:tv cx rest=true)(hl:args.length<=fi.ntmps)(b:Bool)(h:Hp)(pT:kv f=true:=by decide):
 cW cx (n+1) b f args h=aav cx (cW cx n) fi.res d x T rest (sJ cx (cW cx n) pre (args++List.replicate (fi.ntmps-args.length) .un,h)):=by
 have e1:cx.ins f=none:=Bc pT;have e2:(if args.all d_ then cx.tE f args else none)=none:=by rw[show cx.tE f args=none from wV pT];split<;>rfl
 simp only[cW,hs,hi,if_true,e1,e2,hF,hd];exact U7 hF hl hd hp hr h
@[simp] def afL (c:Ch):(dp c).take 10=dp c:=Ys (by simp)
def Ml :Code->Code
 | .seq a _=>a
 |c=>c
def Gg :Code->Code
 | .seq _ b=>b
 |c=>c
def aaw (n D:Nat)(b:Bool)(E:Nat)(g:Gr)(c:Ch)(N V:AV)(nr er:List LA)(tag:Nat->Tg)(h:Hp)(H:iF h tag E g N V nr er)(hg:GV g)(hb:NB g)(hd:fB c.v<=D)(hv:gV c.v):
 ∃h',cW cx (n+2*D+11) b 54 [.pt E 0,.ag (dp c)] h=some (.sc (.int .i64 (jc g c).2),h')/\Je h tag h'/\((jc g c).2=0->Ci h tag E (jc g c).1 h'):=by
 have aa:=λbb hh=>ZT (n+1) D bb c hh hd hv
 rw[show n+1+2*D+9=n+2*D+10 by omega]at aa;rw[U8 (n:=n+2*D+10) (pre:=[Ml ((f54.body).getD .skip),Ml (Gg ((f54.body).getD .skip))]) (d:=11) (x:= .tmp 4) (T:=150) (rest:=Gg (Gg (Gg ((f54.body).getD .skip)))) ⟨f54.ntmps,(f54.body).getD .skip,[.cell 4 1 false]⟩ rfl (by kernel_rfl) (by kernel_rfl) (by kernel_rfl) (by kernel_rfl) (by kernel_rfl) (by simp[f54])];have xz:gW h tag (h++[.row (dp c)]++[.row [(0:Int)]]) (gr (gr tag h.length .none) (h.length+1) .none) (λ_=>False):=by
  have a:=gW.push h tag (.row (dp c)) .none (λ_=>False);have b:=gW.push (h++[.row (dp c)]) (gr tag h.length .none) (.row [(0:Int)]) .none (λ_=>False);rw[Zu]at b;exact a.trans b (λ_ q=>q) (λ_ q=>q)
 by_cases he:dr c=0
 .have H2:iF (h++[.row (dp c)]++[.row [(0:Int)]]) (gr (gr tag h.length .none) (h.length+1) .none) E g N V nr er:=H.gH (λid b h1 _=>xz id b h1 (λq=>q));have ht2:gr (gr tag h.length .none) (h.length+1) .none (h.length+1)= .none:=jj _ _ _;have yM:(h++[.row (dp c)]++[.row [(0:Int)]])[h.length+1]?=some (.row [(0:Int)]):=by rw[Zf (by simp)];simp
  have nd:∀(x:Int) (h3:Hp) (t3:Nat->Tg),Fo (h++[.row (dp c)]++[.row [(0:Int)]]) (gr (gr tag h.length .none) (h.length+1) .none) h3 t3->∀(G:Gr),Ci (h++[.row (dp c)]++[.row [(0:Int)]]) (gr (gr tag h.length .none) (h.length+1) .none) E G h3->Ci h tag E G (h3.set (h.length+1) (.row [x])):=by
   rintro x h3 t3 _ G ⟨t4,N',V',tf,u6,RG,FO⟩;have k:=FO (h.length+1) _ yM (by rw[ht2];simp);refine⟨t4,N',V',tf,u6,RG.gH (gW.set h3 t4 (h.length+1) _ (k.2.trans ht2)),λi bl q1 q2=>?_⟩;have il:=(Za.1 q1).1;have a:=xz i bl q1 (λq=>q);have a2:=FO i bl a.1 (by rw[a.2];exact q2);exact⟨by rw[Zq (by omega)];exact a2.1,a2.2.trans a.2⟩
  have hk:∀(F:FuncId),Did (h++[.row (dp c)]++[.row [(0:Int)]]) (gr (gr tag h.length .none) (h.length+1) .none) E (jc g c) (cW cx (n+2*D+10) true F [.pt E 0,.ag (dp c)] (h++[.row (dp c)]++[.row [(0:Int)]]))->
   ((jc g c).2=0/\∃h3,cW cx (n+2*D+10) true F [.pt E 0,.ag (dp c)] (h++[.row (dp c),.row [(0:Int)]])=some (.tp [],h3)/\h3[h.length+1]?=some (.row [(0:Int)])/\∀x:Int,Ci h tag E (jc g c).1 (h3.set (h.length+1) (.row [x])))\/
   (¬(jc g c).2=0/\∃h3,cW cx (n+2*D+10) true F [.pt E 0,.ag (dp c)] (h++[.row (dp c),.row [(0:Int)]])=some (.pn (.iface 150 (.int .i64 (jc g c).2)),h3)/\h3[h.length+1]?=some (.row [(0:Int)])/\∀x:Int,Je h tag (h3.set (h.length+1) (.row [x]))):=by
   intro F hD;unfold Did at hD;rw[Zp]at hD yM;split at hD
   .rename_i h0;obtain⟨h3,a1,hG⟩:=hD;refine .inl ⟨h0,h3,a1,?_,λx=>?_⟩
    .obtain⟨t4,N',V',tf,u6,RG,FO⟩:=hG;exact(FO (h.length+1) _ yM (by rw[ht2];simp)).1
    .have hG':=hG;obtain⟨t4,N',V',tf,u6,RG,FO⟩:=hG;rw[<-Zp]at FO hG';exact nd x h3 t4 FO _ hG'
   .rename_i h0;obtain⟨h3,a1,t4,FO⟩:=hD;refine .inr ⟨h0,h3,a1,(FO (h.length+1) _ yM (by rw[ht2];simp)).1,λx=>⟨t4,λi bl q1 q2=>?_⟩⟩;have il:=(Za.1 q1).1;have a:=xz i bl q1 (λq=>q);rw[Zp]at a;have a2:=FO i bl a.1 (by rw[a.2];exact q2);exact⟨by rw[Zq (by omega)];exact a2.1,a2.2.trans a.2⟩
  by_cases h5:c.k<=5
  .have hh:=hk _ (adN n D true E g c N V nr er _ _ H2 hg hb he hd hv h5);generalize jc g c=r at hh|-;rw[he]at aa;rcases hh with⟨h0,h3,a1,a2,a3⟩|⟨h0,h3,a1,a2,a3⟩
   .rw[h0];refine⟨h3.set (h.length+1) (.row [(0:Int)]),?_,let⟨t',_,_,_,_,_,q⟩:=a3 0;⟨t',q⟩,λ_=>a3 0⟩;have KX:∀y,(h3.set (h.length+1) y)[h.length+1]?=some y:=λy=>Zj (Za.1 a2).1
    simp[f54,Ml,Gg,aa,da,h5,a1,a2,KX]
   .refine⟨h3.set (h.length+1) (.row [r.2]),?_,a3 _,λq=>absurd q h0⟩;have KX:∀y,(h3.set (h.length+1) y)[h.length+1]?=some y:=λy=>Zj (Za.1 a2).1
    simp[f54,Ml,Gg,aa,h5,a1,a2,KX]
  .have hh:=hk _ (adO n D true E g c N V nr er _ _ H2 hg hb he hd hv (by omega));generalize jc g c=r at hh|-;rw[he]at aa;rcases hh with⟨h0,h3,a1,a2,a3⟩|⟨h0,h3,a1,a2,a3⟩
   .rw[h0];refine⟨h3.set (h.length+1) (.row [(0:Int)]),?_,let⟨t',_,_,_,_,_,q⟩:=a3 0;⟨t',q⟩,λ_=>a3 0⟩;have KX:∀y,(h3.set (h.length+1) y)[h.length+1]?=some y:=λy=>Zj (Za.1 a2).1
    simp[f54,Ml,Gg,aa,da,h5,a1,a2,KX]
   .refine⟨h3.set (h.length+1) (.row [r.2]),?_,a3 _,λq=>absurd q h0⟩;have KX:∀y,(h3.set (h.length+1) y)[h.length+1]?=some y:=λy=>Zj (Za.1 a2).1
    simp[f54,Ml,Gg,aa,h5,a1,a2,KX]
 .have e:jc g c=(iq,dr c):=by unfold jc;rw[dd he]
  rw[e];have ajU:gW h tag (h++[.row (dp c)]++[.row [.sc (.int .i64 (dr c))]]) (gr (gr tag h.length .none) (h.length+1) .none) (λ_=>False):=by
   have a:=gW.push h tag (.row (dp c)) .none (λ_=>False);have b:=gW.push (h++[.row (dp c)]) (gr tag h.length .none) (.row [.sc (.int .i64 (dr c))]) .none (λ_=>False);rw[Zu]at b;exact a.trans b (λ_ q=>q) (λ_ q=>q)
  refine⟨(h++[.row (dp c)]++[.row [.sc (.int .i64 (dr c))]]),?_,⟨_,λi bl q1 q2=>ajU i bl q1 (λq=>q)⟩,λq=>absurd q he⟩;generalize dr c=x at aa he;simp[f54,Ml,Gg,aa,he,da]
end
section
attribute [local simp] eE zi XM
def ED (f:FuncId)(sz:Nat):Prop:=∀(n:Nat) (b:Bool) (cY:List LA) (z:Bool) (h:Hp),cY.length<=1000000->(∀r∈cY,r.length=sz)->
 cW cx (n+1) b f [.ls sz cY z] h=some (if cY.isEmpty then(.ls sz [] true,h)else(.sl (h.length+1) sz 0 cY.length false,h++[.dead,.row cY.flatten]))
def Mm :ED 102 1:=λn b cY z h hl hw=>by
 cases cY with
 |
  nil=>
  have e1:cx.ox 102=none:=by kernel_rfl
  have e2:cx.inl 102=true:=by kernel_rfl
  have e3:cx.ins 102=none:=by kernel_rfl
  have e4:(if[AV.ls 1 [] z].all d_ then cx.tE 102 [.ls 1 [] z]else none)=some (.ls 1 [] true):=rfl;simp only[cW,e1,e2,e3,e4,if_true];rfl
 |
  cons r cY=>
  have e1:cx.ox 102=none:=by kernel_rfl
  have e2:cx.inl 102=true:=by kernel_rfl
  have e3:cx.ins 102=none:=by kernel_rfl
  have e4:(if[AV.ls 1 (r::cY) z].all d_ then cx.tE 102 [.ls 1 (r::cY) z]else none)=none:=rfl;have e5:cx.F 102=some ⟨f102.ntmps,(f102.body).getD .skip,[.tmp 2]⟩:=by kernel_rfl
  have e6:(j5 cx ((f102.body).getD .skip)).isNone=true:=by kernel_rfl
  have ny:cW cx (n+1) b 102 [.ls 1 (r::cY) z] h=eQ [.tmp 2] (dS cx (cW cx n) ((f102.body).getD .skip) ([.ls 1 (r::cY) z]++List.replicate (f102.ntmps-1) .un,h)):=by
   simp only[cW,e1,e2,e3,e4,e5,if_true,Yd.1 e6];exact kh e5 (by kernel_rfl) (by simp[f102]) h
  rw[ny];have c0:cY.length+1<=maxLen:=by unfold maxLen;simp at hl;omega
  have c1:(cY.length+1)*1000<=140737488355328:=by simp at hl;omega
  have c3:¬cY.length+1=0:=by omega
  have c4:(cY.length+1)*16<=140737488355328:=by omega
  simp[f102,tF,jL,c0,c4]
def Jl :ED 103 6:=λn b cY z h hl hw=>by
 cases cY with
 |
  nil=>
  have e1:cx.ox 103=none:=by kernel_rfl
  have e2:cx.inl 103=true:=by kernel_rfl
  have e3:cx.ins 103=none:=by kernel_rfl
  have e4:(if[AV.ls 6 [] z].all d_ then cx.tE 103 [.ls 6 [] z]else none)=some (.ls 6 [] true):=rfl;simp only[cW,e1,e2,e3,e4,if_true];rfl
 |
  cons r cY=>
  have e1:cx.ox 103=none:=by kernel_rfl
  have e2:cx.inl 103=true:=by kernel_rfl
  have e3:cx.ins 103=none:=by kernel_rfl
  have e4:(if[AV.ls 6 (r::cY) z].all d_ then cx.tE 103 [.ls 6 (r::cY) z]else none)=none:=rfl;have e5:cx.F 103=some ⟨f103.ntmps,(f103.body).getD .skip,[.tmp 2]⟩:=by kernel_rfl
  have e6:(j5 cx ((f103.body).getD .skip)).isNone=true:=by kernel_rfl
  have ny:cW cx (n+1) b 103 [.ls 6 (r::cY) z] h=eQ [.tmp 2] (dS cx (cW cx n) ((f103.body).getD .skip) ([.ls 6 (r::cY) z]++List.replicate (f103.ntmps-1) .un,h)):=by
   simp only[cW,e1,e2,e3,e4,e5,if_true,Yd.1 e6];exact kh e5 (by kernel_rfl) (by simp[f103]) h
  rw[ny];have c0:cY.length+1<=maxLen:=by unfold maxLen;simp at hl;omega
  have c1:(cY.length+1)*1000<=140737488355328:=by simp at hl;omega
  have c3:¬cY.length+1=0:=by omega
  have c4:(cY.length+1)*80<=140737488355328:=by omega
  simp[f103,tF,jL,c0,c4]
def U9 :ED 101 3:=λn b cY z h hl hw=>by
 cases cY with
 |
  nil=>
  have e1:cx.ox 101=none:=by kernel_rfl
  have e2:cx.inl 101=true:=by kernel_rfl
  have e3:cx.ins 101=none:=by kernel_rfl
  have e4:(if[AV.ls 3 [] z].all d_ then cx.tE 101 [.ls 3 [] z]else none)=some (.ls 3 [] true):=rfl;simp only[cW,e1,e2,e3,e4,if_true];rfl
 |
  cons r cY=>
  have e1:cx.ox 101=none:=by kernel_rfl
  have e2:cx.inl 101=true:=by kernel_rfl
  have e3:cx.ins 101=none:=by kernel_rfl
  have e4:(if[AV.ls 3 (r::cY) z].all d_ then cx.tE 101 [.ls 3 (r::cY) z]else none)=none:=rfl;have e5:cx.F 101=some ⟨f101.ntmps,(f101.body).getD .skip,[.tmp 2]⟩:=by kernel_rfl
  have e6:(j5 cx ((f101.body).getD .skip)).isNone=true:=by kernel_rfl
  have ny:cW cx (n+1) b 101 [.ls 3 (r::cY) z] h=eQ [.tmp 2] (dS cx (cW cx n) ((f101.body).getD .skip) ([.ls 3 (r::cY) z]++List.replicate (f101.ntmps-1) .un,h)):=by
   simp only[cW,e1,e2,e3,e4,e5,if_true,Yd.1 e6];exact kh e5 (by kernel_rfl) (by simp[f101]) h
  rw[ny];have c0:cY.length+1<=maxLen:=by unfold maxLen;simp at hl;omega
  have c1:(cY.length+1)*1000<=140737488355328:=by simp at hl;omega
  have c3:¬cY.length+1=0:=by omega
  have c4:(cY.length+1)*56<=140737488355328:=by omega
  simp[f101,tF,jL,c0,c4]
def U_ :ED 104 5:=λn b cY z h hl hw=>by
 cases cY with
 |
  nil=>
  have e1:cx.ox 104=none:=by kernel_rfl
  have e2:cx.inl 104=true:=by kernel_rfl
  have e3:cx.ins 104=none:=by kernel_rfl
  have e4:(if[AV.ls 5 [] z].all d_ then cx.tE 104 [.ls 5 [] z]else none)=some (.ls 5 [] true):=rfl;simp only[cW,e1,e2,e3,e4,if_true];rfl
 |
  cons r cY=>
  have e1:cx.ox 104=none:=by kernel_rfl
  have e2:cx.inl 104=true:=by kernel_rfl
  have e3:cx.ins 104=none:=by kernel_rfl
  have e4:(if[AV.ls 5 (r::cY) z].all d_ then cx.tE 104 [.ls 5 (r::cY) z]else none)=none:=rfl;have e5:cx.F 104=some ⟨f104.ntmps,(f104.body).getD .skip,[.tmp 2]⟩:=by kernel_rfl
  have e6:(j5 cx ((f104.body).getD .skip)).isNone=true:=by kernel_rfl
  have ny:cW cx (n+1) b 104 [.ls 5 (r::cY) z] h=eQ [.tmp 2] (dS cx (cW cx n) ((f104.body).getD .skip) ([.ls 5 (r::cY) z]++List.replicate (f104.ntmps-1) .un,h)):=by
   simp only[cW,e1,e2,e3,e4,e5,if_true,Yd.1 e6];exact kh e5 (by kernel_rfl) (by simp[f104]) h
  rw[ny];have c0:cY.length+1<=maxLen:=by unfold maxLen;simp at hl;omega
  have c1:(cY.length+1)*1000<=140737488355328:=by simp at hl;omega
  have c3:¬cY.length+1=0:=by omega
  have c4:(cY.length+1)*64<=140737488355328:=by omega
  simp[f104,tF,jL,c0,c4]
def rG {f:FuncId}{sz:Nat}(hC:ED f sz)(h:Hp)(tag:Nat->Tg)(tg:Tg)(cY:List LA)(z:Bool)(hl:cY.length<=1000000)(hw:∀r∈cY,r.length=sz):
 ∃x h' eO,(∀n b,cW cx (n+1) b f [.ls sz cY z] h=some (x,h'))/\js h' eO tg sz cY x/\gW h tag h' eO (λ_=>False):=by
 cases cY with
 |nil=>exact⟨.ls sz [] true,h,tag,λn b=>hC n b [] z h hl hw,.inl ⟨rfl,.inl rfl⟩,gW.refl _ _ _⟩
 |
  cons r cY=>
  have a:=gW.push h tag .dead .none (λ_=>False);have b:=gW.push (h++[.dead]) (gr tag h.length .none) (.row (r::cY).flatten) tg (λ_=>False);rw[Zp,Zu]at b;have sA:(r::cY).flatten.length=(r::cY).length*sz:=dH _ hw;refine⟨_,_,_,λn b=>hC n b (r::cY) z h hl hw,.inr ⟨h.length+1,(r::cY).flatten,rfl,?_,?_,?_,?_⟩,a.trans b (λ_ q=>q) (λ_ q=>q)⟩
  .rw[Zf (by simp)];simp
  .rw[<-sA,Yz]
  .rw[sA];exact Yt _
  .exact jj _ _ _
end
section
attribute [local simp] zi XM
@[simp] def ahF (m:Nd):(eo m).length=3:=rfl
@[simp] def ahy (m:Ed):(eY m).length=5:=rfl
@[simp] def ajc (m:Nd)(h:1< (eo m).length):(eo m)[1]'h= .ls 1 (gP m.labels) false:=rfl
@[simp] def aiw (m:Nd)(h:2< (eo m).length):(eo m)[2]'h= .ls 6 (iy m.props) false:=rfl
@[simp] def aiR (m:Ed)(h:4< (eY m).length):(eY m)[4]'h= .ls 6 (iy m.props) false:=rfl
@[simp] def aiP (m:Nd):(eo m)[1]?=some (.ls 1 (gP m.labels) false):=rfl
@[simp] def aiy (m:Nd):(eo m)[2]?=some (.ls 6 (iy m.props) false):=rfl
@[simp] def aif (m:Ed):(eY m)[4]?=some (.ls 6 (iy m.props) false):=rfl
@[simp] def ahz (a b c:AV)(m:Nd):da [a,b,c] 0 (eo m)=eo m:=by simp[da]
@[simp] def ah7 (a b c d e:AV)(m:Ed):da [a,b,c,d,e] 0 (eY m)=eY m:=by simp[da]
structure CpN (h:Hp)(tag:Nat->Tg)(g:Gr)(N:AV)(i:Nat)(hp:Hp)(tt:Nat->Tg):Prop where
 f:Fo h tag hp tt
 o:hp[h.length+2]?=some (.row [N,gE g.cZ,g.nn,g.ne])
 ot:tt (h.length+2)= .none
 b:hp[h.length]?=some (.row (dn g))
 bt:tt h.length= .none
 r:hp[h.length+1]?=some (.row [(),(),(0:Int),(0:Int)])
 rt:tt (h.length+1)= .none
 n:∃r1,lP (Dv hp tt) (g.nodes.take i) r1/\js hp tt .nodes 3 (r1++(lU g.nodes).drop i) N
def Va {l:List Nd}{i:Nat}{m:Nd}(h:l[i]?=some m):(lU l).drop i=[eo m]++(lU l).drop (i+1):=by
 have:(lU l)[i]?=some (eo m):=by rw[mM,h];rfl
 obtain⟨k,e⟩:=Za.1 this;rw[Zm k,e];rfl
def Ck {α:Type}{l:List α}{i:Nat}{m:α}(h:l[i]?=some m):l.take (i+1)=l.take i++[m]:=by
 rw[Yx,h];rfl
def Vb {h:Hp}{tag:Nat->Tg}{g:Gr}{N:AV}{i:Nat}{hp:Hp}{tt:Nat->Tg}(H:CpN h tag g N i hp tt){m:Nd}(hm:g.nodes[i]?=some m)(C_:m.labels.length<=1000000)(pT:m.props.length<=1000000):
 ∃id cs L P lW SU tt4,N= .sl id 3 0 g.nodes.length false/\(∀y,(hp++y)[id]?=some (.row cs))/\hp[id]?=some (.row cs)/\(cs.drop (i*3)).take 3=eo m/\i*3+3<=cs.length/\
  (∀n b,cW cx (n+1) b 102 [iK m.labels false] (hp++[.row (eo m)])=some (L,lW))/\lW[id]?=some (.row cs)/\lW[h.length+2]?=some (.row [N,gE g.cZ,g.nn,g.ne])/\lW[hp.length]?=some (.row (eo m))/\
  (∀n b,cW cx (n+1) b 103 [iE m.props false] (lW.set id (.row (da cs (i*3+1) [L])))=some (P,SU))/\SU[id]?=some (.row (da cs (i*3+1) [L]))/\SU[h.length+2]?=some (.row [N,gE g.cZ,g.nn,g.ne])/\
  (lW.set id (.row (da cs (i*3+1) [L])))[h.length+2]?=some (.row [N,gE g.cZ,g.nn,g.ne])/\(lW.set id (.row (da cs (i*3+1) [L])))[hp.length]?=some (.row (eo m))/\
  (∀v,L≠ .pn v)/\(∀v,P≠ .pn v)/\cls L=some [L]/\cls P=some [P]/\
  CpN h tag g N (i+1) (SU.set id (.row (da (da cs (i*3+1) [L]) (i*3+2) [P]))) tt4:=by
 obtain⟨r1,ha,ho⟩:=H.n;have gG:=(Za.1 hm).1;rw[Va hm]at ho;have AG:r1.length=i:=by rw[ha.1];simp;omega
 have hw:∀y∈r1++[eo m]++(lU g.nodes).drop (i+1),y.length=3:=λy hy=>by
  rw[Zp,Ya,Ya]at hy;rcases hy with hy|hy|hy
  .exact ha.all (λa r q=>q.len) y hy
  .rw[List.mem_singleton]at hy;rw[hy];rfl
  .exact(AB g.nodes).1 y (List.mem_of_mem_drop hy)
 rw[<-Zp]at ho;have cU:(r1++[eo m]++(lU g.nodes).drop (i+1)).length=g.nodes.length:=by simp[AG,fJ];omega
 obtain⟨id,cs,hN,dC,rT,rR,fq,zE⟩:=i_ ho hw;rw[cU]at hN;have jD:=(Za.1 dC).1;have hi3:i*3+3<=cs.length:=by rw[cU]at fq;omega
 have fX:(cs.drop (i*3)).take 3=eo m:=by
  have hh:(r1++[eo m]++(lU g.nodes).drop (i+1))[i]?=some (eo m):=by
   rw[Zp,Zf (by omega),AG,Nat.sub_self];rfl
  obtain⟨qO,cs',a1,a2,_,a4,_⟩:=Gf ho hw hh;rw[hN,cU]at a1;simp only[AV.sl.injEq,and_true]at a1;subst a1;rw[dC]at a2;cases a2;exact a4
 have p1:=gW.push hp tt (.row (eo m)) .none (λ_=>False);obtain⟨L,lW,t2,c1,o1,q1⟩:=rG Mm (hp++[.row (eo m)]) (gr tt hp.length .none) (.LR m.id) (gP m.labels) false (by rw[dG];exact C_) (jK _).1;have F2:=p1.trans q1 (S2:=λ_=>False) (λ_ q=>q) (λ_ q=>q);have k2:=F2 id _ dC (λq=>q);have lZ:=F2 _ _ H.o (λq=>q);have kb2:=q1 hp.length (.row (eo m)) (by simp) (λq=>q);have S3:gW lW t2 (lW.set id (.row (da cs (i*3+1) [L]))) t2 (λt=>t= .nodes):=gW.set lW t2 id _ (k2.2.trans rT);have tb2:t2 hp.length= .none:=kb2.2.trans (jj _ _ _);have kb3:=S3 hp.length _ kb2.1 (by rw[tb2];simp);have kO3:=S3 _ _ lZ.1 (by rw[lZ.2,H.ot];simp);have hl2:=(Za.1 k2.1).1;obtain⟨P,SU,t4,c2,o2,q2⟩:=rG Jl (lW.set id (.row (da cs (i*3+1) [L]))) t2 (.prop m.id) (iy m.props) false (by rw[dW];exact pT) (jr _).1;have k4:=q2 id _ (Zj hl2) (λq=>q);have kO4:=q2 _ _ kO3.1 (λq=>q);have S5:gW SU t4 (SU.set id (.row (da (da cs (i*3+1) [L]) (i*3+2) [P]))) t4 (λt=>t= .nodes):=gW.set SU t4 id _ (k4.2.trans (k2.2.trans rT));have F5:gW hp tt (SU.set id (.row (da (da cs (i*3+1) [L]) (i*3+2) [P]))) t4 (λt=>t= .nodes):=
  ((F2.trans S3 (S2:=λt=>t= .nodes) (λ_ q=>q.elim) (λ_ q=>q)).trans q2 (S2:=λt=>t= .nodes) (λ_ q=>q) (λ_ q=>q.elim)).trans S5 (λ_ q=>q) (λ_ q=>q)
 have Vc:=sI (o:=1) (vs:=[L]) (r':=[.sc (.int .i64 m.id),L,iE m.props false]) (tag:=t2) (tg:= .nodes) k2.1 rR fq (k2.2.trans rT) hw (by simp) (by simp[da,eo]);rw[AG]at Vc;have oD:∀y∈r1++[[.sc (.int .i64 m.id),L,iE m.props false]]++(lU g.nodes).drop (i+1),y.length=3:=λy hy=>by
  rw[Zp,Ya,Ya]at hy;rcases hy with hy|hy|hy
  .exact hw y (by simp[hy])
  .rw[List.mem_singleton]at hy;rw[hy];rfl
  .exact hw y (by simp[hy])
 have acj:=Vc.gH q2 (λq=>q);have nP:(r1++[[.sc (.int .i64 m.id),L,iE m.props false]]++(lU g.nodes).drop (i+1)).length=g.nodes.length:=by simp[AG,fJ];omega
 rw[cU,<-nP]at acj;obtain⟨qO,cs',e1,e2,e3,e4,e5,_⟩:=i_ acj oD;simp only[AV.sl.injEq,and_true]at e1;subst e1;rw[k4.1]at e2;cases e2;have agn:=sI (o:=2) (vs:=[P]) (r':=[.sc (.int .i64 m.id),L,P]) (tag:=t4) (tg:= .nodes) k4.1 e4 e5 e3 oD (by simp) (by simp[da]);rw[AG,nP]at agn;refine⟨id,cs,L,P,lW,SU,t4,hN,λy=>by rw[Zd jD];exact dC,dC,fX,hi3,c1,k2.1,lZ.1,kb2.1,c2,k4.1,kO4.1,kO3.1,kb3.1,o1.np,o2.np,o1.cls,o2.cls,{
  f:=λj bl a1 a2=>by
   have k:=H.f j bl a1 a2;have hn:tt j= .none:=k.2.trans (Classical.not_not.1 a2);have k5:=F5 j bl k.1 (by rw[hn];simp);exact⟨k5.1,k5.2.trans k.2⟩
  o:=(F5 _ _ H.o (by rw[H.ot];simp)).1
  ot:=(F5 _ _ H.o (by rw[H.ot];simp)).2.trans H.ot
  b:=(F5 _ _ H.b (by rw[H.bt];simp)).1
  bt:=(F5 _ _ H.b (by rw[H.bt];simp)).2.trans H.bt
  r:=(F5 _ _ H.r (by rw[H.rt];simp)).1
  rt:=(F5 _ _ H.r (by rw[H.rt];simp)).2.trans H.rt
  n:=⟨r1++[[.sc (.int .i64 m.id),L,P]],by
   rw[Ck hm];exact(ha.imp λa _ r q=>q.gH F5 (by simp) (by simp)).app (lP.one ⟨L,P,rfl,((o1.gH S3 (by simp)).gH q2 (λq=>q)).gH S5 (by simp),o2.gH S5 (by simp)⟩),by rw[hN];exact agn⟩}⟩
structure CpE (h:Hp)(tag:Nat->Tg)(g:Gr)(N V:AV)(nr:List LA)(i:Nat)(hp:Hp)(tt:Nat->Tg):Prop where
 f:Fo h tag hp tt
 o:hp[h.length+2]?=some (.row [N,V,g.nn,g.ne])
 ot:tt (h.length+2)= .none
 r:hp[h.length+1]?=some (.row [(),(),(0:Int),(0:Int)])
 rt:tt (h.length+1)= .none
 ns:js hp tt .nodes 3 nr N
 na:lP (Dv hp tt) g.nodes nr
 n:∃r1,lP (FY hp tt) (g.cZ.take i) r1/\js hp tt .cZ 5 (r1++(mA g.cZ).drop i) V
def Vd {l:List Ed}{i:Nat}{m:Ed}(h:l[i]?=some m):(mA l).drop i=[eY m]++(mA l).drop (i+1):=by
 have:(mA l)[i]?=some (eY m):=by rw[mN,h];rfl
 obtain⟨k,e⟩:=Za.1 this;rw[Zm k,e];rfl
def Ve {h:Hp}{tag:Nat->Tg}{g:Gr}{N V:AV}{nr:List LA}{i:Nat}{hp:Hp}{tt:Nat->Tg}(H:CpE h tag g N V nr i hp tt){m:Ed}(hm:g.cZ[i]?=some m)(pT:m.props.length<=1000000):
 ∃id cs P lW t2,V= .sl id 5 0 g.cZ.length false/\(∀y,(hp++y)[id]?=some (.row cs))/\hp[id]?=some (.row cs)/\(cs.drop (i*5)).take 5=eY m/\i*5+5<=cs.length/\
  (∀n b,cW cx (n+1) b 103 [iE m.props false] (hp++[.row (eY m)])=some (P,lW))/\lW[id]?=some (.row cs)/\lW[h.length+2]?=some (.row [N,V,g.nn,g.ne])/\
  (∀v,P≠ .pn v)/\cls P=some [P]/\CpE h tag g N V nr (i+1) (lW.set id (.row (da cs (i*5+4) [P]))) t2:=by
 obtain⟨r1,ha,ho⟩:=H.n;have gG:=(Za.1 hm).1;rw[Vd hm]at ho;have AG:r1.length=i:=by rw[ha.1];simp;omega
 have hw:∀y∈r1++[eY m]++(mA g.cZ).drop (i+1),y.length=5:=λy hy=>by
  rw[Zp,Ya,Ya]at hy;rcases hy with hy|hy|hy
  .exact ha.all (λa r q=>q.len) y hy
  .rw[List.mem_singleton]at hy;rw[hy];rfl
  .exact(AD g.cZ).1 y (List.mem_of_mem_drop hy)
 rw[<-Zp]at ho;have cU:(r1++[eY m]++(mA g.cZ).drop (i+1)).length=g.cZ.length:=by simp[AG,fU];omega
 obtain⟨id,cs,hN,dC,rT,rR,fq,zE⟩:=i_ ho hw;rw[cU]at hN;have jD:=(Za.1 dC).1;have hi3:i*5+5<=cs.length:=by rw[cU]at fq;omega
 have fX:(cs.drop (i*5)).take 5=eY m:=by
  have hh:(r1++[eY m]++(mA g.cZ).drop (i+1))[i]?=some (eY m):=by
   rw[Zp,Zf (by omega),AG,Nat.sub_self];rfl
  obtain⟨qO,cs',a1,a2,_,a4,_⟩:=Gf ho hw hh;rw[hN,cU]at a1;simp only[AV.sl.injEq,and_true]at a1;subst a1;rw[dC]at a2;cases a2;exact a4
 have p1:=gW.push hp tt (.row (eY m)) .none (λ_=>False);obtain⟨P,lW,t2,c1,o1,q1⟩:=rG Jl (hp++[.row (eY m)]) (gr tt hp.length .none) (.Eu m.id) (iy m.props) false (by rw[dW];exact pT) (jr _).1;have F2:=p1.trans q1 (S2:=λ_=>False) (λ_ q=>q) (λ_ q=>q);have k2:=F2 id _ dC (λq=>q);have lZ:=F2 _ _ H.o (λq=>q);have S3:gW lW t2 (lW.set id (.row (da cs (i*5+4) [P]))) t2 (λt=>t= .cZ):=gW.set lW t2 id _ (k2.2.trans rT);have F5:gW hp tt (lW.set id (.row (da cs (i*5+4) [P]))) t2 (λt=>t= .cZ):=F2.trans S3 (λ_ q=>q.elim) (λ_ q=>q);have Vc:=sI (o:=4) (vs:=[P]) (r':=[.sc (.int .i64 m.id),.sc (.int .i64 m.src),.sc (.int .i64 m.dst),.sc (.string m.type),P]) (tag:=t2) (tg:= .cZ) k2.1 rR fq (k2.2.trans rT) hw (by simp) (by simp[da,eY]);rw[AG,cU]at Vc;refine⟨id,cs,P,lW,t2,hN,λy=>by rw[Zd jD];exact dC,dC,fX,hi3,c1,k2.1,lZ.1,o1.np,o1.cls,{
  f:=λj bl a1 a2=>by
   have k:=H.f j bl a1 a2;have hn:tt j= .none:=k.2.trans (Classical.not_not.1 a2);have k5:=F5 j bl k.1 (by rw[hn];simp);exact⟨k5.1,k5.2.trans k.2⟩
  o:=(F5 _ _ H.o (by rw[H.ot];simp)).1
  ot:=(F5 _ _ H.o (by rw[H.ot];simp)).2.trans H.ot
  r:=(F5 _ _ H.r (by rw[H.rt];simp)).1
  rt:=(F5 _ _ H.r (by rw[H.rt];simp)).2.trans H.rt
  ns:=H.ns.gH F5 (by simp)
  na:=H.na.imp λa _ r q=>q.gH F5 (by simp) (by simp)
  n:=⟨r1++[[.sc (.int .i64 m.id),.sc (.int .i64 m.src),.sc (.int .i64 m.dst),.sc (.string m.type),P]],by
   rw[Ck hm];exact(ha.imp λa _ r q=>q.gH F5 (by simp)).app (lP.one ⟨P,rfl,o1.gH S3 (by simp)⟩),by rw[hN];exact Vc⟩}⟩
def Vf (h:Hp)(tag:Nat->Tg)(g:Gr)(r:AV)(h':Hp):Prop:=∃N V eO nr er,r= .ag [N,V,g.nn,g.ne]/\js h' eO .nodes 3 nr N/\js h' eO .cZ 5 er V/\lP (Dv h' eO) g.nodes nr/\lP (FY h' eO) g.cZ er/\Fo h tag h' eO
def Vg (n:Nat)(b:Bool)(g:Gr)(tag:Nat->Tg)(h:Hp)(nS:g.nodes.length<=2000)(Bu:g.cZ.length<=4000)(C_:∀m∈g.nodes,m.labels.length<=1000000/\m.props.length<=1000000)(pT:∀m∈g.cZ,m.props.length<=1000000):
 ∃r h',cW cx (n+2) b 53 [.ag (dn g)] h=some (r,h')/\Vf h tag g r h':=by
 rw[EA (n:=n+1) (λi=>i==6||(i==7||i==13)) ⟨f53.ntmps,(f53.body).getD .skip,[.cell 2 4 true]⟩ rfl (by kernel_rfl) (by kernel_rfl) (by kernel_rfl) (by kernel_rfl) (by simp[f53])];have Mg:gW h tag (h++[.row (dn g),.row [(),(),(0:Int),(0:Int)],.row (dn g)]) (gr (gr (gr tag h.length .none) (h.length+1) .none) (h.length+2) .none) (λ_=>False):=by
  have a:=gW.push h tag (.row (dn g)) .none (λ_=>False);have b:=gW.push (h++[.row (dn g)]) (gr tag h.length .none) (.row [(),(),(0:Int),(0:Int)]) .none (λ_=>False);have c:=gW.push (h++[.row (dn g)]++[.row [(),(),(0:Int),(0:Int)]]) (gr (gr tag h.length .none) (h.length+1) .none) (.row (dn g)) .none (λ_=>False);simp only[Zu,Yw,Xa,Xb,Zp,Zv,Zw]at b c;exact(a.trans b (S2:=λ_=>False) (λ_ q=>q) (λ_ q=>q)).trans c (λ_ q=>q) (λ_ q=>q)
 obtain⟨N,h1,t1,c1,o1,q1⟩:=rG U9 (h++[.row (dn g),.row [(),(),(0:Int),(0:Int)],.row (dn g)]) (gr (gr (gr tag h.length .none) (h.length+1) .none) (h.length+2) .none) .nodes (lU g.nodes) false (by rw[fJ];omega) (AB _).1;have kB:=q1 h.length (.row (dn g)) (by rw[Zf (by simp)];simp) (λq=>q);have kR:=q1 (h.length+1) (.row [(),(),(0:Int),(0:Int)]) (by rw[Zf (by simp)];simp) (λq=>q);have kO:=q1 (h.length+2) (.row (dn g)) (by rw[Zf (by simp)];simp) (λq=>q);have tB:t1 h.length= .none:=kB.2.trans (by rw[xB (by omega),xB (by omega),jj]);have tR:t1 (h.length+1)= .none:=kR.2.trans (by rw[xB (by omega),jj]);have tO:t1 (h.length+2)= .none:=kO.2.trans (jj _ _ _);have frO:=gW.set h1 t1 (h.length+2) (.row [N,gE g.cZ,g.nn,g.ne]) (S:=λt=>t= .none) tO;have lO:=(Za.1 kO.1).1;have F0:=Mg.trans q1 (S2:=λ_=>False) (λ_ q=>q) (λ_ q=>q);have C0:CpN h tag g N 0 (h1.set (h.length+2) (.row [N,gE g.cZ,g.nn,g.ne])) t1:={
  f:=λj bl a1 a2=>by
   have k:=F0 j bl a1 (λq=>q);have jl:=(Za.1 a1).1;exact⟨by rw[Zq (by omega)];exact k.1,k.2⟩
  o:=Zj lO
  ot:=tO
  b:=by rw[Zq (by omega)];exact kB.1
  bt:=tB
  r:=by rw[Zq (by omega)];exact kR.1
  rt:=tR
  n:=⟨[],⟨by simp,λi a r ha=>by simp at ha⟩,by simpa using o1.gH frO (by simp)⟩}
 have hN:=k_ o1;rw[fJ]at hN;have cN:=o1.cls;unfold cls at cN;have eN:=xA o1;have qN:=oG (λv=>o1.np v)
 have qN':=NZ (λv=>o1.np v)
 have hO1:=kO.1;have LN:∀y,(h1.set (h.length+2) y)[h.length+2]?=some y:=λy=>Zj lO
 obtain⟨N0,hN0⟩:∃N0,N0=N:=⟨N,rfl⟩;simp only[dn,gh,gE]at c1 hO1;rcases hN with⟨h0,rfl⟩|⟨h0,rfl⟩|⟨idN,rfl⟩
 all_goals
  simp[f53,dn,gh,gE,c1,hO1,LN,da,qN];refine mS (C:=cx) (G:=λr=>∃r0 h',eQ _ (qw _ _ _ (dL _ r) _)=some (r0,h')/\Vf _ _ _ r0 h')
   (λi s=>i<=g.nodes.length/\s.1.length=60/\gt s.1 1= .pt h.length 0/\gt s.1 2= .pt (h.length+1) 0/\gt s.1 3= .pt (h.length+2) 0/\gt s.1 14=N0/\gt s.1 15=g.nodes.length/\gt s.1 16=i/\∃tt,CpN h tag g N0 i s.2 tt)
   (λo s=>o= .exit 0/\s.1.length=60/\gt s.1 1= .pt h.length 0/\gt s.1 2= .pt (h.length+1) 0/\gt s.1 3= .pt (h.length+2) 0/\∃tt,CpN h tag g N0 g.nodes.length s.2 tt) g.nodes.length (by simp;omega) ?_ ?_ ?_
  .refine⟨by omega,rfl,rfl,rfl,rfl,hN0.symm,?_,rfl,_,by rw[hN0];exact C0⟩
   first|rfl|(rw[h0];rfl)
  .rintro i fr hp n_ ⟨rE,cU,g1,g2,g3,g14,g15,g16,tt,HC⟩;simp only at cU g1 g2 g3 g14 g15 g16 HC;by_cases hi:i<g.nodes.length
   .obtain⟨m,hm⟩:=eA hi;have U5:=C_ m (Zi hm);obtain⟨id,cs,L,P,lW,SU,tt4,e1,e2,e3,e4,e5,c1,k2,k3,k4,c2,k5,k6,k7,k8,n1,n2,d1,d2,HC'⟩:=Vb HC hm U5.1 U5.2;have kO:=HC.o;have lO:=(Za.1 kO).1;have hO':∀y,(hp++y)[h.length+2]?=some (.row [N0,gE g.cZ,g.nn,g.ne]):=λy=>by rw[Zd lO];exact kO
    rw[e1]at g14 hO' k3 k6 k7;unfold cls at d1 d2;have eN0:jI (.sl id 3 0 g.nodes.length false) (.sl id 3 0 g.nodes.length false)=true:=by simp[jI]
    have qL:=λ(cal:jH) (ops:Array Oper) (d:Tmp) (rest:List Oper) (fr:LA) (h:Hp)=>Bp (C:=cx) (cal:=cal) (ops:=ops) n1 d rest fr h
    have qP:=λ(cal:jH) (ops:Array Oper) (d:Tmp) (rest:List Oper) (fr:LA) (h:Hp)=>Bp (C:=cx) (cal:=cal) (ops:=ops) n2 d rest fr h
    have b1:i*3+1+1<=cs.length:=by omega
    have b2:i*3+2+1<=cs.length:=by omega
    have b3:(da cs (i*3+1) [L]).length=cs.length:=gK (by simp;omega);have c1':∀b,cW cx (n+1) b 102 [.ls 1 (gP m.labels) false] (hp++[.row (eo m)])=some (L,lW):=λb=>c1 n b
    have c2':∀b,cW cx (n+1) b 103 [.ls 6 (iy m.props) false] (lW.set id (.row (da cs (i*3+1) [L])))=some (P,SU):=λb=>c2 n b
    have hf:=di (i:=i) (by omega);simp[cU,g14,g15,g16,hi,e3,e4,e5];rw[yL (j:=1) (m:=6) ?_ ?_ ?_ ?_]
    rotate_left
    .kernel_rfl
    .simp
    .rfl
    .simp
    simp[cU,g3,hi,hO',c1',k2,k3,eN0,qL,d1,b1];rw[yL (j:=1) (m:=6) ?_ ?_ ?_ ?_]
    rotate_left
    .kernel_rfl
    .simp
    .rfl
    .simp
    simp[cU,g1,g2,g3,g14,g15,g16,hi,k7,k8,c2',k5,k6,eN0,qP,d2,b2,b3,hf];exact⟨hi,e1.symm,_,HC'⟩
   .have gG:i=g.nodes.length:=Yc rE (Yb hi);subst gG;simp[cU,g1,g2,g3,g15,g16];exact⟨_,HC⟩
  .rintro o fr hp hn ⟨rfl,cU,g1,g2,g3,tt,HC⟩;simp only at cU g1 g2 g3 HC;obtain⟨nr,ha,ho⟩:=HC.n;rw[Yz]at ha;rw[Zt (by rw[fJ];exact Yt _),Yp]at ho;obtain⟨V,lW,t2,v1,o2,q2⟩:=rG U_ hp tt .cZ (mA g.cZ) false (by rw[fU];omega) (AD _).1;have kB:=HC.b;have lZ:=q2 _ _ HC.o (λq=>q);have kR2:=q2 _ _ HC.r (λq=>q);have lO2:=(Za.1 lZ.1).1;have tO2:t2 (h.length+2)= .none:=lZ.2.trans HC.ot;have adQ:=gW.set lW t2 (h.length+2) (.row [N0,V,g.nn,g.ne]) (S:=λt=>t= .none) tO2;have D0:CpE h tag g N0 V nr 0 (lW.set (h.length+2) (.row [N0,V,g.nn,g.ne])) t2:={
    f:=λj bl a1 a2=>by
     have k:=HC.f j bl a1 a2;have k2:=q2 j bl k.1 (λq=>q);have jl:=(Za.1 a1).1;exact⟨by rw[Zq (by omega)];exact k2.1,k2.2.trans k.2⟩
    o:=Zj lO2
    ot:=tO2
    r:=by rw[Zq (by omega)];exact kR2.1
    rt:=kR2.2.trans HC.rt
    ns:=(ho.gH q2 (λq=>q)).gH adQ (by simp)
    na:=ha.imp λa _ r q=>(q.gH q2 (λq=>q) (λq=>q)).gH adQ (by simp) (by simp)
    n:=⟨[],⟨by simp,λi a r ha=>by simp at ha⟩,by simpa using o2.gH adQ (by simp)⟩}
   have hV:=k_ o2;rw[fU]at hV;have cV:=o2.cls;unfold cls at cV;have qV:=oG (λv=>o2.np v)
   have YN:∀y,(lW.set (h.length+2) y)[h.length+2]?=some y:=λy=>Zj lO2
   have hO2:=lZ.1;obtain⟨V0,hV0⟩:∃V0,V0=V:=⟨V,rfl⟩;simp only[dn,gh,gE]at kB hO2;rcases hV with⟨z0,rfl⟩|⟨z0,rfl⟩|⟨idV,rfl⟩
   all_goals
    simp[cU,g1,g3,kB,v1,hO2,YN,da,qV];refine mS (C:=cx) (G:=λr=>∃r0 h',eQ _ (qw _ _ _ (dL _ r) _)=some (r0,h')/\Vf _ _ _ r0 h')
     (λi s=>i<=g.cZ.length/\s.1.length=60/\gt s.1 2= .pt (h.length+1) 0/\gt s.1 3= .pt (h.length+2) 0/\gt s.1 43=V0/\gt s.1 44=g.cZ.length/\gt s.1 45=i/\∃tt,CpE h tag g N0 V0 nr i s.2 tt)
     (λo s=>o= .exit 2/\s.1.length=60/\gt s.1 2= .pt (h.length+1) 0/\gt s.1 3= .pt (h.length+2) 0/\∃tt,CpE h tag g N0 V0 nr g.cZ.length s.2 tt) g.cZ.length (by simp;omega) ?_ ?_ ?_
    .first
      |(simp[cU,g2,g3,hV0,z0];exact⟨_,D0⟩)
      |(simp[cU,g2,g3,hV0];exact⟨_,D0⟩)
    .rintro i fr hp n_ ⟨rE,cU,g2,g3,g14,g15,g16,tt,HC⟩;simp only at cU g2 g3 g14 g15 g16 HC;by_cases hi:i<g.cZ.length
     .obtain⟨m,hm⟩:=eA hi;have U5:=pT m (Zi hm);obtain⟨id,cs,P,lW,tt2,e1,e2,e3,e4,e5,c1,k2,k3,n1,d1,HC'⟩:=Ve HC hm U5;have kO:=HC.o;have lO:=(Za.1 kO).1;have hO':∀y,(hp++y)[h.length+2]?=some (.row [N0,V0,g.nn,g.ne]):=λy=>by rw[Zd lO];exact kO
      rw[e1]at g14 hO' k3;unfold cls at d1;have eN0:jI (.sl id 5 0 g.cZ.length false) (.sl id 5 0 g.cZ.length false)=true:=by simp[jI]
      have qP:=λ(cal:jH) (ops:Array Oper) (d:Tmp) (rest:List Oper) (fr:LA) (h:Hp)=>Bp (C:=cx) (cal:=cal) (ops:=ops) n1 d rest fr h
      have b1:i*5+4+1<=cs.length:=by omega
      have c1':∀b,cW cx (n+1) b 103 [.ls 6 (iy m.props) false] (hp++[.row (eY m)])=some (P,lW):=λb=>c1 n b
      have hf:=di (i:=i) (by omega);simp[cU,g14,g15,g16,hi,e3,e4,e5];rw[yL (j:=1) (m:=6) ?_ ?_ ?_ ?_]
      rotate_left
      .kernel_rfl
      .simp
      .rfl
      .simp
      simp[cU,g2,g3,g14,g15,g16,hi,hO',c1',k2,k3,eN0,qP,d1,b1,hf];exact⟨hi,e1.symm,_,HC'⟩
     .have gG:i=g.cZ.length:=Yc rE (Yb hi);subst gG;simp[cU,g2,g3,g15,g16];exact⟨_,HC⟩
    .rintro o fr hp hn ⟨rfl,cU,g2,g3,tt,HC⟩;simp only at cU g2 g3 HC;obtain⟨er,tw,QK⟩:=HC.n;rw[Yz]at tw;rw[Zt (by rw[fU];exact Yt _),Yp]at QK;have kO:=HC.o;have kR:=HC.r;have lR:=(Za.1 kR).1;have hsR:∀y,(hp.set (h.length+1) y)[h.length+1]?=some y:=λy=>Zj lR
     have frR:=gW.set hp tt (h.length+1) (.row [N0,V0,g.nn,g.ne]) (S:=λt=>t= .none) HC.rt;simp[cU,g2,g3,kO,kR,hsR,da];refine⟨_,_,⟨rfl,rfl⟩,N0,V0,tt,nr,er,rfl,HC.ns.gH frR (by simp),QK.gH frR (by simp),HC.na.imp λa _ r q=>q.gH frR (by simp) (by simp),tw.imp λa _ r q=>q.gH frR (by simp),λj bl a1 a2=>?_⟩;have k:=HC.f j bl a1 a2;have jl:=(Za.1 a1).1;exact⟨by rw[Zq (by omega)];exact k.1,k.2⟩
end
end Go.Proofs.YtaibpnppeiigdaaGreatDoor
