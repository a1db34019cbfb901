/- Part of the proof. -/
import Derived.Test.YtmfohnojaginjaaGreatDoorP29
set_option linter.all false
set_option maxHeartbeats 32000000
set_option maxRecDepth 100000
namespace Go.Proofs.YtmfohnojaginjaaGreatDoor
open Go Go.Ae Go.Proofs.Tryz
section
attribute [local simp] cn eD
def Vf(m:Mg):xJ m=(decide (1<=m.nx) && (decide (m.nx<=1000000) && (opn m.hi m.nx m.op 0 && decide (m.op.length<=16)))):=by
 unfold xJ;rw[Bool.and_comm (decide (m.op.length<=16))]
def Et(N D:Nat)(b:Bool)(m:Mg)(h:Hp)(hm:Vb D m)(vH:gu m.hi=0->XC m.hi.g):
 ch cx (N+3*D+16) b 10 [uX m] h=some (.sc (.int .i64 (IY m)),h):=by
 refine eR (n:=N+3*D+15) f10 [.tmp 2] (xK m) rfl ?_ b h;have aa:=λbb h=>yN (N+3) D bb m.hi h hm.hi
 have af:=λbb h=>D6 (N+3*D+11) bb m.rl false h
 have ah:=λbb h=>Vd N D bb m h hm vH
 have ai:=λbb h=>Vc N D bb m h hm vH
 have aj:=λhg bb h=>Qo (N+D+3) D bb m.rl (oP m.hi) h hg hm.rl
 rw[show N+3+3*D+12=N+3*D+15 by omega]at aa;rw[show N+3*D+11+4=N+3*D+15 from rfl]at af;rw[show N+D+3+2*D+12=N+3*D+15 by omega]at aj;generalize N+3*D+15=M at aa af ah ai aj|-;have hlg:=IZ hm.hi;unfold IY;rw[Vf];generalize(opn m.hi m.nx m.op 0 && decide (m.op.length<=16))=ob at ah|-;generalize wE m.rl (oP m.hi)=fe at aj|-;generalize oP m.hi=G at *;generalize gu m.hi=e at aa hlg|-;clear hm vH;obtain⟨rl,x,op,nx⟩:=m;unfold uX qZ oV iz at *;simp only[cl,dy,dz,Zv,Zw]at *;generalize fL rl=vr,sR rl=rr at *;by_cases h0:e=0
 rotate_left
 .rw[cq h0];simp[f10,aa,h0]
 subst h0;rw[cm (by simp)];have aj:=aj (hlg rfl);cases vr
 .simp[f10,aa,af]
 by_cases h1:nx<1
 .have kL:¬1<=nx:=by omega
  simp[f10,aa,af,h1,kL]
 have kL:1<=nx:=by omega
 by_cases h2:1000000<nx
 .have ry:¬nx<=1000000:=by omega
  simp[f10,aa,af,h1,kL,h2,ry]
 have ry:nx<=1000000:=by omega
 cases ob
 .simp[f10,aa,af,ah,h1,kL,h2,ry]
 .simp[f10,aa,af,ah,ai,aj,h1,kL,h2,ry]
def Vg(n:Nat)(b:Bool)(m:Mg)(id:Int)(h:Hp)(hl:m.op.length<=10^6):
 ch cx (n+1) b 23 [uX m,id] h=some (.sc (.int .i64 (j7 (mY id) m.op 0)),h):=by
 have main:∃h',dL [.tmp 4] (n ((f23.body).getD .skip) ([uX m,.sc (.int .i64 id)]++List.replicate 20 .un,[]))=some (.sc (.int .i64 (j7 (mY id) m.op 0)),h'):=by
  obtain⟨rl,x,op,nx⟩:=m;unfold uX qZ;simp only at hl|-;have hq:=kp op;have jc:=sf op;generalize hT:j7 (mY id) op 0=T,fG:[AV.ls 6 (sR rl) false,.sc (.int .i64 x.b),dy x.g.nodes,dz x.g.cj,.sc (.int .i64 x.g.nn),.sc (.int .i64 x.g.ne),.ls 2 (oU x.l) false,.ls 4 (Ab op) false,.sc (.int .i64 nx)]=row;have hr7:row[7]?=some (.ls 4 (Ab op) false):=by rw[<-fG];rfl
  have aar:row.length=9:=by rw[<-fG];rfl
  have Qr:=fT hr7;generalize Ab op=cg at hq jc hr7 Qr;clear fG;have wc:row.take 9=row:=Xa (by omega);simp[f23,aar];generalize gU:n (.loop _) _=XX;refine pU gU
   (λi s dn=>s.length=22/\gt s 1=id/\gt s 2= .pt 0 0/\gt s 5=i/\dn=[.row row]/\j7 (mY id) op i=T)
   (λo s _=>s.length=22/\((o= .exit 0/\T= -1)\/(o= .ret/\gt s 4=T))) op.length (by simp;omega)
   ⟨by simp,by simp,by simp,by simp,by simp,hT⟩ ?_ ?_
  .clear gU XX hT;rintro i fr hp da ⟨cf,g1,g2,g5,hh,ho⟩;subst hh;rcases jr jc da with⟨c,hi,hx,hr,cz⟩|rfl
   .rw[BZ hx]at ho;have hf:=cG (i:=i) (Yp da (Yp hl (by decide)));obtain⟨tid,st,rd,cs⟩:=c;unfold jb at hr cz;simp only[mY,Zy]at ho hr cz;by_cases hc:tid=id
    .rw[cq hc]at ho;simp[cf,g1,g2,g5,Qr,aar,hi,hq,cz,hc];exact ho
    .rw[cm hc]at ho;simp[cf,g1,g2,g5,Qr,aar,hi,hq,cz,hc,hf];exact ho
   .rw[Eg _ op _ (Xc _)]at ho;simp[cf,g2,g5,Qr,aar,hq,<-ho]
  .rintro o gO h' rfl ⟨cf,⟨rfl,rfl⟩|⟨rfl,g4⟩⟩
   .simp[cf]
   .simp[g4]
 obtain⟨h',e⟩:=main;exact gD (r:= .sc (.int .i64 (j7 (mY id) m.op 0))) (h':=h') (n:=n) ⟨f23.ntmps,(f23.body).getD .skip,[.tmp 4]⟩ (by kernel_rfl) (by kernel_rfl) rfl (by kernel_rfl) (by simp[f23]) (AH m id) e rfl b h
def Vh(N D:Nat)(b:Bool)(m:Mg)(t:Tx)(h:Hp)(hm:Vb D m)(vH:gu m.hi=0->XC m.hi.g)(ht:Z6 D t.cs)(h0:(ue m.hi t.st).2=0):
 ch cx (N+3*D+15) b 24 [uX m,.ag (jb t)] h=some (.ag (cl (kr m.hi t).1),h):=by
 refine nA (n:=N+3*D+14) f24 [.cell 4 4 true] rfl ?_ b h;have aa:=λbb h=>LF N D bb m.hi t.st h hm.hi vH
 have af:=λbb h=>Nw (N+3) D bb (ue m.hi t.st).1 t.cs false h (Ce hm.hi h0) ht
 rw[show N+3+3*D+11=N+3*D+14 by omega]at af;rw[wG h0];generalize N+3*D+14=M at aa af|-;clear hm vH ht h0;obtain⟨rl,x,op,nx⟩:=m;obtain⟨id,st,rd,cs⟩:=t;simp only at aa af|-;generalize ue x st=ga at aa af|-;obtain⟨G,e⟩:=ga;dsimp only at aa af|-;generalize jE G cs=R at af|-;obtain⟨G2,k2,e2⟩:=R;dsimp only at af|-;obtain⟨bs,g,l⟩:=x;unfold uX qZ jb;unfold oV iz at aa;simp only[cl,dy,dz,Zv,Zw]at *;generalize oU l=cg,Ab op=sU,sR rl=vv,sJ cs=chs at *;generalize hT:AV.ag [.ls 3 (f_ G2.nodes) false,.ls 5 (fV G2.cj) false,G2.nn,G2.ne]=T;simp[f24,aa,af];exact⟨_,_,⟨rfl,rfl⟩,_,rfl,by rw[<-hT];exact FQ G2⟩
def NF{x:Hi}{nx:Int}:∀{l:List Tx}{p:Int},opn x nx l p=true->∀t∈l,(kr x t).2=true
 | [],_,_,t,ht=>by cases ht
 |
  a::l,p,h,t,ht=>by
  rw[opn]at h;simp only[Zh]at h;rcases Yw.1 ht with rfl|ht
  .exact h.2.2.2.1
  .exact NF h.2.2.2.2 t ht
def I7{x:Hi}{t:Tx}(h:(kr x t).2=true):(ue x t.st).2=0:=by
 by_cases h0:(ue x t.st).2=0
 .exact h0
 .rw[Er h0]at h;cases h
def I8{m:Mg}(h:IY m=0):∀t∈m.op,(kr m.hi t).2=true:=by
 unfold IY at h;split at h
 .rename_i q;exact absurd h q
 .split at h
  .rename_i q;rw[Zh]at q;have q2:=q.2;unfold xJ at q2;simp only[Zh]at q2;exact NF q2.2.2.2
  .cases h
def Qs{m:Mg}{id:Int}(h:¬l7 m id=0):IY m=0->l7 m id=23/\j7 (mY id) m.op 0<0:=by
 intro h0;unfold l7 at h|-;rw[cq h0]at h|-;split at h
 .rename_i q;exact⟨cq q,q⟩
 .exact absurd rfl h
def Vi(N D:Nat)(b:Bool)(m:Mg)(id:Int)(h:Hp)(hm:Vb D m)(vH:gu m.hi=0->XC m.hi.g):
 ch cx (N+3*D+17) b 8 [uX m,id] h=some (.tp [.ag (cl (Ep m id)),.sc (.int .i64 (l7 m id))],h):=by
 refine nA (n:=N+3*D+16) f8 [.cell 4 4 true,.tmp 5] (AH m id) ?_ b h;have aa:=λbb h=>Et N D bb m h hm vH
 have af:=λbb h=>Vg (N+3*D+15) bb m id h hm.ol
 have ah:=λ(t:Tx)bb h ht h0=>Vh (N+1) D bb m t h hm vH ht h0
 rw[show N+1+3*D+15=N+3*D+16 by omega]at ah;have Qp:=hm.oc;have hfc:=wF m id;have x7:= @Qs m id;have dp:= @I8 m;unfold Ep;have Bp:¬IY m=0->l7 m id=IY m:=λq=>by unfold l7;rw[cm q]
 generalize l7 m id=e,IY m=me,j7 (mY id) m.op 0=ix,vwT m id=o at *;generalize N+3*D+16=M at aa af ah|-;clear hm vH;obtain⟨rl,x,op,nx⟩:=m;have hq:=kp op;have jc:=sf op;unfold uX qZ at *;simp only at *;generalize Ab op=cg at *;rcases hfc with⟨h0,rfl⟩|⟨rfl,rfl,i,t,h1,_,rfl,rfl⟩
 .clear ah;unfold dy dz at *;by_cases CT:me=0
  .subst CT;obtain⟨rfl,C8⟩:=x7 h0 rfl;simp[f8,aa,af,C8];exact gq ⟨_,rfl,rfl⟩
  .have Bp:=Bp CT;subst Bp;simp[f8,aa,CT];exact gq ⟨_,rfl,rfl⟩
 .have dm:=(Za.1 h1).1;obtain⟨c,hx,hr,cz⟩:=kT jc dm;rw[h1]at hx;cases hx;have Pm:=Zi h1;have ah:=λbb h=>ah t bb h (Qp t Pm) (I7 (dp rfl t Pm))
  show∃r h',_;simp only;generalize(kr x t).1=G at *;generalize hT:AV.tp [.ag (cl G),(0:Int)]=T;have uT:¬((i:Nat):Int)<0:=by omega
  clear Qp h1 Pm x7 dp Bp;obtain⟨tid,st,rd,cs⟩:=t;obtain⟨bs,g,l⟩:=x;unfold jb at *;simp only[cl,dy,dz,Zv,Zw]at *;generalize oU l=cms,sJ cs=chs at *;simp[f8,aa,af,ah,cz,hq,dm,uT];exact gq ⟨_,rfl,by rw[<-hT];exact r8 G _⟩
def Qt(v:V):mg v v=0:=by have:=S4 v v;omega
def Ci(x:ByteArray):fm x x=true:=(iC x x).2 rfl
def Gb(n:Nat)(b:Bool)(l:List ByteArray)(z:Bool)(h:Hp)(hl:l.length<=1000000000000000):
 ch cx (n+1) b 65 [iD l z,iD l z] h=some ((true:AV),h):=by
 refine eR f65 [.tmp 4] rfl rfl ?_ b h;have hq:=di l;have hg:=lS l;unfold iD;generalize fj l=cg at hq hg;simp[f65];generalize gU:n (.loop _) _=XX;refine pU gU
  (λi s _=>s.length=26/\gt s 0= .ls 1 cg z/\gt s 1= .ls 1 cg z/\gt s 5=i)
  (λo s _=>s.length=26/\o= .exit 0) l.length (by simp;omega) ⟨by simp,by simp⟩ ?_ ?_
 .clear gU XX;rintro i fr h da ⟨cf,h0,h1,h5⟩;rcases jr hg da with⟨c,hi,hx,hr,cz⟩|rfl
  .have hf:=cG (Yp da hl);simp[cf,h0,h1,h5,hi,hq,cz,hf,Ci]
  .simp[cf,h0,h5,hq]
 .rintro o fr h' rfl ⟨cf,rfl⟩;simp[cf]
def vO(N D:Nat)(b:Bool)(l:List fZ)(z:Bool)(h:Hp)(hl:l.length<=1000000000000000)(hb:∀p∈l,gS p.v<=D/\jK p.v):
 ch cx (N+3*D+7) b 66 [eU l z,eU l z] h=some ((true:AV),h):=by
 refine eR (n:=N+3*D+6) f66 [.tmp 4] rfl rfl ?_ b h;have hq:=cP l;have hg:=lT l;have ho:∀p∈l,∀b h,ch cx (N+3*D+6) b 109 [.ag (enc p.v),.ag (enc p.v)] h=some (.sc (.int .i64 0),h):=λp hp b h=>by
  rw[SQ D p.v p.v (hb p hp).1 (hb p hp).1 (hb p hp).2 (hb p hp).2 N b h,Qt]
 unfold eU;generalize d_ l=cg at hq hg;generalize N+3*D+6=M at ho|-;simp[f66];generalize gU:M (.loop _) _=XX;refine pU gU
  (λi s _=>s.length=42/\gt s 0= .ls 6 cg z/\gt s 1= .ls 6 cg z/\gt s 5=i)
  (λo s _=>s.length=42/\o= .exit 0) l.length (by simp;omega) ⟨by simp,by simp⟩ ?_ ?_
 .clear gU XX;rintro i fr h da ⟨cf,h0,h1,h5⟩;rcases jr hg da with⟨c,hi,hx,hr,cz⟩|rfl
  .have hf:=cG (Yp da hl);have ho:=ho c (Zi hx);have hr0:∀k,(cg[i]'k)[0]?=some (.sc (.string c.key)):=λk=>by rw[cz k];rfl
   obtain⟨key,v⟩:=c;have CW:(enc v).take 5=enc v:=Xa (by rw[dB];exact Xc _);have ni:(enc v).length=5:=dB v;unfold fK at hr cz;simp only at ho hr cz;generalize enc v=ev at *;simp[cf,h0,h1,h5,hi,hq,cz,hf,ho,CW,ni,Ci]
  .simp[cf,h0,h5,hq]
 .rintro o fr h' rfl ⟨cf,rfl⟩;simp[cf]
end
end Go.Proofs.YtmfohnojaginjaaGreatDoor
namespace Go.Ae
open Go
def GM(C:Cx)(c:Code)(s:St)(P:Out->St->Prop):Prop:=
 ∀(X:Nat->Prop)(a:Act)(w:World)(ρ:Nat->Nat)(Q:Exit->Act->World->Prop),gf C.G w X ρ s.2->RF w (dK X ρ s.2) ρ s.2.length a.tmps s.1->
  (∀(out:Out)(s':St)(a':Act)(w':World)(ρ':Nat->Nat),P out s'->Ext C.G w X ρ s.2 w' ρ' s'.2->RF w' (dK X ρ' s'.2) ρ' s'.2.length a'.tmps s'.1->a'.defers=a.defers->Q (ug out) a' w')->c.wp C.P Q a w
variable {C : Cx}
def rb{c:Code}{s:St}{P P':Out->St->Prop}(h:GM C c s P)(hP:∀o s',P o s'->P' o s'):GM C c s P':=
 λX a w ρ Q hs hf hQ=>h X a w ρ Q hs hf λo s' a' w' ρ' hp=>hQ o s' a' w' ρ' (hP o s' hp)
def Vj{call:Bool->iB}(hC:Dp C)(cJ:∀b,iZ C (call b))(eZ:∀g xs h r h',C.inl g=false->call false g xs h=some (r,h')->h'=h){c:Code}(gI:codeOk C c=true){s s':St}{o:Out}(he:exec C call c s=some (o,s')){P:Out->St->Prop}(hP:P o s'):GM C c s P:=
 λX a w ρ Q hs hf hQ=>kY hC cJ eZ c gI s s' o he a w ρ Q hs hf λa' w' ρ' h1 h2 h3=>hQ o s' a' w' ρ' hP h1 h2 h3
def kU{a b:Code}{s:St}{P:Out->St->Prop}(h:GM C a s (λo s1=>(o= .normal->GM C b s1 P)/\(o≠ .normal->P o s1))):GM C (.seq a b) s P:=by
 intro X ac w ρ Q hs hf hQ;refine wp_seq (h X ac w ρ _ hs hf ?_);rintro o s1 a1 w1 ρ1 ⟨hn,hx⟩ e1 aa d1;cases o with
 |
  normal=>
  show b.wp C.P Q a1 w1;exact hn rfl X a1 w1 ρ1 Q e1.u6 aa λo2 s2 a2 w2 ρ2 p2 e2 af d2=>hQ o2 s2 a2 w2 ρ2 p2 (e1.trans e2) af (d2.trans d1)
 |exit id=>exact hQ _ s1 a1 w1 ρ1 (hx (by simp)) e1 aa d1
 |ret=>exact hQ _ s1 a1 w1 ρ1 (hx (by simp)) e1 aa d1
 |th u=>exact hQ _ s1 a1 w1 ρ1 (hx (by simp)) e1 aa d1
def ajf(id:Nat):Out->Out
 | .exit i=>if i=id then .normal else .exit i
 |o=>o
def uY{id:Nat}{c:Code}{s:St}{P:Out->St->Prop}(h:GM C c s (λo s1=>P (ajf id o) s1)):GM C (.block id c) s P:=by
 intro X ac w ρ Q hs hf hQ;refine wp_block (h X ac w ρ _ hs hf ?_);intro o s1 a1 w1 ρ1 hp e1 aa d1;have hq:=hQ _ s1 a1 w1 ρ1 hp e1 aa d1;cases o with
 |normal=>exact hq
 |ret=>exact hq
 |th u=>exact hq
 |exit i=>
  have mR:Q (ug (if i=id then Out.normal else Out.exit i)) a1 w1:=hq;show(if i=id then Q .normal a1 w1 else Q (.exit i) a1 w1);by_cases hi:i=id
  .rw[cq hi]at mR;rw[cq hi];exact mR
  .rw[cm hi]at mR;rw[cm hi];exact mR
def I9{c:Code}{P:Out->St->Prop}(I:Nat->St->Prop)(N:Nat)(hI:∀i s,i<=N->I i s->GM C c s (λo s1=>(o= .normal->i+1<=N/\I (i+1) s1)/\(o≠ .normal->P o s1))){s:St}(h0:I 0 s):GM C (.loop c) s P:=by
 intro X ac w ρ Q hs hf hQ;refine wp_loop_rounds (N+1) ?_;have key:∀(n i:Nat)(s:St)(a1:Act)(w1:World)(ρ1:Nat->Nat),i<=N->N+1=i+n->I i s->gf C.G w1 X ρ1 s.2->RF w1 (dK X ρ1 s.2) ρ1 s.2.length a1.tmps s.1->
  (∀(out:Out)(s':St)(a':Act)(w':World)(ρ':Nat->Nat),P out s'->Ext C.G w1 X ρ1 s.2 w' ρ' s'.2->RF w' (dK X ρ' s'.2) ρ' s'.2.length a'.tmps s'.1->a'.defers=a1.defers->Q (ug out) a' w')->Code.rounds C.P c Q n a1 w1:=by
  intro n
  induction n with
  |zero=>intro i s a1 w1 ρ1 hi hn;omega
  |succ n ihn=>
   intro i s a1 w1 ρ1 hi hn hinv zZ JY hQ1;rw[rounds_succ];refine hI i s hi hinv X a1 w1 ρ1 _ zZ JY ?_;rintro o s1 a2 w2 ρ2 ⟨x7,hx⟩ e2 af d2;cases o with
   |
    normal=>
    obtain⟨p8,af5⟩:=x7 rfl;show Code.rounds C.P c Q n a2 w2;exact ihn (i+1) s1 a2 w2 ρ2 p8 (by omega) af5 e2.u6 af λo3 s3 a3 w3 ρ3 p3 e3 ah d3=>hQ1 o3 s3 a3 w3 ρ3 p3 (e2.trans e3) ah (d3.trans d2)
   |exit id=>exact hQ1 _ s1 a2 w2 ρ2 (hx (by simp)) e2 af d2
   |ret=>exact hQ1 _ s1 a2 w2 ρ2 (hx (by simp)) e2 af d2
   |th u=>exact hQ1 _ s1 a2 w2 ρ2 (hx (by simp)) e2 af d2
 exact key (N+1) 0 s ac w ρ (by omega) (by omega) h0 hs hf hQ
def I_{f:FuncId}{fi:Fi}(h1:G4 C.P f=some fi)(h3:∀fn,C.P.funcs[f]?=some fn->fn.name≠ "runtime.NumGoroutine"){xs:List AV}(da:xs.length<=fi.ntmps){r:AV}{m:Nat}(hb:GM C fi.body (xs++List.replicate (fi.ntmps-xs.length) .un,[]) (λo s=>(o= .normal\/o= .ret)/\∃r0,sE fi s=some r0/\cD s.2 m r0=some r)):iG C f xs r:=by
 intro w X vs hX hG hl hv;have hs:=NG hX hG id;obtain⟨fn,aa,af,ah,ai⟩:=yR h1;refine⟨⟨fn,aa,h3 fn aa,by simp[af]⟩,calls_of_wp aa af ?_⟩;have hrf:=Cj (w:=w) (X:=dK X id []) (ρ:=id) (n:=0) (m:=fn.ntmps) (m':=fi.ntmps) (vs:=vs) (xs:=xs) hl ah.symm (λk x hk=> .im ((hv k x hk).AQ λb(hb:dK X id [] b)=>hb.elim (λh=>h) λh=>absurd h (su id b)));refine hb X _ w id _ hs hrf ?_;rintro o s' a' w' ρ' ⟨ho,r0,hr,gw⟩ he sF hd;obtain⟨v,z_,vB⟩:=kN he.u6 sF ai hr;have dq:Step w dR w' dR:=⟨he.step.os,he.step.tape,he.step.output,he.step.size,λb hb _=>he.step.keep b hb (su id b),he.step.row,λ_ _ h=>h,he.step.drew⟩;have Kb:=sq he.u6 m v r0 r vB gw;rcases ho with rfl|rfl
 .exact⟨hd,v,z_,v,rfl,dq,Kb⟩
 .exact⟨hd,v,z_,v,rfl,dq,Kb⟩
def Ja{call:Bool->iB}(hC:Dp C)(cJ:iZ C (call false))(eZ:∀g xs h r h',C.inl g=false->call false g xs h=some (r,h')->h'=h){ops:Array Oper}{c d id:Nat}(gI:Ck C ops c d=true){s sA sB:St}{P:Out->St->Prop}(hA:rh C (call false) (CQ ops c d) s=some (.normal,sA))(hB:rh C (call false) (Dz ops c d) s=some (.normal,sB))(wm:∀(i:Nat)(o:Oper)(t:Tmp),ops[i]?=some o->ti (fY ops.toList []) c d i=false->o.dst=some t->sA.1[t]?=sB.1[t]?)(qA:P .normal sA)(qB:P .normal sB):GM C (.region id ops true) s P:=by
 have key:∀{o':Array Oper}{s1:St},o'.size=ops.size->rh C (call false) o' s=some (.normal,s1)->∃jv,y9 C (call false) o' s=some jv/\jv[ops.size]?=some s1:=by
  intro o' s1 fX h;unfold rh at h;unfold y9;split at h
  .rename_i jv hr;split at h
   .rename_i hn;obtain⟨s2,h2,h3⟩:=Ze.1 h;cases h3;rw[fX]at h2;exact⟨jv,by rw[hr];simp only[hn,if_true],h2⟩
   .cases h
  .unfold vS at h;split at h
   .obtain⟨v,h',e1,e2,_⟩:=Eu h;cases e1
   .cases h
 obtain⟨sa,h1,h2⟩:=key n_ hA;obtain⟨sb,h3,h4⟩:=key n_ hB;exact λX a w ρ Q hs hf hQ=>NH hC.mixed hC.types cJ eZ hC.jI gI h1 h3 h2 h4 wm hs hf (λa' w' ρ' e1 e2 e3=>hQ .normal sA a' w' ρ' qA e1 e2 e3) λa' w' ρ' e1 e2 e3=>hQ .normal sB a' w' ρ' qB e1 e2 e3
end Go.Ae
namespace Go.Proofs.YtmfohnojaginjaaGreatDoor
open Go Go.Ae Go.Proofs.Tryz
section
attribute [local simp] cn eD
def Cl{C:Cx}{cal:iB}{ops:Array Oper}:∀(a b:List Oper)(s:St),cp C cal ops (a++b) s=(cp C cal ops a s).bind (cp C cal ops b)
 | [],b,s=>rfl
 |
  o::a,b,s=>by
  rw[Zv,cp,cp];cases step1 C cal ops o s with
  |none=>rfl
  |some s'=>exact Cl a b s'
def fu{C:Cx}{cal:iB}{ops:Array Oper}{l:List Oper}{i n:Nat}{s s1 s2:St}(h1:cp C cal ops (l.take i) s=some s1)(h2:cp C cal ops ((l.drop i).take n) s1=some s2):cp C cal ops (l.take (i+n)) s=some s2:=by
 rw[List.take_add,Cl,h1];exact h2
def adQ(C:Cx)(cal:iB)(l:List Oper)(s:St)(p:Nat × Nat):Prop:=
 ∃o sj sm v v',l[p.1]?=some o/\o.guard=none/\cp C cal l.toArray (l.take p.1) s=some sj/\cp C cal l.toArray (l.take p.2) s=some sm/\(lG C cal (ev C sj.1) sj.2 o).map Prod.fst=some v/\(lG C cal (ev C sj.1) sm.2 o).map Prod.fst=some v'/\fH v' v=true
def sw{C:Cx}{cal:iB}{l:List Oper}{s s':St}(ps:List (Nat × Nat))(hn:needs C l.toArray=ps)(hr:cp C cal l.toArray l s=some s')(hb:(ps.all λp=>decide (p.1<=l.length) && decide (p.2<=l.length))=true)(hp:∀p∈ps,adQ C cal l s p):rh C cal l.toArray s=some (.normal,s'):=by
 unfold rh;have hl:l.toArray.toList=l:=rfl;rw[hl];cases hq:eC C cal l.toArray l s with
 |none=>rw[nN hq]at hr;cases hr
 |some jv=>
  have Od:=oL l s jv hq;have dN:(needs C l.toArray).all (sameAt C cal l.toArray jv)=true:=by
   rw[hn,Yt];rintro⟨j,m⟩ hm;have GB:=Yt.1 hb _ hm;simp only[Zh,Zy]at GB;obtain⟨o,sj,sm,v,v',e1,e2,e3,e4,e5,e6,e7⟩:=hp _ hm;obtain⟨⟨_,_⟩,g5,rfl⟩:=Ze.1 e5;obtain⟨⟨_,_⟩,g6,rfl⟩:=Ze.1 e6;have k1:=(Od j GB.1).trans e3;have k2:=(Od m GB.2).trans e4;have k0:l.toArray[j]?=some o:=by rw[Xr];exact e1
   have kw:eM l.toArray sj.1 o=some true:=by unfold eM;rw[e2]
   unfold sameAt;simp only[k0,k1,k2,kw,g5,g6,e7]
  simp only[dN,if_true];rw[List.size_toArray,Od l.length (Xc _),Xx,hr];rfl
def oq(d:Option Tmp)(o:Op)(t:TypeId)(p:String)(a:List Nat):Oper:={dst:=d,op:=o,type:=t,pos:=p,after:=(a.map λi=>({on:=i,ground:= .data}:Edge)).toArray,guard:=none}
def Fc(l:List (Nat × AV))(f:LA):Prop:=f.length=116/\∀p∈l,gt f p.1=p.2
def gH(b si x y k part:Nat)(cg:List LA)(row:LA)(i n:Nat):List (Nat × AV):=[(2,.pt 0 0),(3,.pt 1 0),(si,.sc (.int .i64 (i:Nat))),(b,.pt 0 part),(b+1,.ls k cg false),(b+2,.sc (.int .i64 (i:Nat))),(b+3,.rp row 0),(b+4,.ag row),(b+5,.pt 1 part),(b+6,.ls k cg false),(b+7,.sc (.int .i64 (i:Nat))),(b+8,.rp row 0),(b+9,.ag row),(x,.pt n 0),(y,.pt (n+1) 0)]
structure Sq (b si x y k part:Nat)(cg:List LA)(G row:LA)(i:Nat)(s':St):Prop where
 fc:Fc ((gH b si x y k part cg row i 0).take 13) s'.1
 box:∃p q,gt s'.1 x= .pt p 0/\gt s'.1 y= .pt q 0/\s'.2[p]?=some (.row row)/\s'.2[q]?=some (.row row)
 h0:s'.2[0]?=some (.row G)
 h1:s'.2[1]?=some (.row G)
def PS :List (Nat × Nat):=[(1,11),(1,12),(4,11),(4,12),(6,11),(6,12),(6,13),(9,11),(9,12),(9,13)]
def sV :List Oper:=[oq (some 34) (.fieldAddr 26 (.tmp 2) 0) 0 "ref.go:270" [],oq (some 35) (.load 23 (.tmp 34)) 23 "ref.go:270" [0],oq (some 36) (.move (.tmp 5)) 3 "ref.go:270" [],oq (some 37) (.indexAddr 23 (.tmp 35) (.tmp 36)) 0 "ref.go:270" [1,2],oq (some 38) (.load 51 (.tmp 37)) 51 "ref.go:270" [3],oq (some 39) (.fieldAddr 26 (.tmp 3) 0) 0 "ref.go:270" [],oq (some 40) (.load 23 (.tmp 39)) 23 "ref.go:270" [5],oq (some 41) (.move (.tmp 5)) 3 "ref.go:270" [],oq (some 42) (.indexAddr 23 (.tmp 40) (.tmp 41)) 0 "ref.go:270" [6,7],oq (some 43) (.load 51 (.tmp 42)) 51 "ref.go:270" [8]]
def Cn :List Oper:=[oq (some 34) (.fieldAddr 26 (.tmp 2) 0) 0 "ref.go:270" [],oq (some 35) (.load 23 (.tmp 34)) 23 "ref.go:270" [0],oq (some 36) (.move (.tmp 5)) 3 "ref.go:270" [],oq (some 37) (.indexAddr 23 (.tmp 35) (.tmp 36)) 0 "ref.go:270" [1,2],oq (some 38) (.load 51 (.tmp 37)) 51 "ref.go:270" [3],{oq (some 39) (.fieldAddr 26 (.tmp 3) 0) 0 "ref.go:270" []with after:= #[⟨12,.gcOnly .lateStores⟩]},{oq (some 40) (.load 23 (.tmp 39)) 23 "ref.go:270" []with after:= #[⟨5,.data⟩,⟨12,.gcOnly .lateStores⟩]},{oq (some 41) (.move (.tmp 5)) 3 "ref.go:270" []with after:= #[⟨12,.gcOnly .lateStores⟩]},{oq (some 42) (.indexAddr 23 (.tmp 40) (.tmp 41)) 0 "ref.go:270" []with after:= #[⟨6,.data⟩,⟨7,.data⟩,⟨12,.gcOnly .lateStores⟩]},{oq (some 43) (.load 51 (.tmp 42)) 51 "ref.go:270" []with after:= #[⟨8,.data⟩,⟨12,.gcOnly .lateStores⟩]},oq (some 6) (.alloc 51) 0 "ref.go:270" [],oq (some 7) (.alloc 51) 0 "ref.go:270" [],{oq none (.store 51 (.tmp 6) (.tmp 38)) 0 "ref.go:270" []with after:= #[⟨10,.data⟩,⟨4,.data⟩,⟨0,.phase⟩,⟨1,.phase⟩,⟨2,.phase⟩,⟨3,.phase⟩,⟨4,.phase⟩,⟨5,.textOnly .lateStores⟩,⟨6,.textOnly .lateStores⟩,⟨7,.textOnly .lateStores⟩,⟨8,.textOnly .lateStores⟩,⟨9,.textOnly .lateStores⟩,⟨10,.phase⟩,⟨11,.phase⟩]},{oq none (.store 51 (.tmp 7) (.tmp 43)) 0 "ref.go:270" []with after:= #[⟨11,.data⟩,⟨9,.data⟩,⟨12,.chain⟩,⟨0,.phase⟩,⟨1,.phase⟩,⟨2,.phase⟩,⟨3,.phase⟩,⟨4,.phase⟩,⟨5,.phase⟩,⟨6,.phase⟩,⟨7,.phase⟩,⟨8,.phase⟩,⟨9,.phase⟩,⟨10,.phase⟩,⟨11,.phase⟩,⟨12,.phase⟩]}]
def l8 :List Oper:=sV++[oq (some 6) (.alloc 51) 0 "ref.go:270" [],oq (some 7) (.alloc 51) 0 "ref.go:270" [10],oq none (.store 51 (.tmp 6) (.tmp 38)) 0 "ref.go:270" [10,4,0,1,2,3,4,10,11],oq none (.store 51 (.tmp 7) (.tmp 43)) 0 "ref.go:270" [11,9,12,0,1,2,3,4,5,6,7,8,9,10,11,12]]
def l9 :List Oper:=sV++[oq (some 7) (.alloc 51) 0 "ref.go:270" [],oq (some 6) (.alloc 51) 0 "ref.go:270" [10],oq none (.store 51 (.tmp 6) (.tmp 38)) 0 "ref.go:270" [11,4,0,1,2,3,4,11,10],oq none (.store 51 (.tmp 7) (.tmp 43)) 0 "ref.go:270" [10,9,12,0,1,2,3,4,5,6,7,8,9,11,10,12]]
def Vk(K:iB)(fr:LA)(h:Hp)(cg:List LA)(yb yc yd c0 c1 c2:AV)(i:Nat)(hf:fr.length=116/\gt fr 2= .pt 0 0/\gt fr 3= .pt 1 0/\gt fr 5=i)(h0:h[0]?=some (.row [.ls 3 cg false,yb,yc,yd]))(h1:h[1]?=some (.row [.ls 3 cg false,yb,yc,yd]))(hi:i<cg.length)(hr:cg[i]?=some [c0,c1,c2])(hE:mf cg cg=true)(he:gY [c0,c1,c2] [c0,c1,c2]=true):
 ∃s',rh cx K (CQ Cn.toArray 10 11) (fr,h)=some (.normal,s')/\Sq 34 5 6 7 3 0 cg [.ls 3 cg false,yb,yc,yd] [c0,c1,c2] i s':=by
 rw[show CQ Cn.toArray 10 11=l8.toArray by kernel_rfl];have cz:∀k,cg[i]'k=[c0,c1,c2]:=fT hr;have l0:0<h.length:=(Za.1 h0).1;have l1:1<h.length:=(Za.1 h1).1;have lQ:=fT h0;have kL:=fT h1;have r0:cp cx K l8.toArray (l8.take 0) (fr,h)=some (fr,h):=rfl;obtain⟨⟨aa,p1⟩,e1,q1,F1⟩:∃s',cp cx K l8.toArray ((l8.drop 0).take 1) (fr,h)=some s'/\s'.2=h/\Fc ((gH 34 5 6 7 3 0 cg [c0,c1,c2] i h.length).take 4) s'.1:=by
  simp[l8,sV,oq,Fc,gH,hf,h0,h1,lQ,kL,l0,l1,hi,hr,cz]
 simp[Fc,gH]at F1;rw[show p1=_ from q1]at e1;have r1:=fu r0 e1;obtain⟨⟨ai,p4⟩,e4,q4,F4⟩:∃s',cp cx K l8.toArray ((l8.drop 1).take 3) (aa,(h))=some s'/\s'.2=h/\Fc ((gH 34 5 6 7 3 0 cg [c0,c1,c2] i h.length).take 7) s'.1:=by
  simp[l8,sV,oq,Fc,gH,F1,h0,h1,lQ,kL,l0,l1,hi,hr,cz]
 simp[Fc,gH]at F4;rw[show p4=_ from q4]at e4;have r4:=fu r1 e4;obtain⟨⟨ak,p6⟩,e6,q6,F6⟩:∃s',cp cx K l8.toArray ((l8.drop 4).take 2) (ai,(h))=some s'/\s'.2=h/\Fc ((gH 34 5 6 7 3 0 cg [c0,c1,c2] i h.length).take 9) s'.1:=by
  simp[l8,sV,oq,Fc,gH,F4,h0,h1,lQ,kL,l0,l1,hi,hr,cz]
 simp[Fc,gH]at F6;rw[show p6=_ from q6]at e6;have r6:=fu r4 e6;obtain⟨⟨av,p9⟩,e9,q9,F9⟩:∃s',cp cx K l8.toArray ((l8.drop 6).take 3) (ak,(h))=some s'/\s'.2=h/\Fc ((gH 34 5 6 7 3 0 cg [c0,c1,c2] i h.length).take 12) s'.1:=by
  simp[l8,sV,oq,Fc,gH,F6,h0,h1,lQ,kL,l0,l1,hi,hr,cz]
 simp[Fc,gH]at F9;rw[show p9=_ from q9]at e9;have r9:=fu r6 e9;obtain⟨⟨aw,p11⟩,Vl,yv,Vm⟩:∃s',cp cx K l8.toArray ((l8.drop 9).take 2) (av,(h))=some s'/\s'.2=h++[.row [(0:Int),(),()]]/\Fc ((gH 34 5 6 7 3 0 cg [c0,c1,c2] i h.length).take 14) s'.1:=by
  simp[l8,sV,oq,Fc,gH,F9,h0,h1,lQ,kL,l0,l1,hi,hr,cz,Qg,Qh,Qi]
 simp[Fc,gH]at Vm;rw[show p11=_ from yv]at Vl;have Co:=fu r9 Vl;obtain⟨⟨ax,p12⟩,Vn,q12,Vo⟩:∃s',cp cx K l8.toArray ((l8.drop 11).take 1) (aw,(h++[.row [(0:Int),(),()]]))=some s'/\s'.2=h++[.row [(0:Int),(),()],.row [(0:Int),(),()]]/\Fc ((gH 34 5 6 7 3 0 cg [c0,c1,c2] i h.length).take 15) s'.1:=by
  simp[l8,sV,oq,Fc,gH,Vm,h0,h1,lQ,kL,l0,l1,hi,hr,cz,Qg,Qh,Qi]
 simp[Fc,gH]at Vo;rw[show p12=_ from q12]at Vn;have tW:=fu Co Vn;obtain⟨⟨ay,p13⟩,Vp,yw,Vq⟩:∃s',cp cx K l8.toArray ((l8.drop 12).take 1) (ax,(h++[.row [(0:Int),(),()],.row [(0:Int),(),()]]))=some s'/\s'.2=h++[.row [c0,c1,c2],.row [(0:Int),(),()]]/\Fc ((gH 34 5 6 7 3 0 cg [c0,c1,c2] i h.length).take 15) s'.1:=by
  simp[l8,sV,oq,Fc,gH,Vo,h0,h1,lQ,kL,l0,l1,hi,hr,cz,Qg,Qh,Qi]
 simp[Fc,gH]at Vq;rw[show p13=_ from yw]at Vp;have LH:=fu tW Vp;obtain⟨⟨aA,p14⟩,Vr,q14,Gc⟩:∃s',cp cx K l8.toArray ((l8.drop 13).take 1) (ay,(h++[.row [c0,c1,c2],.row [(0:Int),(),()]]))=some s'/\s'.2=h++[.row [c0,c1,c2],.row [c0,c1,c2]]/\Fc ((gH 34 5 6 7 3 0 cg [c0,c1,c2] i h.length).take 15) s'.1:=by
  simp[l8,sV,oq,Fc,gH,Vq,h0,h1,lQ,kL,l0,l1,hi,hr,cz,Qg,Qh,Qi]
 simp[Fc,gH]at Gc;rw[show p14=_ from q14]at Vr;have r14:=fu LH Vr;refine⟨_,sw PS (by kernel_rfl) (show cp cx K l8.toArray l8 (fr,h)=_ from r14) (by decide) ?_,⟨by simp[Fc,gH,Gc],⟨h.length,h.length+1,Gc.2.2.2.2.2.2.2.2.2.2.2.2.2.2.1,Gc.2.2.2.2.2.2.2.2.2.2.2.2.2.2.2,by simp⟩,?_,?_⟩⟩
 .simp only[PS,List.forall_mem_cons,Qf,false_imp_iff,implies_true,and_true];refine⟨⟨_,_,_,.ls 3 cg false,.ls 3 cg false,rfl,rfl,r1,Co,?_,?_,?_⟩,⟨_,_,_,.ls 3 cg false,.ls 3 cg false,rfl,rfl,r1,tW,?_,?_,?_⟩,⟨_,_,_,.ag [c0,c1,c2],.ag [c0,c1,c2],rfl,rfl,r4,Co,?_,?_,?_⟩,⟨_,_,_,.ag [c0,c1,c2],.ag [c0,c1,c2],rfl,rfl,r4,tW,?_,?_,?_⟩,⟨_,_,_,.ls 3 cg false,.ls 3 cg false,rfl,rfl,r6,Co,?_,?_,?_⟩,⟨_,_,_,.ls 3 cg false,.ls 3 cg false,rfl,rfl,r6,tW,?_,?_,?_⟩,⟨_,_,_,.ls 3 cg false,.ls 3 cg false,rfl,rfl,r6,LH,?_,?_,?_⟩,⟨_,_,_,.ag [c0,c1,c2],.ag [c0,c1,c2],rfl,rfl,r9,Co,?_,?_,?_⟩,⟨_,_,_,.ag [c0,c1,c2],.ag [c0,c1,c2],rfl,rfl,r9,tW,?_,?_,?_⟩,⟨_,_,_,.ag [c0,c1,c2],.ag [c0,c1,c2],rfl,rfl,r9,LH,?_,?_,?_⟩⟩<;>simp[oq,F1,F4,F6,F9,h0,lQ,h1,kL,l0,l1,Qg,Qh,fH,hE,he]
 .show(h++_)[0]?=_;rw[Zd l0];exact h0
 .show(h++_)[1]?=_;rw[Zd l1];exact h1
def Vs(K:iB)(fr:LA)(h:Hp)(cg:List LA)(yb yc yd c0 c1 c2:AV)(i:Nat)(hf:fr.length=116/\gt fr 2= .pt 0 0/\gt fr 3= .pt 1 0/\gt fr 5=i)(h0:h[0]?=some (.row [.ls 3 cg false,yb,yc,yd]))(h1:h[1]?=some (.row [.ls 3 cg false,yb,yc,yd]))(hi:i<cg.length)(hr:cg[i]?=some [c0,c1,c2])(hE:mf cg cg=true)(he:gY [c0,c1,c2] [c0,c1,c2]=true):
 ∃s',rh cx K (Dz Cn.toArray 10 11) (fr,h)=some (.normal,s')/\Sq 34 5 6 7 3 0 cg [.ls 3 cg false,yb,yc,yd] [c0,c1,c2] i s':=by
 rw[show Dz Cn.toArray 10 11=l9.toArray by kernel_rfl];have cz:∀k,cg[i]'k=[c0,c1,c2]:=fT hr;have l0:0<h.length:=(Za.1 h0).1;have l1:1<h.length:=(Za.1 h1).1;have lQ:=fT h0;have kL:=fT h1;have r0:cp cx K l9.toArray (l9.take 0) (fr,h)=some (fr,h):=rfl;obtain⟨⟨aa,p1⟩,e1,q1,F1⟩:∃s',cp cx K l9.toArray ((l9.drop 0).take 1) (fr,h)=some s'/\s'.2=h/\Fc ((gH 34 5 7 6 3 0 cg [c0,c1,c2] i h.length).take 4) s'.1:=by
  simp[l9,sV,oq,Fc,gH,hf,h0,h1,lQ,kL,l0,l1,hi,hr,cz]
 simp[Fc,gH]at F1;rw[show p1=_ from q1]at e1;have r1:=fu r0 e1;obtain⟨⟨ai,p4⟩,e4,q4,F4⟩:∃s',cp cx K l9.toArray ((l9.drop 1).take 3) (aa,(h))=some s'/\s'.2=h/\Fc ((gH 34 5 7 6 3 0 cg [c0,c1,c2] i h.length).take 7) s'.1:=by
  simp[l9,sV,oq,Fc,gH,F1,h0,h1,lQ,kL,l0,l1,hi,hr,cz]
 simp[Fc,gH]at F4;rw[show p4=_ from q4]at e4;have r4:=fu r1 e4;obtain⟨⟨ak,p6⟩,e6,q6,F6⟩:∃s',cp cx K l9.toArray ((l9.drop 4).take 2) (ai,(h))=some s'/\s'.2=h/\Fc ((gH 34 5 7 6 3 0 cg [c0,c1,c2] i h.length).take 9) s'.1:=by
  simp[l9,sV,oq,Fc,gH,F4,h0,h1,lQ,kL,l0,l1,hi,hr,cz]
 simp[Fc,gH]at F6;rw[show p6=_ from q6]at e6;have r6:=fu r4 e6;obtain⟨⟨av,p9⟩,e9,q9,F9⟩:∃s',cp cx K l9.toArray ((l9.drop 6).take 3) (ak,(h))=some s'/\s'.2=h/\Fc ((gH 34 5 7 6 3 0 cg [c0,c1,c2] i h.length).take 12) s'.1:=by
  simp[l9,sV,oq,Fc,gH,F6,h0,h1,lQ,kL,l0,l1,hi,hr,cz]
 simp[Fc,gH]at F9;rw[show p9=_ from q9]at e9;have r9:=fu r6 e9;obtain⟨⟨aw,p11⟩,Vl,yv,Vm⟩:∃s',cp cx K l9.toArray ((l9.drop 9).take 2) (av,(h))=some s'/\s'.2=h++[.row [(0:Int),(),()]]/\Fc ((gH 34 5 7 6 3 0 cg [c0,c1,c2] i h.length).take 14) s'.1:=by
  simp[l9,sV,oq,Fc,gH,F9,h0,h1,lQ,kL,l0,l1,hi,hr,cz,Qg,Qh,Qi]
 simp[Fc,gH]at Vm;rw[show p11=_ from yv]at Vl;have Co:=fu r9 Vl;obtain⟨⟨ax,p12⟩,Vn,q12,Vo⟩:∃s',cp cx K l9.toArray ((l9.drop 11).take 1) (aw,(h++[.row [(0:Int),(),()]]))=some s'/\s'.2=h++[.row [(0:Int),(),()],.row [(0:Int),(),()]]/\Fc ((gH 34 5 7 6 3 0 cg [c0,c1,c2] i h.length).take 15) s'.1:=by
  simp[l9,sV,oq,Fc,gH,Vm,h0,h1,lQ,kL,l0,l1,hi,hr,cz,Qg,Qh,Qi]
 simp[Fc,gH]at Vo;rw[show p12=_ from q12]at Vn;have tW:=fu Co Vn;obtain⟨⟨ay,p13⟩,Vp,yw,Vq⟩:∃s',cp cx K l9.toArray ((l9.drop 12).take 1) (ax,(h++[.row [(0:Int),(),()],.row [(0:Int),(),()]]))=some s'/\s'.2=h++[.row [(0:Int),(),()],.row [c0,c1,c2]]/\Fc ((gH 34 5 7 6 3 0 cg [c0,c1,c2] i h.length).take 15) s'.1:=by
  simp[l9,sV,oq,Fc,gH,Vo,h0,h1,lQ,kL,l0,l1,hi,hr,cz,Qg,Qh,Qi]
 simp[Fc,gH]at Vq;rw[show p13=_ from yw]at Vp;have LH:=fu tW Vp;obtain⟨⟨aA,p14⟩,Vr,q14,Gc⟩:∃s',cp cx K l9.toArray ((l9.drop 13).take 1) (ay,(h++[.row [(0:Int),(),()],.row [c0,c1,c2]]))=some s'/\s'.2=h++[.row [c0,c1,c2],.row [c0,c1,c2]]/\Fc ((gH 34 5 7 6 3 0 cg [c0,c1,c2] i h.length).take 15) s'.1:=by
  simp[l9,sV,oq,Fc,gH,Vq,h0,h1,lQ,kL,l0,l1,hi,hr,cz,Qg,Qh,Qi]
 simp[Fc,gH]at Gc;rw[show p14=_ from q14]at Vr;have r14:=fu LH Vr;refine⟨_,sw PS (by kernel_rfl) (show cp cx K l9.toArray l9 (fr,h)=_ from r14) (by decide) ?_,⟨by simp[Fc,gH,Gc],⟨h.length+1,h.length,Gc.2.2.2.2.2.2.2.2.2.2.2.2.2.2.2,Gc.2.2.2.2.2.2.2.2.2.2.2.2.2.2.1,by simp⟩,?_,?_⟩⟩
 .simp only[PS,List.forall_mem_cons,Qf,false_imp_iff,implies_true,and_true];refine⟨⟨_,_,_,.ls 3 cg false,.ls 3 cg false,rfl,rfl,r1,Co,?_,?_,?_⟩,⟨_,_,_,.ls 3 cg false,.ls 3 cg false,rfl,rfl,r1,tW,?_,?_,?_⟩,⟨_,_,_,.ag [c0,c1,c2],.ag [c0,c1,c2],rfl,rfl,r4,Co,?_,?_,?_⟩,⟨_,_,_,.ag [c0,c1,c2],.ag [c0,c1,c2],rfl,rfl,r4,tW,?_,?_,?_⟩,⟨_,_,_,.ls 3 cg false,.ls 3 cg false,rfl,rfl,r6,Co,?_,?_,?_⟩,⟨_,_,_,.ls 3 cg false,.ls 3 cg false,rfl,rfl,r6,tW,?_,?_,?_⟩,⟨_,_,_,.ls 3 cg false,.ls 3 cg false,rfl,rfl,r6,LH,?_,?_,?_⟩,⟨_,_,_,.ag [c0,c1,c2],.ag [c0,c1,c2],rfl,rfl,r9,Co,?_,?_,?_⟩,⟨_,_,_,.ag [c0,c1,c2],.ag [c0,c1,c2],rfl,rfl,r9,tW,?_,?_,?_⟩,⟨_,_,_,.ag [c0,c1,c2],.ag [c0,c1,c2],rfl,rfl,r9,LH,?_,?_,?_⟩⟩<;>simp[oq,F1,F4,F6,F9,h0,lQ,h1,kL,l0,l1,Qg,Qh,fH,hE,he]
 .show(h++_)[0]?=_;rw[Zd l0];exact h0
 .show(h++_)[1]?=_;rw[Zd l1];exact h1
def ml :List Oper:=[oq (some 72) (.fieldAddr 26 (.tmp 2) 1) 0 "ref.go:276" [],oq (some 73) (.load 24 (.tmp 72)) 24 "ref.go:276" [0],oq (some 74) (.move (.tmp 8)) 3 "ref.go:276" [],oq (some 75) (.indexAddr 24 (.tmp 73) (.tmp 74)) 0 "ref.go:276" [1,2],oq (some 76) (.load 54 (.tmp 75)) 54 "ref.go:276" [3],oq (some 77) (.fieldAddr 26 (.tmp 3) 1) 0 "ref.go:276" [],oq (some 78) (.load 24 (.tmp 77)) 24 "ref.go:276" [5],oq (some 79) (.move (.tmp 8)) 3 "ref.go:276" [],oq (some 80) (.indexAddr 24 (.tmp 78) (.tmp 79)) 0 "ref.go:276" [6,7],oq (some 81) (.load 54 (.tmp 80)) 54 "ref.go:276" [8]]
def uh :List Oper:=[oq (some 72) (.fieldAddr 26 (.tmp 2) 1) 0 "ref.go:276" [],oq (some 73) (.load 24 (.tmp 72)) 24 "ref.go:276" [0],oq (some 74) (.move (.tmp 8)) 3 "ref.go:276" [],oq (some 75) (.indexAddr 24 (.tmp 73) (.tmp 74)) 0 "ref.go:276" [1,2],oq (some 76) (.load 54 (.tmp 75)) 54 "ref.go:276" [3],{oq (some 77) (.fieldAddr 26 (.tmp 3) 1) 0 "ref.go:276" []with after:= #[⟨12,.gcOnly .lateStores⟩]},{oq (some 78) (.load 24 (.tmp 77)) 24 "ref.go:276" []with after:= #[⟨5,.data⟩,⟨12,.gcOnly .lateStores⟩]},{oq (some 79) (.move (.tmp 8)) 3 "ref.go:276" []with after:= #[⟨12,.gcOnly .lateStores⟩]},{oq (some 80) (.indexAddr 24 (.tmp 78) (.tmp 79)) 0 "ref.go:276" []with after:= #[⟨6,.data⟩,⟨7,.data⟩,⟨12,.gcOnly .lateStores⟩]},{oq (some 81) (.load 54 (.tmp 80)) 54 "ref.go:276" []with after:= #[⟨8,.data⟩,⟨12,.gcOnly .lateStores⟩]},oq (some 9) (.alloc 54) 0 "ref.go:276" [],oq (some 10) (.alloc 54) 0 "ref.go:276" [],{oq none (.store 54 (.tmp 9) (.tmp 76)) 0 "ref.go:276" []with after:= #[⟨10,.data⟩,⟨4,.data⟩,⟨0,.phase⟩,⟨1,.phase⟩,⟨2,.phase⟩,⟨3,.phase⟩,⟨4,.phase⟩,⟨5,.textOnly .lateStores⟩,⟨6,.textOnly .lateStores⟩,⟨7,.textOnly .lateStores⟩,⟨8,.textOnly .lateStores⟩,⟨9,.textOnly .lateStores⟩,⟨10,.phase⟩,⟨11,.phase⟩]},{oq none (.store 54 (.tmp 10) (.tmp 81)) 0 "ref.go:276" []with after:= #[⟨11,.data⟩,⟨9,.data⟩,⟨12,.chain⟩,⟨0,.phase⟩,⟨1,.phase⟩,⟨2,.phase⟩,⟨3,.phase⟩,⟨4,.phase⟩,⟨5,.phase⟩,⟨6,.phase⟩,⟨7,.phase⟩,⟨8,.phase⟩,⟨9,.phase⟩,⟨10,.phase⟩,⟨11,.phase⟩,⟨12,.phase⟩]}]
def iT :List Oper:=ml++[oq (some 9) (.alloc 54) 0 "ref.go:276" [],oq (some 10) (.alloc 54) 0 "ref.go:276" [10],oq none (.store 54 (.tmp 9) (.tmp 76)) 0 "ref.go:276" [10,4,0,1,2,3,4,10,11],oq none (.store 54 (.tmp 10) (.tmp 81)) 0 "ref.go:276" [11,9,12,0,1,2,3,4,5,6,7,8,9,10,11,12]]
def iU :List Oper:=ml++[oq (some 10) (.alloc 54) 0 "ref.go:276" [],oq (some 9) (.alloc 54) 0 "ref.go:276" [10],oq none (.store 54 (.tmp 9) (.tmp 76)) 0 "ref.go:276" [11,4,0,1,2,3,4,11,10],oq none (.store 54 (.tmp 10) (.tmp 81)) 0 "ref.go:276" [10,9,12,0,1,2,3,4,5,6,7,8,9,11,10,12]]
def Qu(K:iB)(fr:LA)(h:Hp)(cg:List LA)(yb yc yd c0 c1 c2 c3 c4:AV)(i:Nat)(hf:fr.length=116/\gt fr 2= .pt 0 0/\gt fr 3= .pt 1 0/\gt fr 8=i)(h0:h[0]?=some (.row [yb,.ls 5 cg false,yc,yd]))(h1:h[1]?=some (.row [yb,.ls 5 cg false,yc,yd]))(hi:i<cg.length)(hr:cg[i]?=some [c0,c1,c2,c3,c4])(hE:mf cg cg=true)(he:gY [c0,c1,c2,c3,c4] [c0,c1,c2,c3,c4]=true):
 ∃s',rh cx K (CQ uh.toArray 10 11) (fr,h)=some (.normal,s')/\Sq 72 8 9 10 5 1 cg [yb,.ls 5 cg false,yc,yd] [c0,c1,c2,c3,c4] i s':=by
 rw[show CQ uh.toArray 10 11=iT.toArray by kernel_rfl];have cz:∀k,cg[i]'k=[c0,c1,c2,c3,c4]:=fT hr;have l0:0<h.length:=(Za.1 h0).1;have l1:1<h.length:=(Za.1 h1).1;have lQ:=fT h0;have kL:=fT h1;have r0:cp cx K iT.toArray (iT.take 0) (fr,h)=some (fr,h):=rfl;obtain⟨⟨aa,p1⟩,e1,q1,F1⟩:∃s',cp cx K iT.toArray ((iT.drop 0).take 1) (fr,h)=some s'/\s'.2=h/\Fc ((gH 72 8 9 10 5 1 cg [c0,c1,c2,c3,c4] i h.length).take 4) s'.1:=by
  simp[iT,ml,oq,Fc,gH,hf,h0,h1,lQ,kL,l0,l1,hi,hr,cz]
 simp[Fc,gH]at F1;rw[show p1=_ from q1]at e1;have r1:=fu r0 e1;obtain⟨⟨ai,p4⟩,e4,q4,F4⟩:∃s',cp cx K iT.toArray ((iT.drop 1).take 3) (aa,(h))=some s'/\s'.2=h/\Fc ((gH 72 8 9 10 5 1 cg [c0,c1,c2,c3,c4] i h.length).take 7) s'.1:=by
  simp[iT,ml,oq,Fc,gH,F1,h0,h1,lQ,kL,l0,l1,hi,hr,cz]
 simp[Fc,gH]at F4;rw[show p4=_ from q4]at e4;have r4:=fu r1 e4;obtain⟨⟨ak,p6⟩,e6,q6,F6⟩:∃s',cp cx K iT.toArray ((iT.drop 4).take 2) (ai,(h))=some s'/\s'.2=h/\Fc ((gH 72 8 9 10 5 1 cg [c0,c1,c2,c3,c4] i h.length).take 9) s'.1:=by
  simp[iT,ml,oq,Fc,gH,F4,h0,h1,lQ,kL,l0,l1,hi,hr,cz]
 simp[Fc,gH]at F6;rw[show p6=_ from q6]at e6;have r6:=fu r4 e6;obtain⟨⟨av,p9⟩,e9,q9,F9⟩:∃s',cp cx K iT.toArray ((iT.drop 6).take 3) (ak,(h))=some s'/\s'.2=h/\Fc ((gH 72 8 9 10 5 1 cg [c0,c1,c2,c3,c4] i h.length).take 12) s'.1:=by
  simp[iT,ml,oq,Fc,gH,F6,h0,h1,lQ,kL,l0,l1,hi,hr,cz]
 simp[Fc,gH]at F9;rw[show p9=_ from q9]at e9;have r9:=fu r6 e9;obtain⟨⟨aw,p11⟩,Vl,yv,Vm⟩:∃s',cp cx K iT.toArray ((iT.drop 9).take 2) (av,(h))=some s'/\s'.2=h++[.row [(0:Int),(0:Int),(0:Int),.sc (.string ⟨#[]⟩),()]]/\Fc ((gH 72 8 9 10 5 1 cg [c0,c1,c2,c3,c4] i h.length).take 14) s'.1:=by
  simp[iT,ml,oq,Fc,gH,F9,h0,h1,lQ,kL,l0,l1,hi,hr,cz,Qg,Qh,Qi]
 simp[Fc,gH]at Vm;rw[show p11=_ from yv]at Vl;have Co:=fu r9 Vl;obtain⟨⟨ax,p12⟩,Vn,q12,Vo⟩:∃s',cp cx K iT.toArray ((iT.drop 11).take 1) (aw,(h++[.row [(0:Int),(0:Int),(0:Int),.sc (.string ⟨#[]⟩),()]]))=some s'/\s'.2=h++[.row [(0:Int),(0:Int),(0:Int),.sc (.string ⟨#[]⟩),()],.row [(0:Int),(0:Int),(0:Int),.sc (.string ⟨#[]⟩),()]]/\Fc ((gH 72 8 9 10 5 1 cg [c0,c1,c2,c3,c4] i h.length).take 15) s'.1:=by
  simp[iT,ml,oq,Fc,gH,Vm,h0,h1,lQ,kL,l0,l1,hi,hr,cz,Qg,Qh,Qi]
 simp[Fc,gH]at Vo;rw[show p12=_ from q12]at Vn;have tW:=fu Co Vn;obtain⟨⟨ay,p13⟩,Vp,yw,Vq⟩:∃s',cp cx K iT.toArray ((iT.drop 12).take 1) (ax,(h++[.row [(0:Int),(0:Int),(0:Int),.sc (.string ⟨#[]⟩),()],.row [(0:Int),(0:Int),(0:Int),.sc (.string ⟨#[]⟩),()]]))=some s'/\s'.2=h++[.row [c0,c1,c2,c3,c4],.row [(0:Int),(0:Int),(0:Int),.sc (.string ⟨#[]⟩),()]]/\Fc ((gH 72 8 9 10 5 1 cg [c0,c1,c2,c3,c4] i h.length).take 15) s'.1:=by
  simp[iT,ml,oq,Fc,gH,Vo,h0,h1,lQ,kL,l0,l1,hi,hr,cz,Qg,Qh,Qi]
 simp[Fc,gH]at Vq;rw[show p13=_ from yw]at Vp;have LH:=fu tW Vp;obtain⟨⟨aA,p14⟩,Vr,q14,Gc⟩:∃s',cp cx K iT.toArray ((iT.drop 13).take 1) (ay,(h++[.row [c0,c1,c2,c3,c4],.row [(0:Int),(0:Int),(0:Int),.sc (.string ⟨#[]⟩),()]]))=some s'/\s'.2=h++[.row [c0,c1,c2,c3,c4],.row [c0,c1,c2,c3,c4]]/\Fc ((gH 72 8 9 10 5 1 cg [c0,c1,c2,c3,c4] i h.length).take 15) s'.1:=by
  simp[iT,ml,oq,Fc,gH,Vq,h0,h1,lQ,kL,l0,l1,hi,hr,cz,Qg,Qh,Qi]
 simp[Fc,gH]at Gc;rw[show p14=_ from q14]at Vr;have r14:=fu LH Vr;refine⟨_,sw PS (by kernel_rfl) (show cp cx K iT.toArray iT (fr,h)=_ from r14) (by decide) ?_,⟨by simp[Fc,gH,Gc],⟨h.length,h.length+1,Gc.2.2.2.2.2.2.2.2.2.2.2.2.2.2.1,Gc.2.2.2.2.2.2.2.2.2.2.2.2.2.2.2,by simp⟩,?_,?_⟩⟩
 .simp only[PS,List.forall_mem_cons,Qf,false_imp_iff,implies_true,and_true];refine⟨⟨_,_,_,.ls 5 cg false,.ls 5 cg false,rfl,rfl,r1,Co,?_,?_,?_⟩,⟨_,_,_,.ls 5 cg false,.ls 5 cg false,rfl,rfl,r1,tW,?_,?_,?_⟩,⟨_,_,_,.ag [c0,c1,c2,c3,c4],.ag [c0,c1,c2,c3,c4],rfl,rfl,r4,Co,?_,?_,?_⟩,⟨_,_,_,.ag [c0,c1,c2,c3,c4],.ag [c0,c1,c2,c3,c4],rfl,rfl,r4,tW,?_,?_,?_⟩,⟨_,_,_,.ls 5 cg false,.ls 5 cg false,rfl,rfl,r6,Co,?_,?_,?_⟩,⟨_,_,_,.ls 5 cg false,.ls 5 cg false,rfl,rfl,r6,tW,?_,?_,?_⟩,⟨_,_,_,.ls 5 cg false,.ls 5 cg false,rfl,rfl,r6,LH,?_,?_,?_⟩,⟨_,_,_,.ag [c0,c1,c2,c3,c4],.ag [c0,c1,c2,c3,c4],rfl,rfl,r9,Co,?_,?_,?_⟩,⟨_,_,_,.ag [c0,c1,c2,c3,c4],.ag [c0,c1,c2,c3,c4],rfl,rfl,r9,tW,?_,?_,?_⟩,⟨_,_,_,.ag [c0,c1,c2,c3,c4],.ag [c0,c1,c2,c3,c4],rfl,rfl,r9,LH,?_,?_,?_⟩⟩<;>simp[oq,F1,F4,F6,F9,h0,lQ,h1,kL,l0,l1,Qg,Qh,fH,hE,he]
 .show(h++_)[0]?=_;rw[Zd l0];exact h0
 .show(h++_)[1]?=_;rw[Zd l1];exact h1
def Qv(K:iB)(fr:LA)(h:Hp)(cg:List LA)(yb yc yd c0 c1 c2 c3 c4:AV)(i:Nat)(hf:fr.length=116/\gt fr 2= .pt 0 0/\gt fr 3= .pt 1 0/\gt fr 8=i)(h0:h[0]?=some (.row [yb,.ls 5 cg false,yc,yd]))(h1:h[1]?=some (.row [yb,.ls 5 cg false,yc,yd]))(hi:i<cg.length)(hr:cg[i]?=some [c0,c1,c2,c3,c4])(hE:mf cg cg=true)(he:gY [c0,c1,c2,c3,c4] [c0,c1,c2,c3,c4]=true):
 ∃s',rh cx K (Dz uh.toArray 10 11) (fr,h)=some (.normal,s')/\Sq 72 8 9 10 5 1 cg [yb,.ls 5 cg false,yc,yd] [c0,c1,c2,c3,c4] i s':=by
 rw[show Dz uh.toArray 10 11=iU.toArray by kernel_rfl];have cz:∀k,cg[i]'k=[c0,c1,c2,c3,c4]:=fT hr;have l0:0<h.length:=(Za.1 h0).1;have l1:1<h.length:=(Za.1 h1).1;have lQ:=fT h0;have kL:=fT h1;have r0:cp cx K iU.toArray (iU.take 0) (fr,h)=some (fr,h):=rfl;obtain⟨⟨aa,p1⟩,e1,q1,F1⟩:∃s',cp cx K iU.toArray ((iU.drop 0).take 1) (fr,h)=some s'/\s'.2=h/\Fc ((gH 72 8 10 9 5 1 cg [c0,c1,c2,c3,c4] i h.length).take 4) s'.1:=by
  simp[iU,ml,oq,Fc,gH,hf,h0,h1,lQ,kL,l0,l1,hi,hr,cz]
 simp[Fc,gH]at F1;rw[show p1=_ from q1]at e1;have r1:=fu r0 e1;obtain⟨⟨ai,p4⟩,e4,q4,F4⟩:∃s',cp cx K iU.toArray ((iU.drop 1).take 3) (aa,(h))=some s'/\s'.2=h/\Fc ((gH 72 8 10 9 5 1 cg [c0,c1,c2,c3,c4] i h.length).take 7) s'.1:=by
  simp[iU,ml,oq,Fc,gH,F1,h0,h1,lQ,kL,l0,l1,hi,hr,cz]
 simp[Fc,gH]at F4;rw[show p4=_ from q4]at e4;have r4:=fu r1 e4;obtain⟨⟨ak,p6⟩,e6,q6,F6⟩:∃s',cp cx K iU.toArray ((iU.drop 4).take 2) (ai,(h))=some s'/\s'.2=h/\Fc ((gH 72 8 10 9 5 1 cg [c0,c1,c2,c3,c4] i h.length).take 9) s'.1:=by
  simp[iU,ml,oq,Fc,gH,F4,h0,h1,lQ,kL,l0,l1,hi,hr,cz]
 simp[Fc,gH]at F6;rw[show p6=_ from q6]at e6;have r6:=fu r4 e6;obtain⟨⟨av,p9⟩,e9,q9,F9⟩:∃s',cp cx K iU.toArray ((iU.drop 6).take 3) (ak,(h))=some s'/\s'.2=h/\Fc ((gH 72 8 10 9 5 1 cg [c0,c1,c2,c3,c4] i h.length).take 12) s'.1:=by
  simp[iU,ml,oq,Fc,gH,F6,h0,h1,lQ,kL,l0,l1,hi,hr,cz]
 simp[Fc,gH]at F9;rw[show p9=_ from q9]at e9;have r9:=fu r6 e9;obtain⟨⟨aw,p11⟩,Vl,yv,Vm⟩:∃s',cp cx K iU.toArray ((iU.drop 9).take 2) (av,(h))=some s'/\s'.2=h++[.row [(0:Int),(0:Int),(0:Int),.sc (.string ⟨#[]⟩),()]]/\Fc ((gH 72 8 10 9 5 1 cg [c0,c1,c2,c3,c4] i h.length).take 14) s'.1:=by
  simp[iU,ml,oq,Fc,gH,F9,h0,h1,lQ,kL,l0,l1,hi,hr,cz,Qg,Qh,Qi]
 simp[Fc,gH]at Vm;rw[show p11=_ from yv]at Vl;have Co:=fu r9 Vl;obtain⟨⟨ax,p12⟩,Vn,q12,Vo⟩:∃s',cp cx K iU.toArray ((iU.drop 11).take 1) (aw,(h++[.row [(0:Int),(0:Int),(0:Int),.sc (.string ⟨#[]⟩),()]]))=some s'/\s'.2=h++[.row [(0:Int),(0:Int),(0:Int),.sc (.string ⟨#[]⟩),()],.row [(0:Int),(0:Int),(0:Int),.sc (.string ⟨#[]⟩),()]]/\Fc ((gH 72 8 10 9 5 1 cg [c0,c1,c2,c3,c4] i h.length).take 15) s'.1:=by
  simp[iU,ml,oq,Fc,gH,Vm,h0,h1,lQ,kL,l0,l1,hi,hr,cz,Qg,Qh,Qi]
 simp[Fc,gH]at Vo;rw[show p12=_ from q12]at Vn;have tW:=fu Co Vn;obtain⟨⟨ay,p13⟩,Vp,yw,Vq⟩:∃s',cp cx K iU.toArray ((iU.drop 12).take 1) (ax,(h++[.row [(0:Int),(0:Int),(0:Int),.sc (.string ⟨#[]⟩),()],.row [(0:Int),(0:Int),(0:Int),.sc (.string ⟨#[]⟩),()]]))=some s'/\s'.2=h++[.row [(0:Int),(0:Int),(0:Int),.sc (.string ⟨#[]⟩),()],.row [c0,c1,c2,c3,c4]]/\Fc ((gH 72 8 10 9 5 1 cg [c0,c1,c2,c3,c4] i h.length).take 15) s'.1:=by
  simp[iU,ml,oq,Fc,gH,Vo,h0,h1,lQ,kL,l0,l1,hi,hr,cz,Qg,Qh,Qi]
 simp[Fc,gH]at Vq;rw[show p13=_ from yw]at Vp;have LH:=fu tW Vp;obtain⟨⟨aA,p14⟩,Vr,q14,Gc⟩:∃s',cp cx K iU.toArray ((iU.drop 13).take 1) (ay,(h++[.row [(0:Int),(0:Int),(0:Int),.sc (.string ⟨#[]⟩),()],.row [c0,c1,c2,c3,c4]]))=some s'/\s'.2=h++[.row [c0,c1,c2,c3,c4],.row [c0,c1,c2,c3,c4]]/\Fc ((gH 72 8 10 9 5 1 cg [c0,c1,c2,c3,c4] i h.length).take 15) s'.1:=by
  simp[iU,ml,oq,Fc,gH,Vq,h0,h1,lQ,kL,l0,l1,hi,hr,cz,Qg,Qh,Qi]
 simp[Fc,gH]at Gc;rw[show p14=_ from q14]at Vr;have r14:=fu LH Vr;refine⟨_,sw PS (by kernel_rfl) (show cp cx K iU.toArray iU (fr,h)=_ from r14) (by decide) ?_,⟨by simp[Fc,gH,Gc],⟨h.length+1,h.length,Gc.2.2.2.2.2.2.2.2.2.2.2.2.2.2.2,Gc.2.2.2.2.2.2.2.2.2.2.2.2.2.2.1,by simp⟩,?_,?_⟩⟩
 .simp only[PS,List.forall_mem_cons,Qf,false_imp_iff,implies_true,and_true];refine⟨⟨_,_,_,.ls 5 cg false,.ls 5 cg false,rfl,rfl,r1,Co,?_,?_,?_⟩,⟨_,_,_,.ls 5 cg false,.ls 5 cg false,rfl,rfl,r1,tW,?_,?_,?_⟩,⟨_,_,_,.ag [c0,c1,c2,c3,c4],.ag [c0,c1,c2,c3,c4],rfl,rfl,r4,Co,?_,?_,?_⟩,⟨_,_,_,.ag [c0,c1,c2,c3,c4],.ag [c0,c1,c2,c3,c4],rfl,rfl,r4,tW,?_,?_,?_⟩,⟨_,_,_,.ls 5 cg false,.ls 5 cg false,rfl,rfl,r6,Co,?_,?_,?_⟩,⟨_,_,_,.ls 5 cg false,.ls 5 cg false,rfl,rfl,r6,tW,?_,?_,?_⟩,⟨_,_,_,.ls 5 cg false,.ls 5 cg false,rfl,rfl,r6,LH,?_,?_,?_⟩,⟨_,_,_,.ag [c0,c1,c2,c3,c4],.ag [c0,c1,c2,c3,c4],rfl,rfl,r9,Co,?_,?_,?_⟩,⟨_,_,_,.ag [c0,c1,c2,c3,c4],.ag [c0,c1,c2,c3,c4],rfl,rfl,r9,tW,?_,?_,?_⟩,⟨_,_,_,.ag [c0,c1,c2,c3,c4],.ag [c0,c1,c2,c3,c4],rfl,rfl,r9,LH,?_,?_,?_⟩⟩<;>simp[oq,F1,F4,F6,F9,h0,lQ,h1,kL,l0,l1,Qg,Qh,fH,hE,he]
 .show(h++_)[0]?=_;rw[Zd l0];exact h0
 .show(h++_)[1]?=_;rw[Zd l1];exact h1
end
end Go.Proofs.YtmfohnojaginjaaGreatDoor
