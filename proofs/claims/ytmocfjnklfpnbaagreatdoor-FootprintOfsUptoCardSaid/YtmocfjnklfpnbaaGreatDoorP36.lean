/- Part of the proof. -/
import Derived.Test.YtmocfjnklfpnbaaGreatDoorP35
import Derived.Test.YtmocfjnklfpnbaaGreatDoorP34
import Derived.Shelf.SlSortCmp.InsertionK
import Derived.Shelf.SlSortCmp.Kit1
set_option linter.all false
set_option maxHeartbeats 32000000
set_option maxRecDepth 100000
namespace Go.Proofs.YtmocfjnklfpnbaaGreatDoor
open Go Go.Ae Go.Proofs.Tryz
def RB.zi{s:Bs}{r:cO}(h:RB s r)(c:Cp)(hk:c.kind=2):RB (s.zi c) (r.zi c):=by
 have h1:=h.chk c.e;unfold Bs.zi cO.zi Bs.Rh;rw[cw hk];generalize r.fail (jH r.now c.e false)=r1,s.fail (iM s.now c.e false)=s1 at *;have h2:RB (s1.GU c) (r1.yS c.name):=by
  unfold Bs.GU cO.yS;by_cases h0:s1.e=0
  .rw[h1.2.2 h0];split
   .exact h1
   .exact h1.fail 7
  .refine h1.stuck h0 ?_ ?_ ?_ ?_
   .split
    .exact ES.refl _
    .exact dF _ _
   .split
    .exact ES.refl _
    .exact dF _ _
   .split<;>rfl
   .split<;>rfl
 exact h2.intro _ _
def TE{l:gM}{e:Ep}{w:Bool}(h:iM l e w=0)(ho:e.op=2):db l e.nm≠0:=by
 intro hk;have hm:e.nm∈vO e:=by
  rw[DF];obtain⟨op,v,nm,ds,ks⟩:=e;simp only[Ep.op]at ho;subst ho;rw[kI,u6,cw rfl];exact .inr (by show nm∈ku [] nm;rw[A7];exact .inl rfl)
 unfold iM at h;rw[cw (List.any_eq_true.2 ⟨_,hm,by simpa using hk⟩)]at h;omega
def RC(s:Bs)(r:cO × gM):Prop:=s.e=r.1.e/\s.old=r.1.old/\(s.e=0->s.now=r.2)
def RC.item{s:Bs}{r:cO × gM}(h:RC s r)(x:Ip)(hl:s.now.length<24):RC (s.item x) (p7 r x)/\(s.item x).now.length=s.now.length+1:=by
 have cp:(s.item x).now.length=s.now.length+1:=by
  unfold Bs.item Bs.lK Bs.l7 Bs.intro;have:∀q:Bs,q.now.length<24->(if 24<=q.now.length then q.fail 4 else{q with now:=q.now++[(x.nm,xZ q x)]}).now.length=q.now.length+1:=λq hq=>by
   rw[cv (by omega)];simp
  split
  .exact this _ hl
  .exact this _ hl
 refine⟨?_,cp⟩;obtain⟨r,out⟩:=r;obtain⟨h1,h2,h3⟩:=h;simp only at h1 h2 h3;have sB:ES s.e (s.item x).e/\(s.item x).old=s.old:=by
  unfold Bs.item;rw[Bs.dU];refine⟨?_,by unfold Bs.lK;split<;>rfl⟩;have a1:ES s.e (s.l7 x).e:=dF _ _;have a2:ES (s.l7 x).e ((s.l7 x).lK x).e:=by
   unfold Bs.lK;split
   .exact ES.refl _
   .exact dF _ _
  exact(a1.trans a2).trans (nK _ _ _)
 have sR:ES r.e (p7 (r,out) x).1.e/\(p7 (r,out) x).1.old=r.old:=by
  unfold p7 cO.E7;split
  .exact⟨dF _ _,rfl⟩
  .exact⟨(dF r.e (jH r.old x.e true)).trans (dF _ 7),rfl⟩
 by_cases h0:s.e=0
 .have hn:=h3 h0;have tY:r.e=0:=by rw[<-h1];exact h0
  refine⟨?_,by rw[sB.2,sR.2,h2],?_⟩
  .unfold Bs.item Bs.lK p7 cO.E7;have e1:(s.l7 x).e=(r.fail (jH r.old x.e true)).e:=by
    show cS s.e (iM s.old x.e true)=cS r.e (jH r.old x.e true);rw[wD,h1,h2]
   have n1:(s.l7 x).now=out:=hn;rw[n1];by_cases k0:db out x.nm=0
   .rw[cw k0];simp only[k0,if_true];rw[zD,n1,cv (by rw[<-hn];omega),e1]
   .rw[cv k0];simp only[k0,if_false];rw[zD,cv (by show¬24<=s.now.length;omega)];show cS (s.l7 x).e 7=cS _ 7;rw[e1]
  .intro he;have rO:iM s.old x.e true=0:=by
    apply Classical.byContradiction;intro gE;have e1:(s.l7 x).e≠0:=by show cS s.e _≠0;unfold cS;rw[cw h0];exact gE
    have a2:ES (s.l7 x).e (s.item x).e:=by
     unfold Bs.item;refine ES.trans ?_ (nK _ _ _);unfold Bs.lK;split
     .exact ES.refl _
     .exact dF _ _
    have:=a2 e1;rw[he]at this;exact e1 this.symm
   have hK:xZ ((s.l7 x).lK x) x=Cu r x:=by
    have ho:((s.l7 x).lK x).old=s.old:=by unfold Bs.lK;split<;>rfl
    unfold xZ Cu;rw[ho,h2];by_cases co:x.e.op=2
    .rw[cw co,cw co,cv (by rw[<-h2];exact TE rO co)]
    .rw[cv co,cv co]
   show(s.item x).now=out++[(x.nm,Cu r x)];unfold Bs.item Bs.intro;have Mb:((s.l7 x).lK x).now=out:=by unfold Bs.lK;split<;>exact hn
   rw[Mb,cv (by rw[<-hn];omega),hK]
 .have e1:=sB.1 h0;have e2:=sR.1 (by rw[<-h1];exact h0);exact⟨by rw[e1,e2,h1],by rw[sB.2,sR.2,h2],λq=>absurd (e1▸q) h0⟩
def RC.items :∀(l:List Ip){s:Bs}{r:cO × gM},RC s r->s.now.length+l.length<=24->RC (l.foldl Bs.item s) (l.foldl p7 r)
 | [],s,r,h,_=>h
 |
  x::l,s,r,h,hl=>by
  rw[Ys]at hl;obtain⟨h1,h2⟩:=h.item x (by omega);exact RC.items l h1 (by rw[h2];omega)
def RB.gw{s:Bs}{r:cO}(h:RB s r)(c:Cp)(hl:c.items.length<=24):RB (s.gw c) ((((r.gw c.items).i_ (c.order.map λx=>x.e))).i_ c.eu):=by
 have h1:RC {s with now:=[]} (r,[]):=⟨h.1,h.2.1,λ_=>rfl⟩;have h2:=RC.items c.items h1 (by simpa using hl);have h3:RB (c.items.foldl Bs.item {s with now:=[]}) (r.gw c.items):=h2;unfold Bs.gw;exact(h3.i_ _).i_ _
def u7 :∀(l:List Int)(e:Int),gG e l=0->e=0/\∀x∈l,x=0
 | [],e,h=>⟨h,λx hx=>by simp at hx⟩
 |
  a::l,e,h=>by
  rw[jQ]at h;obtain⟨h1,h2⟩:=u7 l _ h;unfold cS at h1;have he:e=0:=by
   by_cases c:e=0
   .exact c
   .rw[cv c]at h1;exact h1
  rw[cw he]at h1;refine⟨he,λx hx=>?_⟩;rcases Yv.1 hx with rfl|hx
  .exact h1
  .exact h2 x hx
def TF{e:Ep}(h:Lf e=true)(l:gM)(w:Bool):iM l e w=0:=by
 rw[<-wD];obtain⟨op,v,nm,ds,ks⟩:=e;obtain⟨k,n,d,s,f,vl⟩:=v;rw[Lf]at h;unfold CW at h;simp only[Zh,Zy]at h;obtain⟨h0,_,_,_,hk⟩:=h;have:ks=[]:=Xp.1 hk;subst this;subst h0;simp[jH,xx,Og,kI,gz,mG,uz,cS]
def RB.lL{s:Bs}{r:cO}(h:RB s r)(x:Sp)(hx:oA x=0):RB (s.lL x) (r.lL x):=by
 unfold Bs.lL cO.lL;by_cases hz:dn x.label ⟨#[]⟩=true
 .rw[cw hz,hz];exact(h.elem x.var false).chk x.e
 .rw[cv hz];simp only[Xs]at hz;rw[hz];have hze:Lf x.e=true:=by
   unfold oA VS at hx;rw[hz]at hx;simp only[Bool.not_false,Bool.true_and,Bool.false_and,Yl,if_false]at hx;cases hq:Lf x.e with
   |true=>rfl
   |false=>rw[hq]at hx;simp at hx
  rw[TF hze];have h1:=h.elem x.var true;have e0:∀q:Bs,q.fail 0=q:=λq=>by unfold Bs.fail;rw[uF]
  rw[e0];exact h1
def RB.sets :∀(l:List Sp){s:Bs}{r:cO},RB s r->(∀x∈l,oA x=0)->RB (l.foldl Bs.lL s) (r.sets l)
 | [],s,r,h,_=>h
 |x::l,s,r,h,hl=>RB.sets l (h.lL x (hl x (by simp))) λy hy=>hl y (by simp[hy])
def RB.names :∀(l:List ByteArray){s:Bs}{r:cO},RB s r->RB (l.foldl (λs nm=>s.elem nm true) s) (r.elems l)
 | [],s,r,h=>h
 |x::l,s,r,h=>RB.names l (h.elem x false)
def RB.clause{s:Bs}{r:cO}(h:RB s r)(ho:gQ r)(c:Cp)(hk:r.kd=c.kind)(hc:iq c=0):RB (s.qF c) (r.clause c):=by
 unfold iq at hc;split at hc
 .omega
 rename_i k1;split at hc
 .omega
 rename_i k8;split at hc
 .omega
 rename_i dO;split at hc
 .omega
 rename_i hcr;have aep:∀x∈c.sets,oA x=0:=by
  unfold tc at hc;obtain⟨h1,_⟩:=u7 _ _ hc;obtain⟨_,h2⟩:=u7 _ _ h1;exact λx hx=>h2 _ (List.mem_flatMap.2 ⟨x,hx,by simp⟩)
 clear hc;unfold rY at dO;simp only[Yx,not_or]at dO;obtain⟨_,⟨hp,hw⟩,⟨_,hio⟩,_,hse,hnm⟩:=dO;have Bi:∀{α:Type}(l:List α)(b:Bool),¬(decide (0<l.length) && !b)=true->b=false->l=[]:=λl b h hb=>by
  subst hb;simp at h;exact h
 have p0:¬(c.kind=1\/c.kind=5\/c.kind=6)->c.paths=[]:=λq=>Bi _ _ hp (by simpa using q)
 have w0:¬(c.kind=1\/c.kind=3)->c.eu=[]:=λq=>Bi _ _ hw (by simpa using q)
 have s0:¬c.kind=7->c.sets=[]:=λq=>Bi _ _ hse (by simpa using q)
 have n0:¬c.kind=8->c.names=[]:=λq=>Bi _ _ hnm (by simpa using q)
 have Cr:c.eu.map (λx=>x)=c.eu:=List.map_id' _;have eP:c.paths=[]->r.xE c.paths=r:=λq=>by rw[q];rfl
 have eU:¬c.kind=2->∀q:cO,q.zi c=q:=λq s=>by unfold cO.zi;rw[cv q]
 have eC:¬(c.kind=3\/c.kind=4)->∀q:cO,q.kK c=q:=λq s=>by unfold cO.kK;rw[cv q]
 have eW:c.eu=[]->∀q:cO,q.i_ c.eu=q:=λq s=>by rw[q];rfl
 have eS:c.sets=[]->∀q:cO,q.sets c.sets=q:=λq s=>by rw[q];rfl
 have eN:c.names=[]->∀q:cO,q.elems c.names=q:=λq s=>by rw[q];rfl
 unfold Bs.qF cO.clause;rw[Cr];by_cases a:c.kind=1\/c.kind=5\/c.kind=6
 .rw[cw a,eU (by omega),eC (by omega),eS (s0 (by omega)),eN (n0 (by omega))];unfold Bs.paths;have:=RB.paths c.paths h ho;rw[hk]at this;exact this.i_ _
 rw[cv a,eP (p0 a)];by_cases b:c.kind=2
 .rw[cw b,eC (by omega),eW (w0 (by omega)),eS (s0 (by omega)),eN (n0 (by omega))];exact h.zi c b
 rw[cv b,eU b];by_cases d:c.kind=3\/c.kind=4
 .rw[cw d,eS (s0 (by omega)),eN (n0 (by omega))];have iJ:c.items.length<=24:=by
   unfold xX Gv at hcr;rw[cv (by omega),cv (by omega),cw d]at hcr;simp only[Yx,not_or]at hcr;have:=hcr.1;unfold inC at this;simp at this;omega
  have:=h.gw c iJ;unfold cO.kK;rw[cw d];exact this
 rw[cv d,eC d,eW (w0 (by omega))];by_cases e:c.kind=7
 .rw[cw e,eN (n0 (by omega))];exact RB.sets _ h aep
 rw[cv e,eS (s0 e)];have f:c.kind=8:=by omega
 rw[cw f];exact RB.names _ h
def Fj{T:gM × Int × Int}{s:St}{y:AV}(h4:gt s.1 4=y)(h5:gt s.1 5=T.2.1)(h6:gt s.1 6=T.2.2)(hy:iV s.2 T.1 y):
 ∃r0 r1,pE ⟨f22.ntmps,(f22.body).getD .skip,[.tmp 4,.tmp 5,.tmp 6]⟩ s=some r0/\da s.2 8 r0=some r1/\∀w X v,Ri w X v r1->Ri w X v (.tp [uX T.1,T.2.1,T.2.2]):=by
 obtain⟨y1,hs,hw⟩:=Om 5 hy;refine⟨.tp [y,T.2.1,T.2.2],.tp [y1,T.2.1,T.2.2],?_,?_,λw X v h=>Tb h λu=>hw w X u⟩
 .unfold pE;simp only[Zo,List.mapM_nil,vu];change(do let a<-some (gt s.1 4);let b<-(do let b<-some (gt s.1 5);let c<-(do let c<-some (gt s.1 6);pure (c:: []));pure (b::c));pure (a::b):Option LA).map AV.tp=_;rw[h4,h5,h6];rfl
 .rw[da];simp only[Zo,List.mapM_nil,hs];rfl
def DH(hC:kg cx)(D d k:Nat)(l:List Cp)(hl:l.length<=10^6)(hb:∀c∈l,AJ D d c)(hd:∀c∈l,Cg D d c)(zc:∀c∈l,c.items.length<=10^6)(hx:∀c∈l,∀p∈c.paths,yO p):
 iG cx 22 [.ag (gL l),k] (.tp [uX (j6 l k).1,.sc (.int .i64 (j6 l k).2.1),.sc (.int .i64 (j6 l k).2.2)]):=by
 have hF:cx.F 22=some ⟨f22.ntmps,(f22.body).getD .skip,[.tmp 4,.tmp 5,.tmp 6]⟩:=by kernel_rfl
 obtain⟨p1,p2,p3⟩:=hC.base.Ht _ _ hF;have cP:2<=f22.ntmps:=by decide
 refine E9 (xs:=[.ag (gL l),.sc (.int .i64 (k:Nat))]) (m:=8) p1 p3 cP ?_;change HG cx wR ([.ag [.ls 21 (m_ l) false],.sc (.int .i64 (k:Nat))]++List.replicate 58 .un,[]) _;have ae:=λb h=>N8 D d (2*D+3*d+100) b l h hd hx (by omega)
 unfold gL at ae;generalize hM:2*D+3*d+100=M at ae;have yM:=(gH hC M).1;have Cn:=(gH hC M).2;have aiU:n_ l.length (k:Int)=min k l.length:=by
  unfold n_;omega
 have hq:=jj l;have loop:=λfr=>XP hC D d M (min k l.length) l (by omega) hl hb hd zc (by omega) fr
 unfold j6;rw[aiU];rw[show wR= .seq (cL (cT 0 wR)) (.seq (cL (cT 1 wR)) (.seq (cL (cT 2 wR)) (.seq (cL (cT 3 wR)) (.seq (.seq (cL (cL (cT 4 wR))) (.block 0 (.loop Ta))) (cT 5 wR))))) by kernel_rfl];obtain⟨fr0,a0,a1,a2,a3⟩:=aiE M (m_ l) k ([.ag [.ls 21 (m_ l) false],.sc (.int .i64 (k:Nat))]++List.replicate 58 .un) rfl rfl rfl;refine nq (kG hC.base yM Cn (by kernel_rfl) (by kernel_rfl) a0 ⟨λ_=>?_,λq=>absurd rfl q⟩);obtain⟨FJ,b0,b1,b2,b3,b4⟩:=aiF M (m_ l) k _ _ fr0 a1 a2 a3 ae;refine nq (kG hC.base yM Cn (by kernel_rfl) (by kernel_rfl) b0 ?_);by_cases he:(fW l).2=0
 .rw[cw he,cw he];refine⟨λ_=>?_,λq=>absurd rfl q⟩;obtain⟨Lm,c0,c1,c2,c3⟩:=aiG M (m_ l) k FJ b1 b2 b3;refine nq (kG hC.base yM Cn (by kernel_rfl) (by kernel_rfl) c0 ⟨λ_=>?_,λq=>absurd rfl q⟩);obtain⟨fr3,d0,d1,d2,d3,d4⟩:=aiH M [qB (m_ l) false] Lm c1;refine nq (kG hC.base yM Cn (by kernel_rfl) (by kernel_rfl) d0 ⟨λ_=>?_,λq=>absurd rfl q⟩);obtain⟨fr4,e0,e1,e2,e3,e4,e5⟩:=aiI M [qB (m_ l) false] fr3 d1;refine nq (nq (kG hC.base yM Cn (by kernel_rfl) (by kernel_rfl) e0 ⟨λ_=>?_,λq=>absurd rfl q⟩));have X8:(min (k:Int) ((m_ l).length:Int))=((min k l.length:Nat):Int):=by rw[hq];omega
  refine HH (loop fr4 e1 (by rw[e2,d2,c2,X8]) (by rw[e3,d3,c3]) (by rw[e4,d4]) e5) ?_;rintro o s (⟨rfl,w1,w2,y,w3,w4⟩|⟨rfl,w1,w2,w3,w4,w5⟩)
  .refine⟨λ_=>?_,λq=>absurd rfl q⟩;obtain⟨cG,h'⟩:=s;obtain⟨fr5,x0,x1,x2,x3,x4⟩:=aiJ M h' y cG w1 w3 (λv=>w4.np v);refine kG hC.base yM Cn (by kernel_rfl) (by kernel_rfl) x0 ⟨.inr rfl,?_⟩;exact Fj x2 (by rw[w2];exact x3) (by rw[w2];exact x4) w4
  .refine⟨λq=>(by cases q),λ_=>⟨.inr rfl,?_⟩⟩;exact Fj w2 w3 w4 (.inl (.inl ⟨by rw[w5];rfl,rfl⟩))
 .rw[cv he,cv he];refine⟨λq=>(by cases q),λ_=>⟨.inr rfl,?_⟩⟩;obtain⟨w2,w3,w4⟩:=b4 he;exact Fj (T:=([],(fW l).1,(fW l).2)) w2 w3 w4 (.inl (.inl ⟨rfl,rfl⟩))
section
attribute [local simp] ew eY cF
noncomputable def qR :Code:=(f21.body).getD .skip
def PKr(r:Option (Out × St))(a e:Int):Prop:=∃r0 h' c,dT [.tmp 2,.tmp 3,.tmp 4] r=some (r0,h')/\da h' 8 r0=some (.tp [c,a,e])
section walk
variable (K : Bool -> FuncId -> LA -> Hp -> Option (AV × Hp))
def aeq(names:List ByteArray)(fr:LA)(h:Hp)(y:AV)(cp:fr.length=48)(g8:gt fr 8=y)(hy:ka h 1 (eE names) y):PKr (dd cx K (cT 5 qR) (fr,h)) 0 0:=by
 have q1:=akN (λv=>hy.np v)
 have jx:=gf (n:=6) (by omega) (g_ _).1 (g_ _).2 hy;refine⟨.tp [y,(0:Int),(0:Int)],h,eH 1 (eE names),?_,?_⟩
 .simp[qR,cT,cR,f21,cp,g8,q1]
 .rw[da];simp only[Zo,List.mapM_nil,jx];rfl
def aer(sc:gM)(z:Bool)(Px:sc.length<=10^6)(cq:List LA)(m:Nat)(row:LA)(kd:Int)(fr:LA)(h:Hp)(cp:fr.length=48)(g1:gt fr 1= .pt 0 0)(g5:gt fr 5= .ls 2 (ib sc) z)(g8:gt fr 8=())(hh:h[0]?=some (qB cq false))(hm:cq.length=m+1)(hm6:m<=1000000)(hr:cq[m]?=some row)(hk:row[0]?=some (.sc (.int .i64 kd))):
 PKr (dd cx K (.seq (cL (cT 4 qR)) (cT 5 qR)) (fr,h)) 0 0:=by
 have tail:=λnames fr h y cp g8 hy=>aeq K names fr h y cp g8 hy
 generalize cT 5 qR=Z at tail|-;have tV:dA .i64 (((m+1:Nat):Int)-1)=(m:Int):=by
  rw[cK (by omega) (by omega)];omega
 have cC:∀k,cq[m]'k=row:=λkx=>by obtain⟨_,e⟩:=Za.1 hr;exact e
 have kD:∀q,row[0]'q=kd:=λq=>by have:=Zb q;rw[hk]at this;exact(Option.some.inj this).symm
 have IK:m<cq.length:=by clear tV;omega
 generalize hL:((m+1:Nat):Int)=L at tV;have hmL:(cq.length:Int)=L:=by rw[hm];exact hL
 have hh':=dh hh;by_cases k4:kd=4
 .subst k4;have hq:=fl sc;have hg:=zf sc;generalize ib sc=rs at *;simp[qR,cT,cR,cL,f21,cp,g1,hh,hmL,tV,cC,hk,IK];generalize cU:dd cx K (.loop _) _=XX;refine gk cU (λi st cD=>st.length=48/\gt st 5= .ls 2 rs z/\gt st 9=i/\∃y,gt st 8=y/\ka cD 1 (eE ((sc.take i).map (·.1))) y) (λo st cD=>o= .exit 0/\st.length=48/\∃y,gt st 8=y/\ka cD 1 (eE (sc.map (·.1))) y) sc.length (by simp;omega) ⟨by simp[cp],by simp[g5],by simp[cp],_,by simp[g8],.inl ⟨rfl,rfl⟩⟩ ?_ ?_
  .clear cU XX cp g1 g5 g8 hh hh' tV hmL hL hr cC tail;rintro i fr hp cP ⟨cp,h5,h9,y,h8,hy⟩;rcases dY hg cP with⟨x,hi,hx,hr,cC⟩|rfl
   .have fH:i<=10^15:=by omega
    have dO:(sc.take (i+1)).map (·.1)=(sc.take i).map (·.1)++[x.1]:=by rw[jX hx];simp
    have q3:=akN (λv=>hy.np v)
    have iB:((sc.take i).map (·.1)).length<=10^9:=by simp;omega
    obtain⟨lB,h4,b1,b2,b3,b4⟩:=iy (t:=47) kp rfl hp [x.1] (eE ((sc.take i).map (·.1))) y hy rfl (g_ _).1 (by omega) (by rw[cI];exact iB) (by omega);have xW:=Ab (sz:=1) b2;rw[<-nX,<-dO]at xW;unfold Pw at hr cC;have hf:=cz fH;generalize(eE ((sc.take i).map (·.1))).length=q at b1 xW;simp[cp,h5,h9,h8,hi,hq,cC,q3,b1,hf];simpa using xW
   .rw[Xq]at hy;simp[cp,h5,h9,hq];rw[h8];exact hy
  .rintro o cG h' rfl ⟨rfl,cp,y,h8,hy⟩;simp;exact tail _ _ _ _ cp h8 hy
 .simp[qR,cT,cR,cL,f21,cp,g1,hh,hmL,tV,cC,hk,IK,k4];exact tail [] _ _ _ (by simp[cp]) (by simp[g8]) (.inl ⟨rfl,rfl⟩)
def X9(sc:gM)(z:Bool)(a e:Int)(Px:sc.length<=10^6)(cq:List LA)(hr6:cq.length<=10^6)(ae:∀t h,K t 22 [.ag [.ls 21 cq false],cq.length] h=some (.tp [.ls 2 (ib sc) z,a,e],h))(he:e=0->a=0/\∃m row kd,cq.length=m+1/\cq[m]?=some row/\row[0]?=some (.sc (.int .i64 kd))):PKr (dd cx K qR ([.ag [.ls 21 cq false]]++List.replicate 47 .un,[])) a e:=by
 have p4:=λm row kd fr h cp g1 g5 g8 hh hm hm6 hr hk=>aer K sc z Px cq m row kd fr h cp g1 g5 g8 hh hm hm6 hr hk
 rw[show qR= .seq (cL (cT 0 qR)) (.seq (cL (cT 1 qR)) (.seq (cL (cT 2 qR)) (.seq (cL (cT 3 qR)) (.seq (cL (cT 4 qR)) (cT 5 qR))))) by kernel_rfl];generalize Code.seq (cL (cT 4 qR)) (cT 5 qR)=Z at p4|-;by_cases c:e=0
 .obtain⟨rfl,m,row,kd,h1,h2,h3⟩:=he c;subst c;have p4':=λfr h cp g1 g5 g8 hh=>p4 m row kd fr h cp g1 g5 g8 hh h1 (by omega) h2 h3
  simp[qR,cT,cR,cL,f21,ae];exact p4' _ _ rfl rfl rfl rfl rfl
 .clear p4;refine⟨.tp [(),a,e],[qB cq false],.sc (.slice none 0 0),?_,?_⟩
  .simp[qR,cT,cR,cL,f21,ae,c]
  .rfl
end walk
def Ib :∀(l:List Cp)(v:gM)(i:Nat),(oX l v i).2.2=0->(oX l v i).2.1=0
 | [],v,i,_=>rfl
 |
  c::l,v,i,h=>by
  rw[oX]at h|-;split at h
  .rename_i he;rw[cw he];exact Ib l _ _ h
  .rename_i he;exact absurd h he
def DI :∀(l:List Cp)(v:gM)(i:Nat),v.length<=10^6->(∀c∈l,c.items.length<=10^6)->(oX l v i).1.length<=10^6
 | [],v,i,h,_=>h
 |
  c::l,v,i,h,hi=>by
  rw[oX];split
  .exact DI l _ _ (gQ.clause (s:=⟨v,v,c.kind,0⟩) ⟨h,h⟩ c (hi c (by simp))).1.now λx hx=>hi x (by simp[hx])
  .simp
def Oy(hC:kg cx)(D d:Nat)(l:List Cp)(hl:l.length<=10^6)(hb:∀c∈l,AJ D d c)(hd:∀c∈l,Cg D d c)(zc:∀c∈l,c.items.length<=10^6)(hx:∀c∈l,∀p∈c.paths,yO p):
 iG cx 21 [.ag (gL l)] (.tp [.ud,.sc (.int .i64 (j6 l l.length).2.1),.sc (.int .i64 (j6 l l.length).2.2)]):=by
 have hS:=DH hC D d l.length l hl hb hd zc hx;have hq:=jj l;have cp:(j6 l l.length).1.length<=10^6:=by
  unfold j6;split
  .exact DI _ _ _ (by simp) λc hc=>zc c (List.mem_of_mem_take hc)
  .simp
 have he:(j6 l l.length).2.2=0->(j6 l l.length).2.1=0/\∃m row kd,(m_ l).length=m+1/\(m_ l)[m]?=some row/\row[0]?=some (.sc (.int .i64 kd)):=by
  intro h0;unfold j6 at h0|-;by_cases xc:(fW l).2=0
  .rw[cw xc]at h0|-;have gE:l≠ []:=by rintro rfl;simp[fW]at xc
   obtain⟨m,hm⟩:∃m,l.length=m+1:=⟨l.length-1,by have:=List.length_pos_iff.2 gE;omega⟩;obtain⟨c,hc⟩:∃c,l[m]?=some c:=⟨_,Zb (by omega)⟩;refine⟨Ib _ _ _ h0,m,cA c,c.kind,by rw[hq,hm],by rw[oQ,hc];rfl,?_⟩;obtain⟨c0,c1,c2,c3,c4,c5,c6,c7,c8,gC,ta⟩:=qG c;rw[ta];rfl
  .rw[cv xc]at h0;exact absurd h0 xc
 have cP:1<=f21.ntmps:=by decide
 have Lu:((m_ l).length:Int)=(l.length:Int):=by rw[hq]
 have hF:cx.F 21=some ⟨f21.ntmps,(f21.body).getD .skip,[.tmp 2,.tmp 3,.tmp 4]⟩:=by kernel_rfl
 unfold gL at *;generalize vq:([.ag [.ls 21 (m_ l) false],.sc (.int .i64 (l.length:Nat))]:LA)=ys,hr:AV.tp [uX (j6 l l.length).1,.sc (.int .i64 (j6 l l.length).2.1),.sc (.int .i64 (j6 l l.length).2.2)]=r at hS;obtain⟨r0,h',cc,w1,w2⟩:=X9 (λb g zs h=>match @ite _ (g=22/\zs=ys) (Classical.propDecidable _) (some r) none with|some q=>some (q,h)|none=>cu cx 1 b g zs h) (j6 l l.length).1 (j6 l l.length).1.isEmpty _ _ cp (m_ l) (by omega) (λt h=>by rw[Lu,vq,<-hr];simp[uX]) he;have hp:iG cx 21 [.ag [.ls 21 (m_ l) false]] _:=su hC (n:=1) (T:=λg zs=> @ite _ (g=22/\zs=ys) (Classical.propDecidable _) (some r) none) (λf xs q hq=>by
  split at hq
  .rename_i hc;cases hq;obtain⟨rfl,rfl⟩:=hc;exact⟨by rw[<-vq];rfl,hS⟩
  .cases hq) (by rw[nQ (args:=[.ag [.ls 21 (m_ l) false]]) hF (by kernel_rfl) cP];exact w1) w2
 exact λw X vs h1 h2 h3 h4=>⟨(hp w X vs h1 h2 h3 h4).1,(hp w X vs h1 h2 h3 h4).2.mono λe w' ⟨v,he,dO,yJ⟩=>⟨v,he,dO,Tb yJ λu _=> .ud u⟩⟩
end
def DJ :∀(l:List Cp)(s:Bs)(i:Nat),(∀c∈l,iq c=0/\c.items.length<=10^6)->s.e=0->s.now.length<=10^6->oX l s.now i=ic l s i
 | [],s,i,_,_,_=>rfl
 |
  c::l,s,i,hl,h0,hn=>by
  have h1:RB ({s with old:=s.now}:Bs) ⟨s.now,s.now,c.kind,0⟩:=⟨h0,rfl,λ_=>rfl⟩;have ho:gQ ⟨s.now,s.now,c.kind,0⟩:=⟨hn,hn⟩;have h2:=h1.clause ho c rfl (hl c (by simp)).1;have ho2:=(ho.clause c (hl c (by simp)).2).1;change RB (s.clause c) _ at h2;rw[oX,ic,<-h2.1];by_cases he:(s.clause c).e=0
  .rw[cw he,cw he,<-h2.2.2 he];exact DJ l _ _ (λx hx=>hl x (by simp[hx])) he (by rw[h2.2.2 he];exact ho2.now)
  .rw[cv he,cv he]
def Bv :∀(l:List Cp)(m i:Nat),(pO m l i).2=0->∀c∈l,iq c=0
 | [],m,i,_,c,hc=>by simp at hc
 |
  a::l,m,i,h,c,hc=>by
  rw[pO]at h;by_cases h0:iq a=0
  .rw[cw h0]at h;split at h
   .simp at h
   .rcases Yv.1 hc with rfl|hc
    .exact h0
    .exact Bv l m (i+1) h c hc
  .rw[cv h0]at h;exact absurd h h0
def yq{l:List Cp}(h:(fW l).2=0):∀c∈l,iq c=0:=by
 unfold fW at h;split at h
 .simp at h
 .split at h
  .simp at h
  .exact Bv l _ _ h
def Bw(l:List Cp)(n:Int)(zc:∀c∈l,c.items.length<=10^6):j6 l n=dK l n:=by
 unfold j6 dK;by_cases h:(fW l).2=0
 .rw[cw h,cw h];exact DJ (l.take (n_ l.length n)) ⟨[],[],0⟩ 0 (λc hc=>⟨yq h c (List.mem_of_mem_take hc),zc c (List.mem_of_mem_take hc)⟩) rfl (by simp)
 .rw[cv h,cv h]
def Kv(hC:kg cx)(D d k:Nat)(l:List Cp)(hl:l.length<=10^6)(hb:∀c∈l,AJ D d c)(hd:∀c∈l,Cg D d c)(zc:∀c∈l,c.items.length<=10^6)(hx:∀c∈l,∀p∈c.paths,yO p):
 iG cx 22 [.ag (gL l),k] (.tp [uX (dK l k).1,.sc (.int .i64 (dK l k).2.1),.sc (.int .i64 (dK l k).2.2)]):=by
 rw[<-Bw l k zc];exact DH hC D d k l hl hb hd zc hx
def Kw(hC:kg cx)(D d:Nat)(l:List Cp)(hl:l.length<=10^6)(hb:∀c∈l,AJ D d c)(hd:∀c∈l,Cg D d c)(zc:∀c∈l,c.items.length<=10^6)(hx:∀c∈l,∀p∈c.paths,yO p):
 iG cx 21 [.ag (gL l)] (.tp [.ud,.sc (.int .i64 (gv l).2.1),.sc (.int .i64 (gv l).2.2)]):=by
 have:=Oy hC D d l hl hb hd zc hx;rw[Bw l _ zc]at this;exact this
def zF{a e:Int}(h:cS a e=0):a=0/\e=0:=by
 unfold cS at h;by_cases c:a=0
 .rw[cw c]at h;exact⟨c,h⟩
 .rw[cv c]at h;exact absurd h c
def TG{s:Bs}{nm:ByteArray}{b:Bool}(h:(s.elem nm b).e=0):s.e=0/\(db s.now nm=1\/db s.now nm=2):=by
 unfold Bs.elem at h;split at h
 .have:=(zF (a:=s.e) h).2;omega
 .split at h
  .rename_i h1;exact⟨h,.inl h1⟩
  .split at h
   .rename_i h2;split at h
    .exact⟨h,.inr h2⟩
    .have:=(zF (a:=s.e) h).2;omega
   .have:=(zF (a:=s.e) h).2;omega
def Ic(s:Bs)(nm:ByteArray)(b:Bool):(s.elem nm b).now=s.now:=by
 unfold Bs.elem
 repeat' split
 all_goals rfl
def TH :∀(l:List Sp)(s:Bs),(l.foldl Bs.lL s).e=0->s.e=0/\∀x∈l,db s.now x.var=1\/db s.now x.var=2
 | [],s,h=>⟨h,λx hx=>by cases hx⟩
 |
  a::l,s,h=>by
  rw[Yi]at h;obtain⟨h1,h2⟩:=TH l _ h;have h3:=(zF (a:=(s.elem a.var (dn a.label ⟨#[]⟩)).e) h1).1;obtain⟨h4,h5⟩:=TG h3;have hn:(s.lL a).now=s.now:=Ic s _ _;refine⟨h4,λx hx=>?_⟩;rcases Yv.1 hx with rfl|hx
  .exact h5
  .have:=h2 x hx;rwa [hn]at this
def Mo :∀(l:List ByteArray)(s:Bs),(l.foldl (λs nm=>s.elem nm true) s).e=0->s.e=0/\∀x∈l,db s.now x=1\/db s.now x=2
 | [],s,h=>⟨h,λx hx=>by cases hx⟩
 |
  a::l,s,h=>by
  rw[Yi]at h;obtain⟨h1,h2⟩:=Mo l _ h;obtain⟨h4,h5⟩:=TG h1;refine⟨h4,λx hx=>?_⟩;rcases Yv.1 hx with rfl|hx
  .exact h5
  .have:=h2 x hx;rwa [Ic]at this
def aci{s:Bs}{c:Cp}(hc:iq c=0)(he:(s.clause c).e=0):(∀x∈c.sets,db s.now x.var=1\/db s.now x.var=2)/\∀x∈c.names,db s.now x=1\/db s.now x=2:=by
 unfold iq at hc;split at hc
 .omega
 split at hc
 .omega
 split at hc
 .omega
 rename_i dO;clear hc;unfold rY at dO;simp only[Yx,not_or]at dO;obtain⟨_,⟨_,_⟩,⟨_,_⟩,_,hse,hnm⟩:=dO;have Bi:∀{α:Type}(l:List α)(b:Bool),¬(decide (0<l.length) && !b)=true->b=false->l=[]:=λl b h hb=>by
  subst hb;simp at h;exact h
 have s0:¬c.kind=7->c.sets=[]:=λq=>Bi _ _ hse (by simpa using q)
 have n0:¬c.kind=8->c.names=[]:=λq=>Bi _ _ hnm (by simpa using q)
 unfold Bs.clause Bs.qF at he;by_cases k7:c.kind=7
 .rw[cv (by omega),cv (by omega),cv (by omega),cw k7]at he;refine⟨(TH _ _ he).2,λx hx=>?_⟩;rw[n0 (by omega)]at hx;cases hx
 .by_cases k8:c.kind=8
  .rw[cv (by omega),cv (by omega),cv (by omega),cv k7,cw k8]at he;refine⟨λx hx=>?_,(Mo _ _ he).2⟩;rw[s0 k7]at hx;cases hx
  .refine⟨λx hx=>?_,λx hx=>?_⟩
   .rw[s0 k7]at hx;cases hx
   .rw[n0 k8]at hx;cases hx
def TJ{k:Int}(h:k=1\/k=2):IZ k=G6 k:=by
 unfold IZ G6;rcases h with rfl|rfl<;>rfl
def TK{c:Cp}{S:gM}(h1:∀x∈c.sets,db S x.var=1\/db S x.var=2)(h2:∀x∈c.names,db S x=1\/db S x=2)(p:Pr):p∈oY c S↔p∈q_ c S:=by
 have e1:p∈(c.sets.flatMap λx=>akP S x)↔p∈(c.sets.flatMap λx=>rH S x):=by
  rw[List.mem_flatMap,List.mem_flatMap];refine exists_congr λx=>and_congr_right λhx=>?_
  unfold akP rH;rw[TJ (h1 x hx)];simp only[Zz];constructor
  .rintro(h|h|h)
   .exact .inr (.inl h)
   .exact .inl h
   .exact .inr (.inr h)
  .rintro(h|h|h)
   .exact .inr (.inl h)
   .exact .inl h
   .exact .inr (.inr h)
 have e2:p∈(c.names.flatMap λx=>xL S x)↔p∈(c.names.flatMap λx=>uN S x):=by
  rw[List.mem_flatMap,List.mem_flatMap];refine exists_congr λx=>and_congr_right λhx=>?_
  unfold xL uN;rw[TJ (h2 x hx)]
 unfold oY q_;simp only[Zz]at e1 e2|-;rw[e1,e2]
def DK :∀(l:List Cp)(s:Bs)(i j:Nat)(c:Cp),(ic l s i).2.2=0->l[j]?=some c->∃s':Bs,(ic (l.take j) s i).1=s'.now/\(s'.clause c).e=0
 | [],s,i,j,c,_,h=>by simp at h
 |
  a::l,s,i,0,c,h0,h=>by
  simp at h;subst h;rw[ic]at h0;refine⟨s,by simp[ic],?_⟩;split at h0
  .assumption
  .exact h0
 |
  a::l,s,i,j+1,c,h0,h=>by
  rw[ic]at h0;split at h0
  .rename_i he;obtain⟨s',h1,h2⟩:=DK l (s.clause a) (i+1) j c h0 (by simpa using h);exact⟨s',by rw[List.take_succ_cons,ic,cw he];exact h1,h2⟩
  .rename_i he;exact absurd h0 he
def yr :∀(l:List Cp)(s:Bs)(i:Nat),(ic l s i).2.2=0->(ic l s i).2.1=0
 | [],s,i,_=>rfl
 |
  a::l,s,i,h=>by
  rw[ic]at h|-;split at h
  .rename_i he;rw[cw he];exact yr l _ _ h
  .rename_i he;exact absurd h he
def Mp{q:List Cp}(h:(gv q).2.2=0):(gv q).2.1=0:=by
 have h1:=C_ h;unfold gv dK at h|-;rw[cw h1]at h|-;exact yr _ _ _ h
def Oz{q:List Cp}(h:(gv q).2.2=0):∀(n i:Nat),i+n=q.length->∀p,p∈mW q (q.drop i) i↔p∈lP q (q.drop i) i:=by
 have h1:=C_ h;have h2:(ic q ⟨[],[],0⟩ 0).2.2=0:=by
  unfold gv dK at h;rw[cw h1,LL (Yq _),Xq]at h;exact h
 intro n
 induction n with
 |
  zero=>
  intro i hi p;rw[List.drop_of_length_le (by omega)];simp[mW,lP]
 |succ n ih=>
  intro i hi p;obtain⟨c,hc⟩:∃c,q[i]?=some c:=⟨_,Zb (by omega)⟩;rw[cH hc,mW,lP,Zz,Zz,ih (i+1) (by omega) p];obtain⟨s',e1,e2⟩:=DK q ⟨[],[],0⟩ 0 i c h2 hc;have hS:(dK q (i:Int)).1=s'.now:=by
   unfold dK;rw[cw h1,LL (by omega)];exact e1
  obtain⟨k1,k2⟩:=aci (yq h1 c (Zi hc)) e2;rw[hS,TK k1 k2 p]
def TM{q:List Cp}{R:List Pr}(h:(gv q).2.2=0)(hS:xo R (mm q))(hR:kC R):ug R ((mW q q 0).foldl cQ [])=true:=by
 have hm:=λp=>Oz h q.length 0 (by omega) p
 rw[Yd]at hm;refine HW _ _ hR (Dz _ List.Pairwise.nil) (λx hx=>?_) λy hy=>?_
 .exact DA _ [] x ⟨x,.inl ((hm x).2 (hS.1 x hx)),nI x⟩
 .rcases xG y _ [] hy with h1|h1
  .obtain⟨z,hz,e⟩:=hS.2 y ((hm y).1 h1);exact⟨z,hz,e⟩
  .cases h1
section
attribute [local simp] ew eY
noncomputable def kFO :Code:=(f3.body).getD .skip
def TX2(r:Option (Out × St)):Prop:=∃h',dT [.tmp 2] r=some ((true:AV),h')
def OA(K:Bool->FuncId->LA->Hp->Option (AV × Hp))(q:List Cp)(w:Bool)(ya yb:AV)(at' e:Int)(hl:∀t h,K t 6 [] h=some ((true:AV),h))(hL:∀t h,K t 5 [.ag (gL q)] h=some ((w:AV),h))(hA:∀v,ya≠ .pn v)(hB:∀v,yb≠ .pn v)(h1:∀t h,K t 7 [.ag (gL q)] h=some (.tp [ya,at',e],h))(h2:∀t h,K t 8 [.ag (gL q)] h=some (.tp [yb,at',e],h))(hs:∀t h,K t 9 [ya,yb] h=some ((true:AV),h)):
 TX2 (dd cx K kFO ([.ag (gL q)]++List.replicate 40 .un,[])):=by
 have q2:=akN hA
 have q3:=akN hB
 unfold gL at *;generalize m_ q=cq at *;unfold TX2;cases w with
 |false=>simp[kFO,f3,hL,hl]
 |true=>simp[kFO,f3,hL,hl,h1,h2,hs,q2,q3]
noncomputable def oT(q:List Cp)(f:FuncId)(xs:LA):Option AV:=
 if f=21 then(match xs with| [x]=> @ite _ (x= .ag (gL q)) (Classical.propDecidable _) (some (.tp [.ud,.sc (.int .i64 (gv q).2.1),.sc (.int .i64 (gv q).2.2)])) none|_=>none)
 else if f=22 then(match xs with| [x,.sc (.int .i64 (.ofNat i))]=> @ite _ (x= .ag (gL q)) (Classical.propDecidable _) (some (.tp [uX (dK q (i:Int)).1,.sc (.int .i64 (dK q (i:Int)).2.1),.sc (.int .i64 (dK q (i:Int)).2.2)])) none|_=>none)
 else none
def aes(hC:kg cx)(D d:Nat)(q:List Cp)(hl:q.length<=10^6)(hb:∀c∈q,AJ D d c)(hd:∀c∈q,Cg D d c)(zc:∀c∈q,c.items.length<=10^6)(hx:∀c∈q,∀p∈c.paths,yO p):∀f xs r,oT q f xs=some r->xs.all calm=true/\iG cx f xs r:=λf xs r h=>by
 unfold oT at h;split at h
 .rename_i e;subst e;split at h
  .split at h
   .rename_i e2;cases h;subst e2;exact⟨rfl,Kw hC D d q hl hb hd zc hx⟩
   .cases h
  .cases h
 .split at h
  .rename_i e;subst e;split at h
   .split at h
    .rename_i e2;cases h;subst e2;exact⟨rfl,Kv hC D d _ q hl hb hd zc hx⟩
    .cases h
   .cases h
  .cases h
def acj(hC:kg cx)(D d:Nat)(hD:1<=D)(q:List Cp)(hb:∀c∈q,AJ D d c)(hd:∀c∈q,Cg D d c)(hr:∀c∈q,J0 D d c)(hl:q.length<=10^6)(hm:(q.map rI).sum<=100000000)(zc:∀c∈q,c.items.length<=10^6)(hx:∀c∈q,∀p∈c.paths,yO p):
 ∃y,fQ (if(gv q).2.2=0 then(mW q q 0).foldl cQ []else[]) y/\iG cx 8 [.ag (gL q)] (.tp [y,.sc (.int .i64 (gv q).2.1),.sc (.int .i64 (gv q).2.2)]):=by
 obtain⟨N,hN⟩:∃N,N=3*D+d+40:=⟨_,rfl⟩;have hK:∀(f:FuncId)(ys:LA)(t:Bool)(h:Hp),f≠21->f≠22->(match oT q f ys with|some q=>some (q,h)|none=>cu cx N t f ys h)=cu cx N t f ys h:=λf ys t h h1 h2=>by
  unfold oT;rw[cv h1,cv h2]
 obtain⟨y,h',hw,hy⟩:=Ot (λb g ys h=>match oT q g ys with|some q=>some (q,h)|none=>cu cx N b g ys h) D d hD q (gv q).2.1 (gv q).2.2 Mp hl hr hm
  (λt h=>by unfold oT;rw[cw rfl];simp)
  (λi t h=>by
   have:oT q 22 [.ag (gL q),i]=some (.tp [uX (dK q (i:Int)).1,.sc (.int .i64 (dK q (i:Int)).2.1),.sc (.int .i64 (dK q (i:Int)).2.2)]):=by
    unfold oT;rw[cv (by decide),cw rfl];exact cw rfl
   simp only[this])
  (λc i K y t h hc hy gK hl=>by
   rw[hK _ _ t _ (by decide) (by decide)];exact Kk D d N hD t _ _ (abU _ (by have:=uI q (i:Int);omega)) c K y h (hr c hc) hy gK hl (by omega))
 refine⟨y,hy,?_⟩;have Tr:oH cx (λb g ys h=>match oT q g ys with|some q=>some (q,h)|none=>cu cx N b g ys h) 8 [.ag (gL q)] []=some (.tp [y,.sc (.int .i64 (gv q).2.1),.sc (.int .i64 (gv q).2.2)],h'):=by
  rw[nQ (fi:=⟨f8.ntmps,(f8.body).getD .skip,[.tmp 2,.tmp 3,.tmp 4]⟩) (by kernel_rfl) (by kernel_rfl) (by simp[f8])];exact hw
 refine su hC (aes hC D d q hl hb hd zc hx) Tr (m:=8) ?_;show([y,_,_].mapM (Ae.da h' 7)).map AV.tp=_;simp[iE (n:=5) hy.calm,Ae.da]
noncomputable def fT(q:List Cp)(r:AV)(f:FuncId)(xs:LA):Option AV:=
 if f=8 then(match xs with| [x]=> @ite _ (x= .ag (gL q)) (Classical.propDecidable _) (some r) none|_=>none)else aT f xs
def OB(hC:kg cx)(D d:Nat)(hD:1<=D)(q:List Cp)(hb:∀c∈q,Cg D d c)(oE:∀c∈q,AJ D d c)(hr:∀c∈q,J0 D d c)(hl:q.length<=10^6)(hm:(q.map rI).sum<=100000000)(zc:∀c∈q,c.items.length<=10^6)(hx:∀c∈q,∀p∈c.paths,yO p):
 iG cx 3 [.ag (gL q)] (.sc (.bool true)):=by
 obtain⟨N,hN⟩:∃N,N=3*D+3*d+200:=⟨_,rfl⟩;obtain⟨w,hw⟩:=NN D d N q hr (λc hc=>Yj (EU rI hc) (by omega)) hl (by omega);obtain⟨yb,hyb,hOf⟩:=acj hC D d hD q oE hb hr hl hm zc hx;have hg:=Hs hD q q 0 hr;have hgR:=DD hD q q 0 hr;have lj:(mm q).length<=(q.map rI).sum:=uO q q 0;obtain⟨A,B,ya,hya,aet,gA,gB,hAl,hs,ae⟩:∃A B ya,fQ A ya/\fQ B yb/\gP D A/\gP D B/\A.length<=10^9/\ug A B=true/\∀t h,cu cx N t 7 [.ag (gL q)] h=some (.tp [ya,.sc (.int .i64 (gv q).2.1),.sc (.int .i64 (gv q).2.2)],h):=by
  rcases acf D d N q hb oE hr hl (by omega) hg (by omega)with⟨h1,h2⟩|⟨h1,R,hS,FP,hRl,h2⟩
  .rw[cv h1]at hyb;exact⟨[],[],_,fQ.nil,hyb,j4 D,j4 D,by simp,rfl,h2⟩
  .rw[cw h1]at hyb;refine⟨R,_,eH 8 (gN R),?_,hyb,λp hp=>hg p (hS.1 p hp),fS hgR (j4 D),by omega,TM h1 hS FP,?_⟩
   .cases R with
    |nil=>exact .inr ⟨rfl,rfl⟩
    |cons a R=>exact .inl rfl
   .rw[h1,Mp h1];exact h2
 clear hyb;generalize tY:AV.tp [yb,.sc (.int .i64 (gv q).2.1),.sc (.int .i64 (gv q).2.2)]=r0 at hOf;have hK:∀(f:FuncId)(ys:LA)(t:Bool)(h:Hp),f≠8->f≠6->(match fT q r0 f ys with|some q=>some (q,h)|none=>cu cx N t f ys h)=cu cx N t f ys h:=λf ys t h h1 h2=>by
  unfold fT aT;rw[cv h1,cv h2]
 obtain⟨h',hw2⟩:=OA (λb g ys h=>match fT q r0 g ys with|some q=>some (q,h)|none=>cu cx N b g ys h) q w ya yb (gv q).2.1 (gv q).2.2
  (λt h=>rfl)
  (λt h=>by rw[hK _ _ t _ (by decide) (by decide)];exact hw t h)
  hya.np aet.np
  (λt h=>by rw[hK _ _ t _ (by decide) (by decide)];exact ae t h)
  (λt h=>by
   have:fT q r0 8 [.ag (gL q)]=some r0:=by
    unfold fT;rw[cw rfl];exact cw rfl
   simp only[this,tY])
  (λt h=>by rw[hK _ _ t _ (by decide) (by decide)];exact Tt D N t A B ya yb h hya aet gA gB hs hAl (by omega))
 have Tr:oH cx (λb g ys h=>match fT q r0 g ys with|some q=>some (q,h)|none=>cu cx N b g ys h) 3 [.ag (gL q)] []=some ((true:AV),h'):=by
  rw[nQ (fi:=⟨f3.ntmps,(f3.body).getD .skip,[.tmp 2]⟩) (by kernel_rfl) (by kernel_rfl) (by simp[f3])];exact hw2
 refine su hC (T:=fT q r0) (λf xs r h=>?_) Tr (m:=8) rfl;unfold fT at h;split at h
 .rename_i e;subst e;split at h
  .split at h
   .rename_i e2;cases h;subst e2;exact⟨rfl,hOf⟩
   .cases h
  .cases h
 .exact adX hC f xs r h
end
end Go.Proofs.YtmocfjnklfpnbaaGreatDoor
namespace Go.Ae
open Go Go.Proofs Go.Shelf Go.RowKit Go.Lib Go.Sort
def Ie{α:Type}[Inhabited α]{us:α->List Value}{s:Nat}(hu:∀i,(us i).length=s)(hs:0<s):∀(l:List α)(k:Nat)(u:Value),(l.flatMap us)[k]?=some u->k<l.length*s/\(us l[k/s]!)[k % s]! =u
 | [],k,u,h=>by simp at h
 |
  i::l,k,u,h=>by
  rw[Ym]at h;by_cases hk:k<s
  .rw[Zd (by rw[hu];exact hk)]at h;refine⟨by rw[Ys,Xh];omega,?_⟩;rw[Nat.div_eq_of_lt hk,Nat.mod_eq_of_lt hk];simp[h]
  .rw[Zf (by rw[hu];omega),hu]at h;obtain⟨h1,h2⟩:=Ie hu hs l (k-s) u h;refine⟨by rw[Ys,Xh];omega,?_⟩;have e1:k/s=(k-s)/s+1:=by rw[<-Nat.sub_add_cancel (show s<=k by omega),Nat.add_div_right _ hs];simp
   have e2:k % s=(k-s) % s:=by rw[Nat.mod_eq_sub_mod (by omega)]
   rw[e1,e2];simpa using h2
def OD{a b:World}(h1:a.heap=b.heap)(h2:a.tape=b.tape)(h3:a.drawn=b.drawn)(h4:a.os=b.os)(h5:a.output=b.output):a=b:=by
 cases a;cases b;simp_all
def OE{W W':World}(h:Step W eK W' eK):W'=grow (W.drewN (W'.drawn-W.drawn)) (W'.heap.extract W.heap.size W'.heap.size):=by
 refine OD ?_ h.tape ?_ h.os h.output
 .show W'.heap=W.heap++_;apply Array.ext_getElem?;intro k;by_cases hk:k<W.heap.size
  .rw[Array.getElem?_append_left hk];exact h.keep k hk λq=>q
  .rw[Array.getElem?_append_right (by omega)];by_cases Ja:k<W'.heap.size
   .rw[Array.getElem?_extract];have:=h.size;rw[cw (by omega)]
    congr 1;omega
   .rw[Array.getElem?_eq_none (by omega),Array.getElem?_eq_none (by simp;omega)]
 .have:=h.drew;show W'.drawn=W.drawn+(W'.drawn-W.drawn);omega
def ack{α:Type}[Inhabited α](P:Program)(g:Nat)(kk:Nat)(enc:α->List Value)(cf:α->α->Int)(km off size:Nat)(w:World):Prop:=
 ∀(m:Nat)(os:Array Obj)(dk:Array α),dk.size=size->∀x y:α,
  Calls P g #[vv kk (enc x),vv kk (enc y)] (sortWorldK enc (nc kk) w km off m dk os) λe w'=>e= .returned (.int .i64 (cf x y))/\∃q os',w'=grow ((sortWorldK enc (nc kk) w km off m dk os).drewN q) os'
def OG{C:Cx}{f:FuncId}{kk:Nat}(FQ:∃fn,C.P.funcs[f]?=some fn/\fn.name≠ "runtime.NumGoroutine" /\fn.body.isSome=true)(TN:∀(p:Option Addr)(cap:Nat)(fv:Value)(w:World),Calls C.P f #[.slice p 0 cap,fv] w λe w'=>e= .returned (.tuple #[])/\w'=w)(TP:∀(m:Nat) (enc:Fin (m+1)->List Value) (_:∀x,(enc x).length=nc kk) (_:∀x,∀v∈enc x,v.oneCell'=true) (cf:Fin (m+1)->Fin (m+1)->Int) (_:Sort.SWO (ltOf cf)) (g:Nat) (km off cap:Nat) (d:Array (Fin (m+1))) (w:World)
  (_:∀args w,(callFunc g args).run C.P w= .ok (.enter g args) w) (_:ack C.P g kk enc cf km off d.size w) (_:HoldsK enc (nc kk) w km off d) (_:km<w.heap.size) (_:d.size<4611686018427387904),
  Calls C.P f #[.slice (some ⟨km,off,none⟩) d.size cap,.func (.func g) #[] #[]] w λe w'=>e= .returned (.tuple #[])/\∃n os,w'=sortWorldK enc (nc kk) w km off n (Sort.pdq (ltOf cf) d 0 d.size (Lib.bitLen d.size) true true) os):DL C f kk:=by
 have ik:0<nc kk:=by unfold nc;split<;>omega
 refine⟨FQ,λw base cap g us hus=>?_,λw m cap km off cV t fz us cf g bs S5 hm nN BL Tr cp mi fO AX ⟨fn,g1,g2,g3⟩ AY=>?_⟩
 .exact(TN base cap _ w).mono λe w' ⟨he,hw⟩=>⟨he,hw▸Step.refl _ _⟩
 obtain rfl:bs= #[]:=Array.eq_empty_of_size_eq_zero S5;have eg:∀args w,(callFunc g args).run C.P w= .ok (.enter g args) w:=λargs w=>by
  have hb:fn.body.isNone=false:=by cases hq:fn.body<;>simp_all
  simp only[callFunc,Sem.run_bind,run_program,Result.andThen_ok,g1];simp[g2,hb]
 have U_:(Array.ofFn λi:Fin (m+1)=>i).size=m+1:=by simp
 have aiV:=BL.eq;have hH:HoldsK us (nc kk) w km off (Array.ofFn λi:Fin (m+1)=>i):=by
  intro j hj;rw[size_flatK,U_]at hj;have hi:j/nc kk<m+1:=Nat.div_lt_of_lt_mul (by rw[Nat.mul_comm];exact hj);have hr:j % nc kk<nc kk:=Nat.mod_lt _ ik;constructor
  .rw[get_flatK us (nc kk) _ j (by rw[U_];exact hj)];have e:(Array.ofFn λi:Fin (m+1)=>i)[j/nc kk]! =⟨j/nc kk,hi⟩:=by simp[hi]
   rw[e];have hlr:j % nc kk< (us ⟨j/nc kk,hi⟩).length:=by rw[cp];exact hr
   have:=fO ⟨j/nc kk,hi⟩ (j % nc kk) _ (Zb hlr);unfold World.cell?;simp only[nN];have e2:off+j/nc kk*nc kk+j % nc kk=off+j:=by have:=Nat.div_add_mod j (nc kk);rw[Nat.mul_comm]at this;omega
   rw[e2]at this;simpa[hlr]using this
  .unfold World.frozen?;simp[nN,aiV]
 have j8:∀(q:Nat)(dk:Array (Fin (m+1)))(os:Array Obj),wE km w (sortWorldK us (nc kk) w km off q dk os):=λq dk os=>by
  refine⟨rfl,rfl,rfl,?_,λb hb gE=>?_⟩
  .unfold sortWorldK;rw[Sort.size_grow,size_putRowK];exact Nat.le_add_right _ _
  .show((Sort.mapBlock (Sort.ahead w q) km _).heap++os)[b]?=_;have S5:b< (Sort.mapBlock (Sort.ahead w q) km (Sort.putCells id off (flatK us (nc kk) dk))).heap.size:=by simpa[Sort.mapBlock,Sort.ahead]using hb
   rw[Array.getElem?_append_left S5];simp[Sort.mapBlock,Sort.ahead,Array.getElem?_modify,Ne.symm gE]
 have z_:ack C.P g kk us (λi j=>cf i.1 j.1) km off (Array.ofFn λi:Fin (m+1)=>i).size w:=λq os dk _ x y=>
  (AY _ x y (j8 q dk os)).mono λe W' ⟨he,dO⟩=>⟨he,_,_,OE dO⟩
 have:=TP m us cp mi (λi j=>cf i.1 j.1) AX g km off cap _ w eg z_ hH (fI nN) (by rw[U_];exact hm);rw[U_]at this;refine this.mono ?_;rintro e w' ⟨rfl,n,os,rfl⟩;have LJ:=od AX;have hD:lZ m cf=(Sort.pdq (ltOf λi j:Fin (m+1)=>cf i.1 j.1) (Array.ofFn λi:Fin (m+1)=>i) 0 (m+1) (Lib.bitLen (m+1)) true true).toList:=rfl;have hDs:(Sort.pdq (ltOf λi j:Fin (m+1)=>cf i.1 j.1) (Array.ofFn λi:Fin (m+1)=>i) 0 (m+1) (Lib.bitLen (m+1)) true true).size=m+1:=by
  have:=LJ.length_eq;rw[hD]at this;simpa using this
 refine⟨rfl,Sort.putCells id off (flatK us (nc kk) (Sort.pdq (ltOf λi j:Fin (m+1)=>cf i.1 j.1) (Array.ofFn λi:Fin (m+1)=>i) 0 (m+1) (Lib.bitLen (m+1)) true true)) cV,?_,by simp[Sort.putCells],λk hk=>?_,λk u hu=>?_,j8 _ _ _,?_⟩
 .show((Sort.mapBlock (Sort.ahead w n) km _).heap++os)[km]?=_;have S5:km< (Sort.mapBlock (Sort.ahead w n) km (Sort.putCells id off (flatK us (nc kk) (Sort.pdq (ltOf λi j:Fin (m+1)=>cf i.1 j.1) (Array.ofFn λi:Fin (m+1)=>i) 0 (m+1) (Lib.bitLen (m+1)) true true)))).heap.size:=by simpa[Sort.mapBlock,Sort.ahead]using fI nN
  rw[Array.getElem?_append_left S5];simp[Sort.mapBlock,Sort.ahead,Array.getElem?_modify,nN,Sort.onCells]
 .simp only[Sort.putCells,Array.getElem?_mapIdx,size_flatK,hDs];cases hq:cV[k]? with
  |none=>rfl
  |some v=>simp only[Yw];rw[cv (by omega)]
 .obtain⟨h1,h2⟩:=Ie cp ik _ k u hu;rw[LJ.length_eq,List.length_ofFn]at h1;have hk:off+k<cV.size:=by omega
  simp only[Sort.putCells,Array.getElem?_mapIdx,Xf hk,Yw,size_flatK,hDs];rw[cw (by omega),Nat.add_sub_cancel_left,get_flatK us (nc kk) _ k (by rw[hDs];exact h1)];rw[hD]at h2;have du:k/nc kk< (Sort.pdq (ltOf λi j:Fin (m+1)=>cf i.1 j.1) (Array.ofFn λi:Fin (m+1)=>i) 0 (m+1) (Lib.bitLen (m+1)) true true).size:=by
   rw[hDs];exact Nat.div_lt_of_lt_mul (by rw[Nat.mul_comm];exact h1)
  rw[getElem!_pos (Sort.pdq (ltOf λi j:Fin (m+1)=>cf i.1 j.1) (Array.ofFn λi:Fin (m+1)=>i) 0 (m+1) (Lib.bitLen (m+1)) true true).toList (k/nc kk) (by simpa using du)]at h2;rw[getElem!_pos (Sort.pdq (ltOf λi j:Fin (m+1)=>cf i.1 j.1) (Array.ofFn λi:Fin (m+1)=>i) 0 (m+1) (Lib.bitLen (m+1)) true true) (k/nc kk) du];rw[Array.getElem_toList]at h2;exact congrArg some h2
 .show w.drawn<=w.drawn+n;omega
def TQ{C:Cx}{f:FuncId}{sz:Nat}(ik:0<sz)(FQ:∃fn,C.P.funcs[f]?=some fn/\fn.name≠ "runtime.NumGoroutine" /\fn.body.isSome=true)(TN:∀(p:Option Addr)(cap:Nat)(fv:Value)(w:World),Calls C.P f #[.slice p 0 cap,fv] w λe w'=>e= .returned (.tuple #[])/\w'=w)(TP:∀(m:Nat) (enc:Fin (m+1)->List Value) (_:∀x,(enc x).length=sz) (_:∀x,∀v∈enc x,v.oneCell'=true) (cf:Fin (m+1)->Fin (m+1)->Int) (_:Sort.SWO (ltOf cf)) (g:Nat) (km off cap:Nat) (d:Array (Fin (m+1))) (w:World)
  (_:∀args w,(callFunc g args).run C.P w= .ok (.enter g args) w) (_:CmpLays C.P g #[] enc sz cf km off d.size w) (_:HoldsK enc sz w km off d) (_:km<w.heap.size) (_:d.size<4611686018427387904),
  Calls C.P f #[.slice (some ⟨km,off,none⟩) d.size cap,.func (.func g) #[] #[]] w λe w'=>e= .returned (.tuple #[])/\∃n os,w'=sortWorldK enc sz w km off n (Sort.pdq (ltOf cf) d 0 d.size (Lib.bitLen d.size) true true) os):DL C f sz:=by
 have e0:nc sz=sz:=by unfold nc;rw[cv (by omega)]
 have e1:∀vs:List Value,vv sz vs= .agg vs.toArray:=λvs=>by unfold vv;rw[cv (by omega)]
 refine OG FQ TN λm enc h1 h2 cf h3 g km off cap d w h4 h5 h6 h7 h8=>?_
 unfold ack at h5;rw[e0]at h1 h6 h5|-;simp only[e1]at h5;exact TP m enc h1 h2 cf h3 g km off cap d w h4 (λq os dk hs x y=>h5 q os dk hs x y) h6 h7 h8
end Go.Ae
