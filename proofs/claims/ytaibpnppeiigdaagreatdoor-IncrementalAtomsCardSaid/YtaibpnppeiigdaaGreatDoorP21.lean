/- Part of the proof. -/
import Derived.Test.YtaibpnppeiigdaaGreatDoorP20
set_option linter.all false
set_option maxHeartbeats 32000000
set_option maxRecDepth 100000
namespace Go.Proofs.YtaibpnppeiigdaaGreatDoor
open Go Go.Ae Go.Proofs.Tryz
section
attribute [local simp] zi da XM
noncomputable def acf (u:AV):Option AV:=j4 cx (λ_=>u) {dst:=none,op:= .makeInterface 150 (.tmp 0),type:=0,pos:= "",after:= #[],guard:=none}
def UM (fr:LA)(d:Option Tmp)(x:Tmp)(ty:TypeId)(p:String)(a:Array Edge)(g:Option (Nat × Bool)):j4 cx (ev cx fr) {dst:=d,op:= .makeInterface 150 (.tmp x),type:=ty,pos:=p,after:=a,guard:=g}=acf (gt fr x):=rfl
def UN (e:Int):acf (.sc (.int .i64 e))=some (.sc (.iface 150 (.int .i64 e))):=rfl
def kc (n:Nat)(b:Bool)(e:Int)(h:Hp):cW cx (n+1) b 169 [true,e] h=some (.tp [],h):=by
 rw[K7 (n:=n) f169 []];simp[f169];rfl
def kK (n:Nat)(b:Bool)(e:Int)(h:Hp):cW cx (n+1) b 169 [false,e] h=some (.pn (.iface 150 (.int .i64 e)),h):=by
 rw[K7 (n:=n) f169 []];simp[f169,UM,UN]
def aam (n:Nat)(b:Bool)(x:ByteArray)(h:Hp):cW cx (n+1) b 231 [.sc (.string x)] h=some ((false:AV),h):=by
 refine fZ f231 [.tmp 2] rfl rfl ?_ b h;simp[f231,(iT x x).2 rfl]
def UO (n:Nat)(b:Bool)(x:ByteArray)(h:Hp):cW cx (n+1) b 250 [.sc (.string x)] h=some ((false:AV),h):=by
 refine fZ f250 [.tmp 2] rfl rfl ?_ b h;simp[f250,(iT x x).2 rfl]
def UQ (n:Nat)(b:Bool)(x y:ByteArray)(h:Hp):cW cx (n+2) b 230 [.sc (.string x),.sc (.string y)] h=some (.sc (.bool (nZ x y)),h):=by
 refine fZ f230 [.tmp 4] rfl rfl ?_ b h;have aa:=UO n;simp[f230,aa]
def yI (n:Nat)(l pre gj post:List ByteArray)(x:ByteArray)(S:AV)(hS:(∃z,S= .ls 1 (gP l) z)\/(l=[]/\S=()))(hl:l.length<=1000000000000000)(hs:iX (LG x) (yv x) l pre gj post)(bb:Bool)(h:Hp):
 cW cx (n+3) bb 172 [S,.sc (.string x)] h=some (.tp [pre.length,.sc (.bool !gj.isEmpty)],h):=by
 have hp:pre.length<=l.length:=by rw[hs.e];simp
 have hq:=dG l;have hg:=kF l;rcases hS with⟨z,rfl⟩|⟨rfl,rfl⟩
 case inr=>
  have LH:pre=[]:=Zl (by simpa using hp);have s7:gj=[]:=hs.ua (by simp);subst LH s7
  suffices H:∃r,r=AV.tp [(0:Int),false]/\∀b h,cW cx (n+3) b 172 [(),.sc (.string x)] h=some (r,h) by
   obtain⟨r,rfl,hr⟩:=H;exact hr bb h
  refine iQ (f:=172) (n:=n+2) (args:=[.sc (.slice none 0 0),.sc (.string x)]) (λr=>r= .tp [(0:Int),false]) ⟨f172.ntmps,(f172.body).getD .skip,[.tmp 4,.tmp 5]⟩ (by kernel_rfl) (by kernel_rfl) rfl (by kernel_rfl) (by simp[f172]) rfl ?_;simp[f172];refine eC (C:=cx) (G:=λr=>∃r0 h',eQ _ (eR _ _ (dL _ r) _)=some (r0,h')/\dq h' 8 r0=some (.tp [(0:Int),false]))
   (λk s=>s.1.length=54/\gt s.1 6=(0:Int)/\gt s.1 7=(0:Int)/\gt s.1 8=(0:Int))
   (λo s=>o= .exit 0/\s.1.length=54/\gt s.1 6=(0:Int)/\gt s.1 7=(0:Int)) 0 (by simp) (by simp) ?_ ?_
  .rintro k fr h eG ⟨cU,h8,h9,lQ⟩;simp only at cU h8 h9 lQ;simp[cU,h8,h9,lQ]
  .rintro o fr h hn ⟨rfl,cU,h8,h9⟩;simp only at cU h8 h9;simp[cU,h8,h9];exact gz rfl
 suffices H:∃r,r=AV.tp [pre.length,.sc (.bool !gj.isEmpty)]/\∀b h,cW cx (n+3) b 172 [.ls 1 (gP l) z,.sc (.string x)] h=some (r,h) by
  obtain⟨r,rfl,hr⟩:=H;exact hr bb h
 refine iQ (f:=172) (n:=n+2) (args:=[.ls 1 (gP l) z,.sc (.string x)]) (λr=>r= .tp [pre.length,.sc (.bool !gj.isEmpty)]) ⟨f172.ntmps,(f172.body).getD .skip,[.tmp 4,.tmp 5]⟩ (by kernel_rfl) (by kernel_rfl) rfl (by kernel_rfl) (by simp[f172]) rfl ?_;have aa:=UQ n;generalize gP l=cY at hq hg|-;have ae:=aam (n+1);generalize n+2=M at aa ae;simp[f172];refine eC (C:=cx) (G:=λr=>∃r0 h',eQ _ (eR _ _ (dL _ r) _)=some (r0,h')/\dq h' 8 r0=some (.tp [pre.length,.sc (.bool !gj.isEmpty)]))
  (λk s=>∃lo hi:Nat,s.1.length=54/\gt s.1 0= .ls 1 cY z/\gt s.1 1= .sc (.string x)/\gt s.1 6=l.length/\gt s.1 7=lo/\gt s.1 8=hi
   /\lo<=pre.length/\pre.length<=hi/\hi<=l.length/\hi-lo+k<=l.length)
  (λo s=>o= .exit 0/\s.1.length=54/\gt s.1 0= .ls 1 cY z/\gt s.1 1= .sc (.string x)/\gt s.1 6=l.length/\gt s.1 7=pre.length) l.length (by simp;omega) ?_ ?_ ?_
 .refine⟨0,l.length,?_⟩;simp[hq,hp]
 .rintro k fr h eG ⟨lo,hi,cU,h0,h1,h8,h9,lQ,q1,q2,q3,q4⟩;simp only at cU h0 h1 h8 h9 lQ;by_cases hh:lo<hi
  .have Ac:lo<=(lo+hi)/2:=by omega
   have Hg:(lo+hi)/2<hi:=by omega
   generalize yu:(lo+hi)/2=md at Ac Hg;obtain⟨c,hc⟩:∃c,l[md]?=some c:=⟨_,Zb (by omega)⟩;have hr:cY[md]?=some [.sc (.string c)]:=by rw[hg,hc];rfl
   have du:=gA hr
   have e1:dM .i64 ((lo:Int)+hi)=((lo+hi:Nat):Int):=by rw[show(lo:Int)+hi=((lo+hi:Nat):Int) by omega];exact dh (by omega) (by omega)
   have e2:dM .u64 ((lo:Int)+hi)=(lo:Int)+hi:=kG (by omega) (by omega);have e3:((lo:Int)+hi)/2=(md:Int):=by omega
   have e4:dM .i64 (md:Int)=md:=dh (by omega) (by omega);have e5:dM .i64 ((md:Int)+1)=((md+1:Nat):Int):=dh (by omega) (by omega);have N6:md<l.length:=Ym Hg q3;have dY:=hs.lt_iff hc;cases hk:nZ c x
   .have hmp:pre.length<=md:=by
     refine Yb λq=>?_
     have:=dY.2 q;unfold LG at this;rw[hk]at this;cases this
    simp[cU,h0,h1,h8,h9,lQ,hh,e1,e2,e3,e4,hq,N6,du,aa,hk,IntKind.bits];clear e1 e2 e3 e4 e5;exact⟨by omega,lo,rfl,md,rfl,by omega,by omega,by omega,by omega⟩
   .have hmp:md<pre.length:=dY.1 hk;simp[cU,h0,h1,h8,h9,lQ,hh,e1,e2,e3,e4,e5,hq,N6,du,aa,hk,IntKind.bits];clear e1 e2 e3 e4 e5;exact⟨by omega,md+1,by omega,hi,rfl,by omega,by omega,by omega,by omega⟩
  .have SL:lo=pre.length:=by omega
   subst SL;simp[cU,h0,h1,h8,h9,lQ,hh]
 .rintro o fr h hn ⟨rfl,cU,h0,h1,h8,h9⟩;simp only at cU h0 h1 h8 h9;by_cases hh:pre.length<l.length
  .obtain⟨c,hc⟩:=eA hh;have hr:cY[pre.length]?=some [.sc (.string c)]:=by rw[hg,hc];rfl
   have du:=gA hr
   have wF:(!gj.isEmpty)=kr c x:=by rw[<-hs.H7 hc];rfl
   rw[wF];cases hk:kr c x
   .simp[cU,h0,h1,h8,h9,hh,hq,du,ae,hk];exact gz rfl
   .simp[cU,h0,h1,h8,h9,hh,hq,du,hk];exact gz rfl
  .have wF:(!gj.isEmpty)=false:=by rw[hs.ua (by omega)];rfl
   rw[wF];simp[cU,h8,h9,hh];exact gz rfl
def js.np {h:Hp}{tag:Nat->Tg}{tg:Tg}{sz:Nat}{cY:List LA}{x:AV}(ho:js h tag tg sz cY x)(v:Value):x≠ .pn v:=by
 rcases ho with⟨_,rfl|rfl⟩|⟨id,cs,rfl,_⟩<;>simp
def js.cls {h:Hp}{tag:Nat->Tg}{tg:Tg}{sz:Nat}{cY:List LA}{x:AV}(ho:js h tag tg sz cY x):cls x=some [x]:=by
 rcases ho with⟨_,rfl|rfl⟩|⟨id,cs,rfl,_⟩<;>rfl
def u5 {sz:Nat}{y:AV}{cY:List LA}(h:uT sz y= .ls sz cY false):(∃z,y= .ls sz cY z)\/(cY=[]/\y=()):=by
 unfold uT at h;split at h
 .simp only[AV.ls.injEq,true_and,and_true]at h;exact .inr ⟨h.symm,rfl⟩
 .rename_i s r z;split at h
  .rename_i e;simp only[AV.ls.injEq,true_and,and_true]at h;subst e h;exact .inl ⟨_,rfl⟩
  .rename_i e;simp only[AV.ls.injEq]at h;exact absurd h.1 e
 .rename_i hn;subst h;exact absurd rfl (hn _ _ _)
def QE {sz:Nat}{pre post:List LA}(hr:∀r∈pre++post,r.length=sz):(pre++post).flatten.take (pre.length*sz)=pre.flatten/\(pre++post).flatten.drop (pre.length*sz)=post.flatten:=by
 have e:pre.flatten.length=pre.length*sz:=dH pre λr h=>hr r (by simp[h])
 rw[List.flatten_append];exact⟨List.take_left' e,List.drop_left' e⟩
def AL {h:Hp}{tag:Nat->Tg}{tg:Tg}{sz bytes:Nat}{pre post:List LA}{x:AV}{vs:LA}{vid:Nat}{k:Bool}(hx:js h tag tg sz (pre++post) x)(hr:∀r∈pre++post,r.length=sz)(hv:h[vid]?=some (.row vs))(mY:vs.length=sz)(htv:tag vid≠tg)(hn:(pre++post).length+1<=1000000)(hb:bytes<=1000):
 ∃x' h' eO,A_ sz bytes h [x,pre.length,.sl vid sz 0 1 k]=some (x',h')/\js h' eO tg sz (pre++[vs]++post) x'/\gW h tag h' eO (λt=>t=tg):=by
 rcases hx with⟨he,hx⟩|⟨id,cs,rfl,h1,h2,h3,h4⟩
 .obtain⟨rfl,rfl⟩:pre=[]/\post=[]:=by simpa using he
  have vB:bytes<=140737488355328:=by omega
  have ho:js (h++[.row vs]) (gr tag h.length tg) tg sz ([]++[vs]++[]) (.sl h.length sz 0 1 false):=
   .inr ⟨h.length,vs,rfl,by simp,by simp[<-mY],by simp[mY],by unfold gr;rw[dd rfl]⟩
  rcases hx with rfl|rfl
  .exact⟨_,_,_,by simp[A_,hv,mY,vB],ho,gW.push _ _ _ _ _⟩
  .exact⟨_,_,_,by simp[A_,hv,mY,vB],ho,gW.push _ _ _ _ _⟩
 .have eW:id≠vid:=λe=>htv (e▸h4)
  obtain⟨aa,ae⟩:=QE hr;have eG:pre.length<=(pre++post).length:=by simp
  have yw:((pre++post).length+1)*bytes<=140737488355328:=by
   have:=Nat.mul_le_mul hn hb;omega
  have dY:pre.length*sz<=(pre++post).length*sz:=Zx _ eG;have e1:cs.take (pre.length*sz)=pre.flatten:=by
   have:=congrArg (List.take (pre.length*sz)) h2;rw[List.take_take,Nat.min_eq_left dY,aa]at this;exact this
  have e2:(cs.take ((pre++post).length*sz)).drop (pre.length*sz)=post.flatten:=by rw[h2,ae]
  have KU:gW h tag (h.set id .dead++[.row (pre.flatten++vs++post.flatten)]) (gr tag h.length tg) (λt=>t=tg):=by
   have a:=gW.set h tag id .dead (S:=λt=>t=tg) h4;have b:=gW.push (h.set id .dead) tag (.row (pre.flatten++vs++post.flatten)) tg (λt=>t=tg);rw[List.length_set]at b;exact a.trans b (λ_ q=>q) (λ_ q=>q)
  refine⟨.sl h.length sz 0 ((pre++post).length+1) false,_,_,?_,.inr ⟨h.length,pre.flatten++vs++post.flatten,?_,?_,?_,?_,?_⟩,KU⟩
  .have c:True/\id≠vid/\(pre.length:Int).toNat<=(pre++post).length/\(pre++post).length*sz<=cs.length/\(pre++post).length+1<=1000000000000000/\((pre++post).length+1)*bytes<=140737488355328:=⟨trivial,eW,by rw[Int.toNat_natCast];exact eG,h3,by omega,yw⟩;have c0:True/\vs.length=sz/\(0:Int)<=(pre.length:Int):=⟨trivial,mY,by omega⟩;simp only[A_,hv,h1];rw[dd c0,dd c,Int.toNat_natCast,e1,e2]
  .simp;omega
  .rw[Zf (by simp)];simp
  .have ea:(pre.flatten++vs++post.flatten)=(pre++[vs]++post).flatten:=by simp
   rw[ea,Ys];rw[dH (pre++[vs]++post) (sz:=sz) (λr hh=>by
    simp only[Ya,List.mem_singleton]at hh;rcases hh with(hh|hh)|hh
    .exact hr r (by simp[hh])
    .rw[hh];exact mY
    .exact hr r (by simp[hh]))]
   exact Yt _
  .have ea:(pre.flatten++vs++post.flatten)=(pre++[vs]++post).flatten:=by simp
   rw[ea,dH (pre++[vs]++post) (sz:=sz) (λr hh=>by
    simp only[Ya,List.mem_singleton]at hh;rcases hh with(hh|hh)|hh
    .exact hr r (by simp[hh])
    .rw[hh];exact mY
    .exact hr r (by simp[hh]))]
   exact Yt _
  .unfold gr;rw[dd rfl]
def L_ (n:Nat)(b:Bool)(args:LA)(h:Hp):cW cx (n+1) b 173 args h=A_ 1 16 h args:=by
 have e1:cx.ox 173=none:=by kernel_rfl
 have e2:cx.inl 173=true:=by kernel_rfl
 have e3:cx.ins 173=some (1,16):=by kernel_rfl
 simp only[cW,e1,e2,e3,if_true];rfl
def UR (n:Nat)(b:Bool)(args:LA)(h:Hp):cW cx (n+1) b 237 args h=A_ 6 80 h args:=by
 have e1:cx.ox 237=none:=by kernel_rfl
 have e2:cx.inl 237=true:=by kernel_rfl
 have e3:cx.ins 237=some (6,80):=by kernel_rfl
 simp only[cW,e1,e2,e3,if_true];rfl
def US (n:Nat)(b:Bool)(args:LA)(h:Hp):cW cx (n+1) b 170 args h=A_ 3 56 h args:=by
 have e1:cx.ox 170=none:=by kernel_rfl
 have e2:cx.inl 170=true:=by kernel_rfl
 have e3:cx.ins 170=some (3,56):=by kernel_rfl
 simp only[cW,e1,e2,e3,if_true];rfl
def UT (n:Nat)(b:Bool)(args:LA)(h:Hp):cW cx (n+1) b 177 args h=A_ 5 64 h args:=by
 have e1:cx.ox 177=none:=by kernel_rfl
 have e2:cx.inl 177=true:=by kernel_rfl
 have e3:cx.ins 177=some (5,64):=by kernel_rfl
 simp only[cW,e1,e2,e3,if_true];rfl
def I1 (f:FuncId)(sz:Nat):Prop:=∀(n:Nat) (b:Bool) (id p q P1 L R:Nat) (cs A r C:LA) (h:Hp),h[id]?=some (.row cs)->P1=p+1->L=p+1+q->R=p+q->A.length=p*sz->r.length=sz->C.length=q*sz->cs.take (L*sz)=A++r++C->L*sz<=cs.length->L<=1000000000->
 ∃cs',cW cx (n+1) b f [.sl id sz 0 L false,p,P1] h=some (.sl id sz 0 R false,h.set id (.row cs'))/\cs'.length=cs.length/\cs'.take (R*sz)=A++C
def Ma :I1 174 1:=λn b id p q P1 L R cs A r C h a1 a2 a3 a4 a5 a6 a7 a8 a9 UU=>by
 simp only[Nat.mul_one]at *;exact yH n b id p q P1 L R cs A r C h a1 a2 a3 a4 a5 a6 a7 a8 a9 UU
def UW :I1 236 6:=λn b id p q P1 L R cs A r C h a1 a2 a3 a4 a5 a6 a7 a8 a9 UU=>Cc n b id p q P1 L R cs A r C h a1 a2 a3 a4 a5 a6 a7 a8 a9 UU
def UX :I1 171 3:=λn b id p q P1 L R cs A r C h a1 a2 a3 a4 a5 a6 a7 a8 a9 UU=>Cd n b id p q P1 L R cs A r C h a1 a2 a3 a4 a5 a6 a7 a8 a9 UU
def UY :I1 178 5:=λn b id p q P1 L R cs A r C h a1 a2 a3 a4 a5 a6 a7 a8 a9 UU=>Ce n b id p q P1 L R cs A r C h a1 a2 a3 a4 a5 a6 a7 a8 a9 UU
def AM {f:FuncId}{sz:Nat}(hD:I1 f sz){h:Hp}{tag:Nat->Tg}{tg:Tg}{pre post:List LA}{r:LA}{x:AV}(hx:js h tag tg sz (pre++[r]++post) x)(hr:∀y∈pre++[r]++post,y.length=sz)(hn:(pre++[r]++post).length<=1000000)(n:Nat)(b:Bool):
 ∃x' h',cW cx (n+1) b f [x,pre.length,.sc (.int .i64 ((pre.length:Int)+1))] h=some (x',h')/\js h' tag tg sz (pre++post) x'/\gW h tag h' tag (λt=>t=tg):=by
 rcases hx with⟨he,hx⟩|⟨id,cs,rfl,h1,h2,h3,h4⟩
 .simp at he
 .have hl:=(Za.1 h1).1;have cU:(pre++[r]++post).length=pre.length+1+post.length:=by simp;omega
  have hA:pre.flatten.length=pre.length*sz:=dH pre λy hy=>hr y (by simp[hy])
  have hC:post.flatten.length=post.length*sz:=dH post λy hy=>hr y (by simp[hy])
  rw[cU]at h2 h3 hn;obtain⟨cs',c1,c2,c3⟩:=hD n b id pre.length post.length (pre.length+1) (pre.length+1+post.length) (pre.length+post.length) cs pre.flatten r post.flatten h h1 rfl rfl rfl hA (hr r (by simp)) hC (by rw[h2];simp) h3 (by omega);rw[cU];refine⟨_,_,c1,.inr ⟨id,cs',by simp,Zj hl,?_,?_,h4⟩,gW.set h tag id _ h4⟩
  .rw[Zu,c3,List.flatten_append]
  .rw[c2,Zu];have:(pre.length+post.length)*sz<=(pre.length+1+post.length)*sz:=Zx _ (by omega);omega
def I2 {f:AV->Option AV}:∀{l m l' m':LA},l.mapM f=some l'->m.mapM f=some m'->(l++m).mapM f=some (l'++m')
 |
  [],m,l',m',h,k=>by
  have:l'=[]:=by simpa using h.symm
  subst this;simpa using k
 |
  a::l,m,l',m',h,k=>by
  rw[Zo]at h;cases ha:f a with
  |none=>rw[ha]at h;cases h
  |
   some a'=>
   cases hl:l.mapM f with
   |none=>rw[ha,hl]at h;cases h
   |
    some l2=>
    rw[ha,hl]at h;have:l'=a'::l2:=by simpa using h.symm
    subst this;rw[Zv,Zo,ha,I2 hl k];rfl
def yJ {α:Type}{f:AV->Option AV}{R:α->LA->Prop}:∀{l:List α} {cY:List LA},cY.length=l.length->(∀(i:Nat) (a:α) (r:LA),l[i]?=some a->cY[i]?=some r->∃r',r.mapM f=some r'/\R a r')->
 ∃rows':List LA,cY.flatten.mapM f=some rows'.flatten/\rows'.length=l.length/\∀(i:Nat) (a:α),l[i]?=some a->∃r',rows'[i]?=some r'/\R a r'
 |
  [],cY,hl,_=>by
  have:cY=[]:=Zl (by simpa using hl);subst this;exact⟨[],rfl,rfl,by simp⟩
 |
  a::l,cY,hl,h=>by
  cases cY with
  |nil=>simp at hl
  |
   cons r cY=>
   obtain⟨r',h1,h2⟩:=h 0 a r rfl rfl;obtain⟨rows',h3,h4,h5⟩:=yJ (l:=l) (cY:=cY) (f:=f) (R:=R) (by simpa using hl) (λi b s hb hs=>h (i+1) b s (by simpa using hb) (by simpa using hs));refine⟨r'::rows',?_,by simp[h4],?_⟩
   .rw[List.flatten_cons,List.flatten_cons];exact I2 h1 h3
   .intro i b hb;cases i with
    |zero=>simp at hb;subst hb;exact⟨r',rfl,h2⟩
    |succ i=>exact h5 i b (by simpa using hb)
def NrR (c:Nd)(r:LA):Prop:=∃a b,r=[.sc (.int .i64 c.id),a,b]/\uT 1 a= .ls 1 (gP c.labels) false/\uT 6 b= .ls 6 (iy c.props) false
def ErR (c:Ed)(r:LA):Prop:=∃b,r=[.sc (.int .i64 c.id),.sc (.int .i64 c.src),.sc (.int .i64 c.dst),.sc (.string c.type),b]/\uT 6 b= .ls 6 (iy c.props) false
def Cf {h:Hp}{tag:Nat->Tg}{l:List Nd}{cY:List LA}{N:AV}(n:Nat)(ho:js h tag .nodes 3 cY N)(ha:lP (Dv h tag) l cY):
 ∃rows' y,Ae.dq h (n+3) N=some y/\uT 3 y= .ls 3 rows' false/\rows'.length=l.length/\(∀r∈rows',r.length=3)/\∀(i:Nat) (c:Nd),l[i]?=some c->∃r',rows'[i]?=some r'/\NrR c r':=by
 obtain⟨rows',h1,h2,h3⟩:=yJ (f:=Ae.dq h (n+2)) (R:=NrR) ha.1 (λi c r hc hr=>by
  obtain⟨L,P,rfl,o1,o2⟩:=ha.2 i c r hc hr;obtain⟨y1,a1,a2⟩:=o1.Iq (n:=n+1) (by omega) (jK _).1 (jK _).2;obtain⟨y2,b1,b2⟩:=o2.Iq (n:=n+1) (by omega) (jr _).1 (jr _).2;refine⟨[.sc (.int .i64 c.id),y1,y2],?_,y1,y2,rfl,a2,b2⟩;rw[Zo,Zo,Zo,List.mapM_nil,a1,b1];simp[Ae.dq])
 have h4:∀r∈rows',r.length=3:=λr hr=>by
  obtain⟨i,hi⟩:=List.mem_iff_getElem?.1 hr;have hl:=(Za.1 hi).1;obtain⟨r',e1,a,b,rfl,_⟩:=h3 i _ (Zb (by omega));rw[hi]at e1;cases e1;rfl
 obtain⟨y,e1,e2⟩:=ho.dq (n:=n+2) (by omega) h4 (by rw[h2,ha.1]) h1;exact⟨rows',y,e1,e2,h2,h4,h3⟩
def Cg {h:Hp}{tag:Nat->Tg}{l:List Ed}{cY:List LA}{N:AV}(n:Nat)(ho:js h tag .cZ 5 cY N)(ha:lP (FY h tag) l cY):
 ∃rows' y,Ae.dq h (n+3) N=some y/\uT 5 y= .ls 5 rows' false/\rows'.length=l.length/\(∀r∈rows',r.length=5)/\∀(i:Nat) (c:Ed),l[i]?=some c->∃r',rows'[i]?=some r'/\ErR c r':=by
 obtain⟨rows',h1,h2,h3⟩:=yJ (f:=Ae.dq h (n+2)) (R:=ErR) ha.1 (λi c r hc hr=>by
  obtain⟨P,rfl,o2⟩:=ha.2 i c r hc hr;obtain⟨y2,b1,b2⟩:=o2.Iq (n:=n+1) (by omega) (jr _).1 (jr _).2;refine⟨[.sc (.int .i64 c.id),.sc (.int .i64 c.src),.sc (.int .i64 c.dst),.sc (.string c.type),y2],?_,y2,rfl,b2⟩;rw[Zo,Zo,Zo,Zo,Zo,List.mapM_nil,b1];simp[Ae.dq])
 have h4:∀r∈rows',r.length=5:=λr hr=>by
  obtain⟨i,hi⟩:=List.mem_iff_getElem?.1 hr;have hl:=(Za.1 hi).1;obtain⟨r',e1,b,rfl,_⟩:=h3 i _ (Zb (by omega));rw[hi]at e1;cases e1;rfl
 obtain⟨y,e1,e2⟩:=ho.dq (n:=n+2) (by omega) h4 (by rw[h2,ha.1]) h1;exact⟨rows',y,e1,e2,h2,h4,h3⟩
def jw (n:Nat)(b:Bool)(E:Nat)(g:Gr)(N V:AV)(jW h_:List LA)(tag:Nat->Tg)(h:Hp)(x:Int)(pre gj post:List Nd)(hG:iF h tag E g N V jW h_)(hl:g.nodes.length<=1000000)(hs:iX (qM x) (qp x) g.nodes pre gj post):
 cW cx (n+5) b 168 [.pt E 0,x] h=some (.tp [pre.length,.sc (.bool !gj.isEmpty)],h):=by
 obtain⟨rows',y,e1,e2,e3,e4,e5⟩:=Cf 5 hG.ns hG.na;have hy:(∃z,y= .ls 3 rows' z)\/(rows'=[]/\y=()):=u5 e2;have ak:=λbb=>BD n g.nodes pre gj post x rows' y hy (by omega) e3 (λi c hc=>by
  obtain⟨r',r1,a,b,rfl,_⟩:=e5 i c hc;exact⟨a,b,r1⟩) hs bb h
 have hcy:d_ y=true:=by rcases hy with⟨z,rfl⟩|⟨_,rfl⟩<;>rfl
 have aa:∀bb,cW cx (n+4) bb 162 [N,x,.fn 227 []] h=some (.tp [pre.length,.sc (.bool !gj.isEmpty)],h):=λbb=>
  mr (n:=n+3) (ys:=[y,.sc (.int .i64 x),.fn 227 []]) (by kernel_rfl) (by kernel_rfl) (by
   rw[Zo,Zo,Zo,List.mapM_nil,e1];simp[Ae.dq]) (by rw[Zn,hcy];rfl) rfl (ak bb)
 have UZ:=hG.ns.np;have hb:=hG.box;rw[K7 (n:=n+4) f168 [.tmp 4,.tmp 5]];have q0:=λ(ops:Array Oper) (d:Tmp) (rest:List Oper) (fr:LA) (h:Hp)=>kW (C:=cx) (cal:=cW cx (n+4) true) (ops:=ops) (λv=>UZ v) d rest fr h
 generalize(!gj.isEmpty)=r at aa|-;simp[f168,hb,q0,aa]
def sH (n:Nat)(b:Bool)(E:Nat)(g:Gr)(N V:AV)(jW h_:List LA)(tag:Nat->Tg)(h:Hp)(x:Int)(pre gj post:List Ed)(hG:iF h tag E g N V jW h_)(hl:g.cZ.length<=1000000)(hs:iX (xf x) (wa x) g.cZ pre gj post):
 cW cx (n+5) b 176 [.pt E 0,x] h=some (.tp [pre.length,.sc (.bool !gj.isEmpty)],h):=by
 obtain⟨rows',y,e1,e2,e3,e4,e5⟩:=Cg 5 hG.es hG.ea;have hy:(∃z,y= .ls 5 rows' z)\/(rows'=[]/\y=()):=u5 e2;have ak:=λbb=>BF n g.cZ pre gj post x rows' y hy (by omega) e3 (λi c hc=>by
  obtain⟨r',r1,b,rfl,_⟩:=e5 i c hc;exact⟨_,_,_,b,r1⟩) hs bb h
 have hcy:d_ y=true:=by rcases hy with⟨z,rfl⟩|⟨_,rfl⟩<;>rfl
 have aa:∀bb,cW cx (n+4) bb 238 [V,x,.fn 239 []] h=some (.tp [pre.length,.sc (.bool !gj.isEmpty)],h):=λbb=>
  mr (n:=n+3) (ys:=[y,.sc (.int .i64 x),.fn 239 []]) (by kernel_rfl) (by kernel_rfl) (by
   rw[Zo,Zo,Zo,List.mapM_nil,e1];simp[Ae.dq]) (by rw[Zn,hcy];rfl) rfl (ak bb)
 have UZ:=hG.es.np;have hb:=hG.box;rw[K7 (n:=n+4) f176 [.tmp 4,.tmp 5]];have q0:=λ(ops:Array Oper) (d:Tmp) (rest:List Oper) (fr:LA) (h:Hp)=>kW (C:=cx) (cal:=cW cx (n+4) true) (ops:=ops) (λv=>UZ v) d rest fr h
 generalize(!gj.isEmpty)=r at aa|-;simp[f176,hb,q0,aa]
end
section
attribute [local simp] zi XM
@[simp] def QF (k:ByteArray)(v:V):lM ⟨k,v⟩= .sc (.string k)::enc v:=rfl
def qI (x:ByteArray)(v:V)(pre post:List iP):List iP:=pre++(if mD v then[]else[⟨x,v⟩])++post
def QG {h:Hp}{tag:Nat->Tg}{tg:Tg}{l:List iP}{X:AV}(ho:js h tag tg 6 (iy l) X)(n:Nat):∃y,Ae.dq h (n+1) X=some y/\((∃z,y= .ls 6 (iy l) z)\/(iy l=[]/\y= .sc (.slice none 0 0))):=by
 obtain⟨y,a1,a2⟩:=ho.Iq (n:=n) (by omega) (jr _).1 (jr _).2;exact⟨y,a1,u5 a2⟩
def Mb (n:Nat){h:Hp}{tag:Nat->Tg}{tg:Tg}{l pre gj post:List iP}{X:AV}(ho:js h tag tg 6 (iy l) X)(hl:l.length<=1000000){x:ByteArray}(hs:iX (Da x) (zq x) l pre gj post)(b:Bool):
 cW cx (n+4) b 234 [X,.sc (.string x),.fn 235 []] h=some (.tp [pre.length,.sc (.bool !gj.isEmpty)],h):=by
 obtain⟨y,e1,hy⟩:=QG ho 7;have ak:=BG n l pre gj post x (iy l) y hy (by omega) (dW l) (λi c hc=>by rw[qo,hc];rfl) hs b h;have hcy:d_ y=true:=by rcases hy with⟨z,rfl⟩|⟨_,rfl⟩<;>rfl
 exact mr (n:=n+3) (ys:=[y,.sc (.string x),.fn 235 []]) (by kernel_rfl) (by kernel_rfl) (by
  rw[Zo,Zo,Zo,List.mapM_nil,e1];simp[Ae.dq]) (by rw[Zn,hcy];rfl) rfl ak
def k_ {h:Hp}{tag:Nat->Tg}{tg:Tg}{sz:Nat}{cY:List LA}{X:AV}(ho:js h tag tg sz cY X):(cY.length=0/\X= .ls sz [] true)\/(cY.length=0/\X=())\/∃id,X= .sl id sz 0 cY.length false:=by
 rcases ho with⟨rfl,rfl|rfl⟩|⟨id,cs,rfl,_⟩
 .exact .inl ⟨rfl,rfl⟩
 .exact .inr (.inl ⟨rfl,rfl⟩)
 .exact .inr (.inr ⟨id,rfl⟩)
def sI {h:Hp}{tag:Nat->Tg}{tg:Tg}{sz:Nat}{pre post:List LA}{r r':LA}{id:Nat}{cs vs:LA}{o:Nat}(h1:h[id]?=some (.row cs))(h2:cs.take ((pre++[r]++post).length*sz)=(pre++[r]++post).flatten)(h3:(pre++[r]++post).length*sz<=cs.length)(h4:tag id=tg)
 (hr:∀y∈pre++[r]++post,y.length=sz) (ho:o+vs.length<=sz) (du:r'=da r o vs):
 js (h.set id (.row (da cs (pre.length*sz+o) vs))) tag tg sz (pre++[r']++post) (.sl id sz 0 (pre++[r]++post).length false):=by
 have hl:=(Za.1 h1).1;have cU:(pre++[r]++post).length=pre.length+1+post.length:=by simp;omega
 have hA:pre.flatten.length=pre.length*sz:=dH pre λy hy=>hr y (by simp[hy])
 have hC:post.flatten.length=post.length*sz:=dH post λy hy=>hr y (by simp[hy])
 have nC:r.length=sz:=hr r (by simp);have hN:(pre++[r]++post).length*sz=pre.length*sz+sz+post.length*sz:=by rw[cU,Xw,Xw,Nat.one_mul]
 obtain⟨D,hD⟩:∃D,cs=pre.flatten++r++post.flatten++D:=⟨cs.drop ((pre++[r]++post).length*sz),by
  have:=List.take_append_drop ((pre++[r]++post).length*sz) cs;have e:(pre++[r]++post).flatten=pre.flatten++r++post.flatten:=by simp
  rw[h2,e]at this;exact this.symm⟩
 have pY:da cs (pre.length*sz+o) vs=pre.flatten++da r o vs++post.flatten++D:=by
  unfold da;have e1:cs.take (pre.length*sz+o)=pre.flatten++r.take o:=by
   rw[hD,Zp,Zp,<-hA,List.take_length_add_append,List.take_append_of_le_length (by omega)]
  have e2:cs.drop (pre.length*sz+o+vs.length)=r.drop (o+vs.length)++post.flatten++D:=by
   rw[hD,Zp,Zp,<-hA,Nat.add_assoc,List.drop_length_add_append,List.drop_append_of_le_length (by omega),Zp]
  rw[e1,e2];simp
 have mY:(da r o vs).length=sz:=by rw[gK (by omega),nC]
 refine .inr ⟨id,_,by simp,Zj hl,?_,?_,h4⟩
 .rw[pY,du];have e:(pre++[da r o vs]++post).length*sz=(pre.flatten++da r o vs++post.flatten).length:=by
   simp only[Zu,Yw,Xa,hA,hC,mY,Xw];omega
  rw[e,List.take_left' rfl];simp
 .have e:(pre++[r']++post).length=(pre++[r]++post).length:=by simp
  rw[e,gK (by rw[hN]at h3;omega)];exact h3
def acg (N D:Nat)(b:Bool){h:Hp}{tag:Nat->Tg}{tg:Tg}{l pre gj post:List iP}{X:AV}(ho:js h tag tg 6 (iy l) X)(hl:l.length<=16){x:ByteArray}{v:V}(hs:iX (Da x) (zq x) l pre gj post)(hd:fB v<=D)(hv:gV v)(htg:tg≠ .none):
 if(qI x v pre post).length<=16 then
  ∃X' h' eO,cW cx (N+2*D+9) b 175 [X,.sc (.string x),.ag (enc v)] h=some (X',h')/\js h' eO tg 6 (iy (qI x v pre post)) X'/\gW h tag h' eO (λt=>t=tg)
 else∃h' eO,cW cx (N+2*D+9) b 175 [X,.sc (.string x),.ag (enc v)] h=some (.pn (.iface 150 (.int .i64 20)),h')/\gW h tag h' eO (λt=>t=tg):=by
 have lX:gW h tag (h++[.row (enc v)]) (gr tag h.length .none) (λt=>t=tg):=gW.push _ _ _ _ _;have fr0:gW h tag (h++[.row (enc v)]) (gr tag h.length .none) (λ_=>False):=gW.push _ _ _ _ _;have ho1:=ho.gH fr0 (λq=>q);have Dd:(h++[fp.row (enc v)])[h.length]?=some (.row (enc v)):=by simp
 have ht1:gr tag h.length .none h.length= .none:=by unfold gr;rw[dd rfl]
 have aa:=λbb=>Mb (N+2*D+4) ho1 (by omega) hs bb
 have ae:=λbb=>T3 N D bb v (h++[.row (enc v)]) hd hv
 have ny:=qY (n:=N+2*D+8) (f:=175) (args:=[X,.sc (.string x),.ag (enc v)]) ⟨f175.ntmps,(f175.body).getD .skip,[.tmp 6]⟩ rfl (by kernel_rfl) (by kernel_rfl) (by kernel_rfl) (by kernel_rfl) (by simp[f175]) b h;have UZ:=ho.np;have q0:=λ(ops:Array Oper) (d:Tmp) (rest:List Oper) (fr:LA) (h:Hp)=>kW (C:=cx) (cal:=cW cx (N+2*D+8) true) (ops:=ops) (λv=>UZ v) d rest fr h
 have hplen:pre.length<=l.length:=by rw[hs.e];simp
 have e5:dM .i64 ((pre.length:Int)+1)=(pre.length:Int)+1:=dh (by omega) (by omega);rw[ny];have lB:=hs.one;cases hz:mD v
 .rw[hz]at ae;have KV:qI x v pre post=pre++[⟨x,v⟩]++post:=by unfold qI;rw[hz];rfl
  cases gj with
  |
   nil=>
   simp only[Qa,Xz]at aa;have el:l=pre++post:=by rw[hs.e];simp
   have ah:=kc (N+2*D+7);have f4':=kK (N+2*D+7);have C_:(qI x v pre post).length=l.length+1:=by rw[KV,el];simp;omega
   by_cases oe:l.length<16
   .rw[dd (by omega)];have c16:(l.length:Int)<16:=by omega
    have xz:gW h tag (h++[.row (enc v)]++[.row (lM ⟨x,v⟩)]) (gr (gr tag h.length .none) (h.length+1) .none) (λ_=>False):=by
     have:=gW.push (h++[.row (enc v)]) (gr tag h.length .none) (.row (lM ⟨x,v⟩)) .none (λ_=>False);rw[Zu]at this;exact fr0.trans this (λ_ q=>q) (λ_ q=>q)
    have ho2:=ho.gH xz (λq=>q);rw[el,kH]at ho2;have hw:∀r∈iy pre++iy post,r.length=6:=λr hr=>by rw[<-kH]at hr;exact(jr _).1 r hr
    have Dx:(iy pre++iy post).length+1<=1000000:=by rw[Zu,dW,dW];rw[el,Zu]at oe;omega
    obtain⟨X',h',eO,g1,g2,g3⟩:=AL (bytes:=80) (k:=false) (vs:=lM ⟨x,v⟩) (vid:=h.length+1) ho2 hw (by rw[Zf (by simp)];simp) (by simp) (by
     unfold gr;rw[dd rfl];exact λe=>htg e.symm) Dx (by omega)
    have ai:=λbb=>(UR (N+2*D+7) bb _ _).trans g1
    have adI:=g2.np;have q2:=λ(ops:Array Oper) (d:Tmp) (rest:List Oper) (fr:LA) (h:Hp)=>kW (C:=cx) (cal:=cW cx (N+2*D+8) true) (ops:=ops) (λv=>adI v) d rest fr h
    refine⟨X',h',eO,?_,by rw[KV,kH,kH];exact g2,xz.trans g3 (λ_ q=>q.elim) (λ_ q=>q)⟩;rw[dW]at ai;simp only[Zp,Zv,Zw,QF]at ai;have cU:=dW l;rcases k_ ho with⟨h0,rfl⟩|⟨h0,rfl⟩|⟨id,rfl⟩
    .simp[f175,q2,aa,ae,ah,ai,da]
    .simp[f175,q2,aa,ae,ah,ai,da]
    .rw[cU]at aa ai|-;simp[f175,q2,aa,ae,ah,ai,da,c16]
   .rw[db (by omega)];have c16:¬(l.length:Int)<16:=by omega
    refine⟨_,_,?_,lX⟩;have cU:=dW l;rcases k_ ho with⟨h0,rfl⟩|⟨h0,rfl⟩|⟨id,rfl⟩
    .omega
    .omega
    .rw[cU]at aa|-;simp[f175,aa,ae,f4',c16]
  |
   cons p m=>
   have hm:m=[]:=by simpa using lB
   subst hm;simp only[Qd,Xj]at aa;have el:l=pre++[p]++post:=hs.e;have hk:p.key=x:=(iT _ _).1 (hs.m p (by simp)).2;rw[dd (by rw[KV];rw[el]at hl;simpa using hl),KV];have nC:iy l=iy pre++[lM p]++iy post:=by rw[el,kH,kH];rfl
   rcases ho1 with⟨he,_⟩|⟨id,cs,rfl,h1,h2,h3,h4⟩
   .rw[nC]at he;simp at he
   .have cU:=dW l;have c1:pre.length<l.length:=by rw[el];simp
    have c2:pre.length*6+1+5<=cs.length:=by rw[cU]at h3;omega
    have hpu:=sI (o:=1) (vs:=enc v) (r':=lM ⟨x,v⟩) h1 (by rw[<-nC];exact h2) (by rw[<-nC];exact h3) h4 (λy hy=>by rw[<-nC]at hy;exact(jr _).1 y hy) (by simp) (by
     obtain⟨k,w⟩:=p;simp only at hk;subst hk;simp[da])
    rw[dW,<-nC]at hpu;refine⟨.sl id 6 0 (iy l).length false,_,_,?_,?_,lX.trans (gW.set _ _ id (.row (da cs (pre.length*6+1) (enc v))) (S:=λt=>t=tg) h4) (λ_ q=>q) (λ_ q=>q)⟩
    .rw[cU]at aa|-;simp[f175,aa,ae,c1,c2,h1]
    .rw[kH,kH];exact hpu
 .rw[hz]at ae;cases gj with
  |
   nil=>
   have e:qI x v pre post=l:=by unfold qI;rw[hz,hs.e];simp
   rw[e,dd hl];refine⟨X,_,_,?_,ho1,lX⟩;simp only[Qa,Xz]at aa;simp[f175,q0,aa,ae]
  |
   cons p m=>
   have hm:m=[]:=by simpa using lB
   subst hm;simp only[Qd,Xj]at aa;have el:l=pre++[p]++post:=hs.e;have KV:qI x v pre post=pre++post:=by unfold qI;rw[hz];simp
   rw[dd (by rw[KV];rw[el]at hl;simp at hl|-;omega),KV];have nC:iy l=iy pre++[lM p]++iy post:=by rw[el,kH,kH];rfl
   rw[nC]at ho1;have hd2:=λbb=>AM UW ho1 (λy hy=>by rw[<-nC]at hy;exact(jr _).1 y hy) (by rw[<-nC,dW];omega) (N+2*D+7) bb
   obtain⟨X',h',g1,g2,g3⟩:=hd2 true;rw[dW]at g1;have adI:=g2.np;have q2:=λ(ops:Array Oper) (d:Tmp) (rest:List Oper) (fr:LA) (h:Hp)=>kW (C:=cx) (cal:=cW cx (N+2*D+8) true) (ops:=ops) (λv=>adI v) d rest fr h
   refine⟨X',h',_,?_,by rw[kH];exact g2,lX.trans g3 (λ_ q=>q) (λ_ q=>q)⟩;simp[f175,q0,q2,aa,ae,e5,g1]
def EA {f:FuncId}{args:LA}{n:Nat}(bad:Nat->Bool)(fi:Fi)(hs:cx.ox f=none)(hi:cx.inl f=true)(hF:cx.F f=some fi)(hd:(j5 cx fi.body).isNone=true)(iG:I3 cx bad fi.body=true)(hl:args.length<=fi.ntmps)(b:Bool)(h:Hp)(hp:kv f=true:=by decide):
 cW cx (n+1) b f args h=eQ fi.res (gM cx (cW cx n) bad fi.body (args++List.replicate (fi.ntmps-args.length) .un,h)):=by
 have e1:cx.ins f=none:=Bc hp;have e2:(if args.all d_ then cx.tE f args else none)=none:=by rw[show cx.tE f args=none from wV hp];split<;>rfl
 simp only[cW,hs,hi,if_true,e1,e2,hF,Yd.1 hd];exact yK hF iG hl h
def De {f:FuncId}{args:LA}{n:Nat}(bad:Nat->Bool)(fn:Func)(res:List Rv){b:Bool}{h:Hp}(hs:cx.ox f=none:=by rfl)(hi:cx.inl f=true:=by kernel_rfl)(hF:cx.F f=some ⟨fn.ntmps,(fn.body).getD .skip,res⟩:=by kernel_rfl)(hd:(j5 cx ((fn.body).getD .skip)).isNone=true:=by kernel_rfl)(iG:I3 cx bad ((fn.body).getD .skip)=true:=by kernel_rfl)(hl:Nat.ble args.length fn.ntmps=true:=by rfl)(hp:kv f=true:=by decide):cW cx (n+1) b f args h=eQ res (gM cx (cW cx n) bad ((fn.body).getD .skip) (args++List.replicate (fn.ntmps-args.length) .un,h)):=
 EA bad ⟨fn.ntmps,(fn.body).getD .skip,res⟩ hs hi hF hd iG (Nat.le_of_ble_eq_true hl) b h hp
def yL {C:Cx}{cal:jH}{l:List Oper}{j m:Nat}(hn:(needs C l.toArray,Hv C l.toArray)=([(j,m)],false))(hj:j<l.length)(hg:(l[j]'hj).guard=none)(hm:m<=l.length)(s:St):
 td C cal true l s=pD (dz C cal l.toArray (l.take j) s) λsj=>pD (dz C cal l.toArray (l.take m) s) λsm=>Mc (n0 C cal (ev C sj.1) sj.2 (l[j]'hj)) (n0 C cal (ev C sj.1) sm.2 (l[j]'hj)) (dz C cal l.toArray l s):=
 aan (congrArg Prod.fst hn) (Zb hj) hg hm (congrArg Prod.snd hn) s
def aao {C:Cx}{cal:jH}{l:List Oper}{j m:Nat}(hn:needs C l.toArray=[(j,m)])(hj:j<l.length)(hg:(l[j]'hj).guard=none)(hm:m<=l.length)(s:St):
 td C cal true l s=U0 (dz C cal l.toArray l s) (pD (dz C cal l.toArray (l.take j) s) λsj=>pD (dz C cal l.toArray (l.take m) s) λsm=>Mc (n0 C cal (ev C sj.1) sj.2 (l[j]'hj)) (n0 C cal (ev C sj.1) sm.2 (l[j]'hj)) (dz C cal l.toArray l s)) (wR C cal l.toArray s):=
 U1 hn (Zb hj) hg hm s
def aap (r:Option St)(f:St->Prop):Prop:=match r with|some s=>f s|none=>False
@[simp] def afN (s:St)(f:St->Prop):aap (some s) f=f s:=rfl
def I4 {C:Cx}{cal:jH}{l:List Oper}(J:Nat)(post:List Oper){v:Value}{hP:Hp}(hJ:J<l.length)(dD:(Hv C l.toArray && (ew C (l[J]'hJ) && (needs C l.toArray).all (λq=>decide (J<q.2))) && (l[J]'hJ).guard.isNone)=true)(Ob:DY (DX l.toArray J)=post){s:St}
 (hb:aap (dz C cal l.toArray (l.take J) s) λsj=>n0 C cal (ev C sj.1) sj.2 (l[J]'hJ)=some (.pn v,hP)/\aap (dz C cal l.toArray post sj) λ_=>True):
 td C cal true l s=some (.vE v,(X8 l s.1,hP)):=by
 rw[Zh,Zh,Yd]at dD;unfold aap at hb;split at hb
 .rename_i sj h1;obtain⟨h2,h3⟩:=hb;split at h3
  .rename_i s2 h4;exact aaq J dD.1.1 (Zb hJ) rfl Ob dD.1.2 dD.2 h1 h2 h4
  .exact h3.elim
 .exact hb.elim
def xA {h:Hp}{tag:Nat->Tg}{tg:Tg}{sz:Nat}{cY:List LA}{x:AV}(ho:js h tag tg sz cY x):jI x x=true:=by
 rcases ho with⟨_,rfl|rfl⟩|⟨id,cs,rfl,_⟩<;>simp[jI,tH,Ae.rZ]
def Fo (h:Hp)(tag:Nat->Tg)(h':Hp)(eO:Nat->Tg):Prop:=gW h tag h' eO (λt=>t≠ .none)
def fQ {h:Hp}{tag:Nat->Tg}{E:Nat}{g:Gr}{N V:AV}{nr er:List LA}(H:iF h tag E g N V nr er)(r:LA):iF (h++[.row r]) (gr tag h.length .none) E g N V nr er:=H.gH (gW.push _ _ _ _ _)
def lP.split {α:Type}{R:α->LA->Prop}{l1 l2:List α}{cY:List LA}(h:lP R (l1++l2) cY):∃r1 r2,cY=r1++r2/\lP R l1 r1/\lP R l2 r2:=by
 have hl:=h.1;rw[Zu]at hl;refine⟨cY.take l1.length,cY.drop l1.length,(List.take_append_drop _ _).symm,⟨by simp;omega,λi a r ha hr=>?_⟩,⟨by simp;omega,λi a r ha hr=>?_⟩⟩
 .rw[Xr]at hr;split at hr
  .exact h.2 i a r (by rw[Zd (by omega)];exact ha) hr
  .cases hr
 .rw[Xg]at hr;exact h.2 (l1.length+i) a r (by rw[Zf (by omega),Nat.add_sub_cancel_left];exact ha) hr
def lP.app {α:Type}{R:α->LA->Prop}{l1 l2:List α}{r1 r2:List LA}(h1:lP R l1 r1)(h2:lP R l2 r2):lP R (l1++l2) (r1++r2):=by
 refine⟨by rw[Zu,Zu,h1.1,h2.1],λi a r ha hr=>?_⟩;by_cases hi:i<l1.length
 .rw[Zd hi]at ha;rw[Zd (by rw[h1.1];exact hi)]at hr;exact h1.2 i a r ha hr
 .rw[Zf (by omega)]at ha;rw[Zf (by rw[h1.1];omega),h1.1]at hr;exact h2.2 _ a r ha hr
def lP.one {α:Type}{R:α->LA->Prop}{a:α}{r:LA}(h:R a r):lP R [a] [r]:=
 ⟨rfl,λi b s hb hs=>by
  cases i with
  |zero=>simp at hb hs;subst hb hs;exact h
  |succ i=>simp at hb⟩
def lP.all {α:Type}{R:α->LA->Prop}{l:List α}{cY:List LA}(h:lP R l cY){P:LA->Prop}(hp:∀a r,R a r->P r):∀r∈cY,P r:=λr hr=>by
 obtain⟨i,hi⟩:=List.mem_iff_getElem?.1 hr;have hl:=(Za.1 hi).1;rw[h.1]at hl;exact hp _ r (h.2 i _ r (Zb hl) hi)
def Dv.len {h:Hp}{tag:Nat->Tg}{n:Nd}{r:LA}(hr:Dv h tag n r):r.length=3:=by obtain⟨L,P,rfl,_⟩:=hr;rfl
def FY.len {h:Hp}{tag:Nat->Tg}{n:Ed}{r:LA}(hr:FY h tag n r):r.length=5:=by obtain⟨P,rfl,_⟩:=hr;rfl
def jj (tag:Nat->Tg)(i:Nat)(t:Tg):gr tag i t i=t:=by unfold gr;rw[dd rfl]
def xB {tag:Nat->Tg}{i j:Nat}{t:Tg}(h:j<i):gr tag i t j=tag j:=by unfold gr;rw[db (by omega)]
@[simp] def ain (c:Ch)(h:0< (dp c).length):(dp c)[0]'h=c.k:=rfl
@[simp] def ais (c:Ch)(h:1< (dp c).length):(dp c)[1]'h=c.a:=rfl
@[simp] def aiZ (c:Ch)(h:2< (dp c).length):(dp c)[2]'h=c.b:=rfl
@[simp] def aiI (c:Ch)(h:3< (dp c).length):(dp c)[3]'h=c.c:=rfl
@[simp] def ai4 (c:Ch)(h:4< (dp c).length):(dp c)[4]'h= .sc (.string c.name):=rfl
@[simp] def aiu (c:Ch):(dp c).drop 5=enc c.v:=rfl
@[simp] def ah4 (s:St):uo [] s=some (.tp []):=rfl
def I5 (n:Nat)(b:Bool)(E:Nat)(g:Gr)(c:Ch)(N V:AV)(nr er:List LA)(tag:Nat->Tg)(h:Hp)(pre post:List Nd)(H:iF h tag E g N V nr er)(hk:c.k=1)(dC:1<=c.a/\c.a<=1000000)(hs:iX (qM c.a) (qp c.a) g.nodes pre [] post)(hl:g.nodes.length<2000):
 ∃h' eO N' V' tf u6,cW cx (n+6) b 107 [.pt E 0,.ag (dp c)] h=some (.tp [],h')/\iF h' eO E (rA g pre post ⟨c.a,[],[]⟩) N' V' tf u6/\Fo h tag h' eO:=by
 have uq:=(Za.1 H.box).1;have aa:=λbb=>jw n bb E g N V nr er _ _ c.a pre [] post (fQ H (dp c)) (by omega) hs
 have ae:=kc (n+4);have xz:gW h tag (h++[.row (dp c)]++[.row [c.a,(),()]]) (gr (gr tag h.length .none) (h.length+1) .none) (λ_=>False):=by
  have a:=gW.push h tag (.row (dp c)) .none (λ_=>False);have b:=gW.push (h++[.row (dp c)]) (gr tag h.length .none) (.row [c.a,(),()]) .none (λ_=>False);rw[Zu]at b;exact a.trans b (λ_ q=>q) (λ_ q=>q)
 have H2:iF (h++[.row (dp c)]++[.row [c.a,(),()]]) (gr (gr tag h.length .none) (h.length+1) .none) E g N V nr er:=H.gH (λid b h1 _=>xz id b h1 (λq=>q));have KW:(h++[.row (dp c)]++[.row [c.a,(),()]])[h.length]?=some (.row (dp c)):=by simp
 have yM:(h++[.row (dp c)]++[.row [c.a,(),()]])[h.length+1]?=some (.row [c.a,(),()]):=by rw[Zf (by simp)];simp
 generalize hH2:h++[.row (dp c)]++[.row [c.a,(),()]]=h2 at *;generalize hT2:gr (gr tag h.length .none) (h.length+1) .none=t2 at *;have po:=H2.na;rw[hs.e,Yp]at po;obtain⟨r1,r2,YM,oV,rF⟩:=po.split;have ou:=H2.ns;rw[YM]at ou;have hw:=H2.na.all (P:=λr=>r.length=3) (λa r q=>q.len);rw[YM]at hw;have EB:g.nodes.length=pre.length+post.length:=by rw[hs.e];simp
 obtain⟨x',h3,t3,g1,g2,g3⟩:=AL (bytes:=56) (k:=false) ou hw yM rfl (by rw[<-hT2,jj];simp) (by rw[Zu,oV.1,rF.1];omega) (by omega);rw[oV.1]at g1;have af:=λbb=>(US (n+4) bb _ _).trans g1
 have q1:=oG (λv=>H.ns.np v)
 have q1':=NZ (λv=>H.ns.np v)
 have q2':=NZ (λv=>g2.np v)
 have eN:=xA H.ns;have cN:=g2.cls;unfold cls at cN;have ur:∀y,(h++y)[E]?=some (.row [N,V,g.nn,g.ne]):=λy=>by rw[Zd uq];exact H.box
 have hE2:=H2.box;have hE3:=(g3 E _ hE2 (by rw[H2.tb];simp)).1;have DD:=(g3 h.length _ KW (by rw[<-hT2,xB (by omega),jj];simp)).1;have adJ:=(Za.1 hE3).1;have KX:∀y,(h3.set E y)[E]?=some y:=λy=>Zj adJ
 have adK:∀y,(h3.set E y)[h.length]?=some (.row (dp c)):=λy=>by rw[Zq (by omega)];exact DD
 have e1:dM .i64 (c.a+1)=c.a+1:=dh (by omega) (by omega);rw[De (n:=n+5) (λi=>i==5||i==10||i==22) f107 []];have wk:(if g.nn<c.a+1 then c.a+1 else g.nn)=max g.nn (c.a+1):=by split<;>omega
 have hN:=k_ H.ns;rw[H.na.1]at hN;have Dy:(g.nodes.length:Int)<2000:=by omega
 refine⟨h3.set E (.row [x',V,.sc (.int .i64 (max g.nn (c.a+1))),g.ne]),t3,x',V,r1++[[.sc (.int .i64 c.a),.sc (.slice none 0 0),.sc (.slice none 0 0)]]++r2,er,?_,?_,?_⟩
 .simp only[Qa,Xz]at aa;subst hH2;simp only[Zp,Zv,Zw]at af;rcases hN with⟨h0,rfl⟩|⟨h0,rfl⟩|⟨id,rfl⟩
  all_goals
   simp[f107,aa,ae,hk,ur,Dy];rw[yL (j:=5) (m:=11) ?_ ?_ ?_ ?_]
   rotate_left
   .kernel_rfl
   .simp
   .rfl
   .simp
   simp[af,ur,eN,q2',da,hE3,cN,KX,adK,e1,wk]
 .have fr:gW h3 t3 (h3.set E (.row [x',V,.sc (.int .i64 (max g.nn (c.a+1))),g.ne])) t3 (λt=>t= .box):=gW.set h3 t3 E _ (by
   have:=(g3 E _ hE2 (by rw[H2.tb];simp)).2;rw[this,H2.tb])
  exact{
   box:=KX _
   tb:=(g3 E _ hE2 (by rw[H2.tb];simp)).2.trans H2.tb
   ns:=g2.gH fr (by simp)
   es:=(H2.es.gH g3 (by simp)).gH fr (by simp)
   na:=by
    have e:(rA g pre post ⟨c.a,[],[]⟩).nodes=pre++[⟨c.a,[],[]⟩]++post:=by simp[rA]
    rw[e];refine((oV.imp λa _ r h1=>(h1.gH g3 (by simp) (by simp)).gH fr (by simp) (by simp)).app (lP.one ⟨_,_,rfl,.inl ⟨rfl,.inr rfl⟩,.inl ⟨rfl,.inr rfl⟩⟩)).app (rF.imp λa _ r h1=>(h1.gH g3 (by simp) (by simp)).gH fr (by simp) (by simp))
   ea:=H2.ea.imp λa _ r h1=>(h1.gH g3 (by simp)).gH fr (by simp)}
 .have fr:gW h3 t3 (h3.set E (.row [x',V,.sc (.int .i64 (max g.nn (c.a+1))),g.ne])) t3 (λt=>t= .box):=gW.set h3 t3 E _ (by
   have:=(g3 E _ hE2 (by rw[H2.tb];simp)).2;rw[this,H2.tb])
  exact(xz.trans g3 (S2:=λt=>t≠ .none) (λ_ q=>q.elim) (λ_ q=>by rw[q];simp)).trans fr (λ_ q=>q) (λ_ q=>by rw[q];simp)
def I6 (n:Nat)(b:Bool)(E:Nat)(g:Gr)(c:Ch)(N V:AV)(nr er:List LA)(tag:Nat->Tg)(h:Hp)(pre post:List Nd)(m:Nd)(H:iF h tag E g N V nr er)(hk:c.k=1)(hs:iX (qM c.a) (qp c.a) g.nodes pre [m] post)(hl:g.nodes.length<=2000):
 ∃h' eO,cW cx (n+6) b 107 [.pt E 0,.ag (dp c)] h=some (.pn (.iface 150 (.int .i64 7)),h')/\Fo h tag h' eO:=by
 have uq:=(Za.1 H.box).1;have aa:=λbb=>jw n bb E g N V nr er _ _ c.a pre [m] post (fQ H (dp c)) (by omega) hs
 have zD:=kK (n+4);have ur:∀y,(h++y)[E]?=some (.row [N,V,g.nn,g.ne]):=λy=>by rw[Zd uq];exact H.box
 rw[De (n:=n+5) (λi=>i==5||i==10||i==22) f107 []];refine⟨_,_,?_,gW.push h tag (.row (dp c)) .none _⟩;simp only[Qd,Xj]at aa;simp[f107,aa,zD,hk]
def I7 (n:Nat)(b:Bool)(E:Nat)(g:Gr)(c:Ch)(N V:AV)(nr er:List LA)(tag:Nat->Tg)(h:Hp)(pre post:List Nd)(H:iF h tag E g N V nr er)(hk:c.k=1)(hs:iX (qM c.a) (qp c.a) g.nodes pre [] post)(hl:g.nodes.length<=2000)(hf:2000<=g.nodes.length):
 ∃h' eO,cW cx (n+6) b 107 [.pt E 0,.ag (dp c)] h=some (.pn (.iface 150 (.int .i64 20)),h')/\Fo h tag h' eO:=by
 have uq:=(Za.1 H.box).1;have aa:=λbb=>jw n bb E g N V nr er _ _ c.a pre [] post (fQ H (dp c)) (by omega) hs
 have ae:=kc (n+4);have zD:=kK (n+4);have ur:∀y,(h++y)[E]?=some (.row [N,V,g.nn,g.ne]):=λy=>by rw[Zd uq];exact H.box
 rw[De (n:=n+5) (λi=>i==5||i==10||i==22) f107 []];refine⟨_,_,?_,gW.push h tag (.row (dp c)) .none _⟩;simp only[Qa,Xz]at aa;have hN:=k_ H.ns;rw[H.na.1]at hN;have Dy:¬(g.nodes.length:Int)<2000:=by omega
 rcases hN with⟨h0,rfl⟩|⟨h0,rfl⟩|⟨id,rfl⟩
 .omega
 .omega
 .simp[f107,aa,ae,zD,hk,ur,Dy]
def I8 (n:Nat)(b:Bool)(E:Nat)(g:Gr)(c:Ch)(N V:AV)(nr er:List LA)(tag:Nat->Tg)(h:Hp)(pre post:List Nd)(H:iF h tag E g N V nr er)(hk:¬c.k=1)(hs:iX (qM c.a) (qp c.a) g.nodes pre [] post)(hl:g.nodes.length<=2000):
 ∃h' eO,cW cx (n+6) b 107 [.pt E 0,.ag (dp c)] h=some (.pn (.iface 150 (.int .i64 10)),h')/\Fo h tag h' eO:=by
 have uq:=(Za.1 H.box).1;have aa:=λbb=>jw n bb E g N V nr er _ _ c.a pre [] post (fQ H (dp c)) (by omega) hs
 have zD:=kK (n+4);have ur:∀y,(h++y)[E]?=some (.row [N,V,g.nn,g.ne]):=λy=>by rw[Zd uq];exact H.box
 rw[De (n:=n+5) (λi=>i==5||i==10||i==22) f107 []];refine⟨_,_,?_,gW.push h tag (.row (dp c)) .none _⟩;simp only[Qa,Xz]at aa;simp[f107,aa,zD,hk]
def i_ {h:Hp}{tag:Nat->Tg}{tg:Tg}{sz:Nat}{pre post:List LA}{r:LA}{N:AV}(ho:js h tag tg sz (pre++[r]++post) N)(hr:∀y∈pre++[r]++post,y.length=sz):
 ∃id cs,N= .sl id sz 0 (pre++[r]++post).length false/\h[id]?=some (.row cs)/\tag id=tg/\cs.take ((pre++[r]++post).length*sz)=(pre++[r]++post).flatten/\(pre++[r]++post).length*sz<=cs.length/\∀j x,r[j]?=some x->cs[pre.length*sz+j]?=some x:=by
 rcases ho with⟨he,_⟩|⟨id,cs,rfl,h1,h2,h3,h4⟩
 .simp at he
 .refine⟨id,cs,rfl,h1,h4,h2,h3,λj x hj=>?_⟩;have hA:pre.flatten.length=pre.length*sz:=dH pre λy hy=>hr y (by simp[hy])
  have jU:=(Za.1 hj).1;have e:(pre++[r]++post).flatten[pre.length*sz+j]?=some x:=by
   rw[List.flatten_append,List.flatten_append,Zp,<-hA,Zf (by omega),Nat.add_sub_cancel_left];simp only[List.flatten_cons,List.flatten_nil,Yp];rw[Zd jU];exact hj
  rw[<-h2,Xr]at e;split at e
  .exact e
  .cases e
def Oz {h h3:Hp}{tag t3:Nat->Tg}{E:Nat}{g:Gr}{N V x':AV}{nr er:List LA}{pre post:List Nd}{m:Nd}{ls:List ByteArray}{id:Nat}{cs:LA}{i:Nat}(H:iF h tag E g N V nr er)(he:g.nodes=pre++[m]++post)(eW:∀a∈pre++post,a.id≠m.id)
 (hN:N= .sl id 3 0 i false) (dC:h[id]?=some (.row cs)) (hx:js h3 t3 (.LR m.id) 1 (gP ls) x') (hf:gW h tag h3 t3 (λt=>t= .LR m.id)):
 ∃tf,iF (h3.set id (.row (da cs (pre.length*3+1) [x']))) t3 E {g with nodes:=pre++[{m with labels:=ls}]++post} N V tf er/\gW h tag (h3.set id (.row (da cs (pre.length*3+1) [x']))) t3 (λt=>t= .LR m.id\/t= .nodes):=by
 have po:=H.na;rw[he]at po;obtain⟨U2,r3,hr,pF,Aj⟩:=po.split;obtain⟨r1,r2,du,oV,rF⟩:=pF.split;subst du;obtain⟨r,rfl⟩:∃r,r2=[r]:=Qe.1 rF.1;obtain⟨L,P,rfl,o1,o2⟩:=rF.2 0 m r rfl rfl;have ou:=H.ns;rw[hr]at ou;have hw:=H.na.all (P:=λr=>r.length=3) (λa r q=>q.len);rw[hr]at hw;obtain⟨qO,cs',e1,e2,e3,e4,e5,e6⟩:=i_ ou hw;rw[hN]at e1;simp only[AV.sl.injEq,true_and,and_true]at e1;obtain⟨rfl,rfl⟩:=e1;rw[dC]at e2;cases e2;have k1:=hf id _ dC (by rw[e3];simp);have px:=sI (o:=1) (vs:=[x']) (r':=[.sc (.int .i64 m.id),x',P]) k1.1 e4 e5 (k1.2.trans e3) hw (by simp) (by simp[da]);rw[oV.1]at px;have fr:gW h3 t3 (h3.set id (.row (da cs (pre.length*3+1) [x']))) t3 (λt=>t= .nodes):=gW.set h3 t3 id _ (k1.2.trans e3);have kE:=hf E _ H.box (by rw[H.tb];simp);refine⟨r1++[[.sc (.int .i64 m.id),x',P]]++r3,{
  box:=(fr E _ kE.1 (by rw[kE.2,H.tb];simp)).1
  tb:=kE.2.trans H.tb
  ns:=by rw[hN];exact px
  es:=(H.es.gH hf (by simp)).gH fr (by simp)
  na:=((oV.imp λa ha r q=>(q.gH hf (by simpa using eW a (by simp[ha])) (by simp)).gH fr (by simp) (by simp)).app (lP.one (a:=({m with labels:=ls}:Nd)) ⟨x',P,rfl,hx.gH fr (by simp),(o2.gH hf (by simp)).gH fr (by simp)⟩)).app (Aj.imp λa ha r q=>(q.gH hf (by simpa using eW a (by simp[ha])) (by simp)).gH fr (by simp) (by simp))
  ea:=H.ea.imp λa _ r q=>(q.gH hf (by simp)).gH fr (by simp)},hf.trans fr (λ_ q=> .inl q) (λ_ q=> .inr q)⟩
def U3 {h h3:Hp}{tag t3:Nat->Tg}{E:Nat}{g:Gr}{N V x':AV}{nr er:List LA}{pre post:List Nd}{m:Nd}{ls:List iP}{id:Nat}{cs:LA}{i:Nat}(H:iF h tag E g N V nr er)(he:g.nodes=pre++[m]++post)(eW:∀a∈pre++post,a.id≠m.id)
 (hN:N= .sl id 3 0 i false) (dC:h[id]?=some (.row cs)) (hx:js h3 t3 (.prop m.id) 6 (iy ls) x') (hf:gW h tag h3 t3 (λt=>t= .prop m.id)):
 ∃tf,iF (h3.set id (.row (da cs (pre.length*3+2) [x']))) t3 E {g with nodes:=pre++[{m with props:=ls}]++post} N V tf er/\gW h tag (h3.set id (.row (da cs (pre.length*3+2) [x']))) t3 (λt=>t= .prop m.id\/t= .nodes):=by
 have po:=H.na;rw[he]at po;obtain⟨U2,r3,hr,pF,Aj⟩:=po.split;obtain⟨r1,r2,du,oV,rF⟩:=pF.split;subst du;obtain⟨r,rfl⟩:∃r,r2=[r]:=Qe.1 rF.1;obtain⟨L,P,rfl,o1,o2⟩:=rF.2 0 m r rfl rfl;have ou:=H.ns;rw[hr]at ou;have hw:=H.na.all (P:=λr=>r.length=3) (λa r q=>q.len);rw[hr]at hw;obtain⟨qO,cs',e1,e2,e3,e4,e5,e6⟩:=i_ ou hw;rw[hN]at e1;simp only[AV.sl.injEq,true_and,and_true]at e1;obtain⟨rfl,rfl⟩:=e1;rw[dC]at e2;cases e2;have k1:=hf id _ dC (by rw[e3];simp);have px:=sI (o:=2) (vs:=[x']) (r':=[.sc (.int .i64 m.id),L,x']) k1.1 e4 e5 (k1.2.trans e3) hw (by simp) (by simp[da]);rw[oV.1]at px;have fr:gW h3 t3 (h3.set id (.row (da cs (pre.length*3+2) [x']))) t3 (λt=>t= .nodes):=gW.set h3 t3 id _ (k1.2.trans e3);have kE:=hf E _ H.box (by rw[H.tb];simp);refine⟨r1++[[.sc (.int .i64 m.id),L,x']]++r3,{
  box:=(fr E _ kE.1 (by rw[kE.2,H.tb];simp)).1
  tb:=kE.2.trans H.tb
  ns:=by rw[hN];exact px
  es:=(H.es.gH hf (by simp)).gH fr (by simp)
  na:=((oV.imp λa ha r q=>(q.gH hf (by simp) (by simpa using eW a (by simp[ha]))).gH fr (by simp) (by simp)).app (lP.one (a:=({m with props:=ls}:Nd)) ⟨L,x',rfl,(o1.gH hf (by simp)).gH fr (by simp),hx.gH fr (by simp)⟩)).app (Aj.imp λa ha r q=>(q.gH hf (by simp) (by simpa using eW a (by simp[ha]))).gH fr (by simp) (by simp))
  ea:=H.ea.imp λa _ r q=>(q.gH hf (by simp)).gH fr (by simp)},hf.trans fr (λ_ q=> .inl q) (λ_ q=> .inr q)⟩
def QH {h h3:Hp}{tag t3:Nat->Tg}{E:Nat}{g:Gr}{N V x':AV}{nr er:List LA}{pre post:List Ed}{m:Ed}{ls:List iP}{id:Nat}{cs:LA}{i:Nat}(H:iF h tag E g N V nr er)(he:g.cZ=pre++[m]++post)(eW:∀a∈pre++post,a.id≠m.id)
 (hN:V= .sl id 5 0 i false) (dC:h[id]?=some (.row cs)) (hx:js h3 t3 (.Eu m.id) 6 (iy ls) x') (hf:gW h tag h3 t3 (λt=>t= .Eu m.id)):
 ∃u6,iF (h3.set id (.row (da cs (pre.length*5+4) [x']))) t3 E {g with cZ:=pre++[{m with props:=ls}]++post} N V nr u6/\gW h tag (h3.set id (.row (da cs (pre.length*5+4) [x']))) t3 (λt=>t= .Eu m.id\/t= .cZ):=by
 have po:=H.ea;rw[he]at po;obtain⟨U2,r3,hr,pF,Aj⟩:=po.split;obtain⟨r1,r2,du,oV,rF⟩:=pF.split;subst du;obtain⟨r,rfl⟩:∃r,r2=[r]:=Qe.1 rF.1;obtain⟨P,rfl,o2⟩:=rF.2 0 m r rfl rfl;have ou:=H.es;rw[hr]at ou;have hw:=H.ea.all (P:=λr=>r.length=5) (λa r q=>q.len);rw[hr]at hw;obtain⟨qO,cs',e1,e2,e3,e4,e5,e6⟩:=i_ ou hw;rw[hN]at e1;simp only[AV.sl.injEq,true_and,and_true]at e1;obtain⟨rfl,rfl⟩:=e1;rw[dC]at e2;cases e2;have k1:=hf id _ dC (by rw[e3];simp);have px:=sI (o:=4) (vs:=[x']) (r':=[.sc (.int .i64 m.id),.sc (.int .i64 m.src),.sc (.int .i64 m.dst),.sc (.string m.type),x']) k1.1 e4 e5 (k1.2.trans e3) hw (by simp) (by simp[da]);rw[oV.1]at px;have fr:gW h3 t3 (h3.set id (.row (da cs (pre.length*5+4) [x']))) t3 (λt=>t= .cZ):=gW.set h3 t3 id _ (k1.2.trans e3);have kE:=hf E _ H.box (by rw[H.tb];simp);refine⟨r1++[[.sc (.int .i64 m.id),.sc (.int .i64 m.src),.sc (.int .i64 m.dst),.sc (.string m.type),x']]++r3,{
  box:=(fr E _ kE.1 (by rw[kE.2,H.tb];simp)).1
  tb:=kE.2.trans H.tb
  ns:=(H.ns.gH hf (by simp)).gH fr (by simp)
  es:=by rw[hN];exact px
  na:=H.na.imp λa _ r q=>(q.gH hf (by simp) (by simp)).gH fr (by simp) (by simp)
  ea:=((oV.imp λa ha r q=>(q.gH hf (by simpa using eW a (by simp[ha]))).gH fr (by simp)).app (lP.one (a:=({m with props:=ls}:Ed)) ⟨x',rfl,hx.gH fr (by simp)⟩)).app (Aj.imp λa ha r q=>(q.gH hf (by simpa using eW a (by simp[ha]))).gH fr (by simp))},hf.trans fr (λ_ q=> .inl q) (λ_ q=> .inr q)⟩
end
end Go.Proofs.YtaibpnppeiigdaaGreatDoor
