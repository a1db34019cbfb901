/- Part of the proof. -/
import Derived.Test.YtaibpnppeiigdaaGreatDoorP19
set_option linter.all false
set_option maxHeartbeats 16000000
set_option maxRecDepth 100000
namespace Go.Proofs.YtaibpnppeiigdaaGreatDoor
open Go Go.Ae Go.Proofs.Tryz
section
attribute [local simp] zi da XM
def YK (l:List Nd)(x:Int):=l.filter (qM x)
def YL (l:List Nd)(x:Int):=l.filter λn=> !qM x n && !qp x n
def loE (l:List Ed)(x:Int):=l.filter (xf x)
def hiE (l:List Ed)(x:Int):=l.filter λn=> !xf x n && !wa x n
def loT (l:List ByteArray)(x:ByteArray):=l.filter (LG x)
def hiT (l:List ByteArray)(x:ByteArray):=l.filter λn=> !LG x n && !yv x n
def IV (g:Gr)(c:Ch)(n:Nd):Gr × Int:=
 if c.k=2 then(if g.cZ.any (nE c.a)then iq else{g with nodes:=YK g.nodes c.a++YL g.nodes c.a},if g.cZ.any (nE c.a)then 12 else 0)
 else if c.k=3 then(if n.labels.any (yv c.name)then iq else if 8<=n.labels.length then iq else rA g (YK g.nodes c.a) (YL g.nodes c.a) {n with labels:=loT n.labels c.name++[c.name]++hiT n.labels c.name},
  if n.labels.any (yv c.name)then 7 else if 8<=n.labels.length then 20 else 0)
 else if c.k=4 then(if n.labels.any (yv c.name)then rA g (YK g.nodes c.a) (YL g.nodes c.a) {n with labels:=loT n.labels c.name++hiT n.labels c.name}else iq,if n.labels.any (yv c.name)then 0 else 23)
 else(if(iY n.props c.name c.v).length<=16 then rA g (YK g.nodes c.a) (YL g.nodes c.a) {n with props:=iY n.props c.name c.v}else iq,if(iY n.props c.name c.v).length<=16 then 0 else 20)
def IW (g:Gr)(c:Ch)(m:Ed):Gr × Int:=
 if c.k=7 then({g with cZ:=loE g.cZ c.a++hiE g.cZ c.a},0)
 else(if(iY m.props c.name c.v).length<=16 then rB g (loE g.cZ c.a) (hiE g.cZ c.a) {m with props:=iY m.props c.name c.v}else iq,if(iY m.props c.name c.v).length<=16 then 0 else 20)
def jc (g:Gr)(c:Ch):Gr × Int:=
 if¬dr c=0 then(iq,dr c)
 else if c.k=1 then(match dQ g.nodes c.a with
  |some _=>(iq,7)
  |none=>if 2000<=g.nodes.length then(iq,20)else(rA g (YK g.nodes c.a) (YL g.nodes c.a) ⟨c.a,[],[]⟩,0))
 else if c.k=6 then(match je g.cZ c.a with
  |some _=>(iq,7)
  |
   none=>if((dQ g.nodes c.b).isSome && (dQ g.nodes c.c).isSome)=false then(iq,10)
   else if 4000<=g.cZ.length then(iq,20)else(rB g (loE g.cZ c.a) (hiE g.cZ c.a) ⟨c.a,c.b,c.c,c.name,[]⟩,0))
 else if c.k=7\/c.k=8 then(match je g.cZ c.a with
  |none=>(iq,11)
  |some m=>IW g c m)
 else(match dQ g.nodes c.a with
  |none=>(iq,10)
  |some n=>IV g c n)
def pC {c:Ch}(h:dr c=0):1<=c.a/\c.a<=1000000:=by
 unfold dr at h;split at h
 .cases h
 .rename_i q;have:KP c.a=true:=by
   cases e:KP c.a with
   |true=>rfl
   |false=>exact absurd (Or.inr (Or.inl e)) q
  unfold KP at this;rw[Zh,Zz,Zz]at this;exact this
def oM {c:Ch}(h:dr c=0):1<=c.k/\c.k<=8:=by
 unfold dr at h;split at h
 .cases h
 .rename_i q;have:dB c.k=true:=by
   cases e:dB c.k with
   |true=>rfl
   |false=>exact absurd (Or.inl e) q
  unfold dB at this;rw[Zh,Zz,Zz]at this;exact this
def jS {α:Type}{l:List α}{x:α}(h:l.head?=some x)(h1:l.length<=1):l=[x]:=by
 cases l with
 |nil=>cases h
 |
  cons y l=>
  cases l with
  |nil=>cases h;rfl
  |cons z l=>simp at h1
def ji {α:Type}{l:List α}(h:l.head?=none):l=[]:=by
 cases l with
 |nil=>rfl
 |cons y l=>cases h
def Ey {l:List Nd}{x:Int}{n:Nd}(h:dQ l x=some n):n∈l/\n.id=x:=by
 unfold dQ at h;exact⟨List.mem_of_find?_eq_some h,by have:=List.find?_some h;simpa using this⟩
def Ez {l:List Ed}{x:Int}{n:Ed}(h:je l x=some n):n∈l/\n.id=x:=by
 unfold je at h;exact⟨List.mem_of_find?_eq_some h,by have:=List.find?_some h;simpa using this⟩
def aag (N D:Nat)(b:Bool)(g:Gr)(c:Ch)(n:Nd)(h:Hp)(hg:GV g)(he:dr c=0)(hd:fB c.v<=D)(hv:gV c.v)(h1:¬c.k=1)(h6:¬c.k=6)(h7:¬c.k=7)(h8:¬c.k=8)(hn:dQ g.nodes c.a=some n):
 cW cx (N+3*D+9) b 94 [.ag (dn g),.ag (dp c),.ag (eo n)] h=some (.tp [.ag (dn (IV g c n).1),.sc (.int .i64 (IV g c n).2)],h):=by
 have dC:=pC he;have hk:=oM he;have hm:=Ey hn;have hp:=jX (hg.np n hm.1);obtain⟨p,m,q,hs⟩:=LW c.a hg.sn;obtain⟨lp,lm,lq,hl⟩:=aab c.name hp.2.2;rw[eU hs]at hn;have Ac:=jS hn hs.one;subst Ac;have H:OnN g c n p q lp lm lq:=⟨by have:=hg.nl;omega,hs,hm.2,hl,by omega,by omega,by omega⟩;have e1:=kJ hs;have e2:=ju hs;have e3:=kJ hl;have e4:=ju hl;have e5:=hl.any;unfold IV YK YL loT hiT;rw[e1,e2,e3,e4,e5];by_cases k2:c.k=2
 .rw[dd k2];exact Z_ N D b g c n p q lp lm lq h H k2 _ (λb h=>by
   rw[show N+3*D+8=N+3*D+5+3 by omega];exact UA _ b g c.a h (by have:=hg.el;omega))
 .rw[db k2];by_cases k3:c.k=3
  .rw[dd k3,Z7 N D b g c n p q lp lm lq h H k3];cases lm<;>rfl
  .rw[db k3];by_cases k4:c.k=4
   .rw[dd k4,Z8 N D b g c n p q lp lm lq h H k4];cases lm<;>rfl
   .rw[db k4];exact Z9 N D b g c n p q lp lm lq h H (by omega) hd hv
def aah (N D:Nat)(b:Bool)(g:Gr)(c:Ch)(n:Ed)(h:Hp)(hg:GV g)(he:dr c=0)(hd:fB c.v<=D)(hv:gV c.v)(hk:c.k=7\/c.k=8)(hn:je g.cZ c.a=some n):
 cW cx (N+3*D+9) b 93 [.ag (dn g),.ag (dp c),.ag (eY n)] h=some (.tp [.ag (dn (IW g c n).1),.sc (.int .i64 (IW g c n).2)],h):=by
 have dC:=pC he;have hm:=Ez hn;have hp:=jX (hg.ep n hm.1);obtain⟨p,m,q,hs⟩:=UB c.a hg.se;rw[fm hs]at hn;have Ac:=jS hn hs.one;subst Ac;have H:OnE g c n p q:=⟨by have:=hg.el;omega,hs,hm.2,by omega,by omega⟩;have e1:=kJ hs;have e2:=ju hs;unfold IW loE hiE;rw[e1,e2];rcases hk with k|k
 .rw[dd k];exact Uu N D b g c n p q h H k
 .rw[db (by omega)];exact Ut N D b g c n p q h H k hd hv
def UK (N D:Nat)(b:Bool)(g:Gr)(c:Ch)(h:Hp)(hg:GV g)(hd:fB c.v<=D)(hv:gV c.v):
 cW cx (N+3*D+10) b 43 [.ag (dn g),.ag (dp c)] h=some (.tp [.ag (dn (jc g c).1),.sc (.int .i64 (jc g c).2)],h):=by
 unfold jc;by_cases he:dr c=0
 .rw[db (by simp[he])];have dC:=pC he;obtain⟨pn,mn,qn,hs⟩:=LW c.a hg.sn;obtain⟨pe,me,qe,xw⟩:=UB c.a hg.se;have H:Ou D g c pn mn qn pe me qe:=⟨by have:=hg.nl;omega,by have:=hg.el;omega,hs,xw,by omega,hd,hv⟩;have e1:YK g.nodes c.a=pn:=kJ hs;have e2:YL g.nodes c.a=qn:=ju hs;have e3:loE g.cZ c.a=pe:=kJ xw;have e4:hiE g.cZ c.a=qe:=ju xw;by_cases k1:c.k=1
  .rw[dd k1,e1,e2];cases hn:dQ g.nodes c.a with
   |
    some n=>
    rw[eU hs]at hn;exact Iy N D b g c pn mn qn pe me qe h H he k1 n (jS hn hs.one) _ rfl
   |
    none=>
    rw[eU hs]at hn;dsimp only;by_cases hl:2000<=g.nodes.length
    .rw[dd hl];exact Iz N D b g c pn mn qn pe me qe h H he k1 (ji hn) hl
    .rw[db hl];exact IA N D b g c pn mn qn pe me qe h H he k1 (ji hn) (by omega)
  .rw[db k1];by_cases k6:c.k=6
   .rw[dd k6,e3,e4];cases hn:je g.cZ c.a with
    |
     some n=>
     rw[fm xw]at hn;exact ID N D b g c pn mn qn pe me qe h H he k6 n (jS hn xw.one)
    |
     none=>
     rw[fm xw]at hn;dsimp only;by_cases hb:((dQ g.nodes c.b).isSome && (dQ g.nodes c.c).isSome)=false
     .rw[dd hb];exact IE N D b g c pn mn qn pe me qe h H he k6 (ji hn) hb
     .rw[db hb];have vB:((dQ g.nodes c.b).isSome && (dQ g.nodes c.c).isSome)=true:=by cases q:((dQ g.nodes c.b).isSome && (dQ g.nodes c.c).isSome)with|true=>rfl|false=>exact absurd q hb
      by_cases hl:4000<=g.cZ.length
      .rw[dd hl];exact IG N D b g c pn mn qn pe me qe h H he k6 (ji hn) vB hl
      .rw[db hl];exact IH N D b g c pn mn qn pe me qe h H he k6 (ji hn) vB (by omega)
   .rw[db k6];by_cases k78:c.k=7\/c.k=8
    .rw[dd k78];cases hn:je g.cZ c.a with
     |
      none=>
      rw[fm xw]at hn;rcases k78 with k|k
      .exact Dz N D b g c pn mn qn pe me qe h H he k (ji hn)
      .exact DB N D b g c pn mn qn pe me qe h H he k (ji hn)
     |
      some n=>
      have F_:=λb h=>aah N D b g c n h hg he hd hv k78 hn
      rw[fm xw]at hn;rcases k78 with k|k
      .exact DA N D b g c pn mn qn pe me qe h H he k n (jS hn xw.one) _ _ F_
      .exact DC N D b g c pn mn qn pe me qe h H he k n (jS hn xw.one) _ _ F_
    .rw[db k78];have k7:¬c.k=7:=λe=>k78 (Or.inl e)
     have k8:¬c.k=8:=λe=>k78 (Or.inr e)
     cases hn:dQ g.nodes c.a with
     |
      none=>
      rw[eU hs]at hn;exact IB N D b g c pn mn qn pe me qe h H he k1 k6 k7 k8 (ji hn)
     |
      some n=>
      have F_:=λb h=>aag N D b g c n h hg he hd hv k1 k6 k7 k8 hn
      rw[eU hs]at hn;exact IC N D b g c pn mn qn pe me qe h H he k1 k6 k7 k8 n (jS hn hs.one) _ _ F_
 .rw[dd he];exact F9 N D b g c h hd hv he
def vv (x:Int):Int:=if x=0 then 0 else if x=2 then 2 else 1
def aai (n:Nat)(b:Bool)(x:Int)(h:Hp):cW cx (n+1) b 261 [x] h=some (.sc (.int .i64 (vv x)),h):=by
 refine fZ f261 [.tmp 2] rfl rfl ?_ b h;by_cases h0:x=0
 .simp[f261,vv,h0]
 .by_cases h2:x=2
  .simp[f261,vv,h2]
  .simp[f261,vv,h0,h2]
def IX (x y:Int):Int:=if vv y<vv x then vv y else vv x
def aaj (n:Nat)(b:Bool)(x y:Int)(h:Hp):cW cx (n+2) b 211 [x,y] h=some (.sc (.int .i64 (IX x y)),h):=by
 refine fZ f211 [.tmp 4] rfl rfl ?_ b h;have aa:=aai n;unfold IX;by_cases hc:vv y<vv x
 .simp[f211,aa,hc]
 .simp[f211,aa,hc]
mutual
def rZ :V->V->Int
 |
  .mk k n d s z l,w=>
  if k=0\/w.k=0\/jF (.mk k n d s z l)=false\/jF w=false then 1
  else if kj (.mk k n d s z l)=true/\kj w=true then tL (decide (tj (mg (.mk k n d s z l)) (mh (.mk k n d s z l)) (mg w) (mh w)=0))
  else if¬k=w.k then 0
  else if k=4 then tL (kr s w.s)
  else if¬k=8/\¬k=7 then tL (decide (n=w.n))
  else if¬l.length=w.l.length then 0 else Ca l w.l 2
def Ca :List V->List V->Int->Int
 | [],_,a=>a
 |
  x::xs,m,a=>match m with
  | []=>a
  |y::ys=>Ca xs ys (IX a (rZ x y))
end
def EC (N:Nat)(v w:V):Prop:=∀b h,cW cx N b 132 [.ag (enc v),.ag (enc w)] h=some (.sc (.int .i64 (rZ v w)),h)
def yE (l m:List V)(a:Int)(i:Nat):Int:=Ca (l.drop i) (m.drop i) a
def xx (l m:List V)(a:Int)(i:Nat)(h:l.length<=i):yE l m a i=a:=by
 unfold yE;rw[Zt h,Ca]
def uZ {l m:List V}{i:Nat}{x y:V}(a:Int)(h:l[i]?=some x)(h':m[i]?=some y):yE l m a i=yE l m (IX a (rZ x y)) (i+1):=by
 obtain⟨k,e⟩:=Za.1 h;obtain⟨k',e'⟩:=Za.1 h';unfold yE;rw[Zm k,e,Zm k',e',Ca]
def Ge (v:V):d_ (.ag (enc v))=true:=by
 cases v;rw[enc];unfold ql;rename_i z l;cases (z && (dN l).isEmpty)<;>rfl
def aak (v w:V):[AV.ag (enc v),.ag (enc w)].all d_=true:=by
 rw[Zn,Zn,Ge,Ge];rfl
structure EqB (M:Nat)(k n d:Int)(s:ByteArray)(L:AV)(p:Bool)(N1 D1:Int)(B1:Bool):Prop where
 v:∀b h,cW cx M b 143 [.ag [k,n,d,.sc (.string s),L]] h=some ((p:AV),h)
 n:∀b h,cW cx M b 147 [.ag [k,n,d,.sc (.string s),L]] h=some (.tp [lJ N1 D1,B1],h)
def L6 (M:Nat)(k n d k' n' d':Int)(s s':ByteArray)(L L':AV)(p q:Bool)(N1 D1 N2 D2:Int)(B1 B2:Bool)(hL:eT L=true)(fT:eT L'=true)
 (H:EqB M k n d s L p N1 D1 B1) (H':EqB M k' n' d' s' L' q N2 D2 B2) (c:Int)
 (hc:∀b h,cW cx M b 148 [lJ N1 D1,lJ N2 D2] h=some ((c:AV),h)) (hy:∀x b h,cW cx M b 144 [.sc (.bool x)] h=some (.sc (.int .i64 (tL x)),h))
 (hn:(k=0\/k'=0\/p=false\/q=false)\/(B1=true/\B2=true)\/¬k=k'\/k=4\/(¬k=8/\¬k=7)) (b:Bool) (h:Hp):
 cW cx (M+1) b 132 [.ag [k,n,d,.sc (.string s),L],.ag [k',n',d',.sc (.string s'),L']] h=some (.sc (.int .i64 (
  if k=0\/k'=0\/p=false\/q=false then 1
  else if B1=true/\B2=true then tL (decide (c=0))
  else if¬k=k' then 0
  else if k=4 then tL (kr s s')
  else tL (decide (n=n')))),h):=by
 refine fZ f132 [.tmp 4] (by rw[Zn,Zn,gT,gT];simp[hL,fT]) rfl ?_ b h;have aa:=H.v;have ae:=H.n;have af:=H'.v;have ah:=H'.n;unfold lJ at ae ah hc;clear H H';by_cases k0:k=0
 .simp[f132,k0]
 .by_cases KT:k'=0
  .simp[f132,k0,KT]
  .cases p
   .simp[f132,k0,KT,aa]
   .cases q
    .simp[f132,k0,KT,aa,af]
    .have hn':(B1=true/\B2=true)\/¬k=k'\/k=4\/(¬k=8/\¬k=7):=by
      rcases hn with(e|e|e|e)|e
      .exact absurd e k0
      .exact absurd e KT
      .cases e
      .cases e
      .exact e
     clear hn;by_cases hB:B1=true/\B2=true
     .obtain⟨rfl,rfl⟩:=hB;simp[f132,k0,KT,aa,ae,af,ah,hc,hy]
     .have Dx:¬k=k'\/k=4\/(¬k=8/\¬k=7):=by
       rcases hn' with e|e
       .exact absurd e hB
       .exact e
      cases B1<;>cases B2
      case true.true=>exact absurd ⟨rfl,rfl⟩ hB
      all_goals
       by_cases hk:k=k'
       .subst hk;by_cases h4:k=4
        .subst h4;simp[f132,aa,ae,af,ah,hy]
        .have h8:¬k=8/\¬k=7:=by
          rcases Dx with e|e|e
          .exact absurd rfl e
          .exact absurd e h4
          .exact e
         simp[f132,k0,aa,ae,af,ah,hy,h4,h8.1,h8.2]
       .simp[f132,k0,KT,aa,ae,af,ah,hk]
def L7 (M:Nat)(k n d n' d':Int)(s s':ByteArray)(z z':Bool)(l m:List V)(N1 D1 N2 D2:Int)
 (H:EqB M k n d s (fG z l) true N1 D1 false) (H':EqB M k n' d' s' (fG z' m) true N2 D2 false)
 (ha:∀x y b h,cW cx M b 211 [.sc (.int .i64 x),.sc (.int .i64 y)] h=some (.sc (.int .i64 (IX x y)),h))
 (ho:∀x∈l,∀y∈m,EC M x y) (hk:k=8\/k=7) (hl:l.length<=1000000000000000) (b:Bool) (h:Hp):
 cW cx (M+1) b 132 [.ag [k,n,d,.sc (.string s),fG z l],.ag [k,n',d',.sc (.string s'),fG z' m]] h=some (.sc (.int .i64 (
  if¬l.length=m.length then 0 else Ca l m 2)),h):=by
 have c1:eT (fG z l)=true:=by unfold fG ql;cases z && (dN l).isEmpty<;>rfl
 have c2:eT (fG z' m)=true:=by unfold fG ql;cases z' && (dN m).isEmpty<;>rfl
 refine fZ f132 [.tmp 4] (by rw[Zn,Zn,gT,gT];simp[c1,c2]) rfl ?_ b h;have aa:=H.v;have ae:=H.n;have af:=H'.v;have ah:=H'.n;unfold lJ at ae ah;clear H H' c1 c2;have hL:=jg z l;have fT:=jg z' m;generalize fG z l=L at hL aa ae;generalize fG z' m=L' at fT af ah;have hq:=dK l;have hg:=fP l;have jA:=dK m;have qK:=fP m;generalize dN l=cY at hq hg hL;generalize dN m=rows' at jA qK fT;by_cases cU:l.length=m.length
 .rw[db (by simp[cU])];have pQ:((l.length:Int)=(m.length:Int)):=by omega
  by_cases h0:l.length=0
  .have Ft:m.length=0:=by omega
   have e0:Ca l m 2=2:=by
    have:=Zl h0;subst this;rw[Ca]
   have hr:cY=[]:=Zl (by omega);have du:rows'=[]:=Zl (by omega);subst hr du;rw[e0];rcases hL with hL|⟨hL,hz⟩<;>rcases fT with fT|⟨fT,wC⟩<;>subst hL<;>subst fT<;>rcases hk with rfl|rfl
   all_goals
    simp[f132,aa,ae,af,ah];refine lS
     (λi st iR=>st.length=104/\gt st 2= .pt 0 0/\gt st 10=(0:Int)/\gt st 9=(2:Int)/\∃k n d s L0,iR[0]?=some (.row [.sc (.int .i64 k),.sc (.int .i64 n),.sc (.int .i64 d),.sc (.string s),L0])/\(L0= .ls 5 [] z\/L0= .sc (.slice none 0 0)))
     (λo st _=>o= .exit 0/\st.length=104/\gt st 9=(2:Int)) 0 (by simp) (by first|exact⟨rfl,rfl,rfl,rfl,_,_,_,_,_,rfl,Or.inl rfl⟩|exact⟨rfl,rfl,rfl,rfl,_,_,_,_,_,rfl,Or.inr rfl⟩) ?_ ?_
    .rintro i fr h eG ⟨cU,g2,g10,g9,k,n,d,s,L0,s0,hL0|hL0⟩<;>subst hL0<;>simp[cU,g2,g10,g9,s0]
    .rintro o fr h hn ⟨rfl,cU,g9⟩;simp[cU,g9]
  .rcases hL with hL|⟨hL,hz⟩
   .rcases fT with fT|⟨fT,wC⟩
    .subst hL fT;have rD:=cU;rcases hk with rfl|rfl
     .simp[f132,aa,ae,af,ah,hq,jA,cU];refine lS
       (λi st iR=>i<=m.length/\st.length=104/\gt st 2= .pt 0 0/\gt st 3= .pt 1 0/\gt st 10=i/\iR[0]?=some (.row [(8:Int),.sc (.int .i64 n),.sc (.int .i64 d),.sc (.string s),.ls 5 cY z])/\iR[1]?=some (.row [(8:Int),n',d',.sc (.string s'),.ls 5 rows' z'])/\∃a,gt st 9= .sc (.int .i64 a)/\Ca l m 2=yE l m a i)
       (λo st _=>o= .exit 0/\st.length=104/\gt st 9= .sc (.int .i64 (Ca l m 2))) m.length (by simp;omega) (by simp[yE]) ?_ ?_
      .rintro i fr h eG ⟨n_,cU,g2,g3,g10,s0,s1,a,g9,jM⟩;have hf:dM .i64 ((i:Int)+1)=((i+1:Nat):Int):=dh (by omega) (by omega);by_cases hi:i<m.length
       .obtain⟨x,hx⟩:∃c,l[i]?=some c:=⟨_,Zb (by omega)⟩;obtain⟨y,hy⟩:=eA hi;have hr:cY[i]?=some (enc x):=by rw[hg,hx];rfl
        have r9:rows'[i]?=some (enc y):=by rw[qK,hy];rfl
        have du:=gA hr
        have lK:=gA r9
        have dy:=ho x (Zi hx) y (Zi hy);unfold EC at dy;rw[uZ a hx hy]at jM;generalize rZ x y=c at dy jM;generalize Ca l m 2=T at jM;simp[cU,g2,g3,g10,g9,s0,s1,hi,rD,hq,jA,du,lK,dy,ha,hf];exact⟨by omega,jM⟩
       .have hz:=xx l m a i (by omega);rw[hz]at jM;simp[cU,g2,g10,g9,s0,hi,rD,hq,jM]
      .rintro o fr h hn ⟨rfl,cU,g9⟩;simp[cU,g9]
     .simp[f132,aa,ae,af,ah,hq,jA,cU];refine lS
       (λi st iR=>i<=m.length/\st.length=104/\gt st 2= .pt 0 0/\gt st 3= .pt 1 0/\gt st 10=i/\iR[0]?=some (.row [(7:Int),.sc (.int .i64 n),.sc (.int .i64 d),.sc (.string s),.ls 5 cY z])/\iR[1]?=some (.row [(7:Int),n',d',.sc (.string s'),.ls 5 rows' z'])/\∃a,gt st 9= .sc (.int .i64 a)/\Ca l m 2=yE l m a i)
       (λo st _=>o= .exit 0/\st.length=104/\gt st 9= .sc (.int .i64 (Ca l m 2))) m.length (by simp;omega) (by simp[yE]) ?_ ?_
      .rintro i fr h eG ⟨n_,cU,g2,g3,g10,s0,s1,a,g9,jM⟩;have hf:dM .i64 ((i:Int)+1)=((i+1:Nat):Int):=dh (by omega) (by omega);by_cases hi:i<m.length
       .obtain⟨x,hx⟩:∃c,l[i]?=some c:=⟨_,Zb (by omega)⟩;obtain⟨y,hy⟩:=eA hi;have hr:cY[i]?=some (enc x):=by rw[hg,hx];rfl
        have r9:rows'[i]?=some (enc y):=by rw[qK,hy];rfl
        have du:=gA hr
        have lK:=gA r9
        have dy:=ho x (Zi hx) y (Zi hy);unfold EC at dy;rw[uZ a hx hy]at jM;generalize rZ x y=c at dy jM;generalize Ca l m 2=T at jM;simp[cU,g2,g3,g10,g9,s0,s1,hi,rD,hq,jA,du,lK,dy,ha,hf];exact⟨by omega,jM⟩
       .have hz:=xx l m a i (by omega);rw[hz]at jM;simp[cU,g2,g10,g9,s0,hi,rD,hq,jM]
      .rintro o fr h hn ⟨rfl,cU,g9⟩;simp[cU,g9]
    .omega
   .omega
 .rw[dd cU];have pQ:¬((l.length:Int)=(m.length:Int)):=by omega
  rcases hL with hL|⟨hL,hz⟩
  .rcases fT with fT|⟨fT,wC⟩
   .subst hL fT;rcases hk with rfl|rfl<;>simp[f132,aa,ae,af,ah,hq,jA,pQ]
   .subst hL fT;have eW:¬l=[]:=λe=>cU (by rw[e,wC];rfl)
    rcases hk with rfl|rfl<;>simp[f132,aa,ae,af,ah,hq,eW]
  .rcases fT with fT|⟨fT,wC⟩
   .subst hL fT;have eW:¬0=(m.length:Int):=λe=>cU (by omega)
    rcases hk with rfl|rfl<;>simp[f132,aa,ae,af,ah,jA,eW]
   .exact absurd (by omega) cU
def if5 {P Q R S U:Prop}[Decidable P][Decidable Q][Decidable R][Decidable S][Decidable U](hn:P\/Q\/R\/S\/U)(a b c d e T:Int):
 (if P then a else if Q then b else if R then c else if S then d else if U then e else T)=(if P then a else if Q then b else if R then c else if S then d else e):=by
 split
 .rfl
 .rename_i q1;split
  .rfl
  .rename_i q2;split
   .rfl
   .rename_i q3;split
    .rfl
    .rename_i q4;rw[dd];rcases hn with e|e|e|e|e
     .exact absurd e q1
     .exact absurd e q2
     .exact absurd e q3
     .exact absurd e q4
     .exact e
def if6 {P Q R S U:Prop}[Decidable P][Decidable Q][Decidable R][Decidable S][Decidable U](p:¬P)(q:¬Q)(r:¬R)(s:¬S)(u:¬U)(a b c d e T:Int):
 (if P then a else if Q then b else if R then c else if S then d else if U then e else T)=T:=by
 rw[db p,db q,db r,db s,db u]
def adH :∀(D:Nat) (v w:V),fB v<=D->fB w<=D->gV v->gV w->∀N,EC (N+2*D+6) v w:=by
 intro D
 induction D with
 |zero=>intro v w h;have:=gZ v;omega
 |
  succ D ih=>
  intro v w dv dw bv bw N b h;have ho:∀x∈v.l,∀y∈w.l,EC (N+2*D+7) x y:=λx hx y hy=>by
   have:=ih x y (qX dv x hx) (qX dw y hy) ((mq bv).2 x hx) ((mq bw).2 y hy) (N+1);rw[show N+1+2*D+6=N+2*D+7 by omega]at this;exact this
  have hv:=λb h=>oQ (N+1) (D+1) v dv bv b h
  have hw:=λb h=>oQ (N+1) (D+1) w dw bw b h
  have nv:=λb h=>r6 N (D+1) v dv bv b h
  have nw:=λb h=>r6 N (D+1) w dw bw b h
  rw[show N+1+2*(D+1)+4=N+2*D+7 by omega]at hv hw;rw[show N+2*(D+1)+5=N+2*D+7 by omega]at nv nw;rw[show N+2*(D+1)+6=N+2*D+7+1 by omega];have hy:=λx b h=>NK (N+2*D+6) b x h
  have ha:=λx y b h=>aaj (N+2*D+5) b x y h
  have yf:=λb h=>NL (N+2*D+4) b (mg v) (mh v) (mg w) (mh w) h
  have hl:=(mq bv).1;cases v with
  |
   mk k n d s z l=>
   cases w with
   |
    mk k' n' d' s' z' m=>
    simp only[V.l]at ho hl;have H:EqB (N+2*D+7) k n d s (fG z l) (jF (.mk k n d s z l)) (mg (.mk k n d s z l)) (mh (.mk k n d s z l)) (kj (.mk k n d s z l)):=⟨hv,nv⟩;have H':EqB (N+2*D+7) k' n' d' s' (fG z' m) (jF (.mk k' n' d' s' z' m)) (mg (.mk k' n' d' s' z' m)) (mh (.mk k' n' d' s' z' m)) (kj (.mk k' n' d' s' z' m)):=⟨hw,nw⟩;have c1:eT (fG z l)=true:=by unfold fG ql;cases z && (dN l).isEmpty<;>rfl
    have c2:eT (fG z' m)=true:=by unfold fG ql;cases z' && (dN m).isEmpty<;>rfl
    rw[rZ];simp only[V.k,V.n,V.s,V.l];by_cases hn:(k=0\/k'=0\/jF (.mk k n d s z l)=false\/jF (.mk k' n' d' s' z' m)=false)\/(kj (.mk k n d s z l)=true/\kj (.mk k' n' d' s' z' m)=true)\/¬k=k'\/k=4\/(¬k=8/\¬k=7)
    .have:=L6 _ _ _ _ _ _ _ _ _ _ _ _ _ _ _ _ _ _ _ c1 c2 H H' _ yf hy hn b h;exact this.trans (congrArg (λx=>some (AV.sc (.int .i64 x),h)) (if5 hn _ _ _ _ _ _).symm)
    .have q1:¬(k=0\/k'=0\/jF (.mk k n d s z l)=false\/jF (.mk k' n' d' s' z' m)=false):=λe=>hn (.inl e)
     have q2:¬(kj (.mk k n d s z l)=true/\kj (.mk k' n' d' s' z' m)=true):=λe=>hn (.inr (.inl e))
     have q3:k=k':=by
      by_cases e:k=k'
      .exact e
      .exact absurd (.inr (.inr (.inl e))) hn
     have q5:k=8\/k=7:=by
      by_cases e:k=8
      .exact .inl e
      .by_cases e':k=7
       .exact .inr e'
       .exact absurd (.inr (.inr (.inr (.inr ⟨e,e'⟩)))) hn
     subst q3;have o1:jF (.mk k n d s z l)=true:=by
      cases e:jF (.mk k n d s z l)with
      |true=>rfl
      |false=>exact absurd (.inr (.inr (.inl e))) q1
     have o2:jF (.mk k n' d' s' z' m)=true:=by
      cases e:jF (.mk k n' d' s' z' m)with
      |true=>rfl
      |false=>exact absurd (.inr (.inr (.inr e))) q1
     have b0:(decide (k=2)||decide (k=3))=false:=by simp;omega
     have b1:kj (.mk k n d s z l)=false:=by show(jF _ && (decide (k=2)||decide (k=3)))=false;rw[b0,Bool.and_false]
     have b2:kj (.mk k n' d' s' z' m)=false:=by show(jF _ && (decide (k=2)||decide (k=3)))=false;rw[b0,Bool.and_false]
     rw[o1,b1]at H;rw[o2,b2]at H';exact(L7 _ _ _ _ _ _ _ _ _ _ _ _ _ _ _ _ H H' ha ho q5 hl b h).trans (congrArg (λx=>some (AV.sc (.int .i64 x),h)) (if6 q1 q2 (by simp) (by omega) (by omega) _ _ _ _ _ _).symm)
def Qy (N D:Nat)(b:Bool)(v w:V)(h:Hp)(dv:fB v<=D)(dw:fB w<=D)(bv:gV v)(bw:gV w):cW cx (N+2*D+6) b 132 [.ag (enc v),.ag (enc w)] h=some (.sc (.int .i64 (rZ v w)),h):=
 adH D v w dv dw bv bw N b h
def IY {l:List iP}{D:Nat}(x:ByteArray)(hb:KM D l)(hD:1<=D):fB (jf l x)<=D/\gV (jf l x):=by
 induction l with
 |nil=>exact⟨hD,tZ⟩
 |
  cons c l ih=>
  rw[jf];split
  .exact hb c (List.mem_cons_self ..)
  .exact ih λy hy=>hb y (Xn _ hy)
structure NdB (D:Nat)(n:Nd)(p:Pr)(c:Ch):Prop where
 ll:n.labels.length<=1000000000000000
 pl:n.props.length<=1000000000000000
 pb:KM D n.props
 pd:fB p.v<=D
 pv:gV p.v
 cd:fB c.v<=D
 cv:gV c.v
mutual
def pZ :V->Int->Int->Int
 | .mk _ _ _ s _ l,b,m=>if m<1 then-1 else vw l (b-1-(s.size:Int)/50) m
def vw :List V->Int->Int->Int
 | [],b,_=>b
 |x::xs,b,m=>if 0<=b then vw xs (pZ x b (m-1)) m else b
end
mutual
def xy :∀(v:V) (b m:Int),b<=2000->pZ v b m<=2000
 |
  .mk k n d s z l,b,m,h=>by
  rw[pZ];split
  .omega
  .exact Ow l _ m (by omega)
def Ow :∀(l:List V) (b m:Int),b<=2000->vw l b m<=2000
 | [],b,m,h=>by rw[vw];exact h
 |
  x::xs,b,m,h=>by
  rw[vw];split
  .exact Ow xs _ m (xy x b (m-1) h)
  .exact h
end
mutual
def aal :∀(v:V) (b m:Int),gV v->(0<=b-> -100000000000001<=pZ v b m)/\(b<0->b-100000000000001<=pZ v b m)
 |
  .mk k n d s z l,b,m,h=>by
  rw[gV]at h;rw[pZ];split
  .omega
  .have:=Ox l (b-1-(s.size:Int)/50) m h.2.2;omega
def Ox :∀(l:List V) (b m:Int),Px l->(0<=b-> -100000000000001<=vw l b m)/\(b<0->vw l b m=b)
 | [],b,m,h=>by rw[vw];omega
 |
  x::xs,b,m,h=>by
  rw[Px]at h;rw[vw];refine⟨λhb=>?_,λhb=>?_⟩
  .rw[dd hb];have h1:=(aal x b (m-1) h.1).1 hb;have h2:=Ox xs (pZ x b (m-1)) m h.2;by_cases h3:0<=pZ x b (m-1)
   .exact h2.1 h3
   .rw[h2.2 (by omega)];exact h1
  .rw[db (by omega)]
end
def zB (l:List V)(b m:Int)(i:Nat):Int:=vw (l.drop i) b m
def Qz (l:List V)(b m:Int)(i:Nat)(h:l.length<=i):zB l b m i=b:=by unfold zB;rw[Zt h,vw]
def QA (l:List V)(b m:Int)(i:Nat)(h:b<0):zB l b m i=b:=by
 unfold zB;cases l.drop i with
 |nil=>rw[vw]
 |cons x xs=>rw[vw,db (by omega)]
def L8 {l:List V}{i:Nat}{x:V}{b:Int}(m:Int)(h:l[i]?=some x)(hb:0<=b):zB l b m i=zB l (pZ x b (m-1)) m (i+1):=by
 obtain⟨k,e⟩:=Za.1 h;unfold zB;rw[Zm k,e,vw,dd hb]
def yF :∀(D:Nat) (v:V),fB v<=D->gV v->∀(N:Nat) (n m:Int), -1000000000000000<=n->n<=2000->m<=12->0<=m->∀b h,cW cx (N+D+1) b 50 [.ag (enc v),n,m] h=some (.sc (.int .i64 (pZ v n m)),h):=by
 intro D
 induction D with
 |zero=>intro v h;have:=gZ v;omega
 |
  succ D ih=>
  intro v dv bv N n m hn hn' hm yG b h;have Cb:[AV.ag (enc v),.sc (.int .i64 n),.sc (.int .i64 m)].all d_=true:=by rw[Zn,Ge];rfl
  refine fZ (n:=N+D+1) f50 [.tmp 6] Cb rfl ?_ b h;have ho:∀x∈v.l,∀(n m:Int), -1000000000000000<=n->n<=2000->m<=12->0<=m->∀b h,cW cx (N+D+1) b 50 [.ag (enc x),n,m] h=some (.sc (.int .i64 (pZ x n m)),h):=λx hx=>ih x (qX dv x hx) ((mq bv).2 x hx) N
  obtain⟨k,q,d,s,z,l⟩:=v;simp only[V.l]at ho;rw[gV]at bv;have C_:=bv.2.1;have e1:dM .i64 (n-1)=n-1:=dh (by omega) (by omega);have e2:dM .i64 ((s.size:Int)/50)=(s.size:Int)/50:=dh (by omega) (by omega);have e3:dM .i64 (n-1-(s.size:Int)/50)=n-1-(s.size:Int)/50:=dh (by omega) (by omega);rw[pZ];rw[show enc (.mk k q d s z l)=[.sc (.int .i64 k),.sc (.int .i64 q),.sc (.int .i64 d),.sc (.string s),fG z l]from rfl];by_cases h1:m<1
  .rw[dd h1];generalize fG z l=L at *;simp[f50,e1,e2,e3,h1]
  .rw[db h1];have e4:dM .i64 (m-1)=m-1:=dh (by omega) (by omega);have od:n-1-(s.size:Int)/50<=2000:=by omega
   obtain⟨b0,UL⟩:∃b0,b0=n-1-(s.size:Int)/50:=⟨_,rfl⟩;rw[<-UL]at od|-;have e3:dM .i64 (n-1-(s.size:Int)/50)=b0:=by rw[e3,UL]
   rcases gu z l with⟨rfl,hL⟩|hL
   .rw[hL,vw];simp[f50,e1,e2,e3,h1];refine lS
     (λi st iR=>i=0/\st.length=38/\gt st 1= .sc (.int .i64 b0)/\gt st 3= .pt 0 0/\gt st 7=(0:Int)/\iR=[.row [k,q,d,.sc (.string s),()]])
     (λo s _=>o= .exit 0/\s.length=38/\gt s 1= .sc (.int .i64 b0)) 0 (by simp) (by exact ⟨rfl,rfl,rfl,rfl,rfl,rfl⟩) ?_ ?_
    .rintro i fr hp eG ⟨rfl,cU,h1,h3,h7,hh⟩;subst hh;simp[cU,h1,h3,h7]
    .rintro o fr hp hn ⟨rfl,cU,h1⟩;simp[cU,h1]
   .rw[hL];have hq:=dK l;have hg:=fP l;generalize dN l=cY at hq hg;generalize hT:vw l b0 m=T;simp[f50,e1,e2,e3,h1];refine lS
     (λi st iR=>∃c:Int,T=zB l c m i/\c<=2000/\st.length=38/\gt st 1=c/\gt st 2=m/\gt st 3= .pt 0 0/\gt st 7=i/\iR=[.row [k,q,d,.sc (.string s),.ls 5 cY z]])
     (λo s _=>o= .exit 0/\s.length=38/\gt s 1=T) l.length (by simp;omega) (by exact ⟨b0,hT.symm,od,rfl,rfl,rfl,rfl,rfl,rfl⟩) ?_ ?_
    .rintro i fr hp eG ⟨c,hT,hc,cU,h1,h2,h3,h7,hh⟩;subst hh;by_cases hi:i<l.length
     .obtain⟨x,hx⟩:=eA hi;have hr:cY[i]?=some (enc x):=by rw[hg,hx];rfl
      have du:=gA hr
      by_cases pS:0<=c
      .have hw:=λb h=>ho x (Zi hx) c (m-1) (by omega) hc (by omega) (by omega) b h
       have hf:=di (Yn eG C_);simp[cU,h1,h2,h3,h7,hi,hq,du,pS,hw,e4,hf];exact⟨by rw[hT,L8 m hx pS],xy x c (m-1) hc⟩
      .have zz:T=c:=by rw[hT,QA _ _ _ _ (by omega)]
       simp[cU,h1,h3,h7,hi,hq,pS,zz]
     .have zz:T=c:=by rw[hT,Qz _ _ _ _ (by omega)]
      simp[cU,h1,h3,h7,hi,hq,zz]
    .rintro o fr hp hn ⟨rfl,cU,h1⟩;simp[cU,h1]
def um :List iP->Int->Int
 | [],b=>b
 |c::l,b=>if 0<=b then um l (pZ c.v (b-(c.key.size:Int)/50) 12)else b
def zC (l:List iP)(b:Int)(i:Nat):Int:=um (l.drop i) b
def QB (l:List iP)(b:Int)(i:Nat)(h:l.length<=i):zC l b i=b:=by unfold zC;rw[Zt h,um]
def QC (l:List iP)(b:Int)(i:Nat)(h:b<0):zC l b i=b:=by
 unfold zC;cases l.drop i with
 |nil=>rw[um]
 |cons x xs=>rw[um,db (by omega)]
def L9 {l:List iP}{i:Nat}{c:iP}{b:Int}(h:l[i]?=some c)(hb:0<=b):zC l b i=zC l (pZ c.v (b-(c.key.size:Int)/50) 12) (i+1):=by
 obtain⟨k,e⟩:=Za.1 h;unfold zC;rw[Zm k,e,um,dd hb]
def AJ :∀(l:List iP) (b:Int),b<=2000->um l b<=2000
 | [],b,h=>by rw[um];exact h
 |
  x::xs,b,h=>by
  rw[um];split
  .exact AJ xs _ (xy _ _ _ (by omega))
  .exact h
def QD (N D:Nat)(b:Bool)(l:List iP)(z:Bool)(n:Int)(h:Hp)(hl:l.length<=1000000000000000)(hn:n<=2000)(hb:∀c∈l,fB c.v<=D/\gV c.v/\c.key.size<=1000000000000000):
 cW cx (N+D+2) b 49 [iE l z,n] h=some (.sc (.int .i64 (um l n)),h):=by
 refine fZ f49 [.tmp 4] rfl rfl ?_ b h;have hq:=dW l;have hg:=qo l;unfold iE;generalize iy l=cY at hq hg;generalize hT:um l n=T;simp[f49];refine lS
  (λi st _=>∃c:Int,T=zC l c i/\c<=2000/\st.length=32/\gt st 0= .ls 6 cY z/\gt st 1=c/\gt st 5=i)
  (λo s _=>o= .exit 0/\s.length=32/\gt s 1=T) l.length (by simp;omega) (by exact ⟨n,hT.symm,hn,rfl,rfl,rfl,rfl⟩) ?_ ?_
 .rintro i fr hp eG ⟨c,hT,hc,cU,h0,h1,h5⟩;by_cases hi:i<l.length
  .obtain⟨x,hx⟩:=eA hi;have AK:=hb x (Zi hx);by_cases pS:0<=c
   .have hw:=λb h=>yF D x.v AK.1 AK.2.1 N (c-(x.key.size:Int)/50) 12 (by have:=AK.2.2;omega) (by omega) (by omega) (by omega) b h
    have hf:=di (Yn eG hl);have e2:dM .i64 ((x.key.size:Int)/50)=(x.key.size:Int)/50:=dh (by have:=AK.2.2;omega) (by have:=AK.2.2;omega);have e3:dM .i64 (c-(x.key.size:Int)/50)=c-(x.key.size:Int)/50:=dh (by have:=AK.2.2;omega) (by have:=AK.2.2;omega);have dD:=L9 hx pS;have rE:=xy x.v (c-(x.key.size:Int)/50) 12 (by omega);rw[<-hT]at dD;have hr:cY[i]?=some (lM x):=by rw[hg,hx];rfl
    obtain⟨ck,k,m,d,s,z',q⟩:=x;dsimp only at hw e2 e3 dD rE;generalize pZ _ _ _=W at hw dD rE;simp only[enc]at hw;have hr:cY[i]?=some [.sc (.string ck),.sc (.int .i64 k),.sc (.int .i64 m),.sc (.int .i64 d),.sc (.string s),ql z' (dN q)]:=hr;have du:∀kx,cY[i]'kx=[.sc (.string ck),.sc (.int .i64 k),.sc (.int .i64 m),.sc (.int .i64 d),.sc (.string s),ql z' (dN q)]:=λk=>by obtain⟨_,e⟩:=Za.1 hr;exact e
    generalize ql z' (dN q)=L at *;simp[cU,h0,h1,h5,hi,hq,du,pS,hw,hf,e2,e3];exact⟨dD,rE⟩
   .have zz:T=c:=by rw[hT,QC _ _ _ (by omega)]
    simp[cU,h0,h1,h5,hi,hq,pS,zz]
  .have zz:T=c:=by rw[hT,QB _ _ _ (by omega)]
   simp[cU,h0,h1,h5,hi,hq,zz]
 .rintro o fr hp hn ⟨rfl,cU,h1⟩;simp[cU,h1]
end
@[simp] def ahN :cx.T 99=some {size:=4,agg:=true,zero:=[.slice none 0 0,.slice none 0 0,.int .i64 0,.int .i64 0],kd:= .struct [(0,4,true)]}:=by kernel_rfl
section
attribute [local simp] zi XM
attribute [local simp] ku gQ oy vV eE jL
def gK {cs vs:LA}{off:Nat}(h:off+vs.length<=cs.length):(da cs off vs).length=cs.length:=by
 unfold da;simp;omega
def kZ {cs vs:LA}{off:Nat}(h:off<=cs.length):(da cs off vs).take off=cs.take off:=by
 unfold da;rw[Zp,List.take_append_of_le_length (by simp;omega),List.take_take,Nat.min_self]
def qu {cs vs:LA}{off:Nat}(h:off<=cs.length):(da cs off vs).take (off+vs.length)=cs.take off++vs:=by
 unfold da;rw[List.take_append_of_le_length (by simp;omega),Ys (by simp;omega)]
def Oy {cs A r C:LA}{a b c N:Nat}(hN:N=a+b+c)(rR:cs.take N=A++r++C)(hA:A.length=a)(hr:r.length=b):cs.take a=A/\(cs.drop (a+b)).take c=C:=by
 constructor
 .have e:cs.take a=(cs.take N).take a:=by rw[List.take_take,Nat.min_eq_left (by omega)]
  rw[e,rR,Zp];exact List.take_left' hA
 .have e:(cs.drop (a+b)).take c=(cs.take N).drop (a+b):=by rw[List.drop_take,show N-(a+b)=c by omega]
  rw[e,rR];exact List.drop_left' (by simp[hA,hr])
def yH (n:Nat)(b:Bool)(id p q P1 L R:Nat)(cs A r C:LA)(h:Hp)(dC:h[id]?=some (.row cs))(e1:P1=p+1)(e2:L=p+1+q)(e3:R=p+q)(hA:A.length=p)(hr:r.length=1)(hC:C.length=q)(rR:cs.take (L)=A++r++C)(eG:L<=cs.length)(hm:L<=1000000000):
 ∃cs',cW cx (n+1) b 174 [.sl id 1 0 L false,p,P1] h=some (.sl id 1 0 R false,h.set id (.row cs'))/\cs'.length=cs.length/\cs'.take (R)=A++C:=by
 have hs:∀x,(h.set id x)[id]?=some x:=λx=>Zj (Za.1 dC).1
 have a1:p<=P1:=by omega
 have a2:P1<=L:=by omega
 have a3:¬(p:Int)=(P1:Int):=by omega
 have a4:¬p=P1:=by omega
 have b0:1<=cs.length:=by omega
 have b1:p<=cs.length:=by omega
 obtain⟨c1,c2⟩:=Oy (c:=q) (by omega) rR hA hr;have ny:=qY (n:=n) (f:=174) (args:=[.sl id 1 0 L false,.sc (.int .i64 p),.sc (.int .i64 P1)]) ⟨f174.ntmps,(f174.body).getD .skip,[.tmp 6]⟩ rfl (by kernel_rfl) (by kernel_rfl) (by kernel_rfl) (by kernel_rfl) (by simp[f174]) b h;by_cases hq:q=0
 .subst hq;have e4:P1=L:=by omega
  have e5:R=p:=by omega
  subst e4 e5;have z1:P1-R=1:=by omega
  have z2:R<P1:=by omega
  have z3:R+1<=cs.length:=by omega
  refine⟨da cs (R) [.sc (.string ⟨#[]⟩)],?_,gK (by simp;omega),?_⟩
  .rw[ny];simp[f174,dC,a1,a3,a4,b0,b1,z1,z2,z3,eG]
  .rw[kZ b1,c1];have:C=[]:=Zl (by omega);rw[this,Yp]
 .have e4:¬P1=L:=by omega
  have z0:L-P1=q:=by omega
  have Qo:p+q=R:=by omega
  have z1:L-R=1:=by omega
  have z2:R<L:=by omega
  have IZ:R<=L:=by omega
  have z3:R+1<=cs.length:=by omega
  have z4:P1+q<=cs.length:=by omega
  have z5:R<=cs.length:=by omega
  have hn:((cs.drop (P1)).take (q))=C:=by rw[show P1=p+1 by omega];exact c2
  have hl:(da cs (p) C).length=cs.length:=gK (by omega);refine⟨da (da cs (p) C) (R) [.sc (.string ⟨#[]⟩)],?_,by rw[gK (by simp;omega),hl],?_⟩
  .rw[ny];simp[f174,dC,hs,a1,a2,a3,b0,b1,e4,hq,z0,Qo,z1,z2,IZ,z3,z4,z5,eG,hn,hl]
  .rw[kZ (by omega)];have:=qu (vs:=C) (off:=p) b1;rw[c1,hC,show p+q=R by omega]at this;exact this
def Cc (n:Nat)(b:Bool)(id p q P1 L R:Nat)(cs A r C:LA)(h:Hp)(dC:h[id]?=some (.row cs))(e1:P1=p+1)(e2:L=p+1+q)(e3:R=p+q)(hA:A.length=p*6)(hr:r.length=6)(hC:C.length=q*6)(rR:cs.take (L*6)=A++r++C)(eG:L*6<=cs.length)(hm:L<=1000000000):
 ∃cs',cW cx (n+1) b 236 [.sl id 6 0 L false,p,P1] h=some (.sl id 6 0 R false,h.set id (.row cs'))/\cs'.length=cs.length/\cs'.take (R*6)=A++C:=by
 have hs:∀x,(h.set id x)[id]?=some x:=λx=>Zj (Za.1 dC).1
 have a1:p<=P1:=by omega
 have a2:P1<=L:=by omega
 have a3:¬(p:Int)=(P1:Int):=by omega
 have a4:¬p=P1:=by omega
 have b0:6<=cs.length:=by omega
 have b1:p*6<=cs.length:=by omega
 obtain⟨c1,c2⟩:=Oy (c:=q*6) (by omega) rR hA hr;have ny:=qY (n:=n) (f:=236) (args:=[.sl id 6 0 L false,.sc (.int .i64 p),.sc (.int .i64 P1)]) ⟨f236.ntmps,(f236.body).getD .skip,[.tmp 6]⟩ rfl (by kernel_rfl) (by kernel_rfl) (by kernel_rfl) (by kernel_rfl) (by simp[f236]) b h;by_cases hq:q=0
 .subst hq;have e4:P1=L:=by omega
  have e5:R=p:=by omega
  subst e4 e5;have z1:P1-R=1:=by omega
  have z2:R<P1:=by omega
  have z3:R*6+6<=cs.length:=by omega
  refine⟨da cs (R*6) [.sc (.string ⟨#[]⟩),(0:Int),(0:Int),(0:Int),.sc (.string ⟨#[]⟩),()],?_,gK (by simp;omega),?_⟩
  .rw[ny];simp[f236,dC,a1,a3,a4,b0,b1,z1,z2,z3,eG]
  .rw[kZ b1,c1];have:C=[]:=Zl (by omega);rw[this,Yp]
 .have e4:¬P1=L:=by omega
  have z0:L-P1=q:=by omega
  have Qo:p+q=R:=by omega
  have z1:L-R=1:=by omega
  have z2:R<L:=by omega
  have IZ:R<=L:=by omega
  have z3:R*6+6<=cs.length:=by omega
  have z4:P1*6+q*6<=cs.length:=by omega
  have z5:R*6<=cs.length:=by omega
  have hn:((cs.drop (P1*6)).take (q*6))=C:=by rw[show P1*6=p*6+6 by omega];exact c2
  have hl:(da cs (p*6) C).length=cs.length:=gK (by omega);refine⟨da (da cs (p*6) C) (R*6) [.sc (.string ⟨#[]⟩),(0:Int),(0:Int),(0:Int),.sc (.string ⟨#[]⟩),()],?_,by rw[gK (by simp;omega),hl],?_⟩
  .rw[ny];simp[f236,dC,hs,a1,a2,a3,b0,b1,e4,hq,z0,Qo,z1,z2,IZ,z3,z4,z5,eG,hn,hl]
  .rw[kZ (by omega)];have:=qu (vs:=C) (off:=p*6) b1;rw[c1,hC,show p*6+q*6=R*6 by omega]at this;exact this
def Cd (n:Nat)(b:Bool)(id p q P1 L R:Nat)(cs A r C:LA)(h:Hp)(dC:h[id]?=some (.row cs))(e1:P1=p+1)(e2:L=p+1+q)(e3:R=p+q)(hA:A.length=p*3)(hr:r.length=3)(hC:C.length=q*3)(rR:cs.take (L*3)=A++r++C)(eG:L*3<=cs.length)(hm:L<=1000000000):
 ∃cs',cW cx (n+1) b 171 [.sl id 3 0 L false,p,P1] h=some (.sl id 3 0 R false,h.set id (.row cs'))/\cs'.length=cs.length/\cs'.take (R*3)=A++C:=by
 have hs:∀x,(h.set id x)[id]?=some x:=λx=>Zj (Za.1 dC).1
 have a1:p<=P1:=by omega
 have a2:P1<=L:=by omega
 have a3:¬(p:Int)=(P1:Int):=by omega
 have a4:¬p=P1:=by omega
 have b0:3<=cs.length:=by omega
 have b1:p*3<=cs.length:=by omega
 obtain⟨c1,c2⟩:=Oy (c:=q*3) (by omega) rR hA hr;have ny:=qY (n:=n) (f:=171) (args:=[.sl id 3 0 L false,.sc (.int .i64 p),.sc (.int .i64 P1)]) ⟨f171.ntmps,(f171.body).getD .skip,[.tmp 6]⟩ rfl (by kernel_rfl) (by kernel_rfl) (by kernel_rfl) (by kernel_rfl) (by simp[f171]) b h;by_cases hq:q=0
 .subst hq;have e4:P1=L:=by omega
  have e5:R=p:=by omega
  subst e4 e5;have z1:P1-R=1:=by omega
  have z2:R<P1:=by omega
  have z3:R*3+3<=cs.length:=by omega
  refine⟨da cs (R*3) [(0:Int),(),()],?_,gK (by simp;omega),?_⟩
  .rw[ny];simp[f171,dC,a1,a3,a4,b0,b1,z1,z2,z3,eG]
  .rw[kZ b1,c1];have:C=[]:=Zl (by omega);rw[this,Yp]
 .have e4:¬P1=L:=by omega
  have z0:L-P1=q:=by omega
  have Qo:p+q=R:=by omega
  have z1:L-R=1:=by omega
  have z2:R<L:=by omega
  have IZ:R<=L:=by omega
  have z3:R*3+3<=cs.length:=by omega
  have z4:P1*3+q*3<=cs.length:=by omega
  have z5:R*3<=cs.length:=by omega
  have hn:((cs.drop (P1*3)).take (q*3))=C:=by rw[show P1*3=p*3+3 by omega];exact c2
  have hl:(da cs (p*3) C).length=cs.length:=gK (by omega);refine⟨da (da cs (p*3) C) (R*3) [(0:Int),(),()],?_,by rw[gK (by simp;omega),hl],?_⟩
  .rw[ny];simp[f171,dC,hs,a1,a2,a3,b0,b1,e4,hq,z0,Qo,z1,z2,IZ,z3,z4,z5,eG,hn,hl]
  .rw[kZ (by omega)];have:=qu (vs:=C) (off:=p*3) b1;rw[c1,hC,show p*3+q*3=R*3 by omega]at this;exact this
def Ce (n:Nat)(b:Bool)(id p q P1 L R:Nat)(cs A r C:LA)(h:Hp)(dC:h[id]?=some (.row cs))(e1:P1=p+1)(e2:L=p+1+q)(e3:R=p+q)(hA:A.length=p*5)(hr:r.length=5)(hC:C.length=q*5)(rR:cs.take (L*5)=A++r++C)(eG:L*5<=cs.length)(hm:L<=1000000000):
 ∃cs',cW cx (n+1) b 178 [.sl id 5 0 L false,p,P1] h=some (.sl id 5 0 R false,h.set id (.row cs'))/\cs'.length=cs.length/\cs'.take (R*5)=A++C:=by
 have hs:∀x,(h.set id x)[id]?=some x:=λx=>Zj (Za.1 dC).1
 have a1:p<=P1:=by omega
 have a2:P1<=L:=by omega
 have a3:¬(p:Int)=(P1:Int):=by omega
 have a4:¬p=P1:=by omega
 have b0:5<=cs.length:=by omega
 have b1:p*5<=cs.length:=by omega
 obtain⟨c1,c2⟩:=Oy (c:=q*5) (by omega) rR hA hr;have ny:=qY (n:=n) (f:=178) (args:=[.sl id 5 0 L false,.sc (.int .i64 p),.sc (.int .i64 P1)]) ⟨f178.ntmps,(f178.body).getD .skip,[.tmp 6]⟩ rfl (by kernel_rfl) (by kernel_rfl) (by kernel_rfl) (by kernel_rfl) (by simp[f178]) b h;by_cases hq:q=0
 .subst hq;have e4:P1=L:=by omega
  have e5:R=p:=by omega
  subst e4 e5;have z1:P1-R=1:=by omega
  have z2:R<P1:=by omega
  have z3:R*5+5<=cs.length:=by omega
  refine⟨da cs (R*5) [(0:Int),(0:Int),(0:Int),.sc (.string ⟨#[]⟩),()],?_,gK (by simp;omega),?_⟩
  .rw[ny];simp[f178,dC,a1,a3,a4,b0,b1,z1,z2,z3,eG]
  .rw[kZ b1,c1];have:C=[]:=Zl (by omega);rw[this,Yp]
 .have e4:¬P1=L:=by omega
  have z0:L-P1=q:=by omega
  have Qo:p+q=R:=by omega
  have z1:L-R=1:=by omega
  have z2:R<L:=by omega
  have IZ:R<=L:=by omega
  have z3:R*5+5<=cs.length:=by omega
  have z4:P1*5+q*5<=cs.length:=by omega
  have z5:R*5<=cs.length:=by omega
  have hn:((cs.drop (P1*5)).take (q*5))=C:=by rw[show P1*5=p*5+5 by omega];exact c2
  have hl:(da cs (p*5) C).length=cs.length:=gK (by omega);refine⟨da (da cs (p*5) C) (R*5) [(0:Int),(0:Int),(0:Int),.sc (.string ⟨#[]⟩),()],?_,by rw[gK (by simp;omega),hl],?_⟩
  .rw[ny];simp[f178,dC,hs,a1,a2,a3,b0,b1,e4,hq,z0,Qo,z1,z2,IZ,z3,z4,z5,eG,hn,hl]
  .rw[kZ (by omega)];have:=qu (vs:=C) (off:=p*5) b1;rw[c1,hC,show p*5+q*5=R*5 by omega]at this;exact this
end
end Go.Proofs.YtaibpnppeiigdaaGreatDoor
