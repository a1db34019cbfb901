/- Part of the proof. -/
import Derived.Test.YtmfohnojaginjaaGreatDoorP31
import Derived.Shelf.Strings.Search3
import Derived.Shelf.SlIter.Nil
import Derived.Shelf.SlGeneric
import Derived.Shelf.SortM.Plain
import Derived.Shelf.SortM.SortNone
import Derived.Ground.GgzProg
import Derived.Ground.SlgmProg
import Derived.Shelf.LaysM
import Derived.Shelf.Strconv.Itoa3
set_option linter.all false
set_option maxHeartbeats 16000000
set_option maxRecDepth 100000
def Go.gR{α:Type}{a:Option α}{b c:α}(h:a=some b)(e:b=c:=by kernel_rfl):a=some c:=h.trans (congrArg some e)
namespace Go.Proofs.YtmfohnojaginjaaGreatDoor
open Go Go.Ae Go.Proofs.Tryz
section
attribute [local simp] cn eD
def Cq{v:V}(h:jg v=true):v.l=[]:=by
 obtain⟨k,n,d,s,z,l⟩:=v;show l=[];have hk:k=1\/k=2\/k=4:=by
  unfold jg at h;simp only[Zh,Yy,Zy]at h;exact h.2.elim (λq=>q.elim .inl λe=> .inr (.inl e)) λe=> .inr (.inr e)
 have ho:oY (.mk k n d s z l) 8=true:=by
  unfold jg at h;rw[Zh]at h;exact h.1
 rw[oY]at ho;simp only[Zh,Yy,Zy]at ho;rcases ho.1.2 with(h1|h1)|h1
 .omega
 .omega
 .exact List.isEmpty_iff.1 h1
def zE{l:List ByteArray}{p:List fZ}(h:gk l p=0):∀x∈p,jg x.v=true:=by
 unfold gk at h;split at h
 .cases h
 .split at h
  .cases h
  .split at h
   .cases h
   .split at h
    .cases h
    .rename_i h4;have h5:gE p=true:=by
      cases q:gE p with
      |true=>rfl
      |false=>exact absurd q h4
     exact λx hx=>Yt.1 h5 x hx
structure NnG (g:Gr):Prop where
 n:∀n∈g.nodes,∀p∈n.props,p.v.isNil=false
 e:∀n∈g.cj,∀p∈n.props,p.v.isNil=false
def adX{g:Gr}(h:dQ g=0)(hn:NnG g):XC g:=by
 have v:=HT h;refine⟨by have:=v.nl;omega,by have:=v.el;omega,λn hm=>?_,λn hm=>?_⟩
 .have q:=gd (v.np n hm);exact⟨by omega,by omega,λp hp=>⟨Cq (zE (v.np n hm) p hp),hn.n n hm p hp⟩⟩
 .have q:=gd (v.ep n hm);exact⟨by omega,λp hp=>⟨Cq (zE (v.ep n hm) p hp),hn.e n hm p hp⟩⟩
def Vx(D:Nat):qw D fq:=⟨by simp[fq],by simp[fq],λn hn=>(by cases hn),λn hn=>(by cases hn)⟩
def adY{D:Nat}{m:Mg}(hm:Vb D m)(id:Int):qw D (Ep m id):=by
 unfold Ep;rcases wF m id with⟨_,h⟩|⟨_,h0,i,t,h1,_,h2,_⟩
 .rw[h];exact Vx D
 .rw[h2];have Pm:=Zi h1;have hv:=I8 h0 t Pm;have ha:=I7 hv;have e:kr m.hi t=((jE (ue m.hi t.st).1 t.cs).1,decide ((jE (ue m.hi t.st).1 t.cs).2.2=0)):=wG ha;show qw D (kr m.hi t).1;rw[e]at hv|-;exact(qS (Ce hm.hi ha) (hm.oc t Pm) (of_decide_eq_true hv)).gr
noncomputable def kSA :Code:=(f11.body).getD .skip
def QB(K:Bool->FuncId->LA->Hp->Option (AV × Hp))(a b:List LA)(n e:Int)(h1:∀t h,K t 35 [.ag [.ls 3 a false,.ls 5 b false,n,e],.ag [.ls 3 a false,.ls 5 b false,n,e]] h=some ((true:AV),h)):
 TX4 (cO cx K kSA ([.ag [.ls 3 a false,.ls 5 b false,n,e],.ag [.ls 3 a false,.ls 5 b false,n,e]]++List.replicate 20 .un,[])):=by
 unfold TX4;simp[kSA,f11,h1]
noncomputable def Je(g:FuncId)(ys:LA)(r:AV)(P:Prop)(f:FuncId)(xs:LA):Option AV:= @ite _ (f=g/\xs=ys/\P) (Classical.propDecidable _) (some r) none
def Gf{C:Cx}{g:FuncId}{ys:LA}{r:AV}{P:Prop}(hc:ys.all dk=true)(h:P->iG C g ys r):∀f xs r',Je g ys r P f xs=some r'->xs.all dk=true/\iG C f xs r':=λf xs r' e=>by
 unfold Je at e;split at e
 .rename_i q;obtain⟨rfl,rfl,hP⟩:=q;cases e;exact⟨hc,h hP⟩
 .cases e
def yS{g:FuncId}{ys:LA}{r:AV}{P:Prop}(hP:P):Je g ys r P g ys=some r:=cq ⟨rfl,rfl,hP⟩
def Gg{g:FuncId}{ys:LA}{r:AV}{P:Prop}{f:FuncId}(h:f≠g)(xs:LA):Je g ys r P f xs=none:=cm λq=>h q.1
def Vy(hC:pL cx)(D:Nat)(g:Gr)(hg:qw D g):iG cx 11 [.ag (cl g),.ag (cl g)] (.sc (.bool true)):=by
 have hT:=Gf (C:=cx) (P:=True) (show[AV.ag (cl g),AV.ag (cl g)].all dk=true from rfl) λ_=>Dq hC D g hg
 obtain⟨h',hw⟩:=QB (λb f ys h=>match Je 35 [.ag (cl g),.ag (cl g)] (.sc (.bool true)) True f ys with|some q=>some (q,h)|none=>ch cx 0 b f ys h) (f_ g.nodes) (fV g.cj) g.nn g.ne
  (λt h=>by
   have:=yS (g:=35) (ys:=[.ag (cl g),.ag (cl g)]) (r:= .sc (.bool true)) (P:=True) trivial;show(match Je 35 [.ag (cl g),.ag (cl g)] (.sc (.bool true)) True 35 [.ag (cl g),.ag (cl g)]with|some q=>some (q,h)|none=>ch cx 0 t 35 [.ag (cl g),.ag (cl g)] h)=_;rw[this])
 refine zD hC hT (n:=0) (r0:= .sc (.bool true)) (h':=h') ?_ (m:=8) rfl;rw[jL (fi:=⟨f11.ntmps,(f11.body).getD .skip,[.tmp 4]⟩) (by kernel_rfl) (by kernel_rfl) (by simp[f11])];exact hw
structure MgR (D:Nat)(m:Mg):Prop where
 g:qw D m.hi.g
 s:SzB m.hi.g
 n:NnG m.hi.g
 t:∀c∈m.hi.l, -9223372036854775808<=c.ts/\c.ts<=9223372036854775807
 c:∀c∈m.hi.l,c.cs.length<=1000000000000000/\∀x∈c.cs,gS x.v<=D/\jK x.v/\x.name.size<=1000000000000000
 o:∀c∈m.op,c.cs.length<=1000000000000000/\∀x∈c.cs,gS x.v<=D/\jK x.v/\x.name.size<=1000000000000000
 q:∀t∈m.op,mf t.rd t.rd=true
def NM{l:List Ch}(h:nS l=true):l.length<=20:=by
 unfold nS at h;rw[Zh]at h;exact of_decide_eq_true h.2
def adZ{D:Nat}{m:Mg}(h:MgR D m)(c1:m.hi.l.length<=10)(c2:m.op.length<=20)(c3:m.rl.length<=50)(aa:∀c∈m.hi.l,nS c.cs=true)(af:∀c∈m.op,nS c.cs=true):Vb D m:={
 hi:=⟨h.g,by omega,λc hc=>⟨by have:=NM (aa c hc);omega,λx hx=>⟨((h.c c hc).2 x hx).1,((h.c c hc).2 x hx).2.1⟩⟩,h.t⟩
 ol:=by omega
 oc:=λc hc=>⟨by have:=NM (af c hc);omega,λx hx=>⟨((h.o c hc).2 x hx).1,((h.o c hc).2 x hx).2.1⟩⟩
 rl:=by omega
 rq:=h.q}
noncomputable def tcT(G:Gr)(P:Prop)(f:FuncId)(xs:LA):Option AV:=match Je 5 [] (.sc (.bool true)) True f xs with
 |some r=>some r
 |none=>Je 11 [.ag (cl G),.ag (cl G)] (.sc (.bool true)) P f xs
def aau(hC:pL cx)(hA:iG cx 5 [] (.sc (.bool true)))(D:Nat)(m:Mg)(id:Int)(hm:MgR D m):
 iG cx 3 [uX m,id] (.sc (.bool true)):=by
 have hT:∀f xs r,tcT (Ep m id) (qw D (Ep m id)) f xs=some r->xs.all dk=true/\iG cx f xs r:=λf xs r e=>by
  unfold tcT at e;split at e
  .rename_i r' q;cases e;exact Gf (C:=cx) rfl (λ_=>hA) f xs _ q
  .exact Gf (C:=cx) rfl (λh=>Vy hC D _ h) f xs _ e
 have vH:gu m.hi=0->XC m.hi.g:=λh=>adX (lE h).2.2.1 hm.n
 have hK:∀(f:FuncId)(ys:LA)(t:Bool)(h:Hp),f≠5->f≠11->(match tcT (Ep m id) (qw D (Ep m id)) f ys with|some q=>some (q,h)|none=>ch cx (3*D+40) t f ys h)=ch cx (3*D+40) t f ys h:=λf ys t h h1 h2=>by
  unfold tcT;rw[Gg h1];simp only;rw[Gg h2]
 obtain⟨h',hw⟩:=adW (λb f ys h=>match tcT (Ep m id) (qw D (Ep m id)) f ys with|some q=>some (q,h)|none=>ch cx (3*D+40) b f ys h) m id (LJ m.hi.g)
  (λt h=>by
   have:tcT (Ep m id) (qw D (Ep m id)) 5 []=some (.sc (.bool true)):=by
    unfold tcT;rw[yS trivial]
   simp only[this])
  (λt h=>by
   rw[hK _ _ t _ (by decide) (by decide)];have:=LK (2*D+37) D t m.hi.g h hm.g hm.s
   rwa [show 2*D+37+D+3=3*D+40 by omega]at this)
  (λc hc t h=>by
   rw[hK _ _ t _ (by decide) (by decide)];have:=NI (2*D+38) D t c.cs false h (hm.c c hc).1 (hm.c c hc).2
   rwa [show 2*D+38+D+2=3*D+40 by omega]at this)
  (λc hc t h=>by
   rw[hK _ _ t _ (by decide) (by decide)];have:=NI (2*D+38) D t c.cs false h (hm.o c hc).1 (hm.o c hc).2
   rwa [show 2*D+38+D+2=3*D+40 by omega]at this)
  (λc1 c2 c3 aa af=>by
   have hb:=adZ hm c1 c2 c3 aa af;have hG:=adY hb id;refine⟨Ep m id,l7 m id,IY m,λt h=>?_,λt h=>?_,λt h=>?_,λt h=>?_,λt h=>?_⟩
   .rw[hK _ _ t _ (by decide) (by decide)];have:=aao (D+19) D t m id h hb
    rwa [show D+19+2*D+21=3*D+40 by omega]at this
   .rw[hK _ _ t _ (by decide) (by decide)];have:=Vi 23 D t m id h hb vH
    rwa [show 23+3*D+17=3*D+40 by omega]at this
   .rw[hK _ _ t _ (by decide) (by decide)];have:=I0 (D+21) D t m h hb
    rwa [show D+21+2*D+19=3*D+40 by omega]at this
   .rw[hK _ _ t _ (by decide) (by decide)];have:=Et 24 D t m h hb vH
    rwa [show 24+3*D+16=3*D+40 by omega]at this
   .have:tcT (Ep m id) (qw D (Ep m id)) 11 [.ag (cl (Ep m id)),.ag (cl (Ep m id))]=some (.sc (.bool true)):=by
     unfold tcT;rw[Gg (by decide)];exact yS hG
    simp only[this])
 refine zD hC hT (n:=3*D+40) (r0:= .sc (.bool true)) (h':=h') ?_ (m:=8) rfl;rw[jL (fi:=⟨f3.ntmps,(f3.body).getD .skip,[.tmp 4]⟩) (by kernel_rfl) (by kernel_rfl) (by simp[f3])];exact hw
end
end Go.Proofs.YtmfohnojaginjaaGreatDoor
namespace Go.Proofs.YtmfohnojaginjaaGreatDoor
open Go Go.Ae Go.ChangeShapes Go.WideShapes Go.Proofs.Tryz
def wf_i64{n:Int}(h:(Lit.int .i64 n).wf=true):i64 n:=by
 have h':(decide (IntKind.i64.min<=n) && decide (n<=IntKind.i64.max))=true:=h;simp only[Zh,Zy]at h';have e1:IntKind.i64.min= -9223372036854775808:=by decide
 have e2:IntKind.i64.max=9223372036854775807:=by decide
 unfold i64;omega
def hiC(x:Hi):LA:=iz x (.ls 2 (oU x.l) false)
def aav :prog.cellsOf 48=1:=by kernel_rfl
def Jf :prog.cellsOf 49=1:=by kernel_rfl
def Vz :prog.cellsOf 23=1:=by kernel_rfl
def VA :prog.cellsOf 24=1:=by kernel_rfl
def Jg :prog.cellsOf 35=1:=by kernel_rfl
def VB :prog.cellsOf 27=1:=by kernel_rfl
def VD :prog.cellsOf 39=1:=by kernel_rfl
def VF :prog.cellsOf 30=1:=by kernel_rfl
def VH :prog.cellsOf 22=1:=by kernel_rfl
def ad0 :prog.bytesOf 9=15+1:=by kernel_rfl
def NN :prog.cellsOf 89=6:=by kernel_rfl
def aaw :prog.bytesOf 89=79+1:=by kernel_rfl
def QC{H:Type}(d0 d1:DataW H):(DataW.agg [d0,d1]).weights prog 89=d0.weights prog 9++(d1.weights prog 73++[]):=by
 rw[DataW.weights,underlying89];rfl
def NP :prog.cellsOf 51=3:=by kernel_rfl
def aax :prog.bytesOf 51=55+1:=by kernel_rfl
def QD{H:Type}(d0 d1 d2:DataW H):(DataW.agg [d0,d1,d2]).weights prog 51=d0.weights prog 3++(d1.weights prog 48++(d2.weights prog 49++[])):=by
 rw[DataW.weights,underlying51];rfl
def NQ :prog.cellsOf 54=5:=by kernel_rfl
def aay :prog.bytesOf 54=63+1:=by kernel_rfl
def QE{H:Type}(d0 d1 d2 d3 d4:DataW H):(DataW.agg [d0,d1,d2,d3,d4]).weights prog 54=d0.weights prog 3++(d1.weights prog 3++(d2.weights prog 3++(d3.weights prog 9++(d4.weights prog 49++[])))):=by
 rw[DataW.weights,underlying54];rfl
def NR :prog.cellsOf 26=4:=by kernel_rfl
def QF{H:Type}(d0 d1 d2 d3:DataW H):(DataW.agg [d0,d1,d2,d3]).weights prog 26=d0.weights prog 23++(d1.weights prog 24++(d2.weights prog 3++(d3.weights prog 3++[]))):=by
 rw[DataW.weights,underlying26];rfl
def NS :prog.cellsOf 75=10:=by kernel_rfl
def aaz :prog.bytesOf 75=111+1:=by kernel_rfl
def QG{H:Type}(d0 d1 d2 d3 d4 d5:DataW H):(DataW.agg [d0,d1,d2,d3,d4,d5]).weights prog 75=d0.weights prog 3++(d1.weights prog 3++(d2.weights prog 3++(d3.weights prog 3++(d4.weights prog 9++(d5.weights prog 73++[]))))):=by
 rw[DataW.weights,underlying75];rfl
def NT :prog.cellsOf 37=2:=by kernel_rfl
def aaA :prog.bytesOf 37=31+1:=by kernel_rfl
def QH{H:Type}(d0 d1:DataW H):(DataW.agg [d0,d1]).weights prog 37=d0.weights prog 3++(d1.weights prog 35++[]):=by
 rw[DataW.weights,underlying37];rfl
def NU :prog.cellsOf 152=8:=by kernel_rfl
def aaB :prog.bytesOf 152=103+1:=by kernel_rfl
def QJ{H:Type}(d0 d1 d2 d3:DataW H):(DataW.agg [d0,d1,d2,d3]).weights prog 152=d0.weights prog 3++(d1.weights prog 9++(d2.weights prog 9++(d3.weights prog 73++[]))):=by
 rw[DataW.weights,underlying152];rfl
def NV :prog.cellsOf 41=4:=by kernel_rfl
def aaC :prog.bytesOf 41=63+1:=by kernel_rfl
def QK{H:Type}(d0 d1 d2 d3:DataW H):(DataW.agg [d0,d1,d2,d3]).weights prog 41=d0.weights prog 3++(d1.weights prog 3++(d2.weights prog 39++(d3.weights prog 35++[]))):=by
 rw[DataW.weights,underlying41];rfl
def NW :prog.cellsOf 94=6:=by kernel_rfl
def aaD :prog.bytesOf 94=79+1:=by kernel_rfl
def QM{H:Type}(d0 d1 d2 d3 d4 d5:DataW H):(DataW.agg [d0,d1,d2,d3,d4,d5]).weights prog 94=d0.weights prog 3++(d1.weights prog 3++(d2.weights prog 9++(d3.weights prog 9++(d4.weights prog 9++(d5.weights prog 9++[]))))):=by
 rw[DataW.weights,underlying94];rfl
def NY :prog.cellsOf 29=6:=by kernel_rfl
def QN{H:Type}(d0 d1 d2:DataW H):(DataW.agg [d0,d1,d2]).weights prog 29=d0.weights prog 3++(d1.weights prog 26++(d2.weights prog 27++[])):=by
 rw[DataW.weights,underlying29];rfl
def aaE :prog.cellsOf 32=9:=by kernel_rfl
def QO{H:Type}(d0 d1 d2 d3:DataW H):(DataW.agg [d0,d1,d2,d3]).weights prog 32=d0.weights prog 22++(d1.weights prog 29++(d2.weights prog 30++(d3.weights prog 3++[]))):=by
 rw[DataW.weights,underlying32];rfl
def QI(_:Nat)(k:Int):Prop:=i64 k
def QS(_:Nat)(s:ByteArray):Prop:=s.size<=reachBytes
def QV(n:Nat)(v:V):Prop:=gS v<=n/\J9 v
def QI.mono{m n:Nat}(_:m<=n){a:Int}(h:QI m a):QI n a:=h
def QS.mono{m n:Nat}(_:m<=n){a:ByteArray}(h:QS m a):QS n a:=h
def QV.mono{m n:Nat}(hm:m<=n){a:V}(h:QV m a):QV n a:=⟨Yp h.1 hm,h.2⟩
def QL{α:Type}(P:Nat->α->Prop)(n:Nat)(l:List α):Prop:=(∀a∈l,P n a)/\l.length<=reachBytes
def QL.mono{α:Type}{P:Nat->α->Prop}(hP:∀{m n:Nat},m<=n->∀{a:α},P m a->P n a){m n:Nat}(hm:m<=n){l:List α}(h:QL P m l):QL P n l:=⟨λa ha=>hP hm (h.1 a ha),h.2⟩
def Sk(n:Nat)(a:fZ):Prop:=QS n a.key/\QV n a.v
def Sk.mono{m n:Nat}(hm:m<=n){a:fZ}(h:Sk m a):Sk n a:=⟨QS.mono hm h.1,QV.mono hm h.2⟩
def XH(n:Nat)(a:Nd):Prop:=QI n a.id/\QL QS n a.labels/\QL Sk n a.props
def XH.mono{m n:Nat}(hm:m<=n){a:Nd}(h:XH m a):XH n a:=⟨QI.mono hm h.1,QL.mono QS.mono hm h.2.1,QL.mono Sk.mono hm h.2.2⟩
def XI(n:Nat)(a:Ed):Prop:=QI n a.id/\QI n a.src/\QI n a.dst/\QS n a.type/\QL Sk n a.props
def XI.mono{m n:Nat}(hm:m<=n){a:Ed}(h:XI m a):XI n a:=⟨QI.mono hm h.1,QI.mono hm h.2.1,QI.mono hm h.2.2.1,QS.mono hm h.2.2.2.1,QL.mono Sk.mono hm h.2.2.2.2⟩
def QGr(n:Nat)(a:Gr):Prop:=QL XH n a.nodes/\QL XI n a.cj/\QI n a.nn/\QI n a.ne
def QGr.mono{m n:Nat}(hm:m<=n){a:Gr}(h:QGr m a):QGr n a:=⟨QL.mono XH.mono hm h.1,QL.mono XI.mono hm h.2.1,QI.mono hm h.2.2.1,QI.mono hm h.2.2.2⟩
def QP(n:Nat)(a:Ch):Prop:=QI n a.k/\QI n a.a/\QI n a.b/\QI n a.c/\QS n a.name/\QV n a.v
def QP.mono{m n:Nat}(hm:m<=n){a:Ch}(h:QP m a):QP n a:=⟨QI.mono hm h.1,QI.mono hm h.2.1,QI.mono hm h.2.2.1,QI.mono hm h.2.2.2.1,QS.mono hm h.2.2.2.2.1,QV.mono hm h.2.2.2.2.2⟩
def XJ(n:Nat)(a:Cm):Prop:=QI n a.ts/\QL QP n a.cs
def XJ.mono{m n:Nat}(hm:m<=n){a:Cm}(h:XJ m a):XJ n a:=⟨QI.mono hm h.1,QL.mono QP.mono hm h.2⟩
def XK(n:Nat)(a:Pr):Prop:=QI n a.k/\QS n a.n/\QS n a.y/\QV n a.v
def XK.mono{m n:Nat}(hm:m<=n){a:Pr}(h:XK m a):XK n a:=⟨QI.mono hm h.1,QS.mono hm h.2.1,QS.mono hm h.2.2.1,QV.mono hm h.2.2.2⟩
def XL(n:Nat)(a:Tx):Prop:=QI n a.id/\QI n a.st/\(∃l:List Pr,a.rd=l.map Fg/\QL XK n l)/\QL QP n a.cs
def XL.mono{m n:Nat}(hm:m<=n){a:Tx}(h:XL m a):XL n a:=⟨QI.mono hm h.1,QI.mono hm h.2.1,h.2.2.1.imp λ_ q=>⟨q.1,QL.mono XK.mono hm q.2⟩,QL.mono QP.mono hm h.2.2.2⟩
def XM(n:Nat)(a:Rl):Prop:=QI n a.kd/\QI n a.nn/\QS n a.nm/\QS n a.ky/\QS n a.fr/\QS n a.tt
def XM.mono{m n:Nat}(hm:m<=n){a:Rl}(h:XM m a):XM n a:=⟨QI.mono hm h.1,QI.mono hm h.2.1,QS.mono hm h.2.2.1,QS.mono hm h.2.2.2.1,QS.mono hm h.2.2.2.2.1,QS.mono hm h.2.2.2.2.2⟩
def QHi(n:Nat)(a:Hi):Prop:=QI n a.b/\QGr n a.g/\QL XJ n a.l
def QHi.mono{m n:Nat}(hm:m<=n){a:Hi}(h:QHi m a):QHi n a:=⟨QI.mono hm h.1,QGr.mono hm h.2.1,QL.mono XJ.mono hm h.2.2⟩
def QMg(n:Nat)(a:Mg):Prop:=QL XM n a.rl/\QHi n a.hi/\QL XL n a.op/\QI n a.nx
def QMg.mono{m n:Nat}(hm:m<=n){a:Mg}(h:QMg m a):QMg n a:=⟨QL.mono XM.mono hm h.1,QHi.mono hm h.2.1,QL.mono XL.mono hm h.2.2.1,QI.mono hm h.2.2.2⟩
def LN(c:Ch):(cB c).length=10:=by simp
def LO(p:Pr):(Fg p).length=8:=by simp[Fg]
section
variable {H : Type} {en : TypeId × Value -> H} {w : World} {held : Bool}
def agc :∀(fuel:Nat)(cs:List Value)(x:DataW H × List MemPlace),DataW.trod en prog w 0 (λ_=>true) held fuel 73 cs=some x->Fits 73 x.1->∃v:V,gS v<=fuel/\J9 v/\RV w cs v:=by
 intro fuel
 induction fuel using Nat.strongRecOn with
 |ind fuel ih=>
  intro cs x h hw;obtain⟨xs,n,rfl,rfl,hl,hn,hf⟩:=DataW.trod_struct underlying73 h;rw[Be]at hl;have hn5:xs.length=5:=hn
  match cs,hl,xs,hn5 with
  |
   [c0,c1,c2,c3,c4],_,[x0,x1,x2,x3,x4],_=>
   have h0:=hf 0 _ rfl;have h1:=hf 1 _ rfl;have h2:=hf 2 _ rfl;have h3:=hf 3 _ rfl;have h4:=hf 4 _ rfl;clear hf h;simp only[nd,v_,ac3,Yi,Yf,Yg,Yh,Ye,Yd]at h0 h1 h2 h3 h4;obtain⟨k0,e0,_,b0⟩:=DataW.trod_int underlying3 h0;obtain⟨k1,e1,_,b1⟩:=DataW.trod_int underlying3 h1;obtain⟨k2,e2,_,b2⟩:=DataW.trod_int underlying3 h2;obtain⟨s3,e3,w3,_⟩:=DataW.trod_string underlying9 h3;obtain rfl:c0=_:=(List.cons.inj e0).1;obtain rfl:c1=_:=(List.cons.inj e1).1;obtain rfl:c2=_:=(List.cons.inj e2).1;obtain rfl:c3=_:=(List.cons.inj e3).1;have lu:Fits 73 (DataW.agg [x0.1,x1.1,x2.1,x3.1,x4.1]):=hw;unfold Fits at lu;rw[C6]at lu;have hs:s3.size<=reachBytes:=lu _ (by
    refine Zk _ (Zk _ (Zk _ (List.mem_append_left _ ?_)));rw[w3];exact List.mem_singleton.2 rfl)
   have hw4:Fits 71 x4.1:=λm hm=>lu m (Zk _ (Zk _ (Zk _ (Zk _ (List.mem_append_left _ hm)))))
   have fin:∀(l:List V)(D:Nat),(∀y∈l,gS y<=D)->D+1<=n+1->(∀y∈l,J9 y)->l.length<=reachBytes->c4.oneCell'=true->Ri w dR c4 (.ls 5 (ef l) false)->
    ∃v:V,gS v<=n+1/\J9 v/\RV w [.int .i64 k0,.int .i64 k1,.int .i64 k2,.string s3,c4] v:=by
    intro l D hd hD hb zd ho hr;refine⟨.mk k0 k1 k2 s3 false l,?_,?_,rfl,λj y hj=>?_⟩
    .rw[gS];have:=MF hd;omega
    .rw[J9];exact⟨wf_i64 b0,wf_i64 b1,wf_i64 b2,jf hs,jf zd,rfl,UB hb⟩
    .match j,hj with
     |0,hj=>cases hj;exact⟨rfl,.sc _ rfl⟩
     |1,hj=>cases hj;exact⟨rfl,.sc _ rfl⟩
     |2,hj=>cases hj;exact⟨rfl,.sc _ rfl⟩
     |3,hj=>cases hj;exact⟨rfl,.sc _ rfl⟩
     |4,hj=>cases hj;exact⟨ho,hr⟩
     |_+5,hj=>simp[enc]at hj
   rcases DataW.trod_slice underlying71 h4 with⟨e,_⟩|⟨a,len,cap,elems,rest,m,hm,e,wx,_,ZV,vh,ni,hq,_⟩
   .obtain rfl:c4=_:=(List.cons.inj e).1;exact fin [] 0 (by simp) (by omega) (by simp) (by simp) rfl (.le none 0 5 false (Nat.zero_le _) (by simp))
   .obtain rfl:c4=_:=(List.cons.inj e).1;unfold Fits at hw4;rw[wx,Bf]at hw4;have cf:elems.length<=reachBytes:=by
     have:=hw4 _ (List.mem_cons_self ..);simp only[Ym]at this;omega
    obtain⟨l,zd,hp⟩:=ME (p:=λi v=>gS v<=m/\J9 v/\∃cs',w.cells? 0 (a.add (i*5)) 5=some cs'/\RV w cs' v) len (λi hi=>by
     have h5:=hq i hi;rw[Be,Zb (by omega)]at h5;obtain⟨cs',q1,q2⟩:=Yj.1 h5;obtain⟨v,d1,d2,d3⟩:=ih m (by omega) cs' _ q2 (λk hk=>hw4 k (List.mem_cons_of_mem _ (List.mem_append_left _ (tx hk (Yk.2 ⟨_,List.getElem_mem _,rfl⟩)))));exact⟨v,d1,d2,cs',q1,d3⟩)
    have tY:∀y∈l,gS y<=m/\J9 y:=λy hy=>by
     obtain⟨i,hi⟩:=List.getElem?_of_mem hy;exact⟨(hp i y hi).1,(hp i y hi).2.1⟩
    refine fin l m (λy hy=>(tY y hy).1) (by omega) (λy hy=>(tY y hy).2) (by omega) rfl ?_;have:=OD (w:=w) (a:=a) (cap:=cap) (l:=l) (by omega) vh (λi v hv=>(hp i v hv).2.2);rw[zd]at this;exact this
def jV :Reads H en w held 3 (λk:Int=> [.sc (.int .i64 k)]) QI:=by
 intro fuel cs x h hw;obtain⟨k,e,_,b⟩:=DataW.trod_int underlying3 h;subst e;exact⟨k,wf_i64 b,FK rfl (.sc _ rfl)⟩
def pX :Reads H en w held 9 (λs:ByteArray=> [.sc (.string s)]) QS:=by
 intro fuel cs x h hw;obtain⟨s,e,wx,_⟩:=DataW.trod_string underlying9 h;subst e;refine⟨s,?_,FK rfl (.sc _ rfl)⟩;unfold Fits at hw;rw[wx]at hw;exact hw _ (List.mem_singleton.2 rfl)
def LP :Reads H en w held 73 enc QV:=by
 intro fuel cs x h hw;obtain⟨v,d1,d2,d3⟩:=agc fuel cs x h hw;exact⟨v,⟨d1,d2⟩,UA d3⟩
def aaF :Reads H en w held 48 (λl:List ByteArray=> [.ls 1 (l.map λs=> [.sc (.string s)]) false]) (QL QS):=
 iR (encA:=λs:ByteArray=> [.sc (.string s)]) (P:=QS) underlying48 (by omega) v_ ad0 (λ_=>rfl) (λ_ _ _ hm h=>QS.mono hm h) pX
def aaG :Reads H en w held 89 fK Sk:=by
 intro fuel cs x h hw;obtain⟨xs,n,rfl,rfl,hl,hn,hf⟩:=DataW.trod_struct underlying89 h;rw[NN]at hl;have tM:xs.length=2:=hn
 match cs,hl,xs,tM with
 |
  [c0,c1,c2,c3,c4,c5],_,[x0,x1],_=>
  have h0:=hf 0 _ rfl;have h1:=hf 1 _ rfl;clear hf h;simp only[v_,Be,Yi,Yf,Yg,Yh,Ye,Yd]at h0 h1;have lu:Fits 89 (DataW.agg [x0.1,x1.1]):=hw;unfold Fits at lu;rw[QC]at lu;simp only[Yu]at lu;obtain⟨w0,w1,_⟩:=lu;obtain⟨a0,p0,r0⟩:=pX n _ _ h0 w0;obtain⟨a1,p1,r1⟩:=LP n _ _ h1 w1;exact⟨⟨a0,a1⟩,Sk.mono (Yv n) ⟨p0,p1⟩,ft r0 r1⟩
def Jh :Reads H en w held 49 (λl:List fZ=> [.ls 6 (l.map fK) false]) (QL Sk):=
 iR (encA:=fK) (P:=Sk) underlying49 (by omega) NN aaw (λc=>by simp) (λ_ _ _ hm h=>Sk.mono hm h) aaG
def aaH :Reads H en w held 51 dh XH:=by
 intro fuel cs x h hw;obtain⟨xs,n,rfl,rfl,hl,hn,hf⟩:=DataW.trod_struct underlying51 h;rw[NP]at hl;have tM:xs.length=3:=hn
 match cs,hl,xs,tM with
 |
  [c0,c1,c2],_,[x0,x1,x2],_=>
  have h0:=hf 0 _ rfl;have h1:=hf 1 _ rfl;have h2:=hf 2 _ rfl;clear hf h;simp only[nd,aav,Jf,Yi,Yf,Yg,Yh,Ye,Yd]at h0 h1 h2;have lu:Fits 51 (DataW.agg [x0.1,x1.1,x2.1]):=hw;unfold Fits at lu;rw[QD]at lu;simp only[Yu]at lu;obtain⟨w0,w1,w2,_⟩:=lu;obtain⟨a0,p0,r0⟩:=jV n _ _ h0 w0;obtain⟨a1,p1,r1⟩:=aaF n _ _ h1 w1;obtain⟨a2,p2,r2⟩:=Jh n _ _ h2 w2;exact⟨⟨a0,a1,a2⟩,XH.mono (Yv n) ⟨p0,p1,p2⟩,ft r0 (ft r1 r2)⟩
def VI :Reads H en w held 23 (λl:List Nd=> [.ls 3 (l.map dh) false]) (QL XH):=
 iR (encA:=dh) (P:=XH) underlying23 (by omega) NP aax (λ_=>rfl) (λ_ _ _ hm h=>XH.mono hm h) aaH
def aaI :Reads H en w held 54 dP XI:=by
 intro fuel cs x h hw;obtain⟨xs,n,rfl,rfl,hl,hn,hf⟩:=DataW.trod_struct underlying54 h;rw[NQ]at hl;have tM:xs.length=5:=hn
 match cs,hl,xs,tM with
 |
  [c0,c1,c2,c3,c4],_,[x0,x1,x2,x3,x4],_=>
  have h0:=hf 0 _ rfl;have h1:=hf 1 _ rfl;have h2:=hf 2 _ rfl;have h3:=hf 3 _ rfl;have h4:=hf 4 _ rfl;clear hf h;simp only[nd,v_,Jf,Yi,Yf,Yg,Yh,Ye,Yd]at h0 h1 h2 h3 h4;have lu:Fits 54 (DataW.agg [x0.1,x1.1,x2.1,x3.1,x4.1]):=hw;unfold Fits at lu;rw[QE]at lu;simp only[Yu]at lu;obtain⟨w0,w1,w2,w3,w4,_⟩:=lu;obtain⟨a0,p0,r0⟩:=jV n _ _ h0 w0;obtain⟨a1,p1,r1⟩:=jV n _ _ h1 w1;obtain⟨a2,p2,r2⟩:=jV n _ _ h2 w2;obtain⟨a3,p3,r3⟩:=pX n _ _ h3 w3;obtain⟨a4,p4,r4⟩:=Jh n _ _ h4 w4;exact⟨⟨a0,a1,a2,a3,a4⟩,XI.mono (Yv n) ⟨p0,p1,p2,p3,p4⟩,ft r0 (ft r1 (ft r2 (ft r3 r4)))⟩
def VJ :Reads H en w held 24 (λl:List Ed=> [.ls 5 (l.map dP) false]) (QL XI):=
 iR (encA:=dP) (P:=XI) underlying24 (by omega) NQ aay (λ_=>rfl) (λ_ _ _ hm h=>XI.mono hm h) aaI
def aaJ :Reads H en w held 26 cl QGr:=by
 intro fuel cs x h hw;obtain⟨xs,n,rfl,rfl,hl,hn,hf⟩:=DataW.trod_struct underlying26 h;rw[NR]at hl;have tM:xs.length=4:=hn
 match cs,hl,xs,tM with
 |
  [c0,c1,c2,c3],_,[x0,x1,x2,x3],_=>
  have h0:=hf 0 _ rfl;have h1:=hf 1 _ rfl;have h2:=hf 2 _ rfl;have h3:=hf 3 _ rfl;clear hf h;simp only[Vz,VA,nd,Yi,Yf,Yg,Yh,Ye,Yd]at h0 h1 h2 h3;have lu:Fits 26 (DataW.agg [x0.1,x1.1,x2.1,x3.1]):=hw;unfold Fits at lu;rw[QF]at lu;simp only[Yu]at lu;obtain⟨w0,w1,w2,w3,_⟩:=lu;obtain⟨a0,p0,r0⟩:=VI n _ _ h0 w0;obtain⟨a1,p1,r1⟩:=VJ n _ _ h1 w1;obtain⟨a2,p2,r2⟩:=jV n _ _ h2 w2;obtain⟨a3,p3,r3⟩:=jV n _ _ h3 w3;exact⟨⟨a0,a1,a2,a3⟩,QGr.mono (Yv n) ⟨p0,p1,p2,p3⟩,ft r0 (ft r1 (ft r2 r3))⟩
def aaK :Reads H en w held 75 cB QP:=by
 intro fuel cs x h hw;obtain⟨xs,n,rfl,rfl,hl,hn,hf⟩:=DataW.trod_struct underlying75 h;rw[NS]at hl;have tM:xs.length=6:=hn
 match cs,hl,xs,tM with
 |
  [c0,c1,c2,c3,c4,c5,c6,c7,c8,c9],_,[x0,x1,x2,x3,x4,x5],_=>
  have h0:=hf 0 _ rfl;have h1:=hf 1 _ rfl;have h2:=hf 2 _ rfl;have h3:=hf 3 _ rfl;have h4:=hf 4 _ rfl;have h5:=hf 5 _ rfl;clear hf h;simp only[nd,v_,Be,Yi,Yf,Yg,Yh,Ye,Yd]at h0 h1 h2 h3 h4 h5;have lu:Fits 75 (DataW.agg [x0.1,x1.1,x2.1,x3.1,x4.1,x5.1]):=hw;unfold Fits at lu;rw[QG]at lu;simp only[Yu]at lu;obtain⟨w0,w1,w2,w3,w4,w5,_⟩:=lu;obtain⟨a0,p0,r0⟩:=jV n _ _ h0 w0;obtain⟨a1,p1,r1⟩:=jV n _ _ h1 w1;obtain⟨a2,p2,r2⟩:=jV n _ _ h2 w2;obtain⟨a3,p3,r3⟩:=jV n _ _ h3 w3;obtain⟨a4,p4,r4⟩:=pX n _ _ h4 w4;obtain⟨a5,p5,r5⟩:=LP n _ _ h5 w5;exact⟨⟨a0,a1,a2,a3,a4,a5⟩,QP.mono (Yv n) ⟨p0,p1,p2,p3,p4,p5⟩,ft r0 (ft r1 (ft r2 (ft r3 (ft r4 r5))))⟩
def Ji :Reads H en w held 35 (λl:List Ch=> [.ls 10 (l.map cB) false]) (QL QP):=
 iR (encA:=cB) (P:=QP) underlying35 (by omega) NS aaz (LN) (λ_ _ _ hm h=>QP.mono hm h) aaK
def aaL :Reads H en w held 37 jM XJ:=by
 intro fuel cs x h hw;obtain⟨xs,n,rfl,rfl,hl,hn,hf⟩:=DataW.trod_struct underlying37 h;rw[NT]at hl;have tM:xs.length=2:=hn
 match cs,hl,xs,tM with
 |
  [c0,c1],_,[x0,x1],_=>
  have h0:=hf 0 _ rfl;have h1:=hf 1 _ rfl;clear hf h;simp only[nd,Jg,Yi,Yf,Yg,Yh,Ye,Yd]at h0 h1;have lu:Fits 37 (DataW.agg [x0.1,x1.1]):=hw;unfold Fits at lu;rw[QH]at lu;simp only[Yu]at lu;obtain⟨w0,w1,_⟩:=lu;obtain⟨a0,p0,r0⟩:=jV n _ _ h0 w0;obtain⟨a1,p1,r1⟩:=Ji n _ _ h1 w1;exact⟨⟨a0,a1⟩,XJ.mono (Yv n) ⟨p0,p1⟩,ft r0 r1⟩
def VK :Reads H en w held 27 (λl:List Cm=> [.ls 2 (l.map jM) false]) (QL XJ):=
 iR (encA:=jM) (P:=XJ) underlying27 (by omega) NT aaA (λ_=>rfl) (λ_ _ _ hm h=>XJ.mono hm h) aaL
def aaM :Reads H en w held 152 Fg XK:=by
 intro fuel cs x h hw;obtain⟨xs,n,rfl,rfl,hl,hn,hf⟩:=DataW.trod_struct underlying152 h;rw[NU]at hl;have tM:xs.length=4:=hn
 match cs,hl,xs,tM with
 |
  [c0,c1,c2,c3,c4,c5,c6,c7],_,[x0,x1,x2,x3],_=>
  have h0:=hf 0 _ rfl;have h1:=hf 1 _ rfl;have h2:=hf 2 _ rfl;have h3:=hf 3 _ rfl;clear hf h;simp only[nd,v_,Be,Yi,Yf,Yg,Yh,Ye,Yd]at h0 h1 h2 h3;have lu:Fits 152 (DataW.agg [x0.1,x1.1,x2.1,x3.1]):=hw;unfold Fits at lu;rw[QJ]at lu;simp only[Yu]at lu;obtain⟨w0,w1,w2,w3,_⟩:=lu;obtain⟨a0,p0,r0⟩:=jV n _ _ h0 w0;obtain⟨a1,p1,r1⟩:=pX n _ _ h1 w1;obtain⟨a2,p2,r2⟩:=pX n _ _ h2 w2;obtain⟨a3,p3,r3⟩:=LP n _ _ h3 w3;exact⟨⟨a0,a1,a2,a3⟩,XK.mono (Yv n) ⟨p0,p1,p2,p3⟩,ft r0 (ft r1 (ft r2 r3))⟩
def VL :Reads H en w held 39 (λl:List Pr=> [.ls 8 (l.map Fg) false]) (QL XK):=
 iR (encA:=Fg) (P:=XK) underlying39 (by omega) NU aaB (LO) (λ_ _ _ hm h=>XK.mono hm h) aaM
def aaN :Reads H en w held 41 jb XL:=by
 intro fuel cs x h hw;obtain⟨xs,n,rfl,rfl,hl,hn,hf⟩:=DataW.trod_struct underlying41 h;rw[NV]at hl;have tM:xs.length=4:=hn
 match cs,hl,xs,tM with
 |
  [c0,c1,c2,c3],_,[x0,x1,x2,x3],_=>
  have h0:=hf 0 _ rfl;have h1:=hf 1 _ rfl;have h2:=hf 2 _ rfl;have h3:=hf 3 _ rfl;clear hf h;simp only[nd,VD,Jg,Yi,Yf,Yg,Yh,Ye,Yd]at h0 h1 h2 h3;have lu:Fits 41 (DataW.agg [x0.1,x1.1,x2.1,x3.1]):=hw;unfold Fits at lu;rw[QK]at lu;simp only[Yu]at lu;obtain⟨w0,w1,w2,w3,_⟩:=lu;obtain⟨a0,p0,r0⟩:=jV n _ _ h0 w0;obtain⟨a1,p1,r1⟩:=jV n _ _ h1 w1;obtain⟨a2,p2,r2⟩:=VL n _ _ h2 w2;obtain⟨a3,p3,r3⟩:=Ji n _ _ h3 w3;exact⟨⟨a0,a1,a2.map Fg,a3⟩,XL.mono (Yv n) ⟨p0,p1,⟨a2,rfl,p2⟩,p3⟩,ft r0 (ft r1 (ft r2 r3))⟩
def VM :Reads H en w held 30 (λl:List Tx=> [.ls 4 (l.map jb) false]) (QL XL):=
 iR (encA:=jb) (P:=XL) underlying30 (by omega) NV aaC (λ_=>rfl) (λ_ _ _ hm h=>XL.mono hm h) aaN
def aaO :Reads H en w held 94 dd XM:=by
 intro fuel cs x h hw;obtain⟨xs,n,rfl,rfl,hl,hn,hf⟩:=DataW.trod_struct underlying94 h;rw[NW]at hl;have tM:xs.length=6:=hn
 match cs,hl,xs,tM with
 |
  [c0,c1,c2,c3,c4,c5],_,[x0,x1,x2,x3,x4,x5],_=>
  have h0:=hf 0 _ rfl;have h1:=hf 1 _ rfl;have h2:=hf 2 _ rfl;have h3:=hf 3 _ rfl;have h4:=hf 4 _ rfl;have h5:=hf 5 _ rfl;clear hf h;simp only[nd,v_,Yi,Yf,Yg,Yh,Ye,Yd]at h0 h1 h2 h3 h4 h5;have lu:Fits 94 (DataW.agg [x0.1,x1.1,x2.1,x3.1,x4.1,x5.1]):=hw;unfold Fits at lu;rw[QM]at lu;simp only[Yu]at lu;obtain⟨w0,w1,w2,w3,w4,w5,_⟩:=lu;obtain⟨a0,p0,r0⟩:=jV n _ _ h0 w0;obtain⟨a1,p1,r1⟩:=jV n _ _ h1 w1;obtain⟨a2,p2,r2⟩:=pX n _ _ h2 w2;obtain⟨a3,p3,r3⟩:=pX n _ _ h3 w3;obtain⟨a4,p4,r4⟩:=pX n _ _ h4 w4;obtain⟨a5,p5,r5⟩:=pX n _ _ h5 w5;exact⟨⟨a0,a1,a2,a3,a4,a5⟩,XM.mono (Yv n) ⟨p0,p1,p2,p3,p4,p5⟩,ft r0 (ft r1 (ft r2 (ft r3 (ft r4 r5))))⟩
def VN :Reads H en w held 22 (λl:List Rl=> [.ls 6 (l.map dd) false]) (QL XM):=
 iR (encA:=dd) (P:=XM) underlying22 (by omega) NW aaD (λ_=>rfl) (λ_ _ _ hm h=>XM.mono hm h) aaO
def aaP :Reads H en w held 29 hiC QHi:=by
 intro fuel cs x h hw;obtain⟨xs,n,rfl,rfl,hl,hn,hf⟩:=DataW.trod_struct underlying29 h;rw[NY]at hl;have tM:xs.length=3:=hn
 match cs,hl,xs,tM with
 |
  [c0,c1,c2,c3,c4,c5],_,[x0,x1,x2],_=>
  have h0:=hf 0 _ rfl;have h1:=hf 1 _ rfl;have h2:=hf 2 _ rfl;clear hf h;simp only[nd,NR,VB,Yi,Yf,Yg,Yh,Ye,Yd]at h0 h1 h2;have lu:Fits 29 (DataW.agg [x0.1,x1.1,x2.1]):=hw;unfold Fits at lu;rw[QN]at lu;simp only[Yu]at lu;obtain⟨w0,w1,w2,_⟩:=lu;obtain⟨a0,p0,r0⟩:=jV n _ _ h0 w0;obtain⟨a1,p1,r1⟩:=aaJ n _ _ h1 w1;obtain⟨a2,p2,r2⟩:=VK n _ _ h2 w2;exact⟨⟨a0,a1,a2⟩,QHi.mono (Yv n) ⟨p0,p1,p2⟩,ft r0 (ft r1 r2)⟩
def aaQ :Reads H en w held 32 qZ QMg:=by
 intro fuel cs x h hw;obtain⟨xs,n,rfl,rfl,hl,hn,hf⟩:=DataW.trod_struct underlying32 h;rw[aaE]at hl;have tM:xs.length=4:=hn
 match cs,hl,xs,tM with
 |
  [c0,c1,c2,c3,c4,c5,c6,c7,c8],_,[x0,x1,x2,x3],_=>
  have h0:=hf 0 _ rfl;have h1:=hf 1 _ rfl;have h2:=hf 2 _ rfl;have h3:=hf 3 _ rfl;clear hf h;simp only[VH,NY,VF,nd,Yi,Yf,Yg,Yh,Ye,Yd]at h0 h1 h2 h3;have lu:Fits 32 (DataW.agg [x0.1,x1.1,x2.1,x3.1]):=hw;unfold Fits at lu;rw[QO]at lu;simp only[Yu]at lu;obtain⟨w0,w1,w2,w3,_⟩:=lu;obtain⟨a0,p0,r0⟩:=VN n _ _ h0 w0;obtain⟨a1,p1,r1⟩:=aaP n _ _ h1 w1;obtain⟨a2,p2,r2⟩:=VM n _ _ h2 w2;obtain⟨a3,p3,r3⟩:=jV n _ _ h3 w3;exact⟨⟨a0,a1,a2,a3⟩,QMg.mono (Yv n) ⟨p0,p1,p2,p3⟩,ft r0 (ft r1 (ft r2 r3))⟩
end
def agd(p:Pr):gY (Fg p) (Fg p)=true:=xE (by simp[gY,fH,Ae.nU,bytes_beq]) (M8 p.v)
def VO{v:V}(h:J9 v):v.isNil=false:=by
 obtain⟨k,n,d,s,z,l⟩:=v;rw[J9]at h;exact h.2.2.2.2.2.1
def ad1{n:Nat}{m:Mg}(h:QMg n m):MgR n m:=by
 obtain⟨_,⟨hb,⟨j6,mL,hnn,eF⟩,vh⟩,htx,hnx⟩:=h;have A8:∀{l:List Ch},QL QP n l->l.length<=1000000000000000/\∀x∈l,gS x.v<=n/\jK x.v/\x.name.size<=1000000000000000:=λq=>⟨jf q.2,λx hx=>⟨(q.1 x hx).2.2.2.2.2.1,UC (q.1 x hx).2.2.2.2.2.2,jf (q.1 x hx).2.2.2.2.1⟩⟩
 exact{
  g:=⟨jf j6.2,jf mL.2,λx hx=>⟨jf (j6.1 x hx).2.1.2,jf (j6.1 x hx).2.2.2,λp hp=>⟨((j6.1 x hx).2.2.1 p hp).2.1,UC ((j6.1 x hx).2.2.1 p hp).2.2⟩⟩,λx hx=>⟨jf (mL.1 x hx).2.2.2.2.2,λp hp=>⟨((mL.1 x hx).2.2.2.2.1 p hp).2.1,UC ((mL.1 x hx).2.2.2.2.1 p hp).2.2⟩⟩⟩
  s:=⟨λx hx=>⟨λs hs=>jf ((j6.1 x hx).2.1.1 s hs),λp hp=>jf ((j6.1 x hx).2.2.1 p hp).1⟩,λx hx=>⟨jf (mL.1 x hx).2.2.2.1,λp hp=>jf ((mL.1 x hx).2.2.2.2.1 p hp).1⟩⟩
  n:=⟨λx hx p hp=>VO ((j6.1 x hx).2.2.1 p hp).2.2,λx hx p hp=>VO ((mL.1 x hx).2.2.2.2.1 p hp).2.2⟩
  t:=λc hc=>(vh.1 c hc).1
  c:=λc hc=>A8 (vh.1 c hc).2
  o:=λc hc=>A8 (htx.1 c hc).2.2.2
  q:=λc hc=>by
   obtain⟨l,e,_⟩:=(htx.1 c hc).2.2.1;rw[e];exact jP λr hr=>by
    obtain⟨p,_,rfl⟩:=Yk.1 hr;exact agd p}
end Go.Proofs.YtmfohnojaginjaaGreatDoor
namespace Go.Proofs
open Go.Shelf Go.Proofs.Tryz
def Tryz.lays144_ren :Go.Shelf.Ren:=⟨λ|144=>451|143=>500|219=>532|217=>567|225=>568|224=>569|267=>570|266=>594|314=>595|n=>n,λ|9=>9|4=>4|3=>3|5=>5|46=>215|146=>593|51=>294|n=>n,λ|1=>1|n=>n⟩
def Tryz.lays144 :Go.Proofs.Lays.n144 Tryz.prog Tryz.lays144_ren:={
 mixed:=by kernel_rfl
 f143:=Go.gR Tryz.func500
 f144:=Go.gR Tryz.func451
 f217:=Go.gR Tryz.func567
 f219:=Go.gR Tryz.func532
 f224:=Go.gR Tryz.func569
 f225:=Go.gR Tryz.func568
 f266:=Go.gR Tryz.func594
 f267:=Go.gR Tryz.func570
 f314:=Go.gR Tryz.func595
 t3:=Tryz.underlying3
 a3:=Tryz.isAgg3
 z3:=Tryz.sizeOf3
 v3:=Tryz.zeroValue3
 t4:=Tryz.underlying4
 a4:=Tryz.isAgg4
 z4:=Tryz.sizeOf4
 v4:=Tryz.zeroValue4
 t5:=Tryz.underlying5
 a5:=Tryz.isAgg5
 z5:=Tryz.sizeOf5
 v5:=Tryz.zeroValue5
 t9:=Tryz.underlying9
 a9:=Tryz.isAgg9
 z9:=Tryz.sizeOf9
 v9:=Tryz.zeroValue9
 t46:=Tryz.underlying215
 a46:=Tryz.isAgg215
 z46:=Tryz.sizeOf215
 v46:=Tryz.zeroValue215
 t51:=Tryz.underlying294
 a51:=Tryz.isAgg294
 z51:=Tryz.sizeOf294
 v51:=Tryz.zeroValue294
 t146:=Tryz.underlying593
 a146:=Tryz.isAgg593
 z146:=Tryz.sizeOf593
 v146:=Tryz.zeroValue593
 g1:=by kernel_rfl}
def Tryz.keys428_ren :Go.Shelf.Ren:=⟨λ|7=>428|10=>487|n=>n,λ|23=>470|26=>9|3=>4|28=>473|0=>0|27=>472|33=>174|4=>4|n=>n,λ|n=>n⟩
def Tryz.keys428 :Go.Proofs.SlLaysZ.n7 Tryz.prog Tryz.keys428_ren:={
 mixed:=by kernel_rfl
 f7:=⟨Tryz.f428.name,by decide,Go.gR Tryz.func428⟩
 f10:=⟨Tryz.f487.name,by decide,Go.gR Tryz.func487⟩
 t0:=Tryz.underlying0
 a0:=Tryz.isAgg0
 z0:=Tryz.sizeOf0
 v0:=Tryz.zeroValue0
 t4:=Tryz.underlying4
 a4:=Tryz.isAgg4
 z4:=Tryz.sizeOf4
 v4:=Tryz.zeroValue4
 t23:=Tryz.underlying470
 a23:=Tryz.isAgg470
 z23:=Tryz.sizeOf470
 v23:=Tryz.zeroValue470
 t26:=Tryz.underlying9
 a26:=Tryz.isAgg9
 z26:=Tryz.sizeOf9
 v26:=Tryz.zeroValue9
 t27:=Tryz.underlying472
 a27:=Tryz.isAgg472
 z27:=Tryz.sizeOf472
 v27:=Tryz.zeroValue472
 t28:=Tryz.underlying473
 a28:=Tryz.isAgg473
 z28:=Tryz.sizeOf473
 v28:=Tryz.zeroValue473
 t33:=Tryz.underlying174
 a33:=Tryz.isAgg174
 z33:=Tryz.sizeOf174
 v33:=Tryz.zeroValue174}
def Tryz.sorted427_ren :Go.Shelf.Ren:=⟨λ|6=>427|8=>485|9=>486|11=>528|13=>124|12=>529|23=>218|24=>219|14=>559|15=>560|16=>561|17=>562|18=>563|19=>564|20=>358|21=>565|22=>566|25=>591|26=>341|27=>342|28=>592|29=>593|30=>157|31=>619|n=>n,λ|26=>9|28=>473|24=>48|0=>0|3=>3|37=>215|48=>294|50=>296|4=>4|40=>288|39=>287|45=>242|5=>5|9=>9|51=>415|55=>419|57=>477|58=>478|33=>174|n=>n,λ|n=>n⟩
def Tryz.sorted427 :Go.Proofs.SlLaysZ.n6 Tryz.prog Tryz.sorted427_ren:={
 mixed:=by kernel_rfl
 f6:=⟨Tryz.f427.name,by decide,Go.gR Tryz.func427⟩
 f8:=⟨Tryz.f485.name,by decide,Go.gR Tryz.func485⟩
 f11:=⟨Tryz.f528.name,by decide,Go.gR Tryz.func528⟩
 t0:=Tryz.underlying0
 a0:=Tryz.isAgg0
 z0:=Tryz.sizeOf0
 v0:=Tryz.zeroValue0
 t24:=Tryz.underlying48
 a24:=Tryz.isAgg48
 z24:=Tryz.sizeOf48
 v24:=Tryz.zeroValue48
 t26:=Tryz.underlying9
 a26:=Tryz.isAgg9
 z26:=Tryz.sizeOf9
 v26:=Tryz.zeroValue9
 t28:=Tryz.underlying473
 a28:=Tryz.isAgg473
 z28:=Tryz.sizeOf473
 v28:=Tryz.zeroValue473
 i26:=by kernel_rfl}
def Tryz.sort486_ren :Go.Shelf.Ren:=⟨λ|6=>486|8=>124|9=>529|19=>218|20=>219|21=>559|22=>560|23=>561|24=>562|25=>563|26=>564|27=>358|28=>565|29=>566|36=>591|31=>341|32=>342|37=>592|38=>593|39=>157|41=>619|n=>n,λ|27=>48|29=>9|3=>3|32=>215|26=>48|0=>0|44=>294|46=>296|4=>4|36=>288|35=>287|41=>242|5=>5|9=>9|53=>415|57=>419|63=>477|64=>478|n=>n,λ|n=>n⟩
def Tryz.sort486 :Go.Proofs.SlLaysM.n6 Tryz.prog Tryz.sort486_ren:={
 mixed:=by kernel_rfl
 f6:=⟨Tryz.f486.name,by decide,Go.gR Tryz.func486⟩
 f8:=Go.gR Tryz.func124
 f9:=⟨Tryz.f529.name,by decide,Go.gR Tryz.func529⟩
 f19:=Go.gR Tryz.func218
 f20:=Go.gR Tryz.func219
 f21:=⟨Tryz.f559.name,by decide,Go.gR Tryz.func559⟩
 f22:=⟨Tryz.f560.name,by decide,Go.gR Tryz.func560⟩
 f23:=⟨Tryz.f561.name,by decide,Go.gR Tryz.func561⟩
 f24:=⟨Tryz.f562.name,by decide,Go.gR Tryz.func562⟩
 f25:=⟨Tryz.f563.name,by decide,Go.gR Tryz.func563⟩
 f26:=⟨Tryz.f564.name,by decide,Go.gR Tryz.func564⟩
 f27:=⟨Tryz.f358.name,by decide,Go.gR Tryz.func358⟩
 f28:=⟨Tryz.f565.name,by decide,Go.gR Tryz.func565⟩
 f29:=⟨Tryz.f566.name,by decide,Go.gR Tryz.func566⟩
 f31:=Go.gR Tryz.func341
 f32:=Go.gR Tryz.func342
 f36:=⟨Tryz.f591.name,by decide,Go.gR Tryz.func591⟩
 f37:=⟨Tryz.f592.name,by decide,Go.gR Tryz.func592⟩
 f38:=⟨Tryz.f593.name,by decide,Go.gR Tryz.func593⟩
 f39:=⟨Tryz.f157.name,by decide,Go.gR Tryz.func157⟩
 f41:=⟨Tryz.f619.name,by decide,Go.gR Tryz.func619⟩
 t0:=Tryz.underlying0
 a0:=Tryz.isAgg0
 z0:=Tryz.sizeOf0
 v0:=Tryz.zeroValue0
 t3:=Tryz.underlying3
 a3:=Tryz.isAgg3
 z3:=Tryz.sizeOf3
 v3:=Tryz.zeroValue3
 t4:=Tryz.underlying4
 a4:=Tryz.isAgg4
 z4:=Tryz.sizeOf4
 v4:=Tryz.zeroValue4
 t5:=Tryz.underlying5
 a5:=Tryz.isAgg5
 z5:=Tryz.sizeOf5
 v5:=Tryz.zeroValue5
 t9:=Tryz.underlying9
 a9:=Tryz.isAgg9
 z9:=Tryz.sizeOf9
 v9:=Tryz.zeroValue9
 t26:=Tryz.underlying48
 a26:=Tryz.isAgg48
 z26:=Tryz.sizeOf48
 v26:=Tryz.zeroValue48
 t27:=Tryz.underlying48
 a27:=Tryz.isAgg48
 z27:=Tryz.sizeOf48
 v27:=Tryz.zeroValue48
 t29:=Tryz.underlying9
 a29:=Tryz.isAgg9
 z29:=Tryz.sizeOf9
 v29:=Tryz.zeroValue9
 t32:=Tryz.underlying215
 a32:=Tryz.isAgg215
 z32:=Tryz.sizeOf215
 v32:=Tryz.zeroValue215
 t35:=Tryz.underlying287
 a35:=Tryz.isAgg287
 z35:=Tryz.sizeOf287
 v35:=Tryz.zeroValue287
 t36:=Tryz.underlying288
 a36:=Tryz.isAgg288
 z36:=Tryz.sizeOf288
 v36:=Tryz.zeroValue288
 t41:=Tryz.underlying242
 a41:=Tryz.isAgg242
 z41:=Tryz.sizeOf242
 v41:=Tryz.zeroValue242
 t44:=Tryz.underlying294
 a44:=Tryz.isAgg294
 z44:=Tryz.sizeOf294
 v44:=Tryz.zeroValue294
 t46:=Tryz.underlying296
 a46:=Tryz.isAgg296
 z46:=Tryz.sizeOf296
 v46:=Tryz.zeroValue296
 t53:=Tryz.underlying415
 a53:=Tryz.isAgg415
 z53:=Tryz.sizeOf415
 v53:=Tryz.zeroValue415
 t57:=Tryz.underlying419
 a57:=Tryz.isAgg419
 z57:=Tryz.sizeOf419
 v57:=Tryz.zeroValue419
 t63:=Tryz.underlying477
 a63:=Tryz.isAgg477
 z63:=Tryz.sizeOf477
 v63:=Tryz.zeroValue477
 t64:=Tryz.underlying478
 a64:=Tryz.isAgg478
 z64:=Tryz.sizeOf478
 v64:=Tryz.zeroValue478}
open Go.RowKit Go.Lib in
def Tryz.strings_Contains(s sub:ByteArray)(m:Int)(w:World)(hs:s.size<4294967281)(hm:w.cell? ⟨1,0,none⟩=some (.int .i64 m)):
 Calls Tryz.prog 451 #[.string s,.string sub] w λe w'=>e= .returned (.bool (Lib.contains s.data.toList sub.data.toList))/\w'=w:=Any.strings_Contains Tryz.lays144 s sub m w hs hm
open Go.RowKit Go.Maps Go.Sort in
def Tryz.sorts427(m:Nat):AnyZ.SortsIn Tryz.prog Tryz.sorted427_ren Fence.wide m:=
 ⟨λy6 off cap ss W hH aju fX=>callsIn_wide.2 (AnyM.slices_Sort_string Tryz.sort486 y6 off cap ss W hH aju fX),
  λp cap W=>callsIn_wide.2 (AnyM.slices_Sort_string_none Tryz.sort486 p cap W)⟩
def Tryz.laysM171_ren :Go.Shelf.Ren:=⟨λ|171=>467|243=>513|246=>546|283=>580|284=>581|285=>582|286=>583|129=>219|317=>611|318=>612|319=>613|320=>614|337=>625|338=>626|n=>n,λ|3=>3|9=>9|2=>2|4=>4|171=>585|0=>0|53=>296|37=>526|5=>5|173=>587|212=>604|51=>294|20=>20|213=>605|46=>215|232=>623|233=>624|n=>n,λ|17=>2|18=>7|19=>8|n=>n⟩
def Tryz.laysM171 :Go.Proofs.LaysM.n171 Tryz.prog Tryz.laysM171_ren:={
 mixed:=by kernel_rfl
 f129:=Go.gR Tryz.func219
 f171:=Go.gR Tryz.func467
 f243:=Go.gR Tryz.func513
 f246:=Go.gR Tryz.func546
 f283:=Go.gR Tryz.func580
 f284:=Go.gR Tryz.func581
 f285:=Go.gR Tryz.func582
 f286:=Go.gR Tryz.func583
 f317:=Go.gR Tryz.func611
 f318:=Go.gR Tryz.func612
 f319:=Go.gR Tryz.func613
 f320:=Go.gR Tryz.func614
 f337:=Go.gR Tryz.func625
 f338:=Go.gR Tryz.func626
 t0:=Tryz.underlying0
 a0:=Tryz.isAgg0
 z0:=Tryz.sizeOf0
 v0:=Tryz.zeroValue0
 t2:=Tryz.underlying2
 a2:=Tryz.isAgg2
 z2:=Tryz.sizeOf2
 v2:=Tryz.zeroValue2
 t3:=Tryz.underlying3
 a3:=Tryz.isAgg3
 z3:=Tryz.sizeOf3
 v3:=Tryz.zeroValue3
 t4:=Tryz.underlying4
 a4:=Tryz.isAgg4
 z4:=Tryz.sizeOf4
 v4:=Tryz.zeroValue4
 t5:=Tryz.underlying5
 a5:=Tryz.isAgg5
 z5:=Tryz.sizeOf5
 v5:=Tryz.zeroValue5
 t9:=Tryz.underlying9
 a9:=Tryz.isAgg9
 z9:=Tryz.sizeOf9
 v9:=Tryz.zeroValue9
 t20:=Tryz.underlying20
 a20:=Tryz.isAgg20
 z20:=Tryz.sizeOf20
 v20:=Tryz.zeroValue20
 t37:=Tryz.underlying526
 a37:=Tryz.isAgg526
 z37:=Tryz.sizeOf526
 v37:=Tryz.zeroValue526
 t46:=Tryz.underlying215
 a46:=Tryz.isAgg215
 z46:=Tryz.sizeOf215
 v46:=Tryz.zeroValue215
 t51:=Tryz.underlying294
 a51:=Tryz.isAgg294
 z51:=Tryz.sizeOf294
 v51:=Tryz.zeroValue294
 t53:=Tryz.underlying296
 a53:=Tryz.isAgg296
 z53:=Tryz.sizeOf296
 v53:=Tryz.zeroValue296
 t171:=Tryz.underlying585
 a171:=Tryz.isAgg585
 z171:=Tryz.sizeOf585
 v171:=Tryz.zeroValue585
 t173:=Tryz.underlying587
 a173:=Tryz.isAgg587
 z173:=Tryz.sizeOf587
 v173:=Tryz.zeroValue587
 t212:=Tryz.underlying604
 a212:=Tryz.isAgg604
 z212:=Tryz.sizeOf604
 v212:=Tryz.zeroValue604
 t213:=Tryz.underlying605
 a213:=Tryz.isAgg605
 z213:=Tryz.sizeOf605
 t232:=Tryz.underlying623
 a232:=Tryz.isAgg623
 z232:=Tryz.sizeOf623
 v232:=Tryz.zeroValue623
 t233:=Tryz.underlying624
 a233:=Tryz.isAgg624
 z233:=Tryz.sizeOf624
 v233:=Tryz.zeroValue624
 g17:=by kernel_rfl
 g18:=by kernel_rfl
 g19:=by kernel_rfl
 i0:=by kernel_rfl
 i2:=by kernel_rfl
 i3:=by kernel_rfl
 i4:=by kernel_rfl
 i5:=by kernel_rfl
 i9:=by kernel_rfl
 i20:=by kernel_rfl
 i37:=by kernel_rfl
 i46:=by kernel_rfl
 i51:=by kernel_rfl
 i53:=by kernel_rfl
 i171:=by kernel_rfl
 i173:=by kernel_rfl
 i212:=by kernel_rfl
 i232:=by kernel_rfl
 i233:=by kernel_rfl
 m17:=by kernel_rfl
 m18:=by kernel_rfl
 m19:=by kernel_rfl}
end Go.Proofs
