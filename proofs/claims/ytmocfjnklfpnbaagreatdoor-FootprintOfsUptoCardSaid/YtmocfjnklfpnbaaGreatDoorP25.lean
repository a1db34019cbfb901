/- Part of the proof. -/
import Derived.Test.YtmocfjnklfpnbaaGreatDoorP24
set_option linter.all false
set_option maxHeartbeats 32000000
set_option maxRecDepth 100000
namespace Go.Proofs.YtmocfjnklfpnbaaGreatDoor
open Go Go.Ae Go.ChangeShapes Go.WideShapes Go.Proofs.Tryz
mutual
def gS{D E:Nat}(h:D<=E):∀e:Ep,ke D e->ke E e
 |
  .mk op v nm ds ks,hb=>by
  rw[ke]at hb|-;exact⟨⟨Yj hb.1.1 h,hb.1.2⟩,hb.2.1,hb.2.2.1,Db h ks hb.2.2.2⟩
def Db{D E:Nat}(h:D<=E):∀l:List Ep,w9 D l->w9 E l
 | [],hb=>by rw[w9];trivial
 |
  x::xs,hb=>by
  rw[w9]at hb|-;exact⟨gS h x hb.1,Db h xs hb.2⟩
end
def LO{D:Nat}:∀l:List Ep,(∀e∈l,ke D e)->w9 D l
 | [],_=>by rw[w9];trivial
 |
  x::xs,h=>by
  rw[w9];exact⟨h x (by simp),LO xs λe he=>h e (Yr _ he)⟩
mutual
def A2 :∀e:Ep,lE e<=dc e
 |
  .mk op v nm ds ks=>by
  rw[lE,dc];have:=Dc ks;omega
def Dc :∀l:List Ep,Af l<=iA l
 | []=>by rw[Af];omega
 |
  x::xs=>by
  rw[Af,iA];have:=A2 x;have:=Dc xs;omega
end
def EV :prog.cellsOf 43=9:=by kernel_rfl
def LP :prog.bytesOf 43=119+1:=by kernel_rfl
def ad0{α:Type}(f:α->Nat)(l:List α):(l.map λx=>2*f x).sum=2*(l.map f).sum:=by
 induction l with
 |nil=>rfl
 |cons a l ih=>rw[Yn,Yn,Yo,Yo,ih];omega
section
variable {H : Type} {en : TypeId × Value -> H} {w : World} {held : Bool}
def oe :∀N:Nat,vp H en w held N 43 cM ke (λe=>2*dc e)
 |
  0=>λfuel cs x hN h hw=>by
  obtain⟨xs,n,e,_⟩:=DataW.trod_struct underlying43 h;omega
 |
  N+1=>by
  refine jl (k:=9) (ts:=[(3,0,1),(35,1,5),(9,6,1),(4,7,1),(41,8,1)])
   (λp:Int × V × ByteArray × Bool × List Ep × Unit=>Ep.mk p.1 p.2.1 p.2.2.1 p.2.2.2.1 p.2.2.2.2.1) underlying43 (by kernel_rfl) EV (by decide)
   (dj (oU N) (dj (NP N) (dj (iU N) (dj (sv N) (dj (jE (encA:=cM) (Q:=ke) underlying41 (by omega) EV LP cB (λm n e hm h=>gS hm e h) (oe N)) (mC N)))))) ?_ ?_ ?_
  .rintro⟨o,v,n,d,l,_⟩;rw[cM,<-nC];rfl
  .rintro n ⟨o,v,s,d,l,_⟩ ⟨_,h1,h2,_,h3,_⟩;simp only at h1 h2 h3|-;rw[ke];exact⟨⟨Nat.le_succ_of_le h1.1,h1.2⟩,h2,vD h3.2,LO l λe he=>gS (Nat.le_succ n) e (h3.1 e he)⟩
  .rintro⟨o,v,s,d,l,_⟩;simp only;rw[dc,pR,ad0];omega
end
def LQ :prog.cellsOf 51=10:=by kernel_rfl
def WK :prog.bytesOf 51=135+1:=by kernel_rfl
def LR :prog.cellsOf 54=3:=by kernel_rfl
def WL :prog.bytesOf 54=63+1:=by kernel_rfl
def LS :prog.cellsOf 57=7:=by kernel_rfl
def WM :prog.bytesOf 57=95+1:=by kernel_rfl
def LU :prog.cellsOf 60=3:=by kernel_rfl
def WN :prog.bytesOf 60=63+1:=by kernel_rfl
def LV :prog.cellsOf 62=10:=by kernel_rfl
def WO :prog.bytesOf 62=135+1:=by kernel_rfl
def LW :prog.cellsOf 94=10:=by kernel_rfl
def WQ :prog.bytesOf 94=127+1:=by kernel_rfl
def LX :prog.cellsOf 64=13:=by kernel_rfl
def WR :prog.bytesOf 64=175+1:=by kernel_rfl
def LY :prog.cellsOf 49=21:=by kernel_rfl
def WS :prog.bytesOf 49=311+1:=by kernel_rfl
def WT :prog.bytesOf 9=15+1:=by kernel_rfl
def WU :prog.cellsOf 24=1:=by kernel_rfl
def qPp(n:Nat)(p:Pp):Prop:=ke n p.e
def qPs(n:Nat)(l:List Pp):Prop:=∀p∈l,qPp n p
def qNp(n:Nat)(x:Np):Prop:=qPs n x.props
def qGp(n:Nat)(x:Gp):Prop:=qPs n x.props
def qTp(n:Nat)(p:Tp):Prop:=(∀x∈p.nodes,qNp n x)/\∀x∈p.cE,qGp n x
structure qCp (n:Nat)(c:Cp):Prop where
 paths:∀p∈c.paths,qTp n p
 eu:∀e∈c.eu,ke n e
 e:ke n c.e
 items:∀x∈c.items,ke n x.e
 order:∀x∈c.order,ke n x.e
 sets:∀x∈c.sets,ke n x.e
def pX{m n:Nat}(h:m<=n){l:List Pp}(hl:qPs m l):qPs n l:=λp hp=>gS h p.e (hl p hp)
def A3{m n:Nat}(h:m<=n){p:Tp}(hp:qTp m p):qTp n p:=⟨λx hx=>pX h (hp.1 x hx),λx hx=>pX h (hp.2 x hx)⟩
def vZ{m n:Nat}(h:m<=n){c:Cp}(hc:qCp m c):qCp n c:=⟨λp hp=>A3 h (hc.paths p hp),λe he=>gS h e (hc.eu e he),gS h _ hc.e,λx hx=>gS h _ (hc.items x hx),λx hx=>gS h _ (hc.order x hx),λx hx=>gS h _ (hc.sets x hx)⟩
def WV{α:Type}(l:List α):(l.map λ_=>1).sum=l.length:=by
 induction l with
 |nil=>rfl
 |cons a l ih=>rw[Yn,Yo,ih,Ys];omega
def ad1{α:Type}(f:α->Nat)(k:Nat)(l:List α):(l.map λx=>f x+k).sum=(l.map f).sum+k*l.length:=by
 induction l with
 |nil=>rfl
 |cons a l ih=>rw[Yn,Yn,Yo,Yo,ih,Ys,Nat.mul_succ];omega
def Sd(p:Pp):Nat:=2*dc p.e+1
def ad2(l:List Pp):(l.map Sd).sum=2*nj l+l.length:=by
 unfold Sd nj;rw[ad1 (λp:Pp=>2*dc p.e),ad0 (λp:Pp=>dc p.e),Nat.one_mul]
def nk(c:Cp):Nat:=rI c+c.paths.length
section
variable {H : Type} {en : TypeId × Value -> H} {w : World} {held : Bool}
def uP(N:Nat):vp H en w held N 47 (λl:List ByteArray=> [.ls 1 (l.map λs=> [.sc (.string s)]) false]) (λ_ l=>(∀s∈l,s.size<=1000000000000000)/\l.length<=reachBytes) (λl=>(l.map λ_=>1).sum+1):=
 jE (encA:=λs:ByteArray=> [.sc (.string s)]) (Q:=λ_(s:ByteArray)=>s.size<=1000000000000000) underlying47 (by omega) aaY WT (λ_=>rfl) (λ_ _ _ _ h=>h) (iU N)
def abw(N:Nat):vp H en w held (N+1) 51 eF qPp Sd:=by
 refine jl (k:=10) (ts:=[(9,0,1),(43,1,9)]) (λp:ByteArray × Ep × Unit=>Pp.mk p.1 p.2.1) underlying51 (by kernel_rfl) LQ (by decide)
  (dj (iU N) (dj (oe N) (mC N))) ?_ ?_ ?_
 .rintro⟨s,e,_⟩;simp[eF]
 .rintro n ⟨s,e,_⟩ ⟨_,h,_⟩;exact gS (Nat.le_succ n) e h
 .rintro⟨s,e,_⟩;simp only[Sd];omega
def LZ(N:Nat):vp H en w held (N+1) 52 (λl:List Pp=> [.ls 10 (jw l) false]) (λn l=>qPs n l/\l.length<=reachBytes) (λl=>(l.map Sd).sum+1):=
 jE (encA:=eF) (Q:=qPp) underlying52 (by omega) LQ WK nh (λm n p hm h=>gS hm p.e h) (abw N)
def abx(N:Nat):vp H en w held (N+2) 54 dD qNp ue:=by
 refine jl (k:=3) (ts:=[(9,0,1),(47,1,1),(52,2,1)]) (λp:ByteArray × List ByteArray × List Pp × Unit=>Np.mk p.1 p.2.1 p.2.2.1) underlying54 (by kernel_rfl) LR (by decide)
  (dj (iU _) (dj (uP _) (dj (LZ N) (mC _)))) ?_ ?_ ?_
 .rintro⟨s,l,p,_⟩;rfl
 .rintro n ⟨s,l,p,_⟩ ⟨_,_,h,_⟩;exact pX (Nat.le_succ n) h.1
 .rintro⟨s,l,p,_⟩;simp only[ue,ad2,WV];omega
def aby(N:Nat):vp H en w held (N+2) 57 dE qGp vX:=by
 refine jl (k:=7) (ts:=[(9,0,1),(47,1,1),(3,2,1),(3,3,1),(3,4,1),(3,5,1),(52,6,1)])
  (λp:ByteArray × List ByteArray × Int × Int × Int × Int × List Pp × Unit=>Gp.mk p.1 p.2.1 p.2.2.1 p.2.2.2.1 p.2.2.2.2.1 p.2.2.2.2.2.1 p.2.2.2.2.2.2.1) underlying57 (by kernel_rfl) LS (by decide)
  (dj (iU _) (dj (uP _) (dj (oU _) (dj (oU _) (dj (oU _) (dj (oU _) (dj (LZ N) (mC _)))))))) ?_ ?_ ?_
 .rintro⟨s,l,a,b,c,d,p,_⟩;rfl
 .rintro n ⟨s,l,a,b,c,d,p,_⟩ ⟨_,_,_,_,_,_,h,_⟩;exact pX (Nat.le_succ n) h.1
 .rintro⟨s,l,a,b,c,d,p,_⟩;simp only[vX,ad2,WV];omega
def WX(N:Nat):vp H en w held (N+2) 55 (λl:List Np=> [.ls 3 (gZ l) false]) (λn l=>(∀x∈l,qNp n x)/\l.length<=reachBytes) (λl=>(l.map ue).sum+1):=
 jE (encA:=dD) (Q:=qNp) underlying55 (by omega) LR WL (λ_=>rfl) (λm n p hm h=>pX hm h) (abx N)
def WY(N:Nat):vp H en w held (N+2) 58 (λl:List Gp=> [.ls 7 (nD l) false]) (λn l=>(∀x∈l,qGp n x)/\l.length<=reachBytes) (λl=>(l.map vX).sum+1):=
 jE (encA:=dE) (Q:=qGp) underlying58 (by omega) LS WM (λ_=>rfl) (λm n p hm h=>pX hm h) (aby N)
def abz(N:Nat):vp H en w held (N+3) 60 dW qTp (λp=>vm p+1):=by
 refine jl (k:=3) (ts:=[(9,0,1),(55,1,1),(58,2,1)]) (λp:ByteArray × List Np × List Gp × Unit=>Tp.mk p.1 p.2.1 p.2.2.1) underlying60 (by kernel_rfl) LU (by decide)
  (dj (iU _) (dj (WX N) (dj (WY N) (mC _)))) ?_ ?_ ?_
 .rintro⟨s,l,p,_⟩;rfl
 .rintro n ⟨s,l,p,_⟩ ⟨_,h1,h2,_⟩;exact A3 (Nat.le_succ n) ⟨h1.1,h2.1⟩
 .rintro⟨s,l,p,_⟩;simp only[vm];omega
def WZ(N:Nat):vp H en w held (N+3) 40 (λl:List Tp=> [.ls 3 (q7 l) false]) (λn l=>(∀x∈l,qTp n x)/\l.length<=reachBytes) (λl=>(l.map λp=>vm p+1).sum+1):=
 jE (encA:=dW) (Q:=qTp) underlying40 (by omega) LU WN (λ_=>rfl) (λm n p hm h=>A3 hm h) (abz N)
def W1(N:Nat):vp H en w held N 41 (λl:List Ep=> [.ls 9 (l.map cM) false]) (λn l=>(∀x∈l,ke n x)/\l.length<=reachBytes) (λl=>(l.map λe=>2*dc e).sum+1):=
 jE (encA:=cM) (Q:=ke) underlying41 (by omega) EV LP cB (λm n e hm h=>gS hm e h) (oe N)
def abA(N:Nat):vp H en w held (N+1) 62 jr (λn x=>ke n x.e) (λx=>2*dc x.e):=by
 refine jl (k:=10) (ts:=[(43,0,9),(9,9,1)]) (λp:Ep × ByteArray × Unit=>Ip.mk p.1 p.2.1) underlying62 (by kernel_rfl) LV (by decide)
  (dj (oe N) (dj (iU N) (mC N))) ?_ ?_ ?_
 .rintro⟨e,s,_⟩;simp[jr]
 .rintro n ⟨e,s,_⟩ ⟨h,_⟩;exact gS (Nat.le_succ n) e h
 .rintro⟨e,s,_⟩;simp only;omega
def abB(N:Nat):vp H en w held (N+1) 94 js (λn x=>ke n x.e) (λx=>2*dc x.e):=by
 refine jl (k:=10) (ts:=[(43,0,9),(4,9,1)]) (λp:Ep × Bool × Unit=>BN.mk p.1 p.2.1) underlying94 (by kernel_rfl) LW (by decide)
  (dj (oe N) (dj (sv N) (mC N))) ?_ ?_ ?_
 .rintro⟨e,s,_⟩;simp[js]
 .rintro n ⟨e,s,_⟩ ⟨h,_⟩;exact gS (Nat.le_succ n) e h
 .rintro⟨e,s,_⟩;simp only;omega
def abC(N:Nat):vp H en w held (N+1) 64 fD (λn x=>ke n x.e) (λx=>2*dc x.e+2):=by
 refine jl (k:=13) (ts:=[(9,0,1),(9,1,1),(9,2,1),(4,3,1),(43,4,9)]) (λp:ByteArray × ByteArray × ByteArray × Bool × Ep × Unit=>Sp.mk p.1 p.2.1 p.2.2.1 p.2.2.2.1 p.2.2.2.2.1) underlying64 (by kernel_rfl) LX (by decide)
  (dj (iU N) (dj (iU N) (dj (iU N) (dj (sv N) (dj (oe N) (mC N)))))) ?_ ?_ ?_
 .rintro⟨a,b,c,d,e,_⟩;simp[fD]
 .rintro n ⟨a,b,c,d,e,_⟩ ⟨_,_,_,_,h,_⟩;exact gS (Nat.le_succ n) e h
 .rintro⟨a,b,c,d,e,_⟩;simp only;omega
def W2(N:Nat):vp H en w held (N+1) 44 (λl:List Ip=> [.ls 10 (xa l) false]) (λn l=>(∀x∈l,ke n x.e)/\l.length<=reachBytes) (λl=>(l.map λx=>2*dc x.e).sum+1):=
 jE (encA:=jr) (Q:=λn(x:Ip)=>ke n x.e) underlying44 (by omega) LV WO (λx=>by simp[jr,cB]) (λm n e hm h=>gS hm _ h) (abA N)
def W3(N:Nat):vp H en w held (N+1) 45 (λl:List BN=> [.ls 10 (yZ l) false]) (λn l=>(∀x∈l,ke n x.e)/\l.length<=reachBytes) (λl=>(l.map λx=>2*dc x.e).sum+1):=
 jE (encA:=js) (Q:=λn(x:BN)=>ke n x.e) underlying45 (by omega) LW WQ (λx=>by simp[js,cB]) (λm n e hm h=>gS hm _ h) (abB N)
def W4(N:Nat):vp H en w held (N+1) 46 (λl:List Sp=> [.ls 13 (y_ l) false]) (λn l=>(∀x∈l,ke n x.e)/\l.length<=reachBytes) (λl=>(l.map λx=>2*dc x.e+2).sum+1):=
 jE (encA:=fD) (Q:=λn(x:Sp)=>ke n x.e) underlying46 (by omega) LX WR (λx=>by simp[fD,cB]) (λm n e hm h=>gS hm _ h) (abC N)
def abD(N:Nat):vp H en w held (N+4) 49 cA qCp nk:=by
 refine jl (k:=21) (ts:=[(3,0,1),(4,1,1),(4,2,1),(40,3,1),(41,4,1),(43,5,9),(9,14,1),(44,15,1),(45,16,1),(3,17,1),(3,18,1),(46,19,1),(47,20,1)])
  (λp:Int × Bool × Bool × List Tp × List Ep × Ep × ByteArray × List Ip × List BN × Int × Int × List Sp × List ByteArray × Unit=>Cp.mk p.1 p.2.1 p.2.2.1 p.2.2.2.1 p.2.2.2.2.1 p.2.2.2.2.2.1 p.2.2.2.2.2.2.1 p.2.2.2.2.2.2.2.1 p.2.2.2.2.2.2.2.2.1 p.2.2.2.2.2.2.2.2.2.1 p.2.2.2.2.2.2.2.2.2.2.1 p.2.2.2.2.2.2.2.2.2.2.2.1 p.2.2.2.2.2.2.2.2.2.2.2.2.1) underlying49 (by kernel_rfl) LY (by decide)
  (dj (oU _) (dj (sv _) (dj (sv _) (dj (WZ N) (dj (W1 _) (dj (oe _) (dj (iU _) (dj (W2 _) (dj (W3 _) (dj (oU _) (dj (oU _) (dj (W4 _) (dj (uP _) (mC _)))))))))))))) ?_ ?_ ?_
 .rintro⟨k,o,d,p,wh,e,s,its,os,a,b,ss,ns,_⟩;unfold cA;rw[<-nC];rfl
 .rintro n ⟨k,o,d,p,wh,e,s,its,os,a,b,ss,ns,_⟩ ⟨_,_,_,h1,h2,h3,_,h4,h5,_,_,h6,_,_⟩;exact vZ (Nat.le_succ n) ⟨h1.1,h2.1,h3,h4.1,h5.1,h6.1⟩
 .rintro⟨k,o,d,p,wh,e,s,its,os,a,b,ss,ns,_⟩;simp only[nk,rI,ad1 vm,WV];omega
def abE(N:Nat):vp H en w held (N+5) 24 gL (λn l=>∀c∈l,qCp n c) (λl=>(l.map nk).sum):=by
 refine jl (k:=1) (ts:=[(22,0,1)]) (λp:List Cp × Unit=>p.1) underlying24 (by kernel_rfl) WU (by decide)
  (dj (jE (encA:=cA) (Q:=qCp) (m:=nk) underlying22 (by omega) LY WS (λx=>by simp[cA,cB]) (λm n e hm h=>vZ hm h) (abD N)) (mC _)) ?_ ?_ ?_
 .rintro⟨l,_⟩;rfl
 .rintro n ⟨l,_⟩ ⟨h,_⟩ c hc;exact vZ (Nat.le_succ n) (h.1 c hc)
 .rintro⟨l,_⟩;simp only;omega
end
def qO{α:Type}(f:α->Nat)(h:∀x,1<=f x)(l:List α):l.length<=(l.map f).sum:=by
 induction l with
 |nil=>simp
 |cons a l ih=>have:=h a;rw[Yn,Yo,Ys];omega
def sw(e:Ep):1<=dc e:=by cases e;rw[dc];omega
def kY{α:Type}(f:α->Nat){l:List α}{x:α}(h:x∈l):f x<=(l.map f).sum:=EU f h
def Dd{D B:Nat}{l:List Pp}(hB:B<=1048576)(h:qPs D l)(hs:2*nj l<=B):∀q∈l,(oz D B q.e/\ub D B q.e)/\lE q.e<=B/\ke D q.e:=λq hq=>by
 have h1:=kY (λq:Pp=>dc q.e) hq;have h2:=A2 q.e;have h3:ke D q.e:=h q hq;unfold nj at hs;exact⟨⟨⟨by omega,h3⟩,⟨by omega,h3⟩,by omega⟩,by omega,h3⟩
def Se{D B:Nat}{x:Np}(hB:B<=1048576)(h:qNp D x)(hs:ue x<=B):bdN D B x/\bbN D B x/\brN D B x:=by
 unfold ue at hs;have hp:=Dd hB h (by omega);exact⟨⟨by omega,by omega,λq hq=>(hp q hq).2⟩,⟨λq hq=>(hp q hq).1.2,by omega⟩,⟨λq hq=>(hp q hq).1.1,by omega,by omega⟩⟩
def Sf{D B:Nat}{x:Gp}(hB:B<=1048576)(h:qGp D x)(hs:vX x<=B):bdG D B x/\bbG D B x/\brG D B x:=by
 unfold vX at hs;have hp:=Dd hB h (by omega);exact⟨⟨by omega,by omega,λq hq=>(hp q hq).2⟩,⟨λq hq=>(hp q hq).1.2,by omega⟩,⟨λq hq=>(hp q hq).1.1,by omega,by omega⟩⟩
def Sg{D B:Nat}{p:Tp}(hB:B<=1048576)(h:qTp D p)(hs:vm p<=B):bdT D B p/\bbT D B p/\brT D B p:=by
 unfold vm at hs;have hn:=λx hx=>Se hB (h.1 x hx) (by have:=kY ue hx;omega)
 have he:=λx hx=>Sf hB (h.2 x hx) (by have:=kY vX hx;omega)
 have l1:=qO ue (λx=>by unfold ue;omega) p.nodes;have l2:=qO vX (λx=>by unfold vX;omega) p.cE;exact⟨⟨λx hx=>(hn x hx).1,λx hx=>(he x hx).1,by omega,by omega⟩,⟨λx hx=>(hn x hx).2.1,λx hx=>(he x hx).2.1,by omega,by omega⟩,⟨λx hx=>(hn x hx).2.2,λx hx=>(he x hx).2.2,by omega,by omega⟩⟩
def v7{D B:Nat}{e:Ep}(hB:B<=1048576)(h:ke D e)(hs:2*dc e<=B):oz D B e/\ub D B e:=by
 have:=A2 e;exact⟨⟨by omega,h⟩,⟨by omega,h⟩,by omega⟩
def J4{D B:Nat}{c:Cp}(hB:B<=1048576)(h:qCp D c)(hs:nk c<=B):Cg D B c/\AJ D B c/\J0 D B c:=by
 unfold nk rI at hs;have hp:=λp hp=>Sg hB (h.paths p hp) (by have:=kY vm hp;omega)
 have h1:=λx hx=>v7 hB (h.eu x hx) (by have:=kY (λx=>2*dc x) hx;omega)
 have h2:=v7 hB h.e (by omega);have h3:=λx hx=>v7 hB (h.items x hx) (by have:=kY (λx:Ip=>2*dc x.e) hx;omega)
 have h4:=λx hx=>v7 hB (h.order x hx) (by have:=kY (λx:BN=>2*dc x.e) hx;omega)
 have h5:=λx hx=>v7 hB (h.sets x hx) (by have:=kY (λx:Sp=>2*dc x.e+2) hx;omega)
 have l1:=qO (λx=>2*dc x) (λx=>by have:=sw x;omega) c.eu;have l3:=qO (λx:Ip=>2*dc x.e) (λx=>by have:=sw x.e;omega) c.items;have l4:=qO (λx:BN=>2*dc x.e) (λx=>by have:=sw x.e;omega) c.order;have l5:=qO (λx:Sp=>2*dc x.e+2) (λx=>by omega) c.sets;rw[WV]at hs;exact⟨⟨λp q=>(hp p q).1,λe he=>(h1 e he).1,h2.1,λx hx=>(h3 x hx).1,λx hx=>(h4 x hx).1,λx hx=>(h5 x hx).1,by omega,by omega,by omega,by omega,by omega,by omega⟩,
  ⟨λp q=>(hp p q).2.1,λe he=>(h1 e he).2,h2.2,λx hx=>(h3 x hx).2,λx hx=>(h4 x hx).2,λx hx=>(h5 x hx).2,by omega,by omega,by omega,by omega,by omega,by omega⟩,
  ⟨λp q=>(hp p q).2.2,λe he=>(h1 e he).1,h2.1,λx hx=>(h3 x hx).1,λx hx=>(h4 x hx).1,λx hx=>(h5 x hx).1,by omega,by omega,by omega,by omega,by omega,by omega⟩⟩
def NQ{D B:Nat}{q:List Cp}(hB:B<=1048576)(h:∀c∈q,qCp D c)(hs:(q.map nk).sum<=B):(∀c∈q,Cg D B c)/\(∀c∈q,AJ D B c)/\(∀c∈q,J0 D B c)/\q.length<=10^6/\(q.map rI).sum<=1000000000:=by
 have hc:=λc hc=>J4 hB (h c hc) (by have:=kY nk hc;omega)
 have l1:3*q.length<=(q.map nk).sum:=by
  clear hc hs h
  induction q with
  |nil=>simp
  |cons c q ih=>
   have:=sw c.e;rw[Yn,Yo,Ys];have:3<=nk c:=by unfold nk rI;omega
   omega
 have l2:(q.map rI).sum<=(q.map nk).sum:=by
  clear hc hs h l1
  induction q with
  |nil=>simp
  |cons c q ih=>
   rw[Yn,Yn,Yo,Yo];have:rI c<=nk c:=by unfold nk;omega
   omega
 exact⟨λc h=>(hc c h).1,λc h=>(hc c h).2.1,λc h=>(hc c h).2.2,by omega,by omega⟩
end Go.Proofs.YtmocfjnklfpnbaaGreatDoor
namespace Go.Proofs.YtmocfjnklfpnbaaGreatDoor
open Go Go.Ae Go.Proofs.Tryz
section
attribute [local simp] eY
def uQ :List ByteArray:=[⟨#[77,65,84,67,72]⟩,⟨#[79,80,84,73,79,78,65,76]⟩,⟨#[87,72,69,82,69]⟩,⟨#[85,78,87,73,78,68]⟩,⟨#[65,83]⟩,⟨#[87,73,84,72]⟩,⟨#[68,73,83,84,73,78,67,84]⟩,⟨#[79,82,68,69,82]⟩,⟨#[66,89]⟩,⟨#[65,83,67]⟩,⟨#[68,69,83,67]⟩,⟨#[83,75,73,80]⟩,⟨#[76,73,77,73,84]⟩,⟨#[82,69,84,85,82,78]⟩,⟨#[67,82,69,65,84,69]⟩,⟨#[77,69,82,71,69]⟩,⟨#[83,69,84]⟩,⟨#[82,69,77,79,86,69]⟩,⟨#[68,69,76,69,84,69]⟩,⟨#[68,69,84,65,67,72]⟩,⟨#[65,78,68]⟩,⟨#[79,82]⟩,⟨#[78,79,84]⟩,⟨#[73,78]⟩,⟨#[73,83]⟩,⟨#[78,85,76,76]⟩,⟨#[84,82,85,69]⟩,⟨#[70,65,76,83,69]⟩,⟨#[87,65,76,75]⟩,⟨#[84,82,65,73,76]⟩,⟨#[83,73,77,80,76,69]⟩,⟨#[83,72,79,82,84,69,83,84]⟩,⟨#[65,78,89]⟩]
def NR(n:Nat)(b:Bool)(h:Hp):cu cx (n+1) b 310 [] h=some (.ls 1 (eE uQ) false,h):=
 sY (r:= .sl 0 1 0 33 false) (r':= .ls 1 (eE uQ) false) (h':=[.row (uQ.map λs=> .sc (.string s))]) ⟨f310.ntmps,(f310.body).getD .skip,[.tmp 0]⟩ (by kernel_rfl) (by kernel_rfl) rfl (by kernel_rfl) (by simp[f310]) rfl (by kernel_rfl) (by kernel_rfl) b h
def PF(l:List UInt8)(i:Nat):ByteArray:=⟨((l.take i).map wK).toArray⟩
def Sh{l:List UInt8}{i:Nat}{c:UInt8}(h:l[i]?=some c):PF l (i+1)=PF l i++⟨#[wK c]⟩:=by
 unfold PF;rw[Xt,h];simp;rfl
def NS{a b:ByteArray}(h:a.size+b.size<=9223372036854775807):ew .add a b=some (.string (a++b)):=by
 unfold ew;rw[cw h]
def abF(a b:AV):cF [a] 0 [b]=[b]:=rfl
def NT(n:Nat)(b:Bool)(x:ByteArray)(h:Hp)(hs:x.size<=1000000):cu cx (n+1) b 309 [x] h=some (.sc (.string (FG x)),h):=by
 refine fU f309 [.tmp 2] rfl rfl ?_ b h;have hz:=pN x;have hU:FG x=PF x.data.toList x.size:=by
  unfold FG PF;rw[Yy (by omega)]
 rw[hU];simp[f309];generalize cU:n (.loop _) _=XX;refine gk cU (λi st _=>st.length=29/\gt st 0=x/\gt st 3= .sc (.string (PF x.data.toList i))/\gt st 4=i)
  (λo st _=>o= .exit 0/\st.length=29/\gt st 3= .sc (.string (PF x.data.toList x.size))) x.size (by simp;omega) ⟨by simp,by simp,by simp;rfl,by simp⟩ ?_ ?_
 .rintro i fr hp cP ⟨cp,h0,h3,h4⟩;by_cases hi:i<x.size
  .obtain⟨c,hc⟩:∃c,x.data.toList[i]?=some c:=⟨_,Zb (by omega)⟩;have z_:∀k,x.data[i]'k=c:=λk=>by obtain⟨_,e⟩:=Za.1 hc;exact e
   have dO:=Sh hc;have gI:=c.toNat_lt;obtain⟨q,hq⟩:∃q:Int,q=c.toNat:=⟨_,rfl⟩;have hf:=cz (show i<=10^15 by omega);have ik:(PF x.data.toList i).size<=1000000:=by
    unfold PF;show((x.data.toList.take i).map wK).length<=10^6;rw[Yh,Xa];omega
   have NU:ew .add (PF x.data.toList i) ⟨#[wK c]⟩=some (.string (PF x.data.toList (i+1))):=by
    rw[dO];exact NS (by show(PF x.data.toList i).size+1<=_;omega)
   have yF:∀k:Int,k=(wK c).toNat->zL (.sc (.int .u8 k))=some (wK c):=λk e=>by
    have:=(wK c).toNat_lt;show(if 0<=k/\k<256 then some (UInt8.ofNat k.toNat)else none)=some (wK c);rw[cw ⟨by omega,by omega⟩,e];simp
   by_cases c1:97<=q
   .by_cases c2:q<=122
    .have e1:dA .u8 (q-32)=q-32:=JB (by omega) (by omega);have hb:=yF (q-32) (by unfold wK;rw[cw ⟨by omega,by omega⟩,UInt8.toNat_ofNat'];omega);simp[cp,h0,h3,h4,hi,z_,<-hq,c1,c2,e1,hf,hb,NU,abF]
    .have hb:=yF q (by unfold wK;rw[cv (λe=>c2 (by omega))];exact hq);simp[cp,h0,h3,h4,hi,z_,<-hq,c1,c2,hf,hb,NU,abF]
   .have hb:=yF q (by unfold wK;rw[cv (λe=>c1 (by omega))];exact hq);simp[cp,h0,h3,h4,hi,z_,<-hq,c1,hf,hb,NU,abF]
  .have iJ:i=x.size:=Yb cP (Ya hi);subst iJ;simp[cp,h0,h3,h4]
 .rintro o cG h' rfl ⟨rfl,cp,h3⟩;simp[cp,h3]
end
section
attribute [local simp] ew eY
def W5(u:ByteArray):Bool:=uQ.any λw=>dn w u
def EW(n:Nat)(b:Bool)(x:ByteArray)(h:Hp)(hs:x.size<=1000000):cu cx (n+2) b 288 [x] h=some (.sc (.bool (W5 (FG x))),h):=by
 refine fU f288 [.tmp 2] rfl rfl ?_ b h;have ae:=λb h=>NT n b x h hs
 have af:=λb h=>NR n b h
 unfold W5;generalize n+1=M at ae af|-;generalize FG x=u at ae|-;have hl:uQ.length<=1000000000000000:=by decide
 have hg:=iW uQ;have hq:=cI uQ;generalize uQ=l at hl hg hq af|-;generalize eE l=cq at hg hq af;generalize hT:(l.any λw=>dn w u)=T;simp[f288,ae,af];generalize cU:M (.loop _) _=XX;refine gk cU (λi st _=>((l.drop i).any λw=>dn w u)=T/\st.length=21/\gt st 3=u/\gt st 4= .ls 1 cq false/\gt st 5=i)
  (λo st _=>st.length=21/\((o= .exit 0/\T=false)\/(o= .ret/\T=true/\gt st 2=true))) l.length (by simp;omega) ⟨hT,by simp⟩ ?_ ?_
 .rintro i fr hp cP ⟨hT,cp,h3,h4,h5⟩;rcases dY hg cP with⟨x,hi,hx,hr,cC⟩|rfl
  .rw[nY hx]at hT;have hf:=cz (Yj cP hl);cases hw:dn x u
   .rw[hw,Bool.false_or]at hT;simp[cp,h3,h4,h5,hi,hq,cC,hw,hf];simpa using hT
   .rw[hw,Bool.true_or]at hT;subst hT;simp[cp,h3,h4,h5,hi,hq,cC,hw]
  .rw[Yc]at hT;subst hT;simp[cp,h4,h5,hq]
 .rintro o cG h' rfl ⟨cp,⟨rfl,rfl⟩|⟨rfl,rfl,h2⟩⟩
  .simp[cp]
  .simp[h2]
def NV(n:Nat)(b:Bool)(op:Int)(h:Hp):cu cx (n+1) b 325 [op] h=some (.sc (.bool (jP op)),h):=by
 refine fU f325 [.tmp 2] rfl rfl ?_ b h;unfold jP;by_cases c2:op=2
 .subst c2;simp[f325]
 by_cases c3:op=3
 .subst c3;simp[f325]
 by_cases c4:op=4
 .subst c4;simp[f325]
 by_cases c5:op=23
 .subst c5;simp[f325]
 by_cases c6:op=24
 .subst c6;simp[f325]
 simp[f325,c2,c3,c4,c5,c6]
def NW(n:Nat)(b:Bool)(op k n' d:Int)(s:ByteArray)(r q:List LA)(z z':Bool)(nm:ByteArray)(ds:Bool)(h:Hp):cu cx (n+2) b 230 [.ag [op,k,n',d,s,.ls 5 r z,nm,ds,.ls 9 q z']] h=some (.sc (.bool (CW op (lf k n' d s r.length) nm ds q.length)),h):=by
 refine fU f230 [.tmp 2] rfl rfl ?_ b h;have fb:=λb h=>F_ n b k n' d s r z h
 generalize n+1=M,lf k n' d s r.length=bl at fb|-;unfold CW;generalize hq:q.length=m;by_cases c1:op=0
 .subst c1;cases bl
  .simp[f230,fb]
  cases he:dn nm ⟨#[]⟩
  .simp[f230,fb,he]
  cases ds
  .by_cases c2:m=0
   .have BM:(m:Int)=0:=by omega
    simp[f230,hq,fb,he,c2]
   .have BM:¬(m:Int)=0:=by omega
    simp[f230,hq,fb,he,c2]
  .simp[f230,fb,he]
 .simp[f230,c1]
def Hz(n D:Nat)(b:Bool)(e:Ep)(h:Hp)(be:ke D e):cu cx (n+2) b 230 [.ag (cM e)] h=some (.sc (.bool (Lf e)),h):=by
 obtain⟨op,v,nm,ds,ks⟩:=e;obtain⟨k,n',d,s,l,rfl,_,_⟩:=Jz be;rw[jO rfl,Lf];have f:=NW n b op k n' d s (fj l) (cZ ks) false false nm ds h;rw[dS,cX]at f;exact f
def HA(n:Nat)(b:Bool)(q:Int)(h:Hp):cu cx (n+1) b 308 [.sc (.int .u8 q)] h=some (.sc (.bool (z7 q)),h):=by
 refine fU f308 [.tmp 2] rfl rfl ?_ b h;unfold z7;by_cases h1:97<=q
 .by_cases h2:q<=122
  .simp[f308,h1,h2]
  .simp[f308,h1,h2,show 65<=q by omega,show¬q<=90 by omega]
 .by_cases h2:65<=q
  .by_cases h3:q<=90<;>simp[f308,h1,h2,h3]
  .simp[f308,h1,h2]
def NY(n:Nat)(b:Bool)(x:ByteArray)(h:Hp):cu cx (n+2) b 287 [x] h=some (.sc (.bool (qX x)),h):=by
 refine fU f287 [.tmp 2] rfl rfl ?_ b h;have ik:=pN x;have gI:=λb q h=>HA n b q h
 unfold qX;rcases z8 x with⟨z0,z1,z2⟩|⟨c0,z0,z1,z2,z3⟩
 .simp[f287,z0]
 have z1':∀k,x.data[0]'k=c0:=λk=>by obtain⟨_,e⟩:=Za.1 z1;exact e
 clear z3;have z5:¬(x.size:Int)<1:=by omega
 by_cases K8:(x.size:Int)<=20
 rotate_left
 .simp[f287,z0,z5,show 20< (x.size:Int) by omega,K8]
 have Qy:¬20< (x.size:Int):=by omega
 obtain⟨q0,IG⟩:∃q:Int,q=c0.toNat:=⟨_,rfl⟩;have rO:=λb h=>gI b q0 h
 cases ki:z7 q0
 .simp[f287,z0,z1',z5,K8,Qy,<-IG,rO,ki]
 simp[f287,z0,z1',z5,K8,Qy,<-IG,rO,ki];refine ve
  (λj s _=>j+1<=x.size/\gR x 1=gR x (j+1)/\s.length=47/\gt s 0=x/\gt s 3= .sc (.int .i64 (j+1:Nat)))
  (λo s _=>s.length=47/\((o= .exit 0/\gR x 1=true)\/(o= .ret/\gR x 1=false/\gt s 2=false))) x.size (by simp;omega) (by simp;omega) ?_ ?_
 .rintro j fr h cP ⟨xY,ho,cp,h0,h3⟩;by_cases hi:j+1<x.size
  .obtain⟨c,hc⟩:∃c,x.data.toList[j+1]?=some c:=⟨_,Zb (by omega)⟩;rw[ux hc]at ho;have hf:dA .i64 (((j+1:Nat):Int)+1)=((j+1+1:Nat):Int):=cK (by omega) (by omega);have z_:∀k,x.data[j+1]'k=c:=λk=>by obtain⟨_,e⟩:=Za.1 hc;exact e
   obtain⟨q,hq⟩:∃q:Int,q=c.toNat:=⟨_,rfl⟩;have jB:tX c=vE q:=by rw[hq];rfl
   rw[jB]at ho;clear jB;have Qz:=λb h=>gI b q h
   unfold vE at ho;generalize hjj:((j+1:Nat):Int)=J at h3 hf;have QU:J.toNat=j+1:=by omega
   have QV:0<=J:=by omega
   have vH:J< (x.size:Int):=by omega
   cases hl:z7 q
   .by_cases c1:q<48
    .have z:gR x 1=false:=by rw[ho,hl];simp;omega
     clear ho;simp[cp,h0,h3,QV,QU,vH,hc,<-hq,Qz,hl,c1,show¬q=95 by omega,z]
    .by_cases c2:57<q
     .by_cases c3:q=95
      .have z:gR x 1=gR x (j+1+1):=by rw[ho,hl];simp[c3]
       clear ho;subst c3;simp[cp,h0,h3,QV,QU,vH,hc,<-hq,Qz,hl,hf]
       and_intros<;>first|omega|assumption
      .have z:gR x 1=false:=by rw[ho,hl];simp;omega
       clear ho;simp[cp,h0,h3,QV,QU,vH,hc,<-hq,Qz,hl,c1,c2,c3,z]
     .have z:gR x 1=gR x (j+1+1):=by rw[ho,hl];simp[show 48<=q by omega,show q<=57 by omega]
      clear ho;simp[cp,h0,h3,QV,QU,vH,hc,<-hq,Qz,hl,c1,c2,show¬q=95 by omega,hf]
      and_intros<;>first|omega|assumption
   .have z:gR x 1=gR x (j+1+1):=by rw[ho,hl];simp
    clear ho;simp[cp,h0,h3,QV,QU,vH,hc,<-hq,Qz,hl,hf]
    and_intros<;>first|omega|assumption
  .have hz:gR x 1=true:=by rw[ho,CP x (j+1) (by omega)]
   have vH:¬((j+1:Nat):Int)< (x.size:Int):=by omega
   generalize((j+1:Nat):Int)=J at h3 vH;simp[cp,h0,h3,vH,hz]
 .rintro o fr h hn ⟨cp,⟨rfl,hz⟩|⟨rfl,hz,h2⟩⟩
  .simp[cp,hz]
  .simp[h2,hz]
def Si{u rest:List UInt8}(h:(32:UInt8)∉u):(u++32::rest).takeWhile (· !=32)=u:=by
 induction u with
 |nil=>simp
 |cons a u ih=>
  have ha:(a !=32)=true:=by simpa using λe=>h (by simp[e])
  rw[Zv,List.takeWhile_cons,cw ha,ih (λq=>h (Yr _ q))]
def ad3(i:Nat):Bool:=((tZ.drop i).head? !=some 32)||(((tZ.drop (i+1)).takeWhile (· !=32)).isEmpty||uQ.any λw=>w.data.toList==(tZ.drop (i+1)).takeWhile (· !=32))
def Sj :(List.range 220).all ad3=true:=by kernel_rfl
def W6 :(uQ.all λw=>Lib.contains tZ (32::(w.data.toList++[32])))=true:=by kernel_rfl
def NZ :tZ.length<220:=by decide
def Sk(u:List UInt8)(h:(32:UInt8)∉u)(h0:u≠ []):Lib.contains tZ (32::(u++[32]))=uQ.any λw=>w.data.toList==u:=by
 cases hr:uQ.any λw=>w.data.toList==u with
 |
  true=>
  obtain⟨w,hw,e⟩:=List.any_eq_true.1 hr;have:=Yp.1 W6 w hw;rw[eq_of_beq e]at this;exact this
 |
  false=>
  unfold Lib.contains;rcases Lib.index_spec tZ (32::(u++[32]))with⟨h1,_⟩|⟨i,h1,h2,h3,_⟩
  .rw[h1];rfl
  .exfalso;unfold Lib.occAt at h3;obtain⟨r,oL⟩:=List.isPrefixOf_iff_prefix.1 h3;have hi:i<220:=by have:=NZ;omega
   have hs:=Yp.1 Sj i (List.mem_range.2 hi);have hd:tZ.drop (i+1)=u++32::r:=by
    rw[<-List.drop_drop,<-oL];simp
   unfold ad3 at hs;rw[hd,Si h,hr,<-oL]at hs;simp[h0]at hs
def A4{x:ByteArray}(h:qX x=true):x.size<=20/\x.data.toList≠ []/\∀c∈x.data.toList,tX c=true:=by
 unfold qX at h;simp only[Zh,Zy]at h;obtain⟨⟨h1,h2⟩,h3⟩:=h;unfold gR at h3;cases hl:x.data.toList with
 |nil=>rw[hl]at h2;simp at h2
 |cons c l=>
  rw[hl]at h2 h3;simp only[List.getElem?_cons_zero]at h2;refine⟨by omega,by simp,λd hd=>?_⟩;rcases Yv.1 hd with rfl|hd
  .unfold tX vE;rw[h2];rfl
  .exact Yp.1 h3 d hd
def abG{c:UInt8}(h:tX c=true):wK c≠32:=by
 intro e;unfold wK at e;split at e
 .rename_i q;have:=congrArg UInt8.toNat e;rw[UInt8.toNat_ofNat']at this;have h32:(32:UInt8).toNat=32:=rfl;omega
 .subst e;exact absurd h (by decide)
def W7{c:UInt8}(h:tX c=true):c≠32:=λe=>by subst e;exact absurd h (by decide)
def Sl{x:ByteArray}(h:qX x=true):QO x=W5 (FG x):=by
 obtain⟨_,h0,hc⟩:=A4 h;unfold QO W5;have e1:dn x ⟨#[]⟩=false:=by
  unfold dn;simpa using h0
 have e2:Lib.contains x.data.toList MY.data.toList=false:=by
  unfold Lib.contains;rcases Lib.index_spec x.data.toList MY.data.toList with⟨h1,_⟩|⟨i,_,_,h3,_⟩
  .rw[h1];rfl
  .exfalso;unfold Lib.occAt at h3;obtain⟨r,hr⟩:=List.isPrefixOf_iff_prefix.1 h3;have:(32:UInt8)∈x.data.toList:=List.mem_of_mem_drop (i:=i) (by rw[<-hr];simp[MY]);exact W7 (hc _ this) rfl
 have e3:(MY++FG x++MY).data.toList=32::((FG x).data.toList++[32]):=by simp[MY]
 have e4:(FG x).data.toList=x.data.toList.map wK:=by unfold FG;simp
 rw[e1,e2,e3,Sk _ (by
  rw[e4];intro q;obtain⟨c,hm,e⟩:=Yf.1 q;exact abG (hc c hm) e) (by rw[e4];simpa using h0)]
 simp only[Bool.not_false,Bool.true_and];rfl
def sC(n:Nat)(b:Bool)(x:ByteArray)(h:Hp):cu cx (n+3) b 233 [x] h=some (.sc (.bool (dt x)),h):=by
 refine fU f233 [.tmp 2] rfl rfl ?_ b h;have ae:=λb h=>NY n b x h
 unfold dt;cases hn:qX x with
 |
  false=>
  rw[hn]at ae;simp[f233,ae]
 |
  true=>
  have af:=λb h=>EW n b x h (by have:=(A4 hn).1;omega)
  rw[hn]at ae;rw[Sl hn];simp[f233,ae,af]
def Sm(n:Nat)(b:Bool)(x:ByteArray)(h:Hp):cu cx (n+4) b 303 [x] h=some (.sc (.bool (dn x ⟨#[]⟩||dt x)),h):=by
 refine fU f303 [.tmp 2] rfl rfl ?_ b h;have ae:=λb h=>sC n b x h
 cases he:dn x ⟨#[]⟩
 .simp[f303,ae,he]
 .simp[f303,he]
def De(n:Nat)(b:Bool)(l:List ByteArray)(z:Bool)(h:Hp)(hl:l.length<=1000000000000000):cu cx (n+4) b 235 [.ls 1 (eE l) z] h=some (.sc (.bool (l.all dt)),h):=by
 refine fU f235 [.tmp 2] rfl rfl ?_ b h;have ae:=λx b h=>sC n b x h
 generalize n+3=M at ae|-;have hg:=iW l;have hq:=cI l;generalize eE l=cq at hg hq|-;generalize hT:l.all dt=T;simp[f235];generalize cU:M (.loop _) _=XX;refine gk cU (λi st _=>(l.drop i).all dt=T/\st.length=16/\gt st 0= .ls 1 cq z/\gt st 3=i)
  (λo st _=>st.length=16/\((o= .exit 0/\T=true)\/(o= .ret/\T=false/\gt st 2=false))) l.length (by simp;omega) ⟨hT,by simp⟩ ?_ ?_
 .rintro i fr hp cP ⟨hT,cp,h0,h3⟩;rcases dY hg cP with⟨x,hi,hx,hr,cC⟩|rfl
  .obtain⟨k,e⟩:=Za.1 hx;rw[Zm k,e,Zn]at hT;have hf:=cz (Yj cP hl);have ae:=ae x;cases hw:dt x
   .rw[hw,Bool.false_and]at hT;rw[hw]at ae;subst hT;simp[cp,h0,h3,hi,hq,cC,ae]
   .rw[hw,Bool.true_and]at hT;rw[hw]at ae;simp[cp,h0,h3,hi,hq,cC,ae,hf];simpa using hT
  .rw[Yc]at hT;subst hT;simp[cp,h0,h3,hq]
 .rintro o cG h' rfl ⟨cp,⟨rfl,rfl⟩|⟨rfl,rfl,h2⟩⟩
  .simp[cp]
  .simp[h2]
def abH(op:Int)(oo sp co nn ag:Bool):Int:=
 if op<1\/24<op then 1 else if oo=false then 1 else if sp=false then 1 else if op=1/\co=false then 8 else if nn=true then 6 else if op=24/\ag=true then 9 else 0
def N0 :Ep->Bool->Int
 | .mk op v nm ds ks,ag=>abH op (Eo op nm ds ks.length) (uA op (mR v) nm ds) (uB v.k (mR v) (k_ v)) (me op nm) ag
def Sn(op:Int)(v:V)(nm:ByteArray)(ds:Bool)(ks:List Ep)(ag:Bool):rv (.mk op v nm ds ks) ag=if N0 (.mk op v nm ds ks) ag=0 then rX ks (ag||decide (op=24))else N0 (.mk op v nm ds ks) ag:=by
 rw[rv,N0];unfold abH;by_cases h1:op<1\/24<op
 .rw[cw h1,cw h1];simp
 rw[cv h1,cv h1];by_cases h2:Eo op nm ds ks.length=false
 .rw[cw h2,cw h2];simp
 rw[cv h2,cv h2];by_cases h3:uA op (mR v) nm ds=false
 .rw[cw h3,cw h3];simp
 rw[cv h3,cv h3];by_cases h4:op=1/\uB v.k (mR v) (k_ v)=false
 .rw[cw h4,cw h4];simp
 rw[cv h4,cv h4];by_cases h5:me op nm=true
 .rw[cw h5,cw h5];simp
 rw[cv h5,cv h5];by_cases h6:op=24/\ag=true
 .rw[cw h6,cw h6];simp
 rw[cv h6,cv h6];simp
def Sq(N D:Nat)(b:Bool)(e:Ep)(ag:Bool)(h:Hp)(be:ke D e):cu cx (N+2*D+8) b 307 [.ag (cM e),ag] h=some (.sc (.int .i64 (N0 e ag)),h):=by
 have dL:[AV.ag (cM e),.sc (.bool ag)].all calm=true:=by rw[Zn,dR];rfl
 refine fU (n:=N+2*D+7) f307 [.tmp 4] dL rfl ?_ b h;obtain⟨op,v,nm,ds,ks⟩:=e;have hv:=be;rw[ke]at hv;have fv:=λb h=>pF (N+3) D v hv.1.1 (Ad hv.1.2) b h
 rw[show N+3+2*D+4=N+2*D+7 by omega]at fv;unfold jq at fv;obtain⟨k,n',d',s,l,rfl,hs,qg⟩:=Jz be;have e1:enc (.mk k n' d' s false l)=[.sc (.int .i64 k),.sc (.int .i64 n'),.sc (.int .i64 d'),.sc (.string s),.ls 5 (fj l) false]:=by rw[enc];rfl
 rw[e1]at fv;have fo:=λb h=>Er (N+2*D+5) b op k n' d' s (fj l) (cZ ks) false false nm ds h
 have fz:=λb h=>F_ (N+2*D+6) b k n' d' s (fj l) false h
 have fn:=λb h=>NV (N+2*D+6) b op h
 have fw:=λb h=>sC (N+2*D+4) b nm h
 have fa:=λb h=>Cd (N+2*D+6) b nm h
 have fr:=λb h=>CU (N+2*D+6) b nm h
 rw[show N+2*D+5+2=N+2*D+7 by omega]at fo;rw[show N+2*D+6+1=N+2*D+7 by omega]at fz fn fa fr;rw[show N+2*D+4+3=N+2*D+7 by omega]at fw;rw[jO rfl,N0];have FT:lf k n' d' s (fj l).length=mR (.mk k n' d' s false l):=by rw[dS];rfl
 rw[FT]at fz;rw[cX]at fo;have haz:=Ag nm;simp only[V.k];generalize cZ ks=cq at fo|-;generalize fj l=r5 at fv fo fz|-;generalize mR (.mk k n' d' s false l)=bl at fz|-;generalize k_ (.mk k n' d' s false l)=ok at fv|-;generalize Eo op nm ds ks.length=oo at fo|-;generalize N+2*D+7=M at fv fo fz fn fw fa fr|-;unfold me uA uB;generalize dt nm=w at fw|-;generalize Em nm=a at fa|-;generalize mN nm=ar at fr haz|-;obtain⟨lo,hi⟩:=ar;simp only at haz fr;generalize L0:dn nm ⟨#[]⟩=he;unfold abH;by_cases c1:op<1
 .simp[f307,c1]
 by_cases c2:24<op
 .simp[f307,c1,c2]
 cases oo
 .simp[f307,c1,c2,fo]
 by_cases rP:op=24
 .subst rP;have PG:∀b h,cu cx M b 325 [(24:Int)] h=some ((true:AV),h):=fn;cases ds<;>cases he<;>cases bl<;>cases a<;>cases ag<;>simp[f307,fo,PG,fz,fa,L0,jP]
 cases ds
 rotate_left
 .simp[f307,c1,c2,fo,rP]
 by_cases q1:op=1
 .subst q1;have PG:∀b h,cu cx M b 325 [(1:Int)] h=some ((false:AV),h):=fn;cases he
  .simp[f307,fo,PG,L0,jP]
  cases bl
  .cases ok
   .simp[f307,fo,fz,fv,L0,jP]
   .by_cases k1:k=1
    .subst k1;simp[f307,fo,fz,fv,L0,jP]
    by_cases k2:k=2
    .subst k2;simp[f307,fo,fz,fv,L0,jP]
    by_cases k4:k=4
    .subst k4;simp[f307,fo,fz,fv,L0,jP]
    simp[f307,fo,fz,fv,L0,jP,k1,k2,k4]
  .simp[f307,fo,fz,L0,jP]
 by_cases q2:op=2
 .subst q2;have PG:∀b h,cu cx M b 325 [(2:Int)] h=some ((true:AV),h):=fn;cases he<;>cases bl<;>cases w<;>simp[f307,fo,PG,fz,fw,L0,jP]
 by_cases q3:op=3
 .subst q3;have PG:∀b h,cu cx M b 325 [(3:Int)] h=some ((true:AV),h):=fn;cases he<;>cases bl<;>cases w<;>simp[f307,fo,PG,fz,fw,L0,jP]
 by_cases q4:op=4
 .subst q4;have PG:∀b h,cu cx M b 325 [(4:Int)] h=some ((true:AV),h):=fn;cases he<;>cases bl<;>cases w<;>simp[f307,fo,PG,fz,fw,L0,jP]
 by_cases q23:op=23
 .subst q23;have PG:∀b h,cu cx M b 325 [(23:Int)] h=some ((true:AV),h):=fn;by_cases z:lo=0
  .have z':hi=0:=by rw[haz];exact z
   cases he<;>cases bl<;>simp[f307,fo,PG,fz,fr,L0,jP,z,z']
  .have z':¬hi=0:=by rw[haz];exact z
   cases he<;>cases bl<;>simp[f307,fo,PG,fz,fr,L0,jP,z,z']
 have hn:jP op=false:=by simp[jP,q2,q3,q4,q23,rP]
 rw[hn]at fn;rw[hn];cases he<;>cases bl<;>simp[f307,c1,c2,fo,fn,fz,L0,q1,q2,q3,q4,q23,rP]
def N3(N D:Nat):∀(d:Nat)(e:Ep),lE e<=d->ke D e->∀ag b h,cu cx (N+2*D+8+d) b 286 [.ag (cM e),.sc (.bool ag)] h=some (.sc (.int .i64 (rv e ag)),h):=by
 intro d
 induction d with
 |zero=>intro e h;have:=jU e;omega
 |succ d ih=>
  intro e de be ag b h;have dL:[AV.ag (cM e),.sc (.bool ag)].all calm=true:=by rw[Zn,dR];rfl
  refine fU (n:=N+2*D+8+d) f286 [.tmp 4] dL rfl ?_ b h;have ho:∀x∈e.ks,∀ag b h,cu cx (N+2*D+8+d) b 286 [.ag (cM x),.sc (.bool ag)] h=some (.sc (.int .i64 (rv x ag)),h):=λx hx=>ih x (kU de hx) (mQ be hx)
  have fs:=λb h=>Sq (N+d) D b e ag h be
  rw[show N+d+2*D+8=N+2*D+8+d by omega]at fs;obtain⟨op,v,nm,ds,ks⟩:=e;simp only[Ep.ks]at ho;rw[Sn];generalize N0 (.mk op v nm ds ks) ag=s0 at fs|-;obtain⟨k,n',d',s,l,rfl,hs,qg⟩:=Jz be;rw[jO rfl]at fs|-;have hq:=cX ks;have hg:=eM ks;generalize cZ ks=cq at hq hg fs|-;generalize fj l=r5 at fs|-;generalize N+2*D+8+d=M at ho fs|-;by_cases hs0:s0=0
  rotate_left
  .rw[cv hs0];simp[f286,fs,hs0]
  rw[cw hs0];subst hs0;generalize hT:rX ks (ag||decide (op=24))=T;simp[f286,fs];generalize cU:M (.loop _) _=XX;refine gk cU (λi st cD=>rX (ks.drop i) (ag||decide (op=24))=T/\st.length=36/\gt st 1= .sc (.bool ag)/\gt st 2= .pt 0 0/\gt st 6=i/\cD[0]?=some (.row [op,k,n',d',s,.ls 5 r5 false,nm,ds,.ls 9 cq false]))
   (λo st _=>st.length=36/\((o= .exit 0/\T=0)\/(o= .ret/\gt st 4=T))) ks.length (by simp;omega) ⟨hT,by simp⟩ ?_ ?_
  .rintro i fr hp cP ⟨hT,cp,h1,h2,h6,hh⟩;rcases dY hg cP with⟨x,hi,hx,hr,cC⟩|rfl
   .have hw:=λb h=>ho x (Zi hx) (ag||decide (op=24)) b h
    have hf:=cz (Yj cP qg);have dH:=cB x;have dO:=sZ (ag||decide (op=24)) hx;rw[hT]at dO;generalize cM x=ev at hr cC hw dH;have dJ:ev.take 9=ev:=Yy (by omega);have mZ:=rW dH;generalize rv x (ag||decide (op=24))=w at hw dO;by_cases Ce:w=0
    .rw[cw Ce]at dO;subst Ce;cases ag
     .by_cases rP:op=24
      .subst rP;simp only[decide_true,Bool.or_true]at hw dO;simp[cp,h1,h2,h6,hh,hi,hq,cC,hw,dH,dJ,hf];exact dO.symm
      .simp only[rP,decide_false,Bool.or_false]at hw dO;simp[cp,h1,h2,h6,hh,hi,hq,cC,hw,dH,dJ,hf,rP];exact dO.symm
     .simp only[Bool.true_or]at hw dO;simp[cp,h1,h2,h6,hh,hi,hq,cC,hw,dH,dJ,hf];exact dO.symm
    .rw[cv Ce]at dO;subst dO;cases ag
     .by_cases rP:op=24
      .subst rP;simp only[decide_true,Bool.or_true]at hw;simp[cp,h1,h2,h6,hh,hi,hq,cC,hw,dH,dJ,Ce]
      .simp only[rP,decide_false,Bool.or_false]at hw;simp[cp,h1,h2,h6,hh,hi,hq,cC,hw,dH,dJ,rP,Ce]
     .simp only[Bool.true_or]at hw;simp[cp,h1,h2,h6,hh,hi,hq,cC,hw,dH,dJ,Ce]
   .rw[Yc,rX]at hT;subst hT;simp[cp,h2,h6,hh,hq]
  .rintro o cG h' rfl ⟨cp,⟨rfl,rfl⟩|⟨rfl,h4⟩⟩
   .simp[cp]
   .simp[h4]
def pw(N D d:Nat)(b:Bool)(e:Ep)(h:Hp)(de:lE e<=d)(be:ke D e):cu cx (N+2*D+9+d) b 232 [.ag (cM e)] h=some (.sc (.int .i64 (fM e)),h):=by
 have dL:[AV.ag (cM e)].all calm=true:=by rw[Zn,dR];rfl
 rw[show N+2*D+9+d=N+2*D+8+d+1 by omega];refine fU (n:=N+2*D+8+d) f232 [.tmp 2] dL rfl ?_ b h;have ae:=λb h=>MX D d e de be (N+2*D+7) b h
 have af:=λb h=>Ge D d e de be (N+2*D+7) b h
 have ah:=λb h=>N3 N D d e de be false b h
 rw[show N+2*D+7+d+1=N+2*D+8+d by omega]at ae af;unfold fM;have dH:=cB e;generalize N+2*D+8+d=M at ae af ah|-;generalize Jy e=dp at ae|-;generalize xV e=sz at af|-;generalize rv e false=vi at ah|-;generalize cM e=ev at ae af ah dH|-;have dJ:ev.take 9=ev:=Yy (by omega);by_cases c1:24<dp
 .simp[f232,ae,dH,dJ,c1]
 by_cases c2:300<sz
 .simp[f232,ae,af,dH,dJ,c1,c2]
 simp[f232,ae,af,ah,dH,dJ,c1,c2]
end
end Go.Proofs.YtmocfjnklfpnbaaGreatDoor
