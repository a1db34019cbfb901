/- Part of the proof. -/
import Derived.Calls
import Derived.StepT
import GoSem.Step
import Derived.Test.YtmfohnojaginjaaGreatDoorP32
import Derived.StringKeys
import Derived.WalkKit
import Derived.Lib.Walk
import Derived.Lib.SliceRun
import Derived.Lib.AppendZerosOnto
import Derived.Lib.Overlaps
import Derived.Laws.Externs
import Derived.Laws.IdiomCopy
import Derived.Shelf.RegionOpenPlain
set_option linter.all false
set_option maxRecDepth 100000
namespace Go.Ae
open Go
def age{α:Type}:Result α->World
 | .ok _ w=>w
 | .halt _ w=>w
def LQ{α:Type}:∀(a:Ask α)(w:World),w.drawn<=(w.ask a).2.drawn
 | .done a,w=>by unfold World.ask;exact Xc _
 |
  .ask what range k,w=>by
  unfold World.ask;simp only;split
  .exact LQ (k 0) w
  .exact Yp (Yv _) (LQ (k _) {w with drawn:=w.drawn+1})
def ad2(w:World)(c:Sys):w.drawn<=(w.sys c).2.drawn:=by
 unfold World.sys;have:=LQ (Kernel.perform c w.os) w;split
 .exact Xc _
 .rename_i h;rw[h]at this;exact this
def Gh{w w':World}{p:Program}{at_:Addr}{u:TypeId}{a:Addr}{v:Value}{b:Bool}{c:List Addr}(h:w.viewStore p at_ u a v b= .ok (w',c)):w'.drawn=w.drawn:=by
 unfold World.viewStore at h;simp only[bind,Except.bind,pure,Except.pure]at h
 repeat' first
  |(cases h;done)
  |(simp only[Except.ok.injEq,Zg]at h;obtain⟨rfl,_⟩:=h;rfl)
  |split at h
def Jj{w w':World}{p:Program}{a:Addr}{v:Value}{b:Bool}{c:List Addr}(h:w.farStore p a v b= .ok (w',c)):w'.drawn=w.drawn:=by
 unfold World.farStore at h;split at h
 .split at h
  .rename_i q;cases h;exact Gh q
  .cases h
 .cases h
def QQ(w:World)(a:Addr)(n:Nat):(w.freeze a n).drawn=w.drawn:=by
 unfold World.freeze;split<;>rfl
def jW{α:Type}(p:Program):∀(s:Sem α)(w:World),w.drawn<=(age (s.run p w)).drawn
 | .pure a,w=>Xc _
 |
  .load m a k,w=>by
  unfold Sem.run;split
  .exact jW p _ w
  .split
   .exact jW p _ w
   .exact Xc _
 |
  .store m a v k,w=>by
  have hn:∀v,w.drawn<=(age (match w.cell? a with
   |some _=>if w.frozen? a then Result.halt (.unsupported (.unsafePointer "a write to bytes that a string shares")) w else k.run p (w.setCell a v)
   |
    none=>match w.farStore p a v (m== .atomic)with
    | .ok (w,_)=>k.run p w
    | .error h=> .halt h w)).drawn:=λv=>by
   split
   .split
    .exact Xc _
    .exact jW p k (w.setCell a v)
   .split
    .rename_i h;rw[<-Jj h];exact jW p k _
    .exact Xc _
  cases v
  all_goals first
   |exact Xc _
   |(unfold Sem.run;exact hn _)
 | .new o k,w=>jW p (k w.heap.size) {w with heap:=w.heap.push o}
 | .shape r k,w=>jW p (k (w.shape? r)) w
 |
  .freeze a n k,w=>by
  have:=jW p k (w.freeze a n);rw[QQ]at this;exact this
 | .frozen a k,w=>jW p (k (w.frozen? a)) w
 |
  .getObj r k,w=>by
  unfold Sem.run;split
  .exact Xc _
  .exact jW p _ w
  .exact Xc _
 |
  .setObj r o k,w=>by
  unfold Sem.run;split
  .exact Xc _
  .exact jW p k {w with heap:=w.heap.setIfInBounds r o}
  .exact Xc _
 |
  .choose q k,w=>by
  unfold Sem.run;split
  .exact jW p _ w
  .exact Yp (Yv _) (jW p (k _) {w with drawn:=w.drawn+1})
 | .sys c k,w=>Yp (ad2 w c) (jW p (k (w.sys c).1) (w.sys c).2)
 | .program k,w=>jW p (k p) w
 | .mark _ k,w=>jW p k w
 | .halt h,w=>Xc _
def dU{α:Type}{p:Program}{s:Sem α}{w w':World}{a:α}(h:s.run p w= .ok a w'):w.drawn<=w'.drawn:=by
 have:=jW p s w;rw[h]at this;exact this
def run_halt{α:Type}{p:Program}{s:Sem α}{w w':World}{a:Halt}(h:s.run p w= .halt a w'):w.drawn<=w'.drawn:=by
 have:=jW p s w;rw[h]at this;exact this
def pd(w:World):GStep->Prop
 | .go _ w' _=>w.drawn<=w'.drawn
 | .comm _ _ _ _ w' _=>w.drawn<=w'.drawn
 | .spawn _ _ w' _=>w.drawn<=w'.drawn
 | .count _ w' _=>w.drawn<=w'.drawn
 | .timer _ _ w' _=>w.drawn<=w'.drawn
 | .alone _ _ w' _=>w.drawn<=w'.drawn
 | .newcoro _ _ _ w' _=>w.drawn<=w'.drawn
 | .coroswitch _ _ _ w' _=>w.drawn<=w'.drawn
 | .collect _ w' _=>w.drawn<=w'.drawn
 | .watch _ w' _=>w.drawn<=w'.drawn
 | .ended _ _ _=>True
def pd.up{w w':World}{s:GStep}(h:pd w' s)(hw:w.drawn<=w'.drawn):pd w s:=by
 cases s<;>first|trivial|exact Yp hw h
@[simp] def mI{w:World}{s:GStep}(es:Array Event):pd w (GStep.after es s)↔pd w s:=by
 cases s<;>exact Iff.rfl
def LR(w:World)(fd:Nat)(t:ByteArray)(o:Outcome):pd w (endWith w fd t o):=by
 unfold endWith;simp only
 repeat' first
  |trivial
  |split
def pM(fr:Frame)(m:String)(w:World):pd w (endThrow fr m w):=Xc _
def uj(p:Program)(fr:Frame)(v:Value)(w:World):pd w (endPrinting p fr v w):=by
 unfold endPrinting;simp only
 repeat' first
  |trivial
  |exact pM _ _ _
  |split
def zF(p:Program)(fr:Frame)(cs:List Frame)(d:Option Dying)(m:String)(w:World):pd w (endFatal p fr cs d m w):=by
 unfold endFatal;simp only;generalize(match d,((fr::cs).filter (·.fn<p.funcs.size)).flatMap λf=>match f.mode with| .panicking c=>c|_=> []with
  |none,[]=>_
  |none,e::older=>_
  |some d,[]=>_
  |some _,_::_=>_:Sem (List (ByteArray × String) × List ByteArray))=s
 split
 .rename_i h;exact dU h
 .trivial
 .trivial
def LS(p:Program)(fr:Frame)(d:Dying)(f:Fatal)(w:World):pd w (writeOn p fr d f w):=by
 unfold writeOn;simp only[Sem.runT_eq];split
 .trivial
 .split
  .rename_i h;simp only[Zg]at h;exact dU h.1
  .rename_i h;simp only[Zg]at h;exact run_halt h.1
  .trivial
  .trivial
def ad3(p:Program)(fr:Frame)(d:Dying)(w:World):pd w (die p fr d w):=by
 unfold die;simp only[Sem.runT_eq]
 repeat' first
  |trivial
  |exact LS _ _ _ _ _
  |exact LR _ _ _ _
  |exact Xc _
  |(rename_i h;exact dU h)
  |(rename_i h _;exact dU h)
  |(rename_i h _ _;exact dU h)
  |(rename_i h _ _ _;exact dU h)
  |(rename_i h _ _ _ _;exact dU h)
  |(rename_i h _ _ _ _ _;exact dU h)
  |(rename_i h _ _ _ _ _ _;exact dU h)
  |(rename_i h _ _ _ _ _ _ _;exact dU h)
  |(rename_i h _ _ _ _ _ _ _ _;exact dU h)
  |(rename_i h;exact(uj _ _ _ _).up (run_halt h))
  |simp only[mI]
  |split
def Jk(p:Program)(fr:Frame)(cs:List Frame)(d:Option Dying)(g:Nat)(w:World):pd w (early p fr cs d g w):=by
 unfold early;simp only
 repeat' first
  |trivial
  |exact Xc _
  |(rename_i h;exact dU h)
  |(rename_i h _;exact dU h)
  |(rename_i h _ _;exact dU h)
  |(rename_i h _ _ _;exact dU h)
  |(rename_i h _ _ _ _;exact dU h)
  |(rename_i h _ _ _ _ _;exact dU h)
  |(rename_i h _ _ _ _ _ _;exact dU h)
  |(rename_i h _ _ _ _ _ _ _;exact dU h)
  |(rename_i h _ _ _ _ _ _ _ _;exact dU h)
  |(rename_i h _ _ _ _;have:=dU h;exact this)
  |simp only[mI]
  |split
def uk(p:Program)(b:Bool)(fr:Frame)(cs:List Frame)(d:Option Dying)(v:Value)(w:World):pd w (doReturn p b fr cs d v w):=by
 unfold doReturn;simp only
 repeat' first
  |trivial
  |exact Xc _
  |split
def Ad(p:Program)(fr:Frame)(cs:List Frame)(d:Option Dying)(df:Deferred)(w:World):pd w (callDeferred p fr cs d df w):=by
 unfold callDeferred;simp only[Sem.runT_eq]
 repeat' first
  |trivial
  |exact Xc _
  |(rename_i h;exact dU h)
  |(rename_i h _;exact dU h)
  |(rename_i h _ _;exact dU h)
  |(rename_i h _ _ _;exact dU h)
  |(rename_i h _ _ _ _;exact dU h)
  |(rename_i h _ _ _ _ _;exact dU h)
  |(rename_i h _ _ _ _ _ _;exact dU h)
  |(rename_i h _ _ _ _ _ _ _;exact dU h)
  |(rename_i h _ _ _ _ _ _ _ _;exact dU h)
  |(rename_i h;exact run_halt h)
  |(rename_i h _;exact run_halt h)
  |(rename_i h _ _;exact run_halt h)
  |(rename_i h;exact(zF _ _ _ _ _ _).up (run_halt h))
  |(rename_i h;exact(pM _ _ _).up (run_halt h))
  |simp only[mI]
  |split
def QR(p:Program)(b:Bool)(fr:Frame)(cs:List Frame)(d:Option Dying)(w:World):pd w (unwind p b fr cs d w):=by
 unfold unwind;simp only[Sem.runT_eq]
 repeat' first
  |trivial
  |exact Xc _
  |exact Ad _ _ _ _ _ _
  |exact uk _ _ _ _ _ _ _
  |exact uj _ _ _ _
  |(rename_i h;exact dU h)
  |(rename_i h _;exact dU h)
  |(rename_i h _ _;exact dU h)
  |(rename_i h;exact(uk _ _ _ _ _ _ _).up (dU h))
  |simp only[mI]
  |split
def Cr(p:Program)(b:Bool)(fr:Frame)(cs:List Frame)(d:Option Dying)(s:Sem Next)(w:World):pd w (stepG.apply p b fr cs d s w):=by
 unfold stepG.apply;have hk:=jW p s w;have h2:(if b=true then s.runT p w #[]else(s.run p w,#[])).1=s.run p w:=by cases b<;>simp[Sem.runT_eq]
 simp only[mI];generalize(if b=true then s.runT p w #[]else(s.run p w,#[]))=re at h2|-;obtain⟨r,es⟩:=re;simp only at h2;subst h2;simp only;generalize s.run p w=r at hk|-;cases r with
 |ok a w'=>
  have lk:w.drawn<=w'.drawn:=hk;cases a<;>(try simp only)<;>repeat' first
   |exact lk
   |exact(pM _ _ _).up lk
   |trivial
   |split
 |halt a w'=>
  have lk:w.drawn<=w'.drawn:=hk;cases a<;>(try simp only)<;>repeat' first
   |exact lk
   |exact(pM _ _ _).up lk
   |exact(zF _ _ _ _ _ _).up lk
   |exact(Jk _ _ _ _ _ _).up lk
   |trivial
   |(rename_i q;cases q;done)
   |(rename_i q;cases q;exact(Jk _ _ _ _ _ _).up lk)
   |split
def aaR(p:Program)(b:Bool)(fr:Frame)(cs:List Frame)(d:Option Dying)(w:World):pd w (stepG.oper p b fr cs d w):=by
 unfold stepG.oper;split
 .trivial
 .split<;>exact Cr _ _ _ _ _ _ _
def aaS{α:Type}{w:World}(o:Option α)(a:GStep)(f:α->GStep)(h0:pd w a)(h:∀x,pd w (f x)):pd w (o.elim a f):=by
 cases o<;>first|exact h0|exact h _
def aaT(p:Program)(main b:Bool)(fr:Frame)(cs:List Frame)(d:Option Dying)(w:World):pd w (stepG.exec p main b fr cs d w):=by
 unfold stepG.exec;simp only[Sem.runT_eq]
 repeat' first
  |trivial
  |exact Xc _
  |exact Cr _ _ _ _ _ _ _
  |exact aaR _ _ _ _ _ _
  |(rename_i h;exact(Cr _ _ _ _ _ _ _).up (dU h))
  |(rename_i h;exact(uk _ _ _ _ _ _ _).up (dU h))
  |(rename_i h;exact dU h)
  |(rename_i h;exact run_halt h)
  |simp only[mI]
  |refine aaS _ _ _ ?_ λ_=>?_
  |split
def VP(p:Program)(main:Bool)(g:Goroutine)(w:World)(b:Bool):pd w (stepG p main g w b):=by
 obtain⟨fr,callers,status,dying,offers⟩:=g;simp only[stepG];split
 .exact ad3 _ _ _ _
 .exact aaT _ _ _ _ _ _ _
 .exact QR _ _ _ _ _ _
def Gi{rest:Rest}{cs:Array CommCase}{w w':World}(h:waitingAt rest cs w=some w'):w'.drawn=w.drawn:=by
 unfold waitingAt at h;split at h
 .split at h
  .cases h;rfl
  .cases h
 .cases h;rfl
def Cs(p:Program)(rest:Rest)(gs:Array Goroutine)(i:Nat)(g:Goroutine)(cases:Array CommCase)(bl:Bool)(sh:CommShape)(w:World)(m':Machine)(h:(communicate p rest gs i g cases bl sh w).1= .next m'):w.drawn<=m'.world.drawn:=by
 unfold communicate at h;simp only[]at h
 repeat' first
  |(simp at h;done)
  |(simp only[Stepped.next.injEq]at h;subst h;exact Xc _)
  |(simp only[Stepped.next.injEq]at h;subst h;rename_i q;exact Nat.le_of_eq (Gi q).symm)
  |(
   simp only[Stepped.next.injEq]at h;subst h;dsimp only
   repeat' first
    |exact Xc _
    |refine Yp ?_ (dU ‹_›)
    |refine Yp ?_ (run_halt ‹_›)
   done)
  |split at h
def look_ok(p:Program)(gs:Array Goroutine)(rest:Rest)(w:World)(m':Machine)(h:look p gs rest w= .next m'):w.drawn<=m'.world.drawn:=by
 unfold look at h;simp only[]at h
 repeat' first
  |(simp at h;done)
  |(simp only[Stepped.next.injEq]at h;subst h;rename_i q;have:=dU q;exact this)
  |split at h
def VQ(w:World)(c:Nat):(drain w c).2.drawn=w.drawn:=by
 unfold drain;split<;>rfl
def QT(m:Machine)(k:Nat)(t:Timer)(a b:Nat):(retime m k t a b).2.world.drawn=m.world.drawn:=by
 unfold retime;cases t.chan with
 |none=>rfl
 |some c=>exact VQ _ _
def Ew{m m':Machine}{k:Nat}{t:Timer}{a b:Nat}{v:Value}(h:retime m k t a b=(v,m')):m'.world.drawn=m.world.drawn:=by
 have:=QT m k t a b;rw[h]at this;exact this
def LU(m m':Machine)(op:TimerOp)(v:Value)(h:timerOp m op= .ok (v,m')):m'.world.drawn=m.world.drawn:=by
 unfold timerOp at h;split at h
 .split at h
  .simp only[Except.ok.injEq,Zg]at h;rw[<-h.2];rfl
  .split at h
   .split at h
    .cases h
    .simp only[Except.ok.injEq,Zg]at h;rw[<-h.2]
   .cases h
 .unfold timerOp.named at h;split at h
  .simp only[Except.ok.injEq]at h;exact Ew h
  .cases h
 .split at h
  .rename_i m2 hm;have e:m2.world.drawn=m.world.drawn:=by
    unfold timerOp.opened at hm;split at hm
    .split at hm
     .cases hm;rfl
     .cases hm
    .cases hm;rfl
   unfold timerOp.named at h;split at h
   .simp only[Except.ok.injEq]at h;rw[<-e];exact Ew h
   .cases h
  .cases h
 .simp only[Except.ok.injEq,Zg]at h;rw[<-h.2];rfl
def Ds{fr:Frame}{m:String}{w w':World}{g:Goroutine}{es:Array Event}(h:endThrow fr m w= .go g w' es):w'=w:=by
 unfold endThrow dieOf at h;simp only[GStep.go.injEq]at h;exact h.2.1.symm
def aaU(p:Program)(m m':Machine)(i:Nat)(b:Bool)(h:(runT p m i b).1= .next m'):m.world.drawn<=m'.world.drawn:=by
 simp only[runT]at h
 revert h
 generalize m.gs.swapAt! _ _=gg
 have hk:=VP p (i==0) gg.1 m.world b
 revert hk
 generalize stepG p _ gg.1 m.world b=s;intro hk h;cases s<;>simp only[]at h
 all_goals first
  |(simp at h;done)
  |exact Yp hk (Cs _ _ _ _ _ _ _ _ _ _ h)
  |exact Yp hk (look_ok _ _ _ _ _ h)
  |(simp only[Stepped.next.injEq]at h;subst h;exact hk)
  |(repeat' first
   |(simp at h;done)
   |(simp only[Stepped.next.injEq]at h;subst h;exact hk)
   |(simp only[Stepped.next.injEq]at h;subst h;rename_i q;exact Yp hk (Nat.le_of_eq (LU _ _ _ _ q).symm))
   |(simp only[Stepped.next.injEq]at h;subst h;rename_i q;rw[Ds q];exact hk)
   |split at h)
def VR(p:Program)(m m':Machine)(k:Nat)(h:serve p m k= .next m'):m.world.drawn<=m'.world.drawn:=by
 unfold serve at h;simp only[]at h
 repeat' first
  |(simp at h;done)
  |(simp only[Stepped.next.injEq]at h;subst h;exact Xc _)
  |split at h
def Jl(n:Nat):Move->Prop
 | .goroutine m _=>n<=m.world.drawn
 | .machine (.next m) _=>n<=m.world.drawn
 | .machine _ _=>True
def Ct{n:Nat}{p:Program}{m:Machine}{k:Nat}{ops:Array MemOp}(h:n<=m.world.drawn):Jl n (.machine (serve p m k) ops):=by
 cases hs:serve p m k with
 |next m'=>exact Yp h (VR _ _ _ _ hs)
 |ended o w=>trivial
def Cu(p:Program)(m:Machine):Jl m.world.drawn (askOn p m):=by
 unfold askOn;simp only[]
 repeat' first
  |trivial
  |(rename_i q;exact Ct (dU q))
  |(rename_i q _;exact Ct (dU q))
  |(
   simp only[Jl]
   repeat' first
    |exact Xc _
    |refine Yp ?_ (dU ‹_›)
    |dsimp only[Machine.advanceTo]
   done)
  |split
def VS(p:Program)(m:Machine):Jl m.world.drawn (ask p m):=by
 unfold ask;have up:∀{a b:Nat}{v:Move},a<=b->Jl b v->Jl a v:=λ{a b v}h k=>by
  cases v with
  |goroutine m i=>exact Yp h k
  |machine s ops=>cases s<;>first|exact Yp h k|trivial
 split
 .split
  .trivial
  .rename_i q;split
   .rename_i q2;exact up (Yp (dU q) (look_ok _ _ _ _ _ q2)) (Cu _ _)
   .rename_i q2;have:∀s:Stepped,(∀m,s≠ .next m)->Jl m.world.drawn (.machine s):=λs hs=>by
     cases s with
     |next m=>exact absurd rfl (hs m)
     |ended o w=>trivial
    exact this _ λm' e=>q2 m' e
  .rename_i q;exact up (dU q) (Cu _ {m with world:=_})
 .exact Cu p m
def aaV(p:Program)(m:Machine):Jl m.world.drawn (move p m):=by
 unfold move
 repeat' first
  |trivial
  |exact Xc _
  |exact VS p m
  |exact VS p {m with rest:={m.rest with slice:=none}}
  |split
def LV{p:Program}{m m':Machine}(h:step p m= .next m'):m.world.drawn<=m'.world.drawn:=by
 unfold step stepT at h;have hm:=aaV p m;cases hv:move p m with
 |goroutine m2 i=>
  rw[hv]at h hm;exact Yp hm (aaU _ _ _ _ _ h)
 |machine s ops=>
  rw[hv]at h hm;simp only at h;subst h;exact hm
def Jm{p:Program}{m m':Machine}(h:Steps p m m'):m.world.drawn<=m'.world.drawn:=by
 obtain⟨n,hn⟩:=h
 induction n generalizing m with
 |
  zero=>
  simp only[runN,Stepped.next.injEq]at hn;subst hn;exact Xc _
 |succ n ih=>
  unfold runN at hn;cases hs:step p m with
  |next m1=>
   rw[hs]at hn;exact Yp (LV hs) (ih hn)
  |ended o w=>
   rw[hs]at hn;cases hn
def Jn{P:Program}{f:FuncId}{args:Array Value}{w:World}{R:Ending->World->Prop}(h:Calls P f args w R)(hR:∀w',¬R .outgrown w'):Calls P f args w λe w'=>R e w'/\w.drawn<=w'.drawn:=λcs=>by
 obtain⟨e,w',fr,h1,h2,h3⟩:=h cs;have hs:Steps P (lone (Frame.enter P f args .normal) cs w) (lone fr cs w'):=by
  cases e with
  |outgrown=>exact absurd h1 (hR w')
  |returned v=>exact h2
  |panicked c=>exact h2
 exact⟨e,w',fr,⟨h1,Jm hs⟩,h2,h3⟩
end Go.Ae
namespace Go.Proofs.YtmfohnojaginjaaGreatDoor
open Go Go.Ae Go.RowKit Go.Maps Go.Sort Go.Shelf Go.Proofs.Tryz
def insert_perm{H:Type}(x:Lit × DataW H):∀l:List (Lit × DataW H),(DataW.insert x l).Perm (x::l)
 | []=> .refl _
 |
  y::r=>by
  unfold DataW.insert;split
  .exact .refl _
  .exact((insert_perm x r).cons y).trans (.swap x y r)
def wJ{H:Type}:∀l:List (Lit × DataW H),(l.foldr DataW.insert []).Perm l
 | []=> .refl _
 |x::l=>(insert_perm x _).trans ((wJ l).cons x)
def byt(s:ByteArray):List UInt8:=s.data.toList
def yT(x:ByteArray):∀l:List ByteArray,(EW x l).Perm (x::l)
 | []=> .refl _
 |
  y::r=>by
  unfold EW;split
  .exact .refl _
  .exact((yT x r).cons y).trans (.swap x y r)
def Cv :∀l:List ByteArray,(tk l).Perm l
 | []=> .refl _
 |x::l=>(yT x _).trans ((Cv l).cons x)
def zG(x:ByteArray):∀l:List ByteArray,l.Pairwise (λa b=>leS a b=true)->(EW x l).Pairwise (λa b=>leS a b=true)
 | [],_=>List.pairwise_singleton _ _
 |
  y::r,h=>by
  unfold EW;have h1:=List.pairwise_cons.1 h;split
  .rename_i hxy;refine List.pairwise_cons.2 ⟨λz hz=>?_,h⟩;rcases Yw.1 hz with rfl|hz
   .exact hxy
   .have h2:=h1.1 z hz;simp only[leS,Zy]at *;exact List.le_trans hxy h2
  .rename_i hxy;have hyx:leS y x=true:=by
    simp only[leS,Zy]at *;exact(List.le_total _ _).resolve_left hxy
   refine List.pairwise_cons.2 ⟨λz hz=>?_,zG x r h1.2⟩;rcases Yw.1 ((yT x r).mem_iff.1 hz)with rfl|hz
   .exact hyx
   .exact h1.1 z hz
def xO :∀l:List ByteArray,(tk l).Pairwise (λa b=>leS a b=true)
 | []=>List.Pairwise.nil
 |x::l=>zG x _ (xO l)
def aaW{ss:List (List UInt8)}{ks:List ByteArray}(h:ss.Perm (ks.map byt)):ss.mergeSort (λx y=>decide (x<=y))=(tk ks).map byt:=by
 have tr:∀a b c:List UInt8,leB a b=true->leB b c=true->leB a c=true:=λa b c h1 h2=>by simp only[leB,Zy]at *;exact List.le_trans h1 h2
 have to:∀a b:List UInt8,(leB a b||leB b a)=true:=λa b=>by simp only[leB,Yy,Zy];exact List.le_total a b
 refine List.Perm.eq_of_pairwise (le:=λa b=>leB a b=true) (λa b _ _ h1 h2=>?_) (List.pairwise_mergeSort tr to ss) ?_ (((List.mergeSort_perm ss leB).trans h).trans ((Cv ks).map byt).symm)
 .simp only[leB,Zy]at h1 h2;exact List.le_antisymm h1 h2
 .exact List.pairwise_map.2 (xO ks)
def LW{w w':World}(h:Below w.heap.size w w')(hd:w.drawn<=w'.drawn):Step w dR w' dR:={
 os:=h.os
 tape:=h.tape
 output:=h.output
 size:=h.size
 keep:=λb hb _=>h.block b hb
 row:=λb cF t fz hb=>⟨cF,t,fz,(h.block b (eP hb)).trans hb,rfl⟩
 less:=λ_ _ h=>h
 drew:=hd}
set_option maxHeartbeats 1000000 in
def aaX :LX cx 427 487:=by
 refine⟨⟨_,func427,of_decide_eq_true (by kernel_rfl),by kernel_rfl⟩,λw bx id ms clock ks dX cZ NZ RW ri ajv ajw cf=>?_⟩;have Jo:∀x∈ms.toList,∃s:ByteArray,x.key= .string s/\s.size<=maxLen:=λx hx=>by
  have:x.key∈ks.map Value.string:=by rw[<-ri];exact Yk.2 ⟨x,hx,rfl⟩
  obtain⟨s,hs,e⟩:=Yk.1 this;exact⟨s,e.symm,ajw s hs⟩
 have abJ:ms.size=ks.length:=by have:=congrArg List.length ri;simpa using this
 have hrd:∀x∈ms.toList,∀s:ByteArray,x.key= .string s->s.size<=maxLen->WideElems.rd cx.P 9 (λ_=>some ((.nil:DataW Unit),[])) x=some (.string s.data.toList,.nil):=λx _ s e hs=>by
  unfold WideElems.rd;rw[e,WideMaps.keyOf_string_mk (P:=cx.P) underlying9 hs];rfl
 have F:WideElems.Fit cx.P 9 (λ_=>some ((.nil:DataW Unit),[])) ms clock:=by
  refine⟨by unfold maxLen;omega,⟨NZ,RW,?_⟩,λx hx=>?_⟩
  .rw[ri];exact List.pairwise_map.2 (ajv.imp λ{a b}eF e=>eF (by injection e))
  .obtain⟨s,e,hs⟩:=Jo x hx;exact⟨_,hrd x hx s e hs⟩
 have zO:w.ownsMap cx.P 9 (λ_=>some ((.nil:DataW Unit),[])) id ms.size (.map ((ms.toList.map (WideElems.rg cx.P 9 (λ_=>some ((.nil:DataW Unit),[])))).foldr DataW.insert [])):=⟨ms,clock,cZ,F,Xc _,rfl⟩;have hbx:bx<w.heap.size:=by
  unfold World.cell? at dX;cases hb:w.heap[bx]? with
  |none=>simp[hb]at dX
  |some o=>exact eP hb
 have ajx:(strKeys (.map ((ms.toList.map (WideElems.rg cx.P 9 (λ_=>some ((.nil:DataW Unit),[])))).foldr DataW.insert []):DataW Unit)).Perm (ks.map byt):=by
  refine((wJ _).map _).trans (List.Perm.of_eq ?_);rw[List.map_map];have:(ms.toList.map (·.key)).map (λv=>match v with| .string s=>byt s|_=> [])=(ks.map Value.string).map (λv=>match v with| .string s=>byt s|_=> []):=by rw[ri]
  rw[List.map_map,List.map_map]at this;refine(List.map_congr_left λx hx=>?_).trans this;obtain⟨s,e,hs⟩:=Jo x hx;simp only[Function.comp,WideElems.rg_of (hrd x hx s e hs),e];rfl
 have hN:Maps.size (.map ((ms.toList.map (WideElems.rg cx.P 9 (λ_=>some ((.nil:DataW Unit),[])))).foldr DataW.insert []):DataW Unit)=ks.length:=by
  show(List.foldr DataW.insert [] _).length=_;rw[(wJ _).length_eq,Ym,<-abJ,Array.length_toList]
 have ajy:SeqGives Fence.wide 2 cx.P 487 #[.pointer (some ⟨bx,0,none⟩)] encStr (λss=>ss.Perm (strKeys (.map ((ms.toList.map (WideElems.rg cx.P 9 (λ_=>some ((.nil:DataW Unit),[])))).foldr DataW.insert []):DataW Unit))) _ w:=
  AnyZ.keys_gives (ρ:=Tryz.keys428_ren) {Tryz.keys428 with} Fence.wide _ trivial rfl (by omega) bx id ms.size _ w hbx dX zO
 have cJ:=callsIn_wide.1 (AnyZ.sorted_in Tryz.sorted427 Fence.wide 5 trivial trivial trivial trivial rfl (by omega) (Tryz.sorts427 _) (enters_of func486 (by kernel_rfl) rfl) 487 #[.pointer (some ⟨bx,0,none⟩)] trivial (enters_of func487 (by kernel_rfl) rfl) _ _ (by rw[hN];unfold maxLen;omega) (by rw[hN];omega) w ajy);refine(Jn cJ (λw' ⟨v,ss,he,_⟩=>by cases he)).mono ?_;rintro e w' ⟨⟨v,ss,rfl,hS,fG,Gj,hb⟩,hd⟩;have hp:=hS.trans ajx;have wo:=aaW hp;have hl:ss.length=ks.length:=by rw[hp.length_eq,Ym]
 refine⟨v,rfl,LW hb hd,?_⟩;by_cases h0:ks=[]
 .left;refine⟨h0,Gj.2 (Zl (by rw[hl,h0];rfl))⟩
 .right;have tE:0<ks.length:=List.length_pos_iff.2 h0;refine⟨h0,?_⟩;obtain⟨nz,hh⟩:=fG;rcases hh with⟨_,hz⟩|⟨B,cap,cF,rfl,hB,l_,c1,c2,c3,c4⟩
  .omega
  .refine⟨B,cap,cF,_,by rw[hl],hB,l_,by omega,c2,by omega,λk s hk=>?_⟩;rw[wo]at c4;have lk:((((tk ks).map byt).map encStr))[k]?=some (.string s):=by
    rw[List.map_map,Zs,hk];show some (encStr (byt s))=_;simp[encStr,byt]
   rw[<-c4,Xn]at lk;split at lk
   .simpa using lk
   .cases lk
end Go.Proofs.YtmfohnojaginjaaGreatDoor
namespace Go.Proofs
open Go Go.Ae Go.RowKit Go.Shelf Go.Sort Go.Proofs.Tryz
def grow_step(w:World)(k:Nat)(os:Array Obj):Step w dR (grow (w.drewN k) os) dR:=by
 have hk:∀b,b<w.heap.size->(grow (w.drewN k) os).heap[b]?=w.heap[b]?:=λb hb=>by
  show(w.heap++os)[b]?=_;rw[Array.getElem?_append_left hb]
 exact{os:=rfl,tape:=rfl,output:=rfl,size:=by show w.heap.size<=(w.heap++os).size;simp,keep:=λb hb _=>hk b hb,row:=λb cF t fz hb=>⟨cF,t,fz,(hk b (eP hb)).trans hb,rfl⟩,less:=λ_ _ h=>h,drew:=by show w.drawn<=w.drawn+k;omega}
def itoa_ok(C:Cx)(hP:C.P=prog)(hGl:C.G 2=some pow10C)(n:Int)(h0: -9223372036854775808<=n)(h1:n<=9223372036854775807):
 iG C 467 [n] (.sc (.string ⟨(Lib.itoa n).toArray⟩)):=by
 intro w X vs hX hG fX hv;refine⟨⟨_,by rw[hP];exact func467,of_decide_eq_true (by kernel_rfl),by kernel_rfl⟩,?_⟩;rw[hP];have uG:=(Rp.im (ρ:=id) (n:=0) (hv 0 _ rfl)).dH.1;have yf:vs= #[.int .i64 n]:=by
  obtain⟨L⟩:=vs
  match L,fX with
  | [x],_=>simp at uG;rw[uG]
 rw[yf];obtain⟨_,cF,t,fz,g1,g2,g3⟩:=hG _ _ hGl;have l_:cF=pow10C.toArray:=by
  apply Array.ext_getElem?;intro k;by_cases hk:k<pow10C.length
  .obtain⟨u,u1,_,u3⟩:=g3 k _ (Zb hk);have e:u=pow10C[k]:=by
    have hm:pow10C[k]∈pow10C:=List.getElem_mem hk;obtain⟨z,_,hz⟩:=Yk.1 (show pow10C[k]∈Lib.pow10Tab.map λz=>Value.int .u64 z from hm);rw[<-hz]at u3|-;exact u3.1
   rw[u1,e];simp[hk]
  .rw[Array.getElem?_eq_none (by omega),Array.getElem?_eq_none (by simpa using hk)]
 have Z1:prog.globalNamed "internal/strconv.uint64pow10" =some 2:=by kernel_rfl
 have VT:Lib.TabIs prog w "internal/strconv.uint64pow10" .u64 Lib.pow10Tab:=by
  unfold Lib.TabIs World.var?;rw[Z1,Option.bind_some,g1,l_];rfl
 have hI:Calls prog 467 #[.int .i64 n] w λe w'=>e= .returned (.string ⟨(Lib.itoa n).toArray⟩)/\∃k os,w'=grow (w.drewN k) os:=Any.strconv_Itoa Tryz.laysM171 n h0 h1 w VT
 refine hI.mono ?_;rintro e w' ⟨rfl,k,os,rfl⟩;exact⟨_,rfl,grow_step w k os,.sc _ rfl⟩
end Go.Proofs
namespace Go.Ae
open Go
def nT(cF:Array Value)(o:Nat)(vs:List Value):Array Value:=(cF.toList.take o++vs++cF.toList.drop (o+vs.length)).toArray
def mJ{cF:Array Value}{o:Nat}{vs:List Value}(h:o+vs.length<=cF.size):(nT cF o vs).size=cF.size:=by simp[nT];omega
def um{cF:Array Value}{o:Nat}{vs:List Value}(h:o+vs.length<=cF.size)(k:Nat):(nT cF o vs)[k]?=if o<=k/\k<o+vs.length then vs[k-o]? else cF[k]?:=by
 unfold nT;rw[Xr];by_cases h1:k<o
 .rw[Zp,Zd (by simp;omega),Xn,cq h1,cm (by omega)];simp
 .by_cases h2:k<o+vs.length
  .rw[Zp,Zf (by simp;omega),Zd (by simp;omega),cq ⟨by omega,h2⟩]
   congr 1
   simp;omega
  .rw[Zf (by simp;omega),Xo,cm (by omega)];rw[Array.getElem?_toList]
   congr 1
   simp;omega
def sD{P:Program}(W:World)(t ty e:TypeId)(ei:TypeInfo)(ht:P.underlying t=some (.slice e))(hi:P.info? e=some ei)(b off len dc sb so n sc:Nat)(dj:List Value)(hl:dj.length=min n len*ei.size)(ad4:∀(j:Nat)(u:Value),dj[j]?=some u->W.cell? ⟨sb,so+j,none⟩=some u)(cF:Array Value)(t0:TypeId)(fz:Nat × Nat)(hb:W.heap[b]?=some (.cells cF t0 fz))(hf:Fz fz cF)(oE:off+dj.length<=cF.size)(h1:∀u∈dj,u.oneCell'=true):
 (Builtin.copy_ #[t,t] ty #[.slice (some ⟨b,off,none⟩) len dc,.slice (some ⟨sb,so,none⟩) n sc]).run P W= .ok (.int .i64 (min n len:Nat)) (W.setRow b (nT cF off dj)):=by
 have dq:=iQ P b off t0 fz dj 0 cF W hb (.inl hf.eq) (by omega) h1;have xc:(Builtin.firstCells ei.size (min n len) (.slice (some ⟨sb,so,none⟩) n sc)).run P W= .ok dj.toArray W:=
  run_firstCells_some (P:=P) W ei.size (min n len) ⟨sb,so,none⟩ n sc dj hl (λj u hj=>by rw[add_lit];exact ad4 j u hj)
 have aaY:Nat.min n len=min n len:=rfl;simp only[Nat.add_zero]at dq;simp[Builtin.copy_,run_underlying ht,Builtin.lenOf,sizeOf,typeInfo,hi,aaY,xc,dq,goInt,nT]
def ad5(w:World)(base:Option Addr)(n cap i sz:Nat)(olds vs:List Value)(e:Ending)(w':World):Prop:=
 ∃(B fy:Nat)(cur':Array Value)(t':TypeId)(xZ:Nat × Nat),
  e= .returned (.slice (some ⟨B,0,none⟩) (n+1) fy)/\w'.heap[B]?=some (.cells cur' t' xZ)/\Fz xZ cur'/\fy*sz=cur'.size/\n+1<=fy/\fy<=maxLen/\
  (∀(k:Nat)(u:Value),(olds.take (i*sz)++vs++olds.drop (i*sz))[k]?=some u->cur'[k]?=some u)/\
  ((
   w.heap.size<=B/\xZ=(0,0)/\Step w dR w' dR)\/(base=some ⟨B,0,none⟩/\0<cap/\w'.os=w.os/\w'.tape=w.tape/\w'.output=w.output/\w'.heap.size=w.heap.size/\w.drawn<=w'.drawn/\(∀b,b≠B->w'.heap[b]?=w.heap[b]?)/\
   ∀(cF:Array Value)(t:TypeId)(fz:Nat × Nat),w.heap[B]?=some (.cells cF t fz)->cur'.size=cF.size))
def pY{olds vs:List Value}{p k:Nat}(hp:p<=olds.length):(olds.take p++vs++olds.drop p)[k]?=if k<p then olds[k]? else if k<p+vs.length then vs[k-p]? else olds[k-vs.length]?:=by
 by_cases h1:k<p
 .rw[Zp,Zd (by simp;omega),Xn,cq h1,cq h1]
 .by_cases h2:k<p+vs.length
  .rw[Zp,Zf (by simp;omega),Zd (by simp;omega),cm h1,cq h2]
   congr 1
   simp;omega
  .rw[Zf (by simp;omega),Xo,cm h1,cm h2]
   congr 1
   simp;omega
def N3{w w':World}{b n cap i sz:Nat}{olds vs:List Value}{cF cur':Array Value}{t:TypeId}{fz:Nat × Nat}(hb:w.heap[b]?=some (.cells cF t fz))(hf:Fz fz cF)(mH:cap*sz=cF.size)(hn:n+1<=cap)(hc:cap<=maxLen)(hw:w'.heap[b]?=some (.cells cur' t fz))(hs:cur'.size=cF.size)(h1:w'.os=w.os)(h2:w'.tape=w.tape)(h3:w'.output=w.output)(h4:w'.heap.size=w.heap.size)(h6:w.drawn<=w'.drawn)(h5:∀k,k≠b->w'.heap[k]?=w.heap[k]?)(hg:∀(k:Nat)(u:Value),(olds.take (i*sz)++vs++olds.drop (i*sz))[k]?=some u->cur'[k]?=some u):ad5 w (some ⟨b,0,none⟩) n cap i sz olds vs (.returned (.slice (some ⟨b,0,none⟩) (n+1) cap)) w':=
 ⟨b,cap,cur',t,fz,rfl,hw,hf.imp (λq=>q) (λq=>by rw[hs];exact q),by omega,hn,hc,hg,.inr ⟨rfl,by omega,h1,h2,h3,h4,h6,h5,λc tt ff hh=>by rw[hb]at hh;cases hh;exact hs⟩⟩
def Jp{w w':World}{base:Option Addr}{n cap fy i sz:Nat}{olds vs:List Value}{cur':Array Value}{t:TypeId}(mH:fy*sz=cur'.size)(hn:n+1<=fy)(hc:fy<=maxLen)(hw:w'.heap[w.heap.size]?=some (.cells cur' t (0,0)))(h1:w'.os=w.os)(h2:w'.tape=w.tape)(h3:w'.output=w.output)(h4:w.heap.size<=w'.heap.size)(h6:w.drawn<=w'.drawn)(h5:∀k,k<w.heap.size->w'.heap[k]?=w.heap[k]?)(hg:∀(k:Nat)(u:Value),(olds.take (i*sz)++vs++olds.drop (i*sz))[k]?=some u->cur'[k]?=some u):ad5 w base n cap i sz olds vs (.returned (.slice (some ⟨w.heap.size,0,none⟩) (n+1) fy)) w':=
 ⟨w.heap.size,fy,cur',t,(0,0),rfl,hw,.inl rfl,mH,hn,hc,hg,.inl ⟨Xc _,rfl,⟨h1,h2,h3,h4,λb hb _=>h5 b hb,λb c tt ff hb=>⟨c,tt,ff,(h5 b (eP hb)).trans hb,rfl⟩,λ_ _ h=>h,h6⟩⟩⟩
def VU{olds vs:List Value}{cF:Array Value}{p:Nat}(hp:p=olds.length)(oE:p+vs.length<=cF.size)(ho:∀(k:Nat)(u:Value),olds[k]?=some u->cF[k]?=some u)(k:Nat)(u:Value)(h:(olds.take p++vs++olds.drop p)[k]?=some u):(nT cF p vs)[k]?=some u:=by
 rw[pY (by omega)]at h;rw[um oE];split at h
 .rename_i h1;rw[cm (by omega)];exact ho k u h
 .split at h
  .rename_i h1 h2;rw[cq ⟨by omega,h2⟩];exact h
  .rename_i h1 h2;rw[Xh (by omega)]at h;cases h
def LY{olds vs:List Value}{cF:Array Value}{p s:Nat}(hp:p<=olds.length)(hs:s=p+vs.length)(oE:olds.length+vs.length<=cF.size)(ho:∀(k:Nat)(u:Value),olds[k]?=some u->cF[k]?=some u)(k:Nat)(u:Value)(h:(olds.take p++vs++olds.drop p)[k]?=some u):
 (nT (nT cF s (olds.drop p)) p vs)[k]?=some u:=by
 subst hs;have hd:(olds.drop p).length=olds.length-p:=by simp
 rw[pY hp]at h;rw[um (by rw[mJ (by omega)];omega),um (by omega)];split at h
 .rename_i h1;rw[cm (by omega),cm (by omega)];exact ho k u h
 .split at h
  .rename_i h1 h2;rw[cq ⟨by omega,h2⟩];exact h
  .rename_i h1 h2;have hk:k-vs.length<olds.length:=(Za.1 h).1;rw[cm (by omega),cq ⟨by omega,by omega⟩,Xo,<-h]
   congr 1
   omega
def QU{olds vs:List Value}{cF:Array Value}{p s:Nat}(hp:p<=olds.length)(hs:s=p+vs.length)(oE:olds.length+vs.length<=cF.size)(ho:∀(k:Nat)(u:Value),k<p->olds[k]?=some u->cF[k]?=some u)(k:Nat)(u:Value)(h:(olds.take p++vs++olds.drop p)[k]?=some u):
 (nT (nT cF p vs) s (olds.drop p))[k]?=some u:=by
 subst hs;have hd:(olds.drop p).length=olds.length-p:=by simp
 rw[pY hp]at h;rw[um (by rw[mJ (by omega)];omega),um (by omega)];split at h
 .rename_i h1;rw[cm (by omega),cm (by omega)];exact ho k u h1 h
 .split at h
  .rename_i h1 h2;rw[cm (by omega),cq ⟨by omega,h2⟩];exact h
  .rename_i h1 h2;have hk:k-vs.length<olds.length:=(Za.1 h).1;rw[cq ⟨by omega,by omega⟩,Xo,<-h]
   congr 1
   omega
def Cw{P:Program}(w:World){o:Oper}{a:Act}{K:Act->World->Prop}{Q:Exit->Act->World->Prop}(d s:Operand)(t t':TypeId)(ho:o.op= .call {callee:= .builtin .copy,args:= #[d,s],argTypes:= #[t,t']})(v u:Value)(hd:a.eval d=v)(hs:a.eval s=u){v':Value}{w':World}(hr:(Builtin.copy_ #[t,t'] o.type #[v,u]).run P w= .ok v' w')(h:K (a.put o.dst v') w'):o.wp P a w K Q:=by
 unfold Oper.wp execOp;simp only[ho,resolve,invoke,builtin,Sem.run_bind,Sem.run_pure,Result.andThen_ok,List.map_toArray,Yz,Xw,hd,hs,hr];exact h
def gv{P:Program}(w:World){ops:Array Oper}{rest:List Oper}{o:Oper}{a:Act}{Q:Exit->Act->World->Prop}(hgd:o.guard=none)(d s:Operand)(t t':TypeId)(ho:o.op= .call {callee:= .builtin .copy,args:= #[d,s],argTypes:= #[t,t']})(v u:Value)(hd:a.eval d=v)(hs:a.eval s=u){v':Value}{w':World}(hr:(Builtin.copy_ #[t,t'] o.type #[v,u]).run P w= .ok v' w')(h:wpList P ops Q rest (a.put o.dst v') w'):wpList P ops Q (o::rest) a w:=
 wpList_plain hgd λ_ hK=>Cw w d s t t' ho v u hd hs hr (hK _ _ h)
def iV{P:Program}{ops:Array Oper}{o:Oper}{a:Act}{w:World}{K:Act->World->Prop}{Q:Exit->Act->World->Prop}{E:Prop}(hg:o.guard=none)(d x:Operand)(dT sT:TypeId)(dp:o.op=Op.call {callee:=Callee.builtin Builtin.copy,args:= #[d,x],argTypes:= #[dT,sT]})(v u:Value)(hd:a.eval d=v)(hx:a.eval x=u){v':Value}{w':World}(hr:(Builtin.copy_ #[dT,sT] o.type #[v,u]).run P w= .ok v' w')(hK:K (a.put o.dst v') w'):if Region.wanted o (yielded ops a.tmps)=true then Oper.wp P o a w K Q else E:=by
 rw[cq (show Region.wanted o (yielded ops a.tmps)=true by simp[Region.wanted,hg])];exact Cw w d x dT sT dp v u hd hx hr hK
end Go.Ae
namespace Go.Proofs.YtmfohnojaginjaaGreatDoor
open Go Go.Ae Go.Proofs.Tryz
def QW(base:Option Addr)(c:Nat)(w:World):Calls prog 134 #[.slice base 0 c] w λe w'=>∃a,e= .returned (.slice a 0 0)/\Step w dR w' dR:=by
 obtain⟨e,ei,ht,hi,_⟩:∃e ei,prog.underlying 48=some (.slice e)/\prog.info? e=some ei/\True:=by
  obtain⟨i,hi⟩:∃i,eH prog 48=some i/\(match i.kd with| .slice .. =>true|_=>false)=true:=by
   cases h:eH prog 48 with
   |none=>exact absurd h (by
    have:(eH prog 48).isSome=true:=by kernel_rfl
    intro h';rw[h']at this;cases this)
   |some i=>
    refine⟨i,rfl,?_⟩;have:(match eH prog 48 with|some i=>(match i.kd with| .slice .. =>true|_=>false)|none=>false)=true:=by kernel_rfl
    rw[h]at this;exact this
  obtain⟨hi,hk⟩:=hi;obtain⟨d,info,z,h1,h2,h3,h4,h5,h6,h7,h8,h9⟩:=dG hi;split at hk
  .rename_i s ag b ez LZ;rw[LZ]at h4;obtain⟨e,ei,ed,z',rfl,k1,k2,k3,k4,k5,k6,k7,k8,k9,zm⟩:=ec h4;exact⟨e,ei,h1,k1,trivial⟩
  .cases hk
 have q22:∀(w:World)(a:Option Addr)(n c n' c':Nat),(binOp .eql 48 (.slice a n c) (.slice none n' c')).run prog w= .ok (.bool a.isNone) w:=λw a n c n' c'=>Lib.run_eql_slice_nil w _ _ a n c n' c' ht
 have u1:=run_underlying ht;have wo:∀w,(Go.sizeOf e).run prog w= .ok ei.size w:=λw=>dY hi w
 go_enter func134,ntmps134
 cases base with
 |
  none=>
  go_wp2
  go_ret
  exact⟨_,rfl,Step.refl _ _⟩
 |some a=>
  go_wp2_with (at_builtin;refine Lib.wpList_append_run _ rfl _ _ _ _ rfl _ _ rfl rfl _ _ (iW ht hi _ _ 0 0 c (Xc _) _) ?_)
  all_goals
   go_ret
   exact⟨_,rfl,gV _ _⟩
def aaZ(base:Option Addr)(c:Nat)(w:World):Calls prog 135 #[.slice base 0 c] w λe w'=>∃a,e= .returned (.slice a 0 0)/\Step w dR w' dR:=by
 obtain⟨e,ei,ht,hi,_⟩:∃e ei,prog.underlying 49=some (.slice e)/\prog.info? e=some ei/\True:=by
  obtain⟨i,hi⟩:∃i,eH prog 49=some i/\(match i.kd with| .slice .. =>true|_=>false)=true:=by
   cases h:eH prog 49 with
   |none=>exact absurd h (by
    have:(eH prog 49).isSome=true:=by kernel_rfl
    intro h';rw[h']at this;cases this)
   |some i=>
    refine⟨i,rfl,?_⟩;have:(match eH prog 49 with|some i=>(match i.kd with| .slice .. =>true|_=>false)|none=>false)=true:=by kernel_rfl
    rw[h]at this;exact this
  obtain⟨hi,hk⟩:=hi;obtain⟨d,info,z,h1,h2,h3,h4,h5,h6,h7,h8,h9⟩:=dG hi;split at hk
  .rename_i s ag b ez LZ;rw[LZ]at h4;obtain⟨e,ei,ed,z',rfl,k1,k2,k3,k4,k5,k6,k7,k8,k9,zm⟩:=ec h4;exact⟨e,ei,h1,k1,trivial⟩
  .cases hk
 have q22:∀(w:World)(a:Option Addr)(n c n' c':Nat),(binOp .eql 49 (.slice a n c) (.slice none n' c')).run prog w= .ok (.bool a.isNone) w:=λw a n c n' c'=>Lib.run_eql_slice_nil w _ _ a n c n' c' ht
 have u1:=run_underlying ht;have wo:∀w,(Go.sizeOf e).run prog w= .ok ei.size w:=λw=>dY hi w
 go_enter func135,ntmps135
 cases base with
 |
  none=>
  go_wp2
  go_ret
  exact⟨_,rfl,Step.refl _ _⟩
 |some a=>
  go_wp2_with (at_builtin;refine Lib.wpList_append_run _ rfl _ _ _ _ rfl _ _ rfl rfl _ _ (iW ht hi _ _ 0 0 c (Xc _) _) ?_)
  all_goals
   go_ret
   exact⟨_,rfl,gV _ _⟩
def aa0(base:Option Addr)(c:Nat)(w:World):Calls prog 133 #[.slice base 0 c] w λe w'=>∃a,e= .returned (.slice a 0 0)/\Step w dR w' dR:=by
 obtain⟨e,ei,ht,hi,_⟩:∃e ei,prog.underlying 23=some (.slice e)/\prog.info? e=some ei/\True:=by
  obtain⟨i,hi⟩:∃i,eH prog 23=some i/\(match i.kd with| .slice .. =>true|_=>false)=true:=by
   cases h:eH prog 23 with
   |none=>exact absurd h (by
    have:(eH prog 23).isSome=true:=by kernel_rfl
    intro h';rw[h']at this;cases this)
   |some i=>
    refine⟨i,rfl,?_⟩;have:(match eH prog 23 with|some i=>(match i.kd with| .slice .. =>true|_=>false)|none=>false)=true:=by kernel_rfl
    rw[h]at this;exact this
  obtain⟨hi,hk⟩:=hi;obtain⟨d,info,z,h1,h2,h3,h4,h5,h6,h7,h8,h9⟩:=dG hi;split at hk
  .rename_i s ag b ez LZ;rw[LZ]at h4;obtain⟨e,ei,ed,z',rfl,k1,k2,k3,k4,k5,k6,k7,k8,k9,zm⟩:=ec h4;exact⟨e,ei,h1,k1,trivial⟩
  .cases hk
 have q22:∀(w:World)(a:Option Addr)(n c n' c':Nat),(binOp .eql 23 (.slice a n c) (.slice none n' c')).run prog w= .ok (.bool a.isNone) w:=λw a n c n' c'=>Lib.run_eql_slice_nil w _ _ a n c n' c' ht
 have u1:=run_underlying ht;have wo:∀w,(Go.sizeOf e).run prog w= .ok ei.size w:=λw=>dY hi w
 go_enter func133,ntmps133
 cases base with
 |
  none=>
  go_wp2
  go_ret
  exact⟨_,rfl,Step.refl _ _⟩
 |some a=>
  go_wp2_with (at_builtin;refine Lib.wpList_append_run _ rfl _ _ _ _ rfl _ _ rfl rfl _ _ (iW ht hi _ _ 0 0 c (Xc _) _) ?_)
  all_goals
   go_ret
   exact⟨_,rfl,gV _ _⟩
def aa1(base:Option Addr)(c:Nat)(w:World):Calls prog 136 #[.slice base 0 c] w λe w'=>∃a,e= .returned (.slice a 0 0)/\Step w dR w' dR:=by
 obtain⟨e,ei,ht,hi,_⟩:∃e ei,prog.underlying 24=some (.slice e)/\prog.info? e=some ei/\True:=by
  obtain⟨i,hi⟩:∃i,eH prog 24=some i/\(match i.kd with| .slice .. =>true|_=>false)=true:=by
   cases h:eH prog 24 with
   |none=>exact absurd h (by
    have:(eH prog 24).isSome=true:=by kernel_rfl
    intro h';rw[h']at this;cases this)
   |some i=>
    refine⟨i,rfl,?_⟩;have:(match eH prog 24 with|some i=>(match i.kd with| .slice .. =>true|_=>false)|none=>false)=true:=by kernel_rfl
    rw[h]at this;exact this
  obtain⟨hi,hk⟩:=hi;obtain⟨d,info,z,h1,h2,h3,h4,h5,h6,h7,h8,h9⟩:=dG hi;split at hk
  .rename_i s ag b ez LZ;rw[LZ]at h4;obtain⟨e,ei,ed,z',rfl,k1,k2,k3,k4,k5,k6,k7,k8,k9,zm⟩:=ec h4;exact⟨e,ei,h1,k1,trivial⟩
  .cases hk
 have q22:∀(w:World)(a:Option Addr)(n c n' c':Nat),(binOp .eql 24 (.slice a n c) (.slice none n' c')).run prog w= .ok (.bool a.isNone) w:=λw a n c n' c'=>Lib.run_eql_slice_nil w _ _ a n c n' c' ht
 have u1:=run_underlying ht;have wo:∀w,(Go.sizeOf e).run prog w= .ok ei.size w:=λw=>dY hi w
 go_enter func136,ntmps136
 cases base with
 |
  none=>
  go_wp2
  go_ret
  exact⟨_,rfl,Step.refl _ _⟩
 |some a=>
  go_wp2_with (at_builtin;refine Lib.wpList_append_run _ rfl _ _ _ _ rfl _ _ rfl rfl _ _ (iW ht hi _ _ 0 0 c (Xc _) _) ?_)
  all_goals
   go_ret
   exact⟨_,rfl,gV _ _⟩
def VV(base:Option Addr)(c:Nat)(w:World):Calls prog 399 #[.slice base 0 c] w λe w'=>∃a,e= .returned (.slice a 0 0)/\Step w dR w' dR:=by
 obtain⟨e,ei,ht,hi,_⟩:∃e ei,prog.underlying 71=some (.slice e)/\prog.info? e=some ei/\True:=by
  obtain⟨i,hi⟩:∃i,eH prog 71=some i/\(match i.kd with| .slice .. =>true|_=>false)=true:=by
   cases h:eH prog 71 with
   |none=>exact absurd h (by
    have:(eH prog 71).isSome=true:=by kernel_rfl
    intro h';rw[h']at this;cases this)
   |some i=>
    refine⟨i,rfl,?_⟩;have:(match eH prog 71 with|some i=>(match i.kd with| .slice .. =>true|_=>false)|none=>false)=true:=by kernel_rfl
    rw[h]at this;exact this
  obtain⟨hi,hk⟩:=hi;obtain⟨d,info,z,h1,h2,h3,h4,h5,h6,h7,h8,h9⟩:=dG hi;split at hk
  .rename_i s ag b ez LZ;rw[LZ]at h4;obtain⟨e,ei,ed,z',rfl,k1,k2,k3,k4,k5,k6,k7,k8,k9,zm⟩:=ec h4;exact⟨e,ei,h1,k1,trivial⟩
  .cases hk
 have q22:∀(w:World)(a:Option Addr)(n c n' c':Nat),(binOp .eql 71 (.slice a n c) (.slice none n' c')).run prog w= .ok (.bool a.isNone) w:=λw a n c n' c'=>Lib.run_eql_slice_nil w _ _ a n c n' c' ht
 have u1:=run_underlying ht;have wo:∀w,(Go.sizeOf e).run prog w= .ok ei.size w:=λw=>dY hi w
 go_enter func399,ntmps399
 cases base with
 |
  none=>
  go_wp2
  go_ret
  exact⟨_,rfl,Step.refl _ _⟩
 |some a=>
  go_wp2_with (at_builtin;refine Lib.wpList_append_run _ rfl _ _ _ _ rfl _ _ rfl rfl _ _ (iW ht hi _ _ 0 0 c (Xc _) _) ?_)
  all_goals
   go_ret
   exact⟨_,rfl,gV _ _⟩
def QX(base:Option Addr)(c:Nat)(w:World):Calls prog 85 #[.slice base 0 c] w λe w'=>∃a,e= .returned (.slice a 0 0)/\Step w dR w' dR:=by
 obtain⟨e,ei,ht,hi,_⟩:∃e ei,prog.underlying 35=some (.slice e)/\prog.info? e=some ei/\True:=by
  obtain⟨i,hi⟩:∃i,eH prog 35=some i/\(match i.kd with| .slice .. =>true|_=>false)=true:=by
   cases h:eH prog 35 with
   |none=>exact absurd h (by
    have:(eH prog 35).isSome=true:=by kernel_rfl
    intro h';rw[h']at this;cases this)
   |some i=>
    refine⟨i,rfl,?_⟩;have:(match eH prog 35 with|some i=>(match i.kd with| .slice .. =>true|_=>false)|none=>false)=true:=by kernel_rfl
    rw[h]at this;exact this
  obtain⟨hi,hk⟩:=hi;obtain⟨d,info,z,h1,h2,h3,h4,h5,h6,h7,h8,h9⟩:=dG hi;split at hk
  .rename_i s ag b ez LZ;rw[LZ]at h4;obtain⟨e,ei,ed,z',rfl,k1,k2,k3,k4,k5,k6,k7,k8,k9,zm⟩:=ec h4;exact⟨e,ei,h1,k1,trivial⟩
  .cases hk
 have q22:∀(w:World)(a:Option Addr)(n c n' c':Nat),(binOp .eql 35 (.slice a n c) (.slice none n' c')).run prog w= .ok (.bool a.isNone) w:=λw a n c n' c'=>Lib.run_eql_slice_nil w _ _ a n c n' c' ht
 have u1:=run_underlying ht;have wo:∀w,(Go.sizeOf e).run prog w= .ok ei.size w:=λw=>dY hi w
 go_enter func85,ntmps85
 cases base with
 |
  none=>
  go_wp2
  go_ret
  exact⟨_,rfl,Step.refl _ _⟩
 |some a=>
  go_wp2_with (at_builtin;refine Lib.wpList_append_run _ rfl _ _ _ _ rfl _ _ rfl rfl _ _ (iW ht hi _ _ 0 0 c (Xc _) _) ?_)
  all_goals
   go_ret
   exact⟨_,rfl,gV _ _⟩
def ad6(base:Option Addr)(c:Nat)(w:World):Calls prog 313 #[.slice base 0 c] w λe w'=>∃a,e= .returned (.slice a 0 0)/\Step w dR w' dR:=by
 obtain⟨e,ei,ht,hi,_⟩:∃e ei,prog.underlying 142=some (.slice e)/\prog.info? e=some ei/\True:=by
  obtain⟨i,hi⟩:∃i,eH prog 142=some i/\(match i.kd with| .slice .. =>true|_=>false)=true:=by
   cases h:eH prog 142 with
   |none=>exact absurd h (by
    have:(eH prog 142).isSome=true:=by kernel_rfl
    intro h';rw[h']at this;cases this)
   |some i=>
    refine⟨i,rfl,?_⟩;have:(match eH prog 142 with|some i=>(match i.kd with| .slice .. =>true|_=>false)|none=>false)=true:=by kernel_rfl
    rw[h]at this;exact this
  obtain⟨hi,hk⟩:=hi;obtain⟨d,info,z,h1,h2,h3,h4,h5,h6,h7,h8,h9⟩:=dG hi;split at hk
  .rename_i s ag b ez LZ;rw[LZ]at h4;obtain⟨e,ei,ed,z',rfl,k1,k2,k3,k4,k5,k6,k7,k8,k9,zm⟩:=ec h4;exact⟨e,ei,h1,k1,trivial⟩
  .cases hk
 have q22:∀(w:World)(a:Option Addr)(n c n' c':Nat),(binOp .eql 142 (.slice a n c) (.slice none n' c')).run prog w= .ok (.bool a.isNone) w:=λw a n c n' c'=>Lib.run_eql_slice_nil w _ _ a n c n' c' ht
 have u1:=run_underlying ht;have wo:∀w,(Go.sizeOf e).run prog w= .ok ei.size w:=λw=>dY hi w
 go_enter func313,ntmps313
 cases base with
 |
  none=>
  go_wp2
  go_ret
  exact⟨_,rfl,Step.refl _ _⟩
 |some a=>
  go_wp2_with (at_builtin;refine Lib.wpList_append_run _ rfl _ _ _ _ rfl _ _ rfl rfl _ _ (iW ht hi _ _ 0 0 c (Xc _) _) ?_)
  all_goals
   go_ret
   exact⟨_,rfl,gV _ _⟩
def ad7(f:FuncId)(sz:Nat)(hf:VW f=some sz)(z z':Bool):iG cx f [.ls sz [] z] (.ls sz [] z'):=by
 intro w X vs hX hG hl hv;obtain⟨b,cap,yf⟩:∃b cap,vs= #[.slice b 0 cap]:=by
  have fX:vs.size=1:=hl;have h0:∃b cap,vs.getD 0 undef= .slice b 0 cap:=by
   rcases(hv 0 _ rfl).iu with⟨_,b,cap,hq,_⟩|⟨b,o',cap,us,cF,t0,fz,hq,_⟩
   .exact⟨_,_,hq⟩
   .exact⟨_,_,hq⟩
  obtain⟨b,cap,h0⟩:=h0;refine⟨b,cap,?_⟩;apply Array.ext
  .simpa using fX
  .intro i h1 h2;have hi:i=0:=by omega
   subst hi;simpa[h1,Zr]using h0
 subst yf;have fin:∀{f:FuncId},Calls prog f #[.slice b 0 cap] w (λe w'=>∃a,e= .returned (.slice a 0 0)/\Step w dR w' dR)->Calls cx.P f #[.slice b 0 cap] w (λe w'=>∃v,e= .returned v/\Step w dR w' dR/\Ri w' X v (.ls sz [] z')):=
  λh=>h.mono λe w' ⟨a,he,dq⟩=>⟨_,he,dq,.le _ _ _ _ (by simp[maxLen]) (λ_=>rfl)⟩
 unfold VW at hf;split at hf
 .rename_i e;subst e;exact⟨⟨_,func134,of_decide_eq_true (by kernel_rfl),by kernel_rfl⟩,fin (QW b cap w)⟩
 split at hf
 .rename_i e;subst e;exact⟨⟨_,func135,of_decide_eq_true (by kernel_rfl),by kernel_rfl⟩,fin (aaZ b cap w)⟩
 split at hf
 .rename_i e;subst e;exact⟨⟨_,func133,of_decide_eq_true (by kernel_rfl),by kernel_rfl⟩,fin (aa0 b cap w)⟩
 split at hf
 .rename_i e;subst e;exact⟨⟨_,func136,of_decide_eq_true (by kernel_rfl),by kernel_rfl⟩,fin (aa1 b cap w)⟩
 split at hf
 .rename_i e;subst e;exact⟨⟨_,func399,of_decide_eq_true (by kernel_rfl),by kernel_rfl⟩,fin (VV b cap w)⟩
 split at hf
 .rename_i e;subst e;exact⟨⟨_,func85,of_decide_eq_true (by kernel_rfl),by kernel_rfl⟩,fin (QX b cap w)⟩
 split at hf
 .rename_i e;subst e;exact⟨⟨_,func313,of_decide_eq_true (by kernel_rfl),by kernel_rfl⟩,fin (ad6 b cap w)⟩
 cases hf
end Go.Proofs.YtmfohnojaginjaaGreatDoor
