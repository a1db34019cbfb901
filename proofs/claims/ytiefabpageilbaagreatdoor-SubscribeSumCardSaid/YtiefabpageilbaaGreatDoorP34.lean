/- The machine never takes a draw back: every step leaves 'drawn' as it was or greater. -/
import Derived.Calls
import Derived.StepT
import GoSem.Step
import Derived.Test.YtiefabpageilbaaGreatDoorP15
import Derived.Test.YtiefabpageilbaaGreatDoorP33
import Derived.StringKeys
set_option linter.all false
namespace Go.Ae
open Go
def resW {α:Type}:Result α→World
 | .ok _ w=>w
 | .halt _ w=>w
theorem ask_le {α:Type}:∀(a:Ask α) (w:World),w.drawn≤(w.ask a).2.drawn
 | .done a,w=>by unfold World.ask;exact Nat.le_refl _
 |
  .ask what range k,w=>by
  unfold World.ask;simp only;split
  ·exact ask_le (k 0) w
  ·exact Ye (Nat.le_succ _) (ask_le (k _) {w with drawn:=w.drawn+1})
theorem sys_le (w:World)(c:Sys):w.drawn≤(w.sys c).2.drawn:=by
 unfold World.sys;have:=ask_le (Kernel.perform c w.os) w;split
 ·exact Nat.le_refl _
 ·rename_i h;rw[h]at this;exact this
theorem viewStore_le {w w':World}{p:Program}{at_:Addr}{u:TypeId}{a:Addr}{v:Value}{b:Bool}{c:List Addr}(h:w.viewStore p at_ u a v b= .ok (w',c)):w'.drawn=w.drawn:=by
 unfold World.viewStore at h;simp only[bind,Except.bind,pure,Except.pure]at h
 repeat' first
  |(cases h;done)
  |(simp only[Except.ok.injEq,Zg]at h;obtain⟨rfl,_⟩:=h;rfl)
  |split at h
theorem farStore_le {w w':World}{p:Program}{a:Addr}{v:Value}{b:Bool}{c:List Addr}(h:w.farStore p a v b= .ok (w',c)):w'.drawn=w.drawn:=by
 unfold World.farStore at h;split at h
 ·split at h
  ·rename_i q;cases h;exact viewStore_le q
  ·cases h
 ·cases h
theorem freeze_le (w:World)(a:Addr)(n:Nat):(w.freeze a n).drawn=w.drawn:=by
 unfold World.freeze;split<;>rfl
theorem run_le {α:Type}(p:Program):∀(s:Sem α) (w:World),w.drawn≤(resW (s.run p w)).drawn
 | .pure a,w=>Nat.le_refl _
 |
  .load m a k,w=>by
  unfold Sem.run;split
  ·exact run_le p _ w
  ·split
   ·exact run_le p _ w
   ·exact Nat.le_refl _
 |
  .store m a v k,w=>by
  have hn:∀v,w.drawn≤(resW (match w.cell? a with
   |some _=>if w.frozen? a then Result.halt (.unsupported (.unsafePointer "a write to bytes that a string shares")) w else k.run p (w.setCell a v)
   |
    none=>match w.farStore p a v (m== .atomic)with
    | .ok (w,_)=>k.run p w
    | .error h=> .halt h w)).drawn:=fun v=>by
   split
   ·split
    ·exact Nat.le_refl _
    ·exact run_le p k (w.setCell a v)
   ·split
    ·rename_i h;rw[←farStore_le h];exact run_le p k _
    ·exact Nat.le_refl _
  cases v
  all_goals first
   |exact Nat.le_refl _
   |(unfold Sem.run;exact hn _)
 | .new o k,w=>run_le p (k w.heap.size) {w with heap:=w.heap.push o}
 | .shape r k,w=>run_le p (k (w.shape? r)) w
 |
  .freeze a n k,w=>by
  have:=run_le p k (w.freeze a n);rw[freeze_le]at this;exact this
 | .frozen a k,w=>run_le p (k (w.frozen? a)) w
 |
  .getObj r k,w=>by
  unfold Sem.run;split
  ·exact Nat.le_refl _
  ·exact run_le p _ w
  ·exact Nat.le_refl _
 |
  .setObj r o k,w=>by
  unfold Sem.run;split
  ·exact Nat.le_refl _
  ·exact run_le p k {w with heap:=w.heap.setIfInBounds r o}
  ·exact Nat.le_refl _
 |
  .choose q k,w=>by
  unfold Sem.run;split
  ·exact run_le p _ w
  ·exact Ye (Nat.le_succ _) (run_le p (k _) {w with drawn:=w.drawn+1})
 | .sys c k,w=>Ye (sys_le w c) (run_le p (k (w.sys c).1) (w.sys c).2)
 | .program k,w=>run_le p (k p) w
 | .mark _ k,w=>run_le p k w
 | .halt h,w=>Nat.le_refl _
theorem run_ok {α:Type}{p:Program}{s:Sem α}{w w':World}{a:α}(h:s.run p w= .ok a w'):w.drawn≤w'.drawn:=by
 have:=run_le p s w;rw[h]at this;exact this
theorem run_halt {α:Type}{p:Program}{s:Sem α}{w w':World}{a:Halt}(h:s.run p w= .halt a w'):w.drawn≤w'.drawn:=by
 have:=run_le p s w;rw[h]at this;exact this
def gsOK (w:World):GStep→Prop
 | .go _ w' _=>w.drawn≤w'.drawn
 | .comm _ _ _ _ w' _=>w.drawn≤w'.drawn
 | .spawn _ _ w' _=>w.drawn≤w'.drawn
 | .count _ w' _=>w.drawn≤w'.drawn
 | .timer _ _ w' _=>w.drawn≤w'.drawn
 | .alone _ _ w' _=>w.drawn≤w'.drawn
 | .newcoro _ _ _ w' _=>w.drawn≤w'.drawn
 | .coroswitch _ _ _ w' _=>w.drawn≤w'.drawn
 | .collect _ w' _=>w.drawn≤w'.drawn
 | .watch _ w' _=>w.drawn≤w'.drawn
 | .ended _ _ _=>True
theorem gsOK.up {w w':World}{s:GStep}(h:gsOK w' s)(hw:w.drawn≤w'.drawn):gsOK w s:=by
 cases s<;>first|trivial|exact Ye hw h
@[simp] theorem gsOK_after {w:World}{s:GStep}(es:Array Event):gsOK w (GStep.after es s)↔gsOK w s:=by
 cases s<;>exact Iff.rfl
theorem endWith_ok (w:World)(fd:Nat)(t:ByteArray)(o:Outcome):gsOK w (endWith w fd t o):=by
 unfold endWith;simp only
 repeat' first
  |trivial
  |split
theorem endThrow_ok (fr:Frame)(m:String)(w:World):gsOK w (endThrow fr m w):=Nat.le_refl _
theorem endPrinting_ok (p:Program)(fr:Frame)(v:Value)(w:World):gsOK w (endPrinting p fr v w):=by
 unfold endPrinting;simp only
 repeat' first
  |trivial
  |exact endThrow_ok _ _ _
  |split
theorem endFatal_ok (p:Program)(fr:Frame)(cs:List Frame)(d:Option Dying)(m:String)(w:World):gsOK w (endFatal p fr cs d m w):=by
 unfold endFatal;simp only;generalize(match d,((fr::cs).filter (·.fn<p.funcs.size)).flatMap fun f=>match f.mode with| .panicking c=>c|_=> []with
  |none,[]=>_
  |none,e::older=>_
  |some d,[]=>_
  |some _,_::_=>_:Sem (List (ByteArray × String) × List ByteArray))=s
 split
 ·rename_i h;exact run_ok h
 ·trivial
 ·trivial
theorem writeOn_ok (p:Program)(fr:Frame)(d:Dying)(f:Fatal)(w:World):gsOK w (writeOn p fr d f w):=by
 unfold writeOn;simp only[Sem.runT_eq];split
 ·trivial
 ·split
  ·rename_i h;simp only[Zg]at h;exact run_ok h.1
  ·rename_i h;simp only[Zg]at h;exact run_halt h.1
  ·trivial
  ·trivial
theorem die_ok (p:Program)(fr:Frame)(d:Dying)(w:World):gsOK w (die p fr d w):=by
 unfold die;simp only[Sem.runT_eq]
 repeat' first
  |trivial
  |exact writeOn_ok _ _ _ _ _
  |exact endWith_ok _ _ _ _
  |exact Nat.le_refl _
  |(rename_i h;exact run_ok h)
  |(rename_i h _;exact run_ok h)
  |(rename_i h _ _;exact run_ok h)
  |(rename_i h _ _ _;exact run_ok h)
  |(rename_i h _ _ _ _;exact run_ok h)
  |(rename_i h _ _ _ _ _;exact run_ok h)
  |(rename_i h _ _ _ _ _ _;exact run_ok h)
  |(rename_i h _ _ _ _ _ _ _;exact run_ok h)
  |(rename_i h _ _ _ _ _ _ _ _;exact run_ok h)
  |(rename_i h;exact(endPrinting_ok _ _ _ _).up (run_halt h))
  |simp only[gsOK_after]
  |split
theorem early_ok (p:Program)(fr:Frame)(cs:List Frame)(d:Option Dying)(g:Nat)(w:World):gsOK w (early p fr cs d g w):=by
 unfold early;simp only
 repeat' first
  |trivial
  |exact Nat.le_refl _
  |(rename_i h;exact run_ok h)
  |(rename_i h _;exact run_ok h)
  |(rename_i h _ _;exact run_ok h)
  |(rename_i h _ _ _;exact run_ok h)
  |(rename_i h _ _ _ _;exact run_ok h)
  |(rename_i h _ _ _ _ _;exact run_ok h)
  |(rename_i h _ _ _ _ _ _;exact run_ok h)
  |(rename_i h _ _ _ _ _ _ _;exact run_ok h)
  |(rename_i h _ _ _ _ _ _ _ _;exact run_ok h)
  |(rename_i h _ _ _ _;have:=run_ok h;exact this)
  |simp only[gsOK_after]
  |split
theorem doReturn_ok (p:Program)(b:Bool)(fr:Frame)(cs:List Frame)(d:Option Dying)(v:Value)(w:World):gsOK w (doReturn p b fr cs d v w):=by
 unfold doReturn;simp only
 repeat' first
  |trivial
  |exact Nat.le_refl _
  |split
theorem callDeferred_ok (p:Program)(fr:Frame)(cs:List Frame)(d:Option Dying)(df:Deferred)(w:World):gsOK w (callDeferred p fr cs d df w):=by
 unfold callDeferred;simp only[Sem.runT_eq]
 repeat' first
  |trivial
  |exact Nat.le_refl _
  |(rename_i h;exact run_ok h)
  |(rename_i h _;exact run_ok h)
  |(rename_i h _ _;exact run_ok h)
  |(rename_i h _ _ _;exact run_ok h)
  |(rename_i h _ _ _ _;exact run_ok h)
  |(rename_i h _ _ _ _ _;exact run_ok h)
  |(rename_i h _ _ _ _ _ _;exact run_ok h)
  |(rename_i h _ _ _ _ _ _ _;exact run_ok h)
  |(rename_i h _ _ _ _ _ _ _ _;exact run_ok h)
  |(rename_i h;exact run_halt h)
  |(rename_i h _;exact run_halt h)
  |(rename_i h _ _;exact run_halt h)
  |(rename_i h;exact(endFatal_ok _ _ _ _ _ _).up (run_halt h))
  |(rename_i h;exact(endThrow_ok _ _ _).up (run_halt h))
  |simp only[gsOK_after]
  |split
theorem unwind_ok (p:Program)(b:Bool)(fr:Frame)(cs:List Frame)(d:Option Dying)(w:World):gsOK w (unwind p b fr cs d w):=by
 unfold unwind;simp only[Sem.runT_eq]
 repeat' first
  |trivial
  |exact Nat.le_refl _
  |exact callDeferred_ok _ _ _ _ _ _
  |exact doReturn_ok _ _ _ _ _ _ _
  |exact endPrinting_ok _ _ _ _
  |(rename_i h;exact run_ok h)
  |(rename_i h _;exact run_ok h)
  |(rename_i h _ _;exact run_ok h)
  |(rename_i h;exact(doReturn_ok _ _ _ _ _ _ _).up (run_ok h))
  |simp only[gsOK_after]
  |split
theorem apply_ok (p:Program)(b:Bool)(fr:Frame)(cs:List Frame)(d:Option Dying)(s:Sem Next)(w:World):gsOK w (stepG.apply p b fr cs d s w):=by
 unfold stepG.apply;have hk:=run_le p s w;have h2:(if b=true then s.runT p w #[]else(s.run p w,#[])).1=s.run p w:=by cases b<;>simp[Sem.runT_eq]
 simp only[gsOK_after];generalize(if b=true then s.runT p w #[]else(s.run p w,#[]))=re at h2⊢;obtain⟨r,es⟩:=re;simp only at h2;subst h2;simp only;generalize s.run p w=r at hk⊢;cases r with
 |
  ok a w'=>
  have hk':w.drawn≤w'.drawn:=hk;cases a<;>(try simp only)<;>repeat' first
   |exact hk'
   |exact(endThrow_ok _ _ _).up hk'
   |trivial
   |split
 |
  halt a w'=>
  have hk':w.drawn≤w'.drawn:=hk;cases a<;>(try simp only)<;>repeat' first
   |exact hk'
   |exact(endThrow_ok _ _ _).up hk'
   |exact(endFatal_ok _ _ _ _ _ _).up hk'
   |exact(early_ok _ _ _ _ _ _).up hk'
   |trivial
   |(rename_i q;cases q;done)
   |(rename_i q;cases q;exact(early_ok _ _ _ _ _ _).up hk')
   |split
theorem oper_ok (p:Program)(b:Bool)(fr:Frame)(cs:List Frame)(d:Option Dying)(w:World):gsOK w (stepG.oper p b fr cs d w):=by
 unfold stepG.oper;split
 ·trivial
 ·split<;>exact apply_ok _ _ _ _ _ _ _
theorem elim_ok {α:Type}{w:World}(o:Option α)(a:GStep)(f:α→GStep)(h0:gsOK w a)(h:∀x,gsOK w (f x)):gsOK w (o.elim a f):=by
 cases o<;>first|exact h0|exact h _
theorem exec_ok (p:Program)(main b:Bool)(fr:Frame)(cs:List Frame)(d:Option Dying)(w:World):gsOK w (stepG.exec p main b fr cs d w):=by
 unfold stepG.exec;simp only[Sem.runT_eq]
 repeat' first
  |trivial
  |exact Nat.le_refl _
  |exact apply_ok _ _ _ _ _ _ _
  |exact oper_ok _ _ _ _ _ _
  |(rename_i h;exact(apply_ok _ _ _ _ _ _ _).up (run_ok h))
  |(rename_i h;exact(doReturn_ok _ _ _ _ _ _ _).up (run_ok h))
  |(rename_i h;exact run_ok h)
  |(rename_i h;exact run_halt h)
  |simp only[gsOK_after]
  |refine elim_ok _ _ _ ?_ fun _=>?_
  |split
theorem stepG_ok (p:Program)(main:Bool)(g:Goroutine)(w:World)(b:Bool):gsOK w (stepG p main g w b):=by
 obtain⟨fr,callers,status,dying,offers⟩:=g;simp only[stepG];split
 ·exact die_ok _ _ _ _
 ·exact exec_ok _ _ _ _ _ _ _
 ·exact unwind_ok _ _ _ _ _ _
theorem waitingAt_ok {rest:Rest}{cs:Array CommCase}{w w':World}(h:waitingAt rest cs w=some w'):w'.drawn=w.drawn:=by
 unfold waitingAt at h;split at h
 ·split at h
  ·cases h;rfl
  ·cases h
 ·cases h;rfl
theorem communicate_ok (p:Program)(rest:Rest)(gs:Array Goroutine)(i:Nat)(g:Goroutine)(cases:Array CommCase)(bl:Bool)(sh:CommShape)(w:World)(m':Machine)
 (h:(communicate p rest gs i g cases bl sh w).1= .next m'):w.drawn≤m'.world.drawn:=by
 unfold communicate at h;simp only[]at h
 repeat' first
  |(simp at h;done)
  |(simp only[Stepped.next.injEq]at h;subst h;exact Nat.le_refl _)
  |(simp only[Stepped.next.injEq]at h;subst h;rename_i q;exact Nat.le_of_eq (waitingAt_ok q).symm)
  |(
   simp only[Stepped.next.injEq]at h;subst h;dsimp only
   repeat' first
    |exact Nat.le_refl _
    |refine Ye ?_ (run_ok ‹_›)
    |refine Ye ?_ (run_halt ‹_›)
   done)
  |split at h
theorem look_ok (p:Program)(gs:Array Goroutine)(rest:Rest)(w:World)(m':Machine)(h:look p gs rest w= .next m'):w.drawn≤m'.world.drawn:=by
 unfold look at h;simp only[]at h
 repeat' first
  |(simp at h;done)
  |(simp only[Stepped.next.injEq]at h;subst h;rename_i q;have:=run_ok q;exact this)
  |split at h
theorem drain_ok (w:World)(c:Nat):(drain w c).2.drawn=w.drawn:=by
 unfold drain;split<;>rfl
theorem retime_ok (m:Machine)(k:Nat)(t:Timer)(a b:Nat):(retime m k t a b).2.world.drawn=m.world.drawn:=by
 unfold retime;cases t.chan with
 |none=>rfl
 |some c=>exact drain_ok _ _
theorem retime_eq {m m':Machine}{k:Nat}{t:Timer}{a b:Nat}{v:Value}(h:retime m k t a b=(v,m')):m'.world.drawn=m.world.drawn:=by
 have:=retime_ok m k t a b;rw[h]at this;exact this
theorem timerOp_ok (m m':Machine)(op:TimerOp)(v:Value)(h:timerOp m op= .ok (v,m')):m'.world.drawn=m.world.drawn:=by
 unfold timerOp at h;split at h
 ·split at h
  ·simp only[Except.ok.injEq,Zg]at h;rw[←h.2];rfl
  ·split at h
   ·split at h
    ·cases h
    ·simp only[Except.ok.injEq,Zg]at h;rw[←h.2]
   ·cases h
 ·unfold timerOp.named at h;split at h
  ·simp only[Except.ok.injEq]at h;exact retime_eq h
  ·cases h
 ·split at h
  ·rename_i m2 hm;have e:m2.world.drawn=m.world.drawn:=by
    unfold timerOp.opened at hm;split at hm
    ·split at hm
     ·cases hm;rfl
     ·cases hm
    ·cases hm;rfl
   unfold timerOp.named at h;split at h
   ·simp only[Except.ok.injEq]at h;rw[←e];exact retime_eq h
   ·cases h
  ·cases h
 ·simp only[Except.ok.injEq,Zg]at h;rw[←h.2];rfl
theorem endThrow_next {fr:Frame}{m:String}{w w':World}{g:Goroutine}{es:Array Event}(h:endThrow fr m w= .go g w' es):w'=w:=by
 unfold endThrow dieOf at h;simp only[GStep.go.injEq]at h;exact h.2.1.symm
theorem runT_ok (p:Program)(m m':Machine)(i:Nat)(b:Bool)(h:(runT p m i b).1= .next m'):m.world.drawn≤m'.world.drawn:=by
 simp only[runT]at h
 revert h
 generalize m.gs.swapAt! _ _=gg
 have hk:=stepG_ok p (i==0) gg.1 m.world b
 revert hk
 generalize stepG p _ gg.1 m.world b=s;intro hk h;cases s<;>simp only[]at h
 all_goals first
  |(simp at h;done)
  |exact Ye hk (communicate_ok _ _ _ _ _ _ _ _ _ _ h)
  |exact Ye hk (look_ok _ _ _ _ _ h)
  |(simp only[Stepped.next.injEq]at h;subst h;exact hk)
  |(repeat' first
   |(simp at h;done)
   |(simp only[Stepped.next.injEq]at h;subst h;exact hk)
   |(simp only[Stepped.next.injEq]at h;subst h;rename_i q;exact Ye hk (Nat.le_of_eq (timerOp_ok _ _ _ _ q).symm))
   |(simp only[Stepped.next.injEq]at h;subst h;rename_i q;rw[endThrow_next q];exact hk)
   |split at h)
theorem serve_ok (p:Program)(m m':Machine)(k:Nat)(h:serve p m k= .next m'):m.world.drawn≤m'.world.drawn:=by
 unfold serve at h;simp only[]at h
 repeat' first
  |(simp at h;done)
  |(simp only[Stepped.next.injEq]at h;subst h;exact Nat.le_refl _)
  |split at h
def mvOK (n:Nat):Move→Prop
 | .goroutine m _=>n≤m.world.drawn
 | .machine (.next m) _=>n≤m.world.drawn
 | .machine _ _=>True
theorem mvOK_serve {n:Nat}{p:Program}{m:Machine}{k:Nat}{ops:Array MemOp}(h:n≤m.world.drawn):mvOK n (.machine (serve p m k) ops):=by
 cases hs:serve p m k with
 |next m'=>exact Ye h (serve_ok _ _ _ _ hs)
 |ended o w=>trivial
theorem askOn_ok (p:Program)(m:Machine):mvOK m.world.drawn (askOn p m):=by
 unfold askOn;simp only[]
 repeat' first
  |trivial
  |(rename_i q;exact mvOK_serve (run_ok q))
  |(rename_i q _;exact mvOK_serve (run_ok q))
  |(
   simp only[mvOK]
   repeat' first
    |exact Nat.le_refl _
    |refine Ye ?_ (run_ok ‹_›)
    |dsimp only[Machine.advanceTo]
   done)
  |split
theorem ask_ok (p:Program)(m:Machine):mvOK m.world.drawn (ask p m):=by
 unfold ask;have up:∀{a b:Nat} {v:Move},a≤b→mvOK b v→mvOK a v:=fun{a b v} h k=>by
  cases v with
  |goroutine m i=>exact Ye h k
  |machine s ops=>cases s<;>first|exact Ye h k|trivial
 split
 ·split
  ·trivial
  ·rename_i q;split
   ·rename_i q2;exact up (Ye (run_ok q) (look_ok _ _ _ _ _ q2)) (askOn_ok _ _)
   ·rename_i q2;have:∀s:Stepped,(∀m,s≠ .next m)→mvOK m.world.drawn (.machine s):=fun s hs=>by
     cases s with
     |next m=>exact absurd rfl (hs m)
     |ended o w=>trivial
    exact this _ fun m' e=>q2 m' e
  ·rename_i q;exact up (run_ok q) (askOn_ok _ {m with world:=_})
 ·exact askOn_ok p m
theorem move_ok (p:Program)(m:Machine):mvOK m.world.drawn (move p m):=by
 unfold move
 repeat' first
  |trivial
  |exact Nat.le_refl _
  |exact ask_ok p m
  |exact ask_ok p {m with rest:={m.rest with slice:=none}}
  |split
theorem step_drawn {p:Program}{m m':Machine}(h:step p m= .next m'):m.world.drawn≤m'.world.drawn:=by
 unfold step stepT at h;have hm:=move_ok p m;cases hv:move p m with
 |
  goroutine m2 i=>
  rw[hv]at h hm;exact Ye hm (runT_ok _ _ _ _ _ h)
 |
  machine s ops=>
  rw[hv]at h hm;simp only at h;subst h;exact hm
theorem steps_drawn {p:Program}{m m':Machine}(h:Steps p m m'):m.world.drawn≤m'.world.drawn:=by
 obtain⟨n,hn⟩:=h
 induction n generalizing m with
 |
  zero=>
  simp only[runN,Stepped.next.injEq]at hn;subst hn;exact Nat.le_refl _
 |
  succ n ih=>
  unfold runN at hn;cases hs:step p m with
  |
   next m1=>
   rw[hs]at hn;exact Ye (step_drawn hs) (ih hn)
  |
   ended o w=>
   rw[hs]at hn;cases hn
theorem calls_drawn {P:Program}{f:FuncId}{args:Array Value}{w:World}{R:Ending→World→Prop}(h:Calls P f args w R)(hR:∀w',¬R .outgrown w'):Calls P f args w fun e w'=>R e w'∧w.drawn≤w'.drawn:=fun cs=>by
 obtain⟨e,w',fr,h1,h2,h3⟩:=h cs;have hs:Steps P (lone (Frame.enter P f args .normal) cs w) (lone fr cs w'):=by
  cases e with
  |outgrown=>exact absurd h1 (hR w')
  |returned v=>exact h2
  |panicked c=>exact h2
 exact⟨e,w',fr,⟨h1,steps_drawn hs⟩,h2,h3⟩
end Go.Ae
namespace Go.Proofs.YtiefabpageilbaaGreatDoor
open Go Go.Ae Go.RowKit Go.Maps Go.Sort Go.Shelf
theorem insert_perm {H:Type}(x:Lit × DataW H):∀l:List (Lit × DataW H),(DataW.insert x l).Perm (x::l)
 | []=> .refl _
 |
  y::r=>by
  unfold DataW.insert;split
  ·exact .refl _
  ·exact((insert_perm x r).cons y).trans (.swap x y r)
theorem foldr_perm {H:Type}:∀l:List (Lit × DataW H),(l.foldr DataW.insert []).Perm l
 | []=> .refl _
 |x::l=>(insert_perm x _).trans ((foldr_perm l).cons x)
def byt (s:ByteArray):List UInt8:=s.data.toList
theorem insS_perm (x:ByteArray):∀l:List ByteArray,(insS x l).Perm (x::l)
 | []=> .refl _
 |
  y::r=>by
  unfold insS;split
  ·exact .refl _
  ·exact((insS_perm x r).cons y).trans (.swap x y r)
theorem sortS_perm :∀l:List ByteArray,(sortS l).Perm l
 | []=> .refl _
 |x::l=>(insS_perm x _).trans ((sortS_perm l).cons x)
theorem insS_sorted (x:ByteArray):∀l:List ByteArray,l.Pairwise (fun a b=>leS a b=true)→(insS x l).Pairwise (fun a b=>leS a b=true)
 | [],_=>List.pairwise_singleton _ _
 |
  y::r,h=>by
  unfold insS;have h1:=List.pairwise_cons.1 h;split
  ·rename_i hxy;refine List.pairwise_cons.2 ⟨fun z hz=>?_,h⟩;rcases List.mem_cons.1 hz with rfl|hz
   ·exact hxy
   ·have h2:=h1.1 z hz;simp only[leS,Zx]at *;exact List.le_trans hxy h2
  ·rename_i hxy;have hyx:leS y x=true:=by
    simp only[leS,Zx]at *;exact(List.le_total _ _).resolve_left hxy
   refine List.pairwise_cons.2 ⟨fun z hz=>?_,insS_sorted x r h1.2⟩;rcases List.mem_cons.1 ((insS_perm x r).mem_iff.1 hz)with rfl|hz
   ·exact hyx
   ·exact h1.1 z hz
theorem sortS_sorted :∀l:List ByteArray,(sortS l).Pairwise (fun a b=>leS a b=true)
 | []=>List.Pairwise.nil
 |x::l=>insS_sorted x _ (sortS_sorted l)
theorem sort_eq {ss:List (List UInt8)}{ks:List ByteArray}(h:ss.Perm (ks.map byt)):ss.mergeSort (fun x y=>decide (x≤y))=(sortS ks).map byt:=by
 have tr:∀a b c:List UInt8,leB a b=true→leB b c=true→leB a c=true:=fun a b c h1 h2=>by simp only[leB,Zx]at *;exact List.le_trans h1 h2
 have to:∀a b:List UInt8,(leB a b||leB b a)=true:=fun a b=>by simp only[leB,Bool.or_eq_true,Zx];exact List.le_total a b
 refine List.Perm.eq_of_pairwise (le:=fun a b=>leB a b=true) (fun a b _ _ h1 h2=>?_) (List.pairwise_mergeSort tr to ss) ?_ (((List.mergeSort_perm ss leB).trans h).trans ((sortS_perm ks).map byt).symm)
 ·simp only[leB,Zx]at h1 h2;exact List.le_antisymm h1 h2
 ·exact List.pairwise_map.2 (sortS_sorted ks)
theorem below_step {w w':World}(h:Below w.heap.size w w')(hd:w.drawn≤w'.drawn):Step w none' w' none':={
 os:=h.os
 tape:=h.tape
 output:=h.output
 size:=h.size
 keep:=fun b hb _=>h.block b hb
 row:=fun b cur t fz hb=>⟨cur,t,fz,(h.block b (heap_lt hb)).trans hb,rfl⟩
 less:=fun _ _ h=>h
 drew:=hd}
set_option maxHeartbeats 1000000 in
theorem sort_ok :SortOK cx 272 311:=by
 refine⟨⟨_,Tryz.func272,of_decide_eq_true (by kernel_rfl),by kernel_rfl⟩,fun w bx id ms clock ks hcell hid hborn hnd hkeys hknd hksz hlen=>?_⟩;have hkey:∀x∈ms.toList,∃s:ByteArray,x.key= .string s∧s.size≤maxLen:=fun x hx=>by
  have:x.key∈ks.map Value.string:=by rw[←hkeys];exact Yc.2 ⟨x,hx,rfl⟩
  obtain⟨s,hs,e⟩:=Yc.1 this;exact⟨s,e.symm,hksz s hs⟩
 have hsize:ms.size=ks.length:=by have:=congrArg List.length hkeys;simpa using this
 have hrd:∀x∈ms.toList,∀s:ByteArray,x.key= .string s→s.size≤maxLen→WideElems.rd cx.P 9 (fun _=>some ((.nil:DataW Unit),[])) x=some (.string s.data.toList,.nil):=fun x _ s e hs=>by
  unfold WideElems.rd;rw[e,WideMaps.keyOf_string_mk (P:=cx.P) Tryz.underlying9 hs];rfl
 have F:WideElems.Fit cx.P 9 (fun _=>some ((.nil:DataW Unit),[])) ms clock:=by
  refine⟨by unfold maxLen;omega,⟨hborn,hnd,?_⟩,fun x hx=>?_⟩
  ·rw[hkeys];exact List.pairwise_map.2 (hknd.imp fun{a b} hne e=>hne (by injection e))
  ·obtain⟨s,e,hs⟩:=hkey x hx;exact⟨_,hrd x hx s e hs⟩
 have hown:w.ownsMap cx.P 9 (fun _=>some ((.nil:DataW Unit),[])) id ms.size (.map ((ms.toList.map (WideElems.rg cx.P 9 (fun _=>some ((.nil:DataW Unit),[])))).foldr DataW.insert [])):=⟨ms,clock,hid,F,Nat.le_refl _,rfl⟩;have hbx:bx<w.heap.size:=by
  unfold World.cell? at hcell;cases hb:w.heap[bx]? with
  |none=>simp[hb]at hcell
  |some o=>exact heap_lt hb
 have hstr:(strKeys (.map ((ms.toList.map (WideElems.rg cx.P 9 (fun _=>some ((.nil:DataW Unit),[])))).foldr DataW.insert []):DataW Unit)).Perm (ks.map byt):=by
  refine((foldr_perm _).map _).trans (List.Perm.of_eq ?_);rw[List.map_map];have:(ms.toList.map (·.key)).map (fun v=>match v with| .string s=>byt s|_=> [])=(ks.map Value.string).map (fun v=>match v with| .string s=>byt s|_=> []):=by rw[hkeys]
  rw[List.map_map,List.map_map]at this;refine(List.map_congr_left fun x hx=>?_).trans this;obtain⟨s,e,hs⟩:=hkey x hx;simp only[Function.comp,WideElems.rg_of (hrd x hx s e hs),e];rfl
 have hN:Maps.size (.map ((ms.toList.map (WideElems.rg cx.P 9 (fun _=>some ((.nil:DataW Unit),[])))).foldr DataW.insert []):DataW Unit)=ks.length:=by
  show(List.foldr DataW.insert [] _).length=_;rw[(foldr_perm _).length_eq,List.length_map,←hsize,Array.length_toList]
 have hseq:SeqGives Fence.wide 2 cx.P 311 #[.pointer (some ⟨bx,0,none⟩)] encStr (fun ss=>ss.Perm (strKeys (.map ((ms.toList.map (WideElems.rg cx.P 9 (fun _=>some ((.nil:DataW Unit),[])))).foldr DataW.insert []):DataW Unit))) _ w:=
  AnyZ.keys_gives (ρ:=Tryz.keys273_ren) {Tryz.keys273 with} Fence.wide _ trivial rfl (by omega) bx id ms.size _ w hbx hcell hown
 have hcall:=callsIn_wide.1 (AnyZ.sorted_in Tryz.sorted272 Fence.wide 5 trivial trivial trivial trivial rfl (by omega) (Tryz.sorts272 _) (enters_of Tryz.func310 (by kernel_rfl) rfl) 311 #[.pointer (some ⟨bx,0,none⟩)] trivial (enters_of Tryz.func311 (by kernel_rfl) rfl) _ _ (by rw[hN];unfold maxLen;omega) (by rw[hN];omega) w hseq);refine(calls_drawn hcall (fun w' ⟨v,ss,he,_⟩=>by cases he)).mono ?_;rintro e w' ⟨⟨v,ss,rfl,hS,hrow,hnil,hb⟩,hd⟩;have hp:=hS.trans hstr;have hse:=sort_eq hp;have hl:ss.length=ks.length:=by rw[hp.length_eq,List.length_map]
 refine⟨v,rfl,below_step hb hd,?_⟩;by_cases h0:ks=[]
 ·left;refine⟨h0,hnil.2 (Zl (by rw[hl,h0];rfl))⟩
 ·right;have hpos:0<ks.length:=List.length_pos_iff.2 h0;refine⟨h0,?_⟩;obtain⟨hlen',hh⟩:=hrow;rcases hh with⟨_,hz⟩|⟨B,cap,cur,rfl,hB,hcur,c1,c2,c3,c4⟩
  ·omega
  ·refine⟨B,cap,cur,_,by rw[hl],hB,hcur,by omega,c2,by omega,fun k s hk=>?_⟩;rw[hse]at c4;have hk':((((sortS ks).map byt).map encStr))[k]?=some (.string s):=by
    rw[List.map_map,Zs,hk];show some (encStr (byt s))=_;simp[encStr,byt]
   rw[←c4,List.getElem?_take]at hk';split at hk'
   ·simpa using hk'
   ·cases hk'
end Go.Proofs.YtiefabpageilbaaGreatDoor
