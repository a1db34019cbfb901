/- Part of the proof. -/
import Derived.Test.YtaibpnppeiigdaaGreatDoorP5
import Derived.LoopN
import Derived.Defers
import Derived.Sort.AssemblyPlain
set_option linter.all false
namespace Go.Ae
open Go
def codeOk (C:Cx):Code->Bool
 | .region _ ops true=>rok C ops
 | .seq a b=>codeOk C a && codeOk C b
 | .cond _ a b=>codeOk C a && codeOk C b
 | .block _ c=>codeOk C c
 | .loop c=>codeOk C c
 |_=>true
structure Nb (C:Cx):Prop where
 mixed:C.P.follows .mixedOrders=true
 types:∀t i,C.T t=some i->f_ C.P t=some i
 aeB:∀f fi,C.F f=some fi->Pv C.P f=some fi/\codeOk C fi.body=true/\∀fn,C.P.funcs[f]?=some fn->fn.name≠ "runtime.NumGoroutine"
section exec
variable {C : Cx} {call : Bool -> FuncId -> List AV -> Hp -> Option (AV × Hp)}
def nL (hC:Nb C)(dy:∀b,lj C (call b))(eK:∀g xs h r h',C.inl g=false->call false g xs h=some (r,h')->h'=h){X:Nat->Prop}:
 ∀(c:Code),codeOk C c=true->∀(s s':St) (out:Out),exec C call c s=some (out,s')->∀(a:Act) (w:World) (ρ:Nat->Nat) (Q:Exit->Act->World->Prop),iw C.G w X ρ s.2->RF w (fj X ρ s.2) ρ s.2.length a.tmps s.1->
  (∀a' w' ρ',Ext C.G w X ρ s.2 w' ρ' s'.2->RF w' (fj X ρ' s'.2) ρ' s'.2.length a'.tmps s'.1->a'.defers=a.defers->Q (G2 out) a' w')->c.wp C.P Q a w:=by
 intro c
 induction c with
 |
  skip=>
  intro _ s s' out he a w ρ Q hs hf hQ;simp only[exec,Zc,Zg]at he;obtain⟨rfl,rfl⟩:=he;exact wp_skip (hQ a w ρ (Ext.refl hs) hf rfl)
 |
  label l=>
  intro _ s s' out he a w ρ Q hs hf hQ;simp only[exec,Zc,Zg]at he;obtain⟨rfl,rfl⟩:=he;exact wp_label (hQ a w ρ (Ext.refl hs) hf rfl)
 |
  exit id=>
  intro _ s s' out he a w ρ Q hs hf hQ;simp only[exec,Zc,Zg]at he;obtain⟨rfl,rfl⟩:=he;exact wp_exit (hQ a w ρ (Ext.refl hs) hf rfl)
 |
  ret=>
  intro _ s s' out he a w ρ Q hs hf hQ;simp only[exec,Zc,Zg]at he;obtain⟨rfl,rfl⟩:=he;exact wp_ret (hQ a w ρ (Ext.refl hs) hf rfl)
 |
  region id ops draw=>
  intro iG s s' out he a w ρ Q hs hf hQ;simp only[exec]at he;cases draw with
  |
   false=>
   simp only[Yq,if_false]at he;refine wp_region ?_;have:=E3 hC.types (dy true) ops.toList 0 s s' out (by simp) he a w ρ hs hf hQ;simpa using this
  |
   true=>
   simp only[if_true]at he;split at he
   .rename_i mX hr;split at he
    .rename_i dJ;simp only[Ze,Zg]at he;obtain⟨s1,hl,rfl,rfl⟩:=he;exact Nt hC.mixed hC.types (dy false) eK iG hr dJ hl hs hf hQ
    .cases he
   .unfold wR at he;split at he
    .obtain⟨v,h',rfl,rfl,hd⟩:=Si he;exact XD hC.mixed hC.types (dy false) eK iG hd hs hf λa' w' ρ' h1 h2 h3=>hQ a' w' ρ' h1 h2 h3
    .cases he
 |
  seq x y O6 XE=>
  intro iG s s' out he a w ρ Q hs hf hQ;simp only[codeOk,Zh]at iG;simp only[exec]at he;refine wp_seq ?_;split at he
  .rename_i s1 h1;refine O6 iG.1 s s1 .normal h1 a w ρ _ hs hf λa1 w1 ρ1 e1 aa d1=>?_
   show y.wp C.P Q a1 w1;exact XE iG.2 s1 s' out he a1 w1 ρ1 Q e1.wO aa λa2 w2 ρ2 e2 ae d2=>hQ a2 w2 ρ2 (e1.trans e2) ae (d2.trans d1)
  .rename_i hn;refine O6 iG.1 s s' out he a w ρ _ hs hf λa1 w1 ρ1 e1 aa d1=>?_
   cases out with
   |normal=>exact absurd he (by intro h;exact hn s' h)
   |exit id=>exact hQ a1 w1 ρ1 e1 aa d1
   |ret=>exact hQ a1 w1 ρ1 e1 aa d1
   |vE u=>exact hQ a1 w1 ρ1 e1 aa d1
 |
  cond c x y O6 XE=>
  intro iG s s' out he a w ρ Q hs hf hQ;simp only[codeOk,Zh]at iG;simp only[exec]at he;have hc:=eH hs hf c;split at he
  .rename_i hv;rw[hv]at hc;exact wp_cond_true hc.eF.1 (O6 iG.1 s s' out he a w ρ Q hs hf hQ)
  .rename_i hv;rw[hv]at hc;exact wp_cond_false hc.eF.1 (XE iG.2 s s' out he a w ρ Q hs hf hQ)
  .cases he
 |
  block id c ih=>
  intro iG s s' out he a w ρ Q hs hf hQ;simp only[codeOk]at iG;simp only[exec]at he;refine wp_block ?_;split at he
  .rename_i i s1 h1;simp only[Zc,Zg]at he;obtain⟨ho,rfl⟩:=he;refine ih iG s s1 (.exit i) h1 a w ρ _ hs hf λa1 w1 ρ1 e1 aa d1=>?_
   have hq:=hQ a1 w1 ρ1 e1 aa d1;rw[<-ho]at hq;show(if i=id then Q .normal a1 w1 else Q (.exit i) a1 w1);by_cases hi:i=id
   .rw[dd hi];rw[dd hi]at hq;exact hq
   .rw[db hi];rw[db hi]at hq;exact hq
  .rename_i hn;refine ih iG s s' out he a w ρ _ hs hf λa1 w1 ρ1 e1 aa d1=>?_
   cases out with
   |normal=>exact hQ a1 w1 ρ1 e1 aa d1
   |exit i=>exact absurd he (hn i s')
   |ret=>exact hQ a1 w1 ρ1 e1 aa d1
   |vE u=>exact hQ a1 w1 ρ1 e1 aa d1
 |
  loop c ih=>
  intro iG s s' out he a w ρ Q hs hf hQ;simp only[codeOk]at iG;simp only[exec]at he;refine wp_loop_rounds C.fuel ?_;have key:∀(n:Nat) (s:St) (a1:Act) (w1:World) (ρ1:Nat->Nat),tK (exec C call c) n s=some (out,s')->iw C.G w1 X ρ1 s.2->RF w1 (fj X ρ1 s.2) ρ1 s.2.length a1.tmps s.1->
   (∀a' w' ρ',Ext C.G w1 X ρ1 s.2 w' ρ' s'.2->RF w' (fj X ρ' s'.2) ρ' s'.2.length a'.tmps s'.1->a'.defers=a1.defers->Q (G2 out) a' w')->Code.rounds C.P c Q n a1 w1:=by
   intro n
   induction n with
   |zero=>intro s a1 w1 ρ1 hl;simp[tK]at hl
   |
    succ n ihn=>
    intro s a1 w1 ρ1 hl LN KL hQ1;simp only[tK]at hl;rw[rounds_succ];split at hl
    .rename_i s1 h1;refine ih iG s s1 .normal h1 a1 w1 ρ1 _ LN KL λa2 w2 ρ2 e2 ae d2=>?_
     show Code.rounds C.P c Q n a2 w2;exact ihn s1 a2 w2 ρ2 hl e2.wO ae λa3 w3 ρ3 e3 af d3=>hQ1 a3 w3 ρ3 (e2.trans e3) af (d3.trans d2)
    .rename_i hn;refine ih iG s s' out hl a1 w1 ρ1 _ LN KL λa2 w2 ρ2 e2 ae d2=>?_
     cases out with
     |normal=>exact absurd hl (by intro h;exact hn s' h)
     |exit id=>exact hQ1 a2 w2 ρ2 e2 ae d2
     |ret=>exact hQ1 a2 w2 ρ2 e2 ae d2
     |vE u=>exact hQ1 a2 w2 ρ2 e2 ae d2
  exact key C.fuel s a w ρ he hs hf hQ
 |
  _=>
  intro _ s s' out he;simp[exec]at he
end exec
def Nv {C:Cx}{w:World}{X:Nat->Prop}{ρ:Nat->Nat}{s:St}(hs:iw C.G w X ρ s.2){tmps:Array Value}(hf:RF w (fj X ρ s.2) ρ s.2.length tmps s.1):
 ∀(rs:List ResultVar) (rvs:List Rv) (xs:List AV),
  (rs.mapM λ(r:ResultVar)=>match r with
   | .tmp t=>some (Rv.tmp t)
   | .cell a t=>match C.P.info? t,C.P.underlying t with|some i,some d=>some (Rv.cell a i.size (ti d))|_,_=>none)=some rvs->
  rvs.mapM (ye s)=some xs->∃vs:List Value,(rs.mapM (m:=Sem) λ(r:ResultVar)=>match r with| .tmp t=>pure (tmps.getD t undef)| .cell a t=>do loadVar t (<-asAddr (tmps.getD a undef))).run C.P w= .ok vs w/\
   vs.length=xs.length/\∀(k:Nat) (x:AV),xs[k]?=some x->Rp w (fj X ρ s.2) ρ s.2.length (vs.getD k undef) x
 |
  [],rvs,xs,h1,h2=>by
  simp at h1;subst h1;simp at h2;subst h2;exact⟨[],by simp,rfl,by simp⟩
 |
  r::rs,rvs,xs,h1,h2=>by
  simp only[Zo,Option.bind_eq_bind,Yh,Option.pure_def,Zc]at h1;obtain⟨q,hq,qs,hqs,rfl⟩:=h1;simp only[Zo,Option.bind_eq_bind,Yh,Option.pure_def,Zc]at h2;obtain⟨y,hy,ys,wL,rfl⟩:=h2;obtain⟨vs,GD,yM,X9⟩:=Nv hs hf rs qs ys hqs wL;have slot:∀t,Rp w (fj X ρ s.2) ρ s.2.length (tmps.getD t undef) (s.1.getD t .ud):=λt=>by
   cases ht:s.1[t]? with
   |some z=>have:=hf.2 t z ht;simpa[List.getD,ht]using this
   |none=>simp[List.getD,ht];exact .im (.ud _)
  have one:∃v,(match r with| .tmp t=>pure (tmps.getD t undef)| .cell a t=>do loadVar t (<-asAddr (tmps.getD a undef)):Sem Value).run C.P w= .ok v w/\Rp w (fj X ρ s.2) ρ s.2.length v y:=by
   cases r with
   |
    tmp t=>
    simp only[Zc]at hq;subst hq;simp only[ye,Zc]at hy;subst hy;exact⟨_,rfl,slot t⟩
   |
    cell a t=>
    simp only at hq;split at hq
    .rename_i i d hi hd;simp only[Zc]at hq;subst hq;simp only[ye]at hy;have KS:=slot a;split at hy
     .rename_i id off U4;rw[U4]at KS;obtain⟨e1,e2⟩:=KS.oq;split at hy
      .rename_i cs dC;obtain⟨dA,t0,fz,us,c1,c3⟩:=hs.cells dC;obtain⟨v,hv,hr⟩:=BZ (ρ:=ρ) (n:=s.2.length) (X:=fj X ρ s.2) hd hi (o:=0) c1 (us:=us) (cs:=cs) (λk x hk=>by simpa using c3 k x hk) hy;refine⟨v,?_,hr⟩;simp only[Xb]at hv;simp only[e1,asAddr,Sem.run_bind,Sem.run_pure,Result.andThen_ok,hv]
      .cases hy
     .cases hy
    .cases hq
  obtain⟨v,hv,hr⟩:=one;refine⟨v::vs,?_,by simp[yM],λk x hk=>?_⟩
  .simp only[Zo,Sem.run_bind,hv,Result.andThen_ok,GD,Sem.run_pure]
  .cases k with
   |zero=>simp at hk;subst hk;simpa using hr
   |succ k=>simp at hk;simpa[List.getD]using X9 k x hk
def E6 {P:Program}{f:FuncId}{fi:Fi}(h:Pv P f=some fi):∃fn,P.funcs[f]?=some fn/\fn.body=some fi.body/\fi.ntmps=fn.ntmps/\
 (fn.results.toList.mapM λ(r:ResultVar)=>match r with
  | .tmp t=>some (Rv.tmp t)
  | .cell a t=>match P.info? t,P.underlying t with|some i,some d=>some (Rv.cell a i.size (ti d))|_,_=>none)=some fi.res:=by
 unfold Pv at h;split at h
 .rename_i fn wz;split at h
  .rename_i c hc;simp only[Ze]at h;obtain⟨res,rJ,rfl⟩:=h;exact⟨fn,wz,hc,rfl,rJ⟩
  .cases h
 .cases h
def nN {C:Cx}{w:World}{X:Nat->Prop}{ρ:Nat->Nat}{s:St}(hs:iw C.G w X ρ s.2){tmps:Array Value}(hf:RF w (fj X ρ s.2) ρ s.2.length tmps s.1){fn:Func}{fi:Fi}
 (rJ:(fn.results.toList.mapM λ(r:ResultVar)=>match r with
  | .tmp t=>some (Rv.tmp t)
  | .cell a t=>match C.P.info? t,C.P.underlying t with|some i,some d=>some (Rv.cell a i.size (ti d))|_,_=>none)=some fi.res) {r:AV} (hr:vF fi s=some r):
 ∃v,(results fn tmps).run C.P w= .ok v w/\Rp w (fj X ρ s.2) ρ s.2.length v r:=by
 have hm:∀vs:List Value,(fn.results.toList.mapM (m:=Sem) λ(r:ResultVar)=>match r with| .tmp t=>pure (tmps.getD t undef)| .cell a t=>do loadVar t (<-asAddr (tmps.getD a undef))).run C.P w= .ok vs w->
  (results fn tmps).run C.P w= .ok (if h:vs.toArray.size=1 then vs.toArray[0]else .tuple vs.toArray) w:=by
  intro vs J0;unfold results;simp only[Sem.run_bind];rw[Array.mapM_eq_mapM_toList,Sem.run_map];exact congrArg (λz:Result (List Value)=>(z.andThen λa w'=>Result.ok a.toArray w').andThen λ(a:Array Value) w'=>Sem.run C.P (pure (if h:a.size=1 then a[0]else Value.tuple a)) w') J0
 unfold vF at hr;split at hr
 .rename_i t ht;have h1:[t].mapM (ye s)=some [r]:=by simp[hr]
  rw[ht]at rJ;obtain⟨vs,GD,yM,X9⟩:=Nv hs hf _ _ _ rJ h1;refine⟨_,hm vs GD,?_⟩;cases vs with
  |nil=>simp at yM
  |
   cons v vs=>
   have:vs=[]:=by simpa using yM
   subst this;simpa using X9 0 r rfl
 .rename_i eW;simp only[Ze]at hr;obtain⟨xs,hxs,rfl⟩:=hr;obtain⟨vs,GD,yM,X9⟩:=Nv hs hf _ _ _ rJ hxs;refine⟨_,hm vs GD,?_⟩;have hl:vs.length≠1:=by
   intro h1;have h2:=(ir hxs).1;rw[<-yM,h1]at h2
   match hq:fi.res with
   | []=>rw[hq]at h2;simp at h2
   | [t]=>exact eW t hq
   |_::_::_=>rw[hq]at h2;simp at h2
  rw[dif_neg (by simpa using hl)];refine .tp _ _ (by simpa using yM) λk x hk=>?_
  have:=X9 k x hk;simpa[List.getD,Zr]using this
def Kv {w:World}{X:Nat->Prop}{ρ:Nat->Nat}{n m m':Nat}{vs:Array Value}{xs:List AV}(hl:vs.size=xs.length)(hm:m=m')(hv:∀(k:Nat) (x:AV),xs[k]?=some x->Rp w X ρ n (vs.getD k undef) x):
 RF w X ρ n (vs++Array.replicate (m-vs.size) undef) (xs++List.replicate (m'-xs.length) .un):=by
 subst hm;refine⟨by simp[hl],λi x hx=>?_⟩;by_cases hi:i<xs.length
 .rw[Zd hi]at hx;have pQ:i<vs.size:=by omega
  have:=hv i x hx;rw[Zr,Xx pQ,<-Zr];exact this
 .rw[Zf (by omega)]at hx;have KY:x= .un:=by
   rw[List.getElem?_replicate]at hx;split at hx
   .simpa using hx.symm
   .cases hx
  subst KY;have:(vs++Array.replicate (m-vs.size) undef).getD i undef=undef:=by
   rw[Zr,Array.getElem?_append_right (by omega),Array.getElem?_replicate];split<;>rfl
  rw[this];exact .im .un
def zU {C:Cx}{call:Bool->FuncId->List AV->Hp->Option (AV × Hp)}(hC:Nb C)(dy:∀b,lj C (call b))(eK:∀g xs h r h',C.inl g=false->call false g xs h=some (r,h')->h'=h){f:FuncId}{xs:List AV}{h h':Hp}{r:AV}
 (hb:qR C call f xs h=some (r,h')) (w:World) (X:Nat->Prop) (ρ:Nat->Nat) (vs:Array Value) (hs:iw C.G w X ρ h) (hl:vs.size=xs.length)
 (hv:∀(k:Nat) (x:AV),xs[k]?=some x->Rp w (fj X ρ h) ρ h.length (vs.getD k undef) x):
 (∃fn,C.P.funcs[f]?=some fn/\fn.name≠ "runtime.NumGoroutine" /\fn.body.isSome=true)/\
 Calls C.P f vs w (th C w X ρ h h' r):=by
 unfold qR at hb;split at hb
 case h_2=>cases hb
 rename_i fi hfi;obtain⟨h1,h2,h3⟩:=hC.aeB f fi hfi;obtain⟨fn,aa,ae,af,ah⟩:=E6 h1;refine⟨⟨fn,aa,h3 fn aa,by simp[ae]⟩,?_⟩;split at hb
 case isFalse=>cases hb
 rename_i eG;refine calls_of_wp aa ae ?_;have hrf:=Kv (m:=fn.ntmps) (m':=fi.ntmps) hl af.symm hv;have fin:∀(out:Out) (s':St),exec C call fi.body (xs++List.replicate (fi.ntmps-xs.length) .un,h)=some (out,s')->(out= .normal\/out= .ret)->(vF fi s').map (λr=>(r,s'.2))=some (r,h')->
  fi.body.wp C.P (bodyPost C.P fn (th C w X ρ h h' r)) {tmps:=vs++Array.replicate (fn.ntmps-vs.size) undef,defers:=[]} w:=by
  intro out s' hex ho rJ;simp only[Ze,Zg]at rJ;obtain⟨r',du,rfl,rfl⟩:=rJ;refine nL hC dy eK fi.body h2 _ s' out hex _ w ρ _ hs hrf λa' w' ρ' he sw hd=>?_
  obtain⟨v,GD,yM⟩:=nN he.wO sw ah du;rcases ho with rfl|rfl
  .exact⟨hd,v,GD,ρ',he,.inl ⟨v,rfl,yM⟩⟩
  .exact⟨hd,v,GD,ρ',he,.inl ⟨v,rfl,yM⟩⟩
 split at hb
 .rename_i s' hex;exact fin .normal s' hex (.inl rfl) hb
 .rename_i s' hex;exact fin .ret s' hex (.inr rfl) hb
 .rename_i u s' hex;simp only[Zc,Zg]at hb;obtain⟨rfl,rfl⟩:=hb;refine nL hC dy eK fi.body h2 _ s' _ hex _ w ρ _ hs hrf λa' w' ρ' he sw hd=>?_
  exact⟨hd,ρ',he,.inr ⟨u,rfl,rfl⟩⟩
 .cases hb
def Sk {h:Hp}{n:Nat}{x y:AV}(hc:d_ x=true)(hs:dq h (n+1) x=some y):y=x:=by
 have acC:∀(xs ys:List AV),(xs.all λ| .sc _| .ls .. | .rp .. =>true|_=>false)=true->xs.mapM (dq h n)=some ys->ys=xs:=by
  intro xs
  induction xs with
  |nil=>intro ys _ hm;simp at hm;exact hm
  |
   cons x xs ih=>
   intro ys dJ hm;simp only[Zn,Zh]at dJ;simp only[Zo,Option.bind_eq_bind,Yh,Option.pure_def,Zc]at hm;obtain⟨b,hb,bs,MR,rfl⟩:=hm;rw[ih bs dJ.2 MR];have:b=x:=by
    cases x<;>simp at dJ<;>(cases n<;>simp only[dq,Zc]at hb<;>exact hb.symm)
   rw[this]
 unfold d_ at hc;split at hc
 .simp only[dq,Zc]at hs;exact hs.symm
 .simp only[dq,Zc]at hs;exact hs.symm
 .simp only[dq,Zc]at hs;exact hs.symm
 .simp only[dq,Ze]at hs;obtain⟨ys,wL,rfl⟩:=hs;rw[acC _ _ hc wL]
 .simp only[dq,Ze]at hs;obtain⟨ys,wL,rfl⟩:=hs;rw[acC _ _ hc wL]
 .cases hc
def WH (C:Cx)(g:FuncId)(T:TypeId):Prop:=
 (∃fn,C.P.funcs[g]?=some fn/\fn.name≠ "runtime.NumGoroutine" /\fn.body.isSome=true)/\
 (∀(w:World) (p:Nat),CallsD C.P g #[.pointer (some ⟨p,0,none⟩)] .returning w (λe u' w'=>(∃v,e= .returned v)/\u'= .returning/\w'=w))/\
 ∀(w:World) (p:Nat) (dA:Array Value) (t:TypeId) (fz:Nat × Nat),w.heap[p]?=some (.cells dA t fz)->Fz fz dA->0<dA.size->
  ∀k n,CallsD C.P g #[.pointer (some ⟨p,0,none⟩)] (.panicking [{v:= .iface T (.int k n),recovered:=false}]) w
   (λe u' w'=>(∃v,e= .returned v)/\u'= .panicking [{v:= .iface T (.int k n),recovered:=true}]/\w'=w.setRow p (dA.setIfInBounds 0 (.int k n)))
def deferred (a:Act)(d:Tmp)(x:Operand)(g:FuncId):Act:=
 {a with tmps:=a.tmps.setIfInBounds d (.func (.func g) #[] #[a.eval x]),defers:={target:= .fn (.func g) #[a.eval x],args:= #[]}::a.defers}
def Nw {C:Cx}{c:Code}{d:Tmp}{x:Operand}{T:TypeId}{rest:Code}(h:Fp C c=some (d,x,T,rest)):
 ∃g,C.Y7 g=some T/\(codeOk C c=true->codeOk C rest=true)/\∀(a:Act) (w:World) (Q:Exit->Act->World->Prop),d<a.tmps.size->rest.wp C.P Q (deferred a d x g) w->c.wp C.P Q a w:=by
 unfold Fp at h;split at h
 case h_2=>cases h
 rename_i rid ops acD;split at h
 case h_2=>cases h
 rename_i d1 g first pU ty1 akD ae4 d2 args yD ty2 akE ae5 ahk
 split at h
 case h_2=>cases h
 rename_i T' x' hT hx;split at h
 case isFalse=>cases h
 rename_i hc;simp only[Zc,Zg]at h;obtain⟨rfl,rfl,rfl,rfl⟩:=h;simp only[Zh,Zz]at hc;obtain⟨⟨rfl,hf⟩,ha⟩:=hc;refine⟨g,hT,λhk=>by simp only[codeOk,Bool.true_and]at hk;exact hk,λa w Q hd hw=>?_⟩;refine wp_seq (wp_region ?_);have nh:pU= #[x']:=by apply Array.ext';simpa using hx
 have hfe:first= #[]:=by simpa using hf
 have hae:args= #[]:=by simpa using ha
 subst nh hfe hae;obtain⟨opl⟩:=ops;simp only at ahk;subst ahk;have e1:(execOp a.eval {dst:=some d1,op:=Op.makeFunc (Fn.func g) #[] #[x'],type:=ty1,pos:=akD,after:=ae4,guard:=none}).run C.P w= .ok (.value (.func (.func g) #[] #[a.eval x'])) w:=by
  simp[execOp,Instr.makeFunc]
 have e2:∀a1:Act,a1.eval (.tmp d1)= .func (.func g) #[] #[a.eval x']->(execOp a1.eval {dst:=none,op:=Op.defer {callee:=Callee.value (Operand.tmp d1),args:= #[],argTypes:=yD},type:=ty2,pos:=akE,after:=ae5,guard:=none}).run C.P w=
  .ok (.defer {target:= .fn (.func g) #[a.eval x'],args:= #[]}) w:=λa1 h1=>by
  simp[execOp,resolve,h1,Deferred.ofValue]
 show wpOps C.P _ _ [0,1] a w;simp only[wpOps,List.getElem?_toArray,Yg,Yf,Region.wanted,if_true];refine .inl ?_;unfold Oper.wp;rw[e1,Oper.upon_value];refine .inl ?_;rw[e2 _ (by simp[Act.put,Act.eval,hd]),Oper.upon_defer];exact hw
def XG (C:Cx)(K:Act->World->Prop)(Q:Exit->Act->World->Prop):List Code->Act->World->Prop
 | [],a,w=>K a w
 |p::ps,a,w=>p.wp C.P (Exit.then (XG C K Q ps) Q) a w
def E7 {C:Cx}:∀{c:Code} {pre:List Code} {d:Tmp} {x:Operand} {T:TypeId} {rest:Code},j5 C c=some (pre,d,x,T,rest)->
 ∃g,C.Y7 g=some T/\(codeOk C c=true->(∀p∈pre,codeOk C p=true)/\codeOk C rest=true)/\∀(a:Act) (w:World) (Q:Exit->Act->World->Prop),
  XG C (λa' w'=>d<a'.tmps.size/\rest.wp C.P Q (deferred a' d x g) w') Q pre a w->c.wp C.P Q a w
 |
  .seq p q,pre,d,x,T,rest,h=>by
  simp only[j5]at h;split at h
  .rename_i d' x' T' acD h1;simp only[Zc,Zg]at h;obtain⟨rfl,rfl,rfl,rfl,rfl⟩:=h;obtain⟨g,g1,g2,g3⟩:=Nw h1;refine⟨g,g1,λhk=>?_,λa w Q hw=>?_⟩
   .simp only[codeOk,Zh]at hk;exact⟨λp' hp=>by simp at hp;subst hp;exact hk.1,g2 hk.2⟩
   .refine wp_seq (wp_mono hw ?_);intro e a' w' he;cases e with
    |normal=>exact g3 a' w' Q he.1 he.2
    |_=>exact he
  .split at h
   .rename_i pre' d' x' T' acD h1;simp only[Zc,Zg]at h;obtain⟨rfl,rfl,rfl,rfl,rfl⟩:=h;obtain⟨g,g1,g2,g3⟩:=E7 h1;refine⟨g,g1,λhk=>?_,λa w Q hw=>?_⟩
    .simp only[codeOk,Zh]at hk|-;refine⟨λp' hp=>?_,(g2 hk.2).2⟩;rcases Xm.1 hp with rfl|hp
     .exact hk.1
     .exact(g2 hk.2).1 p' hp
    .refine wp_seq (wp_mono hw ?_);intro e a' w' he;cases e with
     |normal=>exact g3 a' w' Q he
     |_=>exact he
   .cases h
 | .skip,_,_,_,_,_,h| .region ..,_,_,_,_,_,h| .cond ..,_,_,_,_,_,h| .block ..,_,_,_,_,_,h| .loop ..,_,_,_,_,_,h| .label ..,_,_,_,_,_,h| .exit ..,_,_,_,_,_,h| .ret,_,_,_,_,_,h=>by simp[j5]at h
 | .goto _,_,_,_,_,_,h=>by simp[j5]at h
section defers
variable {C : Cx} {call : Bool -> FuncId -> List AV -> Hp -> Option (AV × Hp)}
def uL (hC:Nb C)(dy:∀b,lj C (call b))(eK:∀g xs h r h',C.inl g=false->call false g xs h=some (r,h')->h'=h){X:Nat->Prop}{K:Act->World->Prop}{Q:Exit->Act->World->Prop}:
 ∀(cs:List Code),(∀c∈cs,codeOk C c=true)->∀(s s':St) (out:Out),A8 C call cs s=some (out,s')->∀(a:Act) (w:World) (ρ:Nat->Nat),iw C.G w X ρ s.2->RF w (fj X ρ s.2) ρ s.2.length a.tmps s.1->
  (∀a' w' ρ',Ext C.G w X ρ s.2 w' ρ' s'.2->RF w' (fj X ρ' s'.2) ρ' s'.2.length a'.tmps s'.1->a'.defers=a.defers->Exit.then K Q (G2 out) a' w')->XG C K Q cs a w
 |
  [],_,s,s',out,he,a,w,ρ,hs,hf,hQ=>by
  simp only[A8,Zc,Zg]at he;obtain⟨rfl,rfl⟩:=he;exact hQ a w ρ (Ext.refl hs) hf rfl
 |
  c::cs,iG,s,s',out,he,a,w,ρ,hs,hf,hQ=>by
  simp only[A8]at he;split at he
  .rename_i s1 h1;refine nL hC dy eK c (iG c (by simp)) s s1 .normal h1 a w ρ _ hs hf λa1 w1 ρ1 e1 aa d1=>?_
   exact uL hC dy eK cs (λc' hc=>iG c' (by simp[hc])) s1 s' out he a1 w1 ρ1 e1.wO aa λa2 w2 ρ2 e2 ae d2=>hQ a2 w2 ρ2 (e1.trans e2) ae (d2.trans d1)
  .rename_i hn;refine nL hC dy eK c (iG c (by simp)) s s' out he a w ρ _ hs hf λa1 w1 ρ1 e1 aa d1=>?_
   have:=hQ a1 w1 ρ1 e1 aa d1;cases out with
   |normal=>exact absurd he (by intro h;exact hn s' h)
   |exit id=>exact this
   |ret=>exact this
   |vE u=>exact this
def Kw (hC:Nb C)(hR:∀g T,C.Y7 g=some T->WH C g T)(dy:∀b,lj C (call b))(eK:∀g xs h r h',C.inl g=false->call false g xs h=some (r,h')->h'=h){f:FuncId}{xs:List AV}{h h':Hp}{r:AV}
 (hb:Hw C call f xs h=some (r,h')) (w:World) (X:Nat->Prop) (ρ:Nat->Nat) (vs:Array Value) (hs:iw C.G w X ρ h) (hl:vs.size=xs.length)
 (hv:∀(k:Nat) (x:AV),xs[k]?=some x->Rp w (fj X ρ h) ρ h.length (vs.getD k undef) x):
 (∃fn,C.P.funcs[f]?=some fn/\fn.name≠ "runtime.NumGoroutine" /\fn.body.isSome=true)/\
 Calls C.P f vs w (th C w X ρ h h' r):=by
 unfold Hw at hb;split at hb
 case h_2=>cases hb
 rename_i fi hfi;obtain⟨h1,h2,h3⟩:=hC.aeB f fi hfi;obtain⟨fn,aa,ae,af,ah⟩:=E6 h1;refine⟨⟨fn,aa,h3 fn aa,by simp[ae]⟩,?_⟩;split at hb
 case isFalse=>cases hb
 split at hb
 case h_2=>cases hb
 rename_i pre d x T rest pY;obtain⟨g,g1,g2,g3⟩:=E7 pY;obtain⟨ok1,tv⟩:=g2 h2;refine calls_of_wp_defers aa ae (g3 _ _ _ ?_);have hrf:=Kv (m:=fn.ntmps) (m':=fi.ntmps) hl af.symm hv;split at hb
 .
  rename_i s hex;simp only[Ze,Zg]at hb;obtain⟨r',du,rfl,rfl⟩:=hb;refine uL hC dy eK pre ok1 _ s _ hex _ w ρ hs hrf λa' w' ρ' he sw hd=>?_
  obtain⟨v,GD,yM⟩:=nN he.wO sw ah du;show Leaves C.P fn a'.tmps _ a'.defers .returning w';rw[hd];exact⟨v,GD,ρ',he,.inl ⟨v,rfl,yM⟩⟩
 .rename_i s hex;split at hb
  case h_2=>cases hb
  rename_i id hx;split at hb
  case isFalse=>cases hb
  rename_i hdl;refine uL hC dy eK pre ok1 _ s _ hex _ w ρ hs hrf λa1 w1 ρ1 he1 KL hd1=>?_
  have hxv:=eH he1.wO KL x;rw[hx]at hxv;obtain⟨hxe,jD⟩:=hxv.oq;refine⟨by rw[KL.1];exact hdl,?_⟩;have hf2:RF w1 (fj X ρ1 s.2) ρ1 s.2.length (deferred a1 d x g).tmps (s.1.set d .ud):=KL.put d (.im (.ud _));have YS:(deferred a1 d x g).defers=[{target:= .fn (.func g) #[.pointer (some ⟨ρ1 id,0,none⟩)],args:= #[]}]:=by
   simp only[deferred,hd1,hxe]
  obtain⟨⟨gn,n1,n2,n3⟩,hrc⟩:=hR g T g1;have hinv:∀w':World,(invoke (.fn (.func g) #[.pointer (some ⟨ρ1 id,0,none⟩)]) #[]).run C.P w'= .ok (.enter g #[.pointer (some ⟨ρ1 id,0,none⟩)]) w':=λw'=>by
   have hbn:gn.body.isNone=false:=by cases hq:gn.body<;>simp_all
   simp only[invoke,callFunc,Sem.run_bind,run_program,Result.andThen_ok,n1,Array.empty_append];simp[n2,hbn]
  have quiet:∀(out:Out) (s':St),exec C call rest (s.1.set d .ud,s.2)=some (out,s')->(out= .normal\/out= .ret)->(vF fi s').map (λr=>(r,s'.2))=some (r,h')->
   rest.wp C.P (bodyPostD C.P fn (th C w X ρ h h' r)) (deferred a1 d x g) w1:=by
   intro out s' Nx ho rJ;simp only[Ze,Zg]at rJ;obtain⟨r',du,rfl,rfl⟩:=rJ;refine nL hC dy eK rest tv _ s' out Nx _ w1 ρ1 _ he1.wO hf2 λa2 w2 ρ2 YW hf3 hd2=>?_
   have hq:Leaves C.P fn a2.tmps (th C w X ρ h s'.2 r') a2.defers .returning w2:=by
    rw[hd2,YS];refine leaves_cons (by simp) (hinv w2) ((hrc.1 w2 _).mono ?_);rintro e u' w' ⟨⟨v0,rfl⟩,rfl,rfl⟩;obtain⟨v,GD,yM⟩:=nN YW.wO hf3 ah du;exact⟨v,GD,ρ2,he1.trans YW,.inl ⟨v,rfl,yM⟩⟩
   rcases ho with rfl|rfl
   .exact hq
   .exact hq
  split at hb
  .rename_i s' Nx;exact quiet .normal s' Nx (.inl rfl) hb
  .rename_i s' Nx;exact quiet .ret s' Nx (.inr rfl) hb
  .rename_i T' k n s' Nx;split at hb
   case h_2=>cases hb
   rename_i c0 fX;split at hb
   case isFalse=>cases hb
   rename_i hTT;subst hTT;simp only[Ze,Zg]at hb;obtain⟨r',du,rfl,rfl⟩:=hb;refine nL hC dy eK rest tv _ s' _ Nx _ w1 ρ1 _ he1.wO hf2 λa2 w2 ρ2 YW hf3 hd2=>?_
   show Leaves C.P fn a2.tmps _ a2.defers (.panicking [{v:= .iface T (.int k n),recovered:=false}]) w2;rw[hd2,YS];obtain⟨dA,t,fz,us,c1,z6,c2,c3⟩:=YW.wO.row id _ fX;have VA:ρ2 id=ρ1 id:=YW.rho id jD;have qC:0<dA.size:=by simp at c2;omega
   rw[VA]at c1;refine leaves_cons (by simp) (hinv w2) ((hrc.2 w2 _ dA t fz c1 z6 qC k n).mono ?_);rintro e u' w' ⟨⟨v0,rfl⟩,rfl,rfl⟩;have Ki:Ext C.G w2 X ρ2 s'.2 (w2.setRow (ρ1 id) (dA.setIfInBounds 0 (.int k n))) ρ2 (s'.2.set id (.row [.sc (.int k n)])):=by
    rw[<-VA]at c1|-;refine DW (w':=w2.setRow (ρ2 id) (dA.setIfInBounds 0 (.int k n))) YW.wO id _ fX dA (dA.setIfInBounds 0 (.int k n)) t fz z6 c1 rfl rfl rfl (by simp[World.setRow]) (setRow_heap w2 (ρ2 id) dA _ t fz c1) (by simp) (λb hb=>setRow_other w2 (ρ2 id) b _ hb) _ (λ_=> .int k n) (by simp;omega) (λj y hj=>?_);cases j with
    |
     zero=>
     simp at hj;subst hj;exact⟨by simp[qC],rfl,.im (.sc _ rfl)⟩
    |succ j=>simp at hj
   have KU:RF (w2.setRow (ρ1 id) (dA.setIfInBounds 0 (.int k n))) (fj X ρ2 (s'.2.set id (.row [.sc (.int k n)]))) ρ2 (s'.2.set id (.row [.sc (.int k n)])).length a2.tmps s'.1:=Ki.rf hf3;obtain⟨v,GD,yM⟩:=nN (s:=(s'.1,s'.2.set id (.row [.sc (.int k n)]))) Ki.wO KU ah du;exact⟨v,GD,ρ2,(he1.trans YW).trans Ki,.inl ⟨v,rfl,yM⟩⟩
  .cases hb
 .cases hb
end defers
def GOK (G:Nat->Option (List Value))(w:World)(X:Nat->Prop):Prop:=
 ∀(g:Nat) (row:List Value),G g=some row->¬X g/\∃(dA:Array Value) (t:TypeId) (fz:Nat × Nat),w.heap[g]?=some (.cells dA t fz)/\dA.size=row.length/\∀(k:Nat) (v:Value),row[k]?=some v->∃u,dA[k]?=some u/\u.oneCell'=true/\gok v u
def oY (C:Cx)(f:FuncId)(xs:List AV)(r:AV):Prop:=
 ∀(w:World) (X:Nat->Prop) (vs:Array Value),(∀b,X b->b<w.heap.size)->GOK C.G w X->vs.size=xs.length->(∀(k:Nat) (x:AV),xs[k]?=some x->Ri w X (vs.getD k undef) x)->
  (∃fn,C.P.funcs[f]?=some fn/\fn.name≠ "runtime.NumGoroutine" /\fn.body.isSome=true)/\
  Calls C.P f vs w (λe w'=>∃v,e= .returned v/\Step w ef w' ef/\Ri w' X v r)
def XH (C:Cx)(f g:FuncId):Prop:=
 (∃fn,C.P.funcs[f]?=some fn/\fn.name≠ "runtime.NumGoroutine" /\fn.body.isSome=true)/\
 ∀(w:World) (bx id:Nat) (ms:Array MapEntry) (clock:Nat) (ks:List ByteArray),w.cell? ⟨bx,0,none⟩=some (.map (some id))->w.heap[id]?=some (.map ms clock)->
  (∀x∈ms.toList,x.born<clock)->(ms.toList.map (·.born)).Nodup->ms.toList.map (·.key)=ks.map .string->ks.Nodup->(∀k∈ks,k.size<=maxLen)->ks.length<=1000000->
  Calls C.P f #[.func (.func g) #[] #[.pointer (some ⟨bx,0,none⟩)]] w (λe w'=>∃v,e= .returned v/\Step w ef w' ef/\
   ((
    ks=[]/\v= .slice none 0 0)\/ks≠ []/\∃(B cap:Nat) (dA:Array Value) (t:TypeId),v= .slice (some ⟨B,0,none⟩) ks.length cap/\w.heap.size<=B/\w'.heap[B]?=some (.cells dA t (0,0))/\ks.length<=cap/\cap<=maxLen/\dA.size=cap/\
    ∀(k:Nat) (s:ByteArray),(A9 ks)[k]?=some s->dA[k]?=some (.string s)))
def zQ (C:Cx)(f:FuncId)(sz bytes:Nat):Prop:=
 0<sz/\0<bytes/\
 (∃fn,C.P.funcs[f]?=some fn/\fn.name≠ "runtime.NumGoroutine" /\fn.body.isSome=true)/\
 ∀(w:World) (base:Option Addr) (n cap i:Nat) (vb vc:Nat) (olds vs:List Value) (DL:Array Value) (vt:TypeId) (vf:Nat × Nat),
  olds.length=n*sz->vs.length=sz->i<=n->n<=cap->cap<=maxLen->n+1<=1000000000000000->(n+1)*bytes<=140737488355328->(∀u∈olds,u.oneCell'=true)->(∀u∈vs,u.oneCell'=true)->
  w.heap[vb]?=some (.cells DL vt vf)->Fz vf DL->(∀(k:Nat) (u:Value),vs[k]?=some u->DL[k]?=some u)->
  ((n=0/\cap=0)\/∃(b:Nat) (dA:Array Value) (t:TypeId) (fz:Nat × Nat),base=some ⟨b,0,none⟩/\b≠vb/\w.heap[b]?=some (.cells dA t fz)/\Fz fz dA/\cap*sz=dA.size/\∀(k:Nat) (u:Value),olds[k]?=some u->dA[k]?=some u)->
  Calls C.P f #[.slice base n cap,.int .i64 i,.slice (some ⟨vb,0,none⟩) 1 vc] w (λe w'=>∃(B gp:Nat) (cur':Array Value) (t':TypeId) (x8:Nat × Nat),
   e= .returned (.slice (some ⟨B,0,none⟩) (n+1) gp)/\w'.heap[B]?=some (.cells cur' t' x8)/\Fz x8 cur'/\gp*sz=cur'.size/\n+1<=gp/\gp<=maxLen/\
   (∀(k:Nat) (u:Value),(olds.take (i*sz)++vs++olds.drop (i*sz))[k]?=some u->cur'[k]?=some u)/\
   ((
    w.heap.size<=B/\x8=(0,0)/\Step w ef w' ef)\/(base=some ⟨B,0,none⟩/\0<cap/\w'.os=w.os/\w'.tape=w.tape/\w'.output=w.output/\w'.heap.size=w.heap.size/\w.drawn<=w'.drawn/\(∀b,b≠B->w'.heap[b]?=w.heap[b]?)/\
    ∀(dA:Array Value) (t:TypeId) (fz:Nat × Nat),w.heap[B]?=some (.cells dA t fz)->cur'.size=dA.size)))
def xS (kg:Nat)(w W:World):Prop:=W.os=w.os/\W.tape=w.tape/\W.output=w.output/\w.heap.size<=W.heap.size/\∀b,b<w.heap.size->b≠kg->W.heap[b]?=w.heap[b]?
def zN (C:Cx)(f:FuncId)(k:Nat):Prop:=
 (∃fn,C.P.funcs[f]?=some fn/\fn.name≠ "runtime.NumGoroutine" /\fn.body.isSome=true)/\
 (∀(w:World) (base:Option Addr) (cap:Nat) (g:FuncId) (us:Array Value),us.size=0->Calls C.P f #[.slice base 0 cap,.func (.func g) #[] us] w (λe w'=>e= .returned (.tuple #[])/\Step w ef w' ef))/\
 ∀(w:World) (m cap kg off:Nat) (dA:Array Value) (t:TypeId) (fz:Nat × Nat) (us:Fin (m+1)->List Value) (cf:Nat->Nat->Int) (g:FuncId) (bs:Array Value),bs.size=0->
  m+1<4611686018427387904->w.heap[kg]?=some (.cells dA t fz)->Fz fz dA->off+(m+1)*oA k<=dA.size->(∀i,(us i).length=oA k)->(∀i,∀u∈us i,u.oneCell'=true)->(∀(i:Fin (m+1)) (j:Nat) (u:Value),(us i)[j]?=some u->dA[off+i.1*oA k+j]?=some u)->Hx m cf->
  (∃fn,C.P.funcs[g]?=some fn/\fn.name≠ "runtime.NumGoroutine" /\fn.body.isSome=true)->
  (∀(W:World) (i j:Fin (m+1)),xS kg w W->Calls C.P g #[wS k (us i),wS k (us j)] W (λe W'=>e= .returned (.int .i64 (cf i.1 j.1))/\Step W ef W' ef))->
  Calls C.P f #[.slice (some ⟨kg,off,none⟩) (m+1) cap,.func (.func g) #[] bs] w (λe w'=>e= .returned (.tuple #[])/\∃cur':Array Value,w'.heap[kg]?=some (.cells cur' t fz)/\cur'.size=dA.size/\(∀q,q<off\/off+(m+1)*oA k<=q->cur'[q]?=dA[q]?)/\
   (∀(q:Nat) (u:Value),((oz m cf).flatMap us)[q]?=some u->cur'[off+q]?=some u)/\xS kg w w'/\w.drawn<=w'.drawn)
def WB (C:Cx)(f:FuncId):Prop:=
 ∀(xs:List AV) (cY:List (List AV)) (z:Bool),C.tE f xs=some (.ls 1 cY z)->cY≠ []->∀(w:World) (X:Nat->Prop) (vs:Array Value),(∀b,X b->b<w.heap.size)->GOK C.G w X->vs.size=xs.length->(∀(k:Nat) (x:AV),xs[k]?=some x->Ri w X (vs.getD k undef) x)->
  Calls C.P f vs w (λe w'=>Step w ef w' ef/\∃(B cap:Nat) (dA:Array Value) (t:TypeId),e= .returned (.slice (some ⟨B,0,none⟩) cY.length cap)/\w.heap.size<=B/\w'.heap[B]?=some (.cells dA t (0,0))/\cY.length<=cap/\cap<=maxLen/\dA.size=cap/\
   ∀(k:Nat) (v:Value),cY[k]?=some [.sc v]->dA[k]?=some v)
structure WI (C:Cx):Prop where
 base:Nb C
 Y7:∀g T,C.Y7 g=some T->WH C g T
 ox:∀f g kt,C.ox f=some (g,kt)->XH C f g
 tE:∀f xs r,C.tE f xs=some r->oY C f xs r
 ins:∀f sz bytes,C.ins f=some (sz,bytes)->bytes≠0->bytes≠1->zQ C f sz bytes
 own:∀f sz,C.ins f=some (sz,1)->WB C f
 sfn:∀f sz,C.ins f=some (sz,0)->zN C f sz
 nf:∀f w X v r,Ri w X v r->Ri w X v (C.nf f r)
def s5 (ρ:Nat->Nat)(b:Nat):¬own ρ [] b:=λ⟨i,⟨_,hb,_⟩,_⟩=>by simp at hb
def Pe {G:Nat->Option (List Value)}{w:World}{X:Nat->Prop}(hX:∀b,X b->b<w.heap.size)(hG:GOK G w X)(ρ:Nat->Nat):iw G w X ρ []:={
 DV:=hX
 tD:=λg row hg=>by
  obtain⟨h1,h2⟩:=hG g row hg;exact⟨λh=>h.elim h1 (s5 ρ g),h2⟩
 inj:=λi j hi=>absurd ⟨i,hi,rfl⟩ (s5 ρ (ρ i))
 out:=λi hi=>absurd ⟨i,hi,rfl⟩ (s5 ρ (ρ i))
 rV:=λi cs h=>by simp at h
 kg:=λi b h=>by simp at h}
def abK {h:Hp}{n:Nat}{u:Value}{r:AV}(hs:dq h n (.pn u)=some r):False:=by
 cases n<;>simp[dq]at hs
def xW {C:Cx}{call:Bool->jH}(hC:Nb C)(dy:∀b,lj C (call b))(eK:∀g xs h r h',C.inl g=false->call false g xs h=some (r,h')->h'=h){f:FuncId}{xs:List AV}{h':Hp}{r0 r:AV}
 (hb:qR C call f xs []=some (r0,h')) {n:Nat} (lH:dq h' n r0=some r):oY C f xs r:=by
 intro w X vs hX hG hl hv;have hs:=Pe hX hG id;obtain⟨h1,h2⟩:=zU hC dy eK hb w X id vs hs hl (λk x hk=> .im ((hv k x hk).zZ λb hb=>hb.elim (λh=>h) λh=>absurd h (s5 id b)));refine⟨h1,h2.mono λe w' ⟨ρ',hx,hh⟩=>?_⟩;rcases hh with⟨v,he,hr⟩|⟨u,_,hu⟩
 .refine⟨v,he,?_,pN hx.wO n v r0 r hr lH⟩;exact⟨hx.step.os,hx.step.tape,hx.step.output,hx.step.size,λb hb _=>hx.step.keep b hb (s5 id b),hx.step.row,λ_ _ h=>h,hx.step.drew⟩
 .subst hu;exact absurd lH (λq=>abK q)
def wy {G:Nat->Option (List Value)}{w w':World}{X:Nat->Prop}{ρ:Nat->Nat}{h:Hp}(hs:iw G w X ρ h)(dD:Step w ef w' ef){B:Nat}(hB:w.heap.size<=B){cs:List AV}
 {dA:Array Value} {t:TypeId} (lr:w'.heap[B]?=some (.cells dA t (0,0))) (cU:cs.length<=dA.size) (hcs:∀(k:Nat) (x:AV),cs[k]?=some x->∃u,dA[k]?=some u/\u.oneCell'=true/\Rp w (fj X ρ h) ρ h.length u x):Ext G w X ρ h w' (λi=>if i=h.length then B else ρ i) (h++[.row cs]):=by
 have hq:=kq hs dD;have vC:∀(i:Nat) (b':fp),(h++[fp.row cs])[i]?=some b'->(i<h.length/\h[i]?=some b')\/(i=h.length/\b'= .row cs):=by
  intro i b' hi;by_cases dY:i<h.length
  .rw[Zd dY]at hi;exact .inl ⟨dY,hi⟩
  .have he:i=h.length:=by have:i< (h++[fp.row cs]).length:=(Za.1 hi).1;simp at this;omega
   subst he;simp at hi;exact .inr ⟨rfl,hi.symm⟩
 have iH:∀i,live (h++[fp.row cs]) i->(live h i/\i<h.length)\/i=h.length:=by
  rintro i ⟨b',vB,hd⟩;rcases vC i b' vB with⟨h1,h2⟩|⟨h1,_⟩
  .exact .inl ⟨⟨b',h2,hd⟩,h1⟩
  .exact .inr h1
 have wP:∀b,own (λi=>if i=h.length then B else ρ i) (h++[fp.row cs]) b->own ρ h b\/b=B:=by
  rintro b ⟨i,hi,e⟩;rcases iH i hi with⟨h1,h2⟩|rfl
  .exact .inl ⟨i,h1,by simpa[Xu h2]using e⟩
  .exact .inr (by simpa using e.symm)
 have eZ:Step w (own ρ h) w' (own (λi=>if i=h.length then B else ρ i) (h++[fp.row cs])):=
  ⟨dD.os,dD.tape,dD.output,dD.size,λb hb _=>dD.keep b hb (λh=>h),dD.row,λb hb hh=>(wP b hh).resolve_right (by omega),dD.drew⟩
 have AY:∀i,i<h.length->(λi=>if i=h.length then B else ρ i) i=ρ i:=λi hi=>by simp[Xu hi]
 have hXB:¬X B:=λhx=>by have:=hs.DV B hx;omega
 have hoB:∀i,live h i->ρ i≠B:=λi hi e=>by have:=hs.lt hi;omega
 refine⟨⟨hq.wO.DV,λg row hg=>?_,?_,?_,?_,?_⟩,AY,by simp,eZ⟩
 .obtain⟨h1,c,t',x8,h2,h3⟩:=hs.tD g row hg;refine⟨λhh=>h1 (eZ.kept.less g (fH h2) hh),c,t',x8,(dD.keep g (fH h2) (λh=>h)).trans h2,h3⟩
 .intro i j hi hj qS;rcases iH i hi with⟨Av,NF⟩|rfl<;>rcases iH j hj with⟨S_,vT⟩|rfl
  .simp[Xu NF,Xu vT]at qS;exact hs.inj i j Av S_ qS
  .simp[Xu NF]at qS;exact absurd qS (hoB i Av)
  .simp[Xu vT]at qS;exact absurd qS.symm (hoB j S_)
  .rfl
 .intro i hi hx;rcases iH i hi with⟨Av,NF⟩|rfl
  .simp[Xu NF]at hx;exact hs.out i Av hx
  .simp at hx;exact hXB hx
 .intro i cs' hi hh;rcases vC i _ hi with⟨dY,pQ⟩|⟨_,e⟩
  .have h2:=(hs.kg i _ pQ).lt (by simp);simp only[Xu dY,if_false]at hh;exact hs.rV i cs' pQ (eZ.kept.less _ h2 hh)
  .cases e
 .intro i b' hi;rcases vC i b' hi with⟨dY,pQ⟩|⟨rfl,rfl⟩
  .simp only[Xu dY,if_false];have hb:=hs.kg i b' pQ;by_cases hd:b'= .dead
   .subst hd;trivial
   .rw[dD.keep _ (hb.lt hd) (λh=>h)];exact hb.step eZ AY (by simp)
  .simp only[if_true];refine⟨dA,t,(0,0),λk=>dA.getD k undef,lr,.inl rfl,cU,λk x hk=>?_⟩;obtain⟨u,hu,hfu,hru⟩:=hcs k x hk;have:dA.getD k undef=u:=by rw[Zr,hu];rfl
   simp only[this];exact⟨hu,hfu,hru.step eZ AY (by simp)⟩
def E8 {G:Nat->Option (List Value)}{w w':World}{X:Nat->Prop}{ρ:Nat->Nat}{h:Hp}(hs:iw G w X ρ h)(dD:Step w ef w' ef){B:Nat}(hB:w.heap.size<=B){cs:List AV}
 {dA:Array Value} {t:TypeId} (lr:w'.heap[B]?=some (.cells dA t (0,0))) (cU:cs.length<=dA.size) (hcs:∀(k:Nat) (x:AV),cs[k]?=some x->∃u,x= .sc u/\lG u=true/\dA[k]?=some u):Ext G w X ρ h w' (λi=>if i=h.length then B else ρ i) (h++[.row cs]):=
 wy hs dD hB lr cU λk x hk=>by
  obtain⟨u,rfl,hfu,hu⟩:=hcs k x hk;exact⟨u,hu,pz hfu,.im (.sc u hfu)⟩
def Ri.eF {w:World}{X:Nat->Prop}{v u:Value}(h:Ri w X v (.sc u)):v=u/\lG u=true:=by
 cases h with
 |sc _ hf=>exact⟨rfl,hf⟩
def Sl {w:World}{X X':Nat->Prop}{v:Value}{r:AV}(h:Ri w X v r)(hs:ml r=true):Ri w X' v r:=by
 unfold ml at hs;split at hs
 .cases h with
  |sc _ hf=>exact .sc _ hf
 .rename_i xs;rw[Yr]at hs;cases h with
  |
   tp us _ h1 h2=>
   refine .tp us xs h1 λk x hk=>?_
   have h3:=h2 k x hk;have h4:=hs x (Zi hk);cases x with
   |
    sc u=>
    obtain⟨e,hf⟩:=h3.eF;rw[e];exact .sc _ hf
   |_=>simp[Y8]at h4
 .cases hs
def zV (x:ByteArray):∀l:List ByteArray,(Tc x l).length=l.length+1
 | []=>rfl
 |
  y::l=>by
  unfold Tc;split
  .rfl
  .simp[zV x l]
def xX :∀l:List ByteArray,(A9 l).length=l.length
 | []=>rfl
 |
  x::l=>by
  show(Tc x (A9 l)).length=_;rw[zV,xX l];rfl
def zW :∀{l:List ByteArray},Fq l=true->l.Nodup
 | [],_=>List.nodup_nil
 |
  x::l,h=>by
  simp only[Fq,Zh,Xc,List.any_eq_false]at h;refine List.nodup_cons.2 ⟨λhm=>?_,zW h.2⟩;exact h.1 x hm ((MapKept.bytes_beq x x).2 rfl)
def G7 {C:Cx}{f g:FuncId}(hS:XH C f g){xs:List AV}{h h':Hp}{r:AV}(hb:Fs h g xs=some (r,h'))(w:World)(X:Nat->Prop)(ρ:Nat->Nat)(vs:Array Value)(hs:iw C.G w X ρ h)(hl:vs.size=xs.length)
 (hv:∀(k:Nat) (x:AV),xs[k]?=some x->Rp w (fj X ρ h) ρ h.length (vs.getD k undef) x):
 (∃fn,C.P.funcs[f]?=some fn/\fn.name≠ "runtime.NumGoroutine" /\fn.body.isSome=true)/\Calls C.P f vs w (th C w X ρ h h' r):=by
 unfold Fs at hb;split at hb
 case h_2=>cases hb
 rename_i g' b;split at hb
 case isFalse=>cases hb
 rename_i hgg;subst hgg;split at hb
 case h_2=>cases hb
 rename_i id hbx;split at hb
 case h_2=>cases hb
 rename_i es clock dC;have h0:=hv 0 _ rfl;obtain⟨us,wG,hul,hur⟩:=h0.qH;have hp:=(hur 0 _ rfl).oq;have hus:us= #[.pointer (some ⟨ρ b,0,none⟩)]:=by
  apply Array.ext
  .simpa using hul
  .intro i h1 h2;have kY:i=0:=by simpa using h2
   subst kY;have:=hp.1;simp only[h1,Zr,Xv,Yv]at this;simpa using this
 have J0:vs= #[.func (.func g) #[] #[.pointer (some ⟨ρ b,0,none⟩)]]:=by
  apply Array.ext
  .simpa using hl
  .intro i h1 h2;have kY:i=0:=by simpa using h2
   subst kY;simp only[h1,Zr,Xv,Yv]at wG;rw[wG,hus];rfl
 subst J0;obtain⟨dA,t,fz,u0,c1,_,c2,c3⟩:=hs.row b _ hbx;obtain⟨d1,d2,d3⟩:=c3 0 _ rfl;have hm:=d3.LX.1;rw[hm]at d1;obtain⟨ms,b1,b2,bnd,b3⟩:=hs.kg id _ dC;have acE:∀x∈ms.toList,x.born<clock:=λx hx=>by
  obtain⟨j,hj,rfl⟩:=List.getElem_of_mem hx;have WZ:j<es.length:=by simp at hj;omega
  obtain⟨m,q1,_,_,q4,_⟩:=b3 j _ (Zb WZ);have:ms.toList[j]=m:=by
   have h3:ms.toList[j]?=some m:=by simpa using q1
   rw[Zb hj]at h3;simpa using h3
  rw[this];exact q4
 have EZ:∀ks,ab9 es=some ks->ms.toList.map (·.key)=ks.map .string:=by
  intro ks hk;obtain⟨m1,m2⟩:=ir hk;apply Xe;intro j;by_cases hj:j<es.length
  .obtain⟨m,q1,q2,_⟩:=b3 j _ (Zb hj);obtain⟨k',r1,r2⟩:=m2 j _ (Zb hj);have q1':ms.toList[j]?=some m:=by simpa using q1
   rw[Zs,Zs,q1',r1];simp only[Xq,q2];cases hq:es[j].1<;>simp[hq]at r2;rw[r2]
  .rw[Xt (by simp;omega),Xt (by simp;omega)]
 have fo:w.cell? ⟨ρ b,0,none⟩=some (.map (some (ρ id))):=by rw[ka c1];exact d1
 obtain⟨wz,Kx⟩:=hS;refine⟨wz,?_⟩;split at hb
 .rename_i hk;simp only[Zc,Zg]at hb;obtain⟨rfl,rfl⟩:=hb;refine(Kx w (ρ b) (ρ id) ms clock [] fo b1 acE bnd (EZ [] hk) List.nodup_nil (by simp) (by simp)).mono ?_;rintro e w' ⟨v,rfl,dD,hh⟩;refine⟨ρ,kq hs dD,.inl ⟨v,rfl,?_⟩⟩;rcases hh with⟨_,rfl⟩|⟨h0,B,cap,cur',t',rfl,hB,lr,h1,h2,h3,h4⟩
  .exact .im (.sc _ rfl)
  .exact absurd rfl h0
 .rename_i ks eW hk;split at hb
  case isTrue=>cases hb
  rename_i rN;simp only[Zc,Zg]at hb;obtain⟨rfl,rfl⟩:=hb;simp only[Bool.or_eq_true,Xc,Zz,not_or,Bool.not_eq_false,Zh,Yr]at rN;obtain⟨⟨S9,gC⟩,cU⟩:=rN;refine(Kx w (ρ b) (ρ id) ms clock ks fo b1 acE bnd (EZ ks hk) (zW S9) gC (by omega)).mono ?_;rintro e w' ⟨v,rfl,dD,hh⟩;rcases hh with⟨h0,_⟩|⟨_,B,cap,cur',t',rfl,hB,lr,h1,h2,h3,h4⟩
  .subst h0;exact absurd rfl eW
  .have KS:=xX ks;have he:=E8 (cs:=(A9 ks).map λs=> .sc (.string s)) hs dD hB lr (by simp;omega) (λk x hk=>by
    simp only[Zs,Ze]at hk;obtain⟨s,kC,rfl⟩:=hk;exact⟨_,rfl,rfl,h4 k s kC⟩)
   refine⟨_,he,.inl ⟨_,rfl,?_⟩⟩;have:=Rp.sl (w:=w') (X:=fj X (λi=>if i=h.length then B else ρ i) (h++[fp.row ((A9 ks).map λs=> .sc (.string s))])) (ρ:=λi=>if i=h.length then B else ρ i) (n:=(h++[fp.row ((A9 ks).map λs=> .sc (.string s))]).length)
    h.length 1 0 ks.length cap false cur' t' (0,0) (by simp) (by simpa using lr) (by omega) (by simp) (by intro;omega) h1 h2
   simpa using this
 .cases hb
def E9 :∀{cY:List (List AV)},cY.all (λr=>match r with| [.sc v]=>lG v|_=>false)=true->cY.flatten.length=cY.length/\∀(k:Nat) (x:AV),cY.flatten[k]?=some x->∃v,x= .sc v/\lG v=true/\cY[k]?=some [.sc v]
 | [],_=>⟨rfl,λk x hk=>by simp at hk⟩
 |
  r::t,h=>by
  simp only[Zn,Zh]at h;obtain⟨h1,h2⟩:=h;obtain⟨i1,i2⟩:=E9 h2;split at h1
  case h_2=>cases h1
  rename_i v;refine⟨by simp[i1],λk x hk=>?_⟩;cases k with
  |
   zero=>
   simp at hk;exact⟨v,hk.symm,h1,rfl⟩
  |
   succ k=>
   simp only[List.flatten_cons,List.singleton_append,Yf]at hk|-;exact i2 k x hk
def Sm {C:Cx}{f:FuncId}(hS:WB C f)(hT:∀f xs r,C.tE f xs=some r->oY C f xs r){xs:List AV}{h h':Hp}{r:AV}(hb:Th C f h xs=some (r,h'))(w:World)(X:Nat->Prop)(ρ:Nat->Nat)(vs:Array Value)(hs:iw C.G w X ρ h)(hl:vs.size=xs.length)
 (hv:∀(k:Nat) (x:AV),xs[k]?=some x->Rp w (fj X ρ h) ρ h.length (vs.getD k undef) x):
 (∃fn,C.P.funcs[f]?=some fn/\fn.name≠ "runtime.NumGoroutine" /\fn.body.isSome=true)/\Calls C.P f vs w (th C w X ρ h h' r):=by
 unfold Th at hb;split at hb
 case h_2=>cases hb
 rename_i ys wL;obtain⟨m1,m2⟩:=ir wL;have hG:GOK C.G w X:=λg row hg=>by
  obtain⟨h1,h2⟩:=hs.tD g row hg;exact⟨λhh=>h1 (.inl hh),h2⟩
 have hya:∀(k:Nat) (y:AV),ys[k]?=some y->Ri w X (vs.getD k undef) y:=λk y hk=>by
  have g_:k<xs.length:=by have:=(Za.1 hk).1;omega
  obtain⟨b,hb,lH⟩:=m2 k _ (Zb g_);rw[hk]at hb;cases hb;exact pN hs 8 _ _ _ (hv k _ (Zb g_)) lH
 have hyl:vs.size=ys.length:=by omega
 split at hb
 .rename_i cY z Ar;split at hb
  case isFalse=>cases hb
  rename_i rN;simp only[Zh,Xc,List.isEmpty_eq_false_iff]at rN;obtain⟨dJ,eW⟩:=rN;simp only[Zc,Zg]at hb;obtain⟨rfl,rfl⟩:=hb;obtain⟨aa,ae⟩:=E9 dJ;refine⟨(hT f ys _ Ar w X vs hs.DV hG hyl hya).1,?_⟩;refine(hS ys cY z Ar eW w X vs hs.DV hG hyl hya).mono ?_;rintro e w' ⟨dD,B,cap,dA,t,rfl,hB,lr,h1,h2,h3,h4⟩;have he:=E8 (cs:=cY.flatten) hs dD hB lr (by omega) (λk x hk=>by
   obtain⟨v,v1,v2,v3⟩:=ae k x hk;exact⟨v,v1,v2,h4 k v v3⟩)
  refine⟨_,he,.inl ⟨_,rfl,?_⟩⟩;have:=Rp.sl (w:=w') (X:=fj X (λi=>if i=h.length then B else ρ i) (h++[fp.row cY.flatten])) (ρ:=λi=>if i=h.length then B else ρ i) (n:=(h++[fp.row cY.flatten]).length)
   h.length 1 0 cY.length cap false dA t (0,0) (by simp) (by simpa using lr) (by omega) (by simp) (by intro;omega) h1 h2
  simpa using this
 .rename_i v Ar;simp only[Zc,Zg]at hb;obtain⟨rfl,rfl⟩:=hb;obtain⟨p1,p2⟩:=hT f ys _ Ar w X vs hs.DV hG hyl hya;refine⟨p1,p2.mono λe w' ⟨u,he,dD,Ho⟩=>⟨ρ,kq hs dD,.inl ⟨u,he,.im ?_⟩⟩⟩;obtain⟨e1,e2⟩:=Ho.eF;subst e1;exact .sc _ e2
 .cases hb
def akF {vs:Array Value}(h:vs.size=3):vs= #[vs.getD 0 undef,vs.getD 1 undef,vs.getD 2 undef]:=by
 apply Array.ext
 .simpa using h
 .intro i h1 h2;have h3:i<3:=by omega
  have:i=0\/i=1\/i=2:=by omega
  rcases this with rfl|rfl|rfl<;>simp[h1,Zr]
def Ky {G:Nat->Option (List Value)}{w:World}{X:Nat->Prop}{ρ:Nat->Nat}{h:Hp}(hs:iw G w X ρ h){id:Nat}{cs:List AV}(dC:h[id]?=some (.row cs))(m:Nat)(hm:m<=cs.length):
 ∃(dA:Array Value) (t:TypeId) (fz:Nat × Nat) (dX:List Value),w.heap[ρ id]?=some (.cells dA t fz)/\Fz fz dA/\cs.length<=dA.size/\dX.length=m/\(∀u∈dX,u.oneCell'=true)/\(∀(k:Nat) (u:Value),dX[k]?=some u->dA[k]?=some u)/\
  ∀(k:Nat) (y:AV),k<m->cs[k]?=some y->Rp w (fj X ρ h) ρ h.length (dX.getD k undef) y:=by
 obtain⟨dA,t,fz,us,c1,c2,c3,c4⟩:=hs.row id cs dC;refine⟨dA,t,fz,(List.range m).map us,c1,c2,c3,by simp,λu hu=>?_,λk u hk=>?_,λk y hk hy=>?_⟩
 .simp only[Yi,List.mem_range]at hu;obtain⟨j,hj,rfl⟩:=hu;exact(c4 j _ (Zb (by omega))).2.1
 .simp only[Zs,Ze]at hk;obtain⟨j,hj,rfl⟩:=hk;have jU:k<m:=by have:=(Za.1 hj).1;simpa using this
  rw[Xp jU]at hj;cases hj;exact(c4 k _ (Zb (by omega))).1
 .have e:((List.range m).map us).getD k undef=us k:=by simp[List.getD,Xp hk]
  rw[e];exact(c4 k y hy).2.2
def Sn {w:World}{X:Nat->Prop}{ρ:Nat->Nat}{n:Nat}{olds vs:List Value}{oa va:List AV}(p:Nat)(hp:p<=olds.length)(h1:oa.length=olds.length)(h2:va.length=vs.length)
 (ho:∀(k:Nat) (y:AV),oa[k]?=some y->Rp w X ρ n (olds.getD k undef) y) (hv:∀(k:Nat) (y:AV),va[k]?=some y->Rp w X ρ n (vs.getD k undef) y) (o1:∀u∈olds,u.oneCell'=true) (v1:∀u∈vs,u.oneCell'=true)
 (k:Nat) (y:AV) (hk:(oa.take p++va++oa.drop p)[k]?=some y):∃u,(olds.take p++vs++olds.drop p)[k]?=some u/\u.oneCell'=true/\Rp w X ρ n u y:=by
 have hl:(oa.take p++va++oa.drop p).length=(olds.take p++vs++olds.drop p).length:=by simp;omega
 have g_:k< (olds.take p++vs++olds.drop p).length:=by rw[<-hl];exact(Za.1 hk).1
 refine⟨_,Zb g_,?_,?_⟩
 .have hm:=Xd g_;rcases Ya.1 hm with hm|hm
  .rcases Ya.1 hm with hm|hm
   .exact o1 _ (Xl hm)
   .exact v1 _ hm
  .exact o1 _ (List.mem_of_mem_drop hm)
 .have key:∀(l m:List Value) (la ma:List AV),la.length=l.length->(∀k y,la[k]?=some y->Rp w X ρ n (l.getD k undef) y)->(∀k y,ma[k]?=some y->Rp w X ρ n (m.getD k undef) y)->∀k y,(la++ma)[k]?=some y->Rp w X ρ n ((l++m).getD k undef) y:=by
   intro l m la ma e q1 q2 k y hy;by_cases hk:k<la.length
   .rw[Zd hk]at hy;rw[List.getD,Zd (by omega)];exact q1 k y hy
   .rw[Zf (by omega)]at hy;rw[List.getD,Zf (by omega),<-e];exact q2 _ y hy
  have:=key (olds.take p++vs) (olds.drop p) (oa.take p++va) (oa.drop p) (by simp;omega) (key _ _ _ _ (by simp;omega) (λk y hy=>by
   rw[Xr]at hy;split at hy
   .rename_i YG;rw[List.getD,Xr,dd YG];exact ho k y hy
   .cases hy) hv) (λk y hy=>by
   rw[Xg]at hy;rw[List.getD,Xg];exact ho _ y hy) k y hk
  rwa [List.getD,Zb g_]at this
def Sp {C:Cx}{f:FuncId}{sz bytes:Nat}(hI:zQ C f sz bytes){xs:List AV}{h h':Hp}{r:AV}(hb:A_ sz bytes h xs=some (r,h'))(w:World)(X:Nat->Prop)(ρ:Nat->Nat)(vs:Array Value)(hs:iw C.G w X ρ h)(hl:vs.size=xs.length)
 (hv:∀(k:Nat) (x:AV),xs[k]?=some x->Rp w (fj X ρ h) ρ h.length (vs.getD k undef) x):
 (∃fn,C.P.funcs[f]?=some fn/\fn.name≠ "runtime.NumGoroutine" /\fn.body.isSome=true)/\Calls C.P f vs w (th C w X ρ h h' r):=by
 obtain⟨gC,yw,wz,Kx⟩:=hI;refine⟨wz,?_⟩;unfold A_ at hb;split at hb
 case h_2=>cases hb
 rename_i s i vid sv kk;split at hb
 case h_2=>cases hb
 rename_i cv ahl;split at hb
 case isFalse=>cases hb
 rename_i hc;obtain⟨rfl,NJ,kY⟩:=hc;obtain⟨i',rfl⟩:∃i':Nat,i=i':=⟨i.toNat,by omega⟩;have q1:=(hv 1 _ rfl).eF.1;obtain⟨vc,vcur0,vt0,vf0,q2,_⟩:=(hv 2 _ rfl).j_;have q0:=hv 0 _ rfl;have J0:=akF (by simpa using hl);rw[q1,q2]at J0;obtain⟨DL,vt,vf,Kz,v1,v2,v3,v4,v5,v6,v7⟩:=Ky hs ahl sv (by omega);have p_:∀(base:Option Addr) (k:Nat),vs.getD 0 undef= .slice base 0 0->((i':Int)=0/\k=0/\bytes<=140737488355328)->(r,h')=(AV.sl h.length sv 0 1 false,h++[fp.row cv])->Calls C.P f vs w (th C w X ρ h h' r):=by
  intro base _ e0 hcc hrh;obtain⟨hi,_,hbb⟩:=hcc;have pQ:i'=0:=by omega
  subst pQ;simp only[Zg]at hrh;obtain⟨rfl,rfl⟩:=hrh;rw[J0,e0];refine(Kx w base 0 0 0 (ρ vid) vc [] Kz DL vt vf (by simp) v4 (by omega) (by omega) (by simp[maxLen]) (by omega) (by omega) (by simp) v5 v1 v2 v6 (.inl ⟨rfl,rfl⟩)).mono ?_;rintro e w' ⟨B,gp,cur',t',x8,rfl,lr,z6,hcs,eG,wk,fo,hh⟩;rcases hh with⟨hB,rfl,dD⟩|⟨_,h0,_⟩
  .have he:=wy hs dD hB (cs:=cv) lr (by
    have:1*sv<=gp*sv:=Zx _ (by omega);omega) (λk y hk=>by
    have g_:k<sv:=by have:=(Za.1 hk).1;omega
    have AO:Kz[k]?=some (Kz.getD k undef):=by simp[List.getD,Zb (show k<Kz.length by omega)]
    exact⟨_,fo k _ (by simpa using AO),v5 _ (Zi AO),v7 k y g_ hk⟩)
   refine⟨_,he,.inl ⟨_,rfl,?_⟩⟩;have:=Rp.sl (w:=w') (X:=fj X (λi=>if i=h.length then B else ρ i) (h++[fp.row cv])) (ρ:=λi=>if i=h.length then B else ρ i) (n:=(h++[fp.row cv]).length)
    h.length sv 0 1 gp false cur' t' (0,0) (by simp) (by simpa using lr) (by omega) (by simp) (by intro;omega) (by omega) wk
   simpa using this
  .exact absurd h0 (Nat.lt_irrefl 0)
 split at hb
 .rename_i id s0 len;split at hb
  case h_2=>cases hb
  rename_i cs dC;split at hb
  case isFalse=>cases hb
  rename_i hc;obtain⟨rfl,eW,vq,cU,jt,hbb⟩:=hc;simp only[Int.toNat_natCast,Zc,Zg]at hb vq;obtain⟨rfl,rfl⟩:=hb;obtain⟨cap,aa9,t0,fz0,e0,zT,mI,_,_,Pc,YT,yf⟩:=q0.j_;have nh:=Pc rfl;obtain⟨dA,t,fz,XI,o1,o2,o3,o4,o5,o6,o7⟩:=Ky hs dC (len*s0) cU;have hcc:aa9=dA/\t0=t/\fz0=fz:=by rw[mI]at o1;cases o1;exact⟨rfl,rfl,rfl⟩
  obtain⟨rfl,rfl,rfl⟩:=hcc;have iH:live h id:=⟨_,dC,rfl⟩;have ae6:live h vid:=⟨_,ahl,rfl⟩;have ahm:ρ id≠ρ vid:=λe=>eW (hs.inj _ _ iH ae6 e)
  have pT:i'*s0<=XI.length:=by rw[o4];exact Zx _ vq
  have rR:(cs.take (len*s0)).length=XI.length:=by simp;omega
  have rT:cs.take (i'*s0)=(cs.take (len*s0)).take (i'*s0):=by rw[List.take_take,Nat.min_eq_left (by omega)]
  rw[J0,e0];refine(Kx w (some ⟨ρ id,0,none⟩) len cap i' (ρ vid) vc XI Kz DL vt vf o4 v4 vq YT yf jt hbb o5 v5 v1 v2 v6 (.inr ⟨ρ id,aa9,t0,fz0,rfl,ahm,mI,o2,by omega,o6⟩)).mono ?_;rintro e w' ⟨B,gp,cur',t',x8,rfl,lr,z6,hcs,eG,wk,fo,hh⟩;have Pq:∀(k:Nat) (y:AV),(cs.take (i'*s0)++cv++(cs.take (len*s0)).drop (i'*s0))[k]?=some y->∃u,cur'[k]?=some u/\u.oneCell'=true/\Rp w (fj X ρ h) ρ h.length u y:=by
   intro k y hk;rw[rT]at hk;obtain⟨u,u1,u2,u3⟩:=Sn (w:=w) (X:=fj X ρ h) (ρ:=ρ) (n:=h.length) (i'*s0) pT rR (by omega) (λk y hy=>by
    rw[Xr]at hy;split at hy
    .rename_i g_;exact o7 k y g_ hy
    .cases hy) (λk y hy=>v7 k y (by have:=(Za.1 hy).1;omega) hy) o5 v5 k y hk
   exact⟨u,fo k u u1,u2,u3⟩
  have nS:(cs.take (i'*s0)++cv++(cs.take (len*s0)).drop (i'*s0)).length<=cur'.size:=by
   have:(len+1)*s0<=gp*s0:=Zx _ eG;rw[Xw]at this;simp;omega
  rcases hh with⟨hB,rfl,dD⟩|⟨pO,_,a1,a2,a3,a4,a7,a5,a6⟩
  .have hk:=Ht hs id;have he:=wy hk.wO dD hB (cs:=cs.take (i'*s0)++cv++(cs.take (len*s0)).drop (i'*s0)) lr nS (λk y Hf=>by
    obtain⟨u,u1,u2,u3⟩:=Pq k y Hf;exact⟨u,u1,u2,hk.rp u3⟩)
   have dJ:=hk.trans he;have nP:(h.set id fp.dead).length=h.length:=by simp
   rw[nP]at dJ;refine⟨_,dJ,.inl ⟨_,rfl,?_⟩⟩;have:=Rp.sl (w:=w') (X:=fj X (λi=>if i=h.length then B else ρ i) (h.set id fp.dead++[fp.row (cs.take (i'*s0)++cv++(cs.take (len*s0)).drop (i'*s0))])) (ρ:=λi=>if i=h.length then B else ρ i) (n:=(h.set id fp.dead++[fp.row (cs.take (i'*s0)++cv++(cs.take (len*s0)).drop (i'*s0))]).length)
    h.length s0 0 (len+1) gp false cur' t' (0,0) (by simp) (by simpa using lr) (by omega) (by simp) (by intro;omega) eG wk
   simpa using this
  .simp only[Zc,Addr.mk.injEq,and_true]at pO;obtain⟨rfl,_⟩:ρ id=B/\True:=⟨by simpa using pO,trivial⟩;have he:=qT hs id (.row cs) (.row (cs.take (i'*s0)++cv++(cs.take (len*s0)).drop (i'*s0))) dC rfl rfl a1 a2 a3 a4 (λc tt ff hc=>⟨cur',t',x8,lr,a6 c tt ff hc⟩) a5
    ⟨cur',t',x8,λk=>cur'.getD k undef,lr,z6,nS,λk y Hf=>by
     obtain⟨u,u1,u2,u3⟩:=Pq k y Hf;have:cur'.getD k undef=u:=by rw[Zr,u1];rfl
     simp only[this];exact⟨u1,u2,u3⟩⟩ a7
   have Dp:(h.set id (fp.row (cs.take (i'*s0)++cv++(cs.take (len*s0)).drop (i'*s0))))[id]?=some (.row (cs.take (i'*s0)++cv++(cs.take (len*s0)).drop (i'*s0))):=by
    have:id<h.length:=zT;simp[this]
   have hr:=AZ he.wO id _ Dp;have iA:(h.set id (fp.row (cs.take (i'*s0)++cv++(cs.take (len*s0)).drop (i'*s0)))).set id fp.dead=h.set id fp.dead:=by simp
   rw[iA]at hr;have dJ:=he.trans hr;refine⟨_,dJ,.inl ⟨_,rfl,?_⟩⟩;have nP:(h.set id (fp.row (cs.take (i'*s0)++cv++(cs.take (len*s0)).drop (i'*s0)))).length=h.length:=by simp
   have:=Rp.sl (w:=w') (X:=fj X (λi=>if i=h.length then ρ id else ρ i) (h.set id fp.dead++[fp.row (cs.take (i'*s0)++cv++(cs.take (len*s0)).drop (i'*s0))])) (ρ:=λi=>if i=h.length then ρ id else ρ i) (n:=(h.set id fp.dead++[fp.row (cs.take (i'*s0)++cv++(cs.take (len*s0)).drop (i'*s0))]).length)
    h.length s0 0 (len+1) gp false cur' t' x8 (by simp) (by simpa using lr) (by omega) (by simp) (by intro;omega) eG wk
   simpa[nP]using this
 .rename_i s0;split at hb
  case isFalse=>cases hb
  rename_i hc;obtain⟨rfl,hi,hbb⟩:=hc;simp only[Zc]at hb;rcases q0.mR.iM with⟨_,b,cap,hq,_,c2⟩|⟨b,o',cap,us,dA,t0,fz,hq,c1,c2,c4,c5,c6,c7,c8⟩
  .have:=c2 rfl;subst this;exact p_ _ 0 hq ⟨hi,rfl,hbb⟩ hb.symm
  .have:=c6 rfl;simp only[Xa]at this hq;subst this;exact p_ _ 0 hq ⟨hi,rfl,hbb⟩ hb.symm
 .split at hb
  case isFalse=>cases hb
  rename_i hc;simp only[Zc]at hb;exact p_ _ 0 q0.eF.1 ⟨hc.1,rfl,hc.2⟩ hb.symm
 .cases hb
def G8 {C:Cx}{call:jH}(dy:lj C call){g:FuncId}{xs:List AV}{h':Hp}{c:Value}(hc:call g xs []=some (.sc c,h')):oY C g xs (.sc c):=by
 intro w X vs hX hG hl hv;have hs:=Pe hX hG id;obtain⟨h1,h2⟩:=dy g xs [] _ _ hc w X id vs hs hl (λk x hk=> .im ((hv k x hk).zZ λb hb=>hb.elim (λh=>h) λh=>absurd h (s5 id b)));refine⟨h1,h2.mono λe w' ⟨ρ',hx,hh⟩=>?_⟩;rcases hh with⟨v,he,hr⟩|⟨u,_,hu⟩
 .obtain⟨rfl,hf⟩:=hr.eF;exact⟨_,he,⟨hx.step.os,hx.step.tape,hx.step.output,hx.step.size,λb hb _=>hx.step.keep b hb (s5 id b),hx.step.row,λ_ _ h=>h,hx.step.drew⟩,.sc _ hf⟩
 .cases hu
def KA {X:Nat->Prop}{ρ:Nat->Nat}{h:Hp}{id:Nat}{b:fp}(dC:h[id]?=some b)(hl:wN b=true):fj (λp=>X p\/p=ρ id) ρ (h.set id .dead)=fj X ρ h:=by
 have dY:=(Za.1 dC).1
 funext p
 apply propext;constructor
 .rintro((hx|rfl)|⟨i,⟨b',vB,hd⟩,rfl⟩)
  .exact .inl hx
  .exact .inr ⟨id,⟨b,dC,hl⟩,rfl⟩
  .by_cases e:id=i
   .subst e;rw[Zj dY]at vB;cases vB;cases hd
   .rw[Zq e]at vB;exact .inr ⟨i,⟨b',vB,hd⟩,rfl⟩
 .rintro(hx|⟨i,⟨b',vB,hd⟩,rfl⟩)
  .exact .inl (.inl hx)
  .by_cases e:id=i
   .subst e;exact .inl (.inr rfl)
   .exact .inr ⟨i,⟨b',by rw[Zq e];exact vB,hd⟩,rfl⟩
def XJ {G:Nat->Option (List Value)}{w:World}{X:Nat->Prop}{ρ:Nat->Nat}{h:Hp}(hs:iw G w X ρ h){id:Nat}{b:fp}(dC:h[id]?=some b)(hl:wN b=true):iw G w (λp=>X p\/p=ρ id) ρ (h.set id .dead):=by
 have dY:=(Za.1 dC).1;have e:=KA (X:=X) (ρ:=ρ) dC hl;have hlv:∀i,live (h.set id .dead) i->id≠i/\live h i:=by
  rintro i ⟨b',vB,hd⟩;by_cases q:id=i
  .subst q;rw[Zj dY]at vB;cases vB;cases hd
  .rw[Zq q]at vB;exact⟨q,b',vB,hd⟩
 refine⟨λp hp=>hp.elim (hs.DV p) λq=>q▸hs.lt ⟨b,dC,hl⟩,λg row hg=>?_,λi j hi hj=>hs.inj i j (hlv i hi).2 (hlv j hj).2,λi hi hx=>?_,λi cs hi=>?_,λi b' hi=>?_⟩
 .rw[e];exact hs.tD g row hg
 .obtain⟨q,pQ⟩:=hlv i hi;rcases hx with hx|hx
  .exact hs.out i pQ hx
  .exact q (hs.inj _ _ ⟨b,dC,hl⟩ pQ hx.symm)
 .rw[e];by_cases q:id=i
  .subst q;rw[Zj dY]at hi;cases hi
  .rw[Zq q]at hi;exact hs.rV i cs hi
 .rw[e,List.length_set];by_cases q:id=i
  .subst q;rw[Zj dY]at hi;cases hi;trivial
  .rw[Zq q]at hi;exact hs.kg i b' hi
def KB {ι:Type}{A:ι->List AV}{B:ι->List Value}{s:Nat}{Q:Value->AV->Prop}(hA:∀i,(A i).length=s)(hB:∀i,(B i).length=s)(hR:∀(i:ι) (j:Nat) (x:AV),(A i)[j]?=some x->∃u,(B i)[j]?=some u/\Q u x):
 ∀(l:List ι) (p:Nat) (x:AV),(l.flatMap A)[p]?=some x->∃u,(l.flatMap B)[p]?=some u/\Q u x
 | [],p,x,h=>by simp at h
 |
  i::l,p,x,h=>by
  rw[Yu]at h|-;by_cases hp:p<s
  .rw[Zd (by rw[hA];exact hp)]at h;rw[Zd (by rw[hB];exact hp)];exact hR i p x h
  .rw[Zf (by rw[hA];omega),hA]at h;rw[Zf (by rw[hB];omega),hB];exact KB hA hB hR l _ x h
def pj {ι α:Type}{A:ι->List α}{s:Nat}(hA:∀i,(A i).length=s):∀l:List ι,(l.flatMap A).length=l.length*s
 | []=>by simp
 |i::l=>by rw[Yu,Zu,hA,pj hA l,Yw,Xw];omega
def ph {m:Nat}{cf:Nat->Nat->Int}(h:Hx m cf):(oz m cf).Perm (List.ofFn λi:Fin (m+1)=>i):=by
 have:=(Sort.pdq_sorts _ h (Array.ofFn λi:Fin (m+1)=>i) 0 (m+1) (Lib.bitLen (m+1)) true true (Nat.zero_le _) (by simp) (Or.inl rfl)).1;obtain⟨h1,_,h3⟩:=this;have e1:(Array.ofFn λi:Fin (m+1)=>i).extract 0 (m+1)=Array.ofFn λi:Fin (m+1)=>i:=by simp
 have hz:(Sort.pdq (λi j:Fin (m+1)=>decide (cf i.1 j.1<0)) (Array.ofFn λi:Fin (m+1)=>i) 0 (m+1) (Lib.bitLen (m+1)) true true).size=m+1:=by rw[h1];simp
 rw[e1]at h3;unfold oz;have e2:(Sort.pdq (λi j:Fin (m+1)=>decide (cf i.1 j.1<0)) (Array.ofFn λi:Fin (m+1)=>i) 0 (m+1) (Lib.bitLen (m+1)) true true).extract 0 (m+1)=Sort.pdq (λi j:Fin (m+1)=>decide (cf i.1 j.1<0)) (Array.ofFn λi:Fin (m+1)=>i) 0 (m+1) (Lib.bitLen (m+1)) true true:=by
  have:=Array.extract_size (xs:=Sort.pdq (λi j:Fin (m+1)=>decide (cf i.1 j.1<0)) (Array.ofFn λi:Fin (m+1)=>i) 0 (m+1) (Lib.bitLen (m+1)) true true)
  rwa [hz]at this
 rw[e2]at h3;simpa using h3
def Ic {m:Nat}{cf:Nat->Nat->Int}(h:Hx m cf):Td m cf=oz m cf:=by
 unfold Td;split
 .rename_i e;subst e;have:=ph h;rw[List.ofFn_succ,List.ofFn_zero]at this|-;exact(List.perm_singleton.1 this).symm
 .rfl
def abL {call:jH}{g:FuncId}{ss:List AV}{m:Nat}(h:Tf call g ss m=true):Te call g ss m:=by
 unfold Tf at h;split at h
 .rename_i e;subst e;split at h
  case h_2=>cases h
  rename_i c h' hq;have hc:He call g ss 0 0=c:=by unfold He;rw[hq]
  have h0:0<=c:=by simpa using h
  refine⟨λi j hi hj=>?_,?_⟩
  .obtain rfl:i=0:=by omega
   obtain rfl:j=0:=by omega
   exact⟨h',by rw[hc];exact hq⟩
  .have hz:∀i j:Fin (0+1),decide (He call g ss i.1 j.1<0)=false:=λi j=>by
    have hi:i.1=0:=by omega
    have hj:j.1=0:=by omega
    rw[hi,hj,hc];simp;omega
   unfold Hx;constructor<;>(intros;simp_all)
 .exact @of_decide_eq_true _ (Classical.propDecidable _) h
def XK {k:Nat}{vs:List Value}(h:vs.length=oA k)(h1:∀v∈vs,v.oneCell'=true):∀(w:World) (X:Nat->Prop) (ρ:Nat->Nat) (n:Nat) (cs:List AV),cs.length=oA k->(∀(j:Nat) (x:AV),cs[j]?=some x->Rp w X ρ n (vs.getD j undef) x)->Rp w X ρ n (wS k vs) (Pt k cs):=by
 intro w X ρ n cs hl hr;unfold wS Pt;by_cases hk:k=0
 .rw[dd hk,dd hk];have e1:oA k=1:=by unfold oA;rw[dd hk]
  rw[e1]at h hl
  match vs,cs,h,hl with
  | [v],[x],_,_=>exact hr 0 x rfl
 .rw[db hk,db hk];refine .ag _ _ (by simp[h,hl]) (λj hj=>?_) λj x hx=>?_
  .have WZ:j<vs.length:=by simpa using hj
   have:vs.toArray.getD j undef=vs[j]:=by simp[Array.getD,WZ]
   rw[this];exact h1 _ (Xd WZ)
  .have:=hr j x hx;have hj:j<vs.length:=by rw[h,<-hl];exact(Za.1 hx).1
   have e:vs.toArray.getD j undef=vs.getD j undef:=by simp[Array.getD,List.getD,hj]
   rw[e];exact this
def Sq {C:Cx}{f:FuncId}{kk:Nat}(hS:zN C f kk){call:jH}(dy:lj C call){xs:List AV}{h h':Hp}{r:AV}(hb:Pu call kk h xs=some (r,h'))(w:World)(X:Nat->Prop)(ρ:Nat->Nat)(vs:Array Value)(hs:iw C.G w X ρ h)(hl:vs.size=xs.length)
 (hv:∀(k:Nat) (x:AV),xs[k]?=some x->Rp w (fj X ρ h) ρ h.length (vs.getD k undef) x):
 (∃fn,C.P.funcs[f]?=some fn/\fn.name≠ "runtime.NumGoroutine" /\fn.body.isSome=true)/\Calls C.P f vs w (th C w X ρ h h' r):=by
 obtain⟨wz,p_,Kx⟩:=hS;refine⟨wz,?_⟩;have quiet:∀{e:Ending} {w':World},e= .returned (.tuple #[])/\Step w ef w' ef->th C w X ρ h h (.tp []) e w':=λ{e w'} ⟨he,dD⟩=>⟨ρ,kq hs dD,.inl ⟨_,he,.im (.tp #[] [] rfl λk x hk=>by simp at hk)⟩⟩
 have J0:∀a b,vs.size=2->vs.getD 0 undef=a->vs.getD 1 undef=b->vs= #[a,b]:=λa b h2 ha hb=>by
  obtain⟨l⟩:=vs
  match l,h2 with
  | [x,y],_=>simp at ha hb;rw[ha,hb]
 unfold Pu at hb;split at hb
 .rename_i g;simp only[Zc,Zg]at hb;obtain⟨rfl,rfl⟩:=hb;have q0:=(hv 0 _ rfl).eF.1;obtain⟨us,q1,hus,_⟩:=(hv 1 _ rfl).qH;rw[J0 _ _ (by simpa using hl) q0 q1];exact(p_ w none 0 g us (by simpa using hus)).mono λe w' hh=>quiet hh
 .rename_i s z g;simp only[Zc,Zg]at hb;obtain⟨rfl,rfl⟩:=hb;obtain⟨base,cap,q0⟩:∃base cap,vs.getD 0 undef= .slice base 0 cap:=by
   rcases(hv 0 _ rfl).mR.iM with⟨_,a,cap,e,_⟩|⟨b,o,cap,_,_,_,_,e,_⟩
   .exact⟨_,_,e⟩
   .exact⟨_,_,e⟩
  obtain⟨us,q1,hus,_⟩:=(hv 1 _ rfl).qH;rw[J0 _ _ (by simpa using hl) q0 q1];exact(p_ w base cap g us (by simpa using hus)).mono λe w' hh=>quiet hh
 .rename_i id s off len k g;have gC:0<oA kk:=by unfold oA;split<;>omega
  obtain⟨cap,aa9,t0,fz0,e0,zT,mI,r_,SI,Pc,YT,yf⟩:=(hv 0 _ rfl).j_;obtain⟨bs,q1,MR,_⟩:=(hv 1 _ rfl).qH;have ahn:bs.size=0:=by simpa using MR
  rw[J0 _ _ (by simpa using hl) e0 q1];split at hb
  .simp only[Zc,Zg]at hb;obtain⟨rfl,rfl⟩:=hb;exact(p_ w _ cap g bs ahn).mono λe w' hh=>quiet hh
  .rename_i cs m dC;split at hb
   case isFalse=>cases hb
   rename_i hc;obtain⟨hsK,hcs,akG⟩:=hc;rw[<-hsK]at Kx gC;split at hb
   case h_2=>cases hb
   rename_i ss hss;split at hb
   case isFalse=>cases hb
   rename_i yx;simp only[Zc,Zg]at hb;obtain⟨rfl,rfl⟩:=hb;obtain⟨akH,BK⟩:=abL yx;rw[Ic BK];obtain⟨dA,t,fz,us,c1,c2,c3,c4⟩:=hs.row id cs dC;have hG:=XJ hs dC rfl;have akI:=KA (X:=X) (ρ:=ρ) dC (b:= .row cs) rfl;have aho:∀(i:Fin (m+1)) (j:Nat),j<s->off+i.1*s+j<cs.length:=λi j hj=>by
    have h1:(i.1+1)*s<=(m+1)*s:=Zx _ i.2;rw[Xw]at h1;omega
   have nC:∀i:Fin (m+1),(rowAt s off cs i.1).length=s:=λi=>by
    have:=aho i (s-1) (by omega);unfold rowAt;simp;omega
   have hrg:∀(i:Fin (m+1)) (j:Nat) (x:AV),(rowAt s off cs i.1)[j]?=some x->j<s/\cs[off+i.1*s+j]?=some x:=λi j x hx=>by
    unfold rowAt at hx;rw[Xr]at hx;split at hx
    .rename_i hj;rw[Xg]at hx;exact⟨hj,hx⟩
    .cases hx
   have hun:∀(i:Fin (m+1)) (j:Nat),j<s->((List.range s).map λj=>us (off+i.1*s+j))[j]?=some (us (off+i.1*s+j)):=λi j hj=>by simp[hj]
   have fo:∀(i:Fin (m+1)) (j:Nat),j<s->dA[off+i.1*s+j]?=some (us (off+i.1*s+j))/\(us (off+i.1*s+j)).oneCell'=true:=λi j hj=>by
    have:=c4 _ _ (Zb (aho i j hj));exact⟨this.1,this.2.1⟩
   have hrp:∀i:Fin (m+1),Rp w (fj X ρ h) ρ h.length (wS kk ((List.range s).map λj=>us (off+i.1*s+j))) (Pt kk (rowAt s off cs i.1)):=λi=>by
    refine XK (by simp[hsK]) (λv hv=>?_) _ _ _ _ _ ((nC i).trans hsK) λj x hx=>?_
    .simp only[Yi,List.mem_range]at hv;obtain⟨j,hj,rfl⟩:=hv;exact(fo i j hj).2
    .obtain⟨hj,KY⟩:=hrg i j x hx;have:((List.range s).map λj=>us (off+i.1*s+j)).getD j undef=us (off+i.1*s+j):=by simp[List.getD,hj]
     rw[this];exact(c4 _ _ KY).2.2
   obtain⟨m1,m2⟩:=ir hss;have Ho:∀i:Fin (m+1),Ri w (λp=>X p\/p=ρ id) (wS kk ((List.range s).map λj=>us (off+i.1*s+j))) (ss.getD i.1 .ud):=λi=>by
    obtain⟨y,Ot,hy2⟩:=m2 i.1 i.1 (by simp);have:ss.getD i.1 .ud=y:=by simp[List.getD,Ot]
    rw[this];refine pN hG 8 _ _ y ?_ hy2;rw[akI,List.length_set];exact hrp i
   have hg:∀(W:World) (i j:Fin (m+1)),xS (ρ id) w W->(∃fn,C.P.funcs[g]?=some fn/\fn.name≠ "runtime.NumGoroutine" /\fn.body.isSome=true)/\
    Calls C.P g #[wS kk ((List.range s).map λk=>us (off+i.1*s+k)),wS kk ((List.range s).map λk=>us (off+j.1*s+k))] W (λe W'=>e= .returned (.int .i64 (He call g ss i.1 j.1))/\Step W ef W' ef):=by
    intro W i j hW;obtain⟨w1,w2,w3,w4,w5⟩:=hW;obtain⟨h'',hc⟩:=akH i.1 j.1 (by omega) (by omega);have hk:Kept w (λp=>X p\/p=ρ id) W (λp=>X p\/p=ρ id):=⟨λb hb hn=>w5 b hb (λe=>hn (.inr e)),λ_ _ q=>q⟩;obtain⟨p1,p2⟩:=G8 dy hc W (λp=>X p\/p=ρ id) #[wS kk ((List.range s).map λk=>us (off+i.1*s+k)),wS kk ((List.range s).map λk=>us (off+j.1*s+k))] (λb hb=>Ym (hG.DV b hb) w4) (λgl row EB=>by
     obtain⟨hn,WX,t1,aa,Hh,hh⟩:=hG.tD gl row EB;exact⟨λq=>hn (.inl q),WX,t1,aa,(w5 gl (fH Hh) λe=>hn (.inl (.inr e))).trans Hh,hh⟩) rfl (λk x hx=>by
     match k,hx with
     |0,hx=>cases hx;exact(Ho i).kept hk
     |1,hx=>cases hx;exact(Ho j).kept hk
     |_+2,hx=>simp at hx)
    refine⟨p1,p2.mono λe W' ⟨v,he,dD,hr⟩=>⟨?_,dD⟩⟩;have:=(Rp.im (ρ:=ρ) (n:=0) hr).eF.1;rw[he,this]
   have hrefl:xS (ρ id) w w:=⟨rfl,rfl,rfl,Yt _,λ_ _ _=>rfl⟩;refine(Kx w m cap (ρ id) off dA t fz (λi=>(List.range s).map λk=>us (off+i.1*s+k)) (He call g ss) g bs ahn akG c1 c2 (Yn hcs c3) (λi=>by simp) (λi u hu=>?_) (λi j u hu=>?_) BK (hg w 0 0 hrefl).1 (λW i j hW=>(hg W i j hW).2)).mono ?_
   .simp only[Yi,List.mem_range]at hu;obtain⟨j,hj,rfl⟩:=hu;exact(fo i j hj).2
   .have hj:j<s:=by have:=(Za.1 hu).1;simpa using this
    rw[hun i j hj]at hu;cases hu;exact(fo i j hj).1
   rintro e w' ⟨rfl,cur',d1,d2,d3,d4,⟨o1,o2,o3,o4,o5⟩,d6⟩;have dY:=fH c1;have Hh:({w with heap:=w.heap.setIfInBounds (ρ id) (.cells cur' t fz)}:World).heap[ρ id]?=some (.cells cur' t fz):=by
    show(w.heap.setIfInBounds (ρ id) _)[ρ id]?=_;simp[dY]
   have hwn:∀b,b≠ρ id->({w with heap:=w.heap.setIfInBounds (ρ id) (.cells cur' t fz)}:World).heap[b]?=w.heap[b]?:=λb hb=>by
    show(w.heap.setIfInBounds (ρ id) _)[b]?=_;rw[Array.getElem?_setIfInBounds_ne (Ne.symm hb)]
   have sA:((oz m (He call g ss)).flatMap λi=>rowAt s off cs i.1).length=(m+1)*s:=by
    rw[pj nC,(ph BK).length_eq,List.length_ofFn]
   have Pq:∀(k:Nat) (x:AV),(cs.take off++(oz m (He call g ss)).flatMap (λi=>rowAt s off cs i.1)++cs.drop (off+(m+1)*s))[k]?=some x->∃u,cur'[k]?=some u/\u.oneCell'=true/\Rp w (fj X ρ h) ρ h.length u x:=by
    intro k x hx;have hto:(cs.take off).length=off:=by simp;omega
    by_cases k1:k<off
    .rw[Zp,Zd (by rw[hto];exact k1),Xr,dd k1]at hx;have:=c4 k x hx;exact⟨_,(d3 k (.inl k1)).trans this.1,this.2⟩
    .rw[Zp,Zf (by rw[hto];omega),hto]at hx;by_cases k2:k<off+(m+1)*s
     .rw[Zd (by rw[sA];omega)]at hx;obtain⟨u,u1,u2⟩:=KB (Q:=λu x=>u.oneCell'=true/\Rp w (fj X ρ h) ρ h.length u x) nC (B:=λi:Fin (m+1)=>(List.range s).map λk=>us (off+i.1*s+k)) (λi=>by simp) (λi j x hx=>by
       obtain⟨hj,KY⟩:=hrg i j x hx;exact⟨_,hun i j hj,(c4 _ _ KY).2⟩) _ _ _ hx
      have:=d4 _ _ u1;rw[show off+(k-off)=k by omega]at this;exact⟨u,this,u2⟩
     .rw[Zf (by rw[sA];omega),sA,Xg]at hx;rw[show off+(m+1)*s+(k-off-(m+1)*s)=k by omega]at hx;have:=c4 k x hx;exact⟨_,(d3 k (.inr (by omega))).trans this.1,this.2⟩
   have he:=qT (w':={w with heap:=w.heap.setIfInBounds (ρ id) (.cells cur' t fz)}) hs id (.row cs) (.row (cs.take off++(oz m (He call g ss)).flatMap (λi=>rowAt s off cs i.1)++cs.drop (off+(m+1)*s))) dC rfl rfl rfl rfl rfl (by simp) (λc tt ff hc=>by
    rw[c1]at hc;cases hc;exact⟨cur',t,fz,Hh,d2⟩) hwn (by
    rw[Hh];refine⟨cur',t,fz,λk=>cur'.getD k undef,rfl,c2.imp (λq=>q) (λq=>q.2.elim),?_,λk x hx=>?_⟩
    .rw[Zu,Zu,sA,d2];simp;omega
    .obtain⟨u,u1,u2,u3⟩:=Pq k x hx;have:cur'.getD k undef=u:=by rw[Zr,u1];rfl
     simp only[this];exact⟨u1,u2,u3⟩)
   have eK:∀b,b<w.heap.size->w'.heap[b]?=({w with heap:=w.heap.setIfInBounds (ρ id) (.cells cur' t fz)}:World).heap[b]?:=λb hb=>by
    by_cases e:b=ρ id
    .subst e;rw[d1,Hh]
    .rw[o5 b hb e,hwn b e]
   have dD:Step ({w with heap:=w.heap.setIfInBounds (ρ id) (.cells cur' t fz)}:World) ef w' ef:=⟨o1,o2,o3,by simpa using o4,λb hb _=>eK b (by simpa using hb),λb c tt ff hc=>⟨c,tt,ff,(eK b (by have:=fH hc;simpa using this)).trans hc,rfl⟩,λ_ _ q=>q,d6⟩;exact⟨ρ,he.trans (kq he.wO dD),.inl ⟨_,rfl,.im (.tp #[] [] rfl λk x hk=>by simp at hk)⟩⟩
  .cases hb
 .cases hb
def zX {C:Cx}(hC:WI C):∀n,(∀b,lj C (cW C n b))/\∀g xs h r h',C.inl g=false->cW C n false g xs h=some (r,h')->h'=h:=by
 intro n
 induction n with
 |zero=>exact⟨λb g xs h r h' hc=>by simp[cW]at hc,λg xs h r h' _ hc=>by simp[cW]at hc⟩
 |
  succ n ih=>
  obtain⟨ih1,ih2⟩:=ih;constructor
  .intro b g xs h r h' hc w X ρ vs hs hl hv;simp only[cW]at hc;split at hc
   .rename_i g' kt hsr;split at hc
    .exact G7 (hC.ox g g' kt hsr) hc w X ρ vs hs hl hv
    .cases hc
   split at hc
   .split at hc
    .rename_i sz bytes ae7;unfold af7 at hc;split at hc
     .rename_i hz;subst hz;exact Sq (hC.sfn g sz ae7) (ih1 false) hc w X ρ vs hs hl hv
     split at hc
     .rename_i hz ta;subst ta;exact Sm (hC.own g sz ae7) hC.tE hc w X ρ vs hs hl hv
     .rename_i hz ta;exact Sp (hC.ins g sz bytes ae7 hz ta) hc w X ρ vs hs hl hv
    split at hc
    .rename_i r1 Ar;simp only[Zc,Zg]at hc;obtain⟨rfl,rfl⟩:=hc;split at Ar
     case isFalse=>cases Ar
     rename_i Cb;rw[Yr]at Cb;obtain⟨p1,p2⟩:=hC.tE g xs _ Ar w (fj X ρ h) vs (λb hb=>hb.elim (hs.DV b) λ⟨i,hi,e⟩=>e▸hs.lt hi) hs.tD (by omega) (λk y hk=>GF (hv k y hk) (Cb _ (Zi hk)));exact⟨p1,p2.mono λe w' ⟨v,he,dD,Ho⟩=>⟨ρ,kq hs dD,.inl ⟨v,he,.im Ho⟩⟩⟩
    split at hc
    .split at hc
     .exact Kw hC.base hC.Y7 ih1 ih2 hc w X ρ vs hs hl hv
     .exact zU hC.base ih1 ih2 hc w X ρ vs hs hl hv
    .cases hc
   .split at hc
    case h_2=>cases hc
    rename_i ys wL;obtain⟨m1,m2⟩:=ir wL;split at hc
    case h_2=>cases hc
    rename_i r' du;have XL:oY C g ys r':=by
     split at du
     .rename_i r1 h1;simp only[Zc]at du;subst du;exact hC.tE g ys _ h1
     .split at du
      .rename_i r1 h1 hb;simp only[Ze]at du;obtain⟨r2,r9,rfl⟩:=du;have hp:=xW hC.base ih1 ih2 hb r9;exact λw X vs h1 h2 h3 h4=>⟨(hp w X vs h1 h2 h3 h4).1,(hp w X vs h1 h2 h3 h4).2.mono λe w' ⟨v,he,dD,Ho⟩=>⟨v,he,dD,hC.nf g w' X v _ Ho⟩⟩
      .cases du
    split at hc
    .rename_i rN;simp only[Zc,Zg]at hc;obtain⟨rfl,rfl⟩:=hc;simp only[Bool.or_eq_true]at rN;rcases rN with Cb|SS
     .rw[Yr]at Cb;have hG:GOK C.G w (fj X ρ h):=hs.tD;obtain⟨p1,p2⟩:=XL w (fj X ρ h) vs (λb hb=>hb.elim (hs.DV b) λ⟨i,hi,e⟩=>e▸hs.lt hi) hG (by omega) (λk y hk=>by
       have g_:k<xs.length:=by have:=(Za.1 hk).1;omega
       obtain⟨b,hb,lH⟩:=m2 k _ (Zb g_);rw[hk]at hb;cases hb;have nM:=Cb _ (Xd g_);rw[Sk nM lH];exact GF (hv k _ (Zb g_)) nM)
      exact⟨p1,p2.mono λe w' ⟨v,he,dD,Ho⟩=>⟨ρ,kq hs dD,.inl ⟨v,he,.im Ho⟩⟩⟩
     .have hG:GOK C.G w X:=λg row hg=>by
       obtain⟨h1,h2⟩:=hs.tD g row hg;exact⟨λhh=>h1 (.inl hh),h2⟩
      obtain⟨p1,p2⟩:=XL w X vs hs.DV hG (by omega) (λk y hk=>by
       have g_:k<xs.length:=by have:=(Za.1 hk).1;omega
       obtain⟨b,hb,lH⟩:=m2 k _ (Zb g_);rw[hk]at hb;cases hb;exact pN hs 8 _ _ _ (hv k _ (Zb g_)) lH)
      exact⟨p1,p2.mono λe w' ⟨v,he,dD,Ho⟩=>⟨ρ,kq hs dD,.inl ⟨v,he,.im (Sl Ho SS)⟩⟩⟩
    .split at hc
     case isFalse=>cases hc
     rename_i hb;simp only[Zh,Option.isSome_iff_exists]at hb;obtain⟨_,zs,hzs⟩:=hb;simp only[Ze,Zg]at hc;obtain⟨h1,hz,rfl,rfl⟩:=hc;obtain⟨he,lH⟩:=xQ hs hz;obtain⟨z1,z2⟩:=ir hzs;obtain⟨p1,p2⟩:=XL w (fj X ρ h1) vs (λb hb=>hb.elim (hs.DV b) λ⟨i,hi,e⟩=>e▸he.wO.lt hi) he.wO.tD (by omega) (λk y hk=>by
      have g_:k<xs.length:=by have:=(Za.1 hk).1;omega
      obtain⟨b,hb,LN⟩:=m2 k _ (Zb g_);obtain⟨b',vB,YN⟩:=z2 k _ (Zb g_);have KX:=Rt _ _ _ YN;rw[LN]at KX;cases KX;rw[hk]at hb;cases hb;exact lH 8 _ _ _ (hv k _ (Zb g_)) YN)
     exact⟨p1,p2.mono λe w' ⟨v,nk,dD,Ho⟩=>⟨ρ,he.trans (kq he.wO dD),.inl ⟨v,nk,.im Ho⟩⟩⟩
  .intro g xs h r h' akJ hc;simp only[cW,akJ,Yq,if_false,Bool.false_and]at hc;split at hc
   .cases hc
   split at hc
   case h_2=>cases hc
   split at hc
   case h_2=>cases hc
   split at hc
   case isFalse=>cases hc
   simp only[Zc,Zg]at hc;exact hc.2.symm
def Hr {C:Cx}(hC:WI C){n:Nat}{f:FuncId}{xs:List AV}{h':Hp}{r0 r:AV}(hb:qR C (cW C n) f xs []=some (r0,h')){m:Nat}(lH:dq h' m r0=some r):oY C f xs r:=
 xW hC.base (zX hC n).1 (zX hC n).2 hb lH
end Go.Ae
