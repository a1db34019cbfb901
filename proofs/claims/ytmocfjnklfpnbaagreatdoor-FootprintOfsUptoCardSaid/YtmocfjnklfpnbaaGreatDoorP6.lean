/- Part of the proof. -/
import Derived.Test.YtmocfjnklfpnbaaGreatDoorP5
import Derived.LoopN
import Derived.Defers
import Derived.Sort.AssemblyPlain
set_option linter.all false
namespace Go.Ae
open Go
def codeOk(C:Cx):Code->Bool
 | .region _ ops true=>J1 C ops
 | .seq a b=>codeOk C a && codeOk C b
 | .cond _ a b=>codeOk C a && codeOk C b
 | .block _ c=>codeOk C c
 | .loop c=>codeOk C c
 |_=>true
structure Cq (C:Cx):Prop where
 mixed:C.P.follows .mixedOrders=true
 types:∀t i,C.T t=some i->ir C.P t=some i
 Ht:∀f fi,C.F f=some fi->I5 C.P f=some fi/\codeOk C fi.body=true/\∀fn,C.P.funcs[f]?=some fn->fn.name≠ "runtime.NumGoroutine"
section exec
variable {C : Cx} {call : Bool -> FuncId -> List AV -> Hp -> Option (AV × Hp)}
def lq(hC:Cq C)(cW:∀b,jm C (call b))(gh:∀g xs h r h',C.inl g=false->call false g xs h=some (r,h')->h'=h){X:Nat->Prop}:
 ∀(c:Code),codeOk C c=true->∀(s s':St)(out:Out),exec C call c s=some (out,s')->∀(a:Act)(w:World)(ρ:Nat->Nat)(Q:Exit->Act->World->Prop),ia C.G w X ρ s.2->RF w (dZ X ρ s.2) ρ s.2.length a.tmps s.1->
  (∀a' w' ρ',Ext C.G w X ρ s.2 w' ρ' s'.2->RF w' (dZ X ρ' s'.2) ρ' s'.2.length a'.tmps s'.1->a'.defers=a.defers->Q (uT out) a' w')->c.wp C.P Q a w:=by
 intro c
 induction c with
 |
  skip=>
  intro _ s s' out he a w ρ Q hs hf hQ;simp only[exec,Zc,Zg]at he;obtain⟨rfl,rfl⟩:=he;exact wp_skip (hQ a w ρ (Ext.refl hs) hf rfl)
 |label l=>
  intro _ s s' out he a w ρ Q hs hf hQ;simp only[exec,Zc,Zg]at he;obtain⟨rfl,rfl⟩:=he;exact wp_label (hQ a w ρ (Ext.refl hs) hf rfl)
 |exit id=>
  intro _ s s' out he a w ρ Q hs hf hQ;simp only[exec,Zc,Zg]at he;obtain⟨rfl,rfl⟩:=he;exact wp_exit (hQ a w ρ (Ext.refl hs) hf rfl)
 |
  ret=>
  intro _ s s' out he a w ρ Q hs hf hQ;simp only[exec,Zc,Zg]at he;obtain⟨rfl,rfl⟩:=he;exact wp_ret (hQ a w ρ (Ext.refl hs) hf rfl)
 |region id ops draw=>
  intro jB s s' out he a w ρ Q hs hf hQ;simp only[exec]at he;cases draw with
  |
   false=>
   simp only[Yl,if_false]at he;refine wp_region ?_;have:=DS hC.types (cW true) ops.toList 0 s s' out (by simp) he a w ρ hs hf hQ;simpa using this
  |
   true=>
   simp only[if_true]at he;split at he
   .rename_i tT hr;split at he
    .rename_i fZ;simp only[Ze,Zg]at he;obtain⟨s1,hl,rfl,rfl⟩:=he;exact KG hC.mixed hC.types (cW false) gh jB hr fZ hl hs hf hQ
    .cases he
   .unfold aaO at he;split at he
    .obtain⟨v,h',rfl,rfl,hd⟩:=OU he;exact Uk hC.mixed hC.types (cW false) gh jB hd hs hf λa' w' ρ' h1 h2 h3=>hQ a' w' ρ' h1 h2 h3
    .cases he
 |seq x y U9 ihy=>
  intro jB s s' out he a w ρ Q hs hf hQ;simp only[codeOk,Zh]at jB;simp only[exec]at he;refine wp_seq ?_;split at he
  .rename_i s1 h1;refine U9 jB.1 s s1 .normal h1 a w ρ _ hs hf λa1 w1 ρ1 e1 ae d1=>?_
   show y.wp C.P Q a1 w1;exact ihy jB.2 s1 s' out he a1 w1 ρ1 Q e1.uj ae λa2 w2 ρ2 e2 af d2=>hQ a2 w2 ρ2 (e1.trans e2) af (d2.trans d1)
  .rename_i hn;refine U9 jB.1 s s' out he a w ρ _ hs hf λa1 w1 ρ1 e1 ae d1=>?_
   cases out with
   |normal=>exact absurd he (by intro h;exact hn s' h)
   |exit id=>exact hQ a1 w1 ρ1 e1 ae d1
   |ret=>exact hQ a1 w1 ρ1 e1 ae d1
   |wU u=>exact hQ a1 w1 ρ1 e1 ae d1
 |cond c x y U9 ihy=>
  intro jB s s' out he a w ρ Q hs hf hQ;simp only[codeOk,Zh]at jB;simp only[exec]at he;have hc:=dM hs hf c;split at he
  .rename_i hv;rw[hv]at hc;exact wp_cond_true hc.dQ.1 (U9 jB.1 s s' out he a w ρ Q hs hf hQ)
  .rename_i hv;rw[hv]at hc;exact wp_cond_false hc.dQ.1 (ihy jB.2 s s' out he a w ρ Q hs hf hQ)
  .cases he
 |block id c ih=>
  intro jB s s' out he a w ρ Q hs hf hQ;simp only[codeOk]at jB;simp only[exec]at he;refine wp_block ?_;split at he
  .rename_i i s1 h1;simp only[Zc,Zg]at he;obtain⟨ho,rfl⟩:=he;refine ih jB s s1 (.exit i) h1 a w ρ _ hs hf λa1 w1 ρ1 e1 ae d1=>?_
   have hq:=hQ a1 w1 ρ1 e1 ae d1;rw[<-ho]at hq;show(if i=id then Q .normal a1 w1 else Q (.exit i) a1 w1);by_cases hi:i=id
   .rw[cw hi];rw[cw hi]at hq;exact hq
   .rw[cv hi];rw[cv hi]at hq;exact hq
  .rename_i hn;refine ih jB s s' out he a w ρ _ hs hf λa1 w1 ρ1 e1 ae d1=>?_
   cases out with
   |normal=>exact hQ a1 w1 ρ1 e1 ae d1
   |exit i=>exact absurd he (hn i s')
   |ret=>exact hQ a1 w1 ρ1 e1 ae d1
   |wU u=>exact hQ a1 w1 ρ1 e1 ae d1
 |loop c ih=>
  intro jB s s' out he a w ρ Q hs hf hQ;simp only[codeOk]at jB;simp only[exec]at he;refine wp_loop_rounds C.fuel ?_;have key:∀(n:Nat)(s:St)(a1:Act)(w1:World)(ρ1:Nat->Nat),vt (exec C call c) n s=some (out,s')->ia C.G w1 X ρ1 s.2->RF w1 (dZ X ρ1 s.2) ρ1 s.2.length a1.tmps s.1->
   (∀a' w' ρ',Ext C.G w1 X ρ1 s.2 w' ρ' s'.2->RF w' (dZ X ρ' s'.2) ρ' s'.2.length a'.tmps s'.1->a'.defers=a1.defers->Q (uT out) a' w')->Code.rounds C.P c Q n a1 w1:=by
   intro n
   induction n with
   |zero=>intro s a1 w1 ρ1 hl;simp[vt]at hl
   |succ n ihn=>
    intro s a1 w1 ρ1 hl q8 tV Xz;simp only[vt]at hl;rw[rounds_succ];split at hl
    .rename_i s1 h1;refine ih jB s s1 .normal h1 a1 w1 ρ1 _ q8 tV λa2 w2 ρ2 e2 af d2=>?_
     show Code.rounds C.P c Q n a2 w2;exact ihn s1 a2 w2 ρ2 hl e2.uj af λa3 w3 ρ3 e3 ah d3=>Xz a3 w3 ρ3 (e2.trans e3) ah (d3.trans d2)
    .rename_i hn;refine ih jB s s' out hl a1 w1 ρ1 _ q8 tV λa2 w2 ρ2 e2 af d2=>?_
     cases out with
     |normal=>exact absurd hl (by intro h;exact hn s' h)
     |exit id=>exact Xz a2 w2 ρ2 e2 af d2
     |ret=>exact Xz a2 w2 ρ2 e2 af d2
     |wU u=>exact Xz a2 w2 ρ2 e2 af d2
  exact key C.fuel s a w ρ he hs hf hQ
 |
  _=>
  intro _ s s' out he;simp[exec]at he
end exec
def KH{C:Cx}{w:World}{X:Nat->Prop}{ρ:Nat->Nat}{s:St}(hs:ia C.G w X ρ s.2){tmps:Array Value}(hf:RF w (dZ X ρ s.2) ρ s.2.length tmps s.1):
 ∀(rs:List ResultVar)(rvs:List Rv)(xs:List AV),
  (rs.mapM λ(r:ResultVar)=>match r with
   | .tmp t=>some (Rv.tmp t)
   | .cell a t=>match C.P.info? t,C.P.underlying t with|some i,some d=>some (Rv.cell a i.size (rh d))|_,_=>none)=some rvs->
  rvs.mapM (vu s)=some xs->∃vs:List Value,(rs.mapM (m:=Sem) λ(r:ResultVar)=>match r with| .tmp t=>pure (tmps.getD t undef)| .cell a t=>do loadVar t (<-asAddr (tmps.getD a undef))).run C.P w= .ok vs w/\
   vs.length=xs.length/\∀(k:Nat)(x:AV),xs[k]?=some x->Rp w (dZ X ρ s.2) ρ s.2.length (vs.getD k undef) x
 |
  [],rvs,xs,h1,h2=>by
  simp at h1;subst h1;simp at h2;subst h2;exact⟨[],by simp,rfl,by simp⟩
 |
  r::rs,rvs,xs,h1,h2=>by
  simp only[Zo,Option.bind_eq_bind,Ye,Option.pure_def,Zc]at h1;obtain⟨q,hq,qs,hqs,rfl⟩:=h1;simp only[Zo,Option.bind_eq_bind,Ye,Option.pure_def,Zc]at h2;obtain⟨y,hy,ys,vq,rfl⟩:=h2;obtain⟨vs,HV,Dx,ZL⟩:=KH hs hf rs qs ys hqs vq;have slot:∀t,Rp w (dZ X ρ s.2) ρ s.2.length (tmps.getD t undef) (s.1.getD t .ud):=λt=>by
   cases ht:s.1[t]? with
   |some z=>have:=hf.2 t z ht;simpa[List.getD,ht]using this
   |none=>simp[List.getD,ht];exact .im (.ud _)
  have one:∃v,(match r with| .tmp t=>pure (tmps.getD t undef)| .cell a t=>do loadVar t (<-asAddr (tmps.getD a undef)):Sem Value).run C.P w= .ok v w/\Rp w (dZ X ρ s.2) ρ s.2.length v y:=by
   cases r with
   |tmp t=>
    simp only[Zc]at hq;subst hq;simp only[vu,Zc]at hy;subst hy;exact⟨_,rfl,slot t⟩
   |cell a t=>
    simp only at hq;split at hq
    .rename_i i d hi hd;simp only[Zc]at hq;subst hq;simp only[vu]at hy;have Px:=slot a;split at hy
     .rename_i id off hpt;rw[hpt]at Px;obtain⟨e1,e2⟩:=Px.mT;split at hy
      .rename_i cs ej;obtain⟨cV,t0,fz,us,c1,c3⟩:=hs.cells ej;obtain⟨v,hv,hr⟩:=AP (ρ:=ρ) (n:=s.2.length) (X:=dZ X ρ s.2) hd hi (o:=0) c1 (us:=us) (cs:=cs) (λk x hk=>by simpa using c3 k x hk) hy;refine⟨v,?_,hr⟩;simp only[Xk]at hv;simp only[e1,asAddr,Sem.run_bind,Sem.run_pure,Result.andThen_ok,hv]
      .cases hy
     .cases hy
    .cases hq
  obtain⟨v,hv,hr⟩:=one;refine⟨v::vs,?_,by simp[Dx],λk x hk=>?_⟩
  .simp only[Zo,Sem.run_bind,hv,Result.andThen_ok,HV,Sem.run_pure]
  .cases k with
   |zero=>simp at hk;subst hk;simpa using hr
   |succ k=>simp at hk;simpa[List.getD]using ZL k x hk
def xF{P:Program}{f:FuncId}{fi:Fi}(h:I5 P f=some fi):∃fn,P.funcs[f]?=some fn/\fn.body=some fi.body/\fi.ntmps=fn.ntmps/\
 (fn.results.toList.mapM λ(r:ResultVar)=>match r with
  | .tmp t=>some (Rv.tmp t)
  | .cell a t=>match P.info? t,P.underlying t with|some i,some d=>some (Rv.cell a i.size (rh d))|_,_=>none)=some fi.res:=by
 unfold I5 at h;split at h
 .rename_i fn FQ;split at h
  .rename_i c hc;simp only[Ze]at h;obtain⟨res,tO,rfl⟩:=h;exact⟨fn,FQ,hc,rfl,tO⟩
  .cases h
 .cases h
def kS{C:Cx}{w:World}{X:Nat->Prop}{ρ:Nat->Nat}{s:St}(hs:ia C.G w X ρ s.2){tmps:Array Value}(hf:RF w (dZ X ρ s.2) ρ s.2.length tmps s.1){fn:Func}{fi:Fi}(tO:(fn.results.toList.mapM λ(r:ResultVar)=>match r with
  | .tmp t=>some (Rv.tmp t)
  | .cell a t=>match C.P.info? t,C.P.underlying t with|some i,some d=>some (Rv.cell a i.size (rh d))|_,_=>none)=some fi.res){r:AV}(hr:pE fi s=some r):
 ∃v,(results fn tmps).run C.P w= .ok v w/\Rp w (dZ X ρ s.2) ρ s.2.length v r:=by
 have hm:∀vs:List Value,(fn.results.toList.mapM (m:=Sem) λ(r:ResultVar)=>match r with| .tmp t=>pure (tmps.getD t undef)| .cell a t=>do loadVar t (<-asAddr (tmps.getD a undef))).run C.P w= .ok vs w->
  (results fn tmps).run C.P w= .ok (if h:vs.toArray.size=1 then vs.toArray[0]else .tuple vs.toArray) w:=by
  intro vs TU;unfold results;simp only[Sem.run_bind];rw[Array.mapM_eq_mapM_toList,Sem.run_map];exact congrArg (λz:Result (List Value)=>(z.andThen λa w'=>Result.ok a.toArray w').andThen λ(a:Array Value)w'=>Sem.run C.P (pure (if h:a.size=1 then a[0]else Value.tuple a)) w') TU
 unfold pE at hr;split at hr
 .rename_i t ht;have h1:[t].mapM (vu s)=some [r]:=by simp[hr]
  rw[ht]at tO;obtain⟨vs,HV,Dx,ZL⟩:=KH hs hf _ _ _ tO h1;refine⟨_,hm vs HV,?_⟩;cases vs with
  |nil=>simp at Dx
  |cons v vs=>
   have:vs=[]:=by simpa using Dx
   subst this;simpa using ZL 0 r rfl
 .rename_i gE;simp only[Ze]at hr;obtain⟨xs,hxs,rfl⟩:=hr;obtain⟨vs,HV,Dx,ZL⟩:=KH hs hf _ _ _ tO hxs;refine⟨_,hm vs HV,?_⟩;have hl:vs.length≠1:=by
   intro h1;have h2:=(iT hxs).1;rw[<-Dx,h1]at h2
   match hq:fi.res with
   | []=>rw[hq]at h2;simp at h2
   | [t]=>exact gE t hq
   |_::_::_=>rw[hq]at h2;simp at h2
  rw[dif_neg (by simpa using hl)];refine .tp _ _ (by simpa using Dx) λk x hk=>?_
  have:=ZL k x hk;simpa[List.getD,Zr]using this
def Bm{w:World}{X:Nat->Prop}{ρ:Nat->Nat}{n m m':Nat}{vs:Array Value}{xs:List AV}(hl:vs.size=xs.length)(hm:m=m')(hv:∀(k:Nat)(x:AV),xs[k]?=some x->Rp w X ρ n (vs.getD k undef) x):
 RF w X ρ n (vs++Array.replicate (m-vs.size) undef) (xs++List.replicate (m'-xs.length) .un):=by
 subst hm;refine⟨by simp[hl],λi x hx=>?_⟩;by_cases hi:i<xs.length
 .rw[Zd hi]at hx;have rN:i<vs.size:=by omega
  have:=hv i x hx;rw[Zr,Array.getElem?_append_left rN,<-Zr];exact this
 .rw[Zf (by omega)]at hx;have IU:x= .un:=by
   rw[List.getElem?_replicate]at hx;split at hx
   .simpa using hx.symm
   .cases hx
  subst IU;have:(vs++Array.replicate (m-vs.size) undef).getD i undef=undef:=by
   rw[Zr,Array.getElem?_append_right (by omega),Array.getElem?_replicate];split<;>rfl
  rw[this];exact .im .un
def yw{C:Cx}{call:Bool->FuncId->List AV->Hp->Option (AV × Hp)}(hC:Cq C)(cW:∀b,jm C (call b))(gh:∀g xs h r h',C.inl g=false->call false g xs h=some (r,h')->h'=h){f:FuncId}{xs:List AV}{h h':Hp}{r:AV}(hb:oH C call f xs h=some (r,h'))(w:World)(X:Nat->Prop)(ρ:Nat->Nat)(vs:Array Value)(hs:ia C.G w X ρ h)(hl:vs.size=xs.length)(hv:∀(k:Nat)(x:AV),xs[k]?=some x->Rp w (dZ X ρ h) ρ h.length (vs.getD k undef) x):
 (∃fn,C.P.funcs[f]?=some fn/\fn.name≠ "runtime.NumGoroutine" /\fn.body.isSome=true)/\
 Calls C.P f vs w (wG C w X ρ h h' r):=by
 unfold oH at hb;split at hb
 case h_2=>cases hb
 rename_i fi Mm;obtain⟨h1,h2,h3⟩:=hC.Ht f fi Mm;obtain⟨fn,ae,af,ah,ai⟩:=xF h1;refine⟨⟨fn,ae,h3 fn ae,by simp[af]⟩,?_⟩;split at hb
 case isFalse=>cases hb
 rename_i cP;refine calls_of_wp ae af ?_;have hrf:=Bm (m:=fn.ntmps) (m':=fi.ntmps) hl ah.symm hv;have fin:∀(out:Out)(s':St),exec C call fi.body (xs++List.replicate (fi.ntmps-xs.length) .un,h)=some (out,s')->(out= .normal\/out= .ret)->(pE fi s').map (λr=>(r,s'.2))=some (r,h')->
  fi.body.wp C.P (bodyPost C.P fn (wG C w X ρ h h' r)) {tmps:=vs++Array.replicate (fn.ntmps-vs.size) undef,defers:=[]} w:=by
  intro out s' hex ho tO;simp only[Ze,Zg]at tO;obtain⟨r',cC,rfl,rfl⟩:=tO;refine lq hC cW gh fi.body h2 _ s' out hex _ w ρ _ hs hrf λa' w' ρ' he Dp hd=>?_
  obtain⟨v,HV,Dx⟩:=kS he.uj Dp ai cC;rcases ho with rfl|rfl
  .exact⟨hd,v,HV,ρ',he,.inl ⟨v,rfl,Dx⟩⟩
  .exact⟨hd,v,HV,ρ',he,.inl ⟨v,rfl,Dx⟩⟩
 split at hb
 .rename_i s' hex;exact fin .normal s' hex (.inl rfl) hb
 .rename_i s' hex;exact fin .ret s' hex (.inr rfl) hb
 .rename_i u s' hex;simp only[Zc,Zg]at hb;obtain⟨rfl,rfl⟩:=hb;refine lq hC cW gh fi.body h2 _ s' _ hex _ w ρ _ hs hrf λa' w' ρ' he Dp hd=>?_
  exact⟨hd,ρ',he,.inr ⟨u,rfl,rfl⟩⟩
 .cases hb
def OW{h:Hp}{n:Nat}{x y:AV}(hc:calm x=true)(hs:da h (n+1) x=some y):y=x:=by
 have aaq:∀(xs ys:List AV),(xs.all λ| .sc _| .ls .. | .rp .. =>true|_=>false)=true->xs.mapM (da h n)=some ys->ys=xs:=by
  intro xs
  induction xs with
  |nil=>intro ys _ hm;simp at hm;exact hm
  |cons x xs ih=>
   intro ys fZ hm;simp only[Zn,Zh]at fZ;simp only[Zo,Option.bind_eq_bind,Ye,Option.pure_def,Zc]at hm;obtain⟨b,hb,bs,S5,rfl⟩:=hm;rw[ih bs fZ.2 S5];have:b=x:=by
    cases x<;>simp at fZ<;>(cases n<;>simp only[da,Zc]at hb<;>exact hb.symm)
   rw[this]
 unfold calm at hc;split at hc
 .simp only[da,Zc]at hs;exact hs.symm
 .simp only[da,Zc]at hs;exact hs.symm
 .simp only[da,Zc]at hs;exact hs.symm
 .simp only[da,Ze]at hs;obtain⟨ys,vq,rfl⟩:=hs;rw[aaq _ _ hc vq]
 .simp only[da,Ze]at hs;obtain⟨ys,vq,rfl⟩:=hs;rw[aaq _ _ hc vq]
 .cases hc
def TX(C:Cx)(g:FuncId)(T:TypeId):Prop:=
 (∃fn,C.P.funcs[g]?=some fn/\fn.name≠ "runtime.NumGoroutine" /\fn.body.isSome=true)/\
 (∀(w:World)(p:Nat),CallsD C.P g #[.pointer (some ⟨p,0,none⟩)] .returning w (λe u' w'=>(∃v,e= .returned v)/\u'= .returning/\w'=w))/\
 ∀(w:World)(p:Nat)(cV:Array Value)(t:TypeId)(fz:Nat × Nat),w.heap[p]?=some (.cells cV t fz)->Fz fz cV->0<cV.size->
  ∀k n,CallsD C.P g #[.pointer (some ⟨p,0,none⟩)] (.panicking [{v:= .iface T (.int k n),recovered:=false}]) w
   (λe u' w'=>(∃v,e= .returned v)/\u'= .panicking [{v:= .iface T (.int k n),recovered:=true}]/\w'=w.setRow p (cV.setIfInBounds 0 (.int k n)))
def deferred(a:Act)(d:Tmp)(x:Operand)(g:FuncId):Act:=
 {a with tmps:=a.tmps.setIfInBounds d (.func (.func g) #[] #[a.eval x]),defers:={target:= .fn (.func g) #[a.eval x],args:= #[]}::a.defers}
def KI{C:Cx}{c:Code}{d:Tmp}{x:Operand}{T:TypeId}{rest:Code}(h:D9 C c=some (d,x,T,rest)):
 ∃g,C.MC g=some T/\(codeOk C c=true->codeOk C rest=true)/\∀(a:Act)(w:World)(Q:Exit->Act->World->Prop),d<a.tmps.size->rest.wp C.P Q (deferred a d x g) w->c.wp C.P Q a w:=by
 unfold D9 at h;split at h
 case h_2=>cases h
 rename_i rid ops aar;split at h
 case h_2=>cases h
 rename_i d1 g first nM ty1 aje acB d2 args wO ty2 ajf acC jD
 split at h
 case h_2=>cases h
 rename_i T' x' hT hx;split at h
 case isFalse=>cases h
 rename_i hc;simp only[Zc,Zg]at h;obtain⟨rfl,rfl,rfl,rfl⟩:=h;simp only[Zh,Zy]at hc;obtain⟨⟨rfl,hf⟩,ha⟩:=hc;refine⟨g,hT,λhk=>by simp only[codeOk,Bool.true_and]at hk;exact hk,λa w Q hd hw=>?_⟩;refine wp_seq (wp_region ?_);have rK:nM= #[x']:=by apply Array.ext';simpa using hx
 have hfe:first= #[]:=by simpa using hf
 have hae:args= #[]:=by simpa using ha
 subst rK hfe hae;obtain⟨opl⟩:=ops;simp only at jD;subst jD;have e1:(execOp a.eval {dst:=some d1,op:=Op.makeFunc (Fn.func g) #[] #[x'],type:=ty1,pos:=aje,after:=acB,guard:=none}).run C.P w= .ok (.value (.func (.func g) #[] #[a.eval x'])) w:=by
  simp[execOp,Instr.makeFunc]
 have e2:∀a1:Act,a1.eval (.tmp d1)= .func (.func g) #[] #[a.eval x']->(execOp a1.eval {dst:=none,op:=Op.defer {callee:=Callee.value (Operand.tmp d1),args:= #[],argTypes:=wO},type:=ty2,pos:=ajf,after:=acC,guard:=none}).run C.P w=
  .ok (.defer {target:= .fn (.func g) #[a.eval x'],args:= #[]}) w:=λa1 h1=>by
  simp[execOp,resolve,h1,Deferred.ofValue]
 show wpOps C.P _ _ [0,1] a w;simp only[wpOps,List.getElem?_toArray,List.getElem?_cons_zero,List.getElem?_cons_succ,Region.wanted,if_true];refine .inl ?_;unfold Oper.wp;rw[e1,Oper.upon_value];refine .inl ?_;rw[e2 _ (by simp[Act.put,Act.eval,hd]),Oper.upon_defer];exact hw
def Ul(C:Cx)(K:Act->World->Prop)(Q:Exit->Act->World->Prop):List Code->Act->World->Prop
 | [],a,w=>K a w
 |p::ps,a,w=>p.wp C.P (Exit.then (Ul C K Q ps) Q) a w
def DU{C:Cx}:∀{c:Code}{pre:List Code}{d:Tmp}{x:Operand}{T:TypeId}{rest:Code},qm C c=some (pre,d,x,T,rest)->
 ∃g,C.MC g=some T/\(codeOk C c=true->(∀p∈pre,codeOk C p=true)/\codeOk C rest=true)/\∀(a:Act)(w:World)(Q:Exit->Act->World->Prop),
  Ul C (λa' w'=>d<a'.tmps.size/\rest.wp C.P Q (deferred a' d x g) w') Q pre a w->c.wp C.P Q a w
 |
  .seq p q,pre,d,x,T,rest,h=>by
  simp only[qm]at h;split at h
  .rename_i d' x' T' aar h1;simp only[Zc,Zg]at h;obtain⟨rfl,rfl,rfl,rfl,rfl⟩:=h;obtain⟨g,g1,g2,g3⟩:=KI h1;refine⟨g,g1,λhk=>?_,λa w Q hw=>?_⟩
   .simp only[codeOk,Zh]at hk;exact⟨λp' hp=>by simp at hp;subst hp;exact hk.1,g2 hk.2⟩
   .refine wp_seq (wp_mono hw ?_);intro e a' w' he;cases e with
    |normal=>exact g3 a' w' Q he.1 he.2
    |_=>exact he
  .split at h
   .rename_i pre' d' x' T' aar h1;simp only[Zc,Zg]at h;obtain⟨rfl,rfl,rfl,rfl,rfl⟩:=h;obtain⟨g,g1,g2,g3⟩:=DU h1;refine⟨g,g1,λhk=>?_,λa w Q hw=>?_⟩
    .simp only[codeOk,Zh]at hk|-;refine⟨λp' hp=>?_,(g2 hk.2).2⟩;rcases Yv.1 hp with rfl|hp
     .exact hk.1
     .exact(g2 hk.2).1 p' hp
    .refine wp_seq (wp_mono hw ?_);intro e a' w' he;cases e with
     |normal=>exact g3 a' w' Q he
     |_=>exact he
   .cases h
 | .skip,_,_,_,_,_,h| .region ..,_,_,_,_,_,h| .cond ..,_,_,_,_,_,h| .block ..,_,_,_,_,_,h| .loop ..,_,_,_,_,_,h| .label ..,_,_,_,_,_,h| .exit ..,_,_,_,_,_,h| .ret,_,_,_,_,_,h=>by simp[qm]at h
 | .goto _,_,_,_,_,_,h=>by simp[qm]at h
section defers
variable {C : Cx} {call : Bool -> FuncId -> List AV -> Hp -> Option (AV × Hp)}
def sP(hC:Cq C)(cW:∀b,jm C (call b))(gh:∀g xs h r h',C.inl g=false->call false g xs h=some (r,h')->h'=h){X:Nat->Prop}{K:Act->World->Prop}{Q:Exit->Act->World->Prop}:
 ∀(cs:List Code),(∀c∈cs,codeOk C c=true)->∀(s s':St)(out:Out),FV C call cs s=some (out,s')->∀(a:Act)(w:World)(ρ:Nat->Nat),ia C.G w X ρ s.2->RF w (dZ X ρ s.2) ρ s.2.length a.tmps s.1->
  (∀a' w' ρ',Ext C.G w X ρ s.2 w' ρ' s'.2->RF w' (dZ X ρ' s'.2) ρ' s'.2.length a'.tmps s'.1->a'.defers=a.defers->Exit.then K Q (uT out) a' w')->Ul C K Q cs a w
 |
  [],_,s,s',out,he,a,w,ρ,hs,hf,hQ=>by
  simp only[FV,Zc,Zg]at he;obtain⟨rfl,rfl⟩:=he;exact hQ a w ρ (Ext.refl hs) hf rfl
 |
  c::cs,jB,s,s',out,he,a,w,ρ,hs,hf,hQ=>by
  simp only[FV]at he;split at he
  .rename_i s1 h1;refine lq hC cW gh c (jB c (by simp)) s s1 .normal h1 a w ρ _ hs hf λa1 w1 ρ1 e1 ae d1=>?_
   exact sP hC cW gh cs (λc' hc=>jB c' (by simp[hc])) s1 s' out he a1 w1 ρ1 e1.uj ae λa2 w2 ρ2 e2 af d2=>hQ a2 w2 ρ2 (e1.trans e2) af (d2.trans d1)
  .rename_i hn;refine lq hC cW gh c (jB c (by simp)) s s' out he a w ρ _ hs hf λa1 w1 ρ1 e1 ae d1=>?_
   have:=hQ a1 w1 ρ1 e1 ae d1;cases out with
   |normal=>exact absurd he (by intro h;exact hn s' h)
   |exit id=>exact this
   |ret=>exact this
   |wU u=>exact this
def Iv(hC:Cq C)(hR:∀g T,C.MC g=some T->TX C g T)(cW:∀b,jm C (call b))(gh:∀g xs h r h',C.inl g=false->call false g xs h=some (r,h')->h'=h){f:FuncId}{xs:List AV}{h h':Hp}{r:AV}(hb:Qb C call f xs h=some (r,h'))(w:World)(X:Nat->Prop)(ρ:Nat->Nat)(vs:Array Value)(hs:ia C.G w X ρ h)(hl:vs.size=xs.length)(hv:∀(k:Nat)(x:AV),xs[k]?=some x->Rp w (dZ X ρ h) ρ h.length (vs.getD k undef) x):
 (∃fn,C.P.funcs[f]?=some fn/\fn.name≠ "runtime.NumGoroutine" /\fn.body.isSome=true)/\
 Calls C.P f vs w (wG C w X ρ h h' r):=by
 unfold Qb at hb;split at hb
 case h_2=>cases hb
 rename_i fi Mm;obtain⟨h1,h2,h3⟩:=hC.Ht f fi Mm;obtain⟨fn,ae,af,ah,ai⟩:=xF h1;refine⟨⟨fn,ae,h3 fn ae,by simp[af]⟩,?_⟩;split at hb
 case isFalse=>cases hb
 split at hb
 case h_2=>cases hb
 rename_i pre d x T rest mZ;obtain⟨g,g1,g2,g3⟩:=DU mZ;obtain⟨ok1,vg⟩:=g2 h2;refine calls_of_wp_defers ae af (g3 _ _ _ ?_);have hrf:=Bm (m:=fn.ntmps) (m':=fi.ntmps) hl ah.symm hv;split at hb
 .
  rename_i s hex;simp only[Ze,Zg]at hb;obtain⟨r',cC,rfl,rfl⟩:=hb;refine sP hC cW gh pre ok1 _ s _ hex _ w ρ hs hrf λa' w' ρ' he Dp hd=>?_
  obtain⟨v,HV,Dx⟩:=kS he.uj Dp ai cC;show Leaves C.P fn a'.tmps _ a'.defers .returning w';rw[hd];exact⟨v,HV,ρ',he,.inl ⟨v,rfl,Dx⟩⟩
 .rename_i s hex;split at hb
  case h_2=>cases hb
  rename_i id hx;split at hb
  case isFalse=>cases hb
  rename_i hdl;refine sP hC cW gh pre ok1 _ s _ hex _ w ρ hs hrf λa1 w1 ρ1 he1 tV hd1=>?_
  have hxv:=dM he1.uj tV x;rw[hx]at hxv;obtain⟨hxe,wY⟩:=hxv.mT;refine⟨by rw[tV.1];exact hdl,?_⟩;have hf2:RF w1 (dZ X ρ1 s.2) ρ1 s.2.length (deferred a1 d x g).tmps (s.1.set d .ud):=tV.put d (.im (.ud _));have U_:(deferred a1 d x g).defers=[{target:= .fn (.func g) #[.pointer (some ⟨ρ1 id,0,none⟩)],args:= #[]}]:=by
   simp only[deferred,hd1,hxe]
  obtain⟨⟨gn,n1,n2,n3⟩,hrc⟩:=hR g T g1;have hinv:∀w':World,(invoke (.fn (.func g) #[.pointer (some ⟨ρ1 id,0,none⟩)]) #[]).run C.P w'= .ok (.enter g #[.pointer (some ⟨ρ1 id,0,none⟩)]) w':=λw'=>by
   have M9:gn.body.isNone=false:=by cases hq:gn.body<;>simp_all
   simp only[invoke,callFunc,Sem.run_bind,run_program,Result.andThen_ok,n1,Array.empty_append];simp[n2,M9]
  have quiet:∀(out:Out)(s':St),exec C call rest (s.1.set d .ud,s.2)=some (out,s')->(out= .normal\/out= .ret)->(pE fi s').map (λr=>(r,s'.2))=some (r,h')->
   rest.wp C.P (bodyPostD C.P fn (wG C w X ρ h h' r)) (deferred a1 d x g) w1:=by
   intro out s' KJ ho tO;simp only[Ze,Zg]at tO;obtain⟨r',cC,rfl,rfl⟩:=tO;refine lq hC cW gh rest vg _ s' out KJ _ w1 ρ1 _ he1.uj hf2 λa2 w2 ρ2 Vc hf3 hd2=>?_
   have hq:Leaves C.P fn a2.tmps (wG C w X ρ h s'.2 r') a2.defers .returning w2:=by
    rw[hd2,U_];refine leaves_cons (by simp) (hinv w2) ((hrc.1 w2 _).mono ?_);rintro e u' w' ⟨⟨v0,rfl⟩,rfl,rfl⟩;obtain⟨v,HV,Dx⟩:=kS Vc.uj hf3 ai cC;exact⟨v,HV,ρ2,he1.trans Vc,.inl ⟨v,rfl,Dx⟩⟩
   rcases ho with rfl|rfl
   .exact hq
   .exact hq
  split at hb
  .rename_i s' KJ;exact quiet .normal s' KJ (.inl rfl) hb
  .rename_i s' KJ;exact quiet .ret s' KJ (.inr rfl) hb
  .rename_i T' k n s' KJ;split at hb
   case h_2=>cases hb
   rename_i c0 cY;split at hb
   case isFalse=>cases hb
   rename_i hTT;subst hTT;simp only[Ze,Zg]at hb;obtain⟨r',cC,rfl,rfl⟩:=hb;refine lq hC cW gh rest vg _ s' _ KJ _ w1 ρ1 _ he1.uj hf2 λa2 w2 ρ2 Vc hf3 hd2=>?_
   show Leaves C.P fn a2.tmps _ a2.defers (.panicking [{v:= .iface T (.int k n),recovered:=false}]) w2;rw[hd2,U_];obtain⟨cV,t,fz,us,c1,BL,c2,c3⟩:=Vc.uj.row id _ cY;have Z_:ρ2 id=ρ1 id:=Vc.rho id wY;have vP:0<cV.size:=by simp at c2;omega
   rw[Z_]at c1;refine leaves_cons (by simp) (hinv w2) ((hrc.2 w2 _ cV t fz c1 BL vP k n).mono ?_);rintro e u' w' ⟨⟨v0,rfl⟩,rfl,rfl⟩;have Bx:Ext C.G w2 X ρ2 s'.2 (w2.setRow (ρ1 id) (cV.setIfInBounds 0 (.int k n))) ρ2 (s'.2.set id (.row [.sc (.int k n)])):=by
    rw[<-Z_]at c1|-;refine CD (w':=w2.setRow (ρ2 id) (cV.setIfInBounds 0 (.int k n))) Vc.uj id _ cY cV (cV.setIfInBounds 0 (.int k n)) t fz BL c1 rfl rfl rfl (by simp[World.setRow]) (setRow_heap w2 (ρ2 id) cV _ t fz c1) (by simp) (λb hb=>setRow_other w2 (ρ2 id) b _ hb) _ (λ_=> .int k n) (by simp;omega) (λj y hj=>?_);cases j with
    |
     zero=>
     simp at hj;subst hj;exact⟨by simp[vP],rfl,.im (.sc _ rfl)⟩
    |succ j=>simp at hj
   have PT:RF (w2.setRow (ρ1 id) (cV.setIfInBounds 0 (.int k n))) (dZ X ρ2 (s'.2.set id (.row [.sc (.int k n)]))) ρ2 (s'.2.set id (.row [.sc (.int k n)])).length a2.tmps s'.1:=Bx.rf hf3;obtain⟨v,HV,Dx⟩:=kS (s:=(s'.1,s'.2.set id (.row [.sc (.int k n)]))) Bx.uj PT ai cC;exact⟨v,HV,ρ2,(he1.trans Vc).trans Bx,.inl ⟨v,rfl,Dx⟩⟩
  .cases hb
 .cases hb
end defers
def GOK(G:Nat->Option (List Value))(w:World)(X:Nat->Prop):Prop:=
 ∀(g:Nat)(row:List Value),G g=some row->¬X g/\∃(cV:Array Value)(t:TypeId)(fz:Nat × Nat),w.heap[g]?=some (.cells cV t fz)/\cV.size=row.length/\∀(k:Nat)(v:Value),row[k]?=some v->∃u,cV[k]?=some u/\u.oneCell'=true/\gok v u
def iG(C:Cx)(f:FuncId)(xs:List AV)(r:AV):Prop:=
 ∀(w:World)(X:Nat->Prop)(vs:Array Value),(∀b,X b->b<w.heap.size)->GOK C.G w X->vs.size=xs.length->(∀(k:Nat)(x:AV),xs[k]?=some x->Ri w X (vs.getD k undef) x)->
  (∃fn,C.P.funcs[f]?=some fn/\fn.name≠ "runtime.NumGoroutine" /\fn.body.isSome=true)/\
  Calls C.P f vs w (λe w'=>∃v,e= .returned v/\Step w eK w' eK/\Ri w' X v r)
def Kt(C:Cx)(f g:FuncId):Prop:=
 (∃fn,C.P.funcs[f]?=some fn/\fn.name≠ "runtime.NumGoroutine" /\fn.body.isSome=true)/\
 ∀(w:World)(bx id:Nat)(ms:Array MapEntry)(clock:Nat)(ks:List ByteArray),w.cell? ⟨bx,0,none⟩=some (.map (some id))->w.heap[id]?=some (.map ms clock)->
  (∀x∈ms.toList,x.born<clock)->(ms.toList.map (·.born)).Nodup->ms.toList.map (·.key)=ks.map .string->ks.Nodup->(∀k∈ks,k.size<=maxLen)->ks.length<=1000000->
  Calls C.P f #[.func (.func g) #[] #[.pointer (some ⟨bx,0,none⟩)]] w (λe w'=>∃v,e= .returned v/\Step w eK w' eK/\
   ((
    ks=[]/\v= .slice none 0 0)\/ks≠ []/\∃(B cap:Nat)(cV:Array Value)(t:TypeId),v= .slice (some ⟨B,0,none⟩) ks.length cap/\w.heap.size<=B/\w'.heap[B]?=some (.cells cV t (0,0))/\ks.length<=cap/\cap<=maxLen/\cV.size=cap/\
    ∀(k:Nat)(s:ByteArray),(oI ks)[k]?=some s->cV[k]?=some (.string s)))
def wE(km:Nat)(w W:World):Prop:=W.os=w.os/\W.tape=w.tape/\W.output=w.output/\w.heap.size<=W.heap.size/\∀b,b<w.heap.size->b≠km->W.heap[b]?=w.heap[b]?
def DL(C:Cx)(f:FuncId)(k:Nat):Prop:=
 (∃fn,C.P.funcs[f]?=some fn/\fn.name≠ "runtime.NumGoroutine" /\fn.body.isSome=true)/\
 (∀(w:World)(base:Option Addr)(cap:Nat)(g:FuncId)(us:Array Value),us.size=0->Calls C.P f #[.slice base 0 cap,.func (.func g) #[] us] w (λe w'=>e= .returned (.tuple #[])/\Step w eK w' eK))/\
 ∀(w:World)(m cap km off:Nat)(cV:Array Value)(t:TypeId)(fz:Nat × Nat)(us:Fin (m+1)->List Value)(cf:Nat->Nat->Int)(g:FuncId)(bs:Array Value),bs.size=0->
  m+1<4611686018427387904->w.heap[km]?=some (.cells cV t fz)->Fz fz cV->off+(m+1)*nc k<=cV.size->(∀i,(us i).length=nc k)->(∀i,∀u∈us i,u.oneCell'=true)->(∀(i:Fin (m+1))(j:Nat)(u:Value),(us i)[j]?=some u->cV[off+i.1*nc k+j]?=some u)->Ea m cf->
  (∃fn,C.P.funcs[g]?=some fn/\fn.name≠ "runtime.NumGoroutine" /\fn.body.isSome=true)->
  (∀(W:World)(i j:Fin (m+1)),wE km w W->Calls C.P g #[vv k (us i),vv k (us j)] W (λe W'=>e= .returned (.int .i64 (cf i.1 j.1))/\Step W eK W' eK))->
  Calls C.P f #[.slice (some ⟨km,off,none⟩) (m+1) cap,.func (.func g) #[] bs] w (λe w'=>e= .returned (.tuple #[])/\∃kl:Array Value,w'.heap[km]?=some (.cells kl t fz)/\kl.size=cV.size/\(∀q,q<off\/off+(m+1)*nc k<=q->kl[q]?=cV[q]?)/\
   (∀(q:Nat)(u:Value),((lZ m cf).flatMap us)[q]?=some u->kl[off+q]?=some u)/\wE km w w'/\w.drawn<=w'.drawn)
structure kg (C:Cx):Prop where
 base:Cq C
 MC:∀g T,C.MC g=some T->TX C g T
 vc:∀f g kt,C.vc f=some (g,kt)->Kt C f g
 BZ:∀f xs r,C.BZ f xs=some r->iG C f xs r
 sfn:∀f sz,C.ins f=some (sz,0)->DL C f sz
 nf:∀f w X v r,Ri w X v r->Ri w X v (C.nf f r)
def nu(ρ:Nat->Nat)(b:Nat):¬own ρ [] b:=λ⟨i,⟨_,hb,_⟩,_⟩=>by simp at hb
def E_{G:Nat->Option (List Value)}{w:World}{X:Nat->Prop}(hX:∀b,X b->b<w.heap.size)(hG:GOK G w X)(ρ:Nat->Nat):ia G w X ρ []:={
 FC:=hX
 rS:=λg row hg=>by
  obtain⟨h1,h2⟩:=hG g row hg;exact⟨λh=>h.elim h1 (nu ρ g),h2⟩
 inj:=λi j hi=>absurd ⟨i,hi,rfl⟩ (nu ρ (ρ i))
 out:=λi hi=>absurd ⟨i,hi,rfl⟩ (nu ρ (ρ i))
 pb:=λi cs h=>by simp at h
 km:=λi b h=>by simp at h}
def YO{h:Hp}{n:Nat}{u:Value}{r:AV}(hs:da h n (.pn u)=some r):False:=by
 cases n<;>simp[da]at hs
def qM{C:Cx}{call:Bool->lu}(hC:Cq C)(cW:∀b,jm C (call b))(gh:∀g xs h r h',C.inl g=false->call false g xs h=some (r,h')->h'=h){f:FuncId}{xs:List AV}{h':Hp}{r0 r:AV}(hb:oH C call f xs []=some (r0,h')){n:Nat}(jx:da h' n r0=some r):iG C f xs r:=by
 intro w X vs hX hG hl hv;have hs:=E_ hX hG id;obtain⟨h1,h2⟩:=yw hC cW gh hb w X id vs hs hl (λk x hk=> .im ((hv k x hk).yz λb hb=>hb.elim (λh=>h) λh=>absurd h (nu id b)));refine⟨h1,h2.mono λe w' ⟨ρ',hx,hh⟩=>?_⟩;rcases hh with⟨v,he,hr⟩|⟨u,_,hu⟩
 .refine⟨v,he,?_,ox hx.uj n v r0 r hr jx⟩;exact⟨hx.step.os,hx.step.tape,hx.step.output,hx.step.size,λb hb _=>hx.step.keep b hb (nu id b),hx.step.row,λ_ _ h=>h,hx.step.drew⟩
 .subst hu;exact absurd jx (λq=>YO q)
def KK{G:Nat->Option (List Value)}{w w':World}{X:Nat->Prop}{ρ:Nat->Nat}{h:Hp}(hs:ia G w X ρ h)(dO:Step w eK w' eK){B:Nat}(hB:w.heap.size<=B){cs:List AV}{cV:Array Value}{t:TypeId}(nN:w'.heap[B]?=some (.cells cV t (0,0)))(cp:cs.length<=cV.size)(hcs:∀(k:Nat)(x:AV),cs[k]?=some x->∃u,cV[k]?=some u/\u.oneCell'=true/\Rp w (dZ X ρ h) ρ h.length u x):Ext G w X ρ h w' (λi=>if i=h.length then B else ρ i) (h++[.row cs]):=by
 have hq:=jY hs dO;have hBl:B<w'.heap.size:=fI nN;have tQ:∀(i:Nat)(b':eV),(h++[eV.row cs])[i]?=some b'->(i<h.length/\h[i]?=some b')\/(i=h.length/\b'= .row cs):=by
  intro i b' hi;by_cases du:i<h.length
  .rw[Zd du]at hi;exact .inl ⟨du,hi⟩
  .have he:i=h.length:=by have:i< (h++[eV.row cs]).length:=(Za.1 hi).1;simp at this;omega
   subst he;simp at hi;exact .inr ⟨rfl,hi.symm⟩
 have iI:∀i,live (h++[eV.row cs]) i->(live h i/\i<h.length)\/i=h.length:=by
  rintro i ⟨b',oE,hd⟩;rcases tQ i b' oE with⟨h1,h2⟩|⟨h1,_⟩
  .exact .inl ⟨⟨b',h2,hd⟩,h1⟩
  .exact .inr h1
 have yA:∀b,own (λi=>if i=h.length then B else ρ i) (h++[eV.row cs]) b->own ρ h b\/b=B:=by
  rintro b ⟨i,hi,e⟩;rcases iI i hi with⟨h1,h2⟩|rfl
  .exact .inl ⟨i,h1,by simpa[Xe h2]using e⟩
  .exact .inr (by simpa using e.symm)
 have ft:Step w (own ρ h) w' (own (λi=>if i=h.length then B else ρ i) (h++[eV.row cs])):=
  ⟨dO.os,dO.tape,dO.output,dO.size,λb hb _=>dO.keep b hb (λh=>h),dO.row,λb hb hh=>(yA b hh).resolve_right (by omega),dO.drew⟩
 have zH:∀i,i<h.length->(λi=>if i=h.length then B else ρ i) i=ρ i:=λi hi=>by simp[Xe hi]
 have hXB:¬X B:=λhx=>by have:=hs.FC B hx;omega
 have hoB:∀i,live h i->ρ i≠B:=λi hi e=>by have:=hs.lt hi;omega
 refine⟨⟨hq.uj.FC,λg row hg=>?_,?_,?_,?_,?_⟩,zH,by simp,ft⟩
 .obtain⟨h1,c,t',I1,h2,h3⟩:=hs.rS g row hg;refine⟨λhh=>h1 (ft.kept.less g (fI h2) hh),c,t',I1,(dO.keep g (fI h2) (λh=>h)).trans h2,h3⟩
 .intro i j hi hj tC;rcases iI i hi with⟨FR,KT⟩|rfl<;>rcases iI j hj with⟨UN,CC⟩|rfl
  .simp[Xe KT,Xe CC]at tC;exact hs.inj i j FR UN tC
  .simp[Xe KT]at tC;exact absurd tC (hoB i FR)
  .simp[Xe CC]at tC;exact absurd tC.symm (hoB j UN)
  .rfl
 .intro i hi hx;rcases iI i hi with⟨FR,KT⟩|rfl
  .simp[Xe KT]at hx;exact hs.out i FR hx
  .simp at hx;exact hXB hx
 .intro i cs' hi hh;rcases tQ i _ hi with⟨du,rN⟩|⟨_,e⟩
  .have h2:=(hs.km i _ rN).lt (by simp);simp only[Xe du,if_false]at hh;exact hs.pb i cs' rN (ft.kept.less _ h2 hh)
  .cases e
 .intro i b' hi;rcases tQ i b' hi with⟨du,rN⟩|⟨rfl,rfl⟩
  .simp only[Xe du,if_false];have hb:=hs.km i b' rN;by_cases hd:b'= .dead
   .subst hd;trivial
   .rw[dO.keep _ (hb.lt hd) (λh=>h)];exact hb.step ft zH (by simp)
  .simp only[if_true];refine⟨cV,t,(0,0),λk=>cV.getD k undef,nN,.inl rfl,cp,λk x hk=>?_⟩;obtain⟨u,hu,hfu,hru⟩:=hcs k x hk;have:cV.getD k undef=u:=by rw[Zr,hu];rfl
   simp only[this];exact⟨hu,hfu,hru.step ft zH (by simp)⟩
def OY{G:Nat->Option (List Value)}{w w':World}{X:Nat->Prop}{ρ:Nat->Nat}{h:Hp}(hs:ia G w X ρ h)(dO:Step w eK w' eK){B:Nat}(hB:w.heap.size<=B){cs:List AV}{cV:Array Value}{t:TypeId}(nN:w'.heap[B]?=some (.cells cV t (0,0)))(cp:cs.length<=cV.size)(hcs:∀(k:Nat)(x:AV),cs[k]?=some x->∃u,x= .sc u/\lr u=true/\cV[k]?=some u):Ext G w X ρ h w' (λi=>if i=h.length then B else ρ i) (h++[.row cs]):=
 KK hs dO hB nN cp λk x hk=>by
  obtain⟨u,rfl,hfu,hu⟩:=hcs k x hk;exact⟨u,hu,lN hfu,.im (.sc u hfu)⟩
def Ri.dQ{w:World}{X:Nat->Prop}{v u:Value}(h:Ri w X v (.sc u)):v=u/\lr u=true:=by
 cases h with
 |sc _ hf=>exact⟨rfl,hf⟩
def OZ{w:World}{X X':Nat->Prop}{v:Value}{r:AV}(h:Ri w X v r)(hs:sT r=true):Ri w X' v r:=by
 unfold sT at hs;split at hs
 .cases h with
  |sc _ hf=>exact .sc _ hf
 .rename_i xs;rw[Yp]at hs;cases h with
  |tp us _ h1 h2=>
   refine .tp us xs h1 λk x hk=>?_
   have h3:=h2 k x hk;have h4:=hs x (Zi hk);cases x with
   |sc u=>
    obtain⟨e,hf⟩:=h3.dQ;rw[e];exact .sc _ hf
   |_=>simp[Vl]at h4
 .cases hs
def yx(x:ByteArray):∀l:List ByteArray,(D_ x l).length=l.length+1
 | []=>rfl
 |
  y::l=>by
  unfold D_;split
  .rfl
  .simp[yx x l]
def lJ :∀l:List ByteArray,(oI l).length=l.length
 | []=>rfl
 |
  x::l=>by
  show(D_ x (oI l)).length=_;rw[yx,lJ l];rfl
def yy :∀{l:List ByteArray},kZ l=true->l.Nodup
 | [],_=>List.nodup_nil
 |
  x::l,h=>by
  simp only[kZ,Zh,Xd,List.any_eq_false]at h;refine List.nodup_cons.2 ⟨λhm=>?_,yy h.2⟩;exact h.1 x hm ((MapKept.bytes_beq x x).2 rfl)
def Fm{C:Cx}{f g:FuncId}(hS:Kt C f g){xs:List AV}{h h':Hp}{r:AV}(hb:qo h g xs=some (r,h'))(w:World)(X:Nat->Prop)(ρ:Nat->Nat)(vs:Array Value)(hs:ia C.G w X ρ h)(hl:vs.size=xs.length)(hv:∀(k:Nat)(x:AV),xs[k]?=some x->Rp w (dZ X ρ h) ρ h.length (vs.getD k undef) x):
 (∃fn,C.P.funcs[f]?=some fn/\fn.name≠ "runtime.NumGoroutine" /\fn.body.isSome=true)/\Calls C.P f vs w (wG C w X ρ h h' r):=by
 unfold qo at hb;split at hb
 case h_2=>cases hb
 rename_i g' b;split at hb
 case isFalse=>cases hb
 rename_i hgg;subst hgg;split at hb
 case h_2=>cases hb
 rename_i id ry;split at hb
 case h_2=>cases hb
 rename_i es clock ej;have h0:=hv 0 _ rfl;obtain⟨us,hv0,Wa,hur⟩:=h0.pj;have hp:=(hur 0 _ rfl).mT;have hus:us= #[.pointer (some ⟨ρ b,0,none⟩)]:=by
  apply Array.ext
  .simpa using Wa
  .intro i h1 h2;have UQ:i=0:=by simpa using h2
   subst UQ;have:=hp.1;simp only[h1,Zr,Xf,Xg]at this;simpa using this
 have TU:vs= #[.func (.func g) #[] #[.pointer (some ⟨ρ b,0,none⟩)]]:=by
  apply Array.ext
  .simpa using hl
  .intro i h1 h2;have UQ:i=0:=by simpa using h2
   subst UQ;simp only[h1,Zr,Xf,Xg]at hv0;rw[hv0,hus];rfl
 subst TU;obtain⟨cV,t,fz,u0,c1,_,c2,c3⟩:=hs.row b _ ry;obtain⟨d1,d2,d3⟩:=c3 0 _ rfl;have hm:=d3.EJ.1;rw[hm]at d1;obtain⟨ms,b1,b2,YK,b3⟩:=hs.km id _ ej;have Mn:∀x∈ms.toList,x.born<clock:=λx hx=>by
  obtain⟨j,hj,rfl⟩:=List.getElem_of_mem hx;have T_:j<es.length:=by simp at hj;omega
  obtain⟨m,q1,_,_,q4,_⟩:=b3 j _ (Zb T_);have:ms.toList[j]=m:=by
   have h3:ms.toList[j]?=some m:=by simpa using q1
   rw[Zb hj]at h3;simpa using h3
  rw[this];exact q4
 have qc:∀ks,KY es=some ks->ms.toList.map (·.key)=ks.map .string:=by
  intro ks hk;obtain⟨m1,m2⟩:=iT hk;apply List.ext_getElem?;intro j;by_cases hj:j<es.length
  .obtain⟨m,q1,q2,_⟩:=b3 j _ (Zb hj);obtain⟨k',r1,r2⟩:=m2 j _ (Zb hj);have q1':ms.toList[j]?=some m:=by simpa using q1
   rw[Zs,Zs,q1',r1];simp only[Yw,q2];cases hq:es[j].1<;>simp[hq]at r2;rw[r2]
  .rw[Xc (by simp;omega),Xc (by simp;omega)]
 have fO:w.cell? ⟨ρ b,0,none⟩=some (.map (some (ρ id))):=by rw[oS c1];exact d1
 obtain⟨FQ,Um⟩:=hS;refine⟨FQ,?_⟩;split at hb
 .rename_i hk;simp only[Zc,Zg]at hb;obtain⟨rfl,rfl⟩:=hb;refine(Um w (ρ b) (ρ id) ms clock [] fO b1 Mn YK (qc [] hk) List.nodup_nil (by simp) (by simp)).mono ?_;rintro e w' ⟨v,rfl,dO,hh⟩;refine⟨ρ,jY hs dO,.inl ⟨v,rfl,?_⟩⟩;rcases hh with⟨_,rfl⟩|⟨h0,B,cap,kl,t',rfl,hB,nN,h1,h2,h3,h4⟩
  .exact .im (.sc _ rfl)
  .exact absurd rfl h0
 .rename_i ks gE hk;split at hb
  case isTrue=>cases hb
  rename_i qU;simp only[Zc,Zg]at hb;obtain⟨rfl,rfl⟩:=hb;simp only[Yx,Xd,Zy,not_or,Bool.not_eq_false,Zh,Yp]at qU;obtain⟨⟨ZE,ik⟩,cp⟩:=qU;refine(Um w (ρ b) (ρ id) ms clock ks fO b1 Mn YK (qc ks hk) (yy ZE) ik (by omega)).mono ?_;rintro e w' ⟨v,rfl,dO,hh⟩;rcases hh with⟨h0,_⟩|⟨_,B,cap,kl,t',rfl,hB,nN,h1,h2,h3,h4⟩
  .subst h0;exact absurd rfl gE
  .have Px:=lJ ks;have he:=OY (cs:=(oI ks).map λs=> .sc (.string s)) hs dO hB nN (by simp;omega) (λk x hk=>by
    simp only[Zs,Ze]at hk;obtain⟨s,yY,rfl⟩:=hk;exact⟨_,rfl,rfl,h4 k s yY⟩)
   refine⟨_,he,.inl ⟨_,rfl,?_⟩⟩;have:=Rp.sl (w:=w') (X:=dZ X (λi=>if i=h.length then B else ρ i) (h++[eV.row ((oI ks).map λs=> .sc (.string s))])) (ρ:=λi=>if i=h.length then B else ρ i) (n:=(h++[eV.row ((oI ks).map λs=> .sc (.string s))]).length)
    h.length 1 0 ks.length cap false kl t' (0,0) (by simp) (by simpa using nN) (by omega) (by simp) (by intro;omega) h1 h2
   simpa using this
 .cases hb
def Fo{C:Cx}{call:lu}(cW:jm C call){g:FuncId}{xs:List AV}{h':Hp}{c:Value}(hc:call g xs []=some (.sc c,h')):iG C g xs (.sc c):=by
 intro w X vs hX hG hl hv;have hs:=E_ hX hG id;obtain⟨h1,h2⟩:=cW g xs [] _ _ hc w X id vs hs hl (λk x hk=> .im ((hv k x hk).yz λb hb=>hb.elim (λh=>h) λh=>absurd h (nu id b)));refine⟨h1,h2.mono λe w' ⟨ρ',hx,hh⟩=>?_⟩;rcases hh with⟨v,he,hr⟩|⟨u,_,hu⟩
 .obtain⟨rfl,hf⟩:=hr.dQ;exact⟨_,he,⟨hx.step.os,hx.step.tape,hx.step.output,hx.step.size,λb hb _=>hx.step.keep b hb (nu id b),hx.step.row,λ_ _ h=>h,hx.step.drew⟩,.sc _ hf⟩
 .cases hu
def Iw{X:Nat->Prop}{ρ:Nat->Nat}{h:Hp}{id:Nat}{b:eV}(ej:h[id]?=some b)(hl:tP b=true):dZ (λp=>X p\/p=ρ id) ρ (h.set id .dead)=dZ X ρ h:=by
 have du:=(Za.1 ej).1
 funext p
 apply propext;constructor
 .rintro((hx|rfl)|⟨i,⟨b',oE,hd⟩,rfl⟩)
  .exact .inl hx
  .exact .inr ⟨id,⟨b,ej,hl⟩,rfl⟩
  .by_cases e:id=i
   .subst e;rw[Zj du]at oE;cases oE;cases hd
   .rw[Zq e]at oE;exact .inr ⟨i,⟨b',oE,hd⟩,rfl⟩
 .rintro(hx|⟨i,⟨b',oE,hd⟩,rfl⟩)
  .exact .inl (.inl hx)
  .by_cases e:id=i
   .subst e;exact .inl (.inr rfl)
   .exact .inr ⟨i,⟨b',by rw[Zq e];exact oE,hd⟩,rfl⟩
def Un{G:Nat->Option (List Value)}{w:World}{X:Nat->Prop}{ρ:Nat->Nat}{h:Hp}(hs:ia G w X ρ h){id:Nat}{b:eV}(ej:h[id]?=some b)(hl:tP b=true):ia G w (λp=>X p\/p=ρ id) ρ (h.set id .dead):=by
 have du:=(Za.1 ej).1;have e:=Iw (X:=X) (ρ:=ρ) ej hl;have hlv:∀i,live (h.set id .dead) i->id≠i/\live h i:=by
  rintro i ⟨b',oE,hd⟩;by_cases q:id=i
  .subst q;rw[Zj du]at oE;cases oE;cases hd
  .rw[Zq q]at oE;exact⟨q,b',oE,hd⟩
 refine⟨λp hp=>hp.elim (hs.FC p) λq=>q▸hs.lt ⟨b,ej,hl⟩,λg row hg=>?_,λi j hi hj=>hs.inj i j (hlv i hi).2 (hlv j hj).2,λi hi hx=>?_,λi cs hi=>?_,λi b' hi=>?_⟩
 .rw[e];exact hs.rS g row hg
 .obtain⟨q,rN⟩:=hlv i hi;rcases hx with hx|hx
  .exact hs.out i rN hx
  .exact q (hs.inj _ _ ⟨b,ej,hl⟩ rN hx.symm)
 .rw[e];by_cases q:id=i
  .subst q;rw[Zj du]at hi;cases hi
  .rw[Zq q]at hi;exact hs.pb i cs hi
 .rw[e,List.length_set];by_cases q:id=i
  .subst q;rw[Zj du]at hi;cases hi;trivial
  .rw[Zq q]at hi;exact hs.km i b' hi
def Ix{ι:Type}{A:ι->List AV}{B:ι->List Value}{s:Nat}{Q:Value->AV->Prop}(hA:∀i,(A i).length=s)(hB:∀i,(B i).length=s)(hR:∀(i:ι)(j:Nat)(x:AV),(A i)[j]?=some x->∃u,(B i)[j]?=some u/\Q u x):
 ∀(l:List ι)(p:Nat)(x:AV),(l.flatMap A)[p]?=some x->∃u,(l.flatMap B)[p]?=some u/\Q u x
 | [],p,x,h=>by simp at h
 |
  i::l,p,x,h=>by
  rw[Ym]at h|-;by_cases hp:p<s
  .rw[Zd (by rw[hA];exact hp)]at h;rw[Zd (by rw[hB];exact hp)];exact hR i p x h
  .rw[Zf (by rw[hA];omega),hA]at h;rw[Zf (by rw[hB];omega),hB];exact Ix hA hB hR l _ x h
def fP{ι α:Type}{A:ι->List α}{s:Nat}(hA:∀i,(A i).length=s):∀l:List ι,(l.flatMap A).length=l.length*s
 | []=>by simp
 |i::l=>by rw[Ym,Zu,hA,fP hA l,Ys,Xh];omega
def od{m:Nat}{cf:Nat->Nat->Int}(h:Ea m cf):(lZ m cf).Perm (List.ofFn λi:Fin (m+1)=>i):=by
 have:=(Sort.pdq_sorts _ h (Array.ofFn λi:Fin (m+1)=>i) 0 (m+1) (Lib.bitLen (m+1)) true true (Yt _) (by simp) (Or.inl rfl)).1;obtain⟨h1,_,h3⟩:=this;have e1:(Array.ofFn λi:Fin (m+1)=>i).extract 0 (m+1)=Array.ofFn λi:Fin (m+1)=>i:=by simp
 have hz:(Sort.pdq (λi j:Fin (m+1)=>decide (cf i.1 j.1<0)) (Array.ofFn λi:Fin (m+1)=>i) 0 (m+1) (Lib.bitLen (m+1)) true true).size=m+1:=by rw[h1];simp
 rw[e1]at h3;unfold lZ;have e2:(Sort.pdq (λi j:Fin (m+1)=>decide (cf i.1 j.1<0)) (Array.ofFn λi:Fin (m+1)=>i) 0 (m+1) (Lib.bitLen (m+1)) true true).extract 0 (m+1)=Sort.pdq (λi j:Fin (m+1)=>decide (cf i.1 j.1<0)) (Array.ofFn λi:Fin (m+1)=>i) 0 (m+1) (Lib.bitLen (m+1)) true true:=by
  have:=Array.extract_size (xs:=Sort.pdq (λi j:Fin (m+1)=>decide (cf i.1 j.1<0)) (Array.ofFn λi:Fin (m+1)=>i) 0 (m+1) (Lib.bitLen (m+1)) true true)
  rwa [hz]at this
 rw[e2]at h3;simpa using h3
def O0(cf:Nat->Nat->Int):lZ 1 cf=if cf 1 0<0 then[1,0]else[0,1]:=by
 have e:(Array.ofFn λi:Fin (1+1)=>i)= #[0,1]:=by decide
 unfold lZ;rw[e,Sort.pdq,cw (by omega)];unfold Sort.insertionSort;rw[Sort.insOuter,cw (by omega),Sort.insOuter,cv (by omega)];by_cases h:cf 1 0<0
 .rw[cw h];simp[Sort.insInner,Sort.swp,h]
 .rw[cv h];simp[Sort.insInner,h]
def Hl{m:Nat}{cf:Nat->Nat->Int}(h:Ea m cf):Qc m cf=lZ m cf:=by
 unfold Qc;split
 .rename_i e;subst e;have:=od h;rw[List.ofFn_succ,List.ofFn_zero]at this|-;exact(List.perm_singleton.1 this).symm
 .split
  .rename_i e;subst e;rw[O0];rfl
  .rfl
def YP{call:lu}{g:FuncId}{ss:List AV}{m:Nat}(h:ME call g ss m=true):KZ call g ss m:=by
 unfold ME at h;split at h
 .rename_i e;subst e;split at h
  case h_2=>cases h
  rename_i c h' hq;have hc:qp call g ss 0 0=c:=by unfold qp;rw[hq]
  have h0:0<=c:=by simpa using h
  refine⟨λi j hi hj=>?_,?_⟩
  .obtain rfl:i=0:=by omega
   obtain rfl:j=0:=by omega
   exact⟨h',by rw[hc];exact hq⟩
  .have hz:∀i j:Fin (0+1),decide (qp call g ss i.1 j.1<0)=false:=λi j=>by
    have hi:i.1=0:=by omega
    have hj:j.1=0:=by omega
    rw[hi,hj,hc];simp;omega
   unfold Ea;constructor<;>(intros;simp_all)
 .split at h
  .rename_i e;subst e;split at h
   case h_2=>cases h
   rename_i a h1 b h2 c h3 d h4 q1 q2 q3 q4;have e1:qp call g ss 0 0=a:=by unfold qp;rw[q1]
   have e2:qp call g ss 0 1=b:=by unfold qp;rw[q2]
   have e3:qp call g ss 1 0=c:=by unfold qp;rw[q3]
   have e4:qp call g ss 1 1=d:=by unfold qp;rw[q4]
   have hh:0<=a/\0<=d/\¬(b<0/\c<0):=by
    simp only[Zh,Zy,Xd,Bool.and_eq_false_iff,decide_eq_false_iff_not]at h;exact⟨h.1.1,h.1.2,λq=>h.2.elim (λw=>w q.1) (λw=>w q.2)⟩
   have two:∀i,i<=1->i=0\/i=1:=λi hi=>by omega
   refine⟨λi j hi hj=>?_,?_⟩
   .rcases two i hi with rfl|rfl<;>rcases two j hj with rfl|rfl
    .exact⟨_,by rw[e1];exact q1⟩
    .exact⟨_,by rw[e2];exact q2⟩
    .exact⟨_,by rw[e3];exact q3⟩
    .exact⟨_,by rw[e4];exact q4⟩
   .have fZ:∀i j k:Nat,i<=1->j<=1->k<=1->(¬qp call g ss i i<0)/\(qp call g ss i j<0->qp call g ss j k<0->qp call g ss i k<0)/\(¬qp call g ss i j<0->¬qp call g ss j k<0->¬qp call g ss i k<0):=λi j k hi hj hk=>by
     rcases two i hi with rfl|rfl<;>rcases two j hj with rfl|rfl<;>rcases two k hk with rfl|rfl<;>simp only[e1,e2,e3,e4]<;>omega
    have hb:∀i:Fin (1+1),i.1<=1:=λi=>by omega
    unfold Ea;constructor
    .intro i;exact decide_eq_false (fZ _ _ _ (hb i) (hb i) (hb i)).1
    .intro i j q w1 w2;exact decide_eq_true ((fZ _ _ _ (hb i) (hb j) (hb q)).2.1 (of_decide_eq_true w1) (of_decide_eq_true w2))
    .intro i j q w1 w2;exact decide_eq_false ((fZ _ _ _ (hb i) (hb j) (hb q)).2.2 (of_decide_eq_false w1) (of_decide_eq_false w2))
  .exact @of_decide_eq_true _ (Classical.propDecidable _) h
def Wy{call:lu}{g:FuncId}{ss:List AV}{m:Nat}(h:KZ call g ss m):ME call g ss m=true:=by
 obtain⟨ha,hw⟩:=h;unfold ME;split
 .rename_i e;subst e;obtain⟨h',q⟩:=ha 0 0 (Yq _) (Yq _);rw[q];have:=of_decide_eq_false (hw.irrefl 0);simp only[Zy];exact Int.not_lt.1 this
 .split
  .rename_i e;subst e;obtain⟨h1,q1⟩:=ha 0 0 (by omega) (by omega);obtain⟨h2,q2⟩:=ha 0 1 (by omega) (by omega);obtain⟨h3,q3⟩:=ha 1 0 (by omega) (by omega);obtain⟨h4,q4⟩:=ha 1 1 (by omega) (by omega);have i0:=of_decide_eq_false (hw.irrefl 0);have i1:=of_decide_eq_false (hw.irrefl 1);have t0:qp call g ss 0 1<0->qp call g ss 1 0<0->qp call g ss 0 0<0:=λa b=>of_decide_eq_true (hw.trans 0 1 0 (decide_eq_true a) (decide_eq_true b))
   have i0':¬qp call g ss 0 0<0:=i0;have i1':¬qp call g ss 1 1<0:=i1;rw[q1,q2,q3,q4];simp only[Zh,Zy,Xd,Bool.and_eq_false_iff,decide_eq_false_iff_not];refine⟨⟨by omega,by omega⟩,?_⟩;by_cases hb:qp call g ss 0 1<0
   .exact Or.inr λhc=>i0' (t0 hb hc)
   .exact Or.inl hb
  .exact @decide_eq_true _ (Classical.propDecidable _) ⟨ha,hw⟩
def Uo{k:Nat}{vs:List Value}(h:vs.length=nc k)(h1:∀v∈vs,v.oneCell'=true):∀(w:World)(X:Nat->Prop)(ρ:Nat->Nat)(n:Nat)(cs:List AV),cs.length=nc k->(∀(j:Nat)(x:AV),cs[j]?=some x->Rp w X ρ n (vs.getD j undef) x)->Rp w X ρ n (vv k vs) (MD k cs):=by
 intro w X ρ n cs hl hr;unfold vv MD;by_cases hk:k=0
 .rw[cw hk,cw hk];have e1:nc k=1:=by unfold nc;rw[cw hk]
  rw[e1]at h hl
  match vs,cs,h,hl with
  | [v],[x],_,_=>exact hr 0 x rfl
 .rw[cv hk,cv hk];refine .ag _ _ (by simp[h,hl]) (λj hj=>?_) λj x hx=>?_
  .have T_:j<vs.length:=by simpa using hj
   have:vs.toArray.getD j undef=vs[j]:=by simp[Array.getD,T_]
   rw[this];exact h1 _ (List.getElem_mem T_)
  .have:=hr j x hx;have hj:j<vs.length:=by rw[h,<-hl];exact(Za.1 hx).1
   have e:vs.toArray.getD j undef=vs.getD j undef:=by simp[Array.getD,List.getD,hj]
   rw[e];exact this
def O3{C:Cx}{f:FuncId}{kk:Nat}(hS:DL C f kk){call:lu}(cW:jm C call){xs:List AV}{h h':Hp}{r:AV}(hb:MF call kk h xs=some (r,h'))(w:World)(X:Nat->Prop)(ρ:Nat->Nat)(vs:Array Value)(hs:ia C.G w X ρ h)(hl:vs.size=xs.length)(hv:∀(k:Nat)(x:AV),xs[k]?=some x->Rp w (dZ X ρ h) ρ h.length (vs.getD k undef) x):
 (∃fn,C.P.funcs[f]?=some fn/\fn.name≠ "runtime.NumGoroutine" /\fn.body.isSome=true)/\Calls C.P f vs w (wG C w X ρ h h' r):=by
 obtain⟨FQ,Ku,Um⟩:=hS;refine⟨FQ,?_⟩;have quiet:∀{e:Ending}{w':World},e= .returned (.tuple #[])/\Step w eK w' eK->wG C w X ρ h h (.tp []) e w':=λ{e w'}⟨he,dO⟩=>⟨ρ,jY hs dO,.inl ⟨_,he,.im (.tp #[] [] rfl λk x hk=>by simp at hk)⟩⟩
 have TU:∀a b,vs.size=2->vs.getD 0 undef=a->vs.getD 1 undef=b->vs= #[a,b]:=λa b h2 ha hb=>by
  obtain⟨l⟩:=vs
  match l,h2 with
  | [x,y],_=>simp at ha hb;rw[ha,hb]
 unfold MF at hb;split at hb
 .rename_i g;simp only[Zc,Zg]at hb;obtain⟨rfl,rfl⟩:=hb;have q0:=(hv 0 _ rfl).dQ.1;obtain⟨us,q1,hus,_⟩:=(hv 1 _ rfl).pj;rw[TU _ _ (by simpa using hl) q0 q1];exact(Ku w none 0 g us (by simpa using hus)).mono λe w' hh=>quiet hh
 .rename_i s z g;simp only[Zc,Zg]at hb;obtain⟨rfl,rfl⟩:=hb;obtain⟨base,cap,q0⟩:∃base cap,vs.getD 0 undef= .slice base 0 cap:=by
   rcases(hv 0 _ rfl).mg.iR with⟨_,a,cap,e,_⟩|⟨b,o,cap,_,_,_,_,e,_⟩
   .exact⟨_,_,e⟩
   .exact⟨_,_,e⟩
  obtain⟨us,q1,hus,_⟩:=(hv 1 _ rfl).pj;rw[TU _ _ (by simpa using hl) q0 q1];exact(Ku w base cap g us (by simpa using hus)).mono λe w' hh=>quiet hh
 .rename_i id s off len k g;have ik:0<nc kk:=by unfold nc;split<;>omega
  obtain⟨cap,aik,t0,fz0,e0,DN,mX,tF,Ja,aam,Sc,FD⟩:=(hv 0 _ rfl).kr;obtain⟨bs,q1,S5,_⟩:=(hv 1 _ rfl).pj;have aeJ:bs.size=0:=by simpa using S5
  rw[TU _ _ (by simpa using hl) e0 q1];split at hb
  .simp only[Zc,Zg]at hb;obtain⟨rfl,rfl⟩:=hb;exact(Ku w _ cap g bs aeJ).mono λe w' hh=>quiet hh
  .rename_i cs m ej;split at hb
   case isFalse=>cases hb
   rename_i hc;obtain⟨hsK,hcs,ajg⟩:=hc;rw[<-hsK]at Um ik;split at hb
   case h_2=>cases hb
   rename_i ss hss;split at hb
   case isFalse=>cases hb
   rename_i AY;simp only[Zc,Zg]at hb;obtain⟨rfl,rfl⟩:=hb;obtain⟨ajh,AX⟩:=YP AY;rw[Hl AX];have iI:live h id:=⟨_,ej,rfl⟩;obtain⟨cV,t,fz,us,c1,c2,c3,c4⟩:=hs.row id cs ej;have hG:=Un hs ej rfl;have aji:=Iw (X:=X) (ρ:=ρ) ej (b:= .row cs) rfl;have aeK:∀(i:Fin (m+1))(j:Nat),j<s->off+i.1*s+j<cs.length:=λi j hj=>by
    have h1:(i.1+1)*s<=(m+1)*s:=Nat.mul_le_mul_right _ i.2;rw[Xh]at h1;omega
   have lj:∀i:Fin (m+1),(rowAt s off cs i.1).length=s:=λi=>by
    have:=aeK i (s-1) (by omega);unfold rowAt;simp;omega
   have hrg:∀(i:Fin (m+1))(j:Nat)(x:AV),(rowAt s off cs i.1)[j]?=some x->j<s/\cs[off+i.1*s+j]?=some x:=λi j x hx=>by
    unfold rowAt at hx;rw[Xi]at hx;split at hx
    .rename_i hj;rw[Xj]at hx;exact⟨hj,hx⟩
    .cases hx
   have hun:∀(i:Fin (m+1))(j:Nat),j<s->((List.range s).map λj=>us (off+i.1*s+j))[j]?=some (us (off+i.1*s+j)):=λi j hj=>by simp[hj]
   have fO:∀(i:Fin (m+1))(j:Nat),j<s->cV[off+i.1*s+j]?=some (us (off+i.1*s+j))/\(us (off+i.1*s+j)).oneCell'=true:=λi j hj=>by
    have:=c4 _ _ (Zb (aeK i j hj));exact⟨this.1,this.2.1⟩
   have hrp:∀i:Fin (m+1),Rp w (dZ X ρ h) ρ h.length (vv kk ((List.range s).map λj=>us (off+i.1*s+j))) (MD kk (rowAt s off cs i.1)):=λi=>by
    refine Uo (by simp[hsK]) (λv hv=>?_) _ _ _ _ _ ((lj i).trans hsK) λj x hx=>?_
    .simp only[Yf,List.mem_range]at hv;obtain⟨j,hj,rfl⟩:=hv;exact(fO i j hj).2
    .obtain⟨hj,IU⟩:=hrg i j x hx;have:((List.range s).map λj=>us (off+i.1*s+j)).getD j undef=us (off+i.1*s+j):=by simp[List.getD,hj]
     rw[this];exact(c4 _ _ IU).2.2
   obtain⟨m1,m2⟩:=iT hss;have yJ:∀i:Fin (m+1),Ri w (λp=>X p\/p=ρ id) (vv kk ((List.range s).map λj=>us (off+i.1*s+j))) (ss.getD i.1 .ud):=λi=>by
    obtain⟨y,IW,xW⟩:=m2 i.1 i.1 (by simp);have:ss.getD i.1 .ud=y:=by simp[List.getD,IW]
    rw[this];refine ox hG 8 _ _ y ?_ xW;rw[aji,List.length_set];exact hrp i
   have hg:∀(W:World)(i j:Fin (m+1)),wE (ρ id) w W->(∃fn,C.P.funcs[g]?=some fn/\fn.name≠ "runtime.NumGoroutine" /\fn.body.isSome=true)/\
    Calls C.P g #[vv kk ((List.range s).map λk=>us (off+i.1*s+k)),vv kk ((List.range s).map λk=>us (off+j.1*s+k))] W (λe W'=>e= .returned (.int .i64 (qp call g ss i.1 j.1))/\Step W eK W' eK):=by
    intro W i j hW;obtain⟨w1,w2,w3,w4,w5⟩:=hW;obtain⟨h'',hc⟩:=ajh i.1 j.1 (by omega) (by omega);have hk:Kept w (λp=>X p\/p=ρ id) W (λp=>X p\/p=ρ id):=⟨λb hb hn=>w5 b hb (λe=>hn (.inr e)),λ_ _ q=>q⟩;obtain⟨p1,p2⟩:=Fo cW hc W (λp=>X p\/p=ρ id) #[vv kk ((List.range s).map λk=>us (off+i.1*s+k)),vv kk ((List.range s).map λk=>us (off+j.1*s+k))] (λb hb=>Nat.lt_of_lt_of_le (hG.FC b hb) w4) (λgl row hgl=>by
     obtain⟨hn,T8,t1,ae,hw1,hh⟩:=hG.rS gl row hgl;exact⟨λq=>hn (.inl q),T8,t1,ae,(w5 gl (fI hw1) λe=>hn (.inl (.inr e))).trans hw1,hh⟩) rfl (λk x hx=>by
     match k,hx with
     |0,hx=>cases hx;exact(yJ i).kept hk
     |1,hx=>cases hx;exact(yJ j).kept hk
     |_+2,hx=>simp at hx)
    refine⟨p1,p2.mono λe W' ⟨v,he,dO,hr⟩=>⟨?_,dO⟩⟩;have:=(Rp.im (ρ:=ρ) (n:=0) hr).dQ.1;rw[he,this]
   have hrefl:wE (ρ id) w w:=⟨rfl,rfl,rfl,Yq _,λ_ _ _=>rfl⟩;refine(Um w m cap (ρ id) off cV t fz (λi=>(List.range s).map λk=>us (off+i.1*s+k)) (qp call g ss) g bs aeJ ajg c1 c2 (Yj hcs c3) (λi=>by simp) (λi u hu=>?_) (λi j u hu=>?_) AX (hg w 0 0 hrefl).1 (λW i j hW=>(hg W i j hW).2)).mono ?_
   .simp only[Yf,List.mem_range]at hu;obtain⟨j,hj,rfl⟩:=hu;exact(fO i j hj).2
   .have hj:j<s:=by have:=(Za.1 hu).1;simpa using this
    rw[hun i j hj]at hu;cases hu;exact(fO i j hj).1
   rintro e w' ⟨rfl,kl,d1,d2,d3,d4,⟨o1,o2,o3,o4,o5⟩,d6⟩;have du:=fI c1;have hw1:({w with heap:=w.heap.setIfInBounds (ρ id) (.cells kl t fz)}:World).heap[ρ id]?=some (.cells kl t fz):=by
    show(w.heap.setIfInBounds (ρ id) _)[ρ id]?=_;simp[du]
   have hwn:∀b,b≠ρ id->({w with heap:=w.heap.setIfInBounds (ρ id) (.cells kl t fz)}:World).heap[b]?=w.heap[b]?:=λb hb=>by
    show(w.heap.setIfInBounds (ρ id) _)[b]?=_;rw[Array.getElem?_setIfInBounds_ne (Ne.symm hb)]
   have vj:((lZ m (qp call g ss)).flatMap λi=>rowAt s off cs i.1).length=(m+1)*s:=by
    rw[fP lj,(od AX).length_eq,List.length_ofFn]
   have aaM:∀(k:Nat)(x:AV),(cs.take off++(lZ m (qp call g ss)).flatMap (λi=>rowAt s off cs i.1)++cs.drop (off+(m+1)*s))[k]?=some x->∃u,kl[k]?=some u/\u.oneCell'=true/\Rp w (dZ X ρ h) ρ h.length u x:=by
    intro k x hx;have hto:(cs.take off).length=off:=by simp;omega
    by_cases k1:k<off
    .rw[Zp,Zd (by rw[hto];exact k1),Xi,cw k1]at hx;have:=c4 k x hx;exact⟨_,(d3 k (.inl k1)).trans this.1,this.2⟩
    .rw[Zp,Zf (by rw[hto];omega),hto]at hx;by_cases k2:k<off+(m+1)*s
     .rw[Zd (by rw[vj];omega)]at hx;obtain⟨u,u1,u2⟩:=Ix (Q:=λu x=>u.oneCell'=true/\Rp w (dZ X ρ h) ρ h.length u x) lj (B:=λi:Fin (m+1)=>(List.range s).map λk=>us (off+i.1*s+k)) (λi=>by simp) (λi j x hx=>by
       obtain⟨hj,IU⟩:=hrg i j x hx;exact⟨_,hun i j hj,(c4 _ _ IU).2⟩) _ _ _ hx
      have:=d4 _ _ u1;rw[show off+(k-off)=k by omega]at this;exact⟨u,this,u2⟩
     .rw[Zf (by rw[vj];omega),vj,Xj]at hx;rw[show off+(m+1)*s+(k-off-(m+1)*s)=k by omega]at hx;have:=c4 k x hx;exact⟨_,(d3 k (.inr (by omega))).trans this.1,this.2⟩
   have he:=pB (w':={w with heap:=w.heap.setIfInBounds (ρ id) (.cells kl t fz)}) hs id (.row cs) (.row (cs.take off++(lZ m (qp call g ss)).flatMap (λi=>rowAt s off cs i.1)++cs.drop (off+(m+1)*s))) ej rfl rfl rfl rfl rfl (by simp) (λc tt ff hc=>by
    rw[c1]at hc;cases hc;exact⟨kl,t,fz,hw1,d2⟩) hwn (by
    rw[hw1];refine⟨kl,t,fz,λk=>kl.getD k undef,rfl,c2.imp (λq=>q) (λq=>q.2.elim),?_,λk x hx=>?_⟩
    .rw[Zu,Zu,vj,d2];simp;omega
    .obtain⟨u,u1,u2,u3⟩:=aaM k x hx;have:kl.getD k undef=u:=by rw[Zr,u1];rfl
     simp only[this];exact⟨u1,u2,u3⟩)
   have gh:∀b,b<w.heap.size->w'.heap[b]?=({w with heap:=w.heap.setIfInBounds (ρ id) (.cells kl t fz)}:World).heap[b]?:=λb hb=>by
    by_cases e:b=ρ id
    .subst e;rw[d1,hw1]
    .rw[o5 b hb e,hwn b e]
   have dO:Step ({w with heap:=w.heap.setIfInBounds (ρ id) (.cells kl t fz)}:World) eK w' eK:=⟨o1,o2,o3,by simpa using o4,λb hb _=>gh b (by simpa using hb),λb c tt ff hc=>⟨c,tt,ff,(gh b (by have:=fI hc;simpa using this)).trans hc,rfl⟩,λ_ _ q=>q,d6⟩;exact⟨ρ,he.trans (jY he.uj dO),.inl ⟨_,rfl,.im (.tp #[] [] rfl λk x hk=>by simp at hk)⟩⟩
  .cases hb
 .cases hb
def gH{C:Cx}(hC:kg C):∀n,(∀b,jm C (cu C n b))/\∀g xs h r h',C.inl g=false->cu C n false g xs h=some (r,h')->h'=h:=by
 intro n
 induction n with
 |zero=>exact⟨λb g xs h r h' hc=>by simp[cu]at hc,λg xs h r h' _ hc=>by simp[cu]at hc⟩
 |succ n ih=>
  obtain⟨ih1,ih2⟩:=ih;constructor
  .intro b g xs h r h' hc w X ρ vs hs hl hv;simp only[cu]at hc;split at hc
   .rename_i g' kt hsr;split at hc
    .exact Fm (hC.vc g g' kt hsr) hc w X ρ vs hs hl hv
    .cases hc
   split at hc
   .split at hc
    .rename_i sz bytes ajj;unfold adu at hc;split at hc
     .rename_i hz;subst hz;exact O3 (hC.sfn g sz ajj) (ih1 false) hc w X ρ vs hs hl hv
     .cases hc
    split at hc
    .rename_i r1 acD;simp only[Zc,Zg]at hc;obtain⟨rfl,rfl⟩:=hc;split at acD
     case isFalse=>cases acD
     rename_i dL;rw[Yp]at dL;obtain⟨p1,p2⟩:=hC.BZ g xs _ acD w (dZ X ρ h) vs (λb hb=>hb.elim (hs.FC b) λ⟨i,hi,e⟩=>e▸hs.lt hi) hs.rS (by omega) (λk y hk=>zl (hv k y hk) (dL _ (Zi hk)));exact⟨p1,p2.mono λe w' ⟨v,he,dO,yJ⟩=>⟨ρ,jY hs dO,.inl ⟨v,he,.im yJ⟩⟩⟩
    split at hc
    .split at hc
     .exact Iv hC.base hC.MC ih1 ih2 hc w X ρ vs hs hl hv
     .exact yw hC.base ih1 ih2 hc w X ρ vs hs hl hv
    .cases hc
   .split at hc
    case h_2=>cases hc
    rename_i ys vq;obtain⟨m1,m2⟩:=iT vq;split at hc
    case h_2=>cases hc
    rename_i r' cC;have Uq:iG C g ys r':=by
     split at cC
     .rename_i r1 h1;simp only[Zc]at cC;subst cC;exact hC.BZ g ys _ h1
     .split at cC
      .rename_i r1 h1 hb;simp only[Ze]at cC;obtain⟨r2,oL,rfl⟩:=cC;have hp:=qM hC.base ih1 ih2 hb oL;exact λw X vs h1 h2 h3 h4=>⟨(hp w X vs h1 h2 h3 h4).1,(hp w X vs h1 h2 h3 h4).2.mono λe w' ⟨v,he,dO,yJ⟩=>⟨v,he,dO,hC.nf g w' X v _ yJ⟩⟩
      .cases cC
    split at hc
    .rename_i qU;simp only[Zc,Zg]at hc;obtain⟨rfl,rfl⟩:=hc;simp only[Yx]at qU;rcases qU with dL|hsc
     .rw[Yp]at dL;have hG:GOK C.G w (dZ X ρ h):=hs.rS;obtain⟨p1,p2⟩:=Uq w (dZ X ρ h) vs (λb hb=>hb.elim (hs.FC b) λ⟨i,hi,e⟩=>e▸hs.lt hi) hG (by omega) (λk y hk=>by
       have iB:k<xs.length:=by have:=(Za.1 hk).1;omega
       obtain⟨b,hb,jx⟩:=m2 k _ (Zb iB);rw[hk]at hb;cases hb;have FF:=dL _ (List.getElem_mem iB);rw[OW FF jx];exact zl (hv k _ (Zb iB)) FF)
      exact⟨p1,p2.mono λe w' ⟨v,he,dO,yJ⟩=>⟨ρ,jY hs dO,.inl ⟨v,he,.im yJ⟩⟩⟩
     .have hG:GOK C.G w X:=λg row hg=>by
       obtain⟨h1,h2⟩:=hs.rS g row hg;exact⟨λhh=>h1 (.inl hh),h2⟩
      obtain⟨p1,p2⟩:=Uq w X vs hs.FC hG (by omega) (λk y hk=>by
       have iB:k<xs.length:=by have:=(Za.1 hk).1;omega
       obtain⟨b,hb,jx⟩:=m2 k _ (Zb iB);rw[hk]at hb;cases hb;exact ox hs 8 _ _ _ (hv k _ (Zb iB)) jx)
      exact⟨p1,p2.mono λe w' ⟨v,he,dO,yJ⟩=>⟨ρ,jY hs dO,.inl ⟨v,he,.im (OZ yJ hsc)⟩⟩⟩
    .split at hc
     case isFalse=>cases hc
     rename_i hb;simp only[Zh,Option.isSome_iff_exists]at hb;obtain⟨_,zs,hzs⟩:=hb;simp only[Ze,Zg]at hc;obtain⟨h1,hz,rfl,rfl⟩:=hc;obtain⟨he,jx⟩:=wq hs hz;obtain⟨z1,z2⟩:=iT hzs;obtain⟨p1,p2⟩:=Uq w (dZ X ρ h1) vs (λb hb=>hb.elim (hs.FC b) λ⟨i,hi,e⟩=>e▸he.uj.lt hi) he.uj.rS (by omega) (λk y hk=>by
      have iB:k<xs.length:=by have:=(Za.1 hk).1;omega
      obtain⟨b,hb,q8⟩:=m2 k _ (Zb iB);obtain⟨b',oE,hs2⟩:=z2 k _ (Zb iB);have hs3:=Oi _ _ _ hs2;rw[q8]at hs3;cases hs3;rw[hk]at hb;cases hb;exact jx 8 _ _ _ (hv k _ (Zb iB)) hs2)
     exact⟨p1,p2.mono λe w' ⟨v,dH,dO,yJ⟩=>⟨ρ,he.trans (jY he.uj dO),.inl ⟨v,dH,.im yJ⟩⟩⟩
  .intro g xs h r h' ajk hc;simp only[cu,ajk,Yl,if_false,Bool.false_and]at hc;split at hc
   .cases hc
   split at hc
   case h_2=>cases hc
   split at hc
   case h_2=>cases hc
   split at hc
   case isFalse=>cases hc
   simp only[Zc,Zg]at hc;exact hc.2.symm
def Hu{C:Cx}(hC:kg C){n:Nat}{f:FuncId}{xs:List AV}{h':Hp}{r0 r:AV}(hb:oH C (cu C n) f xs []=some (r0,h')){m:Nat}(jx:da h' m r0=some r):iG C f xs r:=
 qM hC.base (gH hC n).1 (gH hC n).2 hb jx
end Go.Ae
