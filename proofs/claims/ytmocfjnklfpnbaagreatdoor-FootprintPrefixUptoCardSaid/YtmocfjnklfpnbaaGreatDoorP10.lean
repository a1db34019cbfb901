/- The abstract evaluator, part 10: code, calls: the theorem. -/
import Derived.Test.YtmocfjnklfpnbaaGreatDoorP9
import Derived.LoopN
import Derived.Defers
set_option linter.all false
namespace Go.Ae
open Go
def codeOk (C:Cx):Code→Bool
 | .region _ ops true=>rok C ops
 | .seq a b=>codeOk C a && codeOk C b
 | .cond _ a b=>codeOk C a && codeOk C b
 | .block _ c=>codeOk C c
 | .loop c=>codeOk C c
 |_=>true
structure CxOk (C:Cx):Prop where
 mixed:C.P.follows .mixedOrders=true
 types:∀t i,C.T t=some i→tiOf C.P t=some i
 funs:∀f fi,C.F f=some fi→fiOf C.P f=some fi∧codeOk C fi.body=true∧∀fn,C.P.funcs[f]?=some fn→fn.name≠ "runtime.NumGoroutine"
section exec
variable {C : Cx} {call : Bool → FuncId → List AV → Hp → Option (AV × Hp)}
theorem exec_sound (hC:CxOk C)(hcall:∀b,CallOK C (call b))(hkeep:∀g xs h r h',C.inl g=false→call false g xs h=some (r,h')→h'=h){X:Nat→Prop}:
 ∀(c:Code),codeOk C c=true→∀(s s':St) (out:Out),exec C call c s=some (out,s')→∀(a:Act) (w:World) (ρ:Nat→Nat) (Q:Exit→Act→World→Prop),Sim C.G w X ρ s.2→RF w (tot X ρ s.2) ρ s.2.length a.tmps s.1→
  (∀a' w' ρ',Ext C.G w X ρ s.2 w' ρ' s'.2→RF w' (tot X ρ' s'.2) ρ' s'.2.length a'.tmps s'.1→a'.defers=a.defers→Q (exitOf out) a' w')→c.wp C.P Q a w:=by
 intro c
 induction c with
 |
  skip=>
  intro _ s s' out he a w ρ Q hs hf hQ;simp only[exec,Zc,Zg]at he;obtain⟨rfl,rfl⟩:=he;exact wp_skip (hQ a w ρ (Ext.refl hs) hf rfl)
 |
  label l=>
  intro _ s s' out he a w ρ Q hs hf hQ;simp only[exec,Zc,Zg]at he;obtain⟨rfl,rfl⟩:=he;exact wp_label (hQ a w ρ (Ext.refl hs) hf rfl)
 |
  exit id=>
  intro _ s s' out he a w ρ Q hs hf hQ;simp only[exec,Zc,Zg]at he;obtain⟨rfl,rfl⟩:=he;exact wp_exit (hQ a w ρ (Ext.refl hs) hf rfl)
 |
  ret=>
  intro _ s s' out he a w ρ Q hs hf hQ;simp only[exec,Zc,Zg]at he;obtain⟨rfl,rfl⟩:=he;exact wp_ret (hQ a w ρ (Ext.refl hs) hf rfl)
 |
  region id ops draw=>
  intro hok s s' out he a w ρ Q hs hf hQ;simp only[exec]at he;cases draw with
  |
   false=>
   simp only[Yl,if_false]at he;refine wp_region ?_;have:=ops_sound hC.types (hcall true) ops.toList 0 s s' out (by simp) he a w ρ hs hf hQ;simpa using this
  |
   true=>
   simp only[if_true]at he;split at he
   ·rename_i sts hr;split at he
    ·rename_i hall;simp only[Ze,Zg]at he;obtain⟨s1,hl,rfl,rfl⟩:=he;exact draw_sound hC.mixed hC.types (hcall false) hkeep hok hr hall hl hs hf hQ
    ·cases he
   ·unfold panA at he;split at he
    ·obtain⟨v,h',rfl,rfl,hd⟩:=panX_spec he;exact draw_pan hC.mixed hC.types (hcall false) hkeep hok hd hs hf fun a' w' ρ' h1 h2 h3=>hQ a' w' ρ' h1 h2 h3
    ·cases he
 |
  seq x y ihx ihy=>
  intro hok s s' out he a w ρ Q hs hf hQ;simp only[codeOk,Zh]at hok;simp only[exec]at he;refine wp_seq ?_;split at he
  ·rename_i s1 h1;refine ihx hok.1 s s1 .normal h1 a w ρ _ hs hf fun a1 w1 ρ1 e1 f1 d1=>?_
   show y.wp C.P Q a1 w1;exact ihy hok.2 s1 s' out he a1 w1 ρ1 Q e1.sim f1 fun a2 w2 ρ2 e2 f2 d2=>hQ a2 w2 ρ2 (e1.trans e2) f2 (d2.trans d1)
  ·rename_i hn;refine ihx hok.1 s s' out he a w ρ _ hs hf fun a1 w1 ρ1 e1 f1 d1=>?_
   cases out with
   |normal=>exact absurd he (by intro h;exact hn s' h)
   |exit id=>exact hQ a1 w1 ρ1 e1 f1 d1
   |ret=>exact hQ a1 w1 ρ1 e1 f1 d1
   |pan u=>exact hQ a1 w1 ρ1 e1 f1 d1
 |
  cond c x y ihx ihy=>
  intro hok s s' out he a w ρ Q hs hf hQ;simp only[codeOk,Zh]at hok;simp only[exec]at he;have hc:=ev_rp hs hf c;split at he
  ·rename_i hv;rw[hv]at hc;exact wp_cond_true hc.sc_inv.1 (ihx hok.1 s s' out he a w ρ Q hs hf hQ)
  ·rename_i hv;rw[hv]at hc;exact wp_cond_false hc.sc_inv.1 (ihy hok.2 s s' out he a w ρ Q hs hf hQ)
  ·cases he
 |
  block id c ih=>
  intro hok s s' out he a w ρ Q hs hf hQ;simp only[codeOk]at hok;simp only[exec]at he;refine wp_block ?_;split at he
  ·rename_i i s1 h1;simp only[Zc,Zg]at he;obtain⟨ho,rfl⟩:=he;refine ih hok s s1 (.exit i) h1 a w ρ _ hs hf fun a1 w1 ρ1 e1 f1 d1=>?_
   have hq:=hQ a1 w1 ρ1 e1 f1 d1;rw[←ho]at hq;show(if i=id then Q .normal a1 w1 else Q (.exit i) a1 w1);by_cases hi:i=id
   ·rw[if_pos hi];rw[if_pos hi]at hq;exact hq
   ·rw[if_neg hi];rw[if_neg hi]at hq;exact hq
  ·rename_i hn;refine ih hok s s' out he a w ρ _ hs hf fun a1 w1 ρ1 e1 f1 d1=>?_
   cases out with
   |normal=>exact hQ a1 w1 ρ1 e1 f1 d1
   |exit i=>exact absurd he (hn i s')
   |ret=>exact hQ a1 w1 ρ1 e1 f1 d1
   |pan u=>exact hQ a1 w1 ρ1 e1 f1 d1
 |
  loop c ih=>
  intro hok s s' out he a w ρ Q hs hf hQ;simp only[codeOk]at hok;simp only[exec]at he;refine wp_loop_rounds C.fuel ?_;have key:∀(n:Nat) (s:St) (a1:Act) (w1:World) (ρ1:Nat→Nat),loopN (exec C call c) n s=some (out,s')→Sim C.G w1 X ρ1 s.2→RF w1 (tot X ρ1 s.2) ρ1 s.2.length a1.tmps s.1→
   (∀a' w' ρ',Ext C.G w1 X ρ1 s.2 w' ρ' s'.2→RF w' (tot X ρ' s'.2) ρ' s'.2.length a'.tmps s'.1→a'.defers=a1.defers→Q (exitOf out) a' w')→Code.rounds C.P c Q n a1 w1:=by
   intro n
   induction n with
   |zero=>intro s a1 w1 ρ1 hl;simp[loopN]at hl
   |
    succ n ihn=>
    intro s a1 w1 ρ1 hl hs1 hf1 hQ1;simp only[loopN]at hl;rw[rounds_succ];split at hl
    ·rename_i s1 h1;refine ih hok s s1 .normal h1 a1 w1 ρ1 _ hs1 hf1 fun a2 w2 ρ2 e2 f2 d2=>?_
     show Code.rounds C.P c Q n a2 w2;exact ihn s1 a2 w2 ρ2 hl e2.sim f2 fun a3 w3 ρ3 e3 f3 d3=>hQ1 a3 w3 ρ3 (e2.trans e3) f3 (d3.trans d2)
    ·rename_i hn;refine ih hok s s' out hl a1 w1 ρ1 _ hs1 hf1 fun a2 w2 ρ2 e2 f2 d2=>?_
     cases out with
     |normal=>exact absurd hl (by intro h;exact hn s' h)
     |exit id=>exact hQ1 a2 w2 ρ2 e2 f2 d2
     |ret=>exact hQ1 a2 w2 ρ2 e2 f2 d2
     |pan u=>exact hQ1 a2 w2 ρ2 e2 f2 d2
  exact key C.fuel s a w ρ he hs hf hQ
 |
  _=>
  intro _ s s' out he;simp[exec]at he
end exec
theorem rv_run {C:Cx}{w:World}{X:Nat→Prop}{ρ:Nat→Nat}{s:St}(hs:Sim C.G w X ρ s.2){tmps:Array Value}(hf:RF w (tot X ρ s.2) ρ s.2.length tmps s.1):
 ∀(rs:List ResultVar) (rvs:List Rv) (xs:List AV),
  (rs.mapM fun(r:ResultVar)=>match r with
   | .tmp t=>some (Rv.tmp t)
   | .cell a t=>match C.P.info? t,C.P.underlying t with|some i,some d=>some (Rv.cell a i.size (aggD d))|_,_=>none)=some rvs→
  rvs.mapM (rvOf s)=some xs→∃vs:List Value,(rs.mapM (m:=Sem) fun(r:ResultVar)=>match r with| .tmp t=>pure (tmps.getD t undef)| .cell a t=>do loadVar t (←asAddr (tmps.getD a undef))).run C.P w= .ok vs w∧
   vs.length=xs.length∧∀(k:Nat) (x:AV),xs[k]?=some x→Rp w (tot X ρ s.2) ρ s.2.length (vs.getD k undef) x
 |
  [],rvs,xs,h1,h2=>by
  simp at h1;subst h1;simp at h2;subst h2;exact⟨[],by simp,rfl,by simp⟩
 |
  r::rs,rvs,xs,h1,h2=>by
  simp only[Zo,Option.bind_eq_bind,Yg,Option.pure_def,Zc]at h1;obtain⟨q,hq,qs,hqs,rfl⟩:=h1;simp only[Zo,Option.bind_eq_bind,Yg,Option.pure_def,Zc]at h2;obtain⟨y,hy,ys,hys,rfl⟩:=h2;obtain⟨vs,hv1,hv2,hv3⟩:=rv_run hs hf rs qs ys hqs hys;have slot:∀t,Rp w (tot X ρ s.2) ρ s.2.length (tmps.getD t undef) (s.1.getD t .ud):=fun t=>by
   cases ht:s.1[t]? with
   |some z=>have:=hf.2 t z ht;simpa[List.getD,ht]using this
   |none=>simp[List.getD,ht];exact .im (.ud _)
  have one:∃v,(match r with| .tmp t=>pure (tmps.getD t undef)| .cell a t=>do loadVar t (←asAddr (tmps.getD a undef)):Sem Value).run C.P w= .ok v w∧Rp w (tot X ρ s.2) ρ s.2.length v y:=by
   cases r with
   |
    tmp t=>
    simp only[Zc]at hq;subst hq;simp only[rvOf,Zc]at hy;subst hy;exact⟨_,rfl,slot t⟩
   |
    cell a t=>
    simp only at hq;split at hq
    ·rename_i i d hi hd;simp only[Zc]at hq;subst hq;simp only[rvOf]at hy;have hsl:=slot a;split at hy
     ·rename_i id off hpt;rw[hpt]at hsl;obtain⟨e1,e2⟩:=hsl.pt_inv;split at hy
      ·rename_i cs hid;obtain⟨cur,t0,fz,us,c1,c3⟩:=hs.cells hid;obtain⟨v,hv,hr⟩:=load_part' (ρ:=ρ) (n:=s.2.length) (X:=tot X ρ s.2) hd hi (o:=0) c1 (us:=us) (cs:=cs) (fun k x hk=>by simpa using c3 k x hk) hy;refine⟨v,?_,hr⟩;simp only[Nat.zero_add]at hv;simp only[e1,asAddr,Sem.run_bind,Sem.run_pure,Result.andThen_ok,hv]
      ·cases hy
     ·cases hy
    ·cases hq
  obtain⟨v,hv,hr⟩:=one;refine⟨v::vs,?_,by simp[hv2],fun k x hk=>?_⟩
  ·simp only[Zo,Sem.run_bind,hv,Result.andThen_ok,hv1,Sem.run_pure]
  ·cases k with
   |zero=>simp at hk;subst hk;simpa using hr
   |succ k=>simp at hk;simpa[List.getD]using hv3 k x hk
theorem fiOf_spec {P:Program}{f:FuncId}{fi:Fi}(h:fiOf P f=some fi):∃fn,P.funcs[f]?=some fn∧fn.body=some fi.body∧fi.ntmps=fn.ntmps∧
 (fn.results.toList.mapM fun(r:ResultVar)=>match r with
  | .tmp t=>some (Rv.tmp t)
  | .cell a t=>match P.info? t,P.underlying t with|some i,some d=>some (Rv.cell a i.size (aggD d))|_,_=>none)=some fi.res:=by
 unfold fiOf at h;split at h
 ·rename_i fn hfn;split at h
  ·rename_i c hc;simp only[Ze]at h;obtain⟨res,hres,rfl⟩:=h;exact⟨fn,hfn,hc,rfl,hres⟩
  ·cases h
 ·cases h
theorem results_sound {C:Cx}{w:World}{X:Nat→Prop}{ρ:Nat→Nat}{s:St}(hs:Sim C.G w X ρ s.2){tmps:Array Value}(hf:RF w (tot X ρ s.2) ρ s.2.length tmps s.1){fn:Func}{fi:Fi}
 (hres:(fn.results.toList.mapM fun(r:ResultVar)=>match r with
  | .tmp t=>some (Rv.tmp t)
  | .cell a t=>match C.P.info? t,C.P.underlying t with|some i,some d=>some (Rv.cell a i.size (aggD d))|_,_=>none)=some fi.res) {r:AV} (hr:resOf fi s=some r):
 ∃v,(results fn tmps).run C.P w= .ok v w∧Rp w (tot X ρ s.2) ρ s.2.length v r:=by
 have hm:∀vs:List Value,(fn.results.toList.mapM (m:=Sem) fun(r:ResultVar)=>match r with| .tmp t=>pure (tmps.getD t undef)| .cell a t=>do loadVar t (←asAddr (tmps.getD a undef))).run C.P w= .ok vs w→
  (results fn tmps).run C.P w= .ok (if h:vs.toArray.size=1 then vs.toArray[0]else .tuple vs.toArray) w:=by
  intro vs hvs;unfold results;simp only[Sem.run_bind];rw[Array.mapM_eq_mapM_toList,Sem.run_map];exact congrArg (fun z:Result (List Value)=>(z.andThen fun a w'=>Result.ok a.toArray w').andThen fun(a:Array Value) w'=>Sem.run C.P (pure (if h:a.size=1 then a[0]else Value.tuple a)) w') hvs
 unfold resOf at hr;split at hr
 ·rename_i t ht;have h1:[t].mapM (rvOf s)=some [r]:=by simp[hr]
  rw[ht]at hres;obtain⟨vs,hv1,hv2,hv3⟩:=rv_run hs hf _ _ _ hres h1;refine⟨_,hm vs hv1,?_⟩;cases vs with
  |nil=>simp at hv2
  |
   cons v vs=>
   have:vs=[]:=by simpa using hv2
   subst this;simpa using hv3 0 r rfl
 ·rename_i hne;simp only[Ze]at hr;obtain⟨xs,hxs,rfl⟩:=hr;obtain⟨vs,hv1,hv2,hv3⟩:=rv_run hs hf _ _ _ hres hxs;refine⟨_,hm vs hv1,?_⟩;have hl:vs.length≠1:=by
   intro h1;have h2:=(mapM_get hxs).1;rw[←hv2,h1]at h2
   match hq:fi.res with
   | []=>rw[hq]at h2;simp at h2
   | [t]=>exact hne t hq
   |_::_::_=>rw[hq]at h2;simp at h2
  rw[dif_neg (by simpa using hl)];refine .tp _ _ (by simpa using hv2) fun k x hk=>?_
  have:=hv3 k x hk;simpa[List.getD,Zr]using this
theorem start_rf {w:World}{X:Nat→Prop}{ρ:Nat→Nat}{n m m':Nat}{vs:Array Value}{xs:List AV}(hl:vs.size=xs.length)(hm:m=m')(hv:∀(k:Nat) (x:AV),xs[k]?=some x→Rp w X ρ n (vs.getD k undef) x):
 RF w X ρ n (vs++Array.replicate (m-vs.size) undef) (xs++List.replicate (m'-xs.length) .un):=by
 subst hm;refine⟨by simp[hl],fun i x hx=>?_⟩;by_cases hi:i<xs.length
 ·rw[Zd hi]at hx;have hi':i<vs.size:=by omega
  have:=hv i x hx;rw[Zr,Array.getElem?_append_left hi',←Zr];exact this
 ·rw[Zf (by omega)]at hx;have hx':x= .un:=by
   rw[List.getElem?_replicate]at hx;split at hx
   ·simpa using hx.symm
   ·cases hx
  subst hx';have:(vs++Array.replicate (m-vs.size) undef).getD i undef=undef:=by
   rw[Zr,Array.getElem?_append_right (by omega),Array.getElem?_replicate];split<;>rfl
  rw[this];exact .im .un
theorem body1_sound {C:Cx}{call:Bool→FuncId→List AV→Hp→Option (AV × Hp)}(hC:CxOk C)(hcall:∀b,CallOK C (call b))(hkeep:∀g xs h r h',C.inl g=false→call false g xs h=some (r,h')→h'=h){f:FuncId}{xs:List AV}{h h':Hp}{r:AV}
 (hb:body1 C call f xs h=some (r,h')) (w:World) (X:Nat→Prop) (ρ:Nat→Nat) (vs:Array Value) (hs:Sim C.G w X ρ h) (hl:vs.size=xs.length)
 (hv:∀(k:Nat) (x:AV),xs[k]?=some x→Rp w (tot X ρ h) ρ h.length (vs.getD k undef) x):
 (∃fn,C.P.funcs[f]?=some fn∧fn.name≠ "runtime.NumGoroutine" ∧fn.body.isSome=true)∧
 Calls C.P f vs w (CallR C w X ρ h h' r):=by
 unfold body1 at hb;split at hb
 case h_2=>cases hb
 rename_i fi hfi;obtain⟨h1,h2,h3⟩:=hC.funs f fi hfi;obtain⟨fn,f1,f2,f3,f4⟩:=fiOf_spec h1;refine⟨⟨fn,f1,h3 fn f1,by simp[f2]⟩,?_⟩;split at hb
 case isFalse=>cases hb
 rename_i hle;refine calls_of_wp f1 f2 ?_;have hrf:=start_rf (m:=fn.ntmps) (m':=fi.ntmps) hl f3.symm hv;have fin:∀(out:Out) (s':St),exec C call fi.body (xs++List.replicate (fi.ntmps-xs.length) .un,h)=some (out,s')→(out= .normal∨out= .ret)→(resOf fi s').map (fun r=>(r,s'.2))=some (r,h')→
  fi.body.wp C.P (bodyPost C.P fn (CallR C w X ρ h h' r)) {tmps:=vs++Array.replicate (fn.ntmps-vs.size) undef,defers:=[]} w:=by
  intro out s' hex ho hres;simp only[Ze,Zg]at hres;obtain⟨r',hr',rfl,rfl⟩:=hres;refine exec_sound hC hcall hkeep fi.body h2 _ s' out hex _ w ρ _ hs hrf fun a' w' ρ' he hf' hd=>?_
  obtain⟨v,hv1,hv2⟩:=results_sound he.sim hf' f4 hr';rcases ho with rfl|rfl
  ·exact⟨hd,v,hv1,ρ',he,.inl ⟨v,rfl,hv2⟩⟩
  ·exact⟨hd,v,hv1,ρ',he,.inl ⟨v,rfl,hv2⟩⟩
 split at hb
 ·rename_i s' hex;exact fin .normal s' hex (.inl rfl) hb
 ·rename_i s' hex;exact fin .ret s' hex (.inr rfl) hb
 ·rename_i u s' hex;simp only[Zc,Zg]at hb;obtain⟨rfl,rfl⟩:=hb;refine exec_sound hC hcall hkeep fi.body h2 _ s' _ hex _ w ρ _ hs hrf fun a' w' ρ' he hf' hd=>?_
  exact⟨hd,ρ',he,.inr ⟨u,rfl,rfl⟩⟩
 ·cases hb
theorem snap_calm {h:Hp}{n:Nat}{x y:AV}(hc:calm x=true)(hs:snap h (n+1) x=some y):y=x:=by
 have comps:∀(xs ys:List AV),(xs.all fun| .sc _| .ls .. | .rp .. =>true|_=>false)=true→xs.mapM (snap h n)=some ys→ys=xs:=by
  intro xs
  induction xs with
  |nil=>intro ys _ hm;simp at hm;exact hm
  |
   cons x xs ih=>
   intro ys hall hm;simp only[Zn,Zh]at hall;simp only[Zo,Option.bind_eq_bind,Yg,Option.pure_def,Zc]at hm;obtain⟨b,hb,bs,hbs,rfl⟩:=hm;rw[ih bs hall.2 hbs];have:b=x:=by
    cases x<;>simp at hall<;>(cases n<;>simp only[snap,Zc]at hb<;>exact hb.symm)
   rw[this]
 unfold calm at hc;split at hc
 ·simp only[snap,Zc]at hs;exact hs.symm
 ·simp only[snap,Zc]at hs;exact hs.symm
 ·simp only[snap,Zc]at hs;exact hs.symm
 ·simp only[snap,Ze]at hs;obtain⟨ys,hys,rfl⟩:=hs;rw[comps _ _ hc hys]
 ·simp only[snap,Ze]at hs;obtain⟨ys,hys,rfl⟩:=hs;rw[comps _ _ hc hys]
 ·cases hc
def RcvOK (C:Cx)(g:FuncId)(T:TypeId):Prop:=
 (∃fn,C.P.funcs[g]?=some fn∧fn.name≠ "runtime.NumGoroutine" ∧fn.body.isSome=true)∧
 (∀(w:World) (p:Nat),CallsD C.P g #[.pointer (some ⟨p,0,none⟩)] .returning w (fun e u' w'=>(∃v,e= .returned v)∧u'= .returning∧w'=w))∧
 ∀(w:World) (p:Nat) (cur:Array Value) (t:TypeId) (fz:Nat × Nat),w.heap[p]?=some (.cells cur t fz)→Fz fz cur→0<cur.size→
  ∀k n,CallsD C.P g #[.pointer (some ⟨p,0,none⟩)] (.panicking [{v:= .iface T (.int k n),recovered:=false}]) w
   (fun e u' w'=>(∃v,e= .returned v)∧u'= .panicking [{v:= .iface T (.int k n),recovered:=true}]∧w'=w.setRow p (cur.setIfInBounds 0 (.int k n)))
def deferred (a:Act)(d:Tmp)(x:Operand)(g:FuncId):Act:=
 {a with tmps:=a.tmps.setIfInBounds d (.func (.func g) #[] #[a.eval x]),defers:={target:= .fn (.func g) #[a.eval x],args:= #[]}::a.defers}
theorem deferOf_wp {C:Cx}{c:Code}{d:Tmp}{x:Operand}{T:TypeId}{rest:Code}(h:deferOf C c=some (d,x,T,rest)):
 ∃g,C.rcv g=some T∧(codeOk C c=true→codeOk C rest=true)∧∀(a:Act) (w:World) (Q:Exit→Act→World→Prop),d<a.tmps.size→rest.wp C.P Q (deferred a d x g) w→c.wp C.P Q a w:=by
 unfold deferOf at h;split at h
 case h_2=>cases h
 rename_i rid ops rest';split at h
 case h_2=>cases h
 rename_i d1 g first caps ty1 pos1 after1 d2 args tys ty2 pos2 after2 hops
 split at h
 case h_2=>cases h
 rename_i T' x' hT hx;split at h
 case isFalse=>cases h
 rename_i hc;simp only[Zc,Zg]at h;obtain⟨rfl,rfl,rfl,rfl⟩:=h;simp only[Zh,Zz]at hc;obtain⟨⟨rfl,hf⟩,ha⟩:=hc;refine⟨g,hT,fun hk=>by simp only[codeOk,Bool.true_and]at hk;exact hk,fun a w Q hd hw=>?_⟩;refine wp_seq (wp_region ?_);have hcap:caps= #[x']:=by apply Array.ext';simpa using hx
 have hfe:first= #[]:=by simpa using hf
 have hae:args= #[]:=by simpa using ha
 subst hcap hfe hae;obtain⟨opl⟩:=ops;simp only at hops;subst hops;have e1:(execOp a.eval {dst:=some d1,op:=Op.makeFunc (Fn.func g) #[] #[x'],type:=ty1,pos:=pos1,after:=after1,guard:=none}).run C.P w= .ok (.value (.func (.func g) #[] #[a.eval x'])) w:=by
  simp[execOp,Instr.makeFunc]
 have e2:∀a1:Act,a1.eval (.tmp d1)= .func (.func g) #[] #[a.eval x']→(execOp a1.eval {dst:=none,op:=Op.defer {callee:=Callee.value (Operand.tmp d1),args:= #[],argTypes:=tys},type:=ty2,pos:=pos2,after:=after2,guard:=none}).run C.P w=
  .ok (.defer {target:= .fn (.func g) #[a.eval x'],args:= #[]}) w:=fun a1 h1=>by
  simp[execOp,resolve,h1,Deferred.ofValue]
 show wpOps C.P _ _ [0,1] a w;simp only[wpOps,List.getElem?_toArray,List.getElem?_cons_zero,Ye,Region.wanted,if_true];refine .inl ?_;unfold Oper.wp;rw[e1,Oper.upon_value];refine .inl ?_;rw[e2 _ (by simp[Act.put,Act.eval,hd]),Oper.upon_defer];exact hw
def preWp (C:Cx)(K:Act→World→Prop)(Q:Exit→Act→World→Prop):List Code→Act→World→Prop
 | [],a,w=>K a w
 |p::ps,a,w=>p.wp C.P (Exit.then (preWp C K Q ps) Q) a w
theorem splitD_wp {C:Cx}:∀{c:Code} {pre:List Code} {d:Tmp} {x:Operand} {T:TypeId} {rest:Code},splitD C c=some (pre,d,x,T,rest)→
 ∃g,C.rcv g=some T∧(codeOk C c=true→(∀p∈pre,codeOk C p=true)∧codeOk C rest=true)∧∀(a:Act) (w:World) (Q:Exit→Act→World→Prop),
  preWp C (fun a' w'=>d<a'.tmps.size∧rest.wp C.P Q (deferred a' d x g) w') Q pre a w→c.wp C.P Q a w
 |
  .seq p q,pre,d,x,T,rest,h=>by
  simp only[splitD]at h;split at h
  ·rename_i d' x' T' rest' h1;simp only[Zc,Zg]at h;obtain⟨rfl,rfl,rfl,rfl,rfl⟩:=h;obtain⟨g,g1,g2,g3⟩:=deferOf_wp h1;refine⟨g,g1,fun hk=>?_,fun a w Q hw=>?_⟩
   ·simp only[codeOk,Zh]at hk;exact⟨fun p' hp=>by simp at hp;subst hp;exact hk.1,g2 hk.2⟩
   ·refine wp_seq (wp_mono hw ?_);intro e a' w' he;cases e with
    |normal=>exact g3 a' w' Q he.1 he.2
    |_=>exact he
  ·split at h
   ·rename_i pre' d' x' T' rest' h1;simp only[Zc,Zg]at h;obtain⟨rfl,rfl,rfl,rfl,rfl⟩:=h;obtain⟨g,g1,g2,g3⟩:=splitD_wp h1;refine⟨g,g1,fun hk=>?_,fun a w Q hw=>?_⟩
    ·simp only[codeOk,Zh]at hk⊢;refine⟨fun p' hp=>?_,(g2 hk.2).2⟩;rcases List.mem_cons.1 hp with rfl|hp
     ·exact hk.1
     ·exact(g2 hk.2).1 p' hp
    ·refine wp_seq (wp_mono hw ?_);intro e a' w' he;cases e with
     |normal=>exact g3 a' w' Q he
     |_=>exact he
   ·cases h
 | .skip,_,_,_,_,_,h| .region ..,_,_,_,_,_,h| .cond ..,_,_,_,_,_,h| .block ..,_,_,_,_,_,h| .loop ..,_,_,_,_,_,h| .label ..,_,_,_,_,_,h| .exit ..,_,_,_,_,_,h| .ret,_,_,_,_,_,h=>by simp[splitD]at h
 | .goto _,_,_,_,_,_,h=>by simp[splitD]at h
section defers
variable {C : Cx} {call : Bool → FuncId → List AV → Hp → Option (AV × Hp)}
theorem execL_sound (hC:CxOk C)(hcall:∀b,CallOK C (call b))(hkeep:∀g xs h r h',C.inl g=false→call false g xs h=some (r,h')→h'=h){X:Nat→Prop}{K:Act→World→Prop}{Q:Exit→Act→World→Prop}:
 ∀(cs:List Code),(∀c∈cs,codeOk C c=true)→∀(s s':St) (out:Out),execL C call cs s=some (out,s')→∀(a:Act) (w:World) (ρ:Nat→Nat),Sim C.G w X ρ s.2→RF w (tot X ρ s.2) ρ s.2.length a.tmps s.1→
  (∀a' w' ρ',Ext C.G w X ρ s.2 w' ρ' s'.2→RF w' (tot X ρ' s'.2) ρ' s'.2.length a'.tmps s'.1→a'.defers=a.defers→Exit.then K Q (exitOf out) a' w')→preWp C K Q cs a w
 |
  [],_,s,s',out,he,a,w,ρ,hs,hf,hQ=>by
  simp only[execL,Zc,Zg]at he;obtain⟨rfl,rfl⟩:=he;exact hQ a w ρ (Ext.refl hs) hf rfl
 |
  c::cs,hok,s,s',out,he,a,w,ρ,hs,hf,hQ=>by
  simp only[execL]at he;split at he
  ·rename_i s1 h1;refine exec_sound hC hcall hkeep c (hok c (by simp)) s s1 .normal h1 a w ρ _ hs hf fun a1 w1 ρ1 e1 f1 d1=>?_
   exact execL_sound hC hcall hkeep cs (fun c' hc=>hok c' (by simp[hc])) s1 s' out he a1 w1 ρ1 e1.sim f1 fun a2 w2 ρ2 e2 f2 d2=>hQ a2 w2 ρ2 (e1.trans e2) f2 (d2.trans d1)
  ·rename_i hn;refine exec_sound hC hcall hkeep c (hok c (by simp)) s s' out he a w ρ _ hs hf fun a1 w1 ρ1 e1 f1 d1=>?_
   have:=hQ a1 w1 ρ1 e1 f1 d1;cases out with
   |normal=>exact absurd he (by intro h;exact hn s' h)
   |exit id=>exact this
   |ret=>exact this
   |pan u=>exact this
theorem bodyD_sound (hC:CxOk C)(hR:∀g T,C.rcv g=some T→RcvOK C g T)(hcall:∀b,CallOK C (call b))(hkeep:∀g xs h r h',C.inl g=false→call false g xs h=some (r,h')→h'=h){f:FuncId}{xs:List AV}{h h':Hp}{r:AV}
 (hb:bodyD C call f xs h=some (r,h')) (w:World) (X:Nat→Prop) (ρ:Nat→Nat) (vs:Array Value) (hs:Sim C.G w X ρ h) (hl:vs.size=xs.length)
 (hv:∀(k:Nat) (x:AV),xs[k]?=some x→Rp w (tot X ρ h) ρ h.length (vs.getD k undef) x):
 (∃fn,C.P.funcs[f]?=some fn∧fn.name≠ "runtime.NumGoroutine" ∧fn.body.isSome=true)∧
 Calls C.P f vs w (CallR C w X ρ h h' r):=by
 unfold bodyD at hb;split at hb
 case h_2=>cases hb
 rename_i fi hfi;obtain⟨h1,h2,h3⟩:=hC.funs f fi hfi;obtain⟨fn,f1,f2,f3,f4⟩:=fiOf_spec h1;refine⟨⟨fn,f1,h3 fn f1,by simp[f2]⟩,?_⟩;split at hb
 case isFalse=>cases hb
 split at hb
 case h_2=>cases hb
 rename_i pre d x T rest hsp;obtain⟨g,g1,g2,g3⟩:=splitD_wp hsp;obtain⟨ok1,ok2⟩:=g2 h2;refine calls_of_wp_defers f1 f2 (g3 _ _ _ ?_);have hrf:=start_rf (m:=fn.ntmps) (m':=fi.ntmps) hl f3.symm hv;split at hb
 ·
  rename_i s hex;simp only[Ze,Zg]at hb;obtain⟨r',hr',rfl,rfl⟩:=hb;refine execL_sound hC hcall hkeep pre ok1 _ s _ hex _ w ρ hs hrf fun a' w' ρ' he hf' hd=>?_
  obtain⟨v,hv1,hv2⟩:=results_sound he.sim hf' f4 hr';show Leaves C.P fn a'.tmps _ a'.defers .returning w';rw[hd];exact⟨v,hv1,ρ',he,.inl ⟨v,rfl,hv2⟩⟩
 ·rename_i s hex;split at hb
  case h_2=>cases hb
  rename_i id hx;split at hb
  case isFalse=>cases hb
  rename_i hdl;refine execL_sound hC hcall hkeep pre ok1 _ s _ hex _ w ρ hs hrf fun a1 w1 ρ1 he1 hf1 hd1=>?_
  have hxv:=ev_rp he1.sim hf1 x;rw[hx]at hxv;obtain⟨hxe,hidl⟩:=hxv.pt_inv;refine⟨by rw[hf1.1];exact hdl,?_⟩;have hf2:RF w1 (tot X ρ1 s.2) ρ1 s.2.length (deferred a1 d x g).tmps (s.1.set d .ud):=hf1.put d (.im (.ud _));have hds:(deferred a1 d x g).defers=[{target:= .fn (.func g) #[.pointer (some ⟨ρ1 id,0,none⟩)],args:= #[]}]:=by
   simp only[deferred,hd1,hxe]
  obtain⟨⟨gn,n1,n2,n3⟩,hrc⟩:=hR g T g1;have hinv:∀w':World,(invoke (.fn (.func g) #[.pointer (some ⟨ρ1 id,0,none⟩)]) #[]).run C.P w'= .ok (.enter g #[.pointer (some ⟨ρ1 id,0,none⟩)]) w':=fun w'=>by
   have hbn:gn.body.isNone=false:=by cases hq:gn.body<;>simp_all
   simp only[invoke,callFunc,Sem.run_bind,run_program,Result.andThen_ok,n1,Array.empty_append];simp[n2,hbn]
  have quiet:∀(out:Out) (s':St),exec C call rest (s.1.set d .ud,s.2)=some (out,s')→(out= .normal∨out= .ret)→(resOf fi s').map (fun r=>(r,s'.2))=some (r,h')→
   rest.wp C.P (bodyPostD C.P fn (CallR C w X ρ h h' r)) (deferred a1 d x g) w1:=by
   intro out s' hex' ho hres;simp only[Ze,Zg]at hres;obtain⟨r',hr',rfl,rfl⟩:=hres;refine exec_sound hC hcall hkeep rest ok2 _ s' out hex' _ w1 ρ1 _ he1.sim hf2 fun a2 w2 ρ2 he2 hf3 hd2=>?_
   have hq:Leaves C.P fn a2.tmps (CallR C w X ρ h s'.2 r') a2.defers .returning w2:=by
    rw[hd2,hds];refine leaves_cons (by simp) (hinv w2) ((hrc.1 w2 _).mono ?_);rintro e u' w' ⟨⟨v0,rfl⟩,rfl,rfl⟩;obtain⟨v,hv1,hv2⟩:=results_sound he2.sim hf3 f4 hr';exact⟨v,hv1,ρ2,he1.trans he2,.inl ⟨v,rfl,hv2⟩⟩
   rcases ho with rfl|rfl
   ·exact hq
   ·exact hq
  split at hb
  ·rename_i s' hex';exact quiet .normal s' hex' (.inl rfl) hb
  ·rename_i s' hex';exact quiet .ret s' hex' (.inr rfl) hb
  ·rename_i T' k n s' hex';split at hb
   case h_2=>cases hb
   rename_i c0 hrow;split at hb
   case isFalse=>cases hb
   rename_i hTT;subst hTT;simp only[Ze,Zg]at hb;obtain⟨r',hr',rfl,rfl⟩:=hb;refine exec_sound hC hcall hkeep rest ok2 _ s' _ hex' _ w1 ρ1 _ he1.sim hf2 fun a2 w2 ρ2 he2 hf3 hd2=>?_
   show Leaves C.P fn a2.tmps _ a2.defers (.panicking [{v:= .iface T (.int k n),recovered:=false}]) w2;rw[hd2,hds];obtain⟨cur,t,fz,us,c1,hfz,c2,c3⟩:=he2.sim.row id _ hrow;have hre:ρ2 id=ρ1 id:=he2.rho id hidl;have hpos:0<cur.size:=by simp at c2;omega
   rw[hre]at c1;refine leaves_cons (by simp) (hinv w2) ((hrc.2 w2 _ cur t fz c1 hfz hpos k n).mono ?_);rintro e u' w' ⟨⟨v0,rfl⟩,rfl,rfl⟩;have hext:Ext C.G w2 X ρ2 s'.2 (w2.setRow (ρ1 id) (cur.setIfInBounds 0 (.int k n))) ρ2 (s'.2.set id (.row [.sc (.int k n)])):=by
    rw[←hre]at c1⊢;refine ext_write (w':=w2.setRow (ρ2 id) (cur.setIfInBounds 0 (.int k n))) he2.sim id _ hrow cur (cur.setIfInBounds 0 (.int k n)) t fz hfz c1 rfl rfl rfl (by simp[World.setRow]) (setRow_heap w2 (ρ2 id) cur _ t fz c1) (by simp) (fun b hb=>setRow_other w2 (ρ2 id) b _ hb) _ (fun _=> .int k n) (by simp;omega) (fun j y hj=>?_);cases j with
    |
     zero=>
     simp at hj;subst hj;exact⟨by simp[hpos],rfl,.im (.sc _ rfl)⟩
    |succ j=>simp at hj
   have hfr:RF (w2.setRow (ρ1 id) (cur.setIfInBounds 0 (.int k n))) (tot X ρ2 (s'.2.set id (.row [.sc (.int k n)]))) ρ2 (s'.2.set id (.row [.sc (.int k n)])).length a2.tmps s'.1:=hext.rf hf3;obtain⟨v,hv1,hv2⟩:=results_sound (s:=(s'.1,s'.2.set id (.row [.sc (.int k n)]))) hext.sim hfr f4 hr';exact⟨v,hv1,ρ2,(he1.trans he2).trans hext,.inl ⟨v,rfl,hv2⟩⟩
  ·cases hb
 ·cases hb
end defers
end Go.Ae
