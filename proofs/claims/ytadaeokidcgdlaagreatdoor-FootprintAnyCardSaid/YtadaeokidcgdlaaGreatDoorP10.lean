/- The abstract evaluator, part 10: code, calls: the theorem. -/
import Derived.Test.YtadaeokidcgdlaaGreatDoorP9
import Derived.LoopN
set_option linter.unusedSimpArgs false
namespace Go.Ae
open Go
def codeOk (C:Cx):Code→Bool
 | .region _ ops true=>rok C ops
 | .seq a b=>codeOk C a && codeOk C b
 | .cond _ a b=>codeOk C a && codeOk C b
 | .block _ c=>codeOk C c
 | .loop c=>codeOk C c
 |_=>true
structure CxOk (C:Cx):Prop where
 mixed:C.P.follows .mixedOrders=true
 types:∀t i,C.T t=some i→tiOf C.P t=some i
 funs:∀f fi,C.F f=some fi→fiOf C.P f=some fi∧codeOk C fi.body=true∧∀fn,C.P.funcs[f]?=some fn→fn.name≠ "runtime.NumGoroutine"
section exec
variable {C : Cx} {call : Bool → FuncId → List AV → Hp → Option (AV × Hp)}
theorem exec_sound (hC:CxOk C)(hcall:∀b,CallOK C (call b))(hkeep:∀g xs h r h',C.inl g=false→call false g xs h=some (r,h')→h'=h){X:Nat→Prop}:
 ∀(c:Code),codeOk C c=true→∀(s s':St) (out:Out),exec C call c s=some (out,s')→∀(a:Act) (w:World) (ρ:Nat→Nat) (Q:Exit→Act→World→Prop),Sim C.G w X ρ s.2→RF w (tot X ρ s.2) ρ s.2.length a.tmps s.1→
  (∀a' w' ρ',Ext C.G w X ρ s.2 w' ρ' s'.2→RF w' (tot X ρ' s'.2) ρ' s'.2.length a'.tmps s'.1→a'.defers=a.defers→Q (exitOf out) a' w')→c.wp C.P Q a w:=by
 intro c
 induction c with
 |
  skip=>
  intro _ s s' out he a w ρ Q hs hf hQ;simp only[exec,Zc,Zg]at he;obtain⟨rfl,rfl⟩:=he;exact wp_skip (hQ a w ρ (Ext.refl hs) hf rfl)
 |
  label l=>
  intro _ s s' out he a w ρ Q hs hf hQ;simp only[exec,Zc,Zg]at he;obtain⟨rfl,rfl⟩:=he;exact wp_label (hQ a w ρ (Ext.refl hs) hf rfl)
 |
  exit id=>
  intro _ s s' out he a w ρ Q hs hf hQ;simp only[exec,Zc,Zg]at he;obtain⟨rfl,rfl⟩:=he;exact wp_exit (hQ a w ρ (Ext.refl hs) hf rfl)
 |
  ret=>
  intro _ s s' out he a w ρ Q hs hf hQ;simp only[exec,Zc,Zg]at he;obtain⟨rfl,rfl⟩:=he;exact wp_ret (hQ a w ρ (Ext.refl hs) hf rfl)
 |
  region id ops draw=>
  intro hok s s' out he a w ρ Q hs hf hQ;simp only[exec]at he;cases draw with
  |
   false=>
   simp only[Yp,if_false]at he;refine wp_region ?_;have:=ops_sound hC.types (hcall true) ops.toList 0 s s' out (by simp) he a w ρ hs hf hQ;simpa using this
  |
   true=>
   simp only[if_true]at he;split at he
   ·rename_i sts hr;split at he
    ·rename_i hall;simp only[Ze,Zg]at he;obtain⟨s1,hl,rfl,rfl⟩:=he;exact draw_sound hC.mixed hC.types (hcall false) hkeep hok hr hall hl hs hf hQ
    ·cases he
   ·unfold panA at he;split at he
    ·obtain⟨v,h',rfl,rfl,hd⟩:=panX_spec he;exact draw_pan hC.mixed hC.types (hcall false) hkeep hok hd hs hf fun a' w' ρ' h1 h2 h3=>hQ a' w' ρ' h1 h2 h3
    ·cases he
 |
  seq x y ihx ihy=>
  intro hok s s' out he a w ρ Q hs hf hQ;simp only[codeOk,Zh]at hok;simp only[exec]at he;refine wp_seq ?_;split at he
  ·rename_i s1 h1;refine ihx hok.1 s s1 .normal h1 a w ρ _ hs hf fun a1 w1 ρ1 e1 f1 d1=>?_
   show y.wp C.P Q a1 w1;exact ihy hok.2 s1 s' out he a1 w1 ρ1 Q e1.sim f1 fun a2 w2 ρ2 e2 f2 d2=>hQ a2 w2 ρ2 (e1.trans e2) f2 (d2.trans d1)
  ·rename_i hn;refine ihx hok.1 s s' out he a w ρ _ hs hf fun a1 w1 ρ1 e1 f1 d1=>?_
   cases out with
   |normal=>exact absurd he (by intro h;exact hn s' h)
   |exit id=>exact hQ a1 w1 ρ1 e1 f1 d1
   |ret=>exact hQ a1 w1 ρ1 e1 f1 d1
   |pan u=>exact hQ a1 w1 ρ1 e1 f1 d1
 |
  cond c x y ihx ihy=>
  intro hok s s' out he a w ρ Q hs hf hQ;simp only[codeOk,Zh]at hok;simp only[exec]at he;have hc:=ev_rp hs hf c;split at he
  ·rename_i hv;rw[hv]at hc;exact wp_cond_true hc.sc_inv.1 (ihx hok.1 s s' out he a w ρ Q hs hf hQ)
  ·rename_i hv;rw[hv]at hc;exact wp_cond_false hc.sc_inv.1 (ihy hok.2 s s' out he a w ρ Q hs hf hQ)
  ·cases he
 |
  block id c ih=>
  intro hok s s' out he a w ρ Q hs hf hQ;simp only[codeOk]at hok;simp only[exec]at he;refine wp_block ?_;split at he
  ·rename_i i s1 h1;simp only[Zc,Zg]at he;obtain⟨ho,rfl⟩:=he;refine ih hok s s1 (.exit i) h1 a w ρ _ hs hf fun a1 w1 ρ1 e1 f1 d1=>?_
   have hq:=hQ a1 w1 ρ1 e1 f1 d1;rw[←ho]at hq;show(if i=id then Q .normal a1 w1 else Q (.exit i) a1 w1);by_cases hi:i=id
   ·rw[if_pos hi];rw[if_pos hi]at hq;exact hq
   ·rw[if_neg hi];rw[if_neg hi]at hq;exact hq
  ·rename_i hn;refine ih hok s s' out he a w ρ _ hs hf fun a1 w1 ρ1 e1 f1 d1=>?_
   cases out with
   |normal=>exact hQ a1 w1 ρ1 e1 f1 d1
   |exit i=>exact absurd he (hn i s')
   |ret=>exact hQ a1 w1 ρ1 e1 f1 d1
   |pan u=>exact hQ a1 w1 ρ1 e1 f1 d1
 |
  loop c ih=>
  intro hok s s' out he a w ρ Q hs hf hQ;simp only[codeOk]at hok;simp only[exec]at he;refine wp_loop_rounds C.fuel ?_;have key:∀(n:Nat) (s:St) (a1:Act) (w1:World) (ρ1:Nat→Nat),loopN (exec C call c) n s=some (out,s')→Sim C.G w1 X ρ1 s.2→RF w1 (tot X ρ1 s.2) ρ1 s.2.length a1.tmps s.1→
   (∀a' w' ρ',Ext C.G w1 X ρ1 s.2 w' ρ' s'.2→RF w' (tot X ρ' s'.2) ρ' s'.2.length a'.tmps s'.1→a'.defers=a1.defers→Q (exitOf out) a' w')→Code.rounds C.P c Q n a1 w1:=by
   intro n
   induction n with
   |zero=>intro s a1 w1 ρ1 hl;simp[loopN]at hl
   |
    succ n ihn=>
    intro s a1 w1 ρ1 hl hs1 hf1 hQ1;simp only[loopN]at hl;rw[rounds_succ];split at hl
    ·rename_i s1 h1;refine ih hok s s1 .normal h1 a1 w1 ρ1 _ hs1 hf1 fun a2 w2 ρ2 e2 f2 d2=>?_
     show Code.rounds C.P c Q n a2 w2;exact ihn s1 a2 w2 ρ2 hl e2.sim f2 fun a3 w3 ρ3 e3 f3 d3=>hQ1 a3 w3 ρ3 (e2.trans e3) f3 (d3.trans d2)
    ·rename_i hn;refine ih hok s s' out hl a1 w1 ρ1 _ hs1 hf1 fun a2 w2 ρ2 e2 f2 d2=>?_
     cases out with
     |normal=>exact absurd hl (by intro h;exact hn s' h)
     |exit id=>exact hQ1 a2 w2 ρ2 e2 f2 d2
     |ret=>exact hQ1 a2 w2 ρ2 e2 f2 d2
     |pan u=>exact hQ1 a2 w2 ρ2 e2 f2 d2
  exact key C.fuel s a w ρ he hs hf hQ
 |
  _=>
  intro _ s s' out he;simp[exec]at he
end exec
theorem rv_run {C:Cx}{w:World}{X:Nat→Prop}{ρ:Nat→Nat}{s:St}(hs:Sim C.G w X ρ s.2){tmps:Array Value}(hf:RF w (tot X ρ s.2) ρ s.2.length tmps s.1):
 ∀(rs:List ResultVar) (rvs:List Rv) (xs:List AV),
  (rs.mapM fun(r:ResultVar)=>match r with
   | .tmp t=>some (Rv.tmp t)
   | .cell a t=>match C.P.info? t,C.P.underlying t with|some i,some d=>some (Rv.cell a i.size (aggD d))|_,_=>none)=some rvs→
  rvs.mapM (rvOf s)=some xs→∃vs:List Value,(rs.mapM (m:=Sem) fun(r:ResultVar)=>match r with| .tmp t=>pure (tmps.getD t undef)| .cell a t=>do loadVar t (←asAddr (tmps.getD a undef))).run C.P w= .ok vs w∧
   vs.length=xs.length∧∀(k:Nat) (x:AV),xs[k]?=some x→Rp w (tot X ρ s.2) ρ s.2.length (vs.getD k undef) x
 |
  [],rvs,xs,h1,h2=>by
  simp at h1;subst h1;simp at h2;subst h2;exact⟨[],by simp,rfl,by simp⟩
 |
  r::rs,rvs,xs,h1,h2=>by
  simp only[Zo,Option.bind_eq_bind,Yh,Option.pure_def,Zc]at h1;obtain⟨q,hq,qs,hqs,rfl⟩:=h1;simp only[Zo,Option.bind_eq_bind,Yh,Option.pure_def,Zc]at h2;obtain⟨y,hy,ys,hys,rfl⟩:=h2;obtain⟨vs,hv1,hv2,hv3⟩:=rv_run hs hf rs qs ys hqs hys;have slot:∀t,Rp w (tot X ρ s.2) ρ s.2.length (tmps.getD t undef) (s.1.getD t .ud):=fun t=>by
   cases ht:s.1[t]? with
   |some z=>have:=hf.2 t z ht;simpa[List.getD,ht]using this
   |none=>simp[List.getD,ht];exact .im (.ud _)
  have one:∃v,(match r with| .tmp t=>pure (tmps.getD t undef)| .cell a t=>do loadVar t (←asAddr (tmps.getD a undef)):Sem Value).run C.P w= .ok v w∧Rp w (tot X ρ s.2) ρ s.2.length v y:=by
   cases r with
   |
    tmp t=>
    simp only[Zc]at hq;subst hq;simp only[rvOf,Zc]at hy;subst hy;exact⟨_,rfl,slot t⟩
   |
    cell a t=>
    simp only at hq;split at hq
    ·rename_i i d hi hd;simp only[Zc]at hq;subst hq;simp only[rvOf]at hy;have hsl:=slot a;split at hy
     ·rename_i id off hpt;rw[hpt]at hsl;obtain⟨e1,e2⟩:=hsl.pt_inv;split at hy
      ·rename_i cs hid;obtain⟨cur,t0,fz,us,c1,c3⟩:=hs.cells hid;obtain⟨v,hv,hr⟩:=load_part' (ρ:=ρ) (n:=s.2.length) (X:=tot X ρ s.2) hd hi (o:=0) c1 (us:=us) (cs:=cs) (fun k x hk=>by simpa using c3 k x hk) hy;refine⟨v,?_,hr⟩;simp only[Nat.zero_add]at hv;simp only[e1,asAddr,Sem.run_bind,Sem.run_pure,Result.andThen_ok,hv]
      ·cases hy
     ·cases hy
    ·cases hq
  obtain⟨v,hv,hr⟩:=one;refine⟨v::vs,?_,by simp[hv2],fun k x hk=>?_⟩
  ·simp only[Zo,Sem.run_bind,hv,Result.andThen_ok,hv1,Sem.run_pure]
  ·cases k with
   |zero=>simp at hk;subst hk;simpa using hr
   |succ k=>simp at hk;simpa[List.getD]using hv3 k x hk
theorem fiOf_spec {P:Program}{f:FuncId}{fi:Fi}(h:fiOf P f=some fi):∃fn,P.funcs[f]?=some fn∧fn.body=some fi.body∧fi.ntmps=fn.ntmps∧
 (fn.results.toList.mapM fun(r:ResultVar)=>match r with
  | .tmp t=>some (Rv.tmp t)
  | .cell a t=>match P.info? t,P.underlying t with|some i,some d=>some (Rv.cell a i.size (aggD d))|_,_=>none)=some fi.res:=by
 unfold fiOf at h;split at h
 ·rename_i fn hfn;split at h
  ·rename_i c hc;simp only[Ze]at h;obtain⟨res,hres,rfl⟩:=h;exact⟨fn,hfn,hc,rfl,hres⟩
  ·cases h
 ·cases h
theorem results_sound {C:Cx}{w:World}{X:Nat→Prop}{ρ:Nat→Nat}{s:St}(hs:Sim C.G w X ρ s.2){tmps:Array Value}(hf:RF w (tot X ρ s.2) ρ s.2.length tmps s.1){fn:Func}{fi:Fi}
 (hres:(fn.results.toList.mapM fun(r:ResultVar)=>match r with
  | .tmp t=>some (Rv.tmp t)
  | .cell a t=>match C.P.info? t,C.P.underlying t with|some i,some d=>some (Rv.cell a i.size (aggD d))|_,_=>none)=some fi.res) {r:AV} (hr:resOf fi s=some r):
 ∃v,(results fn tmps).run C.P w= .ok v w∧Rp w (tot X ρ s.2) ρ s.2.length v r:=by
 have hm:∀vs:List Value,(fn.results.toList.mapM (m:=Sem) fun(r:ResultVar)=>match r with| .tmp t=>pure (tmps.getD t undef)| .cell a t=>do loadVar t (←asAddr (tmps.getD a undef))).run C.P w= .ok vs w→
  (results fn tmps).run C.P w= .ok (if h:vs.toArray.size=1 then vs.toArray[0]else .tuple vs.toArray) w:=by
  intro vs hvs;unfold results;simp only[Sem.run_bind];rw[Array.mapM_eq_mapM_toList,Sem.run_map];exact congrArg (fun z:Result (List Value)=>(z.andThen fun a w'=>Result.ok a.toArray w').andThen fun(a:Array Value) w'=>Sem.run C.P (pure (if h:a.size=1 then a[0]else Value.tuple a)) w') hvs
 unfold resOf at hr;split at hr
 ·rename_i t ht;have h1:[t].mapM (rvOf s)=some [r]:=by simp[hr]
  rw[ht]at hres;obtain⟨vs,hv1,hv2,hv3⟩:=rv_run hs hf _ _ _ hres h1;refine⟨_,hm vs hv1,?_⟩;cases vs with
  |nil=>simp at hv2
  |
   cons v vs=>
   have:vs=[]:=by simpa using hv2
   subst this;simpa using hv3 0 r rfl
 ·rename_i hne;simp only[Ze]at hr;obtain⟨xs,hxs,rfl⟩:=hr;obtain⟨vs,hv1,hv2,hv3⟩:=rv_run hs hf _ _ _ hres hxs;refine⟨_,hm vs hv1,?_⟩;have hl:vs.length≠1:=by
   intro h1;have h2:=(mapM_get hxs).1;rw[←hv2,h1]at h2
   match hq:fi.res with
   | []=>rw[hq]at h2;simp at h2
   | [t]=>exact hne t hq
   |_::_::_=>rw[hq]at h2;simp at h2
  rw[dif_neg (by simpa using hl)];refine .tp _ _ (by simpa using hv2) fun k x hk=>?_
  have:=hv3 k x hk;simpa[List.getD,Zr]using this
theorem start_rf {w:World}{X:Nat→Prop}{ρ:Nat→Nat}{n m m':Nat}{vs:Array Value}{xs:List AV}(hl:vs.size=xs.length)(hm:m=m')(hv:∀(k:Nat) (x:AV),xs[k]?=some x→Rp w X ρ n (vs.getD k undef) x):
 RF w X ρ n (vs++Array.replicate (m-vs.size) undef) (xs++List.replicate (m'-xs.length) .un):=by
 subst hm;refine⟨by simp[hl],fun i x hx=>?_⟩;by_cases hi:i<xs.length
 ·rw[Zd hi]at hx;have hi':i<vs.size:=by omega
  have:=hv i x hx;rw[Zr,Array.getElem?_append_left hi',←Zr];exact this
 ·rw[Zf (by omega)]at hx;have hx':x= .un:=by
   rw[List.getElem?_replicate]at hx;split at hx
   ·simpa using hx.symm
   ·cases hx
  subst hx';have:(vs++Array.replicate (m-vs.size) undef).getD i undef=undef:=by
   rw[Zr,Array.getElem?_append_right (by omega),Array.getElem?_replicate];split<;>rfl
  rw[this];exact .im .un
theorem body1_sound {C:Cx}{call:Bool→FuncId→List AV→Hp→Option (AV × Hp)}(hC:CxOk C)(hcall:∀b,CallOK C (call b))(hkeep:∀g xs h r h',C.inl g=false→call false g xs h=some (r,h')→h'=h){f:FuncId}{xs:List AV}{h h':Hp}{r:AV}
 (hb:body1 C call f xs h=some (r,h')) (w:World) (X:Nat→Prop) (ρ:Nat→Nat) (vs:Array Value) (hs:Sim C.G w X ρ h) (hl:vs.size=xs.length)
 (hv:∀(k:Nat) (x:AV),xs[k]?=some x→Rp w (tot X ρ h) ρ h.length (vs.getD k undef) x):
 (∃fn,C.P.funcs[f]?=some fn∧fn.name≠ "runtime.NumGoroutine" ∧fn.body.isSome=true)∧
 Calls C.P f vs w (CallR C w X ρ h h' r):=by
 unfold body1 at hb;split at hb
 case h_2=>cases hb
 rename_i fi hfi;obtain⟨h1,h2,h3⟩:=hC.funs f fi hfi;obtain⟨fn,f1,f2,f3,f4⟩:=fiOf_spec h1;refine⟨⟨fn,f1,h3 fn f1,by simp[f2]⟩,?_⟩;split at hb
 case isFalse=>cases hb
 rename_i hle;refine calls_of_wp f1 f2 ?_;have hrf:=start_rf (m:=fn.ntmps) (m':=fi.ntmps) hl f3.symm hv;have fin:∀(out:Out) (s':St),exec C call fi.body (xs++List.replicate (fi.ntmps-xs.length) .un,h)=some (out,s')→(out= .normal∨out= .ret)→(resOf fi s').map (fun r=>(r,s'.2))=some (r,h')→
  fi.body.wp C.P (bodyPost C.P fn (CallR C w X ρ h h' r)) {tmps:=vs++Array.replicate (fn.ntmps-vs.size) undef,defers:=[]} w:=by
  intro out s' hex ho hres;simp only[Ze,Zg]at hres;obtain⟨r',hr',rfl,rfl⟩:=hres;refine exec_sound hC hcall hkeep fi.body h2 _ s' out hex _ w ρ _ hs hrf fun a' w' ρ' he hf' hd=>?_
  obtain⟨v,hv1,hv2⟩:=results_sound he.sim hf' f4 hr';rcases ho with rfl|rfl
  ·exact⟨hd,v,hv1,ρ',he,.inl ⟨v,rfl,hv2⟩⟩
  ·exact⟨hd,v,hv1,ρ',he,.inl ⟨v,rfl,hv2⟩⟩
 split at hb
 ·rename_i s' hex;exact fin .normal s' hex (.inl rfl) hb
 ·rename_i s' hex;exact fin .ret s' hex (.inr rfl) hb
 ·rename_i u s' hex;simp only[Zc,Zg]at hb;obtain⟨rfl,rfl⟩:=hb;refine exec_sound hC hcall hkeep fi.body h2 _ s' _ hex _ w ρ _ hs hrf fun a' w' ρ' he hf' hd=>?_
  exact⟨hd,ρ',he,.inr ⟨u,rfl,rfl⟩⟩
 ·cases hb
theorem Rp.anti {w:World}{X X':Nat→Prop}{ρ:Nat→Nat}{n:Nat}(hX:∀b,X' b→X b){v:Value}{x:AV}(h:Rp w X ρ n v x):Rp w X' ρ n v x:=by
 induction h with
 |im hi=>exact .im (hi.anti hX)
 |sl id sz off len cap k cur t fz h1 h2 h3 h4 h5 h6 h7=>exact .sl id sz off len cap k cur t fz h1 h2 h3 h4 h5 h6 h7
 |pt id off h1=>exact .pt id off h1
 |mp id h1=>exact .mp id h1
 |fn f us xs h1 h2 ih=>exact .fn f us xs h1 ih
 |ag us xs h1 h2 h3 ih=>exact .ag us xs h1 h2 ih
 |tp us xs h1 h2 ih=>exact .tp us xs h1 ih
theorem Sim.outc {G:Nat→Option (List Value)}{w:World}{X:Nat→Prop}{ρ:Nat→Nat}{h:Hp}(hs:Sim G w X ρ h){id:Nat}{cs:List AV}(hid:rowOf h id=some cs):¬X (ρ id):=by
 unfold rowOf at hid;split at hid
 ·rename_i cs' hi;exact hs.out id ⟨_,hi,rfl⟩
 ·rename_i cs' hi;exact fun hx=>hs.cold id _ hi (.inl hx)
 ·rename_i cs' hi;exact hs.out id ⟨_,hi,rfl⟩
 ·cases hid
theorem snap_sound {G:Nat→Option (List Value)}{w:World}{X:Nat→Prop}{ρ:Nat→Nat}{h:Hp}(hs:Sim G w X ρ h):∀(n:Nat) (v:Value) (x y:AV),Rp w (tot X ρ h) ρ h.length v x→snap h n x=some y→Ri w X v y:=by
 have base:∀{v:Value} {x:AV},Rp w (tot X ρ h) ρ h.length v x→(match x with| .sc _| .ls .. | .rp .. =>true|_=>false)=true→Ri w X v x:=by
  intro v x hr hx;cases hr with
  |im hi=>exact hi.anti fun b=> .inl
  |_=>simp at hx
 intro n
 induction n with
 |
  zero=>
  intro v x y hr hy;cases x<;>simp only[snap,Zc]at hy<;>first|(subst hy;exact base hr rfl)|cases hy
 |
  succ n ih=>
  intro v x y hr hy;cases x with
  |sc u=>simp only[snap,Zc]at hy;subst hy;exact base hr rfl
  |ls sz rows z=>simp only[snap,Zc]at hy;subst hy;exact base hr rfl
  |rp row j=>simp only[snap,Zc]at hy;subst hy;exact base hr rfl
  |
   pt id off=>
   simp only[snap]at hy;split at hy
   case h_2=>cases hy
   rename_i cs hid;simp only[Ze]at hy;obtain⟨ys,hys,rfl⟩:=hy;obtain⟨rfl,_⟩:=hr.pt_inv;obtain⟨cur,t,fz,us,d1,d3⟩:=hs.cells hid;obtain⟨m1,m2⟩:=mapM_get hys;have hcell:∀(k:Nat) (y:AV),ys[k]?=some y→cur[k]?=some (us k)∧(us k).oneCell'=true∧Ri w X (us k) y:=by
    intro k y hk;have hkl:k<cs.length:=by have:=(Za.1 hk).1;omega
    obtain⟨b,hb,hsn⟩:=m2 k _ (Zb hkl);rw[hk]at hb;cases hb;have h3:=d3 k _ (Zb hkl);exact⟨h3.1,h3.2.1,ih _ _ _ h3.2.2 hsn⟩
   have:=Ri.rp (w:=w) (X:=X) (ρ id) 0 off ys us cur t fz (hs.outc hid) d1 (fun k y hk=>by rw[Nat.zero_add];exact⟨(hcell k y hk).1,(hcell k y hk).2.1⟩) (fun k y hk=>(hcell k y hk).2.2);simpa using this
  |
   ag xs=>
   simp only[snap,Ze]at hy;obtain⟨ys,hys,rfl⟩:=hy;obtain⟨us,rfl,h1,h2,h3⟩:=hr.ag_inv;obtain⟨m1,m2⟩:=mapM_get hys;refine .ag us ys (by omega) h2 fun k y hk=>?_
   have hkl:k<xs.length:=by have:=(Za.1 hk).1;omega
   obtain⟨b,hb,hsn⟩:=m2 k _ (Zb hkl);rw[hk]at hb;cases hb;exact ih _ _ _ (h3 k _ (Zb hkl)) hsn
  |
   tp xs=>
   simp only[snap,Ze]at hy;obtain⟨ys,hys,rfl⟩:=hy;obtain⟨us,rfl,h1,h3⟩:=hr.tp_inv;obtain⟨m1,m2⟩:=mapM_get hys;refine .tp us ys (by omega) fun k y hk=>?_
   have hkl:k<xs.length:=by have:=(Za.1 hk).1;omega
   obtain⟨b,hb,hsn⟩:=m2 k _ (Zb hkl);rw[hk]at hb;cases hb;exact ih _ _ _ (h3 k _ (Zb hkl)) hsn
  |
   fn f xs=>
   simp only[snap,Ze]at hy;obtain⟨ys,hys,rfl⟩:=hy;obtain⟨us,rfl,h1,h3⟩:=hr.fn_inv;obtain⟨m1,m2⟩:=mapM_get hys;refine .fn f us ys (by omega) fun k y hk=>?_
   have hkl:k<xs.length:=by have:=(Za.1 hk).1;omega
   obtain⟨b,hb,hsn⟩:=m2 k _ (Zb hkl);rw[hk]at hb;cases hb;exact ih _ _ _ (h3 k _ (Zb hkl)) hsn
  |
   sl id sz off len kk=>
   simp only[snap]at hy;split at hy
   case h_2=>cases hy
   rename_i cs hid;split at hy
   case isFalse=>cases hy
   rename_i hle;simp only[Ze]at hy;obtain⟨ys,hys,rfl⟩:=hy;obtain⟨cap,cur0,t0,fz,rfl,c1,c2,c3,_,_,c4,c5⟩:=hr.sl_inv;obtain⟨cur,t1,fz1,us,d1,d3⟩:=hs.cells hid;obtain⟨m1,m2⟩:=mapM_get hys;have hylen:ys.length=len*sz:=by rw[m1];simp;omega
   have hrow:∀(i:Nat) (row:List AV),((List.range len).map fun i=>(ys.drop (i*sz)).take sz)[i]?=some row→i<len∧row=(ys.drop (i*sz)).take sz:=by
    intro i row hr';simp only[Zs,Ze]at hr';obtain⟨k,hk,rfl⟩:=hr';have hil:i<len:=by have:=(Za.1 hk).1;simpa using this
    rw[List.getElem?_range hil]at hk;cases hk;exact⟨hil,rfl⟩
   have hcell:∀(i:Nat) (row:List AV) (j:Nat) (x:AV),((List.range len).map fun i=>(ys.drop (i*sz)).take sz)[i]?=some row→row[j]?=some x→j<sz∧i*sz+j<len*sz∧ys[i*sz+j]?=some x:=by
    intro i row j x hr' hx;obtain⟨hil,rfl⟩:=hrow i row hr';rw[List.getElem?_take]at hx;split at hx
    ·rename_i hj;rw[List.getElem?_drop]at hx;refine⟨hj,?_,hx⟩;have:=(Za.1 hx).1;omega
    ·cases hx
   have hval:∀(k:Nat) (y:AV),ys[k]?=some y→k<len*sz→cur[off+k]?=some (us (off+k))∧(us (off+k)).oneCell'=true∧Ri w X (us (off+k)) y:=by
    intro k y hk hkl;have hcs:((cs.drop off).take (len*sz))[k]?=cs[off+k]?:=by
     rw[List.getElem?_take,if_pos hkl,List.getElem?_drop]
    have hkc:off+k<cs.length:=by omega
    obtain⟨b,hb,hsn⟩:=m2 k cs[off+k] (by rw[hcs,Zb hkc]);rw[hk]at hb;cases hb;have h3:=d3 (off+k) _ (Zb hkc);exact⟨h3.1,h3.2.1,ih _ _ _ h3.2.2 hsn⟩
   refine .ls (ρ id) off len cap sz _ false (fun i j=>us (off+(i*sz+j))) cur t1 fz1 (hs.outc hid) d1 (by simp) c4 c5 (fun h=>by cases h) ?_ ?_ ?_
   ·intro i row hr';obtain⟨hil,rfl⟩:=hrow i row hr';have:(i+1)*sz≤len*sz:=Zx _ hil;rw[Nat.add_mul]at this;simp;omega
   ·intro i row j x hr' hx;obtain⟨_,q2,q3⟩:=hcell i row j x hr' hx;have:=hval _ _ q3 q2;exact⟨by rw[←this.1];congr 1;omega,this.2.1⟩
   ·intro i row j x hr' hx;obtain⟨_,q2,q3⟩:=hcell i row j x hr' hx;exact(hval _ _ q3 q2).2.2
  |_=>simp[snap]at hy
theorem rowOf_mask {ids:List Nat}{h:Hp}{id:Nat}{cs:List AV}(hr:rowOf (mask ids h) id=some cs):rowOf h id=some cs:=by
 unfold rowOf at hr⊢;have key:∀b,(mask ids h)[id]?=some b→b≠ .dead→h[id]?=some b:=by
  intro b hb hd;unfold mask at hb;simp only[Zs,Ze]at hb;obtain⟨k,hk,hb⟩:=hb;have hkl:id<h.length:=by have:=(Za.1 hk).1;simpa using this
  rw[List.getElem?_range hkl]at hk;cases hk;split at hb
  ·simp only[List.getD,Zb hkl,Option.getD_some]at hb;rw[Zb hkl,hb]
  ·exact absurd hb.symm hd
 split at hr
 ·rename_i cs' hi;rw[key _ hi (by simp)];exact hr
 ·rename_i cs' hi;rw[key _ hi (by simp)];exact hr
 ·rename_i cs' hi;rw[key _ hi (by simp)];exact hr
 ·cases hr
theorem snap_mask {ids:List Nat}{h:Hp}:∀(n:Nat) (x y:AV),snap (mask ids h) n x=some y→snap h n x=some y:=by
 intro n
 induction n with
 |zero=>intro x y hs;cases x<;>simp_all [snap]
 |
  succ n ih=>
  have many:∀(xs ys:List AV),xs.mapM (snap (mask ids h) n)=some ys→xs.mapM (snap h n)=some ys:=by
   intro xs
   induction xs with
   |nil=>intro ys hm;simpa using hm
   |
    cons x xs ihx=>
    intro ys hm;simp only[Zo,Option.bind_eq_bind,Yh,Option.pure_def,Zc]at hm⊢;obtain⟨b,hb,bs,hbs,rfl⟩:=hm;exact⟨b,ih _ _ hb,bs,ihx _ hbs,rfl⟩
  intro x y hs;cases x with
  |sc u=>simpa[snap]using hs
  |ls sz rows z=>simpa[snap]using hs
  |rp row j=>simpa[snap]using hs
  |
   pt id off=>
   simp only[snap]at hs⊢;split at hs
   case h_2=>cases hs
   rename_i cs hid;rw[rowOf_mask hid];simp only[Ze]at hs⊢;obtain⟨ys,hys,rfl⟩:=hs;exact⟨ys,many _ _ hys,rfl⟩
  |
   sl id sz off len k=>
   simp only[snap]at hs⊢;split at hs
   case h_2=>cases hs
   rename_i cs hid;rw[rowOf_mask hid];simp only;split at hs
   case isFalse=>cases hs
   rename_i hle;rw[if_pos hle];simp only[Ze]at hs⊢;obtain⟨ys,hys,rfl⟩:=hs;exact⟨ys,many _ _ hys,rfl⟩
  |
   ag xs=>
   simp only[snap,Ze]at hs⊢;obtain⟨ys,hys,rfl⟩:=hs;exact⟨ys,many _ _ hys,rfl⟩
  |
   tp xs=>
   simp only[snap,Ze]at hs⊢;obtain⟨ys,hys,rfl⟩:=hs;exact⟨ys,many _ _ hys,rfl⟩
  |
   fn f xs=>
   simp only[snap,Ze]at hs⊢;obtain⟨ys,hys,rfl⟩:=hs;exact⟨ys,many _ _ hys,rfl⟩
  |_=>simp[snap]at hs
theorem freeze_get {ids:List Nat}{h h':Hp}(hz:freeze ids h=some h'):h'.length=h.length∧∀(i:Nat) (b':Blk),h'[i]?=some b'→
 (i∉ids∧h[i]?=some b')∨(i∈ids∧((∃cs cs',h[i]?=some (.row cs)∧cs.mapM (snap (mask ids h) 8)=some cs'∧b'= .ice cs')∨(h[i]?=some b'∧liveB b'=false))):=by
 unfold freeze at hz;obtain⟨m1,m2⟩:=mapM_get hz;have hl:h'.length=h.length:=by rw[m1];simp
 refine⟨hl,fun i b' hi=>?_⟩;have hil:i<h.length:=by have:=(Za.1 hi).1;omega
 obtain⟨b,hb,hf⟩:=m2 i i (by rw[List.getElem?_range hil]);rw[hi]at hb;cases hb;split at hf
 ·rename_i hc;have hmem:i∈ids:=by simpa using hc
  right;refine⟨hmem,?_⟩;split at hf
  ·rename_i cs hh;simp only[Ze]at hf;obtain⟨cs',hcs,rfl⟩:=hf;exact .inl ⟨cs,cs',hh,hcs,rfl⟩
  ·rename_i cs hh;cases hf;exact .inr ⟨hh,rfl⟩
  ·rename_i hh;cases hf;exact .inr ⟨hh,rfl⟩
  ·cases hf
 ·rename_i hc;exact .inl ⟨by simpa using hc,hf⟩
theorem freeze_sound {G:Nat→Option (List Value)}{w:World}{X:Nat→Prop}{ρ:Nat→Nat}{h h':Hp}{ids:List Nat}(hs:Sim G w X ρ h)(hz:freeze ids h=some h'):
 Ext G w X ρ h w ρ h'∧∀(n:Nat) (v:Value) (x y:AV),Rp w (tot X ρ h) ρ h.length v x→snap (mask ids h) n x=some y→Ri w (tot X ρ h') v y:=by
 obtain⟨hl,hg⟩:=freeze_get hz;have hlive:∀i,live h' i→live h i∧i∉ids:=by
  rintro i ⟨b,hi,hb⟩;rcases hg i b hi with⟨h1,h2⟩|⟨_,⟨cs,cs',_,_,rfl⟩|⟨_,h3⟩⟩
  ·exact⟨⟨b,h2,hb⟩,h1⟩
  ·cases hb
  ·rw[h3]at hb;cases hb
 have hml:(mask ids h).length=h.length:=by simp[mask]
 have hmk:∀(i:Nat) (b:Blk),(mask ids h)[i]?=some b→b≠ .dead→h[i]?=some b∧i∈ids:=by
  intro i b hb hd;unfold mask at hb;simp only[Zs,Ze]at hb;obtain⟨k,hk,hb⟩:=hb;have hkl:i<h.length:=by have:=(Za.1 hk).1;simpa using this
  rw[List.getElem?_range hkl]at hk;cases hk;split at hb
  ·rename_i hc;simp only[List.getD,Zb hkl,Option.getD_some]at hb;rw[Zb hkl,hb];exact⟨rfl,by simpa using hc⟩
  ·exact absurd hb.symm hd
 have hmlive:∀i,live (mask ids h) i→live h i∧i∈ids:=by
  rintro i ⟨b,hi,hb⟩;have:=hmk i b hi (fun e=>by subst e;cases hb);exact⟨⟨b,this.1,hb⟩,this.2⟩
 have hsub:∀b,tot (tot X ρ h') ρ (mask ids h) b→tot X ρ h b:=by
  rintro b ((hx|⟨i,hi,e⟩)|⟨i,hi,e⟩)
  ·exact .inl hx
  ·exact .inr ⟨i,(hlive i hi).1,e⟩
  ·exact .inr ⟨i,(hmlive i hi).1,e⟩
 have hsm:Sim G w (tot X ρ h') ρ (mask ids h):=by
  refine⟨?_,fun g row hgr=>?_,fun i j hi hj=>hs.inj i j (hmlive i hi).1 (hmlive j hj).1,?_,?_,?_⟩
  ·rintro b (hx|⟨i,hi,e⟩)
   ·exact hs.xlt b hx
   ·rw[←e];exact hs.lt (hlive i hi).1
  ·obtain⟨h1,h2⟩:=hs.glob g row hgr;exact⟨fun hh=>h1 (hsub g hh),h2⟩
  ·rintro i hi (hx|⟨j,hj,e⟩)
   ·exact hs.out i (hmlive i hi).1 hx
   ·have:=hs.inj j i (hlive j hj).1 (hmlive i hi).1 e;subst this;exact(hlive j hj).2 (hmlive j hi).2
  ·intro i cs hi hh;exact hs.cold i cs (hmk i _ hi (by simp)).1 (hsub _ hh)
  ·intro i b hi;by_cases hd:b= .dead
   ·subst hd;trivial
   ·have hb:=hs.blk i b (hmk i b hi hd).1;cases b with
    |dead=>exact absurd rfl hd
    |
     row cs=>
     obtain⟨cur,t,fz,us,h1,hf,h2,h3⟩:=hb;exact⟨cur,t,fz,us,h1,hf,h2,fun k x hk=>⟨(h3 k x hk).1,(h3 k x hk).2.1,by rw[hml];exact(h3 k x hk).2.2.anti hsub⟩⟩
    |
     map es clock=>
     obtain⟨ms,h1,h2,hnd,h3⟩:=hb;refine⟨ms,h1,h2,hnd,fun k e hk=>?_⟩;obtain⟨m,a1,a2,a3,a4,a5⟩:=h3 k e hk;exact⟨m,a1,a2,a3,a4,by rw[hml];exact a5.anti hsub⟩
    |
     ice cs=>
     obtain⟨cur,t,fz,us,h1,h3⟩:=hb;exact⟨cur,t,fz,us,h1,fun k x hk=>⟨(h3 k x hk).1,(h3 k x hk).2.1,(h3 k x hk).2.2.anti hsub⟩⟩
    |iter s p=>exact hb
    |
     raw cs=>
     obtain⟨cur,t,fz,us,h1,hf,h2,h3⟩:=hb;exact⟨cur,t,fz,us,h1,hf,h2,fun k x hk=>⟨(h3 k x hk).1,(h3 k x hk).2.1,by rw[hml];exact(h3 k x hk).2.2.anti hsub⟩⟩
 have hsnap:∀(n:Nat) (v:Value) (x y:AV),Rp w (tot X ρ h) ρ h.length v x→snap (mask ids h) n x=some y→Ri w (tot X ρ h') v y:=fun n v x y hr hy=>
  snap_sound hsm n v x y (by rw[hml];exact hr.anti hsub) hy
 refine⟨ext_less hs h' hl fun i b' hi=>?_,hsnap⟩;rcases hg i b' hi with⟨_,h2⟩|⟨_,⟨cs,cs',h1,h2,rfl⟩|⟨h1,_⟩⟩
 ·exact .inr (.inl h2)
 ·refine .inr (.inr ⟨cs',rfl,⟨_,h1,rfl⟩,?_⟩);obtain⟨cur,t,fz,us,d1,_,_,d3⟩:=hs.row i cs h1;obtain⟨m1,m2⟩:=mapM_get h2;refine⟨cur,t,fz,us,d1,fun k y hk=>?_⟩;have hkl:k<cs.length:=by have:=(Za.1 hk).1;omega
  obtain⟨b,hb,hsn⟩:=m2 k _ (Zb hkl);rw[hk]at hb;cases hb;have h3:=d3 k _ (Zb hkl);exact⟨h3.1,h3.2.1,hsnap 8 _ _ _ h3.2.2 hsn⟩
 ·exact .inr (.inl h1)
theorem snap_calm {h:Hp}{n:Nat}{x y:AV}(hc:calm x=true)(hs:snap h (n+1) x=some y):y=x:=by
 have comps:∀(xs ys:List AV),(xs.all fun| .sc _| .ls .. | .rp .. =>true|_=>false)=true→xs.mapM (snap h n)=some ys→ys=xs:=by
  intro xs
  induction xs with
  |nil=>intro ys _ hm;simp at hm;exact hm
  |
   cons x xs ih=>
   intro ys hall hm;simp only[Zn,Zh]at hall;simp only[Zo,Option.bind_eq_bind,Yh,Option.pure_def,Zc]at hm;obtain⟨b,hb,bs,hbs,rfl⟩:=hm;rw[ih bs hall.2 hbs];have:b=x:=by
    cases x<;>simp at hall<;>(cases n<;>simp only[snap,Zc]at hb<;>exact hb.symm)
   rw[this]
 unfold calm at hc;split at hc
 ·simp only[snap,Zc]at hs;exact hs.symm
 ·simp only[snap,Zc]at hs;exact hs.symm
 ·simp only[snap,Zc]at hs;exact hs.symm
 ·simp only[snap,Ze]at hs;obtain⟨ys,hys,rfl⟩:=hs;rw[comps _ _ hc hys]
 ·simp only[snap,Ze]at hs;obtain⟨ys,hys,rfl⟩:=hs;rw[comps _ _ hc hys]
 ·cases hc
end Go.Ae
