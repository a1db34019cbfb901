/- The abstract evaluator, part 12: calls that defer, that sort a map's keys, that are pure: the theorem. -/
import Derived.Test.YtadaeokidcgdlaaGreatDoorP10
import Derived.Defers
set_option linter.unusedSimpArgs false
namespace Go.Ae
open Go
def RcvOK (C:Cx)(g:FuncId)(T:TypeId):Prop:=
 (∃fn,C.P.funcs[g]?=some fn∧fn.name≠ "runtime.NumGoroutine" ∧fn.body.isSome=true)∧
 (∀(w:World) (p:Nat),CallsD C.P g #[.pointer (some ⟨p,0,none⟩)] .returning w (fun e u' w'=>(∃v,e= .returned v)∧u'= .returning∧w'=w))∧
 ∀(w:World) (p:Nat) (cur:Array Value) (t:TypeId) (fz:Nat × Nat),w.heap[p]?=some (.cells cur t fz)→Fz fz cur→0<cur.size→
  ∀k n,CallsD C.P g #[.pointer (some ⟨p,0,none⟩)] (.panicking [{v:= .iface T (.int k n),recovered:=false}]) w
   (fun e u' w'=>(∃v,e= .returned v)∧u'= .panicking [{v:= .iface T (.int k n),recovered:=true}]∧w'=w.setRow p (cur.setIfInBounds 0 (.int k n)))
def deferred (a:Act)(d:Tmp)(x:Operand)(g:FuncId):Act:=
 {a with tmps:=a.tmps.setIfInBounds d (.func (.func g) #[] #[a.eval x]),defers:={target:= .fn (.func g) #[a.eval x],args:= #[]}::a.defers}
theorem deferOf_wp {C:Cx}{c:Code}{d:Tmp}{x:Operand}{T:TypeId}{rest:Code}(h:deferOf C c=some (d,x,T,rest)):
 ∃g,C.rcv g=some T∧(codeOk C c=true→codeOk C rest=true)∧∀(a:Act) (w:World) (Q:Exit→Act→World→Prop),d<a.tmps.size→rest.wp C.P Q (deferred a d x g) w→c.wp C.P Q a w:=by
 unfold deferOf at h;split at h
 case h_2=>cases h
 rename_i rid ops rest';split at h
 case h_2=>cases h
 rename_i d1 g first caps ty1 pos1 after1 d2 args tys ty2 pos2 after2 hops
 split at h
 case h_2=>cases h
 rename_i T' x' hT hx;split at h
 case isFalse=>cases h
 rename_i hc;simp only[Zc,Zg]at h;obtain⟨rfl,rfl,rfl,rfl⟩:=h;simp only[Zh,Zz]at hc;obtain⟨⟨rfl,hf⟩,ha⟩:=hc;refine⟨g,hT,fun hk=>by simp only[codeOk,Bool.true_and]at hk;exact hk,fun a w Q hd hw=>?_⟩;refine wp_seq (wp_region ?_);have hcap:caps= #[x']:=by apply Array.ext';simpa using hx
 have hfe:first= #[]:=by simpa using hf
 have hae:args= #[]:=by simpa using ha
 subst hcap hfe hae;obtain⟨opl⟩:=ops;simp only at hops;subst hops;have e1:(execOp a.eval {dst:=some d1,op:=Op.makeFunc (Fn.func g) #[] #[x'],type:=ty1,pos:=pos1,after:=after1,guard:=none}).run C.P w= .ok (.value (.func (.func g) #[] #[a.eval x'])) w:=by
  simp[execOp,Instr.makeFunc]
 have e2:∀a1:Act,a1.eval (.tmp d1)= .func (.func g) #[] #[a.eval x']→(execOp a1.eval {dst:=none,op:=Op.defer {callee:=Callee.value (Operand.tmp d1),args:= #[],argTypes:=tys},type:=ty2,pos:=pos2,after:=after2,guard:=none}).run C.P w=
  .ok (.defer {target:= .fn (.func g) #[a.eval x'],args:= #[]}) w:=fun a1 h1=>by
  simp[execOp,resolve,h1,Deferred.ofValue]
 show wpOps C.P _ _ [0,1] a w;simp only[wpOps,List.getElem?_toArray,Ye,Yd,Region.wanted,if_true];refine .inl ?_;unfold Oper.wp;rw[e1,Oper.upon_value];refine .inl ?_;rw[e2 _ (by simp[Act.put,Act.eval,hd]),Oper.upon_defer];exact hw
def preWp (C:Cx)(K:Act→World→Prop)(Q:Exit→Act→World→Prop):List Code→Act→World→Prop
 | [],a,w=>K a w
 |p::ps,a,w=>p.wp C.P (Exit.then (preWp C K Q ps) Q) a w
theorem splitD_wp {C:Cx}:∀{c:Code} {pre:List Code} {d:Tmp} {x:Operand} {T:TypeId} {rest:Code},splitD C c=some (pre,d,x,T,rest)→
 ∃g,C.rcv g=some T∧(codeOk C c=true→(∀p∈pre,codeOk C p=true)∧codeOk C rest=true)∧∀(a:Act) (w:World) (Q:Exit→Act→World→Prop),
  preWp C (fun a' w'=>d<a'.tmps.size∧rest.wp C.P Q (deferred a' d x g) w') Q pre a w→c.wp C.P Q a w
 |
  .seq p q,pre,d,x,T,rest,h=>by
  simp only[splitD]at h;split at h
  ·rename_i d' x' T' rest' h1;simp only[Zc,Zg]at h;obtain⟨rfl,rfl,rfl,rfl,rfl⟩:=h;obtain⟨g,g1,g2,g3⟩:=deferOf_wp h1;refine⟨g,g1,fun hk=>?_,fun a w Q hw=>?_⟩
   ·simp only[codeOk,Zh]at hk;exact⟨fun p' hp=>by simp at hp;subst hp;exact hk.1,g2 hk.2⟩
   ·refine wp_seq (wp_mono hw ?_);intro e a' w' he;cases e with
    |normal=>exact g3 a' w' Q he.1 he.2
    |_=>exact he
  ·split at h
   ·rename_i pre' d' x' T' rest' h1;simp only[Zc,Zg]at h;obtain⟨rfl,rfl,rfl,rfl,rfl⟩:=h;obtain⟨g,g1,g2,g3⟩:=splitD_wp h1;refine⟨g,g1,fun hk=>?_,fun a w Q hw=>?_⟩
    ·simp only[codeOk,Zh]at hk⊢;refine⟨fun p' hp=>?_,(g2 hk.2).2⟩;rcases List.mem_cons.1 hp with rfl|hp
     ·exact hk.1
     ·exact(g2 hk.2).1 p' hp
    ·refine wp_seq (wp_mono hw ?_);intro e a' w' he;cases e with
     |normal=>exact g3 a' w' Q he
     |_=>exact he
   ·cases h
 | .skip,_,_,_,_,_,h| .region ..,_,_,_,_,_,h| .cond ..,_,_,_,_,_,h| .block ..,_,_,_,_,_,h| .loop ..,_,_,_,_,_,h| .label ..,_,_,_,_,_,h| .exit ..,_,_,_,_,_,h| .ret,_,_,_,_,_,h=>by simp[splitD]at h
 | .goto _,_,_,_,_,_,h=>by simp[splitD]at h
section defers
variable {C : Cx} {call : Bool → FuncId → List AV → Hp → Option (AV × Hp)}
theorem execL_sound (hC:CxOk C)(hcall:∀b,CallOK C (call b))(hkeep:∀g xs h r h',C.inl g=false→call false g xs h=some (r,h')→h'=h){X:Nat→Prop}{K:Act→World→Prop}{Q:Exit→Act→World→Prop}:
 ∀(cs:List Code),(∀c∈cs,codeOk C c=true)→∀(s s':St) (out:Out),execL C call cs s=some (out,s')→∀(a:Act) (w:World) (ρ:Nat→Nat),Sim C.G w X ρ s.2→RF w (tot X ρ s.2) ρ s.2.length a.tmps s.1→
  (∀a' w' ρ',Ext C.G w X ρ s.2 w' ρ' s'.2→RF w' (tot X ρ' s'.2) ρ' s'.2.length a'.tmps s'.1→a'.defers=a.defers→Exit.then K Q (exitOf out) a' w')→preWp C K Q cs a w
 |
  [],_,s,s',out,he,a,w,ρ,hs,hf,hQ=>by
  simp only[execL,Zc,Zg]at he;obtain⟨rfl,rfl⟩:=he;exact hQ a w ρ (Ext.refl hs) hf rfl
 |
  c::cs,hok,s,s',out,he,a,w,ρ,hs,hf,hQ=>by
  simp only[execL]at he;split at he
  ·rename_i s1 h1;refine exec_sound hC hcall hkeep c (hok c (by simp)) s s1 .normal h1 a w ρ _ hs hf fun a1 w1 ρ1 e1 f1 d1=>?_
   exact execL_sound hC hcall hkeep cs (fun c' hc=>hok c' (by simp[hc])) s1 s' out he a1 w1 ρ1 e1.sim f1 fun a2 w2 ρ2 e2 f2 d2=>hQ a2 w2 ρ2 (e1.trans e2) f2 (d2.trans d1)
  ·rename_i hn;refine exec_sound hC hcall hkeep c (hok c (by simp)) s s' out he a w ρ _ hs hf fun a1 w1 ρ1 e1 f1 d1=>?_
   have:=hQ a1 w1 ρ1 e1 f1 d1;cases out with
   |normal=>exact absurd he (by intro h;exact hn s' h)
   |exit id=>exact this
   |ret=>exact this
   |pan u=>exact this
theorem bodyD_sound (hC:CxOk C)(hR:∀g T,C.rcv g=some T→RcvOK C g T)(hcall:∀b,CallOK C (call b))(hkeep:∀g xs h r h',C.inl g=false→call false g xs h=some (r,h')→h'=h){f:FuncId}{xs:List AV}{h h':Hp}{r:AV}
 (hb:bodyD C call f xs h=some (r,h')) (w:World) (X:Nat→Prop) (ρ:Nat→Nat) (vs:Array Value) (hs:Sim C.G w X ρ h) (hl:vs.size=xs.length)
 (hv:∀(k:Nat) (x:AV),xs[k]?=some x→Rp w (tot X ρ h) ρ h.length (vs.getD k undef) x):
 (∃fn,C.P.funcs[f]?=some fn∧fn.name≠ "runtime.NumGoroutine" ∧fn.body.isSome=true)∧
 Calls C.P f vs w (CallR C w X ρ h h' r):=by
 unfold bodyD at hb;split at hb
 case h_2=>cases hb
 rename_i fi hfi;obtain⟨h1,h2,h3⟩:=hC.funs f fi hfi;obtain⟨fn,f1,f2,f3,f4⟩:=fiOf_spec h1;refine⟨⟨fn,f1,h3 fn f1,by simp[f2]⟩,?_⟩;split at hb
 case isFalse=>cases hb
 split at hb
 case h_2=>cases hb
 rename_i pre d x T rest hsp;obtain⟨g,g1,g2,g3⟩:=splitD_wp hsp;obtain⟨ok1,ok2⟩:=g2 h2;refine calls_of_wp_defers f1 f2 (g3 _ _ _ ?_);have hrf:=start_rf (m:=fn.ntmps) (m':=fi.ntmps) hl f3.symm hv;split at hb
 ·
  rename_i s hex;simp only[Ze,Zg]at hb;obtain⟨r',hr',rfl,rfl⟩:=hb;refine execL_sound hC hcall hkeep pre ok1 _ s _ hex _ w ρ hs hrf fun a' w' ρ' he hf' hd=>?_
  obtain⟨v,hv1,hv2⟩:=results_sound he.sim hf' f4 hr';show Leaves C.P fn a'.tmps _ a'.defers .returning w';rw[hd];exact⟨v,hv1,ρ',he,.inl ⟨v,rfl,hv2⟩⟩
 ·rename_i s hex;split at hb
  case h_2=>cases hb
  rename_i id hx;split at hb
  case isFalse=>cases hb
  rename_i hdl;refine execL_sound hC hcall hkeep pre ok1 _ s _ hex _ w ρ hs hrf fun a1 w1 ρ1 he1 hf1 hd1=>?_
  have hxv:=ev_rp he1.sim hf1 x;rw[hx]at hxv;obtain⟨hxe,hidl⟩:=hxv.pt_inv;refine⟨by rw[hf1.1];exact hdl,?_⟩;have hf2:RF w1 (tot X ρ1 s.2) ρ1 s.2.length (deferred a1 d x g).tmps (s.1.set d .ud):=hf1.put d (.im (.ud _));have hds:(deferred a1 d x g).defers=[{target:= .fn (.func g) #[.pointer (some ⟨ρ1 id,0,none⟩)],args:= #[]}]:=by
   simp only[deferred,hd1,hxe]
  obtain⟨⟨gn,n1,n2,n3⟩,hrc⟩:=hR g T g1;have hinv:∀w':World,(invoke (.fn (.func g) #[.pointer (some ⟨ρ1 id,0,none⟩)]) #[]).run C.P w'= .ok (.enter g #[.pointer (some ⟨ρ1 id,0,none⟩)]) w':=fun w'=>by
   have hbn:gn.body.isNone=false:=by cases hq:gn.body<;>simp_all
   simp only[invoke,callFunc,Sem.run_bind,run_program,Result.andThen_ok,n1,Array.empty_append];simp[n2,hbn]
  have quiet:∀(out:Out) (s':St),exec C call rest (s.1.set d .ud,s.2)=some (out,s')→(out= .normal∨out= .ret)→(resOf fi s').map (fun r=>(r,s'.2))=some (r,h')→
   rest.wp C.P (bodyPostD C.P fn (CallR C w X ρ h h' r)) (deferred a1 d x g) w1:=by
   intro out s' hex' ho hres;simp only[Ze,Zg]at hres;obtain⟨r',hr',rfl,rfl⟩:=hres;refine exec_sound hC hcall hkeep rest ok2 _ s' out hex' _ w1 ρ1 _ he1.sim hf2 fun a2 w2 ρ2 he2 hf3 hd2=>?_
   have hq:Leaves C.P fn a2.tmps (CallR C w X ρ h s'.2 r') a2.defers .returning w2:=by
    rw[hd2,hds];refine leaves_cons (by simp) (hinv w2) ((hrc.1 w2 _).mono ?_);rintro e u' w' ⟨⟨v0,rfl⟩,rfl,rfl⟩;obtain⟨v,hv1,hv2⟩:=results_sound he2.sim hf3 f4 hr';exact⟨v,hv1,ρ2,he1.trans he2,.inl ⟨v,rfl,hv2⟩⟩
   rcases ho with rfl|rfl
   ·exact hq
   ·exact hq
  split at hb
  ·rename_i s' hex';exact quiet .normal s' hex' (.inl rfl) hb
  ·rename_i s' hex';exact quiet .ret s' hex' (.inr rfl) hb
  ·rename_i T' k n s' hex';split at hb
   case h_2=>cases hb
   rename_i c0 hrow;split at hb
   case isFalse=>cases hb
   rename_i hTT;subst hTT;simp only[Ze,Zg]at hb;obtain⟨r',hr',rfl,rfl⟩:=hb;refine exec_sound hC hcall hkeep rest ok2 _ s' _ hex' _ w1 ρ1 _ he1.sim hf2 fun a2 w2 ρ2 he2 hf3 hd2=>?_
   show Leaves C.P fn a2.tmps _ a2.defers (.panicking [{v:= .iface T (.int k n),recovered:=false}]) w2;rw[hd2,hds];obtain⟨cur,t,fz,us,c1,hfz,c2,c3⟩:=he2.sim.row id _ hrow;have hre:ρ2 id=ρ1 id:=he2.rho id hidl;have hpos:0<cur.size:=by simp at c2;omega
   rw[hre]at c1;refine leaves_cons (by simp) (hinv w2) ((hrc.2 w2 _ cur t fz c1 hfz hpos k n).mono ?_);rintro e u' w' ⟨⟨v0,rfl⟩,rfl,rfl⟩;have hext:Ext C.G w2 X ρ2 s'.2 (w2.setRow (ρ1 id) (cur.setIfInBounds 0 (.int k n))) ρ2 (s'.2.set id (.row [.sc (.int k n)])):=by
    rw[←hre]at c1⊢;refine ext_write (w':=w2.setRow (ρ2 id) (cur.setIfInBounds 0 (.int k n))) he2.sim id _ hrow cur (cur.setIfInBounds 0 (.int k n)) t fz hfz c1 rfl rfl rfl (by simp[World.setRow]) (setRow_heap w2 (ρ2 id) cur _ t fz c1) (by simp) (fun b hb=>setRow_other w2 (ρ2 id) b _ hb) _ (fun _=> .int k n) (by simp;omega) (fun j y hj=>?_);cases j with
    |
     zero=>
     simp at hj;subst hj;exact⟨by simp[hpos],rfl,.im (.sc _ rfl)⟩
    |succ j=>simp at hj
   have hfr:RF (w2.setRow (ρ1 id) (cur.setIfInBounds 0 (.int k n))) (tot X ρ2 (s'.2.set id (.row [.sc (.int k n)]))) ρ2 (s'.2.set id (.row [.sc (.int k n)])).length a2.tmps s'.1:=hext.rf hf3;obtain⟨v,hv1,hv2⟩:=results_sound (s:=(s'.1,s'.2.set id (.row [.sc (.int k n)]))) hext.sim hfr f4 hr';exact⟨v,hv1,ρ2,(he1.trans he2).trans hext,.inl ⟨v,rfl,hv2⟩⟩
  ·cases hb
 ·cases hb
end defers
def GOK (G:Nat→Option (List Value))(w:World)(X:Nat→Prop):Prop:=
 ∀(g:Nat) (row:List Value),G g=some row→¬X g∧∃(cur:Array Value) (t:TypeId) (fz:Nat × Nat),w.heap[g]?=some (.cells cur t fz)∧∀(k:Nat) (v:Value),row[k]?=some v→∃u,cur[k]?=some u∧u.oneCell'=true∧gok v u
def PureOK (C:Cx)(f:FuncId)(xs:List AV)(r:AV):Prop:=
 ∀(w:World) (X:Nat→Prop) (vs:Array Value),(∀b,X b→b<w.heap.size)→GOK C.G w X→vs.size=xs.length→(∀(k:Nat) (x:AV),xs[k]?=some x→Ri w X (vs.getD k undef) x)→
  (∃fn,C.P.funcs[f]?=some fn∧fn.name≠ "runtime.NumGoroutine" ∧fn.body.isSome=true)∧
  Calls C.P f vs w (fun e w'=>∃v,e= .returned v∧Step w none' w' none'∧Ri w' X v r)
def SortOK (C:Cx)(f g:FuncId):Prop:=
 (∃fn,C.P.funcs[f]?=some fn∧fn.name≠ "runtime.NumGoroutine" ∧fn.body.isSome=true)∧
 ∀(w:World) (bx id:Nat) (ms:Array MapEntry) (clock:Nat) (ks:List ByteArray),w.cell? ⟨bx,0,none⟩=some (.map (some id))→w.heap[id]?=some (.map ms clock)→
  (∀x∈ms.toList,x.born<clock)→(ms.toList.map (·.born)).Nodup→ms.toList.map (·.key)=ks.map .string→ks.Nodup→(∀k∈ks,k.size≤maxLen)→ks.length≤1000000→
  Calls C.P f #[.func (.func g) #[] #[.pointer (some ⟨bx,0,none⟩)]] w (fun e w'=>∃v,e= .returned v∧Step w none' w' none'∧
   ((
    ks=[]∧v= .slice none 0 0)∨ks≠ []∧∃(B cap:Nat) (cur:Array Value) (t:TypeId),v= .slice (some ⟨B,0,none⟩) ks.length cap∧w.heap.size≤B∧w'.heap[B]?=some (.cells cur t (0,0))∧ks.length≤cap∧cap≤maxLen∧cur.size=cap∧
    ∀(k:Nat) (s:ByteArray),(sortS ks)[k]?=some s→cur[k]?=some (.string s)))
def InsOK (C:Cx)(f:FuncId)(sz bytes:Nat):Prop:=
 0<sz∧0<bytes∧
 (∃fn,C.P.funcs[f]?=some fn∧fn.name≠ "runtime.NumGoroutine" ∧fn.body.isSome=true)∧
 ∀(w:World) (base:Option Addr) (n cap i:Nat) (vb vc:Nat) (olds vs:List Value) (vcur:Array Value) (vt:TypeId) (vf:Nat × Nat),
  olds.length=n*sz→vs.length=sz→i≤n→n≤cap→cap≤maxLen→n+1≤1000000000000000→(n+1)*bytes≤140737488355328→(∀u∈olds,u.oneCell'=true)→(∀u∈vs,u.oneCell'=true)→
  w.heap[vb]?=some (.cells vcur vt vf)→Fz vf vcur→(∀(k:Nat) (u:Value),vs[k]?=some u→vcur[k]?=some u)→
  ((n=0∧cap=0)∨∃(b:Nat) (cur:Array Value) (t:TypeId) (fz:Nat × Nat),base=some ⟨b,0,none⟩∧b≠vb∧w.heap[b]?=some (.cells cur t fz)∧Fz fz cur∧cap*sz=cur.size∧∀(k:Nat) (u:Value),olds[k]?=some u→cur[k]?=some u)→
  Calls C.P f #[.slice base n cap,.int .i64 i,.slice (some ⟨vb,0,none⟩) 1 vc] w (fun e w'=>∃(B cap':Nat) (cur':Array Value) (t':TypeId) (fz':Nat × Nat),
   e= .returned (.slice (some ⟨B,0,none⟩) (n+1) cap')∧w'.heap[B]?=some (.cells cur' t' fz')∧Fz fz' cur'∧cap'*sz=cur'.size∧n+1≤cap'∧cap'≤maxLen∧
   (∀(k:Nat) (u:Value),(olds.take (i*sz)++vs++olds.drop (i*sz))[k]?=some u→cur'[k]?=some u)∧
   ((
    w.heap.size≤B∧fz'=(0,0)∧Step w none' w' none')∨(base=some ⟨B,0,none⟩∧0<cap∧w'.os=w.os∧w'.tape=w.tape∧w'.output=w.output∧w'.heap.size=w.heap.size∧(∀b,b≠B→w'.heap[b]?=w.heap[b]?)∧
    ∀(cur:Array Value) (t:TypeId) (fz:Nat × Nat),w.heap[B]?=some (.cells cur t fz)→cur'.size=cur.size)))
structure CxAll (C:Cx):Prop where
 base:CxOk C
 rcv:∀g T,C.rcv g=some T→RcvOK C g T
 srt:∀f g kt,C.srt f=some (g,kt)→SortOK C f g
 tab:∀f xs r,C.tab f xs=some r→PureOK C f xs r
 ins:∀f sz bytes,C.ins f=some (sz,bytes)→InsOK C f sz bytes
 nf:∀f w X v r,Ri w X v r→Ri w X v (C.nf f r)
theorem own_nil (ρ:Nat→Nat)(b:Nat):¬own ρ [] b:=fun⟨i,⟨_,hb,_⟩,_⟩=>by simp at hb
theorem sim_nil {G:Nat→Option (List Value)}{w:World}{X:Nat→Prop}(hX:∀b,X b→b<w.heap.size)(hG:GOK G w X)(ρ:Nat→Nat):Sim G w X ρ []:={
 xlt:=hX
 glob:=fun g row hg=>by
  obtain⟨h1,h2⟩:=hG g row hg;exact⟨fun h=>h.elim h1 (own_nil ρ g),h2⟩
 inj:=fun i j hi=>absurd ⟨i,hi,rfl⟩ (own_nil ρ (ρ i))
 out:=fun i hi=>absurd ⟨i,hi,rfl⟩ (own_nil ρ (ρ i))
 cold:=fun i cs h=>by simp at h
 blk:=fun i b h=>by simp at h}
theorem snap_pn {h:Hp}{n:Nat}{u:Value}{r:AV}(hs:snap h n (.pn u)=some r):False:=by
 cases n<;>simp[snap]at hs
theorem pure_of_body {C:Cx}{call:Bool→FuncId→List AV→Hp→Option (AV × Hp)}(hC:CxOk C)(hcall:∀b,CallOK C (call b))(hkeep:∀g xs h r h',C.inl g=false→call false g xs h=some (r,h')→h'=h){f:FuncId}{xs:List AV}{h':Hp}{r0 r:AV}
 (hb:body1 C call f xs []=some (r0,h')) {n:Nat} (hsn:snap h' n r0=some r):PureOK C f xs r:=by
 intro w X vs hX hG hl hv;have hs:=sim_nil hX hG id;obtain⟨h1,h2⟩:=body1_sound hC hcall hkeep hb w X id vs hs hl (fun k x hk=> .im ((hv k x hk).anti fun b hb=>hb.elim (fun h=>h) fun h=>absurd h (own_nil id b)));refine⟨h1,h2.mono fun e w' ⟨ρ',hx,hh⟩=>?_⟩;rcases hh with⟨v,he,hr⟩|⟨u,_,hu⟩
 ·refine⟨v,he,?_,snap_sound hx.sim n v r0 r hr hsn⟩;exact⟨hx.step.os,hx.step.tape,hx.step.output,hx.step.size,fun b hb _=>hx.step.keep b hb (own_nil id b),hx.step.row,fun _ _ h=>h⟩
 ·subst hu;exact absurd hsn (fun q=>snap_pn q)
theorem ext_adopt' {G:Nat→Option (List Value)}{w w':World}{X:Nat→Prop}{ρ:Nat→Nat}{h:Hp}(hs:Sim G w X ρ h)(hst:Step w none' w' none'){B:Nat}(hB:w.heap.size≤B){cs:List AV}
 {cur:Array Value} {t:TypeId} (hcur:w'.heap[B]?=some (.cells cur t (0,0))) (hlen:cs.length≤cur.size) (hcs:∀(k:Nat) (x:AV),cs[k]?=some x→∃u,cur[k]?=some u∧u.oneCell'=true∧Rp w (tot X ρ h) ρ h.length u x):Ext G w X ρ h w' (fun i=>if i=h.length then B else ρ i) (h++[.row cs]):=by
 have hq:=ext_quiet hs hst;have hBl:B<w'.heap.size:=heap_lt hcur;have hcase:∀(i:Nat) (b':Blk),(h++[Blk.row cs])[i]?=some b'→(i<h.length∧h[i]?=some b')∨(i=h.length∧b'= .row cs):=by
  intro i b' hi;by_cases hlt:i<h.length
  ·rw[Zd hlt]at hi;exact .inl ⟨hlt,hi⟩
  ·have he:i=h.length:=by have:i< (h++[Blk.row cs]).length:=(Za.1 hi).1;simp at this;omega
   subst he;simp at hi;exact .inr ⟨rfl,hi.symm⟩
 have hlive:∀i,live (h++[Blk.row cs]) i→(live h i∧i<h.length)∨i=h.length:=by
  rintro i ⟨b',hb',hd⟩;rcases hcase i b' hb' with⟨h1,h2⟩|⟨h1,_⟩
  ·exact .inl ⟨⟨b',h2,hd⟩,h1⟩
  ·exact .inr h1
 have hown:∀b,own (fun i=>if i=h.length then B else ρ i) (h++[Blk.row cs]) b→own ρ h b∨b=B:=by
  rintro b ⟨i,hi,e⟩;rcases hlive i hi with⟨h1,h2⟩|rfl
  ·exact .inl ⟨i,h1,by simpa[Nat.ne_of_lt h2]using e⟩
  ·exact .inr (by simpa using e.symm)
 have hstep:Step w (own ρ h) w' (own (fun i=>if i=h.length then B else ρ i) (h++[Blk.row cs])):=
  ⟨hst.os,hst.tape,hst.output,hst.size,fun b hb _=>hst.keep b hb (fun h=>h),hst.row,fun b hb hh=>(hown b hh).resolve_right (by omega)⟩
 have hrho:∀i,i<h.length→(fun i=>if i=h.length then B else ρ i) i=ρ i:=fun i hi=>by simp[Nat.ne_of_lt hi]
 have hXB:¬X B:=fun hx=>by have:=hs.xlt B hx;omega
 have hoB:∀i,live h i→ρ i≠B:=fun i hi e=>by have:=hs.lt hi;omega
 refine⟨⟨hq.sim.xlt,fun g row hg=>?_,?_,?_,?_,?_⟩,hrho,by simp,hstep⟩
 ·obtain⟨h1,c,t',fz',h2,h3⟩:=hs.glob g row hg;refine⟨fun hh=>h1 (hstep.kept.less g (heap_lt h2) hh),c,t',fz',(hst.keep g (heap_lt h2) (fun h=>h)).trans h2,h3⟩
 ·intro i j hi hj hij;rcases hlive i hi with⟨hi1,hi2⟩|rfl<;>rcases hlive j hj with⟨hj1,hj2⟩|rfl
  ·simp[Nat.ne_of_lt hi2,Nat.ne_of_lt hj2]at hij;exact hs.inj i j hi1 hj1 hij
  ·simp[Nat.ne_of_lt hi2]at hij;exact absurd hij (hoB i hi1)
  ·simp[Nat.ne_of_lt hj2]at hij;exact absurd hij.symm (hoB j hj1)
  ·rfl
 ·intro i hi hx;rcases hlive i hi with⟨hi1,hi2⟩|rfl
  ·simp[Nat.ne_of_lt hi2]at hx;exact hs.out i hi1 hx
  ·simp at hx;exact hXB hx
 ·intro i cs' hi hh;rcases hcase i _ hi with⟨hlt,hi'⟩|⟨_,e⟩
  ·have h2:=(hs.blk i _ hi').lt (by simp);simp only[Nat.ne_of_lt hlt,if_false]at hh;exact hs.cold i cs' hi' (hstep.kept.less _ h2 hh)
  ·cases e
 ·intro i b' hi;rcases hcase i b' hi with⟨hlt,hi'⟩|⟨rfl,rfl⟩
  ·simp only[Nat.ne_of_lt hlt,if_false];have hb:=hs.blk i b' hi';by_cases hd:b'= .dead
   ·subst hd;trivial
   ·rw[hst.keep _ (hb.lt hd) (fun h=>h)];exact hb.step hstep hrho (by simp)
  ·simp only[if_true];refine⟨cur,t,(0,0),fun k=>cur.getD k undef,hcur,.inl rfl,hlen,fun k x hk=>?_⟩;obtain⟨u,hu,hfu,hru⟩:=hcs k x hk;have:cur.getD k undef=u:=by rw[Zr,hu];rfl
   simp only[this];exact⟨hu,hfu,hru.step hstep hrho (by simp)⟩
theorem ext_adopt {G:Nat→Option (List Value)}{w w':World}{X:Nat→Prop}{ρ:Nat→Nat}{h:Hp}(hs:Sim G w X ρ h)(hst:Step w none' w' none'){B:Nat}(hB:w.heap.size≤B){cs:List AV}
 {cur:Array Value} {t:TypeId} (hcur:w'.heap[B]?=some (.cells cur t (0,0))) (hlen:cs.length≤cur.size) (hcs:∀(k:Nat) (x:AV),cs[k]?=some x→∃u,x= .sc u∧flat u=true∧cur[k]?=some u):Ext G w X ρ h w' (fun i=>if i=h.length then B else ρ i) (h++[.row cs]):=
 ext_adopt' hs hst hB hcur hlen fun k x hk=>by
  obtain⟨u,rfl,hfu,hu⟩:=hcs k x hk;exact⟨u,hu,flat_one hfu,.im (.sc u hfu)⟩
theorem Ri.sc_inv {w:World}{X:Nat→Prop}{v u:Value}(h:Ri w X v (.sc u)):v=u∧flat u=true:=by
 cases h with
 |sc _ hf=>exact⟨rfl,hf⟩
theorem scalar_ri {w:World}{X X':Nat→Prop}{v:Value}{r:AV}(h:Ri w X v r)(hs:scalarRes r=true):Ri w X' v r:=by
 unfold scalarRes at hs;split at hs
 ·cases h with
  |sc _ hf=>exact .sc _ hf
 ·rename_i xs;rw[List.all_eq_true]at hs;cases h with
  |
   tp us _ h1 h2=>
   refine .tp us xs h1 fun k x hk=>?_
   have h3:=h2 k x hk;have h4:=hs x (Zi hk);cases x with
   |
    sc u=>
    obtain⟨e,hf⟩:=h3.sc_inv;rw[e];exact .sc _ hf
   |_=>simp[isSc]at h4
 ·cases hs
theorem insS_length (x:ByteArray):∀l:List ByteArray,(insS x l).length=l.length+1
 | []=>rfl
 |
  y::l=>by
  unfold insS;split
  ·rfl
  ·simp[insS_length x l]
theorem sortS_length :∀l:List ByteArray,(sortS l).length=l.length
 | []=>rfl
 |
  x::l=>by
  show(insS x (sortS l)).length=_;rw[insS_length,sortS_length l];rfl
theorem nodupS_spec :∀{l:List ByteArray},nodupS l=true→l.Nodup
 | [],_=>List.nodup_nil
 |
  x::l,h=>by
  simp only[nodupS,Zh,Bool.not_eq_true',List.any_eq_false]at h;refine List.nodup_cons.2 ⟨fun hm=>?_,nodupS_spec h.2⟩;exact h.1 x hm ((MapKept.bytes_beq x x).2 rfl)
theorem sorted_sound {C:Cx}{f g:FuncId}(hS:SortOK C f g){xs:List AV}{h h':Hp}{r:AV}(hb:sortedA h g xs=some (r,h'))(w:World)(X:Nat→Prop)(ρ:Nat→Nat)(vs:Array Value)(hs:Sim C.G w X ρ h)(hl:vs.size=xs.length)
 (hv:∀(k:Nat) (x:AV),xs[k]?=some x→Rp w (tot X ρ h) ρ h.length (vs.getD k undef) x):
 (∃fn,C.P.funcs[f]?=some fn∧fn.name≠ "runtime.NumGoroutine" ∧fn.body.isSome=true)∧Calls C.P f vs w (CallR C w X ρ h h' r):=by
 unfold sortedA at hb;split at hb
 case h_2=>cases hb
 rename_i g' b;split at hb
 case isFalse=>cases hb
 rename_i hgg;subst hgg;split at hb
 case h_2=>cases hb
 rename_i id hbx;split at hb
 case h_2=>cases hb
 rename_i es clock hid;have h0:=hv 0 _ rfl;obtain⟨us,hv0,hul,hur⟩:=h0.fn_inv;have hp:=(hur 0 _ rfl).pt_inv;have hus:us= #[.pointer (some ⟨ρ b,0,none⟩)]:=by
  apply Array.ext
  ·simpa using hul
  ·intro i h1 h2;have hi0:i=0:=by simpa using h2
   subst hi0;have:=hp.1;simp only[h1,Zr,Array.getElem?_eq_getElem,Option.getD_some]at this;simpa using this
 have hvs:vs= #[.func (.func g) #[] #[.pointer (some ⟨ρ b,0,none⟩)]]:=by
  apply Array.ext
  ·simpa using hl
  ·intro i h1 h2;have hi0:i=0:=by simpa using h2
   subst hi0;simp only[h1,Zr,Array.getElem?_eq_getElem,Option.getD_some]at hv0;rw[hv0,hus];rfl
 subst hvs;obtain⟨cur,t,fz,u0,c1,_,c2,c3⟩:=hs.row b _ hbx;obtain⟨d1,d2,d3⟩:=c3 0 _ rfl;have hm:=d3.mp_inv.1;rw[hm]at d1;obtain⟨ms,b1,b2,bnd,b3⟩:=hs.blk id _ hid;have hborn:∀x∈ms.toList,x.born<clock:=fun x hx=>by
  obtain⟨j,hj,rfl⟩:=List.getElem_of_mem hx;have hj':j<es.length:=by simp at hj;omega
  obtain⟨m,q1,_,_,q4,_⟩:=b3 j _ (Zb hj');have:ms.toList[j]=m:=by
   have h3:ms.toList[j]?=some m:=by simpa using q1
   rw[Zb hj]at h3;simpa using h3
  rw[this];exact q4
 have hkeys:∀ks,keysA es=some ks→ms.toList.map (·.key)=ks.map .string:=by
  intro ks hk;obtain⟨m1,m2⟩:=mapM_get hk;apply List.ext_getElem?;intro j;by_cases hj:j<es.length
  ·obtain⟨m,q1,q2,_⟩:=b3 j _ (Zb hj);obtain⟨k',r1,r2⟩:=m2 j _ (Zb hj);have q1':ms.toList[j]?=some m:=by simpa using q1
   rw[Zs,Zs,q1',r1];simp only[Option.map_some,q2];cases hq:es[j].1<;>simp[hq]at r2;rw[r2]
  ·rw[List.getElem?_eq_none (by simp;omega),List.getElem?_eq_none (by simp;omega)]
 have hcell:w.cell? ⟨ρ b,0,none⟩=some (.map (some (ρ id))):=by rw[cell_at c1];exact d1
 obtain⟨hfn,hcon⟩:=hS;refine⟨hfn,?_⟩;split at hb
 ·rename_i hk;simp only[Zc,Zg]at hb;obtain⟨rfl,rfl⟩:=hb;refine(hcon w (ρ b) (ρ id) ms clock [] hcell b1 hborn bnd (hkeys [] hk) List.nodup_nil (by simp) (by simp)).mono ?_;rintro e w' ⟨v,rfl,hst,hh⟩;refine⟨ρ,ext_quiet hs hst,.inl ⟨v,rfl,?_⟩⟩;rcases hh with⟨_,rfl⟩|⟨h0,B,cap,cur',t',rfl,hB,hcur,h1,h2,h3,h4⟩
  ·exact .im (.sc _ rfl)
  ·exact absurd rfl h0
 ·rename_i ks hne hk;split at hb
  case isTrue=>cases hb
  rename_i hcond;simp only[Zc,Zg]at hb;obtain⟨rfl,rfl⟩:=hb;simp only[Bool.or_eq_true,Bool.not_eq_true',Zz,not_or,Bool.not_eq_false,Zh,List.all_eq_true]at hcond;obtain⟨⟨hnd,hsz⟩,hlen⟩:=hcond;refine(hcon w (ρ b) (ρ id) ms clock ks hcell b1 hborn bnd (hkeys ks hk) (nodupS_spec hnd) hsz (by omega)).mono ?_;rintro e w' ⟨v,rfl,hst,hh⟩;rcases hh with⟨h0,_⟩|⟨_,B,cap,cur',t',rfl,hB,hcur,h1,h2,h3,h4⟩
  ·subst h0;exact absurd rfl hne
  ·have hsl:=sortS_length ks;have he:=ext_adopt (cs:=(sortS ks).map fun s=> .sc (.string s)) hs hst hB hcur (by simp;omega) (fun k x hk=>by
    simp only[Zs,Ze]at hk;obtain⟨s,hs',rfl⟩:=hk;exact⟨_,rfl,rfl,h4 k s hs'⟩)
   refine⟨_,he,.inl ⟨_,rfl,?_⟩⟩;have:=Rp.sl (w:=w') (X:=tot X (fun i=>if i=h.length then B else ρ i) (h++[Blk.row ((sortS ks).map fun s=> .sc (.string s))])) (ρ:=fun i=>if i=h.length then B else ρ i) (n:=(h++[Blk.row ((sortS ks).map fun s=> .sc (.string s))]).length)
    h.length 1 0 ks.length cap false cur' t' (0,0) (by simp) (by simpa using hcur) (by omega) (by simp) (by intro;omega) h1 h2
   simpa using this
 ·cases hb
theorem arr3 {vs:Array Value}(h:vs.size=3):vs= #[vs.getD 0 undef,vs.getD 1 undef,vs.getD 2 undef]:=by
 apply Array.ext
 ·simpa using h
 ·intro i h1 h2;have h3:i<3:=by omega
  have:i=0∨i=1∨i=2:=by omega
  rcases this with rfl|rfl|rfl<;>simp[h1,Zr]
theorem row_vals {G:Nat→Option (List Value)}{w:World}{X:Nat→Prop}{ρ:Nat→Nat}{h:Hp}(hs:Sim G w X ρ h){id:Nat}{cs:List AV}(hid:h[id]?=some (.row cs))(m:Nat)(hm:m≤cs.length):
 ∃(cur:Array Value) (t:TypeId) (fz:Nat × Nat) (vals:List Value),w.heap[ρ id]?=some (.cells cur t fz)∧Fz fz cur∧cs.length≤cur.size∧vals.length=m∧(∀u∈vals,u.oneCell'=true)∧(∀(k:Nat) (u:Value),vals[k]?=some u→cur[k]?=some u)∧
  ∀(k:Nat) (y:AV),k<m→cs[k]?=some y→Rp w (tot X ρ h) ρ h.length (vals.getD k undef) y:=by
 obtain⟨cur,t,fz,us,c1,c2,c3,c4⟩:=hs.row id cs hid;refine⟨cur,t,fz,(List.range m).map us,c1,c2,c3,by simp,fun u hu=>?_,fun k u hk=>?_,fun k y hk hy=>?_⟩
 ·simp only[Yi,List.mem_range]at hu;obtain⟨j,hj,rfl⟩:=hu;exact(c4 j _ (Zb (by omega))).2.1
 ·simp only[Zs,Ze]at hk;obtain⟨j,hj,rfl⟩:=hk;have hjl:k<m:=by have:=(Za.1 hj).1;simpa using this
  rw[List.getElem?_range hjl]at hj;cases hj;exact(c4 k _ (Zb (by omega))).1
 ·have e:((List.range m).map us).getD k undef=us k:=by simp[List.getD,List.getElem?_range hk]
  rw[e];exact(c4 k y hy).2.2
theorem ins_cells {w:World}{X:Nat→Prop}{ρ:Nat→Nat}{n:Nat}{olds vs:List Value}{oa va:List AV}(p:Nat)(hp:p≤olds.length)(h1:oa.length=olds.length)(h2:va.length=vs.length)
 (ho:∀(k:Nat) (y:AV),oa[k]?=some y→Rp w X ρ n (olds.getD k undef) y) (hv:∀(k:Nat) (y:AV),va[k]?=some y→Rp w X ρ n (vs.getD k undef) y) (o1:∀u∈olds,u.oneCell'=true) (v1:∀u∈vs,u.oneCell'=true)
 (k:Nat) (y:AV) (hk:(oa.take p++va++oa.drop p)[k]?=some y):∃u,(olds.take p++vs++olds.drop p)[k]?=some u∧u.oneCell'=true∧Rp w X ρ n u y:=by
 have hl:(oa.take p++va++oa.drop p).length=(olds.take p++vs++olds.drop p).length:=by simp;omega
 have hkl:k< (olds.take p++vs++olds.drop p).length:=by rw[←hl];exact(Za.1 hk).1
 refine⟨_,Zb hkl,?_,?_⟩
 ·have hm:=List.getElem_mem hkl;rcases Ya.1 hm with hm|hm
  ·rcases Ya.1 hm with hm|hm
   ·exact o1 _ (List.mem_of_mem_take hm)
   ·exact v1 _ hm
  ·exact o1 _ (List.mem_of_mem_drop hm)
 ·have key:∀(l m:List Value) (la ma:List AV),la.length=l.length→(∀k y,la[k]?=some y→Rp w X ρ n (l.getD k undef) y)→(∀k y,ma[k]?=some y→Rp w X ρ n (m.getD k undef) y)→∀k y,(la++ma)[k]?=some y→Rp w X ρ n ((l++m).getD k undef) y:=by
   intro l m la ma e q1 q2 k y hy;by_cases hk:k<la.length
   ·rw[Zd hk]at hy;rw[List.getD,Zd (by omega)];exact q1 k y hy
   ·rw[Zf (by omega)]at hy;rw[List.getD,Zf (by omega),←e];exact q2 _ y hy
  have:=key (olds.take p++vs) (olds.drop p) (oa.take p++va) (oa.drop p) (by simp;omega) (key _ _ _ _ (by simp;omega) (fun k y hy=>by
   rw[List.getElem?_take]at hy;split at hy
   ·rename_i hkp;rw[List.getD,List.getElem?_take,if_pos hkp];exact ho k y hy
   ·cases hy) hv) (fun k y hy=>by
   rw[List.getElem?_drop]at hy;rw[List.getD,List.getElem?_drop];exact ho _ y hy) k y hk
  rwa [List.getD,Zb hkl]at this
theorem ins_sound {C:Cx}{f:FuncId}{sz bytes:Nat}(hI:InsOK C f sz bytes){xs:List AV}{h h':Hp}{r:AV}(hb:insA sz bytes h xs=some (r,h'))(w:World)(X:Nat→Prop)(ρ:Nat→Nat)(vs:Array Value)(hs:Sim C.G w X ρ h)(hl:vs.size=xs.length)
 (hv:∀(k:Nat) (x:AV),xs[k]?=some x→Rp w (tot X ρ h) ρ h.length (vs.getD k undef) x):
 (∃fn,C.P.funcs[f]?=some fn∧fn.name≠ "runtime.NumGoroutine" ∧fn.body.isSome=true)∧Calls C.P f vs w (CallR C w X ρ h h' r):=by
 obtain⟨hsz,hby,hfn,hcon⟩:=hI;refine⟨hfn,?_⟩;unfold insA at hb;split at hb
 case h_2=>cases hb
 rename_i s i vid sv kk;split at hb
 case h_2=>cases hb
 rename_i cv hvid;split at hb
 case isFalse=>cases hb
 rename_i hc;obtain⟨rfl,hcv,hi0⟩:=hc;obtain⟨i',rfl⟩:∃i':Nat,i=i':=⟨i.toNat,by omega⟩;have q1:=(hv 1 _ rfl).sc_inv.1;obtain⟨vc,vcur0,vt0,vf0,q2,_⟩:=(hv 2 _ rfl).sl_inv;have q0:=hv 0 _ rfl;have hvs:=arr3 (by simpa using hl);rw[q1,q2]at hvs;obtain⟨vcur,vt,vf,vvals,v1,v2,v3,v4,v5,v6,v7⟩:=row_vals hs hvid sv (by omega);have hnil:∀(base:Option Addr) (k:Nat),vs.getD 0 undef= .slice base 0 0→((i':Int)=0∧k=0∧bytes≤140737488355328)→(r,h')=(AV.sl h.length sv 0 1 false,h++[Blk.row cv])→Calls C.P f vs w (CallR C w X ρ h h' r):=by
  intro base _ e0 hcc hrh;obtain⟨hi,_,hbb⟩:=hcc;have hi':i'=0:=by omega
  subst hi';simp only[Zg]at hrh;obtain⟨rfl,rfl⟩:=hrh;rw[hvs,e0];refine(hcon w base 0 0 0 (ρ vid) vc [] vvals vcur vt vf (by simp) v4 (by omega) (by omega) (by simp[maxLen]) (by omega) (by omega) (by simp) v5 v1 v2 v6 (.inl ⟨rfl,rfl⟩)).mono ?_;rintro e w' ⟨B,cap',cur',t',fz',rfl,hcur,hfz,hcs,hle,hmx,hcell,hh⟩;rcases hh with⟨hB,rfl,hst⟩|⟨_,h0,_⟩
  ·have he:=ext_adopt' hs hst hB (cs:=cv) hcur (by
    have:1*sv≤cap'*sv:=Zx _ (by omega);omega) (fun k y hk=>by
    have hkl:k<sv:=by have:=(Za.1 hk).1;omega
    have hgv:vvals[k]?=some (vvals.getD k undef):=by simp[List.getD,Zb (show k<vvals.length by omega)]
    exact⟨_,hcell k _ (by simpa using hgv),v5 _ (Zi hgv),v7 k y hkl hk⟩)
   refine⟨_,he,.inl ⟨_,rfl,?_⟩⟩;have:=Rp.sl (w:=w') (X:=tot X (fun i=>if i=h.length then B else ρ i) (h++[Blk.row cv])) (ρ:=fun i=>if i=h.length then B else ρ i) (n:=(h++[Blk.row cv]).length)
    h.length sv 0 1 cap' false cur' t' (0,0) (by simp) (by simpa using hcur) (by omega) (by simp) (by intro;omega) (by omega) hmx
   simpa using this
  ·exact absurd h0 (Nat.lt_irrefl 0)
 split at hb
 ·rename_i id s0 len;split at hb
  case h_2=>cases hb
  rename_i cs hid;split at hb
  case isFalse=>cases hb
  rename_i hc;obtain⟨rfl,hne,hile,hlen,hmax,hbb⟩:=hc;simp only[Int.toNat_natCast,Zc,Zg]at hb hile;obtain⟨rfl,rfl⟩:=hb;obtain⟨cap,cur0,t0,fz0,e0,hidlt,hheap,_,_,hcap',hlc,hcm⟩:=q0.sl_inv;have hcap:=hcap' rfl;obtain⟨cur,t,fz,ovals,o1,o2,o3,o4,o5,o6,o7⟩:=row_vals hs hid (len*s0) hlen;have hcc:cur0=cur∧t0=t∧fz0=fz:=by rw[hheap]at o1;cases o1;exact⟨rfl,rfl,rfl⟩
  obtain⟨rfl,rfl,rfl⟩:=hcc;have hlive:live h id:=⟨_,hid,rfl⟩;have hvlive:live h vid:=⟨_,hvid,rfl⟩;have hρne:ρ id≠ρ vid:=fun e=>hne (hs.inj _ _ hlive hvlive e)
  have hpl:i'*s0≤ovals.length:=by rw[o4];exact Zx _ hile
  have htk:(cs.take (len*s0)).length=ovals.length:=by simp;omega
  have hti:cs.take (i'*s0)=(cs.take (len*s0)).take (i'*s0):=by rw[List.take_take,Nat.min_eq_left (by omega)]
  rw[hvs,e0];refine(hcon w (some ⟨ρ id,0,none⟩) len cap i' (ρ vid) vc ovals vvals vcur vt vf o4 v4 hile hlc hcm hmax hbb o5 v5 v1 v2 v6 (.inr ⟨ρ id,cur0,t0,fz0,rfl,hρne,hheap,o2,by omega,o6⟩)).mono ?_;rintro e w' ⟨B,cap',cur',t',fz',rfl,hcur,hfz,hcs,hle,hmx,hcell,hh⟩;have hnew:∀(k:Nat) (y:AV),(cs.take (i'*s0)++cv++(cs.take (len*s0)).drop (i'*s0))[k]?=some y→∃u,cur'[k]?=some u∧u.oneCell'=true∧Rp w (tot X ρ h) ρ h.length u y:=by
   intro k y hk;rw[hti]at hk;obtain⟨u,u1,u2,u3⟩:=ins_cells (w:=w) (X:=tot X ρ h) (ρ:=ρ) (n:=h.length) (i'*s0) hpl htk (by omega) (fun k y hy=>by
    rw[List.getElem?_take]at hy;split at hy
    ·rename_i hkl;exact o7 k y hkl hy
    ·cases hy) (fun k y hy=>v7 k y (by have:=(Za.1 hy).1;omega) hy) o5 v5 k y hk
   exact⟨u,hcell k u u1,u2,u3⟩
  have hnl:(cs.take (i'*s0)++cv++(cs.take (len*s0)).drop (i'*s0)).length≤cur'.size:=by
   have:(len+1)*s0≤cap'*s0:=Zx _ hle;rw[Nat.add_mul]at this;simp;omega
  rcases hh with⟨hB,rfl,hst⟩|⟨hbase,_,a1,a2,a3,a4,a5,a6⟩
  ·have hk:=ext_kill hs id;have he:=ext_adopt' hk.sim hst hB (cs:=cs.take (i'*s0)++cv++(cs.take (len*s0)).drop (i'*s0)) hcur hnl (fun k y hky=>by
    obtain⟨u,u1,u2,u3⟩:=hnew k y hky;exact⟨u,u1,u2,hk.rp u3⟩)
   have hall:=hk.trans he;have hlen':(h.set id Blk.dead).length=h.length:=by simp
   rw[hlen']at hall;refine⟨_,hall,.inl ⟨_,rfl,?_⟩⟩;have:=Rp.sl (w:=w') (X:=tot X (fun i=>if i=h.length then B else ρ i) (h.set id Blk.dead++[Blk.row (cs.take (i'*s0)++cv++(cs.take (len*s0)).drop (i'*s0))])) (ρ:=fun i=>if i=h.length then B else ρ i) (n:=(h.set id Blk.dead++[Blk.row (cs.take (i'*s0)++cv++(cs.take (len*s0)).drop (i'*s0))]).length)
    h.length s0 0 (len+1) cap' false cur' t' (0,0) (by simp) (by simpa using hcur) (by omega) (by simp) (by intro;omega) hle hmx
   simpa using this
  ·simp only[Zc,Addr.mk.injEq,and_true]at hbase;obtain⟨rfl,_⟩:ρ id=B∧True:=⟨by simpa using hbase,trivial⟩;have he:=ext_turn hs id (.row cs) (.row (cs.take (i'*s0)++cv++(cs.take (len*s0)).drop (i'*s0))) hid rfl rfl a1 a2 a3 a4 (fun c tt ff hc=>⟨cur',t',fz',hcur,a6 c tt ff hc⟩) a5
    ⟨cur',t',fz',fun k=>cur'.getD k undef,hcur,hfz,hnl,fun k y hky=>by
     obtain⟨u,u1,u2,u3⟩:=hnew k y hky;have:cur'.getD k undef=u:=by rw[Zr,u1];rfl
     simp only[this];exact⟨u1,u2,u3⟩⟩
   have hid':(h.set id (Blk.row (cs.take (i'*s0)++cv++(cs.take (len*s0)).drop (i'*s0))))[id]?=some (.row (cs.take (i'*s0)++cv++(cs.take (len*s0)).drop (i'*s0))):=by
    have:id<h.length:=hidlt;simp[this]
   have hr:=ext_rename he.sim id _ hid';have hset:(h.set id (Blk.row (cs.take (i'*s0)++cv++(cs.take (len*s0)).drop (i'*s0)))).set id Blk.dead=h.set id Blk.dead:=by simp
   rw[hset]at hr;have hall:=he.trans hr;refine⟨_,hall,.inl ⟨_,rfl,?_⟩⟩;have hlen':(h.set id (Blk.row (cs.take (i'*s0)++cv++(cs.take (len*s0)).drop (i'*s0)))).length=h.length:=by simp
   have:=Rp.sl (w:=w') (X:=tot X (fun i=>if i=h.length then ρ id else ρ i) (h.set id Blk.dead++[Blk.row (cs.take (i'*s0)++cv++(cs.take (len*s0)).drop (i'*s0))])) (ρ:=fun i=>if i=h.length then ρ id else ρ i) (n:=(h.set id Blk.dead++[Blk.row (cs.take (i'*s0)++cv++(cs.take (len*s0)).drop (i'*s0))]).length)
    h.length s0 0 (len+1) cap' false cur' t' fz' (by simp) (by simpa using hcur) (by omega) (by simp) (by intro;omega) hle hmx
   simpa[hlen']using this
 ·rename_i s0;split at hb
  case isFalse=>cases hb
  rename_i hc;obtain⟨rfl,hi,hbb⟩:=hc;simp only[Zc]at hb;rcases q0.ls_inv.ls_cases with⟨_,b,cap,hq,_,c2⟩|⟨b,o',cap,us,cur,t0,fz,hq,c1,c2,c4,c5,c6,c7,c8⟩
  ·have:=c2 rfl;subst this;exact hnil _ 0 hq ⟨hi,rfl,hbb⟩ hb.symm
  ·have:=c6 rfl;simp only[List.length_nil]at this hq;subst this;exact hnil _ 0 hq ⟨hi,rfl,hbb⟩ hb.symm
 ·split at hb
  case isFalse=>cases hb
  rename_i hc;simp only[Zc]at hb;exact hnil _ 0 q0.sc_inv.1 ⟨hc.1,rfl,hc.2⟩ hb.symm
 ·cases hb
theorem callN_sound {C:Cx}(hC:CxAll C):∀n,(∀b,CallOK C (callN C n b))∧∀g xs h r h',C.inl g=false→callN C n false g xs h=some (r,h')→h'=h:=by
 intro n
 induction n with
 |zero=>exact⟨fun b g xs h r h' hc=>by simp[callN]at hc,fun g xs h r h' _ hc=>by simp[callN]at hc⟩
 |
  succ n ih=>
  obtain⟨ih1,ih2⟩:=ih;constructor
  ·intro b g xs h r h' hc w X ρ vs hs hl hv;simp only[callN]at hc;split at hc
   ·rename_i g' kt hsr;split at hc
    ·exact sorted_sound (hC.srt g g' kt hsr) hc w X ρ vs hs hl hv
    ·cases hc
   split at hc
   ·split at hc
    ·rename_i sz bytes hins;exact ins_sound (hC.ins g sz bytes hins) hc w X ρ vs hs hl hv
    split at hc
    ·rename_i r1 htab;simp only[Zc,Zg]at hc;obtain⟨rfl,rfl⟩:=hc;split at htab
     case isFalse=>cases htab
     rename_i hcalm;rw[List.all_eq_true]at hcalm;obtain⟨p1,p2⟩:=hC.tab g xs _ htab w (tot X ρ h) vs (fun b hb=>hb.elim (hs.xlt b) fun⟨i,hi,e⟩=>e▸hs.lt hi) hs.glob (by omega) (fun k y hk=>calm_ri (hv k y hk) (hcalm _ (Zi hk)));exact⟨p1,p2.mono fun e w' ⟨v,he,hst,hri⟩=>⟨ρ,ext_quiet hs hst,.inl ⟨v,he,.im hri⟩⟩⟩
    split at hc
    ·split at hc
     ·exact bodyD_sound hC.base hC.rcv ih1 ih2 hc w X ρ vs hs hl hv
     ·exact body1_sound hC.base ih1 ih2 hc w X ρ vs hs hl hv
    ·cases hc
   ·split at hc
    case h_2=>cases hc
    rename_i ys hys;obtain⟨m1,m2⟩:=mapM_get hys;split at hc
    case h_2=>cases hc
    rename_i r' hr';have hpure:PureOK C g ys r':=by
     split at hr'
     ·rename_i r1 h1;simp only[Zc]at hr';subst hr';exact hC.tab g ys _ h1
     ·split at hr'
      ·rename_i r1 h1 hb;simp only[Ze]at hr';obtain⟨r2,hr2,rfl⟩:=hr';have hp:=pure_of_body hC.base ih1 ih2 hb hr2;exact fun w X vs h1 h2 h3 h4=>⟨(hp w X vs h1 h2 h3 h4).1,(hp w X vs h1 h2 h3 h4).2.mono fun e w' ⟨v,he,hst,hri⟩=>⟨v,he,hst,hC.nf g w' X v _ hri⟩⟩
      ·cases hr'
    split at hc
    ·rename_i hcond;simp only[Zc,Zg]at hc;obtain⟨rfl,rfl⟩:=hc;simp only[Bool.or_eq_true]at hcond;rcases hcond with hcalm|hsc
     ·rw[List.all_eq_true]at hcalm;have hG:GOK C.G w (tot X ρ h):=hs.glob;obtain⟨p1,p2⟩:=hpure w (tot X ρ h) vs (fun b hb=>hb.elim (hs.xlt b) fun⟨i,hi,e⟩=>e▸hs.lt hi) hG (by omega) (fun k y hk=>by
       have hkl:k<xs.length:=by have:=(Za.1 hk).1;omega
       obtain⟨b,hb,hsn⟩:=m2 k _ (Zb hkl);rw[hk]at hb;cases hb;have hcx:=hcalm _ (List.getElem_mem hkl);rw[snap_calm hcx hsn];exact calm_ri (hv k _ (Zb hkl)) hcx)
      exact⟨p1,p2.mono fun e w' ⟨v,he,hst,hri⟩=>⟨ρ,ext_quiet hs hst,.inl ⟨v,he,.im hri⟩⟩⟩
     ·have hG:GOK C.G w X:=fun g row hg=>by
       obtain⟨h1,h2⟩:=hs.glob g row hg;exact⟨fun hh=>h1 (.inl hh),h2⟩
      obtain⟨p1,p2⟩:=hpure w X vs hs.xlt hG (by omega) (fun k y hk=>by
       have hkl:k<xs.length:=by have:=(Za.1 hk).1;omega
       obtain⟨b,hb,hsn⟩:=m2 k _ (Zb hkl);rw[hk]at hb;cases hb;exact snap_sound hs 8 _ _ _ (hv k _ (Zb hkl)) hsn)
      exact⟨p1,p2.mono fun e w' ⟨v,he,hst,hri⟩=>⟨ρ,ext_quiet hs hst,.inl ⟨v,he,.im (scalar_ri hri hsc)⟩⟩⟩
    ·split at hc
     case isFalse=>cases hc
     rename_i hb;simp only[Zh,Option.isSome_iff_exists]at hb;obtain⟨_,zs,hzs⟩:=hb;simp only[Ze,Zg]at hc;obtain⟨h1,hz,rfl,rfl⟩:=hc;obtain⟨he,hsn⟩:=freeze_sound hs hz;obtain⟨z1,z2⟩:=mapM_get hzs;obtain⟨p1,p2⟩:=hpure w (tot X ρ h1) vs (fun b hb=>hb.elim (hs.xlt b) fun⟨i,hi,e⟩=>e▸he.sim.lt hi) he.sim.glob (by omega) (fun k y hk=>by
      have hkl:k<xs.length:=by have:=(Za.1 hk).1;omega
      obtain⟨b,hb,hs1⟩:=m2 k _ (Zb hkl);obtain⟨b',hb',hs2⟩:=z2 k _ (Zb hkl);have hs3:=snap_mask _ _ _ hs2;rw[hs1]at hs3;cases hs3;rw[hk]at hb;cases hb;exact hsn 8 _ _ _ (hv k _ (Zb hkl)) hs2)
     exact⟨p1,p2.mono fun e w' ⟨v,hev,hst,hri⟩=>⟨ρ,he.trans (ext_quiet he.sim hst),.inl ⟨v,hev,.im hri⟩⟩⟩
  ·intro g xs h r h' hinl hc;simp only[callN,hinl,Yp,if_false,Bool.false_and]at hc;split at hc
   ·cases hc
   split at hc
   case h_2=>cases hc
   split at hc
   case h_2=>cases hc
   split at hc
   case isFalse=>cases hc
   simp only[Zc,Zg]at hc;exact hc.2.symm
theorem pure_of_run {C:Cx}(hC:CxAll C){n:Nat}{f:FuncId}{xs:List AV}{h':Hp}{r0 r:AV}(hb:body1 C (callN C n) f xs []=some (r0,h')){m:Nat}(hsn:snap h' m r0=some r):PureOK C f xs r:=
 pure_of_body hC.base (callN_sound hC n).1 (callN_sound hC n).2 hb hsn
end Go.Ae
