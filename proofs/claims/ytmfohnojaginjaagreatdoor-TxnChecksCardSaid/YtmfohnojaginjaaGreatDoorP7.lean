/- Part of the proof. -/
import Derived.Test.YtmfohnojaginjaaGreatDoorP6
import Derived.Defers
import Derived.Sort.AssemblyPlain
set_option linter.all false
namespace Go.Ae
open Go
def V3(C:Cx)(g:FuncId)(T:TypeId):Prop:=
 (∃fn,C.P.funcs[g]?=some fn/\fn.name≠ "runtime.NumGoroutine" /\fn.body.isSome=true)/\
 (∀(w:World)(p:Nat),CallsD C.P g #[.pointer (some ⟨p,0,none⟩)] .returning w (λe u' w'=>(∃v,e= .returned v)/\u'= .returning/\w'=w))/\
 ∀(w:World)(p:Nat)(cF:Array Value)(t:TypeId)(fz:Nat × Nat),w.heap[p]?=some (.cells cF t fz)->Fz fz cF->0<cF.size->
  ∀k n,CallsD C.P g #[.pointer (some ⟨p,0,none⟩)] (.panicking [{v:= .iface T (.int k n),recovered:=false}]) w
   (λe u' w'=>(∃v,e= .returned v)/\u'= .panicking [{v:= .iface T (.int k n),recovered:=true}]/\w'=w.setRow p (cF.setIfInBounds 0 (.int k n)))
def deferred(a:Act)(d:Tmp)(x:Operand)(g:FuncId):Act:=
 {a with tmps:=a.tmps.setIfInBounds d (.func (.func g) #[] #[a.eval x]),defers:={target:= .fn (.func g) #[a.eval x],args:= #[]}::a.defers}
def Ml{C:Cx}{c:Code}{d:Tmp}{x:Operand}{T:TypeId}{rest:Code}(h:EV C c=some (d,x,T,rest)):
 ∃g,C.Ss g=some T/\(codeOk C c=true->codeOk C rest=true)/\∀(a:Act)(w:World)(Q:Exit->Act->World->Prop),d<a.tmps.size->rest.wp C.P Q (deferred a d x g) w->c.wp C.P Q a w:=by
 unfold EV at h;split at h
 case h_2=>cases h
 rename_i rid ops acb;split at h
 case h_2=>cases h
 rename_i d1 g first oe ty1 ajU aer d2 args ya ty2 ajV aes agB
 split at h
 case h_2=>cases h
 rename_i T' x' hT hx;split at h
 case isFalse=>cases h
 rename_i hc;simp only[Zc,Zg]at h;obtain⟨rfl,rfl,rfl,rfl⟩:=h;simp only[Zh,Zy]at hc;obtain⟨⟨rfl,hf⟩,ha⟩:=hc;refine⟨g,hT,λhk=>by simp only[codeOk,Xd]at hk;exact hk,λa w Q hd hw=>?_⟩;refine wp_seq (wp_region ?_);have mH:oe= #[x']:=by apply Array.ext';simpa using hx
 have Bp:first= #[]:=by simpa using hf
 have hae:args= #[]:=by simpa using ha
 subst mH Bp hae;obtain⟨opl⟩:=ops;simp only at agB;subst agB;have e1:(execOp a.eval {dst:=some d1,op:=Op.makeFunc (Fn.func g) #[] #[x'],type:=ty1,pos:=ajU,after:=aer,guard:=none}).run C.P w= .ok (.value (.func (.func g) #[] #[a.eval x'])) w:=by
  simp[execOp,Instr.makeFunc]
 have e2:∀a1:Act,a1.eval (.tmp d1)= .func (.func g) #[] #[a.eval x']->(execOp a1.eval {dst:=none,op:=Op.defer {callee:=Callee.value (Operand.tmp d1),args:= #[],argTypes:=ya},type:=ty2,pos:=ajV,after:=aes,guard:=none}).run C.P w=
  .ok (.defer {target:= .fn (.func g) #[a.eval x'],args:= #[]}) w:=λa1 h1=>by
  simp[execOp,resolve,h1,Deferred.ofValue]
 show wpOps C.P _ _ [0,1] a w;simp only[wpOps,Xr,Ye,Yd,Region.wanted,if_true];refine .inl ?_;unfold Oper.wp;rw[e1,Oper.upon_value];refine .inl ?_;rw[e2 _ (by simp[Act.put,Act.eval,hd]),Oper.upon_defer];exact hw
def Wv(C:Cx)(K:Act->World->Prop)(Q:Exit->Act->World->Prop):List Code->Act->World->Prop
 | [],a,w=>K a w
 |p::ps,a,w=>p.wp C.P (Exit.then (Wv C K Q ps) Q) a w
def EK{C:Cx}:∀{c:Code}{pre:List Code}{d:Tmp}{x:Operand}{T:TypeId}{rest:Code},jQ C c=some (pre,d,x,T,rest)->
 ∃g,C.Ss g=some T/\(codeOk C c=true->(∀p∈pre,codeOk C p=true)/\codeOk C rest=true)/\∀(a:Act)(w:World)(Q:Exit->Act->World->Prop),
  Wv C (λa' w'=>d<a'.tmps.size/\rest.wp C.P Q (deferred a' d x g) w') Q pre a w->c.wp C.P Q a w
 |
  .seq p q,pre,d,x,T,rest,h=>by
  simp only[jQ]at h;split at h
  .rename_i d' x' T' acb h1;simp only[Zc,Zg]at h;obtain⟨rfl,rfl,rfl,rfl,rfl⟩:=h;obtain⟨g,g1,g2,g3⟩:=Ml h1;refine⟨g,g1,λhk=>?_,λa w Q hw=>?_⟩
   .simp only[codeOk,Zh]at hk;exact⟨λp' hp=>by simp at hp;subst hp;exact hk.1,g2 hk.2⟩
   .refine wp_seq (wp_mono hw ?_);intro e a' w' he;cases e with
    |normal=>exact g3 a' w' Q he.1 he.2
    |_=>exact he
  .split at h
   .rename_i pre' d' x' T' acb h1;simp only[Zc,Zg]at h;obtain⟨rfl,rfl,rfl,rfl,rfl⟩:=h;obtain⟨g,g1,g2,g3⟩:=EK h1;refine⟨g,g1,λhk=>?_,λa w Q hw=>?_⟩
    .simp only[codeOk,Zh]at hk|-;refine⟨λp' hp=>?_,(g2 hk.2).2⟩;rcases Yw.1 hp with rfl|hp
     .exact hk.1
     .exact(g2 hk.2).1 p' hp
    .refine wp_seq (wp_mono hw ?_);intro e a' w' he;cases e with
     |normal=>exact g3 a' w' Q he
     |_=>exact he
   .cases h
 | .skip,_,_,_,_,_,h| .region ..,_,_,_,_,_,h| .cond ..,_,_,_,_,_,h| .block ..,_,_,_,_,_,h| .loop ..,_,_,_,_,_,h| .label ..,_,_,_,_,_,h| .exit ..,_,_,_,_,_,h| .ret,_,_,_,_,_,h=>by simp[jQ]at h
 | .goto _,_,_,_,_,_,h=>by simp[jQ]at h
section defers
variable {C : Cx} {call : Bool -> FuncId -> List AV -> Hp -> Option (AV × Hp)}
def uu(hC:Dp C)(cJ:∀b,iZ C (call b))(eZ:∀g xs h r h',C.inl g=false->call false g xs h=some (r,h')->h'=h){X:Nat->Prop}{K:Act->World->Prop}{Q:Exit->Act->World->Prop}:
 ∀(cs:List Code),(∀c∈cs,codeOk C c=true)->∀(s s':St)(out:Out),A4 C call cs s=some (out,s')->∀(a:Act)(w:World)(ρ:Nat->Nat),gf C.G w X ρ s.2->RF w (dK X ρ s.2) ρ s.2.length a.tmps s.1->
  (∀a' w' ρ',Ext C.G w X ρ s.2 w' ρ' s'.2->RF w' (dK X ρ' s'.2) ρ' s'.2.length a'.tmps s'.1->a'.defers=a.defers->Exit.then K Q (ug out) a' w')->Wv C K Q cs a w
 |
  [],_,s,s',out,he,a,w,ρ,hs,hf,hQ=>by
  simp only[A4,Zc,Zg]at he;obtain⟨rfl,rfl⟩:=he;exact hQ a w ρ (Ext.refl hs) hf rfl
 |
  c::cs,gI,s,s',out,he,a,w,ρ,hs,hf,hQ=>by
  simp only[A4]at he;split at he
  .rename_i s1 h1;refine kY hC cJ eZ c (gI c (by simp)) s s1 .normal h1 a w ρ _ hs hf λa1 w1 ρ1 e1 aa d1=>?_
   exact uu hC cJ eZ cs (λc' hc=>gI c' (by simp[hc])) s1 s' out he a1 w1 ρ1 e1.u6 aa λa2 w2 ρ2 e2 af d2=>hQ a2 w2 ρ2 (e1.trans e2) af (d2.trans d1)
  .rename_i hn;refine kY hC cJ eZ c (gI c (by simp)) s s' out he a w ρ _ hs hf λa1 w1 ρ1 e1 aa d1=>?_
   have:=hQ a1 w1 ρ1 e1 aa d1;cases out with
   |normal=>exact absurd he (by intro h;exact hn s' h)
   |exit id=>exact this
   |ret=>exact this
   |th u=>exact this
def JM(hC:Dp C)(hR:∀g T,C.Ss g=some T->V3 C g T)(cJ:∀b,iZ C (call b))(eZ:∀g xs h r h',C.inl g=false->call false g xs h=some (r,h')->h'=h){f:FuncId}{xs:List AV}{h h':Hp}{r:AV}(hb:G1 C call f xs h=some (r,h'))(w:World)(X:Nat->Prop)(ρ:Nat->Nat)(vs:Array Value)(hs:gf C.G w X ρ h)(hl:vs.size=xs.length)(hv:∀(k:Nat)(x:AV),xs[k]?=some x->Rp w (dK X ρ h) ρ h.length (vs.getD k undef) x):
 (∃fn,C.P.funcs[f]?=some fn/\fn.name≠ "runtime.NumGoroutine" /\fn.body.isSome=true)/\
 Calls C.P f vs w (xQ C w X ρ h h' r):=by
 unfold G1 at hb;split at hb
 case h_2=>cases hb
 rename_i fi hfi;obtain⟨h1,h2,h3⟩:=hC.Vw f fi hfi;obtain⟨fn,aa,af,ah,ai⟩:=yR h1;refine⟨⟨fn,aa,h3 fn aa,by simp[af]⟩,?_⟩;split at hb
 case isFalse=>cases hb
 split at hb
 case h_2=>cases hb
 rename_i pre d x T rest tq;obtain⟨g,g1,g2,g3⟩:=EK tq;obtain⟨ok1,sZ⟩:=g2 h2;refine calls_of_wp_defers aa af (g3 _ _ _ ?_);have hrf:=Cj (m:=fn.ntmps) (m':=fi.ntmps) hl ah.symm hv;split at hb
 .
  rename_i s hex;simp only[Ze,Zg]at hb;obtain⟨r',cz,rfl,rfl⟩:=hb;refine uu hC cJ eZ pre ok1 _ s _ hex _ w ρ hs hrf λa' w' ρ' he sF hd=>?_
  obtain⟨v,z_,vB⟩:=kN he.u6 sF ai cz;show Leaves C.P fn a'.tmps _ a'.defers .returning w';rw[hd];exact⟨v,z_,ρ',he,.inl ⟨v,rfl,vB⟩⟩
 .rename_i s hex;split at hb
  case h_2=>cases hb
  rename_i id hx;split at hb
  case isFalse=>cases hb
  rename_i yL;refine uu hC cJ eZ pre ok1 _ s _ hex _ w ρ hs hrf λa1 w1 ρ1 he1 JY hd1=>?_
  have hxv:=dA he1.u6 JY x;rw[hx]at hxv;obtain⟨Z_,ng⟩:=hxv.nk;refine⟨by rw[JY.1];exact yL,?_⟩;have Sf:RF w1 (dK X ρ1 s.2) ρ1 s.2.length (deferred a1 d x g).tmps (s.1.set d .ud):=JY.put d (.im (.ud _));have hds:(deferred a1 d x g).defers=[{target:= .fn (.func g) #[.pointer (some ⟨ρ1 id,0,none⟩)],args:= #[]}]:=by
   simp only[deferred,hd1,Z_]
  obtain⟨⟨gn,n1,n2,n3⟩,hrc⟩:=hR g T g1;have hinv:∀w':World,(invoke (.fn (.func g) #[.pointer (some ⟨ρ1 id,0,none⟩)]) #[]).run C.P w'= .ok (.enter g #[.pointer (some ⟨ρ1 id,0,none⟩)]) w':=λw'=>by
   have hbn:gn.body.isNone=false:=by cases hq:gn.body<;>simp_all
   simp only[invoke,callFunc,Sem.run_bind,run_program,Result.andThen_ok,n1,Array.empty_append];simp[n2,hbn]
  have quiet:∀(out:Out)(s':St),exec C call rest (s.1.set d .ud,s.2)=some (out,s')->(out= .normal\/out= .ret)->(sE fi s').map (λr=>(r,s'.2))=some (r,h')->
   rest.wp C.P (bodyPostD C.P fn (xQ C w X ρ h h' r)) (deferred a1 d x g) w1:=by
   intro out s' Mm ho vw;simp only[Ze,Zg]at vw;obtain⟨r',cz,rfl,rfl⟩:=vw;refine kY hC cJ eZ rest sZ _ s' out Mm _ w1 ρ1 _ he1.u6 Sf λa2 w2 ρ2 WV IC hd2=>?_
   have hq:Leaves C.P fn a2.tmps (xQ C w X ρ h s'.2 r') a2.defers .returning w2:=by
    rw[hd2,hds];refine leaves_cons (by simp) (hinv w2) ((hrc.1 w2 _).mono ?_);rintro e u' w' ⟨⟨v0,rfl⟩,rfl,rfl⟩;obtain⟨v,z_,vB⟩:=kN WV.u6 IC ai cz;exact⟨v,z_,ρ2,he1.trans WV,.inl ⟨v,rfl,vB⟩⟩
   rcases ho with rfl|rfl
   .exact hq
   .exact hq
  split at hb
  .rename_i s' Mm;exact quiet .normal s' Mm (.inl rfl) hb
  .rename_i s' Mm;exact quiet .ret s' Mm (.inr rfl) hb
  .rename_i T' k n s' Mm;split at hb
   case h_2=>cases hb
   rename_i c0 fG;split at hb
   case isFalse=>cases hb
   rename_i hTT;subst hTT;simp only[Ze,Zg]at hb;obtain⟨r',cz,rfl,rfl⟩:=hb;refine kY hC cJ eZ rest sZ _ s' _ Mm _ w1 ρ1 _ he1.u6 Sf λa2 w2 ρ2 WV IC hd2=>?_
   show Leaves C.P fn a2.tmps _ a2.defers (.panicking [{v:= .iface T (.int k n),recovered:=false}]) w2;rw[hd2,hds];obtain⟨cF,t,fz,us,c1,CX,c2,c3⟩:=WV.u6.row id _ fG;have hre:ρ2 id=ρ1 id:=WV.rho id ng;have tE:0<cF.size:=by simp at c2;omega
   rw[hre]at c1;refine leaves_cons (by simp) (hinv w2) ((hrc.2 w2 _ cF t fz c1 CX tE k n).mono ?_);rintro e u' w' ⟨⟨v0,rfl⟩,rfl,rfl⟩;have CA:Ext C.G w2 X ρ2 s'.2 (w2.setRow (ρ1 id) (cF.setIfInBounds 0 (.int k n))) ρ2 (s'.2.set id (.row [.sc (.int k n)])):=by
    rw[<-hre]at c1|-;refine Dy (w':=w2.setRow (ρ2 id) (cF.setIfInBounds 0 (.int k n))) WV.u6 id _ fG cF (cF.setIfInBounds 0 (.int k n)) t fz CX c1 rfl rfl rfl (by simp[World.setRow]) (setRow_heap w2 (ρ2 id) cF _ t fz c1) (by simp) (λb hb=>setRow_other w2 (ρ2 id) b _ hb) _ (λ_=> .int k n) (by simp;omega) (λj y hj=>?_);cases j with
    |
     zero=>
     simp at hj;subst hj;exact⟨by simp[tE],rfl,.im (.sc _ rfl)⟩
    |succ j=>simp at hj
   have x_:RF (w2.setRow (ρ1 id) (cF.setIfInBounds 0 (.int k n))) (dK X ρ2 (s'.2.set id (.row [.sc (.int k n)]))) ρ2 (s'.2.set id (.row [.sc (.int k n)])).length a2.tmps s'.1:=CA.rf IC;obtain⟨v,z_,vB⟩:=kN (s:=(s'.1,s'.2.set id (.row [.sc (.int k n)]))) CA.u6 x_ ai cz;exact⟨v,z_,ρ2,(he1.trans WV).trans CA,.inl ⟨v,rfl,vB⟩⟩
  .cases hb
 .cases hb
end defers
def GOK(G:Nat->Option (List Value))(w:World)(X:Nat->Prop):Prop:=
 ∀(g:Nat)(row:List Value),G g=some row->¬X g/\∃(cF:Array Value)(t:TypeId)(fz:Nat × Nat),w.heap[g]?=some (.cells cF t fz)/\cF.size=row.length/\∀(k:Nat)(v:Value),row[k]?=some v->∃u,cF[k]?=some u/\u.oneCell'=true/\gok v u
def iG(C:Cx)(f:FuncId)(xs:List AV)(r:AV):Prop:=
 ∀(w:World)(X:Nat->Prop)(vs:Array Value),(∀b,X b->b<w.heap.size)->GOK C.G w X->vs.size=xs.length->(∀(k:Nat)(x:AV),xs[k]?=some x->Ri w X (vs.getD k undef) x)->
  (∃fn,C.P.funcs[f]?=some fn/\fn.name≠ "runtime.NumGoroutine" /\fn.body.isSome=true)/\
  Calls C.P f vs w (λe w'=>∃v,e= .returned v/\Step w dR w' dR/\Ri w' X v r)
def LX(C:Cx)(f g:FuncId):Prop:=
 (∃fn,C.P.funcs[f]?=some fn/\fn.name≠ "runtime.NumGoroutine" /\fn.body.isSome=true)/\
 ∀(w:World)(bx id:Nat)(ms:Array MapEntry)(clock:Nat)(ks:List ByteArray),w.cell? ⟨bx,0,none⟩=some (.map (some id))->w.heap[id]?=some (.map ms clock)->
  (∀x∈ms.toList,x.born<clock)->(ms.toList.map (·.born)).Nodup->ms.toList.map (·.key)=ks.map .string->ks.Nodup->(∀k∈ks,k.size<=maxLen)->ks.length<=1000000->
  Calls C.P f #[.func (.func g) #[] #[.pointer (some ⟨bx,0,none⟩)]] w (λe w'=>∃v,e= .returned v/\Step w dR w' dR/\
   ((
    ks=[]/\v= .slice none 0 0)\/ks≠ []/\∃(B cap:Nat)(cF:Array Value)(t:TypeId),v= .slice (some ⟨B,0,none⟩) ks.length cap/\w.heap.size<=B/\w'.heap[B]?=some (.cells cF t (0,0))/\ks.length<=cap/\cap<=maxLen/\cF.size=cap/\
    ∀(k:Nat)(s:ByteArray),(tk ks)[k]?=some s->cF[k]?=some (.string s)))
def zH(C:Cx)(f:FuncId)(sz bytes:Nat):Prop:=
 0<sz/\0<bytes/\
 (∃fn,C.P.funcs[f]?=some fn/\fn.name≠ "runtime.NumGoroutine" /\fn.body.isSome=true)/\
 ∀(w:World)(base:Option Addr)(n cap i:Nat)(vb vc:Nat)(olds vs:List Value)(Dt:Array Value)(vt:TypeId)(vf:Nat × Nat),
  olds.length=n*sz->vs.length=sz->i<=n->n<=cap->cap<=maxLen->n+1<=1000000000000000->(n+1)*bytes<=140737488355328->(∀u∈olds,u.oneCell'=true)->(∀u∈vs,u.oneCell'=true)->
  w.heap[vb]?=some (.cells Dt vt vf)->Fz vf Dt->(∀(k:Nat)(u:Value),vs[k]?=some u->Dt[k]?=some u)->
  ((n=0/\cap=0)\/∃(b:Nat)(cF:Array Value)(t:TypeId)(fz:Nat × Nat),base=some ⟨b,0,none⟩/\b≠vb/\w.heap[b]?=some (.cells cF t fz)/\Fz fz cF/\cap*sz=cF.size/\∀(k:Nat)(u:Value),olds[k]?=some u->cF[k]?=some u)->
  Calls C.P f #[.slice base n cap,.int .i64 i,.slice (some ⟨vb,0,none⟩) 1 vc] w (λe w'=>∃(B fy:Nat)(cur':Array Value)(t':TypeId)(xZ:Nat × Nat),
   e= .returned (.slice (some ⟨B,0,none⟩) (n+1) fy)/\w'.heap[B]?=some (.cells cur' t' xZ)/\Fz xZ cur'/\fy*sz=cur'.size/\n+1<=fy/\fy<=maxLen/\
   (∀(k:Nat)(u:Value),(olds.take (i*sz)++vs++olds.drop (i*sz))[k]?=some u->cur'[k]?=some u)/\
   ((
    w.heap.size<=B/\xZ=(0,0)/\Step w dR w' dR)\/(base=some ⟨B,0,none⟩/\0<cap/\w'.os=w.os/\w'.tape=w.tape/\w'.output=w.output/\w'.heap.size=w.heap.size/\w.drawn<=w'.drawn/\(∀b,b≠B->w'.heap[b]?=w.heap[b]?)/\
    ∀(cF:Array Value)(t:TypeId)(fz:Nat × Nat),w.heap[B]?=some (.cells cF t fz)->cur'.size=cF.size)))
structure pL (C:Cx):Prop where
 base:Dp C
 Ss:∀g T,C.Ss g=some T->V3 C g T
 oW:∀f g kt,C.oW f=some (g,kt)->LX C f g
 ux:∀f xs r,C.ux f xs=some r->iG C f xs r
 ins:∀f sz bytes,C.ins f=some (sz,bytes)->zH C f sz bytes
 nf:∀f w X v r,Ri w X v r->Ri w X v (C.nf f r)
def su(ρ:Nat->Nat)(b:Nat):¬own ρ [] b:=λ⟨i,⟨_,hb,_⟩,_⟩=>by simp at hb
def NG{G:Nat->Option (List Value)}{w:World}{X:Nat->Prop}(hX:∀b,X b->b<w.heap.size)(hG:GOK G w X)(ρ:Nat->Nat):gf G w X ρ []:={
 GA:=hX
 s8:=λg row hg=>by
  obtain⟨h1,h2⟩:=hG g row hg;exact⟨λh=>h.elim h1 (su ρ g),h2⟩
 inj:=λi j hi=>absurd ⟨i,hi,rfl⟩ (su ρ (ρ i))
 out:=λi hi=>absurd ⟨i,hi,rfl⟩ (su ρ (ρ i))
 jI:=λi cs h=>by simp at h
 y6:=λi b h=>by simp at h}
def abm{h:Hp}{n:Nat}{u:Value}{r:AV}(hs:cD h n (.pn u)=some r):False:=by
 cases n<;>simp[cD]at hs
def sC{C:Cx}{call:Bool->FuncId->List AV->Hp->Option (AV × Hp)}(hC:Dp C)(cJ:∀b,iZ C (call b))(eZ:∀g xs h r h',C.inl g=false->call false g xs h=some (r,h')->h'=h){f:FuncId}{xs:List AV}{h':Hp}{r0 r:AV}(hb:om C call f xs []=some (r0,h')){n:Nat}(gw:cD h' n r0=some r):iG C f xs r:=by
 intro w X vs hX hG hl hv;have hs:=NG hX hG id;obtain⟨h1,h2⟩:=zK hC cJ eZ hb w X id vs hs hl (λk x hk=> .im ((hv k x hk).AQ λb hb=>hb.elim (λh=>h) λh=>absurd h (su id b)));refine⟨h1,h2.mono λe w' ⟨ρ',hx,hh⟩=>?_⟩;rcases hh with⟨v,he,hr⟩|⟨u,_,hu⟩
 .refine⟨v,he,?_,sq hx.u6 n v r0 r hr gw⟩;exact⟨hx.step.os,hx.step.tape,hx.step.output,hx.step.size,λb hb _=>hx.step.keep b hb (su id b),hx.step.row,λ_ _ h=>h,hx.step.drew⟩
 .subst hu;exact absurd gw (λq=>abm q)
def wM{G:Nat->Option (List Value)}{w w':World}{X:Nat->Prop}{ρ:Nat->Nat}{h:Hp}(hs:gf G w X ρ h)(dq:Step w dR w' dR){B:Nat}(hB:w.heap.size<=B){cs:List AV}{cF:Array Value}{t:TypeId}(l_:w'.heap[B]?=some (.cells cF t (0,0)))(cf:cs.length<=cF.size)(hcs:∀(k:Nat)(x:AV),cs[k]?=some x->∃u,cF[k]?=some u/\u.oneCell'=true/\Rp w (dK X ρ h) ρ h.length u x):Ext G w X ρ h w' (λi=>if i=h.length then B else ρ i) (h++[.row cs]):=by
 have hq:=lF hs dq;have hBl:B<w'.heap.size:=eP l_;have vy:∀(i:Nat)(b':eK),(h++[eK.row cs])[i]?=some b'->(i<h.length/\h[i]?=some b')\/(i=h.length/\b'= .row cs):=by
  intro i b' hi;by_cases dm:i<h.length
  .rw[Zd dm]at hi;exact .inl ⟨dm,hi⟩
  .have he:i=h.length:=by have:i< (h++[eK.row cs]).length:=(Za.1 hi).1;simp at this;omega
   subst he;simp at hi;exact .inr ⟨rfl,hi.symm⟩
 have gL:∀i,live (h++[eK.row cs]) i->(live h i/\i<h.length)\/i=h.length:=by
  rintro i ⟨b',GB,hd⟩;rcases vy i b' GB with⟨h1,h2⟩|⟨h1,_⟩
  .exact .inl ⟨⟨b',h2,hd⟩,h1⟩
  .exact .inr h1
 have zO:∀b,own (λi=>if i=h.length then B else ρ i) (h++[eK.row cs]) b->own ρ h b\/b=B:=by
  rintro b ⟨i,hi,e⟩;rcases gL i hi with⟨h1,h2⟩|rfl
  .exact .inl ⟨i,h1,by simpa[Xk h2]using e⟩
  .exact .inr (by simpa using e.symm)
 have dM:Step w (own ρ h) w' (own (λi=>if i=h.length then B else ρ i) (h++[eK.row cs])):=
  ⟨dq.os,dq.tape,dq.output,dq.size,λb hb _=>dq.keep b hb (λh=>h),dq.row,λb hb hh=>(zO b hh).resolve_right (by omega),dq.drew⟩
 have AR:∀i,i<h.length->(λi=>if i=h.length then B else ρ i) i=ρ i:=λi hi=>by simp[Xk hi]
 have hXB:¬X B:=λhx=>by have:=hs.GA B hx;omega
 have hoB:∀i,live h i->ρ i≠B:=λi hi e=>by have:=hs.lt hi;omega
 refine⟨⟨hq.u6.GA,λg row hg=>?_,?_,?_,?_,?_⟩,AR,by simp,dM⟩
 .obtain⟨h1,c,t',xZ,h2,h3⟩:=hs.s8 g row hg;refine⟨λhh=>h1 (dM.kept.less g (eP h2) hh),c,t',xZ,(dq.keep g (eP h2) (λh=>h)).trans h2,h3⟩
 .intro i j hi hj pZ;rcases gL i hi with⟨JX,Mt⟩|rfl<;>rcases gL j hj with⟨Sr,AU⟩|rfl
  .simp[Xk Mt,Xk AU]at pZ;exact hs.inj i j JX Sr pZ
  .simp[Xk Mt]at pZ;exact absurd pZ (hoB i JX)
  .simp[Xk AU]at pZ;exact absurd pZ.symm (hoB j Sr)
  .rfl
 .intro i hi hx;rcases gL i hi with⟨JX,Mt⟩|rfl
  .simp[Xk Mt]at hx;exact hs.out i JX hx
  .simp at hx;exact hXB hx
 .intro i cs' hi hh;rcases vy i _ hi with⟨dm,p8⟩|⟨_,e⟩
  .have h2:=(hs.y6 i _ p8).lt (by simp);simp only[Xk dm,if_false]at hh;exact hs.jI i cs' p8 (dM.kept.less _ h2 hh)
  .cases e
 .intro i b' hi;rcases vy i b' hi with⟨dm,p8⟩|⟨rfl,rfl⟩
  .simp only[Xk dm,if_false];have hb:=hs.y6 i b' p8;by_cases hd:b'= .dead
   .subst hd;trivial
   .rw[dq.keep _ (hb.lt hd) (λh=>h)];exact hb.step dM AR (by simp)
  .simp only[if_true];refine⟨cF,t,(0,0),λk=>cF.getD k undef,l_,.inl rfl,cf,λk x hk=>?_⟩;obtain⟨u,hu,hfu,hru⟩:=hcs k x hk;have:cF.getD k undef=u:=by rw[Zr,hu];rfl
   simp only[this];exact⟨hu,hfu,hru.step dM AR (by simp)⟩
def Rq{G:Nat->Option (List Value)}{w w':World}{X:Nat->Prop}{ρ:Nat->Nat}{h:Hp}(hs:gf G w X ρ h)(dq:Step w dR w' dR){B:Nat}(hB:w.heap.size<=B){cs:List AV}{cF:Array Value}{t:TypeId}(l_:w'.heap[B]?=some (.cells cF t (0,0)))(cf:cs.length<=cF.size)(hcs:∀(k:Nat)(x:AV),cs[k]?=some x->∃u,x= .sc u/\kQ u=true/\cF[k]?=some u):Ext G w X ρ h w' (λi=>if i=h.length then B else ρ i) (h++[.row cs]):=
 wM hs dq hB l_ cf λk x hk=>by
  obtain⟨u,rfl,hfu,hu⟩:=hcs k x hk;exact⟨u,hu,oC hfu,.im (.sc u hfu)⟩
def Ri.dH{w:World}{X:Nat->Prop}{v u:Value}(h:Ri w X v (.sc u)):v=u/\kQ u=true:=by
 cases h with
 |sc _ hf=>exact⟨rfl,hf⟩
def Rr{w:World}{X X':Nat->Prop}{v:Value}{r:AV}(h:Ri w X v r)(hs:uy r=true):Ri w X' v r:=by
 unfold uy at hs;split at hs
 .cases h with
  |sc _ hf=>exact .sc _ hf
 .rename_i xs;rw[Yt]at hs;cases h with
  |tp us _ h1 h2=>
   refine .tp us xs h1 λk x hk=>?_
   have h3:=h2 k x hk;have h4:=hs x (Zi hk);cases x with
   |sc u=>
    obtain⟨e,hf⟩:=h3.dH;rw[e];exact .sc _ hf
   |_=>simp[X0]at h4
 .cases hs
def zL(x:ByteArray):∀l:List ByteArray,(EW x l).length=l.length+1
 | []=>rfl
 |
  y::l=>by
  unfold EW;split
  .rfl
  .simp[zL x l]
def xV :∀l:List ByteArray,(tk l).length=l.length
 | []=>rfl
 |
  x::l=>by
  show(EW x (tk l)).length=_;rw[zL,xV l];rfl
def zM :∀{l:List ByteArray},EX l=true->l.Nodup
 | [],_=>List.nodup_nil
 |
  x::l,h=>by
  simp only[EX,Zh,Xj,List.any_eq_false]at h;refine List.nodup_cons.2 ⟨λhm=>?_,zM h.2⟩;exact h.1 x hm ((MapKept.bytes_beq x x).2 rfl)
def Gw{C:Cx}{f g:FuncId}(hS:LX C f g){xs:List AV}{h h':Hp}{r:AV}(hb:EY h g xs=some (r,h'))(w:World)(X:Nat->Prop)(ρ:Nat->Nat)(vs:Array Value)(hs:gf C.G w X ρ h)(hl:vs.size=xs.length)(hv:∀(k:Nat)(x:AV),xs[k]?=some x->Rp w (dK X ρ h) ρ h.length (vs.getD k undef) x):
 (∃fn,C.P.funcs[f]?=some fn/\fn.name≠ "runtime.NumGoroutine" /\fn.body.isSome=true)/\Calls C.P f vs w (xQ C w X ρ h h' r):=by
 unfold EY at hb;split at hb
 case h_2=>cases hb
 rename_i g' b;split at hb
 case isFalse=>cases hb
 rename_i hgg;subst hgg;split at hb
 case h_2=>cases hb
 rename_i id hbx;split at hb
 case h_2=>cases hb
 rename_i es clock cZ;have h0:=hv 0 _ rfl;obtain⟨us,uG,hul,hur⟩:=h0.wq;have hp:=(hur 0 _ rfl).nk;have hus:us= #[.pointer (some ⟨ρ b,0,none⟩)]:=by
  apply Array.ext
  .simpa using hul
  .intro i h1 h2;have uT:i=0:=by simpa using h2
   subst uT;have:=hp.1;simp only[h1,Zr,Xl,Xm]at this;simpa using this
 have yf:vs= #[.func (.func g) #[] #[.pointer (some ⟨ρ b,0,none⟩)]]:=by
  apply Array.ext
  .simpa using hl
  .intro i h1 h2;have uT:i=0:=by simpa using h2
   subst uT;simp only[h1,Zr,Xl,Xm]at uG;rw[uG,hus];rfl
 subst yf;obtain⟨cF,t,fz,u0,c1,_,c2,c3⟩:=hs.row b _ hbx;obtain⟨d1,d2,d3⟩:=c3 0 _ rfl;have hm:=d3.FD.1;rw[hm]at d1;obtain⟨ms,b1,b2,bnd,b3⟩:=hs.y6 id _ cZ;have NZ:∀x∈ms.toList,x.born<clock:=λx hx=>by
  obtain⟨j,hj,rfl⟩:=List.getElem_of_mem hx;have hj':j<es.length:=by simp at hj;omega
  obtain⟨m,q1,_,_,q4,_⟩:=b3 j _ (Zb hj');have:ms.toList[j]=m:=by
   have h3:ms.toList[j]?=some m:=by simpa using q1
   rw[Zb hj]at h3;simpa using h3
  rw[this];exact q4
 have ri:∀ks,abM es=some ks->ms.toList.map (·.key)=ks.map .string:=by
  intro ks hk;obtain⟨m1,m2⟩:=iP hk;apply List.ext_getElem?;intro j;by_cases hj:j<es.length
  .obtain⟨m,q1,q2,_⟩:=b3 j _ (Zb hj);obtain⟨k',r1,r2⟩:=m2 j _ (Zb hj);have q1':ms.toList[j]?=some m:=by simpa using q1
   rw[Zs,Zs,q1',r1];simp only[Yx,q2];cases hq:es[j].1<;>simp[hq]at r2;rw[r2]
  .rw[Xh (by simp;omega),Xh (by simp;omega)]
 have dX:w.cell? ⟨ρ b,0,none⟩=some (.map (some (ρ id))):=by rw[jD c1];exact d1
 obtain⟨Dx,Ww⟩:=hS;refine⟨Dx,?_⟩;split at hb
 .rename_i hk;simp only[Zc,Zg]at hb;obtain⟨rfl,rfl⟩:=hb;refine(Ww w (ρ b) (ρ id) ms clock [] dX b1 NZ bnd (ri [] hk) List.nodup_nil (by simp) (by simp)).mono ?_;rintro e w' ⟨v,rfl,dq,hh⟩;refine⟨ρ,lF hs dq,.inl ⟨v,rfl,?_⟩⟩;rcases hh with⟨_,rfl⟩|⟨h0,B,cap,cur',t',rfl,hB,l_,h1,h2,h3,h4⟩
  .exact .im (.sc _ rfl)
  .exact absurd rfl h0
 .rename_i ks eF hk;split at hb
  case isTrue=>cases hb
  rename_i vN;simp only[Zc,Zg]at hb;obtain⟨rfl,rfl⟩:=hb;simp only[Yy,Xj,Zy,not_or,Bool.not_eq_false,Zh,Yt]at vN;obtain⟨⟨RW,fX⟩,cf⟩:=vN;refine(Ww w (ρ b) (ρ id) ms clock ks dX b1 NZ bnd (ri ks hk) (zM RW) fX (by omega)).mono ?_;rintro e w' ⟨v,rfl,dq,hh⟩;rcases hh with⟨h0,_⟩|⟨_,B,cap,cur',t',rfl,hB,l_,h1,h2,h3,h4⟩
  .subst h0;exact absurd rfl eF
  .have wm:=xV ks;have he:=Rq (cs:=(tk ks).map λs=> .sc (.string s)) hs dq hB l_ (by simp;omega) (λk x hk=>by
    simp only[Zs,Ze]at hk;obtain⟨s,pR,rfl⟩:=hk;exact⟨_,rfl,rfl,h4 k s pR⟩)
   refine⟨_,he,.inl ⟨_,rfl,?_⟩⟩;have:=Rp.sl (w:=w') (X:=dK X (λi=>if i=h.length then B else ρ i) (h++[eK.row ((tk ks).map λs=> .sc (.string s))])) (ρ:=λi=>if i=h.length then B else ρ i) (n:=(h++[eK.row ((tk ks).map λs=> .sc (.string s))]).length)
    h.length 1 0 ks.length cap false cur' t' (0,0) (by simp) (by simpa using l_) (by omega) (by simp) (by intro;omega) h1 h2
   simpa using this
 .cases hb
def ajW{vs:Array Value}(h:vs.size=3):vs= #[vs.getD 0 undef,vs.getD 1 undef,vs.getD 2 undef]:=by
 apply Array.ext
 .simpa using h
 .intro i h1 h2;have h3:i<3:=by omega
  have:i=0\/i=1\/i=2:=by omega
  rcases this with rfl|rfl|rfl<;>simp[h1,Zr]
def JN{G:Nat->Option (List Value)}{w:World}{X:Nat->Prop}{ρ:Nat->Nat}{h:Hp}(hs:gf G w X ρ h){id:Nat}{cs:List AV}(cZ:h[id]?=some (.row cs))(m:Nat)(hm:m<=cs.length):
 ∃(cF:Array Value)(t:TypeId)(fz:Nat × Nat)(dj:List Value),w.heap[ρ id]?=some (.cells cF t fz)/\Fz fz cF/\cs.length<=cF.size/\dj.length=m/\(∀u∈dj,u.oneCell'=true)/\(∀(k:Nat)(u:Value),dj[k]?=some u->cF[k]?=some u)/\
  ∀(k:Nat)(y:AV),k<m->cs[k]?=some y->Rp w (dK X ρ h) ρ h.length (dj.getD k undef) y:=by
 obtain⟨cF,t,fz,us,c1,c2,c3,c4⟩:=hs.row id cs cZ;refine⟨cF,t,fz,(List.range m).map us,c1,c2,c3,by simp,λu hu=>?_,λk u hk=>?_,λk y hk hy=>?_⟩
 .simp only[Yk,List.mem_range]at hu;obtain⟨j,hj,rfl⟩:=hu;exact(c4 j _ (Zb (by omega))).2.1
 .simp only[Zs,Ze]at hk;obtain⟨j,hj,rfl⟩:=hk;have mZ:k<m:=by have:=(Za.1 hj).1;simpa using this
  rw[Xb mZ]at hj;cases hj;exact(c4 k _ (Zb (by omega))).1
 .have e:((List.range m).map us).getD k undef=us k:=by simp[List.getD,Xb hk]
  rw[e];exact(c4 k y hy).2.2
def Rs{w:World}{X:Nat->Prop}{ρ:Nat->Nat}{n:Nat}{olds vs:List Value}{oa va:List AV}(p:Nat)(hp:p<=olds.length)(h1:oa.length=olds.length)(h2:va.length=vs.length)(ho:∀(k:Nat)(y:AV),oa[k]?=some y->Rp w X ρ n (olds.getD k undef) y)(hv:∀(k:Nat)(y:AV),va[k]?=some y->Rp w X ρ n (vs.getD k undef) y)(o1:∀u∈olds,u.oneCell'=true)(v1:∀u∈vs,u.oneCell'=true)(k:Nat)(y:AV)(hk:(oa.take p++va++oa.drop p)[k]?=some y):∃u,(olds.take p++vs++olds.drop p)[k]?=some u/\u.oneCell'=true/\Rp w X ρ n u y:=by
 have hl:(oa.take p++va++oa.drop p).length=(olds.take p++vs++olds.drop p).length:=by simp;omega
 have ie:k< (olds.take p++vs++olds.drop p).length:=by rw[<-hl];exact(Za.1 hk).1
 refine⟨_,Zb ie,?_,?_⟩
 .have hm:=List.getElem_mem ie;rcases Zz.1 hm with hm|hm
  .rcases Zz.1 hm with hm|hm
   .exact o1 _ (List.mem_of_mem_take hm)
   .exact v1 _ hm
  .exact o1 _ (List.mem_of_mem_drop hm)
 .have key:∀(l m:List Value)(la ma:List AV),la.length=l.length->(∀k y,la[k]?=some y->Rp w X ρ n (l.getD k undef) y)->(∀k y,ma[k]?=some y->Rp w X ρ n (m.getD k undef) y)->∀k y,(la++ma)[k]?=some y->Rp w X ρ n ((l++m).getD k undef) y:=by
   intro l m la ma e q1 q2 k y hy;by_cases hk:k<la.length
   .rw[Zd hk]at hy;rw[List.getD,Zd (by omega)];exact q1 k y hy
   .rw[Zf (by omega)]at hy;rw[List.getD,Zf (by omega),<-e];exact q2 _ y hy
  have:=key (olds.take p++vs) (olds.drop p) (oa.take p++va) (oa.drop p) (by simp;omega) (key _ _ _ _ (by simp;omega) (λk y hy=>by
   rw[Xn]at hy;split at hy
   .rename_i hkp;rw[List.getD,Xn,cq hkp];exact ho k y hy
   .cases hy) hv) (λk y hy=>by
   rw[Xo]at hy;rw[List.getD,Xo];exact ho _ y hy) k y hk
  rwa [List.getD,Zb ie]at this
def Rt{C:Cx}{f:FuncId}{sz bytes:Nat}(hI:zH C f sz bytes){xs:List AV}{h h':Hp}{r:AV}(hb:A5 sz bytes h xs=some (r,h'))(w:World)(X:Nat->Prop)(ρ:Nat->Nat)(vs:Array Value)(hs:gf C.G w X ρ h)(hl:vs.size=xs.length)(hv:∀(k:Nat)(x:AV),xs[k]?=some x->Rp w (dK X ρ h) ρ h.length (vs.getD k undef) x):
 (∃fn,C.P.funcs[f]?=some fn/\fn.name≠ "runtime.NumGoroutine" /\fn.body.isSome=true)/\Calls C.P f vs w (xQ C w X ρ h h' r):=by
 obtain⟨fX,wP,Dx,Ww⟩:=hI;refine⟨Dx,?_⟩;unfold A5 at hb;split at hb
 case h_2=>cases hb
 rename_i s i vid sv kk;split at hb
 case h_2=>cases hb
 rename_i cv agC;split at hb
 case isFalse=>cases hb
 rename_i hc;obtain⟨rfl,hcv,uT⟩:=hc;obtain⟨i',rfl⟩:∃i':Nat,i=i':=⟨i.toNat,by omega⟩;have q1:=(hv 1 _ rfl).dH.1;obtain⟨vc,vcur0,vt0,vf0,q2,_⟩:=(hv 2 _ rfl).jT;have q0:=hv 0 _ rfl;have yf:=ajW (by simpa using hl);rw[q1,q2]at yf;obtain⟨Dt,vt,vf,JO,v1,v2,v3,v4,v5,v6,v7⟩:=JN hs agC sv (by omega);have Gj:∀(base:Option Addr)(k:Nat),vs.getD 0 undef= .slice base 0 0->((i':Int)=0/\k=0/\bytes<=140737488355328)->(r,h')=(AV.sl h.length sv 0 1 false,h++[eK.row cv])->Calls C.P f vs w (xQ C w X ρ h h' r):=by
  intro base _ e0 hcc hrh;obtain⟨hi,_,hbb⟩:=hcc;have p8:i'=0:=by omega
  subst p8;simp only[Zg]at hrh;obtain⟨rfl,rfl⟩:=hrh;rw[yf,e0];refine(Ww w base 0 0 0 (ρ vid) vc [] JO Dt vt vf (by simp) v4 (by omega) (by omega) (by simp[maxLen]) (by omega) (by omega) (by simp) v5 v1 v2 v6 (.inl ⟨rfl,rfl⟩)).mono ?_;rintro e w' ⟨B,fy,cur',t',xZ,rfl,l_,CX,hcs,da,wS,dX,hh⟩;rcases hh with⟨hB,rfl,dq⟩|⟨_,h0,_⟩
  .have he:=wM hs dq hB (cs:=cv) l_ (by
    have:1*sv<=fy*sv:=Zx _ (by omega);omega) (λk y hk=>by
    have ie:k<sv:=by have:=(Za.1 hk).1;omega
    have Sc:JO[k]?=some (JO.getD k undef):=by simp[List.getD,Zb (show k<JO.length by omega)]
    exact⟨_,dX k _ (by simpa using Sc),v5 _ (Zi Sc),v7 k y ie hk⟩)
   refine⟨_,he,.inl ⟨_,rfl,?_⟩⟩;have:=Rp.sl (w:=w') (X:=dK X (λi=>if i=h.length then B else ρ i) (h++[eK.row cv])) (ρ:=λi=>if i=h.length then B else ρ i) (n:=(h++[eK.row cv]).length)
    h.length sv 0 1 fy false cur' t' (0,0) (by simp) (by simpa using l_) (by omega) (by simp) (by intro;omega) (by omega) wS
   simpa using this
  .exact absurd h0 (Nat.lt_irrefl 0)
 split at hb
 .rename_i id s0 len;split at hb
  case h_2=>cases hb
  rename_i cs cZ;split at hb
  case isFalse=>cases hb
  rename_i hc;obtain⟨rfl,eF,vo,cf,iF,hbb⟩:=hc;simp only[Int.toNat_natCast,Zc,Zg]at hb vo;obtain⟨rfl,rfl⟩:=hb;obtain⟨cap,adP,t0,fz0,e0,Cy,mi,_,_,V9,ZV,vh⟩:=q0.jT;have mH:=V9 rfl;obtain⟨cF,t,fz,Wx,o1,o2,o3,o4,o5,o6,o7⟩:=JN hs cZ (len*s0) cf;have hcc:adP=cF/\t0=t/\fz0=fz:=by rw[mi]at o1;cases o1;exact⟨rfl,rfl,rfl⟩
  obtain⟨rfl,rfl,rfl⟩:=hcc;have gL:live h id:=⟨_,cZ,rfl⟩;have aet:live h vid:=⟨_,agC,rfl⟩;have agD:ρ id≠ρ vid:=λe=>eF (hs.inj _ _ gL aet e)
  have qD:i'*s0<=Wx.length:=by rw[o4];exact Zx _ vo
  have wc:(cs.take (len*s0)).length=Wx.length:=by simp;omega
  have sI:cs.take (i'*s0)=(cs.take (len*s0)).take (i'*s0):=by rw[List.take_take,Nat.min_eq_left (by omega)]
  rw[yf,e0];refine(Ww w (some ⟨ρ id,0,none⟩) len cap i' (ρ vid) vc Wx JO Dt vt vf o4 v4 vo ZV vh iF hbb o5 v5 v1 v2 v6 (.inr ⟨ρ id,adP,t0,fz0,rfl,agD,mi,o2,by omega,o6⟩)).mono ?_;rintro e w' ⟨B,fy,cur',t',xZ,rfl,l_,CX,hcs,da,wS,dX,hh⟩;have Kc:∀(k:Nat)(y:AV),(cs.take (i'*s0)++cv++(cs.take (len*s0)).drop (i'*s0))[k]?=some y->∃u,cur'[k]?=some u/\u.oneCell'=true/\Rp w (dK X ρ h) ρ h.length u y:=by
   intro k y hk;rw[sI]at hk;obtain⟨u,u1,u2,u3⟩:=Rs (w:=w) (X:=dK X ρ h) (ρ:=ρ) (n:=h.length) (i'*s0) qD wc (by omega) (λk y hy=>by
    rw[Xn]at hy;split at hy
    .rename_i ie;exact o7 k y ie hy
    .cases hy) (λk y hy=>v7 k y (by have:=(Za.1 hy).1;omega) hy) o5 v5 k y hk
   exact⟨u,dX k u u1,u2,u3⟩
  have nh:(cs.take (i'*s0)++cv++(cs.take (len*s0)).drop (i'*s0)).length<=cur'.size:=by
   have:(len+1)*s0<=fy*s0:=Zx _ da;rw[Xp]at this;simp;omega
  rcases hh with⟨hB,rfl,dq⟩|⟨Cz,_,a1,a2,a3,a4,a7,a5,a6⟩
  .have hk:=GX hs id;have he:=wM hk.u6 dq hB (cs:=cs.take (i'*s0)++cv++(cs.take (len*s0)).drop (i'*s0)) l_ nh (λk y GF=>by
    obtain⟨u,u1,u2,u3⟩:=Kc k y GF;exact⟨u,u1,u2,hk.rp u3⟩)
   have dN:=hk.trans he;have nz:(h.set id eK.dead).length=h.length:=by simp
   rw[nz]at dN;refine⟨_,dN,.inl ⟨_,rfl,?_⟩⟩;have:=Rp.sl (w:=w') (X:=dK X (λi=>if i=h.length then B else ρ i) (h.set id eK.dead++[eK.row (cs.take (i'*s0)++cv++(cs.take (len*s0)).drop (i'*s0))])) (ρ:=λi=>if i=h.length then B else ρ i) (n:=(h.set id eK.dead++[eK.row (cs.take (i'*s0)++cv++(cs.take (len*s0)).drop (i'*s0))]).length)
    h.length s0 0 (len+1) fy false cur' t' (0,0) (by simp) (by simpa using l_) (by omega) (by simp) (by intro;omega) da wS
   simpa using this
  .simp only[Zc,Addr.mk.injEq,and_true]at Cz;obtain⟨rfl,_⟩:ρ id=B/\True:=⟨by simpa using Cz,trivial⟩;have he:=qa hs id (.row cs) (.row (cs.take (i'*s0)++cv++(cs.take (len*s0)).drop (i'*s0))) cZ rfl rfl a1 a2 a3 a4 (λc tt ff hc=>⟨cur',t',xZ,l_,a6 c tt ff hc⟩) a5
    ⟨cur',t',xZ,λk=>cur'.getD k undef,l_,CX,nh,λk y GF=>by
     obtain⟨u,u1,u2,u3⟩:=Kc k y GF;have:cur'.getD k undef=u:=by rw[Zr,u1];rfl
     simp only[this];exact⟨u1,u2,u3⟩⟩ a7
   have Ta:(h.set id (eK.row (cs.take (i'*s0)++cv++(cs.take (len*s0)).drop (i'*s0))))[id]?=some (.row (cs.take (i'*s0)++cv++(cs.take (len*s0)).drop (i'*s0))):=by
    have:id<h.length:=Cy;simp[this]
   have hr:=AW he.u6 id _ Ta;have u9:(h.set id (eK.row (cs.take (i'*s0)++cv++(cs.take (len*s0)).drop (i'*s0)))).set id eK.dead=h.set id eK.dead:=by simp
   rw[u9]at hr;have dN:=he.trans hr;refine⟨_,dN,.inl ⟨_,rfl,?_⟩⟩;have nz:(h.set id (eK.row (cs.take (i'*s0)++cv++(cs.take (len*s0)).drop (i'*s0)))).length=h.length:=by simp
   have:=Rp.sl (w:=w') (X:=dK X (λi=>if i=h.length then ρ id else ρ i) (h.set id eK.dead++[eK.row (cs.take (i'*s0)++cv++(cs.take (len*s0)).drop (i'*s0))])) (ρ:=λi=>if i=h.length then ρ id else ρ i) (n:=(h.set id eK.dead++[eK.row (cs.take (i'*s0)++cv++(cs.take (len*s0)).drop (i'*s0))]).length)
    h.length s0 0 (len+1) fy false cur' t' xZ (by simp) (by simpa using l_) (by omega) (by simp) (by intro;omega) da wS
   simpa[nz]using this
 .rename_i s0;split at hb
  case isFalse=>cases hb
  rename_i hc;obtain⟨rfl,hi,hbb⟩:=hc;simp only[Zc]at hb;rcases q0.my.iu with⟨_,b,cap,hq,_,c2⟩|⟨b,o',cap,us,cF,t0,fz,hq,c1,c2,c4,c5,c6,c7,c8⟩
  .have:=c2 rfl;subst this;exact Gj _ 0 hq ⟨hi,rfl,hbb⟩ hb.symm
  .have:=c6 rfl;simp only[Xq]at this hq;subst this;exact Gj _ 0 hq ⟨hi,rfl,hbb⟩ hb.symm
 .split at hb
  case isFalse=>cases hb
  rename_i hc;simp only[Zc]at hb;exact Gj _ 0 q0.dH.1 ⟨hc.1,rfl,hc.2⟩ hb.symm
 .cases hb
def gW{C:Cx}(hC:pL C):∀n,(∀b,iZ C (ch C n b))/\∀g xs h r h',C.inl g=false->ch C n false g xs h=some (r,h')->h'=h:=by
 intro n
 induction n with
 |zero=>exact⟨λb g xs h r h' hc=>by simp[ch]at hc,λg xs h r h' _ hc=>by simp[ch]at hc⟩
 |succ n ih=>
  obtain⟨ih1,ih2⟩:=ih;constructor
  .intro b g xs h r h' hc w X ρ vs hs hl hv;simp only[ch]at hc;split at hc
   .rename_i g' kt hsr;split at hc
    .exact Gw (hC.oW g g' kt hsr) hc w X ρ vs hs hl hv
    .cases hc
   split at hc
   .split at hc
    .rename_i sz bytes ajX;exact Rt (hC.ins g sz bytes ajX) hc w X ρ vs hs hl hv
    split at hc
    .rename_i r1 VT;simp only[Zc,Zg]at hc;obtain⟨rfl,rfl⟩:=hc;split at VT
     case isFalse=>cases VT
     rename_i vE;rw[Yt]at vE;obtain⟨p1,p2⟩:=hC.ux g xs _ VT w (dK X ρ h) vs (λb hb=>hb.elim (hs.GA b) λ⟨i,hi,e⟩=>e▸hs.lt hi) hs.s8 (by omega) (λk y hk=>AJ (hv k y hk) (vE _ (Zi hk)));exact⟨p1,p2.mono λe w' ⟨v,he,dq,Kb⟩=>⟨ρ,lF hs dq,.inl ⟨v,he,.im Kb⟩⟩⟩
    split at hc
    .split at hc
     .exact JM hC.base hC.Ss ih1 ih2 hc w X ρ vs hs hl hv
     .exact zK hC.base ih1 ih2 hc w X ρ vs hs hl hv
    .cases hc
   .split at hc
    case h_2=>cases hc
    rename_i ys yg;obtain⟨m1,m2⟩:=iP yg;split at hc
    case h_2=>cases hc
    rename_i r' cz;have Wy:iG C g ys r':=by
     split at cz
     .rename_i r1 h1;simp only[Zc]at cz;subst cz;exact hC.ux g ys _ h1
     .split at cz
      .rename_i r1 h1 hb;simp only[Ze]at cz;obtain⟨r2,vY,rfl⟩:=cz;have hp:=sC hC.base ih1 ih2 hb vY;exact λw X vs h1 h2 h3 h4=>⟨(hp w X vs h1 h2 h3 h4).1,(hp w X vs h1 h2 h3 h4).2.mono λe w' ⟨v,he,dq,Kb⟩=>⟨v,he,dq,hC.nf g w' X v _ Kb⟩⟩
      .cases cz
    split at hc
    .rename_i vN;simp only[Zc,Zg]at hc;obtain⟨rfl,rfl⟩:=hc;simp only[Yy]at vN;rcases vN with vE|Le
     .rw[Yt]at vE;have hG:GOK C.G w (dK X ρ h):=hs.s8;obtain⟨p1,p2⟩:=Wy w (dK X ρ h) vs (λb hb=>hb.elim (hs.GA b) λ⟨i,hi,e⟩=>e▸hs.lt hi) hG (by omega) (λk y hk=>by
       have ie:k<xs.length:=by have:=(Za.1 hk).1;omega
       obtain⟨b,hb,gw⟩:=m2 k _ (Zb ie);rw[hk]at hb;cases hb;have rz:=vE _ (List.getElem_mem ie);rw[Ro rz gw];exact AJ (hv k _ (Zb ie)) rz)
      exact⟨p1,p2.mono λe w' ⟨v,he,dq,Kb⟩=>⟨ρ,lF hs dq,.inl ⟨v,he,.im Kb⟩⟩⟩
     .have hG:GOK C.G w X:=λg row hg=>by
       obtain⟨h1,h2⟩:=hs.s8 g row hg;exact⟨λhh=>h1 (.inl hh),h2⟩
      obtain⟨p1,p2⟩:=Wy w X vs hs.GA hG (by omega) (λk y hk=>by
       have ie:k<xs.length:=by have:=(Za.1 hk).1;omega
       obtain⟨b,hb,gw⟩:=m2 k _ (Zb ie);rw[hk]at hb;cases hb;exact sq hs 8 _ _ _ (hv k _ (Zb ie)) gw)
      exact⟨p1,p2.mono λe w' ⟨v,he,dq,Kb⟩=>⟨ρ,lF hs dq,.inl ⟨v,he,.im (Rr Kb Le)⟩⟩⟩
    .split at hc
     case isFalse=>cases hc
     rename_i hb;simp only[Zh,Option.isSome_iff_exists]at hb;obtain⟨_,zs,hzs⟩:=hb;simp only[Ze,Zg]at hc;obtain⟨h1,hz,rfl,rfl⟩:=hc;obtain⟨he,gw⟩:=Ga hs hz;obtain⟨z1,z2⟩:=iP hzs;obtain⟨p1,p2⟩:=Wy w (dK X ρ h1) vs (λb hb=>hb.elim (hs.GA b) λ⟨i,hi,e⟩=>e▸he.u6.lt hi) he.u6.s8 (by omega) (λk y hk=>by
      have ie:k<xs.length:=by have:=(Za.1 hk).1;omega
      obtain⟨b,hb,zZ⟩:=m2 k _ (Zb ie);obtain⟨b',GB,AA⟩:=z2 k _ (Zb ie);have J8:=Qq _ _ _ AA;rw[zZ]at J8;cases J8;rw[hk]at hb;cases hb;exact gw 8 _ _ _ (hv k _ (Zb ie)) AA)
     exact⟨p1,p2.mono λe w' ⟨v,AG,dq,Kb⟩=>⟨ρ,he.trans (lF he.u6 dq),.inl ⟨v,AG,.im Kb⟩⟩⟩
  .intro g xs h r h' ajY hc;simp only[ch,ajY,Ys,if_false,Xi]at hc;split at hc
   .cases hc
   split at hc
   case h_2=>cases hc
   split at hc
   case h_2=>cases hc
   split at hc
   case isFalse=>cases hc
   simp only[Zc,Zg]at hc;exact hc.2.symm
def Jd{C:Cx}(hC:pL C){n:Nat}{f:FuncId}{xs:List AV}{h':Hp}{r0 r:AV}(hb:om C (ch C n) f xs []=some (r0,h')){m:Nat}(gw:cD h' m r0=some r):iG C f xs r:=
 sC hC.base (gW hC n).1 (gW hC n).2 hb gw
end Go.Ae
