/- Part of the proof. -/
import Derived.Orders
import Derived.Laws.AppendOwn
import Derived.Laws.CopyRow
import Derived.Below
import Derived.Laws.IdiomStrings
import Derived.Laws.Cover3
import Derived.MapKept
import Derived.Sort.Statements
import Derived.Lib.BitFns
set_option linter.all false
namespace Go.Ae
open Go
def _root_.Go.cm.{u}{c:Prop}{h:Decidable c}(k:¬c){α:Sort u}{t e:α}:ite c t e=e:=if_neg k
def _root_.Go.cq.{u}{c:Prop}{h:Decidable c}(k:c){α:Sort u}{t e:α}:ite c t e=t:=if_pos k
abbrev Za:=@List.getElem?_eq_some_iff
abbrev Zb:=@List.getElem?_eq_getElem
abbrev Zc:=@Option.some.injEq
abbrev Zd:=@List.getElem?_append_left
abbrev Ze:=@Option.map_eq_some_iff
abbrev Zf:=@List.getElem?_append_right
abbrev Zg:=@Prod.mk.injEq
abbrev Zh:=@Bool.and_eq_true
abbrev Zi:=@List.mem_of_getElem?
abbrev Zj:=@List.getElem?_set_self
abbrev Zk:=@List.mem_append_right
abbrev Zl:=@List.eq_nil_of_length_eq_zero
abbrev Zm:=@List.drop_eq_getElem_cons
abbrev Zn:=@List.all_cons
abbrev Zo:=@List.mapM_cons
abbrev Zp:=@List.append_assoc
abbrev Zq:=@List.getElem?_set_ne
abbrev Zr:=@Array.getD_eq_getD_getElem?
abbrev Zs:=@List.getElem?_map
abbrev Zt:=@List.drop_eq_nil_of_le
abbrev Zu:=@List.length_append
abbrev Zv:=@List.cons_append
abbrev Zw:=@List.nil_append
abbrev Zx:=@Nat.mul_le_mul_right
abbrev Zy:=@decide_eq_true_eq
abbrev Zz:=@List.mem_append
abbrev Ya:=@Nat.le_of_not_lt
abbrev Yb:=@Option.isNone_iff_eq_none
abbrev Yc:=@List.drop_length
abbrev Yd:=@List.getElem?_cons_succ
abbrev Ye:=@List.getElem?_cons_zero
abbrev Yf:=@List.drop_succ_cons
abbrev Yg:=@List.take_succ_cons
abbrev Yh:=@List.take_zero
abbrev Yi:=@List.drop_zero
abbrev Yj:=@Option.bind_eq_some_iff
abbrev Yk:=@List.mem_map
abbrev Yl:=@List.getD_eq_getElem?_getD
abbrev Ym:=@List.length_map
abbrev Yn:=@List.map_append
abbrev Yo:=@Nat.lt_of_lt_of_le
abbrev Yp:=@Nat.le_trans
abbrev Yq:=@List.filter_append
abbrev Yr:=@List.append_nil
abbrev Ys:=@Bool.false_eq_true
abbrev Yt:=@List.all_eq_true
abbrev Yu:=@List.forall_mem_append
abbrev Yv:=@Nat.le_succ
abbrev Yw:=@List.mem_cons
abbrev Yx:=@Option.map_some
abbrev Yy:=@Bool.or_eq_true
abbrev Yz:=@List.map_cons
abbrev Xa:=@List.take_of_length_le
abbrev Xb:=@List.getElem?_range
abbrev Xc:=@Nat.le_refl
abbrev Xd:=@Bool.true_and
abbrev Xe:=@List.length_cons
abbrev Xf:=@List.length_take
abbrev Xg:=@Int.mul_le_mul_of_nonneg_right
abbrev Xh:=@List.getElem?_eq_none
abbrev Xi:=@Bool.false_and
abbrev Xj:=@Bool.not_eq_true'
abbrev Xk:=@Nat.ne_of_lt
abbrev Xl:=@Array.getElem?_eq_getElem
abbrev Xm:=@Option.getD_some
abbrev Xn:=@List.getElem?_take
abbrev Xo:=@List.getElem?_drop
abbrev Xp:=@Nat.add_mul
abbrev Xq:=@List.length_nil
abbrev Xr:=@List.getElem?_toArray
abbrev Xs:=@Nat.zero_add
abbrev Xt:=@Array.getElem?_eq_some_iff
abbrev Xu:=@List.length_filter_le
abbrev Xv:=@Bool.not_true
abbrev Xw:=@List.map_nil
abbrev Xx:=@List.take_length
abbrev Xy:=@Option.isSome_some
abbrev Xz:=@Option.isSome_none
abbrev Qa:=@Bool.not_false
abbrev Qb:=@Bool.eq_false_or_eq_true
abbrev Qc:=@List.isEmpty_nil
abbrev Qd:=@List.isEmpty_cons
abbrev Qe:=@List.length_eq_one_iff
abbrev Qf:=@List.not_mem_nil
abbrev Qg:=@List.getElem?_append
abbrev Qh:=@List.getElem_append
abbrev Qi:=@List.set_append
def kQ :Value->Bool
 | .bool _| .int .. | .float .. | .string _| .pointer none| .slice none 0 0| .map none| .nilFunc| .nilIface=>true
 | .iface _ v=>kQ v
 |_=>false
inductive AV where
 |ud
 |un
 |sc (v:Value)
 |ls (sz:Nat) (cg:List (List AV)) (z:Bool)
 |sl (id sz off len:Nat) (k:Bool)
 |pt (id off:Nat)
 |rp (row:List AV) (j:Nat)
 |fn (f:FuncId) (oe:List AV)
 |ag (cells:List AV)
 |tp (vs:List AV)
 |mp (id:Nat)
 |pn (v:Value)
 |oc
 deriving Inhabited
inductive eK where
 |dead
 |row (cs:List AV)
 |map (es:List (Value × AV)) (clock:Nat)
 |GR (cs:List AV)
 |raw (cs:List AV)
 |iter (s:ByteArray) (pos:Nat)
abbrev Hp :=List eK
inductive Ri (w:World)(X:Nat->Prop):Value->AV->Prop where
 |ud (v:Value):Ri w X v .ud
 |un:Ri w X undef .un
 |sc (v:Value):kQ v=true->Ri w X v (.sc v)
 |le (a:Option Addr) (cap sz:Nat) (z:Bool):cap<=maxLen->(z=true->cap=0)->Ri w X (.slice a 0 cap) (.ls sz [] z)
 |ls (b o len cap sz:Nat) (cg:List (List AV)) (z:Bool) (us:Nat->Nat->Value) (cF:Array Value) (t:TypeId) (fz:Nat × Nat):
  ¬X b->w.heap[b]?=some (.cells cF t fz)->cg.length=len->len<=cap->cap<=maxLen->(z=true->cap=len)->
  (∀(i:Nat)(row:List AV),cg[i]?=some row->row.length=sz)->
  (∀(i:Nat)(row:List AV)(j:Nat)(x:AV),cg[i]?=some row->row[j]?=some x->cF[o+i*sz+j]?=some (us i j)/\(us i j).oneCell'=true)->
  (∀(i:Nat)(row:List AV)(j:Nat)(x:AV),cg[i]?=some row->row[j]?=some x->Ri w X (us i j) x)->
  Ri w X (.slice (some ⟨b,o,none⟩) len cap) (.ls sz cg z)
 |rp (b o j:Nat) (row:List AV) (us:Nat->Value) (cF:Array Value) (t:TypeId) (fz:Nat × Nat):
  ¬X b->w.heap[b]?=some (.cells cF t fz)->
  (∀(k:Nat)(x:AV),row[k]?=some x->cF[o+k]?=some (us k)/\(us k).oneCell'=true)->
  (∀(k:Nat)(x:AV),row[k]?=some x->Ri w X (us k) x)->
  Ri w X (.pointer (some ⟨b,o+j,none⟩)) (.rp row j)
 |fn (f:FuncId) (us:Array Value) (xs:List AV):us.size=xs.length->(∀(k:Nat)(x:AV),xs[k]?=some x->Ri w X (us.getD k undef) x)->Ri w X (.func (.func f) #[] us) (.fn f xs)
 |ag (us:Array Value) (xs:List AV):us.size=xs.length->(∀k,k<us.size->(us.getD k undef).oneCell'=true)->(∀(k:Nat)(x:AV),xs[k]?=some x->Ri w X (us.getD k undef) x)->Ri w X (.agg us) (.ag xs)
 |tp (us:Array Value) (xs:List AV):us.size=xs.length->(∀(k:Nat)(x:AV),xs[k]?=some x->Ri w X (us.getD k undef) x)->Ri w X (.tuple us) (.tp xs)
 |oc (v:Value):v.oneCell'=true->Ri w X v .oc
inductive Rp (w:World)(X:Nat->Prop)(ρ:Nat->Nat)(n:Nat):Value->AV->Prop where
 |im {v:Value} {x:AV}:Ri w X v x->Rp w X ρ n v x
 |sl (id sz off len cap:Nat) (k:Bool) (cF:Array Value) (t:TypeId) (fz:Nat × Nat):id<n->w.heap[ρ id]?=some (.cells cF t fz)->off+cap*sz<=cF.size->(k=true->cap=len)->(k=false->off+cap*sz=cF.size)->len<=cap->cap<=maxLen->
  Rp w X ρ n (.slice (some ⟨ρ id,off,none⟩) len cap) (.sl id sz off len k)
 |pt (id off:Nat):id<n->Rp w X ρ n (.pointer (some ⟨ρ id,off,none⟩)) (.pt id off)
 |mp (id:Nat):id<n->Rp w X ρ n (.map (some (ρ id))) (.mp id)
 |fn (f:FuncId) (us:Array Value) (xs:List AV):us.size=xs.length->(∀(k:Nat)(x:AV),xs[k]?=some x->Rp w X ρ n (us.getD k undef) x)->Rp w X ρ n (.func (.func f) #[] us) (.fn f xs)
 |ag (us:Array Value) (xs:List AV):us.size=xs.length->(∀k,k<us.size->(us.getD k undef).oneCell'=true)->(∀(k:Nat)(x:AV),xs[k]?=some x->Rp w X ρ n (us.getD k undef) x)->Rp w X ρ n (.agg us) (.ag xs)
 |tp (us:Array Value) (xs:List AV):us.size=xs.length->(∀(k:Nat)(x:AV),xs[k]?=some x->Rp w X ρ n (us.getD k undef) x)->Rp w X ρ n (.tuple us) (.tp xs)
def vx :eK->Bool
 | .row _| .raw _| .map .. | .iter .. =>true
 |_=>false
def live(h:Hp)(i:Nat):Prop:=∃b,h[i]?=some b/\vx b=true
def own(ρ:Nat->Nat)(h:Hp)(b:Nat):Prop:=∃i,live h i/\ρ i=b
def dK(X:Nat->Prop)(ρ:Nat->Nat)(h:Hp)(b:Nat):Prop:=X b\/own ρ h b
structure Step (w:World)(O:Nat->Prop)(w':World)(O':Nat->Prop):Prop where
 os:w'.os=w.os
 tape:w'.tape=w.tape
 output:w'.output=w.output
 size:w.heap.size<=w'.heap.size
 keep:∀b,b<w.heap.size->¬O b->w'.heap[b]?=w.heap[b]?
 row:∀(b:Nat)(cF:Array Value)(t:TypeId)(fz:Nat × Nat),w.heap[b]?=some (Obj.cells cF t fz)->∃(cur':Array Value)(t':TypeId)(xZ:Nat × Nat),w'.heap[b]?=some (Obj.cells cur' t' xZ)/\cur'.size=cF.size
 less:∀b,b<w.heap.size->O' b->O b
 drew:w.drawn<=w'.drawn
def Step.refl(w:World)(O:Nat->Prop):Step w O w O:=
 ⟨rfl,rfl,rfl,Xc _,λ_ _ _=>rfl,λ_ _ _ _ h=>⟨_,_,_,h,rfl⟩,λ_ _ h=>h,Xc _⟩
def Step.trans{w w1 w2:World}{O O1 O2:Nat->Prop}(h:Step w O w1 O1)(k:Step w1 O1 w2 O2):Step w O w2 O2:={
 os:=k.os.trans h.os
 tape:=k.tape.trans h.tape
 output:=k.output.trans h.output
 size:=Yp h.size k.size
 keep:=λb hb hO=>(k.keep b (Yo hb h.size) λh1=>hO (h.less b hb h1)).trans (h.keep b hb hO)
 row:=λb cF t fz hc=>by
  obtain⟨c1,t1,aa,h1,e1⟩:=h.row b cF t fz hc;obtain⟨c2,t2,af,h2,e2⟩:=k.row b c1 t1 aa h1;exact⟨c2,t2,af,h2,e2.trans e1⟩
 less:=λb hb h2=>h.less b hb (k.less b (Yo hb h.size) h2)
 drew:=Yp h.drew k.drew}
def eP{w:World}{b:Nat}{o:Obj}(h:w.heap[b]?=some o):b<w.heap.size:=(Xt.1 h).1
structure Kept (w:World)(X:Nat->Prop)(w':World)(X':Nat->Prop):Prop where
 keep:∀b,b<w.heap.size->¬X b->w'.heap[b]?=w.heap[b]?
 less:∀b,b<w.heap.size->X' b->X b
def Ri.kept{w w':World}{X X':Nat->Prop}(hk:Kept w X w' X'){v:Value}{x:AV}(h:Ri w X v x):Ri w' X' v x:=by
 induction h with
 |ud v=>exact .ud v
 |un=>exact .un
 |sc v hv=>exact .sc v hv
 |le a cap sz z h1 h2=>exact .le a cap sz z h1 h2
 |ls b o len cap sz cg z us cF t fz hx hb h1 h2 h3 h4 h5 h6 h7 ih=>
  have dm:=eP hb;exact .ls b o len cap sz cg z us cF t fz (λhh=>hx (hk.less b dm hh)) ((hk.keep b dm hx).trans hb) h1 h2 h3 h4 h5 h6 ih
 |rp b o j row us cF t fz hx hb h1 h2 ih=>
  have dm:=eP hb;exact .rp b o j row us cF t fz (λhh=>hx (hk.less b dm hh)) ((hk.keep b dm hx).trans hb) h1 ih
 |fn f us xs h1 h2 ih=>exact .fn f us xs h1 ih
 |ag us xs h1 h2 h3 ih=>exact .ag us xs h1 h2 ih
 |tp us xs h1 h2 ih=>exact .tp us xs h1 ih
 |oc v h1=>exact .oc v h1
def Ri.AQ{w:World}{X X':Nat->Prop}(hX:∀b,X' b->X b){v:Value}{x:AV}(h:Ri w X v x):Ri w X' v x:=
 h.kept ⟨λ_ _ _=>rfl,λb _=>hX b⟩
def Step.kept{w w':World}{X:Nat->Prop}{ρ ρ':Nat->Nat}{h h':Hp}(hs:Step w (own ρ h) w' (own ρ' h')):Kept w (dK X ρ h) w' (dK X ρ' h'):={
 keep:=λb hb hX=>hs.keep b hb λho=>hX (.inr ho)
 less:=λb hb hX=>hX.imp id (hs.less b hb)}
def Rp.step{w w':World}{X:Nat->Prop}{ρ ρ':Nat->Nat}{h h':Hp}(hs:Step w (own ρ h) w' (own ρ' h')){n n':Nat}(hρ:∀i,i<n->ρ' i=ρ i)(hn:n<=n'){v:Value}{x:AV}(hr:Rp w (dK X ρ h) ρ n v x):Rp w' (dK X ρ' h') ρ' n' v x:=by
 induction hr with
 |im hi=>exact .im (hi.kept hs.kept)
 |sl id sz off len cap k cF t fz h1 h2 h3 h4 h5 h6 h7=>
  obtain⟨c',t',f',hc,fX⟩:=hs.row _ _ _ _ h2;rw[<-hρ id h1]at hc|-;exact .sl id sz off len cap k c' t' f' (Yo h1 hn) hc (by rw[fX];exact h3) h4 (by rw[fX];exact h5) h6 h7
 |pt id off h1=>rw[<-hρ id h1];exact .pt id off (Yo h1 hn)
 |mp id h1=>rw[<-hρ id h1];exact .mp id (Yo h1 hn)
 |fn f us xs h1 h2 ih=>exact .fn f us xs h1 ih
 |ag us xs h1 h2 h3 ih=>exact .ag us xs h1 h2 ih
 |tp us xs h1 h2 ih=>exact .tp us xs h1 ih
def Fz(fz:Nat × Nat)(cF:Array Value):Prop:=fz=(0,0)\/(cF.size<=fz.1/\False)
def Fw(fz:Nat × Nat)(cF:Array Value):Prop:=fz=(0,0)\/cF.size<=fz.1
def Fz.eq{fz:Nat × Nat}{cF:Array Value}(h:Fz fz cF):fz=(0,0):=h.elim (λq=>q) λq=>q.2.elim
def wX(w:World)(X:Nat->Prop)(ρ:Nat->Nat)(n:Nat)(ob:Option Obj):eK->Prop
 | .dead=>True
 | .row cs=>∃(cF:Array Value)(t:TypeId)(fz:Nat × Nat)(us:Nat->Value),ob=some (.cells cF t fz)/\Fz fz cF/\cs.length<=cF.size/\
  ∀k x,cs[k]?=some x->cF[k]?=some (us k)/\(us k).oneCell'=true/\Rp w X ρ n (us k) x
 | .map es clock=>∃ms:Array MapEntry,ob=some (.map ms clock)/\ms.size=es.length/\(ms.toList.map (·.born)).Nodup/\
  ∀(k:Nat)(e:Value × AV),es[k]?=some e->∃m:MapEntry,ms[k]?=some m/\m.key=e.1/\kQ e.1=true/\m.born<clock/\Rp w X ρ n m.val e.2
 | .GR cs=>∃(cF:Array Value)(t:TypeId)(fz:Nat × Nat)(us:Nat->Value),ob=some (.cells cF t fz)/\
  ∀k x,cs[k]?=some x->cF[k]?=some (us k)/\(us k).oneCell'=true/\Ri w X (us k) x
 | .iter s pos=>ob=some (.stringIter s pos)
 | .raw cs=>∃(cF:Array Value)(t:TypeId)(fz:Nat × Nat)(us:Nat->Value),ob=some (.cells cF t fz)/\Fw fz cF/\cs.length<=cF.size/\
  ∀k x,cs[k]?=some x->cF[k]?=some (us k)/\(us k).oneCell'=true/\Rp w X ρ n (us k) x
def wX.step{w w':World}{X:Nat->Prop}{ρ ρ':Nat->Nat}{h h':Hp}(hs:Step w (own ρ h) w' (own ρ' h')){n n':Nat}(hρ:∀i,i<n->ρ' i=ρ i)(hn:n<=n'){ob:Option Obj}{b:eK}(hr:wX w (dK X ρ h) ρ n ob b):wX w' (dK X ρ' h') ρ' n' ob b:=by
 cases b with
 |dead=>trivial
 |row cs=>
  obtain⟨cF,t,fz,us,h1,hf,h2,h3⟩:=hr;exact⟨cF,t,fz,us,h1,hf,h2,λk x hk=>⟨(h3 k x hk).1,(h3 k x hk).2.1,(h3 k x hk).2.2.step hs hρ hn⟩⟩
 |map es clock=>
  obtain⟨ms,h1,h2,RW,h3⟩:=hr;refine⟨ms,h1,h2,RW,λk e hk=>?_⟩;obtain⟨m,a1,a2,a3,a4,a5⟩:=h3 k e hk;exact⟨m,a1,a2,a3,a4,a5.step hs hρ hn⟩
 |GR cs=>
  obtain⟨cF,t,fz,us,h1,h3⟩:=hr;exact⟨cF,t,fz,us,h1,λk x hk=>⟨(h3 k x hk).1,(h3 k x hk).2.1,(h3 k x hk).2.2.kept hs.kept⟩⟩
 |iter s pos=>exact hr
 |raw cs=>
  obtain⟨cF,t,fz,us,h1,hf,h2,h3⟩:=hr;exact⟨cF,t,fz,us,h1,hf,h2,λk x hk=>⟨(h3 k x hk).1,(h3 k x hk).2.1,(h3 k x hk).2.2.step hs hρ hn⟩⟩
def wX.lt{w w0:World}{X:Nat->Prop}{ρ:Nat->Nat}{n p:Nat}{b:eK}(h:wX w X ρ n w0.heap[p]? b)(hb:b≠ .dead):p<w0.heap.size:=by
 cases b with
 |dead=>exact absurd rfl hb
 |row cs=>obtain⟨_,_,_,_,hc,_⟩:=h;exact eP hc
 |map es c=>obtain⟨_,hc,_⟩:=h;exact eP hc
 |GR cs=>obtain⟨_,_,_,_,hc,_⟩:=h;exact eP hc
 |raw cs=>obtain⟨_,_,_,_,hc,_⟩:=h;exact eP hc
 |iter s pos=>exact eP h
def gav :Value->AV
 | .tuple _=> .ud
 |v=> .sc v
def gok(v u:Value):Prop:=
 match v with
 | .tuple _=>∃m:Int,u= .int .i64 m
 |v=>u=v/\kQ v=true
def acL{w:World}{X:Nat->Prop}{v u:Value}(h:gok v u):Ri w X u (gav v):=by
 unfold gok at h;unfold gav;split
 .exact .ud u
 .rename_i hn;split at h
  .exact absurd rfl (hn _)
  .obtain⟨rfl,hf⟩:=h;exact .sc _ hf
structure gf (G:Nat->Option (List Value))(w:World)(X:Nat->Prop)(ρ:Nat->Nat)(h:Hp):Prop where
 GA:∀b,X b->b<w.heap.size
 s8:∀(g:Nat)(row:List Value),G g=some row->¬dK X ρ h g/\∃(cF:Array Value)(t:TypeId)(fz:Nat × Nat),w.heap[g]?=some (.cells cF t fz)/\cF.size=row.length/\∀(k:Nat)(v:Value),row[k]?=some v->∃u,cF[k]?=some u/\u.oneCell'=true/\gok v u
 inj:∀i j,live h i->live h j->ρ i=ρ j->i=j
 out:∀i,live h i->¬X (ρ i)
 jI:∀(i:Nat)(cs:List AV),h[i]?=some (.GR cs)->¬dK X ρ h (ρ i)
 y6:∀(i:Nat)(b:eK),h[i]?=some b->wX w (dK X ρ h) ρ h.length w.heap[ρ i]? b
def gf.row{G:Nat->Option (List Value)}{w:World}{X:Nat->Prop}{ρ:Nat->Nat}{h:Hp}(hs:gf G w X ρ h)(i:Nat)(cs:List AV)(hi:h[i]?=some (.row cs)):
 ∃(cF:Array Value)(t:TypeId)(fz:Nat × Nat)(us:Nat->Value),w.heap[ρ i]?=some (.cells cF t fz)/\Fz fz cF/\cs.length<=cF.size/\
 ∀k x,cs[k]?=some x->cF[k]?=some (us k)/\(us k).oneCell'=true/\Rp w (dK X ρ h) ρ h.length (us k) x:=hs.y6 i _ hi
def gf.lt{G:Nat->Option (List Value)}{w:World}{X:Nat->Prop}{ρ:Nat->Nat}{h:Hp}(hs:gf G w X ρ h){i:Nat}(hi:live h i):ρ i<w.heap.size:=by
 obtain⟨b,hb,hd⟩:=hi;exact(hs.y6 i b hb).lt (λe=>by subst e;cases hd)
def RF(w:World)(X:Nat->Prop)(ρ:Nat->Nat)(n:Nat)(tmps:Array Value)(fr:List AV):Prop:=
 tmps.size=fr.length/\∀(i:Nat)(x:AV),fr[i]?=some x->Rp w X ρ n (tmps.getD i undef) x
def RF.step{w w':World}{X:Nat->Prop}{ρ ρ':Nat->Nat}{h h':Hp}(hs:Step w (own ρ h) w' (own ρ' h')){n n':Nat}(hρ:∀i,i<n->ρ' i=ρ i)(hn:n<=n'){tmps:Array Value}{fr:List AV}(hr:RF w (dK X ρ h) ρ n tmps fr):RF w' (dK X ρ' h') ρ' n' tmps fr:=
 ⟨hr.1,λi x hx=>(hr.2 i x hx).step hs hρ hn⟩
def RF.put{w:World}{X:Nat->Prop}{ρ:Nat->Nat}{n:Nat}{tmps:Array Value}{fr:List AV}(hr:RF w X ρ n tmps fr)(d:Nat){v:Value}{x:AV}(hv:Rp w X ρ n v x):
 RF w X ρ n (tmps.setIfInBounds d v) (fr.set d x):=by
 refine⟨by simp[hr.1],λi y hy=>?_⟩;by_cases cZ:d=i
 .subst cZ;have dm:d<fr.length:=by have:=(Za.1 hy).1;simpa using this
  rw[Zj dm]at hy;cases hy;have:d<tmps.size:=by rw[hr.1];exact dm
  simpa[this]using hv
 .rw[Zq cZ]at hy;have h2:=hr.2 i y hy;simpa[Array.getElem?_setIfInBounds_ne cZ]using h2
structure Ext (G:Nat->Option (List Value))(w:World)(X:Nat->Prop)(ρ:Nat->Nat)(h:Hp)(w':World)(ρ':Nat->Nat)(h':Hp):Prop where
 u6:gf G w' X ρ' h'
 rho:∀i,i<h.length->ρ' i=ρ i
 len:h.length<=h'.length
 step:Step w (own ρ h) w' (own ρ' h')
def Ext.refl{G:Nat->Option (List Value)}{w:World}{X:Nat->Prop}{ρ:Nat->Nat}{h:Hp}(hs:gf G w X ρ h):Ext G w X ρ h w ρ h:=⟨hs,λ_ _=>rfl,Xc _,Step.refl _ _⟩
def Ext.trans{G:Nat->Option (List Value)}{w w1 w2:World}{X:Nat->Prop}{ρ ρ1 ρ2:Nat->Nat}{h h1 h2:Hp}(e:Ext G w X ρ h w1 ρ1 h1)(k:Ext G w1 X ρ1 h1 w2 ρ2 h2):Ext G w X ρ h w2 ρ2 h2:=
 ⟨k.u6,λi hi=>(k.rho i (Yo hi e.len)).trans (e.rho i hi),Yp e.len k.len,e.step.trans k.step⟩
def Ext.rp{G:Nat->Option (List Value)}{w w':World}{X:Nat->Prop}{ρ ρ':Nat->Nat}{h h':Hp}(e:Ext G w X ρ h w' ρ' h'){v:Value}{x:AV}(hr:Rp w (dK X ρ h) ρ h.length v x):Rp w' (dK X ρ' h') ρ' h'.length v x:=
 hr.step e.step e.rho e.len
def Ext.rf{G:Nat->Option (List Value)}{w w':World}{X:Nat->Prop}{ρ ρ':Nat->Nat}{h h':Hp}(e:Ext G w X ρ h w' ρ' h'){tmps:Array Value}{fr:List AV}(hr:RF w (dK X ρ h) ρ h.length tmps fr):RF w' (dK X ρ' h') ρ' h'.length tmps fr:=
 hr.step e.step e.rho e.len
def Ah{G:Nat->Option (List Value)}{w:World}{X:Nat->Prop}{ρ:Nat->Nat}{h:Hp}(hs:gf G w X ρ h)(ob:Obj)(b:eK)(hlb:vx b=true)(hb:wX w (dK X ρ h) ρ h.length (some ob) b):
 Ext G w X ρ h (w.alloc ob) (λi=>if i=h.length then w.heap.size else ρ i) (h++[b]):=by
 have mi:(w.alloc ob).heap=w.heap.push ob:=rfl;have abJ:(w.alloc ob).heap.size=w.heap.size+1:=by rw[mi];simp
 have hold:∀b,b<w.heap.size->(w.alloc ob).heap[b]?=w.heap[b]?:=λb hb=>by
  rw[mi];simp[Array.getElem?_push,Xk hb]
 have Kc:(w.alloc ob).heap[w.heap.size]?=some ob:=by rw[mi];simp
 have gL:∀i,live (h++[b]) i->(live h i/\i<h.length)\/i=h.length:=by
  rintro i ⟨b',GB,hd⟩;by_cases hi:i<h.length
  .rw[Zd hi]at GB;exact .inl ⟨⟨b',GB,hd⟩,hi⟩
  .right;have:i< (h++[b]).length:=(Za.1 GB).1;simp at this;omega
 have dM:Step w (own ρ h) (w.alloc ob) (own (λi=>if i=h.length then w.heap.size else ρ i) (h++[b])):=by
  refine⟨rfl,rfl,rfl,by omega,λb hb _=>hold b hb,λb c t' xZ hb=>⟨c,t',xZ,?_,rfl⟩,?_,Xc _⟩
  .rw[hold b (eP hb)];exact hb
  .rintro b hb ⟨i,hi,hρ⟩;rcases gL i hi with⟨hl,dm⟩|rfl
   .exact⟨i,hl,by simpa[Xk dm]using hρ⟩
   .simp at hρ;omega
 have AR:∀i,i<h.length->(λi=>if i=h.length then w.heap.size else ρ i) i=ρ i:=λi hi=>by simp[Xk hi]
 have hX:=hs.GA;have vy:∀(i:Nat)(b':eK),(h++[b])[i]?=some b'->(i<h.length/\h[i]?=some b')\/(i=h.length/\b'=b):=by
  intro i b' hi;by_cases dm:i<h.length
  .rw[Zd dm]at hi;exact .inl ⟨dm,hi⟩
  .have he:i=h.length:=by have:i< (h++[b]).length:=(Za.1 hi).1;simp at this;omega
   subst he;simp at hi;exact .inr ⟨rfl,hi.symm⟩
 refine⟨⟨λb hb=>by have:=hX b hb;omega,λg row hg=>?_,?_,?_,?_,?_⟩,AR,by simp,dM⟩
 .obtain⟨h1,c,t',xZ,h2,h3⟩:=hs.s8 g row hg;refine⟨λhh=>h1 (dM.kept.less g (eP h2) hh),c,t',xZ,?_,h3⟩;rw[hold g (eP h2)];exact h2
 .intro i j hi hj pZ;rcases gL i hi with⟨JX,Mt⟩|rfl<;>rcases gL j hj with⟨Sr,AU⟩|rfl
  .simp[Xk Mt,Xk AU]at pZ;exact hs.inj i j JX Sr pZ
  .simp[Xk Mt]at pZ;have:=hs.lt JX;omega
  .simp[Xk AU]at pZ;have:=hs.lt Sr;omega
  .rfl
 .intro i hi hx;rcases gL i hi with⟨JX,Mt⟩|rfl
  .simp[Xk Mt]at hx;exact hs.out i JX hx
  .simp at hx;have:=hX _ hx;omega
 .intro i cs hi hh;rcases vy i _ hi with⟨dm,p8⟩|⟨_,e⟩
  .have h1:=hs.jI i cs p8;have h2:=(hs.y6 i _ p8).lt (by simp);simp only[Xk dm,if_false]at hh;exact h1 (dM.kept.less _ h2 hh)
  .subst e;cases hlb
 .intro i b' hi;rcases vy i b' hi with⟨dm,p8⟩|⟨rfl,rfl⟩
  .have h1:=hs.y6 i b' p8;by_cases hd:b'= .dead
   .subst hd;trivial
   .simp only[Xk dm,if_false];rw[hold _ (h1.lt hd)];exact h1.step dM AR (by simp)
  .simp only[if_true,Kc];exact hb.step dM AR (by simp)
def uw{G:Nat->Option (List Value)}{w:World}{X:Nat->Prop}{ρ:Nat->Nat}{h:Hp}(hs:gf G w X ρ h)(cF:Array Value)(t:TypeId)(cs:List AV)(us:Nat->Value)(cf:cs.length<=cF.size)(hcs:∀k x,cs[k]?=some x->cF[k]?=some (us k)/\(us k).oneCell'=true/\Rp w (dK X ρ h) ρ h.length (us k) x)(fz:Nat × Nat)(CX:Fz fz cF):
 Ext G w X ρ h (w.alloc (.cells cF t fz)) (λi=>if i=h.length then w.heap.size else ρ i) (h++[eK.row cs]):=
 Ah hs _ _ rfl ⟨cF,t,fz,us,rfl,CX,cf,hcs⟩
def qa{G:Nat->Option (List Value)}{w w':World}{X:Nat->Prop}{ρ:Nat->Nat}{h:Hp}(hs:gf G w X ρ h)(id:Nat)(b0 b:eK)(cZ:h[id]?=some b0)(pg:vx b0=true)(hlb:vx b=true)(ho:w'.os=w.os)(hta:w'.tape=w.tape)(hou:w'.output=w.output)(fX:w'.heap.size=w.heap.size)(fG:∀(cF:Array Value)(t:TypeId)(fz:Nat × Nat),w.heap[ρ id]?=some (.cells cF t fz)->∃(cur':Array Value)(t':TypeId)(xZ:Nat × Nat),w'.heap[ρ id]?=some (.cells cur' t' xZ)/\cur'.size=cF.size)(eF:∀b,b≠ρ id->w'.heap[b]?=w.heap[b]?)(hb:wX w (dK X ρ h) ρ h.length w'.heap[ρ id]? b)(Ke:w.drawn<=w'.drawn:=by exact Xc _):
 Ext G w X ρ h w' ρ (h.set id b):=by
 have dm:id<h.length:=(Za.1 cZ).1;have gL:∀i,live (h.set id b) i↔live h i:=by
  intro i;unfold live;by_cases hi:id=i
  .subst hi;exact⟨λ_=>⟨_,cZ,pg⟩,λ_=>⟨_,Zj dm,hlb⟩⟩
  .rw[Zq hi]
 have zO:∀p,own ρ (h.set id b) p↔own ρ h p:=λp=>⟨λ⟨i,a,c⟩=>⟨i,(gL i).1 a,c⟩,λ⟨i,a,c⟩=>⟨i,(gL i).2 a,c⟩⟩
 have Kf:own ρ h (ρ id):=⟨id,⟨_,cZ,pg⟩,rfl⟩;have dM:Step w (own ρ h) w' (own ρ (h.set id b)):=by
  refine⟨ho,hta,hou,by omega,λb _ hb=>eF b (λe=>hb (e▸Kf)),λp c t' fz hp=>?_,λp _ hp=>(zO p).1 hp,Ke⟩;by_cases e:p=ρ id
  .subst e;exact fG c t' fz hp
  .exact⟨c,t',fz,(eF p e).trans hp,rfl⟩
 refine⟨⟨λp hp=>by have:=hs.GA p hp;omega,λg row hg=>?_,λi j hi hj=>hs.inj i j ((gL i).1 hi) ((gL j).1 hj),λi hi=>hs.out i ((gL i).1 hi),?_,?_⟩,λ_ _=>rfl,by simp,dM⟩
 .obtain⟨h1,c,t',fz,h2,h3⟩:=hs.s8 g row hg;refine⟨λhh=>h1 (dM.kept.less g (eP h2) hh),c,t',fz,?_,h3⟩;rw[eF g (λe=>h1 (.inr (e▸Kf)))];exact h2
 .intro i cs hi hh;by_cases e:id=i
  .subst e;rw[Zj dm]at hi;cases hi;cases hlb
  .rw[Zq e]at hi;exact hs.jI i cs hi (hh.imp (λq=>q) (zO _).1)
 .intro i b' hi;by_cases e:id=i
  .subst e;rw[Zj dm]at hi;cases hi;exact hb.step dM (λ_ _=>rfl) (by simp)
  .rw[Zq e]at hi;have h1:=hs.y6 i b' hi;by_cases hd:b'= .dead
   .subst hd;trivial
   .have aiR:ρ i≠ρ id:=by
     intro e';cases RX:vx b' with
     |true=>exact e (hs.inj id i ⟨_,cZ,pg⟩ ⟨_,hi,RX⟩ e'.symm)
     |
      false=>
      cases b' with
      |dead=>exact hd rfl
      |GR cs=>exact hs.jI i cs hi (.inr (e'▸Kf))
      |row cs=>cases RX
      |raw cs=>cases RX
      |map es c=>cases RX
      |iter s p=>cases RX
    rw[eF _ aiR];exact h1.step dM (λ_ _=>rfl) (by simp)
def Dy{G:Nat->Option (List Value)}{w w':World}{X:Nat->Prop}{ρ:Nat->Nat}{h:Hp}(hs:gf G w X ρ h)(id:Nat)(XY:List AV)(cZ:h[id]?=some (.row XY))(cF cur':Array Value)(t:TypeId)(fz0:Nat × Nat)(CX:Fz fz0 cF)(l_:w.heap[ρ id]?=some (.cells cF t fz0))(ho:w'.os=w.os)(hta:w'.tape=w.tape)(hou:w'.output=w.output)(fX:w'.heap.size=w.heap.size)(Od:w'.heap[ρ id]?=some (.cells cur' t fz0))(og:cur'.size=cF.size)(eF:∀b,b≠ρ id->w'.heap[b]?=w.heap[b]?)(cs:List AV)(us:Nat->Value)(cf:cs.length<=cur'.size)(hcs:∀k x,cs[k]?=some x->cur'[k]?=some (us k)/\(us k).oneCell'=true/\Rp w (dK X ρ h) ρ h.length (us k) x)(Ke:w.drawn<=w'.drawn:=by exact Xc _):
 Ext G w X ρ h w' ρ (h.set id (.row cs)):=
 qa hs id _ _ cZ rfl rfl ho hta hou fX (λc t' f hc=>by rw[l_]at hc;cases hc;exact⟨_,_,_,Od,og⟩) eF
  ⟨cur',t,fz0,us,Od,CX.imp (λq=>q) (λhh=>by rw[og];exact hh),cf,hcs⟩ Ke
def GU{G:Nat->Option (List Value)}{w:World}{X:Nat->Prop}{ρ:Nat->Nat}{h:Hp}(hs:gf G w X ρ h)(h':Hp)(cf:h'.length=h.length)(hb:∀(i:Nat)(b':eK),h'[i]?=some b'->b'= .dead\/h[i]?=some b'\/∃cs,b'= .GR cs/\live h i/\wX w (dK X ρ h') ρ h.length w.heap[ρ i]? (.GR cs)):Ext G w X ρ h w ρ h':=by
 have gL:∀i,live h' i->live h i:=by
  rintro i ⟨b,hi,hl⟩;rcases hb i b hi with rfl|h1|⟨cs,rfl,_⟩
  .cases hl
  .exact⟨b,h1,hl⟩
  .cases hl
 have zO:∀b,own ρ h' b->own ρ h b:=λb ⟨i,a,c⟩=>⟨i,gL i a,c⟩
 have dM:Step w (own ρ h) w (own ρ h'):=⟨rfl,rfl,rfl,Xc _,λ_ _ _=>rfl,λ_ _ _ _ hb=>⟨_,_,_,hb,rfl⟩,λb _=>zO b,Xc _⟩;have nz:h.length<=h'.length:=by omega
 refine⟨⟨hs.GA,λg row hg=>?_,λi j hi hj=>hs.inj i j (gL i hi) (gL j hj),λi hi=>hs.out i (gL i hi),?_,?_⟩,λ_ _=>rfl,nz,dM⟩
 .obtain⟨h1,c,t',fz,h2,h3⟩:=hs.s8 g row hg;exact⟨λhh=>h1 (dM.kept.less g (eP h2) hh),c,t',fz,h2,h3⟩
 .intro i cs hi hh;rcases hb i _ hi with h1|h1|⟨cs',_,hl,_⟩
  .cases h1
  .exact hs.jI i cs h1 (hh.imp (λq=>q) (zO _))
  .rcases hh with hx|⟨j,hj,e⟩
   .exact hs.out i hl hx
   .have:j=i:=hs.inj j i (gL j hj) hl e;subst this;obtain⟨b,hjb,RX⟩:=hj;rw[hi]at hjb;cases hjb;cases RX
 .intro i b' hi;rcases hb i b' hi with rfl|h1|⟨cs,rfl,_,h2⟩
  .trivial
  .exact(hs.y6 i b' h1).step dM (λ_ _=>rfl) nz
  .exact h2.step (Step.refl w (own ρ h')) (λ_ _=>rfl) nz
def GX{G:Nat->Option (List Value)}{w:World}{X:Nat->Prop}{ρ:Nat->Nat}{h:Hp}(hs:gf G w X ρ h)(id:Nat):Ext G w X ρ h w ρ (h.set id eK.dead):=by
 refine GU hs _ (by simp) λi b hi=>?_
 by_cases e:id=i
 .subst e;rw[List.getElem?_set_self']at hi;cases hq:h[id]?<;>simp[hq]at hi;exact .inl hi.symm
 .rw[Zq e]at hi;exact .inr (.inl hi)
def AW{G:Nat->Option (List Value)}{w:World}{X:Nat->Prop}{ρ:Nat->Nat}{h:Hp}(hs:gf G w X ρ h)(id:Nat)(cs:List AV)(cZ:h[id]?=some (.row cs)):
 Ext G w X ρ h w (λi=>if i=h.length then ρ id else ρ i) (h.set id eK.dead++[eK.row cs]):=by
 have dm:id<h.length:=(Za.1 cZ).1;have cf:(h.set id eK.dead).length=h.length:=by simp
 have vy:∀(i:Nat)(b:eK),(h.set id eK.dead++[eK.row cs])[i]?=some b->b≠ .dead->(i<h.length/\i≠id/\h[i]?=some b)\/(i=h.length/\b= .row cs):=by
  intro i b hi hd;by_cases k_:i<h.length
  .rw[Zd (by omega)]at hi;by_cases e:id=i
   .subst e;simp[dm]at hi;exact absurd hi.symm hd
   .rw[Zq e]at hi;exact .inl ⟨k_,λe'=>e e'.symm,hi⟩
  .have:i< (h.set id eK.dead++[eK.row cs]).length:=(Za.1 hi).1;have he:i=h.length:=by simp at this;omega
   subst he;rw[Zf (by omega)]at hi;simp at hi;exact .inr ⟨rfl,hi.symm⟩
 have XZ:live h id:=⟨_,cZ,rfl⟩;have gL:∀i,live (h.set id eK.dead++[eK.row cs]) i->(i<h.length/\i≠id/\live h i)\/i=h.length:=by
  rintro i ⟨b,hb,hd⟩;rcases vy i b hb (λe=>by subst e;cases hd)with⟨h1,h2,h3⟩|⟨h1,_⟩
  .exact .inl ⟨h1,h2,b,h3,hd⟩
  .exact .inr h1
 have zO:∀b,own (λi=>if i=h.length then ρ id else ρ i) (h.set id eK.dead++[eK.row cs]) b->own ρ h b:=by
  rintro b ⟨i,hi,e⟩;rcases gL i hi with⟨h1,_,h3⟩|rfl
  .exact⟨i,h3,by simpa[Xk h1]using e⟩
  .exact⟨id,XZ,by simpa using e⟩
 have dM:Step w (own ρ h) w (own (λi=>if i=h.length then ρ id else ρ i) (h.set id eK.dead++[eK.row cs])):=
  ⟨rfl,rfl,rfl,Xc _,λ_ _ _=>rfl,λ_ _ _ _ hb=>⟨_,_,_,hb,rfl⟩,λb _=>zO b,Xc _⟩
 have AR:∀i,i<h.length->(λi=>if i=h.length then ρ id else ρ i) i=ρ i:=λi hi=>by simp[Xk hi]
 refine⟨⟨hs.GA,λg row hg=>?_,λi j hi hj pZ=>?_,λi hi=>?_,?_,?_⟩,AR,by simp,dM⟩
 .obtain⟨h1,c,t',fz,h2,h3⟩:=hs.s8 g row hg;exact⟨λhh=>h1 (dM.kept.less g (eP h2) hh),c,t',fz,h2,h3⟩
 .rcases gL i hi with⟨i1,i2,i3⟩|rfl<;>rcases gL j hj with⟨j1,j2,j3⟩|rfl
  .simp[Xk i1,Xk j1]at pZ;exact hs.inj i j i3 j3 pZ
  .simp[Xk i1]at pZ;exact absurd (hs.inj i id i3 XZ pZ) i2
  .simp[Xk j1]at pZ;exact absurd (hs.inj j id j3 XZ pZ.symm) j2
  .rfl
 .rcases gL i hi with⟨i1,_,i3⟩|rfl
  .simpa[Xk i1]using hs.out i i3
  .simpa using hs.out id XZ
 .intro i cs' hi hh;rcases vy i _ hi (by simp)with⟨i1,_,i3⟩|⟨_,e⟩
  .simp only[Xk i1,if_false]at hh;exact hs.jI i cs' i3 (hh.imp (λq=>q) (zO _))
  .cases e
 .intro i b hi;by_cases hd:b= .dead
  .subst hd;trivial
  .rcases vy i b hi hd with⟨i1,_,i3⟩|⟨rfl,rfl⟩
   .simp only[Xk i1,if_false];exact(hs.y6 i b i3).step dM AR (by simp)
   .simp only[if_true];exact(hs.y6 id _ cZ).step dM AR (by simp)
def qd{G:Nat->Option (List Value)}{w:World}{X:Nat->Prop}{ρ:Nat->Nat}{h:Hp}(hs:gf G w X ρ h)(k:Nat)(hk:w.drawn<=k:=by omega):Ext G w X ρ h {w with drawn:=k} ρ h:=by
 have dM:Step w (own ρ h) {w with drawn:=k} (own ρ h):=⟨rfl,rfl,rfl,Xc _,λ_ _ _=>rfl,λ_ _ _ _ hb=>⟨_,_,_,hb,rfl⟩,λ_ _ hh=>hh,hk⟩;exact⟨⟨hs.GA,hs.s8,hs.inj,hs.out,hs.jI,λi b hi=>(hs.y6 i b hi).step dM (λ_ _=>rfl) (Xc _)⟩,λ_ _=>rfl,Xc _,dM⟩
inductive Kd where
 |GY
 |struct (fs:List (Nat × Nat × Bool))
 |slice (Mu:Nat) (aiS:Bool) (ebytes:Nat) (ezero:List Value)
 |array (n Mu:Nat) (aiS:Bool)
structure Ti where
 size:Nat
 agg:Bool
 zero:List Value
 kd:Kd
inductive Rv where
 |tmp (t:Nat)
 |cell (a sz:Nat) (agg:Bool)
structure Fi where
 ntmps:Nat
 body:Code
 res:List Rv
abbrev iB:=FuncId->List AV->Hp->Option (AV × Hp)
structure Cx where
 P:Program
 T:TypeId->Option Ti
 G:Nat->Option (List Value)
 F:FuncId->Option Fi
 inl:FuncId->Bool
 ux:FuncId->List AV->Option AV
 oW:FuncId->Option (FuncId × TypeId)
 Ss:FuncId->Option TypeId
 jI:Oper->Bool
 ext:FuncId->Bool
 ins:FuncId->Option (Nat × Nat)
 nf:FuncId->AV->AV
 thr:FuncId->Bool:=λ_=>false
 two:Nat->Array Oper->Option (Nat × Nat):=λ_ _=>none
 fuel:Nat
def eQ(P:Program){α:Type}:Sem α->Option α
 | .pure a=>some a
 | .program k=>eQ P (k P)
 | .mark _ k=>eQ P k
 |_=>none
def ofConst :Value->AV
 | .agg cs=>if cs.toList.all kQ then .ag (cs.toList.map .sc)else .ud
 |v=>if kQ v then .sc v else .ud
def ev(C:Cx)(fr:List AV):Operand->AV
 | .tmp t=>fr.getD t .ud
 | .const v=>ofConst v
 | .global g=>match C.G g with|some row=> .rp (row.map gav) 0|none=> .ud
 | .func f=> .fn f []
def cls :AV->Option (List AV)
 | .ag xs=>some xs
 | .ud| .un| .tp _| .pn _=>none
 |x=>some [x]
def part(agg:Bool)(off sz:Nat)(cs:List AV):Option AV:=
 if agg then(if off+sz<=cs.length then some (.ag ((cs.drop off).take sz))else none)else cs[off]?
def cn(cs:List AV)(off:Nat)(vs:List AV):List AV:=cs.take off++vs++cs.drop (off+vs.length)
def nB(place:Nat->Option (Nat × Nat)):List AV->List (Nat × AV)->Option (List AV)
 |cells,[]=>some cells
 |
  cells,(i,x)::rest=>
  match place i,cls x with
  |some (off,size),some cs=>if cs.length=size/\off+size<=cells.length then nB place (cn cells off cs) rest else none
  |_,_=>none
def X0 :AV->Bool| .sc _=>true|_=>false
def acM :AV->Value| .sc v=>v|_=>undef
def y7 :AV->Bool
 | .sc _=>true
 | .fn _ []=>true
 | .ag xs=>xs.all X0
 |_=>false
def vA :AV->Value
 | .sc v=>v
 | .fn f []=> .func (.func f) #[] #[]
 | .ag xs=> .agg (xs.map acM).toArray
 |_=>undef
def AX :Value->Option AV
 | .tuple vs=>if vs.toList.all kQ then some (.tp (vs.toList.map .sc))else none
 | .agg vs=>if vs.toList.all kQ then some (.ag (vs.toList.map .sc))else none
 |v=>if kQ v then some (.sc v)else none
def wY :Op->Bool| .select .. =>true|_=>false
def cS(k:IntKind)(n:Int):Int:=
 match k with
 | .i64=>if-9223372036854775808<=n/\n<=9223372036854775807 then n else k.wrap n
 | .u64=>if 0<=n/\n<=18446744073709551615 then n else k.wrap n
 |_=>k.wrap n
def y8(op:BinOp)(k:IntKind)(a b:Int):Option Value:=
 match op with
 | .add=>some (.int k (cS k (a+b)))
 | .sub=>some (.int k (cS k (a-b)))
 | .mul=>some (.int k (cS k (a*b)))
 | .quo=>if b=0 then none else some (.int k (cS k (a.tdiv b)))
 | .rem=>if b=0 then none else some (.int k (a.tmod b))
 | .eql=>some (.bool (decide (a=b)))
 | .neq=>some (.bool !(decide (a=b)))
 | .lss=>some (.bool (decide (a<b)))
 | .leq=>some (.bool (decide (a<=b)))
 | .gtr=>some (.bool (decide (a>b)))
 | .geq=>some (.bool (decide (a≥b)))
 | .and=>if k= .u64/\0<=a/\a<=18446744073709551615/\0<=b/\b<=18446744073709551615 then some (.int k (a.toNat &&& b.toNat:Nat))else none
 | .or=>if k= .u64/\0<=a/\a<=18446744073709551615/\0<=b/\b<=18446744073709551615 then some (.int k (a.toNat|||b.toNat:Nat))else none
 |_=>none
def Ai(op:BinOp)(k:IntKind)(a:Int)(k':IntKind)(b:Int):Option Value:=
 match op with
 | .shr=>if 0<=b/\b<=k.bits then some (.int k (a/(2^b.toNat:Nat)))else none
 |op=>if k=k' then y8 op k a b else none
def fm(x y:ByteArray):Bool:=x.data.toList==y.data.toList
def nC(x y:ByteArray):Bool:=Op.bytesLess x.data.toList y.data.toList
def GZ(op:BinOp)(x y:ByteArray):Option Value:=
 match op with
 | .add=>if x.size+y.size<=9223372036854775807 then some (.string (x++y))else none
 | .eql=>some (.bool (fm x y))
 | .neq=>some (.bool !(fm x y))
 | .lss=>some (.bool (nC x y))
 | .leq=>some (.bool (nC x y||fm x y))
 | .gtr=>some (.bool !(nC x y||fm x y))
 | .geq=>some (.bool !(nC x y))
 |_=>none
def lf(C:Cx)(t:TypeId):Bool:=match C.P.underlying t with|some (.slice _)=>true|_=>false
def isStr(C:Cx)(t:TypeId):Bool:=match C.P.underlying t with|some .string=>true|_=>false
def vQ(C:Cx)(e:Operand->AV)(o:Oper):Option AV:=
 match o.op with
 |
  .binOp op t x y _=>match e x,e y with
  |
   .sc (.bool a),.sc (.bool b)=>(match C.P.underlying t,op with
   |some .bool,.eql=>some (.sc (.bool (a==b)))
   |some .bool,.neq=>some (.sc (.bool (a !=b)))
   |_,_=>none)
  | .sc (.int k a),.sc (.int k' b)=>(Ai op k a k' b).map .sc
  | .sc (.string a),.sc (.string b)=>(GZ op a b).map .sc
  |_,_=>none
 |
  .unOp .not _ x=>match e x with
  | .sc (.bool b)=>some (.sc (.bool !b))
  |_=>none
 |
  .unOp .neg _ x=>match e x with
  | .sc (.int k n)=>(y8 .sub k 0 n).map .sc
  |_=>none
 |
  .convert src dst x=>match e x with
  |
   .sc (.int _ n)=>match C.P.underlying src,C.P.underlying dst with
   |some (.int _),some (.int k)=>some (.sc (.int k (cS k n)))
   |_,_=>none
  |_=>none
 |
  .index t x ix=>match e x,e ix with
  | .sc (.string s),.sc (.int _ i)=>if isStr C t/\0<=i then(s.data.toList[i.toNat]?).map λb=> .sc (.int .u8 b.toNat)else none
  |_,_=>none
 |
  .call {callee:= .builtin .len,args,argTypes}=>match args.toList,argTypes.toList with
  |
   [x],[t]=>match e x with
   | .sc (.string s)=>if isStr C t then some (.sc (.int .i64 s.size))else none
   | .sc (.slice none 0 0)=>if lf C t then some (.sc (.int .i64 0))else none
   |_=>none
  |_,_=>none
 |
  .call {callee:= .builtin .max,args,.. }=>match args.toList with
  |
   [x,y]=>match e x,e y with
   | .sc (.int k a),.sc (.int _ b)=>some (.sc (.int k (if b>a then b else a)))
   |_,_=>none
  |_=>none
 |
  .call {callee:= .builtin .min,args,.. }=>match args.toList with
  |
   [x,y]=>match e x,e y with
   | .sc (.int k a),.sc (.int _ b)=>some (.sc (.int k (if b<a then b else a)))
   |_,_=>none
  |_=>none
 |_=>none
def j_(C:Cx)(e:Operand->AV)(o:Oper):Option AV:=
 if !wY o.op && o.op.operands.toList.all λx=>y7 (e x)then
  match eQ C.P (execOp (λx=>vA (e x)) o)with
  |some (.value v)=>AX v
  |_=>none
 else none
def gM(C:Cx)(e:Operand->AV)(o:Oper):Option AV:=
 match vQ C e o with
 |some r=>some r
 |none=>j_ C e o
def rowOf(h:Hp)(id:Nat):Option (List AV):=
 match h[id]? with
 |some (.row cs)=>some cs
 |some (.GR cs)=>some cs
 |some (.raw cs)=>some cs
 |_=>none
def ju(h:Hp):AV->Option (Nat × List AV)
 | .sc (.slice none 0 0)=>some (0,[])
 | .ls _ cg _=>some (cg.length,cg.flatten)
 |
  .sl id sz off len _=>match rowOf h id with
  |some cs=>if off+len*sz<=cs.length then some (len,(cs.drop off).take (len*sz))else none
  |none=>none
 |_=>none
def ka(sz:Nat):AV->Bool
 | .sc _=>true
 | .ls s _ _=>s==sz
 | .sl _ s _ _ _=>s==sz
 |_=>false
def ew(C:Cx)(h:Hp)(t:TypeId)(s x:AV):Option (AV × Hp):=
 match C.T t with
 |some {kd:= .slice sz _ bytes _,.. }=>
  if ka sz s && ka sz x then
   match ju h x with
   |some (m,news)=>
    if m=0 then(match s with| .sc (.slice none 0 0)| .ls .. | .sl .. =>some (s,h)|_=>none)
    else match s with
     | .sc (.slice none 0 0)=>if m<=maxLen/\m*bytes<=140737488355328 then some (.sl h.length sz 0 m false,h++[.row news])else none
     | .ls _ cg true=>if cg.length+m<=maxLen/\(cg.length+m)*bytes<=140737488355328 then some (.sl h.length sz 0 (cg.length+m) false,h++[.row (cg.flatten++news)])else none
     |
      .sl id _ off len true=>match rowOf h id with
      |some cs=>
       if off+len*sz<=cs.length/\len+m<=maxLen/\(len+m)*bytes<=140737488355328 then some (.sl h.length sz 0 (len+m) false,h++[.row ((cs.drop off).take (len*sz)++news)])
       else none
      |none=>none
     |
      .sl id _ off len false=>match h[id]? with
      |some (.row cs)=>
       if off+(len+m)*sz<=cs.length then some (.sl id sz off (len+m) false,h.set id (.row (cn cs (off+len*sz) news)))
       else if off=0/\cs.length=len*sz/\len+m<=maxLen/\(len+m)*bytes<=140737488355328 then some (.sl h.length sz 0 (len+m) false,h.set id .dead++[.row (cs++news)])
       else none
      |_=>none
     |_=>none
   |none=>none
  else none
 |_=>none
def Su(C:Cx)(h:Hp)(t:TypeId)(d x:AV):Option (AV × Hp):=
 match C.T t with
 |some {kd:= .slice sz ..,.. }=>
  if ka sz d && ka sz x then
   match ju h x,d with
   |some (m,news),.sl id _ off len _=>match h[id]? with
    |some (.row cs)=>if off+min m len*sz<=cs.length then some (.sc (.int .i64 (min m len:Nat)),h.set id (.row (cn cs off (news.take (min m len*sz)))))else none
    |_=>none
   |some (_,_),.ls _ [] _=>some (.sc (.int .i64 0),h)
   |some (_,_),.sc (.slice none 0 0)=>some (.sc (.int .i64 0),h)
   |_,_=>none
  else none
 |_=>none
def ES(C:Cx)(h:Hp)(t:TypeId)(x:AV):Option (AV × Hp):=
 match C.T t,x with
 |some {kd:= .slice sz _ _ ez,.. },.sl id s off len _=>match h[id]? with
  |some (.row cs)=>if s=sz/\0<len/\off+len*sz<=cs.length then some (.tp [],h.set id (.row (cn cs off ((List.range len).flatMap λ_=>ez.map .sc))))else none
  |_=>none
 |_,_=>none
def u7 :AV->Option Nat
 | .ls _ cg _=>some cg.length
 | .sl _ _ _ len _=>some len
 |_=>none
def jJ :AV->Option Nat
 | .sc (.int _ i)=>if 0<=i then some i.toNat else none
 |_=>none
def ig(d:Nat):Option AV->Option Nat
 |none=>some d
 |some x=>jJ x
def Sv(C:Cx)(t:TypeId):Bool:=match C.P.underlying t with|some (.int _)=>true|_=>false
def Kg(C:Cx)(h:Hp)(t t':TypeId)(s x:AV):Option (AV × Hp):=
 match C.T t,s,jJ x with
 |some {kd:= .slice sz _ bytes ez,.. },.sc (.slice none 0 0),some n=>
  if Sv C t'=true/\0<n/\n<=maxLen/\n*bytes<=140737488355328 then some (.sl h.length sz 0 n false,h++[.row ((List.range n).flatMap λ_=>ez.map .sc)])else none
 |_,_,_=>none
def rC(x:AV)(lo hi mx:Option AV):Option AV:=
 match u7 x with
 |some len=>match ig 0 lo,ig len hi,mx with
  |some l,some h,none=>
   if l<=h/\h<=len then match x with
    | .ls sz cg z=>some (.ls sz ((cg.drop l).take (h-l)) (z && h==len))
    | .sl id sz off _ k=>if l=h then some (.ls sz [] (k && h==len))else if k && h !=len then none else some (.sl id sz (off+l*sz) (h-l) k)
    |_=>none
   else none
  |some l,some h,some m=>match jJ m with
   |some m=>if l<=h/\h<=m/\m<=len/\hi.isSome then(if h=m then(match x with
    | .ls sz cg _=>some (.ls sz ((cg.drop l).take (h-l)) true)
    | .sl id sz off _ _=>if l=h then some (.ls sz [] true)else some (.sl id sz (off+l*sz) (h-l) true)
    |_=>none)else some .ud)else none
   |none=>none
  |_,_,_=>none
 |none=>none
def s9 :AV->Bool
 | .ls _ (_::_) _| .sl .. =>true
 |_=>false
def AY :Operand->Bool
 | .const (.slice none 0 0)=>true
 |_=>false
def Mv :AV->Option UInt8
 | .sc (.int .u8 i)=>if 0<=i/\i<256 then some (UInt8.ofNat i.toNat)else none
 |_=>none
def ET(C:Cx)(t:TypeId):Bool:=
 match C.P.underlying t with
 |some (.slice e)=>(match C.P.underlying e with|some (.int .u8)=>true|_=>false)
 |_=>false
def pO(C:Cx)(t:TypeId):Bool:=
 match C.P.underlying t with
 |some (.map kt _)=>isStr C kt
 |_=>false
def X1(C:Cx)(t:TypeId):Option AV:=
 match C.P.underlying t with
 |some (.map _ et)=>match C.P.info? et with
  |some i=>i.zero.map ofConst
  |none=>none
 |_=>none
def ta :Value × AV->Bool
 |(.string _,_)=>true
 |_=>false
def X2(s:ByteArray):Value->Bool
 | .string a=>s==a
 |_=>false
def qg(s:ByteArray):List (Value × AV)->Nat->Option Nat
 | [],_=>none
 |(j,_)::es,i=>bif X2 s j then some i else qg s es (i+1)
def abK(C:Cx)(t:TypeId)(s:ByteArray)(es:List (Value × AV)):Option (AV × Bool):=
 match qg s es 0 with
 |some i=>(es[i]?).map λp=>(p.2,true)
 |none=>(X1 C t).map λz=>(z,false)
def tc(C:Cx)(t:TypeId):Bool:=
 match C.P.underlying t with
 |some (.map kt _)=>(match C.P.underlying kt with|some (.int .i64)=>true|_=>false)
 |_=>false
def td :Value × AV->Bool
 |(.int .i64 _,_)=>true
 |_=>false
def EU(n:Int):Value->Bool
 | .int .i64 m=>n==m
 |_=>false
def mQ(n:Int):List (Value × AV)->Nat->Option Nat
 | [],_=>none
 |(j,_)::es,i=>bif EU n j then some i else mQ n es (i+1)
def Oe(C:Cx)(t:TypeId)(ix:Option Nat)(es:List (Value × AV)):Option (AV × Bool):=
 match ix with
 |some i=>(es[i]?).map λp=>(p.2,true)
 |none=>(X1 C t).map λz=>(z,false)
def dk :AV->Bool
 | .sc _| .ls .. | .rp .. =>true
 | .ag xs=>xs.all λ| .sc _| .ls .. | .rp .. =>true|_=>false
 | .fn _ xs=>xs.all λ| .sc _| .ls .. | .rp .. =>true|_=>false
 |_=>false
def chunk(sz len:Nat)(cs:List AV):List (List AV):=(List.range len).map λi=>(cs.drop (i*sz)).take sz
def oh(C:Cx)(e:Operand->AV)(h:Hp)(o:Oper):Option (AV × Hp):=
 match o.op with
 |
  .buildSlice t len parts=>match C.T t with
  |some {kd:= .slice sz _ _ ez,.. }=>
   if len*sz<=16777216 then match nB (λi=>some (i*sz,sz)) ((List.range len).flatMap λ_=>ez.map .sc) (parts.toList.map λp=>(p.1,e p.2))with
    |some cs=>if cs.all dk then some (.ls sz (chunk sz len cs) true,h)else none
    |none=>none
   else none
  |_=>none
 |
  .makeSlice t l c=>match C.T t,jJ (e l),jJ (e c)with
  |some {kd:= .slice sz _ bytes ez,.. },some n,some m=>
   if n=m/\n<=maxLen/\n*bytes<=140737488355328 then some (.ls sz (chunk sz n ((List.range n).flatMap λ_=>ez.map .sc)) true,h)else none
  |_,_,_=>none
 |
  .slice t x lo hi none=>match C.T t,e x with
  |some {kd:= .slice sz ..,.. },.sl id s off len false=>match ig 0 (lo.map e),ig len (hi.map e),rowOf h id with
   |some l,some m,some cs=>if s=sz/\l<=m/\off+m*sz<=cs.length/\(l<m\/off+(l+1)*sz<=cs.length)then some (.sl id sz (off+l*sz) (m-l) false,h)else none
   |_,_,_=>none
  |_,_=>none
 |
  .call {callee:= .builtin .append,args,argTypes}=>match args.toList,argTypes.toList with
  |
   [s,x],[t,t']=>if t=t' then(match C.T t with
   |some {kd:= .slice sz _ bytes _,.. }=>if ka sz (e s) && ka sz (e x)then(match ju h (e x),e s with
    |some (m,news),.ls s0 [] z=>if m=0 then some (.ls s0 [] z,h)else if m<=maxLen/\m*bytes<=140737488355328/\z=true/\news.all dk=true then some (.ls sz (chunk sz m news) false,h)else none
    |_,_=>none)else none
   |_=>none)else none
  |_,_=>none
 |_=>none
def cD(h:Hp):Nat->AV->Option AV
 |_,.sc v=>some (.sc v)
 |_,.ls sz cg z=>some (.ls sz cg z)
 |_,.rp row j=>some (.rp row j)
 |_,.oc=>some .oc
 |0,_=>none
 |
  n+1,.sl id sz off len _=>match rowOf h id with
  |some cs=>if off+len*sz<=cs.length then
   (((cs.drop off).take (len*sz)).mapM (cD h n)).map λxs=> .ls sz ((List.range len).map λi=>(xs.drop (i*sz)).take sz) false
   else none
  |none=>none
 |
  n+1,.pt id off=>match rowOf h id with
  |some cs=>(cs.mapM (cD h n)).map λxs=> .rp xs off
  |none=>none
 |n+1,.ag xs=>(xs.mapM (cD h n)).map .ag
 |n+1,.tp xs=>(xs.mapM (cD h n)).map .tp
 |n+1,.fn f xs=>(xs.mapM (cD h n)).map (.fn f)
 |_,_=>none
def mask(ids:List Nat)(h:Hp):Hp:=(List.range h.length).map λi=>if ids.contains i then h.getD i .dead else .dead
def freeze(ids:List Nat)(h:Hp):Option Hp:=
 (List.range h.length).mapM λi=>if ids.contains i then(match h[i]? with
  |some (.row cs)=>(cs.mapM (cD (mask ids h) 8)).map .GR
  |some (.GR cs)=>some (.GR cs)
  |some .dead=>some .dead
  |_=>none)else h[i]?
def zP(C:Cx)(call:iB)(e:Operand->AV)(h:Hp)(o:Oper):Option (AV × Hp):=
 match o.op with
 | .move x| .assign x=>some (e x,h)
 |
  .pick c a b=>match e c with
  | .sc (.bool t)=>some (bif t then e a else e b,h)
  |_=>none
 |
  .alloc t=>match C.T t with
  |some i=>some (.pt h.length 0,h++[.row (i.zero.map .sc)])
  |none=>none
 |
  .box t x=>match C.T t,cls (e x)with
  |some i,some cs=>if cs.length=i.size then some (.pt h.length 0,h++[.row cs])else none
  |_,_=>none
 |
  .build t parts=>match C.T t with
  |some {zero,kd:= .struct fs,.. }=>(nB (λi=>(fs[i]?).map λf=>(f.1,f.2.1)) (zero.map .sc) (parts.toList.map λp=>(p.1,e p.2))).map λcs=>(.ag cs,h)
  |some {zero,kd:= .array _ Mu _,.. }=>(nB (λi=>some (i*Mu,Mu)) (zero.map .sc) (parts.toList.map λp=>(p.1,e p.2))).map λcs=>(.ag cs,h)
  |_=>none
 |
  .buildSlice t len parts=>match C.T t with
  |some {kd:= .slice sz _ _ ez,.. }=>
   if len*sz<=16777216 then
    (nB (λi=>some (i*sz,sz)) ((List.range len).flatMap λ_=>ez.map .sc) (parts.toList.map λp=>(p.1,e p.2))).map λcs=>(.sl h.length sz 0 len false,h++[.row cs])
   else none
  |_=>none
 |
  .load t x=>match C.T t,e x with
  |some i,.pt id off=>match rowOf h id with
   |some cs=>(part i.agg off i.size cs).map λy=>(y,h)
   |none=>none
  |some i,.rp row j=>(part i.agg j i.size row).map λy=>(y,h)
  |_,_=>none
 |
  .store t x y=>match C.T t,e x,cls (e y)with
  |some i,.pt id off,some vs=>match h[id]? with
   |some (.row cs)=>if vs.length=i.size/\off+i.size<=cs.length then some (.un,h.set id (.row (cn cs off vs)))else none
   |some (.raw cs)=>if vs.length=i.size/\off+i.size<=cs.length then some (.un,h.set id (.raw (cn cs off vs)))else none
   |_=>none
  |_,_,_=>none
 |
  .nilCheck x=>match e x with
  | .pt id off=>some (.pt id off,h)
  | .rp row j=>some (.rp row j,h)
  | .fn f cs=>some (.fn f cs,h)
  |_=>none
 |
  .fieldAddr t x f=>match C.T t with
  |some {kd:= .struct fs,.. }=>match fs[f]?,e x with
   |some (o,sz,_),.pt id off=>if sz=0 then none else some (.pt id (off+o),h)
   |some (o,sz,_),.rp row j=>if sz=0 then none else some (.rp row (j+o),h)
   |_,_=>none
  |_=>none
 |
  .indexAddr t x ix=>match C.T t,jJ (e ix)with
  |some {kd:= .slice sz ..,.. },some i=>match e x with
   | .sl id s off len _=>if s=sz/\i<len then some (.pt id (off+i*sz),h)else none
   | .ls s cg _=>if s=sz then(cg[i]?).map λrow=>(.rp row 0,h)else none
   |_=>none
  |some {kd:= .array n sz _,.. },some i=>match e x with
   | .pt id off=>if i<n then some (.pt id (off+i*sz),h)else none
   | .rp row j=>if i<n then some (.rp row (j+i*sz),h)else none
   |_=>none
  |_,_=>none
 |
  .field t x f=>match C.T t,e x with
  |some {kd:= .struct fs,.. },.ag cs=>match fs[f]? with
   |some (off,sz,agg)=>(part agg off sz cs).map λy=>(y,h)
   |none=>none
  |_,_=>none
 |
  .index t x ix=>match C.T t,e x with
  |some {kd:= .array n sz agg,.. },.ag cs=>match jJ (e ix)with
   |some i=>if i<n then(part agg (i*sz) sz cs).map λy=>(y,h)else none
   |none=>none
  |_,_=>(gM C e o).map λy=>(y,h)
 |
  .extract x i=>match e x with
  | .tp vs=>(vs[i]?).map λy=>(y,h)
  |_=>none
 | .makeFunc (.func f) first oe=>if first.isEmpty then some (.fn f (oe.toList.map e),h)else some (.oc,h)
 |
  .makeSlice t l c=>match C.T t,jJ (e l),jJ (e c)with
  |some {kd:= .slice sz _ bytes ez,.. },some n,some m=>
   if n=m/\n<=maxLen/\n*bytes<=140737488355328 then some (.sl h.length sz 0 n false,h++[.row ((List.range n).flatMap λ_=>ez.map .sc)])else none
  |_,_,_=>none
 |
  .slice t x lo hi mx=>match e x with
  | .sc _=>(gM C e o).map λy=>(y,h)
  |
   y=>match C.T t with
   |some {kd:= .slice sz ..,.. }=>if ka sz y then(rC y (lo.map e) (hi.map e) (mx.map e)).map λy=>(y,h)else none
   |_=>none
 | .binOp op t x y _=>if lf C t && AY y && s9 (e x)then(match op with
  | .eql=>some (.sc (.bool false),h)
  | .neq=>some (.sc (.bool true),h)
  |_=>none)else(gM C e o).map λy=>(y,h)
 |
  .convert src dst x=>match e x with
  | .sc (.string s)=>if isStr C src && ET C dst then(if s.size<=maxLen then some (.sl h.length 1 0 s.size false,h++[.raw (s.data.toList.map λb=> .sc (.int .u8 b.toNat))])else none)else(gM C e o).map λy=>(y,h)
  |
   .sl id 1 off len k=>if isStr C dst && ET C src then(match ju h (.sl id 1 off len k)with
   |some (_,news)=>(news.mapM Mv).map λbs=>(.sc (.string ⟨bs.toArray⟩),h)
   |none=>none)else none
  |_=>(gM C e o).map λy=>(y,h)
 | .makeMap t none=>if pO C t||tc C t then some (.mp h.length,h++[.map [] 0])else none
 |
  .mapUpdate t m k x=>match e m,e k,e x with
  |
   .mp id,.sc (.string s),y=>if pO C t then(match h[id]? with
   |some (.map es clock)=>if es.all ta then(match qg s es 0 with
    |some i=>some (.un,h.set id (.map (es.set i (.string s,y)) clock))
    |none=>some (.un,h.set id (.map (es++[(.string s,y)]) (clock+1))))else none
   |_=>none)else none
  |
   .mp id,.sc (.int .i64 n),y=>if tc C t then(match h[id]? with
   |some (.map es clock)=>if es.all td then(match mQ n es 0 with
    |some i=>some (.un,h.set id (.map (es.set i (.int .i64 n,y)) clock))
    |none=>some (.un,h.set id (.map (es++[(.int .i64 n,y)]) (clock+1))))else none
   |_=>none)else none
  |_,_,_=>none
 |
  .lookup t m k ok=>match e m,e k with
  |
   .mp id,.sc (.string s)=>if pO C t then(match h[id]? with
   |some (.map es _)=>if es.all ta then(abK C t s es).map λq=>(if ok then .tp [q.1,.sc (.bool q.2)]else q.1,h)else none
   |_=>none)else none
  |
   .mp id,.sc (.int .i64 n)=>if tc C t then(match h[id]? with
   |some (.map es _)=>if es.all td then(Oe C t (mQ n es 0) es).map λq=>(if ok then .tp [q.1,.sc (.bool q.2)]else q.1,h)else none
   |_=>none)else none
  |_,_=>(gM C e o).map λy=>(y,h)
 |
  .range t x=>match e x with
  | .sc (.string s)=>if isStr C t then some (.pt h.length 0,h++[.iter s 0])else none
  |_=>none
 |
  .next x true=>match e x with
  |
   .pt id 0=>match h[id]? with
   |some (.iter s pos)=>if pos<s.size then some (.tp [.sc (.bool true),.sc (.int .i64 pos),.sc (.int .i32 (Utf8.decode s pos).1)],h.set id (.iter s (pos+(Utf8.decode s pos).2)))else some (.tp [.sc (.bool false)],h)
   |_=>none
  |_=>none
 |
  .panic x=>match e x with
  | .sc (.iface t v)=>some (.pn (.iface t v),h)
  |_=>none
 |
  .call {callee:= .value f,args,.. }=>match e f with
  | .fn g oe=>if C.ext g then(gM C e o).map λy=>(y,h)else call g (args.toList.map e++oe) h
  |_=>none
 |
  .call {callee:= .builtin .append,args,argTypes}=>match args.toList,argTypes.toList with
  | [s,x],[t,t']=>if t=t' then ew C h t (e s) (e x)else Kg C h t t' (e s) (e x)
  |_,_=>none
 |
  .call {callee:= .builtin .copy,args,argTypes}=>match args.toList,argTypes.toList with
  | [s,x],[t,t']=>if t=t' then Su C h t (e s) (e x)else none
  |_,_=>none
 |
  .call {callee:= .builtin .clear,args,argTypes}=>match args.toList,argTypes.toList with
  | [x],[t]=>ES C h t (e x)
  |_,_=>none
 |
  .call {callee:= .builtin .delete,args,argTypes}=>match args.toList,argTypes.toList with
  |
   [m,k],[t,_]=>match e m,e k with
   |
    .mp id,.sc (.string s)=>if pO C t then(match h[id]? with
    |some (.map es clock)=>if es.all ta then(match qg s es 0 with
     |some i=>some (.tp [],h.set id (.map (es.eraseIdx i) clock))
     |none=>some (.tp [],h.set id (.map es clock)))else none
    |_=>none)else none
   |_,_=>none
  |_,_=>none
 |
  .call {callee:= .builtin .len,args,argTypes}=>match args.toList,argTypes.toList with
  |
   [x],[t]=>match u7 (e x),C.T t with
   |some n,some {kd:= .slice ..,.. }=>some (.sc (.int .i64 n),h)
   |_,_=>(gM C e o).map λy=>(y,h)
  |_,_=>none
 |_=>(gM C e o).map λy=>(y,h)
def lG(C:Cx)(call:iB)(e:Operand->AV)(h:Hp)(o:Oper):Option (AV × Hp):=
 if C.jI o then oh C e h o else zP C call e h o
def eM(ops:Array Oper)(fr:List AV)(o:Oper):Option Bool:=
 match o.guard with
 |none=>some true
 |some (j,w)=>match(ops[j]?).bind (·.dst)with
  |none=>some false
  |some d=>match fr[d]? with
   |some (.sc (.bool b))=>some (b==w)
   |some .un=>some false
   |_=>none
def rD(o:Oper)(fr:List AV)(v:AV):List AV:=match o.dst with|some d=>fr.set d v|none=>fr
abbrev St :=List AV × Hp
def step1(C:Cx)(call:iB)(ops:Array Oper)(o:Oper)(s:St):Option St:=
 match eM ops s.1 o with
 |some true=>match lG C call (ev C s.1) s.2 o with
  |some (.pn _,_)=>none
  |some (v,h)=>some (rD o s.1 v,h)
  |none=>none
 |some false=>some (rD o s.1 .un,s.2)
 |none=>none
def cp(C:Cx)(call:iB)(ops:Array Oper):List Oper->St->Option St
 | [],s=>some s
 |
  o::rest,s=>match step1 C call ops o s with
  |some s'=>cp C call ops rest s'
  |none=>none
def Sw(acc:List Nat)(o:Oper):Nat:=o.after.toList.foldl (λs e=>if Region.binds .any e then s|||2^e.on|||acc.getD e.on 0 else s) 0
def fY :List Oper->List Nat->List Nat
 | [],acc=>acc
 |o::rest,acc=>fY rest (acc++[Sw acc o])
def AZ(C:Cx)(o:Oper):Bool:=
 match o.op with
 | .move _| .assign _| .pick .. | .build .. | .load .. | .nilCheck _| .fieldAddr .. | .indexAddr .. | .field .. | .index .. | .extract .. | .slice .. | .binOp .. | .unOp .. | .makeInterface .. | .typeAssert .. | .lookup .. =>false
 | .convert src dst _=>isStr C src && ET C dst
 | .makeFunc (.func _) _ _=>false
 | .call {callee:= .builtin .len,.. }| .call {callee:= .builtin .min,.. }| .call {callee:= .builtin .max,.. }=>false
 | .call {callee:= .value (.func g),.. }=>C.inl g
 |_=>true
def cU(C:Cx)(o:Oper):Bool:= !C.jI o && AZ C o
def A1(C:Cx)(o:Oper):Bool:=
 match o.op with
 | .move _| .assign _| .pick .. | .build .. | .nilCheck _| .fieldAddr .. | .indexAddr .. | .field .. | .index .. | .extract .. | .slice .. | .binOp .. | .unOp .. | .makeInterface .. | .typeAssert .. =>false
 | .convert src dst _=>(isStr C src && ET C dst)||(isStr C dst && ET C src)
 | .makeFunc (.func _) _ _=>false
 | .call {callee:= .builtin .len,.. }| .call {callee:= .builtin .min,.. }| .call {callee:= .builtin .max,.. }=>false
 |_=>true
def nF(C:Cx)(o:Oper):Bool:=C.jI o||A1 C o
def ordered(ms:List Nat)(i j:Nat):Bool:=if i<j then(ms.getD j 0).testBit i else(ms.getD i 0).testBit j
def nU :Value->Value->Bool
 | .bool a,.bool b=>a==b
 | .int k a,.int j b=>decide (k=j) && decide (a=b)
 | .string a,.string b=>a==b
 | .pointer none,.pointer none=>true
 | .slice none 0 0,.slice none 0 0=>true
 | .map none,.map none=>true
 | .nilFunc,.nilFunc=>true
 | .nilIface,.nilIface=>true
 |_,_=>false
mutual
def fH :AV->AV->Bool
 | .sc v,.sc u=>nU v u
 | .sl a b c d k,.sl a' b' c' d' k'=>decide (a=a') && decide (b=b') && decide (c=c') && decide (d=d') && (k==k')
 | .pt a b,.pt a' b'=>decide (a=a') && decide (b=b')
 | .mp a,.mp a'=>decide (a=a')
 | .ls sz cg z,.ls ph rows' z'=>decide (sz=ph) && (z==z') && mf cg rows'
 | .rp row j,.rp aiT j'=>decide (j=j') && gY row aiT
 | .fn f xs,.fn f' xs'=>decide (f=f') && gY xs xs'
 | .ag xs,.ag ys=>gY xs ys
 | .tp xs,.tp ys=>gY xs ys
 |_,_=>false
def gY :List AV->List AV->Bool
 | [],[]=>true
 |x::xs,y::ys=>fH x y && gY xs ys
 |_,_=>false
def mf :List (List AV)->List (List AV)->Bool
 | [],[]=>true
 |x::xs,y::ys=>gY x y && mf xs ys
 |_,_=>false
end
def eC(C:Cx)(call:iB)(ops:Array Oper):List Oper->St->Option (List St)
 | [],s=>some [s]
 |
  o::rest,s=>match step1 C call ops o s with
  |some s'=>(eC C call ops rest s').map (s:: ·)
  |none=>none
def cc(C:Cx)(ops:Array Oper)(m:Nat):Nat:=((ops.toList.take m).filter (cU C)).length
def CY(C:Cx)(ops:Array Oper)(i:Nat):Bool:=match ops[i]? with|some o=>cU C o|none=>false
def A2(C:Cx)(ops:Array Oper):Nat:=(List.range ops.size).foldl (λs i=>cond (CY C ops i) (s|||2^i) s) 0
def afA(C:Cx)(ops:Array Oper)(ms:List Nat)(j:Nat):Nat:=cond (Nat.beq (ms.getD j 0 &&& A2 C ops) 0) 0 (Nat.log2 (ms.getD j 0 &&& A2 C ops)+1)
def afB(C:Cx)(ops:Array Oper)(ms:List Nat)(j:Nat):Nat:=((List.range ops.size).find? λi=>CY C ops i && (ms.getD i 0).testBit j).getD ops.size
def A3(C:Cx)(ops:Array Oper)(ms:List Nat)(j m:Nat):Bool:=Nat.ble (afA C ops ms j) m && Nat.ble m (afB C ops ms j)
def tf(C:Cx)(ops:Array Oper)(m:Nat):Bool:=m==0||(match ops[m-1]? with|some o'=>cU C o'|none=>false)
def needs(C:Cx)(ops:Array Oper):List (Nat × Nat):=
 (List.range ops.size).flatMap λj=>match ops[j]? with
  |some o=>if cU C o|| !nF C o then[]else
   (List.range (ops.size+1)).filterMap λm=>if !tf C ops m|| !A3 C ops (fY ops.toList []) j m||Nat.beq (cc C ops m) (cc C ops j)then none else some (j,m)
  |none=> []
def sameAt(C:Cx)(call:iB)(ops:Array Oper)(jv:List St)(q:Nat × Nat):Bool:=
 match ops[q.1]?,jv[q.1]? with
 |some o,some sj=>(match eM ops sj.1 o with
  |some true=>(match jv[q.2]?,lG C call (ev C sj.1) sj.2 o with
   |some sm,some (v,_)=>(match lG C call (ev C sj.1) sm.2 o with|some (v',_)=>fH v' v|none=>false)
   |_,_=>false)
  |_=>true)
 |_,_=>false
inductive Out where
 |normal
 |exit (id:Nat)
 |ret
 |th (v:Value)
def qi(s:Nat->Nat)(j c d:Nat)(o:Oper):Oper:={o with after:=((o.after.toList.filter (Region.binds .any)).map (λ(e:Edge)=>({on:=s e.on,ground:= .data}:Edge))++if j=c then[({on:=s d,ground:= .data}:Edge)]else[]).toArray}
def lM(s r:Nat->Nat)(c d:Nat)(ops:Array Oper):Array Oper:=((List.range ops.size).map λk=>qi s (r k) c d (ops.getD (r k) default)).toArray
def sL(c d j:Nat):Nat:=if j<c then j else if j=d then c else if j<d then j+1 else j
def X3(c d k:Nat):Nat:=if k<c then k else if k=c then d else if k<=d then k-1 else k
def CQ(ops:Array Oper)(c d:Nat):Array Oper:=lM id id d c ops
def Dz(ops:Array Oper)(c d:Nat):Array Oper:=lM (sL c d) (X3 c d) c d ops
def swp(n i:Nat):Nat:=if i=n then n+1 else if i=n+1 then n else i
mutual
def pP(n:Nat):AV->AV
 | .sl id sz off len k=> .sl (swp n id) sz off len k
 | .pt id off=> .pt (swp n id) off
 | .mp id=> .mp (swp n id)
 | .fn f xs=> .fn f (vR n xs)
 | .ag xs=> .ag (vR n xs)
 | .tp xs=> .tp (vR n xs)
 |x=>x
def vR(n:Nat):List AV->List AV
 | []=> []
 |x::xs=>pP n x::vR n xs
end
def Sx(n:Nat):eK->eK
 | .row cs=> .row (vR n cs)
 | .raw cs=> .raw (vR n cs)
 | .map es k=> .map (es.map λe=>(e.1,pP n e.2)) k
 |b=>b
def Og :List (Value × AV)->List (Value × AV)->Bool
 | [],[]=>true
 |(a,x)::l,(b,y)::m=>fH (.sc a) (.sc b) && fH x y && Og l m
 |_,_=>false
def acN :eK->eK->Bool
 | .dead,.dead=>true
 | .row a,.row b=>gY a b
 | .raw a,.raw b=>gY a b
 | .GR a,.GR b=>gY a b
 | .map a k,.map b l=>Nat.beq k l && Og a b
 | .iter s p,.iter t q=>fH (.sc (.string s)) (.sc (.string t)) && Nat.beq p q
 |_,_=>false
def X4 :AV->AV->Bool
 | .un,.un=>true
 | .ud,.ud=>true
 | .oc,.oc=>true
 |x,y=>fH x y
def Oh :List AV->List AV->Bool
 | [],[]=>true
 |x::xs,y::ys=>X4 x y && Oh xs ys
 |_,_=>false
def ti(ms:List Nat)(c d i:Nat):Bool:=i==c||i==d||(ms.getD i 0).testBit c||(ms.getD i 0).testBit d
def abL(ops:Array Oper)(c d N n:Nat)(sA sB:St):Bool:=
 Nat.ble N n && (Nat.ble (n+2) sB.2.length && (Nat.beq sA.2.length sB.2.length && (Oh (vR n sB.1) sA.1 &&
  ((List.range sB.2.length).all (λi=>match sB.2[swp n i]?,sA.2[i]? with|some x,some y=>acN (Sx n x) y|_,_=>false) &&
  (List.range ops.size).all λi=>ti (fY ops.toList []) c d i||match(ops[i]?).bind (·.dst)with
   |none=>true
   |some t=>match sA.1[t]?,sB.1[t]? with|some x,some y=>X4 x y|none,none=>true|_,_=>false))))
def y9(C:Cx)(call:iB)(ops:Array Oper)(s:St):Option (List St):=
 match eC C call ops ops.toList s with
 |some jv=>if(needs C ops).all (sameAt C call ops jv)then some jv else none
 |none=>none
def acO(C:Cx)(call:iB)(c d:Nat)(ops:Array Oper)(s:St):Option (Out × St):=
 match y9 C call (CQ ops c d) s,y9 C call (Dz ops c d) s with
 |some sa,some sb=>match sa[ops.size]?,sb[ops.size]?,sa[c]? with
  |some sA,some sB,some sc=>if abL ops c d s.2.length sc.2.length sA sB then some (.normal,sA)else none
  |_,_,_=>none
 |_,_=>none
def dr(C:Cx)(call:iB)(ops:Array Oper):List Oper->St->Option (Out × St)
 | [],s=>some (.normal,s)
 |
  o::rest,s=>match step1 C call ops o s with
  |some s'=>dr C call ops rest s'
  |
   none=>match eM ops s.1 o with
   |some true=>match lG C call (ev C s.1) s.2 o with
    |some (.pn v,h)=>some (.th v,(s.1,h))
    |_=>none
   |_=>none
def G0(C:Cx)(ops:Array Oper):Bool:=ops.toList.any λo=>match o.op with| .call {callee:= .value (.func g),.. }=>C.thr g|_=>false
def stops(C:Cx)(call:iB)(ops:Array Oper):List Oper->St->Nat
 | [],_=>0
 |
  o::rest,s=>match step1 C call ops o s with
  |some s'=>stops C call ops rest s'+1
  |none=>0
def DA(ops:Array Oper)(J:Nat):List (Oper × Bool):=(ops.toList.zipIdx.drop (J+1)).map λp=>(p.1,((fY ops.toList []).getD p.2 0).testBit J)
def DB(l:List (Oper × Bool)):List Oper:=(l.filter λp=> !p.2).map (·.1)
def Sy(ops:List Oper)(fr:List AV):List AV:=ops.foldl (λf o=>rD o f .ud) fr
def X5(C:Cx)(call:iB)(ops:Array Oper)(J:Nat)(s:St):Option (Out × St):=
 match ops[J]?,cp C call ops (ops.toList.take J) s with
 |some o,some sj=>if cU C o && (needs C ops).all (λq=>decide (J<q.2))then(match eM ops sj.1 o with
  |some true=>(match lG C call (ev C sj.1) sj.2 o with
   |some (.pn v,h)=>(match cp C call ops (DB (DA ops J)) sj with
    |some _=>some (.th v,(Sy ops.toList s.1,h))
    |none=>none)
   |_=>none)
  |_=>none)else none
 |_,_=>none
def vS(C:Cx)(call:iB)(ops:Array Oper)(s:St):Option (Out × St):=
 if G0 C ops then X5 C call ops (stops C call ops ops.toList s) s else none
def tj(body:St->Option (Out × St)):Nat->St->Option (Out × St)
 |0,_=>none
 |
  n+1,s=>match body s with
  |some (.normal,s')=>tj body n s'
  |r=>r
def exec(C:Cx)(call:Bool->iB):Code->St->Option (Out × St)
 | .skip,s=>some (.normal,s)
 | .label _,s=>some (.normal,s)
 |
  .region id ops mixed,s=>if mixed then(match C.two id ops with|some (c,d)=>acO C (call false) c d ops s|none=>match eC C (call false) ops ops.toList s with
  |some jv=>if(needs C ops).all (sameAt C (call false) ops jv)then(jv[ops.size]?).map λs'=>(.normal,s')else none
  |none=>vS C (call false) ops s)else dr C (call true) ops ops.toList s
 |
  .seq a b,s=>match exec C call a s with
  |some (.normal,s')=>exec C call b s'
  |r=>r
 |
  .cond c a b,s=>match ev C s.1 c with
  | .sc (.bool true)=>exec C call a s
  | .sc (.bool false)=>exec C call b s
  |_=>none
 |
  .block id c,s=>match exec C call c s with
  |some (.exit i,s')=>some (if i=id then .normal else .exit i,s')
  |r=>r
 | .loop c,s=>tj (exec C call c) C.fuel s
 | .exit id,s=>some (.exit id,s)
 | .ret,s=>some (.ret,s)
 |_,_=>none
def uy :AV->Bool
 | .sc _=>true
 | .tp xs=>xs.all X0
 |_=>false
def wZ(s:St):Rv->Option AV
 | .tmp t=>some (s.1.getD t .ud)
 |
  .cell a sz agg=>match s.1.getD a .ud with
  |
   .pt id off=>match rowOf s.2 id with
   |some cs=>part agg off sz cs
   |none=>none
  |_=>none
def sE(fi:Fi)(s:St):Option AV:=
 match fi.res with
 | [t]=>wZ s t
 |ts=>(ts.mapM (wZ s)).map .tp
def om(C:Cx)(call:Bool->iB)(f:FuncId)(args:List AV)(h:Hp):Option (AV × Hp):=
 match C.F f with
 |some fi=>if args.length<=fi.ntmps then
  match exec C call fi.body (args++List.replicate (fi.ntmps-args.length) .un,h)with
  |some (.normal,s)=>(sE fi s).map λr=>(r,s.2)
  |some (.ret,s)=>(sE fi s).map λr=>(r,s.2)
  |some (.th v,s)=>some (.pn v,s.2)
  |_=>none
  else none
 |none=>none
def EV(C:Cx):Code->Option (Tmp × Operand × TypeId × Code)
 |
  .seq (.region _ ops false) rest=>match ops.toList with
  |
   [{op:= .makeFunc (.func g) first oe,dst:=some d,guard:=none,.. },{op:= .defer {callee:= .value (.tmp d'),args,.. },guard:=none,dst:=none,.. }]=>
   match C.Ss g,oe.toList with
   |some T,[x]=>if d=d' && first.isEmpty && args.isEmpty then some (d,x,T,rest)else none
   |_,_=>none
  |_=>none
 |_=>none
def jQ(C:Cx):Code->Option (List Code × Tmp × Operand × TypeId × Code)
 |
  .seq a b=>match EV C b with
  |some (d,x,T,rest)=>some ([a],d,x,T,rest)
  |
   none=>match jQ C b with
   |some (pre,d,x,T,rest)=>some (a::pre,d,x,T,rest)
   |none=>none
 |_=>none
def A4(C:Cx)(call:Bool->iB):List Code->St->Option (Out × St)
 | [],s=>some (.normal,s)
 |
  c::cs,s=>match exec C call c s with
  |some (.normal,s')=>A4 C call cs s'
  |r=>r
def G1(C:Cx)(call:Bool->iB)(f:FuncId)(args:List AV)(h:Hp):Option (AV × Hp):=
 match C.F f with
 |some fi=>if args.length<=fi.ntmps then
  match jQ C fi.body with
  |some (pre,d,x,T,rest)=>match A4 C call pre (args++List.replicate (fi.ntmps-args.length) .un,h)with
   |some (.ret,s)=>(sE fi s).map λr=>(r,s.2)
   |some (.normal,s)=>match ev C s.1 x with
    |
     .pt id 0=>if d<s.1.length then match exec C call rest (s.1.set d .ud,s.2)with
     |some (.normal,s')=>(sE fi s').map λr=>(r,s'.2)
     |some (.ret,s')=>(sE fi s').map λr=>(r,s'.2)
     |some (.th (.iface T' (.int k n)),s')=>match s'.2[id]? with
      |some (.row [_])=>if T=T' then(sE fi (s'.1,s'.2.set id (.row [.sc (.int k n)]))).map λr=>(r,s'.2.set id (.row [.sc (.int k n)]))else none
      |_=>none
     |_=>none
     else none
    |_=>none
   |_=>none
  |none=>none
  else none
 |none=>none
def abM(es:List (Value × AV)):Option (List ByteArray):=es.mapM λe=>match e.1 with| .string s=>some s|_=>none
def leS(x y:ByteArray):Bool:=decide (x.data.toList<=y.data.toList)
def EW(x:ByteArray):List ByteArray->List ByteArray
 | []=> [x]
 |y::l=>if leS x y then x::y::l else y::EW x l
def EX :List ByteArray->Bool
 | []=>true
 |x::l=> !(l.any λy=>x==y) && EX l
def tk(l:List ByteArray):List ByteArray:=l.foldr EW []
def EY(h:Hp)(g:FuncId):List AV->Option (AV × Hp)
 |
  [.fn g' [.pt b 0]]=>if g=g' then(match h[b]? with
  |some (.row [.mp id])=>match h[id]? with
   |some (.map es _)=>match abM es with
    |some []=>some (.sc (.slice none 0 0),h)
    |some ks=>if !(EX ks && ks.all λs=>decide (s.size<=maxLen))||decide (1000000<ks.length)then none else some (.sl h.length 1 0 ks.length false,h++[.row ((tk ks).map λs=> .sc (.string s))])
    |none=>none
   |_=>none
  |_=>none)else none
 |_=>none
def reach(h:Hp):Nat->AV->List Nat
 |0,_=> []
 |n+1,.sl id _ _ _ _=>id::((rowOf h id).getD []).flatMap (reach h n)
 |n+1,.pt id _=>id::((rowOf h id).getD []).flatMap (reach h n)
 |n+1,.ag xs=>xs.flatMap (reach h n)
 |n+1,.tp xs=>xs.flatMap (reach h n)
 |n+1,.fn _ xs=>xs.flatMap (reach h n)
 |_,_=> []
def A5(sz bytes:Nat)(h:Hp):List AV->Option (AV × Hp)
 |
  [s,.sc (.int .i64 i),.sl vid sv 0 1 _]=>match h[vid]? with
  |some (.row vs)=>if sv=sz/\vs.length=sz/\0<=i then(match s with
   |
    .sl id s0 0 len false=>match h[id]? with
    |some (.row cs)=>if s0=sz/\id≠vid/\i.toNat<=len/\len*sz<=cs.length/\len+1<=1000000000000000/\(len+1)*bytes<=140737488355328 then
     some (.sl h.length sz 0 (len+1) false,h.set id .dead++[.row (cs.take (i.toNat*sz)++vs++(cs.take (len*sz)).drop (i.toNat*sz))])else none
    |_=>none
   | .ls s0 [] true=>if s0=sz/\i=0/\bytes<=140737488355328 then some (.sl h.length sz 0 1 false,h++[.row vs])else none
   | .sc (.slice none 0 0)=>if i=0/\bytes<=140737488355328 then some (.sl h.length sz 0 1 false,h++[.row vs])else none
   |_=>none)else none
  |_=>none
 |_=>none
noncomputable def ch(C:Cx):Nat->Bool->iB
 |0,_,_,_,_=>none
 |
  n+1,b,f,args,h=>
  match C.oW f with
  |some (g,_)=>if C.inl f then EY h g args else none
  |none=>
  if C.inl f then(match C.ins f with
   |some (sz,bytes)=>A5 sz bytes h args
   |
    none=>match(if args.all dk then C.ux f args else none)with
    |some r=>some (r,h)
    |
     none=>match C.F f with
     |some fi=>(match jQ C fi.body with|some _=>G1 C (ch C n) f args h|none=>om C (ch C n) f args h)
     |none=>none)
  else
   match args.mapM (cD h 8)with
   |some as=>
    let r:=match C.ux f as with
     |some r=>some r
     |
      none=>match om C (ch C n) f as []with
      |some (r,h')=>(cD h' 8 r).map (C.nf f)
      |none=>none
    match r with
    |some r=>if args.all dk||uy r then some (r,h)else if b && (args.mapM (cD (mask (args.flatMap (reach h 8)) h) 8)).isSome then(freeze (args.flatMap (reach h 8)) h).map λh'=>(r,h')else none
    |none=>none
   |none=>none
def sM :TypeDesc->Bool
 | .struct _| .array .. =>true
 |_=>false
def G3(P:Program)(d:TypeDesc):Option Kd:=
 match d with
 | .struct fs=>(fs.toList.mapM λ(f:Field)=>match P.info? f.type,P.underlying f.type with|some fi,some fd=>some (f.offset,fi.size,sM fd)|_,_=>none).map .struct
 |
  .slice e=>match P.info? e,P.underlying e with
  |some ei,some ed=>match ei.zero with
   |some ez=>if ez.cells.toList.all kQ && ez.cells.size==ei.size && ei.size !=0 then some (.slice ei.size (sM ed) ei.bytes ez.cells.toList)else none
   |none=>none
  |_,_=>none
 |
  .array n e=>match P.info? e,P.underlying e with
  |some ei,some ed=>some (.array n ei.size (sM ed))
  |_,_=>none
 |_=>some .GY
def eH(P:Program)(t:TypeId):Option Ti:=
 match P.underlying t,P.info? t with
 |some d,some i=>match i.zero,G3 P d with
  |some z,some kd=>if z.cells.toList.all kQ && z.cells.size==i.size then some {size:=i.size,agg:=sM d,zero:=z.cells.toList,kd:=kd}else none
  |_,_=>none
 |_,_=>none
def G4(P:Program)(f:FuncId):Option Fi:=
 match P.funcs[f]? with
 |some fn=>match fn.body with
  |some c=>(fn.results.toList.mapM λ(r:ResultVar)=>match r with
   | .tmp t=>some (Rv.tmp t)
   | .cell a t=>match P.info? t,P.underlying t with|some i,some d=>some (Rv.cell a i.size (sM d))|_,_=>none).map λres=>{ntmps:=fn.ntmps,body:=c,res:=res}
  |none=>none
 |none=>none
end Go.Ae
