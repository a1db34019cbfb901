/- Part of the proof. -/
import Derived.Orders
import Derived.Laws.AppendOwn
import Derived.Laws.CopyRow
import Derived.Below
import Derived.Laws.IdiomStrings
import Derived.Laws.Cover3
import Derived.MapKept
import Derived.Sort.Statements
import Derived.Lib.BitFns
set_option linter.all false
namespace Go.Ae
open Go
def _root_.Go.db.{u} {c:Prop}{h:Decidable c}(k:¬c){α:Sort u}{t e:α}:ite c t e=e:=if_neg k
def _root_.Go.dd.{u} {c:Prop}{h:Decidable c}(k:c){α:Sort u}{t e:α}:ite c t e=t:=if_pos k
abbrev Za:=@List.getElem?_eq_some_iff
abbrev Zb:=@List.getElem?_eq_getElem
abbrev Zc:=@Option.some.injEq
abbrev Zd:=@List.getElem?_append_left
abbrev Ze:=@Option.map_eq_some_iff
abbrev Zf:=@List.getElem?_append_right
abbrev Zg:=@Prod.mk.injEq
abbrev Zh:=@Bool.and_eq_true
abbrev Zi:=@List.mem_of_getElem?
abbrev Zj:=@List.getElem?_set_self
abbrev Zk:=@List.mem_append_right
abbrev Zl:=@List.eq_nil_of_length_eq_zero
abbrev Zm:=@List.drop_eq_getElem_cons
abbrev Zn:=@List.all_cons
abbrev Zo:=@List.mapM_cons
abbrev Zp:=@List.append_assoc
abbrev Zq:=@List.getElem?_set_ne
abbrev Zr:=@Array.getD_eq_getD_getElem?
abbrev Zs:=@List.getElem?_map
abbrev Zt:=@List.drop_eq_nil_of_le
abbrev Zu:=@List.length_append
abbrev Zv:=@List.cons_append
abbrev Zw:=@List.nil_append
abbrev Zx:=@Nat.mul_le_mul_right
abbrev Zy:=@List.mem_append_left
abbrev Zz:=@decide_eq_true_eq
abbrev Ya:=@List.mem_append
abbrev Yb:=@Nat.le_of_not_lt
abbrev Yc:=@Nat.le_antisymm
abbrev Yd:=@Option.isNone_iff_eq_none
abbrev Ye:=@List.pairwise_cons
abbrev Yf:=@List.getElem?_cons_succ
abbrev Yg:=@List.getElem?_cons_zero
abbrev Yh:=@Option.bind_eq_some_iff
abbrev Yi:=@List.mem_map
abbrev Yj:=@List.getD_eq_getElem?_getD
abbrev Yk:=@List.length_map
abbrev Yl:=@List.foldl_cons
abbrev Ym:=@Nat.lt_of_lt_of_le
abbrev Yn:=@Nat.le_trans
abbrev Yo:=@List.filter_append
abbrev Yp:=@List.append_nil
abbrev Yq:=@Bool.false_eq_true
abbrev Yr:=@List.all_eq_true
abbrev Ys:=@List.take_of_length_le
abbrev Yt:=@Nat.le_refl
abbrev Yu:=@List.flatMap_cons
abbrev Yv:=@Option.getD_some
abbrev Yw:=@List.length_cons
abbrev Yx:=@List.take_add_one
abbrev Yy:=@List.length_take
abbrev Yz:=@List.take_length
abbrev Xa:=@List.length_nil
abbrev Xb:=@Nat.zero_add
abbrev Xc:=@Bool.not_eq_true'
abbrev Xd:=@List.getElem_mem
abbrev Xe:=@List.ext_getElem?
abbrev Xf:=@List.length_singleton
abbrev Xg:=@List.getElem?_drop
abbrev Xh:=@List.flatMap_append
abbrev Xi:=@List.map_cons
abbrev Xj:=@Bool.not_false
abbrev Xk:=@List.length_drop
abbrev Xl:=@List.mem_of_mem_take
abbrev Xm:=@List.mem_cons
abbrev Xn:=@List.mem_cons_of_mem
abbrev Xo:=@List.length_filter_le
abbrev Xp:=@List.getElem?_range
abbrev Xq:=@Option.map_some
abbrev Xr:=@List.getElem?_take
abbrev Xs:=@Int.mul_le_mul_of_nonneg_right
abbrev Xt:=@List.getElem?_eq_none
abbrev Xu:=@Nat.ne_of_lt
abbrev Xv:=@Array.getElem?_eq_getElem
abbrev Xw:=@Nat.add_mul
abbrev Xx:=@Array.getElem?_append_left
abbrev Xy:=@Array.getElem?_eq_some_iff
abbrev Xz:=@Bool.not_true
abbrev Qa:=@List.isEmpty_nil
abbrev Qb:=@Option.isSome_some
abbrev Qc:=@Option.isSome_none
abbrev Qd:=@List.isEmpty_cons
abbrev Qe:=@List.length_eq_one_iff
def lG :Value->Bool
 | .bool _| .int .. | .float .. | .string _| .pointer none| .slice none 0 0| .map none| .nilFunc| .nilIface=>true
 | .iface _ v=>lG v
 |_=>false
inductive AV where
 |ud
 |un
 |sc (v:Value)
 |ls (sz:Nat) (cY:List (List AV)) (z:Bool)
 |sl (id sz off len:Nat) (k:Bool)
 |pt (id off:Nat)
 |rp (row:List AV) (j:Nat)
 |fn (f:FuncId) (pU:List AV)
 |ag (cells:List AV)
 |tp (vs:List AV)
 |mp (id:Nat)
 |pn (v:Value)
 deriving Inhabited
inductive fp where
 |dead
 |row (cs:List AV)
 |map (es:List (Value × AV)) (clock:Nat)
 |KK (cs:List AV)
 |raw (cs:List AV)
 |iter (s:ByteArray) (pos:Nat)
abbrev Hp :=List fp
inductive Ri (w:World)(X:Nat->Prop):Value->AV->Prop where
 |ud (v:Value):Ri w X v .ud
 |un:Ri w X undef .un
 |sc (v:Value):lG v=true->Ri w X v (.sc v)
 |le (a:Option Addr) (cap sz:Nat) (z:Bool):cap<=maxLen->(z=true->cap=0)->Ri w X (.slice a 0 cap) (.ls sz [] z)
 |ls (b o len cap sz:Nat) (cY:List (List AV)) (z:Bool) (us:Nat->Nat->Value) (dA:Array Value) (t:TypeId) (fz:Nat × Nat):
  ¬X b->w.heap[b]?=some (.cells dA t fz)->cY.length=len->len<=cap->cap<=maxLen->(z=true->cap=len)->
  (∀(i:Nat) (row:List AV),cY[i]?=some row->row.length=sz)->
  (∀(i:Nat) (row:List AV) (j:Nat) (x:AV),cY[i]?=some row->row[j]?=some x->dA[o+i*sz+j]?=some (us i j)/\(us i j).oneCell'=true)->
  (∀(i:Nat) (row:List AV) (j:Nat) (x:AV),cY[i]?=some row->row[j]?=some x->Ri w X (us i j) x)->
  Ri w X (.slice (some ⟨b,o,none⟩) len cap) (.ls sz cY z)
 |rp (b o j:Nat) (row:List AV) (us:Nat->Value) (dA:Array Value) (t:TypeId) (fz:Nat × Nat):
  ¬X b->w.heap[b]?=some (.cells dA t fz)->
  (∀(k:Nat) (x:AV),row[k]?=some x->dA[o+k]?=some (us k)/\(us k).oneCell'=true)->
  (∀(k:Nat) (x:AV),row[k]?=some x->Ri w X (us k) x)->
  Ri w X (.pointer (some ⟨b,o+j,none⟩)) (.rp row j)
 |fn (f:FuncId) (us:Array Value) (xs:List AV):us.size=xs.length->(∀(k:Nat) (x:AV),xs[k]?=some x->Ri w X (us.getD k undef) x)->Ri w X (.func (.func f) #[] us) (.fn f xs)
 |ag (us:Array Value) (xs:List AV):us.size=xs.length->(∀k,k<us.size->(us.getD k undef).oneCell'=true)->(∀(k:Nat) (x:AV),xs[k]?=some x->Ri w X (us.getD k undef) x)->Ri w X (.agg us) (.ag xs)
 |tp (us:Array Value) (xs:List AV):us.size=xs.length->(∀(k:Nat) (x:AV),xs[k]?=some x->Ri w X (us.getD k undef) x)->Ri w X (.tuple us) (.tp xs)
inductive Rp (w:World)(X:Nat->Prop)(ρ:Nat->Nat)(n:Nat):Value->AV->Prop where
 |im {v:Value} {x:AV}:Ri w X v x->Rp w X ρ n v x
 |sl (id sz off len cap:Nat) (k:Bool) (dA:Array Value) (t:TypeId) (fz:Nat × Nat):id<n->w.heap[ρ id]?=some (.cells dA t fz)->off+cap*sz<=dA.size->(k=true->cap=len)->(k=false->off+cap*sz=dA.size)->len<=cap->cap<=maxLen->
  Rp w X ρ n (.slice (some ⟨ρ id,off,none⟩) len cap) (.sl id sz off len k)
 |pt (id off:Nat):id<n->Rp w X ρ n (.pointer (some ⟨ρ id,off,none⟩)) (.pt id off)
 |mp (id:Nat):id<n->Rp w X ρ n (.map (some (ρ id))) (.mp id)
 |fn (f:FuncId) (us:Array Value) (xs:List AV):us.size=xs.length->(∀(k:Nat) (x:AV),xs[k]?=some x->Rp w X ρ n (us.getD k undef) x)->Rp w X ρ n (.func (.func f) #[] us) (.fn f xs)
 |ag (us:Array Value) (xs:List AV):us.size=xs.length->(∀k,k<us.size->(us.getD k undef).oneCell'=true)->(∀(k:Nat) (x:AV),xs[k]?=some x->Rp w X ρ n (us.getD k undef) x)->Rp w X ρ n (.agg us) (.ag xs)
 |tp (us:Array Value) (xs:List AV):us.size=xs.length->(∀(k:Nat) (x:AV),xs[k]?=some x->Rp w X ρ n (us.getD k undef) x)->Rp w X ρ n (.tuple us) (.tp xs)
def wN :fp->Bool
 | .row _| .raw _| .map .. | .iter .. =>true
 |_=>false
def live (h:Hp)(i:Nat):Prop:=∃b,h[i]?=some b/\wN b=true
def own (ρ:Nat->Nat)(h:Hp)(b:Nat):Prop:=∃i,live h i/\ρ i=b
def fj (X:Nat->Prop)(ρ:Nat->Nat)(h:Hp)(b:Nat):Prop:=X b\/own ρ h b
structure Step (w:World)(O:Nat->Prop)(w':World)(O':Nat->Prop):Prop where
 os:w'.os=w.os
 tape:w'.tape=w.tape
 output:w'.output=w.output
 size:w.heap.size<=w'.heap.size
 keep:∀b,b<w.heap.size->¬O b->w'.heap[b]?=w.heap[b]?
 row:∀(b:Nat) (dA:Array Value) (t:TypeId) (fz:Nat × Nat),w.heap[b]?=some (Obj.cells dA t fz)->∃(cur':Array Value) (t':TypeId) (x8:Nat × Nat),w'.heap[b]?=some (Obj.cells cur' t' x8)/\cur'.size=dA.size
 less:∀b,b<w.heap.size->O' b->O b
 drew:w.drawn<=w'.drawn
def Step.refl (w:World)(O:Nat->Prop):Step w O w O:=
 ⟨rfl,rfl,rfl,Yt _,λ_ _ _=>rfl,λ_ _ _ _ h=>⟨_,_,_,h,rfl⟩,λ_ _ h=>h,Yt _⟩
def Step.trans {w w1 w2:World}{O O1 O2:Nat->Prop}(h:Step w O w1 O1)(k:Step w1 O1 w2 O2):Step w O w2 O2:={
 os:=k.os.trans h.os
 tape:=k.tape.trans h.tape
 output:=k.output.trans h.output
 size:=Yn h.size k.size
 keep:=λb hb hO=>(k.keep b (Ym hb h.size) λh1=>hO (h.less b hb h1)).trans (h.keep b hb hO)
 row:=λb dA t fz hc=>by
  obtain⟨c1,t1,aa,h1,e1⟩:=h.row b dA t fz hc;obtain⟨c2,t2,ae,h2,e2⟩:=k.row b c1 t1 aa h1;exact⟨c2,t2,ae,h2,e2.trans e1⟩
 less:=λb hb h2=>h.less b hb (k.less b (Ym hb h.size) h2)
 drew:=Yn h.drew k.drew}
def fH {w:World}{b:Nat}{o:Obj}(h:w.heap[b]?=some o):b<w.heap.size:=(Xy.1 h).1
structure Kept (w:World)(X:Nat->Prop)(w':World)(X':Nat->Prop):Prop where
 keep:∀b,b<w.heap.size->¬X b->w'.heap[b]?=w.heap[b]?
 less:∀b,b<w.heap.size->X' b->X b
def Ri.kept {w w':World}{X X':Nat->Prop}(hk:Kept w X w' X'){v:Value}{x:AV}(h:Ri w X v x):Ri w' X' v x:=by
 induction h with
 |ud v=>exact .ud v
 |un=>exact .un
 |sc v hv=>exact .sc v hv
 |le a cap sz z h1 h2=>exact .le a cap sz z h1 h2
 |
  ls b o len cap sz cY z us dA t fz hx hb h1 h2 h3 h4 h5 h6 h7 ih=>
  have dY:=fH hb;exact .ls b o len cap sz cY z us dA t fz (λhh=>hx (hk.less b dY hh)) ((hk.keep b dY hx).trans hb) h1 h2 h3 h4 h5 h6 ih
 |
  rp b o j row us dA t fz hx hb h1 h2 ih=>
  have dY:=fH hb;exact .rp b o j row us dA t fz (λhh=>hx (hk.less b dY hh)) ((hk.keep b dY hx).trans hb) h1 ih
 |fn f us xs h1 h2 ih=>exact .fn f us xs h1 ih
 |ag us xs h1 h2 h3 ih=>exact .ag us xs h1 h2 ih
 |tp us xs h1 h2 ih=>exact .tp us xs h1 ih
def Ri.zZ {w:World}{X X':Nat->Prop}(hX:∀b,X' b->X b){v:Value}{x:AV}(h:Ri w X v x):Ri w X' v x:=
 h.kept ⟨λ_ _ _=>rfl,λb _=>hX b⟩
def Step.kept {w w':World}{X:Nat->Prop}{ρ ρ':Nat->Nat}{h h':Hp}(hs:Step w (own ρ h) w' (own ρ' h')):Kept w (fj X ρ h) w' (fj X ρ' h'):={
 keep:=λb hb hX=>hs.keep b hb λho=>hX (.inr ho)
 less:=λb hb hX=>hX.imp id (hs.less b hb)}
def Rp.step {w w':World}{X:Nat->Prop}{ρ ρ':Nat->Nat}{h h':Hp}(hs:Step w (own ρ h) w' (own ρ' h')){n n':Nat}(hρ:∀i,i<n->ρ' i=ρ i)(hn:n<=n')
 {v:Value} {x:AV} (hr:Rp w (fj X ρ h) ρ n v x):Rp w' (fj X ρ' h') ρ' n' v x:=by
 induction hr with
 |im hi=>exact .im (hi.kept hs.kept)
 |
  sl id sz off len cap k dA t fz h1 h2 h3 h4 h5 h6 h7=>
  obtain⟨c',t',f',hc,gC⟩:=hs.row _ _ _ _ h2;rw[<-hρ id h1]at hc|-;exact .sl id sz off len cap k c' t' f' (Ym h1 hn) hc (by rw[gC];exact h3) h4 (by rw[gC];exact h5) h6 h7
 |pt id off h1=>rw[<-hρ id h1];exact .pt id off (Ym h1 hn)
 |mp id h1=>rw[<-hρ id h1];exact .mp id (Ym h1 hn)
 |fn f us xs h1 h2 ih=>exact .fn f us xs h1 ih
 |ag us xs h1 h2 h3 ih=>exact .ag us xs h1 h2 ih
 |tp us xs h1 h2 ih=>exact .tp us xs h1 ih
def Fz (fz:Nat × Nat)(dA:Array Value):Prop:=fz=(0,0)\/(dA.size<=fz.1/\False)
def Fw (fz:Nat × Nat)(dA:Array Value):Prop:=fz=(0,0)\/dA.size<=fz.1
def Fz.eq {fz:Nat × Nat}{dA:Array Value}(h:Fz fz dA):fz=(0,0):=h.elim (λq=>q) λq=>q.2.elim
def Dg (w:World)(X:Nat->Prop)(ρ:Nat->Nat)(n:Nat)(ob:Option Obj):fp->Prop
 | .dead=>True
 | .row cs=>∃(dA:Array Value) (t:TypeId) (fz:Nat × Nat) (us:Nat->Value),ob=some (.cells dA t fz)/\Fz fz dA/\cs.length<=dA.size/\
  ∀k x,cs[k]?=some x->dA[k]?=some (us k)/\(us k).oneCell'=true/\Rp w X ρ n (us k) x
 | .map es clock=>∃ms:Array MapEntry,ob=some (.map ms clock)/\ms.size=es.length/\(ms.toList.map (·.born)).Nodup/\
  ∀(k:Nat) (e:Value × AV),es[k]?=some e->∃m:MapEntry,ms[k]?=some m/\m.key=e.1/\lG e.1=true/\m.born<clock/\Rp w X ρ n m.val e.2
 | .KK cs=>∃(dA:Array Value) (t:TypeId) (fz:Nat × Nat) (us:Nat->Value),ob=some (.cells dA t fz)/\
  ∀k x,cs[k]?=some x->dA[k]?=some (us k)/\(us k).oneCell'=true/\Ri w X (us k) x
 | .iter s pos=>ob=some (.stringIter s pos)
 | .raw cs=>∃(dA:Array Value) (t:TypeId) (fz:Nat × Nat) (us:Nat->Value),ob=some (.cells dA t fz)/\Fw fz dA/\cs.length<=dA.size/\
  ∀k x,cs[k]?=some x->dA[k]?=some (us k)/\(us k).oneCell'=true/\Rp w X ρ n (us k) x
def Dg.step {w w':World}{X:Nat->Prop}{ρ ρ':Nat->Nat}{h h':Hp}(hs:Step w (own ρ h) w' (own ρ' h')){n n':Nat}(hρ:∀i,i<n->ρ' i=ρ i)(hn:n<=n')
 {ob:Option Obj} {b:fp} (hr:Dg w (fj X ρ h) ρ n ob b):Dg w' (fj X ρ' h') ρ' n' ob b:=by
 cases b with
 |dead=>trivial
 |
  row cs=>
  obtain⟨dA,t,fz,us,h1,hf,h2,h3⟩:=hr;exact⟨dA,t,fz,us,h1,hf,h2,λk x hk=>⟨(h3 k x hk).1,(h3 k x hk).2.1,(h3 k x hk).2.2.step hs hρ hn⟩⟩
 |
  map es clock=>
  obtain⟨ms,h1,h2,S9,h3⟩:=hr;refine⟨ms,h1,h2,S9,λk e hk=>?_⟩;obtain⟨m,a1,a2,a3,a4,a5⟩:=h3 k e hk;exact⟨m,a1,a2,a3,a4,a5.step hs hρ hn⟩
 |
  KK cs=>
  obtain⟨dA,t,fz,us,h1,h3⟩:=hr;exact⟨dA,t,fz,us,h1,λk x hk=>⟨(h3 k x hk).1,(h3 k x hk).2.1,(h3 k x hk).2.2.kept hs.kept⟩⟩
 |iter s pos=>exact hr
 |
  raw cs=>
  obtain⟨dA,t,fz,us,h1,hf,h2,h3⟩:=hr;exact⟨dA,t,fz,us,h1,hf,h2,λk x hk=>⟨(h3 k x hk).1,(h3 k x hk).2.1,(h3 k x hk).2.2.step hs hρ hn⟩⟩
def Dg.lt {w w0:World}{X:Nat->Prop}{ρ:Nat->Nat}{n p:Nat}{b:fp}(h:Dg w X ρ n w0.heap[p]? b)(hb:b≠ .dead):p<w0.heap.size:=by
 cases b with
 |dead=>exact absurd rfl hb
 |row cs=>obtain⟨_,_,_,_,hc,_⟩:=h;exact fH hc
 |map es c=>obtain⟨_,hc,_⟩:=h;exact fH hc
 |KK cs=>obtain⟨_,_,_,_,hc,_⟩:=h;exact fH hc
 |raw cs=>obtain⟨_,_,_,_,hc,_⟩:=h;exact fH hc
 |iter s pos=>exact fH h
def gav :Value->AV
 | .tuple _=> .ud
 |v=> .sc v
def gok (v u:Value):Prop:=
 match v with
 | .tuple _=>∃m:Int,u= .int .i64 m
 |v=>u=v/\lG v=true
def adf {w:World}{X:Nat->Prop}{v u:Value}(h:gok v u):Ri w X u (gav v):=by
 unfold gok at h;unfold gav;split
 .exact .ud u
 .rename_i hn;split at h
  .exact absurd rfl (hn _)
  .obtain⟨rfl,hf⟩:=h;exact .sc _ hf
structure iw (G:Nat->Option (List Value))(w:World)(X:Nat->Prop)(ρ:Nat->Nat)(h:Hp):Prop where
 DV:∀b,X b->b<w.heap.size
 tD:∀(g:Nat) (row:List Value),G g=some row->¬fj X ρ h g/\∃(dA:Array Value) (t:TypeId) (fz:Nat × Nat),w.heap[g]?=some (.cells dA t fz)/\dA.size=row.length/\∀(k:Nat) (v:Value),row[k]?=some v->∃u,dA[k]?=some u/\u.oneCell'=true/\gok v u
 inj:∀i j,live h i->live h j->ρ i=ρ j->i=j
 out:∀i,live h i->¬X (ρ i)
 rV:∀(i:Nat) (cs:List AV),h[i]?=some (.KK cs)->¬fj X ρ h (ρ i)
 kg:∀(i:Nat) (b:fp),h[i]?=some b->Dg w (fj X ρ h) ρ h.length w.heap[ρ i]? b
def iw.row {G:Nat->Option (List Value)}{w:World}{X:Nat->Prop}{ρ:Nat->Nat}{h:Hp}(hs:iw G w X ρ h)(i:Nat)(cs:List AV)(hi:h[i]?=some (.row cs)):
 ∃(dA:Array Value) (t:TypeId) (fz:Nat × Nat) (us:Nat->Value),w.heap[ρ i]?=some (.cells dA t fz)/\Fz fz dA/\cs.length<=dA.size/\
 ∀k x,cs[k]?=some x->dA[k]?=some (us k)/\(us k).oneCell'=true/\Rp w (fj X ρ h) ρ h.length (us k) x:=hs.kg i _ hi
def iw.lt {G:Nat->Option (List Value)}{w:World}{X:Nat->Prop}{ρ:Nat->Nat}{h:Hp}(hs:iw G w X ρ h){i:Nat}(hi:live h i):ρ i<w.heap.size:=by
 obtain⟨b,hb,hd⟩:=hi;exact(hs.kg i b hb).lt (λe=>by subst e;cases hd)
def RF (w:World)(X:Nat->Prop)(ρ:Nat->Nat)(n:Nat)(tmps:Array Value)(fr:List AV):Prop:=
 tmps.size=fr.length/\∀(i:Nat) (x:AV),fr[i]?=some x->Rp w X ρ n (tmps.getD i undef) x
def RF.step {w w':World}{X:Nat->Prop}{ρ ρ':Nat->Nat}{h h':Hp}(hs:Step w (own ρ h) w' (own ρ' h')){n n':Nat}(hρ:∀i,i<n->ρ' i=ρ i)(hn:n<=n')
 {tmps:Array Value} {fr:List AV} (hr:RF w (fj X ρ h) ρ n tmps fr):RF w' (fj X ρ' h') ρ' n' tmps fr:=
 ⟨hr.1,λi x hx=>(hr.2 i x hx).step hs hρ hn⟩
def RF.put {w:World}{X:Nat->Prop}{ρ:Nat->Nat}{n:Nat}{tmps:Array Value}{fr:List AV}(hr:RF w X ρ n tmps fr)(d:Nat){v:Value}{x:AV}(hv:Rp w X ρ n v x):
 RF w X ρ n (tmps.setIfInBounds d v) (fr.set d x):=by
 refine⟨by simp[hr.1],λi y hy=>?_⟩;by_cases dC:d=i
 .subst dC;have dY:d<fr.length:=by have:=(Za.1 hy).1;simpa using this
  rw[Zj dY]at hy;cases hy;have:d<tmps.size:=by rw[hr.1];exact dY
  simpa[this]using hv
 .rw[Zq dC]at hy;have h2:=hr.2 i y hy;simpa[Array.getElem?_setIfInBounds_ne dC]using h2
structure Ext (G:Nat->Option (List Value))(w:World)(X:Nat->Prop)(ρ:Nat->Nat)(h:Hp)(w':World)(ρ':Nat->Nat)(h':Hp):Prop where
 wO:iw G w' X ρ' h'
 rho:∀i,i<h.length->ρ' i=ρ i
 len:h.length<=h'.length
 step:Step w (own ρ h) w' (own ρ' h')
def Ext.refl {G:Nat->Option (List Value)}{w:World}{X:Nat->Prop}{ρ:Nat->Nat}{h:Hp}(hs:iw G w X ρ h):Ext G w X ρ h w ρ h:=⟨hs,λ_ _=>rfl,Yt _,Step.refl _ _⟩
def Ext.trans {G:Nat->Option (List Value)}{w w1 w2:World}{X:Nat->Prop}{ρ ρ1 ρ2:Nat->Nat}{h h1 h2:Hp}(e:Ext G w X ρ h w1 ρ1 h1)(k:Ext G w1 X ρ1 h1 w2 ρ2 h2):Ext G w X ρ h w2 ρ2 h2:=
 ⟨k.wO,λi hi=>(k.rho i (Ym hi e.len)).trans (e.rho i hi),Yn e.len k.len,e.step.trans k.step⟩
def Ext.rp {G:Nat->Option (List Value)}{w w':World}{X:Nat->Prop}{ρ ρ':Nat->Nat}{h h':Hp}(e:Ext G w X ρ h w' ρ' h'){v:Value}{x:AV}(hr:Rp w (fj X ρ h) ρ h.length v x):Rp w' (fj X ρ' h') ρ' h'.length v x:=
 hr.step e.step e.rho e.len
def Ext.rf {G:Nat->Option (List Value)}{w w':World}{X:Nat->Prop}{ρ ρ':Nat->Nat}{h h':Hp}(e:Ext G w X ρ h w' ρ' h'){tmps:Array Value}{fr:List AV}(hr:RF w (fj X ρ h) ρ h.length tmps fr):RF w' (fj X ρ' h') ρ' h'.length tmps fr:=
 hr.step e.step e.rho e.len
def Au {G:Nat->Option (List Value)}{w:World}{X:Nat->Prop}{ρ:Nat->Nat}{h:Hp}(hs:iw G w X ρ h)(ob:Obj)(b:fp)(hlb:wN b=true)(hb:Dg w (fj X ρ h) ρ h.length (some ob) b):
 Ext G w X ρ h (w.alloc ob) (λi=>if i=h.length then w.heap.size else ρ i) (h++[b]):=by
 have mI:(w.alloc ob).heap=w.heap.push ob:=rfl;have hsize:(w.alloc ob).heap.size=w.heap.size+1:=by rw[mI];simp
 have hold:∀b,b<w.heap.size->(w.alloc ob).heap[b]?=w.heap[b]?:=λb hb=>by
  rw[mI];simp[Array.getElem?_push,Xu hb]
 have Pq:(w.alloc ob).heap[w.heap.size]?=some ob:=by rw[mI];simp
 have iH:∀i,live (h++[b]) i->(live h i/\i<h.length)\/i=h.length:=by
  rintro i ⟨b',vB,hd⟩;by_cases hi:i<h.length
  .rw[Zd hi]at vB;exact .inl ⟨⟨b',vB,hd⟩,hi⟩
  .right;have:i< (h++[b]).length:=(Za.1 vB).1;simp at this;omega
 have eZ:Step w (own ρ h) (w.alloc ob) (own (λi=>if i=h.length then w.heap.size else ρ i) (h++[b])):=by
  refine⟨rfl,rfl,rfl,by omega,λb hb _=>hold b hb,λb c t' x8 hb=>⟨c,t',x8,?_,rfl⟩,?_,Yt _⟩
  .rw[hold b (fH hb)];exact hb
  .rintro b hb ⟨i,hi,hρ⟩;rcases iH i hi with⟨hl,dY⟩|rfl
   .exact⟨i,hl,by simpa[Xu dY]using hρ⟩
   .simp at hρ;omega
 have AY:∀i,i<h.length->(λi=>if i=h.length then w.heap.size else ρ i) i=ρ i:=λi hi=>by simp[Xu hi]
 have hX:=hs.DV;have vC:∀(i:Nat) (b':fp),(h++[b])[i]?=some b'->(i<h.length/\h[i]?=some b')\/(i=h.length/\b'=b):=by
  intro i b' hi;by_cases dY:i<h.length
  .rw[Zd dY]at hi;exact .inl ⟨dY,hi⟩
  .have he:i=h.length:=by have:i< (h++[b]).length:=(Za.1 hi).1;simp at this;omega
   subst he;simp at hi;exact .inr ⟨rfl,hi.symm⟩
 refine⟨⟨λb hb=>by have:=hX b hb;omega,λg row hg=>?_,?_,?_,?_,?_⟩,AY,by simp,eZ⟩
 .obtain⟨h1,c,t',x8,h2,h3⟩:=hs.tD g row hg;refine⟨λhh=>h1 (eZ.kept.less g (fH h2) hh),c,t',x8,?_,h3⟩;rw[hold g (fH h2)];exact h2
 .intro i j hi hj qS;rcases iH i hi with⟨Av,NF⟩|rfl<;>rcases iH j hj with⟨S_,vT⟩|rfl
  .simp[Xu NF,Xu vT]at qS;exact hs.inj i j Av S_ qS
  .simp[Xu NF]at qS;have:=hs.lt Av;omega
  .simp[Xu vT]at qS;have:=hs.lt S_;omega
  .rfl
 .intro i hi hx;rcases iH i hi with⟨Av,NF⟩|rfl
  .simp[Xu NF]at hx;exact hs.out i Av hx
  .simp at hx;have:=hX _ hx;omega
 .intro i cs hi hh;rcases vC i _ hi with⟨dY,pQ⟩|⟨_,e⟩
  .have h1:=hs.rV i cs pQ;have h2:=(hs.kg i _ pQ).lt (by simp);simp only[Xu dY,if_false]at hh;exact h1 (eZ.kept.less _ h2 hh)
  .subst e;cases hlb
 .intro i b' hi;rcases vC i b' hi with⟨dY,pQ⟩|⟨rfl,rfl⟩
  .have h1:=hs.kg i b' pQ;by_cases hd:b'= .dead
   .subst hd;trivial
   .simp only[Xu dY,if_false];rw[hold _ (h1.lt hd)];exact h1.step eZ AY (by simp)
  .simp only[if_true,Pq];exact hb.step eZ AY (by simp)
def uP {G:Nat->Option (List Value)}{w:World}{X:Nat->Prop}{ρ:Nat->Nat}{h:Hp}(hs:iw G w X ρ h)(dA:Array Value)(t:TypeId)(cs:List AV)(us:Nat->Value)(cU:cs.length<=dA.size)
 (hcs:∀k x,cs[k]?=some x->dA[k]?=some (us k)/\(us k).oneCell'=true/\Rp w (fj X ρ h) ρ h.length (us k) x) (fz:Nat × Nat) (z6:Fz fz dA):
 Ext G w X ρ h (w.alloc (.cells dA t fz)) (λi=>if i=h.length then w.heap.size else ρ i) (h++[fp.row cs]):=
 Au hs _ _ rfl ⟨dA,t,fz,us,rfl,z6,cU,hcs⟩
def qT {G:Nat->Option (List Value)}{w w':World}{X:Nat->Prop}{ρ:Nat->Nat}{h:Hp}(hs:iw G w X ρ h)(id:Nat)(b0 b:fp)(dC:h[id]?=some b0)(qg:wN b0=true)(hlb:wN b=true)
 (ho:w'.os=w.os) (hta:w'.tape=w.tape) (hou:w'.output=w.output) (gC:w'.heap.size=w.heap.size)
 (fX:∀(dA:Array Value) (t:TypeId) (fz:Nat × Nat),w.heap[ρ id]?=some (.cells dA t fz)->∃(cur':Array Value) (t':TypeId) (x8:Nat × Nat),w'.heap[ρ id]?=some (.cells cur' t' x8)/\cur'.size=dA.size)
 (eW:∀b,b≠ρ id->w'.heap[b]?=w.heap[b]?) (hb:Dg w (fj X ρ h) ρ h.length w'.heap[ρ id]? b) (Dh:w.drawn<=w'.drawn:=by exact Yt _):
 Ext G w X ρ h w' ρ (h.set id b):=by
 have dY:id<h.length:=(Za.1 dC).1;have iH:∀i,live (h.set id b) i↔live h i:=by
  intro i;unfold live;by_cases hi:id=i
  .subst hi;exact⟨λ_=>⟨_,dC,qg⟩,λ_=>⟨_,Zj dY,hlb⟩⟩
  .rw[Zq hi]
 have wP:∀p,own ρ (h.set id b) p↔own ρ h p:=λp=>⟨λ⟨i,a,c⟩=>⟨i,(iH i).1 a,c⟩,λ⟨i,a,c⟩=>⟨i,(iH i).2 a,c⟩⟩
 have K2:own ρ h (ρ id):=⟨id,⟨_,dC,qg⟩,rfl⟩;have eZ:Step w (own ρ h) w' (own ρ (h.set id b)):=by
  refine⟨ho,hta,hou,by omega,λb _ hb=>eW b (λe=>hb (e▸K2)),λp c t' fz hp=>?_,λp _ hp=>(wP p).1 hp,Dh⟩;by_cases e:p=ρ id
  .subst e;exact fX c t' fz hp
  .exact⟨c,t',fz,(eW p e).trans hp,rfl⟩
 refine⟨⟨λp hp=>by have:=hs.DV p hp;omega,λg row hg=>?_,λi j hi hj=>hs.inj i j ((iH i).1 hi) ((iH j).1 hj),λi hi=>hs.out i ((iH i).1 hi),?_,?_⟩,λ_ _=>rfl,by simp,eZ⟩
 .obtain⟨h1,c,t',fz,h2,h3⟩:=hs.tD g row hg;refine⟨λhh=>h1 (eZ.kept.less g (fH h2) hh),c,t',fz,?_,h3⟩;rw[eW g (λe=>h1 (.inr (e▸K2)))];exact h2
 .intro i cs hi hh;by_cases e:id=i
  .subst e;rw[Zj dY]at hi;cases hi;cases hlb
  .rw[Zq e]at hi;exact hs.rV i cs hi (hh.imp (λq=>q) (wP _).1)
 .intro i b' hi;by_cases e:id=i
  .subst e;rw[Zj dY]at hi;cases hi;exact hb.step eZ (λ_ _=>rfl) (by simp)
  .rw[Zq e]at hi;have h1:=hs.kg i b' hi;by_cases hd:b'= .dead
   .subst hd;trivial
   .have ajE:ρ i≠ρ id:=by
     intro e';cases NG:wN b' with
     |true=>exact e (hs.inj id i ⟨_,dC,qg⟩ ⟨_,hi,NG⟩ e'.symm)
     |
      false=>
      cases b' with
      |dead=>exact hd rfl
      |KK cs=>exact hs.rV i cs hi (.inr (e'▸K2))
      |row cs=>cases NG
      |raw cs=>cases NG
      |map es c=>cases NG
      |iter s p=>cases NG
    rw[eW _ ajE];exact h1.step eZ (λ_ _=>rfl) (by simp)
def DW {G:Nat->Option (List Value)}{w w':World}{X:Nat->Prop}{ρ:Nat->Nat}{h:Hp}(hs:iw G w X ρ h)(id:Nat)(Y4:List AV)(dC:h[id]?=some (.row Y4))(dA cur':Array Value)(t:TypeId)(fz0:Nat × Nat)(z6:Fz fz0 dA)
 (lr:w.heap[ρ id]?=some (.cells dA t fz0))
 (ho:w'.os=w.os) (hta:w'.tape=w.tape) (hou:w'.output=w.output) (gC:w'.heap.size=w.heap.size) (s6:w'.heap[ρ id]?=some (.cells cur' t fz0)) (qj:cur'.size=dA.size)
 (eW:∀b,b≠ρ id->w'.heap[b]?=w.heap[b]?) (cs:List AV) (us:Nat->Value) (cU:cs.length<=cur'.size)
 (hcs:∀k x,cs[k]?=some x->cur'[k]?=some (us k)/\(us k).oneCell'=true/\Rp w (fj X ρ h) ρ h.length (us k) x) (Dh:w.drawn<=w'.drawn:=by exact Yt _):
 Ext G w X ρ h w' ρ (h.set id (.row cs)):=
 qT hs id _ _ dC rfl rfl ho hta hou gC (λc t' f hc=>by rw[lr]at hc;cases hc;exact⟨_,_,_,s6,qj⟩) eW
  ⟨cur',t,fz0,us,s6,z6.imp (λq=>q) (λhh=>by rw[qj];exact hh),cU,hcs⟩ Dh
def Hs {G:Nat->Option (List Value)}{w:World}{X:Nat->Prop}{ρ:Nat->Nat}{h:Hp}(hs:iw G w X ρ h)(h':Hp)(cU:h'.length=h.length)
 (hb:∀(i:Nat) (b':fp),h'[i]?=some b'->b'= .dead\/h[i]?=some b'\/∃cs,b'= .KK cs/\live h i/\Dg w (fj X ρ h') ρ h.length w.heap[ρ i]? (.KK cs)):Ext G w X ρ h w ρ h':=by
 have iH:∀i,live h' i->live h i:=by
  rintro i ⟨b,hi,hl⟩;rcases hb i b hi with rfl|h1|⟨cs,rfl,_⟩
  .cases hl
  .exact⟨b,h1,hl⟩
  .cases hl
 have wP:∀b,own ρ h' b->own ρ h b:=λb ⟨i,a,c⟩=>⟨i,iH i a,c⟩
 have eZ:Step w (own ρ h) w (own ρ h'):=⟨rfl,rfl,rfl,Yt _,λ_ _ _=>rfl,λ_ _ _ _ hb=>⟨_,_,_,hb,rfl⟩,λb _=>wP b,Yt _⟩;have nP:h.length<=h'.length:=by omega
 refine⟨⟨hs.DV,λg row hg=>?_,λi j hi hj=>hs.inj i j (iH i hi) (iH j hj),λi hi=>hs.out i (iH i hi),?_,?_⟩,λ_ _=>rfl,nP,eZ⟩
 .obtain⟨h1,c,t',fz,h2,h3⟩:=hs.tD g row hg;exact⟨λhh=>h1 (eZ.kept.less g (fH h2) hh),c,t',fz,h2,h3⟩
 .intro i cs hi hh;rcases hb i _ hi with h1|h1|⟨cs',_,hl,_⟩
  .cases h1
  .exact hs.rV i cs h1 (hh.imp (λq=>q) (wP _))
  .rcases hh with hx|⟨j,hj,e⟩
   .exact hs.out i hl hx
   .have:j=i:=hs.inj j i (iH j hj) hl e;subst this;obtain⟨b,Y5,NG⟩:=hj;rw[hi]at Y5;cases Y5;cases NG
 .intro i b' hi;rcases hb i b' hi with rfl|h1|⟨cs,rfl,_,h2⟩
  .trivial
  .exact(hs.kg i b' h1).step eZ (λ_ _=>rfl) nP
  .exact h2.step (Step.refl w (own ρ h')) (λ_ _=>rfl) nP
def Ht {G:Nat->Option (List Value)}{w:World}{X:Nat->Prop}{ρ:Nat->Nat}{h:Hp}(hs:iw G w X ρ h)(id:Nat):Ext G w X ρ h w ρ (h.set id fp.dead):=by
 refine Hs hs _ (by simp) λi b hi=>?_
 by_cases e:id=i
 .subst e;rw[List.getElem?_set_self']at hi;cases hq:h[id]?<;>simp[hq]at hi;exact .inl hi.symm
 .rw[Zq e]at hi;exact .inr (.inl hi)
def AZ {G:Nat->Option (List Value)}{w:World}{X:Nat->Prop}{ρ:Nat->Nat}{h:Hp}(hs:iw G w X ρ h)(id:Nat)(cs:List AV)(dC:h[id]?=some (.row cs)):
 Ext G w X ρ h w (λi=>if i=h.length then ρ id else ρ i) (h.set id fp.dead++[fp.row cs]):=by
 have dY:id<h.length:=(Za.1 dC).1;have cU:(h.set id fp.dead).length=h.length:=by simp
 have vC:∀(i:Nat) (b:fp),(h.set id fp.dead++[fp.row cs])[i]?=some b->b≠ .dead->(i<h.length/\i≠id/\h[i]?=some b)\/(i=h.length/\b= .row cs):=by
  intro i b hi hd;by_cases gG:i<h.length
  .rw[Zd (by omega)]at hi;by_cases e:id=i
   .subst e;simp[dY]at hi;exact absurd hi.symm hd
   .rw[Zq e]at hi;exact .inl ⟨gG,λe'=>e e'.symm,hi⟩
  .have:i< (h.set id fp.dead++[fp.row cs]).length:=(Za.1 hi).1;have he:i=h.length:=by simp at this;omega
   subst he;rw[Zf (by omega)]at hi;simp at hi;exact .inr ⟨rfl,hi.symm⟩
 have Y6:live h id:=⟨_,dC,rfl⟩;have iH:∀i,live (h.set id fp.dead++[fp.row cs]) i->(i<h.length/\i≠id/\live h i)\/i=h.length:=by
  rintro i ⟨b,hb,hd⟩;rcases vC i b hb (λe=>by subst e;cases hd)with⟨h1,h2,h3⟩|⟨h1,_⟩
  .exact .inl ⟨h1,h2,b,h3,hd⟩
  .exact .inr h1
 have wP:∀b,own (λi=>if i=h.length then ρ id else ρ i) (h.set id fp.dead++[fp.row cs]) b->own ρ h b:=by
  rintro b ⟨i,hi,e⟩;rcases iH i hi with⟨h1,_,h3⟩|rfl
  .exact⟨i,h3,by simpa[Xu h1]using e⟩
  .exact⟨id,Y6,by simpa using e⟩
 have eZ:Step w (own ρ h) w (own (λi=>if i=h.length then ρ id else ρ i) (h.set id fp.dead++[fp.row cs])):=
  ⟨rfl,rfl,rfl,Yt _,λ_ _ _=>rfl,λ_ _ _ _ hb=>⟨_,_,_,hb,rfl⟩,λb _=>wP b,Yt _⟩
 have AY:∀i,i<h.length->(λi=>if i=h.length then ρ id else ρ i) i=ρ i:=λi hi=>by simp[Xu hi]
 refine⟨⟨hs.DV,λg row hg=>?_,λi j hi hj qS=>?_,λi hi=>?_,?_,?_⟩,AY,by simp,eZ⟩
 .obtain⟨h1,c,t',fz,h2,h3⟩:=hs.tD g row hg;exact⟨λhh=>h1 (eZ.kept.less g (fH h2) hh),c,t',fz,h2,h3⟩
 .rcases iH i hi with⟨i1,i2,i3⟩|rfl<;>rcases iH j hj with⟨j1,j2,j3⟩|rfl
  .simp[Xu i1,Xu j1]at qS;exact hs.inj i j i3 j3 qS
  .simp[Xu i1]at qS;exact absurd (hs.inj i id i3 Y6 qS) i2
  .simp[Xu j1]at qS;exact absurd (hs.inj j id j3 Y6 qS.symm) j2
  .rfl
 .rcases iH i hi with⟨i1,_,i3⟩|rfl
  .simpa[Xu i1]using hs.out i i3
  .simpa using hs.out id Y6
 .intro i cs' hi hh;rcases vC i _ hi (by simp)with⟨i1,_,i3⟩|⟨_,e⟩
  .simp only[Xu i1,if_false]at hh;exact hs.rV i cs' i3 (hh.imp (λq=>q) (wP _))
  .cases e
 .intro i b hi;by_cases hd:b= .dead
  .subst hd;trivial
  .rcases vC i b hi hd with⟨i1,_,i3⟩|⟨rfl,rfl⟩
   .simp only[Xu i1,if_false];exact(hs.kg i b i3).step eZ AY (by simp)
   .simp only[if_true];exact(hs.kg id _ dC).step eZ AY (by simp)
def uQ {G:Nat->Option (List Value)}{w:World}{X:Nat->Prop}{ρ:Nat->Nat}{h:Hp}(hs:iw G w X ρ h)(k:Nat)(hk:w.drawn<=k:=by omega):Ext G w X ρ h {w with drawn:=k} ρ h:=by
 have eZ:Step w (own ρ h) {w with drawn:=k} (own ρ h):=⟨rfl,rfl,rfl,Yt _,λ_ _ _=>rfl,λ_ _ _ _ hb=>⟨_,_,_,hb,rfl⟩,λ_ _ hh=>hh,hk⟩;exact⟨⟨hs.DV,hs.tD,hs.inj,hs.out,hs.rV,λi b hi=>(hs.kg i b hi).step eZ (λ_ _=>rfl) (Yt _)⟩,λ_ _=>rfl,Yt _,eZ⟩
inductive Kd where
 |Hu
 |struct (fs:List (Nat × Nat × Bool))
 |slice (NH:Nat) (ajF:Bool) (ebytes:Nat) (ezero:List Value)
 |array (n NH:Nat) (ajF:Bool)
structure Ti where
 size:Nat
 agg:Bool
 zero:List Value
 kd:Kd
inductive Rv where
 |tmp (t:Nat)
 |cell (a sz:Nat) (agg:Bool)
structure Fi where
 ntmps:Nat
 body:Code
 res:List Rv
abbrev jH:=FuncId->List AV->Hp->Option (AV × Hp)
structure Cx where
 P:Program
 T:TypeId->Option Ti
 G:Nat->Option (List Value)
 F:FuncId->Option Fi
 inl:FuncId->Bool
 tE:FuncId->List AV->Option AV
 ox:FuncId->Option (FuncId × TypeId)
 Y7:FuncId->Option TypeId
 rV:Oper->Bool
 ext:FuncId->Bool
 ins:FuncId->Option (Nat × Nat)
 nf:FuncId->AV->AV
 thr:FuncId->Bool:=λ_=>false
 mv:TypeId->Option Nat:=λ_=>none
 fuel:Nat
def gf (P:Program){α:Type}:Sem α->Option α
 | .pure a=>some a
 | .program k=>gf P (k P)
 | .mark _ k=>gf P k
 |_=>none
def ofConst :Value->AV
 | .agg cs=>if cs.toList.all lG then .ag (cs.toList.map .sc)else .ud
 |v=>if lG v then .sc v else .ud
def ev (C:Cx)(fr:List AV):Operand->AV
 | .tmp t=>fr.getD t .ud
 | .const v=>ofConst v
 | .global g=>match C.G g with|some row=> .rp (row.map gav) 0|none=> .ud
 | .func f=> .fn f []
def cls :AV->Option (List AV)
 | .ag xs=>some xs
 | .ud| .un| .tp _| .pn _=>none
 |x=>some [x]
def part (agg:Bool)(off sz:Nat)(cs:List AV):Option AV:=
 if agg then(if off+sz<=cs.length then some (.ag ((cs.drop off).take sz))else none)else cs[off]?
def da (cs:List AV)(off:Nat)(vs:List AV):List AV:=cs.take off++vs++cs.drop (off+vs.length)
def ni (place:Nat->Option (Nat × Nat)):List AV->List (Nat × AV)->Option (List AV)
 |cells,[]=>some cells
 |
  cells,(i,x)::rest=>
  match place i,cls x with
  |some (off,size),some cs=>if cs.length=size/\off+size<=cells.length then ni place (da cells off cs) rest else none
  |_,_=>none
def Y8 :AV->Bool| .sc _=>true|_=>false
def adg :AV->Value| .sc v=>v|_=>undef
def zg :AV->Bool
 | .sc _=>true
 | .fn _ []=>true
 | .ag xs=>xs.all Y8
 |_=>false
def vD :AV->Value
 | .sc v=>v
 | .fn f []=> .func (.func f) #[] #[]
 | .ag xs=> .agg (xs.map adg).toArray
 |_=>undef
def A1 :Value->Option AV
 | .tuple vs=>if vs.toList.all lG then some (.tp (vs.toList.map .sc))else none
 | .agg vs=>if vs.toList.all lG then some (.ag (vs.toList.map .sc))else none
 |v=>if lG v then some (.sc v)else none
def wQ :Op->Bool| .select .. =>true|_=>false
def dM (k:IntKind)(n:Int):Int:=
 match k with
 | .i64=>if-9223372036854775808<=n/\n<=9223372036854775807 then n else k.wrap n
 | .u64=>if 0<=n/\n<=18446744073709551615 then n else k.wrap n
 |_=>k.wrap n
def zh (op:BinOp)(k:IntKind)(a b:Int):Option Value:=
 match op with
 | .add=>some (.int k (dM k (a+b)))
 | .sub=>some (.int k (dM k (a-b)))
 | .mul=>some (.int k (dM k (a*b)))
 | .quo=>if b=0 then none else some (.int k (dM k (a.tdiv b)))
 | .rem=>if b=0 then none else some (.int k (a.tmod b))
 | .eql=>some (.bool (decide (a=b)))
 | .neq=>some (.bool !(decide (a=b)))
 | .lss=>some (.bool (decide (a<b)))
 | .leq=>some (.bool (decide (a<=b)))
 | .gtr=>some (.bool (decide (a>b)))
 | .geq=>some (.bool (decide (a≥b)))
 | .and=>if k= .u64/\0<=a/\a<=18446744073709551615/\0<=b/\b<=18446744073709551615 then some (.int k (a.toNat &&& b.toNat:Nat))else none
 | .or=>if k= .u64/\0<=a/\a<=18446744073709551615/\0<=b/\b<=18446744073709551615 then some (.int k (a.toNat|||b.toNat:Nat))else none
 |_=>none
def Aw (op:BinOp)(k:IntKind)(a:Int)(k':IntKind)(b:Int):Option Value:=
 match op with
 | .shr=>if 0<=b/\b<=k.bits then some (.int k (a/(2^b.toNat:Nat)))else none
 |op=>if k=k' then zh op k a b else none
def kr (x y:ByteArray):Bool:=x.data.toList==y.data.toList
def nZ (x y:ByteArray):Bool:=Op.bytesLess x.data.toList y.data.toList
def zi (op:BinOp)(x y:ByteArray):Option Value:=
 match op with
 | .add=>if x.size+y.size<=9223372036854775807 then some (.string (x++y))else none
 | .eql=>some (.bool (kr x y))
 | .neq=>some (.bool !(kr x y))
 | .lss=>some (.bool (nZ x y))
 | .leq=>some (.bool (nZ x y||kr x y))
 | .gtr=>some (.bool !(nZ x y||kr x y))
 | .geq=>some (.bool !(nZ x y))
 |_=>none
def nQ (C:Cx)(t:TypeId):Bool:=match C.P.underlying t with|some (.slice _)=>true|_=>false
def isStr (C:Cx)(t:TypeId):Bool:=match C.P.underlying t with|some .string=>true|_=>false
def vU (C:Cx)(e:Operand->AV)(o:Oper):Option AV:=
 match o.op with
 |
  .binOp op t x y _=>match e x,e y with
  |
   .sc (.bool a),.sc (.bool b)=>(match C.P.underlying t,op with
   |some .bool,.eql=>some (.sc (.bool (a==b)))
   |some .bool,.neq=>some (.sc (.bool (a !=b)))
   |_,_=>none)
  | .sc (.int k a),.sc (.int k' b)=>(Aw op k a k' b).map .sc
  | .sc (.string a),.sc (.string b)=>(zi op a b).map .sc
  |_,_=>none
 |
  .unOp .not _ x=>match e x with
  | .sc (.bool b)=>some (.sc (.bool !b))
  |_=>none
 |
  .unOp .neg _ x=>match e x with
  | .sc (.int k n)=>(zh .sub k 0 n).map .sc
  |_=>none
 |
  .convert src dst x=>match e x with
  |
   .sc (.int _ n)=>match C.P.underlying src,C.P.underlying dst with
   |some (.int _),some (.int k)=>some (.sc (.int k (dM k n)))
   |_,_=>none
  |_=>none
 |
  .index t x ix=>match e x,e ix with
  | .sc (.string s),.sc (.int _ i)=>if isStr C t/\0<=i then(s.data.toList[i.toNat]?).map λb=> .sc (.int .u8 b.toNat)else none
  |_,_=>none
 |
  .call {callee:= .builtin .len,args,argTypes}=>match args.toList,argTypes.toList with
  |
   [x],[t]=>match e x with
   | .sc (.string s)=>if isStr C t then some (.sc (.int .i64 s.size))else none
   | .sc (.slice none 0 0)=>if nQ C t then some (.sc (.int .i64 0))else none
   |_=>none
  |_,_=>none
 |
  .call {callee:= .builtin .max,args,.. }=>match args.toList with
  |
   [x,y]=>match e x,e y with
   | .sc (.int k a),.sc (.int _ b)=>some (.sc (.int k (if b>a then b else a)))
   |_,_=>none
  |_=>none
 |
  .call {callee:= .builtin .min,args,.. }=>match args.toList with
  |
   [x,y]=>match e x,e y with
   | .sc (.int k a),.sc (.int _ b)=>some (.sc (.int k (if b<a then b else a)))
   |_,_=>none
  |_=>none
 |_=>none
def j4 (C:Cx)(e:Operand->AV)(o:Oper):Option AV:=
 if !wQ o.op && o.op.operands.toList.all λx=>zg (e x)then
  match gf C.P (execOp (λx=>vD (e x)) o)with
  |some (.value v)=>A1 v
  |_=>none
 else none
def iI (C:Cx)(e:Operand->AV)(o:Oper):Option AV:=
 match vU C e o with
 |some r=>some r
 |none=>j4 C e o
def gI (h:Hp)(id:Nat):Option (List AV):=
 match h[id]? with
 |some (.row cs)=>some cs
 |some (.KK cs)=>some cs
 |some (.raw cs)=>some cs
 |_=>none
def gY (h:Hp):AV->Option (Nat × List AV)
 | .sc (.slice none 0 0)=>some (0,[])
 | .ls _ cY _=>some (cY.length,cY.flatten)
 |
  .sl id sz off len _=>match gI h id with
  |some cs=>if off+len*sz<=cs.length then some (len,(cs.drop off).take (len*sz))else none
  |none=>none
 |_=>none
def jL (sz:Nat):AV->Bool
 | .sc _=>true
 | .ls s _ _=>s==sz
 | .sl _ s _ _ _=>s==sz
 |_=>false
def eE (C:Cx)(h:Hp)(t:TypeId)(s x:AV):Option (AV × Hp):=
 match C.T t with
 |
  some {kd:= .slice sz _ bytes _,.. }=>
  if jL sz s && jL sz x then
   match gY h x with
   |
    some (m,news)=>
    if m=0 then(match s with| .sc (.slice none 0 0)| .ls .. | .sl .. =>some (s,h)|_=>none)
    else match s with
     | .sc (.slice none 0 0)=>if m<=maxLen/\m*bytes<=140737488355328 then some (.sl h.length sz 0 m false,h++[.row news])else none
     | .ls _ cY true=>if cY.length+m<=maxLen/\(cY.length+m)*bytes<=140737488355328 then some (.sl h.length sz 0 (cY.length+m) false,h++[.row (cY.flatten++news)])else none
     |
      .sl id _ off len true=>match gI h id with
      |
       some cs=>
       if off+len*sz<=cs.length/\len+m<=maxLen/\(len+m)*bytes<=140737488355328 then some (.sl h.length sz 0 (len+m) false,h++[.row ((cs.drop off).take (len*sz)++news)])
       else none
      |none=>none
     |
      .sl id _ off len false=>match h[id]? with
      |
       some (.row cs)=>
       if off+(len+m)*sz<=cs.length then some (.sl id sz off (len+m) false,h.set id (.row (da cs (off+len*sz) news)))
       else if off=0/\cs.length=len*sz/\len+m<=maxLen/\(len+m)*bytes<=140737488355328 then some (.sl h.length sz 0 (len+m) false,h.set id .dead++[.row (cs++news)])
       else none
      |_=>none
     |_=>none
   |none=>none
  else none
 |_=>none
def Ta (C:Cx)(h:Hp)(t:TypeId)(d x:AV):Option (AV × Hp):=
 match C.T t with
 |
  some {kd:= .slice sz ..,.. }=>
  if jL sz d && jL sz x then
   match gY h x,d with
   |
    some (m,news),.sl id _ off len _=>match h[id]? with
    |some (.row cs)=>if off+min m len*sz<=cs.length then some (.sc (.int .i64 (min m len:Nat)),h.set id (.row (da cs off (news.take (min m len*sz)))))else none
    |_=>none
   |some (_,_),.ls _ [] _=>some (.sc (.int .i64 0),h)
   |some (_,_),.sc (.slice none 0 0)=>some (.sc (.int .i64 0),h)
   |_,_=>none
  else none
 |_=>none
def vV (C:Cx)(h:Hp)(t:TypeId)(x:AV):Option (AV × Hp):=
 match C.T t,x with
 |
  some {kd:= .slice sz _ _ ez,.. },.sl id s off len _=>match h[id]? with
  |some (.row cs)=>if s=sz/\0<len/\off+len*sz<=cs.length then some (.tp [],h.set id (.row (da cs off ((List.range len).flatMap λ_=>ez.map .sc))))else none
  |_=>none
 |_,_=>none
def rW :AV->Option Nat
 | .ls _ cY _=>some cY.length
 | .sl _ _ _ len _=>some len
 |_=>none
def iZ :AV->Option Nat
 | .sc (.int _ i)=>if 0<=i then some i.toNat else none
 |_=>none
def gQ (d:Nat):Option AV->Option Nat
 |none=>some d
 |some x=>iZ x
def ku (x:AV)(lo hi mx:Option AV):Option AV:=
 match rW x with
 |
  some len=>match gQ 0 lo,gQ len hi,mx with
  |
   some l,some h,none=>
   if l<=h/\h<=len then match x with
    | .ls sz cY z=>some (.ls sz ((cY.drop l).take (h-l)) (z && h==len))
    | .sl id sz off _ k=>if l=h then some (.ls sz [] (k && h==len))else if k && h !=len then none else some (.sl id sz (off+l*sz) (h-l) k)
    |_=>none
   else none
  |
   some l,some h,some m=>match iZ m with
   |
    some m=>if l<=h/\h<=m/\m<=len/\hi.isSome then(if h=m then(match x with
    | .ls sz cY _=>some (.ls sz ((cY.drop l).take (h-l)) true)
    | .sl id sz off _ _=>if l=h then some (.ls sz [] true)else some (.sl id sz (off+l*sz) (h-l) true)
    |_=>none)else some .ud)else none
   |none=>none
  |_,_,_=>none
 |none=>none
def tF :AV->Bool
 | .ls _ (_::_) _| .sl .. =>true
 |_=>false
def A2 :Operand->Bool
 | .const (.slice none 0 0)=>true
 |_=>false
def NI :AV->Option UInt8
 | .sc (.int .u8 i)=>if 0<=i/\i<256 then some (UInt8.ofNat i.toNat)else none
 |_=>none
def Fl (C:Cx)(t:TypeId):Bool:=
 match C.P.underlying t with
 |some (.slice e)=>(match C.P.underlying e with|some (.int .u8)=>true|_=>false)
 |_=>false
def tG (C:Cx)(t:TypeId):Bool:=
 match C.P.underlying t with
 |some (.map kt _)=>isStr C kt
 |_=>false
def adh (C:Cx)(t:TypeId):Option AV:=
 match C.P.underlying t with
 |
  some (.map _ et)=>match C.P.info? et with
  |some i=>i.zero.map ofConst
  |none=>none
 |_=>none
def vW :Value × AV->Bool
 |(.string _,_)=>true
 |_=>false
def Ps (s:ByteArray):Value->Bool
 | .string a=>s==a
 |_=>false
def oZ (s:ByteArray):List (Value × AV)->Nat->Option Nat
 | [],_=>none
 |(j,_)::es,i=>bif Ps s j then some i else oZ s es (i+1)
def A3 (C:Cx)(t:TypeId)(s:ByteArray)(es:List (Value × AV)):Option (AV × Bool):=
 match oZ s es 0 with
 |some i=>(es[i]?).map λp=>(p.2,true)
 |none=>(adh C t).map λz=>(z,false)
def d_ :AV->Bool
 | .sc _| .ls .. | .rp .. =>true
 | .ag xs=>xs.all λ| .sc _| .ls .. | .rp .. =>true|_=>false
 | .fn _ xs=>xs.all λ| .sc _| .ls .. | .rp .. =>true|_=>false
 |_=>false
def chunk (sz len:Nat)(cs:List AV):List (List AV):=(List.range len).map λi=>(cs.drop (i*sz)).take sz
def oy (C:Cx)(e:Operand->AV)(h:Hp)(o:Oper):Option (AV × Hp):=
 match o.op with
 |
  .buildSlice t len parts=>match C.T t with
  |
   some {kd:= .slice sz _ _ ez,.. }=>
   if len*sz<=16777216 then match ni (λi=>some (i*sz,sz)) ((List.range len).flatMap λ_=>ez.map .sc) (parts.toList.map λp=>(p.1,e p.2))with
    |some cs=>if cs.all d_ then some (.ls sz (chunk sz len cs) true,h)else none
    |none=>none
   else none
  |_=>none
 |
  .makeSlice t l c=>match C.T t,iZ (e l),iZ (e c)with
  |
   some {kd:= .slice sz _ bytes ez,.. },some n,some m=>
   if n=m/\n<=maxLen/\n*bytes<=140737488355328 then some (.ls sz (chunk sz n ((List.range n).flatMap λ_=>ez.map .sc)) true,h)else none
  |_,_,_=>none
 |
  .slice t x lo hi none=>match C.T t,e x with
  |
   some {kd:= .slice sz ..,.. },.sl id s off len false=>match gQ 0 (lo.map e),gQ len (hi.map e),gI h id with
   |some l,some m,some cs=>if s=sz/\l<=m/\off+m*sz<=cs.length/\(l<m\/off+(l+1)*sz<=cs.length)then some (.sl id sz (off+l*sz) (m-l) false,h)else none
   |_,_,_=>none
  |_,_=>none
 |
  .call {callee:= .builtin .append,args,argTypes}=>match args.toList,argTypes.toList with
  |
   [s,x],[t,t']=>if t=t' then(match C.T t with
   |
    some {kd:= .slice sz _ bytes _,.. }=>if jL sz (e s) && jL sz (e x)then(match gY h (e x),e s with
    |some (m,news),.ls s0 [] z=>if m=0 then some (.ls s0 [] z,h)else if m<=maxLen/\m*bytes<=140737488355328/\z=true/\news.all d_=true then some (.ls sz (chunk sz m news) false,h)else none
    |_,_=>none)else none
   |_=>none)else none
  |_,_=>none
 |_=>none
def dq (h:Hp):Nat->AV->Option AV
 |_,.sc v=>some (.sc v)
 |_,.ls sz cY z=>some (.ls sz cY z)
 |_,.rp row j=>some (.rp row j)
 |0,_=>none
 |
  n+1,.sl id sz off len _=>match gI h id with
  |some cs=>if off+len*sz<=cs.length then
   (((cs.drop off).take (len*sz)).mapM (dq h n)).map λxs=> .ls sz ((List.range len).map λi=>(xs.drop (i*sz)).take sz) false
   else none
  |none=>none
 |
  n+1,.pt id off=>match gI h id with
  |some cs=>(cs.mapM (dq h n)).map λxs=> .rp xs off
  |none=>none
 |n+1,.ag xs=>(xs.mapM (dq h n)).map .ag
 |n+1,.tp xs=>(xs.mapM (dq h n)).map .tp
 |n+1,.fn f xs=>(xs.mapM (dq h n)).map (.fn f)
 |_,_=>none
def mask (ids:List Nat)(h:Hp):Hp:=(List.range h.length).map λi=>if ids.contains i then h.getD i .dead else .dead
def freeze (ids:List Nat)(h:Hp):Option Hp:=
 (List.range h.length).mapM λi=>if ids.contains i then(match h[i]? with
  |some (.row cs)=>(cs.mapM (dq (mask ids h) 8)).map .KK
  |some (.KK cs)=>some (.KK cs)
  |some .dead=>some .dead
  |_=>none)else h[i]?
def mvA (C:Cx)(e:Operand->AV)(h:Hp)(t:TypeId)(m:Nat):List (Nat × Operand)->Option (AV × Hp)
 |
  [(0,.tmp q)]=>match e (.tmp q),C.T t with
  |
   .sl id s off len k,some {kd:= .slice sz _ _ ez,.. }=>if sz=1/\ez.length=1 then(match freeze [id] h,dq (mask [id] h) 8 (.sl id s off len k)with
   |some h',some y=>some (.sl h'.length 1 0 1 false,h'++[.row [y]])
   |_,_=>none)else none
  | .sc (.slice none 0 0),some {kd:= .slice sz _ _ ez,.. }=>if sz=1/\ez.length=1 then some (.sl h.length 1 0 1 false,h++[.row [.ls m [] false]])else none
  |_,_=>none
 |_=>none
def mvB (C:Cx)(e:Operand->AV)(h:Hp)(t:TypeId)(len:Nat)(ps:List (Nat × Operand)):Option (AV × Hp):=
 match C.mv t with
 |some m=>if len=1 then mvA C e h t m ps else none
 |none=>none
def z7 (C:Cx)(call:jH)(e:Operand->AV)(h:Hp)(o:Oper):Option (AV × Hp):=
 match o.op with
 | .move x| .assign x=>some (e x,h)
 |
  .pick c a b=>match e c with
  | .sc (.bool t)=>some (bif t then e a else e b,h)
  |_=>none
 |
  .alloc t=>match C.T t with
  |some i=>some (.pt h.length 0,h++[.row (i.zero.map .sc)])
  |none=>none
 |
  .box t x=>match C.T t,cls (e x)with
  |some i,some cs=>if cs.length=i.size then some (.pt h.length 0,h++[.row cs])else none
  |_,_=>none
 |
  .build t parts=>match C.T t with
  |some {zero,kd:= .struct fs,.. }=>(ni (λi=>(fs[i]?).map λf=>(f.1,f.2.1)) (zero.map .sc) (parts.toList.map λp=>(p.1,e p.2))).map λcs=>(.ag cs,h)
  |some {zero,kd:= .array _ NH _,.. }=>(ni (λi=>some (i*NH,NH)) (zero.map .sc) (parts.toList.map λp=>(p.1,e p.2))).map λcs=>(.ag cs,h)
  |_=>none
 |
  .buildSlice t len parts=>match mvB C e h t len parts.toList with
  |some r=>some r
  |none=>match C.T t with
  |
   some {kd:= .slice sz _ _ ez,.. }=>
   if len*sz<=16777216 then
    (ni (λi=>some (i*sz,sz)) ((List.range len).flatMap λ_=>ez.map .sc) (parts.toList.map λp=>(p.1,e p.2))).map λcs=>(.sl h.length sz 0 len false,h++[.row cs])
   else none
  |_=>none
 |
  .load t x=>match C.T t,e x with
  |
   some i,.pt id off=>match gI h id with
   |some cs=>(part i.agg off i.size cs).map λy=>(y,h)
   |none=>none
  |some i,.rp row j=>(part i.agg j i.size row).map λy=>(y,h)
  |_,_=>none
 |
  .store t x y=>match C.T t,e x,cls (e y)with
  |
   some i,.pt id off,some vs=>match h[id]? with
   |some (.row cs)=>if vs.length=i.size/\off+i.size<=cs.length then some (.un,h.set id (.row (da cs off vs)))else none
   |some (.raw cs)=>if vs.length=i.size/\off+i.size<=cs.length then some (.un,h.set id (.raw (da cs off vs)))else none
   |_=>none
  |_,_,_=>none
 |
  .nilCheck x=>match e x with
  | .pt id off=>some (.pt id off,h)
  | .rp row j=>some (.rp row j,h)
  | .fn f cs=>some (.fn f cs,h)
  |_=>none
 |
  .fieldAddr t x f=>match C.T t with
  |
   some {kd:= .struct fs,.. }=>match fs[f]?,e x with
   |some (o,sz,_),.pt id off=>if sz=0 then none else some (.pt id (off+o),h)
   |some (o,sz,_),.rp row j=>if sz=0 then none else some (.rp row (j+o),h)
   |_,_=>none
  |_=>none
 |
  .indexAddr t x ix=>match C.T t,iZ (e ix)with
  |
   some {kd:= .slice sz ..,.. },some i=>match e x with
   | .sl id s off len _=>if s=sz/\i<len then some (.pt id (off+i*sz),h)else none
   | .ls s cY _=>if s=sz then(cY[i]?).map λrow=>(.rp row 0,h)else none
   |_=>none
  |
   some {kd:= .array n sz _,.. },some i=>match e x with
   | .pt id off=>if i<n then some (.pt id (off+i*sz),h)else none
   | .rp row j=>if i<n then some (.rp row (j+i*sz),h)else none
   |_=>none
  |_,_=>none
 |
  .field t x f=>match C.T t,e x with
  |
   some {kd:= .struct fs,.. },.ag cs=>match fs[f]? with
   |some (off,sz,agg)=>(part agg off sz cs).map λy=>(y,h)
   |none=>none
  |_,_=>none
 |
  .index t x ix=>match C.T t,e x with
  |
   some {kd:= .array n sz agg,.. },.ag cs=>match iZ (e ix)with
   |some i=>if i<n then(part agg (i*sz) sz cs).map λy=>(y,h)else none
   |none=>none
  |_,_=>(iI C e o).map λy=>(y,h)
 |
  .extract x i=>match e x with
  | .tp vs=>(vs[i]?).map λy=>(y,h)
  |_=>none
 | .makeFunc (.func f) first pU=>if first.isEmpty then some (.fn f (pU.toList.map e),h)else none
 |
  .makeSlice t l c=>match C.T t,iZ (e l),iZ (e c)with
  |
   some {kd:= .slice sz _ bytes ez,.. },some n,some m=>
   if n=m/\n<=maxLen/\n*bytes<=140737488355328 then some (.sl h.length sz 0 n false,h++[.row ((List.range n).flatMap λ_=>ez.map .sc)])else none
  |_,_,_=>none
 |
  .slice t x lo hi mx=>match e x with
  | .sc _=>(iI C e o).map λy=>(y,h)
  |
   y=>match C.T t with
   |some {kd:= .slice sz ..,.. }=>if jL sz y then(ku y (lo.map e) (hi.map e) (mx.map e)).map λy=>(y,h)else none
   |_=>none
 | .binOp op t x y _=>if nQ C t && A2 y && tF (e x)then(match op with
  | .eql=>some (.sc (.bool false),h)
  | .neq=>some (.sc (.bool true),h)
  |_=>none)else(iI C e o).map λy=>(y,h)
 |
  .convert src dst x=>match e x with
  | .sc (.string s)=>if isStr C src && Fl C dst then(if s.size<=maxLen then some (.sl h.length 1 0 s.size false,h++[.raw (s.data.toList.map λb=> .sc (.int .u8 b.toNat))])else none)else(iI C e o).map λy=>(y,h)
  |
   .sl id 1 off len k=>if isStr C dst && Fl C src then(match gY h (.sl id 1 off len k)with
   |some (_,news)=>(news.mapM NI).map λbs=>(.sc (.string ⟨bs.toArray⟩),h)
   |none=>none)else none
  |_=>(iI C e o).map λy=>(y,h)
 | .makeMap t none=>if tG C t then some (.mp h.length,h++[.map [] 0])else none
 |
  .mapUpdate t m k x=>match e m,e k,e x with
  |
   .mp id,.sc (.string s),y=>if tG C t then(match h[id]? with
   |
    some (.map es clock)=>if es.all vW then(match oZ s es 0 with
    |some i=>some (.un,h.set id (.map (es.set i (.string s,y)) clock))
    |none=>some (.un,h.set id (.map (es++[(.string s,y)]) (clock+1))))else none
   |_=>none)else none
  |_,_,_=>none
 |
  .lookup t m k ok=>match e m,e k with
  |
   .mp id,.sc (.string s)=>if tG C t then(match h[id]? with
   |some (.map es _)=>if es.all vW then(A3 C t s es).map λq=>(if ok then .tp [q.1,.sc (.bool q.2)]else q.1,h)else none
   |_=>none)else none
  |_,_=>(iI C e o).map λy=>(y,h)
 |
  .range t x=>match e x with
  | .sc (.string s)=>if isStr C t then some (.pt h.length 0,h++[.iter s 0])else none
  |_=>none
 |
  .next x true=>match e x with
  |
   .pt id 0=>match h[id]? with
   |some (.iter s pos)=>if pos<s.size then some (.tp [.sc (.bool true),.sc (.int .i64 pos),.sc (.int .i32 (Utf8.decode s pos).1)],h.set id (.iter s (pos+(Utf8.decode s pos).2)))else some (.tp [.sc (.bool false)],h)
   |_=>none
  |_=>none
 |
  .panic x=>match e x with
  | .sc (.iface t v)=>some (.pn (.iface t v),h)
  |_=>none
 |
  .call {callee:= .value f,args,.. }=>match e f with
  | .fn g pU=>if C.ext g then(iI C e o).map λy=>(y,h)else call g (args.toList.map e++pU) h
  |_=>none
 |
  .call {callee:= .builtin .append,args,argTypes}=>match args.toList,argTypes.toList with
  | [s,x],[t,t']=>if t=t' then eE C h t (e s) (e x)else none
  |_,_=>none
 |
  .call {callee:= .builtin .copy,args,argTypes}=>match args.toList,argTypes.toList with
  | [s,x],[t,t']=>if t=t' then Ta C h t (e s) (e x)else none
  |_,_=>none
 |
  .call {callee:= .builtin .clear,args,argTypes}=>match args.toList,argTypes.toList with
  | [x],[t]=>vV C h t (e x)
  |_,_=>none
 |
  .call {callee:= .builtin .len,args,argTypes}=>match args.toList,argTypes.toList with
  |
   [x],[t]=>match rW (e x),C.T t with
   |some n,some {kd:= .slice ..,.. }=>some (.sc (.int .i64 n),h)
   |_,_=>(iI C e o).map λy=>(y,h)
  |_,_=>none
 |_=>(iI C e o).map λy=>(y,h)
def n0 (C:Cx)(call:jH)(e:Operand->AV)(h:Hp)(o:Oper):Option (AV × Hp):=
 if C.rV o then oy C e h o else z7 C call e h o
def gX (ops:Array Oper)(fr:List AV)(o:Oper):Option Bool:=
 match o.guard with
 |none=>some true
 |
  some (j,w)=>match(ops[j]?).bind (·.dst)with
  |none=>some false
  |
   some d=>match fr[d]? with
   |some (.sc (.bool b))=>some (b==w)
   |some .un=>some false
   |_=>none
def rX (o:Oper)(fr:List AV)(v:AV):List AV:=match o.dst with|some d=>fr.set d v|none=>fr
abbrev St :=List AV × Hp
def step1 (C:Cx)(call:jH)(ops:Array Oper)(o:Oper)(s:St):Option St:=
 match gX ops s.1 o with
 |
  some true=>match n0 C call (ev C s.1) s.2 o with
  |some (.pn _,_)=>none
  |some (v,h)=>some (rX o s.1 v,h)
  |none=>none
 |some false=>some (rX o s.1 .un,s.2)
 |none=>none
def dz (C:Cx)(call:jH)(ops:Array Oper):List Oper->St->Option St
 | [],s=>some s
 |
  o::rest,s=>match step1 C call ops o s with
  |some s'=>dz C call ops rest s'
  |none=>none
def Tb (acc:List Nat)(o:Oper):Nat:=o.after.toList.foldl (λs e=>if Region.binds .any e then s|||2^e.on|||acc.getD e.on 0 else s) 0
def nj :List Oper->List Nat->List Nat
 | [],acc=>acc
 |o::rest,acc=>nj rest (acc++[Tb acc o])
def A4 (C:Cx)(o:Oper):Bool:=
 match o.op with
 | .move _| .assign _| .pick .. | .build .. | .load .. | .nilCheck _| .fieldAddr .. | .indexAddr .. | .field .. | .index .. | .extract .. | .slice .. | .binOp .. | .unOp .. | .makeInterface .. | .typeAssert .. =>false
 | .convert src dst _=>isStr C src && Fl C dst
 | .makeFunc (.func _) _ _=>false
 | .call {callee:= .builtin .len,.. }| .call {callee:= .builtin .min,.. }| .call {callee:= .builtin .max,.. }=>false
 | .call {callee:= .value (.func g),.. }=>C.inl g
 |_=>true
def ew (C:Cx)(o:Oper):Bool:= !C.rV o && A4 C o
def A5 (C:Cx)(o:Oper):Bool:=
 match o.op with
 | .move _| .assign _| .pick .. | .build .. | .nilCheck _| .fieldAddr .. | .indexAddr .. | .field .. | .index .. | .extract .. | .slice .. | .binOp .. | .unOp .. | .makeInterface .. | .typeAssert .. =>false
 | .convert src dst _=>(isStr C src && Fl C dst)||(isStr C dst && Fl C src)
 | .makeFunc (.func _) _ _=>false
 | .call {callee:= .builtin .len,.. }| .call {callee:= .builtin .min,.. }| .call {callee:= .builtin .max,.. }=>false
 |_=>true
def rY (C:Cx)(o:Oper):Bool:=C.rV o||A5 C o
def ordered (ms:List Nat)(i j:Nat):Bool:=if i<j then(ms.getD j 0).testBit i else(ms.getD i 0).testBit j
def rZ :Value->Value->Bool
 | .bool a,.bool b=>a==b
 | .int k a,.int j b=>decide (k=j) && decide (a=b)
 | .string a,.string b=>a==b
 | .pointer none,.pointer none=>true
 | .slice none 0 0,.slice none 0 0=>true
 | .map none,.map none=>true
 | .nilFunc,.nilFunc=>true
 | .nilIface,.nilIface=>true
 |_,_=>false
mutual
def jI :AV->AV->Bool
 | .sc v,.sc u=>rZ v u
 | .sl a b c d k,.sl a' b' c' d' k'=>decide (a=a') && decide (b=b') && decide (c=c') && decide (d=d') && (k==k')
 | .pt a b,.pt a' b'=>decide (a=a') && decide (b=b')
 | .mp a,.mp a'=>decide (a=a')
 | .ls sz cY z,.ls qk rows' z'=>decide (sz=qk) && (z==z') && tH cY rows'
 | .rp row j,.rp ajG j'=>decide (j=j') && mZ row ajG
 | .fn f xs,.fn f' xs'=>decide (f=f') && mZ xs xs'
 | .ag xs,.ag ys=>mZ xs ys
 | .tp xs,.tp ys=>mZ xs ys
 |_,_=>false
def mZ :List AV->List AV->Bool
 | [],[]=>true
 |x::xs,y::ys=>jI x y && mZ xs ys
 |_,_=>false
def tH :List (List AV)->List (List AV)->Bool
 | [],[]=>true
 |x::xs,y::ys=>mZ x y && tH xs ys
 |_,_=>false
end
def gD (C:Cx)(call:jH)(ops:Array Oper):List Oper->St->Option (List St)
 | [],s=>some [s]
 |
  o::rest,s=>match step1 C call ops o s with
  |some s'=>(gD C call ops rest s').map (s:: ·)
  |none=>none
def cc (C:Cx)(ops:Array Oper)(m:Nat):Nat:=((ops.toList.take m).filter (ew C)).length
def Fm (C:Cx)(ops:Array Oper)(i:Nat):Bool:=match ops[i]? with|some o=>ew C o|none=>false
def A6 (C:Cx)(ops:Array Oper):Nat:=(List.range ops.size).foldl (λs i=>cond (Fm C ops i) (s|||2^i) s) 0
def af5 (C:Cx)(ops:Array Oper)(ms:List Nat)(j:Nat):Nat:=cond (Nat.beq (ms.getD j 0 &&& A6 C ops) 0) 0 (Nat.log2 (ms.getD j 0 &&& A6 C ops)+1)
def af6 (C:Cx)(ops:Array Oper)(ms:List Nat)(j:Nat):Nat:=((List.range ops.size).find? λi=>Fm C ops i && (ms.getD i 0).testBit j).getD ops.size
def A7 (C:Cx)(ops:Array Oper)(ms:List Nat)(j m:Nat):Bool:=Nat.ble (af5 C ops ms j) m && Nat.ble m (af6 C ops ms j)
def tJ (C:Cx)(ops:Array Oper)(m:Nat):Bool:=m==0||(match ops[m-1]? with|some o'=>ew C o'|none=>false)
def needs (C:Cx)(ops:Array Oper):List (Nat × Nat):=
 (List.range ops.size).flatMap λj=>match ops[j]? with
  |
   some o=>if ew C o|| !rY C o then[]else
   (List.range (ops.size+1)).filterMap λm=>if !tJ C ops m|| !A7 C ops (nj ops.toList []) j m||Nat.beq (cc C ops m) (cc C ops j)then none else some (j,m)
  |none=> []
def sameAt (C:Cx)(call:jH)(ops:Array Oper)(mX:List St)(q:Nat × Nat):Bool:=
 match ops[q.1]?,mX[q.1]? with
 |
  some o,some sj=>(match gX ops sj.1 o with
  |some true=>(match mX[q.2]?,n0 C call (ev C sj.1) sj.2 o with
   |some sm,some (v,_)=>(match n0 C call (ev C sj.1) sm.2 o with|some (v',_)=>jI v' v|none=>false)
   |_,_=>false)
  |_=>true)
 |_,_=>false
inductive Out where
 |normal
 |exit (id:Nat)
 |ret
 |vE (v:Value)
def eh (C:Cx)(call:jH)(ops:Array Oper):List Oper->St->Option (Out × St)
 | [],s=>some (.normal,s)
 |
  o::rest,s=>match step1 C call ops o s with
  |some s'=>eh C call ops rest s'
  |
   none=>match gX ops s.1 o with
   |
    some true=>match n0 C call (ev C s.1) s.2 o with
    |some (.pn v,h)=>some (.vE v,(s.1,h))
    |_=>none
   |_=>none
def Hv (C:Cx)(ops:Array Oper):Bool:=ops.toList.any λo=>match o.op with| .call {callee:= .value (.func g),.. }=>C.thr g|_=>false
def stops (C:Cx)(call:jH)(ops:Array Oper):List Oper->St->Nat
 | [],_=>0
 |
  o::rest,s=>match step1 C call ops o s with
  |some s'=>stops C call ops rest s'+1
  |none=>0
def DX (ops:Array Oper)(J:Nat):List (Oper × Bool):=(ops.toList.zipIdx.drop (J+1)).map λp=>(p.1,((nj ops.toList []).getD p.2 0).testBit J)
def DY (l:List (Oper × Bool)):List Oper:=(l.filter λp=> !p.2).map (·.1)
def X8 (ops:List Oper)(fr:List AV):List AV:=ops.foldl (λf o=>rX o f .ud) fr
def Y9 (C:Cx)(call:jH)(ops:Array Oper)(J:Nat)(s:St):Option (Out × St):=
 match ops[J]?,dz C call ops (ops.toList.take J) s with
 |
  some o,some sj=>if ew C o && (needs C ops).all (λq=>decide (J<q.2))then(match gX ops sj.1 o with
  |
   some true=>(match n0 C call (ev C sj.1) sj.2 o with
   |
    some (.pn v,h)=>(match dz C call ops (DY (DX ops J)) sj with
    |some _=>some (.vE v,(X8 ops.toList s.1,h))
    |none=>none)
   |_=>none)
  |_=>none)else none
 |_,_=>none
def wR (C:Cx)(call:jH)(ops:Array Oper)(s:St):Option (Out × St):=
 if Hv C ops then Y9 C call ops (stops C call ops ops.toList s) s else none
def tK (body:St->Option (Out × St)):Nat->St->Option (Out × St)
 |0,_=>none
 |
  n+1,s=>match body s with
  |some (.normal,s')=>tK body n s'
  |r=>r
def exec (C:Cx)(call:Bool->jH):Code->St->Option (Out × St)
 | .skip,s=>some (.normal,s)
 | .label _,s=>some (.normal,s)
 |
  .region _ ops mixed,s=>if mixed then(match gD C (call false) ops ops.toList s with
  |some mX=>if(needs C ops).all (sameAt C (call false) ops mX)then(mX[ops.size]?).map λs'=>(.normal,s')else none
  |none=>wR C (call false) ops s)else eh C (call true) ops ops.toList s
 |
  .seq a b,s=>match exec C call a s with
  |some (.normal,s')=>exec C call b s'
  |r=>r
 |
  .cond c a b,s=>match ev C s.1 c with
  | .sc (.bool true)=>exec C call a s
  | .sc (.bool false)=>exec C call b s
  |_=>none
 |
  .block id c,s=>match exec C call c s with
  |some (.exit i,s')=>some (if i=id then .normal else .exit i,s')
  |r=>r
 | .loop c,s=>tK (exec C call c) C.fuel s
 | .exit id,s=>some (.exit id,s)
 | .ret,s=>some (.ret,s)
 |_,_=>none
def ml :AV->Bool
 | .sc _=>true
 | .tp xs=>xs.all Y8
 |_=>false
def ye (s:St):Rv->Option AV
 | .tmp t=>some (s.1.getD t .ud)
 |
  .cell a sz agg=>match s.1.getD a .ud with
  |
   .pt id off=>match gI s.2 id with
   |some cs=>part agg off sz cs
   |none=>none
  |_=>none
def vF (fi:Fi)(s:St):Option AV:=
 match fi.res with
 | [t]=>ye s t
 |ts=>(ts.mapM (ye s)).map .tp
def qR (C:Cx)(call:Bool->jH)(f:FuncId)(args:List AV)(h:Hp):Option (AV × Hp):=
 match C.F f with
 |some fi=>if args.length<=fi.ntmps then
  match exec C call fi.body (args++List.replicate (fi.ntmps-args.length) .un,h)with
  |some (.normal,s)=>(vF fi s).map λr=>(r,s.2)
  |some (.ret,s)=>(vF fi s).map λr=>(r,s.2)
  |some (.vE v,s)=>some (.pn v,s.2)
  |_=>none
  else none
 |none=>none
def Fp (C:Cx):Code->Option (Tmp × Operand × TypeId × Code)
 |
  .seq (.region _ ops false) rest=>match ops.toList with
  |
   [{op:= .makeFunc (.func g) first pU,dst:=some d,guard:=none,.. },{op:= .defer {callee:= .value (.tmp d'),args,.. },guard:=none,dst:=none,.. }]=>
   match C.Y7 g,pU.toList with
   |some T,[x]=>if d=d' && first.isEmpty && args.isEmpty then some (d,x,T,rest)else none
   |_,_=>none
  |_=>none
 |_=>none
def j5 (C:Cx):Code->Option (List Code × Tmp × Operand × TypeId × Code)
 |
  .seq a b=>match Fp C b with
  |some (d,x,T,rest)=>some ([a],d,x,T,rest)
  |
   none=>match j5 C b with
   |some (pre,d,x,T,rest)=>some (a::pre,d,x,T,rest)
   |none=>none
 |_=>none
def A8 (C:Cx)(call:Bool->jH):List Code->St->Option (Out × St)
 | [],s=>some (.normal,s)
 |
  c::cs,s=>match exec C call c s with
  |some (.normal,s')=>A8 C call cs s'
  |r=>r
def Hw (C:Cx)(call:Bool->jH)(f:FuncId)(args:List AV)(h:Hp):Option (AV × Hp):=
 match C.F f with
 |some fi=>if args.length<=fi.ntmps then
  match j5 C fi.body with
  |
   some (pre,d,x,T,rest)=>match A8 C call pre (args++List.replicate (fi.ntmps-args.length) .un,h)with
   |some (.ret,s)=>(vF fi s).map λr=>(r,s.2)
   |
    some (.normal,s)=>match ev C s.1 x with
    |
     .pt id 0=>if d<s.1.length then match exec C call rest (s.1.set d .ud,s.2)with
     |some (.normal,s')=>(vF fi s').map λr=>(r,s'.2)
     |some (.ret,s')=>(vF fi s').map λr=>(r,s'.2)
     |
      some (.vE (.iface T' (.int k n)),s')=>match s'.2[id]? with
      |some (.row [_])=>if T=T' then(vF fi (s'.1,s'.2.set id (.row [.sc (.int k n)]))).map λr=>(r,s'.2.set id (.row [.sc (.int k n)]))else none
      |_=>none
     |_=>none
     else none
    |_=>none
   |_=>none
  |none=>none
  else none
 |none=>none
def ab9 (es:List (Value × AV)):Option (List ByteArray):=es.mapM λe=>match e.1 with| .string s=>some s|_=>none
def leS (x y:ByteArray):Bool:=decide (x.data.toList<=y.data.toList)
def Tc (x:ByteArray):List ByteArray->List ByteArray
 | []=> [x]
 |y::l=>if leS x y then x::y::l else y::Tc x l
def Fq :List ByteArray->Bool
 | []=>true
 |x::l=> !(l.any λy=>x==y) && Fq l
def A9 (l:List ByteArray):List ByteArray:=l.foldr Tc []
def Fs (h:Hp)(g:FuncId):List AV->Option (AV × Hp)
 |
  [.fn g' [.pt b 0]]=>if g=g' then(match h[b]? with
  |
   some (.row [.mp id])=>match h[id]? with
   |
    some (.map es _)=>match ab9 es with
    |some []=>some (.sc (.slice none 0 0),h)
    |some ks=>if !(Fq ks && ks.all λs=>decide (s.size<=maxLen))||decide (1000000<ks.length)then none else some (.sl h.length 1 0 ks.length false,h++[.row ((A9 ks).map λs=> .sc (.string s))])
    |none=>none
   |_=>none
  |_=>none)else none
 |_=>none
def reach (h:Hp):Nat->AV->List Nat
 |0,_=> []
 |n+1,.sl id _ _ _ _=>id::((gI h id).getD []).flatMap (reach h n)
 |n+1,.pt id _=>id::((gI h id).getD []).flatMap (reach h n)
 |n+1,.ag xs=>xs.flatMap (reach h n)
 |n+1,.tp xs=>xs.flatMap (reach h n)
 |n+1,.fn _ xs=>xs.flatMap (reach h n)
 |_,_=> []
def A_ (sz bytes:Nat)(h:Hp):List AV->Option (AV × Hp)
 |
  [s,.sc (.int .i64 i),.sl vid sv 0 1 _]=>match h[vid]? with
  |
   some (.row vs)=>if sv=sz/\vs.length=sz/\0<=i then(match s with
   |
    .sl id s0 0 len false=>match h[id]? with
    |some (.row cs)=>if s0=sz/\id≠vid/\i.toNat<=len/\len*sz<=cs.length/\len+1<=1000000000000000/\(len+1)*bytes<=140737488355328 then
     some (.sl h.length sz 0 (len+1) false,h.set id .dead++[.row (cs.take (i.toNat*sz)++vs++(cs.take (len*sz)).drop (i.toNat*sz))])else none
    |_=>none
   | .ls s0 [] true=>if s0=sz/\i=0/\bytes<=140737488355328 then some (.sl h.length sz 0 1 false,h++[.row vs])else none
   | .sc (.slice none 0 0)=>if i=0/\bytes<=140737488355328 then some (.sl h.length sz 0 1 false,h++[.row vs])else none
   |_=>none)else none
  |_=>none
 |_=>none
noncomputable def oz (m:Nat)(cf:Nat->Nat->Int):List (Fin (m+1)):=(Sort.pdq (λi j:Fin (m+1)=>decide (cf i.1 j.1<0)) (Array.ofFn λi=>i) 0 (m+1) (Lib.bitLen (m+1)) true true).toList
noncomputable def Td (m:Nat)(cf:Nat->Nat->Int):List (Fin (m+1)):=if m=0 then List.ofFn λi=>i else oz m cf
def Hx (m:Nat)(cf:Nat->Nat->Int):Prop:=Sort.SWO (λi j:Fin (m+1)=>decide (cf i.1 j.1<0))
def rowAt (sz off:Nat)(cs:List AV)(i:Nat):List AV:=(cs.drop (off+i*sz)).take sz
def He (call:jH)(g:FuncId)(ss:List AV)(i j:Nat):Int:=
 match call g [ss.getD i .ud,ss.getD j .ud] []with
 |some (.sc (.int .i64 c),_)=>c
 |_=>0
def Te (call:jH)(g:FuncId)(ss:List AV)(m:Nat):Prop:=
 (∀i j,i<=m->j<=m->∃h',call g [ss.getD i .ud,ss.getD j .ud] []=some (.sc (.int .i64 (He call g ss i j)),h'))/\Hx m (He call g ss)
def oA (k:Nat):Nat:=if k=0 then 1 else k
def Pt (k:Nat)(cs:List AV):AV:=if k=0 then cs.headD .ud else .ag cs
def wS (k:Nat)(vs:List Value):Value:=if k=0 then vs.headD undef else .agg vs.toArray
open Classical in
noncomputable def Tf (call:jH)(g:FuncId)(ss:List AV)(m:Nat):Bool:=
 if m=0 then(match call g [ss.getD 0 .ud,ss.getD 0 .ud] []with|some (.sc (.int .i64 c),_)=>decide (0<=c)|_=>false)else decide (Te call g ss m)
noncomputable def Pu (call:jH)(k:Nat)(h:Hp):List AV->Option (AV × Hp)
 | [.sc (.slice none 0 0),.fn _ []]=>some (.tp [],h)
 | [.ls _ [] _,.fn _ []]=>some (.tp [],h)
 |
  [.sl id s off len _,.fn g []]=>match h[id]?,len with
  |some (.row _),0=>some (.tp [],h)
  |some (.row cs),m+1=>if s=oA k/\off+(m+1)*s<=cs.length/\m+1<4611686018427387904 then
   (match(List.range (m+1)).mapM λi=>dq (h.set id .dead) 8 (Pt k (rowAt s off cs i))with
   |some ss=>if Tf call g ss m then some (.tp [],h.set id (.row (cs.take off++(Td m (He call g ss)).flatMap (λi=>rowAt s off cs i.1)++cs.drop (off+(m+1)*s))))else none
   |none=>none)else none
  |_,_=>none
 |_=>none
def Th (C:Cx)(f:FuncId)(h:Hp)(xs:List AV):Option (AV × Hp):=
 match xs.mapM (dq h 8)with
 |
  some as=>match C.tE f as with
  |some (.ls 1 cY _)=>if cY.all (λr=>match r with| [.sc v]=>lG v|_=>false) && !cY.isEmpty then some (.sl h.length 1 0 cY.length false,h++[.row cY.flatten])else none
  |some (.sc v)=>some (.sc v,h)
  |_=>none
 |none=>none
noncomputable def af7 (C:Cx)(f:FuncId)(call:jH)(sz bytes:Nat)(h:Hp)(xs:List AV):Option (AV × Hp):=if bytes=0 then Pu call sz h xs else if bytes=1 then Th C f h xs else A_ sz bytes h xs
noncomputable def cW (C:Cx):Nat->Bool->jH
 |0,_,_,_,_=>none
 |
  n+1,b,f,args,h=>
  match C.ox f with
  |some (g,_)=>if C.inl f then Fs h g args else none
  |none=>
  if C.inl f then(match C.ins f with
   |some (sz,bytes)=>af7 C f (cW C n false) sz bytes h args
   |
    none=>match(if args.all d_ then C.tE f args else none)with
    |some r=>some (r,h)
    |
     none=>match C.F f with
     |some fi=>(match j5 C fi.body with|some _=>Hw C (cW C n) f args h|none=>qR C (cW C n) f args h)
     |none=>none)
  else
   match args.mapM (dq h 8)with
   |
    some as=>
    let r:=match C.tE f as with
     |some r=>some r
     |
      none=>match qR C (cW C n) f as []with
      |some (r,h')=>(dq h' 8 r).map (C.nf f)
      |none=>none
    match r with
    |some r=>if args.all d_||ml r then some (r,h)else if b && (args.mapM (dq (mask (args.flatMap (reach h 8)) h) 8)).isSome then(freeze (args.flatMap (reach h 8)) h).map λh'=>(r,h')else none
    |none=>none
   |none=>none
def ti :TypeDesc->Bool
 | .struct _| .array .. =>true
 |_=>false
def Hy (P:Program)(d:TypeDesc):Option Kd:=
 match d with
 | .struct fs=>(fs.toList.mapM λ(f:Field)=>match P.info? f.type,P.underlying f.type with|some fi,some fd=>some (f.offset,fi.size,ti fd)|_,_=>none).map .struct
 |
  .slice e=>match P.info? e,P.underlying e with
  |
   some ei,some ed=>match ei.zero with
   |some ez=>if ez.cells.toList.all lG && ez.cells.size==ei.size && ei.size !=0 then some (.slice ei.size (ti ed) ei.bytes ez.cells.toList)else none
   |none=>none
  |_,_=>none
 |
  .array n e=>match P.info? e,P.underlying e with
  |some ei,some ed=>some (.array n ei.size (ti ed))
  |_,_=>none
 |_=>some .Hu
def f_ (P:Program)(t:TypeId):Option Ti:=
 match P.underlying t,P.info? t with
 |
  some d,some i=>match i.zero,Hy P d with
  |some z,some kd=>if z.cells.toList.all lG && z.cells.size==i.size then some {size:=i.size,agg:=ti d,zero:=z.cells.toList,kd:=kd}else none
  |_,_=>none
 |_,_=>none
def Pv (P:Program)(f:FuncId):Option Fi:=
 match P.funcs[f]? with
 |
  some fn=>match fn.body with
  |
   some c=>(fn.results.toList.mapM λ(r:ResultVar)=>match r with
   | .tmp t=>some (Rv.tmp t)
   | .cell a t=>match P.info? t,P.underlying t with|some i,some d=>some (Rv.cell a i.size (ti d))|_,_=>none).map λres=>{ntmps:=fn.ntmps,body:=c,res:=res}
  |none=>none
 |none=>none
end Go.Ae
