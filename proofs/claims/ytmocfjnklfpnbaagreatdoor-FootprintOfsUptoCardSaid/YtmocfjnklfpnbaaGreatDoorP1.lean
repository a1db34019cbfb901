/- Part of the proof. -/
import Derived.Orders
import Derived.Laws.AppendOwn
import Derived.Laws.CopyRow
import Derived.Below
import Derived.Laws.IdiomStrings
import Derived.Laws.Cover3
import Derived.MapKept
import Derived.Sort.Statements
import Derived.Lib.BitFns
set_option linter.all false
namespace Go.Ae
open Go
def _root_.Go.cv.{u}{c:Prop}{h:Decidable c}(k:¬c){α:Sort u}{t e:α}:ite c t e=e:=if_neg k
def _root_.Go.cw.{u}{c:Prop}{h:Decidable c}(k:c){α:Sort u}{t e:α}:ite c t e=t:=if_pos k
abbrev Za:=@List.getElem?_eq_some_iff
abbrev Zb:=@List.getElem?_eq_getElem
abbrev Zc:=@Option.some.injEq
abbrev Zd:=@List.getElem?_append_left
abbrev Ze:=@Option.map_eq_some_iff
abbrev Zf:=@List.getElem?_append_right
abbrev Zg:=@Prod.mk.injEq
abbrev Zh:=@Bool.and_eq_true
abbrev Zi:=@List.mem_of_getElem?
abbrev Zj:=@List.getElem?_set_self
abbrev Zk:=@List.mem_append_right
abbrev Zl:=@List.eq_nil_of_length_eq_zero
abbrev Zm:=@List.drop_eq_getElem_cons
abbrev Zn:=@List.all_cons
abbrev Zo:=@List.mapM_cons
abbrev Zp:=@List.append_assoc
abbrev Zq:=@List.getElem?_set_ne
abbrev Zr:=@Array.getD_eq_getD_getElem?
abbrev Zs:=@List.getElem?_map
abbrev Zt:=@List.drop_eq_nil_of_le
abbrev Zu:=@List.length_append
abbrev Zv:=@List.cons_append
abbrev Zw:=@List.nil_append
abbrev Zx:=@List.mem_append_left
abbrev Zy:=@decide_eq_true_eq
abbrev Zz:=@List.mem_append
abbrev Ya:=@Nat.le_of_not_lt
abbrev Yb:=@Nat.le_antisymm
abbrev Yc:=@List.drop_length
abbrev Yd:=@List.drop_zero
abbrev Ye:=@Option.bind_eq_some_iff
abbrev Yf:=@List.mem_map
abbrev Yg:=@List.getD_eq_getElem?_getD
abbrev Yh:=@List.length_map
abbrev Yi:=@List.foldl_cons
abbrev Yj:=@Nat.le_trans
abbrev Yk:=@List.append_nil
abbrev Yl:=@Bool.false_eq_true
abbrev Ym:=@List.flatMap_cons
abbrev Yn:=@List.map_cons
abbrev Yo:=@List.sum_cons
abbrev Yp:=@List.all_eq_true
abbrev Yq:=@Nat.le_refl
abbrev Yr:=@List.mem_cons_of_mem
abbrev Ys:=@List.length_cons
abbrev Yt:=@Nat.zero_le
abbrev Yu:=@Array.length_toList
abbrev Yv:=@List.mem_cons
abbrev Yw:=@Option.map_some
abbrev Yx:=@Bool.or_eq_true
abbrev Yy:=@List.take_of_length_le
abbrev Yz:=@List.getElem?_range
abbrev Xa:=@List.length_take
abbrev Xb:=@Int.mul_le_mul_of_nonneg_right
abbrev Xc:=@List.getElem?_eq_none
abbrev Xd:=@Bool.not_eq_true'
abbrev Xe:=@Nat.ne_of_lt
abbrev Xf:=@Array.getElem?_eq_getElem
abbrev Xg:=@Option.getD_some
abbrev Xh:=@Nat.add_mul
abbrev Xi:=@List.getElem?_take
abbrev Xj:=@List.getElem?_drop
abbrev Xk:=@Nat.zero_add
abbrev Xl:=@Array.getElem?_eq_some_iff
abbrev Xm:=@List.map_nil
abbrev Xn:=@List.map_drop
abbrev Xo:=@List.flatMap_nil
abbrev Xp:=@List.length_eq_zero_iff
abbrev Xq:=@List.take_length
abbrev Xr:=@List.foldl_nil
abbrev Xs:=@Bool.not_eq_true
abbrev Xt:=@List.take_add_one
abbrev Xu:=@List.foldl_append
abbrev Xv:=@List.takeWhile_append_dropWhile
def lr :Value->Bool
 | .bool _| .int .. | .float .. | .string _| .pointer none| .slice none 0 0| .map none| .nilFunc| .nilIface=>true
 | .iface _ v=>lr v
 |_=>false
inductive AV where
 |ud
 |un
 |sc (v:Value)
 |ls (sz:Nat) (cq:List (List AV)) (z:Bool)
 |sl (id sz off len:Nat) (k:Bool)
 |pt (id off:Nat)
 |rp (row:List AV) (j:Nat)
 |fn (f:FuncId) (nM:List AV)
 |ag (cells:List AV)
 |tp (vs:List AV)
 |mp (id:Nat)
 |pn (v:Value)
 |oc
 deriving Inhabited
inductive eV where
 |dead
 |row (cs:List AV)
 |map (es:List (Value × AV)) (clock:Nat)
 |MA (cs:List AV)
 |raw (cs:List AV)
 |iter (s:ByteArray) (pos:Nat)
abbrev Hp :=List eV
inductive Ri (w:World)(X:Nat->Prop):Value->AV->Prop where
 |ud (v:Value):Ri w X v .ud
 |un:Ri w X undef .un
 |sc (v:Value):lr v=true->Ri w X v (.sc v)
 |le (a:Option Addr) (cap sz:Nat) (z:Bool):cap<=maxLen->(z=true->cap=0)->Ri w X (.slice a 0 cap) (.ls sz [] z)
 |ls (b o len cap sz:Nat) (cq:List (List AV)) (z:Bool) (us:Nat->Nat->Value) (cV:Array Value) (t:TypeId) (fz:Nat × Nat):
  ¬X b->w.heap[b]?=some (.cells cV t fz)->cq.length=len->len<=cap->cap<=maxLen->(z=true->cap=len)->
  (∀(i:Nat)(row:List AV),cq[i]?=some row->row.length=sz)->
  (∀(i:Nat)(row:List AV)(j:Nat)(x:AV),cq[i]?=some row->row[j]?=some x->cV[o+i*sz+j]?=some (us i j)/\(us i j).oneCell'=true)->
  (∀(i:Nat)(row:List AV)(j:Nat)(x:AV),cq[i]?=some row->row[j]?=some x->Ri w X (us i j) x)->
  Ri w X (.slice (some ⟨b,o,none⟩) len cap) (.ls sz cq z)
 |rp (b o j:Nat) (row:List AV) (us:Nat->Value) (cV:Array Value) (t:TypeId) (fz:Nat × Nat):
  ¬X b->w.heap[b]?=some (.cells cV t fz)->
  (∀(k:Nat)(x:AV),row[k]?=some x->cV[o+k]?=some (us k)/\(us k).oneCell'=true)->
  (∀(k:Nat)(x:AV),row[k]?=some x->Ri w X (us k) x)->
  Ri w X (.pointer (some ⟨b,o+j,none⟩)) (.rp row j)
 |fn (f:FuncId) (us:Array Value) (xs:List AV):us.size=xs.length->(∀(k:Nat)(x:AV),xs[k]?=some x->Ri w X (us.getD k undef) x)->Ri w X (.func (.func f) #[] us) (.fn f xs)
 |ag (us:Array Value) (xs:List AV):us.size=xs.length->(∀k,k<us.size->(us.getD k undef).oneCell'=true)->(∀(k:Nat)(x:AV),xs[k]?=some x->Ri w X (us.getD k undef) x)->Ri w X (.agg us) (.ag xs)
 |tp (us:Array Value) (xs:List AV):us.size=xs.length->(∀(k:Nat)(x:AV),xs[k]?=some x->Ri w X (us.getD k undef) x)->Ri w X (.tuple us) (.tp xs)
 |oc (v:Value):v.oneCell'=true->Ri w X v .oc
inductive Rp (w:World)(X:Nat->Prop)(ρ:Nat->Nat)(n:Nat):Value->AV->Prop where
 |im {v:Value} {x:AV}:Ri w X v x->Rp w X ρ n v x
 |sl (id sz off len cap:Nat) (k:Bool) (cV:Array Value) (t:TypeId) (fz:Nat × Nat):id<n->w.heap[ρ id]?=some (.cells cV t fz)->off+cap*sz<=cV.size->(k=true->cap=len)->(k=false->off+cap*sz=cV.size)->len<=cap->cap<=maxLen->
  Rp w X ρ n (.slice (some ⟨ρ id,off,none⟩) len cap) (.sl id sz off len k)
 |pt (id off:Nat):id<n->Rp w X ρ n (.pointer (some ⟨ρ id,off,none⟩)) (.pt id off)
 |mp (id:Nat):id<n->Rp w X ρ n (.map (some (ρ id))) (.mp id)
 |fn (f:FuncId) (us:Array Value) (xs:List AV):us.size=xs.length->(∀(k:Nat)(x:AV),xs[k]?=some x->Rp w X ρ n (us.getD k undef) x)->Rp w X ρ n (.func (.func f) #[] us) (.fn f xs)
 |ag (us:Array Value) (xs:List AV):us.size=xs.length->(∀k,k<us.size->(us.getD k undef).oneCell'=true)->(∀(k:Nat)(x:AV),xs[k]?=some x->Rp w X ρ n (us.getD k undef) x)->Rp w X ρ n (.agg us) (.ag xs)
 |tp (us:Array Value) (xs:List AV):us.size=xs.length->(∀(k:Nat)(x:AV),xs[k]?=some x->Rp w X ρ n (us.getD k undef) x)->Rp w X ρ n (.tuple us) (.tp xs)
def tP :eV->Bool
 | .row _| .raw _| .map .. | .iter .. =>true
 |_=>false
def live(h:Hp)(i:Nat):Prop:=∃b,h[i]?=some b/\tP b=true
def own(ρ:Nat->Nat)(h:Hp)(b:Nat):Prop:=∃i,live h i/\ρ i=b
def dZ(X:Nat->Prop)(ρ:Nat->Nat)(h:Hp)(b:Nat):Prop:=X b\/own ρ h b
structure Step (w:World)(O:Nat->Prop)(w':World)(O':Nat->Prop):Prop where
 os:w'.os=w.os
 tape:w'.tape=w.tape
 output:w'.output=w.output
 size:w.heap.size<=w'.heap.size
 keep:∀b,b<w.heap.size->¬O b->w'.heap[b]?=w.heap[b]?
 row:∀(b:Nat)(cV:Array Value)(t:TypeId)(fz:Nat × Nat),w.heap[b]?=some (Obj.cells cV t fz)->∃(kl:Array Value)(t':TypeId)(I1:Nat × Nat),w'.heap[b]?=some (Obj.cells kl t' I1)/\kl.size=cV.size
 less:∀b,b<w.heap.size->O' b->O b
 drew:w.drawn<=w'.drawn
def Step.refl(w:World)(O:Nat->Prop):Step w O w O:=
 ⟨rfl,rfl,rfl,Yq _,λ_ _ _=>rfl,λ_ _ _ _ h=>⟨_,_,_,h,rfl⟩,λ_ _ h=>h,Yq _⟩
def Step.trans{w w1 w2:World}{O O1 O2:Nat->Prop}(h:Step w O w1 O1)(k:Step w1 O1 w2 O2):Step w O w2 O2:={
 os:=k.os.trans h.os
 tape:=k.tape.trans h.tape
 output:=k.output.trans h.output
 size:=Yj h.size k.size
 keep:=λb hb hO=>(k.keep b (Nat.lt_of_lt_of_le hb h.size) λh1=>hO (h.less b hb h1)).trans (h.keep b hb hO)
 row:=λb cV t fz hc=>by
  obtain⟨c1,t1,ae,h1,e1⟩:=h.row b cV t fz hc;obtain⟨c2,t2,af,h2,e2⟩:=k.row b c1 t1 ae h1;exact⟨c2,t2,af,h2,e2.trans e1⟩
 less:=λb hb h2=>h.less b hb (k.less b (Nat.lt_of_lt_of_le hb h.size) h2)
 drew:=Yj h.drew k.drew}
def fI{w:World}{b:Nat}{o:Obj}(h:w.heap[b]?=some o):b<w.heap.size:=(Xl.1 h).1
structure Kept (w:World)(X:Nat->Prop)(w':World)(X':Nat->Prop):Prop where
 keep:∀b,b<w.heap.size->¬X b->w'.heap[b]?=w.heap[b]?
 less:∀b,b<w.heap.size->X' b->X b
def Ri.kept{w w':World}{X X':Nat->Prop}(hk:Kept w X w' X'){v:Value}{x:AV}(h:Ri w X v x):Ri w' X' v x:=by
 induction h with
 |ud v=>exact .ud v
 |un=>exact .un
 |sc v hv=>exact .sc v hv
 |le a cap sz z h1 h2=>exact .le a cap sz z h1 h2
 |ls b o len cap sz cq z us cV t fz hx hb h1 h2 h3 h4 h5 h6 h7 ih=>
  have du:=fI hb;exact .ls b o len cap sz cq z us cV t fz (λhh=>hx (hk.less b du hh)) ((hk.keep b du hx).trans hb) h1 h2 h3 h4 h5 h6 ih
 |rp b o j row us cV t fz hx hb h1 h2 ih=>
  have du:=fI hb;exact .rp b o j row us cV t fz (λhh=>hx (hk.less b du hh)) ((hk.keep b du hx).trans hb) h1 ih
 |fn f us xs h1 h2 ih=>exact .fn f us xs h1 ih
 |ag us xs h1 h2 h3 ih=>exact .ag us xs h1 h2 ih
 |tp us xs h1 h2 ih=>exact .tp us xs h1 ih
 |oc v h1=>exact .oc v h1
def Ri.yz{w:World}{X X':Nat->Prop}(hX:∀b,X' b->X b){v:Value}{x:AV}(h:Ri w X v x):Ri w X' v x:=
 h.kept ⟨λ_ _ _=>rfl,λb _=>hX b⟩
def Step.kept{w w':World}{X:Nat->Prop}{ρ ρ':Nat->Nat}{h h':Hp}(hs:Step w (own ρ h) w' (own ρ' h')):Kept w (dZ X ρ h) w' (dZ X ρ' h'):={
 keep:=λb hb hX=>hs.keep b hb λho=>hX (.inr ho)
 less:=λb hb hX=>hX.imp id (hs.less b hb)}
def Rp.step{w w':World}{X:Nat->Prop}{ρ ρ':Nat->Nat}{h h':Hp}(hs:Step w (own ρ h) w' (own ρ' h')){n n':Nat}(hρ:∀i,i<n->ρ' i=ρ i)(hn:n<=n'){v:Value}{x:AV}(hr:Rp w (dZ X ρ h) ρ n v x):Rp w' (dZ X ρ' h') ρ' n' v x:=by
 induction hr with
 |im hi=>exact .im (hi.kept hs.kept)
 |sl id sz off len cap k cV t fz h1 h2 h3 h4 h5 h6 h7=>
  obtain⟨c',t',f',hc,ik⟩:=hs.row _ _ _ _ h2;rw[<-hρ id h1]at hc|-;exact .sl id sz off len cap k c' t' f' (Nat.lt_of_lt_of_le h1 hn) hc (by rw[ik];exact h3) h4 (by rw[ik];exact h5) h6 h7
 |pt id off h1=>rw[<-hρ id h1];exact .pt id off (Nat.lt_of_lt_of_le h1 hn)
 |mp id h1=>rw[<-hρ id h1];exact .mp id (Nat.lt_of_lt_of_le h1 hn)
 |fn f us xs h1 h2 ih=>exact .fn f us xs h1 ih
 |ag us xs h1 h2 h3 ih=>exact .ag us xs h1 h2 ih
 |tp us xs h1 h2 ih=>exact .tp us xs h1 ih
def Fz(fz:Nat × Nat)(cV:Array Value):Prop:=fz=(0,0)\/(cV.size<=fz.1/\False)
def Fw(fz:Nat × Nat)(cV:Array Value):Prop:=fz=(0,0)\/cV.size<=fz.1
def Fz.eq{fz:Nat × Nat}{cV:Array Value}(h:Fz fz cV):fz=(0,0):=h.elim (λq=>q) λq=>q.2.elim
def zG(w:World)(X:Nat->Prop)(ρ:Nat->Nat)(n:Nat)(ob:Option Obj):eV->Prop
 | .dead=>True
 | .row cs=>∃(cV:Array Value)(t:TypeId)(fz:Nat × Nat)(us:Nat->Value),ob=some (.cells cV t fz)/\Fz fz cV/\cs.length<=cV.size/\
  ∀k x,cs[k]?=some x->cV[k]?=some (us k)/\(us k).oneCell'=true/\Rp w X ρ n (us k) x
 | .map es clock=>∃ms:Array MapEntry,ob=some (.map ms clock)/\ms.size=es.length/\(ms.toList.map (·.born)).Nodup/\
  ∀(k:Nat)(e:Value × AV),es[k]?=some e->∃m:MapEntry,ms[k]?=some m/\m.key=e.1/\lr e.1=true/\m.born<clock/\Rp w X ρ n m.val e.2
 | .MA cs=>∃(cV:Array Value)(t:TypeId)(fz:Nat × Nat)(us:Nat->Value),ob=some (.cells cV t fz)/\
  ∀k x,cs[k]?=some x->cV[k]?=some (us k)/\(us k).oneCell'=true/\Ri w X (us k) x
 | .iter s pos=>ob=some (.stringIter s pos)
 | .raw cs=>∃(cV:Array Value)(t:TypeId)(fz:Nat × Nat)(us:Nat->Value),ob=some (.cells cV t fz)/\Fw fz cV/\cs.length<=cV.size/\
  ∀k x,cs[k]?=some x->cV[k]?=some (us k)/\(us k).oneCell'=true/\Rp w X ρ n (us k) x
def zG.step{w w':World}{X:Nat->Prop}{ρ ρ':Nat->Nat}{h h':Hp}(hs:Step w (own ρ h) w' (own ρ' h')){n n':Nat}(hρ:∀i,i<n->ρ' i=ρ i)(hn:n<=n'){ob:Option Obj}{b:eV}(hr:zG w (dZ X ρ h) ρ n ob b):zG w' (dZ X ρ' h') ρ' n' ob b:=by
 cases b with
 |dead=>trivial
 |row cs=>
  obtain⟨cV,t,fz,us,h1,hf,h2,h3⟩:=hr;exact⟨cV,t,fz,us,h1,hf,h2,λk x hk=>⟨(h3 k x hk).1,(h3 k x hk).2.1,(h3 k x hk).2.2.step hs hρ hn⟩⟩
 |map es clock=>
  obtain⟨ms,h1,h2,ZE,h3⟩:=hr;refine⟨ms,h1,h2,ZE,λk e hk=>?_⟩;obtain⟨m,a1,a2,a3,a4,a5⟩:=h3 k e hk;exact⟨m,a1,a2,a3,a4,a5.step hs hρ hn⟩
 |MA cs=>
  obtain⟨cV,t,fz,us,h1,h3⟩:=hr;exact⟨cV,t,fz,us,h1,λk x hk=>⟨(h3 k x hk).1,(h3 k x hk).2.1,(h3 k x hk).2.2.kept hs.kept⟩⟩
 |iter s pos=>exact hr
 |raw cs=>
  obtain⟨cV,t,fz,us,h1,hf,h2,h3⟩:=hr;exact⟨cV,t,fz,us,h1,hf,h2,λk x hk=>⟨(h3 k x hk).1,(h3 k x hk).2.1,(h3 k x hk).2.2.step hs hρ hn⟩⟩
def zG.lt{w w0:World}{X:Nat->Prop}{ρ:Nat->Nat}{n p:Nat}{b:eV}(h:zG w X ρ n w0.heap[p]? b)(hb:b≠ .dead):p<w0.heap.size:=by
 cases b with
 |dead=>exact absurd rfl hb
 |row cs=>obtain⟨_,_,_,_,hc,_⟩:=h;exact fI hc
 |map es c=>obtain⟨_,hc,_⟩:=h;exact fI hc
 |MA cs=>obtain⟨_,_,_,_,hc,_⟩:=h;exact fI hc
 |raw cs=>obtain⟨_,_,_,_,hc,_⟩:=h;exact fI hc
 |iter s pos=>exact fI h
def gav :Value->AV
 | .tuple _=> .ud
 |v=> .sc v
def gok(v u:Value):Prop:=
 match v with
 | .tuple _=>∃m:Int,u= .int .i64 m
 |v=>u=v/\lr v=true
def aaL{w:World}{X:Nat->Prop}{v u:Value}(h:gok v u):Ri w X u (gav v):=by
 unfold gok at h;unfold gav;split
 .exact .ud u
 .rename_i hn;split at h
  .exact absurd rfl (hn _)
  .obtain⟨rfl,hf⟩:=h;exact .sc _ hf
structure ia (G:Nat->Option (List Value))(w:World)(X:Nat->Prop)(ρ:Nat->Nat)(h:Hp):Prop where
 FC:∀b,X b->b<w.heap.size
 rS:∀(g:Nat)(row:List Value),G g=some row->¬dZ X ρ h g/\∃(cV:Array Value)(t:TypeId)(fz:Nat × Nat),w.heap[g]?=some (.cells cV t fz)/\cV.size=row.length/\∀(k:Nat)(v:Value),row[k]?=some v->∃u,cV[k]?=some u/\u.oneCell'=true/\gok v u
 inj:∀i j,live h i->live h j->ρ i=ρ j->i=j
 out:∀i,live h i->¬X (ρ i)
 pb:∀(i:Nat)(cs:List AV),h[i]?=some (.MA cs)->¬dZ X ρ h (ρ i)
 km:∀(i:Nat)(b:eV),h[i]?=some b->zG w (dZ X ρ h) ρ h.length w.heap[ρ i]? b
def ia.row{G:Nat->Option (List Value)}{w:World}{X:Nat->Prop}{ρ:Nat->Nat}{h:Hp}(hs:ia G w X ρ h)(i:Nat)(cs:List AV)(hi:h[i]?=some (.row cs)):
 ∃(cV:Array Value)(t:TypeId)(fz:Nat × Nat)(us:Nat->Value),w.heap[ρ i]?=some (.cells cV t fz)/\Fz fz cV/\cs.length<=cV.size/\
 ∀k x,cs[k]?=some x->cV[k]?=some (us k)/\(us k).oneCell'=true/\Rp w (dZ X ρ h) ρ h.length (us k) x:=hs.km i _ hi
def ia.lt{G:Nat->Option (List Value)}{w:World}{X:Nat->Prop}{ρ:Nat->Nat}{h:Hp}(hs:ia G w X ρ h){i:Nat}(hi:live h i):ρ i<w.heap.size:=by
 obtain⟨b,hb,hd⟩:=hi;exact(hs.km i b hb).lt (λe=>by subst e;cases hd)
def RF(w:World)(X:Nat->Prop)(ρ:Nat->Nat)(n:Nat)(tmps:Array Value)(fr:List AV):Prop:=
 tmps.size=fr.length/\∀(i:Nat)(x:AV),fr[i]?=some x->Rp w X ρ n (tmps.getD i undef) x
def RF.step{w w':World}{X:Nat->Prop}{ρ ρ':Nat->Nat}{h h':Hp}(hs:Step w (own ρ h) w' (own ρ' h')){n n':Nat}(hρ:∀i,i<n->ρ' i=ρ i)(hn:n<=n'){tmps:Array Value}{fr:List AV}(hr:RF w (dZ X ρ h) ρ n tmps fr):RF w' (dZ X ρ' h') ρ' n' tmps fr:=
 ⟨hr.1,λi x hx=>(hr.2 i x hx).step hs hρ hn⟩
def RF.put{w:World}{X:Nat->Prop}{ρ:Nat->Nat}{n:Nat}{tmps:Array Value}{fr:List AV}(hr:RF w X ρ n tmps fr)(d:Nat){v:Value}{x:AV}(hv:Rp w X ρ n v x):
 RF w X ρ n (tmps.setIfInBounds d v) (fr.set d x):=by
 refine⟨by simp[hr.1],λi y hy=>?_⟩;by_cases ej:d=i
 .subst ej;have du:d<fr.length:=by have:=(Za.1 hy).1;simpa using this
  rw[Zj du]at hy;cases hy;have:d<tmps.size:=by rw[hr.1];exact du
  simpa[this]using hv
 .rw[Zq ej]at hy;have h2:=hr.2 i y hy;simpa[Array.getElem?_setIfInBounds_ne ej]using h2
structure Ext (G:Nat->Option (List Value))(w:World)(X:Nat->Prop)(ρ:Nat->Nat)(h:Hp)(w':World)(ρ':Nat->Nat)(h':Hp):Prop where
 uj:ia G w' X ρ' h'
 rho:∀i,i<h.length->ρ' i=ρ i
 len:h.length<=h'.length
 step:Step w (own ρ h) w' (own ρ' h')
def Ext.refl{G:Nat->Option (List Value)}{w:World}{X:Nat->Prop}{ρ:Nat->Nat}{h:Hp}(hs:ia G w X ρ h):Ext G w X ρ h w ρ h:=⟨hs,λ_ _=>rfl,Yq _,Step.refl _ _⟩
def Ext.trans{G:Nat->Option (List Value)}{w w1 w2:World}{X:Nat->Prop}{ρ ρ1 ρ2:Nat->Nat}{h h1 h2:Hp}(e:Ext G w X ρ h w1 ρ1 h1)(k:Ext G w1 X ρ1 h1 w2 ρ2 h2):Ext G w X ρ h w2 ρ2 h2:=
 ⟨k.uj,λi hi=>(k.rho i (Nat.lt_of_lt_of_le hi e.len)).trans (e.rho i hi),Yj e.len k.len,e.step.trans k.step⟩
def Ext.rp{G:Nat->Option (List Value)}{w w':World}{X:Nat->Prop}{ρ ρ':Nat->Nat}{h h':Hp}(e:Ext G w X ρ h w' ρ' h'){v:Value}{x:AV}(hr:Rp w (dZ X ρ h) ρ h.length v x):Rp w' (dZ X ρ' h') ρ' h'.length v x:=
 hr.step e.step e.rho e.len
def Ext.rf{G:Nat->Option (List Value)}{w w':World}{X:Nat->Prop}{ρ ρ':Nat->Nat}{h h':Hp}(e:Ext G w X ρ h w' ρ' h'){tmps:Array Value}{fr:List AV}(hr:RF w (dZ X ρ h) ρ h.length tmps fr):RF w' (dZ X ρ' h') ρ' h'.length tmps fr:=
 hr.step e.step e.rho e.len
def yV{G:Nat->Option (List Value)}{w:World}{X:Nat->Prop}{ρ:Nat->Nat}{h:Hp}(hs:ia G w X ρ h)(ob:Obj)(b:eV)(hlb:tP b=true)(hb:zG w (dZ X ρ h) ρ h.length (some ob) b):
 Ext G w X ρ h (w.alloc ob) (λi=>if i=h.length then w.heap.size else ρ i) (h++[b]):=by
 have mX:(w.alloc ob).heap=w.heap.push ob:=rfl;have ZF:(w.alloc ob).heap.size=w.heap.size+1:=by rw[mX];simp
 have hold:∀b,b<w.heap.size->(w.alloc ob).heap[b]?=w.heap[b]?:=λb hb=>by
  rw[mX];simp[Array.getElem?_push,Xe hb]
 have aaM:(w.alloc ob).heap[w.heap.size]?=some ob:=by rw[mX];simp
 have iI:∀i,live (h++[b]) i->(live h i/\i<h.length)\/i=h.length:=by
  rintro i ⟨b',oE,hd⟩;by_cases hi:i<h.length
  .rw[Zd hi]at oE;exact .inl ⟨⟨b',oE,hd⟩,hi⟩
  .right;have:i< (h++[b]).length:=(Za.1 oE).1;simp at this;omega
 have ft:Step w (own ρ h) (w.alloc ob) (own (λi=>if i=h.length then w.heap.size else ρ i) (h++[b])):=by
  refine⟨rfl,rfl,rfl,by omega,λb hb _=>hold b hb,λb c t' I1 hb=>⟨c,t',I1,?_,rfl⟩,?_,Yq _⟩
  .rw[hold b (fI hb)];exact hb
  .rintro b hb ⟨i,hi,hρ⟩;rcases iI i hi with⟨hl,du⟩|rfl
   .exact⟨i,hl,by simpa[Xe du]using hρ⟩
   .simp at hρ;omega
 have zH:∀i,i<h.length->(λi=>if i=h.length then w.heap.size else ρ i) i=ρ i:=λi hi=>by simp[Xe hi]
 have hX:=hs.FC;have tQ:∀(i:Nat)(b':eV),(h++[b])[i]?=some b'->(i<h.length/\h[i]?=some b')\/(i=h.length/\b'=b):=by
  intro i b' hi;by_cases du:i<h.length
  .rw[Zd du]at hi;exact .inl ⟨du,hi⟩
  .have he:i=h.length:=by have:i< (h++[b]).length:=(Za.1 hi).1;simp at this;omega
   subst he;simp at hi;exact .inr ⟨rfl,hi.symm⟩
 refine⟨⟨λb hb=>by have:=hX b hb;omega,λg row hg=>?_,?_,?_,?_,?_⟩,zH,by simp,ft⟩
 .obtain⟨h1,c,t',I1,h2,h3⟩:=hs.rS g row hg;refine⟨λhh=>h1 (ft.kept.less g (fI h2) hh),c,t',I1,?_,h3⟩;rw[hold g (fI h2)];exact h2
 .intro i j hi hj tC;rcases iI i hi with⟨FR,KT⟩|rfl<;>rcases iI j hj with⟨UN,CC⟩|rfl
  .simp[Xe KT,Xe CC]at tC;exact hs.inj i j FR UN tC
  .simp[Xe KT]at tC;have:=hs.lt FR;omega
  .simp[Xe CC]at tC;have:=hs.lt UN;omega
  .rfl
 .intro i hi hx;rcases iI i hi with⟨FR,KT⟩|rfl
  .simp[Xe KT]at hx;exact hs.out i FR hx
  .simp at hx;have:=hX _ hx;omega
 .intro i cs hi hh;rcases tQ i _ hi with⟨du,rN⟩|⟨_,e⟩
  .have h1:=hs.pb i cs rN;have h2:=(hs.km i _ rN).lt (by simp);simp only[Xe du,if_false]at hh;exact h1 (ft.kept.less _ h2 hh)
  .subst e;cases hlb
 .intro i b' hi;rcases tQ i b' hi with⟨du,rN⟩|⟨rfl,rfl⟩
  .have h1:=hs.km i b' rN;by_cases hd:b'= .dead
   .subst hd;trivial
   .simp only[Xe du,if_false];rw[hold _ (h1.lt hd)];exact h1.step ft zH (by simp)
  .simp only[if_true,aaM];exact hb.step ft zH (by simp)
def sS{G:Nat->Option (List Value)}{w:World}{X:Nat->Prop}{ρ:Nat->Nat}{h:Hp}(hs:ia G w X ρ h)(cV:Array Value)(t:TypeId)(cs:List AV)(us:Nat->Value)(cp:cs.length<=cV.size)(hcs:∀k x,cs[k]?=some x->cV[k]?=some (us k)/\(us k).oneCell'=true/\Rp w (dZ X ρ h) ρ h.length (us k) x)(fz:Nat × Nat)(BL:Fz fz cV):
 Ext G w X ρ h (w.alloc (.cells cV t fz)) (λi=>if i=h.length then w.heap.size else ρ i) (h++[eV.row cs]):=
 yV hs _ _ rfl ⟨cV,t,fz,us,rfl,BL,cp,hcs⟩
def pB{G:Nat->Option (List Value)}{w w':World}{X:Nat->Prop}{ρ:Nat->Nat}{h:Hp}(hs:ia G w X ρ h)(id:Nat)(b0 b:eV)(ej:h[id]?=some b0)(ki:tP b0=true)(hlb:tP b=true)(ho:w'.os=w.os)(ZG:w'.tape=w.tape)(hou:w'.output=w.output)(ik:w'.heap.size=w.heap.size)(cY:∀(cV:Array Value)(t:TypeId)(fz:Nat × Nat),w.heap[ρ id]?=some (.cells cV t fz)->∃(kl:Array Value)(t':TypeId)(I1:Nat × Nat),w'.heap[ρ id]?=some (.cells kl t' I1)/\kl.size=cV.size)(gE:∀b,b≠ρ id->w'.heap[b]?=w.heap[b]?)(hb:zG w (dZ X ρ h) ρ h.length w'.heap[ρ id]? b)(hdr:w.drawn<=w'.drawn:=by exact Yq _):
 Ext G w X ρ h w' ρ (h.set id b):=by
 have du:id<h.length:=(Za.1 ej).1;have iI:∀i,live (h.set id b) i↔live h i:=by
  intro i;unfold live;by_cases hi:id=i
  .subst hi;exact⟨λ_=>⟨_,ej,ki⟩,λ_=>⟨_,Zj du,hlb⟩⟩
  .rw[Zq hi]
 have yA:∀p,own ρ (h.set id b) p↔own ρ h p:=λp=>⟨λ⟨i,a,c⟩=>⟨i,(iI i).1 a,c⟩,λ⟨i,a,c⟩=>⟨i,(iI i).2 a,c⟩⟩
 have I2:own ρ h (ρ id):=⟨id,⟨_,ej,ki⟩,rfl⟩;have ft:Step w (own ρ h) w' (own ρ (h.set id b)):=by
  refine⟨ho,ZG,hou,by omega,λb _ hb=>gE b (λe=>hb (e▸I2)),λp c t' fz hp=>?_,λp _ hp=>(yA p).1 hp,hdr⟩;by_cases e:p=ρ id
  .subst e;exact cY c t' fz hp
  .exact⟨c,t',fz,(gE p e).trans hp,rfl⟩
 refine⟨⟨λp hp=>by have:=hs.FC p hp;omega,λg row hg=>?_,λi j hi hj=>hs.inj i j ((iI i).1 hi) ((iI j).1 hj),λi hi=>hs.out i ((iI i).1 hi),?_,?_⟩,λ_ _=>rfl,by simp,ft⟩
 .obtain⟨h1,c,t',fz,h2,h3⟩:=hs.rS g row hg;refine⟨λhh=>h1 (ft.kept.less g (fI h2) hh),c,t',fz,?_,h3⟩;rw[gE g (λe=>h1 (.inr (e▸I2)))];exact h2
 .intro i cs hi hh;by_cases e:id=i
  .subst e;rw[Zj du]at hi;cases hi;cases hlb
  .rw[Zq e]at hi;exact hs.pb i cs hi (hh.imp (λq=>q) (yA _).1)
 .intro i b' hi;by_cases e:id=i
  .subst e;rw[Zj du]at hi;cases hi;exact hb.step ft (λ_ _=>rfl) (by simp)
  .rw[Zq e]at hi;have h1:=hs.km i b' hi;by_cases hd:b'= .dead
   .subst hd;trivial
   .have agA:ρ i≠ρ id:=by
     intro e';cases FT:tP b' with
     |true=>exact e (hs.inj id i ⟨_,ej,ki⟩ ⟨_,hi,FT⟩ e'.symm)
     |
      false=>
      cases b' with
      |dead=>exact hd rfl
      |MA cs=>exact hs.pb i cs hi (.inr (e'▸I2))
      |row cs=>cases FT
      |raw cs=>cases FT
      |map es c=>cases FT
      |iter s p=>cases FT
    rw[gE _ agA];exact h1.step ft (λ_ _=>rfl) (by simp)
def CD{G:Nat->Option (List Value)}{w w':World}{X:Nat->Prop}{ρ:Nat->Nat}{h:Hp}(hs:ia G w X ρ h)(id:Nat)(ZH:List AV)(ej:h[id]?=some (.row ZH))(cV kl:Array Value)(t:TypeId)(fz0:Nat × Nat)(BL:Fz fz0 cV)(nN:w.heap[ρ id]?=some (.cells cV t fz0))(ho:w'.os=w.os)(ZG:w'.tape=w.tape)(hou:w'.output=w.output)(ik:w'.heap.size=w.heap.size)(ZJ:w'.heap[ρ id]?=some (.cells kl t fz0))(j8:kl.size=cV.size)(gE:∀b,b≠ρ id->w'.heap[b]?=w.heap[b]?)(cs:List AV)(us:Nat->Value)(cp:cs.length<=kl.size)(hcs:∀k x,cs[k]?=some x->kl[k]?=some (us k)/\(us k).oneCell'=true/\Rp w (dZ X ρ h) ρ h.length (us k) x)(hdr:w.drawn<=w'.drawn:=by exact Yq _):
 Ext G w X ρ h w' ρ (h.set id (.row cs)):=
 pB hs id _ _ ej rfl rfl ho ZG hou ik (λc t' f hc=>by rw[nN]at hc;cases hc;exact⟨_,_,_,ZJ,j8⟩) gE
  ⟨kl,t,fz0,us,ZJ,BL.imp (λq=>q) (λhh=>by rw[j8];exact hh),cp,hcs⟩ hdr
def FU{G:Nat->Option (List Value)}{w:World}{X:Nat->Prop}{ρ:Nat->Nat}{h:Hp}(hs:ia G w X ρ h)(h':Hp)(cp:h'.length=h.length)(hb:∀(i:Nat)(b':eV),h'[i]?=some b'->b'= .dead\/h[i]?=some b'\/∃cs,b'= .MA cs/\live h i/\zG w (dZ X ρ h') ρ h.length w.heap[ρ i]? (.MA cs)):Ext G w X ρ h w ρ h':=by
 have iI:∀i,live h' i->live h i:=by
  rintro i ⟨b,hi,hl⟩;rcases hb i b hi with rfl|h1|⟨cs,rfl,_⟩
  .cases hl
  .exact⟨b,h1,hl⟩
  .cases hl
 have yA:∀b,own ρ h' b->own ρ h b:=λb ⟨i,a,c⟩=>⟨i,iI i a,c⟩
 have ft:Step w (own ρ h) w (own ρ h'):=⟨rfl,rfl,rfl,Yq _,λ_ _ _=>rfl,λ_ _ _ _ hb=>⟨_,_,_,hb,rfl⟩,λb _=>yA b,Yq _⟩;have qV:h.length<=h'.length:=by omega
 refine⟨⟨hs.FC,λg row hg=>?_,λi j hi hj=>hs.inj i j (iI i hi) (iI j hj),λi hi=>hs.out i (iI i hi),?_,?_⟩,λ_ _=>rfl,qV,ft⟩
 .obtain⟨h1,c,t',fz,h2,h3⟩:=hs.rS g row hg;exact⟨λhh=>h1 (ft.kept.less g (fI h2) hh),c,t',fz,h2,h3⟩
 .intro i cs hi hh;rcases hb i _ hi with h1|h1|⟨cs',_,hl,_⟩
  .cases h1
  .exact hs.pb i cs h1 (hh.imp (λq=>q) (yA _))
  .rcases hh with hx|⟨j,hj,e⟩
   .exact hs.out i hl hx
   .have:j=i:=hs.inj j i (iI j hj) hl e;subst this;obtain⟨b,hjb,FT⟩:=hj;rw[hi]at hjb;cases hjb;cases FT
 .intro i b' hi;rcases hb i b' hi with rfl|h1|⟨cs,rfl,_,h2⟩
  .trivial
  .exact(hs.km i b' h1).step ft (λ_ _=>rfl) qV
  .exact h2.step (Step.refl w (own ρ h')) (λ_ _=>rfl) qV
def P5{G:Nat->Option (List Value)}{w:World}{X:Nat->Prop}{ρ:Nat->Nat}{h:Hp}(hs:ia G w X ρ h)(id:Nat):Ext G w X ρ h w ρ (h.set id eV.dead):=by
 refine FU hs _ (by simp) λi b hi=>?_
 by_cases e:id=i
 .subst e;rw[List.getElem?_set_self']at hi;cases hq:h[id]?<;>simp[hq]at hi;exact .inl hi.symm
 .rw[Zq e]at hi;exact .inr (.inl hi)
def I3{G:Nat->Option (List Value)}{w:World}{X:Nat->Prop}{ρ:Nat->Nat}{h:Hp}(hs:ia G w X ρ h)(id:Nat)(cs:List AV)(ej:h[id]?=some (.row cs)):
 Ext G w X ρ h w (λi=>if i=h.length then ρ id else ρ i) (h.set id eV.dead++[eV.row cs]):=by
 have du:id<h.length:=(Za.1 ej).1;have cp:(h.set id eV.dead).length=h.length:=by simp
 have tQ:∀(i:Nat)(b:eV),(h.set id eV.dead++[eV.row cs])[i]?=some b->b≠ .dead->(i<h.length/\i≠id/\h[i]?=some b)\/(i=h.length/\b= .row cs):=by
  intro i b hi hd;by_cases iJ:i<h.length
  .rw[Zd (by omega)]at hi;by_cases e:id=i
   .subst e;simp[du]at hi;exact absurd hi.symm hd
   .rw[Zq e]at hi;exact .inl ⟨iJ,λe'=>e e'.symm,hi⟩
  .have:i< (h.set id eV.dead++[eV.row cs]).length:=(Za.1 hi).1;have he:i=h.length:=by simp at this;omega
   subst he;rw[Zf (by omega)]at hi;simp at hi;exact .inr ⟨rfl,hi.symm⟩
 have Vk:live h id:=⟨_,ej,rfl⟩;have iI:∀i,live (h.set id eV.dead++[eV.row cs]) i->(i<h.length/\i≠id/\live h i)\/i=h.length:=by
  rintro i ⟨b,hb,hd⟩;rcases tQ i b hb (λe=>by subst e;cases hd)with⟨h1,h2,h3⟩|⟨h1,_⟩
  .exact .inl ⟨h1,h2,b,h3,hd⟩
  .exact .inr h1
 have yA:∀b,own (λi=>if i=h.length then ρ id else ρ i) (h.set id eV.dead++[eV.row cs]) b->own ρ h b:=by
  rintro b ⟨i,hi,e⟩;rcases iI i hi with⟨h1,_,h3⟩|rfl
  .exact⟨i,h3,by simpa[Xe h1]using e⟩
  .exact⟨id,Vk,by simpa using e⟩
 have ft:Step w (own ρ h) w (own (λi=>if i=h.length then ρ id else ρ i) (h.set id eV.dead++[eV.row cs])):=
  ⟨rfl,rfl,rfl,Yq _,λ_ _ _=>rfl,λ_ _ _ _ hb=>⟨_,_,_,hb,rfl⟩,λb _=>yA b,Yq _⟩
 have zH:∀i,i<h.length->(λi=>if i=h.length then ρ id else ρ i) i=ρ i:=λi hi=>by simp[Xe hi]
 refine⟨⟨hs.FC,λg row hg=>?_,λi j hi hj tC=>?_,λi hi=>?_,?_,?_⟩,zH,by simp,ft⟩
 .obtain⟨h1,c,t',fz,h2,h3⟩:=hs.rS g row hg;exact⟨λhh=>h1 (ft.kept.less g (fI h2) hh),c,t',fz,h2,h3⟩
 .rcases iI i hi with⟨i1,i2,i3⟩|rfl<;>rcases iI j hj with⟨j1,j2,j3⟩|rfl
  .simp[Xe i1,Xe j1]at tC;exact hs.inj i j i3 j3 tC
  .simp[Xe i1]at tC;exact absurd (hs.inj i id i3 Vk tC) i2
  .simp[Xe j1]at tC;exact absurd (hs.inj j id j3 Vk tC.symm) j2
  .rfl
 .rcases iI i hi with⟨i1,_,i3⟩|rfl
  .simpa[Xe i1]using hs.out i i3
  .simpa using hs.out id Vk
 .intro i cs' hi hh;rcases tQ i _ hi (by simp)with⟨i1,_,i3⟩|⟨_,e⟩
  .simp only[Xe i1,if_false]at hh;exact hs.pb i cs' i3 (hh.imp (λq=>q) (yA _))
  .cases e
 .intro i b hi;by_cases hd:b= .dead
  .subst hd;trivial
  .rcases tQ i b hi hd with⟨i1,_,i3⟩|⟨rfl,rfl⟩
   .simp only[Xe i1,if_false];exact(hs.km i b i3).step ft zH (by simp)
   .simp only[if_true];exact(hs.km id _ ej).step ft zH (by simp)
def pC{G:Nat->Option (List Value)}{w:World}{X:Nat->Prop}{ρ:Nat->Nat}{h:Hp}(hs:ia G w X ρ h)(k:Nat)(hk:w.drawn<=k:=by omega):Ext G w X ρ h {w with drawn:=k} ρ h:=by
 have ft:Step w (own ρ h) {w with drawn:=k} (own ρ h):=⟨rfl,rfl,rfl,Yq _,λ_ _ _=>rfl,λ_ _ _ _ hb=>⟨_,_,_,hb,rfl⟩,λ_ _ hh=>hh,hk⟩;exact⟨⟨hs.FC,hs.rS,hs.inj,hs.out,hs.pb,λi b hi=>(hs.km i b hi).step ft (λ_ _=>rfl) (Yq _)⟩,λ_ _=>rfl,Yq _,ft⟩
inductive Kd where
 |BX
 |struct (fs:List (Nat × Nat × Bool))
 |slice (KU:Nat) (agB:Bool) (ebytes:Nat) (ezero:List Value)
 |array (n KU:Nat) (agB:Bool)
structure Ti where
 size:Nat
 agg:Bool
 zero:List Value
 kd:Kd
inductive Rv where
 |tmp (t:Nat)
 |cell (a sz:Nat) (agg:Bool)
structure Fi where
 ntmps:Nat
 body:Code
 res:List Rv
abbrev lu:=FuncId->List AV->Hp->Option (AV × Hp)
structure Cx where
 P:Program
 T:TypeId->Option Ti
 G:Nat->Option (List Value)
 F:FuncId->Option Fi
 inl:FuncId->Bool
 BZ:FuncId->List AV->Option AV
 vc:FuncId->Option (FuncId × TypeId)
 MC:FuncId->Option TypeId
 pb:Oper->Bool
 ext:FuncId->Bool
 ins:FuncId->Option (Nat × Nat)
 nf:FuncId->AV->AV
 thr:FuncId->Bool:=λ_=>false
 mv:TypeId->Option Nat:=λ_=>none
 fuel:Nat
def jL(P:Program){α:Type}:Sem α->Option α
 | .pure a=>some a
 | .program k=>jL P (k P)
 | .mark _ k=>jL P k
 |_=>none
def ofConst :Value->AV
 | .agg cs=>if cs.toList.all lr then .ag (cs.toList.map .sc)else .ud
 |v=>if lr v then .sc v else .ud
def ev(C:Cx)(fr:List AV):Operand->AV
 | .tmp t=>fr.getD t .ud
 | .const v=>ofConst v
 | .global g=>match C.G g with|some row=> .rp (row.map gav) 0|none=> .ud
 | .func f=> .fn f []
def cls :AV->Option (List AV)
 | .ag xs=>some xs
 | .ud| .un| .tp _| .pn _=>none
 |x=>some [x]
def part(agg:Bool)(off sz:Nat)(cs:List AV):Option AV:=
 if agg then(if off+sz<=cs.length then some (.ag ((cs.drop off).take sz))else none)else cs[off]?
def cF(cs:List AV)(off:Nat)(vs:List AV):List AV:=cs.take off++vs++cs.drop (off+vs.length)
def lX(place:Nat->Option (Nat × Nat)):List AV->List (Nat × AV)->Option (List AV)
 |cells,[]=>some cells
 |
  cells,(i,x)::rest=>
  match place i,cls x with
  |some (off,size),some cs=>if cs.length=size/\off+size<=cells.length then lX place (cF cells off cs) rest else none
  |_,_=>none
def Vl :AV->Bool| .sc _=>true|_=>false
def adp :AV->Value| .sc v=>v|_=>undef
def tR :AV->Bool
 | .sc _=>true
 | .fn _ []=>true
 | .ag xs=>xs.all Vl
 |_=>false
def tS :AV->Value
 | .sc v=>v
 | .fn f []=> .func (.func f) #[] #[]
 | .ag xs=> .agg (xs.map adp).toArray
 |_=>undef
def zI :Value->Option AV
 | .tuple vs=>if vs.toList.all lr then some (.tp (vs.toList.map .sc))else none
 | .agg vs=>if vs.toList.all lr then some (.ag (vs.toList.map .sc))else none
 |v=>if lr v then some (.sc v)else none
def pD :Op->Bool| .select .. =>true|_=>false
def dA(k:IntKind)(n:Int):Int:=
 match k with
 | .i64=>if-9223372036854775808<=n/\n<=9223372036854775807 then n else k.wrap n
 | .u64=>if 0<=n/\n<=18446744073709551615 then n else k.wrap n
 |_=>k.wrap n
def xR(op:BinOp)(k:IntKind)(a b:Int):Option Value:=
 match op with
 | .add=>some (.int k (dA k (a+b)))
 | .sub=>some (.int k (dA k (a-b)))
 | .mul=>some (.int k (dA k (a*b)))
 | .quo=>if b=0 then none else some (.int k (dA k (a.tdiv b)))
 | .rem=>if b=0 then none else some (.int k (a.tmod b))
 | .eql=>some (.bool (decide (a=b)))
 | .neq=>some (.bool !(decide (a=b)))
 | .lss=>some (.bool (decide (a<b)))
 | .leq=>some (.bool (decide (a<=b)))
 | .gtr=>some (.bool (decide (a>b)))
 | .geq=>some (.bool (decide (a≥b)))
 | .and=>if k= .u64/\0<=a/\a<=18446744073709551615/\0<=b/\b<=18446744073709551615 then some (.int k (a.toNat &&& b.toNat:Nat))else none
 | .or=>if k= .u64/\0<=a/\a<=18446744073709551615/\0<=b/\b<=18446744073709551615 then some (.int k (a.toNat|||b.toNat:Nat))else none
 |_=>none
def yW(op:BinOp)(k:IntKind)(a:Int)(k':IntKind)(b:Int):Option Value:=
 match op with
 | .shr=>if 0<=b/\b<=k.bits then some (.int k (a/(2^b.toNat:Nat)))else none
 |op=>if k=k' then xR op k a b else none
def dn(x y:ByteArray):Bool:=x.data.toList==y.data.toList
def nO(x y:ByteArray):Bool:=Op.bytesLess x.data.toList y.data.toList
def ew(op:BinOp)(x y:ByteArray):Option Value:=
 match op with
 | .add=>if x.size+y.size<=9223372036854775807 then some (.string (x++y))else none
 | .eql=>some (.bool (dn x y))
 | .neq=>some (.bool !(dn x y))
 | .lss=>some (.bool (nO x y))
 | .leq=>some (.bool (nO x y||dn x y))
 | .gtr=>some (.bool !(nO x y||dn x y))
 | .geq=>some (.bool !(nO x y))
 |_=>none
def j9(C:Cx)(t:TypeId):Bool:=match C.P.underlying t with|some (.slice _)=>true|_=>false
def isStr(C:Cx)(t:TypeId):Bool:=match C.P.underlying t with|some .string=>true|_=>false
def uk(C:Cx)(e:Operand->AV)(o:Oper):Option AV:=
 match o.op with
 |
  .binOp op t x y _=>match e x,e y with
  |
   .sc (.bool a),.sc (.bool b)=>(match C.P.underlying t,op with
   |some .bool,.eql=>some (.sc (.bool (a==b)))
   |some .bool,.neq=>some (.sc (.bool (a !=b)))
   |_,_=>none)
  | .sc (.int k a),.sc (.int k' b)=>(yW op k a k' b).map .sc
  | .sc (.string a),.sc (.string b)=>(ew op a b).map .sc
  |_,_=>none
 |
  .unOp .not _ x=>match e x with
  | .sc (.bool b)=>some (.sc (.bool !b))
  |_=>none
 |
  .unOp .neg _ x=>match e x with
  | .sc (.int k n)=>(xR .sub k 0 n).map .sc
  |_=>none
 |
  .convert src dst x=>match e x with
  |
   .sc (.int _ n)=>match C.P.underlying src,C.P.underlying dst with
   |some (.int _),some (.int k)=>some (.sc (.int k (dA k n)))
   |_,_=>none
  |_=>none
 |
  .index t x ix=>match e x,e ix with
  | .sc (.string s),.sc (.int _ i)=>if isStr C t/\0<=i then(s.data.toList[i.toNat]?).map λb=> .sc (.int .u8 b.toNat)else none
  |_,_=>none
 |
  .call {callee:= .builtin .len,args,argTypes}=>match args.toList,argTypes.toList with
  |
   [x],[t]=>match e x with
   | .sc (.string s)=>if isStr C t then some (.sc (.int .i64 s.size))else none
   | .sc (.slice none 0 0)=>if j9 C t then some (.sc (.int .i64 0))else none
   |_=>none
  |_,_=>none
 |
  .call {callee:= .builtin .max,args,.. }=>match args.toList with
  |
   [x,y]=>match e x,e y with
   | .sc (.int k a),.sc (.int _ b)=>some (.sc (.int k (if b>a then b else a)))
   |_,_=>none
  |_=>none
 |
  .call {callee:= .builtin .min,args,.. }=>match args.toList with
  |
   [x,y]=>match e x,e y with
   | .sc (.int k a),.sc (.int _ b)=>some (.sc (.int k (if b<a then b else a)))
   |_,_=>none
  |_=>none
 |_=>none
def mO(C:Cx)(e:Operand->AV)(o:Oper):Option AV:=
 if !pD o.op && o.op.operands.toList.all λx=>tR (e x)then
  match jL C.P (execOp (λx=>tS (e x)) o)with
  |some (.value v)=>zI v
  |_=>none
 else none
def iu(C:Cx)(e:Operand->AV)(o:Oper):Option AV:=
 match uk C e o with
 |some r=>some r
 |none=>mO C e o
def gu(h:Hp)(id:Nat):Option (List AV):=
 match h[id]? with
 |some (.row cs)=>some cs
 |some (.MA cs)=>some cs
 |some (.raw cs)=>some cs
 |_=>none
def gV(h:Hp):AV->Option (Nat × List AV)
 | .sc (.slice none 0 0)=>some (0,[])
 | .ls _ cq _=>some (cq.length,cq.flatten)
 |
  .sl id sz off len _=>match gu h id with
  |some cs=>if off+len*sz<=cs.length then some (len,(cs.drop off).take (len*sz))else none
  |none=>none
 |_=>none
def kM(sz:Nat):AV->Bool
 | .sc _=>true
 | .ls s _ _=>s==sz
 | .sl _ s _ _ _=>s==sz
 |_=>false
def fg(C:Cx)(h:Hp)(t:TypeId)(s x:AV):Option (AV × Hp):=
 match C.T t with
 |some {kd:= .slice sz _ bytes _,.. }=>
  if kM sz s && kM sz x then
   match gV h x with
   |some (m,news)=>
    if m=0 then(match s with| .sc (.slice none 0 0)| .ls .. | .sl .. =>some (s,h)|_=>none)
    else match s with
     | .sc (.slice none 0 0)=>if m<=maxLen/\m*bytes<=140737488355328 then some (.sl h.length sz 0 m false,h++[.row news])else none
     | .ls _ cq true=>if cq.length+m<=maxLen/\(cq.length+m)*bytes<=140737488355328 then some (.sl h.length sz 0 (cq.length+m) false,h++[.row (cq.flatten++news)])else none
     |
      .sl id _ off len true=>match gu h id with
      |some cs=>
       if off+len*sz<=cs.length/\len+m<=maxLen/\(len+m)*bytes<=140737488355328 then some (.sl h.length sz 0 (len+m) false,h++[.row ((cs.drop off).take (len*sz)++news)])
       else none
      |none=>none
     |
      .sl id _ off len false=>match h[id]? with
      |some (.row cs)=>
       if off+(len+m)*sz<=cs.length then some (.sl id sz off (len+m) false,h.set id (.row (cF cs (off+len*sz) news)))
       else if off=0/\cs.length=len*sz/\len+m<=maxLen/\(len+m)*bytes<=140737488355328 then some (.sl h.length sz 0 (len+m) false,h.set id .dead++[.row (cs++news)])
       else none
      |_=>none
     |_=>none
   |none=>none
  else none
 |_=>none
def P6(C:Cx)(h:Hp)(t:TypeId)(d x:AV):Option (AV × Hp):=
 match C.T t with
 |some {kd:= .slice sz ..,.. }=>
  if kM sz d && kM sz x then
   match gV h x,d with
   |some (m,news),.sl id _ off len _=>match h[id]? with
    |some (.row cs)=>if off+min m len*sz<=cs.length then some (.sc (.int .i64 (min m len:Nat)),h.set id (.row (cF cs off (news.take (min m len*sz)))))else none
    |_=>none
   |some (_,_),.ls _ [] _=>some (.sc (.int .i64 0),h)
   |some (_,_),.sc (.slice none 0 0)=>some (.sc (.int .i64 0),h)
   |_,_=>none
  else none
 |_=>none
def D7(C:Cx)(h:Hp)(t:TypeId)(x:AV):Option (AV × Hp):=
 match C.T t,x with
 |some {kd:= .slice sz _ _ ez,.. },.sl id s off len _=>match h[id]? with
  |some (.row cs)=>if s=sz/\0<len/\off+len*sz<=cs.length then some (.tp [],h.set id (.row (cF cs off ((List.range len).flatMap λ_=>ez.map .sc))))else none
  |_=>none
 |_,_=>none
def tD :AV->Option Nat
 | .ls _ cq _=>some cq.length
 | .sl _ _ _ len _=>some len
 |_=>none
def jy :AV->Option Nat
 | .sc (.int _ i)=>if 0<=i then some i.toNat else none
 |_=>none
def iC(d:Nat):Option AV->Option Nat
 |none=>some d
 |some x=>jy x
def I4(C:Cx)(t:TypeId):Bool:=match C.P.underlying t with|some (.int _)=>true|_=>false
def zJ(C:Cx)(h:Hp)(t t':TypeId)(s x:AV):Option (AV × Hp):=
 match C.T t,s,jy x with
 |some {kd:= .slice sz _ bytes ez,.. },.sc (.slice none 0 0),some n=>
  if I4 C t'=true/\0<n/\n<=maxLen/\n*bytes<=140737488355328 then some (.sl h.length sz 0 n false,h++[.row ((List.range n).flatMap λ_=>ez.map .sc)])else none
 |_,_,_=>none
def qi(x:AV)(lo hi mx:Option AV):Option AV:=
 match tD x with
 |some len=>match iC 0 lo,iC len hi,mx with
  |some l,some h,none=>
   if l<=h/\h<=len then match x with
    | .ls sz cq z=>some (.ls sz ((cq.drop l).take (h-l)) (z && h==len))
    | .sl id sz off _ k=>if l=h then some (.ls sz [] (k && h==len))else if k && h !=len then none else some (.sl id sz (off+l*sz) (h-l) k)
    |_=>none
   else none
  |some l,some h,some m=>match jy m with
   |some m=>if l<=h/\h<=m/\m<=len/\hi.isSome then(if h=m then(match x with
    | .ls sz cq _=>some (.ls sz ((cq.drop l).take (h-l)) true)
    | .sl id sz off _ _=>if l=h then some (.ls sz [] true)else some (.sl id sz (off+l*sz) (h-l) true)
    |_=>none)else some .ud)else none
   |none=>none
  |_,_,_=>none
 |none=>none
def CE :AV->Bool
 | .ls _ (_::_) _| .sl .. =>true
 |_=>false
def zK :Operand->Bool
 | .const (.slice none 0 0)=>true
 |_=>false
def zL :AV->Option UInt8
 | .sc (.int .u8 i)=>if 0<=i/\i<256 then some (UInt8.ofNat i.toNat)else none
 |_=>none
def zM(C:Cx)(t:TypeId):Bool:=
 match C.P.underlying t with
 |some (.slice e)=>(match C.P.underlying e with|some (.int .u8)=>true|_=>false)
 |_=>false
def pd(C:Cx)(t:TypeId):Bool:=
 match C.P.underlying t with
 |some (.map kt _)=>isStr C kt
 |_=>false
def adq(C:Cx)(t:TypeId):Option AV:=
 match C.P.underlying t with
 |some (.map _ et)=>match C.P.info? et with
  |some i=>i.zero.map ofConst
  |none=>none
 |_=>none
def pe :Value × AV->Bool
 |(.string _,_)=>true
 |_=>false
def P7(s:ByteArray):Value->Bool
 | .string a=>s==a
 |_=>false
def mY(s:ByteArray):List (Value × AV)->Nat->Option Nat
 | [],_=>none
 |(j,_)::es,i=>bif P7 s j then some i else mY s es (i+1)
def P8(C:Cx)(t:TypeId)(s:ByteArray)(es:List (Value × AV)):Option (AV × Bool):=
 match mY s es 0 with
 |some i=>(es[i]?).map λp=>(p.2,true)
 |none=>(adq C t).map λz=>(z,false)
def calm :AV->Bool
 | .sc _| .ls .. | .rp .. =>true
 | .ag xs=>xs.all λ| .sc _| .ls .. | .rp .. =>true|_=>false
 | .fn _ xs=>xs.all λ| .sc _| .ls .. | .rp .. =>true|_=>false
 |_=>false
def chunk(sz len:Nat)(cs:List AV):List (List AV):=(List.range len).map λi=>(cs.drop (i*sz)).take sz
def lY(C:Cx)(e:Operand->AV)(h:Hp)(o:Oper):Option (AV × Hp):=
 match o.op with
 |
  .buildSlice t len parts=>match C.T t with
  |some {kd:= .slice sz _ _ ez,.. }=>
   if len*sz<=16777216 then match lX (λi=>some (i*sz,sz)) ((List.range len).flatMap λ_=>ez.map .sc) (parts.toList.map λp=>(p.1,e p.2))with
    |some cs=>if cs.all calm then some (.ls sz (chunk sz len cs) true,h)else none
    |none=>none
   else none
  |_=>none
 |
  .makeSlice t l c=>match C.T t,jy (e l),jy (e c)with
  |some {kd:= .slice sz _ bytes ez,.. },some n,some m=>
   if n=m/\n<=maxLen/\n*bytes<=140737488355328 then some (.ls sz (chunk sz n ((List.range n).flatMap λ_=>ez.map .sc)) true,h)else none
  |_,_,_=>none
 |
  .slice t x lo hi none=>match C.T t,e x with
  |some {kd:= .slice sz ..,.. },.sl id s off len false=>match iC 0 (lo.map e),iC len (hi.map e),gu h id with
   |some l,some m,some cs=>if s=sz/\l<=m/\off+m*sz<=cs.length/\(l<m\/off+(l+1)*sz<=cs.length)then some (.sl id sz (off+l*sz) (m-l) false,h)else none
   |_,_,_=>none
  |_,_=>none
 |
  .call {callee:= .builtin .append,args,argTypes}=>match args.toList,argTypes.toList with
  |
   [s,x],[t,t']=>if t=t' then(match C.T t with
   |some {kd:= .slice sz _ bytes _,.. }=>if kM sz (e s) && kM sz (e x)then(match gV h (e x),e s with
    |some (m,news),.ls s0 [] z=>if m=0 then some (.ls s0 [] z,h)else if m<=maxLen/\m*bytes<=140737488355328/\z=true/\news.all calm=true then some (.ls sz (chunk sz m news) false,h)else none
    |_,_=>none)else none
   |_=>none)else none
  |_,_=>none
 |_=>none
def da(h:Hp):Nat->AV->Option AV
 |_,.sc v=>some (.sc v)
 |_,.ls sz cq z=>some (.ls sz cq z)
 |_,.rp row j=>some (.rp row j)
 |_,.oc=>some .oc
 |0,_=>none
 |
  n+1,.sl id sz off len _=>match gu h id with
  |some cs=>if off+len*sz<=cs.length then
   (((cs.drop off).take (len*sz)).mapM (da h n)).map λxs=> .ls sz ((List.range len).map λi=>(xs.drop (i*sz)).take sz) false
   else none
  |none=>none
 |
  n+1,.pt id off=>match gu h id with
  |some cs=>(cs.mapM (da h n)).map λxs=> .rp xs off
  |none=>none
 |n+1,.ag xs=>(xs.mapM (da h n)).map .ag
 |n+1,.tp xs=>(xs.mapM (da h n)).map .tp
 |n+1,.fn f xs=>(xs.mapM (da h n)).map (.fn f)
 |_,_=>none
def mask(ids:List Nat)(h:Hp):Hp:=(List.range h.length).map λi=>if ids.contains i then h.getD i .dead else .dead
def freeze(ids:List Nat)(h:Hp):Option Hp:=
 (List.range h.length).mapM λi=>if ids.contains i then(match h[i]? with
  |some (.row cs)=>(cs.mapM (da (mask ids h) 8)).map .MA
  |some (.MA cs)=>some (.MA cs)
  |some .dead=>some .dead
  |_=>none)else h[i]?
def mvA(C:Cx)(e:Operand->AV)(h:Hp)(t:TypeId)(m:Nat):List (Nat × Operand)->Option (AV × Hp)
 |
  [(0,.tmp q)]=>match e (.tmp q),C.T t with
  |
   .sl id s off len k,some {kd:= .slice sz _ _ ez,.. }=>if sz=1/\ez.length=1 then(match freeze [id] h,da (mask [id] h) 8 (.sl id s off len k)with
   |some h',some y=>some (.sl h'.length 1 0 1 false,h'++[.row [y]])
   |_,_=>none)else none
  | .sc (.slice none 0 0),some {kd:= .slice sz _ _ ez,.. }=>if sz=1/\ez.length=1 then some (.sl h.length 1 0 1 false,h++[.row [.ls m [] false]])else none
  |_,_=>none
 |_=>none
def mvB(C:Cx)(e:Operand->AV)(h:Hp)(t:TypeId)(len:Nat)(ps:List (Nat × Operand)):Option (AV × Hp):=
 match C.mv t with
 |some m=>if len=1 then mvA C e h t m ps else none
 |none=>none
def yB(C:Cx)(call:lu)(e:Operand->AV)(h:Hp)(o:Oper):Option (AV × Hp):=
 match o.op with
 | .move x| .assign x=>some (e x,h)
 |
  .pick c a b=>match e c with
  | .sc (.bool t)=>some (bif t then e a else e b,h)
  |_=>none
 |
  .alloc t=>match C.T t with
  |some i=>some (.pt h.length 0,h++[.row (i.zero.map .sc)])
  |none=>none
 |
  .box t x=>match C.T t,cls (e x)with
  |some i,some cs=>if cs.length=i.size then some (.pt h.length 0,h++[.row cs])else none
  |_,_=>none
 |
  .build t parts=>match C.T t with
  |some {zero,kd:= .struct fs,.. }=>(lX (λi=>(fs[i]?).map λf=>(f.1,f.2.1)) (zero.map .sc) (parts.toList.map λp=>(p.1,e p.2))).map λcs=>(.ag cs,h)
  |some {zero,kd:= .array _ KU _,.. }=>(lX (λi=>some (i*KU,KU)) (zero.map .sc) (parts.toList.map λp=>(p.1,e p.2))).map λcs=>(.ag cs,h)
  |_=>none
 |
  .buildSlice t len parts=>match mvB C e h t len parts.toList with
  |some r=>some r
  |none=>match C.T t with
  |some {kd:= .slice sz _ _ ez,.. }=>
   if len*sz<=16777216 then
    (lX (λi=>some (i*sz,sz)) ((List.range len).flatMap λ_=>ez.map .sc) (parts.toList.map λp=>(p.1,e p.2))).map λcs=>(.sl h.length sz 0 len false,h++[.row cs])
   else none
  |_=>none
 |
  .load t x=>match C.T t,e x with
  |some i,.pt id off=>match gu h id with
   |some cs=>(part i.agg off i.size cs).map λy=>(y,h)
   |none=>none
  |some i,.rp row j=>(part i.agg j i.size row).map λy=>(y,h)
  |_,_=>none
 |
  .store t x y=>match C.T t,e x,cls (e y)with
  |some i,.pt id off,some vs=>match h[id]? with
   |some (.row cs)=>if vs.length=i.size/\off+i.size<=cs.length then some (.un,h.set id (.row (cF cs off vs)))else none
   |some (.raw cs)=>if vs.length=i.size/\off+i.size<=cs.length then some (.un,h.set id (.raw (cF cs off vs)))else none
   |_=>none
  |_,_,_=>none
 |
  .nilCheck x=>match e x with
  | .pt id off=>some (.pt id off,h)
  | .rp row j=>some (.rp row j,h)
  | .fn f cs=>some (.fn f cs,h)
  |_=>none
 |
  .fieldAddr t x f=>match C.T t with
  |some {kd:= .struct fs,.. }=>match fs[f]?,e x with
   |some (o,sz,_),.pt id off=>if sz=0 then none else some (.pt id (off+o),h)
   |some (o,sz,_),.rp row j=>if sz=0 then none else some (.rp row (j+o),h)
   |_,_=>none
  |_=>none
 |
  .indexAddr t x ix=>match C.T t,jy (e ix)with
  |some {kd:= .slice sz ..,.. },some i=>match e x with
   | .sl id s off len _=>if s=sz/\i<len then some (.pt id (off+i*sz),h)else none
   | .ls s cq _=>if s=sz then(cq[i]?).map λrow=>(.rp row 0,h)else none
   |_=>none
  |some {kd:= .array n sz _,.. },some i=>match e x with
   | .pt id off=>if i<n then some (.pt id (off+i*sz),h)else none
   | .rp row j=>if i<n then some (.rp row (j+i*sz),h)else none
   |_=>none
  |_,_=>none
 |
  .field t x f=>match C.T t,e x with
  |some {kd:= .struct fs,.. },.ag cs=>match fs[f]? with
   |some (off,sz,agg)=>(part agg off sz cs).map λy=>(y,h)
   |none=>none
  |_,_=>none
 |
  .index t x ix=>match C.T t,e x with
  |some {kd:= .array n sz agg,.. },.ag cs=>match jy (e ix)with
   |some i=>if i<n then(part agg (i*sz) sz cs).map λy=>(y,h)else none
   |none=>none
  |_,_=>(iu C e o).map λy=>(y,h)
 |
  .extract x i=>match e x with
  | .tp vs=>(vs[i]?).map λy=>(y,h)
  |_=>none
 | .makeFunc (.func f) first nM=>if first.isEmpty then some (.fn f (nM.toList.map e),h)else some (.oc,h)
 |
  .makeSlice t l c=>match C.T t,jy (e l),jy (e c)with
  |some {kd:= .slice sz _ bytes ez,.. },some n,some m=>
   if n=m/\n<=maxLen/\n*bytes<=140737488355328 then some (.sl h.length sz 0 n false,h++[.row ((List.range n).flatMap λ_=>ez.map .sc)])else none
  |_,_,_=>none
 |
  .slice t x lo hi mx=>match e x with
  | .sc _=>(iu C e o).map λy=>(y,h)
  |
   y=>match C.T t with
   |some {kd:= .slice sz ..,.. }=>if kM sz y then(qi y (lo.map e) (hi.map e) (mx.map e)).map λy=>(y,h)else none
   |_=>none
 | .binOp op t x y _=>if j9 C t && zK y && CE (e x)then(match op with
  | .eql=>some (.sc (.bool false),h)
  | .neq=>some (.sc (.bool true),h)
  |_=>none)else(iu C e o).map λy=>(y,h)
 |
  .convert src dst x=>match e x with
  | .sc (.string s)=>if isStr C src && zM C dst then(if s.size<=maxLen then some (.sl h.length 1 0 s.size false,h++[.raw (s.data.toList.map λb=> .sc (.int .u8 b.toNat))])else none)else(iu C e o).map λy=>(y,h)
  |
   .sl id 1 off len k=>if isStr C dst && zM C src then(match gV h (.sl id 1 off len k)with
   |some (_,news)=>(news.mapM zL).map λbs=>(.sc (.string ⟨bs.toArray⟩),h)
   |none=>none)else none
  |_=>(iu C e o).map λy=>(y,h)
 | .makeMap t none=>if pd C t then some (.mp h.length,h++[.map [] 0])else none
 |
  .mapUpdate t m k x=>match e m,e k,e x with
  |
   .mp id,.sc (.string s),y=>if pd C t then(match h[id]? with
   |some (.map es clock)=>if es.all pe then(match mY s es 0 with
    |some i=>some (.un,h.set id (.map (es.set i (.string s,y)) clock))
    |none=>some (.un,h.set id (.map (es++[(.string s,y)]) (clock+1))))else none
   |_=>none)else none
  |_,_,_=>none
 |
  .lookup t m k ok=>match e m,e k with
  |
   .mp id,.sc (.string s)=>if pd C t then(match h[id]? with
   |some (.map es _)=>if es.all pe then(P8 C t s es).map λq=>(if ok then .tp [q.1,.sc (.bool q.2)]else q.1,h)else none
   |_=>none)else none
  |_,_=>(iu C e o).map λy=>(y,h)
 |
  .range t x=>match e x with
  | .sc (.string s)=>if isStr C t then some (.pt h.length 0,h++[.iter s 0])else none
  |_=>none
 |
  .next x true=>match e x with
  |
   .pt id 0=>match h[id]? with
   |some (.iter s pos)=>if pos<s.size then some (.tp [.sc (.bool true),.sc (.int .i64 pos),.sc (.int .i32 (Utf8.decode s pos).1)],h.set id (.iter s (pos+(Utf8.decode s pos).2)))else some (.tp [.sc (.bool false)],h)
   |_=>none
  |_=>none
 |
  .panic x=>match e x with
  | .sc (.iface t v)=>some (.pn (.iface t v),h)
  |_=>none
 |
  .call {callee:= .value f,args,.. }=>match e f with
  | .fn g nM=>if C.ext g then(iu C e o).map λy=>(y,h)else call g (args.toList.map e++nM) h
  |_=>none
 |
  .call {callee:= .builtin .append,args,argTypes}=>match args.toList,argTypes.toList with
  | [s,x],[t,t']=>if t=t' then fg C h t (e s) (e x)else zJ C h t t' (e s) (e x)
  |_,_=>none
 |
  .call {callee:= .builtin .copy,args,argTypes}=>match args.toList,argTypes.toList with
  | [s,x],[t,t']=>if t=t' then P6 C h t (e s) (e x)else none
  |_,_=>none
 |
  .call {callee:= .builtin .clear,args,argTypes}=>match args.toList,argTypes.toList with
  | [x],[t]=>D7 C h t (e x)
  |_,_=>none
 |
  .call {callee:= .builtin .delete,args,argTypes}=>match args.toList,argTypes.toList with
  |
   [m,k],[t,_]=>match e m,e k with
   |
    .mp id,.sc (.string s)=>if pd C t then(match h[id]? with
    |some (.map es clock)=>if es.all pe then(match mY s es 0 with
     |some i=>some (.tp [],h.set id (.map (es.eraseIdx i) clock))
     |none=>some (.tp [],h.set id (.map es clock)))else none
    |_=>none)else none
   |_,_=>none
  |_,_=>none
 |
  .call {callee:= .builtin .len,args,argTypes}=>match args.toList,argTypes.toList with
  |
   [x],[t]=>match tD (e x),C.T t with
   |some n,some {kd:= .slice ..,.. }=>some (.sc (.int .i64 n),h)
   |_,_=>(iu C e o).map λy=>(y,h)
  |_,_=>none
 |_=>(iu C e o).map λy=>(y,h)
def qj(C:Cx)(call:lu)(e:Operand->AV)(h:Hp)(o:Oper):Option (AV × Hp):=
 if C.pb o then lY C e h o else yB C call e h o
def jd(ops:Array Oper)(fr:List AV)(o:Oper):Option Bool:=
 match o.guard with
 |none=>some true
 |some (j,w)=>match(ops[j]?).bind (·.dst)with
  |none=>some false
  |some d=>match fr[d]? with
   |some (.sc (.bool b))=>some (b==w)
   |some .un=>some false
   |_=>none
def ql(o:Oper)(fr:List AV)(v:AV):List AV:=match o.dst with|some d=>fr.set d v|none=>fr
abbrev St :=List AV × Hp
def step1(C:Cx)(call:lu)(ops:Array Oper)(o:Oper)(s:St):Option St:=
 match jd ops s.1 o with
 |some true=>match qj C call (ev C s.1) s.2 o with
  |some (.pn _,_)=>none
  |some (v,h)=>some (ql o s.1 v,h)
  |none=>none
 |some false=>some (ql o s.1 .un,s.2)
 |none=>none
def dG(C:Cx)(call:lu)(ops:Array Oper):List Oper->St->Option St
 | [],s=>some s
 |
  o::rest,s=>match step1 C call ops o s with
  |some s'=>dG C call ops rest s'
  |none=>none
def P_(acc:List Nat)(o:Oper):Nat:=o.after.toList.foldl (λs e=>if Region.binds .any e then s|||2^e.on|||acc.getD e.on 0 else s) 0
def kN :List Oper->List Nat->List Nat
 | [],acc=>acc
 |o::rest,acc=>kN rest (acc++[P_ acc o])
def zN(C:Cx)(o:Oper):Bool:=
 match o.op with
 | .move _| .assign _| .pick .. | .build .. | .load .. | .nilCheck _| .fieldAddr .. | .indexAddr .. | .field .. | .index .. | .extract .. | .slice .. | .binOp .. | .unOp .. | .makeInterface .. | .typeAssert .. | .lookup .. =>false
 | .convert src dst _=>isStr C src && zM C dst
 | .makeFunc (.func _) _ _=>false
 | .call {callee:= .builtin .len,.. }| .call {callee:= .builtin .min,.. }| .call {callee:= .builtin .max,.. }=>false
 | .call {callee:= .value (.func g),.. }=>C.inl g
 |_=>true
def dz(C:Cx)(o:Oper):Bool:= !C.pb o && zN C o
def zO(C:Cx)(o:Oper):Bool:=
 match o.op with
 | .move _| .assign _| .pick .. | .build .. | .nilCheck _| .fieldAddr .. | .indexAddr .. | .field .. | .index .. | .extract .. | .slice .. | .binOp .. | .unOp .. | .makeInterface .. | .typeAssert .. =>false
 | .convert src dst _=>(isStr C src && zM C dst)||(isStr C dst && zM C src)
 | .makeFunc (.func _) _ _=>false
 | .call {callee:= .builtin .len,.. }| .call {callee:= .builtin .min,.. }| .call {callee:= .builtin .max,.. }=>false
 |_=>true
def oF(C:Cx)(o:Oper):Bool:=C.pb o||zO C o
def ordered(ms:List Nat)(i j:Nat):Bool:=if i<j then(ms.getD j 0).testBit i else(ms.getD i 0).testBit j
def eqV :Value->Value->Bool
 | .bool a,.bool b=>a==b
 | .int k a,.int j b=>decide (k=j) && decide (a=b)
 | .string a,.string b=>a==b
 | .pointer none,.pointer none=>true
 | .slice none 0 0,.slice none 0 0=>true
 | .map none,.map none=>true
 | .nilFunc,.nilFunc=>true
 | .nilIface,.nilIface=>true
 |_,_=>false
mutual
def tE :AV->AV->Bool
 | .sc v,.sc u=>eqV v u
 | .sl a b c d k,.sl a' b' c' d' k'=>decide (a=a') && decide (b=b') && decide (c=c') && decide (d=d') && (k==k')
 | .pt a b,.pt a' b'=>decide (a=a') && decide (b=b')
 | .mp a,.mp a'=>decide (a=a')
 | .ls sz cq z,.ls oG rows' z'=>decide (sz=oG) && (z==z') && Qa cq rows'
 | .rp row j,.rp agC j'=>decide (j=j') && B5 row agC
 | .fn f xs,.fn f' xs'=>decide (f=f') && B5 xs xs'
 | .ag xs,.ag ys=>B5 xs ys
 | .tp xs,.tp ys=>B5 xs ys
 |_,_=>false
def B5 :List AV->List AV->Bool
 | [],[]=>true
 |x::xs,y::ys=>tE x y && B5 xs ys
 |_,_=>false
def Qa :List (List AV)->List (List AV)->Bool
 | [],[]=>true
 |x::xs,y::ys=>B5 x y && Qa xs ys
 |_,_=>false
end
def j_(C:Cx)(call:lu)(ops:Array Oper):List Oper->St->Option (List St)
 | [],s=>some [s]
 |
  o::rest,s=>match step1 C call ops o s with
  |some s'=>(j_ C call ops rest s').map (s:: ·)
  |none=>none
def cc(C:Cx)(ops:Array Oper)(m:Nat):Nat:=((ops.toList.take m).filter (dz C)).length
def D8(C:Cx)(ops:Array Oper)(i:Nat):Bool:=match ops[i]? with|some o=>dz C o|none=>false
def zP(C:Cx)(ops:Array Oper):Nat:=(List.range ops.size).foldl (λs i=>cond (D8 C ops i) (s|||2^i) s) 0
def adr(C:Cx)(ops:Array Oper)(ms:List Nat)(j:Nat):Nat:=cond (Nat.beq (ms.getD j 0 &&& zP C ops) 0) 0 (Nat.log2 (ms.getD j 0 &&& zP C ops)+1)
def ads(C:Cx)(ops:Array Oper)(ms:List Nat)(j:Nat):Nat:=((List.range ops.size).find? λi=>D8 C ops i && (ms.getD i 0).testBit j).getD ops.size
def wT(C:Cx)(ops:Array Oper)(ms:List Nat)(j m:Nat):Bool:=Nat.ble (adr C ops ms j) m && Nat.ble m (ads C ops ms j)
def nP(C:Cx)(ops:Array Oper)(m:Nat):Bool:=m==0||(match ops[m-1]? with|some o'=>dz C o'|none=>false)
def needs(C:Cx)(ops:Array Oper):List (Nat × Nat):=
 (List.range ops.size).flatMap λj=>match ops[j]? with
  |some o=>if dz C o|| !oF C o then[]else
   (List.range (ops.size+1)).filterMap λm=>if !nP C ops m|| !wT C ops (kN ops.toList []) j m||Nat.beq (cc C ops m) (cc C ops j)then none else some (j,m)
  |none=> []
def sameAt(C:Cx)(call:lu)(ops:Array Oper)(tT:List St)(q:Nat × Nat):Bool:=
 match ops[q.1]?,tT[q.1]? with
 |some o,some sj=>(match jd ops sj.1 o with
  |some true=>(match tT[q.2]?,qj C call (ev C sj.1) sj.2 o with
   |some sm,some (v,_)=>(match qj C call (ev C sj.1) sm.2 o with|some (v',_)=>tE v' v|none=>false)
   |_,_=>false)
  |_=>true)
 |_,_=>false
inductive Out where
 |normal
 |exit (id:Nat)
 |ret
 |wU (v:Value)
def dV(C:Cx)(call:lu)(ops:Array Oper):List Oper->St->Option (Out × St)
 | [],s=>some (.normal,s)
 |
  o::rest,s=>match step1 C call ops o s with
  |some s'=>dV C call ops rest s'
  |
   none=>match jd ops s.1 o with
   |some true=>match qj C call (ev C s.1) s.2 o with
    |some (.pn v,h)=>some (.wU v,(s.1,h))
    |_=>none
   |_=>none
def adt(C:Cx)(ops:Array Oper):Bool:=ops.toList.any λo=>match o.op with| .call {callee:= .value (.func g),.. }=>C.thr g|_=>false
def stops(C:Cx)(call:lu)(ops:Array Oper):List Oper->St->Nat
 | [],_=>0
 |
  o::rest,s=>match step1 C call ops o s with
  |some s'=>stops C call ops rest s'+1
  |none=>0
def KW(ops:Array Oper)(J:Nat):List (Oper × Bool):=(ops.toList.zipIdx.drop (J+1)).map λp=>(p.1,((kN ops.toList []).getD p.2 0).testBit J)
def KX(l:List (Oper × Bool)):List Oper:=(l.filter λp=> !p.2).map (·.1)
def ZK(ops:List Oper)(fr:List AV):List AV:=ops.foldl (λf o=>ql o f .ud) fr
def aaN(C:Cx)(call:lu)(ops:Array Oper)(J:Nat)(s:St):Option (Out × St):=
 match ops[J]?,dG C call ops (ops.toList.take J) s with
 |some o,some sj=>if dz C o && (needs C ops).all (λq=>decide (J<q.2))then(match jd ops sj.1 o with
  |some true=>(match qj C call (ev C sj.1) sj.2 o with
   |some (.pn v,h)=>(match dG C call ops (KX (KW ops J)) sj with
    |some _=>some (.wU v,(ZK ops.toList s.1,h))
    |none=>none)
   |_=>none)
  |_=>none)else none
 |_,_=>none
def aaO(C:Cx)(call:lu)(ops:Array Oper)(s:St):Option (Out × St):=
 if adt C ops then aaN C call ops (stops C call ops ops.toList s) s else none
def vt(body:St->Option (Out × St)):Nat->St->Option (Out × St)
 |0,_=>none
 |
  n+1,s=>match body s with
  |some (.normal,s')=>vt body n s'
  |r=>r
def exec(C:Cx)(call:Bool->lu):Code->St->Option (Out × St)
 | .skip,s=>some (.normal,s)
 | .label _,s=>some (.normal,s)
 |
  .region _ ops mixed,s=>if mixed then(match j_ C (call false) ops ops.toList s with
  |some tT=>if(needs C ops).all (sameAt C (call false) ops tT)then(tT[ops.size]?).map λs'=>(.normal,s')else none
  |none=>aaO C (call false) ops s)else dV C (call true) ops ops.toList s
 |
  .seq a b,s=>match exec C call a s with
  |some (.normal,s')=>exec C call b s'
  |r=>r
 |
  .cond c a b,s=>match ev C s.1 c with
  | .sc (.bool true)=>exec C call a s
  | .sc (.bool false)=>exec C call b s
  |_=>none
 |
  .block id c,s=>match exec C call c s with
  |some (.exit i,s')=>some (if i=id then .normal else .exit i,s')
  |r=>r
 | .loop c,s=>vt (exec C call c) C.fuel s
 | .exit id,s=>some (.exit id,s)
 | .ret,s=>some (.ret,s)
 |_,_=>none
def sT :AV->Bool
 | .sc _=>true
 | .tp xs=>xs.all Vl
 |_=>false
def vu(s:St):Rv->Option AV
 | .tmp t=>some (s.1.getD t .ud)
 |
  .cell a sz agg=>match s.1.getD a .ud with
  |
   .pt id off=>match gu s.2 id with
   |some cs=>part agg off sz cs
   |none=>none
  |_=>none
def pE(fi:Fi)(s:St):Option AV:=
 match fi.res with
 | [t]=>vu s t
 |ts=>(ts.mapM (vu s)).map .tp
def oH(C:Cx)(call:Bool->lu)(f:FuncId)(args:List AV)(h:Hp):Option (AV × Hp):=
 match C.F f with
 |some fi=>if args.length<=fi.ntmps then
  match exec C call fi.body (args++List.replicate (fi.ntmps-args.length) .un,h)with
  |some (.normal,s)=>(pE fi s).map λr=>(r,s.2)
  |some (.ret,s)=>(pE fi s).map λr=>(r,s.2)
  |some (.wU v,s)=>some (.pn v,s.2)
  |_=>none
  else none
 |none=>none
def D9(C:Cx):Code->Option (Tmp × Operand × TypeId × Code)
 |
  .seq (.region _ ops false) rest=>match ops.toList with
  |
   [{op:= .makeFunc (.func g) first nM,dst:=some d,guard:=none,.. },{op:= .defer {callee:= .value (.tmp d'),args,.. },guard:=none,dst:=none,.. }]=>
   match C.MC g,nM.toList with
   |some T,[x]=>if d=d' && first.isEmpty && args.isEmpty then some (d,x,T,rest)else none
   |_,_=>none
  |_=>none
 |_=>none
def qm(C:Cx):Code->Option (List Code × Tmp × Operand × TypeId × Code)
 |
  .seq a b=>match D9 C b with
  |some (d,x,T,rest)=>some ([a],d,x,T,rest)
  |
   none=>match qm C b with
   |some (pre,d,x,T,rest)=>some (a::pre,d,x,T,rest)
   |none=>none
 |_=>none
def FV(C:Cx)(call:Bool->lu):List Code->St->Option (Out × St)
 | [],s=>some (.normal,s)
 |
  c::cs,s=>match exec C call c s with
  |some (.normal,s')=>FV C call cs s'
  |r=>r
def Qb(C:Cx)(call:Bool->lu)(f:FuncId)(args:List AV)(h:Hp):Option (AV × Hp):=
 match C.F f with
 |some fi=>if args.length<=fi.ntmps then
  match qm C fi.body with
  |some (pre,d,x,T,rest)=>match FV C call pre (args++List.replicate (fi.ntmps-args.length) .un,h)with
   |some (.ret,s)=>(pE fi s).map λr=>(r,s.2)
   |some (.normal,s)=>match ev C s.1 x with
    |
     .pt id 0=>if d<s.1.length then match exec C call rest (s.1.set d .ud,s.2)with
     |some (.normal,s')=>(pE fi s').map λr=>(r,s'.2)
     |some (.ret,s')=>(pE fi s').map λr=>(r,s'.2)
     |some (.wU (.iface T' (.int k n)),s')=>match s'.2[id]? with
      |some (.row [_])=>if T=T' then(pE fi (s'.1,s'.2.set id (.row [.sc (.int k n)]))).map λr=>(r,s'.2.set id (.row [.sc (.int k n)]))else none
      |_=>none
     |_=>none
     else none
    |_=>none
   |_=>none
  |none=>none
  else none
 |none=>none
def KY(es:List (Value × AV)):Option (List ByteArray):=es.mapM λe=>match e.1 with| .string s=>some s|_=>none
def leS(x y:ByteArray):Bool:=decide (x.data.toList<=y.data.toList)
def D_(x:ByteArray):List ByteArray->List ByteArray
 | []=> [x]
 |y::l=>if leS x y then x::y::l else y::D_ x l
def kZ :List ByteArray->Bool
 | []=>true
 |x::l=> !(l.any λy=>x==y) && kZ l
def oI(l:List ByteArray):List ByteArray:=l.foldr D_ []
def qo(h:Hp)(g:FuncId):List AV->Option (AV × Hp)
 |
  [.fn g' [.pt b 0]]=>if g=g' then(match h[b]? with
  |some (.row [.mp id])=>match h[id]? with
   |some (.map es _)=>match KY es with
    |some []=>some (.sc (.slice none 0 0),h)
    |some ks=>if !(kZ ks && ks.all λs=>decide (s.size<=maxLen))||decide (1000000<ks.length)then none else some (.sl h.length 1 0 ks.length false,h++[.row ((oI ks).map λs=> .sc (.string s))])
    |none=>none
   |_=>none
  |_=>none)else none
 |_=>none
def reach(h:Hp):Nat->AV->List Nat
 |0,_=> []
 |n+1,.sl id _ _ _ _=>id::((gu h id).getD []).flatMap (reach h n)
 |n+1,.pt id _=>id::((gu h id).getD []).flatMap (reach h n)
 |n+1,.ag xs=>xs.flatMap (reach h n)
 |n+1,.tp xs=>xs.flatMap (reach h n)
 |n+1,.fn _ xs=>xs.flatMap (reach h n)
 |_,_=> []
noncomputable def lZ(m:Nat)(cf:Nat->Nat->Int):List (Fin (m+1)):=(Sort.pdq (λi j:Fin (m+1)=>decide (cf i.1 j.1<0)) (Array.ofFn λi=>i) 0 (m+1) (Lib.bitLen (m+1)) true true).toList
noncomputable def Qc(m:Nat)(cf:Nat->Nat->Int):List (Fin (m+1)):=if m=0 then List.ofFn λi=>i else if h:m=1 then(if cf 1 0<0 then[⟨1,by omega⟩,⟨0,by omega⟩]else[⟨0,by omega⟩,⟨1,by omega⟩])else lZ m cf
def Ea(m:Nat)(cf:Nat->Nat->Int):Prop:=Sort.SWO (λi j:Fin (m+1)=>decide (cf i.1 j.1<0))
def rowAt(sz off:Nat)(cs:List AV)(i:Nat):List AV:=(cs.drop (off+i*sz)).take sz
def qp(call:lu)(g:FuncId)(ss:List AV)(i j:Nat):Int:=
 match call g [ss.getD i .ud,ss.getD j .ud] []with
 |some (.sc (.int .i64 c),_)=>c
 |_=>0
def KZ(call:lu)(g:FuncId)(ss:List AV)(m:Nat):Prop:=
 (∀i j,i<=m->j<=m->∃h',call g [ss.getD i .ud,ss.getD j .ud] []=some (.sc (.int .i64 (qp call g ss i j)),h'))/\Ea m (qp call g ss)
def nc(k:Nat):Nat:=if k=0 then 1 else k
def MD(k:Nat)(cs:List AV):AV:=if k=0 then cs.headD .ud else .ag cs
def vv(k:Nat)(vs:List Value):Value:=if k=0 then vs.headD undef else .agg vs.toArray
open Classical in
noncomputable def ME(call:lu)(g:FuncId)(ss:List AV)(m:Nat):Bool:=
 if m=0 then(match call g [ss.getD 0 .ud,ss.getD 0 .ud] []with|some (.sc (.int .i64 c),_)=>decide (0<=c)|_=>false)
 else if m=1 then(match call g [ss.getD 0 .ud,ss.getD 0 .ud] [],call g [ss.getD 0 .ud,ss.getD 1 .ud] [],call g [ss.getD 1 .ud,ss.getD 0 .ud] [],call g [ss.getD 1 .ud,ss.getD 1 .ud] []with
  |some (.sc (.int .i64 a),_),some (.sc (.int .i64 b),_),some (.sc (.int .i64 c),_),some (.sc (.int .i64 d),_)=>decide (0<=a) && decide (0<=d) && !(decide (b<0) && decide (c<0))
  |_,_,_,_=>false)
 else decide (KZ call g ss m)
noncomputable def MF(call:lu)(k:Nat)(h:Hp):List AV->Option (AV × Hp)
 | [.sc (.slice none 0 0),.fn _ []]=>some (.tp [],h)
 | [.ls _ [] _,.fn _ []]=>some (.tp [],h)
 |
  [.sl id s off len _,.fn g []]=>match h[id]?,len with
  |some (.row _),0=>some (.tp [],h)
  |some (.row cs),m+1=>if s=nc k/\off+(m+1)*s<=cs.length/\m+1<4611686018427387904 then
   (match(List.range (m+1)).mapM λi=>da (h.set id .dead) 8 (MD k (rowAt s off cs i))with
   |some ss=>if ME call g ss m then some (.tp [],h.set id (.row (cs.take off++(Qc m (qp call g ss)).flatMap (λi=>rowAt s off cs i.1)++cs.drop (off+(m+1)*s))))else none
   |none=>none)else none
  |_,_=>none
 |_=>none
noncomputable def adu(C:Cx)(f:FuncId)(call:lu)(sz bytes:Nat)(h:Hp)(xs:List AV):Option (AV × Hp):=if bytes=0 then MF call sz h xs else none
noncomputable def cu(C:Cx):Nat->Bool->lu
 |0,_,_,_,_=>none
 |
  n+1,b,f,args,h=>
  match C.vc f with
  |some (g,_)=>if C.inl f then qo h g args else none
  |none=>
  if C.inl f then(match C.ins f with
   |some (sz,bytes)=>adu C f (cu C n false) sz bytes h args
   |
    none=>match(if args.all calm then C.BZ f args else none)with
    |some r=>some (r,h)
    |
     none=>match C.F f with
     |some fi=>(match qm C fi.body with|some _=>Qb C (cu C n) f args h|none=>oH C (cu C n) f args h)
     |none=>none)
  else
   match args.mapM (da h 8)with
   |some as=>
    let r:=match C.BZ f as with
     |some r=>some r
     |
      none=>match oH C (cu C n) f as []with
      |some (r,h')=>(da h' 8 r).map (C.nf f)
      |none=>none
    match r with
    |some r=>if args.all calm||sT r then some (r,h)else if b && (args.mapM (da (mask (args.flatMap (reach h 8)) h) 8)).isSome then(freeze (args.flatMap (reach h 8)) h).map λh'=>(r,h')else none
    |none=>none
   |none=>none
def rh :TypeDesc->Bool
 | .struct _| .array .. =>true
 |_=>false
def FW(P:Program)(d:TypeDesc):Option Kd:=
 match d with
 | .struct fs=>(fs.toList.mapM λ(f:Field)=>match P.info? f.type,P.underlying f.type with|some fi,some fd=>some (f.offset,fi.size,rh fd)|_,_=>none).map .struct
 |
  .slice e=>match P.info? e,P.underlying e with
  |some ei,some ed=>match ei.zero with
   |some ez=>if ez.cells.toList.all lr && ez.cells.size==ei.size && ei.size !=0 then some (.slice ei.size (rh ed) ei.bytes ez.cells.toList)else none
   |none=>none
  |_,_=>none
 |
  .array n e=>match P.info? e,P.underlying e with
  |some ei,some ed=>some (.array n ei.size (rh ed))
  |_,_=>none
 |_=>some .BX
def ir(P:Program)(t:TypeId):Option Ti:=
 match P.underlying t,P.info? t with
 |some d,some i=>match i.zero,FW P d with
  |some z,some kd=>if z.cells.toList.all lr && z.cells.size==i.size then some {size:=i.size,agg:=rh d,zero:=z.cells.toList,kd:=kd}else none
  |_,_=>none
 |_,_=>none
def I5(P:Program)(f:FuncId):Option Fi:=
 match P.funcs[f]? with
 |some fn=>match fn.body with
  |some c=>(fn.results.toList.mapM λ(r:ResultVar)=>match r with
   | .tmp t=>some (Rv.tmp t)
   | .cell a t=>match P.info? t,P.underlying t with|some i,some d=>some (Rv.cell a i.size (rh d))|_,_=>none).map λres=>{ntmps:=fn.ntmps,body:=c,res:=res}
  |none=>none
 |none=>none
end Go.Ae
