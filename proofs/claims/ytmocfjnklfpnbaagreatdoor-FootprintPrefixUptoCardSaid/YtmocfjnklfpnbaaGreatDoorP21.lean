/- Slices under construction: append by append. -/
import Derived.Test.YtmocfjnklfpnbaaGreatDoorP20
import Derived.Test.YtmocfjnklfpnbaaGreatDoorP13
import Derived.Lib.ItoaNum
import Derived.Test.YtmocfjnklfpnbaaGreatDoorP11
import Derived.Test.YtmocfjnklfpnbaaGreatDoorP19
import Derived.Test.YtmocfjnklfpnbaaGreatDoorP17
import Derived.Test.YtmocfjnklfpnbaaGreatDoorP14
set_option linter.all false
set_option maxRecDepth 100000
namespace Go.Proofs.YtmocfjnklfpnbaaGreatDoor
open Go Go.Ae
section
attribute [local simp] aop aopW coldF extF putA ofConst flat scalarOp fastOp binFast intOp strOp guardX Ae.part rowOf szOk natOf lenA cls fillA splice newsOf isNilC cellX
set_option maxHeartbeats 8000000
def Bld (h:Hp)(sz:Nat)(rows:List (List AV))(x:AV):Prop:=(rows=[]∧x= .sc (.slice none 0 0))∨(rows≠ []∧∃id,x= .sl id sz 0 rows.length false∧h[id]?=some (.row rows.flatten))
theorem Bld.np {h:Hp}{sz:Nat}{rows:List (List AV)}{x:AV}(hx:Bld h sz rows x)(v:Value):x≠ .pn v:=by
 rcases hx with⟨_,rfl⟩|⟨_,id,rfl,_⟩<;>simp
theorem bld_app' {t:TypeId}{i:Ti}{sz bytes:Nat}{ag:Bool}{ez:List Value}(hT:cx.T t=some i)(hk:i.kd= .slice sz ag bytes ez)(h:Hp)(c:List AV)(rows:List (List AV))(x:AV)(hx:Bld h sz rows x)(hc:c.length=sz)(hr:∀r∈rows,r.length=sz)(hsz:0<sz)(hn:rows.length≤1000000000)(hb:bytes≤1000):
 ∃id h',appendA cx (h++[.row c]) t x (.sl h.length sz 0 1 false)=some (.sl id sz 0 (rows.length+1) false,h')∧h'[id]?=some (.row (rows++[c]).flatten)∧
  (∀j b,h[j]?=some b→(∀k n,x= .sl k sz 0 n false→j≠k)→h'[j]?=some b)∧h.length≤id:=by
 rcases hx with⟨rfl,rfl⟩|⟨hne,id,rfl,hid⟩
 ·refine⟨_,_,app_nil hT hk h c hc hb,?_,fun j b hj _=>?_,by omega⟩
  ·rw[show h++[Blk.row c,Blk.row c]=(h++[Blk.row c])++[Blk.row c] by simp,Zf (by simp)];simp
  ·have:=(Za.1 hj).1;rw[Zd this];exact hj
 ·have hfl:rows.flatten.length=rows.length*sz:=flatten_length rows hr;have hby:(rows.length+1)*bytes≤140737488355328:=by
   have:=Nat.mul_le_mul (show rows.length+1≤1000000001 by omega) hb;omega
  refine⟨_,_,app_own hT hk h c rows.flatten id rows.length hid hc hfl hsz (by omega) hby,?_,fun j b hj hjk=>?_,by omega⟩
  ·rw[Zf (by simp)];simp
  ·have hjl:=(Za.1 hj).1;have hjn:j≠id:=hjk id _ rfl;rw[Zd (by simp;omega),Zq (fun e=>hjn e.symm),Zd hjl];exact hj
theorem bld_of {h:Hp}{sz:Nat}{rows:List (List AV)}{c:List AV}{id:Nat}(hid:h[id]?=some (.row (rows++[c]).flatten)):Bld h sz (rows++[c]) (.sl id sz 0 (rows.length+1) false):=
 .inr ⟨by simp,id,by simp,hid⟩
def bldV (sz:Nat)(rows:List (List AV)):AV:=if rows.isEmpty then .sc (.slice none 0 0)else .ls sz rows false
theorem calm_bldV (sz:Nat)(rows:List (List AV)):calm (bldV sz rows)=true:=by unfold bldV;split<;>rfl
theorem chunk_flat {sz:Nat}(hsz:0<sz):∀(rows:List (List AV)),(∀r∈rows,r.length=sz)→(List.range rows.length).map (fun i=>(rows.flatten.drop (i*sz)).take sz)=rows
 | [],_=>rfl
 |
  r::rows,h=>by
  have hr:=h r (by simp);have ih:=chunk_flat hsz rows fun x hx=>h x (by simp[hx])
  rw[List.length_cons,List.range_succ_eq_map,List.map_cons,List.map_map]
  congr 1
  ·simp[←hr]
  ·refine Eq.trans (List.map_congr_left fun i _=>?_) ih;simp only[Function.comp_apply,List.flatten_cons,Nat.succ_eq_add_one,Nat.add_mul,Nat.one_mul];rw[Nat.add_comm,←List.drop_drop,←hr,List.drop_left]
def calm1 :AV→Bool
 | .sc _| .ls .. | .rp .. =>true
 |_=>false
@[simp] theorem calm1_sc (v:Value):calm1 (.sc v)=true:=rfl
@[simp] theorem calm1_ls (sz:Nat)(rows:List (List AV))(z:Bool):calm1 (.ls sz rows z)=true:=rfl
theorem snap_calm1 {h:Hp}{n:Nat}{x:AV}(hx:calm1 x=true):snap h n x=some x:=by
 cases x<;>simp[calm1]at hx<;>simp[snap]
theorem mapM_calm1 {h:Hp}{n:Nat}:∀{xs:List AV},xs.all calm1=true→xs.mapM (snap h n)=some xs
 | [],_=>rfl
 |
  x::xs,hx=>by
  rw[Zn,Zh]at hx;rw[Zo,snap_calm1 hx.1,mapM_calm1 hx.2];rfl
theorem snap_flat {h:Hp}{n id sz:Nat}{rows:List (List AV)}{cs:List AV}(hsz:0<sz)(hr:∀r∈rows,r.length=sz)(hc:rows.flatten.all calm1=true)(hid:rowOf h id=some cs)(htk:cs.take (rows.length*sz)=rows.flatten)(hle:rows.length*sz≤cs.length):snap h (n+1) (.sl id sz 0 rows.length false)=some (.ls sz rows false):=by
 simp only[snap,hid,Nat.zero_add,Yf,if_pos hle,htk,mapM_calm1 hc,Option.map_some,chunk_flat hsz rows hr]
theorem bld_snap {h:Hp}{n sz:Nat}{rows:List (List AV)}{x:AV}(hsz:0<sz)(hr:∀r∈rows,r.length=sz)(hc:rows.flatten.all calm1=true)(hx:Bld h sz rows x):snap h (n+1) x=some (bldV sz rows):=by
 rcases hx with⟨rfl,rfl⟩|⟨hne,id,rfl,hid⟩
 ·rfl
 ·have hfl:rows.flatten.length=rows.length*sz:=flatten_length rows hr;rw[snap_flat hsz hr hc (rowOf_row hid) (by rw[List.take_of_length_le (by omega)]) (by omega)];unfold bldV;cases rows with
  |nil=>exact absurd rfl hne
  |cons r rows=>rfl
theorem nfS_bld (sz:Nat)(rows:List (List AV)):nfS sz (bldV sz rows)= .ls sz rows false:=by
 unfold bldV;cases rows with
 |nil=>rfl
 |cons r rows=>simp[nfS]
theorem calm1_rows {rows:List (List AV)}(h:∀r∈rows,r.all calm1=true):rows.flatten.all calm1=true:=by
 induction rows with
 |nil=>rfl
 |cons r rows ih=>rw[List.flatten_cons,List.all_append,h r (by simp),ih fun x hx=>h x (by simp[hx])];rfl
theorem tsR_all (l:List ByteArray):(∀r∈tsR l,r.length=1)∧(tsR l).flatten.all calm1=true:=
 ⟨fun r hr=>by obtain⟨c,_,rfl⟩:=Yh.1 hr;rfl,calm1_rows fun r hr=>by obtain⟨c,_,rfl⟩:=Yh.1 hr;rfl⟩
set_option maxHeartbeats 16000000
@[simp] theorem encR_get0 (c:Prp)(h:0< (encR c).length):(encR c)[0]'h= .sc (.string c.key):=rfl
attribute [local simp] encR_take
def bn :Bool→Nat
 |true=>0
 |false=>1
set_option maxHeartbeats 8000000
inductive Tg where
 |none
 |box
 |nodes
 |edges
 |lab (n:Int)
 |prop (n:Int)
 |eprop (n:Int)
def OwnL (h:Hp)(tag:Nat→Tg)(tg:Tg)(sz:Nat)(rows:List (List AV))(x:AV):Prop:=
 (rows=[]∧(x= .ls sz [] true∨x= .sc (.slice none 0 0)))∨∃id cs,x= .sl id sz 0 rows.length false∧h[id]?=some (.row cs)∧cs.take (rows.length*sz)=rows.flatten∧rows.length*sz≤cs.length∧tag id=tg
def RepN (h:Hp)(tag:Nat→Tg)(n:Nd)(row:List AV):Prop:=∃L P,row=[.sc (.int .i64 n.id),L,P]∧OwnL h tag (.lab n.id) 1 (tsR n.labels) L∧OwnL h tag (.prop n.id) 6 (prR n.props) P
def RepE (h:Hp)(tag:Nat→Tg)(e:Ed)(row:List AV):Prop:=∃P,row=[.sc (.int .i64 e.id),.sc (.int .i64 e.src),.sc (.int .i64 e.dst),.sc (.string e.type),P]∧OwnL h tag (.eprop e.id) 6 (prR e.props) P
def AllR {α:Type}(R:α→List AV→Prop)(l:List α)(rows:List (List AV)):Prop:=rows.length=l.length∧∀(i:Nat) (a:α) (r:List AV),l[i]?=some a→rows[i]?=some r→R a r
structure RepG (h:Hp)(tag:Nat→Tg)(E:Nat)(g:Gr)(N V:AV)(nrows erows:List (List AV)):Prop where
 box:h[E]?=some (.row [N,V,.sc (.int .i64 g.nn),.sc (.int .i64 g.ne)])
 tb:tag E= .box
 ns:OwnL h tag .nodes 3 nrows N
 es:OwnL h tag .edges 5 erows V
 na:AllR (RepN h tag) g.nodes nrows
 ea:AllR (RepE h tag) g.edges erows
def Frm (h:Hp)(tag:Nat→Tg)(h':Hp)(tag':Nat→Tg)(S:Tg→Prop):Prop:=∀id b,h[id]?=some b→¬S (tag id)→h'[id]?=some b∧tag' id=tag id
theorem AllR.imp {α:Type}{R R':α→List AV→Prop}{l:List α}{rows:List (List AV)}(h:AllR R l rows)(k:∀a∈l,∀r,R a r→R' a r):AllR R' l rows:=
 ⟨h.1,fun i a r ha hr=>k a (Zi ha) r (h.2 i a r ha hr)⟩
theorem Frm.refl (h:Hp)(tag:Nat→Tg)(S:Tg→Prop):Frm h tag h tag S:=fun _ _ h1 _=>⟨h1,rfl⟩
theorem Frm.trans {h h1 h2:Hp}{t t1 t2:Nat→Tg}{S S1 S2:Tg→Prop}(a:Frm h t h1 t1 S)(b:Frm h1 t1 h2 t2 S1)(k:∀x,S x→S2 x)(k1:∀x,S1 x→S2 x):Frm h t h2 t2 S2:=fun id bl h0 hs=>by
 obtain⟨e1,e2⟩:=a id bl h0 (fun q=>hs (k _ q));obtain⟨e3,e4⟩:=b id bl e1 (fun q=>hs (by rw[e2]at q;exact k1 _ q));exact⟨e3,e4.trans e2⟩
def tagU (tag:Nat→Tg)(i:Nat)(t:Tg):Nat→Tg:=fun j=>if j=i then t else tag j
theorem Frm.push (h:Hp)(tag:Nat→Tg)(b:Blk)(t:Tg)(S:Tg→Prop):Frm h tag (h++[b]) (tagU tag h.length t) S:=fun id bl h1 _=>by
 have hl:=(Za.1 h1).1;exact⟨by rw[Zd hl];exact h1,by unfold tagU;rw[if_neg (by omega)]⟩
theorem Frm.set (h:Hp)(tag:Nat→Tg)(i:Nat)(b:Blk){S:Tg→Prop}(hs:S (tag i)):Frm h tag (h.set i b) tag S:=fun id bl h1 k=>by
 have:i≠id:=fun e=>k (e▸hs)
 exact⟨by rw[Zq this];exact h1,rfl⟩
theorem OwnL.snap {h:Hp}{tag:Nat→Tg}{tg:Tg}{sz n:Nat}{rows rows':List (List AV)}{x:AV}(hsz:0<sz)(hr:∀r∈rows',r.length=sz)(ho:OwnL h tag tg sz rows x)(hl:rows'.length=rows.length)(hm:rows.flatten.mapM (snap h n)=some rows'.flatten):
 ∃y,snap h (n+1) x=some y∧nfS sz y= .ls sz rows' false:=by
 rcases ho with⟨rfl,rfl|rfl⟩|⟨id,cs,rfl,h1,h2,h3,h4⟩
 ·have:rows'=[]:=Zl (by simpa using hl);subst this;exact⟨_,rfl,by simp[nfS]⟩
 ·have:rows'=[]:=Zl (by simpa using hl);subst this;exact⟨_,rfl,by simp[nfS]⟩
 ·refine⟨.ls sz rows' false,?_,by simp[nfS]⟩;simp only[Ae.snap,rowOf_row h1,Nat.zero_add,Yf,if_pos h3,h2,hm,Option.map_some];rw[←hl,chunk_flat hsz rows' hr]
set_option maxHeartbeats 16000000
def triS (x:Int):Int:=if x=0 then 0 else if x=2 then 2 else 1
def andS (x y:Int):Int:=if triS y<triS x then triS y else triS x
mutual
def eqV :V→V→Int
 |
  .mk k n d s z l,w=>
  if k=0∨w.k=0∨okT (.mk k n d s z l)=false∨okT w=false then 1
  else if numB (.mk k n d s z l)=true∧numB w=true then yesI (decide (cmpF (numN (.mk k n d s z l)) (numD (.mk k n d s z l)) (numN w) (numD w)=0))
  else if¬k=w.k then 0
  else if k=4 then yesI (eqS s w.s)
  else if¬k=8∧¬k=7 then yesI (decide (n=w.n))
  else if¬l.length=w.l.length then 0 else eqL l w.l 2
def eqL :List V→List V→Int→Int
 | [],_,a=>a
 |
  x::xs,m,a=>match m with
  | []=>a
  |y::ys=>eqL xs ys (andS a (eqV x y))
end
theorem calm_v1 (v:V):calm (.ag (enc v))=true:=by
 cases v;rw[enc];unfold lsV;rename_i z l;cases (z && (encL l).isEmpty)<;>rfl
end
end Go.Proofs.YtmocfjnklfpnbaaGreatDoor
namespace Go.Ae
def digC :Nat→Nat→List UInt8
 |0,u=> [UInt8.ofNat (48+u)]
 |k+1,u=>if u<10 then[UInt8.ofNat (48+u)]else digC k (u/10)++[UInt8.ofNat (48+u % 10)]
def itoaC (n:Int):List UInt8:=if n<0 then 45::digC 20 n.natAbs else digC 20 n.toNat
def i64 (n:Int):Prop:= -9223372036854775808≤n∧n≤9223372036854775807
end Go.Ae
namespace Go.Ae
open List
structure TotC {α:Type}(cmp:α→α→Int):Prop where
 zero:∀a b,cmp a b=0↔a=b
 neg:∀a b,cmp a b<0↔0<cmp b a
 tr:∀a b c,cmp a b<0→cmp b c<0→cmp a c<0
def insV {α:Type}[DecidableEq α](add:Int→Int→Int):List (α × Int)→α→Int→List (α × Int)
 | [],r,n=> [(r,n)]
 |(s,m)::t,r,n=>if s=r then(s,add m n)::t else(s,m)::insV add t r n
variable {α : Type} {cmp : α → α → Int} {add : Int → Int → Int}
def Inc (cmp:α→α→Int)(l:List (α × Int)):Prop:=l.Pairwise fun a b=>cmp a.1 b.1<0
theorem TotC.irr (h:TotC cmp)(a:α):¬cmp a a<0:=by have:=(h.zero a a).2 rfl;omega
theorem Inc.nodup (hc:TotC cmp){l:List (α × Int)}(h:Inc cmp l):(l.map (·.1)).Nodup:=by
 rw[List.Nodup,List.pairwise_map];have g:∀{a b:α × Int},cmp a.1 b.1<0→a.1≠b.1:=fun{a b} q e=>hc.irr b.1 (by rw[e]at q;exact q)
 exact List.Pairwise.imp g h
theorem Inc.le (hc:TotC cmp){l:List (α × Int)}(h:Inc cmp l):l.Pairwise fun a b=>¬cmp b.1 a.1<0:=by
 have g:∀{a b:α × Int},cmp a.1 b.1<0→¬cmp b.1 a.1<0:=fun{a b} q k=>hc.irr a.1 (hc.tr _ _ _ q k)
 exact List.Pairwise.imp g h
end Go.Ae
namespace Go.Proofs.YtmocfjnklfpnbaaGreatDoor
open Go Go.Ae
mutual
def gdV :V→Prop
 | .mk k n d s z l=>i64 k∧i64 n∧i64 d∧s.size≤1000000000000000∧l.length≤1000000000000000∧z=false∧gdL l
def gdL :List V→Prop
 | []=>True
 |x::xs=>gdV x∧gdL xs
end
theorem gdL_mem :∀{l:List V},gdL l→∀x∈l,gdV x
 | [],_,_,h=>by cases h
 |
  y::l,h,x,hx=>by
  rw[gdL]at h;rcases List.mem_cons.1 hx with rfl|e
  ·exact h.1
  ·exact gdL_mem h.2 x e
theorem gd_bd_aux :∀D,(∀v:V,dep v≤D→gdV v→bdV v):=by
 intro D
 induction D with
 |zero=>intro v h;have:=dep_pos v;omega
 |
  succ D ih=>
  intro v hd hg;cases v with
  |
   mk k n d s z l=>
   rw[gdV]at hg;rw[bdV];refine⟨hg.2.2.2.1,hg.2.2.2.2.1,?_⟩;have hm:=gdL_mem hg.2.2.2.2.2.2;have:∀m:List V,(∀x∈m,dep x≤D)→(∀x∈m,gdV x)→bdL m:=by
    intro m
    induction m with
    |nil=>intro _ _;rw[bdL];trivial
    |cons x m ihm=>intro h1 h2;rw[bdL];exact⟨ih x (h1 x (by simp)) (h2 x (by simp)),ihm (fun y hy=>h1 y (List.mem_cons_of_mem _ hy)) fun y hy=>h2 y (List.mem_cons_of_mem _ hy)⟩
   exact this l (fun x hx=>by have:=dep_mem hx;rw[dep]at hd;omega) hm
theorem gd_bd {v:V}(h:gdV v):bdV v:=gd_bd_aux _ v (Nat.le_refl _) h
mutual
def zkV :V→List UInt8
 | .mk k n d s _ l=>itoaC k++44::(itoaC n++44::(itoaC d++44::(itoaC s.size++58::(s.data.toList++(itoaC l.length++91::(zkL l++[93]))))))
def zkL :List V→List UInt8
 | []=> []
 |x::xs=>zkV x++zkL xs
end
abbrev Rw :={l:List V//gdL l}
noncomputable instance : DecidableEq Rw:=fun a b=>Classical.propDecidable (a=b)
@[simp] theorem T_qEx :cx.T 43=some {size:=9,agg:=true,zero:=[.int .i64 (0),.int .i64 (0),.int .i64 (0),.int .i64 (0),.string ⟨#[]⟩,.slice none 0 0,.string ⟨#[]⟩,.bool false,.slice none 0 0],kd:= .struct [(0,1,false),(1,5,true),(6,1,false),(7,1,false),(8,1,false)]}:=by kernel_rfl
@[simp] theorem T_qExs :cx.T 41=some {size:=1,agg:=false,zero:=[.slice none 0 0],kd:= .slice 9 true 120 [.int .i64 (0),.int .i64 (0),.int .i64 (0),.int .i64 (0),.string ⟨#[]⟩,.slice none 0 0,.string ⟨#[]⟩,.bool false,.slice none 0 0]}:=by kernel_rfl
@[simp] theorem L_qExs :isSlT cx 41=true:=by kernel_rfl
@[simp] theorem T_qPP :cx.T 51=some {size:=10,agg:=true,zero:=[.string ⟨#[]⟩,.int .i64 (0),.int .i64 (0),.int .i64 (0),.int .i64 (0),.string ⟨#[]⟩,.slice none 0 0,.string ⟨#[]⟩,.bool false,.slice none 0 0],kd:= .struct [(0,1,false),(1,9,true)]}:=by kernel_rfl
@[simp] theorem T_qPPs :cx.T 52=some {size:=1,agg:=false,zero:=[.slice none 0 0],kd:= .slice 10 true 136 [.string ⟨#[]⟩,.int .i64 (0),.int .i64 (0),.int .i64 (0),.int .i64 (0),.string ⟨#[]⟩,.slice none 0 0,.string ⟨#[]⟩,.bool false,.slice none 0 0]}:=by kernel_rfl
@[simp] theorem L_qPPs :isSlT cx 52=true:=by kernel_rfl
@[simp] theorem T_qNP :cx.T 54=some {size:=3,agg:=true,zero:=[.string ⟨#[]⟩,.slice none 0 0,.slice none 0 0],kd:= .struct [(0,1,false),(1,1,false),(2,1,false)]}:=by kernel_rfl
@[simp] theorem T_qNPs :cx.T 55=some {size:=1,agg:=false,zero:=[.slice none 0 0],kd:= .slice 3 true 64 [.string ⟨#[]⟩,.slice none 0 0,.slice none 0 0]}:=by kernel_rfl
@[simp] theorem L_qNPs :isSlT cx 55=true:=by kernel_rfl
@[simp] theorem T_qEP :cx.T 57=some {size:=7,agg:=true,zero:=[.string ⟨#[]⟩,.slice none 0 0,.int .i64 (0),.int .i64 (0),.int .i64 (0),.int .i64 (0),.slice none 0 0],kd:= .struct [(0,1,false),(1,1,false),(2,1,false),(3,1,false),(4,1,false),(5,1,false),(6,1,false)]}:=by kernel_rfl
@[simp] theorem T_qEPs :cx.T 58=some {size:=1,agg:=false,zero:=[.slice none 0 0],kd:= .slice 7 true 96 [.string ⟨#[]⟩,.slice none 0 0,.int .i64 (0),.int .i64 (0),.int .i64 (0),.int .i64 (0),.slice none 0 0]}:=by kernel_rfl
@[simp] theorem L_qEPs :isSlT cx 58=true:=by kernel_rfl
@[simp] theorem T_qPa :cx.T 60=some {size:=3,agg:=true,zero:=[.string ⟨#[]⟩,.slice none 0 0,.slice none 0 0],kd:= .struct [(0,1,false),(1,1,false),(2,1,false)]}:=by kernel_rfl
@[simp] theorem T_qPas :cx.T 40=some {size:=1,agg:=false,zero:=[.slice none 0 0],kd:= .slice 3 true 64 [.string ⟨#[]⟩,.slice none 0 0,.slice none 0 0]}:=by kernel_rfl
@[simp] theorem L_qPas :isSlT cx 40=true:=by kernel_rfl
@[simp] theorem T_qIt :cx.T 62=some {size:=10,agg:=true,zero:=[.int .i64 (0),.int .i64 (0),.int .i64 (0),.int .i64 (0),.string ⟨#[]⟩,.slice none 0 0,.string ⟨#[]⟩,.bool false,.slice none 0 0,.string ⟨#[]⟩],kd:= .struct [(0,9,true),(9,1,false)]}:=by kernel_rfl
@[simp] theorem T_qIts :cx.T 44=some {size:=1,agg:=false,zero:=[.slice none 0 0],kd:= .slice 10 true 136 [.int .i64 (0),.int .i64 (0),.int .i64 (0),.int .i64 (0),.string ⟨#[]⟩,.slice none 0 0,.string ⟨#[]⟩,.bool false,.slice none 0 0,.string ⟨#[]⟩]}:=by kernel_rfl
@[simp] theorem L_qIts :isSlT cx 44=true:=by kernel_rfl
@[simp] theorem T_qSo :cx.T 94=some {size:=10,agg:=true,zero:=[.int .i64 (0),.int .i64 (0),.int .i64 (0),.int .i64 (0),.string ⟨#[]⟩,.slice none 0 0,.string ⟨#[]⟩,.bool false,.slice none 0 0,.bool false],kd:= .struct [(0,9,true),(9,1,false)]}:=by kernel_rfl
@[simp] theorem T_qSos :cx.T 45=some {size:=1,agg:=false,zero:=[.slice none 0 0],kd:= .slice 10 true 128 [.int .i64 (0),.int .i64 (0),.int .i64 (0),.int .i64 (0),.string ⟨#[]⟩,.slice none 0 0,.string ⟨#[]⟩,.bool false,.slice none 0 0,.bool false]}:=by kernel_rfl
@[simp] theorem L_qSos :isSlT cx 45=true:=by kernel_rfl
@[simp] theorem T_qSI :cx.T 64=some {size:=13,agg:=true,zero:=[.string ⟨#[]⟩,.string ⟨#[]⟩,.string ⟨#[]⟩,.bool false,.int .i64 (0),.int .i64 (0),.int .i64 (0),.int .i64 (0),.string ⟨#[]⟩,.slice none 0 0,.string ⟨#[]⟩,.bool false,.slice none 0 0],kd:= .struct [(0,1,false),(1,1,false),(2,1,false),(3,1,false),(4,9,true)]}:=by kernel_rfl
@[simp] theorem T_qSIs :cx.T 46=some {size:=1,agg:=false,zero:=[.slice none 0 0],kd:= .slice 13 true 176 [.string ⟨#[]⟩,.string ⟨#[]⟩,.string ⟨#[]⟩,.bool false,.int .i64 (0),.int .i64 (0),.int .i64 (0),.int .i64 (0),.string ⟨#[]⟩,.slice none 0 0,.string ⟨#[]⟩,.bool false,.slice none 0 0]}:=by kernel_rfl
@[simp] theorem L_qSIs :isSlT cx 46=true:=by kernel_rfl
@[simp] theorem T_qCl :cx.T 49=some {size:=21,agg:=true,zero:=[.int .i64 (0),.bool false,.bool false,.slice none 0 0,.slice none 0 0,.int .i64 (0),.int .i64 (0),.int .i64 (0),.int .i64 (0),.string ⟨#[]⟩,.slice none 0 0,.string ⟨#[]⟩,.bool false,.slice none 0 0,.string ⟨#[]⟩,.slice none 0 0,.slice none 0 0,.int .i64 (0),.int .i64 (0),.slice none 0 0,.slice none 0 0],kd:= .struct [(0,1,false),(1,1,false),(2,1,false),(3,1,false),(4,1,false),(5,9,true),(14,1,false),(15,1,false),(16,1,false),(17,1,false),(18,1,false),(19,1,false),(20,1,false)]}:=by kernel_rfl
@[simp] theorem T_qCls :cx.T 22=some {size:=1,agg:=false,zero:=[.slice none 0 0],kd:= .slice 21 true 312 [.int .i64 (0),.bool false,.bool false,.slice none 0 0,.slice none 0 0,.int .i64 (0),.int .i64 (0),.int .i64 (0),.int .i64 (0),.string ⟨#[]⟩,.slice none 0 0,.string ⟨#[]⟩,.bool false,.slice none 0 0,.string ⟨#[]⟩,.slice none 0 0,.slice none 0 0,.int .i64 (0),.int .i64 (0),.slice none 0 0,.slice none 0 0]}:=by kernel_rfl
@[simp] theorem L_qCls :isSlT cx 22=true:=by kernel_rfl
@[simp] theorem T_qQu :cx.T 24=some {size:=1,agg:=true,zero:=[.slice none 0 0],kd:= .struct [(0,1,false)]}:=by kernel_rfl
@[simp] theorem T_qCo :cx.T 115=some {size:=2,agg:=true,zero:=[.string ⟨#[]⟩,.int .i64 (0)],kd:= .struct [(0,1,false),(1,1,false)]}:=by kernel_rfl
@[simp] theorem T_qCos :cx.T 83=some {size:=1,agg:=false,zero:=[.slice none 0 0],kd:= .slice 2 true 24 [.string ⟨#[]⟩,.int .i64 (0)]}:=by kernel_rfl
@[simp] theorem L_qCos :isSlT cx 83=true:=by kernel_rfl
@[simp] theorem T_qPd :cx.T 37=some {size:=8,agg:=true,zero:=[.int .i64 (0),.string ⟨#[]⟩,.string ⟨#[]⟩,.int .i64 (0),.int .i64 (0),.int .i64 (0),.string ⟨#[]⟩,.slice none 0 0],kd:= .struct [(0,1,false),(1,1,false),(2,1,false),(3,5,true)]}:=by kernel_rfl
@[simp] theorem T_qPds :cx.T 27=some {size:=1,agg:=false,zero:=[.slice none 0 0],kd:= .slice 8 true 104 [.int .i64 (0),.string ⟨#[]⟩,.string ⟨#[]⟩,.int .i64 (0),.int .i64 (0),.int .i64 (0),.string ⟨#[]⟩,.slice none 0 0]}:=by kernel_rfl
@[simp] theorem L_qPds :isSlT cx 27=true:=by kernel_rfl
inductive Ep where
 |mk (op:Int) (v:V) (nm:ByteArray) (ds:Bool) (ks:List Ep)
namespace Ep
def op :Ep→Int| .mk o _ _ _ _=>o
def v :Ep→V| .mk _ v _ _ _=>v
def nm :Ep→ByteArray| .mk _ _ n _ _=>n
def ds :Ep→Bool| .mk _ _ _ d _=>d
def ks :Ep→List Ep| .mk _ _ _ _ l=>l
end Ep
mutual
def encX :Ep→List AV
 | .mk o v n d l=> .sc (.int .i64 o)::(enc v++[.sc (.string n),.sc (.bool d),.ls 9 (encXs l) false])
def encXs :List Ep→List (List AV)
 | []=> []
 |x::xs=>encX x::encXs xs
end
mutual
def depX :Ep→Nat
 | .mk _ _ _ _ l=>depXs l+1
def depXs :List Ep→Nat
 | []=>0
 |x::xs=>max (depX x) (depXs xs)
end
mutual
def bdX (D:Nat):Ep→Prop
 | .mk _ v n _ l=>(dep v≤D∧gdV v)∧n.size≤1000000000000000∧l.length≤1000000000000000∧bdXs D l
def bdXs (D:Nat):List Ep→Prop
 | []=>True
 |x::xs=>bdX D x∧bdXs D xs
end
theorem depX_pos (e:Ep):1≤depX e:=by cases e;rw[depX];omega
theorem depX_mem {e:Ep}:∀{l:List Ep},e∈l→depX e≤depXs l
 |
  x::xs,h=>by
  rw[depXs];rcases List.mem_cons.1 h with rfl|h
  ·omega
  ·have:=depX_mem h;omega
theorem bdX_mem {D:Nat}{e:Ep}:∀{l:List Ep},bdXs D l→e∈l→bdX D e
 |
  x::xs,hb,h=>by
  rw[bdXs]at hb;rcases List.mem_cons.1 h with rfl|h
  ·exact hb.1
  ·exact bdX_mem hb.2 h
theorem encXs_length :∀l:List Ep,(encXs l).length=l.length
 | []=>by rw[encXs];rfl
 |x::xs=>by rw[encXs,List.length_cons,List.length_cons,encXs_length xs]
theorem encXs_get :∀(l:List Ep) (i:Nat),(encXs l)[i]?=(l[i]?).map encX
 | [],i=>by simp[encXs]
 |x::xs,0=>by simp[encXs]
 |x::xs,i+1=>by simp[encXs,encXs_get xs i]
theorem encX_length (e:Ep):(encX e).length=9:=by
 cases e;rw[encX];simp[enc_length]
theorem encXs_map :∀l:List Ep,l.map encX=encXs l
 | []=>by simp[encXs]
 |x::l=>by rw[List.map_cons,encXs_map l,encXs]
theorem kid_dep {n:Nat}{e k:Ep}(h:depX e≤n+1)(hk:k∈e.ks):depX k≤n:=by
 cases e;rw[depX]at h;have:=depX_mem hk;simp only[Ep.ks]at *;omega
theorem kid_bd {D:Nat}{e k:Ep}(h:bdX D e)(hk:k∈e.ks):bdX D k:=by
 cases e;rw[bdX]at h;exact bdX_mem h.2.2.2 hk
section
attribute [local simp] aop aopW coldF extF putA ofConst flat scalarOp fastOp binFast intOp strOp guardX Ae.part rowOf szOk natOf lenA cls fillA newsOf isNilC cellX
set_option maxHeartbeats 16000000
def arS (x:ByteArray):Int × Int:=if eqS x ⟨#[105,100]⟩then(1,1)else if eqS x ⟨#[116,121,112,101]⟩then(1,1)else if eqS x ⟨#[108,97,98,101,108,115]⟩then(1,1)else if eqS x ⟨#[115,105,122,101]⟩then(1,1)else if eqS x ⟨#[108,101,110,103,116,104]⟩then(1,1)else if eqS x ⟨#[110,111,100,101,115]⟩then(1,1)else if eqS x ⟨#[101,100,103,101,115]⟩then(1,1)else if eqS x ⟨#[102,105,114,115,116]⟩then(1,1)else if eqS x ⟨#[108,97,115,116]⟩then(1,1)else if eqS x ⟨#[115,116,97,114,116]⟩then(1,1)else if eqS x ⟨#[101,110,100]⟩then(1,1)else if eqS x ⟨#[97,98,115]⟩then(1,1)else if eqS x ⟨#[116,101,120,116]⟩then(1,1)else if eqS x ⟨#[99,111,97,108,101,115,99,101]⟩then(2,4)else(0,0)
def agS (x:ByteArray):Bool:=eqS x ⟨#[99,111,117,110,116]⟩||eqS x ⟨#[115,117,109]⟩||eqS x ⟨#[109,105,110]⟩||eqS x ⟨#[109,97,120]⟩||eqS x ⟨#[97,118,103]⟩||eqS x ⟨#[99,111,108,108,101,99,116]⟩
theorem sy_Arity (n:Nat)(b:Bool)(x:ByteArray)(h:Hp):callN cx (n+1) b 298 [.sc (.string x)] h=some (.tp [.sc (.int .i64 (arS x).1),.sc (.int .i64 (arS x).2)],h):=by
 refine pure_tup (xs:=[.sc (.int .i64 (arS x).1),.sc (.int .i64 (arS x).2)]) ⟨Tryz.f298.ntmps,(Tryz.f298.body).getD .skip,[.tmp 2,.tmp 3]⟩ (by kernel_rfl) (by kernel_rfl) rfl (by kernel_rfl) (by simp[Tryz.f298]) rfl rfl ?_ b h;by_cases h0:eqS x ⟨#[105,100]⟩=true
 ·simp[Tryz.f298,arS,h0]
 simp only[Bool.not_eq_true]at h0;by_cases h1:eqS x ⟨#[116,121,112,101]⟩=true
 ·simp[Tryz.f298,arS,h0,h1]
 simp only[Bool.not_eq_true]at h1;by_cases h2:eqS x ⟨#[108,97,98,101,108,115]⟩=true
 ·simp[Tryz.f298,arS,h0,h1,h2]
 simp only[Bool.not_eq_true]at h2;by_cases h3:eqS x ⟨#[115,105,122,101]⟩=true
 ·simp[Tryz.f298,arS,h0,h1,h2,h3]
 simp only[Bool.not_eq_true]at h3;by_cases h4:eqS x ⟨#[108,101,110,103,116,104]⟩=true
 ·simp[Tryz.f298,arS,h0,h1,h2,h3,h4]
 simp only[Bool.not_eq_true]at h4;by_cases h5:eqS x ⟨#[110,111,100,101,115]⟩=true
 ·simp[Tryz.f298,arS,h0,h1,h2,h3,h4,h5]
 simp only[Bool.not_eq_true]at h5;by_cases h6:eqS x ⟨#[101,100,103,101,115]⟩=true
 ·simp[Tryz.f298,arS,h0,h1,h2,h3,h4,h5,h6]
 simp only[Bool.not_eq_true]at h6;by_cases h7:eqS x ⟨#[102,105,114,115,116]⟩=true
 ·simp[Tryz.f298,arS,h0,h1,h2,h3,h4,h5,h6,h7]
 simp only[Bool.not_eq_true]at h7;by_cases h8:eqS x ⟨#[108,97,115,116]⟩=true
 ·simp[Tryz.f298,arS,h0,h1,h2,h3,h4,h5,h6,h7,h8]
 simp only[Bool.not_eq_true]at h8;by_cases h9:eqS x ⟨#[115,116,97,114,116]⟩=true
 ·simp[Tryz.f298,arS,h0,h1,h2,h3,h4,h5,h6,h7,h8,h9]
 simp only[Bool.not_eq_true]at h9;by_cases h10:eqS x ⟨#[101,110,100]⟩=true
 ·simp[Tryz.f298,arS,h0,h1,h2,h3,h4,h5,h6,h7,h8,h9,h10]
 simp only[Bool.not_eq_true]at h10;by_cases h11:eqS x ⟨#[97,98,115]⟩=true
 ·simp[Tryz.f298,arS,h0,h1,h2,h3,h4,h5,h6,h7,h8,h9,h10,h11]
 simp only[Bool.not_eq_true]at h11;by_cases h12:eqS x ⟨#[116,101,120,116]⟩=true
 ·simp[Tryz.f298,arS,h0,h1,h2,h3,h4,h5,h6,h7,h8,h9,h10,h11,h12]
 simp only[Bool.not_eq_true]at h12;by_cases h13:eqS x ⟨#[99,111,97,108,101,115,99,101]⟩=true
 ·simp[Tryz.f298,arS,h0,h1,h2,h3,h4,h5,h6,h7,h8,h9,h10,h11,h12,h13]
 simp only[Bool.not_eq_true]at h13;simp[Tryz.f298,arS,h0,h1,h2,h3,h4,h5,h6,h7,h8,h9,h10,h11,h12,h13]
theorem sy_Aggregate (n:Nat)(b:Bool)(x:ByteArray)(h:Hp):callN cx (n+1) b 299 [.sc (.string x)] h=some (.sc (.bool (agS x)),h):=by
 refine pure_calm (r:= .sc (.bool (agS x))) ⟨Tryz.f299.ntmps,(Tryz.f299.body).getD .skip,[.tmp 2]⟩ (by kernel_rfl) (by kernel_rfl) rfl (by kernel_rfl) (by simp[Tryz.f299]) rfl rfl ?_ b h;by_cases h0:eqS x ⟨#[99,111,117,110,116]⟩=true
 ·simp[Tryz.f299,agS,h0]
 simp only[Bool.not_eq_true]at h0;by_cases h1:eqS x ⟨#[115,117,109]⟩=true
 ·simp[Tryz.f299,agS,h0,h1]
 simp only[Bool.not_eq_true]at h1;by_cases h2:eqS x ⟨#[109,105,110]⟩=true
 ·simp[Tryz.f299,agS,h0,h1,h2]
 simp only[Bool.not_eq_true]at h2;by_cases h3:eqS x ⟨#[109,97,120]⟩=true
 ·simp[Tryz.f299,agS,h0,h1,h2,h3]
 simp only[Bool.not_eq_true]at h3;by_cases h4:eqS x ⟨#[97,118,103]⟩=true
 ·simp[Tryz.f299,agS,h0,h1,h2,h3,h4]
 simp only[Bool.not_eq_true]at h4;by_cases h5:eqS x ⟨#[99,111,108,108,101,99,116]⟩=true
 ·simp[Tryz.f299,agS,h0,h1,h2,h3,h4,h5]
 simp only[Bool.not_eq_true]at h5;simp[Tryz.f299,agS,h0,h1,h2,h3,h4,h5]
end
end Go.Proofs.YtmocfjnklfpnbaaGreatDoor
