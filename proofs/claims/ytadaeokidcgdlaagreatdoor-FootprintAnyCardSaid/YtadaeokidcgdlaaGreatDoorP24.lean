/- An edge by its number; a property by its key. -/
import Derived.Test.YtadaeokidcgdlaaGreatDoorP23
import Derived.Test.YtadaeokidcgdlaaGreatDoorP13
set_option linter.unusedSimpArgs false
set_option maxRecDepth 100000
namespace Go.Proofs.YtadaeokidcgdlaaGreatDoor
open Go Go.Ae
section
attribute [local simp] aop aopW coldF extF putA ofConst flat scalarOp fastOp binFast intOp strOp guardX Ae.part rowOf szOk natOf lenA cls fillA splice newsOf isNilC cellX
set_option maxHeartbeats 8000000
def edgeAt (l:List Ed)(x:Int):Option Ed:=l.find? fun n=>n.id==x
def edgeD (l:List Ed)(x:Int)(i:Nat):Option Ed:=edgeAt (l.drop i) x
theorem edgeD_end (l:List Ed)(x:Int)(i:Nat)(h:l.length≤i):edgeD l x i=none:=by unfold edgeD;rw[Zt h];rfl
theorem edgeD_step {l:List Ed}{x:Int}{i:Nat}{c:Ed}(h:l[i]?=some c):edgeD l x i=if c.id=x then some c else edgeD l x (i+1):=by
 obtain⟨k,e⟩:=Za.1 h;unfold edgeD edgeAt;rw[Zm k,e,List.find?_cons];by_cases q:c.id=x
 ·simp[q]
 ·have q':(c.id==x)=false:=by simpa using q
  simp[q,q']
def edC (o:Option Ed):List AV:=match o with
 |none=> [.sc (.int .i64 0),.sc (.int .i64 0),.sc (.int .i64 0),.sc (.string ⟨#[]⟩),.sc (.slice none 0 0)]
 |some n=>encE n
@[simp] theorem edC_length (o:Option Ed):(edC o).length=5:=by cases o<;>rfl
theorem calm_ed (o:Option Ed)(b:Bool):[AV.ag (edC o),.sc (.bool b)].all calm=true:=by cases o<;>rfl
theorem r07_Edge (n:Nat)(b:Bool)(g:Gr)(x:Int)(h:Hp)(hl:g.edges.length≤1000000000000000):
 callN cx (n+1) b 42 [.ag (encG g),.sc (.int .i64 x)] h=some (.tp [.ag (edC (edgeAt g.edges x)),.sc (.bool (edgeAt g.edges x).isSome)],h):=by
 refine pure_tup (xs:=[.ag (edC (edgeAt g.edges x)),.sc (.bool (edgeAt g.edges x).isSome)]) ⟨Tryz.f42.ntmps,(Tryz.f42.body).getD .skip,[.cell 4 5 true,.tmp 5]⟩ (by kernel_rfl) (by kernel_rfl) rfl (by kernel_rfl) (by simp[Tryz.f42]) (calm_G _ _) (calm_ed _ _) ?_ b h;have hq:=edR_length g.edges;have hg:=edR_get g.edges;unfold encG edV;generalize edR g.edges=rows at hq hg;simp[Tryz.f42];refine loop_up (C:=cx) (G:=fun r=>∃h',finX _ (thenX _ _ (blockX _ r) _)=some (_,h'))
  (fun i s=>edgeAt g.edges x=edgeD g.edges x i∧s.1.length=28∧gt s.1 1= .sc (.int .i64 x)∧gt s.1 2= .pt 0 0∧gt s.1 4= .pt 1 0∧gt s.1 6= .sc (.int .i64 i)∧s.2=[.row [ndV g.nodes,.ls 5 rows false,.sc (.int .i64 g.nn),.sc (.int .i64 g.ne)],.row [.sc (.int .i64 0),.sc (.int .i64 0),.sc (.int .i64 0),.sc (.string ⟨#[]⟩),.sc (.slice none 0 0)]])
  (fun o s=>s.1.length=28∧gt s.1 4= .pt 1 0∧((o= .exit 0∧edgeAt g.edges x=none∧∃a b,s.2=[.row a,.row b]∧b.length=5)∨(o= .ret∧∃c a,edgeAt g.edges x=some c∧gt s.1 5= .sc (.bool true)∧s.2=[.row a,.row (encE c)]))) g.edges.length (by simp;omega) (by simp[edgeD]) ?_ ?_
 ·rintro i fr h hle ⟨ho,hlen,h1,h2,h4,h6,hh⟩;simp only at hlen h1 h2 h4 h6 hh;subst hh;by_cases hi:i<g.edges.length
  ·obtain⟨c,hx⟩:∃c,g.edges[i]?=some c:=⟨_,Zb hi⟩;have hr:rows[i]?=some [.sc (.int .i64 c.id),.sc (.int .i64 c.src),.sc (.int .i64 c.dst),.sc (.string c.type),prV c.props false]:=by rw[hg,hx];rfl
   have hr':∀k,rows[i]'k=[.sc (.int .i64 c.id),.sc (.int .i64 c.src),.sc (.int .i64 c.dst),.sc (.string c.type),prV c.props false]:=fun k=>by obtain⟨_,e⟩:=Za.1 hr;exact e
   rw[edgeD_step hx]at ho;have hf:fitI .i64 ((i:Int)+1)=((i+1:Nat):Int):=fit_i64 (by omega) (by omega);by_cases hk:c.id=x
   ·rw[if_pos hk]at ho;simp[hlen,h1,h2,h4,h6,hi,hq,hr,hr',hk,ho,encE]
   ·rw[if_neg hk]at ho;simp[hlen,h1,h2,h4,h6,hi,hq,hr,hr',hk,hf];exact ho
  ·have zz:edgeAt g.edges x=none:=by rw[ho,edgeD_end _ _ i (by omega)]
   simp[hlen,h1,h2,h4,h6,hi,hq,zz];exact⟨_,_,⟨rfl,rfl⟩,rfl⟩
 ·rintro o fr h hn ⟨hlen,h4,⟨rfl,hz,a,b',hh,hb⟩|⟨rfl,c,a,hz,h5,hh⟩⟩
  ·simp only at hlen h4 hh;subst hh;simp[hlen,h4,hz,hb,edC]
  ·simp only at hlen h4 h5 hh;subst hh;simp[hlen,h4,h5,hz,edC,encE]
def propAt (l:List Prp)(x:ByteArray):V:=match l with
 | []=>zeroV
 |c::l=>if eqS c.key x=true then c.v else propAt l x
def propD (l:List Prp)(x:ByteArray)(i:Nat):V:=propAt (l.drop i) x
theorem propD_end (l:List Prp)(x:ByteArray)(i:Nat)(h:l.length≤i):propD l x i=zeroV:=by unfold propD;rw[Zt h];rfl
theorem propD_step {l:List Prp}{x:ByteArray}{i:Nat}{c:Prp}(h:l[i]?=some c):propD l x i=if eqS c.key x=true then c.v else propD l x (i+1):=by
 obtain⟨k,e⟩:=Za.1 h;unfold propD;rw[Zm k,e];rfl
theorem calm_px (l:List Prp)(z:Bool)(x:ByteArray):[prV l z,.sc (.string x)].all calm=true:=rfl
theorem enc_zero :enc zeroV=[.sc (.int .i64 0),.sc (.int .i64 0),.sc (.int .i64 0),.sc (.string ⟨#[]⟩),.sc (.slice none 0 0)]:=rfl
theorem r07_Prop (n:Nat)(b:Bool)(l:List Prp)(z:Bool)(x:ByteArray)(h:Hp)(hl:l.length≤1000000000000000):
 callN cx (n+1) b 89 [prV l z,.sc (.string x)] h=some (.ag (enc (propAt l x)),h):=by
 refine pure_calm (r:= .ag (enc (propAt l x))) ⟨Tryz.f89.ntmps,(Tryz.f89.body).getD .skip,[.cell 4 5 true]⟩ (by kernel_rfl) (by kernel_rfl) rfl (by kernel_rfl) (by simp[Tryz.f89]) (calm_px _ _ _) (calm_evV _) ?_ b h;have hq:=prR_length l;have hg:=prR_get l;unfold prV;generalize prR l=rows at hq hg;generalize hv:propAt l x=v;have hv0:v=propD l x 0:=hv.symm;simp[Tryz.f89];refine loop_up (C:=cx) (G:=fun r=>∃x,finX _ (thenX _ _ (blockX _ r) _)=some (_,x))
  (fun i s=>v=propD l x i∧s.1.length=25∧gt s.1 0= .ls 6 rows z∧gt s.1 1= .sc (.string x)∧gt s.1 4= .pt 0 0∧gt s.1 5= .sc (.int .i64 i)∧s.2=[.row (enc zeroV)])
  (fun o s=>s.1.length=25∧gt s.1 4= .pt 0 0∧((o= .exit 0∧v=zeroV∧s.2=[.row (enc zeroV)])∨(o= .ret∧s.2=[.row (enc v)]))) l.length (by simp;omega) (by simp[hv0,enc_zero]) ?_ ?_
 ·rintro i fr h hle ⟨ho,hlen,h0,h1,h4,h5,hh⟩;simp only at hlen h0 h1 h4 h5 hh;subst hh;by_cases hi:i<l.length
  ·obtain⟨c,hx⟩:∃c,l[i]?=some c:=⟨_,Zb hi⟩;have hr:rows[i]?=some (.sc (.string c.key)::enc c.v):=by rw[hg,hx];rfl
   have hr':∀k,rows[i]'k= .sc (.string c.key)::enc c.v:=fun k=>by obtain⟨_,e⟩:=Za.1 hr;exact e
   rw[propD_step hx]at ho;have hf:=fit_succ (Ym hle hl);cases hk:eqS c.key x
   ·rw[if_neg (by rw[hk];decide)]at ho;simp[hlen,h0,h1,h4,h5,hi,hq,hr,hr',hk,hf];exact ho
   ·rw[if_pos hk]at ho;simp[hlen,h0,h1,h4,h5,hi,hq,hr,hr',hk,ho]
  ·have zz:v=zeroV:=by rw[ho,propD_end l x i (by omega)]
   simp[hlen,h0,h1,h4,h5,hi,hq,zz]
 ·rintro o fr h hn ⟨hlen,h4,⟨rfl,hz,hh⟩|⟨rfl,hh⟩⟩
  ·simp only at hlen h4 hh;subst hh;simp[hlen,h4,hz,enc_zero]
  ·simp only at hlen h4 hh;subst hh;simp[hlen,h4]
theorem calm_ss (x y:ByteArray):[AV.sc (.string x),.sc (.string y)].all calm=true:=rfl
def sameS (x y:ByteArray):Bool:=eqS x ⟨#[]⟩||eqS x y
theorem fp_same (n:Nat)(b:Bool)(x y:ByteArray)(h:Hp):callN cx (n+1) b 37 [.sc (.string x),.sc (.string y)] h=some (.sc (.bool (sameS x y)),h):=by
 refine pure_calm (r:= .sc (.bool (sameS x y))) ⟨Tryz.f37.ntmps,(Tryz.f37.body).getD .skip,[.tmp 4]⟩ (by kernel_rfl) (by kernel_rfl) rfl (by kernel_rfl) (by simp[Tryz.f37]) (calm_ss _ _) rfl ?_ b h;unfold sameS;cases h1:eqS x ⟨#[]⟩<;>simp[Tryz.f37,h1]
def keyedS (l:List Prp)(x:ByteArray):Bool:= !decide ((propAt l x).k=0)
theorem r45_keyed (n:Nat)(b:Bool)(l:List Prp)(z:Bool)(x:ByteArray)(h:Hp)(hl:l.length≤1000000000000000):
 callN cx (n+2) b 43 [prV l z,.sc (.string x)] h=some (.sc (.bool (keyedS l x)),h):=by
 refine pure_calm (r:= .sc (.bool (keyedS l x))) (n:=n+1) ⟨Tryz.f43.ntmps,(Tryz.f43.body).getD .skip,[.tmp 4]⟩ (by kernel_rfl) (by kernel_rfl) rfl (by kernel_rfl) (by simp[Tryz.f43]) (calm_px _ _ _) rfl ?_ b h;have f1:=fun b h=>r07_Prop n b l z x h hl
 unfold keyedS;generalize propAt l x=v at f1;obtain⟨k,m,d,s,z',q⟩:=v;simp only[enc,V.k]at f1⊢;generalize lsV z' (encL q)=y at f1;unfold prV at f1⊢;by_cases hk:k=0<;>simp[Tryz.f43,f1,hk]
end
end Go.Proofs.YtadaeokidcgdlaaGreatDoor
namespace Go.Ae
open Go
structure Spl {α:Type}(lt eq:α→Bool)(l pre mid post:List α):Prop where
 e:l=pre++mid++post
 p:∀x∈pre,lt x=true∧eq x=false
 m:∀x∈mid,lt x=false∧eq x=true
 one:mid.length≤1
 q:∀x∈post,lt x=false∧eq x=false
section
variable {α : Type} {lt eq : α → Bool} {l pre mid post : List α}
def putR (lt eq:α→Bool)(n:α)(add:Bool)(st:List α × Bool)(x:α):List α × Bool:=
 ((st.1++(if !st.2 && !lt x && add then[n]else[]))++(if eq x then[]else[x]),st.2|| !lt x)
def putZ (n:α)(add:Bool)(st:List α × Bool):List α:=if !st.2 && add then st.1++[n]else st.1
def putF (lt eq:α→Bool)(n:α)(add:Bool)(l:List α)(i:Nat):List α × Bool:=(l.take i).foldl (putR lt eq n add) ([],false)
def putL (lt eq:α→Bool)(n:α)(add:Bool)(l:List α):List α:=putZ n add (putF lt eq n add l l.length)
theorem putF_zero (n:α)(add:Bool)(l:List α):putF lt eq n add l 0=([],false):=rfl
theorem putF_succ (n:α)(add:Bool){l:List α}{i:Nat}{x:α}(h:l[i]?=some x):putF lt eq n add l (i+1)=putR lt eq n add (putF lt eq n add l i) x:=by
 unfold putF;rw[List.take_add_one,h,List.foldl_append];rfl
theorem put_done (n:α)(add:Bool):∀(post acc:List α),(∀x∈post,lt x=false∧eq x=false)→post.foldl (putR lt eq n add) (acc,true)=(acc++post,true)
 | [],acc,_=>by simp
 |
  x::post,acc,h=>by
  have hx:=h x (by simp);rw[List.foldl_cons];have:putR lt eq n add (acc,true) x=(acc++[x],true):=by simp[putR,hx.2]
  rw[this,put_done n add post _ (fun y hy=>h y (by simp[hy]))];simp
theorem put_pre (n:α)(add:Bool):∀(pre acc:List α),(∀x∈pre,lt x=true∧eq x=false)→pre.foldl (putR lt eq n add) (acc,false)=(acc++pre,false)
 | [],acc,_=>by simp
 |
  x::pre,acc,h=>by
  have hx:=h x (by simp);rw[List.foldl_cons];have:putR lt eq n add (acc,false) x=(acc++[x],false):=by simp[putR,hx.1,hx.2]
  rw[this,put_pre n add pre _ (fun y hy=>h y (by simp[hy]))];simp
theorem putL_spl (h:Spl lt eq l pre mid post)(n:α)(add:Bool):putL lt eq n add l=pre++(if add then[n]else[])++post:=by
 unfold putL putF;rw[List.take_length,h.e,List.foldl_append,List.foldl_append,put_pre n add pre [] h.p];have hm:=h.one
 match hmid:mid,hm with
 |
  [],_=>
  rw[List.foldl_nil]
  match hpost:post,h.q with
  | [],_=>cases add<;>simp[putZ]
  |
   y::ys,hq=>
   have hy:=hq y (by simp);rw[List.foldl_cons];have:putR lt eq n add ([]++pre,false) y=(pre++(if add then[n]else[])++[y],true):=by cases add<;>simp[putR,hy.1,hy.2]
   rw[this,put_done n add ys _ (fun z hz=>hq z (by simp[hz]))];simp[putZ]
 |
  [x],_=>
  have hx:=h.m x (by simp);rw[List.foldl_cons,List.foldl_nil];have:putR lt eq n add ([]++pre,false) x=(pre++(if add then[n]else[]),true):=by cases add<;>simp[putR,hx.1,hx.2]
  rw[this,put_done n add post _ h.q];simp[putZ]
 |_::_::_,hm=>simp at hm
theorem Spl.filter (h:Spl lt eq l pre mid post):l.filter (fun x=> !eq x)=pre++post:=by
 have h1:pre.filter (fun x=> !eq x)=pre:=List.filter_eq_self.2 fun x hx=>by simp[(h.p x hx).2]
 have h2:mid.filter (fun x=> !eq x)=[]:=List.filter_eq_nil_iff.2 fun x hx=>by simp[(h.m x hx).2]
 have h3:post.filter (fun x=> !eq x)=post:=List.filter_eq_self.2 fun x hx=>by simp[(h.q x hx).2]
 rw[h.e,Yn,Yn,h1,h2,h3,Yo]
theorem Spl.find (h:Spl lt eq l pre mid post):l.find? eq=mid.head?:=by
 have h1:pre.find? eq=none:=List.find?_eq_none.2 fun x hx=>by simp[(h.p x hx).2]
 rw[h.e,List.find?_append,List.find?_append,h1]
 match hmid:mid with
 |
  []=>
  have h3:post.find? eq=none:=List.find?_eq_none.2 fun x hx=>by simp[(h.q x hx).2]
  simp[h3]
 |x::_=>simp[(h.m x (by simp)).2]
theorem Spl.any (h:Spl lt eq l pre mid post):l.any eq= !mid.isEmpty:=by
 rw[h.e,List.any_append,List.any_append];have h1:pre.any eq=false:=List.any_eq_false.2 fun x hx=>by simp[(h.p x hx).2]
 have h3:post.any eq=false:=List.any_eq_false.2 fun x hx=>by simp[(h.q x hx).2]
 rw[h1,h3]
 match hmid:mid with
 | []=>rfl
 |x::_=>simp[(h.m x (by simp)).2]
theorem Spl.take (h:Spl lt eq l pre mid post):l.take pre.length=pre:=by rw[h.e,Zp];simp
theorem Spl.drop (h:Spl lt eq l pre mid post):l.drop pre.length=mid++post:=by rw[h.e,Zp];simp
theorem Spl.at {x:α}(h:Spl lt eq l pre [x] post):l[pre.length]?=some x:=by rw[h.e,Zp];simp
theorem Spl.set {x:α}(h:Spl lt eq l pre [x] post)(n:α):l.set pre.length n=pre++[n]++post:=by rw[h.e,Zp];simp
theorem Spl.lt_iff (h:Spl lt eq l pre mid post){i:Nat}{x:α}(hx:l[i]?=some x):lt x=true↔i<pre.length:=by
 rw[h.e,Zp]at hx;by_cases hi:i<pre.length
 ·rw[Zd hi]at hx;simp[hi,(h.p x (Zi hx)).1]
 ·rw[Zf (by omega)]at hx;have hm:=Zi hx;have:lt x=false:=by
   rcases Ya.1 hm with hm|hm
   ·exact(h.m x hm).1
   ·exact(h.q x hm).1
  simp[hi,this]
theorem Spl.eq_at (h:Spl lt eq l pre mid post){x:α}(hx:l[pre.length]?=some x):eq x= !mid.isEmpty:=by
 rw[h.e,Zp,Zf (Nat.le_refl _),Nat.sub_self]at hx
 match hmid:mid with
 |
  []=>
  simp at hx;have:=h.q x (Zi hx);simp[this.2]
 |
  y::_=>
  simp at hx;subst hx;simp[(h.m y (by simp)).2]
theorem Spl.nil_at (h:Spl lt eq l pre mid post)(hx:l.length≤pre.length):mid=[]:=by
 have:l.length=pre.length+mid.length+post.length:=by rw[h.e];simp;omega
 exact Zl (by omega)
theorem spl_of (R:α→α→Prop)(hl:l.Pairwise R)(h1:∀x y,R x y→lt y=true→lt x=true)(h2:∀x y,R x y→eq y=true→lt x=true)(h4:∀x,lt x=true→eq x=false):
 ∃pre mid post,Spl lt eq l pre mid post:=by
 induction l with
 |nil=>exact⟨[],[],[],⟨rfl,by simp,by simp,by simp,by simp⟩⟩
 |
  cons x l ih=>
  rw[List.pairwise_cons]at hl;obtain⟨pre,mid,post,hs⟩:=ih hl.2;cases hx:lt x with
  |true=>exact⟨x::pre,mid,post,⟨by rw[hs.e];rfl,fun y hy=>by
   rcases List.mem_cons.1 hy with rfl|hy
   ·exact⟨hx,h4 _ hx⟩
   ·exact hs.p y hy,hs.m,hs.one,hs.q⟩⟩
  |
   false=>
   have hno:∀y∈l,lt y=false:=fun y hy=>by
    cases hq:lt y with
    |false=>rfl
    |true=>rw[h1 x y (hl.1 y hy) hq]at hx;cases hx
   have hne:∀y∈l,eq y=false:=fun y hy=>by
    cases hq:eq y with
    |false=>rfl
    |true=>rw[h2 x y (hl.1 y hy) hq]at hx;cases hx
   cases he:eq x with
   |true=>exact⟨[],[x],l,⟨rfl,by simp,by simp[hx,he],by simp,fun y hy=>⟨hno y hy,hne y hy⟩⟩⟩
   |false=>exact⟨[],[],x::l,⟨rfl,by simp,by simp,by simp,fun y hy=>by
    rcases List.mem_cons.1 hy with rfl|hy
    ·exact⟨hx,he⟩
    ·exact⟨hno y hy,hne y hy⟩⟩⟩
end
end Go.Ae
namespace Go.Proofs.YtadaeokidcgdlaaGreatDoor
open Go Go.Ae
section
attribute [local simp] aop aopW coldF extF putA ofConst flat scalarOp fastOp binFast intOp strOp guardX Ae.part rowOf szOk natOf lenA cls fillA splice newsOf isNilC cellX
set_option maxHeartbeats 8000000
theorem encR_eq (c:Prp):encR c=[.sc (.string c.key),.sc (.int .i64 c.v.k),.sc (.int .i64 c.v.n),.sc (.int .i64 c.v.d),.sc (.string c.v.s),evL c.v.isNil c.v.l]:=by obtain⟨k,v⟩:=c;cases v;rfl
theorem encR_take (c:Prp):(encR c).take 6=encR c:=List.take_of_length_le (by simp)
def ltN (x:Int)(n:Nd):Bool:=decide (n.id<x)
def eqN (x:Int)(n:Nd):Bool:=decide (n.id=x)
def ltE (x:Int)(n:Ed):Bool:=decide (n.id<x)
def eqE (x:Int)(n:Ed):Bool:=decide (n.id=x)
def ltR (x:ByteArray)(p:Prp):Bool:=ltS p.key x
def eqR (x:ByteArray)(p:Prp):Bool:=eqS p.key x
def ltT (x:ByteArray)(s:ByteArray):Bool:=ltS s x
def eqT (x:ByteArray)(s:ByteArray):Bool:=eqS s x
theorem cmpI_lt (a b:Int):cmpI a b<0↔a<b:=by unfold cmpI;split<;>(try split)<;>omega
theorem cmpI_eq (a b:Int):cmpI a b=0↔a=b:=by unfold cmpI;split<;>(try split)<;>omega
theorem cmpS_lt (a b:ByteArray):cmpS a b<0↔ltS a b=true:=by
 unfold cmpS;cases h:ltS a b
 ·cases h2:ltS b a<;>simp
 ·simp
theorem cmpS_eq0 (a b:ByteArray):cmpS a b=0↔eqS a b=true:=by rw[cmpS_zero,eqS_iff]
theorem ed_node1 (n:Nat)(bb:Bool)(y x:Int)(a b:AV)(h:Hp):callN cx (n+3) bb 300 [.ag [.sc (.int .i64 y),a,b],.sc (.int .i64 x)] h=some (.sc (.int .i64 (cmpI y x)),h++[.row [.sc (.int .i64 y),a,b]]):=by
 rw[call_inl (n:=n+2) ⟨Tryz.f300.ntmps,(Tryz.f300.body).getD .skip,[.tmp 4]⟩ rfl (by kernel_rfl) (by kernel_rfl) (by kernel_rfl) (by kernel_rfl) (by simp[Tryz.f300])];have f1:=fun b h=>Compare_int n b y x h
 generalize cmpI y x=r at f1;simp[Tryz.f300,f1]
theorem ed_edge1 (n:Nat)(bb:Bool)(y x:Int)(a b d e:AV)(h:Hp):callN cx (n+3) bb 312 [.ag [.sc (.int .i64 y),a,b,d,e],.sc (.int .i64 x)] h=some (.sc (.int .i64 (cmpI y x)),h++[.row [.sc (.int .i64 y),a,b,d,e]]):=by
 rw[call_inl (n:=n+2) ⟨Tryz.f312.ntmps,(Tryz.f312.body).getD .skip,[.tmp 4]⟩ rfl (by kernel_rfl) (by kernel_rfl) (by kernel_rfl) (by kernel_rfl) (by simp[Tryz.f312])];have f1:=fun b h=>Compare_int n b y x h
 generalize cmpI y x=r at f1;simp[Tryz.f312,f1]
theorem c_set1 (n:Nat)(b:Bool)(c:Prp)(x:ByteArray)(h:Hp):callN cx (n+3) b 308 [.ag (encR c),.sc (.string x)] h=some (.sc (.int .i64 (cmpS c.key x)),h++[.row (encR c)]):=by
 rw[call_inl (n:=n+2) ⟨Tryz.f308.ntmps,(Tryz.f308.body).getD .skip,[.tmp 4]⟩ rfl (by kernel_rfl) (by kernel_rfl) (by kernel_rfl) (by kernel_rfl) (by simp[Tryz.f308])];have f1:=fun b h=>Compare_str n b c.key x h
 generalize cmpS c.key x=r at f1;simp[Tryz.f308,encR_eq,f1]
theorem sl_Search_node (n:Nat)(l pre mid post:List Nd)(x:Int)(rows:List (List AV))(S:AV)(hS:(∃z,S= .ls 3 rows z)∨(rows=[]∧S= .sc (.slice none 0 0)))(hl:l.length≤1000000000000000)(hq:rows.length=l.length)(hg:∀(i:Nat) (c:Nd),l[i]?=some c→∃a b:AV,rows[i]?=some [.sc (.int .i64 c.id),a,b])(hs:Spl (ltN x) (eqN x) l pre mid post)(bb:Bool)(h:Hp):
 callN cx (n+4) bb 226 [S,.sc (.int .i64 x),.fn 300 []] h=some (.tp [.sc (.int .i64 pre.length),.sc (.bool !mid.isEmpty)],h):=by
 have hp:pre.length≤l.length:=by rw[hs.e];simp
 rcases hS with⟨z,rfl⟩|⟨rfl,rfl⟩
 case inr=>
  have hl0:l=[]:=Zl (by simpa using hq.symm);subst hl0;have hp0:pre=[]:=Zl (by simpa using hp);have hm0:mid=[]:=hs.nil_at (by simp);subst hp0 hm0
  suffices H:∃r,r=AV.tp [.sc (.int .i64 0),.sc (.bool false)]∧∀b h,callN cx (n+4) b 226 [.sc (.slice none 0 0),.sc (.int .i64 x),.fn 300 []] h=some (r,h) by
   obtain⟨r,rfl,hr⟩:=H;exact hr bb h
  refine pure_ex (f:=226) (n:=n+3) (args:=[.sc (.slice none 0 0),.sc (.int .i64 x),.fn 300 []]) (fun r=>r= .tp [.sc (.int .i64 0),.sc (.bool false)]) ⟨Tryz.f226.ntmps,(Tryz.f226.body).getD .skip,[.tmp 6,.tmp 7]⟩ (by kernel_rfl) (by kernel_rfl) rfl (by kernel_rfl) (by simp[Tryz.f226]) rfl ?_;simp[Tryz.f226];refine loop_up (C:=cx) (G:=fun r=>∃r0 h',finX _ (thenX _ _ (blockX _ r) _)=some (r0,h')∧snap h' 8 r0=some (.tp [.sc (.int .i64 0),.sc (.bool false)]))
   (fun k s=>s.1.length=49∧gt s.1 8= .sc (.int .i64 0)∧gt s.1 9= .sc (.int .i64 0)∧gt s.1 10= .sc (.int .i64 0))
   (fun o s=>o= .exit 0∧s.1.length=49∧gt s.1 8= .sc (.int .i64 0)∧gt s.1 9= .sc (.int .i64 0)) 0 (by simp) (by simp) ?_ ?_
  ·rintro k fr h hle ⟨hlen,h8,h9,h10⟩;simp only at hlen h8 h9 h10;simp[hlen,h8,h9,h10]
  ·rintro o fr h hn ⟨rfl,hlen,h8,h9⟩;simp only at hlen h8 h9;simp[hlen,h8,h9];exact⟨_,_,⟨rfl,rfl⟩,rfl⟩
 suffices H:∃r,r=AV.tp [.sc (.int .i64 pre.length),.sc (.bool !mid.isEmpty)]∧∀b h,callN cx (n+4) b 226 [.ls 3 rows z,.sc (.int .i64 x),.fn 300 []] h=some (r,h) by
  obtain⟨r,rfl,hr⟩:=H;exact hr bb h
 refine pure_ex (f:=226) (n:=n+3) (args:=[.ls 3 rows z,.sc (.int .i64 x),.fn 300 []]) (fun r=>r= .tp [.sc (.int .i64 pre.length),.sc (.bool !mid.isEmpty)]) ⟨Tryz.f226.ntmps,(Tryz.f226.body).getD .skip,[.tmp 6,.tmp 7]⟩ (by kernel_rfl) (by kernel_rfl) rfl (by kernel_rfl) (by simp[Tryz.f226]) rfl ?_;have f1:=ed_node1 n;generalize n+3=M at f1;simp[Tryz.f226];refine loop_up (C:=cx) (G:=fun r=>∃r0 h',finX _ (thenX _ _ (blockX _ r) _)=some (r0,h')∧snap h' 8 r0=some (.tp [.sc (.int .i64 pre.length),.sc (.bool !mid.isEmpty)]))
  (fun k s=>∃lo hi:Nat,s.1.length=49∧gt s.1 0= .ls 3 rows z∧gt s.1 1= .sc (.int .i64 x)∧gt s.1 2= .fn 300 []∧gt s.1 8= .sc (.int .i64 l.length)∧gt s.1 9= .sc (.int .i64 lo)∧gt s.1 10= .sc (.int .i64 hi)
   ∧lo≤pre.length∧pre.length≤hi∧hi≤l.length∧hi-lo+k≤l.length)
  (fun o s=>o= .exit 0∧s.1.length=49∧gt s.1 0= .ls 3 rows z∧gt s.1 1= .sc (.int .i64 x)∧gt s.1 2= .fn 300 []∧gt s.1 8= .sc (.int .i64 l.length)∧gt s.1 9= .sc (.int .i64 pre.length)) l.length (by simp;omega) ?_ ?_ ?_
 ·refine⟨0,l.length,?_⟩;simp[hq,hp]
 ·rintro k fr h hle ⟨lo,hi,hlen,h0,h1,h2,h8,h9,h10,q1,q2,q3,q4⟩;simp only at hlen h0 h1 h2 h8 h9 h10;by_cases hh:lo<hi
  ·have hm1:lo≤(lo+hi)/2:=by omega
   have hm2:(lo+hi)/2<hi:=by omega
   generalize hmid:(lo+hi)/2=md at hm1 hm2;obtain⟨c,hc⟩:∃c,l[md]?=some c:=⟨_,Zb (by omega)⟩;obtain⟨a,b,hr⟩:=hg md c hc;have hr':∀k,rows[md]'k=[.sc (.int .i64 c.id),a,b]:=fun k=>by obtain⟨_,e⟩:=Za.1 hr;exact e
   have e1:fitI .i64 ((lo:Int)+hi)=((lo+hi:Nat):Int):=by rw[show(lo:Int)+hi=((lo+hi:Nat):Int) by omega];exact fit_i64 (by omega) (by omega)
   have e2:fitI .u64 ((lo:Int)+hi)=(lo:Int)+hi:=fit_u64 (by omega) (by omega);have e3:((lo:Int)+hi)/2=(md:Int):=by omega
   have e4:fitI .i64 (md:Int)=md:=fit_i64 (by omega) (by omega);have e5:fitI .i64 ((md:Int)+1)=((md+1:Nat):Int):=fit_i64 (by omega) (by omega);have hmq:md<l.length:=Yl hm2 q3;have hlt:=hs.lt_iff hc;by_cases hk:cmpI c.id x<0
   ·have hmp:md<pre.length:=hlt.1 (by simpa[ltN,ltE]using(cmpI_lt _ _).1 hk);simp[hlen,h0,h1,h2,h8,h9,h10,hh,e1,e2,e3,e4,e5,hq,hmq,hr,hr',f1,hk,IntKind.bits];clear e1 e2 e3 e4 e5;exact⟨by omega,md+1,by omega,hi,rfl,by omega,by omega,by omega,by omega⟩
   ·have hmp:pre.length≤md:=by
     refine Yb fun q=>hk ?_
     have:=hlt.2 q;exact(cmpI_lt _ _).2 (by simpa[ltN,ltE]using this)
    simp[hlen,h0,h1,h2,h8,h9,h10,hh,e1,e2,e3,e4,e5,hq,hmq,hr,hr',f1,hk,IntKind.bits];clear e1 e2 e3 e4 e5;exact⟨by omega,lo,rfl,md,rfl,by omega,by omega,by omega,by omega⟩
  ·have hlo:lo=pre.length:=by omega
   subst hlo;simp[hlen,h0,h1,h2,h8,h9,h10,hh]
 ·rintro o fr h hn ⟨rfl,hlen,h0,h1,h2,h8,h9⟩;simp only at hlen h0 h1 h2 h8 h9;by_cases hh:pre.length<l.length
  ·obtain⟨c,hc⟩:∃c,l[pre.length]?=some c:=⟨_,Zb hh⟩;obtain⟨a,b,hr⟩:=hg pre.length c hc;have hr':∀k,rows[pre.length]'k=[.sc (.int .i64 c.id),a,b]:=fun k=>by obtain⟨_,e⟩:=Za.1 hr;exact e
   have hfd:(!mid.isEmpty)=decide (cmpI c.id x=0):=by
    rw[←hs.eq_at hc,Bool.eq_iff_iff,decide_eq_true_iff,cmpI_eq];simp[eqN,eqE]
   rw[hfd];simp[hlen,h0,h1,h2,h8,h9,hh,hq,hr,hr',f1];exact⟨_,_,⟨rfl,rfl⟩,rfl⟩
  ·have hfd:(!mid.isEmpty)=false:=by rw[hs.nil_at (by omega)];rfl
   rw[hfd];simp[hlen,h0,h1,h2,h8,h9,hh];exact⟨_,_,⟨rfl,rfl⟩,rfl⟩
theorem sl_Search_edge (n:Nat)(l pre mid post:List Ed)(x:Int)(rows:List (List AV))(S:AV)(hS:(∃z,S= .ls 5 rows z)∨(rows=[]∧S= .sc (.slice none 0 0)))(hl:l.length≤1000000000000000)(hq:rows.length=l.length)(hg:∀(i:Nat) (c:Ed),l[i]?=some c→∃a b d e:AV,rows[i]?=some [.sc (.int .i64 c.id),a,b,d,e])(hs:Spl (ltE x) (eqE x) l pre mid post)(bb:Bool)(h:Hp):
 callN cx (n+4) bb 311 [S,.sc (.int .i64 x),.fn 312 []] h=some (.tp [.sc (.int .i64 pre.length),.sc (.bool !mid.isEmpty)],h):=by
 have hp:pre.length≤l.length:=by rw[hs.e];simp
 rcases hS with⟨z,rfl⟩|⟨rfl,rfl⟩
 case inr=>
  have hl0:l=[]:=Zl (by simpa using hq.symm);subst hl0;have hp0:pre=[]:=Zl (by simpa using hp);have hm0:mid=[]:=hs.nil_at (by simp);subst hp0 hm0
  suffices H:∃r,r=AV.tp [.sc (.int .i64 0),.sc (.bool false)]∧∀b h,callN cx (n+4) b 311 [.sc (.slice none 0 0),.sc (.int .i64 x),.fn 312 []] h=some (r,h) by
   obtain⟨r,rfl,hr⟩:=H;exact hr bb h
  refine pure_ex (f:=311) (n:=n+3) (args:=[.sc (.slice none 0 0),.sc (.int .i64 x),.fn 312 []]) (fun r=>r= .tp [.sc (.int .i64 0),.sc (.bool false)]) ⟨Tryz.f311.ntmps,(Tryz.f311.body).getD .skip,[.tmp 6,.tmp 7]⟩ (by kernel_rfl) (by kernel_rfl) rfl (by kernel_rfl) (by simp[Tryz.f311]) rfl ?_;simp[Tryz.f311];refine loop_up (C:=cx) (G:=fun r=>∃r0 h',finX _ (thenX _ _ (blockX _ r) _)=some (r0,h')∧snap h' 8 r0=some (.tp [.sc (.int .i64 0),.sc (.bool false)]))
   (fun k s=>s.1.length=49∧gt s.1 8= .sc (.int .i64 0)∧gt s.1 9= .sc (.int .i64 0)∧gt s.1 10= .sc (.int .i64 0))
   (fun o s=>o= .exit 0∧s.1.length=49∧gt s.1 8= .sc (.int .i64 0)∧gt s.1 9= .sc (.int .i64 0)) 0 (by simp) (by simp) ?_ ?_
  ·rintro k fr h hle ⟨hlen,h8,h9,h10⟩;simp only at hlen h8 h9 h10;simp[hlen,h8,h9,h10]
  ·rintro o fr h hn ⟨rfl,hlen,h8,h9⟩;simp only at hlen h8 h9;simp[hlen,h8,h9];exact⟨_,_,⟨rfl,rfl⟩,rfl⟩
 suffices H:∃r,r=AV.tp [.sc (.int .i64 pre.length),.sc (.bool !mid.isEmpty)]∧∀b h,callN cx (n+4) b 311 [.ls 5 rows z,.sc (.int .i64 x),.fn 312 []] h=some (r,h) by
  obtain⟨r,rfl,hr⟩:=H;exact hr bb h
 refine pure_ex (f:=311) (n:=n+3) (args:=[.ls 5 rows z,.sc (.int .i64 x),.fn 312 []]) (fun r=>r= .tp [.sc (.int .i64 pre.length),.sc (.bool !mid.isEmpty)]) ⟨Tryz.f311.ntmps,(Tryz.f311.body).getD .skip,[.tmp 6,.tmp 7]⟩ (by kernel_rfl) (by kernel_rfl) rfl (by kernel_rfl) (by simp[Tryz.f311]) rfl ?_;have f1:=ed_edge1 n;generalize n+3=M at f1;simp[Tryz.f311];refine loop_up (C:=cx) (G:=fun r=>∃r0 h',finX _ (thenX _ _ (blockX _ r) _)=some (r0,h')∧snap h' 8 r0=some (.tp [.sc (.int .i64 pre.length),.sc (.bool !mid.isEmpty)]))
  (fun k s=>∃lo hi:Nat,s.1.length=49∧gt s.1 0= .ls 5 rows z∧gt s.1 1= .sc (.int .i64 x)∧gt s.1 2= .fn 312 []∧gt s.1 8= .sc (.int .i64 l.length)∧gt s.1 9= .sc (.int .i64 lo)∧gt s.1 10= .sc (.int .i64 hi)
   ∧lo≤pre.length∧pre.length≤hi∧hi≤l.length∧hi-lo+k≤l.length)
  (fun o s=>o= .exit 0∧s.1.length=49∧gt s.1 0= .ls 5 rows z∧gt s.1 1= .sc (.int .i64 x)∧gt s.1 2= .fn 312 []∧gt s.1 8= .sc (.int .i64 l.length)∧gt s.1 9= .sc (.int .i64 pre.length)) l.length (by simp;omega) ?_ ?_ ?_
 ·refine⟨0,l.length,?_⟩;simp[hq,hp]
 ·rintro k fr h hle ⟨lo,hi,hlen,h0,h1,h2,h8,h9,h10,q1,q2,q3,q4⟩;simp only at hlen h0 h1 h2 h8 h9 h10;by_cases hh:lo<hi
  ·have hm1:lo≤(lo+hi)/2:=by omega
   have hm2:(lo+hi)/2<hi:=by omega
   generalize hmid:(lo+hi)/2=md at hm1 hm2;obtain⟨c,hc⟩:∃c,l[md]?=some c:=⟨_,Zb (by omega)⟩;obtain⟨a,b,d,e,hr⟩:=hg md c hc;have hr':∀k,rows[md]'k=[.sc (.int .i64 c.id),a,b,d,e]:=fun k=>by obtain⟨_,e⟩:=Za.1 hr;exact e
   have e1:fitI .i64 ((lo:Int)+hi)=((lo+hi:Nat):Int):=by rw[show(lo:Int)+hi=((lo+hi:Nat):Int) by omega];exact fit_i64 (by omega) (by omega)
   have e2:fitI .u64 ((lo:Int)+hi)=(lo:Int)+hi:=fit_u64 (by omega) (by omega);have e3:((lo:Int)+hi)/2=(md:Int):=by omega
   have e4:fitI .i64 (md:Int)=md:=fit_i64 (by omega) (by omega);have e5:fitI .i64 ((md:Int)+1)=((md+1:Nat):Int):=fit_i64 (by omega) (by omega);have hmq:md<l.length:=Yl hm2 q3;have hlt:=hs.lt_iff hc;by_cases hk:cmpI c.id x<0
   ·have hmp:md<pre.length:=hlt.1 (by simpa[ltN,ltE]using(cmpI_lt _ _).1 hk);simp[hlen,h0,h1,h2,h8,h9,h10,hh,e1,e2,e3,e4,e5,hq,hmq,hr,hr',f1,hk,IntKind.bits];clear e1 e2 e3 e4 e5;exact⟨by omega,md+1,by omega,hi,rfl,by omega,by omega,by omega,by omega⟩
   ·have hmp:pre.length≤md:=by
     refine Yb fun q=>hk ?_
     have:=hlt.2 q;exact(cmpI_lt _ _).2 (by simpa[ltN,ltE]using this)
    simp[hlen,h0,h1,h2,h8,h9,h10,hh,e1,e2,e3,e4,e5,hq,hmq,hr,hr',f1,hk,IntKind.bits];clear e1 e2 e3 e4 e5;exact⟨by omega,lo,rfl,md,rfl,by omega,by omega,by omega,by omega⟩
  ·have hlo:lo=pre.length:=by omega
   subst hlo;simp[hlen,h0,h1,h2,h8,h9,h10,hh]
 ·rintro o fr h hn ⟨rfl,hlen,h0,h1,h2,h8,h9⟩;simp only at hlen h0 h1 h2 h8 h9;by_cases hh:pre.length<l.length
  ·obtain⟨c,hc⟩:∃c,l[pre.length]?=some c:=⟨_,Zb hh⟩;obtain⟨a,b,d,e,hr⟩:=hg pre.length c hc;have hr':∀k,rows[pre.length]'k=[.sc (.int .i64 c.id),a,b,d,e]:=fun k=>by obtain⟨_,e⟩:=Za.1 hr;exact e
   have hfd:(!mid.isEmpty)=decide (cmpI c.id x=0):=by
    rw[←hs.eq_at hc,Bool.eq_iff_iff,decide_eq_true_iff,cmpI_eq];simp[eqN,eqE]
   rw[hfd];simp[hlen,h0,h1,h2,h8,h9,hh,hq,hr,hr',f1];exact⟨_,_,⟨rfl,rfl⟩,rfl⟩
  ·have hfd:(!mid.isEmpty)=false:=by rw[hs.nil_at (by omega)];rfl
   rw[hfd];simp[hlen,h0,h1,h2,h8,h9,hh];exact⟨_,_,⟨rfl,rfl⟩,rfl⟩
theorem sl_Search_prop (n:Nat)(l pre mid post:List Prp)(x:ByteArray)(rows:List (List AV))(S:AV)(hS:(∃z,S= .ls 6 rows z)∨(rows=[]∧S= .sc (.slice none 0 0)))(hl:l.length≤1000000000000000)(hq:rows.length=l.length)(hg:∀(i:Nat) (c:Prp),l[i]?=some c→rows[i]?=some (encR c))(hs:Spl (ltR x) (eqR x) l pre mid post)(bb:Bool)(h:Hp):
 callN cx (n+4) bb 307 [S,.sc (.string x),.fn 308 []] h=some (.tp [.sc (.int .i64 pre.length),.sc (.bool !mid.isEmpty)],h):=by
 have hp:pre.length≤l.length:=by rw[hs.e];simp
 rcases hS with⟨z,rfl⟩|⟨rfl,rfl⟩
 case inr=>
  have hl0:l=[]:=Zl (by simpa using hq.symm);subst hl0;have hp0:pre=[]:=Zl (by simpa using hp);have hm0:mid=[]:=hs.nil_at (by simp);subst hp0 hm0
  suffices H:∃r,r=AV.tp [.sc (.int .i64 0),.sc (.bool false)]∧∀b h,callN cx (n+4) b 307 [.sc (.slice none 0 0),.sc (.string x),.fn 308 []] h=some (r,h) by
   obtain⟨r,rfl,hr⟩:=H;exact hr bb h
  refine pure_ex (f:=307) (n:=n+3) (args:=[.sc (.slice none 0 0),.sc (.string x),.fn 308 []]) (fun r=>r= .tp [.sc (.int .i64 0),.sc (.bool false)]) ⟨Tryz.f307.ntmps,(Tryz.f307.body).getD .skip,[.tmp 6,.tmp 7]⟩ (by kernel_rfl) (by kernel_rfl) rfl (by kernel_rfl) (by simp[Tryz.f307]) rfl ?_;simp[Tryz.f307];refine loop_up (C:=cx) (G:=fun r=>∃r0 h',finX _ (thenX _ _ (blockX _ r) _)=some (r0,h')∧snap h' 8 r0=some (.tp [.sc (.int .i64 0),.sc (.bool false)]))
   (fun k s=>s.1.length=49∧gt s.1 8= .sc (.int .i64 0)∧gt s.1 9= .sc (.int .i64 0)∧gt s.1 10= .sc (.int .i64 0))
   (fun o s=>o= .exit 0∧s.1.length=49∧gt s.1 8= .sc (.int .i64 0)∧gt s.1 9= .sc (.int .i64 0)) 0 (by simp) (by simp) ?_ ?_
  ·rintro k fr h hle ⟨hlen,h8,h9,h10⟩;simp only at hlen h8 h9 h10;simp[hlen,h8,h9,h10]
  ·rintro o fr h hn ⟨rfl,hlen,h8,h9⟩;simp only at hlen h8 h9;simp[hlen,h8,h9];exact⟨_,_,⟨rfl,rfl⟩,rfl⟩
 suffices H:∃r,r=AV.tp [.sc (.int .i64 pre.length),.sc (.bool !mid.isEmpty)]∧∀b h,callN cx (n+4) b 307 [.ls 6 rows z,.sc (.string x),.fn 308 []] h=some (r,h) by
  obtain⟨r,rfl,hr⟩:=H;exact hr bb h
 refine pure_ex (f:=307) (n:=n+3) (args:=[.ls 6 rows z,.sc (.string x),.fn 308 []]) (fun r=>r= .tp [.sc (.int .i64 pre.length),.sc (.bool !mid.isEmpty)]) ⟨Tryz.f307.ntmps,(Tryz.f307.body).getD .skip,[.tmp 6,.tmp 7]⟩ (by kernel_rfl) (by kernel_rfl) rfl (by kernel_rfl) (by simp[Tryz.f307]) rfl ?_;have f1:=c_set1 n;generalize n+3=M at f1;simp[Tryz.f307];refine loop_up (C:=cx) (G:=fun r=>∃r0 h',finX _ (thenX _ _ (blockX _ r) _)=some (r0,h')∧snap h' 8 r0=some (.tp [.sc (.int .i64 pre.length),.sc (.bool !mid.isEmpty)]))
  (fun k s=>∃lo hi:Nat,s.1.length=49∧gt s.1 0= .ls 6 rows z∧gt s.1 1= .sc (.string x)∧gt s.1 2= .fn 308 []∧gt s.1 8= .sc (.int .i64 l.length)∧gt s.1 9= .sc (.int .i64 lo)∧gt s.1 10= .sc (.int .i64 hi)
   ∧lo≤pre.length∧pre.length≤hi∧hi≤l.length∧hi-lo+k≤l.length)
  (fun o s=>o= .exit 0∧s.1.length=49∧gt s.1 0= .ls 6 rows z∧gt s.1 1= .sc (.string x)∧gt s.1 2= .fn 308 []∧gt s.1 8= .sc (.int .i64 l.length)∧gt s.1 9= .sc (.int .i64 pre.length)) l.length (by simp;omega) ?_ ?_ ?_
 ·refine⟨0,l.length,?_⟩;simp[hq,hp]
 ·rintro k fr h hle ⟨lo,hi,hlen,h0,h1,h2,h8,h9,h10,q1,q2,q3,q4⟩;simp only at hlen h0 h1 h2 h8 h9 h10;by_cases hh:lo<hi
  ·have hm1:lo≤(lo+hi)/2:=by omega
   have hm2:(lo+hi)/2<hi:=by omega
   generalize hmid:(lo+hi)/2=md at hm1 hm2;obtain⟨c,hc⟩:∃c,l[md]?=some c:=⟨_,Zb (by omega)⟩;have hr:=hg md c hc;have hr':∀k,rows[md]'k=(encR c):=fun k=>by obtain⟨_,e⟩:=Za.1 hr;exact e
   have e1:fitI .i64 ((lo:Int)+hi)=((lo+hi:Nat):Int):=by rw[show(lo:Int)+hi=((lo+hi:Nat):Int) by omega];exact fit_i64 (by omega) (by omega)
   have e2:fitI .u64 ((lo:Int)+hi)=(lo:Int)+hi:=fit_u64 (by omega) (by omega);have e3:((lo:Int)+hi)/2=(md:Int):=by omega
   have e4:fitI .i64 (md:Int)=md:=fit_i64 (by omega) (by omega);have e5:fitI .i64 ((md:Int)+1)=((md+1:Nat):Int):=fit_i64 (by omega) (by omega);have hmq:md<l.length:=Yl hm2 q3;have hlt:=hs.lt_iff hc;by_cases hk:cmpS c.key x<0
   ·have hmp:md<pre.length:=hlt.1 (by simpa[ltR]using(cmpS_lt _ _).1 hk);simp[hlen,h0,h1,h2,h8,h9,h10,hh,e1,e2,e3,e4,e5,hq,hmq,hr,hr',f1,hk,IntKind.bits,encR_take];clear e1 e2 e3 e4 e5;exact⟨by omega,md+1,by omega,hi,rfl,by omega,by omega,by omega,by omega⟩
   ·have hmp:pre.length≤md:=by
     refine Yb fun q=>hk ?_
     have:=hlt.2 q;exact(cmpS_lt _ _).2 (by simpa[ltR]using this)
    simp[hlen,h0,h1,h2,h8,h9,h10,hh,e1,e2,e3,e4,e5,hq,hmq,hr,hr',f1,hk,IntKind.bits,encR_take];clear e1 e2 e3 e4 e5;exact⟨by omega,lo,rfl,md,rfl,by omega,by omega,by omega,by omega⟩
  ·have hlo:lo=pre.length:=by omega
   subst hlo;simp[hlen,h0,h1,h2,h8,h9,h10,hh]
 ·rintro o fr h hn ⟨rfl,hlen,h0,h1,h2,h8,h9⟩;simp only at hlen h0 h1 h2 h8 h9;by_cases hh:pre.length<l.length
  ·obtain⟨c,hc⟩:∃c,l[pre.length]?=some c:=⟨_,Zb hh⟩;have hr:=hg pre.length c hc;have hr':∀k,rows[pre.length]'k=(encR c):=fun k=>by obtain⟨_,e⟩:=Za.1 hr;exact e
   have hfd:(!mid.isEmpty)=decide (cmpS c.key x=0):=by
    rw[←hs.eq_at hc,Bool.eq_iff_iff,decide_eq_true_iff,cmpS_eq0];simp[eqR]
   rw[hfd];simp[hlen,h0,h1,h2,h8,h9,hh,hq,hr,hr',f1,encR_take];exact⟨_,_,⟨rfl,rfl⟩,rfl⟩
  ·have hfd:(!mid.isEmpty)=false:=by rw[hs.nil_at (by omega)];rfl
   rw[hfd];simp[hlen,h0,h1,h2,h8,h9,hh];exact⟨_,_,⟨rfl,rfl⟩,rfl⟩
end
end Go.Proofs.YtadaeokidcgdlaaGreatDoor
