/- The keys of a map in order: the contract of the library's function, out of the kit's. -/
import Derived.Test.YtmocfjnklfpnbaaGreatDoorP13
import Derived.Test.YtmocfjnklfpnbaaGreatDoorP42
import Derived.StringKeys
import Derived.Test.YtmocfjnklfpnbaaGreatDoorP11
import Derived.Shelf.SlSortCmp.InsertionK
import Derived.Shelf.SlSortCmp.Kit1
import Derived.Shelf.SlSortCmp.Whole1
import Derived.Shelf.SlSortCmp.WholeK
import Derived.Shelf.SlSortCmp.NoneTotal
import Derived.WalkKit
import Derived.Lib.Walk
import Derived.Lib.SliceRun
import Derived.Lib.AppendZerosOnto
import Derived.Lib.Overlaps
import Derived.Laws.Externs
import Derived.Laws.IdiomCopy
import Derived.Shelf.RegionOpenPlain
set_option linter.all false
set_option maxRecDepth 100000
namespace Go.Proofs.YtmocfjnklfpnbaaGreatDoor
open Go Go.Ae Go.RowKit Go.Maps Go.Sort Go.Shelf
theorem insert_perm {H:Type}(x:Lit × DataW H):∀l:List (Lit × DataW H),(DataW.insert x l).Perm (x::l)
 | []=> .refl _
 |
  y::r=>by
  unfold DataW.insert;split
  ·exact .refl _
  ·exact((insert_perm x r).cons y).trans (.swap x y r)
theorem foldr_perm {H:Type}:∀l:List (Lit × DataW H),(l.foldr DataW.insert []).Perm l
 | []=> .refl _
 |x::l=>(insert_perm x _).trans ((foldr_perm l).cons x)
def byt (s:ByteArray):List UInt8:=s.data.toList
theorem insS_perm (x:ByteArray):∀l:List ByteArray,(insS x l).Perm (x::l)
 | []=> .refl _
 |
  y::r=>by
  unfold insS;split
  ·exact .refl _
  ·exact((insS_perm x r).cons y).trans (.swap x y r)
theorem sortS_perm :∀l:List ByteArray,(sortS l).Perm l
 | []=> .refl _
 |x::l=>(insS_perm x _).trans ((sortS_perm l).cons x)
theorem insS_sorted (x:ByteArray):∀l:List ByteArray,l.Pairwise (fun a b=>leS a b=true)→(insS x l).Pairwise (fun a b=>leS a b=true)
 | [],_=>List.pairwise_singleton _ _
 |
  y::r,h=>by
  unfold insS;have h1:=List.pairwise_cons.1 h;split
  ·rename_i hxy;refine List.pairwise_cons.2 ⟨fun z hz=>?_,h⟩;rcases List.mem_cons.1 hz with rfl|hz
   ·exact hxy
   ·have h2:=h1.1 z hz;simp only[leS,Zz]at *;exact List.le_trans hxy h2
  ·rename_i hxy;have hyx:leS y x=true:=by
    simp only[leS,Zz]at *;exact(List.le_total _ _).resolve_left hxy
   refine List.pairwise_cons.2 ⟨fun z hz=>?_,insS_sorted x r h1.2⟩;rcases List.mem_cons.1 ((insS_perm x r).mem_iff.1 hz)with rfl|hz
   ·exact hyx
   ·exact h1.1 z hz
theorem sortS_sorted :∀l:List ByteArray,(sortS l).Pairwise (fun a b=>leS a b=true)
 | []=>List.Pairwise.nil
 |x::l=>insS_sorted x _ (sortS_sorted l)
theorem sort_eq {ss:List (List UInt8)}{ks:List ByteArray}(h:ss.Perm (ks.map byt)):ss.mergeSort (fun x y=>decide (x≤y))=(sortS ks).map byt:=by
 have tr:∀a b c:List UInt8,leB a b=true→leB b c=true→leB a c=true:=fun a b c h1 h2=>by simp only[leB,Zz]at *;exact List.le_trans h1 h2
 have to:∀a b:List UInt8,(leB a b||leB b a)=true:=fun a b=>by simp only[leB,Bool.or_eq_true,Zz];exact List.le_total a b
 refine List.Perm.eq_of_pairwise (le:=fun a b=>leB a b=true) (fun a b _ _ h1 h2=>?_) (List.pairwise_mergeSort tr to ss) ?_ (((List.mergeSort_perm ss leB).trans h).trans ((sortS_perm ks).map byt).symm)
 ·simp only[leB,Zz]at h1 h2;exact List.le_antisymm h1 h2
 ·exact List.pairwise_map.2 (sortS_sorted ks)
theorem below_step {w w':World}(h:Below w.heap.size w w')(hd:w.drawn≤w'.drawn):Step w none' w' none':={
 os:=h.os
 tape:=h.tape
 output:=h.output
 size:=h.size
 keep:=fun b hb _=>h.block b hb
 row:=fun b cur t fz hb=>⟨cur,t,fz,(h.block b (heap_lt hb)).trans hb,rfl⟩
 less:=fun _ _ h=>h
 drew:=hd}
set_option maxHeartbeats 1000000 in
theorem sort_ok :SortOK cx 224 281:=by
 refine⟨⟨_,Tryz.func224,of_decide_eq_true (by kernel_rfl),by kernel_rfl⟩,fun w bx id ms clock ks hcell hid hborn hnd hkeys hknd hksz hlen=>?_⟩;have hkey:∀x∈ms.toList,∃s:ByteArray,x.key= .string s∧s.size≤maxLen:=fun x hx=>by
  have:x.key∈ks.map Value.string:=by rw[←hkeys];exact Yh.2 ⟨x,hx,rfl⟩
  obtain⟨s,hs,e⟩:=Yh.1 this;exact⟨s,e.symm,hksz s hs⟩
 have hsize:ms.size=ks.length:=by have:=congrArg List.length hkeys;simpa using this
 have hrd:∀x∈ms.toList,∀s:ByteArray,x.key= .string s→s.size≤maxLen→WideElems.rd cx.P 9 (fun _=>some ((.nil:DataW Unit),[])) x=some (.string s.data.toList,.nil):=fun x _ s e hs=>by
  unfold WideElems.rd;rw[e,WideMaps.keyOf_string_mk (P:=cx.P) Tryz.underlying9 hs];rfl
 have F:WideElems.Fit cx.P 9 (fun _=>some ((.nil:DataW Unit),[])) ms clock:=by
  refine⟨by unfold maxLen;omega,⟨hborn,hnd,?_⟩,fun x hx=>?_⟩
  ·rw[hkeys];exact List.pairwise_map.2 (hknd.imp fun{a b} hne e=>hne (by injection e))
  ·obtain⟨s,e,hs⟩:=hkey x hx;exact⟨_,hrd x hx s e hs⟩
 have hown:w.ownsMap cx.P 9 (fun _=>some ((.nil:DataW Unit),[])) id ms.size (.map ((ms.toList.map (WideElems.rg cx.P 9 (fun _=>some ((.nil:DataW Unit),[])))).foldr DataW.insert [])):=⟨ms,clock,hid,F,Nat.le_refl _,rfl⟩;have hbx:bx<w.heap.size:=by
  unfold World.cell? at hcell;cases hb:w.heap[bx]? with
  |none=>simp[hb]at hcell
  |some o=>exact heap_lt hb
 have hstr:(strKeys (.map ((ms.toList.map (WideElems.rg cx.P 9 (fun _=>some ((.nil:DataW Unit),[])))).foldr DataW.insert []):DataW Unit)).Perm (ks.map byt):=by
  refine((foldr_perm _).map _).trans (List.Perm.of_eq ?_);rw[List.map_map];have:(ms.toList.map (·.key)).map (fun v=>match v with| .string s=>byt s|_=> [])=(ks.map Value.string).map (fun v=>match v with| .string s=>byt s|_=> []):=by rw[hkeys]
  rw[List.map_map,List.map_map]at this;refine(List.map_congr_left fun x hx=>?_).trans this;obtain⟨s,e,hs⟩:=hkey x hx;simp only[Function.comp,WideElems.rg_of (hrd x hx s e hs),e];rfl
 have hN:Maps.size (.map ((ms.toList.map (WideElems.rg cx.P 9 (fun _=>some ((.nil:DataW Unit),[])))).foldr DataW.insert []):DataW Unit)=ks.length:=by
  show(List.foldr DataW.insert [] _).length=_;rw[(foldr_perm _).length_eq,List.length_map,←hsize,Array.length_toList]
 have hseq:SeqGives Fence.wide 2 cx.P 281 #[.pointer (some ⟨bx,0,none⟩)] encStr (fun ss=>ss.Perm (strKeys (.map ((ms.toList.map (WideElems.rg cx.P 9 (fun _=>some ((.nil:DataW Unit),[])))).foldr DataW.insert []):DataW Unit))) _ w:=
  AnyZ.keys_gives (ρ:=Tryz.keys225_ren) {Tryz.keys225 with} Fence.wide _ trivial rfl (by omega) bx id ms.size _ w hbx hcell hown
 have hcall:=callsIn_wide.1 (AnyZ.sorted_in Tryz.sorted224 Fence.wide 5 trivial trivial trivial trivial rfl (by omega) (Tryz.sorts224 _) (enters_of Tryz.func280 (by kernel_rfl) rfl) 281 #[.pointer (some ⟨bx,0,none⟩)] trivial (enters_of Tryz.func281 (by kernel_rfl) rfl) _ _ (by rw[hN];unfold maxLen;omega) (by rw[hN];omega) w hseq);refine(calls_drawn hcall (fun w' ⟨v,ss,he,_⟩=>by cases he)).mono ?_;rintro e w' ⟨⟨v,ss,rfl,hS,hrow,hnil,hb⟩,hd⟩;have hp:=hS.trans hstr;have hse:=sort_eq hp;have hl:ss.length=ks.length:=by rw[hp.length_eq,List.length_map]
 refine⟨v,rfl,below_step hb hd,?_⟩;by_cases h0:ks=[]
 ·left;refine⟨h0,hnil.2 (Zl (by rw[hl,h0];rfl))⟩
 ·right;have hpos:0<ks.length:=List.length_pos_iff.2 h0;refine⟨h0,?_⟩;obtain⟨hlen',hh⟩:=hrow;rcases hh with⟨_,hz⟩|⟨B,cap,cur,rfl,hB,hcur,c1,c2,c3,c4⟩
  ·omega
  ·refine⟨B,cap,cur,_,by rw[hl],hB,hcur,by omega,c2,by omega,fun k s hk=>?_⟩;rw[hse]at c4;have hk':((((sortS ks).map byt).map encStr))[k]?=some (.string s):=by
    rw[List.map_map,Zs,hk];show some (encStr (byt s))=_;simp[encStr,byt]
   rw[←c4,List.getElem?_take]at hk';split at hk'
   ·simpa using hk'
   ·cases hk'
end Go.Proofs.YtmocfjnklfpnbaaGreatDoor
namespace Go.Ae
open Go Go.Proofs Go.Shelf Go.RowKit Go.Lib Go.Sort
theorem flat_get {α:Type}[Inhabited α]{us:α→List Value}{s:Nat}(hu:∀i,(us i).length=s)(hs:0<s):∀(l:List α) (k:Nat) (u:Value),(l.flatMap us)[k]?=some u→k<l.length*s∧(us l[k/s]!)[k % s]! =u
 | [],k,u,h=>by simp at h
 |
  i::l,k,u,h=>by
  rw[List.flatMap_cons]at h;by_cases hk:k<s
  ·rw[Zd (by rw[hu];exact hk)]at h;refine⟨by rw[List.length_cons,Nat.add_mul];omega,?_⟩;rw[Nat.div_eq_of_lt hk,Nat.mod_eq_of_lt hk];simp[h]
  ·rw[Zf (by rw[hu];omega),hu]at h;obtain⟨h1,h2⟩:=flat_get hu hs l (k-s) u h;refine⟨by rw[List.length_cons,Nat.add_mul];omega,?_⟩;have e1:k/s=(k-s)/s+1:=by rw[←Nat.sub_add_cancel (show s≤k by omega),Nat.add_div_right _ hs];simp
   have e2:k % s=(k-s) % s:=by rw[Nat.mod_eq_sub_mod (by omega)]
   rw[e1,e2];simpa using h2
theorem world_ext {a b:World}(h1:a.heap=b.heap)(h2:a.tape=b.tape)(h3:a.drawn=b.drawn)(h4:a.os=b.os)(h5:a.output=b.output):a=b:=by
 cases a;cases b;simp_all
theorem step_grow {W W':World}(h:Step W none' W' none'):W'=grow (W.drewN (W'.drawn-W.drawn)) (W'.heap.extract W.heap.size W'.heap.size):=by
 refine world_ext ?_ h.tape ?_ h.os h.output
 ·show W'.heap=W.heap++_;apply Array.ext_getElem?;intro k;by_cases hk:k<W.heap.size
  ·rw[Array.getElem?_append_left hk];exact h.keep k hk fun q=>q
  ·rw[Array.getElem?_append_right (by omega)];by_cases hk2:k<W'.heap.size
   ·rw[Array.getElem?_extract];have:=h.size;rw[if_pos (by omega)]
    congr 1;omega
   ·rw[Array.getElem?_eq_none (by omega),Array.getElem?_eq_none (by simp;omega)]
 ·have:=h.drew;show W'.drawn=W.drawn+(W'.drawn-W.drawn);omega
def CmpL {α:Type}[Inhabited α](P:Program)(g:Nat)(kk:Nat)(enc:α→List Value)(cf:α→α→Int)(blk off size:Nat)(w:World):Prop:=
 ∀(m:Nat) (os:Array Obj) (dk:Array α),dk.size=size→∀x y:α,
  Calls P g #[eltV kk (enc x),eltV kk (enc y)] (sortWorldK enc (szK kk) w blk off m dk os) fun e w'=>e= .returned (.int .i64 (cf x y))∧∃q os',w'=grow ((sortWorldK enc (szK kk) w blk off m dk os).drewN q) os'
theorem sfnOK_gen {C:Cx}{f:FuncId}{kk:Nat}(hfn:∃fn,C.P.funcs[f]?=some fn∧fn.name≠ "runtime.NumGoroutine" ∧fn.body.isSome=true)
 (hnone:∀(p:Option Addr) (cap:Nat) (fv:Value) (w:World),Calls C.P f #[.slice p 0 cap,fv] w fun e w'=>e= .returned (.tuple #[])∧w'=w)
 (hmain:∀(m:Nat) (enc:Fin (m+1)→List Value) (_:∀x,(enc x).length=szK kk) (_:∀x,∀v∈enc x,v.oneCell'=true) (cf:Fin (m+1)→Fin (m+1)→Int) (_:Sort.SWO (ltOf cf)) (g:Nat) (blk off cap:Nat) (d:Array (Fin (m+1))) (w:World)
  (_:∀args w,(callFunc g args).run C.P w= .ok (.enter g args) w) (_:CmpL C.P g kk enc cf blk off d.size w) (_:HoldsK enc (szK kk) w blk off d) (_:blk<w.heap.size) (_:d.size<4611686018427387904),
  Calls C.P f #[.slice (some ⟨blk,off,none⟩) d.size cap,.func (.func g) #[] #[]] w fun e w'=>e= .returned (.tuple #[])∧∃n os,w'=sortWorldK enc (szK kk) w blk off n (Sort.pdq (ltOf cf) d 0 d.size (Lib.bitLen d.size) true true) os):SfnOK C f kk:=by
 have hsz:0<szK kk:=by unfold szK;split<;>omega
 refine⟨hfn,fun w base cap g us hus=>?_,fun w m cap blk off cur t fz us cf g bs hbs hm hcur hfz hbd hlen hone hcell hswo ⟨fn,g1,g2,g3⟩ hcmp=>?_⟩
 ·exact(hnone base cap _ w).mono fun e w' ⟨he,hw⟩=>⟨he,hw▸Step.refl _ _⟩
 obtain rfl:bs= #[]:=Array.eq_empty_of_size_eq_zero hbs;have eg:∀args w,(callFunc g args).run C.P w= .ok (.enter g args) w:=fun args w=>by
  have hb:fn.body.isNone=false:=by cases hq:fn.body<;>simp_all
  simp only[callFunc,Sem.run_bind,run_program,Result.andThen_ok,g1];simp[g2,hb]
 have hds:(Array.ofFn fun i:Fin (m+1)=>i).size=m+1:=by simp
 have hfz0:=hfz.eq;have hH:HoldsK us (szK kk) w blk off (Array.ofFn fun i:Fin (m+1)=>i):=by
  intro j hj;rw[size_flatK,hds]at hj;have hi:j/szK kk<m+1:=Nat.div_lt_of_lt_mul (by rw[Nat.mul_comm];exact hj);have hr:j % szK kk<szK kk:=Nat.mod_lt _ hsz;constructor
  ·rw[get_flatK us (szK kk) _ j (by rw[hds];exact hj)];have e:(Array.ofFn fun i:Fin (m+1)=>i)[j/szK kk]! =⟨j/szK kk,hi⟩:=by simp[hi]
   rw[e];have hlr:j % szK kk< (us ⟨j/szK kk,hi⟩).length:=by rw[hlen];exact hr
   have:=hcell ⟨j/szK kk,hi⟩ (j % szK kk) _ (Zb hlr);unfold World.cell?;simp only[hcur];have e2:off+j/szK kk*szK kk+j % szK kk=off+j:=by have:=Nat.div_add_mod j (szK kk);rw[Nat.mul_comm]at this;omega
   rw[e2]at this;simpa[hlr]using this
  ·unfold World.frozen?;simp[hcur,hfz0]
 have hsame:∀(q:Nat) (dk:Array (Fin (m+1))) (os:Array Obj),SameBut blk w (sortWorldK us (szK kk) w blk off q dk os):=fun q dk os=>by
  refine⟨rfl,rfl,rfl,?_,fun b hb hne=>?_⟩
  ·unfold sortWorldK;rw[Sort.size_grow,size_putRowK];exact Nat.le_add_right _ _
  ·show((Sort.mapBlock (Sort.ahead w q) blk _).heap++os)[b]?=_;have hbs:b< (Sort.mapBlock (Sort.ahead w q) blk (Sort.putCells id off (flatK us (szK kk) dk))).heap.size:=by simpa[Sort.mapBlock,Sort.ahead]using hb
   rw[Array.getElem?_append_left hbs];simp[Sort.mapBlock,Sort.ahead,Array.getElem?_modify,Ne.symm hne]
 have hc':CmpL C.P g kk us (fun i j=>cf i.1 j.1) blk off (Array.ofFn fun i:Fin (m+1)=>i).size w:=fun q os dk _ x y=>
  (hcmp _ x y (hsame q dk os)).mono fun e W' ⟨he,hst⟩=>⟨he,_,_,step_grow hst⟩
 have:=hmain m us hlen hone (fun i j=>cf i.1 j.1) hswo g blk off cap _ w eg hc' hH (heap_lt hcur) (by rw[hds];exact hm);rw[hds]at this;refine this.mono ?_;rintro e w' ⟨rfl,n,os,rfl⟩;have hperm:=sortQ_perm hswo;have hD:sortQ m cf=(Sort.pdq (ltOf fun i j:Fin (m+1)=>cf i.1 j.1) (Array.ofFn fun i:Fin (m+1)=>i) 0 (m+1) (Lib.bitLen (m+1)) true true).toList:=rfl;have hDs:(Sort.pdq (ltOf fun i j:Fin (m+1)=>cf i.1 j.1) (Array.ofFn fun i:Fin (m+1)=>i) 0 (m+1) (Lib.bitLen (m+1)) true true).size=m+1:=by
  have:=hperm.length_eq;rw[hD]at this;simpa using this
 refine⟨rfl,Sort.putCells id off (flatK us (szK kk) (Sort.pdq (ltOf fun i j:Fin (m+1)=>cf i.1 j.1) (Array.ofFn fun i:Fin (m+1)=>i) 0 (m+1) (Lib.bitLen (m+1)) true true)) cur,?_,by simp[Sort.putCells],fun k hk=>?_,fun k u hu=>?_,hsame _ _ _,?_⟩
 ·show((Sort.mapBlock (Sort.ahead w n) blk _).heap++os)[blk]?=_;have hbs:blk< (Sort.mapBlock (Sort.ahead w n) blk (Sort.putCells id off (flatK us (szK kk) (Sort.pdq (ltOf fun i j:Fin (m+1)=>cf i.1 j.1) (Array.ofFn fun i:Fin (m+1)=>i) 0 (m+1) (Lib.bitLen (m+1)) true true)))).heap.size:=by simpa[Sort.mapBlock,Sort.ahead]using heap_lt hcur
  rw[Array.getElem?_append_left hbs];simp[Sort.mapBlock,Sort.ahead,Array.getElem?_modify,hcur,Sort.onCells]
 ·simp only[Sort.putCells,Array.getElem?_mapIdx,size_flatK,hDs];cases hq:cur[k]? with
  |none=>rfl
  |some v=>simp only[Option.map_some];rw[if_neg (by omega)]
 ·obtain⟨h1,h2⟩:=flat_get hlen hsz _ k u hu;rw[hperm.length_eq,List.length_ofFn]at h1;have hk:off+k<cur.size:=by omega
  simp only[Sort.putCells,Array.getElem?_mapIdx,Array.getElem?_eq_getElem hk,Option.map_some,size_flatK,hDs];rw[if_pos (by omega),Nat.add_sub_cancel_left,get_flatK us (szK kk) _ k (by rw[hDs];exact h1)];rw[hD]at h2;have hlt:k/szK kk< (Sort.pdq (ltOf fun i j:Fin (m+1)=>cf i.1 j.1) (Array.ofFn fun i:Fin (m+1)=>i) 0 (m+1) (Lib.bitLen (m+1)) true true).size:=by
   rw[hDs];exact Nat.div_lt_of_lt_mul (by rw[Nat.mul_comm];exact h1)
  rw[getElem!_pos (Sort.pdq (ltOf fun i j:Fin (m+1)=>cf i.1 j.1) (Array.ofFn fun i:Fin (m+1)=>i) 0 (m+1) (Lib.bitLen (m+1)) true true).toList (k/szK kk) (by simpa using hlt)]at h2;rw[getElem!_pos (Sort.pdq (ltOf fun i j:Fin (m+1)=>cf i.1 j.1) (Array.ofFn fun i:Fin (m+1)=>i) 0 (m+1) (Lib.bitLen (m+1)) true true) (k/szK kk) hlt];rw[Array.getElem_toList]at h2;exact congrArg some h2
 ·show w.drawn≤w.drawn+n;omega
theorem sfnOK_of {C:Cx}{f:FuncId}{sz:Nat}(hsz:0<sz)(hfn:∃fn,C.P.funcs[f]?=some fn∧fn.name≠ "runtime.NumGoroutine" ∧fn.body.isSome=true)
 (hnone:∀(p:Option Addr) (cap:Nat) (fv:Value) (w:World),Calls C.P f #[.slice p 0 cap,fv] w fun e w'=>e= .returned (.tuple #[])∧w'=w)
 (hmain:∀(m:Nat) (enc:Fin (m+1)→List Value) (_:∀x,(enc x).length=sz) (_:∀x,∀v∈enc x,v.oneCell'=true) (cf:Fin (m+1)→Fin (m+1)→Int) (_:Sort.SWO (ltOf cf)) (g:Nat) (blk off cap:Nat) (d:Array (Fin (m+1))) (w:World)
  (_:∀args w,(callFunc g args).run C.P w= .ok (.enter g args) w) (_:CmpLays C.P g #[] enc sz cf blk off d.size w) (_:HoldsK enc sz w blk off d) (_:blk<w.heap.size) (_:d.size<4611686018427387904),
  Calls C.P f #[.slice (some ⟨blk,off,none⟩) d.size cap,.func (.func g) #[] #[]] w fun e w'=>e= .returned (.tuple #[])∧∃n os,w'=sortWorldK enc sz w blk off n (Sort.pdq (ltOf cf) d 0 d.size (Lib.bitLen d.size) true true) os):SfnOK C f sz:=by
 have e0:szK sz=sz:=by unfold szK;rw[if_neg (by omega)]
 have e1:∀vs:List Value,eltV sz vs= .agg vs.toArray:=fun vs=>by unfold eltV;rw[if_neg (by omega)]
 refine sfnOK_gen hfn hnone fun m enc h1 h2 cf h3 g blk off cap d w h4 h5 h6 h7 h8=>?_
 unfold CmpL at h5;rw[e0]at h1 h6 h5⊢;simp only[e1]at h5;exact hmain m enc h1 h2 cf h3 g blk off cap d w h4 (fun q os dk hs x y=>h5 q os dk hs x y) h6 h7 h8
end Go.Ae
namespace Go.Proofs
open Go Go.Ae Go.RowKit Go.Shelf Go.Sort Go.Lib
set_option maxHeartbeats 2000000 in
theorem Tryz.sf_none (p:Option Addr)(cap:Nat)(fv:Value)(w:World):
 Calls Tryz.prog 18 #[.slice p 0 cap,fv] w fun e w'=>e= .returned (.tuple #[])∧w'=w:=by
 have e14:∀args w,(callFunc 48 args).run Tryz.prog w= .ok (.enter 48 args) w:=Tryz.laysSlF014_f48.f14.enters rfl;have e15:∀args w,(callFunc 49 args).run Tryz.prog w= .ok (.enter 49 args) w:=enters_of Tryz.func49 (by kernel_rfl) rfl;have hp:=fun lim W=>AnyF.pdqsortCmpFunc_none Tryz.laysSlF014_f48 p cap lim fv W
 have hl:∀W,Calls Tryz.prog 49 #[.int .u64 0] W fun e w'=>e= .returned (.int .i64 (Lib.bitLen 0:Nat))∧w'=W:=fun W=>Tryz.bits_Len 0 W (by omega) (by omega)
 go_enter Tryz.func18,Tryz.ntmps18
 go_wp2_with (first|(go_at_fn 49;refine(hl _).mono ?_;rintro e w' ⟨rfl,rfl⟩)|(go_at_fn 48;refine(hp _ _).mono ?_;rintro e w' ⟨rfl,rfl⟩))
 go_end0
 exact⟨rfl,rfl⟩
set_option maxHeartbeats 2000000 in
theorem Tryz.sf_eq {α:Type}[Inhabited α](k:Nat)(aE:∀w,(isAgg 37).run Tryz.prog w= .ok true w)(zE:∀w,(Go.sizeOf 37).run Tryz.prog w= .ok k w)(enc:α→List Value)(hk:∀x,(enc x).length=k)(h1:∀x,∀v∈enc x,v.oneCell'=true)(cf:α→α→Int)(hO:SWO (ltOf cf))(g:Nat)(cb:Array Value)(blk off cap:Nat)(d:Array α)(w:World)
 (eg:∀args w,(callFunc g args).run Tryz.prog w= .ok (.enter g args) w) (hcmp:CmpLays Tryz.prog g cb enc k cf blk off d.size w) (hH:HoldsK enc k w blk off d) (hblk:blk<w.heap.size) (hsz:d.size<4611686018427387904):
 Calls Tryz.prog 18 #[.slice (some ⟨blk,off,none⟩) d.size cap,.func (.func g) #[] cb] w fun e w'=>
  e= .returned (.tuple #[])∧∃n os,w'=sortWorldK enc k w blk off n (pdq (ltOf cf) d 0 d.size (Lib.bitLen d.size) true true) os:=by
 have e14:∀args w,(callFunc 48 args).run Tryz.prog w= .ok (.enter 48 args) w:=Tryz.laysSlF014_f48.f14.enters rfl;have e15:∀args w,(callFunc 49 args).run Tryz.prog w= .ok (.enter 49 args) w:=enters_of Tryz.func49 (by kernel_rfl) rfl;have hlim:Lib.bitLen d.size<4611686018427387904:=Nat.lt_of_le_of_lt (Lib.bitLen_le d.size 62 (by omega) (by omega)) (by omega);have hp:=AnyQ.pdqsortCmpFunc_all Tryz.laysSlF014_f48 k aE zE enc cf g cb hO blk off cap d w eg hcmp ⟨hk,h1,hH,hblk⟩ (d.size+1) 0 d.size (Lib.bitLen d.size) d w (by omega) rfl (SWK.start hH) (Nat.zero_le _) (Nat.le_refl _) hsz hlim (Or.inl rfl);have hl:Calls Tryz.prog 49 #[.int .u64 (d.size:Int)] w fun e w'=>e= .returned (.int .i64 (Lib.bitLen d.size:Nat))∧w'=w:=by
  have h:=Tryz.bits_Len (d.size:Int) w (by omega) (by omega)
  rwa [Int.toNat_natCast]at h
 have wr:IntKind.u64.wrap (d.size:Int)=d.size:=by simp[IntKind.wrap,IntKind.bits,IntKind.signed];omega
 clear hH hcmp hk h1
 go_enter Tryz.func18,Tryz.ntmps18
 go_wp2_with (first|(go_at_fn 49;refine hl.mono ?_;rintro e w' ⟨rfl,rfl⟩)|(go_at_fn 48;refine hp.mono ?_;rintro e w' ⟨rfl,n,os,rfl⟩))
 go_end0
 exact⟨rfl,n,os,rfl⟩
theorem sfnPred (C:Cx)(hP:C.P=Tryz.prog):SfnOK C 18 8:=by
 refine sfnOK_of (by omega) ⟨_,by rw[hP];exact Tryz.func18,of_decide_eq_true (by kernel_rfl),by kernel_rfl⟩ ?_ ?_
 ·intro p cap fv w;rw[hP];exact Tryz.sf_none p cap fv w
 ·intro m enc h1 h2 cf hO g blk off cap d w eg hcmp hH hblk hsz;rw[hP]at eg hcmp⊢;exact Tryz.sf_eq 8 Tryz.isAgg37 Tryz.sizeOf37 enc h1 h2 cf hO g #[] blk off cap d w eg hcmp hH hblk hsz
end Go.Proofs
namespace Go.Ae
open Go
def putC (cur:Array Value)(o:Nat)(vs:List Value):Array Value:=(cur.toList.take o++vs++cur.toList.drop (o+vs.length)).toArray
theorem putC_size {cur:Array Value}{o:Nat}{vs:List Value}(h:o+vs.length≤cur.size):(putC cur o vs).size=cur.size:=by simp[putC];omega
theorem putC_get {cur:Array Value}{o:Nat}{vs:List Value}(h:o+vs.length≤cur.size)(k:Nat):(putC cur o vs)[k]?=if o≤k∧k<o+vs.length then vs[k-o]? else cur[k]?:=by
 unfold putC;rw[List.getElem?_toArray];by_cases h1:k<o
 ·rw[Zp,Zd (by simp;omega),List.getElem?_take,if_pos h1,if_neg (by omega)];simp
 ·by_cases h2:k<o+vs.length
  ·rw[Zp,Zf (by simp;omega),Zd (by simp;omega),if_pos ⟨by omega,h2⟩]
   congr 1
   simp;omega
  ·rw[Zf (by simp;omega),List.getElem?_drop,if_neg (by omega)];rw[Array.getElem?_toList]
   congr 1
   simp;omega
theorem run_copy_k {P:Program}(W:World)(t ty e:TypeId)(ei:TypeInfo)(ht:P.underlying t=some (.slice e))(hi:P.info? e=some ei)(b off len dc sb so n sc:Nat)(vals:List Value)(hl:vals.length=min n len*ei.size)
 (hsrc:∀(j:Nat) (u:Value),vals[j]?=some u→W.cell? ⟨sb,so+j,none⟩=some u) (cur:Array Value) (t0:TypeId) (fz:Nat × Nat) (hb:W.heap[b]?=some (.cells cur t0 fz)) (hf:Fz fz cur) (hfit:off+vals.length≤cur.size) (h1:∀u∈vals,u.oneCell'=true):
 (Builtin.copy_ #[t,t] ty #[.slice (some ⟨b,off,none⟩) len dc,.slice (some ⟨sb,so,none⟩) n sc]).run P W= .ok (.int .i64 (min n len:Nat)) (W.setRow b (putC cur off vals)):=by
 have hst:=run_storeCells_fz P b off t0 fz vals 0 cur W hb (.inl hf.eq) (by omega) h1;have hf0:(Builtin.firstCells ei.size (min n len) (.slice (some ⟨sb,so,none⟩) n sc)).run P W= .ok vals.toArray W:=
  run_firstCells_some (P:=P) W ei.size (min n len) ⟨sb,so,none⟩ n sc vals hl (fun j u hj=>by rw[add_lit];exact hsrc j u hj)
 have hmin:Nat.min n len=min n len:=rfl;simp only[Nat.add_zero]at hst;simp[Builtin.copy_,run_underlying ht,Builtin.lenOf,sizeOf,typeInfo,hi,hmin,hf0,hst,goInt,putC]
def InsQ (w:World)(base:Option Addr)(n cap i sz:Nat)(olds vs:List Value)(e:Ending)(w':World):Prop:=
 ∃(B cap':Nat) (cur':Array Value) (t':TypeId) (fz':Nat × Nat),
  e= .returned (.slice (some ⟨B,0,none⟩) (n+1) cap')∧w'.heap[B]?=some (.cells cur' t' fz')∧Fz fz' cur'∧cap'*sz=cur'.size∧n+1≤cap'∧cap'≤maxLen∧
  (∀(k:Nat) (u:Value),(olds.take (i*sz)++vs++olds.drop (i*sz))[k]?=some u→cur'[k]?=some u)∧
  ((
   w.heap.size≤B∧fz'=(0,0)∧Step w none' w' none')∨(base=some ⟨B,0,none⟩∧0<cap∧w'.os=w.os∧w'.tape=w.tape∧w'.output=w.output∧w'.heap.size=w.heap.size∧w.drawn≤w'.drawn∧(∀b,b≠B→w'.heap[b]?=w.heap[b]?)∧
   ∀(cur:Array Value) (t:TypeId) (fz:Nat × Nat),w.heap[B]?=some (.cells cur t fz)→cur'.size=cur.size))
theorem take_drop_get {olds vs:List Value}{p k:Nat}(hp:p≤olds.length):(olds.take p++vs++olds.drop p)[k]?=if k<p then olds[k]? else if k<p+vs.length then vs[k-p]? else olds[k-vs.length]?:=by
 by_cases h1:k<p
 ·rw[Zp,Zd (by simp;omega),List.getElem?_take,if_pos h1,if_pos h1]
 ·by_cases h2:k<p+vs.length
  ·rw[Zp,Zf (by simp;omega),Zd (by simp;omega),if_neg h1,if_pos h2]
   congr 1
   simp;omega
  ·rw[Zf (by simp;omega),List.getElem?_drop,if_neg h1,if_neg h2]
   congr 1
   simp;omega
theorem insQ_at {w w':World}{b n cap i sz:Nat}{olds vs:List Value}{cur cur':Array Value}{t:TypeId}{fz:Nat × Nat}(hb:w.heap[b]?=some (.cells cur t fz))(hf:Fz fz cur)(hcap:cap*sz=cur.size)(hn:n+1≤cap)(hc:cap≤maxLen)
 (hw:w'.heap[b]?=some (.cells cur' t fz)) (hs:cur'.size=cur.size) (h1:w'.os=w.os) (h2:w'.tape=w.tape) (h3:w'.output=w.output) (h4:w'.heap.size=w.heap.size) (h6:w.drawn≤w'.drawn) (h5:∀k,k≠b→w'.heap[k]?=w.heap[k]?)
 (hg:∀(k:Nat) (u:Value),(olds.take (i*sz)++vs++olds.drop (i*sz))[k]?=some u→cur'[k]?=some u):InsQ w (some ⟨b,0,none⟩) n cap i sz olds vs (.returned (.slice (some ⟨b,0,none⟩) (n+1) cap)) w':=
 ⟨b,cap,cur',t,fz,rfl,hw,hf.imp (fun q=>q) (fun q=>by rw[hs];exact q),by omega,hn,hc,hg,.inr ⟨rfl,by omega,h1,h2,h3,h4,h6,h5,fun c tt ff hh=>by rw[hb]at hh;cases hh;exact hs⟩⟩
theorem insQ_new {w w':World}{base:Option Addr}{n cap cap' i sz:Nat}{olds vs:List Value}{cur':Array Value}{t:TypeId}(hcap:cap'*sz=cur'.size)(hn:n+1≤cap')(hc:cap'≤maxLen)
 (hw:w'.heap[w.heap.size]?=some (.cells cur' t (0,0))) (h1:w'.os=w.os) (h2:w'.tape=w.tape) (h3:w'.output=w.output) (h4:w.heap.size≤w'.heap.size) (h6:w.drawn≤w'.drawn) (h5:∀k,k<w.heap.size→w'.heap[k]?=w.heap[k]?)
 (hg:∀(k:Nat) (u:Value),(olds.take (i*sz)++vs++olds.drop (i*sz))[k]?=some u→cur'[k]?=some u):InsQ w base n cap i sz olds vs (.returned (.slice (some ⟨w.heap.size,0,none⟩) (n+1) cap')) w':=
 ⟨w.heap.size,cap',cur',t,(0,0),rfl,hw,.inl rfl,hcap,hn,hc,hg,.inl ⟨Nat.le_refl _,rfl,⟨h1,h2,h3,h4,fun b hb _=>h5 b hb,fun b c tt ff hb=>⟨c,tt,ff,(h5 b (heap_lt hb)).trans hb,rfl⟩,fun _ _ h=>h,h6⟩⟩⟩
theorem insQ_end {olds vs:List Value}{cur:Array Value}{p:Nat}(hp:p=olds.length)(hfit:p+vs.length≤cur.size)(ho:∀(k:Nat) (u:Value),olds[k]?=some u→cur[k]?=some u)(k:Nat)(u:Value)(h:(olds.take p++vs++olds.drop p)[k]?=some u):(putC cur p vs)[k]?=some u:=by
 rw[take_drop_get (by omega)]at h;rw[putC_get hfit];split at h
 ·rename_i h1;rw[if_neg (by omega)];exact ho k u h
 ·split at h
  ·rename_i h1 h2;rw[if_pos ⟨by omega,h2⟩];exact h
  ·rename_i h1 h2;rw[List.getElem?_eq_none (by omega)]at h;cases h
theorem insQ_shift {olds vs:List Value}{cur:Array Value}{p s:Nat}(hp:p≤olds.length)(hs:s=p+vs.length)(hfit:olds.length+vs.length≤cur.size)(ho:∀(k:Nat) (u:Value),olds[k]?=some u→cur[k]?=some u)(k:Nat)(u:Value)(h:(olds.take p++vs++olds.drop p)[k]?=some u):
 (putC (putC cur s (olds.drop p)) p vs)[k]?=some u:=by
 subst hs;have hd:(olds.drop p).length=olds.length-p:=by simp
 rw[take_drop_get hp]at h;rw[putC_get (by rw[putC_size (by omega)];omega),putC_get (by omega)];split at h
 ·rename_i h1;rw[if_neg (by omega),if_neg (by omega)];exact ho k u h
 ·split at h
  ·rename_i h1 h2;rw[if_pos ⟨by omega,h2⟩];exact h
  ·rename_i h1 h2;have hk:k-vs.length<olds.length:=(Za.1 h).1;rw[if_neg (by omega),if_pos ⟨by omega,by omega⟩,List.getElem?_drop,←h]
   congr 1
   omega
theorem insQ_grow {olds vs:List Value}{cur:Array Value}{p s:Nat}(hp:p≤olds.length)(hs:s=p+vs.length)(hfit:olds.length+vs.length≤cur.size)(ho:∀(k:Nat) (u:Value),k<p→olds[k]?=some u→cur[k]?=some u)(k:Nat)(u:Value)(h:(olds.take p++vs++olds.drop p)[k]?=some u):
 (putC (putC cur p vs) s (olds.drop p))[k]?=some u:=by
 subst hs;have hd:(olds.drop p).length=olds.length-p:=by simp
 rw[take_drop_get hp]at h;rw[putC_get (by rw[putC_size (by omega)];omega),putC_get (by omega)];split at h
 ·rename_i h1;rw[if_neg (by omega),if_neg (by omega)];exact ho k u h1 h
 ·split at h
  ·rename_i h1 h2;rw[if_neg (by omega),if_pos ⟨by omega,h2⟩];exact h
  ·rename_i h1 h2;have hk:k-vs.length<olds.length:=(Za.1 h).1;rw[if_pos ⟨by omega,by omega⟩,List.getElem?_drop,←h]
   congr 1
   omega
theorem wp_copy_eq {P:Program}(w:World){o:Oper}{a:Act}{K:Act→World→Prop}{Q:Exit→Act→World→Prop}(d s:Operand)(t t':TypeId)(ho:o.op= .call {callee:= .builtin .copy,args:= #[d,s],argTypes:= #[t,t']})(v u:Value)(hd:a.eval d=v)(hs:a.eval s=u){v':Value}{w':World}
 (hr:(Builtin.copy_ #[t,t'] o.type #[v,u]).run P w= .ok v' w') (h:K (a.put o.dst v') w'):o.wp P a w K Q:=by
 unfold Oper.wp execOp;simp only[ho,resolve,invoke,builtin,Sem.run_bind,Sem.run_pure,Result.andThen_ok,List.map_toArray,List.map_cons,List.map_nil,hd,hs,hr];exact h
theorem wpList_copy_eq {P:Program}(w:World){ops:Array Oper}{rest:List Oper}{o:Oper}{a:Act}{Q:Exit→Act→World→Prop}(hgd:o.guard=none)(d s:Operand)(t t':TypeId)(ho:o.op= .call {callee:= .builtin .copy,args:= #[d,s],argTypes:= #[t,t']})(v u:Value)(hd:a.eval d=v)(hs:a.eval s=u){v':Value}{w':World}
 (hr:(Builtin.copy_ #[t,t'] o.type #[v,u]).run P w= .ok v' w') (h:wpList P ops Q rest (a.put o.dst v') w'):wpList P ops Q (o::rest) a w:=
 wpList_plain hgd fun _ hK=>wp_copy_eq w d s t t' ho v u hd hs hr (hK _ _ h)
theorem step_copy_eq {P:Program}{ops:Array Oper}{o:Oper}{a:Act}{w:World}{K:Act→World→Prop}{Q:Exit→Act→World→Prop}{E:Prop}(hg:o.guard=none)(d x:Operand)(dT sT:TypeId)(hop:o.op=Op.call {callee:=Callee.builtin Builtin.copy,args:= #[d,x],argTypes:= #[dT,sT]})
 (v u:Value) (hd:a.eval d=v) (hx:a.eval x=u) {v':Value} {w':World} (hr:(Builtin.copy_ #[dT,sT] o.type #[v,u]).run P w= .ok v' w') (hK:K (a.put o.dst v') w'):if Region.wanted o (yielded ops a.tmps)=true then Oper.wp P o a w K Q else E:=by
 rw[if_pos (show Region.wanted o (yielded ops a.tmps)=true by simp[Region.wanted,hg])];exact wp_copy_eq w d x dT sT hop v u hd hx hr hK
end Go.Ae
