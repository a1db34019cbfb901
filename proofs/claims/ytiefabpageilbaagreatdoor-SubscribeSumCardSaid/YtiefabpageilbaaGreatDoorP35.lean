/- DERIVED: THE SHELF's CONTRACTS AT THIS DUMP, IN PLAIN WORDS (tools/lay-plain.mjs out of 'TryzLy.lean', which tools/lay-shelf.mjs wrote): THE SAME DECLARATIONS UNDER THE SAME NAMES: 'import', 'namespace', 'open', 'def', 'theorem' AND NOTHING ELSE: no command of the shelf's: FOR A HAND-IN. Each laying: the table of numbers ('.._ren') and one theorem, a field a fact of the dump's own or the kernel's comparison; each contract: ONE APPLICATION. -/
import Derived.Shelf.LaysM
import Derived.Shelf.Strconv.Itoa3
import Derived.Ground.SlsfProg
import Derived.Shelf.SlGeneric
import Derived.Shelf.SlSortCmp.Whole1
import Derived.Shelf.SlSortCmp.WholeK
import Derived.Shelf.SlSortCmp.NoneTotal
import Derived.Test.YtiefabpageilbaaGreatDoorProg
import Derived.Test.YtiefabpageilbaaGreatDoorP12
import Derived.Shelf.SlSortCmp.InsertionK
import Derived.Shelf.SlSortCmp.Kit1
import Derived.Test.YtiefabpageilbaaGreatDoorP15
set_option linter.all false
namespace Go.Proofs
open Go.Shelf
def Tryz.laysM171_ren :Go.Shelf.Ren:=⟨fun|171=>54|243=>89|246=>138|283=>190|284=>191|285=>192|286=>193|129=>99|317=>259|318=>260|319=>261|320=>262|337=>306|338=>307|n=>n,fun|3=>3|9=>9|2=>2|4=>4|171=>264|0=>0|53=>184|37=>266|5=>5|173=>267|212=>345|51=>182|20=>20|213=>346|46=>139|232=>410|233=>411|n=>n,fun|17=>1|18=>2|19=>3|n=>n⟩
theorem Tryz.laysM171 :Go.Proofs.LaysM.n171 Tryz.prog Tryz.laysM171_ren:={
 mixed:=by kernel_rfl
 f129:=Tryz.func99.trans (congrArg some (by kernel_rfl))
 f171:=Tryz.func54.trans (congrArg some (by kernel_rfl))
 f243:=Tryz.func89.trans (congrArg some (by kernel_rfl))
 f246:=Tryz.func138.trans (congrArg some (by kernel_rfl))
 f283:=Tryz.func190.trans (congrArg some (by kernel_rfl))
 f284:=Tryz.func191.trans (congrArg some (by kernel_rfl))
 f285:=Tryz.func192.trans (congrArg some (by kernel_rfl))
 f286:=Tryz.func193.trans (congrArg some (by kernel_rfl))
 f317:=Tryz.func259.trans (congrArg some (by kernel_rfl))
 f318:=Tryz.func260.trans (congrArg some (by kernel_rfl))
 f319:=Tryz.func261.trans (congrArg some (by kernel_rfl))
 f320:=Tryz.func262.trans (congrArg some (by kernel_rfl))
 f337:=Tryz.func306.trans (congrArg some (by kernel_rfl))
 f338:=Tryz.func307.trans (congrArg some (by kernel_rfl))
 t0:=Tryz.underlying0
 a0:=Tryz.isAgg0
 z0:=Tryz.sizeOf0
 v0:=Tryz.zeroValue0
 t2:=Tryz.underlying2
 a2:=Tryz.isAgg2
 z2:=Tryz.sizeOf2
 v2:=Tryz.zeroValue2
 t3:=Tryz.underlying3
 a3:=Tryz.isAgg3
 z3:=Tryz.sizeOf3
 v3:=Tryz.zeroValue3
 t4:=Tryz.underlying4
 a4:=Tryz.isAgg4
 z4:=Tryz.sizeOf4
 v4:=Tryz.zeroValue4
 t5:=Tryz.underlying5
 a5:=Tryz.isAgg5
 z5:=Tryz.sizeOf5
 v5:=Tryz.zeroValue5
 t9:=Tryz.underlying9
 a9:=Tryz.isAgg9
 z9:=Tryz.sizeOf9
 v9:=Tryz.zeroValue9
 t20:=Tryz.underlying20
 a20:=Tryz.isAgg20
 z20:=Tryz.sizeOf20
 v20:=Tryz.zeroValue20
 t37:=Tryz.underlying266
 a37:=Tryz.isAgg266
 z37:=Tryz.sizeOf266
 v37:=Tryz.zeroValue266
 t46:=Tryz.underlying139
 a46:=Tryz.isAgg139
 z46:=Tryz.sizeOf139
 v46:=Tryz.zeroValue139
 t51:=Tryz.underlying182
 a51:=Tryz.isAgg182
 z51:=Tryz.sizeOf182
 v51:=Tryz.zeroValue182
 t53:=Tryz.underlying184
 a53:=Tryz.isAgg184
 z53:=Tryz.sizeOf184
 v53:=Tryz.zeroValue184
 t171:=Tryz.underlying264
 a171:=Tryz.isAgg264
 z171:=Tryz.sizeOf264
 v171:=Tryz.zeroValue264
 t173:=Tryz.underlying267
 a173:=Tryz.isAgg267
 z173:=Tryz.sizeOf267
 v173:=Tryz.zeroValue267
 t212:=Tryz.underlying345
 a212:=Tryz.isAgg345
 z212:=Tryz.sizeOf345
 v212:=Tryz.zeroValue345
 t213:=Tryz.underlying346
 a213:=Tryz.isAgg346
 z213:=Tryz.sizeOf346
 t232:=Tryz.underlying410
 a232:=Tryz.isAgg410
 z232:=Tryz.sizeOf410
 v232:=Tryz.zeroValue410
 t233:=Tryz.underlying411
 a233:=Tryz.isAgg411
 z233:=Tryz.sizeOf411
 v233:=Tryz.zeroValue411
 g17:=by kernel_rfl
 g18:=by kernel_rfl
 g19:=by kernel_rfl
 i0:=by kernel_rfl
 i2:=by kernel_rfl
 i3:=by kernel_rfl
 i4:=by kernel_rfl
 i5:=by kernel_rfl
 i9:=by kernel_rfl
 i20:=by kernel_rfl
 i37:=by kernel_rfl
 i46:=by kernel_rfl
 i51:=by kernel_rfl
 i53:=by kernel_rfl
 i171:=by kernel_rfl
 i173:=by kernel_rfl
 i212:=by kernel_rfl
 i232:=by kernel_rfl
 i233:=by kernel_rfl
 m17:=by kernel_rfl
 m18:=by kernel_rfl
 m19:=by kernel_rfl}
def Tryz.laysSlF06_f33_ren :Go.Shelf.Ren:=⟨fun|6=>33|15=>57|14=>56|28=>98|29=>99|20=>90|21=>91|22=>92|23=>93|24=>94|25=>95|26=>96|27=>97|46=>139|47=>140|48=>141|49=>142|50=>143|57=>194|n=>n,fun|22=>24|24=>30|25=>105|3=>3|39=>139|0=>0|53=>182|55=>184|4=>4|46=>176|45=>175|50=>100|5=>5|9=>9|66=>219|70=>223|76=>269|77=>270|n=>n,fun|n=>n⟩
theorem Tryz.laysSlF06_f33 :Go.Proofs.SlLaysF0.n6 Tryz.prog Tryz.laysSlF06_f33_ren:={
 mixed:=by kernel_rfl
 f6:=⟨Tryz.f33.name,by decide,Tryz.func33.trans (congrArg some (by kernel_rfl))⟩
 f14:=⟨Tryz.f56.name,by decide,Tryz.func56.trans (congrArg some (by kernel_rfl))⟩
 f15:=Tryz.func57.trans (congrArg some (by kernel_rfl))
 f20:=⟨Tryz.f90.name,by decide,Tryz.func90.trans (congrArg some (by kernel_rfl))⟩
 f21:=⟨Tryz.f91.name,by decide,Tryz.func91.trans (congrArg some (by kernel_rfl))⟩
 f22:=⟨Tryz.f92.name,by decide,Tryz.func92.trans (congrArg some (by kernel_rfl))⟩
 f23:=⟨Tryz.f93.name,by decide,Tryz.func93.trans (congrArg some (by kernel_rfl))⟩
 f24:=⟨Tryz.f94.name,by decide,Tryz.func94.trans (congrArg some (by kernel_rfl))⟩
 f25:=⟨Tryz.f95.name,by decide,Tryz.func95.trans (congrArg some (by kernel_rfl))⟩
 f26:=⟨Tryz.f96.name,by decide,Tryz.func96.trans (congrArg some (by kernel_rfl))⟩
 f27:=⟨Tryz.f97.name,by decide,Tryz.func97.trans (congrArg some (by kernel_rfl))⟩
 f28:=Tryz.func98.trans (congrArg some (by kernel_rfl))
 f29:=Tryz.func99.trans (congrArg some (by kernel_rfl))
 f46:=⟨Tryz.f139.name,by decide,Tryz.func139.trans (congrArg some (by kernel_rfl))⟩
 f47:=Tryz.func140.trans (congrArg some (by kernel_rfl))
 f48:=Tryz.func141.trans (congrArg some (by kernel_rfl))
 f49:=⟨Tryz.f142.name,by decide,Tryz.func142.trans (congrArg some (by kernel_rfl))⟩
 f50:=⟨Tryz.f143.name,by decide,Tryz.func143.trans (congrArg some (by kernel_rfl))⟩
 f57:=⟨Tryz.f194.name,by decide,Tryz.func194.trans (congrArg some (by kernel_rfl))⟩
 t0:=Tryz.underlying0
 a0:=Tryz.isAgg0
 z0:=Tryz.sizeOf0
 v0:=Tryz.zeroValue0
 t3:=Tryz.underlying3
 a3:=Tryz.isAgg3
 z3:=Tryz.sizeOf3
 v3:=Tryz.zeroValue3
 t4:=Tryz.underlying4
 a4:=Tryz.isAgg4
 z4:=Tryz.sizeOf4
 v4:=Tryz.zeroValue4
 t5:=Tryz.underlying5
 a5:=Tryz.isAgg5
 z5:=Tryz.sizeOf5
 v5:=Tryz.zeroValue5
 t9:=Tryz.underlying9
 a9:=Tryz.isAgg9
 z9:=Tryz.sizeOf9
 v9:=Tryz.zeroValue9
 t22:=Tryz.underlying24
 a22:=Tryz.isAgg24
 z22:=Tryz.sizeOf24
 v22:=Tryz.zeroValue24
 t25:=Tryz.underlying105
 a25:=Tryz.isAgg105
 z25:=Tryz.sizeOf105
 v25:=Tryz.zeroValue105
 t39:=Tryz.underlying139
 a39:=Tryz.isAgg139
 z39:=Tryz.sizeOf139
 v39:=Tryz.zeroValue139
 t45:=Tryz.underlying175
 a45:=Tryz.isAgg175
 z45:=Tryz.sizeOf175
 v45:=Tryz.zeroValue175
 t46:=Tryz.underlying176
 a46:=Tryz.isAgg176
 z46:=Tryz.sizeOf176
 v46:=Tryz.zeroValue176
 t50:=Tryz.underlying100
 a50:=Tryz.isAgg100
 z50:=Tryz.sizeOf100
 v50:=Tryz.zeroValue100
 t53:=Tryz.underlying182
 a53:=Tryz.isAgg182
 z53:=Tryz.sizeOf182
 v53:=Tryz.zeroValue182
 t55:=Tryz.underlying184
 a55:=Tryz.isAgg184
 z55:=Tryz.sizeOf184
 v55:=Tryz.zeroValue184
 t66:=Tryz.underlying219
 a66:=Tryz.isAgg219
 z66:=Tryz.sizeOf219
 v66:=Tryz.zeroValue219
 t70:=Tryz.underlying223
 a70:=Tryz.isAgg223
 z70:=Tryz.sizeOf223
 v70:=Tryz.zeroValue223
 t76:=Tryz.underlying269
 a76:=Tryz.isAgg269
 z76:=Tryz.sizeOf269
 v76:=Tryz.zeroValue269
 t77:=Tryz.underlying270
 a77:=Tryz.isAgg270
 z77:=Tryz.sizeOf270
 v77:=Tryz.zeroValue270}
end Go.Proofs
namespace Go.Ae
open Go Go.Proofs Go.Shelf Go.RowKit Go.Lib Go.Sort
theorem flat_get {α:Type}[Inhabited α]{us:α→List Value}{s:Nat}(hu:∀i,(us i).length=s)(hs:0<s):∀(l:List α) (k:Nat) (u:Value),(l.flatMap us)[k]?=some u→k<l.length*s∧(us l[k/s]!)[k % s]! =u
 | [],k,u,h=>by simp at h
 |
  i::l,k,u,h=>by
  rw[List.flatMap_cons]at h;by_cases hk:k<s
  ·rw[Zd (by rw[hu];exact hk)]at h;refine⟨by rw[List.length_cons,Nat.add_mul];omega,?_⟩;rw[Nat.div_eq_of_lt hk,Nat.mod_eq_of_lt hk];simp[h]
  ·rw[Zf (by rw[hu];omega),hu]at h;obtain⟨h1,h2⟩:=flat_get hu hs l (k-s) u h;refine⟨by rw[List.length_cons,Nat.add_mul];omega,?_⟩;have e1:k/s=(k-s)/s+1:=by rw[←Nat.sub_add_cancel (show s≤k by omega),Nat.add_div_right _ hs];simp
   have e2:k % s=(k-s) % s:=by rw[Nat.mod_eq_sub_mod (by omega)]
   rw[e1,e2];simpa using h2
theorem world_ext {a b:World}(h1:a.heap=b.heap)(h2:a.tape=b.tape)(h3:a.drawn=b.drawn)(h4:a.os=b.os)(h5:a.output=b.output):a=b:=by
 cases a;cases b;simp_all
theorem step_grow {W W':World}(h:Step W none' W' none'):W'=grow (W.drewN (W'.drawn-W.drawn)) (W'.heap.extract W.heap.size W'.heap.size):=by
 refine world_ext ?_ h.tape ?_ h.os h.output
 ·show W'.heap=W.heap++_;apply Array.ext_getElem?;intro k;by_cases hk:k<W.heap.size
  ·rw[Array.getElem?_append_left hk];exact h.keep k hk fun q=>q
  ·rw[Array.getElem?_append_right (by omega)];by_cases hk2:k<W'.heap.size
   ·rw[Array.getElem?_extract];have:=h.size;rw[if_pos (by omega)]
    congr 1;omega
   ·rw[Array.getElem?_eq_none (by omega),Array.getElem?_eq_none (by simp;omega)]
 ·have:=h.drew;show W'.drawn=W.drawn+(W'.drawn-W.drawn);omega
def CmpL {α:Type}[Inhabited α](P:Program)(g:Nat)(kk:Nat)(enc:α→List Value)(cf:α→α→Int)(blk off size:Nat)(w:World):Prop:=
 ∀(m:Nat) (os:Array Obj) (dk:Array α),dk.size=size→∀x y:α,
  Calls P g #[eltV kk (enc x),eltV kk (enc y)] (sortWorldK enc (szK kk) w blk off m dk os) fun e w'=>e= .returned (.int .i64 (cf x y))∧∃q os',w'=grow ((sortWorldK enc (szK kk) w blk off m dk os).drewN q) os'
theorem sfnOK_gen {C:Cx}{f:FuncId}{kk:Nat}(hfn:∃fn,C.P.funcs[f]?=some fn∧fn.name≠ "runtime.NumGoroutine" ∧fn.body.isSome=true)
 (hnone:∀(p:Option Addr) (cap:Nat) (fv:Value) (w:World),Calls C.P f #[.slice p 0 cap,fv] w fun e w'=>e= .returned (.tuple #[])∧w'=w)
 (hmain:∀(m:Nat) (enc:Fin (m+1)→List Value) (_:∀x,(enc x).length=szK kk) (_:∀x,∀v∈enc x,v.oneCell'=true) (cf:Fin (m+1)→Fin (m+1)→Int) (_:Sort.SWO (ltOf cf)) (g:Nat) (blk off cap:Nat) (d:Array (Fin (m+1))) (w:World)
  (_:∀args w,(callFunc g args).run C.P w= .ok (.enter g args) w) (_:CmpL C.P g kk enc cf blk off d.size w) (_:HoldsK enc (szK kk) w blk off d) (_:blk<w.heap.size) (_:d.size<4611686018427387904),
  Calls C.P f #[.slice (some ⟨blk,off,none⟩) d.size cap,.func (.func g) #[] #[]] w fun e w'=>e= .returned (.tuple #[])∧∃n os,w'=sortWorldK enc (szK kk) w blk off n (Sort.pdq (ltOf cf) d 0 d.size (Lib.bitLen d.size) true true) os):SfnOK C f kk:=by
 have hsz:0<szK kk:=by unfold szK;split<;>omega
 refine⟨hfn,fun w base cap g us hus=>?_,fun w m cap blk off cur t fz us cf g bs hbs hm hcur hfz hbd hlen hone hcell hswo ⟨fn,g1,g2,g3⟩ hcmp=>?_⟩
 ·exact(hnone base cap _ w).mono fun e w' ⟨he,hw⟩=>⟨he,hw▸Step.refl _ _⟩
 obtain rfl:bs= #[]:=Array.eq_empty_of_size_eq_zero hbs;have eg:∀args w,(callFunc g args).run C.P w= .ok (.enter g args) w:=fun args w=>by
  have hb:fn.body.isNone=false:=by cases hq:fn.body<;>simp_all
  simp only[callFunc,Sem.run_bind,run_program,Result.andThen_ok,g1];simp[g2,hb]
 have hds:(Array.ofFn fun i:Fin (m+1)=>i).size=m+1:=by simp
 have hfz0:=hfz.eq;have hH:HoldsK us (szK kk) w blk off (Array.ofFn fun i:Fin (m+1)=>i):=by
  intro j hj;rw[size_flatK,hds]at hj;have hi:j/szK kk<m+1:=Nat.div_lt_of_lt_mul (by rw[Nat.mul_comm];exact hj);have hr:j % szK kk<szK kk:=Nat.mod_lt _ hsz;constructor
  ·rw[get_flatK us (szK kk) _ j (by rw[hds];exact hj)];have e:(Array.ofFn fun i:Fin (m+1)=>i)[j/szK kk]! =⟨j/szK kk,hi⟩:=by simp[hi]
   rw[e];have hlr:j % szK kk< (us ⟨j/szK kk,hi⟩).length:=by rw[hlen];exact hr
   have:=hcell ⟨j/szK kk,hi⟩ (j % szK kk) _ (Zb hlr);unfold World.cell?;simp only[hcur];have e2:off+j/szK kk*szK kk+j % szK kk=off+j:=by have:=Nat.div_add_mod j (szK kk);rw[Nat.mul_comm]at this;omega
   rw[e2]at this;simpa[hlr]using this
  ·unfold World.frozen?;simp[hcur,hfz0]
 have hsame:∀(q:Nat) (dk:Array (Fin (m+1))) (os:Array Obj),SameBut blk w (sortWorldK us (szK kk) w blk off q dk os):=fun q dk os=>by
  refine⟨rfl,rfl,rfl,?_,fun b hb hne=>?_⟩
  ·unfold sortWorldK;rw[Sort.size_grow,size_putRowK];exact Nat.le_add_right _ _
  ·show((Sort.mapBlock (Sort.ahead w q) blk _).heap++os)[b]?=_;have hbs:b< (Sort.mapBlock (Sort.ahead w q) blk (Sort.putCells id off (flatK us (szK kk) dk))).heap.size:=by simpa[Sort.mapBlock,Sort.ahead]using hb
   rw[Array.getElem?_append_left hbs];simp[Sort.mapBlock,Sort.ahead,Array.getElem?_modify,Ne.symm hne]
 have hc':CmpL C.P g kk us (fun i j=>cf i.1 j.1) blk off (Array.ofFn fun i:Fin (m+1)=>i).size w:=fun q os dk _ x y=>
  (hcmp _ x y (hsame q dk os)).mono fun e W' ⟨he,hst⟩=>⟨he,_,_,step_grow hst⟩
 have:=hmain m us hlen hone (fun i j=>cf i.1 j.1) hswo g blk off cap _ w eg hc' hH (heap_lt hcur) (by rw[hds];exact hm);rw[hds]at this;refine this.mono ?_;rintro e w' ⟨rfl,n,os,rfl⟩;have hperm:=sortQ_perm hswo;have hD:sortQ m cf=(Sort.pdq (ltOf fun i j:Fin (m+1)=>cf i.1 j.1) (Array.ofFn fun i:Fin (m+1)=>i) 0 (m+1) (Lib.bitLen (m+1)) true true).toList:=rfl;have hDs:(Sort.pdq (ltOf fun i j:Fin (m+1)=>cf i.1 j.1) (Array.ofFn fun i:Fin (m+1)=>i) 0 (m+1) (Lib.bitLen (m+1)) true true).size=m+1:=by
  have:=hperm.length_eq;rw[hD]at this;simpa using this
 refine⟨rfl,Sort.putCells id off (flatK us (szK kk) (Sort.pdq (ltOf fun i j:Fin (m+1)=>cf i.1 j.1) (Array.ofFn fun i:Fin (m+1)=>i) 0 (m+1) (Lib.bitLen (m+1)) true true)) cur,?_,by simp[Sort.putCells],fun k hk=>?_,fun k u hu=>?_,hsame _ _ _,?_⟩
 ·show((Sort.mapBlock (Sort.ahead w n) blk _).heap++os)[blk]?=_;have hbs:blk< (Sort.mapBlock (Sort.ahead w n) blk (Sort.putCells id off (flatK us (szK kk) (Sort.pdq (ltOf fun i j:Fin (m+1)=>cf i.1 j.1) (Array.ofFn fun i:Fin (m+1)=>i) 0 (m+1) (Lib.bitLen (m+1)) true true)))).heap.size:=by simpa[Sort.mapBlock,Sort.ahead]using heap_lt hcur
  rw[Array.getElem?_append_left hbs];simp[Sort.mapBlock,Sort.ahead,Array.getElem?_modify,hcur,Sort.onCells]
 ·simp only[Sort.putCells,Array.getElem?_mapIdx,size_flatK,hDs];cases hq:cur[k]? with
  |none=>rfl
  |some v=>simp only[Option.map_some];rw[if_neg (by omega)]
 ·obtain⟨h1,h2⟩:=flat_get hlen hsz _ k u hu;rw[hperm.length_eq,List.length_ofFn]at h1;have hk:off+k<cur.size:=by omega
  simp only[Sort.putCells,Array.getElem?_mapIdx,Array.getElem?_eq_getElem hk,Option.map_some,size_flatK,hDs];rw[if_pos (by omega),Nat.add_sub_cancel_left,get_flatK us (szK kk) _ k (by rw[hDs];exact h1)];rw[hD]at h2;have hlt:k/szK kk< (Sort.pdq (ltOf fun i j:Fin (m+1)=>cf i.1 j.1) (Array.ofFn fun i:Fin (m+1)=>i) 0 (m+1) (Lib.bitLen (m+1)) true true).size:=by
   rw[hDs];exact Nat.div_lt_of_lt_mul (by rw[Nat.mul_comm];exact h1)
  rw[getElem!_pos (Sort.pdq (ltOf fun i j:Fin (m+1)=>cf i.1 j.1) (Array.ofFn fun i:Fin (m+1)=>i) 0 (m+1) (Lib.bitLen (m+1)) true true).toList (k/szK kk) (by simpa using hlt)]at h2;rw[getElem!_pos (Sort.pdq (ltOf fun i j:Fin (m+1)=>cf i.1 j.1) (Array.ofFn fun i:Fin (m+1)=>i) 0 (m+1) (Lib.bitLen (m+1)) true true) (k/szK kk) hlt];rw[Array.getElem_toList]at h2;exact congrArg some h2
 ·show w.drawn≤w.drawn+n;omega
theorem sfnOK_of {C:Cx}{f:FuncId}{sz:Nat}(hsz:0<sz)(hfn:∃fn,C.P.funcs[f]?=some fn∧fn.name≠ "runtime.NumGoroutine" ∧fn.body.isSome=true)
 (hnone:∀(p:Option Addr) (cap:Nat) (fv:Value) (w:World),Calls C.P f #[.slice p 0 cap,fv] w fun e w'=>e= .returned (.tuple #[])∧w'=w)
 (hmain:∀(m:Nat) (enc:Fin (m+1)→List Value) (_:∀x,(enc x).length=sz) (_:∀x,∀v∈enc x,v.oneCell'=true) (cf:Fin (m+1)→Fin (m+1)→Int) (_:Sort.SWO (ltOf cf)) (g:Nat) (blk off cap:Nat) (d:Array (Fin (m+1))) (w:World)
  (_:∀args w,(callFunc g args).run C.P w= .ok (.enter g args) w) (_:CmpLays C.P g #[] enc sz cf blk off d.size w) (_:HoldsK enc sz w blk off d) (_:blk<w.heap.size) (_:d.size<4611686018427387904),
  Calls C.P f #[.slice (some ⟨blk,off,none⟩) d.size cap,.func (.func g) #[] #[]] w fun e w'=>e= .returned (.tuple #[])∧∃n os,w'=sortWorldK enc sz w blk off n (Sort.pdq (ltOf cf) d 0 d.size (Lib.bitLen d.size) true true) os):SfnOK C f sz:=by
 have e0:szK sz=sz:=by unfold szK;rw[if_neg (by omega)]
 have e1:∀vs:List Value,eltV sz vs= .agg vs.toArray:=fun vs=>by unfold eltV;rw[if_neg (by omega)]
 refine sfnOK_gen hfn hnone fun m enc h1 h2 cf h3 g blk off cap d w h4 h5 h6 h7 h8=>?_
 unfold CmpL at h5;rw[e0]at h1 h6 h5⊢;simp only[e1]at h5;exact hmain m enc h1 h2 cf h3 g blk off cap d w h4 (fun q os dk hs x y=>h5 q os dk hs x y) h6 h7 h8
end Go.Ae
namespace Go.Proofs
open Go Go.Ae Go.RowKit Go.Shelf Go.Sort Go.Lib
theorem sfnSigned (C:Cx)(hP:C.P=Tryz.prog):SfnOK C 33 2:=by
 refine sfnOK_of (by omega) ⟨_,by rw[hP];exact Tryz.func33,of_decide_eq_true (by kernel_rfl),by kernel_rfl⟩ ?_ ?_
 ·intro p cap fv w;rw[hP];exact AnyF.slices_SortFunc_none Tryz.laysSlF06_f33 p cap fv w
 ·intro m enc h1 h2 cf hO g blk off cap d w eg hcmp hH hblk hsz;rw[hP]at eg hcmp⊢;exact AnyQ.slices_SortFunc_eq Tryz.laysSlF06_f33 2 Tryz.isAgg30 Tryz.sizeOf30 enc h1 h2 cf hO g #[] blk off cap d w eg hcmp hH hblk hsz
end Go.Proofs
namespace Go.Proofs
open Go Go.Ae Go.RowKit Go.Shelf Go.Sort
theorem grow_step (w:World)(k:Nat)(os:Array Obj):Step w none' (grow (w.drewN k) os) none':=by
 have hk:∀b,b<w.heap.size→(grow (w.drewN k) os).heap[b]?=w.heap[b]?:=fun b hb=>by
  show(w.heap++os)[b]?=_;rw[Array.getElem?_append_left hb]
 exact{os:=rfl,tape:=rfl,output:=rfl,size:=by show w.heap.size≤(w.heap++os).size;simp,keep:=fun b hb _=>hk b hb,row:=fun b cur t fz hb=>⟨cur,t,fz,(hk b (heap_lt hb)).trans hb,rfl⟩,less:=fun _ _ h=>h,drew:=by show w.drawn≤w.drawn+k;omega}
theorem itoa_ok (C:Cx)(hP:C.P=Tryz.prog)(hGl:C.G 1=some pow10C)(n:Int)(h0: -9223372036854775808≤n)(h1:n≤9223372036854775807):
 PureOK C 54 [.sc (.int .i64 n)] (.sc (.string ⟨(Lib.itoa n).toArray⟩)):=by
 intro w X vs hX hG hsz hv;refine⟨⟨_,by rw[hP];exact Tryz.func54,of_decide_eq_true (by kernel_rfl),by kernel_rfl⟩,?_⟩;rw[hP];have hv0:=(Rp.im (ρ:=id) (n:=0) (hv 0 _ rfl)).sc_inv.1;have hvs:vs= #[.int .i64 n]:=by
  obtain⟨L⟩:=vs
  match L,hsz with
  | [x],_=>simp at hv0;rw[hv0]
 rw[hvs];obtain⟨_,cur,t,fz,g1,g2,g3⟩:=hG _ _ hGl;have hcur:cur=pow10C.toArray:=by
  apply Array.ext_getElem?;intro k;by_cases hk:k<pow10C.length
  ·obtain⟨u,u1,_,u3⟩:=g3 k _ (Zb hk);have e:u=pow10C[k]:=by
    have hm:pow10C[k]∈pow10C:=List.getElem_mem hk;obtain⟨z,_,hz⟩:=Yc.1 (show pow10C[k]∈Lib.pow10Tab.map fun z=>Value.int .u64 z from hm);rw[←hz]at u3⊢;exact u3.1
   rw[u1,e];simp[hk]
  ·rw[Array.getElem?_eq_none (by omega),Array.getElem?_eq_none (by simpa using hk)]
 have hnm:Tryz.prog.globalNamed "internal/strconv.uint64pow10" =some 1:=by kernel_rfl
 have htab:Lib.TabIs Tryz.prog w "internal/strconv.uint64pow10" .u64 Lib.pow10Tab:=by
  unfold Lib.TabIs World.var?;rw[hnm,Option.bind_some,g1,hcur];rfl
 have hI:Calls Tryz.prog 54 #[.int .i64 n] w fun e w'=>e= .returned (.string ⟨(Lib.itoa n).toArray⟩)∧∃k os,w'=grow (w.drewN k) os:=Any.strconv_Itoa Tryz.laysM171 n h0 h1 w htab
 refine hI.mono ?_;rintro e w' ⟨rfl,k,os,rfl⟩;exact⟨_,rfl,grow_step w k os,.sc _ rfl⟩
end Go.Proofs
