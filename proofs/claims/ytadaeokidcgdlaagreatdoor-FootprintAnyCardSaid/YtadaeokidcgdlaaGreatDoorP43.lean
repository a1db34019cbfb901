/- The chapter's examples, run by the kernel. -/
import Derived.Test.YtadaeokidcgdlaaGreatDoorP14
import Derived.Shelf.Strings.Search3
import Derived.Shelf.SlIter.Nil
import Derived.Shelf.SortM.Plain
import Derived.Shelf.SortM.SortNone
import Derived.Ground.GgzProg
import Derived.Ground.SlgmProg
import Derived.Test.YtadaeokidcgdlaaGreatDoorProg
import Derived.StringKeys
import Derived.Test.YtadaeokidcgdlaaGreatDoorP13
import Derived.WalkKit
import Derived.Lib.Walk
import Derived.Lib.SliceRun
import Derived.Lib.AppendZerosOnto
import Derived.Lib.Overlaps
import Derived.Laws.Externs
import Derived.Laws.IdiomCopy
import Derived.Shelf.RegionOpenPlain
set_option maxRecDepth 100000
set_option linter.unusedSimpArgs false
set_option linter.unusedVariables false
namespace Go.Proofs.YtadaeokidcgdlaaGreatDoor
open Go Go.Ae
theorem live_T (N:Nat):callT cx (N+90) true 9 [] []=some (.sc (.bool true),[]):=by kernel_rfl
theorem live (N:Nat):callN cx (N+90) true 9 [] []=some (.sc (.bool true),[]):=by
 rw[←callT_eq];exact live_T N
end Go.Proofs.YtadaeokidcgdlaaGreatDoor
namespace Go.Proofs
open Go.Shelf
def Tryz.lays144_ren :Go.Shelf.Ren:=⟨fun|144=>342|143=>360|219=>374|217=>378|225=>379|224=>380|267=>381|266=>383|314=>384|n=>n,fun|9=>9|4=>4|3=>3|5=>5|46=>136|146=>355|51=>189|n=>n,fun|1=>1|n=>n⟩
theorem Tryz.lays144 :Go.Proofs.Lays.n144 Tryz.prog Tryz.lays144_ren:={
 mixed:=by kernel_rfl
 f143:=Tryz.func360.trans (congrArg some (by kernel_rfl))
 f144:=Tryz.func342.trans (congrArg some (by kernel_rfl))
 f217:=Tryz.func378.trans (congrArg some (by kernel_rfl))
 f219:=Tryz.func374.trans (congrArg some (by kernel_rfl))
 f224:=Tryz.func380.trans (congrArg some (by kernel_rfl))
 f225:=Tryz.func379.trans (congrArg some (by kernel_rfl))
 f266:=Tryz.func383.trans (congrArg some (by kernel_rfl))
 f267:=Tryz.func381.trans (congrArg some (by kernel_rfl))
 f314:=Tryz.func384.trans (congrArg some (by kernel_rfl))
 t3:=Tryz.underlying3
 a3:=Tryz.isAgg3
 z3:=Tryz.sizeOf3
 v3:=Tryz.zeroValue3
 t4:=Tryz.underlying4
 a4:=Tryz.isAgg4
 z4:=Tryz.sizeOf4
 v4:=Tryz.zeroValue4
 t5:=Tryz.underlying5
 a5:=Tryz.isAgg5
 z5:=Tryz.sizeOf5
 v5:=Tryz.zeroValue5
 t9:=Tryz.underlying9
 a9:=Tryz.isAgg9
 z9:=Tryz.sizeOf9
 v9:=Tryz.zeroValue9
 t46:=Tryz.underlying136
 a46:=Tryz.isAgg136
 z46:=Tryz.sizeOf136
 v46:=Tryz.zeroValue136
 t51:=Tryz.underlying189
 a51:=Tryz.isAgg189
 z51:=Tryz.sizeOf189
 v51:=Tryz.zeroValue189
 t146:=Tryz.underlying355
 a146:=Tryz.isAgg355
 z146:=Tryz.sizeOf355
 v146:=Tryz.zeroValue355
 g1:=by kernel_rfl}
def Tryz.keys281_ren :Go.Shelf.Ren:=⟨fun|7=>281|10=>327|n=>n,fun|23=>299|26=>9|3=>4|28=>302|0=>0|27=>301|33=>147|4=>4|n=>n,fun|n=>n⟩
theorem Tryz.keys281 :Go.Proofs.SlLaysZ.n7 Tryz.prog Tryz.keys281_ren:={
 mixed:=by kernel_rfl
 f7:=⟨Tryz.f281.name,by decide,Tryz.func281.trans (congrArg some (by kernel_rfl))⟩
 f10:=⟨Tryz.f327.name,by decide,Tryz.func327.trans (congrArg some (by kernel_rfl))⟩
 t0:=Tryz.underlying0
 a0:=Tryz.isAgg0
 z0:=Tryz.sizeOf0
 v0:=Tryz.zeroValue0
 t4:=Tryz.underlying4
 a4:=Tryz.isAgg4
 z4:=Tryz.sizeOf4
 v4:=Tryz.zeroValue4
 t23:=Tryz.underlying299
 a23:=Tryz.isAgg299
 z23:=Tryz.sizeOf299
 v23:=Tryz.zeroValue299
 t26:=Tryz.underlying9
 a26:=Tryz.isAgg9
 z26:=Tryz.sizeOf9
 v26:=Tryz.zeroValue9
 t27:=Tryz.underlying301
 a27:=Tryz.isAgg301
 z27:=Tryz.sizeOf301
 v27:=Tryz.zeroValue301
 t28:=Tryz.underlying302
 a28:=Tryz.isAgg302
 z28:=Tryz.sizeOf302
 v28:=Tryz.zeroValue302
 t33:=Tryz.underlying147
 a33:=Tryz.isAgg147
 z33:=Tryz.sizeOf147
 v33:=Tryz.zeroValue147}
def Tryz.sorted280_ren :Go.Shelf.Ren:=⟨fun|6=>280|8=>325|9=>326|11=>346|13=>67|12=>347|23=>126|24=>127|14=>361|15=>362|16=>363|17=>364|18=>365|19=>366|20=>303|21=>367|22=>368|25=>375|26=>198|27=>199|28=>376|29=>377|30=>95|31=>382|n=>n,fun|26=>9|28=>302|24=>60|0=>0|3=>3|37=>136|48=>189|50=>191|4=>4|40=>182|39=>181|45=>186|5=>5|9=>9|51=>246|55=>250|57=>307|58=>308|33=>147|n=>n,fun|n=>n⟩
theorem Tryz.sorted280 :Go.Proofs.SlLaysZ.n6 Tryz.prog Tryz.sorted280_ren:={
 mixed:=by kernel_rfl
 f6:=⟨Tryz.f280.name,by decide,Tryz.func280.trans (congrArg some (by kernel_rfl))⟩
 f8:=⟨Tryz.f325.name,by decide,Tryz.func325.trans (congrArg some (by kernel_rfl))⟩
 f11:=⟨Tryz.f346.name,by decide,Tryz.func346.trans (congrArg some (by kernel_rfl))⟩
 t0:=Tryz.underlying0
 a0:=Tryz.isAgg0
 z0:=Tryz.sizeOf0
 v0:=Tryz.zeroValue0
 t24:=Tryz.underlying60
 a24:=Tryz.isAgg60
 z24:=Tryz.sizeOf60
 v24:=Tryz.zeroValue60
 t26:=Tryz.underlying9
 a26:=Tryz.isAgg9
 z26:=Tryz.sizeOf9
 v26:=Tryz.zeroValue9
 t28:=Tryz.underlying302
 a28:=Tryz.isAgg302
 z28:=Tryz.sizeOf302
 v28:=Tryz.zeroValue302
 i26:=by kernel_rfl}
def Tryz.sort326_ren :Go.Shelf.Ren:=⟨fun|6=>326|8=>67|9=>347|19=>126|20=>127|21=>361|22=>362|23=>363|24=>364|25=>365|26=>366|27=>303|28=>367|29=>368|36=>375|31=>198|32=>199|37=>376|38=>377|39=>95|41=>382|n=>n,fun|27=>60|29=>9|3=>3|32=>136|26=>60|0=>0|44=>189|46=>191|4=>4|36=>182|35=>181|41=>186|5=>5|9=>9|53=>246|57=>250|63=>307|64=>308|n=>n,fun|n=>n⟩
theorem Tryz.sort326 :Go.Proofs.SlLaysM.n6 Tryz.prog Tryz.sort326_ren:={
 mixed:=by kernel_rfl
 f6:=⟨Tryz.f326.name,by decide,Tryz.func326.trans (congrArg some (by kernel_rfl))⟩
 f8:=Tryz.func67.trans (congrArg some (by kernel_rfl))
 f9:=⟨Tryz.f347.name,by decide,Tryz.func347.trans (congrArg some (by kernel_rfl))⟩
 f19:=Tryz.func126.trans (congrArg some (by kernel_rfl))
 f20:=Tryz.func127.trans (congrArg some (by kernel_rfl))
 f21:=⟨Tryz.f361.name,by decide,Tryz.func361.trans (congrArg some (by kernel_rfl))⟩
 f22:=⟨Tryz.f362.name,by decide,Tryz.func362.trans (congrArg some (by kernel_rfl))⟩
 f23:=⟨Tryz.f363.name,by decide,Tryz.func363.trans (congrArg some (by kernel_rfl))⟩
 f24:=⟨Tryz.f364.name,by decide,Tryz.func364.trans (congrArg some (by kernel_rfl))⟩
 f25:=⟨Tryz.f365.name,by decide,Tryz.func365.trans (congrArg some (by kernel_rfl))⟩
 f26:=⟨Tryz.f366.name,by decide,Tryz.func366.trans (congrArg some (by kernel_rfl))⟩
 f27:=⟨Tryz.f303.name,by decide,Tryz.func303.trans (congrArg some (by kernel_rfl))⟩
 f28:=⟨Tryz.f367.name,by decide,Tryz.func367.trans (congrArg some (by kernel_rfl))⟩
 f29:=⟨Tryz.f368.name,by decide,Tryz.func368.trans (congrArg some (by kernel_rfl))⟩
 f31:=Tryz.func198.trans (congrArg some (by kernel_rfl))
 f32:=Tryz.func199.trans (congrArg some (by kernel_rfl))
 f36:=⟨Tryz.f375.name,by decide,Tryz.func375.trans (congrArg some (by kernel_rfl))⟩
 f37:=⟨Tryz.f376.name,by decide,Tryz.func376.trans (congrArg some (by kernel_rfl))⟩
 f38:=⟨Tryz.f377.name,by decide,Tryz.func377.trans (congrArg some (by kernel_rfl))⟩
 f39:=⟨Tryz.f95.name,by decide,Tryz.func95.trans (congrArg some (by kernel_rfl))⟩
 f41:=⟨Tryz.f382.name,by decide,Tryz.func382.trans (congrArg some (by kernel_rfl))⟩
 t0:=Tryz.underlying0
 a0:=Tryz.isAgg0
 z0:=Tryz.sizeOf0
 v0:=Tryz.zeroValue0
 t3:=Tryz.underlying3
 a3:=Tryz.isAgg3
 z3:=Tryz.sizeOf3
 v3:=Tryz.zeroValue3
 t4:=Tryz.underlying4
 a4:=Tryz.isAgg4
 z4:=Tryz.sizeOf4
 v4:=Tryz.zeroValue4
 t5:=Tryz.underlying5
 a5:=Tryz.isAgg5
 z5:=Tryz.sizeOf5
 v5:=Tryz.zeroValue5
 t9:=Tryz.underlying9
 a9:=Tryz.isAgg9
 z9:=Tryz.sizeOf9
 v9:=Tryz.zeroValue9
 t26:=Tryz.underlying60
 a26:=Tryz.isAgg60
 z26:=Tryz.sizeOf60
 v26:=Tryz.zeroValue60
 t27:=Tryz.underlying60
 a27:=Tryz.isAgg60
 z27:=Tryz.sizeOf60
 v27:=Tryz.zeroValue60
 t29:=Tryz.underlying9
 a29:=Tryz.isAgg9
 z29:=Tryz.sizeOf9
 v29:=Tryz.zeroValue9
 t32:=Tryz.underlying136
 a32:=Tryz.isAgg136
 z32:=Tryz.sizeOf136
 v32:=Tryz.zeroValue136
 t35:=Tryz.underlying181
 a35:=Tryz.isAgg181
 z35:=Tryz.sizeOf181
 v35:=Tryz.zeroValue181
 t36:=Tryz.underlying182
 a36:=Tryz.isAgg182
 z36:=Tryz.sizeOf182
 v36:=Tryz.zeroValue182
 t41:=Tryz.underlying186
 a41:=Tryz.isAgg186
 z41:=Tryz.sizeOf186
 v41:=Tryz.zeroValue186
 t44:=Tryz.underlying189
 a44:=Tryz.isAgg189
 z44:=Tryz.sizeOf189
 v44:=Tryz.zeroValue189
 t46:=Tryz.underlying191
 a46:=Tryz.isAgg191
 z46:=Tryz.sizeOf191
 v46:=Tryz.zeroValue191
 t53:=Tryz.underlying246
 a53:=Tryz.isAgg246
 z53:=Tryz.sizeOf246
 v53:=Tryz.zeroValue246
 t57:=Tryz.underlying250
 a57:=Tryz.isAgg250
 z57:=Tryz.sizeOf250
 v57:=Tryz.zeroValue250
 t63:=Tryz.underlying307
 a63:=Tryz.isAgg307
 z63:=Tryz.sizeOf307
 v63:=Tryz.zeroValue307
 t64:=Tryz.underlying308
 a64:=Tryz.isAgg308
 z64:=Tryz.sizeOf308
 v64:=Tryz.zeroValue308}
open Go.RowKit Go.Lib in
theorem Tryz.strings_Contains (s sub:ByteArray)(m:Int)(w:World)(hs:s.size<4294967281)(hm:w.cell? ⟨1,0,none⟩=some (.int .i64 m)):
 Calls Tryz.prog 342 #[.string s,.string sub] w fun e w'=>e= .returned (.bool (Lib.contains s.data.toList sub.data.toList))∧w'=w:=Any.strings_Contains Tryz.lays144 s sub m w hs hm
open Go.RowKit Go.Maps Go.Sort in
theorem Tryz.sorts280 (m:Nat):AnyZ.SortsIn Tryz.prog Tryz.sorted280_ren Fence.wide m:=
 ⟨fun blk off cap ss W hH hblk hsz=>callsIn_wide.2 (AnyM.slices_Sort_string Tryz.sort326 blk off cap ss W hH hblk hsz),
  fun p cap W=>callsIn_wide.2 (AnyM.slices_Sort_string_none Tryz.sort326 p cap W)⟩
end Go.Proofs
namespace Go.Proofs.YtadaeokidcgdlaaGreatDoor
open Go Go.Ae Go.RowKit Go.Maps Go.Sort Go.Shelf
theorem insert_perm {H:Type}(x:Lit × DataW H):∀l:List (Lit × DataW H),(DataW.insert x l).Perm (x::l)
 | []=> .refl _
 |
  y::r=>by
  unfold DataW.insert;split
  ·exact .refl _
  ·exact((insert_perm x r).cons y).trans (.swap x y r)
theorem foldr_perm {H:Type}:∀l:List (Lit × DataW H),(l.foldr DataW.insert []).Perm l
 | []=> .refl _
 |x::l=>(insert_perm x _).trans ((foldr_perm l).cons x)
def byt (s:ByteArray):List UInt8:=s.data.toList
theorem insS_perm (x:ByteArray):∀l:List ByteArray,(insS x l).Perm (x::l)
 | []=> .refl _
 |
  y::r=>by
  unfold insS;split
  ·exact .refl _
  ·exact((insS_perm x r).cons y).trans (.swap x y r)
theorem sortS_perm :∀l:List ByteArray,(sortS l).Perm l
 | []=> .refl _
 |x::l=>(insS_perm x _).trans ((sortS_perm l).cons x)
theorem insS_sorted (x:ByteArray):∀l:List ByteArray,l.Pairwise (fun a b=>leS a b=true)→(insS x l).Pairwise (fun a b=>leS a b=true)
 | [],_=>List.pairwise_singleton _ _
 |
  y::r,h=>by
  unfold insS;have h1:=List.pairwise_cons.1 h;split
  ·rename_i hxy;refine List.pairwise_cons.2 ⟨fun z hz=>?_,h⟩;rcases List.mem_cons.1 hz with rfl|hz
   ·exact hxy
   ·have h2:=h1.1 z hz;simp only[leS,Zz]at *;exact List.le_trans hxy h2
  ·rename_i hxy;have hyx:leS y x=true:=by
    simp only[leS,Zz]at *;exact(List.le_total _ _).resolve_left hxy
   refine List.pairwise_cons.2 ⟨fun z hz=>?_,insS_sorted x r h1.2⟩;rcases List.mem_cons.1 ((insS_perm x r).mem_iff.1 hz)with rfl|hz
   ·exact hyx
   ·exact h1.1 z hz
theorem sortS_sorted :∀l:List ByteArray,(sortS l).Pairwise (fun a b=>leS a b=true)
 | []=>List.Pairwise.nil
 |x::l=>insS_sorted x _ (sortS_sorted l)
theorem sort_eq {ss:List (List UInt8)}{ks:List ByteArray}(h:ss.Perm (ks.map byt)):ss.mergeSort (fun x y=>decide (x≤y))=(sortS ks).map byt:=by
 have tr:∀a b c:List UInt8,leB a b=true→leB b c=true→leB a c=true:=fun a b c h1 h2=>by simp only[leB,Zz]at *;exact List.le_trans h1 h2
 have to:∀a b:List UInt8,(leB a b||leB b a)=true:=fun a b=>by simp only[leB,Bool.or_eq_true,Zz];exact List.le_total a b
 refine List.Perm.eq_of_pairwise (le:=fun a b=>leB a b=true) (fun a b _ _ h1 h2=>?_) (List.pairwise_mergeSort tr to ss) ?_ (((List.mergeSort_perm ss leB).trans h).trans ((sortS_perm ks).map byt).symm)
 ·simp only[leB,Zz]at h1 h2;exact List.le_antisymm h1 h2
 ·exact List.pairwise_map.2 (sortS_sorted ks)
theorem below_step {w w':World}(h:Below w.heap.size w w'):Step w none' w' none':={
 os:=h.os
 tape:=h.tape
 output:=h.output
 size:=h.size
 keep:=fun b hb _=>h.block b hb
 row:=fun b cur t fz hb=>⟨cur,t,fz,(h.block b (heap_lt hb)).trans hb,rfl⟩
 less:=fun _ _ h=>h}
set_option maxHeartbeats 1000000 in
theorem sort_ok :SortOK cx 280 327:=by
 refine⟨⟨_,Tryz.func280,of_decide_eq_true (by kernel_rfl),by kernel_rfl⟩,fun w bx id ms clock ks hcell hid hborn hnd hkeys hknd hksz hlen=>?_⟩;have hkey:∀x∈ms.toList,∃s:ByteArray,x.key= .string s∧s.size≤maxLen:=fun x hx=>by
  have:x.key∈ks.map Value.string:=by rw[←hkeys];exact Yi.2 ⟨x,hx,rfl⟩
  obtain⟨s,hs,e⟩:=Yi.1 this;exact⟨s,e.symm,hksz s hs⟩
 have hsize:ms.size=ks.length:=by have:=congrArg List.length hkeys;simpa using this
 have hrd:∀x∈ms.toList,∀s:ByteArray,x.key= .string s→s.size≤maxLen→WideElems.rd cx.P 9 (fun _=>some ((.nil:DataW Unit),[])) x=some (.string s.data.toList,.nil):=fun x _ s e hs=>by
  unfold WideElems.rd;rw[e,WideMaps.keyOf_string_mk (P:=cx.P) Tryz.underlying9 hs];rfl
 have F:WideElems.Fit cx.P 9 (fun _=>some ((.nil:DataW Unit),[])) ms clock:=by
  refine⟨by unfold maxLen;omega,⟨hborn,hnd,?_⟩,fun x hx=>?_⟩
  ·rw[hkeys];exact List.pairwise_map.2 (hknd.imp fun{a b} hne e=>hne (by injection e))
  ·obtain⟨s,e,hs⟩:=hkey x hx;exact⟨_,hrd x hx s e hs⟩
 have hown:w.ownsMap cx.P 9 (fun _=>some ((.nil:DataW Unit),[])) id ms.size (.map ((ms.toList.map (WideElems.rg cx.P 9 (fun _=>some ((.nil:DataW Unit),[])))).foldr DataW.insert [])):=⟨ms,clock,hid,F,Nat.le_refl _,rfl⟩;have hbx:bx<w.heap.size:=by
  unfold World.cell? at hcell;cases hb:w.heap[bx]? with
  |none=>simp[hb]at hcell
  |some o=>exact heap_lt hb
 have hstr:(strKeys (.map ((ms.toList.map (WideElems.rg cx.P 9 (fun _=>some ((.nil:DataW Unit),[])))).foldr DataW.insert []):DataW Unit)).Perm (ks.map byt):=by
  refine((foldr_perm _).map _).trans (List.Perm.of_eq ?_);rw[List.map_map];have:(ms.toList.map (·.key)).map (fun v=>match v with| .string s=>byt s|_=> [])=(ks.map Value.string).map (fun v=>match v with| .string s=>byt s|_=> []):=by rw[hkeys]
  rw[List.map_map,List.map_map]at this;refine(List.map_congr_left fun x hx=>?_).trans this;obtain⟨s,e,hs⟩:=hkey x hx;simp only[Function.comp,WideElems.rg_of (hrd x hx s e hs),e];rfl
 have hN:Maps.size (.map ((ms.toList.map (WideElems.rg cx.P 9 (fun _=>some ((.nil:DataW Unit),[])))).foldr DataW.insert []):DataW Unit)=ks.length:=by
  show(List.foldr DataW.insert [] _).length=_;rw[(foldr_perm _).length_eq,Yk,←hsize,Array.length_toList]
 have hseq:SeqGives Fence.wide 2 cx.P 327 #[.pointer (some ⟨bx,0,none⟩)] encStr (fun ss=>ss.Perm (strKeys (.map ((ms.toList.map (WideElems.rg cx.P 9 (fun _=>some ((.nil:DataW Unit),[])))).foldr DataW.insert []):DataW Unit))) _ w:=
  AnyZ.keys_gives (ρ:=Tryz.keys281_ren) {Tryz.keys281 with} Fence.wide _ trivial rfl (by omega) bx id ms.size _ w hbx hcell hown
 have hcall:=callsIn_wide.1 (AnyZ.sorted_in Tryz.sorted280 Fence.wide 5 trivial trivial trivial trivial rfl (by omega) (Tryz.sorts280 _) (enters_of Tryz.func326 (by kernel_rfl) rfl) 327 #[.pointer (some ⟨bx,0,none⟩)] trivial (enters_of Tryz.func327 (by kernel_rfl) rfl) _ _ (by rw[hN];unfold maxLen;omega) (by rw[hN];omega) w hseq);refine hcall.mono ?_;rintro e w' ⟨v,ss,rfl,hS,hrow,hnil,hb⟩;have hp:=hS.trans hstr;have hse:=sort_eq hp;have hl:ss.length=ks.length:=by rw[hp.length_eq,Yk]
 refine⟨v,rfl,below_step hb,?_⟩;by_cases h0:ks=[]
 ·left;refine⟨h0,hnil.2 (Zl (by rw[hl,h0];rfl))⟩
 ·right;have hpos:0<ks.length:=List.length_pos_iff.2 h0;refine⟨h0,?_⟩;obtain⟨hlen',hh⟩:=hrow;rcases hh with⟨_,hz⟩|⟨B,cap,cur,rfl,hB,hcur,c1,c2,c3,c4⟩
  ·omega
  ·refine⟨B,cap,cur,_,by rw[hl],hB,hcur,by omega,c2,by omega,fun k s hk=>?_⟩;rw[hse]at c4;have hk':((((sortS ks).map byt).map encStr))[k]?=some (.string s):=by
    rw[List.map_map,Zs,hk];show some (encStr (byt s))=_;simp[encStr,byt]
   rw[←c4,List.getElem?_take]at hk';split at hk'
   ·simpa using hk'
   ·cases hk'
end Go.Proofs.YtadaeokidcgdlaaGreatDoor
namespace Go.Ae
open Go
def putC (cur:Array Value)(o:Nat)(vs:List Value):Array Value:=(cur.toList.take o++vs++cur.toList.drop (o+vs.length)).toArray
theorem putC_size {cur:Array Value}{o:Nat}{vs:List Value}(h:o+vs.length≤cur.size):(putC cur o vs).size=cur.size:=by simp[putC];omega
theorem putC_get {cur:Array Value}{o:Nat}{vs:List Value}(h:o+vs.length≤cur.size)(k:Nat):(putC cur o vs)[k]?=if o≤k∧k<o+vs.length then vs[k-o]? else cur[k]?:=by
 unfold putC;rw[List.getElem?_toArray];by_cases h1:k<o
 ·rw[Zp,Zd (by simp;omega),List.getElem?_take,if_pos h1,if_neg (by omega)];simp
 ·by_cases h2:k<o+vs.length
  ·rw[Zp,Zf (by simp;omega),Zd (by simp;omega),if_pos ⟨by omega,h2⟩]
   congr 1
   simp;omega
  ·rw[Zf (by simp;omega),List.getElem?_drop,if_neg (by omega)];rw[Array.getElem?_toList]
   congr 1
   simp;omega
theorem run_copy_k {P:Program}(W:World)(t ty e:TypeId)(ei:TypeInfo)(ht:P.underlying t=some (.slice e))(hi:P.info? e=some ei)(b off len dc sb so n sc:Nat)(vals:List Value)(hl:vals.length=min n len*ei.size)
 (hsrc:∀(j:Nat) (u:Value),vals[j]?=some u→W.cell? ⟨sb,so+j,none⟩=some u) (cur:Array Value) (t0:TypeId) (fz:Nat × Nat) (hb:W.heap[b]?=some (.cells cur t0 fz)) (hf:Fz fz cur) (hfit:off+vals.length≤cur.size) (h1:∀u∈vals,u.oneCell'=true):
 (Builtin.copy_ #[t,t] ty #[.slice (some ⟨b,off,none⟩) len dc,.slice (some ⟨sb,so,none⟩) n sc]).run P W= .ok (.int .i64 (min n len:Nat)) (W.setRow b (putC cur off vals)):=by
 have hst:=run_storeCells_fz P b off t0 fz vals 0 cur W hb (.inl hf.eq) (by omega) h1;have hf0:(Builtin.firstCells ei.size (min n len) (.slice (some ⟨sb,so,none⟩) n sc)).run P W= .ok vals.toArray W:=
  run_firstCells_some (P:=P) W ei.size (min n len) ⟨sb,so,none⟩ n sc vals hl (fun j u hj=>by rw[add_lit];exact hsrc j u hj)
 have hmin:Nat.min n len=min n len:=rfl;simp only[Nat.add_zero]at hst;simp[Builtin.copy_,run_underlying ht,Builtin.lenOf,sizeOf,typeInfo,hi,hmin,hf0,hst,goInt,putC]
def InsQ (w:World)(base:Option Addr)(n cap i sz:Nat)(olds vs:List Value)(e:Ending)(w':World):Prop:=
 ∃(B cap':Nat) (cur':Array Value) (t':TypeId) (fz':Nat × Nat),
  e= .returned (.slice (some ⟨B,0,none⟩) (n+1) cap')∧w'.heap[B]?=some (.cells cur' t' fz')∧Fz fz' cur'∧cap'*sz=cur'.size∧n+1≤cap'∧cap'≤maxLen∧
  (∀(k:Nat) (u:Value),(olds.take (i*sz)++vs++olds.drop (i*sz))[k]?=some u→cur'[k]?=some u)∧
  ((
   w.heap.size≤B∧fz'=(0,0)∧Step w none' w' none')∨(base=some ⟨B,0,none⟩∧0<cap∧w'.os=w.os∧w'.tape=w.tape∧w'.output=w.output∧w'.heap.size=w.heap.size∧(∀b,b≠B→w'.heap[b]?=w.heap[b]?)∧
   ∀(cur:Array Value) (t:TypeId) (fz:Nat × Nat),w.heap[B]?=some (.cells cur t fz)→cur'.size=cur.size))
theorem take_drop_get {olds vs:List Value}{p k:Nat}(hp:p≤olds.length):(olds.take p++vs++olds.drop p)[k]?=if k<p then olds[k]? else if k<p+vs.length then vs[k-p]? else olds[k-vs.length]?:=by
 by_cases h1:k<p
 ·rw[Zp,Zd (by simp;omega),List.getElem?_take,if_pos h1,if_pos h1]
 ·by_cases h2:k<p+vs.length
  ·rw[Zp,Zf (by simp;omega),Zd (by simp;omega),if_neg h1,if_pos h2]
   congr 1
   simp;omega
  ·rw[Zf (by simp;omega),List.getElem?_drop,if_neg h1,if_neg h2]
   congr 1
   simp;omega
theorem insQ_at {w w':World}{b n cap i sz:Nat}{olds vs:List Value}{cur cur':Array Value}{t:TypeId}{fz:Nat × Nat}(hb:w.heap[b]?=some (.cells cur t fz))(hf:Fz fz cur)(hcap:cap*sz=cur.size)(hn:n+1≤cap)(hc:cap≤maxLen)
 (hw:w'.heap[b]?=some (.cells cur' t fz)) (hs:cur'.size=cur.size) (h1:w'.os=w.os) (h2:w'.tape=w.tape) (h3:w'.output=w.output) (h4:w'.heap.size=w.heap.size) (h5:∀k,k≠b→w'.heap[k]?=w.heap[k]?)
 (hg:∀(k:Nat) (u:Value),(olds.take (i*sz)++vs++olds.drop (i*sz))[k]?=some u→cur'[k]?=some u):InsQ w (some ⟨b,0,none⟩) n cap i sz olds vs (.returned (.slice (some ⟨b,0,none⟩) (n+1) cap)) w':=
 ⟨b,cap,cur',t,fz,rfl,hw,hf.imp (fun q=>q) (fun q=>by rw[hs];exact q),by omega,hn,hc,hg,.inr ⟨rfl,by omega,h1,h2,h3,h4,h5,fun c tt ff hh=>by rw[hb]at hh;cases hh;exact hs⟩⟩
theorem insQ_new {w w':World}{base:Option Addr}{n cap cap' i sz:Nat}{olds vs:List Value}{cur':Array Value}{t:TypeId}(hcap:cap'*sz=cur'.size)(hn:n+1≤cap')(hc:cap'≤maxLen)
 (hw:w'.heap[w.heap.size]?=some (.cells cur' t (0,0))) (h1:w'.os=w.os) (h2:w'.tape=w.tape) (h3:w'.output=w.output) (h4:w.heap.size≤w'.heap.size) (h5:∀k,k<w.heap.size→w'.heap[k]?=w.heap[k]?)
 (hg:∀(k:Nat) (u:Value),(olds.take (i*sz)++vs++olds.drop (i*sz))[k]?=some u→cur'[k]?=some u):InsQ w base n cap i sz olds vs (.returned (.slice (some ⟨w.heap.size,0,none⟩) (n+1) cap')) w':=
 ⟨w.heap.size,cap',cur',t,(0,0),rfl,hw,.inl rfl,hcap,hn,hc,hg,.inl ⟨Nat.le_refl _,rfl,⟨h1,h2,h3,h4,fun b hb _=>h5 b hb,fun b c tt ff hb=>⟨c,tt,ff,(h5 b (heap_lt hb)).trans hb,rfl⟩,fun _ _ h=>h⟩⟩⟩
theorem insQ_end {olds vs:List Value}{cur:Array Value}{p:Nat}(hp:p=olds.length)(hfit:p+vs.length≤cur.size)(ho:∀(k:Nat) (u:Value),olds[k]?=some u→cur[k]?=some u)(k:Nat)(u:Value)(h:(olds.take p++vs++olds.drop p)[k]?=some u):(putC cur p vs)[k]?=some u:=by
 rw[take_drop_get (by omega)]at h;rw[putC_get hfit];split at h
 ·rename_i h1;rw[if_neg (by omega)];exact ho k u h
 ·split at h
  ·rename_i h1 h2;rw[if_pos ⟨by omega,h2⟩];exact h
  ·rename_i h1 h2;rw[List.getElem?_eq_none (by omega)]at h;cases h
theorem insQ_shift {olds vs:List Value}{cur:Array Value}{p s:Nat}(hp:p≤olds.length)(hs:s=p+vs.length)(hfit:olds.length+vs.length≤cur.size)(ho:∀(k:Nat) (u:Value),olds[k]?=some u→cur[k]?=some u)(k:Nat)(u:Value)(h:(olds.take p++vs++olds.drop p)[k]?=some u):
 (putC (putC cur s (olds.drop p)) p vs)[k]?=some u:=by
 subst hs;have hd:(olds.drop p).length=olds.length-p:=by simp
 rw[take_drop_get hp]at h;rw[putC_get (by rw[putC_size (by omega)];omega),putC_get (by omega)];split at h
 ·rename_i h1;rw[if_neg (by omega),if_neg (by omega)];exact ho k u h
 ·split at h
  ·rename_i h1 h2;rw[if_pos ⟨by omega,h2⟩];exact h
  ·rename_i h1 h2;have hk:k-vs.length<olds.length:=(Za.1 h).1;rw[if_neg (by omega),if_pos ⟨by omega,by omega⟩,List.getElem?_drop,←h]
   congr 1
   omega
theorem insQ_grow {olds vs:List Value}{cur:Array Value}{p s:Nat}(hp:p≤olds.length)(hs:s=p+vs.length)(hfit:olds.length+vs.length≤cur.size)(ho:∀(k:Nat) (u:Value),k<p→olds[k]?=some u→cur[k]?=some u)(k:Nat)(u:Value)(h:(olds.take p++vs++olds.drop p)[k]?=some u):
 (putC (putC cur p vs) s (olds.drop p))[k]?=some u:=by
 subst hs;have hd:(olds.drop p).length=olds.length-p:=by simp
 rw[take_drop_get hp]at h;rw[putC_get (by rw[putC_size (by omega)];omega),putC_get (by omega)];split at h
 ·rename_i h1;rw[if_neg (by omega),if_neg (by omega)];exact ho k u h1 h
 ·split at h
  ·rename_i h1 h2;rw[if_neg (by omega),if_pos ⟨by omega,h2⟩];exact h
  ·rename_i h1 h2;have hk:k-vs.length<olds.length:=(Za.1 h).1;rw[if_pos ⟨by omega,by omega⟩,List.getElem?_drop,←h]
   congr 1
   omega
theorem wp_copy_eq {P:Program}(w:World){o:Oper}{a:Act}{K:Act→World→Prop}{Q:Exit→Act→World→Prop}(d s:Operand)(t t':TypeId)(ho:o.op= .call {callee:= .builtin .copy,args:= #[d,s],argTypes:= #[t,t']})(v u:Value)(hd:a.eval d=v)(hs:a.eval s=u){v':Value}{w':World}
 (hr:(Builtin.copy_ #[t,t'] o.type #[v,u]).run P w= .ok v' w') (h:K (a.put o.dst v') w'):o.wp P a w K Q:=by
 unfold Oper.wp execOp;simp only[ho,resolve,invoke,builtin,Sem.run_bind,Sem.run_pure,Result.andThen_ok,List.map_toArray,List.map_cons,List.map_nil,hd,hs,hr];exact h
theorem wpList_copy_eq {P:Program}(w:World){ops:Array Oper}{rest:List Oper}{o:Oper}{a:Act}{Q:Exit→Act→World→Prop}(hgd:o.guard=none)(d s:Operand)(t t':TypeId)(ho:o.op= .call {callee:= .builtin .copy,args:= #[d,s],argTypes:= #[t,t']})(v u:Value)(hd:a.eval d=v)(hs:a.eval s=u){v':Value}{w':World}
 (hr:(Builtin.copy_ #[t,t'] o.type #[v,u]).run P w= .ok v' w') (h:wpList P ops Q rest (a.put o.dst v') w'):wpList P ops Q (o::rest) a w:=
 wpList_plain hgd fun _ hK=>wp_copy_eq w d s t t' ho v u hd hs hr (hK _ _ h)
theorem step_copy_eq {P:Program}{ops:Array Oper}{o:Oper}{a:Act}{w:World}{K:Act→World→Prop}{Q:Exit→Act→World→Prop}{E:Prop}(hg:o.guard=none)(d x:Operand)(dT sT:TypeId)(hop:o.op=Op.call {callee:=Callee.builtin Builtin.copy,args:= #[d,x],argTypes:= #[dT,sT]})
 (v u:Value) (hd:a.eval d=v) (hx:a.eval x=u) {v':Value} {w':World} (hr:(Builtin.copy_ #[dT,sT] o.type #[v,u]).run P w= .ok v' w') (hK:K (a.put o.dst v') w'):if Region.wanted o (yielded ops a.tmps)=true then Oper.wp P o a w K Q else E:=by
 rw[if_pos (show Region.wanted o (yielded ops a.tmps)=true by simp[Region.wanted,hg])];exact wp_copy_eq w d x dT sT hop v u hd hx hr hK
end Go.Ae
namespace Go.Proofs.YtadaeokidcgdlaaGreatDoor
open Go Go.Ae
theorem clnString (base:Option Addr)(c:Nat)(w:World):Calls Tryz.prog 75 #[.slice base 0 c] w fun e w'=>∃a,e= .returned (.slice a 0 0)∧Step w none' w' none':=by
 obtain⟨e,ei,ht,hi,_⟩:∃e ei,Tryz.prog.underlying 60=some (.slice e)∧Tryz.prog.info? e=some ei∧True:=by
  obtain⟨i,hi⟩:∃i,tiOf Tryz.prog 60=some i∧(match i.kd with| .slice .. =>true|_=>false)=true:=by
   cases h:tiOf Tryz.prog 60 with
   |none=>exact absurd h (by
    have:(tiOf Tryz.prog 60).isSome=true:=by kernel_rfl
    intro h';rw[h']at this;cases this)
   |
    some i=>
    refine⟨i,rfl,?_⟩;have:(match tiOf Tryz.prog 60 with|some i=>(match i.kd with| .slice .. =>true|_=>false)|none=>false)=true:=by kernel_rfl
    rw[h]at this;exact this
  obtain⟨hi,hk⟩:=hi;obtain⟨d,info,z,h1,h2,h3,h4,h5,h6,h7,h8,h9⟩:=tiOf_spec hi;split at hk
  ·rename_i s ag b ez hkd;rw[hkd]at h4;obtain⟨e,ei,ed,z',rfl,k1,k2,k3,k4,k5,k6,k7,k8,k9,k10⟩:=kdOf_slice h4;exact⟨e,ei,h1,k1,trivial⟩
  ·cases hk
 have q22:∀(w:World) (a:Option Addr) (n c n' c':Nat),(binOp .eql 60 (.slice a n c) (.slice none n' c')).run Tryz.prog w= .ok (.bool a.isNone) w:=fun w a n c n' c'=>Lib.run_eql_slice_nil w _ _ a n c n' c' ht
 have u1:=run_underlying ht;have hse:∀w,(Go.sizeOf e).run Tryz.prog w= .ok ei.size w:=fun w=>run_size hi w
 go_enter Tryz.func75,Tryz.ntmps75
 cases base with
 |
  none=>
  go_wp2
  go_ret
  exact⟨_,rfl,Step.refl _ _⟩
 |
  some a=>
  go_wp2_with (at_builtin;refine Lib.wpList_append_run _ rfl _ _ _ _ rfl _ _ rfl rfl _ _ (append_zero ht hi _ _ 0 0 c (Nat.le_refl _) _) ?_)
  all_goals
   go_ret
   exact⟨_,rfl,alloc_quiet _ _⟩
theorem clnProp (base:Option Addr)(c:Nat)(w:World):Calls Tryz.prog 139 #[.slice base 0 c] w fun e w'=>∃a,e= .returned (.slice a 0 0)∧Step w none' w' none':=by
 obtain⟨e,ei,ht,hi,_⟩:∃e ei,Tryz.prog.underlying 80=some (.slice e)∧Tryz.prog.info? e=some ei∧True:=by
  obtain⟨i,hi⟩:∃i,tiOf Tryz.prog 80=some i∧(match i.kd with| .slice .. =>true|_=>false)=true:=by
   cases h:tiOf Tryz.prog 80 with
   |none=>exact absurd h (by
    have:(tiOf Tryz.prog 80).isSome=true:=by kernel_rfl
    intro h';rw[h']at this;cases this)
   |
    some i=>
    refine⟨i,rfl,?_⟩;have:(match tiOf Tryz.prog 80 with|some i=>(match i.kd with| .slice .. =>true|_=>false)|none=>false)=true:=by kernel_rfl
    rw[h]at this;exact this
  obtain⟨hi,hk⟩:=hi;obtain⟨d,info,z,h1,h2,h3,h4,h5,h6,h7,h8,h9⟩:=tiOf_spec hi;split at hk
  ·rename_i s ag b ez hkd;rw[hkd]at h4;obtain⟨e,ei,ed,z',rfl,k1,k2,k3,k4,k5,k6,k7,k8,k9,k10⟩:=kdOf_slice h4;exact⟨e,ei,h1,k1,trivial⟩
  ·cases hk
 have q22:∀(w:World) (a:Option Addr) (n c n' c':Nat),(binOp .eql 80 (.slice a n c) (.slice none n' c')).run Tryz.prog w= .ok (.bool a.isNone) w:=fun w a n c n' c'=>Lib.run_eql_slice_nil w _ _ a n c n' c' ht
 have u1:=run_underlying ht;have hse:∀w,(Go.sizeOf e).run Tryz.prog w= .ok ei.size w:=fun w=>run_size hi w
 go_enter Tryz.func139,Tryz.ntmps139
 cases base with
 |
  none=>
  go_wp2
  go_ret
  exact⟨_,rfl,Step.refl _ _⟩
 |
  some a=>
  go_wp2_with (at_builtin;refine Lib.wpList_append_run _ rfl _ _ _ _ rfl _ _ rfl rfl _ _ (append_zero ht hi _ _ 0 0 c (Nat.le_refl _) _) ?_)
  all_goals
   go_ret
   exact⟨_,rfl,alloc_quiet _ _⟩
theorem clnNode (base:Option Addr)(c:Nat)(w:World):Calls Tryz.prog 158 #[.slice base 0 c] w fun e w'=>∃a,e= .returned (.slice a 0 0)∧Step w none' w' none':=by
 obtain⟨e,ei,ht,hi,_⟩:∃e ei,Tryz.prog.underlying 32=some (.slice e)∧Tryz.prog.info? e=some ei∧True:=by
  obtain⟨i,hi⟩:∃i,tiOf Tryz.prog 32=some i∧(match i.kd with| .slice .. =>true|_=>false)=true:=by
   cases h:tiOf Tryz.prog 32 with
   |none=>exact absurd h (by
    have:(tiOf Tryz.prog 32).isSome=true:=by kernel_rfl
    intro h';rw[h']at this;cases this)
   |
    some i=>
    refine⟨i,rfl,?_⟩;have:(match tiOf Tryz.prog 32 with|some i=>(match i.kd with| .slice .. =>true|_=>false)|none=>false)=true:=by kernel_rfl
    rw[h]at this;exact this
  obtain⟨hi,hk⟩:=hi;obtain⟨d,info,z,h1,h2,h3,h4,h5,h6,h7,h8,h9⟩:=tiOf_spec hi;split at hk
  ·rename_i s ag b ez hkd;rw[hkd]at h4;obtain⟨e,ei,ed,z',rfl,k1,k2,k3,k4,k5,k6,k7,k8,k9,k10⟩:=kdOf_slice h4;exact⟨e,ei,h1,k1,trivial⟩
  ·cases hk
 have q22:∀(w:World) (a:Option Addr) (n c n' c':Nat),(binOp .eql 32 (.slice a n c) (.slice none n' c')).run Tryz.prog w= .ok (.bool a.isNone) w:=fun w a n c n' c'=>Lib.run_eql_slice_nil w _ _ a n c n' c' ht
 have u1:=run_underlying ht;have hse:∀w,(Go.sizeOf e).run Tryz.prog w= .ok ei.size w:=fun w=>run_size hi w
 go_enter Tryz.func158,Tryz.ntmps158
 cases base with
 |
  none=>
  go_wp2
  go_ret
  exact⟨_,rfl,Step.refl _ _⟩
 |
  some a=>
  go_wp2_with (at_builtin;refine Lib.wpList_append_run _ rfl _ _ _ _ rfl _ _ rfl rfl _ _ (append_zero ht hi _ _ 0 0 c (Nat.le_refl _) _) ?_)
  all_goals
   go_ret
   exact⟨_,rfl,alloc_quiet _ _⟩
theorem clnEdge (base:Option Addr)(c:Nat)(w:World):Calls Tryz.prog 159 #[.slice base 0 c] w fun e w'=>∃a,e= .returned (.slice a 0 0)∧Step w none' w' none':=by
 obtain⟨e,ei,ht,hi,_⟩:∃e ei,Tryz.prog.underlying 33=some (.slice e)∧Tryz.prog.info? e=some ei∧True:=by
  obtain⟨i,hi⟩:∃i,tiOf Tryz.prog 33=some i∧(match i.kd with| .slice .. =>true|_=>false)=true:=by
   cases h:tiOf Tryz.prog 33 with
   |none=>exact absurd h (by
    have:(tiOf Tryz.prog 33).isSome=true:=by kernel_rfl
    intro h';rw[h']at this;cases this)
   |
    some i=>
    refine⟨i,rfl,?_⟩;have:(match tiOf Tryz.prog 33 with|some i=>(match i.kd with| .slice .. =>true|_=>false)|none=>false)=true:=by kernel_rfl
    rw[h]at this;exact this
  obtain⟨hi,hk⟩:=hi;obtain⟨d,info,z,h1,h2,h3,h4,h5,h6,h7,h8,h9⟩:=tiOf_spec hi;split at hk
  ·rename_i s ag b ez hkd;rw[hkd]at h4;obtain⟨e,ei,ed,z',rfl,k1,k2,k3,k4,k5,k6,k7,k8,k9,k10⟩:=kdOf_slice h4;exact⟨e,ei,h1,k1,trivial⟩
  ·cases hk
 have q22:∀(w:World) (a:Option Addr) (n c n' c':Nat),(binOp .eql 33 (.slice a n c) (.slice none n' c')).run Tryz.prog w= .ok (.bool a.isNone) w:=fun w a n c n' c'=>Lib.run_eql_slice_nil w _ _ a n c n' c' ht
 have u1:=run_underlying ht;have hse:∀w,(Go.sizeOf e).run Tryz.prog w= .ok ei.size w:=fun w=>run_size hi w
 go_enter Tryz.func159,Tryz.ntmps159
 cases base with
 |
  none=>
  go_wp2
  go_ret
  exact⟨_,rfl,Step.refl _ _⟩
 |
  some a=>
  go_wp2_with (at_builtin;refine Lib.wpList_append_run _ rfl _ _ _ _ rfl _ _ rfl rfl _ _ (append_zero ht hi _ _ 0 0 c (Nat.le_refl _) _) ?_)
  all_goals
   go_ret
   exact⟨_,rfl,alloc_quiet _ _⟩
theorem clnValue (base:Option Addr)(c:Nat)(w:World):Calls Tryz.prog 210 #[.slice base 0 c] w fun e w'=>∃a,e= .returned (.slice a 0 0)∧Step w none' w' none':=by
 obtain⟨e,ei,ht,hi,_⟩:∃e ei,Tryz.prog.underlying 36=some (.slice e)∧Tryz.prog.info? e=some ei∧True:=by
  obtain⟨i,hi⟩:∃i,tiOf Tryz.prog 36=some i∧(match i.kd with| .slice .. =>true|_=>false)=true:=by
   cases h:tiOf Tryz.prog 36 with
   |none=>exact absurd h (by
    have:(tiOf Tryz.prog 36).isSome=true:=by kernel_rfl
    intro h';rw[h']at this;cases this)
   |
    some i=>
    refine⟨i,rfl,?_⟩;have:(match tiOf Tryz.prog 36 with|some i=>(match i.kd with| .slice .. =>true|_=>false)|none=>false)=true:=by kernel_rfl
    rw[h]at this;exact this
  obtain⟨hi,hk⟩:=hi;obtain⟨d,info,z,h1,h2,h3,h4,h5,h6,h7,h8,h9⟩:=tiOf_spec hi;split at hk
  ·rename_i s ag b ez hkd;rw[hkd]at h4;obtain⟨e,ei,ed,z',rfl,k1,k2,k3,k4,k5,k6,k7,k8,k9,k10⟩:=kdOf_slice h4;exact⟨e,ei,h1,k1,trivial⟩
  ·cases hk
 have q22:∀(w:World) (a:Option Addr) (n c n' c':Nat),(binOp .eql 36 (.slice a n c) (.slice none n' c')).run Tryz.prog w= .ok (.bool a.isNone) w:=fun w a n c n' c'=>Lib.run_eql_slice_nil w _ _ a n c n' c' ht
 have u1:=run_underlying ht;have hse:∀w,(Go.sizeOf e).run Tryz.prog w= .ok ei.size w:=fun w=>run_size hi w
 go_enter Tryz.func210,Tryz.ntmps210
 cases base with
 |
  none=>
  go_wp2
  go_ret
  exact⟨_,rfl,Step.refl _ _⟩
 |
  some a=>
  go_wp2_with (at_builtin;refine Lib.wpList_append_run _ rfl _ _ _ _ rfl _ _ rfl rfl _ _ (append_zero ht hi _ _ 0 0 c (Nat.le_refl _) _) ?_)
  all_goals
   go_ret
   exact⟨_,rfl,alloc_quiet _ _⟩
theorem cln_ok (f:FuncId)(sz:Nat)(hf:clnF f=some sz)(z:Bool):PureOK cx f [.ls sz [] z] (.ls sz [] true):=by
 intro w X vs hX hG hl hv;obtain⟨b,cap,hvs⟩:∃b cap,vs= #[.slice b 0 cap]:=by
  have hsz:vs.size=1:=hl;have h0:∃b cap,vs.getD 0 undef= .slice b 0 cap:=by
   rcases(hv 0 _ rfl).ls_cases with⟨_,b,cap,hq,_⟩|⟨b,o',cap,us,cur,t0,fz,hq,_⟩
   ·exact⟨_,_,hq⟩
   ·exact⟨_,_,hq⟩
  obtain⟨b,cap,h0⟩:=h0;refine⟨b,cap,?_⟩;apply Array.ext
  ·simpa using hsz
  ·intro i h1 h2;have hi:i=0:=by omega
   subst hi;simpa[h1,Zr]using h0
 subst hvs;have fin:∀{f:FuncId},Calls Tryz.prog f #[.slice b 0 cap] w (fun e w'=>∃a,e= .returned (.slice a 0 0)∧Step w none' w' none')→Calls cx.P f #[.slice b 0 cap] w (fun e w'=>∃v,e= .returned v∧Step w none' w' none'∧Ri w' X v (.ls sz [] true)):=
  fun h=>h.mono fun e w' ⟨a,he,hst⟩=>⟨_,he,hst,.le _ _ _ _ (by simp[maxLen]) (fun _=>rfl)⟩
 unfold clnF at hf;split at hf
 ·rename_i e;subst e;exact⟨⟨_,Tryz.func75,of_decide_eq_true (by kernel_rfl),by kernel_rfl⟩,fin (clnString b cap w)⟩
 split at hf
 ·rename_i e;subst e;exact⟨⟨_,Tryz.func139,of_decide_eq_true (by kernel_rfl),by kernel_rfl⟩,fin (clnProp b cap w)⟩
 split at hf
 ·rename_i e;subst e;exact⟨⟨_,Tryz.func158,of_decide_eq_true (by kernel_rfl),by kernel_rfl⟩,fin (clnNode b cap w)⟩
 split at hf
 ·rename_i e;subst e;exact⟨⟨_,Tryz.func159,of_decide_eq_true (by kernel_rfl),by kernel_rfl⟩,fin (clnEdge b cap w)⟩
 split at hf
 ·rename_i e;subst e;exact⟨⟨_,Tryz.func210,of_decide_eq_true (by kernel_rfl),by kernel_rfl⟩,fin (clnValue b cap w)⟩
 cases hf
end Go.Proofs.YtadaeokidcgdlaaGreatDoor
