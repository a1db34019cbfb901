/- Part of the proof. -/
import Derived.Test.YtaibpnppeiigdaaGreatDoorP32
import Derived.Recover
import Derived.WalkKit
set_option linter.all false
set_option maxHeartbeats 4000000
set_option maxRecDepth 100000
namespace Go.Proofs.YtaibpnppeiigdaaGreatDoor
open Go Go.Ae Go.Proofs.Tryz
def RQ :WE prog 237 89:=λw base n cap vb vc r W Q hn wk hm kb fin=>by
 go_enter func237,ntmps237
 cases base with
 |
  none=>
  go_wp2_with (at_builtin;refine Lib.wpList_append_run _ rfl _ _ _ _ rfl _ _ rfl rfl _ _ (kb _) ?_)
  all_goals exact fin
 |
  some a=>
  obtain⟨ab,ao,asp⟩:=a
  go_wp2_with (at_builtin;refine Lib.wpList_append_run _ rfl _ _ _ _ rfl _ _ rfl rfl _ _ (kb _) ?_)
  all_goals exact fin
def RS :WS prog 237 283 89 6:=λe ei w W b n cap i vb vc C Q ht hi hs xw ny nu wk hm hov J7 J8 fin=>by
 have Hh:IntKind.i64.wrap ((i:Int)+1)=(i:Int)+1:=by rw[IntKind.wrap_i64];omega
 have hw2:IntKind.i64.wrap ((n:Int)+1)=(n:Int)+1:=by rw[IntKind.wrap_i64];omega
 have Dd:(0:Int)<=(i:Int)+1:=by omega
 have hii:i<=n:=by omega
 have htn:((i:Int)+1).toNat=i+1:=by omega
 have aey:((n:Int)+1).toNat=n+1:=by omega
 have KW:¬(cap=i+1):=by omega
 have DD:(i:Int)<=(n:Int)+1:=by omega
 have hb4:¬(cap=i):=by omega
 have mixed:prog.follows .mixedOrders=true:=by kernel_rfl
 go_enter func237,ntmps237
 go_wp2_with (simp only[hov])
 go_region_law_o (refine jx rfl _ _ 89 89 rfl _ _ (by simp[Act.eval,Act.put]) (by simp[Act.eval,Act.put]) (J7 _ _ _) ?_)
 go_wp2_with (at_builtin;refine iu _ rfl _ _ 89 89 rfl _ _ rfl rfl (J8 _ rfl _ _) ?_)
 exact fin
def RT :WG prog 237 89 3 6:=λe ei w W b B cap i vb vc G R S Q ht hi hs xw ny wk hm rS n_ MN J_ Ka fin=>by
 have Hh:IntKind.i64.wrap ((i:Int)+1)=(i:Int)+1:=by rw[IntKind.wrap_i64];omega
 have hw2:IntKind.i64.wrap ((cap:Int)+1)=(cap:Int)+1:=by rw[IntKind.wrap_i64];omega
 have hw3:IntKind.i64.wrap ((cap:Int)+1-(i:Int))=(cap:Int)+1-(i:Int):=by rw[IntKind.wrap_i64];omega
 have Dd:(0:Int)<=(i:Int)+1:=by omega
 have aez:((i:Int)+1).toNat=i+1:=by omega
 have KW:¬(cap=i):=by omega
 have DD:(i:Int)<=(cap:Int):=by omega
 have hb4:¬(G=i):=by omega
 have hb5:¬(G=i+1):=by omega
 have hz3:(cap:Int)< (cap:Int)+1:=by omega
 have mixed:prog.follows .mixedOrders=true:=by kernel_rfl
 go_enter func237,ntmps237
 go_wp2_with (first
  |(at_builtin;refine Lib.wpList_append_run _ rfl _ _ _ _ rfl _ _ rfl rfl _ _ (MN _) ?_)
  |(at_builtin;refine iu _ rfl _ _ 89 89 rfl _ _ rfl rfl (J_ _ rfl _ _) ?_))
 go_region_law_o (refine jx rfl _ _ 89 89 rfl (.slice (some ⟨B,(i+1)*6,none⟩) (cap-i) (G-(i+1))) (.slice (some ⟨b,i*6,none⟩) (cap-i) (cap-i)) (by simp[Act.eval,Act.put]) (by simp[Act.eval,Act.put]) (Ka ((W.setRow B R).drew) rfl 3 (G-(i+1)) (cap-i)) ?_)
 go_wp2
 exact fin _ rfl rfl rfl rfl (by first|exact Nat.le_refl _|exact Nat.le_succ _|(show W.drawn<=W.drawn+1+1;omega))
def M9 :zQ cx 237 6 80:=
 GN (O:=283) (T:=89) (I:=3) (D:=4) (by omega) (by omega) (by kernel_rfl) (by kernel_rfl) ⟨_,func237,of_decide_eq_true (by kernel_rfl),by kernel_rfl⟩
  (λargs w=>run_callFunc_extern func283 (by kernel_rfl) (by kernel_rfl) (by kernel_rfl) (by kernel_rfl) args w) RQ RS RT
open Go Go.Ae
def RU :WE prog 170 22:=λw base n cap vb vc r W Q hn wk hm kb fin=>by
 go_enter func170,ntmps170
 cases base with
 |
  none=>
  go_wp2_with (at_builtin;refine Lib.wpList_append_run _ rfl _ _ _ _ rfl _ _ rfl rfl _ _ (kb _) ?_)
  all_goals exact fin
 |
  some a=>
  obtain⟨ab,ao,asp⟩:=a
  go_wp2_with (at_builtin;refine Lib.wpList_append_run _ rfl _ _ _ _ rfl _ _ rfl rfl _ _ (kb _) ?_)
  all_goals exact fin
def RW :WS prog 170 228 22 3:=λe ei w W b n cap i vb vc C Q ht hi hs xw ny nu wk hm hov J7 J8 fin=>by
 have Hh:IntKind.i64.wrap ((i:Int)+1)=(i:Int)+1:=by rw[IntKind.wrap_i64];omega
 have hw2:IntKind.i64.wrap ((n:Int)+1)=(n:Int)+1:=by rw[IntKind.wrap_i64];omega
 have Dd:(0:Int)<=(i:Int)+1:=by omega
 have hii:i<=n:=by omega
 have htn:((i:Int)+1).toNat=i+1:=by omega
 have aey:((n:Int)+1).toNat=n+1:=by omega
 have KW:¬(cap=i+1):=by omega
 have DD:(i:Int)<=(n:Int)+1:=by omega
 have hb4:¬(cap=i):=by omega
 have mixed:prog.follows .mixedOrders=true:=by kernel_rfl
 go_enter func170,ntmps170
 go_wp2_with (simp only[hov])
 go_region_law_o (refine jx rfl _ _ 22 22 rfl _ _ (by simp[Act.eval,Act.put]) (by simp[Act.eval,Act.put]) (J7 _ _ _) ?_)
 go_wp2_with (at_builtin;refine iu _ rfl _ _ 22 22 rfl _ _ rfl rfl (J8 _ rfl _ _) ?_)
 exact fin
def RX :WG prog 170 22 3 3:=λe ei w W b B cap i vb vc G R S Q ht hi hs xw ny wk hm rS n_ MN J_ Ka fin=>by
 have Hh:IntKind.i64.wrap ((i:Int)+1)=(i:Int)+1:=by rw[IntKind.wrap_i64];omega
 have hw2:IntKind.i64.wrap ((cap:Int)+1)=(cap:Int)+1:=by rw[IntKind.wrap_i64];omega
 have hw3:IntKind.i64.wrap ((cap:Int)+1-(i:Int))=(cap:Int)+1-(i:Int):=by rw[IntKind.wrap_i64];omega
 have Dd:(0:Int)<=(i:Int)+1:=by omega
 have aez:((i:Int)+1).toNat=i+1:=by omega
 have KW:¬(cap=i):=by omega
 have DD:(i:Int)<=(cap:Int):=by omega
 have hb4:¬(G=i):=by omega
 have hb5:¬(G=i+1):=by omega
 have hz3:(cap:Int)< (cap:Int)+1:=by omega
 have mixed:prog.follows .mixedOrders=true:=by kernel_rfl
 go_enter func170,ntmps170
 go_wp2_with (first
  |(at_builtin;refine Lib.wpList_append_run _ rfl _ _ _ _ rfl _ _ rfl rfl _ _ (MN _) ?_)
  |(at_builtin;refine iu _ rfl _ _ 22 22 rfl _ _ rfl rfl (J_ _ rfl _ _) ?_))
 go_region_law_o (refine jx rfl _ _ 22 22 rfl (.slice (some ⟨B,(i+1)*3,none⟩) (cap-i) (G-(i+1))) (.slice (some ⟨b,i*3,none⟩) (cap-i) (cap-i)) (by simp[Act.eval,Act.put]) (by simp[Act.eval,Act.put]) (Ka ((W.setRow B R).drew) rfl 3 (G-(i+1)) (cap-i)) ?_)
 go_wp2
 exact fin _ rfl rfl rfl rfl (by first|exact Nat.le_refl _|exact Nat.le_succ _|(show W.drawn<=W.drawn+1+1;omega))
def M_ :zQ cx 170 3 56:=
 GN (O:=228) (T:=22) (I:=3) (D:=4) (by omega) (by omega) (by kernel_rfl) (by kernel_rfl) ⟨_,func170,of_decide_eq_true (by kernel_rfl),by kernel_rfl⟩
  (λargs w=>run_callFunc_extern func228 (by kernel_rfl) (by kernel_rfl) (by kernel_rfl) (by kernel_rfl) args w) RU RW RX
open Go Go.Ae
def RY :WE prog 177 23:=λw base n cap vb vc r W Q hn wk hm kb fin=>by
 go_enter func177,ntmps177
 cases base with
 |
  none=>
  go_wp2_with (at_builtin;refine Lib.wpList_append_run _ rfl _ _ _ _ rfl _ _ rfl rfl _ _ (kb _) ?_)
  all_goals exact fin
 |
  some a=>
  obtain⟨ab,ao,asp⟩:=a
  go_wp2_with (at_builtin;refine Lib.wpList_append_run _ rfl _ _ _ _ rfl _ _ rfl rfl _ _ (kb _) ?_)
  all_goals exact fin
def RZ :WS prog 177 240 23 5:=λe ei w W b n cap i vb vc C Q ht hi hs xw ny nu wk hm hov J7 J8 fin=>by
 have Hh:IntKind.i64.wrap ((i:Int)+1)=(i:Int)+1:=by rw[IntKind.wrap_i64];omega
 have hw2:IntKind.i64.wrap ((n:Int)+1)=(n:Int)+1:=by rw[IntKind.wrap_i64];omega
 have Dd:(0:Int)<=(i:Int)+1:=by omega
 have hii:i<=n:=by omega
 have htn:((i:Int)+1).toNat=i+1:=by omega
 have aey:((n:Int)+1).toNat=n+1:=by omega
 have KW:¬(cap=i+1):=by omega
 have DD:(i:Int)<=(n:Int)+1:=by omega
 have hb4:¬(cap=i):=by omega
 have mixed:prog.follows .mixedOrders=true:=by kernel_rfl
 go_enter func177,ntmps177
 go_wp2_with (simp only[hov])
 go_region_law_o (refine jx rfl _ _ 23 23 rfl _ _ (by simp[Act.eval,Act.put]) (by simp[Act.eval,Act.put]) (J7 _ _ _) ?_)
 go_wp2_with (at_builtin;refine iu _ rfl _ _ 23 23 rfl _ _ rfl rfl (J8 _ rfl _ _) ?_)
 exact fin
def R6 :WG prog 177 23 3 5:=λe ei w W b B cap i vb vc G R S Q ht hi hs xw ny wk hm rS n_ MN J_ Ka fin=>by
 have Hh:IntKind.i64.wrap ((i:Int)+1)=(i:Int)+1:=by rw[IntKind.wrap_i64];omega
 have hw2:IntKind.i64.wrap ((cap:Int)+1)=(cap:Int)+1:=by rw[IntKind.wrap_i64];omega
 have hw3:IntKind.i64.wrap ((cap:Int)+1-(i:Int))=(cap:Int)+1-(i:Int):=by rw[IntKind.wrap_i64];omega
 have Dd:(0:Int)<=(i:Int)+1:=by omega
 have aez:((i:Int)+1).toNat=i+1:=by omega
 have KW:¬(cap=i):=by omega
 have DD:(i:Int)<=(cap:Int):=by omega
 have hb4:¬(G=i):=by omega
 have hb5:¬(G=i+1):=by omega
 have hz3:(cap:Int)< (cap:Int)+1:=by omega
 have mixed:prog.follows .mixedOrders=true:=by kernel_rfl
 go_enter func177,ntmps177
 go_wp2_with (first
  |(at_builtin;refine Lib.wpList_append_run _ rfl _ _ _ _ rfl _ _ rfl rfl _ _ (MN _) ?_)
  |(at_builtin;refine iu _ rfl _ _ 23 23 rfl _ _ rfl rfl (J_ _ rfl _ _) ?_))
 go_region_law_o (refine jx rfl _ _ 23 23 rfl (.slice (some ⟨B,(i+1)*5,none⟩) (cap-i) (G-(i+1))) (.slice (some ⟨b,i*5,none⟩) (cap-i) (cap-i)) (by simp[Act.eval,Act.put]) (by simp[Act.eval,Act.put]) (Ka ((W.setRow B R).drew) rfl 3 (G-(i+1)) (cap-i)) ?_)
 go_wp2
 exact fin _ rfl rfl rfl rfl (by first|exact Nat.le_refl _|exact Nat.le_succ _|(show W.drawn<=W.drawn+1+1;omega))
def Na :zQ cx 177 5 64:=
 GN (O:=240) (T:=23) (I:=3) (D:=4) (by omega) (by omega) (by kernel_rfl) (by kernel_rfl) ⟨_,func177,of_decide_eq_true (by kernel_rfl),by kernel_rfl⟩
  (λargs w=>run_callFunc_extern func240 (by kernel_rfl) (by kernel_rfl) (by kernel_rfl) (by kernel_rfl) args w) RY RZ R6
end Go.Proofs.YtaibpnppeiigdaaGreatDoor
namespace Go.Proofs.YtaibpnppeiigdaaGreatDoor
open Go Go.Ae Go.Proofs.Tryz
noncomputable def ag4 (f:Nat):Bool:=match Pv prog f with
 |some fi=>codeOk cx fi.body && (match prog.funcs[f]? with|some fn=>fn.name != "runtime.NumGoroutine" |none=>true)
 |none=>true
def aeA :((List.range 343).all ag4)=true:=by kernel_rfl
def ag5 :Nb cx:={
 mixed:=by kernel_rfl
 types:=λ_ _ h=>h
 aeB:=λf fi h=>by
  have h':(bif Nat.blt f 343 then Pv prog f else none)=some fi:=h;cases hb:Nat.blt f 343 with
  |false=>rw[hb]at h';cases h'
  |
   true=>
   rw[hb]at h';have dY:f<343:=by simpa[Nat.blt_eq]using hb
   have hk:=Yr.1 aeA f (List.mem_range.2 dY);unfold ag4 at hk;simp only[cond_true]at h';rw[h']at hk;simp only[Zh]at hk;refine⟨h',hk.1,λfn wz=>?_⟩;have h2:=hk.2;have akl:prog.funcs[f]?=some fn:=wz;rw[akl]at h2;simpa using h2}
def aeC (f:FuncId)(xs:LA)(r:AV)(h:cx.tE f xs=some r):oY cx f xs r:=by
 have h':yn f xs=some r:=h;unfold yn at h';split at h'
 .rename_i hf;subst hf;split at h'
  case h_2=>cases h'
  rename_i n;split at h'
  case isFalse=>cases h'
  rename_i hn;cases h';rw[WA n hn.1 hn.2];exact abr cx rfl rfl n hn.1 hn.2
 .split at h'
  .rename_i hf;subst hf;split at h'
   case h_2=>cases h'
   rename_i g cY z;split at h'
   case isFalse=>cases h'
   rename_i hg;split at h'
   case h_2=>cases h'
   rename_i l hl;cases h';have e:=uG hl;have cU:l.length<=1000000000000:=by have:=hg.2;rw[e,Yk]at this;exact this
   rw[hg.1,e];exact M6 cx rfl l z cU
  .split at h'
   .rename_i sz s rest z hc;split at h'
    .rename_i e;simp only[Zc]at h';subst e h';exact aev f _ hc _
    .cases h'
   .cases h'
def aeD (f:FuncId)(sz bytes:Nat)(h:cx.ins f=some (sz,bytes))(hb:bytes≠0)(Dd:bytes≠1):zQ cx f sz bytes:=by
 have h':GR f=some (sz,bytes):=h;unfold GR at h';split at h'
 .rename_i e;cases h';subst e;exact GQ
 split at h'
 .rename_i e;cases h';subst e;exact M9
 split at h'
 .rename_i e;cases h';subst e;exact M_
 split at h'
 .rename_i e;cases h';subst e;exact Na
 split at h'
 .rename_i e;cases h';subst e;exact absurd rfl hb
 split at h'
 .rename_i e;cases h';subst e;exact absurd rfl hb
 split at h'
 .rename_i e;cases h';subst e;exact absurd rfl Dd
 cases h'
def aeE (f:FuncId)(sz:Nat)(h:cx.ins f=some (sz,0)):zN cx f sz:=by
 have h':GR f=some (sz,0):=h;unfold GR at h';split at h'
 .cases h'
 split at h'
 .cases h'
 split at h'
 .cases h'
 split at h'
 .cases h'
 split at h'
 .rename_i e;cases h';subst e;exact abj cx rfl
 split at h'
 .rename_i e;cases h';subst e;exact RE cx rfl
 split at h'
 .cases h'
 cases h'
def aeF (f:FuncId)(sz:Nat)(h:cx.ins f=some (sz,1)):WB cx f:=by
 have h':GR f=some (sz,1):=h;unfold GR at h';split at h'
 .cases h'
 split at h'
 .cases h'
 split at h'
 .cases h'
 split at h'
 .cases h'
 split at h'
 .cases h'
 split at h'
 .cases h'
 split at h'
 .rename_i e;subst e;intro xs cY z Ar eW w X vs hX hG gC hv;have ht:yn 127 xs=some (.ls 1 cY z):=Ar;unfold yn at ht;rw[db (by decide),dd rfl]at ht;split at ht
  case h_2=>cases ht
  rename_i g rows' z';split at ht
  case isFalse=>cases ht
  rename_i hg;split at ht
  case h_2=>cases ht
  rename_i l hl;have e:=uG hl;have cU:l.length<=1000000000000:=by have:=hg.2;rw[e,Yk]at this;exact this
  injection ht with ht
  rw[hg.1,e]at hv;exact J2 cx rfl l z' cU cY z ht w X vs hX (by simpa using gC) hv
 cases h'
def ag6 (f:FuncId)(w:World)(X:Nat->Prop)(v:Value)(r:AV)(h:Ri w X v r):Ri w X v (cx.nf f r):=by
 show Ri w X v (LS f r);unfold LS;split
 .exact aeG h
 .split
  .exact aeH h
  .exact aeI _ h
def WC (w:World)(p:Nat):CallsD prog 106 #[.pointer (some ⟨p,0,none⟩)] .returning w λe u' w'=>(∃v,e= .returned v)/\u'= .returning/\w'=w:=by
 refine callsD_of_wpS func106 rfl λc₀ cs hu=>?_
 apply wpS_seq;apply wpS_region;simp[wpOpsS,go_sem,recoverD,hu,ntmps106,Exit.thenS];apply wpS_seq;apply wpS_region;simp[wpOpsS,go_sem,Exit.thenS];refine wpS_cond (t:=false) (by simp[Act.eval,Array.replicate]) ?_;simp only[Yq,if_false];refine wpS_of_wp (wp_skip ?_);cases c₀
 simp_all [bodyPostS,results,Tryz.results106]
def aeJ (v:Value)(w:World):(Instr.typeAssert (.iface 150 v) 20 150 true).run prog w= .ok (.tuple #[v,.bool true]) w:=by kernel_rfl
def abx (w:World)(p:Nat)(dA:Array Value)(t:TypeId)(fz:Nat × Nat)(hc:w.heap[p]?=some (.cells dA t fz))(hf:Fz fz dA)(h0:0<dA.size):w.frozen? ⟨p,0,none⟩=false:=by
 rcases hf with rfl|hf
 .simp[World.frozen?,hc]
 .obtain⟨lo,pQ⟩:=fz;simp only[World.frozen?,hc,Bool.and_eq_false_iff,decide_eq_false_iff_not];left;simp only at hf;omega
set_option maxHeartbeats 1000000 in
def WD (w:World)(p:Nat)(dA:Array Value)(t:TypeId)(fz:Nat × Nat)(hc:w.heap[p]?=some (.cells dA t fz))(hf:Fz fz dA)(h0:0<dA.size)(k:IntKind)(n:Int):
 CallsD prog 106 #[.pointer (some ⟨p,0,none⟩)] (.panicking [{v:= .iface 150 (.int k n),recovered:=false}]) w
  (λe u' w'=>(∃v,e= .returned v)/\u'= .panicking [{v:= .iface 150 (.int k n),recovered:=true}]/\w'=w.setRow p (dA.setIfInBounds 0 (.int k n))):=by
 have fo:w.cell? ⟨p,0,none⟩=some dA[0]:=by simp[World.cell?,hc,h0]
 have adG:=abx w p dA t fz hc hf h0;have iA:=setCell_eq_setRow w p 0 dA t fz (.int k n) hc;refine callsD_of_wpS func106 rfl λc₀ cs hu=>?_
 rw[show #[Value.pointer (some ⟨p,0,none⟩)]++Array.replicate (f106.ntmps- #[Value.pointer (some ⟨p,0,none⟩)].size) undef= #[.pointer (some ⟨p,0,none⟩),undef,undef,undef,undef,undef,undef,undef,undef,undef,undef,undef,undef,undef,undef]from rfl];apply wpS_seq;apply wpS_region;simp[wpOpsS,go_sem,recoverD,hu,Exit.thenS];apply wpS_seq;apply wpS_region;simp[wpOpsS,go_sem,Exit.thenS];refine wpS_cond (t:=true) rfl ?_;simp only[if_true];apply wpS_seq;apply wpS_seq;apply wpS_region;simp[wpOpsS,go_sem,aeJ,Exit.thenS];apply wpS_seq;apply wpS_region;simp[wpOpsS,go_sem,Exit.thenS];refine wpS_cond (t:=true) rfl ?_;simp only[if_true];apply wpS_seq;apply wpS_region;simp[wpOpsS,go_sem,fo,adG,iA,Exit.thenS];refine wpS_of_wp (wp_ret ?_);cases c₀
 simp_all [bodyPostS,results,Tryz.results106,Exit.thenS]
def aeK :WH cx 106 150:=
 ⟨⟨_,func106,of_decide_eq_true (by kernel_rfl),by kernel_rfl⟩,WC,λw p dA t fz hc hf h0 k n=>WD w p dA t fz hc hf h0 k n⟩
def ade :WI cx:={
 base:=ag5
 Y7:=λg T h=>by
  have h':(if g=106 then some 150 else none)=some T:=h;split at h'
  .rename_i e;subst e;cases h';exact aeK
  .cases h'
 ox:=λf g kt h=>by cases h
 tE:=aeC
 ins:=aeD
 sfn:=aeE
 own:=aeF
 nf:=ag6}
end Go.Proofs.YtaibpnppeiigdaaGreatDoor
