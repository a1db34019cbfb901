/- Part of the proof. -/
import Derived.Test.YtmocfjnklfpnbaaGreatDoorP36
import Derived.Shelf.SlSortCmp.Whole1
import Derived.Shelf.SlSortCmp.WholeK
import Derived.Shelf.SlSortCmp.NoneTotal
import Derived.Lib.Walk
import Derived.WalkKit
import Derived.Shelf.RegionOpenPlain
import Derived.Lib.AppendZerosOnto
import Derived.Lib.Overlaps
import Derived.Lib.SliceRun
import Derived.Laws.Externs
import Derived.Laws.IdiomCopy
set_option linter.all false
set_option maxRecDepth 100000
namespace Go.Proofs
open Go Go.Ae Go.RowKit Go.Shelf Go.Sort Go.Lib Go.Proofs.Tryz
set_option maxHeartbeats 2000000 in
def Tryz.sf_none(p:Option Addr)(cap:Nat)(fv:Value)(w:World):
 Calls prog 18 #[.slice p 0 cap,fv] w λe w'=>e= .returned (.tuple #[])/\w'=w:=by
 have e14:∀args w,(callFunc 48 args).run prog w= .ok (.enter 48 args) w:=Tryz.laysSlF014_f48.f14.enters rfl;have e15:∀args w,(callFunc 49 args).run prog w= .ok (.enter 49 args) w:=enters_of func49 (by kernel_rfl) rfl;have hp:=λlim W=>AnyF.pdqsortCmpFunc_none Tryz.laysSlF014_f48 p cap lim fv W
 have hl:∀W,Calls prog 49 #[.int .u64 0] W λe w'=>e= .returned (.int .i64 (Lib.bitLen 0:Nat))/\w'=W:=λW=>Tryz.bits_Len 0 W (by omega) (by omega)
 go_enter func18,ntmps18
 go_wp2_with (first|(go_at_fn 49;refine(hl _).mono ?_;rintro e w' ⟨rfl,rfl⟩)|(go_at_fn 48;refine(hp _ _).mono ?_;rintro e w' ⟨rfl,rfl⟩))
 go_end0
 exact⟨rfl,rfl⟩
set_option maxHeartbeats 2000000 in
def Tryz.sf_eq{α:Type}[Inhabited α](k:Nat)(aE:∀w,(isAgg 37).run prog w= .ok true w)(zE:∀w,(Go.sizeOf 37).run prog w= .ok k w)(enc:α->List Value)(hk:∀x,(enc x).length=k)(h1:∀x,∀v∈enc x,v.oneCell'=true)(cf:α->α->Int)(hO:SWO (ltOf cf))(g:Nat)(cb:Array Value)(km off cap:Nat)(d:Array α)(w:World)(eg:∀args w,(callFunc g args).run prog w= .ok (.enter g args) w)(AY:CmpLays prog g cb enc k cf km off d.size w)(hH:HoldsK enc k w km off d)(hblk:km<w.heap.size)(ik:d.size<4611686018427387904):
 Calls prog 18 #[.slice (some ⟨km,off,none⟩) d.size cap,.func (.func g) #[] cb] w λe w'=>
  e= .returned (.tuple #[])/\∃n os,w'=sortWorldK enc k w km off n (pdq (ltOf cf) d 0 d.size (Lib.bitLen d.size) true true) os:=by
 have e14:∀args w,(callFunc 48 args).run prog w= .ok (.enter 48 args) w:=Tryz.laysSlF014_f48.f14.enters rfl;have e15:∀args w,(callFunc 49 args).run prog w= .ok (.enter 49 args) w:=enters_of func49 (by kernel_rfl) rfl;have Cs:Lib.bitLen d.size<4611686018427387904:=Nat.lt_of_le_of_lt (Lib.bitLen_le d.size 62 (by omega) (by omega)) (by omega);have hp:=AnyQ.pdqsortCmpFunc_all Tryz.laysSlF014_f48 k aE zE enc cf g cb hO km off cap d w eg AY ⟨hk,h1,hH,hblk⟩ (d.size+1) 0 d.size (Lib.bitLen d.size) d w (by omega) rfl (SWK.start hH) (Yt _) (Yq _) ik Cs (Or.inl rfl);have hl:Calls prog 49 #[.int .u64 (d.size:Int)] w λe w'=>e= .returned (.int .i64 (Lib.bitLen d.size:Nat))/\w'=w:=by
  have h:=Tryz.bits_Len (d.size:Int) w (by omega) (by omega)
  rwa [Int.toNat_natCast]at h
 have wr:IntKind.u64.wrap (d.size:Int)=d.size:=by simp[IntKind.wrap,IntKind.bits,IntKind.signed];omega
 clear hH AY hk h1
 go_enter func18,ntmps18
 go_wp2_with (first|(go_at_fn 49;refine hl.mono ?_;rintro e w' ⟨rfl,rfl⟩)|(go_at_fn 48;refine hp.mono ?_;rintro e w' ⟨rfl,n,os,rfl⟩))
 go_end0
 exact⟨rfl,n,os,rfl⟩
def sfnPred(C:Cx)(hP:C.P=prog):DL C 18 8:=by
 refine TQ (by omega) ⟨_,by rw[hP];exact func18,of_decide_eq_true (by kernel_rfl),by kernel_rfl⟩ ?_ ?_
 .intro p cap fv w;rw[hP];exact Tryz.sf_none p cap fv w
 .intro m enc h1 h2 cf hO g km off cap d w eg AY hH hblk ik;rw[hP]at eg AY|-;exact Tryz.sf_eq 8 Tryz.isAgg37 Tryz.sizeOf37 enc h1 h2 cf hO g #[] km off cap d w eg AY hH hblk ik
end Go.Proofs
namespace Go.Proofs.YtmocfjnklfpnbaaGreatDoor
open Go Go.Ae Go.Proofs.Tryz
def X_(base:Option Addr)(c:Nat)(w:World):Calls prog 126 #[.slice base 0 c] w λe w'=>∃a,e= .returned (.slice a 0 0)/\Step w eK w' eK:=by
 obtain⟨e,ei,ht,hi,_⟩:∃e ei,prog.underlying 71=some (.slice e)/\prog.info? e=some ei/\True:=by
  obtain⟨i,hi⟩:∃i,ir prog 71=some i/\(match i.kd with| .slice .. =>true|_=>false)=true:=by
   cases h:ir prog 71 with
   |none=>exact absurd h (by
    have:(ir prog 71).isSome=true:=by kernel_rfl
    intro h';rw[h']at this;cases this)
   |some i=>
    refine⟨i,rfl,?_⟩;have:(match ir prog 71 with|some i=>(match i.kd with| .slice .. =>true|_=>false)|none=>false)=true:=by kernel_rfl
    rw[h]at this;exact this
  obtain⟨hi,hk⟩:=hi;obtain⟨d,info,z,h1,h2,h3,h4,h5,h6,h7,h8,h9⟩:=eX hi;split at hk
  .rename_i s ag b ez hkd;rw[hkd]at h4;obtain⟨e,ei,ed,z',rfl,k1,k2,k3,k4,k5,k6,k7,k8,k9,C4⟩:=gX h4;exact⟨e,ei,h1,k1,trivial⟩
  .cases hk
 have q22:∀(w:World)(a:Option Addr)(n c n' c':Nat),(binOp .eql 71 (.slice a n c) (.slice none n' c')).run prog w= .ok (.bool a.isNone) w:=λw a n c n' c'=>Lib.run_eql_slice_nil w _ _ a n c n' c' ht
 have u1:=run_underlying ht;have hse:∀w,(Go.sizeOf e).run prog w= .ok ei.size w:=λw=>fX hi w
 go_enter func126,ntmps126
 cases base with
 |
  none=>
  go_wp2
  go_ret
  exact⟨_,rfl,Step.refl _ _⟩
 |some a=>
  go_wp2_with (at_builtin;refine Lib.wpList_append_run _ rfl _ _ _ _ rfl _ _ rfl rfl _ _ (o6 ht hi _ _ 0 0 c (Yq _) _) ?_)
  all_goals
   go_ret
   exact⟨_,rfl,mK _ _⟩
def TR(base:Option Addr)(c:Nat)(w:World):Calls prog 173 #[.slice base 0 c] w λe w'=>∃a,e= .returned (.slice a 0 0)/\Step w eK w' eK:=by
 obtain⟨e,ei,ht,hi,_⟩:∃e ei,prog.underlying 33=some (.slice e)/\prog.info? e=some ei/\True:=by
  obtain⟨i,hi⟩:∃i,ir prog 33=some i/\(match i.kd with| .slice .. =>true|_=>false)=true:=by
   cases h:ir prog 33 with
   |none=>exact absurd h (by
    have:(ir prog 33).isSome=true:=by kernel_rfl
    intro h';rw[h']at this;cases this)
   |some i=>
    refine⟨i,rfl,?_⟩;have:(match ir prog 33 with|some i=>(match i.kd with| .slice .. =>true|_=>false)|none=>false)=true:=by kernel_rfl
    rw[h]at this;exact this
  obtain⟨hi,hk⟩:=hi;obtain⟨d,info,z,h1,h2,h3,h4,h5,h6,h7,h8,h9⟩:=eX hi;split at hk
  .rename_i s ag b ez hkd;rw[hkd]at h4;obtain⟨e,ei,ed,z',rfl,k1,k2,k3,k4,k5,k6,k7,k8,k9,C4⟩:=gX h4;exact⟨e,ei,h1,k1,trivial⟩
  .cases hk
 have q22:∀(w:World)(a:Option Addr)(n c n' c':Nat),(binOp .eql 33 (.slice a n c) (.slice none n' c')).run prog w= .ok (.bool a.isNone) w:=λw a n c n' c'=>Lib.run_eql_slice_nil w _ _ a n c n' c' ht
 have u1:=run_underlying ht;have hse:∀w,(Go.sizeOf e).run prog w= .ok ei.size w:=λw=>fX hi w
 go_enter func173,ntmps173
 cases base with
 |
  none=>
  go_wp2
  go_ret
  exact⟨_,rfl,Step.refl _ _⟩
 |some a=>
  go_wp2_with (at_builtin;refine Lib.wpList_append_run _ rfl _ _ _ _ rfl _ _ rfl rfl _ _ (o6 ht hi _ _ 0 0 c (Yq _) _) ?_)
  all_goals
   go_ret
   exact⟨_,rfl,mK _ _⟩
def acm(f:FuncId)(sz:Nat)(hf:TS f=some sz)(z z':Bool):iG cx f [.ls sz [] z] (.ls sz [] z'):=by
 intro w X vs hX hG hl hv;obtain⟨b,cap,TU⟩:∃b cap,vs= #[.slice b 0 cap]:=by
  have ik:vs.size=1:=hl;have h0:∃b cap,vs.getD 0 undef= .slice b 0 cap:=by
   rcases(hv 0 _ rfl).iR with⟨_,b,cap,hq,_⟩|⟨b,o',cap,us,cV,t0,fz,hq,_⟩
   .exact⟨_,_,hq⟩
   .exact⟨_,_,hq⟩
  obtain⟨b,cap,h0⟩:=h0;refine⟨b,cap,?_⟩;apply Array.ext
  .simpa using ik
  .intro i h1 h2;have hi:i=0:=by omega
   subst hi;simpa[h1,Zr]using h0
 subst TU;have fin:∀{f:FuncId},Calls prog f #[.slice b 0 cap] w (λe w'=>∃a,e= .returned (.slice a 0 0)/\Step w eK w' eK)->Calls cx.P f #[.slice b 0 cap] w (λe w'=>∃v,e= .returned v/\Step w eK w' eK/\Ri w' X v (.ls sz [] z')):=
  λh=>h.mono λe w' ⟨a,he,dO⟩=>⟨_,he,dO,.le _ _ _ _ (by simp[maxLen]) (λ_=>rfl)⟩
 unfold TS at hf;split at hf
 .rename_i e;subst e;exact⟨⟨_,func126,of_decide_eq_true (by kernel_rfl),by kernel_rfl⟩,fin (X_ b cap w)⟩
 split at hf
 .rename_i e;subst e;exact⟨⟨_,func173,of_decide_eq_true (by kernel_rfl),by kernel_rfl⟩,fin (TR b cap w)⟩
 cases hf
end Go.Proofs.YtmocfjnklfpnbaaGreatDoor
