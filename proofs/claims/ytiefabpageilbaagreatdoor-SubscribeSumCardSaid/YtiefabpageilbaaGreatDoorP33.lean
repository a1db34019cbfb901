/- A number put into a list in order: the reference's. -/
import Derived.Test.YtiefabpageilbaaGreatDoorP32
import Derived.Test.YtiefabpageilbaaGreatDoorP30
import Derived.Shelf.Strings.Search3
import Derived.Shelf.SlIter.Nil
import Derived.Shelf.SlGeneric
import Derived.Shelf.SortM.Plain
import Derived.Shelf.SortM.SortNone
import Derived.Ground.GgzProg
import Derived.Ground.SlgmProg
import Derived.Test.YtiefabpageilbaaGreatDoorProg
set_option linter.all false
set_option maxRecDepth 100000
namespace Go.Proofs.YtiefabpageilbaaGreatDoor
open Go Go.Ae
section
attribute [local simp] aop aopW coldF extF putA ofConst flat scalarOp fastOp binFast intOp strOp guardX Ae.part rowOf szOk natOf lenA cls fillA newsOf isNilC cellX
set_option maxHeartbeats 16000000
def w1 (x:Int)(s:List Int × Bool)(y:Int):List Int × Bool:=if x<y∧(s.2||decide (y=x))=false then(s.1++[x]++[y],true)else(s.1++[y],s.2||decide (y=x))
def withF (l:List Int)(x:Int)(i:Nat):List Int × Bool:=(l.take i).foldl (w1 x) ([],false)
structure WithI (l:List Int)(x:Int)(z:Bool)(i:Nat)(s:St):Prop where
 le:i≤l.length
 len:s.1.length=48
 g0:gt s.1 0= .ls 1 (tI l) z
 g1:gt s.1 1= .sc (.int .i64 x)
 g6:gt s.1 6= .sc (.bool (withF l x i).2)
 g7:gt s.1 7= .sc (.int .i64 (i:Nat))
 bld:∃y,gt s.1 5=y∧Bld s.2 1 (tI (withF l x i).1) y
structure Am where
 k:Int
 vs:List Int
 nm:ByteArray
 ts:List ByteArray
 v:V
def encA (a:Am):List AV:= .sc (.int .i64 a.k):: .ls 1 (tI a.vs) false:: .sc (.string a.nm)::tsV a.ts false::enc a.v
theorem loop_upE {call:Bool→FuncId→List AV→Hp→Option (AV × Hp)}(Inv:Nat→St→Prop)(Q:Out→St→Prop)(N:Nat)(hN:N<cx.fuel)(X:Option (Out × St))(c:Code)(fr:List AV)(h:Hp)(hX:exec2 cx call (.loop c) (fr,h)=X)(hI:Inv 0 (fr,h))
 (step:∀i fr h,i≤N→Inv i (fr,h)→UpX Inv Q N i (exec2 cx call c (fr,h))):∃o fr' h',X=some (o,(fr',h'))∧Q o (fr',h'):=by
 subst hX;exact loop_up (C:=cx) (G:=fun r=>∃o fr' h',r=some (o,(fr',h'))∧Q o (fr',h')) Inv Q N hN hI step (fun o fr h _ hq=>⟨o,fr,h,rfl,hq⟩)
set_option maxHeartbeats 32000000
theorem weiL_neg {l:List V}{c m:Int}(h:c<0):weiL l c m=c:=by
 cases l with
 |nil=>rw[weiL]
 |cons x xs=>rw[weiL,if_neg (by omega)]
theorem r04_LightR (N D:Nat)(b:Bool)(l:List V)(z':Bool)(h:Hp)(hl:l.length≤1000000000000000)(hd:∀x∈l,dep x≤D∧bdV x):
 callN cx (N+D+2) b 5 [.ls 1 [[.ls 5 (encL l) false]] z',.sc (.int .i64 60)] h=some (.sc (.bool (decide (0≤weiL l 59 13))),h):=by
 refine pure_calm (n:=N+D+1) (r:= .sc (.bool (decide (0≤weiL l 59 13)))) ⟨Tryz.f5.ntmps,(Tryz.f5.body).getD .skip,[.tmp 4]⟩ (by kernel_rfl) (by kernel_rfl) rfl (by kernel_rfl) (by simp[Tryz.f5]) rfl rfl ?_ b h;have hw:=fun(x:V) (hx:x∈l) (c:Int) (h0:0≤c) (h1:c≤60) b h=>r04_Weigh D x (hd x hx).1 (hd x hx).2 N c 12 (by omega) (by omega) (by omega) (by omega) b h
 have hq:=encL_length l;have hg:=encL_get l;generalize hT:weiL l 59 13=T;generalize encL l=rows at hq hg⊢;have e1:fitI .i64 (60-1)=59:=fit_i64 (by omega) (by omega);have e2:fitI .i64 (0+1)=1:=fit_i64 (by omega) (by omega);have e2':fitI .i64 1=1:=fit_i64 (by omega) (by omega);have e3:fitI .i64 59=59:=fit_i64 (by omega) (by omega);simp[Tryz.f5];refine loop_up (C:=cx) (G:=fun r=>∃h',finX _ (thenX _ _ (blockX _ r) _)=some (_,h'))
  (fun i st=>st.1.length=43∧gt st.1 0= .ls 1 [[.ls 5 rows false]] z'∧((i=0∧gt st.1 5= .sc (.int .i64 0)∧gt st.1 1= .sc (.int .i64 60))∨(i=1∧gt st.1 5= .sc (.int .i64 1)∧gt st.1 1= .sc (.int .i64 T))))
  (fun o s=>o= .exit 0∧s.1.length=43∧gt s.1 1= .sc (.int .i64 T)) 1 (by simp) ?_ ?_ ?_
 ·exact⟨rfl,rfl,.inl ⟨rfl,rfl,rfl⟩⟩
 ·rintro i fr hp _ ⟨hlen,g0,⟨rfl,g5,g1⟩|⟨rfl,g5,g1⟩⟩
  ·simp only at hlen g0 g5 g1;simp[hlen,g0,g5,g1,e1,e3];generalize hX:exec2 cx (callN cx (N+D+1)) (Code.loop _) _=X;have HL:=loop_upE (call:=callN cx (N+D+1)) (fun j s=>j≤l.length∧s.1.length=43∧gt s.1 0= .ls 1 [[.ls 5 rows false]] z'∧gt s.1 5= .sc (.int .i64 0)∧gt s.1 6= .sc (.int .i64 (j:Nat))∧∃c:Int,gt s.1 1= .sc (.int .i64 c)∧weiL (l.drop j) c 13=T∧c≤60)
    (fun o s=>o= .exit 2∧s.1.length=43∧gt s.1 0= .ls 1 [[.ls 5 rows false]] z'∧gt s.1 5= .sc (.int .i64 0)∧gt s.1 1= .sc (.int .i64 T)) l.length (by simp;omega) X _ _ _ hX ⟨by omega,by simp[hlen],by simp[hlen,g0],by simp[hlen,g5],by simp[hlen],59,by simp[hlen],hT,by omega⟩ (by
    rintro j fr2 h2 _ ⟨hj0,hlen2,k0,k5,k6,c,k1,hc,hc60⟩;simp only at hlen2 k0 k5 k6 k1;have hj6:j≤1000000000000000:=by omega
    by_cases hj:j<l.length
    ·obtain⟨x,hx⟩:∃p,l[j]?=some p:=⟨_,Zb hj⟩;have hr:rows[j]?=some (enc x):=by rw[hg,hx];rfl
     have hr':∀k,rows[j]'k=enc x:=fun k=>by obtain⟨_,e⟩:=Za.1 hr;exact e
     have hdr:l.drop j=x::l.drop (j+1):=by
      rw[Zm hj];obtain⟨_,e⟩:=Za.1 hx;rw[e]
     by_cases h0:0≤c
     ·have f:=fun b h=>hw x (Zi hx) c h0 hc60 b h
      have hle:weiV x c 12≤60:=by
       have:=zk_wei_le x c 12 h0;omega
      rw[hdr,weiL,if_pos h0,show(13:Int)-1=12 from rfl]at hc;have hev:=enc_length x;have hev5:(enc x).take 5=enc x:=List.take_of_length_le (by omega);generalize enc x=ev at f hr hr' hev hev5;generalize weiV x c 12=w at f hc hle;simp[hlen2,k0,k5,k6,k1,hj,hq,hr,hr',h0,hev,hev5,f,fit_succ hj6];exact⟨by omega,hc,hle⟩
     ·rw[weiL_neg (by omega)]at hc;subst hc;simp[hlen2,k0,k5,k6,k1,hj,hq,h0]
    ·have hjl:j=l.length:=Zz hj0 (Zy hj);subst hjl;rw[List.drop_length,weiL]at hc;subst hc;simp[hlen2,k0,k5,k6,k1,hq])
   obtain⟨o,fr2,h2,rfl,rfl,hlen2,k0,k5,k1⟩:=HL;simp only at hlen2 k0 k5 k1;simp[hlen2,k0,k5,k1,e2']
  ·simp only at hlen g0 g5 g1;simp[hlen,g0,g5,g1]
 ·rintro o fr hp hn ⟨rfl,hlen,g1⟩;simp only at hlen g1;simp[hlen,g1]
theorem spl1' (a x:AV):splice [a] 0 [x]=[x]:=rfl
def litR (r:Rw):Bool:=decide (0≤weiL r.1 59 13)
def OkN (n:Nt):Prop:=n.diff.length≤20∧∀p∈n.diff,litR p.1=true
theorem light_own {M:Nat}{x:AV}{v:Bool}(hx:∃k r z,x= .ls k r z)(hL:∀t h,callN cx (M+1) t 5 [.ls 1 [[x]] false,.sc (.int .i64 60)] h=some (.sc (.bool v),h))(t:Bool)(h:Hp)(c:Blk):
 callN cx (M+1) t 5 [.sl (h.length+1) 1 0 1 false,.sc (.int .i64 60)] (h++[c,.row [x]])=some (.sc (.bool v),h++[c,.row [x]]):=by
 obtain⟨k,r,z,rfl⟩:=hx;refine call_snap (n:=M) (ys:=[.ls 1 [[.ls k r z]] false,.sc (.int .i64 60)]) rfl (by kernel_rfl) ?_ rfl rfl (hL t _);have e:(h++[c,.row [AV.ls k r z]])[h.length+1]?=some (.row [AV.ls k r z]):=by simp
 have e2:rowOf (h++[c,.row [AV.ls k r z]]) (h.length+1)=some [AV.ls k r z]:=rowOf_row e;rw[Zo];have e3:Ae.snap (h++[c,.row [AV.ls k r z]]) 8 (.sl (h.length+1) 1 0 1 false)=some (.ls 1 [[.ls k r z]] false):=by
  simp[Ae.snap,e2,chunk]
 rw[e3];rfl
theorem ss_walk (K:Bool→FuncId→List AV→Hp→Option (AV × Hp))(l:List Nt)(id:Int)(z:Bool)(S:List (Rw × Int))(hl:l.length≤1000000000000000)(hd:∀n∈l,n.diff.length≤1000000000000000)
 (hA:∀t h,K t 4 [] h=some (.sc (.bool true),h))
 (hL2:∀n∈l,∀p∈n.diff,∀(t:Bool) (h:Hp) (c:Blk),K t 5 [.sl (h.length+1) 1 0 1 false,.sc (.int .i64 60)] (h++[c,.row [.ls 5 (encL p.1.1) false]])=some (.sc (.bool (litR p.1)),h++[c,.row [.ls 5 (encL p.1.1) false]]))
 (hP:l.length≤20→(∀n∈l,OkN n)→∀t h,K t 6 [.ls 2 (ntR l) z,.sc (.int .i64 id)] h=some (.ls 2 (bagR S) false,h))
 (hR:l.length≤20→(∀n∈l,OkN n)→∀t h,K t 8 [.ls 2 (ntR l) z,.sc (.int .i64 id)] h=some (.ls 2 (bagR S) false,h))
 (hN:l.length≤20→(∀n∈l,OkN n)→∀t h,K t 9 [.ls 2 (bagR S) false] h=some (.ls 2 (bagR S) false,h))
 (hE:l.length≤20→(∀n∈l,OkN n)→∀t h,K t 7 [.ls 2 (bagR S) false,.ls 2 (bagR S) false] h=some (.sc (.bool true),h)):
 ∃h',finX [.tmp 4] (exec2 cx K ((Tryz.f3.body).getD .skip) ([.ls 2 (ntR l) z,.sc (.int .i64 id)]++List.replicate (Tryz.f3.ntmps-2) .un,[]))=some (.sc (.bool true),h'):=by
 have hq:=ntR_length l;have hg:=ntR_get l;generalize ntR l=rows at hq hg hP hR⊢;by_cases hl20:20<l.length
 ·have hl20':(20:Int)<l.length:=by omega
  simp[Tryz.f3,hq,hl20,hl20',hA]
 ·have hl20':¬(20:Int)<l.length:=by omega
  have hP:=hP (by omega);have hR:=hR (by omega);have hN:=hN (by omega);have hE:=hE (by omega);simp[Tryz.f3,hq,hl20,hl20'];generalize hX:exec2 cx (K) (Code.loop _) _=X;have HL:=loop_upE (call:=K) (fun i s=>i≤l.length∧(∀n∈l.take i,OkN n)∧s.1.length=67∧gt s.1 0= .ls 2 rows z∧gt s.1 1= .sc (.int .i64 id)∧gt s.1 14= .ls 2 rows z∧gt s.1 15= .sc (.int .i64 (l.length:Nat))∧gt s.1 16= .sc (.int .i64 (i:Nat)))
   (fun o s=>s.1.length=67∧((o= .exit 0∧(∀n∈l,OkN n)∧gt s.1 0= .ls 2 rows z∧gt s.1 1= .sc (.int .i64 id))∨(o= .ret∧gt s.1 4= .sc (.bool true)))) l.length (by simp;omega) X _ _ _ hX ?_ ?_
  ·obtain⟨o,fr,hp,rfl,hlen,⟨rfl,hok,g0,g1⟩|⟨rfl,g4⟩⟩:=HL
   ·simp only at hlen g0 g1;have hP:=hP hok;have hR:=hR hok;have hN:=hN hok;have hE:=hE hok;generalize bagR S=br at hP hR hN hE;simp[hlen,g0,g1,hP,hR,hN,hE,hA]
   ·simp only at hlen g4;simp[hlen,g4]
  ·simp
  ·rintro i fr hp _ ⟨hi0,hok,hlen,g0,g1,g14,g15,g16⟩;simp only at hlen g0 g1 g14 g15 g16;have hi6:i≤1000000000000000:=by omega
   by_cases hi:i<l.length
   ·obtain⟨n,hx⟩:∃p,l[i]?=some p:=⟨_,Zb hi⟩;have hnm:=Zi hx;have hr:rows[i]?=some (encNt n):=by rw[hg,hx];rfl
    have hr':∀k,rows[i]'k=encNt n:=fun k=>by obtain⟨_,e⟩:=Za.1 hr;exact e
    unfold encNt at hr hr';have hdl:=hd n hnm;have hL3:=hL2 n hnm;have hq2:=bagR_length n.diff;have hg2:=bagR_get n.diff;have hst:(∀p∈n.diff,litR p.1=true)→n.diff.length≤20→∀m∈l.take (i+1),OkN m:=fun h1 h2 m hm=>by
     rw[List.take_add_one,hx]at hm;rcases List.mem_append.1 hm with hm|hm
     ·exact hok m hm
     ·have:m=n:=by simpa using hm
      subst this;exact⟨h2,h1⟩
    generalize bagR n.diff=rd at hr hr' hq2 hg2;by_cases h20:20<n.diff.length
    ·have h20':(20:Int)<n.diff.length:=by omega
     simp[hlen,g0,g1,g14,g15,g16,hi,hq,hr,hr',sps,spA,hq2,h20,h20',hA]
    ·have h20':¬(20:Int)<n.diff.length:=by omega
     simp[hlen,g0,g1,g14,g15,g16,hi,hq,hr,hr',sps,spA,hq2,h20,h20',fit_succ hi6];generalize hY:exec2 cx (K) (Code.loop _) _=Y;have HJ:=loop_upE (call:=K) (fun j s=>j≤n.diff.length∧(∀p∈n.diff.take j,litR p.1=true)∧s.1.length=67∧gt s.1 0= .ls 2 rows z∧gt s.1 1= .sc (.int .i64 id)∧gt s.1 14= .ls 2 rows z∧gt s.1 15= .sc (.int .i64 (l.length:Nat))∧gt s.1 16= .sc (.int .i64 (i:Nat))∧gt s.1 26= .ls 2 rd false∧gt s.1 27= .sc (.int .i64 (n.diff.length:Nat))∧gt s.1 28= .sc (.int .i64 (j:Nat)))
      (fun o s=>s.1.length=67∧((o= .exit 2∧(∀p∈n.diff,litR p.1=true)∧gt s.1 0= .ls 2 rows z∧gt s.1 1= .sc (.int .i64 id)∧gt s.1 14= .ls 2 rows z∧gt s.1 15= .sc (.int .i64 (l.length:Nat))∧gt s.1 16= .sc (.int .i64 (i:Nat)))∨(o= .ret∧gt s.1 4= .sc (.bool true)))) n.diff.length (by simp;omega) Y _ _ _ hY ?_ ?_
     ·obtain⟨o,fr2,hp2,rfl,hlen2,⟨rfl,hok2,k0,k1,k14,k15,k16⟩|⟨rfl,k4⟩⟩:=HJ
      ·simp only at hlen2 k0 k1 k14 k15 k16;simp[hlen2,k0,k1,k14,k15,k16,fit_succ hi6];exact⟨hi,by omega,hst hok2 (by omega)⟩
      ·simp only at hlen2 k4;simp[hlen2,k4]
     ·simp[hlen,g0,g1,g14,g15,g16]
     ·rintro j fr2 hp2 _ ⟨hj0,hok2,hlen2,k0,k1,k14,k15,k16,k26,k27,k28⟩;simp only at hlen2 k0 k1 k14 k15 k16 k26 k27 k28;have hj6:j≤1000000000000000:=by omega
      by_cases hj:j<n.diff.length
      ·obtain⟨p,hx2⟩:∃p,n.diff[j]?=some p:=⟨_,Zb hj⟩;have hpm:=Zi hx2;have hs:rd[j]?=some (encS p):=by rw[hg2,hx2];rfl
       have hs':∀k,rd[j]'k=encS p:=fun k=>by obtain⟨_,e⟩:=Za.1 hs;exact e
       unfold encS at hs hs';have f:=hL3 p hpm true;have hst2:litR p.1=true→∀m∈n.diff.take (j+1),litR m.1=true:=fun h1 m hm=>by
        rw[List.take_add_one,hx2]at hm;rcases List.mem_append.1 hm with hm|hm
        ·exact hok2 m hm
        ·have:m=p:=by simpa using hm
         subst this;exact h1
       generalize litR p.1=lt at f hst2;generalize encL p.1.1=ev at f hs hs';cases lt with
       |false=>simp[hlen2,k0,k1,k14,k15,k16,k26,k27,k28,hj,hq2,hs,hs',sps,spA,spl1',f,hA]
       |
        true=>
        by_cases h1:1099511627776<p.2
        ·simp[hlen2,k0,k1,k14,k15,k16,k26,k27,k28,hj,hq2,hs,hs',sps,spA,spl1',f,hA,h1]
        ·by_cases h2:p.2< -1099511627776
         ·simp[hlen2,k0,k1,k14,k15,k16,k26,k27,k28,hj,hq2,hs,hs',sps,spA,spl1',f,hA,h1,h2]
         ·simp[hlen2,k0,k1,k14,k15,k16,k26,k27,k28,hj,hq2,hs,hs',sps,spA,spl1',f,h1,h2,fit_succ hj6];exact⟨hj,fun a b c q=>hst2 rfl (⟨a,b⟩,c) q⟩
      ·have hjl:j=n.diff.length:=Zz hj0 (Zy hj);subst hjl;rw[List.take_length]at hok2;simp[hlen2,k0,k1,k14,k15,k16,k26,k27,k28];exact fun a b c q=>hok2 (⟨a,b⟩,c) q
   ·have hil:i=l.length:=Zz hi0 (Zy hi);subst hil;rw[List.take_length]at hok;simp[hlen,g0,g1,g14,g15,g16];exact hok
end
end Go.Proofs.YtiefabpageilbaaGreatDoor
namespace Go.Proofs
open Go.Shelf
def Tryz.lays144_ren :Go.Shelf.Ren:=⟨fun|144=>313|143=>353|219=>392|217=>423|225=>424|224=>425|267=>426|266=>444|314=>445|n=>n,fun|9=>9|4=>4|3=>3|5=>5|46=>139|146=>477|51=>182|n=>n,fun|1=>4|n=>n⟩
theorem Tryz.lays144 :Go.Proofs.Lays.n144 Tryz.prog Tryz.lays144_ren:={
 mixed:=by kernel_rfl
 f143:=Tryz.func353.trans (congrArg some (by kernel_rfl))
 f144:=Tryz.func313.trans (congrArg some (by kernel_rfl))
 f217:=Tryz.func423.trans (congrArg some (by kernel_rfl))
 f219:=Tryz.func392.trans (congrArg some (by kernel_rfl))
 f224:=Tryz.func425.trans (congrArg some (by kernel_rfl))
 f225:=Tryz.func424.trans (congrArg some (by kernel_rfl))
 f266:=Tryz.func444.trans (congrArg some (by kernel_rfl))
 f267:=Tryz.func426.trans (congrArg some (by kernel_rfl))
 f314:=Tryz.func445.trans (congrArg some (by kernel_rfl))
 t3:=Tryz.underlying3
 a3:=Tryz.isAgg3
 z3:=Tryz.sizeOf3
 v3:=Tryz.zeroValue3
 t4:=Tryz.underlying4
 a4:=Tryz.isAgg4
 z4:=Tryz.sizeOf4
 v4:=Tryz.zeroValue4
 t5:=Tryz.underlying5
 a5:=Tryz.isAgg5
 z5:=Tryz.sizeOf5
 v5:=Tryz.zeroValue5
 t9:=Tryz.underlying9
 a9:=Tryz.isAgg9
 z9:=Tryz.sizeOf9
 v9:=Tryz.zeroValue9
 t46:=Tryz.underlying139
 a46:=Tryz.isAgg139
 z46:=Tryz.sizeOf139
 v46:=Tryz.zeroValue139
 t51:=Tryz.underlying182
 a51:=Tryz.isAgg182
 z51:=Tryz.sizeOf182
 v51:=Tryz.zeroValue182
 t146:=Tryz.underlying477
 a146:=Tryz.isAgg477
 z146:=Tryz.sizeOf477
 v146:=Tryz.zeroValue477
 g1:=by kernel_rfl}
def Tryz.keys273_ren :Go.Shelf.Ren:=⟨fun|7=>273|10=>311|n=>n,fun|23=>354|26=>9|3=>4|28=>358|0=>0|27=>357|33=>124|4=>4|n=>n,fun|n=>n⟩
theorem Tryz.keys273 :Go.Proofs.SlLaysZ.n7 Tryz.prog Tryz.keys273_ren:={
 mixed:=by kernel_rfl
 f7:=⟨Tryz.f273.name,by decide,Tryz.func273.trans (congrArg some (by kernel_rfl))⟩
 f10:=⟨Tryz.f311.name,by decide,Tryz.func311.trans (congrArg some (by kernel_rfl))⟩
 t0:=Tryz.underlying0
 a0:=Tryz.isAgg0
 z0:=Tryz.sizeOf0
 v0:=Tryz.zeroValue0
 t4:=Tryz.underlying4
 a4:=Tryz.isAgg4
 z4:=Tryz.sizeOf4
 v4:=Tryz.zeroValue4
 t23:=Tryz.underlying354
 a23:=Tryz.isAgg354
 z23:=Tryz.sizeOf354
 v23:=Tryz.zeroValue354
 t26:=Tryz.underlying9
 a26:=Tryz.isAgg9
 z26:=Tryz.sizeOf9
 v26:=Tryz.zeroValue9
 t27:=Tryz.underlying357
 a27:=Tryz.isAgg357
 z27:=Tryz.sizeOf357
 v27:=Tryz.zeroValue357
 t28:=Tryz.underlying358
 a28:=Tryz.isAgg358
 z28:=Tryz.sizeOf358
 v28:=Tryz.zeroValue358
 t33:=Tryz.underlying124
 a33:=Tryz.isAgg124
 z33:=Tryz.sizeOf124
 v33:=Tryz.zeroValue124}
def Tryz.sorted272_ren :Go.Shelf.Ren:=⟨fun|6=>272|8=>309|9=>310|11=>351|13=>57|12=>352|23=>98|24=>99|14=>384|15=>385|16=>386|17=>387|18=>388|19=>389|20=>126|21=>390|22=>391|25=>420|26=>140|27=>141|28=>421|29=>422|30=>148|31=>443|n=>n,fun|26=>9|28=>358|24=>72|0=>0|3=>3|37=>139|48=>182|50=>184|4=>4|40=>176|39=>175|45=>100|5=>5|9=>9|51=>219|55=>223|57=>269|58=>270|33=>124|n=>n,fun|n=>n⟩
theorem Tryz.sorted272 :Go.Proofs.SlLaysZ.n6 Tryz.prog Tryz.sorted272_ren:={
 mixed:=by kernel_rfl
 f6:=⟨Tryz.f272.name,by decide,Tryz.func272.trans (congrArg some (by kernel_rfl))⟩
 f8:=⟨Tryz.f309.name,by decide,Tryz.func309.trans (congrArg some (by kernel_rfl))⟩
 f11:=⟨Tryz.f351.name,by decide,Tryz.func351.trans (congrArg some (by kernel_rfl))⟩
 t0:=Tryz.underlying0
 a0:=Tryz.isAgg0
 z0:=Tryz.sizeOf0
 v0:=Tryz.zeroValue0
 t24:=Tryz.underlying72
 a24:=Tryz.isAgg72
 z24:=Tryz.sizeOf72
 v24:=Tryz.zeroValue72
 t26:=Tryz.underlying9
 a26:=Tryz.isAgg9
 z26:=Tryz.sizeOf9
 v26:=Tryz.zeroValue9
 t28:=Tryz.underlying358
 a28:=Tryz.isAgg358
 z28:=Tryz.sizeOf358
 v28:=Tryz.zeroValue358
 i26:=by kernel_rfl}
def Tryz.sort310_ren :Go.Shelf.Ren:=⟨fun|6=>310|8=>57|9=>352|19=>98|20=>99|21=>384|22=>385|23=>386|24=>387|25=>388|26=>389|27=>126|28=>390|29=>391|36=>420|31=>140|32=>141|37=>421|38=>422|39=>148|41=>443|n=>n,fun|27=>72|29=>9|3=>3|32=>139|26=>72|0=>0|44=>182|46=>184|4=>4|36=>176|35=>175|41=>100|5=>5|9=>9|53=>219|57=>223|63=>269|64=>270|n=>n,fun|n=>n⟩
theorem Tryz.sort310 :Go.Proofs.SlLaysM.n6 Tryz.prog Tryz.sort310_ren:={
 mixed:=by kernel_rfl
 f6:=⟨Tryz.f310.name,by decide,Tryz.func310.trans (congrArg some (by kernel_rfl))⟩
 f8:=Tryz.func57.trans (congrArg some (by kernel_rfl))
 f9:=⟨Tryz.f352.name,by decide,Tryz.func352.trans (congrArg some (by kernel_rfl))⟩
 f19:=Tryz.func98.trans (congrArg some (by kernel_rfl))
 f20:=Tryz.func99.trans (congrArg some (by kernel_rfl))
 f21:=⟨Tryz.f384.name,by decide,Tryz.func384.trans (congrArg some (by kernel_rfl))⟩
 f22:=⟨Tryz.f385.name,by decide,Tryz.func385.trans (congrArg some (by kernel_rfl))⟩
 f23:=⟨Tryz.f386.name,by decide,Tryz.func386.trans (congrArg some (by kernel_rfl))⟩
 f24:=⟨Tryz.f387.name,by decide,Tryz.func387.trans (congrArg some (by kernel_rfl))⟩
 f25:=⟨Tryz.f388.name,by decide,Tryz.func388.trans (congrArg some (by kernel_rfl))⟩
 f26:=⟨Tryz.f389.name,by decide,Tryz.func389.trans (congrArg some (by kernel_rfl))⟩
 f27:=⟨Tryz.f126.name,by decide,Tryz.func126.trans (congrArg some (by kernel_rfl))⟩
 f28:=⟨Tryz.f390.name,by decide,Tryz.func390.trans (congrArg some (by kernel_rfl))⟩
 f29:=⟨Tryz.f391.name,by decide,Tryz.func391.trans (congrArg some (by kernel_rfl))⟩
 f31:=Tryz.func140.trans (congrArg some (by kernel_rfl))
 f32:=Tryz.func141.trans (congrArg some (by kernel_rfl))
 f36:=⟨Tryz.f420.name,by decide,Tryz.func420.trans (congrArg some (by kernel_rfl))⟩
 f37:=⟨Tryz.f421.name,by decide,Tryz.func421.trans (congrArg some (by kernel_rfl))⟩
 f38:=⟨Tryz.f422.name,by decide,Tryz.func422.trans (congrArg some (by kernel_rfl))⟩
 f39:=⟨Tryz.f148.name,by decide,Tryz.func148.trans (congrArg some (by kernel_rfl))⟩
 f41:=⟨Tryz.f443.name,by decide,Tryz.func443.trans (congrArg some (by kernel_rfl))⟩
 t0:=Tryz.underlying0
 a0:=Tryz.isAgg0
 z0:=Tryz.sizeOf0
 v0:=Tryz.zeroValue0
 t3:=Tryz.underlying3
 a3:=Tryz.isAgg3
 z3:=Tryz.sizeOf3
 v3:=Tryz.zeroValue3
 t4:=Tryz.underlying4
 a4:=Tryz.isAgg4
 z4:=Tryz.sizeOf4
 v4:=Tryz.zeroValue4
 t5:=Tryz.underlying5
 a5:=Tryz.isAgg5
 z5:=Tryz.sizeOf5
 v5:=Tryz.zeroValue5
 t9:=Tryz.underlying9
 a9:=Tryz.isAgg9
 z9:=Tryz.sizeOf9
 v9:=Tryz.zeroValue9
 t26:=Tryz.underlying72
 a26:=Tryz.isAgg72
 z26:=Tryz.sizeOf72
 v26:=Tryz.zeroValue72
 t27:=Tryz.underlying72
 a27:=Tryz.isAgg72
 z27:=Tryz.sizeOf72
 v27:=Tryz.zeroValue72
 t29:=Tryz.underlying9
 a29:=Tryz.isAgg9
 z29:=Tryz.sizeOf9
 v29:=Tryz.zeroValue9
 t32:=Tryz.underlying139
 a32:=Tryz.isAgg139
 z32:=Tryz.sizeOf139
 v32:=Tryz.zeroValue139
 t35:=Tryz.underlying175
 a35:=Tryz.isAgg175
 z35:=Tryz.sizeOf175
 v35:=Tryz.zeroValue175
 t36:=Tryz.underlying176
 a36:=Tryz.isAgg176
 z36:=Tryz.sizeOf176
 v36:=Tryz.zeroValue176
 t41:=Tryz.underlying100
 a41:=Tryz.isAgg100
 z41:=Tryz.sizeOf100
 v41:=Tryz.zeroValue100
 t44:=Tryz.underlying182
 a44:=Tryz.isAgg182
 z44:=Tryz.sizeOf182
 v44:=Tryz.zeroValue182
 t46:=Tryz.underlying184
 a46:=Tryz.isAgg184
 z46:=Tryz.sizeOf184
 v46:=Tryz.zeroValue184
 t53:=Tryz.underlying219
 a53:=Tryz.isAgg219
 z53:=Tryz.sizeOf219
 v53:=Tryz.zeroValue219
 t57:=Tryz.underlying223
 a57:=Tryz.isAgg223
 z57:=Tryz.sizeOf223
 v57:=Tryz.zeroValue223
 t63:=Tryz.underlying269
 a63:=Tryz.isAgg269
 z63:=Tryz.sizeOf269
 v63:=Tryz.zeroValue269
 t64:=Tryz.underlying270
 a64:=Tryz.isAgg270
 z64:=Tryz.sizeOf270
 v64:=Tryz.zeroValue270}
open Go.RowKit Go.Lib in
theorem Tryz.strings_Contains (s sub:ByteArray)(m:Int)(w:World)(hs:s.size<4294967281)(hm:w.cell? ⟨4,0,none⟩=some (.int .i64 m)):
 Calls Tryz.prog 313 #[.string s,.string sub] w fun e w'=>e= .returned (.bool (Lib.contains s.data.toList sub.data.toList))∧w'=w:=Any.strings_Contains Tryz.lays144 s sub m w hs hm
open Go.RowKit Go.Maps Go.Sort in
theorem Tryz.sorts272 (m:Nat):AnyZ.SortsIn Tryz.prog Tryz.sorted272_ren Fence.wide m:=
 ⟨fun blk off cap ss W hH hblk hsz=>callsIn_wide.2 (AnyM.slices_Sort_string Tryz.sort310 blk off cap ss W hH hblk hsz),
  fun p cap W=>callsIn_wide.2 (AnyM.slices_Sort_string_none Tryz.sort310 p cap W)⟩
end Go.Proofs
