/- Contracts: letters and names. -/
import Derived.Test.YtadaeokidcgdlaaGreatDoorP19
set_option linter.unusedSimpArgs false
set_option maxRecDepth 100000
namespace Go.Proofs.YtadaeokidcgdlaaGreatDoor
open Go Go.Ae
section
attribute [local simp] aop aopW coldF extF putA ofConst flat scalarOp fastOp binFast intOp strOp guardX Ae.part rowOf szOk natOf lenA cls fillA splice newsOf isNilC cellX
set_option maxHeartbeats 8000000
def lttI (q:Int):Bool:=(decide (97≤q) && decide (q≤122))||(decide (65≤q) && decide (q≤90))
def wordI (q:Int):Bool:=lttI q||(decide (48≤q) && decide (q≤57))||decide (q=95)
theorem g_letter (n:Nat)(b:Bool)(q:Int)(h:Hp):callN cx (n+1) b 228 [.sc (.int .u8 q)] h=some (.sc (.bool (lttI q)),h):=by
 refine pure_calm (r:= .sc (.bool (lttI q))) ⟨Tryz.f228.ntmps,(Tryz.f228.body).getD .skip,[.tmp 2]⟩ (by kernel_rfl) (by kernel_rfl) rfl (by kernel_rfl) (by simp[Tryz.f228]) rfl rfl ?_ b h;unfold lttI;by_cases h1:97≤q
 ·by_cases h2:q≤122
  ·simp[Tryz.f228,h1,h2]
  ·simp[Tryz.f228,h1,h2,show 65≤q by omega,show¬q≤90 by omega]
 ·by_cases h2:65≤q
  ·by_cases h3:q≤90<;>simp[Tryz.f228,h1,h2,h3]
  ·simp[Tryz.f228,h1,h2]
theorem r07_letter (n:Nat)(b:Bool)(q:Int)(h:Hp):callN cx (n+1) b 298 [.sc (.int .u8 q)] h=some (.sc (.bool (lttI q)),h):=by
 refine pure_calm (r:= .sc (.bool (lttI q))) ⟨Tryz.f298.ntmps,(Tryz.f298.body).getD .skip,[.tmp 2]⟩ (by kernel_rfl) (by kernel_rfl) rfl (by kernel_rfl) (by simp[Tryz.f298]) rfl rfl ?_ b h;unfold lttI;by_cases h1:97≤q
 ·by_cases h2:q≤122
  ·simp[Tryz.f298,h1,h2]
  ·simp[Tryz.f298,h1,h2,show 65≤q by omega,show¬q≤90 by omega]
 ·by_cases h2:65≤q
  ·by_cases h3:q≤90<;>simp[Tryz.f298,h1,h2,h3]
  ·simp[Tryz.f298,h1,h2]
def wordC (c:UInt8):Bool:=wordI c.toNat
def wordD (x:ByteArray)(i:Nat):Bool:=(x.data.toList.drop i).all wordC
theorem wordD_end (x:ByteArray)(i:Nat)(h:x.size≤i):wordD x i=true:=by unfold wordD;rw[Zt h];rfl
theorem wordD_step {x:ByteArray}{i:Nat}{c:UInt8}(h:x.data.toList[i]?=some c):wordD x i=(wordC c && wordD x (i+1)):=by
 obtain⟨k,e⟩:=Za.1 h;unfold wordD;rw[Zm k,e,Zn]
def nameS (x:ByteArray):Bool:=decide ((x.size:Int)≤20) && (match x.data.toList[0]? with|none=>false|some c=>lttI c.toNat) && wordD x 1
theorem size_len (x:ByteArray):x.data.toList.length=x.size:=rfl
theorem name_first (x:ByteArray):(x.size=0∧x.data.toList[0]?=none∧eqS x ⟨#[]⟩=true)∨∃c,0<x.size∧x.data.toList[0]?=some c∧eqS x ⟨#[]⟩=false∧wordD x 0=(wordC c && wordD x 1):=by
 cases h:x.data.toList[0]? with
 |
  none=>
  have h1:=List.getElem?_eq_none_iff.1 h;have h2:x.data.toList=[]:=Zl (by omega);exact .inl ⟨by have:=size_len x;omega,rfl,by unfold eqS;rw[h2];rfl⟩
 |
  some c=>
  have h1:=(Za.1 h).1;refine .inr ⟨c,by have:=size_len x;omega,rfl,?_,wordD_step h⟩;unfold eqS;cases hq:x.data.toList with
  |nil=>rw[hq]at h1;simp at h1
  |cons a l=>rfl
theorem let_word (q:Int)(h:lttI q=true):wordI q=true:=by unfold wordI;rw[h];rfl
theorem g_Name (n:Nat)(b:Bool)(x:ByteArray)(h:Hp):callN cx (n+2) b 157 [.sc (.string x)] h=some (.sc (.bool (nameS x)),h):=by
 refine pure_calm (r:= .sc (.bool (nameS x))) ⟨Tryz.f157.ntmps,(Tryz.f157.body).getD .skip,[.tmp 2]⟩ (by kernel_rfl) (by kernel_rfl) rfl (by kernel_rfl) (by simp[Tryz.f157]) rfl rfl ?_ b h;have hsz:=size_len x;have hcl:=fun b q h=>g_letter n b q h
 unfold nameS;rcases name_first x with⟨z0,z1,z2⟩|⟨c0,z0,z1,z2,z3⟩
 ·simp[Tryz.f157,z0,z1,z2]
 have z1':∀k,x.data[0]'k=c0:=fun k=>by obtain⟨_,e⟩:=Za.1 z1;exact e
 by_cases h20:(x.size:Int)≤20
 rotate_left
 ·simp[Tryz.f157,z0,z1,z2,show 20< (x.size:Int) by omega,h20]
 have h20':¬20< (x.size:Int):=by omega
 obtain⟨q0,hq0⟩:∃q:Int,q=c0.toNat:=⟨_,rfl⟩;have hc0:=fun b h=>hcl b q0 h
 cases hl0:lttI q0
 ·simp[Tryz.f157,z0,z1,z1',z2,h20,h20',←hq0,hc0,hl0]
 have z4:wordD x 0=wordD x 1:=by
  rw[z3,show wordC c0=wordI q0 from by rw[hq0];rfl,let_word q0 hl0];rfl
 clear z3;simp[Tryz.f157,z0,z1,z1',z2,h20,h20',←hq0,hc0,hl0];refine loop_up (C:=cx) (G:=fun r=>∃h',finX _ (thenX _ _ (blockX _ r) _)=some (_,h'))
  (fun i s=>wordD x 1=wordD x i∧s.1.length=46∧gt s.1 0= .sc (.string x)∧gt s.1 18= .sc (.int .i64 x.size)∧gt s.1 19= .sc (.int .i64 i))
  (fun o s=>s.1.length=46∧((o= .exit 0∧wordD x 1=true)∨(o= .ret∧wordD x 1=false∧gt s.1 2= .sc (.bool false)))) x.size (by simp;omega) (by simp[z4]) ?_ ?_
 ·rintro i fr h hle ⟨ho,hlen,h0,h18,h19⟩;simp only at hlen h0 h18 h19;by_cases hi:i<x.size
  ·obtain⟨c,hc⟩:∃c,x.data.toList[i]?=some c:=⟨_,Zb (by omega)⟩;rw[wordD_step hc]at ho;have hf:fitI .i64 ((i:Int)+1)=((i+1:Nat):Int):=fit_i64 (by omega) (by omega);have hc':∀k,x.data[i]'k=c:=fun k=>by obtain⟨_,e⟩:=Za.1 hc;exact e
   obtain⟨q,hq⟩:∃q:Int,q=c.toNat:=⟨_,rfl⟩;have hok:wordC c=wordI q:=by rw[hq];rfl
   rw[hok]at ho;clear hok;have hcq:=fun b h=>hcl b q h
   unfold wordI at ho;cases hl:lttI q
   ·by_cases c1:q<48
    ·have z:wordD x 1=false:=by rw[ho,hl];simp;omega
     clear ho;simp[hlen,h0,h18,h19,hi,hc,hc',←hq,hcq,hl,c1,show¬q=95 by omega,z]
    ·by_cases c2:57<q
     ·by_cases c3:q=95
      ·have z:wordD x 1=wordD x (i+1):=by rw[ho,hl];simp[c3]
       clear ho;subst c3;simp[hlen,h0,h18,h19,hi,hc,hc',←hq,hcq,hl,hf];exact z
      ·have z:wordD x 1=false:=by rw[ho,hl];simp;omega
       clear ho;simp[hlen,h0,h18,h19,hi,hc,hc',←hq,hcq,hl,c1,c2,c3,z]
     ·have z:wordD x 1=wordD x (i+1):=by rw[ho,hl];simp[show 48≤q by omega,show q≤57 by omega]
      clear ho;simp[hlen,h0,h18,h19,hi,hc,hc',←hq,hcq,hl,c1,c2,show¬q=95 by omega,hf];exact z
   ·have z:wordD x 1=wordD x (i+1):=by rw[ho,hl];simp
    clear ho;simp[hlen,h0,h18,h19,hi,hc,hc',←hq,hcq,hl,hf];exact z
  ·have hz:wordD x 1=true:=by rw[ho,wordD_end x i (by omega)]
   simp[hlen,h0,h18,h19,hi,hz]
 ·rintro o fr h hn ⟨hlen,⟨rfl,hz⟩|⟨rfl,hz,h2⟩⟩
  ·simp only at hlen;simp[hlen,hz]
  ·simp only at h2;simp[h2,hz]
theorem r07_Name (n:Nat)(b:Bool)(x:ByteArray)(h:Hp):callN cx (n+2) b 214 [.sc (.string x)] h=some (.sc (.bool (nameS x)),h):=by
 refine pure_calm (r:= .sc (.bool (nameS x))) ⟨Tryz.f214.ntmps,(Tryz.f214.body).getD .skip,[.tmp 2]⟩ (by kernel_rfl) (by kernel_rfl) rfl (by kernel_rfl) (by simp[Tryz.f214]) rfl rfl ?_ b h;have hsz:=size_len x;have hcl:=fun b q h=>r07_letter n b q h
 unfold nameS;rcases name_first x with⟨z0,z1,z2⟩|⟨c0,z0,z1,z2,z3⟩
 ·simp[Tryz.f214,z0,z1,z2]
 have z1':∀k,x.data[0]'k=c0:=fun k=>by obtain⟨_,e⟩:=Za.1 z1;exact e
 clear z3;have z5:¬(x.size:Int)<1:=by omega
 by_cases h20:(x.size:Int)≤20
 rotate_left
 ·simp[Tryz.f214,z0,z1,z2,z5,show 20< (x.size:Int) by omega,h20]
 have h20':¬20< (x.size:Int):=by omega
 obtain⟨q0,hq0⟩:∃q:Int,q=c0.toNat:=⟨_,rfl⟩;have hc0:=fun b h=>hcl b q0 h
 cases hl0:lttI q0
 ·simp[Tryz.f214,z0,z1,z1',z2,z5,h20,h20',←hq0,hc0,hl0]
 simp[Tryz.f214,z0,z1,z1',z2,z5,h20,h20',←hq0,hc0,hl0];refine loop_up (C:=cx) (G:=fun r=>∃h',finX _ (thenX _ _ (blockX _ r) _)=some (_,h'))
  (fun j s=>j+1≤x.size∧wordD x 1=wordD x (j+1)∧s.1.length=47∧gt s.1 0= .sc (.string x)∧gt s.1 3= .sc (.int .i64 (j+1:Nat)))
  (fun o s=>s.1.length=47∧((o= .exit 0∧wordD x 1=true)∨(o= .ret∧wordD x 1=false∧gt s.1 2= .sc (.bool false)))) x.size (by simp;omega) (by simp;omega) ?_ ?_
 ·rintro j fr h hle ⟨hix,ho,hlen,h0,h3⟩;simp only at hlen h0 h3;by_cases hi:j+1<x.size
  ·obtain⟨c,hc⟩:∃c,x.data.toList[j+1]?=some c:=⟨_,Zb (by omega)⟩;rw[wordD_step hc]at ho;have hf:fitI .i64 (((j+1:Nat):Int)+1)=((j+1+1:Nat):Int):=fit_i64 (by omega) (by omega);have hc':∀k,x.data[j+1]'k=c:=fun k=>by obtain⟨_,e⟩:=Za.1 hc;exact e
   obtain⟨q,hq⟩:∃q:Int,q=c.toNat:=⟨_,rfl⟩;have hok:wordC c=wordI q:=by rw[hq];rfl
   rw[hok]at ho;clear hok;have hcq:=fun b h=>hcl b q h
   unfold wordI at ho;generalize hjj:((j+1:Nat):Int)=J at h3 hf;have hJ1:J.toNat=j+1:=by omega
   have hJ0:0≤J:=by omega
   have hJl:J< (x.size:Int):=by omega
   cases hl:lttI q
   ·by_cases c1:q<48
    ·have z:wordD x 1=false:=by rw[ho,hl];simp;omega
     clear ho;simp[hlen,h0,h3,hJ0,hJ1,hJl,hc,hc',←hq,hcq,hl,c1,show¬q=95 by omega,z]
    ·by_cases c2:57<q
     ·by_cases c3:q=95
      ·have z:wordD x 1=wordD x (j+1+1):=by rw[ho,hl];simp[c3]
       clear ho;subst c3;simp[hlen,h0,h3,hJ0,hJ1,hJl,hc,hc',←hq,hcq,hl,hf]
       and_intros<;>first|omega|assumption
      ·have z:wordD x 1=false:=by rw[ho,hl];simp;omega
       clear ho;simp[hlen,h0,h3,hJ0,hJ1,hJl,hc,hc',←hq,hcq,hl,c1,c2,c3,z]
     ·have z:wordD x 1=wordD x (j+1+1):=by rw[ho,hl];simp[show 48≤q by omega,show q≤57 by omega]
      clear ho;simp[hlen,h0,h3,hJ0,hJ1,hJl,hc,hc',←hq,hcq,hl,c1,c2,show¬q=95 by omega,hf]
      and_intros<;>first|omega|assumption
   ·have z:wordD x 1=wordD x (j+1+1):=by rw[ho,hl];simp
    clear ho;simp[hlen,h0,h3,hJ0,hJ1,hJl,hc,hc',←hq,hcq,hl,hf]
    and_intros<;>first|omega|assumption
  ·have hz:wordD x 1=true:=by rw[ho,wordD_end x (j+1) (by omega)]
   have hJl:¬((j+1:Nat):Int)< (x.size:Int):=by omega
   generalize((j+1:Nat):Int)=J at h3 hJl;simp[hlen,h0,h3,hJl,hz]
 ·rintro o fr h hn ⟨hlen,⟨rfl,hz⟩|⟨rfl,hz,h2⟩⟩
  ·simp only at hlen;simp[hlen,hz]
  ·simp only at h2;simp[h2,hz]
end
@[simp] theorem T_api_Prop :cx.T 79=some {size:=6,agg:=true,zero:=[.string ⟨#[]⟩,.int .i64 (0),.int .i64 (0),.int .i64 (0),.string ⟨#[]⟩,.slice none 0 0],kd:= .struct [(0,1,false),(1,5,true)]}:=by kernel_rfl
@[simp] theorem T_s_api_Prop :cx.T 80=some {size:=1,agg:=false,zero:=[.slice none 0 0],kd:= .slice 6 true 80 [.string ⟨#[]⟩,.int .i64 (0),.int .i64 (0),.int .i64 (0),.string ⟨#[]⟩,.slice none 0 0]}:=by kernel_rfl
@[simp] theorem T_api_Node :cx.T 82=some {size:=3,agg:=true,zero:=[.int .i64 (0),.slice none 0 0,.slice none 0 0],kd:= .struct [(0,1,false),(1,1,false),(2,1,false)]}:=by kernel_rfl
@[simp] theorem T_s_api_Node :cx.T 32=some {size:=1,agg:=false,zero:=[.slice none 0 0],kd:= .slice 3 true 56 [.int .i64 (0),.slice none 0 0,.slice none 0 0]}:=by kernel_rfl
@[simp] theorem T_api_Edge :cx.T 96=some {size:=5,agg:=true,zero:=[.int .i64 (0),.int .i64 (0),.int .i64 (0),.string ⟨#[]⟩,.slice none 0 0],kd:= .struct [(0,1,false),(1,1,false),(2,1,false),(3,1,false),(4,1,false)]}:=by kernel_rfl
@[simp] theorem T_s_api_Edge :cx.T 33=some {size:=1,agg:=false,zero:=[.slice none 0 0],kd:= .slice 5 true 64 [.int .i64 (0),.int .i64 (0),.int .i64 (0),.string ⟨#[]⟩,.slice none 0 0]}:=by kernel_rfl
@[simp] theorem T_api_Graph :cx.T 35=some {size:=4,agg:=true,zero:=[.slice none 0 0,.slice none 0 0,.int .i64 (0),.int .i64 (0)],kd:= .struct [(0,1,false),(1,1,false),(2,1,false),(3,1,false)]}:=by kernel_rfl
@[simp] theorem T_api_Change :cx.T 42=some {size:=10,agg:=true,zero:=[.int .i64 (0),.int .i64 (0),.int .i64 (0),.int .i64 (0),.string ⟨#[]⟩,.int .i64 (0),.int .i64 (0),.int .i64 (0),.string ⟨#[]⟩,.slice none 0 0],kd:= .struct [(0,1,false),(1,1,false),(2,1,false),(3,1,false),(4,1,false),(5,5,true)]}:=by kernel_rfl
@[simp] theorem T_api_Errno :cx.T 28=some {size:=1,agg:=false,zero:=[.int .i64 (0)],kd:= .prim}:=by kernel_rfl
@[simp] theorem L_strings :isSlT cx 60=true:=by kernel_rfl
@[simp] theorem L_props :isSlT cx 80=true:=by kernel_rfl
@[simp] theorem L_nodes :isSlT cx 32=true:=by kernel_rfl
@[simp] theorem L_edges :isSlT cx 33=true:=by kernel_rfl
@[simp] theorem L_preds :isSlT cx 27=true:=by kernel_rfl
@[simp] theorem L_changes :isSlT cx 45=true:=by kernel_rfl
section
attribute [local simp] aop aopW coldF extF putA ofConst flat scalarOp fastOp binFast intOp strOp guardX Ae.part rowOf szOk natOf lenA cls fillA splice newsOf isNilC cellX
set_option maxHeartbeats 8000000
def tsR (l:List ByteArray):List (List AV):=l.map fun s=> [.sc (.string s)]
def tsV (l:List ByteArray)(z:Bool):AV:= .ls 1 (tsR l) z
theorem tsR_length (l:List ByteArray):(tsR l).length=l.length:=by simp[tsR]
theorem tsR_get (l:List ByteArray)(i:Nat):(tsR l)[i]?=(l[i]?).map fun s=> [.sc (.string s)]:=by simp[tsR]
def risesL :List ByteArray→Bool
 | []=>true
 |
  x::l=>match l with
  | []=>true
  |y::_=>ltS x y && risesL l
def risesD (l:List ByteArray)(i:Nat):Bool:=risesL (l.drop i)
theorem risesD_end (l:List ByteArray)(i:Nat)(h:l.length≤i+1):risesD l i=true:=by
 unfold risesD;cases hq:l.drop i with
 |nil=>rfl
 |
  cons x m=>
  have:=congrArg List.length hq;simp at this;have hm:m=[]:=Zl (by omega);subst hm;rfl
theorem risesD_step {l:List ByteArray}{i:Nat}{x y:ByteArray}(h:l[i]?=some x)(h':l[i+1]?=some y):risesD l i=(ltS x y && risesD l (i+1)):=by
 obtain⟨k,e⟩:=Za.1 h;obtain⟨k',e'⟩:=Za.1 h';unfold risesD;rw[Zm k,Zm k',e,e',risesL]
theorem le_lt (x y:ByteArray):(ltS y x||eqS y x)= !(ltS x y):=by
 cases h1:ltS x y with
 |
  true=>
  have h2:=ltS_asymm h1;cases h3:eqS y x with
  |false=>simp[h2]
  |true=>have:=(eqS_iff y x).1 h3;subst this;rw[ltS_irrefl]at h1;cases h1
 |
  false=>
  cases h3:eqS y x with
  |true=>simp
  |
   false=>
   cases h4:ltS y x with
   |true=>simp
   |false=>have:=ltS_total h4 h3;rw[h1]at this;cases this
theorem g_increasing (n:Nat)(b:Bool)(l:List ByteArray)(z:Bool)(h:Hp)(hl:l.length≤1000000000000000):callN cx (n+1) b 225 [tsV l z] h=some (.sc (.bool (risesL l)),h):=by
 refine pure_calm (r:= .sc (.bool (risesL l))) ⟨Tryz.f225.ntmps,(Tryz.f225.body).getD .skip,[.tmp 2]⟩ (by kernel_rfl) (by kernel_rfl) rfl (by kernel_rfl) (by simp[Tryz.f225]) rfl rfl ?_ b h;have hq:=tsR_length l;have hg:=tsR_get l;unfold tsV;generalize tsR l=rows at hq hg;simp[Tryz.f225];refine loop_up (C:=cx) (G:=fun r=>∃h',finX _ (thenX _ _ (blockX _ r) _)=some (_,h'))
  (fun j s=>risesL l=risesD l j∧(j+1≤l.length∨j=0)∧s.1.length=20∧gt s.1 0= .ls 1 rows z∧gt s.1 3= .sc (.int .i64 (j+1:Nat)))
  (fun o s=>s.1.length=20∧((o= .exit 0∧risesL l=true)∨(o= .ret∧risesL l=false∧gt s.1 2= .sc (.bool false)))) l.length (by simp;omega) (by simp[risesD]) ?_ ?_
 ·rintro j fr h hle ⟨ho,hj,hlen,h0,h3⟩;simp only at hlen h0 h3;by_cases hi:j+1<l.length
  ·obtain⟨x,hx⟩:∃c,l[j]?=some c:=⟨_,Zb (by omega)⟩;obtain⟨y,hy⟩:∃c,l[j+1]?=some c:=⟨_,Zb hi⟩;have hr:rows[j]?=some [.sc (.string x)]:=by rw[hg,hx];rfl
   have hr2:rows[j+1]?=some [.sc (.string y)]:=by rw[hg,hy];rfl
   have hr':∀k,rows[j]'k=[.sc (.string x)]:=fun k=>by obtain⟨_,e⟩:=Za.1 hr;exact e
   have hr2':∀k,rows[j+1]'k=[.sc (.string y)]:=fun k=>by obtain⟨_,e⟩:=Za.1 hr2;exact e
   rw[risesD_step hx hy]at ho;have hle:=le_lt x y;have hf:fitI .i64 (((j+1:Nat):Int)+1)=((j+1+1:Nat):Int):=fit_i64 (by omega) (by omega);have hf0:fitI .i64 (((j+1:Nat):Int)-1)=((j:Nat):Int):=by rw[fit_i64 (by omega) (by omega)];omega
   generalize hjj:((j+1:Nat):Int)=J at h3 hf hf0;have hJ1:J.toNat=j+1:=by omega
   have hJ0:0≤J:=by omega
   have hJl:J< (l.length:Int):=by omega
   cases hlt:ltS x y
   ·have zz:risesL l=false:=by rw[ho,hlt];rfl
    clear ho;rw[hlt]at hle;simp[hlen,h0,h3,hJ1,hJ0,hJl,hq,hr,hr',hr2,hr2',hf0,hle,zz]
   ·have zz:risesL l=risesD l (j+1):=by rw[ho,hlt];rfl
    clear ho;rw[hlt]at hle;simp[hlen,h0,h3,hJ1,hJ0,hJl,hq,hr,hr',hr2,hr2',hf0,hle,hf];exact⟨by omega,zz,by omega⟩
  ·have zz:risesL l=true:=by rw[ho,risesD_end l j (by omega)]
   have hJl:¬((j+1:Nat):Int)< (l.length:Int):=by omega
   generalize((j+1:Nat):Int)=J at h3 hJl;simp[hlen,h0,h3,hJl,hq,zz]
 ·rintro o fr h hn ⟨hlen,⟨rfl,hz⟩|⟨rfl,hz,h2⟩⟩
  ·simp only at hlen;simp[hlen,hz]
  ·simp only at h2;simp[h2,hz]
theorem g_increasing_nil (n:Nat)(b:Bool)(h:Hp):callN cx (n+1) b 225 [.sc (.slice none 0 0)] h=some (.sc (.bool true),h):=by
 refine pure_calm (r:= .sc (.bool true)) ⟨Tryz.f225.ntmps,(Tryz.f225.body).getD .skip,[.tmp 2]⟩ (by kernel_rfl) (by kernel_rfl) rfl (by kernel_rfl) (by simp[Tryz.f225]) rfl rfl ?_ b h;simp[Tryz.f225];refine loop_up (C:=cx) (G:=fun r=>∃h',finX _ (thenX _ _ (blockX _ r) _)=some (_,h'))
  (fun j s=>j=0∧s.1.length=20∧gt s.1 0= .sc (.slice none 0 0)∧gt s.1 3= .sc (.int .i64 1))
  (fun o s=>s.1.length=20∧o= .exit 0) 0 (by simp) (by simp) ?_ ?_
 ·rintro j fr h hle ⟨rfl,hlen,h0,h3⟩;simp only at hlen h0 h3;simp[hlen,h0,h3]
 ·rintro o fr h hn ⟨hlen,rfl⟩;simp only at hlen;simp[hlen]
theorem r07_Rises (n:Nat)(b:Bool)(l:List ByteArray)(z:Bool)(h:Hp)(hl:l.length≤1000000000000000):callN cx (n+1) b 297 [tsV l z] h=some (.sc (.bool (risesL l)),h):=by
 refine pure_calm (r:= .sc (.bool (risesL l))) ⟨Tryz.f297.ntmps,(Tryz.f297.body).getD .skip,[.tmp 2]⟩ (by kernel_rfl) (by kernel_rfl) rfl (by kernel_rfl) (by simp[Tryz.f297]) rfl rfl ?_ b h;have hq:=tsR_length l;have hg:=tsR_get l;unfold tsV;generalize tsR l=rows at hq hg;simp[Tryz.f297];refine loop_up (C:=cx) (G:=fun r=>∃h',finX _ (thenX _ _ (blockX _ r) _)=some (_,h'))
  (fun j s=>risesL l=risesD l j∧(j+1≤l.length∨j=0)∧s.1.length=20∧gt s.1 0= .ls 1 rows z∧gt s.1 3= .sc (.int .i64 (j+1:Nat)))
  (fun o s=>s.1.length=20∧((o= .exit 0∧risesL l=true)∨(o= .ret∧risesL l=false∧gt s.1 2= .sc (.bool false)))) l.length (by simp;omega) (by simp[risesD]) ?_ ?_
 ·rintro j fr h hle ⟨ho,hj,hlen,h0,h3⟩;simp only at hlen h0 h3;by_cases hi:j+1<l.length
  ·obtain⟨x,hx⟩:∃c,l[j]?=some c:=⟨_,Zb (by omega)⟩;obtain⟨y,hy⟩:∃c,l[j+1]?=some c:=⟨_,Zb hi⟩;have hr:rows[j]?=some [.sc (.string x)]:=by rw[hg,hx];rfl
   have hr2:rows[j+1]?=some [.sc (.string y)]:=by rw[hg,hy];rfl
   have hr':∀k,rows[j]'k=[.sc (.string x)]:=fun k=>by obtain⟨_,e⟩:=Za.1 hr;exact e
   have hr2':∀k,rows[j+1]'k=[.sc (.string y)]:=fun k=>by obtain⟨_,e⟩:=Za.1 hr2;exact e
   rw[risesD_step hx hy]at ho;have hle:=le_lt x y;have hf:fitI .i64 (((j+1:Nat):Int)+1)=((j+1+1:Nat):Int):=fit_i64 (by omega) (by omega);have hf0:fitI .i64 (((j+1:Nat):Int)-1)=((j:Nat):Int):=by rw[fit_i64 (by omega) (by omega)];omega
   generalize hjj:((j+1:Nat):Int)=J at h3 hf hf0;have hJ1:J.toNat=j+1:=by omega
   have hJ0:0≤J:=by omega
   have hJl:J< (l.length:Int):=by omega
   cases hlt:ltS x y
   ·have zz:risesL l=false:=by rw[ho,hlt];rfl
    clear ho;rw[hlt]at hle;simp[hlen,h0,h3,hJ1,hJ0,hJl,hq,hr,hr',hr2,hr2',hf0,hle,zz]
   ·have zz:risesL l=risesD l (j+1):=by rw[ho,hlt];rfl
    clear ho;rw[hlt]at hle;simp[hlen,h0,h3,hJ1,hJ0,hJl,hq,hr,hr',hr2,hr2',hf0,hle,hf];exact⟨by omega,zz,by omega⟩
  ·have zz:risesL l=true:=by rw[ho,risesD_end l j (by omega)]
   have hJl:¬((j+1:Nat):Int)< (l.length:Int):=by omega
   generalize((j+1:Nat):Int)=J at h3 hJl;simp[hlen,h0,h3,hJl,hq,zz]
 ·rintro o fr h hn ⟨hlen,⟨rfl,hz⟩|⟨rfl,hz,h2⟩⟩
  ·simp only at hlen;simp[hlen,hz]
  ·simp only at h2;simp[h2,hz]
theorem r07_Rises_nil (n:Nat)(b:Bool)(h:Hp):callN cx (n+1) b 297 [.sc (.slice none 0 0)] h=some (.sc (.bool true),h):=by
 refine pure_calm (r:= .sc (.bool true)) ⟨Tryz.f297.ntmps,(Tryz.f297.body).getD .skip,[.tmp 2]⟩ (by kernel_rfl) (by kernel_rfl) rfl (by kernel_rfl) (by simp[Tryz.f297]) rfl rfl ?_ b h;simp[Tryz.f297];refine loop_up (C:=cx) (G:=fun r=>∃h',finX _ (thenX _ _ (blockX _ r) _)=some (_,h'))
  (fun j s=>j=0∧s.1.length=20∧gt s.1 0= .sc (.slice none 0 0)∧gt s.1 3= .sc (.int .i64 1))
  (fun o s=>s.1.length=20∧o= .exit 0) 0 (by simp) (by simp) ?_ ?_
 ·rintro j fr h hle ⟨rfl,hlen,h0,h3⟩;simp only at hlen h0 h3;simp[hlen,h0,h3]
 ·rintro o fr h hn ⟨hlen,rfl⟩;simp only at hlen;simp[hlen]
def namesL (l:List ByteArray):Bool:=l.all nameS
def namesD (l:List ByteArray)(i:Nat):Bool:=namesL (l.drop i)
theorem namesD_end (l:List ByteArray)(i:Nat)(h:l.length≤i):namesD l i=true:=by unfold namesD;rw[Zt h];rfl
theorem namesD_step {l:List ByteArray}{i:Nat}{c:ByteArray}(h:l[i]?=some c):namesD l i=(nameS c && namesD l (i+1)):=by
 obtain⟨k,e⟩:=Za.1 h;unfold namesD namesL;rw[Zm k,e,Zn]
theorem r07_Names (n:Nat)(b:Bool)(l:List ByteArray)(z:Bool)(h:Hp)(hl:l.length≤1000000000000000):callN cx (n+3) b 296 [tsV l z] h=some (.sc (.bool (namesL l)),h):=by
 refine pure_calm (r:= .sc (.bool (namesL l))) ⟨Tryz.f296.ntmps,(Tryz.f296.body).getD .skip,[.tmp 2]⟩ (by kernel_rfl) (by kernel_rfl) rfl (by kernel_rfl) (by simp[Tryz.f296]) rfl rfl ?_ b h;have hq:=tsR_length l;have hg:=tsR_get l;have hcl:=fun b x h=>r07_Name n b x h
 unfold tsV;generalize tsR l=rows at hq hg;simp[Tryz.f296];refine loop_up (C:=cx) (G:=fun r=>∃h',finX _ (thenX _ _ (blockX _ r) _)=some (_,h'))
  (fun i s=>namesL l=namesD l i∧s.1.length=16∧gt s.1 0= .ls 1 rows z∧gt s.1 3= .sc (.int .i64 i))
  (fun o s=>s.1.length=16∧((o= .exit 0∧namesL l=true)∨(o= .ret∧namesL l=false∧gt s.1 2= .sc (.bool false)))) l.length (by simp;omega) (by simp[namesD]) ?_ ?_
 ·rintro i fr h hle ⟨ho,hlen,h0,h3⟩;simp only at hlen h0 h3;by_cases hi:i<l.length
  ·obtain⟨x,hx⟩:∃c,l[i]?=some c:=⟨_,Zb hi⟩;have hr:rows[i]?=some [.sc (.string x)]:=by rw[hg,hx];rfl
   have hr':∀k,rows[i]'k=[.sc (.string x)]:=fun k=>by obtain⟨_,e⟩:=Za.1 hr;exact e
   rw[namesD_step hx]at ho;have hcx:=fun b h=>hcl b x h
   have hf:fitI .i64 ((i:Int)+1)=((i+1:Nat):Int):=fit_i64 (by omega) (by omega);cases hk:nameS x
   ·have zz:namesL l=false:=by rw[ho,hk];rfl
    clear ho;simp[hlen,h0,h3,hi,hq,hr,hr',hcx,hk,zz]
   ·have zz:namesL l=namesD l (i+1):=by rw[ho,hk];rfl
    clear ho;simp[hlen,h0,h3,hi,hq,hr,hr',hcx,hk,hf];exact zz
  ·have zz:namesL l=true:=by rw[ho,namesD_end l i (by omega)]
   simp[hlen,h0,h3,hi,hq,zz]
 ·rintro o fr h hn ⟨hlen,⟨rfl,hz⟩|⟨rfl,hz,h2⟩⟩
  ·simp only at hlen;simp[hlen,hz]
  ·simp only at h2;simp[h2,hz]
theorem r07_Names_nil (n:Nat)(b:Bool)(h:Hp):callN cx (n+1) b 296 [.sc (.slice none 0 0)] h=some (.sc (.bool true),h):=by
 refine pure_calm (r:= .sc (.bool true)) ⟨Tryz.f296.ntmps,(Tryz.f296.body).getD .skip,[.tmp 2]⟩ (by kernel_rfl) (by kernel_rfl) rfl (by kernel_rfl) (by simp[Tryz.f296]) rfl rfl ?_ b h;simp[Tryz.f296];refine loop_up (C:=cx) (G:=fun r=>∃h',finX _ (thenX _ _ (blockX _ r) _)=some (_,h'))
  (fun j s=>j=0∧s.1.length=16∧gt s.1 0= .sc (.slice none 0 0)∧gt s.1 3= .sc (.int .i64 0))
  (fun o s=>s.1.length=16∧o= .exit 0) 0 (by simp) (by simp) ?_ ?_
 ·rintro j fr h hle ⟨rfl,hlen,h0,h3⟩;simp only at hlen h0 h3;simp[hlen,h0,h3]
 ·rintro o fr h hn ⟨hlen,rfl⟩;simp only at hlen;simp[hlen]
theorem g_unnamed (n:Nat)(b:Bool)(x:ByteArray)(h:Hp):callN cx (n+3) b 224 [.sc (.string x)] h=some (.sc (.bool (!nameS x)),h):=by
 refine pure_calm (r:= .sc (.bool (!nameS x))) ⟨Tryz.f224.ntmps,(Tryz.f224.body).getD .skip,[.tmp 2]⟩ (by kernel_rfl) (by kernel_rfl) rfl (by kernel_rfl) (by simp[Tryz.f224]) rfl rfl ?_ b h;have hc:=fun b h=>g_Name n b x h
 cases hk:nameS x<;>simp[Tryz.f224,hc,hk]
def idxN :List ByteArray→Nat→Int
 | [],_=> -1
 |c::l,i=>if nameS c=true then idxN l (i+1)else i
def idxND (l:List ByteArray)(i:Nat):Int:=idxN (l.drop i) i
theorem idxN_neg :∀(l:List ByteArray) (i:Nat),(0≤idxN l i)=(namesL l=false)
 | [],i=>by simp[idxN,namesL]
 |
  c::l,i=>by
  rw[idxN,namesL,Zn];cases h:nameS c
  ·simp
  ·have:=idxN_neg l (i+1);unfold namesL at this;simp[this]
theorem idxND_end (l:List ByteArray)(i:Nat)(h:l.length≤i):idxND l i= -1:=by unfold idxND;rw[Zt h];rfl
theorem idxND_step {l:List ByteArray}{i:Nat}{c:ByteArray}(h:l[i]?=some c):idxND l i=if nameS c=true then idxND l (i+1)else i:=by
 obtain⟨k,e⟩:=Za.1 h;unfold idxND;rw[Zm k,e,idxN]
theorem sl_IndexFunc_unnamed (n:Nat)(b:Bool)(l:List ByteArray)(z:Bool)(h:Hp)(hl:l.length≤1000000000000000):callN cx (n+4) b 141 [tsV l z,.fn 224 []] h=some (.sc (.int .i64 (idxND l 0)),h):=by
 refine pure_calm (r:= .sc (.int .i64 (idxND l 0))) ⟨Tryz.f141.ntmps,(Tryz.f141.body).getD .skip,[.tmp 4]⟩ (by kernel_rfl) (by kernel_rfl) rfl (by kernel_rfl) (by simp[Tryz.f141]) rfl rfl ?_ b h;have hq:=tsR_length l;have hg:=tsR_get l;have hcl:=fun b x h=>g_unnamed n b x h
 unfold tsV;generalize tsR l=rows at hq hg;simp[Tryz.f141,hq];refine loop_up (C:=cx) (G:=fun r=>∃h',finX _ (thenX _ _ (blockX _ r) _)=some (_,h'))
  (fun i s=>idxND l 0=idxND l i∧s.1.length=19∧gt s.1 0= .ls 1 rows z∧gt s.1 1= .fn 224 []∧gt s.1 7= .sc (.int .i64 l.length)∧gt s.1 8= .sc (.int .i64 i))
  (fun o s=>s.1.length=19∧((o= .exit 0∧idxND l 0= -1)∨(o= .ret∧gt s.1 4= .sc (.int .i64 (idxND l 0))))) l.length (by simp;omega) (by simp) ?_ ?_
 ·rintro i fr h hle ⟨ho,hlen,h0,h1,h7,h8⟩;simp only at hlen h0 h1 h7 h8;by_cases hi:i<l.length
  ·obtain⟨x,hx⟩:∃c,l[i]?=some c:=⟨_,Zb hi⟩;have hr:rows[i]?=some [.sc (.string x)]:=by rw[hg,hx];rfl
   have hr':∀k,rows[i]'k=[.sc (.string x)]:=fun k=>by obtain⟨_,e⟩:=Za.1 hr;exact e
   rw[idxND_step hx]at ho;have hcx:=fun b h=>hcl b x h
   have hf:fitI .i64 ((i:Int)+1)=((i+1:Nat):Int):=fit_i64 (by omega) (by omega);cases hk:nameS x
   ·rw[if_neg (by rw[hk];simp)]at ho;simp[hlen,h0,h1,h7,h8,hi,hq,hr,hr',hcx,hk,ho]
   ·rw[if_pos hk]at ho;simp[hlen,h0,h1,h7,h8,hi,hq,hr,hr',hcx,hk,hf];exact ho
  ·have zz:idxND l 0= -1:=by rw[ho,idxND_end l i (by omega)]
   simp[hlen,h0,h1,h7,h8,hi,hq,zz]
 ·rintro o fr h hn ⟨hlen,⟨rfl,hz⟩|⟨rfl,h2⟩⟩
  ·simp only at hlen;simp[hlen,hz]
  ·simp only at h2;simp[h2]
theorem sl_IndexFunc_nil (n:Nat)(b:Bool)(g:FuncId)(h:Hp):callN cx (n+1) b 141 [.sc (.slice none 0 0),.fn g []] h=some (.sc (.int .i64 (-1)),h):=by
 refine pure_calm (r:= .sc (.int .i64 (-1))) ⟨Tryz.f141.ntmps,(Tryz.f141.body).getD .skip,[.tmp 4]⟩ (by kernel_rfl) (by kernel_rfl) rfl (by kernel_rfl) (by simp[Tryz.f141]) rfl rfl ?_ b h;simp[Tryz.f141];refine loop_up (C:=cx) (G:=fun r=>∃h',finX _ (thenX _ _ (blockX _ r) _)=some (_,h'))
  (fun j s=>j=0∧s.1.length=19∧gt s.1 7= .sc (.int .i64 0)∧gt s.1 8= .sc (.int .i64 0))
  (fun o s=>s.1.length=19∧o= .exit 0) 0 (by simp) (by simp) ?_ ?_
 ·rintro j fr h hle ⟨rfl,hlen,h7,h8⟩;simp only at hlen h7 h8;simp[hlen,h7,h8]
 ·rintro o fr h hn ⟨hlen,rfl⟩;simp only at hlen;simp[hlen]
theorem sl_ContainsFunc_unnamed (n:Nat)(b:Bool)(l:List ByteArray)(z:Bool)(h:Hp)(hl:l.length≤1000000000000000):callN cx (n+5) b 77 [tsV l z,.fn 224 []] h=some (.sc (.bool (!namesL l)),h):=by
 refine pure_calm (r:= .sc (.bool (!namesL l))) ⟨Tryz.f77.ntmps,(Tryz.f77.body).getD .skip,[.tmp 4]⟩ (by kernel_rfl) (by kernel_rfl) rfl (by kernel_rfl) (by simp[Tryz.f77]) rfl rfl ?_ b h;have hc:=fun b h=>sl_IndexFunc_unnamed n b l z h hl
 have hw:=idxN_neg l 0;change(0≤idxND l 0)=_ at hw;unfold tsV at hc⊢;generalize idxND l 0=w at hc hw;cases hk:namesL l
 ·have:0≤w:=hw.mpr hk;simp[Tryz.f77,hc,this]
 ·have:¬0≤w:=fun q=>by rw[hw.mp q]at hk;cases hk
  simp[Tryz.f77,hc,this]
theorem sl_ContainsFunc_nil (n:Nat)(b:Bool)(h:Hp):callN cx (n+2) b 77 [.sc (.slice none 0 0),.fn 224 []] h=some (.sc (.bool false),h):=by
 refine pure_calm (r:= .sc (.bool false)) ⟨Tryz.f77.ntmps,(Tryz.f77.body).getD .skip,[.tmp 4]⟩ (by kernel_rfl) (by kernel_rfl) rfl (by kernel_rfl) (by simp[Tryz.f77]) rfl rfl ?_ b h;have hc:=fun b h=>sl_IndexFunc_nil n b 224 h
 simp[Tryz.f77,hc]
def plainV (v:V):Bool:=okT v && (decide (v.k=1)||decide (v.k=2)||decide (v.k=4))
theorem val_Plain (N D:Nat)(v:V)(hd:dep v≤D)(hb:bdV v)(b:Bool)(h:Hp):callN cx (N+2*D+5) b 194 [.ag (enc v)] h=some (.sc (.bool (plainV v)),h):=by
 have hv:=fun b h=>val_Valid N D v hd hb b h
 have hc:[AV.ag (enc v)].all calm=true:=calm_evV1 v;refine pure_calm (r:= .sc (.bool (plainV v))) (n:=N+2*D+4) ⟨Tryz.f194.ntmps,(Tryz.f194.body).getD .skip,[.tmp 2]⟩ (by kernel_rfl) (by kernel_rfl) rfl (by kernel_rfl) (by simp[Tryz.f194]) hc rfl ?_ b h;clear hc;unfold plainV;generalize okT v=K at hv;generalize N+2*D+4=M at hv;cases v with
 |
  mk k n d s z l=>
  simp only[V.k];rw[evV_eq]at hv;have he:enc (.mk k n d s z l)=[.sc (.int .i64 k),.sc (.int .i64 n),.sc (.int .i64 d),.sc (.string s),evL z l]:=rfl;rw[he];clear he;generalize evL z l=L at hv;by_cases h1:k=1
  ·subst h1;cases K<;>simp[Tryz.f194,hv]
  by_cases h2:k=2
  ·subst h2;cases K<;>simp[Tryz.f194,hv]
  by_cases h4:k=4
  ·subst h4;cases K<;>simp[Tryz.f194,hv]
  cases K<;>simp[Tryz.f194,hv,h1,h2,h4]
theorem r04_Plain (N D:Nat)(v:V)(hd:dep v≤D)(hb:bdV v)(b:Bool)(h:Hp):callN cx (N+2*D+5) b 209 [.ag (enc v)] h=some (.sc (.bool (plainV v)),h):=by
 have hv:=fun b h=>r04_Valid N D v hd hb b h
 have hc:[AV.ag (enc v)].all calm=true:=calm_evV1 v;refine pure_calm (r:= .sc (.bool (plainV v))) (n:=N+2*D+4) ⟨Tryz.f209.ntmps,(Tryz.f209.body).getD .skip,[.tmp 2]⟩ (by kernel_rfl) (by kernel_rfl) rfl (by kernel_rfl) (by simp[Tryz.f209]) hc rfl ?_ b h;clear hc;unfold plainV;generalize okT v=K at hv;generalize N+2*D+4=M at hv;cases v with
 |
  mk k n d s z l=>
  simp only[V.k];rw[evV_eq]at hv;have he:enc (.mk k n d s z l)=[.sc (.int .i64 k),.sc (.int .i64 n),.sc (.int .i64 d),.sc (.string s),evL z l]:=rfl;rw[he];clear he;generalize evL z l=L at hv;by_cases h1:k=1
  ·subst h1;cases K<;>simp[Tryz.f209,hv]
  by_cases h2:k=2
  ·subst h2;cases K<;>simp[Tryz.f209,hv]
  by_cases h4:k=4
  ·subst h4;cases K<;>simp[Tryz.f209,hv]
  cases K<;>simp[Tryz.f209,hv,h1,h2,h4]
end
end Go.Proofs.YtadaeokidcgdlaaGreatDoor
