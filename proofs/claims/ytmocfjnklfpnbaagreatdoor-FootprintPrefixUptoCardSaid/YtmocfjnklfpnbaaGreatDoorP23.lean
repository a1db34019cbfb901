/- Words in upper case, reserved words, names that are not reserved: the program's. -/
import Derived.Test.YtmocfjnklfpnbaaGreatDoorP22
import Derived.Test.YtmocfjnklfpnbaaGreatDoorP20
import Derived.Test.YtmocfjnklfpnbaaGreatDoorP18
set_option linter.all false
set_option maxRecDepth 100000
namespace Go.Proofs.YtmocfjnklfpnbaaGreatDoor
open Go Go.Ae
section
attribute [local simp] aop aopW coldF extF putA ofConst flat scalarOp fastOp binFast intOp strOp guardX Ae.part rowOf szOk natOf lenA cls fillA newsOf isNilC cellX
set_option maxHeartbeats 16000000
@[simp] theorem U8_bytes :isU8 cx 323=true:=by kernel_rfl
@[simp] theorem U8_string :isU8 cx 9=false:=by kernel_rfl
@[simp] theorem S_bytes :isStr cx 323=false:=by kernel_rfl
@[simp] theorem T_bytes :cx.T 323=some {size:=1,agg:=false,zero:=[.slice none 0 0],kd:= .slice 1 false 1 [.int .u8 (0)]}:=by kernel_rfl
@[simp] theorem L_bytes :isSlT cx 323=true:=by kernel_rfl
def upC (c:UInt8):UInt8:=if 97≤c.toNat∧c.toNat≤122 then UInt8.ofNat (c.toNat-32)else c
def upS (x:ByteArray):ByteArray:=⟨(x.data.toList.map upC).toArray⟩
def byV (c:UInt8):AV:= .sc (.int .u8 c.toNat)
def upR (l:List UInt8)(i:Nat):List AV:=((l.take i).map upC++l.drop i).map byV
theorem upR_len (l:List UInt8)(i:Nat):(upR l i).length=l.length:=by
 unfold upR;simp;omega
theorem upR_get {l:List UInt8}{i:Nat}{c:UInt8}(h:l[i]?=some c):(upR l i)[i]?=some (byV c):=by
 obtain⟨k,e⟩:=Za.1 h;unfold upR;rw[Zs,Zf (by simp;omega)];have hm:i-((l.take i).map upC).length=0:=by simp;omega
 rw[hm,Zm k,e];rfl
theorem upR_set {l:List UInt8}{i:Nat}{c:UInt8}(h:l[i]?=some c):splice (upR l i) i [byV (upC c)]=upR l (i+1):=by
 obtain⟨k,e⟩:=Za.1 h;have hA:(((l.take i).map upC).map byV).length=i:=by simp;omega
 have e1:upR l i=((l.take i).map upC).map byV++([byV c]++(l.drop (i+1)).map byV):=by
  unfold upR;rw[Zm k,e];simp
 have e2:upR l (i+1)=((l.take i).map upC).map byV++([byV (upC c)]++(l.drop (i+1)).map byV):=by
  unfold upR;rw[List.take_add_one,h];simp
 rw[e1,e2];unfold splice;rw[List.take_left' hA,←List.drop_drop,List.drop_left' hA];simp
theorem upR_same {l:List UInt8}{i:Nat}{c:UInt8}(h:l[i]?=some c)(hc:upC c=c):upR l i=upR l (i+1):=by
 obtain⟨k,e⟩:=Za.1 h;unfold upR;rw[Zm k,e,List.take_add_one,h];simp[hc]
theorem upR_zero (l:List UInt8):upR l 0=l.map byV:=by simp[upR]
theorem upR_end (l:List UInt8):upR l l.length=(l.map upC).map byV:=by simp[upR]
theorem byV_back :∀l:List UInt8,(l.map byV).mapM byteA=some l
 | []=>rfl
 |
  c::l=>by
  have hc:=c.toNat_lt;have e:byteA (byV c)=some c:=by
   show(if 0≤(c.toNat:Int)∧(c.toNat:Int)<256 then some (UInt8.ofNat (c.toNat:Int).toNat)else none)=some c;rw[if_pos ⟨by omega,by omega⟩];simp
  rw[List.map_cons,Zo,e,byV_back l];rfl
theorem fit_u8 {n:Int}(h1:0≤n)(h2:n≤255):fitI .u8 n=n:=by
 show IntKind.u8.wrap n=n;unfold IntKind.wrap;show(if(IntKind.u8.signed && decide (n % 256≥2^7))=true then n % 256-256 else n % 256)=n;have:IntKind.u8.signed=false:=by decide
 rw[this,Bool.false_and,if_neg (by simp)];omega
theorem sy_upper (n:Nat)(b:Bool)(x:ByteArray)(h:Hp)(hs:x.size≤1000000000000000):callN cx (n+1) b 297 [.sc (.string x)] h=some (.sc (.string (upS x)),h):=by
 refine pure_calm (r:= .sc (.string (upS x))) ⟨Tryz.f297.ntmps,(Tryz.f297.body).getD .skip,[.tmp 2]⟩ (by kernel_rfl) (by kernel_rfl) rfl (by kernel_rfl) (by simp[Tryz.f297]) rfl rfl ?_ b h;have hm:x.size≤maxLen:=by unfold maxLen;omega
 have hz:=size_len x;have hr0:=upR_zero x.data.toList;have hb:=byV_back (x.data.toList.map upC);rw[←upR_end]at hb;unfold upS;generalize x.data.toList.map upC=res at hb⊢;have hrow:(x.data.toList.map fun b=>AV.sc (.int .u8 b.toNat))=upR x.data.toList 0:=hr0.symm;clear hr0;generalize hl:x.data.toList=l at *;generalize hL:x.size=L at *;have hlen0:=upR_len l;simp[Tryz.f297,hl,hL,hm,hrow];refine loop_up (C:=cx) (G:=fun r=>∃h',finX _ (thenX _ _ (blockX _ r) _)=some (_,h'))
  (fun i s=>i≤L∧s.1.length=30∧gt s.1 3= .sl 0 1 0 L false∧gt s.1 8= .sl 0 1 0 L false∧gt s.1 9= .sc (.int .i64 (L:Nat))∧gt s.1 10= .sc (.int .i64 (i:Nat))∧s.2=[.raw (upR l i)])
  (fun o s=>o= .exit 0∧s.1.length=30∧gt s.1 3= .sl 0 1 0 L false∧s.2=[.raw (upR l L)]) L (by simp;omega) ⟨by omega,rfl,rfl,rfl,rfl,rfl,rfl⟩ ?_ ?_
 ·rintro i fr hp _ ⟨hi0,hlen,h3,h8,h9,h10,hh⟩;simp only at hlen h3 h8 h9 h10 hh;subst hh;by_cases hi:i<L
  ·obtain⟨c,hc⟩:∃c,l[i]?=some c:=⟨_,Zb (by omega)⟩;have hg:=upR_get hc;have hset:=upR_set hc;have hsame:=upR_same hc;have hf:=fit_succ (Yj hi0 hs);have hcl:=c.toNat_lt;have hl0:=hlen0 i;have hi1:i+1≤l.length:=by omega
   have hg2:∀k,(upR l i)[i]'k=byV c:=fun k=>by obtain⟨_,e⟩:=Za.1 hg;exact e
   unfold byV at hg hg2 hset;unfold upC at hset hsame;generalize upR l i=R0 at hg hg2 hset hsame hl0⊢;generalize hR1:upR l (i+1)=R1 at hset hsame;by_cases c1:97≤c.toNat
   ·have c1':(97:Int)≤c.toNat:=by omega
    by_cases c2:c.toNat≤122
    ·have c2':(c.toNat:Int)≤122:=by omega
     rw[if_pos ⟨c1,c2⟩]at hset;have e1:fitI .u8 ((c.toNat:Int)-97)=(c.toNat:Int)-97:=fit_u8 (by omega) (by omega);have e2:fitI .u8 ((c.toNat:Int)-97+65)=(c.toNat:Int)-32:=by rw[fit_u8 (by omega) (by omega)];omega
     have e3:((UInt8.ofNat (c.toNat-32)).toNat:Int)=(c.toNat:Int)-32:=by
      rw[UInt8.toNat_ofNat'];omega
     rw[e3]at hset;simp[hlen,h3,h8,h9,h10,hi,hg,hg2,hl0,c1',c2',e1,e2,hset,hf,hi1];exact⟨by omega,hR1.symm⟩
    ·have c2':¬(c.toNat:Int)≤122:=by omega
     have:=hsame (by rw[if_neg (fun q=>c2 q.2)]);subst this;simp[hlen,h3,h8,h9,h10,hi,hg,hg2,hl0,c1',c2',hf,hi1];exact⟨by omega,hR1.symm⟩
   ·have c1':¬(97:Int)≤c.toNat:=by omega
    have:=hsame (by rw[if_neg (fun q=>c1 q.1)]);subst this;simp[hlen,h3,h8,h9,h10,hi,hg,hg2,hl0,c1',hf,hi1];exact⟨by omega,hR1.symm⟩
  ·have hil:i=L:=Yc hi0 (Yb hi);subst hil;simp[hlen,h3,h8,h9,h10]
 ·rintro o fr hp hn ⟨rfl,hlen,h3,hh⟩;simp only at hlen h3 hh;subst hh;have hl0:=hlen0 L;have hL2:L=l.length:=by omega
  rw[←hL2]at hb;generalize upR l L=R0 at hb hl0⊢;have ht:R0.take L=R0:=List.take_of_length_le (by omega);simp[hlen,h3,hl0,hL2.symm,ht,hb]
def resvL :List UInt8:=[32,77,65,84,67,72,32,79,80,84,73,79,78,65,76,32,87,72,69,82,69,32,85,78,87,73,78,68,32,65,83,32,87,73,84,72,32,68,73,83,84,73,78,67,84,32,79,82,68,69,82,32,66,89,32,65,83,67,32,68,69,83,67,32,83,75,73,80,32,76,73,77,73,84,32,82,69,84,85,82,78,32,67,82,69,65,84,69,32,77,69,82,71,69,32,83,69,84,32,82,69,77,79,86,69,32,68,69,76,69,84,69,32,68,69,84,65,67,72,32,65,78,68,32,79,82,32,78,79,84,32,73,78,32,73,83,32,78,85,76,76,32,84,82,85,69,32,70,65,76,83,69,32,87,65,76,75,32,84,82,65,73,76,32,83,73,77,80,76,69,32,83,72,79,82,84,69,83,84,32,65,78,89,32]
theorem s_contains (n:Nat)(b:Bool)(x y:ByteArray)(h:Hp)(hx:x.size<4294967281):callN cx (n+1) b 296 [.sc (.string x),.sc (.string y)] h=some (.sc (.bool (Lib.contains x.data.toList y.data.toList)),h):=by
 refine call_tab rfl (by kernel_rfl) ?_ rfl b h;show tabF 296 [.sc (.string x),.sc (.string y)]=_;unfold tabF;rw[if_pos rfl];simp only[hx,if_true]
def okSz (x:ByteArray):Bool:=decide (x.size<4294967281)
def blC :ByteArray:=⟨#[32]⟩
def resS (x:ByteArray):Bool:= !(eqS x ⟨#[]⟩) && (!(Lib.contains x.data.toList blC.data.toList) && Lib.contains resvL (blC++upS x++blC).data.toList)
theorem sy_Reserved (n:Nat)(b:Bool)(x:ByteArray)(h:Hp)(hs:x.size≤1000000):callN cx (n+2) b 273 [.sc (.string x)] h=some (.sc (.bool (resS x)),h):=by
 refine pure_calm (n:=n+1) (r:= .sc (.bool (resS x))) ⟨Tryz.f273.ntmps,(Tryz.f273.body).getD .skip,[.tmp 2]⟩ (by kernel_rfl) (by kernel_rfl) rfl (by kernel_rfl) (by simp[Tryz.f273]) rfl rfl ?_ b h;have f1:=fun b h=>sy_upper n b x h (by omega)
 obtain⟨R,f2⟩:∃R:ByteArray→ByteArray→Bool→Hp→Option (AV × Hp),∀x y b h,callN cx (n+1) b 296 [.sc (.string x),.sc (.string y)] h=if okSz x=true then some (.sc (.bool (Lib.contains x.data.toList y.data.toList)),h)else R x y b h:=⟨fun x y b h=>callN cx (n+1) b 296 [.sc (.string x),.sc (.string y)] h,fun x y b h=>by
  split
  ·rename_i q;exact s_contains n b x y h (of_decide_eq_true q)
  ·rfl⟩
 have hx:okSz x=true:=decide_eq_true (by omega);have hu:(upS x).size=x.size:=by unfold upS;show(x.data.toList.map upC).toArray.size=x.data.size;simp
 have g1:blC.size+(upS x).size≤9223372036854775807:=by rw[hu];show 1+_≤_;omega
 have g2:(blC++upS x).size+blC.size≤9223372036854775807:=by rw[ByteArray.size_append,hu];show 1+_+1≤_;omega
 unfold resS;generalize upS x=u at f1 g1 g2⊢;generalize n+1=M at f1 f2⊢;have g3:=g2;rw[ByteArray.size_append]at g3;have g1':1+u.size≤9223372036854775807:=g1;have g3':1+u.size+1≤9223372036854775807:=g3;have bsz:∀a:Array UInt8,ByteArray.size ⟨a⟩=a.size:=fun a=>rfl
 unfold blC at g1 g2 g3⊢;cases he:eqS x ⟨#[]⟩
 ·cases hc:Lib.contains x.data.toList (ByteArray.mk #[32]).data.toList
  ·simp only[List.toList_toArray]at hc;simp[Tryz.f273,he,f1,f2,hx,hc,g1,g2,g3,resvL];split
   ·simp
   ·rename_i q;exact absurd (by kernel_rfl) q
  ·simp only[List.toList_toArray]at hc;simp[Tryz.f273,he,f2,hx,hc]
 ·simp[Tryz.f273,he]
def wordS (x:ByteArray):Bool:=nameS x && !resS x
theorem sy_word (n:Nat)(b:Bool)(x:ByteArray)(h:Hp):callN cx (n+3) b 213 [.sc (.string x)] h=some (.sc (.bool (wordS x)),h):=by
 refine pure_calm (n:=n+2) (r:= .sc (.bool (wordS x))) ⟨Tryz.f213.ntmps,(Tryz.f213.body).getD .skip,[.tmp 2]⟩ (by kernel_rfl) (by kernel_rfl) rfl (by kernel_rfl) (by simp[Tryz.f213]) rfl rfl ?_ b h;have f1:=fun b h=>g_Name n b x h
 have f2:=fun(q:nameS x=true) b h=>sy_Reserved n b x h (by
  unfold nameS at q;simp only[Zh,Zz]at q;omega)
 unfold wordS;cases hn:nameS x with
 |
  false=>
  rw[hn]at f1;simp[Tryz.f213,f1]
 |
  true=>
  rw[hn]at f1;have f2:=f2 hn;simp[Tryz.f213,f1,f2]
set_option maxHeartbeats 32000000
def namedC (op:Int):Bool:=decide (op=2)||(decide (op=3)||(decide (op=4)||(decide (op=23)||decide (op=24))))
def spareC (op:Int)(bl:Bool)(nm:ByteArray)(ds:Bool):Bool:=(decide (op=1)||bl) && (namedC op||eqS nm ⟨#[]⟩) && (decide (op=24)|| !ds)
def constC (k:Int)(bl ok:Bool):Bool:=bl||((decide (k=1)||decide (k=2)||decide (k=4)) && ok)
def namelessC (op:Int)(nm:ByteArray):Bool:=if op=2∨op=3∨op=4 then !wordS nm else if op=23 then decide ((arS nm).1=0)else if op=24 then !agS nm else false
theorem sy_spare (n:Nat)(b:Bool)(op k n' d:Int)(s:ByteArray)(r q:List (List AV))(z z':Bool)(nm:ByteArray)(ds:Bool)(h:Hp):callN cx (n+2) b 276 [.ag [.sc (.int .i64 op),.sc (.int .i64 k),.sc (.int .i64 n'),.sc (.int .i64 d),.sc (.string s),.ls 5 r z,.sc (.string nm),.sc (.bool ds),.ls 9 q z']] h=some (.sc (.bool (spareC op (blankC k n' d s r.length) nm ds)),h):=by
 refine pure_calm (n:=n+1) (r:= .sc (.bool (spareC op (blankC k n' d s r.length) nm ds))) ⟨Tryz.f276.ntmps,(Tryz.f276.body).getD .skip,[.tmp 2]⟩ (by kernel_rfl) (by kernel_rfl) rfl (by kernel_rfl) (by simp[Tryz.f276]) rfl rfl ?_ b h;have fb:=fun b h=>sy_blank n b k n' d s r z h
 generalize n+1=M at fb⊢;generalize blankC k n' d s r.length=bl at fb⊢;unfold spareC namedC;by_cases c1:op=1
 ·subst c1;cases bl<;>cases he:eqS nm ⟨#[]⟩<;>cases ds<;>simp[Tryz.f276,fb,he]
 by_cases c2:op=2
 ·subst c2;cases bl<;>cases he:eqS nm ⟨#[]⟩<;>cases ds<;>simp[Tryz.f276,fb,he]
 by_cases c3:op=3
 ·subst c3;cases bl<;>cases he:eqS nm ⟨#[]⟩<;>cases ds<;>simp[Tryz.f276,fb,he]
 by_cases c4:op=4
 ·subst c4;cases bl<;>cases he:eqS nm ⟨#[]⟩<;>cases ds<;>simp[Tryz.f276,fb,he]
 by_cases c23:op=23
 ·subst c23;cases bl<;>cases he:eqS nm ⟨#[]⟩<;>cases ds<;>simp[Tryz.f276,fb,he]
 by_cases c24:op=24
 ·subst c24;cases bl<;>cases he:eqS nm ⟨#[]⟩<;>cases ds<;>simp[Tryz.f276,fb,he]
 cases bl<;>cases he:eqS nm ⟨#[]⟩<;>cases ds<;>simp[Tryz.f276,fb,he,c1,c2,c3,c4,c23,c24]
theorem sy_constant (N D:Nat)(b:Bool)(v:V)(h:Hp)(hd:dep v≤D)(hv:gdV v):callN cx (N+2*D+5) b 277 [.ag (enc v)] h=some (.sc (.bool (constC v.k (blankS v) (okT v))),h):=by
 have hcalm:[AV.ag (enc v)].all calm=true:=by rw[Zn,calm_v1];rfl
 refine pure_calm (n:=N+2*D+4) (r:= .sc (.bool (constC v.k (blankS v) (okT v)))) ⟨Tryz.f277.ntmps,(Tryz.f277.body).getD .skip,[.tmp 2]⟩ (by kernel_rfl) (by kernel_rfl) rfl (by kernel_rfl) (by simp[Tryz.f277]) hcalm rfl ?_ b h;have f1:=fun b h=>val_Valid N D v hd (gd_bd hv) b h
 unfold evV at f1;obtain⟨k,n',d,s,z,l⟩:=v;rw[gdV]at hv;obtain⟨_,_,_,_,_,rfl,_⟩:=hv;have f2:=fun b h=>sy_blank (N+2*D+3) b k n' d s (encL l) false h
 have e:enc (.mk k n' d s false l)=[.sc (.int .i64 k),.sc (.int .i64 n'),.sc (.int .i64 d),.sc (.string s),.ls 5 (encL l) false]:=by rw[enc];rfl
 rw[e]at f1⊢;unfold blankS;simp only[V.k,V.n,V.d,V.s,V.l];rw[encL_length]at f2;generalize blankC k n' d s l.length=bl at f2⊢;generalize okT (.mk k n' d s false l)=ok at f1⊢;generalize N+2*D+4=M at f1 f2⊢;generalize encL l=r at f1 f2⊢;unfold constC;cases bl
 ·by_cases c1:k=1
  ·subst c1;cases ok<;>simp[Tryz.f277,f1,f2]
  by_cases c2:k=2
  ·subst c2;cases ok<;>simp[Tryz.f277,f1,f2]
  by_cases c4:k=4
  ·subst c4;cases ok<;>simp[Tryz.f277,f1,f2]
  simp[Tryz.f277,f2,c1,c2,c4]
 ·simp[Tryz.f277,f2]
theorem sy_nameless (n:Nat)(b:Bool)(op k n' d:Int)(s:ByteArray)(r q:List (List AV))(z z':Bool)(nm:ByteArray)(ds:Bool)(h:Hp):callN cx (n+4) b 278 [.ag [.sc (.int .i64 op),.sc (.int .i64 k),.sc (.int .i64 n'),.sc (.int .i64 d),.sc (.string s),.ls 5 r z,.sc (.string nm),.sc (.bool ds),.ls 9 q z']] h=some (.sc (.bool (namelessC op nm)),h):=by
 refine pure_calm (n:=n+3) (r:= .sc (.bool (namelessC op nm))) ⟨Tryz.f278.ntmps,(Tryz.f278.body).getD .skip,[.tmp 2]⟩ (by kernel_rfl) (by kernel_rfl) rfl (by kernel_rfl) (by simp[Tryz.f278]) rfl rfl ?_ b h;have f1:=fun b h=>sy_word n b nm h
 have f2:=fun b h=>sy_Arity (n+2) b nm h
 have f3:=fun b h=>sy_Aggregate (n+2) b nm h
 generalize n+3=M at f1 f2 f3⊢;unfold namelessC;generalize wordS nm=w at f1⊢;generalize arS nm=ar at f2⊢;generalize agS nm=ag at f3⊢;obtain⟨lo,hi⟩:=ar;by_cases c2:op=2
 ·subst c2;cases w<;>simp[Tryz.f278,f1]
 by_cases c3:op=3
 ·subst c3;cases w<;>simp[Tryz.f278,f1]
 by_cases c4:op=4
 ·subst c4;cases w<;>simp[Tryz.f278,f1]
 by_cases c23:op=23
 ·subst c23;by_cases e:lo=0<;>simp[Tryz.f278,f2,e]
 by_cases c24:op=24
 ·subst c24;cases ag<;>simp[Tryz.f278,f3]
 simp[Tryz.f278,c2,c3,c4,c23,c24]
mutual
def visX :Ep→Bool→Int
 |
  .mk op v nm ds ks,ag=>
  if op<1∨24<op then 1
  else if opsC op nm ds ks.length=false then 1
  else if spareC op (blankS v) nm ds=false then 1
  else if op=1∧constC v.k (blankS v) (okT v)=false then 8
  else if namelessC op nm=true then 6
  else if op=24∧ag=true then 9
  else visL ks (ag||decide (op=24))
def visL :List Ep→Bool→Int
 | [],_=>0
 |x::xs,ag=>if visX x ag=0 then visL xs ag else visX x ag
end
theorem visL_step {l:List Ep}{i:Nat}{x:Ep}(ag:Bool)(h:l[i]?=some x):visL (l.drop i) ag=if visX x ag=0 then visL (l.drop (i+1)) ag else visX x ag:=by
 obtain⟨k,e⟩:=Za.1 h;rw[Zm k,e,visL]
theorem sy_visit (N D:Nat):∀(d:Nat) (e:Ep),depX e≤d→bdX D e→∀ag b h,callN cx (N+2*D+8+d) b 221 [.ag (encX e),.sc (.bool ag)] h=some (.sc (.int .i64 (visX e ag)),h):=by
 intro d
 induction d with
 |zero=>intro e h;have:=depX_pos e;omega
 |
  succ d ih=>
  intro e de be ag b h;have hcalm:[AV.ag (encX e),.sc (.bool ag)].all calm=true:=by rw[Zn,calm_encX];rfl
  refine pure_calm (n:=N+2*D+8+d) (r:= .sc (.int .i64 (visX e ag))) ⟨Tryz.f221.ntmps,(Tryz.f221.body).getD .skip,[.tmp 4]⟩ (by kernel_rfl) (by kernel_rfl) rfl (by kernel_rfl) (by simp[Tryz.f221]) hcalm rfl ?_ b h;have ho:∀x∈e.ks,∀ag b h,callN cx (N+2*D+8+d) b 221 [.ag (encX x),.sc (.bool ag)] h=some (.sc (.int .i64 (visX x ag)),h):=fun x hx=>ih x (kid_dep de hx) (kid_bd be hx)
  obtain⟨op,v,nm,ds,ks⟩:=e;simp only[Ep.ks]at ho;have hv:=be;rw[bdX]at hv;have fc:=fun b h=>sy_constant (N+d+3) D b v h hv.1.1 hv.1.2
  rw[show N+d+3+2*D+5=N+2*D+8+d by omega]at fc;obtain⟨k,n',d',s,l,rfl,hs,hll⟩:=gdX be;have e1:enc (.mk k n' d' s false l)=[.sc (.int .i64 k),.sc (.int .i64 n'),.sc (.int .i64 d'),.sc (.string s),.ls 5 (encL l) false]:=by rw[enc];rfl
  rw[e1]at fc;have fo:=fun b h=>sy_operands (N+2*D+6+d) b op k n' d' s (encL l) (encXs ks) false false nm ds h
  have fs:=fun b h=>sy_spare (N+2*D+6+d) b op k n' d' s (encL l) (encXs ks) false false nm ds h
  have fn:=fun b h=>sy_nameless (N+2*D+4+d) b op k n' d' s (encL l) (encXs ks) false false nm ds h
  rw[show N+2*D+6+d+2=N+2*D+8+d by omega]at fo fs;rw[show N+2*D+4+d+4=N+2*D+8+d by omega]at fn;rw[encX_gd rfl,visX];have hbl:blankC k n' d' s (encL l).length=blankS (.mk k n' d' s false l):=by rw[encL_length];rfl
  rw[hbl]at fs;have hq:=encXs_length ks;rw[hq]at fo;have hg:=encXs_get ks;generalize encXs ks=rows at hq hg fo fs fn⊢;generalize encL l=r5 at fc fo fs fn⊢;generalize blankS (.mk k n' d' s false l)=bl at fc fs⊢;generalize constC (V.mk k n' d' s false l).k bl (okT (.mk k n' d' s false l))=co at fc⊢;generalize opsC op nm ds ks.length=oo at fo⊢;generalize spareC op bl nm ds=sp at fs⊢;generalize namelessC op nm=nn at fn⊢;generalize N+2*D+8+d=M at ho fc fo fs fn⊢;by_cases c1:op<1
  ·rw[if_pos (.inl c1)];simp[Tryz.f221,c1]
  by_cases c2:24<op
  ·rw[if_pos (.inr c2)];simp[Tryz.f221,c1,c2]
  rw[if_neg (by omega)];cases oo
  ·rw[if_pos rfl];simp[Tryz.f221,c1,c2,fo]
  rw[if_neg (by simp)];cases sp
  ·rw[if_pos rfl];simp[Tryz.f221,c1,c2,fo,fs]
  rw[if_neg (by simp)];by_cases c3:op=1∧co=false
  ·obtain⟨rfl,rfl⟩:=c3;rw[if_pos ⟨rfl,rfl⟩];simp[Tryz.f221,fo,fs,fc]
  rw[if_neg c3];have key:(∃c3a:op=1,co=true)∨¬op=1:=by
   by_cases q:op=1
   ·exact .inl ⟨q,by simpa using fun e=>c3 ⟨q,e⟩⟩
   ·exact .inr q
  cases nn
  ·rw[if_neg (by simp)];by_cases c4:op=24∧ag=true
   ·obtain⟨rfl,rfl⟩:=c4;rw[if_pos ⟨rfl,rfl⟩];simp[Tryz.f221,fo,fs,fn]
   rw[if_neg c4];by_cases c24:op=24
   ·subst c24;have hag:ag=false:=by cases ag with
     |false=>rfl
     |true=>exact absurd ⟨rfl,rfl⟩ c4
    subst hag;simp only[decide_true,Bool.or_true];generalize hT:visL ks true=T;simp[Tryz.f221,fo,fs,fc,fn,hq];refine loop_up (C:=cx) (G:=fun r=>∃h',finX _ (thenX _ _ (blockX _ r) _)=some (_,h'))
     (fun i st=>visL (ks.drop i) true=T∧st.1.length=62∧gt st.1 1= .sc (.bool false)∧gt st.1 2= .pt 0 0∧gt st.1 44= .ls 9 rows false∧gt st.1 45= .sc (.int .i64 (ks.length:Nat))∧gt st.1 46= .sc (.int .i64 (i:Nat))∧∃rest,st.2= .row [.sc (.int .i64 24),.sc (.int .i64 k),.sc (.int .i64 n'),.sc (.int .i64 d'),.sc (.string s),.ls 5 r5 false,.sc (.string nm),.sc (.bool ds),.ls 9 rows false]::rest)
     (fun o s=>s.1.length=62∧((o= .exit 1∧T=0)∨(o= .ret∧gt s.1 4= .sc (.int .i64 T)))) ks.length (by simp;omega) ⟨hT,rfl,rfl,rfl,rfl,rfl,rfl,[],rfl⟩ ?_ ?_
    ·rintro i fr hp hle ⟨hT,hlen,h1,h2,h44,h45,h46,rest,hh⟩;simp only at hlen h1 h2 h44 h45 h46 hh;subst hh;by_cases hi:i<ks.length
     ·obtain⟨x,hx⟩:∃x,ks[i]?=some x:=⟨_,Zb hi⟩;have hr:rows[i]?=some (encX x):=by rw[hg,hx];rfl
      have hr':∀k,rows[i]'k=encX x:=fun k=>by obtain⟨_,e⟩:=Za.1 hr;exact e
      have hw:=fun b h=>ho x (Zi hx) true b h
      have hf:=fit_succ (Yj hle hll);have hev:=encX_length x;have hst:=visL_step true hx;rw[hT]at hst;generalize encX x=ev at hr hr' hw hev;have hev9:ev.take 9=ev:=List.take_of_length_le (by omega);have hsp:=spX9 hev;generalize visX x true=w at hw hst;by_cases hw0:w=0
      ·rw[if_pos hw0]at hst;subst hw0;simp[hlen,h1,h2,h44,h45,h46,hi,hq,hr,hr',hw,hev,hev9,hsp,hf];exact hst.symm
      ·rw[if_neg hw0]at hst;subst hst;simp[hlen,h1,h2,h44,h45,h46,hi,hq,hr,hr',hw,hev,hev9,hsp,hf,hw0]
     ·have hil:i=ks.length:=Yc hle (Yb hi);subst hil;rw[Yd,visL]at hT;subst hT;simp[hlen,h44,h45,h46]
    ·rintro o fr hp hn ⟨hlen,⟨rfl,hT⟩|⟨rfl,h4⟩⟩
     ·simp only at hlen;simp[hlen,hT]
     ·simp only at hlen h4;simp[hlen,h4]
   ·simp only[c24,decide_false,Bool.or_false];generalize hT:visL ks ag=T;rcases key with⟨rfl,rfl⟩|c1n
    ·simp[Tryz.f221,fo,fs,fc,fn,hq];refine loop_up (C:=cx) (G:=fun r=>∃h',finX _ (thenX _ _ (blockX _ r) _)=some (_,h'))
      (fun i st=>visL (ks.drop i) ag=T∧st.1.length=62∧gt st.1 1= .sc (.bool ag)∧gt st.1 2= .pt 0 0∧gt st.1 44= .ls 9 rows false∧gt st.1 45= .sc (.int .i64 (ks.length:Nat))∧gt st.1 46= .sc (.int .i64 (i:Nat))∧∃rest,st.2= .row [.sc (.int .i64 1),.sc (.int .i64 k),.sc (.int .i64 n'),.sc (.int .i64 d'),.sc (.string s),.ls 5 r5 false,.sc (.string nm),.sc (.bool ds),.ls 9 rows false]::rest)
      (fun o s=>s.1.length=62∧((o= .exit 1∧T=0)∨(o= .ret∧gt s.1 4= .sc (.int .i64 T)))) ks.length (by simp;omega) ⟨hT,rfl,rfl,rfl,rfl,rfl,rfl,[],rfl⟩ ?_ ?_
     ·rintro i fr hp hle ⟨hT,hlen,h1,h2,h44,h45,h46,rest,hh⟩;simp only at hlen h1 h2 h44 h45 h46 hh;subst hh;by_cases hi:i<ks.length
      ·obtain⟨x,hx⟩:∃x,ks[i]?=some x:=⟨_,Zb hi⟩;have hr:rows[i]?=some (encX x):=by rw[hg,hx];rfl
       have hr':∀k,rows[i]'k=encX x:=fun k=>by obtain⟨_,e⟩:=Za.1 hr;exact e
       have hw:=fun b h=>ho x (Zi hx) ag b h
       have hf:=fit_succ (Yj hle hll);have hev:=encX_length x;have hst:=visL_step ag hx;rw[hT]at hst;generalize encX x=ev at hr hr' hw hev;have hev9:ev.take 9=ev:=List.take_of_length_le (by omega);have hsp:=spX9 hev;generalize visX x ag=w at hw hst;by_cases hw0:w=0
       ·rw[if_pos hw0]at hst;subst hw0;cases ag<;>simp[hlen,h1,h2,h44,h45,h46,hi,hq,hr,hr',hw,hev,hev9,hsp,hf]
        all_goals exact hst.symm
       ·rw[if_neg hw0]at hst;subst hst;cases ag<;>simp[hlen,h1,h2,h44,h45,h46,hi,hq,hr,hr',hw,hev,hev9,hsp,hf,hw0]
      ·have hil:i=ks.length:=Yc hle (Yb hi);subst hil;rw[Yd,visL]at hT;subst hT;simp[hlen,h44,h45,h46]
     ·rintro o fr hp hn ⟨hlen,⟨rfl,hT⟩|⟨rfl,h4⟩⟩
      ·simp only at hlen;simp[hlen,hT]
      ·simp only at hlen h4;simp[hlen,h4]
    ·simp[Tryz.f221,c1,c2,c1n,c24,fo,fs,fn,hq];refine loop_up (C:=cx) (G:=fun r=>∃h',finX _ (thenX _ _ (blockX _ r) _)=some (_,h'))
      (fun i st=>visL (ks.drop i) ag=T∧st.1.length=62∧gt st.1 1= .sc (.bool ag)∧gt st.1 2= .pt 0 0∧gt st.1 44= .ls 9 rows false∧gt st.1 45= .sc (.int .i64 (ks.length:Nat))∧gt st.1 46= .sc (.int .i64 (i:Nat))∧∃rest,st.2= .row [.sc (.int .i64 op),.sc (.int .i64 k),.sc (.int .i64 n'),.sc (.int .i64 d'),.sc (.string s),.ls 5 r5 false,.sc (.string nm),.sc (.bool ds),.ls 9 rows false]::rest)
      (fun o s=>s.1.length=62∧((o= .exit 1∧T=0)∨(o= .ret∧gt s.1 4= .sc (.int .i64 T)))) ks.length (by simp;omega) ⟨hT,rfl,rfl,rfl,rfl,rfl,rfl,[],rfl⟩ ?_ ?_
     ·rintro i fr hp hle ⟨hT,hlen,h1,h2,h44,h45,h46,rest,hh⟩;simp only at hlen h1 h2 h44 h45 h46 hh;subst hh;by_cases hi:i<ks.length
      ·obtain⟨x,hx⟩:∃x,ks[i]?=some x:=⟨_,Zb hi⟩;have hr:rows[i]?=some (encX x):=by rw[hg,hx];rfl
       have hr':∀k,rows[i]'k=encX x:=fun k=>by obtain⟨_,e⟩:=Za.1 hr;exact e
       have hw:=fun b h=>ho x (Zi hx) ag b h
       have hf:=fit_succ (Yj hle hll);have hev:=encX_length x;have hst:=visL_step ag hx;rw[hT]at hst;generalize encX x=ev at hr hr' hw hev;have hev9:ev.take 9=ev:=List.take_of_length_le (by omega);have hsp:=spX9 hev;generalize visX x ag=w at hw hst;by_cases hw0:w=0
       ·rw[if_pos hw0]at hst;subst hw0;cases ag<;>simp[hlen,h1,h2,h44,h45,h46,hi,hq,hr,hr',hw,hev,hev9,hsp,hf,c24]
        all_goals exact hst.symm
       ·rw[if_neg hw0]at hst;subst hst;cases ag<;>simp[hlen,h1,h2,h44,h45,h46,hi,hq,hr,hr',hw,hev,hev9,hsp,hf,hw0,c24]
      ·have hil:i=ks.length:=Yc hle (Yb hi);subst hil;rw[Yd,visL]at hT;subst hT;simp[hlen,h44,h45,h46]
     ·rintro o fr hp hn ⟨hlen,⟨rfl,hT⟩|⟨rfl,h4⟩⟩
      ·simp only at hlen;simp[hlen,hT]
      ·simp only at hlen h4;simp[hlen,h4]
  ·rw[if_pos rfl];rcases key with⟨rfl,rfl⟩|c1n
   ·simp[Tryz.f221,fo,fs,fc,fn]
   ·simp[Tryz.f221,c1,c2,c1n,fo,fs,fn]
def chkX (e:Ep):Int:=if 24<dpX e then 5 else if 300<szX e then 4 else visX e false
theorem sy_CheckExpr (N D d:Nat)(b:Bool)(e:Ep)(h:Hp)(de:depX e≤d)(be:bdX D e):callN cx (N+2*D+9+d) b 139 [.ag (encX e)] h=some (.sc (.int .i64 (chkX e)),h):=by
 have hcalm:[AV.ag (encX e)].all calm=true:=by rw[Zn,calm_encX];rfl
 rw[show N+2*D+9+d=N+2*D+8+d+1 by omega];refine pure_calm (n:=N+2*D+8+d) (r:= .sc (.int .i64 (chkX e))) ⟨Tryz.f139.ntmps,(Tryz.f139.body).getD .skip,[.tmp 2]⟩ (by kernel_rfl) (by kernel_rfl) rfl (by kernel_rfl) (by simp[Tryz.f139]) hcalm rfl ?_ b h;have f1:=fun b h=>sy_depth D d e de be (N+2*D+7) b h
 have f2:=fun b h=>sy_Size D d e de be (N+2*D+7) b h
 have f3:=fun b h=>sy_visit N D d e de be false b h
 rw[show N+2*D+7+d+1=N+2*D+8+d by omega]at f1 f2;have hev:=encX_length e;unfold chkX;generalize dpX e=p at f1⊢;generalize szX e=q at f2⊢;generalize visX e false=w at f3⊢;generalize N+2*D+8+d=M at f1 f2 f3⊢;generalize encX e=ev at f1 f2 f3 hev⊢;have hev9:ev.take 9=ev:=List.take_of_length_le (by omega);by_cases c1:24<p
 ·simp[Tryz.f139,f1,hev,hev9,c1]
 ·by_cases c2:300<q
  ·simp[Tryz.f139,f1,f2,hev,hev9,c1,c2]
  ·simp[Tryz.f139,f1,f2,f3,hev,hev9,c1,c2]
end
end Go.Proofs.YtmocfjnklfpnbaaGreatDoor
