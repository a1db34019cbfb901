/- Clauses as a Lean type; the number of elements of a clause's lists: the program's crowded. -/
import Derived.Test.YtmocfjnklfpnbaaGreatDoorP24
import Derived.Test.YtmocfjnklfpnbaaGreatDoorP18
import Derived.Test.YtmocfjnklfpnbaaGreatDoorP19
import Derived.Test.YtmocfjnklfpnbaaGreatDoorP20
import Derived.Test.YtmocfjnklfpnbaaGreatDoorP21
set_option linter.all false
set_option maxRecDepth 100000
namespace Go.Proofs.YtmocfjnklfpnbaaGreatDoor
open Go Go.Ae
section
attribute [local simp] aop aopW coldF extF putA ofConst flat scalarOp fastOp binFast intOp strOp guardX Ae.part rowOf szOk natOf lenA cls fillA newsOf isNilC cellX
set_option maxHeartbeats 32000000
structure Ip where
 e:Ep
 nm:ByteArray
structure Op' where
 e:Ep
 desc:Bool
def encIp (x:Ip):List AV:=encX x.e++[.sc (.string x.nm)]
def encOp (x:Op'):List AV:=encX x.e++[.sc (.bool x.desc)]
structure Cp where
 kind:Int
 opt:Bool
 dist:Bool
 paths:List Tp
 wher:List Ep
 e:Ep
 name:ByteArray
 items:List Ip
 order:List Op'
 skip:Int
 limit:Int
 sets:List Sp
 names:List ByteArray
def tpR (l:List Tp):List (List AV):=l.map encTp
def ipR (l:List Ip):List (List AV):=l.map encIp
def opR (l:List Op'):List (List AV):=l.map encOp
def spR (l:List Sp):List (List AV):=l.map encSp
def encCp (c:Cp):List AV:= .sc (.int .i64 c.kind):: .sc (.bool c.opt):: .sc (.bool c.dist):: .ls 3 (tpR c.paths) false:: .ls 9 (encXs c.wher) false::
 (encX c.e++[.sc (.string c.name),.ls 10 (ipR c.items) false,.ls 10 (opR c.order) false,.sc (.int .i64 c.skip),.sc (.int .i64 c.limit),.ls 13 (spR c.sets) false,.ls 1 (tsR c.names) false])
theorem tpR_length (l:List Tp):(tpR l).length=l.length:=by simp[tpR]
theorem tpR_get (l:List Tp)(i:Nat):(tpR l)[i]?=(l[i]?).map encTp:=by simp[tpR]
theorem ipR_length (l:List Ip):(ipR l).length=l.length:=by simp[ipR]
theorem ipR_get (l:List Ip)(i:Nat):(ipR l)[i]?=(l[i]?).map encIp:=by simp[ipR]
theorem opR_length (l:List Op'):(opR l).length=l.length:=by simp[opR]
theorem opR_get (l:List Op')(i:Nat):(opR l)[i]?=(l[i]?).map encOp:=by simp[opR]
theorem spR_length (l:List Sp):(spR l).length=l.length:=by simp[spR]
theorem spR_get (l:List Sp)(i:Nat):(spR l)[i]?=(l[i]?).map encSp:=by simp[spR]
theorem sy_within (n:Nat)(b:Bool)(m lo hi:Int)(h:Hp):callN cx (n+1) b 207 [.sc (.int .i64 m),.sc (.int .i64 lo),.sc (.int .i64 hi)] h=some (.sc (.bool (decide (lo≤m) && decide (m≤hi))),h):=by
 refine pure_calm (r:= .sc (.bool (decide (lo≤m) && decide (m≤hi)))) ⟨Tryz.f207.ntmps,(Tryz.f207.body).getD .skip,[.tmp 6]⟩ (by kernel_rfl) (by kernel_rfl) rfl (by kernel_rfl) (by simp[Tryz.f207]) rfl rfl ?_ b h;by_cases c1:lo≤m
 ·by_cases c2:m≤hi<;>simp[Tryz.f207,c1,c2]
 ·simp[Tryz.f207,c1]
def inC (m k:Nat):Bool:=decide ((1:Int)≤m) && decide ((m:Int)≤k)
def crowC (kind:Int)(np nw ni no ns nn:Nat):Bool:=
 if kind=1∨kind=5 then !inC np 6||decide ((1:Int)<nw)
 else if kind=6 then !decide ((np:Int)=1)
 else if kind=3∨kind=4 then !inC ni 16||(decide ((16:Int)<no)||decide ((1:Int)<nw))
 else if kind=7 then !inC ns 16
 else if kind=8 then !inC nn 16
 else false
theorem sy_crowded (n:Nat)(b:Bool)(c:Cp)(h:Hp):callN cx (n+2) b 136 [.ag (encCp c)] h=some (.sc (.bool (crowC c.kind c.paths.length c.wher.length c.items.length c.order.length c.sets.length c.names.length)),h):=by
 have hcalm:[AV.ag (encCp c)].all calm=true:=by
  have h0:=calm_encX c.e;simp[encCp,calm]at h0⊢;exact h0
 refine pure_calm (n:=n+1) (r:= .sc (.bool (crowC c.kind c.paths.length c.wher.length c.items.length c.order.length c.sets.length c.names.length))) ⟨Tryz.f136.ntmps,(Tryz.f136.body).getD .skip,[.tmp 2]⟩ (by kernel_rfl) (by kernel_rfl) rfl (by kernel_rfl) (by simp[Tryz.f136]) hcalm rfl ?_ b h;have fw:=fun(m lo hi:Int) b h=>sy_within n b m lo hi h
 unfold encCp crowC inC;obtain⟨a0,a1,a2,a3,a4,a5,a6,a7,a8,hev⟩:∃a0 a1 a2 a3 a4 a5 a6 a7 a8,encX c.e=[a0,a1,a2,a3,a4,a5,a6,a7,a8]:=by
  have:=encX_length c.e
  match encX c.e,this with
  | [a0,a1,a2,a3,a4,a5,a6,a7,a8],_=>exact⟨_,_,_,_,_,_,_,_,_,rfl⟩
 rw[hev];have q1:=tpR_length c.paths;have q2:=encXs_length c.wher;have q3:=ipR_length c.items;have q4:=opR_length c.order;have q5:=spR_length c.sets;have q6:=tsR_length c.names;generalize n+1=M at fw⊢;generalize c.kind=kind;generalize tpR c.paths=r1 at q1⊢;generalize encXs c.wher=r2 at q2⊢;generalize ipR c.items=r3 at q3⊢;generalize opR c.order=r4 at q4⊢;generalize spR c.sets=r5 at q5⊢;generalize tsR c.names=r6 at q6⊢;generalize c.paths.length=n1 at q1⊢;generalize c.wher.length=n2 at q2⊢;generalize c.items.length=n3 at q3⊢;generalize c.order.length=n4 at q4⊢;generalize c.sets.length=n5 at q5⊢;generalize c.names.length=n6 at q6⊢;have key:∀(x:Bool),x=true∨x=false:=fun x=>by cases x<;>simp
 by_cases k1:kind=1
 ·subst k1;generalize hx:(decide ((1:Int)≤n1) && decide ((n1:Int)≤(6:Nat)))=x;have fx:=fun b h=>fw n1 1 6 b h
  rw[show(decide ((1:Int)≤n1) && decide ((n1:Int)≤6))=x from hx]at fx;cases x
  ·simp[Tryz.f136,q1,q2,fx]
  ·by_cases d:(1:Int)<n2<;>simp[Tryz.f136,q1,q2,fx,d]
 by_cases k5:kind=5
 ·subst k5;generalize hx:(decide ((1:Int)≤n1) && decide ((n1:Int)≤(6:Nat)))=x;have fx:=fun b h=>fw n1 1 6 b h
  rw[show(decide ((1:Int)≤n1) && decide ((n1:Int)≤6))=x from hx]at fx;cases x
  ·simp[Tryz.f136,q1,q2,fx]
  ·by_cases d:(1:Int)<n2<;>simp[Tryz.f136,q1,q2,fx,d]
 by_cases k6:kind=6
 ·subst k6;by_cases d:(n1:Int)=1<;>simp[Tryz.f136,q1,d]
 generalize hx:(decide ((1:Int)≤n3) && decide ((n3:Int)≤(16:Nat)))=x;have fx:=fun b h=>fw n3 1 16 b h
 rw[show(decide ((1:Int)≤n3) && decide ((n3:Int)≤16))=x from hx]at fx;by_cases k3:kind=3
 ·subst k3;cases x
  ·simp[Tryz.f136,q3,q4,q2,fx]
  ·by_cases d:(16:Int)<n4
   ·simp[Tryz.f136,q3,q4,q2,fx,d]
   ·by_cases d2:(1:Int)<n2<;>simp[Tryz.f136,q3,q4,q2,fx,d,d2]
 by_cases k4:kind=4
 ·subst k4;cases x
  ·simp[Tryz.f136,q3,q4,q2,fx]
  ·by_cases d:(16:Int)<n4
   ·simp[Tryz.f136,q3,q4,q2,fx,d]
   ·by_cases d2:(1:Int)<n2<;>simp[Tryz.f136,q3,q4,q2,fx,d,d2]
 by_cases k7:kind=7
 ·subst k7;generalize hy:(decide ((1:Int)≤n5) && decide ((n5:Int)≤(16:Nat)))=y;have fy:=fun b h=>fw n5 1 16 b h
  rw[show(decide ((1:Int)≤n5) && decide ((n5:Int)≤16))=y from hy]at fy;cases y<;>simp[Tryz.f136,q5,fy]
 by_cases k8:kind=8
 ·subst k8;generalize hy:(decide ((1:Int)≤n6) && decide ((n6:Int)≤(16:Nat)))=y;have fy:=fun b h=>fw n6 1 16 b h
  rw[show(decide ((1:Int)≤n6) && decide ((n6:Int)≤16))=y from hy]at fy;cases y<;>simp[Tryz.f136,q6,fy]
 simp[Tryz.f136,k1,k3,k4,k5,k6,k7,k8]
end
section
attribute [local simp] aop aopW coldF extF putA ofConst flat scalarOp fastOp binFast intOp strOp guardX Ae.part rowOf szOk natOf lenA cls fillA splice newsOf isNilC cellX
set_option maxHeartbeats 16000000
def nrI (x:Int):List AV:=[.sc (.int .i64 x)]
def ntI (l:List Int):List (List AV):=l.map nrI
theorem ntI_length (l:List Int):(ntI l).length=l.length:=by simp[ntI]
theorem ntI_get (l:List Int)(i:Nat):(ntI l)[i]?=(l[i]?).map nrI:=by simp[ntI]
def jxI :List Int→Int→Nat→Int
 | [],_,_=> -1
 |y::l,x,i=>if x=y then i else jxI l x (i+1)
def jxID (l:List Int)(x:Int)(i:Nat):Int:=jxI (l.drop i) x i
theorem jxID_end (l:List Int)(x:Int)(i:Nat)(h:l.length≤i):jxID l x i= -1:=by unfold jxID;rw[Zt h];rfl
theorem jxID_step {l:List Int}{x:Int}{i:Nat}{c:Int}(h:l[i]?=some c):jxID l x i=if x=c then(i:Int)else jxID l x (i+1):=by
 obtain⟨k,e⟩:=Za.1 h;unfold jxID;rw[Zm k,e];rfl
theorem n_Index (n:Nat)(b:Bool)(l:List Int)(z:Bool)(x:Int)(h:Hp)(hl:l.length≤1000000000000000):callN cx (n+1) b 270 [.ls 1 (ntI l) z,.sc (.int .i64 x)] h=some (.sc (.int .i64 (jxI l x 0)),h):=by
 refine pure_calm (n:=n) (r:= .sc (.int .i64 (jxI l x 0))) ⟨Tryz.f270.ntmps,(Tryz.f270.body).getD .skip,[.tmp 4]⟩ (by kernel_rfl) (by kernel_rfl) rfl (by kernel_rfl) (by simp[Tryz.f270]) rfl rfl ?_ b h;have hq:=ntI_length l;have hg:=ntI_get l;generalize ntI l=rows at hq hg;generalize hd:jxI l x 0=v;have hd0:v=jxID l x 0:=hd.symm;simp[Tryz.f270,hq];refine loop_up (C:=cx) (G:=fun r=>∃x,finX _ (thenX _ _ (blockX _ r) _)=some (_,x))
  (fun i s=>v=jxID l x i∧s.1.length=19∧gt s.1 0= .ls 1 rows z∧gt s.1 1= .sc (.int .i64 x)∧gt s.1 7= .sc (.int .i64 l.length)∧gt s.1 8= .sc (.int .i64 i))
  (fun o s=>s.1.length=19∧((o= .exit 0∧v= -1)∨(o= .ret∧gt s.1 4= .sc (.int .i64 v)))) l.length (by simp;omega) (by simp[hd0]) ?_ ?_
 ·rintro i fr h hle ⟨ho,hlen,h0,h1,h7,h8⟩;simp only at hlen h0 h1 h7 h8;have hi6:i≤1000000000000000:=by omega
  by_cases hi:i<l.length
  ·obtain⟨c,hx⟩:∃c,l[i]?=some c:=⟨_,Zb hi⟩;have hr:rows[i]?=some [.sc (.int .i64 c)]:=by rw[hg,hx];rfl
   have hr':∀k,rows[i]'k=[.sc (.int .i64 c)]:=fun k=>by obtain⟨_,e⟩:=Za.1 hr;exact e
   rw[jxID_step hx]at ho;by_cases hk:x=c
   ·rw[if_pos hk]at ho;simp[hlen,h0,h1,h7,h8,hi,hq,hr,hr',hk,ho]
   ·rw[if_neg hk]at ho;simp[hlen,h0,h1,h7,h8,hi,hq,hr,hr',hk,fit_succ hi6];exact ho
  ·have zz:v= -1:=by rw[ho,jxID_end l x i (by omega)]
   simp[hlen,h0,h1,h7,h8,hi,hq,zz]
 ·rintro o fr h hn ⟨hlen,⟨rfl,hz⟩|⟨rfl,h2⟩⟩
  ·simp only at hlen;simp[hlen,hz]
  ·simp only at h2;simp[h2]
theorem jxI_has (x:Int):∀(l:List Int) (i:Nat),decide (0≤jxI l x i)=decide (x∈l)
 | [],_=>rfl
 |
  y::l,i=>by
  unfold jxI;by_cases h:x=y
  ·subst h;simp
  ·rw[if_neg h,jxI_has x l (i+1)];simp[h]
theorem n_Contains (n:Nat)(b:Bool)(l:List Int)(z:Bool)(x:Int)(h:Hp)(hl:l.length≤1000000000000000):callN cx (n+2) b 204 [.ls 1 (ntI l) z,.sc (.int .i64 x)] h=some (.sc (.bool (decide (x∈l))),h):=by
 refine pure_calm (r:= .sc (.bool (decide (x∈l)))) (n:=n+1) ⟨Tryz.f204.ntmps,(Tryz.f204.body).getD .skip,[.tmp 4]⟩ (by kernel_rfl) (by kernel_rfl) rfl (by kernel_rfl) (by simp[Tryz.f204]) rfl rfl ?_ b h;have f1:=fun b h=>n_Index n b l z x h hl
 have f2:=jxI_has x l 0;generalize jxI l x 0=r at f1 f2;generalize decide (x∈l)=w at f2;subst f2;simp[Tryz.f204,f1]
end
section
attribute [local simp] aop aopW coldF extF putA ofConst flat scalarOp fastOp binFast intOp strOp guardX Ae.part rowOf szOk natOf lenA cls fillA newsOf isNilC cellX
set_option maxHeartbeats 16000000
theorem sy_is (n:Nat)(t:Bool)(kind:Int)(r:List AV)(K:List Int)(h:Hp)(hK:K.length≤1000000000000000)(h0:h[0]?=some (.row (.sc (.int .i64 kind)::r))):callN cx (n+3) t 203 [.ls 1 (ntI K) true,.pt 0 0] h=some (.sc (.bool (decide (kind∈K))),h):=by
 rw[call_inl (n:=n+2) ⟨Tryz.f203.ntmps,(Tryz.f203.body).getD .skip,[.tmp 3]⟩ rfl (by kernel_rfl) (by kernel_rfl) (by kernel_rfl) (by kernel_rfl) (by simp[Tryz.f203])];have fC:=fun b=>n_Contains n b K true kind h hK
 generalize decide (kind∈K)=w at fC⊢;generalize ntI K=rows at fC⊢;simp[Tryz.f203,h0,fC]
def cL :Code→Code| .seq a _=>a| .block _ a=>a| .cond _ a _=>a| .loop a=>a|c=>c
def cR :Code→Code| .seq _ b=>b| .cond _ _ b=>b|c=>c
end
@[simp] theorem T_qPt :cx.T 273=some {size:=3,agg:=true,zero:=[.string ⟨#[]⟩,.slice none 0 0,.slice none 0 0],kd:= .struct [(0,1,false),(1,1,false),(2,1,false)]}:=by kernel_rfl
@[simp] theorem T_qPts :cx.T 270=some {size:=1,agg:=false,zero:=[.slice none 0 0],kd:= .slice 3 true 64 [.string ⟨#[]⟩,.slice none 0 0,.slice none 0 0]}:=by kernel_rfl
@[simp] theorem L_qPts :isSlT cx 270=true:=by kernel_rfl
@[simp] theorem T_qLi :cx.T 210=some {size:=1,agg:=true,zero:=[.int .i64 0],kd:= .struct [(0,1,false)]}:=by kernel_rfl
@[simp] theorem T_qBi :cx.T 120=some {size:=3,agg:=true,zero:=[.slice none 0 0,.slice none 0 0,.int .i64 0],kd:= .struct [(0,1,false),(1,1,false),(2,1,false)]}:=by kernel_rfl
@[simp] theorem T_qSc :cx.T 118=some {size:=1,agg:=false,zero:=[.slice none 0 0],kd:= .slice 2 true 24 [.string ⟨#[]⟩,.int .i64 0]}:=by kernel_rfl
@[simp] theorem L_qSc :isSlT cx 118=true:=by kernel_rfl
@[simp] theorem T_qRe :cx.T 82=some {size:=1,agg:=false,zero:=[.slice none 0 0],kd:= .slice 8 true 104 [.int .i64 0,.string ⟨#[]⟩,.string ⟨#[]⟩,.int .i64 0,.int .i64 0,.int .i64 0,.string ⟨#[]⟩,.slice none 0 0]}:=by kernel_rfl
@[simp] theorem L_qRe :isSlT cx 82=true:=by kernel_rfl
@[simp] theorem T_qKi :cx.T 124=some {size:=1,agg:=false,zero:=[.slice none 0 0],kd:= .slice 2 true 24 [.string ⟨#[]⟩,.int .i64 0]}:=by kernel_rfl
@[simp] theorem L_qKi :isSlT cx 124=true:=by kernel_rfl
@[simp] theorem T_qEr :cx.T 28=some {size:=1,agg:=false,zero:=[.int .i64 0],kd:= .prim}:=by kernel_rfl
@[simp] theorem T_qMp :cx.T 275=some {size:=1,agg:=false,zero:=[.map none],kd:= .prim}:=by kernel_rfl
@[simp] theorem M_qMp :isMapS cx 275=true:=by kernel_rfl
@[simp] theorem T_qFx :cx.T 125=some {size:=1,agg:=false,zero:=[.nilFunc],kd:= .prim}:=by kernel_rfl
section
attribute [local simp] aop aopW coldF extF putA ofConst flat scalarOp fastOp binFast intOp strOp guardX Ae.part rowOf szOk natOf lenA cls fillA newsOf isNilC cellX coldA chunk splice calm
set_option maxHeartbeats 16000000
def lowC (x:Int):Bool:=decide (x< -1)||decide (1000000000000000<x)
def awayC (x:Int):Bool:= !(decide (x=0)||decide (x= -1))
def strayC (c:Cp):Bool:=
 (c.opt && !decide (c.kind∈ [1,8])||c.dist && !decide (c.kind∈ [3,4]))||
 ((decide (0<c.paths.length) && !decide (c.kind∈ [1,5,6])||decide (0<c.wher.length) && !decide (c.kind∈ [1,3]))||
 ((!decide (c.kind∈ [2]) && (!zeX c.e|| !eqS c.name ⟨#[]⟩)|| !decide (c.kind∈ [3,4]) && (decide (0<c.items.length)||decide (0<c.order.length)))||
 ((!decide (c.kind∈ [3,4]) && (awayC c.skip||awayC c.limit)||(lowC c.skip||lowC c.limit))||
 (decide (0<c.sets.length) && !decide (c.kind∈ [7])||decide (0<c.names.length) && !decide (c.kind∈ [8])))))
def GX (cal:Bool→Cal)(Y:Code)(w:Bool)(h0:Hp)(r:Option (Out × St)):Prop:=finX [.tmp 2] (thenX cx cal (blockX 0 r) Y)=some (.sc (.bool w),h0)
theorem GX_ret {cal:Bool→Cal}{Y:Code}{w:Bool}{h0:Hp}{fr:List AV}(h:gt fr 2= .sc (.bool w)):GX cal Y w h0 (some (.ret,(fr,h0))):=by
 unfold GX blockX thenX finX;simp[h]
def SY (w:Bool)(fr:List AV):Prop:=fr.length=130∧gt fr 1= .pt 0 0∧gt fr 3= .fn 203 [.pt 0 0]∧gt fr 4= .sc (.bool w)
theorem sy_stray (n D:Nat)(b:Bool)(c:Cp)(h:Hp)(be:bdX D c.e):callN cx (n+4) b 135 [.ag (encCp c)] h=some (.sc (.bool (strayC c)),h):=by
 have hcalm:[AV.ag (encCp c)].all calm=true:=by
  have h0:=calm_encX c.e;simp[encCp,calm]at h0⊢;exact h0
 refine pure_calm (n:=n+3) (r:= .sc (.bool (strayC c))) ⟨Tryz.f135.ntmps,(Tryz.f135.body).getD .skip,[.tmp 2]⟩ (by kernel_rfl) (by kernel_rfl) rfl (by kernel_rfl) (by simp[Tryz.f135]) hcalm rfl ?_ b h;have fz:=fun b h=>sy_zeroE (n+1) D b c.e h be
 have fa:=fun m b h=>sy_absent (n+2) b m h
 have fis:=fun(K:List Int) b (hK:K.length≤1000000000000000)=>sy_is n b c.kind (encCp c).tail K [.row (encCp c)] hK rfl
 have f18:=fun b=>fis [1,8] b (by simp)
 have f34:=fun b=>fis [3,4] b (by simp)
 have f156:=fun b=>fis [1,5,6] b (by simp)
 have f13:=fun b=>fis [1,3] b (by simp)
 have f2:=fun b=>fis [2] b (by simp)
 have f7:=fun b=>fis [7] b (by simp)
 have f8:=fun b=>fis [8] b (by simp)
 clear fis;unfold strayC awayC;unfold encCp at f18 f34 f156 f13 f2 f7 f8⊢;have hev:=encX_length c.e;have hq1:=tpR_length c.paths;have hq2:=encXs_length c.wher;have hq3:=ipR_length c.items;have hq4:=opR_length c.order;have hq5:=spR_length c.sets;have hq6:=tsR_length c.names;generalize tpR c.paths=r1 at hq1 f18 f34 f156 f13 f2 f7 f8⊢;generalize encXs c.wher=r2 at hq2 f18 f34 f156 f13 f2 f7 f8⊢;generalize ipR c.items=r3 at hq3 f18 f34 f156 f13 f2 f7 f8⊢;generalize opR c.order=r4 at hq4 f18 f34 f156 f13 f2 f7 f8⊢;generalize spR c.sets=r5 at hq5 f18 f34 f156 f13 f2 f7 f8⊢;generalize tsR c.names=r6 at hq6 f18 f34 f156 f13 f2 f7 f8⊢;generalize decide (c.kind∈ [1,8])=w18 at f18⊢;generalize decide (c.kind∈ [3,4])=w34 at f34⊢;generalize decide (c.kind∈ [1,5,6])=w156 at f156⊢;generalize decide (c.kind∈ [1,3])=w13 at f13⊢;generalize decide (c.kind∈ [2])=w2 at f2⊢;generalize decide (c.kind∈ [7])=w7 at f7⊢;generalize decide (c.kind∈ [8])=w8 at f8⊢;obtain⟨a0,a1,a2,a3,a4,a5,a6,a7,a8,he9⟩:∃a0 a1 a2 a3 a4 a5 a6 a7 a8,encX c.e=[a0,a1,a2,a3,a4,a5,a6,a7,a8]:=by
  match encX c.e,hev with
  | [a0,a1,a2,a3,a4,a5,a6,a7,a8],_=>exact⟨_,_,_,_,_,_,_,_,_,rfl⟩
 clear hcalm hev;rw[he9]at fz f18 f34 f156 f13 f2 f7 f8⊢;clear he9;have fa1:=fa c.skip;have fa2:=fa c.limit;clear fa;generalize zeX c.e=ze at fz⊢;generalize he:eqS c.name ⟨#[]⟩=en;generalize(decide (c.skip=0)||decide (c.skip= -1))=s1 at fa1⊢;generalize(decide (c.limit=0)||decide (c.limit= -1))=s2 at fa2⊢;generalize c.paths.length=n1 at hq1⊢;generalize c.wher.length=n2 at hq2⊢;generalize c.items.length=n3 at hq3⊢;generalize c.order.length=n4 at hq4⊢;generalize c.sets.length=n5 at hq5⊢;generalize c.names.length=n6 at hq6⊢;generalize c.kind=kd at *;generalize c.opt=op at *;generalize c.dist=ds at *;generalize c.skip=sk at *;generalize c.limit=li at *;generalize c.name=nm at *;simp only[ntI,nrI,List.map_cons,List.map_nil]at f18 f34 f156 f13 f2 f7 f8;generalize hh:([.row (.sc (.int .i64 kd):: .sc (.bool op):: .sc (.bool ds):: .ls 3 r1 false:: .ls 9 r2 false::([a0,a1,a2,a3,a4,a5,a6,a7,a8]++[.sc (.string nm),.ls 10 r3 false,.ls 10 r4 false,.sc (.int .i64 sk),.sc (.int .i64 li),.ls 13 r5 false,.ls 1 r6 false]))]:Hp)=h0 at f18 f34 f156 f13 f2 f7 f8;simp only[Zv,Zw]at hh;have st5:∀fr,SY w34 fr→GX (callN cx (n+3)) (cR (cR (cR (cR ((Tryz.f135.body).getD .skip))))) (decide (0<n5) && !w7||decide (0<n6) && !w8) h0 (some (.normal,(fr,h0))):=by
  rintro fr ⟨hlen,h1,h3,h4⟩;unfold GX;subst hh
  ·by_cases e5:0<n5
   ·cases w7
    ·simp[cL,cR,Tryz.f135,hlen,h1,h3,h4,f7,f8,hq5,hq6,e5]
    ·by_cases e6:0<n6
     ·cases w8
      ·simp[cL,cR,Tryz.f135,hlen,h1,h3,h4,f7,f8,hq5,hq6,e5,e6]
      ·simp[cL,cR,Tryz.f135,hlen,h1,h3,h4,f7,f8,hq5,hq6,e5,e6]
     ·simp[cL,cR,Tryz.f135,hlen,h1,h3,h4,f7,f8,hq5,hq6,e5,e6]
   ·by_cases e6:0<n6
    ·cases w8
     ·simp[cL,cR,Tryz.f135,hlen,h1,h3,h4,f7,f8,hq5,hq6,e5,e6]
     ·simp[cL,cR,Tryz.f135,hlen,h1,h3,h4,f7,f8,hq5,hq6,e5,e6]
    ·simp[cL,cR,Tryz.f135,hlen,h1,h3,h4,f7,f8,hq5,hq6,e5,e6]
 generalize hY:cR (cR (cR (cR ((Tryz.f135.body).getD .skip))))=Y at st5;have st4:∀X T,(∀fr,SY w34 fr→GX (callN cx (n+3)) Y T h0 (exec2 cx (callN cx (n+3)) X (fr,h0)))→∀fr,SY w34 fr→GX (callN cx (n+3)) Y ((!w34 && (!s1|| !s2)||(lowC sk||lowC li))||T) h0 (exec2 cx (callN cx (n+3)) (.seq (cL (cR (cR (cR (cR (cR (cR (cL (cL (cR (cR (cR ((Tryz.f135.body).getD .skip))))))))))))) (.cond (.tmp 75) (cL (cR (cR (cR (cR (cR (cR (cR (cL (cL (cR (cR (cR ((Tryz.f135.body).getD .skip)))))))))))))) X)) (fr,h0)):=by
  rintro X T hX fr ⟨hlen,h1,h3,h4⟩;subst hh
  ·cases w34
   ·cases s1
    ·simp[cL,cR,Tryz.f135,SY,hlen,h1,h3,h4,fa1,fa2,lowC];exact GX_ret (by simp[hlen])
    ·cases s2
     ·simp[cL,cR,Tryz.f135,SY,hlen,h1,h3,h4,fa1,fa2,lowC];exact GX_ret (by simp[hlen])
     ·by_cases l1:sk< -1
      ·simp[cL,cR,Tryz.f135,SY,hlen,h1,h3,h4,fa1,fa2,lowC,l1];exact GX_ret (by simp[hlen])
      ·by_cases l2:1000000000000000<sk
       ·simp[cL,cR,Tryz.f135,SY,hlen,h1,h3,h4,fa1,fa2,lowC,l1,l2];exact GX_ret (by simp[hlen])
       ·by_cases l3:li< -1
        ·simp[cL,cR,Tryz.f135,SY,hlen,h1,h3,h4,fa1,fa2,lowC,l1,l2,l3];exact GX_ret (by simp[hlen])
        ·by_cases l4:1000000000000000<li
         ·simp[cL,cR,Tryz.f135,SY,hlen,h1,h3,h4,fa1,fa2,lowC,l1,l2,l3,l4];exact GX_ret (by simp[hlen])
         ·simp[cL,cR,Tryz.f135,SY,hlen,h1,h3,h4,fa1,fa2,lowC,l1,l2,l3,l4];exact hX _ ⟨by simp[hlen],by simp[hlen,h1],by simp[hlen,h3],by simp[hlen,h4]⟩
   ·by_cases l1:sk< -1
    ·simp[cL,cR,Tryz.f135,SY,hlen,h1,h3,h4,fa1,fa2,lowC,l1];exact GX_ret (by simp[hlen])
    ·by_cases l2:1000000000000000<sk
     ·simp[cL,cR,Tryz.f135,SY,hlen,h1,h3,h4,fa1,fa2,lowC,l1,l2];exact GX_ret (by simp[hlen])
     ·by_cases l3:li< -1
      ·simp[cL,cR,Tryz.f135,SY,hlen,h1,h3,h4,fa1,fa2,lowC,l1,l2,l3];exact GX_ret (by simp[hlen])
      ·by_cases l4:1000000000000000<li
       ·simp[cL,cR,Tryz.f135,SY,hlen,h1,h3,h4,fa1,fa2,lowC,l1,l2,l3,l4];exact GX_ret (by simp[hlen])
       ·simp[cL,cR,Tryz.f135,SY,hlen,h1,h3,h4,fa1,fa2,lowC,l1,l2,l3,l4];exact hX _ ⟨by simp[hlen],by simp[hlen,h1],by simp[hlen,h3],by simp[hlen,h4]⟩
 have st3:∀X T,(∀fr,SY w34 fr→GX (callN cx (n+3)) Y T h0 (exec2 cx (callN cx (n+3)) X (fr,h0)))→∀fr,SY w34 fr→GX (callN cx (n+3)) Y ((!w2 && (!ze|| !en)|| !w34 && (decide (0<n3)||decide (0<n4)))||T) h0 (exec2 cx (callN cx (n+3)) (.seq (cL (cR (cR (cR (cR (cL (cL (cR (cR (cR ((Tryz.f135.body).getD .skip))))))))))) (.cond (.tmp 45) (cL (cR (cR (cR (cR (cR (cL (cL (cR (cR (cR ((Tryz.f135.body).getD .skip)))))))))))) X)) (fr,h0)):=by
  rintro X T hX fr ⟨hlen,h1,h3,h4⟩;subst hh
  ·cases w2
   ·cases ze
    ·simp[cL,cR,Tryz.f135,SY,hlen,h1,h3,h4,f2,fz,he,hq3,hq4];exact GX_ret (by simp[hlen])
    ·cases en
     ·simp[cL,cR,Tryz.f135,SY,hlen,h1,h3,h4,f2,fz,he,hq3,hq4];exact GX_ret (by simp[hlen])
     ·cases w34
      ·by_cases e3:0<n3
       ·simp[cL,cR,Tryz.f135,SY,hlen,h1,h3,h4,f2,fz,he,hq3,hq4,e3];exact GX_ret (by simp[hlen])
       ·by_cases e4:0<n4
        ·simp[cL,cR,Tryz.f135,SY,hlen,h1,h3,h4,f2,fz,he,hq3,hq4,e3,e4];exact GX_ret (by simp[hlen])
        ·simp[cL,cR,Tryz.f135,SY,hlen,h1,h3,h4,f2,fz,he,hq3,hq4,e3,e4];exact hX _ ⟨by simp[hlen],by simp[hlen,h1],by simp[hlen,h3],by simp[hlen,h4]⟩
      ·simp[cL,cR,Tryz.f135,SY,hlen,h1,h3,h4,f2,fz,he,hq3,hq4];exact hX _ ⟨by simp[hlen],by simp[hlen,h1],by simp[hlen,h3],by simp[hlen,h4]⟩
   ·cases w34
    ·by_cases e3:0<n3
     ·simp[cL,cR,Tryz.f135,SY,hlen,h1,h3,h4,f2,fz,he,hq3,hq4,e3];exact GX_ret (by simp[hlen])
     ·by_cases e4:0<n4
      ·simp[cL,cR,Tryz.f135,SY,hlen,h1,h3,h4,f2,fz,he,hq3,hq4,e3,e4];exact GX_ret (by simp[hlen])
      ·simp[cL,cR,Tryz.f135,SY,hlen,h1,h3,h4,f2,fz,he,hq3,hq4,e3,e4];exact hX _ ⟨by simp[hlen],by simp[hlen,h1],by simp[hlen,h3],by simp[hlen,h4]⟩
    ·simp[cL,cR,Tryz.f135,SY,hlen,h1,h3,h4,f2,fz,he,hq3,hq4];exact hX _ ⟨by simp[hlen],by simp[hlen,h1],by simp[hlen,h3],by simp[hlen,h4]⟩
 have st2:∀X T,(∀fr,SY w34 fr→GX (callN cx (n+3)) Y T h0 (exec2 cx (callN cx (n+3)) X (fr,h0)))→∀fr,SY w34 fr→GX (callN cx (n+3)) Y ((decide (0<n1) && !w156||decide (0<n2) && !w13)||T) h0 (exec2 cx (callN cx (n+3)) (.seq (cL (cR (cR (cL (cL (cR (cR (cR ((Tryz.f135.body).getD .skip))))))))) (.cond (.tmp 24) (cL (cR (cR (cR (cL (cL (cR (cR (cR ((Tryz.f135.body).getD .skip)))))))))) X)) (fr,h0)):=by
  rintro X T hX fr ⟨hlen,h1,h3,h4⟩;subst hh
  ·by_cases e1:0<n1
   ·cases w156
    ·simp[cL,cR,Tryz.f135,SY,hlen,h1,h3,h4,f156,f13,hq1,hq2,e1];exact GX_ret (by simp[hlen])
    ·by_cases e2:0<n2
     ·cases w13
      ·simp[cL,cR,Tryz.f135,SY,hlen,h1,h3,h4,f156,f13,hq1,hq2,e1,e2];exact GX_ret (by simp[hlen])
      ·simp[cL,cR,Tryz.f135,SY,hlen,h1,h3,h4,f156,f13,hq1,hq2,e1,e2];exact hX _ ⟨by simp[hlen],by simp[hlen,h1],by simp[hlen,h3],by simp[hlen,h4]⟩
     ·simp[cL,cR,Tryz.f135,SY,hlen,h1,h3,h4,f156,f13,hq1,hq2,e1,e2];exact hX _ ⟨by simp[hlen],by simp[hlen,h1],by simp[hlen,h3],by simp[hlen,h4]⟩
   ·by_cases e2:0<n2
    ·cases w13
     ·simp[cL,cR,Tryz.f135,SY,hlen,h1,h3,h4,f156,f13,hq1,hq2,e1,e2];exact GX_ret (by simp[hlen])
     ·simp[cL,cR,Tryz.f135,SY,hlen,h1,h3,h4,f156,f13,hq1,hq2,e1,e2];exact hX _ ⟨by simp[hlen],by simp[hlen,h1],by simp[hlen,h3],by simp[hlen,h4]⟩
    ·simp[cL,cR,Tryz.f135,SY,hlen,h1,h3,h4,f156,f13,hq1,hq2,e1,e2];exact hX _ ⟨by simp[hlen],by simp[hlen,h1],by simp[hlen,h3],by simp[hlen,h4]⟩
 have st1:∀X T,(∀fr,SY w34 fr→GX (callN cx (n+3)) Y T h0 (exec2 cx (callN cx (n+3)) X (fr,h0)))→∀fr,SY w34 fr→GX (callN cx (n+3)) Y ((op && !w18||ds && !w34)||T) h0 (exec2 cx (callN cx (n+3)) (.seq (cL (cL (cL (cR (cR (cR ((Tryz.f135.body).getD .skip))))))) (.cond (.tmp 9) (cL (cR (cL (cL (cR (cR (cR ((Tryz.f135.body).getD .skip)))))))) X)) (fr,h0)):=by
  rintro X T hX fr ⟨hlen,h1,h3,h4⟩;subst hh
  ·cases op
   ·cases ds
    ·simp[cL,cR,Tryz.f135,SY,hlen,h1,h3,h4,f18,f34];exact hX _ ⟨by simp[hlen],by simp[hlen,h1],by simp[hlen,h3],by simp[hlen,h4]⟩
    ·cases w34
     ·simp[cL,cR,Tryz.f135,SY,hlen,h1,h3,h4,f18,f34];exact GX_ret (by simp[hlen])
     ·simp[cL,cR,Tryz.f135,SY,hlen,h1,h3,h4,f18,f34];exact hX _ ⟨by simp[hlen],by simp[hlen,h1],by simp[hlen,h3],by simp[hlen,h4]⟩
   ·cases w18
    ·simp[cL,cR,Tryz.f135,SY,hlen,h1,h3,h4,f18,f34];exact GX_ret (by simp[hlen])
    ·cases ds
     ·simp[cL,cR,Tryz.f135,SY,hlen,h1,h3,h4,f18,f34];exact hX _ ⟨by simp[hlen],by simp[hlen,h1],by simp[hlen,h3],by simp[hlen,h4]⟩
     ·cases w34
      ·simp[cL,cR,Tryz.f135,SY,hlen,h1,h3,h4,f18,f34];exact GX_ret (by simp[hlen])
      ·simp[cL,cR,Tryz.f135,SY,hlen,h1,h3,h4,f18,f34];exact hX _ ⟨by simp[hlen],by simp[hlen,h1],by simp[hlen,h3],by simp[hlen,h4]⟩
 have go:=st1 _ _ (st2 _ _ (st3 _ _ (st4 .skip _ st5)));have hB:(Tryz.f135.body).getD .skip= .seq (cL ((Tryz.f135.body).getD .skip)) (.seq (cL (cR ((Tryz.f135.body).getD .skip))) (.seq (cL (cR (cR ((Tryz.f135.body).getD .skip)))) (.seq (.block 0 (.seq (cL (cL (cL (cR (cR (cR ((Tryz.f135.body).getD .skip))))))) (.cond (.tmp 9) (cL (cR (cL (cL (cR (cR (cR ((Tryz.f135.body).getD .skip)))))))) (.seq (cL (cR (cR (cL (cL (cR (cR (cR ((Tryz.f135.body).getD .skip))))))))) (.cond (.tmp 24) (cL (cR (cR (cR (cL (cL (cR (cR (cR ((Tryz.f135.body).getD .skip)))))))))) (.seq (cL (cR (cR (cR (cR (cL (cL (cR (cR (cR ((Tryz.f135.body).getD .skip))))))))))) (.cond (.tmp 45) (cL (cR (cR (cR (cR (cR (cL (cL (cR (cR (cR ((Tryz.f135.body).getD .skip)))))))))))) (.seq (cL (cR (cR (cR (cR (cR (cR (cL (cL (cR (cR (cR ((Tryz.f135.body).getD .skip))))))))))))) (.cond (.tmp 75) (cL (cR (cR (cR (cR (cR (cR (cR (cL (cL (cR (cR (cR ((Tryz.f135.body).getD .skip)))))))))))))) .skip))))))))) Y))):=by subst hY;kernel_rfl
 obtain⟨fr1,hS,e1⟩:∃fr1,SY w34 fr1∧∀Z,exec2 cx (callN cx (n+3)) (.seq (cL ((Tryz.f135.body).getD .skip)) (.seq (cL (cR ((Tryz.f135.body).getD .skip))) (.seq (cL (cR (cR ((Tryz.f135.body).getD .skip)))) Z))) ([.ag [.sc (.int .i64 kd),.sc (.bool op),.sc (.bool ds),.ls 3 r1 false,.ls 9 r2 false,a0,a1,a2,a3,a4,a5,a6,a7,a8,.sc (.string nm),.ls 10 r3 false,.ls 10 r4 false,.sc (.int .i64 sk),.sc (.int .i64 li),.ls 13 r5 false,.ls 1 r6 false]]++List.replicate 129 .un,[])=exec2 cx (callN cx (n+3)) Z (fr1,h0):=by
  subst hh;apply Exists.intro;apply And.intro
  rotate_left
  ·intro Z;simp[cL,cR,Tryz.f135,f34];exact rfl
  ·exact⟨by simp,by simp,by simp,by simp⟩
 have fin:=go fr1 hS;unfold GX at fin;show(finX _ (exec2 cx (callN cx (n+3)) ((Tryz.f135.body).getD .skip) _)).map Prod.fst=_;rw[hB]
 erw [e1]
 rw[exec2_seq,exec2_block]
 erw [fin]
 rfl
end
end Go.Proofs.YtmocfjnklfpnbaaGreatDoor
