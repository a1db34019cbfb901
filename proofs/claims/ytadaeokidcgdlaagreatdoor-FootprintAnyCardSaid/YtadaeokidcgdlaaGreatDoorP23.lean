/- Changes: their parts. -/
import Derived.Test.YtadaeokidcgdlaaGreatDoorP22
set_option linter.unusedSimpArgs false
set_option maxRecDepth 100000
namespace Go.Proofs.YtadaeokidcgdlaaGreatDoor
open Go Go.Ae
section
attribute [local simp] aop aopW coldF extF putA ofConst flat scalarOp fastOp binFast intOp strOp guardX Ae.part rowOf szOk natOf lenA cls fillA splice newsOf isNilC cellX
set_option maxHeartbeats 8000000
structure Ch where
 k:Int
 a:Int
 b:Int
 c:Int
 name:ByteArray
 v:V
def encC (c:Ch):List AV:=[.sc (.int .i64 c.k),.sc (.int .i64 c.a),.sc (.int .i64 c.b),.sc (.int .i64 c.c),.sc (.string c.name)]++enc c.v
@[simp] theorem encC_length (c:Ch):(encC c).length=10:=by simp[encC]
theorem calm_encC (c:Ch):[AV.ag (encC c)].all calm=true:=by
 obtain⟨k,a,b,d,name,v⟩:=c;cases v with
 |mk k' n' d' s' z' l'=>simp only[encC,enc,Zn,List.all_nil,Bool.and_true,calm,lsV];cases z' && (encL l').isEmpty<;>rfl
@[simp] theorem enc_take (v:V):(enc v).take 5=enc v:=List.take_of_length_le (by simp)
def idS (x:Int):Bool:=decide (1≤x) && decide (x≤1000000)
def namedS (k:Int):Bool:=decide (k=3)||decide (k=4)||decide (k=5)||decide (k=6)||decide (k=8)
def valuedS (k:Int):Bool:=decide (k=5)||decide (k=8)
def zeroV :V:= .mk 0 0 0 ⟨#[]⟩ true []
def nullS (v:V):Bool:=decide (ordV v zeroV=0)
theorem bdV_zero :bdV zeroV:=⟨by decide,by decide,trivial⟩
theorem calm_int (x:Int):[AV.sc (.int .i64 x)].all calm=true:=rfl
theorem r08_id (n:Nat)(b:Bool)(x:Int)(h:Hp):callN cx (n+1) b 215 [.sc (.int .i64 x)] h=some (.sc (.bool (idS x)),h):=by
 refine pure_calm (r:= .sc (.bool (idS x))) ⟨Tryz.f215.ntmps,(Tryz.f215.body).getD .skip,[.tmp 2]⟩ (by kernel_rfl) (by kernel_rfl) rfl (by kernel_rfl) (by simp[Tryz.f215]) (calm_int _) rfl ?_ b h;by_cases h1:1≤x<;>by_cases h2:x≤1000000<;>simp[Tryz.f215,idS,h1,h2]
theorem c_id (n:Nat)(b:Bool)(x:Int)(h:Hp):callN cx (n+1) b 230 [.sc (.int .i64 x)] h=some (.sc (.bool (idS x)),h):=by
 refine pure_calm (r:= .sc (.bool (idS x))) ⟨Tryz.f230.ntmps,(Tryz.f230.body).getD .skip,[.tmp 2]⟩ (by kernel_rfl) (by kernel_rfl) rfl (by kernel_rfl) (by simp[Tryz.f230]) (calm_int _) rfl ?_ b h;by_cases h1:1≤x<;>by_cases h2:x≤1000000<;>simp[Tryz.f230,idS,h1,h2]
theorem r08_Valued (n:Nat)(b:Bool)(x:Int)(h:Hp):callN cx (n+1) b 217 [.sc (.int .i64 x)] h=some (.sc (.bool (valuedS x)),h):=by
 refine pure_calm (r:= .sc (.bool (valuedS x))) ⟨Tryz.f217.ntmps,(Tryz.f217.body).getD .skip,[.tmp 2]⟩ (by kernel_rfl) (by kernel_rfl) rfl (by kernel_rfl) (by simp[Tryz.f217]) (calm_int _) rfl ?_ b h;by_cases h1:x=5
 ·simp[Tryz.f217,valuedS,h1]
 ·by_cases h2:x=8<;>simp[Tryz.f217,valuedS,h1,h2]
theorem r08_Named (n:Nat)(b:Bool)(x:Int)(h:Hp):callN cx (n+1) b 216 [.sc (.int .i64 x)] h=some (.sc (.bool (namedS x)),h):=by
 refine pure_calm (r:= .sc (.bool (namedS x))) ⟨Tryz.f216.ntmps,(Tryz.f216.body).getD .skip,[.tmp 2]⟩ (by kernel_rfl) (by kernel_rfl) rfl (by kernel_rfl) (by simp[Tryz.f216]) (calm_int _) rfl ?_ b h;by_cases h1:x=3
 ·simp[Tryz.f216,namedS,h1]
 by_cases h2:x=4
 ·simp[Tryz.f216,namedS,h1,h2]
 by_cases h3:x=5
 ·simp[Tryz.f216,namedS,h1,h2,h3]
 by_cases h4:x=6
 ·simp[Tryz.f216,namedS,h1,h2,h3,h4]
 ·by_cases h5:x=8<;>simp[Tryz.f216,namedS,h1,h2,h3,h4,h5]
theorem r08_null (N D:Nat)(b:Bool)(v:V)(h:Hp)(hd:dep v≤D)(hv:bdV v):callN cx (N+3*D+7) b 218 [.ag (enc v)] h=some (.sc (.bool (nullS v)),h):=by
 refine pure_calm (r:= .sc (.bool (nullS v))) (n:=N+3*D+6) ⟨Tryz.f218.ntmps,(Tryz.f218.body).getD .skip,[.tmp 2]⟩ (by kernel_rfl) (by kernel_rfl) rfl (by kernel_rfl) (by simp[Tryz.f218]) (calm_evV1 _) rfl ?_ b h;have hz:dep zeroV≤D:=Ym (by show 1≤dep v;have:=dep_pos v;omega) hd;have f1:=fun b h=>OC_all D v zeroV hd hz hv bdV_zero N b h
 unfold nullS;generalize ordV v zeroV=r at f1;simp only[zeroV,enc,encL,lsV,List.isEmpty_nil,Bool.and_self,cond_true]at f1;generalize N+3*D+6=M at f1;by_cases hr:r=0<;>simp[Tryz.f218,evV,f1,hr]
theorem c_null (N D:Nat)(b:Bool)(v:V)(h:Hp)(hd:dep v≤D)(hv:bdV v):callN cx (N+2*D+8) b 231 [.ag (enc v)] h=some (.sc (.bool (nullS v)),h):=by
 refine pure_calm (r:= .sc (.bool (nullS v))) (n:=N+2*D+7) ⟨Tryz.f231.ntmps,(Tryz.f231.body).getD .skip,[.tmp 2]⟩ (by kernel_rfl) (by kernel_rfl) rfl (by kernel_rfl) (by simp[Tryz.f231]) (calm_evV1 _) rfl ?_ b h;have hz:dep zeroV≤D:=Ym (by show 1≤dep v;have:=dep_pos v;omega) hd;have f1:=fun b h=>C_Order_all D v zeroV hd hz hv bdV_zero N b h
 unfold nullS;generalize ordV v zeroV=r at f1;simp only[zeroV,enc,encL,lsV,List.isEmpty_nil,Bool.and_self,cond_true]at f1;generalize N+2*D+7=M at f1;by_cases hr:r=0<;>simp[Tryz.f231,evV,f1,hr]
def flS (k:Int):List AV:=if k=3∨k=4 then[.sc (.bool false),.sc (.bool true),.sc (.bool false)]else if k=5∨k=8 then[.sc (.bool false),.sc (.bool true),.sc (.bool true)]else if k=6 then[.sc (.bool true),.sc (.bool true),.sc (.bool false)]else[.sc (.bool false),.sc (.bool false),.sc (.bool false)]
def kindS (k:Int):Bool:=decide (1≤k) && decide (k≤8)
@[simp] theorem T_uses :cx.T 263=some {size:=3,agg:=true,zero:=[.bool false,.bool false,.bool false],kd:= .struct [(0,1,false),(1,1,false),(2,1,false)]}:=by kernel_rfl
theorem calm_fl (k:Int):[AV.ag (flS k),.sc (.bool (kindS k))].all calm=true:=by unfold flS;split<;>(try split)<;>(try split)<;>rfl
theorem c_fields (n:Nat)(b:Bool)(k:Int)(h:Hp):callN cx (n+1) b 229 [.sc (.int .i64 k)] h=some (.tp [.ag (flS k),.sc (.bool (kindS k))],h):=by
 refine pure_tup (xs:=[.ag (flS k),.sc (.bool (kindS k))]) ⟨Tryz.f229.ntmps,(Tryz.f229.body).getD .skip,[.cell 2 3 true,.tmp 3]⟩ (by kernel_rfl) (by kernel_rfl) rfl (by kernel_rfl) (by simp[Tryz.f229]) (calm_int _) (calm_fl _) ?_ b h;by_cases h1:k=1
 ·subst h1;simp[Tryz.f229,flS,kindS]
 by_cases h2:k=2
 ·subst h2;simp[Tryz.f229,flS,kindS]
 by_cases h7:k=7
 ·subst h7;simp[Tryz.f229,flS,kindS]
 by_cases h3:k=3
 ·subst h3;simp[Tryz.f229,flS,kindS]
 by_cases h4:k=4
 ·subst h4;simp[Tryz.f229,flS,kindS]
 by_cases h5:k=5
 ·subst h5;simp[Tryz.f229,flS,kindS]
 by_cases h8:k=8
 ·subst h8;simp[Tryz.f229,flS,kindS]
 by_cases h6:k=6
 ·subst h6;simp[Tryz.f229,flS,kindS]
 ·have hk:kindS k=false:=by
   unfold kindS;by_cases q:1≤k
   ·by_cases q':k≤8
    ·omega
    ·simp[q']
   ·simp[q]
  simp[Tryz.f229,flS,hk,h1,h2,h3,h4,h5,h6,h7,h8]
set_option maxHeartbeats 32000000
def changeE (c:Ch):Int:=
 if kindS c.k=false∨idS c.a=false∨(namedS c.k=false∧eqS c.name ⟨#[]⟩=false)∨(valuedS c.k=false∧nullS c.v=false)then 1
 else if(c.k=6∧(idS c.b=false∨idS c.c=false))∨(¬c.k=6∧(¬c.b=0∨¬c.c=0))then 1
 else if namedS c.k=true∧nameS c.name=false then 6
 else if valuedS c.k=true∧nullS c.v=false∧plainV c.v=false then 8 else 0
theorem r08_Check (N D:Nat)(b:Bool)(c:Ch)(h:Hp)(hd:dep c.v≤D)(hv:bdV c.v):callN cx (N+3*D+8) b 148 [.ag (encC c)] h=some (.sc (.int .i64 (changeE c)),h):=by
 refine pure_calm (r:= .sc (.int .i64 (changeE c))) (n:=N+3*D+7) ⟨Tryz.f148.ntmps,(Tryz.f148.body).getD .skip,[.tmp 2]⟩ (by kernel_rfl) (by kernel_rfl) rfl (by kernel_rfl) (by simp[Tryz.f148]) (calm_encC _) rfl ?_ b h;have f1a:=fun b h=>r08_id (N+3*D+6) b c.a h
 have f1b:=fun b h=>r08_id (N+3*D+6) b c.b h
 have f1c:=fun b h=>r08_id (N+3*D+6) b c.c h
 have f3:=fun b h=>r08_Named (N+3*D+6) b c.k h
 have f4:=fun b h=>r08_Valued (N+3*D+6) b c.k h
 have f5:=fun b h=>r08_null N D b c.v h hd hv
 have f6:=fun b h=>r07_Name (N+3*D+5) b c.name h
 have f7:=fun b h=>r04_Plain (N+D+2) D c.v hd hv b h
 rw[show N+D+2+2*D+5=N+3*D+7 by omega]at f7;have f2:True:=trivial;generalize N+3*D+7=M at f1a f1b f1c f3 f4 f5 f6 f7⊢;obtain⟨k,a0,b0,c0,name,v⟩:=c;simp only[encC,changeE,Zv,Zw]at *;generalize idS a0=ia at f1a⊢;generalize idS b0=ib at f1b⊢;generalize idS c0=ic at f1c⊢;generalize nullS v=nl at f5⊢;generalize plainV v=pl at f7⊢;generalize nameS name=ns at f6⊢;generalize hen:eqS name ⟨#[]⟩=en;by_cases hk1:k<1
 ·have hk:kindS k=false:=by simp[kindS,show¬1≤k by omega]
  simp[Tryz.f148,hk,hk1]
 by_cases hk8:8<k
 ·have hk:kindS k=false:=by simp[kindS,show¬k≤8 by omega]
  simp[Tryz.f148,hk,hk1,hk8]
 have h18:k=1∨k=2∨k=3∨k=4∨k=5∨k=6∨k=7∨k=8:=by omega
 rcases h18 with rfl|rfl|rfl|rfl|rfl|rfl|rfl|rfl
 ·cases ia
  ·simp[Tryz.f148,changeE,kindS,namedS,valuedS,f3,f4,f1a,f2,f5]
  cases en
  ·simp[Tryz.f148,changeE,kindS,namedS,valuedS,f3,f4,f1a,f2,f5,hen]
  cases nl
  ·simp[Tryz.f148,changeE,kindS,namedS,valuedS,f3,f4,f1a,f2,f5,hen]
  by_cases hb:b0=0
  rotate_left
  ·simp[Tryz.f148,changeE,kindS,namedS,valuedS,f3,f4,f1a,f2,f5,hen,hb]
  by_cases hc:c0=0
  rotate_left
  ·simp[Tryz.f148,changeE,kindS,namedS,valuedS,f3,f4,f1a,f2,f5,hen,hb,hc]
  simp[Tryz.f148,changeE,kindS,namedS,valuedS,f3,f4,f1a,f2,f5,hen,hb,hc]
 ·cases ia
  ·simp[Tryz.f148,changeE,kindS,namedS,valuedS,f3,f4,f1a,f2,f5]
  cases en
  ·simp[Tryz.f148,changeE,kindS,namedS,valuedS,f3,f4,f1a,f2,f5,hen]
  cases nl
  ·simp[Tryz.f148,changeE,kindS,namedS,valuedS,f3,f4,f1a,f2,f5,hen]
  by_cases hb:b0=0
  rotate_left
  ·simp[Tryz.f148,changeE,kindS,namedS,valuedS,f3,f4,f1a,f2,f5,hen,hb]
  by_cases hc:c0=0
  rotate_left
  ·simp[Tryz.f148,changeE,kindS,namedS,valuedS,f3,f4,f1a,f2,f5,hen,hb,hc]
  simp[Tryz.f148,changeE,kindS,namedS,valuedS,f3,f4,f1a,f2,f5,hen,hb,hc]
 ·cases ia
  ·simp[Tryz.f148,changeE,kindS,namedS,valuedS,f3,f4,f1a,f2,f5]
  cases nl
  ·simp[Tryz.f148,changeE,kindS,namedS,valuedS,f3,f4,f1a,f2,f5,hen]
  by_cases hb:b0=0
  rotate_left
  ·simp[Tryz.f148,changeE,kindS,namedS,valuedS,f3,f4,f1a,f2,f5,hen,hb]
  by_cases hc:c0=0
  rotate_left
  ·simp[Tryz.f148,changeE,kindS,namedS,valuedS,f3,f4,f1a,f2,f5,hen,hb,hc]
  cases ns
  ·simp[Tryz.f148,changeE,kindS,namedS,valuedS,f3,f4,f1a,f2,f5,hen,hb,hc,f6]
  simp[Tryz.f148,changeE,kindS,namedS,valuedS,f3,f4,f1a,f2,f5,hen,hb,hc,f6]
 ·cases ia
  ·simp[Tryz.f148,changeE,kindS,namedS,valuedS,f3,f4,f1a,f2,f5]
  cases nl
  ·simp[Tryz.f148,changeE,kindS,namedS,valuedS,f3,f4,f1a,f2,f5,hen]
  by_cases hb:b0=0
  rotate_left
  ·simp[Tryz.f148,changeE,kindS,namedS,valuedS,f3,f4,f1a,f2,f5,hen,hb]
  by_cases hc:c0=0
  rotate_left
  ·simp[Tryz.f148,changeE,kindS,namedS,valuedS,f3,f4,f1a,f2,f5,hen,hb,hc]
  cases ns
  ·simp[Tryz.f148,changeE,kindS,namedS,valuedS,f3,f4,f1a,f2,f5,hen,hb,hc,f6]
  simp[Tryz.f148,changeE,kindS,namedS,valuedS,f3,f4,f1a,f2,f5,hen,hb,hc,f6]
 ·cases ia
  ·simp[Tryz.f148,changeE,kindS,namedS,valuedS,f3,f4,f1a,f2,f5]
  by_cases hb:b0=0
  rotate_left
  ·simp[Tryz.f148,changeE,kindS,namedS,valuedS,f3,f4,f1a,f2,f5,hen,hb]
  by_cases hc:c0=0
  rotate_left
  ·simp[Tryz.f148,changeE,kindS,namedS,valuedS,f3,f4,f1a,f2,f5,hen,hb,hc]
  cases ns
  ·simp[Tryz.f148,changeE,kindS,namedS,valuedS,f3,f4,f1a,f2,f5,hen,hb,hc,f6]
  cases nl
  rotate_left
  ·simp[Tryz.f148,changeE,kindS,namedS,valuedS,f3,f4,f1a,f2,f5,hen,hb,hc,f6]
  cases pl
  ·simp[Tryz.f148,changeE,kindS,namedS,valuedS,f3,f4,f1a,f2,f5,hen,hb,hc,f6,f7]
  simp[Tryz.f148,changeE,kindS,namedS,valuedS,f3,f4,f1a,f2,f5,hen,hb,hc,f6,f7]
 ·cases ia
  ·simp[Tryz.f148,changeE,kindS,namedS,valuedS,f3,f4,f1a,f2,f5]
  cases nl
  ·simp[Tryz.f148,changeE,kindS,namedS,valuedS,f3,f4,f1a,f2,f5,hen]
  cases ib
  ·simp[Tryz.f148,changeE,kindS,namedS,valuedS,f3,f4,f1a,f2,f5,hen,f1b]
  cases ic
  ·simp[Tryz.f148,changeE,kindS,namedS,valuedS,f3,f4,f1a,f2,f5,hen,f1b,f1c]
  cases ns
  ·simp[Tryz.f148,changeE,kindS,namedS,valuedS,f3,f4,f1a,f2,f5,hen,f1b,f1c,f6]
  simp[Tryz.f148,changeE,kindS,namedS,valuedS,f3,f4,f1a,f2,f5,hen,f1b,f1c,f6]
 ·cases ia
  ·simp[Tryz.f148,changeE,kindS,namedS,valuedS,f3,f4,f1a,f2,f5]
  cases en
  ·simp[Tryz.f148,changeE,kindS,namedS,valuedS,f3,f4,f1a,f2,f5,hen]
  cases nl
  ·simp[Tryz.f148,changeE,kindS,namedS,valuedS,f3,f4,f1a,f2,f5,hen]
  by_cases hb:b0=0
  rotate_left
  ·simp[Tryz.f148,changeE,kindS,namedS,valuedS,f3,f4,f1a,f2,f5,hen,hb]
  by_cases hc:c0=0
  rotate_left
  ·simp[Tryz.f148,changeE,kindS,namedS,valuedS,f3,f4,f1a,f2,f5,hen,hb,hc]
  simp[Tryz.f148,changeE,kindS,namedS,valuedS,f3,f4,f1a,f2,f5,hen,hb,hc]
 ·cases ia
  ·simp[Tryz.f148,changeE,kindS,namedS,valuedS,f3,f4,f1a,f2,f5]
  by_cases hb:b0=0
  rotate_left
  ·simp[Tryz.f148,changeE,kindS,namedS,valuedS,f3,f4,f1a,f2,f5,hen,hb]
  by_cases hc:c0=0
  rotate_left
  ·simp[Tryz.f148,changeE,kindS,namedS,valuedS,f3,f4,f1a,f2,f5,hen,hb,hc]
  cases ns
  ·simp[Tryz.f148,changeE,kindS,namedS,valuedS,f3,f4,f1a,f2,f5,hen,hb,hc,f6]
  cases nl
  rotate_left
  ·simp[Tryz.f148,changeE,kindS,namedS,valuedS,f3,f4,f1a,f2,f5,hen,hb,hc,f6]
  cases pl
  ·simp[Tryz.f148,changeE,kindS,namedS,valuedS,f3,f4,f1a,f2,f5,hen,hb,hc,f6,f7]
  simp[Tryz.f148,changeE,kindS,namedS,valuedS,f3,f4,f1a,f2,f5,hen,hb,hc,f6,f7]
theorem c_Check (N D:Nat)(b:Bool)(c:Ch)(h:Hp)(hd:dep c.v≤D)(hv:bdV c.v):callN cx (N+2*D+9) b 160 [.ag (encC c)] h=some (.sc (.int .i64 (changeE c)),h):=by
 refine pure_calm (r:= .sc (.int .i64 (changeE c))) (n:=N+2*D+8) ⟨Tryz.f160.ntmps,(Tryz.f160.body).getD .skip,[.tmp 2]⟩ (by kernel_rfl) (by kernel_rfl) rfl (by kernel_rfl) (by simp[Tryz.f160]) (calm_encC _) rfl ?_ b h;have f1a:=fun b h=>c_id (N+2*D+7) b c.a h
 have f1b:=fun b h=>c_id (N+2*D+7) b c.b h
 have f1c:=fun b h=>c_id (N+2*D+7) b c.c h
 have f3:=fun b h=>c_fields (N+2*D+7) b c.k h
 have f5:=fun b h=>c_null N D b c.v h hd hv
 have f6:=fun b h=>g_Name (N+2*D+6) b c.name h
 have f7:=fun b h=>val_Plain (N+3) D c.v hd hv b h
 rw[show N+3+2*D+5=N+2*D+8 by omega]at f7;have f2:True:=trivial;have f4:True:=trivial;generalize N+2*D+8=M at f1a f1b f1c f3 f5 f6 f7⊢;obtain⟨k,a0,b0,c0,name,v⟩:=c;simp only[encC,changeE,Zv,Zw]at *;generalize idS a0=ia at f1a⊢;generalize idS b0=ib at f1b⊢;generalize idS c0=ic at f1c⊢;generalize nullS v=nl at f5⊢;generalize plainV v=pl at f7⊢;generalize nameS name=ns at f6⊢;generalize hen:eqS name ⟨#[]⟩=en;by_cases hk1:k<1
 ·have hk:kindS k=false:=by simp[kindS,show¬1≤k by omega]
  rw[hk]at f3;have hfl:flS k=[.sc (.bool false),.sc (.bool false),.sc (.bool false)]:=by unfold flS;rw[if_neg (by omega),if_neg (by omega),if_neg (by omega)]
  rw[hfl]at f3;simp[Tryz.f160,hk,f3]
 by_cases hk8:8<k
 ·have hk:kindS k=false:=by simp[kindS,show¬k≤8 by omega]
  rw[hk]at f3;have hfl:flS k=[.sc (.bool false),.sc (.bool false),.sc (.bool false)]:=by unfold flS;rw[if_neg (by omega),if_neg (by omega),if_neg (by omega)]
  rw[hfl]at f3;simp[Tryz.f160,hk,f3]
 have h18:k=1∨k=2∨k=3∨k=4∨k=5∨k=6∨k=7∨k=8:=by omega
 rcases h18 with rfl|rfl|rfl|rfl|rfl|rfl|rfl|rfl
 ·simp[flS,kindS]at f3;cases ia
  ·simp[Tryz.f160,changeE,kindS,namedS,valuedS,flS,f3,f4,f1a,f2,f5]
  by_cases hb:b0=0
  rotate_left
  ·simp[Tryz.f160,changeE,kindS,namedS,valuedS,flS,f3,f4,f1a,f2,f5,hb]
  by_cases hc:c0=0
  rotate_left
  ·simp[Tryz.f160,changeE,kindS,namedS,valuedS,flS,f3,f4,f1a,f2,f5,hb,hc]
  cases en
  ·simp[Tryz.f160,changeE,kindS,namedS,valuedS,flS,f3,f4,f1a,f2,f5,hb,hc,hen]
  cases nl
  ·simp[Tryz.f160,changeE,kindS,namedS,valuedS,flS,f3,f4,f1a,f2,f5,hb,hc,hen]
  simp[Tryz.f160,changeE,kindS,namedS,valuedS,flS,f3,f4,f1a,f2,f5,hb,hc,hen]
 ·simp[flS,kindS]at f3;cases ia
  ·simp[Tryz.f160,changeE,kindS,namedS,valuedS,flS,f3,f4,f1a,f2,f5]
  by_cases hb:b0=0
  rotate_left
  ·simp[Tryz.f160,changeE,kindS,namedS,valuedS,flS,f3,f4,f1a,f2,f5,hb]
  by_cases hc:c0=0
  rotate_left
  ·simp[Tryz.f160,changeE,kindS,namedS,valuedS,flS,f3,f4,f1a,f2,f5,hb,hc]
  cases en
  ·simp[Tryz.f160,changeE,kindS,namedS,valuedS,flS,f3,f4,f1a,f2,f5,hb,hc,hen]
  cases nl
  ·simp[Tryz.f160,changeE,kindS,namedS,valuedS,flS,f3,f4,f1a,f2,f5,hb,hc,hen]
  simp[Tryz.f160,changeE,kindS,namedS,valuedS,flS,f3,f4,f1a,f2,f5,hb,hc,hen]
 ·simp[flS,kindS]at f3;cases ia
  ·simp[Tryz.f160,changeE,kindS,namedS,valuedS,flS,f3,f4,f1a,f2,f5]
  by_cases hb:b0=0
  rotate_left
  ·simp[Tryz.f160,changeE,kindS,namedS,valuedS,flS,f3,f4,f1a,f2,f5,hb]
  by_cases hc:c0=0
  rotate_left
  ·simp[Tryz.f160,changeE,kindS,namedS,valuedS,flS,f3,f4,f1a,f2,f5,hb,hc]
  cases nl
  ·simp[Tryz.f160,changeE,kindS,namedS,valuedS,flS,f3,f4,f1a,f2,f5,hb,hc,hen]
  cases ns
  ·simp[Tryz.f160,changeE,kindS,namedS,valuedS,flS,f3,f4,f1a,f2,f5,hb,hc,hen,f6]
  simp[Tryz.f160,changeE,kindS,namedS,valuedS,flS,f3,f4,f1a,f2,f5,hb,hc,hen,f6]
 ·simp[flS,kindS]at f3;cases ia
  ·simp[Tryz.f160,changeE,kindS,namedS,valuedS,flS,f3,f4,f1a,f2,f5]
  by_cases hb:b0=0
  rotate_left
  ·simp[Tryz.f160,changeE,kindS,namedS,valuedS,flS,f3,f4,f1a,f2,f5,hb]
  by_cases hc:c0=0
  rotate_left
  ·simp[Tryz.f160,changeE,kindS,namedS,valuedS,flS,f3,f4,f1a,f2,f5,hb,hc]
  cases nl
  ·simp[Tryz.f160,changeE,kindS,namedS,valuedS,flS,f3,f4,f1a,f2,f5,hb,hc,hen]
  cases ns
  ·simp[Tryz.f160,changeE,kindS,namedS,valuedS,flS,f3,f4,f1a,f2,f5,hb,hc,hen,f6]
  simp[Tryz.f160,changeE,kindS,namedS,valuedS,flS,f3,f4,f1a,f2,f5,hb,hc,hen,f6]
 ·simp[flS,kindS]at f3;cases ia
  ·simp[Tryz.f160,changeE,kindS,namedS,valuedS,flS,f3,f4,f1a,f2,f5]
  by_cases hb:b0=0
  rotate_left
  ·simp[Tryz.f160,changeE,kindS,namedS,valuedS,flS,f3,f4,f1a,f2,f5,hb]
  by_cases hc:c0=0
  rotate_left
  ·simp[Tryz.f160,changeE,kindS,namedS,valuedS,flS,f3,f4,f1a,f2,f5,hb,hc]
  cases ns
  ·simp[Tryz.f160,changeE,kindS,namedS,valuedS,flS,f3,f4,f1a,f2,f5,hb,hc,hen,f6]
  cases nl
  rotate_left
  ·simp[Tryz.f160,changeE,kindS,namedS,valuedS,flS,f3,f4,f1a,f2,f5,hb,hc,hen,f6]
  cases pl
  ·simp[Tryz.f160,changeE,kindS,namedS,valuedS,flS,f3,f4,f1a,f2,f5,hb,hc,hen,f6,f7]
  simp[Tryz.f160,changeE,kindS,namedS,valuedS,flS,f3,f4,f1a,f2,f5,hb,hc,hen,f6,f7]
 ·simp[flS,kindS]at f3;cases ia
  ·simp[Tryz.f160,changeE,kindS,namedS,valuedS,flS,f3,f4,f1a,f2,f5]
  cases ib
  ·simp[Tryz.f160,changeE,kindS,namedS,valuedS,flS,f3,f4,f1a,f2,f5,f1b]
  cases ic
  ·simp[Tryz.f160,changeE,kindS,namedS,valuedS,flS,f3,f4,f1a,f2,f5,f1b,f1c]
  cases nl
  ·simp[Tryz.f160,changeE,kindS,namedS,valuedS,flS,f3,f4,f1a,f2,f5,f1b,f1c,hen]
  cases ns
  ·simp[Tryz.f160,changeE,kindS,namedS,valuedS,flS,f3,f4,f1a,f2,f5,f1b,f1c,hen,f6]
  simp[Tryz.f160,changeE,kindS,namedS,valuedS,flS,f3,f4,f1a,f2,f5,f1b,f1c,hen,f6]
 ·simp[flS,kindS]at f3;cases ia
  ·simp[Tryz.f160,changeE,kindS,namedS,valuedS,flS,f3,f4,f1a,f2,f5]
  by_cases hb:b0=0
  rotate_left
  ·simp[Tryz.f160,changeE,kindS,namedS,valuedS,flS,f3,f4,f1a,f2,f5,hb]
  by_cases hc:c0=0
  rotate_left
  ·simp[Tryz.f160,changeE,kindS,namedS,valuedS,flS,f3,f4,f1a,f2,f5,hb,hc]
  cases en
  ·simp[Tryz.f160,changeE,kindS,namedS,valuedS,flS,f3,f4,f1a,f2,f5,hb,hc,hen]
  cases nl
  ·simp[Tryz.f160,changeE,kindS,namedS,valuedS,flS,f3,f4,f1a,f2,f5,hb,hc,hen]
  simp[Tryz.f160,changeE,kindS,namedS,valuedS,flS,f3,f4,f1a,f2,f5,hb,hc,hen]
 ·simp[flS,kindS]at f3;cases ia
  ·simp[Tryz.f160,changeE,kindS,namedS,valuedS,flS,f3,f4,f1a,f2,f5]
  by_cases hb:b0=0
  rotate_left
  ·simp[Tryz.f160,changeE,kindS,namedS,valuedS,flS,f3,f4,f1a,f2,f5,hb]
  by_cases hc:c0=0
  rotate_left
  ·simp[Tryz.f160,changeE,kindS,namedS,valuedS,flS,f3,f4,f1a,f2,f5,hb,hc]
  cases ns
  ·simp[Tryz.f160,changeE,kindS,namedS,valuedS,flS,f3,f4,f1a,f2,f5,hb,hc,hen,f6]
  cases nl
  rotate_left
  ·simp[Tryz.f160,changeE,kindS,namedS,valuedS,flS,f3,f4,f1a,f2,f5,hb,hc,hen,f6]
  cases pl
  ·simp[Tryz.f160,changeE,kindS,namedS,valuedS,flS,f3,f4,f1a,f2,f5,hb,hc,hen,f6,f7]
  simp[Tryz.f160,changeE,kindS,namedS,valuedS,flS,f3,f4,f1a,f2,f5,hb,hc,hen,f6,f7]
set_option maxHeartbeats 8000000
def hasS (l:List ByteArray)(x:ByteArray):Bool:=l.any fun y=>eqS y x
def hasD (l:List ByteArray)(x:ByteArray)(i:Nat):Bool:=hasS (l.drop i) x
theorem hasD_end (l:List ByteArray)(x:ByteArray)(i:Nat)(h:l.length≤i):hasD l x i=false:=by unfold hasD;rw[Zt h];rfl
theorem hasD_step {l:List ByteArray}{x:ByteArray}{i:Nat}{c:ByteArray}(h:l[i]?=some c):hasD l x i=(eqS c x||hasD l x (i+1)):=by
 obtain⟨k,e⟩:=Za.1 h;unfold hasD hasS;rw[Zm k,e,List.any_cons]
theorem calm_tx (l:List ByteArray)(z:Bool)(x:ByteArray):[tsV l z,.sc (.string x)].all calm=true:=rfl
theorem calm_Nx (c:Nd)(x:ByteArray):[AV.ag (encN c),.sc (.string x)].all calm=true:=rfl
theorem r07_HasStr (n:Nat)(b:Bool)(l:List ByteArray)(z:Bool)(x:ByteArray)(h:Hp)(hl:l.length≤1000000000000000):
 callN cx (n+1) b 153 [tsV l z,.sc (.string x)] h=some (.sc (.bool (hasS l x)),h):=by
 refine pure_calm (r:= .sc (.bool (hasS l x))) ⟨Tryz.f153.ntmps,(Tryz.f153.body).getD .skip,[.tmp 4]⟩ (by kernel_rfl) (by kernel_rfl) rfl (by kernel_rfl) (by simp[Tryz.f153]) (calm_tx _ _ _) rfl ?_ b h;have hq:=tsR_length l;have hg:=tsR_get l;unfold tsV;generalize tsR l=rows at hq hg;simp[Tryz.f153];refine loop_up (C:=cx) (G:=fun r=>∃x,finX _ (thenX _ _ (blockX _ r) _)=some (_,x))
  (fun i s=>hasS l x=hasD l x i∧s.1.length=18∧gt s.1 0= .ls 1 rows z∧gt s.1 1= .sc (.string x)∧gt s.1 5= .sc (.int .i64 i))
  (fun o s=>s.1.length=18∧((o= .exit 0∧hasS l x=false)∨(o= .ret∧hasS l x=true∧gt s.1 4= .sc (.bool true)))) l.length (by simp;omega) (by simp[hasD]) ?_ ?_
 ·rintro i fr h hle ⟨ho,hlen,h0,h1,h5⟩;simp only at hlen h0 h1 h5;by_cases hi:i<l.length
  ·obtain⟨c,hx⟩:∃c,l[i]?=some c:=⟨_,Zb hi⟩;have hr:rows[i]?=some [.sc (.string c)]:=by rw[hg,hx];rfl
   have hr':∀k,rows[i]'k=[.sc (.string c)]:=fun k=>by obtain⟨_,e⟩:=Za.1 hr;exact e
   rw[hasD_step hx]at ho;have hf:=fit_succ (Ym hle hl);cases hk:eqS c x
   ·have zz:hasS l x=hasD l x (i+1):=by rw[ho,hk];rfl
    clear ho;simp[hlen,h0,h1,h5,hi,hq,hr,hr',hk,hf];exact zz
   ·have zz:hasS l x=true:=by rw[ho,hk];rfl
    clear ho;simp[hlen,h0,h1,h5,hi,hq,hr,hr',hk,zz]
  ·have zz:hasS l x=false:=by rw[ho,hasD_end l x i (by omega)]
   simp[hlen,h0,h1,h5,hi,hq,zz]
 ·rintro o fr h hn ⟨hlen,⟨rfl,hz⟩|⟨rfl,hz,h2⟩⟩
  ·simp only at hlen;simp[hlen,hz]
  ·simp only at h2;simp[h2,hz]
theorem r07_HasLabel (n:Nat)(b:Bool)(c:Nd)(x:ByteArray)(h:Hp)(hl:c.labels.length≤1000000000000000):
 callN cx (n+2) b 86 [.ag (encN c),.sc (.string x)] h=some (.sc (.bool (hasS c.labels x)),h):=by
 refine pure_calm (r:= .sc (.bool (hasS c.labels x))) (n:=n+1) ⟨Tryz.f86.ntmps,(Tryz.f86.body).getD .skip,[.tmp 4]⟩ (by kernel_rfl) (by kernel_rfl) rfl (by kernel_rfl) (by simp[Tryz.f86]) (calm_Nx _ _) rfl ?_ b h;have f1:=fun b h=>r07_HasStr n b c.labels false x h hl
 generalize hasS c.labels x=r at f1;unfold encN;unfold tsV at f1⊢;simp[Tryz.f86,f1]
def idxS (l:List ByteArray)(x:ByteArray)(i:Nat):Int:=match l with
 | []=> -1
 |c::l=>if eqS x c=true then i else idxS l x (i+1)
def idxSD (l:List ByteArray)(x:ByteArray)(i:Nat):Int:=idxS (l.drop i) x i
theorem idxSD_end (l:List ByteArray)(x:ByteArray)(i:Nat)(h:l.length≤i):idxSD l x i= -1:=by unfold idxSD;rw[Zt h];rfl
theorem idxSD_step {l:List ByteArray}{x:ByteArray}{i:Nat}{c:ByteArray}(h:l[i]?=some c):idxSD l x i=if eqS x c=true then(i:Int)else idxSD l x (i+1):=by
 obtain⟨k,e⟩:=Za.1 h;unfold idxSD;rw[Zm k,e];rfl
theorem idxS_has (x:ByteArray):∀(l:List ByteArray) (i:Nat),decide (0≤idxS l x i)=hasS l x
 | [],i=>rfl
 |
  c::l,i=>by
  have ih:=idxS_has x l (i+1);unfold idxS hasS;rw[List.any_cons];cases hk:eqS x c
  ·have hk':eqS c x=false:=by
    rw[Bool.eq_false_iff]at hk⊢;intro e;apply hk;rw[eqS_iff]at e⊢;exact e.symm
   rw[hk',Bool.false_or];exact ih
  ·have hk':eqS c x=true:=by rw[eqS_iff]at hk⊢;exact hk.symm
   rw[hk',Bool.true_or];simp
theorem sl_Index (n:Nat)(b:Bool)(l:List ByteArray)(z:Bool)(x:ByteArray)(h:Hp)(hl:l.length≤1000000000000000):
 callN cx (n+1) b 212 [tsV l z,.sc (.string x)] h=some (.sc (.int .i64 (idxS l x 0)),h):=by
 refine pure_calm (r:= .sc (.int .i64 (idxS l x 0))) ⟨Tryz.f212.ntmps,(Tryz.f212.body).getD .skip,[.tmp 4]⟩ (by kernel_rfl) (by kernel_rfl) rfl (by kernel_rfl) (by simp[Tryz.f212]) (calm_tx _ _ _) rfl ?_ b h;have hq:=tsR_length l;have hg:=tsR_get l;unfold tsV;generalize tsR l=rows at hq hg;generalize hd:idxS l x 0=v;have hd0:v=idxSD l x 0:=hd.symm;simp[Tryz.f212];refine loop_up (C:=cx) (G:=fun r=>∃x,finX _ (thenX _ _ (blockX _ r) _)=some (_,x))
  (fun i s=>v=idxSD l x i∧s.1.length=19∧gt s.1 0= .ls 1 rows z∧gt s.1 1= .sc (.string x)∧gt s.1 7= .sc (.int .i64 l.length)∧gt s.1 8= .sc (.int .i64 i))
  (fun o s=>s.1.length=19∧((o= .exit 0∧v= -1)∨(o= .ret∧gt s.1 4= .sc (.int .i64 v)))) l.length (by simp;omega) (by simp[hd0,hq]) ?_ ?_
 ·rintro i fr h hle ⟨ho,hlen,h0,h1,h7,h8⟩;simp only at hlen h0 h1 h7 h8;by_cases hi:i<l.length
  ·obtain⟨c,hx⟩:∃c,l[i]?=some c:=⟨_,Zb hi⟩;have hr:rows[i]?=some [.sc (.string c)]:=by rw[hg,hx];rfl
   have hr':∀k,rows[i]'k=[.sc (.string c)]:=fun k=>by obtain⟨_,e⟩:=Za.1 hr;exact e
   rw[idxSD_step hx]at ho;have hf:=fit_succ (Ym hle hl);cases hk:eqS x c
   ·rw[if_neg (by rw[hk];decide)]at ho;simp[hlen,h0,h1,h7,h8,hi,hq,hr,hr',hk,hf];exact ho
   ·rw[if_pos hk]at ho;simp[hlen,h0,h1,h7,h8,hi,hq,hr,hr',hk,ho]
  ·have zz:v= -1:=by rw[ho,idxSD_end l x i (by omega)]
   simp[hlen,h0,h1,h7,h8,hi,hq,zz]
 ·rintro o fr h hn ⟨hlen,⟨rfl,hz⟩|⟨rfl,h2⟩⟩
  ·simp only at hlen;simp[hlen,hz]
  ·simp only at h2;simp[h2]
theorem sl_Contains (n:Nat)(b:Bool)(l:List ByteArray)(z:Bool)(x:ByteArray)(h:Hp)(hl:l.length≤1000000000000000):
 callN cx (n+2) b 144 [tsV l z,.sc (.string x)] h=some (.sc (.bool (hasS l x)),h):=by
 refine pure_calm (r:= .sc (.bool (hasS l x))) (n:=n+1) ⟨Tryz.f144.ntmps,(Tryz.f144.body).getD .skip,[.tmp 4]⟩ (by kernel_rfl) (by kernel_rfl) rfl (by kernel_rfl) (by simp[Tryz.f144]) (calm_tx _ _ _) rfl ?_ b h;have f1:=fun b h=>sl_Index n b l z x h hl
 have f2:=idxS_has x l 0;generalize idxS l x 0=r at f1 f2;generalize hasS l x=w at f2;subst f2;unfold tsV at f1⊢;simp[Tryz.f144,f1]
theorem g_HasLabel (n:Nat)(b:Bool)(c:Nd)(x:ByteArray)(h:Hp)(hl:c.labels.length≤1000000000000000):
 callN cx (n+3) b 81 [.ag (encN c),.sc (.string x)] h=some (.sc (.bool (hasS c.labels x)),h):=by
 refine pure_calm (r:= .sc (.bool (hasS c.labels x))) (n:=n+2) ⟨Tryz.f81.ntmps,(Tryz.f81.body).getD .skip,[.tmp 4]⟩ (by kernel_rfl) (by kernel_rfl) rfl (by kernel_rfl) (by simp[Tryz.f81]) (calm_Nx _ _) rfl ?_ b h;have f1:=fun b h=>sl_Contains n b c.labels false x h hl
 generalize hasS c.labels x=r at f1;unfold encN;unfold tsV at f1⊢;simp[Tryz.f81,f1]
end
end Go.Proofs.YtadaeokidcgdlaaGreatDoor
