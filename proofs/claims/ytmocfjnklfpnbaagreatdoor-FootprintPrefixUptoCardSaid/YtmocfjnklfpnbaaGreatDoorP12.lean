/- The abstract evaluator, part 15: its walk by 'simp': equations for code, regions, calls, on frames that are written out; loops. -/
import Derived.Test.YtmocfjnklfpnbaaGreatDoorP11
set_option linter.all false
namespace Go.Ae
open Go
def exec2 (C:Cx)(call:Bool→Cal):Code→St→Option (Out × St)
 | .skip,s=>some (.normal,s)
 | .label _,s=>some (.normal,s)
 | .region _ ops mixed,s=>bif mixed then(runOps C (call false) ops ops.toList s).map fun s'=>(.normal,s')else runOpsP C (call true) ops ops.toList s
 |
  .seq a b,s=>match exec2 C call a s with
  |some (.normal,s')=>exec2 C call b s'
  |r=>r
 |
  .cond c a b,s=>match ev C s.1 c with
  | .sc (.bool true)=>exec2 C call a s
  | .sc (.bool false)=>exec2 C call b s
  |_=>none
 |
  .block id c,s=>match exec2 C call c s with
  |some (.exit i,s')=>some (if i=id then .normal else .exit i,s')
  |r=>r
 | .loop c,s=>loopN (exec2 C call c) C.fuel s
 | .exit id,s=>some (.exit id,s)
 | .ret,s=>some (.ret,s)
 |_,_=>none
def ok2 (C:Cx):Code→Bool
 | .region _ ops true=>(needs C ops).isEmpty && !thrs C ops
 | .seq a b=>ok2 C a && ok2 C b
 | .cond _ a b=>ok2 C a && ok2 C b
 | .block _ c=>ok2 C c
 | .loop c=>ok2 C c
 |_=>true
section two
variable {C : Cx} {call : Bool → FuncId → List AV → Hp → Option (AV × Hp)}
theorem runOpsL_runOps {cal:Cal}{ops:Array Oper}:∀(l:List Oper) (s:St),(runOpsL C cal ops l s).bind (·[l.length]?)=runOps C cal ops l s
 | [],s=>rfl
 |
  o::l,s=>by
  simp only[runOpsL,runOps];cases step1 C cal ops o s with
  |none=>rfl
  |
   some s'=>
   simp only;rw[←runOpsL_runOps l s'];cases runOpsL C cal ops l s' with
   |none=>rfl
   |some m=>simp
theorem exec2_eq :∀(c:Code),ok2 C c=true→exec C call c=exec2 C call c:=by
 intro c
 induction c with
 |
  region id ops mixed=>
  intro hk
  funext s
  simp only[exec,exec2];cases mixed with
  |false=>rfl
  |
   true=>
   simp only[ok2,Zh,Bool.not_eq_true',List.isEmpty_iff]at hk;rw[←runOpsL_runOps];simp only[hk.1,panA,hk.2,Yl,if_false,if_true,cond_true,Array.length_toList];cases runOpsL C (call false) ops ops.toList s with
   |none=>rfl
   |some m=>simp
 |
  seq x y ihx ihy=>
  intro hk;simp only[ok2,Zh]at hk
  funext s
  simp only[exec,exec2,ihx hk.1,ihy hk.2];rfl
 |
  cond q x y ihx ihy=>
  intro hk;simp only[ok2,Zh]at hk
  funext s
  simp only[exec,exec2,ihx hk.1,ihy hk.2];rfl
 |
  block id x ih=>
  intro hk;simp only[ok2]at hk
  funext s
  simp only[exec,exec2,ih hk];rfl
 |
  loop x ih=>
  intro hk;simp only[ok2]at hk
  funext s
  simp only[exec,exec2,ih hk]
 |_=>intro _;rfl
def thenX (C:Cx)(call:Bool→Cal)(x:Option (Out × St))(b:Code):Option (Out × St):=
 match x with|some (.normal,s)=>exec2 C call b s|r=>r
def condX (C:Cx)(call:Bool→Cal)(v:AV)(a b:Code)(s:St):Option (Out × St):=
 match v with| .sc (.bool true)=>exec2 C call a s| .sc (.bool false)=>exec2 C call b s|_=>none
def blockX (id:Nat)(x:Option (Out × St)):Option (Out × St):=
 match x with|some (.exit i,s')=>some (if i=id then .normal else .exit i,s')|r=>r
def mapX (x:Option St):Option (Out × St):=match x with|some s=>some (.normal,s)|none=>none
def opP (C:Cx)(cal:Cal)(ops:Array Oper)(d:Option Tmp)(rest:List Oper)(fr:List AV)(x:Option (AV × Hp)):Option (Out × St):=
 match x with
 |some (.pn v,h)=>some (.pan v,(fr,h))
 |some (v,h)=>runOpsP C cal ops rest (match d with|some d=>fr.set d v|none=>fr,h)
 |none=>none
def opN (C:Cx)(cal:Cal)(ops:Array Oper)(d:Option Tmp)(rest:List Oper)(fr:List AV)(x:Option (AV × Hp)):Option St:=
 match x with
 |some (.pn _,_)=>none
 |some (v,h)=>runOps C cal ops rest (match d with|some d=>fr.set d v|none=>fr,h)
 |none=>none
def guP (C:Cx)(cal:Cal)(ops:Array Oper)(o:Oper)(rest:List Oper)(fr:List AV)(h:Hp)(w:Option Bool):Option (Out × St):=
 match w with
 |some true=>opP C cal ops o.dst rest fr (aop C cal (ev C fr) h o)
 |some false=>runOpsP C cal ops rest (putA o fr .un,h)
 |none=>none
def guN (C:Cx)(cal:Cal)(ops:Array Oper)(o:Oper)(rest:List Oper)(fr:List AV)(h:Hp)(w:Option Bool):Option St:=
 match w with
 |some true=>opN C cal ops o.dst rest fr (aop C cal (ev C fr) h o)
 |some false=>runOps C cal ops rest (putA o fr .un,h)
 |none=>none
def gt (fr:List AV)(t:Tmp):AV:=fr.getD t .ud
@[simp] theorem gt_zero (a:AV)(l:List AV):gt (a::l) 0=a:=rfl
@[simp] theorem gt_succ (a:AV)(l:List AV)(n:Nat):gt (a::l) (n+1)=gt l n:=rfl
@[simp] theorem gt_set (fr:List AV)(d t:Nat)(v:AV):gt (fr.set d v) t=if d=t then(if d<fr.length then v else gt fr t)else gt fr t:=by
 unfold gt;rw[List.getD,List.getElem?_set];split
 ·rename_i e;subst e;split
  ·rfl
  ·rename_i h;rw[List.getD,List.getElem?_eq_none (by omega)]
 ·rfl
def isPn :AV→Bool| .pn _=>true|_=>false
@[simp] theorem isPn_ud :isPn .ud=false:=rfl
@[simp] theorem isPn_un :isPn .un=false:=rfl
@[simp] theorem isPn_sc (v:Value):isPn (.sc v)=false:=rfl
@[simp] theorem isPn_ls (a:Nat)(b:List (List AV))(c:Bool):isPn (.ls a b c)=false:=rfl
@[simp] theorem isPn_sl (a b c d:Nat)(k:Bool):isPn (.sl a b c d k)=false:=rfl
@[simp] theorem isPn_pt (a b:Nat):isPn (.pt a b)=false:=rfl
@[simp] theorem isPn_rp (a:List AV)(b:Nat):isPn (.rp a b)=false:=rfl
@[simp] theorem isPn_fn (a:FuncId)(b:List AV):isPn (.fn a b)=false:=rfl
@[simp] theorem isPn_ag (a:List AV):isPn (.ag a)=false:=rfl
@[simp] theorem isPn_tp (a:List AV):isPn (.tp a)=false:=rfl
@[simp] theorem isPn_mp (a:Nat):isPn (.mp a)=false:=rfl
@[simp] theorem exec2_skip (s:St):exec2 C call .skip s=some (.normal,s):=rfl
@[simp] theorem exec2_label (l:Nat)(s:St):exec2 C call (.label l) s=some (.normal,s):=rfl
@[simp] theorem exec2_exit (i:Nat)(s:St):exec2 C call (.exit i) s=some (.exit i,s):=rfl
@[simp] theorem exec2_ret (s:St):exec2 C call .ret s=some (.ret,s):=rfl
@[simp] theorem exec2_seq (a b:Code)(s:St):exec2 C call (.seq a b) s=thenX C call (exec2 C call a s) b:=rfl
@[simp] theorem exec2_cond (q:Operand)(a b:Code)(fr:List AV)(h:Hp):exec2 C call (.cond q a b) (fr,h)=condX C call (ev C fr q) a b (fr,h):=rfl
@[simp] theorem exec2_block (id:Nat)(c:Code)(s:St):exec2 C call (.block id c) s=blockX id (exec2 C call c s):=rfl
@[simp] theorem exec2_plain (id:Nat)(l:List Oper)(s:St):exec2 C call (.region id l.toArray false) s=runOpsP C (call true) l.toArray l s:=rfl
@[simp] theorem exec2_mixed (id:Nat)(l:List Oper)(s:St):exec2 C call (.region id l.toArray true) s=mapX (runOps C (call false) l.toArray l s):=by
 show Option.map _ _=_;cases runOps C (call false) l.toArray l s<;>rfl
@[simp] theorem mapX_some (s:St):mapX (some s)=some (.normal,s):=rfl
@[simp] theorem thenX_normal (s:St)(b:Code):thenX C call (some (.normal,s)) b=exec2 C call b s:=rfl
@[simp] theorem thenX_ret (s:St)(b:Code):thenX C call (some (.ret,s)) b=some (.ret,s):=rfl
@[simp] theorem thenX_exit (i:Nat)(s:St)(b:Code):thenX C call (some (.exit i,s)) b=some (.exit i,s):=rfl
@[simp] theorem thenX_pan (v:Value)(s:St)(b:Code):thenX C call (some (.pan v,s)) b=some (.pan v,s):=rfl
@[simp] theorem condX_true (a b:Code)(s:St):condX C call (.sc (.bool true)) a b s=exec2 C call a s:=rfl
@[simp] theorem condX_false (a b:Code)(s:St):condX C call (.sc (.bool false)) a b s=exec2 C call b s:=rfl
theorem condX_ite (t:Bool)(a b:Code)(s:St):condX C call (.sc (.bool t)) a b s=if t=true then exec2 C call a s else exec2 C call b s:=by cases t<;>rfl
@[simp] theorem blockX_normal (i:Nat)(s:St):blockX i (some (.normal,s))=some (.normal,s):=rfl
@[simp] theorem blockX_ret (i:Nat)(s:St):blockX i (some (.ret,s))=some (.ret,s):=rfl
@[simp] theorem blockX_pan (i:Nat)(v:Value)(s:St):blockX i (some (.pan v,s))=some (.pan v,s):=rfl
@[simp] theorem blockX_exit (i j:Nat)(s:St):blockX i (some (.exit j,s))=some (if j=i then .normal else .exit j,s):=rfl
variable {cal : FuncId → List AV → Hp → Option (AV × Hp)} {ops : Array Oper}
@[simp] theorem runOpsP_nil (s:St):runOpsP C cal ops [] s=some (.normal,s):=rfl
@[simp] theorem runOps_nil (s:St):runOps C cal ops [] s=some s:=rfl
@[simp] theorem runOpsP_cons (o:Oper)(rest:List Oper)(fr:List AV)(h:Hp):runOpsP C cal ops (o::rest) (fr,h)=guP C cal ops o rest fr h (wantA ops fr o):=by
 simp only[runOpsP,step1,guP];cases wantA ops fr o with
 |none=>rfl
 |
  some b=>
  cases b with
  |false=>rfl
  |
   true=>
   simp only[opP];cases aop C cal (ev C fr) h o with
   |none=>rfl
   |
    some q=>
    obtain⟨v,h'⟩:=q;cases v<;>rfl
@[simp] theorem runOps_cons (o:Oper)(rest:List Oper)(fr:List AV)(h:Hp):runOps C cal ops (o::rest) (fr,h)=guN C cal ops o rest fr h (wantA ops fr o):=by
 simp only[runOps,step1,guN];cases wantA ops fr o with
 |none=>rfl
 |
  some b=>
  cases b with
  |false=>rfl
  |
   true=>
   simp only[opN];cases aop C cal (ev C fr) h o with
   |none=>rfl
   |
    some q=>
    obtain⟨v,h'⟩:=q;cases v<;>rfl
@[simp] theorem guP_true (o:Oper)(rest:List Oper)(fr:List AV)(h:Hp):guP C cal ops o rest fr h (some true)=opP C cal ops o.dst rest fr (aop C cal (ev C fr) h o):=rfl
@[simp] theorem guP_false (o:Oper)(rest:List Oper)(fr:List AV)(h:Hp):guP C cal ops o rest fr h (some false)=runOpsP C cal ops rest (putA o fr .un,h):=rfl
theorem guP_ite (t:Bool)(o:Oper)(rest:List Oper)(fr:List AV)(h:Hp):guP C cal ops o rest fr h (some t)=if t=true then opP C cal ops o.dst rest fr (aop C cal (ev C fr) h o)else runOpsP C cal ops rest (putA o fr .un,h):=by cases t<;>rfl
@[simp] theorem guN_true (o:Oper)(rest:List Oper)(fr:List AV)(h:Hp):guN C cal ops o rest fr h (some true)=opN C cal ops o.dst rest fr (aop C cal (ev C fr) h o):=rfl
@[simp] theorem guN_false (o:Oper)(rest:List Oper)(fr:List AV)(h:Hp):guN C cal ops o rest fr h (some false)=runOps C cal ops rest (putA o fr .un,h):=rfl
theorem guN_ite (t:Bool)(o:Oper)(rest:List Oper)(fr:List AV)(h:Hp):guN C cal ops o rest fr h (some t)=if t=true then opN C cal ops o.dst rest fr (aop C cal (ev C fr) h o)else runOps C cal ops rest (putA o fr .un,h):=by cases t<;>rfl
theorem opP_some (d:Tmp)(rest:List Oper)(fr:List AV)(v:AV)(h:Hp)(hv:isPn v=false):opP C cal ops (some d) rest fr (some (v,h))=runOpsP C cal ops rest (fr.set d v,h):=by
 cases v<;>first|rfl|cases hv
theorem opP_none (rest:List Oper)(fr:List AV)(v:AV)(h:Hp)(hv:isPn v=false):opP C cal ops none rest fr (some (v,h))=runOpsP C cal ops rest (fr,h):=by
 cases v<;>first|rfl|cases hv
@[simp] theorem opP_pn (d:Option Tmp)(rest:List Oper)(fr:List AV)(v:Value)(h:Hp):opP C cal ops d rest fr (some (.pn v,h))=some (.pan v,(fr,h)):=rfl
theorem opN_some (d:Tmp)(rest:List Oper)(fr:List AV)(v:AV)(h:Hp)(hv:isPn v=false):opN C cal ops (some d) rest fr (some (v,h))=runOps C cal ops rest (fr.set d v,h):=by
 cases v<;>first|rfl|cases hv
theorem opN_none (rest:List Oper)(fr:List AV)(v:AV)(h:Hp)(hv:isPn v=false):opN C cal ops none rest fr (some (v,h))=runOps C cal ops rest (fr,h):=by
 cases v<;>first|rfl|cases hv
@[simp] theorem opP_ud (d:Tmp)(rest:List Oper)(fr:List AV)(h:Hp):opP C cal ops (some d) rest fr (some (.ud,h))=runOpsP C cal ops rest (fr.set d .ud,h):=rfl
@[simp] theorem opPn_ud (rest:List Oper)(fr:List AV)(h:Hp):opP C cal ops none rest fr (some (.ud,h))=runOpsP C cal ops rest (fr,h):=rfl
@[simp] theorem opN_ud (d:Tmp)(rest:List Oper)(fr:List AV)(h:Hp):opN C cal ops (some d) rest fr (some (.ud,h))=runOps C cal ops rest (fr.set d .ud,h):=rfl
@[simp] theorem opNn_ud (rest:List Oper)(fr:List AV)(h:Hp):opN C cal ops none rest fr (some (.ud,h))=runOps C cal ops rest (fr,h):=rfl
@[simp] theorem opP_un (d:Tmp)(rest:List Oper)(fr:List AV)(h:Hp):opP C cal ops (some d) rest fr (some (.un,h))=runOpsP C cal ops rest (fr.set d .un,h):=rfl
@[simp] theorem opPn_un (rest:List Oper)(fr:List AV)(h:Hp):opP C cal ops none rest fr (some (.un,h))=runOpsP C cal ops rest (fr,h):=rfl
@[simp] theorem opN_un (d:Tmp)(rest:List Oper)(fr:List AV)(h:Hp):opN C cal ops (some d) rest fr (some (.un,h))=runOps C cal ops rest (fr.set d .un,h):=rfl
@[simp] theorem opNn_un (rest:List Oper)(fr:List AV)(h:Hp):opN C cal ops none rest fr (some (.un,h))=runOps C cal ops rest (fr,h):=rfl
@[simp] theorem opP_sc (d:Tmp)(rest:List Oper)(fr:List AV)(v:Value)(h:Hp):opP C cal ops (some d) rest fr (some ((.sc v),h))=runOpsP C cal ops rest (fr.set d (.sc v),h):=rfl
@[simp] theorem opPn_sc (rest:List Oper)(fr:List AV)(v:Value)(h:Hp):opP C cal ops none rest fr (some ((.sc v),h))=runOpsP C cal ops rest (fr,h):=rfl
@[simp] theorem opN_sc (d:Tmp)(rest:List Oper)(fr:List AV)(v:Value)(h:Hp):opN C cal ops (some d) rest fr (some ((.sc v),h))=runOps C cal ops rest (fr.set d (.sc v),h):=rfl
@[simp] theorem opNn_sc (rest:List Oper)(fr:List AV)(v:Value)(h:Hp):opN C cal ops none rest fr (some ((.sc v),h))=runOps C cal ops rest (fr,h):=rfl
@[simp] theorem opP_ls (d:Tmp)(rest:List Oper)(fr:List AV)(a:Nat)(b:List (List AV))(c:Bool)(h:Hp):opP C cal ops (some d) rest fr (some ((.ls a b c),h))=runOpsP C cal ops rest (fr.set d (.ls a b c),h):=rfl
@[simp] theorem opPn_ls (rest:List Oper)(fr:List AV)(a:Nat)(b:List (List AV))(c:Bool)(h:Hp):opP C cal ops none rest fr (some ((.ls a b c),h))=runOpsP C cal ops rest (fr,h):=rfl
@[simp] theorem opN_ls (d:Tmp)(rest:List Oper)(fr:List AV)(a:Nat)(b:List (List AV))(c:Bool)(h:Hp):opN C cal ops (some d) rest fr (some ((.ls a b c),h))=runOps C cal ops rest (fr.set d (.ls a b c),h):=rfl
@[simp] theorem opNn_ls (rest:List Oper)(fr:List AV)(a:Nat)(b:List (List AV))(c:Bool)(h:Hp):opN C cal ops none rest fr (some ((.ls a b c),h))=runOps C cal ops rest (fr,h):=rfl
@[simp] theorem opP_sl (d:Tmp)(rest:List Oper)(fr:List AV)(a b c e:Nat)(k:Bool)(h:Hp):opP C cal ops (some d) rest fr (some ((.sl a b c e k),h))=runOpsP C cal ops rest (fr.set d (.sl a b c e k),h):=rfl
@[simp] theorem opPn_sl (rest:List Oper)(fr:List AV)(a b c e:Nat)(k:Bool)(h:Hp):opP C cal ops none rest fr (some ((.sl a b c e k),h))=runOpsP C cal ops rest (fr,h):=rfl
@[simp] theorem opN_sl (d:Tmp)(rest:List Oper)(fr:List AV)(a b c e:Nat)(k:Bool)(h:Hp):opN C cal ops (some d) rest fr (some ((.sl a b c e k),h))=runOps C cal ops rest (fr.set d (.sl a b c e k),h):=rfl
@[simp] theorem opNn_sl (rest:List Oper)(fr:List AV)(a b c e:Nat)(k:Bool)(h:Hp):opN C cal ops none rest fr (some ((.sl a b c e k),h))=runOps C cal ops rest (fr,h):=rfl
@[simp] theorem opP_pt (d:Tmp)(rest:List Oper)(fr:List AV)(a b:Nat)(h:Hp):opP C cal ops (some d) rest fr (some ((.pt a b),h))=runOpsP C cal ops rest (fr.set d (.pt a b),h):=rfl
@[simp] theorem opPn_pt (rest:List Oper)(fr:List AV)(a b:Nat)(h:Hp):opP C cal ops none rest fr (some ((.pt a b),h))=runOpsP C cal ops rest (fr,h):=rfl
@[simp] theorem opN_pt (d:Tmp)(rest:List Oper)(fr:List AV)(a b:Nat)(h:Hp):opN C cal ops (some d) rest fr (some ((.pt a b),h))=runOps C cal ops rest (fr.set d (.pt a b),h):=rfl
@[simp] theorem opNn_pt (rest:List Oper)(fr:List AV)(a b:Nat)(h:Hp):opN C cal ops none rest fr (some ((.pt a b),h))=runOps C cal ops rest (fr,h):=rfl
@[simp] theorem opP_rp (d:Tmp)(rest:List Oper)(fr:List AV)(a:List AV)(b:Nat)(h:Hp):opP C cal ops (some d) rest fr (some ((.rp a b),h))=runOpsP C cal ops rest (fr.set d (.rp a b),h):=rfl
@[simp] theorem opPn_rp (rest:List Oper)(fr:List AV)(a:List AV)(b:Nat)(h:Hp):opP C cal ops none rest fr (some ((.rp a b),h))=runOpsP C cal ops rest (fr,h):=rfl
@[simp] theorem opN_rp (d:Tmp)(rest:List Oper)(fr:List AV)(a:List AV)(b:Nat)(h:Hp):opN C cal ops (some d) rest fr (some ((.rp a b),h))=runOps C cal ops rest (fr.set d (.rp a b),h):=rfl
@[simp] theorem opNn_rp (rest:List Oper)(fr:List AV)(a:List AV)(b:Nat)(h:Hp):opN C cal ops none rest fr (some ((.rp a b),h))=runOps C cal ops rest (fr,h):=rfl
@[simp] theorem opP_fn (d:Tmp)(rest:List Oper)(fr:List AV)(a:FuncId)(b:List AV)(h:Hp):opP C cal ops (some d) rest fr (some ((.fn a b),h))=runOpsP C cal ops rest (fr.set d (.fn a b),h):=rfl
@[simp] theorem opPn_fn (rest:List Oper)(fr:List AV)(a:FuncId)(b:List AV)(h:Hp):opP C cal ops none rest fr (some ((.fn a b),h))=runOpsP C cal ops rest (fr,h):=rfl
@[simp] theorem opN_fn (d:Tmp)(rest:List Oper)(fr:List AV)(a:FuncId)(b:List AV)(h:Hp):opN C cal ops (some d) rest fr (some ((.fn a b),h))=runOps C cal ops rest (fr.set d (.fn a b),h):=rfl
@[simp] theorem opNn_fn (rest:List Oper)(fr:List AV)(a:FuncId)(b:List AV)(h:Hp):opN C cal ops none rest fr (some ((.fn a b),h))=runOps C cal ops rest (fr,h):=rfl
@[simp] theorem opP_ag (d:Tmp)(rest:List Oper)(fr:List AV)(a:List AV)(h:Hp):opP C cal ops (some d) rest fr (some ((.ag a),h))=runOpsP C cal ops rest (fr.set d (.ag a),h):=rfl
@[simp] theorem opPn_ag (rest:List Oper)(fr:List AV)(a:List AV)(h:Hp):opP C cal ops none rest fr (some ((.ag a),h))=runOpsP C cal ops rest (fr,h):=rfl
@[simp] theorem opN_ag (d:Tmp)(rest:List Oper)(fr:List AV)(a:List AV)(h:Hp):opN C cal ops (some d) rest fr (some ((.ag a),h))=runOps C cal ops rest (fr.set d (.ag a),h):=rfl
@[simp] theorem opNn_ag (rest:List Oper)(fr:List AV)(a:List AV)(h:Hp):opN C cal ops none rest fr (some ((.ag a),h))=runOps C cal ops rest (fr,h):=rfl
@[simp] theorem opP_tp (d:Tmp)(rest:List Oper)(fr:List AV)(a:List AV)(h:Hp):opP C cal ops (some d) rest fr (some ((.tp a),h))=runOpsP C cal ops rest (fr.set d (.tp a),h):=rfl
@[simp] theorem opPn_tp (rest:List Oper)(fr:List AV)(a:List AV)(h:Hp):opP C cal ops none rest fr (some ((.tp a),h))=runOpsP C cal ops rest (fr,h):=rfl
@[simp] theorem opN_tp (d:Tmp)(rest:List Oper)(fr:List AV)(a:List AV)(h:Hp):opN C cal ops (some d) rest fr (some ((.tp a),h))=runOps C cal ops rest (fr.set d (.tp a),h):=rfl
@[simp] theorem opNn_tp (rest:List Oper)(fr:List AV)(a:List AV)(h:Hp):opN C cal ops none rest fr (some ((.tp a),h))=runOps C cal ops rest (fr,h):=rfl
@[simp] theorem opP_mp (d:Tmp)(rest:List Oper)(fr:List AV)(a:Nat)(h:Hp):opP C cal ops (some d) rest fr (some ((.mp a),h))=runOpsP C cal ops rest (fr.set d (.mp a),h):=rfl
@[simp] theorem opPn_mp (rest:List Oper)(fr:List AV)(a:Nat)(h:Hp):opP C cal ops none rest fr (some ((.mp a),h))=runOpsP C cal ops rest (fr,h):=rfl
@[simp] theorem opN_mp (d:Tmp)(rest:List Oper)(fr:List AV)(a:Nat)(h:Hp):opN C cal ops (some d) rest fr (some ((.mp a),h))=runOps C cal ops rest (fr.set d (.mp a),h):=rfl
@[simp] theorem opNn_mp (rest:List Oper)(fr:List AV)(a:Nat)(h:Hp):opN C cal ops none rest fr (some ((.mp a),h))=runOps C cal ops rest (fr,h):=rfl
def wantX (w:Bool)(v:AV):Option Bool:=match v with| .sc (.bool b)=>some (b==w)| .un=>some false|_=>none
@[simp] theorem wantX_un (w:Bool):wantX w .un=some false:=rfl
@[simp] theorem wantX_true (b:Bool):wantX true (.sc (.bool b))=some b:=by cases b<;>rfl
@[simp] theorem wantX_false (b:Bool):wantX false (.sc (.bool b))=some !b:=by cases b<;>rfl
def guardX (ops:Array Oper)(fr:List AV)(j:Nat)(w:Bool):Option Bool:=match(ops[j]?).bind (·.dst)with|none=>some false|some d=>wantX w (gt fr d)
@[simp] theorem wantA_some (fr:List AV)(d:Option Tmp)(op:Op)(t:TypeId)(p:String)(a:Array Edge)(j:Nat)(w:Bool):wantA ops fr {dst:=d,op:=op,type:=t,pos:=p,after:=a,guard:=some (j,w)}=guardX ops fr j w:=by
 simp only[wantA,guardX];cases (ops[j]?).bind (·.dst)with
 |none=>rfl
 |
  some d=>
  simp only[wantX,gt,List.getD];cases fr[d]? with
  |none=>rfl
  |
   some v=>
   cases v<;>try rfl
   rename_i u;cases u<;>rfl
def cellX (h:Hp)(v:AV)(sz:Nat)(agg:Bool):Option AV:=
 match v with
 | .pt id off=>(match rowOf h id with|some cs=>Ae.part agg off sz cs|none=>none)
 |_=>none
@[simp] theorem rvOf_cell (s:St)(a:Tmp)(sz:Nat)(agg:Bool):rvOf s (.cell a sz agg)=cellX s.2 (gt s.1 a) sz agg:=rfl
@[simp] theorem rvOf_tmp (s:St)(t:Tmp):rvOf s (.tmp t)=some (gt s.1 t):=rfl
@[simp] theorem wantA_none (fr:List AV)(d:Option Tmp)(op:Op)(t:TypeId)(p:String)(a:Array Edge):wantA ops fr {dst:=d,op:=op,type:=t,pos:=p,after:=a,guard:=none}=some true:=rfl
@[simp] theorem ev_tmp (fr:List AV)(t:Tmp):ev C fr (.tmp t)=gt fr t:=rfl
@[simp] theorem ev_const (fr:List AV)(v:Value):ev C fr (.const v)=ofConst v:=rfl
@[simp] theorem ev_func (fr:List AV)(f:FuncId):ev C fr (.func f)= .fn f []:=rfl
@[simp] theorem isNilC_tmp (t:Tmp):isNilC (.tmp t)=false:=rfl
theorem aop_warm {e:Operand→AV}{h:Hp}{o:Oper}(hc:C.cold o=false):aop C cal e h o=aopW C cal e h o:=by unfold aop;rw[hc];rfl
end two
def resR (res:List Rv)(s:St):Option AV:=
 match res with
 | [t]=>rvOf s t
 |ts=>(ts.mapM (rvOf s)).map .tp
def finX (res:List Rv)(x:Option (Out × St)):Option (AV × Hp):=
 match x with
 |some (.normal,s)=>(resR res s).map fun r=>(r,s.2)
 |some (.ret,s)=>(resR res s).map fun r=>(r,s.2)
 |some (.pan v,s)=>some (.pn v,s.2)
 |_=>none
@[simp] theorem resR_one (s:St)(r:Rv):resR [r] s=rvOf s r:=rfl
@[simp] theorem resR_two (s:St)(r q:Rv):resR [r,q] s=(([r,q]:List Rv).mapM (rvOf s)).map .tp:=rfl
@[simp] theorem resR_three (s:St)(r q u:Rv):resR [r,q,u] s=(([r,q,u]:List Rv).mapM (rvOf s)).map .tp:=rfl
@[simp] theorem finX_normal (fi:List Rv)(s:St):finX fi (some (.normal,s))=(resR fi s).map fun r=>(r,s.2):=rfl
@[simp] theorem finX_ret (fi:List Rv)(s:St):finX fi (some (.ret,s))=(resR fi s).map fun r=>(r,s.2):=rfl
@[simp] theorem finX_pan (fi:List Rv)(v:Value)(s:St):finX fi (some (.pan v,s))=some (.pn v,s.2):=rfl
section body
variable {C : Cx} {call : Bool → FuncId → List AV → Hp → Option (AV × Hp)}
theorem body1_of {f:FuncId}{fi:Fi}(hF:C.F f=some fi)(hok:ok2 C fi.body=true){args:List AV}(hl:args.length≤fi.ntmps)(h:Hp):
 body1 C call f args h=finX fi.res (exec2 C call fi.body (args++List.replicate (fi.ntmps-args.length) .un,h)):=by
 unfold body1;rw[hF];simp only[hl,if_true];rw[exec2_eq _ hok];rfl
theorem snap_of_calm {h:Hp}{n:Nat}{x:AV}(hc:calm x=true):snap h (n+2) x=some x:=by
 have one:∀(m:Nat) (y:AV),(match y with| .sc _| .ls .. | .rp .. =>true|_=>false)=true→snap h m y=some y:=by
  intro m y hy;cases y<;>simp at hy<;>simp[snap]
 have all:∀(m:Nat) (ys:List AV),(ys.all fun| .sc _| .ls .. | .rp .. =>true|_=>false)=true→ys.mapM (snap h m)=some ys:=by
  intro m ys
  induction ys with
  |nil=>intro _;rfl
  |
   cons y ys ih=>
   intro hy;simp only[Zn,Zh]at hy;rw[Zo,one m y hy.1,ih hy.2];rfl
 unfold calm at hc;split at hc
 ·simp[snap]
 ·simp[snap]
 ·simp[snap]
 ·rename_i xs;simp only[snap];rw[all _ xs hc];rfl
 ·rename_i xs;simp only[snap];rw[all _ xs hc];rfl
 ·cases hc
theorem mapM_calm {h:Hp}{n:Nat}:∀{xs:List AV},xs.all calm=true→xs.mapM (snap h (n+2))=some xs
 | [],_=>rfl
 |
  x::xs,hx=>by
  simp only[Zn,Zh]at hx;rw[Zo,snap_of_calm hx.1,mapM_calm hx.2];rfl
theorem call_pureN {f:FuncId}{args:List AV}{n:Nat}{r r':AV}{h':Hp}(hs:C.srt f=none)(hi:C.inl f=false)(ht:C.tab f args=none)(hc:args.all calm=true)
 (hb:body1 C (callN C n) f args []=some (r,h')) (hr:snap h' 8 r=some r') (b:Bool) (h:Hp):callN C (n+1) b f args h=some (C.nf f r',h):=by
 have e:args.mapM (snap h 8)=some args:=mapM_calm (n:=6) hc;simp only[callN,hs,hi,Yl,if_false,e,ht,hb,hr,hc,Bool.true_or,if_true,Option.map_some]
theorem call_pure {f:FuncId}{args:List AV}{n:Nat}{r r':AV}{h':Hp}(hs:C.srt f=none)(hi:C.inl f=false)(ht:C.tab f args=none)(hn:C.nf f r'=r')(hc:args.all calm=true)
 (hb:body1 C (callN C n) f args []=some (r,h')) (hr:snap h' 8 r=some r') (b:Bool) (h:Hp):callN C (n+1) b f args h=some (r',h):=by
 rw[call_pureN hs hi ht hc hb hr b h,hn]
theorem call_tab {f:FuncId}{args:List AV}{n:Nat}{r:AV}(hs:C.srt f=none)(hi:C.inl f=false)(ht:C.tab f args=some r)(hc:args.all calm=true)(b:Bool)(h:Hp):callN C (n+1) b f args h=some (r,h):=by
 have e:args.mapM (snap h 8)=some args:=mapM_calm (n:=6) hc;simp only[callN,hs,hi,Yl,if_false,e,ht,hc,Bool.true_or,if_true]
end body
theorem loopN_rule {f:St→Option (Out × St)}(Inv:Nat→St→Prop)(Q:Out→St→Prop)
 (step:∀k s,Inv k s→∃o s',f s=some (o,s')∧(match o with| .normal=>∃k',k'<k∧Inv k' s'|o=>Q o s')):
 ∀(k:Nat) (s:St),Inv k s→∀fuel,k<fuel→∃o s',loopN f fuel s=some (o,s')∧o≠ .normal∧Q o s':=by
 intro k
 induction k using Nat.strongRecOn with
 |
  ind k ih=>
  intro s hI fuel hk;obtain⟨m,rfl⟩:∃m,fuel=m+1:=⟨fuel-1,by omega⟩;obtain⟨o,s',h1,h2⟩:=step k s hI;simp only[loopN,h1];cases o with
  |
   normal=>
   obtain⟨k',hk',hI'⟩:=h2;exact ih k' hk' s' hI' m (by omega)
  |exit i=>exact⟨_,_,rfl,by simp,h2⟩
  |ret=>exact⟨_,_,rfl,by simp,h2⟩
  |pan v=>exact⟨_,_,rfl,by simp,h2⟩
theorem loop_goal {C:Cx}{call:Bool→Cal}{c:Code}{s:St}{G:Option (Out × St)→Prop}(Inv:Nat→St→Prop)(Q:Out→St→Prop)(k:Nat)(hk:k<C.fuel)(hI:Inv k s)
 (step:∀k s,Inv k s→∃o s',exec2 C call c s=some (o,s')∧(match o with| .normal=>∃k',k'<k∧Inv k' s'|o=>Q o s')) (fin:∀o s',o≠ .normal→Q o s'→G (some (o,s'))):G (exec2 C call (.loop c) s):=by
 obtain⟨o,s',h1,h2,h3⟩:=loopN_rule Inv Q step k s hI C.fuel hk;show G (loopN (exec2 C call c) C.fuel s);rw[h1];exact fin o s' h2 h3
def RoundX (Inv:Nat→St→Prop)(Q:Out→St→Prop)(k:Nat):Option (Out × St)→Prop
 |some (.normal,s)=>∃k',k'<k∧Inv k' s
 |some (o,s)=>Q o s
 |none=>False
@[simp] theorem RoundX_normal (Inv:Nat→St→Prop)(Q:Out→St→Prop)(k:Nat)(s:St):RoundX Inv Q k (some (.normal,s))=∃k',k'<k∧Inv k' s:=rfl
@[simp] theorem RoundX_exit (Inv:Nat→St→Prop)(Q:Out→St→Prop)(k i:Nat)(s:St):RoundX Inv Q k (some (.exit i,s))=Q (.exit i) s:=rfl
@[simp] theorem RoundX_ret (Inv:Nat→St→Prop)(Q:Out→St→Prop)(k:Nat)(s:St):RoundX Inv Q k (some (.ret,s))=Q .ret s:=rfl
@[simp] theorem RoundX_pan (Inv:Nat→St→Prop)(Q:Out→St→Prop)(k:Nat)(v:Value)(s:St):RoundX Inv Q k (some (.pan v,s))=Q (.pan v) s:=rfl
def UpX (Inv:Nat→St→Prop)(Q:Out→St→Prop)(N i:Nat):Option (Out × St)→Prop
 |some (.normal,s)=>i<N∧Inv (i+1) s
 |some (o,s)=>Q o s
 |none=>False
@[simp] theorem UpX_normal (Inv:Nat→St→Prop)(Q:Out→St→Prop)(N i:Nat)(s:St):UpX Inv Q N i (some (.normal,s))=(i<N∧Inv (i+1) s):=rfl
@[simp] theorem UpX_exit (Inv:Nat→St→Prop)(Q:Out→St→Prop)(N i j:Nat)(s:St):UpX Inv Q N i (some (.exit j,s))=Q (.exit j) s:=rfl
@[simp] theorem UpX_ret (Inv:Nat→St→Prop)(Q:Out→St→Prop)(N i:Nat)(s:St):UpX Inv Q N i (some (.ret,s))=Q .ret s:=rfl
@[simp] theorem UpX_pan (Inv:Nat→St→Prop)(Q:Out→St→Prop)(N i:Nat)(v:Value)(s:St):UpX Inv Q N i (some (.pan v,s))=Q (.pan v) s:=rfl
theorem loop_down {C:Cx}{call:Bool→Cal}{c:Code}{fr:List AV}{h:Hp}{G:Option (Out × St)→Prop}(Inv:Nat→St→Prop)(Q:Out→St→Prop)(k:Nat)(hk:k<C.fuel)(hI:Inv k (fr,h))
 (step:∀k fr h,Inv k (fr,h)→RoundX Inv Q k (exec2 C call c (fr,h))) (fin:∀o fr h,o≠ .normal→Q o (fr,h)→G (some (o,(fr,h)))):G (exec2 C call (.loop c) (fr,h)):=by
 refine loop_goal Inv Q k hk hI (fun k s hs=>?_) fun o s=>fin o s.1 s.2
 have:=step k s.1 s.2 hs
 revert this
 cases exec2 C call c (s.1,s.2)with
 |none=>exact fun h=>h.elim
 |
  some q=>
  obtain⟨o,s'⟩:=q;intro h;refine⟨o,s',rfl,?_⟩;cases o<;>exact h
theorem loop_up {C:Cx}{call:Bool→Cal}{c:Code}{fr:List AV}{h:Hp}{G:Option (Out × St)→Prop}(Inv:Nat→St→Prop)(Q:Out→St→Prop)(N:Nat)(hN:N<C.fuel)(hI:Inv 0 (fr,h))
 (step:∀i fr h,i≤N→Inv i (fr,h)→UpX Inv Q N i (exec2 C call c (fr,h))) (fin:∀o fr h,o≠ .normal→Q o (fr,h)→G (some (o,(fr,h)))):G (exec2 C call (.loop c) (fr,h)):=by
 refine loop_goal (fun k s=>∃i,i+k=N∧Inv i s) Q N hN ⟨0,by omega,hI⟩ (fun k s hs=>?_) fun o s=>fin o s.1 s.2
 obtain⟨i,hi,hs⟩:=hs;have:=step i s.1 s.2 (by omega) hs
 revert this
 cases exec2 C call c (s.1,s.2)with
 |none=>exact fun h=>h.elim
 |
  some q=>
  obtain⟨o,s'⟩:=q;intro h;refine⟨o,s',rfl,?_⟩;cases o with
  |normal=>exact⟨k-1,by have:=h.1;omega,i+1,by have:=h.1;omega,h.2⟩
  |exit j=>exact h
  |ret=>exact h
  |pan v=>exact h
end Go.Ae
