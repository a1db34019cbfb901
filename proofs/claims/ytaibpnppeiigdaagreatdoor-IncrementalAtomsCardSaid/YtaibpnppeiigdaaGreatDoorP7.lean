/- Part of the proof. -/
import Derived.Test.YtaibpnppeiigdaaGreatDoorP6
import Derived.Lib.ItoaNum
set_option linter.all false
namespace Go.Ae
open Go
def dS (C:Cx)(call:Bool->jH):Code->St->Option (Out × St)
 | .skip,s=>some (.normal,s)
 | .label _,s=>some (.normal,s)
 | .region _ ops mixed,s=>bif mixed then(dz C (call false) ops ops.toList s).map λs'=>(.normal,s')else eh C (call true) ops ops.toList s
 |
  .seq a b,s=>match dS C call a s with
  |some (.normal,s')=>dS C call b s'
  |r=>r
 |
  .cond c a b,s=>match ev C s.1 c with
  | .sc (.bool true)=>dS C call a s
  | .sc (.bool false)=>dS C call b s
  |_=>none
 |
  .block id c,s=>match dS C call c s with
  |some (.exit i,s')=>some (if i=id then .normal else .exit i,s')
  |r=>r
 | .loop c,s=>tK (dS C call c) C.fuel s
 | .exit id,s=>some (.exit id,s)
 | .ret,s=>some (.ret,s)
 |_,_=>none
def tv (C:Cx):Code->Bool
 | .region _ ops true=>(needs C ops).isEmpty && !Hv C ops
 | .seq a b=>tv C a && tv C b
 | .cond _ a b=>tv C a && tv C b
 | .block _ c=>tv C c
 | .loop c=>tv C c
 |_=>true
section two
variable {C : Cx} {call : Bool -> FuncId -> List AV -> Hp -> Option (AV × Hp)}
def gU {cal:jH}{ops:Array Oper}:∀(l:List Oper) (s:St),(gD C cal ops l s).bind (·[l.length]?)=dz C cal ops l s
 | [],s=>rfl
 |
  o::l,s=>by
  simp only[gD,dz];cases step1 C cal ops o s with
  |none=>rfl
  |
   some s'=>
   simp only;rw[<-gU l s'];cases gD C cal ops l s' with
   |none=>rfl
   |some m=>simp
def Cj :∀(c:Code),tv C c=true->exec C call c=dS C call c:=by
 intro c
 induction c with
 |
  region id ops mixed=>
  intro hk
  funext s
  simp only[exec,dS];cases mixed with
  |false=>rfl
  |
   true=>
   simp only[tv,Zh,Xc,List.isEmpty_iff]at hk;rw[<-gU];simp only[hk.1,wR,hk.2,Yq,if_false,if_true,cond_true,Array.length_toList];cases gD C (call false) ops ops.toList s with
   |none=>rfl
   |some m=>simp
 |
  seq x y O6 XE=>
  intro hk;simp only[tv,Zh]at hk
  funext s
  simp only[exec,dS,O6 hk.1,XE hk.2];rfl
 |
  cond q x y O6 XE=>
  intro hk;simp only[tv,Zh]at hk
  funext s
  simp only[exec,dS,O6 hk.1,XE hk.2];rfl
 |
  block id x ih=>
  intro hk;simp only[tv]at hk
  funext s
  simp only[exec,dS,ih hk];rfl
 |
  loop x ih=>
  intro hk;simp only[tv]at hk
  funext s
  simp only[exec,dS,ih hk]
 |_=>intro _;rfl
def eR (C:Cx)(call:Bool->jH)(x:Option (Out × St))(b:Code):Option (Out × St):=
 match x with|some (.normal,s)=>dS C call b s|r=>r
def Pf (C:Cx)(call:Bool->jH)(v:AV)(a b:Code)(s:St):Option (Out × St):=
 match v with| .sc (.bool true)=>dS C call a s| .sc (.bool false)=>dS C call b s|_=>none
def dL (id:Nat)(x:Option (Out × St)):Option (Out × St):=
 match x with|some (.exit i,s')=>some (if i=id then .normal else .exit i,s')|r=>r
def DH (x:Option St):Option (Out × St):=match x with|some s=>some (.normal,s)|none=>none
def tV (C:Cx)(cal:jH)(ops:Array Oper)(d:Option Tmp)(rest:List Oper)(fr:List AV)(x:Option (AV × Hp)):Option (Out × St):=
 match x with
 |some (.pn v,h)=>some (.vE v,(fr,h))
 |some (v,h)=>eh C cal ops rest (match d with|some d=>fr.set d v|none=>fr,h)
 |none=>none
def wE (C:Cx)(cal:jH)(ops:Array Oper)(d:Option Tmp)(rest:List Oper)(fr:List AV)(x:Option (AV × Hp)):Option St:=
 match x with
 |some (.pn _,_)=>none
 |some (v,h)=>dz C cal ops rest (match d with|some d=>fr.set d v|none=>fr,h)
 |none=>none
def guP (C:Cx)(cal:jH)(ops:Array Oper)(o:Oper)(rest:List Oper)(fr:List AV)(h:Hp)(w:Option Bool):Option (Out × St):=
 match w with
 |some true=>tV C cal ops o.dst rest fr (n0 C cal (ev C fr) h o)
 |some false=>eh C cal ops rest (rX o fr .un,h)
 |none=>none
def guN (C:Cx)(cal:jH)(ops:Array Oper)(o:Oper)(rest:List Oper)(fr:List AV)(h:Hp)(w:Option Bool):Option St:=
 match w with
 |some true=>wE C cal ops o.dst rest fr (n0 C cal (ev C fr) h o)
 |some false=>dz C cal ops rest (rX o fr .un,h)
 |none=>none
def gt (fr:List AV)(t:Tmp):AV:=fr.getD t .ud
@[simp] def aia (a:AV)(l:List AV):gt (a::l) 0=a:=rfl
@[simp] def ZO (a:AV)(l:List AV)(n:Nat):gt (a::l) (n+1)=gt l n:=rfl
@[simp] def ald (fr:List AV)(d t:Nat)(v:AV):gt (fr.set d v) t=if d=t then(if d<fr.length then v else gt fr t)else gt fr t:=by
 unfold gt;rw[List.getD,List.getElem?_set];split
 .rename_i e;subst e;split
  .rfl
  .rename_i h;rw[List.getD,Xt (by omega)]
 .rfl
def C3 :AV->Bool| .pn _=>true|_=>false
@[simp] def ait :C3 .ud=false:=rfl
@[simp] def ah8 :C3 .un=false:=rfl
@[simp] def aiN (v:Value):C3 (.sc v)=false:=rfl
@[simp] def aiF (a:Nat)(b:List (List AV))(c:Bool):C3 (.ls a b c)=false:=rfl
@[simp] def ai9 (a b c d:Nat)(k:Bool):C3 (.sl a b c d k)=false:=rfl
@[simp] def aij (a b:Nat):C3 (.pt a b)=false:=rfl
@[simp] def ail (a:List AV)(b:Nat):C3 (.rp a b)=false:=rfl
@[simp] def aiC (a:FuncId)(b:List AV):C3 (.fn a b)=false:=rfl
@[simp] def aiL (a:List AV):C3 (.ag a)=false:=rfl
@[simp] def aiW (a:List AV):C3 (.tp a)=false:=rfl
@[simp] def aiG (a:Nat):C3 (.mp a)=false:=rfl
@[simp] def afj (s:St):dS C call .skip s=some (.normal,s):=rfl
@[simp] def acK (l:Nat)(s:St):dS C call (.label l) s=some (.normal,s):=rfl
@[simp] def afA (i:Nat)(s:St):dS C call (.exit i) s=some (.exit i,s):=rfl
@[simp] def afW (s:St):dS C call .ret s=some (.ret,s):=rfl
@[simp] def afT (a b:Code)(s:St):dS C call (.seq a b) s=eR C call (dS C call a s) b:=rfl
@[simp] def afC (q:Operand)(a b:Code)(fr:List AV)(h:Hp):dS C call (.cond q a b) (fr,h)=Pf C call (ev C fr q) a b (fr,h):=rfl
@[simp] def ac6 (id:Nat)(c:Code)(s:St):dS C call (.block id c) s=dL id (dS C call c s):=rfl
@[simp] def acY (id:Nat)(l:List Oper)(s:St):dS C call (.region id l.toArray false) s=eh C (call true) l.toArray l s:=rfl
@[simp] def acL (id:Nat)(l:List Oper)(s:St):dS C call (.region id l.toArray true) s=DH (dz C (call false) l.toArray l s):=by
 show Option.map _ _=_;cases dz C (call false) l.toArray l s<;>rfl
@[simp] def afK (s:St):DH (some s)=some (.normal,s):=rfl
@[simp] def ab5 (s:St)(b:Code):eR C call (some (.normal,s)) b=dS C call b s:=rfl
@[simp] def afM (s:St)(b:Code):eR C call (some (.ret,s)) b=some (.ret,s):=rfl
@[simp] def afG (i:Nat)(s:St)(b:Code):eR C call (some (.exit i,s)) b=some (.exit i,s):=rfl
@[simp] def afX (v:Value)(s:St)(b:Code):eR C call (some (.vE v,s)) b=some (.vE v,s):=rfl
@[simp] def afp (a b:Code)(s:St):Pf C call (.sc (.bool true)) a b s=dS C call a s:=rfl
@[simp] def acS (a b:Code)(s:St):Pf C call (.sc (.bool false)) a b s=dS C call b s:=rfl
def E_ (t:Bool)(a b:Code)(s:St):Pf C call (.sc (.bool t)) a b s=if t=true then dS C call a s else dS C call b s:=by cases t<;>rfl
@[simp] def YX (i:Nat)(s:St):dL i (some (.normal,s))=some (.normal,s):=rfl
@[simp] def afs (i:Nat)(s:St):dL i (some (.ret,s))=some (.ret,s):=rfl
@[simp] def afv (i:Nat)(v:Value)(s:St):dL i (some (.vE v,s))=some (.vE v,s):=rfl
@[simp] def acQ (i j:Nat)(s:St):dL i (some (.exit j,s))=some (if j=i then .normal else .exit j,s):=rfl
variable {cal : FuncId -> List AV -> Hp -> Option (AV × Hp)} {ops : Array Oper}
@[simp] def ac0 (s:St):eh C cal ops [] s=some (.normal,s):=rfl
@[simp] def afE (s:St):dz C cal ops [] s=some s:=rfl
@[simp] def ab3 (o:Oper)(rest:List Oper)(fr:List AV)(h:Hp):eh C cal ops (o::rest) (fr,h)=guP C cal ops o rest fr h (gX ops fr o):=by
 simp only[eh,step1,guP];cases gX ops fr o with
 |none=>rfl
 |
  some b=>
  cases b with
  |false=>rfl
  |
   true=>
   simp only[tV];cases n0 C cal (ev C fr) h o with
   |none=>rfl
   |
    some q=>
    obtain⟨v,h'⟩:=q;cases v<;>rfl
@[simp] def acN (o:Oper)(rest:List Oper)(fr:List AV)(h:Hp):dz C cal ops (o::rest) (fr,h)=guN C cal ops o rest fr h (gX ops fr o):=by
 simp only[dz,step1,guN];cases gX ops fr o with
 |none=>rfl
 |
  some b=>
  cases b with
  |false=>rfl
  |
   true=>
   simp only[wE];cases n0 C cal (ev C fr) h o with
   |none=>rfl
   |
    some q=>
    obtain⟨v,h'⟩:=q;cases v<;>rfl
@[simp] def ahS (o:Oper)(rest:List Oper)(fr:List AV)(h:Hp):guP C cal ops o rest fr h (some true)=tV C cal ops o.dst rest fr (n0 C cal (ev C fr) h o):=rfl
@[simp] def afV (o:Oper)(rest:List Oper)(fr:List AV)(h:Hp):guP C cal ops o rest fr h (some false)=eh C cal ops rest (rX o fr .un,h):=rfl
@[simp] def ahZ (o:Oper)(rest:List Oper)(fr:List AV)(h:Hp):guN C cal ops o rest fr h (some true)=wE C cal ops o.dst rest fr (n0 C cal (ev C fr) h o):=rfl
@[simp] def afS (o:Oper)(rest:List Oper)(fr:List AV)(h:Hp):guN C cal ops o rest fr h (some false)=dz C cal ops rest (rX o fr .un,h):=rfl
@[simp] def ak4 (d:Option Tmp)(rest:List Oper)(fr:List AV)(v:Value)(h:Hp):tV C cal ops d rest fr (some (.pn v,h))=some (.vE v,(fr,h)):=rfl
@[simp] def alm (d:Tmp)(rest:List Oper)(fr:List AV)(h:Hp):tV C cal ops (some d) rest fr (some (.ud,h))=eh C cal ops rest (fr.set d .ud,h):=rfl
@[simp] def aiV (rest:List Oper)(fr:List AV)(h:Hp):tV C cal ops none rest fr (some (.ud,h))=eh C cal ops rest (fr,h):=rfl
@[simp] def ak5 (d:Tmp)(rest:List Oper)(fr:List AV)(h:Hp):wE C cal ops (some d) rest fr (some (.ud,h))=dz C cal ops rest (fr.set d .ud,h):=rfl
@[simp] def aiD (rest:List Oper)(fr:List AV)(h:Hp):wE C cal ops none rest fr (some (.ud,h))=dz C cal ops rest (fr,h):=rfl
@[simp] def akV (d:Tmp)(rest:List Oper)(fr:List AV)(h:Hp):tV C cal ops (some d) rest fr (some (.un,h))=eh C cal ops rest (fr.set d .un,h):=rfl
@[simp] def aib (rest:List Oper)(fr:List AV)(h:Hp):tV C cal ops none rest fr (some (.un,h))=eh C cal ops rest (fr,h):=rfl
@[simp] def alf (d:Tmp)(rest:List Oper)(fr:List AV)(h:Hp):wE C cal ops (some d) rest fr (some (.un,h))=dz C cal ops rest (fr.set d .un,h):=rfl
@[simp] def aih (rest:List Oper)(fr:List AV)(h:Hp):wE C cal ops none rest fr (some (.un,h))=dz C cal ops rest (fr,h):=rfl
@[simp] def ala (d:Tmp)(rest:List Oper)(fr:List AV)(v:Value)(h:Hp):tV C cal ops (some d) rest fr (some ((.sc v),h))=eh C cal ops rest (fr.set d (.sc v),h):=rfl
@[simp] def aic (rest:List Oper)(fr:List AV)(v:Value)(h:Hp):tV C cal ops none rest fr (some ((.sc v),h))=eh C cal ops rest (fr,h):=rfl
@[simp] def ak9 (d:Tmp)(rest:List Oper)(fr:List AV)(v:Value)(h:Hp):wE C cal ops (some d) rest fr (some ((.sc v),h))=dz C cal ops rest (fr.set d (.sc v),h):=rfl
@[simp] def ai2 (rest:List Oper)(fr:List AV)(v:Value)(h:Hp):wE C cal ops none rest fr (some ((.sc v),h))=dz C cal ops rest (fr,h):=rfl
@[simp] def alg (d:Tmp)(rest:List Oper)(fr:List AV)(a:Nat)(b:List (List AV))(c:Bool)(h:Hp):tV C cal ops (some d) rest fr (some ((.ls a b c),h))=eh C cal ops rest (fr.set d (.ls a b c),h):=rfl
@[simp] def aiz (rest:List Oper)(fr:List AV)(a:Nat)(b:List (List AV))(c:Bool)(h:Hp):tV C cal ops none rest fr (some ((.ls a b c),h))=eh C cal ops rest (fr,h):=rfl
@[simp] def akU (d:Tmp)(rest:List Oper)(fr:List AV)(a:Nat)(b:List (List AV))(c:Bool)(h:Hp):wE C cal ops (some d) rest fr (some ((.ls a b c),h))=dz C cal ops rest (fr.set d (.ls a b c),h):=rfl
@[simp] def ai6 (rest:List Oper)(fr:List AV)(a:Nat)(b:List (List AV))(c:Bool)(h:Hp):wE C cal ops none rest fr (some ((.ls a b c),h))=dz C cal ops rest (fr,h):=rfl
@[simp] def ak6 (d:Tmp)(rest:List Oper)(fr:List AV)(a b c e:Nat)(k:Bool)(h:Hp):tV C cal ops (some d) rest fr (some ((.sl a b c e k),h))=eh C cal ops rest (fr.set d (.sl a b c e k),h):=rfl
@[simp] def aid (rest:List Oper)(fr:List AV)(a b c e:Nat)(k:Bool)(h:Hp):tV C cal ops none rest fr (some ((.sl a b c e k),h))=eh C cal ops rest (fr,h):=rfl
@[simp] def ak2 (d:Tmp)(rest:List Oper)(fr:List AV)(a b c e:Nat)(k:Bool)(h:Hp):wE C cal ops (some d) rest fr (some ((.sl a b c e k),h))=dz C cal ops rest (fr.set d (.sl a b c e k),h):=rfl
@[simp] def aiM (rest:List Oper)(fr:List AV)(a b c e:Nat)(k:Bool)(h:Hp):wE C cal ops none rest fr (some ((.sl a b c e k),h))=dz C cal ops rest (fr,h):=rfl
@[simp] def akP (d:Tmp)(rest:List Oper)(fr:List AV)(a b:Nat)(h:Hp):tV C cal ops (some d) rest fr (some ((.pt a b),h))=eh C cal ops rest (fr.set d (.pt a b),h):=rfl
@[simp] def ajf (rest:List Oper)(fr:List AV)(a b:Nat)(h:Hp):tV C cal ops none rest fr (some ((.pt a b),h))=eh C cal ops rest (fr,h):=rfl
@[simp] def ak3 (d:Tmp)(rest:List Oper)(fr:List AV)(a b:Nat)(h:Hp):wE C cal ops (some d) rest fr (some ((.pt a b),h))=dz C cal ops rest (fr.set d (.pt a b),h):=rfl
@[simp] def ai5 (rest:List Oper)(fr:List AV)(a b:Nat)(h:Hp):wE C cal ops none rest fr (some ((.pt a b),h))=dz C cal ops rest (fr,h):=rfl
@[simp] def akX (d:Tmp)(rest:List Oper)(fr:List AV)(a:List AV)(b:Nat)(h:Hp):tV C cal ops (some d) rest fr (some ((.rp a b),h))=eh C cal ops rest (fr.set d (.rp a b),h):=rfl
@[simp] def aiE (rest:List Oper)(fr:List AV)(a:List AV)(b:Nat)(h:Hp):tV C cal ops none rest fr (some ((.rp a b),h))=eh C cal ops rest (fr,h):=rfl
@[simp] def alc (d:Tmp)(rest:List Oper)(fr:List AV)(a:List AV)(b:Nat)(h:Hp):wE C cal ops (some d) rest fr (some ((.rp a b),h))=dz C cal ops rest (fr.set d (.rp a b),h):=rfl
@[simp] def aii (rest:List Oper)(fr:List AV)(a:List AV)(b:Nat)(h:Hp):wE C cal ops none rest fr (some ((.rp a b),h))=dz C cal ops rest (fr,h):=rfl
@[simp] def akY (d:Tmp)(rest:List Oper)(fr:List AV)(a:FuncId)(b:List AV)(h:Hp):tV C cal ops (some d) rest fr (some ((.fn a b),h))=eh C cal ops rest (fr.set d (.fn a b),h):=rfl
@[simp] def aiv (rest:List Oper)(fr:List AV)(a:FuncId)(b:List AV)(h:Hp):tV C cal ops none rest fr (some ((.fn a b),h))=eh C cal ops rest (fr,h):=rfl
@[simp] def akT (d:Tmp)(rest:List Oper)(fr:List AV)(a:FuncId)(b:List AV)(h:Hp):wE C cal ops (some d) rest fr (some ((.fn a b),h))=dz C cal ops rest (fr.set d (.fn a b),h):=rfl
@[simp] def aio (rest:List Oper)(fr:List AV)(a:FuncId)(b:List AV)(h:Hp):wE C cal ops none rest fr (some ((.fn a b),h))=dz C cal ops rest (fr,h):=rfl
@[simp] def alh (d:Tmp)(rest:List Oper)(fr:List AV)(a:List AV)(h:Hp):tV C cal ops (some d) rest fr (some ((.ag a),h))=eh C cal ops rest (fr.set d (.ag a),h):=rfl
@[simp] def aiH (rest:List Oper)(fr:List AV)(a:List AV)(h:Hp):tV C cal ops none rest fr (some ((.ag a),h))=eh C cal ops rest (fr,h):=rfl
@[simp] def ak1 (d:Tmp)(rest:List Oper)(fr:List AV)(a:List AV)(h:Hp):wE C cal ops (some d) rest fr (some ((.ag a),h))=dz C cal ops rest (fr.set d (.ag a),h):=rfl
@[simp] def ai0 (rest:List Oper)(fr:List AV)(a:List AV)(h:Hp):wE C cal ops none rest fr (some ((.ag a),h))=dz C cal ops rest (fr,h):=rfl
@[simp] def akZ (d:Tmp)(rest:List Oper)(fr:List AV)(a:List AV)(h:Hp):tV C cal ops (some d) rest fr (some ((.tp a),h))=eh C cal ops rest (fr.set d (.tp a),h):=rfl
@[simp] def aiY (rest:List Oper)(fr:List AV)(a:List AV)(h:Hp):tV C cal ops none rest fr (some ((.tp a),h))=eh C cal ops rest (fr,h):=rfl
@[simp] def ale (d:Tmp)(rest:List Oper)(fr:List AV)(a:List AV)(h:Hp):wE C cal ops (some d) rest fr (some ((.tp a),h))=dz C cal ops rest (fr.set d (.tp a),h):=rfl
@[simp] def aiS (rest:List Oper)(fr:List AV)(a:List AV)(h:Hp):wE C cal ops none rest fr (some ((.tp a),h))=dz C cal ops rest (fr,h):=rfl
@[simp] def ak8 (d:Tmp)(rest:List Oper)(fr:List AV)(a:Nat)(h:Hp):tV C cal ops (some d) rest fr (some ((.mp a),h))=eh C cal ops rest (fr.set d (.mp a),h):=rfl
@[simp] def aiA (rest:List Oper)(fr:List AV)(a:Nat)(h:Hp):tV C cal ops none rest fr (some ((.mp a),h))=eh C cal ops rest (fr,h):=rfl
@[simp] def aln (d:Tmp)(rest:List Oper)(fr:List AV)(a:Nat)(h:Hp):wE C cal ops (some d) rest fr (some ((.mp a),h))=dz C cal ops rest (fr.set d (.mp a),h):=rfl
@[simp] def aiK (rest:List Oper)(fr:List AV)(a:Nat)(h:Hp):wE C cal ops none rest fr (some ((.mp a),h))=dz C cal ops rest (fr,h):=rfl
def KC (w:Bool)(v:AV):Option Bool:=match v with| .sc (.bool b)=>some (b==w)| .un=>some false|_=>none
@[simp] def ahP (w:Bool):KC w .un=some false:=rfl
@[simp] def afz (b:Bool):KC true (.sc (.bool b))=some b:=by cases b<;>rfl
@[simp] def acZ (b:Bool):KC false (.sc (.bool b))=some !b:=by cases b<;>rfl
def Ny (ops:Array Oper)(fr:List AV)(j:Nat)(w:Bool):Option Bool:=match(ops[j]?).bind (·.dst)with|none=>some false|some d=>KC w (gt fr d)
@[simp] def afh (fr:List AV)(d:Option Tmp)(op:Op)(t:TypeId)(p:String)(a:Array Edge)(j:Nat)(w:Bool):gX ops fr {dst:=d,op:=op,type:=t,pos:=p,after:=a,guard:=some (j,w)}=Ny ops fr j w:=by
 simp only[gX,Ny];cases (ops[j]?).bind (·.dst)with
 |none=>rfl
 |
  some d=>
  simp only[KC,gt,List.getD];cases fr[d]? with
  |none=>rfl
  |
   some v=>
   cases v<;>try rfl
   rename_i u;cases u<;>rfl
def XM (h:Hp)(v:AV)(sz:Nat)(agg:Bool):Option AV:=
 match v with
 | .pt id off=>(match gI h id with|some cs=>Ae.part agg off sz cs|none=>none)
 |_=>none
@[simp] def af1 (s:St)(a:Tmp)(sz:Nat)(agg:Bool):ye s (.cell a sz agg)=XM s.2 (gt s.1 a) sz agg:=rfl
@[simp] def ahU (s:St)(t:Tmp):ye s (.tmp t)=some (gt s.1 t):=rfl
@[simp] def afD (fr:List AV)(d:Option Tmp)(op:Op)(t:TypeId)(p:String)(a:Array Edge):gX ops fr {dst:=d,op:=op,type:=t,pos:=p,after:=a,guard:=none}=some true:=rfl
@[simp] def akR (fr:List AV)(t:Tmp):ev C fr (.tmp t)=gt fr t:=rfl
@[simp] def ah2 (fr:List AV)(v:Value):ev C fr (.const v)=ofConst v:=rfl
@[simp] def aie (fr:List AV)(f:FuncId):ev C fr (.func f)= .fn f []:=rfl
@[simp] def afw (t:Tmp):A2 (.tmp t)=false:=rfl
end two
def uo (res:List Rv)(s:St):Option AV:=
 match res with
 | [t]=>ye s t
 |ts=>(ts.mapM (ye s)).map .tp
def eQ (res:List Rv)(x:Option (Out × St)):Option (AV × Hp):=
 match x with
 |some (.normal,s)=>(uo res s).map λr=>(r,s.2)
 |some (.ret,s)=>(uo res s).map λr=>(r,s.2)
 |some (.vE v,s)=>some (.pn v,s.2)
 |_=>none
@[simp] def ahQ (s:St)(r:Rv):uo [r] s=ye s r:=rfl
@[simp] def ah1 (s:St)(r q:Rv):uo [r,q] s=(([r,q]:List Rv).mapM (ye s)).map .tp:=rfl
@[simp] def afH (s:St)(r q u:Rv):uo [r,q,u] s=(([r,q,u]:List Rv).mapM (ye s)).map .tp:=rfl
@[simp] def acU (fi:List Rv)(s:St):eQ fi (some (.normal,s))=(uo fi s).map λr=>(r,s.2):=rfl
@[simp] def ahV (fi:List Rv)(s:St):eQ fi (some (.ret,s))=(uo fi s).map λr=>(r,s.2):=rfl
@[simp] def ahA (fi:List Rv)(v:Value)(s:St):eQ fi (some (.vE v,s))=some (.pn v,s.2):=rfl
section body
variable {C : Cx} {call : Bool -> FuncId -> List AV -> Hp -> Option (AV × Hp)}
def kh {f:FuncId}{fi:Fi}(hF:C.F f=some fi)(iG:tv C fi.body=true){args:List AV}(hl:args.length<=fi.ntmps)(h:Hp):
 qR C call f args h=eQ fi.res (dS C call fi.body (args++List.replicate (fi.ntmps-args.length) .un,h)):=by
 unfold qR;rw[hF];simp only[hl,if_true];rw[Cj _ iG];rfl
def oH {h:Hp}{n:Nat}{x:AV}(hc:d_ x=true):dq h (n+2) x=some x:=by
 have one:∀(m:Nat) (y:AV),(match y with| .sc _| .ls .. | .rp .. =>true|_=>false)=true->dq h m y=some y:=by
  intro m y hy;cases y<;>simp at hy<;>simp[dq]
 have all:∀(m:Nat) (ys:List AV),(ys.all λ| .sc _| .ls .. | .rp .. =>true|_=>false)=true->ys.mapM (dq h m)=some ys:=by
  intro m ys
  induction ys with
  |nil=>intro _;rfl
  |
   cons y ys ih=>
   intro hy;simp only[Zn,Zh]at hy;rw[Zo,one m y hy.1,ih hy.2];rfl
 unfold d_ at hc;split at hc
 .simp[dq]
 .simp[dq]
 .simp[dq]
 .rename_i xs;simp only[dq];rw[all _ xs hc];rfl
 .rename_i xs;simp only[dq];rw[all _ xs hc];rfl
 .cases hc
def qZ {h:Hp}{n:Nat}:∀{xs:List AV},xs.all d_=true->xs.mapM (dq h (n+2))=some xs
 | [],_=>rfl
 |
  x::xs,hx=>by
  simp only[Zn,Zh]at hx;rw[Zo,oH hx.1,qZ hx.2];rfl
def nD {f:FuncId}{args:List AV}{n:Nat}{r r':AV}{h':Hp}(hs:C.ox f=none)(hi:C.inl f=false)(ht:C.tE f args=none)(hc:args.all d_=true)
 (hb:qR C (cW C n) f args []=some (r,h')) (hr:dq h' 8 r=some r') (b:Bool) (h:Hp):cW C (n+1) b f args h=some (C.nf f r',h):=by
 have e:args.mapM (dq h 8)=some args:=qZ (n:=6) hc;simp only[cW,hs,hi,Yq,if_false,e,ht,hb,hr,hc,Bool.true_or,if_true,Xq]
def Sr {f:FuncId}{args:List AV}{n:Nat}{r r':AV}{h':Hp}(hs:C.ox f=none)(hi:C.inl f=false)(ht:C.tE f args=none)(hn:C.nf f r'=r')(hc:args.all d_=true)
 (hb:qR C (cW C n) f args []=some (r,h')) (hr:dq h' 8 r=some r') (b:Bool) (h:Hp):cW C (n+1) b f args h=some (r',h):=by
 rw[nD hs hi ht hc hb hr b h,hn]
def TE {f:FuncId}{args:List AV}{n:Nat}{r:AV}(hs:C.ox f=none)(hi:C.inl f=false)(ht:C.tE f args=some r)(hc:args.all d_=true)(b:Bool)(h:Hp):cW C (n+1) b f args h=some (r,h):=by
 have e:args.mapM (dq h 8)=some args:=qZ (n:=6) hc;simp only[cW,hs,hi,Yq,if_false,e,ht,hc,Bool.true_or,if_true]
end body
def C4 {f:St->Option (Out × St)}(Inv:Nat->St->Prop)(Q:Out->St->Prop)
 (step:∀k s,Inv k s->∃o s',f s=some (o,s')/\(match o with| .normal=>∃k',k'<k/\Inv k' s'|o=>Q o s')):
 ∀(k:Nat) (s:St),Inv k s->∀fuel,k<fuel->∃o s',tK f fuel s=some (o,s')/\o≠ .normal/\Q o s':=by
 intro k
 induction k using Nat.strongRecOn with
 |
  ind k ih=>
  intro s hI fuel hk;obtain⟨m,rfl⟩:∃m,fuel=m+1:=⟨fuel-1,by omega⟩;obtain⟨o,s',h1,h2⟩:=step k s hI;simp only[tK,h1];cases o with
  |
   normal=>
   obtain⟨k',og,hI'⟩:=h2;exact ih k' og s' hI' m (by omega)
  |exit i=>exact⟨_,_,rfl,by simp,h2⟩
  |ret=>exact⟨_,_,rfl,by simp,h2⟩
  |vE v=>exact⟨_,_,rfl,by simp,h2⟩
def Fa {C:Cx}{call:Bool->jH}{c:Code}{s:St}{G:Option (Out × St)->Prop}(Inv:Nat->St->Prop)(Q:Out->St->Prop)(k:Nat)(hk:k<C.fuel)(hI:Inv k s)
 (step:∀k s,Inv k s->∃o s',dS C call c s=some (o,s')/\(match o with| .normal=>∃k',k'<k/\Inv k' s'|o=>Q o s')) (fin:∀o s',o≠ .normal->Q o s'->G (some (o,s'))):G (dS C call (.loop c) s):=by
 obtain⟨o,s',h1,h2,h3⟩:=C4 Inv Q step k s hI C.fuel hk;show G (tK (dS C call c) C.fuel s);rw[h1];exact fin o s' h2 h3
def wh (Inv:Nat->St->Prop)(Q:Out->St->Prop)(k:Nat):Option (Out × St)->Prop
 |some (.normal,s)=>∃k',k'<k/\Inv k' s
 |some (o,s)=>Q o s
 |none=>False
@[simp] def Y0 (Inv:Nat->St->Prop)(Q:Out->St->Prop)(k:Nat)(s:St):wh Inv Q k (some (.normal,s))=∃k',k'<k/\Inv k' s:=rfl
@[simp] def acV (Inv:Nat->St->Prop)(Q:Out->St->Prop)(k i:Nat)(s:St):wh Inv Q k (some (.exit i,s))=Q (.exit i) s:=rfl
@[simp] def afm (Inv:Nat->St->Prop)(Q:Out->St->Prop)(k:Nat)(s:St):wh Inv Q k (some (.ret,s))=Q .ret s:=rfl
@[simp] def afn (Inv:Nat->St->Prop)(Q:Out->St->Prop)(k:Nat)(v:Value)(s:St):wh Inv Q k (some (.vE v,s))=Q (.vE v) s:=rfl
def YO (Inv:Nat->St->Prop)(Q:Out->St->Prop)(N i:Nat):Option (Out × St)->Prop
 |some (.normal,s)=>i<N/\Inv (i+1) s
 |some (o,s)=>Q o s
 |none=>False
@[simp] def afi (Inv:Nat->St->Prop)(Q:Out->St->Prop)(N i:Nat)(s:St):YO Inv Q N i (some (.normal,s))=(i<N/\Inv (i+1) s):=rfl
@[simp] def ahC (Inv:Nat->St->Prop)(Q:Out->St->Prop)(N i j:Nat)(s:St):YO Inv Q N i (some (.exit j,s))=Q (.exit j) s:=rfl
@[simp] def aiX (Inv:Nat->St->Prop)(Q:Out->St->Prop)(N i:Nat)(s:St):YO Inv Q N i (some (.ret,s))=Q .ret s:=rfl
@[simp] def aip (Inv:Nat->St->Prop)(Q:Out->St->Prop)(N i:Nat)(v:Value)(s:St):YO Inv Q N i (some (.vE v,s))=Q (.vE v) s:=rfl
def nF {C:Cx}{call:Bool->jH}{c:Code}{fr:List AV}{h:Hp}{G:Option (Out × St)->Prop}(Inv:Nat->St->Prop)(Q:Out->St->Prop)(k:Nat)(hk:k<C.fuel)(hI:Inv k (fr,h))
 (step:∀k fr h,Inv k (fr,h)->wh Inv Q k (dS C call c (fr,h))) (fin:∀o fr h,o≠ .normal->Q o (fr,h)->G (some (o,(fr,h)))):G (dS C call (.loop c) (fr,h)):=by
 refine Fa Inv Q k hk hI (λk s hs=>?_) λo s=>fin o s.1 s.2
 have:=step k s.1 s.2 hs
 revert this
 cases dS C call c (s.1,s.2)with
 |none=>exact λh=>h.elim
 |
  some q=>
  obtain⟨o,s'⟩:=q;intro h;refine⟨o,s',rfl,?_⟩;cases o<;>exact h
def eC {C:Cx}{call:Bool->jH}{c:Code}{fr:List AV}{h:Hp}{G:Option (Out × St)->Prop}(Inv:Nat->St->Prop)(Q:Out->St->Prop)(N:Nat)(hN:N<C.fuel)(hI:Inv 0 (fr,h))
 (step:∀i fr h,i<=N->Inv i (fr,h)->YO Inv Q N i (dS C call c (fr,h))) (fin:∀o fr h,o≠ .normal->Q o (fr,h)->G (some (o,(fr,h)))):G (dS C call (.loop c) (fr,h)):=by
 refine Fa (λk s=>∃i,i+k=N/\Inv i s) Q N hN ⟨0,by omega,hI⟩ (λk s hs=>?_) λo s=>fin o s.1 s.2
 obtain⟨i,hi,hs⟩:=hs;have:=step i s.1 s.2 (by omega) hs
 revert this
 cases dS C call c (s.1,s.2)with
 |none=>exact λh=>h.elim
 |
  some q=>
  obtain⟨o,s'⟩:=q;intro h;refine⟨o,s',rfl,?_⟩;cases o with
  |normal=>exact⟨k-1,by have:=h.1;omega,i+1,by have:=h.1;omega,h.2⟩
  |exit j=>exact h
  |ret=>exact h
  |vE v=>exact h
def uT (sz:Nat):AV->AV
 | .sc (.slice none 0 0)=> .ls sz [] false
 | .ls s cY z=>if s=sz then .ls sz cY false else .ls s cY z
 |x=>x
def Ul :List AV->List AV
 | [a,l,p]=> [a,uT 1 l,uT 6 p]
 |r=>r
def Un :List AV->List AV
 | [a,b,c,d,p]=> [a,b,c,d,uT 6 p]
 |r=>r
def Ir (sz:Nat)(g:List AV->List AV):AV->AV
 | .sc (.slice none 0 0)=> .ls sz [] false
 | .ls s cY z=>if s=sz then .ls sz (cY.map g) false else .ls s cY z
 |x=>x
def LU :AV->AV
 | .ag [n,e,a,b]=> .ag [Ir 3 Ul n,Ir 5 Un e,a,b]
 |x=>x
def Ai :AV->AV
 | .tp (x::xs)=> .tp (LU x::xs)
 |x=>LU x
def uM {w:World}{X:Nat->Prop}{v:Value}{x:AV}(sz:Nat)(h:Ri w X v x):Ri w X v (uT sz x):=by
 unfold uT;split
 .obtain⟨rfl,_⟩:=h.eF;exact .le none 0 sz false (by simp[maxLen]) (by simp)
 .rename_i s cY z;split
  .rename_i e;subst e;rcases h.iM with⟨rfl,b,cap,rfl,c1,c2⟩|⟨b,o',cap,us,dA,t0,fz,rfl,c1,c2,c4,c5,c6,c7,c8⟩
   .exact .le _ _ _ _ c1 (by simp)
   .exact .ls b o' cY.length cap s cY false us dA t0 fz c1 c2 rfl c4 c5 (by simp) c7 (λi row j x h1 h2=>⟨(c8 i row j x h1 h2).1,(c8 i row j x h1 h2).2.1⟩) (λi row j x h1 h2=>(c8 i row j x h1 h2).2.2)
  .exact h
 .exact h
def abM (g:List AV->List AV):Prop:=∀(r:List AV),(g r).length=r.length/\∀(w:World) (X:Nat->Prop) (us:Nat->Value),(∀(j:Nat) (x:AV),r[j]?=some x->Ri w X (us j) x)->∀(j:Nat) (x:AV),(g r)[j]?=some x->Ri w X (us j) x
def XN :abM Ul:=by
 intro r;unfold Ul;split
 .refine⟨rfl,λw X us h j x hj=>?_⟩
  match j,hj with
  |0,hj=>exact h 0 x hj
  |1,hj=>simp at hj;subst hj;exact uM 1 (h 1 _ rfl)
  |2,hj=>simp at hj;subst hj;exact uM 6 (h 2 _ rfl)
  |n+3,hj=>simp at hj
 .exact⟨rfl,λw X us h=>h⟩
def XO :abM Un:=by
 intro r;unfold Un;split
 .refine⟨rfl,λw X us h j x hj=>?_⟩
  match j,hj with
  |0,hj=>exact h 0 x hj
  |1,hj=>exact h 1 x hj
  |2,hj=>exact h 2 x hj
  |3,hj=>exact h 3 x hj
  |4,hj=>simp at hj;subst hj;exact uM 6 (h 4 _ rfl)
  |n+5,hj=>simp at hj
 .exact⟨rfl,λw X us h=>h⟩
def G9 {w:World}{X:Nat->Prop}{v:Value}{x:AV}(sz:Nat){g:List AV->List AV}(hg:abM g)(h:Ri w X v x):Ri w X v (Ir sz g x):=by
 unfold Ir;split
 .obtain⟨rfl,_⟩:=h.eF;exact .le none 0 sz false (by simp[maxLen]) (by simp)
 .rename_i s cY z;split
  .rename_i e;subst e;rcases h.iM with⟨rfl,b,cap,rfl,c1,c2⟩|⟨b,o',cap,us,dA,t0,fz,rfl,c1,c2,c4,c5,c6,c7,c8⟩
   .exact .le _ _ _ _ c1 (by simp)
   .refine .ls b o' cY.length cap s (cY.map g) false us dA t0 fz c1 c2 (by simp) c4 c5 (by simp) (λi row hr=>?_) (λi row j x h1 h2=>?_) (λi row j x h1 h2=>?_)
    .simp only[Zs,Ze]at hr;obtain⟨r,hr,rfl⟩:=hr;rw[(hg r).1];exact c7 i r hr
    .simp only[Zs,Ze]at h1;obtain⟨r,hr,rfl⟩:=h1;have hj:j<r.length:=by rw[<-(hg r).1];exact(Za.1 h2).1
     have:=c8 i r j _ hr (Zb hj);exact⟨this.1,this.2.1⟩
    .simp only[Zs,Ze]at h1;obtain⟨r,hr,rfl⟩:=h1;exact(hg r).2 w X (us i) (λj x hj=>(c8 i r j x hr hj).2.2) j x h2
  .exact h
 .exact h
def Ri.xY {w:World}{X:Nat->Prop}{v:Value}{xs:List AV}(h:Ri w X v (.ag xs)):∃us:Array Value,v= .agg us/\us.size=xs.length/\(∀k,k<us.size->(us.getD k undef).oneCell'=true)/\∀(k:Nat) (x:AV),xs[k]?=some x->Ri w X (us.getD k undef) x:=by
 cases h with
 |ag us _ h1 h2 h3=>exact⟨us,rfl,h1,h2,h3⟩
def Ri.G_ {w:World}{X:Nat->Prop}{v:Value}{xs:List AV}(h:Ri w X v (.tp xs)):∃us:Array Value,v= .tuple us/\us.size=xs.length/\∀(k:Nat) (x:AV),xs[k]?=some x->Ri w X (us.getD k undef) x:=by
 cases h with
 |tp us _ h1 h2=>exact⟨us,rfl,h1,h2⟩
def XP {w:World}{X:Nat->Prop}{v:Value}{x:AV}(h:Ri w X v x):Ri w X v (LU x):=by
 unfold LU;split
 .obtain⟨us,rfl,h1,h2,h3⟩:=h.xY;refine .ag us _ (by simpa using h1) h2 λk x hk=>?_
  match k,hk with
  |0,hk=>simp at hk;subst hk;exact G9 3 XN (h3 0 _ rfl)
  |1,hk=>simp at hk;subst hk;exact G9 5 XO (h3 1 _ rfl)
  |2,hk=>exact h3 2 x hk
  |3,hk=>exact h3 3 x hk
  |n+4,hk=>simp at hk
 .exact h
def aeG {w:World}{X:Nat->Prop}{v:Value}{x:AV}(h:Ri w X v x):Ri w X v (Ai x):=by
 unfold Ai;split
 .obtain⟨us,rfl,h1,h2⟩:=h.G_;refine .tp us _ (by simpa using h1) λk x hk=>?_
  match k,hk with
  |0,hk=>simp at hk;subst hk;exact XP (h2 0 _ rfl)
  |n+1,hk=>exact h2 (n+1) x hk
 .exact XP h
def nfP :List AV->List AV
 | [a,b,c,d,e,l]=> [a,b,c,d,e,uT 5 l]
 |r=>r
def KD :abM nfP:=by
 intro r;unfold nfP;split
 .refine⟨rfl,λw X us h j x hj=>?_⟩
  match j,hj with
  |0,hj=>exact h 0 x hj
  |1,hj=>exact h 1 x hj
  |2,hj=>exact h 2 x hj
  |3,hj=>exact h 3 x hj
  |4,hj=>exact h 4 x hj
  |5,hj=>simp at hj;subst hj;exact uM 5 (h 5 _ rfl)
  |n+6,hj=>simp at hj
 .exact⟨rfl,λw X us h=>h⟩
def nfW :AV->AV
 | .ag [a,b,c,d,l]=> .ag [a,b,c,d,uT 5 l]
 | .tp [.ag [a,l,p],x]=> .tp [.ag [a,uT 1 l,Ir 6 nfP p],x]
 | .tp [.ag [a,b,c,d,p],x]=> .tp [.ag [a,b,c,d,Ir 6 nfP p],x]
 |x=>x
def aeH {w:World}{X:Nat->Prop}{v:Value}{x:AV}(h:Ri w X v x):Ri w X v (nfW x):=by
 unfold nfW;split
 .obtain⟨us,rfl,h1,h2,h3⟩:=h.xY;refine .ag us _ (by simpa using h1) h2 λk x hk=>?_
  match k,hk with
  |0,hk=>exact h3 0 x hk
  |1,hk=>exact h3 1 x hk
  |2,hk=>exact h3 2 x hk
  |3,hk=>exact h3 3 x hk
  |4,hk=>simp at hk;subst hk;exact uM 5 (h3 4 _ rfl)
  |n+5,hk=>simp at hk
 .obtain⟨us,rfl,h1,h2⟩:=h.G_;refine .tp us _ (by simpa using h1) λk x hk=>?_
  match k,hk with
  |
   0,hk=>
   simp at hk;subst hk;obtain⟨vs,e,h1,h2,h3⟩:=(h2 0 _ rfl).xY;rw[e];refine .ag vs _ (by simpa using h1) h2 λk x hk=>?_
   match k,hk with
   |0,hk=>exact h3 0 x hk
   |1,hk=>simp at hk;subst hk;exact uM 1 (h3 1 _ rfl)
   |2,hk=>simp at hk;subst hk;exact G9 6 KD (h3 2 _ rfl)
   |n+3,hk=>simp at hk
  |n+1,hk=>exact h2 (n+1) x hk
 .obtain⟨us,rfl,h1,h2⟩:=h.G_;refine .tp us _ (by simpa using h1) λk x hk=>?_
  match k,hk with
  |
   0,hk=>
   simp at hk;subst hk;obtain⟨vs,e,h1,h2,h3⟩:=(h2 0 _ rfl).xY;rw[e];refine .ag vs _ (by simpa using h1) h2 λk x hk=>?_
   match k,hk with
   |0,hk=>exact h3 0 x hk
   |1,hk=>exact h3 1 x hk
   |2,hk=>exact h3 2 x hk
   |3,hk=>exact h3 3 x hk
   |4,hk=>simp at hk;subst hk;exact G9 6 KD (h3 4 _ rfl)
   |n+5,hk=>simp at hk
  |n+1,hk=>exact h2 (n+1) x hk
 .exact h
def DQ (C:Cx)(cal:jH)(ops:Array Oper)(s:St):Option (Out × St):=
 match gD C cal ops ops.toList s with
 |some mX=>if(needs C ops).all (sameAt C cal ops mX)then(mX[ops.size]?).map λs'=>(.normal,s')else none
 |none=>wR C cal ops s
def gM (C:Cx)(call:Bool->jH)(bad:Nat->Bool):Code->St->Option (Out × St)
 | .skip,s=>some (.normal,s)
 | .label _,s=>some (.normal,s)
 | .region id ops mixed,s=>bif mixed then(bif bad id then DQ C (call false) ops s else DH (dz C (call false) ops ops.toList s))else eh C (call true) ops ops.toList s
 |
  .seq a b,s=>match gM C call bad a s with
  |some (.normal,s')=>gM C call bad b s'
  |r=>r
 |
  .cond c a b,s=>match ev C s.1 c with
  | .sc (.bool true)=>gM C call bad a s
  | .sc (.bool false)=>gM C call bad b s
  |_=>none
 |
  .block id c,s=>match gM C call bad c s with
  |some (.exit i,s')=>some (if i=id then .normal else .exit i,s')
  |r=>r
 | .loop c,s=>tK (gM C call bad c) C.fuel s
 | .exit id,s=>some (.exit id,s)
 | .ret,s=>some (.ret,s)
 |_,_=>none
def I3 (C:Cx)(bad:Nat->Bool):Code->Bool
 | .region id ops true=>bad id||((needs C ops).isEmpty && !Hv C ops)
 | .seq a b=>I3 C bad a && I3 C bad b
 | .cond _ a b=>I3 C bad a && I3 C bad b
 | .block _ c=>I3 C bad c
 | .loop c=>I3 C bad c
 |_=>true
section three
variable {C : Cx} {call : Bool -> FuncId -> List AV -> Hp -> Option (AV × Hp)} {bad : Nat -> Bool}
def XQ :∀(c:Code),I3 C bad c=true->exec C call c=gM C call bad c:=by
 intro c
 induction c with
 |
  region id ops mixed=>
  intro hk
  funext s
  simp only[exec,gM];cases mixed with
  |false=>rfl
  |
   true=>
   cases hb:bad id with
   |true=>rfl
   |
    false=>
    simp only[I3,hb,Bool.false_or,Zh,Xc,List.isEmpty_iff]at hk;simp only[hk.1,wR,hk.2,Yq,if_false,if_true,cond_true,cond_false];rw[<-gU,Array.length_toList];cases gD C (call false) ops ops.toList s with
    |none=>rfl
    |
     some m=>
     simp;cases m[ops.size]?<;>rfl
 |
  seq x y O6 XE=>
  intro hk;simp only[I3,Zh]at hk
  funext s
  simp only[exec,gM,O6 hk.1,XE hk.2];rfl
 |
  cond q x y O6 XE=>
  intro hk;simp only[I3,Zh]at hk
  funext s
  simp only[exec,gM,O6 hk.1,XE hk.2];rfl
 |
  block id x ih=>
  intro hk;simp only[I3]at hk
  funext s
  simp only[exec,gM,ih hk];rfl
 |
  loop x ih=>
  intro hk;simp only[I3]at hk
  funext s
  simp only[exec,gM,ih hk]
 |_=>intro _;rfl
def qw (C:Cx)(call:Bool->jH)(bad:Nat->Bool)(x:Option (Out × St))(b:Code):Option (Out × St):=
 match x with|some (.normal,s)=>gM C call bad b s|r=>r
def XR (C:Cx)(call:Bool->jH)(bad:Nat->Bool)(v:AV)(a b:Code)(s:St):Option (Out × St):=
 match v with| .sc (.bool true)=>gM C call bad a s| .sc (.bool false)=>gM C call bad b s|_=>none
@[simp] def afl (s:St):gM C call bad .skip s=some (.normal,s):=rfl
@[simp] def acW (l:Nat)(s:St):gM C call bad (.label l) s=some (.normal,s):=rfl
@[simp] def afr (i:Nat)(s:St):gM C call bad (.exit i) s=some (.exit i,s):=rfl
@[simp] def afR (s:St):gM C call bad .ret s=some (.ret,s):=rfl
@[simp] def afO (a b:Code)(s:St):gM C call bad (.seq a b) s=qw C call bad (gM C call bad a s) b:=rfl
@[simp] def afy (q:Operand)(a b:Code)(fr:List AV)(h:Hp):gM C call bad (.cond q a b) (fr,h)=XR C call bad (ev C fr q) a b (fr,h):=rfl
@[simp] def acI (id:Nat)(c:Code)(s:St):gM C call bad (.block id c) s=dL id (gM C call bad c s):=rfl
@[simp] def ac2 (id:Nat)(l:List Oper)(s:St):gM C call bad (.region id l.toArray false) s=eh C (call true) l.toArray l s:=rfl
def td (C:Cx)(cal:jH)(b:Bool)(l:List Oper)(s:St):Option (Out × St):=bif b then DQ C cal l.toArray s else DH (dz C cal l.toArray l s)
@[simp] def acO (id:Nat)(l:List Oper)(s:St):gM C call bad (.region id l.toArray true) s=td C (call false) (bad id) l s:=rfl
@[simp] def ac1 (cal:jH)(l:List Oper)(s:St):td C cal false l s=DH (dz C cal l.toArray l s):=rfl
@[simp] def ab8 (s:St)(b:Code):qw C call bad (some (.normal,s)) b=gM C call bad b s:=rfl
@[simp] def af4 (s:St)(b:Code):qw C call bad (some (.ret,s)) b=some (.ret,s):=rfl
@[simp] def afx (i:Nat)(s:St)(b:Code):qw C call bad (some (.exit i,s)) b=some (.exit i,s):=rfl
@[simp] def afZ (v:Value)(s:St)(b:Code):qw C call bad (some (.vE v,s)) b=some (.vE v,s):=rfl
@[simp] def afo (a b:Code)(s:St):XR C call bad (.sc (.bool true)) a b s=gM C call bad a s:=rfl
@[simp] def acM (a b:Code)(s:St):XR C call bad (.sc (.bool false)) a b s=gM C call bad b s:=rfl
def yK {f:FuncId}{fi:Fi}(hF:C.F f=some fi)(iG:I3 C bad fi.body=true){args:List AV}(hl:args.length<=fi.ntmps)(h:Hp):
 qR C call f args h=eQ fi.res (gM C call bad fi.body (args++List.replicate (fi.ntmps-args.length) .un,h)):=by
 unfold qR;rw[hF];simp only[hl,if_true];rw[XQ _ iG];rfl
def pD (x:Option St)(f:St->Option (Out × St)):Option (Out × St):=match x with|some s=>f s|none=>none
@[simp] def CB (s:St)(f:St->Option (Out × St)):pD (some s) f=f s:=rfl
def Mc (x y:Option (AV × Hp))(r:Option St):Option (Out × St):=match x,y with|some (v,_),some (v',_)=>(if jI v' v=true then DH r else none)|_,_=>none
@[simp] def Ss (v v':AV)(h h':Hp)(r:Option St):Mc (some (v,h)) (some (v',h')) r=if jI v' v=true then DH r else none:=rfl
def sU {cal:jH}{ops:Array Oper}:∀(l:List Oper) (s:St) (mX:List St),gD C cal ops l s=some mX->∀k,k<=l.length->mX[k]?=dz C cal ops (l.take k) s
 |
  [],s,mX,h,k,hk=>by
  simp only[gD,Zc]at h;subst h;have:k=0:=by simpa using hk
  subst this;rfl
 |
  o::l,s,mX,h,k,hk=>by
  simp only[gD]at h;cases hq:step1 C cal ops o s with
  |none=>rw[hq]at h;cases h
  |
   some s'=>
   rw[hq]at h;simp only[Ze]at h;obtain⟨m,hm,rfl⟩:=h;cases k with
   |zero=>rfl
   |
    succ k=>
    have:=sU l s' m hm k (by simpa using hk);simp only[Yf,List.take_succ_cons,dz,hq,this]
def sV {cal:jH}{ops:Array Oper}{l:List Oper}{s:St}(h:gD C cal ops l s=none):dz C cal ops l s=none:=by
 rw[<-gU,h];rfl
def U0 (r:Option St)(x:Option (Out × St))(y:Option (Out × St)):Option (Out × St):=match r with|some _=>x|none=>y
@[simp] def Rk (s:St)(x y:Option (Out × St)):U0 (some s) x y=x:=rfl
def xM {cal:jH}{l:List Oper}(s:St):td C cal true l s=U0 (dz C cal l.toArray l s) (match gD C cal l.toArray l s with|some mX=>if(needs C l.toArray).all (sameAt C cal l.toArray mX)then(mX[l.length]?).map λs'=>(.normal,s')else none|none=>none) (wR C cal l.toArray s):=by
 show DQ C cal l.toArray s=_;unfold DQ;rw[<-gU];have e:l.toArray.size=l.length:=by simp
 rw[e];cases hL:gD C cal l.toArray l s with
 |none=>rfl
 |
  some mX=>
  have h3:=sU l s mX hL l.length (Yt _);rw[Yz,<-gU,hL]at h3;simp only[Option.bind_some];have eW:mX[l.length]?≠none:=by
   obtain⟨S,_,el,e1,_⟩:=rL l s mX hL;rw[e1 l.length (Yt _)];simp
  cases hs:mX[l.length]? with
  |none=>exact absurd hs eW
  |some s'=>rfl
def aar {cal:jH}{l:List Oper}(hn:needs C l.toArray=[])(s:St):td C cal true l s=U0 (dz C cal l.toArray l s) (DH (dz C cal l.toArray l s)) (wR C cal l.toArray s):=by
 rw[xM,<-gU];simp only[hn,List.all_nil,if_true];cases gD C cal l.toArray l s with
 |none=>rfl
 |
  some mX=>
  simp only[Option.bind_some];cases mX[l.length]?<;>rfl
def KE {cal:jH}{ops:Array Oper}:∀(l:List Oper) (J:Nat) (o:Oper) (s sj:St),l[J]?=some o->dz C cal ops (l.take J) s=some sj->step1 C cal ops o sj=none->stops C cal ops l s=J
 | [],J,o,s,sj,h,_,_=>by simp at h
 |
  o'::l,0,o,s,sj,h,h2,h3=>by
  simp at h;subst h;simp only[List.take_zero,dz,Zc]at h2;subst h2;simp only[stops,h3]
 |
  o'::l,J+1,o,s,sj,h,h2,h3=>by
  simp only[List.take_succ_cons,dz]at h2;split at h2
  .rename_i s1 h1;simp only[stops,h1];rw[KE l J o s1 sj (by simpa using h) h2 h3]
  .cases h2
def zY {cal:jH}{ops:Array Oper}:∀(l:List Oper) (J:Nat) (o:Oper) (s sj:St),l[J]?=some o->dz C cal ops (l.take J) s=some sj->step1 C cal ops o sj=none->dz C cal ops l s=none
 | [],J,o,s,sj,h,_,_=>by simp at h
 |
  o'::l,0,o,s,sj,h,h2,h3=>by
  simp at h;subst h;simp only[List.take_zero,dz,Zc]at h2;subst h2;simp only[dz,h3]
 |
  o'::l,J+1,o,s,sj,h,h2,h3=>by
  simp only[List.take_succ_cons,dz]at h2;split at h2
  .rename_i s1 h1;simp only[dz,h1];exact zY l J o s1 sj (by simpa using h) h2 h3
  .cases h2
def aaq {cal:jH}{l:List Oper}(J:Nat){pre post:List Oper}{o:Oper}(ht:Hv C l.toArray=true)(ho:l[J]?=some o)(Jx:l.take J=pre)(Ob:DY (DX l.toArray J)=post)(hc:(ew C o && (needs C l.toArray).all (λq=>decide (J<q.2)))=true)(hg:o.guard=none)
 {s sj s2:St} {v:Value} {hP:Hp} (h1:dz C cal l.toArray pre s=some sj) (h2:n0 C cal (ev C sj.1) sj.2 o=some (.pn v,hP)) (h3:dz C cal l.toArray post sj=some s2):
 td C cal true l s=some (.vE v,(X8 l s.1,hP)):=by
 subst Jx;subst Ob;have hw:gX l.toArray sj.1 o=some true:=by unfold gX;rw[hg]
 have dD:step1 C cal l.toArray o sj=none:=by unfold step1;rw[hw];simp only[h2]
 rw[xM,zY l J o s sj ho h1 dD];show wR C cal l.toArray s=_;unfold wR;rw[dd ht];have e:stops C cal l.toArray l.toArray.toList s=J:=KE l J o s sj ho h1 dD;rw[e];unfold Y9;have vZ:l.toArray[J]?=some o:=by simpa using ho
 have zH:dz C cal l.toArray (l.toArray.toList.take J) s=some sj:=h1;simp only[vZ,zH,hc,if_true,hw,h2,h3]
def KF {cal:jH}{l:List Oper}{j m:Nat}{o:Oper}(hn:needs C l.toArray=[(j,m)])(ho:l[j]?=some o)(hg:o.guard=none)(hm:m<=l.length){s:St}{mX:List St}(hL:gD C cal l.toArray l.toArray.toList s=some mX):
 td C cal true l s=pD (dz C cal l.toArray (l.take j) s) λsj=>pD (dz C cal l.toArray (l.take m) s) λsm=>Mc (n0 C cal (ev C sj.1) sj.2 o) (n0 C cal (ev C sj.1) sm.2 o) (dz C cal l.toArray l s):=by
 show DQ C cal l.toArray s=_;unfold DQ;have hj:j<=l.length:=Nat.le_of_lt (Za.1 ho).1;simp only[hL];have s6:=sU l s mX hL;have h1:=s6 j hj;have h2:=s6 m hm;have h3:=s6 l.length (Yt _);rw[Yz]at h3;have e:l.toArray.size=l.length:=by simp
 simp only[hn,Zn,List.all_nil,Bool.and_true,e,h3];have Wh:l.toArray[j]?=some o:=by simpa using ho
 cases hq:dz C cal l.toArray (l.take j) s with
 |
  none=>
  have:sameAt C cal l.toArray mX (j,m)=false:=by
   simp only[sameAt,Wh,h1,hq]
  rw[this];rfl
 |
  some sj=>
  cases hr:dz C cal l.toArray (l.take m) s with
  |
   none=>
   have:sameAt C cal l.toArray mX (j,m)=false:=by
    simp only[sameAt,Wh,h1,hq,h2,hr,gX,hg]
   rw[this];rfl
  |
   some sm=>
   simp only[CB];cases ha:n0 C cal (ev C sj.1) sj.2 o with
   |
    none=>
    have:sameAt C cal l.toArray mX (j,m)=false:=by
     simp only[sameAt,Wh,h1,hq,h2,hr,gX,hg,ha]
    rw[this];rfl
   |
    some q=>
    obtain⟨v,h'⟩:=q;cases hb:n0 C cal (ev C sj.1) sm.2 o with
    |
     none=>
     have:sameAt C cal l.toArray mX (j,m)=false:=by
      simp only[sameAt,Wh,h1,hq,h2,hr,gX,hg,ha,hb]
     rw[this];rfl
    |
     some q'=>
     obtain⟨v',h''⟩:=q';have:sameAt C cal l.toArray mX (j,m)=jI v' v:=by
      simp only[sameAt,Wh,h1,hq,h2,hr,gX,hg,ha,hb]
     rw[this];simp only[Ss];split
     .cases dz C cal l.toArray l s<;>rfl
     .rfl
def aan {cal:jH}{l:List Oper}{j m:Nat}{o:Oper}(hn:needs C l.toArray=[(j,m)])(ho:l[j]?=some o)(hg:o.guard=none)(hm:m<=l.length)(hth:Hv C l.toArray=false)(s:St):
 td C cal true l s=pD (dz C cal l.toArray (l.take j) s) λsj=>pD (dz C cal l.toArray (l.take m) s) λsm=>Mc (n0 C cal (ev C sj.1) sj.2 o) (n0 C cal (ev C sj.1) sm.2 o) (dz C cal l.toArray l s):=by
 show DQ C cal l.toArray s=_;unfold DQ;cases hL:gD C cal l.toArray l.toArray.toList s with
 |
  none=>
  have h0:=sV hL;have Ft:dz C cal l.toArray l s=none:=h0;rw[Ft];simp only[wR,hth,Yq,if_false];cases dz C cal l.toArray (l.take j) s with
  |none=>rfl
  |
   some sj=>
   cases dz C cal l.toArray (l.take m) s with
   |none=>rfl
   |
    some sm=>
    simp only[pD,Mc];split<;>(try rfl);split<;>rfl
 |
  some mX=>
  have:=KF hn ho hg hm hL;change DQ C cal l.toArray s=_ at this;unfold DQ at this;simp only[hL]at this;exact this
def U1 {cal:jH}{l:List Oper}{j m:Nat}{o:Oper}(hn:needs C l.toArray=[(j,m)])(ho:l[j]?=some o)(hg:o.guard=none)(hm:m<=l.length)(s:St):
 td C cal true l s=U0 (dz C cal l.toArray l s) (pD (dz C cal l.toArray (l.take j) s) λsj=>pD (dz C cal l.toArray (l.take m) s) λsm=>Mc (n0 C cal (ev C sj.1) sj.2 o) (n0 C cal (ev C sj.1) sm.2 o) (dz C cal l.toArray l s)) (wR C cal l.toArray s):=by
 cases hL:gD C cal l.toArray l.toArray.toList s with
 |
  none=>
  rw[xM];have h0:dz C cal l.toArray l s=none:=sV hL;rw[h0];rfl
 |
  some mX=>
  have fT:gD C cal l.toArray l s=some mX:=hL;obtain⟨S,_,el,e1,_⟩:=rL l s mX fT;have hr:dz C cal l.toArray l s=some (S l.length):=by rw[<-gU,fT,Option.bind_some,e1 l.length (Yt _)]
  rw[KF hn ho hg hm hL,hr];rfl
def mS {c:Code}{fr:List AV}{h:Hp}{G:Option (Out × St)->Prop}(Inv:Nat->St->Prop)(Q:Out->St->Prop)(N:Nat)(hN:N<C.fuel)(hI:Inv 0 (fr,h))
 (step:∀i fr h,i<=N->Inv i (fr,h)->YO Inv Q N i (gM C call bad c (fr,h))) (fin:∀o fr h,o≠ .normal->Q o (fr,h)->G (some (o,(fr,h)))):G (gM C call bad (.loop c) (fr,h)):=by
 obtain⟨o,s',h1,h2,h3⟩:=C4 (f:=gM C call bad c) (λk s=>∃i,i+k=N/\Inv i s) Q (λk s hs=>by
  obtain⟨i,hi,hs⟩:=hs;have:=step i s.1 s.2 (by omega) hs
  revert this
  cases gM C call bad c (s.1,s.2)with
  |none=>exact λh=>h.elim
  |
   some q=>
   obtain⟨o,s'⟩:=q;intro h;refine⟨o,s',rfl,?_⟩;cases o with
   |normal=>exact⟨k-1,by have:=h.1;omega,i+1,by have:=h.1;omega,h.2⟩
   |exit j=>exact h
   |ret=>exact h
   |vE v=>exact h) N (fr,h) ⟨0,by omega,hI⟩ C.fuel hN
 show G (tK (gM C call bad c) C.fuel (fr,h));rw[h1];exact fin o s'.1 s'.2 h2 h3
end three
def nfQ :AV->AV
 | .ag [a,l]=> .ag [a,uT 1 l]
 |x=>x
def wI (k:Nat)(r:AV):AV:=if k=0 then r else if k=8 then nfQ r else uT k r
def ae8 {w:World}{X:Nat->Prop}{v:Value}{x:AV}(h:Ri w X v x):Ri w X v (nfQ x):=by
 unfold nfQ;split
 .obtain⟨us,rfl,h1,h2,h3⟩:=h.xY;refine .ag us _ (by simpa using h1) h2 λk x hk=>?_
  match k,hk with
  |0,hk=>exact h3 0 x hk
  |1,hk=>simp at hk;subst hk;exact uM 1 (h3 1 _ rfl)
  |n+2,hk=>simp at hk
 .exact h
def aeI (k:Nat){w:World}{X:Nat->Prop}{v:Value}{x:AV}(h:Ri w X v x):Ri w X v (wI k x):=by
 unfold wI;split
 .exact h
 .split
  .exact ae8 h
  .exact uM k h
end Go.Ae
namespace Go.Proofs
open Go Go.Ae
def p8 (n:Int):List AV:=[.sc (.int .i64 n)]
def Q5 (x:Int):List Int->List Int
 | []=> [x]
 |y::t=>if x<=y then x::y::t else y::Q5 x t
def km (l:List Int):List Int:=l.foldr Q5 []
def EM (l:List Int):AV:=if l=[]then .sc (.slice none 0 0)else .ls 1 ((km l).map p8) false
def sY :List Value:=Lib.pow10Tab.map λz=>Value.int .u64 z
end Go.Proofs
namespace Go.Ae
def tm :Nat->Nat->List UInt8
 |0,u=> [UInt8.ofNat (48+u)]
 |k+1,u=>if u<10 then[UInt8.ofNat (48+u)]else tm k (u/10)++[UInt8.ofNat (48+u % 10)]
def fM (n:Int):List UInt8:=if n<0 then 45::tm 20 n.natAbs else tm 20 n.toNat
def Ha :∀(k u:Nat),u<10^(k+1)->tm k u=Lib.decDigits u
 |0,u,h=>by rw[Lib.decDigits_one (by omega)];rfl
 |
  k+1,u,h=>by
  unfold tm;by_cases q:u<10
  .rw[dd q,Lib.decDigits_one q]
  .rw[db q,Lib.decDigits,dif_neg q,Ha k (u/10) (by rw[Nat.pow_succ]at h;omega)]
def WA (n:Int)(h0: -9223372036854775808<=n)(h1:n<=9223372036854775807):fM n=Lib.itoa n:=by
 unfold fM Lib.itoa;split
 .rw[Ha 20 _ (by omega)]
 .rw[Ha 20 _ (by omega)]
def Su (l:List UInt8):Nat:=l.foldl (λa d=>a*10+(d.toNat-48)) 0
def Sv (l:List UInt8)(d:UInt8):Su (l++[d])=Su l*10+(d.toNat-48):=by simp[Su,List.foldl_append]
def vj (u:Nat)(h:u<10):(UInt8.ofNat (48+u)).toNat=48+u:=by
 rw[UInt8.toNat_ofNat'];omega
def uN :∀(k u:Nat),u<10^(k+1)->Su (tm k u)=u
 |
  0,u,h=>by
  unfold tm;have:=vj u (by omega);simp only[Su,Yl,List.foldl_nil,this];omega
 |
  k+1,u,h=>by
  unfold tm;by_cases q:u<10
  .rw[dd q];have:=vj u q;simp only[Su,Yl,List.foldl_nil,this];omega
  .rw[db q,Sv,uN k (u/10) (by rw[Nat.pow_succ]at h;omega),vj (u % 10) (by omega)];omega
def xZ :∀(k u:Nat),u<10^(k+1)->∀d∈tm k u,48<=d.toNat/\d.toNat<=57
 |
  0,u,h,d,hd=>by
  unfold tm at hd;rw[List.mem_singleton.1 hd,vj u (by omega)];omega
 |
  k+1,u,h,d,hd=>by
  unfold tm at hd;by_cases q:u<10
  .rw[dd q]at hd;rw[List.mem_singleton.1 hd,vj u q];omega
  .rw[db q]at hd;rcases Ya.1 hd with e|e
   .exact xZ k (u/10) (by rw[Nat.pow_succ]at h;omega) d e
   .rw[List.mem_singleton.1 e,vj (u % 10) (by omega)];omega
def Lp (n:Int)(h0: -9223372036854775808<=n)(h1:n<=9223372036854775807):∀d∈fM n,d.toNat=45\/48<=d.toNat/\d.toNat<=57:=λd hd=>by
 unfold fM at hd;split at hd
 .rcases Xm.1 hd with e|e
  .left;rw[e];rfl
  .exact .inr (xZ 20 _ (by omega) d e)
 .exact .inr (xZ 20 _ (by omega) d hd)
def oS {a b:Int}(ha0: -9223372036854775808<=a)(oV:a<=9223372036854775807)(UL: -9223372036854775808<=b)(Dd:b<=9223372036854775807)(h:fM a=fM b):a=b:=by
 have neg:∀(u:Nat) (l:List UInt8),u<10^21->tm 20 u≠45::l:=λu l hu e=>by
  have:=xZ 20 u hu 45 (by rw[e];simp);have h45:(45:UInt8).toNat=45:=rfl;omega
 unfold fM at h;split at h
 .split at h
  .injection h with _ h
   have:=uN 20 a.natAbs (by omega);rw[h,uN 20 b.natAbs (by omega)]at this;omega
  .exact absurd h.symm (neg _ _ (by omega))
 .split at h
  .exact absurd h (neg _ _ (by omega))
  .have:=uN 20 a.toNat (by omega);rw[h,uN 20 b.toNat (by omega)]at this;omega
def ym {x y r s:List UInt8}{c:UInt8}(hx:c∉x)(hy:c∉y)(h:x++c::r=y++c::s):x=y/\r=s:=by
 induction x generalizing y with
 |
  nil=>
  cases y with
  |nil=>simp at h;exact⟨rfl,h⟩
  |cons d y=>simp at h;exact absurd (by rw[h.1];simp) hy
 |
  cons a x ih=>
  cases y with
  |nil=>simp at h;exact absurd (by rw[h.1];simp) hx
  |
   cons d y=>
   simp at h;obtain⟨e1,e2⟩:=ih (λq=>hx (Xn _ q)) (λq=>hy (Xn _ q)) h.2;exact⟨by rw[h.1,e1],e2⟩
end Go.Ae
