/- Part of the proof. -/
import Derived.Test.YtmocfjnklfpnbaaGreatDoorP6
import Derived.Lib.ItoaNum
import Derived.Test.YtmocfjnklfpnbaaGreatDoorProg
import Derived.KernelRfl
import Derived.Lib.IndexMore
set_option linter.all false
set_option maxRecDepth 100000
namespace Go.Ae
open Go
def dd(C:Cx)(call:Bool->lu):Code->St->Option (Out × St)
 | .skip,s=>some (.normal,s)
 | .label _,s=>some (.normal,s)
 | .region _ ops mixed,s=>bif mixed then(dG C (call false) ops ops.toList s).map λs'=>(.normal,s')else dV C (call true) ops ops.toList s
 |
  .seq a b,s=>match dd C call a s with
  |some (.normal,s')=>dd C call b s'
  |r=>r
 |
  .cond c a b,s=>match ev C s.1 c with
  | .sc (.bool true)=>dd C call a s
  | .sc (.bool false)=>dd C call b s
  |_=>none
 |
  .block id c,s=>match dd C call c s with
  |some (.exit i,s')=>some (if i=id then .normal else .exit i,s')
  |r=>r
 | .loop c,s=>vt (dd C call c) C.fuel s
 | .exit id,s=>some (.exit id,s)
 | .ret,s=>some (.ret,s)
 |_,_=>none
def vg(C:Cx):Code->Bool
 | .region _ ops true=>(needs C ops).isEmpty && !adt C ops
 | .seq a b=>vg C a && vg C b
 | .cond _ a b=>vg C a && vg C b
 | .block _ c=>vg C c
 | .loop c=>vg C c
 |_=>true
section two
variable {C : Cx} {call : Bool -> FuncId -> List AV -> Hp -> Option (AV × Hp)}
def oq{eG:lu}{ops:Array Oper}:∀(l:List Oper)(s:St),(j_ C eG ops l s).bind (·[l.length]?)=dG C eG ops l s
 | [],s=>rfl
 |
  o::l,s=>by
  simp only[j_,dG];cases step1 C eG ops o s with
  |none=>rfl
  |some s'=>
   simp only;rw[<-oq l s'];cases j_ C eG ops l s' with
   |none=>rfl
   |some m=>simp
def HT :∀(c:Code),vg C c=true->exec C call c=dd C call c:=by
 intro c
 induction c with
 |region id ops mixed=>
  intro hk
  funext s
  simp only[exec,dd];cases mixed with
  |false=>rfl
  |
   true=>
   simp only[vg,Zh,Xd,List.isEmpty_iff]at hk;rw[<-oq];simp only[hk.1,aaO,hk.2,Yl,if_false,if_true,cond_true,Yu];cases j_ C (call false) ops ops.toList s with
   |none=>rfl
   |some m=>simp
 |seq x y U9 ihy=>
  intro hk;simp only[vg,Zh]at hk
  funext s
  simp only[exec,dd,U9 hk.1,ihy hk.2];rfl
 |cond q x y U9 ihy=>
  intro hk;simp only[vg,Zh]at hk
  funext s
  simp only[exec,dd,U9 hk.1,ihy hk.2];rfl
 |block id x ih=>
  intro hk;simp only[vg]at hk
  funext s
  simp only[exec,dd,ih hk];rfl
 |loop x ih=>
  intro hk;simp only[vg]at hk
  funext s
  simp only[exec,dd,ih hk]
 |_=>intro _;rfl
def jC(C:Cx)(call:Bool->lu)(x:Option (Out × St))(b:Code):Option (Out × St):=
 match x with|some (.normal,s)=>dd C call b s|r=>r
def Ms(C:Cx)(call:Bool->lu)(v:AV)(a b:Code)(s:St):Option (Out × St):=
 match v with| .sc (.bool true)=>dd C call a s| .sc (.bool false)=>dd C call b s|_=>none
def gJ(id:Nat)(x:Option (Out × St)):Option (Out × St):=
 match x with|some (.exit i,s')=>some (if i=id then .normal else .exit i,s')|r=>r
def acE(x:Option St):Option (Out × St):=match x with|some s=>some (.normal,s)|none=>none
def vF(C:Cx)(eG:lu)(ops:Array Oper)(d:Option Tmp)(rest:List Oper)(fr:List AV)(x:Option (AV × Hp)):Option (Out × St):=
 match x with
 |some (.pn v,h)=>some (.wU v,(fr,h))
 |some (v,h)=>dV C eG ops rest (match d with|some d=>fr.set d v|none=>fr,h)
 |none=>none
def vG(C:Cx)(eG:lu)(ops:Array Oper)(d:Option Tmp)(rest:List Oper)(fr:List AV)(x:Option (AV × Hp)):Option St:=
 match x with
 |some (.pn _,_)=>none
 |some (v,h)=>dG C eG ops rest (match d with|some d=>fr.set d v|none=>fr,h)
 |none=>none
def guP(C:Cx)(eG:lu)(ops:Array Oper)(o:Oper)(rest:List Oper)(fr:List AV)(h:Hp)(w:Option Bool):Option (Out × St):=
 match w with
 |some true=>vF C eG ops o.dst rest fr (qj C eG (ev C fr) h o)
 |some false=>dV C eG ops rest (ql o fr .un,h)
 |none=>none
def guN(C:Cx)(eG:lu)(ops:Array Oper)(o:Oper)(rest:List Oper)(fr:List AV)(h:Hp)(w:Option Bool):Option St:=
 match w with
 |some true=>vG C eG ops o.dst rest fr (qj C eG (ev C fr) h o)
 |some false=>dG C eG ops rest (ql o fr .un,h)
 |none=>none
def gt(fr:List AV)(t:Tmp):AV:=fr.getD t .ud
@[simp] def afW(a:AV)(l:List AV):gt (a::l) 0=a:=rfl
@[simp] def afO(a:AV)(l:List AV)(n:Nat):gt (a::l) (n+1)=gt l n:=rfl
@[simp] def ajJ(fr:List AV)(d t:Nat)(v:AV):gt (fr.set d v) t=if d=t then(if d<fr.length then v else gt fr t)else gt fr t:=by
 unfold gt;rw[List.getD,List.getElem?_set];split
 .rename_i e;subst e;split
  .rfl
  .rename_i h;rw[List.getD,Xc (by omega)]
 .rfl
def BH :AV->Bool| .pn _=>true|_=>false
@[simp] def afB :BH .ud=false:=rfl
@[simp] def afR :BH .un=false:=rfl
@[simp] def afs(v:Value):BH (.sc v)=false:=rfl
@[simp] def afG(a:Nat)(b:List (List AV))(c:Bool):BH (.ls a b c)=false:=rfl
@[simp] def afn(a b c d:Nat)(k:Bool):BH (.sl a b c d k)=false:=rfl
@[simp] def afx(a b:Nat):BH (.pt a b)=false:=rfl
@[simp] def afT(a:List AV)(b:Nat):BH (.rp a b)=false:=rfl
@[simp] def afl(a:FuncId)(b:List AV):BH (.fn a b)=false:=rfl
@[simp] def afp(a:List AV):BH (.ag a)=false:=rfl
@[simp] def afV(a:List AV):BH (.tp a)=false:=rfl
@[simp] def afE(a:Nat):BH (.mp a)=false:=rfl
@[simp] def acW(s:St):dd C call .skip s=some (.normal,s):=rfl
@[simp] def aaD(l:Nat)(s:St):dd C call (.label l) s=some (.normal,s):=rfl
@[simp] def ac1(i:Nat)(s:St):dd C call (.exit i) s=some (.exit i,s):=rfl
@[simp] def adj(s:St):dd C call .ret s=some (.ret,s):=rfl
@[simp] def M5(a b:Code)(s:St):dd C call (.seq a b) s=jC C call (dd C call a s) b:=rfl
@[simp] def ac4(q:Operand)(a b:Code)(fr:List AV)(h:Hp):dd C call (.cond q a b) (fr,h)=Ms C call (ev C fr q) a b (fr,h):=rfl
@[simp] def Gx(id:Nat)(c:Code)(s:St):dd C call (.block id c) s=gJ id (dd C call c s):=rfl
@[simp] def aay(id:Nat)(l:List Oper)(s:St):dd C call (.region id l.toArray false) s=dV C (call true) l.toArray l s:=rfl
@[simp] def aaz(id:Nat)(l:List Oper)(s:St):dd C call (.region id l.toArray true) s=acE (dG C (call false) l.toArray l s):=by
 show Option.map _ _=_;cases dG C (call false) l.toArray l s<;>rfl
@[simp] def adi(s:St):acE (some s)=some (.normal,s):=rfl
@[simp] def ZB(s:St)(b:Code):jC C call (some (.normal,s)) b=dd C call b s:=rfl
@[simp] def adl(s:St)(b:Code):jC C call (some (.ret,s)) b=some (.ret,s):=rfl
@[simp] def acZ(i:Nat)(s:St)(b:Code):jC C call (some (.exit i,s)) b=some (.exit i,s):=rfl
@[simp] def adk(v:Value)(s:St)(b:Code):jC C call (some (.wU v,s)) b=some (.wU v,s):=rfl
@[simp] def ac7(a b:Code)(s:St):Ms C call (.sc (.bool true)) a b s=dd C call a s:=rfl
@[simp] def aau(a b:Code)(s:St):Ms C call (.sc (.bool false)) a b s=dd C call b s:=rfl
def DV(t:Bool)(a b:Code)(s:St):Ms C call (.sc (.bool t)) a b s=if t=true then dd C call a s else dd C call b s:=by cases t<;>rfl
@[simp] def Vg(i:Nat)(s:St):gJ i (some (.normal,s))=some (.normal,s):=rfl
@[simp] def acU(i:Nat)(s:St):gJ i (some (.ret,s))=some (.ret,s):=rfl
@[simp] def ada(i:Nat)(v:Value)(s:St):gJ i (some (.wU v,s))=some (.wU v,s):=rfl
@[simp] def aav(i j:Nat)(s:St):gJ i (some (.exit j,s))=some (if j=i then .normal else .exit j,s):=rfl
variable {eG : FuncId -> List AV -> Hp -> Option (AV × Hp)} {ops : Array Oper}
@[simp] def aaJ(s:St):dV C eG ops [] s=some (.normal,s):=rfl
@[simp] def acY(s:St):dG C eG ops [] s=some s:=rfl
@[simp] def ZD(o:Oper)(rest:List Oper)(fr:List AV)(h:Hp):dV C eG ops (o::rest) (fr,h)=guP C eG ops o rest fr h (jd ops fr o):=by
 simp only[dV,step1,guP];cases jd ops fr o with
 |none=>rfl
 |some b=>
  cases b with
  |false=>rfl
  |
   true=>
   simp only[vF];cases qj C eG (ev C fr) h o with
   |none=>rfl
   |some q=>
    obtain⟨v,h'⟩:=q;cases v<;>rfl
@[simp] def aaw(o:Oper)(rest:List Oper)(fr:List AV)(h:Hp):dG C eG ops (o::rest) (fr,h)=guN C eG ops o rest fr h (jd ops fr o):=by
 simp only[dG,step1,guN];cases jd ops fr o with
 |none=>rfl
 |some b=>
  cases b with
  |false=>rfl
  |
   true=>
   simp only[vG];cases qj C eG (ev C fr) h o with
   |none=>rfl
   |some q=>
    obtain⟨v,h'⟩:=q;cases v<;>rfl
@[simp] def ae3(o:Oper)(rest:List Oper)(fr:List AV)(h:Hp):guP C eG ops o rest fr h (some true)=vF C eG ops o.dst rest fr (qj C eG (ev C fr) h o):=rfl
@[simp] def adh(o:Oper)(rest:List Oper)(fr:List AV)(h:Hp):guP C eG ops o rest fr h (some false)=dV C eG ops rest (ql o fr .un,h):=rfl
@[simp] def afc(o:Oper)(rest:List Oper)(fr:List AV)(h:Hp):guN C eG ops o rest fr h (some true)=vG C eG ops o.dst rest fr (qj C eG (ev C fr) h o):=rfl
@[simp] def adf(o:Oper)(rest:List Oper)(fr:List AV)(h:Hp):guN C eG ops o rest fr h (some false)=dG C eG ops rest (ql o fr .un,h):=rfl
@[simp] def aju(d:Option Tmp)(rest:List Oper)(fr:List AV)(v:Value)(h:Hp):vF C eG ops d rest fr (some (.pn v,h))=some (.wU v,(fr,h)):=rfl
@[simp] def aj3(d:Tmp)(rest:List Oper)(fr:List AV)(h:Hp):vF C eG ops (some d) rest fr (some (.ud,h))=dV C eG ops rest (fr.set d .ud,h):=rfl
@[simp] def af0(rest:List Oper)(fr:List AV)(h:Hp):vF C eG ops none rest fr (some (.ud,h))=dV C eG ops rest (fr,h):=rfl
@[simp] def ajW(d:Tmp)(rest:List Oper)(fr:List AV)(h:Hp):vG C eG ops (some d) rest fr (some (.ud,h))=dG C eG ops rest (fr.set d .ud,h):=rfl
@[simp] def afN(rest:List Oper)(fr:List AV)(h:Hp):vG C eG ops none rest fr (some (.ud,h))=dG C eG ops rest (fr,h):=rfl
@[simp] def ajY(d:Tmp)(rest:List Oper)(fr:List AV)(h:Hp):vF C eG ops (some d) rest fr (some (.un,h))=dV C eG ops rest (fr.set d .un,h):=rfl
@[simp] def afL(rest:List Oper)(fr:List AV)(h:Hp):vF C eG ops none rest fr (some (.un,h))=dV C eG ops rest (fr,h):=rfl
@[simp] def ajX(d:Tmp)(rest:List Oper)(fr:List AV)(h:Hp):vG C eG ops (some d) rest fr (some (.un,h))=dG C eG ops rest (fr.set d .un,h):=rfl
@[simp] def afK(rest:List Oper)(fr:List AV)(h:Hp):vG C eG ops none rest fr (some (.un,h))=dG C eG ops rest (fr,h):=rfl
@[simp] def ajB(d:Tmp)(rest:List Oper)(fr:List AV)(v:Value)(h:Hp):vF C eG ops (some d) rest fr (some ((.sc v),h))=dV C eG ops rest (fr.set d (.sc v),h):=rfl
@[simp] def af4(rest:List Oper)(fr:List AV)(v:Value)(h:Hp):vF C eG ops none rest fr (some ((.sc v),h))=dV C eG ops rest (fr,h):=rfl
@[simp] def ajy(d:Tmp)(rest:List Oper)(fr:List AV)(v:Value)(h:Hp):vG C eG ops (some d) rest fr (some ((.sc v),h))=dG C eG ops rest (fr.set d (.sc v),h):=rfl
@[simp] def af3(rest:List Oper)(fr:List AV)(v:Value)(h:Hp):vG C eG ops none rest fr (some ((.sc v),h))=dG C eG ops rest (fr,h):=rfl
@[simp] def ajx(d:Tmp)(rest:List Oper)(fr:List AV)(a:Nat)(b:List (List AV))(c:Bool)(h:Hp):vF C eG ops (some d) rest fr (some ((.ls a b c),h))=dV C eG ops rest (fr.set d (.ls a b c),h):=rfl
@[simp] def afj(rest:List Oper)(fr:List AV)(a:Nat)(b:List (List AV))(c:Bool)(h:Hp):vF C eG ops none rest fr (some ((.ls a b c),h))=dV C eG ops rest (fr,h):=rfl
@[simp] def aka(d:Tmp)(rest:List Oper)(fr:List AV)(a:Nat)(b:List (List AV))(c:Bool)(h:Hp):vG C eG ops (some d) rest fr (some ((.ls a b c),h))=dG C eG ops rest (fr.set d (.ls a b c),h):=rfl
@[simp] def afZ(rest:List Oper)(fr:List AV)(a:Nat)(b:List (List AV))(c:Bool)(h:Hp):vG C eG ops none rest fr (some ((.ls a b c),h))=dG C eG ops rest (fr,h):=rfl
@[simp] def ajA(d:Tmp)(rest:List Oper)(fr:List AV)(a b c e:Nat)(k:Bool)(h:Hp):vF C eG ops (some d) rest fr (some ((.sl a b c e k),h))=dV C eG ops rest (fr.set d (.sl a b c e k),h):=rfl
@[simp] def afi(rest:List Oper)(fr:List AV)(a b c e:Nat)(k:Bool)(h:Hp):vF C eG ops none rest fr (some ((.sl a b c e k),h))=dV C eG ops rest (fr,h):=rfl
@[simp] def akd(d:Tmp)(rest:List Oper)(fr:List AV)(a b c e:Nat)(k:Bool)(h:Hp):vG C eG ops (some d) rest fr (some ((.sl a b c e k),h))=dG C eG ops rest (fr.set d (.sl a b c e k),h):=rfl
@[simp] def afm(rest:List Oper)(fr:List AV)(a b c e:Nat)(k:Bool)(h:Hp):vG C eG ops none rest fr (some ((.sl a b c e k),h))=dG C eG ops rest (fr,h):=rfl
@[simp] def ajF(d:Tmp)(rest:List Oper)(fr:List AV)(a b:Nat)(h:Hp):vF C eG ops (some d) rest fr (some ((.pt a b),h))=dV C eG ops rest (fr.set d (.pt a b),h):=rfl
@[simp] def aft(rest:List Oper)(fr:List AV)(a b:Nat)(h:Hp):vF C eG ops none rest fr (some ((.pt a b),h))=dV C eG ops rest (fr,h):=rfl
@[simp] def ajC(d:Tmp)(rest:List Oper)(fr:List AV)(a b:Nat)(h:Hp):vG C eG ops (some d) rest fr (some ((.pt a b),h))=dG C eG ops rest (fr.set d (.pt a b),h):=rfl
@[simp] def afy(rest:List Oper)(fr:List AV)(a b:Nat)(h:Hp):vG C eG ops none rest fr (some ((.pt a b),h))=dG C eG ops rest (fr,h):=rfl
@[simp] def ajp(d:Tmp)(rest:List Oper)(fr:List AV)(a:List AV)(b:Nat)(h:Hp):vF C eG ops (some d) rest fr (some ((.rp a b),h))=dV C eG ops rest (fr.set d (.rp a b),h):=rfl
@[simp] def afI(rest:List Oper)(fr:List AV)(a:List AV)(b:Nat)(h:Hp):vF C eG ops none rest fr (some ((.rp a b),h))=dV C eG ops rest (fr,h):=rfl
@[simp] def ajI(d:Tmp)(rest:List Oper)(fr:List AV)(a:List AV)(b:Nat)(h:Hp):vG C eG ops (some d) rest fr (some ((.rp a b),h))=dG C eG ops rest (fr.set d (.rp a b),h):=rfl
@[simp] def afS(rest:List Oper)(fr:List AV)(a:List AV)(b:Nat)(h:Hp):vG C eG ops none rest fr (some ((.rp a b),h))=dG C eG ops rest (fr,h):=rfl
@[simp] def ajR(d:Tmp)(rest:List Oper)(fr:List AV)(a:FuncId)(b:List AV)(h:Hp):vF C eG ops (some d) rest fr (some ((.fn a b),h))=dV C eG ops rest (fr.set d (.fn a b),h):=rfl
@[simp] def afu(rest:List Oper)(fr:List AV)(a:FuncId)(b:List AV)(h:Hp):vF C eG ops none rest fr (some ((.fn a b),h))=dV C eG ops rest (fr,h):=rfl
@[simp] def aj8(d:Tmp)(rest:List Oper)(fr:List AV)(a:FuncId)(b:List AV)(h:Hp):vG C eG ops (some d) rest fr (some ((.fn a b),h))=dG C eG ops rest (fr.set d (.fn a b),h):=rfl
@[simp] def afQ(rest:List Oper)(fr:List AV)(a:FuncId)(b:List AV)(h:Hp):vG C eG ops none rest fr (some ((.fn a b),h))=dG C eG ops rest (fr,h):=rfl
@[simp] def ajq(d:Tmp)(rest:List Oper)(fr:List AV)(a:List AV)(h:Hp):vF C eG ops (some d) rest fr (some ((.ag a),h))=dV C eG ops rest (fr.set d (.ag a),h):=rfl
@[simp] def afM(rest:List Oper)(fr:List AV)(a:List AV)(h:Hp):vF C eG ops none rest fr (some ((.ag a),h))=dV C eG ops rest (fr,h):=rfl
@[simp] def ajQ(d:Tmp)(rest:List Oper)(fr:List AV)(a:List AV)(h:Hp):vG C eG ops (some d) rest fr (some ((.ag a),h))=dG C eG ops rest (fr.set d (.ag a),h):=rfl
@[simp] def afw(rest:List Oper)(fr:List AV)(a:List AV)(h:Hp):vG C eG ops none rest fr (some ((.ag a),h))=dG C eG ops rest (fr,h):=rfl
@[simp] def ajr(d:Tmp)(rest:List Oper)(fr:List AV)(a:List AV)(h:Hp):vF C eG ops (some d) rest fr (some ((.tp a),h))=dV C eG ops rest (fr.set d (.tp a),h):=rfl
@[simp] def af1(rest:List Oper)(fr:List AV)(a:List AV)(h:Hp):vF C eG ops none rest fr (some ((.tp a),h))=dV C eG ops rest (fr,h):=rfl
@[simp] def ajP(d:Tmp)(rest:List Oper)(fr:List AV)(a:List AV)(h:Hp):vG C eG ops (some d) rest fr (some ((.tp a),h))=dG C eG ops rest (fr.set d (.tp a),h):=rfl
@[simp] def afH(rest:List Oper)(fr:List AV)(a:List AV)(h:Hp):vG C eG ops none rest fr (some ((.tp a),h))=dG C eG ops rest (fr,h):=rfl
@[simp] def ajH(d:Tmp)(rest:List Oper)(fr:List AV)(a:Nat)(h:Hp):vF C eG ops (some d) rest fr (some ((.mp a),h))=dV C eG ops rest (fr.set d (.mp a),h):=rfl
@[simp] def afk(rest:List Oper)(fr:List AV)(a:Nat)(h:Hp):vF C eG ops none rest fr (some ((.mp a),h))=dV C eG ops rest (fr,h):=rfl
@[simp] def ajV(d:Tmp)(rest:List Oper)(fr:List AV)(a:Nat)(h:Hp):vG C eG ops (some d) rest fr (some ((.mp a),h))=dG C eG ops rest (fr.set d (.mp a),h):=rfl
@[simp] def afo(rest:List Oper)(fr:List AV)(a:Nat)(h:Hp):vG C eG ops none rest fr (some ((.mp a),h))=dG C eG ops rest (fr,h):=rfl
def Iy(w:Bool)(v:AV):Option Bool:=match v with| .sc (.bool b)=>some (b==w)| .un=>some false|_=>none
@[simp] def ae9(w:Bool):Iy w .un=some false:=rfl
@[simp] def ac9(b:Bool):Iy true (.sc (.bool b))=some b:=by cases b<;>rfl
@[simp] def aaG(b:Bool):Iy false (.sc (.bool b))=some !b:=by cases b<;>rfl
def KL(ops:Array Oper)(fr:List AV)(j:Nat)(w:Bool):Option Bool:=match(ops[j]?).bind (·.dst)with|none=>some false|some d=>Iy w (gt fr d)
@[simp] def ac3(fr:List AV)(d:Option Tmp)(op:Op)(t:TypeId)(p:String)(a:Array Edge)(j:Nat)(w:Bool):jd ops fr {dst:=d,op:=op,type:=t,pos:=p,after:=a,guard:=some (j,w)}=KL ops fr j w:=by
 simp only[jd,KL];cases (ops[j]?).bind (·.dst)with
 |none=>rfl
 |some d=>
  simp only[Iy,gt,List.getD];cases fr[d]? with
  |none=>rfl
  |some v=>
   cases v<;>try rfl
   rename_i u;cases u<;>rfl
def eY(h:Hp)(v:AV)(sz:Nat)(agg:Bool):Option AV:=
 match v with
 | .pt id off=>(match gu h id with|some cs=>Ae.part agg off sz cs|none=>none)
 |_=>none
@[simp] def adn(s:St)(a:Tmp)(sz:Nat)(agg:Bool):vu s (.cell a sz agg)=eY s.2 (gt s.1 a) sz agg:=rfl
@[simp] def afb(s:St)(t:Tmp):vu s (.tmp t)=some (gt s.1 t):=rfl
@[simp] def ac2(fr:List AV)(d:Option Tmp)(op:Op)(t:TypeId)(p:String)(a:Array Edge):jd ops fr {dst:=d,op:=op,type:=t,pos:=p,after:=a,guard:=none}=some true:=rfl
@[simp] def ajK(fr:List AV)(t:Tmp):ev C fr (.tmp t)=gt fr t:=rfl
@[simp] def ae0(fr:List AV)(v:Value):ev C fr (.const v)=ofConst v:=rfl
@[simp] def afC(fr:List AV)(f:FuncId):ev C fr (.func f)= .fn f []:=rfl
@[simp] def acS(t:Tmp):zK (.tmp t)=false:=rfl
end two
def h_(res:List Rv)(s:St):Option AV:=
 match res with
 | [t]=>vu s t
 |ts=>(ts.mapM (vu s)).map .tp
def dT(res:List Rv)(x:Option (Out × St)):Option (AV × Hp):=
 match x with
 |some (.normal,s)=>(h_ res s).map λr=>(r,s.2)
 |some (.ret,s)=>(h_ res s).map λr=>(r,s.2)
 |some (.wU v,s)=>some (.pn v,s.2)
 |_=>none
@[simp] def aeZ(s:St)(r:Rv):h_ [r] s=vu s r:=rfl
@[simp] def aeY(s:St)(r q:Rv):h_ [r,q] s=(([r,q]:List Rv).mapM (vu s)).map .tp:=rfl
@[simp] def acV(s:St)(r q u:Rv):h_ [r,q,u] s=(([r,q,u]:List Rv).mapM (vu s)).map .tp:=rfl
@[simp] def aax(fi:List Rv)(s:St):dT fi (some (.normal,s))=(h_ fi s).map λr=>(r,s.2):=rfl
@[simp] def ae6(fi:List Rv)(s:St):dT fi (some (.ret,s))=(h_ fi s).map λr=>(r,s.2):=rfl
@[simp] def ae4(fi:List Rv)(v:Value)(s:St):dT fi (some (.wU v,s))=some (.pn v,s.2):=rfl
section body
variable {C : Cx} {call : Bool -> FuncId -> List AV -> Hp -> Option (AV × Hp)}
def nQ{f:FuncId}{fi:Fi}(hF:C.F f=some fi)(jB:vg C fi.body=true){args:List AV}(hl:args.length<=fi.ntmps)(h:Hp):
 oH C call f args h=dT fi.res (dd C call fi.body (args++List.replicate (fi.ntmps-args.length) .un,h)):=by
 unfold oH;rw[hF];simp only[hl,if_true];rw[HT _ jB];rfl
def iE{h:Hp}{n:Nat}{x:AV}(hc:calm x=true):da h (n+2) x=some x:=by
 have one:∀(m:Nat)(y:AV),(match y with| .sc _| .ls .. | .rp .. =>true|_=>false)=true->da h m y=some y:=by
  intro m y hy;cases y<;>simp at hy<;>simp[da]
 have all:∀(m:Nat)(ys:List AV),(ys.all λ| .sc _| .ls .. | .rp .. =>true|_=>false)=true->ys.mapM (da h m)=some ys:=by
  intro m ys
  induction ys with
  |nil=>intro _;rfl
  |cons y ys ih=>
   intro hy;simp only[Zn,Zh]at hy;rw[Zo,one m y hy.1,ih hy.2];rfl
 unfold calm at hc;split at hc
 .simp[da]
 .simp[da]
 .simp[da]
 .rename_i xs;simp only[da];rw[all _ xs hc];rfl
 .rename_i xs;simp only[da];rw[all _ xs hc];rfl
 .cases hc
def sW{h:Hp}{n:Nat}:∀{xs:List AV},xs.all calm=true->xs.mapM (da h (n+2))=some xs
 | [],_=>rfl
 |
  x::xs,hx=>by
  simp only[Zn,Zh]at hx;rw[Zo,iE hx.1,sW hx.2];rfl
def vb{f:FuncId}{args:List AV}{n:Nat}{r r':AV}{h':Hp}(hs:C.vc f=none)(hi:C.inl f=false)(ht:C.BZ f args=none)(hc:args.all calm=true)(hb:oH C (cu C n) f args []=some (r,h'))(hr:da h' 8 r=some r')(b:Bool)(h:Hp):cu C (n+1) b f args h=some (C.nf f r',h):=by
 have e:args.mapM (da h 8)=some args:=sW (n:=6) hc;simp only[cu,hs,hi,Yl,if_false,e,ht,hb,hr,hc,Bool.true_or,if_true,Yw]
def O4{f:FuncId}{args:List AV}{n:Nat}{r r':AV}{h':Hp}(hs:C.vc f=none)(hi:C.inl f=false)(ht:C.BZ f args=none)(hn:C.nf f r'=r')(hc:args.all calm=true)(hb:oH C (cu C n) f args []=some (r,h'))(hr:da h' 8 r=some r')(b:Bool)(h:Hp):cu C (n+1) b f args h=some (r',h):=by
 rw[vb hs hi ht hc hb hr b h,hn]
def QN{f:FuncId}{args:List AV}{n:Nat}{r:AV}(hs:C.vc f=none)(hi:C.inl f=false)(ht:C.BZ f args=some r)(hc:args.all calm=true)(b:Bool)(h:Hp):cu C (n+1) b f args h=some (r,h):=by
 have e:args.mapM (da h 8)=some args:=sW (n:=6) hc;simp only[cu,hs,hi,Yl,if_false,e,ht,hc,Bool.true_or,if_true]
end body
def KM{f:St->Option (Out × St)}(Inv:Nat->St->Prop)(Q:Out->St->Prop)(step:∀k s,Inv k s->∃o s',f s=some (o,s')/\(match o with| .normal=>∃k',k'<k/\Inv k' s'|o=>Q o s')):
 ∀(k:Nat)(s:St),Inv k s->∀fuel,k<fuel->∃o s',vt f fuel s=some (o,s')/\o≠ .normal/\Q o s':=by
 intro k
 induction k using Nat.strongRecOn with
 |ind k ih=>
  intro s hI fuel hk;obtain⟨m,rfl⟩:∃m,fuel=m+1:=⟨fuel-1,by omega⟩;obtain⟨o,s',h1,h2⟩:=step k s hI;simp only[vt,h1];cases o with
  |
   normal=>
   obtain⟨k',kD,hI'⟩:=h2;exact ih k' kD s' hI' m (by omega)
  |exit i=>exact⟨_,_,rfl,by simp,h2⟩
  |ret=>exact⟨_,_,rfl,by simp,h2⟩
  |wU v=>exact⟨_,_,rfl,by simp,h2⟩
def DW{C:Cx}{call:Bool->lu}{c:Code}{s:St}{G:Option (Out × St)->Prop}(Inv:Nat->St->Prop)(Q:Out->St->Prop)(k:Nat)(hk:k<C.fuel)(hI:Inv k s)(step:∀k s,Inv k s->∃o s',dd C call c s=some (o,s')/\(match o with| .normal=>∃k',k'<k/\Inv k' s'|o=>Q o s'))(fin:∀o s',o≠ .normal->Q o s'->G (some (o,s'))):G (dd C call (.loop c) s):=by
 obtain⟨o,s',h1,h2,h3⟩:=KM Inv Q step k s hI C.fuel hk;show G (vt (dd C call c) C.fuel s);rw[h1];exact fin o s' h2 h3
def xO(Inv:Nat->St->Prop)(Q:Out->St->Prop)(k:Nat):Option (Out × St)->Prop
 |some (.normal,s)=>∃k',k'<k/\Inv k' s
 |some (o,s)=>Q o s
 |none=>False
@[simp] def Ve(Inv:Nat->St->Prop)(Q:Out->St->Prop)(k:Nat)(s:St):xO Inv Q k (some (.normal,s))=∃k',k'<k/\Inv k' s:=rfl
@[simp] def aaB(Inv:Nat->St->Prop)(Q:Out->St->Prop)(k i:Nat)(s:St):xO Inv Q k (some (.exit i,s))=Q (.exit i) s:=rfl
@[simp] def ac6(Inv:Nat->St->Prop)(Q:Out->St->Prop)(k:Nat)(s:St):xO Inv Q k (some (.ret,s))=Q .ret s:=rfl
@[simp] def ac8(Inv:Nat->St->Prop)(Q:Out->St->Prop)(k:Nat)(v:Value)(s:St):xO Inv Q k (some (.wU v,s))=Q (.wU v) s:=rfl
def UU(Inv:Nat->St->Prop)(Q:Out->St->Prop)(N i:Nat):Option (Out × St)->Prop
 |some (.normal,s)=>i<N/\Inv (i+1) s
 |some (o,s)=>Q o s
 |none=>False
@[simp] def acT(Inv:Nat->St->Prop)(Q:Out->St->Prop)(N i:Nat)(s:St):UU Inv Q N i (some (.normal,s))=(i<N/\Inv (i+1) s):=rfl
@[simp] def ae8(Inv:Nat->St->Prop)(Q:Out->St->Prop)(N i j:Nat)(s:St):UU Inv Q N i (some (.exit j,s))=Q (.exit j) s:=rfl
@[simp] def afr(Inv:Nat->St->Prop)(Q:Out->St->Prop)(N i:Nat)(s:St):UU Inv Q N i (some (.ret,s))=Q .ret s:=rfl
@[simp] def afU(Inv:Nat->St->Prop)(Q:Out->St->Prop)(N i:Nat)(v:Value)(s:St):UU Inv Q N i (some (.wU v,s))=Q (.wU v) s:=rfl
def qe{C:Cx}{call:Bool->lu}{c:Code}{fr:List AV}{h:Hp}{G:Option (Out × St)->Prop}(Inv:Nat->St->Prop)(Q:Out->St->Prop)(k:Nat)(hk:k<C.fuel)(hI:Inv k (fr,h))(step:∀k fr h,Inv k (fr,h)->xO Inv Q k (dd C call c (fr,h)))(fin:∀o fr h,o≠ .normal->Q o (fr,h)->G (some (o,(fr,h)))):G (dd C call (.loop c) (fr,h)):=by
 refine DW Inv Q k hk hI (λk s hs=>?_) λo s=>fin o s.1 s.2
 have:=step k s.1 s.2 hs
 revert this
 cases dd C call c (s.1,s.2)with
 |none=>exact λh=>h.elim
 |some q=>
  obtain⟨o,s'⟩:=q;intro h;refine⟨o,s',rfl,?_⟩;cases o<;>exact h
def oM{C:Cx}{call:Bool->lu}{c:Code}{fr:List AV}{h:Hp}{G:Option (Out × St)->Prop}(Inv:Nat->St->Prop)(Q:Out->St->Prop)(N:Nat)(hN:N<C.fuel)(hI:Inv 0 (fr,h))(step:∀i fr h,i<=N->Inv i (fr,h)->UU Inv Q N i (dd C call c (fr,h)))(fin:∀o fr h,o≠ .normal->Q o (fr,h)->G (some (o,(fr,h)))):G (dd C call (.loop c) (fr,h)):=by
 refine DW (λk s=>∃i,i+k=N/\Inv i s) Q N hN ⟨0,by omega,hI⟩ (λk s hs=>?_) λo s=>fin o s.1 s.2
 obtain⟨i,hi,hs⟩:=hs;have:=step i s.1 s.2 (by omega) hs
 revert this
 cases dd C call c (s.1,s.2)with
 |none=>exact λh=>h.elim
 |some q=>
  obtain⟨o,s'⟩:=q;intro h;refine⟨o,s',rfl,?_⟩;cases o with
  |normal=>exact⟨k-1,by have:=h.1;omega,i+1,by have:=h.1;omega,h.2⟩
  |exit j=>exact h
  |ret=>exact h
  |wU v=>exact h
def wZ(sz:Nat):AV->AV
 | .sc (.slice none 0 0)=> .ls sz [] false
 | .ls s cq z=>if s=sz then .ls sz cq false else .ls s cq z
 |x=>x
def nfN :List AV->List AV
 | [a,l,p]=> [a,wZ 1 l,wZ 6 p]
 |r=>r
def nfE :List AV->List AV
 | [a,b,c,d,p]=> [a,b,c,d,wZ 6 p]
 |r=>r
def nfL(sz:Nat)(g:List AV->List AV):AV->AV
 | .sc (.slice none 0 0)=> .ls sz [] false
 | .ls s cq z=>if s=sz then .ls sz (cq.map g) false else .ls s cq z
 |x=>x
def nfG :AV->AV
 | .ag [n,e,a,b]=> .ag [nfL 3 nfN n,nfL 5 nfE e,a,b]
 |x=>x
def nfR :AV->AV
 | .tp (x::xs)=> .tp (nfG x::xs)
 |x=>nfG x
def qT{w:World}{X:Nat->Prop}{v:Value}{x:AV}(sz:Nat)(h:Ri w X v x):Ri w X v (wZ sz x):=by
 unfold wZ;split
 .obtain⟨rfl,_⟩:=h.dQ;exact .le none 0 sz false (by simp[maxLen]) (by simp)
 .rename_i s cq z;split
  .rename_i e;subst e;rcases h.iR with⟨rfl,b,cap,rfl,c1,c2⟩|⟨b,o',cap,us,cV,t0,fz,rfl,c1,c2,c4,c5,c6,c7,c8⟩
   .exact .le _ _ _ _ c1 (by simp)
   .exact .ls b o' cq.length cap s cq false us cV t0 fz c1 c2 rfl c4 c5 (by simp) c7 (λi row j x h1 h2=>⟨(c8 i row j x h1 h2).1,(c8 i row j x h1 h2).2.1⟩) (λi row j x h1 h2=>(c8 i row j x h1 h2).2.2)
  .exact h
 .exact h
def YQ(g:List AV->List AV):Prop:=∀(r:List AV),(g r).length=r.length/\∀(w:World)(X:Nat->Prop)(us:Nat->Value),(∀(j:Nat)(x:AV),r[j]?=some x->Ri w X (us j) x)->∀(j:Nat)(x:AV),(g r)[j]?=some x->Ri w X (us j) x
def Ur :YQ nfN:=by
 intro r;unfold nfN;split
 .refine⟨rfl,λw X us h j x hj=>?_⟩
  match j,hj with
  |0,hj=>exact h 0 x hj
  |1,hj=>simp at hj;subst hj;exact qT 1 (h 1 _ rfl)
  |2,hj=>simp at hj;subst hj;exact qT 6 (h 2 _ rfl)
  |n+3,hj=>simp at hj
 .exact⟨rfl,λw X us h=>h⟩
def Us :YQ nfE:=by
 intro r;unfold nfE;split
 .refine⟨rfl,λw X us h j x hj=>?_⟩
  match j,hj with
  |0,hj=>exact h 0 x hj
  |1,hj=>exact h 1 x hj
  |2,hj=>exact h 2 x hj
  |3,hj=>exact h 3 x hj
  |4,hj=>simp at hj;subst hj;exact qT 6 (h 4 _ rfl)
  |n+5,hj=>simp at hj
 .exact⟨rfl,λw X us h=>h⟩
def Fp{w:World}{X:Nat->Prop}{v:Value}{x:AV}(sz:Nat){g:List AV->List AV}(hg:YQ g)(h:Ri w X v x):Ri w X v (nfL sz g x):=by
 unfold nfL;split
 .obtain⟨rfl,_⟩:=h.dQ;exact .le none 0 sz false (by simp[maxLen]) (by simp)
 .rename_i s cq z;split
  .rename_i e;subst e;rcases h.iR with⟨rfl,b,cap,rfl,c1,c2⟩|⟨b,o',cap,us,cV,t0,fz,rfl,c1,c2,c4,c5,c6,c7,c8⟩
   .exact .le _ _ _ _ c1 (by simp)
   .refine .ls b o' cq.length cap s (cq.map g) false us cV t0 fz c1 c2 (by simp) c4 c5 (by simp) (λi row hr=>?_) (λi row j x h1 h2=>?_) (λi row j x h1 h2=>?_)
    .simp only[Zs,Ze]at hr;obtain⟨r,hr,rfl⟩:=hr;rw[(hg r).1];exact c7 i r hr
    .simp only[Zs,Ze]at h1;obtain⟨r,hr,rfl⟩:=h1;have hj:j<r.length:=by rw[<-(hg r).1];exact(Za.1 h2).1
     have:=c8 i r j _ hr (Zb hj);exact⟨this.1,this.2.1⟩
    .simp only[Zs,Ze]at h1;obtain⟨r,hr,rfl⟩:=h1;exact(hg r).2 w X (us i) (λj x hj=>(c8 i r j x hr hj).2.2) j x h2
  .exact h
 .exact h
def Ri.wH{w:World}{X:Nat->Prop}{v:Value}{xs:List AV}(h:Ri w X v (.ag xs)):∃us:Array Value,v= .agg us/\us.size=xs.length/\(∀k,k<us.size->(us.getD k undef).oneCell'=true)/\∀(k:Nat)(x:AV),xs[k]?=some x->Ri w X (us.getD k undef) x:=by
 cases h with
 |ag us _ h1 h2 h3=>exact⟨us,rfl,h1,h2,h3⟩
def Ri.Fq{w:World}{X:Nat->Prop}{v:Value}{xs:List AV}(h:Ri w X v (.tp xs)):∃us:Array Value,v= .tuple us/\us.size=xs.length/\∀(k:Nat)(x:AV),xs[k]?=some x->Ri w X (us.getD k undef) x:=by
 cases h with
 |tp us _ h1 h2=>exact⟨us,rfl,h1,h2⟩
def Ut{w:World}{X:Nat->Prop}{v:Value}{x:AV}(h:Ri w X v x):Ri w X v (nfG x):=by
 unfold nfG;split
 .obtain⟨us,rfl,h1,h2,h3⟩:=h.wH;refine .ag us _ (by simpa using h1) h2 λk x hk=>?_
  match k,hk with
  |0,hk=>simp at hk;subst hk;exact Fp 3 Ur (h3 0 _ rfl)
  |1,hk=>simp at hk;subst hk;exact Fp 5 Us (h3 1 _ rfl)
  |2,hk=>exact h3 2 x hk
  |3,hk=>exact h3 3 x hk
  |n+4,hk=>simp at hk
 .exact h
def acF{w:World}{X:Nat->Prop}{v:Value}{x:AV}(h:Ri w X v x):Ri w X v (nfR x):=by
 unfold nfR;split
 .obtain⟨us,rfl,h1,h2⟩:=h.Fq;refine .tp us _ (by simpa using h1) λk x hk=>?_
  match k,hk with
  |0,hk=>simp at hk;subst hk;exact Ut (h2 0 _ rfl)
  |n+1,hk=>exact h2 (n+1) x hk
 .exact Ut h
def nfP :List AV->List AV
 | [a,b,c,d,e,l]=> [a,b,c,d,e,wZ 5 l]
 |r=>r
def Iz :YQ nfP:=by
 intro r;unfold nfP;split
 .refine⟨rfl,λw X us h j x hj=>?_⟩
  match j,hj with
  |0,hj=>exact h 0 x hj
  |1,hj=>exact h 1 x hj
  |2,hj=>exact h 2 x hj
  |3,hj=>exact h 3 x hj
  |4,hj=>exact h 4 x hj
  |5,hj=>simp at hj;subst hj;exact qT 5 (h 5 _ rfl)
  |n+6,hj=>simp at hj
 .exact⟨rfl,λw X us h=>h⟩
def nfW :AV->AV
 | .ag [a,b,c,d,l]=> .ag [a,b,c,d,wZ 5 l]
 | .tp [.ag [a,l,p],x]=> .tp [.ag [a,wZ 1 l,nfL 6 nfP p],x]
 | .tp [.ag [a,b,c,d,p],x]=> .tp [.ag [a,b,c,d,nfL 6 nfP p],x]
 |x=>x
def acG{w:World}{X:Nat->Prop}{v:Value}{x:AV}(h:Ri w X v x):Ri w X v (nfW x):=by
 unfold nfW;split
 .obtain⟨us,rfl,h1,h2,h3⟩:=h.wH;refine .ag us _ (by simpa using h1) h2 λk x hk=>?_
  match k,hk with
  |0,hk=>exact h3 0 x hk
  |1,hk=>exact h3 1 x hk
  |2,hk=>exact h3 2 x hk
  |3,hk=>exact h3 3 x hk
  |4,hk=>simp at hk;subst hk;exact qT 5 (h3 4 _ rfl)
  |n+5,hk=>simp at hk
 .obtain⟨us,rfl,h1,h2⟩:=h.Fq;refine .tp us _ (by simpa using h1) λk x hk=>?_
  match k,hk with
  |
   0,hk=>
   simp at hk;subst hk;obtain⟨vs,e,h1,h2,h3⟩:=(h2 0 _ rfl).wH;rw[e];refine .ag vs _ (by simpa using h1) h2 λk x hk=>?_
   match k,hk with
   |0,hk=>exact h3 0 x hk
   |1,hk=>simp at hk;subst hk;exact qT 1 (h3 1 _ rfl)
   |2,hk=>simp at hk;subst hk;exact Fp 6 Iz (h3 2 _ rfl)
   |n+3,hk=>simp at hk
  |n+1,hk=>exact h2 (n+1) x hk
 .obtain⟨us,rfl,h1,h2⟩:=h.Fq;refine .tp us _ (by simpa using h1) λk x hk=>?_
  match k,hk with
  |
   0,hk=>
   simp at hk;subst hk;obtain⟨vs,e,h1,h2,h3⟩:=(h2 0 _ rfl).wH;rw[e];refine .ag vs _ (by simpa using h1) h2 λk x hk=>?_
   match k,hk with
   |0,hk=>exact h3 0 x hk
   |1,hk=>exact h3 1 x hk
   |2,hk=>exact h3 2 x hk
   |3,hk=>exact h3 3 x hk
   |4,hk=>simp at hk;subst hk;exact Fp 6 Iz (h3 4 _ rfl)
   |n+5,hk=>simp at hk
  |n+1,hk=>exact h2 (n+1) x hk
 .exact h
section three
variable {C : Cx} {call : Bool -> FuncId -> List AV -> Hp -> Option (AV × Hp)} {bad : Nat -> Bool}
def fM(x y:Option (AV × Hp))(r:Option St):Option (Out × St):=match x,y with|some (v,_),some (v',_)=>(if tE v' v=true then acE r else none)|_,_=>none
def Bc{eG:FuncId->List AV->Hp->Option (AV × Hp)}{ops:Array Oper}:∀(l:List Oper)(s:St)(tT:List St),j_ C eG ops l s=some tT->∀k,k<=l.length->tT[k]?=dG C eG ops (l.take k) s
 |
  [],s,tT,h,k,hk=>by
  simp only[j_,Zc]at h;subst h;have:k=0:=by simpa using hk
  subst this;rfl
 |
  o::l,s,tT,h,k,hk=>by
  simp only[j_]at h;cases hq:step1 C eG ops o s with
  |none=>rw[hq]at h;cases h
  |some s'=>
   rw[hq]at h;simp only[Ze]at h;obtain⟨m,hm,rfl⟩:=h;cases k with
   |zero=>rfl
   |succ k=>
    have:=Bc l s' m hm k (by simpa using hk);simp only[List.getElem?_cons_succ,List.take_succ_cons,dG,hq,this]
end three
def nfQ :AV->AV
 | .ag [a,l]=> .ag [a,wZ 1 l]
 |x=>x
def EM(k:Nat)(r:AV):AV:=if k=0 then r else if k=8 then nfQ r else wZ k r
def acH{w:World}{X:Nat->Prop}{v:Value}{x:AV}(h:Ri w X v x):Ri w X v (nfQ x):=by
 unfold nfQ;split
 .obtain⟨us,rfl,h1,h2,h3⟩:=h.wH;refine .ag us _ (by simpa using h1) h2 λk x hk=>?_
  match k,hk with
  |0,hk=>exact h3 0 x hk
  |1,hk=>simp at hk;subst hk;exact qT 1 (h3 1 _ rfl)
  |n+2,hk=>simp at hk
 .exact h
def acI(k:Nat){w:World}{X:Nat->Prop}{v:Value}{x:AV}(h:Ri w X v x):Ri w X v (EM k x):=by
 unfold EM;split
 .exact h
 .split
  .exact acH h
  .exact qT k h
end Go.Ae
namespace Go.Proofs.YtmocfjnklfpnbaaGreatDoor
open Go Go.Ae Go.Proofs.Tryz
def ajl(f:FuncId):Bool:=([17,18,19,20,35,41,42,43,44,45,47,48,51,58,59,61,66,68,69,77,78,81,82,83,84,85,86,87,88,89,90,91,92,93,94,98,99,101,102,103,104,115,116,125,126,128,129,130,198,137,140,142,143,146,152,154,155,156,160,161,173,179,184,185,186,187,189,190,191,192,193,194,203,222,223,224,225,227,228,229,248,250,254,256,257,258,260,262,279,280,281]:List Nat).contains f
def HJ(o:Oper):Bool:=
 match o.op with
 | .makeSlice t _ _=>t==153 && (o.dst==some 31||o.dst==some 32)
 |
  .buildSlice t n _=>(t==83 && n==0 && o.dst==some 35)||(t==33 && n==1 && o.dst==some 42)||
  (t==27 && n==1 && (o.dst==some 152||o.dst==some 161))||(t==78 && (n==2 && o.dst==some 155||n==3 && o.dst==some 165))||(t==82 && n==1 && (o.dst==some 13||o.dst==some 48))||(t==281 && n==2 && o.dst==some 60)||(t==153 && (o.dst==some 7||o.dst==some 14||o.dst==some 31||o.dst==some 41||o.dst==some 47||o.dst==some 114||o.dst==some 125))
 | .slice t _ _ (some _) none=>(o.dst==some 25 && t==52)||(o.dst==some 22||o.dst==some 31) && (t==47||t==67||t==70||t==71)
 | .call {callee:= .builtin .append,argTypes,.. }=>o.dst==some 37 && argTypes.toList==[83,83]
 |_=>false
def acJ(f:FuncId):Bool:=f==267||f==269
def TS(f:FuncId):Option Nat:=if f=126 then some 5 else if f=173 then some 5 else none
def D6(f:FuncId):Option (Nat × Nat):=if f=18 then some (8,0)else none
def Et(f:FuncId)(xs:List AV):Option AV:=
 if f=296 then(match xs with
  | [.sc (.string a),.sc (.string b)]=>if a.size<4294967281 then some (.sc (.bool (Lib.contains a.data.toList b.data.toList)))else none
  |_=>none)else match TS f,xs with
  |some sz,[.ls s [] _]=>if s=sz then some (.ls sz [] (!(f==173)))else none
  |_,_=>none
def O5(f:FuncId):Bool:=([27,33]:List Nat).contains f
def O6(f:FuncId):Bool:=([63,28,30]:List Nat).contains f
def kx(f:FuncId):Nat:=if([215,144,305,162,236]:List Nat).contains f then 1 else if([212]:List Nat).contains f then 3 else if([26]:List Nat).contains f then 9 else if([151]:List Nat).contains f then 10 else 0
def pk(f:FuncId):Bool:=([55,53,105,106,107,52,54,23]:List Nat).contains f
def YR(f:FuncId)(r:AV):AV:=if O5 f then nfR r else if O6 f then nfW r else if pk f then wZ 8 r else EM (kx f) r
def la(f:FuncId):Bool:= !(f==296||(TS f).isSome||(D6 f).isSome||(O5 f||O6 f)||(kx f !=0||pk f))
def Uu(g:Nat):Option (List Value):=if g=0 then some [.int .i64 0,.int .i64 1]else if g=1 then some [.tuple #[]]else none
def FX{f:FuncId}{args:List AV}(h:la f=true):Et f args=none:=by
 simp only[la,Xd,Bool.or_eq_false_iff,Option.isSome_eq_false_iff,Option.isNone_iff_eq_none,beq_eq_false_iff_ne,bne_eq_false_iff_eq]at h;unfold Et;rw[cv h.1.1.1.1,h.1.1.1.2]
def Qf{f:FuncId}(h:la f=true):D6 f=none:=by
 simp only[la,Xd,Bool.or_eq_false_iff,Option.isSome_eq_false_iff,Option.isNone_iff_eq_none,beq_eq_false_iff_ne,bne_eq_false_iff_eq]at h;exact h.1.1.2
def YS{f:FuncId}(h:la f=true)(r:AV):YR f r=r:=by
 simp only[la,Xd,Bool.or_eq_false_iff,Option.isSome_eq_false_iff,Option.isNone_iff_eq_none,beq_eq_false_iff_ne,bne_eq_false_iff_eq]at h;unfold YR;rw[h.1.2.1,h.1.2.2,h.2.1,h.2.2];rfl
def DX(f:FuncId):Bool:= !(f==296||(TS f).isSome)
def DY{f:FuncId}{args:List AV}(h:DX f=true):Et f args=none:=by
 simp only[DX,Xd,Bool.or_eq_false_iff,Option.isSome_eq_false_iff,Option.isNone_iff_eq_none,beq_eq_false_iff_ne]at h;unfold Et;rw[cv h.1,h.2]
@[simp] def mvF(t:TypeId):Option Nat:=none
attribute [simp] mvA mvB
noncomputable def cx :Cx:={P:=prog,T:=ir prog,G:=Uu,F:=λf=>bif Nat.blt f 360 then I5 prog f else none,inl:=ajl,BZ:=Et,vc:=λf=>if f=224 then some (281,9)else none,MC:=λf=>if f=128 then some 203 else none,pb:=HJ,ext:=acJ,ins:=D6,nf:=YR,thr:=λf=>Nat.beq f 191,mv:=mvF,fuel:=1125899906842624}
def sY{f:FuncId}{args:List AV}{n:Nat}{r r':AV}{h':Hp}(fi:Fi)(hF:cx.F f=some fi)(jB:vg cx fi.body=true)(hs:cx.vc f=none)(hi:cx.inl f=false)(hl:args.length<=fi.ntmps)(hc:args.all calm=true)(hb:dT fi.res (dd cx (cu cx n) fi.body (args++List.replicate (fi.ntmps-args.length) .un,[]))=some (r,h'))(hr:da h' 8 r=some r')(b:Bool)(h:Hp)(ht:la f=true:=by decide):cu cx (n+1) b f args h=some (r',h):=
 O4 hs hi (FX ht) (YS ht _) hc (by rw[nQ hF jB hl];exact hb) hr b h
def O7{f:FuncId}{args:List AV}{n:Nat}{r:AV}(fi:Fi)(hF:cx.F f=some fi)(jB:vg cx fi.body=true)(hs:cx.vc f=none)(hi:cx.inl f=false)(hl:args.length<=fi.ntmps)(hc:args.all calm=true)(hr:calm r=true)(hb:(dT fi.res (dd cx (cu cx n) fi.body (args++List.replicate (fi.ntmps-args.length) .un,[]))).map Prod.fst=some r)(b:Bool)(h:Hp)(ht:la f=true:=by decide):cu cx (n+1) b f args h=some (r,h):=by
 simp only[Ze]at hb;obtain⟨⟨r0,h'⟩,hb,rfl⟩:=hb;exact sY fi hF jB hs hi hl hc hb (iE (n:=6) hr) b h ht
def vx{f:FuncId}{args:List AV}{n:Nat}(R:AV->Prop)(fi:Fi)(hF:cx.F f=some fi)(jB:vg cx fi.body=true)(hs:cx.vc f=none)(hi:cx.inl f=false)(hl:args.length<=fi.ntmps)(hc:args.all calm=true)(hb:∃r h',dT fi.res (dd cx (cu cx n) fi.body (args++List.replicate (fi.ntmps-args.length) .un,[]))=some (r,h')/\∃r',da h' 8 r=some r'/\R r')(ht:la f=true:=by decide):∃r',R r'/\∀b h,cu cx (n+1) b f args h=some (r',h):=by
 obtain⟨r,h',hb,r',hr,hR⟩:=hb;exact⟨r',hR,λb h=>sY fi hF jB hs hi hl hc hb hr b h ht⟩
def ET{f:FuncId}{args:List AV}{n:Nat}(r0:AV)(fi:Fi)(hF:cx.F f=some fi)(jB:vg cx fi.body=true)(hs:cx.vc f=none)(hi:cx.inl f=false)(hl:args.length<=fi.ntmps)(hc:args.all calm=true)(hb:∃r h',dT fi.res (dd cx (cu cx n) fi.body (args++List.replicate (fi.ntmps-args.length) .un,[]))=some (r,h')/\∃r',da h' 8 r=some r'/\EM (kx f) r'=r0)(ht:(DX f && !O5 f && !O6 f && !pk f)=true:=by decide)(b:Bool)(h:Hp):cu cx (n+1) b f args h=some (r0,h):=by
 obtain⟨r,h',hb,r',hr,hR⟩:=hb;simp only[Zh,Xd]at ht;have:=vb (C:=cx) hs hi (DY ht.1.1.1) hc (by rw[nQ hF jB hl];exact hb) hr b h;rw[this];show some (YR f r',h)=_;unfold YR;rw[ht.1.1.2,ht.1.2,ht.2];simp[hR]
def YT{f:FuncId}{args:List AV}{n:Nat}(r0:AV)(fi:Fi)(hF:cx.F f=some fi)(jB:vg cx fi.body=true)(hs:cx.vc f=none)(hi:cx.inl f=false)(hl:args.length<=fi.ntmps)(hc:args.all calm=true)(hb:∃r h',dT fi.res (dd cx (cu cx n) fi.body (args++List.replicate (fi.ntmps-args.length) .un,[]))=some (r,h')/\∃r',da h' 8 r=some r'/\wZ 8 r'=r0)(ht:(DX f && !O5 f && !O6 f && pk f)=true:=by decide)(b:Bool)(h:Hp):cu cx (n+1) b f args h=some (r0,h):=by
 obtain⟨r,h',hb,r',hr,hR⟩:=hb;simp only[Zh,Xd]at ht;have:=vb (C:=cx) hs hi (DY ht.1.1.1) hc (by rw[nQ hF jB hl];exact hb) hr b h;rw[this];show some (YR f r',h)=_;unfold YR;rw[ht.1.1.2,ht.1.2,ht.2];simp[hR]
@[simp] def ako :cx.mv=mvF:=rfl
instance :Coe Int AV:=⟨λx=>.sc (.int .i64 x)⟩
instance :Coe Nat AV:=⟨λx=>.sc (.int .i64 x)⟩
instance :Coe Bool AV:=⟨λx=>.sc (.bool x)⟩
instance :Coe ByteArray AV:=⟨λx=>.sc (.string x)⟩
instance :Coe Unit AV:=⟨λ_=>.sc (.slice none 0 0)⟩
noncomputable instance :CoeFun Nat λ_=>Code->St->Option (Out × St):=⟨λn=>dd cx (cu cx n)⟩
abbrev LA:=List AV
def fU{f:FuncId}{args:List AV}{n:Nat}{r:AV}(fn:Func)(res:List Rv)(hc:args.all calm=true)(hr:calm r=true)(hb:(dT res (dd cx (cu cx n) ((fn.body).getD .skip) (args++List.replicate (fn.ntmps-args.length) .un,[]))).map Prod.fst=some r)(b:Bool)(h:Hp)(ht:la f=true:=by decide)(hs:cx.vc f=none:=by rfl)(hF:cx.F f=some ⟨fn.ntmps,(fn.body).getD .skip,res⟩:=by kernel_rfl)(jB:vg cx ((fn.body).getD .skip)=true:=by kernel_rfl)(hi:cx.inl f=false:=by kernel_rfl)(hl:Nat.ble args.length fn.ntmps=true:=by rfl):cu cx (n+1) b f args h=some (r,h):=
 O7 ⟨fn.ntmps,(fn.body).getD .skip,res⟩ hF jB hs hi (Nat.le_of_ble_eq_true hl) hc hr hb b h ht
def IL{f:FuncId}{args:List AV}{n:Nat}{r r':AV}{h':Hp}(fn:Func)(res:List Rv)(hc:args.all calm=true)(hb:dT res (dd cx (cu cx n) ((fn.body).getD .skip) (args++List.replicate (fn.ntmps-args.length) .un,[]))=some (r,h'))(hr:da h' 8 r=some r')(b:Bool)(h:Hp)(ht:la f=true:=by decide)(hs:cx.vc f=none:=by rfl)(hF:cx.F f=some ⟨fn.ntmps,(fn.body).getD .skip,res⟩:=by kernel_rfl)(jB:vg cx ((fn.body).getD .skip)=true:=by kernel_rfl)(hi:cx.inl f=false:=by kernel_rfl)(hl:Nat.ble args.length fn.ntmps=true:=by rfl):cu cx (n+1) b f args h=some (r',h):=
 sY ⟨fn.ntmps,(fn.body).getD .skip,res⟩ hF jB hs hi (Nat.le_of_ble_eq_true hl) hc hb hr b h ht
def ZT{f:FuncId}{args:List AV}{n:Nat}{r0:AV}(fn:Func)(res:List Rv)(hc:args.all calm=true)(hb:∃r h',dT res (dd cx (cu cx n) ((fn.body).getD .skip) (args++List.replicate (fn.ntmps-args.length) .un,[]))=some (r,h')/\∃r',da h' 8 r=some r'/\EM (kx f) r'=r0)(b:Bool)(h:Hp)(ht:(DX f&&!O5 f&&!O6 f&&!pk f)=true:=by decide)(hs:cx.vc f=none:=by rfl)(hF:cx.F f=some ⟨fn.ntmps,(fn.body).getD .skip,res⟩:=by kernel_rfl)(jB:vg cx ((fn.body).getD .skip)=true:=by kernel_rfl)(hi:cx.inl f=false:=by kernel_rfl)(hl:Nat.ble args.length fn.ntmps=true:=by rfl):cu cx (n+1) b f args h=some (r0,h):=
 ET r0 ⟨fn.ntmps,(fn.body).getD .skip,res⟩ hF jB hs hi (Nat.le_of_ble_eq_true hl) hc hb ht b h
def XQ{f:FuncId}{args:List AV}{n:Nat}{r0:AV}(fn:Func)(res:List Rv)(hc:args.all calm=true)(hb:∃r h',dT res (dd cx (cu cx n) ((fn.body).getD .skip) (args++List.replicate (fn.ntmps-args.length) .un,[]))=some (r,h')/\∃r',da h' 8 r=some r'/\wZ 8 r'=r0)(b:Bool)(h:Hp)(ht:(DX f&&!O5 f&&!O6 f&&pk f)=true:=by decide)(hs:cx.vc f=none:=by rfl)(hF:cx.F f=some ⟨fn.ntmps,(fn.body).getD .skip,res⟩:=by kernel_rfl)(jB:vg cx ((fn.body).getD .skip)=true:=by kernel_rfl)(hi:cx.inl f=false:=by kernel_rfl)(hl:Nat.ble args.length fn.ntmps=true:=by rfl):cu cx (n+1) b f args h=some (r0,h):=
 YT r0 ⟨fn.ntmps,(fn.body).getD .skip,res⟩ hF jB hs hi (Nat.le_of_ble_eq_true hl) hc hb ht b h
def ve{call:Bool->FuncId->List AV->Hp->Option (AV × Hp)}{c ct:Code}{fr:List AV}{h:Hp}{res:List Rv}{k:Nat}{v:AV}(Inv:Nat->List AV->Hp->Prop)(Q:Out->List AV->Hp->Prop)(N:Nat)(hN:N<cx.fuel)(hI:Inv 0 fr h)(step:∀i fr h,i<=N->Inv i fr h->UU (λi s=>Inv i s.1 s.2) (λo s=>Q o s.1 s.2) N i (dd cx call c (fr,h)))(fin:∀o fr h,o≠ .normal->Q o fr h->∃h',dT res (jC cx call (gJ k (some (o,(fr,h)))) ct)=some (v,h')):∃h',dT res (jC cx call (gJ k (dd cx call (.loop c) (fr,h))) ct)=some (v,h'):=
 oM (C:=cx) (G:=λr=>∃h',dT res (jC cx call (gJ k r) ct)=some (v,h')) (λi s=>Inv i s.1 s.2) (λo s=>Q o s.1 s.2) N hN hI step fin
def lpG{call:Bool->FuncId->List AV->Hp->Option (AV × Hp)}{c ct:Code}{fr:List AV}{h:Hp}{res:List Rv}{k m:Nat}{v:AV}(Inv:Nat->List AV->Hp->Prop)(Q:Out->List AV->Hp->Prop)(N:Nat)(hN:N<cx.fuel)(hI:Inv 0 fr h)(step:∀i fr h,i<=N->Inv i fr h->UU (λi s=>Inv i s.1 s.2) (λo s=>Q o s.1 s.2) N i (dd cx call c (fr,h)))(fin:∀o fr h,o≠ .normal->Q o fr h->∃r0 h',dT res (jC cx call (gJ k (some (o,(fr,h)))) ct)=some (r0,h')/\∃r',da h' 8 r0=some r'/\EM m r'=v):∃r0 h',dT res (jC cx call (gJ k (dd cx call (.loop c) (fr,h))) ct)=some (r0,h')/\∃r',da h' 8 r0=some r'/\EM m r'=v:=
 oM (C:=cx) (G:=λr=>∃r0 h',dT res (jC cx call (gJ k r) ct)=some (r0,h')/\∃r',da h' 8 r0=some r'/\EM m r'=v) (λi s=>Inv i s.1 s.2) (λo s=>Q o s.1 s.2) N hN hI step fin
def eA{α:Type}{l:List α}{i:Nat}(h:i<l.length):∃p,l[i]?=some p:=⟨_,List.getElem?_eq_getElem h⟩
def gA{α:Type}{l:List α}{i:Nat}{x:α}(h:l[i]?=some x):∀k:i<l.length,l[i]'k=x:=λk=>by obtain⟨_,e⟩:=List.getElem?_eq_some_iff.1 h;exact e
def qW{α β:Type}{P:α->β->Prop}{a:α}{b:β}(h:P a b):∃r h',(a=r/\b=h')/\P r h':=⟨_,_,⟨rfl,rfl⟩,h⟩
@[simp] def afv :cx.pb=HJ:=rfl
@[simp] def akf :cx.ext=acJ:=rfl
@[simp] def akm :cx.T 3=some {size:=1,agg:=false,zero:=[.int .i64 (0)],kd:= .BX}:=by kernel_rfl
@[simp] def aj5 :cx.T 4=some {size:=1,agg:=false,zero:=[.bool false],kd:= .BX}:=by kernel_rfl
@[simp] def aeT :cx.T 9=some {size:=1,agg:=false,zero:=[.string ⟨#[]⟩],kd:= .BX}:=by kernel_rfl
@[simp] def afq :cx.T 153=some {size:=1,agg:=false,zero:=[.slice none 0 0],kd:= .slice 1 false 8 [.int .i64 (0)]}:=by kernel_rfl
@[simp] def aaH :cx.T 35=some {size:=5,agg:=true,zero:=[.int .i64 (0),.int .i64 (0),.int .i64 (0),.string ⟨#[]⟩,.slice none 0 0],kd:= .struct [(0,1,false),(1,1,false),(2,1,false),(3,1,false),(4,1,false)]}:=by kernel_rfl
@[simp] def Vf :cx.T 33=some {size:=1,agg:=false,zero:=[.slice none 0 0],kd:= .slice 5 true 64 [.int .i64 (0),.int .i64 (0),.int .i64 (0),.string ⟨#[]⟩,.slice none 0 0]}:=by kernel_rfl
@[simp] def acX :cx.T 37=some {size:=8,agg:=true,zero:=[.int .i64 (0),.string ⟨#[]⟩,.string ⟨#[]⟩,.int .i64 (0),.int .i64 (0),.int .i64 (0),.string ⟨#[]⟩,.slice none 0 0],kd:= .struct [(0,1,false),(1,1,false),(2,1,false),(3,5,true)]}:=by kernel_rfl
@[simp] def ZA :cx.T 27=some {size:=1,agg:=false,zero:=[.slice none 0 0],kd:= .slice 8 true 104 [.int .i64 (0),.string ⟨#[]⟩,.string ⟨#[]⟩,.int .i64 (0),.int .i64 (0),.int .i64 (0),.string ⟨#[]⟩,.slice none 0 0]}:=by kernel_rfl
@[simp] def ac0 :cx.T 189=some {size:=2,agg:=true,zero:=[.int .i64 (0),.int .i64 (0)],kd:= .struct [(0,1,false),(1,1,false)]}:=by kernel_rfl
@[simp] def aaC :cx.T 259=some {size:=3,agg:=true,zero:=[.bool false,.int .u64 (0),.int .u64 (0)],kd:= .struct [(0,1,false),(1,1,false),(2,1,false)]}:=by kernel_rfl
@[simp] def kp :cx.T 47=some {size:=1,agg:=false,zero:=[.slice none 0 0],kd:= .slice 1 false 16 [.string ⟨#[]⟩]}:=by kernel_rfl
@[simp] def afX :cx.T 21=some {size:=1,agg:=false,zero:=[.int .i32 (0)],kd:= .BX}:=by kernel_rfl
@[simp] def ae2 :cx.T 177=some {size:=1,agg:=false,zero:=[.int .u64 (0)],kd:= .BX}:=by kernel_rfl
@[simp] def afP :cx.T 5=some {size:=1,agg:=false,zero:=[.int .u8 (0)],kd:= .BX}:=by kernel_rfl
@[simp] def akh :cx.P.underlying 3=some (.int .i64):=by kernel_rfl
@[simp] def afa :cx.P.underlying 177=some (.int .u64):=by kernel_rfl
@[simp] def aj9 :cx.P.underlying 4=some .bool:=by kernel_rfl
@[simp] def ae7 :isStr cx 9=true:=by kernel_rfl
@[simp] def ajN :j9 cx 153=true:=by kernel_rfl
@[simp] def afe :j9 cx 33=true:=by kernel_rfl
def cK{n:Int}(h1: -9223372036854775808<=n)(h2:n<=9223372036854775807):dA .i64 n=n:=by
 show(if-9223372036854775808<=n/\n<=9223372036854775807 then n else IntKind.i64.wrap n)=n;rw[cw ⟨h1,h2⟩]
def ny{n:Int}(h1:0<=n)(h2:n<=18446744073709551615):dA .u64 n=n:=by
 show(if 0<=n/\n<=18446744073709551615 then n else IntKind.u64.wrap n)=n;rw[cw ⟨h1,h2⟩]
@[simp] def afA :cx.fuel=1125899906842624:=rfl
end Go.Proofs.YtmocfjnklfpnbaaGreatDoor
