/- Part of the proof. -/
import Derived.Test.YtmfohnojaginjaaGreatDoorP7
import Derived.Lib.ItoaNum
set_option linter.all false
namespace Go.Ae
open Go
def cO(C:Cx)(call:Bool->iB):Code->St->Option (Out × St)
 | .skip,s=>some (.normal,s)
 | .label _,s=>some (.normal,s)
 | .region _ ops mixed,s=>bif mixed then(cp C (call false) ops ops.toList s).map λs'=>(.normal,s')else dr C (call true) ops ops.toList s
 |
  .seq a b,s=>match cO C call a s with
  |some (.normal,s')=>cO C call b s'
  |r=>r
 |
  .cond c a b,s=>match ev C s.1 c with
  | .sc (.bool true)=>cO C call a s
  | .sc (.bool false)=>cO C call b s
  |_=>none
 |
  .block id c,s=>match cO C call c s with
  |some (.exit i,s')=>some (if i=id then .normal else .exit i,s')
  |r=>r
 | .loop c,s=>tj (cO C call c) C.fuel s
 | .exit id,s=>some (.exit id,s)
 | .ret,s=>some (.ret,s)
 |_,_=>none
def sZ(C:Cx):Code->Bool
 | .region id ops true=>(needs C ops).isEmpty && !G0 C ops && (C.two id ops).isNone
 | .seq a b=>sZ C a && sZ C b
 | .cond _ a b=>sZ C a && sZ C b
 | .block _ c=>sZ C c
 | .loop c=>sZ C c
 |_=>true
section two
variable {C : Cx} {call : Bool -> FuncId -> List AV -> Hp -> Option (AV × Hp)}
def fU{cal:iB}{ops:Array Oper}:∀(l:List Oper)(s:St),(eC C cal ops l s).bind (·[l.length]?)=cp C cal ops l s
 | [],s=>rfl
 |
  o::l,s=>by
  simp only[eC,cp];cases step1 C cal ops o s with
  |none=>rfl
  |some s'=>
   simp only;rw[<-fU l s'];cases eC C cal ops l s' with
   |none=>rfl
   |some m=>simp
def xx :∀(c:Code),sZ C c=true->exec C call c=cO C call c:=by
 intro c
 induction c with
 |region id ops mixed=>
  intro hk
  funext s
  simp only[exec,cO];cases mixed with
  |false=>rfl
  |
   true=>
   simp only[sZ,Zh,Xj,List.isEmpty_iff,Yb]at hk;rw[<-fU];simp only[hk.2,hk.1.1,vS,hk.1.2,Ys,if_false,if_true,cond_true,Array.length_toList];cases eC C (call false) ops ops.toList s with
   |none=>rfl
   |some m=>simp
 |seq x y ND Wu=>
  intro hk;simp only[sZ,Zh]at hk
  funext s
  simp only[exec,cO,ND hk.1,Wu hk.2];rfl
 |cond q x y ND Wu=>
  intro hk;simp only[sZ,Zh]at hk
  funext s
  simp only[exec,cO,ND hk.1,Wu hk.2];rfl
 |block id x ih=>
  intro hk;simp only[sZ]at hk
  funext s
  simp only[exec,cO,ih hk];rfl
 |loop x ih=>
  intro hk;simp only[sZ]at hk
  funext s
  simp only[exec,cO,ih hk]
 |_=>intro _;rfl
def eX(C:Cx)(call:Bool->iB)(x:Option (Out × St))(b:Code):Option (Out × St):=
 match x with|some (.normal,s)=>cO C call b s|r=>r
def N7(C:Cx)(call:Bool->iB)(v:AV)(a b:Code)(s:St):Option (Out × St):=
 match v with| .sc (.bool true)=>cO C call a s| .sc (.bool false)=>cO C call b s|_=>none
def du(id:Nat)(x:Option (Out × St)):Option (Out × St):=
 match x with|some (.exit i,s')=>some (if i=id then .normal else .exit i,s')|r=>r
def Dj(x:Option St):Option (Out × St):=match x with|some s=>some (.normal,s)|none=>none
def sY(C:Cx)(cal:iB)(ops:Array Oper)(d:Option Tmp)(rest:List Oper)(fr:List AV)(x:Option (AV × Hp)):Option (Out × St):=
 match x with
 |some (.pn v,h)=>some (.th v,(fr,h))
 |some (v,h)=>dr C cal ops rest (match d with|some d=>fr.set d v|none=>fr,h)
 |none=>none
def vV(C:Cx)(cal:iB)(ops:Array Oper)(d:Option Tmp)(rest:List Oper)(fr:List AV)(x:Option (AV × Hp)):Option St:=
 match x with
 |some (.pn _,_)=>none
 |some (v,h)=>cp C cal ops rest (match d with|some d=>fr.set d v|none=>fr,h)
 |none=>none
def guP(C:Cx)(cal:iB)(ops:Array Oper)(o:Oper)(rest:List Oper)(fr:List AV)(h:Hp)(w:Option Bool):Option (Out × St):=
 match w with
 |some true=>sY C cal ops o.dst rest fr (lG C cal (ev C fr) h o)
 |some false=>dr C cal ops rest (rD o fr .un,h)
 |none=>none
def guN(C:Cx)(cal:iB)(ops:Array Oper)(o:Oper)(rest:List Oper)(fr:List AV)(h:Hp)(w:Option Bool):Option St:=
 match w with
 |some true=>vV C cal ops o.dst rest fr (lG C cal (ev C fr) h o)
 |some false=>cp C cal ops rest (rD o fr .un,h)
 |none=>none
def gt(fr:List AV)(t:Tmp):AV:=fr.getD t .ud
@[simp] def aht(a:AV)(l:List AV):gt (a::l) 0=a:=rfl
@[simp] def ahn(a:AV)(l:List AV)(n:Nat):gt (a::l) (n+1)=gt l n:=rfl
@[simp] def aj7(fr:List AV)(d t:Nat)(v:AV):gt (fr.set d v) t=if d=t then(if d<fr.length then v else gt fr t)else gt fr t:=by
 unfold gt;rw[List.getD,List.getElem?_set];split
 .rename_i e;subst e;split
  .rfl
  .rename_i h;rw[List.getD,Xh (by omega)]
 .rfl
def CO :AV->Bool| .pn _=>true|_=>false
@[simp] def aiq :CO .ud=false:=rfl
@[simp] def ahJ :CO .un=false:=rfl
@[simp] def ahz(v:Value):CO (.sc v)=false:=rfl
@[simp] def ahN(a:Nat)(b:List (List AV))(c:Bool):CO (.ls a b c)=false:=rfl
@[simp] def ahG(a b c d:Nat)(k:Bool):CO (.sl a b c d k)=false:=rfl
@[simp] def air(a b:Nat):CO (.pt a b)=false:=rfl
@[simp] def ah3(a:List AV)(b:Nat):CO (.rp a b)=false:=rfl
@[simp] def ahB(a:FuncId)(b:List AV):CO (.fn a b)=false:=rfl
@[simp] def ahO(a:List AV):CO (.ag a)=false:=rfl
@[simp] def ahM(a:List AV):CO (.tp a)=false:=rfl
@[simp] def ain(a:Nat):CO (.mp a)=false:=rfl
@[simp] def aeM(s:St):cO C call .skip s=some (.normal,s):=rfl
@[simp] def acw(l:Nat)(s:St):cO C call (.label l) s=some (.normal,s):=rfl
@[simp] def aeH(i:Nat)(s:St):cO C call (.exit i) s=some (.exit i,s):=rfl
@[simp] def afh(s:St):cO C call .ret s=some (.ret,s):=rfl
@[simp] def ae9(a b:Code)(s:St):cO C call (.seq a b) s=eX C call (cO C call a s) b:=rfl
@[simp] def aeQ(q:Operand)(a b:Code)(fr:List AV)(h:Hp):cO C call (.cond q a b) (fr,h)=N7 C call (ev C fr q) a b (fr,h):=rfl
@[simp] def acn(id:Nat)(c:Code)(s:St):cO C call (.block id c) s=du id (cO C call c s):=rfl
@[simp] def aco(id:Nat)(l:List Oper)(s:St):cO C call (.region id l.toArray false) s=dr C (call true) l.toArray l s:=rfl
@[simp] def acA(id:Nat)(l:List Oper)(s:St):cO C call (.region id l.toArray true) s=Dj (cp C (call false) l.toArray l s):=by
 show Option.map _ _=_;cases cp C (call false) l.toArray l s<;>rfl
@[simp] def aff(s:St):Dj (some s)=some (.normal,s):=rfl
@[simp] def abB(s:St)(b:Code):eX C call (some (.normal,s)) b=cO C call b s:=rfl
@[simp] def ae8(s:St)(b:Code):eX C call (some (.ret,s)) b=some (.ret,s):=rfl
@[simp] def aeN(i:Nat)(s:St)(b:Code):eX C call (some (.exit i,s)) b=some (.exit i,s):=rfl
@[simp] def afe(v:Value)(s:St)(b:Code):eX C call (some (.th v,s)) b=some (.th v,s):=rfl
@[simp] def aeO(a b:Code)(s:St):N7 C call (.sc (.bool true)) a b s=cO C call a s:=rfl
@[simp] def acy(a b:Code)(s:St):N7 C call (.sc (.bool false)) a b s=cO C call b s:=rfl
def EL(t:Bool)(a b:Code)(s:St):N7 C call (.sc (.bool t)) a b s=if t=true then cO C call a s else cO C call b s:=by cases t<;>rfl
@[simp] def XT(i:Nat)(s:St):du i (some (.normal,s))=some (.normal,s):=rfl
@[simp] def aeR(i:Nat)(s:St):du i (some (.ret,s))=some (.ret,s):=rfl
@[simp] def aeV(i:Nat)(v:Value)(s:St):du i (some (.th v,s))=some (.th v,s):=rfl
@[simp] def acI(i j:Nat)(s:St):du i (some (.exit j,s))=some (if j=i then .normal else .exit j,s):=rfl
variable {cal : FuncId -> List AV -> Hp -> Option (AV × Hp)} {ops : Array Oper}
@[simp] def acr(s:St):dr C cal ops [] s=some (.normal,s):=rfl
@[simp] def aeF(s:St):cp C cal ops [] s=some s:=rfl
@[simp] def abG(o:Oper)(rest:List Oper)(fr:List AV)(h:Hp):dr C cal ops (o::rest) (fr,h)=guP C cal ops o rest fr h (eM ops fr o):=by
 simp only[dr,step1,guP];cases eM ops fr o with
 |none=>rfl
 |some b=>
  cases b with
  |false=>rfl
  |
   true=>
   simp only[sY];cases lG C cal (ev C fr) h o with
   |none=>rfl
   |some q=>
    obtain⟨v,h'⟩:=q;cases v<;>rfl
@[simp] def acD(o:Oper)(rest:List Oper)(fr:List AV)(h:Hp):cp C cal ops (o::rest) (fr,h)=guN C cal ops o rest fr h (eM ops fr o):=by
 simp only[cp,step1,guN];cases eM ops fr o with
 |none=>rfl
 |some b=>
  cases b with
  |false=>rfl
  |
   true=>
   simp only[vV];cases lG C cal (ev C fr) h o with
   |none=>rfl
   |some q=>
    obtain⟨v,h'⟩:=q;cases v<;>rfl
@[simp] def ahb(o:Oper)(rest:List Oper)(fr:List AV)(h:Hp):guP C cal ops o rest fr h (some true)=sY C cal ops o.dst rest fr (lG C cal (ev C fr) h o):=rfl
@[simp] def afn(o:Oper)(rest:List Oper)(fr:List AV)(h:Hp):guP C cal ops o rest fr h (some false)=dr C cal ops rest (rD o fr .un,h):=rfl
@[simp] def agL(o:Oper)(rest:List Oper)(fr:List AV)(h:Hp):guN C cal ops o rest fr h (some true)=vV C cal ops o.dst rest fr (lG C cal (ev C fr) h o):=rfl
@[simp] def afj(o:Oper)(rest:List Oper)(fr:List AV)(h:Hp):guN C cal ops o rest fr h (some false)=cp C cal ops rest (rD o fr .un,h):=rfl
@[simp] def akc(d:Option Tmp)(rest:List Oper)(fr:List AV)(v:Value)(h:Hp):sY C cal ops d rest fr (some (.pn v,h))=some (.th v,(fr,h)):=rfl
@[simp] def aj4(d:Tmp)(rest:List Oper)(fr:List AV)(h:Hp):sY C cal ops (some d) rest fr (some (.ud,h))=dr C cal ops rest (fr.set d .ud,h):=rfl
@[simp] def ahu(rest:List Oper)(fr:List AV)(h:Hp):sY C cal ops none rest fr (some (.ud,h))=dr C cal ops rest (fr,h):=rfl
@[simp] def akb(d:Tmp)(rest:List Oper)(fr:List AV)(h:Hp):vV C cal ops (some d) rest fr (some (.ud,h))=cp C cal ops rest (fr.set d .ud,h):=rfl
@[simp] def ahl(rest:List Oper)(fr:List AV)(h:Hp):vV C cal ops none rest fr (some (.ud,h))=cp C cal ops rest (fr,h):=rfl
@[simp] def akp(d:Tmp)(rest:List Oper)(fr:List AV)(h:Hp):sY C cal ops (some d) rest fr (some (.un,h))=dr C cal ops rest (fr.set d .un,h):=rfl
@[simp] def ahA(rest:List Oper)(fr:List AV)(h:Hp):sY C cal ops none rest fr (some (.un,h))=dr C cal ops rest (fr,h):=rfl
@[simp] def akg(d:Tmp)(rest:List Oper)(fr:List AV)(h:Hp):vV C cal ops (some d) rest fr (some (.un,h))=cp C cal ops rest (fr.set d .un,h):=rfl
@[simp] def aik(rest:List Oper)(fr:List AV)(h:Hp):vV C cal ops none rest fr (some (.un,h))=cp C cal ops rest (fr,h):=rfl
@[simp] def akf(d:Tmp)(rest:List Oper)(fr:List AV)(v:Value)(h:Hp):sY C cal ops (some d) rest fr (some ((.sc v),h))=dr C cal ops rest (fr.set d (.sc v),h):=rfl
@[simp] def ah2(rest:List Oper)(fr:List AV)(v:Value)(h:Hp):sY C cal ops none rest fr (some ((.sc v),h))=dr C cal ops rest (fr,h):=rfl
@[simp] def ake(d:Tmp)(rest:List Oper)(fr:List AV)(v:Value)(h:Hp):vV C cal ops (some d) rest fr (some ((.sc v),h))=cp C cal ops rest (fr.set d (.sc v),h):=rfl
@[simp] def ahr(rest:List Oper)(fr:List AV)(v:Value)(h:Hp):vV C cal ops none rest fr (some ((.sc v),h))=cp C cal ops rest (fr,h):=rfl
@[simp] def akj(d:Tmp)(rest:List Oper)(fr:List AV)(a:Nat)(b:List (List AV))(c:Bool)(h:Hp):sY C cal ops (some d) rest fr (some ((.ls a b c),h))=dr C cal ops rest (fr.set d (.ls a b c),h):=rfl
@[simp] def ahm(rest:List Oper)(fr:List AV)(a:Nat)(b:List (List AV))(c:Bool)(h:Hp):sY C cal ops none rest fr (some ((.ls a b c),h))=dr C cal ops rest (fr,h):=rfl
@[simp] def akw(d:Tmp)(rest:List Oper)(fr:List AV)(a:Nat)(b:List (List AV))(c:Bool)(h:Hp):vV C cal ops (some d) rest fr (some ((.ls a b c),h))=cp C cal ops rest (fr.set d (.ls a b c),h):=rfl
@[simp] def ahE(rest:List Oper)(fr:List AV)(a:Nat)(b:List (List AV))(c:Bool)(h:Hp):vV C cal ops none rest fr (some ((.ls a b c),h))=cp C cal ops rest (fr,h):=rfl
@[simp] def akz(d:Tmp)(rest:List Oper)(fr:List AV)(a b c e:Nat)(k:Bool)(h:Hp):sY C cal ops (some d) rest fr (some ((.sl a b c e k),h))=dr C cal ops rest (fr.set d (.sl a b c e k),h):=rfl
@[simp] def ahS(rest:List Oper)(fr:List AV)(a b c e:Nat)(k:Bool)(h:Hp):sY C cal ops none rest fr (some ((.sl a b c e k),h))=dr C cal ops rest (fr,h):=rfl
@[simp] def akv(d:Tmp)(rest:List Oper)(fr:List AV)(a b c e:Nat)(k:Bool)(h:Hp):vV C cal ops (some d) rest fr (some ((.sl a b c e k),h))=cp C cal ops rest (fr.set d (.sl a b c e k),h):=rfl
@[simp] def ahp(rest:List Oper)(fr:List AV)(a b c e:Nat)(k:Bool)(h:Hp):vV C cal ops none rest fr (some ((.sl a b c e k),h))=cp C cal ops rest (fr,h):=rfl
@[simp] def aj9(d:Tmp)(rest:List Oper)(fr:List AV)(a b:Nat)(h:Hp):sY C cal ops (some d) rest fr (some ((.pt a b),h))=dr C cal ops rest (fr.set d (.pt a b),h):=rfl
@[simp] def ahD(rest:List Oper)(fr:List AV)(a b:Nat)(h:Hp):sY C cal ops none rest fr (some ((.pt a b),h))=dr C cal ops rest (fr,h):=rfl
@[simp] def akn(d:Tmp)(rest:List Oper)(fr:List AV)(a b:Nat)(h:Hp):vV C cal ops (some d) rest fr (some ((.pt a b),h))=cp C cal ops rest (fr.set d (.pt a b),h):=rfl
@[simp] def aic(rest:List Oper)(fr:List AV)(a b:Nat)(h:Hp):vV C cal ops none rest fr (some ((.pt a b),h))=cp C cal ops rest (fr,h):=rfl
@[simp] def akd(d:Tmp)(rest:List Oper)(fr:List AV)(a:List AV)(b:Nat)(h:Hp):sY C cal ops (some d) rest fr (some ((.rp a b),h))=dr C cal ops rest (fr.set d (.rp a b),h):=rfl
@[simp] def ahv(rest:List Oper)(fr:List AV)(a:List AV)(b:Nat)(h:Hp):sY C cal ops none rest fr (some ((.rp a b),h))=dr C cal ops rest (fr,h):=rfl
@[simp] def akt(d:Tmp)(rest:List Oper)(fr:List AV)(a:List AV)(b:Nat)(h:Hp):vV C cal ops (some d) rest fr (some ((.rp a b),h))=cp C cal ops rest (fr.set d (.rp a b),h):=rfl
@[simp] def ah5(rest:List Oper)(fr:List AV)(a:List AV)(b:Nat)(h:Hp):vV C cal ops none rest fr (some ((.rp a b),h))=cp C cal ops rest (fr,h):=rfl
@[simp] def akx(d:Tmp)(rest:List Oper)(fr:List AV)(a:FuncId)(b:List AV)(h:Hp):sY C cal ops (some d) rest fr (some ((.fn a b),h))=dr C cal ops rest (fr.set d (.fn a b),h):=rfl
@[simp] def ahX(rest:List Oper)(fr:List AV)(a:FuncId)(b:List AV)(h:Hp):sY C cal ops none rest fr (some ((.fn a b),h))=dr C cal ops rest (fr,h):=rfl
@[simp] def akr(d:Tmp)(rest:List Oper)(fr:List AV)(a:FuncId)(b:List AV)(h:Hp):vV C cal ops (some d) rest fr (some ((.fn a b),h))=cp C cal ops rest (fr.set d (.fn a b),h):=rfl
@[simp] def ahP(rest:List Oper)(fr:List AV)(a:FuncId)(b:List AV)(h:Hp):vV C cal ops none rest fr (some ((.fn a b),h))=cp C cal ops rest (fr,h):=rfl
@[simp] def akq(d:Tmp)(rest:List Oper)(fr:List AV)(a:List AV)(h:Hp):sY C cal ops (some d) rest fr (some ((.ag a),h))=dr C cal ops rest (fr.set d (.ag a),h):=rfl
@[simp] def aip(rest:List Oper)(fr:List AV)(a:List AV)(h:Hp):sY C cal ops none rest fr (some ((.ag a),h))=dr C cal ops rest (fr,h):=rfl
@[simp] def akk(d:Tmp)(rest:List Oper)(fr:List AV)(a:List AV)(h:Hp):vV C cal ops (some d) rest fr (some ((.ag a),h))=cp C cal ops rest (fr.set d (.ag a),h):=rfl
@[simp] def ah6(rest:List Oper)(fr:List AV)(a:List AV)(h:Hp):vV C cal ops none rest fr (some ((.ag a),h))=cp C cal ops rest (fr,h):=rfl
@[simp] def aka(d:Tmp)(rest:List Oper)(fr:List AV)(a:List AV)(h:Hp):sY C cal ops (some d) rest fr (some ((.tp a),h))=dr C cal ops rest (fr.set d (.tp a),h):=rfl
@[simp] def ah8(rest:List Oper)(fr:List AV)(a:List AV)(h:Hp):sY C cal ops none rest fr (some ((.tp a),h))=dr C cal ops rest (fr,h):=rfl
@[simp] def aky(d:Tmp)(rest:List Oper)(fr:List AV)(a:List AV)(h:Hp):vV C cal ops (some d) rest fr (some ((.tp a),h))=cp C cal ops rest (fr.set d (.tp a),h):=rfl
@[simp] def aim(rest:List Oper)(fr:List AV)(a:List AV)(h:Hp):vV C cal ops none rest fr (some ((.tp a),h))=cp C cal ops rest (fr,h):=rfl
@[simp] def aks(d:Tmp)(rest:List Oper)(fr:List AV)(a:Nat)(h:Hp):sY C cal ops (some d) rest fr (some ((.mp a),h))=dr C cal ops rest (fr.set d (.mp a),h):=rfl
@[simp] def ahH(rest:List Oper)(fr:List AV)(a:Nat)(h:Hp):sY C cal ops none rest fr (some ((.mp a),h))=dr C cal ops rest (fr,h):=rfl
@[simp] def akl(d:Tmp)(rest:List Oper)(fr:List AV)(a:Nat)(h:Hp):vV C cal ops (some d) rest fr (some ((.mp a),h))=cp C cal ops rest (fr.set d (.mp a),h):=rfl
@[simp] def ahQ(rest:List Oper)(fr:List AV)(a:Nat)(h:Hp):vV C cal ops none rest fr (some ((.mp a),h))=cp C cal ops rest (fr,h):=rfl
def JP(w:Bool)(v:AV):Option Bool:=match v with| .sc (.bool b)=>some (b==w)| .un=>some false|_=>none
@[simp] def agM(w:Bool):JP w .un=some false:=rfl
@[simp] def ae2(b:Bool):JP true (.sc (.bool b))=some b:=by cases b<;>rfl
@[simp] def ach(b:Bool):JP false (.sc (.bool b))=some !b:=by cases b<;>rfl
def Mn(ops:Array Oper)(fr:List AV)(j:Nat)(w:Bool):Option Bool:=match(ops[j]?).bind (·.dst)with|none=>some false|some d=>JP w (gt fr d)
@[simp] def aeT(fr:List AV)(d:Option Tmp)(op:Op)(t:TypeId)(p:String)(a:Array Edge)(j:Nat)(w:Bool):eM ops fr {dst:=d,op:=op,type:=t,pos:=p,after:=a,guard:=some (j,w)}=Mn ops fr j w:=by
 simp only[eM,Mn];cases (ops[j]?).bind (·.dst)with
 |none=>rfl
 |some d=>
  simp only[JP,gt,List.getD];cases fr[d]? with
  |none=>rfl
  |some v=>
   cases v<;>try rfl
   rename_i u;cases u<;>rfl
def eD(h:Hp)(v:AV)(sz:Nat)(agg:Bool):Option AV:=
 match v with
 | .pt id off=>(match rowOf h id with|some cs=>Ae.part agg off sz cs|none=>none)
 |_=>none
@[simp] def afp(s:St)(a:Tmp)(sz:Nat)(agg:Bool):wZ s (.cell a sz agg)=eD s.2 (gt s.1 a) sz agg:=rfl
@[simp] def ag3(s:St)(t:Tmp):wZ s (.tmp t)=some (gt s.1 t):=rfl
@[simp] def aeJ(fr:List AV)(d:Option Tmp)(op:Op)(t:TypeId)(p:String)(a:Array Edge):eM ops fr {dst:=d,op:=op,type:=t,pos:=p,after:=a,guard:=none}=some true:=rfl
@[simp] def aj5(fr:List AV)(t:Tmp):ev C fr (.tmp t)=gt fr t:=rfl
@[simp] def agZ(fr:List AV)(v:Value):ev C fr (.const v)=ofConst v:=rfl
@[simp] def ahZ(fr:List AV)(f:FuncId):ev C fr (.func f)= .fn f []:=rfl
@[simp] def aeY(t:Tmp):AY (.tmp t)=false:=rfl
end two
def tT(res:List Rv)(s:St):Option AV:=
 match res with
 | [t]=>wZ s t
 |ts=>(ts.mapM (wZ s)).map .tp
def dL(res:List Rv)(x:Option (Out × St)):Option (AV × Hp):=
 match x with
 |some (.normal,s)=>(tT res s).map λr=>(r,s.2)
 |some (.ret,s)=>(tT res s).map λr=>(r,s.2)
 |some (.th v,s)=>some (.pn v,s.2)
 |_=>none
@[simp] def Vu(s:St)(r:Rv):tT [r] s=wZ s r:=rfl
@[simp] def ag9(s:St)(r q:Rv):tT [r,q] s=(([r,q]:List Rv).mapM (wZ s)).map .tp:=rfl
@[simp] def aeZ(s:St)(r q u:Rv):tT [r,q,u] s=(([r,q,u]:List Rv).mapM (wZ s)).map .tp:=rfl
@[simp] def acB(fi:List Rv)(s:St):dL fi (some (.normal,s))=(tT fi s).map λr=>(r,s.2):=rfl
@[simp] def agR(fi:List Rv)(s:St):dL fi (some (.ret,s))=(tT fi s).map λr=>(r,s.2):=rfl
@[simp] def ag0(fi:List Rv)(v:Value)(s:St):dL fi (some (.th v,s))=some (.pn v,s.2):=rfl
section body
variable {C : Cx} {call : Bool -> FuncId -> List AV -> Hp -> Option (AV × Hp)}
def jL{f:FuncId}{fi:Fi}(hF:C.F f=some fi)(gI:sZ C fi.body=true){args:List AV}(hl:args.length<=fi.ntmps)(h:Hp):
 om C call f args h=dL fi.res (cO C call fi.body (args++List.replicate (fi.ntmps-args.length) .un,h)):=by
 unfold om;rw[hF];simp only[hl,if_true];rw[xx _ gI];rfl
def rJ{h:Hp}{n:Nat}{x:AV}(hc:dk x=true):cD h (n+2) x=some x:=by
 have one:∀(m:Nat)(y:AV),(match y with| .sc _| .ls .. | .rp .. =>true|_=>false)=true->cD h m y=some y:=by
  intro m y hy;cases y<;>simp at hy<;>simp[cD]
 have all:∀(m:Nat)(ys:List AV),(ys.all λ| .sc _| .ls .. | .rp .. =>true|_=>false)=true->ys.mapM (cD h m)=some ys:=by
  intro m ys
  induction ys with
  |nil=>intro _;rfl
  |cons y ys ih=>
   intro hy;simp only[Zn,Zh]at hy;rw[Zo,one m y hy.1,ih hy.2];rfl
 unfold dk at hc;split at hc
 .simp[cD]
 .simp[cD]
 .simp[cD]
 .rename_i xs;simp only[cD];rw[all _ xs hc];rfl
 .rename_i xs;simp only[cD];rw[all _ xs hc];rfl
 .cases hc
def yk{h:Hp}{n:Nat}:∀{xs:List AV},xs.all dk=true->xs.mapM (cD h (n+2))=some xs
 | [],_=>rfl
 |
  x::xs,hx=>by
  simp only[Zn,Zh]at hx;rw[Zo,rJ hx.1,yk hx.2];rfl
def mq{f:FuncId}{args:List AV}{n:Nat}{r r':AV}{h':Hp}(hs:C.oW f=none)(hi:C.inl f=false)(ht:C.ux f args=none)(hc:args.all dk=true)(hb:om C (ch C n) f args []=some (r,h'))(hr:cD h' 8 r=some r')(b:Bool)(h:Hp):ch C (n+1) b f args h=some (C.nf f r',h):=by
 have e:args.mapM (cD h 8)=some args:=yk (n:=6) hc;simp only[ch,hs,hi,Ys,if_false,e,ht,hb,hr,hc,Bool.true_or,if_true,Yx]
def El{f:FuncId}{args:List AV}{n:Nat}{r r':AV}{h':Hp}(hs:C.oW f=none)(hi:C.inl f=false)(ht:C.ux f args=none)(hn:C.nf f r'=r')(hc:args.all dk=true)(hb:om C (ch C n) f args []=some (r,h'))(hr:cD h' 8 r=some r')(b:Bool)(h:Hp):ch C (n+1) b f args h=some (r',h):=by
 rw[mq hs hi ht hc hb hr b h,hn]
end body
def CP{f:St->Option (Out × St)}(Inv:Nat->St->Prop)(Q:Out->St->Prop)(step:∀k s,Inv k s->∃o s',f s=some (o,s')/\(match o with| .normal=>∃k',k'<k/\Inv k' s'|o=>Q o s')):
 ∀(k:Nat)(s:St),Inv k s->∀fuel,k<fuel->∃o s',tj f fuel s=some (o,s')/\o≠ .normal/\Q o s':=by
 intro k
 induction k using Nat.strongRecOn with
 |ind k ih=>
  intro s hI fuel hk;obtain⟨m,rfl⟩:∃m,fuel=m+1:=⟨fuel-1,by omega⟩;obtain⟨o,s',h1,h2⟩:=step k s hI;simp only[tj,h1];cases o with
  |
   normal=>
   obtain⟨k',lk,hI'⟩:=h2;exact ih k' lk s' hI' m (by omega)
  |exit i=>exact⟨_,_,rfl,by simp,h2⟩
  |ret=>exact⟨_,_,rfl,by simp,h2⟩
  |th v=>exact⟨_,_,rfl,by simp,h2⟩
def EM{C:Cx}{call:Bool->iB}{c:Code}{s:St}{G:Option (Out × St)->Prop}(Inv:Nat->St->Prop)(Q:Out->St->Prop)(k:Nat)(hk:k<C.fuel)(hI:Inv k s)(step:∀k s,Inv k s->∃o s',cO C call c s=some (o,s')/\(match o with| .normal=>∃k',k'<k/\Inv k' s'|o=>Q o s'))(fin:∀o s',o≠ .normal->Q o s'->G (some (o,s'))):G (cO C call (.loop c) s):=by
 obtain⟨o,s',h1,h2,h3⟩:=CP Inv Q step k s hI C.fuel hk;show G (tj (cO C call c) C.fuel s);rw[h1];exact fin o s' h2 h3
def vU(Inv:Nat->St->Prop)(Q:Out->St->Prop)(k:Nat):Option (Out × St)->Prop
 |some (.normal,s)=>∃k',k'<k/\Inv k' s
 |some (o,s)=>Q o s
 |none=>False
@[simp] def XR(Inv:Nat->St->Prop)(Q:Out->St->Prop)(k:Nat)(s:St):vU Inv Q k (some (.normal,s))=∃k',k'<k/\Inv k' s:=rfl
@[simp] def acC(Inv:Nat->St->Prop)(Q:Out->St->Prop)(k i:Nat)(s:St):vU Inv Q k (some (.exit i,s))=Q (.exit i) s:=rfl
@[simp] def aeX(Inv:Nat->St->Prop)(Q:Out->St->Prop)(k:Nat)(s:St):vU Inv Q k (some (.ret,s))=Q .ret s:=rfl
@[simp] def aeS(Inv:Nat->St->Prop)(Q:Out->St->Prop)(k:Nat)(v:Value)(s:St):vU Inv Q k (some (.th v,s))=Q (.th v) s:=rfl
def Py(Inv:Nat->St->Prop)(Q:Out->St->Prop)(N i:Nat):Option (Out × St)->Prop
 |some (.normal,s)=>i<N/\Inv (i+1) s
 |some (o,s)=>Q o s
 |none=>False
@[simp] def ae0(Inv:Nat->St->Prop)(Q:Out->St->Prop)(N i:Nat)(s:St):Py Inv Q N i (some (.normal,s))=(i<N/\Inv (i+1) s):=rfl
@[simp] def ahc(Inv:Nat->St->Prop)(Q:Out->St->Prop)(N i j:Nat)(s:St):Py Inv Q N i (some (.exit j,s))=Q (.exit j) s:=rfl
@[simp] def aia(Inv:Nat->St->Prop)(Q:Out->St->Prop)(N i:Nat)(s:St):Py Inv Q N i (some (.ret,s))=Q .ret s:=rfl
@[simp] def aih(Inv:Nat->St->Prop)(Q:Out->St->Prop)(N i:Nat)(v:Value)(s:St):Py Inv Q N i (some (.th v,s))=Q (.th v) s:=rfl
def nV{C:Cx}{call:Bool->iB}{c:Code}{fr:List AV}{h:Hp}{G:Option (Out × St)->Prop}(Inv:Nat->St->Prop)(Q:Out->St->Prop)(k:Nat)(hk:k<C.fuel)(hI:Inv k (fr,h))(step:∀k fr h,Inv k (fr,h)->vU Inv Q k (cO C call c (fr,h)))(fin:∀o fr h,o≠ .normal->Q o (fr,h)->G (some (o,(fr,h)))):G (cO C call (.loop c) (fr,h)):=by
 refine EM Inv Q k hk hI (λk s hs=>?_) λo s=>fin o s.1 s.2
 have:=step k s.1 s.2 hs
 revert this
 cases cO C call c (s.1,s.2)with
 |none=>exact λh=>h.elim
 |some q=>
  obtain⟨o,s'⟩:=q;intro h;refine⟨o,s',rfl,?_⟩;cases o<;>exact h
def ej{C:Cx}{call:Bool->iB}{c:Code}{fr:List AV}{h:Hp}{G:Option (Out × St)->Prop}(Inv:Nat->St->Prop)(Q:Out->St->Prop)(N:Nat)(hN:N<C.fuel)(hI:Inv 0 (fr,h))(step:∀i fr h,i<=N->Inv i (fr,h)->Py Inv Q N i (cO C call c (fr,h)))(fin:∀o fr h,o≠ .normal->Q o (fr,h)->G (some (o,(fr,h)))):G (cO C call (.loop c) (fr,h)):=by
 refine EM (λk s=>∃i,i+k=N/\Inv i s) Q N hN ⟨0,by omega,hI⟩ (λk s hs=>?_) λo s=>fin o s.1 s.2
 obtain⟨i,hi,hs⟩:=hs;have:=step i s.1 s.2 (by omega) hs
 revert this
 cases cO C call c (s.1,s.2)with
 |none=>exact λh=>h.elim
 |some q=>
  obtain⟨o,s'⟩:=q;intro h;refine⟨o,s',rfl,?_⟩;cases o with
  |normal=>exact⟨k-1,by have:=h.1;omega,i+1,by have:=h.1;omega,h.2⟩
  |exit j=>exact h
  |ret=>exact h
  |th v=>exact h
def uF(sz:Nat):AV->AV
 | .sc (.slice none 0 0)=> .ls sz [] false
 | .ls s cg z=>if s=sz then .ls sz cg false else .ls s cg z
 |x=>x
def J5 :List AV->List AV
 | [a,l,p]=> [a,uF 1 l,uF 6 p]
 |r=>r
def MR :List AV->List AV
 | [a,b,c,d,p]=> [a,b,c,d,uF 6 p]
 |r=>r
def BA(sz:Nat)(g:List AV->List AV):AV->AV
 | .sc (.slice none 0 0)=> .ls sz [] false
 | .ls s cg z=>if s=sz then .ls sz (cg.map g) false else .ls s cg z
 |x=>x
def GI :AV->AV
 | .ag [n,e,a,b]=> .ag [BA 3 J5 n,BA 5 MR e,a,b]
 |x=>x
def xn :AV->AV
 | .tp (x::xs)=> .tp (GI x::xs)
 |x=>GI x
def uv{w:World}{X:Nat->Prop}{v:Value}{x:AV}(sz:Nat)(h:Ri w X v x):Ri w X v (uF sz x):=by
 unfold uF;split
 .obtain⟨rfl,_⟩:=h.dH;exact .le none 0 sz false (by simp[maxLen]) (by simp)
 .rename_i s cg z;split
  .rename_i e;subst e;rcases h.iu with⟨rfl,b,cap,rfl,c1,c2⟩|⟨b,o',cap,us,cF,t0,fz,rfl,c1,c2,c4,c5,c6,c7,c8⟩
   .exact .le _ _ _ _ c1 (by simp)
   .exact .ls b o' cg.length cap s cg false us cF t0 fz c1 c2 rfl c4 c5 (by simp) c7 (λi row j x h1 h2=>⟨(c8 i row j x h1 h2).1,(c8 i row j x h1 h2).2.1⟩) (λi row j x h1 h2=>(c8 i row j x h1 h2).2.2)
  .exact h
 .exact h
def abn(g:List AV->List AV):Prop:=∀(r:List AV),(g r).length=r.length/\∀(w:World)(X:Nat->Prop)(us:Nat->Value),(∀(j:Nat)(x:AV),r[j]?=some x->Ri w X (us j) x)->∀(j:Nat)(x:AV),(g r)[j]?=some x->Ri w X (us j) x
def Wz :abn J5:=by
 intro r;unfold J5;split
 .refine⟨rfl,λw X us h j x hj=>?_⟩
  match j,hj with
  |0,hj=>exact h 0 x hj
  |1,hj=>simp at hj;subst hj;exact uv 1 (h 1 _ rfl)
  |2,hj=>simp at hj;subst hj;exact uv 6 (h 2 _ rfl)
  |n+3,hj=>simp at hj
 .exact⟨rfl,λw X us h=>h⟩
def WA :abn MR:=by
 intro r;unfold MR;split
 .refine⟨rfl,λw X us h j x hj=>?_⟩
  match j,hj with
  |0,hj=>exact h 0 x hj
  |1,hj=>exact h 1 x hj
  |2,hj=>exact h 2 x hj
  |3,hj=>exact h 3 x hj
  |4,hj=>simp at hj;subst hj;exact uv 6 (h 4 _ rfl)
  |n+5,hj=>simp at hj
 .exact⟨rfl,λw X us h=>h⟩
def Gx{w:World}{X:Nat->Prop}{v:Value}{x:AV}(sz:Nat){g:List AV->List AV}(hg:abn g)(h:Ri w X v x):Ri w X v (BA sz g x):=by
 unfold BA;split
 .obtain⟨rfl,_⟩:=h.dH;exact .le none 0 sz false (by simp[maxLen]) (by simp)
 .rename_i s cg z;split
  .rename_i e;subst e;rcases h.iu with⟨rfl,b,cap,rfl,c1,c2⟩|⟨b,o',cap,us,cF,t0,fz,rfl,c1,c2,c4,c5,c6,c7,c8⟩
   .exact .le _ _ _ _ c1 (by simp)
   .refine .ls b o' cg.length cap s (cg.map g) false us cF t0 fz c1 c2 (by simp) c4 c5 (by simp) (λi row hr=>?_) (λi row j x h1 h2=>?_) (λi row j x h1 h2=>?_)
    .simp only[Zs,Ze]at hr;obtain⟨r,hr,rfl⟩:=hr;rw[(hg r).1];exact c7 i r hr
    .simp only[Zs,Ze]at h1;obtain⟨r,hr,rfl⟩:=h1;have hj:j<r.length:=by rw[<-(hg r).1];exact(Za.1 h2).1
     have:=c8 i r j _ hr (Zb hj);exact⟨this.1,this.2.1⟩
    .simp only[Zs,Ze]at h1;obtain⟨r,hr,rfl⟩:=h1;exact(hg r).2 w X (us i) (λj x hj=>(c8 i r j x hr hj).2.2) j x h2
  .exact h
 .exact h
def Ri.xW{w:World}{X:Nat->Prop}{v:Value}{xs:List AV}(h:Ri w X v (.ag xs)):∃us:Array Value,v= .agg us/\us.size=xs.length/\(∀k,k<us.size->(us.getD k undef).oneCell'=true)/\∀(k:Nat)(x:AV),xs[k]?=some x->Ri w X (us.getD k undef) x:=by
 cases h with
 |ag us _ h1 h2 h3=>exact⟨us,rfl,h1,h2,h3⟩
def Ri.Gy{w:World}{X:Nat->Prop}{v:Value}{xs:List AV}(h:Ri w X v (.tp xs)):∃us:Array Value,v= .tuple us/\us.size=xs.length/\∀(k:Nat)(x:AV),xs[k]?=some x->Ri w X (us.getD k undef) x:=by
 cases h with
 |tp us _ h1 h2=>exact⟨us,rfl,h1,h2⟩
def WB{w:World}{X:Nat->Prop}{v:Value}{x:AV}(h:Ri w X v x):Ri w X v (GI x):=by
 unfold GI;split
 .obtain⟨us,rfl,h1,h2,h3⟩:=h.xW;refine .ag us _ (by simpa using h1) h2 λk x hk=>?_
  match k,hk with
  |0,hk=>simp at hk;subst hk;exact Gx 3 Wz (h3 0 _ rfl)
  |1,hk=>simp at hk;subst hk;exact Gx 5 WA (h3 1 _ rfl)
  |2,hk=>exact h3 2 x hk
  |3,hk=>exact h3 3 x hk
  |n+4,hk=>simp at hk
 .exact h
def aeu{w:World}{X:Nat->Prop}{v:Value}{x:AV}(h:Ri w X v x):Ri w X v (xn x):=by
 unfold xn;split
 .obtain⟨us,rfl,h1,h2⟩:=h.Gy;refine .tp us _ (by simpa using h1) λk x hk=>?_
  match k,hk with
  |0,hk=>simp at hk;subst hk;exact WB (h2 0 _ rfl)
  |n+1,hk=>exact h2 (n+1) x hk
 .exact WB h
def Z4 :List AV->List AV
 | [a,b,c,d,e,l]=> [a,b,c,d,e,uF 5 l]
 |r=>r
def JQ :abn Z4:=by
 intro r;unfold Z4;split
 .refine⟨rfl,λw X us h j x hj=>?_⟩
  match j,hj with
  |0,hj=>exact h 0 x hj
  |1,hj=>exact h 1 x hj
  |2,hj=>exact h 2 x hj
  |3,hj=>exact h 3 x hj
  |4,hj=>exact h 4 x hj
  |5,hj=>simp at hj;subst hj;exact uv 5 (h 5 _ rfl)
  |n+6,hj=>simp at hj
 .exact⟨rfl,λw X us h=>h⟩
def nfW :AV->AV
 | .ag [a,b,c,d,l]=> .ag [a,b,c,d,uF 5 l]
 | .tp [.ag [a,l,p],x]=> .tp [.ag [a,uF 1 l,BA 6 Z4 p],x]
 | .tp [.ag [a,b,c,d,p],x]=> .tp [.ag [a,b,c,d,BA 6 Z4 p],x]
 |x=>x
def aev{w:World}{X:Nat->Prop}{v:Value}{x:AV}(h:Ri w X v x):Ri w X v (nfW x):=by
 unfold nfW;split
 .obtain⟨us,rfl,h1,h2,h3⟩:=h.xW;refine .ag us _ (by simpa using h1) h2 λk x hk=>?_
  match k,hk with
  |0,hk=>exact h3 0 x hk
  |1,hk=>exact h3 1 x hk
  |2,hk=>exact h3 2 x hk
  |3,hk=>exact h3 3 x hk
  |4,hk=>simp at hk;subst hk;exact uv 5 (h3 4 _ rfl)
  |n+5,hk=>simp at hk
 .obtain⟨us,rfl,h1,h2⟩:=h.Gy;refine .tp us _ (by simpa using h1) λk x hk=>?_
  match k,hk with
  |
   0,hk=>
   simp at hk;subst hk;obtain⟨vs,e,h1,h2,h3⟩:=(h2 0 _ rfl).xW;rw[e];refine .ag vs _ (by simpa using h1) h2 λk x hk=>?_
   match k,hk with
   |0,hk=>exact h3 0 x hk
   |1,hk=>simp at hk;subst hk;exact uv 1 (h3 1 _ rfl)
   |2,hk=>simp at hk;subst hk;exact Gx 6 JQ (h3 2 _ rfl)
   |n+3,hk=>simp at hk
  |n+1,hk=>exact h2 (n+1) x hk
 .obtain⟨us,rfl,h1,h2⟩:=h.Gy;refine .tp us _ (by simpa using h1) λk x hk=>?_
  match k,hk with
  |
   0,hk=>
   simp at hk;subst hk;obtain⟨vs,e,h1,h2,h3⟩:=(h2 0 _ rfl).xW;rw[e];refine .ag vs _ (by simpa using h1) h2 λk x hk=>?_
   match k,hk with
   |0,hk=>exact h3 0 x hk
   |1,hk=>exact h3 1 x hk
   |2,hk=>exact h3 2 x hk
   |3,hk=>exact h3 3 x hk
   |4,hk=>simp at hk;subst hk;exact Gx 6 JQ (h3 4 _ rfl)
   |n+5,hk=>simp at hk
  |n+1,hk=>exact h2 (n+1) x hk
 .exact h
def rh(C:Cx)(cal:iB)(ops:Array Oper)(s:St):Option (Out × St):=
 match eC C cal ops ops.toList s with
 |some jv=>if(needs C ops).all (sameAt C cal ops jv)then(jv[ops.size]?).map λs'=>(.normal,s')else none
 |none=>vS C cal ops s
def eE(C:Cx)(call:Bool->iB)(bad:Nat->Bool):Code->St->Option (Out × St)
 | .skip,s=>some (.normal,s)
 | .label _,s=>some (.normal,s)
 | .region id ops mixed,s=>bif mixed then(bif bad id then rh C (call false) ops s else Dj (cp C (call false) ops ops.toList s))else dr C (call true) ops ops.toList s
 |
  .seq a b,s=>match eE C call bad a s with
  |some (.normal,s')=>eE C call bad b s'
  |r=>r
 |
  .cond c a b,s=>match ev C s.1 c with
  | .sc (.bool true)=>eE C call bad a s
  | .sc (.bool false)=>eE C call bad b s
  |_=>none
 |
  .block id c,s=>match eE C call bad c s with
  |some (.exit i,s')=>some (if i=id then .normal else .exit i,s')
  |r=>r
 | .loop c,s=>tj (eE C call bad c) C.fuel s
 | .exit id,s=>some (.exit id,s)
 | .ret,s=>some (.ret,s)
 |_,_=>none
def FE(C:Cx)(bad:Nat->Bool):Code->Bool
 | .region id ops true=>(bad id||((needs C ops).isEmpty && !G0 C ops)) && (C.two id ops).isNone
 | .seq a b=>FE C bad a && FE C bad b
 | .cond _ a b=>FE C bad a && FE C bad b
 | .block _ c=>FE C bad c
 | .loop c=>FE C bad c
 |_=>true
section three
variable {C : Cx} {call : Bool -> FuncId -> List AV -> Hp -> Option (AV × Hp)} {bad : Nat -> Bool}
def WC :∀(c:Code),FE C bad c=true->exec C call c=eE C call bad c:=by
 intro c
 induction c with
 |region id ops mixed=>
  intro hk
  funext s
  simp only[exec,eE];cases mixed with
  |false=>rfl
  |
   true=>
   cases hb:bad id with
   |
    true=>
    simp only[FE,Zh,Yb]at hk;simp only[hk.2];rfl
   |
    false=>
    simp only[FE,hb,Bool.false_or,Zh,Xj,List.isEmpty_iff,Yb]at hk;simp only[hk.2,hk.1.1,vS,hk.1.2,Ys,if_false,if_true,cond_true,cond_false];rw[<-fU,Array.length_toList];cases eC C (call false) ops ops.toList s with
    |none=>rfl
    |some m=>
     simp;cases m[ops.size]?<;>rfl
 |seq x y ND Wu=>
  intro hk;simp only[FE,Zh]at hk
  funext s
  simp only[exec,eE,ND hk.1,Wu hk.2];rfl
 |cond q x y ND Wu=>
  intro hk;simp only[FE,Zh]at hk
  funext s
  simp only[exec,eE,ND hk.1,Wu hk.2];rfl
 |block id x ih=>
  intro hk;simp only[FE]at hk
  funext s
  simp only[exec,eE,ih hk];rfl
 |loop x ih=>
  intro hk;simp only[FE]at hk
  funext s
  simp only[exec,eE,ih hk]
 |_=>intro _;rfl
def qM(C:Cx)(call:Bool->iB)(bad:Nat->Bool)(x:Option (Out × St))(b:Code):Option (Out × St):=
 match x with|some (.normal,s)=>eE C call bad b s|r=>r
def WD(C:Cx)(call:Bool->iB)(bad:Nat->Bool)(v:AV)(a b:Code)(s:St):Option (Out × St):=
 match v with| .sc (.bool true)=>eE C call bad a s| .sc (.bool false)=>eE C call bad b s|_=>none
@[simp] def aeW(s:St):eE C call bad .skip s=some (.normal,s):=rfl
@[simp] def acm(l:Nat)(s:St):eE C call bad (.label l) s=some (.normal,s):=rfl
@[simp] def aeE(i:Nat)(s:St):eE C call bad (.exit i) s=some (.exit i,s):=rfl
@[simp] def afq(s:St):eE C call bad .ret s=some (.ret,s):=rfl
@[simp] def afi(a b:Code)(s:St):eE C call bad (.seq a b) s=qM C call bad (eE C call bad a s) b:=rfl
@[simp] def ae3(q:Operand)(a b:Code)(fr:List AV)(h:Hp):eE C call bad (.cond q a b) (fr,h)=WD C call bad (ev C fr q) a b (fr,h):=rfl
@[simp] def acs(id:Nat)(c:Code)(s:St):eE C call bad (.block id c) s=du id (eE C call bad c s):=rfl
@[simp] def acG(id:Nat)(l:List Oper)(s:St):eE C call bad (.region id l.toArray false) s=dr C (call true) l.toArray l s:=rfl
def sG(C:Cx)(cal:iB)(b:Bool)(l:List Oper)(s:St):Option (Out × St):=bif b then rh C cal l.toArray s else Dj (cp C cal l.toArray l s)
@[simp] def acg(id:Nat)(l:List Oper)(s:St):eE C call bad (.region id l.toArray true) s=sG C (call false) (bad id) l s:=rfl
@[simp] def acz(cal:iB)(l:List Oper)(s:St):sG C cal false l s=Dj (cp C cal l.toArray l s):=rfl
@[simp] def abF(s:St)(b:Code):qM C call bad (some (.normal,s)) b=eE C call bad b s:=rfl
@[simp] def afl(s:St)(b:Code):qM C call bad (some (.ret,s)) b=some (.ret,s):=rfl
@[simp] def ae1(i:Nat)(s:St)(b:Code):qM C call bad (some (.exit i,s)) b=some (.exit i,s):=rfl
@[simp] def afk(v:Value)(s:St)(b:Code):qM C call bad (some (.th v,s)) b=some (.th v,s):=rfl
@[simp] def aeD(a b:Code)(s:St):WD C call bad (.sc (.bool true)) a b s=eE C call bad a s:=rfl
@[simp] def acF(a b:Code)(s:St):WD C call bad (.sc (.bool false)) a b s=eE C call bad b s:=rfl
def uO{f:FuncId}{fi:Fi}(hF:C.F f=some fi)(gI:FE C bad fi.body=true){args:List AV}(hl:args.length<=fi.ntmps)(h:Hp):
 om C call f args h=dL fi.res (eE C call bad fi.body (args++List.replicate (fi.ntmps-args.length) .un,h)):=by
 unfold om;rw[hF];simp only[hl,if_true];rw[WC _ gI];rfl
def oF(x:Option St)(f:St->Option (Out × St)):Option (Out × St):=match x with|some s=>f s|none=>none
@[simp] def BU(s:St)(f:St->Option (Out × St)):oF (some s) f=f s:=rfl
def K_(x y:Option (AV × Hp))(r:Option St):Option (Out × St):=match x,y with|some (v,_),some (v',_)=>(if fH v' v=true then Dj r else none)|_,_=>none
@[simp] def Ru(v v':AV)(h h':Hp)(r:Option St):K_ (some (v,h)) (some (v',h')) r=if fH v' v=true then Dj r else none:=rfl
def oL{cal:iB}{ops:Array Oper}:∀(l:List Oper)(s:St)(jv:List St),eC C cal ops l s=some jv->∀k,k<=l.length->jv[k]?=cp C cal ops (l.take k) s
 |
  [],s,jv,h,k,hk=>by
  simp only[eC,Zc]at h;subst h;have:k=0:=by simpa using hk
  subst this;rfl
 |
  o::l,s,jv,h,k,hk=>by
  simp only[eC]at h;cases hq:step1 C cal ops o s with
  |none=>rw[hq]at h;cases h
  |some s'=>
   rw[hq]at h;simp only[Ze]at h;obtain⟨m,hm,rfl⟩:=h;cases k with
   |zero=>rfl
   |succ k=>
    have:=oL l s' m hm k (by simpa using hk);simp only[Yd,Yg,cp,hq,this]
def nN{cal:iB}{ops:Array Oper}{l:List Oper}{s:St}(h:eC C cal ops l s=none):cp C cal ops l s=none:=by
 rw[<-fU,h];rfl
def T9(r:Option St)(x:Option (Out × St))(y:Option (Out × St)):Option (Out × St):=match r with|some _=>x|none=>y
@[simp] def PQ(s:St)(x y:Option (Out × St)):T9 (some s) x y=x:=rfl
def xD{cal:iB}{l:List Oper}(s:St):sG C cal true l s=T9 (cp C cal l.toArray l s) (match eC C cal l.toArray l s with|some jv=>if(needs C l.toArray).all (sameAt C cal l.toArray jv)then(jv[l.length]?).map λs'=>(.normal,s')else none|none=>none) (vS C cal l.toArray s):=by
 show rh C cal l.toArray s=_;unfold rh;rw[<-fU];have e:l.toArray.size=l.length:=by simp
 rw[e];cases hL:eC C cal l.toArray l s with
 |none=>rfl
 |some jv=>
  have h3:=oL l s jv hL l.length (Xc _);rw[Xx,<-fU,hL]at h3;simp only[Option.bind_some];have eF:jv[l.length]?≠none:=by
   obtain⟨S,_,el,e1,_⟩:=qQ l s jv hL;rw[e1 l.length (Xc _)];simp
  cases hs:jv[l.length]? with
  |none=>exact absurd hs eF
  |some s'=>rfl
def ZK{cal:iB}{l:List Oper}(hn:needs C l.toArray=[])(s:St):sG C cal true l s=T9 (cp C cal l.toArray l s) (Dj (cp C cal l.toArray l s)) (vS C cal l.toArray s):=by
 rw[xD,<-fU];simp only[hn,List.all_nil,if_true];cases eC C cal l.toArray l s with
 |none=>rfl
 |some jv=>
  simp only[Option.bind_some];cases jv[l.length]?<;>rfl
def JR{cal:iB}{ops:Array Oper}:∀(l:List Oper)(J:Nat)(o:Oper)(s sj:St),l[J]?=some o->cp C cal ops (l.take J) s=some sj->step1 C cal ops o sj=none->stops C cal ops l s=J
 | [],J,o,s,sj,h,_,_=>by simp at h
 |
  o'::l,0,o,s,sj,h,h2,h3=>by
  simp at h;subst h;simp only[Yh,cp,Zc]at h2;subst h2;simp only[stops,h3]
 |
  o'::l,J+1,o,s,sj,h,h2,h3=>by
  simp only[Yg,cp]at h2;split at h2
  .rename_i s1 h1;simp only[stops,h1];rw[JR l J o s1 sj (by simpa using h) h2 h3]
  .cases h2
def zN{cal:iB}{ops:Array Oper}:∀(l:List Oper)(J:Nat)(o:Oper)(s sj:St),l[J]?=some o->cp C cal ops (l.take J) s=some sj->step1 C cal ops o sj=none->cp C cal ops l s=none
 | [],J,o,s,sj,h,_,_=>by simp at h
 |
  o'::l,0,o,s,sj,h,h2,h3=>by
  simp at h;subst h;simp only[Yh,cp,Zc]at h2;subst h2;simp only[cp,h3]
 |
  o'::l,J+1,o,s,sj,h,h2,h3=>by
  simp only[Yg,cp]at h2;split at h2
  .rename_i s1 h1;simp only[cp,h1];exact zN l J o s1 sj (by simpa using h) h2 h3
  .cases h2
def ZI{cal:iB}{l:List Oper}(J:Nat){pre post:List Oper}{o:Oper}(ht:G0 C l.toArray=true)(ho:l[J]?=some o)(PL:l.take J=pre)(MM:DB (DA l.toArray J)=post)(hc:(cU C o && (needs C l.toArray).all (λq=>decide (J<q.2)))=true)(hg:o.guard=none){s sj s2:St}{v:Value}{hP:Hp}(h1:cp C cal l.toArray pre s=some sj)(h2:lG C cal (ev C sj.1) sj.2 o=some (.pn v,hP))(h3:cp C cal l.toArray post sj=some s2):
 sG C cal true l s=some (.th v,(Sy l s.1,hP)):=by
 subst PL;subst MM;have hw:eM l.toArray sj.1 o=some true:=by unfold eM;rw[hg]
 have dq:step1 C cal l.toArray o sj=none:=by unfold step1;rw[hw];simp only[h2]
 rw[xD,zN l J o s sj ho h1 dq];show vS C cal l.toArray s=_;unfold vS;rw[cq ht];have e:stops C cal l.toArray l.toArray.toList s=J:=JR l J o s sj ho h1 dq;rw[e];unfold X5;have yn:l.toArray[J]?=some o:=by simpa using ho
 have kL:cp C cal l.toArray (l.toArray.toList.take J) s=some sj:=h1;simp only[yn,kL,hc,if_true,hw,h2,h3]
def JS{cal:iB}{l:List Oper}{j m:Nat}{o:Oper}(hn:needs C l.toArray=[(j,m)])(ho:l[j]?=some o)(hg:o.guard=none)(hm:m<=l.length){s:St}{jv:List St}(hL:eC C cal l.toArray l.toArray.toList s=some jv):
 sG C cal true l s=oF (cp C cal l.toArray (l.take j) s) λsj=>oF (cp C cal l.toArray (l.take m) s) λsm=>K_ (lG C cal (ev C sj.1) sj.2 o) (lG C cal (ev C sj.1) sm.2 o) (cp C cal l.toArray l s):=by
 show rh C cal l.toArray s=_;unfold rh;have hj:j<=l.length:=Nat.le_of_lt (Za.1 ho).1;simp only[hL];have Od:=oL l s jv hL;have h1:=Od j hj;have h2:=Od m hm;have h3:=Od l.length (Xc _);rw[Xx]at h3;have e:l.toArray.size=l.length:=by simp
 simp only[hn,Zn,List.all_nil,Bool.and_true,e,h3];have UN:l.toArray[j]?=some o:=by simpa using ho
 cases hq:cp C cal l.toArray (l.take j) s with
 |
  none=>
  have:sameAt C cal l.toArray jv (j,m)=false:=by
   simp only[sameAt,UN,h1,hq]
  rw[this];rfl
 |some sj=>
  cases hr:cp C cal l.toArray (l.take m) s with
  |
   none=>
   have:sameAt C cal l.toArray jv (j,m)=false:=by
    simp only[sameAt,UN,h1,hq,h2,hr,eM,hg]
   rw[this];rfl
  |some sm=>
   simp only[BU];cases ha:lG C cal (ev C sj.1) sj.2 o with
   |
    none=>
    have:sameAt C cal l.toArray jv (j,m)=false:=by
     simp only[sameAt,UN,h1,hq,h2,hr,eM,hg,ha]
    rw[this];rfl
   |some q=>
    obtain⟨v,h'⟩:=q;cases hb:lG C cal (ev C sj.1) sm.2 o with
    |
     none=>
     have:sameAt C cal l.toArray jv (j,m)=false:=by
      simp only[sameAt,UN,h1,hq,h2,hr,eM,hg,ha,hb]
     rw[this];rfl
    |some q'=>
     obtain⟨v',h''⟩:=q';have:sameAt C cal l.toArray jv (j,m)=fH v' v:=by
      simp only[sameAt,UN,h1,hq,h2,hr,eM,hg,ha,hb]
     rw[this];simp only[Ru];split
     .cases cp C cal l.toArray l s<;>rfl
     .rfl
def ZF{cal:iB}{l:List Oper}{j m:Nat}{o:Oper}(hn:needs C l.toArray=[(j,m)])(ho:l[j]?=some o)(hg:o.guard=none)(hm:m<=l.length)(hth:G0 C l.toArray=false)(s:St):
 sG C cal true l s=oF (cp C cal l.toArray (l.take j) s) λsj=>oF (cp C cal l.toArray (l.take m) s) λsm=>K_ (lG C cal (ev C sj.1) sj.2 o) (lG C cal (ev C sj.1) sm.2 o) (cp C cal l.toArray l s):=by
 show rh C cal l.toArray s=_;unfold rh;cases hL:eC C cal l.toArray l.toArray.toList s with
 |
  none=>
  have h0:=nN hL;have lQ:cp C cal l.toArray l s=none:=h0;rw[lQ];simp only[vS,hth,Ys,if_false];cases cp C cal l.toArray (l.take j) s with
  |none=>rfl
  |some sj=>
   cases cp C cal l.toArray (l.take m) s with
   |none=>rfl
   |some sm=>
    simp only[oF,K_];split<;>(try rfl);split<;>rfl
 |some jv=>
  have:=JS hn ho hg hm hL;change rh C cal l.toArray s=_ at this;unfold rh at this;simp only[hL]at this;exact this
def T_{cal:iB}{l:List Oper}{j m:Nat}{o:Oper}(hn:needs C l.toArray=[(j,m)])(ho:l[j]?=some o)(hg:o.guard=none)(hm:m<=l.length)(s:St):
 sG C cal true l s=T9 (cp C cal l.toArray l s) (oF (cp C cal l.toArray (l.take j) s) λsj=>oF (cp C cal l.toArray (l.take m) s) λsm=>K_ (lG C cal (ev C sj.1) sj.2 o) (lG C cal (ev C sj.1) sm.2 o) (cp C cal l.toArray l s)) (vS C cal l.toArray s):=by
 cases hL:eC C cal l.toArray l.toArray.toList s with
 |
  none=>
  rw[xD];have h0:cp C cal l.toArray l s=none:=nN hL;rw[h0];rfl
 |some jv=>
  have eW:eC C cal l.toArray l s=some jv:=hL;obtain⟨S,_,el,e1,_⟩:=qQ l s jv eW;have hr:cp C cal l.toArray l s=some (S l.length):=by rw[<-fU,eW,Option.bind_some,e1 l.length (Xc _)]
  rw[JS hn ho hg hm hL,hr];rfl
def lY{c:Code}{fr:List AV}{h:Hp}{G:Option (Out × St)->Prop}(Inv:Nat->St->Prop)(Q:Out->St->Prop)(N:Nat)(hN:N<C.fuel)(hI:Inv 0 (fr,h))(step:∀i fr h,i<=N->Inv i (fr,h)->Py Inv Q N i (eE C call bad c (fr,h)))(fin:∀o fr h,o≠ .normal->Q o (fr,h)->G (some (o,(fr,h)))):G (eE C call bad (.loop c) (fr,h)):=by
 obtain⟨o,s',h1,h2,h3⟩:=CP (f:=eE C call bad c) (λk s=>∃i,i+k=N/\Inv i s) Q (λk s hs=>by
  obtain⟨i,hi,hs⟩:=hs;have:=step i s.1 s.2 (by omega) hs
  revert this
  cases eE C call bad c (s.1,s.2)with
  |none=>exact λh=>h.elim
  |some q=>
   obtain⟨o,s'⟩:=q;intro h;refine⟨o,s',rfl,?_⟩;cases o with
   |normal=>exact⟨k-1,by have:=h.1;omega,i+1,by have:=h.1;omega,h.2⟩
   |exit j=>exact h
   |ret=>exact h
   |th v=>exact h) N (fr,h) ⟨0,by omega,hI⟩ C.fuel hN
 show G (tj (eE C call bad c) C.fuel (fr,h));rw[h1];exact fin o s'.1 s'.2 h2 h3
end three
def nfQ :AV->AV
 | .ag [a,l]=> .ag [a,uF 1 l]
 |x=>x
def nfX(k:Nat)(r:AV):AV:=if k=0 then r else if k=8 then nfQ r else uF k r
def aew{w:World}{X:Nat->Prop}{v:Value}{x:AV}(h:Ri w X v x):Ri w X v (nfQ x):=by
 unfold nfQ;split
 .obtain⟨us,rfl,h1,h2,h3⟩:=h.xW;refine .ag us _ (by simpa using h1) h2 λk x hk=>?_
  match k,hk with
  |0,hk=>exact h3 0 x hk
  |1,hk=>simp at hk;subst hk;exact uv 1 (h3 1 _ rfl)
  |n+2,hk=>simp at hk
 .exact h
def aex(k:Nat){w:World}{X:Nat->Prop}{v:Value}{x:AV}(h:Ri w X v x):Ri w X v (nfX k x):=by
 unfold nfX;split
 .exact h
 .split
  .exact aew h
  .exact uv k h
end Go.Ae
namespace Go.Proofs
open Go Go.Ae
def pow10C :List Value:=Lib.pow10Tab.map λz=>Value.int .u64 z
end Go.Proofs
namespace Go.Ae
def WH :Nat->Nat->List UInt8
 |0,u=> [UInt8.ofNat (48+u)]
 |k+1,u=>if u<10 then[UInt8.ofNat (48+u)]else WH k (u/10)++[UInt8.ofNat (48+u % 10)]
def WI(n:Int):List UInt8:=if n<0 then 45::WH 20 n.natAbs else WH 20 n.toNat
def Gz :∀(k u:Nat),u<10^(k+1)->WH k u=Lib.decDigits u
 |0,u,h=>by rw[Lib.decDigits_one (by omega)];rfl
 |
  k+1,u,h=>by
  unfold WH;by_cases q:u<10
  .rw[cq q,Lib.decDigits_one q]
  .rw[cm q,Lib.decDigits,dif_neg q,Gz k (u/10) (by rw[Nat.pow_succ]at h;omega)]
def WJ(n:Int)(h0: -9223372036854775808<=n)(h1:n<=9223372036854775807):WI n=Lib.itoa n:=by
 unfold WI Lib.itoa;split
 .rw[Gz 20 _ (by omega)]
 .rw[Gz 20 _ (by omega)]
end Go.Ae
