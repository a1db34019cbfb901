/- The abstract evaluator, part 2: its tables, and the evaluator itself. -/
import Derived.Sort.Statements
import Derived.Lib.BitFns
import Derived.Test.YtmocfjnklfpnbaaGreatDoorP1
set_option linter.all false
namespace Go.Ae
open Go
inductive Kd where
 |prim
 |struct (fs:List (Nat × Nat × Bool))
 |slice (esz:Nat) (eagg:Bool) (ebytes:Nat) (ezero:List Value)
 |array (n esz:Nat) (eagg:Bool)
structure Ti where
 size:Nat
 agg:Bool
 zero:List Value
 kd:Kd
inductive Rv where
 |tmp (t:Nat)
 |cell (a sz:Nat) (agg:Bool)
structure Fi where
 ntmps:Nat
 body:Code
 res:List Rv
abbrev Cal:=FuncId→List AV→Hp→Option (AV × Hp)
structure Cx where
 P:Program
 T:TypeId→Option Ti
 G:Nat→Option (List Value)
 F:FuncId→Option Fi
 inl:FuncId→Bool
 tab:FuncId→List AV→Option AV
 srt:FuncId→Option (FuncId × TypeId)
 rcv:FuncId→Option TypeId
 cold:Oper→Bool
 ext:FuncId→Bool
 ins:FuncId→Option (Nat × Nat)
 nf:FuncId→AV→AV
 thr:FuncId→Bool:=fun _=>false
 mv:TypeId→Option Nat:=fun _=>none
 fuel:Nat
def runPure (P:Program){α:Type}:Sem α→Option α
 | .pure a=>some a
 | .program k=>runPure P (k P)
 | .mark _ k=>runPure P k
 |_=>none
def ofConst :Value→AV
 | .agg cs=>if cs.toList.all flat then .ag (cs.toList.map .sc)else .ud
 |v=>if flat v then .sc v else .ud
def ev (C:Cx)(fr:List AV):Operand→AV
 | .tmp t=>fr.getD t .ud
 | .const v=>ofConst v
 | .global g=>match C.G g with|some row=> .rp (row.map gav) 0|none=> .ud
 | .func f=> .fn f []
def cls :AV→Option (List AV)
 | .ag xs=>some xs
 | .ud| .un| .tp _| .pn _=>none
 |x=>some [x]
def part (agg:Bool)(off sz:Nat)(cs:List AV):Option AV:=
 if agg then(if off+sz≤cs.length then some (.ag ((cs.drop off).take sz))else none)else cs[off]?
def splice (cs:List AV)(off:Nat)(vs:List AV):List AV:=cs.take off++vs++cs.drop (off+vs.length)
def fillA (place:Nat→Option (Nat × Nat)):List AV→List (Nat × AV)→Option (List AV)
 |cells,[]=>some cells
 |
  cells,(i,x)::rest=>
  match place i,cls x with
  |some (off,size),some cs=>if cs.length=size∧off+size≤cells.length then fillA place (splice cells off cs) rest else none
  |_,_=>none
def isSc :AV→Bool| .sc _=>true|_=>false
def scOf :AV→Value| .sc v=>v|_=>undef
def isDet :AV→Bool
 | .sc _=>true
 | .fn _ []=>true
 | .ag xs=>xs.all isSc
 |_=>false
def detOf :AV→Value
 | .sc v=>v
 | .fn f []=> .func (.func f) #[] #[]
 | .ag xs=> .agg (xs.map scOf).toArray
 |_=>undef
def ofResult :Value→Option AV
 | .tuple vs=>if vs.toList.all flat then some (.tp (vs.toList.map .sc))else none
 | .agg vs=>if vs.toList.all flat then some (.ag (vs.toList.map .sc))else none
 |v=>if flat v then some (.sc v)else none
def isSelect :Op→Bool| .select .. =>true|_=>false
def fitI (k:IntKind)(n:Int):Int:=
 match k with
 | .i64=>if-9223372036854775808≤n∧n≤9223372036854775807 then n else k.wrap n
 | .u64=>if 0≤n∧n≤18446744073709551615 then n else k.wrap n
 |_=>k.wrap n
def intOp (op:BinOp)(k:IntKind)(a b:Int):Option Value:=
 match op with
 | .add=>some (.int k (fitI k (a+b)))
 | .sub=>some (.int k (fitI k (a-b)))
 | .mul=>some (.int k (fitI k (a*b)))
 | .quo=>if b=0 then none else some (.int k (fitI k (a.tdiv b)))
 | .rem=>if b=0 then none else some (.int k (a.tmod b))
 | .eql=>some (.bool (decide (a=b)))
 | .neq=>some (.bool !(decide (a=b)))
 | .lss=>some (.bool (decide (a<b)))
 | .leq=>some (.bool (decide (a≤b)))
 | .gtr=>some (.bool (decide (a>b)))
 | .geq=>some (.bool (decide (a≥b)))
 | .and=>if k= .u64∧0≤a∧a≤18446744073709551615∧0≤b∧b≤18446744073709551615 then some (.int k (a.toNat &&& b.toNat:Nat))else none
 | .or=>if k= .u64∧0≤a∧a≤18446744073709551615∧0≤b∧b≤18446744073709551615 then some (.int k (a.toNat|||b.toNat:Nat))else none
 |_=>none
def binFast (op:BinOp)(k:IntKind)(a:Int)(k':IntKind)(b:Int):Option Value:=
 match op with
 | .shr=>if 0≤b∧b≤k.bits then some (.int k (a/(2^b.toNat:Nat)))else none
 |op=>if k=k' then intOp op k a b else none
def eqS (x y:ByteArray):Bool:=x.data.toList==y.data.toList
def ltS (x y:ByteArray):Bool:=Op.bytesLess x.data.toList y.data.toList
def strOp (op:BinOp)(x y:ByteArray):Option Value:=
 match op with
 | .add=>if x.size+y.size≤9223372036854775807 then some (.string (x++y))else none
 | .eql=>some (.bool (eqS x y))
 | .neq=>some (.bool !(eqS x y))
 | .lss=>some (.bool (ltS x y))
 | .leq=>some (.bool (ltS x y||eqS x y))
 | .gtr=>some (.bool !(ltS x y||eqS x y))
 | .geq=>some (.bool !(ltS x y))
 |_=>none
def isSlT (C:Cx)(t:TypeId):Bool:=match C.P.underlying t with|some (.slice _)=>true|_=>false
def isStr (C:Cx)(t:TypeId):Bool:=match C.P.underlying t with|some .string=>true|_=>false
def fastOp (C:Cx)(e:Operand→AV)(o:Oper):Option AV:=
 match o.op with
 |
  .binOp op t x y _=>match e x,e y with
  |
   .sc (.bool a),.sc (.bool b)=>(match C.P.underlying t,op with
   |some .bool,.eql=>some (.sc (.bool (a==b)))
   |some .bool,.neq=>some (.sc (.bool (a !=b)))
   |_,_=>none)
  | .sc (.int k a),.sc (.int k' b)=>(binFast op k a k' b).map .sc
  | .sc (.string a),.sc (.string b)=>(strOp op a b).map .sc
  |_,_=>none
 |
  .unOp .not _ x=>match e x with
  | .sc (.bool b)=>some (.sc (.bool !b))
  |_=>none
 |
  .unOp .neg _ x=>match e x with
  | .sc (.int k n)=>(intOp .sub k 0 n).map .sc
  |_=>none
 |
  .convert src dst x=>match e x with
  |
   .sc (.int _ n)=>match C.P.underlying src,C.P.underlying dst with
   |some (.int _),some (.int k)=>some (.sc (.int k (fitI k n)))
   |_,_=>none
  |_=>none
 |
  .index t x ix=>match e x,e ix with
  | .sc (.string s),.sc (.int _ i)=>if isStr C t∧0≤i then(s.data.toList[i.toNat]?).map fun b=> .sc (.int .u8 b.toNat)else none
  |_,_=>none
 |
  .call {callee:= .builtin .len,args,argTypes}=>match args.toList,argTypes.toList with
  |
   [x],[t]=>match e x with
   | .sc (.string s)=>if isStr C t then some (.sc (.int .i64 s.size))else none
   | .sc (.slice none 0 0)=>if isSlT C t then some (.sc (.int .i64 0))else none
   |_=>none
  |_,_=>none
 |
  .call {callee:= .builtin .max,args,.. }=>match args.toList with
  |
   [x,y]=>match e x,e y with
   | .sc (.int k a),.sc (.int _ b)=>some (.sc (.int k (if b>a then b else a)))
   |_,_=>none
  |_=>none
 |
  .call {callee:= .builtin .min,args,.. }=>match args.toList with
  |
   [x,y]=>match e x,e y with
   | .sc (.int k a),.sc (.int _ b)=>some (.sc (.int k (if b<a then b else a)))
   |_,_=>none
  |_=>none
 |_=>none
def slowOp (C:Cx)(e:Operand→AV)(o:Oper):Option AV:=
 if !isSelect o.op && o.op.operands.toList.all fun x=>isDet (e x)then
  match runPure C.P (execOp (fun x=>detOf (e x)) o)with
  |some (.value v)=>ofResult v
  |_=>none
 else none
def scalarOp (C:Cx)(e:Operand→AV)(o:Oper):Option AV:=
 match fastOp C e o with
 |some r=>some r
 |none=>slowOp C e o
def rowOf (h:Hp)(id:Nat):Option (List AV):=
 match h[id]? with
 |some (.row cs)=>some cs
 |some (.ice cs)=>some cs
 |some (.raw cs)=>some cs
 |_=>none
def newsOf (h:Hp):AV→Option (Nat × List AV)
 | .sc (.slice none 0 0)=>some (0,[])
 | .ls _ rows _=>some (rows.length,rows.flatten)
 |
  .sl id sz off len _=>match rowOf h id with
  |some cs=>if off+len*sz≤cs.length then some (len,(cs.drop off).take (len*sz))else none
  |none=>none
 |_=>none
def szOk (sz:Nat):AV→Bool
 | .sc _=>true
 | .ls s _ _=>s==sz
 | .sl _ s _ _ _=>s==sz
 |_=>false
def appendA (C:Cx)(h:Hp)(t:TypeId)(s x:AV):Option (AV × Hp):=
 match C.T t with
 |
  some {kd:= .slice sz _ bytes _,.. }=>
  if szOk sz s && szOk sz x then
   match newsOf h x with
   |
    some (m,news)=>
    if m=0 then(match s with| .sc (.slice none 0 0)| .ls .. | .sl .. =>some (s,h)|_=>none)
    else match s with
     | .sc (.slice none 0 0)=>if m≤maxLen∧m*bytes≤140737488355328 then some (.sl h.length sz 0 m false,h++[.row news])else none
     | .ls _ rows true=>if rows.length+m≤maxLen∧(rows.length+m)*bytes≤140737488355328 then some (.sl h.length sz 0 (rows.length+m) false,h++[.row (rows.flatten++news)])else none
     |
      .sl id _ off len true=>match rowOf h id with
      |
       some cs=>
       if off+len*sz≤cs.length∧len+m≤maxLen∧(len+m)*bytes≤140737488355328 then some (.sl h.length sz 0 (len+m) false,h++[.row ((cs.drop off).take (len*sz)++news)])
       else none
      |none=>none
     |
      .sl id _ off len false=>match h[id]? with
      |
       some (.row cs)=>
       if off+(len+m)*sz≤cs.length then some (.sl id sz off (len+m) false,h.set id (.row (splice cs (off+len*sz) news)))
       else if off=0∧cs.length=len*sz∧len+m≤maxLen∧(len+m)*bytes≤140737488355328 then some (.sl h.length sz 0 (len+m) false,h.set id .dead++[.row (cs++news)])
       else none
      |_=>none
     |_=>none
   |none=>none
  else none
 |_=>none
def copyA (C:Cx)(h:Hp)(t:TypeId)(d x:AV):Option (AV × Hp):=
 match C.T t with
 |
  some {kd:= .slice sz ..,.. }=>
  if szOk sz d && szOk sz x then
   match newsOf h x,d with
   |
    some (m,news),.sl id _ off len _=>match h[id]? with
    |some (.row cs)=>if off+min m len*sz≤cs.length then some (.sc (.int .i64 (min m len:Nat)),h.set id (.row (splice cs off (news.take (min m len*sz)))))else none
    |_=>none
   |some (_,_),.ls _ [] _=>some (.sc (.int .i64 0),h)
   |some (_,_),.sc (.slice none 0 0)=>some (.sc (.int .i64 0),h)
   |_,_=>none
  else none
 |_=>none
def clearA (C:Cx)(h:Hp)(t:TypeId)(x:AV):Option (AV × Hp):=
 match C.T t,x with
 |
  some {kd:= .slice sz _ _ ez,.. },.sl id s off len _=>match h[id]? with
  |some (.row cs)=>if s=sz∧0<len∧off+len*sz≤cs.length then some (.tp [],h.set id (.row (splice cs off ((List.range len).flatMap fun _=>ez.map .sc))))else none
  |_=>none
 |_,_=>none
def lenA :AV→Option Nat
 | .ls _ rows _=>some rows.length
 | .sl _ _ _ len _=>some len
 |_=>none
def natOf :AV→Option Nat
 | .sc (.int _ i)=>if 0≤i then some i.toNat else none
 |_=>none
def boundA (d:Nat):Option AV→Option Nat
 |none=>some d
 |some x=>natOf x
def isIntT (C:Cx)(t:TypeId):Bool:=match C.P.underlying t with|some (.int _)=>true|_=>false
def zerosA (C:Cx)(h:Hp)(t t':TypeId)(s x:AV):Option (AV × Hp):=
 match C.T t,s,natOf x with
 |
  some {kd:= .slice sz _ bytes ez,.. },.sc (.slice none 0 0),some n=>
  if isIntT C t'=true∧0<n∧n≤maxLen∧n*bytes≤140737488355328 then some (.sl h.length sz 0 n false,h++[.row ((List.range n).flatMap fun _=>ez.map .sc)])else none
 |_,_,_=>none
def sliceA (x:AV)(lo hi mx:Option AV):Option AV:=
 match lenA x with
 |
  some len=>match boundA 0 lo,boundA len hi,mx with
  |
   some l,some h,none=>
   if l≤h∧h≤len then match x with
    | .ls sz rows z=>some (.ls sz ((rows.drop l).take (h-l)) (z && h==len))
    | .sl id sz off _ k=>if l=h then some (.ls sz [] (k && h==len))else if k && h !=len then none else some (.sl id sz (off+l*sz) (h-l) k)
    |_=>none
   else none
  |
   some l,some h,some m=>match natOf m with
   |
    some m=>if l≤h∧h≤m∧m≤len∧hi.isSome then(if h=m then(match x with
    | .ls sz rows _=>some (.ls sz ((rows.drop l).take (h-l)) true)
    | .sl id sz off _ _=>if l=h then some (.ls sz [] true)else some (.sl id sz (off+l*sz) (h-l) true)
    |_=>none)else some .ud)else none
   |none=>none
  |_,_,_=>none
 |none=>none
def someA :AV→Bool
 | .ls _ (_::_) _| .sl .. =>true
 |_=>false
def isNilC :Operand→Bool
 | .const (.slice none 0 0)=>true
 |_=>false
def byteA :AV→Option UInt8
 | .sc (.int .u8 i)=>if 0≤i∧i<256 then some (UInt8.ofNat i.toNat)else none
 |_=>none
def isU8 (C:Cx)(t:TypeId):Bool:=
 match C.P.underlying t with
 |some (.slice e)=>(match C.P.underlying e with|some (.int .u8)=>true|_=>false)
 |_=>false
def isMapS (C:Cx)(t:TypeId):Bool:=
 match C.P.underlying t with
 |some (.map kt _)=>isStr C kt
 |_=>false
def mapZ (C:Cx)(t:TypeId):Option AV:=
 match C.P.underlying t with
 |
  some (.map _ et)=>match C.P.info? et with
  |some i=>i.zero.map ofConst
  |none=>none
 |_=>none
def strKey :Value × AV→Bool
 |(.string _,_)=>true
 |_=>false
def keyB (s:ByteArray):Value→Bool
 | .string a=>s==a
 |_=>false
def keyIx (s:ByteArray):List (Value × AV)→Nat→Option Nat
 | [],_=>none
 |(j,_)::es,i=>bif keyB s j then some i else keyIx s es (i+1)
def mapAt (C:Cx)(t:TypeId)(s:ByteArray)(es:List (Value × AV)):Option (AV × Bool):=
 match keyIx s es 0 with
 |some i=>(es[i]?).map fun p=>(p.2,true)
 |none=>(mapZ C t).map fun z=>(z,false)
def calm :AV→Bool
 | .sc _| .ls .. | .rp .. =>true
 | .ag xs=>xs.all fun| .sc _| .ls .. | .rp .. =>true|_=>false
 | .fn _ xs=>xs.all fun| .sc _| .ls .. | .rp .. =>true|_=>false
 |_=>false
def chunk (sz len:Nat)(cs:List AV):List (List AV):=(List.range len).map fun i=>(cs.drop (i*sz)).take sz
def coldA (C:Cx)(e:Operand→AV)(h:Hp)(o:Oper):Option (AV × Hp):=
 match o.op with
 |
  .buildSlice t len parts=>match C.T t with
  |
   some {kd:= .slice sz _ _ ez,.. }=>
   if len*sz≤16777216 then match fillA (fun i=>some (i*sz,sz)) ((List.range len).flatMap fun _=>ez.map .sc) (parts.toList.map fun p=>(p.1,e p.2))with
    |some cs=>if cs.all calm then some (.ls sz (chunk sz len cs) true,h)else none
    |none=>none
   else none
  |_=>none
 |
  .makeSlice t l c=>match C.T t,natOf (e l),natOf (e c)with
  |
   some {kd:= .slice sz _ bytes ez,.. },some n,some m=>
   if n=m∧n≤maxLen∧n*bytes≤140737488355328 then some (.ls sz (chunk sz n ((List.range n).flatMap fun _=>ez.map .sc)) true,h)else none
  |_,_,_=>none
 |
  .slice t x lo hi none=>match C.T t,e x with
  |
   some {kd:= .slice sz ..,.. },.sl id s off len false=>match boundA 0 (lo.map e),boundA len (hi.map e),rowOf h id with
   |some l,some m,some cs=>if s=sz∧l≤m∧off+m*sz≤cs.length∧(l<m∨off+(l+1)*sz≤cs.length)then some (.sl id sz (off+l*sz) (m-l) false,h)else none
   |_,_,_=>none
  |_,_=>none
 |
  .call {callee:= .builtin .append,args,argTypes}=>match args.toList,argTypes.toList with
  |
   [s,x],[t,t']=>if t=t' then(match C.T t with
   |
    some {kd:= .slice sz _ bytes _,.. }=>if szOk sz (e s) && szOk sz (e x)then(match newsOf h (e x),e s with
    |some (m,news),.ls s0 [] z=>if m=0 then some (.ls s0 [] z,h)else if m≤maxLen∧m*bytes≤140737488355328∧z=true∧news.all calm=true then some (.ls sz (chunk sz m news) false,h)else none
    |_,_=>none)else none
   |_=>none)else none
  |_,_=>none
 |_=>none
def snap (h:Hp):Nat→AV→Option AV
 |_,.sc v=>some (.sc v)
 |_,.ls sz rows z=>some (.ls sz rows z)
 |_,.rp row j=>some (.rp row j)
 |_,.oc=>some .oc
 |0,_=>none
 |
  n+1,.sl id sz off len _=>match rowOf h id with
  |some cs=>if off+len*sz≤cs.length then
   (((cs.drop off).take (len*sz)).mapM (snap h n)).map fun xs=> .ls sz ((List.range len).map fun i=>(xs.drop (i*sz)).take sz) false
   else none
  |none=>none
 |
  n+1,.pt id off=>match rowOf h id with
  |some cs=>(cs.mapM (snap h n)).map fun xs=> .rp xs off
  |none=>none
 |n+1,.ag xs=>(xs.mapM (snap h n)).map .ag
 |n+1,.tp xs=>(xs.mapM (snap h n)).map .tp
 |n+1,.fn f xs=>(xs.mapM (snap h n)).map (.fn f)
 |_,_=>none
def mask (ids:List Nat)(h:Hp):Hp:=(List.range h.length).map fun i=>if ids.contains i then h.getD i .dead else .dead
def freeze (ids:List Nat)(h:Hp):Option Hp:=
 (List.range h.length).mapM fun i=>if ids.contains i then(match h[i]? with
  |some (.row cs)=>(cs.mapM (snap (mask ids h) 8)).map .ice
  |some (.ice cs)=>some (.ice cs)
  |some .dead=>some .dead
  |_=>none)else h[i]?
def mvA (C:Cx)(e:Operand→AV)(h:Hp)(t:TypeId)(m:Nat):List (Nat × Operand)→Option (AV × Hp)
 |
  [(0,.tmp q)]=>match e (.tmp q),C.T t with
  |
   .sl id s off len k,some {kd:= .slice sz _ _ ez,.. }=>if sz=1∧ez.length=1 then(match freeze [id] h,snap (mask [id] h) 8 (.sl id s off len k)with
   |some h',some y=>some (.sl h'.length 1 0 1 false,h'++[.row [y]])
   |_,_=>none)else none
  | .sc (.slice none 0 0),some {kd:= .slice sz _ _ ez,.. }=>if sz=1∧ez.length=1 then some (.sl h.length 1 0 1 false,h++[.row [.ls m [] false]])else none
  |_,_=>none
 |_=>none
def mvB (C:Cx)(e:Operand→AV)(h:Hp)(t:TypeId)(len:Nat)(ps:List (Nat × Operand)):Option (AV × Hp):=
 match C.mv t with
 |some m=>if len=1 then mvA C e h t m ps else none
 |none=>none
def aopW (C:Cx)(call:Cal)(e:Operand→AV)(h:Hp)(o:Oper):Option (AV × Hp):=
 match o.op with
 | .move x| .assign x=>some (e x,h)
 |
  .pick c a b=>match e c with
  | .sc (.bool t)=>some (bif t then e a else e b,h)
  |_=>none
 |
  .alloc t=>match C.T t with
  |some i=>some (.pt h.length 0,h++[.row (i.zero.map .sc)])
  |none=>none
 |
  .box t x=>match C.T t,cls (e x)with
  |some i,some cs=>if cs.length=i.size then some (.pt h.length 0,h++[.row cs])else none
  |_,_=>none
 |
  .build t parts=>match C.T t with
  |some {zero,kd:= .struct fs,.. }=>(fillA (fun i=>(fs[i]?).map fun f=>(f.1,f.2.1)) (zero.map .sc) (parts.toList.map fun p=>(p.1,e p.2))).map fun cs=>(.ag cs,h)
  |some {zero,kd:= .array _ esz _,.. }=>(fillA (fun i=>some (i*esz,esz)) (zero.map .sc) (parts.toList.map fun p=>(p.1,e p.2))).map fun cs=>(.ag cs,h)
  |_=>none
 |
  .buildSlice t len parts=>match mvB C e h t len parts.toList with
  |some r=>some r
  |none=>match C.T t with
  |
   some {kd:= .slice sz _ _ ez,.. }=>
   if len*sz≤16777216 then
    (fillA (fun i=>some (i*sz,sz)) ((List.range len).flatMap fun _=>ez.map .sc) (parts.toList.map fun p=>(p.1,e p.2))).map fun cs=>(.sl h.length sz 0 len false,h++[.row cs])
   else none
  |_=>none
 |
  .load t x=>match C.T t,e x with
  |
   some i,.pt id off=>match rowOf h id with
   |some cs=>(part i.agg off i.size cs).map fun y=>(y,h)
   |none=>none
  |some i,.rp row j=>(part i.agg j i.size row).map fun y=>(y,h)
  |_,_=>none
 |
  .store t x y=>match C.T t,e x,cls (e y)with
  |
   some i,.pt id off,some vs=>match h[id]? with
   |some (.row cs)=>if vs.length=i.size∧off+i.size≤cs.length then some (.un,h.set id (.row (splice cs off vs)))else none
   |some (.raw cs)=>if vs.length=i.size∧off+i.size≤cs.length then some (.un,h.set id (.raw (splice cs off vs)))else none
   |_=>none
  |_,_,_=>none
 |
  .nilCheck x=>match e x with
  | .pt id off=>some (.pt id off,h)
  | .rp row j=>some (.rp row j,h)
  | .fn f cs=>some (.fn f cs,h)
  |_=>none
 |
  .fieldAddr t x f=>match C.T t with
  |
   some {kd:= .struct fs,.. }=>match fs[f]?,e x with
   |some (o,sz,_),.pt id off=>if sz=0 then none else some (.pt id (off+o),h)
   |some (o,sz,_),.rp row j=>if sz=0 then none else some (.rp row (j+o),h)
   |_,_=>none
  |_=>none
 |
  .indexAddr t x ix=>match C.T t,natOf (e ix)with
  |
   some {kd:= .slice sz ..,.. },some i=>match e x with
   | .sl id s off len _=>if s=sz∧i<len then some (.pt id (off+i*sz),h)else none
   | .ls s rows _=>if s=sz then(rows[i]?).map fun row=>(.rp row 0,h)else none
   |_=>none
  |
   some {kd:= .array n sz _,.. },some i=>match e x with
   | .pt id off=>if i<n then some (.pt id (off+i*sz),h)else none
   | .rp row j=>if i<n then some (.rp row (j+i*sz),h)else none
   |_=>none
  |_,_=>none
 |
  .field t x f=>match C.T t,e x with
  |
   some {kd:= .struct fs,.. },.ag cs=>match fs[f]? with
   |some (off,sz,agg)=>(part agg off sz cs).map fun y=>(y,h)
   |none=>none
  |_,_=>none
 |
  .index t x ix=>match C.T t,e x with
  |
   some {kd:= .array n sz agg,.. },.ag cs=>match natOf (e ix)with
   |some i=>if i<n then(part agg (i*sz) sz cs).map fun y=>(y,h)else none
   |none=>none
  |_,_=>(scalarOp C e o).map fun y=>(y,h)
 |
  .extract x i=>match e x with
  | .tp vs=>(vs[i]?).map fun y=>(y,h)
  |_=>none
 | .makeFunc (.func f) first caps=>if first.isEmpty then some (.fn f (caps.toList.map e),h)else some (.oc,h)
 |
  .makeSlice t l c=>match C.T t,natOf (e l),natOf (e c)with
  |
   some {kd:= .slice sz _ bytes ez,.. },some n,some m=>
   if n=m∧n≤maxLen∧n*bytes≤140737488355328 then some (.sl h.length sz 0 n false,h++[.row ((List.range n).flatMap fun _=>ez.map .sc)])else none
  |_,_,_=>none
 |
  .slice t x lo hi mx=>match e x with
  | .sc _=>(scalarOp C e o).map fun y=>(y,h)
  |
   y=>match C.T t with
   |some {kd:= .slice sz ..,.. }=>if szOk sz y then(sliceA y (lo.map e) (hi.map e) (mx.map e)).map fun y=>(y,h)else none
   |_=>none
 | .binOp op t x y _=>if isSlT C t && isNilC y && someA (e x)then(match op with
  | .eql=>some (.sc (.bool false),h)
  | .neq=>some (.sc (.bool true),h)
  |_=>none)else(scalarOp C e o).map fun y=>(y,h)
 |
  .convert src dst x=>match e x with
  | .sc (.string s)=>if isStr C src && isU8 C dst then(if s.size≤maxLen then some (.sl h.length 1 0 s.size false,h++[.raw (s.data.toList.map fun b=> .sc (.int .u8 b.toNat))])else none)else(scalarOp C e o).map fun y=>(y,h)
  |
   .sl id 1 off len k=>if isStr C dst && isU8 C src then(match newsOf h (.sl id 1 off len k)with
   |some (_,news)=>(news.mapM byteA).map fun bs=>(.sc (.string ⟨bs.toArray⟩),h)
   |none=>none)else none
  |_=>(scalarOp C e o).map fun y=>(y,h)
 | .makeMap t none=>if isMapS C t then some (.mp h.length,h++[.map [] 0])else none
 |
  .mapUpdate t m k x=>match e m,e k,e x with
  |
   .mp id,.sc (.string s),y=>if isMapS C t then(match h[id]? with
   |
    some (.map es clock)=>if es.all strKey then(match keyIx s es 0 with
    |some i=>some (.un,h.set id (.map (es.set i (.string s,y)) clock))
    |none=>some (.un,h.set id (.map (es++[(.string s,y)]) (clock+1))))else none
   |_=>none)else none
  |_,_,_=>none
 |
  .lookup t m k ok=>match e m,e k with
  |
   .mp id,.sc (.string s)=>if isMapS C t then(match h[id]? with
   |some (.map es _)=>if es.all strKey then(mapAt C t s es).map fun q=>(if ok then .tp [q.1,.sc (.bool q.2)]else q.1,h)else none
   |_=>none)else none
  |_,_=>(scalarOp C e o).map fun y=>(y,h)
 |
  .range t x=>match e x with
  | .sc (.string s)=>if isStr C t then some (.pt h.length 0,h++[.iter s 0])else none
  |_=>none
 |
  .next x true=>match e x with
  |
   .pt id 0=>match h[id]? with
   |some (.iter s pos)=>if pos<s.size then some (.tp [.sc (.bool true),.sc (.int .i64 pos),.sc (.int .i32 (Utf8.decode s pos).1)],h.set id (.iter s (pos+(Utf8.decode s pos).2)))else some (.tp [.sc (.bool false)],h)
   |_=>none
  |_=>none
 |
  .panic x=>match e x with
  | .sc (.iface t v)=>some (.pn (.iface t v),h)
  |_=>none
 |
  .call {callee:= .value f,args,.. }=>match e f with
  | .fn g caps=>if C.ext g then(scalarOp C e o).map fun y=>(y,h)else call g (args.toList.map e++caps) h
  |_=>none
 |
  .call {callee:= .builtin .append,args,argTypes}=>match args.toList,argTypes.toList with
  | [s,x],[t,t']=>if t=t' then appendA C h t (e s) (e x)else zerosA C h t t' (e s) (e x)
  |_,_=>none
 |
  .call {callee:= .builtin .copy,args,argTypes}=>match args.toList,argTypes.toList with
  | [s,x],[t,t']=>if t=t' then copyA C h t (e s) (e x)else none
  |_,_=>none
 |
  .call {callee:= .builtin .clear,args,argTypes}=>match args.toList,argTypes.toList with
  | [x],[t]=>clearA C h t (e x)
  |_,_=>none
 |
  .call {callee:= .builtin .delete,args,argTypes}=>match args.toList,argTypes.toList with
  |
   [m,k],[t,_]=>match e m,e k with
   |
    .mp id,.sc (.string s)=>if isMapS C t then(match h[id]? with
    |
     some (.map es clock)=>if es.all strKey then(match keyIx s es 0 with
     |some i=>some (.tp [],h.set id (.map (es.eraseIdx i) clock))
     |none=>some (.tp [],h.set id (.map es clock)))else none
    |_=>none)else none
   |_,_=>none
  |_,_=>none
 |
  .call {callee:= .builtin .len,args,argTypes}=>match args.toList,argTypes.toList with
  |
   [x],[t]=>match lenA (e x),C.T t with
   |some n,some {kd:= .slice ..,.. }=>some (.sc (.int .i64 n),h)
   |_,_=>(scalarOp C e o).map fun y=>(y,h)
  |_,_=>none
 |_=>(scalarOp C e o).map fun y=>(y,h)
def aop (C:Cx)(call:Cal)(e:Operand→AV)(h:Hp)(o:Oper):Option (AV × Hp):=
 if C.cold o then coldA C e h o else aopW C call e h o
def wantA (ops:Array Oper)(fr:List AV)(o:Oper):Option Bool:=
 match o.guard with
 |none=>some true
 |
  some (j,w)=>match(ops[j]?).bind (·.dst)with
  |none=>some false
  |
   some d=>match fr[d]? with
   |some (.sc (.bool b))=>some (b==w)
   |some .un=>some false
   |_=>none
def putA (o:Oper)(fr:List AV)(v:AV):List AV:=match o.dst with|some d=>fr.set d v|none=>fr
abbrev St :=List AV × Hp
def step1 (C:Cx)(call:Cal)(ops:Array Oper)(o:Oper)(s:St):Option St:=
 match wantA ops s.1 o with
 |
  some true=>match aop C call (ev C s.1) s.2 o with
  |some (.pn _,_)=>none
  |some (v,h)=>some (putA o s.1 v,h)
  |none=>none
 |some false=>some (putA o s.1 .un,s.2)
 |none=>none
def runOps (C:Cx)(call:Cal)(ops:Array Oper):List Oper→St→Option St
 | [],s=>some s
 |
  o::rest,s=>match step1 C call ops o s with
  |some s'=>runOps C call ops rest s'
  |none=>none
def maskOf (acc:List Nat)(o:Oper):Nat:=o.after.toList.foldl (fun s e=>if Region.binds .any e then s|||2^e.on|||acc.getD e.on 0 else s) 0
def masks :List Oper→List Nat→List Nat
 | [],acc=>acc
 |o::rest,acc=>masks rest (acc++[maskOf acc o])
def changerW (C:Cx)(o:Oper):Bool:=
 match o.op with
 | .move _| .assign _| .pick .. | .build .. | .load .. | .nilCheck _| .fieldAddr .. | .indexAddr .. | .field .. | .index .. | .extract .. | .slice .. | .binOp .. | .unOp .. | .makeInterface .. | .typeAssert .. | .lookup .. =>false
 | .convert src dst _=>isStr C src && isU8 C dst
 | .makeFunc (.func _) _ _=>false
 | .call {callee:= .builtin .len,.. }| .call {callee:= .builtin .min,.. }| .call {callee:= .builtin .max,.. }=>false
 | .call {callee:= .value (.func g),.. }=>C.inl g
 |_=>true
def changer (C:Cx)(o:Oper):Bool:= !C.cold o && changerW C o
def toucherW (C:Cx)(o:Oper):Bool:=
 match o.op with
 | .move _| .assign _| .pick .. | .build .. | .nilCheck _| .fieldAddr .. | .indexAddr .. | .field .. | .index .. | .extract .. | .slice .. | .binOp .. | .unOp .. | .makeInterface .. | .typeAssert .. =>false
 | .convert src dst _=>(isStr C src && isU8 C dst)||(isStr C dst && isU8 C src)
 | .makeFunc (.func _) _ _=>false
 | .call {callee:= .builtin .len,.. }| .call {callee:= .builtin .min,.. }| .call {callee:= .builtin .max,.. }=>false
 |_=>true
def toucher (C:Cx)(o:Oper):Bool:=C.cold o||toucherW C o
def ordered (ms:List Nat)(i j:Nat):Bool:=if i<j then(ms.getD j 0).testBit i else(ms.getD i 0).testBit j
def eqV :Value→Value→Bool
 | .bool a,.bool b=>a==b
 | .int k a,.int j b=>decide (k=j) && decide (a=b)
 | .string a,.string b=>a==b
 | .pointer none,.pointer none=>true
 | .slice none 0 0,.slice none 0 0=>true
 | .map none,.map none=>true
 | .nilFunc,.nilFunc=>true
 | .nilIface,.nilIface=>true
 |_,_=>false
mutual
def eqvB :AV→AV→Bool
 | .sc v,.sc u=>eqV v u
 | .sl a b c d k,.sl a' b' c' d' k'=>decide (a=a') && decide (b=b') && decide (c=c') && decide (d=d') && (k==k')
 | .pt a b,.pt a' b'=>decide (a=a') && decide (b=b')
 | .mp a,.mp a'=>decide (a=a')
 | .ls sz rows z,.ls sz' rows' z'=>decide (sz=sz') && (z==z') && eqvR rows rows'
 | .rp row j,.rp row' j'=>decide (j=j') && eqvC row row'
 | .fn f xs,.fn f' xs'=>decide (f=f') && eqvC xs xs'
 | .ag xs,.ag ys=>eqvC xs ys
 | .tp xs,.tp ys=>eqvC xs ys
 |_,_=>false
def eqvC :List AV→List AV→Bool
 | [],[]=>true
 |x::xs,y::ys=>eqvB x y && eqvC xs ys
 |_,_=>false
def eqvR :List (List AV)→List (List AV)→Bool
 | [],[]=>true
 |x::xs,y::ys=>eqvC x y && eqvR xs ys
 |_,_=>false
end
def runOpsL (C:Cx)(call:Cal)(ops:Array Oper):List Oper→St→Option (List St)
 | [],s=>some [s]
 |
  o::rest,s=>match step1 C call ops o s with
  |some s'=>(runOpsL C call ops rest s').map (s:: ·)
  |none=>none
def cc (C:Cx)(ops:Array Oper)(m:Nat):Nat:=((ops.toList.take m).filter (changer C)).length
def isCh (C:Cx)(ops:Array Oper)(i:Nat):Bool:=match ops[i]? with|some o=>changer C o|none=>false
def chMask (C:Cx)(ops:Array Oper):Nat:=(List.range ops.size).foldl (fun s i=>cond (isCh C ops i) (s|||2^i) s) 0
def befN (C:Cx)(ops:Array Oper)(ms:List Nat)(j:Nat):Nat:=cond (Nat.beq (ms.getD j 0 &&& chMask C ops) 0) 0 (Nat.log2 (ms.getD j 0 &&& chMask C ops)+1)
def aftN (C:Cx)(ops:Array Oper)(ms:List Nat)(j:Nat):Nat:=((List.range ops.size).find? fun i=>isCh C ops i && (ms.getD i 0).testBit j).getD ops.size
def mayRun (C:Cx)(ops:Array Oper)(ms:List Nat)(j m:Nat):Bool:=Nat.ble (befN C ops ms j) m && Nat.ble m (aftN C ops ms j)
def atChange (C:Cx)(ops:Array Oper)(m:Nat):Bool:=m==0||(match ops[m-1]? with|some o'=>changer C o'|none=>false)
def needs (C:Cx)(ops:Array Oper):List (Nat × Nat):=
 (List.range ops.size).flatMap fun j=>match ops[j]? with
  |
   some o=>if changer C o|| !toucher C o then[]else
   (List.range (ops.size+1)).filterMap fun m=>if !atChange C ops m|| !mayRun C ops (masks ops.toList []) j m||Nat.beq (cc C ops m) (cc C ops j)then none else some (j,m)
  |none=> []
def sameAt (C:Cx)(call:Cal)(ops:Array Oper)(sts:List St)(q:Nat × Nat):Bool:=
 match ops[q.1]?,sts[q.1]? with
 |
  some o,some sj=>(match wantA ops sj.1 o with
  |some true=>(match sts[q.2]?,aop C call (ev C sj.1) sj.2 o with
   |some sm,some (v,_)=>(match aop C call (ev C sj.1) sm.2 o with|some (v',_)=>eqvB v' v|none=>false)
   |_,_=>false)
  |_=>true)
 |_,_=>false
inductive Out where
 |normal
 |exit (id:Nat)
 |ret
 |pan (v:Value)
def runOpsP (C:Cx)(call:Cal)(ops:Array Oper):List Oper→St→Option (Out × St)
 | [],s=>some (.normal,s)
 |
  o::rest,s=>match step1 C call ops o s with
  |some s'=>runOpsP C call ops rest s'
  |
   none=>match wantA ops s.1 o with
   |
    some true=>match aop C call (ev C s.1) s.2 o with
    |some (.pn v,h)=>some (.pan v,(s.1,h))
    |_=>none
   |_=>none
def thrs (C:Cx)(ops:Array Oper):Bool:=ops.toList.any fun o=>match o.op with| .call {callee:= .value (.func g),.. }=>C.thr g|_=>false
def stops (C:Cx)(call:Cal)(ops:Array Oper):List Oper→St→Nat
 | [],_=>0
 |
  o::rest,s=>match step1 C call ops o s with
  |some s'=>stops C call ops rest s'+1
  |none=>0
def restJ (ops:Array Oper)(J:Nat):List (Oper × Bool):=(ops.toList.zipIdx.drop (J+1)).map fun p=>(p.1,((masks ops.toList []).getD p.2 0).testBit J)
def restO (l:List (Oper × Bool)):List Oper:=(l.filter fun p=> !p.2).map (·.1)
def udF (ops:List Oper)(fr:List AV):List AV:=ops.foldl (fun f o=>putA o f .ud) fr
def panX (C:Cx)(call:Cal)(ops:Array Oper)(J:Nat)(s:St):Option (Out × St):=
 match ops[J]?,runOps C call ops (ops.toList.take J) s with
 |
  some o,some sj=>if changer C o && (needs C ops).all (fun q=>decide (J<q.2))then(match wantA ops sj.1 o with
  |
   some true=>(match aop C call (ev C sj.1) sj.2 o with
   |
    some (.pn v,h)=>(match runOps C call ops (restO (restJ ops J)) sj with
    |some _=>some (.pan v,(udF ops.toList s.1,h))
    |none=>none)
   |_=>none)
  |_=>none)else none
 |_,_=>none
def panA (C:Cx)(call:Cal)(ops:Array Oper)(s:St):Option (Out × St):=
 if thrs C ops then panX C call ops (stops C call ops ops.toList s) s else none
def loopN (body:St→Option (Out × St)):Nat→St→Option (Out × St)
 |0,_=>none
 |
  n+1,s=>match body s with
  |some (.normal,s')=>loopN body n s'
  |r=>r
def exec (C:Cx)(call:Bool→Cal):Code→St→Option (Out × St)
 | .skip,s=>some (.normal,s)
 | .label _,s=>some (.normal,s)
 |
  .region _ ops mixed,s=>if mixed then(match runOpsL C (call false) ops ops.toList s with
  |some sts=>if(needs C ops).all (sameAt C (call false) ops sts)then(sts[ops.size]?).map fun s'=>(.normal,s')else none
  |none=>panA C (call false) ops s)else runOpsP C (call true) ops ops.toList s
 |
  .seq a b,s=>match exec C call a s with
  |some (.normal,s')=>exec C call b s'
  |r=>r
 |
  .cond c a b,s=>match ev C s.1 c with
  | .sc (.bool true)=>exec C call a s
  | .sc (.bool false)=>exec C call b s
  |_=>none
 |
  .block id c,s=>match exec C call c s with
  |some (.exit i,s')=>some (if i=id then .normal else .exit i,s')
  |r=>r
 | .loop c,s=>loopN (exec C call c) C.fuel s
 | .exit id,s=>some (.exit id,s)
 | .ret,s=>some (.ret,s)
 |_,_=>none
def scalarRes :AV→Bool
 | .sc _=>true
 | .tp xs=>xs.all isSc
 |_=>false
def rvOf (s:St):Rv→Option AV
 | .tmp t=>some (s.1.getD t .ud)
 |
  .cell a sz agg=>match s.1.getD a .ud with
  |
   .pt id off=>match rowOf s.2 id with
   |some cs=>part agg off sz cs
   |none=>none
  |_=>none
def resOf (fi:Fi)(s:St):Option AV:=
 match fi.res with
 | [t]=>rvOf s t
 |ts=>(ts.mapM (rvOf s)).map .tp
def body1 (C:Cx)(call:Bool→Cal)(f:FuncId)(args:List AV)(h:Hp):Option (AV × Hp):=
 match C.F f with
 |some fi=>if args.length≤fi.ntmps then
  match exec C call fi.body (args++List.replicate (fi.ntmps-args.length) .un,h)with
  |some (.normal,s)=>(resOf fi s).map fun r=>(r,s.2)
  |some (.ret,s)=>(resOf fi s).map fun r=>(r,s.2)
  |some (.pan v,s)=>some (.pn v,s.2)
  |_=>none
  else none
 |none=>none
def deferOf (C:Cx):Code→Option (Tmp × Operand × TypeId × Code)
 |
  .seq (.region _ ops false) rest=>match ops.toList with
  |
   [{op:= .makeFunc (.func g) first caps,dst:=some d,guard:=none,.. },{op:= .defer {callee:= .value (.tmp d'),args,.. },guard:=none,dst:=none,.. }]=>
   match C.rcv g,caps.toList with
   |some T,[x]=>if d=d' && first.isEmpty && args.isEmpty then some (d,x,T,rest)else none
   |_,_=>none
  |_=>none
 |_=>none
def splitD (C:Cx):Code→Option (List Code × Tmp × Operand × TypeId × Code)
 |
  .seq a b=>match deferOf C b with
  |some (d,x,T,rest)=>some ([a],d,x,T,rest)
  |
   none=>match splitD C b with
   |some (pre,d,x,T,rest)=>some (a::pre,d,x,T,rest)
   |none=>none
 |_=>none
def execL (C:Cx)(call:Bool→Cal):List Code→St→Option (Out × St)
 | [],s=>some (.normal,s)
 |
  c::cs,s=>match exec C call c s with
  |some (.normal,s')=>execL C call cs s'
  |r=>r
def bodyD (C:Cx)(call:Bool→Cal)(f:FuncId)(args:List AV)(h:Hp):Option (AV × Hp):=
 match C.F f with
 |some fi=>if args.length≤fi.ntmps then
  match splitD C fi.body with
  |
   some (pre,d,x,T,rest)=>match execL C call pre (args++List.replicate (fi.ntmps-args.length) .un,h)with
   |some (.ret,s)=>(resOf fi s).map fun r=>(r,s.2)
   |
    some (.normal,s)=>match ev C s.1 x with
    |
     .pt id 0=>if d<s.1.length then match exec C call rest (s.1.set d .ud,s.2)with
     |some (.normal,s')=>(resOf fi s').map fun r=>(r,s'.2)
     |some (.ret,s')=>(resOf fi s').map fun r=>(r,s'.2)
     |
      some (.pan (.iface T' (.int k n)),s')=>match s'.2[id]? with
      |some (.row [_])=>if T=T' then(resOf fi (s'.1,s'.2.set id (.row [.sc (.int k n)]))).map fun r=>(r,s'.2.set id (.row [.sc (.int k n)]))else none
      |_=>none
     |_=>none
     else none
    |_=>none
   |_=>none
  |none=>none
  else none
 |none=>none
def keysA (es:List (Value × AV)):Option (List ByteArray):=es.mapM fun e=>match e.1 with| .string s=>some s|_=>none
def leS (x y:ByteArray):Bool:=decide (x.data.toList≤y.data.toList)
def insS (x:ByteArray):List ByteArray→List ByteArray
 | []=> [x]
 |y::l=>if leS x y then x::y::l else y::insS x l
def nodupS :List ByteArray→Bool
 | []=>true
 |x::l=> !(l.any fun y=>x==y) && nodupS l
def sortS (l:List ByteArray):List ByteArray:=l.foldr insS []
def sortedA (h:Hp)(g:FuncId):List AV→Option (AV × Hp)
 |
  [.fn g' [.pt b 0]]=>if g=g' then(match h[b]? with
  |
   some (.row [.mp id])=>match h[id]? with
   |
    some (.map es _)=>match keysA es with
    |some []=>some (.sc (.slice none 0 0),h)
    |some ks=>if !(nodupS ks && ks.all fun s=>decide (s.size≤maxLen))||decide (1000000<ks.length)then none else some (.sl h.length 1 0 ks.length false,h++[.row ((sortS ks).map fun s=> .sc (.string s))])
    |none=>none
   |_=>none
  |_=>none)else none
 |_=>none
def reach (h:Hp):Nat→AV→List Nat
 |0,_=> []
 |n+1,.sl id _ _ _ _=>id::((rowOf h id).getD []).flatMap (reach h n)
 |n+1,.pt id _=>id::((rowOf h id).getD []).flatMap (reach h n)
 |n+1,.ag xs=>xs.flatMap (reach h n)
 |n+1,.tp xs=>xs.flatMap (reach h n)
 |n+1,.fn _ xs=>xs.flatMap (reach h n)
 |_,_=> []
def insA (sz bytes:Nat)(h:Hp):List AV→Option (AV × Hp)
 |
  [s,.sc (.int .i64 i),.sl vid sv 0 1 _]=>match h[vid]? with
  |
   some (.row vs)=>if sv=sz∧vs.length=sz∧0≤i then(match s with
   |
    .sl id s0 0 len false=>match h[id]? with
    |some (.row cs)=>if s0=sz∧id≠vid∧i.toNat≤len∧len*sz≤cs.length∧len+1≤1000000000000000∧(len+1)*bytes≤140737488355328 then
     some (.sl h.length sz 0 (len+1) false,h.set id .dead++[.row (cs.take (i.toNat*sz)++vs++(cs.take (len*sz)).drop (i.toNat*sz))])else none
    |_=>none
   | .ls s0 [] true=>if s0=sz∧i=0∧bytes≤140737488355328 then some (.sl h.length sz 0 1 false,h++[.row vs])else none
   | .sc (.slice none 0 0)=>if i=0∧bytes≤140737488355328 then some (.sl h.length sz 0 1 false,h++[.row vs])else none
   |_=>none)else none
  |_=>none
 |_=>none
noncomputable def sortQ (m:Nat)(cf:Nat→Nat→Int):List (Fin (m+1)):=(Sort.pdq (fun i j:Fin (m+1)=>decide (cf i.1 j.1<0)) (Array.ofFn fun i=>i) 0 (m+1) (Lib.bitLen (m+1)) true true).toList
noncomputable def sortP (m:Nat)(cf:Nat→Nat→Int):List (Fin (m+1)):=if m=0 then List.ofFn fun i=>i else if h:m=1 then(if cf 1 0<0 then[⟨1,by omega⟩,⟨0,by omega⟩]else[⟨0,by omega⟩,⟨1,by omega⟩])else sortQ m cf
def SWOn (m:Nat)(cf:Nat→Nat→Int):Prop:=Sort.SWO (fun i j:Fin (m+1)=>decide (cf i.1 j.1<0))
def rowAt (sz off:Nat)(cs:List AV)(i:Nat):List AV:=(cs.drop (off+i*sz)).take sz
def cfV (call:Cal)(g:FuncId)(ss:List AV)(i j:Nat):Int:=
 match call g [ss.getD i .ud,ss.getD j .ud] []with
 |some (.sc (.int .i64 c),_)=>c
 |_=>0
def CmpOK (call:Cal)(g:FuncId)(ss:List AV)(m:Nat):Prop:=
 (∀i j,i≤m→j≤m→∃h',call g [ss.getD i .ud,ss.getD j .ud] []=some (.sc (.int .i64 (cfV call g ss i j)),h'))∧SWOn m (cfV call g ss)
def szK (k:Nat):Nat:=if k=0 then 1 else k
def eltA (k:Nat)(cs:List AV):AV:=if k=0 then cs.headD .ud else .ag cs
def eltV (k:Nat)(vs:List Value):Value:=if k=0 then vs.headD undef else .agg vs.toArray
open Classical in
noncomputable def cmpB (call:Cal)(g:FuncId)(ss:List AV)(m:Nat):Bool:=
 if m=0 then(match call g [ss.getD 0 .ud,ss.getD 0 .ud] []with|some (.sc (.int .i64 c),_)=>decide (0≤c)|_=>false)
 else if m=1 then(match call g [ss.getD 0 .ud,ss.getD 0 .ud] [],call g [ss.getD 0 .ud,ss.getD 1 .ud] [],call g [ss.getD 1 .ud,ss.getD 0 .ud] [],call g [ss.getD 1 .ud,ss.getD 1 .ud] []with
  |some (.sc (.int .i64 a),_),some (.sc (.int .i64 b),_),some (.sc (.int .i64 c),_),some (.sc (.int .i64 d),_)=>decide (0≤a) && decide (0≤d) && !(decide (b<0) && decide (c<0))
  |_,_,_,_=>false)
 else decide (CmpOK call g ss m)
noncomputable def sfnA (call:Cal)(k:Nat)(h:Hp):List AV→Option (AV × Hp)
 | [.sc (.slice none 0 0),.fn _ []]=>some (.tp [],h)
 | [.ls _ [] _,.fn _ []]=>some (.tp [],h)
 |
  [.sl id s off len _,.fn g []]=>match h[id]?,len with
  |some (.row _),0=>some (.tp [],h)
  |some (.row cs),m+1=>if s=szK k∧off+(m+1)*s≤cs.length∧m+1<4611686018427387904 then
   (match(List.range (m+1)).mapM fun i=>snap (h.set id .dead) 8 (eltA k (rowAt s off cs i))with
   |some ss=>if cmpB call g ss m then some (.tp [],h.set id (.row (cs.take off++(sortP m (cfV call g ss)).flatMap (fun i=>rowAt s off cs i.1)++cs.drop (off+(m+1)*s))))else none
   |none=>none)else none
  |_,_=>none
 |_=>none
def ownA (C:Cx)(f:FuncId)(h:Hp)(xs:List AV):Option (AV × Hp):=
 match xs.mapM (snap h 8)with
 |
  some as=>match C.tab f as with
  |some (.ls 1 rows _)=>if rows.all (fun r=>match r with| [.sc v]=>flat v|_=>false) && !rows.isEmpty then some (.sl h.length 1 0 rows.length false,h++[.row rows.flatten])else none
  |some (.sc v)=>some (.sc v,h)
  |_=>none
 |none=>none
noncomputable def insX (C:Cx)(f:FuncId)(call:Cal)(sz bytes:Nat)(h:Hp)(xs:List AV):Option (AV × Hp):=if bytes=0 then sfnA call sz h xs else if bytes=1 then ownA C f h xs else insA sz bytes h xs
noncomputable def callN (C:Cx):Nat→Bool→Cal
 |0,_,_,_,_=>none
 |
  n+1,b,f,args,h=>
  match C.srt f with
  |some (g,_)=>if C.inl f then sortedA h g args else none
  |none=>
  if C.inl f then(match C.ins f with
   |some (sz,bytes)=>insX C f (callN C n false) sz bytes h args
   |
    none=>match(if args.all calm then C.tab f args else none)with
    |some r=>some (r,h)
    |
     none=>match C.F f with
     |some fi=>(match splitD C fi.body with|some _=>bodyD C (callN C n) f args h|none=>body1 C (callN C n) f args h)
     |none=>none)
  else
   match args.mapM (snap h 8)with
   |
    some as=>
    let r:=match C.tab f as with
     |some r=>some r
     |
      none=>match body1 C (callN C n) f as []with
      |some (r,h')=>(snap h' 8 r).map (C.nf f)
      |none=>none
    match r with
    |some r=>if args.all calm||scalarRes r then some (r,h)else if b && (args.mapM (snap (mask (args.flatMap (reach h 8)) h) 8)).isSome then(freeze (args.flatMap (reach h 8)) h).map fun h'=>(r,h')else none
    |none=>none
   |none=>none
def aggD :TypeDesc→Bool
 | .struct _| .array .. =>true
 |_=>false
def kdOf (P:Program)(d:TypeDesc):Option Kd:=
 match d with
 | .struct fs=>(fs.toList.mapM fun(f:Field)=>match P.info? f.type,P.underlying f.type with|some fi,some fd=>some (f.offset,fi.size,aggD fd)|_,_=>none).map .struct
 |
  .slice e=>match P.info? e,P.underlying e with
  |
   some ei,some ed=>match ei.zero with
   |some ez=>if ez.cells.toList.all flat && ez.cells.size==ei.size && ei.size !=0 then some (.slice ei.size (aggD ed) ei.bytes ez.cells.toList)else none
   |none=>none
  |_,_=>none
 |
  .array n e=>match P.info? e,P.underlying e with
  |some ei,some ed=>some (.array n ei.size (aggD ed))
  |_,_=>none
 |_=>some .prim
def tiOf (P:Program)(t:TypeId):Option Ti:=
 match P.underlying t,P.info? t with
 |
  some d,some i=>match i.zero,kdOf P d with
  |some z,some kd=>if z.cells.toList.all flat && z.cells.size==i.size then some {size:=i.size,agg:=aggD d,zero:=z.cells.toList,kd:=kd}else none
  |_,_=>none
 |_,_=>none
def fiOf (P:Program)(f:FuncId):Option Fi:=
 match P.funcs[f]? with
 |
  some fn=>match fn.body with
  |
   some c=>(fn.results.toList.mapM fun(r:ResultVar)=>match r with
   | .tmp t=>some (Rv.tmp t)
   | .cell a t=>match P.info? t,P.underlying t with|some i,some d=>some (Rv.cell a i.size (aggD d))|_,_=>none).map fun res=>{ntmps:=fn.ntmps,body:=c,res:=res}
  |none=>none
 |none=>none
end Go.Ae
