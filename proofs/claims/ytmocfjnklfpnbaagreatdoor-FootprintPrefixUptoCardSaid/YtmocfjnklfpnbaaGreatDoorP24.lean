/- Patterns as Lean types; hops, edges that can be made, zero expressions: the program's. -/
import Derived.Test.YtmocfjnklfpnbaaGreatDoorP23
import Derived.Test.YtmocfjnklfpnbaaGreatDoorP20
import Derived.Test.YtmocfjnklfpnbaaGreatDoorP21
set_option linter.all false
set_option maxRecDepth 100000
namespace Go.Proofs.YtmocfjnklfpnbaaGreatDoor
open Go Go.Ae
section
attribute [local simp] aop aopW coldF extF putA ofConst flat scalarOp fastOp binFast intOp strOp guardX Ae.part rowOf szOk natOf lenA cls fillA newsOf isNilC cellX
set_option maxHeartbeats 32000000
structure Pp where
 key:ByteArray
 e:Ep
def encPp (p:Pp):List AV:= .sc (.string p.key)::encX p.e
def ppR (l:List Pp):List (List AV):=l.map encPp
structure Np where
 var:ByteArray
 labels:List ByteArray
 props:List Pp
def encNp (n:Np):List AV:=[.sc (.string n.var),.ls 1 (tsR n.labels) false,.ls 10 (ppR n.props) false]
structure Gp where
 var:ByteArray
 types:List ByteArray
 dir:Int
 mode:Int
 mn:Int
 mx:Int
 props:List Pp
def encGp (x:Gp):List AV:=[.sc (.string x.var),.ls 1 (tsR x.types) false,.sc (.int .i64 x.dir),.sc (.int .i64 x.mode),.sc (.int .i64 x.mn),.sc (.int .i64 x.mx),.ls 10 (ppR x.props) false]
structure Tp where
 var:ByteArray
 nodes:List Np
 edges:List Gp
def npR (l:List Np):List (List AV):=l.map encNp
def gpR (l:List Gp):List (List AV):=l.map encGp
def encTp (p:Tp):List AV:=[.sc (.string p.var),.ls 3 (npR p.nodes) false,.ls 7 (gpR p.edges) false]
theorem ppR_length (l:List Pp):(ppR l).length=l.length:=by simp[ppR]
theorem ppR_get (l:List Pp)(i:Nat):(ppR l)[i]?=(l[i]?).map encPp:=by simp[ppR]
theorem npR_length (l:List Np):(npR l).length=l.length:=by simp[npR]
theorem npR_get (l:List Np)(i:Nat):(npR l)[i]?=(l[i]?).map encNp:=by simp[npR]
theorem gpR_length (l:List Gp):(gpR l).length=l.length:=by simp[gpR]
theorem gpR_get (l:List Gp)(i:Nat):(gpR l)[i]?=(l[i]?).map encGp:=by simp[gpR]
theorem encPp_length (p:Pp):(encPp p).length=10:=by unfold encPp;rw[List.length_cons,encX_length]
def hopC (dir mode mn mx:Int)(m:Nat):Bool:=
 if dir<1∨3<dir∨mode<0∨5<mode then false
 else if mode=0 then decide (mn=0) && decide (mx=0)
 else decide (0≤mn) && (decide (mn≤mx) && (decide (1≤mx) && (decide (mx≤6) && decide (m=0))))
def makeC (mode dir:Int)(m:Nat):Bool:=decide (mode=0) && (decide (m=1) && !decide (dir=3))
def zeroC (op:Int)(bl:Bool)(nm:ByteArray)(ds:Bool)(m:Nat):Bool:=decide (op=0) && (bl && (eqS nm ⟨#[]⟩ && (!ds && decide (m=0))))
theorem sy_hop (n:Nat)(b:Bool)(vr:ByteArray)(ty pr:List (List AV))(zt zp:Bool)(dir mode mn mx:Int)(h:Hp):callN cx (n+1) b 211 [.ag [.sc (.string vr),.ls 1 ty zt,.sc (.int .i64 dir),.sc (.int .i64 mode),.sc (.int .i64 mn),.sc (.int .i64 mx),.ls 10 pr zp]] h=some (.sc (.bool (hopC dir mode mn mx pr.length)),h):=by
 refine pure_calm (r:= .sc (.bool (hopC dir mode mn mx pr.length))) ⟨Tryz.f211.ntmps,(Tryz.f211.body).getD .skip,[.tmp 2]⟩ (by kernel_rfl) (by kernel_rfl) rfl (by kernel_rfl) (by simp[Tryz.f211]) rfl rfl ?_ b h;unfold hopC;generalize hq:pr.length=m;by_cases c1:dir<1
 ·simp[Tryz.f211,c1]
 by_cases c2:3<dir
 ·simp[Tryz.f211,c1,c2]
 by_cases c3:mode<0
 ·simp[Tryz.f211,c1,c2,c3]
 by_cases c4:5<mode
 ·simp[Tryz.f211,c1,c2,c3,c4]
 rw[if_neg (by omega)];by_cases c5:mode=0
 ·rw[if_pos c5];subst c5;by_cases d1:mn=0
  ·by_cases d2:mx=0<;>simp[Tryz.f211,c1,c2,d1,d2]
  ·simp[Tryz.f211,c1,c2,d1]
 rw[if_neg c5];by_cases d1:0≤mn
 ·by_cases d2:mn≤mx
  ·by_cases d3:1≤mx
   ·by_cases d4:mx≤6
    ·by_cases d5:m=0
     ·have d5':(m:Int)=0:=by omega
      simp[Tryz.f211,hq,c1,c2,c3,c4,c5,d1,d2,d3,d4,d5,d5']
     ·have d5':¬(m:Int)=0:=by omega
      simp[Tryz.f211,hq,c1,c2,c3,c4,c5,d1,d2,d3,d4,d5,d5']
    ·simp[Tryz.f211,c1,c2,c3,c4,c5,d1,d2,d3,d4]
   ·simp[Tryz.f211,c1,c2,c3,c4,c5,d1,d2,d3]
  ·simp[Tryz.f211,c1,c2,c3,c4,c5,d1,d2]
 ·simp[Tryz.f211,c1,c2,c3,c4,c5,d1]
theorem sy_creatable (n:Nat)(b:Bool)(vr:ByteArray)(ty pr:List (List AV))(zt zp:Bool)(dir mode mn mx:Int)(h:Hp):callN cx (n+1) b 218 [.ag [.sc (.string vr),.ls 1 ty zt,.sc (.int .i64 dir),.sc (.int .i64 mode),.sc (.int .i64 mn),.sc (.int .i64 mx),.ls 10 pr zp]] h=some (.sc (.bool (makeC mode dir ty.length)),h):=by
 refine pure_calm (r:= .sc (.bool (makeC mode dir ty.length))) ⟨Tryz.f218.ntmps,(Tryz.f218.body).getD .skip,[.tmp 2]⟩ (by kernel_rfl) (by kernel_rfl) rfl (by kernel_rfl) (by simp[Tryz.f218]) rfl rfl ?_ b h;unfold makeC;generalize hq:ty.length=m;by_cases c1:mode=0
 ·subst c1;by_cases c2:m=1
  ·have c2':(m:Int)=1:=by omega
   by_cases c3:dir=3<;>simp[Tryz.f218,hq,c2,c2',c3]
  ·have c2':¬(m:Int)=1:=by omega
   simp[Tryz.f218,hq,c2,c2']
 ·simp[Tryz.f218,c1]
theorem sy_path1 (n:Nat)(b:Bool)(x:Gp)(h:Hp):callN cx (n+2) b 210 [.ag (encGp x)] h=some (.sc (.bool (!(hopC x.dir x.mode x.mn x.mx x.props.length))),h):=by
 refine pure_calm (n:=n+1) (r:= .sc (.bool (!(hopC x.dir x.mode x.mn x.mx x.props.length)))) ⟨Tryz.f210.ntmps,(Tryz.f210.body).getD .skip,[.tmp 2]⟩ (by kernel_rfl) (by kernel_rfl) rfl (by kernel_rfl) (by simp[Tryz.f210]) rfl rfl ?_ b h;have f1:=fun b h=>sy_hop n b x.var (tsR x.types) (ppR x.props) false false x.dir x.mode x.mn x.mx h
 rw[ppR_length]at f1;generalize hopC x.dir x.mode x.mn x.mx x.props.length=w at f1⊢;unfold encGp;generalize n+1=M at f1⊢;cases w<;>simp[Tryz.f210,f1]
theorem sy_path2 (n:Nat)(b:Bool)(x:Gp)(h:Hp):callN cx (n+2) b 217 [.ag (encGp x)] h=some (.sc (.bool (!(makeC x.mode x.dir x.types.length))),h):=by
 refine pure_calm (n:=n+1) (r:= .sc (.bool (!(makeC x.mode x.dir x.types.length)))) ⟨Tryz.f217.ntmps,(Tryz.f217.body).getD .skip,[.tmp 2]⟩ (by kernel_rfl) (by kernel_rfl) rfl (by kernel_rfl) (by simp[Tryz.f217]) rfl rfl ?_ b h;have f1:=fun b h=>sy_creatable n b x.var (tsR x.types) (ppR x.props) false false x.dir x.mode x.mn x.mx h
 rw[tsR_length]at f1;generalize makeC x.mode x.dir x.types.length=w at f1⊢;unfold encGp;generalize n+1=M at f1⊢;cases w<;>simp[Tryz.f217,f1]
theorem sy_zero (n:Nat)(b:Bool)(op k n' d:Int)(s:ByteArray)(r q:List (List AV))(z z':Bool)(nm:ByteArray)(ds:Bool)(h:Hp):callN cx (n+2) b 205 [.ag [.sc (.int .i64 op),.sc (.int .i64 k),.sc (.int .i64 n'),.sc (.int .i64 d),.sc (.string s),.ls 5 r z,.sc (.string nm),.sc (.bool ds),.ls 9 q z']] h=some (.sc (.bool (zeroC op (blankC k n' d s r.length) nm ds q.length)),h):=by
 refine pure_calm (n:=n+1) (r:= .sc (.bool (zeroC op (blankC k n' d s r.length) nm ds q.length))) ⟨Tryz.f205.ntmps,(Tryz.f205.body).getD .skip,[.tmp 2]⟩ (by kernel_rfl) (by kernel_rfl) rfl (by kernel_rfl) (by simp[Tryz.f205]) rfl rfl ?_ b h;have fb:=fun b h=>sy_blank n b k n' d s r z h
 generalize n+1=M at fb⊢;generalize blankC k n' d s r.length=bl at fb⊢;unfold zeroC;generalize hq:q.length=m;by_cases c1:op=0
 ·subst c1;cases bl
  ·simp[Tryz.f205,fb]
  cases he:eqS nm ⟨#[]⟩
  ·simp[Tryz.f205,fb,he]
  cases ds
  ·by_cases c2:m=0
   ·have c2':(m:Int)=0:=by omega
    simp[Tryz.f205,hq,fb,he,c2,c2']
   ·have c2':¬(m:Int)=0:=by omega
    simp[Tryz.f205,hq,fb,he,c2,c2']
  ·simp[Tryz.f205,fb,he]
 ·simp[Tryz.f205,c1]
theorem sy_absent (n:Nat)(b:Bool)(m:Int)(h:Hp):callN cx (n+1) b 206 [.sc (.int .i64 m)] h=some (.sc (.bool (decide (m=0)||decide (m= -1))),h):=by
 refine pure_calm (r:= .sc (.bool (decide (m=0)||decide (m= -1)))) ⟨Tryz.f206.ntmps,(Tryz.f206.body).getD .skip,[.tmp 2]⟩ (by kernel_rfl) (by kernel_rfl) rfl (by kernel_rfl) (by simp[Tryz.f206]) rfl rfl ?_ b h;by_cases c1:m=0
 ·simp[Tryz.f206,c1]
 ·by_cases c2:m= -1<;>simp[Tryz.f206,c1,c2]
def ixS (p:ByteArray→Bool):List ByteArray→Int→Int
 | [],_=> -1
 |r::l,i=>if p r=true then i else ixS p l (i+1)
theorem ixS_step {p:ByteArray→Bool}{l:List ByteArray}{i:Nat}{r:ByteArray}(h:l[i]?=some r):ixS p (l.drop i) (i:Nat)=if p r=true then(i:Int)else ixS p (l.drop (i+1)) ((i+1:Nat):Int):=by
 obtain⟨k,e⟩:=Za.1 h;rw[Zm k,e,ixS];rfl
theorem ixS_any (p:ByteArray→Bool):∀(l:List ByteArray) (i:Int),0≤i→decide (0≤ixS p l i)=l.any p
 | [],i,h=>by simp[ixS]
 |
  r::l,i,h=>by
  rw[ixS,List.any_cons];cases hp:p r with
  |true=>simp[h]
  |false=>simp[ixS_any p l (i+1) (by omega)]
theorem ix_Strs (n:Nat)(b:Bool)(g:FuncId)(l:List ByteArray)(p:ByteArray→Bool)(z:Bool)(h:Hp)(hl:l.length≤1000000000000000)(hc:∀r b h,callN cx n b g [.sc (.string r)] h=some (.sc (.bool (p r)),h))(hx:¬(g=267∨g=269):=by decide):callN cx (n+1) b 117 [.ls 1 (tsR l) z,.fn g []] h=some (.sc (.int .i64 (ixS p l 0)),h):=by
 refine pure_calm (n:=n) (r:= .sc (.int .i64 (ixS p l 0))) ⟨Tryz.f117.ntmps,(Tryz.f117.body).getD .skip,[.tmp 4]⟩ (by kernel_rfl) (by kernel_rfl) rfl (by kernel_rfl) (by simp[Tryz.f117]) rfl rfl ?_ b h;have hq:=tsR_length l;have hg:=tsR_get l;generalize tsR l=rows at hq hg;generalize hT:ixS p l 0=T;simp[Tryz.f117,hq];refine loop_up (C:=cx) (G:=fun r=>∃h',finX _ (thenX _ _ (blockX _ r) _)=some (_,h'))
  (fun i s=>ixS p (l.drop i) (i:Nat)=T∧s.1.length=19∧gt s.1 0= .ls 1 rows z∧gt s.1 1= .fn g []∧gt s.1 7= .sc (.int .i64 (l.length:Nat))∧gt s.1 8= .sc (.int .i64 (i:Nat)))
  (fun o s=>s.1.length=19∧((o= .exit 0∧T= -1)∨(o= .ret∧gt s.1 4= .sc (.int .i64 T)))) l.length (by simp;omega) ⟨hT,rfl,rfl,rfl,rfl,rfl⟩ ?_ ?_
 ·rintro i fr hp hle ⟨hT,hlen,h0,h1,h7,h8⟩;simp only at hlen h0 h1 h7 h8;by_cases hi:i<l.length
  ·obtain⟨r,hx1⟩:∃p,l[i]?=some p:=⟨_,Zb hi⟩;have hr:rows[i]?=some [.sc (.string r)]:=by rw[hg,hx1];rfl
   have hr':∀k,rows[i]'k=[.sc (.string r)]:=fun k=>by obtain⟨_,e⟩:=Za.1 hr;exact e
   have hcx:=fun b h=>hc r b h
   have hf:=fit_succ (Yj hle hl);rw[ixS_step hx1]at hT;generalize p r=w at hcx hT;cases w with
   |
    true=>
    rw[if_pos rfl]at hT;subst hT;simp[hlen,h0,h1,h7,h8,hi,hq,hr,hr',hcx,hx]
   |
    false=>
    rw[if_neg (by simp)]at hT;simp[hlen,h0,h1,h7,h8,hi,hq,hr,hr',hcx,hf,hx];exact hT
  ·have hil:i=l.length:=Yc hle (Yb hi);subst hil;rw[Yd,ixS]at hT;subst hT;simp[hlen,h0,h1,h7,h8]
 ·rintro o fr h hn ⟨hlen,⟨rfl,hz⟩|⟨rfl,h2⟩⟩
  ·simp only at hlen;simp[hlen,hz]
  ·simp only at hlen h2;simp[hlen,h2]
theorem ct_Strs (n:Nat)(b:Bool)(g:FuncId)(l:List ByteArray)(p:ByteArray→Bool)(z:Bool)(h:Hp)(hl:l.length≤1000000000000000)(hc:∀r b h,callN cx n b g [.sc (.string r)] h=some (.sc (.bool (p r)),h))(hx:¬(g=267∨g=269):=by decide):callN cx (n+2) b 60 [.ls 1 (tsR l) z,.fn g []] h=some (.sc (.bool (l.any p)),h):=by
 refine pure_calm (n:=n+1) (r:= .sc (.bool (l.any p))) ⟨Tryz.f60.ntmps,(Tryz.f60.body).getD .skip,[.tmp 4]⟩ (by kernel_rfl) (by kernel_rfl) rfl (by kernel_rfl) (by simp[Tryz.f60]) rfl rfl ?_ b h;have f1:=fun b h=>ix_Strs n b g l p z h hl hc hx
 rw[←ixS_any p l 0 (by omega)];generalize ixS p l 0=T at f1⊢;generalize n+1=M at f1⊢;by_cases hT:0≤T<;>simp[Tryz.f60,f1,hT]
theorem sy_words1 (n:Nat)(b:Bool)(x:ByteArray)(h:Hp):callN cx (n+4) b 274 [.sc (.string x)] h=some (.sc (.bool (!wordS x)),h):=by
 refine pure_calm (n:=n+3) (r:= .sc (.bool (!wordS x))) ⟨Tryz.f274.ntmps,(Tryz.f274.body).getD .skip,[.tmp 2]⟩ (by kernel_rfl) (by kernel_rfl) rfl (by kernel_rfl) (by simp[Tryz.f274]) rfl rfl ?_ b h;have f1:=fun b h=>sy_word n b x h
 generalize wordS x=w at f1⊢;generalize n+3=M at f1⊢;cases w<;>simp[Tryz.f274,f1]
theorem sy_words (n:Nat)(b:Bool)(l:List ByteArray)(z:Bool)(h:Hp)(hl:l.length≤1000000000000000):callN cx (n+7) b 214 [.ls 1 (tsR l) z] h=some (.sc (.bool (!(l.any fun x=> !wordS x))),h):=by
 refine pure_calm (n:=n+6) (r:= .sc (.bool (!(l.any fun x=> !wordS x)))) ⟨Tryz.f214.ntmps,(Tryz.f214.body).getD .skip,[.tmp 2]⟩ (by kernel_rfl) (by kernel_rfl) rfl (by kernel_rfl) (by simp[Tryz.f214]) rfl rfl ?_ b h;have f1:=fun b h=>ct_Strs (n+4) b 274 l (fun x=> !wordS x) z h hl (fun r b h=>sy_words1 n b r h)
 generalize(l.any fun x=> !wordS x)=w at f1⊢;rw[show n+4+2=n+6 by omega]at f1;generalize n+6=M at f1⊢;generalize tsR l=rows at f1⊢;cases w<;>simp[Tryz.f214,f1]
theorem sy_rises (n:Nat)(b:Bool)(l:List ByteArray)(z:Bool)(h:Hp)(hl:l.length≤1000000000000000):callN cx (n+1) b 216 [tsV l z] h=some (.sc (.bool (risesL l)),h):=by
 refine pure_calm (r:= .sc (.bool (risesL l))) ⟨Tryz.f216.ntmps,(Tryz.f216.body).getD .skip,[.tmp 2]⟩ (by kernel_rfl) (by kernel_rfl) rfl (by kernel_rfl) (by simp[Tryz.f216]) rfl rfl ?_ b h;have hq:=tsR_length l;have hg:=tsR_get l;unfold tsV;generalize tsR l=rows at hq hg;simp[Tryz.f216];refine loop_up (C:=cx) (G:=fun r=>∃h',finX _ (thenX _ _ (blockX _ r) _)=some (_,h'))
  (fun j s=>risesL l=risesD l j∧(j+1≤l.length∨j=0)∧s.1.length=20∧gt s.1 0= .ls 1 rows z∧gt s.1 3= .sc (.int .i64 (j+1:Nat)))
  (fun o s=>s.1.length=20∧((o= .exit 0∧risesL l=true)∨(o= .ret∧risesL l=false∧gt s.1 2= .sc (.bool false)))) l.length (by simp;omega) (by simp[risesD]) ?_ ?_
 ·rintro j fr h hle ⟨ho,hj,hlen,h0,h3⟩;simp only at hlen h0 h3;by_cases hi:j+1<l.length
  ·obtain⟨x,hx⟩:∃c,l[j]?=some c:=⟨_,Zb (by omega)⟩;obtain⟨y,hy⟩:∃c,l[j+1]?=some c:=⟨_,Zb hi⟩;have hr:rows[j]?=some [.sc (.string x)]:=by rw[hg,hx];rfl
   have hr2:rows[j+1]?=some [.sc (.string y)]:=by rw[hg,hy];rfl
   have hr':∀k,rows[j]'k=[.sc (.string x)]:=fun k=>by obtain⟨_,e⟩:=Za.1 hr;exact e
   have hr2':∀k,rows[j+1]'k=[.sc (.string y)]:=fun k=>by obtain⟨_,e⟩:=Za.1 hr2;exact e
   rw[risesD_step hx hy]at ho;have hle:=le_lt x y;have hf:fitI .i64 (((j+1:Nat):Int)+1)=((j+1+1:Nat):Int):=fit_i64 (by omega) (by omega);have hf0:fitI .i64 (((j+1:Nat):Int)-1)=((j:Nat):Int):=by rw[fit_i64 (by omega) (by omega)];omega
   generalize hjj:((j+1:Nat):Int)=J at h3 hf hf0;have hJ1:J.toNat=j+1:=by omega
   have hJ0:0≤J:=by omega
   have hJl:J< (l.length:Int):=by omega
   cases hlt:ltS x y
   ·have zz:risesL l=false:=by rw[ho,hlt];rfl
    clear ho;rw[hlt]at hle;simp[hlen,h0,h3,hJ1,hJ0,hJl,hq,hr,hr',hr2,hr2',hf0,hle,hlt,zz]
   ·have zz:risesL l=risesD l (j+1):=by rw[ho,hlt];rfl
    clear ho;rw[hlt]at hle;simp[hlen,h0,h3,hJ1,hJ0,hJl,hq,hr,hr',hr2,hr2',hf0,hle,hlt,hf];exact⟨by omega,zz,by omega⟩
  ·have zz:risesL l=true:=by rw[ho,risesD_end l j (by omega)]
   have hJl:¬((j+1:Nat):Int)< (l.length:Int):=by omega
   generalize((j+1:Nat):Int)=J at h3 hJl;simp[hlen,h0,h3,hJl,hq,zz]
 ·rintro o fr h hn ⟨hlen,⟨rfl,hz⟩|⟨rfl,hz,h2⟩⟩
  ·simp only at hlen;simp[hlen,hz]
  ·simp only at h2;simp[h2,hz]
def keysP (l:List Pp):List ByteArray:=l.map (·.key)
theorem keysP_take {l:List Pp}{i:Nat}{x:Pp}(h:l[i]?=some x):keysP (l.take (i+1))=keysP (l.take i)++[x.key]:=by
 unfold keysP;rw[List.take_add_one,h];simp
theorem tsR_snoc (l:List ByteArray)(x:ByteArray):tsR (l++[x])=tsR l++[[.sc (.string x)]]:=by simp[tsR]
theorem spX10 {ev:List AV}(h:ev.length=10)(a b c d e f g i j k:AV):splice [a,b,c,d,e,f,g,i,j,k] 0 ev=ev:=by
 unfold splice;rw[List.take_zero,Zw,Nat.zero_add,h];simp
theorem spl1 (a x:AV):splice [a] 0 [x]=[x]:=rfl
theorem sy_keys (n:Nat)(b:Bool)(l:List Pp)(z:Bool)(h:Hp)(hl:l.length≤1000000000):callN cx (n+1) b 215 [.ls 10 (ppR l) z] h=some (.ls 1 (tsR (keysP l)) false,h):=by
 refine kx_call (f:=215) (n:=n) (args:=[.ls 10 (ppR l) z]) (.ls 1 (tsR (keysP l)) false) ⟨Tryz.f215.ntmps,(Tryz.f215.body).getD .skip,[.tmp 2]⟩ (by kernel_rfl) (by kernel_rfl) rfl (by kernel_rfl) (by simp[Tryz.f215]) rfl ?_ (by decide) b h;have hkx:kx 215=1:=by decide
 rw[hkx];have hq:=ppR_length l;have hg:=ppR_get l;generalize ppR l=rows at hq hg;simp[Tryz.f215,hq];refine loop_up (C:=cx) (G:=fun r=>∃r0 h',finX _ (thenX _ _ (blockX _ r) _)=some (r0,h')∧∃r',Ae.snap h' 8 r0=some r'∧nfX 1 r'= .ls 1 (tsR (keysP l)) false)
  (fun i s=>i≤l.length∧s.1.length=19∧gt s.1 6= .ls 10 rows z∧gt s.1 7= .sc (.int .i64 (l.length:Nat))∧gt s.1 8= .sc (.int .i64 (i:Nat))∧∃y,gt s.1 3=y∧Bld s.2 1 (tsR (keysP (l.take i))) y)
  (fun o s=>o= .exit 0∧s.1.length=19∧∃y,gt s.1 3=y∧Bld s.2 1 (tsR (keysP l)) y) l.length (by simp;omega) ⟨by omega,rfl,rfl,rfl,rfl,_,rfl,.inl ⟨rfl,rfl⟩⟩ ?_ ?_
 ·rintro i fr hp _ ⟨hi0,hlen,h6,h7,h8,y,h3,hy⟩;simp only at hlen h6 h7 h8 h3 hy;by_cases hi:i<l.length
  ·obtain⟨x,hx⟩:∃p,l[i]?=some p:=⟨_,Zb hi⟩;have hr:rows[i]?=some (encPp x):=by rw[hg,hx];rfl
   have hr':∀k,rows[i]'k=encPp x:=fun k=>by obtain⟨_,e⟩:=Za.1 hr;exact e
   have hst:=keysP_take hx;have hev:=encPp_length x;have hf:fitI .i64 ((i:Int)+1)=((i+1:Nat):Int):=fit_i64 (by omega) (by omega);have q3:=fun(ops:Array Oper) (d:Tmp) (rest:List Oper) (fr:List AV) (h:Hp)=>opP_np (C:=cx) (cal:=callN cx n true) (ops:=ops) (fun v=>hy.np v) d rest fr h
   have hkl:(keysP (l.take i)).length≤1000000000:=by unfold keysP;simp;omega
   have hy2:Bld (hp++[.row (encPp x)]) 1 (tsR (keysP (l.take i))) y:=by
    rcases hy with hx|⟨hne,id,e,hid⟩
    ·exact .inl hx
    ·refine .inr ⟨hne,id,e,?_⟩;rw[Zd (Za.1 hid).1];exact hid
   obtain⟨id',h4,b1,b2,b3,b4⟩:=bld_app' (t:=47) T___string rfl (hp++[.row (encPp x)]) [.sc (.string x.key)] (tsR (keysP (l.take i))) y hy2 rfl (fun r hr=>(tsR_all _).1 r hr) (by omega) (by rw[tsR_length];exact hkl) (by omega);rw[tsR_length]at b1;simp only[Zp,Zv,Zw,Zu,List.length_cons,List.length_nil,Nat.zero_add]at b1;have hk:encPp x= .sc (.string x.key)::encX x.e:=rfl;have hev1:=encX_length x.e;rw[hk]at hr hr' hev b1;generalize encX x.e=ev at hr hr' hev b1 hev1;have hsp:=spX10 hev;have hev9:ev.take 9=ev:=List.take_of_length_le (by omega);generalize keysP (l.take i)=F at b1 b2 hst;simp[hlen,h6,h7,h8,h3,q3,hi,hq,hr,hr',hev1,hev9,hsp,spl1,b1,hf];refine⟨by omega,?_⟩;rw[hst,tsR_snoc];exact .inr ⟨by simp,id',by simp[tsR_length],by rw[b2]⟩
  ·have hil:i=l.length:=Yc hi0 (Yb hi);subst hil;rw[List.take_length]at hy;simp[hlen,h6,h7,h8];rw[h3];exact hy
 ·rintro o fr hp hn ⟨rfl,hlen,y,h3,hy⟩;simp only at hlen h3 hy;have hsn:=bld_snap (n:=7) (by omega) (tsR_all _).1 (tsR_all _).2 hy;have q3:=fun(ops:Array Oper) (d:Tmp) (rest:List Oper) (fr:List AV) (h:Hp)=>opP_np (C:=cx) (cal:=callN cx n true) (ops:=ops) (fun v=>hy.np v) d rest fr h
  simp[hlen,h3,q3];exact⟨_,_,⟨rfl,rfl⟩,_,hsn,nfS_bld _ _⟩
def hopW (mode mx:Int):Int:=if mode=0 then 1 else if mx<0 then 0 else if 13<mx then 13 else mx
theorem hopW_le (a b:Int):0≤hopW a b∧hopW a b≤13:=by unfold hopW;split<;>(try split)<;>(try split)<;>omega
def hopsT :List Gp→Int→Int
 | [],c=>c
 |x::r,c=>hopsT r (c+hopW x.mode x.mx)
theorem hopsT_step {l:List Gp}{i:Nat}{x:Gp}(c:Int)(h:l[i]?=some x):hopsT (l.drop i) c=hopsT (l.drop (i+1)) (c+hopW x.mode x.mx):=by
 obtain⟨hi,e⟩:=Za.1 h;rw[Zm hi,e,hopsT]
def longT (p:Tp):Bool:=decide (p.nodes.length=0)||(decide (6<p.edges.length)||decide (12<hopsT p.edges 0))
theorem spX7 {ev:List AV}(h:ev.length=7)(a b c d e f g:AV):splice [a,b,c,d,e,f,g] 0 ev=ev:=by
 unfold splice;rw[List.take_zero,Zw,Nat.zero_add,h];simp
theorem sy_long (n:Nat)(b:Bool)(p:Tp)(h:Hp):callN cx (n+1) b 208 [.ag (encTp p)] h=some (.sc (.bool (longT p)),h):=by
 refine pure_calm (r:= .sc (.bool (longT p))) ⟨Tryz.f208.ntmps,(Tryz.f208.body).getD .skip,[.tmp 2]⟩ (by kernel_rfl) (by kernel_rfl) rfl (by kernel_rfl) (by simp[Tryz.f208]) rfl rfl ?_ b h;obtain⟨vr,ns,es⟩:=p;unfold encTp longT;simp only;have hqn:=npR_length ns;generalize npR ns=nr at hqn;have hq:=gpR_length es;have hg:=gpR_get es;generalize gpR es=rows at hq hg;by_cases c1:ns.length=0
 ·have c1':(ns.length:Int)=0:=by omega
  simp[Tryz.f208,hqn,c1,c1']
 have c1':¬(ns.length:Int)=0:=by omega
 by_cases c2:6<es.length
 ·have c2':(6:Int)<es.length:=by omega
  simp[Tryz.f208,hqn,hq,c1,c1',c2,c2']
 have c2':¬(6:Int)<es.length:=by omega
 generalize hT:hopsT es 0=T;simp[Tryz.f208,hqn,hq,c1,c1',c2,c2'];refine loop_up (C:=cx) (G:=fun r=>∃h',finX _ (thenX _ _ (blockX _ r) _)=some (_,h'))
  (fun i st=>∃c:Int,(0≤c∧c≤13*i)∧hopsT (es.drop i) c=T∧st.1.length=37∧gt st.1 3= .sc (.int .i64 c)∧gt st.1 17= .ls 7 rows false∧gt st.1 18= .sc (.int .i64 (es.length:Nat))∧gt st.1 19= .sc (.int .i64 (i:Nat)))
  (fun o s=>o= .exit 0∧s.1.length=37∧gt s.1 3= .sc (.int .i64 T)) es.length (by simp;omega) ⟨0,by omega,hT,rfl,rfl,rfl,rfl,rfl⟩ ?_ ?_
 ·rintro i fr hp hle ⟨c,hc,hT,hlen,h3,h17,h18,h19⟩;simp only at hlen h3 h17 h18 h19;by_cases hi:i<es.length
  ·obtain⟨x,hx⟩:∃x,es[i]?=some x:=⟨_,Zb hi⟩;have hr:rows[i]?=some (encGp x):=by rw[hg,hx];rfl
   have hr':∀k,rows[i]'k=encGp x:=fun k=>by obtain⟨_,e⟩:=Za.1 hr;exact e
   have hst:=hopsT_step c hx;rw[hT]at hst;have hw:=hopW_le x.mode x.mx;have hcb:0≤c+hopW x.mode x.mx∧c+hopW x.mode x.mx≤13*((i+1:Nat):Int):=by omega
   have hcw:fitI .i64 (c+hopW x.mode x.mx)=c+hopW x.mode x.mx:=fit_i64 (by omega) (by omega);have hf:fitI .i64 ((i:Int)+1)=((i+1:Nat):Int):=fit_i64 (by omega) (by omega);unfold encGp at hr hr';by_cases d1:x.mode=0
   ·have e:hopW x.mode x.mx=1:=by unfold hopW;rw[if_pos d1]
    rw[e]at hst hcw hcb;simp[hlen,h3,h17,h18,h19,hi,hq,hr,hr',spX7,d1,hf,hcw];refine⟨?_,hst.symm⟩;clear hf hcw;omega
   by_cases d2:x.mx<0
   ·have e:hopW x.mode x.mx=0:=by unfold hopW;rw[if_neg d1,if_pos d2]
    rw[e,Int.add_zero]at hst hcw hcb;simp[hlen,h3,h17,h18,h19,hi,hq,hr,hr',spX7,d1,d2,hf,hcw];refine⟨?_,hst.symm⟩;clear hf hcw;omega
   by_cases d3:13<x.mx
   ·have e:hopW x.mode x.mx=13:=by unfold hopW;rw[if_neg d1,if_neg d2,if_pos d3]
    rw[e]at hst hcw hcb;simp[hlen,h3,h17,h18,h19,hi,hq,hr,hr',spX7,d1,d2,d3,hf,hcw];refine⟨?_,hst.symm⟩;clear hf hcw;omega
   ·have e:hopW x.mode x.mx=x.mx:=by unfold hopW;rw[if_neg d1,if_neg d2,if_neg d3]
    rw[e]at hst hcw hcb;simp[hlen,h3,h17,h18,h19,hi,hq,hr,hr',spX7,d1,d2,d3,hf,hcw];refine⟨?_,hst.symm⟩;clear hf hcw;omega
  ·have hil:i=es.length:=Yc hle (Yb hi);subst hil;rw[Yd,hopsT]at hT;subst hT;simp[hlen,h3,h17,h18,h19]
 ·rintro o fr hp hn ⟨rfl,hlen,h3⟩;simp only at hlen h3;by_cases d:12<T<;>simp[hlen,h3,d]
def zeX :Ep→Bool
 | .mk op (.mk k n d s _ l) nm ds ks=>zeroC op (blankC k n d s l.length) nm ds ks.length
theorem sy_zeroE (n D:Nat)(b:Bool)(e:Ep)(h:Hp)(be:bdX D e):callN cx (n+2) b 205 [.ag (encX e)] h=some (.sc (.bool (zeX e)),h):=by
 obtain⟨op,v,nm,ds,ks⟩:=e;obtain⟨k,n',d,s,l,rfl,_,_⟩:=gdX be;rw[encX_gd rfl,zeX];have f:=sy_zero n b op k n' d s (encL l) (encXs ks) false false nm ds h;rw[encL_length,encXs_length]at f;exact f
structure Sp where
 var:ByteArray
 key:ByteArray
 label:ByteArray
 off:Bool
 e:Ep
def encSp (x:Sp):List AV:= .sc (.string x.var):: .sc (.string x.key):: .sc (.string x.label):: .sc (.bool x.off)::encX x.e
def setC (lz kz off ez w1 w2 w3:Bool)(c:Int):Int:=
 if !lz && (!kz|| !ez)then 1 else if lz && off then 1 else if !w1 then 6 else if !lz && !w2 then 6 else if lz && !w3 then 6 else if lz then c else 0
def setE (x:Sp):Int:=setC (eqS x.label ⟨#[]⟩) (eqS x.key ⟨#[]⟩) x.off (zeX x.e) (wordS x.var) (wordS x.label) (wordS x.key) (chkX x.e)
theorem sy_checkSet (N D d:Nat)(b:Bool)(x:Sp)(h:Hp)(de:depX x.e≤d)(be:bdX D x.e):callN cx (N+2*D+10+d) b 141 [.ag (encSp x)] h=some (.sc (.int .i64 (setE x)),h):=by
 obtain⟨vr,ky,lb,off,e⟩:=x;simp only at de be;have fz:=fun b h=>sy_zeroE (N+2*D+7+d) D b e h be
 have f1:=fun b h=>sy_word (N+2*D+6+d) b vr h
 have f2:=fun b h=>sy_word (N+2*D+6+d) b lb h
 have f3:=fun b h=>sy_word (N+2*D+6+d) b ky h
 have fc:=fun b h=>sy_CheckExpr N D d b e h de be
 rw[show N+2*D+10+d=N+2*D+9+d+1 by omega];rw[show N+2*D+7+d+2=N+2*D+9+d by omega]at fz;rw[show N+2*D+6+d+3=N+2*D+9+d by omega]at f1 f2 f3;have hcalm:[AV.ag (encSp ⟨vr,ky,lb,off,e⟩)].all calm=true:=by
  have h0:=calm_encX e;simp[encSp,calm]at h0⊢;exact h0
 refine pure_calm (n:=N+2*D+9+d) (r:= .sc (.int .i64 (setE ⟨vr,ky,lb,off,e⟩))) ⟨Tryz.f141.ntmps,(Tryz.f141.body).getD .skip,[.tmp 2]⟩ (by kernel_rfl) (by kernel_rfl) rfl (by kernel_rfl) (by simp[Tryz.f141]) hcalm rfl ?_ b h;unfold setE encSp;simp only;generalize N+2*D+9+d=M at fz f1 f2 f3 fc⊢;have hev:=encX_length e;generalize encX e=ev at fz fc hev⊢;have hev9:ev.take 9=ev:=List.take_of_length_le (by omega);generalize wordS vr=w1 at f1⊢;generalize wordS lb=w2 at f2⊢;generalize wordS ky=w3 at f3⊢;generalize zeX e=ez at fz⊢;generalize chkX e=c at fc⊢;unfold setC;cases hl:eqS lb ⟨#[]⟩
 ·cases hk:eqS ky ⟨#[]⟩
  ·simp[Tryz.f141,hev,hev9,hl,hk]
  ·cases ez
   ·simp[Tryz.f141,hev,hev9,hl,hk,fz]
   ·cases w1
    ·simp[Tryz.f141,hev,hev9,hl,hk,fz,f1]
    ·cases w2<;>simp[Tryz.f141,hev,hev9,hl,hk,fz,f1,f2]
 ·cases off
  ·cases w1
   ·simp[Tryz.f141,hev,hev9,hl,f1]
   ·cases w3<;>simp[Tryz.f141,hev,hev9,hl,f1,f3,fc]
  ·simp[Tryz.f141,hev,hev9,hl]
end
end Go.Proofs.YtmocfjnklfpnbaaGreatDoor
