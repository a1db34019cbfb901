/- The program's look-ups in a graph: properties. -/
import Derived.Test.YtadaeokidcgdlaaGreatDoorP38
import Derived.Test.YtadaeokidcgdlaaGreatDoorP32
set_option linter.unusedSimpArgs false
set_option maxRecDepth 100000
set_option linter.unusedVariables false
namespace Go.Proofs.YtadaeokidcgdlaaGreatDoor
open Go Go.Ae
section
attribute [local simp] aop aopW coldF extF putA ofConst flat scalarOp fastOp binFast intOp strOp guardX Ae.part rowOf szOk natOf lenA cls fillA newsOf isNilC cellX
set_option maxHeartbeats 16000000
def evC (z:Bool):AV:=if z then .sc (.slice none 0 0)else .ls 5 [] true
noncomputable def slowN (u:AV):Option AV:=slowOp cx (fun o=>match o with| .tmp _=>u|_=> .sc (.slice none 0 0)) {dst:=none,op:= .binOp .eql 36 (.tmp 0) (.const (.slice none 0 0)) 36,type:=0,pos:= "",after:= #[],guard:=none}
theorem slowN_of (fr:List AV)(d:Option Tmp)(x:Tmp)(ty:TypeId)(p:String)(a:Array Edge)(g:Option (Nat × Bool)):slowOp cx (ev cx fr) {dst:=d,op:= .binOp .eql 36 (.tmp x) (.const (.slice none 0 0)) 36,type:=ty,pos:=p,after:=a,guard:=g}=slowN (gt fr x):=rfl
theorem slowN_eq :slowN (.sc (.slice none 0 0))=some (.sc (.bool true)):=by kernel_rfl
theorem cln_Value (n:Nat)(b z:Bool)(h:Hp):callN cx (n+1) b 210 [evL z []] h=some (evC z,h):=by
 have e1:cx.srt 210=none:=by kernel_rfl
 have e2:cx.inl 210=true:=by kernel_rfl
 have e3:cx.ins 210=none:=by kernel_rfl
 cases z with
 |
  false=>
  have e4:(if[evL false []].all calm then cx.tab 210 [evL false []]else none)=some (.ls 5 [] true):=rfl;simp only[callN,e1,e2,e3,e4,if_true];rfl
 |
  true=>
  have e4:(if[evL true []].all calm then cx.tab 210 [evL true []]else none)=none:=rfl;have e5:cx.F 210=some ⟨Tryz.f210.ntmps,(Tryz.f210.body).getD .skip,[.tmp 2]⟩:=by kernel_rfl
  have e6:(splitD cx ((Tryz.f210.body).getD .skip)).isNone=true:=by kernel_rfl
  have hin:callN cx (n+1) b 210 [evL true []] h=finX [.tmp 2] (exec2 cx (callN cx n) ((Tryz.f210.body).getD .skip) ([evL true []]++List.replicate (Tryz.f210.ntmps-1) .un,h)):=by
   simp only[callN,e1,e2,e3,e4,e5,if_true,Yc.1 e6];exact body1_of e5 (by kernel_rfl) (by simp[Tryz.f210]) h
  rw[hin];have:evL true []= .sc (.slice none 0 0):=rfl;rw[this];simp[Tryz.f210,evC,slowN_of,slowN_eq,someA]
theorem gv_clone (n:Nat)(b z:Bool)(k m d:Int)(s:ByteArray)(h:Hp):
 callN cx (n+2) b 140 [.ag [.sc (.int .i64 k),.sc (.int .i64 m),.sc (.int .i64 d),.sc (.string s),evL z []]] h=some (.ag [.sc (.int .i64 k),.sc (.int .i64 m),.sc (.int .i64 d),.sc (.string s),evC z],h++[.row [.sc (.int .i64 k),.sc (.int .i64 m),.sc (.int .i64 d),.sc (.string s),evC z],.row [.sc (.int .i64 k),.sc (.int .i64 m),.sc (.int .i64 d),.sc (.string s),evC z]]):=by
 rw[call_inl3 (n:=n+1) (fun i=>i==5) ⟨Tryz.f140.ntmps,(Tryz.f140.body).getD .skip,[.cell 2 5 true]⟩ rfl (by kernel_rfl) (by kernel_rfl) (by kernel_rfl) (by kernel_rfl) (by simp[Tryz.f140])];have f1:=fun b h=>cln_Value n b z h
 have hL:(evL z []= .sc (.slice none 0 0)∧evC z= .sc (.slice none 0 0))∨(evL z []= .ls 5 [] false∧evC z= .ls 5 [] true):=by cases z<;>simp[evL,lsV,encL,evC]
 generalize evL z []=L at f1 hL⊢;generalize evC z=L' at f1 hL⊢;rcases hL with⟨rfl,rfl⟩|⟨rfl,rfl⟩
 ·simp[Tryz.f140,f1,splice];refine loop3_up (C:=cx) (G:=fun r=>finX _ (then3 _ _ _ (blockX _ r) _)=some _)
   (fun i st=>st.1.length=26∧gt st.1 1= .pt h.length 0∧gt st.1 2= .pt (h.length+1) 0∧gt st.1 10= .sc (.int .i64 0)∧gt st.1 11= .sc (.int .i64 0)∧st.2=h++[.row [.sc (.int .i64 k),.sc (.int .i64 m),.sc (.int .i64 d),.sc (.string s),.sc (.slice none 0 0)],.row [.sc (.int .i64 0),.sc (.int .i64 0),.sc (.int .i64 0),.sc (.string ⟨#[]⟩),.sc (.slice none 0 0)]])
   (fun o st=>o= .exit 0∧st.1.length=26∧gt st.1 1= .pt h.length 0∧gt st.1 2= .pt (h.length+1) 0∧st.2=h++[.row [.sc (.int .i64 k),.sc (.int .i64 m),.sc (.int .i64 d),.sc (.string s),.sc (.slice none 0 0)],.row [.sc (.int .i64 0),.sc (.int .i64 0),.sc (.int .i64 0),.sc (.string ⟨#[]⟩),.sc (.slice none 0 0)]]) 0 (by simp) ⟨rfl,rfl,rfl,rfl,rfl,rfl⟩ ?_ ?_
  ·rintro i fr hp hle ⟨hlen,g1,g2,g10,g11,hh⟩;simp only at hlen g1 g2 g10 g11 hh;subst hh;simp[hlen,g1,g2,g10,g11]
  ·rintro o fr hp hn ⟨rfl,hlen,g1,g2,hh⟩;simp only at hlen g1 g2 hh;subst hh;simp[hlen,g1,g2,splice]
 ·simp[Tryz.f140,f1,splice];refine loop3_up (C:=cx) (G:=fun r=>finX _ (then3 _ _ _ (blockX _ r) _)=some _)
   (fun i st=>st.1.length=26∧gt st.1 1= .pt h.length 0∧gt st.1 2= .pt (h.length+1) 0∧gt st.1 10= .sc (.int .i64 0)∧gt st.1 11= .sc (.int .i64 0)∧st.2=h++[.row [.sc (.int .i64 k),.sc (.int .i64 m),.sc (.int .i64 d),.sc (.string s),.ls 5 [] true],.row [.sc (.int .i64 0),.sc (.int .i64 0),.sc (.int .i64 0),.sc (.string ⟨#[]⟩),.sc (.slice none 0 0)]])
   (fun o st=>o= .exit 0∧st.1.length=26∧gt st.1 1= .pt h.length 0∧gt st.1 2= .pt (h.length+1) 0∧st.2=h++[.row [.sc (.int .i64 k),.sc (.int .i64 m),.sc (.int .i64 d),.sc (.string s),.ls 5 [] true],.row [.sc (.int .i64 0),.sc (.int .i64 0),.sc (.int .i64 0),.sc (.string ⟨#[]⟩),.sc (.slice none 0 0)]]) 0 (by simp) ⟨rfl,rfl,rfl,rfl,rfl,rfl⟩ ?_ ?_
  ·rintro i fr hp hle ⟨hlen,g1,g2,g10,g11,hh⟩;simp only at hlen g1 g2 g10 g11 hh;subst hh;simp[hlen,g1,g2,g10,g11]
  ·rintro o fr hp hn ⟨rfl,hlen,g1,g2,hh⟩;simp only at hlen g1 g2 hh;subst hh;simp[hlen,g1,g2,splice]
theorem pure_exW {f:FuncId}{args:List AV}{n:Nat}(r0:AV)(fi:Fi)(hF:cx.F f=some fi)(hok:ok2 cx fi.body=true)(hs:cx.srt f=none)(hi:cx.inl f=false)(hl:args.length≤fi.ntmps)(hc:args.all calm=true)
 (hb:∃r h',finX fi.res (exec2 cx (callN cx n) fi.body (args++List.replicate (fi.ntmps-args.length) .un,[]))=some (r,h')∧∃r',Ae.snap h' 8 r=some r'∧nfW r'=r0) (ht:(tabOk f && (isNw f && !isNf f))=true:=by decide) (b:Bool) (h:Hp):callN cx (n+1) b f args h=some (r0,h):=by
 obtain⟨r,h',hb,r',hr,hR⟩:=hb;rw[Zh,Zh,Bool.not_eq_true']at ht;have:=call_pureN (C:=cx) hs hi (tab_none' ht.1) hc (by rw[body1_of hF hok hl];exact hb) hr b h;rw[this];show some (nfF f r',h)=_;unfold nfF;rw[ht.2.1,ht.2.2];simp[hR]
theorem pure_exW3 {f:FuncId}{args:List AV}{n:Nat}(bad:Nat→Bool)(r0:AV)(fi:Fi)(hF:cx.F f=some fi)(hok:ok3 cx bad fi.body=true)(hs:cx.srt f=none)(hi:cx.inl f=false)(hl:args.length≤fi.ntmps)(hc:args.all calm=true)
 (hb:∃r h',finX fi.res (exec3 cx (callN cx n) bad fi.body (args++List.replicate (fi.ntmps-args.length) .un,[]))=some (r,h')∧∃r',Ae.snap h' 8 r=some r'∧nfW r'=r0) (ht:(tabOk f && (isNw f && !isNf f))=true:=by decide) (b:Bool) (h:Hp):callN cx (n+1) b f args h=some (r0,h):=by
 obtain⟨r,h',hb,r',hr,hR⟩:=hb;rw[Zh,Zh,Bool.not_eq_true']at ht;have:=call_pureN (C:=cx) hs hi (tab_none' ht.1) hc (by rw[body1_of3 hF hok hl];exact hb) hr b h;rw[this];show some (nfF f r',h)=_;unfold nfF;rw[ht.2.1,ht.2.2];simp[hR]
theorem v_Null (n:Nat)(b:Bool)(h:Hp):callN cx (n+1) b 143 [] h=some (.ag (enc zeroV),h):=by
 refine pure_calm (r:= .ag (enc zeroV)) (n:=n) ⟨Tryz.f143.ntmps,(Tryz.f143.body).getD .skip,[.cell 0 5 true]⟩ (by kernel_rfl) (by kernel_rfl) rfl (by kernel_rfl) (by simp[Tryz.f143]) rfl rfl ?_ b h;simp[Tryz.f143,splice,enc_zero]
def At (h:Hp)(i:Nat)(b:Blk):Prop:=h[i]?=some b
theorem At.app {h:Hp}{i:Nat}{b:Blk}(k:At h i b)(y:Hp):At (h++y) i b:=by
 unfold At at *;rw[Zd (Za.1 k).1];exact k
theorem At.get {h:Hp}{i:Nat}{b:Blk}(k:At h i b)(j:i<h.length):h[i]'j=b:=(Za.1 k).2
def clnV (v:V):V:= .mk v.k v.n v.d v.s false []
theorem g_Prop (n:Nat)(b:Bool)(l:List Prp)(z:Bool)(x:ByteArray)(h:Hp)(hl:l.length≤1000000000000000)(hp:∀c∈l,c.v.l=[]):
 callN cx (n+3) b 80 [prV l z,.sc (.string x)] h=some (.ag (enc (clnV (propAt l x))),h):=by
 refine pure_exW (f:=80) (n:=n+2) (args:=[prV l z,.sc (.string x)]) (.ag (enc (clnV (propAt l x)))) ⟨Tryz.f80.ntmps,(Tryz.f80.body).getD .skip,[.cell 4 5 true]⟩ (by kernel_rfl) (by kernel_rfl) rfl (by kernel_rfl) (by simp[Tryz.f80]) (calm_px _ _ _) ?_ (by decide) b h;have hq:=prR_length l;have hg:=prR_get l;have f1:=v_Null (n+1);unfold prV;generalize prR l=rows at hq hg;generalize hv:propAt l x=v;have hv0:v=propD l x 0:=hv.symm;have hfin:∀(z':Bool),∃r',Ae.snap ([]:Hp) 8 (.ag [.sc (.int .i64 v.k),.sc (.int .i64 v.n),.sc (.int .i64 v.d),.sc (.string v.s),evC z'])=some r'∧nfW r'= .ag (enc (clnV v)):=fun z'=>by cases z'<;>exact⟨_,rfl,rfl⟩
 simp[Tryz.f80];refine loop_up (C:=cx) (G:=fun r=>∃r0 h',finX _ (thenX _ _ (blockX _ r) _)=some (r0,h')∧∃r',Ae.snap h' 8 r0=some r'∧nfW r'=_)
  (fun i s=>v=propD l x i∧s.1.length=22∧gt s.1 1= .sc (.string x)∧gt s.1 4= .pt 0 0∧gt s.1 7= .ls 6 rows z∧gt s.1 8= .sc (.int .i64 l.length)∧gt s.1 9= .sc (.int .i64 i)∧At s.2 0 (.row (enc zeroV)))
  (fun o s=>s.1.length=22∧gt s.1 4= .pt 0 0∧((o= .exit 0∧v=zeroV∧At s.2 0 (.row (enc zeroV)))∨(o= .ret∧∃z',At s.2 0 (.row [.sc (.int .i64 v.k),.sc (.int .i64 v.n),.sc (.int .i64 v.d),.sc (.string v.s),evC z'])))) l.length (by simp;omega) ⟨hv0,rfl,rfl,rfl,rfl,by simp[hq],rfl,by rw[enc_zero];rfl⟩ ?_ ?_
 ·rintro i fr h hle ⟨ho,hlen,h1,h4,h7,h8,h9,hh⟩;simp only at hlen h1 h4 h7 h8 h9 hh;by_cases hi:i<l.length
  ·obtain⟨c,hx⟩:∃c,l[i]?=some c:=⟨_,Zb hi⟩;have hcl:=hp c (Zi hx);rw[propD_step hx]at ho;obtain⟨ck,cv⟩:=c;obtain⟨k,m,d,s,z',q⟩:=cv;simp only[V.l]at hcl;subst hcl;have hr:rows[i]?=some [.sc (.string ck),.sc (.int .i64 k),.sc (.int .i64 m),.sc (.int .i64 d),.sc (.string s),evL z' []]:=by rw[hg,hx];rfl
   have hr':∀kx,rows[i]'kx=[.sc (.string ck),.sc (.int .i64 k),.sc (.int .i64 m),.sc (.int .i64 d),.sc (.string s),evL z' []]:=fun k=>by obtain⟨_,e⟩:=Za.1 hr;exact e
   have hf:=fit_succ (Ym hle hl);have f2:=fun b h=>gv_clone n b z' k m d s h
   have hl0:0<h.length:=(Za.1 hh).1;have hh':∀y,(h++y)[0]?=some (.row (enc zeroV)):=fun y=>hh.app y
   have hh2:∀y k,(h++y)[0]'k= .row (enc zeroV):=fun y k=>(hh.app y).get k
   have hs0:∀y w,((h++y).set 0 w)[0]?=some w:=fun y w=>Zj (by simp;omega)
   have hL:calm1 (evL z' [])=true:=by cases z'<;>rfl
   have q0:=fun(cal:FuncId→List AV→Hp→Option (AV × Hp)) (ops:Array Oper) (d:Tmp) (rest:List Oper) (fr:List AV) (h:Hp)=>opP_np (C:=cx) (cal:=cal) (ops:=ops) (x:=evL z' []) (fun v e=>by rw[e]at hL;cases hL) d rest fr h
   generalize evL z' []=L at *;cases hk:eqS ck x
   ·rw[if_neg (by simp[hk])]at ho;simp[hlen,h1,h4,h7,h8,h9,hi,hq,hr,hr',hk,hf,splice];exact⟨ho,hh.app _⟩
   ·rw[if_pos (by simp[hk])]at ho;subst ho;simp[hlen,h1,h4,h7,h8,h9,hi,hq,hr,hr',hk,hf,splice,f2,hh',hh2,hs0,enc_zero];cases z'
    ·exact .inl (hs0 _ _)
    ·exact .inr (hs0 _ _)
  ·have zz:v=zeroV:=by rw[ho,propD_end l x i (by omega)]
   simp[hlen,h1,h4,h7,h8,h9,hi,hq,zz];exact hh
 ·rintro o fr h hn ⟨hlen,h4,⟨rfl,hz,hh⟩|⟨rfl,z',hh⟩⟩
  ·simp only at hlen h4 hh;have hh0:h[0]?=some (.row (enc zeroV)):=hh;have hs0:∀w,(h.set 0 w)[0]?=some w:=fun w=>Zj (Za.1 hh0).1
   rw[enc_zero]at hh0 f1;simp[hlen,h4,f1,hh0,hs0,splice];exact⟨_,_,⟨rfl,rfl⟩,_,rfl,by rw[hz];rfl⟩
  ·simp only at hlen h4 hh;have hh0:h[0]?=some (.row [.sc (.int .i64 v.k),.sc (.int .i64 v.n),.sc (.int .i64 v.d),.sc (.string v.s),evC z']):=hh;simp[hlen,h4,hh0];refine⟨_,_,⟨rfl,rfl⟩,?_⟩;cases z'<;>exact⟨_,rfl,rfl⟩
def labW :List ByteArray→Int→Int
 | [],b=>b
 |c::l,b=>if 0≤b then labW l (b-(c.size:Int)/50)else b
def nodW :List Nd→Int→Int
 | [],b=>b
 |c::l,b=>if 0≤b then nodW l (labW c.labels (weiP c.props (b-c.labels.length)))else b
def edW :List Ed→Int→Int
 | [],b=>b
 |c::l,b=>if 0≤b then edW l (weiP c.props (b-(c.type.size:Int)/50))else b
def labWD (l:List ByteArray)(b:Int)(i:Nat):Int:=labW (l.drop i) b
theorem labWD_end (l:List ByteArray)(b:Int)(i:Nat)(h:l.length≤i):labWD l b i=b:=by unfold labWD;rw[Zt h,labW]
theorem labWD_neg (l:List ByteArray)(b:Int)(i:Nat)(h:b<0):labWD l b i=b:=by
 unfold labWD;cases l.drop i with
 |nil=>rw[labW]
 |cons x xs=>rw[labW,if_neg (by omega)]
theorem labWD_step {l:List ByteArray}{i:Nat}{c:ByteArray}{b:Int}(h:l[i]?=some c)(hb:0≤b):labWD l b i=labWD l (b-(c.size:Int)/50) (i+1):=by
 obtain⟨k,e⟩:=Za.1 h;unfold labWD;rw[Zm k,e,labW,if_pos hb]
def nodWD (l:List Nd)(b:Int)(i:Nat):Int:=nodW (l.drop i) b
theorem nodWD_end (l:List Nd)(b:Int)(i:Nat)(h:l.length≤i):nodWD l b i=b:=by unfold nodWD;rw[Zt h,nodW]
theorem nodWD_neg (l:List Nd)(b:Int)(i:Nat)(h:b<0):nodWD l b i=b:=by
 unfold nodWD;cases l.drop i with
 |nil=>rw[nodW]
 |cons x xs=>rw[nodW,if_neg (by omega)]
theorem nodWD_step {l:List Nd}{i:Nat}{c:Nd}{b:Int}(h:l[i]?=some c)(hb:0≤b):nodWD l b i=nodWD l (labW c.labels (weiP c.props (b-c.labels.length))) (i+1):=by
 obtain⟨k,e⟩:=Za.1 h;unfold nodWD;rw[Zm k,e,nodW,if_pos hb]
def edWD (l:List Ed)(b:Int)(i:Nat):Int:=edW (l.drop i) b
theorem edWD_end (l:List Ed)(b:Int)(i:Nat)(h:l.length≤i):edWD l b i=b:=by unfold edWD;rw[Zt h,edW]
theorem edWD_neg (l:List Ed)(b:Int)(i:Nat)(h:b<0):edWD l b i=b:=by
 unfold edWD;cases l.drop i with
 |nil=>rw[edW]
 |cons x xs=>rw[edW,if_neg (by omega)]
theorem edWD_step {l:List Ed}{i:Nat}{c:Ed}{b:Int}(h:l[i]?=some c)(hb:0≤b):edWD l b i=edWD l (weiP c.props (b-(c.type.size:Int)/50)) (i+1):=by
 obtain⟨k,e⟩:=Za.1 h;unfold edWD;rw[Zm k,e,edW,if_pos hb]
theorem labW_le :∀(l:List ByteArray) (b:Int),b≤2000→labW l b≤2000
 | [],b,h=>by rw[labW];exact h
 |
  x::xs,b,h=>by
  rw[labW];split
  ·exact labW_le xs _ (by omega)
  ·exact h
theorem nodW_le :∀(l:List Nd) (b:Int),b≤2000→nodW l b≤2000
 | [],b,h=>by rw[nodW];exact h
 |
  x::xs,b,h=>by
  rw[nodW];split
  ·exact nodW_le xs _ (labW_le _ _ (weiP_le _ _ (by omega)))
  ·exact h
def smallS (g:Gr):Bool:=if 40<g.nodes.length∨60<g.edges.length then false else decide (0≤edW g.edges (nodW g.nodes 2000))
structure SzB (g:Gr):Prop where
 n:∀m∈g.nodes,(∀x∈m.labels,x.size≤1000000000000000)∧∀c∈m.props,c.key.size≤1000000000000000
 e:∀m∈g.edges,m.type.size≤1000000000000000∧∀c∈m.props,c.key.size≤1000000000000000
theorem loop_exU {call:Bool→FuncId→List AV→Hp→Option (AV × Hp)}(Inv:Nat→St→Prop)(Q:Out→St→Prop)(N:Nat)(hN:N<cx.fuel)(X:Option (Out × St))(c:Code)(fr:List AV)(h:Hp)(hX:exec2 cx call (.loop c) (fr,h)=X)(hI:Inv 0 (fr,h))
 (step:∀i fr h,i≤N→Inv i (fr,h)→UpX Inv Q N i (exec2 cx call c (fr,h))):∃o fr' h',X=some (o,(fr',h'))∧Q o (fr',h'):=by
 subst hX;exact loop_up (C:=cx) (G:=fun r=>∃o fr' h',r=some (o,(fr',h'))∧Q o (fr',h')) Inv Q N hN hI step (fun o fr h _ hq=>⟨o,fr,h,rfl,hq⟩)
theorem calm_gkk (g:Gr)(x y:Int):[AV.ag (encG g),.sc (.int .i64 x),.sc (.int .i64 y)].all calm=true:=rfl
theorem r07_Small (N D:Nat)(b:Bool)(g:Gr)(h:Hp)(hb:GrB D g)(hs:SzB g):
 callN cx (N+D+3) b 13 [.ag (encG g),.sc (.int .i64 40),.sc (.int .i64 60)] h=some (.sc (.bool (smallS g)),h):=by
 refine pure_calm (n:=N+D+2) (r:= .sc (.bool (smallS g))) ⟨Tryz.f13.ntmps,(Tryz.f13.body).getD .skip,[.tmp 6]⟩ (by kernel_rfl) (by kernel_rfl) rfl (by kernel_rfl) (by simp[Tryz.f13]) (calm_gkk _ _ _) rfl ?_ b h;have hq:=ndR_length g.nodes;have hg:=ndR_get g.nodes;have hq':=edR_length g.edges;have hg':=edR_get g.edges;have hnl:=hb.nl;have hel:=hb.el;have fw:=fun b (l:List Prp) (z:Bool) (n:Int) h hl hn hb=>r07_weigh N D b l z n h hl hn hb
 unfold smallS encG ndV edV;generalize ndR g.nodes=rows at hq hg;generalize edR g.edges=erows at hq' hg';by_cases h40:40<g.nodes.length∨60<g.edges.length
 ·rw[if_pos h40];by_cases h1:40<g.nodes.length
  ·have h1':(40:Int)<g.nodes.length:=by omega
   simp[Tryz.f13,hq,h1,h1']
  ·have h2:60<g.edges.length:=by omega
   have h1':¬(40:Int)<g.nodes.length:=by omega
   have h2':(60:Int)<g.edges.length:=by omega
   simp[Tryz.f13,hq,hq',h1,h2,h1',h2']
 ·rw[if_neg h40];have h1:¬40<g.nodes.length:=by omega
  have h2:¬60<g.edges.length:=by omega
  have h1':¬(40:Int)<g.nodes.length:=by omega
  have h2':¬(60:Int)<g.edges.length:=by omega
  generalize hT1:nodW g.nodes 2000=T1;have hT1l:T1≤2000:=by rw[←hT1];exact nodW_le _ _ (by omega)
  generalize hT2:edW g.edges T1=T2;simp[Tryz.f13,hq,hq',h1,h2,h1',h2'];refine loop_up (C:=cx) (G:=fun r=>∃h',finX _ (thenX _ _ (blockX _ r) _)=some (_,h'))
   (fun i st=>∃c:Int,T1=nodWD g.nodes c i∧c≤2000∧st.1.length=98∧gt st.1 3= .pt 0 0∧gt st.1 7= .sc (.int .i64 c)∧gt st.1 8= .sc (.int .i64 i)∧At st.2 0 (.row [.ls 3 rows false,.ls 5 erows false,.sc (.int .i64 g.nn),.sc (.int .i64 g.ne)]))
   (fun o s=>o= .exit 0∧s.1.length=98∧gt s.1 3= .pt 0 0∧gt s.1 7= .sc (.int .i64 T1)∧At s.2 0 (.row [.ls 3 rows false,.ls 5 erows false,.sc (.int .i64 g.nn),.sc (.int .i64 g.ne)])) g.nodes.length (by simp;omega) ⟨2000,hT1.symm,by omega,rfl,rfl,rfl,rfl,rfl⟩ ?_ ?_
  ·rintro i fr hp hle ⟨c,hT,hc,hlen,h3,h7,h8,hh⟩;simp only at hlen h3 h7 h8 hh;have hh0:hp[0]?=some (.row [.ls 3 rows false,.ls 5 erows false,.sc (.int .i64 g.nn),.sc (.int .i64 g.ne)]):=hh;have hl0:=(Za.1 hh0).1;have hh1:∀y,(hp++y)[0]?=some (.row [.ls 3 rows false,.ls 5 erows false,.sc (.int .i64 g.nn),.sc (.int .i64 g.ne)]):=fun y=>hh.app y
   have hh2:∀y k,(hp++y)[0]'k= .row [.ls 3 rows false,.ls 5 erows false,.sc (.int .i64 g.nn),.sc (.int .i64 g.ne)]:=fun y k=>(hh.app y).get k
   by_cases hi:i<g.nodes.length
   ·by_cases hc':0≤c
    ·obtain⟨x,hx⟩:∃x,g.nodes[i]?=some x:=⟨_,Zb hi⟩;have hm:=Zi hx;have hxb:=hb.ns x hm;have hxs:=hs.n x hm;have hll:=hxb.1;have hfu:x.labels.length<cx.fuel:=by simp;omega
     have hwl:=weiP_le x.props (c-(x.labels.length:Int)) (by omega);have hcl:c-(x.labels.length:Int)≤2000:=by omega
     have e1:fitI .i64 (c-(x.labels.length:Int))=c-(x.labels.length:Int):=fit_i64 (by omega) (by omega);have hw:=fun b h=>fw b x.props false (c-(x.labels.length:Int)) h hxb.2.1 hcl fun y hy=>⟨(hxb.2.2 y hy).1,(hxb.2.2 y hy).2,hxs.2 y hy⟩
     have hr:rows[i]?=some [.sc (.int .i64 x.id),.ls 1 (tsR x.labels) false,.ls 6 (prR x.props) false]:=by rw[hg,hx];rfl
     have hr':∀k,rows[i]'k=[.sc (.int .i64 x.id),.ls 1 (tsR x.labels) false,.ls 6 (prR x.props) false]:=fun k=>by obtain⟨_,e⟩:=Za.1 hr;exact e
     have hql:=tsR_length x.labels;have hgl:=tsR_get x.labels;unfold prV at hw;have hst:=nodWD_step hx hc';rw[←hT]at hst;have hf:=fit_succ (Ym hle hnl);generalize hW0:weiP x.props (c-(x.labels.length:Int))=W0 at hw hst hwl;generalize hW:labW x.labels W0=W at hst;have hWl:W≤2000:=by rw[←hW];exact labW_le _ _ hwl
     generalize tsR x.labels=lrows at hr hr' hql hgl;simp[hlen,h3,h7,h8,hi,hq,hr,hr',hc',hw,e1,hql,hh0,hh1,hh2,splice];generalize hX:exec2 cx (callN cx (N+D+2)) (Code.loop _) _=X;obtain⟨o2,fr2,hp2,rfl,rfl,hlen2,q3,q7,q8,qh⟩:=loop_exU (call:=callN cx (N+D+2))
      (fun j st=>∃c':Int,W=labWD x.labels c' j∧c'≤2000∧st.1.length=98∧gt st.1 3= .pt 0 0∧gt st.1 7= .sc (.int .i64 c')∧gt st.1 8= .sc (.int .i64 i)∧gt st.1 9= .pt hp.length 0∧gt st.1 10= .sc (.int .i64 j)∧At st.2 0 (.row [.ls 3 rows false,.ls 5 erows false,.sc (.int .i64 g.nn),.sc (.int .i64 g.ne)])∧At st.2 hp.length (.row [.sc (.int .i64 x.id),.ls 1 lrows false,.ls 6 (prR x.props) false]))
      (fun o s=>o= .exit 2∧s.1.length=98∧gt s.1 3= .pt 0 0∧gt s.1 7= .sc (.int .i64 W)∧gt s.1 8= .sc (.int .i64 i)∧At s.2 0 (.row [.ls 3 rows false,.ls 5 erows false,.sc (.int .i64 g.nn),.sc (.int .i64 g.ne)])) x.labels.length hfu X _ _ _ hX ⟨W0,hW.symm,hwl,by simp[hlen],by simp[hlen,h3],by simp[hlen],by simp[hlen,h8],by simp[hlen],by simp[hlen],hh.app _,by unfold At;simp⟩ (by
      clear h3 h7 h8 hlen hh0 hh1 hh2 hl0 hh hst hW hwl hw e1 hc hT hr hr' hf hX;rintro j fr hp2 hle2 ⟨c',hT',hc2,hlen,h3,h7,h8,h9,h10,hh,hn⟩;simp only at hlen h3 h7 h8 h9 h10 hh hn;have hn0:hp2[hp.length]?=some (.row [.sc (.int .i64 x.id),.ls 1 lrows false,.ls 6 (prR x.props) false]):=hn;by_cases hj:j<x.labels.length
      ·by_cases hc3:0≤c'
       ·obtain⟨y,hy⟩:∃y,x.labels[j]?=some y:=⟨_,Zb hj⟩;have hys:=hxs.1 y (Zi hy);have hr2:lrows[j]?=some [.sc (.string y)]:=by rw[hgl,hy];rfl
        have hr2':∀k,lrows[j]'k=[.sc (.string y)]:=fun k=>by obtain⟨_,e⟩:=Za.1 hr2;exact e
        have hc4:c'-(y.size:Int)/50≤2000:=by omega
        have hst2:=labWD_step hy hc3;rw[←hT']at hst2;have hf2:=fit_succ (Ym hle2 hll);have e2:fitI .i64 ((y.size:Int)/50)=(y.size:Int)/50:=fit_i64 (by omega) (by omega);have e3:fitI .i64 (c'-(y.size:Int)/50)=c'-(y.size:Int)/50:=fit_i64 (by omega) (by omega);simp[hlen,h3,h7,h8,h9,h10,hj,hql,hr2,hr2',hc3,hn0,e2,e3,hf2,tdiv50];exact⟨_,hst2,hc4,rfl,hh,hn⟩
       ·have zz:W=c':=by rw[hT',labWD_neg _ _ _ (by omega)]
        simp[hlen,h3,h7,h8,h9,h10,hj,hql,hc3,hn0,zz];exact hh
      ·have zz:W=c':=by rw[hT',labWD_end _ _ _ (by omega)]
       simp[hlen,h3,h7,h8,h9,h10,hj,hql,hn0,zz];exact hh)
     simp only at hlen2 q3 q7 q8 qh;simp[hlen2,q3,q7,q8,hf];exact⟨hi,_,hst,hWl,rfl,qh⟩
    ·have zz:T1=c:=by rw[hT,nodWD_neg _ _ _ (by omega)]
     simp[hlen,h3,h7,h8,hi,hq,hc',zz,hh0,hh1,hh2];exact hh
   ·have zz:T1=c:=by rw[hT,nodWD_end _ _ _ (by omega)]
    simp[hlen,h3,h7,h8,hi,hq,zz,hh0,hh1,hh2];exact hh
  ·rintro o fr hp hn ⟨rfl,hlen,h3,h7,hh⟩;simp only at hlen h3 h7 hh;simp[hlen,h3,h7];have hh0:hp[0]?=some (.row [.ls 3 rows false,.ls 5 erows false,.sc (.int .i64 g.nn),.sc (.int .i64 g.ne)]):=hh;refine loop_up (C:=cx) (G:=fun r=>∃h',finX _ (thenX _ _ (blockX _ r) _)=some (_,h'))
    (fun i st=>∃c:Int,T2=edWD g.edges c i∧c≤2000∧st.1.length=98∧gt st.1 3= .pt 0 0∧gt st.1 7= .sc (.int .i64 c)∧gt st.1 11= .sc (.int .i64 i)∧At st.2 0 (.row [.ls 3 rows false,.ls 5 erows false,.sc (.int .i64 g.nn),.sc (.int .i64 g.ne)]))
    (fun o s=>o= .exit 4∧s.1.length=98∧gt s.1 7= .sc (.int .i64 T2)) g.edges.length (by simp;omega) ⟨T1,hT2.symm,hT1l,by simp[hlen],by simp[hlen,h3],by simp[hlen,h7],by simp[hlen],hh⟩ ?_ ?_
   ·clear hlen h3 h7 hh hh0;rintro i fr hp hle ⟨c,hT,hc,hlen,h3,h7,h11,hh⟩;simp only at hlen h3 h7 h11 hh;have hh0:hp[0]?=some (.row [.ls 3 rows false,.ls 5 erows false,.sc (.int .i64 g.nn),.sc (.int .i64 g.ne)]):=hh;by_cases hi:i<g.edges.length
    ·by_cases hc':0≤c
     ·obtain⟨x,hx⟩:∃x,g.edges[i]?=some x:=⟨_,Zb hi⟩;have hm:=Zi hx;have hxb:=hb.es x hm;have hxs:=hs.e x hm;have hxt:=hxs.1;have hcl:c-(x.type.size:Int)/50≤2000:=by omega
      have hwl:=weiP_le x.props (c-(x.type.size:Int)/50) hcl;have e2:fitI .i64 ((x.type.size:Int)/50)=(x.type.size:Int)/50:=fit_i64 (by omega) (by omega);have e3:fitI .i64 (c-(x.type.size:Int)/50)=c-(x.type.size:Int)/50:=fit_i64 (by omega) (by omega);have hw:=fun b h=>fw b x.props false (c-(x.type.size:Int)/50) h hxb.1 hcl fun y hy=>⟨(hxb.2 y hy).1,(hxb.2 y hy).2,hxs.2 y hy⟩
      have hr:erows[i]?=some [.sc (.int .i64 x.id),.sc (.int .i64 x.src),.sc (.int .i64 x.dst),.sc (.string x.type),.ls 6 (prR x.props) false]:=by rw[hg',hx];rfl
      have hr':∀k,erows[i]'k=[.sc (.int .i64 x.id),.sc (.int .i64 x.src),.sc (.int .i64 x.dst),.sc (.string x.type),.ls 6 (prR x.props) false]:=fun k=>by obtain⟨_,e⟩:=Za.1 hr;exact e
      unfold prV at hw;have hst:=edWD_step hx hc';rw[←hT]at hst;have hf:=fit_succ (Ym hle hel);generalize weiP x.props (c-(x.type.size:Int)/50)=W0 at hw hst hwl;simp[hlen,h3,h7,h11,hi,hq',hr,hr',hc',hw,e2,e3,hh0,hf,tdiv50];exact⟨_,hst,hwl,rfl,hh⟩
     ·have zz:T2=c:=by rw[hT,edWD_neg _ _ _ (by omega)]
      simp[hlen,h3,h7,h11,hi,hq',hc',zz,hh0]
    ·have zz:T2=c:=by rw[hT,edWD_end _ _ _ (by omega)]
     simp[hlen,h3,h7,h11,hi,hq',zz,hh0]
   ·rintro o fr hp hn ⟨rfl,hlen,h7⟩;simp only at hlen h7;simp[hlen,h7]
theorem flat_splice {sz:Nat}{pre post:List (List AV)}{r vs:List AV}{o:Nat}(hr:∀y∈pre,y.length=sz)(hrl:r.length=sz)(ho:o+vs.length≤sz):splice (pre++[r]++post).flatten (pre.length*sz+o) vs=(pre++[splice r o vs]++post).flatten:=by
 have hA:pre.flatten.length=pre.length*sz:=flatten_length pre hr;have e:(pre++[r]++post).flatten=pre.flatten++r++post.flatten:=by simp
 rw[e];unfold splice;have e1:(pre.flatten++r++post.flatten).take (pre.length*sz+o)=pre.flatten++r.take o:=by
  rw[Zp,←hA,List.take_length_add_append,List.take_append_of_le_length (by omega)]
 have e2:(pre.flatten++r++post.flatten).drop (pre.length*sz+o+vs.length)=r.drop (o+vs.length)++post.flatten:=by
  rw[Zp,←hA,Nat.add_assoc,List.drop_length_add_append,List.drop_append_of_le_length (by omega)]
 rw[e1,e2];simp
theorem flat_cells {sz:Nat}{pre post:List (List AV)}{r:List AV}{o m:Nat}(hr:∀y∈pre,y.length=sz)(hrl:r.length=sz)(ho:o+m≤sz):((pre++[r]++post).flatten.drop (pre.length*sz+o)).take m=(r.drop o).take m:=by
 have hA:pre.flatten.length=pre.length*sz:=flatten_length pre hr;have e:(pre++[r]++post).flatten=pre.flatten++(r++post.flatten):=by simp
 rw[e,←hA,List.drop_length_add_append,List.drop_append_of_le_length (by omega),List.take_append_of_le_length (by simp;omega)]
def cpR (c:Prp):List AV:=[.sc (.string c.key),.sc (.int .i64 c.v.k),.sc (.int .i64 c.v.n),.sc (.int .i64 c.v.d),.sc (.string c.v.s),evC c.v.isNil]
def clnP (c:Prp):Prp:=⟨c.key,clnV c.v⟩
theorem cpR_all (l:List Prp):(∀r∈l.map cpR,r.length=6)∧(l.map cpR).flatten.all calm1=true:=by
 refine⟨fun r hr=>by obtain⟨c,_,rfl⟩:=Yi.1 hr;rfl,calm1_rows fun r hr=>?_⟩;obtain⟨c,_,rfl⟩:=Yi.1 hr;unfold cpR evC;cases c.v.isNil<;>rfl
theorem cpR_nf (l:List Prp):(l.map cpR).map nfP=prR (l.map clnP):=by
 unfold prR;rw[List.map_map,List.map_map];refine List.map_congr_left fun c _=>?_
 show nfP (cpR c)=encR (clnP c);rw[encR_eq];unfold cpR nfP evC;cases c.v.isNil<;>rfl
structure CpP (h:Hp)(l:List Prp)(x:AV)(h':Hp):Prop where
 y:∀(h2:Hp),(∀(i:Nat) (b:Blk),h.length≤i→h'[i]?=some b→h2[i]?=some b)→∃y,(∀m,Ae.snap h2 (m+1) x=some y)∧nfL 6 nfP y= .ls 6 (prR (l.map clnP)) false
 f:∀(i:Nat) (b:Blk),h[i]?=some b→h'[i]?=some b
 np:∀v:Value,x≠ .pn v
 c:cls x=some [x]
theorem prR_drop {l:List Prp}{i:Nat}{m:Prp}(h:l[i]?=some m):(prR l).drop i=[encR m]++(prR l).drop (i+1):=by
 have:(prR l)[i]?=some (encR m):=by rw[prR_get,h];rfl
 obtain⟨k,e⟩:=Za.1 this;rw[Zm k,e];rfl
theorem g_cloneProps (n:Nat)(b:Bool)(l:List Prp)(z:Bool)(h:Hp)(hl:l.length≤1000000)(hp:∀c∈l,c.v.l=[]):
 ∃x h',callN cx (n+3) b 76 [.ls 6 (prR l) z] h=some (x,h')∧CpP h l x h':=by
 rw[call_inl (n:=n+2) ⟨Tryz.f76.ntmps,(Tryz.f76.body).getD .skip,[.tmp 2]⟩ rfl (by kernel_rfl) (by kernel_rfl) (by kernel_rfl) (by kernel_rfl) (by simp[Tryz.f76])];have f1:=fun bb hh=>cln_Prop (n+1) bb (prR l) z hh (by rw[prR_length];exact hl) (prR_all _).1
 cases l with
 |
  nil=>
  have f1':∀bb hh,callN cx (n+2) bb 139 [.ls 6 (prR []) z] hh=some (.ls 6 [] true,hh):=fun bb hh=>f1 bb hh
  have e0:prR []=[]:=rfl;rw[e0]at f1';rw[e0];simp[Tryz.f76,f1'];refine loop_up (C:=cx) (G:=fun r=>∃x h',finX _ (thenX _ _ (blockX _ r) _)=some (x,h')∧CpP _ _ x h')
   (fun i s=>s.1.length=24∧gt s.1 3= .ls 6 [] true∧gt s.1 8= .sc (.int .i64 0)∧gt s.1 9= .sc (.int .i64 0)∧s.2=h)
   (fun o s=>o= .exit 0∧s.1.length=24∧gt s.1 3= .ls 6 [] true∧s.2=h) 0 (by simp) ⟨rfl,rfl,rfl,rfl,rfl⟩ ?_ ?_
  ·rintro i fr hp hle ⟨hlen,g3,g8,g9,hh⟩;simp only at hlen g3 g8 g9 hh;simp[hlen,g3,g8,g9,hh]
  ·rintro o fr hp hn ⟨rfl,hlen,g3,hh⟩;simp only at hlen g3 hh;subst hh;simp[hlen,g3];exact⟨_,_,⟨rfl,rfl⟩,⟨fun h2 _=>⟨.ls 6 [] true,fun m=>by simp[Ae.snap],by simp[nfL,prR]⟩,fun i b q=>q,by simp,rfl⟩⟩
 |
  cons c0 l0=>
  generalize hL:c0::l0=L at *;have hne:(prR L).isEmpty=false:=by rw[←hL];rfl
  simp only[hne,Yp,if_false]at f1;rw[prR_length]at f1;have hLn:L.length≠0:=by rw[←hL];simp
  simp[Tryz.f76,f1];refine loop_up (C:=cx) (G:=fun r=>∃x h',finX _ (thenX _ _ (blockX _ r) _)=some (x,h')∧CpP _ _ x h')
   (fun i s=>i≤L.length∧s.1.length=24∧gt s.1 3= .sl (h.length+1) 6 0 L.length false∧gt s.1 8= .sc (.int .i64 L.length)∧gt s.1 9= .sc (.int .i64 i)∧At s.2 (h.length+1) (.row ((L.take i).map cpR++(prR L).drop i).flatten)∧∀(j:Nat) (b:Blk),h[j]?=some b→s.2[j]?=some b)
   (fun o s=>o= .exit 0∧s.1.length=24∧gt s.1 3= .sl (h.length+1) 6 0 L.length false∧At s.2 (h.length+1) (.row (L.map cpR).flatten)∧∀(j:Nat) (b:Blk),h[j]?=some b→s.2[j]?=some b) L.length (by simp;omega) ?_ ?_ ?_
  ·refine⟨by omega,rfl,rfl,rfl,rfl,?_,fun j b hj=>?_⟩
   ·show(h++[Blk.dead,.row (prR L).flatten])[h.length+1]?=_;rw[Zf (by omega)];simp
   ·show(h++[Blk.dead,.row (prR L).flatten])[j]?=_;rw[Zd (Za.1 hj).1];exact hj
  ·rintro i fr hp2 hle ⟨hle2,hlen,g3,g8,g9,ha,hfr⟩;simp only at hlen g3 g8 g9 ha hfr;by_cases hi:i<L.length
   ·obtain⟨c,hx⟩:∃c,L[i]?=some c:=⟨_,Zb hi⟩;have hcl:=hp c (Zi hx);rw[prR_drop hx,←Zp]at ha;have hpre:((L.take i).map cpR).length=i:=by simp;omega
    have hw1:=(cpR_all (L.take i)).1;have hcl6:((L.take i).map cpR++[encR c]++(prR L).drop (i+1)).flatten.length=L.length*6:=by
     rw[flatten_length _ (sz:=6) (fun y hy=>by
      rw[Zp,Ya,Ya]at hy;rcases hy with hy|hy|hy
      ·exact hw1 y hy
      ·rw[List.mem_singleton]at hy;rw[hy];simp
      ·exact(prR_all L).1 y (List.mem_of_mem_drop hy))]
     congr 1
     simp[prR_length];omega
    have hsp:=flat_splice (sz:=6) (post:=(prR L).drop (i+1)) (r:=encR c) (vs:=[.sc (.int .i64 c.v.k),.sc (.int .i64 c.v.n),.sc (.int .i64 c.v.d),.sc (.string c.v.s),evC c.v.isNil]) (o:=1) hw1 (by simp) (by simp);have hce:=flat_cells (sz:=6) (post:=(prR L).drop (i+1)) (r:=encR c) (o:=1) (m:=5) hw1 (by simp) (by omega);rw[hpre]at hsp hce;have hnext:((L.take (i+1)).map cpR++(prR L).drop (i+1))=(L.take i).map cpR++[cpR c]++(prR L).drop (i+1):=by
     rw[take_succ' hx];simp
    have hcr:splice (encR c) 1 [.sc (.int .i64 c.v.k),.sc (.int .i64 c.v.n),.sc (.int .i64 c.v.d),.sc (.string c.v.s),evC c.v.isNil]=cpR c:=by
     rw[encR_eq];rfl
    rw[hcr,←hnext]at hsp;have hb6:i*6+1+5≤((L.take i).map cpR++[encR c]++(prR L).drop (i+1)).flatten.length:=by rw[hcl6];omega
    have hc5:((encR c).drop 1).take 5=[.sc (.int .i64 c.v.k),.sc (.int .i64 c.v.n),.sc (.int .i64 c.v.d),.sc (.string c.v.s),evL c.v.isNil []]:=by rw[encR_eq,hcl];rfl
    rw[hc5]at hce;generalize((L.take i).map cpR++[encR c]++(prR L).drop (i+1)).flatten=cs at *;have f2:=fun b h=>gv_clone n b c.v.isNil c.v.k c.v.n c.v.d c.v.s h
    have hcs:hp2[h.length+1]?=some (.row cs):=ha;have hcs':∀y,(hp2++y)[h.length+1]?=some (.row cs):=fun y=>ha.app y
    have hLc:calm1 (evL c.v.isNil [])=true:=by cases c.v.isNil<;>rfl
    have hf:=fit_succ (i:=i) (by omega);simp[hlen,g3,g8,g9,hi,hcs,hce,hb6,f2,hcs',hf,hsp];refine⟨hi,Zj (Za.1 (hcs' _)).1,fun j b hj=>?_⟩;have jl:=(Za.1 hj).1;rw[Zq (by omega)];exact(show At hp2 j b from hfr j b hj).app _
   ·have hil:i=L.length:=Nat.le_antisymm hle2 (Yb hi);subst hil;have hz:(prR L).drop L.length=[]:=Zt (by rw[prR_length];exact Nat.le_refl _);rw[hz,Yo,List.take_length]at ha;simp[hlen,g3,g8,g9];exact⟨ha,hfr⟩
  ·rintro o fr hp2 hn ⟨rfl,hlen,g3,ha,hfr⟩;simp only at hlen g3 ha hfr;simp[hlen,g3];refine⟨_,_,⟨rfl,rfl⟩,⟨fun h2 hh=>⟨.ls 6 (L.map cpR) false,fun m=>?_,?_⟩,hfr,by simp,rfl⟩⟩
   ·have:=snap_flat (h:=h2) (n:=m) (id:=h.length+1) (sz:=6) (rows:=L.map cpR) (cs:=(L.map cpR).flatten) (by omega) (cpR_all L).1 (cpR_all L).2 (rowOf_row (hh _ _ (by omega) ha)) (by
     rw[List.take_of_length_le];rw[flatten_length _ (cpR_all L).1];exact Nat.le_refl _) (by rw[flatten_length _ (cpR_all L).1];exact Nat.le_refl _)
    rw[Yk]at this;exact this
   ·rw[nfL_ls,cpR_nf]
theorem clone_lab (n:Nat)(l:List ByteArray)(z:Bool)(h:Hp)(hl:l.length≤1000000):
 ∃x h',(∀b,callN cx (n+1) b 75 [.ls 1 (tsR l) z] h=some (x,h'))∧(∀(h2:Hp),(∀(i:Nat) (b:Blk),h.length≤i→h'[i]?=some b→h2[i]?=some b)→∃y,(∀m,Ae.snap h2 (m+1) x=some y)∧nfS 1 y= .ls 1 (tsR l) false)∧(∀(i:Nat) (b:Blk),h[i]?=some b→h'[i]?=some b)∧(∀v:Value,x≠ .pn v)∧cls x=some [x]:=by
 have f1:=fun bb=>cln_String n bb (tsR l) z h (by rw[tsR_length];exact hl) (tsR_all _).1
 cases hl0:(tsR l).isEmpty with
 |
  true=>
  rw[hl0]at f1;have e:tsR l=[]:=List.isEmpty_iff.1 hl0;exact⟨_,_,f1,fun h2 _=>⟨.ls 1 [] true,fun m=>by simp[Ae.snap],by simp[nfS,e]⟩,fun i b q=>q,by simp,rfl⟩
 |
  false=>
  rw[hl0]at f1;refine⟨_,_,f1,fun h2 hh=>⟨.ls 1 (tsR l) false,fun m=>?_,by simp[nfS]⟩,fun i b q=>?_,by simp,rfl⟩
  ·have a:(h++[Blk.dead,.row (tsR l).flatten])[h.length+1]?=some (.row (tsR l).flatten):=by rw[Zf (by omega)];simp
   exact snap_flat (h:=h2) (n:=m) (id:=h.length+1) (sz:=1) (rows:=tsR l) (cs:=(tsR l).flatten) (by omega) (tsR_all l).1 (tsR_all l).2 (rowOf_row (hh _ _ (by omega) a)) (by
    rw[List.take_of_length_le];rw[flatten_length _ (tsR_all l).1];exact Nat.le_refl _) (by rw[flatten_length _ (tsR_all l).1];exact Nat.le_refl _)
  ·exact(show At h i b from q).app _
end
end Go.Proofs.YtadaeokidcgdlaaGreatDoor
