/- Is there an edge at a node: the reference's. -/
import Derived.Test.YtadaeokidcgdlaaGreatDoorP27
set_option linter.unusedSimpArgs false
set_option maxRecDepth 100000
namespace Go.Proofs.YtadaeokidcgdlaaGreatDoor
open Go Go.Ae
section
attribute [local simp] aop aopW coldF extF putA ofConst flat scalarOp fastOp binFast intOp strOp guardX Ae.part rowOf szOk natOf lenA cls fillA splice newsOf isNilC cellX
set_option maxHeartbeats 32000000
@[simp] theorem T_api_Adj :cx.T 331=some {size:=3,agg:=true,zero:=[.int .i64 (0),.int .i64 (0),.int .i64 (0)],kd:= .struct [(0,1,false),(1,1,false),(2,1,false)]}:=by kernel_rfl
@[simp] theorem T_s_api_Adj :cx.T 311=some {size:=1,agg:=false,zero:=[.slice none 0 0],kd:= .slice 3 true 24 [.int .i64 (0),.int .i64 (0),.int .i64 (0)]}:=by kernel_rfl
@[simp] theorem L_adjs :isSlT cx 311=true:=by kernel_rfl
def adjS (e:Ed)(x:Int):Int × Int × Int:=if e.src=x then(x,e.dst,e.id)else if e.dst=x then(x,e.src,e.id)else(0,0,0)
def touS (x:Int)(e:Ed):Bool:=decide (e.src=x)||decide (e.dst=x)
def adjC (p:Int × Int × Int):List AV:=[.sc (.int .i64 p.1),.sc (.int .i64 p.2.1),.sc (.int .i64 p.2.2)]
theorem r07_step (n:Nat)(b:Bool)(e:Ed)(x:Int)(h:Hp):callN cx (n+1) b 335 [.ag (encE e),.sc (.int .i64 x),.sc (.int .i64 3)] h=some (.tp [.ag (adjC (adjS e x)),.sc (.bool (touS x e))],h):=by
 refine pure_tup (xs:=[.ag (adjC (adjS e x)),.sc (.bool (touS x e))]) ⟨Tryz.f335.ntmps,(Tryz.f335.body).getD .skip,[.cell 6 3 true,.tmp 7]⟩ (by kernel_rfl) (by kernel_rfl) rfl (by kernel_rfl) (by simp[Tryz.f335]) rfl rfl ?_ b h;by_cases h1:e.src=x
 ·simp[Tryz.f335,encE,h1,adjS,touS,adjC]
 ·by_cases h2:e.dst=x
  ·simp[Tryz.f335,encE,h1,h2,adjS,touS,adjC]
  ·simp[Tryz.f335,encE,h1,h2,adjS,touS,adjC]
theorem r07_HasType0 (n:Nat)(b:Bool)(e:Ed)(h:Hp):callN cx (n+1) b 336 [.ag (encE e),.sc (.slice none 0 0)] h=some (.sc (.bool true),h):=by
 refine pure_calm (r:= .sc (.bool true)) ⟨Tryz.f336.ntmps,(Tryz.f336.body).getD .skip,[.tmp 4]⟩ (by kernel_rfl) (by kernel_rfl) rfl (by kernel_rfl) (by simp[Tryz.f336]) rfl rfl ?_ b h;simp[Tryz.f336,encE]
def isI :AV→Bool| .sc (.int .i64 _)=>true|_=>false
def AllI (cs:List AV):Prop:=cs.all isI=true
def OwnI (h:Hp)(m:Nat)(y:AV):Prop:=(m=0∧y= .sc (.slice none 0 0))∨(0<m∧∃id cs,y= .sl id 3 0 m false∧h[id]?=some (.row cs)∧cs.length=m*3∧cs.all isI=true)
theorem isI_at {cs:List AV}(h:cs.all isI=true){j:Nat}(hj:j<cs.length):∃v,cs[j]?=some (.sc (.int .i64 v)):=by
 have:=(List.all_eq_true.1 h) _ (List.getElem_mem hj);rw[Zb hj]
 revert this
 cases cs[j]with
 |
  sc v=>cases v with
  |int k v=>cases k<;>simp[isI]
  |_=>simp[isI]
 |_=>simp[isI]
theorem isI_calm {cs:List AV}(h:cs.all isI=true):cs.all calm1=true:=by
 rw[List.all_eq_true]at h⊢;intro x hx;have:=h x hx;cases x<;>simp[isI]at this<;>rfl
theorem ownI_app (h:Hp)(m:Nat)(y:AV)(p:Int × Int × Int)(hy:OwnI h m y)(hm:m≤100000):∃id h2 cs,appendA cx (h++[.row (adjC p)]) 311 y (.sl h.length 3 0 1 false)=some (.sl id 3 0 (m+1) false,h2)∧h2[id]?=some (.row cs)∧cs.length=(m+1)*3∧cs.all isI=true∧
 (∀j b,h[j]?=some b→(∀k n,y= .sl k 3 0 n false→j≠k)→h2[j]?=some b)∧h.length≤id:=by
 rcases hy with⟨rfl,rfl⟩|⟨hpos,id,cs,rfl,hid,hlen,hall⟩
 ·refine⟨_,_,adjC p,app_nil T_s_api_Adj rfl h (adjC p) rfl (by omega),?_,rfl,rfl,fun j b hj _=>?_,by omega⟩
  ·rw[show h++[Blk.row (adjC p),Blk.row (adjC p)]=(h++[Blk.row (adjC p)])++[Blk.row (adjC p)] by simp,Zf (by simp)];simp
  ·have:=(Za.1 hj).1;rw[Zd this];exact hj
 ·refine⟨_,_,cs++adjC p,app_own T_s_api_Adj rfl h (adjC p) cs id m hid rfl hlen (by omega) (by omega) (by omega),?_,by simp[adjC,hlen];omega,by rw[List.all_append,hall];rfl,fun j b hj hjk=>?_,by omega⟩
  ·rw[Zf (by simp)];simp
  ·have hjl:=(Za.1 hj).1;have hjn:j≠id:=hjk id _ rfl;rw[Zd (by simp;omega),Zq (fun e=>hjn e.symm),Zd hjl];exact hj
theorem isI_splice {cs vs:List AV}{off:Nat}(h:cs.all isI=true)(k:vs.all isI=true):(splice cs off vs).all isI=true:=by
 rw[List.all_eq_true]at *;intro x hx;simp only[splice,Ya]at hx;rcases hx with(hx|hx)|hx
 ·exact h x (List.mem_of_mem_take hx)
 ·exact k x hx
 ·exact h x (List.mem_of_mem_drop hx)
theorem row3 {cs:List AV}(h:cs.all isI=true){k:Nat}(hk:k*3+3≤cs.length):∃a b c,(cs.drop (k*3)).take 3=[.sc (.int .i64 a),.sc (.int .i64 b),.sc (.int .i64 c)]∧cs[k*3+1]?=some (.sc (.int .i64 b))∧cs[k*3+2]?=some (.sc (.int .i64 c)):=by
 obtain⟨a,ha⟩:=isI_at h (j:=k*3) (by omega);obtain⟨b,hb⟩:=isI_at h (j:=k*3+1) (by omega);obtain⟨c,hc⟩:=isI_at h (j:=k*3+2) (by omega);refine⟨a,b,c,?_,hb,hc⟩;apply List.ext_getElem?;intro j;rw[List.getElem?_take]
 match j with
 |0=>simp[List.getElem?_drop,ha]
 |1=>simp[List.getElem?_drop,hb]
 |2=>simp[List.getElem?_drop,hc]
 |j+3=>rw[if_neg (by omega)];rfl
theorem loop_ex {call:Bool→FuncId→List AV→Hp→Option (AV × Hp)}(Inv:Nat→St→Prop)(Q:Out→St→Prop)(k:Nat)(hk:k<cx.fuel)(X:Option (Out × St))(c:Code)(fr:List AV)(h:Hp)(hX:exec2 cx call (.loop c) (fr,h)=X)(hI:Inv k (fr,h))
 (step:∀k fr h,Inv k (fr,h)→RoundX Inv Q k (exec2 cx call c (fr,h))):∃o fr' h',X=some (o,(fr',h'))∧Q o (fr',h'):=by
 subst hX;exact loop_down (C:=cx) (G:=fun r=>∃o fr' h',r=some (o,(fr',h'))∧Q o (fr',h')) Inv Q k hk hI step (fun o fr h _ hq=>⟨o,fr,h,rfl,hq⟩)
theorem r07_Steps (n:Nat)(g:Gr)(x:Int)(hl:g.edges.length≤100000):
 ∃r,(∃rows:List (List AV),rows.length=(g.edges.filter (touS x)).length∧(r= .ls 3 rows false∨(rows=[]∧r= .sc (.slice none 0 0))))∧∀b h,callN cx (n+2) b 299 [.ag (encG g),.sc (.int .i64 x),.sc (.slice none 0 0),.sc (.int .i64 3)] h=some (r,h):=by
 refine pure_ex (f:=299) (n:=n+1) (args:=[.ag (encG g),.sc (.int .i64 x),.sc (.slice none 0 0),.sc (.int .i64 3)]) (fun r=>∃rows:List (List AV),rows.length=(g.edges.filter (touS x)).length∧(r= .ls 3 rows false∨(rows=[]∧r= .sc (.slice none 0 0)))) ⟨Tryz.f299.ntmps,(Tryz.f299.body).getD .skip,[.tmp 8]⟩ (by kernel_rfl) (by kernel_rfl) rfl (by kernel_rfl) (by simp[Tryz.f299]) rfl ?_;have f1:=fun b e h=>r07_step n b e x h
 have f2:=fun b e h=>r07_HasType0 n b e h
 have hq:=edR_length g.edges;have hg:=edR_get g.edges;generalize hP:(fun i=>((g.edges.take i).filter (touS x)).length)=P;have h0:P 0=0:=by rw[←hP];rfl
 have hend:P g.edges.length=(g.edges.filter (touS x)).length:=by rw[←hP];simp
 have hstep:∀{i:Nat} {d:Ed},g.edges[i]?=some d→P (i+1)=P i+(if touS x d then 1 else 0):=fun{i d} hc=>by
  rw[←hP];simp only[List.take_add_one,hc,Yn,Zu]
  congr 1
  cases hq:touS x d<;>simp[hq]
 have hle:∀i,P i≤g.edges.length:=fun i=>by rw[←hP];exact Ym (List.length_filter_le _ _) (by simp;omega)
 rw[←hend];clear hP hend;simp only[encE]at f1 f2;unfold encG edV;generalize edR g.edges=rows at hq hg;generalize n+1=M at f1 f2;simp[Tryz.f299];refine loop_up (C:=cx) (G:=fun r=>∃r0 h',finX _ (thenX _ _ (blockX _ r) _)=some (r0,h')∧∃r',snap h' 8 r0=some r'∧∃rows:List (List AV),rows.length=P g.edges.length∧(r'= .ls 3 rows false∨(rows=[]∧r'= .sc (.slice none 0 0))))
  (fun i s=>s.1.length=100∧gt s.1 1= .sc (.int .i64 x)∧gt s.1 2= .sc (.slice none 0 0)∧gt s.1 3= .sc (.int .i64 3)∧gt s.1 4= .pt 0 0∧gt s.1 10= .sc (.int .i64 i)∧s.2[0]?=some (.row [ndV g.nodes,.ls 5 rows false,.sc (.int .i64 g.nn),.sc (.int .i64 g.ne)])∧∃y,gt s.1 9=y∧OwnI s.2 (P i) y∧∀k n,y= .sl k 3 0 n false→0<k)
  (fun o s=>o= .exit 0∧s.1.length=100∧∃y,gt s.1 9=y∧OwnI s.2 (P g.edges.length) y) g.edges.length (by simp;omega) (by simp[h0,OwnI]) ?_ ?_
 ·rintro i fr h hle' ⟨hlen,e1,e2,e3,e4,e10,b0,y,e9,hy,hk0⟩;simp only at hlen e1 e2 e3 e4 e10 b0 e9 hy;have hlenh:0<h.length:=(Za.1 b0).1;by_cases hi:i<g.edges.length
  ·obtain⟨d,hc⟩:∃d,g.edges[i]?=some d:=⟨_,Zb hi⟩;have hr:rows[i]?=some [.sc (.int .i64 d.id),.sc (.int .i64 d.src),.sc (.int .i64 d.dst),.sc (.string d.type),prV d.props false]:=by rw[hg,hc];rfl
   have hr':∀k,rows[i]'k=[.sc (.int .i64 d.id),.sc (.int .i64 d.src),.sc (.int .i64 d.dst),.sc (.string d.type),prV d.props false]:=fun k=>by obtain⟨_,e⟩:=Za.1 hr;exact e
   have hf:=fit_succ (i:=i) (by omega);have hst:=hstep hc;have hPl:=hle i;have g1:=fun b h=>f1 b d h
   have g2:=fun b h=>f2 b d h
   generalize P i=m at hst hPl hy;generalize adjS d x=p at g1;have q0:=fun(ops:Array Oper) (d:Tmp) (rest:List Oper) (fr:List AV) (h:Hp)=>opP_np (C:=cx) (cal:=callN cx M true) (ops:=ops) (show∀v,y≠ .pn v from fun v=>by rcases hy with⟨_,rfl⟩|⟨_,id,cs,rfl,_⟩<;>simp) d rest fr h
   have z0:∀A,(h++[A])[0]?=some (.row [ndV g.nodes,.ls 5 rows false,.sc (.int .i64 g.nn),.sc (.int .i64 g.ne)]):=fun A=>by rw[Zd hlenh];exact b0
   have z0':∀A k,(h++[A])[0]'k= .row [ndV g.nodes,.ls 5 rows false,.sc (.int .i64 g.nn),.sc (.int .i64 g.ne)]:=fun A k=>by
    have:=z0 A;rw[Zb k]at this;simpa using this
   have zs:∀A B,(h++[A]).set h.length B=h++[B]:=fun A B=>by simp
   have hy1:OwnI (h++[Blk.row (adjC p)]) m y:=by
    rcases hy with hy|⟨h1,id,cs,h2,h3,h4,h5⟩
    ·exact .inl hy
    ·exact .inr ⟨h1,id,cs,h2,by rw[Zd (Za.1 h3).1];exact h3,h4,h5⟩
   cases ht:touS x d
   ·rw[ht]at g1;simp only[adjC]at hy1;simp[hlen,e1,e2,e3,e4,e9,e10,b0,z0',zs,hi,hq,hr,hr',hf,g1,hst,ht,adjC];exact⟨hy1,hk0⟩
   ·rw[ht]at g1;obtain⟨id,h2,cs,a1,a2,a3,a4,a5,a6⟩:=ownI_app (h++[Blk.row (adjC p)]) m y p hy1 (by omega);simp only[adjC]at a1 a5 a6 hy1;have w0:=a5 0 _ (z0 _) (fun k n e=>by have:=hk0 k n e;omega);have w1:=a5 h.length (.row [.sc (.int .i64 p.1),.sc (.int .i64 p.2.1),.sc (.int .i64 p.2.2)]) (by simp) (fun k n e=>by
     rcases hy with⟨_,rfl⟩|⟨_,id',cs',rfl,h3,_⟩
     ·cases e
     ·simp only[AV.sl.injEq]at e;have:=(Za.1 h3).1;omega)
    have hlen1:(h++[Blk.row [AV.sc (.int .i64 p.1),AV.sc (.int .i64 p.2.1),AV.sc (.int .i64 p.2.2)]]).length=h.length+1:=by simp
    rw[hlen1]at a1 a6;have a1':appendA cx (h++[Blk.row [AV.sc (.int .i64 p.1),AV.sc (.int .i64 p.2.1),AV.sc (.int .i64 p.2.2)],Blk.row [AV.sc (.int .i64 p.1),AV.sc (.int .i64 p.2.1),AV.sc (.int .i64 p.2.2)]]) 311 y (.sl (h.length+1) 3 0 1 false)=some (.sl id 3 0 (m+1) false,h2):=by simpa using a1
    have hnh:id≠h.length:=by omega
    have hn0:id≠0:=by omega
    have hpm:m≤100000:=by omega
    rcases hy with⟨hm0,rfl⟩|⟨hpos,id0,cs0,rfl,hid0,hcl0,hci0⟩
    ·simp[hlen,e1,e2,e3,e4,e9,e10,b0,z0',zs,hi,hq,hr,hr',hf,g1,g2,hst,ht,adjC,a1,a1',w0,w1];generalize hX:exec2 cx (callN cx M) (Code.loop _) _=X;obtain⟨o,fr1,h1,rfl,rfl,q0,q1,q2,q3,q4,q9,q10,q11,c0,c1,k,q13,hkm,cs1,c2,c3,c4⟩:=loop_ex (call:=callN cx M)
      (fun k s=>s.1.length=100∧gt s.1 1= .sc (.int .i64 x)∧gt s.1 2= .sc (.slice none 0 0)∧gt s.1 3= .sc (.int .i64 3)∧gt s.1 4= .pt 0 0∧gt s.1 9= .sl id 3 0 (m+1) false∧gt s.1 10= .sc (.int .i64 i)∧gt s.1 11= .pt h.length 0∧gt s.1 13= .sc (.int .i64 k)∧k≤m∧s.2[0]?=some (.row [ndV g.nodes,.ls 5 rows false,.sc (.int .i64 g.nn),.sc (.int .i64 g.ne)])∧s.2[h.length]?=some (.row [.sc (.int .i64 p.1),.sc (.int .i64 p.2.1),.sc (.int .i64 p.2.2)])∧∃cs,s.2[id]?=some (.row cs)∧cs.length=(m+1)*3∧AllI cs)
      (fun o s=>o= .exit 2∧s.1.length=100∧gt s.1 1= .sc (.int .i64 x)∧gt s.1 2= .sc (.slice none 0 0)∧gt s.1 3= .sc (.int .i64 3)∧gt s.1 4= .pt 0 0∧gt s.1 9= .sl id 3 0 (m+1) false∧gt s.1 10= .sc (.int .i64 i)∧gt s.1 11= .pt h.length 0∧s.2[0]?=some (.row [ndV g.nodes,.ls 5 rows false,.sc (.int .i64 g.nn),.sc (.int .i64 g.ne)])∧s.2[h.length]?=some (.row [.sc (.int .i64 p.1),.sc (.int .i64 p.2.1),.sc (.int .i64 p.2.2)])∧∃k:Nat,gt s.1 13= .sc (.int .i64 k)∧k≤m∧∃cs,s.2[id]?=some (.row cs)∧cs.length=(m+1)*3∧AllI cs) m (by simp;omega) X _ _ _ hX (by simp[hlen,e1,e2,e3,e4,e10,w0,w1,a2,a3,hm0];exact a4) (by
       rintro k fr1 h1 ⟨q0,q1,q2,q3,q4,q9,q10,q11,q13,hkm,c0,c1,cs1,c2,c3,c4⟩;simp only at q0 q1 q2 q3 q4 q9 q10 q11 q13 c0 c1 c2;rcases Nat.eq_zero_or_pos k with rfl|hkp
       ·simp[q0,q1,q2,q3,q4,q9,q10,q11,q13,c0,c1,c2];exact⟨0,rfl,by omega,c3,c4⟩
       ·obtain⟨k',rfl⟩:∃k',k=k'+1:=⟨k-1,by omega⟩;obtain⟨va,vb,vc,r1,r2,r3⟩:=row3 c4 (k:=k') (by omega);have ek:fitI .i64 (k':Int)=k':=fit_i64 (by omega) (by omega);have hkl:k'<m+1:=by omega
        have hz:(0:Int)≤(k':Int)+1:=by omega
        have hkl2:k'+1<m+1:=by omega
        have hk3:k'*3+3≤cs1.length:=by omega
        have hk4:(k'+1)*3+3≤cs1.length:=by omega
        have st:∀B,(h1.set id B)[0]?=h1[0]?∧(h1.set id B)[h.length]?=h1[h.length]?∧(h1.set id B)[id]?=some B:=fun B=>⟨Zq hn0,Zq hnh,Zj (Za.1 c2).1⟩
        have hsp:(splice cs1 ((k'+1)*3) [.sc (.int .i64 va),.sc (.int .i64 vb),.sc (.int .i64 vc)]).length=(m+1)*3:=by rw[splice_length (by simp;omega)];exact c3
        have hsa:=isI_splice (off:=(k'+1)*3) c4 (show[AV.sc (.int .i64 va),.sc (.int .i64 vb),.sc (.int .i64 vc)].all isI=true from rfl);by_cases k1:p.2.1<vb
        ·simp[q0,q1,q2,q3,q4,q9,q10,q11,q13,c0,c1,c2,r1,r2,r3,ek,hkl,hkl2,hk3,hk4,k1,st,hz];exact⟨k',by omega,rfl,by omega,by omega,by unfold splice at hsa;rw[Zp]at hsa;exact hsa⟩
        ·by_cases k2:p.2.1=vb
         ·by_cases k3:p.2.2<vc
          ·simp[q0,q1,q2,q3,q4,q9,q10,q11,q13,c0,c1,c2,r1,r2,r3,ek,hkl,hkl2,hk3,hk4,k1,k2,k3,st,hz];exact⟨k',by omega,rfl,by omega,by omega,by unfold splice at hsa;rw[Zp]at hsa;exact hsa⟩
          ·simp[q0,q1,q2,q3,q4,q9,q10,q11,q13,c0,c1,c2,r1,r2,r3,ek,hkl,hkl2,hk3,hk4,k1,k2,k3,st,hz];exact⟨k'+1,by omega,by omega,c3,c4⟩
         ·simp[q0,q1,q2,q3,q4,q9,q10,q11,q13,c0,c1,c2,r1,r2,r3,ek,hkl,hkl2,hk3,hk4,k1,k2,st,hz];exact⟨k'+1,by omega,by omega,c3,c4⟩)
     simp only at q0 q1 q2 q3 q4 q9 q10 q11 q13 c0 c1 c2;have hk3:k*3+3≤cs1.length:=by omega
     have hkl:k<m+1:=by omega
     have st:∀B,(h1.set id B)[0]?=h1[0]?∧(h1.set id B)[h.length]?=h1[h.length]?∧(h1.set id B)[id]?=some B:=fun B=>⟨Zq hn0,Zq hnh,Zj (Za.1 c2).1⟩
     have hsa:=isI_splice (off:=k*3) c4 (show(adjC p).all isI=true from rfl);have hsl:(splice cs1 (k*3) (adjC p)).length=(m+1)*3:=by rw[splice_length (by simp[adjC];omega)];exact c3
     simp only[splice,adjC,Zp]at hsa hsl;simp[q0,q1,q2,q3,q4,q9,q10,q11,q13,c0,c1,c2,hkl,hk3,hst,ht,hf,hi,st];exact⟨.inr ⟨by omega,id,_,rfl,(st _).2.2,hsl,hsa⟩,by omega⟩
    ·simp[hlen,e1,e2,e3,e4,e9,e10,b0,z0',zs,hi,hq,hr,hr',hf,g1,g2,hst,ht,adjC,a1,a1',w0,w1];generalize hX:exec2 cx (callN cx M) (Code.loop _) _=X;obtain⟨o,fr1,h1,rfl,rfl,q0,q1,q2,q3,q4,q9,q10,q11,c0,c1,k,q13,hkm,cs1,c2,c3,c4⟩:=loop_ex (call:=callN cx M)
      (fun k s=>s.1.length=100∧gt s.1 1= .sc (.int .i64 x)∧gt s.1 2= .sc (.slice none 0 0)∧gt s.1 3= .sc (.int .i64 3)∧gt s.1 4= .pt 0 0∧gt s.1 9= .sl id 3 0 (m+1) false∧gt s.1 10= .sc (.int .i64 i)∧gt s.1 11= .pt h.length 0∧gt s.1 13= .sc (.int .i64 k)∧k≤m∧s.2[0]?=some (.row [ndV g.nodes,.ls 5 rows false,.sc (.int .i64 g.nn),.sc (.int .i64 g.ne)])∧s.2[h.length]?=some (.row [.sc (.int .i64 p.1),.sc (.int .i64 p.2.1),.sc (.int .i64 p.2.2)])∧∃cs,s.2[id]?=some (.row cs)∧cs.length=(m+1)*3∧AllI cs)
      (fun o s=>o= .exit 2∧s.1.length=100∧gt s.1 1= .sc (.int .i64 x)∧gt s.1 2= .sc (.slice none 0 0)∧gt s.1 3= .sc (.int .i64 3)∧gt s.1 4= .pt 0 0∧gt s.1 9= .sl id 3 0 (m+1) false∧gt s.1 10= .sc (.int .i64 i)∧gt s.1 11= .pt h.length 0∧s.2[0]?=some (.row [ndV g.nodes,.ls 5 rows false,.sc (.int .i64 g.nn),.sc (.int .i64 g.ne)])∧s.2[h.length]?=some (.row [.sc (.int .i64 p.1),.sc (.int .i64 p.2.1),.sc (.int .i64 p.2.2)])∧∃k:Nat,gt s.1 13= .sc (.int .i64 k)∧k≤m∧∃cs,s.2[id]?=some (.row cs)∧cs.length=(m+1)*3∧AllI cs) m (by simp;omega) X _ _ _ hX (by simp[hlen,e1,e2,e3,e4,e10,w0,w1,a2,a3];exact a4) (by
       rintro k fr1 h1 ⟨q0,q1,q2,q3,q4,q9,q10,q11,q13,hkm,c0,c1,cs1,c2,c3,c4⟩;simp only at q0 q1 q2 q3 q4 q9 q10 q11 q13 c0 c1 c2;rcases Nat.eq_zero_or_pos k with rfl|hkp
       ·simp[q0,q1,q2,q3,q4,q9,q10,q11,q13,c0,c1,c2];exact⟨0,rfl,by omega,c3,c4⟩
       ·obtain⟨k',rfl⟩:∃k',k=k'+1:=⟨k-1,by omega⟩;obtain⟨va,vb,vc,r1,r2,r3⟩:=row3 c4 (k:=k') (by omega);have ek:fitI .i64 (k':Int)=k':=fit_i64 (by omega) (by omega);have hkl:k'<m+1:=by omega
        have hz:(0:Int)≤(k':Int)+1:=by omega
        have hkl2:k'+1<m+1:=by omega
        have hk3:k'*3+3≤cs1.length:=by omega
        have hk4:(k'+1)*3+3≤cs1.length:=by omega
        have st:∀B,(h1.set id B)[0]?=h1[0]?∧(h1.set id B)[h.length]?=h1[h.length]?∧(h1.set id B)[id]?=some B:=fun B=>⟨Zq hn0,Zq hnh,Zj (Za.1 c2).1⟩
        have hsp:(splice cs1 ((k'+1)*3) [.sc (.int .i64 va),.sc (.int .i64 vb),.sc (.int .i64 vc)]).length=(m+1)*3:=by rw[splice_length (by simp;omega)];exact c3
        have hsa:=isI_splice (off:=(k'+1)*3) c4 (show[AV.sc (.int .i64 va),.sc (.int .i64 vb),.sc (.int .i64 vc)].all isI=true from rfl);by_cases k1:p.2.1<vb
        ·simp[q0,q1,q2,q3,q4,q9,q10,q11,q13,c0,c1,c2,r1,r2,r3,ek,hkl,hkl2,hk3,hk4,k1,st,hz];exact⟨k',by omega,rfl,by omega,by omega,by unfold splice at hsa;rw[Zp]at hsa;exact hsa⟩
        ·by_cases k2:p.2.1=vb
         ·by_cases k3:p.2.2<vc
          ·simp[q0,q1,q2,q3,q4,q9,q10,q11,q13,c0,c1,c2,r1,r2,r3,ek,hkl,hkl2,hk3,hk4,k1,k2,k3,st,hz];exact⟨k',by omega,rfl,by omega,by omega,by unfold splice at hsa;rw[Zp]at hsa;exact hsa⟩
          ·simp[q0,q1,q2,q3,q4,q9,q10,q11,q13,c0,c1,c2,r1,r2,r3,ek,hkl,hkl2,hk3,hk4,k1,k2,k3,st,hz];exact⟨k'+1,by omega,by omega,c3,c4⟩
         ·simp[q0,q1,q2,q3,q4,q9,q10,q11,q13,c0,c1,c2,r1,r2,r3,ek,hkl,hkl2,hk3,hk4,k1,k2,st,hz];exact⟨k'+1,by omega,by omega,c3,c4⟩)
     simp only at q0 q1 q2 q3 q4 q9 q10 q11 q13 c0 c1 c2;have hk3:k*3+3≤cs1.length:=by omega
     have hkl:k<m+1:=by omega
     have st:∀B,(h1.set id B)[0]?=h1[0]?∧(h1.set id B)[h.length]?=h1[h.length]?∧(h1.set id B)[id]?=some B:=fun B=>⟨Zq hn0,Zq hnh,Zj (Za.1 c2).1⟩
     have hsa:=isI_splice (off:=k*3) c4 (show(adjC p).all isI=true from rfl);have hsl:(splice cs1 (k*3) (adjC p)).length=(m+1)*3:=by rw[splice_length (by simp[adjC];omega)];exact c3
     simp only[splice,adjC,Zp]at hsa hsl;simp[q0,q1,q2,q3,q4,q9,q10,q11,q13,c0,c1,c2,hkl,hk3,hst,ht,hf,hi,st];exact⟨.inr ⟨by omega,id,_,rfl,(st _).2.2,hsl,hsa⟩,by omega⟩
  ·have hil:i=g.edges.length:=by omega
   subst hil;simp[hlen,e1,e2,e3,e4,e9,e10,b0,hi,hq];exact hy
 ·rintro o fr h hn ⟨rfl,hlen,y,e9,hy⟩;simp only at hlen e9 hy;rcases hy with⟨hm0,rfl⟩|⟨hpos,id,cs,rfl,hid,hcl,hci⟩
  ·simp[hlen,e9];exact⟨_,_,⟨rfl,rfl⟩,_,rfl,[],by simp[hm0],.inr ⟨rfl,rfl⟩⟩
  ·simp[hlen,e9];refine⟨_,_,⟨rfl,rfl⟩,.ls 3 ((List.range (P g.edges.length)).map fun i=>(cs.drop (i*3)).take 3) false,?_,_,by simp,.inl rfl⟩;simp only[snap,rowOf_row hid,Nat.zero_add,Yg];rw[if_pos (by omega),List.take_of_length_le (by omega),mapM_calm1 (isI_calm hci)];rfl
theorem r08_Used (n:Nat)(b:Bool)(g:Gr)(x:Int)(h:Hp)(hl:g.edges.length≤100000):callN cx (n+3) b 220 [.ag (encG g),.sc (.int .i64 x)] h=some (.sc (.bool (g.edges.any (touS x))),h):=by
 refine pure_calm (n:=n+2) (r:= .sc (.bool (g.edges.any (touS x)))) ⟨Tryz.f220.ntmps,(Tryz.f220.body).getD .skip,[.tmp 4]⟩ (by kernel_rfl) (by kernel_rfl) rfl (by kernel_rfl) (by simp[Tryz.f220]) (calm_G _ _) rfl ?_ b h;obtain⟨r,⟨rows,h1,h2⟩,f1⟩:=r07_Steps n g x hl;have hany:g.edges.any (touS x)=decide (0<rows.length):=by
  rw[h1,Bool.eq_iff_iff,decide_eq_true_iff,List.length_pos_iff,List.any_eq_true];constructor
  ·rintro⟨e,he,ht⟩ hn;have:=List.mem_filter.2 ⟨he,ht⟩;rw[hn]at this;cases this
  ·intro hn;obtain⟨e,he⟩:=List.exists_mem_of_ne_nil _ hn;exact⟨e,(List.mem_filter.1 he).1,(List.mem_filter.1 he).2⟩
 simp only[encG]at f1;generalize n+2=M at f1;rw[hany];rcases h2 with rfl|⟨rfl,rfl⟩
 ·simp[Tryz.f220,encG,f1]
 ·simp[Tryz.f220,encG,f1]
end
end Go.Proofs.YtadaeokidcgdlaaGreatDoor
