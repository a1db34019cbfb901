/- Bags of rows: the program's and the reference's. -/
import Derived.Test.YtiefabpageilbaaGreatDoorP31
import Derived.Test.YtiefabpageilbaaGreatDoorP30
import Derived.Test.YtiefabpageilbaaGreatDoorP25
set_option linter.all false
set_option maxRecDepth 100000
namespace Go.Proofs.YtiefabpageilbaaGreatDoor
open Go Go.Ae
section
attribute [local simp] aop aopW coldF extF putA ofConst flat scalarOp fastOp binFast intOp strOp guardX Ae.part rowOf szOk natOf lenA cls fillA newsOf isNilC cellX
set_option maxHeartbeats 32000000
theorem r_Norm_nil (n:Nat)(b:Bool)(h:Hp):callN cx (n+1) b 9 [.sc (.slice none 0 0)] h=some (.ls 2 [] false,h):=by
 refine kx_call (f:=9) (n:=n) (args:=[.sc (.slice none 0 0)]) (.ls 2 [] false) ⟨Tryz.f9.ntmps,(Tryz.f9.body).getD .skip,[.tmp 2]⟩ (by kernel_rfl) (by kernel_rfl) rfl (by kernel_rfl) (by simp[Tryz.f9]) rfl ?_ (by decide) b h;have hkx:kx 9=2:=by decide
 rw[hkx];simp[Tryz.f9];refine loop_up (C:=cx) (G:=fun r=>∃r0 h',finX _ (thenX _ _ (blockX _ r) _)=some (r0,h')∧∃r',Ae.snap h' 8 r0=some r'∧nfX 2 r'= .ls 2 [] false)
  (fun i s=>i=0∧s.1.length=124∧gt s.1 0= .sc (.slice none 0 0)∧gt s.1 3= .sc (.slice none 0 0)∧gt s.1 4= .sc (.int .i64 0))
  (fun o s=>o= .exit 0∧s.1.length=124∧gt s.1 3= .sc (.slice none 0 0)) 0 (by simp) ⟨rfl,rfl,rfl,rfl,rfl⟩ ?_ ?_
 ·rintro j fr hp2 _ ⟨rfl,hlen,g0,g3,g4⟩;simp only at hlen g0 g3 g4;simp[hlen,g0,g3,g4]
 ·rintro o fr hp hn ⟨rfl,hlen,g3⟩;simp only at hlen g3;simp[hlen,g3];refine loop_up (C:=cx) (G:=fun r=>∃r0 h',finX _ (thenX _ _ (blockX _ r) _)=some (r0,h')∧∃r',Ae.snap h' 8 r0=some r'∧nfX 2 r'= .ls 2 [] false)
   (fun j s=>j=0∧s.1.length=124∧gt s.1 3= .sc (.slice none 0 0)∧gt s.1 7= .sc (.slice none 0 0)∧gt s.1 8= .sc (.int .i64 0))
   (fun o s=>o= .exit 4∧s.1.length=124∧gt s.1 7= .sc (.slice none 0 0)) 0 (by simp) ⟨rfl,by simp[hlen],by simp[hlen,g3],by simp[hlen],by simp[hlen]⟩ ?_ ?_
  ·rintro j fr hp2 _ ⟨rfl,hlen,g3,g7,g8⟩;simp only at hlen g3 g7 g8;simp[hlen,g3,g7,g8]
  ·rintro o fr hp2 hn ⟨rfl,hlen,g7⟩;simp only at hlen g7;simp[hlen,g7];refine⟨_,_,⟨rfl,rfl⟩,_,rfl,rfl⟩
theorem mask_at {h:Hp}{id:Nat}{b:Blk}(hid:h[id]?=some b):(mask [id] h)[id]?=some b:=by
 have hl:=(Za.1 hid).1;unfold mask;rw[Zs,List.getElem?_range hl];simp[List.getD,hid]
theorem bag_frz {f:FuncId}{n:Nat}{S:List (Rw × Int)}{r:AV}(hs:cx.srt f=none)(hi:cx.inl f=false)(hr:scalarRes r=false)(id:Nat)(h:Hp)(hid:h[id]?=some (.row (S.flatMap encS)))(hcall:∀h,callN cx (n+1) true f [.ls 2 (bagR S) false] h=some (r,h)):
 ∃h',callN cx (n+1) true f [.sl id 2 0 S.length false] h=some (r,h'):=by
 have hall:=bagR_all S;rw[bagR_flat]at hall;have hid0:h[id]?=some (.row (S.flatMap encS++[])):=by rw[Yf];exact hid
 have hre:[AV.sl id 2 0 S.length false].flatMap (reach h 8)=[id]:=by
  have e:reach h 8 (.sl id 2 0 S.length false)=id::((rowOf h id).getD []).flatMap (reach h 7):=rfl;have e2:rowOf h id=some (S.flatMap encS):=rowOf_row hid;rw[List.flatMap_cons,List.flatMap_nil,e,e2,Option.getD_some,flat_calm1 hall.2];rfl
 have hfz:∃h',Ae.freeze [id] h=some h':=by
  refine⟨_,mapM_all (g:=fun i=>if i=id then .ice (S.flatMap encS)else h.getD i .dead) _ fun i hi=>?_⟩;have hil:i<h.length:=by simpa using hi
  by_cases e:i=id
  ·subst e;have hc:[i].contains i=true:=by simp
   rw[if_pos hc,hid];simp only[mapM_calm1 hall.2,Option.map_some,if_true]
  ·have hc:¬ [id].contains i=true:=by simp[e]
   rw[if_neg hc,if_neg e,Zb hil];simp[List.getD,hil]
 obtain⟨h',hf⟩:=hfz;refine⟨h',call_frz (ys:=[.ls 2 (bagR S) false]) hs hi ?_ rfl rfl hr ?_ (by rw[hre];exact hf) (hcall h)⟩
 ·rw[Zo,bag_snap (n:=7) hid0];rfl
 ·rw[hre,Zo,bag_snap (n:=7) (mask_at hid0)];rfl
def ofZ (rows:List Rw):List (Rw × Int):=rows.map fun r=>(r,1)
def rwR (rows:List Rw):List (List AV):=rows.map fun r=> [AV.ls 5 (encL r.1) false]
theorem rwR_length (l:List Rw):(rwR l).length=l.length:=by simp[rwR]
theorem rwR_get (l:List Rw)(i:Nat):(rwR l)[i]?=(l[i]?).map fun r=> [AV.ls 5 (encL r.1) false]:=by simp[rwR]
theorem ofZ_take {l:List Rw}{i:Nat}{r:Rw}(h:l[i]?=some r):ofZ (l.take (i+1))=ofZ (l.take i)++[(r,1)]:=by
 unfold ofZ;rw[List.take_add_one,h];simp
theorem NR_snap {h h':Hp}{S:List (Rw × Int)}{r:AV}(q:NR h h' S r):(∃r',Ae.snap h' 8 r=some r'∧nfX 2 r'= .ls 2 (bagR S) false)∧∀v,r≠ .pn v:=by
 rcases q.2 with⟨rfl,rfl|⟨z,rfl⟩⟩|⟨_,id,rest,_,rfl,hid⟩
 ·exact⟨⟨_,rfl,rfl⟩,fun v=>by simp⟩
 ·exact⟨⟨_,rfl,rfl⟩,fun v=>by simp⟩
 ·exact⟨⟨_,bag_snap (n:=7) hid,rfl⟩,fun v=>by simp⟩
structure OfI (l:List Rw)(n t a k ll:Nat)(x:AV)(i:Nat)(s:St):Prop where
 le:i≤l.length
 len:s.1.length=n
 ga:gt s.1 a=x
 gk:gt s.1 k= .sc (.int .i64 (i:Nat))
 gl:ll=0∨gt s.1 ll= .sc (.int .i64 (l.length:Nat))
 bld:∃y,gt s.1 t=y∧Bld s.2 2 (bagR (ofZ (l.take i))) y
@[simp] theorem T_Notice :cx.T 26=some {size:=2,agg:=true,zero:=[.int .i64 0,.slice none 0 0],kd:= .struct [(0,1,false),(1,1,false)]}:=by kernel_rfl
@[simp] theorem T_Notices :cx.T 22=some {size:=1,agg:=false,zero:=[.slice none 0 0],kd:= .slice 2 true 32 [.int .i64 0,.slice none 0 0]}:=by kernel_rfl
@[simp] theorem L_Notices :isSlT cx 22=true:=by kernel_rfl
structure Nt where
 sub:Int
 diff:List (Rw × Int)
def encNt (n:Nt):List AV:=[.sc (.int .i64 n.sub),.ls 2 (bagR n.diff) false]
def ntR (l:List Nt):List (List AV):=l.map encNt
theorem ntR_length (l:List Nt):(ntR l).length=l.length:=by simp[ntR]
theorem ntR_get (l:List Nt)(i:Nat):(ntR l)[i]?=(l[i]?).map encNt:=by simp[ntR]
def selS (l:List Nt)(id:Int):List (Rw × Int):=l.flatMap fun n=>if n.sub=id then n.diff else[]
theorem selS_take {l:List Nt}{i:Nat}{n:Nt}(id:Int)(h:l[i]?=some n):selS (l.take (i+1)) id=selS (l.take i) id++(if n.sub=id then n.diff else[]):=by
 unfold selS;rw[List.take_add_one,h];simp
theorem selS_le (l:List Nt)(id:Int)(i:Nat):(selS (l.take i) id).length≤(selS l id).length:=by
 have:selS l id=selS (l.take i) id++selS (l.drop i) id:=by
  unfold selS;rw[←List.flatMap_append,List.take_append_drop]
 rw[this,Zu];omega
theorem Bld.more {h:Hp}{sz:Nat}{rows:List (List AV)}{x:AV}(hx:Bld h sz rows x)(c:List Blk):Bld (h++c) sz rows x:=by
 rcases hx with hx|⟨hne,id,e,hid⟩
 ·exact .inl hx
 ·refine .inr ⟨hne,id,e,?_⟩;rw[Zd (Za.1 hid).1];exact hid
theorem bld_appB (h:Hp)(S T:List (Rw × Int))(y:AV)(hy:Bld h 2 (bagR S) y)(hb:S.length+T.length≤1000000):
 ∃y' h',appendA cx h 24 y (.ls 2 (bagR T) false)=some (y',h')∧Bld h' 2 (bagR (S++T)) y':=by
 cases hT:T with
 |
  nil=>
  refine⟨y,h,?_,by rw[Yf];exact hy⟩;unfold appendA;rw[T_Bag];rcases hy with⟨_,rfl⟩|⟨_,id,rfl,hid⟩<;>rfl
 |
  cons p T'=>
  rw[←hT];have hTp:T≠ []:=by rw[hT];simp
  have ht0:¬T.length=0:=fun e=>hTp (Zl e)
  rcases hy with⟨hS,rfl⟩|⟨hS,id,rfl,hid⟩
  ·have hS0:S=[]:=by cases S with
    |nil=>rfl
    |cons _ _=>simp[bagR]at hS
   subst hS0;refine⟨.sl h.length 2 0 T.length false,h++[.row (T.flatMap encS)],?_,.inr ⟨by rw[List.nil_append];cases T with
    |nil=>exact absurd rfl hTp
    |cons _ _=>simp[bagR],h.length,by rw[List.nil_append,bagR_length],by rw[List.nil_append,bagR_flat];simp⟩⟩
   have c2:T.length≤maxLen:=by unfold maxLen;omega
   have c3:T.length*32≤140737488355328:=by omega
   unfold appendA;rw[T_Bag];simp only[szOk,newsOf,bagR_length,bagR_flat,beq_self_eq_true,Bool.and_self,if_true,ht0,if_false,c2,c3,and_self]
  ·rw[bagR_flat]at hid;rw[bagR_length];obtain⟨i2,H2,b1,b2,_⟩:=app_gen h id S.length T.length (S.flatMap encS) (T.flatMap encS) (.ls 2 (bagR T) false) hid (bag_len S) rfl (by show some ((bagR T).length,(bagR T).flatten)=_;rw[bagR_length,bagR_flat]) (bag_len T) (by omega);refine⟨_,H2,b1,.inr ⟨?_,i2,?_,?_⟩⟩
   ·cases T with
    |nil=>exact absurd rfl hTp
    |cons _ _=>simp[bagR]
   ·rw[bagR_length,Zu]
   ·rw[b2,bagR_flat,List.flatMap_append]
structure SumI (l:List Nt)(id:Int)(n k:Nat)(i:Nat)(s:St):Prop where
 le:i≤l.length
 len:s.1.length=n
 g1:gt s.1 1= .sc (.int .i64 id)
 gk:gt s.1 k= .sc (.int .i64 (i:Nat))
 bld:∃y,gt s.1 5=y∧Bld s.2 2 (bagR (selS (l.take i) id)) y
theorem p_Sum (N D:Nat)(b:Bool)(l:List Nt)(id:Int)(z:Bool)(h:Hp)(hl:l.length≤1000)(hB:BagB D (selS l id)):callN cx (N+2*D+13) b 6 [.ls 2 (ntR l) z,.sc (.int .i64 id)] h=some (.ls 2 (bagR (normS (selS l id))) false,h):=by
 refine kx_call (f:=6) (n:=N+2*D+12) (args:=[.ls 2 (ntR l) z,.sc (.int .i64 id)]) (.ls 2 (bagR (normS (selS l id))) false) ⟨Tryz.f6.ntmps,(Tryz.f6.body).getD .skip,[.tmp 4]⟩ (by kernel_rfl) (by kernel_rfl) rfl (by kernel_rfl) (by simp[Tryz.f6]) rfl ?_ (by decide) b h;have hkx:kx 6=2:=by decide
 rw[hkx];have f3:=fun(y:AV) (h:Hp) (hy:XF h y (selS l id))=>z_Norm N D true (selS l id) y h hB hy
 have hll:(selS l id).length≤1000000:=hB.len;have hsl:=selS_le l id;generalize N+2*D+12=M at f3⊢;have hq:=ntR_length l;have hg:=ntR_get l;generalize hbr:bagR (normS (selS l id))=res;generalize ntR l=rows at hq hg;simp[Tryz.f6,hq];refine loop_up (C:=cx) (G:=fun r=>∃r0 h',finX _ (thenX _ _ (blockX _ r) _)=some (r0,h')∧∃r',Ae.snap h' 8 r0=some r'∧nfX 2 r'= .ls 2 res false)
  (fun i s=>SumI l id 25 10 i s∧gt s.1 8= .ls 2 rows z∧gt s.1 9= .sc (.int .i64 (l.length:Nat))) (fun o s=>o= .exit 0∧SumI l id 25 10 l.length s) l.length (by simp;omega) ⟨⟨by omega,rfl,rfl,rfl,_,rfl,.inl ⟨rfl,rfl⟩⟩,rfl,rfl⟩ ?_ ?_
 ·rintro i fr hp _ ⟨⟨hi0,hlen,g1,g10,y,g5,hy⟩,g8,g9⟩;simp only at hlen g1 g8 g9 g10 g5 hy;have hi6:i≤1000000000000000:=by omega
  by_cases hi:i<l.length
  ·obtain⟨n,hx⟩:∃p,l[i]?=some p:=⟨_,Zb hi⟩;have hr:rows[i]?=some (encNt n):=by rw[hg,hx];rfl
   have hr':∀k,rows[i]'k=encNt n:=fun k=>by obtain⟨_,e⟩:=Za.1 hr;exact e
   have hst:=selS_take id hx;have hle2:=hsl (i+1);rw[hst,Zu]at hle2;unfold encNt at hr hr';have q3:=fun(ops:Array Oper) (d:Tmp) (rest:List Oper) (fr:List AV) (h:Hp)=>opP_np (C:=cx) (cal:=callN cx M true) (ops:=ops) (fun v=>hy.np v) d rest fr h
   by_cases hs:n.sub=id
   ·rw[if_pos hs]at hst hle2;obtain⟨y',h3,b1,b2⟩:=bld_appB (hp++[.row [.sc (.int .i64 n.sub),.ls 2 (bagR n.diff) false]]) (selS (l.take i) id) n.diff y (hy.more _) (by omega);have q4:=fun(ops:Array Oper) (d:Tmp) (rest:List Oper) (fr:List AV) (h:Hp)=>opP_np (C:=cx) (cal:=callN cx M true) (ops:=ops) (fun v=>b2.np v) d rest fr h
    rw[←hst]at b2;rw[hs]at b1 hr hr';generalize bagR n.diff=rd at b1 hr hr';simp[hlen,g1,g8,g9,g10,g5,q3,q4,hi,hq,hr,hr',sps,spA,b1,fit_succ hi6];exact⟨by omega,by simp[hlen],by simp[hlen,g1],by simp[hlen],y',by simp[hlen],b2⟩
   ·rw[if_neg hs,Yf]at hst;rw[←hst]at hy;simp[hlen,g1,g8,g9,g10,g5,hi,hq,hr,hr',sps,spA,hs,fit_succ hi6];exact⟨by omega,by simp[hlen],by simp[hlen,g1],by simp[hlen],y,by simp[hlen,g5],hy.more _⟩
  ·have hil:i=l.length:=Zz hi0 (Zy hi);subst hil;simp[hlen,g8,g9,g10];exact⟨hi0,by simp[hlen],by simp[hlen,g1],by simp[hlen,g10],y,by simp[hlen,g5],hy⟩
 ·rintro o fr hp hn ⟨rfl,hi0,hlen,g1,g10,y,g5,hy⟩;simp only at hlen g5 hy;rw[List.take_length]at hy;have hXF:XF hp y (selS l id):=by
   rcases hy with⟨hS0,rfl⟩|⟨hS1,id',rfl,hid⟩
   ·exact .inl ⟨by generalize selS l id=W at hS0;cases W with
     |nil=>rfl
     |cons _ _=>simp[bagR]at hS0,rfl⟩
   ·refine .inr (.inr ⟨fun e=>hS1 (by rw[e];rfl),id',[],by rw[bagR_length],by rw[Yf,←bagR_flat];exact hid⟩)
  obtain⟨r,h',e,hN⟩:=f3 y hp hXF;obtain⟨⟨r',s1,s2⟩,s3⟩:=NR_snap hN;have q3:=fun(ops:Array Oper) (d:Tmp) (rest:List Oper) (fr:List AV) (h:Hp)=>opP_np (C:=cx) (cal:=callN cx M true) (ops:=ops) (fun v=>hy.np v) d rest fr h
  have q4:=fun(ops:Array Oper) (d:Tmp) (rest:List Oper) (fr:List AV) (h:Hp)=>opP_np (C:=cx) (cal:=callN cx M true) (ops:=ops) s3 d rest fr h
  simp[hlen,g5,q3,e,q4];exact⟨_,_,⟨rfl,rfl⟩,_,s1,by rw[s2,hbr]⟩
theorem r49_Sum (N D:Nat)(b:Bool)(l:List Nt)(id:Int)(z:Bool)(h:Hp)(hl:l.length≤1000)(hB:BagB D (selS l id)):callN cx (N+3*D+10) b 8 [.ls 2 (ntR l) z,.sc (.int .i64 id)] h=some (.ls 2 (bagR (normS (selS l id))) false,h):=by
 refine kx_call (f:=8) (n:=N+3*D+9) (args:=[.ls 2 (ntR l) z,.sc (.int .i64 id)]) (.ls 2 (bagR (normS (selS l id))) false) ⟨Tryz.f8.ntmps,(Tryz.f8.body).getD .skip,[.tmp 4]⟩ (by kernel_rfl) (by kernel_rfl) rfl (by kernel_rfl) (by simp[Tryz.f8]) rfl ?_ (by decide) b h;have hkx:kx 8=2:=by decide
 rw[hkx];have f1:=fun b h=>r_Norm N D b (selS l id) false h hB
 have f2:=fun b h=>r_Norm_nil (N+3*D+8) b h
 have f3:=fun id' h hid=>bag_frz (f:=9) (n:=N+3*D+8) (S:=selS l id) (r:= .ls 2 (bagR (normS (selS l id))) false) rfl (by kernel_rfl) rfl id' h hid (fun h=>f1 true h)
 have hll:(selS l id).length≤1000000:=hB.len;have hsl:=selS_le l id;rw[show N+3*D+8+1=N+3*D+9 by omega]at f2;simp only[show N+3*D+8+1=N+3*D+9 by omega]at f3;generalize N+3*D+9=M at f2 f3⊢;clear f1;have hq:=ntR_length l;have hg:=ntR_get l;have hno:selS l id=[]→bagR (normS (selS l id))=[]:=fun e=>by rw[e];rfl
 generalize hbr:bagR (normS (selS l id))=res at f3 hno⊢;generalize ntR l=rows at hq hg;simp[Tryz.f8];refine loop_up (C:=cx) (G:=fun r=>∃r0 h',finX _ (thenX _ _ (blockX _ r) _)=some (r0,h')∧∃r',Ae.snap h' 8 r0=some r'∧nfX 2 r'= .ls 2 res false)
  (fun i s=>SumI l id 29 6 i s∧gt s.1 0= .ls 2 rows z) (fun o s=>o= .exit 0∧SumI l id 29 6 l.length s) l.length (by simp;omega) ⟨⟨by omega,rfl,rfl,rfl,_,rfl,.inl ⟨rfl,rfl⟩⟩,rfl⟩ ?_ ?_
 ·rintro i fr hp _ ⟨⟨hi0,hlen,g1,g6,y,g5,hy⟩,g0⟩;simp only at hlen g1 g0 g6 g5 hy;have hi6:i≤1000000000000000:=by omega
  by_cases hi:i<l.length
  ·obtain⟨n,hx⟩:∃p,l[i]?=some p:=⟨_,Zb hi⟩;have hr:rows[i]?=some (encNt n):=by rw[hg,hx];rfl
   have hr':∀k,rows[i]'k=encNt n:=fun k=>by obtain⟨_,e⟩:=Za.1 hr;exact e
   have hst:=selS_take id hx;have hle2:=hsl (i+1);rw[hst,Zu]at hle2;unfold encNt at hr hr';have q3:=fun(ops:Array Oper) (d:Tmp) (rest:List Oper) (fr:List AV) (h:Hp)=>opP_np (C:=cx) (cal:=callN cx M true) (ops:=ops) (fun v=>hy.np v) d rest fr h
   by_cases hs:n.sub=id
   ·rw[if_pos hs]at hst hle2;obtain⟨y',h3,b1,b2⟩:=bld_appB hp (selS (l.take i) id) n.diff y hy (by omega);have q4:=fun(ops:Array Oper) (d:Tmp) (rest:List Oper) (fr:List AV) (h:Hp)=>opP_np (C:=cx) (cal:=callN cx M true) (ops:=ops) (fun v=>b2.np v) d rest fr h
    rw[←hst]at b2;rw[hs]at hr hr';generalize bagR n.diff=rd at b1 hr hr';simp[hlen,g1,g0,g6,g5,q3,q4,hi,hq,hr,hr',b1,fit_succ hi6];exact⟨by omega,by simp[hlen],by simp[hlen,g1],by simp[hlen],y',by simp[hlen],b2⟩
   ·rw[if_neg hs,Yf]at hst;rw[←hst]at hy;simp[hlen,g1,g0,g6,g5,hi,hq,hr,hr',hs,fit_succ hi6];exact⟨by omega,by simp[hlen],by simp[hlen,g1],by simp[hlen],y,by simp[hlen,g5],hy⟩
  ·have hil:i=l.length:=Zz hi0 (Zy hi);subst hil;simp[hlen,g0,g6,hq];exact⟨hi0,by simp[hlen],by simp[hlen,g1],by simp[hlen,g6],y,by simp[hlen,g5],hy⟩
 ·rintro o fr hp hn ⟨rfl,hi0,hlen,g1,g6,y,g5,hy⟩;simp only at hlen g5 hy;rw[List.take_length]at hy;rcases hy with⟨hS0,rfl⟩|⟨hS1,id',rfl,hid⟩
  ·have hle:selS l id=[]:=by
    generalize selS l id=W at hS0;cases W with
    |nil=>rfl
    |cons _ _=>simp[bagR]at hS0
   rw[hno hle];simp[hlen,g5,f2];exact⟨_,_,⟨rfl,rfl⟩,_,rfl,rfl⟩
  ·rw[bagR_flat]at hid;rw[bagR_length]at g5;obtain⟨h',e⟩:=f3 id' hp hid;simp[hlen,g5,e];exact⟨_,_,⟨rfl,rfl⟩,_,rfl,rfl⟩
theorem l49_same (N D:Nat)(b:Bool)(S:List (Rw × Int))(h:Hp)(hB:BagB D S):callN cx (N+3*D+9) b 7 [.ls 2 (bagR S) false,.ls 2 (bagR S) false] h=some (.sc (.bool true),h):=by
 refine pure_calm (n:=N+3*D+8) (r:= .sc (.bool true)) ⟨Tryz.f7.ntmps,(Tryz.f7.body).getD .skip,[.tmp 4]⟩ (by kernel_rfl) (by kernel_rfl) rfl (by kernel_rfl) (by simp[Tryz.f7]) rfl rfl ?_ b h;have fcmp:∀p∈S,∀b h,callN cx (N+3*D+8) b 19 [.ls 5 (encL p.1.1) false,.ls 5 (encL p.1.1) false] h=some (.sc (.int .i64 0),h):=fun p hp b h=>by
  have hq:=hB.row p hp;have:=r_OrderRows N D p.1.1 p.1.1 b h (by have:=hq.len;omega) (by have:=hq.len;omega) hq.dep hq.dep;rw[this,show ordL p.1.1 p.1.1=0 from ordL_all.self trivial]
 have hSl:=hB.len;generalize N+3*D+8=M at fcmp⊢;have hq:=bagR_length S;have hg:=bagR_get S;generalize bagR S=rows at hq hg;simp[Tryz.f7,hq];refine loop_up (C:=cx) (G:=fun r=>∃h',finX _ (thenX _ _ (blockX _ r) _)=some (_,h'))
  (fun i s=>i≤S.length∧s.1.length=42∧gt s.1 0= .ls 2 rows false∧gt s.1 1= .ls 2 rows false∧gt s.1 12= .sc (.int .i64 (S.length:Nat))∧gt s.1 13= .sc (.int .i64 (i:Nat)))
  (fun o s=>o= .exit 0∧s.1.length=42) S.length (by simp;omega) ⟨by omega,rfl,rfl,rfl,rfl,rfl⟩ ?_ ?_
 ·rintro i fr hp _ ⟨hi0,hlen,g0,g1,g12,g13⟩;simp only at hlen g0 g1 g12 g13;have hi6:i≤1000000000000000:=by omega
  by_cases hi:i<S.length
  ·obtain⟨p,hx⟩:∃p,S[i]?=some p:=⟨_,Zb hi⟩;have hr:rows[i]?=some (encS p):=by rw[hg,hx];rfl
   have hr':∀k,rows[i]'k=encS p:=fun k=>by obtain⟨_,e⟩:=Za.1 hr;exact e
   have fc:=fcmp p (Zi hx);unfold encS at hr hr';simp[hlen,g0,g1,g12,g13,hi,hq,hr,hr',fc,fit_succ hi6];omega
  ·have hil:i=S.length:=Zz hi0 (Zy hi);subst hil;simp[hlen,g0,g1,g12,g13,hq]
 ·rintro o fr hp hn ⟨rfl,hlen⟩;simp only at hlen;simp[hlen]
end
theorem weiL_pos {l:List V}{b m:Int}(h:0≤weiL l b m):0≤b:=by
 cases l with
 |nil=>rwa [weiL]at h
 |
  cons x xs=>
  rw[weiL]at h;split at h
  ·assumption
  ·omega
mutual
theorem zk_lightV :∀(v:V) (b m:Int),0≤weiV v b m→((zkV v).length:Int)+200*weiV v b m≤200*b
 |
  .mk k n d s z l,b,m,h=>by
  rw[weiV]at h⊢;split at h
  ·omega
  ·rename_i hm;rw[if_neg hm];have ih:=zk_lightL l _ m h;have e1:=itoaC_len k;have e2:=itoaC_len n;have e3:=itoaC_len d;have e4:=itoaC_len s.size;have e5:=itoaC_len l.length;have e6:s.data.toList.length=s.size:=rfl;rw[zkV];simp only[Zu,List.length_cons,List.length_nil,e6];generalize weiL l (b-1-(s.size:Int)/50) m=r at *;omega
theorem zk_lightL :∀(l:List V) (b m:Int),0≤weiL l b m→((zkL l).length:Int)+200*weiL l b m≤200*b
 |
  [],b,m,h=>by
  rw[weiL,zkL];simp
 |
  x::xs,b,m,h=>by
  rw[weiL]at h⊢;split at h
  ·rename_i hb;rw[if_pos hb];have i1:=zk_lightL xs _ m h;have i2:=zk_lightV x b (m-1) (weiL_pos h);rw[zkL,Zu];omega
  ·omega
end
mutual
theorem zk_wei_le :∀(v:V) (b m:Int),0≤b→weiV v b m≤b
 |
  .mk k n d s z l,b,m,h=>by
  rw[weiV];split
  ·omega
  ·have h2:(0:Int)≤(s.size:Int)/50:=by omega
   by_cases h3:0≤b-1-(s.size:Int)/50
   ·have:=zk_wei_leL l _ m h3;omega
   ·cases l with
    |nil=>rw[weiL];omega
    |cons x xs=>rw[weiL,if_neg h3];omega
theorem zk_wei_leL :∀(l:List V) (b m:Int),0≤b→weiL l b m≤b
 | [],b,m,h=>by rw[weiL];exact Int.le_refl _
 |
  x::xs,b,m,h=>by
  rw[weiL,if_pos h];have h1:=zk_wei_le x b (m-1) h;by_cases h2:0≤weiV x b (m-1)
  ·have:=zk_wei_leL xs _ m h2;omega
  ·cases xs with
   |nil=>rw[weiL];exact h1
   |cons y ys=>rw[weiL,if_neg h2];exact h1
end
theorem zk_light {l:List V}{b m:Int}(h:0≤weiL l b m)(hb:b≤1000):(zkR l).length≤1000000000000:=by
 have h1:=zk_lightL l b m h;have h2:=itoaC_len l.length;unfold zkR;rw[Zu,List.length_cons,Zu,List.length_cons,List.length_nil];omega
section
attribute [local simp] aop aopW coldF extF putA ofConst flat scalarOp fastOp binFast intOp strOp guardX Ae.part rowOf szOk natOf lenA cls fillA newsOf isNilC cellX
set_option maxHeartbeats 32000000
def negN (n:Int):Int:=fitI .i64 (-n)
def negF (S:List (Rw × Int)):List (Rw × Int):=S.map fun p=>(p.1,negN p.2)
theorem insV_num (S:List (Rw × Int))(r:Rw)(n:Int)(hn:i64 n)(hS:∀q∈S,i64 q.2):∀q∈insV addZ S r n,i64 q.2:=by
 induction S with
 |nil=>intro q hq;simp[insV]at hq;rw[hq];exact hn
 |
  cons p S ih=>
  intro q hq;rw[insV]at hq;split at hq
  ·rcases List.mem_cons.1 hq with rfl|h
   ·exact fit_range _
   ·exact hS q (List.mem_cons_of_mem _ h)
  ·rcases List.mem_cons.1 hq with rfl|h
   ·exact hS _ (by simp)
   ·exact ih (fun x hx=>hS x (List.mem_cons_of_mem _ hx)) q h
theorem sumV_num (Z:List (Rw × Int))(hZ:∀p∈Z,i64 p.2):∀q∈sumV addZ Z,i64 q.2:=by
 have key:∀(Z S:List (Rw × Int)),(∀p∈Z,i64 p.2)→(∀q∈S,i64 q.2)→∀q∈Z.foldl (fun s x=>insV addZ s x.1 x.2) S,i64 q.2:=by
  intro Z
  induction Z with
  |nil=>exact fun S _ h=>h
  |cons p Z ih=>exact fun S hZ hS=>ih _ (fun q hq=>hZ q (List.mem_cons_of_mem _ hq)) (insV_num S p.1 p.2 (hZ p (by simp)) hS)
 exact key Z [] hZ (fun _ h=>by simp at h)
theorem normS_mem {Z:List (Rw × Int)}{q:Rw × Int}(h:q∈normS Z):q∈sumV addZ Z:=((sum_perm (add:=addZ) ordR_tot Z).mem_iff).2 (List.mem_filter.1 h).1
theorem normS_len (Z:List (Rw × Int)):(normS Z).length≤Z.length:=by
 have h0:=(sum_perm (add:=addZ) ordR_tot Z).length_eq;have h1:=sumV_len Z;have h2:(normS Z).length≤(sumR ordR addZ Z).length:=List.length_filter_le _ _;omega
theorem normS_B {D:Nat}{Z:List (Rw × Int)}(h:BagB D Z):BagB D (normS Z):=
 ⟨fun p hp=>sumV_row Z h.row p (normS_mem hp),fun p hp=>sumV_num Z h.num p (normS_mem hp),Ye (normS_len Z) h.len⟩
structure NegI (S:List (Rw × Int))(id:Nat)(rest:List AV)(i:Nat)(s:St):Prop where
 le:i≤S.length
 len:s.1.length=24
 g3:gt s.1 3= .sl id 2 0 S.length false
 g8:gt s.1 8= .sc (.int .i64 (S.length:Nat))
 g9:gt s.1 9= .sc (.int .i64 (i:Nat))
 row:s.2[id]?=some (.row ((negF (S.take i)++S.drop i).flatMap encS++rest))
end
section
attribute [local simp] aop aopW coldF extF putA ofConst flat scalarOp fastOp binFast intOp strOp guardX Ae.part rowOf szOk natOf lenA cls fillA splice newsOf isNilC cellX
set_option maxHeartbeats 16000000
def tI (l:List Int):List (List AV):=l.map rowI
end
end Go.Proofs.YtiefabpageilbaaGreatDoor
