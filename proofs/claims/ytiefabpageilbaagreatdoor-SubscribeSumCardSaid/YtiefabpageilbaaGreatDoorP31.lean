/- Bags summed up: the reference's. -/
import Derived.Test.YtiefabpageilbaaGreatDoorP29
import Derived.Test.YtiefabpageilbaaGreatDoorP30
set_option linter.all false
set_option maxRecDepth 100000
namespace Go.Proofs.YtiefabpageilbaaGreatDoor
open Go Go.Ae
section
attribute [local simp] aop aopW coldF extF putA ofConst flat scalarOp fastOp binFast intOp strOp guardX Ae.part rowOf szOk natOf lenA cls fillA newsOf isNilC cellX
set_option maxHeartbeats 32000000
theorem app_gen (H:Hp)(id n m:Nat)(cs news:List AV)(x:AV)(hid:H[id]?=some (.row cs))(hc:cs.length=n*2)(hx:szOk 2 x=true)(hn:newsOf H x=some (m,news))(hm:news.length=m*2)(hb:n+m≤1000000000):
 ∃id' H',appendA cx H 24 (.sl id 2 0 n false) x=some (.sl id' 2 0 (n+m) false,H')∧H'[id']?=some (.row (cs++news))∧(∀(j:Nat) (b:Blk),j≠id→H[j]?=some b→H'[j]?=some b)∧(id'=id∨H.length≤id')∧H.length≤H'.length:=by
 have hidl:id<H.length:=(Za.1 hid).1;by_cases h0:m=0
 ·subst h0;have:news=[]:=by cases news with
   |nil=>rfl
   |cons _ _=>simp at hm
  subst this;refine⟨id,H,?_,by rw[Yf];exact hid,fun j b _ h=>h,.inl rfl,Nat.le_refl _⟩;unfold appendA;rw[T_Bag];have hz:szOk 2 (.sl id 2 0 n false)=true:=rfl;simp only[hz,hx,Bool.and_self,if_true,hn,Nat.add_zero]
 ·refine⟨H.length,H.set id .dead++[.row (cs++news)],?_,?_,fun j b hj h=>?_,.inr (Nat.le_refl _),by simp⟩
  ·have c1:¬(0+(n+m)*2≤n*2):=by omega
   have c2:n+m≤maxLen:=by unfold maxLen;omega
   have c3:(n+m)*32≤140737488355328:=by omega
   unfold appendA;rw[T_Bag];have hz:szOk 2 (.sl id 2 0 n false)=true:=rfl;simp only[hz,hx,Bool.and_self,if_true,hn,h0,if_false,hid,c1,c2,c3,true_and,and_true,hc,and_self]
  ·rw[Zf (by simp)];simp
  ·have hjl:=(Za.1 h).1;rw[Zd (by simp;omega),Zq (fun e=>hj e.symm)];exact h
theorem spB (a b x:AV):splice [a,b] 1 [x]=[a,x]:=rfl
noncomputable def sliH (u v:AV):Option AV:=slowOp cx (fun o=>match o with| .tmp 0=>u|_=>v) {dst:=none,op:= .slice 24 (.tmp 0) none (some (.tmp 1)) none,type:=0,pos:= "",after:= #[],guard:=none}
noncomputable def sliL (u v:AV):Option AV:=slowOp cx (fun o=>match o with| .tmp 0=>u|_=>v) {dst:=none,op:= .slice 24 (.tmp 0) (some (.tmp 1)) none none,type:=0,pos:= "",after:= #[],guard:=none}
theorem sliH_of (fr:List AV)(d:Option Tmp)(x y:Tmp)(ty:TypeId)(p:String)(a:Array Edge)(g:Option (Nat × Bool)):slowOp cx (ev cx fr) {dst:=d,op:= .slice 24 (.tmp x) none (some (.tmp y)) none,type:=ty,pos:=p,after:=a,guard:=g}=sliH (gt fr x) (gt fr y):=rfl
theorem sliL_of (fr:List AV)(d:Option Tmp)(x y:Tmp)(ty:TypeId)(p:String)(a:Array Edge)(g:Option (Nat × Bool)):slowOp cx (ev cx fr) {dst:=d,op:= .slice 24 (.tmp x) (some (.tmp y)) none none,type:=ty,pos:=p,after:=a,guard:=g}=sliL (gt fr x) (gt fr y):=rfl
theorem sliH_nil :sliH (.sc (.slice none 0 0)) (.sc (.int .i64 0))=some (.sc (.slice none 0 0)):=by kernel_rfl
theorem sliL_nil :sliL (.sc (.slice none 0 0)) (.sc (.int .i64 0))=some (.sc (.slice none 0 0)):=by kernel_rfl
def Lo (S:List (Rw × Int))(r:Rw)(j:Nat):Prop:=∀(q:Nat) (x:Rw × Int),q<j→S[q]?=some x→ordR x.1 r<0
def OwnX (h:Hp)(S:List (Rw × Int))(y:AV):Prop:=(S=[]∧y= .sc (.slice none 0 0))∨(S≠ []∧∃id,y= .sl id 2 0 S.length false∧h[id]?=some (.row (S.flatMap encS)))
def Hi (S:List (Rw × Int))(r:Rw)(j:Nat):Prop:=j=S.length∨∃x,S[j]?=some x∧¬ordR x.1 r<0
def sl8 (id j:Nat):AV:=if j=0 then .ls 2 [] false else .sl id 2 0 j false
def sl9 (id l n:Nat):AV:=if l=n then .ls 2 [] false else .sl id 2 (l*2) (n-l) false
theorem sl8_np (id j:Nat)(v:Value):sl8 id j≠ .pn v:=by unfold sl8;split<;>simp
theorem sl9_np (id l n:Nat)(v:Value):sl9 id l n≠ .pn v:=by unfold sl9;split<;>simp
theorem sl8_sz (id j:Nat):szOk 2 (sl8 id j)=true:=by unfold sl8;split<;>rfl
theorem sl9_sz (id l n:Nat):szOk 2 (sl9 id l n)=true:=by unfold sl9;split<;>rfl
theorem sl8_of (id n j:Nat)(hj:j≤n):sliceA (.sl id 2 0 n false) none (some (.sc (.int .i64 (j:Nat)))) none=some (sl8 id j):=by
 unfold sliceA sl8;have h1:natOf (.sc (.int .i64 (j:Nat)))=some j:=by simp[natOf]
 simp only[lenA,boundA,h1,Nat.zero_le,hj,and_self,if_true,Nat.zero_mul,Nat.zero_add,Nat.sub_zero,Bool.false_and];by_cases e:j=0
 ·simp[e]
 ·have e':¬0=j:=fun q=>e q.symm
  simp[e,e']
theorem sl9_of (id n l:Nat)(li:Int)(hli:li=l)(hl:l≤n):sliceA (.sl id 2 0 n false) (some (.sc (.int .i64 li))) none none=some (sl9 id l n):=by
 subst hli;unfold sliceA sl9;have h1:natOf (.sc (.int .i64 (l:Nat)))=some l:=by simp[natOf]
 simp only[lenA,boundA,h1,hl,Nat.le_refl,and_self,if_true,Nat.zero_add,Bool.false_and];by_cases e:l=n<;>simp[e]
theorem sl8_news {H:Hp}{id j:Nat}{cs:List AV}(hid:H[id]?=some (.row cs))(hl:j*2≤cs.length):newsOf H (sl8 id j)=some (j,cs.take (j*2)):=by
 unfold sl8;by_cases e:j=0
 ·subst e;simp[newsOf]
 ·rw[if_neg e];simp[newsOf,rowOf,hid,hl]
theorem sl9_news {H:Hp}{id l n:Nat}{cs:List AV}(hid:H[id]?=some (.row cs))(hc:cs.length=n*2)(hl:l≤n):newsOf H (sl9 id l n)=some (n-l,cs.drop (l*2)):=by
 unfold sl9;by_cases e:l=n
 ·subst e;have:cs.drop (l*2)=[]:=Zt (by omega);simp[newsOf,this]
 ·rw[if_neg e];have h1:l*2+(n-l)*2≤cs.length:=by omega
  have h2:(cs.drop (l*2)).take ((n-l)*2)=cs.drop (l*2):=List.take_of_length_le (by rw[List.length_drop];omega);simp[newsOf,rowOf,hid,h1,h2]
theorem own_news {H:Hp}{id:Nat}{c:List AV}(hid:H[id]?=some (.row c))(hc:c.length=2):newsOf H (.sl id 2 0 1 false)=some (1,c):=by
 have h1:0+1*2≤c.length:=by omega
 have h2:(c.drop 0).take (1*2)=c:=by rw[List.drop_zero];exact List.take_of_length_le (by omega)
 simp only[newsOf,rowOf,hid,h1,if_true,h2]
structure RefI (Z:List (Rw × Int))(z:Bool)(i:Nat)(s:St):Prop where
 le:i≤Z.length
 len:s.1.length=124
 g0:gt s.1 0= .ls 2 (bagR Z) z
 g4:gt s.1 4= .sc (.int .i64 (i:Nat))
 own:∃y,gt s.1 3=y∧OwnX s.2 (sumR ordR addZ (Z.take i)) y
structure OutI (S:List (Rw × Int))(id L:Nat)(cs:List AV)(j:Nat)(s:St):Prop where
 le:j≤S.length
 len:s.1.length=124
 g3:gt s.1 3= .sl id 2 0 S.length false
 g8:gt s.1 8= .sc (.int .i64 (j:Nat))
 row:s.2[id]?=some (.row cs)
 hl:L≤s.2.length
 bld:∃y,gt s.1 7=y∧Bld s.2 2 (bagR (nzF (S.take j))) y∧∀k n,y= .sl k 2 0 n false→L≤k
theorem r_Norm (N D:Nat)(b:Bool)(Z:List (Rw × Int))(z:Bool)(h:Hp)(hB:BagB D Z):callN cx (N+3*D+9) b 9 [.ls 2 (bagR Z) z] h=some (.ls 2 (bagR (normS Z)) false,h):=by
 refine kx_call (f:=9) (n:=N+3*D+8) (args:=[.ls 2 (bagR Z) z]) (.ls 2 (bagR (normS Z)) false) ⟨Tryz.f9.ntmps,(Tryz.f9.body).getD .skip,[.tmp 2]⟩ (by kernel_rfl) (by kernel_rfl) rfl (by kernel_rfl) (by simp[Tryz.f9]) rfl ?_ (by decide) b h;have hkx:kx 9=2:=by decide
 rw[hkx];have fcmp:∀(p q:Rw),RowB D p→RowB D q→∀b h,callN cx (N+3*D+8) b 19 [.ls 5 (encL p.1) false,.ls 5 (encL q.1) false] h=some (.sc (.int .i64 (ordR p q)),h):=fun p q hp hq b h=>r_OrderRows N D p.1 q.1 b h (by have:=hp.len;omega) (by have:=hq.len;omega) hp.dep hq.dep
 have frow:∀(p:Rw),RowB D p→∀b h,callN cx (N+3*D+8) b 20 [.ls 5 (encL p.1) false] h=some (.ls 5 (encL p.1) false,h):=fun p hp b h=>by
  have:=r47_row (N+3*D+7) p.1 false b h hp.len;rw[show N+3*D+7+1=N+3*D+8 by omega]at this;exact this
 generalize N+3*D+8=M at fcmp frow⊢;simp[Tryz.f9];refine loop_up (C:=cx) (G:=fun r=>∃r0 h',finX _ (thenX _ _ (blockX _ r) _)=some (r0,h')∧∃r',Ae.snap h' 8 r0=some r'∧nfX 2 r'= .ls 2 (bagR (normS Z)) false)
  (fun i s=>RefI Z z i s) (fun o s=>o= .exit 0∧RefI Z z Z.length s) Z.length (by have:=hB.len;simp;omega) ?_ ?_ ?_
 ·exact⟨by omega,rfl,rfl,rfl,_,rfl,.inl ⟨rfl,rfl⟩⟩
 ·rintro i fr hp _ ⟨hi0,hlen,g0,g4,y,g3,hy⟩;simp only at hlen g0 g4 g3 hy;have hq:=bagR_length Z;have hg:=bagR_get Z;generalize hrs:bagR Z=rows at g0 hq hg;by_cases hi:i<Z.length
  ·obtain⟨p,hx⟩:∃p,Z[i]?=some p:=⟨_,Zb hi⟩;have hpB:=hB.row p (Zi hx);have hr:rows[i]?=some (encS p):=by rw[hg,hx];rfl
   have hr':∀k,rows[i]'k=encS p:=fun k=>by obtain⟨_,e⟩:=Za.1 hr;exact e
   unfold encS at hr hr';have hst:sumR ordR addZ (Z.take (i+1))=insR ordR addZ (sumR ordR addZ (Z.take i)) p.1 p.2:=by
    rw[List.take_add_one,hx];exact sumR_snoc _ _ _
   have hSr:∀q∈sumR ordR addZ (Z.take i),RowB D q.1:=fun q hq=>by
    have hm:=((sum_perm (add:=addZ) ordR_tot (Z.take i)).mem_iff).2 hq;exact sumV_row (Z.take i) (fun q hq=>hB.row q (List.mem_of_mem_take hq)) q hm
   have hSl:(sumR ordR addZ (Z.take i)).length≤1000000:=by
    have h0:=(sum_perm (add:=addZ) ordR_tot (Z.take i)).length_eq;have h1:=sumV_len (Z.take i);have h2:=hB.len;rw[List.length_take]at h1;omega
   obtain⟨r,n⟩:=p;simp only at hpB hst hr hr';generalize sumR ordR addZ (Z.take i)=S at hy hst hSr hSl;have fr1:=frow r hpB;have fc1:=fun q (hq:q∈S)=>fcmp q.1 r (hSr q hq) hpB
   have hi6:i≤1000000000000000:=by have:=hB.len;omega
   rcases hy with⟨hS0,rfl⟩|⟨hSp,id,rfl,hid⟩
   ·subst hS0;simp[hlen,g0,g4,g3,hi,hq,hr,hr'];generalize hX:exec2 cx (callN cx M) (Code.loop _) _=X;obtain⟨o2,fr2,hp3,rfl,rfl,hlen2,q0,q3,q4,q5,hh3⟩:=loop_exU (call:=callN cx M)
     (fun j st=>j=0∧st.1.length=124∧gt st.1 0= .ls 2 rows z∧gt st.1 3= .sc (.slice none 0 0)∧gt st.1 4= .sc (.int .i64 (i:Nat))∧gt st.1 5= .sc (.int .i64 0)∧st.2=hp)
     (fun o s=>o= .exit 2∧s.1.length=124∧gt s.1 0= .ls 2 rows z∧gt s.1 3= .sc (.slice none 0 0)∧gt s.1 4= .sc (.int .i64 (i:Nat))∧gt s.1 5= .sc (.int .i64 0)∧s.2=hp) 0 (by simp) X _ _ _ hX ⟨rfl,by simp[hlen],by simp[hlen,g0],by simp[hlen,g3],by simp[hlen,g4],by simp[hlen],rfl⟩ (by
      clear g0 g3 g4 hlen hX;rintro j fr hp2 hj ⟨rfl,hlen,g0,g3,g4,g5,hh⟩;simp only at hlen g0 g3 g4 g5 hh;subst hh;simp[hlen,g0,g3,g4,g5])
    simp only at hlen2 q0 q3 q4 q5 hh3;subst hh3;obtain⟨i1,H1,a1,a2,a3,a4,a5⟩:=app_gen (hp3++[.row []]) hp3.length 0 0 [] [] (.sc (.slice none 0 0)) (by simp) rfl rfl rfl rfl (by omega);have hi1:i1<H1.length:=(Za.1 a2).1;obtain⟨i2,H2,b1,b2,b3,b4,b5⟩:=app_gen (H1++[.row [.ls 5 (encL r.1) false,.sc (.int .i64 n)]]) i1 0 1 [] [.ls 5 (encL r.1) false,.sc (.int .i64 n)] (.sl H1.length 2 0 1 false) (by rw[Zd hi1];exact a2) rfl rfl (own_news (by simp) rfl) rfl (by omega);obtain⟨i3,H3,c1,c2,c3,c4,c5⟩:=app_gen H2 i2 1 0 [.ls 5 (encL r.1) false,.sc (.int .i64 n)] [] (.sc (.slice none 0 0)) b2 rfl rfl rfl rfl (by omega);simp[hlen2,q0,q3,q4,q5,hi,hq,hr,hr',sps,spA,spB,fr1,sliH_of,sliH_nil,sliL_of,sliL_nil,a1,b1,c1,fit_succ hi6];clear fcmp frow fr1 fc1;refine⟨by omega,by simp[hlen2],by simp[hlen2,q0,hrs],by simp[hlen2],.sl i3 2 0 1 false,by simp[hlen2],.inr ⟨by rw[hst];simp[insR],i3,by rw[hst];rfl,by rw[c2,hst];rfl⟩⟩
   ·obtain⟨cs,hcs⟩:∃cs,cs=S.flatMap encS:=⟨_,rfl⟩;rw[←hcs]at hid;have hid':∀k,hp[id]'k= .row cs:=fun k=>by obtain⟨_,e⟩:=Za.1 hid;exact e
    have hcl:cs.length=S.length*2:=by rw[hcs,bag_len]
    have hrow:∀j x,S[j]?=some x→cs[j*2]?=some (.ls 5 (encL x.1.1) false)∧cs[j*2+1]?=some (.sc (.int .i64 x.2)):=fun j x hj=>by
     have h2:=bag_row hj [];rw[Yf,←hcs]at h2;have e0:∀k,k<2→cs[j*2+k]?=(encS x)[k]?:=fun k hk=>by rw[←h2,List.getElem?_take,if_pos hk,List.getElem?_drop]
     exact⟨e0 0 (by omega),e0 1 (by omega)⟩
    simp[hlen,g0,g4,g3,hi,hq,hr,hr'];generalize hX:exec2 cx (callN cx M) (Code.loop _) _=X;obtain⟨o2,fr2,hp3,rfl,rfl,hlen2,q0,q3,q4,hh3,j,hjl,hjb,hje,q5⟩:=loop_exU (call:=callN cx M)
     (fun j st=>j≤S.length∧Lo S r j∧st.1.length=124∧gt st.1 0= .ls 2 rows z∧gt st.1 3= .sl id 2 0 S.length false∧gt st.1 4= .sc (.int .i64 (i:Nat))∧gt st.1 5= .sc (.int .i64 (j:Nat))∧st.2=hp)
     (fun o s=>o= .exit 2∧s.1.length=124∧gt s.1 0= .ls 2 rows z∧gt s.1 3= .sl id 2 0 S.length false∧gt s.1 4= .sc (.int .i64 (i:Nat))∧s.2=hp∧∃j:Nat,j≤S.length∧Lo S r j∧Hi S r j∧gt s.1 5= .sc (.int .i64 (j:Nat))) S.length (by simp;omega) X _ _ _ hX ⟨by omega,fun q x hq=>by omega,by simp[hlen],by simp[hlen,g0],by simp[hlen,g3],by simp[hlen,g4],by simp[hlen],rfl⟩ (by
      clear g0 g3 g4 hlen hX;rintro j fr hp2 hj0 ⟨hj,hjb,hlen,g0,g3,g4,g5,hh⟩;simp only at hlen g0 g3 g4 g5 hh;subst hh;by_cases hjS:j<S.length
      ·obtain⟨x,hxj⟩:∃e,S[j]?=some e:=⟨_,Zb hjS⟩;have hro:=(hrow j x hxj).1;have hro':∀k,cs[j*2]'k= .ls 5 (encL x.1.1) false:=fun k=>by obtain⟨_,e⟩:=Za.1 hro;exact e
       have fcx:=fc1 x (Zi hxj);have hc1:j*2+1≤cs.length:=by omega
       obtain⟨c,hc⟩:∃c,c=ordR x.1 r:=⟨_,rfl⟩;have hcn:ordR x.1 r<0↔c<0:=by rw[hc]
       rw[←hc]at fcx;have hj6:j≤1000000000000000:=by omega
       by_cases hc0:c<0
       ·simp[hlen,g0,g3,g4,g5,hi,hq,hr,hr',hjS,hid,hid',hro,hro',hc1,fcx,hc0,fit_succ hj6];refine⟨hjS,fun q y hq hy=>?_⟩;by_cases e:q=j
        ·rw[e,hxj]at hy;cases hy;exact hcn.2 hc0
        ·exact hjb q y (by omega) hy
       ·simp[hlen,g0,g3,g4,g5,hi,hq,hr,hr',hjS,hid,hid',hro,hro',hc1,fcx,hc0];exact⟨j,by omega,hjb,.inr ⟨x,hxj,fun e=>hc0 (hcn.1 e)⟩,rfl⟩
      ·have hjl:j=S.length:=Zz hj (Zy hjS);simp[hlen,g0,g3,g4,g5,hjS,hq];exact⟨j,hj,hjb,.inl hjl,rfl⟩)
    simp only at hlen2 q0 q3 q4 q5 hh3;subst hh3;have hj2:j*2≤cs.length:=by omega
    have s8:=sl8_of id S.length j hjl;have q8:=fun(ops:Array Oper) (d:Tmp) (rest:List Oper) (fr:List AV) (h:Hp)=>opP_np (C:=cx) (cal:=callN cx M true) (ops:=ops) (sl8_np id j) d rest fr h
    have hidl:id<hp3.length:=(Za.1 hid).1;have hid1:(hp3++[Blk.row []])[id]?=some (.row cs):=by rw[Zd hidl];exact hid
    obtain⟨i1,H1,a1,a2,a3,a4,a5⟩:=app_gen (hp3++[.row []]) hp3.length 0 j [] (cs.take (j*2)) (sl8 id j) (by simp) rfl (sl8_sz id j) (sl8_news hid1 hj2) (by rw[List.length_take];omega) (by omega);have hi1:i1<H1.length:=(Za.1 a2).1;have h1id:=a3 id _ (by omega) hid1;have h1id':∀k,H1[id]'k= .row cs:=fun k=>by obtain⟨_,e⟩:=Za.1 h1id;exact e
    have hne1:id≠i1:=fun e=>by
     rcases a4 with e4|e4
     ·omega
     ·simp at e4;omega
    have hi1l:id<H1.length:=(Za.1 h1id).1;have htk:cs.take (j*2)=(S.take j).flatMap encS:=by
     have e:=List.take_append_drop j S;have e2:S.flatMap encS=(S.take j).flatMap encS++(S.drop j).flatMap encS:=by rw[←List.flatMap_append,e]
     rw[hcs,e2];exact List.take_left' (by rw[bag_len,List.length_take];omega)
    have hdk:∀l,l≤S.length→cs.drop (l*2)=(S.drop l).flatMap encS:=fun l hl=>by
     have e:=List.take_append_drop l S;have e2:S.flatMap encS=(S.take l).flatMap encS++(S.drop l).flatMap encS:=by rw[←List.flatMap_append,e]
     rw[hcs,e2];exact List.drop_left' (by rw[bag_len,List.length_take];omega)
    rw[Nat.zero_add]at a1;rw[List.nil_append]at a2;by_cases hjS:j<S.length
    ·obtain⟨x,hxj⟩:∃e,S[j]?=some e:=⟨_,Zb hjS⟩;have hxn:¬ordR x.1 r<0:=by
      rcases hje with e|⟨y,hy1,hy2⟩
      ·omega
      ·rw[hxj]at hy1;cases hy1;exact hy2
     obtain⟨hro,hro2⟩:=hrow j x hxj;have hro':∀k,cs[j*2]'k= .ls 5 (encL x.1.1) false:=fun k=>by obtain⟨_,e⟩:=Za.1 hro;exact e
     have hro2':∀k,cs[j*2+1]'k= .sc (.int .i64 x.2):=fun k=>by obtain⟨_,e⟩:=Za.1 hro2;exact e
     have fcx:=fc1 x (Zi hxj);have hc1:j*2+1≤cs.length:=by omega
     have hc2:j*2+1+1≤cs.length:=by omega
     have hSd:S=S.take j++(x.1,x.2)::S.drop (j+1):=by
      obtain⟨k,e⟩:=Za.1 hxj;have:=List.take_append_drop j S;rw[Zm k,e]at this;exact this.symm
     have hmid:=insR_mid (cmp:=ordR) (add:=addZ) (S.take j) x.1 x.2 (S.drop (j+1)) r n (fun y hy=>by
      obtain⟨q,hq⟩:=List.getElem?_of_mem hy;rw[List.getElem?_take]at hq;split at hq
      ·exact hjb q y (by omega) hq
      ·cases hq) hxn
     rw[←hSd]at hmid;rw[hmid]at hst;by_cases hc0:ordR x.1 r=0
     ·rw[if_pos hc0]at hst;rw[hc0]at fcx;have hj6:j≤1000000000000000:=by omega
      have s9:=sl9_of id S.length (j+1) ((j:Int)+1) (by simp) (by omega);have q9:=fun(ops:Array Oper) (d:Tmp) (rest:List Oper) (fr:List AV) (h:Hp)=>opP_np (C:=cx) (cal:=callN cx M true) (ops:=ops) (sl9_np id (j+1) S.length) d rest fr h
      obtain⟨c,hc⟩:∃c:List AV,c=[.ls 5 (encL x.1.1) false,.sc (.int .i64 (fitI .i64 (x.2+n)))]:=⟨_,rfl⟩;have hcl2:c.length=2:=by rw[hc];rfl
      obtain⟨i2,H2,b1,b2,b3,b4,b5⟩:=app_gen (H1++[.row c]) i1 j 1 (cs.take (j*2)) c (.sl H1.length 2 0 1 false) (by rw[Zd hi1];exact a2) (by rw[List.length_take];omega) rfl (own_news (by simp) hcl2) (by omega) (by omega);have h2id:=b3 id _ hne1 (by rw[Zd hi1l];exact h1id);obtain⟨i3,H3,c1,c2,c3,c4,c5⟩:=app_gen H2 i2 (j+1) (S.length-(j+1)) (cs.take (j*2)++c) (cs.drop ((j+1)*2)) (sl9 id (j+1) S.length) b2 (by rw[Zu,List.length_take];omega) (sl9_sz _ _ _) (sl9_news h2id hcl (by omega)) (by rw[List.length_drop];omega) (by omega);have hfin:H3[i3]?=some (.row ((S.take j++(x.1,addZ x.2 n)::S.drop (j+1)).flatMap encS)):=by
       rw[c2,htk,hdk (j+1) (by omega),hc];simp[encS,addZ]
      have hlenf:j+1+(S.length-(j+1))=S.length:=by omega
      rw[hlenf]at c1;have hSl2:(S.take j++(x.1,addZ x.2 n)::S.drop (j+1)).length=S.length:=by simp;omega
      rw[hc]at b1;clear hcs htk hdk hmid hc hSd;simp[hlen2,q0,q3,q4,q5,hi,hq,hr,hr',sps,spA,spB,hjS,hid,hid',h1id,h1id',hro,hro',hro2,hro2',hc1,hc2,fcx,fit_succ hj6,s8,q8,s9,q9,a1,b1,c1,fit_succ hi6];clear fcmp frow fr1 fc1 fcx;refine⟨by omega,by simp[hlen2],by simp[hlen2,q0,hrs],by simp[hlen2],.sl i3 2 0 S.length false,by simp[hlen2],.inr ⟨by rw[hst];simp,i3,by rw[hst,hSl2],by rw[hst];exact hfin⟩⟩
     ·obtain⟨cc,hcc⟩:∃cc,cc=ordR x.1 r:=⟨_,rfl⟩;rw[←hcc]at fcx;have hcz:¬cc=0:=by rw[hcc];exact hc0
      have s9:=sl9_of id S.length j (j:Int) rfl hjl;have q9:=fun(ops:Array Oper) (d:Tmp) (rest:List Oper) (fr:List AV) (h:Hp)=>opP_np (C:=cx) (cal:=callN cx M true) (ops:=ops) (sl9_np id j S.length) d rest fr h
      obtain⟨c,hc⟩:∃c:List AV,c=[.ls 5 (encL r.1) false,.sc (.int .i64 n)]:=⟨_,rfl⟩;have hcl2:c.length=2:=by rw[hc];rfl
      obtain⟨i2,H2,b1,b2,b3,b4,b5⟩:=app_gen (H1++[.row c]) i1 j 1 (cs.take (j*2)) c (.sl H1.length 2 0 1 false) (by rw[Zd hi1];exact a2) (by rw[List.length_take];omega) rfl (own_news (by simp) hcl2) (by omega) (by omega);have h2id:=b3 id _ hne1 (by rw[Zd hi1l];exact h1id);obtain⟨i3,H3,c1,c2,c3,c4,c5⟩:=app_gen H2 i2 (j+1) (S.length-j) (cs.take (j*2)++c) (cs.drop (j*2)) (sl9 id j S.length) b2 (by rw[Zu,List.length_take];omega) (sl9_sz _ _ _) (sl9_news h2id hcl hjl) (by rw[List.length_drop];omega) (by omega);rw[if_neg hc0]at hst;have hfin:H3[i3]?=some (.row ((S.take j++(r,n)::(x.1,x.2)::S.drop (j+1)).flatMap encS)):=by
       have hd:S.drop j=x::S.drop (j+1):=by
        obtain⟨k,e⟩:=Za.1 hxj;rw[Zm k,e]
       rw[c2,htk,hdk j hjl,hc,hd];simp[encS]
      have hSl2:(S.take j++(r,n)::(x.1,x.2)::S.drop (j+1)).length=S.length+1:=by simp;omega
      clear hmid hSd;have hlenf:j+1+(S.length-j)=S.length+1:=by omega
      rw[hlenf]at c1;rw[hc]at b1;clear hcs htk hdk hc;simp[hlen2,q0,q3,q4,q5,hi,hq,hr,hr',sps,spA,spB,hjS,hid,hid',h1id,h1id',hro,hro',hro2,hro2',hc1,hc2,fcx,hcz,fr1,s8,q8,s9,q9,a1,b1,c1,fit_succ hi6];clear fcmp frow fr1 fc1;refine⟨by omega,by simp[hlen2],by simp[hlen2,q0,hrs],by simp[hlen2],.sl i3 2 0 (S.length+1) false,by simp[hlen2],.inr ⟨by rw[hst];simp,i3,by rw[hst,hSl2],by rw[hst];exact hfin⟩⟩
    ·have hjE:j=S.length:=Zz hjl (Zy hjS);have hlast:=insR_last (cmp:=ordR) (add:=addZ) S r n (fun y hy=>by
      obtain⟨q,hq⟩:=List.getElem?_of_mem hy;exact hjb q y (by rw[hjE];exact(Za.1 hq).1) hq)
     rw[hlast]at hst;have s9:=sl9_of id S.length j (j:Int) rfl hjl;have q9:=fun(ops:Array Oper) (d:Tmp) (rest:List Oper) (fr:List AV) (h:Hp)=>opP_np (C:=cx) (cal:=callN cx M true) (ops:=ops) (sl9_np id j S.length) d rest fr h
     obtain⟨c,hc⟩:∃c:List AV,c=[.ls 5 (encL r.1) false,.sc (.int .i64 n)]:=⟨_,rfl⟩;have hcl2:c.length=2:=by rw[hc];rfl
     obtain⟨i2,H2,b1,b2,b3,b4,b5⟩:=app_gen (H1++[.row c]) i1 j 1 (cs.take (j*2)) c (.sl H1.length 2 0 1 false) (by rw[Zd hi1];exact a2) (by rw[List.length_take];omega) rfl (own_news (by simp) hcl2) (by omega) (by omega);have h2id:=b3 id _ hne1 (by rw[Zd hi1l];exact h1id);obtain⟨i3,H3,c1,c2,c3,c4,c5⟩:=app_gen H2 i2 (j+1) (S.length-j) (cs.take (j*2)++c) (cs.drop (j*2)) (sl9 id j S.length) b2 (by rw[Zu,List.length_take];omega) (sl9_sz _ _ _) (sl9_news h2id hcl hjl) (by rw[List.length_drop];omega) (by omega);have hfin:H3[i3]?=some (.row ((S++[(r,n)]).flatMap encS)):=by
      rw[c2,htk,hdk j hjl,hc,hjE,List.take_length,List.drop_length];simp[encS]
     have hSl2:(S++[(r,n)]).length=S.length+1:=by simp
     have hlenf:j+1+(S.length-j)=S.length+1:=by omega
     rw[hlenf]at c1;rw[hc]at b1;clear hcs htk hdk hc;simp[hlen2,q0,q3,q4,q5,hi,hq,hr,hr',sps,spA,spB,hjS,fr1,s8,q8,s9,q9,a1,b1,c1,fit_succ hi6];clear fcmp frow fr1 fc1;refine⟨by omega,by simp[hlen2],by simp[hlen2,q0,hrs],by simp[hlen2],.sl i3 2 0 (S.length+1) false,by simp[hlen2],.inr ⟨by rw[hst];simp,i3,by rw[hst,hSl2],by rw[hst];exact hfin⟩⟩
  ·have hil:i=Z.length:=Zz hi0 (Zy hi);subst hil;simp[hlen,g0,g4,g3,hq];exact⟨hi0,by simp[hlen],by simp[hlen,g0,hrs],by simp[hlen,g4],y,by simp[hlen,g3],hy⟩
 ·rintro o fr hp hn ⟨rfl,hi0,hlen,g0,g4,y,g3,hy⟩;simp only at hlen g0 g4 g3 hy;rw[List.take_length]at hy;have hno:normS Z=nzF (sumR ordR addZ Z):=rfl;rw[hno];have hSl:(sumR ordR addZ Z).length≤1000000:=by
   have h0:=(sum_perm (add:=addZ) ordR_tot Z).length_eq;have h1:=sumV_len Z;have h2:=hB.len;omega
  generalize sumR ordR addZ Z=S at hy hSl⊢;rcases hy with⟨hS0,rfl⟩|⟨hSp,id,rfl,hid⟩
  ·subst hS0;simp[hlen,g3];refine loop_up (C:=cx) (G:=fun r=>∃r0 h',finX _ (thenX _ _ (blockX _ r) _)=some (r0,h')∧∃r',Ae.snap h' 8 r0=some r'∧nfX 2 r'= .ls 2 (bagR (nzF [])) false)
    (fun j s=>j=0∧s.1.length=124∧gt s.1 3= .sc (.slice none 0 0)∧gt s.1 7= .sc (.slice none 0 0)∧gt s.1 8= .sc (.int .i64 0))
    (fun o s=>o= .exit 4∧s.1.length=124∧gt s.1 7= .sc (.slice none 0 0)) 0 (by simp) ⟨rfl,by simp[hlen],by simp[hlen,g3],by simp[hlen],by simp[hlen]⟩ ?_ ?_
   ·rintro j fr hp2 _ ⟨rfl,hlen,g3,g7,g8⟩;simp only at hlen g3 g7 g8;simp[hlen,g3,g7,g8]
   ·rintro o fr hp2 hn ⟨rfl,hlen,g7⟩;simp only at hlen g7;simp[hlen,g7];refine⟨_,_,⟨rfl,rfl⟩,_,rfl,rfl⟩
  ·obtain⟨cs,hcs⟩:∃cs,cs=S.flatMap encS:=⟨_,rfl⟩;rw[←hcs]at hid;have hcl:cs.length=S.length*2:=by rw[hcs,bag_len]
   have hrow:∀j x,S[j]?=some x→cs[j*2+1]?=some (.sc (.int .i64 x.2))∧(cs.drop (j*2)).take 2=encS x:=fun j x hj=>by
    have h2:=bag_row hj [];rw[Yf,←hcs]at h2;have e0:∀k,k<2→cs[j*2+k]?=(encS x)[k]?:=fun k hk=>by rw[←h2,List.getElem?_take,if_pos hk,List.getElem?_drop]
    exact⟨e0 1 (by omega),h2⟩
   clear hcs;have hidl:id<hp.length:=(Za.1 hid).1;simp[hlen,g3];refine loop_up (C:=cx) (G:=fun r=>∃r0 h',finX _ (thenX _ _ (blockX _ r) _)=some (r0,h')∧∃r',Ae.snap h' 8 r0=some r'∧nfX 2 r'= .ls 2 (bagR (nzF S)) false)
    (fun j s=>OutI S id hp.length cs j s) (fun o s=>o= .exit 4∧OutI S id hp.length cs S.length s) S.length (by simp;omega) ⟨by omega,by simp[hlen],by simp[hlen,g3],by simp[hlen],hid,Nat.le_refl _,.sc (.slice none 0 0),by simp[hlen],.inl ⟨rfl,rfl⟩,fun k n e=>by cases e⟩ ?_ ?_
   ·rintro j fr hp2 _ ⟨hj,hlen,g3,g8,hid,hL,y,g7,hy,hyk⟩;simp only at hlen g3 g8 hid hL g7 hy;have hid':∀k,hp2[id]'k= .row cs:=fun k=>by obtain⟨_,e⟩:=Za.1 hid;exact e
    have hj6:j≤1000000000000000:=by omega
    by_cases hjS:j<S.length
    ·obtain⟨x,hxj⟩:∃e,S[j]?=some e:=⟨_,Zb hjS⟩;obtain⟨hro,hrr⟩:=hrow j x hxj;have hro':∀k,cs[j*2+1]'k= .sc (.int .i64 x.2):=fun k=>by obtain⟨_,e⟩:=Za.1 hro;exact e
     have hc1:j*2+1+1≤cs.length:=by omega
     have hc2:j*2+2≤cs.length:=by omega
     have hst:=nzF_take hxj;have hnl:(nzF (S.take j)).length≤1000000:=Ye (List.length_filter_le _ _) (by rw[List.length_take];omega);have q7:=fun(ops:Array Oper) (d:Tmp) (rest:List Oper) (fr:List AV) (h:Hp)=>opP_np (C:=cx) (cal:=callN cx M true) (ops:=ops) (fun v=>hy.np v) d rest fr h
     by_cases h0:x.2=0
     ·rw[if_pos h0,Yf]at hst;rw[h0]at hro hro';simp[hlen,g3,g8,g7,hjS,hid,hid',hro,hro',hc1,fit_succ hj6];exact⟨by omega,by simp[hlen],by simp[hlen,g3],by simp[hlen],hid,hL,y,by simp[hlen,g7],by rw[hst];exact hy,hyk⟩
     ·rw[if_neg h0]at hst;generalize nzF (S.take j)=F at hy hst hnl;obtain⟨id',h3,b1,b2,b3,b4⟩:=bld_app' (t:=24) T_Bag rfl hp2 (encS x) (bagR F) y hy rfl (fun r hr=>(bagR_all _).1 r hr) (by omega) (by rw[bagR_length];omega) (by omega);have hid3:id'<h3.length:=(Za.1 b2).1;have b5:=b3 id _ hid (fun k n e=>by have:=hyk k n e;omega);unfold encS at hrr b1;rw[bagR_length]at b1;simp[hlen,g3,g8,g7,q7,hjS,hid,hid',hro,hro',hc1,hc2,hrr,h0,sps,b1,fit_succ hj6];refine⟨by omega,by simp[hlen],by simp[hlen,g3],by simp[hlen],b5,by show hp.length≤h3.length;omega,.sl id' 2 0 (F.length+1) false,by simp[hlen],?_,fun k n e=>by simp only[AV.sl.injEq]at e;omega⟩;rw[hst];exact .inr ⟨by simp[bagR],id',by simp[bagR],by rw[b2];simp[bagR]⟩
    ·have hjE:j=S.length:=Zz hj (Zy hjS);subst hjE;simp[hlen,g3,g8];exact⟨hj,by simp[hlen],by simp[hlen,g3],by simp[hlen,g8],hid,hL,y,by simp[hlen,g7],hy,hyk⟩
   ·rintro o fr hp2 hn ⟨rfl,hj,hlen,g3,g8,hid,hL,y,g7,hy,hyk⟩;simp only at hlen g3 g8 hid hL g7 hy;rw[List.take_length]at hy;have hall:=bagR_all (nzF S);have hsn:=bld_snap (n:=7) (by omega) hall.1 hall.2 hy;have q7:=fun(ops:Array Oper) (d:Tmp) (rest:List Oper) (fr:List AV) (h:Hp)=>opP_np (C:=cx) (cal:=callN cx M true) (ops:=ops) (fun v=>hy.np v) d rest fr h
    simp[hlen,g7,q7];exact⟨_,_,⟨rfl,rfl⟩,_,hsn,nfS_bld _ _⟩
end
end Go.Proofs.YtiefabpageilbaaGreatDoor
