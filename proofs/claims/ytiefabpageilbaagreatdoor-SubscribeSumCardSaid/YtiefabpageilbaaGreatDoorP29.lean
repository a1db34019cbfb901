/- Bags summed up: the program's. -/
import Derived.Test.YtiefabpageilbaaGreatDoorP28
set_option linter.all false
set_option maxRecDepth 100000
namespace Go.Proofs.YtiefabpageilbaaGreatDoor
open Go Go.Ae
section
attribute [local simp] aop aopW coldF extF putA ofConst flat scalarOp fastOp binFast intOp strOp guardX Ae.part rowOf szOk natOf lenA cls fillA newsOf isNilC cellX
set_option maxHeartbeats 32000000
theorem sort_bag (N D:Nat)(b:Bool)(F:List (Rw × Int))(id:Nat)(rest:List AV)(h:Hp)(hF:∀p∈F,RowB D p.1)(hl:F.length≤1000000)(hid:h[id]?=some (.row (F.flatMap encS++rest))):
 ∃r:List (Rw × Int),r.Perm F∧(r.Pairwise fun a b=>¬ordR b.1 a.1<0)∧callN cx (N+2*D+11) b 33 [.sl id 2 0 F.length false,.fn 34 []] h=some (.tp [],h.set id (.row (r.flatMap encS++rest))):=by
 have:Inhabited (Rw × Int):=⟨(⟨[],by rw[gdL];trivial⟩,0)⟩;obtain⟨r,h1,h2,h3⟩:=sfn_rows (call:=callN cx (N+2*D+10) false) (k:=2) (h:=h) (id:=id) (b:=false) (g:=34) encS (fun p=> .ag (encS p)) (fun a b=>ordR a.1 b.1) F rest (fun _=>rfl) hid (by omega) (fun x _=>snap_of_calm (n:=6) rfl) (fun x hx y hy=>⟨[],z_cmp N D false x y [] (hF x hx) (hF y hy)⟩) (ordR_tot.weak (fun p=>p.1) F);refine⟨r,h1,h2,?_⟩;have e1:cx.srt 33 =none:=rfl;have e2:cx.inl 33 =true:=by kernel_rfl
 have e3:cx.ins 33 =some (2,0):=by kernel_rfl
 simp only[callN,e1,e2,e3,if_true];exact h3
theorem sort_nil (n:Nat)(b:Bool)(y:AV)(h:Hp)(hy:y= .sc (.slice none 0 0)∨∃z,y= .ls 2 [] z):callN cx (n+1) b 33 [y,.fn 34 []] h=some (.tp [],h):=by
 have e1:cx.srt 33 =none:=rfl;have e2:cx.inl 33 =true:=by kernel_rfl
 have e3:cx.ins 33 =some (2,0):=by kernel_rfl
 simp only[callN,e1,e2,e3,if_true];rcases hy with rfl|⟨z,rfl⟩<;>rfl
theorem delete_nil (n:Nat)(b:Bool)(h:Hp):callN cx (n+2) b 31 [.sc (.slice none 0 0),.fn 32 []] h=some (.sc (.slice none 0 0),h):=by
 rw[call_inl (n:=n+1) ⟨Tryz.f31.ntmps,(Tryz.f31.body).getD .skip,[.tmp 4]⟩ rfl (by kernel_rfl) (by kernel_rfl) (by kernel_rfl) (by kernel_rfl) (by simp[Tryz.f31])];have f0:=fun b h=>z_index_nil n b h
 generalize n+1=M at f0⊢;simp[Tryz.f31,f0]
def XF (h:Hp)(x:AV)(Z:List (Rw × Int)):Prop:=(Z=[]∧x= .sc (.slice none 0 0))∨(∃zf,x= .ls 2 (bagR Z) zf)∨(Z≠ []∧∃id rest,x= .sl id 2 0 Z.length false∧h[id]?=some (.row (Z.flatMap encS++rest)))
def NR (h h':Hp)(S:List (Rw × Int))(r:AV):Prop:=(∀(j:Nat) (b:Blk),h[j]?=some b→h'[j]?=some b)∧((S=[]∧(r= .sc (.slice none 0 0)∨∃z,r= .ls 2 [] z))∨(S≠ []∧∃id rest,h.length≤id∧r= .sl id 2 0 S.length false∧h'[id]?=some (.row (S.flatMap encS++rest))))
def normS (Z:List (Rw × Int)):List (Rw × Int):=normR ordR addZ Z
theorem insV_keys (S:List (Rw × Int))(r:Rw)(n:Int):∀q∈insV addZ S r n,q.1=r∨q.1∈S.map (·.1):=by
 induction S with
 |nil=>intro q hq;simp[insV]at hq;left;rw[hq]
 |
  cons p S ih=>
  intro q hq;rw[insV]at hq;split at hq
  ·rcases List.mem_cons.1 hq with rfl|h
   ·right;simp
   ·right;simp;right;exact⟨_,h⟩
  ·rcases List.mem_cons.1 hq with rfl|h
   ·right;simp
   ·rcases ih q h with h|h
    ·exact .inl h
    ·right;rw[List.map_cons];exact List.mem_cons_of_mem _ h
theorem sumV_row {D:Nat}(Z:List (Rw × Int))(hZ:∀p∈Z,RowB D p.1):∀q∈sumV addZ Z,RowB D q.1:=by
 have key:∀(Z S:List (Rw × Int)),(∀p∈Z,RowB D p.1)→(∀q∈S,RowB D q.1)→∀q∈Z.foldl (fun s x=>insV addZ s x.1 x.2) S,RowB D q.1:=by
  intro Z
  induction Z with
  |nil=>exact fun S _ h=>h
  |
   cons p Z ih=>
   intro S hZ hS;refine ih _ (fun q hq=>hZ q (List.mem_cons_of_mem _ hq)) fun q hq=>?_
   rcases insV_keys S p.1 p.2 q hq with e|e
   ·rw[e];exact hZ p (by simp)
   ·obtain⟨q',h1,h2⟩:=Yc.1 e;rw[←h2];exact hS q' h1
 exact key Z [] hZ (fun _ h=>by simp at h)
theorem insV_len (S:List (Rw × Int))(r:Rw)(n:Int):(insV addZ S r n).length≤S.length+1:=by
 induction S with
 |nil=>simp[insV]
 |
  cons p S ih=>
  rw[insV];split
  ·simp
  ·simp only[List.length_cons];omega
theorem sumV_len (Z:List (Rw × Int)):(sumV addZ Z).length≤Z.length:=by
 have key:∀(Z S:List (Rw × Int)),(Z.foldl (fun s x=>insV addZ s x.1 x.2) S).length≤Z.length+S.length:=by
  intro Z
  induction Z with
  |nil=>intro S;simp
  |
   cons p Z ih=>
   intro S;have h1:=ih (insV addZ S p.1 p.2);have h2:=insV_len S p.1 p.2;rw[List.foldl_cons,List.length_cons];omega
 exact key Z []
theorem sumV_take {Z:List (Rw × Int)}{i:Nat}{p:Rw × Int}(h:Z[i]?=some p):sumV addZ (Z.take (i+1))=insV addZ (sumV addZ (Z.take i)) p.1 p.2:=by
 rw[List.take_add_one,h];exact sumV_snoc _ _ _
structure NormI (h:Hp)(Z:List (Rw × Int))(x:AV)(i:Nat)(s:St):Prop where
 le:i≤Z.length
 len:s.1.length=56
 g3:gt s.1 3= .mp h.length
 g11:gt s.1 11=x
 g12:gt s.1 12= .sc (.int .i64 (Z.length:Nat))
 g13:gt s.1 13= .sc (.int .i64 (i:Nat))
 hl:h.length<s.2.length
 keep:∀(j:Nat) (b:Blk),h[j]?=some b→s.2[j]?=some b
 mp:∃ck,s.2[h.length]?=some (.map (mapE (sumV addZ (Z.take i)) 0) ck)
 bld:∃y,gt s.1 4=y∧Bld s.2 2 (bagR (sumV addZ (Z.take i))) y∧∀k n,y= .sl k 2 0 n false→h.length<k
theorem spA (a b x:AV):splice [a,b] 0 [x]=[x,b]:=rfl
theorem z_Norm (N D:Nat)(b:Bool)(Z:List (Rw × Int))(x:AV)(h:Hp)(hB:BagB D Z)(hx:XF h x Z):
 ∃r h',callN cx (N+2*D+12) b 18 [x] h=some (r,h')∧NR h h' (normS Z) r:=by
 rw[call_inl (n:=N+2*D+11) ⟨Tryz.f18.ntmps,(Tryz.f18.body).getD .skip,[.tmp 2]⟩ rfl (by kernel_rfl) (by kernel_rfl) (by kernel_rfl) (by kernel_rfl) (by simp[Tryz.f18])];have fkey:∀(r:Rw),RowB D r→∀b h,callN cx (N+2*D+11) b 29 [.ls 5 (encL r.1) false] h=some (.sc (.string (keyOf r)),h):=fun r hr b h=>by
  have:=z_key D r.1 (fun y hy=>(hr.dep y hy).1) r.2 (by have:=hr.len;omega) hr.key (N+D+9) false b h;rw[show N+D+9+D+2=N+2*D+11 by omega]at this;exact this
 have fcln:∀(r:Rw),RowB D r→∀b h,callN cx (N+2*D+11) b 30 [.ls 5 (encL r.1) false] h=some (.ls 5 (encL r.1) false,h):=fun r hr b h=>by
  have:=z_clone D r.1 (fun y hy=>(hr.dep y hy).1) r.2 hr.key (N+D+10) false b h;rw[show N+D+10+D+1=N+2*D+11 by omega]at this;exact this
 have fdel:∀(S:List (Rw × Int)) (id:Nat) (h:Hp),S≠ []→S.length≤1000000→h[id]?=some (.row (S.flatMap encS))→∀b,∃r h',callN cx (N+2*D+11) b 31 [.sl id 2 0 S.length false,.fn 32 []] h=some (r,h')∧(∀j b,j≠id→h[j]?=some b→h'[j]?=some b)∧OwnS h' id (nzF S) r:=fun S id h h1 h2 h3 b=>z_delete (N+2*D+8) b S id h h1 h2 h3
 have fdn:=fun b h=>delete_nil (N+2*D+9) b h
 have fsrt:∀(F:List (Rw × Int)) (id:Nat) (rest:List AV) (h:Hp),(∀p∈F,RowB D p.1)→F.length≤1000000→h[id]?=some (.row (F.flatMap encS++rest))→∀b,∃r:List (Rw × Int),r.Perm F∧(r.Pairwise fun a b=>¬ordR b.1 a.1<0)∧callN cx (N+2*D+11) b 33 [.sl id 2 0 F.length false,.fn 34 []] h=some (.tp [],h.set id (.row (r.flatMap encS++rest))):=fun F id rest h h1 h2 h3 b=>sort_bag N D b F id rest h h1 h2 h3
 have fsn:=fun b y h (hy:y= .sc (.slice none 0 0)∨∃z,y= .ls 2 [] z)=>sort_nil (N+2*D+10) b y h hy
 rw[show N+2*D+9+2=N+2*D+11 by omega]at fdn;rw[show N+2*D+10+1=N+2*D+11 by omega]at fsn;generalize N+2*D+11=M at fkey fcln fdel fdn fsrt fsn⊢;rcases hx with⟨hZ0,rfl⟩|⟨zf,rfl⟩|⟨hZ,xid,xr,rfl,hxid⟩
 ·have hZl:Z.length=0:=by rw[hZ0];rfl
  simp[Tryz.f18];refine loop_up (C:=cx) (G:=fun r=>∃r0 h',finX _ (thenX _ _ (blockX _ r) _)=some (r0,h')∧NR h h' (normS Z) r0)
   (fun i s=>i=0∧NormI h Z (.sc (.slice none 0 0)) Z.length s) (fun o s=>o= .exit 0∧NormI h Z (.sc (.slice none 0 0)) Z.length s) 0 (by simp) ?_ ?_ ?_
  ·refine⟨rfl,Nat.le_refl _,rfl,rfl,rfl,by rw[hZl];rfl,by rw[hZl];rfl,by simp,fun j b hj=>by rw[Zd (Za.1 hj).1];exact hj,⟨0,by rw[hZ0];simp[sumV,mapE]⟩,_,rfl,.inl ⟨by rw[hZ0];simp[sumV,bagR],rfl⟩,fun k n e=>by cases e⟩
  ·rintro i fr hp hle ⟨rfl,hi0,hlen,g3,g11,g12,g13,hhl,hkeep,⟨ck,hm⟩,y,g4,hy,hyk⟩;simp only at hlen g3 g11 g12 g13 g4 hhl hkeep hm hy;have g12':gt fr 12= .sc (.int .i64 0):=by rw[g12,hZl];rfl
   have g13':gt fr 13= .sc (.int .i64 0):=by rw[g13,hZl];rfl
   simp[hlen,g12',g13'];exact⟨hi0,by simp[hlen],by simp[hlen,g3],by simp[hlen,g11],by simp[hlen,g12],by simp[hlen,g13],hhl,hkeep,⟨ck,hm⟩,y,by simp[hlen,g4],hy,hyk⟩
  ·rintro o fr hp hn ⟨rfl,q⟩;obtain⟨_,hlen,g3,g11,g12,g13,hhl,hkeep,_,y,g4,hy,hyk⟩:=q;simp only at hlen g3 g11 g12 g13 g4 hhl hkeep hy;rw[List.take_length]at hy;have hSr:=sumV_row (D:=D) Z hB.row;have hSl:(sumV addZ Z).length≤1000000:=Ye (sumV_len Z) hB.len;have hno:=norm_eq (add:=addZ) ordR_tot Z;generalize sumV addZ Z=S at hy hSr hSl hno;rcases hy with⟨hS0,rfl⟩|⟨hS1,id,rfl,hid⟩
   ·have hSe:S=[]:=by cases S with
     |nil=>rfl
     |cons _ _=>simp[bagR]at hS0
    subst hSe;have hn0:[]=normS Z:=hno [] (.refl _) .nil;have fs:=fun b h=>fsn b (.sc (.slice none 0 0)) h (.inl rfl)
    simp[hlen,g4,fdn,fs];exact⟨_,_,⟨rfl,rfl⟩,hkeep,.inl ⟨hn0.symm,.inl rfl⟩⟩
   ·have hSp:S≠ []:=fun e=>hS1 (by rw[e];rfl)
    have hidl:=hyk id _ rfl;rw[bagR_length]at g4;rw[bagR_flat]at hid;obtain⟨r0,h1,e1,k1,o1⟩:=fdel S id hp hSp hSl hid true;have hk1:∀(j:Nat) (b:Blk),h[j]?=some b→h1[j]?=some b:=fun j b hj=>by
     have hjl:=(Za.1 hj).1;exact k1 j b (by omega) (hkeep j b hj)
    rcases o1 with⟨hF,z,rfl⟩|⟨hF,rfl,rest,hr1⟩
    ·have hn0:[]=normS Z:=hno [] (by rw[show(S.filter fun x=>x.2 !=0)=[]from hF]) .nil;have fs:=fun b h=>fsn b (.ls 2 [] z) h (.inr ⟨z,rfl⟩)
     simp[hlen,g4,e1,fs];exact⟨_,_,⟨rfl,rfl⟩,hk1,.inl ⟨hn0.symm,.inr ⟨z,rfl⟩⟩⟩
    ·obtain⟨r,p1,p2,e2⟩:=fsrt (nzF S) id rest h1 (fun q hq=>hSr q ((List.mem_filter.1 hq).1)) (Ye (List.length_filter_le _ _) hSl) hr1 true;have hn0:r=normS Z:=hno r p1 p2;have hrl:=p1.length_eq;have hrn:r≠ []:=fun e=>hF (by rw[e]at p1;exact List.perm_nil.1 p1.symm)
     have hid1:id<h1.length:=(Za.1 hr1).1;simp[hlen,g4,e1,e2];rw[←hn0];refine⟨_,_,⟨rfl,rfl⟩,fun j b hj=>?_,.inr ⟨hrn,id,rest,by omega,by rw[hrl],by rw[Zj hid1]⟩⟩;have hjl:=(Za.1 hj).1;rw[Zq (by omega)];exact hk1 j b hj
 ·skip
  have hq:=bagR_length Z;have hg:=bagR_get Z;generalize bagR Z=rows at hq hg⊢;simp[Tryz.f18,hq];refine loop_up (C:=cx) (G:=fun r=>∃r0 h',finX _ (thenX _ _ (blockX _ r) _)=some (r0,h')∧NR h h' (normS Z) r0)
   (fun i s=>NormI h Z (.ls 2 rows zf) i s) (fun o s=>o= .exit 0∧NormI h Z (.ls 2 rows zf) Z.length s) Z.length (by have:=hB.len;simp;omega) ?_ ?_ ?_
  ·refine⟨by omega,rfl,rfl,rfl,rfl,rfl,by simp,fun j b hj=>by rw[Zd (Za.1 hj).1];exact hj,⟨0,by simp[sumV,mapE]⟩,_,rfl,.inl ⟨by simp[sumV,bagR],rfl⟩,fun k n e=>by cases e⟩
  ·rintro i fr hp hle ⟨hi0,hlen,g3,g11,g12,g13,hhl,hkeep,⟨ck,hm⟩,y,g4,hy,hyk⟩;simp only at hlen g3 g11 g12 g13 g4 hhl hkeep hm hy;by_cases hi:i<Z.length
   ·obtain⟨p,hx⟩:∃p,Z[i]?=some p:=⟨_,Zb hi⟩;have hpB:=hB.row p (Zi hx);have hpn:=hB.num p (Zi hx);have hst:=sumV_take hx;have hSr:=sumV_row (D:=D) (Z.take i) fun q hq=>hB.row q (List.mem_of_mem_take hq)
    have hSl:(sumV addZ (Z.take i)).length≤1000000:=by have h1:=sumV_len (Z.take i);have h2:=hB.len;rw[List.length_take]at h1;omega
    have fk:=fkey p.1 hpB;have fc:=fcln p.1 hpB;have hr:rows[i]?=some (encS p):=by rw[hg,hx];rfl
    have hr':∀k,rows[i]'k=encS p:=fun k=>by obtain⟨_,e⟩:=Za.1 hr;exact e
    unfold encS at hr hr';obtain⟨r,n⟩:=p;simp only at hpB hpn hst fk fc hr hr';generalize sumV addZ (Z.take i)=S at hm hy hst hSr hSl;have hall:=mapE_str S 0;have hM:∀y:Blk,(hp++[y])[h.length]?=some (.map (mapE S 0) ck):=fun y=>by rw[Zd hhl];exact hm
    have hM':∀(y:Blk) k,(hp++[y])[h.length]'k= .map (mapE S 0) ck:=fun y k=>by obtain⟨_,e⟩:=Za.1 (hM y);exact e
    have hT:∀(e w:Blk),((hp++[e]).set h.length w)[hp.length]?=some e:=fun e w=>by rw[Zq (by omega)];simp
    have hT':∀(e w:Blk) k,((hp++[e]).set h.length w)[hp.length]'k=e:=fun e w k=>by obtain⟨_,e⟩:=Za.1 (hT e w);exact e
    have hf:=fit_succ (i:=i) (by have:=hB.len;omega);by_cases hin:r∈S.map (·.1)
    ·obtain⟨a,m,t,eS,hna⟩:=first_of S hin;have hat:=mapAt_some (t:=t) (m:=m) hpB (fun q hq=>hSr q (by rw[eS];simp[hq])) hna;rw[←eS]at hat;rw[eS,insV_old a m t r n hna]at hst;have hmz:mapE (a++(r,addZ m n)::t) 0=mapE S 0:=by rw[eS];exact mapE_keys _ _ 0 (by simp)
     have haS:a.length<S.length:=by rw[eS];simp
     rcases hy with⟨hS0,rfl⟩|⟨hS1,id,rfl,hid⟩
     ·rw[bagR]at hS0;rw[eS]at hS0;simp at hS0
     ·have hidl:=hyk id _ rfl;have hidp:id<hp.length:=(Za.1 hid).1;rw[bagR_length]at g4;rw[bagR_flat]at hid;have hset:=bag_set a r m (addZ m n) t;have hat1:=bag_at a r m t [];rw[Yf,←eS]at hat1;rw[←eS]at hset;have hcl:=bag_len S;have hSz:S.length=(a++(r,addZ m n)::t).length:=by rw[eS];simp
      generalize S.flatMap encS=cs2 at hid hset hat1 hcl;have hA:∀y:Blk,(hp++[y])[id]?=some (.row cs2):=fun y=>by rw[Zd hidp];exact hid
      have hA':∀(y:Blk) k,(hp++[y])[id]'k= .row cs2:=fun y k=>by obtain⟨_,e⟩:=Za.1 (hA y);exact e
      have hat2:∀k,cs2[a.length*2+1]'k= .sc (.int .i64 m):=fun k=>by obtain⟨_,e⟩:=Za.1 hat1;exact e
      have hcl2:a.length*2+1+1≤cs2.length:=by clear hf;omega
      generalize mapE S 0=es at hm hall hM hM' hat hmz;unfold addZ at hset;simp[hlen,g3,g11,g12,g13,g4,hi,hq,hr,hr',setlast,getlast,sps,spA,fk,hM,hM',hall,hat,hA,hA',hat1,hat2,hcl2,haS,hf];clear hf fk fc fkey fcln;refine⟨by omega,by simp[hlen],by simp[hlen,g3],by simp[hlen,g11],by simp[hlen,g12],by simp[hlen],by simp;omega,fun j b hj=>?_,⟨ck,?_⟩,.sl id 2 0 S.length false,by simp[hlen,g4],?_,fun k n e=>by simp only[AV.sl.injEq]at e;omega⟩
      ·have hjl:=(Za.1 hj).1;rw[Zq (by omega),Zd (by omega)];exact hkeep j b hj
      ·rw[Zq (by omega),hM,hst,hmz]
      ·rw[hst];refine .inr ⟨by simp[bagR],id,by rw[bagR_length,hSz],?_⟩;rw[Zj (by simp;omega),bagR_flat,hset];rfl
    ·have hat:=mapAt_none hpB hSr hin;have hix:=keyIx_none hpB S 0 0 hSr hin;rw[insV_new S r n hin]at hst;have hmz:=mapE_snoc S (r,n) 0;generalize mapE S 0=es at hm hall hM hM' hat hix hmz;have fn:fitI .i64 n=n:=fit_i64 hpn.1 hpn.2;rcases hy with⟨hS0,rfl⟩|⟨hS1,id,rfl,hid⟩
     ·have hSe:S=[]:=by cases S with
       |nil=>rfl
       |cons _ _=>simp[bagR]at hS0
      subst hSe;have hyT:∀T:Hp,Bld T 2 (bagR []) (.sc (.slice none 0 0)):=fun T=> .inl ⟨rfl,rfl⟩
      obtain⟨T,hTe⟩:∃T:Hp,T=(hp++[Blk.row [.ls 5 (encL r.1) false,.sc (.int .i64 n)]]).set h.length (.map (es++[(.string (keyOf r),.sc (.int .i64 0))]) (ck+1)):=⟨_,rfl⟩;have hTl:T.length=hp.length+1:=by rw[hTe];simp
      have hTm:T[h.length]?=some (.map (es++[(.string (keyOf r),.sc (.int .i64 0))]) (ck+1)):=by rw[hTe];exact Zj (by simp;omega)
      have hTx:T[hp.length]?=some (.row [.ls 5 (encL r.1) false,.sc (.int .i64 n)]):=by rw[hTe];exact hT _ _
      have hTk:∀j b,j<hp.length→j≠h.length→hp[j]?=some b→T[j]?=some b:=fun j b h1 h2 h3=>by rw[hTe,Zq (fun e=>h2 e.symm),Zd h1];exact h3
      obtain⟨id',h3,q1,q2,q3,q4⟩:=bld_app' (t:=24) T_Bag rfl T [.ls 5 (encL r.1) false,.sc (.int .i64 0)] (bagR []) (.sc (.slice none 0 0)) (hyT T) rfl (fun r hr=>(bagR_all _).1 r hr) (by omega) (by simp[bagR]) (by omega);have z1:=q3 hp.length _ hTx (fun k n e=>by cases e);have z2:=q3 h.length _ hTm (fun k n e=>by cases e);have zk:∀j b,h[j]?=some b→h3[j]?=some b:=fun j b hj=>by
       have hjl:=(Za.1 hj).1;exact q3 j b (hTk j b (by omega) (by omega) (hkeep j b hj)) (fun k n e=>by cases e)
      have hid3:id'<h3.length:=(Za.1 q2).1;have z1':∀k,h3[hp.length]'k= .row [.ls 5 (encL r.1) false,.sc (.int .i64 n)]:=fun k=>by obtain⟨_,e⟩:=Za.1 z1;exact e
      rw[hTl,bagR_length]at q1;have hcs:(bagR []++[[AV.ls 5 (encL r.1) false,.sc (.int .i64 0)]]).flatten=([]++(r,(0:Int)):: []).flatMap encS:=by
       rw[List.flatten_append,bagR_flat,List.flatMap_append];rfl
      rw[hcs]at q2;have hset:=bag_set [] r 0 n [];have hat1:=bag_at [] r 0 [] [];have hcl:=bag_len ([]++(r,(0:Int)):: []);rw[Yf]at hat1;generalize([]++(r,(0:Int)):: []).flatMap encS=cs3 at q2 hset hat1 hcl;have q2':∀k,h3[id']'k= .row cs3:=fun k=>by obtain⟨_,e⟩:=Za.1 q2;exact e
      simp only[Zu,List.length_cons,List.length_nil,Nat.zero_add,Nat.zero_mul]at hcl hat1 hset q1;rw[hTe]at q1;have hcl2:1+1≤cs3.length:=by omega
      have hat2:∀k,cs3[1]'k= .sc (.int .i64 0):=fun k=>by obtain⟨_,e⟩:=Za.1 hat1;exact e
      simp[hlen,g3,g11,g12,g13,g4,hi,hq,hr,hr',setlast,getlast,sps,spA,fk,fc,hM,hM',hall,hat,hix,hT,hT',q1,q2,q2',z1,z1',hat1,hat2,hcl2,fn,hf];clear hf fn fk fc fkey fcln;refine⟨by omega,by simp[hlen],by simp[hlen,g3],by simp[hlen,g11],by simp[hlen,g12],by simp[hlen],by simp;omega,fun j b hj=>?_,⟨ck+1,?_⟩,.sl id' 2 0 1 false,by simp[hlen],?_,fun k n e=>by simp only[AV.sl.injEq]at e;omega⟩
      ·have hjl:=(Za.1 hj).1;rw[Zq (by omega)];exact zk j b hj
      ·rw[Zq (by omega),z2,hst];rw[hmz];simp
      ·rw[hst];exact .inr ⟨by simp[bagR],id',by simp[bagR],by rw[Zj hid3,bagR_flat,hset]⟩
     ·have hSp:S≠ []:=fun e=>hS1 (by rw[e];rfl)
      have hidl:=hyk id _ rfl;have hidp:id<hp.length:=(Za.1 hid).1;rw[bagR_length]at g4;obtain⟨T,hTe⟩:∃T:Hp,T=(hp++[Blk.row [.ls 5 (encL r.1) false,.sc (.int .i64 n)]]).set h.length (.map (es++[(.string (keyOf r),.sc (.int .i64 (S.length:Nat)))]) (ck+1)):=⟨_,rfl⟩;have hTl:T.length=hp.length+1:=by rw[hTe];simp
      have hTm:T[h.length]?=some (.map (es++[(.string (keyOf r),.sc (.int .i64 (S.length:Nat)))]) (ck+1)):=by rw[hTe];exact Zj (by simp;omega)
      have hTx:T[hp.length]?=some (.row [.ls 5 (encL r.1) false,.sc (.int .i64 n)]):=by rw[hTe];exact hT _ _
      have hTk:∀j b,j<hp.length→j≠h.length→hp[j]?=some b→T[j]?=some b:=fun j b h1 h2 h3=>by rw[hTe,Zq (fun e=>h2 e.symm),Zd h1];exact h3
      have hyT:Bld T 2 (bagR S) (.sl id 2 0 S.length false):= .inr ⟨hS1,id,by rw[bagR_length],hTk id _ hidp (by omega) hid⟩;obtain⟨id',h3,q1,q2,q3,q4⟩:=bld_app' (t:=24) T_Bag rfl T [.ls 5 (encL r.1) false,.sc (.int .i64 0)] (bagR S) (.sl id 2 0 S.length false) hyT rfl (fun r hr=>(bagR_all _).1 r hr) (by omega) (by rw[bagR_length];omega) (by omega);have z1:=q3 hp.length _ hTx (fun k n e=>by simp only[AV.sl.injEq]at e;omega);have z2:=q3 h.length _ hTm (fun k n e=>by simp only[AV.sl.injEq]at e;omega);have zk:∀j b,h[j]?=some b→h3[j]?=some b:=fun j b hj=>by
       have hjl:=(Za.1 hj).1;exact q3 j b (hTk j b (by omega) (by omega) (hkeep j b hj)) (fun k n e=>by simp only[AV.sl.injEq]at e;omega)
      have hid3:id'<h3.length:=(Za.1 q2).1;have z1':∀k,h3[hp.length]'k= .row [.ls 5 (encL r.1) false,.sc (.int .i64 n)]:=fun k=>by obtain⟨_,e⟩:=Za.1 z1;exact e
      rw[hTl,bagR_length]at q1;have hcs:(bagR S++[[AV.ls 5 (encL r.1) false,.sc (.int .i64 0)]]).flatten=(S++(r,(0:Int)):: []).flatMap encS:=by
       rw[List.flatten_append,bagR_flat,List.flatMap_append];rfl
      rw[hcs]at q2;have hset:=bag_set S r 0 n [];have hat1:=bag_at S r 0 [] [];have hcl:=bag_len (S++(r,(0:Int)):: []);rw[Yf]at hat1;generalize(S++(r,(0:Int)):: []).flatMap encS=cs3 at q2 hset hat1 hcl;have q2':∀k,h3[id']'k= .row cs3:=fun k=>by obtain⟨_,e⟩:=Za.1 q2;exact e
      simp only[Zu,List.length_cons,List.length_nil,Nat.zero_add,Nat.zero_mul]at hcl hat1 hset q1;rw[hTe]at q1;have hcl2:S.length*2+1+1≤cs3.length:=by omega
      have hat2:∀k,cs3[S.length*2+1]'k= .sc (.int .i64 0):=fun k=>by obtain⟨_,e⟩:=Za.1 hat1;exact e
      simp[hlen,g3,g11,g12,g13,g4,hi,hq,hr,hr',setlast,getlast,sps,spA,fk,fc,hM,hM',hall,hat,hix,hT,hT',q1,q2,q2',z1,z1',hat1,hat2,hcl2,fn,hf];clear hf fn fk fc fkey fcln;refine⟨by omega,by simp[hlen],by simp[hlen,g3],by simp[hlen,g11],by simp[hlen,g12],by simp[hlen],by simp;omega,fun j b hj=>?_,⟨ck+1,?_⟩,.sl id' 2 0 (S.length+1) false,by simp[hlen],?_,fun k n e=>by simp only[AV.sl.injEq]at e;omega⟩
      ·have hjl:=(Za.1 hj).1;rw[Zq (by omega)];exact zk j b hj
      ·rw[Zq (by omega),z2,hst];rw[hmz];simp
      ·rw[hst];exact .inr ⟨by simp[bagR],id',by simp[bagR],by rw[Zj hid3,bagR_flat,hset]⟩
   ·have hil:i=Z.length:=Zz hi0 (Zy hi);subst hil;simp[hlen,g3,g11,g12,g13,hq];exact⟨hi0,by simp[hlen],by simp[hlen,g3],by simp[hlen,g11],by simp[hlen,g12],by simp[hlen,g13],hhl,hkeep,⟨ck,hm⟩,y,by simp[hlen,g4],hy,hyk⟩
  ·rintro o fr hp hn ⟨rfl,q⟩;obtain⟨_,hlen,g3,g11,g12,g13,hhl,hkeep,_,y,g4,hy,hyk⟩:=q;simp only at hlen g3 g11 g12 g13 g4 hhl hkeep hy;rw[List.take_length]at hy;have hSr:=sumV_row (D:=D) Z hB.row;have hSl:(sumV addZ Z).length≤1000000:=Ye (sumV_len Z) hB.len;have hno:=norm_eq (add:=addZ) ordR_tot Z;generalize sumV addZ Z=S at hy hSr hSl hno;rcases hy with⟨hS0,rfl⟩|⟨hS1,id,rfl,hid⟩
   ·have hSe:S=[]:=by cases S with
     |nil=>rfl
     |cons _ _=>simp[bagR]at hS0
    subst hSe;have hn0:[]=normS Z:=hno [] (.refl _) .nil;have fs:=fun b h=>fsn b (.sc (.slice none 0 0)) h (.inl rfl)
    simp[hlen,g4,fdn,fs];exact⟨_,_,⟨rfl,rfl⟩,hkeep,.inl ⟨hn0.symm,.inl rfl⟩⟩
   ·have hSp:S≠ []:=fun e=>hS1 (by rw[e];rfl)
    have hidl:=hyk id _ rfl;rw[bagR_length]at g4;rw[bagR_flat]at hid;obtain⟨r0,h1,e1,k1,o1⟩:=fdel S id hp hSp hSl hid true;have hk1:∀(j:Nat) (b:Blk),h[j]?=some b→h1[j]?=some b:=fun j b hj=>by
     have hjl:=(Za.1 hj).1;exact k1 j b (by omega) (hkeep j b hj)
    rcases o1 with⟨hF,z,rfl⟩|⟨hF,rfl,rest,hr1⟩
    ·have hn0:[]=normS Z:=hno [] (by rw[show(S.filter fun x=>x.2 !=0)=[]from hF]) .nil;have fs:=fun b h=>fsn b (.ls 2 [] z) h (.inr ⟨z,rfl⟩)
     simp[hlen,g4,e1,fs];exact⟨_,_,⟨rfl,rfl⟩,hk1,.inl ⟨hn0.symm,.inr ⟨z,rfl⟩⟩⟩
    ·obtain⟨r,p1,p2,e2⟩:=fsrt (nzF S) id rest h1 (fun q hq=>hSr q ((List.mem_filter.1 hq).1)) (Ye (List.length_filter_le _ _) hSl) hr1 true;have hn0:r=normS Z:=hno r p1 p2;have hrl:=p1.length_eq;have hrn:r≠ []:=fun e=>hF (by rw[e]at p1;exact List.perm_nil.1 p1.symm)
     have hid1:id<h1.length:=(Za.1 hr1).1;simp[hlen,g4,e1,e2];rw[←hn0];refine⟨_,_,⟨rfl,rfl⟩,fun j b hj=>?_,.inr ⟨hrn,id,rest,by omega,by rw[hrl],by rw[Zj hid1]⟩⟩;have hjl:=(Za.1 hj).1;rw[Zq (by omega)];exact hk1 j b hj
 ·skip
  obtain⟨cz,hcz⟩:∃cz,cz=Z.flatMap encS++xr:=⟨_,rfl⟩;rw[←hcz]at hxid;have hczl:Z.length*2≤cz.length:=by rw[hcz,Zu,bag_len];omega
  have hczr:∀i p,Z[i]?=some p→(cz.drop (i*2)).take 2=encS p:=fun i p hp=>by rw[hcz];exact bag_row hp xr
  clear hcz;simp[Tryz.f18];refine loop_up (C:=cx) (G:=fun r=>∃r0 h',finX _ (thenX _ _ (blockX _ r) _)=some (r0,h')∧NR h h' (normS Z) r0)
   (fun i s=>NormI h Z (.sl xid 2 0 Z.length false) i s) (fun o s=>o= .exit 0∧NormI h Z (.sl xid 2 0 Z.length false) Z.length s) Z.length (by have:=hB.len;simp;omega) ?_ ?_ ?_
  ·refine⟨by omega,rfl,rfl,rfl,rfl,rfl,by simp,fun j b hj=>by rw[Zd (Za.1 hj).1];exact hj,⟨0,by simp[sumV,mapE]⟩,_,rfl,.inl ⟨by simp[sumV,bagR],rfl⟩,fun k n e=>by cases e⟩
  ·rintro i fr hp hle ⟨hi0,hlen,g3,g11,g12,g13,hhl,hkeep,⟨ck,hm⟩,y,g4,hy,hyk⟩;simp only at hlen g3 g11 g12 g13 g4 hhl hkeep hm hy;by_cases hi:i<Z.length
   ·obtain⟨p,hx⟩:∃p,Z[i]?=some p:=⟨_,Zb hi⟩;have hpB:=hB.row p (Zi hx);have hpn:=hB.num p (Zi hx);have hst:=sumV_take hx;have hSr:=sumV_row (D:=D) (Z.take i) fun q hq=>hB.row q (List.mem_of_mem_take hq)
    have hSl:(sumV addZ (Z.take i)).length≤1000000:=by have h1:=sumV_len (Z.take i);have h2:=hB.len;rw[List.length_take]at h1;omega
    have fk:=fkey p.1 hpB;have fc:=fcln p.1 hpB;have hz0:=hkeep xid _ hxid;have hz0':∀k,hp[xid]'k= .row cz:=fun k=>by obtain⟨_,e⟩:=Za.1 hz0;exact e
    have hr:=hczr i p hx;have hc9:i*2+2≤cz.length:=by omega
    unfold encS at hr;obtain⟨r,n⟩:=p;simp only at hpB hpn hst fk fc hr;generalize sumV addZ (Z.take i)=S at hm hy hst hSr hSl;have hall:=mapE_str S 0;have hM:∀y:Blk,(hp++[y])[h.length]?=some (.map (mapE S 0) ck):=fun y=>by rw[Zd hhl];exact hm
    have hM':∀(y:Blk) k,(hp++[y])[h.length]'k= .map (mapE S 0) ck:=fun y k=>by obtain⟨_,e⟩:=Za.1 (hM y);exact e
    have hT:∀(e w:Blk),((hp++[e]).set h.length w)[hp.length]?=some e:=fun e w=>by rw[Zq (by omega)];simp
    have hT':∀(e w:Blk) k,((hp++[e]).set h.length w)[hp.length]'k=e:=fun e w k=>by obtain⟨_,e⟩:=Za.1 (hT e w);exact e
    have hf:=fit_succ (i:=i) (by have:=hB.len;omega);by_cases hin:r∈S.map (·.1)
    ·obtain⟨a,m,t,eS,hna⟩:=first_of S hin;have hat:=mapAt_some (t:=t) (m:=m) hpB (fun q hq=>hSr q (by rw[eS];simp[hq])) hna;rw[←eS]at hat;rw[eS,insV_old a m t r n hna]at hst;have hmz:mapE (a++(r,addZ m n)::t) 0=mapE S 0:=by rw[eS];exact mapE_keys _ _ 0 (by simp)
     have haS:a.length<S.length:=by rw[eS];simp
     rcases hy with⟨hS0,rfl⟩|⟨hS1,id,rfl,hid⟩
     ·rw[bagR]at hS0;rw[eS]at hS0;simp at hS0
     ·have hidl:=hyk id _ rfl;have hidp:id<hp.length:=(Za.1 hid).1;rw[bagR_length]at g4;rw[bagR_flat]at hid;have hset:=bag_set a r m (addZ m n) t;have hat1:=bag_at a r m t [];rw[Yf,←eS]at hat1;rw[←eS]at hset;have hcl:=bag_len S;have hSz:S.length=(a++(r,addZ m n)::t).length:=by rw[eS];simp
      generalize S.flatMap encS=cs2 at hid hset hat1 hcl;have hA:∀y:Blk,(hp++[y])[id]?=some (.row cs2):=fun y=>by rw[Zd hidp];exact hid
      have hA':∀(y:Blk) k,(hp++[y])[id]'k= .row cs2:=fun y k=>by obtain⟨_,e⟩:=Za.1 (hA y);exact e
      have hat2:∀k,cs2[a.length*2+1]'k= .sc (.int .i64 m):=fun k=>by obtain⟨_,e⟩:=Za.1 hat1;exact e
      have hcl2:a.length*2+1+1≤cs2.length:=by clear hf;omega
      generalize mapE S 0=es at hm hall hM hM' hat hmz;unfold addZ at hset;simp[hlen,g3,g11,g12,g13,g4,hi,hz0,hz0',hr,hc9,setlast,getlast,sps,spA,fk,hM,hM',hall,hat,hA,hA',hat1,hat2,hcl2,haS,hf];clear hf fk fc fkey fcln;refine⟨by omega,by simp[hlen],by simp[hlen,g3],by simp[hlen,g11],by simp[hlen,g12],by simp[hlen],by simp;omega,fun j b hj=>?_,⟨ck,?_⟩,.sl id 2 0 S.length false,by simp[hlen,g4],?_,fun k n e=>by simp only[AV.sl.injEq]at e;omega⟩
      ·have hjl:=(Za.1 hj).1;rw[Zq (by omega),Zd (by omega)];exact hkeep j b hj
      ·rw[Zq (by omega),hM,hst,hmz]
      ·rw[hst];refine .inr ⟨by simp[bagR],id,by rw[bagR_length,hSz],?_⟩;rw[Zj (by simp;omega),bagR_flat,hset];rfl
    ·have hat:=mapAt_none hpB hSr hin;have hix:=keyIx_none hpB S 0 0 hSr hin;rw[insV_new S r n hin]at hst;have hmz:=mapE_snoc S (r,n) 0;generalize mapE S 0=es at hm hall hM hM' hat hix hmz;have fn:fitI .i64 n=n:=fit_i64 hpn.1 hpn.2;rcases hy with⟨hS0,rfl⟩|⟨hS1,id,rfl,hid⟩
     ·have hSe:S=[]:=by cases S with
       |nil=>rfl
       |cons _ _=>simp[bagR]at hS0
      subst hSe;have hyT:∀T:Hp,Bld T 2 (bagR []) (.sc (.slice none 0 0)):=fun T=> .inl ⟨rfl,rfl⟩
      obtain⟨T,hTe⟩:∃T:Hp,T=(hp++[Blk.row [.ls 5 (encL r.1) false,.sc (.int .i64 n)]]).set h.length (.map (es++[(.string (keyOf r),.sc (.int .i64 0))]) (ck+1)):=⟨_,rfl⟩;have hTl:T.length=hp.length+1:=by rw[hTe];simp
      have hTm:T[h.length]?=some (.map (es++[(.string (keyOf r),.sc (.int .i64 0))]) (ck+1)):=by rw[hTe];exact Zj (by simp;omega)
      have hTx:T[hp.length]?=some (.row [.ls 5 (encL r.1) false,.sc (.int .i64 n)]):=by rw[hTe];exact hT _ _
      have hTk:∀j b,j<hp.length→j≠h.length→hp[j]?=some b→T[j]?=some b:=fun j b h1 h2 h3=>by rw[hTe,Zq (fun e=>h2 e.symm),Zd h1];exact h3
      obtain⟨id',h3,q1,q2,q3,q4⟩:=bld_app' (t:=24) T_Bag rfl T [.ls 5 (encL r.1) false,.sc (.int .i64 0)] (bagR []) (.sc (.slice none 0 0)) (hyT T) rfl (fun r hr=>(bagR_all _).1 r hr) (by omega) (by simp[bagR]) (by omega);have z1:=q3 hp.length _ hTx (fun k n e=>by cases e);have z2:=q3 h.length _ hTm (fun k n e=>by cases e);have zk:∀j b,h[j]?=some b→h3[j]?=some b:=fun j b hj=>by
       have hjl:=(Za.1 hj).1;exact q3 j b (hTk j b (by omega) (by omega) (hkeep j b hj)) (fun k n e=>by cases e)
      have hid3:id'<h3.length:=(Za.1 q2).1;have z1':∀k,h3[hp.length]'k= .row [.ls 5 (encL r.1) false,.sc (.int .i64 n)]:=fun k=>by obtain⟨_,e⟩:=Za.1 z1;exact e
      rw[hTl,bagR_length]at q1;have hcs:(bagR []++[[AV.ls 5 (encL r.1) false,.sc (.int .i64 0)]]).flatten=([]++(r,(0:Int)):: []).flatMap encS:=by
       rw[List.flatten_append,bagR_flat,List.flatMap_append];rfl
      rw[hcs]at q2;have hset:=bag_set [] r 0 n [];have hat1:=bag_at [] r 0 [] [];have hcl:=bag_len ([]++(r,(0:Int)):: []);rw[Yf]at hat1;generalize([]++(r,(0:Int)):: []).flatMap encS=cs3 at q2 hset hat1 hcl;have q2':∀k,h3[id']'k= .row cs3:=fun k=>by obtain⟨_,e⟩:=Za.1 q2;exact e
      simp only[Zu,List.length_cons,List.length_nil,Nat.zero_add,Nat.zero_mul]at hcl hat1 hset q1;rw[hTe]at q1;have hcl2:1+1≤cs3.length:=by omega
      have hat2:∀k,cs3[1]'k= .sc (.int .i64 0):=fun k=>by obtain⟨_,e⟩:=Za.1 hat1;exact e
      simp[hlen,g3,g11,g12,g13,g4,hi,hz0,hz0',hr,hc9,setlast,getlast,sps,spA,fk,fc,hM,hM',hall,hat,hix,hT,hT',q1,q2,q2',z1,z1',hat1,hat2,hcl2,fn,hf];clear hf fn fk fc fkey fcln;refine⟨by omega,by simp[hlen],by simp[hlen,g3],by simp[hlen,g11],by simp[hlen,g12],by simp[hlen],by simp;omega,fun j b hj=>?_,⟨ck+1,?_⟩,.sl id' 2 0 1 false,by simp[hlen],?_,fun k n e=>by simp only[AV.sl.injEq]at e;omega⟩
      ·have hjl:=(Za.1 hj).1;rw[Zq (by omega)];exact zk j b hj
      ·rw[Zq (by omega),z2,hst];rw[hmz];simp
      ·rw[hst];exact .inr ⟨by simp[bagR],id',by simp[bagR],by rw[Zj hid3,bagR_flat,hset]⟩
     ·have hSp:S≠ []:=fun e=>hS1 (by rw[e];rfl)
      have hidl:=hyk id _ rfl;have hidp:id<hp.length:=(Za.1 hid).1;rw[bagR_length]at g4;obtain⟨T,hTe⟩:∃T:Hp,T=(hp++[Blk.row [.ls 5 (encL r.1) false,.sc (.int .i64 n)]]).set h.length (.map (es++[(.string (keyOf r),.sc (.int .i64 (S.length:Nat)))]) (ck+1)):=⟨_,rfl⟩;have hTl:T.length=hp.length+1:=by rw[hTe];simp
      have hTm:T[h.length]?=some (.map (es++[(.string (keyOf r),.sc (.int .i64 (S.length:Nat)))]) (ck+1)):=by rw[hTe];exact Zj (by simp;omega)
      have hTx:T[hp.length]?=some (.row [.ls 5 (encL r.1) false,.sc (.int .i64 n)]):=by rw[hTe];exact hT _ _
      have hTk:∀j b,j<hp.length→j≠h.length→hp[j]?=some b→T[j]?=some b:=fun j b h1 h2 h3=>by rw[hTe,Zq (fun e=>h2 e.symm),Zd h1];exact h3
      have hyT:Bld T 2 (bagR S) (.sl id 2 0 S.length false):= .inr ⟨hS1,id,by rw[bagR_length],hTk id _ hidp (by omega) hid⟩;obtain⟨id',h3,q1,q2,q3,q4⟩:=bld_app' (t:=24) T_Bag rfl T [.ls 5 (encL r.1) false,.sc (.int .i64 0)] (bagR S) (.sl id 2 0 S.length false) hyT rfl (fun r hr=>(bagR_all _).1 r hr) (by omega) (by rw[bagR_length];omega) (by omega);have z1:=q3 hp.length _ hTx (fun k n e=>by simp only[AV.sl.injEq]at e;omega);have z2:=q3 h.length _ hTm (fun k n e=>by simp only[AV.sl.injEq]at e;omega);have zk:∀j b,h[j]?=some b→h3[j]?=some b:=fun j b hj=>by
       have hjl:=(Za.1 hj).1;exact q3 j b (hTk j b (by omega) (by omega) (hkeep j b hj)) (fun k n e=>by simp only[AV.sl.injEq]at e;omega)
      have hid3:id'<h3.length:=(Za.1 q2).1;have z1':∀k,h3[hp.length]'k= .row [.ls 5 (encL r.1) false,.sc (.int .i64 n)]:=fun k=>by obtain⟨_,e⟩:=Za.1 z1;exact e
      rw[hTl,bagR_length]at q1;have hcs:(bagR S++[[AV.ls 5 (encL r.1) false,.sc (.int .i64 0)]]).flatten=(S++(r,(0:Int)):: []).flatMap encS:=by
       rw[List.flatten_append,bagR_flat,List.flatMap_append];rfl
      rw[hcs]at q2;have hset:=bag_set S r 0 n [];have hat1:=bag_at S r 0 [] [];have hcl:=bag_len (S++(r,(0:Int)):: []);rw[Yf]at hat1;generalize(S++(r,(0:Int)):: []).flatMap encS=cs3 at q2 hset hat1 hcl;have q2':∀k,h3[id']'k= .row cs3:=fun k=>by obtain⟨_,e⟩:=Za.1 q2;exact e
      simp only[Zu,List.length_cons,List.length_nil,Nat.zero_add,Nat.zero_mul]at hcl hat1 hset q1;rw[hTe]at q1;have hcl2:S.length*2+1+1≤cs3.length:=by omega
      have hat2:∀k,cs3[S.length*2+1]'k= .sc (.int .i64 0):=fun k=>by obtain⟨_,e⟩:=Za.1 hat1;exact e
      simp[hlen,g3,g11,g12,g13,g4,hi,hz0,hz0',hr,hc9,setlast,getlast,sps,spA,fk,fc,hM,hM',hall,hat,hix,hT,hT',q1,q2,q2',z1,z1',hat1,hat2,hcl2,fn,hf];clear hf fn fk fc fkey fcln;refine⟨by omega,by simp[hlen],by simp[hlen,g3],by simp[hlen,g11],by simp[hlen,g12],by simp[hlen],by simp;omega,fun j b hj=>?_,⟨ck+1,?_⟩,.sl id' 2 0 (S.length+1) false,by simp[hlen],?_,fun k n e=>by simp only[AV.sl.injEq]at e;omega⟩
      ·have hjl:=(Za.1 hj).1;rw[Zq (by omega)];exact zk j b hj
      ·rw[Zq (by omega),z2,hst];rw[hmz];simp
      ·rw[hst];exact .inr ⟨by simp[bagR],id',by simp[bagR],by rw[Zj hid3,bagR_flat,hset]⟩
   ·have hil:i=Z.length:=Zz hi0 (Zy hi);subst hil;simp[hlen,g3,g11,g12,g13,hxid];exact⟨hi0,by simp[hlen],by simp[hlen,g3],by simp[hlen,g11],by simp[hlen,g12],by simp[hlen,g13],hhl,hkeep,⟨ck,hm⟩,y,by simp[hlen,g4],hy,hyk⟩
  ·rintro o fr hp hn ⟨rfl,q⟩;obtain⟨_,hlen,g3,g11,g12,g13,hhl,hkeep,_,y,g4,hy,hyk⟩:=q;simp only at hlen g3 g11 g12 g13 g4 hhl hkeep hy;rw[List.take_length]at hy;have hSr:=sumV_row (D:=D) Z hB.row;have hSl:(sumV addZ Z).length≤1000000:=Ye (sumV_len Z) hB.len;have hno:=norm_eq (add:=addZ) ordR_tot Z;generalize sumV addZ Z=S at hy hSr hSl hno;rcases hy with⟨hS0,rfl⟩|⟨hS1,id,rfl,hid⟩
   ·have hSe:S=[]:=by cases S with
     |nil=>rfl
     |cons _ _=>simp[bagR]at hS0
    subst hSe;have hn0:[]=normS Z:=hno [] (.refl _) .nil;have fs:=fun b h=>fsn b (.sc (.slice none 0 0)) h (.inl rfl)
    simp[hlen,g4,fdn,fs];exact⟨_,_,⟨rfl,rfl⟩,hkeep,.inl ⟨hn0.symm,.inl rfl⟩⟩
   ·have hSp:S≠ []:=fun e=>hS1 (by rw[e];rfl)
    have hidl:=hyk id _ rfl;rw[bagR_length]at g4;rw[bagR_flat]at hid;obtain⟨r0,h1,e1,k1,o1⟩:=fdel S id hp hSp hSl hid true;have hk1:∀(j:Nat) (b:Blk),h[j]?=some b→h1[j]?=some b:=fun j b hj=>by
     have hjl:=(Za.1 hj).1;exact k1 j b (by omega) (hkeep j b hj)
    rcases o1 with⟨hF,z,rfl⟩|⟨hF,rfl,rest,hr1⟩
    ·have hn0:[]=normS Z:=hno [] (by rw[show(S.filter fun x=>x.2 !=0)=[]from hF]) .nil;have fs:=fun b h=>fsn b (.ls 2 [] z) h (.inr ⟨z,rfl⟩)
     simp[hlen,g4,e1,fs];exact⟨_,_,⟨rfl,rfl⟩,hk1,.inl ⟨hn0.symm,.inr ⟨z,rfl⟩⟩⟩
    ·obtain⟨r,p1,p2,e2⟩:=fsrt (nzF S) id rest h1 (fun q hq=>hSr q ((List.mem_filter.1 hq).1)) (Ye (List.length_filter_le _ _) hSl) hr1 true;have hn0:r=normS Z:=hno r p1 p2;have hrl:=p1.length_eq;have hrn:r≠ []:=fun e=>hF (by rw[e]at p1;exact List.perm_nil.1 p1.symm)
     have hid1:id<h1.length:=(Za.1 hr1).1;simp[hlen,g4,e1,e2];rw[←hn0];refine⟨_,_,⟨rfl,rfl⟩,fun j b hj=>?_,.inr ⟨hrn,id,rest,by omega,by rw[hrl],by rw[Zj hid1]⟩⟩;have hjl:=(Za.1 hj).1;rw[Zq (by omega)];exact hk1 j b hj
end
end Go.Proofs.YtiefabpageilbaaGreatDoor
