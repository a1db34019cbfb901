/- The scope after some clauses, joined; the columns of a query: the program's bind.Scope and bind.Check. -/
import Derived.Test.YtmocfjnklfpnbaaGreatDoorP31
set_option linter.all false
set_option maxRecDepth 100000
namespace Go.Proofs.YtmocfjnklfpnbaaGreatDoor
open Go Go.Ae
section
attribute [local simp] aop aopW coldF extF putA ofConst flat scalarOp fastOp binFast intOp strOp guardX Ae.part rowOf szOk natOf lenA cls fillA newsOf isNilC cellX splice
set_option maxHeartbeats 32000000
theorem sc_body (D d M:Nat)(l:List Cp)(n:Int)(hb:∀c∈l,BdC D d c)(hb':∀c∈l,BbC D d c)(hl:l.length≤1000000)(hn:2*D+3*d+80≤M):
 PS (exec2 cx (callN cx M) kSC ([.ag (encQ l),.sc (.int .i64 n)]++List.replicate 46 .un,[])) (scopeE l n):=by
 have f1:=fun b h=>sy_Check D d M b l h hb (by omega)
 have hrest:=fun fr hlen g1 g2 g9 (hT:scopeL (l.take (cutN l.length n)) ⟨[],[],0⟩ 0=scopeE l n)=>sc_3 D d M l n _ hb' hl (by omega) hT fr hlen g1 g2 g9
 rw[show kSC= .seq (cL (cT 0 kSC)) (.seq (cL (cT 1 kSC)) (.seq (cL (cT 2 kSC)) (cT 3 kSC))) by kernel_rfl];generalize cT 3 kSC=Z at hrest⊢;have hTd:scopeE l n=if(queryE l).2=0 then scopeL (l.take (cutN l.length n)) ⟨[],[],0⟩ 0 else([],(queryE l).1,(queryE l).2):=rfl
 generalize scopeE l n=T at *;generalize scopeL (l.take (cutN l.length n)) ⟨[],[],0⟩ 0=T1 at *;generalize queryE l=q at *;unfold encQ at f1⊢;clear hb hb' hn;generalize cpR l=rows at *;obtain⟨q1,q2⟩:=q;simp only at f1 hTd;by_cases h2:q2=0
 ·rw[if_pos h2]at hTd;subst h2;simp[kSC,cT,cR,cL,Tryz.f16,f1];exact hrest _ (by simp) (by simp) (by simp) (by simp) hTd.symm
 ·rw[if_neg h2]at hTd;subst hTd;refine⟨.sc (.slice none 0 0),[.row [.ls 21 rows false]],?_,.inl ⟨rfl,rfl⟩⟩;simp[kSC,cT,cR,cL,Tryz.f16,f1,h2]
theorem bd_Scope (D d n:Nat)(b:Bool)(l:List Cp)(m:Int)(h:Hp)(hb:∀c∈l,BdC D d c)(hb':∀c∈l,BbC D d c)(hl:l.length≤1000000)(hn:2*D+3*d+90≤n):callN cx n b 16 [.ag (encQ l),.sc (.int .i64 m)] h=some (.tp [bldV 2 (coR (scopeE l m).1),.sc (.int .i64 (scopeE l m).2.1),.sc (.int .i64 (scopeE l m).2.2)],h):=by
 obtain⟨M,rfl⟩:∃M,n=M+1:=⟨n-1,by omega⟩;obtain⟨y,h',f1,hB⟩:=sc_body D d M l m hb hb' hl (by omega);refine pure_at (n:=M) (r:= .tp [y,.sc (.int .i64 (scopeE l m).2.1),.sc (.int .i64 (scopeE l m).2.2)]) (h':=h') ⟨Tryz.f16.ntmps,(Tryz.f16.body).getD .skip,[.tmp 4,.tmp 5,.tmp 6]⟩ (by kernel_rfl) (by kernel_rfl) rfl (by kernel_rfl) (by simp[Tryz.f16]) rfl f1 ?_ b h;have hsn:=bld_snap (n:=6) (by omega) (coR_all _).1 (coR_all _).2 hB;show([y,_,_].mapM (snap h' 7)).map AV.tp=_;rw[Zo,hsn];rfl
noncomputable def kBC :Code:=(Tryz.f15.body).getD .skip
def PK (r:Option (Out × St))(cols:List ByteArray)(i e:Int):Prop:=∃y h',finX [.tmp 2,.tmp 3,.tmp 4] r=some (.tp [y,.sc (.int .i64 i),.sc (.int .i64 e)],h')∧Bld h' 1 (tsR cols) y
theorem bc_5 (M:Nat)(cols:List ByteArray)(y:AV)(fr:List AV)(h:Hp)(hlen:fr.length=47)(h8:gt fr 8=y)(hB:Bld h 1 (tsR cols) y):PK (exec2 cx (callN cx M) (cT 5 kBC) (fr,h)) cols 0 0:=by
 have q1:=fun(ops:Array Oper) (dd:Tmp) (rest:List Oper) (fr:List AV) (h:Hp)=>opP_np (C:=cx) (cal:=callN cx M true) (ops:=ops) (fun v=>hB.np v) dd rest fr h
 refine⟨y,h,?_,hB⟩;simp[kBC,cT,cR,cL,Tryz.f15,hlen,h8,q1]
theorem bc_4 (M:Nat)(sc:Sco)(X:Code)(fr:List AV)(h:Hp)(hl:sc.length≤24)(hlen:fr.length=47)(h5:gt fr 5=bldV 2 (coR sc))(h8:gt fr 8= .sc (.slice none 0 0))(rows:List (List AV))(m:Nat)(row:List AV)(kd:Int)(h1:gt fr 1= .pt 0 0)(hh:h[0]?=some (.row [.ls 21 rows false]))(hm:rows.length=m+1)(hm6:m≤1000000)(hr:rows[m]?=some row)(hk:row[0]?=some (.sc (.int .i64 kd)))
 (hX:∀fr h y,fr.length=47→gt fr 8=y→Bld h 1 (tsR (if kd=4 then sc.map (·.1)else[])) y→PK (exec2 cx (callN cx M) X (fr,h)) (if kd=4 then sc.map (·.1)else[]) 0 0):
 PK (exec2 cx (callN cx M) (.seq (cL (cT 4 kBC)) X) (fr,h)) (if kd=4 then sc.map (·.1)else[]) 0 0:=by
 have hf1:fitI .i64 (((m+1:Nat):Int)-1)=(m:Int):=by
  rw[fit_i64 (by omega) (by omega)];omega
 have hr':∀k,rows[m]'k=row:=fun kx=>by obtain⟨_,e⟩:=Za.1 hr;exact e
 generalize hL:((m+1:Nat):Int)=L at hf1;have hmL:(rows.length:Int)=L:=by rw[hm];exact hL
 have hml:m<rows.length:=by omega
 by_cases k4:kd=4
 ·rw[if_pos k4]at hX⊢;subst k4;by_cases hs0:sc=[]
  ·subst hs0;rw[show bldV 2 (coR [])= .sc (.slice none 0 0)from rfl]at h5;simp[kBC,cT,cR,cL,Tryz.f15,hlen,h1,hh,hmL,hf1,hr,hr',hk,hml,h5];generalize hXX:exec2 cx (callN cx M) (.loop _) _=XX;refine loopE hXX (fun i st=>st.1.length=47∧gt st.1 8= .sc (.slice none 0 0)∧gt st.1 35= .sc (.int .i64 0)∧gt st.1 36= .sc (.int .i64 0)) (fun o st=>o= .exit 0∧st.1.length=47∧gt st.1 8= .sc (.slice none 0 0)) 0 (by simp) ⟨by simp[hlen],by simp[h8],by simp[hlen],by simp[hlen]⟩ ?_ ?_
   ·rintro i fr hp hle ⟨hlen,h8,h35,h36⟩;simp only at hlen h8 h35 h36;simp[hlen,h8,h35,h36]
   ·rintro o fr' h' rfl ⟨rfl,hlen,h8⟩;simp;exact hX _ _ _ hlen h8 (.inl ⟨rfl,rfl⟩)
  ·obtain⟨c0,l0,rfl⟩:∃c l,sc=c::l:=by cases sc with
    |nil=>exact absurd rfl hs0
    |cons c l=>exact⟨c,l,rfl⟩
   rw[show bldV 2 (coR (c0::l0))= .ls 2 (coR (c0::l0)) false from rfl]at h5;generalize c0::l0=sc at *;have hq:=coR_length sc;have hg:=coR_get sc;generalize coR sc=rs at hq hg h5;simp[kBC,cT,cR,cL,Tryz.f15,hlen,h1,hh,hmL,hf1,hr,hr',hk,hml,h5,hq];generalize hXX:exec2 cx (callN cx M) (.loop _) _=XX;refine loopE hXX (fun i st=>st.1.length=47∧gt st.1 34= .ls 2 rs false∧gt st.1 35= .sc (.int .i64 (sc.length:Nat))∧gt st.1 36= .sc (.int .i64 (i:Nat))∧∃y,gt st.1 8=y∧Bld st.2 1 (tsR ((sc.take i).map (·.1))) y) (fun o st=>o= .exit 0∧st.1.length=47∧∃y,gt st.1 8=y∧Bld st.2 1 (tsR (sc.map (·.1))) y) sc.length (by simp;omega) ⟨by simp[hlen],by simp[hlen],by simp[hlen],by simp[hlen],_,by simp[h8],.inl ⟨rfl,rfl⟩⟩ ?_ ?_
   ·clear hXX XX hlen h1 h5 h8 hh hf1 hX hmL hL hr hr';rintro i fr hp hle ⟨hlen,h34,h35,h36,y,h8,hy⟩;simp only at hlen h34 h35 h36 h8 hy;by_cases hi:i<sc.length
    ·obtain⟨x,hx,hr,hr'⟩:=row_get hg hi;have hf0:i≤1000000000000000:=by omega
     have hst:(sc.take (i+1)).map (·.1)=(sc.take i).map (·.1)++[x.1]:=by rw[take_snoc hx];simp
     have q3:=fun(ops:Array Oper) (d:Tmp) (rest:List Oper) (fr:List AV) (h:Hp)=>opP_np (C:=cx) (cal:=callN cx M true) (ops:=ops) (fun v=>hy.np v) d rest fr h
     have hkl:((sc.take i).map (·.1)).length≤1000000000:=by simp;omega
     obtain⟨id',h4,b1,b2,b3,b4⟩:=bld_app' (t:=47) T___string rfl (hp++[.row (coV x)]) [.sc (.string x.1)] (tsR ((sc.take i).map (·.1))) y (hy.grow _) rfl (tsR_all _).1 (by omega) (by rw[tsR_length];exact hkl) (by omega);have hy2:=bld_of (sz:=1) b2;simp only[Zp,Zv,Zw,Zu,List.length_cons,List.length_nil,Nat.zero_add]at b1;unfold coV at hr hr' b1;rw[←tsR_snoc,←hst]at hy2;generalize(tsR ((sc.take i).map (·.1))).length=F at b1 hy2;have hf:=fit_succ hf0;simp[hlen,h34,h35,h36,h8,q3,hi,hq,hr,hr',spl2,spl1,b1,hf];simpa using hy2
    ·have hil:i=sc.length:=Yc hle (Yb hi);subst hil;rw[List.take_length]at hy;simp[hlen,h35,h36];rw[h8];exact hy
   ·rintro o fr' h' rfl ⟨rfl,hlen,y,h8,hy⟩;simp;exact hX _ _ y hlen h8 hy
 ·rw[if_neg k4]at hX⊢;simp[kBC,cT,cR,cL,Tryz.f15,hlen,h1,hh,hmL,hf1,hr,hr',hk,k4,hml];exact hX _ _ _ (by simp[hlen]) (by simp[h8]) (.inl ⟨rfl,rfl⟩)
def chkQ (l:List Cp):Sco × Int × Int:=scopeE l l.length
theorem bd_Check (D d n:Nat)(b:Bool)(l:List Cp)(h:Hp)(hb:∀c∈l,BdC D d c)(hb':∀c∈l,BbC D d c)(hl:l.length≤1000000)(hn:2*D+3*d+100≤n):∃cols,callN cx n b 15 [.ag (encQ l)] h=some (.tp [bldV 1 (tsR cols),.sc (.int .i64 (chkQ l).2.1),.sc (.int .i64 (chkQ l).2.2)],h):=by
 obtain⟨M,rfl⟩:∃M,n=M+1:=⟨n-1,by omega⟩;have f1:=fun b h=>bd_Scope D d M b l l.length h hb hb' hl (by omega)
 have hlen24:=scopeE_len l l.length;have hq0:(chkQ l).2.2=0→(chkQ l).2.1=0∧l≠ []:=by
  intro h0;unfold chkQ scopeE at h0⊢;by_cases hq:(queryE l).2=0
  ·rw[if_pos hq]at h0⊢;refine⟨?_,?_⟩
   ·clear f1 hlen24;generalize l.take _=lm at *;have key:∀(lm:List Cp) (s:Bs) (i:Nat),(scopeL lm s i).2.2=0→(scopeL lm s i).2.1=0:=by
     intro lm
     induction lm with
     |nil=>intro s i _;rfl
     |
      cons c lm ih=>
      intro s i h;rw[scopeL]at h⊢;split at h
      ·rename_i he;rw[if_pos he];exact ih _ _ h
      ·rename_i he;exact absurd h he
    exact key _ _ _ h0
   ·rintro rfl;simp[queryE]at hq
  ·rw[if_neg hq]at h0;exact absurd h0 hq
 have hkd:∃cols,PK (exec2 cx (callN cx M) kBC ([.ag (encQ l)]++List.replicate 46 .un,[])) cols (chkQ l).2.1 (chkQ l).2.2:=by
  rw[show kBC= .seq (cL (cT 0 kBC)) (.seq (cL (cT 1 kBC)) (.seq (cL (cT 2 kBC)) (.seq (cL (cT 3 kBC)) (.seq (cL (cT 4 kBC)) (cT 5 kBC))))) by kernel_rfl];change∀b h,callN cx M b 16 _ h=some (.tp [bldV 2 (coR (chkQ l).1),.sc (.int .i64 (chkQ l).2.1),.sc (.int .i64 (chkQ l).2.2)],h)at f1;change(chkQ l).1.length≤24 at hlen24;have hy:∀v,bldV 2 (coR (chkQ l).1)≠ .pn v:=fun v=>by unfold bldV;split<;>simp
  have q3:=fun(ops:Array Oper) (dd:Tmp) (rest:List Oper) (fr:List AV) (h:Hp)=>opP_np (C:=cx) (cal:=callN cx M true) (ops:=ops) hy dd rest fr h
  have hq:=cpR_length l;by_cases h0:(chkQ l).2.2=0
  ·obtain⟨h1,hne⟩:=hq0 h0;obtain⟨m,hm⟩:∃m,l.length=m+1:=⟨l.length-1,by have:=List.length_pos_iff.2 hne;omega⟩;obtain⟨c,hc⟩:∃c,l[m]?=some c:=⟨_,Zb (by omega)⟩;have hr:(cpR l)[m]?=some (encCp c):=by rw[cpR_get,hc];rfl
   rw[h0,h1]at f1⊢;refine⟨if c.kind=4 then(chkQ l).1.map (·.1)else[],?_⟩;have hrest:=fun fr h hlen h5 h8 h1 hh=>bc_4 M (chkQ l).1 (cT 5 kBC) fr h hlen24 hlen h5 h8 (cpR l) m (encCp c) c.kind h1 hh (by rw[hq,hm]) (by omega) hr rfl (fun fr h y hlen h8 hB=>bc_5 M _ y fr h hlen h8 hB)
   generalize Code.seq (cL (cT 4 kBC)) (cT 5 kBC)=Z at hrest⊢;generalize(if c.kind=4 then(chkQ l).1.map (·.1)else[])=cols at *;unfold encQ at *;generalize bldV 2 (coR (chkQ l).1)=y at *;have hqi:((cpR l).length:Int)=(l.length:Int):=by rw[hq]
   clear hr hc hm hq0;generalize cpR l=rows at *;generalize(l.length:Int)=L at *;simp[kBC,cT,cR,cL,Tryz.f15,f1,q3,hqi];exact hrest _ _ (by simp) (by simp) (by simp) (by simp) rfl
  ·refine⟨[],.sc (.slice none 0 0),[.row (encQ l)],?_,.inl ⟨rfl,rfl⟩⟩;unfold encQ at *;have hqi:((cpR l).length:Int)=(l.length:Int):=by rw[hq]
   clear hq0;generalize Code.seq (cL (cT 3 kBC)) (.seq (cL (cT 4 kBC)) (cT 5 kBC))=Z;generalize bldV 2 (coR (chkQ l).1)=y at *;generalize(chkQ l).2.1=i1 at *;generalize(chkQ l).2.2=i2 at *;generalize cpR l=rows at *;generalize(l.length:Int)=L at *;simp[kBC,cT,cR,cL,Tryz.f15,f1,q3,hqi,h0]
 obtain⟨cols,y,h',f2,hB⟩:=hkd;refine⟨cols,?_⟩;refine pure_at (n:=M) (r:= .tp [y,.sc (.int .i64 (chkQ l).2.1),.sc (.int .i64 (chkQ l).2.2)]) (h':=h') ⟨Tryz.f15.ntmps,(Tryz.f15.body).getD .skip,[.tmp 2,.tmp 3,.tmp 4]⟩ (by kernel_rfl) (by kernel_rfl) rfl (by kernel_rfl) (by simp[Tryz.f15]) rfl f2 ?_ b h;have hsn:=bld_snap (n:=6) (by omega) (tsR_all _).1 (tsR_all _).2 hB;show([y,_,_].mapM (snap h' 7)).map AV.tp=_;rw[Zo,hsn];rfl
end
section
attribute [local simp] aop aopW coldF extF putA ofConst flat scalarOp fastOp binFast intOp strOp guardX Ae.part rowOf szOk natOf lenA cls fillA newsOf isNilC cellX
set_option maxHeartbeats 32000000
def zV :V:= .mk 0 0 0 ⟨#[]⟩ true []
def prd (k:Int)(n:ByteArray):Pr:=⟨k,n,⟨#[]⟩,zV⟩
def pdQ (l:List Pr):List (List AV):=l.map encP
theorem pdQ_length (l:List Pr):(pdQ l).length=l.length:=by simp[pdQ]
theorem pdQ_get (l:List Pr)(i:Nat):(pdQ l)[i]?=(l[i]?).map encP:=by simp[pdQ]
theorem encP_length (p:Pr):(encP p).length=8:=by unfold encP;simp[enc_length]
theorem pdQ_all (l:List Pr):∀r∈pdQ l,r.length=8:=fun r hr=>by obtain⟨c,_,rfl⟩:=Yh.1 hr;exact encP_length c
theorem encP_prd (k:Int)(n:ByteArray):encP (prd k n)=[.sc (.int .i64 k),.sc (.string n),.sc (.string ⟨#[]⟩),.sc (.int .i64 0),.sc (.int .i64 0),.sc (.int .i64 0),.sc (.string ⟨#[]⟩),.sc (.slice none 0 0)]:=by
 simp[encP,prd,zV,enc,lsV,encL]
def Free (id j:Nat)(h:Hp):Prop:=j≠id∧∀m,h[id]?≠some (.row [.sl j 8 0 m false])
def KR (id:Nat)(h h':Hp):Prop:=∀(j:Nat) (b:Blk),h[j]?=some b→Free id j h→h'[j]?=some b∧Free id j h'
theorem KR.refl (id:Nat)(h:Hp):KR id h h:=fun _ _ hj hf=>⟨hj,hf⟩
theorem KR.trans {id:Nat}{a b c:Hp}(h1:KR id a b)(h2:KR id b c):KR id a c:=fun j x hj hf=>by
 obtain⟨a1,a2⟩:=h1 j x hj hf;exact h2 j x a1 a2
def RS (id:Nat)(l:List Pr)(h:Hp):Prop:=∃y,h[id]?=some (.row [y])∧Bld h 8 (pdQ l) y∧∀k m,y= .sl k 8 0 m false→k≠id
theorem RS.lt {id:Nat}{l:List Pr}{h:Hp}(hS:RS id l h):id<h.length:=by
 obtain⟨y,h0,_⟩:=hS;exact(Za.1 h0).1
theorem RS.app {id:Nat}{l:List Pr}{h:Hp}(k:Hp)(hS:RS id l h):RS id l (h++k):=by
 obtain⟨y,h0,hB,hn⟩:=hS;exact⟨y,get_app k h0,hB.grow k,hn⟩
theorem KR.app {id:Nat}{h:Hp}(k:Hp)(hlt:id<h.length):KR id h (h++k):=fun j b hj hf=>by
 refine⟨get_app k hj,hf.1,fun m e=>hf.2 m ?_⟩;rw[Zd hlt]at e;exact e
theorem RS.free {id:Nat}{l:List Pr}{h:Hp}(k:Hp)(hS:RS id l h):Free id h.length (h++k):=by
 have hlt:=hS.lt;obtain⟨y,h0,hB,hn⟩:=hS;refine⟨by omega,fun m e=>?_⟩;rw[Zd hlt,h0]at e;injection e with e
 injection e with e
 injection e with e _
 rcases hB with⟨_,rfl⟩|⟨_,i,rfl,hi⟩
 ·cases e
 ·injection e with e
  have:=(Za.1 hi).1;omega
theorem bld_appM {t:TypeId}{i:Ti}{sz bytes:Nat}{ag:Bool}{ez:List Value}(hT:cx.T t=some i)(hk:i.kd= .slice sz ag bytes ez)(h:Hp)(c:List AV)(z:Bool)(rows:List (List AV))(x:AV)(hx:Bld h sz rows x)(hc:c.length=sz)(hr:∀r∈rows,r.length=sz)(hsz:0<sz)(hn:rows.length≤1000000000)(hb:bytes≤1000):
 ∃id h',appendA cx h t x (.ls sz [c] z)=some (.sl id sz 0 (rows.length+1) false,h')∧h'[id]?=some (.row (rows++[c]).flatten)∧
  (∀j b,h[j]?=some b→(∀k n,x= .sl k sz 0 n false→j≠k)→h'[j]?=some b)∧h.length≤id:=by
 obtain⟨size,agg,zero,kd⟩:=i;simp only at hk;subst hk;have hnews:newsOf h (.ls sz [c] z)=some (1,c):=by simp[newsOf]
 rcases hx with⟨rfl,rfl⟩|⟨hne,id,rfl,hid⟩
 ·refine⟨h.length,h++[.row c],?_,by simp,fun j b hj _=>get_app _ hj,Nat.le_refl _⟩;unfold appendA;rw[hT];simp only[szOk,beq_self_eq_true,Bool.and_self,if_true,hnews];rw[if_neg (by omega),if_pos (by unfold maxLen;omega)];rfl
 ·have hfl:rows.flatten.length=rows.length*sz:=flatten_length rows hr;have hby:(rows.length+1)*bytes≤140737488355328:=by
   have:=Nat.mul_le_mul (show rows.length+1≤1000000001 by omega) hb;omega
  have hidl:=(Za.1 hid).1;have hmul:(rows.length+1)*sz=rows.length*sz+sz:=by rw[Nat.add_mul,Nat.one_mul]
  refine⟨h.length,h.set id .dead++[.row (rows.flatten++c)],?_,?_,fun j b hj hjk=>?_,Nat.le_refl _⟩
  ·unfold appendA;rw[hT];simp only[szOk,beq_self_eq_true,Bool.and_self,if_true,hnews,hid];rw[if_neg (by omega),if_neg (by omega),if_pos ⟨trivial,hfl,by unfold maxLen;omega,hby⟩]
  ·rw[Zf (by simp)];simp
  ·have hjl:=(Za.1 hj).1;have hjn:j≠id:=hjk id _ rfl;rw[Zd (by simp;omega)];exact get_set_ne hj fun e=>hjn e.symm
theorem rd_store {id:Nat}{l:List Pr}{h h1:Hp}{y:AV}{j:Nat}(p:Pr)(h0:h[id]?=some (.row [y]))(hn:∀k m,y= .sl k 8 0 m false→k≠id)(hy:h1[j]?=some (.row (pdQ l++[encP p]).flatten))(hk:∀i b,h[i]?=some b→(∀k n,y= .sl k 8 0 n false→i≠k)→h1[i]?=some b)(hj:h.length≤j):
 RS id (l++[p]) (h1.set id (.row [.sl j 8 0 ((pdQ l).length+1) false]))∧KR id h (h1.set id (.row [.sl j 8 0 ((pdQ l).length+1) false])):=by
 have hidl:=(Za.1 h0).1;have h10:=hk id _ h0 (fun k n e=>(hn k n e).symm);have hjid:j≠id:=by omega
 refine⟨⟨_,get_set_self h10,.inr ⟨by simp[pdQ],j,by simp[pdQ],?_⟩,fun k m e=>by injection e;omega⟩,fun i b hi hf=>⟨?_,hf.1,fun m e=>?_⟩⟩
 ·rw[show pdQ (l++[p])=pdQ l++[encP p] by simp[pdQ]];exact get_set_ne hy fun e=>hjid e.symm
 ·refine get_set_ne (hk i b hi fun k n e=>?_) fun e=>hf.1 e.symm
  rintro rfl;exact hf.2 n (by rw[h0,e])
 ·rw[get_set_self h10]at e;injection e with e
  injection e with e
  injection e with e _
  injection e with e
  have:=(Za.1 hi).1;omega
theorem rd_add (n:Nat)(t:Bool)(id:Nat)(l:List Pr)(k:Int)(nm:ByteArray)(h:Hp)(hS:RS id l h)(hl:l.length≤1000000000):∃h',callN cx (n+1) t 47 [.pt id 0,.sc (.int .i64 k),.sc (.string nm)] h=some (.tp [],h')∧RS id (l++[prd k nm]) h'∧KR id h h':=by
 rw[call_inl (n:=n) ⟨Tryz.f47.ntmps,(Tryz.f47.body).getD .skip,[]⟩ rfl (by kernel_rfl) (by kernel_rfl) (by kernel_rfl) (by kernel_rfl) (by simp[Tryz.f47])];obtain⟨y,h0,hB,hn⟩:=hS;obtain⟨j,h1,b1,b2,b3,b4⟩:=bld_appM (t:=82) T_qRe rfl h (encP (prd k nm)) true (pdQ l) y hB (encP_length _) (pdQ_all l) (by omega) (by rw[pdQ_length];exact hl) (by omega);obtain⟨r1,r2⟩:=rd_store (prd k nm) h0 hn b2 b3 b4;refine⟨_,?_,r1,r2⟩;have h10:=b3 id _ h0 (fun k n e=>(hn k n e).symm);have q1:=fun(ops:Array Oper) (dd:Tmp) (rest:List Oper) (fr:List AV) (h:Hp)=>opP_np (C:=cx) (cal:=callN cx n true) (ops:=ops) (fun v=>hB.np v) dd rest fr h
 have hcls:cls y=some [y]:=by rcases hB with⟨_,rfl⟩|⟨_,j,rfl,_⟩<;>rfl
 rw[encP_prd]at b1;generalize(pdQ l).length=m at *;simp[Tryz.f47,h0,q1,b1,h10,splice,resR,coldA,chunk,calm]
def labelsB :ByteArray:=⟨#[108,97,98,101,108,115]⟩
def typeB :ByteArray:=⟨#[116,121,112,101]⟩
def startB :ByteArray:=⟨#[115,116,97,114,116]⟩
def endB :ByteArray:=⟨#[101,110,100]⟩
def emB :ByteArray:=⟨#[]⟩
def opR' (op:Int)(nm:ByteArray):List Pr:=if op=3 then[prd 3 nm,prd 6 nm]else if op=4 then[prd 2 nm]else if op=23 then(if eqS nm labelsB=true then[prd 2 emB]else if eqS nm typeB=true then[prd 5 emB]else if eqS nm startB=true then[prd 5 emB]else if eqS nm endB=true then[prd 5 emB]else[])else[]
mutual
def exR :Ep→List Pr
 | .mk op _ nm _ ks=>opR' op nm++exRs ks
def exRs :List Ep→List Pr
 | []=> []
 |x::xs=>exR x++exRs xs
end
theorem opR_len (op:Int)(nm:ByteArray):(opR' op nm).length≤2:=by
 unfold opR'
 repeat' split
 all_goals simp
mutual
theorem exR_len :∀e:Ep,(exR e).length≤2*cntX e
 |
  .mk op v nm ds ks=>by
  rw[exR,cntX,Zu];have h1:=opR_len op nm;have h2:=exRs_len ks;omega
theorem exRs_len :∀l:List Ep,(exRs l).length≤2*cntXs l
 | []=>by simp[exRs]
 |
  x::xs=>by
  rw[exRs,cntXs,Zu];have h1:=exR_len x;have h2:=exRs_len xs;omega
end
theorem cntXs_sum :∀l:List Ep,cntXs l=(l.map cntX).sum
 | []=>by simp[cntXs]
 |x::xs=>by rw[cntXs,List.map_cons,List.sum_cons,cntXs_sum xs]
def PR (id:Nat)(T:List Pr)(h0:Hp)(r:Option (Out × St)):Prop:=∃h',finX [] r=some (.tp [],h')∧RS id T h'∧KR id h0 h'
def elR (k:Int):List Pr:=if k=1 then[prd 1 emB]else if k=2 then[prd 5 emB]else[]
theorem elR_len (k:Int):(elR k).length≤1:=by
 unfold elR;split
 ·simp
 ·split<;>simp
theorem rd_elem (n:Nat)(t:Bool)(id:Nat)(l:List Pr)(k:Int)(h:Hp)(hS:RS id l h)(hl:l.length≤1000000000):∃h',callN cx (n+2) t 45 [.pt id 0,.sc (.int .i64 k)] h=some (.tp [],h')∧RS id (l++elR k) h'∧KR id h h':=by
 rw[call_inl (n:=n+1) ⟨Tryz.f45.ntmps,(Tryz.f45.body).getD .skip,[]⟩ rfl (by kernel_rfl) (by kernel_rfl) (by kernel_rfl) (by kernel_rfl) (by simp[Tryz.f45])];have fa:=fun k nm=>rd_add n true id l k nm h hS hl
 generalize n+1=M at fa⊢;unfold elR;by_cases k1:k=1
 ·rw[if_pos k1];obtain⟨h',f1,hS',hK'⟩:=fa 1 emB;unfold emB at f1;refine⟨h',?_,hS',hK'⟩;simp[Tryz.f45,k1,f1,resR]
 rw[if_neg k1];by_cases k2:k=2
 ·rw[if_pos k2];obtain⟨h',f1,hS',hK'⟩:=fa 5 emB;unfold emB at f1;refine⟨h',?_,hS',hK'⟩;simp[Tryz.f45,k2,f1,resR]
 ·rw[if_neg k2,Yk];refine⟨h,?_,hS,KR.refl _ _⟩;simp[Tryz.f45,k1,k2,resR]
theorem rd_expr (D:Nat):∀(d:Nat) (e:Ep),depX e≤d→bdX D e→∀(n:Nat) (t:Bool) (id:Nat) (l:List Pr) (h:Hp),RS id l h→l.length+2*cntX e≤1000000000→∃h',callN cx (n+d+1) t 44 [.pt id 0,.ag (encX e)] h=some (.tp [],h')∧RS id (l++exR e) h'∧KR id h h':=by
 intro d
 induction d with
 |zero=>intro e h;have:=depX_pos e;omega
 |
  succ d ih=>
  intro e de be n t id l h hS hl;rw[show n+(d+1)+1=n+d+1+1 by omega];rw[call_inl (n:=n+d+1) ⟨Tryz.f44.ntmps,(Tryz.f44.body).getD .skip,[]⟩ rfl (by kernel_rfl) (by kernel_rfl) (by kernel_rfl) (by kernel_rfl) (by simp[Tryz.f44])];have ho:=fun x hx=>ih x (kid_dep de hx) (kid_bd be hx) n
  obtain⟨op,v,nm,ds,ks⟩:=e;simp only[Ep.ks]at ho;rw[cntX]at hl;obtain⟨k,n',d',s,lv,rfl,hs,hll⟩:=gdX be;rw[encX_gd rfl,exR];have hq:=encXs_length ks;have hg:=encXs_get ks;generalize encXs ks=rows at hq hg⊢;generalize encL lv=r5;have fa:=fun(l:List Pr) k nm h hS hl=>rd_add (n+d) true id l k nm h hS hl
  generalize n+d+1=M at ho fa⊢;have loop:∀(l:List Pr) (fr:List AV) (h h0:Hp),RS id l h→KR id h0 h→l.length+2*cntXs ks≤1000000000→fr.length=49→gt fr 0= .pt id 0→gt fr 39= .ls 9 rows false→gt fr 40= .sc (.int .i64 (ks.length:Nat))→gt fr 41= .sc (.int .i64 (0:Nat))→PR id (l++exRs ks) h0 (exec2 cx (callN cx M) (cT 3 ((Tryz.f44.body).getD .skip)) (fr,h)):=by
   intro l fr h h0 hS hK hl hlen g0 h39 h40 h41;simp[cT,cR,Tryz.f44];generalize hXX:exec2 cx (callN cx M) (.loop _) _=XX;generalize hT:l++exRs ks=T;refine loopE hXX
    (fun i st=>st.1.length=49∧gt st.1 0= .pt id 0∧gt st.1 39= .ls 9 rows false∧gt st.1 40= .sc (.int .i64 (ks.length:Nat))∧gt st.1 41= .sc (.int .i64 (i:Nat))∧∃l',RS id l' st.2∧KR id h0 st.2∧l'.length+2*cntXs (ks.drop i)≤1000000000∧l'++exRs (ks.drop i)=T)
    (fun o st=>o= .exit 2∧RS id T st.2∧KR id h0 st.2)
    ks.length (by simp;omega) ⟨hlen,g0,h39,h40,h41,l,hS,hK,hl,hT⟩ ?_ ?_
   ·clear hXX XX hT hS hK hl hlen g0 h39 h40 h41 l;rintro i fr hp hle ⟨hlen,g0,h39,h40,h41,l,hS,hK,hl,hT⟩;simp only at hlen g0 h39 h40 h41 hS hK;by_cases hi:i<ks.length
    ·obtain⟨x,hx,hr,hr'⟩:=row_get hg hi;have hf0:i≤1000000000000000:=Yj hle hll;rw[drop_of hx,cntXs]at hl;rw[drop_of hx,exRs,←Zp]at hT;have hlt:=hS.lt;obtain⟨h',f1,hS',hK'⟩:=ho x (Zi hx) true id l _ (hS.app [.row (encX x)]) (by omega);have hl':(l++exR x).length+2*cntXs (ks.drop (i+1))≤1000000000:=by have:=exR_len x;rw[Zu];omega
     have hK2:=(hK.trans (KR.app [.row (encX x)] hlt)).trans hK';have hev:=encX_length x;generalize encX x=ev at hr hr' f1 hev;have hev9:ev.take 9=ev:=List.take_of_length_le (by omega);have hsp:=spX9 hev;have hf:=fit_succ hf0;simp[hlen,g0,h39,h40,h41,hi,hq,hr,hr',hev,hev9,hsp,f1,hf];exact⟨_,hS',hK2,hl',hT⟩
    ·have hil:i=ks.length:=Yc hle (Yb hi);subst hil;rw[Yd,exRs,Yk]at hT;subst hT;simp[hlen,h40,h41];exact⟨hS,hK⟩
   ·rintro o fr' h' rfl ⟨rfl,hS,hK⟩;exact⟨h',by simp[resR],hS,hK⟩
  generalize hT:l++(opR' op nm++exRs ks)=T;have rest:∀(l':List Pr) (fr:List AV) (h1:Hp),l'++exRs ks=T→RS id l' h1→KR id h h1→l'.length+2*cntXs ks≤1000000000→fr.length=49→gt fr 0= .pt id 0→gt fr 3= .pt h.length 0→h1[h.length]?=some (.row [.sc (.int .i64 op),.sc (.int .i64 k),.sc (.int .i64 n'),.sc (.int .i64 d'),.sc (.string s),.ls 5 r5 false,.sc (.string nm),.sc (.bool ds),.ls 9 rows false])→PR id T h (exec2 cx (callN cx M) (cT 2 ((Tryz.f44.body).getD .skip)) (fr,h1)):=by
   intro l' fr h1 hT1 hS1 hK1 hl1 hlen g0 g3 gb;rw[show cT 2 ((Tryz.f44.body).getD .skip)= .seq (cL (cT 2 ((Tryz.f44.body).getD .skip))) (cT 3 ((Tryz.f44.body).getD .skip)) by kernel_rfl];have lp:=fun fr=>loop l' fr h1 h hS1 hK1 hl1
   rw[hT1]at lp;generalize cT 3 ((Tryz.f44.body).getD .skip)=Z at lp⊢;simp[cT,cR,cL,Tryz.f44,hlen,g0,g3,gb,hq];exact lp _ (by simp[hlen]) (by simp[g0]) (by simp[hlen]) (by simp[hlen]) (by simp[hlen])
  clear loop ho;show PR id T h (exec2 cx (callN cx M) ((Tryz.f44.body).getD .skip) _);rw[show((Tryz.f44.body).getD .skip)= .seq (cL (cT 0 ((Tryz.f44.body).getD .skip))) (.seq (cL (cT 1 ((Tryz.f44.body).getD .skip))) (cT 2 ((Tryz.f44.body).getD .skip))) by kernel_rfl];generalize cT 2 ((Tryz.f44.body).getD .skip)=Z at rest⊢;have hlt:=hS.lt;have gb:(h++[Blk.row [.sc (.int .i64 op),.sc (.int .i64 k),.sc (.int .i64 n'),.sc (.int .i64 d'),.sc (.string s),.ls 5 r5 false,.sc (.string nm),.sc (.bool ds),.ls 9 rows false]])[h.length]?=some (.row [.sc (.int .i64 op),.sc (.int .i64 k),.sc (.int .i64 n'),.sc (.int .i64 d'),.sc (.string s),.ls 5 r5 false,.sc (.string nm),.sc (.bool ds),.ls 9 rows false]):=by simp
  have fr0:=hS.free [.row [.sc (.int .i64 op),.sc (.int .i64 k),.sc (.int .i64 n'),.sc (.int .i64 d'),.sc (.string s),.ls 5 r5 false,.sc (.string nm),.sc (.bool ds),.ls 9 rows false]];have hS0:=hS.app [.row [.sc (.int .i64 op),.sc (.int .i64 k),.sc (.int .i64 n'),.sc (.int .i64 d'),.sc (.string s),.ls 5 r5 false,.sc (.string nm),.sc (.bool ds),.ls 9 rows false]];have hK0:KR id h (h++[.row [.sc (.int .i64 op),.sc (.int .i64 k),.sc (.int .i64 n'),.sc (.int .i64 d'),.sc (.string s),.ls 5 r5 false,.sc (.string nm),.sc (.bool ds),.ls 9 rows false]]):=KR.app _ hlt;have hlq:l.length+2+2*cntXs ks≤1000000000:=by omega
  generalize hHH:h++[Blk.row [.sc (.int .i64 op),.sc (.int .i64 k),.sc (.int .i64 n'),.sc (.int .i64 d'),.sc (.string s),.ls 5 r5 false,.sc (.string nm),.sc (.bool ds),.ls 9 rows false]]=H at *;have one:∀kk nn,∃h1,callN cx M true 47 [.pt id 0,.sc (.int .i64 kk),.sc (.string nn)] H=some (.tp [],h1)∧RS id (l++[prd kk nn]) h1∧KR id h h1∧h1[h.length]?=some (.row [.sc (.int .i64 op),.sc (.int .i64 k),.sc (.int .i64 n'),.sc (.int .i64 d'),.sc (.string s),.ls 5 r5 false,.sc (.string nm),.sc (.bool ds),.ls 9 rows false])∧Free id h.length h1:=by
   intro kk nn;obtain⟨h1,f1,hS1,hK1⟩:=fa l kk nn H hS0 (by omega);obtain⟨g1,g2⟩:=hK1 _ _ gb fr0;exact⟨h1,f1,hS1,hK0.trans hK1,g1,g2⟩
  unfold opR' at hT;by_cases o3:op=3
  ·rw[if_pos o3]at hT;subst o3;obtain⟨h1,f1,hS1,hK1,g1,g2⟩:=one 3 nm;obtain⟨h2,f2,hS2,hK2⟩:=fa _ 6 nm h1 hS1 (by simp;omega);obtain⟨g3,g4⟩:=hK2 _ _ g1 g2;have rs:=fun fr=>rest _ fr h2 (by rw[←hT];simp) hS2 (hK1.trans hK2) (by simp;omega)
   simp[cT,cR,cL,Tryz.f44,hHH,gb,g1,f1,f2];exact rs _ (by simp) (by simp) (by simp) g3
  rw[if_neg o3]at hT;by_cases o4:op=4
  ·rw[if_pos o4]at hT;subst o4;obtain⟨h1,f1,hS1,hK1,g1,g2⟩:=one 2 nm;have rs:=fun fr=>rest _ fr h1 (by rw[←hT];simp) hS1 hK1 (by simp;omega)
   simp[cT,cR,cL,Tryz.f44,hHH,gb,f1];exact rs _ (by simp) (by simp) (by simp) g1
  rw[if_neg o4]at hT;have r0:=fun fr hT=>rest l fr H hT hS0 hK0 (by omega)
  by_cases o23:op=23
  ·rw[if_pos o23]at hT;subst o23;have one2:=one 2 emB;have one5:=one 5 emB;have hlq1:∀p:Pr,(l++[p]).length+2*cntXs ks≤1000000000:=fun p=>by simp;omega
   clear one hlq hl;unfold emB at one2 one5;unfold labelsB typeB startB endB emB at hT;by_cases e1:eqS nm ⟨#[108,97,98,101,108,115]⟩=true
   ·rw[if_pos e1]at hT;obtain⟨h1,f1,hS1,hK1,g1,g2⟩:=one2;have rs:=fun fr=>rest _ fr h1 (by rw[←hT];simp) hS1 hK1 (hlq1 _)
    simp[cT,cR,cL,Tryz.f44,hHH,gb,e1,f1];exact rs _ (by simp) (by simp) (by simp) g1
   rw[if_neg e1]at hT;obtain⟨h1,f1,hS1,hK1,g1,g2⟩:=one5;have rs:=fun fr hT=>rest _ fr h1 hT hS1 hK1 (hlq1 _)
   by_cases e2:eqS nm ⟨#[116,121,112,101]⟩=true
   ·rw[if_pos e2]at hT;simp[cT,cR,cL,Tryz.f44,hHH,gb,e1,e2,f1];exact rs _ (by rw[←hT];simp) (by simp) (by simp) (by simp) g1
   rw[if_neg e2]at hT;by_cases e3:eqS nm ⟨#[115,116,97,114,116]⟩=true
   ·rw[if_pos e3]at hT;simp[cT,cR,cL,Tryz.f44,hHH,gb,e1,e2,e3,f1];exact rs _ (by rw[←hT];simp) (by simp) (by simp) (by simp) g1
   rw[if_neg e3]at hT;by_cases e4:eqS nm ⟨#[101,110,100]⟩=true
   ·rw[if_pos e4]at hT;simp[cT,cR,cL,Tryz.f44,hHH,gb,e1,e2,e3,e4,f1];exact rs _ (by rw[←hT];simp) (by simp) (by simp) (by simp) g1
   rw[if_neg e4]at hT;simp[cT,cR,cL,Tryz.f44,hHH,gb,e1,e2,e3,e4];exact r0 _ (by rw[←hT];simp) (by simp) (by simp) (by simp) gb
  ·rw[if_neg o23]at hT;simp[cT,cR,cL,Tryz.f44,hHH,gb,o3,o4,o23];exact r0 _ (by rw[←hT];simp) (by simp) (by simp) (by simp) gb
end
end Go.Proofs.YtmocfjnklfpnbaaGreatDoor
