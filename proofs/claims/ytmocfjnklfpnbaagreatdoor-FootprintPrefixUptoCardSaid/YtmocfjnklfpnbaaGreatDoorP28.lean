/- Queries, checked: the program's syntax.Check. -/
import Derived.Test.YtmocfjnklfpnbaaGreatDoorP27
set_option linter.all false
set_option maxRecDepth 100000
namespace Go.Proofs.YtmocfjnklfpnbaaGreatDoor
open Go Go.Ae
section
attribute [local simp] aop aopW coldF extF putA ofConst flat scalarOp fastOp binFast intOp strOp guardX Ae.part rowOf szOk natOf lenA cls fillA newsOf isNilC cellX
set_option maxHeartbeats 32000000
def cpR (l:List Cp):List (List AV):=l.map encCp
theorem cpR_length (l:List Cp):(cpR l).length=l.length:=by simp[cpR]
theorem cpR_get (l:List Cp)(i:Nat):(cpR l)[i]?=(l[i]?).map encCp:=by simp[cpR]
def encQ (l:List Cp):List AV:=[.ls 21 (cpR l) false]
def lastB (m i:Nat)(kd:Int):Bool:=(!decide (i+1=m) && decide (kd=4))||(decide (i+1=m) && decide (kd≤3))
def qLoop (m:Nat):List Cp→Nat→Int × Int
 | [],_=>(0,0)
 |c::l,i=>if clauseE c=0 then(if lastB m i c.kind=true then((i:Int),26)else qLoop m l (i+1))else((i:Int),clauseE c)
def queryE (l:List Cp):Int × Int:=if l.length=0 then(0,4)else if 12<l.length then(0,4)else qLoop l.length l 0
theorem qLoop_step {m i:Nat}{l:List Cp}{c:Cp}(h:l[i]?=some c):qLoop m (l.drop i) i=if clauseE c=0 then(if lastB m i c.kind=true then((i:Int),26)else qLoop m (l.drop (i+1)) (i+1))else((i:Int),clauseE c):=by
 obtain⟨k,e⟩:=Za.1 h;rw[Zm k,e,qLoop]
theorem spX21 {ev z:List AV}(h:ev.length=21)(hz:z.length=21):splice z 0 ev=ev:=by
 unfold splice;rw[List.take_zero,Zw,Nat.zero_add,h,Zt (by omega),Yk]
theorem spY21 {ev:List AV}(h:ev.length=21)(a0 a1 a2 a3 a4 a5 a6 a7 a8 a9 a10 a11 a12 a13 a14 a15 a16 a17 a18 a19 a20:AV):splice [a0,a1,a2,a3,a4,a5,a6,a7,a8,a9,a10,a11,a12,a13,a14,a15,a16,a17,a18,a19,a20] 0 ev=ev:=spX21 h rfl
theorem encCp_tail (c:Cp):∃tl,encCp c= .sc (.int .i64 c.kind)::tl∧tl.length=20:=⟨_,rfl,by simp[encX_length]⟩
theorem sy_Check (D d n:Nat)(b:Bool)(l:List Cp)(h:Hp)(hb:∀c∈l,BdC D d c)(hn:2*D+3*d+40≤n):callN cx n b 40 [.ag (encQ l)] h=some (.tp [.sc (.int .i64 (queryE l).1),.sc (.int .i64 (queryE l).2)],h):=by
 obtain⟨M,rfl⟩:∃M,n=M+1:=⟨n-1,by omega⟩;refine pure_tup (n:=M) (xs:=[.sc (.int .i64 (queryE l).1),.sc (.int .i64 (queryE l).2)]) ⟨Tryz.f40.ntmps,(Tryz.f40.body).getD .skip,[.tmp 2,.tmp 3]⟩ (by kernel_rfl) (by kernel_rfl) rfl (by kernel_rfl) (by simp[Tryz.f40]) rfl rfl ?_ b h;have f1:∀c∈l,∀b h,callN cx M b 76 [.ag (encCp c)] h=some (.sc (.int .i64 (clauseE c)),h):=fun c hc b h=>sy_CheckClause D d M b c h (hb c hc) (by omega)
 clear hb hn;unfold queryE encQ;have hq:=cpR_length l;have hg:=cpR_get l;generalize cpR l=rows at hq hg;by_cases c0:l.length=0
 ·rw[if_pos c0];simp[Tryz.f40,hq,c0]
 rw[if_neg c0];by_cases c12:12<l.length
 ·rw[if_pos c12];have c12':(12:Int)< (l.length:Int):=by omega
  simp[Tryz.f40,hq,c0,c12']
 rw[if_neg c12];have c12':¬(12:Int)< (l.length:Int):=by omega
 generalize hT:qLoop l.length l 0=T;have hl1:fitI .i64 ((l.length:Int)-1)=((l.length-1:Nat):Int):=by
  rw[fit_i64 (by omega) (by omega)];omega
 simp[Tryz.f40,hq,c0,c12'];generalize hXX:exec2 cx (callN cx M) (.loop _) _=XX;refine loopE hXX
  (fun i s=>s.1.length=55∧gt s.1 1= .pt 0 0∧s.2[0]?=some (.row [.ls 21 rows false])∧gt s.1 19= .ls 21 rows false∧gt s.1 20= .sc (.int .i64 (l.length:Nat))∧gt s.1 21= .sc (.int .i64 (i:Nat))∧qLoop l.length (l.drop i) i=T)
  (fun o s=>s.1.length=55∧((o= .exit 0∧T=(0,0))∨(o= .ret∧gt s.1 2= .sc (.int .i64 T.1)∧gt s.1 3= .sc (.int .i64 T.2))))
  l.length (by simp;omega) ⟨rfl,rfl,rfl,rfl,rfl,rfl,hT⟩ ?_ ?_
 ·clear hXX XX hT;rintro i fr hp hle ⟨hlen,h1,hh,h19,h20,h21,hT⟩;simp only at hlen h1 hh h19 h20 h21 hT;by_cases hi:i<l.length
  ·obtain⟨x,hx,hr,hr'⟩:=row_get hg hi;have hmem:=Zi hx;have hf:fitI .i64 ((i:Int)+1)=((i+1:Nat):Int):=fit_i64 (by omega) (by omega);have fc:=f1 x hmem;rw[qLoop_step hx]at hT;obtain⟨tl,he,htl⟩:=encCp_tail x;rw[he]at hr fc;simp only[he]at hr';have hev:(AV.sc (.int .i64 x.kind)::tl).length=21:=by simp[htl]
   have hevt:(AV.sc (.int .i64 x.kind)::tl).take 21=AV.sc (.int .i64 x.kind)::tl:=List.take_of_length_le (by omega);have hsx:=spY21 hev;have ht20:tl.take 20=tl:=List.take_of_length_le (by omega);have hhg:=get_app [.row (AV.sc (.int .i64 x.kind)::tl)] hh;have hhg':∀k,(hp++[Blk.row (AV.sc (.int .i64 x.kind)::tl)])[0]'k= .row [.ls 21 rows false]:=fun kx=>by obtain⟨_,e⟩:=Za.1 hhg;exact e
   have c3i:((i:Int)=((l.length-1:Nat):Int))↔i+1=l.length:=by omega
   unfold lastB at hT;generalize clauseE x=c at fc hT;generalize x.kind=kd at *;by_cases hc:c=0
   ·subst hc;rw[if_pos rfl]at hT;by_cases c3:i+1=l.length
    ·have c3':=(c3i.2 c3).symm;generalize((l.length-1:Nat):Int)=q at hl1 c3';rw[decide_eq_true c3]at hT;clear c3i;by_cases c4:kd≤3
     ·rw[decide_eq_true c4]at hT;subst hT;simp[hlen,h1,hh,h19,h20,h21,hi,hq,hr,hr',fc,hsx,hev,hevt,hhg,hhg',htl,ht20,hl1,c3',c4]
     ·rw[decide_eq_false c4]at hT;simp[hlen,h1,hh,h19,h20,h21,hi,hq,hr,hr',fc,hsx,hev,hevt,hhg,hhg',htl,ht20,hl1,c3',c4,hf];exact hT
    ·have c3':¬_:=fun e=>c3 (c3i.1 e)
     generalize((l.length-1:Nat):Int)=q at hl1 c3';rw[decide_eq_false c3]at hT;clear c3i;by_cases c4:kd=4
     ·rw[decide_eq_true c4]at hT;subst c4;subst hT;simp[hlen,h1,hh,h19,h20,h21,hi,hq,hr,hr',fc,hsx,hev,hevt,hhg,hhg',htl,hl1,c3',ht20]
     ·rw[decide_eq_false c4]at hT;simp[hlen,h1,hh,h19,h20,h21,hi,hq,hr,hr',fc,hsx,hev,hevt,hhg,hhg',htl,ht20,hl1,c3',c4,hf,ht20];exact hT
   ·rw[if_neg hc]at hT;subst hT;simp[hlen,h1,hh,h19,h20,h21,hi,hq,hr,hr',fc,hsx,hev,hevt,hhg,hhg',htl,ht20,hc]
  ·have hil:i=l.length:=Yc hle (Yb hi);subst hil;rw[Yd,qLoop]at hT;subst hT;simp[hlen,h20,h21]
 ·rintro o fr' h' rfl ⟨hlen,⟨rfl,rfl⟩|⟨rfl,h2,h3⟩⟩
  ·simp only at hlen;simp[hlen]
  ·simp only at h2 h3;simp[h2,h3]
def addK (K:List ByteArray)(s:ByteArray):List ByteArray:=if(K.any fun a=>s==a)=true then K else K++[s]
mutual
def varK :Ep→List ByteArray→List ByteArray
 | .mk op _ nm _ ks,K=>varL ks (if op=2 then addK K nm else K)
def varL :List Ep→List ByteArray→List ByteArray
 | [],K=>K
 |x::xs,K=>varL xs (varK x K)
end
theorem varL_step {l:List Ep}{i:Nat}{x:Ep}(K:List ByteArray)(h:l[i]?=some x):varL (l.drop i) K=varL (l.drop (i+1)) (varK x K):=by
 obtain⟨k,e⟩:=Za.1 h;rw[Zm k,e,varL]
def enK (K:List ByteArray):List (Value × AV):=K.map fun s=>(.string s,.sc (.bool true))
theorem enK_all (K:List ByteArray):(enK K).all strKey=true:=by unfold enK;simp[strKey]
theorem enK_ix (s:ByteArray):∀(K:List ByteArray) (i:Nat),((K.any fun a=>s==a)=false∧keyIx s (enK K) i=none)∨((K.any fun a=>s==a)=true∧∃j,keyIx s (enK K) i=some (i+j)∧K[j]?=some s)
 | [],i=> .inl ⟨rfl,rfl⟩
 |
  a::K,i=>by
  simp only[List.any_cons,enK,List.map_cons,keyIx,keyB];cases hs:s==a
  ·rcases enK_ix s K (i+1)with⟨h1,h2⟩|⟨h1,j,h2,h3⟩
   ·exact .inl ⟨by simp[h1],h2⟩
   ·exact .inr ⟨by simp[h1],j+1,by rw[cond_false];exact h2.trans (by rw[Nat.add_right_comm];rfl),h3⟩
  ·have:=(Go.MapKept.bytes_beq _ _).1 hs;subst this;exact .inr ⟨rfl,0,rfl,rfl⟩
theorem enK_set {s:ByteArray}{K:List ByteArray}{j:Nat}(h:K[j]?=some s):(enK K).set j (.string s,.sc (.bool true))=enK K:=by
 apply List.ext_getElem?;intro i;rw[List.getElem?_set];split
 ·rename_i e;subst e;have hl:=(Za.1 h).1;rw[if_pos (by simpa[enK]using hl)];simp[enK,h]
 ·rfl
def US (es:List (Value × AV))(h:Hp):Prop:=∃clk,h[1]?=some (.map es clk)∧h[2]?=some (.row [.mp 1])∧h[3]?=some (.row [.fn 223 [.pt 2 0,.pt 3 0]])
theorem bd_use (D:Nat):∀(d:Nat) (e:Ep),depX e≤d→bdX D e→∀(n:Nat) (t:Bool) (h:Hp) (K:List ByteArray),US (enK K) h→
 ∃h',callN cx (n+d) t 223 [.ag (encX e),.pt 2 0,.pt 3 0] h=some (.tp [],h')∧US (enK (varK e K)) h':=by
 intro d
 induction d with
 |zero=>intro e h;have:=depX_pos e;omega
 |
  succ d ih=>
  rintro e de be n t h K ⟨clk,g1,g2,g3⟩;rw[show n+(d+1)=n+d+1 by omega];rw[call_inl (n:=n+d) ⟨Tryz.f223.ntmps,(Tryz.f223.body).getD .skip,[]⟩ rfl (by kernel_rfl) (by kernel_rfl) (by kernel_rfl) (by kernel_rfl) (by simp[Tryz.f223])];have ho:=fun x hx=>ih x (kid_dep de hx) (kid_bd be hx) n
  obtain⟨op,v,nm,ds,ks⟩:=e;simp only[Ep.ks]at ho;obtain⟨k,n',d',s,l,rfl,hs,hll⟩:=gdX be;rw[encX_gd rfl,varK];have hq:=encXs_length ks;have hg:=encXs_get ks;generalize encXs ks=rows at hq hg⊢;generalize encL l=r5;generalize n+d=M at ho⊢;have loop:∀(K:List ByteArray) (fr:List AV) (h:Hp),fr.length=23→gt fr 1= .pt 2 0→gt fr 2= .pt 3 0→gt fr 13= .ls 9 rows false→gt fr 14= .sc (.int .i64 (ks.length:Nat))→gt fr 15= .sc (.int .i64 (0:Nat))→US (enK K) h→
   ∃h',finX [] (exec2 cx (callN cx M) (cT 3 ((Tryz.f223.body).getD .skip)) (fr,h))=some (.tp [],h')∧US (enK (varL ks K)) h':=by
   intro K fr h hlen h1 h2 h13 h14 h15 hU;simp[cT,cR,Tryz.f223];generalize hXX:exec2 cx (callN cx M) (.loop _) _=XX;generalize hT:varL ks K=T;refine loopE hXX
    (fun i s=>s.1.length=23∧gt s.1 1= .pt 2 0∧gt s.1 2= .pt 3 0∧gt s.1 13= .ls 9 rows false∧gt s.1 14= .sc (.int .i64 (ks.length:Nat))∧gt s.1 15= .sc (.int .i64 (i:Nat))∧∃K,US (enK K) s.2∧varL (ks.drop i) K=T)
    (fun o s=>o= .exit 0∧US (enK T) s.2)
    ks.length (by simp;omega) ⟨hlen,h1,h2,h13,h14,h15,K,hU,hT⟩ ?_ ?_
   ·clear hXX XX hT hU hlen h1 h2 h13 h14 h15 K;rintro i fr hp hle ⟨hlen,h1,h2,h13,h14,h15,K,⟨clk,g1,g2,g3⟩,hT⟩;simp only at hlen h1 h2 h13 h14 h15 g1 g2 g3;by_cases hi:i<ks.length
    ·obtain⟨x,hx,hr,hr'⟩:=row_get hg hi;have hmem:=Zi hx;have hf:=fit_succ (Yj hle hll);rw[varL_step K hx]at hT;have hev:=encX_length x;obtain⟨h',fu,eU⟩:=ho x hmem true (hp++[.row (encX x)]) K ⟨clk,get_app _ g1,get_app _ g2,get_app _ g3⟩;have k3:=get_app [.row (encX x)] g3;generalize encX x=ev at hr hr' fu hev k3;have hev9:ev.take 9=ev:=List.take_of_length_le (by omega);have hsp:=spX9 hev;simp[hlen,h1,h2,h13,h14,h15,hi,hq,hr,hr',hev,hev9,hsp,k3,fu,hf];exact⟨_,eU,hT⟩
    ·have hil:i=ks.length:=Yc hle (Yb hi);subst hil;rw[Yd,varL]at hT;subst hT;simp[hlen,h14,h15];exact⟨clk,g1,g2,g3⟩
   ·rintro o fr' h' rfl ⟨rfl,eU⟩;simp[resR];exact eU
  show∃h',finX [] (exec2 cx (callN cx M) ((Tryz.f223.body).getD .skip) _)=_∧_;rw[show(Tryz.f223.body).getD .skip= .seq (cL (cT 0 ((Tryz.f223.body).getD .skip))) (.seq (cL (cT 1 ((Tryz.f223.body).getD .skip))) (.seq (cL (cT 2 ((Tryz.f223.body).getD .skip))) (cT 3 ((Tryz.f223.body).getD .skip)))) by kernel_rfl];generalize cT 3 ((Tryz.f223.body).getD .skip)=Z at loop⊢;generalize hB:([.sc (.int .i64 op),.sc (.int .i64 k),.sc (.int .i64 n'),.sc (.int .i64 d'),.sc (.string s),.ls 5 r5 false,.sc (.string nm),.sc (.bool ds),.ls 9 rows false]:List AV)=ev;have k1:=get_app [.row ev] g1;have k2:=get_app [.row ev] g2;have k3:=get_app [.row ev] g3;have k2':∀k,(h++[Blk.row ev])[2]'k= .row [.mp 1]:=fun kx=>by obtain⟨_,e⟩:=Za.1 k2;exact e
  by_cases hop:op=2
  ·rw[if_pos hop];subst hop;have hal:=enK_all K;have hl1:1< (h++[Blk.row ev]).length:=(Za.1 k1).1;have hl3:3<h.length:=(Za.1 g3).1;rcases enK_ix nm K 0 with⟨hk,hix⟩|⟨hk,j,hix,hj⟩
   ·rw[show addK K nm=K++[nm] by unfold addK;rw[hk];rfl];have hen:enK (K++[nm])=enK K++[(.string nm,.sc (.bool true))]:=by simp[enK]
    have hw:=loop (K++[nm]);rw[hen]at hw;generalize enK K=es at *;have m1:=get_set_self (b:=Blk.map (es++[(.string nm,.sc (.bool true))]) (clk+1)) k1;have m2:=get_set_ne (id:=1) (b:=Blk.map (es++[(.string nm,.sc (.bool true))]) (clk+1)) k2 (by omega);have m3:=get_set_ne (id:=1) (b:=Blk.map (es++[(.string nm,.sc (.bool true))]) (clk+1)) k3 (by omega);have mb:((h++[Blk.row ev]).set 1 (.map (es++[(.string nm,.sc (.bool true))]) (clk+1)))[h.length]?=some (.row ev):=get_set_ne (by simp) (by omega);generalize hH:(h++[Blk.row ev]).set 1 (.map (es++[(.string nm,.sc (.bool true))]) (clk+1))=H at *;subst hB;simp[cL,cT,cR,Tryz.f223,k1,k2,k2',hal,hix,hH,mb];exact hw _ _ (by simp) (by simp) (by simp) (by simp) (by simp[hq]) (by simp) ⟨_,m1,m2,m3⟩
   ·rw[show addK K nm=K by unfold addK;rw[hk];rfl];have hset:=enK_set hj;have hw:=loop K;generalize enK K=es at *;rw[Nat.zero_add]at hix;have hsame:=set_same k1;have mb:(h++[Blk.row ev])[h.length]?=some (.row ev):=by simp
    subst hB;simp[cL,cT,cR,Tryz.f223,k1,k2,k2',hal,hix,hset,hsame];exact hw _ _ (by simp) (by simp) (by simp) (by simp) (by simp[hq]) (by simp) ⟨_,k1,k2,k3⟩
  ·rw[if_neg hop];subst hB;simp[cL,cT,cR,Tryz.f223,hop];exact loop K _ _ (by simp) (by simp) (by simp) (by simp) (by simp[hq]) (by simp) ⟨_,k1,k2,k3⟩
end
section
attribute [local simp] aop aopW coldF extF putA ofConst flat scalarOp fastOp binFast intOp strOp guardX Ae.part rowOf szOk natOf lenA cls fillA newsOf isNilC cellX splice
set_option maxHeartbeats 32000000
def usesX (e:Ep):List ByteArray:=sortS (varK e [])
mutual
def cntX :Ep→Nat
 | .mk _ _ _ _ l=>cntXs l+1
def cntXs :List Ep→Nat
 | []=>0
 |x::xs=>cntX x+cntXs xs
end
theorem addK_len (K:List ByteArray)(s:ByteArray):(addK K s).length≤K.length+1:=by
 unfold addK;split<;>simp
mutual
theorem varK_len :∀(e:Ep) (K:List ByteArray),(varK e K).length≤K.length+cntX e
 |
  .mk op v nm ds ks,K=>by
  rw[varK,cntX];have h1:=varL_len ks (if op=2 then addK K nm else K);have h2:=addK_len K nm;split at h1<;>split<;>first|omega|simp_all
theorem varL_len :∀(l:List Ep) (K:List ByteArray),(varL l K).length≤K.length+cntXs l
 | [],K=>by rw[varL,cntXs];omega
 |
  x::xs,K=>by
  rw[varL,cntXs];have h1:=varK_len x K;have h2:=varL_len xs (varK x K);omega
end
theorem nodup_snoc {s:ByteArray}:∀{K:List ByteArray},nodupS K=true→(K.any fun a=>s==a)=false→nodupS (K++[s])=true
 | [],_,_=>rfl
 |
  x::K,h1,h2=>by
  rw[nodupS,Zh,Bool.not_eq_true']at h1;rw[List.any_cons,Bool.or_eq_false_iff]at h2;rw[Zv,nodupS,nodup_snoc h1.2 h2.2,List.any_append,h1.1,List.any_cons,List.any_nil];have:(x==s)=false:=by
   rw[Bool.eq_false_iff];intro e;have:=(Go.MapKept.bytes_beq _ _).1 e;subst this;have h3:=h2.1;rw[(Go.MapKept.bytes_beq _ _).2 rfl]at h3;cases h3
  rw[this];rfl
theorem addK_nodup {K:List ByteArray}(s:ByteArray)(h:nodupS K=true):nodupS (addK K s)=true:=by
 unfold addK;cases hk:(K.any fun a=>s==a)
 ·rw[if_neg (by simp)];exact nodup_snoc h hk
 ·rw[if_pos rfl];exact h
mutual
theorem varK_nodup :∀(e:Ep) (K:List ByteArray),nodupS K=true→nodupS (varK e K)=true
 |
  .mk op v nm ds ks,K,h=>by
  rw[varK];apply varL_nodup;split
  ·exact addK_nodup nm h
  ·exact h
theorem varL_nodup :∀(l:List Ep) (K:List ByteArray),nodupS K=true→nodupS (varL l K)=true
 | [],K,h=>by rw[varL];exact h
 |x::xs,K,h=>by rw[varL];exact varL_nodup xs _ (varK_nodup x K h)
end
mutual
theorem varK_small {D:Nat}:∀(e:Ep) (K:List ByteArray),bdX D e→(∀s∈K,s.size≤1000000000000000)→∀s∈varK e K,s.size≤1000000000000000
 |
  .mk op v nm ds ks,K,hb,h=>by
  rw[bdX]at hb;rw[varK];refine varL_small ks _ hb.2.2.2 fun s hs=>?_
  split at hs
  ·unfold addK at hs;split at hs
   ·exact h s hs
   ·rcases Ya.1 hs with hs|hs
    ·exact h s hs
    ·have:=List.mem_singleton.1 hs;subst this;exact hb.2.1
  ·exact h s hs
theorem varL_small {D:Nat}:∀(l:List Ep) (K:List ByteArray),bdXs D l→(∀s∈K,s.size≤1000000000000000)→∀s∈varL l K,s.size≤1000000000000000
 | [],K,_,h=>by rw[varL];exact h
 |
  x::xs,K,hb,h=>by
  rw[bdXs]at hb;rw[varL];exact varL_small xs _ hb.2 (varK_small x K hb.1 h)
end
theorem keysA_en :∀K:List ByteArray,keysA (enK K)=some K
 | []=>rfl
 |
  s::K=>by
  have:=keysA_en K;unfold keysA at this⊢;rw[show enK (s::K)=(.string s,.sc (.bool true))::enK K from rfl,Zo,this];rfl
theorem call_sorted (n:Nat)(b:Bool)(args:List AV)(h:Hp):callN cx (n+1) b 224 args h=sortedA h 281 args:=by
 have e1:cx.srt 224=some (281,9):=rfl;have e2:cx.inl 224=true:=by kernel_rfl
 simp only[callN,e1,e2,if_true]
theorem m_Keys (n:Nat)(b:Bool)(id:Nat)(h:Hp):callN cx (n+1) b 225 [.mp id] h=some (.fn 281 [.pt h.length 0],h++[.row [.mp id]]):=by
 rw[call_inl (n:=n) ⟨Tryz.f225.ntmps,(Tryz.f225.body).getD .skip,[.tmp 2]⟩ rfl (by kernel_rfl) (by kernel_rfl) (by kernel_rfl) (by kernel_rfl) (by simp[Tryz.f225])];simp[Tryz.f225]
theorem flat_ts :∀l:List ByteArray,(tsR l).flatten=l.map fun s=> .sc (.string s)
 | []=>rfl
 |
  s::l=>by
  rw[show tsR (s::l)=[.sc (.string s)]::tsR l from rfl,List.flatten_cons,flat_ts l];rfl
theorem sorted_en (h:Hp)(V:List ByteArray)(clk b:Nat)(hb:h[b]?=some (.row [.mp 1]))(hm:h[1]?=some (.map (enK V) clk))(h1:nodupS V=true)(h2:∀s∈V,s.size≤1000000000000000)(h3:V.length≤1000000):
 ∃y k,sortedA h 281 [.fn 281 [.pt b 0]]=some (y,h++k)∧Bld (h++k) 1 (tsR (sortS V)) y:=by
 have hk:=keysA_en V;have ha:(V.all fun s=>decide (s.size≤maxLen))=true:=by
  rw[List.all_eq_true];intro s hs;have:=h2 s hs;rw[Zz];have:maxLen=9223372036854775807:=rfl;omega
 cases V with
 |
  nil=>
  refine⟨.sc (.slice none 0 0),[],?_,.inl ⟨rfl,rfl⟩⟩;simp only[sortedA,hb,hm,hk,if_true,Yk]
 |
  cons s V=>
  refine⟨.sl h.length 1 0 (s::V).length false,[.row ((sortS (s::V)).map fun s=> .sc (.string s))],?_,.inr ⟨?_,h.length,?_,?_⟩⟩
  ·simp only[sortedA,hb,hm,hk,if_true,h1,ha,Bool.and_true,Bool.not_true,Bool.false_or,Zz];rw[if_neg (by omega)]
  ·intro e;have:=congrArg List.length e;rw[tsR_length,sortS_length]at this;simp at this
  ·rw[tsR_length,sortS_length]
  ·rw[flat_ts,Zf (by omega)];simp
theorem bd_Uses (D d n:Nat)(b:Bool)(e:Ep)(h:Hp)(he:okX D d e)(hc:cntX e≤1000000):callN cx (n+d+2) b 144 [.ag (encX e)] h=some (.ls 1 (tsR (usesX e)) false,h):=by
 have hcalm:[AV.ag (encX e)].all calm=true:=by rw[Zn,calm_encX];rfl
 refine kx_call (f:=144) (n:=n+d+1) (args:=[.ag (encX e)]) (.ls 1 (tsR (usesX e)) false) ⟨Tryz.f144.ntmps,(Tryz.f144.body).getD .skip,[.tmp 2]⟩ (by kernel_rfl) (by kernel_rfl) rfl (by kernel_rfl) (by simp[Tryz.f144]) hcalm ?_ (by decide) b h;have hkx:kx 144=1:=by decide
 rw[hkx];have hev:=encX_length e;have f2:=fun b (id:Nat) h=>m_Keys (n+d) b id h
 have f3:=fun b args h=>call_sorted (n+d) b args h
 obtain⟨h',f1,clk,e1,e2,e3⟩:=bd_use D d e he.1 he.2 (n+1) true [.row (encX e),.map [] 0,.row [.mp 1],.row [.fn 223 [.pt 2 0,.pt 3 0]]] [] ⟨0,rfl,rfl,rfl⟩;have hlen:=varK_len e [];obtain⟨y,k,f4,hB⟩:=sorted_en (h'++[.row [.mp 1]]) (varK e []) clk h'.length (by simp) (get_app _ e1) (varK_nodup e [] rfl) (varK_small e [] he.2 (by simp)) (by simp at hlen;omega);have hsn:=bld_snap (n:=7) (by omega) (tsR_all _).1 (tsR_all _).2 hB;have q3:=fun(ops:Array Oper) (dd:Tmp) (rest:List Oper) (fr:List AV) (h:Hp)=>opP_np (C:=cx) (cal:=callN cx (n+d+1) true) (ops:=ops) (fun v=>hB.np v) dd rest fr h
 rw[show n+1+d=n+d+1 by omega]at f1;unfold usesX;generalize n+d+1=M at f1 f2 f3 q3⊢;generalize encX e=ev at f1 hev⊢;have hev9:ev.take 9=ev:=List.take_of_length_le (by omega);simp[Tryz.f144,hev,hev9,f1,e2,f2,f3,f4,q3];rw[Zp]at hsn;exact⟨_,_,⟨rfl,rfl⟩,_,hsn,nfS_bld _ _⟩
end
section
attribute [local simp] aop aopW coldF extF putA ofConst flat scalarOp fastOp binFast intOp strOp guardX Ae.part rowOf szOk natOf lenA cls fillA newsOf isNilC cellX
set_option maxHeartbeats 32000000
abbrev Sco :=List (ByteArray × Int)
def coV (x:ByteArray × Int):List AV:=[.sc (.string x.1),.sc (.int .i64 x.2)]
def coR (l:Sco):List (List AV):=l.map coV
theorem coR_length (l:Sco):(coR l).length=l.length:=by simp[coR]
theorem coR_get (l:Sco)(i:Nat):(coR l)[i]?=(l[i]?).map coV:=by simp[coR]
theorem coR_all (l:Sco):(∀r∈coR l,r.length=2)∧(coR l).flatten.all calm1=true:=
 ⟨fun r hr=>by obtain⟨c,_,rfl⟩:=Yh.1 hr;rfl,calm1_rows fun r hr=>by obtain⟨c,_,rfl⟩:=Yh.1 hr;rfl⟩
def kndS :Sco→ByteArray→Int
 | [],_=>0
 |c::l,s=>if eqS c.1 s=true then c.2 else kndS l s
theorem kndS_step {l:Sco}{i:Nat}{c:ByteArray × Int}(s:ByteArray)(h:l[i]?=some c):kndS (l.drop i) s=if eqS c.1 s=true then c.2 else kndS (l.drop (i+1)) s:=by
 obtain⟨k,e⟩:=Za.1 h;rw[Zm k,e,kndS]
theorem spl2 (a b x y:AV):splice [a,b] 0 [x,y]=[x,y]:=rfl
theorem bd_kind (n:Nat)(b:Bool)(l:Sco)(s:ByteArray)(h:Hp)(hl:l.length≤1000000000):callN cx (n+1) b 80 [bldV 2 (coR l),.sc (.string s)] h=some (.sc (.int .i64 (kndS l s)),h):=by
 refine pure_calm (n:=n) (r:= .sc (.int .i64 (kndS l s))) ⟨Tryz.f80.ntmps,(Tryz.f80.body).getD .skip,[.tmp 4]⟩ (by kernel_rfl) (by kernel_rfl) rfl (by kernel_rfl) (by simp[Tryz.f80]) (by rw[Zn,calm_bldV];rfl) rfl ?_ b h;cases l with
 |
  nil=>
  rw[show bldV 2 (coR [])= .sc (.slice none 0 0)from rfl];simp[Tryz.f80];generalize hXX:exec2 cx (callN cx n) (.loop _) _=XX;refine loopE hXX (fun i s=>s.1.length=20∧gt s.1 8= .sc (.int .i64 0)∧gt s.1 9= .sc (.int .i64 0)) (fun o s=>o= .exit 0∧s.1.length=20) 0 (by simp) ⟨rfl,rfl,rfl⟩ ?_ ?_
  ·rintro i fr hp hle ⟨hlen,h8,h9⟩;simp only at hlen h8 h9;simp[hlen,h8,h9]
  ·rintro o fr' h' rfl ⟨rfl,hlen⟩;simp only at hlen;simp[hlen,kndS]
 |
  cons c0 l0=>
  rw[show bldV 2 (coR (c0::l0))= .ls 2 (coR (c0::l0)) false from rfl];generalize c0::l0=l at hl⊢;have hq:=coR_length l;have hg:=coR_get l;generalize coR l=rows at hq hg⊢;generalize hT:kndS l s=T;simp[Tryz.f80,hq];generalize hXX:exec2 cx (callN cx n) (.loop _) _=XX;refine loopE hXX (fun i st=>st.1.length=20∧gt st.1 1= .sc (.string s)∧gt st.1 7= .ls 2 rows false∧gt st.1 8= .sc (.int .i64 (l.length:Nat))∧gt st.1 9= .sc (.int .i64 (i:Nat))∧kndS (l.drop i) s=T)
   (fun o st=>st.1.length=20∧((o= .exit 0∧T=0)∨(o= .ret∧gt st.1 4= .sc (.int .i64 T)))) l.length (by simp;omega) ⟨rfl,rfl,rfl,rfl,rfl,hT⟩ ?_ ?_
  ·clear hXX XX hT;rintro i fr hp hle ⟨hlen,h1,h7,h8,h9,hT⟩;simp only at hlen h1 h7 h8 h9 hT;by_cases hi:i<l.length
   ·obtain⟨x,hx,hr,hr'⟩:=row_get hg hi;have hf:=fit_succ (show i≤1000000000000000 by omega);rw[kndS_step s hx]at hT;unfold coV at hr hr';cases he:eqS x.1 s
    ·rw[he,if_neg (by simp)]at hT;simp[hlen,h1,h7,h8,h9,hi,hq,hr,hr',spl2,he,hf];exact hT
    ·rw[he,if_pos rfl]at hT;subst hT;simp[hlen,h1,h7,h8,h9,hi,hq,hr,hr',spl2,he]
   ·have hil:i=l.length:=Yc hle (Yb hi);subst hil;rw[Yd,kndS]at hT;subst hT;simp[hlen,h8,h9]
  ·rintro o fr' h' rfl ⟨hlen,⟨rfl,rfl⟩|⟨rfl,h4⟩⟩
   ·simp only at hlen;simp[hlen]
   ·simp only at h4;simp[h4]
theorem fp_of (n:Nat)(b:Bool)(l:Sco)(s:ByteArray)(h:Hp)(hl:l.length≤1000000000):callN cx (n+1) b 46 [bldV 2 (coR l),.sc (.string s)] h=some (.sc (.int .i64 (kndS l s)),h):=by
 refine pure_calm (n:=n) (r:= .sc (.int .i64 (kndS l s))) ⟨Tryz.f46.ntmps,(Tryz.f46.body).getD .skip,[.tmp 4]⟩ (by kernel_rfl) (by kernel_rfl) rfl (by kernel_rfl) (by simp[Tryz.f46]) (by rw[Zn,calm_bldV];rfl) rfl ?_ b h;cases l with
 |
  nil=>
  rw[show bldV 2 (coR [])= .sc (.slice none 0 0)from rfl];simp[Tryz.f46];generalize hXX:exec2 cx (callN cx n) (.loop _) _=XX;refine loopE hXX (fun i s=>s.1.length=20∧gt s.1 8= .sc (.int .i64 0)∧gt s.1 9= .sc (.int .i64 0)) (fun o s=>o= .exit 0∧s.1.length=20) 0 (by simp) ⟨rfl,rfl,rfl⟩ ?_ ?_
  ·rintro i fr hp hle ⟨hlen,h8,h9⟩;simp only at hlen h8 h9;simp[hlen,h8,h9]
  ·rintro o fr' h' rfl ⟨rfl,hlen⟩;simp only at hlen;simp[hlen,kndS]
 |
  cons c0 l0=>
  rw[show bldV 2 (coR (c0::l0))= .ls 2 (coR (c0::l0)) false from rfl];generalize c0::l0=l at hl⊢;have hq:=coR_length l;have hg:=coR_get l;generalize coR l=rows at hq hg⊢;generalize hT:kndS l s=T;simp[Tryz.f46,hq];generalize hXX:exec2 cx (callN cx n) (.loop _) _=XX;refine loopE hXX (fun i st=>st.1.length=20∧gt st.1 1= .sc (.string s)∧gt st.1 7= .ls 2 rows false∧gt st.1 8= .sc (.int .i64 (l.length:Nat))∧gt st.1 9= .sc (.int .i64 (i:Nat))∧kndS (l.drop i) s=T)
   (fun o st=>st.1.length=20∧((o= .exit 0∧T=0)∨(o= .ret∧gt st.1 4= .sc (.int .i64 T)))) l.length (by simp;omega) ⟨rfl,rfl,rfl,rfl,rfl,hT⟩ ?_ ?_
  ·clear hXX XX hT;rintro i fr hp hle ⟨hlen,h1,h7,h8,h9,hT⟩;simp only at hlen h1 h7 h8 h9 hT;by_cases hi:i<l.length
   ·obtain⟨x,hx,hr,hr'⟩:=row_get hg hi;have hf:=fit_succ (show i≤1000000000000000 by omega);rw[kndS_step s hx]at hT;unfold coV at hr hr';cases he:eqS x.1 s
    ·rw[he,if_neg (by simp)]at hT;simp[hlen,h1,h7,h8,h9,hi,hq,hr,hr',spl2,he,hf];exact hT
    ·rw[he,if_pos rfl]at hT;subst hT;simp[hlen,h1,h7,h8,h9,hi,hq,hr,hr',spl2,he]
   ·have hil:i=l.length:=Yc hle (Yb hi);subst hil;rw[Yd,kndS]at hT;subst hT;simp[hlen,h8,h9]
  ·rintro o fr' h' rfl ⟨hlen,⟨rfl,rfl⟩|⟨rfl,h4⟩⟩
   ·simp only at hlen;simp[hlen]
   ·simp only at h4;simp[h4]
def chkB (l:Sco)(e:Ep)(whole:Bool):Int:=if((usesX e).any fun s=>decide (kndS l s=0))=true then 6 else if(hasX e && !(whole && decide (e.op=24)))=true then 9 else 0
theorem bd_check (D d n:Nat)(b:Bool)(l:Sco)(e:Ep)(w:Bool)(h:Hp)(hl:l.length≤1000000000)(he:okX D d e)(hc:cntX e≤1000000)(hn:3*d+10≤n):callN cx n b 79 [bldV 2 (coR l),.ag (encX e),.sc (.bool w)] h=some (.sc (.int .i64 (chkB l e w)),h):=by
 obtain⟨M,rfl⟩:∃M,n=M+1:=⟨n-1,by omega⟩;obtain⟨k1,e1⟩:∃k,M=k+1:=⟨M-1,by omega⟩;obtain⟨k2,e2⟩:∃k,M=k+d+2:=⟨M-d-2,by omega⟩;obtain⟨k3,e3⟩:∃k,M=k+3*d:=⟨M-3*d,by omega⟩;refine pure_calm (n:=M) (r:= .sc (.int .i64 (chkB l e w))) ⟨Tryz.f79.ntmps,(Tryz.f79.body).getD .skip,[.tmp 6]⟩ (by kernel_rfl) (by kernel_rfl) rfl (by kernel_rfl) (by simp[Tryz.f79]) (by rw[Zn,Zn,calm_encX,calm_bldV];rfl) rfl ?_ b h;have f1:=fun b h=>bd_Uses D d k2 b e h he hc
 have f2:=fun s b h=>bd_kind k1 b l s h hl
 have f3:=fun b h=>sy_HasAgg D d e he.1 he.2 k3 b h
 rw[←e1]at f2;rw[←e2]at f1;rw[←e3]at f3;have hul:(usesX e).length≤1000000:=by unfold usesX;rw[sortS_length];have:=varK_len e [];simp at this;omega
 clear e1 e2 e3 hn hc he;obtain⟨a0,a1,a2,a3,a4,a5,a6,a7,a8,he9⟩:=encX9 e;have ha0:a0= .sc (.int .i64 e.op):=by
  cases e;rw[encX]at he9;injection he9 with e1 _
  exact e1.symm
 rw[he9]at f1 f3⊢;subst ha0;unfold chkB;generalize hasX e=hg at f3⊢;generalize e.op=op at f1 f3⊢;generalize usesX e=us at f1 hul⊢;have hy:∀v,bldV 2 (coR l)≠ .pn v:=fun v=>by unfold bldV;split<;>simp
 generalize bldV 2 (coR l)=y at f2 hy⊢;have q3:=fun(ops:Array Oper) (d:Tmp) (rest:List Oper) (fr:List AV) (h:Hp)=>opP_np (C:=cx) (cal:=callN cx M true) (ops:=ops) hy d rest fr h
 have hq:=tsR_length us;have hgt:=tsR_get us;generalize tsR us=rows at f1 hq hgt;generalize hA:(us.any fun s=>decide (kndS l s=0))=A;simp[Tryz.f79,f1,hq];generalize hXX:exec2 cx (callN cx M) (.loop _) _=XX;refine loopE hXX (fun i st=>st.1.length=32∧gt st.1 0=y∧gt st.1 2= .sc (.bool w)∧gt st.1 4= .pt 0 0∧st.2[0]?=some (.row [.sc (.int .i64 op),a1,a2,a3,a4,a5,a6,a7,a8])∧gt st.1 10= .ls 1 rows false∧gt st.1 11= .sc (.int .i64 (us.length:Nat))∧gt st.1 12= .sc (.int .i64 (i:Nat))∧(us.drop i).any (fun s=>decide (kndS l s=0))=A)
  (fun o st=>st.1.length=32∧((o= .exit 0∧A=false∧gt st.1 2= .sc (.bool w)∧gt st.1 4= .pt 0 0∧st.2[0]?=some (.row [.sc (.int .i64 op),a1,a2,a3,a4,a5,a6,a7,a8]))∨(o= .ret∧A=true∧gt st.1 6= .sc (.int .i64 6)))) us.length (by simp;omega) ⟨rfl,rfl,rfl,rfl,rfl,rfl,rfl,rfl,hA⟩ ?_ ?_
 ·clear hXX XX hA;rintro i fr hp hle ⟨hlen,h0,h2,h4,hh,h10,h11,h12,hA⟩;simp only at hlen h0 h2 h4 hh h10 h11 h12 hA;by_cases hi:i<us.length
  ·obtain⟨x,hx,hr,hr'⟩:=row_get hgt hi;have hf:=fit_succ (show i≤1000000000000000 by omega);rw[any_drop hx]at hA;have fk:=f2 x;generalize kndS l x=k at fk hA;generalize hA':(us.drop (i+1)).any _=A' at hA;subst hA;by_cases hk:k=0
   ·subst hk;simp[hlen,h0,h2,h4,h10,h11,h12,hi,hq,hr,hr',fk,q3]
   ·simp[hlen,h0,h2,h4,hh,h10,h11,h12,hi,hq,hr,hr',fk,q3,hk,hf];exact hA'
  ·have hil:i=us.length:=Yc hle (Yb hi);subst hil;rw[Yd]at hA;subst hA;simp[hlen,h11,h12];exact⟨h2,h4,hh⟩
 ·rintro o fr' h' rfl ⟨hlen,⟨rfl,rfl,h2,h4,hh⟩|⟨rfl,rfl,h6⟩⟩
  ·simp only at hlen h2 h4 hh;cases hg
   ·simp[hlen,h2,h4,hh,f3]
   ·cases w
    ·simp[hlen,h2,h4,hh,f3]
    ·by_cases ho:op=24
     ·subst ho;simp[hlen,h2,h4,hh,f3]
     ·simp[hlen,h2,h4,hh,f3,ho]
  ·simp only at h6;simp[h6]
end
end Go.Proofs.YtmocfjnklfpnbaaGreatDoor
