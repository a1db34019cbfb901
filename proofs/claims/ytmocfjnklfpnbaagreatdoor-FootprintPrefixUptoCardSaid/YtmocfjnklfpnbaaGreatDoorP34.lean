/- A list of one plain value: the program's value.List. -/
import Derived.Test.YtmocfjnklfpnbaaGreatDoorP33
import Derived.Test.YtmocfjnklfpnbaaGreatDoorP21
set_option linter.all false
set_option maxRecDepth 100000
namespace Go.Proofs.YtmocfjnklfpnbaaGreatDoor
open Go Go.Ae
theorem v_List (M:Nat)(b:Bool)(k n d:Int)(s:ByteArray)(h:Hp):callN cx (M+5) b 150 [.ls 5 [[.sc (.int .i64 k),.sc (.int .i64 n),.sc (.int .i64 d),.sc (.string s),.ls 5 [] false]] true] h=some (.ag [.sc (.int .i64 8),.sc (.int .i64 0),.sc (.int .i64 0),.sc (.string ⟨#[]⟩),.ls 5 [[.sc (.int .i64 k),.sc (.int .i64 n),.sc (.int .i64 d),.sc (.string s),.ls 5 [] false]] false],h):=by
 kernel_rfl
section
attribute [local simp] aop aopW coldF extF putA ofConst flat scalarOp fastOp binFast intOp strOp guardX Ae.part rowOf szOk natOf lenA cls fillA newsOf isNilC cellX
set_option maxHeartbeats 32000000
def plB (q:Pp):Bool:=decide (q.e.op=1) && plainV q.e.v
def firstB :List Pp→Nat→Option Nat
 | [],_=>none
 |q::l,i=>if plB q=true then some i else firstB l (i+1)
def keyR (l:List Pp):List Pr:=l.map fun q=>prd 3 q.key
def labR (l:List ByteArray):List Pr:=l.map fun s=>prd 2 s
def noR (x:Np):List Pr:=
 if x.labels.length=0 then[prd 1 emB]++(labR x.labels++keyR x.props)
 else match firstB x.props 0 with
  |none=>labR x.labels++keyR x.props
  |
   some j=>match x.labels,x.props[j]? with
   |s::rest,some q=> [⟨4,s,q.key,q.e.v⟩]++(labR rest++keyR (x.props.take j++x.props.drop (j+1)))
   |_,_=> []
theorem firstB_some :∀(l:List Pp) (i j:Nat),firstB l i=some j→i≤j∧∃q,l[j-i]?=some q∧plB q=true
 | [],i,j,h=>by cases h
 |
  q::l,i,j,h=>by
  rw[firstB]at h;split at h
  ·rename_i hq;cases h;exact⟨Nat.le_refl _,q,by simp,hq⟩
  ·obtain⟨h1,q',h2,h3⟩:=firstB_some l (i+1) j h;refine⟨by omega,q',?_,h3⟩;rw[show j-i=(j-(i+1))+1 by omega];exact h2
theorem firstB_ix (p:List AV→Bool):∀(l:List Pp) (i:Nat),(∀q∈l,p (encPp q)=plB q)→ixR p (ppR l) (i:Nat)=match firstB l i with|some j=>(j:Int)|none=> -1
 | [],i,h=>rfl
 |
  q::l,i,h=>by
  have ih:=firstB_ix p l (i+1) (fun x hx=>h x (by simp[hx]));rw[show ppR (q::l)=encPp q::ppR l from rfl,ixR,firstB,h q (by simp)];cases plB q
  ·rw[if_neg (by simp),if_neg (by simp)];exact ih
  ·rw[if_pos rfl,if_pos rfl]
theorem plain_nil {v:V}(h:plainV v=true)(hg:gdV v):∃k n d s,v= .mk k n d s false []:=by
 obtain⟨k,n,d,s,z,l⟩:=v;rw[gdV]at hg;obtain⟨_,_,_,_,_,rfl,_⟩:=hg;unfold plainV okT at h;simp only[V.k,Zh,Bool.or_eq_true,Zz]at h;obtain⟨h1,hk⟩:=h;have h8:k≠8:=by rintro rfl;simp at hk
 have h7:k≠7:=by rintro rfl;simp at hk
 rw[okV]at h1;simp only[Zh,Bool.or_eq_true,Zz,List.isEmpty_iff]at h1;have:l=[]:=by
  rcases h1.1.2 with(h|h)|hl
  ·exact absurd h h8
  ·exact absurd h h7
  ·exact hl
 subst this;exact⟨_,_,_,_,rfl⟩
theorem vl_Plain (N D:Nat)(v:V)(hd:dep v≤D)(hb:bdV v)(b:Bool)(h:Hp):callN cx (N+2*D+5) b 149 [.ag (enc v)] h=some (.sc (.bool (plainV v)),h):=by
 have hv:=fun b h=>val_Valid N D v hd hb b h
 have hc:[AV.ag (enc v)].all calm=true:=calm_evV1 v;refine pure_calm (r:= .sc (.bool (plainV v))) (n:=N+2*D+4) ⟨Tryz.f149.ntmps,(Tryz.f149.body).getD .skip,[.tmp 2]⟩ (by kernel_rfl) (by kernel_rfl) rfl (by kernel_rfl) (by simp[Tryz.f149]) hc rfl ?_ b h;clear hc;unfold plainV;generalize okT v=K at hv;generalize N+2*D+4=M at hv;cases v with
 |
  mk k n d s z l=>
  simp only[V.k];rw[evV_eq]at hv;have he:enc (.mk k n d s z l)=[.sc (.int .i64 k),.sc (.int .i64 n),.sc (.int .i64 d),.sc (.string s),evL z l]:=rfl;rw[he];clear he;generalize evL z l=L at hv;by_cases h1:k=1
  ·subst h1;cases K<;>simp[Tryz.f149,hv]
  by_cases h2:k=2
  ·subst h2;cases K<;>simp[Tryz.f149,hv]
  by_cases h4:k=4
  ·subst h4;cases K<;>simp[Tryz.f149,hv]
  cases K<;>simp[Tryz.f149,hv,h1,h2,h4]
theorem rn_cl (N D:Nat)(b:Bool)(q:Pp)(h:Hp)(hq:bdX D q.e):callN cx (N+2*D+6) b 148 [.ag (encPp q)] h=some (.sc (.bool (plB q)),h):=by
 have hcalm:[AV.ag (encPp q)].all calm=true:=by
  have h0:=calm_encX q.e;simp[encPp,calm]at h0⊢;exact h0
 refine pure_calm (n:=N+2*D+5) (r:= .sc (.bool (plB q))) ⟨Tryz.f148.ntmps,(Tryz.f148.body).getD .skip,[.tmp 2]⟩ (by kernel_rfl) (by kernel_rfl) rfl (by kernel_rfl) (by simp[Tryz.f148]) hcalm rfl ?_ b h;obtain⟨key,e⟩:=q;obtain⟨op,v,nm,ds,ks⟩:=e;rw[bdX]at hq;have f1:=fun b h=>vl_Plain N D v hq.1.1 (gd_bd hq.1.2) b h
 have hv:=enc_length v;unfold plB encPp;simp only[Ep.op,Ep.v];rw[encX];generalize plainV v=w at f1⊢;generalize N+2*D+5=M at f1⊢;generalize encXs ks=rk;obtain⟨a1,a2,a3,a4,a5,he⟩:∃a1 a2 a3 a4 a5,enc v=[a1,a2,a3,a4,a5]:=by
  match enc v,hv with
  | [a1,a2,a3,a4,a5],_=>exact⟨_,_,_,_,_,rfl⟩
 rw[he]at f1⊢;by_cases ho:op=1
 ·subst ho;simp[Tryz.f148,f1]
 ·simp[Tryz.f148,ho]
theorem rn_ix (N D:Nat)(b:Bool)(l:List Pp)(h:Hp)(hl:l.length≤1000000000)(hb:∀q∈l,bdX D q.e):callN cx (N+2*D+7) b 147 [.ls 10 (ppR l) false,.fn 148 []] h=some (.sc (.int .i64 (match firstB l 0 with|some j=>(j:Int)|none=> -1)),h):=by
 have hex:∃p:List AV→Bool,∀q∈l,p (encPp q)=plB q:=by
  refine⟨fun r=>match callN cx (N+2*D+6) true 148 [.ag r] []with|some (.sc (.bool q),_)=>q|_=>false,fun q hq=>?_⟩;simp only[rn_cl N D true q [] (hb q hq)]
 obtain⟨p,hp⟩:=hex;have f1:=ix_PPs (N+2*D+6) b 148 (ppR l) p false h (fun r hr=>by obtain⟨x,_,rfl⟩:=Yh.1 hr;exact encPp_length x) (by rw[ppR_length];omega) (fun r hr b h=>by
  obtain⟨x,hx,rfl⟩:=Yh.1 hr;rw[hp x hx];exact rn_cl N D b x h (hb x hx))
 rw[show(0:Int)=((0:Nat):Int)from rfl,firstB_ix p l 0 hp]at f1;exact f1
theorem labR_len (l:List ByteArray):(labR l).length=l.length:=by simp[labR]
theorem noR_len (x:Np):(noR x).length≤1+x.labels.length+x.props.length:=by
 unfold noR;split
 ·simp[keyR,labR]<;>omega
 ·split
  ·simp[keyR,labR]<;>omega
  ·split
   ·rename_i j _ s rest q h1 h2;rw[h1];have:=(Za.1 h2).1;simp[keyR,labR];omega
   ·simp
theorem rd_node (N D M id:Nat)(t:Bool)(l:List Pr)(x:Np)(h:Hp)(hS:RS id l h)(h1:x.labels.length≤100000000)(h2:x.props.length≤100000000)(hl:l.length+1+x.labels.length+x.props.length≤1000000000)(hb:∀q∈x.props,bdX D q.e)(hM:M=N+2*D+7):
 ∃h',callN cx (M+1) t 85 [.pt id 0,.ag (encNp x)] h=some (.tp [],h')∧RS id (l++noR x) h'∧KR id h h':=by
 rw[call_inl (n:=M) ⟨Tryz.f85.ntmps,(Tryz.f85.body).getD .skip,[]⟩ rfl (by kernel_rfl) (by kernel_rfl) (by kernel_rfl) (by kernel_rfl) (by simp[Tryz.f85])];have fa:=fun(l:List Pr) k nm h hS hl=>rd_add (N+2*D+6) true id l k nm h hS hl
 have fix:=fun b h=>rn_ix N D b x.props h (by omega) hb
 have fcat:=fun(A B:List Pp) za zb b h hl=>m_Concat (N+2*D+5) b A B za zb h hl
 have flst:=fun k n d s b h=>v_List (N+2*D+2) b k n d s h
 rw[show N+2*D+6+1=M by omega]at fa;rw[←hM]at fix;rw[show N+2*D+5+2=M by omega]at fcat;rw[show N+2*D+2+5=M by omega]at flst;show PR id (l++noR x) h (exec2 cx (callN cx M) kRN _);rw[show kRN= .seq (cL (cT 0 kRN)) (.seq (cL (cT 1 kRN)) (.seq (cL (cT 2 kRN)) (.seq (cL (cT 3 kRN)) (cT 4 kRN)))) by kernel_rfl];have hlt:=hS.lt;have hS0:=hS.app [.row (encNp x)];have hK0:KR id h (h++[.row (encNp x)]):=KR.app _ hlt;have gj:(h++[Blk.row (encNp x)])[h.length]?=some (.row (encNp x)):=by simp
 have rest:∀(l1:List Pr) (lab:List ByteArray) (ps:List Pp) z z' fr h',RS id l1 h'→KR id h h'→l1++(labR lab++keyR ps)=l++noR x→l1.length≤l.length+1→lab.length≤x.labels.length→ps.length≤x.props.length→fr.length=83→gt fr 0= .pt id 0→gt fr 4= .ls 1 (tsR lab) z→gt fr 5= .ls 10 (ppR ps) z'→PR id (l++noR x) h (exec2 cx (callN cx M) (.seq (cL (cT 3 kRN)) (cT 4 kRN)) (fr,h')):=by
  intro l1 lab ps z z' fr h' hS hK hT hl1 hla hps hlen g0 g4 g5;refine rn_1 M id lab (tsR lab) z _ _ h _ (tsR_length _) (tsR_get _) (by omega) (by omega) l1 (by omega) ?_ fr h' hS hK hlen g0 g4 g5;rintro fr h' _ hS hK rfl hlen g0 g5;refine rn_2 M id ps (ppR ps) z' _ h (ppR_length _) (ppR_get _) (by omega) (by omega) _ (by simp;omega) ?_ fr h' hS hK hlen g0 g5;rw[Zp];exact hT
 generalize Code.seq (cL (cT 3 kRN)) (cT 4 kRN)=Z at rest⊢;have hql:=tsR_length x.labels;by_cases h0:x.labels.length=0
 ·obtain⟨h',f1,hS',hK'⟩:=fa l 1 emB _ hS0 (by omega);have rs:=fun fr=>rest _ x.labels x.props false false fr h' hS' (hK0.trans hK') (by unfold noR;rw[if_pos h0];simp) (by simp) (Nat.le_refl _) (Nat.le_refl _)
  unfold emB at f1;unfold encNp at *;generalize tsR x.labels=rt at *;generalize ppR x.props=rp at *;simp[kRN,cT,cR,cL,Tryz.f85,hql,h0,f1];exact rs _ (by simp) (by simp) (by simp) (by simp)
 have h0':¬(x.labels.length:Int)=0:=by omega
 cases hfb:firstB x.props 0 with
 |
  none=>
  rw[hfb]at fix;have rs:=fun fr=>rest l x.labels x.props false false fr _ hS0 hK0 (by unfold noR;rw[if_neg h0,hfb]) (by omega) (Nat.le_refl _) (Nat.le_refl _)
  simp only at fix;unfold encNp at *;generalize tsR x.labels=rt at *;generalize ppR x.props=rp at *;simp[kRN,cT,cR,cL,Tryz.f85,hql,h0,h0',fix];exact rs _ (by simp) (by simp) (by simp) (by simp)
 |
  some j=>
  rw[hfb]at fix;simp only at fix;obtain⟨_,q,hj,hpl⟩:=firstB_some x.props 0 j hfb;rw[Nat.sub_zero]at hj;have hjl:=(Za.1 hj).1;have hbq:=hb q (Zi hj);have hrp:=ppR_get x.props j;rw[hj,Option.map_some]at hrp;have hrp':∀k,(ppR x.props)[j]'k=encPp q:=fun k=>by obtain⟨_,e⟩:=Za.1 hrp;exact e
  have hqp:=ppR_length x.props;obtain⟨s,rl,hlab⟩:∃s r,x.labels=s::r:=by
   match hx:x.labels,h0 with
   |s::r,_=>exact⟨s,r,rfl⟩
   | [],h0=>exact absurd (by simp[hx]) h0
  have rs:=fun z z' fr h' hS hK=>rest (l++[⟨4,s,q.key,q.e.v⟩]) rl (x.props.take j++x.props.drop (j+1)) z z' fr h' hS hK (by unfold noR;rw[if_neg h0,hfb];simp only[hlab,hj];simp) (by simp) (by rw[hlab];simp) (by simp;omega)
  have fc:=fun za zb b h=>fcat (x.props.take j) (x.props.drop (j+1)) za zb b h (by simp;omega)
  have e1:ppR (x.props.take j)=(ppR x.props).take j:=by simp[ppR,List.map_take]
  have e2:ppR (x.props.drop (j+1))=(ppR x.props).drop (j+1):=by simp[ppR,List.map_drop]
  rw[e1,e2]at fc;generalize ppR (x.props.take j++x.props.drop (j+1))=RC at fc rs;clear rest fcat e1 e2 fa h0';obtain⟨key,op,v,nm,ds,ks⟩:=q;rw[bdX]at hbq;have hpl2:op=1∧plainV v=true:=by
   unfold plB at hpl;dsimp only[Ep.op,Ep.v]at hpl;rw[Zh]at hpl;exact⟨of_decide_eq_true hpl.1,hpl.2⟩
  dsimp only[Ep.op,Ep.v]at rs;clear hpl;obtain⟨rfl,hpv⟩:=hpl2;obtain⟨vk,vn,vd,vs,rfl⟩:=plain_nil hpv hbq.1.2;have hep:encPp ⟨key,.mk 1 (.mk vk vn vd vs false []) nm ds ks⟩=[.sc (.string key),.sc (.int .i64 1),.sc (.int .i64 vk),.sc (.int .i64 vn),.sc (.int .i64 vd),.sc (.string vs),.ls 5 [] false,.sc (.string nm),.sc (.bool ds),.ls 9 (encXs ks) false]:=by
   simp[encPp,encX,enc,lsV,encL]
  have heP:encP ⟨4,s,key,.mk vk vn vd vs false []⟩=[.sc (.int .i64 4),.sc (.string s),.sc (.string key),.sc (.int .i64 vk),.sc (.int .i64 vn),.sc (.int .i64 vd),.sc (.string vs),.ls 5 [] false]:=by
   simp[encP,enc,lsV,encL]
  rw[hep]at hrp hrp';obtain⟨y,h0',hB,hn⟩:=hS0;obtain⟨i1,h1,b1,b2,b3,b4⟩:=bld_appM (t:=82) T_qRe rfl _ (encP ⟨4,s,key,.mk vk vn vd vs false []⟩) true (pdQ l) y hB (encP_length _) (pdQ_all l) (by omega) (by rw[pdQ_length];omega) (by omega);obtain⟨r1,r2⟩:=rd_store ⟨4,s,key,.mk vk vn vd vs false []⟩ h0' hn b2 b3 b4;have rs2:=fun z z' fr=>rs z z' fr _ r1 (hK0.trans r2)
  have h10:=b3 id _ h0' (fun k n e=>(hn k n e).symm);have q1:=fun(ops:Array Oper) (dd:Tmp) (rest:List Oper) (fr:List AV) (h:Hp)=>opP_np (C:=cx) (cal:=callN cx M true) (ops:=ops) (fun v=>hB.np v) dd rest fr h
  have q2:=fun(ops:Array Oper) (dd:Tmp) (rest:List Oper) (fr:List AV) (h:Hp)=>opN_np (C:=cx) (cal:=callN cx M false) (ops:=ops) (fun v=>hB.np v) dd rest fr h
  have hcls:cls y=some [y]:=by rcases hB with⟨_,rfl⟩|⟨_,j,rfl,_⟩<;>rfl
  rw[heP]at b1;have hlr:tsR x.labels=[.sc (.string s)]::tsR rl:=by rw[hlab];rfl
  have hj15:j≤1000000000000000:=by omega
  clear rs r1 r2 b2 b3 hb;unfold encNp at *;simp only[hlr]at b1 h0'⊢;clear gj hK0 hS;generalize tsR rl=rt at *;have hrt:¬(rt.length:Int)+1=0:=by omega
  generalize ppR x.props=rp at *;generalize(pdQ l).length=m at *;rw[←hqp]at hjl;have hj1:j≤rp.length:=by omega
  have hj0:(0:Int)≤(j:Int)+1:=by omega
  have hj2:j+1≤rp.length:=by omega
  have hdr:List.take (rp.length-(j+1)) (List.drop (j+1) rp)=List.drop (j+1) rp:=List.take_of_length_le (by simp);have hf:=fit_succ hj15;simp[kRN,cT,cR,cL,Tryz.f85,hlab,hrt,hj0,hj1,hj2,hdr,fix,hrp,hrp',hjl,hf,flst,fc,h0',h10,q1,q2,b1,splice,coldA,boundA,chunk,calm,sliceA];exact rs2 false false _ (by simp) (by simp) (by simp) (by simp)
noncomputable def kRP :Code:=(Tryz.f43.body).getD .skip
def nodQ (kd:Int)(K:Sco)(x:Np):List Pr:=ppX x.props++(if kd=5 then(if eqS x.var ⟨#[]⟩=true then[]else if kndS K x.var=0 then[]else[prd 1 emB])else noR x)
def edgQ (kd:Int)(x:Gp):List Pr:=ppX x.props++(if kd=5 then[]else gpR' x)
def pthR (kd:Int)(K:Sco)(p:Tp):List Pr:=p.nodes.flatMap (nodQ kd K)++p.edges.flatMap (edgQ kd)
def mNo (x:Np):Nat:=1+x.labels.length+x.props.length+2*sumP x.props
def mEd (x:Gp):Nat:=1+x.types.length+x.props.length+2*sumP x.props
def mTp (p:Tp):Nat:=(p.nodes.map mNo).sum+(p.edges.map mEd).sum
theorem gpR_len (x:Gp):(gpR' x).length≤1+x.types.length+x.props.length:=by
 unfold gpR';split<;>simp<;>omega
theorem nodQ_len (kd:Int)(K:Sco)(x:Np):(nodQ kd K x).length≤mNo x:=by
 have h1:=ppX_len x.props;have h2:=noR_len x;unfold nodQ mNo;rw[Zu]
 repeat' split
 all_goals simp
 all_goals omega
theorem edgQ_len (kd:Int)(x:Gp):(edgQ kd x).length≤mEd x:=by
 have h1:=ppX_len x.props;have h2:=gpR_len x;unfold edgQ mEd;rw[Zu];split
 ·simp;omega
 ·omega
def brN (D d:Nat)(x:Np):Prop:=(∀q∈x.props,okX D d q.e)∧x.labels.length≤100000000∧x.props.length≤100000000
def brG (D d:Nat)(x:Gp):Prop:=(∀q∈x.props,okX D d q.e)∧x.types.length≤100000000∧x.props.length≤100000000
def brT (D d:Nat)(p:Tp):Prop:=(∀x∈p.nodes,brN D d x)∧(∀x∈p.edges,brG D d x)∧p.nodes.length≤100000000∧p.edges.length≤100000000
def SR (id hc jp:Nat)(yk:AV)(rp:List (List AV))(m i:Nat)(row rowp:List AV)(fr:List AV)(h:Hp):Prop:=fr.length=70∧gt fr 0= .pt id 0∧gt fr 2=yk∧gt fr 4= .pt hc 0∧gt fr 7= .pt jp 0∧gt fr 13= .ls 3 rp false∧gt fr 14= .sc (.int .i64 (m:Nat))∧gt fr 15= .sc (.int .i64 (i:Nat))∧(h[hc]?=some (.row row)∧Free id hc h)∧h[jp]?=some (.row rowp)∧Free id jp h
def PI (S:List AV→Hp→Prop)(id:Nat)(T:List Pr)(h0:Hp)(r:Option (Out × St)):Prop:=∃fr' h',r=some (.normal,(fr',h'))∧S fr' h'∧RS id T h'∧KR id h0 h'
theorem free_app {id j:Nat}{h:Hp}(k:Hp)(hlt:id<h.length)(hf:Free id j h):Free id j (h++k):=⟨hf.1,fun m e=>hf.2 m (by rw[Zd hlt]at e;exact e)⟩
theorem pr_nodes (D d M id hc jp:Nat)(K:Sco)(yk:AV)(hyk:yk=bldV 2 (coR K))(hK24:K.length≤24)(kd:Int)(rp:List (List AV))(m i:Nat)(row:List AV)(hrow:row[0]?=some (.sc (.int .i64 kd)))(vr:ByteArray)(rn re:List (List AV))(l:List Np)(hq:rn.length=l.length)(hg:∀i:Nat,rn[i]?=(l[i]?).map encNp)(hl:l.length≤100000000)(hb:∀x∈l,brN D d x)(hn:2*D+d+20≤M)(h0:Hp)(l0:List Pr)(hl0:l0.length+(l.map mNo).sum≤1000000000)(fr:List AV)(h:Hp)(hS:SR id hc jp yk rp m i row [.sc (.string vr),.ls 3 rn false,.ls 7 re false] fr h)(hR:RS id l0 h)(hK:KR id h0 h):
 PI (SR id hc jp yk rp m i row [.sc (.string vr),.ls 3 rn false,.ls 7 re false]) id (l0++l.flatMap (nodQ kd K)) h0 (exec2 cx (callN cx M) (cL (cR (cL (cL (cR (cR (cL (cL (cT 2 kRP))))))))) (fr,h)):=by
 obtain⟨k1,e1⟩:∃k,M=k+1:=⟨M-1,by omega⟩;have fpp:=fun(l:List Pr) ps h hS hb hpl hl=>rd_props D d M true id l ps h hS hb hpl hl (by omega)
 have fa:=fun(l:List Pr) k nm h hS hl=>rd_add k1 true id l k nm h hS hl
 have fk:=fun b nm h=>fp_of k1 b K nm h (by omega)
 have fno:=fun(l:List Pr) x h hS h1 h2 hl hb=>rd_node (M-1-2*D-7) D (M-1) id true l x h hS h1 h2 hl hb (by omega)
 rw[←e1]at fa fk;rw[show M-1+1=M by omega]at fno;rw[←hyk]at fk;have hyp:∀v,yk≠ .pn v:=fun v=>by rw[hyk];unfold bldV;split<;>simp
 have q2:=fun(ops:Array Oper) (dd:Tmp) (rest:List Oper) (fr:List AV) (h:Hp)=>opP_np (C:=cx) (cal:=callN cx M true) (ops:=ops) hyp dd rest fr h
 clear e1 hn hyk;obtain⟨hlen,g0,g2,g4,g7,g13,g14,g15,⟨gc,gcF⟩,gp,gpF⟩:=hS;generalize hTL:l0++l.flatMap (nodQ kd K)=TL;simp[kRP,cT,cR,cL,Tryz.f43,hlen,g0,g2,g4,g7,gp,hq];generalize hXX:exec2 cx (callN cx M) (.loop _) _=XX;refine loopE hXX
  (fun i' st=>SR id hc jp yk rp m i row [.sc (.string vr),.ls 3 rn false,.ls 7 re false] st.1 st.2∧gt st.1 20= .ls 3 rn false∧gt st.1 21= .sc (.int .i64 (l.length:Nat))∧gt st.1 22= .sc (.int .i64 (i':Nat))∧∃l',RS id l' st.2∧KR id h0 st.2∧l'.length+((l.drop i').map mNo).sum≤1000000000∧l'++(l.drop i').flatMap (nodQ kd K)=TL)
  (fun o st=>o= .exit 2∧SR id hc jp yk rp m i row [.sc (.string vr),.ls 3 rn false,.ls 7 re false] st.1 st.2∧RS id TL st.2∧KR id h0 st.2)
  l.length (by simp;omega) ⟨⟨by simp[hlen],by simp[g0],by simp[g2],by simp[g4],by simp[g7],by simp[g13],by simp[g14],by simp[g15],⟨gc,gcF⟩,gp,gpF⟩,by simp[hlen],by simp[hlen],by simp[hlen],l0,hR,hK,hl0,hTL⟩ ?_ ?_
 ·clear hXX XX hTL hR hK hlen g0 g2 g4 g7 g13 g14 g15 gc gcF gp gpF hl0;rintro i' fr hp hle ⟨⟨hlen,g0,g2,g4,g7,g13,g14,g15,⟨gc,gcF⟩,gp,gpF⟩,h1,h2,h3,l',hR,hK,hl',hTL⟩;simp only at hlen g0 g2 g4 g7 g13 g14 g15 gc gcF gp gpF h1 h2 h3 hR hK;by_cases hi:i'<l.length
  ·obtain⟨x,hx,hr,hr'⟩:=row_get hg hi;have hmem:=Zi hx;have hf0:i'≤1000000000000000:=by omega
   rw[drop_of hx,List.map_cons,List.sum_cons]at hl';rw[drop_of hx,List.flatMap_cons,←Zp]at hTL;have hlt:=hR.lt;obtain⟨hbx,hb1,hb2⟩:=hb x hmem;have hRa:=hR.app [.row (encNp x)];have hKa:=hK.trans (KR.app (id:=id) [.row (encNp x)] hlt);have gc1:=get_app [.row (encNp x)] gc;have gcF1:=free_app [.row (encNp x)] hlt gcF;have gp1:=get_app [.row (encNp x)] gp;have gpF1:=free_app [.row (encNp x)] hlt gpF;have gx1:(hp++[Blk.row (encNp x)])[hp.length]?=some (.row (encNp x)):=by simp
   have gxF1:=hR.free [.row (encNp x)];have hmx:mNo x=1+x.labels.length+x.props.length+2*sumP x.props:=rfl;obtain⟨ha,f1,hRb,hKb⟩:=fpp l' x.props _ hRa hbx (by omega) (by omega);obtain⟨gc2,gcF2⟩:=hKb _ _ gc1 gcF1;obtain⟨gp2,gpF2⟩:=hKb _ _ gp1 gpF1;obtain⟨gx2,gxF2⟩:=hKb _ _ gx1 gxF1;have hKc:=hKa.trans hKb;have hlx:(l'++ppX x.props).length+(1+x.labels.length+x.props.length)+((l.drop (i'+1)).map mNo).sum≤1000000000:=by have:=ppX_len x.props;rw[Zu];omega
   have hnxt:=fun(R:List Pr) (hR:R.length≤1+x.labels.length+x.props.length)=>(show(l'++ppX x.props++R).length+((l.drop (i'+1)).map mNo).sum≤1000000000 by rw[Zu];omega)
   unfold nodQ at hTL;rw[←Zp]at hTL;have hlp:=labR_len x.labels;by_cases k5:kd=5
   ·rw[if_pos k5]at hTL;by_cases he:eqS x.var ⟨#[]⟩=true
    ·rw[if_pos he]at hTL;have hnxt2:=hnxt [] (by simp);rw[Yk]at hTL hnxt2;unfold encNp at hr hr' f1 gx2;generalize tsR x.labels=rl at *;generalize ppR x.props=rpp at *;have hf:=fit_succ hf0;subst k5;simp[hlen,g0,g2,g4,g7,h1,h2,h3,hi,hq,hr,hr',spl3,f1,gc2,hrow,gx2,hf,he];exact⟨⟨by simp[hlen],by simp[g0],by simp[g2],by simp[g4],by simp[g7],by simp[g13],by simp[g14],by simp[g15],⟨gc2,gcF2⟩,gp2,gpF2⟩,_,hRb,hKc,by simpa only[List.map_drop]using hnxt2,hTL⟩
    rw[if_neg he]at hTL;have fk1:=fk true x.var ha;by_cases hk:kndS K x.var=0
    ·rw[if_pos hk]at hTL;rw[hk]at fk1;have hnxt2:=hnxt [] (by simp);rw[Yk]at hTL hnxt2;unfold encNp at hr hr' f1 gx2;generalize tsR x.labels=rl at *;generalize ppR x.props=rpp at *;have hf:=fit_succ hf0;subst k5;simp[hlen,g0,g2,g4,g7,h1,h2,h3,hi,hq,hr,hr',spl3,f1,gc2,hrow,gx2,hf,he,q2,fk1];exact⟨⟨by simp[hlen],by simp[g0],by simp[g2],by simp[g4],by simp[g7],by simp[g13],by simp[g14],by simp[g15],⟨gc2,gcF2⟩,gp2,gpF2⟩,_,hRb,hKc,by simpa only[List.map_drop]using hnxt2,hTL⟩
    ·rw[if_neg hk]at hTL;obtain⟨hd,f2,hRd,hKd⟩:=fa _ 1 emB ha hRb (by omega);obtain⟨gc3,gcF3⟩:=hKd _ _ gc2 gcF2;obtain⟨gp3,gpF3⟩:=hKd _ _ gp2 gpF2;have hKe:=hKc.trans hKd;have hnxt3:=hnxt [prd 1 emB] (by rw[List.length_singleton];omega);unfold encNp at hr hr' f1 gx2;unfold emB at f2;generalize tsR x.labels=rl at *;generalize ppR x.props=rpp at *;generalize kndS K x.var=kk at *;have hf:=fit_succ hf0;subst k5;simp[hlen,g0,g2,g4,g7,h1,h2,h3,hi,hq,hr,hr',spl3,f1,gc2,hrow,gx2,hf,he,q2,fk1,hk,f2];exact⟨⟨by simp[hlen],by simp[g0],by simp[g2],by simp[g4],by simp[g7],by simp[g13],by simp[g14],by simp[g15],⟨gc3,gcF3⟩,gp3,gpF3⟩,_,hRd,hKe,by simpa only[List.map_drop]using hnxt3,hTL⟩
   ·rw[if_neg k5]at hTL;obtain⟨hd,f2,hRd,hKd⟩:=fno _ x ha hRb hb1 hb2 (by omega) (fun q hq=>(hbx q hq).2);obtain⟨gc3,gcF3⟩:=hKd _ _ gc2 gcF2;obtain⟨gp3,gpF3⟩:=hKd _ _ gp2 gpF2;have hKe:=hKc.trans hKd;have hnxt3:=hnxt _ (noR_len x);unfold encNp at hr hr' f1 gx2 f2;generalize tsR x.labels=rl at *;generalize ppR x.props=rpp at *;have hf:=fit_succ hf0;simp[hlen,g0,g2,g4,g7,h1,h2,h3,hi,hq,hr,hr',spl3,f1,gc2,hrow,gx2,hf,k5,f2];exact⟨⟨by simp[hlen],by simp[g0],by simp[g2],by simp[g4],by simp[g7],by simp[g13],by simp[g14],by simp[g15],⟨gc3,gcF3⟩,gp3,gpF3⟩,_,hRd,hKe,by simpa only[List.map_drop]using hnxt3,hTL⟩
  ·have hil:i'=l.length:=Yc hle (Yb hi);subst hil;rw[Yd,List.flatMap_nil,Yk]at hTL;subst hTL;simp[hlen,h2,h3];exact⟨⟨by simp[hlen],by simp[g0],by simp[g2],by simp[g4],by simp[g7],by simp[g13],by simp[g14],by simp[g15],⟨gc,gcF⟩,gp,gpF⟩,hR,hK⟩
 ·rintro o fr' h' rfl ⟨rfl,hS,hR,hK⟩;exact⟨fr',h',by simp,hS,hR,hK⟩
theorem pr_edges (D d M id hc jp:Nat)(K:Sco)(yk:AV)(hyk:yk=bldV 2 (coR K))(hK24:K.length≤24)(kd:Int)(rp:List (List AV))(m i:Nat)(row:List AV)(hrow:row[0]?=some (.sc (.int .i64 kd)))(vr:ByteArray)(rn re:List (List AV))(l:List Gp)(hq:re.length=l.length)(hg:∀i:Nat,re[i]?=(l[i]?).map encGp)(hl:l.length≤100000000)(hb:∀x∈l,brG D d x)(hn:2*D+d+20≤M)(h0:Hp)(l0:List Pr)(hl0:l0.length+(l.map mEd).sum≤1000000000)(fr:List AV)(h:Hp)(hS:SR id hc jp yk rp m i row [.sc (.string vr),.ls 3 rn false,.ls 7 re false] fr h)(hR:RS id l0 h)(hK:KR id h0 h)(h9:gt fr 52= .ls 7 re false∧gt fr 53= .sc (.int .i64 (re.length:Nat))∧gt fr 54= .sc (.int .i64 (0:Nat))):
 PI (SR id hc jp yk rp m i row [.sc (.string vr),.ls 3 rn false,.ls 7 re false]) id (l0++l.flatMap (edgQ kd)) h0 (exec2 cx (callN cx M) (cR (cR (cR (cL (cL (cR (cR (cL (cL (cT 2 kRP)))))))))) (fr,h)):=by
 obtain⟨k1,e1⟩:∃k,M=k+1:=⟨M-1,by omega⟩;have fpp:=fun(l:List Pr) ps h hS hb hpl hl=>rd_props D d M true id l ps h hS hb hpl hl (by omega)
 have fa:=fun(l:List Pr) k nm h hS hl=>rd_add k1 true id l k nm h hS hl
 have fno:=fun(l:List Pr) x h hS h1 h2 hl=>rd_edge M true id l x h hS h1 h2 hl (by omega)
 clear fa e1 hn hyk;obtain⟨hlen,g0,g2,g4,g7,g13,g14,g15,⟨gc,gcF⟩,gp,gpF⟩:=hS;generalize hTL:l0++l.flatMap (edgQ kd)=TL;simp[kRP,cT,cR,cL,Tryz.f43,hlen,g0,g2,g4,g7,gp,hq];generalize hXX:exec2 cx (callN cx M) (.loop _) _=XX;refine loopE hXX
  (fun i' st=>SR id hc jp yk rp m i row [.sc (.string vr),.ls 3 rn false,.ls 7 re false] st.1 st.2∧gt st.1 52= .ls 7 re false∧gt st.1 53= .sc (.int .i64 (l.length:Nat))∧gt st.1 54= .sc (.int .i64 (i':Nat))∧∃l',RS id l' st.2∧KR id h0 st.2∧l'.length+((l.drop i').map mEd).sum≤1000000000∧l'++(l.drop i').flatMap (edgQ kd)=TL)
  (fun o st=>o= .exit 5∧SR id hc jp yk rp m i row [.sc (.string vr),.ls 3 rn false,.ls 7 re false] st.1 st.2∧RS id TL st.2∧KR id h0 st.2)
  l.length (by simp;omega) ⟨⟨by simp[hlen],by simp[g0],by simp[g2],by simp[g4],by simp[g7],by simp[g13],by simp[g14],by simp[g15],⟨gc,gcF⟩,gp,gpF⟩,by simp[hlen,h9,hq],by simp[hlen,h9,hq],by simp[hlen,h9,hq],l0,hR,hK,hl0,hTL⟩ ?_ ?_
 ·clear hXX XX hTL hR hK hlen g0 g2 g4 g7 g13 g14 g15 gc gcF gp gpF hl0 h9;rintro i' fr hp hle ⟨⟨hlen,g0,g2,g4,g7,g13,g14,g15,⟨gc,gcF⟩,gp,gpF⟩,h1,h2,h3,l',hR,hK,hl',hTL⟩;simp only at hlen g0 g2 g4 g7 g13 g14 g15 gc gcF gp gpF h1 h2 h3 hR hK;by_cases hi:i'<l.length
  ·obtain⟨x,hx,hr,hr'⟩:=row_get hg hi;have hmem:=Zi hx;have hf0:i'≤1000000000000000:=by omega
   rw[drop_of hx,List.map_cons,List.sum_cons]at hl';rw[drop_of hx,List.flatMap_cons,←Zp]at hTL;have hlt:=hR.lt;obtain⟨hbx,hb1,hb2⟩:=hb x hmem;have hRa:=hR.app [.row (encGp x)];have hKa:=hK.trans (KR.app (id:=id) [.row (encGp x)] hlt);have gc1:=get_app [.row (encGp x)] gc;have gcF1:=free_app [.row (encGp x)] hlt gcF;have gp1:=get_app [.row (encGp x)] gp;have gpF1:=free_app [.row (encGp x)] hlt gpF;have gx1:(hp++[Blk.row (encGp x)])[hp.length]?=some (.row (encGp x)):=by simp
   have gxF1:=hR.free [.row (encGp x)];have hmx:mEd x=1+x.types.length+x.props.length+2*sumP x.props:=rfl;obtain⟨ha,f1,hRb,hKb⟩:=fpp l' x.props _ hRa hbx (by omega) (by omega);obtain⟨gc2,gcF2⟩:=hKb _ _ gc1 gcF1;obtain⟨gp2,gpF2⟩:=hKb _ _ gp1 gpF1;obtain⟨gx2,gxF2⟩:=hKb _ _ gx1 gxF1;have hKc:=hKa.trans hKb;have hlx:(l'++ppX x.props).length+(1+x.types.length+x.props.length)+((l.drop (i'+1)).map mEd).sum≤1000000000:=by have:=ppX_len x.props;rw[Zu];omega
   have hnxt:=fun(R:List Pr) (hR:R.length≤1+x.types.length+x.props.length)=>(show(l'++ppX x.props++R).length+((l.drop (i'+1)).map mEd).sum≤1000000000 by rw[Zu];omega)
   unfold edgQ at hTL;rw[←Zp]at hTL;by_cases k5:kd=5
   ·rw[if_pos k5]at hTL;have hnxt2:=hnxt [] (by simp);rw[Yk]at hTL hnxt2;unfold encGp at hr hr' f1 gx2;generalize tsR x.types=rl at *;generalize ppR x.props=rpp at *;have hf:=fit_succ hf0;subst k5;simp[hlen,g0,g2,g4,g7,h1,h2,h3,hi,hq,hr,hr',spX7,f1,gc2,hrow,gx2,hf];exact⟨⟨by simp[hlen],by simp[g0],by simp[g2],by simp[g4],by simp[g7],by simp[g13],by simp[g14],by simp[g15],⟨gc2,gcF2⟩,gp2,gpF2⟩,_,hRb,hKc,by simpa only[List.map_drop]using hnxt2,hTL⟩
   ·rw[if_neg k5]at hTL;obtain⟨hd,f2,hRd,hKd⟩:=fno _ x ha hRb (Yj hb1 (by omega)) (Yj hb2 (by omega)) (by omega);obtain⟨gc3,gcF3⟩:=hKd _ _ gc2 gcF2;obtain⟨gp3,gpF3⟩:=hKd _ _ gp2 gpF2;have hKe:=hKc.trans hKd;have hnxt3:=hnxt _ (gpR_len x);unfold encGp at hr hr' f1 gx2 f2;generalize tsR x.types=rl at *;generalize ppR x.props=rpp at *;have hf:=fit_succ hf0;simp[hlen,g0,g2,g4,g7,h1,h2,h3,hi,hq,hr,hr',spX7,f1,gc2,hrow,gx2,hf,k5,f2];exact⟨⟨by simp[hlen],by simp[g0],by simp[g2],by simp[g4],by simp[g7],by simp[g13],by simp[g14],by simp[g15],⟨gc3,gcF3⟩,gp3,gpF3⟩,_,hRd,hKe,by simpa only[List.map_drop]using hnxt3,hTL⟩
  ·have hil:i'=l.length:=Yc hle (Yb hi);subst hil;rw[Yd,List.flatMap_nil,Yk]at hTL;subst hTL;simp[hlen,h2,h3];exact⟨⟨by simp[hlen],by simp[g0],by simp[g2],by simp[g4],by simp[g7],by simp[g13],by simp[g14],by simp[g15],⟨gc,gcF⟩,gp,gpF⟩,hR,hK⟩
 ·rintro o fr' h' rfl ⟨rfl,hS,hR,hK⟩;exact⟨fr',h',by simp,hS,hR,hK⟩
end
end Go.Proofs.YtmocfjnklfpnbaaGreatDoor
namespace Go.Ae
open List
variable {α : Type} {cmp : α → α → Int}
def Up (cmp:α→α→Int)(l:List α):Prop:=l.Pairwise fun a b=>cmp a b<0
theorem Up.tail {x:α}{l:List α}(h:Up cmp (x::l)):Up cmp l:=(List.pairwise_cons.1 h).2
end Go.Ae
