/- Part of the proof. -/
import Derived.Test.YtmocfjnklfpnbaaGreatDoorP32
set_option linter.all false
set_option maxHeartbeats 32000000
set_option maxRecDepth 100000
namespace Go.Proofs.YtmocfjnklfpnbaaGreatDoor
open Go Go.Ae Go.Proofs.Tryz
section
attribute [local simp] ew eY
def xH :Cv none= -1:=rfl
def xI(j:Nat):Cv (some j)=0:=rfl
def xJ :Bp none= -1:=rfl
def xK(j:Nat):Bp (some j)=(j:Int):=rfl
def p9(s:ByteArray)(ps:List Pp)(K:List Pr):uY s ps K none=K:=rfl
def tu{s:ByteArray}{ps:List Pp}{K:List Pr}{j:Nat}{q:Pp}(h:ps[j]?=some q):uY s ps K (some j)=cQ K ⟨4,s,q.key,q.e.v⟩:=by unfold uY;simp only[h]
def abV(D M:Nat)(hD:1<=D)(hM:3*D+9<=M)(s:ByteArray)(rl:List LA)(hrt:rl.length<=10^9)(ps:List Pp)(rp:List LA)(hq:rp.length=ps.length)(hg:∀i:Nat,rp[i]?=(ps[i]?).map eF)(PE:ps.length<=10^8)(Tr:∀q∈ps,ke D q.e)(vr:ByteArray)(Z:Code)(G:Option (Out × St)->Prop)(K:List Pr)(gK:gP D K)(hl:K.length+1<=100000000)(hZ:∀y fr h,fQ (uY s ps K (fY ps 0)) y->fr.length=103->gt fr 0=y->gt fr 3= .pt 0 0->gt fr 5= .sc (.int .i64 (Cv (fY ps 0)))->gt fr 6= .sc (.int .i64 (Bp (fY ps 0)))->h[0]?=some (.row [vr,.ls 1 ([.sc (.string s)]::rl) false,.ls 10 rp false])->G (M Z (fr,h)))(y:AV)(fr:LA)(h:Hp)(hy:fQ K y)(cp:fr.length=103)(g0:gt fr 0=y)(g3:gt fr 3= .pt 0 0)(g5:gt fr 5= .sc (.int .i64 (-1)))(g6:gt fr 6= .sc (.int .i64 (-1)))(h0:h[0]?=some (.row [vr,.ls 1 ([.sc (.string s)]::rl) false,.ls 10 rp false])):G (M (.seq (cL (cT 3 kH)) Z) (fr,h)):=by
 obtain⟨k1,e1⟩:∃k,M=k+2*D+5:=⟨M-2*D-5,by omega⟩;have fpl:=λb(v:V)(h1:kj v<=D)(h2:oK v)h=>Tl k1 D v h1 h2 b h
 rw[<-e1]at fpl;have fa:=λb(K:List Pr)y p h hy hl gK gp=>HX D M b K y p h hy hl gK gp hM
 clear e1 hM;simp[kH,cT,cR,cL,f106];generalize cU:M (.loop _) _=XX;refine gk cU
  (λi st cD=>st.length=103/\gt st 3= .pt 0 0/\gt st 5= .sc (.int .i64 (Cv (fY (ps.take i) 0)))/\gt st 6= .sc (.int .i64 (Bp (fY (ps.take i) 0)))/\gt st 7=i/\cD[0]?=some (.row [vr,.ls 1 ([.sc (.string s)]::rl) false,.ls 10 rp false])/\fQ (uY s ps K (fY (ps.take i) 0)) (gt st 0))
  (λo st cD=>o= .exit 0/\st.length=103/\gt st 3= .pt 0 0/\gt st 5= .sc (.int .i64 (Cv (fY ps 0)))/\gt st 6= .sc (.int .i64 (Bp (fY ps 0)))/\cD[0]?=some (.row [vr,.ls 1 ([.sc (.string s)]::rl) false,.ls 10 rp false])/\fQ (uY s ps K (fY ps 0)) (gt st 0))
  ps.length (by simp;omega) ⟨by simp[cp],by simp[g3],by simp[g5,fY,Cv],by simp[g6,fY,Bp],by simp[cp],h0,by simp[g0,fY,uY];exact hy⟩ ?_ ?_
 .clear cU XX hy cp g0 g3 g5 g6 y hZ h0;rintro i fr hp cP ⟨cp,g3,g5,g6,g7,h0,hy⟩;have tU:=dh h0;generalize g0:gt fr 0=y at hy;have q3:=akN hy.np
  have q2:=akO hy.np
  rcases dY hg cP with⟨x,hi,hx,hr,cC⟩|rfl
  .have fH:i<=10^15:=by omega
   have Oo:fY (ps.take (i+1)) 0=match fY (ps.take i) 0 with|some j=>some j|none=>if NA x=true then some i else none:=by
    rw[jX hx,yj,List.length_take_of_le (by omega),Xk];rfl
   have ry:=Tr x (Zi hx);have hpp:∀b h,cu cx M b 164 [.ag (enc x.e.v)] h=some (.sc (.bool (mP x.e.v)),h):=λb h=>by
    obtain⟨key,op,v,nm,ds,ks⟩:=x;rw[ke]at ry;exact fpl b v ry.1.1 (Ad ry.1.2) h
   have JH:kj x.e.v<=D/\oK x.e.v:=by
    obtain⟨key,op,v,nm,ds,ks⟩:=x;rw[ke]at ry;exact⟨ry.1.1,Ad ry.1.2⟩
   have Pz:uY s ps K (some i)=cQ K ⟨4,s,x.key,x.e.v⟩:=tu hx;have ae:=λb y h hy=>fa b K y ⟨4,s,x.key,x.e.v⟩ h hy (by omega) gK JH
   have heP:eQ ⟨4,s,x.key,x.e.v⟩= .sc (.int .i64 4):: .sc (.string s):: .sc (.string x.key)::enc x.e.v:=rfl;rw[heP]at ae;have aiL:NA x=(decide (x.e.op=1) && mP x.e.v):=rfl;have po:eF x= .sc (.string x.key):: .sc (.int .i64 x.e.op)::(enc x.e.v++(eF x).drop 7):=by
    obtain⟨key,op,v,nm,ds,ks⟩:=x;have hv:=jN v;simp only[eF,cM,Ep.op,Ep.v];simp[hv]
   have Cf:(eF x).length=10:=by unfold eF;simp[cB]
   generalize(eF x).drop 7=R at po;rw[po]at hr cC Cf;have hv:=jN x.e.v;obtain⟨a1,a2,a3,a4,a5,he⟩:∃a1 a2 a3 a4 a5,enc x.e.v=[a1,a2,a3,a4,a5]:=by
    match enc x.e.v,hv with
    | [a1,a2,a3,a4,a5],_=>exact⟨_,_,_,_,_,rfl⟩
   rw[he]at hr cC Cf hpp ae;obtain⟨b1,b2,b3,rfl⟩:∃b1 b2 b3,R=[b1,b2,b3]:=by
    simp at Cf
    match R,Cf with
    | [b1,b2,b3],_=>exact⟨_,_,_,rfl⟩
   clear he hv Cf po heP ry JH fpl fa;generalize mP x.e.v=pl,x.e.op=op,x.key=key at *;have g4:=λb=>cJ (h:=hp) (k:=[b]) h0
   have NG:=λb=>dh (g4 b)
   cases ho:fY (ps.take i) 0 with
   |some j=>
    rw[ho]at Oo g5 g6 hy;simp only at Oo;rw[xI]at g5;rw[xK]at g6;have hj:¬(j:Int)<0:=by omega
    have hf:=cz fH;simp[cF,cp,g0,g3,g5,g6,g7,h0,NG,hi,hq,cC,hj,Oo,xI,xK,hf];exact hy
   |
    none=>
    rw[ho]at Oo g5 g6 hy;simp only at Oo;rw[xH]at g5;rw[xJ]at g6;rw[p9]at hy;have af:=λb h=>ae b y h hy
    rw[aiL]at Oo;have hf:=cz fH;by_cases dq:op=1
    .subst dq;cases pl
     .simp only[decide_true,Bool.and_false,Yl,if_false]at Oo;simp[cF,cp,g0,g3,g5,g6,g7,h0,NG,hi,hq,cC,hpp,Oo,xH,xJ,p9,hf];exact hy
     .simp only[decide_true,Bool.and_true,if_true]at Oo;simp[cF,cp,g0,g3,g6,g7,h0,NG,hi,hq,cC,hpp,af,Oo,xI,xK,Pz,hf,q2];exact fQ.ls _
    .have:decide (op=1)=false:=by simp[dq]
     rw[this]at Oo;simp only[Bool.false_and,Yl,if_false]at Oo;clear this;simp[cF,cp,g0,g3,g5,g6,g7,h0,NG,hi,hq,cC,dq,Oo,xH,xJ,p9,hf];exact hy
  .rw[Xq]at g5 g6 hy;simp[cp,g0,g3,g5,g6,g7,h0,hq];exact hy
 .rintro o cG h' rfl ⟨rfl,cp,g3,g5,g6,h0,hy⟩;simp;exact hZ _ cG h' hy cp rfl g3 g5 g6 h0
def XT(M:Nat)(ps:List Pp)(rp:List LA)(hq:rp.length=ps.length)(hg:∀i:Nat,rp[i]?=(ps[i]?).map eF)(PE:ps.length<=10^8)(vr:ByteArray)(Z:Code)(G:Option (Out × St)->Prop)(y:AV)(hyp:∀v,y≠ .pn v)(hZ:∀fr h,fr.length=103->gt fr 0=y->gt fr 3= .pt 0 0->gt fr 5= .sc (.int .i64 (-1))->gt fr 6= .sc (.int .i64 (-1))->h[0]?=some (.row [vr,.ls 1 [] false,.ls 10 rp false])->G (M Z (fr,h)))(fr:LA)(h:Hp)(cp:fr.length=103)(g0:gt fr 0=y)(g3:gt fr 3= .pt 0 0)(g5:gt fr 5= .sc (.int .i64 (-1)))(g6:gt fr 6= .sc (.int .i64 (-1)))(h0:h[0]?=some (.row [vr,.ls 1 [] false,.ls 10 rp false])):G (M (.seq (cL (cT 3 kH)) Z) (fr,h)):=by
 simp[kH,cT,cR,cL,f106];generalize cU:M (.loop _) _=XX;refine gk cU
  (λi st cD=>st.length=103/\gt st 0=y/\gt st 3= .pt 0 0/\gt st 5= .sc (.int .i64 (-1))/\gt st 6= .sc (.int .i64 (-1))/\gt st 7=i/\cD[0]?=some (.row [vr,.ls 1 [] false,.ls 10 rp false]))
  (λo st cD=>o= .exit 0/\st.length=103/\gt st 0=y/\gt st 3= .pt 0 0/\gt st 5= .sc (.int .i64 (-1))/\gt st 6= .sc (.int .i64 (-1))/\cD[0]?=some (.row [vr,.ls 1 [] false,.ls 10 rp false]))
  ps.length (by simp;omega) ⟨by simp[cp],by simp[g0],by simp[g3],by simp[g5],by simp[g6],by simp[cp],h0⟩ ?_ ?_
 .clear cU XX cp g0 g3 g5 g6 hZ h0;rintro i fr hp cP ⟨cp,g0,g3,g5,g6,g7,h0⟩;have tU:=dh h0;have q3:=akN hyp
  rcases dY hg cP with⟨x,hi,hx,hr,cC⟩|rfl
  .have fH:i<=10^15:=by omega
   have dH:=cB x.e;unfold eF at hr cC;generalize cM x.e=ev at hr cC dH;have mZ:=rW dH;have g4:=λb=>cJ (h:=hp) (k:=[b]) h0
   have NG:=λb=>dh (g4 b)
   have dJ:ev.take 9=ev:=Yy (by omega);have hf:=cz fH;simp[cp,g0,g3,g5,g6,g7,h0,NG,hi,hq,cC,dH,dJ,mZ,hf]
  .simp[cp,g0,g3,g5,g6,g7,h0,hq]
 .rintro o cG h' rfl ⟨rfl,cp,g0,g3,g5,g6,h0⟩;simp;exact hZ cG h' cp g0 g3 g5 g6 h0
def Ts(D n:Nat)(hD:1<=D)(t:Bool)(x:Np)(K:List Pr)(y:AV)(h:Hp)(hy:fQ K y)(gK:gP D K)(h1:x.labels.length<=10^8)(h2:x.props.length<=10^8)(hb:∀q∈x.props,ke D q.e)(hl:K.length+1+x.labels.length+x.props.length<=10^8)(hn:3*D+12<=n):cu cx n t 106 [y,.ag (dD x)] h=some (.ls 8 (gN ((FM x).foldl cQ K)) false,h):=by
 obtain⟨M,rfl⟩:∃m,n=m+1:=⟨n-1,by omega⟩;refine XQ f106 [.tmp 4] (by rw[Zn,hy.calm];rfl) ?_ t h;have hM:3*D+9<=M:=by omega
 obtain⟨vr,ls,ps⟩:=x;simp only at h1 h2 hb hl;show∃r h',dT [.tmp 4] (M kH ([y,.ag (dD ⟨vr,ls,ps⟩)]++List.replicate 101 .un,[]))=some (r,h')/\∃r',da h' 8 r=some r'/\wZ 8 r'=_;change RP 4 _ _;unfold dD;simp only;rw[show kH= .seq (cL (cT 0 kH)) (.seq (cL (cT 1 kH)) (.seq (cL (cT 2 kH)) (.seq (cL (cT 3 kH)) (.seq (cL (cT 4 kH)) (cT 5 kH))))) by kernel_rfl];have q3:=akN hy.np
 have CX:=dP ps;have QM:=jf ps;have RD:∀K:List Pr,gP D (oB ls):=λ_=>qL hD 2 (λs=>s) ls
 cases ls with
 |
  nil=>
  rw[show eE ([]:List ByteArray)=[]from rfl];have eN:FM ⟨vr,[],ps⟩=[ij 1 mI]++(oB []++rF ps):=rfl;rw[eN,Xu,Xu];generalize jw ps=rp at *;have ae:=jh D M true K y 1 ⟨#[]⟩ [.row [vr,.ls 1 [] false,.ls 10 rp false]] hy (by omega) gK hD hM;have gK1:gP D (cQ K (ij 1 ⟨#[]⟩)):=fS (l:=[ij 1 ⟨#[]⟩]) (jk hD 1 ⟨#[]⟩) gK;have wN:=lU K (ij 1 ⟨#[]⟩);simp only[Yi,Xr,oB,Xm,mI];have BO:∀y fr h,fQ (cQ K (ij 1 ⟨#[]⟩)) y->gP D (cQ K (ij 1 ⟨#[]⟩))->(cQ K (ij 1 ⟨#[]⟩)).length+ps.length<=10^8->fr.length=103->gt fr 0=y->gt fr 3= .pt 0 0->gt fr 6= .sc (.int .i64 (-1))->h[0]?=some (.row [vr,.ls 1 [] false,.ls 10 rp false])->RP 4 ((rF ps).foldl cQ (cQ K (ij 1 ⟨#[]⟩))) (M (cT 5 kH) (fr,h)):=
   λy fr h a1 a2 a3 a4 a5 a6 a7 a8=>Tq D M hD hM ps rp _ rfl rfl CX QM h2 none (-1) (λi e=>by cases e) (λi _=>by omega) _ _ y fr h a1 a2 a3 (by rw[wB]) a4 a5 a6 a7 a8
  generalize cT 5 kH=Z5 at BO|-;have xb:∀y fr h,fQ (cQ K (ij 1 ⟨#[]⟩)) y->fr.length=103->gt fr 0=y->gt fr 3= .pt 0 0->gt fr 5= .sc (.int .i64 (-1))->gt fr 6= .sc (.int .i64 (-1))->h[0]?=some (.row [vr,.ls 1 [] false,.ls 10 rp false])->RP 4 ((rF ps).foldl cQ (cQ K (ij 1 ⟨#[]⟩))) (M (.seq (cL (cT 4 kH)) Z5) (fr,h)):=
   λy fr h a1 a2 a3 a4 a5 a6 a7=>Tm D M hD hM [] [] [vr,.ls 1 [] false,.ls 10 rp false] rfl rfl rfl (λi=>by simp) (by simp) none (-1) (λi e=>by cases e) (λi _=>by omega) (-1) ps.length Z5 _ _ BO _ y fr h a1 gK1 (by simp at hl|-;omega) rfl a2 a3 a4 a5 a6 a7
  generalize Code.seq (cL (cT 4 kH)) Z5=Z4 at xb|-;have tJ:=λy hy fr h a1 a2 a3 a4 a5 a6=>XT M ps rp CX QM h2 vr Z4 (RP 4 ((rF ps).foldl cQ (cQ K (ij 1 ⟨#[]⟩)))) y (fQ.np hy) (λfr h=>xb y fr h hy) fr h a1 a2 a3 a4 a5 a6
  generalize Code.seq (cL (cT 3 kH)) Z4=Z3 at tJ|-;simp[cF,kH,cT,cR,cL,f106,q3,ae];exact tJ _ (fQ.ls _) _ _ (by simp) (by simp) (by simp) (by simp) (by simp) rfl
 |cons s rl=>
  have Aq:=cI rl;have hrs:eE (s::rl)=[.sc (.string s)]::eE rl:=rfl;have hgs:=iW (s::rl);have hqs:=cI (s::rl);rw[hrs]at hgs hqs|-;have eN:FM ⟨vr,s::rl,ps⟩=match fY ps 0 with|none=>oB (s::rl)++rF ps|some j=>match ps[j]? with|some q=> [⟨4,s,q.key,q.e.v⟩]++(oB rl++rF (ps.take j++ps.drop (j+1)))|none=> []:=by
   unfold FM;rw[cv (by simp)];cases fY ps 0 with
   |none=>rfl
   |some j=>simp only;cases ps[j]?<;>rfl
  generalize eE rl=rt,jw ps=rp at *;have hl3:K.length+1<=100000000:=by omega
  have hrt:rt.length<=10^9:=by rw[Aq];simp at h1;omega
  have main:∀(o o5:Option Nat)(T:List Pr),fY ps 0=o->(o=none->o5=none)->(∀j,o=some j->o5=some 0)->(rF (zu o ps 0)).foldl cQ ((oB (zu o5 (s::rl) 0)).foldl cQ (uY s ps K o))=T->gP D (uY s ps K o)->(uY s ps K o).length<=K.length+1->RP 4 T (M (.seq (cL (cT 0 kH)) (.seq (cL (cT 1 kH)) (.seq (cL (cT 2 kH)) (.seq (cL (cT 3 kH)) (.seq (cL (cT 4 kH)) (cT 5 kH)))))) ([y,.ag [vr,.ls 1 ([.sc (.string s)]::rt) false,.ls 10 rp false]]++List.replicate 101 .un,[])):=by
   intro o o5 T ho hon hos hT gP0 ki;have BO:∀y fr h,fQ ((oB (zu o5 (s::rl) 0)).foldl cQ (uY s ps K o)) y->gP D ((oB (zu o5 (s::rl) 0)).foldl cQ (uY s ps K o))->((oB (zu o5 (s::rl) 0)).foldl cQ (uY s ps K o)).length+ps.length<=10^8->fr.length=103->gt fr 0=y->gt fr 3= .pt 0 0->gt fr 6= .sc (.int .i64 (Bp o))->h[0]?=some (.row [vr,.ls 1 ([.sc (.string s)]::rt) false,.ls 10 rp false])->RP 4 T (M (cT 5 kH) (fr,h)):=
    λy fr h a1 a2 a3 a4 a5 a6 a7 a8=>Tq D M hD hM ps rp _ rfl rfl CX QM h2 o (Bp o) (λi e=>by rw[e];rfl) (λi e=>by cases o with|none=>(show¬((i:Int)= -1);omega)|some j=>simp only[Bp];intro q;apply e;congr 1;omega) _ _ y fr h a1 a2 a3 hT a4 a5 a6 a7 a8
   generalize cT 5 kH=Z5 at BO|-;have xb:∀y fr h,fQ (uY s ps K o) y->fr.length=103->gt fr 0=y->gt fr 3= .pt 0 0->gt fr 5= .sc (.int .i64 (Cv o))->gt fr 6= .sc (.int .i64 (Bp o))->h[0]?=some (.row [vr,.ls 1 ([.sc (.string s)]::rt) false,.ls 10 rp false])->RP 4 T (M (.seq (cL (cT 4 kH)) Z5) (fr,h)):=
    λy fr h a1 a2 a3 a4 a5 a6 a7=>Tm D M hD hM (s::rl) _ [vr,.ls 1 ([.sc (.string s)]::rt) false,.ls 10 rp false] rfl rfl hqs hgs h1 o5 (Cv o) (λi e=>by
     cases o with
     |none=>rw[hon rfl]at e;cases e
     |some j=>rw[hos j rfl]at e;cases e;rfl) (λi e=>by
     cases o with
     |none=>simp only[Cv];omega
     |some j=>simp only[Cv];intro q;apply e;rw[hos j rfl];congr 1;omega) (Bp o) ps.length Z5 _ _ BO _ y fr h a1 gP0 (by simp at hl|-;omega) rfl a2 a3 a4 a5 a6 a7
   generalize Code.seq (cL (cT 4 kH)) Z5=Z4 at xb|-;rw[<-ho]at xb;have tJ:=λfr h a1 a2 a3 a4 a5 a6=>abV D M hD hM s rt hrt ps rp CX QM h2 hb vr Z4 (RP 4 T) K gK hl3 xb y fr h hy a1 a2 a3 a4 a5 a6
   generalize Code.seq (cL (cT 3 kH)) Z4=Z3 at tJ|-;clear xb BO hT;simp[kH,cT,cR,cL,f106];exact tJ _ _ (by simp) (by simp) (by simp) (by simp) (by simp) rfl
  rw[eN];cases ho:fY ps 0 with
  |none=>exact main none none _ ho (λ_=>rfl) (λj e=>by cases e) (by rw[wB,wB,p9,<-Xu]) gK (by rw[p9];omega)
  |some j=>
   obtain⟨_,q,hj,_⟩:=sf ps 0 j ho;rw[Nat.sub_zero]at hj;simp only[hj];have hbq:=hb q (Zi hj);have JH:kj q.e.v<=D/\oK q.e.v:=by
    obtain⟨key,op,v,nm,ds,ks⟩:=q;rw[ke]at hbq;exact⟨hbq.1.1,Ad hbq.1.2⟩
   refine main (some j) (some 0) _ ho (λe=>by cases e) (λ_ _=>rfl) ?_ ?_ ?_
   .rw[tu hj,Xu,Xu,Yi,Xr];have e1:=HY j ps 0;rw[Xk]at e1;rw[e1,zu,cw rfl,Bo _ _ _ (by omega)]
   .rw[tu hj];exact fS (l:=[⟨4,s,q.key,q.e.v⟩]) (λp hp=>by rw[List.mem_singleton.1 hp];exact JH) gK
   .rw[tu hj];exact lU _ _
def abW{D d:Nat}(hD:1<=D)(kd:Int)(S:gM)(x:Np)(hb:brN D d x):gP D (qK kd S x):=λp hp=>
 vY hD kd S ⟨⟨#[]⟩,[x],[]⟩ (d:=d) ⟨λy hy=>by rw[List.mem_singleton.1 hy];exact hb,λy hy=>by(cases hy),by simp⟩ p (by simp[ml];exact hp)
def abX{D d:Nat}(hD:1<=D)(kd:Int)(S:gM)(x:Gp)(hb:brG D d x):gP D (si kd x):=λp hp=>
 vY hD kd S ⟨⟨#[]⟩,[],[x]⟩ (d:=d) ⟨λy hy=>by(cases hy),λy hy=>by rw[List.mem_singleton.1 hy];exact hb,by simp⟩ p (by simp[ml];exact hp)
noncomputable def yT :Code:=(f52.body).getD .skip
def abY(D d M:Nat)(hD:1<=D)(hM:3*D+d+20<=M)(S:gM)(z:AV)(hz:Tj S z)(kd:Int)(w:Bool)(hw:w=decide (kd=5))(l:List Np)(rn re:List LA)(vr:ByteArray)(hq:rn.length=l.length)(hg:∀i:Nat,rn[i]?=(l[i]?).map dD)(qg:l.length<=10^8)(hb:∀x∈l,brN D d x)(Z:Code)(G:Option (Out × St)->Prop)(T:List Pr)(m:Nat)(hZ:∀y fr h,fQ T y->gP D T->T.length+m<=100000000->fr.length=71->gt fr 0=y->gt fr 2= .sc (.bool w)->gt fr 3=z->gt fr 5= .pt 0 0->h[0]?=some (.row [vr,.ls 3 rn false,.ls 7 re false])->G (M Z (fr,h)))(K:List Pr)(y:AV)(fr:LA)(h:Hp)(hy:fQ K y)(gK:gP D K)(hl:K.length+(l.map ue).sum+m<=100000000)(hT:(l.flatMap (qK kd S)).foldl cQ K=T)(cp:fr.length=71)(g0:gt fr 0=y)(g2:gt fr 2=w)(g3:gt fr 3=z)(g5:gt fr 5= .pt 0 0)(h0:h[0]?=some (.row [vr,.ls 3 rn false,.ls 7 re false])):G (M (.seq (cL (cT 1 yT)) Z) (fr,h)):=by
 obtain⟨k1,e1⟩:∃k,M=k+1:=⟨M-1,by omega⟩;have fk:=λb s h=>hz.kd k1 b s h
 rw[<-e1]at fk;have Fb:=hz.np;have fp:=λb(x:Np)(hx:brN D d x)K y h hy gK hl=>DB D d M hD b x.props K y h hx.1 (by have:=hx.2.2;omega) hy gK hl (by omega)
 have fn:=λb(x:Np)(hx:brN D d x)K y h hy gK hl=>Ts D M hD b x K y h hy gK hx.2.1 hx.2.2 (λq hq=>(hx.1 q hq).2) hl (by omega)
 have fa:=λb(K:List Pr)y k nm h hy hl gK=>jh D M b K y k nm h hy hl gK hD (by omega)
 clear e1 hM hz;simp[yT,cT,cR,cL,f52];generalize cU:M (.loop _) _=XX;refine gk cU
  (λi st cD=>st.length=71/\gt st 2=w/\gt st 3=z/\gt st 5= .pt 0 0/\gt st 9=i/\cD[0]?=some (.row [vr,.ls 3 rn false,.ls 7 re false])/\∃K',fQ K' (gt st 0)/\gP D K'/\K'.length+((l.drop i).map ue).sum+m<=100000000/\((l.drop i).flatMap (qK kd S)).foldl cQ K'=T)
  (λo st cD=>o= .exit 0/\st.length=71/\gt st 2=w/\gt st 3=z/\gt st 5= .pt 0 0/\cD[0]?=some (.row [vr,.ls 3 rn false,.ls 7 re false])/\fQ T (gt st 0)/\gP D T/\T.length+m<=100000000)
  l.length (by simp;omega) ⟨by simp[cp],by simp[g2],by simp[g3],by simp[g5],by simp[cp],h0,K,by simp[g0];exact hy,gK,hl,hT⟩ ?_ ?_
 .clear cU XX hT hy gK hl cp g0 g2 g3 g5 K y hZ h0;rintro i fr hp cP ⟨cp,g2,g3,g5,g9,h0,K,hy,gK,hl,hT⟩;have tU:=dh h0;generalize g0:gt fr 0=y at hy;have q3:=akN hy.np
  have q4:=akN Fb
  rcases dY hg cP with⟨x,hi,hx,hr,cC⟩|rfl
  .have fH:i<=10^15:=by omega
   have ry:=hb x (Zi hx);have HZ:=AW kd S x;have uZ:=fV (qK kd S x) K;have rL:gP D ((qK kd S x).foldl cQ K):=fS (abW hD kd S x ry) gK;rw[cH hx,Yn,Yo]at hl;rw[cH hx,Ym,Xu]at hT;have iF:((qK kd S x).foldl cQ K).length+((l.drop (i+1)).map ue).sum+m<=100000000:=by omega
   have U2:ue x=1+x.labels.length+x.props.length+2*nj x.props:=rfl;have ae:=λb h=>fp b x ry K y h hy gK (by omega)
   have gK1:gP D ((tL x.props).foldl cQ K):=fS (LM hD x.props) gK;have wN:((tL x.props).foldl cQ K).length<=K.length+2*nj x.props:=by have h1:=fV (tL x.props) K;have h2:=td x.props;omega
   have af:=λb h=>fn b x ry _ _ h (fQ.ls ((tL x.props).foldl cQ K)) gK1 (by omega)
   have ah:=λb h=>fa b _ _ 1 ⟨#[]⟩ h (fQ.ls ((tL x.props).foldl cQ K)) (by omega) gK1
   have ai:=λb h=>fk b x.var h
   have hQ:(qK kd S x).foldl cQ K=(if kd=5 then(if dn x.var ⟨#[]⟩=true then[]else if db S x.var=0 then[]else[ij 1 mI])else FM x).foldl cQ ((tL x.props).foldl cQ K):=by unfold qK;rw[Xu]
   rw[hQ]at hT iF rL;clear hQ HZ uZ U2 wN gK1 hl fp fn fa fk ry;generalize(tL x.props).foldl cQ K=K1 at *;unfold dD at hr cC af;generalize eE x.labels=rt,jw x.props=rp,x.var=v,FM x=nx at *;generalize db S v=kk at *;have g4:=λb=>cJ (h:=hp) (k:=[b]) h0
   have NG:=λb=>dh (g4 b)
   have hf:=cz fH;by_cases XU:kd=5
   .rw[cw XU]at hT iF rL;have BU:w=true:=by rw[hw];simp[XU]
    subst BU;by_cases hv:dn v ⟨#[]⟩=true
    .rw[cw hv,Xr]at hT iF rL;simp[cF,cp,g0,g2,g3,g5,g9,h0,NG,hi,hq,cC,ae,hv,hf,q3];exact⟨_,fQ.ls _,rL,by simpa using iF,by simpa using hT⟩
    .rw[cv hv]at hT iF rL;by_cases Mf:kk=0
     .rw[cw Mf,Xr]at hT iF rL;subst Mf;simp[cF,cp,g0,g2,g3,g5,g9,h0,NG,hi,hq,cC,ae,ai,hv,hf,q3,q4];exact⟨_,fQ.ls _,rL,by simpa using iF,by simpa using hT⟩
     .rw[cv Mf,Yi,Xr]at hT iF rL;unfold mI at hT iF rL;simp[cF,cp,g0,g2,g3,g5,g9,h0,NG,hi,hq,cC,ae,ah,ai,hv,Mf,hf,q3,q4];exact⟨_,fQ.ls _,rL,by simpa using iF,by simpa using hT⟩
   .rw[cv XU]at hT iF rL;have BU:w=false:=by rw[hw];simp[XU]
    subst BU;simp[cF,cp,g0,g2,g3,g5,g9,h0,NG,hi,hq,cC,ae,af,hf,q3];exact⟨_,fQ.ls _,rL,by simpa using iF,by simpa using hT⟩
  .rw[Yc,Xo,Xr]at hT;subst hT;have q9:K.length+m<=100000000:=by omega
   simp[cp,g0,g2,g3,g5,g9,h0,hq];exact⟨hy,gK,q9⟩
 .rintro o cG h' rfl ⟨rfl,cp,g2,g3,g5,h0,hy,gT,hl⟩;simp;exact hZ _ cG h' hy gT hl cp rfl g2 g3 g5 h0
def abZ(D d M:Nat)(hD:1<=D)(hM:3*D+d+20<=M)(S:gM)(kd:Int)(w:Bool)(hw:w=decide (kd=5))(l:List Gp)(rn re:List LA)(vr:ByteArray)(hq:re.length=l.length)(hg:∀i:Nat,re[i]?=(l[i]?).map dE)(qg:l.length<=10^8)(hb:∀x∈l,brG D d x)(T:List Pr)(K:List Pr)(y:AV)(fr:LA)(h:Hp)(hy:fQ K y)(gK:gP D K)(hl:K.length+(l.map vX).sum<=100000000)(hT:(l.flatMap (si kd)).foldl cQ K=T)(cp:fr.length=71)(g0:gt fr 0=y)(g2:gt fr 2=w)(g5:gt fr 5= .pt 0 0)(h0:h[0]?=some (.row [vr,.ls 3 rn false,.ls 7 re false])):RP 8 T (M (cT 2 yT) (fr,h)):=by
 have fp:=λb(x:Gp)(hx:brG D d x)K y h hy gK hl=>DB D d M hD b x.props K y h hx.1 (by have:=hx.2.2;omega) hy gK hl (by omega)
 have fe:=λb(x:Gp)(hx:brG D d x)K y h hy gK hl=>Tk D M hD b x K y h hy gK hx.2.1 hx.2.2 hl (by omega)
 clear hM;simp[yT,cT,cR,f52];generalize cU:M (.loop _) _=XX;refine gk cU
  (λi st cD=>st.length=71/\gt st 2=w/\gt st 5= .pt 0 0/\gt st 11=i/\cD=h/\∃K',fQ K' (gt st 0)/\gP D K'/\K'.length+((l.drop i).map vX).sum<=100000000/\((l.drop i).flatMap (si kd)).foldl cQ K'=T)
  (λo st _=>o= .exit 2/\st.length=71/\fQ T (gt st 0))
  l.length (by simp;omega) ⟨by simp[cp],by simp[g2],by simp[g5],by simp[cp],rfl,K,by simp[g0];exact hy,gK,hl,hT⟩ ?_ ?_
 .clear cU XX hT hy gK hl cp g0 g2 g5 K y;rintro i fr hp cP ⟨cp,g2,g5,g11,hh,K,hy,gK,hl,hT⟩;subst hh;have tU:=dh h0;generalize g0:gt fr 0=y at hy;have q3:=akN hy.np
  rcases dY hg cP with⟨x,hi,hx,hr,cC⟩|rfl
  .have fH:i<=10^15:=by omega
   have ry:=hb x (Zi hx);have HZ:=Hh kd x;have uZ:=fV (si kd x) K;have rL:gP D ((si kd x).foldl cQ K):=fS (abX hD kd S x ry) gK;rw[cH hx,Yn,Yo]at hl;rw[cH hx,Ym,Xu]at hT;have iF:((si kd x).foldl cQ K).length+((l.drop (i+1)).map vX).sum<=100000000:=by omega
   have U2:vX x=1+x.types.length+x.props.length+2*nj x.props:=rfl;have ae:=λb h=>fp b x ry K y h hy gK (by omega)
   have gK1:gP D ((tL x.props).foldl cQ K):=fS (LM hD x.props) gK;have wN:((tL x.props).foldl cQ K).length<=K.length+2*nj x.props:=by have h1:=fV (tL x.props) K;have h2:=td x.props;omega
   have af:=λb h=>fe b x ry _ _ h (fQ.ls ((tL x.props).foldl cQ K)) gK1 (by omega)
   have hQ:(si kd x).foldl cQ K=(if kd=5 then[]else vU x).foldl cQ ((tL x.props).foldl cQ K):=by unfold si;rw[Xu]
   rw[hQ]at hT iF rL;clear hQ HZ uZ U2 wN gK1 hl fp fe ry;generalize(tL x.props).foldl cQ K=K1 at *;unfold dE at hr cC af;generalize eE x.types=rt,jw x.props=rp,vU x=nx at *;have hf:=cz fH;by_cases XU:kd=5
   .rw[cw XU,Xr]at hT iF rL;have BU:w=true:=by rw[hw];simp[XU]
    subst BU;simp[cp,g0,g2,g5,g11,h0,hi,hq,cC,ae,hf,q3];exact⟨_,fQ.ls _,rL,by simpa using iF,by simpa using hT⟩
   .rw[cv XU]at hT iF rL;have BU:w=false:=by rw[hw];simp[XU]
    subst BU;simp[cp,g0,g2,g5,g11,h0,hi,hq,cC,ae,af,hf,q3];exact⟨_,fQ.ls _,rL,by simpa using iF,by simpa using hT⟩
  .rw[Yc,Xo,Xr]at hT;subst hT;simp[cp,g0,g5,g11,h0,hq];exact hy
 .rintro o cG h' rfl ⟨rfl,cp,hy⟩;generalize g0:gt cG 0=y at hy;have q3:=akN hy.np
  unfold RP;simp[cp,g0,q3];exact qW (RP.of hy)
def p_(D d n:Nat)(hD:1<=D)(t:Bool)(S:gM)(z:AV)(hz:Tj S z)(kd:Int)(p:Tp)(K:List Pr)(y:AV)(h:Hp)(hb:brT D d p)(hy:fQ K y)(gK:gP D K)(hl:K.length+vm p<=100000000)(hn:3*D+d+21<=n):cu cx n t 52 [y,.ag (dW p),.sc (.bool (decide (kd=5))),z] h=some (.ls 8 (gN ((ml kd S p).foldl cQ K)) false,h):=by
 obtain⟨M,rfl⟩:∃m,n=m+1:=⟨n-1,by omega⟩;refine XQ f52 [.tmp 8] (by rw[Zn,hy.calm,Zn,Zn,Zn,hz.cl];rfl) ?_ t h;show∃r h',dT [.tmp 8] (M yT ([y,.ag (dW p),.sc (.bool (decide (kd=5))),z]++List.replicate 67 .un,[]))=some (r,h')/\∃r',da h' 8 r=some r'/\wZ 8 r'=_;change RP 8 _ _;obtain⟨Py,Li,hb3,hb4⟩:=hb;have hm:vm p=(p.nodes.map ue).sum+(p.cE.map vX).sum:=rfl;rw[hm]at hl;generalize hT:(ml kd S p).foldl cQ K=T;unfold ml at hT;rw[Xu]at hT;rw[show yT= .seq (cL (cT 0 yT)) (.seq (cL (cT 1 yT)) (cT 2 yT)) by kernel_rfl];have st2:=λy fr h a1 a2 a3 a4 a5 a6(a7:gt fr 3=z)a8 a9=>abZ D d M hD (by omega) S kd _ rfl p.cE (gZ p.nodes) (nD p.cE) p.var (fL _) (kW _) hb4 Li T ((p.nodes.flatMap (qK kd S)).foldl cQ K) y fr h a1 a2 a3 hT a4 a5 a6 a8 a9
 generalize cT 2 yT=Z2 at st2|-;have st1:=λfr h a1 a2 a3 a4 a5 a6=>abY D d M hD (by omega) S z hz kd _ rfl p.nodes (gZ p.nodes) (nD p.cE) p.var (fK _) (kV _) hb3 Py Z2 (RP 8 T) _ _ st2 K y fr h hy gK (by omega) rfl a1 a2 a3 a4 a5 a6
 generalize Code.seq (cL (cT 1 yT)) Z2=Z1 at st1|-;clear st2 hT;have q3:=akN hy.np
 have q4:=akN hz.np
 unfold dW;generalize gZ p.nodes=rn,nD p.cE=re,p.var=vr,decide (kd=5)=w at *;simp[yT,cT,cL,f52];exact st1 _ _ (by simp) (by simp) (by simp) (by simp) (by simp) rfl
def akP(S:gM)(x:Sp):List Pr:=IZ (db S x.var)++(ja x.e++(if dn x.label mI=true then[]else[ij 2 x.label]))
def xL(S:gM)(nm:ByteArray):List Pr:=IZ (db S nm)
def zw(k:Int):(IZ k).length=1:=by unfold IZ;split<;>rfl
def Fc{D:Nat}(hD:1<=D)(k:Int):gP D (IZ k):=by
 unfold IZ;split
 .exact jk hD 1 mI
 .exact jk hD 5 mI
def H0(S:gM)(x:Sp):(akP S x).length<=2*dc x.e+2:=by
 unfold akP;have h1:=zw (db S x.var);have h2:=fF x.e;rw[Zu,Zu];split<;>simp<;>omega
def Mk{D:Nat}(hD:1<=D)(S:gM)(x:Sp):gP D (akP S x):=by
 unfold akP;refine fR (Fc hD _) (fR (lQ hD x.e) ?_);split
 .exact j4 D
 .exact jk hD 2 x.label
noncomputable def jW :Code:=(f23.body).getD .skip
def mM(z:AV)(row:LA)(fr:LA)(h:Hp):Prop:=fr.length=134/\gt fr 2=z/\gt fr 4= .pt 0 0/\h[0]?=some (.row row)
def ab0(D d M:Nat)(hD:1<=D)(hM:3*D+d+30<=M)(S:gM)(z:AV)(hz:Tj S z)(kd:Int)(l:List Tp)(cq:List LA)(row:LA)(lj:row.length=21)(tY:row[0]?=some (.sc (.int .i64 kd)))(cY:row[3]?=some (.ls 3 cq false))(hq:cq.length=l.length)(hg:∀i:Nat,cq[i]?=(l[i]?).map dW)(qg:l.length<=10^9)(hb:∀x∈l,brT D d x)(Z:Code)(G:Option (Out × St)->Prop)(T:List Pr)(m:Nat)(hZ:∀y fr h,fQ T y->gP D T->T.length+m<=100000000->mM z row fr h->gt fr 0=y->G (M Z (fr,h)))(K:List Pr)(y:AV)(fr:LA)(h:Hp)(hy:fQ K y)(gK:gP D K)(hl:K.length+(l.map vm).sum+m<=100000000)(hT:(l.flatMap (ml kd S)).foldl cQ K=T)(hS:mM z row fr h)(g0:gt fr 0=y):G (M (.seq (cL (cT 1 jW)) Z) (fr,h)):=by
 obtain⟨k0,e0⟩:∃k,M=k+d+1:=⟨M-d-1,by omega⟩;have fx:=λb(K:List Pr)y(e:Ep)h(he:oz D d e)hy gK hl=>mL D hD d e he.1 he.2 k0 b K y h hy gK hl (by omega)
 rw[<-e0]at fx;have fa:=λb(K:List Pr)y k nm h hy hl gK=>jh D M b K y k nm h hy hl gK hD (by omega)
 have xn:=λb(K:List Pr)y s h hy gK hl=>lC D M hD b S z s K y h hz hy gK hl (by omega)
 have fp:=λb(K:List Pr)y(p:Tp)h hb hy gK hl=>p_ D d M hD b S z hz kd p K y h hb hy gK hl (by omega)
 have Fb:=hz.np;clear e0 hM hz;have di:=iY cY;have sL:=iY tY;obtain⟨cp,g2,g4,h0⟩:=hS;simp[jW,cT,cR,cL,f23];generalize cU:M (.loop _) _=XX;refine gk cU
  (λi st cD=>mM z row st cD/\gt st 7=i/\∃K',fQ K' (gt st 0)/\gP D K'/\K'.length+((l.drop i).map vm).sum+m<=100000000/\((l.drop i).flatMap (ml kd S)).foldl cQ K'=T)
  (λo st cD=>o= .exit 0/\mM z row st cD/\fQ T (gt st 0)/\gP D T/\T.length+m<=100000000)
  l.length (by simp;omega) ⟨⟨by simp[cp],by simp[g2],by simp[g4],h0⟩,by simp[cp],K,by simp[g0];exact hy,gK,hl,hT⟩ ?_ ?_
 .clear cU XX hT hy gK hl cp g0 g2 g4 K y hZ h0;rintro i fr hp cP ⟨⟨cp,g2,g4,h0⟩,gi,K,hy,gK,hl,hT⟩;have tU:=dh h0;generalize g0:gt fr 0=y at hy;have q3:=akN hy.np
  have q4:=akN Fb
  have q5:=akO hy.np
  have q6:=akO Fb
  rcases dY hg cP with⟨x,hi,hx,hr,cC⟩|rfl
  .have dB:=Zi hx;have fH:i<=10^15:=by omega
   rw[cH hx,Yn,Yo]at hl;rw[cH hx,Ym,Xu]at hT;have HZ:=sn kd S x;have uZ:=fV (ml kd S x) K;have rL:gP D ((ml kd S x).foldl cQ K):=fS (vY hD kd S x (hb x dB)) gK;have iF:((ml kd S x).foldl cQ K).length+((l.drop (i+1)).map vm).sum+m<=100000000:=by omega
   have ae:=λb h=>fp b K y x h (hb x dB) hy gK (by omega)
   unfold dW at hr cC ae;generalize gZ x.nodes=rn,nD x.cE=re at *;clear HZ uZ fx fa xn fp hl dB;generalize(ml kd S x).foldl cQ K=K2 at *;have hf:=cz fH;simp[cp,g0,g2,g4,gi,h0,lj,sL,di,hi,hq,cC,ae,hf,q5,q6];exact⟨⟨by simp[cp],by simp[g2],by simp[g4],h0⟩,_,fQ.ls _,rL,by simpa only[Xn]using iF,hT⟩
  .rw[Yc,Xo,Xr]at hT;subst hT;have q9:K.length+m<=100000000:=by omega
   simp[cp,g0,g4,gi,h0,lj,di,hq];exact⟨⟨by simp[cp],by simp[g2],by simp[g4],h0⟩,hy,gK,q9⟩
 .rintro o cG h' rfl ⟨rfl,hS,hy,gT,hl⟩;simp;exact hZ _ cG h' hy gT hl hS rfl
def ab1(D d M:Nat)(hD:1<=D)(hM:3*D+d+30<=M)(S:gM)(z:AV)(hz:Tj S z)(kd:Int)(l:List Ep)(cq:List LA)(row:LA)(lj:row.length=21)(tY:row[0]?=some (.sc (.int .i64 kd)))(cY:row[4]?=some (.ls 9 cq false))(hq:cq.length=l.length)(hg:∀i:Nat,cq[i]?=(l[i]?).map cM)(qg:l.length<=10^9)(hb:∀x∈l,oz D d x)(Z:Code)(G:Option (Out × St)->Prop)(T:List Pr)(m:Nat)(hZ:∀y fr h,fQ T y->gP D T->T.length+m<=100000000->mM z row fr h->gt fr 0=y->G (M Z (fr,h)))(K:List Pr)(y:AV)(fr:LA)(h:Hp)(hy:fQ K y)(gK:gP D K)(hl:K.length+(l.map (λx=>2*dc x)).sum+m<=100000000)(hT:(l.flatMap (λx=>ja x)).foldl cQ K=T)(hS:mM z row fr h)(g0:gt fr 0=y):G (M (.seq (cL (cT 2 jW)) Z) (fr,h)):=by
 obtain⟨k0,e0⟩:∃k,M=k+d+1:=⟨M-d-1,by omega⟩;have fx:=λb(K:List Pr)y(e:Ep)h(he:oz D d e)hy gK hl=>mL D hD d e he.1 he.2 k0 b K y h hy gK hl (by omega)
 rw[<-e0]at fx;have fa:=λb(K:List Pr)y k nm h hy hl gK=>jh D M b K y k nm h hy hl gK hD (by omega)
 have xn:=λb(K:List Pr)y s h hy gK hl=>lC D M hD b S z s K y h hz hy gK hl (by omega)
 have fp:=λb(K:List Pr)y(p:Tp)h hb hy gK hl=>p_ D d M hD b S z hz kd p K y h hb hy gK hl (by omega)
 have Fb:=hz.np;clear e0 hM hz;have di:=iY cY;have sL:=iY tY;obtain⟨cp,g2,g4,h0⟩:=hS;simp[jW,cT,cR,cL,f23];generalize cU:M (.loop _) _=XX;refine gk cU
  (λi st cD=>mM z row st cD/\gt st 8=i/\∃K',fQ K' (gt st 0)/\gP D K'/\K'.length+((l.drop i).map (λx=>2*dc x)).sum+m<=100000000/\((l.drop i).flatMap (λx=>ja x)).foldl cQ K'=T)
  (λo st cD=>o= .exit 2/\mM z row st cD/\fQ T (gt st 0)/\gP D T/\T.length+m<=100000000)
  l.length (by simp;omega) ⟨⟨by simp[cp],by simp[g2],by simp[g4],h0⟩,by simp[cp],K,by simp[g0];exact hy,gK,hl,hT⟩ ?_ ?_
 .clear cU XX hT hy gK hl cp g0 g2 g4 K y hZ h0;rintro i fr hp cP ⟨⟨cp,g2,g4,h0⟩,gi,K,hy,gK,hl,hT⟩;have tU:=dh h0;generalize g0:gt fr 0=y at hy;have q3:=akN hy.np
  have q4:=akN Fb
  have q5:=akO hy.np
  have q6:=akO Fb
  rcases dY hg cP with⟨x,hi,hx,hr,cC⟩|rfl
  .have dB:=Zi hx;have fH:i<=10^15:=by omega
   rw[cH hx,Yn,Yo]at hl;rw[cH hx,Ym,Xu]at hT;have HZ:=fF x;have uZ:=fV (ja x) K;have rL:gP D ((ja x).foldl cQ K):=fS (lQ hD x) gK;have iF:((ja x).foldl cQ K).length+((l.drop (i+1)).map (λx=>2*dc x)).sum+m<=100000000:=by omega
   have ae:=λb h=>fx b K y x h (hb x dB) hy gK (by omega)
   have dH:=cB x;generalize cM x=ev at *;have dJ:ev.take 9=ev:=Yy (by omega);clear HZ uZ fx fa xn fp hl dB;generalize(ja x).foldl cQ K=K2 at *;have hf:=cz fH;simp[cp,g0,g4,gi,h0,lj,di,hi,hq,cC,ae,hf,q3,dH,dJ];exact⟨⟨by simp[cp],by simp[g2],by simp[g4],h0⟩,_,fQ.ls _,rL,by simpa only[Xn]using iF,hT⟩
  .rw[Yc,Xo,Xr]at hT;subst hT;have q9:K.length+m<=100000000:=by omega
   simp[cp,g0,g4,gi,h0,lj,di,hq];exact⟨⟨by simp[cp],by simp[g2],by simp[g4],h0⟩,hy,gK,q9⟩
 .rintro o cG h' rfl ⟨rfl,hS,hy,gT,hl⟩;simp;exact hZ _ cG h' hy gT hl hS rfl
def ab2(D d M:Nat)(hD:1<=D)(hM:3*D+d+30<=M)(S:gM)(z:AV)(hz:Tj S z)(kd:Int)(l:List Ip)(cq:List LA)(row:LA)(lj:row.length=21)(tY:row[0]?=some (.sc (.int .i64 kd)))(cY:row[15]?=some (.ls 10 cq false))(hq:cq.length=l.length)(hg:∀i:Nat,cq[i]?=(l[i]?).map jr)(qg:l.length<=10^9)(hb:∀x∈l,oz D d x.e)(Z:Code)(G:Option (Out × St)->Prop)(T:List Pr)(m:Nat)(hZ:∀y fr h,fQ T y->gP D T->T.length+m<=100000000->mM z row fr h->gt fr 0=y->G (M Z (fr,h)))(K:List Pr)(y:AV)(fr:LA)(h:Hp)(hy:fQ K y)(gK:gP D K)(hl:K.length+(l.map (λx=>2*dc x.e)).sum+m<=100000000)(hT:(l.flatMap (λx=>ja x.e)).foldl cQ K=T)(hS:mM z row fr h)(g0:gt fr 0=y):G (M (.seq (cL (cT 4 jW)) Z) (fr,h)):=by
 obtain⟨k0,e0⟩:∃k,M=k+d+1:=⟨M-d-1,by omega⟩;have fx:=λb(K:List Pr)y(e:Ep)h(he:oz D d e)hy gK hl=>mL D hD d e he.1 he.2 k0 b K y h hy gK hl (by omega)
 rw[<-e0]at fx;have fa:=λb(K:List Pr)y k nm h hy hl gK=>jh D M b K y k nm h hy hl gK hD (by omega)
 have xn:=λb(K:List Pr)y s h hy gK hl=>lC D M hD b S z s K y h hz hy gK hl (by omega)
 have fp:=λb(K:List Pr)y(p:Tp)h hb hy gK hl=>p_ D d M hD b S z hz kd p K y h hb hy gK hl (by omega)
 have Fb:=hz.np;clear e0 hM hz;have di:=iY cY;have sL:=iY tY;obtain⟨cp,g2,g4,h0⟩:=hS;simp[jW,cT,cR,cL,f23];generalize cU:M (.loop _) _=XX;refine gk cU
  (λi st cD=>mM z row st cD/\gt st 9=i/\∃K',fQ K' (gt st 0)/\gP D K'/\K'.length+((l.drop i).map (λx=>2*dc x.e)).sum+m<=100000000/\((l.drop i).flatMap (λx=>ja x.e)).foldl cQ K'=T)
  (λo st cD=>o= .exit 4/\mM z row st cD/\fQ T (gt st 0)/\gP D T/\T.length+m<=100000000)
  l.length (by simp;omega) ⟨⟨by simp[cp],by simp[g2],by simp[g4],h0⟩,by simp[cp],K,by simp[g0];exact hy,gK,hl,hT⟩ ?_ ?_
 .clear cU XX hT hy gK hl cp g0 g2 g4 K y hZ h0;rintro i fr hp cP ⟨⟨cp,g2,g4,h0⟩,gi,K,hy,gK,hl,hT⟩;have tU:=dh h0;generalize g0:gt fr 0=y at hy;have q3:=akN hy.np
  have q4:=akN Fb
  have q5:=akO hy.np
  have q6:=akO Fb
  rcases dY hg cP with⟨x,hi,hx,hr,cC⟩|rfl
  .have dB:=Zi hx;have fH:i<=10^15:=by omega
   rw[cH hx,Yn,Yo]at hl;rw[cH hx,Ym,Xu]at hT;have HZ:=fF x.e;have uZ:=fV (ja x.e) K;have rL:gP D ((ja x.e).foldl cQ K):=fS (lQ hD x.e) gK;have iF:((ja x.e).foldl cQ K).length+((l.drop (i+1)).map (λx=>2*dc x.e)).sum+m<=100000000:=by omega
   have ae:=λb h=>fx b K y x.e h (hb x dB) hy gK (by omega)
   obtain⟨b0,b1,b2,b3,b4,b5,b6,b7,b8,gC⟩:=iK x.e;unfold jr at hr cC;rw[gC]at hr ae;simp only[gC]at cC;simp only[Zv,Zw]at hr cC;clear HZ uZ fx fa xn fp hl dB;generalize(ja x.e).foldl cQ K=K2 at *;have hf:=cz fH;simp[cp,g0,g4,gi,h0,lj,di,hi,hq,cC,ae,hf,q3];exact⟨⟨by simp[cp],by simp[g2],by simp[g4],h0⟩,_,fQ.ls _,rL,by simpa only[Xn]using iF,hT⟩
  .rw[Yc,Xo,Xr]at hT;subst hT;have q9:K.length+m<=100000000:=by omega
   simp[cp,g0,g4,gi,h0,lj,di,hq];exact⟨⟨by simp[cp],by simp[g2],by simp[g4],h0⟩,hy,gK,q9⟩
 .rintro o cG h' rfl ⟨rfl,hS,hy,gT,hl⟩;simp;exact hZ _ cG h' hy gT hl hS rfl
def ab3(D d M:Nat)(hD:1<=D)(hM:3*D+d+30<=M)(S:gM)(z:AV)(hz:Tj S z)(kd:Int)(l:List BN)(cq:List LA)(row:LA)(lj:row.length=21)(tY:row[0]?=some (.sc (.int .i64 kd)))(cY:row[16]?=some (.ls 10 cq false))(hq:cq.length=l.length)(hg:∀i:Nat,cq[i]?=(l[i]?).map js)(qg:l.length<=10^9)(hb:∀x∈l,oz D d x.e)(Z:Code)(G:Option (Out × St)->Prop)(T:List Pr)(m:Nat)(hZ:∀y fr h,fQ T y->gP D T->T.length+m<=100000000->mM z row fr h->gt fr 0=y->G (M Z (fr,h)))(K:List Pr)(y:AV)(fr:LA)(h:Hp)(hy:fQ K y)(gK:gP D K)(hl:K.length+(l.map (λx=>2*dc x.e)).sum+m<=100000000)(hT:(l.flatMap (λx=>ja x.e)).foldl cQ K=T)(hS:mM z row fr h)(g0:gt fr 0=y):G (M (.seq (cL (cT 5 jW)) Z) (fr,h)):=by
 obtain⟨k0,e0⟩:∃k,M=k+d+1:=⟨M-d-1,by omega⟩;have fx:=λb(K:List Pr)y(e:Ep)h(he:oz D d e)hy gK hl=>mL D hD d e he.1 he.2 k0 b K y h hy gK hl (by omega)
 rw[<-e0]at fx;have fa:=λb(K:List Pr)y k nm h hy hl gK=>jh D M b K y k nm h hy hl gK hD (by omega)
 have xn:=λb(K:List Pr)y s h hy gK hl=>lC D M hD b S z s K y h hz hy gK hl (by omega)
 have fp:=λb(K:List Pr)y(p:Tp)h hb hy gK hl=>p_ D d M hD b S z hz kd p K y h hb hy gK hl (by omega)
 have Fb:=hz.np;clear e0 hM hz;have di:=iY cY;have sL:=iY tY;obtain⟨cp,g2,g4,h0⟩:=hS;simp[jW,cT,cR,cL,f23];generalize cU:M (.loop _) _=XX;refine gk cU
  (λi st cD=>mM z row st cD/\gt st 10=i/\∃K',fQ K' (gt st 0)/\gP D K'/\K'.length+((l.drop i).map (λx=>2*dc x.e)).sum+m<=100000000/\((l.drop i).flatMap (λx=>ja x.e)).foldl cQ K'=T)
  (λo st cD=>o= .exit 6/\mM z row st cD/\fQ T (gt st 0)/\gP D T/\T.length+m<=100000000)
  l.length (by simp;omega) ⟨⟨by simp[cp],by simp[g2],by simp[g4],h0⟩,by simp[cp],K,by simp[g0];exact hy,gK,hl,hT⟩ ?_ ?_
 .clear cU XX hT hy gK hl cp g0 g2 g4 K y hZ h0;rintro i fr hp cP ⟨⟨cp,g2,g4,h0⟩,gi,K,hy,gK,hl,hT⟩;have tU:=dh h0;generalize g0:gt fr 0=y at hy;have q3:=akN hy.np
  have q4:=akN Fb
  have q5:=akO hy.np
  have q6:=akO Fb
  rcases dY hg cP with⟨x,hi,hx,hr,cC⟩|rfl
  .have dB:=Zi hx;have fH:i<=10^15:=by omega
   rw[cH hx,Yn,Yo]at hl;rw[cH hx,Ym,Xu]at hT;have HZ:=fF x.e;have uZ:=fV (ja x.e) K;have rL:gP D ((ja x.e).foldl cQ K):=fS (lQ hD x.e) gK;have iF:((ja x.e).foldl cQ K).length+((l.drop (i+1)).map (λx=>2*dc x.e)).sum+m<=100000000:=by omega
   have ae:=λb h=>fx b K y x.e h (hb x dB) hy gK (by omega)
   obtain⟨b0,b1,b2,b3,b4,b5,b6,b7,b8,gC⟩:=iK x.e;unfold js at hr cC;rw[gC]at hr ae;simp only[gC]at cC;simp only[Zv,Zw]at hr cC;clear HZ uZ fx fa xn fp hl dB;generalize(ja x.e).foldl cQ K=K2 at *;have hf:=cz fH;simp[cp,g0,g4,gi,h0,lj,di,hi,hq,cC,ae,hf,q3];exact⟨⟨by simp[cp],by simp[g2],by simp[g4],h0⟩,_,fQ.ls _,rL,by simpa only[Xn]using iF,hT⟩
  .rw[Yc,Xo,Xr]at hT;subst hT;have q9:K.length+m<=100000000:=by omega
   simp[cp,g0,g4,gi,h0,lj,di,hq];exact⟨⟨by simp[cp],by simp[g2],by simp[g4],h0⟩,hy,gK,q9⟩
 .rintro o cG h' rfl ⟨rfl,hS,hy,gT,hl⟩;simp;exact hZ _ cG h' hy gT hl hS rfl
def ab4(D d M:Nat)(hD:1<=D)(hM:3*D+d+30<=M)(S:gM)(z:AV)(hz:Tj S z)(kd:Int)(l:List Sp)(cq:List LA)(row:LA)(lj:row.length=21)(tY:row[0]?=some (.sc (.int .i64 kd)))(cY:row[19]?=some (.ls 13 cq false))(hq:cq.length=l.length)(hg:∀i:Nat,cq[i]?=(l[i]?).map fD)(qg:l.length<=10^9)(hb:∀x∈l,oz D d x.e)(Z:Code)(G:Option (Out × St)->Prop)(T:List Pr)(m:Nat)(hZ:∀y fr h,fQ T y->gP D T->T.length+m<=100000000->mM z row fr h->gt fr 0=y->G (M Z (fr,h)))(K:List Pr)(y:AV)(fr:LA)(h:Hp)(hy:fQ K y)(gK:gP D K)(hl:K.length+(l.map (λx=>2*dc x.e+2)).sum+m<=100000000)(hT:(l.flatMap (λx=>akP S x)).foldl cQ K=T)(hS:mM z row fr h)(g0:gt fr 0=y):G (M (.seq (cL (cT 6 jW)) Z) (fr,h)):=by
 obtain⟨k0,e0⟩:∃k,M=k+d+1:=⟨M-d-1,by omega⟩;have fx:=λb(K:List Pr)y(e:Ep)h(he:oz D d e)hy gK hl=>mL D hD d e he.1 he.2 k0 b K y h hy gK hl (by omega)
 rw[<-e0]at fx;have fa:=λb(K:List Pr)y k nm h hy hl gK=>jh D M b K y k nm h hy hl gK hD (by omega)
 have xn:=λb(K:List Pr)y s h hy gK hl=>lC D M hD b S z s K y h hz hy gK hl (by omega)
 have fp:=λb(K:List Pr)y(p:Tp)h hb hy gK hl=>p_ D d M hD b S z hz kd p K y h hb hy gK hl (by omega)
 have Fb:=hz.np;clear e0 hM hz;have di:=iY cY;have sL:=iY tY;obtain⟨cp,g2,g4,h0⟩:=hS;simp[jW,cT,cR,cL,f23];generalize cU:M (.loop _) _=XX;refine gk cU
  (λi st cD=>mM z row st cD/\gt st 11=i/\∃K',fQ K' (gt st 0)/\gP D K'/\K'.length+((l.drop i).map (λx=>2*dc x.e+2)).sum+m<=100000000/\((l.drop i).flatMap (λx=>akP S x)).foldl cQ K'=T)
  (λo st cD=>o= .exit 8/\mM z row st cD/\fQ T (gt st 0)/\gP D T/\T.length+m<=100000000)
  l.length (by simp;omega) ⟨⟨by simp[cp],by simp[g2],by simp[g4],h0⟩,by simp[cp],K,by simp[g0];exact hy,gK,hl,hT⟩ ?_ ?_
 .clear cU XX hT hy gK hl cp g0 g2 g4 K y hZ h0;rintro i fr hp cP ⟨⟨cp,g2,g4,h0⟩,gi,K,hy,gK,hl,hT⟩;have tU:=dh h0;generalize g0:gt fr 0=y at hy;have q3:=akN hy.np
  have q4:=akN Fb
  have q5:=akO hy.np
  have q6:=akO Fb
  rcases dY hg cP with⟨x,hi,hx,hr,cC⟩|rfl
  .have dB:=Zi hx;have fH:i<=10^15:=by omega
   rw[cH hx,Yn,Yo]at hl;rw[cH hx,Ym,Xu]at hT;have HZ:=H0 S x;have uZ:=fV (akP S x) K;have rL:gP D ((akP S x).foldl cQ K):=fS (Mk hD S x) gK;have iF:((akP S x).foldl cQ K).length+((l.drop (i+1)).map (λx=>2*dc x.e+2)).sum+m<=100000000:=by omega
   have ae:=λb h=>xn b K y x.var h hy gK (by omega)
   have n1:((IZ (db S x.var)).foldl cQ K).length<=K.length+1:=by have h1:=fV (IZ (db S x.var)) K;have h2:=zw (db S x.var);omega
   have g1:gP D ((IZ (db S x.var)).foldl cQ K):=fS (Fc hD _) gK;have hQ:(akP S x).foldl cQ K=(if dn x.label mI=true then[]else[ij 2 x.label]).foldl cQ ((ja x.e).foldl cQ ((IZ (db S x.var)).foldl cQ K)):=by unfold akP;rw[Xu,Xu]
   rw[hQ]at hT iF rL;generalize(IZ (db S x.var)).foldl cQ K=K1 at *;have af:=λb h=>fx b K1 _ x.e h (hb x dB) (fQ.ls K1) g1 (by omega)
   have n2:((ja x.e).foldl cQ K1).length<=K.length+1+2*dc x.e:=by have h1:=fV (ja x.e) K1;have h2:=fF x.e;omega
   have g2':gP D ((ja x.e).foldl cQ K1):=fS (lQ hD x.e) g1;generalize(ja x.e).foldl cQ K1=K2 at *;have ah:=λb h=>fa b K2 _ 2 x.label h (fQ.ls K2) (by omega) g2'
   obtain⟨b0,b1,b2,b3,b4,b5,b6,b7,b8,gC⟩:=iK x.e;unfold fD at hr cC;rw[gC]at hr af;simp only[gC]at cC;have jT:=GB (ev:=[.sc (.string x.var),.sc (.string x.key),.sc (.string x.label),.sc (.bool x.off),b0,b1,b2,b3,b4,b5,b6,b7,b8]) rfl;have h0a:=λb=>cJ (h:=hp) (k:=[b]) h0
   have h0b:=λb=>dh (h0a b)
   clear hQ HZ uZ n1 n2 fx fa xn fp hl dB g1 g2' gC;unfold mI at hT iF rL;have hf:=cz fH;by_cases he:dn x.label ⟨#[]⟩=true
   .rw[cw he,Xr]at hT iF rL;simp[cF,cp,g0,g2,g4,gi,h0,lj,di,hi,hq,cC,ae,af,he,hf,q5,q6];exact⟨⟨by simp[cp],by simp[g2],by simp[g4],h0a _⟩,_,fQ.ls _,rL,by simpa only[Xn]using iF,hT⟩
   .rw[cv he,Yi,Xr]at hT iF rL;simp[cF,cp,g0,g2,g4,gi,h0,lj,di,hi,hq,cC,ae,af,ah,he,hf,q5,q6];exact⟨⟨by simp[cp],by simp[g2],by simp[g4],h0a _⟩,_,fQ.ls _,rL,by simpa only[Xn]using iF,hT⟩
  .rw[Yc,Xo,Xr]at hT;subst hT;have q9:K.length+m<=100000000:=by omega
   simp[cp,g0,g4,gi,h0,lj,di,hq];exact⟨⟨by simp[cp],by simp[g2],by simp[g4],h0⟩,hy,gK,q9⟩
 .rintro o cG h' rfl ⟨rfl,hS,hy,gT,hl⟩;simp;exact hZ _ cG h' hy gT hl hS rfl
def ab5(D d M:Nat)(hD:1<=D)(hM:3*D+d+30<=M)(S:gM)(z:AV)(hz:Tj S z)(kd:Int)(l:List ByteArray)(cq:List LA)(row:LA)(lj:row.length=21)(tY:row[0]?=some (.sc (.int .i64 kd)))(cY:row[20]?=some (.ls 1 cq false))(hq:cq.length=l.length)(hg:∀i:Nat,cq[i]?=(l[i]?).map (λs=> [.sc (.string s)]))(qg:l.length<=10^9)(Z:Code)(G:Option (Out × St)->Prop)(T:List Pr)(m:Nat)(hZ:∀y fr h,fQ T y->gP D T->T.length+m<=100000000->mM z row fr h->gt fr 0=y->G (M Z (fr,h)))(K:List Pr)(y:AV)(fr:LA)(h:Hp)(hy:fQ K y)(gK:gP D K)(hl:K.length+(l.map (λ_=>1)).sum+m<=100000000)(hT:(l.flatMap (λx=>xL S x)).foldl cQ K=T)(hS:mM z row fr h)(g0:gt fr 0=y):G (M (.seq (cL (cT 7 jW)) Z) (fr,h)):=by
 obtain⟨k0,e0⟩:∃k,M=k+d+1:=⟨M-d-1,by omega⟩;have fx:=λb(K:List Pr)y(e:Ep)h(he:oz D d e)hy gK hl=>mL D hD d e he.1 he.2 k0 b K y h hy gK hl (by omega)
 rw[<-e0]at fx;have fa:=λb(K:List Pr)y k nm h hy hl gK=>jh D M b K y k nm h hy hl gK hD (by omega)
 have xn:=λb(K:List Pr)y s h hy gK hl=>lC D M hD b S z s K y h hz hy gK hl (by omega)
 have fp:=λb(K:List Pr)y(p:Tp)h hb hy gK hl=>p_ D d M hD b S z hz kd p K y h hb hy gK hl (by omega)
 have Fb:=hz.np;clear e0 hM hz;have di:=iY cY;have sL:=iY tY;obtain⟨cp,g2,g4,h0⟩:=hS;simp[jW,cT,cR,cL,f23];generalize cU:M (.loop _) _=XX;refine gk cU
  (λi st cD=>mM z row st cD/\gt st 13=i/\∃K',fQ K' (gt st 0)/\gP D K'/\K'.length+((l.drop i).map (λ_=>1)).sum+m<=100000000/\((l.drop i).flatMap (λx=>xL S x)).foldl cQ K'=T)
  (λo st cD=>o= .exit 10/\mM z row st cD/\fQ T (gt st 0)/\gP D T/\T.length+m<=100000000)
  l.length (by simp;omega) ⟨⟨by simp[cp],by simp[g2],by simp[g4],h0⟩,by simp[cp],K,by simp[g0];exact hy,gK,hl,hT⟩ ?_ ?_
 .clear cU XX hT hy gK hl cp g0 g2 g4 K y hZ h0;rintro i fr hp cP ⟨⟨cp,g2,g4,h0⟩,gi,K,hy,gK,hl,hT⟩;have tU:=dh h0;generalize g0:gt fr 0=y at hy;have q3:=akN hy.np
  have q4:=akN Fb
  have q5:=akO hy.np
  have q6:=akO Fb
  rcases dY hg cP with⟨x,hi,hx,hr,cC⟩|rfl
  .have dB:=Zi hx;have fH:i<=10^15:=by omega
   rw[cH hx,Yn,Yo]at hl;rw[cH hx,Ym,Xu]at hT;have HZ:=(Nat.le_of_eq (zw _):(xL S x).length<=1);have uZ:=fV (xL S x) K;have rL:gP D ((xL S x).foldl cQ K):=fS (Fc hD _) gK;have iF:((xL S x).foldl cQ K).length+((l.drop (i+1)).map (λ_=>1)).sum+m<=100000000:=by omega
   have ae:=λb h=>xn b K y x h hy gK (by omega)
   rw[show IZ (db S x)=xL S x from rfl]at ae;clear HZ uZ fx fa xn fp hl dB;generalize(xL S x).foldl cQ K=K2 at *;have hf:=cz fH;simp[cp,g0,g2,g4,gi,h0,lj,di,hi,hq,cC,ae,hf,q3,q4];exact⟨⟨by simp[cp],by simp[g2],by simp[g4],h0⟩,_,fQ.ls _,rL,by simpa only[Xn]using iF,hT⟩
  .rw[Yc,Xo,Xr]at hT;subst hT;have q9:K.length+m<=100000000:=by omega
   simp[cp,g0,g4,gi,h0,lj,di,hq];exact⟨⟨by simp[cp],by simp[g2],by simp[g4],h0⟩,hy,gK,q9⟩
 .rintro o cG h' rfl ⟨rfl,hS,hy,gT,hl⟩;simp;exact hZ _ cG h' hy gT hl hS rfl
end
end Go.Proofs.YtmocfjnklfpnbaaGreatDoor
