/- Part of the proof. -/
import Derived.Test.YtmocfjnklfpnbaaGreatDoorE70
import Derived.Test.YtmocfjnklfpnbaaGreatDoorP21
import Derived.Test.YtmocfjnklfpnbaaGreatDoorRows
set_option linter.all false
set_option maxHeartbeats 32000000
set_option maxRecDepth 100000
namespace Go.Proofs.YtmocfjnklfpnbaaGreatDoor
open Go Go.Ae Go.Proofs.Tryz
def adV(ops:Array Oper):J1 Vh ops=J1 cx ops:=rfl
def RZ :∀c:Code,Ae.codeOk Vh c=Ae.codeOk cx c:=by
 intro c
 induction c with
 |region i ops m=>cases m<;>simp only[Ae.codeOk,adV]
 |_=>simp_all only[Ae.codeOk]
def VF{f:FuncId}{r:Nat × Nat}(e:Vh.ins f=some r):cx.ins f=some r:=by
 have e':(if f=18 then none else D6 f)=some r:=e;split at e'
 .cases e'
 .exact e'
def aag(f:FuncId)(sz:Nat):Vh.ins f≠some (sz,1):=λh=>by
 have h':D6 f=some (sz,1):=VF h;unfold D6 at h'
 (repeat' split at h')<;>cases h'
def zm(h:kg cx):kg Vh:={
 base:={mixed:=h.base.mixed,types:=h.base.types,Ht:=λf fi hf=>by rw[RZ];exact h.base.Ht f fi hf}
 MC:=λg T' e=>h.MC g T' e
 vc:=λf g kt e=>h.vc f g kt e
 BZ:=λf xs r e=>h.BZ f xs r e
 sfn:=λf sz e=>h.sfn f sz (VF e)
 nf:=λf w X v r e=>h.nf f w X v r e}
def zn(h:kg cx):kg cV1:=(zm h).more _ (EP λe he=>by
 unfold cL1 at he;simp only[Yv,List.not_mem_nil,or_false]at he;rcases he with rfl|rfl|rfl
 .exact qN (zm h) af5
 .exact qN (zm h) af6
 .exact qN (zm h) af7) aag
def WE(h:kg cx):kg cV2:=(zn h).more _ (EP λe he=>by
 unfold cL2 at he;simp only[Yv,List.not_mem_nil,or_false]at he;rcases he with rfl|rfl|rfl
 .exact qN (zn h) af8
 .exact qN (zn h) af9
 .exact qN (zn h) aga) aag
def R6(h:kg cx):iG cx 6 [] (.sc (.bool true)):=qN (WE h) Vi
section
attribute [local simp] ew eY
noncomputable def yL :Code:=(f26.body).getD .skip
def J3(l:List Ep)(e:Ep):cZ (l++[e])=cZ l++[cM e]:=by
 induction l with
 |nil=>simp[cZ]
 |cons a l ih=>simp only[Zv,cZ,ih]
def pW(l:List Ep):(∀r∈cZ l,r.length=9)/\(cZ l).flatten.all l6=true:=by
 induction l with
 |nil=>exact⟨λr h=>by simp[cZ]at h,rfl⟩
 |cons a l ih=>
  refine⟨λr h=>?_,?_⟩
  .rw[cZ]at h;rcases Yv.1 h with rfl|h
   .exact cB a
   .exact ih.1 r h
  .rw[cZ,List.flatten_cons,List.all_append,ih.2,Bool.and_true];obtain⟨op,⟨vk,vn,vd,vs,vz,vl⟩,nm,ds,ks⟩:=a;cases vz<;>cases hE:(fj vl).isEmpty<;>simp[cM,enc,zT,l6,hE]
def XB(P:Ep->Prop)(row:LA)(m:Nat)(fr:LA)(h:Hp):Prop:=h[0]?=some (.row row)/\∃E y,gt fr 3=y/\ka h 9 (cZ E) y/\(∀k n,y= .sl k 9 0 n false->k≠0)/\(∀e∈E,P e)/\E.length+m<=1000000000
def XB.fr{P:Ep->Prop}{row:LA}{m:Nat}{fr cG:LA}{h:Hp}(hX:XB P row m fr h)(e:gt cG 3=gt fr 3):XB P row m cG h:=by
 obtain⟨a,E,y,g3,b⟩:=hX;exact⟨a,E,y,e.trans g3,b⟩
def XB.le{P:Ep->Prop}{row:LA}{m m':Nat}{fr:LA}{h:Hp}(hX:XB P row m fr h)(e:m'<=m):XB P row m' fr h:=by
 obtain⟨a,E,y,g3,b,c,d,f⟩:=hX;exact⟨a,E,y,g3,b,c,d,by omega⟩
def R7{P:Prop}{call:Bool->FuncId->LA->Hp->Option (AV × Hp)}{X:Option (Out × St)}{c:Code}{fr:LA}{h:Hp}{K:LA->Hp->Prop}(hX:dd cx call c (fr,h)=X)(H:∃cG h',dd cx call c (fr,h)=some (.normal,(cG,h'))/\K cG h')(fin:∀cG h',X=some (.normal,(cG,h'))->K cG h'->P):P:=by
 obtain⟨cG,h',e,k⟩:=H;exact fin cG h' (hX.symm.trans e) k
def ER{h:Hp}{E:List Ep}{y:AV}(e:Ep){row:LA}(h0:h[0]?=some (.row row))(hB:ka h 9 (cZ E) y)(hk:∀k n,y= .sl k 9 0 n false->k≠0)(hl:E.length<=10^9):
 ∃id h',fg cx (h++[.row (cM e)]) 41 y (.sl h.length 9 0 1 false)=some (.sl id 9 0 ((cZ E).length+1) false,h')/\h'[0]?=some (.row row)/\ka h' 9 (cZ (E++[e])) (.sl id 9 0 ((cZ E).length+1) false)/\id≠0:=by
 obtain⟨id,h',b1,b2,b3,b4⟩:=iy (t:=41) aa5 rfl h (cM e) (cZ E) y hB (cB e) (pW E).1 (by omega) (by rw[cX];exact hl) (by omega);refine⟨id,h',b1,b3 0 _ h0 (λk n e=>(hk k n e).symm),?_,?_⟩
 .rw[J3];exact Ab b2
 .have:=(Za.1 h0).1;omega
noncomputable def R8 :Code:=cL (cL (cR (cL (cT 2 yL))))
noncomputable def Da :Code:=cL (cL (cR R8))
def ahz(M:Nat)(P:Ep->Prop)(i:Nat)(vr:ByteArray)(rn re:List LA)(x:Np)(hr:rn[i]?=some (dD x))(hP:∀q∈x.props,P q.e)(m:Nat)(fr:LA)(h:Hp)(cp:fr.length=68)(g1:gt fr 1= .pt 0 0)(g4:gt fr 4=i)(hX:XB P [vr,.ls 3 rn false,.ls 7 re false] (x.props.length+m) fr h):
 ∃cG h',M (cL Da) (fr,h)=some (.normal,(cG,h'))/\cG.length=68/\gt cG 1= .pt 0 0/\gt cG 4=i/\XB P [vr,.ls 3 rn false,.ls 7 re false] m cG h':=by
 have hi:=(Za.1 hr).1;have cC:=gA hr
 obtain⟨h0,E,y,g3,hB,hk,hE,hl⟩:=hX;have wM:=dP x.props;have JH:=jf x.props;have oy:x.props.length<=10^9:=by omega
 unfold dD at hr cC;generalize jw x.props=rp at *;simp[Da,R8,yL,cT,cR,cL,f26];generalize cU:M (.loop _) _=XX;refine gk cU
  (λj st cD=>st.length=68/\gt st 1= .pt 0 0/\gt st 4=i/\gt st 5=j/\XB P [vr,.ls 3 rn false,.ls 7 re false] (x.props.length-j+m) st cD)
  (λo st cD=>o= .exit 2/\st.length=68/\gt st 1= .pt 0 0/\gt st 4=i/\XB P [vr,.ls 3 rn false,.ls 7 re false] m st cD)
  x.props.length (by simp;omega) ⟨by simp[cp],by simp[g1],by simp[g4],by simp[cp],h0,E,y,by simp[g3],hB,hk,hE,by simpa using hl⟩ ?_ ?_
 .clear cU XX cp g1 g3 g4 h0 hB hk hE hl;rintro j fr hp cP ⟨cp,g1,g4,gj,h0,E,y,g3,hB,hk,hE,hl⟩;by_cases hj:j<x.props.length
  .obtain⟨q,Lx,ED,lW⟩:=il JH hj;have AR:j<=1000000000000000:=by omega
   have hPq:=hP q (Zi Lx);obtain⟨id,h',b1,b2,b3,b4⟩:=ER q.e h0 hB hk (by omega);have iF:(E++[q.e]).length+(x.props.length-(j+1)+m)<=1000000000:=by rw[Zu,List.length_singleton];omega
   have WG:∀e∈E++[q.e],P e:=λe he=>by
    rcases Zz.1 he with he|he
    .exact hE e he
    .have:e=q.e:=by simpa using he
     rw[this];exact hPq
   have q2:=akN (λv=>hB.np v)
   obtain⟨b0,c1,c2,c3,c4,c5,c6,c7,c8,gC⟩:=iK q.e;unfold eF at ED lW;rw[gC]at ED b1;simp only[gC]at lW;have jT:=rW (ev:=[b0,c1,c2,c3,c4,c5,c6,c7,c8]) rfl;have kD:∀F k n:Nat,AV.sl id 9 0 F false= .sl k 9 0 n false->k≠0:=λF k n e=>by injection e;omega
   have hf:=cz AR;generalize(cZ E).length=F at *;simp[cp,g1,g3,g4,gj,h0,hi,cC,hj,wM,lW,q2,jT,b1,hf]
   skip
   exact⟨b2,E++[q.e],.sl id 9 0 (F+1) false,by simp[cp],b3,kD _,WG,iF⟩
  .have iJ:j=x.props.length:=Yb cP (Ya hj);subst iJ;simp[cp,g1,g4,gj,h0,hi,cC,wM];exact⟨h0,E,y,by simp[g3],hB,hk,hE,by simpa using hl⟩
 .rintro o cG h' rfl ⟨rfl,cp,g1,g4,hX⟩;exact⟨cG,h',by simp,cp,g1,g4,hX⟩
def ahA(M:Nat)(P:Ep->Prop)(i:Nat)(vr:ByteArray)(rn re:List LA)(x:Gp)(hr:re[i]?=some (dE x))(hP:∀q∈x.props,P q.e)(m:Nat)(fr:LA)(h:Hp)(cp:fr.length=68)(g1:gt fr 1= .pt 0 0)(g4:gt fr 4=i)(hX:XB P [vr,.ls 3 rn false,.ls 7 re false] (x.props.length+m) fr h):
 ∃cG h',M (cL (cR (cR Da))) (fr,h)=some (.normal,(cG,h'))/\cG.length=68/\gt cG 1= .pt 0 0/\gt cG 4=i/\XB P [vr,.ls 3 rn false,.ls 7 re false] m cG h':=by
 have hi:=(Za.1 hr).1;have cC:=gA hr
 obtain⟨h0,E,y,g3,hB,hk,hE,hl⟩:=hX;have wM:=dP x.props;have JH:=jf x.props;have oy:x.props.length<=10^9:=by omega
 unfold dE at hr cC;generalize jw x.props=rp at *;simp[Da,R8,yL,cT,cR,cL,f26];generalize cU:M (.loop _) _=XX;refine gk cU
  (λj st cD=>st.length=68/\gt st 1= .pt 0 0/\gt st 4=i/\gt st 6=j/\XB P [vr,.ls 3 rn false,.ls 7 re false] (x.props.length-j+m) st cD)
  (λo st cD=>o= .exit 4/\st.length=68/\gt st 1= .pt 0 0/\gt st 4=i/\XB P [vr,.ls 3 rn false,.ls 7 re false] m st cD)
  x.props.length (by simp;omega) ⟨by simp[cp],by simp[g1],by simp[g4],by simp[cp],h0,E,y,by simp[g3],hB,hk,hE,by simpa using hl⟩ ?_ ?_
 .clear cU XX cp g1 g3 g4 h0 hB hk hE hl;rintro j fr hp cP ⟨cp,g1,g4,gj,h0,E,y,g3,hB,hk,hE,hl⟩;by_cases hj:j<x.props.length
  .obtain⟨q,Lx,ED,lW⟩:=il JH hj;have AR:j<=1000000000000000:=by omega
   have hPq:=hP q (Zi Lx);obtain⟨id,h',b1,b2,b3,b4⟩:=ER q.e h0 hB hk (by omega);have iF:(E++[q.e]).length+(x.props.length-(j+1)+m)<=1000000000:=by rw[Zu,List.length_singleton];omega
   have WG:∀e∈E++[q.e],P e:=λe he=>by
    rcases Zz.1 he with he|he
    .exact hE e he
    .have:e=q.e:=by simpa using he
     rw[this];exact hPq
   have q2:=akN (λv=>hB.np v)
   obtain⟨b0,c1,c2,c3,c4,c5,c6,c7,c8,gC⟩:=iK q.e;unfold eF at ED lW;rw[gC]at ED b1;simp only[gC]at lW;have jT:=rW (ev:=[b0,c1,c2,c3,c4,c5,c6,c7,c8]) rfl;have kD:∀F k n:Nat,AV.sl id 9 0 F false= .sl k 9 0 n false->k≠0:=λF k n e=>by injection e;omega
   have hf:=cz AR;generalize(cZ E).length=F at *;simp[cp,g1,g3,g4,gj,h0,hi,cC,hj,wM,lW,q2,jT,b1,hf]
   skip
   exact⟨b2,E++[q.e],.sl id 9 0 (F+1) false,by simp[cp],b3,kD _,WG,iF⟩
  .have iJ:j=x.props.length:=Yb cP (Ya hj);subst iJ;simp[cp,g1,g4,gj,h0,hi,cC,wM];exact⟨h0,E,y,by simp[g3],hB,hk,hE,by simpa using hl⟩
 .rintro o cG h' rfl ⟨rfl,cp,g1,g4,hX⟩;exact⟨cG,h',by simp,cp,g1,g4,hX⟩
def nPp(x:Np):Nat:=x.props.length
def gPp(x:Gp):Nat:=x.props.length
def WH(M:Nat)(P:Ep->Prop)(p:Tp)(hPn:∀x∈p.nodes,∀q∈x.props,P q.e)(hPe:∀x∈p.cE,∀q∈x.props,P q.e)(hn:p.nodes.length<=10^9)(hm:(p.nodes.map nPp).sum+(p.cE.map gPp).sum<=1000000000):
 ∃E,(∀e∈E,P e)/\E.length<=10^9/\∃r h',dT [.tmp 2] (M yL ([.ag (dW p)]++List.replicate 67 .un,[]))=some (r,h')/\∃r',Ae.da h' 8 r=some r'/\EM 9 r'= .ls 9 (cZ E) false:=by
 rw[show yL= .seq (cL (cT 0 yL)) (.seq (cL (cT 1 yL)) (.seq (.seq (cL (cL (cT 2 yL))) (.block 0 (.loop (.seq (cL R8) (.seq (.block 1 (.seq (cL Da) (.seq (cL (cR Da)) (.cond (.tmp 42) (cL (cR (cR Da))) .skip)))) (cR (cR R8))))))) (cT 3 yL))) by kernel_rfl];have tJ:∀fr h,fr.length=68->XB P [p.var,.ls 3 (gZ p.nodes) false,.ls 7 (nD p.cE) false] 0 fr h->∃E,(∀e∈E,P e)/\E.length<=10^9/\∃r h',dT [.tmp 2] (M (cT 3 yL) (fr,h))=some (r,h')/\∃r',Ae.da h' 8 r=some r'/\EM 9 r'= .ls 9 (cZ E) false:=by
  rintro fr h cp ⟨h0,E,y,g3,hB,hk,hE,hl⟩;refine⟨E,hE,hl,?_⟩;have q2:=akN (λv=>hB.np v)
  have jx:=gf (n:=7) (by omega) (pW E).1 (pW E).2 hB;have hnf:EM 9 (eH 9 (cZ E))= .ls 9 (cZ E) false:=kT _ _;generalize cZ E=cq at *;generalize eH 9 cq=v at *;simp[yL,cT,cR,f26,cp,g3,q2];exact qW ⟨_,jx,hnf⟩
 generalize cT 3 yL=Z at tJ|-;have c1:=λi x hr hP m fr h cp g1 g4 hX=>ahz M P i p.var (gZ p.nodes) (nD p.cE) x hr hP m fr h cp g1 g4 hX
 have c2:=λi x hr hP m fr h cp g1 g4 hX=>ahA M P i p.var (gZ p.nodes) (nD p.cE) x hr hP m fr h cp g1 g4 hX
 have vJ:=fK p.nodes;have MQ:=kV p.nodes;have xc:=fL p.cE;have vK:=kW p.cE;unfold dW;generalize gZ p.nodes=rn,nD p.cE=re at *;generalize ahB:p.nodes=U4,ahC:p.cE=NL,hz1:cL Da=Z1,hz2:cL (cR (cR Da))=Z2 at *;simp[Da,R8,yL,cT,cR,cL,f26];generalize cU:M (.loop _) _=XX;refine gk cU
  (λi st cD=>st.length=68/\gt st 1= .pt 0 0/\gt st 4=i/\XB P [p.var,.ls 3 rn false,.ls 7 re false] (((U4.drop i).map nPp).sum+((NL.drop i).map gPp).sum) st cD)
  (λo st cD=>o= .exit 0/\st.length=68/\XB P [p.var,.ls 3 rn false,.ls 7 re false] 0 st cD)
  U4.length (by simp;omega) ⟨by simp,by simp,by simp,rfl,[],_,rfl,.inl ⟨rfl,rfl⟩,λk n e=>by simp at e,λe he=>(by simp at he),by simpa using hm⟩ ?_ ?_
 .clear cU XX hm tJ;rintro i fr hp cP ⟨cp,g1,g4,hX⟩;have h0:=hX.1;rcases dY MQ cP with⟨x,hi,hx,hr,cC⟩|rfl
  .have fH:i<=10^15:=by omega
   rw[cH hx,Yn,Yo,Nat.add_assoc]at hX;have d1:=λfr h cp g1 g4 hX=>c1 i x hr (hPn x (Zi hx)) (((U4.drop (i+1)).map nPp).sum+((NL.drop i).map gPp).sum) fr h cp g1 g4 hX
   simp[cp,g1,g4,h0,hi,vJ];generalize IV:M Z1 _=EE;refine R7 IV (d1 _ _ (by simp[cp]) (by simp[g1]) (by simp[g4]) (hX.fr (by simp))) ?_;clear IV d1 hX h0 cp g1 g4;rintro FJ h1 rfl ⟨cp,g1,g4,hX⟩;have h0:=hX.1;by_cases he:i<NL.length
   .obtain⟨e,hxe,Z_,Wh⟩:=il vK he;rw[cH hxe,Yn,Yo,Nat.add_left_comm]at hX;have d2:=λfr h cp g1 g4 hX=>c2 i e Z_ (hPe e (Zi hxe)) (((U4.drop (i+1)).map nPp).sum+((NL.drop (i+1)).map gPp).sum) fr h cp g1 g4 hX
    simp[cp,g1,g4,h0,he,xc];generalize IV:M Z2 _=EE;refine R7 IV (d2 _ _ (by simp[cp]) (by simp[g1]) (by simp[g4]) (hX.fr (by simp))) ?_;clear IV d2 hX h0 cp g1 g4;rintro Lm h2 rfl ⟨cp,g1,g4,hX⟩;have hf:=cz fH;simp[cp,g1,g4,hi,hf];rw[<-Xn,<-Xn];exact hX.fr (by simp)
   .rw[Zt (show NL.length<=i by omega)]at hX;have e2:NL.drop (i+1)=[]:=Zt (by omega);have hf:=cz fH;simp[cp,g1,g4,h0,he,xc,hi,hf];rw[<-Xn,<-Xn,e2];exact(hX.fr (by simp)).le (by simp)
  .simp[cp,g1,g4,h0,vJ];exact(hX.fr (by simp)).le (Yt _)
 .rintro o cG h' rfl ⟨rfl,cp,hX⟩;simp;exact tJ cG h' cp hX
def NM(n:Nat)(P:Ep->Prop)(p:Tp)(hPn:∀x∈p.nodes,∀q∈x.props,P q.e)(hPe:∀x∈p.cE,∀q∈x.props,P q.e)(hn:p.nodes.length<=10^9)(hm:(p.nodes.map nPp).sum+(p.cE.map gPp).sum<=1000000000):
 ∃E,(∀e∈E,P e)/\E.length<=10^9/\∀b h,cu cx (n+1) b 26 [.ag (dW p)] h=some (.ls 9 (cZ E) false,h):=by
 obtain⟨E,h1,h2,h3⟩:=WH n P p hPn hPe hn hm;refine⟨E,h1,h2,λb h=>?_⟩;exact ET (f:=26) (n:=n) (args:=[.ag (dW p)]) (.ls 9 (cZ E) false) ⟨f26.ntmps,(f26.body).getD .skip,[.tmp 2]⟩ (by kernel_rfl) (by kernel_rfl) rfl (by kernel_rfl) (by simp[f26]) rfl h3 (by decide) b h
noncomputable def vo :Code:=(f11.body).getD .skip
def PM(r:Option (Out × St)):Prop:=∃v h',dT [.tmp 2] r=some (.sc (.int .i64 v),h')
def ahD(M:Nat)(l:List Ep)(cq:List LA)(row:LA)(cY:row[4]?=some (.ls 9 cq false))(hq:cq.length=l.length)(hg:∀i:Nat,cq[i]?=(l[i]?).map cM)(hl:l.length<=10^9)(X:Code)(fs:∀x∈l,∀b h,cu cx M b 25 [.ag (cM (x))] h=some (.sc (.int .i64 (xV (x))),h))(hX:∀fr v,fr.length=199->gt fr 1= .pt 0 0->gt fr 3= .sc (.int .i64 v)->PM (M X (fr,[.row row])))(fr:LA)(v:Int)(cp:fr.length=199)(g1:gt fr 1= .pt 0 0)(g3:gt fr 3= .sc (.int .i64 v)):
 PM (M (.seq (cL (cT 3 vo)) X) (fr,[.row row])):=by
 simp[vo,cT,cR,cL,f11];generalize cU:M (.loop _) _=XX;refine gk cU
  (λi st cD=>st.length=199/\gt st 1= .pt 0 0/\gt st 9=i/\cD=[.row row]/\∃v,gt st 3= .sc (.int .i64 v))
  (λo st cD=>o= .exit 8/\st.length=199/\gt st 1= .pt 0 0/\cD=[.row row]/\∃v,gt st 3= .sc (.int .i64 v))
  l.length (by simp;omega) ⟨by simp[cp],by simp[g1],by simp[cp],rfl,v,by simp[g3]⟩ ?_ ?_
 .clear cU XX cp g1 g3 hX;rintro i fr hp cP ⟨cp,g1,R9,hh,v,g3⟩;subst hh;rcases dY hg cP with⟨x,hi,hx,hr,cC⟩|rfl
  .have fH:i<=10^15:=by omega
   have ae:=fs x (Zi hx);generalize xV (x)=sz at ae;have Hv:=cB x;generalize cM x=ev at hr cC ae Hv;have dH:ev.take 9=ev:=Yy (by omega);have hf:=cz fH;simp[cp,g1,g3,R9,cY,hi,hq,cC,ae,hf,dH,Hv]
  .simp[cp,g1,g3,R9,cY,hq]
 .rintro o cG h' rfl ⟨rfl,cp,g1,hh,v,g3⟩;subst hh;simp;exact hX _ _ cp g1 g3
def ahE(M:Nat)(l:List Ip)(cq:List LA)(row:LA)(cY:row[15]?=some (.ls 10 cq false))(hq:cq.length=l.length)(hg:∀i:Nat,cq[i]?=(l[i]?).map jr)(hl:l.length<=10^9)(X:Code)(fs:∀x∈l,∀b h,cu cx M b 25 [.ag (cM (x.e))] h=some (.sc (.int .i64 (xV (x.e))),h))(hX:∀fr v,fr.length=199->gt fr 1= .pt 0 0->gt fr 3= .sc (.int .i64 v)->PM (M X (fr,[.row row])))(fr:LA)(v:Int)(cp:fr.length=199)(g1:gt fr 1= .pt 0 0)(g3:gt fr 3= .sc (.int .i64 v)):
 PM (M (.seq (cL (cT 4 vo)) X) (fr,[.row row])):=by
 simp[vo,cT,cR,cL,f11];generalize cU:M (.loop _) _=XX;refine gk cU
  (λi st cD=>st.length=199/\gt st 1= .pt 0 0/\gt st 10=i/\cD=[.row row]/\∃v,gt st 3= .sc (.int .i64 v))
  (λo st cD=>o= .exit 10/\st.length=199/\gt st 1= .pt 0 0/\cD=[.row row]/\∃v,gt st 3= .sc (.int .i64 v))
  l.length (by simp;omega) ⟨by simp[cp],by simp[g1],by simp[cp],rfl,v,by simp[g3]⟩ ?_ ?_
 .clear cU XX cp g1 g3 hX;rintro i fr hp cP ⟨cp,g1,R9,hh,v,g3⟩;subst hh;rcases dY hg cP with⟨x,hi,hx,hr,cC⟩|rfl
  .have fH:i<=10^15:=by omega
   have ae:=fs x (Zi hx);generalize xV (x.e)=sz at ae;obtain⟨b0,b1,b2,b3,b4,b5,b6,b7,b8,gC⟩:=iK x.e;unfold jr at hr cC;rw[gC]at hr ae;simp only[gC]at cC;have Hv:True:=trivial;have dH:True:=trivial;have hf:=cz fH;simp[cp,g1,g3,R9,cY,hi,hq,cC,ae,hf]
  .simp[cp,g1,g3,R9,cY,hq]
 .rintro o cG h' rfl ⟨rfl,cp,g1,hh,v,g3⟩;subst hh;simp;exact hX _ _ cp g1 g3
def ahF(M:Nat)(l:List BN)(cq:List LA)(row:LA)(cY:row[16]?=some (.ls 10 cq false))(hq:cq.length=l.length)(hg:∀i:Nat,cq[i]?=(l[i]?).map js)(hl:l.length<=10^9)(X:Code)(fs:∀x∈l,∀b h,cu cx M b 25 [.ag (cM (x.e))] h=some (.sc (.int .i64 (xV (x.e))),h))(hX:∀fr v,fr.length=199->gt fr 1= .pt 0 0->gt fr 3= .sc (.int .i64 v)->PM (M X (fr,[.row row])))(fr:LA)(v:Int)(cp:fr.length=199)(g1:gt fr 1= .pt 0 0)(g3:gt fr 3= .sc (.int .i64 v)):
 PM (M (.seq (cL (cT 5 vo)) X) (fr,[.row row])):=by
 simp[vo,cT,cR,cL,f11];generalize cU:M (.loop _) _=XX;refine gk cU
  (λi st cD=>st.length=199/\gt st 1= .pt 0 0/\gt st 11=i/\cD=[.row row]/\∃v,gt st 3= .sc (.int .i64 v))
  (λo st cD=>o= .exit 12/\st.length=199/\gt st 1= .pt 0 0/\cD=[.row row]/\∃v,gt st 3= .sc (.int .i64 v))
  l.length (by simp;omega) ⟨by simp[cp],by simp[g1],by simp[cp],rfl,v,by simp[g3]⟩ ?_ ?_
 .clear cU XX cp g1 g3 hX;rintro i fr hp cP ⟨cp,g1,R9,hh,v,g3⟩;subst hh;rcases dY hg cP with⟨x,hi,hx,hr,cC⟩|rfl
  .have fH:i<=10^15:=by omega
   have ae:=fs x (Zi hx);generalize xV (x.e)=sz at ae;obtain⟨b0,b1,b2,b3,b4,b5,b6,b7,b8,gC⟩:=iK x.e;unfold js at hr cC;rw[gC]at hr ae;simp only[gC]at cC;have Hv:True:=trivial;have dH:True:=trivial;have hf:=cz fH;simp[cp,g1,g3,R9,cY,hi,hq,cC,ae,hf]
  .simp[cp,g1,g3,R9,cY,hq]
 .rintro o cG h' rfl ⟨rfl,cp,g1,hh,v,g3⟩;subst hh;simp;exact hX _ _ cp g1 g3
def ahG(M:Nat)(l:List Sp)(cq:List LA)(row:LA)(cY:row[19]?=some (.ls 13 cq false))(hq:cq.length=l.length)(hg:∀i:Nat,cq[i]?=(l[i]?).map fD)(hl:l.length<=10^9)(X:Code)(fs:∀x∈l,∀b h,cu cx M b 25 [.ag (cM (x.e))] h=some (.sc (.int .i64 (xV (x.e))),h))(hX:∀fr v,fr.length=199->gt fr 1= .pt 0 0->gt fr 3= .sc (.int .i64 v)->PM (M X (fr,[.row row])))(fr:LA)(v:Int)(cp:fr.length=199)(g1:gt fr 1= .pt 0 0)(g3:gt fr 3= .sc (.int .i64 v)):
 PM (M (.seq (cL (cT 6 vo)) X) (fr,[.row row])):=by
 simp[vo,cT,cR,cL,f11];generalize cU:M (.loop _) _=XX;refine gk cU
  (λi st cD=>st.length=199/\gt st 1= .pt 0 0/\gt st 12=i/\cD=[.row row]/\∃v,gt st 3= .sc (.int .i64 v))
  (λo st cD=>o= .exit 14/\st.length=199/\gt st 1= .pt 0 0/\cD=[.row row]/\∃v,gt st 3= .sc (.int .i64 v))
  l.length (by simp;omega) ⟨by simp[cp],by simp[g1],by simp[cp],rfl,v,by simp[g3]⟩ ?_ ?_
 .clear cU XX cp g1 g3 hX;rintro i fr hp cP ⟨cp,g1,R9,hh,v,g3⟩;subst hh;rcases dY hg cP with⟨x,hi,hx,hr,cC⟩|rfl
  .have fH:i<=10^15:=by omega
   have ae:=fs x (Zi hx);generalize xV (x.e)=sz at ae;obtain⟨b0,b1,b2,b3,b4,b5,b6,b7,b8,gC⟩:=iK x.e;unfold fD at hr cC;rw[gC]at hr ae;simp only[gC]at cC;have Hv:True:=trivial;have dH:True:=trivial;have hf:=cz fH;simp[cp,g1,g3,R9,cY,hi,hq,cC,ae,hf]
  .simp[cp,g1,g3,R9,cY,hq]
 .rintro o cG h' rfl ⟨rfl,cp,g1,hh,v,g3⟩;subst hh;simp;exact hX _ _ cp g1 g3
def ahH(M:Nat)(row:LA)(fr:LA)(v:Int)(cp:fr.length=199)(g3:gt fr 3=v):PM (M (cT 7 vo) (fr,[.row row])):=by
 refine⟨v,[.row row],?_⟩;simp[vo,cT,cR,f11,cp,g3]
def ahI(M:Nat)(l:List Tp)(cq:List LA)(row:LA)(cY:row[3]?=some (.ls 3 cq false))(hq:cq.length=l.length)(hg:∀i:Nat,cq[i]?=(l[i]?).map dW)(hl:l.length<=10^9)(hb:∀p∈l,p.nodes.length<=10^9/\p.cE.length<=10^9)(X:Code)(fp:∀p∈l,∃E:List Ep,E.length<=10^9/\(∀b h,cu cx M b 26 [.ag (dW p)] h=some (.ls 9 (cZ E) false,h))/\∀e∈E,∀b h,cu cx M b 25 [.ag (cM e)] h=some (.sc (.int .i64 (xV e)),h))(hX:∀fr v,fr.length=199->gt fr 1= .pt 0 0->gt fr 3= .sc (.int .i64 v)->PM (M X (fr,[.row row])))(fr:LA)(v:Int)(cp:fr.length=199)(g1:gt fr 1= .pt 0 0)(g3:gt fr 3= .sc (.int .i64 v)):
 PM (M (.seq (cL (cT 2 vo)) X) (fr,[.row row])):=by
 simp[vo,cT,cR,cL,f11];generalize cU:M (.loop _) _=XX;refine gk cU
  (λi st cD=>st.length=199/\gt st 1= .pt 0 0/\gt st 4=i/\cD=[.row row]/\∃v,gt st 3= .sc (.int .i64 v))
  (λo st cD=>o= .exit 0/\st.length=199/\gt st 1= .pt 0 0/\cD=[.row row]/\∃v,gt st 3= .sc (.int .i64 v))
  l.length (by simp;omega) ⟨by simp[cp],by simp[g1],by simp[cp],rfl,v,by simp[g3]⟩ ?_ ?_
 .clear cU XX cp g1 g3 hX;rintro i fr hp cP ⟨cp,g1,Cm,hh,v,g3⟩;subst hh;rcases dY hg cP with⟨p,hi,hx,hr,cC⟩|rfl
  .have fH:i<=10^15:=by omega
   obtain⟨E,hE,ae,fs⟩:=fp p (Zi hx);obtain⟨M9,V1⟩:=hb p (Zi hx);have hqE:=cX E;have hgE:=eM E;have vJ:=fK p.nodes;have MQ:=kV p.nodes;have xc:=fL p.cE;have vK:=kW p.cE;unfold dW at hr cC ae;generalize cZ E=rE,gZ p.nodes=rn,nD p.cE=re at *;simp[cp,g1,g3,Cm,cY,hi,hq,cC,ae];generalize ZY:M (.loop _) _=YY;refine gk ZY
    (λj st cD=>st.length=199/\gt st 1= .pt 0 0/\gt st 4=i/\gt st 5= .ls 9 rE false/\gt st 6=j/\cD=[.row row]/\∃v,gt st 3= .sc (.int .i64 v))
    (λo st cD=>o= .exit 2/\st.length=199/\gt st 1= .pt 0 0/\gt st 4=i/\cD=[.row row]/\∃v,gt st 3= .sc (.int .i64 v))
    E.length (by simp;omega) ⟨by simp[cp],by simp[g1],by simp[Cm],by simp[cp],by simp[cp],rfl,_,by simp[cp];rfl⟩ ?_ ?_
   .clear ZY YY cp g1 g3 Cm;rintro j fr hp wV ⟨cp,g1,Cm,g5,g6,hh,v,g3⟩;subst hh;by_cases hj:j<E.length
    .obtain⟨x,Lx,ED,lW⟩:=il hgE hj;have AR:j<=1000000000000000:=by omega
     have fz:=fs x (Zi Lx);generalize xV x=sz at fz;have Hv:=cB x;generalize cM x=ev at ED lW fz Hv;have dH:ev.take 9=ev:=Yy (by omega);have hf:=cz AR;simp[cp,g1,g3,Cm,g5,g6,hj,hqE,lW,fz,hf,dH,Hv]
    .have iJ:j=E.length:=Yb wV (Ya hj);subst iJ;simp[cp,g1,g3,Cm,g5,g6,hqE]
   .rintro o cG h' rfl ⟨rfl,cp,g1,Cm,hh,v,g3⟩;subst hh;simp;generalize hZZ:M (.loop _) _=ZZ;refine gk hZZ
     (λj st cD=>st.length=199/\gt st 1= .pt 0 0/\gt st 4=i/\gt st 7=j/\cD=[.row row]/\∃v,gt st 3= .sc (.int .i64 v))
     (λo st cD=>o= .exit 4/\st.length=199/\gt st 1= .pt 0 0/\gt st 4=i/\cD=[.row row]/\∃v,gt st 3= .sc (.int .i64 v))
     p.cE.length (by simp;omega) ⟨by simp[cp],by simp[g1],by simp[Cm],by simp[cp],rfl,v,by simp[g3]⟩ ?_ ?_
    .clear hZZ ZZ cp g1 g3 Cm;rintro j fr hp wV ⟨cp,g1,Cm,g7,hh,v,g3⟩;subst hh;by_cases hj:j<p.cE.length
     .obtain⟨x,Lx,ED,lW⟩:=il vK hj;have AR:j<=1000000000000000:=by omega
      unfold dE at ED lW;have hf:=cz AR;simp[cp,g1,g3,Cm,g7,cY,hi,hq,cC,hj,xc,lW,hf]
     .have iJ:j=p.cE.length:=Yb wV (Ya hj);subst iJ;simp[cp,g1,g3,Cm,g7,cY,hi,hq,cC,xc]
    .rintro o cG h' rfl ⟨rfl,cp,g1,Cm,hh,v,g3⟩;subst hh;simp;generalize hWW:M (.loop _) _=WW;refine gk hWW
      (λj st cD=>st.length=199/\gt st 1= .pt 0 0/\gt st 4=i/\gt st 8=j/\cD=[.row row]/\∃v,gt st 3= .sc (.int .i64 v))
      (λo st cD=>o= .exit 6/\st.length=199/\gt st 1= .pt 0 0/\gt st 4=i/\cD=[.row row]/\∃v,gt st 3= .sc (.int .i64 v))
      p.nodes.length (by simp;omega) ⟨by simp[cp],by simp[g1],by simp[Cm],by simp[cp],rfl,v,by simp[g3]⟩ ?_ ?_
     .clear hWW WW cp g1 g3 Cm;rintro j fr hp wV ⟨cp,g1,Cm,g8,hh,v,g3⟩;subst hh;by_cases hj:j<p.nodes.length
      .obtain⟨x,Lx,ED,lW⟩:=il MQ hj;have AR:j<=1000000000000000:=by omega
       unfold dD at ED lW;have hf:=cz AR;simp[cp,g1,g3,Cm,g8,cY,hi,hq,cC,hj,vJ,lW,hf]
      .have iJ:j=p.nodes.length:=Yb wV (Ya hj);subst iJ;simp[cp,g1,g3,Cm,g8,cY,hi,hq,cC,vJ]
     .rintro o cG h' rfl ⟨rfl,cp,g1,Cm,hh,v,g3⟩;subst hh;have hf:=cz fH;simp[cp,g1,g3,Cm,hi,hf]
  .simp[cp,g1,g3,Cm,cY,hq]
 .rintro o cG h' rfl ⟨rfl,cp,g1,hh,v,g3⟩;subst hh;simp;exact hX _ _ cp g1 g3
def EU{α:Type}(f:α->Nat){l:List α}{x:α}(h:x∈l):f x<=(l.map f).sum:=by
 induction l with
 |nil=>cases h
 |cons a l ih=>
  rw[Yn,Yo];rcases Yv.1 h with rfl|h
  .omega
  .have:=ih h;omega
def R_{α:Type}(f g:α->Nat)(l:List α)(h:∀x,f x<=g x):(l.map f).sum<=(l.map g).sum:=by
 induction l with
 |nil=>simp
 |cons a l ih=>have:=h a;rw[Yn,Yo,Yn,Yo];omega
def AZ(c:Cp):[AV.ag (cA c)].all calm=true:=by
 have h0:=dR c.e;simp[cA,calm]at h0|-;exact h0
def Sa(D d n:Nat)(c:Cp)(hb:J0 D d c)(hm:rI c<=1000000000)(hn:d+10<=n):∃v,∀b h,cu cx n b 11 [.ag (cA c)] h=some (.sc (.int .i64 v),h):=by
 obtain⟨M,rfl⟩:∃m,n=m+1:=⟨n-1,by omega⟩;have fs:∀e,oz D d e->∀b h,cu cx M b 25 [.ag (cM e)] h=some (.sc (.int .i64 (xV e)),h):=λe he b h=>by
  have:=Ge D d e he.1 he.2 (M-d-1) b h
  rwa [show M-d-1+d+1=M by omega]at this
 have RU:rI c=(c.paths.map vm).sum+(c.eu.map λx=>2*dc x).sum+2*dc c.e+(c.items.map λx=>2*dc x.e).sum+(c.order.map λx=>2*dc x.e).sum+(c.sets.map λx=>2*dc x.e+2).sum+(c.names.map λ_=>1).sum+1:=rfl;have fp:∀p∈c.paths,∃E:List Ep,E.length<=10^9/\(∀b h,cu cx M b 26 [.ag (dW p)] h=some (.ls 9 (cZ E) false,h))/\∀e∈E,∀b h,cu cx M b 25 [.ag (cM e)] h=some (.sc (.int .i64 (xV e)),h):=by
  intro p hp;obtain⟨M9,V1,Cf,cP⟩:=hb.paths p hp;have h1:=EU vm hp;have h2:vm p=(p.nodes.map ue).sum+(p.cE.map vX).sum:=rfl;have h3:=R_ nPp ue p.nodes (λx=>by unfold nPp ue;omega);have h4:=R_ gPp vX p.cE (λx=>by unfold gPp vX;omega);obtain⟨E,hE,hEl,hf⟩:=NM (M-1) (oz D d) p (λx hx q hq=>(M9 x hx).1 q hq) (λx hx q hq=>(V1 x hx).1 q hq) (by omega) (by omega);rw[show M-1+1=M by omega]at hf;exact⟨E,hEl,hf,λe he=>fs e (hE e he)⟩
 have hw:PM (M vo ([.ag (cA c)]++List.replicate 198 .un,[])):=by
  rw[show vo= .seq (cL (cT 0 vo)) (.seq (cL (cT 1 vo)) (.seq (cL (cT 2 vo)) (.seq (cL (cT 3 vo)) (.seq (cL (cT 4 vo)) (.seq (cL (cT 5 vo)) (.seq (cL (cT 6 vo)) (cT 7 vo))))))) by kernel_rfl];have s7:=λfr v cp(g1:gt fr 1= .pt 0 0)g3=>ahH M (cA c) fr v cp g3
  generalize cT 7 vo=Z7 at s7|-;have s6:=ahG M c.sets (y_ c.sets) (cA c) (nZ c).2.2.1 (iQ _) (qx _) hb.n5 Z7 (λx hx=>fs _ (hb.sets x hx)) s7;generalize Code.seq (cL (cT 6 vo)) Z7=Z6 at s6|-;have s5:=ahF M c.order (yZ c.order) (cA c) (nZ c).2.1 (iP _) (qw _) hb.n4 Z6 (λx hx=>fs _ (hb.order x hx)) s6;generalize Code.seq (cL (cT 5 vo)) Z6=Z5 at s5|-;have s4:=ahE M c.items (xa c.items) (cA c) (nZ c).1 (iO _) (qv _) hb.n3 Z5 (λx hx=>fs _ (hb.items x hx)) s5;generalize Code.seq (cL (cT 4 vo)) Z5=Z4 at s4|-;have s3:=ahD M c.eu (cZ c.eu) (cA c) rfl (cX _) (eM _) hb.n2 Z4 (λx hx=>fs _ (hb.eu x hx)) s4;generalize Code.seq (cL (cT 3 vo)) Z4=Z3 at s3|-;have s2:=ahI M c.paths (q7 c.paths) (cA c) rfl (iN _) (qu _) (Yj hb.n1 (by omega)) (λp hp=>⟨Yj (hb.paths p hp).2.2.1 (by omega),Yj (hb.paths p hp).2.2.2 (by omega)⟩) Z3 fp s3;generalize Code.seq (cL (cT 2 vo)) Z3=Z2 at s2|-;have fe:=fs c.e hb.e;clear s3 s4 s5 s6 s7 fp fs hm RU;have abu:=(nZ c).2.2.2;have Lz:((cA c).drop 5).take 9=cM c.e:=by
   obtain⟨a0,a1,a2,a3,a4,a5,a6,a7,a8,gC,ta⟩:=qG c;rw[gC,ta];rfl
  have gI:(cA c).length=21:=by simp[cA,cB]
  have adW:∀k,(cA c)[20]'k= .ls 1 (eE c.names) false:=λkx=>by obtain⟨_,e⟩:=Za.1 abu;exact e
  have hqs:=cI c.names;have hex:=cB c.e;generalize xV c.e=sz,cM c.e=ev,eE c.names=rt,cA c=row at *;simp[vo,cT,cR,cL,f11,gI,adW,Lz,fe];exact s2 _ _ (by simp) (by simp) (by simp;rfl)
 obtain⟨v,h',e⟩:=hw;refine⟨v,λb h=>?_⟩;refine fU f11 [.tmp 2] (AZ c) rfl ?_ b h;show Option.map Prod.fst (dT [.tmp 2] (M vo ([.ag (cA c)]++List.replicate 198 .un,[])))=_;rw[e];rfl
noncomputable def kLI :Code:=(f5.body).getD .skip
def NN(D d n:Nat)(q:List Cp)(hb:∀c∈q,J0 D d c)(hm:∀c∈q,rI c<=1000000000)(hl:q.length<=10^6)(hn:d+11<=n):∃w,∀b h,cu cx n b 5 [.ag (gL q)] h=some (.sc (.bool w),h):=by
 obtain⟨M,rfl⟩:∃m,n=m+1:=⟨n-1,by omega⟩;have fm:=λc hc=>Sa D d M c (hb c hc) (hm c hc) (by omega)
 have hw:∃w h',dT [.tmp 2] (M kLI ([.ag (gL q)]++List.replicate 21 .un,[]))=some (.sc (.bool w),h'):=by
  have hq:=jj q;have hg:=oQ q;unfold gL;generalize m_ q=cq at *;simp[kLI,f5];generalize cU:M (.loop _) _=XX;refine gk cU
   (λi st cD=>st.length=22/\gt st 1= .pt 0 0/\gt st 4=i/\cD=[.row [.ls 21 cq false]]/\∃v,gt st 3= .sc (.int .i64 v))
   (λo st _=>o= .exit 0/\st.length=22/\∃v,gt st 3= .sc (.int .i64 v))
   q.length (by simp;omega) ⟨by simp,by simp,by simp,rfl,0,by simp⟩ ?_ ?_
  .clear cU XX;rintro i fr hp cP ⟨cp,g1,g4,hh,v,g3⟩;subst hh;rcases dY hg cP with⟨c,hi,hx,hr,cC⟩|rfl
   .have fH:i<=10^15:=by omega
    obtain⟨u,ae⟩:=fm c (Zi hx);have hec:(cA c).length=21:=by simp[cA,cB]
    have LC:(cA c).take 21=cA c:=Yy (by omega);generalize cA c=row at *;have hf:=cz fH;simp[cp,g1,g3,g4,hi,hq,cC,hec,LC,ae,hf]
   .simp[cp,g1,g3,g4,hq]
  .rintro o cG h' rfl ⟨rfl,cp,v,g3⟩;simp[cp,g3];omega
 obtain⟨w,h',e⟩:=hw;refine⟨w,λb h=>?_⟩;refine fU f5 [.tmp 2] rfl rfl ?_ b h;show Option.map Prod.fst (dT [.tmp 2] (M kLI ([.ag (gL q)]++List.replicate 21 .un,[])))=_;rw[e];rfl
end
def aT(f:FuncId)(xs:LA):Option AV:=if f=6 then(if xs.isEmpty then some (.sc (.bool true))else none)else none
def adX(hC:kg cx):∀f xs r,aT f xs=some r->xs.all calm=true/\iG cx f xs r:=λf xs r h=>by
 unfold aT at h;split at h
 .rename_i e;split at h
  .rename_i e2;cases h;obtain rfl:=List.isEmpty_iff.1 e2;subst e;exact⟨rfl,R6 hC⟩
  .cases h
 .cases h
end Go.Proofs.YtmocfjnklfpnbaaGreatDoor
namespace Go.Proofs.YtmocfjnklfpnbaaGreatDoor
open Go Go.Ae Go.ChangeShapes Go.WideShapes Go.Proofs.Tryz
def RR(w:World)(cs:List Value)(row:LA):Prop:=cs.length=row.length/\∀(j:Nat)(y:AV),row[j]?=some y->(cs.getD j undef).oneCell'=true/\Ri w eK (cs.getD j undef) y
def Sb{w:World}{cs:List Value}{v:V}(h:RV w cs v):RR w cs (enc v):=⟨by rw[h.1,jN],h.2⟩
def Hw{α:Type}{p:Nat->α->Prop}:∀n,(∀i,i<n->∃x,p i x)->∃l:List α,l.length=n/\∀i v,l[i]?=some v->p i v
 |0,_=>⟨[],rfl,by simp⟩
 |
  n+1,h=>by
  obtain⟨l,hl,hp⟩:=Hw n λi hi=>h i (by omega)
  obtain⟨x,hx⟩:=h n (by omega);refine⟨l++[x],by simp[hl],λi v hv=>?_⟩;by_cases hi:i<n
  .rw[Zd (by omega)]at hv;exact hp i v hv
  .have du:=(Za.1 hv).1;simp at du;obtain rfl:i=n:=by omega
   rw[Zf (by omega),hl]at hv;simp at hv;subst hv;exact hx
def abv{w:World}{c1 c2:List Value}{r1 r2:LA}(h1:RR w c1 r1)(h2:RR w c2 r2):RR w (c1++c2) (r1++r2):=by
 refine⟨by rw[Zu,Zu,h1.1,h2.1],λj y hj=>?_⟩;by_cases du:j<r1.length
 .rw[Zd du]at hj;rw[Yg,Zd (by rw[h1.1];exact du),<-Yg];exact h1.2 j y hj
 .rw[Zf (by omega)]at hj;rw[Yg,Zf (by rw[h1.1];omega),h1.1,<-Yg];exact h2.2 _ y hj
def A1{w:World}{c:Value}{x:AV}(ho:c.oneCell'=true)(h:Ri w eK c x):RR w [c] [x]:=⟨rfl,λj y hj=>by
 match j,hj with
 |0,hj=>cases hj;exact⟨ho,h⟩
 |_+1,hj=>simp at hj⟩
section
variable {w : World}
def WI{a:Addr}{cap sz:Nat}{cq:List LA}(ik:0<sz)(hl:cq.length<=cap)(hm:cap<=maxLen)(cY:∀row∈cq,row.length=sz)(hp:∀(i:Nat)(row:LA),cq[i]?=some row->∃cs,w.cells? 0 (a.add (i*sz)) sz=some cs/\RR w cs row):Ri w eK (.slice (some a) cq.length cap) (.ls sz cq false):=by
 cases ki:cq with
 |nil=>exact .le _ _ _ _ hm (by simp)
 |cons v0 l0=>
  rw[<-ki];obtain⟨ZH,rO,tY⟩:=hp 0 v0 (by rw[ki];rfl);have hn0:ZH.length=sz:=by rw[tY.1];exact cY v0 (by rw[ki];simp)
  obtain⟨_,_,hg0⟩:=World.cells?_some rO;have h00:=hg0 0 ik;rw[Nat.zero_mul,Go.Deep.add_add,Zb (by omega)]at h00;obtain⟨b,o,sp⟩:=a;have h0:w.cell? ⟨b,o,sp⟩=some ZH[0]:=h00;unfold World.cell? at h0;cases hb:w.heap[b]? with
  |none=>rw[hb]at h0;cases h0
  |some ob=>
   rw[hb]at h0;cases ob<;>simp only[reduceCtorEq]at h0;rename_i cV t fz;cases sp with
   |some q=>simp at h0
   |
    none=>
    have at':∀k,w.cell? ⟨b,o+k,none⟩=cV[o+k]?:=λk=>by unfold World.cell?;rw[hb];rfl
    have aa0:∀k,(Addr.mk b o none).add k=⟨b,o+k,none⟩:=λk=>by
     unfold Addr.add;by_cases hk:k=0
     .subst hk;simp
     .simp[hk]
    have key:∀(i:Nat)(row:LA)(j:Nat)(x:AV),cq[i]?=some row->row[j]?=some x->cV[o+i*sz+j]?=some (cV.getD (o+i*sz+j) undef)/\(cV.getD (o+i*sz+j) undef).oneCell'=true/\Ri w eK (cV.getD (o+i*sz+j) undef) x:=by
     intro i row j x hi hj;have lj:=cY row (Zi hi);have hj5:j<sz:=by have:=(Za.1 hj).1;omega
     obtain⟨cs,hc,hr⟩:=hp i row hi;have hn:cs.length=sz:=by rw[hr.1,lj]
     obtain⟨_,_,hg⟩:=World.cells?_some hc;have h1:=hg j hj5;rw[Go.Deep.add_add,aa0,at',Zb (by omega)]at h1;have e:cV.getD (o+i*sz+j) undef=cs.getD j undef:=by
      rw[Zr,Nat.add_assoc,h1,Yg,Zb (by omega)]
     rw[e,Nat.add_assoc,h1,Yg,Zb (by omega)];have:=hr.2 j x hj;rw[Yg,Zb (by omega)]at this;exact⟨rfl,this.1,this.2⟩
    exact .ls b o cq.length cap sz cq false (λi j=>cV.getD (o+i*sz+j) undef) cV t fz (λh=>h) hb rfl hl hm (by simp) (λi row hi=>cY row (Zi hi)) (λi row j x hi hj=>⟨(key i row j x hi hj).1,(key i row j x hi hj).2.1⟩) (λi row j x hi hj=>(key i row j x hi hj).2.2)
end
def wf_i64{n:Int}(h:(Lit.int .i64 n).wf=true):i64 n:=by
 have h':(decide (IntKind.i64.min<=n) && decide (n<=IntKind.i64.max))=true:=h;simp only[Zh,Zy]at h';have e1:IntKind.i64.min= -9223372036854775808:=by decide
 have e2:IntKind.i64.max=9223372036854775807:=by decide
 unfold i64;omega
def LN :∀{l:List V},(∀x∈l,CT x)->ZQ l
 | [],_=>by rw[ZQ];trivial
 |
  y::l,h=>by
  rw[ZQ];exact⟨h y (by simp),LN λx hx=>h x (Yr _ hx)⟩
section
variable {H : Type} {en : TypeId × Value -> H} {w : World} {held : Bool}
def adY :∀(fuel:Nat)(cs:List Value)(x:DataW H × List MemPlace),DataW.trod en prog w 0 (λ_=>true) held fuel 35 cs=some x->Fits 35 x.1->∃v:V,kj v<=fuel/\CT v/\RV w cs v:=by
 intro fuel
 induction fuel using Nat.strongRecOn with
 |ind fuel ih=>
  intro cs x h hw;obtain⟨xs,n,rfl,rfl,hl,hn,hf⟩:=DataW.trod_struct underlying35 h;rw[Qv]at hl;have hn5:xs.length=5:=hn
  match cs,hl,xs,hn5 with
  |
   [c0,c1,c2,c3,c4],_,[x0,x1,x2,x3,x4],_=>
   have h0:=hf 0 _ rfl;have h1:=hf 1 _ rfl;have h2:=hf 2 _ rfl;have h3:=hf 3 _ rfl;have h4:=hf 4 _ rfl;clear hf h;simp only[List.getElem?_cons_zero,List.getElem?_cons_succ]at h0 h1 h2 h3 h4;obtain⟨k0,e0,_,b0⟩:=DataW.trod_int underlying3 h0;obtain⟨k1,e1,_,b1⟩:=DataW.trod_int underlying3 h1;obtain⟨k2,e2,_,b2⟩:=DataW.trod_int underlying3 h2;obtain⟨s3,e3,w3,_⟩:=DataW.trod_string underlying9 h3;obtain rfl:c0=_:=(List.cons.inj e0).1;obtain rfl:c1=_:=(List.cons.inj e1).1;obtain rfl:c2=_:=(List.cons.inj e2).1;obtain rfl:c3=_:=(List.cons.inj e3).1;have BU:Fits 35 (DataW.agg [x0.1,x1.1,x2.1,x3.1,x4.1]):=hw;unfold Fits at BU;rw[Cb]at BU;have hs:s3.size<=reachBytes:=BU _ (by
    refine Zk _ (Zk _ (Zk _ (Zx _ ?_)));rw[w3];exact List.mem_singleton.2 rfl)
   have hw4:Fits 33 x4.1:=λm hm=>BU m (Zk _ (Zk _ (Zk _ (Zk _ (Zx _ hm)))))
   have fin:∀(l:List V)(D:Nat),(∀y∈l,kj y<=D)->D+1<=n+1->(∀y∈l,CT y)->l.length<=reachBytes->c4.oneCell'=true->Ri w eK c4 (.ls 5 (fj l) false)->
    ∃v:V,kj v<=n+1/\CT v/\RV w [.int .i64 k0,.int .i64 k1,.int .i64 k2,.string s3,c4] v:=by
    intro l D hd hD hb qg ho hr;refine⟨.mk k0 k1 k2 s3 false l,?_,?_,rfl,λj y hj=>?_⟩
    .rw[kj];have:=K7 hd;omega
    .rw[CT];exact⟨wf_i64 b0,wf_i64 b1,wf_i64 b2,vD hs,vD qg,rfl,LN hb⟩
    .match j,hj with
     |0,hj=>cases hj;exact⟨rfl,.sc _ rfl⟩
     |1,hj=>cases hj;exact⟨rfl,.sc _ rfl⟩
     |2,hj=>cases hj;exact⟨rfl,.sc _ rfl⟩
     |3,hj=>cases hj;exact⟨rfl,.sc _ rfl⟩
     |4,hj=>cases hj;exact⟨ho,hr⟩
     |_+5,hj=>simp[enc]at hj
   rcases DataW.trod_slice underlying33 h4 with⟨e,_⟩|⟨a,len,cap,elems,rest,m,hm,e,wx,_,Sc,FD,PD,hq,_⟩
   .obtain rfl:c4=_:=(List.cons.inj e).1;exact fin [] 0 (by simp) (by omega) (by simp) (by simp) rfl (.le none 0 5 false (Yt _) (by simp))
   .obtain rfl:c4=_:=(List.cons.inj e).1;unfold Fits at hw4;rw[wx,zZ]at hw4;have cp:elems.length<=reachBytes:=by
     have:=hw4 _ (List.mem_cons_self ..);simp only[Yh]at this;omega
    obtain⟨l,qg,hp⟩:=K6 (p:=λi v=>kj v<=m/\CT v/\∃cs',w.cells? 0 (a.add (i*5)) 5=some cs'/\RV w cs' v) len (λi hi=>by
     have h5:=hq i hi;rw[Qv,Zb (by omega)]at h5;obtain⟨cs',q1,q2⟩:=Ye.1 h5;obtain⟨v,d1,d2,d3⟩:=ih m (by omega) cs' _ q2 (λk hk=>hw4 k (Yr _ (Zx _ (rU hk (Yf.2 ⟨_,List.getElem_mem _,rfl⟩)))));exact⟨v,d1,d2,cs',q1,d3⟩)
    have dB:∀y∈l,kj y<=m/\CT y:=λy hy=>by
     obtain⟨i,hi⟩:=List.getElem?_of_mem hy;exact⟨(hp i y hi).1,(hp i y hi).2.1⟩
    refine fin l m (λy hy=>(dB y hy).1) (by omega) (λy hy=>(dB y hy).2) (by omega) rfl ?_;have:=MS (w:=w) (a:=a) (cap:=cap) (l:=l) (by omega) FD (λi v hv=>(hp i v hv).2.2);rw[qg]at this;exact this
end
namespace bk
def one_le{H:Type}(d:DataW H):1<=Rows.uptoBulk d:=by
 cases d with
 |lit l=>cases l<;>simp[Rows.uptoBulk]
 |nil=>simp[Rows.uptoBulk]
 |ptr d=>simp[Rows.uptoBulk]
 |slice elems spare=>simp[Rows.uptoBulk]
 |agg parts=>simp[Rows.uptoBulk]
 |iface t d=>simp[Rows.uptoBulk]
 |map entries=>simp[Rows.uptoBulk]
 |held h=>simp[Rows.uptoBulk]
end bk
section
variable (H : Type) (en : TypeId × Value -> H) (w : World) (held : Bool)
def vp(N:Nat){α:Type}(t:TypeId)(encA:α->LA)(Q:Nat->α->Prop)(m:α->Nat):Prop:=
 ∀(fuel:Nat)(cs:List Value)(x:DataW H × List MemPlace),fuel<=N->DataW.trod en prog w 0 (λ_=>true) held fuel t cs=some x->Fits t x.1->∃a:α,Q fuel a/\m a<=Rows.uptoBulk x.1/\RR w cs (encA a)
def WJ(ts:List (TypeId × Nat × Nat))(cs:List Value):List Value:=ts.flatMap λt=>(cs.drop t.2.1).take t.2.2
def RdF(N:Nat){α:Type}(ts:List (TypeId × Nat × Nat))(encA:α->LA)(Q:Nat->α->Prop)(m:α->Nat):Prop:=
 ∀(n:Nat)(cs:List Value)(xs:List (DataW H × List MemPlace)),n<=N->xs.length=ts.length->(∀(i:Nat)(t:TypeId × Nat × Nat),ts[i]?=some t->DataW.trod en prog w 0 (λ_=>true) held n t.1 ((cs.drop t.2.1).take t.2.2)=xs[i]?)->(∀k∈DataW.weightsEach prog (ts.map (·.1)) (xs.map (·.1)),k<=reachBytes)->∃a:α,Q n a/\m a<=Rows.uptoBulkAll (xs.map (·.1))/\RR w (WJ ts cs) (encA a)
def cov :List (TypeId × Nat × Nat)->Nat->Nat->Bool
 | [],o,k=>o==k
 |t::ts,o,k=>t.2.1==o && cov ts (o+t.2.2) k
def Hx(cs:List Value):∀(ts:List (TypeId × Nat × Nat))(o:Nat),cov ts o cs.length=true->WJ ts cs=cs.drop o
 |
  [],o,h=>by
  simp only[cov,beq_iff_eq]at h;simp[WJ,h]
 |
  t::ts,o,h=>by
  simp only[cov,Zh,beq_iff_eq]at h;have:=Hx cs ts _ h.2;unfold WJ at this|-;rw[Ym,this,h.1,<-List.drop_drop,List.take_append_drop]
end
section
variable {H : Type} {en : TypeId × Value -> H} {w : World} {held : Bool}
def vp.le{N N':Nat}{α:Type}{t:TypeId}{encA:α->LA}{Q:Nat->α->Prop}{m:α->Nat}(h:vp H en w held N t encA Q m)(hn:N'<=N):vp H en w held N' t encA Q m:=λfuel cs x hf=>h fuel cs x (by omega)
def mC(N:Nat):RdF H en w held N [] (λ_:Unit=> []) (λ_ _=>True) (λ_=>0):=λn cs xs _ _ _ _=>⟨(),trivial,Yt _,rfl,λj y hj=>by simp at hj⟩
def dj{N:Nat}{α β:Type}{t:TypeId}{o s:Nat}{ts:List (TypeId × Nat × Nat)}{eA:α->LA}{eB:β->LA}{QA:Nat->α->Prop}{QB:Nat->β->Prop}{mA:α->Nat}{mB:β->Nat}(hA:vp H en w held N t eA QA mA)(hB:RdF H en w held N ts eB QB mB):
 RdF H en w held N ((t,o,s)::ts) (λp:α × β=>eA p.1++eB p.2) (λn p=>QA n p.1/\QB n p.2) (λp=>mA p.1+mB p.2):=by
 intro n cs xs hn hl hf hw
 match xs,hl with
 |
  x::xs,hl=>
  rw[Yn,Yn,DataW.weightsEach]at hw;obtain⟨a,q1,m1,r1⟩:=hA n _ _ hn (hf 0 _ rfl) (λk hk=>hw k (Zx _ hk));obtain⟨b,q2,m2,r2⟩:=hB n cs xs hn (by simpa using hl) (λi t' ht=>by simpa using hf (i+1) t' (by simpa using ht)) (λk hk=>hw k (Zk _ hk));refine⟨(a,b),⟨q1,q2⟩,?_,?_⟩
  .rw[Yn,Rows.uptoBulkAll];exact Nat.add_le_add m1 m2
  .exact abv r1 r2
def jl{N k:Nat}{α β:Type}{t:TypeId}{fs:Array Field}{ts:List (TypeId × Nat × Nat)}{eP:α->LA}{eB:β->LA}{Q:Nat->α->Prop}{QB:Nat->β->Prop}{m:α->Nat}{mB:β->Nat}(f:α->β)(ht:prog.underlying t=some (.struct fs))(hts:fs.toList.map (λf=>(f.type,f.offset,prog.cellsOf f.type))=ts)(hk:prog.cellsOf t=k)(hc:cov ts 0 k=true)(rf:RdF H en w held N ts eP Q m)(he:∀a,eP a=eB (f a))(hQ:∀n a,Q n a->QB (n+1) (f a))(hm:∀a,mB (f a)<=m a+1):vp H en w held (N+1) t eB QB mB:=by
 intro fuel cs x hN h hw;obtain⟨xs,n,rfl,rfl,hl,hn,hf⟩:=DataW.trod_struct ht h;rw[hk]at hl;have BU:∀k∈DataW.weightsEach prog (ts.map (·.1)) (xs.map (·.1)),k<=reachBytes:=by
  unfold Fits at hw;rw[DataW.weights,ht]at hw;rw[<-hts,List.map_map];exact hw
 obtain⟨a,q,ma,r⟩:=rf n cs xs (by omega) (by rw[<-hts,Yh,hn,Yu]) (λi t' JS=>by
  rw[<-hts,Zs]at JS;obtain⟨fd,Nu,rfl⟩:=Ze.1 JS;exact hf i fd (by simpa using Nu)) BU
 refine⟨f a,hQ n a q,?_,?_⟩
 .have:=hm a;simp only[Rows.uptoBulk];omega
 .rw[<-he];rw[Hx cs ts 0 (by rw[hl];exact hc),Yd]at r;exact r
def Hy{α:Type}{m:α->Nat}:∀(l:List α)(xs:List (DataW H)),l.length=xs.length->(∀(i:Nat)(a:α)(x:DataW H),l[i]?=some a->xs[i]?=some x->m a<=Rows.uptoBulk x)->(l.map m).sum<=Rows.uptoBulkAll xs
 | [],[],_,_=>by simp
 |
  a::l,x::xs,hl,h=>by
  have h0:=h 0 a x rfl rfl;have h1:=Hy l xs (by simpa using hl) λi b y hb hy=>h (i+1) b y (by simpa using hb) (by simpa using hy)
  rw[Yn,Yo,Rows.uptoBulkAll];omega
def jE{N:Nat}{α:Type}{encA:α->LA}{Q:Nat->α->Prop}{m:α->Nat}{te tl:TypeId}{sz bs:Nat}(ht:prog.underlying tl=some (.slice te))(ik:0<sz)(hc:prog.cellsOf te=sz)(hb:prog.bytesOf te=bs+1)(po:∀a,(encA a).length=sz)(adZ:∀m n a,m<=n->Q m a->Q n a)(rd:vp H en w held N te encA Q m):
 vp H en w held N tl (λl:List α=> [.ls sz (l.map encA) false]) (λn l=>(∀a∈l,Q n a)/\l.length<=reachBytes) (λl=>(l.map m).sum+1):=by
 intro fuel cs x hN h hw;rcases DataW.trod_slice ht h with⟨e,rfl⟩|⟨a,len,cap,elems,rest,n,hn,e,wx,_,Sc,FD,PD,hq,_⟩
 .subst e;exact⟨[],⟨by simp,by simp⟩,by simp[Rows.uptoBulk],A1 rfl (.le none 0 sz false (Yt _) (by simp))⟩
 .subst e;unfold Fits at hw;rw[wx,DataW.weights,ht]at hw;have cp:elems.length<=reachBytes:=by
   have:=hw _ (List.mem_cons_self ..);simp only[Yh]at this;rw[hb]at this;have h2:elems.length*1<=(elems.length+rest.length)*(bs+1):=Nat.mul_le_mul (by omega) (by omega);omega
  obtain⟨l,qg,hp⟩:=Hw (p:=λi v=>(Q n v/\∃cs',w.cells? 0 (a.add (i*sz)) sz=some cs'/\RR w cs' (encA v))/\∀y,elems[i]?=some y->m v<=Rows.uptoBulk y.1) len (λi hi=>by
   have h5:=hq i hi;rw[hc,Zb (by omega)]at h5;obtain⟨cs',q1,q2⟩:=Ye.1 h5;obtain⟨v,d1,d2,d3⟩:=rd n cs' _ (by omega) q2 (λk hk=>hw k (Yr _ (Zx _ (rU hk (Yf.2 ⟨_,List.getElem_mem _,rfl⟩)))));exact⟨v,⟨d1,cs',q1,d3⟩,λy hy=>by
    rw[Zb (by omega)]at hy;cases hy;exact d2⟩)
  refine⟨l,⟨λy hy=>?_,by omega⟩,?_,A1 rfl ?_⟩
  .obtain⟨i,hi⟩:=List.getElem?_of_mem hy;exact adZ _ _ _ (by omega) (hp i y hi).1.1
  .rw[wx];have:=Hy (H:=H) (m:=m) l (elems.map (·.1)) (by rw[Yh];omega) (λi a' x' h1 h2=>by
    rw[Zs]at h2;obtain⟨y,hy,rfl⟩:=Ze.1 h2;exact(hp i a' h1).2 y hy)
   simp only[Rows.uptoBulk];omega
  .have:=WI (w:=w) (a:=a) (cap:=cap) (cq:=l.map encA) ik (by rw[Yh];omega) FD (λrow hr=>by obtain⟨v,_,rfl⟩:=Yf.1 hr;exact po v) (λi row hr=>by
    rw[Zs]at hr;obtain⟨v,hv,rfl⟩:=Ze.1 hr;exact(hp i v hv).1.2)
   rw[Yh,qg]at this;exact this
def NP(N:Nat):vp H en w held N 35 enc (λn v=>kj v<=n/\CT v) (λ_=>0):=by
 intro fuel cs x _ h hw;obtain⟨v,d1,d2,d3⟩:=adY fuel cs x h hw;exact⟨v,⟨d1,d2⟩,Yt _,Sb d3⟩
def oU(N:Nat):vp H en w held N 3 (λk:Int=> [.sc (.int .i64 k)]) (λ_ _=>True) (λ_=>0):=by
 intro fuel cs x _ h hw;obtain⟨k,e,_,_⟩:=DataW.trod_int underlying3 h;subst e;exact⟨k,trivial,Yt _,A1 rfl (.sc _ rfl)⟩
def sv(N:Nat):vp H en w held N 4 (λk:Bool=> [.sc (.bool k)]) (λ_ _=>True) (λ_=>0):=by
 intro fuel cs x _ h hw;obtain⟨k,e,_⟩:=DataW.trod_bool underlying4 h;subst e;exact⟨k,trivial,Yt _,A1 rfl (.sc _ rfl)⟩
def iU(N:Nat):vp H en w held N 9 (λs:ByteArray=> [.sc (.string s)]) (λ_ s=>s.size<=1000000000000000) (λ_=>1):=by
 intro fuel cs x _ h hw;obtain⟨s,e,wx,_⟩:=DataW.trod_string underlying9 h;subst e;refine⟨s,?_,bk.one_le _,A1 rfl (.sc _ rfl)⟩;unfold Fits at hw;rw[wx]at hw;exact vD (hw _ (List.mem_singleton.2 rfl))
end
end Go.Proofs.YtmocfjnklfpnbaaGreatDoor
