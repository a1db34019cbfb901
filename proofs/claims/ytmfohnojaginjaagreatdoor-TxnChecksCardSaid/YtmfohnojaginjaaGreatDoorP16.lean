/- Part of the proof. -/
import Derived.Test.YtmfohnojaginjaaGreatDoorP15
set_option linter.all false
set_option maxHeartbeats 16000000
set_option maxRecDepth 100000
namespace Go.Proofs.YtmfohnojaginjaaGreatDoor
open Go Go.Ae Go.Proofs.Tryz
section
attribute [local simp] cn eD
@[simp] def afg(c:fZ)(h:0< (fK c).length):(fK c)[0]'h=c.key:=rfl
attribute [local simp] qz
def YU(l:List fZ)(x:ByteArray)(v:V):[eU l false,.sc (.string x),.ag (enc v)].all dk=true:=by
 have:dk (.ag (enc v))=true:=kb v;rw[Zn,Zn,Zn,this];rfl
def g_(l:List fZ)(x:ByteArray)(v:V):List fZ:=OV (CS x) (Dc x) ⟨x,v⟩ (!lr v) l
def jY(l m:List fZ):d_ (l++m)=d_ l++d_ m:=by simp[d_]
def bn :Bool->Nat
 |true=>0
 |false=>1
def Hy{α:Type}{lt eq:α->Bool}{n:α}{add:Bool}:∀(l:List α)(acc:List α)(d:Bool),((l.foldl (jA lt eq n add) (acc,d)).1).length<=acc.length+l.length+bn d
 | [],acc,d=>by simp
 |
  x::l,acc,d=>by
  rw[List.foldl_cons];have ih:=Hy (lt:=lt) (eq:=eq) (n:=n) (add:=add) l (jA lt eq n add (acc,d) x).1 (jA lt eq n add (acc,d) x).2;refine Yp ih ?_;have h1:(if eq x=true then([]:List α)else[x]).length<=1:=by split<;>simp
  have h2:(if(!d && !lt x && add)=true then[n]else[]).length+bn (d|| !lt x)<=bn d:=by
   rcases Qb (lt x)with e|e<;>rw[e]<;>cases d<;>cases add<;>simp[bn]
  simp only[jA,Zu,Xe];omega
def Fp{α:Type}(lt eq:α->Bool)(n:α)(add:Bool)(l:List α)(i:Nat):((nj lt eq n add l i).1).length<=l.length+1:=by
 unfold nj;have:=Hy (lt:=lt) (eq:=eq) (n:=n) (add:=add) (l.take i) [] false;simp only[Xq,Xs,Xf,bn]at this;omega
def Bz{h:Hp}{x x':AV}{v:Value}(e:cD h 7 x=some x'):cD h 8 (.tp [x,.sc v])=some (.tp [x',.sc v]):=by
 show(List.mapM (cD h 7) [x,.sc v]).map AV.tp=_;rw[Zo,e];rfl
def zg(N D:Nat)(b:Bool)(l:List fZ)(x:ByteArray)(v:V)(h:Hp)(hl:l.length<=100000)(hd:gS v<=D)(hv:jK v):
 ch cx (N+3*D+8) b 250 [eU l false,x,.ag (enc v)] h=some (.tp [dt 6 (d_ (g_ l x v)),.sc (.bool (decide ((g_ l x v).length<=16)))],h):=by
 suffices H:∃r,r=AV.tp [dt 6 (d_ (g_ l x v)),.sc (.bool (decide ((g_ l x v).length<=16)))]/\∀b h,ch cx (N+3*D+8) b 250 [eU l false,x,.ag (enc v)] h=some (r,h) by
  obtain⟨r,rfl,hr⟩:=H;exact hr b h
 refine gP (f:=250) (n:=N+3*D+7) (args:=[eU l false,.sc (.string x),.ag (enc v)]) (λr=>r= .tp [dt 6 (d_ (g_ l x v)),.sc (.bool (decide ((g_ l x v).length<=16)))]) ⟨f250.ntmps,(f250.body).getD .skip,[.tmp 6,.tmp 7]⟩ (by kernel_rfl) (by kernel_rfl) rfl (by kernel_rfl) (by simp[f250]) (YU _ _ _) ?_;have hq:=cP l;have hg:=lT l;have aa:=λb h=>Ht N D b v h hd hv
 have da:=Fp (CS x) (Dc x) ⟨x,v⟩ (!lr v) l;unfold g_ OV;unfold eU;generalize lr v=W5 at aa da|-;generalize hP:nj (CS x) (Dc x) ⟨x,v⟩ (!W5) l=P at da|-;generalize d_ l=cg at hq hg;generalize N+3*D+7=M at aa;have h0:P 0=([],false):=by rw[<-hP];rfl
 have dM:∀{i:Nat}{c:fZ},l[i]?=some c->P (i+1)=jA (CS x) (Dc x) ⟨x,v⟩ (!W5) (P i) c:=λhc=>by rw[<-hP];exact qx _ _ hc
 clear hP;simp[f250];refine ej (C:=cx) (G:=λr=>∃r0 h',dL _ (eX _ _ (du _ r) _)=some (r0,h')/\cD h' 8 r0=some (.tp [dt 6 (d_ (wj ⟨x,v⟩ (!W5) (P l.length))),.sc (.bool (decide ((wj ⟨x,v⟩ (!W5) (P l.length)).length<=16)))]))
  (λi s=>s.1.length=68/\gt s.1 0= .ls 6 cg false/\gt s.1 1=x/\gt s.1 5= .pt 0 0/\gt s.1 9= .sc (.bool (P i).2)/\gt s.1 10=i/\s.2[0]?=some (.row (enc v))/\∃y,gt s.1 8=y/\gz s.2 6 (d_ (P i).1) y)
  (λo s=>o= .exit 0/\s.1.length=68/\gt s.1 1=x/\gt s.1 5= .pt 0 0/\gt s.1 9= .sc (.bool (P l.length).2)/\s.2[0]?=some (.row (enc v))/\∃y,gt s.1 8=y/\gz s.2 6 (d_ (P l.length).1) y) l.length (by simp;omega) (by simp[h0,d_,gz]) ?_ ?_
 .rintro i fr h jw ⟨cf,e0,e1,e5,e9,x8,uG,y,e8,hy⟩;simp only at cf e0 e1 e5 e9 x8 uG e8 hy;by_cases hi:i<l.length
  .obtain⟨c,hc⟩:=eA hi;have hr:cg[i]?=some (fK c):=by rw[hg,hc];rfl
   have cz:=gA hr
   have hf:=cG (i:=i) (by omega);have dq:=dM hc;have zX:=da i;generalize P i=P0 at dq zX e9 hy;obtain⟨p0,d0⟩:=P0;simp only at e9 hy zX;have afI:∀k n,y= .sl k 6 0 n false->(0:Nat)≠k:=λk n ek e=>by
    subst e;rcases hy with⟨_,hy⟩|⟨eF,id,hy,cZ⟩
    .rw[ek]at hy;cases hy
    .rw[ek]at hy;simp only[AV.sl.injEq]at hy;obtain⟨rfl,_⟩:=hy;rw[uG]at cZ;simp only[Zc,eK.row.injEq]at cZ;have h1:=congrArg List.length cZ;rw[dB,cQ (d_ p0) (gQ p0).1]at h1;cases p0 with
     |nil=>exact absurd rfl eF
     |cons a p0=>simp[d_]at h1;omega
   have dN:=gQ p0;have q0:=kV (λv=>hy.np v)
   have keep:∀(lX:List fZ)(y1:AV)(h1:Hp),gz h1 6 (d_ lX) y1->lX.length<=200002->h1[0]?=some (.row (enc v))->(∀k n,y1= .sl k 6 0 n false->(0:Nat)≠k)->
    ∃id h2,ew cx (h1++[.row (fK c)]) 49 y1 (.sl h1.length 6 0 1 false)=some (.sl id 6 0 (lX.length+1) false,h2)/\gz h2 6 (d_ (lX++[c])) (.sl id 6 0 (lX.length+1) false)/\h2[0]?=some (.row (enc v)):=by
    intro lX y1 h1 hb hn hz hk;obtain⟨id,h2,a1,a2,a3⟩:=xm (t:=49) nI rfl h1 (fK c) (d_ lX) y1 hb (by simp) (gQ lX).1 (by omega) (by rw[cP];omega) (by omega);rw[cP]at a1;refine⟨id,h2,a1,?_,a3 0 _ hz (λk n e=>hk k n e)⟩;rw[jY];have:=oy (cg:=d_ lX) (c:=fK c) (sz:=6) a2
    rwa [cP]at this
   have aiW:∃id h2,ew cx (h++[.row (.sc (.string x)::enc v)]) 49 y (.sl h.length 6 0 1 false)=some (.sl id 6 0 (p0.length+1) false,h2)/\gz h2 6 (d_ (p0++[⟨x,v⟩])) (.sl id 6 0 (p0.length+1) false)/\h2[0]?=some (.row (enc v))/\(0:Nat)≠id:=by
    obtain⟨id,h2,a1,a2,a3⟩:=xm (t:=49) nI rfl h (fK ⟨x,v⟩) (d_ p0) y hy (by simp) dN.1 (by omega) (by rw[cP];omega) (by omega);rw[cP]at a1;have Hd:=a3 0 _ uG (λk n e=>afI k n e);refine⟨id,h2,a1,?_,Hd,λe=>?_⟩
    .rw[jY];have:=oy (cg:=d_ p0) (c:=fK ⟨x,v⟩) (sz:=6) a2
     rwa [cP]at this
    .subst e;rw[Hd]at a2;simp only[Zc,eK.row.injEq]at a2;have h1:=congrArg List.length a2;rw[dB,List.flatten_append,Zu]at h1;simp at h1<;>omega
   obtain⟨id2,h2,k1,k2,k3⟩:=keep p0 y h hy (by omega) uG afI;obtain⟨id3,h3,n1,n2,n3,n4⟩:=aiW;obtain⟨id4,h4,m1,m2,m3⟩:=keep (p0++[⟨x,v⟩]) _ h3 n2 (by simp;omega) n3 (λk n e=>by simp only[AV.sl.injEq]at e;rw[<-e.1];exact n4);simp only[Zu,List.length_singleton]at m1 m2;cases d0
   .cases dm:nC c.key x
    .cases W5
     .cases heq:fm c.key x
      .simp[cf,e0,e1,e5,e8,e9,x8,q0,dq,uG,hi,hq,cz,hf,aa,dm,heq,n1,m1,jA,CS,Dc,m3];simpa using m2
      .simp[cf,e0,e1,e5,e8,e9,x8,q0,dq,uG,hi,hq,cz,hf,aa,dm,heq,n1,n3,jA,CS,Dc];exact n2
     .cases heq:fm c.key x
      .simp[cf,e0,e1,e5,e8,e9,x8,q0,dq,uG,hi,hq,cz,hf,aa,dm,heq,k1,k3,jA,CS,Dc];exact k2
      .simp[cf,e0,e1,e5,e8,e9,x8,dq,uG,hi,hq,cz,hf,aa,dm,heq,jA,CS,Dc];exact hy
    .cases heq:fm c.key x
     .simp[cf,e0,e1,e5,e8,e9,x8,q0,dq,hi,hq,cz,hf,dm,heq,k1,k3,jA,CS,Dc];exact k2
     .simp[cf,e0,e1,e5,e8,e9,x8,dq,uG,hi,hq,cz,hf,dm,heq,jA,CS,Dc];exact hy
   .cases heq:fm c.key x
    .simp[cf,e0,e1,e5,e8,e9,x8,q0,dq,hi,hq,cz,hf,heq,k1,k3,jA,CS,Dc];exact k2
    .simp[cf,e0,e1,e5,e8,e9,x8,dq,uG,hi,hq,cz,hf,heq,jA,CS,Dc];exact hy
  .have k_:i=l.length:=by omega
   subst k_;simp[cf,e0,e1,e5,e8,e9,x8,uG,hq];exact hy
 .rintro o fr h hn ⟨rfl,cf,e1,e5,e9,uG,y,e8,hy⟩;simp only at cf e1 e5 e9 uG e8 hy;have zX:=da l.length;generalize P l.length=P0 at zX e9 hy;obtain⟨p0,d0⟩:=P0;simp only at e9 hy zX;have gw:∀(ps:List fZ)(h1:Hp)(y1:AV),gz h1 6 (d_ ps) y1->cD h1 7 y1=some (dt 6 (d_ ps)):=λps h1 y1 hb=>fJ (by omega) (gQ ps).1 (gQ ps).2 hb
  have q0:=kV (λv=>hy.np v)
  have nz:∀e:p0.length=p0.length,(d_ p0).length=p0.length:=λ_=>cP p0
  by_cases oz:d0=false/\W5=false
  .obtain⟨rfl,rfl⟩:=oz;obtain⟨id,h2,a1,a2,a3⟩:=xm (t:=49) nI rfl h (fK ⟨x,v⟩) (d_ p0) y hy (by simp) (gQ p0).1 (by omega) (by rw[cP];omega) (by omega);rw[cP]at a1;have a4:cD h2 7 (.sl id 6 0 (p0.length+1) false)=some (dt 6 (d_ (p0++[⟨x,v⟩]))):=gw _ _ _ (by
    rw[jY];have:=oy (cg:=d_ p0) (c:=fK ⟨x,v⟩) (sz:=6) a2
    rwa [cP]at this)
   have Av:ew cx (h++[.row (.sc (.string x)::enc v)]) 49 y (.sl h.length 6 0 1 false)=some (.sl id 6 0 (p0.length+1) false,h2):=a1;simp[cf,e1,e5,e8,e9,q0,uG,aa,Av,wj];exact⟨_,_,⟨rfl,rfl⟩,by rw[Bz a4]<;>simp only[Zc,AV.tp.injEq,List.cons.injEq,AV.sc.injEq,Value.bool.injEq,decide_eq_decide,true_and,and_true]<;>omega⟩
  .have hz:wj ⟨x,v⟩ (!W5) (p0,d0)=p0:=by
    unfold wj;cases d0<;>cases W5<;>simp_all
   rw[hz];have a4:=gw _ _ _ hy;rcases hy with⟨hp,rfl⟩|⟨eF,id,rfl,cZ⟩
   .have J4:p0=[]:=Zl (by rw[<-cP,hp];rfl);subst J4;cases d0<;>cases W5<;>simp at oz<;>(simp[cf,e5,e8,e9,uG,aa];exact⟨_,_,⟨rfl,rfl⟩,by rw[Bz a4]⟩)
   .rw[cP]at *;cases d0<;>cases W5<;>simp at oz<;>(simp[cf,e5,e8,e9,uG,aa];exact⟨_,_,⟨rfl,rfl⟩,by rw[Bz a4]<;>simp only[Zc,AV.tp.injEq,List.cons.injEq,AV.sc.injEq,Value.bool.injEq,decide_eq_decide,true_and,and_true]<;>omega⟩)
def MP(l m:List ByteArray):fj (l++m)=fj l++fj m:=by simp[fj]
def Hz{t:TypeId}{i:Ti}{sz bytes:Nat}{ag:Bool}{ez:List Value}(hT:cx.T t=some i)(hk:i.kd= .slice sz ag bytes ez)(h:Hp)(cg more:List LA)(z:Bool)(x:AV)(hx:gz h sz cg x)(hr:∀r∈cg,r.length=sz)(hm:∀r∈more,r.length=sz)(fX:0<sz)(hn:cg.length+more.length<=10^9)(hb:bytes<=1000):
 ∃y h',ew cx h t x (.ls sz more z)=some (y,h')/\gz h' sz (cg++more) y:=by
 obtain⟨size,agg,zero,kd⟩:=i;simp only at hk;subst hk;have abO:cg.length+more.length<=maxLen:=by unfold maxLen;omega
 have wP:(cg.length+more.length)*bytes<=140737488355328:=by
  have:=Nat.mul_le_mul hn hb;omega
 unfold ew;rw[hT];cases more with
 |
  nil=>
  refine⟨x,h,?_,by simpa using hx⟩;rcases hx with⟨rfl,rfl⟩|⟨eF,id,rfl,cZ⟩<;>simp[ka,ju]
 |cons r more=>
  rcases hx with⟨rfl,rfl⟩|⟨eF,id,rfl,cZ⟩
  .refine⟨.sl h.length sz 0 (r::more).length false,h++[.row (r::more).flatten],?_,.inr ⟨by simp,h.length,by simp⟩⟩;simp only[ka,beq_self_eq_true,Bool.and_self,if_true,ju];rw[cm (by simp),cq ⟨by simp at abO|-;omega,by simpa using wP⟩]
  .have CR:=cQ cg hr;refine⟨.sl h.length sz 0 (cg.length+(r::more).length) false,h.set id .dead++[.row (cg.flatten++(r::more).flatten)],?_,.inr ⟨by simp,h.length,by simp,?_⟩⟩
   .have tE:0< (r::more).length*sz:=Nat.mul_pos (by simp) fX;simp only[ka,beq_self_eq_true,Bool.and_self,if_true,ju,cZ];rw[cm (by simp),cm (by rw[Xp];omega),cq ⟨trivial,CR,abO,wP⟩]
   .rw[Zf (by simp)];simp
def HA(n:Nat)(b:Bool)(l:List ByteArray)(x:ByteArray)(h:Hp)(hl:l.length<=100000):
 ch cx (n+1) b 254 [iD l false,x] h=some (dt 1 (fj (l.filter λs=> !yu x s)),h):=by
 suffices H:∃r,r=dt 1 (fj (l.filter λs=> !yu x s))/\∀b h,ch cx (n+1) b 254 [iD l false,x] h=some (r,h) by
  obtain⟨r,rfl,hr⟩:=H;exact hr b h
 refine gP (f:=254) (n:=n) (args:=[iD l false,.sc (.string x)]) (λr=>r=dt 1 (fj (l.filter λs=> !yu x s))) ⟨f254.ntmps,(f254.body).getD .skip,[.tmp 4]⟩ (by kernel_rfl) (by kernel_rfl) rfl (by kernel_rfl) (by simp[f254]) rfl ?_;have hq:=di l;have hg:=lS l;unfold iD;generalize fj l=cg at hq hg;generalize hP:(λi=>(l.take i).filter λs=> !yu x s)=P;have h0:P 0=[]:=by rw[<-hP];rfl
 have tL:P l.length=l.filter λs=> !yu x s:=by rw[<-hP];simp
 have dM:∀{i:Nat}{c:ByteArray},l[i]?=some c->P (i+1)=P i++(if yu x c then[]else[c]):=λ{i c}hc=>by
  rw[<-hP];simp only[List.take_add_one,hc,Yq]
  congr 1
  cases hq:yu x c<;>simp[hq]
 have da:∀i,(P i).length<=l.length:=λi=>by rw[<-hP];exact Yp (Xu _ _) (by simp;omega)
 rw[<-tL];clear hP tL;simp[f254];refine ej (C:=cx) (G:=λr=>∃r0 h',dL _ (eX _ _ (du _ r) _)=some (r0,h')/\cD h' 8 r0=some (dt 1 (fj (P l.length))))
  (λi s=>s.1.length=27/\gt s.1 0= .ls 1 cg false/\gt s.1 1=x/\gt s.1 6= .sc (.int .i64 i)/\∃y,gt s.1 5=y/\gz s.2 1 (fj (P i)) y)
  (λo s=>o= .exit 0/\s.1.length=27/\∃y,gt s.1 5=y/\gz s.2 1 (fj (P l.length)) y) l.length (by simp;omega) (by simp[h0,fj,gz]) ?_ ?_
 .rintro i fr h jw ⟨cf,e0,e1,e6,y,e5,hy⟩;simp only at cf e0 e1 e6 e5 hy;by_cases hi:i<l.length
  .obtain⟨c,hc⟩:=eA hi;have hr:cg[i]?=some [.sc (.string c)]:=by rw[hg,hc];rfl
   have cz:=gA hr
   have hf:=cG (i:=i) (by omega);have dq:=dM hc;have zX:=da i;generalize P i=p0 at dq zX hy;have q0:=kV (λv=>hy.np v)
   obtain⟨id,h2,a1,a2,a3⟩:=xm (t:=48) kh rfl h [c] (fj p0) y hy rfl (gm p0).1 (by omega) (by rw[di];omega) (by omega);have a4:=oy (cg:=fj p0) (c:=[.sc (.string c)]) (sz:=1) a2;rw[di]at a1 a4;cases heq:fm c x
   .simp[cf,e0,e1,e5,e6,q0,dq,hi,hq,cz,hf,heq,a1,yu,MP];exact a4
   .simp[cf,e0,e1,e5,e6,dq,hi,hq,cz,hf,heq,yu];exact hy
  .have k_:i=l.length:=by omega
   subst k_;simp[cf,e0,e5,e6,hq];exact hy
 .rintro o fr h hn ⟨rfl,cf,y,e5,hy⟩;simp only at cf e5 hy;have q0:=kV (λv=>hy.np v)
  have a4:cD h 8 y=some (dt 1 (fj (P l.length))):=fJ (by omega) (gm _).1 (gm _).2 hy;simp[cf,e5,q0];exact gq a4
def KV(n:Nat)(b:Bool)(l pre post:List ByteArray)(x:ByteArray)(h:Hp)(hl:l.length<=100000)(hs:gZ (KS x) (yu x) l pre [] post):
 ch cx (n+1) b 253 [iD l false,x] h=some (.ls 1 (fj (pre++[x]++post)) false,h):=by
 suffices H:∃r,r=AV.ls 1 (fj (pre++[x]++post)) false/\∀b h,ch cx (n+1) b 253 [iD l false,x] h=some (r,h) by
  obtain⟨r,rfl,hr⟩:=H;exact hr b h
 refine gP (f:=253) (n:=n) (args:=[iD l false,.sc (.string x)]) (λr=>r= .ls 1 (fj (pre++[x]++post)) false) ⟨f253.ntmps,(f253.body).getD .skip,[.tmp 4]⟩ (by kernel_rfl) (by kernel_rfl) rfl (by kernel_rfl) (by simp[f253]) rfl ?_;have hq:=di l;have hg:=lS l;have hp:pre.length<=l.length:=by rw[hs.e];simp
 have qD:pre.length+post.length=l.length:=by rw[hs.e];simp
 have wc:(fj l).take pre.length=fj pre:=by unfold fj;rw[<-List.map_take,hs.take]
 have Ke:(fj l).drop pre.length=fj post:=by unfold fj;rw[<-List.map_drop,hs.drop];rfl
 unfold iD;generalize fj l=cg at hq hg wc Ke;simp[f253];refine ej (C:=cx) (G:=λr=>∃r0 h',dL _ (eX _ _ (du _ r) _)=some (r0,h')/\cD h' 8 r0=some (.ls 1 (fj (pre++x::post)) false))
  (λi s=>s.1.length=47/\gt s.1 0= .ls 1 cg false/\gt s.1 1=x/\gt s.1 5=()/\gt s.1 6=i/\i<=pre.length)
  (λo s=>o= .exit 0/\s.1.length=47/\gt s.1 0= .ls 1 cg false/\gt s.1 1=x/\gt s.1 5=()/\gt s.1 6=pre.length) pre.length (by simp;omega) (by simp) ?_ ?_
 .rintro i fr h jw ⟨cf,e0,e1,e5,e6,hip⟩;simp only at cf e0 e1 e5 e6;by_cases hi:i<l.length
  .obtain⟨c,hc⟩:=eA hi;have hr:cg[i]?=some [.sc (.string c)]:=by rw[hg,hc];rfl
   have cz:=gA hr
   have hf:=cG (i:=i) (by omega);have dm:=hs.lt_iff hc;cases heq:nC c x
   .have:i=pre.length:=by
     have h1:¬i<pre.length:=λq=>by have:=dm.2 q;unfold KS at this;rw[heq]at this;cases this
     omega
    subst this;simp[cf,e0,e1,e5,e6,hi,hq,cz,heq]
   .have h1:i<pre.length:=dm.1 heq;simp[cf,e0,e1,e5,e6,hi,hq,cz,hf,heq,h1];omega
  .have k_:i=pre.length:=by omega
   subst k_;simp[cf,e0,e1,e5,e6,hi,hq]
 .rintro o fr h hn ⟨rfl,cf,e0,e1,e5,e6⟩;simp only at cf e0 e1 e5 e6;obtain⟨y1,h1,a1,a2⟩:=Hz (t:=48) kh rfl h [] (fj pre) false (.sc (.slice none 0 0)) (.inl ⟨rfl,rfl⟩) (by simp) (gm pre).1 (by omega) (by rw[di];simp;omega) (by omega);rw[Zw]at a2;have q1:=kV (λv=>a2.np v)
  obtain⟨id,h2,b1,b2,b3⟩:=xm (t:=48) kh rfl h1 [x] (fj pre) y1 a2 rfl (gm pre).1 (by omega) (by rw[di];omega) (by omega);have b4:=oy (cg:=fj pre) (c:=[.sc (.string x)]) (sz:=1) b2;rw[di]at b1 b4;have e7:fj pre++[[.sc (.string x)]]=fj (pre++[x]):=by simp[fj]
  rw[e7]at b4;obtain⟨y3,h3,c1,c2⟩:=Hz (t:=48) kh rfl h2 (fj (pre++[x])) (fj post) false _ b4 (gm _).1 (gm post).1 (by omega) (by rw[di,di];simp;omega) (by omega);rw[<-MP]at c2;have q3:=kV (λv=>c2.np v)
  have c3:cD h3 8 y3=some (.ls 1 (fj (pre++x::post)) false):=by
   rw[fJ (by omega) (gm _).1 (gm _).2 c2];simp[dt,fj]
  have htd:(fj post).take (l.length-pre.length)=fj post:=Xa (by rw[di];omega);have aiX:∀c,l[pre.length]?=some c->fm c x=false:=λc hc=>by
   have:=hs.Hx hc;simpa[yu]using this
  by_cases hi:pre.length<l.length
  .obtain⟨c,hc⟩:=eA hi;have hr:cg[pre.length]?=some [.sc (.string c)]:=by rw[hg,hc];rfl
   have cz:=gA hr
   have eF:decide ((pre.length:Int)=(l.length:Int))=false:=by simp;omega
   have heq:=aiX c hc;simp[cf,e0,e1,e5,e6,hi,hq,cz,wc,Ke,rC,ig,hp,a1,q1,b1,c1,q3,heq,eF,htd];exact gq c3
  .have eF:decide ((pre.length:Int)=(l.length:Int))=true:=by simp;omega
   simp[cf,e0,e1,e5,e6,hq,wc,Ke,rC,ig,hp,a1,q1,b1,c1,q3,eF,htd];exact gq c3
inductive Tg where
 |none
 |box
 |nodes
 |cj
 |qE (n:Int)
 |prop (n:Int)
 |DW (n:Int)
def iK(h:Hp)(tag:Nat->Tg)(tg:Tg)(sz:Nat)(cg:List LA)(x:AV):Prop:=
 (cg=[]/\(x= .ls sz [] true\/x=()))\/∃id cs,x= .sl id sz 0 cg.length false/\h[id]?=some (.row cs)/\cs.take (cg.length*sz)=cg.flatten/\cg.length*sz<=cs.length/\tag id=tg
def Dd(h:Hp)(tag:Nat->Tg)(n:Nd)(row:LA):Prop:=∃L P,row=[.sc (.int .i64 n.id),L,P]/\iK h tag (.qE n.id) 1 (fj n.labels) L/\iK h tag (.prop n.id) 6 (d_ n.props) P
def Fq(h:Hp)(tag:Nat->Tg)(e:Ed)(row:LA):Prop:=∃P,row=[.sc (.int .i64 e.id),.sc (.int .i64 e.src),.sc (.int .i64 e.dst),.sc (.string e.type),P]/\iK h tag (.DW e.id) 6 (d_ e.props) P
def kJ{α:Type}(R:α->LA->Prop)(l:List α)(cg:List LA):Prop:=cg.length=l.length/\∀(i:Nat)(a:α)(r:LA),l[i]?=some a->cg[i]?=some r->R a r
structure gp (h:Hp)(tag:Nat->Tg)(E:Nat)(g:Gr)(N V:AV)(kM cY:List LA):Prop where
 box:h[E]?=some (.row [N,V,g.nn,g.ne])
 tb:tag E= .box
 ns:iK h tag .nodes 3 kM N
 es:iK h tag .cj 5 cY V
 na:kJ (Dd h tag) g.nodes kM
 ea:kJ (Fq h tag) g.cj cY
def fM(h:Hp)(tag:Nat->Tg)(h':Hp)(dJ:Nat->Tg)(S:Tg->Prop):Prop:=∀id b,h[id]?=some b->¬S (tag id)->h'[id]?=some b/\dJ id=tag id
def iK.fl{h h':Hp}{tag dJ:Nat->Tg}{S:Tg->Prop}(hf:fM h tag h' dJ S){tg:Tg}(hs:¬S tg){sz:Nat}{cg:List LA}{x:AV}(ho:iK h tag tg sz cg x):iK h' dJ tg sz cg x:=by
 rcases ho with ho|⟨id,cs,rfl,h1,h2,h3,h4⟩
 .exact .inl ho
 .have:=hf id _ h1 (by rw[h4];exact hs);exact .inr ⟨id,cs,rfl,this.1,h2,h3,by rw[this.2,h4]⟩
def Dd.fl{h h':Hp}{tag dJ:Nat->Tg}{S:Tg->Prop}(hf:fM h tag h' dJ S){n:Nd}(h1:¬S (.qE n.id))(h2:¬S (.prop n.id)){row:LA}(hr:Dd h tag n row):Dd h' dJ n row:=by
 obtain⟨L,P,rfl,a,b⟩:=hr;exact⟨L,P,rfl,a.fl hf h1,b.fl hf h2⟩
def Fq.fl{h h':Hp}{tag dJ:Nat->Tg}{S:Tg->Prop}(hf:fM h tag h' dJ S){n:Ed}(h1:¬S (.DW n.id)){row:LA}(hr:Fq h tag n row):Fq h' dJ n row:=by
 obtain⟨P,rfl,a⟩:=hr;exact⟨P,rfl,a.fl hf h1⟩
def kJ.imp{α:Type}{R R':α->LA->Prop}{l:List α}{cg:List LA}(h:kJ R l cg)(k:∀a∈l,∀r,R a r->R' a r):kJ R' l cg:=
 ⟨h.1,λi a r ha hr=>k a (Zi ha) r (h.2 i a r ha hr)⟩
def kJ.get{α:Type}{R:α->LA->Prop}{l:List α}{cg:List LA}(h:kJ R l cg){i:Nat}{a:α}(ha:l[i]?=some a):∃r,cg[i]?=some r/\R a r:=by
 have hi:i<cg.length:=by rw[h.1];exact(Za.1 ha).1
 exact⟨_,Zb hi,h.2 i a _ ha (Zb hi)⟩
def fM.refl(h:Hp)(tag:Nat->Tg)(S:Tg->Prop):fM h tag h tag S:=λ_ _ h1 _=>⟨h1,rfl⟩
def fM.trans{h h1 h2:Hp}{t t1 t2:Nat->Tg}{S S1 S2:Tg->Prop}(a:fM h t h1 t1 S)(b:fM h1 t1 h2 t2 S1)(k:∀x,S x->S2 x)(k1:∀x,S1 x->S2 x):fM h t h2 t2 S2:=λid bl h0 hs=>by
 obtain⟨e1,e2⟩:=a id bl h0 (λq=>hs (k _ q));obtain⟨e3,e4⟩:=b id bl e1 (λq=>hs (by rw[e2]at q;exact k1 _ q));exact⟨e3,e4.trans e2⟩
def eO(tag:Nat->Tg)(i:Nat)(t:Tg):Nat->Tg:=λj=>if j=i then t else tag j
def fM.push(h:Hp)(tag:Nat->Tg)(b:eK)(t:Tg)(S:Tg->Prop):fM h tag (h++[b]) (eO tag h.length t) S:=λid bl h1 _=>by
 have hl:=(Za.1 h1).1;exact⟨by rw[Zd hl];exact h1,by unfold eO;rw[cm (by omega)]⟩
def fM.set(h:Hp)(tag:Nat->Tg)(i:Nat)(b:eK){S:Tg->Prop}(hs:S (tag i)):fM h tag (h.set i b) tag S:=λid bl h1 k=>by
 have:i≠id:=λe=>k (e▸hs)
 exact⟨by rw[Zq this];exact h1,rfl⟩
def gp.fl{h h':Hp}{tag dJ:Nat->Tg}(hf:fM h tag h' dJ (λt=>t= .none)){E:Nat}{g:Gr}{N V:AV}{kM cY:List LA}(hr:gp h tag E g N V kM cY):gp h' dJ E g N V kM cY:={
 box:=(hf E _ hr.box (by rw[hr.tb];simp)).1
 tb:=(hf E _ hr.box (by rw[hr.tb];simp)).2.trans hr.tb
 ns:=hr.ns.fl hf (by simp)
 es:=hr.es.fl hf (by simp)
 na:=hr.na.imp λa _ r h1=>h1.fl hf (by simp) (by simp)
 ea:=hr.ea.imp λa _ r h1=>h1.fl hf (by simp)}
def iK.cD{h:Hp}{tag:Nat->Tg}{tg:Tg}{sz n:Nat}{cg rows':List LA}{x:AV}(fX:0<sz)(hr:∀r∈rows',r.length=sz)(ho:iK h tag tg sz cg x)(hl:rows'.length=cg.length)(hm:cg.flatten.mapM (cD h n)=some rows'.flatten):
 ∃y,cD h (n+1) x=some y/\uF sz y= .ls sz rows' false:=by
 rcases ho with⟨rfl,rfl|rfl⟩|⟨id,cs,rfl,h1,h2,h3,h4⟩
 .have:rows'=[]:=Zl (by simpa using hl);subst this;exact⟨_,rfl,by simp[uF]⟩
 .have:rows'=[]:=Zl (by simpa using hl);subst this;exact⟨_,rfl,by simp[uF]⟩
 .refine⟨.ls sz rows' false,?_,by simp[uF]⟩;simp only[Ae.cD,qC h1,Xs,Yi,cq h3,h2,hm,Yx];rw[<-hl,rM fX rows' hr]
def iK.HD{h:Hp}{tag:Nat->Tg}{tg:Tg}{sz n:Nat}{cg:List LA}{x:AV}(fX:0<sz)(hr:∀r∈cg,r.length=sz)(hc:cg.flatten.all eu=true)(ho:iK h tag tg sz cg x):∃y,Ae.cD h (n+1) x=some y/\uF sz y= .ls sz cg false:=
 ho.cD fX hr rfl (rN hc)
def iL(xs:LA):dk (.ag xs)=xs.all eu:=rfl
def Ty{f:FuncId}{args:LA}{n:Nat}(r0:AV)(fi:Fi)(hF:cx.F f=some fi)(gI:sZ cx fi.body=true)(hs:cx.oW f=none)(hi:cx.inl f=false)(hl:args.length<=fi.ntmps)(hc:args.all dk=true)(hb:∃r h',dL fi.res (n fi.body (args++List.replicate (fi.ntmps-args.length) .un,[]))=some (r,h')/\∃r',cD h' 8 r=some r'/\xn r'=r0)(ht:(xo f && Fs f)=true:=by decide)(b:Bool)(h:Hp):ch cx (n+1) b f args h=some (r0,h):=by
 obtain⟨r,h',hb,r',hr,hR⟩:=hb;rw[Zh]at ht;have:=mq (C:=cx) hs hi (uH ht.1) hc (by rw[jL hF gI hl];exact hb) hr b h;rw[this];show some (OW f r',h)=_;unfold OW;rw[ht.2];simp[hR]
def nA{f:FuncId}{args:LA}{n:Nat}{r0:AV}(fn:Func)(res:List Rv)(hc:args.all dk=true)(hb:∃r h',dL res (n ((fn.body).getD .skip) (args++List.replicate (fn.ntmps-args.length) .un,[]))=some (r,h')/\∃r',Ae.cD h' 8 r=some r'/\xn r'=r0)(b:Bool)(h:Hp)(ht:(xo f&&Fs f)=true:=by decide)(hs:cx.oW f=none:=by rfl)(hF:cx.F f=some ⟨fn.ntmps,(fn.body).getD .skip,res⟩:=by kernel_rfl)(gI:sZ cx ((fn.body).getD .skip)=true:=by kernel_rfl)(hi:cx.inl f=false:=by kernel_rfl)(hl:Nat.ble args.length fn.ntmps=true:=by rfl):ch cx (n+1) b f args h=some (r0,h):=
 Ty r0 ⟨fn.ntmps,(fn.body).getD .skip,res⟩ hF gI hs hi (Nat.le_of_ble_eq_true hl) hc hb ht b h
def kR(l:List LA)(ids:List Int):List (LA × Int):=l.zip ids
def wQ(x:Int)(p:LA × Int):Bool:=decide (p.2<x)
def wR(x:Int)(p:LA × Int):Bool:=decide (p.2=x)
def MQ{α β:Type}{lt eq:α->Bool}{lt' eq':β->Bool}{l pre eY post:List α}(h:gZ lt eq l pre eY post)(f:α->β)(h1:∀a,lt' (f a)=lt a)(h2:∀a,eq' (f a)=eq a):gZ lt' eq' (l.map f) (pre.map f) (eY.map f) (post.map f):={
 e:=by rw[h.e];simp
 p:=λx hx=>by obtain⟨a,ha,rfl⟩:=Yk.1 hx;rw[h1,h2];exact h.p a ha
 m:=λx hx=>by obtain⟨a,ha,rfl⟩:=Yk.1 hx;rw[h1,h2];exact h.m a ha
 one:=by simpa using h.one
 q:=λx hx=>by obtain⟨a,ha,rfl⟩:=Yk.1 hx;rw[h1,h2];exact h.q a ha}
def Tz(n:Nd):J5 (dh n)=dh n:=rfl
def TA(n:Ed):MR (dP n)=dP n:=rfl
def rO(l:List Nd):(f_ l).map J5=f_ l:=by
 unfold f_;rw[List.map_map];exact List.map_congr_left λn _=>Tz n
def pC(l:List Ed):(fV l).map MR=fV l:=by
 unfold fV;rw[List.map_map];exact List.map_congr_left λn _=>TA n
def uI(sz:Nat)(g:LA->LA)(cg:List LA):BA sz g (dt sz cg)= .ls sz (cg.map g) false:=by
 unfold dt;cases cg with
 |nil=>rfl
 |cons r cg=>simp[BA]
def oA(sz:Nat)(g:LA->LA)(cg:List LA)(z:Bool):BA sz g (.ls sz cg z)= .ls sz (cg.map g) false:=by simp[BA]
def xp{h:Hp}{a a' b b':AV}{u v:Value}(e:cD h 7 a=some a')(e2:cD h 7 b=some b'):cD h 8 (.ag [a,b,.sc u,.sc v])=some (.ag [a',b',.sc u,.sc v]):=by
 show(List.mapM (cD h 7) [a,b,.sc u,.sc v]).map AV.ag=_;rw[Zo,e,Zo,e2];rfl
set_option maxHeartbeats 32000000 in
def pD(n:Nat)(b:Bool)(g:Gr)(x:Int)(L P:AV)(m:Nd)(pre eY post:List Nd)(h:Hp)(hl:g.nodes.length<=100000)(hL:eu L=true)(hP:eu P=true)(hm:J5 [x,L,P]=dh m)(hs:gZ (p_ x) (pB x) g.nodes pre eY post)(hx:0<=x/\x<=1000000000):
 ch cx (n+1) b 145 [.ag (cl g),.ag [x,L,P]] h=some (.ag (cl {g with nodes:=pre++[m]++post,nn:=max g.nn (x+1)}),h):=by
 refine nA f145 [.cell 4 4 true] (by
  rw[Zn,Zn,iL,iL];simp[cl,dy,dz,hL,hP]) ?_ b h
 have pR:=MQ hs (lt':=wQ x) (eq':=wR x) (λc:Nd=>(dh c,c.id)) (λ_=>rfl) (λ_=>rfl);have oz:=Bu pR ([.sc (.int .i64 x),L,P],x) true;have da:=Fp (wQ x) (wR x) ([.sc (.int .i64 x),L,P],x) true (g.nodes.map λc=>(dh c,c.id));have fX:∀i,∀r∈((nj (wQ x) (wR x) ([.sc (.int .i64 x),L,P],x) true (g.nodes.map λc=>(dh c,c.id)) i).1).map Prod.fst,r.length=3/\r.all eu=true:=by
  intro i
  induction i with
  |zero=>simp[DU]
  |succ i ih=>
   by_cases hi:i<g.nodes.length
   .rw[qx (x:=(dh (g.nodes[i]),(g.nodes[i]).id)) _ _ (by rw[Zs,Zb hi];rfl)];intro r hr;simp only[jA,Yn,Zz]at hr;rcases hr with(hr|hr)|hr
    .exact ih r hr
    .split at hr
     .simp at hr;subst hr;exact⟨rfl,by simp[hL,hP]⟩
     .cases hr
    .split at hr
     .cases hr
     .simp at hr;subst hr;exact⟨rfl,rfl⟩
   .have:nj (wQ x) (wR x) ([.sc (.int .i64 x),L,P],x) true (g.nodes.map λc=>(dh c,c.id)) (i+1)=nj (wQ x) (wR x) ([.sc (.int .i64 x),L,P],x) true (g.nodes.map λc=>(dh c,c.id)) i:=by
     unfold nj;rw[Xa (by simp;omega),Xa (by simp;omega)]
    rw[this];exact ih
 have hq:=dC g.nodes;have hg:=iJ g.nodes;rw[Ym]at da;unfold OV at oz;rw[Ym]at oz;have dM:∀{i:Nat}{c:Nd},g.nodes[i]?=some c->nj (wQ x) (wR x) ([.sc (.int .i64 x),L,P],x) true (g.nodes.map λc=>(dh c,c.id)) (i+1)=jA (wQ x) (wR x) ([.sc (.int .i64 x),L,P],x) true (nj (wQ x) (wR x) ([.sc (.int .i64 x),L,P],x) true (g.nodes.map λc=>(dh c,c.id)) i) (dh c,c.id):=λhc=>qx _ _ (by rw[Zs,hc];rfl)
 have h0:nj (wQ x) (wR x) ([.sc (.int .i64 x),L,P],x) true (g.nodes.map λc=>(dh c,c.id)) 0=([],false):=rfl;generalize nj (wQ x) (wR x) ([.sc (.int .i64 x),L,P],x) true (g.nodes.map λc=>(dh c,c.id))=PF at oz da fX dM h0;have mr:(((wj ([.sc (.int .i64 x),L,P],x) true (PF g.nodes.length)).map Prod.fst).map J5)=f_ (pre++[m]++post):=by
  rw[oz];simp only[if_true,Yn,List.map_map,Yz,Xw,hm];unfold f_;simp only[Yn,Yz,Xw]
  congr 1
 have hx1:cS .i64 (x+1)=x+1:=cu (by omega) (by omega);unfold cl dy;generalize f_ g.nodes=cg at hq hg;simp[f145];refine ej (C:=cx) (G:=λr=>∃r0 h',dL _ (eX _ _ (du _ r) _)=some (r0,h')/\∃r',cD h' 8 r0=some r'/\xn r'= .ag [.ls 3 (f_ (pre++m::post)) false,dz g.cj,.sc (.int .i64 (max g.nn (x+1))),g.ne])
  (λi s=>s.1.length=65/\gt s.1 2= .pt 0 0/\gt s.1 3= .pt 1 0/\gt s.1 4= .pt 2 0/\gt s.1 6= .sc (.bool (PF i).2)/\gt s.1 7= .sc (.int .i64 i)/\s.2[0]?=some (.row [.ls 3 cg false,dz g.cj,g.nn,g.ne])/\s.2[1]?=some (.row [x,L,P])/\s.2[2]?=some (.row [(),(),(0:Int),(0:Int)])/\∃y,gt s.1 5=y/\gz s.2 3 ((PF i).1.map Prod.fst) y/\∀k n,y= .sl k 3 0 n false->2<k)
  (λo s=>o= .exit 0/\s.1.length=65/\gt s.1 2= .pt 0 0/\gt s.1 3= .pt 1 0/\gt s.1 4= .pt 2 0/\gt s.1 6= .sc (.bool (PF g.nodes.length).2)/\s.2[0]?=some (.row [.ls 3 cg false,dz g.cj,g.nn,g.ne])/\s.2[1]?=some (.row [x,L,P])/\s.2[2]?=some (.row [(),(),(0:Int),(0:Int)])/\∃y,gt s.1 5=y/\gz s.2 3 ((PF g.nodes.length).1.map Prod.fst) y/\∀k n,y= .sl k 3 0 n false->2<k) g.nodes.length (by simp;omega) (by simp[h0,gz]) ?_ ?_
 .rintro i fr h jw ⟨cf,e2,e3,e4,e6,e7,b0,b1,b2,y,e5,hy,hk⟩;simp only at cf e2 e3 e4 e6 e7 b0 b1 b2 e5 hy;have qF:2<h.length:=(Za.1 b2).1;by_cases hi:i<g.nodes.length
  .obtain⟨c,hc⟩:=eA hi;have hr:cg[i]?=some [.sc (.int .i64 c.id),iD c.labels false,eU c.props false]:=by rw[hg,hc];rfl
   have cz:=gA hr
   have hf:=cG (i:=i) (by omega);have dq:=dM hc;have zX:=da i;have dN:=fX i;generalize PF i=P0 at dq zX e6 hy dN;obtain⟨p0,d0⟩:=P0;simp only at e6 hy zX dN;have q0:=kV (λv=>hy.np v)
   have add:∀(HE:List LA)(y1:AV)(h1:Hp)(r:LA),gz h1 3 HE y1->HE.length<=200002->(∀r∈HE,r.length=3)->r.length=3->2<h1.length->h1[0]?=h[0]?->h1[1]?=h[1]?->h1[2]?=h[2]?->(∀k n,y1= .sl k 3 0 n false->2<k)->
    ∃id h2,ew cx (h1++[.row r]) 23 y1 (.sl h1.length 3 0 1 false)=some (.sl id 3 0 (HE.length+1) false,h2)/\gz h2 3 (HE++[r]) (.sl id 3 0 (HE.length+1) false)/\h2[0]?=h[0]?/\h2[1]?=h[1]?/\h2[2]?=h[2]?/\2<h2.length/\2<id:=by
    intro HE y1 h1 r hb hn hrs vp hl1 z0 z1 z2 mS;obtain⟨id,h2,a1,a2,a3,a4⟩:=kj (t:=23) nJ rfl h1 r HE y1 hb vp hrs (by omega) (by omega) (by omega);have w0:=a3 0 _ (z0.trans b0) (λk n e=>by have:=mS k n e;omega);have w1:=a3 1 _ (z1.trans b1) (λk n e=>by have:=mS k n e;omega);have w2:=a3 2 _ (z2.trans b2) (λk n e=>by have:=mS k n e;omega);exact⟨id,h2,a1,oy a2,w0.trans b0.symm,w1.trans b1.symm,w2.trans b2.symm,(Za.1 w2).1,by omega⟩
   have qD:(p0.map Prod.fst).length=p0.length:=by simp
   obtain⟨ik,WW,k1,k2,k3,k4,k5,k6,k7⟩:=add _ y h [c.id,iD c.labels false,eU c.props false] hy (by omega) (λr hr=>(dN r hr).1) rfl qF rfl rfl rfl hk;obtain⟨ip,lL,p1,p2,p3,p4,p5,p6,p7⟩:=add _ y h [x,L,P] hy (by omega) (λr hr=>(dN r hr).1) rfl qF rfl rfl rfl hk;obtain⟨im,GG,m1,m2,m3,m4,m5,m6,m7⟩:=add _ _ lL [c.id,iD c.labels false,eU c.props false] p2 (by simp;omega) (λr hr=>by
    rcases Zz.1 hr with hr|hr
    .exact(dN r hr).1
    .simp at hr;rw[hr];rfl) rfl p6 p3 p4 p5 (λk n e=>by simp only[AV.sl.injEq]at e;omega)
   rw[b0]at k3 p3 m3;rw[b1]at k4 p4 m4;rw[b2]at k5 p5 m5;simp only[Zu,Ym,List.length_singleton]at k1 k2 p1 p2 m1 m2;have pz:∀q:c.id<x,¬x<=c.id:=λq=>by omega
   have adb:∀q:¬c.id<x,x<=c.id:=λq=>by omega
   cases d0
   .by_cases dm:c.id<x
    .have eF:¬c.id=x:=by omega
     have hg2:=pz dm;simp[cf,e2,e3,e4,e5,e6,e7,q0,dq,b0,b1,hi,hq,cz,hf,dm,eF,hg2,k1,k3,k4,k5,jA,wQ,wR];exact⟨k2,k7⟩
    .have hg2:=adb dm;by_cases heq:c.id=x
     .simp[cf,e2,e3,e4,e5,e6,e7,q0,dq,b0,b1,hi,hq,cz,hf,heq,p1,p3,p4,p5,jA,wQ,wR];exact⟨p2,p7⟩
     .simp[cf,e2,e3,e4,e5,e6,e7,q0,dq,b0,b1,hi,hq,cz,hf,dm,heq,hg2,p1,p3,p4,m1,m3,m4,m5,jA,wQ,wR];exact⟨by simpa[dh]using m2,m7⟩
   .by_cases heq:c.id=x
    .simp[cf,e2,e3,e4,e5,e6,e7,dq,b0,b1,b2,hi,hq,cz,hf,heq,jA,wQ,wR];exact⟨hy,hk⟩
    .simp[cf,e2,e3,e4,e5,e6,e7,q0,dq,b0,b1,hi,hq,cz,hf,heq,k1,k3,k4,k5,jA,wQ,wR];exact⟨k2,k7⟩
  .have k_:i=g.nodes.length:=by omega
   subst k_;simp[cf,e2,e3,e4,e5,e6,e7,b0,b1,b2,hq];exact⟨hy,hk⟩
 .rintro o fr h hn ⟨rfl,cf,e2,e3,e4,e6,b0,b1,b2,y,e5,hy,hk⟩;simp only at cf e2 e3 e4 e6 b0 b1 b2 e5 hy;have qF:2<h.length:=(Za.1 b2).1;have iF:(if g.nn<x+1 then x+1 else g.nn)=max g.nn (x+1):=by rw[Int.max_def];split<;>split<;>omega
  have zX:=da g.nodes.length;have dN:=fX g.nodes.length;generalize PF g.nodes.length=P0 at zX e6 hy dN mr;obtain⟨p0,d0⟩:=P0;simp only at e6 hy zX dN;have hmv:∀(lX:List LA)(h1 h2:Hp)(y1:AV),gz h1 3 lX y1->(∀k n,y1= .sl k 3 0 n false->2<k)->(∀j,2<j->h2[j]?=h1[j]?)->(∀r∈lX,r.length=3/\r.all eu=true)->cD h2 7 y1=some (dt 3 lX):=by
   intro lX h1 h2 y1 hb mS hj BB;refine fJ (by omega) (λr hr=>(BB r hr).1) (kW λr hr=>(BB r hr).2) ?_;rcases hb with hb|⟨eF,id,rfl,cZ⟩
   .exact .inl hb
   .exact .inr ⟨eF,id,rfl,by rw[hj id (mS id _ rfl)];exact cZ⟩
  have HF:(fV g.cj).map MR=fV g.cj:=pC _;cases d0
  .have tM:2< (h++[eK.row [x,L,P]]).length:=by simp;omega
   obtain⟨id,h2,a1,a2,a3,a4⟩:=kj (t:=23) nJ rfl h [x,L,P] _ y hy rfl (λr hr=>(dN r hr).1) (by omega) (by simp;omega) (by omega);have w0:=a3 0 _ b0 (λk n e=>by have:=hk k n e;omega);have w1:=a3 1 _ b1 (λk n e=>by have:=hk k n e;omega);have w2:=a3 2 _ b2 (λk n e=>by have:=hk k n e;omega);have hl2:2<h2.length:=(Za.1 w2).1;have s0:∀B,(h2.set 0 B)[0]?=some B:=λB=>Zj (by omega)
   have s2:∀B C,((h2.set 0 B).set 2 C)[2]?=some C:=λB C=>Zj (by simp;omega)
   have q0:=kV (λv=>hy.np v)
   have a5:=oy (sz:=3) a2;simp only[Ym]at a1 a5;simp only[wj,Qa,Xd,if_true,Yn,Yz,Xw]at mr;simp[cf,e2,e3,e4,e5,e6,q0,b1,a1,w0,w1,w2,hx1,iF,s0,s2];refine⟨_,_,⟨rfl,rfl⟩,_,xp (hmv (p0.map Prod.fst++[[.sc (.int .i64 x),L,P]]) h2 _ _ a5 (λk n e=>by simp only[AV.sl.injEq]at e;omega) (λj hj=>by simp[show¬0=j by omega,show¬2=j by omega]) ?_) rfl,?_⟩
   .intro r hr;rcases Zz.1 hr with hr|hr
    .exact dN r hr
    .simp at hr;subst hr;exact⟨rfl,by simp[hL,hP]⟩
   .simp only[xn,GI,uI,Yn,Yz,Xw,dz,oA,HF];rw[mr];simp
  .simp only[wj,Xv,Xi,Ys,if_false]at mr;rcases hy with⟨J4,rfl⟩|⟨eF,id,rfl,cZ⟩
   .have TB:f_ (pre++m::post)=[]:=by rw[show pre++m::post=pre++[m]++post by simp,<-mr,J4];rfl
    simp[f_]at TB
   .have s0:∀B,(h.set 0 B)[0]?=some B:=λB=>Zj (by omega)
    have s2:∀B C,((h.set 0 B).set 2 C)[2]?=some C:=λB C=>Zj (by simp;omega)
    have lk:=hk id _ rfl;simp[cf,e2,e3,e4,e5,e6,b0,b1,b2,hx1,iF,s0,s2];refine⟨_,_,⟨rfl,rfl⟩,_,xp (hmv (p0.map Prod.fst) h _ _ (.inr ⟨eF,id,by simp,cZ⟩) (λk n e=>by simp only[AV.sl.injEq]at e;omega) (λj hj=>by simp[show¬0=j by omega,show¬2=j by omega]) dN) rfl,?_⟩;simp only[xn,GI,uI,dz,oA,HF];rw[mr];simp
set_option maxHeartbeats 32000000 in
def zh(n:Nat)(b:Bool)(g:Gr)(x:Int)(A B:Int)(T:ByteArray)(P:AV)(m:Ed)(pre eY post:List Ed)(h:Hp)(hl:g.cj.length<=100000)(hP:eu P=true)(hm:MR [x,A,B,T,P]=dP m)(hs:gZ (xj x) (wk x) g.cj pre eY post)(hx:0<=x/\x<=1000000000):
 ch cx (n+1) b 146 [.ag (cl g),.ag [x,A,B,T,P]] h=some (.ag (cl {g with cj:=pre++[m]++post,ne:=max g.ne (x+1)}),h):=by
 refine nA f146 [.cell 4 4 true] (by
  rw[Zn,Zn,iL,iL];simp[cl,dy,dz,hP]) ?_ b h
 have pR:=MQ hs (lt':=wQ x) (eq':=wR x) (λc:Ed=>(dP c,c.id)) (λ_=>rfl) (λ_=>rfl);have oz:=Bu pR ([.sc (.int .i64 x),.sc (.int .i64 A),.sc (.int .i64 B),.sc (.string T),P],x) true;have da:=Fp (wQ x) (wR x) ([.sc (.int .i64 x),.sc (.int .i64 A),.sc (.int .i64 B),.sc (.string T),P],x) true (g.cj.map λc=>(dP c,c.id));have fX:∀i,∀r∈((nj (wQ x) (wR x) ([.sc (.int .i64 x),.sc (.int .i64 A),.sc (.int .i64 B),.sc (.string T),P],x) true (g.cj.map λc=>(dP c,c.id)) i).1).map Prod.fst,r.length=5/\r.all eu=true:=by
  intro i
  induction i with
  |zero=>simp[DU]
  |succ i ih=>
   by_cases hi:i<g.cj.length
   .rw[qx (x:=(dP (g.cj[i]),(g.cj[i]).id)) _ _ (by rw[Zs,Zb hi];rfl)];intro r hr;simp only[jA,Yn,Zz]at hr;rcases hr with(hr|hr)|hr
    .exact ih r hr
    .split at hr
     .simp at hr;subst hr;exact⟨rfl,by simp[hP]⟩
     .cases hr
    .split at hr
     .cases hr
     .simp at hr;subst hr;exact⟨rfl,rfl⟩
   .have:nj (wQ x) (wR x) ([.sc (.int .i64 x),.sc (.int .i64 A),.sc (.int .i64 B),.sc (.string T),P],x) true (g.cj.map λc=>(dP c,c.id)) (i+1)=nj (wQ x) (wR x) ([.sc (.int .i64 x),.sc (.int .i64 A),.sc (.int .i64 B),.sc (.string T),P],x) true (g.cj.map λc=>(dP c,c.id)) i:=by
     unfold nj;rw[Xa (by simp;omega),Xa (by simp;omega)]
    rw[this];exact ih
 have hq:=dD g.cj;have hg:=jy g.cj;rw[Ym]at da;unfold OV at oz;rw[Ym]at oz;have dM:∀{i:Nat}{c:Ed},g.cj[i]?=some c->nj (wQ x) (wR x) ([.sc (.int .i64 x),.sc (.int .i64 A),.sc (.int .i64 B),.sc (.string T),P],x) true (g.cj.map λc=>(dP c,c.id)) (i+1)=jA (wQ x) (wR x) ([.sc (.int .i64 x),.sc (.int .i64 A),.sc (.int .i64 B),.sc (.string T),P],x) true (nj (wQ x) (wR x) ([.sc (.int .i64 x),.sc (.int .i64 A),.sc (.int .i64 B),.sc (.string T),P],x) true (g.cj.map λc=>(dP c,c.id)) i) (dP c,c.id):=λhc=>qx _ _ (by rw[Zs,hc];rfl)
 have h0:nj (wQ x) (wR x) ([.sc (.int .i64 x),.sc (.int .i64 A),.sc (.int .i64 B),.sc (.string T),P],x) true (g.cj.map λc=>(dP c,c.id)) 0=([],false):=rfl;generalize nj (wQ x) (wR x) ([.sc (.int .i64 x),.sc (.int .i64 A),.sc (.int .i64 B),.sc (.string T),P],x) true (g.cj.map λc=>(dP c,c.id))=PF at oz da fX dM h0;have mr:(((wj ([.sc (.int .i64 x),.sc (.int .i64 A),.sc (.int .i64 B),.sc (.string T),P],x) true (PF g.cj.length)).map Prod.fst).map MR)=fV (pre++[m]++post):=by
  rw[oz];simp only[if_true,Yn,List.map_map,Yz,Xw,hm];unfold fV;simp only[Yn,Yz,Xw]
  congr 1
 have hx1:cS .i64 (x+1)=x+1:=cu (by omega) (by omega);unfold cl dz;generalize fV g.cj=cg at hq hg;simp[f146];refine ej (C:=cx) (G:=λr=>∃r0 h',dL _ (eX _ _ (du _ r) _)=some (r0,h')/\∃r',cD h' 8 r0=some r'/\xn r'= .ag [dy g.nodes,.ls 5 (fV (pre++m::post)) false,g.nn,.sc (.int .i64 (max g.ne (x+1)))])
  (λi s=>s.1.length=65/\gt s.1 2= .pt 0 0/\gt s.1 3= .pt 1 0/\gt s.1 4= .pt 2 0/\gt s.1 6= .sc (.bool (PF i).2)/\gt s.1 7= .sc (.int .i64 i)/\s.2[0]?=some (.row [dy g.nodes,.ls 5 cg false,g.nn,g.ne])/\s.2[1]?=some (.row [x,A,B,T,P])/\s.2[2]?=some (.row [(),(),(0:Int),(0:Int)])/\∃y,gt s.1 5=y/\gz s.2 5 ((PF i).1.map Prod.fst) y/\∀k n,y= .sl k 5 0 n false->2<k)
  (λo s=>o= .exit 0/\s.1.length=65/\gt s.1 2= .pt 0 0/\gt s.1 3= .pt 1 0/\gt s.1 4= .pt 2 0/\gt s.1 6= .sc (.bool (PF g.cj.length).2)/\s.2[0]?=some (.row [dy g.nodes,.ls 5 cg false,g.nn,g.ne])/\s.2[1]?=some (.row [x,A,B,T,P])/\s.2[2]?=some (.row [(),(),(0:Int),(0:Int)])/\∃y,gt s.1 5=y/\gz s.2 5 ((PF g.cj.length).1.map Prod.fst) y/\∀k n,y= .sl k 5 0 n false->2<k) g.cj.length (by simp;omega) (by simp[h0,gz]) ?_ ?_
 .rintro i fr h jw ⟨cf,e2,e3,e4,e6,e7,b0,b1,b2,y,e5,hy,hk⟩;simp only at cf e2 e3 e4 e6 e7 b0 b1 b2 e5 hy;have qF:2<h.length:=(Za.1 b2).1;by_cases hi:i<g.cj.length
  .obtain⟨c,hc⟩:=eA hi;have hr:cg[i]?=some [.sc (.int .i64 c.id),.sc (.int .i64 c.src),.sc (.int .i64 c.dst),.sc (.string c.type),eU c.props false]:=by rw[hg,hc];rfl
   have cz:=gA hr
   have hf:=cG (i:=i) (by omega);have dq:=dM hc;have zX:=da i;have dN:=fX i;generalize PF i=P0 at dq zX e6 hy dN;obtain⟨p0,d0⟩:=P0;simp only at e6 hy zX dN;have q0:=kV (λv=>hy.np v)
   have add:∀(HE:List LA)(y1:AV)(h1:Hp)(r:LA),gz h1 5 HE y1->HE.length<=200002->(∀r∈HE,r.length=5)->r.length=5->2<h1.length->h1[0]?=h[0]?->h1[1]?=h[1]?->h1[2]?=h[2]?->(∀k n,y1= .sl k 5 0 n false->2<k)->
    ∃id h2,ew cx (h1++[.row r]) 24 y1 (.sl h1.length 5 0 1 false)=some (.sl id 5 0 (HE.length+1) false,h2)/\gz h2 5 (HE++[r]) (.sl id 5 0 (HE.length+1) false)/\h2[0]?=h[0]?/\h2[1]?=h[1]?/\h2[2]?=h[2]?/\2<h2.length/\2<id:=by
    intro HE y1 h1 r hb hn hrs vp hl1 z0 z1 z2 mS;obtain⟨id,h2,a1,a2,a3,a4⟩:=kj (t:=24) nK rfl h1 r HE y1 hb vp hrs (by omega) (by omega) (by omega);have w0:=a3 0 _ (z0.trans b0) (λk n e=>by have:=mS k n e;omega);have w1:=a3 1 _ (z1.trans b1) (λk n e=>by have:=mS k n e;omega);have w2:=a3 2 _ (z2.trans b2) (λk n e=>by have:=mS k n e;omega);exact⟨id,h2,a1,oy a2,w0.trans b0.symm,w1.trans b1.symm,w2.trans b2.symm,(Za.1 w2).1,by omega⟩
   have qD:(p0.map Prod.fst).length=p0.length:=by simp
   obtain⟨ik,WW,k1,k2,k3,k4,k5,k6,k7⟩:=add _ y h [c.id,c.src,c.dst,c.type,eU c.props false] hy (by omega) (λr hr=>(dN r hr).1) rfl qF rfl rfl rfl hk;obtain⟨ip,lL,p1,p2,p3,p4,p5,p6,p7⟩:=add _ y h [x,A,B,T,P] hy (by omega) (λr hr=>(dN r hr).1) rfl qF rfl rfl rfl hk;obtain⟨im,GG,m1,m2,m3,m4,m5,m6,m7⟩:=add _ _ lL [c.id,c.src,c.dst,c.type,eU c.props false] p2 (by simp;omega) (λr hr=>by
    rcases Zz.1 hr with hr|hr
    .exact(dN r hr).1
    .simp at hr;rw[hr];rfl) rfl p6 p3 p4 p5 (λk n e=>by simp only[AV.sl.injEq]at e;omega)
   rw[b0]at k3 p3 m3;rw[b1]at k4 p4 m4;rw[b2]at k5 p5 m5;simp only[Zu,Ym,List.length_singleton]at k1 k2 p1 p2 m1 m2;have pz:∀q:c.id<x,¬x<=c.id:=λq=>by omega
   have adb:∀q:¬c.id<x,x<=c.id:=λq=>by omega
   cases d0
   .by_cases dm:c.id<x
    .have eF:¬c.id=x:=by omega
     have hg2:=pz dm;simp[cf,e2,e3,e4,e5,e6,e7,q0,dq,b0,b1,hi,hq,cz,hf,dm,eF,hg2,k1,k3,k4,k5,jA,wQ,wR];exact⟨k2,k7⟩
    .have hg2:=adb dm;by_cases heq:c.id=x
     .simp[cf,e2,e3,e4,e5,e6,e7,q0,dq,b0,b1,hi,hq,cz,hf,heq,p1,p3,p4,p5,jA,wQ,wR];exact⟨p2,p7⟩
     .simp[cf,e2,e3,e4,e5,e6,e7,q0,dq,b0,b1,hi,hq,cz,hf,dm,heq,hg2,p1,p3,p4,m1,m3,m4,m5,jA,wQ,wR];exact⟨by simpa[dP]using m2,m7⟩
   .by_cases heq:c.id=x
    .simp[cf,e2,e3,e4,e5,e6,e7,dq,b0,b1,b2,hi,hq,cz,hf,heq,jA,wQ,wR];exact⟨hy,hk⟩
    .simp[cf,e2,e3,e4,e5,e6,e7,q0,dq,b0,b1,hi,hq,cz,hf,heq,k1,k3,k4,k5,jA,wQ,wR];exact⟨k2,k7⟩
  .have k_:i=g.cj.length:=by omega
   subst k_;simp[cf,e2,e3,e4,e5,e6,e7,b0,b1,b2,hq];exact⟨hy,hk⟩
 .rintro o fr h hn ⟨rfl,cf,e2,e3,e4,e6,b0,b1,b2,y,e5,hy,hk⟩;simp only at cf e2 e3 e4 e6 b0 b1 b2 e5 hy;have qF:2<h.length:=(Za.1 b2).1;have iF:(if g.ne<x+1 then x+1 else g.ne)=max g.ne (x+1):=by rw[Int.max_def];split<;>split<;>omega
  have zX:=da g.cj.length;have dN:=fX g.cj.length;generalize PF g.cj.length=P0 at zX e6 hy dN mr;obtain⟨p0,d0⟩:=P0;simp only at e6 hy zX dN;have hmv:∀(lX:List LA)(h1 h2:Hp)(y1:AV),gz h1 5 lX y1->(∀k n,y1= .sl k 5 0 n false->2<k)->(∀j,2<j->h2[j]?=h1[j]?)->(∀r∈lX,r.length=5/\r.all eu=true)->cD h2 7 y1=some (dt 5 lX):=by
   intro lX h1 h2 y1 hb mS hj BB;refine fJ (by omega) (λr hr=>(BB r hr).1) (kW λr hr=>(BB r hr).2) ?_;rcases hb with hb|⟨eF,id,rfl,cZ⟩
   .exact .inl hb
   .exact .inr ⟨eF,id,rfl,by rw[hj id (mS id _ rfl)];exact cZ⟩
  have HF:(f_ g.nodes).map J5=f_ g.nodes:=rO _;cases d0
  .have tM:2< (h++[eK.row [x,A,B,T,P]]).length:=by simp;omega
   obtain⟨id,h2,a1,a2,a3,a4⟩:=kj (t:=24) nK rfl h [x,A,B,T,P] _ y hy rfl (λr hr=>(dN r hr).1) (by omega) (by simp;omega) (by omega);have w0:=a3 0 _ b0 (λk n e=>by have:=hk k n e;omega);have w1:=a3 1 _ b1 (λk n e=>by have:=hk k n e;omega);have w2:=a3 2 _ b2 (λk n e=>by have:=hk k n e;omega);have hl2:2<h2.length:=(Za.1 w2).1;have s0:∀B,(h2.set 0 B)[0]?=some B:=λB=>Zj (by omega)
   have s2:∀B C,((h2.set 0 B).set 2 C)[2]?=some C:=λB C=>Zj (by simp;omega)
   have q0:=kV (λv=>hy.np v)
   have a5:=oy (sz:=5) a2;simp only[Ym]at a1 a5;simp only[wj,Qa,Xd,if_true,Yn,Yz,Xw]at mr;simp[cf,e2,e3,e4,e5,e6,q0,b1,a1,w0,w1,w2,hx1,iF,s0,s2];refine⟨_,_,⟨rfl,rfl⟩,_,xp rfl (hmv (p0.map Prod.fst++[[.sc (.int .i64 x),.sc (.int .i64 A),.sc (.int .i64 B),.sc (.string T),P]]) h2 _ _ a5 (λk n e=>by simp only[AV.sl.injEq]at e;omega) (λj hj=>by simp[show¬0=j by omega,show¬2=j by omega]) ?_),?_⟩
   .intro r hr;rcases Zz.1 hr with hr|hr
    .exact dN r hr
    .simp at hr;subst hr;exact⟨rfl,by simp[hP]⟩
   .simp only[xn,GI,uI,Yn,Yz,Xw,dy,oA,HF];rw[mr];simp
  .simp only[wj,Xv,Xi,Ys,if_false]at mr;rcases hy with⟨J4,rfl⟩|⟨eF,id,rfl,cZ⟩
   .have TB:fV (pre++m::post)=[]:=by rw[show pre++m::post=pre++[m]++post by simp,<-mr,J4];rfl
    simp[fV]at TB
   .have s0:∀B,(h.set 0 B)[0]?=some B:=λB=>Zj (by omega)
    have s2:∀B C,((h.set 0 B).set 2 C)[2]?=some C:=λB C=>Zj (by simp;omega)
    have lk:=hk id _ rfl;simp[cf,e2,e3,e4,e5,e6,b0,b1,b2,hx1,iF,s0,s2];refine⟨_,_,⟨rfl,rfl⟩,_,xp rfl (hmv (p0.map Prod.fst) h _ _ (.inr ⟨eF,id,by simp,cZ⟩) (λk n e=>by simp only[AV.sl.injEq]at e;omega) (λj hj=>by simp[show¬0=j by omega,show¬2=j by omega]) dN),?_⟩;simp only[xn,GI,uI,dy,oA,HF];rw[mr];simp
end
end Go.Proofs.YtmfohnojaginjaaGreatDoor
