/- Part of the proof. -/
import Derived.Test.YtmocfjnklfpnbaaGreatDoorP16
set_option linter.all false
set_option maxHeartbeats 32000000
set_option maxRecDepth 100000
namespace Go.Proofs.YtmocfjnklfpnbaaGreatDoor
open Go Go.Ae Go.Proofs.Tryz
section
attribute [local simp] ew eY
abbrev gM :=List (ByteArray × Int)
def Pw(x:ByteArray × Int):LA:=[.sc (.string x.1),.sc (.int .i64 x.2)]
def ib(l:gM):List LA:=l.map Pw
def fl(l:gM):(ib l).length=l.length:=by simp[ib]
def zf(l:gM)(i:Nat):(ib l)[i]?=(l[i]?).map Pw:=by simp[ib]
def kf(l:gM):(∀r∈ib l,r.length=2)/\(ib l).flatten.all l6=true:=
 ⟨λr hr=>by obtain⟨c,_,rfl⟩:=Yf.1 hr;rfl,nW λr hr=>by obtain⟨c,_,rfl⟩:=Yf.1 hr;rfl⟩
def db :gM->ByteArray->Int
 | [],_=>0
 |c::l,s=>if dn c.1 s=true then c.2 else db l s
def xe{l:gM}{i:Nat}{c:ByteArray × Int}(s:ByteArray)(h:l[i]?=some c):db (l.drop i) s=if dn c.1 s=true then c.2 else db (l.drop (i+1)) s:=by
 obtain⟨k,e⟩:=Za.1 h;rw[Zm k,e,db]
def V_(a b x y:AV):cF [a,b] 0 [x,y]=[x,y]:=rfl
def Lt(n:Nat)(b:Bool)(l:gM)(s:ByteArray)(h:Hp)(hl:l.length<=10^9):cu cx (n+1) b 80 [eH 2 (ib l),s] h=some (.sc (.int .i64 (db l s)),h):=by
 refine fU f80 [.tmp 4] (by rw[Zn,mc];rfl) rfl ?_ b h;cases l with
 |
  nil=>
  rw[show eH 2 (ib [])= .sc (.slice none 0 0)from rfl];simp[f80];generalize cU:n (.loop _) _=XX;refine gk cU (λi s _=>s.length=20/\gt s 8=(0:Int)/\gt s 9=(0:Int)) (λo s _=>o= .exit 0/\s.length=20) 0 (by simp) ⟨rfl,rfl,rfl⟩ ?_ ?_
  .rintro i fr hp cP ⟨cp,h8,h9⟩;simp[cp,h8,h9]
  .rintro o cG h' rfl ⟨rfl,cp⟩;simp[cp,db]
 |cons c0 l0=>
  rw[show eH 2 (ib (c0::l0))= .ls 2 (ib (c0::l0)) false from rfl];generalize c0::l0=l at hl|-;have hq:=fl l;have hg:=zf l;generalize ib l=cq at hq hg|-;generalize hT:db l s=T;simp[f80,hq];generalize cU:n (.loop _) _=XX;refine gk cU (λi st _=>st.length=20/\gt st 1=s/\gt st 7= .ls 2 cq false/\gt st 8=l.length/\gt st 9=i/\db (l.drop i) s=T)
   (λo st _=>st.length=20/\((o= .exit 0/\T=0)\/(o= .ret/\gt st 4=T))) l.length (by simp;omega) ⟨rfl,rfl,rfl,rfl,rfl,hT⟩ ?_ ?_
  .clear cU XX hT;rintro i fr hp cP ⟨cp,h1,h7,h8,h9,hT⟩;rcases dY hg cP with⟨x,hi,hx,hr,cC⟩|rfl
   .have hf:=cz (show i<=10^15 by omega);rw[xe s hx]at hT;unfold Pw at hr cC;cases he:dn x.1 s
    .rw[he,cv (by simp)]at hT;simp[cp,h1,h7,h8,h9,hi,hq,cC,V_,he,hf];exact hT
    .rw[he,cw rfl]at hT;subst hT;simp[cp,h1,h7,h8,h9,hi,hq,cC,V_,he]
   .rw[Yc,db]at hT;subst hT;simp[cp,h8,h9]
  .rintro o cG h' rfl ⟨cp,⟨rfl,rfl⟩|⟨rfl,h4⟩⟩
   .simp[cp]
   .simp[h4]
def CY(n:Nat)(b:Bool)(l:gM)(s:ByteArray)(h:Hp)(hl:l.length<=10^9):cu cx (n+1) b 46 [eH 2 (ib l),s] h=some (.sc (.int .i64 (db l s)),h):=by
 refine fU f46 [.tmp 4] (by rw[Zn,mc];rfl) rfl ?_ b h;cases l with
 |
  nil=>
  rw[show eH 2 (ib [])= .sc (.slice none 0 0)from rfl];simp[f46];generalize cU:n (.loop _) _=XX;refine gk cU (λi s _=>s.length=20/\gt s 8=(0:Int)/\gt s 9=(0:Int)) (λo s _=>o= .exit 0/\s.length=20) 0 (by simp) ⟨rfl,rfl,rfl⟩ ?_ ?_
  .rintro i fr hp cP ⟨cp,h8,h9⟩;simp[cp,h8,h9]
  .rintro o cG h' rfl ⟨rfl,cp⟩;simp[cp,db]
 |cons c0 l0=>
  rw[show eH 2 (ib (c0::l0))= .ls 2 (ib (c0::l0)) false from rfl];generalize c0::l0=l at hl|-;have hq:=fl l;have hg:=zf l;generalize ib l=cq at hq hg|-;generalize hT:db l s=T;simp[f46,hq];generalize cU:n (.loop _) _=XX;refine gk cU (λi st _=>st.length=20/\gt st 1=s/\gt st 7= .ls 2 cq false/\gt st 8=l.length/\gt st 9=i/\db (l.drop i) s=T)
   (λo st _=>st.length=20/\((o= .exit 0/\T=0)\/(o= .ret/\gt st 4=T))) l.length (by simp;omega) ⟨rfl,rfl,rfl,rfl,rfl,hT⟩ ?_ ?_
  .clear cU XX hT;rintro i fr hp cP ⟨cp,h1,h7,h8,h9,hT⟩;rcases dY hg cP with⟨x,hi,hx,hr,cC⟩|rfl
   .have hf:=cz (show i<=10^15 by omega);rw[xe s hx]at hT;unfold Pw at hr cC;cases he:dn x.1 s
    .rw[he,cv (by simp)]at hT;simp[cp,h1,h7,h8,h9,hi,hq,cC,V_,he,hf];exact hT
    .rw[he,cw rfl]at hT;subst hT;simp[cp,h1,h7,h8,h9,hi,hq,cC,V_,he]
   .rw[Yc,db]at hT;subst hT;simp[cp,h8,h9]
  .rintro o cG h' rfl ⟨cp,⟨rfl,rfl⟩|⟨rfl,h4⟩⟩
   .simp[cp]
   .simp[h4]
def iM(l:gM)(e:Ep)(whole:Bool):Int:=if((vO e).any λs=>decide (db l s=0))=true then 6 else if(mG e && !(whole && decide (e.op=24)))=true then 9 else 0
def Rb(D d n:Nat)(b:Bool)(l:gM)(e:Ep)(w:Bool)(h:Hp)(hl:l.length<=10^9)(he:oz D d e)(hc:dc e<=1000000)(hn:3*d+10<=n):cu cx n b 79 [eH 2 (ib l),.ag (cM e),w] h=some (.sc (.int .i64 (iM l e w)),h):=by
 obtain⟨M,rfl⟩:∃M,n=M+1:=⟨n-1,by omega⟩;obtain⟨k1,e1⟩:∃k,M=k+1:=⟨M-1,by omega⟩;obtain⟨k2,e2⟩:∃k,M=k+d+2:=⟨M-d-2,by omega⟩;obtain⟨k3,e3⟩:∃k,M=k+3*d:=⟨M-3*d,by omega⟩;refine fU f79 [.tmp 6] (by rw[Zn,Zn,dR,mc];rfl) rfl ?_ b h;have ae:=λb h=>V9 D d k2 b e h he hc
 have af:=λs b h=>Lt k1 b l s h hl
 have ah:=λb h=>CV D d e he.1 he.2 k3 b h
 rw[<-e1]at af;rw[<-e2]at ae;rw[<-e3]at ah;have Wa:(vO e).length<=10^6:=by unfold vO;rw[lJ];have:=Ax e [];simp at this;omega
 clear e1 e2 e3 hn hc he;obtain⟨a0,a1,a2,a3,a4,a5,a6,a7,a8,gC⟩:=iK e;have ha0:a0=e.op:=by
  cases e;rw[cM]at gC;injection gC with e1 _
  exact e1.symm
 rw[gC]at ae ah|-;subst ha0;unfold iM;generalize mG e=hg at ah|-;generalize e.op=op at ae ah|-;generalize vO e=us at ae Wa|-;have hy:∀v,eH 2 (ib l)≠ .pn v:=λv=>by unfold eH;split<;>simp
 generalize eH 2 (ib l)=y at af hy|-;have q3:=akN hy
 have hq:=cI us;have Wb:=iW us;generalize eE us=cq at ae hq Wb;generalize hA:(us.any λs=>decide (db l s=0))=A;simp[f79,ae,hq];generalize cU:M (.loop _) _=XX;refine gk cU (λi st cD=>st.length=32/\gt st 0=y/\gt st 2=w/\gt st 4= .pt 0 0/\cD[0]?=some (.row [op,a1,a2,a3,a4,a5,a6,a7,a8])/\gt st 10= .ls 1 cq false/\gt st 11=us.length/\gt st 12=i/\(us.drop i).any (λs=>decide (db l s=0))=A)
  (λo st cD=>st.length=32/\((o= .exit 0/\A=false/\gt st 2=w/\gt st 4= .pt 0 0/\cD[0]?=some (.row [op,a1,a2,a3,a4,a5,a6,a7,a8]))\/(o= .ret/\A=true/\gt st 6=(6:Int)))) us.length (by simp;omega) ⟨rfl,rfl,rfl,rfl,rfl,rfl,rfl,rfl,hA⟩ ?_ ?_
 .clear cU XX hA;rintro i fr hp cP ⟨cp,h0,h2,h4,hh,jv,uu,sX,hA⟩;rcases dY Wb cP with⟨x,hi,hx,hr,cC⟩|rfl
  .have hf:=cz (show i<=10^15 by omega);rw[nY hx]at hA;have fk:=af x;generalize db l x=k at fk hA;generalize JI:(us.drop (i+1)).any _=A' at hA;subst hA;by_cases hk:k=0
   .subst hk;simp[cp,h0,jv,uu,sX,hi,hq,cC,fk,q3]
   .simp[cp,h0,h2,h4,hh,jv,uu,sX,hi,hq,cC,fk,q3,hk,hf];exact JI
  .rw[Yc]at hA;subst hA;simp[cp,uu,sX];exact⟨h2,h4,hh⟩
 .rintro o cG h' rfl ⟨cp,⟨rfl,rfl,h2,h4,hh⟩|⟨rfl,rfl,h6⟩⟩
  .cases hg
   .simp[cp,h4,hh,ah]
   .cases w
    .simp[cp,h2,h4,hh,ah]
    .by_cases ho:op=24
     .subst ho;simp[cp,h2,h4,hh,ah]
     .simp[cp,h2,h4,hh,ah,ho]
  .simp[h6]
def dm(id:Nat)(h h':Hp):Prop:=∀(j:Nat)(b:eV),h[j]?=some b->j≠id->h'[j]?=some b
def dm.refl(id:Nat)(h:Hp):dm id h h:=λ_ _ hj _=>hj
def dm.trans{id:Nat}{a b c:Hp}(h1:dm id a b)(h2:dm id b c):dm id a c:=λj x hj hn=>h2 j x (h1 j x hj hn) hn
def dm.app(id:Nat)(h k:Hp):dm id h (h++k):=λ_ _ hj _=>cJ k hj
def dm.set(id:Nat)(h:Hp)(b:eV):dm id h (h.set id b):=λ_ _ hj hn=>d_ hj λe=>hn e.symm
def ka.keep{h h':Hp}{sz id:Nat}{cq:List LA}{y:AV}(hb:ka h sz cq y)(hk:dm id h h')(hy:∀k m,y= .sl k sz 0 m false->k≠id):ka h' sz cq y:=by
 rcases hb with hb|⟨gE,j,e,hj⟩
 .exact .inl hb
 .exact .inr ⟨gE,j,e,hk j _ hj (hy j _ e)⟩
structure Bs where
 old:gM
 now:gM
 e:Int
def Bs.fail(s:Bs)(e:Int):Bs:={s with e:=cS s.e e}
def Bs.intro(s:Bs)(nm:ByteArray)(k:Int):Bs:=if 24<=s.now.length then s.fail 4 else{s with now:=s.now++[(nm,k)]}
def BS(id:Nat)(s:Bs)(h:Hp):Prop:=∃yo yn,h[id]?=some (.row [yo,yn,s.e])/\(ka h 2 (ib s.old) yo/\∀k m,yo= .sl k 2 0 m false->k≠id)/\(ka h 2 (ib s.now) yn/\∀k m,yn= .sl k 2 0 m false->k≠id)
def BS.app{id:Nat}{s:Bs}{h:Hp}(k:Hp)(hS:BS id s h):BS id s (h++k):=by
 obtain⟨yo,yn,h0,⟨ho,lV⟩,hn,rz⟩:=hS;exact⟨yo,yn,cJ k h0,⟨ho.grow k,lV⟩,hn.grow k,rz⟩
def BS.lt{id:Nat}{s:Bs}{h:Hp}(hS:BS id s h):id<h.length:=by
 obtain⟨yo,yn,h0,_⟩:=hS;exact(Za.1 h0).1
def kX(n:Nat)(t:Bool)(id:Nat)(s:Bs)(e:Int)(h:Hp)(hS:BS id s h):∃h',cu cx (n+1) t 78 [.pt id 0,e] h=some (.tp [],h')/\BS id (s.fail e) h'/\dm id h h':=by
 obtain⟨yo,yn,h0,⟨ho,lV⟩,hn,rz⟩:=hS;refine⟨h.set id (.row [yo,yn,.sc (.int .i64 (cS s.e e))]),?_,⟨yo,yn,dC h0,⟨ho.keep (dm.set _ _ _) lV,lV⟩,hn.keep (dm.set _ _ _) rz,rz⟩,dm.set _ _ _⟩;rw[rr (n:=n) f78 []];unfold cS;generalize s.e=e0 at h0|-;by_cases c:e0=0
 .subst c;simp[f78,h0,cF,h_]
 .rw[cv c,r8 h0];simp[f78,h0,c,h_]
def Wc(n:Nat)(b:Bool)(h:Hp):cu cx (n+1) b 146 [()] h=some (.sc (.slice none 0 0),h):=by
 kernel_rfl
def Wd(n:Nat)(b:Bool)(id m:Nat)(h:Hp)(hm:0<m):cu cx (n+1) b 146 [.sl id 2 0 m false] h=some (.sl id 2 0 m true,h):=by
 rw[rr (n:=n) f146 [.tmp 2]];simp[f146,qi,iC,show¬0=m by omega]
def Rc{t:TypeId}{i:Ti}{sz bytes:Nat}{ag:Bool}{ez:List Value}(hT:cx.T t=some i)(hk:i.kd= .slice sz ag bytes ez)(h:Hp)(cs old:LA)(id n:Nat)(ej:h[id]?=some (.row old))(hc:cs.length=sz)(ho:old.length=n*sz)(ik:0<sz)(hn1:n<=1000000000000000)(hb:(n+1)*bytes<=140737488355328):
 fg cx (h++[.row cs]) t (.sl id sz 0 n true) (.sl h.length sz 0 1 false)=some (.sl (h.length+1) sz 0 (n+1) false,(h++[eV.row cs])++[.row (old++cs)]):=by
 obtain⟨size,agg,zero,kd⟩:=i;simp only at hk;subst hk;have wY:id<h.length:=(Za.1 ej).1;have hr:gu (h++[eV.row cs]) h.length=some cs:=by simp[gu]
 have hn:gV (h++[eV.row cs]) (.sl h.length sz 0 1 false)=some (1,cs):=by
  simp only[gV,hr];rw[cw (by omega),Yd,Nat.one_mul,Yy (by omega)]
 have QC:gu (h++[eV.row cs]) id=some old:=by unfold gu;rw[Zd wY,ej]
 unfold fg;rw[hT];simp only[kM,beq_self_eq_true,Bool.and_self,if_true,hn,QC];rw[cv (by omega),cw ⟨by omega,by unfold maxLen;omega,hb⟩,Yd,<-ho,Xq];simp
def AE(l:gM)(nm:ByteArray)(k:Int):ib (l++[(nm,k)])=ib l++[[.sc (.string nm),.sc (.int .i64 k)]]:=by simp[ib,Pw]
def r_(n:Nat)(t:Bool)(id:Nat)(s:Bs)(nm:ByteArray)(k:Int)(h:Hp)(hS:BS id s h)(hl:s.now.length<=10^6):∃h',cu cx (n+2) t 81 [.pt id 0,nm,k] h=some (.tp [],h')/\BS id (s.intro nm k) h'/\dm id h h':=by
 rw[rr (n:=n+1) f81 []];have du:=hS.lt;unfold Bs.intro;by_cases c:24<=s.now.length
 .rw[cw c];obtain⟨h',ae,ig,hK⟩:=kX n true id s 4 h hS;refine⟨h',?_,ig,hK⟩;obtain⟨yo,yn,h0,⟨ho,lV⟩,hn,rz⟩:=hS;generalize n+1=M at ae|-;rcases hn with⟨hn,rfl⟩|⟨gE,j,rfl,hj⟩
  .have:=congrArg List.length hn;rw[fl]at this;simp at this;rw[this]at c;simp at c
  .have hq:=fl s.now;have c':(24:Int)<=((ib s.now).length:Int):=by omega
   generalize(ib s.now).length=q at c' h0;simp[f81,h0,c',ae,h_]
 .rw[cv c];obtain⟨yo,yn,h0,⟨ho,lV⟩,hn,rz⟩:=hS;have hq:=fl s.now;rcases hn with⟨hn,rfl⟩|⟨gE,j,rfl,hj⟩
  .have hz:s.now=[]:=by
    have:=congrArg List.length hn;rw[fl]at this;exact Xp.1 (by simpa using this)
   have af:=λb h=>Wc n b h
   have ah:=K9 (t:=118) QZ rfl h [nm,k] rfl (by omega);have g0:=cJ [.row [nm,k],.row [nm,k]] h0;refine⟨(h++[eV.row [nm,k],eV.row [nm,k]]).set id (.row [yo,.sl (h.length+1) 2 0 1 false,s.e]),?_,⟨yo,.sl (h.length+1) 2 0 1 false,dC g0,⟨(ho.grow _).keep (dm.set _ _ _) lV,lV⟩,?_,?_⟩,(dm.app _ _ _).trans (dm.set _ _ _)⟩
   .generalize n+1=M at af|-;generalize s.e=e0 at *;simp[f81,h0,af,ah,g0,h_,cF]
   .refine .inr ⟨by simp[ib],h.length+1,?_,?_⟩
    .rw[hz];rfl
    .rw[hz,List.getElem?_set,cv (by omega),Zf (by omega)];simp[ib,Pw]
   .rintro k' m e;injection e with e
    omega
  .have vP:0< (ib s.now).length:=List.length_pos_iff.2 gE;have af:=λb h=>Wd n b j (ib s.now).length h vP
   have ah:=Rc (t:=118) QZ rfl h [nm,k] (ib s.now).flatten j (ib s.now).length hj rfl (e9 _ (kf s.now).1) (by omega) (by omega) (by omega);have g0:=cJ [.row [nm,k],.row ((ib s.now).flatten++[.sc (.string nm),.sc (.int .i64 k)])] h0;rw[Zp]at ah;refine⟨(h++[eV.row [nm,k],eV.row ((ib s.now).flatten++[.sc (.string nm),.sc (.int .i64 k)])]).set id (.row [yo,.sl (h.length+1) 2 0 ((ib s.now).length+1) false,s.e]),?_,⟨yo,.sl (h.length+1) 2 0 ((ib s.now).length+1) false,dC g0,⟨(ho.grow _).keep (dm.set _ _ _) lV,lV⟩,?_,?_⟩,(dm.app _ _ _).trans (dm.set _ _ _)⟩
   .have c':¬(24:Int)<=((ib s.now).length:Int):=by omega
    generalize n+1=M at af|-;generalize s.e=e0,(ib s.now).flatten=F,(ib s.now).length=q at *;simp[f81,h0,c',af,ah,g0,h_,cF]
   .refine .inr ⟨by simp[ib],h.length+1,?_,?_⟩
    .rw[AE];simp
    .rw[AE,List.getElem?_set,cv (by omega),Zf (by omega)];simp
   .rintro k' m e;injection e with e
    omega
def nG(n:Nat)(b:Bool)(l:gM)(y:AV)(h:Hp)(nm:ByteArray)(hB:ka h 2 (ib l) y)(hl:l.length<=10^6):cu cx (n+1) b 80 [y,nm] h=some (.sc (.int .i64 (db l nm)),h):=
 sV (n:=n) (ys:=[eH 2 (ib l),.sc (.string nm)]) rfl (by kernel_rfl) (by rw[Zo,gf (n:=7) (by omega) (kf l).1 (kf l).2 hB];rfl) (by rw[Zn,mc];rfl) rfl (Lt n b l nm h (by omega))
def ub(D d:Nat)(e:Ep):Prop:=oz D d e/\dc e<=1000000
def lh(D d n:Nat)(b:Bool)(l:gM)(y:AV)(h:Hp)(e:Ep)(w:Bool)(hB:ka h 2 (ib l) y)(hl:l.length<=10^6)(he:ub D d e)(hn:3*d+10<=n):cu cx n b 79 [y,.ag (cM e),w] h=some (.sc (.int .i64 (iM l e w)),h):=by
 obtain⟨m,rfl⟩:∃m,n=m+1:=⟨n-1,by omega⟩;exact sV (n:=m) (ys:=[eH 2 (ib l),.ag (cM e),.sc (.bool w)]) rfl (by kernel_rfl) (by rw[Zo,gf (n:=7) (by omega) (kf l).1 (kf l).2 hB,Zo,iE (n:=6) (dR e)];rfl) (by rw[Zn,mc,Zn,dR];rfl) rfl (Rb D d (m+1) b l e w h (by omega) he.1 he.2 hn)
def Bs.props(s:Bs)(l:List Pp):Bs:=l.foldl (λs q=>s.fail (iM s.old q.e false)) s
def cH{α:Type}{l:List α}{i:Nat}{x:α}(h:l[i]?=some x):l.drop i=x::l.drop (i+1):=by
 obtain⟨k,e⟩:=Za.1 h;rw[Zm k,e]
def GI(D d n:Nat)(t:Bool)(id:Nat)(s:Bs)(l:List Pp)(h:Hp)(hS:BS id s h)(hb:∀q∈l,ub D d q.e)(hl:l.length<=10^9)(AF:s.old.length<=10^6)(hn:3*d+20<=n):
 ∃h',cu cx n t 222 [.pt id 0,.ls 10 (jw l) false] h=some (.tp [],h')/\BS id (s.props l) h'/\dm id h h':=by
 obtain⟨M,rfl⟩:∃m,n=m+1:=⟨n-1,by omega⟩;obtain⟨k1,e1⟩:∃k,M=k+1:=⟨M-1,by omega⟩;rw[rr (n:=M) f222 []];have hq:=dP l;have hg:=jf l;have fc:=λ(y:AV)(h:Hp)(q:Pp)(hq:q∈l)(hB:ka h 2 (ib s.old) y)b=>lh D d M b s.old y h q.e false hB AF (hb q hq) (by omega)
 have ff:=λb(s:Bs)e h hS=>kX k1 b id s e h hS
 rw[<-e1]at ff;clear e1 hn hb;generalize jw l=cq at hq hg|-;generalize hT:s.props l=T;simp[f222,hq];generalize cU:M (.loop _) _=XX;refine gk cU
  (λi st cD=>st.length=22/\gt st 0= .pt id 0/\gt st 6= .ls 10 cq false/\gt st 7=l.length/\gt st 8=i/\∃s',BS id s' cD/\dm id h cD/\s'.old=s.old/\s'.props (l.drop i)=T)
  (λo st cD=>o= .exit 0/\BS id T cD/\dm id h cD)
  l.length (by simp;omega) ⟨rfl,rfl,rfl,rfl,rfl,s,hS,dm.refl _ _,rfl,hT⟩ ?_ ?_
 .clear cU XX hT hS;rintro i fr hp cP ⟨cp,h0,h6,h7,h8,s',hS,hK,GJ,hT⟩;rcases dY hg cP with⟨x,hi,hx,hr,cC⟩|rfl
  .have dB:=Zi hx;have hf:=cz (show i<=10^15 by omega);rw[cH hx]at hT;change(s'.fail (iM s'.old x.e false)).props (l.drop (i+1))=T at hT;have jI:=hS.app [.row (eF x)];obtain⟨h',ae,ig,hK'⟩:=ff false s' (iM s'.old x.e false) _ jI;obtain⟨yo,yn,g0,⟨go,go'⟩,gn⟩:=hS;rw[GJ]at go hT ae ig;have af:=fc yo (hp++[.row (eF x)]) x dB (go.grow _) false;have g1:=cJ [.row (eF x)] g0;have q3:=akO (λv=>go.np v)
   have hold:(s'.fail (iM s.old x.e false)).old=s.old:=GJ;generalize s'.fail (iM s.old x.e false)=s2 at hT ig hold;generalize iM s.old x.e false=c at ae af;generalize s'.e=e0 at g0 g1;unfold eF at hr cC ae af g1 hK';have dH:=cB x.e;generalize cM x.e=ev at hr cC dH ae af g1 hK';have dJ:ev.take 9=ev:=Yy (by omega);have jT:=qY (ev:= .sc (.string x.key)::ev) (by simp[dH]);simp[cp,h0,h6,h7,h8,hi,hq,cC,dH,dJ,jT,g1,q3,ae,af,hf];exact⟨s2,ig,(hK.trans (dm.app _ _ _)).trans hK',hold,hT⟩
  .rw[Yc]at hT;subst hT;simp[cp,h7,h8];exact⟨hS,hK⟩
 .rintro o cG h' rfl ⟨rfl,ig,hK'⟩;simp[h_];exact⟨ig,hK'⟩
def Bs.dU(s:Bs)(nm:ByteArray)(k:Int):(s.intro nm k).old=s.old:=by unfold Bs.intro;split<;>rfl
def dh{h:Hp}{j:Nat}{b:eV}(hj:h[j]?=some b):∀k,h[j]'k=b:=λkx=>by obtain⟨_,e⟩:=Za.1 hj;exact e
def Bs.jt(s:Bs)(x:Np)(m:Bool):Bs:=if dn x.var ⟨#[]⟩=true then s else if db s.now x.var=0 then s.intro x.var 1 else if db s.now x.var=1 then(if(!m && (decide (0<x.labels.length)||decide (0<x.props.length)))=true then s.fail 7 else s)else s.fail 8
def Bs.node(s:Bs)(x:Np)(m:Bool):Bs:=(s.jt x m).props x.props
def Bs.ju(s:Bs)(x:Gp)(m:Bool):Bs:=if dn x.var ⟨#[]⟩=true then s else if db s.now x.var=0 then(if x.mode=0 then s.intro x.var 2 else s.intro x.var 4)else if(!m|| !decide (x.mode=0))=true then s.fail 7 else if db s.now x.var=2 then s else s.fail 8
def Bs.edge(s:Bs)(x:Gp)(m:Bool):Bs:=(s.ju x m).props x.props
def We(D d n:Nat)(t:Bool)(id:Nat)(s:Bs)(x:Np)(m:Bool)(h:Hp)(hS:BS id s h)(hb:∀q∈x.props,ub D d q.e)(hl:x.props.length<=10^9)(AF:s.old.length<=10^6)(jx:s.now.length<=10^6)(hn:3*d+30<=n):
 ∃h',cu cx n t 142 [.pt id 0,.ag (dD x),m] h=some (.tp [],h')/\BS id (s.node x m) h'/\dm id h h':=by
 obtain⟨M,rfl⟩:∃m,n=m+1:=⟨n-1,by omega⟩;obtain⟨k1,e1⟩:∃k,M=k+1:=⟨M-1,by omega⟩;obtain⟨k2,e2⟩:∃k,M=k+2:=⟨M-2,by omega⟩;rw[rr (n:=M) f142 []];have fp:=λb(s1:Bs)h hS ho=>GI D d M b id s1 x.props h hS hb hl ho (by omega)
 have ff:=λb(s:Bs)e h hS=>kX k1 b id s e h hS
 have fi:=λb(s:Bs)nm k h hS hl=>r_ k2 b id s nm k h hS hl
 have fk:=λb(y:AV)(h:Hp)(hB:ka h 2 (ib s.now) y)=>nG k1 b s.now y h x.var hB jx
 rw[<-e1]at ff fk;rw[<-e2]at fi;clear e1 e2 hn hb;have tail:∀(fr:LA)(h1:Hp)(s1:Bs),BS id s1 h1->dm id (h++[.row (dD x)]) h1->s1.old=s.old->fr.length=51->gt fr 0= .pt id 0->gt fr 4= .pt h.length 0->∃h',dT [] (M (cT 3 ((f142.body).getD .skip)) (fr,h1))=some (.tp [],h')/\BS id (s1.props x.props) h'/\dm id h h':=by
  intro fr h1 s1 gm hK ho cp g0 g4;obtain⟨h',ae,ig,hK'⟩:=fp true s1 h1 gm (by rw[ho];exact AF);have gb:h1[h.length]?=some (.row (dD x)):=hK _ _ (by simp) (by have:=hS.lt;omega);refine⟨h',?_,ig,((dm.app _ _ _).trans hK).trans hK'⟩;unfold dD at gb;generalize jw x.props=rp at ae gb;simp[cT,cR,f142,cp,g0,g4,gb,ae,h_]
 show∃h',dT [] (M ((f142.body).getD .skip) _)=_/\_;rw[show(f142.body).getD .skip= .seq (cL (cT 0 ((f142.body).getD .skip))) (.seq (cL (cT 1 ((f142.body).getD .skip))) (.seq (cL (cT 2 ((f142.body).getD .skip))) (cT 3 ((f142.body).getD .skip)))) by kernel_rfl];generalize cT 3 ((f142.body).getD .skip)=Z at tail|-;have jI:=hS.app [.row (dD x)];obtain⟨yo,yn,g0,⟨go,go'⟩,gn,tK⟩:=jI;have BQ:=λb=>fk b yn _ gn
 have Nc:=dh g0;have q3:=akO (λv=>gn.np v)
 have jI:BS id s (h++[.row (dD x)]):=⟨yo,yn,g0,⟨go,go'⟩,gn,tK⟩;have hFi:=λb k=>fi b s x.var k _ jI jx
 have hFf:=λb e=>ff b s e _ jI
 clear fp ff fi fk go gn hS;unfold Bs.node Bs.jt;generalize db s.now x.var=k at BQ|-;have Lu:=cI x.labels;have wM:=dP x.props;unfold dD at *;generalize eE x.labels=rl,jw x.props=rp at *;generalize cY:([.sc (.string x.var),.ls 1 rl false,.ls 10 rp false]:LA)=row at *;have di:=cY.symm;generalize hH:h++[eV.row row]=H at *;have gb:H[h.length]?=some (.row row):=by rw[<-hH];simp
 have hHl:H.length=h.length+1:=by rw[<-hH];simp
 have gb':=dh gb;clear tK go';by_cases he:dn x.var ⟨#[]⟩=true
 .rw[cw he];subst di;simp[cL,cT,cR,f142,hH,g0,gb,q3,BQ,he];exact tail _ _ s jI (dm.refl _ _) rfl (by simp) (by simp) (by simp)
 rw[cv he];simp only[Xs]at he;by_cases k0:k=0
 .rw[cw k0];subst k0;obtain⟨h1,ae,gm,f_⟩:=hFi true 1;subst di;simp[cL,cT,cR,f142,hH,g0,gb,q3,BQ,he,ae];exact tail _ _ _ gm f_ (Bs.dU _ _ _) (by simp) (by simp) (by simp)
 rw[cv k0];by_cases kk:k=1
 .rw[cw kk];subst kk;cases m
  .by_cases c1:0<x.labels.length
   .rw[cw (by simp[c1])];obtain⟨h1,ae,gm,f_⟩:=hFf true 7;subst di;simp[cL,cT,cR,f142,hH,g0,gb,q3,BQ,he,Lu,c1,ae];exact tail _ _ _ gm f_ (rfl) (by simp) (by simp) (by simp)
   .by_cases c2:0<x.props.length
    .rw[cw (by simp[c2])];obtain⟨h1,ae,gm,f_⟩:=hFf true 7;subst di;simp[cL,cT,cR,f142,hH,g0,gb,q3,BQ,he,Lu,wM,c1,c2,ae];exact tail _ _ _ gm f_ (rfl) (by simp) (by simp) (by simp)
    .rw[cv (by simp[c1,c2])];subst di;simp[cL,cT,cR,f142,hH,g0,gb,q3,BQ,he,Lu,wM,c1,c2];exact tail _ _ s jI (dm.refl _ _) rfl (by simp) (by simp) (by simp)
  .rw[cv (by simp)];subst di;simp[cL,cT,cR,f142,hH,g0,gb,q3,BQ,he];exact tail _ _ s jI (dm.refl _ _) rfl (by simp) (by simp) (by simp)
 .rw[cv kk];obtain⟨h1,ae,gm,f_⟩:=hFf true 8;subst di;simp[cL,cT,cR,f142,hH,g0,gb,q3,BQ,he,k0,kk,ae];exact tail _ _ _ gm f_ (rfl) (by simp) (by simp) (by simp)
def Wf(D d n:Nat)(t:Bool)(id:Nat)(s:Bs)(x:Gp)(m:Bool)(h:Hp)(hS:BS id s h)(hb:∀q∈x.props,ub D d q.e)(hl:x.props.length<=10^9)(AF:s.old.length<=10^6)(jx:s.now.length<=10^6)(hn:3*d+30<=n):
 ∃h',cu cx n t 143 [.pt id 0,.ag (dE x),m] h=some (.tp [],h')/\BS id (s.edge x m) h'/\dm id h h':=by
 obtain⟨M,rfl⟩:∃m,n=m+1:=⟨n-1,by omega⟩;obtain⟨k1,e1⟩:∃k,M=k+1:=⟨M-1,by omega⟩;obtain⟨k2,e2⟩:∃k,M=k+2:=⟨M-2,by omega⟩;rw[rr (n:=M) f143 []];have fp:=λb(s1:Bs)h hS ho=>GI D d M b id s1 x.props h hS hb hl ho (by omega)
 have ff:=λb(s:Bs)e h hS=>kX k1 b id s e h hS
 have fi:=λb(s:Bs)nm k h hS hl=>r_ k2 b id s nm k h hS hl
 have fk:=λb(y:AV)(h:Hp)(hB:ka h 2 (ib s.now) y)=>nG k1 b s.now y h x.var hB jx
 rw[<-e1]at ff fk;rw[<-e2]at fi;clear e1 e2 hn hb;have tail:∀(fr:LA)(h1:Hp)(s1:Bs),BS id s1 h1->dm id (h++[.row (dE x)]) h1->s1.old=s.old->fr.length=56->gt fr 0= .pt id 0->gt fr 4= .pt h.length 0->∃h',dT [] (M (cT 3 ((f143.body).getD .skip)) (fr,h1))=some (.tp [],h')/\BS id (s1.props x.props) h'/\dm id h h':=by
  intro fr h1 s1 gm hK ho cp g0 g4;obtain⟨h',ae,ig,hK'⟩:=fp true s1 h1 gm (by rw[ho];exact AF);have gb:h1[h.length]?=some (.row (dE x)):=hK _ _ (by simp) (by have:=hS.lt;omega);refine⟨h',?_,ig,((dm.app _ _ _).trans hK).trans hK'⟩;unfold dE at gb;generalize jw x.props=rp at ae gb;simp[cT,cR,f143,cp,g0,g4,gb,ae,h_]
 show∃h',dT [] (M ((f143.body).getD .skip) _)=_/\_;rw[show(f143.body).getD .skip= .seq (cL (cT 0 ((f143.body).getD .skip))) (.seq (cL (cT 1 ((f143.body).getD .skip))) (.seq (cL (cT 2 ((f143.body).getD .skip))) (cT 3 ((f143.body).getD .skip)))) by kernel_rfl];generalize cT 3 ((f143.body).getD .skip)=Z at tail|-;have jI:=hS.app [.row (dE x)];obtain⟨yo,yn,g0,⟨go,go'⟩,gn,tK⟩:=jI;have BQ:=λb=>fk b yn _ gn
 have Nc:=dh g0;have q3:=akO (λv=>gn.np v)
 have jI:BS id s (h++[.row (dE x)]):=⟨yo,yn,g0,⟨go,go'⟩,gn,tK⟩;have hFi:=λb k=>fi b s x.var k _ jI jx
 have hFf:=λb e=>ff b s e _ jI
 clear fp ff fi fk go gn hS;unfold Bs.edge Bs.ju;generalize db s.now x.var=k at BQ|-;unfold dE at *;generalize eE x.types=rl,jw x.props=rp,x.mode=md at *;generalize cY:([.sc (.string x.var),.ls 1 rl false,.sc (.int .i64 x.dir),.sc (.int .i64 md),.sc (.int .i64 x.mn),.sc (.int .i64 x.mx),.ls 10 rp false]:LA)=row at *;have di:=cY.symm;generalize hH:h++[eV.row row]=H at *;have gb:H[h.length]?=some (.row row):=by rw[<-hH];simp
 have hHl:H.length=h.length+1:=by rw[<-hH];simp
 have gb':=dh gb;clear tK go';by_cases he:dn x.var ⟨#[]⟩=true
 .rw[cw he];subst di;simp[cL,cT,cR,f143,hH,g0,gb,q3,BQ,he];exact tail _ _ s jI (dm.refl _ _) rfl (by simp) (by simp) (by simp)
 rw[cv he];simp only[Xs]at he;by_cases k0:k=0
 .rw[cw k0];subst k0;by_cases c0:md=0
  .rw[cw c0];subst c0;obtain⟨h1,ae,gm,f_⟩:=hFi true 2;subst di;simp[cL,cT,cR,f143,hH,g0,gb,q3,BQ,he,ae];exact tail _ _ _ gm f_ (Bs.dU _ _ _) (by simp) (by simp) (by simp)
  .rw[cv c0];obtain⟨h1,ae,gm,f_⟩:=hFi true 4;subst di;simp[cL,cT,cR,f143,hH,g0,gb,q3,BQ,he,c0,ae];exact tail _ _ _ gm f_ (Bs.dU _ _ _) (by simp) (by simp) (by simp)
 rw[cv k0];cases m
 .rw[cw (by simp)];obtain⟨h1,ae,gm,f_⟩:=hFf true 7;subst di;simp[cL,cT,cR,f143,hH,g0,gb,q3,BQ,he,k0,ae];exact tail _ _ _ gm f_ (rfl) (by simp) (by simp) (by simp)
 by_cases c0:md=0
 .rw[cv (by simp[c0])];subst c0;by_cases kk:k=2
  .rw[cw kk];subst kk;subst di;simp[cL,cT,cR,f143,hH,g0,gb,q3,BQ,he];exact tail _ _ s jI (dm.refl _ _) rfl (by simp) (by simp) (by simp)
  .rw[cv kk];obtain⟨h1,ae,gm,f_⟩:=hFf true 8;subst di;simp[cL,cT,cR,f143,hH,g0,gb,q3,BQ,he,k0,kk,ae];exact tail _ _ _ gm f_ (rfl) (by simp) (by simp) (by simp)
 .rw[cw (by simp[c0])];obtain⟨h1,ae,gm,f_⟩:=hFf true 7;subst di;simp[cL,cT,cR,f143,hH,g0,gb,q3,BQ,he,k0,c0,ae];exact tail _ _ _ gm f_ (rfl) (by simp) (by simp) (by simp)
def jG(s:Bs):Prop:=s.old.length<=24/\s.now.length<=24
def jG.fail{s:Bs}(h:jG s)(e:Int):jG (s.fail e):=h
def jG.intro{s:Bs}(h:jG s)(nm:ByteArray)(k:Int):jG (s.intro nm k):=by
 unfold Bs.intro;split
 .exact h
 .refine⟨h.1,?_⟩;simp only[Zu,Ys,List.length_nil];omega
def Bs.xf(l:List Pp):∀s:Bs,(s.props l).old=s.old/\(s.props l).now=s.now:=by
 induction l with
 |nil=>exact λs=>⟨rfl,rfl⟩
 |cons q l ih=>exact λs=>ih (s.fail (iM s.old q.e false))
def jG.props{s:Bs}(h:jG s)(l:List Pp):jG (s.props l):=by
 obtain⟨h1,h2⟩:=Bs.xf l s;unfold jG;rw[h1,h2];exact h
def jG.node{s:Bs}(h:jG s)(x:Np)(m:Bool):jG (s.node x m):=by
 refine jG.props ?_ _;unfold Bs.jt;split
 .exact h
 .split
  .exact h.intro _ _
  .split
   .split<;>exact h
   .exact h
def jG.edge{s:Bs}(h:jG s)(x:Gp)(m:Bool):jG (s.edge x m):=by
 refine jG.props ?_ _;unfold Bs.ju;split
 .exact h
 .split
  .split<;>exact h.intro _ _
  .split
   .exact h
   .split<;>exact h
def Bs.AG(s:Bs)(x:Np)(m:Bool):(s.node x m).old=s.old:=by
 unfold Bs.node;rw[(Bs.xf _ _).1];unfold Bs.jt;split
 .rfl
 .split
  .exact Bs.dU _ _ _
  .split
   .split<;>rfl
   .rfl
def Bs.GK(s:Bs)(x:Gp)(m:Bool):(s.edge x m).old=s.old:=by
 unfold Bs.edge;rw[(Bs.xf _ _).1];unfold Bs.ju;split
 .rfl
 .split
  .split<;>exact Bs.dU _ _ _
  .split
   .rfl
   .split<;>rfl
def Bs.elem(s:Bs)(nm:ByteArray)(ed:Bool):Bs:=if db s.now nm=0 then s.fail 6 else if db s.now nm=1 then s else if db s.now nm=2 then(if ed=true then s else s.fail 8)else s.fail 8
def jG.elem{s:Bs}(h:jG s)(nm:ByteArray)(ed:Bool):jG (s.elem nm ed):=by
 unfold Bs.elem;split
 .exact h
 .split
  .exact h
  .split
   .split<;>exact h
   .exact h
def Lv(n:Nat)(t:Bool)(id:Nat)(s:Bs)(nm:ByteArray)(ed:Bool)(h:Hp)(hS:BS id s h)(hs:jG s):∃h',cu cx (n+2) t 83 [.pt id 0,nm,ed] h=some (.tp [],h')/\BS id (s.elem nm ed) h'/\dm id h h':=by
 rw[rr (n:=n+1) f83 []];have ff:=λb e=>kX n b id s e h hS
 obtain⟨yo,yn,g0,⟨go,go'⟩,gn,tK⟩:=hS;have fk:=λb=>nG n b s.now yn h nm gn (by have:=hs.2;omega)
 have q3:=akN (λv=>gn.np v)
 have hS:BS id s h:=⟨yo,yn,g0,⟨go,go'⟩,gn,tK⟩;clear gn go tK go';unfold Bs.elem;generalize db s.now nm=k at fk|-;generalize n+1=M at ff fk q3|-;by_cases k0:k=0
 .rw[cw k0];subst k0;obtain⟨h',ae,ig,hK'⟩:=ff true 6;refine⟨h',?_,ig,hK'⟩;simp[f83,g0,q3,fk,ae,h_]
 rw[cv k0];by_cases k1:k=1
 .rw[cw k1];subst k1;refine⟨h,?_,hS,dm.refl _ _⟩;simp[f83,g0,q3,fk,h_]
 rw[cv k1];obtain⟨h',ae,ig,hK'⟩:=ff true 8;by_cases k2:k=2
 .rw[cw k2];subst k2;cases ed
  .refine⟨h',?_,ig,hK'⟩;simp[f83,g0,q3,fk,ae,h_]
  .refine⟨h,?_,hS,dm.refl _ _⟩;simp[f83,g0,q3,fk,h_]
 .rw[cv k2];refine⟨h',?_,ig,hK'⟩;simp[f83,g0,q3,fk,ae,k0,k1,k2,h_]
def Bs.jD(m:Bool):Bs->List Np->List Gp->Bs
 |s,[],_=>s
 |s,x::ns,[]=>Bs.jD m (s.node x m) ns []
 |s,x::ns,e::es=>Bs.jD m ((s.node x m).edge e m) ns es
def Bs.xg{m:Bool}{s:Bs}{ns:List Np}{es:List Gp}{i:Nat}{x:Np}(h:ns[i]?=some x):Bs.jD m s (ns.drop i) (es.drop i)=Bs.jD m (match es[i]? with|some e=>(s.node x m).edge e m|none=>s.node x m) (ns.drop (i+1)) (es.drop (i+1)):=by
 rw[cH h];cases he:es[i]? with
 |
  none=>
  have hl:es.length<=i:=List.getElem?_eq_none_iff.1 he;have h1:es.drop i=[]:=Zt hl;have h2:es.drop (i+1)=[]:=Zt (by omega);rw[h1,h2];rfl
 |some e=>rw[cH he];rfl
def Bs.path(s:Bs)(p:Tp)(kd:Int):Bs:=
 if dn p.var ⟨#[]⟩=true then s.jD (decide (kd=1)) p.nodes p.cE
 else if kd=5 then(s.jD (decide (kd=1)) p.nodes p.cE).fail 8
 else if db (s.jD (decide (kd=1)) p.nodes p.cE).now p.var=0 then(s.jD (decide (kd=1)) p.nodes p.cE).intro p.var 3
 else(s.jD (decide (kd=1)) p.nodes p.cE).fail 7
def EC{m:Bool}:∀(ns:List Np)(es:List Gp)(s:Bs),jG s->jG (Bs.jD m s ns es)/\(Bs.jD m s ns es).old=s.old
 | [],_,s,h=>⟨h,rfl⟩
 |
  x::ns,[],s,h=>by
  have:=EC (m:=m) ns [] (s.node x m) (h.node x m);exact⟨this.1,this.2.trans (Bs.AG _ _ _)⟩
 |
  x::ns,e::es,s,h=>by
  have:=EC (m:=m) ns es ((s.node x m).edge e m) ((h.node x m).edge e m);exact⟨this.1,this.2.trans ((Bs.GK _ _ _).trans (Bs.AG _ _ _))⟩
def Wg{s:Bs}(h:jG s)(p:Tp)(kd:Int):jG (s.path p kd)/\(s.path p kd).old=s.old:=by
 obtain⟨h1,h2⟩:=EC (m:=decide (kd=1)) p.nodes p.cE s h;unfold Bs.path;split
 .exact⟨h1,h2⟩
 .split
  .exact⟨h1,h2⟩
  .split
   .exact⟨h1.intro _ _,(Bs.dU _ _ _).trans h2⟩
   .exact⟨h1,h2⟩
noncomputable def IH :Code:=(f77.body).getD .skip
def bbN(D d:Nat)(x:Np):Prop:=(∀q∈x.props,ub D d q.e)/\x.props.length<=10^9
def bbG(D d:Nat)(x:Gp):Prop:=(∀q∈x.props,ub D d q.e)/\x.props.length<=10^9
def bbT(D d:Nat)(p:Tp):Prop:=(∀x∈p.nodes,bbN D d x)/\(∀x∈p.cE,bbG D d x)/\p.nodes.length<=10^9/\p.cE.length<=10^9
def PB(id:Nat)(T:Bs)(h0:Hp)(r:Option (Out × St)):Prop:=∃h',dT [] r=some (.tp [],h')/\BS id T h'/\dm id h0 h'
def ag2(D d M id hc:Nat)(kd:Int)(l:List Tp)(cq:List LA)(row:LA)(cY:row[0]?=some (.sc (.int .i64 kd))/\row[3]?=some (.ls 3 cq false))(T:Bs)(h0:Hp)(X:Code)(hq:cq.length=l.length)(hg:∀i:Nat,cq[i]?=(l[i]?).map dW)(hl:l.length<=10^9)(hb:∀p∈l,bbT D d p)(hn:3*d+40<=M)(s:Bs)(hX:∀fr h,BS id (l.foldl (λs p=>s.path p kd) s) h->jG (l.foldl (λs p=>s.path p kd) s)->(l.foldl (λs p=>s.path p kd) s).old=s.old->dm id h0 h->fr.length=89->gt fr 0= .pt id 0->gt fr 3= .pt hc 0->h[hc]?=some (.row row)->PB id T h0 (M X (fr,h)))(fr:LA)(h:Hp)(hS:BS id s h)(hs:jG s)(hK:dm id h0 h)(cp:fr.length=89)(g0:gt fr 0= .pt id 0)(g3:gt fr 3= .pt hc 0)(g4:gt fr 4= .sc (.bool (decide (kd=1))))(hh:h[hc]?=some (.row row))(gE:hc≠id):
 PB id T h0 (M (.seq (cL (cT 2 IH)) X) (fr,h)):=by
 obtain⟨k1,e1⟩:∃k,M=k+1:=⟨M-1,by omega⟩;obtain⟨k2,e2⟩:∃k,M=k+2:=⟨M-2,by omega⟩;have ff:=λb(s:Bs)e h hS=>kX k1 b id s e h hS
 have fi:=λb(s:Bs)nm k h hS hl=>r_ k2 b id s nm k h hS hl
 have fk:=λb(s:Bs)(y:AV)(h:Hp)nm(hB:ka h 2 (ib s.now) y)(hs:jG s)=>nG k1 b s.now y h nm hB (by have:=hs.2;omega)
 have fnd:=λb(s:Bs)(x:Np)m h hS(hx:bbN D d x)(hs:jG s)=>We D d M b id s x m h hS hx.1 hx.2 (by have:=hs.1;omega) (by have:=hs.2;omega) (by omega)
 have fed:=λb(s:Bs)(x:Gp)m h hS(hx:bbG D d x)(hs:jG s)=>Wf D d M b id s x m h hS hx.1 hx.2 (by have:=hs.1;omega) (by have:=hs.2;omega) (by omega)
 rw[<-e1]at ff fk;rw[<-e2]at fi;clear e1 e2 hn;obtain⟨tY,BP⟩:=cY;generalize dN:l.foldl (λs p=>s.path p kd) s=TL at hX;simp[IH,cT,cR,cL,f77,cp,g3,hh,BP,hq];generalize cU:M (.loop _) _=XX;refine gk cU
  (λi st cD=>st.length=89/\gt st 0= .pt id 0/\gt st 3= .pt hc 0/\gt st 4= .sc (.bool (decide (kd=1)))/\cD[hc]?=some (.row row)/\gt st 15= .ls 3 cq false/\gt st 16=l.length/\gt st 17=i/\∃s',BS id s' cD/\jG s'/\s'.old=s.old/\dm id h0 cD/\(l.drop i).foldl (λs p=>s.path p kd) s'=TL)
  (λo st cD=>o= .exit 0/\st.length=89/\gt st 0= .pt id 0/\gt st 3= .pt hc 0/\cD[hc]?=some (.row row)/\BS id TL cD/\jG TL/\TL.old=s.old/\dm id h0 cD)
  l.length (by simp;omega) ⟨by simp[cp],by simp[g0],by simp[g3],by simp[g4],hh,by simp[cp],by simp[cp],by simp[cp],s,hS,hs,rfl,hK,dN⟩ ?_ ?_
 .clear cU XX dN hS hK cp g0 g3 g4 hh hs hX;rintro i fr hp cP ⟨cp,g0,g3,g4,hh,tH,vA,sU,s',hS,hs,AF,hK,dN⟩;rcases dY hg cP with⟨p,hi,hx,hr,cC⟩|rfl
  .have dB:=Zi hx;have fH:i<=10^15:=by omega
   rw[cH hx,Yi]at dN;obtain⟨M9,V1,Cf,wV⟩:=hb p dB;have du:=hS.lt;have jI:=hS.app [.row (dW p)];have JL:=cJ [.row (dW p)] hh;have ph:=hK.trans (dm.app id hp [.row (dW p)]);have gp:(hp++[eV.row (dW p)])[hp.length]?=some (.row (dW p)):=by simp
   have adH:hp.length≠id:=by omega
   unfold dW at hr cC gp jI JL ph;have vJ:=fK p.nodes;have MQ:=kV p.nodes;have xc:=fL p.cE;have vK:=kW p.cE;generalize gZ p.nodes=rn,nD p.cE=re at *;generalize xj:hp++[eV.row [p.var,.ls 3 rn false,.ls 7 re false]]=hp1,Lw:hp.length=jp at *;simp[cp,tH,vA,sU,hi,hq,cC,qC,xj,Lw,gp,vJ];generalize ZY:M (.loop _) _=YY;generalize hm:decide (kd=1)=m at *;generalize Re:Bs.jD m s' p.nodes p.cE=TI;refine Lk ZY
    (λi' st=>st.1.length=89/\gt st.1 0= .pt id 0/\gt st.1 3= .pt hc 0/\gt st.1 4=m/\gt st.1 6= .pt jp 0/\st.2[hc]?=some (.row row)/\st.2[jp]?=some (.row [p.var,.ls 3 rn false,.ls 7 re false])/\gt st.1 15= .ls 3 cq false/\gt st.1 16=l.length/\gt st.1 17=i/\
     gt st.1 22= .ls 3 rn false/\gt st.1 23=p.nodes.length/\gt st.1 24=i'/\∃s2,BS id s2 st.2/\jG s2/\s2.old=s.old/\dm id h0 st.2/\Bs.jD m s2 (p.nodes.drop i') (p.cE.drop i')=TI)
    (λo st=>o= .exit 2/\st.1.length=89/\gt st.1 0= .pt id 0/\gt st.1 3= .pt hc 0/\gt st.1 4=m/\gt st.1 6= .pt jp 0/\st.2[hc]?=some (.row row)/\st.2[jp]?=some (.row [p.var,.ls 3 rn false,.ls 7 re false])/\gt st.1 15= .ls 3 cq false/\gt st.1 16=l.length/\gt st.1 17=i/\
     BS id TI st.2/\jG TI/\TI.old=s.old/\dm id h0 st.2)
    p.nodes.length (by simp;omega) ⟨by simp[cp],by simp[g0],by simp[g3],by simp[g4],by simp[cp],JL,gp,by simp[tH],by simp[vA],by simp[sU],by simp[cp],by simp[cp],by simp[cp],s',jI,hs,AF,ph,Re⟩ ?_ ?_
   .clear ZY YY Re jI ph cp g0 g3 g4 hh tH vA sU hS hK dN hs AF JL gp;rintro j fr hp cP ⟨cp,g0,g3,g4,g6,hh,gp,tH,vA,sU,h22,h23,h24,s2,hS,hs,AF,hK,Re⟩;simp only at cp g0 g3 g4 g6 hh gp tH vA sU h22 h23 h24 hS hK;by_cases hj:j<p.nodes.length
    .obtain⟨x,Lx,ED,lW⟩:=il MQ hj;have adI:j<=1000000000000000:=by omega
     rw[Bs.xg Lx]at Re;have zg:=hS.app [.row (dD x)];obtain⟨h1,ae,II,JM⟩:=fnd true s2 x m _ zg (M9 x (Zi Lx)) hs;have kJ:=JM _ _ (cJ [.row (dD x)] hh) gE;have rC:=JM _ _ (cJ [.row (dD x)] gp) adH;have hK5:=(hK.trans (dm.app _ _ [.row (dD x)])).trans JM;have hold:=(Bs.AG s2 x m).trans AF;have jB:=hs.node x m;generalize s2.node x m=s3 at *;unfold dD at ED lW ae;by_cases he:j<p.cE.length
     .obtain⟨e,hej,Z_,Wh⟩:=il vK he;obtain⟨h2,af,IJ,AH⟩:=fed true s3 e m h1 II (V1 e (Zi hej)) jB;rw[hej]at Re;unfold dE at Z_ Wh af;have hfj:=cz adI;simp[cp,g0,g3,g4,g6,tH,vA,sU,h22,h23,h24,hj,vJ,lW,qC,ae,rC,he,xc,Wh,af,hfj];exact⟨AH _ _ kJ gE,AH _ _ rC adH,_,IJ,jB.edge e m,(Bs.GK _ _ _).trans hold,hK5.trans AH,Re⟩
     .rw[Xc (by omega)]at Re;have hfj:=cz adI;simp[cp,g0,g3,g4,g6,tH,vA,sU,h22,h23,h24,hj,vJ,lW,qC,ae,rC,he,xc,hfj];exact⟨kJ,_,II,jB,hold,hK5,Re⟩
    .have iJ:j=p.nodes.length:=Yb cP (Ya hj);subst iJ;rw[Yc]at Re;subst Re;simp[cp,h23,h24];exact⟨g0,g3,g4,g6,hh,gp,tH,vA,sU,hS,hs,AF,hK⟩
   .rintro o cG h' rfl ⟨rfl,cp,g0,g3,g4,g6,hh,gp,tH,vA,sU,hS,hs,AF,hK⟩;simp only at cp g0 g3 g4 g6 hh gp tH vA sU hS hK;have mZ:s'.path p kd=(if dn p.var ⟨#[]⟩=true then TI else if kd=5 then TI.fail 8 else if db TI.now p.var=0 then TI.intro p.var 3 else TI.fail 7):=by unfold Bs.path;rw[hm,Re]
    rw[mZ]at dN;clear mZ;have hf:=cz fH;by_cases he:dn p.var ⟨#[]⟩=true
    .rw[cw he]at dN;simp[cp,g0,g3,g4,g6,tH,vA,sU,hi,gp,he,hf];exact⟨hh,TI,hS,hs,AF,hK,dN⟩
    rw[cv he]at dN;simp only[Xs]at he;by_cases k5:kd=5
    .rw[cw k5]at dN;obtain⟨h2,af,IJ,AH⟩:=ff true TI 8 h' hS;subst k5;simp[cp,g0,g3,g4,g6,tH,vA,sU,hi,gp,he,hf,hh,tY,af];exact⟨AH _ _ hh gE,_,IJ,hs,AF,hK.trans AH,dN⟩
    rw[cv k5]at dN;obtain⟨yo,yn,i0,⟨go,go'⟩,gn,tK⟩:=hS;have hS:BS id TI h':=⟨yo,yn,i0,⟨go,go'⟩,gn,tK⟩;have BQ:=λb=>fk b TI yn h' p.var gn hs
    have q3:=akO (λv=>gn.np v)
    clear go gn go' tK;by_cases kk:db TI.now p.var=0
    .rw[cw kk]at dN;rw[kk]at BQ;obtain⟨h2,af,IJ,AH⟩:=fi true TI p.var 3 h' hS (by have:=hs.2;clear hf;omega);simp[cp,g0,g3,g4,g6,tH,vA,sU,hi,gp,he,hf,hh,tY,k5,i0,q3,BQ,af];exact⟨AH _ _ hh gE,_,IJ,hs.intro _ _,(Bs.dU _ _ _).trans AF,hK.trans AH,dN⟩
    .rw[cv kk]at dN;obtain⟨h2,af,IJ,AH⟩:=ff true TI 7 h' hS;generalize db TI.now p.var=k at BQ kk;simp[cp,g0,g3,g4,g6,tH,vA,sU,hi,gp,he,hf,hh,tY,k5,i0,q3,BQ,kk,af];exact⟨AH _ _ hh gE,_,IJ,hs,AF,hK.trans AH,dN⟩
  .rw[Yc,Xr]at dN;subst dN;simp[cp,vA,sU];exact⟨g0,g3,hh,hS,hs,AF,hK⟩
 .rintro o cG h' rfl ⟨rfl,cp,g0,g3,hh,hS,hs,AF,hK⟩;simp;exact hX _ _ hS hs AF hK cp g0 g3 hh
end
end Go.Proofs.YtmocfjnklfpnbaaGreatDoor
