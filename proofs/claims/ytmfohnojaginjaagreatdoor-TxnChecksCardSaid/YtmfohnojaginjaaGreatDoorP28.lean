/- Part of the proof. -/
import Derived.Test.YtmfohnojaginjaaGreatDoorP27
set_option linter.all false
set_option maxHeartbeats 16000000
set_option maxRecDepth 100000
namespace Go.Proofs.YtmfohnojaginjaaGreatDoor
open Go Go.Ae Go.Proofs.Tryz
section
attribute [local simp] cn eD
def v3(P:List (Nat × Int × Int)):List LA:=P.map λp=> [.sc (.int .i64 (p.1:Nat)),.sc (.int .i64 p.2.1),.sc (.int .i64 p.2.2)]
def n0(P:List (Nat × Int × Int)):(v3 P).length=P.length:=by simp[v3]
def F7(P:List (Nat × Int × Int)):∀r∈v3 P,r.length=3:=λr hr=>by obtain⟨c,_,rfl⟩:=Yk.1 hr;rfl
def IV(P:List (Nat × Int × Int)):(v3 P).flatten.all eu=true:=by
 rw[Yt];intro x hx;obtain⟨r,hr,hx⟩:=List.mem_flatten.1 hx;obtain⟨c,_,rfl⟩:=Yk.1 hr;simp only[Yw,Qf,or_false]at hx;rcases hx with rfl|rfl|rfl<;>rfl
def Ns(P:List (Nat × Int × Int))(i:Nat)(a b:Int):v3 P++[[.sc (.int .i64 (i:Nat)),.sc (.int .i64 a),.sc (.int .i64 b)]]=v3 (P++[(i,a,b)]):=by simp[v3]
def adG{h:Hp}{P:List (Nat × Int × Int)}{y:AV}(hB:gz h 3 (v3 P) y)(hl:P.length<=10^9)(i:Nat)(a b:Int):∃j h',ew cx (h++[.row [i,a,b]]) 132 y (.sl h.length 3 0 1 false)=some (.sl j 3 0 (P.length+1) false,h')/\gz h' 3 (v3 (P++[(i,a,b)])) (.sl j 3 0 (P.length+1) false)/\
 (∀j b,h[j]?=some b->(∀k n,y= .sl k 3 0 n false->j≠k)->h'[j]?=some b)/\h.length<=j:=by
 obtain⟨j,h',b1,b2,b3,b4⟩:=kj (t:=132) abU rfl h [i,a,.sc (.int .i64 b)] (v3 P) y hB rfl (F7 _) (by omega) (by rw[n0];omega) (by omega);rw[n0]at b1;rw[Ns]at b2;exact⟨j,h',b1,.inr ⟨by simp[v3],j,by rw[n0,Zu];rfl,b2⟩,b3,b4⟩
def aae{h:Hp}{P:List (Nat × Int × Int)}{y:AV}(hB:gz h 3 (v3 P) y)(hl:P.length<=10^9)(i:Nat)(a b:Int):∃j h',ew cx h 132 y (.ls 3 [[.sc (.int .i64 (i:Nat)),.sc (.int .i64 a),.sc (.int .i64 b)]] true)=some (.sl j 3 0 (P.length+1) false,h')/\gz h' 3 (v3 (P++[(i,a,b)])) (.sl j 3 0 (P.length+1) false)/\
 (∀j b,h[j]?=some b->(∀k n,y= .sl k 3 0 n false->j≠k)->h'[j]?=some b)/\h.length<=j:=by
 obtain⟨j,h',b1,b2,b3,b4⟩:=xF (t:=132) abU rfl h [i,a,.sc (.int .i64 b)] true (v3 P) y hB rfl (F7 _) (by omega) (by rw[n0];omega) (by omega);rw[n0]at b1;rw[Ns]at b2;exact⟨j,h',b1,.inr ⟨by simp[v3],j,by rw[n0,Zu];rfl,b2⟩,b3,b4⟩
def kF(g:Gr):List Rl->Nat->List (Nat × Int × Int)
 | [],_=> []
 |r::s,i=>(ub r g).map (λp=>(i,p.1,p.2))++kF g s (i+1)
def Ca{D:Nat}{g:Gr}(hv:VG D g):∀(s:List Rl)(i:Nat),(kF g s i).length<=s.length*4000000
 | [],_=>by simp[kF]
 |
  r::s,i=>by
  have h1:=B_ (r:=r) hv;have h2:=Ca hv s (i+1);rw[kF,Zu,Ym,Xe];omega
def wD(g:Gr):List Rl->Int
 | []=>0
 |r::s=>if ub r g=[]then wD g s else Iz r.kd
def Cb{g:Gr}:∀{s:List Rl}{i:Nat},kF g s i=[]->wD g s=0
 | [],_,_=>rfl
 |
  r::s,i,h=>by
  rw[kF,List.append_eq_nil_iff]at h;rw[wD,cq (by simpa using h.1)];exact Cb h.2
def yM{g:Gr}:∀{s:List Rl}{i:Nat}{p:Nat × Int × Int}{l:List (Nat × Int × Int)},kF g s i=p::l->∃j r,p.1=i+j/\s[j]?=some r/\wD g s=Iz r.kd
 | [],_,_,_,h=>by cases h
 |
  r::s,i,p,l,h=>by
  rw[kF]at h;by_cases hv:ub r g=[]
  .rw[hv,Xw,Zw]at h;obtain⟨j,q,h1,h2,h3⟩:=yM h;exact⟨j+1,q,by omega,by simpa using h2,by rw[wD,cq hv];exact h3⟩
  .obtain⟨a,tl,ha⟩:=List.exists_cons_of_ne_nil hv;rw[ha,Yz,Zv]at h;injection h with h1 h2
   exact⟨0,r,by rw[<-h1];rfl,rfl,by rw[wD,cm hv]⟩
def Nt(s:List Rl)(z:Bool)(g:Gr):[AV.ls 6 (sR s) z,.ag (cl g)].all dk=true:=rfl
def Ej{s:List Rl}(h:fL s=true):s.length<=40/\∀r∈s,mW r=0:=by
 unfold fL at h;rw[Zh,Zy]at h;refine⟨h.1,λr hr=>?_⟩;obtain⟨i,hi,rfl⟩:=List.getElem_of_mem hr;have h2:=h.2;unfold z7 at h2;have h3:=Yt.1 h2 i (by simp[List.mem_range'_1];omega);unfold wC at h3;rw[Zb hi]at h3;simp only[Zh,Zy]at h3;exact h3.1
def adH(N D:Nat)(b:Bool)(s:List Rl)(z:Bool)(g:Gr)(h:Hp)(hg:qw D g)(tm:VbG D g)(wm:s.length<=1000000000000):
 ch cx (N+2*D+12) b 57 [.ls 6 (sR s) z,.ag (cl g)] h=some (dt 3 (v3 (if fL s=true/\dQ g=0 then kF g s 0 else[])),h):=by
 have main:∃y h',dL [.tmp 4] (cO cx (ch cx (N+2*D+11)) ((f57.body).getD .skip) ([.ls 6 (sR s) z,.ag (cl g)]++List.replicate 43 .un,[]))=some (y,h')/\gz h' 3 (v3 (if fL s=true/\dQ g=0 then kF g s 0 else[])) y:=by
  have aa:=λbb h=>IE (N+2*D+7) bb s z h wm
  have af:=λbb h=>Am (N+3) D bb g h hg
  rw[show N+2*D+7+4=N+2*D+11 from rfl]at aa;rw[show N+3+2*D+8=N+2*D+11 by omega]at af;have hq:=kX s;have jc:=uR s;have Qk:= @Ej s;have np:∀P:List (Int × Int),∀v,dt 2 (p2 P)≠ .pn v:=λP v=>by unfold dt;split<;>simp
  have dZ:∀P:List (Int × Int),cls (dt 2 (p2 P))=some [dt 2 (p2 P)]:=λP=>by unfold dt;split<;>rfl
  by_cases yf:fL s=true
  rotate_left
  .rw[cm (λq=>yf q.1)];have adI:fL s=false:=by simpa using yf
   rw[adI]at aa;clear Qk;generalize N+2*D+11=M at aa af|-;generalize dQ g=ge at af;generalize sR s=cg at *;unfold cl dy dz at *;simp[f57,aa];exact⟨_,_,⟨rfl,rfl⟩,.inl ⟨rfl,rfl⟩⟩
  by_cases h0:dQ g=0
  rotate_left
  .rw[cm (λq=>h0 q.2)];rw[yf]at aa;clear Qk;generalize N+2*D+11=M at aa af|-;generalize dQ g=ge at af h0;generalize sR s=cg at *;unfold cl dy dz at *;simp[f57,aa,af,h0];exact gq (.inl ⟨rfl,rfl⟩)
  rw[cq ⟨yf,h0⟩];rw[yf]at aa;rw[h0]at af;have hv:VG D g:=U2 h0;obtain⟨Ql,Qk⟩:=Qk yf;have ah:=λ(r:Rl)bb h hr=>afZ N D bb r g h hr hv tm
  have hUl:=Ca hv s 0;have P6:(kF g s 0).length<=10^9:=Yp hUl (Yp (Zx 4000000 Ql) (by decide));clear hUl;generalize hU:kF g s 0=U at P6|-;generalize N+2*D+11=M at aa af ah|-;clear hg tm h0 yf wm;have oT:=λr=>B_ (r:=r) hv
  clear hv;generalize sR s=cg at *;unfold cl dy dz at *;simp[f57,aa,af,hq];generalize gU:M (.loop _) _=XX;refine pU gU
   (λi st dn=>st.length=45/\gt st 3= .pt 0 0/\gt st 18= .ls 6 cg z/\gt st 19=s.length/\gt st 20=i/\At dn 0 (.row [.ls 3 (f_ g.nodes) false,.ls 5 (fV g.cj) false,g.nn,g.ne])/\∃y P,gt st 5=y/\gz dn 3 (v3 P) y/\P++kF g (s.drop i) i=U/\∀k m,y= .sl k 3 0 m false->k≠0)
   (λo st dn=>o= .exit 0/\st.length=45/\∃y,gt st 5=y/\gz dn 3 (v3 U) y) s.length (by simp;omega)
   ⟨by simp,by simp,by simp,by simp,by simp,rfl,.sc (.slice none 0 0),[],by simp,.inl ⟨rfl,rfl⟩,hU,λk m e=>by cases e⟩ ?_ ?_
  .clear gU XX hU aa af;rintro i fr hp da ⟨cf,g3,g18,g19,g20,db,y,P,g5,hB,hP,hn⟩;have l0:=db.lt;have a0:=db.fh;have oO:∀kz,hp[0]'kz= .row [.ls 3 (f_ g.nodes) false,.ls 5 (fV g.cj) false,g.nn,g.ne]:=λkz=>db.get kz
   rcases jr jc da with⟨c,hi,hx,hr,cz⟩|rfl
   .have ah:=λbb h=>ah c bb h (Qk c (Zi hx))
    have hf:=cG (i:=i) (Yp da (Yp Ql (by decide)));have uV:∀y',(hp++y')[0]?=some (.row [.ls 3 (f_ g.nodes) false,.ls 5 (fV g.cj) false,g.nn,g.ne]):=λy'=>(db.app y').fh
    have jH:∀y' kz,(hp++y')[0]'kz= .row [.ls 3 (f_ g.nodes) false,.ls 5 (fV g.cj) false,g.nn,g.ne]:=λy' kz=>(db.app y').get kz
    have an:∀y',(hp++[y'])[hp.length]?=some y':=λy=>by simp
    have jm:∀y' kz,(hp++[y'])[hp.length]'kz=y':=λy kz=>by simp
    rw[jd hx,kF]at hP;have hW:=oT c;generalize ub c g=W at ah hP hW;have q1:=λops d rest fr h=>tZ (np W) (ch cx M true) ops d rest fr h
    have q2:=λops d rest fr h=>npR (np W) (ch cx M false) ops d rest fr h
    have rE:=dZ W;have ni:(dd c).length=6:=rfl;have CW:(dd c).take 6=dd c:=rfl;have hB0:=hB.grow [.row (dd c)];have U3:=db.app [.row (dd c)];cases hWe:W with
    |
     nil=>
     subst hWe;rw[Xw,Zw]at hP;simp only[p2,Xw,dt,Qc,if_true]at ah;generalize dd c=rc at *;simp[cf,g3,g18,g19,g20,hi,hq,cz,jH,jm,ah,ni,CW];generalize o9:M (.loop _) _=YY;refine pU o9
      (λj st dn=>st.length=45/\gt st 3= .pt 0 0/\gt st 6=i/\gt st 18= .ls 6 cg z/\gt st 19=s.length/\gt st 20=i/\gt st 28=(0:Int)/\gt st 29=(0:Int)/\gt st 5=y/\dn=hp++[.row rc])
      (λo st dn=>o= .exit 2/\st.length=45/\gt st 3= .pt 0 0/\gt st 6=i/\gt st 18= .ls 6 cg z/\gt st 19=s.length/\gt st 20=i/\gt st 5=y/\dn=hp++[.row rc]) 0 (by simp) ⟨by simp[cf],by simp[g3],by simp[cf],by simp[g18],by simp[g19],by simp[g20],by simp[cf],by simp[cf],by simp[g5],rfl⟩ ?_ ?_
     .clear o9 YY cf g3 g18 g19 g20 g5;rintro j fr MX _ ⟨cf,g3,g6,g18,g19,g20,g28,g29,g5,hh⟩;simp[cf,g3,g6,g18,g19,g20,g28,g29,g5,hh]
     .clear cf g5;rintro o kH h1 rfl ⟨rfl,cf,g3,g6,g18,g19,g20,g5,hh⟩;subst hh;simp[cf,g3,g18,g19,g20,g5,hi,hf];exact⟨U3,P,hB0,hP,hn⟩
    |cons w0 W0=>
     have hWn:(p2 W).isEmpty=false:=by rw[hWe];rfl
     simp only[dt,hWn,Ys,if_false]at ah;have hWq:=qU W;have hWg:=UU W;clear hWe hWn q1 q2 rE;generalize p2 W=wr at ah hWq hWg;generalize dd c=rc at *;simp[cf,g3,g18,g19,g20,hi,hq,cz,jH,jm,ah,ni,CW,hWq];generalize o9:M (.loop _) _=YY;refine pU o9
      (λj st dn=>st.length=45/\gt st 3= .pt 0 0/\gt st 6=i/\gt st 18= .ls 6 cg z/\gt st 19=s.length/\gt st 20=i/\gt st 27= .ls 2 wr false/\gt st 28=W.length/\gt st 29=j/\At dn 0 (.row [.ls 3 (f_ g.nodes) false,.ls 5 (fV g.cj) false,g.nn,g.ne])/\∃y P,gt st 5=y/\gz dn 3 (v3 P) y/\P++((W.drop j).map (λp=>(i,p.1,p.2))++kF g (s.drop (i+1)) (i+1))=U/\∀k m,y= .sl k 3 0 m false->k≠0)
      (λo st dn=>o= .exit 2/\st.length=45/\gt st 3= .pt 0 0/\gt st 6=i/\gt st 18= .ls 6 cg z/\gt st 19=s.length/\gt st 20=i/\At dn 0 (.row [.ls 3 (f_ g.nodes) false,.ls 5 (fV g.cj) false,g.nn,g.ne])/\∃y P,gt st 5=y/\gz dn 3 (v3 P) y/\P++kF g (s.drop (i+1)) (i+1)=U/\∀k m,y= .sl k 3 0 m false->k≠0) W.length (by clear hf;simp;omega)
      ⟨by simp[cf],by simp[g3],by simp[cf],by simp[g18],by simp[g19],by simp[g20],by simp[cf],by simp[cf],by simp[cf],U3,y,P,by simp[g5],hB0,hP,hn⟩ ?_ ?_
     .clear o9 YY cf g3 g18 g19 g20 g5 db hB hP hn P y a0 l0 oO uV jH an jm hB0 U3 hf;rintro j fr hp jw ⟨cf,g3,g6,g18,g19,g20,g27,g28,g29,db,y,P,g5,hB,hP,hn⟩;have PZ:=cG (i:=j) (Yp jw (Yp hW (by decide)));rcases jr hWg jw with⟨e,hj,Z_,hre,yK⟩|rfl
      .have q1:=λops d rest fr h=>tZ (λv=>hB.np v) (ch cx M true) ops d rest fr h
       have q2:=λops d rest fr h=>npR (λv=>hB.np v) (ch cx M false) ops d rest fr h
       have nQ:=hB.cls;have an:∀y',(hp++[y'])[hp.length]?=some y':=λy=>by simp
       have jm:∀y' kz,(hp++[y'])[hp.length]'kz=y':=λy kz=>by simp
       rw[jd Z_,Yz,Zv]at hP;have hPb:P.length<=10^9:=by have:=congrArg List.length hP;rw[Zu]at this;exact Yp (Yp (Nat.le_add_right _ _) (Nat.le_of_eq this)) P6
       obtain⟨j',ry,b1,b2,b3,b4⟩:=adG (hB.grow [.row [e.1,e.2]]) hPb i e.1 e.2;have c0:=b3 0 _ (db.app _).fh λk n e=>(hn k n e).symm
       have dm:=db.lt
       try simp only[Zp,Zv,Zw,Zu,Xe,Xq,Xs]at b1 b4
       have hP':(P++[(i,e.1,e.2)])++((W.drop (j+1)).map (λp=>(i,p.1,p.2))++kF g (s.drop (i+1)) (i+1))=U:=by rw[<-hP,Zp];rfl
       have T6:¬j'=0:=by clear PZ;omega
       simp[cf,g3,g6,g18,g19,g20,g27,g28,g29,g5,hj,hWq,yK,PZ,q1,b1,jm];exact⟨c0,P++[(i,e.1,e.2)],b2,by simpa using hP',T6⟩
      .simp[cf,g3,g6,g18,g19,g20,g28,g29,g5];rw[Yc,Xw,Zw]at hP;exact⟨db,P,hB,hP,hn⟩
     .clear cf g5;rintro o kH h1 rfl ⟨rfl,cf,g3,g6,g18,g19,g20,db,y,P,g5,hB,hP,hn⟩;simp[cf,g3,g18,g19,g20,g5,hi,hf];exact⟨db,P,hB,hP,hn⟩
   .simp[cf,g19,g20,g5];rw[Yc,kF,Yr]at hP;rw[<-hP];exact hB
  .rintro o gO hp rfl ⟨rfl,cf,y,g5,hB⟩;have q1:=λops d rest fr h=>tZ (λv=>hB.np v) (ch cx M true) ops d rest fr h
   have nQ:=hB.cls;simp[cf,g5,q1];exact gq hB
 obtain⟨y,h',e,hB⟩:=main;exact gD (r:=y) (h':=h') (n:=N+2*D+11) ⟨f57.ntmps,(f57.body).getD .skip,[.tmp 4]⟩ (by kernel_rfl) (by kernel_rfl) rfl (by kernel_rfl) (by simp[f57]) (Nt _ _ _) e (fJ (n:=7) (by omega) (F7 _) (IV _) hB) b h
def aaf(N D:Nat)(b:Bool)(s:List Rl)(z:Bool)(g:Gr)(h:Hp)(hg:qw D g)(tm:VbG D g)(wm:s.length<=1000000000000):
 ch cx (N+2*D+11) b 62 [.ls 6 (sR s) z,.ag (cl g)] h=some (dt 3 (v3 (if fL s=true/\dQ g=0 then kF g s 0 else[])),h):=by
 have main:∃y h',dL [.tmp 4] (cO cx (ch cx (N+2*D+10)) ((f62.body).getD .skip) ([.ls 6 (sR s) z,.ag (cl g)]++List.replicate 44 .un,[]))=some (y,h')/\gz h' 3 (v3 (if fL s=true/\dQ g=0 then kF g s 0 else[])) y:=by
  have aa:=λbb h=>D6 (N+2*D+6) bb s z h
  rw[show N+2*D+6+4=N+2*D+10 from rfl]at aa;have hq:=kX s;have jc:=uR s;have Qk:= @Ej s;have np:∀P:List (Int × Int),∀v,dt 2 (p2 P)≠ .pn v:=λP v=>by unfold dt;split<;>simp
  have dZ:∀P:List (Int × Int),cls (dt 2 (p2 P))=some [dt 2 (p2 P)]:=λP=>by unfold dt;split<;>rfl
  by_cases yf:fL s=true
  rotate_left
  .rw[cm (λq=>yf q.1)];have adI:fL s=false:=by simpa using yf
   rw[adI]at aa;clear Qk;generalize N+2*D+10=M at aa|-;generalize sR s=cg at *;unfold cl dy dz at *;simp[f62,aa];exact⟨_,_,⟨rfl,rfl⟩,.inl ⟨rfl,rfl⟩⟩
  obtain⟨Ql,Qk⟩:=Qk yf;rw[yf]at aa;by_cases h0:dQ g=0
  rotate_left
  .rw[cm (λq=>h0 q.2)];have ah:=λ(r:Rl)bb h=>aad N D bb r g h hg h0
   generalize N+2*D+10=M at aa ah|-;clear h0 Qk np dZ;generalize sR s=cg at *;unfold cl dy dz at *;simp[f62,aa];generalize gU:M (.loop _) _=XX;refine pU gU
    (λi st dn=>st.length=46/\gt st 0= .ls 6 cg z/\gt st 3= .pt 0 0/\gt st 5=()/\gt st 6=i/\At dn 0 (.row [.ls 3 (f_ g.nodes) false,.ls 5 (fV g.cj) false,g.nn,g.ne]))
    (λo st _=>o= .exit 0/\st.length=46/\gt st 5=()) s.length (by simp;omega) ⟨by simp,by simp,by simp,by simp,by simp,rfl⟩ ?_ ?_
   .clear gU XX;rintro i fr hp da ⟨cf,g0,g3,g5,g6,db⟩;have a0:=db.fh;rcases jr jc da with⟨c,hi,hx,hr,cz⟩|rfl
    .have ah:=λbb h=>ah c bb h
     have hf:=cG (i:=i) (Yp da (Yp Ql (by decide)));have ni:(dd c).length=6:=rfl;have CW:(dd c).take 6=dd c:=rfl;generalize dd c=rc at *;simp[cf,g0,g3,g6,hi,hq,cz,a0,ah,ni,CW];generalize o9:M (.loop _) _=YY;refine pU o9
      (λj st dn=>st.length=46/\gt st 0= .ls 6 cg z/\gt st 3= .pt 0 0/\gt st 5=()/\gt st 6=i/\gt st 7=()/\gt st 8=(0:Int)/\dn=hp)
      (λo st dn=>o= .exit 2/\st.length=46/\gt st 0= .ls 6 cg z/\gt st 3= .pt 0 0/\gt st 5=()/\gt st 6=i/\dn=hp) 0 (by simp) ⟨by simp[cf],by simp[g0],by simp[g3],by simp[g5],by simp[g6],by simp[cf],by simp[cf],rfl⟩ ?_ ?_
     .clear o9 YY cf g0 g3 g5 g6;rintro j fr MX _ ⟨cf,g0,g3,g5,g6,g7,g8,hh⟩;simp[cf,g0,g3,g5,g6,g7,g8,hh]
     .clear cf g0 g3 g5 g6;rintro o kH h1 rfl ⟨rfl,cf,g0,g3,g5,g6,hh⟩;subst hh;simp[cf,g0,g3,g5,g6,hi,hf];exact db
    .simp[cf,g0,g5,g6,hq]
   .rintro o gO hp rfl ⟨rfl,cf,g5⟩;simp[cf,g5];exact gq (.inl ⟨rfl,rfl⟩)
  rw[cq ⟨yf,h0⟩];have hv:VG D g:=U2 h0;have ah:=λ(r:Rl)bb h hr=>adF N D bb r g h hr hg h0 tm
  have hUl:=Ca hv s 0;have P6:(kF g s 0).length<=10^9:=Yp hUl (Yp (Zx 4000000 Ql) (by decide));clear hUl;generalize hU:kF g s 0=U at P6|-;generalize N+2*D+10=M at aa ah|-;clear hg tm h0 yf wm;have oT:=λr=>B_ (r:=r) hv
  clear hv;generalize sR s=cg at *;unfold cl dy dz at *;simp[f62,aa];generalize gU:M (.loop _) _=XX;refine pU gU
   (λi st dn=>st.length=46/\gt st 0= .ls 6 cg z/\gt st 3= .pt 0 0/\gt st 6=i/\At dn 0 (.row [.ls 3 (f_ g.nodes) false,.ls 5 (fV g.cj) false,g.nn,g.ne])/\∃y P,gt st 5=y/\gz dn 3 (v3 P) y/\P++kF g (s.drop i) i=U/\∀k m,y= .sl k 3 0 m false->k≠0)
   (λo st dn=>o= .exit 0/\st.length=46/\∃y,gt st 5=y/\gz dn 3 (v3 U) y) s.length (by simp;omega)
   ⟨by simp,by simp,by simp,by simp,rfl,.sc (.slice none 0 0),[],by simp,.inl ⟨rfl,rfl⟩,hU,λk m e=>by cases e⟩ ?_ ?_
  .clear gU XX hU aa;rintro i fr hp da ⟨cf,g0,g3,g6,db,y,P,g5,hB,hP,hn⟩;have l0:=db.lt;have a0:=db.fh;have oO:∀kz,hp[0]'kz= .row [.ls 3 (f_ g.nodes) false,.ls 5 (fV g.cj) false,g.nn,g.ne]:=λkz=>db.get kz
   rcases jr jc da with⟨c,hi,hx,hr,cz⟩|rfl
   .have ah:=λbb h=>ah c bb h (Qk c (Zi hx))
    have hf:=cG (i:=i) (Yp da (Yp Ql (by decide)));have uV:∀y',(hp++y')[0]?=some (.row [.ls 3 (f_ g.nodes) false,.ls 5 (fV g.cj) false,g.nn,g.ne]):=λy'=>(db.app y').fh
    have jH:∀y' kz,(hp++y')[0]'kz= .row [.ls 3 (f_ g.nodes) false,.ls 5 (fV g.cj) false,g.nn,g.ne]:=λy' kz=>(db.app y').get kz
    have an:∀y',(hp++[y'])[hp.length]?=some y':=λy=>by simp
    have jm:∀y' kz,(hp++[y'])[hp.length]'kz=y':=λy kz=>by simp
    rw[jd hx,kF]at hP;have hW:=oT c;generalize ub c g=W at ah hP hW;have q1:=λops d rest fr h=>tZ (np W) (ch cx M true) ops d rest fr h
    have q2:=λops d rest fr h=>npR (np W) (ch cx M false) ops d rest fr h
    have rE:=dZ W;have ni:(dd c).length=6:=rfl;have CW:(dd c).take 6=dd c:=rfl;have hB0:=hB.grow [.row (dd c)];have U3:=db.app [.row (dd c)];cases hWe:W with
    |
     nil=>
     subst hWe;rw[Xw,Zw]at hP;simp only[p2,Xw,dt,Qc,if_true]at ah;generalize dd c=rc at *;simp[cf,g0,g3,g6,hi,hq,cz,oO,l0,ah,ni,CW];generalize o9:M (.loop _) _=YY;refine pU o9
      (λj st dn=>st.length=46/\gt st 0= .ls 6 cg z/\gt st 3= .pt 0 0/\gt st 6=i/\gt st 7=()/\gt st 8=(0:Int)/\gt st 5=y/\dn=hp)
      (λo st dn=>o= .exit 2/\st.length=46/\gt st 0= .ls 6 cg z/\gt st 3= .pt 0 0/\gt st 6=i/\gt st 5=y/\dn=hp) 0 (by simp) ⟨by simp[cf],by simp[g0],by simp[g3],by simp[g6],by simp[cf],by simp[cf],by simp[g5],rfl⟩ ?_ ?_
     .clear o9 YY cf g0 g3 g6 g5;rintro j fr MX _ ⟨cf,g0,g3,g6,g7,g8,g5,hh⟩;simp[cf,g0,g3,g6,g7,g8,g5,hh]
     .clear cf g5;rintro o kH h1 rfl ⟨rfl,cf,g0,g3,g6,g5,hh⟩;subst hh;simp[cf,g0,g3,g6,g5,hi,hf];exact⟨db,P,hB,hP,hn⟩
    |cons w0 W0=>
     have hWn:(p2 W).isEmpty=false:=by rw[hWe];rfl
     simp only[dt,hWn,Ys,if_false]at ah;have hWq:=qU W;have hWg:=UU W;clear hWe hWn q1 q2 rE;generalize p2 W=wr at ah hWq hWg;generalize dd c=rc at *;simp[cf,g0,g3,g6,hi,hq,cz,oO,l0,ah,ni,CW];generalize o9:M (.loop _) _=YY;refine pU o9
      (λj st dn=>st.length=46/\gt st 0= .ls 6 cg z/\gt st 3= .pt 0 0/\gt st 6=i/\gt st 7= .ls 2 wr false/\gt st 8=j/\At dn 0 (.row [.ls 3 (f_ g.nodes) false,.ls 5 (fV g.cj) false,g.nn,g.ne])/\∃y P,gt st 5=y/\gz dn 3 (v3 P) y/\P++((W.drop j).map (λp=>(i,p.1,p.2))++kF g (s.drop (i+1)) (i+1))=U/\∀k m,y= .sl k 3 0 m false->k≠0)
      (λo st dn=>o= .exit 2/\st.length=46/\gt st 0= .ls 6 cg z/\gt st 3= .pt 0 0/\gt st 6=i/\At dn 0 (.row [.ls 3 (f_ g.nodes) false,.ls 5 (fV g.cj) false,g.nn,g.ne])/\∃y P,gt st 5=y/\gz dn 3 (v3 P) y/\P++kF g (s.drop (i+1)) (i+1)=U/\∀k m,y= .sl k 3 0 m false->k≠0) W.length (by clear hf;simp;omega)
      ⟨by simp[cf],by simp[g0],by simp[g3],by simp[g6],by simp[cf],by simp[cf],db,y,P,by simp[g5],hB,hP,hn⟩ ?_ ?_
     .clear o9 YY cf g0 g3 g6 g5 db hB hP hn P y a0 l0 oO uV jH an jm hB0 U3 hf;rintro j fr hp jw ⟨cf,g0,g3,g6,g7,g8,db,y,P,g5,hB,hP,hn⟩;have PZ:=cG (i:=j) (Yp jw (Yp hW (by decide)));rcases jr hWg jw with⟨e,hj,Z_,hre,yK⟩|rfl
      .have q1:=λops d rest fr h=>tZ (λv=>hB.np v) (ch cx M true) ops d rest fr h
       have q2:=λops d rest fr h=>npR (λv=>hB.np v) (ch cx M false) ops d rest fr h
       have nQ:=hB.cls;have an:∀y',(hp++[y'])[hp.length]?=some y':=λy=>by simp
       have jm:∀y' kz,(hp++[y'])[hp.length]'kz=y':=λy kz=>by simp
       rw[jd Z_,Yz,Zv]at hP;have hPb:P.length<=10^9:=by have:=congrArg List.length hP;rw[Zu]at this;exact Yp (Yp (Nat.le_add_right _ _) (Nat.le_of_eq this)) P6
       obtain⟨j',ry,b1,b2,b3,b4⟩:=aae (hB) hPb i e.1 e.2;have c0:=b3 0 _ (db).fh λk n e=>(hn k n e).symm
       have dm:=db.lt
       try simp only[Zp,Zv,Zw,Zu,Xe,Xq,Xs]at b1 b4
       have hP':(P++[(i,e.1,e.2)])++((W.drop (j+1)).map (λp=>(i,p.1,p.2))++kF g (s.drop (i+1)) (i+1))=U:=by rw[<-hP,Zp];rfl
       have T6:¬j'=0:=by clear PZ;omega
       simp[cf,g0,g3,g6,g7,g8,g5,hj,hWq,yK,PZ,q2,b1,oh,chunk,dk];exact⟨c0,P++[(i,e.1,e.2)],b2,by simpa using hP',T6⟩
      .simp[cf,g0,g3,g6,g7,g8,g5,hWq];rw[Yc,Xw,Zw]at hP;exact⟨db,P,hB,hP,hn⟩
     .clear cf g5;rintro o kH h1 rfl ⟨rfl,cf,g0,g3,g6,db,y,P,g5,hB,hP,hn⟩;simp[cf,g0,g3,g6,g5,hi,hf];exact⟨db,P,hB,hP,hn⟩
   .simp[cf,g0,g6,g5,hq];rw[Yc,kF,Yr]at hP;rw[<-hP];exact hB
  .rintro o gO hp rfl ⟨rfl,cf,y,g5,hB⟩;have q1:=λops d rest fr h=>tZ (λv=>hB.np v) (ch cx M true) ops d rest fr h
   have nQ:=hB.cls;simp[cf,g5,q1];exact gq hB
 obtain⟨y,h',e,hB⟩:=main;exact gD (r:=y) (h':=h') (n:=N+2*D+10) ⟨f62.ntmps,(f62.body).getD .skip,[.tmp 4]⟩ (by kernel_rfl) (by kernel_rfl) rfl (by kernel_rfl) (by simp[f62]) (Nt _ _ _) e (fJ (n:=7) (by omega) (F7 _) (IV _) hB) b h
structure XC (g:Gr):Prop where
 nl:g.nodes.length<=10^6
 el:g.cj.length<=10^6
 ns:∀n∈g.nodes,n.labels.length<=10^6/\n.props.length<=10^6/\PlP n.props
 es:∀e∈g.cj,e.props.length<=10^6/\PlP e.props
def cpL(l:List ByteArray):AV:=if l=[]then .ls 1 [] true else .ls 1 (fj l) false
def Cc(n:Nd):LA:=[.sc (.int .i64 n.id),cpL n.labels,.ls 6 (d_ n.props) false]
def nR(l:List Nd):List LA:=l.map Cc
def uc(l:List Nd):(nR l).length=l.length:=by simp[nR]
def IW(l:List Nd):∀r∈nR l,r.length=3:=λr hr=>by obtain⟨c,_,rfl⟩:=Yk.1 hr;rfl
def Nu(l:List Ed):∀r∈fV l,r.length=5:=λr hr=>by obtain⟨c,_,rfl⟩:=Yk.1 hr;rfl
def Lz(l:List Nd):(nR l).flatten.all eu=true:=by
 rw[Yt];intro x hx;obtain⟨r,hr,hx⟩:=List.mem_flatten.1 hx;obtain⟨c,_,rfl⟩:=Yk.1 hr;simp only[Cc,Yw,Qf,or_false]at hx;rcases hx with rfl|rfl|rfl
 .rfl
 .unfold cpL;split<;>rfl
 .rfl
def Qm(l:List Ed):(fV l).flatten.all eu=true:=by
 rw[Yt];intro x hx;obtain⟨r,hr,hx⟩:=List.mem_flatten.1 hx;obtain⟨c,_,rfl⟩:=Yk.1 hr;simp only[dP,Yw,Qf,or_false]at hx;rcases hx with rfl|rfl|rfl|rfl|rfl<;>rfl
def adJ(n:Nd):J5 (Cc n)=dh n:=by
 unfold Cc dh cpL J5 iD eU;by_cases h:n.labels=[]
 .rw[cq h,h];rfl
 .rw[cm h];rfl
def adK(g:Gr):GI (.ag [dt 3 (nR g.nodes),dt 5 (fV g.cj),g.nn,g.ne])= .ag (cl g):=by
 have h1:BA 3 J5 (dt 3 (nR g.nodes))=dy g.nodes:=by
  unfold dt;split
  .rename_i e;have:g.nodes=[]:=by simpa[nR]using e
   rw[this];rfl
  .show AV.ls 3 ((nR g.nodes).map J5) false=dy g.nodes;unfold dy f_ nR;rw[List.map_map]
   congr 1
   exact List.map_congr_left λn _=>adJ n
 have h2:BA 5 MR (dt 5 (fV g.cj))=dz g.cj:=by
  unfold dt;split
  .rename_i e;have:g.cj=[]:=by simpa[fV]using e
   rw[this];rfl
  .show AV.ls 5 ((fV g.cj).map MR) false=dz g.cj;rw[pC];rfl
 show AV.ag [BA 3 J5 (dt 3 (nR g.nodes)),BA 5 MR (dt 5 (fV g.cj)),_,_]=_;rw[h1,h2];rfl
def aag(l:List ByteArray):∀r∈fj l,r.length=1:=λr hr=>by obtain⟨c,_,rfl⟩:=Yk.1 hr;rfl
@[simp] def ahd(v:Value):dk (.sc v)=true:=rfl
@[simp] def ag4(sz:Nat)(r:List LA)(z:Bool):dk (.ls sz r z)=true:=rfl
def Cd(sz:Nat)(cs:LA):chunk sz 0 cs=[]:=rfl
def Ek(sz:Nat)(cs:LA):chunk sz 1 cs=[cs.take sz]:=by simp[chunk]
def Qn{sz:Nat}(fX:0<sz)(cg:List LA)(h:∀r∈cg,r.length=sz):chunk sz cg.length cg.flatten=cg:=rM fX cg h
def U4(l:List ByteArray):(fj l).flatten.all dk=true:=by
 rw[Yt];intro y hy;obtain⟨x,hx,hy⟩:=List.mem_flatten.1 hy;obtain⟨c,_,rfl⟩:=Yk.1 hx;simp only[Yw,Qf,or_false]at hy;subst hy;rfl
def U5(n:Nat)(b:Bool)(g:Gr)(h:Hp)(hg:XC g):
 ch cx (n+4) b 141 [.ag (cl g)] h=some (.ag (cl g),h):=by
 refine nA f141 [.cell 2 4 true] rfl ?_ b h;have main:∃r h',dL [.cell 2 4 true] (cO cx (ch cx (n+3)) ((f141.body).getD .skip) ([.ag (cl g)]++List.replicate 62 .un,[]))=some (r,h')/\Ae.cD h' 8 r=some (.ag [dt 3 (nR g.nodes),dt 5 (fV g.cj),g.nn,g.ne]):=by
  have fp:=λ(l:List fZ)z bb h hl hp=>PW n bb l z h hl hp
  generalize n+3=M at fp|-;have hq:=dC g.nodes;have jc:=iJ g.nodes;have mO:=dD g.cj;have pz:=jy g.cj;obtain⟨nh,ni,j6,mL⟩:=hg;unfold cl dy dz;generalize hnr:f_ g.nodes=cg at hq jc|-;generalize her:fV g.cj=cY at mO pz|-;simp[f141];generalize gU:M (.loop _) _=XX;refine pU gU
   (λi s dn=>s.length=63/\gt s 1= .pt 0 0/\gt s 2= .pt 1 0/\gt s 3= .pt 2 0/\gt s 4=i/\At dn 0 (.row [.ls 3 cg false,.ls 5 cY false,g.nn,g.ne])/\At dn 1 (.row qT)/\∃y,At dn 2 (.row [y,(),g.nn,g.ne])/\gz dn 3 (nR (g.nodes.take i)) y/\∀k m,y= .sl k 3 0 m false->2<k)
   (λo s dn=>o= .exit 0/\s.length=63/\gt s 1= .pt 0 0/\gt s 2= .pt 1 0/\gt s 3= .pt 2 0/\At dn 0 (.row [.ls 3 cg false,.ls 5 cY false,g.nn,g.ne])/\At dn 1 (.row qT)/\∃y,At dn 2 (.row [y,(),g.nn,g.ne])/\gz dn 3 (nR g.nodes) y/\∀k m,y= .sl k 3 0 m false->2<k) g.nodes.length (by simp;omega)
   ⟨by simp,by simp,by simp,by simp,by simp,rfl,rfl,.sc (.slice none 0 0),rfl,.inl ⟨rfl,rfl⟩,λk m e=>by cases e⟩ ?_ ?_
  .clear gU XX;rintro i fr hp da ⟨cf,g1,g2,g3,g4,db,eo,y,pI,hB,hn⟩;have l2:=pI.lt;have l0:=db.lt;have a0:=db.fh;have oO:∀kz,hp[0]'kz= .row [.ls 3 cg false,.ls 5 cY false,g.nn,g.ne]:=λkz=>db.get kz
   rcases jr jc da with⟨c,hi,hx,hr,cz⟩|rfl
   .obtain⟨c1,c2,c3⟩:=j6 c (Zi hx);have fp:=λz bb h=>fp c.props z bb h c2 c3
    have hf:=cG (i:=i) (Yp da (Yp nh (by decide)));have Nl:∀y',(hp++y')[2]?=some (.row [y,(),g.nn,g.ne]):=λy'=>(pI.app y').fh
    have aq2:∀y' kz,(hp++y')[2]'kz= .row [y,(),g.nn,g.ne]:=λy' kz=>(pI.app y').get kz
    have an:∀y',(hp++[y'])[hp.length]?=some y':=λy=>by simp
    have jm:∀y' kz,(hp++[y'])[hp.length]'kz=y':=λy kz=>by simp
    obtain⟨j,h2,b1,b2,b3,b4⟩:=xF (t:=23) nJ rfl (hp++[.row (dh c)]) (Cc c) true (nR (g.nodes.take i)) y (hB.grow _) rfl (IW _) (by decide) (by rw[uc,Xf];exact Yp (Nat.min_le_left _ _) (Yp da (Yp nh (by decide)))) (by decide);have d0:=b3 0 _ (db.app _).fh λk n e=>by have:=hn k n e;exact λq=>by subst q;cases this
    have d1:=b3 1 _ (eo.app _).fh λk n e=>by have:=hn k n e;exact λq=>by subst q;exact absurd this (by decide)
    have d2:=b3 2 _ (pI.app _).fh λk n e=>by have:=hn k n e;exact λq=>by subst q;exact absurd this (by decide)
    have zd:(nR (g.nodes.take i)).length=i:=by rw[uc,Xf];exact Nat.min_eq_left da
    have sS:nR (g.nodes.take i)++[Cc c]=nR (g.nodes.take (i+1)):=by rw[jk hx];simp[nR]
    have q1:=λops d rest fr h=>npR (λv=>hB.np v) (ch cx M false) ops d rest fr h
    have nQ:=hB.cls;rw[zd]at b1;rw[sS]at b2;have A8:=Qn (sz:=1) (by decide) (fj c.labels) (aag _);have WY:=U4 c.labels;have vH:cpL c.labels=if fj c.labels=[]then .ls 1 [] true else .ls 1 (fj c.labels) false:=by unfold cpL;by_cases e:c.labels=[]<;>simp[e,fj]
    have XD:(fj c.labels).length<=maxLen/\(fj c.labels).length*16<=140737488355328:=by
     have:(fj c.labels).length<=10^6:=by simpa[fj]using c1
     unfold maxLen;constructor
     .exact Yp this (by decide)
     .exact Yp (Zx 16 this) (by decide)
    unfold dh iD eU at hr cz b1 b3 b4;unfold eU at fp;unfold Cc at b1;obtain⟨Hq,GG⟩:=XD;rw[vH]at b1;have mr:∀y',y'=AV.sl j 3 0 (i+1) false->At (h2.set 2 (.row [y',(),g.nn,g.ne])) 0 (.row [.ls 3 cg false,.ls 5 cY false,g.nn,g.ne])/\At (h2.set 2 (.row [y',(),g.nn,g.ne])) 1 (.row qT)/\At (h2.set 2 (.row [y',(),g.nn,g.ne])) 2 (.row [y',(),g.nn,g.ne])/\gz (h2.set 2 (.row [y',(),g.nn,g.ne])) 3 (nR (g.nodes.take (i+1))) y':=by
     rintro y' rfl;have AU:2≠j:=by
      have:=l2;simp only[Zu,Xe,Xq]at b4;clear hf;omega
     exact⟨At.set (show At h2 0 _ from d0) (by decide) _,At.set (show At h2 1 _ from d1) (by decide) _,At.new (show At h2 2 _ from d2) _,.inr ⟨by rw[<-sS];simp,j,by rw[uc,Xf,Nat.min_eq_left hi],ko b2 AU⟩⟩
    have xk:2<j:=by
     simp only[Zu,Xe,Xq]at b4;clear hf;omega
    obtain⟨k0,k1,k2,k3⟩:=mr _ rfl;clear mr vH sS;generalize fj c.labels=R at *;by_cases hR:R=[]
    .subst hR;rw[cq rfl]at b1;simp[cf,g1,g2,g3,g4,hi,hq,cz,a0,Nl,jm,hf,fp,q1,b1,d2, -List.all_eq_true, -List.all_flatten,oh,Cd,Ek];exact⟨k0,k1,_,k2,k3,λk m e=>by injection e with e;subst e;exact xk⟩
    .rw[cm hR]at b1;simp[cf,g1,g2,g3,g4,hi,hq,cz,a0,Nl,jm,hf,fp,q1,b1,d2, -List.all_eq_true, -List.all_flatten,oh,Cd,Ek,A8,WY,Hq,GG,hR];exact⟨k0,k1,_,k2,k3,λk m e=>by injection e with e;subst e;exact xk⟩
   .simp[cf,g1,g2,g3,g4,hq,oO,l0];rw[Xx]at hB;exact⟨db,eo,y,pI,hB,hn⟩
  .rintro o kH h1 rfl ⟨rfl,cf,g1,g2,g3,db,eo,y,pI,hB,hn⟩;simp;generalize o9:M (.loop _) _=YY;refine pU o9
    (λi s dn=>s.length=63/\gt s 1= .pt 0 0/\gt s 2= .pt 1 0/\gt s 3= .pt 2 0/\gt s 6=i/\At dn 0 (.row [.ls 3 cg false,.ls 5 cY false,g.nn,g.ne])/\At dn 1 (.row qT)/\gz dn 3 (nR g.nodes) y/\∃z,At dn 2 (.row [y,z,g.nn,g.ne])/\gz dn 5 (fV (g.cj.take i)) z/\(∀k m,z= .sl k 5 0 m false->2<k/\∀kz m',y= .sl kz 3 0 m' false->kz≠k))
    (λo s dn=>o= .exit 2/\s.length=63/\gt s 2= .pt 1 0/\gt s 3= .pt 2 0/\At dn 1 (.row qT)/\gz dn 3 (nR g.nodes) y/\∃z,At dn 2 (.row [y,z,g.nn,g.ne])/\gz dn 5 (fV g.cj) z/\(∀k m,z= .sl k 5 0 m false->2<k)) g.cj.length (by simp;omega)
    ⟨by simp[cf],by simp[g1],by simp[g2],by simp[g3],by simp[cf],db,eo,hB,.sc (.slice none 0 0),pI,.inl ⟨rfl,rfl⟩,λk m e=>by cases e⟩ ?_ ?_
   .clear o9 YY cf g1 g2 g3 db eo pI hB;rintro i fr hp da ⟨cf,g1,g2,g3,g6,db,eo,hB,z,pI,hC,hm⟩;have l2:=pI.lt;have l0:=db.lt;have a0:=db.fh;have oO:∀kz,hp[0]'kz= .row [.ls 3 cg false,.ls 5 cY false,g.nn,g.ne]:=λkz=>db.get kz
    rcases jr pz da with⟨c,hi,hx,hr,cz⟩|rfl
    .obtain⟨c2,c3⟩:=mL c (Zi hx);have fp:=λz bb h=>fp c.props z bb h c2 c3
     have hf:=cG (i:=i) (Yp da (Yp ni (by decide)));have Nl:∀y',(hp++y')[2]?=some (.row [y,z,g.nn,g.ne]):=λy'=>(pI.app y').fh
     have aq2:∀y' kz,(hp++y')[2]'kz= .row [y,z,g.nn,g.ne]:=λy' kz=>(pI.app y').get kz
     have an:∀y',(hp++[y'])[hp.length]?=some y':=λy=>by simp
     have jm:∀y' kz,(hp++[y'])[hp.length]'kz=y':=λy kz=>by simp
     obtain⟨j,h2,b1,b2,b3,b4⟩:=kj (t:=24) nK rfl (hp++[.row (dP c)]) (dP c) (fV (g.cj.take i)) z (hC.grow _) rfl (Nu _) (by decide) (by rw[dD,Xf];exact Yp (Nat.min_le_left _ _) (Yp da (Yp ni (by decide)))) (by decide);have d0:=b3 0 _ (db.app _).fh λk n e=>by have:=(hm k n e).1;exact λq=>by subst q;exact absurd this (by decide)
     have d1:=b3 1 _ (eo.app _).fh λk n e=>by have:=(hm k n e).1;exact λq=>by subst q;exact absurd this (by decide)
     have d2:=b3 2 _ (pI.app _).fh λk n e=>by have:=(hm k n e).1;exact λq=>by subst q;exact absurd this (by decide)
     have zd:(fV (g.cj.take i)).length=i:=by rw[dD,Xf];exact Nat.min_eq_left da
     have sS:fV (g.cj.take i)++[dP c]=fV (g.cj.take (i+1)):=by rw[jk hx];simp[fV]
     have q1:=λops d rest fr h=>tZ (λv=>hC.np v) (ch cx M true) ops d rest fr h
     have nQ:=hC.cls;rw[zd]at b1;rw[sS]at b2;have xk:2<j:=by
      simp only[Zu,Xe,Xq]at b4;clear hf;omega
     have hjy:∀kz m',y= .sl kz 3 0 m' false->kz≠j:=by
      rintro kz m' rfl;rcases hB with⟨_,e⟩|⟨_,id,e,cZ⟩
      .cases e
      .injection e with e
       subst e;have:=(Za.1 cZ).1;simp only[Zu,Xe,Xq]at b4;clear hf;omega
     have hB2:gz h2 3 (nR g.nodes) y:=by
      rcases hB with h0|⟨eF,id,rfl,cZ⟩
      .exact .inl h0
      .exact .inr ⟨eF,id,rfl,b3 id _ (FT _ cZ) λk n e=>(hm k n e).2 _ _ rfl⟩
     have mr:∀z',z'=AV.sl j 5 0 (i+1) false->At (h2.set 2 (.row [y,z',g.nn,g.ne])) 0 (.row [.ls 3 cg false,.ls 5 cY false,g.nn,g.ne])/\At (h2.set 2 (.row [y,z',g.nn,g.ne])) 1 (.row qT)/\gz (h2.set 2 (.row [y,z',g.nn,g.ne])) 3 (nR g.nodes) y/\At (h2.set 2 (.row [y,z',g.nn,g.ne])) 2 (.row [y,z',g.nn,g.ne])/\gz (h2.set 2 (.row [y,z',g.nn,g.ne])) 5 (fV (g.cj.take (i+1))) z':=by
      rintro z' rfl;refine⟨At.set (show At h2 0 _ from d0) (by decide) _,At.set (show At h2 1 _ from d1) (by decide) _,?_,At.new (show At h2 2 _ from d2) _,.inr ⟨by rw[<-sS];simp,j,by rw[dD,Xf,Nat.min_eq_left hi],ko b2 (Xk xk)⟩⟩;rcases hB2 with h0|⟨eF,id,rfl,cZ⟩
      .exact .inl h0
      .exact .inr ⟨eF,id,rfl,ko cZ (Xk (hn _ _ rfl))⟩
     obtain⟨k0,k1,kB,k2,k3⟩:=mr _ rfl;clear mr sS;unfold dP eU at hr cz b1;unfold eU at fp;simp only[Zp,Zv,Zw,Zu,Xe,Xq,Xs]at b1;simp[cf,g1,g2,g3,g6,hi,mO,cz,a0,Nl,jm,hf,fp,q1,b1,d2];exact⟨k0,k1,kB,_,k2,k3,λk m e=>by injection e with e;subst e;exact⟨xk,hjy⟩⟩
    .simp[cf,g1,g2,g3,g6,mO,oO,l0];rw[Xx]at hC;exact⟨eo,hB,z,pI,hC,λk m e=>(hm k m e).1⟩
   .rintro o gO hp rfl ⟨rfl,cf,g2,g3,eo,hB,z,pI,hC,hm⟩;rw[her]at hC;have a1:=eo.fh;have a2:=pI.fh;simp only[qT]at a1;have s1:∀y,(hp.set 1 y)[1]?=some y:=λy=>(eo.new y).fh
    have RY:∀X,gz (hp.set 1 X) 3 (nR g.nodes) y:=λX=>by
     rcases hB with h0|⟨eF,id,rfl,cZ⟩
     .exact .inl h0
     .exact .inr ⟨eF,id,rfl,ko cZ (Xk (Nat.lt_of_succ_lt (hn _ _ rfl)))⟩
    have hC':∀X,gz (hp.set 1 X) 5 cY z:=λX=>by
     rcases hC with h0|⟨eF,id,rfl,cZ⟩
     .exact .inl h0
     .exact .inr ⟨eF,id,rfl,ko cZ (Xk (Nat.lt_of_succ_lt (hm _ _ rfl)))⟩
    have c1:=hB.cls;have c2:=hC.cls;unfold cls at c1 c2;simp[cf,g2,g3,a1,a2,s1];have zZ:=λX=>fJ (n:=6) (by decide) (IW g.nodes) (Lz g.nodes) (RY X)
    have AA:=λX=>fJ (n:=6) (by decide) (λr hr=>Nu g.cj r (by rw[her];exact hr)) (by rw[<-her];exact Qm g.cj) (hC' X)
    exact⟨_,_,⟨rfl,rfl⟩,by simp[Ae.cD,zZ,AA]⟩
 obtain⟨r,h',e1,e2⟩:=main;exact⟨r,h',e1,_,e2,adK g⟩
def U6{f:FuncId}{args:LA}{n:Nat}{r r':AV}{h':Hp}(bad:Nat->Bool)(fi:Fi)(hF:cx.F f=some fi)(gI:FE cx bad fi.body=true)(hs:cx.oW f=none)(hi:cx.inl f=false)(hl:args.length<=fi.ntmps)(hc:args.all dk=true)(hb:dL fi.res (eE cx (ch cx n) bad fi.body (args++List.replicate (fi.ntmps-args.length) .un,[]))=some (r,h'))(hr:Ae.cD h' 8 r=some r')(b:Bool)(h:Hp)(ht:jx f=true:=by decide):ch cx (n+1) b f args h=some (r',h):=
 El hs hi (tw ht) (Nv ht _) hc (by rw[uO hF gI hl];exact hb) hr b h
def LB{P:Prop}{bad:Nat->Bool}{call:Bool->FuncId->LA->Hp->Option (AV × Hp)}{X:Option (Out × St)}{c:Code}{fr:LA}{h:Hp}(hX:eE cx call bad (.loop c) (fr,h)=X)(Inv:Nat->St->Prop)(Q:Out->St->Prop)(N:Nat)(hN:N<cx.fuel)(hI:Inv 0 (fr,h))(step:∀i fr h,i<=N->Inv i (fr,h)->Py Inv Q N i (eE cx call bad c (fr,h)))(fin:∀o gO h',X=some (o,(gO,h'))->Q o (gO,h')->P):P:=by
 subst hX;obtain⟨o,gO,h',e,hQ⟩:∃o gO h',eE cx call bad (.loop c) (fr,h)=some (o,(gO,h'))/\Q o (gO,h'):=
  lY (C:=cx) (G:=λr=>∃o gO h',r=some (o,(gO,h'))/\Q o (gO,h')) Inv Q N hN hI step (λo fr h _ hq=>⟨o,fr,h,rfl,hq⟩)
 exact fin o gO h' e hQ
def AF(cs:List Ch):mf (sJ cs) (sJ cs)=true:=jP λr hr=>by
 obtain⟨x,_,rfl⟩:=Yk.1 hr;exact M9 x
def xI(l:List Cm):mf (oU l) (oU l)=true:=jP λr hr=>by
 obtain⟨c,_,rfl⟩:=Yk.1 hr;have:mf (sJ c.cs) (sJ c.cs)=true:=jP λr hr=>by
  obtain⟨x,_,rfl⟩:=Yk.1 hr;exact M9 x
 simp[jM,gY,fH,Ae.nU,this]
def Nw(N D:Nat)(b:Bool)(g:Gr)(cs:List Ch)(z:Bool)(h:Hp)(hg:qw D g)(hc:Z6 D cs):
 ch cx (N+3*D+11) b 52 [.ag (cl g),.ls 10 (sJ cs) z] h=some (.tp [.ag (cl (jE g cs).1),.sc (.int .i64 (jE g cs).2.1),.sc (.int .i64 (jE g cs).2.2)],h):=
 FP N D b g cs z h hg hc.1 hc.2
def LC{t b:Int}{i:Nat}(h1: -9223372036854775808<=t)(h2:t<=9223372036854775807)(hb:0<=b)(BM:b<=1000000000000000)(hi:i<=1000):cS .i64 (t-(i:Int))=b+1↔t=b+1+(i:Int):=by
 by_cases h: -9223372036854775808<=t-(i:Int)
 .rw[cu h (by omega)];constructor<;>intro e<;>omega
 .have e:cS .i64 (t-(i:Int))=t-(i:Int)+18446744073709551616:=by
   rw[mA];simp[IntKind.wrap,IntKind.signed,IntKind.bits];omega
  rw[e];constructor<;>intro e<;>omega
def yN(N D:Nat)(b:Bool)(x:Hi)(h:Hp)(hx:Lv D x):
 ch cx (N+3*D+12) b 30 [oV x] h=some (.sc (.int .i64 (gu x)),h):=by
 have main:∃h',dL [.tmp 2] (eE cx (ch cx (N+3*D+11)) (λi=>i==17) ((f30.body).getD .skip) ([oV x]++List.replicate 71 .un,[]))=some (.sc (.int .i64 (gu x)),h'):=by
  have fg:=λbb h=>uA (N+D+3) D bb x.g h hx.g
  have fa:=λ(g:Gr)(cs:List Ch)z bb h hg hc=>Nw N D bb g cs z h hg hc
  rw[show N+D+3+2*D+8=N+3*D+11 by omega]at fg;obtain⟨hgb,hl,Bo,Nx⟩:=hx;generalize N+3*D+11=M at fg fa|-;obtain⟨bs,g,l⟩:=x;unfold oV gu iz;simp only at fg hl hgb Bo Nx|-;have hq:=gl l;have jc:=uW l;have AG:=xI l;generalize oU l=cg at hq jc AG|-;generalize dQ g=ge at fg|-;simp only[cl,dy,dz]at fg;by_cases h1:bs<0
  .simp[f30,cl,dy,dz,h1]
  by_cases h2:1000000000000000<bs
  .simp[f30,cl,dy,dz,h1,h2]
  rw[cm (by omega)];by_cases h3:ge=0
  rotate_left
  .simp[f30,cl,dy,dz,h1,h2,fg,h3]
  subst h3;rw[cm (by simp)];by_cases h4:1000<l.length
  .simp[f30,cl,dy,dz,h1,h2,fg,hq,show(1000:Int)< (l.length:Int) by omega,h4]
  rw[cm h4];generalize hR:dF g l=R;generalize hE:(if Dk (bs+1) l=true then R.2 else 26)=E;have b1:cS .i64 (bs+1)=bs+1:=cu (by omega) (by omega);generalize fG:[AV.sc (.int .i64 bs),.ls 3 (f_ g.nodes) false,.ls 5 (fV g.cj) false,.sc (.int .i64 g.nn),.sc (.int .i64 g.ne),.ls 2 cg false]=row;simp[f30,cl,dy,dz,h1,h2,fg,hq,show¬(1000:Int)< (l.length:Int) by clear b1;omega];generalize gU:eE cx (ch cx M) _ (.loop _) (_,_)=XX;refine LB gU
   (λi s=>(if Dk (bs+1+(i:Int)) (l.drop i)=true then R.2 else 26)=E/\s.1.length=72/\gt s.1 1= .pt 0 0/\gt s.1 4=i/\At s.2 0 (.row row))
   (λo s=>s.1.length=72/\((o= .exit 0/\R.2=E/\gt s.1 1= .pt 0 0/\At s.2 0 (.row row))\/(o= .ret/\gt s.1 2=E))) l.length (by simp;clear b1;omega) ⟨by simpa using hE,by simp,by simp,by simp,by rw[<-fG];rfl⟩ ?_ ?_
  .clear gU XX hE fg fa hR hgb Bo;rintro i fr hp da ⟨hE,cf,g1,g4,db⟩;simp only at cf g1 g4 db;have a0:=db.fh;have aq:∀k,hp[0]'k= .row row:=λk=>db.get k
   rw[<-fG]at a0 aq;rcases jr jc da with⟨c,hi,hx,hr,cz⟩|rfl
   .rw[jd hx,Dk]at hE;have vh:=Zi hx;have hbs:0<=bs:=by clear b1;omega
    have pW:=LC (i:=i) (Nx c vh).1 (Nx c vh).2 hbs (by clear b1;omega) (by clear b1;omega);have hf:=cG (i:=i) (by clear b1 pW;omega);have e:bs+1+((i:Int)+1)=bs+1+(i:Int)+1:=by clear b1 pW hf;omega
    by_cases ht:c.ts=bs+1+(i:Int)
    .have h5:=pW.2 ht;rw[decide_eq_true ht,Xd]at hE;simp[cf,g1,g4,hi,hq,cz,jM,a0,b1,hf,h5];refine⟨?_,db⟩;rw[<-hE];simp only[e]
    .have h5:¬cS .i64 (c.ts-(i:Int))=bs+1:=λq=>ht (pW.1 q)
     rw[decide_eq_false ht,Xi]at hE;simp[cf,g1,g4,hi,hq,cz,jM,a0,b1,h5];exact hE
   .rw[Yc,Dk]at hE;simp[cf,g1,g4,hq,a0];exact⟨hE,db⟩
  .clear hE fg Nx;rintro o kH h1 rfl ⟨cf,⟨rfl,hE,g1,db⟩|⟨rfl,g2⟩⟩
   rotate_left
   .simp only at cf g2;simp[g2]
   simp only at cf g1 db;have l0:=db.lt;have a0:=db.fh;have uV:∀y,(h1++y)[0]?=some (.row row):=λy=>(db.app y).fh
   rw[<-fG]at a0 uV;simp[cf,g1,a0];generalize o9:eE cx (ch cx M) _ (.loop _) (_,_)=YY;refine LB o9
    (λi s=>s.1.length=72/\gt s.1 1= .pt 0 0/\gt s.1 5= .pt h1.length 0/\gt s.1 6=i/\At s.2 0 (.row row)/\∃gi,qw D gi/\dF gi (l.drop i)=R/\At s.2 h1.length (.row (cl gi)))
    (λo s=>s.1.length=72/\((o= .exit 2/\R.2=0)\/(o= .ret/\gt s.1 2=R.2))) l.length (by simp;clear b1;omega) ⟨by simp[cf],by simp[g1],by simp[cf],by simp[cf],(db.app _),g,hgb,hR,by show(h1++_)[h1.length]?=_;simp[cl,dy,dz]⟩ ?_ ?_
   .clear o9 YY hR a0 uV cf g1 db hE;rintro i fr hp da ⟨cf,g1,g5,g6,db,gi,hgi,dq,eo⟩;simp only at cf g1 g5 g6 db eo;have eF:¬h1.length=0:=by clear b1;omega
    have hne':¬0=h1.length:=by clear b1;omega
    have a0:=db.fh;have a1:=eo.fh;have lp:=eo.lt;have jH:∀k,hp[0]'k= .row row:=λk=>db.get k
    have aqq:∀y k,(hp++y)[0]'k= .row row:=λy k=>(db.app y).get k
    have aq:∀y k,(hp++y)[h1.length]'k= .row (cl gi):=λy k=>(eo.app y).get k
    have uV:∀y,(hp++y)[0]?=some (.row row):=λy=>(db.app y).fh
    have Av:∀y,(hp++y)[h1.length]?=some (.row (cl gi)):=λy=>(eo.app y).fh
    have an:∀y,(hp++[y])[hp.length]?=some y:=λy=>by simp
    rw[<-fG]at a0 uV jH aqq;rcases jr jc da with⟨c,hi,hx,hr,cz⟩|rfl
    .have Bo:=Bo c (Zi hx);rw[jd hx,dF]at dq;have fa:=λbb h=>fa gi c.cs false bb h hgi Bo
     have UQ:=λh0=>(qS hgi Bo h0).gr
     have hf:=cG (i:=i) (by clear b1;omega);have hec:=AF c.cs;generalize jE gi c.cs=r at dq fa UQ;obtain⟨G,k,e⟩:=r;dsimp only at dq fa UQ;simp only[cl,dy,dz]at fa a1 Av aq;by_cases h0:e=0
     .rw[cq h0]at dq;subst h0;simp[cf,g1,g6,hi,hq,a0];rw[mX [(0,13),(2,13),(6,13),(7,13)] ?_ ?_]
      rotate_left
      .kernel_rfl
      .kernel_rfl
      simp(maxSteps:=1000000) [xC,cf,g1,g5,g6,hi,hq,cz,jM,hf,fa,a0,a1,Av,aqq,fH,gY,Ae.nU,nO,nP,AG,hec];exact⟨(db.app _).set eF _,G,UQ rfl,dq,(eo.app _).new _⟩
     .rw[cm h0]at dq;simp[cf,g1,g6,hi,hq,a0];rw[mX [(0,13),(2,13),(6,13),(7,13)] ?_ ?_]
      rotate_left
      .kernel_rfl
      .kernel_rfl
      simp(maxSteps:=1000000) [xC,cf,g1,g5,g6,hi,hq,cz,jM,fa,a0,a1,Av,aqq,h0,fH,gY,Ae.nU,nO,nP,AG,hec];rw[<-dq]
    .rw[Yc,dF]at dq;simp[cf,g1,g6,hq,a0,<-dq]
   .rintro o gO h' rfl ⟨cf,⟨rfl,h0⟩|⟨rfl,g2⟩⟩
    .simp only at cf;rw[<-hE,h0];simp[cf]
    .simp only at cf g2;rw[<-hE];simp[g2]
 obtain⟨h',e⟩:=main;exact U6 (r:= .sc (.int .i64 (gu x))) (h':=h') (n:=N+3*D+11) (λi=>i==17) ⟨f30.ntmps,(f30.body).getD .skip,[.tmp 2]⟩ (by kernel_rfl) (by kernel_rfl) rfl (by kernel_rfl) (by simp[f30]) rfl e rfl b h
end
end Go.Proofs.YtmfohnojaginjaaGreatDoor
