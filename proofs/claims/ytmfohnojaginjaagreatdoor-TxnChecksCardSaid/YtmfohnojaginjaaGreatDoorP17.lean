/- Part of the proof. -/
import Derived.Test.YtmfohnojaginjaaGreatDoorP16
set_option linter.all false
set_option maxHeartbeats 32000000
set_option maxRecDepth 100000
namespace Go.Proofs.YtmfohnojaginjaaGreatDoor
open Go Go.Ae Go.Proofs.Tryz
section
attribute [local simp] cn eD
def fq :Gr:=⟨[],[],0,0⟩
def xq(l:List ByteArray)(x:ByteArray):jS l x=l.any (yu x):=by
 induction l with
 |nil=>rfl
 |cons c l ih=>rfl
def qG(g:Gr)(pre post:List Nd)(m:Nd):Gr:={g with nodes:=pre++m::post,nn:=max g.nn (m.id+1)}
structure OnN (g:Gr)(c:Ch)(n:Nd)(pre post:List Nd)(lp lm lq:List ByteArray):Prop where
 nl:g.nodes.length<=100000
 sp:gZ (p_ c.a) (pB c.a) g.nodes pre [n] post
 id:n.id=c.a
 qE:gZ (KS c.name) (yu c.name) n.labels lp lm lq
 ll:n.labels.length<=100000
 pl:n.props.length<=100000
 YV:0<=c.a/\c.a<=1000000000
def kC(g:Gr)(e:AV):xn (.tp [.ag (cl g),e])= .tp [.ag (cl g),e]:=by simp[xn,GI,cl,dy,dz,oA,rO,pC]
def TC{h:Hp}{y y':AV}{cg:List LA}{u v w:Value}(e:cD h 6 y=some y'):cD h 8 (.tp [.ag [y,.ls 5 cg false,.sc u,.sc v],.sc w])=some (.tp [.ag [y',.ls 5 cg false,.sc u,.sc v],.sc w]):=by
 show(List.mapM (cD h 7) [.ag [y,.ls 5 cg false,.sc u,.sc v],.sc w]).map AV.tp=_;have:cD h 7 (.ag [y,.ls 5 cg false,.sc u,.sc v])=some (.ag [y',.ls 5 cg false,.sc u,.sc v]):=by
  show(List.mapM (cD h 6) [y,.ls 5 cg false,.sc u,.sc v]).map AV.ag=_;rw[Zo,e];rfl
 rw[Zo,this];rfl
def gG(e:AV):xn (.tp [.ag [(),(),(0:Int),(0:Int)],e])= .tp [.ag (cl fq),e]:=rfl
def xr(g:Gr)(c:Ch)(n:Nd):[AV.ag (cl g),.ag (cB c),.ag (dh n)].all dk=true:=by
 have h1:=nZ c;rw[Zn,Zh]at h1;rw[Zn,Zn,h1.1];rfl
def YW(N D:Nat)(b:Bool)(g:Gr)(c:Ch)(n:Nd)(pre post:List Nd)(lp lm lq:List ByteArray)(h:Hp)(H:OnN g c n pre post lp lm lq)(hk:c.k=3):
 ch cx (N+3*D+9) b 148 [.ag (cl g),.ag (cB c),.ag (dh n)] h=some (.tp [.ag (cl (if lm.isEmpty then(if 8<=n.labels.length then fq else qG g pre post {n with labels:=lp++[c.name]++lq})else fq)),.sc (.int .i64 (if lm.isEmpty then(if 8<=n.labels.length then 20 else 0)else 7))],h):=by
 refine nA (n:=N+3*D+8) f148 [.cell 6 4 true,.tmp 7] (xr _ _ _) ?_ b h;have aa:=λb h=>jz (N+3*D+6) b n c.name h (Yp H.ll (by omega))
 rw[xq,H.qE.any]at aa;have tq:gZ (p_ n.id) (pB n.id) g.nodes pre [n] post:=by rw[H.id];exact H.sp
 have hrn:0<=n.id/\n.id<=1000000000:=by rw[H.id];exact H.YV
 have hq:(fj n.labels).length=n.labels.length:=di _;cases hm:lm.isEmpty
 .rw[hm]at aa;simp only[dh,iD,eU]at aa;generalize N+3*D+8=M at aa;simp[f148,dh,cl,dy,dz,iD,eU,cB,aa,hk];exact gq ⟨_,rfl,gG _⟩
 .rw[hm]at aa;have pg:lm=[]:=List.isEmpty_iff.1 hm;subst pg;have af:=λb h=>KV (N+3*D+7) b n.labels lp lq c.name h H.ll H.qE
  have ah:=λb h=>pD (N+3*D+7) b g n.id (.ls 1 (fj (lp++[c.name]++lq)) false) (eU n.props false) {n with labels:=lp++[c.name]++lq} pre [n] post h H.nl rfl rfl rfl tq hrn
  simp only[dh,cl,dy,dz,iD,eU]at aa af ah;generalize N+3*D+8=M at aa af ah;by_cases h8:8<=n.labels.length
  .have OK:(8:Int)<=(n.labels.length:Int):=by omega
   simp[f148,dh,cl,dy,dz,iD,eU,cB,aa,hk,hq,h8,OK];exact gq ⟨_,rfl,gG _⟩
  .have OK:¬(8:Int)<=(n.labels.length:Int):=by omega
   simp only[Zp,Zv,Zw]at af ah;simp[f148,dh,cl,dy,dz,iD,eU,cB,aa,af,ah,hk,hq,h8,OK];exact gq ⟨_,rfl,kC (qG g pre post {n with labels:=lp++c.name::lq}) _⟩
def YX(N D:Nat)(b:Bool)(g:Gr)(c:Ch)(n:Nd)(pre post:List Nd)(lp lm lq:List ByteArray)(h:Hp)(H:OnN g c n pre post lp lm lq)(hk:c.k=4):
 ch cx (N+3*D+9) b 148 [.ag (cl g),.ag (cB c),.ag (dh n)] h=some (.tp [.ag (cl (if lm.isEmpty then fq else qG g pre post {n with labels:=lp++lq})),.sc (.int .i64 (if lm.isEmpty then 23 else 0))],h):=by
 refine nA (n:=N+3*D+8) f148 [.cell 6 4 true,.tmp 7] (xr _ _ _) ?_ b h;have aa:=λb h=>jz (N+3*D+6) b n c.name h (Yp H.ll (by omega))
 rw[xq,H.qE.any]at aa;have tq:gZ (p_ n.id) (pB n.id) g.nodes pre [n] post:=by rw[H.id];exact H.sp
 have hrn:0<=n.id/\n.id<=1000000000:=by rw[H.id];exact H.YV
 have hq:(fj n.labels).length=n.labels.length:=di _;cases hm:lm.isEmpty
 .rw[hm]at aa;have af:=λb h=>HA (N+3*D+7) b n.labels c.name h H.ll
  rw[H.qE.filter]at af;have ah:=λb h=>pD (N+3*D+7) b g n.id (dt 1 (fj (lp++lq))) (eU n.props false) {n with labels:=lp++lq} pre [n] post h H.nl (by unfold dt;cases fj (lp++lq)<;>rfl) rfl (by show[AV.sc (.int .i64 n.id),uF 1 (dt 1 (fj (lp++lq))),uF 6 (eU n.props false)]=_;rw[Aq];rfl) tq hrn
  have W6:∀(ops:Array Oper)(cal:iB)(d:Tmp)(rest:List Oper)(fr:LA)(h:Hp),sY cx cal ops (some d) rest fr (some (dt 1 (fj (lp++lq)),h))=dr cx cal ops rest (fr.set d (dt 1 (fj (lp++lq))),h):=λops cal d rest fr h=>yq (by intro v;unfold dt;split<;>simp) d rest fr h
  have dZ:cls (dt 1 (fj (lp++lq)))=some [dt 1 (fj (lp++lq))]:=by unfold dt;cases fj (lp++lq)<;>rfl
  unfold cls at dZ;simp only[dh,cl,dy,dz,iD,eU]at aa af ah;generalize N+3*D+8=M at aa af ah;generalize dt 1 (fj (lp++lq))=y at af ah W6 dZ;simp[f148,dh,cl,dy,dz,iD,eU,cB,aa,af,ah,W6,dZ,hk];exact gq ⟨_,rfl,kC (qG g pre post {n with labels:=lp++lq}) _⟩
 .rw[hm]at aa;simp only[dh,iD,eU]at aa;generalize N+3*D+8=M at aa;simp[f148,dh,cl,dy,dz,iD,eU,cB,aa,hk];exact gq ⟨_,rfl,gG _⟩
def YZ(N D:Nat)(b:Bool)(g:Gr)(c:Ch)(n:Nd)(pre post:List Nd)(lp lm lq:List ByteArray)(h:Hp)(H:OnN g c n pre post lp lm lq)(hk:c.k=5)(hd:gS c.v<=D)(hv:jK c.v):
 ch cx (N+3*D+9) b 148 [.ag (cl g),.ag (cB c),.ag (dh n)] h=some (.tp [.ag (cl (if(g_ n.props c.name c.v).length<=16 then qG g pre post {n with props:=g_ n.props c.name c.v}else fq)),.sc (.int .i64 (if(g_ n.props c.name c.v).length<=16 then 0 else 20))],h):=by
 refine nA (n:=N+3*D+8) f148 [.cell 6 4 true,.tmp 7] (xr _ _ _) ?_ b h;have aa:=λb h=>jz (N+3*D+6) b n c.name h (Yp H.ll (by omega))
 rw[xq,H.qE.any]at aa;have tq:gZ (p_ n.id) (pB n.id) g.nodes pre [n] post:=by rw[H.id];exact H.sp
 have hrn:0<=n.id/\n.id<=1000000000:=by rw[H.id];exact H.YV
 have af:=λb h=>zg N D b n.props c.name c.v h H.pl hd hv
 have ah:=λb h=>pD (N+3*D+7) b g n.id (iD n.labels false) (dt 6 (d_ (g_ n.props c.name c.v))) {n with props:=g_ n.props c.name c.v} pre [n] post h H.nl rfl (by unfold dt;cases d_ (g_ n.props c.name c.v)<;>rfl) (by show[AV.sc (.int .i64 n.id),uF 1 (iD n.labels false),uF 6 (dt 6 (d_ (g_ n.props c.name c.v)))]=_;rw[Aq];rfl) tq hrn
 have W6:∀(ops:Array Oper)(cal:iB)(d:Tmp)(rest:List Oper)(fr:LA)(h:Hp),sY cx cal ops (some d) rest fr (some (dt 6 (d_ (g_ n.props c.name c.v)),h))=dr cx cal ops rest (fr.set d (dt 6 (d_ (g_ n.props c.name c.v))),h):=λops cal d rest fr h=>yq (by intro v;unfold dt;split<;>simp) d rest fr h
 have dZ:cls (dt 6 (d_ (g_ n.props c.name c.v)))=some [dt 6 (d_ (g_ n.props c.name c.v))]:=by unfold dt;cases d_ (g_ n.props c.name c.v)<;>rfl
 unfold cls at dZ;simp only[dh,cl,dy,dz,iD,eU]at aa af ah;generalize N+3*D+8=M at aa af ah;generalize dt 6 (d_ (g_ n.props c.name c.v))=y at af ah W6 dZ;by_cases mN:(g_ n.props c.name c.v).length<=16
 .simp[f148,dh,cl,dy,dz,iD,eU,cB,aa,af,ah,W6,dZ,hk,mN];exact gq ⟨_,rfl,kC (qG g pre post {n with props:=g_ n.props c.name c.v}) _⟩
 .simp[f148,dh,cl,dy,dz,iD,eU,cB,aa,af,W6,hk,mN];exact gq ⟨_,rfl,gG _⟩
def Y0(N D:Nat)(b:Bool)(g:Gr)(c:Ch)(n:Nd)(pre post:List Nd)(lp lm lq:List ByteArray)(h:Hp)(H:OnN g c n pre post lp lm lq)(hk:c.k=2)(u:Bool)(hU:∀b h,ch cx (N+3*D+8) b 252 [.ag (cl g),c.a] h=some ((u:AV),h)):
 ch cx (N+3*D+9) b 148 [.ag (cl g),.ag (cB c),.ag (dh n)] h=some (.tp [.ag (cl (if u then fq else{g with nodes:=pre++post})),.sc (.int .i64 (if u then 12 else 0))],h):=by
 refine nA (n:=N+3*D+8) f148 [.cell 6 4 true,.tmp 7] (xr _ _ _) ?_ b h;have aa:=λb h=>jz (N+3*D+6) b n c.name h (Yp H.ll (by omega))
 rw[xq,H.qE.any]at aa;have tq:gZ (p_ n.id) (pB n.id) g.nodes pre [n] post:=by rw[H.id];exact H.sp
 have hrn:0<=n.id/\n.id<=1000000000:=by rw[H.id];exact H.YV
 have hq:=dC g.nodes;have hg:=iJ g.nodes;simp only[dh,cl,dy,dz]at aa hU;generalize N+3*D+8=M at aa hU;cases u
 .generalize hP:(λi=>(g.nodes.take i).filter λs=> !pB c.a s)=P;have h0:P 0=[]:=by rw[<-hP];rfl
  have tL:P g.nodes.length=pre++post:=by rw[<-hP];simp only[Xx];exact H.sp.filter
  have dM:∀{i:Nat}{d:Nd},g.nodes[i]?=some d->P (i+1)=P i++(if pB c.a d then[]else[d]):=λ{i d}hc=>by
   rw[<-hP];simp only[List.take_add_one,hc,Yq]
   congr 1
   cases hq:pB c.a d<;>simp[hq]
  have da:∀i,(P i).length<=g.nodes.length:=λi=>by rw[<-hP];exact Yp (Xu _ _) (by simp;omega)
  have nh:=H.nl;clear hP;have mr:AV.tp [.ag (cl {g with nodes:=pre++post}),(0:Int)]= .tp [.ag [.ls 3 (f_ (P g.nodes.length)) false,dz g.cj,g.nn,g.ne],(0:Int)]:=by rw[tL];rfl
  simp only[Ys,if_false];rw[mr];simp[f148,dh,cl,dy,dz,cB,aa,hk,hU];have vh:∀(i:Nat),∀r∈f_ (P i),r.length=3/\r.all eu=true:=λi r hr=>by obtain⟨a,_,rfl⟩:=Yk.1 hr;exact⟨rfl,rfl⟩
  refine ej (C:=cx) (G:=λr=>∃r0 h',dL _ (eX _ _ (du _ (eX _ _ (du _ r) _)) _)=some (r0,h')/\∃r',cD h' 8 r0=some r'/\xn r'=AV.tp [.ag [.ls 3 (f_ (P g.nodes.length)) false,.ls 5 (fV g.cj) false,g.nn,g.ne],(0:Int)])
   (λi s=>s.1.length=103/\gt s.1 3= .pt 0 0/\gt s.1 4= .pt 1 0/\gt s.1 6= .pt 3 0/\gt s.1 10= .sc (.int .i64 i)/\s.2[0]?=some (.row [.ls 3 (f_ g.nodes) false,.ls 5 (fV g.cj) false,g.nn,g.ne])/\s.2[1]?=some (.row (cB c))/\s.2[3]?=some (.row [(),(),(0:Int),(0:Int)])/\∃y,gt s.1 9=y/\gz s.2 3 (f_ (P i)) y/\∀k n,y= .sl k 3 0 n false->3<k)
   (λo s=>o= .exit 1/\s.1.length=103/\gt s.1 3= .pt 0 0/\gt s.1 6= .pt 3 0/\s.2[0]?=some (.row [.ls 3 (f_ g.nodes) false,.ls 5 (fV g.cj) false,g.nn,g.ne])/\s.2[3]?=some (.row [(),(),(0:Int),(0:Int)])/\∃y,gt s.1 9=y/\gz s.2 3 (f_ (P g.nodes.length)) y/\∀k n,y= .sl k 3 0 n false->3<k) g.nodes.length (by simp;omega) (by simp[h0,gz,f_,cB,hk]) ?_ ?_
  .rintro i fr h jw ⟨cf,e3,e4,e6,x8,b0,b1,b3,y,e9,hy,x9⟩;simp only at cf e3 e4 e6 x8 b0 b1 b3 e9 hy;have qF:3<h.length:=(Za.1 b3).1;by_cases hi:i<g.nodes.length
   .obtain⟨d,hc⟩:=eA hi;have hr:(f_ g.nodes)[i]?=some [.sc (.int .i64 d.id),iD d.labels false,eU d.props false]:=by rw[hg,hc];rfl
    have cz:=gA hr
    have hf:=cG (i:=i) (by omega);have dq:=dM hc;have zX:=da i;have rE:=vh i;generalize P i=p0 at dq zX hy rE;have q0:=kV (λv=>hy.np v)
    obtain⟨id,h2,a1,a2,a3,a4⟩:=kj (t:=23) nJ rfl h [d.id,iD d.labels false,eU d.props false] (f_ p0) y hy rfl (λr hr=>(rE r hr).1) (by omega) (by rw[dC];omega) (by omega);have w0:=a3 0 _ b0 (λk n e=>by have:=x9 k n e;omega);have w1:=a3 1 _ b1 (λk n e=>by have:=x9 k n e;omega);have w3:=a3 3 _ b3 (λk n e=>by have:=x9 k n e;omega);have a5:=oy (sz:=3) a2;rw[dC]at a1 a5;have e7:f_ p0++[[.sc (.int .i64 d.id),iD d.labels false,eU d.props false]]=f_ (p0++[d]):=by simp[f_,dh]
    rw[e7]at a5;simp only[cB]at b1 w1|-;by_cases heq:d.id=c.a
    .simp[cf,e3,e4,e6,e9,x8,dq,b0,b1,b3,hi,hq,cz,hf,heq,pB];exact⟨hy,x9⟩
    .simp[cf,e3,e4,e6,e9,x8,q0,dq,b0,b1,hi,hq,cz,hf,heq,pB,a1,w0,w1,w3];exact⟨a5,by omega⟩
   .have k_:i=g.nodes.length:=by omega
    subst k_;simp[cf,e3,e6,e9,x8,b0,b3,hq];exact⟨hy,x9⟩
  .rintro o fr h hn ⟨rfl,cf,e3,e6,b0,b3,y,e9,hy,x9⟩;simp only at cf e3 e6 b0 b3 e9 hy;have qF:3<h.length:=(Za.1 b3).1;have q0:=kV (λv=>hy.np v)
   have dZ:cls y=some [y]:=by rcases hy with⟨_,rfl⟩|⟨_,id,rfl,_⟩<;>rfl
   unfold cls at dZ;have s0:∀B,(h.set 0 B)[0]?=some B:=λB=>Zj (by omega)
   have s3:∀B C,((h.set 0 B).set 3 C)[3]?=some C:=λB C=>Zj (by simp;omega)
   have gw:∀h2:Hp,(∀j,3<j->h2[j]?=h[j]?)->cD h2 6 y=some (dt 3 (f_ (P g.nodes.length))):=λh2 hj=>by
    refine fJ (by omega) (Ar _).1 (Ar _).2 ?_;rcases hy with hb|⟨eF,id,rfl,cZ⟩
    .exact .inl hb
    .exact .inr ⟨eF,id,rfl,by rw[hj id (x9 id _ rfl)];exact cZ⟩
   simp[cf,e3,e6,e9,q0,b0,b3,dZ,s0,s3];refine⟨_,_,⟨rfl,rfl⟩,_,TC (gw _ λj hj=>by simp[show¬0=j by omega,show¬3=j by omega]),?_⟩;simp only[xn,GI,uI,oA,rO,pC]
 .simp[f148,dh,cl,dy,dz,cB,aa,hk,hU];exact gq ⟨_,rfl,gG _⟩
def qH(g:Gr)(pre post:List Ed)(m:Ed):Gr:={g with cj:=pre++m::post,ne:=max g.ne (m.id+1)}
structure OnE (g:Gr)(c:Ch)(n:Ed)(pre post:List Ed):Prop where
 nl:g.cj.length<=100000
 sp:gZ (xj c.a) (wk c.a) g.cj pre [n] post
 id:n.id=c.a
 pl:n.props.length<=100000
 YV:0<=c.a/\c.a<=1000000000
def HG(g:Gr)(c:Ch)(n:Ed):[AV.ag (cl g),.ag (cB c),.ag (dP n)].all dk=true:=by
 have h1:=nZ c;rw[Zn,Zh]at h1;rw[Zn,Zn,h1.1];rfl
def TD{h:Hp}{y y':AV}{cg:List LA}{u v w:Value}(e:cD h 6 y=some y'):cD h 8 (.tp [.ag [.ls 3 cg false,y,.sc u,.sc v],.sc w])=some (.tp [.ag [.ls 3 cg false,y',.sc u,.sc v],.sc w]):=by
 show(List.mapM (cD h 7) [.ag [.ls 3 cg false,y,.sc u,.sc v],.sc w]).map AV.tp=_;have:cD h 7 (.ag [.ls 3 cg false,y,.sc u,.sc v])=some (.ag [.ls 3 cg false,y',.sc u,.sc v]):=by
  show(List.mapM (cD h 6) [.ls 3 cg false,y,.sc u,.sc v]).map AV.ag=_;rw[Zo,Zo,e];rfl
 rw[Zo,this];rfl
def TE(N D:Nat)(b:Bool)(g:Gr)(c:Ch)(n:Ed)(pre post:List Ed)(h:Hp)(H:OnE g c n pre post)(hk:c.k=8)(hd:gS c.v<=D)(hv:jK c.v):
 ch cx (N+3*D+9) b 147 [.ag (cl g),.ag (cB c),.ag (dP n)] h=some (.tp [.ag (cl (if(g_ n.props c.name c.v).length<=16 then qH g pre post {n with props:=g_ n.props c.name c.v}else fq)),.sc (.int .i64 (if(g_ n.props c.name c.v).length<=16 then 0 else 20))],h):=by
 refine nA (n:=N+3*D+8) f147 [.cell 6 4 true,.tmp 7] (HG _ _ _) ?_ b h;have af:=λb h=>zg N D b n.props c.name c.v h H.pl hd hv
 have tq:gZ (xj n.id) (wk n.id) g.cj pre [n] post:=by rw[H.id];exact H.sp
 have hrn:0<=n.id/\n.id<=1000000000:=by rw[H.id];exact H.YV
 have ah:=λb h=>zh (N+3*D+7) b g n.id n.src n.dst n.type (dt 6 (d_ (g_ n.props c.name c.v))) {n with props:=g_ n.props c.name c.v} pre [n] post h H.nl (by unfold dt;cases d_ (g_ n.props c.name c.v)<;>rfl) (by show[AV.sc (.int .i64 n.id),.sc (.int .i64 n.src),.sc (.int .i64 n.dst),.sc (.string n.type),uF 6 (dt 6 (d_ (g_ n.props c.name c.v)))]=_;rw[Aq];rfl) tq hrn
 have W6:∀(ops:Array Oper)(cal:FuncId->LA->Hp->Option (AV × Hp))(d:Tmp)(rest:List Oper)(fr:LA)(h:Hp),sY cx cal ops (some d) rest fr (some (dt 6 (d_ (g_ n.props c.name c.v)),h))=dr cx cal ops rest (fr.set d (dt 6 (d_ (g_ n.props c.name c.v))),h):=λops cal d rest fr h=>yq (by intro v;unfold dt;split<;>simp) d rest fr h
 have dZ:cls (dt 6 (d_ (g_ n.props c.name c.v)))=some [dt 6 (d_ (g_ n.props c.name c.v))]:=by unfold dt;cases d_ (g_ n.props c.name c.v)<;>rfl
 unfold cls at dZ;simp only[cl,dy,dz,eU]at af ah;generalize N+3*D+8=M at af ah;generalize dt 6 (d_ (g_ n.props c.name c.v))=y at af ah W6 dZ;by_cases mN:(g_ n.props c.name c.v).length<=16
 .simp[f147,dP,cl,dy,dz,eU,cB,af,ah,W6,dZ,hk,mN];exact gq ⟨_,rfl,kC (qH g pre post {n with props:=g_ n.props c.name c.v}) _⟩
 .simp[f147,dP,cl,dy,dz,eU,cB,af,W6,hk,mN];exact gq ⟨_,rfl,gG _⟩
def TF(N D:Nat)(b:Bool)(g:Gr)(c:Ch)(n:Ed)(pre post:List Ed)(h:Hp)(H:OnE g c n pre post)(hk:c.k=7):
 ch cx (N+3*D+9) b 147 [.ag (cl g),.ag (cB c),.ag (dP n)] h=some (.tp [.ag (cl ({g with cj:=pre++post})),.sc (.int .i64 (0))],h):=by
 refine nA (n:=N+3*D+8) f147 [.cell 6 4 true,.tmp 7] (HG _ _ _) ?_ b h;have hq:=dD g.cj;have hg:=jy g.cj;generalize N+3*D+8=M,hP:(λi=>(g.cj.take i).filter λs=> !wk c.a s)=P;have h0:P 0=[]:=by rw[<-hP];rfl
 have tL:P g.cj.length=pre++post:=by rw[<-hP];simp only[Xx];exact H.sp.filter
 have dM:∀{i:Nat}{d:Ed},g.cj[i]?=some d->P (i+1)=P i++(if wk c.a d then[]else[d]):=λ{i d}hc=>by
  rw[<-hP];simp only[List.take_add_one,hc,Yq]
  congr 1
  cases hq:wk c.a d<;>simp[hq]
 have da:∀i,(P i).length<=g.cj.length:=λi=>by rw[<-hP];exact Yp (Xu _ _) (by simp;omega)
 have nh:=H.nl;clear hP;have mr:AV.tp [.ag (cl {g with cj:=pre++post}),(0:Int)]= .tp [.ag [dy g.nodes,.ls 5 (fV (P g.cj.length)) false,g.nn,g.ne],(0:Int)]:=by rw[tL];rfl
 rw[mr];simp[f147,dP,cl,dy,dz,cB,hk];have vh:∀(i:Nat),∀r∈fV (P i),r.length=5/\r.all eu=true:=λi r hr=>by obtain⟨a,_,rfl⟩:=Yk.1 hr;exact⟨rfl,rfl⟩
 refine ej (C:=cx) (G:=λr=>∃r0 h',dL _ (eX _ _ (du _ r) _)=some (r0,h')/\∃r',cD h' 8 r0=some r'/\xn r'=AV.tp [.ag [.ls 3 (f_ g.nodes) false,.ls 5 (fV (P g.cj.length)) false,g.nn,g.ne],(0:Int)])
  (λi s=>s.1.length=60/\gt s.1 3= .pt 0 0/\gt s.1 4= .pt 1 0/\gt s.1 6= .pt 3 0/\gt s.1 11= .sc (.int .i64 i)/\s.2[0]?=some (.row [.ls 3 (f_ g.nodes) false,.ls 5 (fV g.cj) false,g.nn,g.ne])/\s.2[1]?=some (.row (cB c))/\s.2[3]?=some (.row [(),(),(0:Int),(0:Int)])/\∃y,gt s.1 10=y/\gz s.2 5 (fV (P i)) y/\∀k n,y= .sl k 5 0 n false->3<k)
  (λo s=>o= .exit 0/\s.1.length=60/\gt s.1 3= .pt 0 0/\gt s.1 6= .pt 3 0/\s.2[0]?=some (.row [.ls 3 (f_ g.nodes) false,.ls 5 (fV g.cj) false,g.nn,g.ne])/\s.2[3]?=some (.row [(),(),(0:Int),(0:Int)])/\∃y,gt s.1 10=y/\gz s.2 5 (fV (P g.cj.length)) y/\∀k n,y= .sl k 5 0 n false->3<k) g.cj.length (by simp;omega) (by simp[h0,gz,fV,cB,hk]) ?_ ?_
 .rintro i fr h jw ⟨cf,e3,e4,e6,x8,b0,b1,b3,y,e9,hy,x9⟩;simp only at cf e3 e4 e6 x8 b0 b1 b3 e9 hy;have qF:3<h.length:=(Za.1 b3).1;by_cases hi:i<g.cj.length
  .obtain⟨d,hc⟩:=eA hi;have hr:(fV g.cj)[i]?=some [.sc (.int .i64 d.id),.sc (.int .i64 d.src),.sc (.int .i64 d.dst),.sc (.string d.type),eU d.props false]:=by rw[hg,hc];rfl
   have cz:=gA hr
   have hf:=cG (i:=i) (by omega);have dq:=dM hc;have zX:=da i;have rE:=vh i;generalize P i=p0 at dq zX hy rE;have q0:=kV (λv=>hy.np v)
   obtain⟨id,h2,a1,a2,a3,a4⟩:=kj (t:=24) nK rfl h [d.id,d.src,d.dst,d.type,eU d.props false] (fV p0) y hy rfl (λr hr=>(rE r hr).1) (by omega) (by rw[dD];omega) (by omega);have w0:=a3 0 _ b0 (λk n e=>by have:=x9 k n e;omega);have w1:=a3 1 _ b1 (λk n e=>by have:=x9 k n e;omega);have w3:=a3 3 _ b3 (λk n e=>by have:=x9 k n e;omega);have a5:=oy (sz:=5) a2;rw[dD]at a1 a5;have e7:fV p0++[[.sc (.int .i64 d.id),.sc (.int .i64 d.src),.sc (.int .i64 d.dst),.sc (.string d.type),eU d.props false]]=fV (p0++[d]):=by simp[fV,dP]
   rw[e7]at a5;simp only[cB]at b1 w1|-;by_cases heq:d.id=c.a
   .simp[cf,e3,e4,e6,e9,x8,dq,b0,b1,b3,hi,hq,cz,hf,heq,wk];exact⟨hy,x9⟩
   .simp[cf,e3,e4,e6,e9,x8,q0,dq,b0,b1,hi,hq,cz,hf,heq,wk,a1,w0,w1,w3];exact⟨a5,by omega⟩
  .have k_:i=g.cj.length:=by omega
   subst k_;simp[cf,e3,e6,e9,x8,b0,b3,hq];exact⟨hy,x9⟩
 .rintro o fr h hn ⟨rfl,cf,e3,e6,b0,b3,y,e9,hy,x9⟩;simp only at cf e3 e6 b0 b3 e9 hy;have qF:3<h.length:=(Za.1 b3).1;have q0:=kV (λv=>hy.np v)
  have dZ:cls y=some [y]:=by rcases hy with⟨_,rfl⟩|⟨_,id,rfl,_⟩<;>rfl
  unfold cls at dZ;have s0:∀B,(h.set 0 B)[0]?=some B:=λB=>Zj (by omega)
  have s3:∀B C,((h.set 0 B).set 3 C)[3]?=some C:=λB C=>Zj (by simp;omega)
  have gw:∀h2:Hp,(∀j,3<j->h2[j]?=h[j]?)->cD h2 6 y=some (dt 5 (fV (P g.cj.length))):=λh2 hj=>by
   refine fJ (by omega) (Au _).1 (Au _).2 ?_;rcases hy with hb|⟨eF,id,rfl,cZ⟩
   .exact .inl hb
   .exact .inr ⟨eF,id,rfl,by rw[hj id (x9 id _ rfl)];exact cZ⟩
  simp[cf,e3,e6,e9,q0,b0,b3,dZ,s0,s3];refine⟨_,_,⟨rfl,rfl⟩,_,TD (gw _ λj hj=>by simp[show¬0=j by omega,show¬3=j by omega]),?_⟩;simp only[xn,GI,uI,oA,rO,pC]
@[simp] def ae6 :cx.T 490=some {size:=3,agg:=true,zero:=[.int .i64 (0),.int .i64 (0),.int .i64 (0)],kd:= .struct [(0,1,false),(1,1,false),(2,1,false)]}:=by kernel_rfl
@[simp] def zi :cx.T 437=some {size:=1,agg:=false,zero:=[.slice none 0 0],kd:= .slice 3 true 24 [.int .i64 (0),.int .i64 (0),.int .i64 (0)]}:=by kernel_rfl
@[simp] def ako :lf cx 437=true:=by kernel_rfl
def OX(e:Ed)(x:Int):Int × Int × Int:=if e.src=x then(x,e.dst,e.id)else if e.dst=x then(x,e.src,e.id)else(0,0,0)
def mv(x:Int)(e:Ed):Bool:=decide (e.src=x)||decide (e.dst=x)
def lK(p:Int × Int × Int):LA:=[.sc (.int .i64 p.1),.sc (.int .i64 p.2.1),.sc (.int .i64 p.2.2)]
def TG(n:Nat)(b:Bool)(e:Ed)(x:Int)(h:Hp):ch cx (n+1) b 446 [.ag (dP e),x,(3:Int)] h=some (.tp [.ag (lK (OX e x)),.sc (.bool (mv x e))],h):=by
 refine tA (xs:=[.ag (lK (OX e x)),.sc (.bool (mv x e))]) f446 [.cell 6 3 true,.tmp 7] rfl rfl ?_ b h;by_cases h1:e.src=x
 .simp[f446,dP,h1,OX,mv,lK]
 .by_cases h2:e.dst=x
  .simp[f446,dP,h1,h2,OX,mv,lK]
  .simp[f446,dP,h1,h2,OX,mv,lK]
def Ft(n:Nat)(b:Bool)(e:Ed)(h:Hp):ch cx (n+1) b 447 [.ag (dP e),()] h=some ((true:AV),h):=by
 refine eR f447 [.tmp 4] rfl rfl ?_ b h;simp[f447,dP]
def HI :AV->Bool| .sc (.int .i64 _)=>true|_=>false
def Y1(cs:LA):Prop:=cs.all HI=true
def TH(h:Hp)(m:Nat)(y:AV):Prop:=(m=0/\y=())\/(0<m/\∃id cs,y= .sl id 3 0 m false/\h[id]?=some (.row cs)/\cs.length=m*3/\cs.all HI=true)
def KW{cs:LA}(h:cs.all HI=true){j:Nat}(hj:j<cs.length):∃v,cs[j]?=some (.sc (.int .i64 v)):=by
 have:=(Yt.1 h) _ (List.getElem_mem hj);rw[Zb hj]
 revert this
 cases cs[j]with
 |sc v=>cases v with
  |int k v=>cases k<;>simp[HI]
  |_=>simp[HI]
 |_=>simp[HI]
def TI{cs:LA}(h:cs.all HI=true):cs.all eu=true:=by
 rw[Yt]at h|-;intro x hx;have:=h x hx;cases x<;>simp[HI]at this<;>rfl
def TJ(h:Hp)(m:Nat)(y:AV)(p:Int × Int × Int)(hy:TH h m y)(hm:m<=100000):∃id h2 cs,ew cx (h++[.row (lK p)]) 437 y (.sl h.length 3 0 1 false)=some (.sl id 3 0 (m+1) false,h2)/\h2[id]?=some (.row cs)/\cs.length=(m+1)*3/\cs.all HI=true/\
 (∀j b,h[j]?=some b->(∀k n,y= .sl k 3 0 n false->j≠k)->h2[j]?=some b)/\h.length<=id:=by
 rcases hy with⟨rfl,rfl⟩|⟨tE,id,cs,rfl,cZ,cf,dN⟩
 .refine⟨_,_,lK p,Ak zi rfl h (lK p) rfl (by omega),?_,rfl,rfl,λj b hj _=>?_,by omega⟩
  .rw[show h++[eK.row (lK p),eK.row (lK p)]=(h++[eK.row (lK p)])++[eK.row (lK p)] by simp,Zf (by simp)];simp
  .have:=(Za.1 hj).1;rw[Zd this];exact hj
 .refine⟨_,_,cs++lK p,Al zi rfl h (lK p) cs id m cZ rfl cf (by omega) (by omega) (by omega),?_,by simp[lK,cf];omega,by rw[List.all_append,dN];rfl,λj b hj hjk=>?_,by omega⟩
  .rw[Zf (by simp)];simp
  .have mZ:=(Za.1 hj).1;have xk:j≠id:=hjk id _ rfl;rw[Zd (by simp;omega),Zq (λe=>xk e.symm),Zd mZ];exact hj
def rP{cs vs:LA}{off:Nat}(h:cs.all HI=true)(k:vs.all HI=true):(cn cs off vs).all HI=true:=by
 rw[Yt]at *;intro x hx;simp only[cn,Zz]at hx;rcases hx with(hx|hx)|hx
 .exact h x (List.mem_of_mem_take hx)
 .exact k x hx
 .exact h x (List.mem_of_mem_drop hx)
def afJ{cs:LA}(h:cs.all HI=true){k:Nat}(hk:k*3+3<=cs.length):∃a b c,(cs.drop (k*3)).take 3=[.sc (.int .i64 a),.sc (.int .i64 b),.sc (.int .i64 c)]/\cs[k*3+1]?=some (.sc (.int .i64 b))/\cs[k*3+2]?=some (.sc (.int .i64 c)):=by
 obtain⟨a,ha⟩:=KW h (j:=k*3) (by omega);obtain⟨b,hb⟩:=KW h (j:=k*3+1) (by omega);obtain⟨c,hc⟩:=KW h (j:=k*3+2) (by omega);refine⟨a,b,c,?_,hb,hc⟩;apply List.ext_getElem?;intro j;rw[Xn]
 match j with
 |0=>simp[Xo,ha]
 |1=>simp[Xo,hb]
 |2=>simp[Xo,hc]
 |j+3=>rw[cm (by omega)];rfl
def MS{call:Bool->FuncId->LA->Hp->Option (AV × Hp)}(Inv:Nat->St->Prop)(Q:Out->St->Prop)(k:Nat)(hk:k<cx.fuel)(X:Option (Out × St))(c:Code)(fr:LA)(h:Hp)(hX:cO cx call (.loop c) (fr,h)=X)(hI:Inv k (fr,h))(step:∀k fr h,Inv k (fr,h)->vU Inv Q k (cO cx call c (fr,h))):∃o gO h',X=some (o,(gO,h'))/\Q o (gO,h'):=by
 subst hX;exact nV (C:=cx) (G:=λr=>∃o gO h',r=some (o,(gO,h'))/\Q o (gO,h')) Inv Q k hk hI step (λo fr h _ hq=>⟨o,fr,h,rfl,hq⟩)
def OY(n:Nat)(g:Gr)(x:Int)(hl:g.cj.length<=100000):
 ∃r,(∃cg:List LA,cg.length=(g.cj.filter (mv x)).length/\(r= .ls 3 cg false\/(cg=[]/\r= .sc (.slice none 0 0))))/\∀b h,ch cx (n+2) b 372 [.ag (cl g),x,(),(3:Int)] h=some (r,h):=by
 refine gP (f:=372) (n:=n+1) (args:=[.ag (cl g),.sc (.int .i64 x),.sc (.slice none 0 0),.sc (.int .i64 3)]) (λr=>∃cg:List LA,cg.length=(g.cj.filter (mv x)).length/\(r= .ls 3 cg false\/(cg=[]/\r= .sc (.slice none 0 0)))) ⟨f372.ntmps,(f372.body).getD .skip,[.tmp 8]⟩ (by kernel_rfl) (by kernel_rfl) rfl (by kernel_rfl) (by simp[f372]) rfl ?_;have aa:=λb e h=>TG n b e x h
 have af:=λb e h=>Ft n b e h
 have hq:=dD g.cj;have hg:=jy g.cj;generalize hP:(λi=>((g.cj.take i).filter (mv x)).length)=P;have h0:P 0=0:=by rw[<-hP];rfl
 have tL:P g.cj.length=(g.cj.filter (mv x)).length:=by rw[<-hP];simp
 have dM:∀{i:Nat}{d:Ed},g.cj[i]?=some d->P (i+1)=P i+(if mv x d then 1 else 0):=λ{i d}hc=>by
  rw[<-hP];simp only[List.take_add_one,hc,Yq,Zu]
  congr 1
  cases hq:mv x d<;>simp[hq]
 have da:∀i,P i<=g.cj.length:=λi=>by rw[<-hP];exact Yp (Xu _ _) (by simp;omega)
 rw[<-tL];clear hP tL;simp only[dP]at aa af;unfold cl dz;generalize fV g.cj=cg at hq hg;generalize n+1=M at aa af;simp[f372];refine ej (C:=cx) (G:=λr=>∃r0 h',dL _ (eX _ _ (du _ r) _)=some (r0,h')/\∃r',cD h' 8 r0=some r'/\∃cg:List LA,cg.length=P g.cj.length/\(r'= .ls 3 cg false\/(cg=[]/\r'= .sc (.slice none 0 0))))
  (λi s=>s.1.length=100/\gt s.1 1=x/\gt s.1 2=()/\gt s.1 3=(3:Int)/\gt s.1 4= .pt 0 0/\gt s.1 10= .sc (.int .i64 i)/\s.2[0]?=some (.row [dy g.nodes,.ls 5 cg false,g.nn,g.ne])/\∃y,gt s.1 9=y/\TH s.2 (P i) y/\∀k n,y= .sl k 3 0 n false->0<k)
  (λo s=>o= .exit 0/\s.1.length=100/\∃y,gt s.1 9=y/\TH s.2 (P g.cj.length) y) g.cj.length (by simp;omega) (by simp[h0,TH]) ?_ ?_
 .rintro i fr h jw ⟨cf,e1,e2,e3,e4,x8,b0,y,e9,hy,hk0⟩;simp only at cf e1 e2 e3 e4 x8 b0 e9 hy;have qF:0<h.length:=(Za.1 b0).1;by_cases hi:i<g.cj.length
  .obtain⟨d,hc⟩:=eA hi;have hr:cg[i]?=some [.sc (.int .i64 d.id),.sc (.int .i64 d.src),.sc (.int .i64 d.dst),.sc (.string d.type),eU d.props false]:=by rw[hg,hc];rfl
   have cz:=gA hr
   have hf:=cG (i:=i) (by omega);have dq:=dM hc;have zX:=da i;have g1:=λb h=>aa b d h
   have g2:=λb h=>af b d h
   generalize P i=m at dq zX hy;generalize OX d x=p at g1;have q0:=kV (show∀v,y≠ .pn v from λv=>by rcases hy with⟨_,rfl⟩|⟨_,id,cs,rfl,_⟩<;>simp)
   have z0:∀A,(h++[A])[0]?=some (.row [dy g.nodes,.ls 5 cg false,g.nn,g.ne]):=λA=>by rw[Zd qF];exact b0
   have TK:∀A k,(h++[A])[0]'k= .row [dy g.nodes,.ls 5 cg false,g.nn,g.ne]:=λA k=>by
    have:=z0 A;rw[Zb k]at this;simpa using this
   have zs:∀A B,(h++[A]).set h.length B=h++[B]:=λA B=>by simp
   have Om:TH (h++[eK.row (lK p)]) m y:=by
    rcases hy with hy|⟨h1,id,cs,h2,h3,h4,h5⟩
    .exact .inl hy
    .exact .inr ⟨h1,id,cs,h2,by rw[Zd (Za.1 h3).1];exact h3,h4,h5⟩
   cases ht:mv x d
   .rw[ht]at g1;simp only[lK]at Om;simp[cf,e1,e2,e3,e4,e9,x8,b0,TK,zs,hi,hq,cz,hf,g1,dq,ht,lK];exact⟨Om,hk0⟩
   .rw[ht]at g1;obtain⟨id,h2,cs,a1,a2,a3,a4,a5,a6⟩:=TJ (h++[eK.row (lK p)]) m y p Om (by omega);simp only[lK]at a1 a5 a6 Om;have w0:=a5 0 _ (z0 _) (λk n e=>by have:=hk0 k n e;omega);have w1:=a5 h.length (.row [p.1,p.2.1,p.2.2]) (by simp) (λk n e=>by
     rcases hy with⟨_,rfl⟩|⟨_,id',cs',rfl,h3,_⟩
     .cases e
     .simp only[AV.sl.injEq]at e;have:=(Za.1 h3).1;omega)
    have afK:(h++[eK.row [AV.sc (.int .i64 p.1),AV.sc (.int .i64 p.2.1),AV.sc (.int .i64 p.2.2)]]).length=h.length+1:=by simp
    rw[afK]at a1 a6;have Av:ew cx (h++[eK.row [AV.sc (.int .i64 p.1),AV.sc (.int .i64 p.2.1),AV.sc (.int .i64 p.2.2)],eK.row [AV.sc (.int .i64 p.1),AV.sc (.int .i64 p.2.1),AV.sc (.int .i64 p.2.2)]]) 437 y (.sl (h.length+1) 3 0 1 false)=some (.sl id 3 0 (m+1) false,h2):=by simpa using a1
    have hnh:id≠h.length:=by omega
    have WZ:id≠0:=by omega
    have hpm:m<=100000:=by omega
    rcases hy with⟨zQ,rfl⟩|⟨tE,id0,XY,rfl,sP,Y2,hci0⟩
    .simp[cf,e1,e2,e3,e4,e9,x8,b0,TK,zs,hi,hq,cz,g1,g2,lK,Av];generalize hX:M (Code.loop _) _=X;obtain⟨o,kH,h1,rfl,rfl,q0,q1,q2,q3,q4,q9,Fu,yv,c0,c1,k,yw,hkm,OZ,c2,c3,c4⟩:=MS (call:=ch cx M)
      (λk s=>s.1.length=100/\gt s.1 1=x/\gt s.1 2=()/\gt s.1 3=(3:Int)/\gt s.1 4= .pt 0 0/\gt s.1 9= .sl id 3 0 (m+1) false/\gt s.1 10= .sc (.int .i64 i)/\gt s.1 11= .pt h.length 0/\gt s.1 13= .sc (.int .i64 k)/\k<=m/\s.2[0]?=some (.row [dy g.nodes,.ls 5 cg false,g.nn,g.ne])/\s.2[h.length]?=some (.row [p.1,p.2.1,p.2.2])/\∃cs,s.2[id]?=some (.row cs)/\cs.length=(m+1)*3/\Y1 cs)
      (λo s=>o= .exit 2/\s.1.length=100/\gt s.1 1=x/\gt s.1 2=()/\gt s.1 3=(3:Int)/\gt s.1 4= .pt 0 0/\gt s.1 9= .sl id 3 0 (m+1) false/\gt s.1 10= .sc (.int .i64 i)/\gt s.1 11= .pt h.length 0/\s.2[0]?=some (.row [dy g.nodes,.ls 5 cg false,g.nn,g.ne])/\s.2[h.length]?=some (.row [p.1,p.2.1,p.2.2])/\∃k:Nat,gt s.1 13= .sc (.int .i64 k)/\k<=m/\∃cs,s.2[id]?=some (.row cs)/\cs.length=(m+1)*3/\Y1 cs) m (by simp;omega) X _ _ _ hX (by simp[cf,e1,e2,e3,e4,x8,w0,w1,a2,a3,zQ];exact a4) (by
       rintro k kH h1 ⟨q0,q1,q2,q3,q4,q9,Fu,yv,yw,hkm,c0,c1,OZ,c2,c3,c4⟩;simp only at q0 q1 q2 q3 q4 q9 Fu yv yw c0 c1 c2;rcases Nat.eq_zero_or_pos k with rfl|hkp
       .simp[q0,q1,q2,q3,q4,q9,Fu,yv,yw,c0,c1,c2];exact⟨0,rfl,by omega,c3,c4⟩
       .obtain⟨k',rfl⟩:∃k',k=k'+1:=⟨k-1,by omega⟩;obtain⟨va,vb,vc,r1,r2,r3⟩:=afJ c4 (k:=k') (by omega);have ek:cS .i64 (k':Int)=k':=cu (by omega) (by omega);have ie:k'<m+1:=by omega
        have hz:(0:Int)<=(k':Int)+1:=by omega
        have TL:k'+1<m+1:=by omega
        have x9:k'*3+3<=OZ.length:=by omega
        have hk4:(k'+1)*3+3<=OZ.length:=by omega
        have st:∀B,(h1.set id B)[0]?=h1[0]?/\(h1.set id B)[h.length]?=h1[h.length]?/\(h1.set id B)[id]?=some B:=λB=>⟨Zq WZ,Zq hnh,Zj (Za.1 c2).1⟩
        have tq:(cn OZ ((k'+1)*3) [va,vb,vc]).length=(m+1)*3:=by rw[jO (by simp;omega)];exact c3
        have zj:=rP (off:=(k'+1)*3) c4 (show[AV.sc (.int .i64 va),.sc (.int .i64 vb),.sc (.int .i64 vc)].all HI=true from rfl);by_cases k1:p.2.1<vb
        .simp[q0,q1,q2,q3,q4,q9,Fu,yv,yw,c0,c1,c2,r1,r2,ek,ie,TL,x9,hk4,k1,st,hz];exact⟨k',by omega,rfl,by omega,by omega,by unfold cn at zj;rw[Zp]at zj;exact zj⟩
        .by_cases k2:p.2.1=vb
         .by_cases k3:p.2.2<vc
          .simp[q0,q1,q2,q3,q4,q9,Fu,yv,yw,c0,c1,c2,r1,r2,r3,ek,ie,TL,x9,hk4,k2,k3,st,hz];exact⟨k',by omega,rfl,by omega,by omega,by unfold cn at zj;rw[Zp]at zj;exact zj⟩
          .simp[q0,q1,q2,q3,q4,q9,Fu,yv,yw,c0,c1,c2,r2,r3,ek,ie,k2,k3];exact⟨k'+1,by omega,by omega,c3,c4⟩
         .simp[q0,q1,q2,q3,q4,q9,Fu,yv,yw,c0,c1,c2,r2,ek,ie,k1,k2];exact⟨k'+1,by omega,by omega,c3,c4⟩)
     simp only at q0 q1 q2 q3 q4 q9 Fu yv yw c0 c1 c2;have x9:k*3+3<=OZ.length:=by omega
     have ie:k<m+1:=by omega
     have st:∀B,(h1.set id B)[0]?=h1[0]?/\(h1.set id B)[h.length]?=h1[h.length]?/\(h1.set id B)[id]?=some B:=λB=>⟨Zq WZ,Zq hnh,Zj (Za.1 c2).1⟩
     have zj:=rP (off:=k*3) c4 (show(lK p).all HI=true from rfl);have wm:(cn OZ (k*3) (lK p)).length=(m+1)*3:=by rw[jO (by simp[lK];omega)];exact c3
     simp only[cn,lK,Zp]at zj wm;simp[q0,q1,q2,q3,q4,q9,Fu,yv,yw,c0,c1,c2,ie,x9,dq,ht,hf,hi,st];exact⟨.inr ⟨by omega,id,_,rfl,(st _).2.2,wm,zj⟩,by omega⟩
    .simp[cf,e1,e2,e3,e4,e9,x8,b0,TK,zs,hi,hq,cz,g1,g2,lK,Av];generalize hX:M (Code.loop _) _=X;obtain⟨o,kH,h1,rfl,rfl,q0,q1,q2,q3,q4,q9,Fu,yv,c0,c1,k,yw,hkm,OZ,c2,c3,c4⟩:=MS (call:=ch cx M)
      (λk s=>s.1.length=100/\gt s.1 1=x/\gt s.1 2=()/\gt s.1 3=(3:Int)/\gt s.1 4= .pt 0 0/\gt s.1 9= .sl id 3 0 (m+1) false/\gt s.1 10= .sc (.int .i64 i)/\gt s.1 11= .pt h.length 0/\gt s.1 13= .sc (.int .i64 k)/\k<=m/\s.2[0]?=some (.row [dy g.nodes,.ls 5 cg false,g.nn,g.ne])/\s.2[h.length]?=some (.row [p.1,p.2.1,p.2.2])/\∃cs,s.2[id]?=some (.row cs)/\cs.length=(m+1)*3/\Y1 cs)
      (λo s=>o= .exit 2/\s.1.length=100/\gt s.1 1=x/\gt s.1 2=()/\gt s.1 3=(3:Int)/\gt s.1 4= .pt 0 0/\gt s.1 9= .sl id 3 0 (m+1) false/\gt s.1 10= .sc (.int .i64 i)/\gt s.1 11= .pt h.length 0/\s.2[0]?=some (.row [dy g.nodes,.ls 5 cg false,g.nn,g.ne])/\s.2[h.length]?=some (.row [p.1,p.2.1,p.2.2])/\∃k:Nat,gt s.1 13= .sc (.int .i64 k)/\k<=m/\∃cs,s.2[id]?=some (.row cs)/\cs.length=(m+1)*3/\Y1 cs) m (by simp;omega) X _ _ _ hX (by simp[cf,e1,e2,e3,e4,x8,w0,w1,a2,a3];exact a4) (by
       rintro k kH h1 ⟨q0,q1,q2,q3,q4,q9,Fu,yv,yw,hkm,c0,c1,OZ,c2,c3,c4⟩;simp only at q0 q1 q2 q3 q4 q9 Fu yv yw c0 c1 c2;rcases Nat.eq_zero_or_pos k with rfl|hkp
       .simp[q0,q1,q2,q3,q4,q9,Fu,yv,yw,c0,c1,c2];exact⟨0,rfl,by omega,c3,c4⟩
       .obtain⟨k',rfl⟩:∃k',k=k'+1:=⟨k-1,by omega⟩;obtain⟨va,vb,vc,r1,r2,r3⟩:=afJ c4 (k:=k') (by omega);have ek:cS .i64 (k':Int)=k':=cu (by omega) (by omega);have ie:k'<m+1:=by omega
        have hz:(0:Int)<=(k':Int)+1:=by omega
        have TL:k'+1<m+1:=by omega
        have x9:k'*3+3<=OZ.length:=by omega
        have hk4:(k'+1)*3+3<=OZ.length:=by omega
        have st:∀B,(h1.set id B)[0]?=h1[0]?/\(h1.set id B)[h.length]?=h1[h.length]?/\(h1.set id B)[id]?=some B:=λB=>⟨Zq WZ,Zq hnh,Zj (Za.1 c2).1⟩
        have tq:(cn OZ ((k'+1)*3) [va,vb,vc]).length=(m+1)*3:=by rw[jO (by simp;omega)];exact c3
        have zj:=rP (off:=(k'+1)*3) c4 (show[AV.sc (.int .i64 va),.sc (.int .i64 vb),.sc (.int .i64 vc)].all HI=true from rfl);by_cases k1:p.2.1<vb
        .simp[q0,q1,q2,q3,q4,q9,Fu,yv,yw,c0,c1,c2,r1,r2,ek,ie,TL,x9,hk4,k1,st,hz];exact⟨k',by omega,rfl,by omega,by omega,by unfold cn at zj;rw[Zp]at zj;exact zj⟩
        .by_cases k2:p.2.1=vb
         .by_cases k3:p.2.2<vc
          .simp[q0,q1,q2,q3,q4,q9,Fu,yv,yw,c0,c1,c2,r1,r2,r3,ek,ie,TL,x9,hk4,k2,k3,st,hz];exact⟨k',by omega,rfl,by omega,by omega,by unfold cn at zj;rw[Zp]at zj;exact zj⟩
          .simp[q0,q1,q2,q3,q4,q9,Fu,yv,yw,c0,c1,c2,r2,r3,ek,ie,k2,k3];exact⟨k'+1,by omega,by omega,c3,c4⟩
         .simp[q0,q1,q2,q3,q4,q9,Fu,yv,yw,c0,c1,c2,r2,ek,ie,k1,k2];exact⟨k'+1,by omega,by omega,c3,c4⟩)
     simp only at q0 q1 q2 q3 q4 q9 Fu yv yw c0 c1 c2;have x9:k*3+3<=OZ.length:=by omega
     have ie:k<m+1:=by omega
     have st:∀B,(h1.set id B)[0]?=h1[0]?/\(h1.set id B)[h.length]?=h1[h.length]?/\(h1.set id B)[id]?=some B:=λB=>⟨Zq WZ,Zq hnh,Zj (Za.1 c2).1⟩
     have zj:=rP (off:=k*3) c4 (show(lK p).all HI=true from rfl);have wm:(cn OZ (k*3) (lK p)).length=(m+1)*3:=by rw[jO (by simp[lK];omega)];exact c3
     simp only[cn,lK,Zp]at zj wm;simp[q0,q1,q2,q3,q4,q9,Fu,yv,yw,c0,c1,c2,ie,x9,dq,ht,hf,hi,st];exact⟨.inr ⟨by omega,id,_,rfl,(st _).2.2,wm,zj⟩,by omega⟩
  .have k_:i=g.cj.length:=by omega
   subst k_;simp[cf,e4,e9,x8,b0,hq];exact hy
 .rintro o fr h hn ⟨rfl,cf,y,e9,hy⟩;simp only at cf e9 hy;rcases hy with⟨zQ,rfl⟩|⟨tE,id,cs,rfl,cZ,dZ,R9⟩
  .simp[cf,e9];exact gq ⟨_,rfl,[],by simp[zQ],.inr ⟨rfl,rfl⟩⟩
  .simp[cf,e9];refine⟨_,_,⟨rfl,rfl⟩,.ls 3 ((List.range (P g.cj.length)).map λi=>(cs.drop (i*3)).take 3) false,?_,_,by simp,.inl rfl⟩;simp only[cD,qC cZ,Xs,Yi];rw[cq (by omega),Xa (by omega),rN (TI R9)];rfl
def TM(n:Nat)(b:Bool)(g:Gr)(x:Int)(h:Hp)(hl:g.cj.length<=100000):ch cx (n+3) b 252 [.ag (cl g),x] h=some (.sc (.bool (g.cj.any (mv x))),h):=by
 refine eR f252 [.tmp 4] (Bn _ _) rfl ?_ b h;obtain⟨r,⟨cg,h1,h2⟩,aa⟩:=OY n g x hl;have aiY:g.cj.any (mv x)=decide (0<cg.length):=by
  rw[h1,Bool.eq_iff_iff,decide_eq_true_iff,List.length_pos_iff,List.any_eq_true];constructor
  .rintro⟨e,he,ht⟩ hn;have:=List.mem_filter.2 ⟨he,ht⟩;rw[hn]at this;cases this
  .intro hn;obtain⟨e,he⟩:=List.exists_mem_of_ne_nil _ hn;exact⟨e,(List.mem_filter.1 he).1,(List.mem_filter.1 he).2⟩
 simp only[cl]at aa;generalize n+2=M at aa;rw[aiY];rcases h2 with rfl|⟨rfl,rfl⟩
 .simp[f252,cl,aa]
 .simp[f252,cl,aa]
end
end Go.Proofs.YtmfohnojaginjaaGreatDoor
