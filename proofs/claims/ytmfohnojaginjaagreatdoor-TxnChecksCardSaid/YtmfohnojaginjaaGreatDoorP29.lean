/- Part of the proof. -/
import Derived.Test.YtmfohnojaginjaaGreatDoorP28
set_option linter.all false
set_option maxHeartbeats 16000000
set_option maxRecDepth 100000
namespace Go.Proofs.YtmfohnojaginjaaGreatDoor
open Go Go.Ae Go.Proofs.Tryz
section
attribute [local simp] cn eD
def lE{x:Hi}(h:gu x=0):0<=x.b/\x.b<=1000000000000000/\dQ x.g=0/\x.l.length<=1000/\(dF x.g x.l).2=0:=by
 unfold gu at h;split at h
 .cases h
 .rename_i h1;split at h
  .rename_i h2;exact absurd h h2
  .rename_i h2;split at h
   .cases h
   .rename_i h3;split at h
    .exact⟨by omega,by omega,Classical.not_not.1 h2,by omega,h⟩
    .cases h
def l6(x:Hi)(ts:Int):Int:=if¬gu x=0 then gu x else if ts<x.b\/x.b+(x.l.length:Int)<ts then 23 else 0
def vL(x:Hi):Int:=if gu x=0 then x.b+(x.l.length:Int)else 0
def ue(x:Hi)(ts:Int):Gr × Int:=if¬l6 x ts=0 then(fq,l6 x ts)else((dF x.g (x.l.take (ts-x.b).toNat)).1,0)
def pJ{l:List Cm}:∀{g:Gr}(k:Nat),(dF g l).2=0->(dF g (l.take k)).2=0:=by
 induction l with
 |nil=>intro g k _;rw[List.take_nil];rfl
 |cons c l ih=>
  intro g k h;cases k with
  |zero=>rfl
  |succ k=>
   rw[Yg,dF];rw[dF]at h;split at h
   .rename_i e;rw[cq e];exact ih k h
   .rename_i e;exact absurd h e
def aah(N D:Nat)(b:Bool)(x:Hi)(ts:Int)(h:Hp)(hx:Lv D x):
 ch cx (N+2*D+15) b 86 [oV x,ts] h=some (.sc (.int .i64 (l6 x ts)),h):=by
 refine eR (n:=N+2*D+14) f86 [.tmp 4] rfl rfl ?_ b h;have aa:=λbb h=>FR N D bb x h hx
 have af:=λbb h=>UR (N+2*D+13) bb x h
 rw[show N+2*D+13+1=N+2*D+14 from rfl]at af;generalize N+2*D+14=M at aa af|-;unfold l6;by_cases h0:gu x=0
 .obtain⟨b1,b2,_,b3,_⟩:=lE h0;rw[cm (by simp[h0])];rw[h0]at aa;rw[cu (show-9223372036854775808<=x.b+(x.l.length:Int) by omega) (by omega)]at af;clear h0 hx;obtain⟨bs,g,l⟩:=x;unfold oV iz at *;simp only[cl,dy,dz,Zv,Zw]at *;generalize(l.length:Int)=m at *;by_cases c1:ts<bs
  .simp[f86,aa,c1]
  .by_cases c2:bs+m<ts
   .simp[f86,aa,af,c1,c2]
   .simp[f86,aa,af,c1,c2]
 .rw[cq h0];generalize gu x=e at h0 aa|-;obtain⟨bs,g,l⟩:=x;unfold oV iz at *;simp only[cl,dy,dz,Zv,Zw]at *;simp[f86,aa,h0]
def adL(N D:Nat)(b:Bool)(x:Hi)(h:Hp)(hx:Lv D x):
 ch cx (N+2*D+15) b 19 [oV x] h=some (.sc (.int .i64 (vL x)),h):=by
 refine eR (n:=N+2*D+14) f19 [.tmp 2] rfl rfl ?_ b h;have aa:=λbb h=>FR N D bb x h hx
 have af:=λbb h=>UR (N+2*D+13) bb x h
 rw[show N+2*D+13+1=N+2*D+14 from rfl]at af;generalize N+2*D+14=M at aa af|-;unfold vL;by_cases h0:gu x=0
 .obtain⟨b1,b2,_,b3,_⟩:=lE h0;rw[cq h0];rw[h0]at aa;rw[cu (show-9223372036854775808<=x.b+(x.l.length:Int) by omega) (by omega)]at af;clear h0 hx;obtain⟨bs,g,l⟩:=x;unfold oV iz at *;simp only[cl,dy,dz,Zv,Zw]at *;generalize(l.length:Int)=m at *;simp[f19,aa,af]
 .rw[cm h0];generalize gu x=e at h0 aa|-;obtain⟨bs,g,l⟩:=x;unfold oV iz at *;simp only[cl,dy,dz,Zv,Zw]at *;simp[f19,aa,h0]
def U7(n:Nat)(b:Bool)(g:Gr)(h:Hp):ch cx (n+1) b 54 [.ag (cl g),()] h=some (.tp [.ag (cl g),(0:Int)],h):=by
 refine nA f54 [.cell 4 4 true,.tmp 5] rfl ?_ b h;generalize hT:AV.tp [.ag (cl g),(0:Int)]=T;simp[f54,cl,dy,dz];generalize gU:n (.loop _) _=XX;refine pU gU
  (λi s dn=>s.length=32/\gt s 2= .pt 0 0/\gt s 4= .pt 1 0/\gt s 12=(0:Int)/\gt s 13=(0:Int)/\At dn 1 (.row qT)/\At dn 0 (.row (cl g)))
  (λo s dn=>o= .exit 0/\s.length=32/\gt s 2= .pt 0 0/\gt s 4= .pt 1 0/\At dn 1 (.row qT)/\At dn 0 (.row (cl g))) 0 (by simp) ⟨by simp,by simp,by simp,by simp,by simp,rfl,rfl⟩ ?_ ?_
 .clear gU XX;rintro i fr hp da ⟨cf,g2,g4,g12,g13,eo,db⟩;simp[cf,g2,g4,g12,g13];exact⟨eo,db⟩
 .rintro o gO h' rfl ⟨rfl,cf,g2,g4,eo,db⟩;have a0:=db.fh;have a1:=eo.fh;have s1:∀y,(h'.set 1 y)[1]?=some y:=λy=>(eo.new y).fh
  simp only[cl,dy,dz,qT]at a0 a1;simp[cf,g2,g4,a0,a1,s1];exact gq ⟨_,rfl,by rw[<-hT];exact r8 g _⟩
noncomputable def ab0(u v:AV):Option AV:=j_ cx (λo=>match o with| .tmp 0=>u| .tmp _=>v|_=> .un) {dst:=none,op:= .slice 27 (.tmp 0) none (some (.tmp 1)) none,type:=0,pos:= "",after:= #[],guard:=none}
def U8(fr:LA)(d:Option Tmp)(x y:Tmp)(ty:TypeId)(p:String)(a:Array Edge)(g:Option (Nat × Bool)):j_ cx (ev cx fr) {dst:=d,op:= .slice 27 (.tmp x) none (some (.tmp y)) none,type:=ty,pos:=p,after:=a,guard:=g}=ab0 (gt fr x) (gt fr y):=rfl
def U9 :ab0 (.sc (.slice none 0 0)) (.sc (.int .i64 0))=some (.sc (.slice none 0 0)):=by kernel_rfl
def af0(N D:Nat)(b:Bool)(x:Hi)(ts:Int)(h:Hp)(hx:Lv D x):
 ch cx (N+2*D+16) b 49 [oV x,ts] h=some (.tp [.ag (cl (ue x ts).1),.sc (.int .i64 (ue x ts).2)],h):=by
 refine nA (n:=N+2*D+15) f49 [.cell 4 4 true,.tmp 5] rfl ?_ b h;have aa:=λbb h=>aah N D bb x ts h hx
 unfold ue;by_cases h0:l6 x ts=0
 rotate_left
 .rw[cq h0];generalize l6 x ts=e at h0 aa|-;generalize N+2*D+15=M at aa|-;obtain⟨bs,g,l⟩:=x;unfold oV iz at *;simp only[cl,dy,dz,Zv,Zw]at *;simp[f49,aa,h0];exact gq ⟨_,rfl,rfl⟩
 .rw[cm (by simp[h0])];have hc:=h0;unfold l6 at hc;split at hc
  .rename_i e;exact absurd hc e
  rename_i e;have he:gu x=0:=Classical.not_not.1 e;split at hc
  .cases hc
  rename_i Nx;obtain⟨b1,b2,b4,b3,b5⟩:=lE he;rw[h0]at aa;have af:=λbb h=>UT (N+2) D bb x h hx b4
  rw[show N+2+2*D+13=N+2*D+15 by omega]at af;have hz:=pJ (k:=(ts-x.b).toNat) b5;have ah:=λbb h=>Na (N+2) D bb x.g (x.l.take (ts-x.b).toNat) false h hx.g (by have:=hx.l;rw[Xf];omega) (λc hc=>hx.c c (List.mem_of_mem_take hc))
  rw[show N+2+2*D+13=N+2*D+15 by omega]at ah;rw[hz]at ah;have ai:=λbb h=>U7 (N+2*D+14) bb x.g h
  rw[show N+2*D+14+1=N+2*D+15 from rfl]at ai;have hm:oU (x.l.take (ts-x.b).toNat)=(oU x.l).take (ts-x.b).toNat:=by simp[oU]
  rw[hm]at ah;have hq:=gl x.l;have pW:cS .i64 (ts-x.b)=(((ts-x.b).toNat:Nat):Int):=by rw[cu (by omega) (by omega)];omega
  have hk:(ts-x.b).toNat<=x.l.length:=by clear pW;omega
  have hk0:x.l=[]->(ts-x.b).toNat=0:=λq=>by rw[q]at hk;clear pW;simpa using hk
  generalize(ts-x.b).toNat=k at *;generalize N+2*D+15=M at aa af ah ai|-;clear Nx hz hm hx e he h0 hc b5;obtain⟨bs,g,l⟩:=x;generalize hT:AV.tp [.ag (cl (dF g (l.take k)).1),(0:Int)]=T;unfold oV iz at *;simp only[cl,dy,dz,Zv,Zw]at *;by_cases pg:l=[]
  .have ajb:=hk0 pg;subst ajb;subst pg;simp only[oU,Xw,dt,Qc,if_true]at aa af|-;simp[f49,aa,af,ai,pW,U8,U9];exact gq ⟨_,rfl,by rw[<-hT];exact r8 g _⟩
  .have eF:(oU l).isEmpty=false:=by cases l with|nil=>exact absurd rfl pg|cons c l=>rfl
   simp only[dt,eF,Ys,if_false]at af;generalize(dF g (l.take k)).1=G,oU l=cg at *;simp[f49,aa,af,ah,pW,hq,hk,rC,ig];exact gq ⟨_,rfl,by rw[<-hT];exact r8 G _⟩
def LD(N D:Nat)(b:Bool)(x:Hi)(ts:Int)(h:Hp)(hx:Lv D x):
 ch cx (N+3*D+13) b 89 [oV x,ts] h=some (.sc (.int .i64 (l6 x ts)),h):=by
 refine eR (n:=N+3*D+12) f89 [.tmp 4] rfl rfl ?_ b h;have aa:=λbb h=>yN N D bb x h hx
 have af:=λbb h=>II (N+3*D+11) bb x h
 rw[show N+3*D+11+1=N+3*D+12 from rfl]at af;generalize N+3*D+12=M at aa af|-;unfold l6;by_cases h0:gu x=0
 .obtain⟨b1,b2,_,b3,_⟩:=lE h0;rw[cm (by simp[h0])];rw[h0]at aa;rw[cu (show-9223372036854775808<=x.b+(x.l.length:Int) by omega) (by omega)]at af;clear h0 hx;obtain⟨bs,g,l⟩:=x;unfold oV iz at *;simp only[cl,dy,dz,Zv,Zw]at *;generalize(l.length:Int)=m at *;by_cases c1:ts<bs
  .simp[f89,aa,c1]
  .by_cases c2:bs+m<ts
   .simp[f89,aa,af,c1,c2]
   .simp[f89,aa,af,c1,c2]
 .rw[cq h0];generalize gu x=e at h0 aa|-;obtain⟨bs,g,l⟩:=x;unfold oV iz at *;simp only[cl,dy,dz,Zv,Zw]at *;simp[f89,aa,h0]
def U_(N D:Nat)(b:Bool)(x:Hi)(h:Hp)(hx:Lv D x):
 ch cx (N+3*D+13) b 64 [oV x] h=some (.sc (.int .i64 (vL x)),h):=by
 refine eR (n:=N+3*D+12) f64 [.tmp 2] rfl rfl ?_ b h;have aa:=λbb h=>yN N D bb x h hx
 have af:=λbb h=>II (N+3*D+11) bb x h
 rw[show N+3*D+11+1=N+3*D+12 from rfl]at af;generalize N+3*D+12=M at aa af|-;unfold vL;by_cases h0:gu x=0
 .obtain⟨b1,b2,_,b3,_⟩:=lE h0;rw[cq h0];rw[h0]at aa;rw[cu (show-9223372036854775808<=x.b+(x.l.length:Int) by omega) (by omega)]at af;clear h0 hx;obtain⟨bs,g,l⟩:=x;unfold oV iz at *;simp only[cl,dy,dz,Zv,Zw]at *;generalize(l.length:Int)=m at *;simp[f64,aa,af]
 .rw[cm h0];generalize gu x=e at h0 aa|-;obtain⟨bs,g,l⟩:=x;unfold oV iz at *;simp only[cl,dy,dz,Zv,Zw]at *;simp[f64,aa,h0]
def Em{D:Nat}{l:List Cm}{g:Gr}(hg:qw D g)(hc:CmB D l)(h0:(dF g l).2=0):qw D (dF g l).1:=by
 cases l with
 |nil=>exact hg
 |cons c l=>
  rw[dF]at h0|-;split at h0
  .rename_i e;rw[cq e];exact(zt (qS hg (hc c (by simp)) e) (λx hx=>hc x (by simp[hx])) h0).gr
  .rename_i e;exact absurd h0 e
def zu(c:Cm):∀(l:List Cm)(g:Gr),(dF g (l++[c])).2=0->(jE (dF g l).1 c.cs).2.2=0/\(dF g (l++[c])).1=(jE (dF g l).1 c.cs).1
 |
  [],g,h=>by
  rw[Zw,dF]at h|-;split at h
  .rename_i e;rw[cq e];exact⟨e,rfl⟩
  .rename_i e;exact absurd h e
 |
  d::l,g,h=>by
  have he:(jE g d.cs).2.2=0:=by
   rw[Zv,dF]at h;split at h
   .assumption
   .rename_i e;exact absurd h e
  have hc:∀m,dF g (d::m)=dF (jE g d.cs).1 m:=λm=>by rw[dF,cq he]
  rw[Zv,hc]at h|-;rw[hc];exact zu c l _ h
def adM(N D:Nat)(b:Bool)(x:Hi)(n:Nat)(h:Hp)(hx:Lv D x)(vH:XC x.g)(hn:n<=x.l.length)(h0:(dF x.g x.l).2=0):
 ch cx (N+3*D+12) b 90 [oV x,n] h=some (.ag (cl (dF x.g (x.l.take n)).1),h):=by
 refine qR (n:=N+3*D+11) (args:=[oV x,.sc (.int .i64 (n:Nat))]) (λi=>i==5) (.ag (cl (dF x.g (x.l.take n)).1)) ⟨f90.ntmps,(f90.body).getD .skip,[.cell 4 4 true]⟩ (by kernel_rfl) (by kernel_rfl) rfl (by kernel_rfl) (by simp[f90]) rfl ?_ (by decide) b h;have fc:=λbb h=>U5 (N+3*D+7) bb x.g h vH
 rw[show N+3*D+7+4=N+3*D+11 from rfl]at fc;have fa:=λ(g:Gr)(cs:List Ch)z bb h hg hc=>Nw N D bb g cs z h hg hc
 obtain⟨hgb,hl,Bo,Nx⟩:=hx;generalize N+3*D+11=M at fc fa|-;obtain⟨bs,g,l⟩:=x;unfold oV iz;simp only at fc hl hgb Bo Nx hn h0|-;have hq:=gl l;have jc:=uW l;have AG:=xI l;generalize oU l=cg at hq jc AG|-;simp only[cl,dy,dz]at fc;generalize hT:AV.ag (cl (dF g (l.take n)).1)=T,fG:[AV.sc (.int .i64 bs),.ls 3 (f_ g.nodes) false,.ls 5 (fV g.cj) false,.sc (.int .i64 g.nn),.sc (.int .i64 g.ne),.ls 2 cg false]=row;simp[f90,cl,dy,dz,fc];generalize gU:eE cx (ch cx M) _ (.loop _) (_,_)=XX;refine LB gU
  (λi s=>s.1.length=32/\gt s.1 1=n/\gt s.1 2= .pt 0 0/\gt s.1 4= .pt 1 0/\gt s.1 5= .pt 2 0/\gt s.1 6=i/\At s.2 0 (.row row)/\At s.2 1 (.row qT)/\At s.2 2 (.row (cl (dF g (l.take i)).1)))
  (λo s=>o= .exit 0/\s.1.length=32/\gt s.1 4= .pt 1 0/\gt s.1 5= .pt 2 0/\At s.2 1 (.row qT)/\At s.2 2 (.row (cl (dF g (l.take n)).1))) n (by simp;omega) ⟨by simp,by simp,by simp,by simp,by simp,by simp,by rw[<-fG];rfl,rfl,rfl⟩ ?_ ?_
 .clear gU XX hT;rintro i fr hp da ⟨cf,g1,g2,g4,g5,g6,db,eo,pI⟩;simp only at cf g1 g2 g4 g5 g6 db eo pI;have a0:=db.fh;have a2:=pI.fh;have l2:=pI.lt;have uV:∀y,(hp++y)[0]?=some (.row row):=λy=>(db.app y).fh
  have aqq:∀y k,(hp++y)[0]'k= .row row:=λy k=>(db.app y).get k
  have jH:∀k,hp[0]'k= .row row:=λk=>db.get k
  have Nl:∀y,(hp++y)[2]?=some (.row (cl (dF g (l.take i)).1)):=λy=>(pI.app y).fh
  have aq:∀y k,(hp++y)[2]'k= .row (cl (dF g (l.take i)).1):=λy k=>(pI.app y).get k
  have an:∀y,(hp++[y])[hp.length]?=some y:=λy=>by simp
  rw[<-fG]at a0 uV jH aqq;by_cases oZ:i<n
  .obtain⟨c,hi,hx,hr,cz⟩:∃c,i<l.length/\l[i]?=some c/\cg[i]?=some (jM c)/\∀k,cg[i]'k=jM c:=by
    obtain⟨c,q1,q2,q3⟩:=kT jc (Yo oZ hn);exact⟨c,Yo oZ hn,q1,q2,q3⟩
   have hz:=pJ (k:=i+1) h0;have hzi:=pJ (k:=i) h0;have hgi:=Em hgb (λc hc=>Bo c (List.mem_of_mem_take hc)) hzi;have ajc:=Bo c (Zi hx);have Nx:=jk hx;rw[Nx]at hz;obtain⟨e1,e2⟩:=zu c _ _ hz;rw[<-Nx]at e2;have fa:=λbb h=>fa _ c.cs false bb h hgi ajc
   have hf:=cG (i:=i) (Yp (Nat.le_of_lt hi) (Yp hl (by decide)));have hec:=AF c.cs;rw[e1]at fa;clear e1 hz hzi hgi Nx;generalize hA:(dF g (l.take i)).1=gi at fa e2 a2 Nl aq pI;generalize jE gi c.cs=r at fa e2;obtain⟨G,k,e⟩:=r;dsimp only at fa e2;simp only[cl,dy,dz]at fa a2 Nl aq;simp[cf,g1,g6,oZ];rw[mX [(0,13),(2,13),(6,13),(7,13)] ?_ ?_]
   rotate_left
   .kernel_rfl
   .kernel_rfl
   simp(maxSteps:=1000000) [xC,cf,g1,g2,g4,g5,g6,hi,oZ,hq,cz,jM,hf,fa,a0,a2,Nl,aqq,fH,gY,Ae.nU,nO,nP,AG,hec];rw[e2];exact⟨(db.app _).set (by decide) _,(eo.app _).set (by decide) _,(pI.app _).new _⟩
  .have:i=n:=Nat.le_antisymm da (Ya oZ);subst this;simp[cf,g1,g4,g5,g6];exact⟨eo,pI⟩
 .rintro o gO hp rfl ⟨rfl,cf,g4,g5,eo,pI⟩;simp only at cf g4 g5 eo pI;have a1:=eo.fh;have a2:=pI.fh;have s1:∀y,(hp.set 1 y)[1]?=some y:=λy=>(eo.new y).fh
  generalize(dF g (l.take n)).1=G at *;simp only[cl,dy,dz,qT]at a1 a2;simp[cf,g4,g5,a1,a2,s1];exact gq ⟨_,rfl,by rw[<-hT];exact FQ G⟩
def LF(N D:Nat)(b:Bool)(x:Hi)(ts:Int)(h:Hp)(hx:Lv D x)(vH:gu x=0->XC x.g):
 ch cx (N+3*D+14) b 51 [oV x,ts] h=some (.tp [.ag (cl (ue x ts).1),.sc (.int .i64 (ue x ts).2)],h):=by
 refine nA (n:=N+3*D+13) f51 [.cell 4 4 true,.tmp 5] rfl ?_ b h;have aa:=λbb h=>LD N D bb x ts h hx
 unfold ue;by_cases h0:l6 x ts=0
 rotate_left
 .rw[cq h0];generalize l6 x ts=e at h0 aa|-;generalize N+3*D+13=M at aa|-;obtain⟨bs,g,l⟩:=x;unfold oV iz at *;simp only[cl,dy,dz,Zv,Zw]at *;simp[f51,aa,h0];exact gq ⟨_,rfl,rfl⟩
 .rw[cm (by simp[h0])];have hc:=h0;unfold l6 at hc;split at hc
  .rename_i e;exact absurd hc e
  rename_i e;have he:gu x=0:=Classical.not_not.1 e;split at hc
  .cases hc
  rename_i Nx;obtain⟨b1,b2,b4,b3,b5⟩:=lE he;rw[h0]at aa;have hk:(ts-x.b).toNat<=x.l.length:=by omega
  have pW:cS .i64 (ts-x.b)=(((ts-x.b).toNat:Nat):Int):=by rw[cu (by omega) (by omega)];omega
  have ah:=λbb h=>adM (N+1) D bb x (ts-x.b).toNat h hx (vH he) hk b5
  rw[show N+1+3*D+12=N+3*D+13 from by clear pW;omega]at ah;generalize(ts-x.b).toNat=k at *;generalize N+3*D+13=M at aa ah|-;clear Nx hx e he h0 hc b5 vH;obtain⟨bs,g,l⟩:=x;simp only at hk pW aa ah|-;generalize(dF g (l.take k)).1=G at *;generalize hT:AV.tp [.ag (cl G),(0:Int)]=T;unfold oV iz at *;simp only[cl,dy,dz,Zv,Zw]at aa ah;simp[f51,cl,dy,dz,aa,ah,pW];exact gq ⟨_,rfl,by rw[<-hT];exact r8 G _⟩
structure Tx where
 id:Int
 st:Int
 rd:List LA
 cs:List Ch
def jb(t:Tx):LA:=[.sc (.int .i64 t.id),.sc (.int .i64 t.st),.ls 8 t.rd false,.ls 10 (sJ t.cs) false]
def Ab(l:List Tx):List LA:=l.map jb
def kp(l:List Tx):(Ab l).length=l.length:=by simp[Ab]
def sf(l:List Tx)(i:Nat):(Ab l)[i]?=(l[i]?).map jb:=by simp[Ab]
structure Mg where
 rl:List Rl
 hi:Hi
 op:List Tx
 nx:Int
def qZ(m:Mg):LA:=[.ls 6 (sR m.rl) false,.sc (.int .i64 m.hi.b),dy m.hi.g.nodes,dz m.hi.g.cj,.sc (.int .i64 m.hi.g.nn),.sc (.int .i64 m.hi.g.ne),.ls 2 (oU m.hi.l) false,.ls 4 (Ab m.op) false,.sc (.int .i64 m.nx)]
def uX(m:Mg):AV:= .ag (qZ m)
def kr(x:Hi)(t:Tx):Gr × Bool:=if¬(ue x t.st).2=0 then(fq,false)else((jE (ue x t.st).1 t.cs).1,decide ((jE (ue x t.st).1 t.cs).2.2=0))
def Ce{D:Nat}{x:Hi}{ts:Int}(hx:Lv D x)(h:(ue x ts).2=0):qw D (ue x ts).1:=by
 unfold ue at h|-;split at h
 .rename_i e;exact absurd h e
 .rename_i e;rw[cm e];have hc:=Classical.not_not.1 e;unfold l6 at hc;split at hc
  .rename_i q;exact absurd hc q
  rename_i q;obtain⟨_,_,_,_,b5⟩:=lE (Classical.not_not.1 q);exact Em hx.g (λc hc=>hx.c c (List.mem_of_mem_take hc)) (pJ _ b5)
def aai(x:Hi)(t:Tx):[oV x,.ag (jb t)].all dk=true:=rfl
def Ny(N D:Nat)(b:Bool)(x:Hi)(t:Tx)(h:Hp)(hx:Lv D x)(ht:Z6 D t.cs):
 ch cx (N+2*D+17) b 22 [oV x,.ag (jb t)] h=some (.tp [.ag (cl (kr x t).1),.sc (.bool (kr x t).2)],h):=by
 refine nA (n:=N+2*D+16) f22 [.cell 4 4 true,.tmp 5] (aai _ _) ?_ b h;have aa:=λbb h=>af0 N D bb x t.st h hx
 have af:=λ(hg:qw D (ue x t.st).1)bb h=>abX (N+4) D bb (ue x t.st).1 t.cs false h hg ht
 rw[show N+4+2*D+12=N+2*D+16 by omega]at af;have hgr:=λq=>Ce (ts:=t.st) hx q
 unfold kr;generalize N+2*D+16=M at aa af|-;clear hx ht;generalize ue x t.st=ga at aa af hgr|-;obtain⟨ga,ea⟩:=ga;obtain⟨bs,g,l⟩:=x;obtain⟨id,st,rd,cs⟩:=t;unfold oV iz jb at *;simp only[cl,dy,dz,Zv,Zw]at *;by_cases h0:ea=0
 rotate_left
 .rw[cq h0];simp[f22,aa,h0];exact gq ⟨_,rfl,rfl⟩
 .rw[cm (by simp[h0])];have af:=af (hgr h0);subst h0;generalize jE ga cs=r at af|-;obtain⟨G,k,e⟩:=r;dsimp only at af|-;generalize hT:AV.tp [.ag [.ls 3 (f_ G.nodes) false,.ls 5 (fV G.cj) false,G.nn,G.ne],.sc (.bool (decide (e=0)))]=T;by_cases he:e=0
  .subst he;simp[f22,aa,af];exact⟨_,_,⟨rfl,rfl⟩,_,rfl,by rw[<-hT];exact r8 G _⟩
  .rw[decide_eq_false he]at hT;simp[f22,aa,af,he];exact gq ⟨_,rfl,by rw[<-hT];exact r8 G _⟩
def oP(x:Hi):Gr:=(ue x (vL x)).1
def aaj(N D:Nat)(b:Bool)(x:Hi)(h:Hp)(hx:Lv D x):
 ch cx (N+2*D+17) b 29 [oV x] h=some (.ag (cl (oP x)),h):=by
 refine qR (n:=N+2*D+16) (args:=[oV x]) (λi=>i==1) (.ag (cl (oP x))) ⟨f29.ntmps,(f29.body).getD .skip,[.cell 2 4 true]⟩ (by kernel_rfl) (by kernel_rfl) rfl (by kernel_rfl) (by simp[f29]) rfl ?_ (by decide) b h;have aa:=λbb h=>adL (N+1) D bb x h hx
 have af:=λbb h=>af0 N D bb x (vL x) h hx
 rw[show N+1+2*D+15=N+2*D+16 by omega]at aa;unfold oP;generalize vL x=ts,N+2*D+16=M at aa af|-;clear hx;generalize ue x ts=ga at af|-;obtain⟨G,e⟩:=ga;obtain⟨bs,g,l⟩:=x;have AG:=xI l;unfold oV iz at *;simp only[cl,dy,dz,Zv,Zw]at *;generalize oU l=cg at *;generalize hT:AV.ag [.ls 3 (f_ G.nodes) false,.ls 5 (fV G.cj) false,G.nn,G.ne]=T;simp[f29];rw[mX [(0,8),(1,8),(2,8),(3,8)] ?_ ?_]
 rotate_left
 .kernel_rfl
 .kernel_rfl
 simp(maxSteps:=1000000) [xC,aa,af,fH,gY,Ae.nU,nO,nP,AG];exact gq ⟨_,rfl,by rw[<-hT];exact FQ G⟩
def wE(s:List Rl)(g:Gr):Int:=if fL s=true/\dQ g=0 then wD g s else 0
def IX(s:List Rl)(g:Gr):[AV.ls 6 (sR s) false,.ag (cl g)].all dk=true:=rfl
def Va(N D:Nat)(b:Bool)(s:List Rl)(g:Gr)(h:Hp)(hg:qw D g)(wm:s.length<=1000000000000):
 ch cx (N+2*D+13) b 28 [.ls 6 (sR s) false,.ag (cl g)] h=some (.sc (.int .i64 (wE s g)),h):=by
 refine eR (n:=N+2*D+12) f28 [.tmp 4] (IX _ _) rfl ?_ b h;have aa:=λbb h=>adH N D bb s false g h hg (λn hn=>(hg.ns n hn).2.2) wm
 have af:=λ(k:Int)bb h=>UE (N+2*D+11) bb k h
 rw[show N+2*D+11+1=N+2*D+12 from rfl]at af;have jc:=uR s;have hq:=kX s;have hL:(if fL s=true/\dQ g=0 then kF g s 0 else[])=[]->wE s g=0:=λq=>by
  unfold wE;split
  .rename_i e;rw[cq e]at q;exact Cb q
  .rfl
 have hC:∀p l,(if fL s=true/\dQ g=0 then kF g s 0 else[])=p::l->∃r,s[p.1]?=some r/\wE s g=Iz r.kd:=λp l q=>by
  unfold wE;split
  .rename_i e;rw[cq e]at q;obtain⟨j,r,h1,h2,h3⟩:=yM q;exact⟨r,by rw[h1,Xs];exact h2,h3⟩
  .rename_i e;rw[cm e]at q;cases q
 generalize(if fL s=true/\dQ g=0 then kF g s 0 else[])=V at aa hL hC;generalize wE s g=E at hL hC|-;generalize N+2*D+12=M at aa af|-;clear hg wm;unfold cl dy dz at *;cases V with
 |
  nil=>
  rw[hL rfl];simp only[v3,Xw,dt,Qc,if_true]at aa;generalize sR s=cg at *;simp[f28,aa]
 |cons p l=>
  obtain⟨r,h1,h2⟩:=hC p l rfl;rw[h2];have dm:=(Za.1 h1).1;obtain⟨x,hx,hr,cz⟩:=kT jc dm;rw[h1]at hx;cases hx;have af:=λbb h=>af r.kd bb h
  simp only[v3,Yz,dt,Qd,Ys,if_false]at aa;generalize sR s=cg,p.1=i,l.map (λp=> [AV.sc (.int .i64 (p.1:Nat)),.sc (.int .i64 p.2.1),.sc (.int .i64 p.2.2)])=tl at *;unfold dd at hr cz;have Fk:¬((tl.length:Int)+1=0):=by omega
  simp[f28,aa,af,cz,hq,dm,Fk]
def Qo(N D:Nat)(b:Bool)(s:List Rl)(g:Gr)(h:Hp)(hg:qw D g)(wm:s.length<=1000000000000):
 ch cx (N+2*D+12) b 33 [.ls 6 (sR s) false,.ag (cl g)] h=some (.sc (.int .i64 (wE s g)),h):=by
 refine eR (n:=N+2*D+11) f33 [.tmp 4] (IX _ _) rfl ?_ b h;have aa:=λbb h=>aaf N D bb s false g h hg (λn hn=>(hg.ns n hn).2.2) wm
 have af:=λ(k:Int)bb h=>PB (N+2*D+10) bb k h
 rw[show N+2*D+10+1=N+2*D+11 from rfl]at af;have jc:=uR s;have hq:=kX s;have hL:(if fL s=true/\dQ g=0 then kF g s 0 else[])=[]->wE s g=0:=λq=>by
  unfold wE;split
  .rename_i e;rw[cq e]at q;exact Cb q
  .rfl
 have hC:∀p l,(if fL s=true/\dQ g=0 then kF g s 0 else[])=p::l->∃r,s[p.1]?=some r/\wE s g=Iz r.kd:=λp l q=>by
  unfold wE;split
  .rename_i e;rw[cq e]at q;obtain⟨j,r,h1,h2,h3⟩:=yM q;exact⟨r,by rw[h1,Xs];exact h2,h3⟩
  .rename_i e;rw[cm e]at q;cases q
 generalize(if fL s=true/\dQ g=0 then kF g s 0 else[])=V at aa hL hC;generalize wE s g=E at hL hC|-;generalize N+2*D+11=M at aa af|-;clear hg wm;unfold cl dy dz at *;cases V with
 |
  nil=>
  rw[hL rfl];simp only[v3,Xw,dt,Qc,if_true]at aa;generalize sR s=cg at *;simp[f33,aa]
 |cons p l=>
  obtain⟨r,h1,h2⟩:=hC p l rfl;rw[h2];have dm:=(Za.1 h1).1;obtain⟨x,hx,hr,cz⟩:=kT jc dm;rw[h1]at hx;cases hx;have af:=λbb h=>af r.kd bb h
  simp only[v3,Yz,dt,Qd,Ys,if_false]at aa;generalize sR s=cg,p.1=i,l.map (λp=> [AV.sc (.int .i64 (p.1:Nat)),.sc (.int .i64 p.2.1),.sc (.int .i64 p.2.2)])=tl at *;unfold dd at hr cz;have Fk:¬((tl.length:Int)+1=0):=by omega
  simp[f33,aa,af,cz,hq,dm,Fk]
def opn(x:Hi)(nx:Int):List Tx->Int->Bool
 | [],_=>true
 |t::l,p=>decide (p<t.id) && (decide (t.id<nx) && (decide (t.cs.length<=1000) && ((kr x t).2 && opn x nx l t.id)))
def xJ(m:Mg):Bool:=decide (1<=m.nx) && (decide (m.nx<=1000000) && (decide (m.op.length<=16) && opn m.hi m.nx m.op 0))
structure Vb (D:Nat)(m:Mg):Prop where
 hi:Lv D m.hi
 ol:m.op.length<=10^6
 oc:∀t∈m.op,Z6 D t.cs
 rl:m.rl.length<=1000000000000
 rq:∀t∈m.op,mf t.rd t.rd=true
def xK(m:Mg):[uX m].all dk=true:=rfl
def aak(N D:Nat)(b:Bool)(m:Mg)(h:Hp)(hm:Vb D m):
 ch cx (N+2*D+18) b 27 [uX m] h=some (.sc (.bool (xJ m)),h):=by
 have main:∃h',dL [.tmp 2] (cO cx (ch cx (N+2*D+17)) ((f27.body).getD .skip) ([uX m]++List.replicate 57 .un,[]))=some (.sc (.bool (xJ m)),h'):=by
  have aa:=λ(t:Tx)bb h ht=>Ny N D bb m.hi t h hm.hi ht
  generalize N+2*D+17=M at aa|-;have Qp:=hm.oc;have hol:=hm.ol;clear hm;obtain⟨rl,x,op,nx⟩:=m;simp only at aa Qp hol;unfold xJ uX qZ;simp only;have hq:=kp op;have jc:=sf op;generalize hL:opn x nx op 0=T;by_cases h1:1<=nx
  rotate_left
  .have kL:nx<1:=by omega
   rw[decide_eq_false h1,Xi];simp[f27,kL,dy,dz]
  have kL:¬nx<1:=by omega
  rw[decide_eq_true h1,Xd];by_cases h2:nx<=1000000
  rotate_left
  .have ry:1000000<nx:=by omega
   rw[decide_eq_false h2,Xi];simp[f27,kL,ry,dy,dz]
  have ry:¬1000000<nx:=by omega
  rw[decide_eq_true h2,Xd];by_cases h3:op.length<=16
  rotate_left
  .have h3':(16:Int)< (op.length:Int):=by omega
   rw[decide_eq_false h3,Xi];simp[f27,kL,ry,h3',hq,dy,dz]
  have h3':¬(16:Int)< (op.length:Int):=by omega
  rw[decide_eq_true h3,Xd];unfold oV iz at aa;simp only[cl,dy,dz,Zv,Zw]at aa;generalize fG:[AV.ls 6 (sR rl) false,.sc (.int .i64 x.b),.ls 3 (f_ x.g.nodes) false,.ls 5 (fV x.g.cj) false,.sc (.int .i64 x.g.nn),.sc (.int .i64 x.g.ne),.ls 2 (oU x.l) false,.ls 4 (Ab op) false,.sc (.int .i64 nx)]=row;generalize Ab op=cg at hq jc fG;have uG:∀(t:Tx),Z6 D t.cs->∀bb h,ch cx M bb 22 [.ag [x.b,.ls 3 (f_ x.g.nodes) false,.ls 5 (fV x.g.cj) false,x.g.nn,x.g.ne,.ls 2 (oU x.l) false],.ag (jb t)] h=some (.tp [.ag (cl (kr x t).1),.sc (.bool (kr x t).2)],h):=λt ht bb h=>aa t bb h ht
  clear aa;simp[f27,kL,ry,h3',hq,dy,dz];generalize gU:M (.loop _) _=XX;refine pU gU
   (λi s dn=>s.length=58/\gt s 1= .pt 0 0/\gt s 23= .ls 4 cg false/\gt s 24=op.length/\gt s 25=i/\At dn 0 (.row row)/\∃p:Int,gt s 3=p/\opn x nx (op.drop i) p=T)
   (λo s _=>s.length=58/\((o= .exit 0/\T=true)\/(o= .ret/\T=false/\gt s 2=false))) op.length (by simp;omega)
   ⟨by simp,by simp,by simp,by simp,by simp,by rw[<-fG];rfl,0,by simp,hL⟩ ?_ ?_
  .clear gU XX hL h1 h2 kL ry h3';rintro i fr hp da ⟨cf,g1,g23,g24,g25,db,p,g3,hT⟩;have uV:∀y',(hp++y')[0]?=some (.row row):=λy'=>(db.app y').fh
   have jH:∀y' kz,(hp++y')[0]'kz= .row row:=λy' kz=>(db.app y').get kz
   rw[<-fG]at uV jH;rcases jr jc da with⟨c,hi,hx,hr,cz⟩|rfl
   .have uG:=λbb h=>uG c (Qp c (Zi hx)) bb h
    have hf:=cG (i:=i) (Yp da (Yp h3 (by decide)));have an:∀y',(hp++[y'])[hp.length]?=some y':=λy=>by simp
    have jm:∀y' kz,(hp++[y'])[hp.length]'kz=y':=λy kz=>by simp
    have dZ:=oK c.cs;rw[jd hx,opn]at hT;generalize(kr x c).1=G at uG;generalize(kr x c).2=vb at uG hT;obtain⟨id,st,rd,cs⟩:=c;unfold jb at hr cz uG;simp only at hr cz uG hT dZ;simp only[cl,dy,dz]at uG;by_cases c1:p<id
    rotate_left
    .rw[decide_eq_false c1,Xi]at hT;have yE:id<=p:=Int.not_lt.1 c1;simp[cf,g23,g24,g25,g3,hi,hq,cz,jm,yE];exact hT.symm
    have yE:¬id<=p:=Int.not_le.2 c1;rw[decide_eq_true c1,Xd]at hT;by_cases c2:id<nx
    rotate_left
    .rw[decide_eq_false c2,Xi]at hT;have ye:nx<=id:=Int.not_lt.1 c2;simp[cf,g1,g23,g24,g25,g3,hi,hq,cz,jH,jm,yE,ye];exact hT.symm
    have ye:¬nx<=id:=Int.not_le.2 c2;rw[decide_eq_true c2,Xd]at hT;by_cases c3:cs.length<=1000
    rotate_left
    .rw[decide_eq_false c3,Xi]at hT;have En:(1000:Int)< (cs.length:Int):=by clear hf;omega
     simp[cf,g1,g23,g24,g25,g3,hi,hq,cz,jH,jm,yE,ye,En,dZ];exact hT.symm
    have En:¬(1000:Int)< (cs.length:Int):=by clear hf;omega
    rw[decide_eq_true c3,Xd]at hT;cases vb
    .rw[Xi]at hT;simp[cf,g1,g23,g24,g25,g3,hi,hq,cz,jH,jm,yE,ye,En,dZ,uG];exact hT.symm
    .rw[Xd]at hT;simp[cf,g1,g23,g24,g25,g3,hi,hq,cz,jH,jm,hf,yE,ye,En,dZ,uG];exact⟨db.app _,hT⟩
   .rw[Yc,opn]at hT;simp[cf,g24,g25,<-hT]
  .rintro o gO h' rfl ⟨cf,⟨rfl,hz⟩|⟨rfl,hz,g2⟩⟩
   .simp[cf,hz]
   .simp[g2,hz]
 obtain⟨h',e⟩:=main;exact gD (r:= .sc (.bool (xJ m))) (h':=h') (n:=N+2*D+17) ⟨f27.ntmps,(f27.body).getD .skip,[.tmp 2]⟩ (by kernel_rfl) (by kernel_rfl) rfl (by kernel_rfl) (by simp[f27]) (xK m) e rfl b h
def IY(m:Mg):Int:=if¬gu m.hi=0 then gu m.hi else if(fL m.rl && xJ m)=true then wE m.rl (oP m.hi)else 19
def IZ{D:Nat}{x:Hi}(hx:Lv D x)(h:gu x=0):qw D (oP x):=by
 unfold oP;refine Ce hx ?_;unfold ue;rw[cm];intro q;apply q;unfold l6;rw[cm (by simp[h]),cm];unfold vL;rw[cq h];omega
def I0(N D:Nat)(b:Bool)(m:Mg)(h:Hp)(hm:Vb D m):
 ch cx (N+2*D+19) b 9 [uX m] h=some (.sc (.int .i64 (IY m)),h):=by
 refine eR (n:=N+2*D+18) f9 [.tmp 2] (xK m) rfl ?_ b h;have aa:=λbb h=>FR (N+4) D bb m.hi h hm.hi
 have af:=λbb h=>IE (N+2*D+14) bb m.rl false h hm.rl
 have ah:=λbb h=>aak N D bb m h hm
 have ai:=λbb h=>aaj (N+1) D bb m.hi h hm.hi
 have aj:=λhg bb h=>Va (N+5) D bb m.rl (oP m.hi) h hg hm.rl
 rw[show N+4+2*D+14=N+2*D+18 by omega]at aa;rw[show N+2*D+14+4=N+2*D+18 from rfl]at af;rw[show N+1+2*D+17=N+2*D+18 by omega]at ai;rw[show N+5+2*D+13=N+2*D+18 by omega]at aj;generalize N+2*D+18=M at aa af ah ai aj|-;have hlg:=IZ hm.hi;unfold IY;generalize xJ m=ob at ah|-;generalize wE m.rl (oP m.hi)=fe at aj|-;generalize oP m.hi=G at *;generalize gu m.hi=e at aa hlg|-;clear hm;obtain⟨rl,x,op,nx⟩:=m;unfold uX qZ oV iz at *;simp only[cl,dy,dz,Zv,Zw]at *;generalize fL rl=vr,sR rl=rr at *;by_cases h0:e=0
 rotate_left
 .rw[cq h0];simp[f9,aa,h0]
 subst h0;rw[cm (by simp)];have aj:=aj (hlg rfl);cases vr
 .simp[f9,aa,af]
 .cases ob
  .simp[f9,aa,af,ah]
  .simp[f9,aa,af,ah,ai,aj]
def mY(id:Int)(t:Tx):Bool:=decide (t.id=id)
def aal(n:Nat)(b:Bool)(t:Tx)(id:Int)(h:Hp):ch cx (n+1) b 48 [.ag (jb t),.rp [id] 0] h=some (.sc (.bool (mY id t)),h):=by
 refine eR f48 [.tmp 3] rfl rfl ?_ b h;unfold mY;obtain⟨i,st,rd,cs⟩:=t;unfold jb;by_cases e:i=id
 .subst e;simp[f48]
 .simp[f48,e]
def I1(n:Nat)(b:Bool)(l:List Tx)(z:Bool)(id:Int)(h:Hp)(hl:l.length<=10^6):ch cx (n+2) b 47 [.ls 4 (Ab l) z,.fn 48 [.rp [id] 0]] h=some (.sc (.int .i64 (j7 (mY id) l 0)),h):=by
 refine eR f47 [.tmp 4] rfl rfl ?_ b h;have hq:=kp l;have hg:=sf l;have dZ:=λb c h=>aal n b c id h
 generalize n+1=M at dZ|-;generalize Ab l=cg at hq hg;generalize hT:j7 (mY id) l 0=T;simp[f47,hq];generalize gU:M (.loop _) _=XX;refine pU gU
  (λi s _=>j7 (mY id) l i=T/\s.length=19/\gt s 0= .ls 4 cg z/\gt s 1= .fn 48 [.rp [id] 0]/\gt s 7=l.length/\gt s 8=i)
  (λo s _=>s.length=19/\((o= .exit 0/\T= -1)\/(o= .ret/\gt s 4=T))) l.length (by simp;omega) ⟨hT,by simp⟩ ?_ ?_
 .clear gU XX hT;rintro i fr h da ⟨ho,cf,h0,h1,h7,h8⟩;rcases jr hg da with⟨c,hi,hx,hr,cz⟩|rfl
  .rw[BZ hx]at ho;have dZ:=λb h=>dZ b c h
   have hf:=cG (i:=i) (Yp da (Yp hl (by decide)));have ni:(jb c).length=4:=rfl;have CW:(jb c).take 4=jb c:=rfl;generalize mY id c=q,jb c=rc at *;cases q
   .rw[cm (by simp)]at ho;simp[cf,h0,h1,h7,h8,hi,hq,cz,dZ,hf,ni,CW];exact ho
   .rw[cq rfl]at ho;simp[cf,h0,h1,h7,h8,hi,hq,cz,dZ,ni,CW];exact ho
  .rw[Eg _ l _ (Xc _)]at ho;simp[cf,h7,h8,<-ho]
 .rintro o gO h' rfl ⟨cf,⟨rfl,hz⟩|⟨rfl,h4⟩⟩
  .simp[cf,hz]
  .simp[h4]
def Eo(id:Int)(l:List Tx):(j7 (mY id) l 0= -1)\/∃i t,l[i]?=some t/\j7 (mY id) l 0=(i:Nat)/\t.id=id:=by
 have key:∀(l:List Tx)(k:Nat),(Ly (mY id) l k= -1)\/∃i t,l[i]?=some t/\Ly (mY id) l k=((k+i:Nat):Int)/\t.id=id:=by
  intro l
  induction l with
  |nil=>exact λk=> .inl rfl
  |cons t l ih=>
   intro k;rw[Ly];by_cases e:mY id t=true
   .rw[cq e];exact .inr ⟨0,t,rfl,by simp,by simpa[mY]using e⟩
   .rw[cm e];rcases ih (k+1)with h|⟨i,u,h1,h2,h3⟩
    .exact .inl h
    .exact .inr ⟨i+1,u,by simpa using h1,by rw[h2];congr 1;omega,h3⟩
 have:=key l 0;unfold j7;rw[Yi];rcases this with h|⟨i,t,h1,h2,h3⟩
 .exact .inl h
 .exact .inr ⟨i,t,h1,by rw[h2,Xs],h3⟩
def zw(m:Mg)(id:Int):Int:=if IY m=0 then(if j7 (mY id) m.op 0<0 then 0 else j7 (mY id) m.op 0)else 0
def l7(m:Mg)(id:Int):Int:=if IY m=0 then(if j7 (mY id) m.op 0<0 then 23 else 0)else IY m
def AH(m:Mg)(x:Int):[uX m,.sc (.int .i64 x)].all dk=true:=rfl
def aam(N D:Nat)(b:Bool)(m:Mg)(id:Int)(h:Hp)(hm:Vb D m):
 ch cx (N+2*D+20) b 21 [uX m,id] h=some (.tp [.sc (.int .i64 (zw m id)),.sc (.int .i64 (l7 m id))],h):=by
 refine tA (xs:=[.sc (.int .i64 (zw m id)),.sc (.int .i64 (l7 m id))]) (n:=N+2*D+19) f21 [.tmp 4,.tmp 5] (AH _ _) rfl ?_ b h;have aa:=λbb h=>I0 N D bb m h hm
 have af:∀bb h0,ch cx (N+2*D+19) bb 47 [.ls 4 (Ab m.op) false,.fn 48 [.pt 1 0]] [h0,.row [id]]=some (.sc (.int .i64 (j7 (mY id) m.op 0)),[h0,.row [id]]):=λbb h0=>
  lj (n:=N+2*D+18) (ys:=[.ls 4 (Ab m.op) false,.fn 48 [.rp [id] 0]]) (by kernel_rfl) (by kernel_rfl) rfl rfl rfl (I1 (N+2*D+17) bb m.op false id _ hm.ol)
 have hcs:=Eo id m.op;unfold zw l7;generalize IY m=e at aa|-;generalize j7 (mY id) m.op 0=ix at af hcs|-;generalize N+2*D+19=M at aa af|-;clear hm;obtain⟨rl,x,op,nx⟩:=m;unfold uX qZ at *;simp only at *;generalize Ab op=tr at *;unfold dy dz at *;by_cases h0:e=0
 rotate_left
 .rw[cm h0,cm h0];simp[f21,aa,h0]
 subst h0;rw[cq rfl,cq rfl];rcases hcs with rfl|⟨i,t,h1,rfl,_⟩
 .simp[f21,aa,af]
 .have hi:¬((i:Nat):Int)<0:=by omega
  rw[cm hi,cm hi];simp[f21,aa,af,hi]
def aan{l:List Tx}(h:∀t∈l,mf t.rd t.rd=true):mf (Ab l) (Ab l)=true:=jP λr hr=>by
 obtain⟨t,ht,rfl⟩:=Yk.1 hr;have h1:=h t ht;have h2:=AF t.cs;simp[jb,gY,fH,Ae.nU,h1,h2]
def vwT(m:Mg)(id:Int):Option Tx:=if l7 m id=0 then m.op[(zw m id).toNat]? else none
def Ep(m:Mg)(id:Int):Gr:=match vwT m id with|some t=>(kr m.hi t).1|none=>fq
def wF(m:Mg)(id:Int):(¬l7 m id=0/\vwT m id=none)\/(l7 m id=0/\IY m=0/\∃i t,m.op[i]?=some t/\zw m id=(i:Nat)/\vwT m id=some t/\j7 (mY id) m.op 0=(i:Nat)):=by
 unfold vwT;by_cases h:l7 m id=0
 .refine .inr ⟨h,?_⟩;rw[cq h];unfold l7 at h;by_cases h0:IY m=0
  .rw[cq h0]at h;refine⟨h0,?_⟩;rcases Eo id m.op with hx|⟨i,t,h1,h2,_⟩
   .rw[hx,cq (by decide)]at h;cases h
   .have hi:¬((i:Nat):Int)<0:=by omega
    have hf:zw m id=(i:Nat):=by unfold zw;rw[cq h0,h2,cm hi]
    exact⟨i,t,h1,hf,by rw[hf];simpa using h1,h2⟩
  .rw[cm h0]at h;exact absurd h h0
 .exact .inl ⟨h,cm h⟩
def aao(N D:Nat)(b:Bool)(m:Mg)(id:Int)(h:Hp)(hm:Vb D m):
 ch cx (N+2*D+21) b 7 [uX m,id] h=some (.tp [.ag (cl (Ep m id)),.sc (.int .i64 (l7 m id))],h):=by
 refine qR (n:=N+2*D+20) (args:=[uX m,.sc (.int .i64 id)]) (λi=>i==4) (.tp [.ag (cl (Ep m id)),.sc (.int .i64 (l7 m id))]) ⟨f7.ntmps,(f7.body).getD .skip,[.cell 4 4 true,.tmp 5]⟩ (by kernel_rfl) (by kernel_rfl) rfl (by kernel_rfl) (by simp[f7]) (AH m id) ?_ (by decide) b h;have aa:=λbb h=>aam N D bb m id h hm
 have af:=λ(t:Tx)bb h ht=>Ny (N+3) D bb m.hi t h hm.hi ht
 rw[show N+3+2*D+17=N+2*D+20 by omega]at af;have Qp:=hm.oc;have hrq:=hm.rq;have AG:=aan hm.rq;have hfc:=wF m id;unfold Ep;generalize l7 m id=e,zw m id=ix,vwT m id=o at *;generalize N+2*D+20=M at aa af|-;clear hm;obtain⟨rl,x,op,nx⟩:=m;have hq:=kp op;have jc:=sf op;have hec:=xI x.l;unfold uX qZ at *;simp only at *;generalize Ab op=cg at *;rcases hfc with⟨h0,rfl⟩|⟨rfl,_,i,t,h1,rfl,rfl,_⟩
 .clear af;unfold dy dz at *;simp[f7,aa,h0];exact gq ⟨_,rfl,rfl⟩
 .have dm:=(Za.1 h1).1;obtain⟨c,hx,hr,cz⟩:=kT jc dm;rw[h1]at hx;cases hx;have Pm:=Zi h1;have af:=λbb h=>af t bb h (Qp t Pm)
  have hrd:=hrq t Pm;have hcs:=AF t.cs;show∃r h',_;simp only;generalize(kr x t).1=G,(kr x t).2=vb at *;generalize hT:AV.tp [.ag (cl G),(0:Int)]=T;clear Qp hrq h1 Pm;obtain⟨tid,st,rd,cs⟩:=t;obtain⟨bs,g,l⟩:=x;unfold jb at *;unfold oV iz at af;simp only[cl,dy,dz,Zv,Zw]at *;generalize oU l=cms,sJ cs=chs at *;simp[f7,aa];rw[mX [(1,12),(3,12),(6,12),(7,12)] ?_ ?_]
  rotate_left
  .kernel_rfl
  .kernel_rfl
  simp(maxSteps:=1000000) [xC,af,cz,hq,dm,fH,gY,Ae.nU,nO,nP,hec,AG,hrd,hcs];exact gq ⟨_,rfl,by rw[<-hT];exact r8 G _⟩
def Vc(N D:Nat)(b:Bool)(m:Mg)(h:Hp)(hm:Vb D m)(vH:gu m.hi=0->XC m.hi.g):
 ch cx (N+3*D+15) b 34 [uX m] h=some (.ag (cl (oP m.hi)),h):=by
 refine qR (n:=N+3*D+14) (args:=[uX m]) (λi=>i==1) (.ag (cl (oP m.hi))) ⟨f34.ntmps,(f34.body).getD .skip,[.cell 2 4 true]⟩ (by kernel_rfl) (by kernel_rfl) rfl (by kernel_rfl) (by simp[f34]) (xK m) ?_ (by decide) b h;have aa:=λbb h=>U_ (N+1) D bb m.hi h hm.hi
 have af:=λbb h=>LF N D bb m.hi (vL m.hi) h hm.hi vH
 rw[show N+1+3*D+13=N+3*D+14 by omega]at aa;unfold oP;generalize N+3*D+14=M at aa af|-;clear hm vH;obtain⟨rl,x,op,nx⟩:=m;simp only at aa af|-;generalize vL x=ts at *;generalize ue x ts=ga at af|-;obtain⟨G,e⟩:=ga;obtain⟨bs,g,l⟩:=x;have AG:=xI l;unfold uX qZ;unfold oV iz at *;simp only[cl,dy,dz,Zv,Zw]at *;generalize oU l=cg,Ab op=sU,sR rl=vv at *;generalize hT:AV.ag [.ls 3 (f_ G.nodes) false,.ls 5 (fV G.cj) false,G.nn,G.ne]=T;simp[f34];rw[mX [(1,10),(3,10),(4,10),(5,10)] ?_ ?_]
 rotate_left
 .kernel_rfl
 .kernel_rfl
 simp(maxSteps:=1000000) [xC,aa,af,fH,gY,Ae.nU,nO,nP,AG];exact gq ⟨_,rfl,by rw[<-hT];exact FQ G⟩
def Er{x:Hi}{t:Tx}(h:¬(ue x t.st).2=0):(kr x t).2=false:=by unfold kr;rw[cq h]
def wG{x:Hi}{t:Tx}(h:(ue x t.st).2=0):kr x t=((jE (ue x t.st).1 t.cs).1,decide ((jE (ue x t.st).1 t.cs).2.2=0)):=by unfold kr;rw[cm (by simp[h])]
def Vd(N D:Nat)(b:Bool)(m:Mg)(h:Hp)(hm:Vb D m)(vH:gu m.hi=0->XC m.hi.g):
 ch cx (N+3*D+15) b 32 [uX m] h=some (.sc (.bool (opn m.hi m.nx m.op 0 && decide (m.op.length<=16))),h):=by
 have main:∃h',dL [.tmp 2] (cO cx (ch cx (N+3*D+14)) ((f32.body).getD .skip) ([uX m]++List.replicate 77 .un,[]))=some (.sc (.bool (opn m.hi m.nx m.op 0 && decide (m.op.length<=16))),h'):=by
  have aa:=λ(ts:Int)bb h=>LF N D bb m.hi ts h hm.hi vH
  have af:=λ(t:Tx)(ht:Z6 D t.cs)(h0:(ue m.hi t.st).2=0)bb h=>Nw (N+3) D bb (ue m.hi t.st).1 t.cs false h (Ce hm.hi h0) ht
  rw[show N+3+3*D+11=N+3*D+14 by omega]at af;generalize N+3*D+14=M at aa af|-;have Qp:=hm.oc;have hol:=hm.ol;clear hm vH;obtain⟨rl,x,op,nx⟩:=m;simp only at aa af Qp hol|-;unfold uX qZ;simp only;have hq:=kp op;have jc:=sf op;generalize hL:opn x nx op 0=T;have hA:∀(ts:Int)bb h,ch cx M bb 51 [.ag [x.b,.ls 3 (f_ x.g.nodes) false,.ls 5 (fV x.g.cj) false,x.g.nn,x.g.ne,.ls 2 (oU x.l) false],ts] h=some (.tp [.ag (cl (ue x ts).1),.sc (.int .i64 (ue x ts).2)],h):=λts bb h=>aa ts bb h
  clear aa;generalize fG:[AV.ls 6 (sR rl) false,.sc (.int .i64 x.b),.ls 3 (f_ x.g.nodes) false,.ls 5 (fV x.g.cj) false,.sc (.int .i64 x.g.nn),.sc (.int .i64 x.g.ne),.ls 2 (oU x.l) false,.ls 4 (Ab op) false,.sc (.int .i64 nx)]=row;generalize Ab op=cg at hq jc fG;simp[f32,dy,dz];generalize gU:M (.loop _) _=XX;refine pU gU
   (λi s dn=>s.length=78/\gt s 1= .pt 0 0/\gt s 3=i/\At dn 0 (.row row)/\∃p:Int,0<=p/\(i=0->p=0)/\(∀k,i=k+1->∃t,op[k]?=some t/\t.id=p)/\opn x nx (op.drop i) p=T)
   (λo s dn=>s.length=78/\((o= .exit 0/\T=true/\gt s 1= .pt 0 0/\At dn 0 (.row row))\/(o= .ret/\T=false/\gt s 2=false))) op.length (by simp;omega)
   ⟨by simp,by simp,by simp,by rw[<-fG];rfl,0,by omega,λ_=>rfl,λk e=>by omega,hL⟩ ?_ ?_
  .clear gU XX hL;rintro i fr hp da ⟨cf,g1,g3,db,p,J4,hpz,hpk,hT⟩;have l0:=db.lt;have a0:=db.fh;have oO:∀kz,hp[0]'kz= .row row:=λkz=>db.get kz
   have uV:∀y',(hp++y')[0]?=some (.row row):=λy'=>(db.app y').fh
   have jH:∀y' kz,(hp++y')[0]'kz= .row row:=λy' kz=>(db.app y').get kz
   rw[<-fG]at a0 oO uV jH;rcases jr jc da with⟨c,hi,hx,hr,cz⟩|rfl
   .have hf:=cG (i:=i) (Yp da (Yp hol (by decide)));have hA:=λbb h=>hA c.st bb h
    have af:=λh0 bb h=>af c (Qp c (Zi hx)) h0 bb h
    have an:∀y',(hp++[y'])[hp.length]?=some y':=λy=>by simp
    have jm:∀y' kz,(hp++[y'])[hp.length]'kz=y':=λy kz=>by simp
    have an2:∀a y',(hp++[a,y'])[hp.length+1]?=some y':=λa y=>by simp
    have dZ:=oK c.cs;have hvg:=wG (x:=x) (t:=c);have tm:=Er (x:=x) (t:=c);rw[jd hx,opn]at hT;generalize kr x c=V at hvg tm hT;generalize ue x c.st=ga at hA af hvg tm;obtain⟨G,e⟩:=ga;dsimp only at hA af hvg tm;generalize jE G c.cs=R at af hvg;obtain⟨G2,k2,e2⟩:=R;dsimp only at af hvg;obtain⟨id,st,rd,cs⟩:=c;unfold jb at hr cz;simp only at hr cz hT dZ hA af;simp only[cl,dy,dz]at hA af;generalize A8:sJ cs=chs at *;have af1:i=0\/∃k t,i=k+1/\cg[k]?=some (jb t)/\(∀kz,cg[k]'kz=jb t)/\t.id=p:=by
     cases i with
     |zero=>exact .inl rfl
     |succ k=>
      obtain⟨t,ht,hp⟩:=hpk k rfl;obtain⟨c,q1,q2,q3⟩:=kT jc (Za.1 ht).1;rw[ht]at q1;cases q1;exact .inr ⟨k,t,rfl,q2,q3,hp⟩
    have abV:∀T',opn x nx (op.drop (i+1)) id=T'->p<id->∃p:Int,0<=p/\(∀k,i=k->∃t,op[k]?=some t/\t.id=p)/\opn x nx (op.drop (i+1)) p=T':=λT' q1 q2=>⟨id,by omega,λk e=>by cases e;exact⟨_,hx,rfl⟩,q1⟩
    clear hpk;by_cases c0:id<1
    .have c1:¬p<id:=by omega
     rw[decide_eq_false c1,Xi]at hT;simp[cf,g1,g3,hi,hq,cz,oO,l0,jm,c0];exact hT.symm
    by_cases c2:id<nx
    rotate_left
    .rw[decide_eq_false c2,Xi,Bool.and_false]at hT;have ye:nx<=id:=Int.not_lt.1 c2;simp[cf,g1,g3,hi,hq,cz,oO,jH,l0,jm,c0,ye];exact hT.symm
    have ye:¬nx<=id:=Int.not_le.2 c2;rw[decide_eq_true c2,Xd]at hT;rcases af1 with h00|⟨k,t,hik,BB,af2,cZ⟩
    .have uT:¬0<i:=by clear hf;omega
     have c1:p<id:=by have:=hpz h00;clear hf;omega
     rw[decide_eq_true c1,Xd]at hT;by_cases c3:cs.length<=1000
     rotate_left
     .rw[decide_eq_false c3,Xi]at hT;have En:(1000:Int)< (cs.length:Int):=by clear hf;omega
      simp[cf,g1,g3,hi,hq,cz,oO,jH,l0,jm,c0,ye,uT,En,dZ];exact hT.symm
     have En:¬(1000:Int)< (cs.length:Int):=by clear hf;omega
     rw[decide_eq_true c3,Xd]at hT;by_cases c4:e=0
     rotate_left
     .rw[tm c4,Xi]at hT;simp[cf,g1,g3,hi,hq,cz,oO,jH,l0,jm,c0,ye,uT,En,dZ,hA,c4];exact hT.symm
     have af:=af c4;have hv:=hvg c4;subst hv;dsimp only at hT;subst c4;by_cases c5:e2=0
     rotate_left
     .rw[decide_eq_false c5,Xi]at hT;simp[cf,g1,g3,hi,hq,cz,oO,jH,l0,jm,c0,ye,uT,En,dZ,hA,af,c5];exact hT.symm
     subst c5;rw[decide_eq_true rfl,Xd]at hT;simp[cf,g1,g3,hi,hq,cz,oO,jH,l0,jm,hf,c0,ye,uT,En,dZ,hA,af];exact⟨db.app _,id,Int.le_of_lt (Int.lt_of_le_of_lt J4 c1),congrArg Tx.id (Za.1 hx).2,hT⟩
    .have uT:0<i:=by clear hf;omega
     have hfm:cS .i64 ((i:Int)-1)=(k:Nat):=by rw[cu (by clear hf;omega) (by clear hf;omega)];clear hf;omega
     unfold jb at BB af2;rw[cZ]at BB;simp only[cZ]at af2;by_cases c1:p<id
     rotate_left
     .rw[decide_eq_false c1,Xi]at hT;have yE:id<=p:=Int.not_lt.1 c1;simp[cf,g1,g3,hi,hq,cz,oO,jH,l0,jm,c0,ye,uT,hfm,BB,yE];exact hT.symm
     have yE:¬id<=p:=Int.not_le.2 c1;rw[decide_eq_true c1,Xd]at hT;by_cases c3:cs.length<=1000
     rotate_left
     .rw[decide_eq_false c3,Xi]at hT;have En:(1000:Int)< (cs.length:Int):=by clear hf;omega
      simp[cf,g1,g3,hi,hq,cz,oO,jH,l0,jm,c0,ye,uT,hfm,BB,yE,En,dZ];exact hT.symm
     have En:¬(1000:Int)< (cs.length:Int):=by clear hf;omega
     rw[decide_eq_true c3,Xd]at hT;by_cases c4:e=0
     rotate_left
     .rw[tm c4,Xi]at hT;simp[cf,g1,g3,hi,hq,cz,oO,jH,l0,jm,c0,ye,uT,hfm,BB,yE,En,dZ,hA,c4];exact hT.symm
     have af:=af c4;have hv:=hvg c4;subst hv;dsimp only at hT;subst c4;by_cases c5:e2=0
     rotate_left
     .rw[decide_eq_false c5,Xi]at hT;simp[cf,g1,g3,hi,hq,cz,oO,jH,l0,jm,c0,ye,uT,hfm,BB,yE,En,dZ,hA,af,c5];exact hT.symm
     subst c5;rw[decide_eq_true rfl,Xd]at hT;simp[cf,g1,g3,hi,hq,cz,oO,jH,l0,jm,hf,c0,ye,uT,hfm,BB,yE,En,dZ,hA,af];exact⟨db.app _,id,Int.le_of_lt (Int.lt_of_le_of_lt J4 c1),congrArg Tx.id (Za.1 hx).2,hT⟩
   .rw[Yc,opn]at hT;simp[cf,g1,g3,hq,<-hT,oO,l0];exact db
  .rintro o gO h' rfl ⟨cf,⟨rfl,rfl,g1,db⟩|⟨rfl,rfl,g2⟩⟩
   .have l0:=db.lt;have a0:=db.fh;have oO:∀kz,h'[0]'kz= .row row:=λkz=>db.get kz
    rw[<-fG]at a0 oO;by_cases mN:op.length<=16
    .have tF:(op.length:Int)<=16:=by omega
     simp[cf,g1,oO,l0,hq,mN,tF]
    .have tF:¬(op.length:Int)<=16:=by omega
     simp[cf,g1,oO,l0,hq,mN,tF]
   .simp[g2]
 obtain⟨h',e⟩:=main;exact gD (r:= .sc (.bool (opn m.hi m.nx m.op 0 && decide (m.op.length<=16)))) (h':=h') (n:=N+3*D+14) ⟨f32.ntmps,(f32.body).getD .skip,[.tmp 2]⟩ (by kernel_rfl) (by kernel_rfl) rfl (by kernel_rfl) (by simp[f32]) (xK m) e rfl b h
end
end Go.Proofs.YtmfohnojaginjaaGreatDoor
