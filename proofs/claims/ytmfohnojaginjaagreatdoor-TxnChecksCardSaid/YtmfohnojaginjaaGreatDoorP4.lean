/- Part of the proof. -/
import Derived.Test.YtmfohnojaginjaaGreatDoorP3
import Derived.Lib.AppendZeros
set_option linter.all false
namespace Go.Ae
open Go
section ops
variable {C : Cx} {w : World} {X : Nat -> Prop} {ρ : Nat -> Nat} {h : Hp} {a : Act} {fr : List AV} {o : Oper}
def vP{α:Type}{xs:Array α}{x y:α}(h:xs.toList=[x,y]):xs= #[x,y]:=by
 obtain⟨l⟩:=xs;simp only at h;rw[h]
def ab6{α:Type}{xs:Array α}{x:α}(h:xs.toList=[x]):xs= #[x]:=by
 obtain⟨l⟩:=xs;simp only at h;rw[h]
def iW{P:Program}{t ty e:TypeId}{i:TypeInfo}(ht:P.underlying t=some (.slice e))(hi:P.info? e=some i)(b0 base:Option Addr)(n sW cap:Nat)(hn:n<=sW)(w:World):
 (Builtin.append_ #[t,t] ty #[.slice b0 n sW,.slice base 0 cap]).run P w= .ok (.slice b0 n sW) w:=by
 cases b0<;>cases base<;>
  simp[Builtin.append_,run_underlying ht,sizeOf,typeInfo,hi,Builtin.lenOf,Builtin.firstCells,loadCells,loadCellsFrom,hn,storeCells]
def uo{P:Program}{t ty e:TypeId}{i:TypeInfo}(ht:P.underlying t=some (.slice e))(hi:P.info? e=some i)(b o' aa4 aeg m c:Nat)(ad:Addr)(news:List Value)(hl:news.length=m*i.size){w w':World}(pH:∀(j:Nat)(u:Value),news[j]?=some u->w.cell? (ad.add j)=some u)(mj:aa4+m<=aeg)(dq:(storeCells ⟨b,o'+aa4*i.size,none⟩ news).run P w= .ok () w'):
 (Builtin.append_ #[t,t] ty #[.slice (some ⟨b,o',none⟩) aa4 aeg,.slice (some ad) m c]).run P w= .ok (.slice (some ⟨b,o',none⟩) (aa4+m) aeg) w':=by
 have hf:=run_firstCells_some (P:=P) w i.size m ad m c news hl pH;simp[Builtin.append_,run_underlying ht,sizeOf,typeInfo,hi,Builtin.lenOf,mj,hf,add_lit,dq]
def Jy{w w':World}{O O':Nat->Prop}(dq:Step w O w' O'){X':Nat->Prop}{ρ':Nat->Nat}{n' id sz off len cap:Nat}{cF:Array Value}{t:TypeId}{fz:Nat × Nat}(cZ:id<n')(hw:w.heap[ρ' id]?=some (.cells cF t fz))(h1:off+cap*sz=cF.size)(h2:len<=cap)(h3:cap<=maxLen):Rp w' X' ρ' n' (.slice (some ⟨ρ' id,off,none⟩) len cap) (.sl id sz off len false):=by
 obtain⟨c',t',f',hc,fX⟩:=dq.row _ _ _ _ hw;exact .sl id sz off len cap false c' t' f' cZ hc (by omega) (by simp) (by intro;omega) h2 h3
def uZ{G:Nat->Option (List Value)}(hs:gf G w X ρ h)(e:TypeId)(dj zeros:List Value){cs:List AV}(cf:dj.length=cs.length)(mh:∀u∈dj,u.oneCell'=true)(nu:∀(k:Nat)(y:AV),cs[k]?=some y->Rp w (dK X ρ h) ρ h.length (dj.getD k undef) y)(cF:Array Value)(l_:cF=(dj++zeros).toArray):
 Ext G w X ρ h (w.drew.alloc (.cells cF e (0,0))) (λi=>if i=h.length then w.heap.size else ρ i) (h++[.row cs]):=by
 have h1:=qd hs (w.drawn+1);have h2:=uw h1.u6 cF e cs (λk=>dj.getD k undef) (by subst l_;simp;omega) (λk x hk=>by
  have ie:k<dj.length:=by have:=(Za.1 hk).1;omega
  have hv:dj.getD k undef=dj[k]:=by simp[List.getD,Zb ie]
  refine⟨?_,by rw[hv];exact mh _ (List.getElem_mem ie),h1.rp (nu k x hk)⟩;subst l_;rw[Xr,Zd ie,hv,Zb ie]) (0,0) (.inl rfl)
 exact h1.trans h2
def js{x s:Operand}{t:TypeId}(dp:o.op= .call {callee:= .builtin .append,args:= #[s,x],argTypes:= #[t,t]}){v:Value}{w':World}(hr:(Builtin.append_ #[t,t] o.type #[a.eval s,a.eval x]).run C.P w= .ok v w'):(execOp a.eval o).run C.P w= .ok (.value v) w':=by
 unfold execOp;simp only[dp,resolve,invoke,builtin,Sem.run_bind,Sem.run_pure,Result.andThen_ok,List.map_toArray,Yz,Xw,hr]
def Ey(hs:gf C.G w X ρ h){s x:Operand}{t e:TypeId}{ei:TypeInfo}{z':Value}(dp:o.op= .call {callee:= .builtin .append,args:= #[s,x],argTypes:= #[t,t]})(h1:C.P.underlying t=some (.slice e))(k1:C.P.info? e=some ei)(k3:ei.zero=some z')(k9:z'.cells.size=ei.size){ad:Addr}{n fy:Nat}(hv:a.eval s= .slice (some ad) n fy){olds:List Value}{Q9:List AV}(hol:olds.length=n*ei.size)(hoA:Q9.length=olds.length)(Qp:∀(j:Nat)(u:Value),olds[j]?=some u->w.cell? (ad.add j)=some u)(ho1:∀u∈olds,u.oneCell'=true)(j9:∀(k:Nat)(y:AV),Q9[k]?=some y->Rp w (dK X ρ h) ρ h.length (olds.getD k undef) y){b o' m cap:Nat}{dj:List Value}{news:List AV}(hx:a.eval x= .slice (some ⟨b,o',none⟩) m cap)(oT:dj.length=m*ei.size)(nh:news.length=m*ei.size)(dX:∀(j:Nat)(u:Value),dj[j]?=some u->w.cell? ((⟨b,o',none⟩:Addr).add j)=some u)(mh:∀u∈dj,u.oneCell'=true)(nu:∀(k:Nat)(y:AV),news[k]?=some y->Rp w (dK X ρ h) ρ h.length (dj.getD k undef) y)(x7:fy<n+m)(iF:n+m<=maxLen)(wP:(n+m)*ei.bytes<=140737488355328):
 Good C o a w X ρ h (.sl h.length ei.size 0 (n+m) false) (h++[.row (Q9++news)]):=by
 have VX:=grownCap_le_maxLen w (n+m) fy e iF;have pz:=grownCap_ge w (n+m) fy e;have he:=uZ hs e (olds++dj) (Builtin.zeroCells z'.cells (grownCap w (n+m) fy e-(n+m))).toList (cs:=Q9++news) (by simp;omega)
  (λu hu=>by
   rcases Zz.1 hu with hu|hu
   .exact ho1 u hu
   .exact mh u hu)
  (λk y GF=>by
   by_cases ie:k<Q9.length
   .rw[Zd ie]at GF;have e2:(olds++dj).getD k undef=olds.getD k undef:=by
     simp only[List.getD];rw[Zd (by omega)]
    rw[e2];exact j9 k y GF
   .rw[Zf (by omega)]at GF;have e2:(olds++dj).getD k undef=dj.getD (k-Q9.length) undef:=by
     simp only[List.getD];rw[Zf (by omega),hoA]
    rw[e2];exact nu _ y GF)
  (olds.toArray++dj.toArray++Builtin.zeroCells z'.cells (grownCap w (n+m) fy e-(n+m))) (by apply Array.ext';simp)
 have uq:((n+m:Nat):Int)<=9223372036854775807:=by simp only[maxLen]at iF;omega
 refine dW (v:= .slice (some ⟨w.heap.size,0,none⟩) (n+m) (grownCap w (n+m) fy e)) ?_ he (wI w _ h ρ _ _ _ _ _ (by simp) _ e (0,0) (iI w.drew _) ?_ pz VX)
 .refine js dp ?_;rw[hv,hx];exact run_append_grow (P:=C.P) w t o.type e ei z' h1 k1 k3 ad n fy olds hol Qp ⟨b,o',none⟩ m cap dj oT dX x7 uq (growslice_fits x7 wP)
 .rw[Array.size_append,Array.size_append,List.size_toArray,List.size_toArray,size_zeroCells,k9,oT,hol,<-Xp,<-Xp]
  congr 1
  omega
def aa5{b o' sz:Nat}{X:Nat->Prop}{cg:List (List AV)}{us:Nat->Nat->Value}{cF:Array Value}{t0:TypeId}{fz:Nat × Nat}(fX:0<sz)(c2:w.heap[b]?=some (Obj.cells cF t0 fz))(c7:∀(i:Nat)(row:List AV),cg[i]?=some row->row.length=sz)(c8:∀(i:Nat)(row:List AV)(j:Nat)(x:AV),cg[i]?=some row->row[j]?=some x->cF[o'+i*sz+j]?=some (us i j)/\Value.oneCell' (us i j)=true/\Ri w X (us i j) x):
 ∃dj:List Value,dj.length=cg.length*sz/\cg.flatten.length=cg.length*sz/\(∀(j:Nat)(u:Value),dj[j]?=some u->w.cell? ((⟨b,o',none⟩:Addr).add j)=some u)/\(∀u∈dj,u.oneCell'=true)/\
  ∀(k:Nat)(y:AV),cg.flatten[k]?=some y->Ri w X (dj.getD k undef) y:=by
 have dN:∀row∈cg,row.length=sz:=λrow hm=>by
  obtain⟨k,hk,rfl⟩:=List.getElem_of_mem hm;exact c7 k _ (Zb hk)
 have hfg:=uf fX cg dN;have cf:=cQ cg dN;refine⟨(List.range (cg.length*sz)).map λk=>us (k/sz) (k % sz),by simp,cf,?_,?_,?_⟩
 .intro j u hj;simp only[Zs,Ze]at hj;obtain⟨k,hk,rfl⟩:=hj;have mZ:j<cg.length*sz:=by have:=(Za.1 hk).1;simpa using this
  rw[Xb mZ]at hk;cases hk;have h1:j/sz<cg.length:=by rw[Nat.div_lt_iff_lt_mul fX];exact mZ
  have h2:j % sz< (cg[j/sz]).length:=by rw[c7 _ _ (Zb h1)];exact Nat.mod_lt _ fX
  have:=c8 (j/sz) _ (j % sz) _ (Zb h1) (Zb h2);rw[add_lit,jD c2,<-this.1]
  congr 1
  have:=Nat.div_add_mod j sz;rw[Nat.mul_comm]at this;omega
 .intro u hu;simp only[Yk,List.mem_range]at hu;obtain⟨j,mZ,rfl⟩:=hu;have h1:j/sz<cg.length:=by rw[Nat.div_lt_iff_lt_mul fX];exact mZ
  have h2:j % sz< (cg[j/sz]).length:=by rw[c7 _ _ (Zb h1)];exact Nat.mod_lt _ fX
  exact(c8 (j/sz) _ (j % sz) _ (Zb h1) (Zb h2)).2.1
 .intro k y hk;have ie:k<cg.length*sz:=by have:=(Za.1 hk).1;rwa [cf]at this
  rw[hfg]at hk;simp only[Yj]at hk;obtain⟨row,hr,hy⟩:=hk;have:=c8 _ row _ y hr hy;have e2:((List.range (cg.length*sz)).map λk=>us (k/sz) (k % sz)).getD k undef=us (k/sz) (k % sz):=by simp[List.getD,Xb ie]
  rw[e2];exact this.2.2
def aa6(hs:gf C.G w X ρ h)(hf:RF w (dK X ρ h) ρ h.length a.tmps fr){s x:Operand}{t tn:TypeId}(dp:o.op= .call {callee:= .builtin .append,args:= #[s,x],argTypes:= #[t,tn]})(hT:∀t i,C.T t=some i->eH C.P t=some i){r:AV}{h':Hp}(ha:Kg C h t tn (ev C fr s) (ev C fr x)=some (r,h')):Good C o a w X ρ h r h':=by
 unfold Kg at ha;split at ha
 case h_2=>cases ha
 rename_i sz ag tu ez n sI hsv hn;split at ha
 case isFalse=>cases ha
 rename_i hc;obtain⟨hint,tE,iF,wP⟩:=hc;simp only[Zc,Zg]at ha;obtain⟨rfl,rfl⟩:=ha;obtain⟨d,info,z,h1,h2,h3,h4,h5,h6,h7,h8,h9⟩:=dG (hT t _ sI);obtain⟨e,ei,ed,z',rfl,k1,k2,k3,rfl,k5,rfl,rfl,k8,k9,zm⟩:=ec h4;have es:=dA hs hf s;rw[hsv]at es;have hv:=es.dH.1;obtain⟨q,j,hj,T6,xk⟩:=mB (dA hs hf x) hn;have ajD:j=(n:Int):=by omega
 subst ajD;obtain⟨kn,htn⟩:∃kn,C.P.underlying tn=some (.int kn):=by
  unfold Sv at hint;split at hint
  .rename_i k hk;exact⟨k,hk⟩
  .cases hint
 have uq:(n:Int)<=9223372036854775807:=by simp only[maxLen]at iF;omega
 have VX:=grownCap_le_maxLen w n 0 e iF;have pz:=grownCap_ge w n 0 e;have hz:=xM (w:=w) (X:=dK X ρ h) (ρ:=ρ) k8 h.length n (by omega);change RC w (dK X ρ h) ρ h.length (Builtin.zeroCells z'.cells n) _ at hz;obtain⟨z1,z2,z3⟩:=hz;have agm:∀k,(Builtin.zeroCells z'.cells n).toList.getD k undef=(Builtin.zeroCells z'.cells n).getD k undef:=λk=>by simp[List.getD,Zr]
 have he:=uZ hs e (Builtin.zeroCells z'.cells n).toList (Builtin.zeroCells z'.cells (grownCap w n 0 e-n)).toList (cs:=(List.range n).flatMap λ_=>z'.cells.toList.map .sc) (by rw[<-z1];simp)
  (λu hu=>by
   obtain⟨k,hk,rfl⟩:=List.getElem_of_mem hu;have lk:k< (Builtin.zeroCells z'.cells n).size:=by simpa using hk
   have h2:=z2 k lk;have e2:(Builtin.zeroCells z'.cells n).getD k undef=(Builtin.zeroCells z'.cells n)[k]:=by simp[lk]
   rw[e2]at h2;simpa using h2)
  (λk y hk=>by rw[agm k];exact z3 k y hk)
  (Builtin.zeroCells z'.cells n++Builtin.zeroCells z'.cells (grownCap w n 0 e-n)) (by apply Array.ext';simp)
 refine dW (v:= .slice (some ⟨w.heap.size,0,none⟩) n (grownCap w n 0 e)) ?_ he (wI w _ h ρ _ _ _ _ _ (by simp) _ e (0,0) (iI w.drew _) ?_ pz VX)
 .unfold execOp;have hr:=Lib.run_append_nil_zeros (P:=C.P) w t tn o.type e ei z' q kn h1 htn k1 k3 n tE zm uq (by omega);rw[<-hv,<-hj]at hr;simp only[dp,resolve,invoke,builtin,Sem.run_bind,Sem.run_pure,Result.andThen_ok,List.map_toArray,Yz,Xw,hr]
 .rw[Array.size_append,size_zeroCells,size_zeroCells,k9,<-Xp]
  congr 1
  omega
def V6(hs:gf C.G w X ρ h)(hf:RF w (dK X ρ h) ρ h.length a.tmps fr){s x:Operand}{t:TypeId}(dp:o.op= .call {callee:= .builtin .append,args:= #[s,x],argTypes:= #[t,t]})(hT:∀t i,C.T t=some i->eH C.P t=some i){r:AV}{h':Hp}(ha:ew C h t (ev C fr s) (ev C fr x)=some (r,h')):Good C o a w X ρ h r h':=by
 unfold ew at ha;split at ha
 case h_2=>cases ha
 rename_i sz ag tu ez sI;obtain⟨d,info,z,h1,h2,h3,h4,h5,h6,h7,h8,h9⟩:=dG (hT t _ sI);obtain⟨e,ei,ed,z',rfl,k1,k2,k3,rfl,k5,rfl,k7,k8,k9,zm⟩:=ec h4;split at ha
 case isFalse=>cases ha
 rename_i fX;simp only[Zh]at fX;split at ha
 case h_2=>cases ha
 rename_i m news pH;obtain⟨base,cap,hx,nh,xP⟩:=q_ hs hf zm fX.2 pH;have es:=dA hs hf s;split at ha
 .
  rename_i hm;subst hm;have hval:∃b0 n sW,a.eval s= .slice b0 n sW/\n<=sW/\r=ev C fr s/\h'=h:=by
   cases hq:ev C fr s with
   |sc u=>
    rw[hq]at ha es fX;split at ha
    .rename_i hu;simp only[AV.sc.injEq]at hu;subst hu;simp only[Zc,Zg]at ha;exact⟨none,0,0,es.dH.1,Xc _,ha.1.symm,ha.2.symm⟩
    .rename_i hu;cases hu
    .rename_i hu;cases hu
    .cases ha
   |ls ph cg zz=>
    rw[hq]at ha es;simp only[Zc,Zg]at ha;rcases es.my.iu with⟨rfl,b,fy,hv,_⟩|⟨b,o',fy,us,cF,t0,fz,hv,_,_,hc,_⟩
    .exact⟨b,0,fy,hv,Nat.zero_le _,ha.1.symm,ha.2.symm⟩
    .exact⟨_,_,fy,hv,hc,ha.1.symm,ha.2.symm⟩
   |sl id ph off len k=>
    rw[hq]at ha es;simp only[Zc,Zg]at ha;obtain⟨fy,cF,t0,fz,hv,_,_,_,_,_,hc,_⟩:=es.jT;exact⟨_,_,fy,hv,hc,ha.1.symm,ha.2.symm⟩
   |_=>rw[hq]at ha;cases ha
  obtain⟨b0,n,sW,hv,da,rfl,rfl⟩:=hval;refine cK hs (js dp (v:= .slice b0 n sW) (by rw[hv,hx];exact iW h1 k1 b0 base n sW cap da w)) ?_;rw[<-hv];exact es
 .rename_i hm;rcases xP with zQ|⟨b,o',dj,rfl,oT,dX,mh,nu⟩
  .exact absurd zQ hm
  have V7:0<m:=by omega
  have fresh:(∃b0,a.eval s= .slice b0 0 0)->m<=maxLen->m*ei.bytes<=140737488355328->Good C o a w X ρ h (.sl h.length ei.size 0 m false) (h++[.row news]):=by
   rintro⟨b0,hv⟩ iF wP;have uq:(m:Int)<=9223372036854775807:=by simp only[maxLen]at iF;omega
   have VX:=grownCap_le_maxLen w m 0 e iF;have pz:=grownCap_ge w m 0 e;have he:=uZ hs e dj (Builtin.zeroCells z'.cells (grownCap w m 0 e-m)).toList (cs:=news) (by omega) mh nu (dj.toArray++Builtin.zeroCells z'.cells (grownCap w m 0 e-m)) (by apply Array.ext';simp);refine dW (v:= .slice (some ⟨w.heap.size,0,none⟩) m (grownCap w m 0 e)) ?_ he (wI w _ h ρ _ _ _ _ _ (by simp) _ e (0,0) (iI w.drew _) ?_ pz VX)
   .refine js dp ?_;rw[hv,hx];cases b0 with
    |none=>exact run_append_nil (P:=C.P) w t o.type e ei z' h1 k1 k3 ⟨b,o',none⟩ m cap dj oT dX V7 uq (by omega)
    |some ad=>
     have:=run_append_grow (P:=C.P) w t o.type e ei z' h1 k1 k3 ad 0 0 [] (by simp) (by simp) ⟨b,o',none⟩ m cap dj oT dX (by omega) (by simpa using uq) (growslice_fits (by omega) (by simpa using wP));simpa using this
   .simp only[Array.size_append,List.size_toArray,size_zeroCells,k9,oT,<-Xp]
    congr 1
    omega
  split at ha
  .rename_i hq;split at ha
   .rename_i hc;simp only[Zc,Zg]at ha;obtain⟨rfl,rfl⟩:=ha;rw[hq]at es;exact fresh ⟨none,es.dH.1⟩ hc.1 hc.2
   .cases ha
  .rename_i ph cg hq;split at ha
   .rename_i hc;simp only[Zc,Zg]at ha;obtain⟨rfl,rfl⟩:=ha;rw[hq]at es fX;have V8:ph=ei.size:=by simpa[ka]using fX.1
    subst V8;rcases es.my.iu with⟨rfl,b0,fy,hv,_,mH⟩|⟨b0,o0,fy,us,cF,t0,fz,hv,c1,c2,_,_,mH,c7,c8⟩
    .rw[mH rfl]at hv;have:=fresh ⟨b0,hv⟩ (by simpa using hc.1) (by simpa using hc.2);simpa using this
    .rw[mH rfl]at hv;obtain⟨olds,q1,q2,q3,q4,q5⟩:=aa5 (w:=w) (X:=dK X ρ h) zm c2 c7 c8;exact Ey hs dp h1 k1 k3 k9 hv q1 (by omega) q3 q4 (λk y hk=> .im (q5 k y hk)) hx oT nh dX mh nu (by omega) hc.1 hc.2
   .cases ha
  .rename_i id ph off len hq;rw[hq]at es fX;have V8:ph=ei.size:=by simpa[ka]using fX.1
   subst V8;obtain⟨fy,cF,t0,fz,hv,Cy,mi,mH,hk,_,ZV,vh⟩:=es.jT;split at ha
   case h_2=>cases ha
   rename_i cs cZ;split at ha
   case isFalse=>cases ha
   rename_i hc;simp only[Zc,Zg]at ha;obtain⟨rfl,rfl⟩:=ha;obtain⟨aeh,t1,fz1,us,c1,c3⟩:=hs.cells cZ;rw[hk rfl]at hv;have mC:∀j,j<len*ei.size->cs[off+j]?=some cs[off+j]!:=λj hj=>by
    have:off+j<cs.length:=by omega
    simp[Zb this,getElem!_pos cs (off+j) this]
   refine Ey hs dp h1 k1 k3 k9 hv (olds:=(List.range (len*ei.size)).map λj=>us (off+j)) (by simp) (by simp;omega) ?_ ?_ ?_ hx oT nh dX mh nu (by omega) hc.2.1 hc.2.2
   .intro j u hj;simp only[Zs,Ze]at hj;obtain⟨k,lk,rfl⟩:=hj;have mZ:j<len*ei.size:=by have:=(Za.1 lk).1;simpa using this
    rw[Xb mZ]at lk;cases lk;rw[add_lit,jD c1];exact(c3 _ _ (mC j mZ)).1
   .intro u hu;simp only[Yk,List.mem_range]at hu;obtain⟨j,mZ,rfl⟩:=hu;exact(c3 _ _ (mC j mZ)).2.1
   .intro k y lk;rw[Xn]at lk;split at lk
    .rename_i ie;rw[Xo]at lk;have e2:((List.range (len*ei.size)).map λj=>us (off+j)).getD k undef=us (off+k):=by simp[List.getD,Xb ie]
     rw[e2];exact(c3 _ y lk).2.2
    .cases lk
  .rename_i id ph off len hq;rw[hq]at es fX;have V8:ph=ei.size:=by simpa[ka]using fX.1
   subst V8;obtain⟨fy,cF,t0,fz,hv,Cy,mi,_,_,V9,ZV,vh⟩:=es.jT;have mH:=V9 rfl;split at ha
   case h_2=>cases ha
   rename_i cs cZ;obtain⟨aeh,t1,fz1,us,c1,hfz1,c2,c3⟩:=hs.row id cs cZ;have hcc:aeh=cF:=by rw[mi]at c1;cases c1;rfl
   subst hcc;split at ha
   .
    rename_i mj;simp only[Zc,Zg]at ha;obtain⟨rfl,rfl⟩:=ha;have eF:len+m<=fy:=by
     have:(len+m)*ei.size<=fy*ei.size:=by omega
     exact Nat.le_of_mul_le_mul_right this zm
    obtain⟨w',dq,he⟩:=qI hs cZ (off:=off+len*ei.size) (vs:=news) (by rw[nh];rw[Xp]at mj;omega) (dj:=dj) (by omega) mh nu;refine dW (v:= .slice (some ⟨ρ id,off,none⟩) (len+m) fy) ?_ he (Jy he.step (by simpa using Cy) mi mH eF vh);refine js dp ?_;rw[hv,hx];exact uo h1 k1 _ _ _ _ _ _ _ dj oT dX eF dq
   .split at ha
    case isFalse=>cases ha
    rename_i hnroom hc;obtain⟨rfl,dZ,iF,wP⟩:=hc;simp only[Zc,Zg]at ha;obtain⟨rfl,rfl⟩:=ha;by_cases eF:len+m<=fy
    .
     have oE:cs.length+news.length<=aeh.size:=by
      rw[dZ,nh,<-Xp,<-mH,Xs];exact Zx _ eF
     obtain⟨w',dq,he⟩:=BL hs cZ (off:=cs.length) (vs:=news) (Xc _) (λcur' t' xZ kK=>by rw[mi]at kK;cases kK;exact oE) (dj:=dj) (by omega) mh nu;have tq:cn cs cs.length news=cs++news:=by simp[cn]
     rw[tq]at he;have Ta:(h.set id (eK.row (cs++news)))[id]?=some (.row (cs++news)):=by
      have:id<h.length:=Cy;simp[this]
     have hr:=AW he.u6 id (cs++news) Ta;have u9:(h.set id (eK.row (cs++news))).set id eK.dead=h.set id eK.dead:=by simp
     rw[u9]at hr;have dN:=he.trans hr;refine dW (v:= .slice (some ⟨ρ id,0,none⟩) (len+m) fy) ?_ dN ?_
     .refine js dp ?_;rw[hv,hx];refine uo h1 k1 _ _ _ _ _ _ _ dj oT dX eF ?_;rw[Xs,<-dZ];exact dq
     .have:=Jy (X':=dK X (λi=>if i=(h.set id (eK.row (cs++news))).length then ρ id else ρ i) (h.set id eK.dead++[eK.row (cs++news)])) (ρ':=λi=>if i=(h.set id (eK.row (cs++news))).length then ρ id else ρ i)
       (n':=(h.set id eK.dead++[eK.row (cs++news)]).length) (id:=h.length) (sz:=ei.size) (off:=0) (len:=len+m) (cap:=fy) dN.step (by simp) (by simpa using mi) mH eF vh
      simpa using this
    .
     have hk:=GX hs id;have aei:∀(j:Nat)(u:Value),((List.range cs.length).map us)[j]?=some u->w.cell? ((⟨ρ id,0,none⟩:Addr).add j)=some u:=by
      intro j u hj;simp only[Zs,Ze]at hj;obtain⟨k,lk,rfl⟩:=hj;have mZ:j<cs.length:=by have:=(Za.1 lk).1;simpa using this
      rw[Xb mZ]at lk;cases lk;rw[add_lit,jD mi,Xs];exact(c3 j _ (Zb mZ)).1
     have tN:((List.range cs.length).map us).length=cs.length:=by simp
     have VX:=grownCap_le_maxLen w (len+m) fy e iF;have pz:=grownCap_ge w (len+m) fy e;have he:=uZ hk.u6 e ((List.range cs.length).map us++dj) (Builtin.zeroCells z'.cells (grownCap w (len+m) fy e-(len+m))).toList (cs:=cs++news) (by simp;omega)
      (λu hu=>by
       rcases Zz.1 hu with hu|hu
       .simp only[Yk,List.mem_range]at hu;obtain⟨j,mZ,rfl⟩:=hu;exact(c3 j _ (Zb mZ)).2.1
       .exact mh u hu)
      (λk y GF=>by
       by_cases ie:k<cs.length
       .rw[Zd ie]at GF;have e2:((List.range cs.length).map us++dj).getD k undef=us k:=by
         simp only[List.getD];rw[Zd (by simpa using ie)];simp[Xb ie]
        rw[e2];exact hk.rp (c3 k y GF).2.2
       .rw[Zf (by omega)]at GF;have e2:((List.range cs.length).map us++dj).getD k undef=dj.getD (k-cs.length) undef:=by
         simp only[List.getD];rw[Zf (by simp;omega)];simp
        rw[e2];exact hk.rp (nu _ y GF))
      (((List.range cs.length).map us).toArray++dj.toArray++Builtin.zeroCells z'.cells (grownCap w (len+m) fy e-(len+m))) (by apply Array.ext';simp)
     have dN:=hk.trans he;have uq:((len+m:Nat):Int)<=9223372036854775807:=by simp only[maxLen]at iF;omega
     have nz:(h.set id eK.dead).length=h.length:=by simp
     rw[nz]at dN;refine dW (v:= .slice (some ⟨w.heap.size,0,none⟩) (len+m) (grownCap w (len+m) fy e)) ?_ dN (wI w _ h ρ _ _ _ _ _ (by simp) _ e (0,0) (iI w.drew _) ?_ pz VX)
     .refine js dp ?_;rw[hv,hx];exact run_append_grow (P:=C.P) w t o.type e ei z' h1 k1 k3 ⟨ρ id,0,none⟩ len fy ((List.range cs.length).map us) (by simp[dZ]) aei ⟨b,o',none⟩ m cap dj oT dX (by omega) uq (growslice_fits (by omega) wP)
     .rw[Array.size_append,Array.size_append,List.size_toArray,List.size_toArray,size_zeroCells,k9,oT,tN,dZ,<-Xp,<-Xp]
      congr 1
      omega
  .cases ha
def V_(hs:gf C.G w X ρ h)(hf:RF w (dK X ρ h) ρ h.length a.tmps fr){s x:Operand}{t:TypeId}(dp:o.op= .call {callee:= .builtin .append,args:= #[s,x],argTypes:= #[t,t]})(hT:∀t i,C.T t=some i->eH C.P t=some i){sz tu:Nat}{zero:List Value}{size:Nat}{agg ag:Bool}{ez:List Value}(sI:C.T t=some {size:=size,agg:=agg,zero:=zero,kd:= .slice sz ag tu ez})(fX:(ka sz (ev C fr s) && ka sz (ev C fr x))=true){m:Nat}{news:List AV}(pH:ju h (ev C fr x)=some (m,news)){s0:Nat}{z:Bool}(hq:ev C fr s= .ls s0 [] z):
 (m=0->Good C o a w X ρ h (.ls s0 [] z) h)/\(0<m->m<=maxLen->m*tu<=140737488355328->z=true->news.all dk=true->Good C o a w X ρ h (.ls sz (chunk sz m news) false) h):=by
 obtain⟨d,info,zv,h1,h2,h3,h4,h5,h6,h7,h8,h9⟩:=dG (hT t _ sI);obtain⟨e,ei,ed,z',rfl,k1,k2,k3,rfl,k5,rfl,k7,k8,k9,zm⟩:=ec h4;simp only[Zh]at fX;obtain⟨base,cap,hx,nh,xP⟩:=q_ hs hf zm fX.2 pH;have es:=dA hs hf s;rw[hq]at es;have Cz:∃b0 sW,a.eval s= .slice b0 0 sW/\(z=true->sW=0):=by
  rcases es.my.iu with⟨_,b0,fy,hv,_,mH⟩|⟨b0,o0,fy,us,cF,t0,fz,hv,c1,c2,_,_,mH,c7,c8⟩
  .exact⟨b0,fy,hv,mH⟩
  .exact⟨_,fy,hv,λhz=>mH hz⟩
 obtain⟨b0,sW,hv,u_⟩:=Cz;refine⟨λhm=>?_,λV7 iF wP hz dN=>?_⟩
 .subst hm;refine cK hs (js dp (v:= .slice b0 0 sW) (by rw[hv,hx];exact iW h1 k1 b0 base 0 sW cap (Nat.zero_le _) w)) ?_;rw[<-hv];exact es
 .have ajE:=u_ hz;subst ajE;rcases xP with zQ|⟨b,o',dj,rfl,oT,dX,mh,nu⟩
  .omega
  have uq:(m:Int)<=9223372036854775807:=by simp only[maxLen]at iF;omega
  have VX:=grownCap_le_maxLen w m 0 e iF;have pz:=grownCap_ge w m 0 e;have dq:Step w dR (w.drew.alloc (.cells (dj.toArray++Builtin.zeroCells z'.cells (grownCap w m 0 e-m)) e (0,0))) dR:=(I3 w (w.drawn+1) (by omega)).trans (gV w.drew _);refine yP (cap:=grownCap w m 0 e) hs dq (iI w.drew _) (by rw[nh];exact Xc _) pz VX false (λhh=>by cases hh) dN (λk y hk=>?_) ?_
  .have ie:k<dj.length:=by have:=(Za.1 hk).1;omega
   refine⟨dj[k],?_,mh _ (List.getElem_mem ie),?_⟩
   .rw[Array.getElem?_append_left (by simpa using ie)];simp[ie]
   .have:=nu k y hk;simpa[List.getD,Zb ie]using this
  .refine js dp ?_;rw[hv,hx];cases b0 with
   |none=>exact run_append_nil (P:=C.P) w t o.type e ei z' h1 k1 k3 ⟨b,o',none⟩ m cap dj oT dX V7 uq (by omega)
   |some ad=>
    have:=run_append_grow (P:=C.P) w t o.type e ei z' h1 k1 k3 ad 0 0 [] (by simp) (by simp) ⟨b,o',none⟩ m cap dj oT dX (by omega) (by simpa using uq) (growslice_fits (by omega) (by simpa using wP));simpa using this
def aej(hs:gf C.G w X ρ h)(hf:RF w (dK X ρ h) ρ h.length a.tmps fr){s x:Operand}{t:TypeId}(dp:o.op= .call {callee:= .builtin .copy,args:= #[s,x],argTypes:= #[t,t]})(hT:∀t i,C.T t=some i->eH C.P t=some i){r:AV}{h':Hp}(ha:Su C h t (ev C fr s) (ev C fr x)=some (r,h')):Good C o a w X ρ h r h':=by
 have hex:∀{v:Value}{w':World},(Builtin.copy_ #[t,t] o.type #[a.eval s,a.eval x]).run C.P w= .ok v w'->(execOp a.eval o).run C.P w= .ok (.value v) w':=by
  intro v w' hr;unfold execOp;simp only[dp,resolve,invoke,builtin,Sem.run_bind,Sem.run_pure,Result.andThen_ok,List.map_toArray,Yz,Xw,hr]
 unfold Su at ha;split at ha
 case h_2=>cases ha
 rename_i sz ag tu ez sI;obtain⟨d,info,z,h1,h2,h3,h4,h5,h6,h7,h8,h9⟩:=dG (hT t _ sI);obtain⟨e,ei,ed,z',rfl,k1,k2,k3,rfl,k5,rfl,k7,k8,k9,zm⟩:=ec h4;split at ha
 case isFalse=>cases ha
 rename_i fX;simp only[Zh]at fX;have es:=dA hs hf s;split at ha
 case h_4=>cases ha
 .rename_i m news id ph off len kk pH hq;obtain⟨base,cap,hx,nh,xP⟩:=q_ hs hf zm fX.2 pH;rw[hq]at es;obtain⟨fy,cF,t0,fz,hv,Cy,mi,mH,_,_,ZV,vh⟩:=es.jT;split at ha
  case h_2=>cases ha
  rename_i cs cZ;split at ha
  case isFalse=>cases ha
  rename_i oE;simp only[Zc,Zg]at ha;obtain⟨rfl,rfl⟩:=ha;have aaY:Nat.min m len=min m len:=rfl;rcases xP with rfl|⟨b,o',dj,rfl,oT,dX,mh,nu⟩
  .obtain⟨w',dq,he⟩:=qI hs cZ (off:=off) (vs:=news.take (min 0 len*ei.size)) (by simp;omega) (dj:=[]) (by simp) (by simp) (by simp);refine dW (v:= .int .i64 (min 0 len:Nat)) (hex ?_) he (.im (.sc _ rfl));rw[hv,hx];have xc:(Builtin.firstCells ei.size 0 (.slice base 0 cap)).run C.P w= .ok #[] w:=by
    cases base<;>simp[Builtin.firstCells,loadCells,loadCellsFrom]
   simp[Builtin.copy_,run_underlying h1,Builtin.lenOf,sizeOf,typeInfo,k1,aaY,xc,dq,goInt]
  .have Fk:(dj.take (min m len*ei.size)).length=min m len*ei.size:=by
    rw[Xf,oT];have:min m len*ei.size<=m*ei.size:=Zx _ (Nat.min_le_left _ _);omega
   have hnl':(news.take (min m len*ei.size)).length=min m len*ei.size:=by
    rw[Xf,nh];have:min m len*ei.size<=m*ei.size:=Zx _ (Nat.min_le_left _ _);omega
   obtain⟨w',dq,he⟩:=qI hs cZ (off:=off) (vs:=news.take (min m len*ei.size)) (by omega) (dj:=dj.take (min m len*ei.size)) (by omega) (λu hu=>mh u (List.mem_of_mem_take hu)) (λk y hk=>by
    rw[Xn]at hk;split at hk
    .rename_i ie;have:=nu k y hk;simpa[List.getD,Xn,ie]using this
    .cases hk)
   refine dW (v:= .int .i64 (min m len:Nat)) (hex ?_) he (.im (.sc _ rfl));rw[hv,hx];have xc:(Builtin.firstCells ei.size (min m len) (.slice (some ⟨b,o',none⟩) m cap)).run C.P w= .ok (dj.take (min m len*ei.size)).toArray w:=
    run_firstCells_some (P:=C.P) w ei.size (min m len) ⟨b,o',none⟩ m cap _ Fk (λj u hj=>by
     rw[Xn]at hj;split at hj
     .exact dX j u hj
     .cases hj)
   simp[Builtin.copy_,run_underlying h1,Builtin.lenOf,sizeOf,typeInfo,k1,aaY,xc,dq,goInt]
 .rename_i m news ph zz pH hq;obtain⟨base,cap,hx,nh,xP⟩:=q_ hs hf zm fX.2 pH;simp only[Zc,Zg]at ha;obtain⟨rfl,rfl⟩:=ha;rw[hq]at es;have hval:∃b0 sW,a.eval s= .slice b0 0 sW:=by
   rcases es.my.iu with⟨_,b,fy,hv,_⟩|⟨b,o',fy,us,cF,t0,fz,hv,_⟩
   .exact⟨b,fy,hv⟩
   .exact⟨_,fy,hv⟩
  obtain⟨b0,sW,hv⟩:=hval;refine cK hs (v:= .int .i64 0) (hex ?_) (.im (.sc _ rfl));rw[hv,hx];cases b0<;>cases base<;>simp[Builtin.copy_,run_underlying h1,Builtin.lenOf,sizeOf,typeInfo,k1,Builtin.firstCells,loadCells,loadCellsFrom,goInt,storeCells]
 .rename_i m news pH hq;obtain⟨base,cap,hx,nh,xP⟩:=q_ hs hf zm fX.2 pH;simp only[Zc,Zg]at ha;obtain⟨rfl,rfl⟩:=ha;rw[hq]at es;have hv:=es.dH.1;refine cK hs (v:= .int .i64 0) (hex ?_) (.im (.sc _ rfl));rw[hv,hx];cases base<;>simp[Builtin.copy_,run_underlying h1,Builtin.lenOf,sizeOf,typeInfo,k1,Builtin.firstCells,loadCells,loadCellsFrom,goInt]
def aa7(hs:gf C.G w X ρ h)(hf:RF w (dK X ρ h) ρ h.length a.tmps fr){x:Operand}{t:TypeId}(dp:o.op= .call {callee:= .builtin .clear,args:= #[x],argTypes:= #[t]})(hT:∀t i,C.T t=some i->eH C.P t=some i){r:AV}{h':Hp}(ha:ES C h t (ev C fr x)=some (r,h')):Good C o a w X ρ h r h':=by
 have hex:∀{v:Value}{w':World},(Builtin.clear_ #[t] o.type #[a.eval x]).run C.P w= .ok v w'->(execOp a.eval o).run C.P w= .ok (.value v) w':=by
  intro v w' hr;unfold execOp;simp only[dp,resolve,invoke,builtin,Sem.run_bind,Sem.run_pure,Result.andThen_ok,List.map_toArray,Yz,Xw,hr]
 unfold ES at ha;split at ha
 case h_2=>cases ha
 rename_i zero ajF sz ag tu ez id s off len k sI hq;obtain⟨d,info,z,h1,h2,h3,h4,h5,h6,h7,h8,h9⟩:=dG (hT t _ sI);obtain⟨e,ei,ed,z',rfl,k1,k2,k3,rfl,k5,rfl,k7,k8,k9,zm⟩:=ec h4;subst k7;split at ha
 case h_2=>cases ha
 rename_i cs cZ;split at ha
 case isFalse=>cases ha
 rename_i hc;obtain⟨rfl,pg,oE⟩:=hc;simp only[Zc,Zg]at ha;obtain⟨rfl,rfl⟩:=ha;have es:=dA hs hf x;rw[hq]at es;obtain⟨fy,cF,t0,fz,hv,Cy,mi,mH,_,_,ZV,vh⟩:=es.jT;have hRC:=xM (w:=w) (X:=dK X ρ h) (ρ:=ρ) k8 h.length len (by omega);obtain⟨q1,q2,q3⟩:=hRC;have fX:((List.range len).flatMap λ_=>z'.cells.toList.map AV.sc).length=len*ei.size:=by rw[wH];simp[k9]
 obtain⟨w',dq,he⟩:=qI hs cZ (off:=off) (vs:=(List.range len).flatMap λ_=>z'.cells.toList.map AV.sc) (by rw[fX];exact oE) (dj:=((Array.range (len*z'.cells.size)).map (z'.cells[· % z'.cells.size]!)).toList)
  (by rw[<-q1];simp) (λu hu=>by
   obtain⟨j,hj,rfl⟩:=List.getElem_of_mem hu;have hj':j< ((Array.range (len*z'.cells.size)).map (z'.cells[· % z'.cells.size]!)).size:=by simpa using hj
   have:=q2 j hj'
   rwa [Zr,Xl hj',Xm]at this) (λj y hj=>by
   have:=q3 j y hj
   rwa [Zr,<-Array.getElem?_toList]at this)
 refine dW (v:= .tuple #[]) (hex ?_) he (.im (.tp #[] [] rfl (by simp)));obtain⟨m,rfl⟩:∃m,len=m+1:=⟨len-1,by omega⟩;rw[hv];simp[Builtin.clear_,run_underlying h1,zeroValue,typeInfo,k1,k3,Builtin.zeroCells]at dq|-;simp[dq]
def aa8(hs:gf C.G w X ρ h)(hf:RF w (dK X ρ h) ρ h.length a.tmps fr){t:TypeId}{x:Operand}{lo hi:Option Operand}(dp:o.op= .slice t x lo hi none){i:Ti}(p8:eH C.P t=some i){sz tu:Nat}{ag:Bool}{ez:List Value}(hk:i.kd= .slice sz ag tu ez){id off len l m:Nat}{cs:List AV}(hx:ev C fr x= .sl id sz off len false)(hl:ig 0 (lo.map (ev C fr))=some l)(hm:ig len (hi.map (ev C fr))=some m)(hr:rowOf h id=some cs)(hlm:l<=m)(oE:off+m*sz<=cs.length)(dm:l<m\/off+(l+1)*sz<=cs.length):Good C o a w X ρ h (.sl id sz (off+l*sz) (m-l) false) h:=by
 obtain⟨d,info,z,h1,h2,h3,h4,h5,h6,h7,h8,h9⟩:=dG p8;rw[hk]at h4;obtain⟨e,ei,ed,Pf,rfl,k1,k2,k3,rfl,k5,k6,k7,k8,k9,zm⟩:=ec h4;have e1:=dA hs hf x;rw[hx]at e1;obtain⟨cap,cF,t0,fz,hq,c1,c2,c3,ck,ck',c4,c5⟩:=e1.jT;obtain⟨cur',t',xZ,us,d1,d2⟩:=hs.cells hr;rw[c2]at d1;cases d1;have da:cs.length<=cF.size:=by
  rcases Nat.eq_zero_or_pos cs.length with h0|h0
  .omega
  .have:=(Xt.1 (d2 (cs.length-1) _ (Zb (by omega))).1).1;omega
 have mH:off+cap*ei.size=cF.size:=ck' rfl;have Nn:m<=cap:=by
  have:m*ei.size<=cap*ei.size:=by omega
  exact Nat.le_of_mul_le_mul_right this (by omega)
 have ZV:l<cap:=by
  rcases dm with q|q
  .omega
  .have:(l+1)*ei.size<=cap*ei.size:=by omega
   exact Nat.le_of_mul_le_mul_right this (by omega)
 have hb:=sk hs hf hl hm (by omega) (cap:=cap) Nn;have jj:(execOp a.eval o).run C.P w= .ok (.value (.slice (if cap=l then some ⟨ρ id,off,none⟩else(some ⟨ρ id,off,none⟩:Option Addr).map (·.add (l*ei.size))) (m-l) (cap-l))) w:=by
  simp only[execOp,dp,Instr.sliceAt,Instr.slice,run_underlying h1,Sem.run_bind,Result.andThen_ok,hq,Option.map_none,hb,dY k1,Sem.run_pure]
 refine cK hs jj ?_;rw[cm (show¬cap=l by omega)];have dZ:l*ei.size+(cap-l)*ei.size=cap*ei.size:=by rw[<-Xp];congr 1;omega
 have:=Rp.sl (w:=w) (X:=dK X ρ h) (ρ:=ρ) (n:=h.length) id ei.size (off+l*ei.size) (m-l) (cap-l) false cF t0 fz c1 c2 (by omega) (λq=>by cases q) (λ_=>by omega) (by omega) (by omega);simpa[add_lit]using this
def xQ(C:Cx)(w:World)(X:Nat->Prop)(ρ:Nat->Nat)(h h':Hp)(r:AV)(e:Ending)(w':World):Prop:=
 ∃ρ',Ext C.G w X ρ h w' ρ' h'/\((∃v,e= .returned v/\Rp w' (dK X ρ' h') ρ' h'.length v r)\/∃u,e= .panicked [{v:=u,recovered:=false}]/\r= .pn u)
def iZ(C:Cx)(call:iB):Prop:=
 ∀g xs h r h',call g xs h=some (r,h')->∀(w:World)(X:Nat->Prop)(ρ:Nat->Nat)(vs:Array Value),gf C.G w X ρ h->vs.size=xs.length->
  (∀(k:Nat)(x:AV),xs[k]?=some x->Rp w (dK X ρ h) ρ h.length (vs.getD k undef) x)->
  (∃fn,C.P.funcs[g]?=some fn/\fn.name≠ "runtime.NumGoroutine" /\fn.body.isSome=true)/\
  Calls C.P g vs w (xQ C w X ρ h h' r)
def g_call(hs:gf C.G w X ρ h)(hf:RF w (dK X ρ h) ρ h.length a.tmps fr){call:iB}(cJ:iZ C call){f:Operand}{args:Array Operand}{ya:Array TypeId}(dp:o.op= .call {callee:= .value f,args:=args,argTypes:=ya}){g:FuncId}{oe:List AV}(Dx:ev C fr f= .fn g oe){r:AV}{h':Hp}(hr:call g (args.toList.map (ev C fr)++oe) h=some (r,h')):Good C o a w X ρ h r h':=by
 have e1:=dA hs hf f;rw[Dx]at e1;obtain⟨us,hv,hul,hur⟩:=e1.wq;obtain⟨⟨fn,c1,c2,c3⟩,c4⟩:=cJ g _ h r h' hr w X ρ (args.map a.eval++us) hs (by simp[hul]) (λk x hk=>by
  by_cases ie:k<args.size
  .rw[Zd (by simpa using ie)]at hk;simp only[Zs,Ze]at hk;obtain⟨y,hy,rfl⟩:=hk;have K8:args[k]?=some y:=by simpa using hy
   have ajG:args[k]=y:=by rw[Xl ie]at K8;simpa using K8
   have e2:(args.map a.eval++us).getD k undef=a.eval y:=by
    rw[Zr,Array.getElem?_append_left (by simpa using ie)];simp[ie,ajG]
   rw[e2];exact dA hs hf y
  .rw[Zf (by simpa using ie)]at hk;have e2:(args.map a.eval++us).getD k undef=us.getD (k-args.size) undef:=by
    rw[Zr,Array.getElem?_append_right (by simpa using ie)];simp[Zr]
   rw[e2];exact hur _ x (by simpa using hk))
 intro K Q hK hQ;unfold Oper.wp;have jj:(execOp a.eval o).run C.P w= .ok (.enter g (args.map a.eval++us)) w:=by
  have hb:fn.body.isNone=false:=by cases hq:fn.body<;>simp_all
  simp only[execOp,dp,resolve,hv,Deferred.ofValue,invoke,callFunc,Sem.run_bind,Sem.run_pure,Result.andThen_ok,run_program,c1];simp[c2,hb]
 rw[jj,Oper.upon_enter];refine c4.mono λe w' ⟨ρ',hx,hh⟩=>?_
 rcases hh with⟨v,rfl,hrp⟩|⟨u,rfl,hru⟩
 .exact hK v w' ρ' hx hrp
 .exact hQ u w' ρ' hru hx
def Q_{n:Nat}{v:Value}{x:AV}(h:Rp w X ρ n v x)(hs:s9 x=true):∃ad l c,v= .slice (some ad) l c:=by
 cases x with
 |ls sz cg z=>
  cases cg with
  |nil=>simp[s9]at hs
  |cons r cg=>
   rcases h.my.iu with⟨h0,_⟩|⟨b,o',cap,us,cF,t0,fz,hq,_⟩
   .cases h0
   .exact⟨_,_,_,hq⟩
 |sl id sz off len k=>
  obtain⟨cap,cF,t,fz,hv,_⟩:=h.jT;exact⟨_,_,_,hv⟩
 |_=>simp[s9]at hs
def Wa(hs:gf C.G w X ρ h)(hf:RF w (dK X ρ h) ρ h.length a.tmps fr){op:BinOp}{t t':TypeId}{x y:Operand}(dp:o.op= .binOp op t x y t')(hc:(lf C t && AY y && s9 (ev C fr x))=true):
 (op= .eql->Good C o a w X ρ h (.sc (.bool false)) h)/\(op= .neq->Good C o a w X ρ h (.sc (.bool true)) h):=by
 simp only[Zh]at hc;obtain⟨⟨rE,vT⟩,hc3⟩:=hc;obtain⟨ad,l,c,hv⟩:=Q_ (dA hs hf x) hc3;obtain⟨e,he⟩:∃e,C.P.underlying t=some (.slice e):=by
  unfold lf at rE;split at rE
  .rename_i e he;exact⟨e,he⟩
  .cases rE
 have hy:a.eval y= .slice none 0 0:=by
  unfold AY at vT;split at vT
  .rfl
  .cases vT
 have hq:=run_equal_slice_nil w t e (some ad) l c he;constructor
 .rintro rfl;refine cK hs (v:= .bool false) ?_ (.im (.sc _ rfl));simp[execOp,dp,hv,hy,eqGuard,binOp,hq]
 .rintro rfl;refine cK hs (v:= .bool true) ?_ (.im (.sc _ rfl));simp[execOp,dp,hv,hy,eqGuard,binOp,hq]
def Jz{t:TypeId}(h:ET C t=true):∃e,C.P.underlying t=some (.slice e)/\C.P.underlying e=some (.int .u8):=by
 unfold ET at h;split at h
 .rename_i e he;split at h
  .rename_i h2;exact⟨e,he,h2⟩
  .cases h
 .cases h
def u4{t:TypeId}(h:isStr C t=true):C.P.underlying t=some .string:=by
 unfold isStr at h;split at h
 .assumption
 .cases h
def wK{t:TypeId}(h:pO C t=true):∃kt et,C.P.underlying t=some (.map kt et)/\C.P.underlying kt=some .string:=by
 unfold pO at h;split at h
 .rename_i kt et he;exact⟨kt,et,he,u4 h⟩
 .cases h
def Ra(hs:gf C.G w X ρ h)(hf:RF w (dK X ρ h) ρ h.length a.tmps fr){src dst:TypeId}{x:Operand}(dp:o.op= .convert src dst x){s:ByteArray}(hx:ev C fr x= .sc (.string s))(h1:isStr C src=true)(h2:ET C dst=true)(iF:s.size<=maxLen):
 Good C o a w X ρ h (.sl h.length 1 0 s.size false) (h++[.raw (s.data.toList.map λb=> .sc (.int .u8 b.toNat))]):=by
 obtain⟨e,he,hu⟩:=Jz h2;have e1:=dA hs hf x;rw[hx]at e1;have hv:=e1.dH.1;have jj:=run_bytes_of_string (P:=C.P) w src dst e s (u4 h1) he hu;have pz:=grownCap_ge w s.size 0 e;have da:=grownCap_le_maxLen w s.size 0 e iF;have fX:(bytesRow s (grownCap w s.size 0 e)).size=grownCap w s.size 0 e:=by
  simp only[bytesRow,Array.size_append,Array.size_map,Array.size_replicate];show s.size+_=_;omega
 have hd:=qd hs (w.drawn+1);have ha:=Ah hd.u6 (.cells (bytesRow s (grownCap w s.size 0 e)) e ((bytesRow s (grownCap w s.size 0 e)).size,(bytesRow s (grownCap w s.size 0 e)).size+1)) (.raw (s.data.toList.map λb=> .sc (.int .u8 b.toNat))) rfl
  ⟨_,_,_,λk=>(bytesRow s (grownCap w s.size 0 e)).getD k undef,rfl,.inr (Xc _),by rw[fX];simp;exact pz,λk y hk=>by
   simp only[Zs,Ze]at hk;obtain⟨b,hb,rfl⟩:=hk;have ie:k<s.data.size:=by have:=(Za.1 hb).1;simpa using this
   have GB:s.data[k]?=some b:=by simpa using hb
   have fG:(bytesRow s (grownCap w s.size 0 e))[k]?=some (.int .u8 b.toNat):=by
    unfold bytesRow;rw[Array.getElem?_append_left (by simpa using ie)];simp[GB]
   have hg:(bytesRow s (grownCap w s.size 0 e)).getD k undef= .int .u8 b.toNat:=by rw[Zr,fG];rfl
   simp only[hg];exact⟨fG,rfl,.im (.sc _ rfl)⟩⟩
 refine dW (v:= .slice (some ⟨w.heap.size,0,none⟩) s.size (grownCap w s.size 0 e)) ?_ (hd.trans ha) (wI w _ h ρ _ _ _ _ _ (by simp) _ e _ (iI w.drew _) (by rw[fX];omega) pz da);simp only[execOp,dp,hv,Sem.run_bind,jj,Result.andThen_ok,Sem.run_pure];rfl
def Rb{n:Nat}{v:Value}{x:AV}{b:UInt8}(h:Rp w X ρ n v x)(hb:Mv x=some b):v= .int .u8 (b.toNat:Int):=by
 unfold Mv at hb;split at hb
 .rename_i i;split at hb
  .rename_i hc;simp only[Zc]at hb;subst hb;have:=h.dH.1;rw[this];have h3:(UInt8.ofNat i.toNat).toNat=i.toNat:=by
    simp;omega
   rw[h3]
   congr 1
   omega
  .cases hb
 .cases hb
def L8(hs:gf C.G w X ρ h)(hf:RF w (dK X ρ h) ρ h.length a.tmps fr){src dst:TypeId}{x:Operand}(dp:o.op= .convert src dst x){id off len:Nat}{k:Bool}(hx:ev C fr x= .sl id 1 off len k)(h1:isStr C dst=true)(h2:ET C src=true){m:Nat}{news:List AV}(hn:ju h (.sl id 1 off len k)=some (m,news)){bs:List UInt8}(hb:news.mapM Mv=some bs):Good C o a w X ρ h (.sc (.string ⟨bs.toArray⟩)) h:=by
 obtain⟨e,he,hu⟩:=Jz h2;have e1:=dA hs hf x;rw[hx]at e1;obtain⟨cap,cF,t,fz,hv,_⟩:=e1.jT;have XD:m=len:=by
  simp only[ju]at hn;split at hn
  .split at hn
   .simp only[Zc,Zg]at hn;exact hn.1.symm
   .cases hn
  .cases hn
 subst XD;obtain⟨base,fy,rL,nh,xP⟩:=q_ hs hf (x:=x) (sz:=1) (by omega) (by rw[hx];simp[ka]) (by rw[hx];exact hn);obtain⟨m1,m2⟩:=iP hb;have RX:bs.length=m:=by rw[m1,nh];omega
 rw[hv]at rL;simp only[Value.slice.injEq]at rL;obtain⟨rfl,_,rfl⟩:=rL;refine cK hs (v:= .string ⟨bs.toArray⟩) ?_ (.im (.sc _ rfl));have hc:=run_convert_bytes_back (P:=C.P) w src dst e ⟨ρ id,off,none⟩ cap bs he hu (u4 h1) (λj hj=>by
  rcases xP with h0|⟨b,o',dj,Cz,oT,dX,mh,nu⟩
  .omega
  .simp only[Zc,Addr.mk.injEq]at Cz;obtain⟨rfl,rfl,_⟩:=Cz;have hjv:j<dj.length:=by omega
   have xk:j<news.length:=by omega
   rw[dX j _ (Zb hjv)];obtain⟨b',vF,BM⟩:=m2 j _ (Zb xk);rw[Zb hj]at vF;cases vF;have:=Rb (nu j _ (Zb xk)) BM;simp only[List.getD,Zb hjv,Xm]at this;rw[this])
 rw[RX]at hc;simp only[execOp,dp,hv,Sem.run_bind,hc,Result.andThen_ok,Sem.run_pure]
def Rc(hs:gf C.G w X ρ h){t:TypeId}(dp:o.op= .makeMap t none):Good C o a w X ρ h (.mp h.length) (h++[.map [] 0]):=by
 have he:=Ah hs (.map #[] 0) (.map [] 0) rfl ⟨#[],rfl,rfl,by simp⟩;refine dW (v:= .map (some w.heap.size)) ?_ he ?_
 .simp[execOp,dp,Instr.makeMap,pG]
 .have:=Rp.mp (w:=w.alloc (.map #[] 0)) (X:=dK X (λi=>if i=h.length then w.heap.size else ρ i) (h++[eK.map [] 0])) (ρ:=λi=>if i=h.length then w.heap.size else ρ i) (n:=(h++[eK.map [] 0]).length) h.length (by simp);simpa using this
def aa9(hs:gf C.G w X ρ h)(hf:RF w (dK X ρ h) ρ h.length a.tmps fr){t:TypeId}{x:Operand}(dp:o.op= .range t x){s:ByteArray}(hx:ev C fr x= .sc (.string s))(ht:isStr C t=true):
 Good C o a w X ρ h (.pt h.length 0) (h++[.iter s 0]):=by
 have e1:=dA hs hf x;rw[hx]at e1;have he:=Ah hs (.stringIter s 0) (.iter s 0) rfl rfl;refine dW (v:= .pointer (some ⟨w.heap.size,0,none⟩)) ?_ he (K6 w h ρ _ _ _ (by simp));simp only[execOp,dp,Instr.range,e1.dH.1,Sem.run_bind,run_underlying (u4 ht),Result.andThen_ok,Sem.run_pure,pG]
def aek(hs:gf C.G w X ρ h)(hf:RF w (dK X ρ h) ρ h.length a.tmps fr){x:Operand}(dp:o.op= .next x true){id:Nat}(hx:ev C fr x= .pt id 0){s:ByteArray}{pos:Nat}(cZ:h[id]?=some (.iter s pos)):
 (pos<s.size->Good C o a w X ρ h (.tp [.sc (.bool true),.sc (.int .i64 pos),.sc (.int .i32 (Utf8.decode s pos).1)]) (h.set id (.iter s (pos+(Utf8.decode s pos).2))))/\(¬pos<s.size->Good C o a w X ρ h (.tp [.sc (.bool false)]) h):=by
 have e1:=dA hs hf x;rw[hx]at e1;have hv:=e1.nk.1;have b1:w.heap[ρ id]?=some (.stringIter s pos):=hs.y6 id _ cZ;have dm:=eP b1;have mC:(getObj (ρ id)).run C.P w= .ok (.stringIter s pos) w:=by simp only[getObj,Sem.run,b1]
 have u9:∀ob:Obj,(setObj (ρ id) ob).run C.P w= .ok () {w with heap:=w.heap.setIfInBounds (ρ id) ob}:=λob=>by
  simp only[setObj,Sem.run,b1,Array.set!_eq_setIfInBounds]
 have tup:∀(w':World)(X':Nat->Prop)(us:List Value),(∀u∈us,kQ u=true)->Ri w' X' (.tuple us.toArray) (.tp (us.map .sc)):=λw' X' us hu=>by
  refine .tp _ _ (by simp) λk y hk=>?_
  simp only[Zs,Ze]at hk;obtain⟨u,hk,rfl⟩:=hk;have:us.toArray.getD k undef=u:=by simp[hk]
  rw[this];exact .sc u (hu u (Zi hk))
 constructor
 .intro L9;have CA:Ext C.G w X ρ h {w with heap:=w.heap.setIfInBounds (ρ id) (.stringIter s (pos+(Utf8.decode s pos).2))} ρ (h.set id (.iter s (pos+(Utf8.decode s pos).2))):=by
   refine qa hs id _ _ cZ rfl rfl rfl rfl rfl (by simp) (λcF t' fz hc=>by rw[b1]at hc;cases hc) (λp hp=>?_) ?_
   .show(w.heap.setIfInBounds (ρ id) _)[p]?=_;rw[Array.getElem?_setIfInBounds_ne (Ne.symm hp)]
   .show(w.heap.setIfInBounds (ρ id) _)[ρ id]?=_;simp[dm]
  refine dW (v:= .tuple #[.bool true,.int .i64 pos,.int .i32 (Utf8.decode s pos).1]) ?_ CA (.im (tup _ _ [_,_,_] (by simp[kQ])));simp only[execOp,dp,hv,Instr.next,Sem.run_bind,mC,Result.andThen_ok,L9,if_true,u9,Sem.run_pure,goInt]
 .intro L9;refine cK hs (v:= .tuple #[.bool false]) ?_ (.im (tup _ _ [_] (by simp[kQ])));simp only[execOp,dp,hv,Instr.next,Sem.run_bind,mC,Result.andThen_ok,L9,if_false,Sem.run_pure]
def aba(hs:gf C.G w X ρ h)(hf:RF w (dK X ρ h) ρ h.length a.tmps fr){x:Operand}(dp:o.op= .panic x){t:TypeId}{v:Value}(hx:ev C fr x= .sc (.iface t v)):Good C o a w X ρ h (.pn (.iface t v)) h:=by
 have e1:=dA hs hf x;rw[hx]at e1;have hv:=e1.dH.1;intro K Q _ hQ;unfold Oper.wp;have jj:(execOp a.eval o).run C.P w= .halt (.panic (.iface t v)) w:=by
  simp only[execOp,dp,hv,Instr.panic,goPanic];rfl
 rw[jj];exact hQ _ w ρ rfl (Ext.refl hs)
def pN(s:ByteArray):∀(ms:List MapEntry)(es:List (Value × AV))(i:Nat),ms.length=es.length->es.all ta=true->(∀(k:Nat)(e:Value × AV),es[k]?=some e->∃m,ms[k]?=some m/\m.key=e.1)->
 ∃r,Instr.findNow .string (.string s) ms i=some r/\r.map Prod.fst=qg s es i
 | [],[],i,_,_,_=>⟨none,rfl,rfl⟩
 | [],_::_,_,hl,_,_=>by simp at hl
 |_::_,[],_,hl,_,_=>by simp at hl
 |
  m::ms,(j,y)::es,i,hl,hk,hm=>by
  simp only[Zn,Zh]at hk;obtain⟨m',w6,Jo⟩:=hm 0 _ rfl;simp only[Ye,Zc]at w6;subst w6;obtain⟨r,h1,h2⟩:=pN s ms es (i+1) (by simpa using hl) hk.2 (λk e he=>by simpa using hm (k+1) e (by simpa using he));cases j with
  |string a=>
   simp only at Jo;simp only[Instr.findNow,Jo,Instr.sameNow,qg,X2];cases zj:s==a with
   |true=>exact⟨_,rfl,rfl⟩
   |false=>exact⟨r,h1,h2⟩
  |_=>simp[ta]at hk
def JA(ku:TypeDesc)(kv:Value):∀(ms:List MapEntry)(i j:Nat)(v:Value),Instr.findNow ku kv ms i=some (some (j,v))->i<=j/\∃m,ms[j-i]?=some m/\m.val=v
 | [],i,j,v,h=>by simp[Instr.findNow]at h
 |
  m::ms,i,j,v,h=>by
  simp only[Instr.findNow]at h;split at h
  .simp only[Zc,Zg]at h;obtain⟨rfl,rfl⟩:=h;exact⟨Xc _,m,by simp,rfl⟩
  .obtain⟨h1,m',h2,h3⟩:=JA ku kv ms (i+1) j v h;refine⟨by omega,m',?_,h3⟩;have:j-i=(j-(i+1))+1:=by omega
   rw[this,Yd,h2]
  .cases h
def CB{s:ByteArray}:∀{es:List (Value × AV)}{i j:Nat},qg s es i=some j->i<=j/\j-i<es.length/\∃y,es[j-i]?=some (.string s,y)
 | [],i,j,h=>by simp[qg]at h
 |
  (k,y)::es,i,j,h=>by
  simp only[qg]at h;cases hc:X2 s k with
  |
   true=>
   simp only[hc,cond_true,Zc]at h;subst h;cases k with
   |string a=>
    have kK:s=a:=(MapKept.bytes_beq s a).1 hc;subst kK;exact⟨Xc _,by simp,y,by simp⟩
   |_=>simp[X2]at hc
  |
   false=>
   simp only[hc,cond_false]at h;obtain⟨h1,h2,y',h3⟩:=CB h;refine⟨by omega,by simp;omega,y',?_⟩;have:j-i=(j-(i+1))+1:=by omega
   rw[this,Yd,h3]
def CC{t:TypeId}(h:tc C t=true):∃kt et,C.P.underlying t=some (.map kt et)/\C.P.underlying kt=some (.int .i64):=by
 unfold tc at h;split at h
 .rename_i kt et he;split at h
  .rename_i hk;exact⟨kt,et,he,hk⟩
  .cases h
 .cases h
def Wb{kt:TypeId}(h2:C.P.underlying kt=some .string)(s:ByteArray)(z:Bool)(w:World):(Instr.checkKey z (9999+1) kt (.string s)).run C.P w= .ok () w:=by
 unfold Instr.checkKey;simp only[Sem.run_bind,run_underlying h2,Result.andThen_ok,Sem.run_pure]
def Wc{kt:TypeId}(h2:C.P.underlying kt=some (.int .i64))(n:Int)(z:Bool)(w:World):(Instr.checkKey z (9999+1) kt (.int .i64 n)).run C.P w= .ok () w:=by
 unfold Instr.checkKey;simp only[Sem.run_bind,run_underlying h2,Result.andThen_ok,Sem.run_pure]
def CD(n:Int):∀(ms:List MapEntry)(es:List (Value × AV))(i:Nat),ms.length=es.length->es.all td=true->(∀(k:Nat)(e:Value × AV),es[k]?=some e->∃m,ms[k]?=some m/\m.key=e.1)->
 ∃r,Instr.findNow (.int .i64) (.int .i64 n) ms i=some r/\r.map Prod.fst=mQ n es i
 | [],[],i,_,_,_=>⟨none,rfl,rfl⟩
 | [],_::_,_,hl,_,_=>by simp at hl
 |_::_,[],_,hl,_,_=>by simp at hl
 |
  m::ms,(j,y)::es,i,hl,hk,hm=>by
  simp only[Zn,Zh]at hk;obtain⟨m',w6,Jo⟩:=hm 0 _ rfl;simp only[Ye,Zc]at w6;subst w6;obtain⟨r,h1,h2⟩:=CD n ms es (i+1) (by simpa using hl) hk.2 (λk e he=>by simpa using hm (k+1) e (by simpa using he));cases j with
  |int kd b=>
   cases kd with
   |
    i64=>
    simp only at Jo;simp only[Instr.findNow,Jo,Instr.sameNow,mQ,EU,if_true];cases zj:n==b with
    |true=>exact⟨_,rfl,rfl⟩
    |false=>exact⟨r,h1,h2⟩
   |_=>simp[td]at hk
  |_=>simp[td]at hk
def JB{n:Int}:∀{es:List (Value × AV)}{i j:Nat},mQ n es i=some j->i<=j/\j-i<es.length/\∃y,es[j-i]?=some (.int .i64 n,y)
 | [],i,j,h=>by simp[mQ]at h
 |
  (k,y)::es,i,j,h=>by
  simp only[mQ]at h;cases hc:EU n k with
  |
   true=>
   simp only[hc,cond_true,Zc]at h;subst h;cases k with
   |int kd b=>
    cases kd with
    |
     i64=>
     have kK:n=b:=by simpa[EU]using hc
     subst kK;exact⟨Xc _,by simp,y,by simp⟩
    |_=>simp[EU]at hc
   |_=>simp[EU]at hc
  |
   false=>
   simp only[hc,cond_false]at h;obtain⟨h1,h2,y',h3⟩:=JB h;refine⟨by omega,by simp;omega,y',?_⟩;have:j-i=(j-(i+1))+1:=by omega
   rw[this,Yd,h3]
def Ez(hs:gf C.G w X ρ h)(hf:RF w (dK X ρ h) ρ h.length a.tmps fr){t:TypeId}{m k:Operand}{ok:Bool}(dp:o.op= .lookup t m k ok){id:Nat}{kv:Value}(hm:ev C fr m= .mp id)(hk:ev C fr k= .sc kv){kt et:TypeId}{ku:TypeDesc}(h1:C.P.underlying t=some (.map kt et))(h2:C.P.underlying kt=some ku){es:List (Value × AV)}{clock:Nat}(cZ:h[id]?=some (.map es clock)){ix:Option Nat}(hF:(∀ms:List MapEntry,ms.length=es.length->(∀(k:Nat)(e:Value × AV),es[k]?=some e->∃m,ms[k]?=some m/\m.key=e.1)->∃r,Instr.findNow ku kv ms 0=some r/\r.map Prod.fst=ix))(hC:(∀(z:Bool)(w:World),(Instr.checkKey z (9999+1) kt kv).run C.P w= .ok () w)){q:AV × Bool}(hq:Oe C t ix es=some q):
 Good C o a w X ρ h (if ok then .tp [q.1,.sc (.bool q.2)]else q.1) h:=by
 have em:=dA hs hf m;rw[hm]at em;have hv:=em.FD.1;have ek:=dA hs hf k;rw[hk]at ek;have hkv:=ek.dH.1;obtain⟨ms,b1,b2,bnd,b3⟩:=hs.y6 id _ cZ;have ri:∀(k:Nat)(e:Value × AV),es[k]?=some e->∃m,ms.toList[k]?=some m/\m.key=e.1:=λk e he=>by
  obtain⟨m,q1,q2,_⟩:=b3 k e he;exact⟨m,by simpa using q1,q2⟩
 obtain⟨r,hr,C8⟩:=hF ms.toList (by simpa using b2) ri;have zI:(Instr.findKey kt kv ms.toList).run C.P w= .ok r w:=by
  simp only[Instr.findKey,Sem.run_bind,run_underlying h2,Result.andThen_ok,hr,Sem.run_pure]
 have mC:(getObj (ρ id)).run C.P w= .ok (.map ms clock) w:=by
  simp only[getObj,Sem.run,b1]
 have JC:∀z,(Instr.checkKey z 10000 kt kv).run C.P w= .ok () w:=λz=>hC z w
 have key:∀(v:Value)(x:AV)(b:Bool),Rp w (dK X ρ h) ρ h.length v x->(Instr.lookup t (.map (some (ρ id))) kv ok).run C.P w= .ok (if ok then .tuple #[v,.bool b]else v) w->Good C o a w X ρ h (if ok then .tp [x,.sc (.bool b)]else x) h:=by
  intro v x b hx jj;refine cK hs (v:=if ok then .tuple #[v,.bool b]else v) ?_ ?_
  .simp only[execOp,dp,hv,hkv,Sem.run_bind,jj,Result.andThen_ok,Sem.run_pure]
  .cases ok
   .exact hx
   .refine .tp _ _ rfl λj y hj=>?_
    match j,hj with
    |0,hj=>cases hj;exact hx
    |1,hj=>cases hj;exact .im (.sc _ rfl)
    |_+2,hj=>simp at hj
 unfold Oe at hq;cases ix with
 |some i=>
  simp only at hq;cases r with
  |none=>cases C8
  |some p=>
   obtain⟨p1,p2⟩:=p;simp only[Yx,Zc]at C8;subst C8;obtain⟨_,m0,q1,q2⟩:=JA _ _ _ 0 _ _ hr;simp only[Ze]at hq;obtain⟨e,he,rfl⟩:=hq;obtain⟨m1,r1,r2,r3,r4,r5⟩:=b3 _ e he;have ajH:m0=m1:=by
    simp only[Nat.sub_zero,Array.getElem?_toList]at q1;rw[r1]at q1;exact(Option.some.inj q1).symm
   subst ajH;rw[q2]at r5;refine key p2 e.2 true r5 ?_;simp only[Instr.lookup,Sem.run_bind,run_underlying h1,Result.andThen_ok,mC,JC,zI,Sem.run_pure]
 |
  none=>
  cases r with
  |some p=>cases C8
  |
   none=>
   simp only[Ze]at hq;obtain⟨z,hz,rfl⟩:=hq;unfold X1 at hz;rw[h1]at hz;simp only at hz;split at hz
   .rename_i inf ajI;simp only[Ze]at hz;obtain⟨zv,hzv,rfl⟩:=hz;have hzr:(zeroValue et).run C.P w= .ok zv w:=by simp[zeroValue,typeInfo,Sem.run_bind,Sem.run,ajI,hzv,Result.andThen]
    refine key zv _ false (BJ zv) ?_;simp only[Instr.lookup,Sem.run_bind,run_underlying h1,Result.andThen_ok,mC,JC,zI,hzr,Sem.run_pure]
   .cases hz
def Wd(hs:gf C.G w X ρ h)(hf:RF w (dK X ρ h) ρ h.length a.tmps fr){t:TypeId}{m k:Operand}{ok:Bool}(dp:o.op= .lookup t m k ok){id:Nat}{s:ByteArray}(hm:ev C fr m= .mp id)(hk:ev C fr k= .sc (.string s))(ht:pO C t=true){es:List (Value × AV)}{clock:Nat}(cZ:h[id]?=some (.map es clock))(mL:es.all ta=true){q:AV × Bool}(hq:abK C t s es=some q):
 Good C o a w X ρ h (if ok then .tp [q.1,.sc (.bool q.2)]else q.1) h:=by
 obtain⟨kt,et,h1,h2⟩:=wK ht;exact Ez hs hf dp hm hk h1 h2 cZ (λms hl hm=>pN s ms es 0 hl mL hm) (Wb h2 s) hq
def Re(hs:gf C.G w X ρ h)(hf:RF w (dK X ρ h) ρ h.length a.tmps fr){t:TypeId}{m k:Operand}{ok:Bool}(dp:o.op= .lookup t m k ok){id:Nat}{n:Int}(hm:ev C fr m= .mp id)(hk:ev C fr k= .sc (.int .i64 n))(ht:tc C t=true){es:List (Value × AV)}{clock:Nat}(cZ:h[id]?=some (.map es clock))(mL:es.all td=true){q:AV × Bool}(hq:Oe C t (mQ n es 0) es=some q):
 Good C o a w X ρ h (if ok then .tp [q.1,.sc (.bool q.2)]else q.1) h:=by
 obtain⟨kt,et,h1,h2⟩:=CC ht;exact Ez hs hf dp hm hk h1 h2 cZ (λms hl hm=>CD n ms es 0 hl mL hm) (Wc h2 n) hq
def We(hs:gf C.G w X ρ h)(hf:RF w (dK X ρ h) ρ h.length a.tmps fr){m k:Operand}{t t':TypeId}(dp:o.op= .call {callee:= .builtin .delete,args:= #[m,k],argTypes:= #[t,t']}){id:Nat}{s:ByteArray}(hm:ev C fr m= .mp id)(hk:ev C fr k= .sc (.string s))(ht:pO C t=true){es:List (Value × AV)}{clock:Nat}(cZ:h[id]?=some (.map es clock))(mL:es.all ta=true):
 (∀i,qg s es 0=some i->Good C o a w X ρ h (.tp []) (h.set id (.map (es.eraseIdx i) clock)))/\
 (qg s es 0=none->Good C o a w X ρ h (.tp []) (h.set id (.map es clock))):=by
 obtain⟨kt,et,h1,h2⟩:=wK ht;have em:=dA hs hf m;rw[hm]at em;have hv:=em.FD.1;have ek:=dA hs hf k;rw[hk]at ek;have hkv:=ek.dH.1;obtain⟨ms,b1,b2,bnd,b3⟩:=hs.y6 id _ cZ;have ri:∀(k:Nat)(e:Value × AV),es[k]?=some e->∃m,ms.toList[k]?=some m/\m.key=e.1:=λk e he=>by
  obtain⟨m,q1,q2,_⟩:=b3 k e he;exact⟨m,by simpa using q1,q2⟩
 obtain⟨r,hr,C8⟩:=pN s ms.toList es 0 (by simpa using b2) mL ri;have zI:(Instr.findKey kt (.string s) ms.toList).run C.P w= .ok r w:=by
  simp only[Instr.findKey,Sem.run_bind,run_underlying h2,Result.andThen_ok,hr,Sem.run_pure]
 have mC:(getObj (ρ id)).run C.P w= .ok (.map ms clock) w:=by
  simp only[getObj,Sem.run,b1]
 have JC:∀z,(Instr.checkKey z 10000 kt (.string s)).run C.P w= .ok () w:=λz=>by
  show(Instr.checkKey z (9999+1) kt (.string s)).run C.P w= .ok () w;unfold Instr.checkKey;simp only[Sem.run_bind,run_underlying h2,Result.andThen_ok,Sem.run_pure]
 have dm:=eP b1;have u9:∀ob:Obj,(setObj (ρ id) ob).run C.P w= .ok () {w with heap:=w.heap.setIfInBounds (ρ id) ob}:=λob=>by
  simp only[setObj,Sem.run,b1,Array.set!_eq_setIfInBounds]
 have hex:∀{v:Value}{w':World},(Builtin.delete_ #[t,t'] o.type #[a.eval m,a.eval k]).run C.P w= .ok v w'->(execOp a.eval o).run C.P w= .ok (.value v) w':=by
  intro v w' hr;unfold execOp;simp only[dp,resolve,invoke,builtin,Sem.run_bind,Sem.run_pure,Result.andThen_ok,List.map_toArray,Yz,Xw,hr]
 have CA:∀(ob:Obj)(b:eK),vx b=true->wX w (dK X ρ h) ρ h.length (some ob) b->Ext C.G w X ρ h {w with heap:=w.heap.setIfInBounds (ρ id) ob} ρ (h.set id b):=λob b hl hb=>by
  refine qa hs id _ b cZ rfl hl rfl rfl rfl (by simp) (λcF t' fz hc=>by rw[b1]at hc;cases hc) (λp hp=>?_) ?_
  .show(w.heap.setIfInBounds (ρ id) ob)[p]?=_;rw[Array.getElem?_setIfInBounds_ne (Ne.symm hp)]
  .have:({w with heap:=w.heap.setIfInBounds (ρ id) ob}:World).heap[ρ id]?=some ob:=by
    show(w.heap.setIfInBounds (ρ id) ob)[ρ id]?=_;simp[dm]
   rw[this];exact hb
 constructor
 .intro i hi;rw[hi]at C8;cases r with
  |none=>cases C8
  |some p=>
   obtain⟨p1,p2⟩:=p;simp only[Yx,Zc]at C8;subst C8;obtain⟨_,k_,y0,X8⟩:=CB hi;simp only[Nat.sub_zero]at k_ X8;have agn:p1<ms.size:=by omega
   have ni:(ms.eraseIdxIfInBounds p1).toList=ms.toList.eraseIdx p1:=by
    unfold Array.eraseIdxIfInBounds;rw[dif_pos agn];exact Array.toList_eraseIdx ..
   refine dW (v:= .tuple #[]) (hex ?_) (CA (.map (ms.eraseIdxIfInBounds p1) clock) _ rfl ⟨_,rfl,?_,?_,λk e L_=>?_⟩) (.im (.tp #[] [] rfl (by simp)))
   .rw[hv,hkv];simp[Builtin.delete_,run_underlying h1,Sem.run_bind,mC,JC,zI,u9]
   .rw[<-Array.length_toList,ni,List.length_eraseIdx_of_lt (by simpa using agn),List.length_eraseIdx_of_lt k_];simp[b2]
   .rw[ni];exact((List.eraseIdx_sublist ms.toList p1).map _).nodup bnd
   .rw[<-Array.getElem?_toList,ni,List.getElem?_eraseIdx];rw[List.getElem?_eraseIdx]at L_;split at L_
    .rename_i L9;rw[cq L9];obtain⟨m1,r1,r2,r3,r4,r5⟩:=b3 k e L_;exact⟨m1,by simpa using r1,r2,r3,r4,r5⟩
    .rename_i L9;rw[cm L9];obtain⟨m1,r1,r2,r3,r4,r5⟩:=b3 (k+1) e L_;exact⟨m1,by simpa using r1,r2,r3,r4,r5⟩
 .intro hn;rw[hn]at C8;cases r with
  |some p=>cases C8
  |
   none=>
   refine dW (v:= .tuple #[]) (hex ?_) (CA (.map ms clock) _ rfl ⟨_,rfl,b2,bnd,b3⟩) (.im (.tp #[] [] rfl (by simp)));rw[hv,hkv];simp[Builtin.delete_,run_underlying h1,Sem.run_bind,mC,JC,zI,u9]
def xR(hs:gf C.G w X ρ h)(hf:RF w (dK X ρ h) ρ h.length a.tmps fr){t:TypeId}{m k x:Operand}(dp:o.op= .mapUpdate t m k x){id:Nat}{kv:Value}(hm:ev C fr m= .mp id)(hk:ev C fr k= .sc kv){kt et:TypeId}{ku:TypeDesc}(h1:C.P.underlying t=some (.map kt et))(h2:C.P.underlying kt=some ku){es:List (Value × AV)}{clock:Nat}(cZ:h[id]?=some (.map es clock)){ix:Option Nat}(hF:(∀ms:List MapEntry,ms.length=es.length->(∀(k:Nat)(e:Value × AV),es[k]?=some e->∃m,ms[k]?=some m/\m.key=e.1)->∃r,Instr.findNow ku kv ms 0=some r/\r.map Prod.fst=ix))(hC:(∀(z:Bool)(w:World),(Instr.checkKey z (9999+1) kt kv).run C.P w= .ok () w))(hL:∀j,ix=some j->j<es.length/\∃y,es[j]?=some (kv,y))(Sa:Instr.sameBits 10000 kv kv=true)(CR:kQ kv=true):
 (∀i,ix=some i->Good C o a w X ρ h .un (h.set id (.map (es.set i (kv,ev C fr x)) clock)))/\
 (ix=none->Good C o a w X ρ h .un (h.set id (.map (es++[(kv,ev C fr x)]) (clock+1)))):=by
 have em:=dA hs hf m;rw[hm]at em;have hv:=em.FD.1;have ek:=dA hs hf k;rw[hk]at ek;have hkv:=ek.dH.1;have ex:=dA hs hf x;obtain⟨ms,b1,b2,bnd,b3⟩:=hs.y6 id _ cZ;have ri:∀(k:Nat)(e:Value × AV),es[k]?=some e->∃m,ms.toList[k]?=some m/\m.key=e.1:=λk e he=>by
  obtain⟨m,q1,q2,_⟩:=b3 k e he;exact⟨m,by simpa using q1,q2⟩
 obtain⟨r,hr,C8⟩:=hF ms.toList (by simpa using b2) ri;have zI:(Instr.findKey kt kv ms.toList).run C.P w= .ok r w:=by
  simp only[Instr.findKey,Sem.run_bind,run_underlying h2,Result.andThen_ok,hr,Sem.run_pure]
 have mC:(getObj (ρ id)).run C.P w= .ok (.map ms clock) w:=by
  simp only[getObj,Sem.run,b1]
 have JC:(Instr.checkKey false 10000 kt kv).run C.P w= .ok () w:=hC false w;have dm:=eP b1;have u9:∀ob:Obj,(setObj (ρ id) ob).run C.P w= .ok () {w with heap:=w.heap.setIfInBounds (ρ id) ob}:=λob=>by
  simp only[setObj,Sem.run,b1,Array.set!_eq_setIfInBounds]
 have CA:∀(ob:Obj)(b:eK),vx b=true->wX w (dK X ρ h) ρ h.length (some ob) b->Ext C.G w X ρ h {w with heap:=w.heap.setIfInBounds (ρ id) ob} ρ (h.set id b):=λob b hl hb=>by
  refine qa hs id _ b cZ rfl hl rfl rfl rfl (by simp) (λcF t' fz hc=>by rw[b1]at hc;cases hc) (λp hp=>?_) ?_
  .show(w.heap.setIfInBounds (ρ id) ob)[p]?=_;rw[Array.getElem?_setIfInBounds_ne (Ne.symm hp)]
  .have:({w with heap:=w.heap.setIfInBounds (ρ id) ob}:World).heap[ρ id]?=some ob:=by
    show(w.heap.setIfInBounds (ρ id) ob)[ρ id]?=_;simp[dm]
   rw[this];exact hb
 constructor
 .intro i hi;rw[hi]at C8;cases r with
  |none=>cases C8
  |some p=>
   obtain⟨p1,p2⟩:=p;simp only[Yx,Zc]at C8;subst C8;obtain⟨k_,y0,X8⟩:=hL _ hi;obtain⟨m0,q1,q2,q3,q4,q5⟩:=b3 p1 _ X8;have og:(Instr.keyThatStays (((ms[p1]?).map (·.key)).getD kv) kv).run C.P w= .ok kv w:=by
    simp only[q1,Yx,Xm,q2,Instr.keyThatStays,Sa,if_true,Sem.run_pure]
   refine uN ?_ (CA (.map (ms.modify p1 λe=>{e with key:=kv,val:=a.eval x}) clock) _ rfl ⟨_,rfl,by simpa using b2,?_,λk e L_=>?_⟩)
   .simp only[execOp,dp,Instr.mapUpdate,hv,hkv,Sem.run_bind,run_underlying h1,Result.andThen_ok,mC,JC,zI,og,u9,Sem.run_pure]
   .have:(ms.modify p1 λe=>{e with key:=kv,val:=a.eval x}).toList.map (·.born)=ms.toList.map (·.born):=by
     apply List.ext_getElem?;intro j;simp only[Zs,Array.getElem?_toList,Array.getElem?_modify];split
     .cases ms[j]?<;>rfl
     .rfl
    rw[this];exact bnd
   .by_cases hkp:p1=k
    .subst hkp;rw[Zj k_]at L_;cases L_;exact⟨{m0 with key:=kv,val:=a.eval x},by simp[Array.getElem?_modify,q1],rfl,CR,q4,ex⟩
    .rw[Zq hkp]at L_;obtain⟨m1,r1,r2,r3,r4,r5⟩:=b3 k e L_;exact⟨m1,by simp[Array.getElem?_modify,hkp,r1],r2,r3,r4,r5⟩
 .intro hn;rw[hn]at C8;cases r with
  |some p=>cases C8
  |
   none=>
   refine uN ?_ (CA (.map (ms.push {key:=kv,val:=a.eval x,born:=clock}) (clock+1)) _ rfl ⟨_,rfl,by simp[b2],?_,λk e L_=>?_⟩)
   .simp only[execOp,dp,Instr.mapUpdate,hv,hkv,Sem.run_bind,run_underlying h1,Result.andThen_ok,mC,JC,zI,u9,Sem.run_pure]
   .simp only[Array.toList_push,Yn,Yz,Xw];refine List.nodup_append.2 ⟨bnd,by simp,?_⟩;intro q hq q' mR e;simp only[List.mem_singleton]at mR;simp only[Yk]at hq;obtain⟨m1,Hq,rfl⟩:=hq;obtain⟨j,hj,rfl⟩:=List.getElem_of_mem Hq;have hj':j<es.length:=by simp at hj;omega
    obtain⟨m2,r1,_,_,r4,_⟩:=b3 j _ (Zb hj');have:ms.toList[j]=m2:=by
     have:ms.toList[j]?=some m2:=by simpa using r1
     rw[Zb hj]at this;simpa using this
    rw[this]at e;omega
   .by_cases ie:k<es.length
    .rw[Zd ie]at L_;obtain⟨m1,r1,r2,r3,r4,r5⟩:=b3 k e L_;have hkm:k<ms.size:=by omega
     exact⟨m1,by simp[Array.getElem?_push,Xk hkm,r1],r2,r3,by omega,r5⟩
    .have W9:k=es.length:=by
      have:k< (es++[(kv,ev C fr x)]).length:=(Za.1 L_).1;simp at this;omega
     subst W9;simp at L_;subst L_;refine⟨{key:=kv,val:=a.eval x,born:=clock},by rw[<-b2];simp,rfl,CR,by simp,ex⟩
def JD(hs:gf C.G w X ρ h)(hf:RF w (dK X ρ h) ρ h.length a.tmps fr){t:TypeId}{m k x:Operand}(dp:o.op= .mapUpdate t m k x){id:Nat}{s:ByteArray}(hm:ev C fr m= .mp id)(hk:ev C fr k= .sc (.string s))(ht:pO C t=true){es:List (Value × AV)}{clock:Nat}(cZ:h[id]?=some (.map es clock))(mL:es.all ta=true):
 (∀i,qg s es 0=some i->Good C o a w X ρ h .un (h.set id (.map (es.set i (.string s,ev C fr x)) clock)))/\
 (qg s es 0=none->Good C o a w X ρ h .un (h.set id (.map (es++[(.string s,ev C fr x)]) (clock+1)))):=by
 obtain⟨kt,et,h1,h2⟩:=wK ht;exact xR hs hf dp hm hk h1 h2 cZ (λms hl hm=>pN s ms es 0 hl mL hm) (Wb h2 s) (λj hj=>by obtain⟨_,q,r⟩:=CB hj;exact⟨by simpa using q,by simpa using r⟩) (by unfold Instr.sameBits;exact(MapKept.bytes_beq s s).2 rfl) rfl
def Gm(hs:gf C.G w X ρ h)(hf:RF w (dK X ρ h) ρ h.length a.tmps fr){t:TypeId}{m k x:Operand}(dp:o.op= .mapUpdate t m k x){id:Nat}{n:Int}(hm:ev C fr m= .mp id)(hk:ev C fr k= .sc (.int .i64 n))(ht:tc C t=true){es:List (Value × AV)}{clock:Nat}(cZ:h[id]?=some (.map es clock))(mL:es.all td=true):
 (∀i,mQ n es 0=some i->Good C o a w X ρ h .un (h.set id (.map (es.set i (.int .i64 n,ev C fr x)) clock)))/\
 (mQ n es 0=none->Good C o a w X ρ h .un (h.set id (.map (es++[(.int .i64 n,ev C fr x)]) (clock+1)))):=by
 obtain⟨kt,et,h1,h2⟩:=CC ht;exact xR hs hf dp hm hk h1 h2 cZ (λms hl hm=>CD n ms es 0 hl mL hm) (Wc h2 n) (λj hj=>by obtain⟨_,q,r⟩:=JB hj;exact⟨by simpa using q,by simpa using r⟩) (by unfold Instr.sameBits;simp) rfl
def Ma(hs:gf C.G w X ρ h)(hf:RF w (dK X ρ h) ρ h.length a.tmps fr)(hT:∀t i,C.T t=some i->eH C.P t=some i){call:iB}(cJ:iZ C call){r:AV}{h':Hp}(ho:zP C call (ev C fr) h o=some (r,h')):Good C o a w X ρ h r h':=by
 have Gn:∀{r:AV}{h':Hp},((gM C (ev C fr) o).map λy=>(y,h))=some (r,h')->Good C o a w X ρ h r h':=by
  intro r h' hh;simp only[Ze,Zg]at hh;obtain⟨y,hy,rfl,rfl⟩:=hh;exact H4 hs hf hy
 unfold zP at ho;split at ho
 .
  rename_i x dp;simp only[Zc,Zg]at ho;obtain⟨rfl,rfl⟩:=ho;exact T3 hs hf (.inl dp)
 .rename_i x dp;simp only[Zc,Zg]at ho;obtain⟨rfl,rfl⟩:=ho;exact T3 hs hf (.inr dp)
 .rename_i c x y dp;split at ho
  .rename_i t hc;simp only[Zc,Zg]at ho;obtain⟨rfl,rfl⟩:=ho;exact adi hs hf dp hc
  .cases ho
 .rename_i t dp;split at ho
  .rename_i i hi;simp only[Zc,Zg]at ho;obtain⟨rfl,rfl⟩:=ho;exact ZB hs dp (hT t i hi)
  .cases ho
 .rename_i t x dp;split at ho
  .rename_i i cs hi hc;split at ho
   .simp only[Zc,Zg]at ho;obtain⟨rfl,rfl⟩:=ho;exact afL hs hf dp hc
   .cases ho
  .cases ho
 .rename_i t parts dp;split at ho
  .rename_i sz ag zero fs hi;simp only[Ze,Zg]at ho;obtain⟨cs,hc,rfl,rfl⟩:=ho;exact Nz hs hf dp (hT t _ hi) (.inl ⟨fs,rfl,rfl⟩) hc
  .rename_i sz ag zero n Mu eag hi;simp only[Ze,Zg]at ho;obtain⟨cs,hc,rfl,rfl⟩:=ho;exact Nz hs hf dp (hT t _ hi) (.inr ⟨n,Mu,eag,rfl,rfl⟩) hc
  .cases ho
 .rename_i t len parts dp;split at ho
  .rename_i sz ag zero Mu eag eb ez hi;split at ho
   .rename_i I4;simp only[Ze,Zg]at ho;obtain⟨cs,hc,rfl,rfl⟩:=ho;exact F8 hs hf dp (hT t _ hi) rfl I4 hc
   .cases ho
  .cases ho
 .rename_i t x dp;split at ho
  .rename_i i id off hi hx;split at ho
   .rename_i cs cZ;simp only[Ze,Zg]at ho;obtain⟨y,hp,rfl,rfl⟩:=ho;exact adj hs hf dp (hT t i hi) hx cZ hp
   .cases ho
  .rename_i i row j hi hx;simp only[Ze,Zg]at ho;obtain⟨y,hp,rfl,rfl⟩:=ho;exact ZC hs hf dp (hT t i hi) hx hp
  .cases ho
 .rename_i t x y dp;split at ho
  .rename_i i id off vs hi hx hv;split at ho
   .rename_i cs cZ;split at ho
    .rename_i hc;simp only[Zc,Zg]at ho;obtain⟨rfl,rfl⟩:=ho;exact ZD hs hf dp (hT t i hi) hx cZ hv hc.1 hc.2
    .cases ho
   .rename_i cs cZ;split at ho
    .rename_i hc;simp only[Zc,Zg]at ho;obtain⟨rfl,rfl⟩:=ho;exact T4 hs hf dp (hT t i hi) hx cZ hv hc.1 hc.2
    .cases ho
   .cases ho
  .cases ho
 .rename_i x dp;split at ho
  .rename_i id off hx;simp only[Zc,Zg]at ho;obtain⟨rfl,rfl⟩:=ho;have:=T5 hs hf dp (.inl ⟨_,_,hx⟩)
   rwa [hx]at this
  .rename_i row j hx;simp only[Zc,Zg]at ho;obtain⟨rfl,rfl⟩:=ho;have:=T5 hs hf dp (.inr (.inl ⟨_,_,hx⟩))
   rwa [hx]at this
  .rename_i f cs hx;simp only[Zc,Zg]at ho;obtain⟨rfl,rfl⟩:=ho;have:=T5 hs hf dp (.inr (.inr ⟨_,_,hx⟩))
   rwa [hx]at this
  .cases ho
 .rename_i t x f dp;split at ho
  .rename_i sz ag zero fs hi;split at ho
   .rename_i of fsz fag id off uC hx;split at ho
    .cases ho
    .rename_i fX;simp only[Zc,Zg]at ho;obtain⟨rfl,rfl⟩:=ho;exact(MY hs hf dp (hT t _ hi) rfl uC fX).1 id off hx
   .rename_i of fsz fag row j uC hx;split at ho
    .cases ho
    .rename_i fX;simp only[Zc,Zg]at ho;obtain⟨rfl,rfl⟩:=ho;exact(MY hs hf dp (hT t _ hi) rfl uC fX).2 row j hx
   .cases ho
  .cases ho
 .rename_i t x ix dp;split at ho
  .rename_i sz ag zero Mu eag eb ez n hi hn;split at ho
   .rename_i id s off len kk hx;split at ho
    .rename_i hc;simp only[Zc,Zg]at ho;obtain⟨rfl,rfl⟩:=ho;obtain⟨rfl,dm⟩:=hc;exact(H5 hs hf dp (hT t _ hi) rfl hn).1 id off len kk hx dm
    .cases ho
   .rename_i s cg z hx;split at ho
    .rename_i hc;simp only[Ze,Zg]at ho;obtain⟨row,fG,rfl,rfl⟩:=ho;subst hc;exact(H5 hs hf dp (hT t _ hi) rfl hn).2 cg z row hx fG
    .cases ho
   .cases ho
  .rename_i sz ag zero m Mu eag n hi hn;split at ho
   .rename_i id off hx;split at ho
    .rename_i dm;simp only[Zc,Zg]at ho;obtain⟨rfl,rfl⟩:=ho;exact(H6 hs hf dp (hT t _ hi) rfl hn dm).1 id off hx
    .cases ho
   .rename_i row j hx;split at ho
    .rename_i dm;simp only[Zc,Zg]at ho;obtain⟨rfl,rfl⟩:=ho;exact(H6 hs hf dp (hT t _ hi) rfl hn dm).2 row j hx
    .cases ho
   .cases ho
  .cases ho
 .rename_i t x f dp;split at ho
  .rename_i sz ag zero fs cs hi hx;split at ho
   .rename_i off fsz fag uC;simp only[Ze,Zg]at ho;obtain⟨y,hp,rfl,rfl⟩:=ho;exact T7 hs hf dp (hT t _ hi) rfl uC hx hp
   .cases ho
  .cases ho
 .rename_i t x ix dp;split at ho
  .rename_i sz ag zero n Mu eag cs hi hx;split at ho
   .rename_i k hn;split at ho
    .rename_i dm;simp only[Ze,Zg]at ho;obtain⟨y,hp,rfl,rfl⟩:=ho;exact T8 hs hf dp (hT t _ hi) rfl hn dm hx hp
    .cases ho
   .cases ho
  .exact Gn ho
 .rename_i x i dp;split at ho
  .rename_i vs hx;simp only[Ze,Zg]at ho;obtain⟨y,hy,rfl,rfl⟩:=ho;exact Pg hs hf dp hx hy
  .cases ho
 .rename_i f first oe dp
  split at ho
  .rename_i h0;simp only[Zc,Zg]at ho;obtain⟨rfl,rfl⟩:=ho;exact K7 hs hf dp h0
  .simp only[Zc,Zg]at ho;obtain⟨rfl,rfl⟩:=ho;exact cK hs (v:= .func (.func f) (first.map a.eval) (oe.map a.eval)) (by simp[execOp,dp,Instr.makeFunc]) (.im (.oc _ rfl))
 .rename_i t l c dp;split at ho
  .rename_i sz ag zero Mu eag eb ez n m hi hn hm;split at ho
   .rename_i hc;obtain⟨rfl,iF,wP⟩:=hc;simp only[Zc,Zg]at ho;obtain⟨rfl,rfl⟩:=ho;exact I5 hs hf dp (hT t _ hi) rfl hn hm iF wP
   .cases ho
  .cases ho
 .rename_i t x lo hi mx dp;split at ho
  .exact Gn ho
  .split at ho
   .rename_i sz ag zero Mu eag eb ez sI;split at ho
    .rename_i hz;simp only[Ze,Zg]at ho;obtain⟨y,hy,rfl,rfl⟩:=ho;exact aaq hs hf dp (hT t _ sI) rfl hz hy
    .cases ho
   .cases ho
 .rename_i op t x y t' dp;split at ho
  .rename_i hc;have hg:=Wa hs hf dp hc;split at ho
   .simp only[Zc,Zg]at ho;obtain⟨rfl,rfl⟩:=ho;exact hg.1 rfl
   .simp only[Zc,Zg]at ho;obtain⟨rfl,rfl⟩:=ho;exact hg.2 rfl
   .cases ho
  .exact Gn ho
 .rename_i src dst x dp;split at ho
  .rename_i s hx;split at ho
   .rename_i hc;simp only[Zh]at hc;split at ho
    .rename_i iF;simp only[Zc,Zg]at ho;obtain⟨rfl,rfl⟩:=ho;exact Ra hs hf dp hx hc.1 hc.2 iF
    .cases ho
   .exact Gn ho
  .rename_i id off len k hx;split at ho
   .rename_i hc;simp only[Zh]at hc;split at ho
    .rename_i m news hn;simp only[Ze,Zg]at ho;obtain⟨bs,hb,rfl,rfl⟩:=ho;exact L8 hs hf dp hx hc.1 hc.2 hn hb
    .cases ho
   .cases ho
  .exact Gn ho
 .rename_i t dp;split at ho
  .simp only[Zc,Zg]at ho;obtain⟨rfl,rfl⟩:=ho;exact Rc hs dp
  .cases ho
 .rename_i t m k x dp;split at ho
  .rename_i id s hm hk;split at ho
   .rename_i ht;split at ho
    .rename_i es clock cZ;split at ho
     .rename_i mL;have hg:=JD hs hf dp hm hk ht cZ mL;split at ho
      .rename_i i hi;simp only[Zc,Zg]at ho;obtain⟨rfl,rfl⟩:=ho;exact hg.1 i hi
      .rename_i hi;simp only[Zc,Zg]at ho;obtain⟨rfl,rfl⟩:=ho;exact hg.2 hi
     .cases ho
    .cases ho
   .cases ho
  .rename_i id n hm hk;split at ho
   .rename_i ht;split at ho
    .rename_i es clock cZ;split at ho
     .rename_i mL;have hg:=Gm hs hf dp hm hk ht cZ mL;split at ho
      .rename_i i hi;simp only[Zc,Zg]at ho;obtain⟨rfl,rfl⟩:=ho;exact hg.1 i hi
      .rename_i hi;simp only[Zc,Zg]at ho;obtain⟨rfl,rfl⟩:=ho;exact hg.2 hi
     .cases ho
    .cases ho
   .cases ho
  .cases ho
 .rename_i t m k ok dp;split at ho
  .rename_i id s hm hk;split at ho
   .rename_i ht;split at ho
    .rename_i es clock cZ;split at ho
     .rename_i mL;simp only[Ze,Zg]at ho;obtain⟨q,hq,rfl,rfl⟩:=ho;exact Wd hs hf dp hm hk ht cZ mL hq
     .cases ho
    .cases ho
   .cases ho
  .rename_i id n hm hk;split at ho
   .rename_i ht;split at ho
    .rename_i es clock cZ;split at ho
     .rename_i mL;simp only[Ze,Zg]at ho;obtain⟨q,hq,rfl,rfl⟩:=ho;exact Re hs hf dp hm hk ht cZ mL hq
     .cases ho
    .cases ho
   .cases ho
  .exact Gn ho
 .rename_i t x dp;split at ho
  .rename_i s hx;split at ho
   .rename_i ht;simp only[Zc,Zg]at ho;obtain⟨rfl,rfl⟩:=ho;exact aa9 hs hf dp hx ht
   .cases ho
  .cases ho
 .rename_i x dp;split at ho
  .rename_i id hx;split at ho
   .rename_i s pos cZ;obtain⟨g1,g2⟩:=aek hs hf dp hx cZ;split at ho
    .rename_i hp;simp only[Zc,Zg]at ho;obtain⟨rfl,rfl⟩:=ho;exact g1 hp
    .rename_i hp;simp only[Zc,Zg]at ho;obtain⟨rfl,rfl⟩:=ho;exact g2 hp
   .cases ho
  .cases ho
 .rename_i x dp;split at ho
  .rename_i t v hx;simp only[Zc,Zg]at ho;obtain⟨rfl,rfl⟩:=ho;exact aba hs hf dp hx
  .cases ho
 .rename_i f args ya dp;split at ho
  .rename_i g oe Dx;split at ho
   .exact Gn ho
   .exact g_call hs hf cJ dp Dx ho
  .cases ho
 .rename_i args ya dp;split at ho
  .rename_i s x t t' jt Du;split at ho
   .rename_i ht;subst ht;rw[vP jt,vP Du]at dp;exact V6 hs hf dp hT ho
   .rw[vP jt,vP Du]at dp;exact aa6 hs hf dp hT ho
  .cases ho
 .rename_i args ya dp;split at ho
  .rename_i s x t t' jt Du;split at ho
   .rename_i ht;subst ht;rw[vP jt,vP Du]at dp;exact aej hs hf dp hT ho
   .cases ho
  .cases ho
 .rename_i args ya dp;split at ho
  .rename_i x t jt Du;rw[ab6 jt,ab6 Du]at dp;exact aa7 hs hf dp hT ho
  .cases ho
 .rename_i args ya dp;split at ho
  .rename_i m k t t' jt Du;rw[vP jt,vP Du]at dp;split at ho
   .rename_i id s hm hk;split at ho
    .rename_i ht;split at ho
     .rename_i es clock cZ;split at ho
      .rename_i mL;have hg:=We hs hf dp hm hk ht cZ mL;split at ho
       .rename_i i hi;simp only[Zc,Zg]at ho;obtain⟨rfl,rfl⟩:=ho;exact hg.1 i hi
       .rename_i hi;simp only[Zc,Zg]at ho;obtain⟨rfl,rfl⟩:=ho;exact hg.2 hi
      .cases ho
     .cases ho
    .cases ho
   .cases ho
  .cases ho
 .rename_i args ya dp;split at ho
  .rename_i x t jt Du;split at ho
   .rename_i n sz ag zero Mu eag eb ez hn hi;simp only[Zc,Zg]at ho;obtain⟨rfl,rfl⟩:=ho;exact afM hs hf dp jt Du (hT t _ hi) rfl hn
   .exact Gn ho
  .cases ho
 .exact Gn ho
def JE(hs:gf C.G w X ρ h)(hf:RF w (dK X ρ h) ρ h.length a.tmps fr)(hT:∀t i,C.T t=some i->eH C.P t=some i){r:AV}{h':Hp}(ho:oh C (ev C fr) h o=some (r,h')):Good C o a w X ρ h r h':=by
 unfold oh at ho;split at ho
 .rename_i t len parts dp;split at ho
  .rename_i sz ag zero Mu eag eb ez hi;split at ho
   .rename_i I4;split at ho
    .rename_i cs hc;split at ho
     .rename_i dN;simp only[Zc,Zg]at ho;obtain⟨rfl,rfl⟩:=ho;exact F_ hs hf dp (hT t _ hi) rfl I4 hc dN
     .cases ho
    .cases ho
   .cases ho
  .cases ho
 .rename_i t l c dp;split at ho
  .rename_i hi hn hm;split at ho
   .rename_i hc;simp only[Zc,Zg]at ho;obtain⟨rfl,rfl⟩:=ho;obtain⟨rfl,iF,wP⟩:=hc;exact I6 hs hf dp (hT t _ hi) rfl hn hm iF wP
   .cases ho
  .cases ho
 .rename_i t x lo hi dp;split at ho
  .rename_i zero ajF sz ag tu ez id s off len sI hx;split at ho
   .rename_i l m cs hl hm hr;split at ho
    .rename_i hc;simp only[Zc,Zg]at ho;obtain⟨rfl,rfl⟩:=ho;obtain⟨rfl,hlm,oE,dm⟩:=hc;exact aa8 hs hf dp (hT t _ sI) rfl hx hl hm hr hlm oE dm
    .cases ho
   .cases ho
  .cases ho
 .rename_i args ya dp;split at ho
  .rename_i s x t t' hl ht;split at ho
   .rename_i htt;subst htt;have agp:=dp;rw[vP hl,vP ht]at agp;split at ho
    .rename_i hi;split at ho
     .rename_i fX;split at ho
      .rename_i m news s0 z hn hq;have key:=V_ hs hf agp hT hi fX hn hq;split at ho
       .rename_i hm;simp only[Zc,Zg]at ho;obtain⟨rfl,rfl⟩:=ho;exact key.1 hm
       .rename_i hm;split at ho
        .rename_i hc;simp only[Zc,Zg]at ho;obtain⟨rfl,rfl⟩:=ho;exact key.2 (by omega) hc.1 hc.2.1 hc.2.2.1 hc.2.2.2
        .cases ho
      .cases ho
     .cases ho
    .cases ho
   .cases ho
  .cases ho
 .cases ho
def EA(hs:gf C.G w X ρ h)(hf:RF w (dK X ρ h) ρ h.length a.tmps fr)(hT:∀t i,C.T t=some i->eH C.P t=some i){call:iB}(cJ:iZ C call){r:AV}{h':Hp}(ho:lG C call (ev C fr) h o=some (r,h')):Good C o a w X ρ h r h':=by
 unfold lG at ho;split at ho
 .exact JE hs hf hT ho
 .exact Ma hs hf hT cJ ho
end ops
end Go.Ae
