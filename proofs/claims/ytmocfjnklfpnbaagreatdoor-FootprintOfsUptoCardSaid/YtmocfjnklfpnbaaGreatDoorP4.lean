/- Part of the proof. -/
import Derived.Test.YtmocfjnklfpnbaaGreatDoorP3
import Derived.Lib.AppendZeros
set_option linter.all false
namespace Go.Ae
open Go
section ops
variable {C : Cx} {w : World} {X : Nat -> Prop} {ρ : Nat -> Nat} {h : Hp} {a : Act} {fr : List AV} {o : Oper}
def ui{α:Type}{xs:Array α}{x y:α}(h:xs.toList=[x,y]):xs= #[x,y]:=by
 obtain⟨l⟩:=xs;simp only at h;rw[h]
def aal{α:Type}{xs:Array α}{x:α}(h:xs.toList=[x]):xs= #[x]:=by
 obtain⟨l⟩:=xs;simp only at h;rw[h]
def o6{P:Program}{t ty e:TypeId}{i:TypeInfo}(ht:P.underlying t=some (.slice e))(hi:P.info? e=some i)(b0 base:Option Addr)(n rM cap:Nat)(hn:n<=rM)(w:World):
 (Builtin.append_ #[t,t] ty #[.slice b0 n rM,.slice base 0 cap]).run P w= .ok (.slice b0 n rM) w:=by
 cases b0<;>cases base<;>
  simp[Builtin.append_,run_underlying ht,sizeOf,typeInfo,hi,Builtin.lenOf,Builtin.firstCells,loadCells,loadCellsFrom,hn,storeCells]
def yt{P:Program}{t ty e:TypeId}{i:TypeInfo}(ht:P.underlying t=some (.slice e))(hi:P.info? e=some i)(b o' YB acs m c:Nat)(ad:Addr)(news:List Value)(hl:news.length=m*i.size){w w':World}(nb:∀(j:Nat)(u:Value),news[j]?=some u->w.cell? (ad.add j)=some u)(AU:YB+m<=acs)(dO:(storeCells ⟨b,o'+YB*i.size,none⟩ news).run P w= .ok () w'):
 (Builtin.append_ #[t,t] ty #[.slice (some ⟨b,o',none⟩) YB acs,.slice (some ad) m c]).run P w= .ok (.slice (some ⟨b,o',none⟩) (YB+m) acs) w':=by
 have hf:=run_firstCells_some (P:=P) w i.size m ad m c news hl nb;simp[Builtin.append_,run_underlying ht,sizeOf,typeInfo,hi,Builtin.lenOf,AU,hf,add_lit,dO]
def Ig{w w':World}{O O':Nat->Prop}(dO:Step w O w' O'){X':Nat->Prop}{ρ':Nat->Nat}{n' id sz off len cap:Nat}{cV:Array Value}{t:TypeId}{fz:Nat × Nat}(ej:id<n')(hw:w.heap[ρ' id]?=some (.cells cV t fz))(h1:off+cap*sz=cV.size)(h2:len<=cap)(h3:cap<=maxLen):Rp w' X' ρ' n' (.slice (some ⟨ρ' id,off,none⟩) len cap) (.sl id sz off len false):=by
 obtain⟨c',t',f',hc,ik⟩:=dO.row _ _ _ _ hw;exact .sl id sz off len cap false c' t' f' ej hc (by omega) (by simp) (by intro;omega) h2 h3
def tv{G:Nat->Option (List Value)}(hs:ia G w X ρ h)(e:TypeId)(dI zeros:List Value){cs:List AV}(cp:dI.length=cs.length)(mi:∀u∈dI,u.oneCell'=true)(mU:∀(k:Nat)(y:AV),cs[k]?=some y->Rp w (dZ X ρ h) ρ h.length (dI.getD k undef) y)(cV:Array Value)(nN:cV=(dI++zeros).toArray):
 Ext G w X ρ h (w.drew.alloc (.cells cV e (0,0))) (λi=>if i=h.length then w.heap.size else ρ i) (h++[.row cs]):=by
 have h1:=pC hs (w.drawn+1);have h2:=sS h1.uj cV e cs (λk=>dI.getD k undef) (by subst nN;simp;omega) (λk x hk=>by
  have iB:k<dI.length:=by have:=(Za.1 hk).1;omega
  have hv:dI.getD k undef=dI[k]:=by simp[List.getD,Zb iB]
  refine⟨?_,by rw[hv];exact mi _ (List.getElem_mem iB),h1.rp (mU k x hk)⟩;subst nN;rw[List.getElem?_toArray,Zd iB,hv,Zb iB]) (0,0) (.inl rfl)
 exact h1.trans h2
def jJ{x s:Operand}{t:TypeId}(dq:o.op= .call {callee:= .builtin .append,args:= #[s,x],argTypes:= #[t,t]}){v:Value}{w':World}(hr:(Builtin.append_ #[t,t] o.type #[a.eval s,a.eval x]).run C.P w= .ok v w'):(execOp a.eval o).run C.P w= .ok (.value v) w':=by
 unfold execOp;simp only[dq,resolve,invoke,builtin,Sem.run_bind,Sem.run_pure,Result.andThen_ok,List.map_toArray,Yn,Xm,hr]
def DM(hs:ia C.G w X ρ h){s x:Operand}{t e:TypeId}{ei:TypeInfo}{z':Value}(dq:o.op= .call {callee:= .builtin .append,args:= #[s,x],argTypes:= #[t,t]})(h1:C.P.underlying t=some (.slice e))(k1:C.P.info? e=some ei)(k3:ei.zero=some z')(k9:z'.cells.size=ei.size){ad:Addr}{n jF:Nat}(hv:a.eval s= .slice (some ad) n jF){olds:List Value}{OH:List AV}(hol:olds.length=n*ei.size)(hoA:OH.length=olds.length)(hoc:∀(j:Nat)(u:Value),olds[j]?=some u->w.cell? (ad.add j)=some u)(ho1:∀u∈olds,u.oneCell'=true)(pI:∀(k:Nat)(y:AV),OH[k]?=some y->Rp w (dZ X ρ h) ρ h.length (olds.getD k undef) y){b o' m cap:Nat}{dI:List Value}{news:List AV}(hx:a.eval x= .slice (some ⟨b,o',none⟩) m cap)(u9:dI.length=m*ei.size)(BT:news.length=m*ei.size)(fO:∀(j:Nat)(u:Value),dI[j]?=some u->w.cell? ((⟨b,o',none⟩:Addr).add j)=some u)(mi:∀u∈dI,u.oneCell'=true)(mU:∀(k:Nat)(y:AV),news[k]?=some y->Rp w (dZ X ρ h) ρ h.length (dI.getD k undef) y)(v_:jF<n+m)(j5:n+m<=maxLen)(yF:(n+m)*ei.bytes<=140737488355328):
 Good C o a w X ρ h (.sl h.length ei.size 0 (n+m) false) (h++[.row (OH++news)]):=by
 have YC:=grownCap_le_maxLen w (n+m) jF e j5;have vK:=grownCap_ge w (n+m) jF e;have he:=tv hs e (olds++dI) (Builtin.zeroCells z'.cells (grownCap w (n+m) jF e-(n+m))).toList (cs:=OH++news) (by simp;omega)
  (λu hu=>by
   rcases Zz.1 hu with hu|hu
   .exact ho1 u hu
   .exact mi u hu)
  (λk y YD=>by
   by_cases iB:k<OH.length
   .rw[Zd iB]at YD;have e2:(olds++dI).getD k undef=olds.getD k undef:=by
     simp only[List.getD];rw[Zd (by omega)]
    rw[e2];exact pI k y YD
   .rw[Zf (by omega)]at YD;have e2:(olds++dI).getD k undef=dI.getD (k-OH.length) undef:=by
     simp only[List.getD];rw[Zf (by omega),hoA]
    rw[e2];exact mU _ y YD)
  (olds.toArray++dI.toArray++Builtin.zeroCells z'.cells (grownCap w (n+m) jF e-(n+m))) (by apply Array.ext';simp)
 have sO:((n+m:Nat):Int)<=9223372036854775807:=by simp only[maxLen]at j5;omega
 refine eD (v:= .slice (some ⟨w.heap.size,0,none⟩) (n+m) (grownCap w (n+m) jF e)) ?_ he (uW w _ h ρ _ _ _ _ _ (by simp) _ e (0,0) (jZ w.drew _) ?_ vK YC)
 .refine jJ dq ?_;rw[hv,hx];exact run_append_grow (P:=C.P) w t o.type e ei z' h1 k1 k3 ad n jF olds hol hoc ⟨b,o',none⟩ m cap dI u9 fO v_ sO (growslice_fits v_ yF)
 .rw[Array.size_append,Array.size_append,List.size_toArray,List.size_toArray,size_zeroCells,k9,u9,hol,<-Xh,<-Xh]
  congr 1
  omega
def YE{b o' sz:Nat}{X:Nat->Prop}{cq:List (List AV)}{us:Nat->Nat->Value}{cV:Array Value}{t0:TypeId}{fz:Nat × Nat}(ik:0<sz)(c2:w.heap[b]?=some (Obj.cells cV t0 fz))(c7:∀(i:Nat)(row:List AV),cq[i]?=some row->row.length=sz)(c8:∀(i:Nat)(row:List AV)(j:Nat)(x:AV),cq[i]?=some row->row[j]?=some x->cV[o'+i*sz+j]?=some (us i j)/\Value.oneCell' (us i j)=true/\Ri w X (us i j) x):
 ∃dI:List Value,dI.length=cq.length*sz/\cq.flatten.length=cq.length*sz/\(∀(j:Nat)(u:Value),dI[j]?=some u->w.cell? ((⟨b,o',none⟩:Addr).add j)=some u)/\(∀u∈dI,u.oneCell'=true)/\
  ∀(k:Nat)(y:AV),cq.flatten[k]?=some y->Ri w X (dI.getD k undef) y:=by
 have fZ:∀row∈cq,row.length=sz:=λrow hm=>by
  obtain⟨k,hk,rfl⟩:=List.getElem_of_mem hm;exact c7 k _ (Zb hk)
 have hfg:=sJ ik cq fZ;have cp:=e9 cq fZ;refine⟨(List.range (cq.length*sz)).map λk=>us (k/sz) (k % sz),by simp,cp,?_,?_,?_⟩
 .intro j u hj;simp only[Zs,Ze]at hj;obtain⟨k,hk,rfl⟩:=hj;have lD:j<cq.length*sz:=by have:=(Za.1 hk).1;simpa using this
  rw[Yz lD]at hk;cases hk;have h1:j/sz<cq.length:=by rw[Nat.div_lt_iff_lt_mul ik];exact lD
  have h2:j % sz< (cq[j/sz]).length:=by rw[c7 _ _ (Zb h1)];exact Nat.mod_lt _ ik
  have:=c8 (j/sz) _ (j % sz) _ (Zb h1) (Zb h2);rw[add_lit,oS c2,<-this.1]
  congr 1
  have:=Nat.div_add_mod j sz;rw[Nat.mul_comm]at this;omega
 .intro u hu;simp only[Yf,List.mem_range]at hu;obtain⟨j,lD,rfl⟩:=hu;have h1:j/sz<cq.length:=by rw[Nat.div_lt_iff_lt_mul ik];exact lD
  have h2:j % sz< (cq[j/sz]).length:=by rw[c7 _ _ (Zb h1)];exact Nat.mod_lt _ ik
  exact(c8 (j/sz) _ (j % sz) _ (Zb h1) (Zb h2)).2.1
 .intro k y hk;have iB:k<cq.length*sz:=by have:=(Za.1 hk).1;rwa [cp]at this
  rw[hfg]at hk;simp only[Ye]at hk;obtain⟨row,hr,hy⟩:=hk;have:=c8 _ row _ y hr hy;have e2:((List.range (cq.length*sz)).map λk=>us (k/sz) (k % sz)).getD k undef=us (k/sz) (k % sz):=by simp[List.getD,Yz iB]
  rw[e2];exact this.2.2
def YF(hs:ia C.G w X ρ h)(hf:RF w (dZ X ρ h) ρ h.length a.tmps fr){s x:Operand}{t tn:TypeId}(dq:o.op= .call {callee:= .builtin .append,args:= #[s,x],argTypes:= #[t,tn]})(hT:∀t i,C.T t=some i->ir C.P t=some i){r:AV}{h':Hp}(ha:zJ C h t tn (ev C fr s) (ev C fr x)=some (r,h')):Good C o a w X ρ h r h':=by
 unfold zJ at ha;split at ha
 case h_2=>cases ha
 rename_i sz ag tM ez n IX hsv hn;split at ha
 case isFalse=>cases ha
 rename_i hc;obtain⟨hint,vP,j5,yF⟩:=hc;simp only[Zc,Zg]at ha;obtain⟨rfl,rfl⟩:=ha;obtain⟨d,info,z,h1,h2,h3,h4,h5,h6,h7,h8,h9⟩:=eX (hT t _ IX);obtain⟨e,ei,ed,z',rfl,k1,k2,k3,rfl,k5,rfl,rfl,k8,k9,C4⟩:=gX h4;have es:=dM hs hf s;rw[hsv]at es;have hv:=es.dQ.1;obtain⟨q,j,hj,AR,Cc⟩:=mh (dM hs hf x) hn;have aiW:j=(n:Int):=by omega
 subst aiW;obtain⟨kn,htn⟩:∃kn,C.P.underlying tn=some (.int kn):=by
  unfold I4 at hint;split at hint
  .rename_i k hk;exact⟨k,hk⟩
  .cases hint
 have sO:(n:Int)<=9223372036854775807:=by simp only[maxLen]at j5;omega
 have YC:=grownCap_le_maxLen w n 0 e j5;have vK:=grownCap_ge w n 0 e;have hz:=wk (w:=w) (X:=dZ X ρ h) (ρ:=ρ) k8 h.length n (by omega);change RC w (dZ X ρ h) ρ h.length (Builtin.zeroCells z'.cells n) _ at hz;obtain⟨z1,z2,z3⟩:=hz;have aew:∀k,(Builtin.zeroCells z'.cells n).toList.getD k undef=(Builtin.zeroCells z'.cells n).getD k undef:=λk=>by simp[List.getD,Zr]
 have he:=tv hs e (Builtin.zeroCells z'.cells n).toList (Builtin.zeroCells z'.cells (grownCap w n 0 e-n)).toList (cs:=(List.range n).flatMap λ_=>z'.cells.toList.map .sc) (by rw[<-z1];simp)
  (λu hu=>by
   obtain⟨k,hk,rfl⟩:=List.getElem_of_mem hu;have kD:k< (Builtin.zeroCells z'.cells n).size:=by simpa using hk
   have h2:=z2 k kD;have e2:(Builtin.zeroCells z'.cells n).getD k undef=(Builtin.zeroCells z'.cells n)[k]:=by simp[kD]
   rw[e2]at h2;simpa using h2)
  (λk y hk=>by rw[aew k];exact z3 k y hk)
  (Builtin.zeroCells z'.cells n++Builtin.zeroCells z'.cells (grownCap w n 0 e-n)) (by apply Array.ext';simp)
 refine eD (v:= .slice (some ⟨w.heap.size,0,none⟩) n (grownCap w n 0 e)) ?_ he (uW w _ h ρ _ _ _ _ _ (by simp) _ e (0,0) (jZ w.drew _) ?_ vK YC)
 .unfold execOp;have hr:=Lib.run_append_nil_zeros (P:=C.P) w t tn o.type e ei z' q kn h1 htn k1 k3 n vP C4 sO (by omega);rw[<-hv,<-hj]at hr;simp only[dq,resolve,invoke,builtin,Sem.run_bind,Sem.run_pure,Result.andThen_ok,List.map_toArray,Yn,Xm,hr]
 .rw[Array.size_append,size_zeroCells,size_zeroCells,k9,<-Xh]
  congr 1
  omega
def TY(hs:ia C.G w X ρ h)(hf:RF w (dZ X ρ h) ρ h.length a.tmps fr){s x:Operand}{t:TypeId}(dq:o.op= .call {callee:= .builtin .append,args:= #[s,x],argTypes:= #[t,t]})(hT:∀t i,C.T t=some i->ir C.P t=some i){r:AV}{h':Hp}(ha:fg C h t (ev C fr s) (ev C fr x)=some (r,h')):Good C o a w X ρ h r h':=by
 unfold fg at ha;split at ha
 case h_2=>cases ha
 rename_i sz ag tM ez IX;obtain⟨d,info,z,h1,h2,h3,h4,h5,h6,h7,h8,h9⟩:=eX (hT t _ IX);obtain⟨e,ei,ed,z',rfl,k1,k2,k3,rfl,k5,rfl,k7,k8,k9,C4⟩:=gX h4;split at ha
 case isFalse=>cases ha
 rename_i ik;simp only[Zh]at ik;split at ha
 case h_2=>cases ha
 rename_i m news nb;obtain⟨base,cap,hx,BT,wF⟩:=p5 hs hf C4 ik.2 nb;have es:=dM hs hf s;split at ha
 .
  rename_i hm;subst hm;have hval:∃b0 n rM,a.eval s= .slice b0 n rM/\n<=rM/\r=ev C fr s/\h'=h:=by
   cases hq:ev C fr s with
   |sc u=>
    rw[hq]at ha es ik;split at ha
    .rename_i hu;simp only[AV.sc.injEq]at hu;subst hu;simp only[Zc,Zg]at ha;exact⟨none,0,0,es.dQ.1,Yq _,ha.1.symm,ha.2.symm⟩
    .rename_i hu;cases hu
    .rename_i hu;cases hu
    .cases ha
   |ls oG cq zz=>
    rw[hq]at ha es;simp only[Zc,Zg]at ha;rcases es.mg.iR with⟨rfl,b,jF,hv,_⟩|⟨b,o',jF,us,cV,t0,fz,hv,_,_,hc,_⟩
    .exact⟨b,0,jF,hv,Yt _,ha.1.symm,ha.2.symm⟩
    .exact⟨_,_,jF,hv,hc,ha.1.symm,ha.2.symm⟩
   |sl id oG off len k=>
    rw[hq]at ha es;simp only[Zc,Zg]at ha;obtain⟨jF,cV,t0,fz,hv,_,_,_,_,_,hc,_⟩:=es.kr;exact⟨_,_,jF,hv,hc,ha.1.symm,ha.2.symm⟩
   |_=>rw[hq]at ha;cases ha
  obtain⟨b0,n,rM,hv,cP,rfl,rfl⟩:=hval;refine cN hs (jJ dq (v:= .slice b0 n rM) (by rw[hv,hx];exact o6 h1 k1 b0 base n rM cap cP w)) ?_;rw[<-hv];exact es
 .rename_i hm;rcases wF with F2|⟨b,o',dI,rfl,u9,fO,mi,mU⟩
  .exact absurd F2 hm
  have TZ:0<m:=by omega
  have fresh:(∃b0,a.eval s= .slice b0 0 0)->m<=maxLen->m*ei.bytes<=140737488355328->Good C o a w X ρ h (.sl h.length ei.size 0 m false) (h++[.row news]):=by
   rintro⟨b0,hv⟩ j5 yF;have sO:(m:Int)<=9223372036854775807:=by simp only[maxLen]at j5;omega
   have YC:=grownCap_le_maxLen w m 0 e j5;have vK:=grownCap_ge w m 0 e;have he:=tv hs e dI (Builtin.zeroCells z'.cells (grownCap w m 0 e-m)).toList (cs:=news) (by omega) mi mU (dI.toArray++Builtin.zeroCells z'.cells (grownCap w m 0 e-m)) (by apply Array.ext';simp);refine eD (v:= .slice (some ⟨w.heap.size,0,none⟩) m (grownCap w m 0 e)) ?_ he (uW w _ h ρ _ _ _ _ _ (by simp) _ e (0,0) (jZ w.drew _) ?_ vK YC)
   .refine jJ dq ?_;rw[hv,hx];cases b0 with
    |none=>exact run_append_nil (P:=C.P) w t o.type e ei z' h1 k1 k3 ⟨b,o',none⟩ m cap dI u9 fO TZ sO (by omega)
    |some ad=>
     have:=run_append_grow (P:=C.P) w t o.type e ei z' h1 k1 k3 ad 0 0 [] (by simp) (by simp) ⟨b,o',none⟩ m cap dI u9 fO (by omega) (by simpa using sO) (growslice_fits (by omega) (by simpa using yF));simpa using this
   .simp only[Array.size_append,List.size_toArray,size_zeroCells,k9,u9,<-Xh]
    congr 1
    omega
  split at ha
  .rename_i hq;split at ha
   .rename_i hc;simp only[Zc,Zg]at ha;obtain⟨rfl,rfl⟩:=ha;rw[hq]at es;exact fresh ⟨none,es.dQ.1⟩ hc.1 hc.2
   .cases ha
  .rename_i oG cq hq;split at ha
   .rename_i hc;simp only[Zc,Zg]at ha;obtain⟨rfl,rfl⟩:=ha;rw[hq]at es ik;have T0:oG=ei.size:=by simpa[kM]using ik.1
    subst T0;rcases es.mg.iR with⟨rfl,b0,jF,hv,_,rK⟩|⟨b0,o0,jF,us,cV,t0,fz,hv,c1,c2,_,_,rK,c7,c8⟩
    .rw[rK rfl]at hv;have:=fresh ⟨b0,hv⟩ (by simpa using hc.1) (by simpa using hc.2);simpa using this
    .rw[rK rfl]at hv;obtain⟨olds,q1,q2,q3,q4,q5⟩:=YE (w:=w) (X:=dZ X ρ h) C4 c2 c7 c8;exact DM hs dq h1 k1 k3 k9 hv q1 (by omega) q3 q4 (λk y hk=> .im (q5 k y hk)) hx u9 BT fO mi mU (by omega) hc.1 hc.2
   .cases ha
  .rename_i id oG off len hq;rw[hq]at es ik;have T0:oG=ei.size:=by simpa[kM]using ik.1
   subst T0;obtain⟨jF,cV,t0,fz,hv,DN,mX,rK,hk,_,Sc,FD⟩:=es.kr;split at ha
   case h_2=>cases ha
   rename_i cs ej;split at ha
   case isFalse=>cases ha
   rename_i hc;simp only[Zc,Zg]at ha;obtain⟨rfl,rfl⟩:=ha;obtain⟨T8,t1,fz1,us,c1,c3⟩:=hs.cells ej;rw[hk rfl]at hv;have mj:∀j,j<len*ei.size->cs[off+j]?=some cs[off+j]!:=λj hj=>by
    have:off+j<cs.length:=by omega
    simp[Zb this,getElem!_pos cs (off+j) this]
   refine DM hs dq h1 k1 k3 k9 hv (olds:=(List.range (len*ei.size)).map λj=>us (off+j)) (by simp) (by simp;omega) ?_ ?_ ?_ hx u9 BT fO mi mU (by omega) hc.2.1 hc.2.2
   .intro j u hj;simp only[Zs,Ze]at hj;obtain⟨k,kD,rfl⟩:=hj;have lD:j<len*ei.size:=by have:=(Za.1 kD).1;simpa using this
    rw[Yz lD]at kD;cases kD;rw[add_lit,oS c1];exact(c3 _ _ (mj j lD)).1
   .intro u hu;simp only[Yf,List.mem_range]at hu;obtain⟨j,lD,rfl⟩:=hu;exact(c3 _ _ (mj j lD)).2.1
   .intro k y kD;rw[Xi]at kD;split at kD
    .rename_i iB;rw[Xj]at kD;have e2:((List.range (len*ei.size)).map λj=>us (off+j)).getD k undef=us (off+k):=by simp[List.getD,Yz iB]
     rw[e2];exact(c3 _ y kD).2.2
    .cases kD
  .rename_i id oG off len hq;rw[hq]at es ik;have T0:oG=ei.size:=by simpa[kM]using ik.1
   subst T0;obtain⟨jF,cV,t0,fz,hv,DN,mX,_,_,aam,Sc,FD⟩:=es.kr;have rK:=aam rfl;split at ha
   case h_2=>cases ha
   rename_i cs ej;obtain⟨T8,t1,fz1,us,c1,hfz1,c2,c3⟩:=hs.row id cs ej;have ta:T8=cV:=by rw[mX]at c1;cases c1;rfl
   subst ta;split at ha
   .
    rename_i AU;simp only[Zc,Zg]at ha;obtain⟨rfl,rfl⟩:=ha;have gE:len+m<=jF:=by
     have:(len+m)*ei.size<=jF*ei.size:=by omega
     exact Nat.le_of_mul_le_mul_right this C4
    obtain⟨w',dO,he⟩:=pS hs ej (off:=off+len*ei.size) (vs:=news) (by rw[BT];rw[Xh]at AU;omega) (dI:=dI) (by omega) mi mU;refine eD (v:= .slice (some ⟨ρ id,off,none⟩) (len+m) jF) ?_ he (Ig he.step (by simpa using DN) mX rK gE FD);refine jJ dq ?_;rw[hv,hx];exact yt h1 k1 _ _ _ _ _ _ _ dI u9 fO gE dO
   .split at ha
    case isFalse=>cases ha
    rename_i hnroom hc;obtain⟨rfl,gI,j5,yF⟩:=hc;simp only[Zc,Zg]at ha;obtain⟨rfl,rfl⟩:=ha;by_cases gE:len+m<=jF
    .
     have EK:cs.length+news.length<=T8.size:=by
      rw[gI,BT,<-Xh,<-rK,Xk];exact Nat.mul_le_mul_right _ gE
     obtain⟨w',dO,he⟩:=AQ hs ej (off:=cs.length) (vs:=news) (Yq _) (λkl t' I1 z_=>by rw[mX]at z_;cases z_;exact EK) (dI:=dI) (by omega) mi mU;have mZ:cF cs cs.length news=cs++news:=by simp[cF]
     rw[mZ]at he;have QC:(h.set id (eV.row (cs++news)))[id]?=some (.row (cs++news)):=by
      have:id<h.length:=DN;simp[this]
     have hr:=I3 he.uj id (cs++news) QC;have kQ:(h.set id (eV.row (cs++news))).set id eV.dead=h.set id eV.dead:=by simp
     rw[kQ]at hr;have fZ:=he.trans hr;refine eD (v:= .slice (some ⟨ρ id,0,none⟩) (len+m) jF) ?_ fZ ?_
     .refine jJ dq ?_;rw[hv,hx];refine yt h1 k1 _ _ _ _ _ _ _ dI u9 fO gE ?_;rw[Xk,<-gI];exact dO
     .have:=Ig (X':=dZ X (λi=>if i=(h.set id (eV.row (cs++news))).length then ρ id else ρ i) (h.set id eV.dead++[eV.row (cs++news)])) (ρ':=λi=>if i=(h.set id (eV.row (cs++news))).length then ρ id else ρ i)
       (n':=(h.set id eV.dead++[eV.row (cs++news)]).length) (id:=h.length) (sz:=ei.size) (off:=0) (len:=len+m) (cap:=jF) fZ.step (by simp) (by simpa using mX) rK gE FD
      simpa using this
    .
     have hk:=P5 hs id;have acu:∀(j:Nat)(u:Value),((List.range cs.length).map us)[j]?=some u->w.cell? ((⟨ρ id,0,none⟩:Addr).add j)=some u:=by
      intro j u hj;simp only[Zs,Ze]at hj;obtain⟨k,kD,rfl⟩:=hj;have lD:j<cs.length:=by have:=(Za.1 kD).1;simpa using this
      rw[Yz lD]at kD;cases kD;rw[add_lit,oS mX,Xk];exact(c3 j _ (Zb lD)).1
     have Lb:((List.range cs.length).map us).length=cs.length:=by simp
     have YC:=grownCap_le_maxLen w (len+m) jF e j5;have vK:=grownCap_ge w (len+m) jF e;have he:=tv hk.uj e ((List.range cs.length).map us++dI) (Builtin.zeroCells z'.cells (grownCap w (len+m) jF e-(len+m))).toList (cs:=cs++news) (by simp;omega)
      (λu hu=>by
       rcases Zz.1 hu with hu|hu
       .simp only[Yf,List.mem_range]at hu;obtain⟨j,lD,rfl⟩:=hu;exact(c3 j _ (Zb lD)).2.1
       .exact mi u hu)
      (λk y YD=>by
       by_cases iB:k<cs.length
       .rw[Zd iB]at YD;have e2:((List.range cs.length).map us++dI).getD k undef=us k:=by
         simp only[List.getD];rw[Zd (by simpa using iB)];simp[Yz iB]
        rw[e2];exact hk.rp (c3 k y YD).2.2
       .rw[Zf (by omega)]at YD;have e2:((List.range cs.length).map us++dI).getD k undef=dI.getD (k-cs.length) undef:=by
         simp only[List.getD];rw[Zf (by simp;omega)];simp
        rw[e2];exact hk.rp (mU _ y YD))
      (((List.range cs.length).map us).toArray++dI.toArray++Builtin.zeroCells z'.cells (grownCap w (len+m) jF e-(len+m))) (by apply Array.ext';simp)
     have fZ:=hk.trans he;have sO:((len+m:Nat):Int)<=9223372036854775807:=by simp only[maxLen]at j5;omega
     have qV:(h.set id eV.dead).length=h.length:=by simp
     rw[qV]at fZ;refine eD (v:= .slice (some ⟨w.heap.size,0,none⟩) (len+m) (grownCap w (len+m) jF e)) ?_ fZ (uW w _ h ρ _ _ _ _ _ (by simp) _ e (0,0) (jZ w.drew _) ?_ vK YC)
     .refine jJ dq ?_;rw[hv,hx];exact run_append_grow (P:=C.P) w t o.type e ei z' h1 k1 k3 ⟨ρ id,0,none⟩ len jF ((List.range cs.length).map us) (by simp[gI]) acu ⟨b,o',none⟩ m cap dI u9 fO (by omega) sO (growslice_fits (by omega) yF)
     .rw[Array.size_append,Array.size_append,List.size_toArray,List.size_toArray,size_zeroCells,k9,u9,Lb,gI,<-Xh,<-Xh]
      congr 1
      omega
  .cases ha
def T9(hs:ia C.G w X ρ h)(hf:RF w (dZ X ρ h) ρ h.length a.tmps fr){s x:Operand}{t:TypeId}(dq:o.op= .call {callee:= .builtin .append,args:= #[s,x],argTypes:= #[t,t]})(hT:∀t i,C.T t=some i->ir C.P t=some i){sz tM:Nat}{zero:List Value}{size:Nat}{agg ag:Bool}{ez:List Value}(IX:C.T t=some {size:=size,agg:=agg,zero:=zero,kd:= .slice sz ag tM ez})(ik:(kM sz (ev C fr s) && kM sz (ev C fr x))=true){m:Nat}{news:List AV}(nb:gV h (ev C fr x)=some (m,news)){s0:Nat}{z:Bool}(hq:ev C fr s= .ls s0 [] z):
 (m=0->Good C o a w X ρ h (.ls s0 [] z) h)/\(0<m->m<=maxLen->m*tM<=140737488355328->z=true->news.all calm=true->Good C o a w X ρ h (.ls sz (chunk sz m news) false) h):=by
 obtain⟨d,info,zv,h1,h2,h3,h4,h5,h6,h7,h8,h9⟩:=eX (hT t _ IX);obtain⟨e,ei,ed,z',rfl,k1,k2,k3,rfl,k5,rfl,k7,k8,k9,C4⟩:=gX h4;simp only[Zh]at ik;obtain⟨base,cap,hx,BT,wF⟩:=p5 hs hf C4 ik.2 nb;have es:=dM hs hf s;rw[hq]at es;have Mq:∃b0 rM,a.eval s= .slice b0 0 rM/\(z=true->rM=0):=by
  rcases es.mg.iR with⟨_,b0,jF,hv,_,rK⟩|⟨b0,o0,jF,us,cV,t0,fz,hv,c1,c2,_,_,rK,c7,c8⟩
  .exact⟨b0,jF,hv,rK⟩
  .exact⟨_,jF,hv,λhz=>rK hz⟩
 obtain⟨b0,rM,hv,rO⟩:=Mq;refine⟨λhm=>?_,λTZ j5 yF hz fZ=>?_⟩
 .subst hm;refine cN hs (jJ dq (v:= .slice b0 0 rM) (by rw[hv,hx];exact o6 h1 k1 b0 base 0 rM cap (Yt _) w)) ?_;rw[<-hv];exact es
 .have aiX:=rO hz;subst aiX;rcases wF with F2|⟨b,o',dI,rfl,u9,fO,mi,mU⟩
  .omega
  have sO:(m:Int)<=9223372036854775807:=by simp only[maxLen]at j5;omega
  have YC:=grownCap_le_maxLen w m 0 e j5;have vK:=grownCap_ge w m 0 e;have dO:Step w eK (w.drew.alloc (.cells (dI.toArray++Builtin.zeroCells z'.cells (grownCap w m 0 e-m)) e (0,0))) eK:=(HN w (w.drawn+1) (by omega)).trans (mK w.drew _);refine xB (cap:=grownCap w m 0 e) hs dO (jZ w.drew _) (by rw[BT];exact Yq _) vK YC false (λhh=>by cases hh) fZ (λk y hk=>?_) ?_
  .have iB:k<dI.length:=by have:=(Za.1 hk).1;omega
   refine⟨dI[k],?_,mi _ (List.getElem_mem iB),?_⟩
   .rw[Array.getElem?_append_left (by simpa using iB)];simp[iB]
   .have:=mU k y hk;simpa[List.getD,Zb iB]using this
  .refine jJ dq ?_;rw[hv,hx];cases b0 with
   |none=>exact run_append_nil (P:=C.P) w t o.type e ei z' h1 k1 k3 ⟨b,o',none⟩ m cap dI u9 fO TZ sO (by omega)
   |some ad=>
    have:=run_append_grow (P:=C.P) w t o.type e ei z' h1 k1 k3 ad 0 0 [] (by simp) (by simp) ⟨b,o',none⟩ m cap dI u9 fO (by omega) (by simpa using sO) (growslice_fits (by omega) (by simpa using yF));simpa using this
def acv(hs:ia C.G w X ρ h)(hf:RF w (dZ X ρ h) ρ h.length a.tmps fr){s x:Operand}{t:TypeId}(dq:o.op= .call {callee:= .builtin .copy,args:= #[s,x],argTypes:= #[t,t]})(hT:∀t i,C.T t=some i->ir C.P t=some i){r:AV}{h':Hp}(ha:P6 C h t (ev C fr s) (ev C fr x)=some (r,h')):Good C o a w X ρ h r h':=by
 have hex:∀{v:Value}{w':World},(Builtin.copy_ #[t,t] o.type #[a.eval s,a.eval x]).run C.P w= .ok v w'->(execOp a.eval o).run C.P w= .ok (.value v) w':=by
  intro v w' hr;unfold execOp;simp only[dq,resolve,invoke,builtin,Sem.run_bind,Sem.run_pure,Result.andThen_ok,List.map_toArray,Yn,Xm,hr]
 unfold P6 at ha;split at ha
 case h_2=>cases ha
 rename_i sz ag tM ez IX;obtain⟨d,info,z,h1,h2,h3,h4,h5,h6,h7,h8,h9⟩:=eX (hT t _ IX);obtain⟨e,ei,ed,z',rfl,k1,k2,k3,rfl,k5,rfl,k7,k8,k9,C4⟩:=gX h4;split at ha
 case isFalse=>cases ha
 rename_i ik;simp only[Zh]at ik;have es:=dM hs hf s;split at ha
 case h_4=>cases ha
 .rename_i m news id oG off len kk nb hq;obtain⟨base,cap,hx,BT,wF⟩:=p5 hs hf C4 ik.2 nb;rw[hq]at es;obtain⟨jF,cV,t0,fz,hv,DN,mX,rK,_,_,Sc,FD⟩:=es.kr;split at ha
  case h_2=>cases ha
  rename_i cs ej;split at ha
  case isFalse=>cases ha
  rename_i EK;simp only[Zc,Zg]at ha;obtain⟨rfl,rfl⟩:=ha;have X8:Nat.min m len=min m len:=rfl;rcases wF with rfl|⟨b,o',dI,rfl,u9,fO,mi,mU⟩
  .obtain⟨w',dO,he⟩:=pS hs ej (off:=off) (vs:=news.take (min 0 len*ei.size)) (by simp;omega) (dI:=[]) (by simp) (by simp) (by simp);refine eD (v:= .int .i64 (min 0 len:Nat)) (hex ?_) he (.im (.sc _ rfl));rw[hv,hx];have fH:(Builtin.firstCells ei.size 0 (.slice base 0 cap)).run C.P w= .ok #[] w:=by
    cases base<;>simp[Builtin.firstCells,loadCells,loadCellsFrom]
   simp[Builtin.copy_,run_underlying h1,Builtin.lenOf,sizeOf,typeInfo,k1,X8,fH,dO,goInt]
  .have M_:(dI.take (min m len*ei.size)).length=min m len*ei.size:=by
    rw[Xa,u9];have:min m len*ei.size<=m*ei.size:=Nat.mul_le_mul_right _ (Nat.min_le_left _ _);omega
   have hnl':(news.take (min m len*ei.size)).length=min m len*ei.size:=by
    rw[Xa,BT];have:min m len*ei.size<=m*ei.size:=Nat.mul_le_mul_right _ (Nat.min_le_left _ _);omega
   obtain⟨w',dO,he⟩:=pS hs ej (off:=off) (vs:=news.take (min m len*ei.size)) (by omega) (dI:=dI.take (min m len*ei.size)) (by omega) (λu hu=>mi u (List.mem_of_mem_take hu)) (λk y hk=>by
    rw[Xi]at hk;split at hk
    .rename_i iB;have:=mU k y hk;simpa[List.getD,Xi,iB]using this
    .cases hk)
   refine eD (v:= .int .i64 (min m len:Nat)) (hex ?_) he (.im (.sc _ rfl));rw[hv,hx];have fH:(Builtin.firstCells ei.size (min m len) (.slice (some ⟨b,o',none⟩) m cap)).run C.P w= .ok (dI.take (min m len*ei.size)).toArray w:=
    run_firstCells_some (P:=C.P) w ei.size (min m len) ⟨b,o',none⟩ m cap _ M_ (λj u hj=>by
     rw[Xi]at hj;split at hj
     .exact fO j u hj
     .cases hj)
   simp[Builtin.copy_,run_underlying h1,Builtin.lenOf,sizeOf,typeInfo,k1,X8,fH,dO,goInt]
 .rename_i m news oG zz nb hq;obtain⟨base,cap,hx,BT,wF⟩:=p5 hs hf C4 ik.2 nb;simp only[Zc,Zg]at ha;obtain⟨rfl,rfl⟩:=ha;rw[hq]at es;have hval:∃b0 rM,a.eval s= .slice b0 0 rM:=by
   rcases es.mg.iR with⟨_,b,jF,hv,_⟩|⟨b,o',jF,us,cV,t0,fz,hv,_⟩
   .exact⟨b,jF,hv⟩
   .exact⟨_,jF,hv⟩
  obtain⟨b0,rM,hv⟩:=hval;refine cN hs (v:= .int .i64 0) (hex ?_) (.im (.sc _ rfl));rw[hv,hx];cases b0<;>cases base<;>simp[Builtin.copy_,run_underlying h1,Builtin.lenOf,sizeOf,typeInfo,k1,Builtin.firstCells,loadCells,loadCellsFrom,goInt,storeCells]
 .rename_i m news nb hq;obtain⟨base,cap,hx,BT,wF⟩:=p5 hs hf C4 ik.2 nb;simp only[Zc,Zg]at ha;obtain⟨rfl,rfl⟩:=ha;rw[hq]at es;have hv:=es.dQ.1;refine cN hs (v:= .int .i64 0) (hex ?_) (.im (.sc _ rfl));rw[hv,hx];cases base<;>simp[Builtin.copy_,run_underlying h1,Builtin.lenOf,sizeOf,typeInfo,k1,Builtin.firstCells,loadCells,loadCellsFrom,goInt]
def YG(hs:ia C.G w X ρ h)(hf:RF w (dZ X ρ h) ρ h.length a.tmps fr){x:Operand}{t:TypeId}(dq:o.op= .call {callee:= .builtin .clear,args:= #[x],argTypes:= #[t]})(hT:∀t i,C.T t=some i->ir C.P t=some i){r:AV}{h':Hp}(ha:D7 C h t (ev C fr x)=some (r,h')):Good C o a w X ρ h r h':=by
 have hex:∀{v:Value}{w':World},(Builtin.clear_ #[t] o.type #[a.eval x]).run C.P w= .ok v w'->(execOp a.eval o).run C.P w= .ok (.value v) w':=by
  intro v w' hr;unfold execOp;simp only[dq,resolve,invoke,builtin,Sem.run_bind,Sem.run_pure,Result.andThen_ok,List.map_toArray,Yn,Xm,hr]
 unfold D7 at ha;split at ha
 case h_2=>cases ha
 rename_i zero aiY sz ag tM ez id s off len k IX hq;obtain⟨d,info,z,h1,h2,h3,h4,h5,h6,h7,h8,h9⟩:=eX (hT t _ IX);obtain⟨e,ei,ed,z',rfl,k1,k2,k3,rfl,k5,rfl,k7,k8,k9,C4⟩:=gX h4;subst k7;split at ha
 case h_2=>cases ha
 rename_i cs ej;split at ha
 case isFalse=>cases ha
 rename_i hc;obtain⟨rfl,ki,EK⟩:=hc;simp only[Zc,Zg]at ha;obtain⟨rfl,rfl⟩:=ha;have es:=dM hs hf x;rw[hq]at es;obtain⟨jF,cV,t0,fz,hv,DN,mX,rK,_,_,Sc,FD⟩:=es.kr;have hRC:=wk (w:=w) (X:=dZ X ρ h) (ρ:=ρ) k8 h.length len (by omega);obtain⟨q1,q2,q3⟩:=hRC;have ik:((List.range len).flatMap λ_=>z'.cells.toList.map AV.sc).length=len*ei.size:=by rw[uV];simp[k9]
 obtain⟨w',dO,he⟩:=pS hs ej (off:=off) (vs:=(List.range len).flatMap λ_=>z'.cells.toList.map AV.sc) (by rw[ik];exact EK) (dI:=((Array.range (len*z'.cells.size)).map (z'.cells[· % z'.cells.size]!)).toList)
  (by rw[<-q1];simp) (λu hu=>by
   obtain⟨j,hj,rfl⟩:=List.getElem_of_mem hu;have T_:j< ((Array.range (len*z'.cells.size)).map (z'.cells[· % z'.cells.size]!)).size:=by simpa using hj
   have:=q2 j T_
   rwa [Zr,Xf T_,Xg]at this) (λj y hj=>by
   have:=q3 j y hj
   rwa [Zr,<-Array.getElem?_toList]at this)
 refine eD (v:= .tuple #[]) (hex ?_) he (.im (.tp #[] [] rfl (by simp)));obtain⟨m,rfl⟩:∃m,len=m+1:=⟨len-1,by omega⟩;rw[hv];simp[Builtin.clear_,run_underlying h1,zeroValue,typeInfo,k1,k3,Builtin.zeroCells]at dO|-;simp[dO]
def YH(hs:ia C.G w X ρ h)(hf:RF w (dZ X ρ h) ρ h.length a.tmps fr){t:TypeId}{x:Operand}{lo hi:Option Operand}(dq:o.op= .slice t x lo hi none){i:Ti}(rN:ir C.P t=some i){sz tM:Nat}{ag:Bool}{ez:List Value}(hk:i.kd= .slice sz ag tM ez){id off len l m:Nat}{cs:List AV}(hx:ev C fr x= .sl id sz off len false)(hl:iC 0 (lo.map (ev C fr))=some l)(hm:iC len (hi.map (ev C fr))=some m)(hr:gu h id=some cs)(hlm:l<=m)(EK:off+m*sz<=cs.length)(du:l<m\/off+(l+1)*sz<=cs.length):Good C o a w X ρ h (.sl id sz (off+l*sz) (m-l) false) h:=by
 obtain⟨d,info,z,h1,h2,h3,h4,h5,h6,h7,h8,h9⟩:=eX rN;rw[hk]at h4;obtain⟨e,ei,ed,Nw,rfl,k1,k2,k3,rfl,k5,k6,k7,k8,k9,C4⟩:=gX h4;have e1:=dM hs hf x;rw[hx]at e1;obtain⟨cap,cV,t0,fz,hq,c1,c2,c3,ck,ck',c4,c5⟩:=e1.kr;obtain⟨kl,t',I1,us,d1,d2⟩:=hs.cells hr;rw[c2]at d1;cases d1;have cP:cs.length<=cV.size:=by
  rcases Nat.eq_zero_or_pos cs.length with h0|h0
  .omega
  .have:=(Xl.1 (d2 (cs.length-1) _ (Zb (by omega))).1).1;omega
 have rK:off+cap*ei.size=cV.size:=ck' rfl;have RU:m<=cap:=by
  have:m*ei.size<=cap*ei.size:=by omega
  exact Nat.le_of_mul_le_mul_right this (by omega)
 have Sc:l<cap:=by
  rcases du with q|q
  .omega
  .have:(l+1)*ei.size<=cap*ei.size:=by omega
   exact Nat.le_of_mul_le_mul_right this (by omega)
 have hb:=qP hs hf hl hm (by omega) (cap:=cap) RU;have jV:(execOp a.eval o).run C.P w= .ok (.value (.slice (if cap=l then some ⟨ρ id,off,none⟩else(some ⟨ρ id,off,none⟩:Option Addr).map (·.add (l*ei.size))) (m-l) (cap-l))) w:=by
  simp only[execOp,dq,Instr.sliceAt,Instr.slice,run_underlying h1,Sem.run_bind,Result.andThen_ok,hq,Option.map_none,hb,fX k1,Sem.run_pure]
 refine cN hs jV ?_;rw[cv (show¬cap=l by omega)];have gI:l*ei.size+(cap-l)*ei.size=cap*ei.size:=by rw[<-Xh];congr 1;omega
 have:=Rp.sl (w:=w) (X:=dZ X ρ h) (ρ:=ρ) (n:=h.length) id ei.size (off+l*ei.size) (m-l) (cap-l) false cV t0 fz c1 c2 (by omega) (λq=>by cases q) (λ_=>by omega) (by omega) (by omega);simpa[add_lit]using this
def wG(C:Cx)(w:World)(X:Nat->Prop)(ρ:Nat->Nat)(h h':Hp)(r:AV)(e:Ending)(w':World):Prop:=
 ∃ρ',Ext C.G w X ρ h w' ρ' h'/\((∃v,e= .returned v/\Rp w' (dZ X ρ' h') ρ' h'.length v r)\/∃u,e= .panicked [{v:=u,recovered:=false}]/\r= .pn u)
def jm(C:Cx)(call:lu):Prop:=
 ∀g xs h r h',call g xs h=some (r,h')->∀(w:World)(X:Nat->Prop)(ρ:Nat->Nat)(vs:Array Value),ia C.G w X ρ h->vs.size=xs.length->
  (∀(k:Nat)(x:AV),xs[k]?=some x->Rp w (dZ X ρ h) ρ h.length (vs.getD k undef) x)->
  (∃fn,C.P.funcs[g]?=some fn/\fn.name≠ "runtime.NumGoroutine" /\fn.body.isSome=true)/\
  Calls C.P g vs w (wG C w X ρ h h' r)
def g_call(hs:ia C.G w X ρ h)(hf:RF w (dZ X ρ h) ρ h.length a.tmps fr){call:lu}(cW:jm C call){f:Operand}{args:Array Operand}{wO:Array TypeId}(dq:o.op= .call {callee:= .value f,args:=args,argTypes:=wO}){g:FuncId}{nM:List AV}(FQ:ev C fr f= .fn g nM){r:AV}{h':Hp}(hr:call g (args.toList.map (ev C fr)++nM) h=some (r,h')):Good C o a w X ρ h r h':=by
 have e1:=dM hs hf f;rw[FQ]at e1;obtain⟨us,hv,Wa,hur⟩:=e1.pj;obtain⟨⟨fn,c1,c2,c3⟩,c4⟩:=cW g _ h r h' hr w X ρ (args.map a.eval++us) hs (by simp[Wa]) (λk x hk=>by
  by_cases iB:k<args.size
  .rw[Zd (by simpa using iB)]at hk;simp only[Zs,Ze]at hk;obtain⟨y,hy,rfl⟩:=hk;have Ny:args[k]?=some y:=by simpa using hy
   have aiZ:args[k]=y:=by rw[Xf iB]at Ny;simpa using Ny
   have e2:(args.map a.eval++us).getD k undef=a.eval y:=by
    rw[Zr,Array.getElem?_append_left (by simpa using iB)];simp[iB,aiZ]
   rw[e2];exact dM hs hf y
  .rw[Zf (by simpa using iB)]at hk;have e2:(args.map a.eval++us).getD k undef=us.getD (k-args.size) undef:=by
    rw[Zr,Array.getElem?_append_right (by simpa using iB)];simp[Zr]
   rw[e2];exact hur _ x (by simpa using hk))
 intro K Q hK hQ;unfold Oper.wp;have jV:(execOp a.eval o).run C.P w= .ok (.enter g (args.map a.eval++us)) w:=by
  have hb:fn.body.isNone=false:=by cases hq:fn.body<;>simp_all
  simp only[execOp,dq,resolve,hv,Deferred.ofValue,invoke,callFunc,Sem.run_bind,Sem.run_pure,Result.andThen_ok,run_program,c1];simp[c2,hb]
 rw[jV,Oper.upon_enter];refine c4.mono λe w' ⟨ρ',hx,hh⟩=>?_
 rcases hh with⟨v,rfl,hrp⟩|⟨u,rfl,hru⟩
 .exact hK v w' ρ' hx hrp
 .exact hQ u w' ρ' hru hx
def OI{n:Nat}{v:Value}{x:AV}(h:Rp w X ρ n v x)(hs:CE x=true):∃ad l c,v= .slice (some ad) l c:=by
 cases x with
 |ls sz cq z=>
  cases cq with
  |nil=>simp[CE]at hs
  |cons r cq=>
   rcases h.mg.iR with⟨h0,_⟩|⟨b,o',cap,us,cV,t0,fz,hq,_⟩
   .cases h0
   .exact⟨_,_,_,hq⟩
 |sl id sz off len k=>
  obtain⟨cap,cV,t,fz,hv,_⟩:=h.kr;exact⟨_,_,_,hv⟩
 |_=>simp[CE]at hs
def Ua(hs:ia C.G w X ρ h)(hf:RF w (dZ X ρ h) ρ h.length a.tmps fr){op:BinOp}{t t':TypeId}{x y:Operand}(dq:o.op= .binOp op t x y t')(hc:(j9 C t && zK y && CE (ev C fr x))=true):
 (op= .eql->Good C o a w X ρ h (.sc (.bool false)) h)/\(op= .neq->Good C o a w X ρ h (.sc (.bool true)) h):=by
 simp only[Zh]at hc;obtain⟨⟨yM,Cn⟩,hc3⟩:=hc;obtain⟨ad,l,c,hv⟩:=OI (dM hs hf x) hc3;obtain⟨e,he⟩:∃e,C.P.underlying t=some (.slice e):=by
  unfold j9 at yM;split at yM
  .rename_i e he;exact⟨e,he⟩
  .cases yM
 have hy:a.eval y= .slice none 0 0:=by
  unfold zK at Cn;split at Cn
  .rfl
  .cases Cn
 have hq:=run_equal_slice_nil w t e (some ad) l c he;constructor
 .rintro rfl;refine cN hs (v:= .bool false) ?_ (.im (.sc _ rfl));simp[execOp,dq,hv,hy,eqGuard,binOp,hq]
 .rintro rfl;refine cN hs (v:= .bool true) ?_ (.im (.sc _ rfl));simp[execOp,dq,hv,hy,eqGuard,binOp,hq]
def Ih{t:TypeId}(h:zM C t=true):∃e,C.P.underlying t=some (.slice e)/\C.P.underlying e=some (.int .u8):=by
 unfold zM at h;split at h
 .rename_i e he;split at h
  .rename_i h2;exact⟨e,he,h2⟩
  .cases h
 .cases h
def tw{t:TypeId}(h:isStr C t=true):C.P.underlying t=some .string:=by
 unfold isStr at h;split at h
 .assumption
 .cases h
def u_{t:TypeId}(h:pd C t=true):∃kt et,C.P.underlying t=some (.map kt et)/\C.P.underlying kt=some .string:=by
 unfold pd at h;split at h
 .rename_i kt et he;exact⟨kt,et,he,tw h⟩
 .cases h
def OJ(hs:ia C.G w X ρ h)(hf:RF w (dZ X ρ h) ρ h.length a.tmps fr){src dst:TypeId}{x:Operand}(dq:o.op= .convert src dst x){s:ByteArray}(hx:ev C fr x= .sc (.string s))(h1:isStr C src=true)(h2:zM C dst=true)(j5:s.size<=maxLen):
 Good C o a w X ρ h (.sl h.length 1 0 s.size false) (h++[.raw (s.data.toList.map λb=> .sc (.int .u8 b.toNat))]):=by
 obtain⟨e,he,hu⟩:=Ih h2;have e1:=dM hs hf x;rw[hx]at e1;have hv:=e1.dQ.1;have jV:=run_bytes_of_string (P:=C.P) w src dst e s (tw h1) he hu;have vK:=grownCap_ge w s.size 0 e;have cP:=grownCap_le_maxLen w s.size 0 e j5;have ik:(bytesRow s (grownCap w s.size 0 e)).size=grownCap w s.size 0 e:=by
  simp only[bytesRow,Array.size_append,Array.size_map,Array.size_replicate];show s.size+_=_;omega
 have hd:=pC hs (w.drawn+1);have ha:=yV hd.uj (.cells (bytesRow s (grownCap w s.size 0 e)) e ((bytesRow s (grownCap w s.size 0 e)).size,(bytesRow s (grownCap w s.size 0 e)).size+1)) (.raw (s.data.toList.map λb=> .sc (.int .u8 b.toNat))) rfl
  ⟨_,_,_,λk=>(bytesRow s (grownCap w s.size 0 e)).getD k undef,rfl,.inr (Yq _),by rw[ik];simp;exact vK,λk y hk=>by
   simp only[Zs,Ze]at hk;obtain⟨b,hb,rfl⟩:=hk;have iB:k<s.data.size:=by have:=(Za.1 hb).1;simpa using this
   have oE:s.data[k]?=some b:=by simpa using hb
   have cY:(bytesRow s (grownCap w s.size 0 e))[k]?=some (.int .u8 b.toNat):=by
    unfold bytesRow;rw[Array.getElem?_append_left (by simpa using iB)];simp[oE]
   have hg:(bytesRow s (grownCap w s.size 0 e)).getD k undef= .int .u8 b.toNat:=by rw[Zr,cY];rfl
   simp only[hg];exact⟨cY,rfl,.im (.sc _ rfl)⟩⟩
 refine eD (v:= .slice (some ⟨w.heap.size,0,none⟩) s.size (grownCap w s.size 0 e)) ?_ (hd.trans ha) (uW w _ h ρ _ _ _ _ _ (by simp) _ e _ (jZ w.drew _) (by rw[ik];omega) vK cP);simp only[execOp,dq,hv,Sem.run_bind,jV,Result.andThen_ok,Sem.run_pure];rfl
def OK{n:Nat}{v:Value}{x:AV}{b:UInt8}(h:Rp w X ρ n v x)(hb:zL x=some b):v= .int .u8 (b.toNat:Int):=by
 unfold zL at hb;split at hb
 .rename_i i;split at hb
  .rename_i hc;simp only[Zc]at hb;subst hb;have:=h.dQ.1;rw[this];have h3:(UInt8.ofNat i.toNat).toNat=i.toNat:=by
    simp;omega
   rw[h3]
   congr 1
   omega
  .cases hb
 .cases hb
def Kx(hs:ia C.G w X ρ h)(hf:RF w (dZ X ρ h) ρ h.length a.tmps fr){src dst:TypeId}{x:Operand}(dq:o.op= .convert src dst x){id off len:Nat}{k:Bool}(hx:ev C fr x= .sl id 1 off len k)(h1:isStr C dst=true)(h2:zM C src=true){m:Nat}{news:List AV}(hn:gV h (.sl id 1 off len k)=some (m,news)){bs:List UInt8}(hb:news.mapM zL=some bs):Good C o a w X ρ h (.sc (.string ⟨bs.toArray⟩)) h:=by
 obtain⟨e,he,hu⟩:=Ih h2;have e1:=dM hs hf x;rw[hx]at e1;obtain⟨cap,cV,t,fz,hv,_⟩:=e1.kr;have IK:m=len:=by
  simp only[gV]at hn;split at hn
  .split at hn
   .simp only[Zc,Zg]at hn;exact hn.1.symm
   .cases hn
  .cases hn
 subst IK;obtain⟨base,jF,hv',BT,wF⟩:=p5 hs hf (x:=x) (sz:=1) (by omega) (by rw[hx];simp[kM]) (by rw[hx];exact hn);obtain⟨m1,m2⟩:=iT hb;have FT:bs.length=m:=by rw[m1,BT];omega
 rw[hv]at hv';simp only[Value.slice.injEq]at hv';obtain⟨rfl,_,rfl⟩:=hv';refine cN hs (v:= .string ⟨bs.toArray⟩) ?_ (.im (.sc _ rfl));have hc:=run_convert_bytes_back (P:=C.P) w src dst e ⟨ρ id,off,none⟩ cap bs he hu (tw h1) (λj hj=>by
  rcases wF with h0|⟨b,o',dI,Mq,u9,fO,mi,mU⟩
  .omega
  .simp only[Zc,Addr.mk.injEq]at Mq;obtain⟨rfl,rfl,_⟩:=Mq;have hjv:j<dI.length:=by omega
   have Cc:j<news.length:=by omega
   rw[fO j _ (Zb hjv)];obtain⟨b',Py,Li⟩:=m2 j _ (Zb Cc);rw[Zb hj]at Py;cases Py;have:=OK (mU j _ (Zb Cc)) Li;simp only[List.getD,Zb hjv,Xg]at this;rw[this])
 rw[FT]at hc;simp only[execOp,dq,hv,Sem.run_bind,hc,Result.andThen_ok,Sem.run_pure]
def OL(hs:ia C.G w X ρ h){t:TypeId}(dq:o.op= .makeMap t none):Good C o a w X ρ h (.mp h.length) (h++[.map [] 0]):=by
 have he:=yV hs (.map #[] 0) (.map [] 0) rfl ⟨#[],rfl,rfl,by simp⟩;refine eD (v:= .map (some w.heap.size)) ?_ he ?_
 .simp[execOp,dq,Instr.makeMap]
 .have:=Rp.mp (w:=w.alloc (.map #[] 0)) (X:=dZ X (λi=>if i=h.length then w.heap.size else ρ i) (h++[eV.map [] 0])) (ρ:=λi=>if i=h.length then w.heap.size else ρ i) (n:=(h++[eV.map [] 0]).length) h.length (by simp);simpa using this
def YI(hs:ia C.G w X ρ h)(hf:RF w (dZ X ρ h) ρ h.length a.tmps fr){t:TypeId}{x:Operand}(dq:o.op= .range t x){s:ByteArray}(hx:ev C fr x= .sc (.string s))(ht:isStr C t=true):
 Good C o a w X ρ h (.pt h.length 0) (h++[.iter s 0]):=by
 have e1:=dM hs hf x;rw[hx]at e1;have he:=yV hs (.stringIter s 0) (.iter s 0) rfl rfl;refine eD (v:= .pointer (some ⟨w.heap.size,0,none⟩)) ?_ he (JT w h ρ _ _ _ (by simp));simp only[execOp,dq,Instr.range,e1.dQ.1,Sem.run_bind,run_underlying (tw ht),Result.andThen_ok,Sem.run_pure,qJ]
def acw(hs:ia C.G w X ρ h)(hf:RF w (dZ X ρ h) ρ h.length a.tmps fr){x:Operand}(dq:o.op= .next x true){id:Nat}(hx:ev C fr x= .pt id 0){s:ByteArray}{pos:Nat}(ej:h[id]?=some (.iter s pos)):
 (pos<s.size->Good C o a w X ρ h (.tp [.sc (.bool true),.sc (.int .i64 pos),.sc (.int .i32 (Utf8.decode s pos).1)]) (h.set id (.iter s (pos+(Utf8.decode s pos).2))))/\(¬pos<s.size->Good C o a w X ρ h (.tp [.sc (.bool false)]) h):=by
 have e1:=dM hs hf x;rw[hx]at e1;have hv:=e1.mT.1;have b1:w.heap[ρ id]?=some (.stringIter s pos):=hs.km id _ ej;have du:=fI b1;have mj:(getObj (ρ id)).run C.P w= .ok (.stringIter s pos) w:=by simp only[getObj,Sem.run,b1]
 have kQ:∀ob:Obj,(setObj (ρ id) ob).run C.P w= .ok () {w with heap:=w.heap.setIfInBounds (ρ id) ob}:=λob=>by
  simp only[setObj,Sem.run,b1]
 have tup:∀(w':World)(X':Nat->Prop)(us:List Value),(∀u∈us,lr u=true)->Ri w' X' (.tuple us.toArray) (.tp (us.map .sc)):=λw' X' us hu=>by
  refine .tp _ _ (by simp) λk y hk=>?_
  simp only[Zs,Ze]at hk;obtain⟨u,hk,rfl⟩:=hk;have:us.toArray.getD k undef=u:=by simp[hk]
  rw[this];exact .sc u (hu u (Zi hk))
 constructor
 .intro Ky;have Bx:Ext C.G w X ρ h {w with heap:=w.heap.setIfInBounds (ρ id) (.stringIter s (pos+(Utf8.decode s pos).2))} ρ (h.set id (.iter s (pos+(Utf8.decode s pos).2))):=by
   refine pB hs id _ _ ej rfl rfl rfl rfl rfl (by simp) (λcV t' fz hc=>by rw[b1]at hc;cases hc) (λp hp=>?_) ?_
   .show(w.heap.setIfInBounds (ρ id) _)[p]?=_;rw[Array.getElem?_setIfInBounds_ne (Ne.symm hp)]
   .show(w.heap.setIfInBounds (ρ id) _)[ρ id]?=_;simp[du]
  refine eD (v:= .tuple #[.bool true,.int .i64 pos,.int .i32 (Utf8.decode s pos).1]) ?_ Bx (.im (tup _ _ [_,_,_] (by simp[lr])));simp only[execOp,dq,hv,Instr.next,Sem.run_bind,mj,Result.andThen_ok,Ky,if_true,kQ,Sem.run_pure,goInt]
 .intro Ky;refine cN hs (v:= .tuple #[.bool false]) ?_ (.im (tup _ _ [_] (by simp[lr])));simp only[execOp,dq,hv,Instr.next,Sem.run_bind,mj,Result.andThen_ok,Ky,if_false,Sem.run_pure]
def YJ(hs:ia C.G w X ρ h)(hf:RF w (dZ X ρ h) ρ h.length a.tmps fr){x:Operand}(dq:o.op= .panic x){t:TypeId}{v:Value}(hx:ev C fr x= .sc (.iface t v)):Good C o a w X ρ h (.pn (.iface t v)) h:=by
 have e1:=dM hs hf x;rw[hx]at e1;have hv:=e1.dQ.1;intro K Q _ hQ;unfold Oper.wp;have jV:(execOp a.eval o).run C.P w= .halt (.panic (.iface t v)) w:=by
  simp only[execOp,dq,hv,Instr.panic,goPanic];rfl
 rw[jV];exact hQ _ w ρ rfl (Ext.refl hs)
def o9(s:ByteArray):∀(ms:List MapEntry)(es:List (Value × AV))(i:Nat),ms.length=es.length->es.all pe=true->(∀(k:Nat)(e:Value × AV),es[k]?=some e->∃m,ms[k]?=some m/\m.key=e.1)->
 ∃r,Instr.findNow .string (.string s) ms i=some r/\r.map Prod.fst=mY s es i
 | [],[],i,_,_,_=>⟨none,rfl,rfl⟩
 | [],_::_,_,hl,_,_=>by simp at hl
 |_::_,[],_,hl,_,_=>by simp at hl
 |
  m::ms,(j,y)::es,i,hl,hk,hm=>by
  simp only[Zn,Zh]at hk;obtain⟨m',vV,TA⟩:=hm 0 _ rfl;simp only[List.getElem?_cons_zero,Zc]at vV;subst vV;obtain⟨r,h1,h2⟩:=o9 s ms es (i+1) (by simpa using hl) hk.2 (λk e he=>by simpa using hm (k+1) e (by simpa using he));cases j with
  |string a=>
   simp only at TA;simp only[Instr.findNow,TA,Instr.sameNow,mY,P7];cases hsa:s==a with
   |true=>exact⟨_,rfl,rfl⟩
   |false=>exact⟨r,h1,h2⟩
  |_=>simp[pe]at hk
def Ii(s:ByteArray):∀(ms:List MapEntry)(i j:Nat)(v:Value),Instr.findNow .string (.string s) ms i=some (some (j,v))->i<=j/\∃m,ms[j-i]?=some m/\m.val=v
 | [],i,j,v,h=>by simp[Instr.findNow]at h
 |
  m::ms,i,j,v,h=>by
  simp only[Instr.findNow]at h;split at h
  .simp only[Zc,Zg]at h;obtain⟨rfl,rfl⟩:=h;exact⟨Yq _,m,by simp,rfl⟩
  .obtain⟨h1,m',h2,h3⟩:=Ii s ms (i+1) j v h;refine⟨by omega,m',?_,h3⟩;have:j-i=(j-(i+1))+1:=by omega
   rw[this,List.getElem?_cons_succ,h2]
  .cases h
def Bz{s:ByteArray}:∀{es:List (Value × AV)}{i j:Nat},mY s es i=some j->i<=j/\j-i<es.length/\∃y,es[j-i]?=some (.string s,y)
 | [],i,j,h=>by simp[mY]at h
 |
  (k,y)::es,i,j,h=>by
  simp only[mY]at h;cases hc:P7 s k with
  |
   true=>
   simp only[hc,cond_true,Zc]at h;subst h;cases k with
   |string a=>
    have z_:s=a:=(MapKept.bytes_beq s a).1 hc;subst z_;exact⟨Yq _,by simp,y,by simp⟩
   |_=>simp[P7]at hc
  |
   false=>
   simp only[hc,cond_false]at h;obtain⟨h1,h2,y',h3⟩:=Bz h;refine⟨by omega,by simp;omega,y',?_⟩;have:j-i=(j-(i+1))+1:=by omega
   rw[this,List.getElem?_cons_succ,h3]
def Ub(hs:ia C.G w X ρ h)(hf:RF w (dZ X ρ h) ρ h.length a.tmps fr){t:TypeId}{m k:Operand}{ok:Bool}(dq:o.op= .lookup t m k ok){id:Nat}{s:ByteArray}(hm:ev C fr m= .mp id)(hk:ev C fr k= .sc (.string s))(ht:pd C t=true){es:List (Value × AV)}{clock:Nat}(ej:h[id]?=some (.map es clock))(rQ:es.all pe=true){q:AV × Bool}(hq:P8 C t s es=some q):
 Good C o a w X ρ h (if ok then .tp [q.1,.sc (.bool q.2)]else q.1) h:=by
 obtain⟨kt,et,h1,h2⟩:=u_ ht;have em:=dM hs hf m;rw[hm]at em;have hv:=em.EJ.1;have ek:=dM hs hf k;rw[hk]at ek;have hkv:=ek.dQ.1;obtain⟨ms,b1,b2,YK,b3⟩:=hs.km id _ ej;have qc:∀(k:Nat)(e:Value × AV),es[k]?=some e->∃m,ms.toList[k]?=some m/\m.key=e.1:=λk e he=>by
  obtain⟨m,q1,q2,_⟩:=b3 k e he;exact⟨m,by simpa using q1,q2⟩
 obtain⟨r,hr,xY⟩:=o9 s ms.toList es 0 (by simpa using b2) rQ qc;have yu:(Instr.findKey kt (.string s) ms.toList).run C.P w= .ok r w:=by
  simp only[Instr.findKey,Sem.run_bind,run_underlying h2,Result.andThen_ok,hr,Sem.run_pure]
 have mj:(getObj (ρ id)).run C.P w= .ok (.map ms clock) w:=by
  simp only[getObj,Sem.run,b1]
 have Ij:∀z,(Instr.checkKey z 10000 kt (.string s)).run C.P w= .ok () w:=λz=>by
  show(Instr.checkKey z (9999+1) kt (.string s)).run C.P w= .ok () w;unfold Instr.checkKey;simp only[Sem.run_bind,run_underlying h2,Result.andThen_ok,Sem.run_pure]
 have key:∀(v:Value)(x:AV)(b:Bool),Rp w (dZ X ρ h) ρ h.length v x->(Instr.lookup t (.map (some (ρ id))) (.string s) ok).run C.P w= .ok (if ok then .tuple #[v,.bool b]else v) w->Good C o a w X ρ h (if ok then .tp [x,.sc (.bool b)]else x) h:=by
  intro v x b hx jV;refine cN hs (v:=if ok then .tuple #[v,.bool b]else v) ?_ ?_
  .simp only[execOp,dq,hv,hkv,Sem.run_bind,jV,Result.andThen_ok,Sem.run_pure]
  .cases ok
   .exact hx
   .refine .tp _ _ rfl λj y hj=>?_
    match j,hj with
    |0,hj=>cases hj;exact hx
    |1,hj=>cases hj;exact .im (.sc _ rfl)
    |_+2,hj=>simp at hj
 unfold P8 at hq;split at hq
 .rename_i i hi;rw[hi]at xY;cases r with
  |none=>cases xY
  |some p=>
   obtain⟨p1,p2⟩:=p;simp only[Yw,Zc]at xY;subst xY;obtain⟨_,m0,q1,q2⟩:=Ii s _ 0 _ _ hr;simp only[Ze]at hq;obtain⟨e,he,rfl⟩:=hq;obtain⟨m1,r1,r2,r3,r4,r5⟩:=b3 _ e he;have ai0:m0=m1:=by
    simp only[Nat.sub_zero,Array.getElem?_toList]at q1;rw[r1]at q1;exact(Option.some.inj q1).symm
   subst ai0;rw[q2]at r5;refine key p2 e.2 true r5 ?_;simp only[Instr.lookup,Sem.run_bind,run_underlying h1,Result.andThen_ok,mj,Ij,yu,Sem.run_pure]
 .rename_i hn;rw[hn]at xY;cases r with
  |some p=>cases xY
  |
   none=>
   simp only[Ze]at hq;obtain⟨z,hz,rfl⟩:=hq;unfold adq at hz;rw[h1]at hz;simp only at hz;split at hz
   .rename_i inf ai1;simp only[Ze]at hz;obtain⟨zv,hzv,rfl⟩:=hz;have hzr:(zeroValue et).run C.P w= .ok zv w:=by simp[zeroValue,typeInfo,Sem.run_bind,ai1,hzv,Result.andThen]
    refine key zv _ false (AO zv) ?_;simp only[Instr.lookup,Sem.run_bind,run_underlying h1,Result.andThen_ok,mj,Ij,yu,hzr,Sem.run_pure]
   .cases hz
def Uc(hs:ia C.G w X ρ h)(hf:RF w (dZ X ρ h) ρ h.length a.tmps fr){m k:Operand}{t t':TypeId}(dq:o.op= .call {callee:= .builtin .delete,args:= #[m,k],argTypes:= #[t,t']}){id:Nat}{s:ByteArray}(hm:ev C fr m= .mp id)(hk:ev C fr k= .sc (.string s))(ht:pd C t=true){es:List (Value × AV)}{clock:Nat}(ej:h[id]?=some (.map es clock))(rQ:es.all pe=true):
 (∀i,mY s es 0=some i->Good C o a w X ρ h (.tp []) (h.set id (.map (es.eraseIdx i) clock)))/\
 (mY s es 0=none->Good C o a w X ρ h (.tp []) (h.set id (.map es clock))):=by
 obtain⟨kt,et,h1,h2⟩:=u_ ht;have em:=dM hs hf m;rw[hm]at em;have hv:=em.EJ.1;have ek:=dM hs hf k;rw[hk]at ek;have hkv:=ek.dQ.1;obtain⟨ms,b1,b2,YK,b3⟩:=hs.km id _ ej;have qc:∀(k:Nat)(e:Value × AV),es[k]?=some e->∃m,ms.toList[k]?=some m/\m.key=e.1:=λk e he=>by
  obtain⟨m,q1,q2,_⟩:=b3 k e he;exact⟨m,by simpa using q1,q2⟩
 obtain⟨r,hr,xY⟩:=o9 s ms.toList es 0 (by simpa using b2) rQ qc;have yu:(Instr.findKey kt (.string s) ms.toList).run C.P w= .ok r w:=by
  simp only[Instr.findKey,Sem.run_bind,run_underlying h2,Result.andThen_ok,hr,Sem.run_pure]
 have mj:(getObj (ρ id)).run C.P w= .ok (.map ms clock) w:=by
  simp only[getObj,Sem.run,b1]
 have Ij:∀z,(Instr.checkKey z 10000 kt (.string s)).run C.P w= .ok () w:=λz=>by
  show(Instr.checkKey z (9999+1) kt (.string s)).run C.P w= .ok () w;unfold Instr.checkKey;simp only[Sem.run_bind,run_underlying h2,Result.andThen_ok,Sem.run_pure]
 have du:=fI b1;have kQ:∀ob:Obj,(setObj (ρ id) ob).run C.P w= .ok () {w with heap:=w.heap.setIfInBounds (ρ id) ob}:=λob=>by
  simp only[setObj,Sem.run,b1]
 have hex:∀{v:Value}{w':World},(Builtin.delete_ #[t,t'] o.type #[a.eval m,a.eval k]).run C.P w= .ok v w'->(execOp a.eval o).run C.P w= .ok (.value v) w':=by
  intro v w' hr;unfold execOp;simp only[dq,resolve,invoke,builtin,Sem.run_bind,Sem.run_pure,Result.andThen_ok,List.map_toArray,Yn,Xm,hr]
 have Bx:∀(ob:Obj)(b:eV),tP b=true->zG w (dZ X ρ h) ρ h.length (some ob) b->Ext C.G w X ρ h {w with heap:=w.heap.setIfInBounds (ρ id) ob} ρ (h.set id b):=λob b hl hb=>by
  refine pB hs id _ b ej rfl hl rfl rfl rfl (by simp) (λcV t' fz hc=>by rw[b1]at hc;cases hc) (λp hp=>?_) ?_
  .show(w.heap.setIfInBounds (ρ id) ob)[p]?=_;rw[Array.getElem?_setIfInBounds_ne (Ne.symm hp)]
  .have:({w with heap:=w.heap.setIfInBounds (ρ id) ob}:World).heap[ρ id]?=some ob:=by
    show(w.heap.setIfInBounds (ρ id) ob)[ρ id]?=_;simp[du]
   rw[this];exact hb
 constructor
 .intro i hi;rw[hi]at xY;cases r with
  |none=>cases xY
  |some p=>
   obtain⟨p1,p2⟩:=p;simp only[Yw,Zc]at xY;subst xY;obtain⟨_,iJ,y0,Ol⟩:=Bz hi;simp only[Nat.sub_zero]at iJ Ol;have aex:p1<ms.size:=by omega
   have PD:(ms.eraseIdxIfInBounds p1).toList=ms.toList.eraseIdx p1:=by
    unfold Array.eraseIdxIfInBounds;rw[dif_pos aex];exact Array.toList_eraseIdx ..
   refine eD (v:= .tuple #[]) (hex ?_) (Bx (.map (ms.eraseIdxIfInBounds p1) clock) _ rfl ⟨_,rfl,?_,?_,λk e Kz=>?_⟩) (.im (.tp #[] [] rfl (by simp)))
   .rw[hv,hkv];simp[Builtin.delete_,run_underlying h1,Sem.run_bind,mj,Ij,yu,kQ]
   .rw[<-Yu,PD,List.length_eraseIdx_of_lt (by simpa using aex),List.length_eraseIdx_of_lt iJ];simp[b2]
   .rw[PD];exact((List.eraseIdx_sublist ms.toList p1).map _).nodup YK
   .rw[<-Array.getElem?_toList,PD,List.getElem?_eraseIdx];rw[List.getElem?_eraseIdx]at Kz;split at Kz
    .rename_i Ky;rw[cw Ky];obtain⟨m1,r1,r2,r3,r4,r5⟩:=b3 k e Kz;exact⟨m1,by simpa using r1,r2,r3,r4,r5⟩
    .rename_i Ky;rw[cv Ky];obtain⟨m1,r1,r2,r3,r4,r5⟩:=b3 (k+1) e Kz;exact⟨m1,by simpa using r1,r2,r3,r4,r5⟩
 .intro hn;rw[hn]at xY;cases r with
  |some p=>cases xY
  |
   none=>
   refine eD (v:= .tuple #[]) (hex ?_) (Bx (.map ms clock) _ rfl ⟨_,rfl,b2,YK,b3⟩) (.im (.tp #[] [] rfl (by simp)));rw[hv,hkv];simp[Builtin.delete_,run_underlying h1,Sem.run_bind,mj,Ij,yu,kQ]
def Ik(hs:ia C.G w X ρ h)(hf:RF w (dZ X ρ h) ρ h.length a.tmps fr){t:TypeId}{m k x:Operand}(dq:o.op= .mapUpdate t m k x){id:Nat}{s:ByteArray}(hm:ev C fr m= .mp id)(hk:ev C fr k= .sc (.string s))(ht:pd C t=true){es:List (Value × AV)}{clock:Nat}(ej:h[id]?=some (.map es clock))(rQ:es.all pe=true):
 (∀i,mY s es 0=some i->Good C o a w X ρ h .un (h.set id (.map (es.set i (.string s,ev C fr x)) clock)))/\
 (mY s es 0=none->Good C o a w X ρ h .un (h.set id (.map (es++[(.string s,ev C fr x)]) (clock+1)))):=by
 obtain⟨kt,et,h1,h2⟩:=u_ ht;have em:=dM hs hf m;rw[hm]at em;have hv:=em.EJ.1;have ek:=dM hs hf k;rw[hk]at ek;have hkv:=ek.dQ.1;have ex:=dM hs hf x;obtain⟨ms,b1,b2,YK,b3⟩:=hs.km id _ ej;have qc:∀(k:Nat)(e:Value × AV),es[k]?=some e->∃m,ms.toList[k]?=some m/\m.key=e.1:=λk e he=>by
  obtain⟨m,q1,q2,_⟩:=b3 k e he;exact⟨m,by simpa using q1,q2⟩
 obtain⟨r,hr,xY⟩:=o9 s ms.toList es 0 (by simpa using b2) rQ qc;have yu:(Instr.findKey kt (.string s) ms.toList).run C.P w= .ok r w:=by
  simp only[Instr.findKey,Sem.run_bind,run_underlying h2,Result.andThen_ok,hr,Sem.run_pure]
 have mj:(getObj (ρ id)).run C.P w= .ok (.map ms clock) w:=by
  simp only[getObj,Sem.run,b1]
 have Ij:(Instr.checkKey false 10000 kt (.string s)).run C.P w= .ok () w:=by
  show(Instr.checkKey false (9999+1) kt (.string s)).run C.P w= .ok () w;unfold Instr.checkKey;simp only[Sem.run_bind,run_underlying h2,Result.andThen_ok,Sem.run_pure]
 have du:=fI b1;have kQ:∀ob:Obj,(setObj (ρ id) ob).run C.P w= .ok () {w with heap:=w.heap.setIfInBounds (ρ id) ob}:=λob=>by
  simp only[setObj,Sem.run,b1]
 have Bx:∀(ob:Obj)(b:eV),tP b=true->zG w (dZ X ρ h) ρ h.length (some ob) b->Ext C.G w X ρ h {w with heap:=w.heap.setIfInBounds (ρ id) ob} ρ (h.set id b):=λob b hl hb=>by
  refine pB hs id _ b ej rfl hl rfl rfl rfl (by simp) (λcV t' fz hc=>by rw[b1]at hc;cases hc) (λp hp=>?_) ?_
  .show(w.heap.setIfInBounds (ρ id) ob)[p]?=_;rw[Array.getElem?_setIfInBounds_ne (Ne.symm hp)]
  .have:({w with heap:=w.heap.setIfInBounds (ρ id) ob}:World).heap[ρ id]?=some ob:=by
    show(w.heap.setIfInBounds (ρ id) ob)[ρ id]?=_;simp[du]
   rw[this];exact hb
 constructor
 .intro i hi;rw[hi]at xY;cases r with
  |none=>cases xY
  |some p=>
   obtain⟨p1,p2⟩:=p;simp only[Yw,Zc]at xY;subst xY;obtain⟨_,iJ,y0,Ol⟩:=Bz hi;simp only[Nat.sub_zero]at iJ Ol;obtain⟨m0,q1,q2,q3,q4,q5⟩:=b3 p1 _ Ol;have j8:(Instr.keyThatStays (((ms[p1]?).map (·.key)).getD (.string s)) (.string s)).run C.P w= .ok (.string s) w:=by
    have hsb:Instr.sameBits 10000 (.string s) (.string s)=true:=by
     unfold Instr.sameBits;exact(MapKept.bytes_beq s s).2 rfl
    simp only[q1,Yw,Xg,q2,Instr.keyThatStays,hsb,if_true,Sem.run_pure]
   refine th ?_ (Bx (.map (ms.modify p1 λe=>{e with key:= .string s,val:=a.eval x}) clock) _ rfl ⟨_,rfl,by simpa using b2,?_,λk e Kz=>?_⟩)
   .simp only[execOp,dq,Instr.mapUpdate,hv,hkv,Sem.run_bind,run_underlying h1,Result.andThen_ok,mj,Ij,yu,j8,kQ,Sem.run_pure]
   .have:(ms.modify p1 λe=>{e with key:= .string s,val:=a.eval x}).toList.map (·.born)=ms.toList.map (·.born):=by
     apply List.ext_getElem?;intro j;simp only[Zs,Array.getElem?_toList,Array.getElem?_modify];split
     .cases ms[j]?<;>rfl
     .rfl
    rw[this];exact YK
   .by_cases hkp:p1=k
    .subst hkp;rw[Zj iJ]at Kz;cases Kz;exact⟨{m0 with key:= .string s,val:=a.eval x},by simp[Array.getElem?_modify,q1],rfl,rfl,q4,ex⟩
    .rw[Zq hkp]at Kz;obtain⟨m1,r1,r2,r3,r4,r5⟩:=b3 k e Kz;exact⟨m1,by simp[Array.getElem?_modify,hkp,r1],r2,r3,r4,r5⟩
 .intro hn;rw[hn]at xY;cases r with
  |some p=>cases xY
  |
   none=>
   refine th ?_ (Bx (.map (ms.push {key:= .string s,val:=a.eval x,born:=clock}) (clock+1)) _ rfl ⟨_,rfl,by simp[b2],?_,λk e Kz=>?_⟩)
   .simp only[execOp,dq,Instr.mapUpdate,hv,hkv,Sem.run_bind,run_underlying h1,Result.andThen_ok,mj,Ij,yu,kQ,Sem.run_pure]
   .simp only[Array.toList_push,List.map_append,Yn,Xm];refine List.nodup_append.2 ⟨YK,by simp,?_⟩;intro q hq q' vf e;simp only[List.mem_singleton]at vf;simp only[Yf]at hq;obtain⟨m1,hm1,rfl⟩:=hq;obtain⟨j,hj,rfl⟩:=List.getElem_of_mem hm1;have T_:j<es.length:=by simp at hj;omega
    obtain⟨m2,r1,_,_,r4,_⟩:=b3 j _ (Zb T_);have:ms.toList[j]=m2:=by
     have:ms.toList[j]?=some m2:=by simpa using r1
     rw[Zb hj]at this;simpa using this
    rw[this]at e;omega
   .by_cases iB:k<es.length
    .rw[Zd iB]at Kz;obtain⟨m1,r1,r2,r3,r4,r5⟩:=b3 k e Kz;have hkm:k<ms.size:=by omega
     exact⟨m1,by simp[Array.getElem?_push,Xe hkm,r1],r2,r3,by omega,r5⟩
    .have Mf:k=es.length:=by
      have:k< (es++[(Value.string s,ev C fr x)]).length:=(Za.1 Kz).1;simp at this;omega
     subst Mf;simp at Kz;subst Kz;refine⟨{key:= .string s,val:=a.eval x,born:=clock},by rw[<-b2];simp,rfl,rfl,by simp,ex⟩
def aan(hf:RF w (dZ X ρ h) ρ h.length a.tmps fr){t:TypeId}{parts:Array (Nat × Operand)}(dq:o.op= .buildSlice t 1 parts){i:Ti}(hi:ir C.P t=some i){ag:Bool}{eb:Nat}{ez:List Value}(hk:i.kd= .slice 1 ag eb ez)(hez:ez.length=1){q:Nat}(Pz:parts.toList=[(0,.tmp q)])(du:q<fr.length){h1:Hp}(he:Ext C.G w X ρ h w ρ h1){y:AV}(yJ:Ri w (dZ X ρ h1) (a.tmps.getD q undef) y)(gI:cls y=some [y]):Good C o a w X ρ h (.sl h1.length 1 0 1 false) (h1++[.row [y]]):=by
 have Dp:RF w (dZ X ρ h1) ρ h1.length a.tmps (fr.set q y):=by
  refine⟨by rw[List.length_set];exact hf.1,λi z hz2=>?_⟩;by_cases e:q=i
  .subst e;rw[Zj du]at hz2;cases hz2;exact .im yJ
  .rw[Zq e]at hz2;exact(he.rf hf).2 i z hz2
 have vj:lX (λk=>some (k*1,1)) ((List.range 1).flatMap λ_=>ez.map .sc) (parts.toList.map λp=>(p.1,ev C (fr.set q y) p.2))=some [y]:=by
  have h2:ev C (fr.set q y) (.tmp q)=y:=by
   show(fr.set q y).getD q .ud=y;rw[List.getD,Zj du];rfl
  obtain⟨u,rfl⟩:∃u,ez=[u]:=by
   match ez,hez with
   | [u],_=>exact⟨u,rfl⟩
  rw[Pz];simp[lX,h2,gI,cF]
 have G:=wo he.uj Dp dq hi hk (by decide) vj;intro K Q hK hQ;exact G K Q (λv w' ρ' e2 hv=>hK v w' ρ' (he.trans e2) hv) λu w' ρ' e _=>by cases e
def ai2(hs:ia C.G w X ρ h)(hf:RF w (dZ X ρ h) ρ h.length a.tmps fr)(hT:∀t i,C.T t=some i->ir C.P t=some i){t:TypeId}{len:Nat}{parts:Array (Nat × Operand)}(dq:o.op= .buildSlice t len parts){r:AV}{h':Hp}(hm:mvB C (ev C fr) h t len parts.toList=some (r,h')):Good C o a w X ρ h r h':=by
 unfold mvB at hm;split at hm
 case h_2=>cases hm
 rename_i m hmv;split at hm
 case isFalse=>cases hm
 rename_i cp;subst cp;unfold mvA at hm;split at hm
 case h_2=>cases hm
 rename_i q Pz;have U1:∀y,ev C fr (.tmp q)=y->y≠ .ud->fr[q]?=some y:=λy hy hd=>by
  have h2:fr.getD q .ud=y:=hy;rw[List.getD]at h2;cases hq:fr[q]? with
  |none=>rw[hq]at h2;exact absurd h2.symm hd
  |some z=>rw[hq]at h2;exact congrArg some h2
 split at hm
 case h_3=>cases hm
 .rename_i id s off len k sz0 ag zero sz Ud eb ez hx hi;split at hm
  case isFalse=>cases hm
  rename_i hc;obtain⟨rfl,hez⟩:=hc;split at hm
  case h_2=>cases hm
  rename_i h1 y hz hy;simp only[Zc,Zg]at hm;obtain⟨rfl,rfl⟩:=hm;have hq:=U1 _ hx (by simp);obtain⟨he,jx⟩:=wq hs hz;have yJ:=jx 8 _ _ _ (hf.2 q _ hq) hy;have gI:cls y=some [y]:=by
   unfold da at hy;split at hy
   .split at hy
    .simp only[Ze]at hy;obtain⟨_,_,rfl⟩:=hy;rfl
    .cases hy
   .cases hy
  exact aan hf dq (hT t _ hi) rfl hez Pz (Za.1 hq).1 he yJ gI
 .rename_i sz0 ag zero sz Ud eb ez hx hi;split at hm
  case isFalse=>cases hm
  rename_i hc;obtain⟨rfl,hez⟩:=hc;simp only[Zc,Zg]at hm;obtain⟨rfl,rfl⟩:=hm;have hq:=U1 _ hx (by simp);have hv:=(hf.2 q _ hq).dQ.1;exact aan hf dq (hT t _ hi) rfl hez Pz (Za.1 hq).1 (Ext.refl hs) (by rw[hv];exact .le none 0 m false (Yt _) (by simp)) rfl
def KA(hs:ia C.G w X ρ h)(hf:RF w (dZ X ρ h) ρ h.length a.tmps fr)(hT:∀t i,C.T t=some i->ir C.P t=some i){call:lu}(cW:jm C call){r:AV}{h':Hp}(ho:yB C call (ev C fr) h o=some (r,h')):Good C o a w X ρ h r h':=by
 have Fk:∀{r:AV}{h':Hp},((iu C (ev C fr) o).map λy=>(y,h))=some (r,h')->Good C o a w X ρ h r h':=by
  intro r h' hh;simp only[Ze,Zg]at hh;obtain⟨y,hy,rfl,rfl⟩:=hh;exact Ha hs hf hy
 unfold yB at ho;split at ho
 .
  rename_i x dq;simp only[Zc,Zg]at ho;obtain⟨rfl,rfl⟩:=ho;exact Ro hs hf (.inl dq)
 .rename_i x dq;simp only[Zc,Zg]at ho;obtain⟨rfl,rfl⟩:=ho;exact Ro hs hf (.inr dq)
 .rename_i c x y dq;split at ho
  .rename_i t hc;simp only[Zc,Zg]at ho;obtain⟨rfl,rfl⟩:=ho;exact abm hs hf dq hc
  .cases ho
 .rename_i t dq;split at ho
  .rename_i i hi;simp only[Zc,Zg]at ho;obtain⟨rfl,rfl⟩:=ho;exact Wr hs dq (hT t i hi)
  .cases ho
 .rename_i t x dq;split at ho
  .rename_i i cs hi hc;split at ho
   .simp only[Zc,Zg]at ho;obtain⟨rfl,rfl⟩:=ho;exact adM hs hf dq hc
   .cases ho
  .cases ho
 .rename_i t parts dq;split at ho
  .rename_i sz ag zero fs hi;simp only[Ze,Zg]at ho;obtain⟨cs,hc,rfl,rfl⟩:=ho;exact Mc hs hf dq (hT t _ hi) (.inl ⟨fs,rfl,rfl⟩) hc
  .rename_i sz ag zero n KU Ud hi;simp only[Ze,Zg]at ho;obtain⟨cs,hc,rfl,rfl⟩:=ho;exact Mc hs hf dq (hT t _ hi) (.inr ⟨n,KU,Ud,rfl,rfl⟩) hc
  .cases ho
 .rename_i t len parts dq;split at ho
  .rename_i r0 hmv;simp only[Zc]at ho;subst ho;exact ai2 hs hf hT dq hmv
  split at ho
  .rename_i sz ag zero KU Ud eb ez hi;split at ho
   .rename_i Cs;simp only[Ze,Zg]at ho;obtain⟨cs,hc,rfl,rfl⟩:=ho;exact wo hs hf dq (hT t _ hi) rfl Cs hc
   .cases ho
  .cases ho
 .rename_i t x dq;split at ho
  .rename_i i id off hi hx;split at ho
   .rename_i cs ej;simp only[Ze,Zg]at ho;obtain⟨y,hp,rfl,rfl⟩:=ho;exact abn hs hf dq (hT t i hi) hx ej hp
   .cases ho
  .rename_i i row j hi hx;simp only[Ze,Zg]at ho;obtain⟨y,hp,rfl,rfl⟩:=ho;exact Ws hs hf dq (hT t i hi) hx hp
  .cases ho
 .rename_i t x y dq;split at ho
  .rename_i i id off vs hi hx hv;split at ho
   .rename_i cs ej;split at ho
    .rename_i hc;simp only[Zc,Zg]at ho;obtain⟨rfl,rfl⟩:=ho;exact Wt hs hf dq (hT t i hi) hx ej hv hc.1 hc.2
    .cases ho
   .rename_i cs ej;split at ho
    .rename_i hc;simp only[Zc,Zg]at ho;obtain⟨rfl,rfl⟩:=ho;exact Rq hs hf dq (hT t i hi) hx ej hv hc.1 hc.2
    .cases ho
   .cases ho
  .cases ho
 .rename_i x dq;split at ho
  .rename_i id off hx;simp only[Zc,Zg]at ho;obtain⟨rfl,rfl⟩:=ho;have:=Rr hs hf dq (.inl ⟨_,_,hx⟩)
   rwa [hx]at this
  .rename_i row j hx;simp only[Zc,Zg]at ho;obtain⟨rfl,rfl⟩:=ho;have:=Rr hs hf dq (.inr (.inl ⟨_,_,hx⟩))
   rwa [hx]at this
  .rename_i f cs hx;simp only[Zc,Zg]at ho;obtain⟨rfl,rfl⟩:=ho;have:=Rr hs hf dq (.inr (.inr ⟨_,_,hx⟩))
   rwa [hx]at this
  .cases ho
 .rename_i t x f dq;split at ho
  .rename_i sz ag zero fs hi;split at ho
   .rename_i of fsz fag id off Nu hx;split at ho
    .cases ho
    .rename_i ik;simp only[Zc,Zg]at ho;obtain⟨rfl,rfl⟩:=ho;exact(LG hs hf dq (hT t _ hi) rfl Nu ik).1 id off hx
   .rename_i of fsz fag row j Nu hx;split at ho
    .cases ho
    .rename_i ik;simp only[Zc,Zg]at ho;obtain⟨rfl,rfl⟩:=ho;exact(LG hs hf dq (hT t _ hi) rfl Nu ik).2 row j hx
   .cases ho
  .cases ho
 .rename_i t x ix dq;split at ho
  .rename_i sz ag zero KU Ud eb ez n hi hn;split at ho
   .rename_i id s off len kk hx;split at ho
    .rename_i hc;simp only[Zc,Zg]at ho;obtain⟨rfl,rfl⟩:=ho;obtain⟨rfl,du⟩:=hc;exact(Hb hs hf dq (hT t _ hi) rfl hn).1 id off len kk hx du
    .cases ho
   .rename_i s cq z hx;split at ho
    .rename_i hc;simp only[Ze,Zg]at ho;obtain⟨row,cY,rfl,rfl⟩:=ho;subst hc;exact(Hb hs hf dq (hT t _ hi) rfl hn).2 cq z row hx cY
    .cases ho
   .cases ho
  .rename_i sz ag zero m KU Ud n hi hn;split at ho
   .rename_i id off hx;split at ho
    .rename_i du;simp only[Zc,Zg]at ho;obtain⟨rfl,rfl⟩:=ho;exact(Hc hs hf dq (hT t _ hi) rfl hn du).1 id off hx
    .cases ho
   .rename_i row j hx;split at ho
    .rename_i du;simp only[Zc,Zg]at ho;obtain⟨rfl,rfl⟩:=ho;exact(Hc hs hf dq (hT t _ hi) rfl hn du).2 row j hx
    .cases ho
   .cases ho
  .cases ho
 .rename_i t x f dq;split at ho
  .rename_i sz ag zero fs cs hi hx;split at ho
   .rename_i off fsz fag Nu;simp only[Ze,Zg]at ho;obtain⟨y,hp,rfl,rfl⟩:=ho;exact Rs hs hf dq (hT t _ hi) rfl Nu hx hp
   .cases ho
  .cases ho
 .rename_i t x ix dq;split at ho
  .rename_i sz ag zero n KU Ud cs hi hx;split at ho
   .rename_i k hn;split at ho
    .rename_i du;simp only[Ze,Zg]at ho;obtain⟨y,hp,rfl,rfl⟩:=ho;exact Rt hs hf dq (hT t _ hi) rfl hn du hx hp
    .cases ho
   .cases ho
  .exact Fk ho
 .rename_i x i dq;split at ho
  .rename_i vs hx;simp only[Ze,Zg]at ho;obtain⟨y,hy,rfl,rfl⟩:=ho;exact Nx hs hf dq hx hy
  .cases ho
 .rename_i f first nM dq
  split at ho
  .rename_i h0;simp only[Zc,Zg]at ho;obtain⟨rfl,rfl⟩:=ho;exact JU hs hf dq h0
  .simp only[Zc,Zg]at ho;obtain⟨rfl,rfl⟩:=ho;exact cN hs (v:= .func (.func f) (first.map a.eval) (nM.map a.eval)) (by simp[execOp,dq,Instr.makeFunc]) (.im (.oc _ rfl))
 .rename_i t l c dq;split at ho
  .rename_i sz ag zero KU Ud eb ez n m hi hn hm;split at ho
   .rename_i hc;obtain⟨rfl,j5,yF⟩:=hc;simp only[Zc,Zg]at ho;obtain⟨rfl,rfl⟩:=ho;exact HO hs hf dq (hT t _ hi) rfl hn hm j5 yF
   .cases ho
  .cases ho
 .rename_i t x lo hi mx dq;split at ho
  .exact Fk ho
  .split at ho
   .rename_i sz ag zero KU Ud eb ez IX;split at ho
    .rename_i hz;simp only[Ze,Zg]at ho;obtain⟨y,hy,rfl,rfl⟩:=ho;exact XM hs hf dq (hT t _ IX) rfl hz hy
    .cases ho
   .cases ho
 .rename_i op t x y t' dq;split at ho
  .rename_i hc;have hg:=Ua hs hf dq hc;split at ho
   .simp only[Zc,Zg]at ho;obtain⟨rfl,rfl⟩:=ho;exact hg.1 rfl
   .simp only[Zc,Zg]at ho;obtain⟨rfl,rfl⟩:=ho;exact hg.2 rfl
   .cases ho
  .exact Fk ho
 .rename_i src dst x dq;split at ho
  .rename_i s hx;split at ho
   .rename_i hc;simp only[Zh]at hc;split at ho
    .rename_i j5;simp only[Zc,Zg]at ho;obtain⟨rfl,rfl⟩:=ho;exact OJ hs hf dq hx hc.1 hc.2 j5
    .cases ho
   .exact Fk ho
  .rename_i id off len k hx;split at ho
   .rename_i hc;simp only[Zh]at hc;split at ho
    .rename_i m news hn;simp only[Ze,Zg]at ho;obtain⟨bs,hb,rfl,rfl⟩:=ho;exact Kx hs hf dq hx hc.1 hc.2 hn hb
    .cases ho
   .cases ho
  .exact Fk ho
 .rename_i t dq;split at ho
  .simp only[Zc,Zg]at ho;obtain⟨rfl,rfl⟩:=ho;exact OL hs dq
  .cases ho
 .rename_i t m k x dq;split at ho
  .rename_i id s hm hk;split at ho
   .rename_i ht;split at ho
    .rename_i es clock ej;split at ho
     .rename_i rQ;have hg:=Ik hs hf dq hm hk ht ej rQ;split at ho
      .rename_i i hi;simp only[Zc,Zg]at ho;obtain⟨rfl,rfl⟩:=ho;exact hg.1 i hi
      .rename_i hi;simp only[Zc,Zg]at ho;obtain⟨rfl,rfl⟩:=ho;exact hg.2 hi
     .cases ho
    .cases ho
   .cases ho
  .cases ho
 .rename_i t m k ok dq;split at ho
  .rename_i id s hm hk;split at ho
   .rename_i ht;split at ho
    .rename_i es clock ej;split at ho
     .rename_i rQ;simp only[Ze,Zg]at ho;obtain⟨q,hq,rfl,rfl⟩:=ho;exact Ub hs hf dq hm hk ht ej rQ hq
     .cases ho
    .cases ho
   .cases ho
  .exact Fk ho
 .rename_i t x dq;split at ho
  .rename_i s hx;split at ho
   .rename_i ht;simp only[Zc,Zg]at ho;obtain⟨rfl,rfl⟩:=ho;exact YI hs hf dq hx ht
   .cases ho
  .cases ho
 .rename_i x dq;split at ho
  .rename_i id hx;split at ho
   .rename_i s pos ej;obtain⟨g1,g2⟩:=acw hs hf dq hx ej;split at ho
    .rename_i hp;simp only[Zc,Zg]at ho;obtain⟨rfl,rfl⟩:=ho;exact g1 hp
    .rename_i hp;simp only[Zc,Zg]at ho;obtain⟨rfl,rfl⟩:=ho;exact g2 hp
   .cases ho
  .cases ho
 .rename_i x dq;split at ho
  .rename_i t v hx;simp only[Zc,Zg]at ho;obtain⟨rfl,rfl⟩:=ho;exact YJ hs hf dq hx
  .cases ho
 .rename_i f args wO dq;split at ho
  .rename_i g nM FQ;split at ho
   .exact Fk ho
   .exact g_call hs hf cW dq FQ ho
  .cases ho
 .rename_i args wO dq;split at ho
  .rename_i s x t t' jK Cy;split at ho
   .rename_i ht;subst ht;rw[ui jK,ui Cy]at dq;exact TY hs hf dq hT ho
   .rw[ui jK,ui Cy]at dq;exact YF hs hf dq hT ho
  .cases ho
 .rename_i args wO dq;split at ho
  .rename_i s x t t' jK Cy;split at ho
   .rename_i ht;subst ht;rw[ui jK,ui Cy]at dq;exact acv hs hf dq hT ho
   .cases ho
  .cases ho
 .rename_i args wO dq;split at ho
  .rename_i x t jK Cy;rw[aal jK,aal Cy]at dq;exact YG hs hf dq hT ho
  .cases ho
 .rename_i args wO dq;split at ho
  .rename_i m k t t' jK Cy;rw[ui jK,ui Cy]at dq;split at ho
   .rename_i id s hm hk;split at ho
    .rename_i ht;split at ho
     .rename_i es clock ej;split at ho
      .rename_i rQ;have hg:=Uc hs hf dq hm hk ht ej rQ;split at ho
       .rename_i i hi;simp only[Zc,Zg]at ho;obtain⟨rfl,rfl⟩:=ho;exact hg.1 i hi
       .rename_i hi;simp only[Zc,Zg]at ho;obtain⟨rfl,rfl⟩:=ho;exact hg.2 hi
      .cases ho
     .cases ho
    .cases ho
   .cases ho
  .cases ho
 .rename_i args wO dq;split at ho
  .rename_i x t jK Cy;split at ho
   .rename_i n sz ag zero KU Ud eb ez hn hi;simp only[Zc,Zg]at ho;obtain⟨rfl,rfl⟩:=ho;exact adN hs hf dq jK Cy (hT t _ hi) rfl hn
   .exact Fk ho
  .cases ho
 .exact Fk ho
def Il(hs:ia C.G w X ρ h)(hf:RF w (dZ X ρ h) ρ h.length a.tmps fr)(hT:∀t i,C.T t=some i->ir C.P t=some i){r:AV}{h':Hp}(ho:lY C (ev C fr) h o=some (r,h')):Good C o a w X ρ h r h':=by
 unfold lY at ho;split at ho
 .rename_i t len parts dq;split at ho
  .rename_i sz ag zero KU Ud eb ez hi;split at ho
   .rename_i Cs;split at ho
    .rename_i cs hc;split at ho
     .rename_i fZ;simp only[Zc,Zg]at ho;obtain⟨rfl,rfl⟩:=ho;exact E6 hs hf dq (hT t _ hi) rfl Cs hc fZ
     .cases ho
    .cases ho
   .cases ho
  .cases ho
 .rename_i t l c dq;split at ho
  .rename_i hi hn hm;split at ho
   .rename_i hc;simp only[Zc,Zg]at ho;obtain⟨rfl,rfl⟩:=ho;obtain⟨rfl,j5,yF⟩:=hc;exact HP hs hf dq (hT t _ hi) rfl hn hm j5 yF
   .cases ho
  .cases ho
 .rename_i t x lo hi dq;split at ho
  .rename_i zero aiY sz ag tM ez id s off len IX hx;split at ho
   .rename_i l m cs hl hm hr;split at ho
    .rename_i hc;simp only[Zc,Zg]at ho;obtain⟨rfl,rfl⟩:=ho;obtain⟨rfl,hlm,EK,du⟩:=hc;exact YH hs hf dq (hT t _ IX) rfl hx hl hm hr hlm EK du
    .cases ho
   .cases ho
  .cases ho
 .rename_i args wO dq;split at ho
  .rename_i s x t t' hl ht;split at ho
   .rename_i htt;subst htt;have aey:=dq;rw[ui hl,ui ht]at aey;split at ho
    .rename_i hi;split at ho
     .rename_i ik;split at ho
      .rename_i m news s0 z hn hq;have key:=T9 hs hf aey hT hi ik hn hq;split at ho
       .rename_i hm;simp only[Zc,Zg]at ho;obtain⟨rfl,rfl⟩:=ho;exact key.1 hm
       .rename_i hm;split at ho
        .rename_i hc;simp only[Zc,Zg]at ho;obtain⟨rfl,rfl⟩:=ho;exact key.2 (by omega) hc.1 hc.2.1 hc.2.2.1 hc.2.2.2
        .cases ho
      .cases ho
     .cases ho
    .cases ho
   .cases ho
  .cases ho
 .cases ho
def DP(hs:ia C.G w X ρ h)(hf:RF w (dZ X ρ h) ρ h.length a.tmps fr)(hT:∀t i,C.T t=some i->ir C.P t=some i){call:lu}(cW:jm C call){r:AV}{h':Hp}(ho:qj C call (ev C fr) h o=some (r,h')):Good C o a w X ρ h r h':=by
 unfold qj at ho;split at ho
 .exact Il hs hf hT ho
 .exact KA hs hf hT cW ho
end ops
end Go.Ae
