/- Part of the proof. -/
import Derived.Test.YtaibpnppeiigdaaGreatDoorP3
set_option linter.all false
namespace Go.Ae
open Go
section ops
variable {C : Cx} {w : World} {X : Nat -> Prop} {ρ : Nat -> Nat} {h : Hp} {a : Act} {fr : List AV} {o : Oper}
def EX {α:Type}{xs:Array α}{x y:α}(h:xs.toList=[x,y]):xs= #[x,y]:=by
 obtain⟨l⟩:=xs;simp only at h;rw[h]
def acx {α:Type}{xs:Array α}{x:α}(h:xs.toList=[x]):xs= #[x]:=by
 obtain⟨l⟩:=xs;simp only at h;rw[h]
def jy {P:Program}{t ty e:TypeId}{i:TypeInfo}(ht:P.underlying t=some (.slice e))(hi:P.info? e=some i)(b0 base:Option Addr)(n tu cap:Nat)(hn:n<=tu)(w:World):
 (Builtin.append_ #[t,t] ty #[.slice b0 n tu,.slice base 0 cap]).run P w= .ok (.slice b0 n tu) w:=by
 cases b0<;>cases base<;>
  simp[Builtin.append_,run_underlying ht,sizeOf,typeInfo,hi,Builtin.lenOf,Builtin.firstCells,loadCells,loadCellsFrom,hn,storeCells]
def uF {P:Program}{t ty e:TypeId}{i:TypeInfo}(ht:P.underlying t=some (.slice e))(hi:P.info? e=some i)(b o' abB aeU m c:Nat)(ad:Addr)(news:List Value)(hl:news.length=m*i.size){w w':World}
 (uJ:∀(j:Nat) (u:Value),news[j]?=some u->w.cell? (ad.add j)=some u) (nu:abB+m<=aeU) (dD:(storeCells ⟨b,o'+abB*i.size,none⟩ news).run P w= .ok () w'):
 (Builtin.append_ #[t,t] ty #[.slice (some ⟨b,o',none⟩) abB aeU,.slice (some ad) m c]).run P w= .ok (.slice (some ⟨b,o',none⟩) (abB+m) aeU) w':=by
 have hf:=run_firstCells_some (P:=P) w i.size m ad m c news hl uJ;simp[Builtin.append_,run_underlying ht,sizeOf,typeInfo,hi,Builtin.lenOf,nu,hf,add_lit,dD]
def Kg {w w':World}{O O':Nat->Prop}(dD:Step w O w' O'){X':Nat->Prop}{ρ':Nat->Nat}{n' id sz off len cap:Nat}{dA:Array Value}{t:TypeId}{fz:Nat × Nat}(dC:id<n')(hw:w.heap[ρ' id]?=some (.cells dA t fz))(h1:off+cap*sz=dA.size)
 (h2:len<=cap) (h3:cap<=maxLen):Rp w' X' ρ' n' (.slice (some ⟨ρ' id,off,none⟩) len cap) (.sl id sz off len false):=by
 obtain⟨c',t',f',hc,gC⟩:=dD.row _ _ _ _ hw;exact .sl id sz off len cap false c' t' f' dC hc (by omega) (by simp) (by intro;omega) h2 h3
def za {G:Nat->Option (List Value)}(hs:iw G w X ρ h)(e:TypeId)(dX zeros:List Value){cs:List AV}(cU:dX.length=cs.length)(lB:∀u∈dX,u.oneCell'=true)
 (ng:∀(k:Nat) (y:AV),cs[k]?=some y->Rp w (fj X ρ h) ρ h.length (dX.getD k undef) y) (dA:Array Value) (lr:dA=(dX++zeros).toArray):
 Ext G w X ρ h (w.drew.alloc (.cells dA e (0,0))) (λi=>if i=h.length then w.heap.size else ρ i) (h++[.row cs]):=by
 have h1:=uQ hs (w.drawn+1);have h2:=uP h1.wO dA e cs (λk=>dX.getD k undef) (by subst lr;simp;omega) (λk x hk=>by
  have g_:k<dX.length:=by have:=(Za.1 hk).1;omega
  have hv:dX.getD k undef=dX[k]:=by simp[List.getD,Zb g_]
  refine⟨?_,by rw[hv];exact lB _ (Xd g_),h1.rp (ng k x hk)⟩;subst lr;rw[List.getElem?_toArray,Zd g_,hv,Zb g_]) (0,0) (.inl rfl)
 exact h1.trans h2
def jZ {x s:Operand}{t:TypeId}(eD:o.op= .call {callee:= .builtin .append,args:= #[s,x],argTypes:= #[t,t]}){v:Value}{w':World}
 (hr:(Builtin.append_ #[t,t] o.type #[a.eval s,a.eval x]).run C.P w= .ok v w'):(execOp a.eval o).run C.P w= .ok (.value v) w':=by
 unfold execOp;simp only[eD,resolve,invoke,builtin,Sem.run_bind,Sem.run_pure,Result.andThen_ok,List.map_toArray,Xi,List.map_nil,hr]
def EY (hs:iw C.G w X ρ h){s x:Operand}{t e:TypeId}{ei:TypeInfo}{z':Value}(eD:o.op= .call {callee:= .builtin .append,args:= #[s,x],argTypes:= #[t,t]})
 (h1:C.P.underlying t=some (.slice e)) (k1:C.P.info? e=some ei) (k3:ei.zero=some z') (k9:z'.cells.size=ei.size) {ad:Addr} {n gp:Nat} (hv:a.eval s= .slice (some ad) n gp) {olds:List Value} {R9:List AV}
 (EE:olds.length=n*ei.size) (hoA:R9.length=olds.length) (hoc:∀(j:Nat) (u:Value),olds[j]?=some u->w.cell? (ad.add j)=some u) (ho1:∀u∈olds,u.oneCell'=true)
 (jM:∀(k:Nat) (y:AV),R9[k]?=some y->Rp w (fj X ρ h) ρ h.length (olds.getD k undef) y) {b o' m cap:Nat} {dX:List Value} {news:List AV} (hx:a.eval x= .slice (some ⟨b,o',none⟩) m cap)
 (mY:dX.length=m*ei.size) (nS:news.length=m*ei.size) (fo:∀(j:Nat) (u:Value),dX[j]?=some u->w.cell? ((⟨b,o',none⟩:Addr).add j)=some u) (lB:∀u∈dX,u.oneCell'=true)
 (ng:∀(k:Nat) (y:AV),news[k]?=some y->Rp w (fj X ρ h) ρ h.length (dX.getD k undef) y) (qE:gp<n+m) (jt:n+m<=maxLen) (yw:(n+m)*ei.bytes<=140737488355328):
 Good C o a w X ρ h (.sl h.length ei.size 0 (n+m) false) (h++[.row (R9++news)]):=by
 have O0:=grownCap_le_maxLen w (n+m) gp e jt;have rS:=grownCap_ge w (n+m) gp e;have he:=za hs e (olds++dX) (Builtin.zeroCells z'.cells (grownCap w (n+m) gp e-(n+m))).toList (cs:=R9++news) (by simp;omega)
  (λu hu=>by
   rcases Ya.1 hu with hu|hu
   .exact ho1 u hu
   .exact lB u hu)
  (λk y Hf=>by
   by_cases g_:k<R9.length
   .rw[Zd g_]at Hf;have e2:(olds++dX).getD k undef=olds.getD k undef:=by
     simp only[List.getD];rw[Zd (by omega)]
    rw[e2];exact jM k y Hf
   .rw[Zf (by omega)]at Hf;have e2:(olds++dX).getD k undef=dX.getD (k-R9.length) undef:=by
     simp only[List.getD];rw[Zf (by omega),hoA]
    rw[e2];exact ng _ y Hf)
  (olds.toArray++dX.toArray++Builtin.zeroCells z'.cells (grownCap w (n+m) gp e-(n+m))) (by apply Array.ext';simp)
 have xU:((n+m:Nat):Int)<=9223372036854775807:=by simp only[maxLen]at jt;omega
 refine fW (v:= .slice (some ⟨w.heap.size,0,none⟩) (n+m) (grownCap w (n+m) gp e)) ?_ he (y7 w _ h ρ _ _ _ _ _ (by simp) _ e (0,0) (jT w.drew _) ?_ rS O0)
 .refine jZ eD ?_;rw[hv,hx];exact run_append_grow (P:=C.P) w t o.type e ei z' h1 k1 k3 ad n gp olds EE hoc ⟨b,o',none⟩ m cap dX mY fo qE xU (growslice_fits qE yw)
 .rw[Array.size_append,Array.size_append,List.size_toArray,List.size_toArray,size_zeroCells,k9,mY,EE,<-Xw,<-Xw]
  congr 1
  omega
def abC {b o' sz:Nat}{X:Nat->Prop}{cY:List (List AV)}{us:Nat->Nat->Value}{dA:Array Value}{t0:TypeId}{fz:Nat × Nat}(gC:0<sz)(c2:w.heap[b]?=some (Obj.cells dA t0 fz))
 (c7:∀(i:Nat) (row:List AV),cY[i]?=some row->row.length=sz)
 (c8:∀(i:Nat) (row:List AV) (j:Nat) (x:AV),cY[i]?=some row->row[j]?=some x->dA[o'+i*sz+j]?=some (us i j)/\Value.oneCell' (us i j)=true/\Ri w X (us i j) x):
 ∃dX:List Value,dX.length=cY.length*sz/\cY.flatten.length=cY.length*sz/\(∀(j:Nat) (u:Value),dX[j]?=some u->w.cell? ((⟨b,o',none⟩:Addr).add j)=some u)/\(∀u∈dX,u.oneCell'=true)/\
  ∀(k:Nat) (y:AV),cY.flatten[k]?=some y->Ri w X (dX.getD k undef) y:=by
 have dJ:∀row∈cY,row.length=sz:=λrow hm=>by
  obtain⟨k,hk,rfl⟩:=List.getElem_of_mem hm;exact c7 k _ (Zb hk)
 have hfg:=uA gC cY dJ;have cU:=dH cY dJ;refine⟨(List.range (cY.length*sz)).map λk=>us (k/sz) (k % sz),by simp,cU,?_,?_,?_⟩
 .intro j u hj;simp only[Zs,Ze]at hj;obtain⟨k,hk,rfl⟩:=hj;have jU:j<cY.length*sz:=by have:=(Za.1 hk).1;simpa using this
  rw[Xp jU]at hk;cases hk;have h1:j/sz<cY.length:=by rw[Nat.div_lt_iff_lt_mul gC];exact jU
  have h2:j % sz< (cY[j/sz]).length:=by rw[c7 _ _ (Zb h1)];exact Nat.mod_lt _ gC
  have:=c8 (j/sz) _ (j % sz) _ (Zb h1) (Zb h2);rw[add_lit,ka c2,<-this.1]
  congr 1
  have:=Nat.div_add_mod j sz;rw[Nat.mul_comm]at this;omega
 .intro u hu;simp only[Yi,List.mem_range]at hu;obtain⟨j,jU,rfl⟩:=hu;have h1:j/sz<cY.length:=by rw[Nat.div_lt_iff_lt_mul gC];exact jU
  have h2:j % sz< (cY[j/sz]).length:=by rw[c7 _ _ (Zb h1)];exact Nat.mod_lt _ gC
  exact(c8 (j/sz) _ (j % sz) _ (Zb h1) (Zb h2)).2.1
 .intro k y hk;have g_:k<cY.length*sz:=by have:=(Za.1 hk).1;rwa [cU]at this
  rw[hfg]at hk;simp only[Yh]at hk;obtain⟨row,hr,hy⟩:=hk;have:=c8 _ row _ y hr hy;have e2:((List.range (cY.length*sz)).map λk=>us (k/sz) (k % sz)).getD k undef=us (k/sz) (k % sz):=by simp[List.getD,Xp g_]
  rw[e2];exact this.2.2
def WU (hs:iw C.G w X ρ h)(hf:RF w (fj X ρ h) ρ h.length a.tmps fr){s x:Operand}{t:TypeId}(eD:o.op= .call {callee:= .builtin .append,args:= #[s,x],argTypes:= #[t,t]})
 (hT:∀t i,C.T t=some i->f_ C.P t=some i) {r:AV} {h':Hp} (ha:eE C h t (ev C fr s) (ev C fr x)=some (r,h')):Good C o a w X ρ h r h':=by
 unfold eE at ha;split at ha
 case h_2=>cases ha
 rename_i sz ag vN ez rT;obtain⟨d,info,z,h1,h2,h3,h4,h5,h6,h7,h8,h9⟩:=eP (hT t _ rT);obtain⟨e,ei,ed,z',rfl,k1,k2,k3,rfl,k5,rfl,k7,k8,k9,qQ⟩:=fV h4;split at ha
 case isFalse=>cases ha
 rename_i gC;simp only[Zh]at gC;split at ha
 case h_2=>cases ha
 rename_i m news uJ;obtain⟨base,cap,hx,nS,xV⟩:=rO hs hf qQ gC.2 uJ;have es:=eH hs hf s;split at ha
 .
  rename_i hm;subst hm;have hval:∃b0 n tu,a.eval s= .slice b0 n tu/\n<=tu/\r=ev C fr s/\h'=h:=by
   cases hq:ev C fr s with
   |
    sc u=>
    rw[hq]at ha es gC;split at ha
    .rename_i hu;simp only[AV.sc.injEq]at hu;subst hu;simp only[Zc,Zg]at ha;exact⟨none,0,0,es.eF.1,Yt _,ha.1.symm,ha.2.symm⟩
    .rename_i hu;cases hu
    .rename_i hu;cases hu
    .cases ha
   |
    ls qk cY zz=>
    rw[hq]at ha es;simp only[Zc,Zg]at ha;rcases es.mR.iM with⟨rfl,b,gp,hv,_⟩|⟨b,o',gp,us,dA,t0,fz,hv,_,_,hc,_⟩
    .exact⟨b,0,gp,hv,Nat.zero_le _,ha.1.symm,ha.2.symm⟩
    .exact⟨_,_,gp,hv,hc,ha.1.symm,ha.2.symm⟩
   |
    sl id qk off len k=>
    rw[hq]at ha es;simp only[Zc,Zg]at ha;obtain⟨gp,dA,t0,fz,hv,_,_,_,_,_,hc,_⟩:=es.j_;exact⟨_,_,gp,hv,hc,ha.1.symm,ha.2.symm⟩
   |_=>rw[hq]at ha;cases ha
  obtain⟨b0,n,tu,hv,eG,rfl,rfl⟩:=hval;refine dE hs (jZ eD (v:= .slice b0 n tu) (by rw[hv,hx];exact jy h1 k1 b0 base n tu cap eG w)) ?_;rw[<-hv];exact es
 .rename_i hm;rcases xV with s7|⟨b,o',dX,rfl,mY,fo,lB,ng⟩
  .exact absurd s7 hm
  have WV:0<m:=by omega
  have fresh:(∃b0,a.eval s= .slice b0 0 0)->m<=maxLen->m*ei.bytes<=140737488355328->Good C o a w X ρ h (.sl h.length ei.size 0 m false) (h++[.row news]):=by
   rintro⟨b0,hv⟩ jt yw;have xU:(m:Int)<=9223372036854775807:=by simp only[maxLen]at jt;omega
   have O0:=grownCap_le_maxLen w m 0 e jt;have rS:=grownCap_ge w m 0 e;have he:=za hs e dX (Builtin.zeroCells z'.cells (grownCap w m 0 e-m)).toList (cs:=news) (by omega) lB ng (dX.toArray++Builtin.zeroCells z'.cells (grownCap w m 0 e-m)) (by apply Array.ext';simp);refine fW (v:= .slice (some ⟨w.heap.size,0,none⟩) m (grownCap w m 0 e)) ?_ he (y7 w _ h ρ _ _ _ _ _ (by simp) _ e (0,0) (jT w.drew _) ?_ rS O0)
   .refine jZ eD ?_;rw[hv,hx];cases b0 with
    |none=>exact run_append_nil (P:=C.P) w t o.type e ei z' h1 k1 k3 ⟨b,o',none⟩ m cap dX mY fo WV xU (by omega)
    |
     some ad=>
     have:=run_append_grow (P:=C.P) w t o.type e ei z' h1 k1 k3 ad 0 0 [] (by simp) (by simp) ⟨b,o',none⟩ m cap dX mY fo (by omega) (by simpa using xU) (growslice_fits (by omega) (by simpa using yw));simpa using this
   .simp only[Array.size_append,List.size_toArray,size_zeroCells,k9,mY,<-Xw]
    congr 1
    omega
  split at ha
  .rename_i hq;split at ha
   .rename_i hc;simp only[Zc,Zg]at ha;obtain⟨rfl,rfl⟩:=ha;rw[hq]at es;exact fresh ⟨none,es.eF.1⟩ hc.1 hc.2
   .cases ha
  .rename_i qk cY hq;split at ha
   .rename_i hc;simp only[Zc,Zg]at ha;obtain⟨rfl,rfl⟩:=ha;rw[hq]at es gC;have WW:qk=ei.size:=by simpa[jL]using gC.1
    subst WW;rcases es.mR.iM with⟨rfl,b0,gp,hv,_,nh⟩|⟨b0,o0,gp,us,dA,t0,fz,hv,c1,c2,_,_,nh,c7,c8⟩
    .rw[nh rfl]at hv;have:=fresh ⟨b0,hv⟩ (by simpa using hc.1) (by simpa using hc.2);simpa using this
    .rw[nh rfl]at hv;obtain⟨olds,q1,q2,q3,q4,q5⟩:=abC (w:=w) (X:=fj X ρ h) qQ c2 c7 c8;exact EY hs eD h1 k1 k3 k9 hv q1 (by omega) q3 q4 (λk y hk=> .im (q5 k y hk)) hx mY nS fo lB ng (by omega) hc.1 hc.2
   .cases ha
  .rename_i id qk off len hq;rw[hq]at es gC;have WW:qk=ei.size:=by simpa[jL]using gC.1
   subst WW;obtain⟨gp,dA,t0,fz,hv,zT,mI,nh,hk,_,YT,yf⟩:=es.j_;split at ha
   case h_2=>cases ha
   rename_i cs dC;split at ha
   case isFalse=>cases ha
   rename_i hc;simp only[Zc,Zg]at ha;obtain⟨rfl,rfl⟩:=ha;obtain⟨WX,t1,fz1,us,c1,c3⟩:=hs.cells dC;rw[hk rfl]at hv;have oL:∀j,j<len*ei.size->cs[off+j]?=some cs[off+j]!:=λj hj=>by
    have:off+j<cs.length:=by omega
    simp[Zb this,getElem!_pos cs (off+j) this]
   refine EY hs eD h1 k1 k3 k9 hv (olds:=(List.range (len*ei.size)).map λj=>us (off+j)) (by simp) (by simp;omega) ?_ ?_ ?_ hx mY nS fo lB ng (by omega) hc.2.1 hc.2.2
   .intro j u hj;simp only[Zs,Ze]at hj;obtain⟨k,og,rfl⟩:=hj;have jU:j<len*ei.size:=by have:=(Za.1 og).1;simpa using this
    rw[Xp jU]at og;cases og;rw[add_lit,ka c1];exact(c3 _ _ (oL j jU)).1
   .intro u hu;simp only[Yi,List.mem_range]at hu;obtain⟨j,jU,rfl⟩:=hu;exact(c3 _ _ (oL j jU)).2.1
   .intro k y og;rw[Xr]at og;split at og
    .rename_i g_;rw[Xg]at og;have e2:((List.range (len*ei.size)).map λj=>us (off+j)).getD k undef=us (off+k):=by simp[List.getD,Xp g_]
     rw[e2];exact(c3 _ y og).2.2
    .cases og
  .rename_i id qk off len hq;rw[hq]at es gC;have WW:qk=ei.size:=by simpa[jL]using gC.1
   subst WW;obtain⟨gp,dA,t0,fz,hv,zT,mI,_,_,Pc,YT,yf⟩:=es.j_;have nh:=Pc rfl;split at ha
   case h_2=>cases ha
   rename_i cs dC;obtain⟨WX,t1,fz1,us,c1,hfz1,c2,c3⟩:=hs.row id cs dC;have hcc:WX=dA:=by rw[mI]at c1;cases c1;rfl
   subst hcc;split at ha
   .
    rename_i nu;simp only[Zc,Zg]at ha;obtain⟨rfl,rfl⟩:=ha;have eW:len+m<=gp:=by
     have:(len+m)*ei.size<=gp*ei.size:=by omega
     exact Nat.le_of_mul_le_mul_right this qQ
    obtain⟨w',dD,he⟩:=rC hs dC (off:=off+len*ei.size) (vs:=news) (by rw[nS];rw[Xw]at nu;omega) (dX:=dX) (by omega) lB ng;refine fW (v:= .slice (some ⟨ρ id,off,none⟩) (len+m) gp) ?_ he (Kg he.step (by simpa using zT) mI nh eW yf);refine jZ eD ?_;rw[hv,hx];exact uF h1 k1 _ _ _ _ _ _ _ dX mY fo eW dD
   .split at ha
    case isFalse=>cases ha
    rename_i hnroom hc;obtain⟨rfl,fq,jt,yw⟩:=hc;simp only[Zc,Zg]at ha;obtain⟨rfl,rfl⟩:=ha;by_cases eW:len+m<=gp
    .
     have uk:cs.length+news.length<=WX.size:=by
      rw[fq,nS,<-Xw,<-nh,Xb];exact Zx _ eW
     obtain⟨w',dD,he⟩:=B_ hs dC (off:=cs.length) (vs:=news) (Yt _) (λcur' t' x8 pS=>by rw[mI]at pS;cases pS;exact uk) (dX:=dX) (by omega) lB ng;have pY:da cs cs.length news=cs++news:=by simp[da]
     rw[pY]at he;have Dp:(h.set id (fp.row (cs++news)))[id]?=some (.row (cs++news)):=by
      have:id<h.length:=zT;simp[this]
     have hr:=AZ he.wO id (cs++news) Dp;have iA:(h.set id (fp.row (cs++news))).set id fp.dead=h.set id fp.dead:=by simp
     rw[iA]at hr;have dJ:=he.trans hr;refine fW (v:= .slice (some ⟨ρ id,0,none⟩) (len+m) gp) ?_ dJ ?_
     .refine jZ eD ?_;rw[hv,hx];refine uF h1 k1 _ _ _ _ _ _ _ dX mY fo eW ?_;rw[Xb,<-fq];exact dD
     .have:=Kg (X':=fj X (λi=>if i=(h.set id (fp.row (cs++news))).length then ρ id else ρ i) (h.set id fp.dead++[fp.row (cs++news)])) (ρ':=λi=>if i=(h.set id (fp.row (cs++news))).length then ρ id else ρ i)
       (n':=(h.set id fp.dead++[fp.row (cs++news)]).length) (id:=h.length) (sz:=ei.size) (off:=0) (len:=len+m) (cap:=gp) dJ.step (by simp) (by simpa using mI) nh eW yf
      simpa using this
    .
     have hk:=Ht hs id;have aeV:∀(j:Nat) (u:Value),((List.range cs.length).map us)[j]?=some u->w.cell? ((⟨ρ id,0,none⟩:Addr).add j)=some u:=by
      intro j u hj;simp only[Zs,Ze]at hj;obtain⟨k,og,rfl⟩:=hj;have jU:j<cs.length:=by have:=(Za.1 og).1;simpa using this
      rw[Xp jU]at og;cases og;rw[add_lit,ka mI,Xb];exact(c3 j _ (Zb jU)).1
     have rD:((List.range cs.length).map us).length=cs.length:=by simp
     have O0:=grownCap_le_maxLen w (len+m) gp e jt;have rS:=grownCap_ge w (len+m) gp e;have he:=za hk.wO e ((List.range cs.length).map us++dX) (Builtin.zeroCells z'.cells (grownCap w (len+m) gp e-(len+m))).toList (cs:=cs++news) (by simp;omega)
      (λu hu=>by
       rcases Ya.1 hu with hu|hu
       .simp only[Yi,List.mem_range]at hu;obtain⟨j,jU,rfl⟩:=hu;exact(c3 j _ (Zb jU)).2.1
       .exact lB u hu)
      (λk y Hf=>by
       by_cases g_:k<cs.length
       .rw[Zd g_]at Hf;have e2:((List.range cs.length).map us++dX).getD k undef=us k:=by
         simp only[List.getD];rw[Zd (by simpa using g_)];simp[Xp g_]
        rw[e2];exact hk.rp (c3 k y Hf).2.2
       .rw[Zf (by omega)]at Hf;have e2:((List.range cs.length).map us++dX).getD k undef=dX.getD (k-cs.length) undef:=by
         simp only[List.getD];rw[Zf (by simp;omega)];simp
        rw[e2];exact hk.rp (ng _ y Hf))
      (((List.range cs.length).map us).toArray++dX.toArray++Builtin.zeroCells z'.cells (grownCap w (len+m) gp e-(len+m))) (by apply Array.ext';simp)
     have dJ:=hk.trans he;have xU:((len+m:Nat):Int)<=9223372036854775807:=by simp only[maxLen]at jt;omega
     have nP:(h.set id fp.dead).length=h.length:=by simp
     rw[nP]at dJ;refine fW (v:= .slice (some ⟨w.heap.size,0,none⟩) (len+m) (grownCap w (len+m) gp e)) ?_ dJ (y7 w _ h ρ _ _ _ _ _ (by simp) _ e (0,0) (jT w.drew _) ?_ rS O0)
     .refine jZ eD ?_;rw[hv,hx];exact run_append_grow (P:=C.P) w t o.type e ei z' h1 k1 k3 ⟨ρ id,0,none⟩ len gp ((List.range cs.length).map us) (by simp[fq]) aeV ⟨b,o',none⟩ m cap dX mY fo (by omega) xU (growslice_fits (by omega) yw)
     .rw[Array.size_append,Array.size_append,List.size_toArray,List.size_toArray,size_zeroCells,k9,mY,rD,fq,<-Xw,<-Xw]
      congr 1
      omega
  .cases ha
def WY (hs:iw C.G w X ρ h)(hf:RF w (fj X ρ h) ρ h.length a.tmps fr){s x:Operand}{t:TypeId}(eD:o.op= .call {callee:= .builtin .append,args:= #[s,x],argTypes:= #[t,t]})
 (hT:∀t i,C.T t=some i->f_ C.P t=some i) {sz vN:Nat} {zero:List Value} {size:Nat} {agg ag:Bool} {ez:List Value} (rT:C.T t=some {size:=size,agg:=agg,zero:=zero,kd:= .slice sz ag vN ez})
 (gC:(jL sz (ev C fr s) && jL sz (ev C fr x))=true) {m:Nat} {news:List AV} (uJ:gY h (ev C fr x)=some (m,news)) {s0:Nat} {z:Bool} (hq:ev C fr s= .ls s0 [] z):
 (m=0->Good C o a w X ρ h (.ls s0 [] z) h)/\(0<m->m<=maxLen->m*vN<=140737488355328->z=true->news.all d_=true->Good C o a w X ρ h (.ls sz (chunk sz m news) false) h):=by
 obtain⟨d,info,zv,h1,h2,h3,h4,h5,h6,h7,h8,h9⟩:=eP (hT t _ rT);obtain⟨e,ei,ed,z',rfl,k1,k2,k3,rfl,k5,rfl,k7,k8,k9,qQ⟩:=fV h4;simp only[Zh]at gC;obtain⟨base,cap,hx,nS,xV⟩:=rO hs hf qQ gC.2 uJ;have es:=eH hs hf s;rw[hq]at es;have pO:∃b0 tu,a.eval s= .slice b0 0 tu/\(z=true->tu=0):=by
  rcases es.mR.iM with⟨_,b0,gp,hv,_,nh⟩|⟨b0,o0,gp,us,dA,t0,fz,hv,c1,c2,_,_,nh,c7,c8⟩
  .exact⟨b0,gp,hv,nh⟩
  .exact⟨_,gp,hv,λhz=>nh hz⟩
 obtain⟨b0,tu,hv,od⟩:=pO;refine⟨λhm=>?_,λWV jt yw hz dJ=>?_⟩
 .subst hm;refine dE hs (jZ eD (v:= .slice b0 0 tu) (by rw[hv,hx];exact jy h1 k1 b0 base 0 tu cap (Nat.zero_le _) w)) ?_;rw[<-hv];exact es
 .have akm:=od hz;subst akm;rcases xV with s7|⟨b,o',dX,rfl,mY,fo,lB,ng⟩
  .omega
  have xU:(m:Int)<=9223372036854775807:=by simp only[maxLen]at jt;omega
  have O0:=grownCap_le_maxLen w m 0 e jt;have rS:=grownCap_ge w m 0 e;have dD:Step w ef (w.drew.alloc (.cells (dX.toArray++Builtin.zeroCells z'.cells (grownCap w m 0 e-m)) e (0,0))) ef:=(JH w (w.drawn+1) (by omega)).trans (iV w.drew _);refine y8 (cap:=grownCap w m 0 e) hs dD (jT w.drew _) (by rw[nS];exact Yt _) rS O0 false (λhh=>by cases hh) dJ (λk y hk=>?_) ?_
  .have g_:k<dX.length:=by have:=(Za.1 hk).1;omega
   refine⟨dX[k],?_,lB _ (Xd g_),?_⟩
   .rw[Xx (by simpa using g_)];simp[g_]
   .have:=ng k y hk;simpa[List.getD,Zb g_]using this
  .refine jZ eD ?_;rw[hv,hx];cases b0 with
   |none=>exact run_append_nil (P:=C.P) w t o.type e ei z' h1 k1 k3 ⟨b,o',none⟩ m cap dX mY fo WV xU (by omega)
   |
    some ad=>
    have:=run_append_grow (P:=C.P) w t o.type e ei z' h1 k1 k3 ad 0 0 [] (by simp) (by simp) ⟨b,o',none⟩ m cap dX mY fo (by omega) (by simpa using xU) (growslice_fits (by omega) (by simpa using yw));simpa using this
def aeW (hs:iw C.G w X ρ h)(hf:RF w (fj X ρ h) ρ h.length a.tmps fr){s x:Operand}{t:TypeId}(eD:o.op= .call {callee:= .builtin .copy,args:= #[s,x],argTypes:= #[t,t]})
 (hT:∀t i,C.T t=some i->f_ C.P t=some i) {r:AV} {h':Hp} (ha:Ta C h t (ev C fr s) (ev C fr x)=some (r,h')):Good C o a w X ρ h r h':=by
 have hex:∀{v:Value} {w':World},(Builtin.copy_ #[t,t] o.type #[a.eval s,a.eval x]).run C.P w= .ok v w'->(execOp a.eval o).run C.P w= .ok (.value v) w':=by
  intro v w' hr;unfold execOp;simp only[eD,resolve,invoke,builtin,Sem.run_bind,Sem.run_pure,Result.andThen_ok,List.map_toArray,Xi,List.map_nil,hr]
 unfold Ta at ha;split at ha
 case h_2=>cases ha
 rename_i sz ag vN ez rT;obtain⟨d,info,z,h1,h2,h3,h4,h5,h6,h7,h8,h9⟩:=eP (hT t _ rT);obtain⟨e,ei,ed,z',rfl,k1,k2,k3,rfl,k5,rfl,k7,k8,k9,qQ⟩:=fV h4;split at ha
 case isFalse=>cases ha
 rename_i gC;simp only[Zh]at gC;have es:=eH hs hf s;split at ha
 case h_4=>cases ha
 .rename_i m news id qk off len kk uJ hq;obtain⟨base,cap,hx,nS,xV⟩:=rO hs hf qQ gC.2 uJ;rw[hq]at es;obtain⟨gp,dA,t0,fz,hv,zT,mI,nh,_,_,YT,yf⟩:=es.j_;split at ha
  case h_2=>cases ha
  rename_i cs dC;split at ha
  case isFalse=>cases ha
  rename_i uk;simp only[Zc,Zg]at ha;obtain⟨rfl,rfl⟩:=ha;have Q1:Nat.min m len=min m len:=rfl;rcases xV with rfl|⟨b,o',dX,rfl,mY,fo,lB,ng⟩
  .obtain⟨w',dD,he⟩:=rC hs dC (off:=off) (vs:=news.take (min 0 len*ei.size)) (by simp;omega) (dX:=[]) (by simp) (by simp) (by simp);refine fW (v:= .int .i64 (min 0 len:Nat)) (hex ?_) he (.im (.sc _ rfl));rw[hv,hx];have Ee:(Builtin.firstCells ei.size 0 (.slice base 0 cap)).run C.P w= .ok #[] w:=by
    cases base<;>simp[Builtin.firstCells,loadCells,loadCellsFrom]
   simp[Builtin.copy_,run_underlying h1,Builtin.lenOf,sizeOf,typeInfo,k1,Q1,Ee,dD,goInt]
  .have tW:(dX.take (min m len*ei.size)).length=min m len*ei.size:=by
    rw[Yy,mY];have:min m len*ei.size<=m*ei.size:=Zx _ (Nat.min_le_left _ _);omega
   have hnl':(news.take (min m len*ei.size)).length=min m len*ei.size:=by
    rw[Yy,nS];have:min m len*ei.size<=m*ei.size:=Zx _ (Nat.min_le_left _ _);omega
   obtain⟨w',dD,he⟩:=rC hs dC (off:=off) (vs:=news.take (min m len*ei.size)) (by omega) (dX:=dX.take (min m len*ei.size)) (by omega) (λu hu=>lB u (Xl hu)) (λk y hk=>by
    rw[Xr]at hk;split at hk
    .rename_i g_;have:=ng k y hk;simpa[List.getD,Xr,g_]using this
    .cases hk)
   refine fW (v:= .int .i64 (min m len:Nat)) (hex ?_) he (.im (.sc _ rfl));rw[hv,hx];have Ee:(Builtin.firstCells ei.size (min m len) (.slice (some ⟨b,o',none⟩) m cap)).run C.P w= .ok (dX.take (min m len*ei.size)).toArray w:=
    run_firstCells_some (P:=C.P) w ei.size (min m len) ⟨b,o',none⟩ m cap _ tW (λj u hj=>by
     rw[Xr]at hj;split at hj
     .exact fo j u hj
     .cases hj)
   simp[Builtin.copy_,run_underlying h1,Builtin.lenOf,sizeOf,typeInfo,k1,Q1,Ee,dD,goInt]
 .rename_i m news qk zz uJ hq;obtain⟨base,cap,hx,nS,xV⟩:=rO hs hf qQ gC.2 uJ;simp only[Zc,Zg]at ha;obtain⟨rfl,rfl⟩:=ha;rw[hq]at es;have hval:∃b0 tu,a.eval s= .slice b0 0 tu:=by
   rcases es.mR.iM with⟨_,b,gp,hv,_⟩|⟨b,o',gp,us,dA,t0,fz,hv,_⟩
   .exact⟨b,gp,hv⟩
   .exact⟨_,gp,hv⟩
  obtain⟨b0,tu,hv⟩:=hval;refine dE hs (v:= .int .i64 0) (hex ?_) (.im (.sc _ rfl));rw[hv,hx];cases b0<;>cases base<;>simp[Builtin.copy_,run_underlying h1,Builtin.lenOf,sizeOf,typeInfo,k1,Builtin.firstCells,loadCells,loadCellsFrom,goInt,storeCells]
 .rename_i m news uJ hq;obtain⟨base,cap,hx,nS,xV⟩:=rO hs hf qQ gC.2 uJ;simp only[Zc,Zg]at ha;obtain⟨rfl,rfl⟩:=ha;rw[hq]at es;have hv:=es.eF.1;refine dE hs (v:= .int .i64 0) (hex ?_) (.im (.sc _ rfl));rw[hv,hx];cases base<;>simp[Builtin.copy_,run_underlying h1,Builtin.lenOf,sizeOf,typeInfo,k1,Builtin.firstCells,loadCells,loadCellsFrom,goInt]
def abD (hs:iw C.G w X ρ h)(hf:RF w (fj X ρ h) ρ h.length a.tmps fr){x:Operand}{t:TypeId}(eD:o.op= .call {callee:= .builtin .clear,args:= #[x],argTypes:= #[t]})
 (hT:∀t i,C.T t=some i->f_ C.P t=some i) {r:AV} {h':Hp} (ha:vV C h t (ev C fr x)=some (r,h')):Good C o a w X ρ h r h':=by
 have hex:∀{v:Value} {w':World},(Builtin.clear_ #[t] o.type #[a.eval x]).run C.P w= .ok v w'->(execOp a.eval o).run C.P w= .ok (.value v) w':=by
  intro v w' hr;unfold execOp;simp only[eD,resolve,invoke,builtin,Sem.run_bind,Sem.run_pure,Result.andThen_ok,List.map_toArray,Xi,List.map_nil,hr]
 unfold vV at ha;split at ha
 case h_2=>cases ha
 rename_i zero akn sz ag vN ez id s off len k rT hq;obtain⟨d,info,z,h1,h2,h3,h4,h5,h6,h7,h8,h9⟩:=eP (hT t _ rT);obtain⟨e,ei,ed,z',rfl,k1,k2,k3,rfl,k5,rfl,k7,k8,k9,qQ⟩:=fV h4;subst k7;split at ha
 case h_2=>cases ha
 rename_i cs dC;split at ha
 case isFalse=>cases ha
 rename_i hc;obtain⟨rfl,qg,uk⟩:=hc;simp only[Zc,Zg]at ha;obtain⟨rfl,rfl⟩:=ha;have es:=eH hs hf x;rw[hq]at es;obtain⟨gp,dA,t0,fz,hv,zT,mI,nh,_,_,YT,yf⟩:=es.j_;have hRC:=CF (w:=w) (X:=fj X ρ h) (ρ:=ρ) k8 h.length len (by omega);obtain⟨q1,q2,q3⟩:=hRC;have gC:((List.range len).flatMap λ_=>z'.cells.toList.map AV.sc).length=len*ei.size:=by rw[wq];simp[k9]
 obtain⟨w',dD,he⟩:=rC hs dC (off:=off) (vs:=(List.range len).flatMap λ_=>z'.cells.toList.map AV.sc) (by rw[gC];exact uk) (dX:=((Array.range (len*z'.cells.size)).map (z'.cells[· % z'.cells.size]!)).toList)
  (by rw[<-q1];simp) (λu hu=>by
   obtain⟨j,hj,rfl⟩:=List.getElem_of_mem hu;have WZ:j< ((Array.range (len*z'.cells.size)).map (z'.cells[· % z'.cells.size]!)).size:=by simpa using hj
   have:=q2 j WZ
   rwa [Zr,Xv WZ,Yv]at this) (λj y hj=>by
   have:=q3 j y hj
   rwa [Zr,<-Array.getElem?_toList]at this)
 refine fW (v:= .tuple #[]) (hex ?_) he (.im (.tp #[] [] rfl (by simp)));obtain⟨m,rfl⟩:∃m,len=m+1:=⟨len-1,by omega⟩;rw[hv];simp[Builtin.clear_,run_underlying h1,zeroValue,typeInfo,k1,k3,Builtin.zeroCells]at dD|-;simp[dD]
def abE (hs:iw C.G w X ρ h)(hf:RF w (fj X ρ h) ρ h.length a.tmps fr){t:TypeId}{x:Operand}{lo hi:Option Operand}(eD:o.op= .slice t x lo hi none){i:Ti}(pQ:f_ C.P t=some i)
 {sz vN:Nat} {ag:Bool} {ez:List Value} (hk:i.kd= .slice sz ag vN ez) {id off len l m:Nat} {cs:List AV} (hx:ev C fr x= .sl id sz off len false) (hl:gQ 0 (lo.map (ev C fr))=some l) (hm:gQ len (hi.map (ev C fr))=some m)
 (hr:gI h id=some cs) (PE:l<=m) (uk:off+m*sz<=cs.length) (dY:l<m\/off+(l+1)*sz<=cs.length):Good C o a w X ρ h (.sl id sz (off+l*sz) (m-l) false) h:=by
 obtain⟨d,info,z,h1,h2,h3,h4,h5,h6,h7,h8,h9⟩:=eP pQ;rw[hk]at h4;obtain⟨e,ei,ed,Qw,rfl,k1,k2,k3,rfl,k5,k6,k7,k8,k9,qQ⟩:=fV h4;have e1:=eH hs hf x;rw[hx]at e1;obtain⟨cap,dA,t0,fz,hq,c1,c2,c3,ck,ck',c4,c5⟩:=e1.j_;obtain⟨cur',t',x8,us,d1,d2⟩:=hs.cells hr;rw[c2]at d1;cases d1;have eG:cs.length<=dA.size:=by
  rcases Nat.eq_zero_or_pos cs.length with h0|h0
  .omega
  .have:=(Xy.1 (d2 (cs.length-1) _ (Zb (by omega))).1).1;omega
 have nh:off+cap*ei.size=dA.size:=ck' rfl;have hmc:m<=cap:=by
  have:m*ei.size<=cap*ei.size:=by omega
  exact Nat.le_of_mul_le_mul_right this (by omega)
 have YT:l<cap:=by
  rcases dY with q|q
  .omega
  .have:(l+1)*ei.size<=cap*ei.size:=by omega
   exact Nat.le_of_mul_le_mul_right this (by omega)
 have hb:=sX hs hf hl hm (by omega) (cap:=cap) hmc;have kb:(execOp a.eval o).run C.P w= .ok (.value (.slice (if cap=l then some ⟨ρ id,off,none⟩else(some ⟨ρ id,off,none⟩:Option Addr).map (·.add (l*ei.size))) (m-l) (cap-l))) w:=by
  simp only[execOp,eD,Instr.sliceAt,Instr.slice,run_underlying h1,Sem.run_bind,Result.andThen_ok,hq,Option.map_none,hb,fu k1,Sem.run_pure]
 refine dE hs kb ?_;rw[db (show¬cap=l by omega)];have fq:l*ei.size+(cap-l)*ei.size=cap*ei.size:=by rw[<-Xw];congr 1;omega
 have:=Rp.sl (w:=w) (X:=fj X ρ h) (ρ:=ρ) (n:=h.length) id ei.size (off+l*ei.size) (m-l) (cap-l) false dA t0 fz c1 c2 (by omega) (λq=>by cases q) (λ_=>by omega) (by omega) (by omega);simpa[add_lit]using this
def th (C:Cx)(w:World)(X:Nat->Prop)(ρ:Nat->Nat)(h h':Hp)(r:AV)(e:Ending)(w':World):Prop:=
 ∃ρ',Ext C.G w X ρ h w' ρ' h'/\((∃v,e= .returned v/\Rp w' (fj X ρ' h') ρ' h'.length v r)\/∃u,e= .panicked [{v:=u,recovered:=false}]/\r= .pn u)
def lj (C:Cx)(call:jH):Prop:=
 ∀g xs h r h',call g xs h=some (r,h')->∀(w:World) (X:Nat->Prop) (ρ:Nat->Nat) (vs:Array Value),iw C.G w X ρ h->vs.size=xs.length->
  (∀(k:Nat) (x:AV),xs[k]?=some x->Rp w (fj X ρ h) ρ h.length (vs.getD k undef) x)->
  (∃fn,C.P.funcs[g]?=some fn/\fn.name≠ "runtime.NumGoroutine" /\fn.body.isSome=true)/\
  Calls C.P g vs w (th C w X ρ h h' r)
def g_call (hs:iw C.G w X ρ h)(hf:RF w (fj X ρ h) ρ h.length a.tmps fr){call:jH}(dy:lj C call){f:Operand}{args:Array Operand}{yD:Array TypeId}
 (eD:o.op= .call {callee:= .value f,args:=args,argTypes:=yD}) {g:FuncId} {pU:List AV} (wz:ev C fr f= .fn g pU) {r:AV} {h':Hp} (hr:call g (args.toList.map (ev C fr)++pU) h=some (r,h')):Good C o a w X ρ h r h':=by
 have e1:=eH hs hf f;rw[wz]at e1;obtain⟨us,hv,hul,hur⟩:=e1.qH;obtain⟨⟨fn,c1,c2,c3⟩,c4⟩:=dy g _ h r h' hr w X ρ (args.map a.eval++us) hs (by simp[hul]) (λk x hk=>by
  by_cases g_:k<args.size
  .rw[Zd (by simpa using g_)]at hk;simp only[Zs,Ze]at hk;obtain⟨y,hy,rfl⟩:=hk;have Gd:args[k]?=some y:=by simpa using hy
   have ako:args[k]=y:=by rw[Xv g_]at Gd;simpa using Gd
   have e2:(args.map a.eval++us).getD k undef=a.eval y:=by
    rw[Zr,Xx (by simpa using g_)];simp[g_,ako]
   rw[e2];exact eH hs hf y
  .rw[Zf (by simpa using g_)]at hk;have e2:(args.map a.eval++us).getD k undef=us.getD (k-args.size) undef:=by
    rw[Zr,Array.getElem?_append_right (by simpa using g_)];simp[Zr]
   rw[e2];exact hur _ x (by simpa using hk))
 intro K Q hK hQ;unfold Oper.wp;have kb:(execOp a.eval o).run C.P w= .ok (.enter g (args.map a.eval++us)) w:=by
  have hb:fn.body.isNone=false:=by cases hq:fn.body<;>simp_all
  simp only[execOp,eD,resolve,hv,Deferred.ofValue,invoke,callFunc,Sem.run_bind,Sem.run_pure,Result.andThen_ok,run_program,c1];simp[c2,hb]
 rw[kb,Oper.upon_enter];refine c4.mono λe w' ⟨ρ',hx,hh⟩=>?_
 rcases hh with⟨v,rfl,hrp⟩|⟨u,rfl,hru⟩
 .exact hK v w' ρ' hx hrp
 .exact hQ u w' ρ' hru hx
def R_ {n:Nat}{v:Value}{x:AV}(h:Rp w X ρ n v x)(hs:tF x=true):∃ad l c,v= .slice (some ad) l c:=by
 cases x with
 |
  ls sz cY z=>
  cases cY with
  |nil=>simp[tF]at hs
  |
   cons r cY=>
   rcases h.mR.iM with⟨h0,_⟩|⟨b,o',cap,us,dA,t0,fz,hq,_⟩
   .cases h0
   .exact⟨_,_,_,hq⟩
 |
  sl id sz off len k=>
  obtain⟨cap,dA,t,fz,hv,_⟩:=h.j_;exact⟨_,_,_,hv⟩
 |_=>simp[tF]at hs
def W4 (hs:iw C.G w X ρ h)(hf:RF w (fj X ρ h) ρ h.length a.tmps fr){op:BinOp}{t t':TypeId}{x y:Operand}(eD:o.op= .binOp op t x y t')(hc:(nQ C t && A2 y && tF (ev C fr x))=true):
 (op= .eql->Good C o a w X ρ h (.sc (.bool false)) h)/\(op= .neq->Good C o a w X ρ h (.sc (.bool true)) h):=by
 simp only[Zh]at hc;obtain⟨⟨xm,Hj⟩,hc3⟩:=hc;obtain⟨ad,l,c,hv⟩:=R_ (eH hs hf x) hc3;obtain⟨e,he⟩:∃e,C.P.underlying t=some (.slice e):=by
  unfold nQ at xm;split at xm
  .rename_i e he;exact⟨e,he⟩
  .cases xm
 have hy:a.eval y= .slice none 0 0:=by
  unfold A2 at Hj;split at Hj
  .rfl
  .cases Hj
 have hq:=run_equal_slice_nil w t e (some ad) l c he;constructor
 .rintro rfl;refine dE hs (v:= .bool false) ?_ (.im (.sc _ rfl));simp[execOp,eD,hv,hy,eqGuard,binOp,hq]
 .rintro rfl;refine dE hs (v:= .bool true) ?_ (.im (.sc _ rfl));simp[execOp,eD,hv,hy,eqGuard,binOp,hq]
def Kh {t:TypeId}(h:Fl C t=true):∃e,C.P.underlying t=some (.slice e)/\C.P.underlying e=some (.int .u8):=by
 unfold Fl at h;split at h
 .rename_i e he;split at h
  .rename_i h2;exact⟨e,he,h2⟩
  .cases h
 .cases h
def vh {t:TypeId}(h:isStr C t=true):C.P.underlying t=some .string:=by
 unfold isStr at h;split at h
 .assumption
 .cases h
def CS {t:TypeId}(h:tG C t=true):∃kt et,C.P.underlying t=some (.map kt et)/\C.P.underlying kt=some .string:=by
 unfold tG at h;split at h
 .rename_i kt et he;exact⟨kt,et,he,vh h⟩
 .cases h
def Sa (hs:iw C.G w X ρ h)(hf:RF w (fj X ρ h) ρ h.length a.tmps fr){src dst:TypeId}{x:Operand}(eD:o.op= .convert src dst x){s:ByteArray}(hx:ev C fr x= .sc (.string s))(h1:isStr C src=true)(h2:Fl C dst=true)(jt:s.size<=maxLen):
 Good C o a w X ρ h (.sl h.length 1 0 s.size false) (h++[.raw (s.data.toList.map λb=> .sc (.int .u8 b.toNat))]):=by
 obtain⟨e,he,hu⟩:=Kh h2;have e1:=eH hs hf x;rw[hx]at e1;have hv:=e1.eF.1;have kb:=run_bytes_of_string (P:=C.P) w src dst e s (vh h1) he hu;have rS:=grownCap_ge w s.size 0 e;have eG:=grownCap_le_maxLen w s.size 0 e jt;have gC:(bytesRow s (grownCap w s.size 0 e)).size=grownCap w s.size 0 e:=by
  simp only[bytesRow,Array.size_append,Array.size_map,Array.size_replicate];show s.size+_=_;omega
 have hd:=uQ hs (w.drawn+1);have ha:=Au hd.wO (.cells (bytesRow s (grownCap w s.size 0 e)) e ((bytesRow s (grownCap w s.size 0 e)).size,(bytesRow s (grownCap w s.size 0 e)).size+1)) (.raw (s.data.toList.map λb=> .sc (.int .u8 b.toNat))) rfl
  ⟨_,_,_,λk=>(bytesRow s (grownCap w s.size 0 e)).getD k undef,rfl,.inr (Yt _),by rw[gC];simp;exact rS,λk y hk=>by
   simp only[Zs,Ze]at hk;obtain⟨b,hb,rfl⟩:=hk;have g_:k<s.data.size:=by have:=(Za.1 hb).1;simpa using this
   have vB:s.data[k]?=some b:=by simpa using hb
   have fX:(bytesRow s (grownCap w s.size 0 e))[k]?=some (.int .u8 b.toNat):=by
    unfold bytesRow;rw[Xx (by simpa using g_)];simp[vB]
   have hg:(bytesRow s (grownCap w s.size 0 e)).getD k undef= .int .u8 b.toNat:=by rw[Zr,fX];rfl
   simp only[hg];exact⟨fX,rfl,.im (.sc _ rfl)⟩⟩
 refine fW (v:= .slice (some ⟨w.heap.size,0,none⟩) s.size (grownCap w s.size 0 e)) ?_ (hd.trans ha) (y7 w _ h ρ _ _ _ _ _ (by simp) _ e _ (jT w.drew _) (by rw[gC];omega) rS eG);simp only[execOp,eD,hv,Sem.run_bind,kb,Result.andThen_ok,Sem.run_pure];rfl
def Sb {n:Nat}{v:Value}{x:AV}{b:UInt8}(h:Rp w X ρ n v x)(hb:NI x=some b):v= .int .u8 (b.toNat:Int):=by
 unfold NI at hb;split at hb
 .rename_i i;split at hb
  .rename_i hc;simp only[Zc]at hb;subst hb;have:=h.eF.1;rw[this];have h3:(UInt8.ofNat i.toNat).toNat=i.toNat:=by
    simp;omega
   rw[h3]
   congr 1
   omega
  .cases hb
 .cases hb
def Nj (hs:iw C.G w X ρ h)(hf:RF w (fj X ρ h) ρ h.length a.tmps fr){src dst:TypeId}{x:Operand}(eD:o.op= .convert src dst x){id off len:Nat}{k:Bool}(hx:ev C fr x= .sl id 1 off len k)(h1:isStr C dst=true)(h2:Fl C src=true)
 {m:Nat} {news:List AV} (hn:gY h (.sl id 1 off len k)=some (m,news)) {bs:List UInt8} (hb:news.mapM NI=some bs):Good C o a w X ρ h (.sc (.string ⟨bs.toArray⟩)) h:=by
 obtain⟨e,he,hu⟩:=Kh h2;have e1:=eH hs hf x;rw[hx]at e1;obtain⟨cap,dA,t,fz,hv,_⟩:=e1.j_;have hml:m=len:=by
  simp only[gY]at hn;split at hn
  .split at hn
   .simp only[Zc,Zg]at hn;exact hn.1.symm
   .cases hn
  .cases hn
 subst hml;obtain⟨base,gp,su,nS,xV⟩:=rO hs hf (x:=x) (sz:=1) (by omega) (by rw[hx];simp[jL]) (by rw[hx];exact hn);obtain⟨m1,m2⟩:=ir hb;have NG:bs.length=m:=by rw[m1,nS];omega
 rw[hv]at su;simp only[Value.slice.injEq]at su;obtain⟨rfl,_,rfl⟩:=su;refine dE hs (v:= .string ⟨bs.toArray⟩) ?_ (.im (.sc _ rfl));have hc:=run_convert_bytes_back (P:=C.P) w src dst e ⟨ρ id,off,none⟩ cap bs he hu (vh h1) (λj hj=>by
  rcases xV with h0|⟨b,o',dX,pO,mY,fo,lB,ng⟩
  .omega
  .simp only[Zc,Addr.mk.injEq]at pO;obtain⟨rfl,rfl,_⟩:=pO;have hjv:j<dX.length:=by omega
   have Db:j<news.length:=by omega
   rw[fo j _ (Zb hjv)];obtain⟨b',Dd,KW⟩:=m2 j _ (Zb Db);rw[Zb hj]at Dd;cases Dd;have:=Sb (ng j _ (Zb Db)) KW;simp only[List.getD,Zb hjv,Yv]at this;rw[this])
 rw[NG]at hc;simp only[execOp,eD,hv,Sem.run_bind,hc,Result.andThen_ok,Sem.run_pure]
def Sc (hs:iw C.G w X ρ h){t:TypeId}(eD:o.op= .makeMap t none):Good C o a w X ρ h (.mp h.length) (h++[.map [] 0]):=by
 have he:=Au hs (.map #[] 0) (.map [] 0) rfl ⟨#[],rfl,rfl,by simp,by simp⟩;refine fW (v:= .map (some w.heap.size)) ?_ he ?_
 .simp[execOp,eD,Instr.makeMap]
 .have:=Rp.mp (w:=w.alloc (.map #[] 0)) (X:=fj X (λi=>if i=h.length then w.heap.size else ρ i) (h++[fp.map [] 0])) (ρ:=λi=>if i=h.length then w.heap.size else ρ i) (n:=(h++[fp.map [] 0]).length) h.length (by simp);simpa using this
def abF (hs:iw C.G w X ρ h)(hf:RF w (fj X ρ h) ρ h.length a.tmps fr){t:TypeId}{x:Operand}(eD:o.op= .range t x){s:ByteArray}(hx:ev C fr x= .sc (.string s))(ht:isStr C t=true):
 Good C o a w X ρ h (.pt h.length 0) (h++[.iter s 0]):=by
 have e1:=eH hs hf x;rw[hx]at e1;have he:=Au hs (.stringIter s 0) (.iter s 0) rfl rfl;refine fW (v:= .pointer (some ⟨w.heap.size,0,none⟩)) ?_ he (LZ w h ρ _ _ _ (by simp));simp only[execOp,eD,Instr.range,e1.eF.1,Sem.run_bind,run_underlying (vh ht),Result.andThen_ok,Sem.run_pure,sG]
def aeX (hs:iw C.G w X ρ h)(hf:RF w (fj X ρ h) ρ h.length a.tmps fr){x:Operand}(eD:o.op= .next x true){id:Nat}(hx:ev C fr x= .pt id 0){s:ByteArray}{pos:Nat}(dC:h[id]?=some (.iter s pos)):
 (pos<s.size->Good C o a w X ρ h (.tp [.sc (.bool true),.sc (.int .i64 pos),.sc (.int .i32 (Utf8.decode s pos).1)]) (h.set id (.iter s (pos+(Utf8.decode s pos).2))))/\(¬pos<s.size->Good C o a w X ρ h (.tp [.sc (.bool false)]) h):=by
 have e1:=eH hs hf x;rw[hx]at e1;have hv:=e1.oq.1;have b1:w.heap[ρ id]?=some (.stringIter s pos):=hs.kg id _ dC;have dY:=fH b1;have oL:(getObj (ρ id)).run C.P w= .ok (.stringIter s pos) w:=by simp only[getObj,Sem.run,b1]
 have iA:∀ob:Obj,(setObj (ρ id) ob).run C.P w= .ok () {w with heap:=w.heap.setIfInBounds (ρ id) ob}:=λob=>by
  simp only[setObj,Sem.run,b1]
 have tup:∀(w':World) (X':Nat->Prop) (us:List Value),(∀u∈us,lG u=true)->Ri w' X' (.tuple us.toArray) (.tp (us.map .sc)):=λw' X' us hu=>by
  refine .tp _ _ (by simp) λk y hk=>?_
  simp only[Zs,Ze]at hk;obtain⟨u,hk,rfl⟩:=hk;have:us.toArray.getD k undef=u:=by simp[hk]
  rw[this];exact .sc u (hu u (Zi hk))
 constructor
 .intro aeY;have Ki:Ext C.G w X ρ h {w with heap:=w.heap.setIfInBounds (ρ id) (.stringIter s (pos+(Utf8.decode s pos).2))} ρ (h.set id (.iter s (pos+(Utf8.decode s pos).2))):=by
   refine qT hs id _ _ dC rfl rfl rfl rfl rfl (by simp) (λdA t' fz hc=>by rw[b1]at hc;cases hc) (λp hp=>?_) ?_
   .show(w.heap.setIfInBounds (ρ id) _)[p]?=_;rw[Array.getElem?_setIfInBounds_ne (Ne.symm hp)]
   .show(w.heap.setIfInBounds (ρ id) _)[ρ id]?=_;simp[dY]
  refine fW (v:= .tuple #[.bool true,.int .i64 pos,.int .i32 (Utf8.decode s pos).1]) ?_ Ki (.im (tup _ _ [_,_,_] (by simp[lG])));simp only[execOp,eD,hv,Instr.next,Sem.run_bind,oL,Result.andThen_ok,aeY,if_true,iA,Sem.run_pure,goInt]
 .intro aeY;refine dE hs (v:= .tuple #[.bool false]) ?_ (.im (tup _ _ [_] (by simp[lG])));simp only[execOp,eD,hv,Instr.next,Sem.run_bind,oL,Result.andThen_ok,aeY,if_false,Sem.run_pure]
def abG (hs:iw C.G w X ρ h)(hf:RF w (fj X ρ h) ρ h.length a.tmps fr){x:Operand}(eD:o.op= .panic x){t:TypeId}{v:Value}(hx:ev C fr x= .sc (.iface t v)):Good C o a w X ρ h (.pn (.iface t v)) h:=by
 have e1:=eH hs hf x;rw[hx]at e1;have hv:=e1.eF.1;intro K Q _ hQ;unfold Oper.wp;have kb:(execOp a.eval o).run C.P w= .halt (.panic (.iface t v)) w:=by
  simp only[execOp,eD,hv,Instr.panic,goPanic];rfl
 rw[kb];exact hQ _ w ρ rfl (Ext.refl hs)
def uK (s:ByteArray):∀(ms:List MapEntry) (es:List (Value × AV)) (i:Nat),ms.length=es.length->es.all vW=true->(∀(k:Nat) (e:Value × AV),es[k]?=some e->∃m,ms[k]?=some m/\m.key=e.1)->
 ∃r,Instr.findNow .string (.string s) ms i=some r/\r.map Prod.fst=oZ s es i
 | [],[],i,_,_,_=>⟨none,rfl,rfl⟩
 | [],_::_,_,hl,_,_=>by simp at hl
 |_::_,[],_,hl,_,_=>by simp at hl
 |
  m::ms,(j,y)::es,i,hl,hk,hm=>by
  simp only[Zn,Zh]at hk;obtain⟨m',yG,ag9⟩:=hm 0 _ rfl;simp only[Yg,Zc]at yG;subst yG;obtain⟨r,h1,h2⟩:=uK s ms es (i+1) (by simpa using hl) hk.2 (λk e he=>by simpa using hm (k+1) e (by simpa using he));cases j with
  |
   string a=>
   simp only at ag9;simp only[Instr.findNow,ag9,Instr.sameNow,oZ,Ps];cases Ev:s==a with
   |true=>exact⟨_,rfl,rfl⟩
   |false=>exact⟨r,h1,h2⟩
  |_=>simp[vW]at hk
def Kj (s:ByteArray):∀(ms:List MapEntry) (i j:Nat) (v:Value),Instr.findNow .string (.string s) ms i=some (some (j,v))->i<=j/\∃m,ms[j-i]?=some m/\m.val=v
 | [],i,j,v,h=>by simp[Instr.findNow]at h
 |
  m::ms,i,j,v,h=>by
  simp only[Instr.findNow]at h;split at h
  .simp only[Zc,Zg]at h;obtain⟨rfl,rfl⟩:=h;exact⟨Yt _,m,by simp,rfl⟩
  .obtain⟨h1,m',h2,h3⟩:=Kj s ms (i+1) j v h;refine⟨by omega,m',?_,h3⟩;have:j-i=(j-(i+1))+1:=by omega
   rw[this,Yf,h2]
  .cases h
def Kk {s:ByteArray}:∀{es:List (Value × AV)} {i j:Nat},oZ s es i=some j->i<=j/\j-i<es.length/\∃y,es[j-i]?=some (.string s,y)
 | [],i,j,h=>by simp[oZ]at h
 |
  (k,y)::es,i,j,h=>by
  simp only[oZ]at h;cases hc:Ps s k with
  |
   true=>
   simp only[hc,cond_true,Zc]at h;subst h;cases k with
   |
    string a=>
    have pS:s=a:=(MapKept.bytes_beq s a).1 hc;subst pS;exact⟨Yt _,by simp,y,by simp⟩
   |_=>simp[Ps]at hc
  |
   false=>
   simp only[hc,cond_false]at h;obtain⟨h1,h2,y',h3⟩:=Kk h;refine⟨by omega,by simp;omega,y',?_⟩;have:j-i=(j-(i+1))+1:=by omega
   rw[this,Yf,h3]
def W5 (hs:iw C.G w X ρ h)(hf:RF w (fj X ρ h) ρ h.length a.tmps fr){t:TypeId}{m k:Operand}{ok:Bool}(eD:o.op= .lookup t m k ok){id:Nat}{s:ByteArray}(hm:ev C fr m= .mp id)(hk:ev C fr k= .sc (.string s))(ht:tG C t=true)
 {es:List (Value × AV)} {clock:Nat} (dC:h[id]?=some (.map es clock)) (tx:es.all vW=true) {q:AV × Bool} (hq:A3 C t s es=some q):
 Good C o a w X ρ h (if ok then .tp [q.1,.sc (.bool q.2)]else q.1) h:=by
 obtain⟨kt,et,h1,h2⟩:=CS ht;have em:=eH hs hf m;rw[hm]at em;have hv:=em.LX.1;have ek:=eH hs hf k;rw[hk]at ek;have hkv:=ek.eF.1;obtain⟨ms,b1,b2,bnd,b3⟩:=hs.kg id _ dC;have EZ:∀(k:Nat) (e:Value × AV),es[k]?=some e->∃m,ms.toList[k]?=some m/\m.key=e.1:=λk e he=>by
  obtain⟨m,q1,q2,_⟩:=b3 k e he;exact⟨m,by simpa using q1,q2⟩
 obtain⟨r,hr,C9⟩:=uK s ms.toList es 0 (by simpa using b2) tx EZ;have Kl:(Instr.findKey kt (.string s) ms.toList).run C.P w= .ok r w:=by
  simp only[Instr.findKey,Sem.run_bind,run_underlying h2,Result.andThen_ok,hr,Sem.run_pure]
 have oL:(getObj (ρ id)).run C.P w= .ok (.map ms clock) w:=by
  simp only[getObj,Sem.run,b1]
 have W6:∀z,(Instr.checkKey z 10000 kt (.string s)).run C.P w= .ok () w:=λz=>by
  show(Instr.checkKey z (9999+1) kt (.string s)).run C.P w= .ok () w;unfold Instr.checkKey;simp only[Sem.run_bind,run_underlying h2,Result.andThen_ok,Sem.run_pure]
 have key:∀(v:Value) (x:AV) (b:Bool),Rp w (fj X ρ h) ρ h.length v x->(Instr.lookup t (.map (some (ρ id))) (.string s) ok).run C.P w= .ok (if ok then .tuple #[v,.bool b]else v) w->Good C o a w X ρ h (if ok then .tp [x,.sc (.bool b)]else x) h:=by
  intro v x b hx kb;refine dE hs (v:=if ok then .tuple #[v,.bool b]else v) ?_ ?_
  .simp only[execOp,eD,hv,hkv,Sem.run_bind,kb,Result.andThen_ok,Sem.run_pure]
  .cases ok
   .exact hx
   .refine .tp _ _ rfl λj y hj=>?_
    match j,hj with
    |0,hj=>cases hj;exact hx
    |1,hj=>cases hj;exact .im (.sc _ rfl)
    |_+2,hj=>simp at hj
 unfold A3 at hq;split at hq
 .rename_i i hi;rw[hi]at C9;cases r with
  |none=>cases C9
  |
   some p=>
   obtain⟨p1,p2⟩:=p;simp only[Xq,Zc]at C9;subst C9;obtain⟨_,m0,q1,q2⟩:=Kj s _ 0 _ _ hr;simp only[Ze]at hq;obtain⟨e,he,rfl⟩:=hq;obtain⟨m1,r1,r2,r3,r4,r5⟩:=b3 _ e he;have akp:m0=m1:=by
    simp only[Nat.sub_zero,Array.getElem?_toList]at q1;rw[r1]at q1;exact(Option.some.inj q1).symm
   subst akp;rw[q2]at r5;refine key p2 e.2 true r5 ?_;simp only[Instr.lookup,Sem.run_bind,run_underlying h1,Result.andThen_ok,oL,W6,Kl,Sem.run_pure]
 .rename_i hn;rw[hn]at C9;cases r with
  |some p=>cases C9
  |
   none=>
   simp only[Ze]at hq;obtain⟨z,hz,rfl⟩:=hq;unfold adh at hz;rw[h1]at hz;simp only at hz;split at hz
   .rename_i inf akq;simp only[Ze]at hz;obtain⟨zv,hzv,rfl⟩:=hz;have hzr:(zeroValue et).run C.P w= .ok zv w:=by simp[zeroValue,typeInfo,Sem.run_bind,akq,hzv,Result.andThen]
    refine key zv _ false (BX zv) ?_;simp only[Instr.lookup,Sem.run_bind,run_underlying h1,Result.andThen_ok,oL,W6,Kl,hzr,Sem.run_pure]
   .cases hz
def Km (hs:iw C.G w X ρ h)(hf:RF w (fj X ρ h) ρ h.length a.tmps fr){t:TypeId}{m k x:Operand}(eD:o.op= .mapUpdate t m k x){id:Nat}{s:ByteArray}(hm:ev C fr m= .mp id)(hk:ev C fr k= .sc (.string s))(ht:tG C t=true)
 {es:List (Value × AV)} {clock:Nat} (dC:h[id]?=some (.map es clock)) (tx:es.all vW=true):
 (∀i,oZ s es 0=some i->Good C o a w X ρ h .un (h.set id (.map (es.set i (.string s,ev C fr x)) clock)))/\
 (oZ s es 0=none->Good C o a w X ρ h .un (h.set id (.map (es++[(.string s,ev C fr x)]) (clock+1)))):=by
 obtain⟨kt,et,h1,h2⟩:=CS ht;have em:=eH hs hf m;rw[hm]at em;have hv:=em.LX.1;have ek:=eH hs hf k;rw[hk]at ek;have hkv:=ek.eF.1;have ex:=eH hs hf x;obtain⟨ms,b1,b2,bnd,b3⟩:=hs.kg id _ dC;have EZ:∀(k:Nat) (e:Value × AV),es[k]?=some e->∃m,ms.toList[k]?=some m/\m.key=e.1:=λk e he=>by
  obtain⟨m,q1,q2,_⟩:=b3 k e he;exact⟨m,by simpa using q1,q2⟩
 obtain⟨r,hr,C9⟩:=uK s ms.toList es 0 (by simpa using b2) tx EZ;have Kl:(Instr.findKey kt (.string s) ms.toList).run C.P w= .ok r w:=by
  simp only[Instr.findKey,Sem.run_bind,run_underlying h2,Result.andThen_ok,hr,Sem.run_pure]
 have oL:(getObj (ρ id)).run C.P w= .ok (.map ms clock) w:=by
  simp only[getObj,Sem.run,b1]
 have W6:(Instr.checkKey false 10000 kt (.string s)).run C.P w= .ok () w:=by
  show(Instr.checkKey false (9999+1) kt (.string s)).run C.P w= .ok () w;unfold Instr.checkKey;simp only[Sem.run_bind,run_underlying h2,Result.andThen_ok,Sem.run_pure]
 have dY:=fH b1;have iA:∀ob:Obj,(setObj (ρ id) ob).run C.P w= .ok () {w with heap:=w.heap.setIfInBounds (ρ id) ob}:=λob=>by
  simp only[setObj,Sem.run,b1]
 have Ki:∀(ob:Obj) (b:fp),wN b=true->Dg w (fj X ρ h) ρ h.length (some ob) b->Ext C.G w X ρ h {w with heap:=w.heap.setIfInBounds (ρ id) ob} ρ (h.set id b):=λob b hl hb=>by
  refine qT hs id _ b dC rfl hl rfl rfl rfl (by simp) (λdA t' fz hc=>by rw[b1]at hc;cases hc) (λp hp=>?_) ?_
  .show(w.heap.setIfInBounds (ρ id) ob)[p]?=_;rw[Array.getElem?_setIfInBounds_ne (Ne.symm hp)]
  .have:({w with heap:=w.heap.setIfInBounds (ρ id) ob}:World).heap[ρ id]?=some ob:=by
    show(w.heap.setIfInBounds (ρ id) ob)[ρ id]?=_;simp[dY]
   rw[this];exact hb
 constructor
 .intro i hi;rw[hi]at C9;cases r with
  |none=>cases C9
  |
   some p=>
   obtain⟨p1,p2⟩:=p;simp only[Xq,Zc]at C9;subst C9;obtain⟨_,gG,y0,hy0⟩:=Kk hi;simp only[Nat.sub_zero]at gG hy0;obtain⟨m0,q1,q2,q3,q4,q5⟩:=b3 p1 _ hy0;have qj:(Instr.keyThatStays (((ms[p1]?).map (·.key)).getD (.string s)) (.string s)).run C.P w= .ok (.string s) w:=by
    have SR:Instr.sameBits 10000 (.string s) (.string s)=true:=by
     unfold Instr.sameBits;exact(MapKept.bytes_beq s s).2 rfl
    simp only[q1,Xq,Yv,q2,Instr.keyThatStays,SR,if_true,Sem.run_pure]
   refine uY ?_ (Ki (.map (ms.modify p1 λe=>{e with key:= .string s,val:=a.eval x}) clock) _ rfl ⟨_,rfl,by simpa using b2,?_,λk e YU=>?_⟩)
   .simp only[execOp,eD,Instr.mapUpdate,hv,hkv,Sem.run_bind,run_underlying h1,Result.andThen_ok,oL,W6,Kl,qj,iA,Sem.run_pure]
   .have:(ms.modify p1 λe=>{e with key:= .string s,val:=a.eval x}).toList.map (·.born)=ms.toList.map (·.born):=by
     apply Xe;intro j;simp only[Zs,Array.getElem?_toList,Array.getElem?_modify];split
     .cases ms[j]?<;>rfl
     .rfl
    rw[this];exact bnd
   .by_cases YG:p1=k
    .subst YG;rw[Zj gG]at YU;cases YU;exact⟨{m0 with key:= .string s,val:=a.eval x},by simp[Array.getElem?_modify,q1],rfl,rfl,q4,ex⟩
    .rw[Zq YG]at YU;obtain⟨m1,r1,r2,r3,r4,r5⟩:=b3 k e YU;exact⟨m1,by simp[Array.getElem?_modify,YG,r1],r2,r3,r4,r5⟩
 .intro hn;rw[hn]at C9;cases r with
  |some p=>cases C9
  |
   none=>
   refine uY ?_ (Ki (.map (ms.push {key:= .string s,val:=a.eval x,born:=clock}) (clock+1)) _ rfl ⟨_,rfl,by simp[b2],?_,λk e YU=>?_⟩)
   .simp only[execOp,eD,Instr.mapUpdate,hv,hkv,Sem.run_bind,run_underlying h1,Result.andThen_ok,oL,W6,Kl,iA,Sem.run_pure]
   .simp only[Array.toList_push,List.map_append,Xi,List.map_nil];refine List.nodup_append.2 ⟨bnd,by simp,?_⟩;intro q hq q' jA e;simp only[List.mem_singleton]at jA;simp only[Yi]at hq;obtain⟨m1,Ac,rfl⟩:=hq;obtain⟨j,hj,rfl⟩:=List.getElem_of_mem Ac;have WZ:j<es.length:=by simp at hj;omega
    obtain⟨m2,r1,_,_,r4,_⟩:=b3 j _ (Zb WZ);have:ms.toList[j]=m2:=by
     have:ms.toList[j]?=some m2:=by simpa using r1
     rw[Zb hj]at this;simpa using this
    rw[this]at e;omega
   .by_cases g_:k<es.length
    .rw[Zd g_]at YU;obtain⟨m1,r1,r2,r3,r4,r5⟩:=b3 k e YU;have hkm:k<ms.size:=by omega
     exact⟨m1,by simp[Array.getElem?_push,Xu hkm,r1],r2,r3,by omega,r5⟩
    .have TD:k=es.length:=by
      have:k< (es++[(Value.string s,ev C fr x)]).length:=(Za.1 YU).1;simp at this;omega
     subst TD;simp at YU;subst YU;refine⟨{key:= .string s,val:=a.eval x,born:=clock},by rw[<-b2];simp,rfl,rfl,by simp,ex⟩
def acy (hf:RF w (fj X ρ h) ρ h.length a.tmps fr){t:TypeId}{parts:Array (Nat × Operand)}(eD:o.op= .buildSlice t 1 parts){i:Ti}(hi:f_ C.P t=some i){ag:Bool}{eb:Nat}{ez:List Value}(hk:i.kd= .slice 1 ag eb ez)(hez:ez.length=1)
 {q:Nat} (hps:parts.toList=[(0,.tmp q)]) (dY:q<fr.length) {h1:Hp} (he:Ext C.G w X ρ h w ρ h1) {y:AV} (Ho:Ri w (fj X ρ h1) (a.tmps.getD q undef) y) (fq:cls y=some [y]):Good C o a w X ρ h (.sl h1.length 1 0 1 false) (h1++[.row [y]]):=by
 have sw:RF w (fj X ρ h1) ρ h1.length a.tmps (fr.set q y):=by
  refine⟨by rw[List.length_set];exact hf.1,λi z hz2=>?_⟩;by_cases e:q=i
  .subst e;rw[Zj dY]at hz2;cases hz2;exact .im Ho
  .rw[Zq e]at hz2;exact(he.rf hf).2 i z hz2
 have sA:ni (λk=>some (k*1,1)) ((List.range 1).flatMap λ_=>ez.map .sc) (parts.toList.map λp=>(p.1,ev C (fr.set q y) p.2))=some [y]:=by
  have h2:ev C (fr.set q y) (.tmp q)=y:=by
   show(fr.set q y).getD q .ud=y;rw[List.getD,Zj dY];rfl
  obtain⟨u,rfl⟩:∃u,ez=[u]:=by
   match ez,hez with
   | [u],_=>exact⟨u,rfl⟩
  rw[hps];simp[ni,h2,fq,da]
 have G:=xP he.wO sw eD hi hk (by decide) sA;intro K Q hK hQ;exact G K Q (λv w' ρ' e2 hv=>hK v w' ρ' (he.trans e2) hv) λu w' ρ' e _=>by cases e
def akr (hs:iw C.G w X ρ h)(hf:RF w (fj X ρ h) ρ h.length a.tmps fr)(hT:∀t i,C.T t=some i->f_ C.P t=some i){t:TypeId}{len:Nat}{parts:Array (Nat × Operand)}(eD:o.op= .buildSlice t len parts){r:AV}{h':Hp}
 (hm:mvB C (ev C fr) h t len parts.toList=some (r,h')):Good C o a w X ρ h r h':=by
 unfold mvB at hm;split at hm
 case h_2=>cases hm
 rename_i m Uo;split at hm
 case isFalse=>cases hm
 rename_i cU;subst cU;unfold mvA at hm;split at hm
 case h_2=>cases hm
 rename_i q hps;have YR:∀y,ev C fr (.tmp q)=y->y≠ .ud->fr[q]?=some y:=λy hy hd=>by
  have h2:fr.getD q .ud=y:=hy;rw[List.getD]at h2;cases hq:fr[q]? with
  |none=>rw[hq]at h2;exact absurd h2.symm hd
  |some z=>rw[hq]at h2;exact congrArg some h2
 split at hm
 case h_3=>cases hm
 .rename_i id s off len k sz0 ag zero sz W7 eb ez hx hi;split at hm
  case isFalse=>cases hm
  rename_i hc;obtain⟨rfl,hez⟩:=hc;split at hm
  case h_2=>cases hm
  rename_i h1 y hz hy;simp only[Zc,Zg]at hm;obtain⟨rfl,rfl⟩:=hm;have hq:=YR _ hx (by simp);obtain⟨he,lH⟩:=xQ hs hz;have Ho:=lH 8 _ _ _ (hf.2 q _ hq) hy;have fq:cls y=some [y]:=by
   unfold dq at hy;split at hy
   .split at hy
    .simp only[Ze]at hy;obtain⟨_,_,rfl⟩:=hy;rfl
    .cases hy
   .cases hy
  exact acy hf eD (hT t _ hi) rfl hez hps (Za.1 hq).1 he Ho fq
 .rename_i sz0 ag zero sz W7 eb ez hx hi;split at hm
  case isFalse=>cases hm
  rename_i hc;obtain⟨rfl,hez⟩:=hc;simp only[Zc,Zg]at hm;obtain⟨rfl,rfl⟩:=hm;have hq:=YR _ hx (by simp);have hv:=(hf.2 q _ hq).eF.1;exact acy hf eD (hT t _ hi) rfl hez hps (Za.1 hq).1 (Ext.refl hs) (by rw[hv];exact .le none 0 m false (Nat.zero_le _) (by simp)) rfl
def Nk (hs:iw C.G w X ρ h)(hf:RF w (fj X ρ h) ρ h.length a.tmps fr)(hT:∀t i,C.T t=some i->f_ C.P t=some i){call:jH}(dy:lj C call)
 {r:AV} {h':Hp} (ho:z7 C call (ev C fr) h o=some (r,h')):Good C o a w X ρ h r h':=by
 have G1:∀{r:AV} {h':Hp},((iI C (ev C fr) o).map λy=>(y,h))=some (r,h')->Good C o a w X ρ h r h':=by
  intro r h' hh;simp only[Ze,Zg]at hh;obtain⟨y,hy,rfl,rfl⟩:=hh;exact IM hs hf hy
 unfold z7 at ho;split at ho
 .
  rename_i x eD;simp only[Zc,Zg]at ho;obtain⟨rfl,rfl⟩:=ho;exact UE hs hf (.inl eD)
 .rename_i x eD;simp only[Zc,Zg]at ho;obtain⟨rfl,rfl⟩:=ho;exact UE hs hf (.inr eD)
 .rename_i c x y eD;split at ho
  .rename_i t hc;simp only[Zc,Zg]at ho;obtain⟨rfl,rfl⟩:=ho;exact adE hs hf eD hc
  .cases ho
 .rename_i t eD;split at ho
  .rename_i i hi;simp only[Zc,Zg]at ho;obtain⟨rfl,rfl⟩:=ho;exact aad hs eD (hT t i hi)
  .cases ho
 .rename_i t x eD;split at ho
  .rename_i i cs hi hc;split at ho
   .simp only[Zc,Zg]at ho;obtain⟨rfl,rfl⟩:=ho;exact agk hs hf eD hc
   .cases ho
  .cases ho
 .rename_i t parts eD;split at ho
  .rename_i sz ag zero fs hi;simp only[Ze,Zg]at ho;obtain⟨cs,hc,rfl,rfl⟩:=ho;exact O3 hs hf eD (hT t _ hi) (.inl ⟨fs,rfl,rfl⟩) hc
  .rename_i sz ag zero n NH W7 hi;simp only[Ze,Zg]at ho;obtain⟨cs,hc,rfl,rfl⟩:=ho;exact O3 hs hf eD (hT t _ hi) (.inr ⟨n,NH,W7,rfl,rfl⟩) hc
  .cases ho
 .rename_i t len parts eD;split at ho
  .rename_i r0 Uo;simp only[Zc]at ho;subst ho;exact akr hs hf hT eD Uo
  split at ho
  .rename_i sz ag zero NH W7 eb ez hi;split at ho
   .rename_i JI;simp only[Ze,Zg]at ho;obtain⟨cs,hc,rfl,rfl⟩:=ho;exact xP hs hf eD (hT t _ hi) rfl JI hc
   .cases ho
  .cases ho
 .rename_i t x eD;split at ho
  .rename_i i id off hi hx;split at ho
   .rename_i cs dC;simp only[Ze,Zg]at ho;obtain⟨y,hp,rfl,rfl⟩:=ho;exact adF hs hf eD (hT t i hi) hx dC hp
   .cases ho
  .rename_i i row j hi hx;simp only[Ze,Zg]at ho;obtain⟨y,hp,rfl,rfl⟩:=ho;exact aae hs hf eD (hT t i hi) hx hp
  .cases ho
 .rename_i t x y eD;split at ho
  .rename_i i id off vs hi hx hv;split at ho
   .rename_i cs dC;split at ho
    .rename_i hc;simp only[Zc,Zg]at ho;obtain⟨rfl,rfl⟩:=ho;exact aaf hs hf eD (hT t i hi) hx dC hv hc.1 hc.2
    .cases ho
   .rename_i cs dC;split at ho
    .rename_i hc;simp only[Zc,Zg]at ho;obtain⟨rfl,rfl⟩:=ho;exact UG hs hf eD (hT t i hi) hx dC hv hc.1 hc.2
    .cases ho
   .cases ho
  .cases ho
 .rename_i x eD;split at ho
  .rename_i id off hx;simp only[Zc,Zg]at ho;obtain⟨rfl,rfl⟩:=ho;have:=UH hs hf eD (.inl ⟨_,_,hx⟩)
   rwa [hx]at this
  .rename_i row j hx;simp only[Zc,Zg]at ho;obtain⟨rfl,rfl⟩:=ho;have:=UH hs hf eD (.inr (.inl ⟨_,_,hx⟩))
   rwa [hx]at this
  .rename_i f cs hx;simp only[Zc,Zg]at ho;obtain⟨rfl,rfl⟩:=ho;have:=UH hs hf eD (.inr (.inr ⟨_,_,hx⟩))
   rwa [hx]at this
  .cases ho
 .rename_i t x f eD;split at ho
  .rename_i sz ag zero fs hi;split at ho
   .rename_i of fsz fag id off wF hx;split at ho
    .cases ho
    .rename_i gC;simp only[Zc,Zg]at ho;obtain⟨rfl,rfl⟩:=ho;exact(Ov hs hf eD (hT t _ hi) rfl wF gC).1 id off hx
   .rename_i of fsz fag row j wF hx;split at ho
    .cases ho
    .rename_i gC;simp only[Zc,Zg]at ho;obtain⟨rfl,rfl⟩:=ho;exact(Ov hs hf eD (hT t _ hi) rfl wF gC).2 row j hx
   .cases ho
  .cases ho
 .rename_i t x ix eD;split at ho
  .rename_i sz ag zero NH W7 eb ez n hi hn;split at ho
   .rename_i id s off len kk hx;split at ho
    .rename_i hc;simp only[Zc,Zg]at ho;obtain⟨rfl,rfl⟩:=ho;obtain⟨rfl,dY⟩:=hc;exact(IP hs hf eD (hT t _ hi) rfl hn).1 id off len kk hx dY
    .cases ho
   .rename_i s cY z hx;split at ho
    .rename_i hc;simp only[Ze,Zg]at ho;obtain⟨row,fX,rfl,rfl⟩:=ho;subst hc;exact(IP hs hf eD (hT t _ hi) rfl hn).2 cY z row hx fX
    .cases ho
   .cases ho
  .rename_i sz ag zero m NH W7 n hi hn;split at ho
   .rename_i id off hx;split at ho
    .rename_i dY;simp only[Zc,Zg]at ho;obtain⟨rfl,rfl⟩:=ho;exact(IQ hs hf eD (hT t _ hi) rfl hn dY).1 id off hx
    .cases ho
   .rename_i row j hx;split at ho
    .rename_i dY;simp only[Zc,Zg]at ho;obtain⟨rfl,rfl⟩:=ho;exact(IQ hs hf eD (hT t _ hi) rfl hn dY).2 row j hx
    .cases ho
   .cases ho
  .cases ho
 .rename_i t x f eD;split at ho
  .rename_i sz ag zero fs cs hi hx;split at ho
   .rename_i off fsz fag wF;simp only[Ze,Zg]at ho;obtain⟨y,hp,rfl,rfl⟩:=ho;exact UI hs hf eD (hT t _ hi) rfl wF hx hp
   .cases ho
  .cases ho
 .rename_i t x ix eD;split at ho
  .rename_i sz ag zero n NH W7 cs hi hx;split at ho
   .rename_i k hn;split at ho
    .rename_i dY;simp only[Ze,Zg]at ho;obtain⟨y,hp,rfl,rfl⟩:=ho;exact UJ hs hf eD (hT t _ hi) rfl hn dY hx hp
    .cases ho
   .cases ho
  .exact G1 ho
 .rename_i x i eD;split at ho
  .rename_i vs hx;simp only[Ze,Zg]at ho;obtain⟨y,hy,rfl,rfl⟩:=ho;exact Qx hs hf eD hx hy
  .cases ho
 .rename_i f first pU eD
  split at ho
  .rename_i h0;simp only[Zc,Zg]at ho;obtain⟨rfl,rfl⟩:=ho;exact L5 hs hf eD h0
  .cases ho
 .rename_i t l c eD;split at ho
  .rename_i sz ag zero NH W7 eb ez n m hi hn hm;split at ho
   .rename_i hc;obtain⟨rfl,jt,yw⟩:=hc;simp only[Zc,Zg]at ho;obtain⟨rfl,rfl⟩:=ho;exact JJ hs hf eD (hT t _ hi) rfl hn hm jt yw
   .cases ho
  .cases ho
 .rename_i t x lo hi mx eD;split at ho
  .exact G1 ho
  .split at ho
   .rename_i sz ag zero NH W7 eb ez rT;split at ho
    .rename_i hz;simp only[Ze,Zg]at ho;obtain⟨y,hy,rfl,rfl⟩:=ho;exact aa8 hs hf eD (hT t _ rT) rfl hz hy
    .cases ho
   .cases ho
 .rename_i op t x y t' eD;split at ho
  .rename_i hc;have hg:=W4 hs hf eD hc;split at ho
   .simp only[Zc,Zg]at ho;obtain⟨rfl,rfl⟩:=ho;exact hg.1 rfl
   .simp only[Zc,Zg]at ho;obtain⟨rfl,rfl⟩:=ho;exact hg.2 rfl
   .cases ho
  .exact G1 ho
 .rename_i src dst x eD;split at ho
  .rename_i s hx;split at ho
   .rename_i hc;simp only[Zh]at hc;split at ho
    .rename_i jt;simp only[Zc,Zg]at ho;obtain⟨rfl,rfl⟩:=ho;exact Sa hs hf eD hx hc.1 hc.2 jt
    .cases ho
   .exact G1 ho
  .rename_i id off len k hx;split at ho
   .rename_i hc;simp only[Zh]at hc;split at ho
    .rename_i m news hn;simp only[Ze,Zg]at ho;obtain⟨bs,hb,rfl,rfl⟩:=ho;exact Nj hs hf eD hx hc.1 hc.2 hn hb
    .cases ho
   .cases ho
  .exact G1 ho
 .rename_i t eD;split at ho
  .simp only[Zc,Zg]at ho;obtain⟨rfl,rfl⟩:=ho;exact Sc hs eD
  .cases ho
 .rename_i t m k x eD;split at ho
  .rename_i id s hm hk;split at ho
   .rename_i ht;split at ho
    .rename_i es clock dC;split at ho
     .rename_i tx;have hg:=Km hs hf eD hm hk ht dC tx;split at ho
      .rename_i i hi;simp only[Zc,Zg]at ho;obtain⟨rfl,rfl⟩:=ho;exact hg.1 i hi
      .rename_i hi;simp only[Zc,Zg]at ho;obtain⟨rfl,rfl⟩:=ho;exact hg.2 hi
     .cases ho
    .cases ho
   .cases ho
  .cases ho
 .rename_i t m k ok eD;split at ho
  .rename_i id s hm hk;split at ho
   .rename_i ht;split at ho
    .rename_i es clock dC;split at ho
     .rename_i tx;simp only[Ze,Zg]at ho;obtain⟨q,hq,rfl,rfl⟩:=ho;exact W5 hs hf eD hm hk ht dC tx hq
     .cases ho
    .cases ho
   .cases ho
  .exact G1 ho
 .rename_i t x eD;split at ho
  .rename_i s hx;split at ho
   .rename_i ht;simp only[Zc,Zg]at ho;obtain⟨rfl,rfl⟩:=ho;exact abF hs hf eD hx ht
   .cases ho
  .cases ho
 .rename_i x eD;split at ho
  .rename_i id hx;split at ho
   .rename_i s pos dC;obtain⟨g1,g2⟩:=aeX hs hf eD hx dC;split at ho
    .rename_i hp;simp only[Zc,Zg]at ho;obtain⟨rfl,rfl⟩:=ho;exact g1 hp
    .rename_i hp;simp only[Zc,Zg]at ho;obtain⟨rfl,rfl⟩:=ho;exact g2 hp
   .cases ho
  .cases ho
 .rename_i x eD;split at ho
  .rename_i t v hx;simp only[Zc,Zg]at ho;obtain⟨rfl,rfl⟩:=ho;exact abG hs hf eD hx
  .cases ho
 .rename_i f args yD eD;split at ho
  .rename_i g pU wz;split at ho
   .exact G1 ho
   .exact g_call hs hf dy eD wz ho
  .cases ho
 .rename_i args yD eD;split at ho
  .rename_i s x t t' lk Nl;split at ho
   .rename_i ht;subst ht;rw[EX lk,EX Nl]at eD;exact WU hs hf eD hT ho
   .cases ho
  .cases ho
 .rename_i args yD eD;split at ho
  .rename_i s x t t' lk Nl;split at ho
   .rename_i ht;subst ht;rw[EX lk,EX Nl]at eD;exact aeW hs hf eD hT ho
   .cases ho
  .cases ho
 .rename_i args yD eD;split at ho
  .rename_i x t lk Nl;rw[acx lk,acx Nl]at eD;exact abD hs hf eD hT ho
  .cases ho
 .rename_i args yD eD;split at ho
  .rename_i x t lk Nl;split at ho
   .rename_i n sz ag zero NH W7 eb ez hn hi;simp only[Zc,Zg]at ho;obtain⟨rfl,rfl⟩:=ho;exact agl hs hf eD lk Nl (hT t _ hi) rfl hn
   .exact G1 ho
  .cases ho
 .exact G1 ho
def Kn (hs:iw C.G w X ρ h)(hf:RF w (fj X ρ h) ρ h.length a.tmps fr)(hT:∀t i,C.T t=some i->f_ C.P t=some i){r:AV}{h':Hp}(ho:oy C (ev C fr) h o=some (r,h')):Good C o a w X ρ h r h':=by
 unfold oy at ho;split at ho
 .rename_i t len parts eD;split at ho
  .rename_i sz ag zero NH W7 eb ez hi;split at ho
   .rename_i JI;split at ho
    .rename_i cs hc;split at ho
     .rename_i dJ;simp only[Zc,Zg]at ho;obtain⟨rfl,rfl⟩:=ho;exact GG hs hf eD (hT t _ hi) rfl JI hc dJ
     .cases ho
    .cases ho
   .cases ho
  .cases ho
 .rename_i t l c eD;split at ho
  .rename_i hi hn hm;split at ho
   .rename_i hc;simp only[Zc,Zg]at ho;obtain⟨rfl,rfl⟩:=ho;obtain⟨rfl,jt,yw⟩:=hc;exact JK hs hf eD (hT t _ hi) rfl hn hm jt yw
   .cases ho
  .cases ho
 .rename_i t x lo hi eD;split at ho
  .rename_i zero akn sz ag vN ez id s off len rT hx;split at ho
   .rename_i l m cs hl hm hr;split at ho
    .rename_i hc;simp only[Zc,Zg]at ho;obtain⟨rfl,rfl⟩:=ho;obtain⟨rfl,PE,uk,dY⟩:=hc;exact abE hs hf eD (hT t _ rT) rfl hx hl hm hr PE uk dY
    .cases ho
   .cases ho
  .cases ho
 .rename_i args yD eD;split at ho
  .rename_i s x t t' hl ht;split at ho
   .rename_i htt;subst htt;have aha:=eD;rw[EX hl,EX ht]at aha;split at ho
    .rename_i hi;split at ho
     .rename_i gC;split at ho
      .rename_i m news s0 z hn hq;have key:=WY hs hf aha hT hi gC hn hq;split at ho
       .rename_i hm;simp only[Zc,Zg]at ho;obtain⟨rfl,rfl⟩:=ho;exact key.1 hm
       .rename_i hm;split at ho
        .rename_i hc;simp only[Zc,Zg]at ho;obtain⟨rfl,rfl⟩:=ho;exact key.2 (by omega) hc.1 hc.2.1 hc.2.2.1 hc.2.2.2
        .cases ho
      .cases ho
     .cases ho
    .cases ho
   .cases ho
  .cases ho
 .cases ho
def E0 (hs:iw C.G w X ρ h)(hf:RF w (fj X ρ h) ρ h.length a.tmps fr)(hT:∀t i,C.T t=some i->f_ C.P t=some i){call:jH}(dy:lj C call)
 {r:AV} {h':Hp} (ho:n0 C call (ev C fr) h o=some (r,h')):Good C o a w X ρ h r h':=by
 unfold n0 at ho;split at ho
 .exact Kn hs hf hT ho
 .exact Nk hs hf hT dy ho
end ops
end Go.Ae
