/- The abstract evaluator, part 7: append, copy, calls; every operation. -/
import Derived.Test.YtmocfjnklfpnbaaGreatDoorP6
import Derived.Lib.AppendZeros
set_option linter.all false
namespace Go.Ae
open Go
section ops
variable {C : Cx} {w : World} {X : Nat → Prop} {ρ : Nat → Nat} {h : Hp} {a : Act} {fr : List AV} {o : Oper}
theorem list2 {α:Type}{xs:Array α}{x y:α}(h:xs.toList=[x,y]):xs= #[x,y]:=by
 obtain⟨l⟩:=xs;simp only at h;rw[h]
theorem list1 {α:Type}{xs:Array α}{x:α}(h:xs.toList=[x]):xs= #[x]:=by
 obtain⟨l⟩:=xs;simp only at h;rw[h]
theorem append_zero {P:Program}{t ty e:TypeId}{i:TypeInfo}(ht:P.underlying t=some (.slice e))(hi:P.info? e=some i)(b0 base:Option Addr)(n cap0 cap:Nat)(hn:n≤cap0)(w:World):
 (Builtin.append_ #[t,t] ty #[.slice b0 n cap0,.slice base 0 cap]).run P w= .ok (.slice b0 n cap0) w:=by
 cases b0<;>cases base<;>
  simp[Builtin.append_,run_underlying ht,sizeOf,typeInfo,hi,Builtin.lenOf,Builtin.firstCells,loadCells,loadCellsFrom,hn,storeCells]
theorem append_room {P:Program}{t ty e:TypeId}{i:TypeInfo}(ht:P.underlying t=some (.slice e))(hi:P.info? e=some i)(b o' sLen sCap m c:Nat)(ad:Addr)(news:List Value)(hl:news.length=m*i.size){w w':World}
 (hnews:∀(j:Nat) (u:Value),news[j]?=some u→w.cell? (ad.add j)=some u) (hroom:sLen+m≤sCap) (hst:(storeCells ⟨b,o'+sLen*i.size,none⟩ news).run P w= .ok () w'):
 (Builtin.append_ #[t,t] ty #[.slice (some ⟨b,o',none⟩) sLen sCap,.slice (some ad) m c]).run P w= .ok (.slice (some ⟨b,o',none⟩) (sLen+m) sCap) w':=by
 have hf:=run_firstCells_some (P:=P) w i.size m ad m c news hl hnews;simp[Builtin.append_,run_underlying ht,sizeOf,typeInfo,hi,Builtin.lenOf,hroom,hf,add_lit,hst]
theorem sl_after {w w':World}{O O':Nat→Prop}(hst:Step w O w' O'){X':Nat→Prop}{ρ':Nat→Nat}{n' id sz off len cap:Nat}{cur:Array Value}{t:TypeId}{fz:Nat × Nat}(hid:id<n')(hw:w.heap[ρ' id]?=some (.cells cur t fz))(h1:off+cap*sz=cur.size)
 (h2:len≤cap) (h3:cap≤maxLen):Rp w' X' ρ' n' (.slice (some ⟨ρ' id,off,none⟩) len cap) (.sl id sz off len false):=by
 obtain⟨c',t',f',hc,hsz⟩:=hst.row _ _ _ _ hw;exact .sl id sz off len cap false c' t' f' hid hc (by omega) (by simp) (by intro;omega) h2 h3
theorem grown_ext {G:Nat→Option (List Value)}(hs:Sim G w X ρ h)(e:TypeId)(vals zeros:List Value){cs:List AV}(hlen:vals.length=cs.length)(hone:∀u∈vals,u.oneCell'=true)
 (hrel:∀(k:Nat) (y:AV),cs[k]?=some y→Rp w (tot X ρ h) ρ h.length (vals.getD k undef) y) (cur:Array Value) (hcur:cur=(vals++zeros).toArray):
 Ext G w X ρ h (w.drew.alloc (.cells cur e (0,0))) (fun i=>if i=h.length then w.heap.size else ρ i) (h++[.row cs]):=by
 have h1:=ext_drawn hs (w.drawn+1);have h2:=ext_alloc h1.sim cur e cs (fun k=>vals.getD k undef) (by subst hcur;simp;omega) (fun k x hk=>by
  have hkl:k<vals.length:=by have:=(Za.1 hk).1;omega
  have hv:vals.getD k undef=vals[k]:=by simp[List.getD,Zb hkl]
  refine⟨?_,by rw[hv];exact hone _ (List.getElem_mem hkl),h1.rp (hrel k x hk)⟩;subst hcur;rw[List.getElem?_toArray,Zd hkl,hv,Zb hkl]) (0,0) (.inl rfl)
 exact h1.trans h2
theorem exec_append {x s:Operand}{t:TypeId}(hop:o.op= .call {callee:= .builtin .append,args:= #[s,x],argTypes:= #[t,t]}){v:Value}{w':World}
 (hr:(Builtin.append_ #[t,t] o.type #[a.eval s,a.eval x]).run C.P w= .ok v w'):(execOp a.eval o).run C.P w= .ok (.value v) w':=by
 unfold execOp;simp only[hop,resolve,invoke,builtin,Sem.run_bind,Sem.run_pure,Result.andThen_ok,List.map_toArray,List.map_cons,List.map_nil,hr]
theorem grow_good (hs:Sim C.G w X ρ h){s x:Operand}{t e:TypeId}{ei:TypeInfo}{z':Value}(hop:o.op= .call {callee:= .builtin .append,args:= #[s,x],argTypes:= #[t,t]})
 (h1:C.P.underlying t=some (.slice e)) (k1:C.P.info? e=some ei) (k3:ei.zero=some z') (k9:z'.cells.size=ei.size) {ad:Addr} {n cap':Nat} (hv:a.eval s= .slice (some ad) n cap') {olds:List Value} {oldA:List AV}
 (hol:olds.length=n*ei.size) (hoA:oldA.length=olds.length) (hoc:∀(j:Nat) (u:Value),olds[j]?=some u→w.cell? (ad.add j)=some u) (ho1:∀u∈olds,u.oneCell'=true)
 (hor:∀(k:Nat) (y:AV),oldA[k]?=some y→Rp w (tot X ρ h) ρ h.length (olds.getD k undef) y) {b o' m cap:Nat} {vals:List Value} {news:List AV} (hx:a.eval x= .slice (some ⟨b,o',none⟩) m cap)
 (hvl:vals.length=m*ei.size) (hnl:news.length=m*ei.size) (hcell:∀(j:Nat) (u:Value),vals[j]?=some u→w.cell? ((⟨b,o',none⟩:Addr).add j)=some u) (hone:∀u∈vals,u.oneCell'=true)
 (hrel:∀(k:Nat) (y:AV),news[k]?=some y→Rp w (tot X ρ h) ρ h.length (vals.getD k undef) y) (hno:cap'<n+m) (hmax:n+m≤maxLen) (hby:(n+m)*ei.bytes≤140737488355328):
 Good C o a w X ρ h (.sl h.length ei.size 0 (n+m) false) (h++[.row (oldA++news)]):=by
 have hgc:=grownCap_le_maxLen w (n+m) cap' e hmax;have hge:=grownCap_ge w (n+m) cap' e;have he:=grown_ext hs e (olds++vals) (Builtin.zeroCells z'.cells (grownCap w (n+m) cap' e-(n+m))).toList (cs:=oldA++news) (by simp;omega)
  (fun u hu=>by
   rcases Ya.1 hu with hu|hu
   ·exact ho1 u hu
   ·exact hone u hu)
  (fun k y hky=>by
   by_cases hkl:k<oldA.length
   ·rw[Zd hkl]at hky;have e2:(olds++vals).getD k undef=olds.getD k undef:=by
     simp only[List.getD];rw[Zd (by omega)]
    rw[e2];exact hor k y hky
   ·rw[Zf (by omega)]at hky;have e2:(olds++vals).getD k undef=vals.getD (k-oldA.length) undef:=by
     simp only[List.getD];rw[Zf (by omega),hoA]
    rw[e2];exact hrel _ y hky)
  (olds.toArray++vals.toArray++Builtin.zeroCells z'.cells (grownCap w (n+m) cap' e-(n+m))) (by apply Array.ext';simp)
 have hmax':((n+m:Nat):Int)≤9223372036854775807:=by simp only[maxLen]at hmax;omega
 refine good_value (v:= .slice (some ⟨w.heap.size,0,none⟩) (n+m) (grownCap w (n+m) cap' e)) ?_ he (own_sl w _ h ρ _ _ _ _ _ (by simp) _ e (0,0) (alloc_new w.drew _) ?_ hge hgc)
 ·refine exec_append hop ?_;rw[hv,hx];exact run_append_grow (P:=C.P) w t o.type e ei z' h1 k1 k3 ad n cap' olds hol hoc ⟨b,o',none⟩ m cap vals hvl hcell hno hmax' (growslice_fits hno hby)
 ·rw[Array.size_append,Array.size_append,List.size_toArray,List.size_toArray,size_zeroCells,k9,hvl,hol,←Nat.add_mul,←Nat.add_mul]
  congr 1
  omega
theorem ls_vals {b o' sz:Nat}{X:Nat→Prop}{rows:List (List AV)}{us:Nat→Nat→Value}{cur:Array Value}{t0:TypeId}{fz:Nat × Nat}(hsz:0<sz)(c2:w.heap[b]?=some (Obj.cells cur t0 fz))
 (c7:∀(i:Nat) (row:List AV),rows[i]?=some row→row.length=sz)
 (c8:∀(i:Nat) (row:List AV) (j:Nat) (x:AV),rows[i]?=some row→row[j]?=some x→cur[o'+i*sz+j]?=some (us i j)∧Value.oneCell' (us i j)=true∧Ri w X (us i j) x):
 ∃vals:List Value,vals.length=rows.length*sz∧rows.flatten.length=rows.length*sz∧(∀(j:Nat) (u:Value),vals[j]?=some u→w.cell? ((⟨b,o',none⟩:Addr).add j)=some u)∧(∀u∈vals,u.oneCell'=true)∧
  ∀(k:Nat) (y:AV),rows.flatten[k]?=some y→Ri w X (vals.getD k undef) y:=by
 have hall:∀row∈rows,row.length=sz:=fun row hm=>by
  obtain⟨k,hk,rfl⟩:=List.getElem_of_mem hm;exact c7 k _ (Zb hk)
 have hfg:=flatten_get hsz rows hall;have hlen:=flatten_length rows hall;refine⟨(List.range (rows.length*sz)).map fun k=>us (k/sz) (k % sz),by simp,hlen,?_,?_,?_⟩
 ·intro j u hj;simp only[Zs,Ze]at hj;obtain⟨k,hk,rfl⟩:=hj;have hjl:j<rows.length*sz:=by have:=(Za.1 hk).1;simpa using this
  rw[List.getElem?_range hjl]at hk;cases hk;have h1:j/sz<rows.length:=by rw[Nat.div_lt_iff_lt_mul hsz];exact hjl
  have h2:j % sz< (rows[j/sz]).length:=by rw[c7 _ _ (Zb h1)];exact Nat.mod_lt _ hsz
  have:=c8 (j/sz) _ (j % sz) _ (Zb h1) (Zb h2);rw[add_lit,cell_at c2,←this.1]
  congr 1
  have:=Nat.div_add_mod j sz;rw[Nat.mul_comm]at this;omega
 ·intro u hu;simp only[Yh,List.mem_range]at hu;obtain⟨j,hjl,rfl⟩:=hu;have h1:j/sz<rows.length:=by rw[Nat.div_lt_iff_lt_mul hsz];exact hjl
  have h2:j % sz< (rows[j/sz]).length:=by rw[c7 _ _ (Zb h1)];exact Nat.mod_lt _ hsz
  exact(c8 (j/sz) _ (j % sz) _ (Zb h1) (Zb h2)).2.1
 ·intro k y hk;have hkl:k<rows.length*sz:=by have:=(Za.1 hk).1;rwa [hlen]at this
  rw[hfg]at hk;simp only[Yg]at hk;obtain⟨row,hr,hy⟩:=hk;have:=c8 _ row _ y hr hy;have e2:((List.range (rows.length*sz)).map fun k=>us (k/sz) (k % sz)).getD k undef=us (k/sz) (k % sz):=by simp[List.getD,List.getElem?_range hkl]
  rw[e2];exact this.2.2
theorem g_zeros (hs:Sim C.G w X ρ h)(hf:RF w (tot X ρ h) ρ h.length a.tmps fr){s x:Operand}{t tn:TypeId}(hop:o.op= .call {callee:= .builtin .append,args:= #[s,x],argTypes:= #[t,tn]})
 (hT:∀t i,C.T t=some i→tiOf C.P t=some i) {r:AV} {h':Hp} (ha:zerosA C h t tn (ev C fr s) (ev C fr x)=some (r,h')):Good C o a w X ρ h r h':=by
 unfold zerosA at ha;split at ha
 case h_2=>cases ha
 rename_i sz ag by' ez n hti hsv hn;split at ha
 case isFalse=>cases ha
 rename_i hc;obtain⟨hint,hpos,hmax,hby⟩:=hc;simp only[Zc,Zg]at ha;obtain⟨rfl,rfl⟩:=ha;obtain⟨d,info,z,h1,h2,h3,h4,h5,h6,h7,h8,h9⟩:=tiOf_spec (hT t _ hti);obtain⟨e,ei,ed,z',rfl,k1,k2,k3,rfl,k5,rfl,rfl,k8,k9,k10⟩:=kdOf_slice h4;have es:=ev_rp hs hf s;rw[hsv]at es;have hv:=es.sc_inv.1;obtain⟨q,j,hj,hj0,hjn⟩:=natOf_inv (ev_rp hs hf x) hn;have hjn':j=(n:Int):=by omega
 subst hjn';obtain⟨kn,htn⟩:∃kn,C.P.underlying tn=some (.int kn):=by
  unfold isIntT at hint;split at hint
  ·rename_i k hk;exact⟨k,hk⟩
  ·cases hint
 have hmax':(n:Int)≤9223372036854775807:=by simp only[maxLen]at hmax;omega
 have hgc:=grownCap_le_maxLen w n 0 e hmax;have hge:=grownCap_ge w n 0 e;have hz:=zeros_RC (w:=w) (X:=tot X ρ h) (ρ:=ρ) k8 h.length n (by omega);change RC w (tot X ρ h) ρ h.length (Builtin.zeroCells z'.cells n) _ at hz;obtain⟨z1,z2,z3⟩:=hz;have hlist:∀k,(Builtin.zeroCells z'.cells n).toList.getD k undef=(Builtin.zeroCells z'.cells n).getD k undef:=fun k=>by simp[List.getD,Zr]
 have he:=grown_ext hs e (Builtin.zeroCells z'.cells n).toList (Builtin.zeroCells z'.cells (grownCap w n 0 e-n)).toList (cs:=(List.range n).flatMap fun _=>z'.cells.toList.map .sc) (by rw[←z1];simp)
  (fun u hu=>by
   obtain⟨k,hk,rfl⟩:=List.getElem_of_mem hu;have hk':k< (Builtin.zeroCells z'.cells n).size:=by simpa using hk
   have h2:=z2 k hk';have e2:(Builtin.zeroCells z'.cells n).getD k undef=(Builtin.zeroCells z'.cells n)[k]:=by simp[hk']
   rw[e2]at h2;simpa using h2)
  (fun k y hk=>by rw[hlist k];exact z3 k y hk)
  (Builtin.zeroCells z'.cells n++Builtin.zeroCells z'.cells (grownCap w n 0 e-n)) (by apply Array.ext';simp)
 refine good_value (v:= .slice (some ⟨w.heap.size,0,none⟩) n (grownCap w n 0 e)) ?_ he (own_sl w _ h ρ _ _ _ _ _ (by simp) _ e (0,0) (alloc_new w.drew _) ?_ hge hgc)
 ·unfold execOp;have hr:=Lib.run_append_nil_zeros (P:=C.P) w t tn o.type e ei z' q kn h1 htn k1 k3 n hpos k10 hmax' (by omega);rw[←hv,←hj]at hr;simp only[hop,resolve,invoke,builtin,Sem.run_bind,Sem.run_pure,Result.andThen_ok,List.map_toArray,List.map_cons,List.map_nil,hr]
 ·rw[Array.size_append,size_zeroCells,size_zeroCells,k9,←Nat.add_mul]
  congr 1
  omega
theorem g_append (hs:Sim C.G w X ρ h)(hf:RF w (tot X ρ h) ρ h.length a.tmps fr){s x:Operand}{t:TypeId}(hop:o.op= .call {callee:= .builtin .append,args:= #[s,x],argTypes:= #[t,t]})
 (hT:∀t i,C.T t=some i→tiOf C.P t=some i) {r:AV} {h':Hp} (ha:appendA C h t (ev C fr s) (ev C fr x)=some (r,h')):Good C o a w X ρ h r h':=by
 unfold appendA at ha;split at ha
 case h_2=>cases ha
 rename_i sz ag by' ez hti;obtain⟨d,info,z,h1,h2,h3,h4,h5,h6,h7,h8,h9⟩:=tiOf_spec (hT t _ hti);obtain⟨e,ei,ed,z',rfl,k1,k2,k3,rfl,k5,rfl,k7,k8,k9,k10⟩:=kdOf_slice h4;split at ha
 case isFalse=>cases ha
 rename_i hsz;simp only[Zh]at hsz;split at ha
 case h_2=>cases ha
 rename_i m news hnews;obtain⟨base,cap,hx,hnl,hvals⟩:=news_rel hs hf k10 hsz.2 hnews;have es:=ev_rp hs hf s;split at ha
 ·
  rename_i hm;subst hm;have hval:∃b0 n cap0,a.eval s= .slice b0 n cap0∧n≤cap0∧r=ev C fr s∧h'=h:=by
   cases hq:ev C fr s with
   |
    sc u=>
    rw[hq]at ha es hsz;split at ha
    ·rename_i hu;simp only[AV.sc.injEq]at hu;subst hu;simp only[Zc,Zg]at ha;exact⟨none,0,0,es.sc_inv.1,Nat.le_refl _,ha.1.symm,ha.2.symm⟩
    ·rename_i hu;cases hu
    ·rename_i hu;cases hu
    ·cases ha
   |
    ls sz' rows zz=>
    rw[hq]at ha es;simp only[Zc,Zg]at ha;rcases es.ls_inv.ls_cases with⟨rfl,b,cap',hv,_⟩|⟨b,o',cap',us,cur,t0,fz,hv,_,_,hc,_⟩
    ·exact⟨b,0,cap',hv,Nat.zero_le _,ha.1.symm,ha.2.symm⟩
    ·exact⟨_,_,cap',hv,hc,ha.1.symm,ha.2.symm⟩
   |
    sl id sz' off len k=>
    rw[hq]at ha es;simp only[Zc,Zg]at ha;obtain⟨cap',cur,t0,fz,hv,_,_,_,_,_,hc,_⟩:=es.sl_inv;exact⟨_,_,cap',hv,hc,ha.1.symm,ha.2.symm⟩
   |_=>rw[hq]at ha;cases ha
  obtain⟨b0,n,cap0,hv,hle,rfl,rfl⟩:=hval;refine good_same hs (exec_append hop (v:= .slice b0 n cap0) (by rw[hv,hx];exact append_zero h1 k1 b0 base n cap0 cap hle w)) ?_;rw[←hv];exact es
 ·rename_i hm;rcases hvals with hm0|⟨b,o',vals,rfl,hvl,hcell,hone,hrel⟩
  ·exact absurd hm0 hm
  have hmpos:0<m:=by omega
  have fresh:(∃b0,a.eval s= .slice b0 0 0)→m≤maxLen→m*ei.bytes≤140737488355328→Good C o a w X ρ h (.sl h.length ei.size 0 m false) (h++[.row news]):=by
   rintro⟨b0,hv⟩ hmax hby;have hmax':(m:Int)≤9223372036854775807:=by simp only[maxLen]at hmax;omega
   have hgc:=grownCap_le_maxLen w m 0 e hmax;have hge:=grownCap_ge w m 0 e;have he:=grown_ext hs e vals (Builtin.zeroCells z'.cells (grownCap w m 0 e-m)).toList (cs:=news) (by omega) hone hrel (vals.toArray++Builtin.zeroCells z'.cells (grownCap w m 0 e-m)) (by apply Array.ext';simp);refine good_value (v:= .slice (some ⟨w.heap.size,0,none⟩) m (grownCap w m 0 e)) ?_ he (own_sl w _ h ρ _ _ _ _ _ (by simp) _ e (0,0) (alloc_new w.drew _) ?_ hge hgc)
   ·refine exec_append hop ?_;rw[hv,hx];cases b0 with
    |none=>exact run_append_nil (P:=C.P) w t o.type e ei z' h1 k1 k3 ⟨b,o',none⟩ m cap vals hvl hcell hmpos hmax' (by omega)
    |
     some ad=>
     have:=run_append_grow (P:=C.P) w t o.type e ei z' h1 k1 k3 ad 0 0 [] (by simp) (by simp) ⟨b,o',none⟩ m cap vals hvl hcell (by omega) (by simpa using hmax') (growslice_fits (by omega) (by simpa using hby));simpa using this
   ·simp only[Array.size_append,List.size_toArray,size_zeroCells,k9,hvl,←Nat.add_mul]
    congr 1
    omega
  split at ha
  ·rename_i hq;split at ha
   ·rename_i hc;simp only[Zc,Zg]at ha;obtain⟨rfl,rfl⟩:=ha;rw[hq]at es;exact fresh ⟨none,es.sc_inv.1⟩ hc.1 hc.2
   ·cases ha
  ·rename_i sz' rows hq;split at ha
   ·rename_i hc;simp only[Zc,Zg]at ha;obtain⟨rfl,rfl⟩:=ha;rw[hq]at es hsz;have hszs:sz'=ei.size:=by simpa[szOk]using hsz.1
    subst hszs;rcases es.ls_inv.ls_cases with⟨rfl,b0,cap',hv,_,hcap⟩|⟨b0,o0,cap',us,cur,t0,fz,hv,c1,c2,_,_,hcap,c7,c8⟩
    ·rw[hcap rfl]at hv;have:=fresh ⟨b0,hv⟩ (by simpa using hc.1) (by simpa using hc.2);simpa using this
    ·rw[hcap rfl]at hv;obtain⟨olds,q1,q2,q3,q4,q5⟩:=ls_vals (w:=w) (X:=tot X ρ h) k10 c2 c7 c8;exact grow_good hs hop h1 k1 k3 k9 hv q1 (by omega) q3 q4 (fun k y hk=> .im (q5 k y hk)) hx hvl hnl hcell hone hrel (by omega) hc.1 hc.2
   ·cases ha
  ·rename_i id sz' off len hq;rw[hq]at es hsz;have hszs:sz'=ei.size:=by simpa[szOk]using hsz.1
   subst hszs;obtain⟨cap',cur,t0,fz,hv,hidlt,hheap,hcap,hk,_,hlc,hcm⟩:=es.sl_inv;split at ha
   case h_2=>cases ha
   rename_i cs hid;split at ha
   case isFalse=>cases ha
   rename_i hc;simp only[Zc,Zg]at ha;obtain⟨rfl,rfl⟩:=ha;obtain⟨cur1,t1,fz1,us,c1,c3⟩:=hs.cells hid;rw[hk rfl]at hv;have hget:∀j,j<len*ei.size→cs[off+j]?=some cs[off+j]!:=fun j hj=>by
    have:off+j<cs.length:=by omega
    simp[Zb this,getElem!_pos cs (off+j) this]
   refine grow_good hs hop h1 k1 k3 k9 hv (olds:=(List.range (len*ei.size)).map fun j=>us (off+j)) (by simp) (by simp;omega) ?_ ?_ ?_ hx hvl hnl hcell hone hrel (by omega) hc.2.1 hc.2.2
   ·intro j u hj;simp only[Zs,Ze]at hj;obtain⟨k,hk',rfl⟩:=hj;have hjl:j<len*ei.size:=by have:=(Za.1 hk').1;simpa using this
    rw[List.getElem?_range hjl]at hk';cases hk';rw[add_lit,cell_at c1];exact(c3 _ _ (hget j hjl)).1
   ·intro u hu;simp only[Yh,List.mem_range]at hu;obtain⟨j,hjl,rfl⟩:=hu;exact(c3 _ _ (hget j hjl)).2.1
   ·intro k y hk';rw[List.getElem?_take]at hk';split at hk'
    ·rename_i hkl;rw[List.getElem?_drop]at hk';have e2:((List.range (len*ei.size)).map fun j=>us (off+j)).getD k undef=us (off+k):=by simp[List.getD,List.getElem?_range hkl]
     rw[e2];exact(c3 _ y hk').2.2
    ·cases hk'
  ·rename_i id sz' off len hq;rw[hq]at es hsz;have hszs:sz'=ei.size:=by simpa[szOk]using hsz.1
   subst hszs;obtain⟨cap',cur,t0,fz,hv,hidlt,hheap,_,_,hcap',hlc,hcm⟩:=es.sl_inv;have hcap:=hcap' rfl;split at ha
   case h_2=>cases ha
   rename_i cs hid;obtain⟨cur1,t1,fz1,us,c1,hfz1,c2,c3⟩:=hs.row id cs hid;have hcc:cur1=cur:=by rw[hheap]at c1;cases c1;rfl
   subst hcc;split at ha
   ·
    rename_i hroom;simp only[Zc,Zg]at ha;obtain⟨rfl,rfl⟩:=ha;have hne:len+m≤cap':=by
     have:(len+m)*ei.size≤cap'*ei.size:=by omega
     exact Nat.le_of_mul_le_mul_right this k10
    obtain⟨w',hst,he⟩:=write_row hs hid (off:=off+len*ei.size) (vs:=news) (by rw[hnl];rw[Nat.add_mul]at hroom;omega) (vals:=vals) (by omega) hone hrel;refine good_value (v:= .slice (some ⟨ρ id,off,none⟩) (len+m) cap') ?_ he (sl_after he.step (by simpa using hidlt) hheap hcap hne hcm);refine exec_append hop ?_;rw[hv,hx];exact append_room h1 k1 _ _ _ _ _ _ _ vals hvl hcell hne hst
   ·split at ha
    case isFalse=>cases ha
    rename_i hnroom hc;obtain⟨rfl,hcl,hmax,hby⟩:=hc;simp only[Zc,Zg]at ha;obtain⟨rfl,rfl⟩:=ha;by_cases hne:len+m≤cap'
    ·
     have hfit:cs.length+news.length≤cur1.size:=by
      rw[hcl,hnl,←Nat.add_mul,←hcap,Nat.zero_add];exact Zx _ hne
     obtain⟨w',hst,he⟩:=write_row' hs hid (off:=cs.length) (vs:=news) (Nat.le_refl _) (fun cur' t' fz' hc'=>by rw[hheap]at hc';cases hc';exact hfit) (vals:=vals) (by omega) hone hrel;have hsp:splice cs cs.length news=cs++news:=by simp[splice]
     rw[hsp]at he;have hid':(h.set id (Blk.row (cs++news)))[id]?=some (.row (cs++news)):=by
      have:id<h.length:=hidlt;simp[this]
     have hr:=ext_rename he.sim id (cs++news) hid';have hset:(h.set id (Blk.row (cs++news))).set id Blk.dead=h.set id Blk.dead:=by simp
     rw[hset]at hr;have hall:=he.trans hr;refine good_value (v:= .slice (some ⟨ρ id,0,none⟩) (len+m) cap') ?_ hall ?_
     ·refine exec_append hop ?_;rw[hv,hx];refine append_room h1 k1 _ _ _ _ _ _ _ vals hvl hcell hne ?_;rw[Nat.zero_add,←hcl];exact hst
     ·have:=sl_after (X':=tot X (fun i=>if i=(h.set id (Blk.row (cs++news))).length then ρ id else ρ i) (h.set id Blk.dead++[Blk.row (cs++news)])) (ρ':=fun i=>if i=(h.set id (Blk.row (cs++news))).length then ρ id else ρ i)
       (n':=(h.set id Blk.dead++[Blk.row (cs++news)]).length) (id:=h.length) (sz:=ei.size) (off:=0) (len:=len+m) (cap:=cap') hall.step (by simp) (by simpa using hheap) hcap hne hcm
      simpa using this
    ·
     have hk:=ext_kill hs id;have hvals0:∀(j:Nat) (u:Value),((List.range cs.length).map us)[j]?=some u→w.cell? ((⟨ρ id,0,none⟩:Addr).add j)=some u:=by
      intro j u hj;simp only[Zs,Ze]at hj;obtain⟨k,hk',rfl⟩:=hj;have hjl:j<cs.length:=by have:=(Za.1 hk').1;simpa using this
      rw[List.getElem?_range hjl]at hk';cases hk';rw[add_lit,cell_at hheap,Nat.zero_add];exact(c3 j _ (Zb hjl)).1
     have hlen0:((List.range cs.length).map us).length=cs.length:=by simp
     have hgc:=grownCap_le_maxLen w (len+m) cap' e hmax;have hge:=grownCap_ge w (len+m) cap' e;have he:=grown_ext hk.sim e ((List.range cs.length).map us++vals) (Builtin.zeroCells z'.cells (grownCap w (len+m) cap' e-(len+m))).toList (cs:=cs++news) (by simp;omega)
      (fun u hu=>by
       rcases Ya.1 hu with hu|hu
       ·simp only[Yh,List.mem_range]at hu;obtain⟨j,hjl,rfl⟩:=hu;exact(c3 j _ (Zb hjl)).2.1
       ·exact hone u hu)
      (fun k y hky=>by
       by_cases hkl:k<cs.length
       ·rw[Zd hkl]at hky;have e2:((List.range cs.length).map us++vals).getD k undef=us k:=by
         simp only[List.getD];rw[Zd (by simpa using hkl)];simp[List.getElem?_range hkl]
        rw[e2];exact hk.rp (c3 k y hky).2.2
       ·rw[Zf (by omega)]at hky;have e2:((List.range cs.length).map us++vals).getD k undef=vals.getD (k-cs.length) undef:=by
         simp only[List.getD];rw[Zf (by simp;omega)];simp
        rw[e2];exact hk.rp (hrel _ y hky))
      (((List.range cs.length).map us).toArray++vals.toArray++Builtin.zeroCells z'.cells (grownCap w (len+m) cap' e-(len+m))) (by apply Array.ext';simp)
     have hall:=hk.trans he;have hmax':((len+m:Nat):Int)≤9223372036854775807:=by simp only[maxLen]at hmax;omega
     have hlen':(h.set id Blk.dead).length=h.length:=by simp
     rw[hlen']at hall;refine good_value (v:= .slice (some ⟨w.heap.size,0,none⟩) (len+m) (grownCap w (len+m) cap' e)) ?_ hall (own_sl w _ h ρ _ _ _ _ _ (by simp) _ e (0,0) (alloc_new w.drew _) ?_ hge hgc)
     ·refine exec_append hop ?_;rw[hv,hx];exact run_append_grow (P:=C.P) w t o.type e ei z' h1 k1 k3 ⟨ρ id,0,none⟩ len cap' ((List.range cs.length).map us) (by simp[hcl]) hvals0 ⟨b,o',none⟩ m cap vals hvl hcell (by omega) hmax' (growslice_fits (by omega) hby)
     ·rw[Array.size_append,Array.size_append,List.size_toArray,List.size_toArray,size_zeroCells,k9,hvl,hlen0,hcl,←Nat.add_mul,←Nat.add_mul]
      congr 1
      omega
  ·cases ha
theorem c_append (hs:Sim C.G w X ρ h)(hf:RF w (tot X ρ h) ρ h.length a.tmps fr){s x:Operand}{t:TypeId}(hop:o.op= .call {callee:= .builtin .append,args:= #[s,x],argTypes:= #[t,t]})
 (hT:∀t i,C.T t=some i→tiOf C.P t=some i) {sz by':Nat} {zero:List Value} {size:Nat} {agg ag:Bool} {ez:List Value} (hti:C.T t=some {size:=size,agg:=agg,zero:=zero,kd:= .slice sz ag by' ez})
 (hsz:(szOk sz (ev C fr s) && szOk sz (ev C fr x))=true) {m:Nat} {news:List AV} (hnews:newsOf h (ev C fr x)=some (m,news)) {s0:Nat} {z:Bool} (hq:ev C fr s= .ls s0 [] z):
 (m=0→Good C o a w X ρ h (.ls s0 [] z) h)∧(0<m→m≤maxLen→m*by'≤140737488355328→z=true→news.all calm=true→Good C o a w X ρ h (.ls sz (chunk sz m news) false) h):=by
 obtain⟨d,info,zv,h1,h2,h3,h4,h5,h6,h7,h8,h9⟩:=tiOf_spec (hT t _ hti);obtain⟨e,ei,ed,z',rfl,k1,k2,k3,rfl,k5,rfl,k7,k8,k9,k10⟩:=kdOf_slice h4;simp only[Zh]at hsz;obtain⟨base,cap,hx,hnl,hvals⟩:=news_rel hs hf k10 hsz.2 hnews;have es:=ev_rp hs hf s;rw[hq]at es;have hbase:∃b0 cap0,a.eval s= .slice b0 0 cap0∧(z=true→cap0=0):=by
  rcases es.ls_inv.ls_cases with⟨_,b0,cap',hv,_,hcap⟩|⟨b0,o0,cap',us,cur,t0,fz,hv,c1,c2,_,_,hcap,c7,c8⟩
  ·exact⟨b0,cap',hv,hcap⟩
  ·exact⟨_,cap',hv,fun hz=>hcap hz⟩
 obtain⟨b0,cap0,hv,hc0⟩:=hbase;refine⟨fun hm=>?_,fun hmpos hmax hby hz hall=>?_⟩
 ·subst hm;refine good_same hs (exec_append hop (v:= .slice b0 0 cap0) (by rw[hv,hx];exact append_zero h1 k1 b0 base 0 cap0 cap (Nat.zero_le _) w)) ?_;rw[←hv];exact es
 ·have hc00:=hc0 hz;subst hc00;rcases hvals with hm0|⟨b,o',vals,rfl,hvl,hcell,hone,hrel⟩
  ·omega
  have hmax':(m:Int)≤9223372036854775807:=by simp only[maxLen]at hmax;omega
  have hgc:=grownCap_le_maxLen w m 0 e hmax;have hge:=grownCap_ge w m 0 e;have hst:Step w none' (w.drew.alloc (.cells (vals.toArray++Builtin.zeroCells z'.cells (grownCap w m 0 e-m)) e (0,0))) none':=(drawn_quiet w (w.drawn+1) (by omega)).trans (alloc_quiet w.drew _);refine cold_good (cap:=grownCap w m 0 e) hs hst (alloc_new w.drew _) (by rw[hnl];exact Nat.le_refl _) hge hgc false (fun hh=>by cases hh) hall (fun k y hk=>?_) ?_
  ·have hkl:k<vals.length:=by have:=(Za.1 hk).1;omega
   refine⟨vals[k],?_,hone _ (List.getElem_mem hkl),?_⟩
   ·rw[Array.getElem?_append_left (by simpa using hkl)];simp[hkl]
   ·have:=hrel k y hk;simpa[List.getD,Zb hkl]using this
  ·refine exec_append hop ?_;rw[hv,hx];cases b0 with
   |none=>exact run_append_nil (P:=C.P) w t o.type e ei z' h1 k1 k3 ⟨b,o',none⟩ m cap vals hvl hcell hmpos hmax' (by omega)
   |
    some ad=>
    have:=run_append_grow (P:=C.P) w t o.type e ei z' h1 k1 k3 ad 0 0 [] (by simp) (by simp) ⟨b,o',none⟩ m cap vals hvl hcell (by omega) (by simpa using hmax') (growslice_fits (by omega) (by simpa using hby));simpa using this
theorem g_copy (hs:Sim C.G w X ρ h)(hf:RF w (tot X ρ h) ρ h.length a.tmps fr){s x:Operand}{t:TypeId}(hop:o.op= .call {callee:= .builtin .copy,args:= #[s,x],argTypes:= #[t,t]})
 (hT:∀t i,C.T t=some i→tiOf C.P t=some i) {r:AV} {h':Hp} (ha:copyA C h t (ev C fr s) (ev C fr x)=some (r,h')):Good C o a w X ρ h r h':=by
 have hex:∀{v:Value} {w':World},(Builtin.copy_ #[t,t] o.type #[a.eval s,a.eval x]).run C.P w= .ok v w'→(execOp a.eval o).run C.P w= .ok (.value v) w':=by
  intro v w' hr;unfold execOp;simp only[hop,resolve,invoke,builtin,Sem.run_bind,Sem.run_pure,Result.andThen_ok,List.map_toArray,List.map_cons,List.map_nil,hr]
 unfold copyA at ha;split at ha
 case h_2=>cases ha
 rename_i sz ag by' ez hti;obtain⟨d,info,z,h1,h2,h3,h4,h5,h6,h7,h8,h9⟩:=tiOf_spec (hT t _ hti);obtain⟨e,ei,ed,z',rfl,k1,k2,k3,rfl,k5,rfl,k7,k8,k9,k10⟩:=kdOf_slice h4;split at ha
 case isFalse=>cases ha
 rename_i hsz;simp only[Zh]at hsz;have es:=ev_rp hs hf s;split at ha
 case h_4=>cases ha
 ·rename_i m news id sz' off len kk hnews hq;obtain⟨base,cap,hx,hnl,hvals⟩:=news_rel hs hf k10 hsz.2 hnews;rw[hq]at es;obtain⟨cap',cur,t0,fz,hv,hidlt,hheap,hcap,_,_,hlc,hcm⟩:=es.sl_inv;split at ha
  case h_2=>cases ha
  rename_i cs hid;split at ha
  case isFalse=>cases ha
  rename_i hfit;simp only[Zc,Zg]at ha;obtain⟨rfl,rfl⟩:=ha;have hmin:Nat.min m len=min m len:=rfl;rcases hvals with rfl|⟨b,o',vals,rfl,hvl,hcell,hone,hrel⟩
  ·obtain⟨w',hst,he⟩:=write_row hs hid (off:=off) (vs:=news.take (min 0 len*ei.size)) (by simp;omega) (vals:=[]) (by simp) (by simp) (by simp);refine good_value (v:= .int .i64 (min 0 len:Nat)) (hex ?_) he (.im (.sc _ rfl));rw[hv,hx];have hf0:(Builtin.firstCells ei.size 0 (.slice base 0 cap)).run C.P w= .ok #[] w:=by
    cases base<;>simp[Builtin.firstCells,loadCells,loadCellsFrom]
   simp[Builtin.copy_,run_underlying h1,Builtin.lenOf,sizeOf,typeInfo,k1,hmin,hf0,hst,goInt]
  ·have htl:(vals.take (min m len*ei.size)).length=min m len*ei.size:=by
    rw[List.length_take,hvl];have:min m len*ei.size≤m*ei.size:=Zx _ (Nat.min_le_left _ _);omega
   have hnl':(news.take (min m len*ei.size)).length=min m len*ei.size:=by
    rw[List.length_take,hnl];have:min m len*ei.size≤m*ei.size:=Zx _ (Nat.min_le_left _ _);omega
   obtain⟨w',hst,he⟩:=write_row hs hid (off:=off) (vs:=news.take (min m len*ei.size)) (by omega) (vals:=vals.take (min m len*ei.size)) (by omega) (fun u hu=>hone u (List.mem_of_mem_take hu)) (fun k y hk=>by
    rw[List.getElem?_take]at hk;split at hk
    ·rename_i hkl;have:=hrel k y hk;simpa[List.getD,List.getElem?_take,hkl]using this
    ·cases hk)
   refine good_value (v:= .int .i64 (min m len:Nat)) (hex ?_) he (.im (.sc _ rfl));rw[hv,hx];have hf0:(Builtin.firstCells ei.size (min m len) (.slice (some ⟨b,o',none⟩) m cap)).run C.P w= .ok (vals.take (min m len*ei.size)).toArray w:=
    run_firstCells_some (P:=C.P) w ei.size (min m len) ⟨b,o',none⟩ m cap _ htl (fun j u hj=>by
     rw[List.getElem?_take]at hj;split at hj
     ·exact hcell j u hj
     ·cases hj)
   simp[Builtin.copy_,run_underlying h1,Builtin.lenOf,sizeOf,typeInfo,k1,hmin,hf0,hst,goInt]
 ·rename_i m news sz' zz hnews hq;obtain⟨base,cap,hx,hnl,hvals⟩:=news_rel hs hf k10 hsz.2 hnews;simp only[Zc,Zg]at ha;obtain⟨rfl,rfl⟩:=ha;rw[hq]at es;have hval:∃b0 cap0,a.eval s= .slice b0 0 cap0:=by
   rcases es.ls_inv.ls_cases with⟨_,b,cap',hv,_⟩|⟨b,o',cap',us,cur,t0,fz,hv,_⟩
   ·exact⟨b,cap',hv⟩
   ·exact⟨_,cap',hv⟩
  obtain⟨b0,cap0,hv⟩:=hval;refine good_same hs (v:= .int .i64 0) (hex ?_) (.im (.sc _ rfl));rw[hv,hx];cases b0<;>cases base<;>simp[Builtin.copy_,run_underlying h1,Builtin.lenOf,sizeOf,typeInfo,k1,Builtin.firstCells,loadCells,loadCellsFrom,goInt,storeCells]
 ·rename_i m news hnews hq;obtain⟨base,cap,hx,hnl,hvals⟩:=news_rel hs hf k10 hsz.2 hnews;simp only[Zc,Zg]at ha;obtain⟨rfl,rfl⟩:=ha;rw[hq]at es;have hv:=es.sc_inv.1;refine good_same hs (v:= .int .i64 0) (hex ?_) (.im (.sc _ rfl));rw[hv,hx];cases base<;>simp[Builtin.copy_,run_underlying h1,Builtin.lenOf,sizeOf,typeInfo,k1,Builtin.firstCells,loadCells,loadCellsFrom,goInt]
theorem g_clear (hs:Sim C.G w X ρ h)(hf:RF w (tot X ρ h) ρ h.length a.tmps fr){x:Operand}{t:TypeId}(hop:o.op= .call {callee:= .builtin .clear,args:= #[x],argTypes:= #[t]})
 (hT:∀t i,C.T t=some i→tiOf C.P t=some i) {r:AV} {h':Hp} (ha:clearA C h t (ev C fr x)=some (r,h')):Good C o a w X ρ h r h':=by
 have hex:∀{v:Value} {w':World},(Builtin.clear_ #[t] o.type #[a.eval x]).run C.P w= .ok v w'→(execOp a.eval o).run C.P w= .ok (.value v) w':=by
  intro v w' hr;unfold execOp;simp only[hop,resolve,invoke,builtin,Sem.run_bind,Sem.run_pure,Result.andThen_ok,List.map_toArray,List.map_cons,List.map_nil,hr]
 unfold clearA at ha;split at ha
 case h_2=>cases ha
 rename_i zero agg0 sz ag by' ez id s off len k hti hq;obtain⟨d,info,z,h1,h2,h3,h4,h5,h6,h7,h8,h9⟩:=tiOf_spec (hT t _ hti);obtain⟨e,ei,ed,z',rfl,k1,k2,k3,rfl,k5,rfl,k7,k8,k9,k10⟩:=kdOf_slice h4;subst k7;split at ha
 case h_2=>cases ha
 rename_i cs hid;split at ha
 case isFalse=>cases ha
 rename_i hc;obtain⟨rfl,hl0,hfit⟩:=hc;simp only[Zc,Zg]at ha;obtain⟨rfl,rfl⟩:=ha;have es:=ev_rp hs hf x;rw[hq]at es;obtain⟨cap',cur,t0,fz,hv,hidlt,hheap,hcap,_,_,hlc,hcm⟩:=es.sl_inv;have hRC:=zeros_RC (w:=w) (X:=tot X ρ h) (ρ:=ρ) k8 h.length len (by omega);obtain⟨q1,q2,q3⟩:=hRC;have hsz:((List.range len).flatMap fun _=>z'.cells.toList.map AV.sc).length=len*ei.size:=by rw[rep_length];simp[k9]
 obtain⟨w',hst,he⟩:=write_row hs hid (off:=off) (vs:=(List.range len).flatMap fun _=>z'.cells.toList.map AV.sc) (by rw[hsz];exact hfit) (vals:=((Array.range (len*z'.cells.size)).map (z'.cells[· % z'.cells.size]!)).toList)
  (by rw[←q1];simp) (fun u hu=>by
   obtain⟨j,hj,rfl⟩:=List.getElem_of_mem hu;have hj':j< ((Array.range (len*z'.cells.size)).map (z'.cells[· % z'.cells.size]!)).size:=by simpa using hj
   have:=q2 j hj'
   rwa [Zr,Array.getElem?_eq_getElem hj',Option.getD_some]at this) (fun j y hj=>by
   have:=q3 j y hj
   rwa [Zr,←Array.getElem?_toList]at this)
 refine good_value (v:= .tuple #[]) (hex ?_) he (.im (.tp #[] [] rfl (by simp)));obtain⟨m,rfl⟩:∃m,len=m+1:=⟨len-1,by omega⟩;rw[hv];simp[Builtin.clear_,run_underlying h1,zeroValue,typeInfo,k1,k3,Builtin.zeroCells]at hst⊢;simp[hst]
theorem c_slice (hs:Sim C.G w X ρ h)(hf:RF w (tot X ρ h) ρ h.length a.tmps fr){t:TypeId}{x:Operand}{lo hi:Option Operand}(hop:o.op= .slice t x lo hi none){i:Ti}(hi':tiOf C.P t=some i)
 {sz by':Nat} {ag:Bool} {ez:List Value} (hk:i.kd= .slice sz ag by' ez) {id off len l m:Nat} {cs:List AV} (hx:ev C fr x= .sl id sz off len false) (hl:boundA 0 (lo.map (ev C fr))=some l) (hm:boundA len (hi.map (ev C fr))=some m)
 (hr:rowOf h id=some cs) (hlm:l≤m) (hfit:off+m*sz≤cs.length) (hlt:l<m∨off+(l+1)*sz≤cs.length):Good C o a w X ρ h (.sl id sz (off+l*sz) (m-l) false) h:=by
 obtain⟨d,info,z,h1,h2,h3,h4,h5,h6,h7,h8,h9⟩:=tiOf_spec hi';rw[hk]at h4;obtain⟨e,ei,ed,ez',rfl,k1,k2,k3,rfl,k5,k6,k7,k8,k9,k10⟩:=kdOf_slice h4;have e1:=ev_rp hs hf x;rw[hx]at e1;obtain⟨cap,cur,t0,fz,hq,c1,c2,c3,ck,ck',c4,c5⟩:=e1.sl_inv;obtain⟨cur',t',fz',us,d1,d2⟩:=hs.cells hr;rw[c2]at d1;cases d1;have hle:cs.length≤cur.size:=by
  rcases Nat.eq_zero_or_pos cs.length with h0|h0
  ·omega
  ·have:=(Array.getElem?_eq_some_iff.1 (d2 (cs.length-1) _ (Zb (by omega))).1).1;omega
 have hcap:off+cap*ei.size=cur.size:=ck' rfl;have hmc:m≤cap:=by
  have:m*ei.size≤cap*ei.size:=by omega
  exact Nat.le_of_mul_le_mul_right this (by omega)
 have hlc:l<cap:=by
  rcases hlt with q|q
  ·omega
  ·have:(l+1)*ei.size≤cap*ei.size:=by omega
   exact Nat.le_of_mul_le_mul_right this (by omega)
 have hb:=bounds_run hs hf hl hm (by omega) (cap:=cap) hmc;have hrun:(execOp a.eval o).run C.P w= .ok (.value (.slice (if cap=l then some ⟨ρ id,off,none⟩else(some ⟨ρ id,off,none⟩:Option Addr).map (·.add (l*ei.size))) (m-l) (cap-l))) w:=by
  simp only[execOp,hop,Instr.sliceAt,Instr.slice,run_underlying h1,Sem.run_bind,Result.andThen_ok,hq,Option.map_none,hb,run_size k1,Sem.run_pure]
 refine good_same hs hrun ?_;rw[if_neg (show¬cap=l by omega)];have hcl:l*ei.size+(cap-l)*ei.size=cap*ei.size:=by rw[←Nat.add_mul];congr 1;omega
 have:=Rp.sl (w:=w) (X:=tot X ρ h) (ρ:=ρ) (n:=h.length) id ei.size (off+l*ei.size) (m-l) (cap-l) false cur t0 fz c1 c2 (by omega) (fun q=>by cases q) (fun _=>by omega) (by omega) (by omega);simpa[add_lit]using this
def CallR (C:Cx)(w:World)(X:Nat→Prop)(ρ:Nat→Nat)(h h':Hp)(r:AV)(e:Ending)(w':World):Prop:=
 ∃ρ',Ext C.G w X ρ h w' ρ' h'∧((∃v,e= .returned v∧Rp w' (tot X ρ' h') ρ' h'.length v r)∨∃u,e= .panicked [{v:=u,recovered:=false}]∧r= .pn u)
def CallOK (C:Cx)(call:Cal):Prop:=
 ∀g xs h r h',call g xs h=some (r,h')→∀(w:World) (X:Nat→Prop) (ρ:Nat→Nat) (vs:Array Value),Sim C.G w X ρ h→vs.size=xs.length→
  (∀(k:Nat) (x:AV),xs[k]?=some x→Rp w (tot X ρ h) ρ h.length (vs.getD k undef) x)→
  (∃fn,C.P.funcs[g]?=some fn∧fn.name≠ "runtime.NumGoroutine" ∧fn.body.isSome=true)∧
  Calls C.P g vs w (CallR C w X ρ h h' r)
theorem g_call (hs:Sim C.G w X ρ h)(hf:RF w (tot X ρ h) ρ h.length a.tmps fr){call:Cal}(hcall:CallOK C call){f:Operand}{args:Array Operand}{tys:Array TypeId}
 (hop:o.op= .call {callee:= .value f,args:=args,argTypes:=tys}) {g:FuncId} {caps:List AV} (hfn:ev C fr f= .fn g caps) {r:AV} {h':Hp} (hr:call g (args.toList.map (ev C fr)++caps) h=some (r,h')):Good C o a w X ρ h r h':=by
 have e1:=ev_rp hs hf f;rw[hfn]at e1;obtain⟨us,hv,hul,hur⟩:=e1.fn_inv;obtain⟨⟨fn,c1,c2,c3⟩,c4⟩:=hcall g _ h r h' hr w X ρ (args.map a.eval++us) hs (by simp[hul]) (fun k x hk=>by
  by_cases hkl:k<args.size
  ·rw[Zd (by simpa using hkl)]at hk;simp only[Zs,Ze]at hk;obtain⟨y,hy,rfl⟩:=hk;have hy':args[k]?=some y:=by simpa using hy
   have hy'':args[k]=y:=by rw[Array.getElem?_eq_getElem hkl]at hy';simpa using hy'
   have e2:(args.map a.eval++us).getD k undef=a.eval y:=by
    rw[Zr,Array.getElem?_append_left (by simpa using hkl)];simp[hkl,hy'']
   rw[e2];exact ev_rp hs hf y
  ·rw[Zf (by simpa using hkl)]at hk;have e2:(args.map a.eval++us).getD k undef=us.getD (k-args.size) undef:=by
    rw[Zr,Array.getElem?_append_right (by simpa using hkl)];simp[Zr]
   rw[e2];exact hur _ x (by simpa using hk))
 intro K Q hK hQ;unfold Oper.wp;have hrun:(execOp a.eval o).run C.P w= .ok (.enter g (args.map a.eval++us)) w:=by
  have hb:fn.body.isNone=false:=by cases hq:fn.body<;>simp_all
  simp only[execOp,hop,resolve,hv,Deferred.ofValue,invoke,callFunc,Sem.run_bind,Sem.run_pure,Result.andThen_ok,run_program,c1];simp[c2,hb]
 rw[hrun,Oper.upon_enter];refine c4.mono fun e w' ⟨ρ',hx,hh⟩=>?_
 rcases hh with⟨v,rfl,hrp⟩|⟨u,rfl,hru⟩
 ·exact hK v w' ρ' hx hrp
 ·exact hQ u w' ρ' hru hx
theorem someA_inv {n:Nat}{v:Value}{x:AV}(h:Rp w X ρ n v x)(hs:someA x=true):∃ad l c,v= .slice (some ad) l c:=by
 cases x with
 |
  ls sz rows z=>
  cases rows with
  |nil=>simp[someA]at hs
  |
   cons r rows=>
   rcases h.ls_inv.ls_cases with⟨h0,_⟩|⟨b,o',cap,us,cur,t0,fz,hq,_⟩
   ·cases h0
   ·exact⟨_,_,_,hq⟩
 |
  sl id sz off len k=>
  obtain⟨cap,cur,t,fz,hv,_⟩:=h.sl_inv;exact⟨_,_,_,hv⟩
 |_=>simp[someA]at hs
theorem g_nilcmp (hs:Sim C.G w X ρ h)(hf:RF w (tot X ρ h) ρ h.length a.tmps fr){op:BinOp}{t t':TypeId}{x y:Operand}(hop:o.op= .binOp op t x y t')(hc:(isSlT C t && isNilC y && someA (ev C fr x))=true):
 (op= .eql→Good C o a w X ρ h (.sc (.bool false)) h)∧(op= .neq→Good C o a w X ρ h (.sc (.bool true)) h):=by
 simp only[Zh]at hc;obtain⟨⟨hc1,hc2⟩,hc3⟩:=hc;obtain⟨ad,l,c,hv⟩:=someA_inv (ev_rp hs hf x) hc3;obtain⟨e,he⟩:∃e,C.P.underlying t=some (.slice e):=by
  unfold isSlT at hc1;split at hc1
  ·rename_i e he;exact⟨e,he⟩
  ·cases hc1
 have hy:a.eval y= .slice none 0 0:=by
  unfold isNilC at hc2;split at hc2
  ·rfl
  ·cases hc2
 have hq:=run_equal_slice_nil w t e (some ad) l c he;constructor
 ·rintro rfl;refine good_same hs (v:= .bool false) ?_ (.im (.sc _ rfl));simp[execOp,hop,hv,hy,eqGuard,binOp,hq]
 ·rintro rfl;refine good_same hs (v:= .bool true) ?_ (.im (.sc _ rfl));simp[execOp,hop,hv,hy,eqGuard,binOp,hq]
theorem isU8_inv {t:TypeId}(h:isU8 C t=true):∃e,C.P.underlying t=some (.slice e)∧C.P.underlying e=some (.int .u8):=by
 unfold isU8 at h;split at h
 ·rename_i e he;split at h
  ·rename_i h2;exact⟨e,he,h2⟩
  ·cases h
 ·cases h
theorem isStr_inv {t:TypeId}(h:isStr C t=true):C.P.underlying t=some .string:=by
 unfold isStr at h;split at h
 ·assumption
 ·cases h
theorem isMapS_inv {t:TypeId}(h:isMapS C t=true):∃kt et,C.P.underlying t=some (.map kt et)∧C.P.underlying kt=some .string:=by
 unfold isMapS at h;split at h
 ·rename_i kt et he;exact⟨kt,et,he,isStr_inv h⟩
 ·cases h
theorem g_toBytes (hs:Sim C.G w X ρ h)(hf:RF w (tot X ρ h) ρ h.length a.tmps fr){src dst:TypeId}{x:Operand}(hop:o.op= .convert src dst x){s:ByteArray}(hx:ev C fr x= .sc (.string s))(h1:isStr C src=true)(h2:isU8 C dst=true)(hmax:s.size≤maxLen):
 Good C o a w X ρ h (.sl h.length 1 0 s.size false) (h++[.raw (s.data.toList.map fun b=> .sc (.int .u8 b.toNat))]):=by
 obtain⟨e,he,hu⟩:=isU8_inv h2;have e1:=ev_rp hs hf x;rw[hx]at e1;have hv:=e1.sc_inv.1;have hrun:=run_bytes_of_string (P:=C.P) w src dst e s (isStr_inv h1) he hu;have hge:=grownCap_ge w s.size 0 e;have hle:=grownCap_le_maxLen w s.size 0 e hmax;have hsz:(bytesRow s (grownCap w s.size 0 e)).size=grownCap w s.size 0 e:=by
  simp only[bytesRow,Array.size_append,Array.size_map,Array.size_replicate];show s.size+_=_;omega
 have hd:=ext_drawn hs (w.drawn+1);have ha:=ext_new hd.sim (.cells (bytesRow s (grownCap w s.size 0 e)) e ((bytesRow s (grownCap w s.size 0 e)).size,(bytesRow s (grownCap w s.size 0 e)).size+1)) (.raw (s.data.toList.map fun b=> .sc (.int .u8 b.toNat))) rfl
  ⟨_,_,_,fun k=>(bytesRow s (grownCap w s.size 0 e)).getD k undef,rfl,.inr (Nat.le_refl _),by rw[hsz];simp;exact hge,fun k y hk=>by
   simp only[Zs,Ze]at hk;obtain⟨b,hb,rfl⟩:=hk;have hkl:k<s.data.size:=by have:=(Za.1 hb).1;simpa using this
   have hb':s.data[k]?=some b:=by simpa using hb
   have hrow:(bytesRow s (grownCap w s.size 0 e))[k]?=some (.int .u8 b.toNat):=by
    unfold bytesRow;rw[Array.getElem?_append_left (by simpa using hkl)];simp[hb']
   have hg:(bytesRow s (grownCap w s.size 0 e)).getD k undef= .int .u8 b.toNat:=by rw[Zr,hrow];rfl
   simp only[hg];exact⟨hrow,rfl,.im (.sc _ rfl)⟩⟩
 refine good_value (v:= .slice (some ⟨w.heap.size,0,none⟩) s.size (grownCap w s.size 0 e)) ?_ (hd.trans ha) (own_sl w _ h ρ _ _ _ _ _ (by simp) _ e _ (alloc_new w.drew _) (by rw[hsz];omega) hge hle);simp only[execOp,hop,hv,Sem.run_bind,hrun,Result.andThen_ok,Sem.run_pure];rfl
theorem byteA_inv {n:Nat}{v:Value}{x:AV}{b:UInt8}(h:Rp w X ρ n v x)(hb:byteA x=some b):v= .int .u8 (b.toNat:Int):=by
 unfold byteA at hb;split at hb
 ·rename_i i;split at hb
  ·rename_i hc;simp only[Zc]at hb;subst hb;have:=h.sc_inv.1;rw[this];have h3:(UInt8.ofNat i.toNat).toNat=i.toNat:=by
    simp;omega
   rw[h3]
   congr 1
   omega
  ·cases hb
 ·cases hb
theorem g_toString (hs:Sim C.G w X ρ h)(hf:RF w (tot X ρ h) ρ h.length a.tmps fr){src dst:TypeId}{x:Operand}(hop:o.op= .convert src dst x){id off len:Nat}{k:Bool}(hx:ev C fr x= .sl id 1 off len k)(h1:isStr C dst=true)(h2:isU8 C src=true)
 {m:Nat} {news:List AV} (hn:newsOf h (.sl id 1 off len k)=some (m,news)) {bs:List UInt8} (hb:news.mapM byteA=some bs):Good C o a w X ρ h (.sc (.string ⟨bs.toArray⟩)) h:=by
 obtain⟨e,he,hu⟩:=isU8_inv h2;have e1:=ev_rp hs hf x;rw[hx]at e1;obtain⟨cap,cur,t,fz,hv,_⟩:=e1.sl_inv;have hml:m=len:=by
  simp only[newsOf]at hn;split at hn
  ·split at hn
   ·simp only[Zc,Zg]at hn;exact hn.1.symm
   ·cases hn
  ·cases hn
 subst hml;obtain⟨base,cap',hv',hnl,hvals⟩:=news_rel hs hf (x:=x) (sz:=1) (by omega) (by rw[hx];simp[szOk]) (by rw[hx];exact hn);obtain⟨m1,m2⟩:=mapM_get hb;have hbl:bs.length=m:=by rw[m1,hnl];omega
 rw[hv]at hv';simp only[Value.slice.injEq]at hv';obtain⟨rfl,_,rfl⟩:=hv';refine good_same hs (v:= .string ⟨bs.toArray⟩) ?_ (.im (.sc _ rfl));have hc:=run_convert_bytes_back (P:=C.P) w src dst e ⟨ρ id,off,none⟩ cap bs he hu (isStr_inv h1) (fun j hj=>by
  rcases hvals with h0|⟨b,o',vals,hbase,hvl,hcell,hone,hrel⟩
  ·omega
  ·simp only[Zc,Addr.mk.injEq]at hbase;obtain⟨rfl,rfl,_⟩:=hbase;have hjv:j<vals.length:=by omega
   have hjn:j<news.length:=by omega
   rw[hcell j _ (Zb hjv)];obtain⟨b',hb1,hb2⟩:=m2 j _ (Zb hjn);rw[Zb hj]at hb1;cases hb1;have:=byteA_inv (hrel j _ (Zb hjn)) hb2;simp only[List.getD,Zb hjv,Option.getD_some]at this;rw[this])
 rw[hbl]at hc;simp only[execOp,hop,hv,Sem.run_bind,hc,Result.andThen_ok,Sem.run_pure]
theorem g_makeMap (hs:Sim C.G w X ρ h){t:TypeId}(hop:o.op= .makeMap t none):Good C o a w X ρ h (.mp h.length) (h++[.map [] 0]):=by
 have he:=ext_new hs (.map #[] 0) (.map [] 0) rfl ⟨#[],rfl,rfl,by simp,by simp⟩;refine good_value (v:= .map (some w.heap.size)) ?_ he ?_
 ·simp[execOp,hop,Instr.makeMap,run_new]
 ·have:=Rp.mp (w:=w.alloc (.map #[] 0)) (X:=tot X (fun i=>if i=h.length then w.heap.size else ρ i) (h++[Blk.map [] 0])) (ρ:=fun i=>if i=h.length then w.heap.size else ρ i) (n:=(h++[Blk.map [] 0]).length) h.length (by simp);simpa using this
theorem g_range (hs:Sim C.G w X ρ h)(hf:RF w (tot X ρ h) ρ h.length a.tmps fr){t:TypeId}{x:Operand}(hop:o.op= .range t x){s:ByteArray}(hx:ev C fr x= .sc (.string s))(ht:isStr C t=true):
 Good C o a w X ρ h (.pt h.length 0) (h++[.iter s 0]):=by
 have e1:=ev_rp hs hf x;rw[hx]at e1;have he:=ext_new hs (.stringIter s 0) (.iter s 0) rfl rfl;refine good_value (v:= .pointer (some ⟨w.heap.size,0,none⟩)) ?_ he (own_pt w h ρ _ _ _ (by simp));simp only[execOp,hop,Instr.range,e1.sc_inv.1,Sem.run_bind,run_underlying (isStr_inv ht),Result.andThen_ok,Sem.run_pure,run_new]
theorem g_next (hs:Sim C.G w X ρ h)(hf:RF w (tot X ρ h) ρ h.length a.tmps fr){x:Operand}(hop:o.op= .next x true){id:Nat}(hx:ev C fr x= .pt id 0){s:ByteArray}{pos:Nat}(hid:h[id]?=some (.iter s pos)):
 (pos<s.size→Good C o a w X ρ h (.tp [.sc (.bool true),.sc (.int .i64 pos),.sc (.int .i32 (Utf8.decode s pos).1)]) (h.set id (.iter s (pos+(Utf8.decode s pos).2))))∧(¬pos<s.size→Good C o a w X ρ h (.tp [.sc (.bool false)]) h):=by
 have e1:=ev_rp hs hf x;rw[hx]at e1;have hv:=e1.pt_inv.1;have b1:w.heap[ρ id]?=some (.stringIter s pos):=hs.blk id _ hid;have hlt:=heap_lt b1;have hget:(getObj (ρ id)).run C.P w= .ok (.stringIter s pos) w:=by simp only[getObj,Sem.run,b1]
 have hset:∀ob:Obj,(setObj (ρ id) ob).run C.P w= .ok () {w with heap:=w.heap.setIfInBounds (ρ id) ob}:=fun ob=>by
  simp only[setObj,Sem.run,b1,Array.set!_eq_setIfInBounds]
 have tup:∀(w':World) (X':Nat→Prop) (us:List Value),(∀u∈us,flat u=true)→Ri w' X' (.tuple us.toArray) (.tp (us.map .sc)):=fun w' X' us hu=>by
  refine .tp _ _ (by simp) fun k y hk=>?_
  simp only[Zs,Ze]at hk;obtain⟨u,hk,rfl⟩:=hk;have:us.toArray.getD k undef=u:=by simp[hk]
  rw[this];exact .sc u (hu u (Zi hk))
 constructor
 ·intro hlt';have hext:Ext C.G w X ρ h {w with heap:=w.heap.setIfInBounds (ρ id) (.stringIter s (pos+(Utf8.decode s pos).2))} ρ (h.set id (.iter s (pos+(Utf8.decode s pos).2))):=by
   refine ext_turn hs id _ _ hid rfl rfl rfl rfl rfl (by simp) (fun cur t' fz hc=>by rw[b1]at hc;cases hc) (fun p hp=>?_) ?_
   ·show(w.heap.setIfInBounds (ρ id) _)[p]?=_;rw[Array.getElem?_setIfInBounds_ne (Ne.symm hp)]
   ·show(w.heap.setIfInBounds (ρ id) _)[ρ id]?=_;simp[hlt]
  refine good_value (v:= .tuple #[.bool true,.int .i64 pos,.int .i32 (Utf8.decode s pos).1]) ?_ hext (.im (tup _ _ [_,_,_] (by simp[flat])));simp only[execOp,hop,hv,Instr.next,Sem.run_bind,hget,Result.andThen_ok,hlt',if_true,hset,Sem.run_pure,goInt]
 ·intro hlt';refine good_same hs (v:= .tuple #[.bool false]) ?_ (.im (tup _ _ [_] (by simp[flat])));simp only[execOp,hop,hv,Instr.next,Sem.run_bind,hget,Result.andThen_ok,hlt',if_false,Sem.run_pure]
theorem g_panic (hs:Sim C.G w X ρ h)(hf:RF w (tot X ρ h) ρ h.length a.tmps fr){x:Operand}(hop:o.op= .panic x){t:TypeId}{v:Value}(hx:ev C fr x= .sc (.iface t v)):Good C o a w X ρ h (.pn (.iface t v)) h:=by
 have e1:=ev_rp hs hf x;rw[hx]at e1;have hv:=e1.sc_inv.1;intro K Q _ hQ;unfold Oper.wp;have hrun:(execOp a.eval o).run C.P w= .halt (.panic (.iface t v)) w:=by
  simp only[execOp,hop,hv,Instr.panic,goPanic];rfl
 rw[hrun];exact hQ _ w ρ rfl (Ext.refl hs)
theorem find_string (s:ByteArray):∀(ms:List MapEntry) (es:List (Value × AV)) (i:Nat),ms.length=es.length→es.all strKey=true→(∀(k:Nat) (e:Value × AV),es[k]?=some e→∃m,ms[k]?=some m∧m.key=e.1)→
 ∃r,Instr.findNow .string (.string s) ms i=some r∧r.map Prod.fst=keyIx s es i
 | [],[],i,_,_,_=>⟨none,rfl,rfl⟩
 | [],_::_,_,hl,_,_=>by simp at hl
 |_::_,[],_,hl,_,_=>by simp at hl
 |
  m::ms,(j,y)::es,i,hl,hk,hm=>by
  simp only[Zn,Zh]at hk;obtain⟨m',hm',hkey⟩:=hm 0 _ rfl;simp only[List.getElem?_cons_zero,Zc]at hm';subst hm';obtain⟨r,h1,h2⟩:=find_string s ms es (i+1) (by simpa using hl) hk.2 (fun k e he=>by simpa using hm (k+1) e (by simpa using he));cases j with
  |
   string a=>
   simp only at hkey;simp only[Instr.findNow,hkey,Instr.sameNow,keyIx,keyB];cases hsa:s==a with
   |true=>exact⟨_,rfl,rfl⟩
   |false=>exact⟨r,h1,h2⟩
  |_=>simp[strKey]at hk
theorem find_val (s:ByteArray):∀(ms:List MapEntry) (i j:Nat) (v:Value),Instr.findNow .string (.string s) ms i=some (some (j,v))→i≤j∧∃m,ms[j-i]?=some m∧m.val=v
 | [],i,j,v,h=>by simp[Instr.findNow]at h
 |
  m::ms,i,j,v,h=>by
  simp only[Instr.findNow]at h;split at h
  ·simp only[Zc,Zg]at h;obtain⟨rfl,rfl⟩:=h;exact⟨Nat.le_refl _,m,by simp,rfl⟩
  ·obtain⟨h1,m',h2,h3⟩:=find_val s ms (i+1) j v h;refine⟨by omega,m',?_,h3⟩;have:j-i=(j-(i+1))+1:=by omega
   rw[this,Ye,h2]
  ·cases h
theorem keyIx_lt {s:ByteArray}:∀{es:List (Value × AV)} {i j:Nat},keyIx s es i=some j→i≤j∧j-i<es.length∧∃y,es[j-i]?=some (.string s,y)
 | [],i,j,h=>by simp[keyIx]at h
 |
  (k,y)::es,i,j,h=>by
  simp only[keyIx]at h;cases hc:keyB s k with
  |
   true=>
   simp only[hc,cond_true,Zc]at h;subst h;cases k with
   |
    string a=>
    have hc':s=a:=(MapKept.bytes_beq s a).1 hc;subst hc';exact⟨Nat.le_refl _,by simp,y,by simp⟩
   |_=>simp[keyB]at hc
  |
   false=>
   simp only[hc,cond_false]at h;obtain⟨h1,h2,y',h3⟩:=keyIx_lt h;refine⟨by omega,by simp;omega,y',?_⟩;have:j-i=(j-(i+1))+1:=by omega
   rw[this,Ye,h3]
theorem g_lookup (hs:Sim C.G w X ρ h)(hf:RF w (tot X ρ h) ρ h.length a.tmps fr){t:TypeId}{m k:Operand}{ok:Bool}(hop:o.op= .lookup t m k ok){id:Nat}{s:ByteArray}(hm:ev C fr m= .mp id)(hk:ev C fr k= .sc (.string s))(ht:isMapS C t=true)
 {es:List (Value × AV)} {clock:Nat} (hid:h[id]?=some (.map es clock)) (hes:es.all strKey=true) {q:AV × Bool} (hq:mapAt C t s es=some q):
 Good C o a w X ρ h (if ok then .tp [q.1,.sc (.bool q.2)]else q.1) h:=by
 obtain⟨kt,et,h1,h2⟩:=isMapS_inv ht;have em:=ev_rp hs hf m;rw[hm]at em;have hv:=em.mp_inv.1;have ek:=ev_rp hs hf k;rw[hk]at ek;have hkv:=ek.sc_inv.1;obtain⟨ms,b1,b2,bnd,b3⟩:=hs.blk id _ hid;have hkeys:∀(k:Nat) (e:Value × AV),es[k]?=some e→∃m,ms.toList[k]?=some m∧m.key=e.1:=fun k e he=>by
  obtain⟨m,q1,q2,_⟩:=b3 k e he;exact⟨m,by simpa using q1,q2⟩
 obtain⟨r,hr,hix⟩:=find_string s ms.toList es 0 (by simpa using b2) hes hkeys;have hfind:(Instr.findKey kt (.string s) ms.toList).run C.P w= .ok r w:=by
  simp only[Instr.findKey,Sem.run_bind,run_underlying h2,Result.andThen_ok,hr,Sem.run_pure]
 have hget:(getObj (ρ id)).run C.P w= .ok (.map ms clock) w:=by
  simp only[getObj,Sem.run,b1]
 have hchk:∀z,(Instr.checkKey z 10000 kt (.string s)).run C.P w= .ok () w:=fun z=>by
  show(Instr.checkKey z (9999+1) kt (.string s)).run C.P w= .ok () w;unfold Instr.checkKey;simp only[Sem.run_bind,run_underlying h2,Result.andThen_ok,Sem.run_pure]
 have key:∀(v:Value) (x:AV) (b:Bool),Rp w (tot X ρ h) ρ h.length v x→(Instr.lookup t (.map (some (ρ id))) (.string s) ok).run C.P w= .ok (if ok then .tuple #[v,.bool b]else v) w→Good C o a w X ρ h (if ok then .tp [x,.sc (.bool b)]else x) h:=by
  intro v x b hx hrun;refine good_same hs (v:=if ok then .tuple #[v,.bool b]else v) ?_ ?_
  ·simp only[execOp,hop,hv,hkv,Sem.run_bind,hrun,Result.andThen_ok,Sem.run_pure]
  ·cases ok
   ·exact hx
   ·refine .tp _ _ rfl fun j y hj=>?_
    match j,hj with
    |0,hj=>cases hj;exact hx
    |1,hj=>cases hj;exact .im (.sc _ rfl)
    |_+2,hj=>simp at hj
 unfold mapAt at hq;split at hq
 ·rename_i i hi;rw[hi]at hix;cases r with
  |none=>cases hix
  |
   some p=>
   obtain⟨p1,p2⟩:=p;simp only[Option.map_some,Zc]at hix;subst hix;obtain⟨_,m0,q1,q2⟩:=find_val s _ 0 _ _ hr;simp only[Ze]at hq;obtain⟨e,he,rfl⟩:=hq;obtain⟨m1,r1,r2,r3,r4,r5⟩:=b3 _ e he;have hm01:m0=m1:=by
    simp only[Nat.sub_zero,Array.getElem?_toList]at q1;rw[r1]at q1;exact(Option.some.inj q1).symm
   subst hm01;rw[q2]at r5;refine key p2 e.2 true r5 ?_;simp only[Instr.lookup,Sem.run_bind,run_underlying h1,Result.andThen_ok,hget,hchk,hfind,Sem.run_pure]
 ·rename_i hn;rw[hn]at hix;cases r with
  |some p=>cases hix
  |
   none=>
   simp only[Ze]at hq;obtain⟨z,hz,rfl⟩:=hq;unfold mapZ at hz;rw[h1]at hz;simp only at hz;split at hz
   ·rename_i inf hinf;simp only[Ze]at hz;obtain⟨zv,hzv,rfl⟩:=hz;have hzr:(zeroValue et).run C.P w= .ok zv w:=by simp[zeroValue,typeInfo,Sem.run_bind,Sem.run,hinf,hzv,Result.andThen]
    refine key zv _ false (ofConst_rp zv) ?_;simp only[Instr.lookup,Sem.run_bind,run_underlying h1,Result.andThen_ok,hget,hchk,hfind,hzr,Sem.run_pure]
   ·cases hz
theorem g_delete (hs:Sim C.G w X ρ h)(hf:RF w (tot X ρ h) ρ h.length a.tmps fr){m k:Operand}{t t':TypeId}(hop:o.op= .call {callee:= .builtin .delete,args:= #[m,k],argTypes:= #[t,t']}){id:Nat}{s:ByteArray}(hm:ev C fr m= .mp id)(hk:ev C fr k= .sc (.string s))(ht:isMapS C t=true)
 {es:List (Value × AV)} {clock:Nat} (hid:h[id]?=some (.map es clock)) (hes:es.all strKey=true):
 (∀i,keyIx s es 0=some i→Good C o a w X ρ h (.tp []) (h.set id (.map (es.eraseIdx i) clock)))∧
 (keyIx s es 0=none→Good C o a w X ρ h (.tp []) (h.set id (.map es clock))):=by
 obtain⟨kt,et,h1,h2⟩:=isMapS_inv ht;have em:=ev_rp hs hf m;rw[hm]at em;have hv:=em.mp_inv.1;have ek:=ev_rp hs hf k;rw[hk]at ek;have hkv:=ek.sc_inv.1;obtain⟨ms,b1,b2,bnd,b3⟩:=hs.blk id _ hid;have hkeys:∀(k:Nat) (e:Value × AV),es[k]?=some e→∃m,ms.toList[k]?=some m∧m.key=e.1:=fun k e he=>by
  obtain⟨m,q1,q2,_⟩:=b3 k e he;exact⟨m,by simpa using q1,q2⟩
 obtain⟨r,hr,hix⟩:=find_string s ms.toList es 0 (by simpa using b2) hes hkeys;have hfind:(Instr.findKey kt (.string s) ms.toList).run C.P w= .ok r w:=by
  simp only[Instr.findKey,Sem.run_bind,run_underlying h2,Result.andThen_ok,hr,Sem.run_pure]
 have hget:(getObj (ρ id)).run C.P w= .ok (.map ms clock) w:=by
  simp only[getObj,Sem.run,b1]
 have hchk:∀z,(Instr.checkKey z 10000 kt (.string s)).run C.P w= .ok () w:=fun z=>by
  show(Instr.checkKey z (9999+1) kt (.string s)).run C.P w= .ok () w;unfold Instr.checkKey;simp only[Sem.run_bind,run_underlying h2,Result.andThen_ok,Sem.run_pure]
 have hlt:=heap_lt b1;have hset:∀ob:Obj,(setObj (ρ id) ob).run C.P w= .ok () {w with heap:=w.heap.setIfInBounds (ρ id) ob}:=fun ob=>by
  simp only[setObj,Sem.run,b1,Array.set!_eq_setIfInBounds]
 have hex:∀{v:Value} {w':World},(Builtin.delete_ #[t,t'] o.type #[a.eval m,a.eval k]).run C.P w= .ok v w'→(execOp a.eval o).run C.P w= .ok (.value v) w':=by
  intro v w' hr;unfold execOp;simp only[hop,resolve,invoke,builtin,Sem.run_bind,Sem.run_pure,Result.andThen_ok,List.map_toArray,List.map_cons,List.map_nil,hr]
 have hext:∀(ob:Obj) (b:Blk),liveB b=true→BlkR w (tot X ρ h) ρ h.length (some ob) b→Ext C.G w X ρ h {w with heap:=w.heap.setIfInBounds (ρ id) ob} ρ (h.set id b):=fun ob b hl hb=>by
  refine ext_turn hs id _ b hid rfl hl rfl rfl rfl (by simp) (fun cur t' fz hc=>by rw[b1]at hc;cases hc) (fun p hp=>?_) ?_
  ·show(w.heap.setIfInBounds (ρ id) ob)[p]?=_;rw[Array.getElem?_setIfInBounds_ne (Ne.symm hp)]
  ·have:({w with heap:=w.heap.setIfInBounds (ρ id) ob}:World).heap[ρ id]?=some ob:=by
    show(w.heap.setIfInBounds (ρ id) ob)[ρ id]?=_;simp[hlt]
   rw[this];exact hb
 constructor
 ·intro i hi;rw[hi]at hix;cases r with
  |none=>cases hix
  |
   some p=>
   obtain⟨p1,p2⟩:=p;simp only[Option.map_some,Zc]at hix;subst hix;obtain⟨_,hil,y0,hy0⟩:=keyIx_lt hi;simp only[Nat.sub_zero]at hil hy0;have hil':p1<ms.size:=by omega
   have hel:(ms.eraseIdxIfInBounds p1).toList=ms.toList.eraseIdx p1:=by
    unfold Array.eraseIdxIfInBounds;rw[dif_pos hil'];exact Array.toList_eraseIdx ..
   refine good_value (v:= .tuple #[]) (hex ?_) (hext (.map (ms.eraseIdxIfInBounds p1) clock) _ rfl ⟨_,rfl,?_,?_,fun k e hke=>?_⟩) (.im (.tp #[] [] rfl (by simp)))
   ·rw[hv,hkv];simp[Builtin.delete_,run_underlying h1,Sem.run_bind,hget,hchk,hfind,hset]
   ·rw[←Array.length_toList,hel,List.length_eraseIdx_of_lt (by simpa using hil'),List.length_eraseIdx_of_lt hil];simp[b2]
   ·rw[hel];exact((List.eraseIdx_sublist ms.toList p1).map _).nodup bnd
   ·rw[←Array.getElem?_toList,hel,List.getElem?_eraseIdx];rw[List.getElem?_eraseIdx]at hke;split at hke
    ·rename_i hlt';rw[if_pos hlt'];obtain⟨m1,r1,r2,r3,r4,r5⟩:=b3 k e hke;exact⟨m1,by simpa using r1,r2,r3,r4,r5⟩
    ·rename_i hlt';rw[if_neg hlt'];obtain⟨m1,r1,r2,r3,r4,r5⟩:=b3 (k+1) e hke;exact⟨m1,by simpa using r1,r2,r3,r4,r5⟩
 ·intro hn;rw[hn]at hix;cases r with
  |some p=>cases hix
  |
   none=>
   refine good_value (v:= .tuple #[]) (hex ?_) (hext (.map ms clock) _ rfl ⟨_,rfl,b2,bnd,b3⟩) (.im (.tp #[] [] rfl (by simp)));rw[hv,hkv];simp[Builtin.delete_,run_underlying h1,Sem.run_bind,hget,hchk,hfind,hset]
theorem g_mapUpdate (hs:Sim C.G w X ρ h)(hf:RF w (tot X ρ h) ρ h.length a.tmps fr){t:TypeId}{m k x:Operand}(hop:o.op= .mapUpdate t m k x){id:Nat}{s:ByteArray}(hm:ev C fr m= .mp id)(hk:ev C fr k= .sc (.string s))(ht:isMapS C t=true)
 {es:List (Value × AV)} {clock:Nat} (hid:h[id]?=some (.map es clock)) (hes:es.all strKey=true):
 (∀i,keyIx s es 0=some i→Good C o a w X ρ h .un (h.set id (.map (es.set i (.string s,ev C fr x)) clock)))∧
 (keyIx s es 0=none→Good C o a w X ρ h .un (h.set id (.map (es++[(.string s,ev C fr x)]) (clock+1)))):=by
 obtain⟨kt,et,h1,h2⟩:=isMapS_inv ht;have em:=ev_rp hs hf m;rw[hm]at em;have hv:=em.mp_inv.1;have ek:=ev_rp hs hf k;rw[hk]at ek;have hkv:=ek.sc_inv.1;have ex:=ev_rp hs hf x;obtain⟨ms,b1,b2,bnd,b3⟩:=hs.blk id _ hid;have hkeys:∀(k:Nat) (e:Value × AV),es[k]?=some e→∃m,ms.toList[k]?=some m∧m.key=e.1:=fun k e he=>by
  obtain⟨m,q1,q2,_⟩:=b3 k e he;exact⟨m,by simpa using q1,q2⟩
 obtain⟨r,hr,hix⟩:=find_string s ms.toList es 0 (by simpa using b2) hes hkeys;have hfind:(Instr.findKey kt (.string s) ms.toList).run C.P w= .ok r w:=by
  simp only[Instr.findKey,Sem.run_bind,run_underlying h2,Result.andThen_ok,hr,Sem.run_pure]
 have hget:(getObj (ρ id)).run C.P w= .ok (.map ms clock) w:=by
  simp only[getObj,Sem.run,b1]
 have hchk:(Instr.checkKey false 10000 kt (.string s)).run C.P w= .ok () w:=by
  show(Instr.checkKey false (9999+1) kt (.string s)).run C.P w= .ok () w;unfold Instr.checkKey;simp only[Sem.run_bind,run_underlying h2,Result.andThen_ok,Sem.run_pure]
 have hlt:=heap_lt b1;have hset:∀ob:Obj,(setObj (ρ id) ob).run C.P w= .ok () {w with heap:=w.heap.setIfInBounds (ρ id) ob}:=fun ob=>by
  simp only[setObj,Sem.run,b1,Array.set!_eq_setIfInBounds]
 have hext:∀(ob:Obj) (b:Blk),liveB b=true→BlkR w (tot X ρ h) ρ h.length (some ob) b→Ext C.G w X ρ h {w with heap:=w.heap.setIfInBounds (ρ id) ob} ρ (h.set id b):=fun ob b hl hb=>by
  refine ext_turn hs id _ b hid rfl hl rfl rfl rfl (by simp) (fun cur t' fz hc=>by rw[b1]at hc;cases hc) (fun p hp=>?_) ?_
  ·show(w.heap.setIfInBounds (ρ id) ob)[p]?=_;rw[Array.getElem?_setIfInBounds_ne (Ne.symm hp)]
  ·have:({w with heap:=w.heap.setIfInBounds (ρ id) ob}:World).heap[ρ id]?=some ob:=by
    show(w.heap.setIfInBounds (ρ id) ob)[ρ id]?=_;simp[hlt]
   rw[this];exact hb
 constructor
 ·intro i hi;rw[hi]at hix;cases r with
  |none=>cases hix
  |
   some p=>
   obtain⟨p1,p2⟩:=p;simp only[Option.map_some,Zc]at hix;subst hix;obtain⟨_,hil,y0,hy0⟩:=keyIx_lt hi;simp only[Nat.sub_zero]at hil hy0;obtain⟨m0,q1,q2,q3,q4,q5⟩:=b3 p1 _ hy0;have hsame:(Instr.keyThatStays (((ms[p1]?).map (·.key)).getD (.string s)) (.string s)).run C.P w= .ok (.string s) w:=by
    have hsb:Instr.sameBits 10000 (.string s) (.string s)=true:=by
     unfold Instr.sameBits;exact(MapKept.bytes_beq s s).2 rfl
    simp only[q1,Option.map_some,Option.getD_some,q2,Instr.keyThatStays,hsb,if_true,Sem.run_pure]
   refine good_skip ?_ (hext (.map (ms.modify p1 fun e=>{e with key:= .string s,val:=a.eval x}) clock) _ rfl ⟨_,rfl,by simpa using b2,?_,fun k e hke=>?_⟩)
   ·simp only[execOp,hop,Instr.mapUpdate,hv,hkv,Sem.run_bind,run_underlying h1,Result.andThen_ok,hget,hchk,hfind,hsame,hset,Sem.run_pure]
   ·have:(ms.modify p1 fun e=>{e with key:= .string s,val:=a.eval x}).toList.map (·.born)=ms.toList.map (·.born):=by
     apply List.ext_getElem?;intro j;simp only[Zs,Array.getElem?_toList,Array.getElem?_modify];split
     ·cases ms[j]?<;>rfl
     ·rfl
    rw[this];exact bnd
   ·by_cases hkp:p1=k
    ·subst hkp;rw[Zj hil]at hke;cases hke;exact⟨{m0 with key:= .string s,val:=a.eval x},by simp[Array.getElem?_modify,q1],rfl,rfl,q4,ex⟩
    ·rw[Zq hkp]at hke;obtain⟨m1,r1,r2,r3,r4,r5⟩:=b3 k e hke;exact⟨m1,by simp[Array.getElem?_modify,hkp,r1],r2,r3,r4,r5⟩
 ·intro hn;rw[hn]at hix;cases r with
  |some p=>cases hix
  |
   none=>
   refine good_skip ?_ (hext (.map (ms.push {key:= .string s,val:=a.eval x,born:=clock}) (clock+1)) _ rfl ⟨_,rfl,by simp[b2],?_,fun k e hke=>?_⟩)
   ·simp only[execOp,hop,Instr.mapUpdate,hv,hkv,Sem.run_bind,run_underlying h1,Result.andThen_ok,hget,hchk,hfind,hset,Sem.run_pure]
   ·simp only[Array.toList_push,List.map_append,List.map_cons,List.map_nil];refine List.nodup_append.2 ⟨bnd,by simp,?_⟩;intro q hq q' hq' e;simp only[List.mem_singleton]at hq';simp only[Yh]at hq;obtain⟨m1,hm1,rfl⟩:=hq;obtain⟨j,hj,rfl⟩:=List.getElem_of_mem hm1;have hj':j<es.length:=by simp at hj;omega
    obtain⟨m2,r1,_,_,r4,_⟩:=b3 j _ (Zb hj');have:ms.toList[j]=m2:=by
     have:ms.toList[j]?=some m2:=by simpa using r1
     rw[Zb hj]at this;simpa using this
    rw[this]at e;omega
   ·by_cases hkl:k<es.length
    ·rw[Zd hkl]at hke;obtain⟨m1,r1,r2,r3,r4,r5⟩:=b3 k e hke;have hkm:k<ms.size:=by omega
     exact⟨m1,by simp[Array.getElem?_push,Nat.ne_of_lt hkm,r1],r2,r3,by omega,r5⟩
    ·have hkk:k=es.length:=by
      have:k< (es++[(Value.string s,ev C fr x)]).length:=(Za.1 hke).1;simp at this;omega
     subst hkk;simp at hke;subst hke;refine⟨{key:= .string s,val:=a.eval x,born:=clock},by rw[←b2];simp,rfl,rfl,by simp,ex⟩
theorem g_mv1 (hf:RF w (tot X ρ h) ρ h.length a.tmps fr){t:TypeId}{parts:Array (Nat × Operand)}(hop:o.op= .buildSlice t 1 parts){i:Ti}(hi:tiOf C.P t=some i){ag:Bool}{eb:Nat}{ez:List Value}(hk:i.kd= .slice 1 ag eb ez)(hez:ez.length=1)
 {q:Nat} (hps:parts.toList=[(0,.tmp q)]) (hlt:q<fr.length) {h1:Hp} (he:Ext C.G w X ρ h w ρ h1) {y:AV} (hri:Ri w (tot X ρ h1) (a.tmps.getD q undef) y) (hcl:cls y=some [y]):Good C o a w X ρ h (.sl h1.length 1 0 1 false) (h1++[.row [y]]):=by
 have hf':RF w (tot X ρ h1) ρ h1.length a.tmps (fr.set q y):=by
  refine⟨by rw[List.length_set];exact hf.1,fun i z hz2=>?_⟩;by_cases e:q=i
  ·subst e;rw[Zj hlt]at hz2;cases hz2;exact .im hri
  ·rw[Zq e]at hz2;exact(he.rf hf).2 i z hz2
 have hfl:fillA (fun k=>some (k*1,1)) ((List.range 1).flatMap fun _=>ez.map .sc) (parts.toList.map fun p=>(p.1,ev C (fr.set q y) p.2))=some [y]:=by
  have h2:ev C (fr.set q y) (.tmp q)=y:=by
   show(fr.set q y).getD q .ud=y;rw[List.getD,Zj hlt];rfl
  obtain⟨u,rfl⟩:∃u,ez=[u]:=by
   match ez,hez with
   | [u],_=>exact⟨u,rfl⟩
  rw[hps];simp[fillA,h2,hcl,splice]
 have G:=g_buildSlice he.sim hf' hop hi hk (by decide) hfl;intro K Q hK hQ;exact G K Q (fun v w' ρ' e2 hv=>hK v w' ρ' (he.trans e2) hv) fun u w' ρ' e _=>by cases e
theorem g_mv (hs:Sim C.G w X ρ h)(hf:RF w (tot X ρ h) ρ h.length a.tmps fr)(hT:∀t i,C.T t=some i→tiOf C.P t=some i){t:TypeId}{len:Nat}{parts:Array (Nat × Operand)}(hop:o.op= .buildSlice t len parts){r:AV}{h':Hp}
 (hm:mvB C (ev C fr) h t len parts.toList=some (r,h')):Good C o a w X ρ h r h':=by
 unfold mvB at hm;split at hm
 case h_2=>cases hm
 rename_i m hmv;split at hm
 case isFalse=>cases hm
 rename_i hlen;subst hlen;unfold mvA at hm;split at hm
 case h_2=>cases hm
 rename_i q hps;have hqt:∀y,ev C fr (.tmp q)=y→y≠ .ud→fr[q]?=some y:=fun y hy hd=>by
  have h2:fr.getD q .ud=y:=hy;rw[List.getD]at h2;cases hq:fr[q]? with
  |none=>rw[hq]at h2;exact absurd h2.symm hd
  |some z=>rw[hq]at h2;exact congrArg some h2
 split at hm
 case h_3=>cases hm
 ·rename_i id s off len k sz0 ag zero sz eag eb ez hx hi;split at hm
  case isFalse=>cases hm
  rename_i hc;obtain⟨rfl,hez⟩:=hc;split at hm
  case h_2=>cases hm
  rename_i h1 y hz hy;simp only[Zc,Zg]at hm;obtain⟨rfl,rfl⟩:=hm;have hq:=hqt _ hx (by simp);obtain⟨he,hsn⟩:=freeze_sound hs hz;have hri:=hsn 8 _ _ _ (hf.2 q _ hq) hy;have hcl:cls y=some [y]:=by
   unfold snap at hy;split at hy
   ·split at hy
    ·simp only[Ze]at hy;obtain⟨_,_,rfl⟩:=hy;rfl
    ·cases hy
   ·cases hy
  exact g_mv1 hf hop (hT t _ hi) rfl hez hps (Za.1 hq).1 he hri hcl
 ·rename_i sz0 ag zero sz eag eb ez hx hi;split at hm
  case isFalse=>cases hm
  rename_i hc;obtain⟨rfl,hez⟩:=hc;simp only[Zc,Zg]at hm;obtain⟨rfl,rfl⟩:=hm;have hq:=hqt _ hx (by simp);have hv:=(hf.2 q _ hq).sc_inv.1;exact g_mv1 hf hop (hT t _ hi) rfl hez hps (Za.1 hq).1 (Ext.refl hs) (by rw[hv];exact .le none 0 m false (Nat.zero_le _) (by simp)) rfl
theorem aopW_sound (hs:Sim C.G w X ρ h)(hf:RF w (tot X ρ h) ρ h.length a.tmps fr)(hT:∀t i,C.T t=some i→tiOf C.P t=some i){call:Cal}(hcall:CallOK C call)
 {r:AV} {h':Hp} (ho:aopW C call (ev C fr) h o=some (r,h')):Good C o a w X ρ h r h':=by
 have scal:∀{r:AV} {h':Hp},((scalarOp C (ev C fr) o).map fun y=>(y,h))=some (r,h')→Good C o a w X ρ h r h':=by
  intro r h' hh;simp only[Ze,Zg]at hh;obtain⟨y,hy,rfl,rfl⟩:=hh;exact scalar_good hs hf hy
 unfold aopW at ho;split at ho
 ·
  rename_i x hop;simp only[Zc,Zg]at ho;obtain⟨rfl,rfl⟩:=ho;exact g_move hs hf (.inl hop)
 ·rename_i x hop;simp only[Zc,Zg]at ho;obtain⟨rfl,rfl⟩:=ho;exact g_move hs hf (.inr hop)
 ·rename_i c x y hop;split at ho
  ·rename_i t hc;simp only[Zc,Zg]at ho;obtain⟨rfl,rfl⟩:=ho;exact g_pick hs hf hop hc
  ·cases ho
 ·rename_i t hop;split at ho
  ·rename_i i hi;simp only[Zc,Zg]at ho;obtain⟨rfl,rfl⟩:=ho;exact g_alloc hs hop (hT t i hi)
  ·cases ho
 ·rename_i t x hop;split at ho
  ·rename_i i cs hi hc;split at ho
   ·simp only[Zc,Zg]at ho;obtain⟨rfl,rfl⟩:=ho;exact g_box hs hf hop hc
   ·cases ho
  ·cases ho
 ·rename_i t parts hop;split at ho
  ·rename_i sz ag zero fs hi;simp only[Ze,Zg]at ho;obtain⟨cs,hc,rfl,rfl⟩:=ho;exact g_build hs hf hop (hT t _ hi) (.inl ⟨fs,rfl,rfl⟩) hc
  ·rename_i sz ag zero n esz eag hi;simp only[Ze,Zg]at ho;obtain⟨cs,hc,rfl,rfl⟩:=ho;exact g_build hs hf hop (hT t _ hi) (.inr ⟨n,esz,eag,rfl,rfl⟩) hc
  ·cases ho
 ·rename_i t len parts hop;split at ho
  ·rename_i r0 hmv;simp only[Zc]at ho;subst ho;exact g_mv hs hf hT hop hmv
  split at ho
  ·rename_i sz ag zero esz eag eb ez hi;split at ho
   ·rename_i hlim;simp only[Ze,Zg]at ho;obtain⟨cs,hc,rfl,rfl⟩:=ho;exact g_buildSlice hs hf hop (hT t _ hi) rfl hlim hc
   ·cases ho
  ·cases ho
 ·rename_i t x hop;split at ho
  ·rename_i i id off hi hx;split at ho
   ·rename_i cs hid;simp only[Ze,Zg]at ho;obtain⟨y,hp,rfl,rfl⟩:=ho;exact g_load hs hf hop (hT t i hi) hx hid hp
   ·cases ho
  ·rename_i i row j hi hx;simp only[Ze,Zg]at ho;obtain⟨y,hp,rfl,rfl⟩:=ho;exact g_loadR hs hf hop (hT t i hi) hx hp
  ·cases ho
 ·rename_i t x y hop;split at ho
  ·rename_i i id off vs hi hx hv;split at ho
   ·rename_i cs hid;split at ho
    ·rename_i hc;simp only[Zc,Zg]at ho;obtain⟨rfl,rfl⟩:=ho;exact g_store hs hf hop (hT t i hi) hx hid hv hc.1 hc.2
    ·cases ho
   ·rename_i cs hid;split at ho
    ·rename_i hc;simp only[Zc,Zg]at ho;obtain⟨rfl,rfl⟩:=ho;exact g_storeR hs hf hop (hT t i hi) hx hid hv hc.1 hc.2
    ·cases ho
   ·cases ho
  ·cases ho
 ·rename_i x hop;split at ho
  ·rename_i id off hx;simp only[Zc,Zg]at ho;obtain⟨rfl,rfl⟩:=ho;have:=g_nil hs hf hop (.inl ⟨_,_,hx⟩)
   rwa [hx]at this
  ·rename_i row j hx;simp only[Zc,Zg]at ho;obtain⟨rfl,rfl⟩:=ho;have:=g_nil hs hf hop (.inr (.inl ⟨_,_,hx⟩))
   rwa [hx]at this
  ·rename_i f cs hx;simp only[Zc,Zg]at ho;obtain⟨rfl,rfl⟩:=ho;have:=g_nil hs hf hop (.inr (.inr ⟨_,_,hx⟩))
   rwa [hx]at this
  ·cases ho
 ·rename_i t x f hop;split at ho
  ·rename_i sz ag zero fs hi;split at ho
   ·rename_i of fsz fag id off hfd hx;split at ho
    ·cases ho
    ·rename_i hsz;simp only[Zc,Zg]at ho;obtain⟨rfl,rfl⟩:=ho;exact(g_field hs hf hop (hT t _ hi) rfl hfd hsz).1 id off hx
   ·rename_i of fsz fag row j hfd hx;split at ho
    ·cases ho
    ·rename_i hsz;simp only[Zc,Zg]at ho;obtain⟨rfl,rfl⟩:=ho;exact(g_field hs hf hop (hT t _ hi) rfl hfd hsz).2 row j hx
   ·cases ho
  ·cases ho
 ·rename_i t x ix hop;split at ho
  ·rename_i sz ag zero esz eag eb ez n hi hn;split at ho
   ·rename_i id s off len kk hx;split at ho
    ·rename_i hc;simp only[Zc,Zg]at ho;obtain⟨rfl,rfl⟩:=ho;obtain⟨rfl,hlt⟩:=hc;exact(g_indexS hs hf hop (hT t _ hi) rfl hn).1 id off len kk hx hlt
    ·cases ho
   ·rename_i s rows z hx;split at ho
    ·rename_i hc;simp only[Ze,Zg]at ho;obtain⟨row,hrow,rfl,rfl⟩:=ho;subst hc;exact(g_indexS hs hf hop (hT t _ hi) rfl hn).2 rows z row hx hrow
    ·cases ho
   ·cases ho
  ·rename_i sz ag zero m esz eag n hi hn;split at ho
   ·rename_i id off hx;split at ho
    ·rename_i hlt;simp only[Zc,Zg]at ho;obtain⟨rfl,rfl⟩:=ho;exact(g_indexA hs hf hop (hT t _ hi) rfl hn hlt).1 id off hx
    ·cases ho
   ·rename_i row j hx;split at ho
    ·rename_i hlt;simp only[Zc,Zg]at ho;obtain⟨rfl,rfl⟩:=ho;exact(g_indexA hs hf hop (hT t _ hi) rfl hn hlt).2 row j hx
    ·cases ho
   ·cases ho
  ·cases ho
 ·rename_i t x f hop;split at ho
  ·rename_i sz ag zero fs cs hi hx;split at ho
   ·rename_i off fsz fag hfd;simp only[Ze,Zg]at ho;obtain⟨y,hp,rfl,rfl⟩:=ho;exact g_fieldV hs hf hop (hT t _ hi) rfl hfd hx hp
   ·cases ho
  ·cases ho
 ·rename_i t x ix hop;split at ho
  ·rename_i sz ag zero n esz eag cs hi hx;split at ho
   ·rename_i k hn;split at ho
    ·rename_i hlt;simp only[Ze,Zg]at ho;obtain⟨y,hp,rfl,rfl⟩:=ho;exact g_indexV hs hf hop (hT t _ hi) rfl hn hlt hx hp
    ·cases ho
   ·cases ho
  ·exact scal ho
 ·rename_i x i hop;split at ho
  ·rename_i vs hx;simp only[Ze,Zg]at ho;obtain⟨y,hy,rfl,rfl⟩:=ho;exact g_extract hs hf hop hx hy
  ·cases ho
 ·rename_i f first caps hop
  split at ho
  ·rename_i h0;simp only[Zc,Zg]at ho;obtain⟨rfl,rfl⟩:=ho;exact g_makeFunc hs hf hop h0
  ·simp only[Zc,Zg]at ho;obtain⟨rfl,rfl⟩:=ho;exact good_same hs (v:= .func (.func f) (first.map a.eval) (caps.map a.eval)) (by simp[execOp,hop,Instr.makeFunc]) (.im (.oc _ rfl))
 ·rename_i t l c hop;split at ho
  ·rename_i sz ag zero esz eag eb ez n m hi hn hm;split at ho
   ·rename_i hc;obtain⟨rfl,hmax,hby⟩:=hc;simp only[Zc,Zg]at ho;obtain⟨rfl,rfl⟩:=ho;exact g_makeSlice hs hf hop (hT t _ hi) rfl hn hm hmax hby
   ·cases ho
  ·cases ho
 ·rename_i t x lo hi mx hop;split at ho
  ·exact scal ho
  ·split at ho
   ·rename_i sz ag zero esz eag eb ez hti;split at ho
    ·rename_i hz;simp only[Ze,Zg]at ho;obtain⟨y,hy,rfl,rfl⟩:=ho;exact g_slice hs hf hop (hT t _ hti) rfl hz hy
    ·cases ho
   ·cases ho
 ·rename_i op t x y t' hop;split at ho
  ·rename_i hc;have hg:=g_nilcmp hs hf hop hc;split at ho
   ·simp only[Zc,Zg]at ho;obtain⟨rfl,rfl⟩:=ho;exact hg.1 rfl
   ·simp only[Zc,Zg]at ho;obtain⟨rfl,rfl⟩:=ho;exact hg.2 rfl
   ·cases ho
  ·exact scal ho
 ·rename_i src dst x hop;split at ho
  ·rename_i s hx;split at ho
   ·rename_i hc;simp only[Zh]at hc;split at ho
    ·rename_i hmax;simp only[Zc,Zg]at ho;obtain⟨rfl,rfl⟩:=ho;exact g_toBytes hs hf hop hx hc.1 hc.2 hmax
    ·cases ho
   ·exact scal ho
  ·rename_i id off len k hx;split at ho
   ·rename_i hc;simp only[Zh]at hc;split at ho
    ·rename_i m news hn;simp only[Ze,Zg]at ho;obtain⟨bs,hb,rfl,rfl⟩:=ho;exact g_toString hs hf hop hx hc.1 hc.2 hn hb
    ·cases ho
   ·cases ho
  ·exact scal ho
 ·rename_i t hop;split at ho
  ·simp only[Zc,Zg]at ho;obtain⟨rfl,rfl⟩:=ho;exact g_makeMap hs hop
  ·cases ho
 ·rename_i t m k x hop;split at ho
  ·rename_i id s hm hk;split at ho
   ·rename_i ht;split at ho
    ·rename_i es clock hid;split at ho
     ·rename_i hes;have hg:=g_mapUpdate hs hf hop hm hk ht hid hes;split at ho
      ·rename_i i hi;simp only[Zc,Zg]at ho;obtain⟨rfl,rfl⟩:=ho;exact hg.1 i hi
      ·rename_i hi;simp only[Zc,Zg]at ho;obtain⟨rfl,rfl⟩:=ho;exact hg.2 hi
     ·cases ho
    ·cases ho
   ·cases ho
  ·cases ho
 ·rename_i t m k ok hop;split at ho
  ·rename_i id s hm hk;split at ho
   ·rename_i ht;split at ho
    ·rename_i es clock hid;split at ho
     ·rename_i hes;simp only[Ze,Zg]at ho;obtain⟨q,hq,rfl,rfl⟩:=ho;exact g_lookup hs hf hop hm hk ht hid hes hq
     ·cases ho
    ·cases ho
   ·cases ho
  ·exact scal ho
 ·rename_i t x hop;split at ho
  ·rename_i s hx;split at ho
   ·rename_i ht;simp only[Zc,Zg]at ho;obtain⟨rfl,rfl⟩:=ho;exact g_range hs hf hop hx ht
   ·cases ho
  ·cases ho
 ·rename_i x hop;split at ho
  ·rename_i id hx;split at ho
   ·rename_i s pos hid;obtain⟨g1,g2⟩:=g_next hs hf hop hx hid;split at ho
    ·rename_i hp;simp only[Zc,Zg]at ho;obtain⟨rfl,rfl⟩:=ho;exact g1 hp
    ·rename_i hp;simp only[Zc,Zg]at ho;obtain⟨rfl,rfl⟩:=ho;exact g2 hp
   ·cases ho
  ·cases ho
 ·rename_i x hop;split at ho
  ·rename_i t v hx;simp only[Zc,Zg]at ho;obtain⟨rfl,rfl⟩:=ho;exact g_panic hs hf hop hx
  ·cases ho
 ·rename_i f args tys hop;split at ho
  ·rename_i g caps hfn;split at ho
   ·exact scal ho
   ·exact g_call hs hf hcall hop hfn ho
  ·cases ho
 ·rename_i args tys hop;split at ho
  ·rename_i s x t t' hargs htys;split at ho
   ·rename_i ht;subst ht;rw[list2 hargs,list2 htys]at hop;exact g_append hs hf hop hT ho
   ·rw[list2 hargs,list2 htys]at hop;exact g_zeros hs hf hop hT ho
  ·cases ho
 ·rename_i args tys hop;split at ho
  ·rename_i s x t t' hargs htys;split at ho
   ·rename_i ht;subst ht;rw[list2 hargs,list2 htys]at hop;exact g_copy hs hf hop hT ho
   ·cases ho
  ·cases ho
 ·rename_i args tys hop;split at ho
  ·rename_i x t hargs htys;rw[list1 hargs,list1 htys]at hop;exact g_clear hs hf hop hT ho
  ·cases ho
 ·rename_i args tys hop;split at ho
  ·rename_i m k t t' hargs htys;rw[list2 hargs,list2 htys]at hop;split at ho
   ·rename_i id s hm hk;split at ho
    ·rename_i ht;split at ho
     ·rename_i es clock hid;split at ho
      ·rename_i hes;have hg:=g_delete hs hf hop hm hk ht hid hes;split at ho
       ·rename_i i hi;simp only[Zc,Zg]at ho;obtain⟨rfl,rfl⟩:=ho;exact hg.1 i hi
       ·rename_i hi;simp only[Zc,Zg]at ho;obtain⟨rfl,rfl⟩:=ho;exact hg.2 hi
      ·cases ho
     ·cases ho
    ·cases ho
   ·cases ho
  ·cases ho
 ·rename_i args tys hop;split at ho
  ·rename_i x t hargs htys;split at ho
   ·rename_i n sz ag zero esz eag eb ez hn hi;simp only[Zc,Zg]at ho;obtain⟨rfl,rfl⟩:=ho;exact g_len hs hf hop hargs htys (hT t _ hi) rfl hn
   ·exact scal ho
  ·cases ho
 ·exact scal ho
theorem coldA_sound (hs:Sim C.G w X ρ h)(hf:RF w (tot X ρ h) ρ h.length a.tmps fr)(hT:∀t i,C.T t=some i→tiOf C.P t=some i){r:AV}{h':Hp}(ho:coldA C (ev C fr) h o=some (r,h')):Good C o a w X ρ h r h':=by
 unfold coldA at ho;split at ho
 ·rename_i t len parts hop;split at ho
  ·rename_i sz ag zero esz eag eb ez hi;split at ho
   ·rename_i hlim;split at ho
    ·rename_i cs hc;split at ho
     ·rename_i hall;simp only[Zc,Zg]at ho;obtain⟨rfl,rfl⟩:=ho;exact c_buildSlice hs hf hop (hT t _ hi) rfl hlim hc hall
     ·cases ho
    ·cases ho
   ·cases ho
  ·cases ho
 ·rename_i t l c hop;split at ho
  ·rename_i hi hn hm;split at ho
   ·rename_i hc;simp only[Zc,Zg]at ho;obtain⟨rfl,rfl⟩:=ho;obtain⟨rfl,hmax,hby⟩:=hc;exact c_makeSlice hs hf hop (hT t _ hi) rfl hn hm hmax hby
   ·cases ho
  ·cases ho
 ·rename_i t x lo hi hop;split at ho
  ·rename_i zero agg0 sz ag by' ez id s off len hti hx;split at ho
   ·rename_i l m cs hl hm hr;split at ho
    ·rename_i hc;simp only[Zc,Zg]at ho;obtain⟨rfl,rfl⟩:=ho;obtain⟨rfl,hlm,hfit,hlt⟩:=hc;exact c_slice hs hf hop (hT t _ hti) rfl hx hl hm hr hlm hfit hlt
    ·cases ho
   ·cases ho
  ·cases ho
 ·rename_i args tys hop;split at ho
  ·rename_i s x t t' hl ht;split at ho
   ·rename_i htt;subst htt;have hop':=hop;rw[list2 hl,list2 ht]at hop';split at ho
    ·rename_i hi;split at ho
     ·rename_i hsz;split at ho
      ·rename_i m news s0 z hn hq;have key:=c_append hs hf hop' hT hi hsz hn hq;split at ho
       ·rename_i hm;simp only[Zc,Zg]at ho;obtain⟨rfl,rfl⟩:=ho;exact key.1 hm
       ·rename_i hm;split at ho
        ·rename_i hc;simp only[Zc,Zg]at ho;obtain⟨rfl,rfl⟩:=ho;exact key.2 (by omega) hc.1 hc.2.1 hc.2.2.1 hc.2.2.2
        ·cases ho
      ·cases ho
     ·cases ho
    ·cases ho
   ·cases ho
  ·cases ho
 ·cases ho
theorem aop_sound (hs:Sim C.G w X ρ h)(hf:RF w (tot X ρ h) ρ h.length a.tmps fr)(hT:∀t i,C.T t=some i→tiOf C.P t=some i){call:Cal}(hcall:CallOK C call)
 {r:AV} {h':Hp} (ho:aop C call (ev C fr) h o=some (r,h')):Good C o a w X ρ h r h':=by
 unfold aop at ho;split at ho
 ·exact coldA_sound hs hf hT ho
 ·exact aopW_sound hs hf hT hcall ho
end ops
end Go.Ae
