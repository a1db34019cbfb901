/- Part of the proof. -/
import Derived.Test.YtmfohnojaginjaaGreatDoorP2
import Derived.IntWalk
set_option linter.all false
namespace Go.Ae
open Go
def dR :Nat->Prop:=λ_=>False
def quiet_step{w w':World}{ρ:Nat->Nat}{h:Hp}(dq:Step w dR w' dR):Step w (own ρ h) w' (own ρ h):=
 ⟨dq.os,dq.tape,dq.output,dq.size,λb hb _=>dq.keep b hb (λh=>h),dq.row,λ_ _ hh=>hh,dq.drew⟩
def lF{G:Nat->Option (List Value)}{w w':World}{X:Nat->Prop}{ρ:Nat->Nat}{h:Hp}(hs:gf G w X ρ h)(dq:Step w dR w' dR):Ext G w X ρ h w' ρ h:=by
 have hk:∀b o,w.heap[b]?=some o->w'.heap[b]?=some o:=λb o hb=>(dq.keep b (eP hb) (λh=>h)).trans hb
 have dM:Step w (own ρ h) w' (own ρ h):=quiet_step dq;refine⟨⟨λb hb=>Yo (hs.GA b hb) dq.size,λg row hg=>?_,hs.inj,hs.out,hs.jI,?_⟩,λ_ _=>rfl,Xc _,dM⟩
 .obtain⟨h1,c,t,fz,h2,h3⟩:=hs.s8 g row hg;exact⟨h1,c,t,fz,hk g _ h2,h3⟩
 .intro i b hi;by_cases hd:b= .dead
  .subst hd;trivial
  .have hb:=hs.y6 i b hi;rw[dq.keep _ (hb.lt hd) (λh=>h)];exact hb.step dM (λ_ _=>rfl) (Xc _)
def AJ{w:World}{X:Nat->Prop}{ρ:Nat->Nat}{n:Nat}{v:Value}{x:AV}(h:Rp w X ρ n v x)(hc:dk x=true):Ri w X v x:=by
 have one:∀{v:Value}{x:AV},Rp w X ρ n v x->(match x with| .sc _| .ls .. | .rp .. =>true|_=>false)=true->Ri w X v x:=by
  intro v x h hx;cases h with
  |im hi=>exact hi
  |_=>simp at hx
 unfold dk at hc;split at hc
 .exact one h rfl
 .exact one h rfl
 .exact one h rfl
 .rename_i xs;obtain⟨us,rfl,h1,h2,h3⟩:=h.yC;rw[Yt]at hc;exact .ag us xs h1 h2 λk x hk=>one (h3 k x hk) (hc x (Zi hk))
 .rename_i xs;obtain⟨us,rfl,h1,h3⟩:=h.wq;rw[Yt]at hc;exact .fn _ us xs h1 λk x hk=>one (h3 k x hk) (hc x (Zi hk))
 .cases hc
def RC(w:World)(X:Nat->Prop)(ρ:Nat->Nat)(n:Nat)(us:Array Value)(xs:List AV):Prop:=
 us.size=xs.length/\(∀k,k<us.size->(us.getD k undef).oneCell'=true)/\∀(k:Nat)(x:AV),xs[k]?=some x->Rp w X ρ n (us.getD k undef) x
def vM(off:Nat):∀(vs:List Value)(s:Nat)(cells:Array Value)(k:Nat),off+s+vs.length<=cells.size->
 ((vs.zipIdx s).foldl (λcs p=>cs.setIfInBounds (off+p.2) p.1) cells)[k]?=if off+s<=k/\k<off+s+vs.length then vs[k-(off+s)]? else cells[k]?
 | [],s,cells,k,_=>by simp;omega
 |
  v::vs,s,cells,k,da=>by
  simp only[Xe]at da;simp only[List.zipIdx_cons,List.foldl_cons];rw[vM off vs (s+1) _ k (by simp;omega)];by_cases h1:off+s=k
  .subst h1;rw[cm (by omega),cq (by simp)];have:off+s<cells.size:=by omega
   simp[this]
  .by_cases h2:off+(s+1)<=k/\k<off+(s+1)+vs.length
   .rw[cq h2,cq (by simp only[Xe];omega)];have:k-(off+s)=(k-(off+(s+1)))+1:=by omega
    rw[this,Yd]
   .rw[cm h2,cm (by simp only[Xe];omega),Array.getElem?_setIfInBounds_ne h1]
def oQ(off:Nat):∀(vs:List Value)(s:Nat)(cells:Array Value),((vs.zipIdx s).foldl (λcs p=>cs.setIfInBounds (off+p.2) p.1) cells).size=cells.size
 | [],s,cells=>rfl
 |v::vs,s,cells=>by simp only[List.zipIdx_cons,List.foldl_cons];rw[oQ off vs (s+1)];simp
section lit
variable {C : Cx} {w : World} {X : Nat -> Prop} {ρ : Nat -> Nat} {h : Hp} {a : Act} {fr : List AV} {o : Oper}
def RC.set{n:Nat}{us:Array Value}{xs:List AV}(hr:RC w X ρ n us xs){v:Value}{ys:List AV}(h1:v.cells.size=ys.length)(h2:∀k,k<v.cells.size->(v.cells.getD k undef).oneCell'=true)(h3:∀(k:Nat)(y:AV),ys[k]?=some y->Rp w X ρ n (v.cells.getD k undef) y){off:Nat}(da:off+ys.length<=xs.length):
 RC w X ρ n (v.cells.zipIdx.foldl (λcs(p:Value × Nat)=>cs.setIfInBounds (off+p.2) p.1) us) (cn xs off ys):=by
 obtain⟨r1,r2,r3⟩:=hr;have e:v.cells.zipIdx.foldl (λcs(p:Value × Nat)=>cs.setIfInBounds (off+p.2) p.1) us=(v.cells.toList.zipIdx 0).foldl (λcs p=>cs.setIfInBounds (off+p.2) p.1) us:=by
  rw[<-Array.foldl_toList,Array.toList_zipIdx]
 rw[e];have mC:=λk=>vM off v.cells.toList 0 us k (by simp;omega)
 simp only[Nat.add_zero,Array.length_toList]at mC;have hval:∀k,((v.cells.toList.zipIdx 0).foldl (λcs(p:Value × Nat)=>cs.setIfInBounds (off+p.2) p.1) us).getD k undef=if off<=k/\k<off+v.cells.size then v.cells.getD (k-off) undef else us.getD k undef:=by
  intro k;rw[Zr,mC k];split
  .simp[Zr]
  .simp[Zr]
 refine⟨by rw[oQ,jO da];exact r1,λk hk=>?_,λk x hk=>?_⟩
 .rw[hval];rw[oQ]at hk;by_cases hc:off<=k/\k<off+v.cells.size
  .rw[cq hc];exact h2 _ (by omega)
  .rw[cm hc];exact r2 k hk
 .rw[hval];rw[wy (by omega)]at hk;split at hk
  .rename_i hc;rw[cq (by omega)];exact h3 _ x hk
  .rename_i hc;rw[cm (by omega)];exact r3 k x hk
def xL(hs:gf C.G w X ρ h)(hf:RF w (dK X ρ h) ρ h.length a.tmps fr){pA pV:Nat->Option (Nat × Nat)}(hp:∀i q,pA i=some q->pV i=some q):
 ∀(ps:List (Nat × Operand))(us:Array Value)(xs out:List AV),RC w (dK X ρ h) ρ h.length us xs->nB pA xs (ps.map λp=>(p.1,ev C fr p.2))=some out->
  ∃yO,Instr.fill pV us (ps.map λp=>(p.1,a.eval p.2))=some yO/\RC w (dK X ρ h) ρ h.length yO out
 | [],us,xs,out,hr,ho=>by simp[nB]at ho;subst ho;exact⟨us,rfl,hr⟩
 |
  p::ps,us,xs,out,hr,ho=>by
  simp only[Yz,nB]at ho;split at ho
  .rename_i off size cs hq hc;split at ho
   .rename_i vN;obtain⟨c1,c2,c3⟩:=(dA hs hf p.2).Az hc;have cz:=hr.set c1 c2 c3 (off:=off) (by omega);obtain⟨yO,e1,e2⟩:=xL hs hf hp ps _ _ out cz ho;refine⟨yO,?_,e2⟩;simp only[Yz,Instr.fill,hp _ _ hq];rw[cm (by have:=hr.1;simp only[ne_eq,Yy,Zy,not_or];omega)];exact e1
   .cases ho
  .cases ho
def aap{z:Value}(h8:∀u∈z.cells.toList,kQ u=true)(n:Nat):RC w X ρ n z.cells (z.cells.toList.map .sc):=by
 refine⟨by simp,λk hk=>?_,λk x hk=>?_⟩
 .have:z.cells.getD k undef∈z.cells.toList:=by simp[hk]
  exact oC (h8 _ this)
 .simp only[Zs,Ze]at hk;obtain⟨u,hu,rfl⟩:=hk;have hu':z.cells[k]?=some u:=by simpa using hu
  have:z.cells.getD k undef=u:=by simp[hu']
  rw[this];exact .im (.sc u (h8 u (Zi hu)))
def Cf{P:Program}(w:World):∀(fs:List Field)(l:List (Nat × Nat × Bool)),l.length=fs.length->(∀(k:Nat)(f:Field),fs[k]?=some f->∃fi,P.info? f.type=some fi/\(l[k]?).map (λq=>(q.1,q.2.1))=some (f.offset,fi.size))->
 (fs.mapM (m:=Sem) λf=>do pure (f.offset,<-sizeOf f.type)).run P w= .ok (l.map λq=>(q.1,q.2.1)) w
 |
  [],l,hl,_=>by
  have:l=[]:=Zl (by simpa using hl);subst this;simp
 |
  f::fs,l,hl,hg=>by
  cases l with
  |nil=>simp at hl
  |cons q l=>
   obtain⟨fi,h1,h2⟩:=hg 0 f rfl;have ih:=Cf w fs l (by simpa using hl) (λk f' hk=>by simpa using hg (k+1) f' (by simpa using hk));simp only[Ye,Yx,Zc]at h2;simp only[Zo,Sem.run_bind,dY h1,Result.andThen_ok,Sem.run_pure,ih,Yz,h2]
def Nz(hs:gf C.G w X ρ h)(hf:RF w (dK X ρ h) ρ h.length a.tmps fr){t:TypeId}{parts:Array (Nat × Operand)}(dp:o.op= .build t parts){i:Ti}(hi:eH C.P t=some i){pA:Nat->Option (Nat × Nat)}(hk:(∃fs,i.kd= .struct fs/\pA=λk=>(fs[k]?).map λf=>(f.1,f.2.1))\/(∃n sz ag,i.kd= .array n sz ag/\pA=λk=>some (k*sz,sz))){cs:List AV}(hc:nB pA (i.zero.map .sc) (parts.toList.map λp=>(p.1,ev C fr p.2))=some cs):Good C o a w X ρ h (.ag cs) h:=by
 obtain⟨d,info,z,h1,h2,h3,h4,h5,h6,h7,h8,h9⟩:=dG hi;rw[h7]at hc;have hz:=aap (w:=w) (X:=dK X ρ h) (ρ:=ρ) h8 h.length;have I2:(parts.map λp=>(p.1,a.eval p.2)).toList=parts.toList.map λp=>(p.1,a.eval p.2):=by simp
 rcases hk with⟨fs,hk,rfl⟩|⟨n,sz,ag,hk,rfl⟩
 .rw[hk]at h4;obtain⟨fields,rfl,cf,mC⟩:=tQ h4;have qD:=Cf (P:=C.P) w fields.toList fs (by simpa using cf) (λk f sF=>by
   obtain⟨fi,fd,g1,g2,g3⟩:=mC k f (by simpa using sF);exact⟨fi,g1,by rw[g3];rfl⟩)
  obtain⟨yO,e1,e2⟩:=xL hs hf (pV:=λk=>((fs.map λq=>(q.1,q.2.1)).toArray)[k]?) (λk q hq=>by simpa using hq) parts.toList _ _ cs hz hc;refine cK hs (v:= .agg yO) ?_ (.ag yO cs e2.1 e2.2.1 e2.2.2);have ajd:(fields.mapM (m:=Sem) λf=>do pure (f.offset,<-sizeOf f.type)).run C.P w= .ok (fs.map λq=>(q.1,q.2.1)).toArray w:=by
   rw[Array.mapM_eq_mapM_toList,Sem.run_map,qD];rfl
  simp only[execOp,dp,Instr.build,Sem.run_bind,oD h2 h3,Result.andThen_ok,run_underlying h1,ajd,I2,e1,Sem.run_pure]
 .rw[hk]at h4;obtain⟨e,ei,ed,rfl,k1,k2,rfl,k4⟩:=wv h4;obtain⟨yO,e1,e2⟩:=xL hs hf (pV:=λk=>some (k*ei.size,ei.size)) (λk q hq=>hq) parts.toList _ _ cs hz hc;refine cK hs (v:= .agg yO) ?_ (.ag yO cs e2.1 e2.2.1 e2.2.2);simp only[execOp,dp,Instr.build,Sem.run_bind,oD h2 h3,Result.andThen_ok,run_underlying h1,dY k1,I2,e1,Sem.run_pure]
def NA{α:Type}(l:List α):∀(n k:Nat),((List.range n).flatMap λ_=>l)[k]?=if k<n*l.length then l[k % l.length]? else none
 |0,k=>by simp
 |
  n+1,k=>by
  have e:((List.range (n+1)).flatMap λ_=>l)=l++(List.range n).flatMap λ_=>l:=by
   rw[List.range_succ_eq_map,List.flatMap_cons,List.flatMap_map]
  rw[e];by_cases hk:k<l.length
  .rw[Zd hk,cq (by rw[Xp];omega),Nat.mod_eq_of_lt hk]
  .rw[Zf (by omega),NA l n (k-l.length)];have hm:k % l.length=(k-l.length) % l.length:=by
    rw[Nat.mod_eq_sub_mod (by omega)]
   rw[hm];by_cases h2:k-l.length<n*l.length
   .rw[cq h2,cq (by rw[Xp];omega)]
   .rw[cm h2,cm (by rw[Xp];omega)]
def wH{α:Type}(l:List α)(n:Nat):((List.range n).flatMap λ_=>l).length=n*l.length:=by
 induction n with
 |zero=>simp
 |succ n ih=>
  have e:((List.range (n+1)).flatMap λ_=>l)=l++(List.range n).flatMap λ_=>l:=by
   rw[List.range_succ_eq_map,List.flatMap_cons,List.flatMap_map]
  rw[e,Zu,ih,Xp];omega
def xM{z:Value}(h8:∀u∈z.cells.toList,kQ u=true)(n m:Nat)(hz:0<z.cells.size):RC w X ρ n ((Array.range (m*z.cells.size)).map (z.cells[· % z.cells.size]!)) ((List.range m).flatMap λ_=>z.cells.toList.map .sc):=by
 refine⟨by rw[wH];simp,λk hk=>?_,λk x hk=>?_⟩
 .simp only[Array.size_map,Array.size_range]at hk;have hm:k % z.cells.size<z.cells.size:=Nat.mod_lt _ hz;have:((Array.range (m*z.cells.size)).map (z.cells[· % z.cells.size]!)).getD k undef=z.cells[k % z.cells.size]:=by simp[hk,hm]
  rw[this];exact oC (h8 _ (by simp))
 .rw[NA]at hk;simp only[Ym,Array.length_toList]at hk;split at hk
  .rename_i dm;simp only[Zs,Ze]at hk;obtain⟨u,hu,rfl⟩:=hk;have hm:k % z.cells.size<z.cells.size:=Nat.mod_lt _ hz;have hu':z.cells[k % z.cells.size]=u:=by
    have:z.cells[k % z.cells.size]?=some u:=by simpa using hu
    rw[Xl hm]at this;simpa using this
   have:((Array.range (m*z.cells.size)).map (z.cells[· % z.cells.size]!)).getD k undef=u:=by simp[dm,hm,hu']
   rw[this];exact .im (.sc u (h8 u (by rw[<-hu'];simp)))
  .cases hk
def Es(hs:gf C.G w X ρ h){us:Array Value}{cs:List AV}(hr:RC w (dK X ρ h) ρ h.length us cs)(t:TypeId):
 Ext C.G w X ρ h (w.alloc (.cells us t (0,0))) (λi=>if i=h.length then w.heap.size else ρ i) (h++[.row cs]):=
 uw hs us t cs (λk=>us.getD k undef) (by rw[hr.1];omega) (λk x hk=>by
  have dm:k<us.size:=by have:=(Za.1 hk).1;rw[hr.1];exact this
  exact⟨by simp[dm],hr.2.1 k dm,hr.2.2 k x hk⟩) (0,0) (.inl rfl)
def wI(w0 w':World)(h:Hp)(ρ:Nat->Nat)(X':Nat->Prop)(m sz len cap:Nat)(hm:h.length<m)(cF:Array Value)(t:TypeId)(fz:Nat × Nat)(hw:w'.heap[w0.heap.size]?=some (.cells cF t fz))(hc:cap*sz=cF.size)(hl:len<=cap)(hx:cap<=maxLen):
 Rp w' X' (λi=>if i=h.length then w0.heap.size else ρ i) m (.slice (some ⟨w0.heap.size,0,none⟩) len cap) (.sl h.length sz 0 len false):=by
 have:=Rp.sl (w:=w') (X:=X') (ρ:=λi=>if i=h.length then w0.heap.size else ρ i) h.length sz 0 len cap false cF t fz hm (by simpa using hw) (by omega) (by simp) (by simp;omega) hl hx;simpa using this
def iI(w:World)(ob:Obj):(w.alloc ob).heap[w.heap.size]?=some ob:=by
 show(w.heap.push ob)[w.heap.size]?=some ob;simp
def Ve{w:World}{X:Nat->Prop}{b cap sz len:Nat}{cs:List AV}{cF:Array Value}{t:TypeId}{fz:Nat × Nat}(hx:¬X b)(hb:w.heap[b]?=some (.cells cF t fz))(cf:len*sz<=cs.length)(hc:len<=cap)(hm:cap<=maxLen)(z:Bool)(hz:z=true->cap=len)(dX:∀(k:Nat)(y:AV),cs[k]?=some y->∃u,cF[k]?=some u/\u.oneCell'=true/\Ri w X u y):
 Ri w X (.slice (some ⟨b,0,none⟩) len cap) (.ls sz (chunk sz len cs) z):=by
 have fG:∀(i:Nat)(row:List AV),(chunk sz len cs)[i]?=some row->i<len/\row=(cs.drop (i*sz)).take sz:=by
  intro i row cz;simp only[chunk,Zs,Ze]at cz;obtain⟨k,hk,rfl⟩:=cz;have k_:i<len:=by have:=(Za.1 hk).1;simpa using this
  rw[Xb k_]at hk;cases hk;exact⟨k_,rfl⟩
 have vT:∀(i:Nat)(row:List AV)(j:Nat)(x:AV),(chunk sz len cs)[i]?=some row->row[j]?=some x->∃u,cF[0+i*sz+j]?=some u/\u.oneCell'=true/\Ri w X u x:=by
  intro i row j x cz hx;obtain⟨k_,rfl⟩:=fG i row cz;rw[Xn]at hx;split at hx
  .rw[Xo]at hx;rw[Xs];exact dX _ _ hx
  .cases hx
 refine .ls b 0 len cap sz _ z (λi j=>cF.getD (0+i*sz+j) undef) cF t fz hx hb (by simp[chunk]) hc hm hz ?_ ?_ ?_
 .intro i row cz;obtain⟨k_,rfl⟩:=fG i row cz;have:(i+1)*sz<=len*sz:=Zx sz k_;rw[Xp,Nat.one_mul]at this;simp only[Xf,List.length_drop];omega
 .intro i row j x cz hx;obtain⟨u,h1,h2,_⟩:=vT i row j x cz hx;have:cF.getD (0+i*sz+j) undef=u:=by rw[Zr,h1];rfl
  simp only[this];exact⟨h1,h2⟩
 .intro i row j x cz hx;obtain⟨u,h1,_,h3⟩:=vT i row j x cz hx;have:cF.getD (0+i*sz+j) undef=u:=by rw[Zr,h1];rfl
  simp only[this];exact h3
def gV(w:World)(ob:Obj):Step w dR (w.alloc ob) dR:=by
 have hold:∀b,b<w.heap.size->(w.alloc ob).heap[b]?=w.heap[b]?:=λb hb=>by
  show(w.heap.push ob)[b]?=_;simp[Array.getElem?_push,Xk hb]
 exact⟨rfl,rfl,rfl,by show _<=(w.heap.push ob).size;simp,λb hb _=>hold b hb,λb c t' xZ hb=>⟨c,t',xZ,(hold b (eP hb)).trans hb,rfl⟩,λ_ _ h=>h,Xc _⟩
def I3(w:World)(k:Nat)(hk:w.drawn<=k):Step w dR {w with drawn:=k} dR:=⟨rfl,rfl,rfl,Xc _,λ_ _ _=>rfl,λ_ _ _ _ hb=>⟨_,_,_,hb,rfl⟩,λ_ _ h=>h,hk⟩
def yP(hs:gf C.G w X ρ h){w':World}(dq:Step w dR w' dR){cF:Array Value}{e:TypeId}{fz:Nat × Nat}(l_:w'.heap[w.heap.size]?=some (.cells cF e fz)){cs:List AV}{len cap sz:Nat}(cf:len*sz<=cs.length)(hc:len<=cap)(hm:cap<=maxLen)(z:Bool)(hz:z=true->cap=len)(dN:cs.all dk=true)(dX:∀(k:Nat)(y:AV),cs[k]?=some y->∃u,cF[k]?=some u/\u.oneCell'=true/\Rp w (dK X ρ h) ρ h.length u y)(hr:(execOp a.eval o).run C.P w= .ok (.value (.slice (some ⟨w.heap.size,0,none⟩) len cap)) w'):Good C o a w X ρ h (.ls sz (chunk sz len cs) z) h:=by
 have he:=lF hs dq;have hnX:¬dK X ρ h w.heap.size:=λhh=>by
  rcases hh with hx|⟨i,hi,e⟩
  .have:=hs.GA _ hx;omega
  .have:=hs.lt hi;omega
 refine dW hr he (.im (Ve hnX l_ cf hc hm z hz λk y hk=>?_));obtain⟨u,h1,h2,h3⟩:=dX k y hk;rw[Yt]at dN;exact⟨u,h1,h2,AJ (he.rp h3) (dN y (Zi hk))⟩
def RC.cell{n:Nat}{us:Array Value}{xs:List AV}(hr:RC w X ρ n us xs)(k:Nat)(y:AV)(hk:xs[k]?=some y):∃u,us[k]?=some u/\u.oneCell'=true/\Rp w X ρ n u y:=by
 have dm:k<us.size:=by have:=(Za.1 hk).1;rw[hr.1];exact this
 refine⟨us.getD k undef,by simp[dm],hr.2.1 k dm,hr.2.2 k y hk⟩
def xN(hs:gf C.G w X ρ h)(hf:RF w (dK X ρ h) ρ h.length a.tmps fr){t:TypeId}{len:Nat}{parts:Array (Nat × Operand)}(dp:o.op= .buildSlice t len parts){i:Ti}(hi:eH C.P t=some i){sz tu:Nat}{ag:Bool}{ez:List Value}(hk:i.kd= .slice sz ag tu ez)(I4:len*sz<=16777216){cs:List AV}(hc:nB (λk=>some (k*sz,sz)) ((List.range len).flatMap λ_=>ez.map .sc) (parts.toList.map λp=>(p.1,ev C fr p.2))=some cs):
 ∃(yO:Array Value)(e:TypeId),RC w (dK X ρ h) ρ h.length yO cs/\yO.size=len*sz/\len<=maxLen/\(execOp a.eval o).run C.P w= .ok (.value (.slice (some ⟨w.heap.size,0,none⟩) len len)) (w.alloc (.cells yO e (0,0))):=by
 obtain⟨d,info,z,h1,h2,h3,h4,h5,h6,h7,h8,h9⟩:=dG hi;rw[hk]at h4;obtain⟨e,ei,ed,Pf,rfl,k1,k2,k3,rfl,k5,k6,rfl,k8,k9,zm⟩:=ec h4;have hzr:RC w (dK X ρ h) ρ h.length ((Array.range (len*ei.size)).map ((if len*ei.size=0 then #[]else Pf.cells)[· % (if len*ei.size=0 then(#[]:Array Value)else Pf.cells).size]!)) ((List.range len).flatMap λ_=>Pf.cells.toList.map .sc):=by
  by_cases h0:len*ei.size=0
  .have:len=0:=by rcases Nat.mul_eq_zero.1 h0 with h|h<;>omega
   subst this;exact⟨by simp,by simp⟩
  .simp only[h0,if_false];have:=xM (w:=w) (X:=dK X ρ h) (ρ:=ρ) k8 h.length len (by omega)
   rwa [k9]at this|-
 obtain⟨yO,e1,e2⟩:=xL hs hf (pV:=λk=>some (k*ei.size,ei.size)) (λk q hq=>hq) parts.toList _ _ cs hzr hc;have dZ:yO.size=len*ei.size:=by
  rw[e2.1];have CR:∀(p:Nat->Option (Nat × Nat))(ps:List (Nat × AV))(xs out:List AV),nB p xs ps=some out->out.length=xs.length:=by
   intro p ps
   induction ps with
   |nil=>intro xs out ho;simp[nB]at ho;rw[ho]
   |cons q ps ih=>
    intro xs out ho;simp only[nB]at ho;split at ho
    .split at ho
     .rename_i vN;rw[ih _ _ ho,jO (by omega)]
     .cases ho
    .cases ho
  rw[CR _ _ _ _ hc,wH];simp[k9]
 have iF:len<=maxLen:=by
  have:len<=len*ei.size:=Nat.le_mul_of_pos_right _ zm;simp only[maxLen];omega
 refine⟨yO,e,e2,dZ,iF,?_⟩;have I2:(parts.map λp=>(p.1,a.eval p.2)).toList=parts.toList.map λp=>(p.1,a.eval p.2):=by simp
 have hz:(if len*ei.size=0 then(pure #[]:Sem (Array Value))else do pure (<-zeroValue e).cells).run C.P w= .ok (if len*ei.size=0 then #[]else Pf.cells) w:=by
  split
  .rfl
  .simp only[Sem.run_bind,oD k1 k3,Result.andThen_ok,Sem.run_pure]
 have af3:¬(len*ei.size>2^24):=by omega
 clear hz;by_cases h0:len*ei.size=0
 .simp only[h0,if_true]at e1;simp only[execOp,dp,Instr.buildSlice,Sem.run_bind,Result.andThen_ok,run_underlying h1,dY k1,h0,show¬(0>2^24) by omega,if_false,if_true,I2,newRow,pG,Sem.run_pure,e1]
 .simp only[h0,if_false]at e1;simp only[execOp,dp,Instr.buildSlice,Sem.run_bind,Result.andThen_ok,run_underlying h1,dY k1,h0,af3,if_false,I2,newRow,pG,Sem.run_pure,e1,oD k1 k3]
def F8(hs:gf C.G w X ρ h)(hf:RF w (dK X ρ h) ρ h.length a.tmps fr){t:TypeId}{len:Nat}{parts:Array (Nat × Operand)}(dp:o.op= .buildSlice t len parts){i:Ti}(hi:eH C.P t=some i){sz tu:Nat}{ag:Bool}{ez:List Value}(hk:i.kd= .slice sz ag tu ez)(I4:len*sz<=16777216){cs:List AV}(hc:nB (λk=>some (k*sz,sz)) ((List.range len).flatMap λ_=>ez.map .sc) (parts.toList.map λp=>(p.1,ev C fr p.2))=some cs):Good C o a w X ρ h (.sl h.length sz 0 len false) (h++[.row cs]):=by
 obtain⟨yO,e,e2,dZ,iF,hr⟩:=xN hs hf dp hi hk I4 hc;exact dW hr (Es hs e2 e) (wI w _ h ρ _ _ _ _ _ (by simp) yO e (0,0) (iI _ _) (by omega) (Xc _) iF)
def F_(hs:gf C.G w X ρ h)(hf:RF w (dK X ρ h) ρ h.length a.tmps fr){t:TypeId}{len:Nat}{parts:Array (Nat × Operand)}(dp:o.op= .buildSlice t len parts){i:Ti}(hi:eH C.P t=some i){sz tu:Nat}{ag:Bool}{ez:List Value}(hk:i.kd= .slice sz ag tu ez)(I4:len*sz<=16777216){cs:List AV}(hc:nB (λk=>some (k*sz,sz)) ((List.range len).flatMap λ_=>ez.map .sc) (parts.toList.map λp=>(p.1,ev C fr p.2))=some cs)(dN:cs.all dk=true):Good C o a w X ρ h (.ls sz (chunk sz len cs) true) h:=by
 obtain⟨yO,e,e2,dZ,iF,hr⟩:=xN hs hf dp hi hk I4 hc;exact yP hs (gV w _) (iI w _) (by rw[<-e2.1,dZ];exact Xc _) (Xc _) iF true (λ_=>rfl) dN e2.cell hr
def zA(hs:gf C.G w X ρ h)(hf:RF w (dK X ρ h) ρ h.length a.tmps fr){t:TypeId}{l c:Operand}(dp:o.op= .makeSlice t l c){i:Ti}(hi:eH C.P t=some i){sz tu:Nat}{ag:Bool}{ez:List Value}(hk:i.kd= .slice sz ag tu ez){n:Nat}(hn:jJ (ev C fr l)=some n)(hm:jJ (ev C fr c)=some n)(iF:n<=maxLen)(wP:n*tu<=140737488355328):
 ∃(yO:Array Value)(e:TypeId),RC w (dK X ρ h) ρ h.length yO ((List.range n).flatMap λ_=>ez.map .sc)/\yO.size=n*sz/\(∀u∈ez,kQ u=true)/\(execOp a.eval o).run C.P w= .ok (.value (.slice (some ⟨w.heap.size,0,none⟩) n n)) (w.alloc (.cells yO e (0,0))):=by
 obtain⟨d,info,z,h1,h2,h3,h4,h5,h6,h7,h8,h9⟩:=dG hi;rw[hk]at h4;obtain⟨e,ei,ed,Pf,rfl,k1,k2,k3,rfl,k5,rfl,rfl,k8,k9,zm⟩:=ec h4;obtain⟨q1,j1,Sr,hj10,hj1n⟩:=mB (dA hs hf l) hn;obtain⟨q2,j2,AU,hj20,hj2n⟩:=mB (dA hs hf c) hm;have w1:IntKind.i64.wrap j1=j1:=IntWalk.i64_in j1 (by simp only[maxLen]at iF;omega);have w2:IntKind.i64.wrap j2=j2:=IntWalk.i64_in j2 (by simp only[maxLen]at iF;omega);have hr:RC w (dK X ρ h) ρ h.length ((Array.range (n*ei.size)).map ((if n*ei.size=0 then #[]else Pf.cells)[· % (if n*ei.size=0 then(#[]:Array Value)else Pf.cells).size]!)) ((List.range n).flatMap λ_=>Pf.cells.toList.map .sc):=by
  by_cases h0:n*ei.size=0
  .have:n=0:=by rcases Nat.mul_eq_zero.1 h0 with h|h<;>omega
   subst this;exact⟨by simp,by simp⟩
  .simp only[h0,if_false];have:=xM (w:=w) (X:=dK X ρ h) (ρ:=ρ) k8 h.length n (by omega)
   rwa [k9]at this|-
 refine⟨_,e,hr,by simp,k8,?_⟩;have hz:(if n*ei.size=0 then(pure #[]:Sem (Array Value))else do pure (<-zeroValue e).cells).run C.P w= .ok (if n*ei.size=0 then #[]else Pf.cells) w:=by
  split
  .rfl
  .simp only[Sem.run_bind,oD k1 k3,Result.andThen_ok,Sem.run_pure]
 have sI:(typeInfo e).run C.P w= .ok ei w:=by simp[typeInfo,k1]
 have xk:j1=(n:Int):=by omega
 have hjm:j2=(n:Int):=by omega
 have hsmall:¬((ei.bytes:Int)*(n:Int)>2^48):=by
  have:(ei.bytes:Int)*(n:Int)=((n*ei.bytes:Nat):Int):=by rw[Nat.mul_comm];simp
  rw[this];omega
 have mj:¬(n*ei.bytes>roomBytes):=by simp only[roomBytes];omega
 have vN:((decide ((n:Int)<0)||decide ((ei.bytes:Int)*(n:Int)>2^48))||decide ((n:Int)<0)||decide ((n:Int)>(n:Int)))=false:=by
  simp;omega
 rw[xk]at w1;clear hz;by_cases h0:n*ei.size=0
 .simp only[execOp,dp,Instr.makeSlice,Sem.run_bind,Result.andThen_ok,run_underlying h1,Sr,AU,asInt,asIntOf,Sem.run_pure,sI,xk,hjm,w1,askRoom,Int.toNat_natCast,mj,if_false,dY k1,newRow,pG,vN,h0,if_true,Ys]
 .simp only[execOp,dp,Instr.makeSlice,Sem.run_bind,Result.andThen_ok,run_underlying h1,Sr,AU,asInt,asIntOf,Sem.run_pure,sI,xk,hjm,w1,askRoom,Int.toNat_natCast,mj,if_false,dY k1,newRow,pG,vN,h0,oD k1 k3,Ys]
def I5(hs:gf C.G w X ρ h)(hf:RF w (dK X ρ h) ρ h.length a.tmps fr){t:TypeId}{l c:Operand}(dp:o.op= .makeSlice t l c){i:Ti}(hi:eH C.P t=some i){sz tu:Nat}{ag:Bool}{ez:List Value}(hk:i.kd= .slice sz ag tu ez){n:Nat}(hn:jJ (ev C fr l)=some n)(hm:jJ (ev C fr c)=some n)(iF:n<=maxLen)(wP:n*tu<=140737488355328):
 Good C o a w X ρ h (.sl h.length sz 0 n false) (h++[.row ((List.range n).flatMap λ_=>ez.map .sc)]):=by
 obtain⟨yO,e,e2,dZ,_,hr⟩:=zA hs hf dp hi hk hn hm iF wP;exact dW hr (Es hs e2 e) (wI w _ h ρ _ _ _ _ _ (by simp) yO e (0,0) (iI _ _) (by omega) (Xc _) iF)
def I6(hs:gf C.G w X ρ h)(hf:RF w (dK X ρ h) ρ h.length a.tmps fr){t:TypeId}{l c:Operand}(dp:o.op= .makeSlice t l c){i:Ti}(hi:eH C.P t=some i){sz tu:Nat}{ag:Bool}{ez:List Value}(hk:i.kd= .slice sz ag tu ez){n:Nat}(hn:jJ (ev C fr l)=some n)(hm:jJ (ev C fr c)=some n)(iF:n<=maxLen)(wP:n*tu<=140737488355328):
 Good C o a w X ρ h (.ls sz (chunk sz n ((List.range n).flatMap λ_=>ez.map .sc)) true) h:=by
 obtain⟨yO,e,e2,dZ,hz,hr⟩:=zA hs hf dp hi hk hn hm iF wP;refine yP hs (gV w _) (iI w _) (by rw[<-e2.1,dZ];exact Xc _) (Xc _) iF true (λ_=>rfl) ?_ e2.cell hr;rw[Yt];intro x hx;simp only[List.mem_flatMap,Yk]at hx;obtain⟨_,_,u,_,rfl⟩:=hx;rfl
end lit
section ops
variable {C : Cx} {w : World} {X : Nat -> Prop} {ρ : Nat -> Nat} {h : Hp} {a : Act} {fr : List AV} {o : Oper}
def kG(hs:gf C.G w X ρ h)(hf:RF w (dK X ρ h) ρ h.length a.tmps fr){x:Operand}{i y:Nat}(hn:jJ (ev C fr x)=some i)(da:i<=y)(code:BoundsCode):(Instr.sliceBound (a.eval x) y code).run C.P w= .ok i w:=by
 obtain⟨k,j,hj,T6,xk⟩:=mB (dA hs hf x) hn;have hc:0<=j/\j<=(y:Int):=by omega
 simp only[Instr.sliceBound,hj,asIntOf,Sem.run_bind,Sem.run_pure,Result.andThen_ok,hc,and_self,if_true,xk]
def sk(hs:gf C.G w X ρ h)(hf:RF w (dK X ρ h) ρ h.length a.tmps fr){lo hi:Option Operand}{l hh len cap:Nat}(hl:ig 0 (lo.map (ev C fr))=some l)(Dn:ig len (hi.map (ev C fr))=some hh)(h1:l<=hh)(h2:hh<=cap):(Instr.sliceBounds true len cap (lo.map a.eval) (hi.map a.eval) none).run C.P w= .ok (l,hh,cap) w:=by
 cases hi with
 |
  none=>
  simp only[Option.map_none,ig,Zc]at Dn;subst Dn;cases lo with
  |
   none=>
   simp only[Option.map_none,ig,Zc]at hl;subst hl;simp only[Instr.sliceBounds,Option.map_none,Sem.run_bind,Sem.run_pure,Result.andThen_ok]
  |some x=>
   simp only[Yx,ig]at hl;simp only[Instr.sliceBounds,Option.map_none,Yx,Sem.run_bind,Sem.run_pure,Result.andThen_ok,kG hs hf hl h1]
 |some y=>
  simp only[Yx,ig]at Dn;cases lo with
  |
   none=>
   simp only[Option.map_none,ig,Zc]at hl;subst hl;simp only[Instr.sliceBounds,Option.map_none,Yx,Sem.run_bind,Sem.run_pure,Result.andThen_ok,kG hs hf Dn h2]
  |some x=>
   simp only[Yx,ig]at hl;simp only[Instr.sliceBounds,Yx,Sem.run_bind,Sem.run_pure,Result.andThen_ok,kG hs hf Dn h2,kG hs hf hl h1]
def pK(hs:gf C.G w X ρ h)(hf:RF w (dK X ρ h) ρ h.length a.tmps fr){lo:Option Operand}{hi mx:Operand}{l hh m len cap:Nat}(hl:ig 0 (lo.map (ev C fr))=some l)(hlm:l<=hh)(Dn:jJ (ev C fr hi)=some hh)(hhm:hh<=m)(hm:jJ (ev C fr mx)=some m)(h2:m<=cap):(Instr.sliceBounds true len cap (lo.map a.eval) (some (a.eval hi)) (some (a.eval mx))).run C.P w= .ok (l,hh,m) w:=by
 cases lo with
 |
  none=>
  simp only[Option.map_none,ig,Zc]at hl;subst hl;simp only[Instr.sliceBounds,Option.map_none,Sem.run_bind,Sem.run_pure,Result.andThen_ok,kG hs hf hm h2,kG hs hf Dn hhm]
 |some x=>
  simp only[Yx,ig]at hl;simp only[Instr.sliceBounds,Yx,Sem.run_bind,Sem.run_pure,Result.andThen_ok,kG hs hf hm h2,kG hs hf Dn hhm,kG hs hf hl hlm]
def NC{X:Nat->Prop}{b o' cap sz l hh m:Nat}{cg:List (List AV)}{us:Nat->Nat->Value}{cF:Array Value}{t0:TypeId}{fz:Nat × Nat}(c1:¬X b)(c2:w.heap[b]?=some (Obj.cells cF t0 fz))(c5:cap<=maxLen)(c7:∀(i:Nat)(row:List AV),cg[i]?=some row->row.length=sz)(c8:∀(i:Nat)(row:List AV)(j:Nat)(x:AV),cg[i]?=some row->row[j]?=some x->cF[o'+i*sz+j]?=some (us i j)/\Value.oneCell' (us i j)=true/\Ri w X (us i j) x)(h1:l<=hh)(h2:hh<=cg.length)(h3:hh<=m)(h4:m<=cap)(z:Bool)(hz:z=true->m=hh)(ad:Option Addr)(had:ad=if m=l then some ⟨b,o',none⟩else some ⟨b,o'+l*sz,none⟩):
 Ri w X (.slice ad (hh-l) (m-l)) (.ls sz ((cg.drop l).take (hh-l)) z):=by
 have nz:((cg.drop l).take (hh-l)).length=hh-l:=by simp;omega
 by_cases hlh:l=hh
 .subst hlh;simp only[Nat.sub_self,Yh];exact .le _ _ _ _ (by omega) (λq=>by have:=hz q;omega)
 .have XD:¬m=l:=by omega
  rw[cm XD]at had;subst had;have mC:∀(k:Nat)(row:List AV),((cg.drop l).take (hh-l))[k]?=some row->cg[l+k]?=some row:=by
   intro k row hr;rw[Xn]at hr;split at hr
   .rwa [Xo]at hr
   .cases hr
  exact .ls b (o'+l*sz) (hh-l) (m-l) sz ((cg.drop l).take (hh-l)) z (λk j=>us (l+k) j) cF t0 fz c1 c2 nz (by omega) (by omega)
   (λq=>by have:=hz q;omega) (λk row hr=>c7 _ _ (mC k row hr))
   (λk row j x hr hx=>by
    have:=c8 (l+k) row j x (mC k row hr) hx;refine⟨?_,this.2.1⟩;rw[<-this.1]
    congr 1
    rw[Xp];omega)
   (λk row j x hr hx=>(c8 (l+k) row j x (mC k row hr) hx).2.2)
def aaq(hs:gf C.G w X ρ h)(hf:RF w (dK X ρ h) ρ h.length a.tmps fr){t:TypeId}{x:Operand}{lo hi mx:Option Operand}(dp:o.op= .slice t x lo hi mx){i:Ti}(p8:eH C.P t=some i){sz tu:Nat}{ag:Bool}{ez:List Value}(hk:i.kd= .slice sz ag tu ez)(hz:ka sz (ev C fr x)=true){y:AV}(hy:rC (ev C fr x) (lo.map (ev C fr)) (hi.map (ev C fr)) (mx.map (ev C fr))=some y):
 Good C o a w X ρ h y h:=by
 obtain⟨d,info,z,h1,h2,h3,h4,h5,h6,h7,h8,h9⟩:=dG p8;rw[hk]at h4;obtain⟨e,ei,ed,Pf,rfl,k1,k2,k3,rfl,k5,k6,k7,k8,k9,zm⟩:=ec h4;have e1:=dA hs hf x;have jj:∀(base:Option Addr)(len cap l hh m:Nat),a.eval x= .slice base len cap->(Instr.sliceBounds true len cap (lo.map a.eval) (hi.map a.eval) (mx.map a.eval)).run C.P w= .ok (l,hh,m) w->
  (execOp a.eval o).run C.P w= .ok (.value (.slice (if m=l then base else base.map (·.add (l*ei.size))) (hh-l) (m-l))) w:=by
  intro base len cap l hh m hq hb;simp only[execOp,dp,Instr.sliceAt,Instr.slice,run_underlying h1,Sem.run_bind,Result.andThen_ok,hq,hb,dY k1,Sem.run_pure]
 unfold rC at hy;split at hy
 case h_2=>cases hy
 rename_i len cf;split at hy
 case h_3=>cases hy
 .rename_i l hh hl Dn wS;have aje:mx=none:=by cases mx<;>simp_all
  subst aje;split at hy
  case isFalse=>cases hy
  rename_i hc;cases hx:ev C fr x with
  |ls ph cg zz=>
   rw[hx]at hy e1 hz cf;simp only[ka,beq_iff_eq]at hz;subst hz;simp only[u7,Zc]at cf;subst cf;simp only[Zc]at hy;subst hy;rcases e1.my.iu with⟨rfl,b,cap,hq,c1,c2⟩|⟨b,o',cap,us,cF,t0,fz,hq,c1,c2,c4,c5,c6,c7,c8⟩
   .simp only[Xq]at hc Dn|-;have hb:=sk hs hf hl Dn hc.1 (cap:=cap) (by omega);have pg:l=0:=by omega
    have D9:hh=0:=by omega
    subst pg D9;refine cK hs (jj _ _ _ _ _ _ hq hb) (.im ?_);simp only[List.drop_nil,List.take_nil];exact .le _ _ _ _ (by omega) (λhz=>by simp at hz;have:=c2 hz;omega)
   .have hb:=sk hs hf hl Dn hc.1 (cap:=cap) (by omega);refine cK hs (jj _ _ _ _ _ _ hq hb) (.im ?_);refine NC c1 c2 c5 c7 c8 hc.1 hc.2 (by omega) (Xc _) _ (λq=>?_) _ ?_
    .simp only[Zh,beq_iff_eq]at q;have:=c6 q.1;omega
    .split<;>simp[add_lit]
  |sl id ph off adN k=>
   rw[hx]at hy e1 hz cf;simp only[ka,beq_iff_eq]at hz;subst hz;simp only[u7,Zc]at cf;subst cf;obtain⟨cap,cF,t0,fz,hq,c1,c2,c3,ck,ck',c4,c5⟩:=e1.jT;have hb:=sk hs hf hl Dn hc.1 (cap:=cap) (by omega);by_cases hlh:l=hh
   .simp only[hlh,if_true,Zc]at hy;subst hy hlh;refine cK hs (jj _ _ _ _ _ _ hq hb) (.im ?_);simp only[Nat.sub_self];refine .le _ _ _ _ (by omega) (λhz=>?_);simp only[Zh,beq_iff_eq]at hz;have:=ck hz.1;omega
   .simp only[hlh,if_false]at hy;split at hy
    case isTrue=>cases hy
    rename_i W9;simp only[Zc]at hy;subst hy;refine cK hs (jj _ _ _ _ _ _ hq hb) ?_;rw[cm (show¬cap=l by omega)];have dZ:l*ei.size+(cap-l)*ei.size=cap*ei.size:=by rw[<-Xp];congr 1;omega
    have:=Rp.sl (w:=w) (X:=dK X ρ h) (ρ:=ρ) (n:=h.length) id ei.size (off+l*ei.size) (hh-l) (cap-l) k cF t0 fz c1 c2 (by omega)
     (λq=>by
      have:=ck q;simp only[q,Xd,bne_iff_ne,ne_eq,Decidable.not_not]at W9;omega) (λq=>by have:=ck' q;omega) (by omega) (by omega)
    simpa[add_lit]using this
  |_=>rw[hx]at cf;simp[u7]at cf
 .rename_i l hh m hl Dn wS;split at hy
  case h_2=>cases hy
  rename_i m' w6;split at hy
  case isFalse=>cases hy
  rename_i hc;obtain⟨mo,rfl⟩:∃mo,mx=some mo:=by cases mx with|none=>simp at wS|some mo=>exact⟨mo,rfl⟩
  obtain⟨ho,rfl⟩:∃ho,hi=some ho:=by cases hi with|none=>simp at hc|some ho=>exact⟨ho,rfl⟩
  simp only[Yx,Zc]at wS;subst wS;simp only[Yx,ig]at Dn;obtain⟨rE,vT,hc3,_⟩:=hc;split at hy
  case isFalse=>
   simp only[Zc]at hy;subst hy;obtain⟨base,adO,cap,hq,mH⟩:∃base adO cap,a.eval x= .slice base adO cap/\len<=cap:=by
    cases hx:ev C fr x with
    |ls ph cg zz=>
     rw[hx]at e1 cf;simp only[u7,Zc]at cf;subst cf;rcases e1.my.iu with⟨rfl,b,cap,hq,c1,c2⟩|⟨b,o',cap,us,cF,t0,fz,hq,c1,c2,c4,c5,c6,c7,c8⟩
     .exact⟨_,_,_,hq,Nat.zero_le _⟩
     .exact⟨_,_,_,hq,by omega⟩
    |sl id ph off adN k=>
     rw[hx]at e1 cf;simp only[u7,Zc]at cf;subst cf;obtain⟨cap,cF,t0,fz,hq,c1,c2,c3,ck,ck',c4,c5⟩:=e1.jT;exact⟨_,_,_,hq,by omega⟩
    |_=>rw[hx]at cf;simp[u7]at cf
   have hb:=pK hs hf hl rE Dn vT w6 (len:=adO) (cap:=cap) (by omega);exact cK hs (jj _ _ _ _ _ _ hq hb) (.im (.ud _))
  rename_i vT;subst vT;cases hx:ev C fr x with
  |ls ph cg zz=>
   rw[hx]at hy e1 hz cf;simp only[ka,beq_iff_eq]at hz;subst hz;simp only[Zc]at hy;subst hy;simp only[u7,Zc]at cf;subst cf;rcases e1.my.iu with⟨rfl,b,cap,hq,c1,c2⟩|⟨b,o',cap,us,cF,t0,fz,hq,c1,c2,c4,c5,c6,c7,c8⟩
   .simp only[Xq]at hc3;have hb:=pK hs hf hl rE Dn (Xc _) w6 (len:=0) (cap:=cap) (by omega);refine cK hs (jj _ _ _ _ _ _ hq hb) (.im ?_);have pg:l=0:=by omega
    have D9:hh=0:=by omega
    subst pg D9;simp only[List.drop_nil,List.take_nil];exact .le _ _ _ _ (by omega) (λ_=>rfl)
   .have hb:=pK hs hf hl rE Dn (Xc _) w6 (len:=cg.length) (cap:=cap) (by omega);refine cK hs (jj _ _ _ _ _ _ hq hb) (.im ?_);refine NC c1 c2 c5 c7 c8 rE hc3 (Xc _) (by omega) _ (λ_=>rfl) _ ?_;split<;>simp[add_lit]
  |sl id ph off adN k=>
   rw[hx]at hy e1 hz cf;simp only[ka,beq_iff_eq]at hz;subst hz;simp only[u7,Zc]at cf;subst cf;obtain⟨cap,cF,t0,fz,hq,c1,c2,c3,ck,ck',c4,c5⟩:=e1.jT;have hb:=pK hs hf hl rE Dn (Xc _) w6 (len:=adN) (cap:=cap) (by omega);by_cases hlh:l=hh
   .simp only[hlh,if_true,Zc]at hy;subst hy hlh;refine cK hs (jj _ _ _ _ _ _ hq hb) (.im ?_);simp only[Nat.sub_self];exact .le _ _ _ _ (by simp[maxLen]) (λ_=>rfl)
   .simp only[hlh,if_false,Zc]at hy;subst hy;refine cK hs (jj _ _ _ _ _ _ hq hb) ?_;rw[cm (show¬hh=l by omega)];have dZ:l*ei.size+(hh-l)*ei.size=hh*ei.size:=by rw[<-Xp];congr 1;omega
    have da:hh*ei.size<=cap*ei.size:=Zx _ (by omega);have:=Rp.sl (w:=w) (X:=dK X ρ h) (ρ:=ρ) (n:=h.length) id ei.size (off+l*ei.size) (hh-l) (hh-l) true cF t0 fz c1 c2 (by omega)
     (λ_=>rfl) (λq=>by cases q) (Xc _) (by omega)
    simpa[add_lit]using this
  |_=>rw[hx]at cf;simp[u7]at cf
def uf{sz:Nat}(fX:0<sz):∀(cg:List (List AV)),(∀row∈cg,row.length=sz)->∀k,cg.flatten[k]?=(cg[k/sz]?).bind (·[k % sz]?)
 | [],_,k=>by simp
 |
  row::cg,hr,k=>by
  have hl:=hr row (by simp);have ih:=uf fX cg (λr hm=>hr r (by simp[hm]));simp only[List.flatten_cons];by_cases hk:k<sz
  .rw[Zd (by omega),Nat.div_eq_of_lt hk,Nat.mod_eq_of_lt hk];simp
  .rw[Zf (by omega),ih (k-row.length),hl];have h1:k/sz=(k-sz)/sz+1:=by rw[Nat.div_eq_sub_div fX (by omega)]
   have h2:k % sz=(k-sz) % sz:=Nat.mod_eq_sub_mod (by omega);rw[h1,h2,Yd]
def cQ{sz:Nat}:∀(cg:List (List AV)),(∀row∈cg,row.length=sz)->cg.flatten.length=cg.length*sz
 | [],_=>by simp
 |
  row::cg,hr=>by
  have:=cQ cg (λr hm=>hr r (by simp[hm]));simp only[List.flatten_cons,Zu,Xe,Xp,hr row (by simp),this];omega
def q_(hs:gf C.G w X ρ h)(hf:RF w (dK X ρ h) ρ h.length a.tmps fr){x:Operand}{sz m:Nat}{news:List AV}(fX:0<sz)(hz:ka sz (ev C fr x)=true)(hn:ju h (ev C fr x)=some (m,news)):
 ∃base cap,a.eval x= .slice base m cap/\news.length=m*sz/\(m=0\/∃(b o':Nat)(dj:List Value),base=some ⟨b,o',none⟩/\dj.length=m*sz/\
  (∀(j:Nat)(u:Value),dj[j]?=some u->w.cell? ((⟨b,o',none⟩:Addr).add j)=some u)/\(∀u∈dj,u.oneCell'=true)/\∀(k:Nat)(y:AV),news[k]?=some y->Rp w (dK X ρ h) ρ h.length (dj.getD k undef) y):=by
 have e1:=dA hs hf x;unfold ju at hn;split at hn
 .rename_i hx;simp only[Zc,Zg]at hn;obtain⟨rfl,rfl⟩:=hn;rw[hx]at e1;exact⟨none,0,e1.dH.1,by simp,.inl rfl⟩
 .rename_i ph cg zz hx;rw[hx]at e1 hz;simp only[ka,beq_iff_eq]at hz;subst hz;simp only[Zc,Zg]at hn;obtain⟨rfl,rfl⟩:=hn;rcases e1.my.iu with⟨rfl,b,cap,hq,c1,c2⟩|⟨b,o',cap,us,cF,t0,fz,hq,c1,c2,c4,c5,c6,c7,c8⟩
  .exact⟨b,cap,hq,by simp,.inl rfl⟩
  .have dN:∀row∈cg,row.length=ph:=λrow hm=>by
    obtain⟨k,hk,rfl⟩:=List.getElem_of_mem hm;exact c7 k _ (Zb hk)
   have hfg:=uf fX cg dN;have cf:=cQ cg dN;refine⟨_,cap,hq,cf,.inr ⟨b,o',(List.range (cg.length*ph)).map λk=>us (k/ph) (k % ph),rfl,by simp,?_,?_,?_⟩⟩
   .intro j u hj;simp only[Zs,Ze]at hj;obtain⟨k,hk,rfl⟩:=hj;have mZ:j<cg.length*ph:=by have:=(Za.1 hk).1;simpa using this
    rw[Xb mZ]at hk;cases hk;have h1:j/ph<cg.length:=by rw[Nat.div_lt_iff_lt_mul fX];exact mZ
    have h2:j % ph< (cg[j/ph]).length:=by rw[c7 _ _ (Zb h1)];exact Nat.mod_lt _ fX
    have:=c8 (j/ph) _ (j % ph) _ (Zb h1) (Zb h2);rw[add_lit,jD c2,<-this.1]
    congr 1
    have:=Nat.div_add_mod j ph;rw[Nat.mul_comm]at this;omega
   .intro u hu;simp only[Yk,List.mem_range]at hu;obtain⟨j,mZ,rfl⟩:=hu;have h1:j/ph<cg.length:=by rw[Nat.div_lt_iff_lt_mul fX];exact mZ
    have h2:j % ph< (cg[j/ph]).length:=by rw[c7 _ _ (Zb h1)];exact Nat.mod_lt _ fX
    exact(c8 (j/ph) _ (j % ph) _ (Zb h1) (Zb h2)).2.1
   .intro k y hk;have ie:k<cg.length*ph:=by have:=(Za.1 hk).1;rwa [cf]at this
    rw[hfg]at hk;simp only[Yj]at hk;obtain⟨row,hr,hy⟩:=hk;have:=c8 _ row _ y hr hy;have e2:((List.range (cg.length*ph)).map λk=>us (k/ph) (k % ph)).getD k undef=us (k/ph) (k % ph):=by simp[List.getD,Xb ie]
    rw[e2];exact .im this.2.2
 .rename_i id ph off len k hx;rw[hx]at e1 hz;simp only[ka,beq_iff_eq]at hz;subst hz;split at hn
  case h_2=>cases hn
  rename_i cs cZ;split at hn
  case isFalse=>cases hn
  rename_i da;simp only[Zc,Zg]at hn;obtain⟨rfl,rfl⟩:=hn;obtain⟨cap,cF,t0,fz,hq,c1,c2,c3,_,_,c4,c5⟩:=e1.jT;obtain⟨cur',t1,xZ,us,d1,d3⟩:=hs.cells cZ;refine⟨_,cap,hq,by simp;omega,.inr ⟨ρ id,off,(List.range (len*ph)).map λk=>us (off+k),rfl,by simp,?_,?_,?_⟩⟩
  .intro j u hj;simp only[Zs,Ze]at hj;obtain⟨k,hk,rfl⟩:=hj;have mZ:j<len*ph:=by have:=(Za.1 hk).1;simpa using this
   rw[Xb mZ]at hk;cases hk;rw[add_lit,jD d1];exact(d3 (off+j) _ (Zb (by omega))).1
  .intro u hu;simp only[Yk,List.mem_range]at hu;obtain⟨j,mZ,rfl⟩:=hu;exact(d3 (off+j) _ (Zb (by omega))).2.1
  .intro k y hk;rw[Xn]at hk;split at hk
   .rename_i ie;rw[Xo]at hk;have e2:((List.range (len*ph)).map λk=>us (off+k)).getD k undef=us (off+k):=by simp[List.getD,Xb ie]
    rw[e2];exact(d3 (off+k) y hk).2.2
   .cases hk
 .cases hn
end ops
def Rp.AQ{w:World}{X X':Nat->Prop}{ρ:Nat->Nat}{n:Nat}(hX:∀b,X' b->X b){v:Value}{x:AV}(h:Rp w X ρ n v x):Rp w X' ρ n v x:=by
 induction h with
 |im hi=>exact .im (hi.AQ hX)
 |sl id sz off len cap k cF t fz h1 h2 h3 h4 h5 h6 h7=>exact .sl id sz off len cap k cF t fz h1 h2 h3 h4 h5 h6 h7
 |pt id off h1=>exact .pt id off h1
 |mp id h1=>exact .mp id h1
 |fn f us xs h1 h2 ih=>exact .fn f us xs h1 ih
 |ag us xs h1 h2 h3 ih=>exact .ag us xs h1 h2 ih
 |tp us xs h1 h2 ih=>exact .tp us xs h1 ih
def gf.af4{G:Nat->Option (List Value)}{w:World}{X:Nat->Prop}{ρ:Nat->Nat}{h:Hp}(hs:gf G w X ρ h){id:Nat}{cs:List AV}(cZ:rowOf h id=some cs):¬X (ρ id):=by
 unfold rowOf at cZ;split at cZ
 .rename_i cs' hi;exact hs.out id ⟨_,hi,rfl⟩
 .rename_i cs' hi;exact λhx=>hs.jI id _ hi (.inl hx)
 .rename_i cs' hi;exact hs.out id ⟨_,hi,rfl⟩
 .cases cZ
def sq{G:Nat->Option (List Value)}{w:World}{X:Nat->Prop}{ρ:Nat->Nat}{h:Hp}(hs:gf G w X ρ h):∀(n:Nat)(v:Value)(x y:AV),Rp w (dK X ρ h) ρ h.length v x->cD h n x=some y->Ri w X v y:=by
 have base:∀{v:Value}{x:AV},Rp w (dK X ρ h) ρ h.length v x->(match x with| .sc _| .ls .. | .rp .. | .oc=>true|_=>false)=true->Ri w X v x:=by
  intro v x hr hx;cases hr with
  |im hi=>exact hi.AQ λb=> .inl
  |_=>simp at hx
 intro n
 induction n with
 |
  zero=>
  intro v x y hr hy;cases x<;>simp only[cD,Zc]at hy<;>first|(subst hy;exact base hr rfl)|cases hy
 |succ n ih=>
  intro v x y hr hy;cases x with
  |sc u=>simp only[cD,Zc]at hy;subst hy;exact base hr rfl
  |ls sz cg z=>simp only[cD,Zc]at hy;subst hy;exact base hr rfl
  |rp row j=>simp only[cD,Zc]at hy;subst hy;exact base hr rfl
  |oc=>simp only[cD,Zc]at hy;subst hy;exact base hr rfl
  |pt id off=>
   simp only[cD]at hy;split at hy
   case h_2=>cases hy
   rename_i cs cZ;simp only[Ze]at hy;obtain⟨ys,yg,rfl⟩:=hy;obtain⟨rfl,_⟩:=hr.nk;obtain⟨cF,t,fz,us,d1,d3⟩:=hs.cells cZ;obtain⟨m1,m2⟩:=iP yg;have dX:∀(k:Nat)(y:AV),ys[k]?=some y->cF[k]?=some (us k)/\(us k).oneCell'=true/\Ri w X (us k) y:=by
    intro k y hk;have ie:k<cs.length:=by have:=(Za.1 hk).1;omega
    obtain⟨b,hb,gw⟩:=m2 k _ (Zb ie);rw[hk]at hb;cases hb;have h3:=d3 k _ (Zb ie);exact⟨h3.1,h3.2.1,ih _ _ _ h3.2.2 gw⟩
   have:=Ri.rp (w:=w) (X:=X) (ρ id) 0 off ys us cF t fz (hs.af4 cZ) d1 (λk y hk=>by rw[Xs];exact⟨(dX k y hk).1,(dX k y hk).2.1⟩) (λk y hk=>(dX k y hk).2.2);simpa using this
  |ag xs=>
   simp only[cD,Ze]at hy;obtain⟨ys,yg,rfl⟩:=hy;obtain⟨us,rfl,h1,h2,h3⟩:=hr.yC;obtain⟨m1,m2⟩:=iP yg;refine .ag us ys (by omega) h2 λk y hk=>?_
   have ie:k<xs.length:=by have:=(Za.1 hk).1;omega
   obtain⟨b,hb,gw⟩:=m2 k _ (Zb ie);rw[hk]at hb;cases hb;exact ih _ _ _ (h3 k _ (Zb ie)) gw
  |tp xs=>
   simp only[cD,Ze]at hy;obtain⟨ys,yg,rfl⟩:=hy;obtain⟨us,rfl,h1,h3⟩:=hr.T0;obtain⟨m1,m2⟩:=iP yg;refine .tp us ys (by omega) λk y hk=>?_
   have ie:k<xs.length:=by have:=(Za.1 hk).1;omega
   obtain⟨b,hb,gw⟩:=m2 k _ (Zb ie);rw[hk]at hb;cases hb;exact ih _ _ _ (h3 k _ (Zb ie)) gw
  |fn f xs=>
   simp only[cD,Ze]at hy;obtain⟨ys,yg,rfl⟩:=hy;obtain⟨us,rfl,h1,h3⟩:=hr.wq;obtain⟨m1,m2⟩:=iP yg;refine .fn f us ys (by omega) λk y hk=>?_
   have ie:k<xs.length:=by have:=(Za.1 hk).1;omega
   obtain⟨b,hb,gw⟩:=m2 k _ (Zb ie);rw[hk]at hb;cases hb;exact ih _ _ _ (h3 k _ (Zb ie)) gw
  |sl id sz off len kk=>
   simp only[cD]at hy;split at hy
   case h_2=>cases hy
   rename_i cs cZ;split at hy
   case isFalse=>cases hy
   rename_i da;simp only[Ze]at hy;obtain⟨ys,yg,rfl⟩:=hy;obtain⟨cap,adP,t0,fz,rfl,c1,c2,c3,_,_,c4,c5⟩:=hr.jT;obtain⟨cF,t1,fz1,us,d1,d3⟩:=hs.cells cZ;obtain⟨m1,m2⟩:=iP yg;have hylen:ys.length=len*sz:=by rw[m1];simp;omega
   have fG:∀(i:Nat)(row:List AV),((List.range len).map λi=>(ys.drop (i*sz)).take sz)[i]?=some row->i<len/\row=(ys.drop (i*sz)).take sz:=by
    intro i row cz;simp only[Zs,Ze]at cz;obtain⟨k,hk,rfl⟩:=cz;have k_:i<len:=by have:=(Za.1 hk).1;simpa using this
    rw[Xb k_]at hk;cases hk;exact⟨k_,rfl⟩
   have dX:∀(i:Nat)(row:List AV)(j:Nat)(x:AV),((List.range len).map λi=>(ys.drop (i*sz)).take sz)[i]?=some row->row[j]?=some x->j<sz/\i*sz+j<len*sz/\ys[i*sz+j]?=some x:=by
    intro i row j x cz hx;obtain⟨k_,rfl⟩:=fG i row cz;rw[Xn]at hx;split at hx
    .rename_i hj;rw[Xo]at hx;refine⟨hj,?_,hx⟩;have:=(Za.1 hx).1;omega
    .cases hx
   have hval:∀(k:Nat)(y:AV),ys[k]?=some y->k<len*sz->cF[off+k]?=some (us (off+k))/\(us (off+k)).oneCell'=true/\Ri w X (us (off+k)) y:=by
    intro k y hk ie;have hcs:((cs.drop off).take (len*sz))[k]?=cs[off+k]?:=by
     rw[Xn,cq ie,Xo]
    have hkc:off+k<cs.length:=by omega
    obtain⟨b,hb,gw⟩:=m2 k cs[off+k] (by rw[hcs,Zb hkc]);rw[hk]at hb;cases hb;have h3:=d3 (off+k) _ (Zb hkc);exact⟨h3.1,h3.2.1,ih _ _ _ h3.2.2 gw⟩
   refine .ls (ρ id) off len cap sz _ false (λi j=>us (off+(i*sz+j))) cF t1 fz1 (hs.af4 cZ) d1 (by simp) c4 c5 (λh=>by cases h) ?_ ?_ ?_
   .intro i row cz;obtain⟨k_,rfl⟩:=fG i row cz;have:(i+1)*sz<=len*sz:=Zx _ k_;rw[Xp]at this;simp;omega
   .intro i row j x cz hx;obtain⟨_,q2,q3⟩:=dX i row j x cz hx;have:=hval _ _ q3 q2;exact⟨by rw[<-this.1];congr 1;omega,this.2.1⟩
   .intro i row j x cz hx;obtain⟨_,q2,q3⟩:=dX i row j x cz hx;exact(hval _ _ q3 q2).2.2
  |_=>simp[cD]at hy
def Cg{ids:List Nat}{h:Hp}{id:Nat}{cs:List AV}(hr:rowOf (mask ids h) id=some cs):rowOf h id=some cs:=by
 unfold rowOf at hr|-;have key:∀b,(mask ids h)[id]?=some b->b≠ .dead->h[id]?=some b:=by
  intro b hb hd;unfold mask at hb;simp only[Zs,Ze]at hb;obtain⟨k,hk,hb⟩:=hb;have ie:id<h.length:=by have:=(Za.1 hk).1;simpa using this
  rw[Xb ie]at hk;cases hk;split at hb
  .simp only[List.getD,Zb ie,Xm]at hb;rw[Zb ie,hb]
  .exact absurd hb.symm hd
 split at hr
 .rename_i cs' hi;rw[key _ hi (by simp)];exact hr
 .rename_i cs' hi;rw[key _ hi (by simp)];exact hr
 .rename_i cs' hi;rw[key _ hi (by simp)];exact hr
 .cases hr
def Qq{ids:List Nat}{h:Hp}:∀(n:Nat)(x y:AV),cD (mask ids h) n x=some y->cD h n x=some y:=by
 intro n
 induction n with
 |zero=>intro x y hs;cases x<;>simp_all [cD]
 |succ n ih=>
  have many:∀(xs ys:List AV),xs.mapM (cD (mask ids h) n)=some ys->xs.mapM (cD h n)=some ys:=by
   intro xs
   induction xs with
   |nil=>intro ys hm;simpa using hm
   |cons x xs ND=>
    intro ys hm;simp only[Zo,Option.bind_eq_bind,Yj,Option.pure_def,Zc]at hm|-;obtain⟨b,hb,bs,hbs,rfl⟩:=hm;exact⟨b,ih _ _ hb,bs,ND _ hbs,rfl⟩
  intro x y hs;cases x with
  |sc u=>simpa[cD]using hs
  |ls sz cg z=>simpa[cD]using hs
  |rp row j=>simpa[cD]using hs
  |oc=>simpa[cD]using hs
  |pt id off=>
   simp only[cD]at hs|-;split at hs
   case h_2=>cases hs
   rename_i cs cZ;rw[Cg cZ];simp only[Ze]at hs|-;obtain⟨ys,yg,rfl⟩:=hs;exact⟨ys,many _ _ yg,rfl⟩
  |sl id sz off len k=>
   simp only[cD]at hs|-;split at hs
   case h_2=>cases hs
   rename_i cs cZ;rw[Cg cZ];simp only;split at hs
   case isFalse=>cases hs
   rename_i da;rw[cq da];simp only[Ze]at hs|-;obtain⟨ys,yg,rfl⟩:=hs;exact⟨ys,many _ _ yg,rfl⟩
  |ag xs=>
   simp only[cD,Ze]at hs|-;obtain⟨ys,yg,rfl⟩:=hs;exact⟨ys,many _ _ yg,rfl⟩
  |tp xs=>
   simp only[cD,Ze]at hs|-;obtain⟨ys,yg,rfl⟩:=hs;exact⟨ys,many _ _ yg,rfl⟩
  |fn f xs=>
   simp only[cD,Ze]at hs|-;obtain⟨ys,yg,rfl⟩:=hs;exact⟨ys,many _ _ yg,rfl⟩
  |_=>simp[cD]at hs
def LG{ids:List Nat}{h h':Hp}(hz:freeze ids h=some h'):h'.length=h.length/\∀(i:Nat)(b':eK),h'[i]?=some b'->
 (i∉ids/\h[i]?=some b')\/(i∈ids/\((∃cs cs',h[i]?=some (.row cs)/\cs.mapM (cD (mask ids h) 8)=some cs'/\b'= .GR cs')\/(h[i]?=some b'/\vx b'=false))):=by
 unfold freeze at hz;obtain⟨m1,m2⟩:=iP hz;have hl:h'.length=h.length:=by rw[m1];simp
 refine⟨hl,λi b' hi=>?_⟩;have k_:i<h.length:=by have:=(Za.1 hi).1;omega
 obtain⟨b,hb,hf⟩:=m2 i i (by rw[Xb k_]);rw[hi]at hb;cases hb;split at hf
 .rename_i hc;have tY:i∈ids:=by simpa using hc
  right;refine⟨tY,?_⟩;split at hf
  .rename_i cs hh;simp only[Ze]at hf;obtain⟨cs',hcs,rfl⟩:=hf;exact .inl ⟨cs,cs',hh,hcs,rfl⟩
  .rename_i cs hh;cases hf;exact .inr ⟨hh,rfl⟩
  .rename_i hh;cases hf;exact .inr ⟨hh,rfl⟩
  .cases hf
 .rename_i hc;exact .inl ⟨by simpa using hc,hf⟩
def Ga{G:Nat->Option (List Value)}{w:World}{X:Nat->Prop}{ρ:Nat->Nat}{h h':Hp}{ids:List Nat}(hs:gf G w X ρ h)(hz:freeze ids h=some h'):
 Ext G w X ρ h w ρ h'/\∀(n:Nat)(v:Value)(x y:AV),Rp w (dK X ρ h) ρ h.length v x->cD (mask ids h) n x=some y->Ri w (dK X ρ h') v y:=by
 obtain⟨hl,hg⟩:=LG hz;have gL:∀i,live h' i->live h i/\i∉ids:=by
  rintro i ⟨b,hi,hb⟩;rcases hg i b hi with⟨h1,h2⟩|⟨_,⟨cs,cs',_,_,rfl⟩|⟨_,h3⟩⟩
  .exact⟨⟨b,h2,hb⟩,h1⟩
  .cases hb
  .rw[h3]at hb;cases hb
 have XD:(mask ids h).length=h.length:=by simp[mask]
 have hmk:∀(i:Nat)(b:eK),(mask ids h)[i]?=some b->b≠ .dead->h[i]?=some b/\i∈ids:=by
  intro i b hb hd;unfold mask at hb;simp only[Zs,Ze]at hb;obtain⟨k,hk,hb⟩:=hb;have ie:i<h.length:=by have:=(Za.1 hk).1;simpa using this
  rw[Xb ie]at hk;cases hk;split at hb
  .rename_i hc;simp only[List.getD,Zb ie,Xm]at hb;rw[Zb ie,hb];exact⟨rfl,by simpa using hc⟩
  .exact absurd hb.symm hd
 have yQ:∀i,live (mask ids h) i->live h i/\i∈ids:=by
  rintro i ⟨b,hi,hb⟩;have:=hmk i b hi (λe=>by subst e;cases hb);exact⟨⟨b,this.1,hb⟩,this.2⟩
 have pW:∀b,dK (dK X ρ h') ρ (mask ids h) b->dK X ρ h b:=by
  rintro b ((hx|⟨i,hi,e⟩)|⟨i,hi,e⟩)
  .exact .inl hx
  .exact .inr ⟨i,(gL i hi).1,e⟩
  .exact .inr ⟨i,(yQ i hi).1,e⟩
 have hsm:gf G w (dK X ρ h') ρ (mask ids h):=by
  refine⟨?_,λg row hgr=>?_,λi j hi hj=>hs.inj i j (yQ i hi).1 (yQ j hj).1,?_,?_,?_⟩
  .rintro b (hx|⟨i,hi,e⟩)
   .exact hs.GA b hx
   .rw[<-e];exact hs.lt (gL i hi).1
  .obtain⟨h1,h2⟩:=hs.s8 g row hgr;exact⟨λhh=>h1 (pW g hh),h2⟩
  .rintro i hi (hx|⟨j,hj,e⟩)
   .exact hs.out i (yQ i hi).1 hx
   .have:=hs.inj j i (gL j hj).1 (yQ i hi).1 e;subst this;exact(gL j hj).2 (yQ j hi).2
  .intro i cs hi hh;exact hs.jI i cs (hmk i _ hi (by simp)).1 (pW _ hh)
  .intro i b hi;by_cases hd:b= .dead
   .subst hd;trivial
   .have hb:=hs.y6 i b (hmk i b hi hd).1;cases b with
    |dead=>exact absurd rfl hd
    |row cs=>
     obtain⟨cF,t,fz,us,h1,hf,h2,h3⟩:=hb;exact⟨cF,t,fz,us,h1,hf,h2,λk x hk=>⟨(h3 k x hk).1,(h3 k x hk).2.1,by rw[XD];exact(h3 k x hk).2.2.AQ pW⟩⟩
    |map es clock=>
     obtain⟨ms,h1,h2,RW,h3⟩:=hb;refine⟨ms,h1,h2,RW,λk e hk=>?_⟩;obtain⟨m,a1,a2,a3,a4,a5⟩:=h3 k e hk;exact⟨m,a1,a2,a3,a4,by rw[XD];exact a5.AQ pW⟩
    |GR cs=>
     obtain⟨cF,t,fz,us,h1,h3⟩:=hb;exact⟨cF,t,fz,us,h1,λk x hk=>⟨(h3 k x hk).1,(h3 k x hk).2.1,(h3 k x hk).2.2.AQ pW⟩⟩
    |iter s p=>exact hb
    |raw cs=>
     obtain⟨cF,t,fz,us,h1,hf,h2,h3⟩:=hb;exact⟨cF,t,fz,us,h1,hf,h2,λk x hk=>⟨(h3 k x hk).1,(h3 k x hk).2.1,by rw[XD];exact(h3 k x hk).2.2.AQ pW⟩⟩
 have ab1:∀(n:Nat)(v:Value)(x y:AV),Rp w (dK X ρ h) ρ h.length v x->cD (mask ids h) n x=some y->Ri w (dK X ρ h') v y:=λn v x y hr hy=>
  sq hsm n v x y (by rw[XD];exact hr.AQ pW) hy
 refine⟨GU hs h' hl λi b' hi=>?_,ab1⟩;rcases hg i b' hi with⟨_,h2⟩|⟨_,⟨cs,cs',h1,h2,rfl⟩|⟨h1,_⟩⟩
 .exact .inr (.inl h2)
 .refine .inr (.inr ⟨cs',rfl,⟨_,h1,rfl⟩,?_⟩);obtain⟨cF,t,fz,us,d1,_,_,d3⟩:=hs.row i cs h1;obtain⟨m1,m2⟩:=iP h2;refine⟨cF,t,fz,us,d1,λk y hk=>?_⟩;have ie:k<cs.length:=by have:=(Za.1 hk).1;omega
  obtain⟨b,hb,gw⟩:=m2 k _ (Zb ie);rw[hk]at hb;cases hb;have h3:=d3 k _ (Zb ie);exact⟨h3.1,h3.2.1,ab1 8 _ _ _ h3.2.2 gw⟩
 .exact .inr (.inl h1)
end Go.Ae
