/- Part of the proof. -/
import Derived.Test.YtmocfjnklfpnbaaGreatDoorP2
import Derived.IntWalk
set_option linter.all false
namespace Go.Ae
open Go
def eK :Nat->Prop:=λ_=>False
def quiet_step{w w':World}{ρ:Nat->Nat}{h:Hp}(dO:Step w eK w' eK):Step w (own ρ h) w' (own ρ h):=
 ⟨dO.os,dO.tape,dO.output,dO.size,λb hb _=>dO.keep b hb (λh=>h),dO.row,λ_ _ hh=>hh,dO.drew⟩
def jY{G:Nat->Option (List Value)}{w w':World}{X:Nat->Prop}{ρ:Nat->Nat}{h:Hp}(hs:ia G w X ρ h)(dO:Step w eK w' eK):Ext G w X ρ h w' ρ h:=by
 have hk:∀b o,w.heap[b]?=some o->w'.heap[b]?=some o:=λb o hb=>(dO.keep b (fI hb) (λh=>h)).trans hb
 have ft:Step w (own ρ h) w' (own ρ h):=quiet_step dO;refine⟨⟨λb hb=>Nat.lt_of_lt_of_le (hs.FC b hb) dO.size,λg row hg=>?_,hs.inj,hs.out,hs.pb,?_⟩,λ_ _=>rfl,Yq _,ft⟩
 .obtain⟨h1,c,t,fz,h2,h3⟩:=hs.rS g row hg;exact⟨h1,c,t,fz,hk g _ h2,h3⟩
 .intro i b hi;by_cases hd:b= .dead
  .subst hd;trivial
  .have hb:=hs.km i b hi;rw[dO.keep _ (hb.lt hd) (λh=>h)];exact hb.step ft (λ_ _=>rfl) (Yq _)
def zl{w:World}{X:Nat->Prop}{ρ:Nat->Nat}{n:Nat}{v:Value}{x:AV}(h:Rp w X ρ n v x)(hc:calm x=true):Ri w X v x:=by
 have one:∀{v:Value}{x:AV},Rp w X ρ n v x->(match x with| .sc _| .ls .. | .rp .. =>true|_=>false)=true->Ri w X v x:=by
  intro v x h hx;cases h with
  |im hi=>exact hi
  |_=>simp at hx
 unfold calm at hc;split at hc
 .exact one h rfl
 .exact one h rfl
 .exact one h rfl
 .rename_i xs;obtain⟨us,rfl,h1,h2,h3⟩:=h.xm;rw[Yp]at hc;exact .ag us xs h1 h2 λk x hk=>one (h3 k x hk) (hc x (Zi hk))
 .rename_i xs;obtain⟨us,rfl,h1,h3⟩:=h.pj;rw[Yp]at hc;exact .fn _ us xs h1 λk x hk=>one (h3 k x hk) (hc x (Zi hk))
 .cases hc
def RC(w:World)(X:Nat->Prop)(ρ:Nat->Nat)(n:Nat)(us:Array Value)(xs:List AV):Prop:=
 us.size=xs.length/\(∀k,k<us.size->(us.getD k undef).oneCell'=true)/\∀(k:Nat)(x:AV),xs[k]?=some x->Rp w X ρ n (us.getD k undef) x
def uf(off:Nat):∀(vs:List Value)(s:Nat)(cells:Array Value)(k:Nat),off+s+vs.length<=cells.size->
 ((vs.zipIdx s).foldl (λcs p=>cs.setIfInBounds (off+p.2) p.1) cells)[k]?=if off+s<=k/\k<off+s+vs.length then vs[k-(off+s)]? else cells[k]?
 | [],s,cells,k,_=>by simp;omega
 |
  v::vs,s,cells,k,cP=>by
  simp only[Ys]at cP;simp only[List.zipIdx_cons,Yi];rw[uf off vs (s+1) _ k (by simp;omega)];by_cases h1:off+s=k
  .subst h1;rw[cv (by omega),cw (by simp)];have:off+s<cells.size:=by omega
   simp[this]
  .by_cases h2:off+(s+1)<=k/\k<off+(s+1)+vs.length
   .rw[cw h2,cw (by simp only[Ys];omega)];have:k-(off+s)=(k-(off+(s+1)))+1:=by omega
    rw[this,List.getElem?_cons_succ]
   .rw[cv h2,cv (by simp only[Ys];omega),Array.getElem?_setIfInBounds_ne h1]
def ou(off:Nat):∀(vs:List Value)(s:Nat)(cells:Array Value),((vs.zipIdx s).foldl (λcs p=>cs.setIfInBounds (off+p.2) p.1) cells).size=cells.size
 | [],s,cells=>rfl
 |v::vs,s,cells=>by simp only[List.zipIdx_cons,Yi];rw[ou off vs (s+1)];simp
section lit
variable {C : Cx} {w : World} {X : Nat -> Prop} {ρ : Nat -> Nat} {h : Hp} {a : Act} {fr : List AV} {o : Oper}
def RC.set{n:Nat}{us:Array Value}{xs:List AV}(hr:RC w X ρ n us xs){v:Value}{ys:List AV}(h1:v.cells.size=ys.length)(h2:∀k,k<v.cells.size->(v.cells.getD k undef).oneCell'=true)(h3:∀(k:Nat)(y:AV),ys[k]?=some y->Rp w X ρ n (v.cells.getD k undef) y){off:Nat}(cP:off+ys.length<=xs.length):
 RC w X ρ n (v.cells.zipIdx.foldl (λcs(p:Value × Nat)=>cs.setIfInBounds (off+p.2) p.1) us) (cF xs off ys):=by
 obtain⟨r1,r2,r3⟩:=hr;have e:v.cells.zipIdx.foldl (λcs(p:Value × Nat)=>cs.setIfInBounds (off+p.2) p.1) us=(v.cells.toList.zipIdx 0).foldl (λcs p=>cs.setIfInBounds (off+p.2) p.1) us:=by
  rw[<-Array.foldl_toList,Array.toList_zipIdx]
 rw[e];have mj:=λk=>uf off v.cells.toList 0 us k (by simp;omega)
 simp only[Nat.add_zero,Yu]at mj;have hval:∀k,((v.cells.toList.zipIdx 0).foldl (λcs(p:Value × Nat)=>cs.setIfInBounds (off+p.2) p.1) us).getD k undef=if off<=k/\k<off+v.cells.size then v.cells.getD (k-off) undef else us.getD k undef:=by
  intro k;rw[Zr,mj k];split
  .simp[Zr]
  .simp[Zr]
 refine⟨by rw[ou,uc cP];exact r1,λk hk=>?_,λk x hk=>?_⟩
 .rw[hval];rw[ou]at hk;by_cases hc:off<=k/\k<off+v.cells.size
  .rw[cw hc];exact h2 _ (by omega)
  .rw[cv hc];exact r2 k hk
 .rw[hval];rw[uK (by omega)]at hk;split at hk
  .rename_i hc;rw[cw (by omega)];exact h3 _ x hk
  .rename_i hc;rw[cv (by omega)];exact r3 k x hk
def wc(hs:ia C.G w X ρ h)(hf:RF w (dZ X ρ h) ρ h.length a.tmps fr){pA pV:Nat->Option (Nat × Nat)}(hp:∀i q,pA i=some q->pV i=some q):
 ∀(ps:List (Nat × Operand))(us:Array Value)(xs out:List AV),RC w (dZ X ρ h) ρ h.length us xs->lX pA xs (ps.map λp=>(p.1,ev C fr p.2))=some out->
  ∃xA,Instr.fill pV us (ps.map λp=>(p.1,a.eval p.2))=some xA/\RC w (dZ X ρ h) ρ h.length xA out
 | [],us,xs,out,hr,ho=>by simp[lX]at ho;subst ho;exact⟨us,rfl,hr⟩
 |
  p::ps,us,xs,out,hr,ho=>by
  simp only[Yn,lX]at ho;split at ho
  .rename_i off size cs hq hc;split at ho
   .rename_i qU;obtain⟨c1,c2,c3⟩:=(dM hs hf p.2).zk hc;have cC:=hr.set c1 c2 c3 (off:=off) (by omega);obtain⟨xA,e1,e2⟩:=wc hs hf hp ps _ _ out cC ho;refine⟨xA,?_,e2⟩;simp only[Yn,Instr.fill,hp _ _ hq];rw[cv (by have:=hr.1;simp only[ne_eq,Yx,Zy,not_or];omega)];exact e1
   .cases ho
  .cases ho
def XK{z:Value}(h8:∀u∈z.cells.toList,lr u=true)(n:Nat):RC w X ρ n z.cells (z.cells.toList.map .sc):=by
 refine⟨by simp,λk hk=>?_,λk x hk=>?_⟩
 .have:z.cells.getD k undef∈z.cells.toList:=by simp[hk]
  exact lN (h8 _ this)
 .simp only[Zs,Ze]at hk;obtain⟨u,hu,rfl⟩:=hk;have hu':z.cells[k]?=some u:=by simpa using hu
  have:z.cells.getD k undef=u:=by simp[hu']
  rw[this];exact .im (.sc u (h8 u (Zi hu)))
def Bh{P:Program}(w:World):∀(fs:List Field)(l:List (Nat × Nat × Bool)),l.length=fs.length->(∀(k:Nat)(f:Field),fs[k]?=some f->∃fi,P.info? f.type=some fi/\(l[k]?).map (λq=>(q.1,q.2.1))=some (f.offset,fi.size))->
 (fs.mapM (m:=Sem) λf=>do pure (f.offset,<-sizeOf f.type)).run P w= .ok (l.map λq=>(q.1,q.2.1)) w
 |
  [],l,hl,_=>by
  have:l=[]:=Zl (by simpa using hl);subst this;simp
 |
  f::fs,l,hl,hg=>by
  cases l with
  |nil=>simp at hl
  |cons q l=>
   obtain⟨fi,h1,h2⟩:=hg 0 f rfl;have ih:=Bh w fs l (by simpa using hl) (λk f' hk=>by simpa using hg (k+1) f' (by simpa using hk));simp only[List.getElem?_cons_zero,Yw,Zc]at h2;simp only[Zo,Sem.run_bind,fX h1,Result.andThen_ok,Sem.run_pure,ih,Yn,h2]
def Mc(hs:ia C.G w X ρ h)(hf:RF w (dZ X ρ h) ρ h.length a.tmps fr){t:TypeId}{parts:Array (Nat × Operand)}(dq:o.op= .build t parts){i:Ti}(hi:ir C.P t=some i){pA:Nat->Option (Nat × Nat)}(hk:(∃fs,i.kd= .struct fs/\pA=λk=>(fs[k]?).map λf=>(f.1,f.2.1))\/(∃n sz ag,i.kd= .array n sz ag/\pA=λk=>some (k*sz,sz))){cs:List AV}(hc:lX pA (i.zero.map .sc) (parts.toList.map λp=>(p.1,ev C fr p.2))=some cs):Good C o a w X ρ h (.ag cs) h:=by
 obtain⟨d,info,z,h1,h2,h3,h4,h5,h6,h7,h8,h9⟩:=eX hi;rw[h7]at hc;have hz:=XK (w:=w) (X:=dZ X ρ h) (ρ:=ρ) h8 h.length;have Cr:(parts.map λp=>(p.1,a.eval p.2)).toList=parts.toList.map λp=>(p.1,a.eval p.2):=by simp
 rcases hk with⟨fs,hk,rfl⟩|⟨n,sz,ag,hk,rfl⟩
 .rw[hk]at h4;obtain⟨fields,rfl,cp,mj⟩:=sa h4;have oy:=Bh (P:=C.P) w fields.toList fs (by simpa using cp) (λk f Dp=>by
   obtain⟨fi,fd,g1,g2,g3⟩:=mj k f (by simpa using Dp);exact⟨fi,g1,by rw[g3];rfl⟩)
  obtain⟨xA,e1,e2⟩:=wc hs hf (pV:=λk=>((fs.map λq=>(q.1,q.2.1)).toArray)[k]?) (λk q hq=>by simpa using hq) parts.toList _ _ cs hz hc;refine cN hs (v:= .agg xA) ?_ (.ag xA cs e2.1 e2.2.1 e2.2.2);have V2:(fields.mapM (m:=Sem) λf=>do pure (f.offset,<-sizeOf f.type)).run C.P w= .ok (fs.map λq=>(q.1,q.2.1)).toArray w:=by
   rw[Array.mapM_eq_mapM_toList,Sem.run_map,oy];rfl
  simp only[execOp,dq,Instr.build,Sem.run_bind,oa h2 h3,Result.andThen_ok,run_underlying h1,V2,Cr,e1,Sem.run_pure]
 .rw[hk]at h4;obtain⟨e,ei,ed,rfl,k1,k2,rfl,k4⟩:=uJ h4;obtain⟨xA,e1,e2⟩:=wc hs hf (pV:=λk=>some (k*ei.size,ei.size)) (λk q hq=>hq) parts.toList _ _ cs hz hc;refine cN hs (v:= .agg xA) ?_ (.ag xA cs e2.1 e2.2.1 e2.2.2);simp only[execOp,dq,Instr.build,Sem.run_bind,oa h2 h3,Result.andThen_ok,run_underlying h1,fX k1,Cr,e1,Sem.run_pure]
def Md{α:Type}(l:List α):∀(n k:Nat),((List.range n).flatMap λ_=>l)[k]?=if k<n*l.length then l[k % l.length]? else none
 |0,k=>by simp
 |
  n+1,k=>by
  have e:((List.range (n+1)).flatMap λ_=>l)=l++(List.range n).flatMap λ_=>l:=by
   rw[List.range_succ_eq_map,Ym,List.flatMap_map]
  rw[e];by_cases hk:k<l.length
  .rw[Zd hk,cw (by rw[Xh];omega),Nat.mod_eq_of_lt hk]
  .rw[Zf (by omega),Md l n (k-l.length)];have hm:k % l.length=(k-l.length) % l.length:=by
    rw[Nat.mod_eq_sub_mod (by omega)]
   rw[hm];by_cases h2:k-l.length<n*l.length
   .rw[cw h2,cw (by rw[Xh];omega)]
   .rw[cv h2,cv (by rw[Xh];omega)]
def uV{α:Type}(l:List α)(n:Nat):((List.range n).flatMap λ_=>l).length=n*l.length:=by
 induction n with
 |zero=>simp
 |succ n ih=>
  have e:((List.range (n+1)).flatMap λ_=>l)=l++(List.range n).flatMap λ_=>l:=by
   rw[List.range_succ_eq_map,Ym,List.flatMap_map]
  rw[e,Zu,ih,Xh];omega
def wk{z:Value}(h8:∀u∈z.cells.toList,lr u=true)(n m:Nat)(hz:0<z.cells.size):RC w X ρ n ((Array.range (m*z.cells.size)).map (z.cells[· % z.cells.size]!)) ((List.range m).flatMap λ_=>z.cells.toList.map .sc):=by
 refine⟨by rw[uV];simp,λk hk=>?_,λk x hk=>?_⟩
 .simp only[Array.size_map,Array.size_range]at hk;have hm:k % z.cells.size<z.cells.size:=Nat.mod_lt _ hz;have:((Array.range (m*z.cells.size)).map (z.cells[· % z.cells.size]!)).getD k undef=z.cells[k % z.cells.size]:=by simp[hk,hm]
  rw[this];exact lN (h8 _ (by simp))
 .rw[Md]at hk;simp only[Yh,Yu]at hk;split at hk
  .rename_i du;simp only[Zs,Ze]at hk;obtain⟨u,hu,rfl⟩:=hk;have hm:k % z.cells.size<z.cells.size:=Nat.mod_lt _ hz;have hu':z.cells[k % z.cells.size]=u:=by
    have:z.cells[k % z.cells.size]?=some u:=by simpa using hu
    rw[Xf hm]at this;simpa using this
   have:((Array.range (m*z.cells.size)).map (z.cells[· % z.cells.size]!)).getD k undef=u:=by simp[du,hm,hu']
   rw[this];exact .im (.sc u (h8 u (by rw[<-hu'];simp)))
  .cases hk
def Dt(hs:ia C.G w X ρ h){us:Array Value}{cs:List AV}(hr:RC w (dZ X ρ h) ρ h.length us cs)(t:TypeId):
 Ext C.G w X ρ h (w.alloc (.cells us t (0,0))) (λi=>if i=h.length then w.heap.size else ρ i) (h++[.row cs]):=
 sS hs us t cs (λk=>us.getD k undef) (by rw[hr.1];omega) (λk x hk=>by
  have du:k<us.size:=by have:=(Za.1 hk).1;rw[hr.1];exact this
  exact⟨by simp[du],hr.2.1 k du,hr.2.2 k x hk⟩) (0,0) (.inl rfl)
def uW(w0 w':World)(h:Hp)(ρ:Nat->Nat)(X':Nat->Prop)(m sz len cap:Nat)(hm:h.length<m)(cV:Array Value)(t:TypeId)(fz:Nat × Nat)(hw:w'.heap[w0.heap.size]?=some (.cells cV t fz))(hc:cap*sz=cV.size)(hl:len<=cap)(hx:cap<=maxLen):
 Rp w' X' (λi=>if i=h.length then w0.heap.size else ρ i) m (.slice (some ⟨w0.heap.size,0,none⟩) len cap) (.sl h.length sz 0 len false):=by
 have:=Rp.sl (w:=w') (X:=X') (ρ:=λi=>if i=h.length then w0.heap.size else ρ i) h.length sz 0 len cap false cV t fz hm (by simpa using hw) (by omega) (by simp) (by simp;omega) hl hx;simpa using this
def jZ(w:World)(ob:Obj):(w.alloc ob).heap[w.heap.size]?=some ob:=by
 show(w.heap.push ob)[w.heap.size]?=some ob;simp
def S4{w:World}{X:Nat->Prop}{b cap sz len:Nat}{cs:List AV}{cV:Array Value}{t:TypeId}{fz:Nat × Nat}(hx:¬X b)(hb:w.heap[b]?=some (.cells cV t fz))(cp:len*sz<=cs.length)(hc:len<=cap)(hm:cap<=maxLen)(z:Bool)(hz:z=true->cap=len)(fO:∀(k:Nat)(y:AV),cs[k]?=some y->∃u,cV[k]?=some u/\u.oneCell'=true/\Ri w X u y):
 Ri w X (.slice (some ⟨b,0,none⟩) len cap) (.ls sz (chunk sz len cs) z):=by
 have cY:∀(i:Nat)(row:List AV),(chunk sz len cs)[i]?=some row->i<len/\row=(cs.drop (i*sz)).take sz:=by
  intro i row cC;simp only[chunk,Zs,Ze]at cC;obtain⟨k,hk,rfl⟩:=cC;have iJ:i<len:=by have:=(Za.1 hk).1;simpa using this
  rw[Yz iJ]at hk;cases hk;exact⟨iJ,rfl⟩
 have Cn:∀(i:Nat)(row:List AV)(j:Nat)(x:AV),(chunk sz len cs)[i]?=some row->row[j]?=some x->∃u,cV[0+i*sz+j]?=some u/\u.oneCell'=true/\Ri w X u x:=by
  intro i row j x cC hx;obtain⟨iJ,rfl⟩:=cY i row cC;rw[Xi]at hx;split at hx
  .rw[Xj]at hx;rw[Xk];exact fO _ _ hx
  .cases hx
 refine .ls b 0 len cap sz _ z (λi j=>cV.getD (0+i*sz+j) undef) cV t fz hx hb (by simp[chunk]) hc hm hz ?_ ?_ ?_
 .intro i row cC;obtain⟨iJ,rfl⟩:=cY i row cC;have:(i+1)*sz<=len*sz:=Nat.mul_le_mul_right sz iJ;rw[Xh,Nat.one_mul]at this;simp only[Xa,List.length_drop];omega
 .intro i row j x cC hx;obtain⟨u,h1,h2,_⟩:=Cn i row j x cC hx;have:cV.getD (0+i*sz+j) undef=u:=by rw[Zr,h1];rfl
  simp only[this];exact⟨h1,h2⟩
 .intro i row j x cC hx;obtain⟨u,h1,_,h3⟩:=Cn i row j x cC hx;have:cV.getD (0+i*sz+j) undef=u:=by rw[Zr,h1];rfl
  simp only[this];exact h3
def mK(w:World)(ob:Obj):Step w eK (w.alloc ob) eK:=by
 have hold:∀b,b<w.heap.size->(w.alloc ob).heap[b]?=w.heap[b]?:=λb hb=>by
  show(w.heap.push ob)[b]?=_;simp[Array.getElem?_push,Xe hb]
 exact⟨rfl,rfl,rfl,by show _<=(w.heap.push ob).size;simp,λb hb _=>hold b hb,λb c t' I1 hb=>⟨c,t',I1,(hold b (fI hb)).trans hb,rfl⟩,λ_ _ h=>h,Yq _⟩
def HN(w:World)(k:Nat)(hk:w.drawn<=k):Step w eK {w with drawn:=k} eK:=⟨rfl,rfl,rfl,Yq _,λ_ _ _=>rfl,λ_ _ _ _ hb=>⟨_,_,_,hb,rfl⟩,λ_ _ h=>h,hk⟩
def xB(hs:ia C.G w X ρ h){w':World}(dO:Step w eK w' eK){cV:Array Value}{e:TypeId}{fz:Nat × Nat}(nN:w'.heap[w.heap.size]?=some (.cells cV e fz)){cs:List AV}{len cap sz:Nat}(cp:len*sz<=cs.length)(hc:len<=cap)(hm:cap<=maxLen)(z:Bool)(hz:z=true->cap=len)(fZ:cs.all calm=true)(fO:∀(k:Nat)(y:AV),cs[k]?=some y->∃u,cV[k]?=some u/\u.oneCell'=true/\Rp w (dZ X ρ h) ρ h.length u y)(hr:(execOp a.eval o).run C.P w= .ok (.value (.slice (some ⟨w.heap.size,0,none⟩) len cap)) w'):Good C o a w X ρ h (.ls sz (chunk sz len cs) z) h:=by
 have he:=jY hs dO;have hnX:¬dZ X ρ h w.heap.size:=λhh=>by
  rcases hh with hx|⟨i,hi,e⟩
  .have:=hs.FC _ hx;omega
  .have:=hs.lt hi;omega
 refine eD hr he (.im (S4 hnX nN cp hc hm z hz λk y hk=>?_));obtain⟨u,h1,h2,h3⟩:=fO k y hk;rw[Yp]at fZ;exact⟨u,h1,h2,zl (he.rp h3) (fZ y (Zi hk))⟩
def RC.cell{n:Nat}{us:Array Value}{xs:List AV}(hr:RC w X ρ n us xs)(k:Nat)(y:AV)(hk:xs[k]?=some y):∃u,us[k]?=some u/\u.oneCell'=true/\Rp w X ρ n u y:=by
 have du:k<us.size:=by have:=(Za.1 hk).1;rw[hr.1];exact this
 refine⟨us.getD k undef,by simp[du],hr.2.1 k du,hr.2.2 k y hk⟩
def wm(hs:ia C.G w X ρ h)(hf:RF w (dZ X ρ h) ρ h.length a.tmps fr){t:TypeId}{len:Nat}{parts:Array (Nat × Operand)}(dq:o.op= .buildSlice t len parts){i:Ti}(hi:ir C.P t=some i){sz tM:Nat}{ag:Bool}{ez:List Value}(hk:i.kd= .slice sz ag tM ez)(Cs:len*sz<=16777216){cs:List AV}(hc:lX (λk=>some (k*sz,sz)) ((List.range len).flatMap λ_=>ez.map .sc) (parts.toList.map λp=>(p.1,ev C fr p.2))=some cs):
 ∃(xA:Array Value)(e:TypeId),RC w (dZ X ρ h) ρ h.length xA cs/\xA.size=len*sz/\len<=maxLen/\(execOp a.eval o).run C.P w= .ok (.value (.slice (some ⟨w.heap.size,0,none⟩) len len)) (w.alloc (.cells xA e (0,0))):=by
 obtain⟨d,info,z,h1,h2,h3,h4,h5,h6,h7,h8,h9⟩:=eX hi;rw[hk]at h4;obtain⟨e,ei,ed,Nw,rfl,k1,k2,k3,rfl,k5,k6,rfl,k8,k9,C4⟩:=gX h4;have hzr:RC w (dZ X ρ h) ρ h.length ((Array.range (len*ei.size)).map ((if len*ei.size=0 then #[]else Nw.cells)[· % (if len*ei.size=0 then(#[]:Array Value)else Nw.cells).size]!)) ((List.range len).flatMap λ_=>Nw.cells.toList.map .sc):=by
  by_cases h0:len*ei.size=0
  .have:len=0:=by rcases Nat.mul_eq_zero.1 h0 with h|h<;>omega
   subst this;exact⟨by simp,by simp⟩
  .simp only[h0,if_false];have:=wk (w:=w) (X:=dZ X ρ h) (ρ:=ρ) k8 h.length len (by omega)
   rwa [k9]at this|-
 obtain⟨xA,e1,e2⟩:=wc hs hf (pV:=λk=>some (k*ei.size,ei.size)) (λk q hq=>hq) parts.toList _ _ cs hzr hc;have gI:xA.size=len*ei.size:=by
  rw[e2.1];have vj:∀(p:Nat->Option (Nat × Nat))(ps:List (Nat × AV))(xs out:List AV),lX p xs ps=some out->out.length=xs.length:=by
   intro p ps
   induction ps with
   |nil=>intro xs out ho;simp[lX]at ho;rw[ho]
   |cons q ps ih=>
    intro xs out ho;simp only[lX]at ho;split at ho
    .split at ho
     .rename_i qU;rw[ih _ _ ho,uc (by omega)]
     .cases ho
    .cases ho
  rw[vj _ _ _ _ hc,uV];simp[k9]
 have j5:len<=maxLen:=by
  have:len<=len*ei.size:=Nat.le_mul_of_pos_right _ C4;simp only[maxLen];omega
 refine⟨xA,e,e2,gI,j5,?_⟩;have Cr:(parts.map λp=>(p.1,a.eval p.2)).toList=parts.toList.map λp=>(p.1,a.eval p.2):=by simp
 have hz:(if len*ei.size=0 then(pure #[]:Sem (Array Value))else do pure (<-zeroValue e).cells).run C.P w= .ok (if len*ei.size=0 then #[]else Nw.cells) w:=by
  split
  .rfl
  .simp only[Sem.run_bind,oa k1 k3,Result.andThen_ok,Sem.run_pure]
 have aea:¬(len*ei.size>2^24):=by omega
 clear hz;by_cases h0:len*ei.size=0
 .simp only[h0,if_true]at e1;simp only[execOp,dq,Instr.buildSlice,Sem.run_bind,Result.andThen_ok,run_underlying h1,fX k1,h0,show¬(0>2^24) by omega,if_false,if_true,Cr,newRow,qJ,Sem.run_pure,e1]
 .simp only[h0,if_false]at e1;simp only[execOp,dq,Instr.buildSlice,Sem.run_bind,Result.andThen_ok,run_underlying h1,fX k1,h0,aea,if_false,Cr,newRow,qJ,Sem.run_pure,e1,oa k1 k3]
def wo(hs:ia C.G w X ρ h)(hf:RF w (dZ X ρ h) ρ h.length a.tmps fr){t:TypeId}{len:Nat}{parts:Array (Nat × Operand)}(dq:o.op= .buildSlice t len parts){i:Ti}(hi:ir C.P t=some i){sz tM:Nat}{ag:Bool}{ez:List Value}(hk:i.kd= .slice sz ag tM ez)(Cs:len*sz<=16777216){cs:List AV}(hc:lX (λk=>some (k*sz,sz)) ((List.range len).flatMap λ_=>ez.map .sc) (parts.toList.map λp=>(p.1,ev C fr p.2))=some cs):Good C o a w X ρ h (.sl h.length sz 0 len false) (h++[.row cs]):=by
 obtain⟨xA,e,e2,gI,j5,hr⟩:=wm hs hf dq hi hk Cs hc;exact eD hr (Dt hs e2 e) (uW w _ h ρ _ _ _ _ _ (by simp) xA e (0,0) (jZ _ _) (by omega) (Yq _) j5)
def E6(hs:ia C.G w X ρ h)(hf:RF w (dZ X ρ h) ρ h.length a.tmps fr){t:TypeId}{len:Nat}{parts:Array (Nat × Operand)}(dq:o.op= .buildSlice t len parts){i:Ti}(hi:ir C.P t=some i){sz tM:Nat}{ag:Bool}{ez:List Value}(hk:i.kd= .slice sz ag tM ez)(Cs:len*sz<=16777216){cs:List AV}(hc:lX (λk=>some (k*sz,sz)) ((List.range len).flatMap λ_=>ez.map .sc) (parts.toList.map λp=>(p.1,ev C fr p.2))=some cs)(fZ:cs.all calm=true):Good C o a w X ρ h (.ls sz (chunk sz len cs) true) h:=by
 obtain⟨xA,e,e2,gI,j5,hr⟩:=wm hs hf dq hi hk Cs hc;exact xB hs (mK w _) (jZ w _) (by rw[<-e2.1,gI];exact Yq _) (Yq _) j5 true (λ_=>rfl) fZ e2.cell hr
def yg(hs:ia C.G w X ρ h)(hf:RF w (dZ X ρ h) ρ h.length a.tmps fr){t:TypeId}{l c:Operand}(dq:o.op= .makeSlice t l c){i:Ti}(hi:ir C.P t=some i){sz tM:Nat}{ag:Bool}{ez:List Value}(hk:i.kd= .slice sz ag tM ez){n:Nat}(hn:jy (ev C fr l)=some n)(hm:jy (ev C fr c)=some n)(j5:n<=maxLen)(yF:n*tM<=140737488355328):
 ∃(xA:Array Value)(e:TypeId),RC w (dZ X ρ h) ρ h.length xA ((List.range n).flatMap λ_=>ez.map .sc)/\xA.size=n*sz/\(∀u∈ez,lr u=true)/\(execOp a.eval o).run C.P w= .ok (.value (.slice (some ⟨w.heap.size,0,none⟩) n n)) (w.alloc (.cells xA e (0,0))):=by
 obtain⟨d,info,z,h1,h2,h3,h4,h5,h6,h7,h8,h9⟩:=eX hi;rw[hk]at h4;obtain⟨e,ei,ed,Nw,rfl,k1,k2,k3,rfl,k5,rfl,rfl,k8,k9,C4⟩:=gX h4;obtain⟨q1,j1,UN,hj10,hj1n⟩:=mh (dM hs hf l) hn;obtain⟨q2,j2,CC,hj20,hj2n⟩:=mh (dM hs hf c) hm;have w1:IntKind.i64.wrap j1=j1:=IntWalk.i64_in j1 (by simp only[maxLen]at j5;omega);have w2:IntKind.i64.wrap j2=j2:=IntWalk.i64_in j2 (by simp only[maxLen]at j5;omega);have hr:RC w (dZ X ρ h) ρ h.length ((Array.range (n*ei.size)).map ((if n*ei.size=0 then #[]else Nw.cells)[· % (if n*ei.size=0 then(#[]:Array Value)else Nw.cells).size]!)) ((List.range n).flatMap λ_=>Nw.cells.toList.map .sc):=by
  by_cases h0:n*ei.size=0
  .have:n=0:=by rcases Nat.mul_eq_zero.1 h0 with h|h<;>omega
   subst this;exact⟨by simp,by simp⟩
  .simp only[h0,if_false];have:=wk (w:=w) (X:=dZ X ρ h) (ρ:=ρ) k8 h.length n (by omega)
   rwa [k9]at this|-
 refine⟨_,e,hr,by simp,k8,?_⟩;have hz:(if n*ei.size=0 then(pure #[]:Sem (Array Value))else do pure (<-zeroValue e).cells).run C.P w= .ok (if n*ei.size=0 then #[]else Nw.cells) w:=by
  split
  .rfl
  .simp only[Sem.run_bind,oa k1 k3,Result.andThen_ok,Sem.run_pure]
 have IX:(typeInfo e).run C.P w= .ok ei w:=by simp[typeInfo,k1]
 have Cc:j1=(n:Int):=by omega
 have hjm:j2=(n:Int):=by omega
 have hsmall:¬((ei.bytes:Int)*(n:Int)>2^48):=by
  have:(ei.bytes:Int)*(n:Int)=((n*ei.bytes:Nat):Int):=by rw[Nat.mul_comm];simp
  rw[this];omega
 have AU:¬(n*ei.bytes>roomBytes):=by simp only[roomBytes];omega
 have qU:((decide ((n:Int)<0)||decide ((ei.bytes:Int)*(n:Int)>2^48))||decide ((n:Int)<0)||decide ((n:Int)>(n:Int)))=false:=by
  simp;omega
 rw[Cc]at w1;clear hz;by_cases h0:n*ei.size=0
 .simp only[execOp,dq,Instr.makeSlice,Sem.run_bind,Result.andThen_ok,run_underlying h1,UN,CC,asInt,asIntOf,Sem.run_pure,IX,Cc,hjm,w1,askRoom,Int.toNat_natCast,AU,if_false,fX k1,newRow,qJ,qU,h0,if_true,Yl]
 .simp only[execOp,dq,Instr.makeSlice,Sem.run_bind,Result.andThen_ok,run_underlying h1,UN,CC,asInt,asIntOf,Sem.run_pure,IX,Cc,hjm,w1,askRoom,Int.toNat_natCast,AU,if_false,fX k1,newRow,qJ,qU,h0,oa k1 k3,Yl]
def HO(hs:ia C.G w X ρ h)(hf:RF w (dZ X ρ h) ρ h.length a.tmps fr){t:TypeId}{l c:Operand}(dq:o.op= .makeSlice t l c){i:Ti}(hi:ir C.P t=some i){sz tM:Nat}{ag:Bool}{ez:List Value}(hk:i.kd= .slice sz ag tM ez){n:Nat}(hn:jy (ev C fr l)=some n)(hm:jy (ev C fr c)=some n)(j5:n<=maxLen)(yF:n*tM<=140737488355328):
 Good C o a w X ρ h (.sl h.length sz 0 n false) (h++[.row ((List.range n).flatMap λ_=>ez.map .sc)]):=by
 obtain⟨xA,e,e2,gI,_,hr⟩:=yg hs hf dq hi hk hn hm j5 yF;exact eD hr (Dt hs e2 e) (uW w _ h ρ _ _ _ _ _ (by simp) xA e (0,0) (jZ _ _) (by omega) (Yq _) j5)
def HP(hs:ia C.G w X ρ h)(hf:RF w (dZ X ρ h) ρ h.length a.tmps fr){t:TypeId}{l c:Operand}(dq:o.op= .makeSlice t l c){i:Ti}(hi:ir C.P t=some i){sz tM:Nat}{ag:Bool}{ez:List Value}(hk:i.kd= .slice sz ag tM ez){n:Nat}(hn:jy (ev C fr l)=some n)(hm:jy (ev C fr c)=some n)(j5:n<=maxLen)(yF:n*tM<=140737488355328):
 Good C o a w X ρ h (.ls sz (chunk sz n ((List.range n).flatMap λ_=>ez.map .sc)) true) h:=by
 obtain⟨xA,e,e2,gI,hz,hr⟩:=yg hs hf dq hi hk hn hm j5 yF;refine xB hs (mK w _) (jZ w _) (by rw[<-e2.1,gI];exact Yq _) (Yq _) j5 true (λ_=>rfl) ?_ e2.cell hr;rw[Yp];intro x hx;simp only[List.mem_flatMap,Yf]at hx;obtain⟨_,_,u,_,rfl⟩:=hx;rfl
end lit
section ops
variable {C : Cx} {w : World} {X : Nat -> Prop} {ρ : Nat -> Nat} {h : Hp} {a : Act} {fr : List AV} {o : Oper}
def kF(hs:ia C.G w X ρ h)(hf:RF w (dZ X ρ h) ρ h.length a.tmps fr){x:Operand}{i y:Nat}(hn:jy (ev C fr x)=some i)(cP:i<=y)(code:BoundsCode):(Instr.sliceBound (a.eval x) y code).run C.P w= .ok i w:=by
 obtain⟨k,j,hj,AR,Cc⟩:=mh (dM hs hf x) hn;have hc:0<=j/\j<=(y:Int):=by omega
 simp only[Instr.sliceBound,hj,asIntOf,Sem.run_bind,Sem.run_pure,Result.andThen_ok,hc,and_self,if_true,Cc]
def qP(hs:ia C.G w X ρ h)(hf:RF w (dZ X ρ h) ρ h.length a.tmps fr){lo hi:Option Operand}{l hh len cap:Nat}(hl:iC 0 (lo.map (ev C fr))=some l)(Ct:iC len (hi.map (ev C fr))=some hh)(h1:l<=hh)(h2:hh<=cap):(Instr.sliceBounds true len cap (lo.map a.eval) (hi.map a.eval) none).run C.P w= .ok (l,hh,cap) w:=by
 cases hi with
 |
  none=>
  simp only[Option.map_none,iC,Zc]at Ct;subst Ct;cases lo with
  |
   none=>
   simp only[Option.map_none,iC,Zc]at hl;subst hl;simp only[Instr.sliceBounds,Option.map_none,Sem.run_bind,Sem.run_pure,Result.andThen_ok]
  |some x=>
   simp only[Yw,iC]at hl;simp only[Instr.sliceBounds,Option.map_none,Yw,Sem.run_bind,Sem.run_pure,Result.andThen_ok,kF hs hf hl h1]
 |some y=>
  simp only[Yw,iC]at Ct;cases lo with
  |
   none=>
   simp only[Option.map_none,iC,Zc]at hl;subst hl;simp only[Instr.sliceBounds,Option.map_none,Yw,Sem.run_bind,Sem.run_pure,Result.andThen_ok,kF hs hf Ct h2]
  |some x=>
   simp only[Yw,iC]at hl;simp only[Instr.sliceBounds,Yw,Sem.run_bind,Sem.run_pure,Result.andThen_ok,kF hs hf Ct h2,kF hs hf hl h1]
def oW(hs:ia C.G w X ρ h)(hf:RF w (dZ X ρ h) ρ h.length a.tmps fr){lo:Option Operand}{hi mx:Operand}{l hh m len cap:Nat}(hl:iC 0 (lo.map (ev C fr))=some l)(hlm:l<=hh)(Ct:jy (ev C fr hi)=some hh)(hhm:hh<=m)(hm:jy (ev C fr mx)=some m)(h2:m<=cap):(Instr.sliceBounds true len cap (lo.map a.eval) (some (a.eval hi)) (some (a.eval mx))).run C.P w= .ok (l,hh,m) w:=by
 cases lo with
 |
  none=>
  simp only[Option.map_none,iC,Zc]at hl;subst hl;simp only[Instr.sliceBounds,Option.map_none,Sem.run_bind,Sem.run_pure,Result.andThen_ok,kF hs hf hm h2,kF hs hf Ct hhm]
 |some x=>
  simp only[Yw,iC]at hl;simp only[Instr.sliceBounds,Yw,Sem.run_bind,Sem.run_pure,Result.andThen_ok,kF hs hf hm h2,kF hs hf Ct hhm,kF hs hf hl hlm]
def Me{X:Nat->Prop}{b o' cap sz l hh m:Nat}{cq:List (List AV)}{us:Nat->Nat->Value}{cV:Array Value}{t0:TypeId}{fz:Nat × Nat}(c1:¬X b)(c2:w.heap[b]?=some (Obj.cells cV t0 fz))(c5:cap<=maxLen)(c7:∀(i:Nat)(row:List AV),cq[i]?=some row->row.length=sz)(c8:∀(i:Nat)(row:List AV)(j:Nat)(x:AV),cq[i]?=some row->row[j]?=some x->cV[o'+i*sz+j]?=some (us i j)/\Value.oneCell' (us i j)=true/\Ri w X (us i j) x)(h1:l<=hh)(h2:hh<=cq.length)(h3:hh<=m)(h4:m<=cap)(z:Bool)(hz:z=true->m=hh)(ad:Option Addr)(had:ad=if m=l then some ⟨b,o',none⟩else some ⟨b,o'+l*sz,none⟩):
 Ri w X (.slice ad (hh-l) (m-l)) (.ls sz ((cq.drop l).take (hh-l)) z):=by
 have qV:((cq.drop l).take (hh-l)).length=hh-l:=by simp;omega
 by_cases XL:l=hh
 .subst XL;simp only[Nat.sub_self,List.take_zero];exact .le _ _ _ _ (by omega) (λq=>by have:=hz q;omega)
 .have IK:¬m=l:=by omega
  rw[cv IK]at had;subst had;have mj:∀(k:Nat)(row:List AV),((cq.drop l).take (hh-l))[k]?=some row->cq[l+k]?=some row:=by
   intro k row hr;rw[Xi]at hr;split at hr
   .rwa [Xj]at hr
   .cases hr
  exact .ls b (o'+l*sz) (hh-l) (m-l) sz ((cq.drop l).take (hh-l)) z (λk j=>us (l+k) j) cV t0 fz c1 c2 qV (by omega) (by omega)
   (λq=>by have:=hz q;omega) (λk row hr=>c7 _ _ (mj k row hr))
   (λk row j x hr hx=>by
    have:=c8 (l+k) row j x (mj k row hr) hx;refine⟨?_,this.2.1⟩;rw[<-this.1]
    congr 1
    rw[Xh];omega)
   (λk row j x hr hx=>(c8 (l+k) row j x (mj k row hr) hx).2.2)
def XM(hs:ia C.G w X ρ h)(hf:RF w (dZ X ρ h) ρ h.length a.tmps fr){t:TypeId}{x:Operand}{lo hi mx:Option Operand}(dq:o.op= .slice t x lo hi mx){i:Ti}(rN:ir C.P t=some i){sz tM:Nat}{ag:Bool}{ez:List Value}(hk:i.kd= .slice sz ag tM ez)(hz:kM sz (ev C fr x)=true){y:AV}(hy:qi (ev C fr x) (lo.map (ev C fr)) (hi.map (ev C fr)) (mx.map (ev C fr))=some y):
 Good C o a w X ρ h y h:=by
 obtain⟨d,info,z,h1,h2,h3,h4,h5,h6,h7,h8,h9⟩:=eX rN;rw[hk]at h4;obtain⟨e,ei,ed,Nw,rfl,k1,k2,k3,rfl,k5,k6,k7,k8,k9,C4⟩:=gX h4;have e1:=dM hs hf x;have jV:∀(base:Option Addr)(len cap l hh m:Nat),a.eval x= .slice base len cap->(Instr.sliceBounds true len cap (lo.map a.eval) (hi.map a.eval) (mx.map a.eval)).run C.P w= .ok (l,hh,m) w->
  (execOp a.eval o).run C.P w= .ok (.value (.slice (if m=l then base else base.map (·.add (l*ei.size))) (hh-l) (m-l))) w:=by
  intro base len cap l hh m hq hb;simp only[execOp,dq,Instr.sliceAt,Instr.slice,run_underlying h1,Sem.run_bind,Result.andThen_ok,hq,hb,fX k1,Sem.run_pure]
 unfold qi at hy;split at hy
 case h_2=>cases hy
 rename_i len cp;split at hy
 case h_3=>cases hy
 .rename_i l hh hl Ct U2;have aij:mx=none:=by cases mx<;>simp_all
  subst aij;split at hy
  case isFalse=>cases hy
  rename_i hc;cases hx:ev C fr x with
  |ls oG cq zz=>
   rw[hx]at hy e1 hz cp;simp only[kM,beq_iff_eq]at hz;subst hz;simp only[tD,Zc]at cp;subst cp;simp only[Zc]at hy;subst hy;rcases e1.mg.iR with⟨rfl,b,cap,hq,c1,c2⟩|⟨b,o',cap,us,cV,t0,fz,hq,c1,c2,c4,c5,c6,c7,c8⟩
   .simp only[List.length_nil]at hc Ct|-;have hb:=qP hs hf hl Ct hc.1 (cap:=cap) (by omega);have ki:l=0:=by omega
    have qh:hh=0:=by omega
    subst ki qh;refine cN hs (jV _ _ _ _ _ _ hq hb) (.im ?_);simp only[List.drop_nil,List.take_nil];exact .le _ _ _ _ (by omega) (λhz=>by simp at hz;have:=c2 hz;omega)
   .have hb:=qP hs hf hl Ct hc.1 (cap:=cap) (by omega);refine cN hs (jV _ _ _ _ _ _ hq hb) (.im ?_);refine Me c1 c2 c5 c7 c8 hc.1 hc.2 (by omega) (Yq _) _ (λq=>?_) _ ?_
    .simp only[Zh,beq_iff_eq]at q;have:=c6 q.1;omega
    .split<;>simp[add_lit]
  |sl id oG off abO k=>
   rw[hx]at hy e1 hz cp;simp only[kM,beq_iff_eq]at hz;subst hz;simp only[tD,Zc]at cp;subst cp;obtain⟨cap,cV,t0,fz,hq,c1,c2,c3,ck,ck',c4,c5⟩:=e1.kr;have hb:=qP hs hf hl Ct hc.1 (cap:=cap) (by omega);by_cases XL:l=hh
   .simp only[XL,if_true,Zc]at hy;subst hy XL;refine cN hs (jV _ _ _ _ _ _ hq hb) (.im ?_);simp only[Nat.sub_self];refine .le _ _ _ _ (by omega) (λhz=>?_);simp only[Zh,beq_iff_eq]at hz;have:=ck hz.1;omega
   .simp only[XL,if_false]at hy;split at hy
    case isTrue=>cases hy
    rename_i Mf;simp only[Zc]at hy;subst hy;refine cN hs (jV _ _ _ _ _ _ hq hb) ?_;rw[cv (show¬cap=l by omega)];have gI:l*ei.size+(cap-l)*ei.size=cap*ei.size:=by rw[<-Xh];congr 1;omega
    have:=Rp.sl (w:=w) (X:=dZ X ρ h) (ρ:=ρ) (n:=h.length) id ei.size (off+l*ei.size) (hh-l) (cap-l) k cV t0 fz c1 c2 (by omega)
     (λq=>by
      have:=ck q;simp only[q,Bool.true_and,bne_iff_ne,ne_eq,Decidable.not_not]at Mf;omega) (λq=>by have:=ck' q;omega) (by omega) (by omega)
    simpa[add_lit]using this
  |_=>rw[hx]at cp;simp[tD]at cp
 .rename_i l hh m hl Ct U2;split at hy
  case h_2=>cases hy
  rename_i m' vV;split at hy
  case isFalse=>cases hy
  rename_i hc;obtain⟨mo,rfl⟩:∃mo,mx=some mo:=by cases mx with|none=>simp at U2|some mo=>exact⟨mo,rfl⟩
  obtain⟨ho,rfl⟩:∃ho,hi=some ho:=by cases hi with|none=>simp at hc|some ho=>exact⟨ho,rfl⟩
  simp only[Yw,Zc]at U2;subst U2;simp only[Yw,iC]at Ct;obtain⟨yM,Cn,hc3,_⟩:=hc;split at hy
  case isFalse=>
   simp only[Zc]at hy;subst hy;obtain⟨base,Bi,cap,hq,rK⟩:∃base Bi cap,a.eval x= .slice base Bi cap/\len<=cap:=by
    cases hx:ev C fr x with
    |ls oG cq zz=>
     rw[hx]at e1 cp;simp only[tD,Zc]at cp;subst cp;rcases e1.mg.iR with⟨rfl,b,cap,hq,c1,c2⟩|⟨b,o',cap,us,cV,t0,fz,hq,c1,c2,c4,c5,c6,c7,c8⟩
     .exact⟨_,_,_,hq,Yt _⟩
     .exact⟨_,_,_,hq,by omega⟩
    |sl id oG off abO k=>
     rw[hx]at e1 cp;simp only[tD,Zc]at cp;subst cp;obtain⟨cap,cV,t0,fz,hq,c1,c2,c3,ck,ck',c4,c5⟩:=e1.kr;exact⟨_,_,_,hq,by omega⟩
    |_=>rw[hx]at cp;simp[tD]at cp
   have hb:=oW hs hf hl yM Ct Cn vV (len:=Bi) (cap:=cap) (by omega);exact cN hs (jV _ _ _ _ _ _ hq hb) (.im (.ud _))
  rename_i Cn;subst Cn;cases hx:ev C fr x with
  |ls oG cq zz=>
   rw[hx]at hy e1 hz cp;simp only[kM,beq_iff_eq]at hz;subst hz;simp only[Zc]at hy;subst hy;simp only[tD,Zc]at cp;subst cp;rcases e1.mg.iR with⟨rfl,b,cap,hq,c1,c2⟩|⟨b,o',cap,us,cV,t0,fz,hq,c1,c2,c4,c5,c6,c7,c8⟩
   .simp only[List.length_nil]at hc3;have hb:=oW hs hf hl yM Ct (Yq _) vV (len:=0) (cap:=cap) (by omega);refine cN hs (jV _ _ _ _ _ _ hq hb) (.im ?_);have ki:l=0:=by omega
    have qh:hh=0:=by omega
    subst ki qh;simp only[List.drop_nil,List.take_nil];exact .le _ _ _ _ (by omega) (λ_=>rfl)
   .have hb:=oW hs hf hl yM Ct (Yq _) vV (len:=cq.length) (cap:=cap) (by omega);refine cN hs (jV _ _ _ _ _ _ hq hb) (.im ?_);refine Me c1 c2 c5 c7 c8 yM hc3 (Yq _) (by omega) _ (λ_=>rfl) _ ?_;split<;>simp[add_lit]
  |sl id oG off abO k=>
   rw[hx]at hy e1 hz cp;simp only[kM,beq_iff_eq]at hz;subst hz;simp only[tD,Zc]at cp;subst cp;obtain⟨cap,cV,t0,fz,hq,c1,c2,c3,ck,ck',c4,c5⟩:=e1.kr;have hb:=oW hs hf hl yM Ct (Yq _) vV (len:=abO) (cap:=cap) (by omega);by_cases XL:l=hh
   .simp only[XL,if_true,Zc]at hy;subst hy XL;refine cN hs (jV _ _ _ _ _ _ hq hb) (.im ?_);simp only[Nat.sub_self];exact .le _ _ _ _ (by simp[maxLen]) (λ_=>rfl)
   .simp only[XL,if_false,Zc]at hy;subst hy;refine cN hs (jV _ _ _ _ _ _ hq hb) ?_;rw[cv (show¬hh=l by omega)];have gI:l*ei.size+(hh-l)*ei.size=hh*ei.size:=by rw[<-Xh];congr 1;omega
    have cP:hh*ei.size<=cap*ei.size:=Nat.mul_le_mul_right _ (by omega);have:=Rp.sl (w:=w) (X:=dZ X ρ h) (ρ:=ρ) (n:=h.length) id ei.size (off+l*ei.size) (hh-l) (hh-l) true cV t0 fz c1 c2 (by omega)
     (λ_=>rfl) (λq=>by cases q) (Yq _) (by omega)
    simpa[add_lit]using this
  |_=>rw[hx]at cp;simp[tD]at cp
def sJ{sz:Nat}(ik:0<sz):∀(cq:List (List AV)),(∀row∈cq,row.length=sz)->∀k,cq.flatten[k]?=(cq[k/sz]?).bind (·[k % sz]?)
 | [],_,k=>by simp
 |
  row::cq,hr,k=>by
  have hl:=hr row (by simp);have ih:=sJ ik cq (λr hm=>hr r (by simp[hm]));simp only[List.flatten_cons];by_cases hk:k<sz
  .rw[Zd (by omega),Nat.div_eq_of_lt hk,Nat.mod_eq_of_lt hk];simp
  .rw[Zf (by omega),ih (k-row.length),hl];have h1:k/sz=(k-sz)/sz+1:=by rw[Nat.div_eq_sub_div ik (by omega)]
   have h2:k % sz=(k-sz) % sz:=Nat.mod_eq_sub_mod (by omega);rw[h1,h2,List.getElem?_cons_succ]
def e9{sz:Nat}:∀(cq:List (List AV)),(∀row∈cq,row.length=sz)->cq.flatten.length=cq.length*sz
 | [],_=>by simp
 |
  row::cq,hr=>by
  have:=e9 cq (λr hm=>hr r (by simp[hm]));simp only[List.flatten_cons,Zu,Ys,Xh,hr row (by simp),this];omega
def p5(hs:ia C.G w X ρ h)(hf:RF w (dZ X ρ h) ρ h.length a.tmps fr){x:Operand}{sz m:Nat}{news:List AV}(ik:0<sz)(hz:kM sz (ev C fr x)=true)(hn:gV h (ev C fr x)=some (m,news)):
 ∃base cap,a.eval x= .slice base m cap/\news.length=m*sz/\(m=0\/∃(b o':Nat)(dI:List Value),base=some ⟨b,o',none⟩/\dI.length=m*sz/\
  (∀(j:Nat)(u:Value),dI[j]?=some u->w.cell? ((⟨b,o',none⟩:Addr).add j)=some u)/\(∀u∈dI,u.oneCell'=true)/\∀(k:Nat)(y:AV),news[k]?=some y->Rp w (dZ X ρ h) ρ h.length (dI.getD k undef) y):=by
 have e1:=dM hs hf x;unfold gV at hn;split at hn
 .rename_i hx;simp only[Zc,Zg]at hn;obtain⟨rfl,rfl⟩:=hn;rw[hx]at e1;exact⟨none,0,e1.dQ.1,by simp,.inl rfl⟩
 .rename_i oG cq zz hx;rw[hx]at e1 hz;simp only[kM,beq_iff_eq]at hz;subst hz;simp only[Zc,Zg]at hn;obtain⟨rfl,rfl⟩:=hn;rcases e1.mg.iR with⟨rfl,b,cap,hq,c1,c2⟩|⟨b,o',cap,us,cV,t0,fz,hq,c1,c2,c4,c5,c6,c7,c8⟩
  .exact⟨b,cap,hq,by simp,.inl rfl⟩
  .have fZ:∀row∈cq,row.length=oG:=λrow hm=>by
    obtain⟨k,hk,rfl⟩:=List.getElem_of_mem hm;exact c7 k _ (Zb hk)
   have hfg:=sJ ik cq fZ;have cp:=e9 cq fZ;refine⟨_,cap,hq,cp,.inr ⟨b,o',(List.range (cq.length*oG)).map λk=>us (k/oG) (k % oG),rfl,by simp,?_,?_,?_⟩⟩
   .intro j u hj;simp only[Zs,Ze]at hj;obtain⟨k,hk,rfl⟩:=hj;have lD:j<cq.length*oG:=by have:=(Za.1 hk).1;simpa using this
    rw[Yz lD]at hk;cases hk;have h1:j/oG<cq.length:=by rw[Nat.div_lt_iff_lt_mul ik];exact lD
    have h2:j % oG< (cq[j/oG]).length:=by rw[c7 _ _ (Zb h1)];exact Nat.mod_lt _ ik
    have:=c8 (j/oG) _ (j % oG) _ (Zb h1) (Zb h2);rw[add_lit,oS c2,<-this.1]
    congr 1
    have:=Nat.div_add_mod j oG;rw[Nat.mul_comm]at this;omega
   .intro u hu;simp only[Yf,List.mem_range]at hu;obtain⟨j,lD,rfl⟩:=hu;have h1:j/oG<cq.length:=by rw[Nat.div_lt_iff_lt_mul ik];exact lD
    have h2:j % oG< (cq[j/oG]).length:=by rw[c7 _ _ (Zb h1)];exact Nat.mod_lt _ ik
    exact(c8 (j/oG) _ (j % oG) _ (Zb h1) (Zb h2)).2.1
   .intro k y hk;have iB:k<cq.length*oG:=by have:=(Za.1 hk).1;rwa [cp]at this
    rw[hfg]at hk;simp only[Ye]at hk;obtain⟨row,hr,hy⟩:=hk;have:=c8 _ row _ y hr hy;have e2:((List.range (cq.length*oG)).map λk=>us (k/oG) (k % oG)).getD k undef=us (k/oG) (k % oG):=by simp[List.getD,Yz iB]
    rw[e2];exact .im this.2.2
 .rename_i id oG off len k hx;rw[hx]at e1 hz;simp only[kM,beq_iff_eq]at hz;subst hz;split at hn
  case h_2=>cases hn
  rename_i cs ej;split at hn
  case isFalse=>cases hn
  rename_i cP;simp only[Zc,Zg]at hn;obtain⟨rfl,rfl⟩:=hn;obtain⟨cap,cV,t0,fz,hq,c1,c2,c3,_,_,c4,c5⟩:=e1.kr;obtain⟨kl,t1,I1,us,d1,d3⟩:=hs.cells ej;refine⟨_,cap,hq,by simp;omega,.inr ⟨ρ id,off,(List.range (len*oG)).map λk=>us (off+k),rfl,by simp,?_,?_,?_⟩⟩
  .intro j u hj;simp only[Zs,Ze]at hj;obtain⟨k,hk,rfl⟩:=hj;have lD:j<len*oG:=by have:=(Za.1 hk).1;simpa using this
   rw[Yz lD]at hk;cases hk;rw[add_lit,oS d1];exact(d3 (off+j) _ (Zb (by omega))).1
  .intro u hu;simp only[Yf,List.mem_range]at hu;obtain⟨j,lD,rfl⟩:=hu;exact(d3 (off+j) _ (Zb (by omega))).2.1
  .intro k y hk;rw[Xi]at hk;split at hk
   .rename_i iB;rw[Xj]at hk;have e2:((List.range (len*oG)).map λk=>us (off+k)).getD k undef=us (off+k):=by simp[List.getD,Yz iB]
    rw[e2];exact(d3 (off+k) y hk).2.2
   .cases hk
 .cases hn
end ops
def Rp.yz{w:World}{X X':Nat->Prop}{ρ:Nat->Nat}{n:Nat}(hX:∀b,X' b->X b){v:Value}{x:AV}(h:Rp w X ρ n v x):Rp w X' ρ n v x:=by
 induction h with
 |im hi=>exact .im (hi.yz hX)
 |sl id sz off len cap k cV t fz h1 h2 h3 h4 h5 h6 h7=>exact .sl id sz off len cap k cV t fz h1 h2 h3 h4 h5 h6 h7
 |pt id off h1=>exact .pt id off h1
 |mp id h1=>exact .mp id h1
 |fn f us xs h1 h2 ih=>exact .fn f us xs h1 ih
 |ag us xs h1 h2 h3 ih=>exact .ag us xs h1 h2 ih
 |tp us xs h1 h2 ih=>exact .tp us xs h1 ih
def ia.aeb{G:Nat->Option (List Value)}{w:World}{X:Nat->Prop}{ρ:Nat->Nat}{h:Hp}(hs:ia G w X ρ h){id:Nat}{cs:List AV}(ej:gu h id=some cs):¬X (ρ id):=by
 unfold gu at ej;split at ej
 .rename_i cs' hi;exact hs.out id ⟨_,hi,rfl⟩
 .rename_i cs' hi;exact λhx=>hs.pb id _ hi (.inl hx)
 .rename_i cs' hi;exact hs.out id ⟨_,hi,rfl⟩
 .cases ej
def ox{G:Nat->Option (List Value)}{w:World}{X:Nat->Prop}{ρ:Nat->Nat}{h:Hp}(hs:ia G w X ρ h):∀(n:Nat)(v:Value)(x y:AV),Rp w (dZ X ρ h) ρ h.length v x->da h n x=some y->Ri w X v y:=by
 have base:∀{v:Value}{x:AV},Rp w (dZ X ρ h) ρ h.length v x->(match x with| .sc _| .ls .. | .rp .. | .oc=>true|_=>false)=true->Ri w X v x:=by
  intro v x hr hx;cases hr with
  |im hi=>exact hi.yz λb=> .inl
  |_=>simp at hx
 intro n
 induction n with
 |
  zero=>
  intro v x y hr hy;cases x<;>simp only[da,Zc]at hy<;>first|(subst hy;exact base hr rfl)|cases hy
 |succ n ih=>
  intro v x y hr hy;cases x with
  |sc u=>simp only[da,Zc]at hy;subst hy;exact base hr rfl
  |ls sz cq z=>simp only[da,Zc]at hy;subst hy;exact base hr rfl
  |rp row j=>simp only[da,Zc]at hy;subst hy;exact base hr rfl
  |oc=>simp only[da,Zc]at hy;subst hy;exact base hr rfl
  |pt id off=>
   simp only[da]at hy;split at hy
   case h_2=>cases hy
   rename_i cs ej;simp only[Ze]at hy;obtain⟨ys,vq,rfl⟩:=hy;obtain⟨rfl,_⟩:=hr.mT;obtain⟨cV,t,fz,us,d1,d3⟩:=hs.cells ej;obtain⟨m1,m2⟩:=iT vq;have fO:∀(k:Nat)(y:AV),ys[k]?=some y->cV[k]?=some (us k)/\(us k).oneCell'=true/\Ri w X (us k) y:=by
    intro k y hk;have iB:k<cs.length:=by have:=(Za.1 hk).1;omega
    obtain⟨b,hb,jx⟩:=m2 k _ (Zb iB);rw[hk]at hb;cases hb;have h3:=d3 k _ (Zb iB);exact⟨h3.1,h3.2.1,ih _ _ _ h3.2.2 jx⟩
   have:=Ri.rp (w:=w) (X:=X) (ρ id) 0 off ys us cV t fz (hs.aeb ej) d1 (λk y hk=>by rw[Xk];exact⟨(fO k y hk).1,(fO k y hk).2.1⟩) (λk y hk=>(fO k y hk).2.2);simpa using this
  |ag xs=>
   simp only[da,Ze]at hy;obtain⟨ys,vq,rfl⟩:=hy;obtain⟨us,rfl,h1,h2,h3⟩:=hr.xm;obtain⟨m1,m2⟩:=iT vq;refine .ag us ys (by omega) h2 λk y hk=>?_
   have iB:k<xs.length:=by have:=(Za.1 hk).1;omega
   obtain⟨b,hb,jx⟩:=m2 k _ (Zb iB);rw[hk]at hb;cases hb;exact ih _ _ _ (h3 k _ (Zb iB)) jx
  |tp xs=>
   simp only[da,Ze]at hy;obtain⟨ys,vq,rfl⟩:=hy;obtain⟨us,rfl,h1,h3⟩:=hr.Rn;obtain⟨m1,m2⟩:=iT vq;refine .tp us ys (by omega) λk y hk=>?_
   have iB:k<xs.length:=by have:=(Za.1 hk).1;omega
   obtain⟨b,hb,jx⟩:=m2 k _ (Zb iB);rw[hk]at hb;cases hb;exact ih _ _ _ (h3 k _ (Zb iB)) jx
  |fn f xs=>
   simp only[da,Ze]at hy;obtain⟨ys,vq,rfl⟩:=hy;obtain⟨us,rfl,h1,h3⟩:=hr.pj;obtain⟨m1,m2⟩:=iT vq;refine .fn f us ys (by omega) λk y hk=>?_
   have iB:k<xs.length:=by have:=(Za.1 hk).1;omega
   obtain⟨b,hb,jx⟩:=m2 k _ (Zb iB);rw[hk]at hb;cases hb;exact ih _ _ _ (h3 k _ (Zb iB)) jx
  |sl id sz off len kk=>
   simp only[da]at hy;split at hy
   case h_2=>cases hy
   rename_i cs ej;split at hy
   case isFalse=>cases hy
   rename_i cP;simp only[Ze]at hy;obtain⟨ys,vq,rfl⟩:=hy;obtain⟨cap,aik,t0,fz,rfl,c1,c2,c3,_,_,c4,c5⟩:=hr.kr;obtain⟨cV,t1,fz1,us,d1,d3⟩:=hs.cells ej;obtain⟨m1,m2⟩:=iT vq;have hylen:ys.length=len*sz:=by rw[m1];simp;omega
   have cY:∀(i:Nat)(row:List AV),((List.range len).map λi=>(ys.drop (i*sz)).take sz)[i]?=some row->i<len/\row=(ys.drop (i*sz)).take sz:=by
    intro i row cC;simp only[Zs,Ze]at cC;obtain⟨k,hk,rfl⟩:=cC;have iJ:i<len:=by have:=(Za.1 hk).1;simpa using this
    rw[Yz iJ]at hk;cases hk;exact⟨iJ,rfl⟩
   have fO:∀(i:Nat)(row:List AV)(j:Nat)(x:AV),((List.range len).map λi=>(ys.drop (i*sz)).take sz)[i]?=some row->row[j]?=some x->j<sz/\i*sz+j<len*sz/\ys[i*sz+j]?=some x:=by
    intro i row j x cC hx;obtain⟨iJ,rfl⟩:=cY i row cC;rw[Xi]at hx;split at hx
    .rename_i hj;rw[Xj]at hx;refine⟨hj,?_,hx⟩;have:=(Za.1 hx).1;omega
    .cases hx
   have hval:∀(k:Nat)(y:AV),ys[k]?=some y->k<len*sz->cV[off+k]?=some (us (off+k))/\(us (off+k)).oneCell'=true/\Ri w X (us (off+k)) y:=by
    intro k y hk iB;have hcs:((cs.drop off).take (len*sz))[k]?=cs[off+k]?:=by
     rw[Xi,cw iB,Xj]
    have hkc:off+k<cs.length:=by omega
    obtain⟨b,hb,jx⟩:=m2 k cs[off+k] (by rw[hcs,Zb hkc]);rw[hk]at hb;cases hb;have h3:=d3 (off+k) _ (Zb hkc);exact⟨h3.1,h3.2.1,ih _ _ _ h3.2.2 jx⟩
   refine .ls (ρ id) off len cap sz _ false (λi j=>us (off+(i*sz+j))) cV t1 fz1 (hs.aeb ej) d1 (by simp) c4 c5 (λh=>by cases h) ?_ ?_ ?_
   .intro i row cC;obtain⟨iJ,rfl⟩:=cY i row cC;have:(i+1)*sz<=len*sz:=Nat.mul_le_mul_right _ iJ;rw[Xh]at this;simp;omega
   .intro i row j x cC hx;obtain⟨_,q2,q3⟩:=fO i row j x cC hx;have:=hval _ _ q3 q2;exact⟨by rw[<-this.1];congr 1;omega,this.2.1⟩
   .intro i row j x cC hx;obtain⟨_,q2,q3⟩:=fO i row j x cC hx;exact(hval _ _ q3 q2).2.2
  |_=>simp[da]at hy
def Bj{ids:List Nat}{h:Hp}{id:Nat}{cs:List AV}(hr:gu (mask ids h) id=some cs):gu h id=some cs:=by
 unfold gu at hr|-;have key:∀b,(mask ids h)[id]?=some b->b≠ .dead->h[id]?=some b:=by
  intro b hb hd;unfold mask at hb;simp only[Zs,Ze]at hb;obtain⟨k,hk,hb⟩:=hb;have iB:id<h.length:=by have:=(Za.1 hk).1;simpa using this
  rw[Yz iB]at hk;cases hk;split at hb
  .simp only[List.getD,Zb iB,Xg]at hb;rw[Zb iB,hb]
  .exact absurd hb.symm hd
 split at hr
 .rename_i cs' hi;rw[key _ hi (by simp)];exact hr
 .rename_i cs' hi;rw[key _ hi (by simp)];exact hr
 .rename_i cs' hi;rw[key _ hi (by simp)];exact hr
 .cases hr
def Oi{ids:List Nat}{h:Hp}:∀(n:Nat)(x y:AV),da (mask ids h) n x=some y->da h n x=some y:=by
 intro n
 induction n with
 |zero=>intro x y hs;cases x<;>simp_all [da]
 |succ n ih=>
  have many:∀(xs ys:List AV),xs.mapM (da (mask ids h) n)=some ys->xs.mapM (da h n)=some ys:=by
   intro xs
   induction xs with
   |nil=>intro ys hm;simpa using hm
   |cons x xs U9=>
    intro ys hm;simp only[Zo,Option.bind_eq_bind,Ye,Option.pure_def,Zc]at hm|-;obtain⟨b,hb,bs,S5,rfl⟩:=hm;exact⟨b,ih _ _ hb,bs,U9 _ S5,rfl⟩
  intro x y hs;cases x with
  |sc u=>simpa[da]using hs
  |ls sz cq z=>simpa[da]using hs
  |rp row j=>simpa[da]using hs
  |oc=>simpa[da]using hs
  |pt id off=>
   simp only[da]at hs|-;split at hs
   case h_2=>cases hs
   rename_i cs ej;rw[Bj ej];simp only[Ze]at hs|-;obtain⟨ys,vq,rfl⟩:=hs;exact⟨ys,many _ _ vq,rfl⟩
  |sl id sz off len k=>
   simp only[da]at hs|-;split at hs
   case h_2=>cases hs
   rename_i cs ej;rw[Bj ej];simp only;split at hs
   case isFalse=>cases hs
   rename_i cP;rw[cw cP];simp only[Ze]at hs|-;obtain⟨ys,vq,rfl⟩:=hs;exact⟨ys,many _ _ vq,rfl⟩
  |ag xs=>
   simp only[da,Ze]at hs|-;obtain⟨ys,vq,rfl⟩:=hs;exact⟨ys,many _ _ vq,rfl⟩
  |tp xs=>
   simp only[da,Ze]at hs|-;obtain⟨ys,vq,rfl⟩:=hs;exact⟨ys,many _ _ vq,rfl⟩
  |fn f xs=>
   simp only[da,Ze]at hs|-;obtain⟨ys,vq,rfl⟩:=hs;exact⟨ys,many _ _ vq,rfl⟩
  |_=>simp[da]at hs
def Kg{ids:List Nat}{h h':Hp}(hz:freeze ids h=some h'):h'.length=h.length/\∀(i:Nat)(b':eV),h'[i]?=some b'->
 (i∉ids/\h[i]?=some b')\/(i∈ids/\((∃cs cs',h[i]?=some (.row cs)/\cs.mapM (da (mask ids h) 8)=some cs'/\b'= .MA cs')\/(h[i]?=some b'/\tP b'=false))):=by
 unfold freeze at hz;obtain⟨m1,m2⟩:=iT hz;have hl:h'.length=h.length:=by rw[m1];simp
 refine⟨hl,λi b' hi=>?_⟩;have iJ:i<h.length:=by have:=(Za.1 hi).1;omega
 obtain⟨b,hb,hf⟩:=m2 i i (by rw[Yz iJ]);rw[hi]at hb;cases hb;split at hf
 .rename_i hc;have dB:i∈ids:=by simpa using hc
  right;refine⟨dB,?_⟩;split at hf
  .rename_i cs hh;simp only[Ze]at hf;obtain⟨cs',hcs,rfl⟩:=hf;exact .inl ⟨cs,cs',hh,hcs,rfl⟩
  .rename_i cs hh;cases hf;exact .inr ⟨hh,rfl⟩
  .rename_i hh;cases hf;exact .inr ⟨hh,rfl⟩
  .cases hf
 .rename_i hc;exact .inl ⟨by simpa using hc,hf⟩
def wq{G:Nat->Option (List Value)}{w:World}{X:Nat->Prop}{ρ:Nat->Nat}{h h':Hp}{ids:List Nat}(hs:ia G w X ρ h)(hz:freeze ids h=some h'):
 Ext G w X ρ h w ρ h'/\∀(n:Nat)(v:Value)(x y:AV),Rp w (dZ X ρ h) ρ h.length v x->da (mask ids h) n x=some y->Ri w (dZ X ρ h') v y:=by
 obtain⟨hl,hg⟩:=Kg hz;have iI:∀i,live h' i->live h i/\i∉ids:=by
  rintro i ⟨b,hi,hb⟩;rcases hg i b hi with⟨h1,h2⟩|⟨_,⟨cs,cs',_,_,rfl⟩|⟨_,h3⟩⟩
  .exact⟨⟨b,h2,hb⟩,h1⟩
  .cases hb
  .rw[h3]at hb;cases hb
 have IK:(mask ids h).length=h.length:=by simp[mask]
 have hmk:∀(i:Nat)(b:eV),(mask ids h)[i]?=some b->b≠ .dead->h[i]?=some b/\i∈ids:=by
  intro i b hb hd;unfold mask at hb;simp only[Zs,Ze]at hb;obtain⟨k,hk,hb⟩:=hb;have iB:i<h.length:=by have:=(Za.1 hk).1;simpa using this
  rw[Yz iB]at hk;cases hk;split at hb
  .rename_i hc;simp only[List.getD,Zb iB,Xg]at hb;rw[Zb iB,hb];exact⟨rfl,by simpa using hc⟩
  .exact absurd hb.symm hd
 have xC:∀i,live (mask ids h) i->live h i/\i∈ids:=by
  rintro i ⟨b,hi,hb⟩;have:=hmk i b hi (λe=>by subst e;cases hb);exact⟨⟨b,this.1,hb⟩,this.2⟩
 have Kh:∀b,dZ (dZ X ρ h') ρ (mask ids h) b->dZ X ρ h b:=by
  rintro b ((hx|⟨i,hi,e⟩)|⟨i,hi,e⟩)
  .exact .inl hx
  .exact .inr ⟨i,(iI i hi).1,e⟩
  .exact .inr ⟨i,(xC i hi).1,e⟩
 have hsm:ia G w (dZ X ρ h') ρ (mask ids h):=by
  refine⟨?_,λg row hgr=>?_,λi j hi hj=>hs.inj i j (xC i hi).1 (xC j hj).1,?_,?_,?_⟩
  .rintro b (hx|⟨i,hi,e⟩)
   .exact hs.FC b hx
   .rw[<-e];exact hs.lt (iI i hi).1
  .obtain⟨h1,h2⟩:=hs.rS g row hgr;exact⟨λhh=>h1 (Kh g hh),h2⟩
  .rintro i hi (hx|⟨j,hj,e⟩)
   .exact hs.out i (xC i hi).1 hx
   .have:=hs.inj j i (iI j hj).1 (xC i hi).1 e;subst this;exact(iI j hj).2 (xC j hi).2
  .intro i cs hi hh;exact hs.pb i cs (hmk i _ hi (by simp)).1 (Kh _ hh)
  .intro i b hi;by_cases hd:b= .dead
   .subst hd;trivial
   .have hb:=hs.km i b (hmk i b hi hd).1;cases b with
    |dead=>exact absurd rfl hd
    |row cs=>
     obtain⟨cV,t,fz,us,h1,hf,h2,h3⟩:=hb;exact⟨cV,t,fz,us,h1,hf,h2,λk x hk=>⟨(h3 k x hk).1,(h3 k x hk).2.1,by rw[IK];exact(h3 k x hk).2.2.yz Kh⟩⟩
    |map es clock=>
     obtain⟨ms,h1,h2,ZE,h3⟩:=hb;refine⟨ms,h1,h2,ZE,λk e hk=>?_⟩;obtain⟨m,a1,a2,a3,a4,a5⟩:=h3 k e hk;exact⟨m,a1,a2,a3,a4,by rw[IK];exact a5.yz Kh⟩
    |MA cs=>
     obtain⟨cV,t,fz,us,h1,h3⟩:=hb;exact⟨cV,t,fz,us,h1,λk x hk=>⟨(h3 k x hk).1,(h3 k x hk).2.1,(h3 k x hk).2.2.yz Kh⟩⟩
    |iter s p=>exact hb
    |raw cs=>
     obtain⟨cV,t,fz,us,h1,hf,h2,h3⟩:=hb;exact⟨cV,t,fz,us,h1,hf,h2,λk x hk=>⟨(h3 k x hk).1,(h3 k x hk).2.1,by rw[IK];exact(h3 k x hk).2.2.yz Kh⟩⟩
 have aai:∀(n:Nat)(v:Value)(x y:AV),Rp w (dZ X ρ h) ρ h.length v x->da (mask ids h) n x=some y->Ri w (dZ X ρ h') v y:=λn v x y hr hy=>
  ox hsm n v x y (by rw[IK];exact hr.yz Kh) hy
 refine⟨FU hs h' hl λi b' hi=>?_,aai⟩;rcases hg i b' hi with⟨_,h2⟩|⟨_,⟨cs,cs',h1,h2,rfl⟩|⟨h1,_⟩⟩
 .exact .inr (.inl h2)
 .refine .inr (.inr ⟨cs',rfl,⟨_,h1,rfl⟩,?_⟩);obtain⟨cV,t,fz,us,d1,_,_,d3⟩:=hs.row i cs h1;obtain⟨m1,m2⟩:=iT h2;refine⟨cV,t,fz,us,d1,λk y hk=>?_⟩;have iB:k<cs.length:=by have:=(Za.1 hk).1;omega
  obtain⟨b,hb,jx⟩:=m2 k _ (Zb iB);rw[hk]at hb;cases hb;have h3:=d3 k _ (Zb iB);exact⟨h3.1,h3.2.1,aai 8 _ _ _ h3.2.2 jx⟩
 .exact .inr (.inl h1)
end Go.Ae
