/- Part of the proof. -/
import Derived.Test.YtaibpnppeiigdaaGreatDoorP2
import Derived.IntWalk
set_option linter.all false
namespace Go.Ae
open Go
def ef :Nat->Prop:=λ_=>False
def quiet_step {w w':World}{ρ:Nat->Nat}{h:Hp}(dD:Step w ef w' ef):Step w (own ρ h) w' (own ρ h):=
 ⟨dD.os,dD.tape,dD.output,dD.size,λb hb _=>dD.keep b hb (λh=>h),dD.row,λ_ _ hh=>hh,dD.drew⟩
def kq {G:Nat->Option (List Value)}{w w':World}{X:Nat->Prop}{ρ:Nat->Nat}{h:Hp}(hs:iw G w X ρ h)(dD:Step w ef w' ef):Ext G w X ρ h w' ρ h:=by
 have hk:∀b o,w.heap[b]?=some o->w'.heap[b]?=some o:=λb o hb=>(dD.keep b (fH hb) (λh=>h)).trans hb
 have eZ:Step w (own ρ h) w' (own ρ h):=quiet_step dD;refine⟨⟨λb hb=>Ym (hs.DV b hb) dD.size,λg row hg=>?_,hs.inj,hs.out,hs.rV,?_⟩,λ_ _=>rfl,Yt _,eZ⟩
 .obtain⟨h1,c,t,fz,h2,h3⟩:=hs.tD g row hg;exact⟨h1,c,t,fz,hk g _ h2,h3⟩
 .intro i b hi;by_cases hd:b= .dead
  .subst hd;trivial
  .have hb:=hs.kg i b hi;rw[dD.keep _ (hb.lt hd) (λh=>h)];exact hb.step eZ (λ_ _=>rfl) (Yt _)
def GF {w:World}{X:Nat->Prop}{ρ:Nat->Nat}{n:Nat}{v:Value}{x:AV}(h:Rp w X ρ n v x)(hc:d_ x=true):Ri w X v x:=by
 have one:∀{v:Value} {x:AV},Rp w X ρ n v x->(match x with| .sc _| .ls .. | .rp .. =>true|_=>false)=true->Ri w X v x:=by
  intro v x h hx;cases h with
  |im hi=>exact hi
  |_=>simp at hx
 unfold d_ at hc;split at hc
 .exact one h rfl
 .exact one h rfl
 .exact one h rfl
 .rename_i xs;obtain⟨us,rfl,h1,h2,h3⟩:=h.yC;rw[Yr]at hc;exact .ag us xs h1 h2 λk x hk=>one (h3 k x hk) (hc x (Zi hk))
 .rename_i xs;obtain⟨us,rfl,h1,h3⟩:=h.qH;rw[Yr]at hc;exact .fn _ us xs h1 λk x hk=>one (h3 k x hk) (hc x (Zi hk))
 .cases hc
def RC (w:World)(X:Nat->Prop)(ρ:Nat->Nat)(n:Nat)(us:Array Value)(xs:List AV):Prop:=
 us.size=xs.length/\(∀k,k<us.size->(us.getD k undef).oneCell'=true)/\∀(k:Nat) (x:AV),xs[k]?=some x->Rp w X ρ n (us.getD k undef) x
def vQ (off:Nat):∀(vs:List Value) (s:Nat) (cells:Array Value) (k:Nat),off+s+vs.length<=cells.size->
 ((vs.zipIdx s).foldl (λcs p=>cs.setIfInBounds (off+p.2) p.1) cells)[k]?=if off+s<=k/\k<off+s+vs.length then vs[k-(off+s)]? else cells[k]?
 | [],s,cells,k,_=>by simp;omega
 |
  v::vs,s,cells,k,eG=>by
  simp only[Yw]at eG;simp only[List.zipIdx_cons,Yl];rw[vQ off vs (s+1) _ k (by simp;omega)];by_cases h1:off+s=k
  .subst h1;rw[db (by omega),dd (by simp)];have:off+s<cells.size:=by omega
   simp[this]
  .by_cases h2:off+(s+1)<=k/\k<off+(s+1)+vs.length
   .rw[dd h2,dd (by simp only[Yw];omega)];have:k-(off+s)=(k-(off+(s+1)))+1:=by omega
    rw[this,Yf]
   .rw[db h2,db (by simp only[Yw];omega),Array.getElem?_setIfInBounds_ne h1]
def pM (off:Nat):∀(vs:List Value) (s:Nat) (cells:Array Value),((vs.zipIdx s).foldl (λcs p=>cs.setIfInBounds (off+p.2) p.1) cells).size=cells.size
 | [],s,cells=>rfl
 |v::vs,s,cells=>by simp only[List.zipIdx_cons,Yl];rw[pM off vs (s+1)];simp
section lit
variable {C : Cx} {w : World} {X : Nat -> Prop} {ρ : Nat -> Nat} {h : Hp} {a : Act} {fr : List AV} {o : Oper}
def RC.set {n:Nat}{us:Array Value}{xs:List AV}(hr:RC w X ρ n us xs){v:Value}{ys:List AV}(h1:v.cells.size=ys.length)(h2:∀k,k<v.cells.size->(v.cells.getD k undef).oneCell'=true)
 (h3:∀(k:Nat) (y:AV),ys[k]?=some y->Rp w X ρ n (v.cells.getD k undef) y) {off:Nat} (eG:off+ys.length<=xs.length):
 RC w X ρ n (v.cells.zipIdx.foldl (λcs (p:Value × Nat)=>cs.setIfInBounds (off+p.2) p.1) us) (da xs off ys):=by
 obtain⟨r1,r2,r3⟩:=hr;have e:v.cells.zipIdx.foldl (λcs (p:Value × Nat)=>cs.setIfInBounds (off+p.2) p.1) us=(v.cells.toList.zipIdx 0).foldl (λcs p=>cs.setIfInBounds (off+p.2) p.1) us:=by
  rw[<-Array.foldl_toList,Array.toList_zipIdx]
 rw[e];have oL:=λk=>vQ off v.cells.toList 0 us k (by simp;omega)
 simp only[Nat.add_zero,Array.length_toList]at oL;have hval:∀k,((v.cells.toList.zipIdx 0).foldl (λcs (p:Value × Nat)=>cs.setIfInBounds (off+p.2) p.1) us).getD k undef=if off<=k/\k<off+v.cells.size then v.cells.getD (k-off) undef else us.getD k undef:=by
  intro k;rw[Zr,oL k];split
  .simp[Zr]
  .simp[Zr]
 refine⟨by rw[pM,ko eG];exact r1,λk hk=>?_,λk x hk=>?_⟩
 .rw[hval];rw[pM]at hk;by_cases hc:off<=k/\k<off+v.cells.size
  .rw[dd hc];exact h2 _ (by omega)
  .rw[db hc];exact r2 k hk
 .rw[hval];rw[wj (by omega)]at hk;split at hk
  .rename_i hc;rw[dd (by omega)];exact h3 _ x hk
  .rename_i hc;rw[db (by omega)];exact r3 k x hk
def xN (hs:iw C.G w X ρ h)(hf:RF w (fj X ρ h) ρ h.length a.tmps fr){pA pV:Nat->Option (Nat × Nat)}(hp:∀i q,pA i=some q->pV i=some q):
 ∀(ps:List (Nat × Operand)) (us:Array Value) (xs out:List AV),RC w (fj X ρ h) ρ h.length us xs->ni pA xs (ps.map λp=>(p.1,ev C fr p.2))=some out->
  ∃y6,Instr.fill pV us (ps.map λp=>(p.1,a.eval p.2))=some y6/\RC w (fj X ρ h) ρ h.length y6 out
 | [],us,xs,out,hr,ho=>by simp[ni]at ho;subst ho;exact⟨us,rfl,hr⟩
 |
  p::ps,us,xs,out,hr,ho=>by
  simp only[Xi,ni]at ho;split at ho
  .rename_i off size cs hq hc;split at ho
   .rename_i rN;obtain⟨c1,c2,c3⟩:=(eH hs hf p.2).AH hc;have du:=hr.set c1 c2 c3 (off:=off) (by omega);obtain⟨y6,e1,e2⟩:=xN hs hf hp ps _ _ out du ho;refine⟨y6,?_,e2⟩;simp only[Xi,Instr.fill,hp _ _ hq];rw[db (by have:=hr.1;simp only[ne_eq,Bool.or_eq_true,Zz,not_or];omega)];exact e1
   .cases ho
  .cases ho
def aa7 {z:Value}(h8:∀u∈z.cells.toList,lG u=true)(n:Nat):RC w X ρ n z.cells (z.cells.toList.map .sc):=by
 refine⟨by simp,λk hk=>?_,λk x hk=>?_⟩
 .have:z.cells.getD k undef∈z.cells.toList:=by simp[hk]
  exact pz (h8 _ this)
 .simp only[Zs,Ze]at hk;obtain⟨u,hu,rfl⟩:=hk;have hu':z.cells[k]?=some u:=by simpa using hu
  have:z.cells.getD k undef=u:=by simp[hu']
  rw[this];exact .im (.sc u (h8 u (Zi hu)))
def CE {P:Program}(w:World):∀(fs:List Field) (l:List (Nat × Nat × Bool)),l.length=fs.length->(∀(k:Nat) (f:Field),fs[k]?=some f->∃fi,P.info? f.type=some fi/\(l[k]?).map (λq=>(q.1,q.2.1))=some (f.offset,fi.size))->
 (fs.mapM (m:=Sem) λf=>do pure (f.offset,<-sizeOf f.type)).run P w= .ok (l.map λq=>(q.1,q.2.1)) w
 |
  [],l,hl,_=>by
  have:l=[]:=Zl (by simpa using hl);subst this;simp
 |
  f::fs,l,hl,hg=>by
  cases l with
  |nil=>simp at hl
  |
   cons q l=>
   obtain⟨fi,h1,h2⟩:=hg 0 f rfl;have ih:=CE w fs l (by simpa using hl) (λk f' hk=>by simpa using hg (k+1) f' (by simpa using hk));simp only[Yg,Xq,Zc]at h2;simp only[Zo,Sem.run_bind,fu h1,Result.andThen_ok,Sem.run_pure,ih,Xi,h2]
def O3 (hs:iw C.G w X ρ h)(hf:RF w (fj X ρ h) ρ h.length a.tmps fr){t:TypeId}{parts:Array (Nat × Operand)}(eD:o.op= .build t parts){i:Ti}(hi:f_ C.P t=some i){pA:Nat->Option (Nat × Nat)}
 (hk:(∃fs,i.kd= .struct fs/\pA=λk=>(fs[k]?).map λf=>(f.1,f.2.1))\/(∃n sz ag,i.kd= .array n sz ag/\pA=λk=>some (k*sz,sz))) {cs:List AV}
 (hc:ni pA (i.zero.map .sc) (parts.toList.map λp=>(p.1,ev C fr p.2))=some cs):Good C o a w X ρ h (.ag cs) h:=by
 obtain⟨d,info,z,h1,h2,h3,h4,h5,h6,h7,h8,h9⟩:=eP hi;rw[h7]at hc;have hz:=aa7 (w:=w) (X:=fj X ρ h) (ρ:=ρ) h8 h.length;have JG:(parts.map λp=>(p.1,a.eval p.2)).toList=parts.toList.map λp=>(p.1,a.eval p.2):=by simp
 rcases hk with⟨fs,hk,rfl⟩|⟨n,sz,ag,hk,rfl⟩
 .rw[hk]at h4;obtain⟨fields,rfl,cU,oL⟩:=ui h4;have pT:=CE (P:=C.P) w fields.toList fs (by simpa using cU) (λk f sw=>by
   obtain⟨fi,fd,g1,g2,g3⟩:=oL k f (by simpa using sw);exact⟨fi,g1,by rw[g3];rfl⟩)
  obtain⟨y6,e1,e2⟩:=xN hs hf (pV:=λk=>((fs.map λq=>(q.1,q.2.1)).toArray)[k]?) (λk q hq=>by simpa using hq) parts.toList _ _ cs hz hc;refine dE hs (v:= .agg y6) ?_ (.ag y6 cs e2.1 e2.2.1 e2.2.2);have aka:(fields.mapM (m:=Sem) λf=>do pure (f.offset,<-sizeOf f.type)).run C.P w= .ok (fs.map λq=>(q.1,q.2.1)).toArray w:=by
   rw[Array.mapM_eq_mapM_toList,Sem.run_map,pT];rfl
  simp only[execOp,eD,Instr.build,Sem.run_bind,pB h2 h3,Result.andThen_ok,run_underlying h1,aka,JG,e1,Sem.run_pure]
 .rw[hk]at h4;obtain⟨e,ei,ed,rfl,k1,k2,rfl,k4⟩:=wi h4;obtain⟨y6,e1,e2⟩:=xN hs hf (pV:=λk=>some (k*ei.size,ei.size)) (λk q hq=>hq) parts.toList _ _ cs hz hc;refine dE hs (v:= .agg y6) ?_ (.ag y6 cs e2.1 e2.2.1 e2.2.2);simp only[execOp,eD,Instr.build,Sem.run_bind,pB h2 h3,Result.andThen_ok,run_underlying h1,fu k1,JG,e1,Sem.run_pure]
def O4 {α:Type}(l:List α):∀(n k:Nat),((List.range n).flatMap λ_=>l)[k]?=if k<n*l.length then l[k % l.length]? else none
 |0,k=>by simp
 |
  n+1,k=>by
  have e:((List.range (n+1)).flatMap λ_=>l)=l++(List.range n).flatMap λ_=>l:=by
   rw[List.range_succ_eq_map,Yu,List.flatMap_map]
  rw[e];by_cases hk:k<l.length
  .rw[Zd hk,dd (by rw[Xw];omega),Nat.mod_eq_of_lt hk]
  .rw[Zf (by omega),O4 l n (k-l.length)];have hm:k % l.length=(k-l.length) % l.length:=by
    rw[Nat.mod_eq_sub_mod (by omega)]
   rw[hm];by_cases h2:k-l.length<n*l.length
   .rw[dd h2,dd (by rw[Xw];omega)]
   .rw[db h2,db (by rw[Xw];omega)]
def wq {α:Type}(l:List α)(n:Nat):((List.range n).flatMap λ_=>l).length=n*l.length:=by
 induction n with
 |zero=>simp
 |
  succ n ih=>
  have e:((List.range (n+1)).flatMap λ_=>l)=l++(List.range n).flatMap λ_=>l:=by
   rw[List.range_succ_eq_map,Yu,List.flatMap_map]
  rw[e,Zu,ih,Xw];omega
def CF {z:Value}(h8:∀u∈z.cells.toList,lG u=true)(n m:Nat)(hz:0<z.cells.size):RC w X ρ n ((Array.range (m*z.cells.size)).map (z.cells[· % z.cells.size]!)) ((List.range m).flatMap λ_=>z.cells.toList.map .sc):=by
 refine⟨by rw[wq];simp,λk hk=>?_,λk x hk=>?_⟩
 .simp only[Array.size_map,Array.size_range]at hk;have hm:k % z.cells.size<z.cells.size:=Nat.mod_lt _ hz;have:((Array.range (m*z.cells.size)).map (z.cells[· % z.cells.size]!)).getD k undef=z.cells[k % z.cells.size]:=by simp[hk,hm]
  rw[this];exact pz (h8 _ (by simp))
 .rw[O4]at hk;simp only[Yk,Array.length_toList]at hk;split at hk
  .rename_i dY;simp only[Zs,Ze]at hk;obtain⟨u,hu,rfl⟩:=hk;have hm:k % z.cells.size<z.cells.size:=Nat.mod_lt _ hz;have hu':z.cells[k % z.cells.size]=u:=by
    have:z.cells[k % z.cells.size]?=some u:=by simpa using hu
    rw[Xv hm]at this;simpa using this
   have:((Array.range (m*z.cells.size)).map (z.cells[· % z.cells.size]!)).getD k undef=u:=by simp[dY,hm,hu']
   rw[this];exact .im (.sc u (h8 u (by rw[<-hu'];simp)))
  .cases hk
def EU (hs:iw C.G w X ρ h){us:Array Value}{cs:List AV}(hr:RC w (fj X ρ h) ρ h.length us cs)(t:TypeId):
 Ext C.G w X ρ h (w.alloc (.cells us t (0,0))) (λi=>if i=h.length then w.heap.size else ρ i) (h++[.row cs]):=
 uP hs us t cs (λk=>us.getD k undef) (by rw[hr.1];omega) (λk x hk=>by
  have dY:k<us.size:=by have:=(Za.1 hk).1;rw[hr.1];exact this
  exact⟨by simp[dY],hr.2.1 k dY,hr.2.2 k x hk⟩) (0,0) (.inl rfl)
def y7 (w0 w':World)(h:Hp)(ρ:Nat->Nat)(X':Nat->Prop)(m sz len cap:Nat)(hm:h.length<m)(dA:Array Value)(t:TypeId)(fz:Nat × Nat)(hw:w'.heap[w0.heap.size]?=some (.cells dA t fz))(hc:cap*sz=dA.size)(hl:len<=cap)(hx:cap<=maxLen):
 Rp w' X' (λi=>if i=h.length then w0.heap.size else ρ i) m (.slice (some ⟨w0.heap.size,0,none⟩) len cap) (.sl h.length sz 0 len false):=by
 have:=Rp.sl (w:=w') (X:=X') (ρ:=λi=>if i=h.length then w0.heap.size else ρ i) h.length sz 0 len cap false dA t fz hm (by simpa using hw) (by omega) (by simp) (by simp;omega) hl hx;simpa using this
def jT (w:World)(ob:Obj):(w.alloc ob).heap[w.heap.size]?=some ob:=by
 show(w.heap.push ob)[w.heap.size]?=some ob;simp
def Wn {w:World}{X:Nat->Prop}{b cap sz len:Nat}{cs:List AV}{dA:Array Value}{t:TypeId}{fz:Nat × Nat}(hx:¬X b)(hb:w.heap[b]?=some (.cells dA t fz))(cU:len*sz<=cs.length)
 (hc:len<=cap) (hm:cap<=maxLen) (z:Bool) (hz:z=true->cap=len) (fo:∀(k:Nat) (y:AV),cs[k]?=some y->∃u,dA[k]?=some u/\u.oneCell'=true/\Ri w X u y):
 Ri w X (.slice (some ⟨b,0,none⟩) len cap) (.ls sz (chunk sz len cs) z):=by
 have fX:∀(i:Nat) (row:List AV),(chunk sz len cs)[i]?=some row->i<len/\row=(cs.drop (i*sz)).take sz:=by
  intro i row du;simp only[chunk,Zs,Ze]at du;obtain⟨k,hk,rfl⟩:=du;have gG:i<len:=by have:=(Za.1 hk).1;simpa using this
  rw[Xp gG]at hk;cases hk;exact⟨gG,rfl⟩
 have Hj:∀(i:Nat) (row:List AV) (j:Nat) (x:AV),(chunk sz len cs)[i]?=some row->row[j]?=some x->∃u,dA[0+i*sz+j]?=some u/\u.oneCell'=true/\Ri w X u x:=by
  intro i row j x du hx;obtain⟨gG,rfl⟩:=fX i row du;rw[Xr]at hx;split at hx
  .rw[Xg]at hx;rw[Xb];exact fo _ _ hx
  .cases hx
 refine .ls b 0 len cap sz _ z (λi j=>dA.getD (0+i*sz+j) undef) dA t fz hx hb (by simp[chunk]) hc hm hz ?_ ?_ ?_
 .intro i row du;obtain⟨gG,rfl⟩:=fX i row du;have:(i+1)*sz<=len*sz:=Zx sz gG;rw[Xw,Nat.one_mul]at this;simp only[Yy,Xk];omega
 .intro i row j x du hx;obtain⟨u,h1,h2,_⟩:=Hj i row j x du hx;have:dA.getD (0+i*sz+j) undef=u:=by rw[Zr,h1];rfl
  simp only[this];exact⟨h1,h2⟩
 .intro i row j x du hx;obtain⟨u,h1,_,h3⟩:=Hj i row j x du hx;have:dA.getD (0+i*sz+j) undef=u:=by rw[Zr,h1];rfl
  simp only[this];exact h3
def iV (w:World)(ob:Obj):Step w ef (w.alloc ob) ef:=by
 have hold:∀b,b<w.heap.size->(w.alloc ob).heap[b]?=w.heap[b]?:=λb hb=>by
  show(w.heap.push ob)[b]?=_;simp[Array.getElem?_push,Xu hb]
 exact⟨rfl,rfl,rfl,by show _<=(w.heap.push ob).size;simp,λb hb _=>hold b hb,λb c t' x8 hb=>⟨c,t',x8,(hold b (fH hb)).trans hb,rfl⟩,λ_ _ h=>h,Yt _⟩
def JH (w:World)(k:Nat)(hk:w.drawn<=k):Step w ef {w with drawn:=k} ef:=⟨rfl,rfl,rfl,Yt _,λ_ _ _=>rfl,λ_ _ _ _ hb=>⟨_,_,_,hb,rfl⟩,λ_ _ h=>h,hk⟩
def y8 (hs:iw C.G w X ρ h){w':World}(dD:Step w ef w' ef){dA:Array Value}{e:TypeId}{fz:Nat × Nat}(lr:w'.heap[w.heap.size]?=some (.cells dA e fz)){cs:List AV}{len cap sz:Nat}(cU:len*sz<=cs.length)
 (hc:len<=cap) (hm:cap<=maxLen) (z:Bool) (hz:z=true->cap=len) (dJ:cs.all d_=true) (fo:∀(k:Nat) (y:AV),cs[k]?=some y->∃u,dA[k]?=some u/\u.oneCell'=true/\Rp w (fj X ρ h) ρ h.length u y)
 (hr:(execOp a.eval o).run C.P w= .ok (.value (.slice (some ⟨w.heap.size,0,none⟩) len cap)) w'):Good C o a w X ρ h (.ls sz (chunk sz len cs) z) h:=by
 have he:=kq hs dD;have hnX:¬fj X ρ h w.heap.size:=λhh=>by
  rcases hh with hx|⟨i,hi,e⟩
  .have:=hs.DV _ hx;omega
  .have:=hs.lt hi;omega
 refine fW hr he (.im (Wn hnX lr cU hc hm z hz λk y hk=>?_));obtain⟨u,h1,h2,h3⟩:=fo k y hk;rw[Yr]at dJ;exact⟨u,h1,h2,GF (he.rp h3) (dJ y (Zi hk))⟩
def RC.cell {n:Nat}{us:Array Value}{xs:List AV}(hr:RC w X ρ n us xs)(k:Nat)(y:AV)(hk:xs[k]?=some y):∃u,us[k]?=some u/\u.oneCell'=true/\Rp w X ρ n u y:=by
 have dY:k<us.size:=by have:=(Za.1 hk).1;rw[hr.1];exact this
 refine⟨us.getD k undef,by simp[dY],hr.2.1 k dY,hr.2.2 k y hk⟩
def xO (hs:iw C.G w X ρ h)(hf:RF w (fj X ρ h) ρ h.length a.tmps fr){t:TypeId}{len:Nat}{parts:Array (Nat × Operand)}(eD:o.op= .buildSlice t len parts){i:Ti}(hi:f_ C.P t=some i)
 {sz vN:Nat} {ag:Bool} {ez:List Value} (hk:i.kd= .slice sz ag vN ez) (JI:len*sz<=16777216) {cs:List AV}
 (hc:ni (λk=>some (k*sz,sz)) ((List.range len).flatMap λ_=>ez.map .sc) (parts.toList.map λp=>(p.1,ev C fr p.2))=some cs):
 ∃(y6:Array Value) (e:TypeId),RC w (fj X ρ h) ρ h.length y6 cs/\y6.size=len*sz/\len<=maxLen/\(execOp a.eval o).run C.P w= .ok (.value (.slice (some ⟨w.heap.size,0,none⟩) len len)) (w.alloc (.cells y6 e (0,0))):=by
 obtain⟨d,info,z,h1,h2,h3,h4,h5,h6,h7,h8,h9⟩:=eP hi;rw[hk]at h4;obtain⟨e,ei,ed,Qw,rfl,k1,k2,k3,rfl,k5,k6,rfl,k8,k9,qQ⟩:=fV h4;have hzr:RC w (fj X ρ h) ρ h.length ((Array.range (len*ei.size)).map ((if len*ei.size=0 then #[]else Qw.cells)[· % (if len*ei.size=0 then(#[]:Array Value)else Qw.cells).size]!)) ((List.range len).flatMap λ_=>Qw.cells.toList.map .sc):=by
  by_cases h0:len*ei.size=0
  .have:len=0:=by rcases Nat.mul_eq_zero.1 h0 with h|h<;>omega
   subst this;exact⟨by simp,by simp,by simp⟩
  .simp only[h0,if_false];have:=CF (w:=w) (X:=fj X ρ h) (ρ:=ρ) k8 h.length len (by omega)
   rwa [k9]at this|-
 obtain⟨y6,e1,e2⟩:=xN hs hf (pV:=λk=>some (k*ei.size,ei.size)) (λk q hq=>hq) parts.toList _ _ cs hzr hc;have fq:y6.size=len*ei.size:=by
  rw[e2.1];have sA:∀(p:Nat->Option (Nat × Nat)) (ps:List (Nat × AV)) (xs out:List AV),ni p xs ps=some out->out.length=xs.length:=by
   intro p ps
   induction ps with
   |nil=>intro xs out ho;simp[ni]at ho;rw[ho]
   |
    cons q ps ih=>
    intro xs out ho;simp only[ni]at ho;split at ho
    .split at ho
     .rename_i rN;rw[ih _ _ ho,ko (by omega)]
     .cases ho
    .cases ho
  rw[sA _ _ _ _ hc,wq];simp[k9]
 have jt:len<=maxLen:=by
  have:len<=len*ei.size:=Nat.le_mul_of_pos_right _ qQ;simp only[maxLen];omega
 refine⟨y6,e,e2,fq,jt,?_⟩;have JG:(parts.map λp=>(p.1,a.eval p.2)).toList=parts.toList.map λp=>(p.1,a.eval p.2):=by simp
 have hz:(if len*ei.size=0 then(pure #[]:Sem (Array Value))else do pure (<-zeroValue e).cells).run C.P w= .ok (if len*ei.size=0 then #[]else Qw.cells) w:=by
  split
  .rfl
  .simp only[Sem.run_bind,pB k1 k3,Result.andThen_ok,Sem.run_pure]
 have agR:¬(len*ei.size>2^24):=by omega
 clear hz;by_cases h0:len*ei.size=0
 .simp only[h0,if_true]at e1;simp only[execOp,eD,Instr.buildSlice,Sem.run_bind,Result.andThen_ok,run_underlying h1,fu k1,h0,show¬(0>2^24) by omega,if_false,if_true,JG,newRow,sG,Sem.run_pure,e1]
 .simp only[h0,if_false]at e1;simp only[execOp,eD,Instr.buildSlice,Sem.run_bind,Result.andThen_ok,run_underlying h1,fu k1,h0,agR,if_false,JG,newRow,sG,Sem.run_pure,e1,pB k1 k3]
def xP (hs:iw C.G w X ρ h)(hf:RF w (fj X ρ h) ρ h.length a.tmps fr){t:TypeId}{len:Nat}{parts:Array (Nat × Operand)}(eD:o.op= .buildSlice t len parts){i:Ti}(hi:f_ C.P t=some i)
 {sz vN:Nat} {ag:Bool} {ez:List Value} (hk:i.kd= .slice sz ag vN ez) (JI:len*sz<=16777216) {cs:List AV}
 (hc:ni (λk=>some (k*sz,sz)) ((List.range len).flatMap λ_=>ez.map .sc) (parts.toList.map λp=>(p.1,ev C fr p.2))=some cs):Good C o a w X ρ h (.sl h.length sz 0 len false) (h++[.row cs]):=by
 obtain⟨y6,e,e2,fq,jt,hr⟩:=xO hs hf eD hi hk JI hc;exact fW hr (EU hs e2 e) (y7 w _ h ρ _ _ _ _ _ (by simp) y6 e (0,0) (jT _ _) (by omega) (Yt _) jt)
def GG (hs:iw C.G w X ρ h)(hf:RF w (fj X ρ h) ρ h.length a.tmps fr){t:TypeId}{len:Nat}{parts:Array (Nat × Operand)}(eD:o.op= .buildSlice t len parts){i:Ti}(hi:f_ C.P t=some i)
 {sz vN:Nat} {ag:Bool} {ez:List Value} (hk:i.kd= .slice sz ag vN ez) (JI:len*sz<=16777216) {cs:List AV}
 (hc:ni (λk=>some (k*sz,sz)) ((List.range len).flatMap λ_=>ez.map .sc) (parts.toList.map λp=>(p.1,ev C fr p.2))=some cs) (dJ:cs.all d_=true):Good C o a w X ρ h (.ls sz (chunk sz len cs) true) h:=by
 obtain⟨y6,e,e2,fq,jt,hr⟩:=xO hs hf eD hi hk JI hc;exact y8 hs (iV w _) (jT w _) (by rw[<-e2.1,fq];exact Yt _) (Yt _) jt true (λ_=>rfl) dJ e2.cell hr
def zL (hs:iw C.G w X ρ h)(hf:RF w (fj X ρ h) ρ h.length a.tmps fr){t:TypeId}{l c:Operand}(eD:o.op= .makeSlice t l c){i:Ti}(hi:f_ C.P t=some i)
 {sz vN:Nat} {ag:Bool} {ez:List Value} (hk:i.kd= .slice sz ag vN ez) {n:Nat} (hn:iZ (ev C fr l)=some n) (hm:iZ (ev C fr c)=some n) (jt:n<=maxLen) (yw:n*vN<=140737488355328):
 ∃(y6:Array Value) (e:TypeId),RC w (fj X ρ h) ρ h.length y6 ((List.range n).flatMap λ_=>ez.map .sc)/\y6.size=n*sz/\(∀u∈ez,lG u=true)/\(execOp a.eval o).run C.P w= .ok (.value (.slice (some ⟨w.heap.size,0,none⟩) n n)) (w.alloc (.cells y6 e (0,0))):=by
 obtain⟨d,info,z,h1,h2,h3,h4,h5,h6,h7,h8,h9⟩:=eP hi;rw[hk]at h4;obtain⟨e,ei,ed,Qw,rfl,k1,k2,k3,rfl,k5,rfl,rfl,k8,k9,qQ⟩:=fV h4;obtain⟨q1,j1,S_,hj10,hj1n⟩:=oU (eH hs hf l) hn;obtain⟨q2,j2,vT,hj20,hj2n⟩:=oU (eH hs hf c) hm;have w1:IntKind.i64.wrap j1=j1:=IntWalk.i64_in j1 (by simp only[maxLen]at jt;omega);have w2:IntKind.i64.wrap j2=j2:=IntWalk.i64_in j2 (by simp only[maxLen]at jt;omega);have hr:RC w (fj X ρ h) ρ h.length ((Array.range (n*ei.size)).map ((if n*ei.size=0 then #[]else Qw.cells)[· % (if n*ei.size=0 then(#[]:Array Value)else Qw.cells).size]!)) ((List.range n).flatMap λ_=>Qw.cells.toList.map .sc):=by
  by_cases h0:n*ei.size=0
  .have:n=0:=by rcases Nat.mul_eq_zero.1 h0 with h|h<;>omega
   subst this;exact⟨by simp,by simp,by simp⟩
  .simp only[h0,if_false];have:=CF (w:=w) (X:=fj X ρ h) (ρ:=ρ) k8 h.length n (by omega)
   rwa [k9]at this|-
 refine⟨_,e,hr,by simp,k8,?_⟩;have hz:(if n*ei.size=0 then(pure #[]:Sem (Array Value))else do pure (<-zeroValue e).cells).run C.P w= .ok (if n*ei.size=0 then #[]else Qw.cells) w:=by
  split
  .rfl
  .simp only[Sem.run_bind,pB k1 k3,Result.andThen_ok,Sem.run_pure]
 have rT:(typeInfo e).run C.P w= .ok ei w:=by simp[typeInfo,k1]
 have Db:j1=(n:Int):=by omega
 have hjm:j2=(n:Int):=by omega
 have hsmall:¬((ei.bytes:Int)*(n:Int)>2^48):=by
  have:(ei.bytes:Int)*(n:Int)=((n*ei.bytes:Nat):Int):=by rw[Nat.mul_comm];simp
  rw[this];omega
 have nu:¬(n*ei.bytes>roomBytes):=by simp only[roomBytes];omega
 have rN:((decide ((n:Int)<0)||decide ((ei.bytes:Int)*(n:Int)>2^48))||decide ((n:Int)<0)||decide ((n:Int)>(n:Int)))=false:=by
  simp;omega
 rw[Db]at w1;clear hz;by_cases h0:n*ei.size=0
 .simp only[execOp,eD,Instr.makeSlice,Sem.run_bind,Result.andThen_ok,run_underlying h1,S_,vT,asInt,asIntOf,Sem.run_pure,rT,Db,hjm,w1,askRoom,Int.toNat_natCast,nu,if_false,fu k1,newRow,sG,rN,h0,if_true,Yq]
 .simp only[execOp,eD,Instr.makeSlice,Sem.run_bind,Result.andThen_ok,run_underlying h1,S_,vT,asInt,asIntOf,Sem.run_pure,rT,Db,hjm,w1,askRoom,Int.toNat_natCast,nu,if_false,fu k1,newRow,sG,rN,h0,pB k1 k3,Yq]
def JJ (hs:iw C.G w X ρ h)(hf:RF w (fj X ρ h) ρ h.length a.tmps fr){t:TypeId}{l c:Operand}(eD:o.op= .makeSlice t l c){i:Ti}(hi:f_ C.P t=some i)
 {sz vN:Nat} {ag:Bool} {ez:List Value} (hk:i.kd= .slice sz ag vN ez) {n:Nat} (hn:iZ (ev C fr l)=some n) (hm:iZ (ev C fr c)=some n) (jt:n<=maxLen) (yw:n*vN<=140737488355328):
 Good C o a w X ρ h (.sl h.length sz 0 n false) (h++[.row ((List.range n).flatMap λ_=>ez.map .sc)]):=by
 obtain⟨y6,e,e2,fq,_,hr⟩:=zL hs hf eD hi hk hn hm jt yw;exact fW hr (EU hs e2 e) (y7 w _ h ρ _ _ _ _ _ (by simp) y6 e (0,0) (jT _ _) (by omega) (Yt _) jt)
def JK (hs:iw C.G w X ρ h)(hf:RF w (fj X ρ h) ρ h.length a.tmps fr){t:TypeId}{l c:Operand}(eD:o.op= .makeSlice t l c){i:Ti}(hi:f_ C.P t=some i)
 {sz vN:Nat} {ag:Bool} {ez:List Value} (hk:i.kd= .slice sz ag vN ez) {n:Nat} (hn:iZ (ev C fr l)=some n) (hm:iZ (ev C fr c)=some n) (jt:n<=maxLen) (yw:n*vN<=140737488355328):
 Good C o a w X ρ h (.ls sz (chunk sz n ((List.range n).flatMap λ_=>ez.map .sc)) true) h:=by
 obtain⟨y6,e,e2,fq,hz,hr⟩:=zL hs hf eD hi hk hn hm jt yw;refine y8 hs (iV w _) (jT w _) (by rw[<-e2.1,fq];exact Yt _) (Yt _) jt true (λ_=>rfl) ?_ e2.cell hr;rw[Yr];intro x hx;simp only[List.mem_flatMap,Yi]at hx;obtain⟨_,_,u,_,rfl⟩:=hx;rfl
end lit
section ops
variable {C : Cx} {w : World} {X : Nat -> Prop} {ρ : Nat -> Nat} {h : Hp} {a : Act} {fr : List AV} {o : Oper}
def lE (hs:iw C.G w X ρ h)(hf:RF w (fj X ρ h) ρ h.length a.tmps fr){x:Operand}{i y:Nat}(hn:iZ (ev C fr x)=some i)(eG:i<=y)(code:BoundsCode):(Instr.sliceBound (a.eval x) y code).run C.P w= .ok i w:=by
 obtain⟨k,j,hj,Qj,Db⟩:=oU (eH hs hf x) hn;have hc:0<=j/\j<=(y:Int):=by omega
 simp only[Instr.sliceBound,hj,asIntOf,Sem.run_bind,Sem.run_pure,Result.andThen_ok,hc,and_self,if_true,Db]
def sX (hs:iw C.G w X ρ h)(hf:RF w (fj X ρ h) ρ h.length a.tmps fr){lo hi:Option Operand}{l hh len cap:Nat}(hl:gQ 0 (lo.map (ev C fr))=some l)(DI:gQ len (hi.map (ev C fr))=some hh)
 (h1:l<=hh) (h2:hh<=cap):(Instr.sliceBounds true len cap (lo.map a.eval) (hi.map a.eval) none).run C.P w= .ok (l,hh,cap) w:=by
 cases hi with
 |
  none=>
  simp only[Option.map_none,gQ,Zc]at DI;subst DI;cases lo with
  |
   none=>
   simp only[Option.map_none,gQ,Zc]at hl;subst hl;simp only[Instr.sliceBounds,Option.map_none,Sem.run_bind,Sem.run_pure,Result.andThen_ok]
  |
   some x=>
   simp only[Xq,gQ]at hl;simp only[Instr.sliceBounds,Option.map_none,Xq,Sem.run_bind,Sem.run_pure,Result.andThen_ok,lE hs hf hl h1]
 |
  some y=>
  simp only[Xq,gQ]at DI;cases lo with
  |
   none=>
   simp only[Option.map_none,gQ,Zc]at hl;subst hl;simp only[Instr.sliceBounds,Option.map_none,Xq,Sem.run_bind,Sem.run_pure,Result.andThen_ok,lE hs hf DI h2]
  |
   some x=>
   simp only[Xq,gQ]at hl;simp only[Instr.sliceBounds,Xq,Sem.run_bind,Sem.run_pure,Result.andThen_ok,lE hs hf DI h2,lE hs hf hl h1]
def qy (hs:iw C.G w X ρ h)(hf:RF w (fj X ρ h) ρ h.length a.tmps fr){lo:Option Operand}{hi mx:Operand}{l hh m len cap:Nat}(hl:gQ 0 (lo.map (ev C fr))=some l)(PE:l<=hh)(DI:iZ (ev C fr hi)=some hh)
 (hhm:hh<=m) (hm:iZ (ev C fr mx)=some m) (h2:m<=cap):(Instr.sliceBounds true len cap (lo.map a.eval) (some (a.eval hi)) (some (a.eval mx))).run C.P w= .ok (l,hh,m) w:=by
 cases lo with
 |
  none=>
  simp only[Option.map_none,gQ,Zc]at hl;subst hl;simp only[Instr.sliceBounds,Option.map_none,Sem.run_bind,Sem.run_pure,Result.andThen_ok,lE hs hf hm h2,lE hs hf DI hhm]
 |
  some x=>
  simp only[Xq,gQ]at hl;simp only[Instr.sliceBounds,Xq,Sem.run_bind,Sem.run_pure,Result.andThen_ok,lE hs hf hm h2,lE hs hf DI hhm,lE hs hf hl PE]
def O5 {X:Nat->Prop}{b o' cap sz l hh m:Nat}{cY:List (List AV)}{us:Nat->Nat->Value}{dA:Array Value}{t0:TypeId}{fz:Nat × Nat}(c1:¬X b)(c2:w.heap[b]?=some (Obj.cells dA t0 fz))(c5:cap<=maxLen)
 (c7:∀(i:Nat) (row:List AV),cY[i]?=some row->row.length=sz)
 (c8:∀(i:Nat) (row:List AV) (j:Nat) (x:AV),cY[i]?=some row->row[j]?=some x->dA[o'+i*sz+j]?=some (us i j)/\Value.oneCell' (us i j)=true/\Ri w X (us i j) x)
 (h1:l<=hh) (h2:hh<=cY.length) (h3:hh<=m) (h4:m<=cap) (z:Bool) (hz:z=true->m=hh) (ad:Option Addr) (had:ad=if m=l then some ⟨b,o',none⟩else some ⟨b,o'+l*sz,none⟩):
 Ri w X (.slice ad (hh-l) (m-l)) (.ls sz ((cY.drop l).take (hh-l)) z):=by
 have nP:((cY.drop l).take (hh-l)).length=hh-l:=by simp;omega
 by_cases hlh:l=hh
 .subst hlh;simp only[Nat.sub_self,List.take_zero];exact .le _ _ _ _ (by omega) (λq=>by have:=hz q;omega)
 .have hml:¬m=l:=by omega
  rw[db hml]at had;subst had;have oL:∀(k:Nat) (row:List AV),((cY.drop l).take (hh-l))[k]?=some row->cY[l+k]?=some row:=by
   intro k row hr;rw[Xr]at hr;split at hr
   .rwa [Xg]at hr
   .cases hr
  exact .ls b (o'+l*sz) (hh-l) (m-l) sz ((cY.drop l).take (hh-l)) z (λk j=>us (l+k) j) dA t0 fz c1 c2 nP (by omega) (by omega)
   (λq=>by have:=hz q;omega) (λk row hr=>c7 _ _ (oL k row hr))
   (λk row j x hr hx=>by
    have:=c8 (l+k) row j x (oL k row hr) hx;refine⟨?_,this.2.1⟩;rw[<-this.1]
    congr 1
    rw[Xw];omega)
   (λk row j x hr hx=>(c8 (l+k) row j x (oL k row hr) hx).2.2)
def aa8 (hs:iw C.G w X ρ h)(hf:RF w (fj X ρ h) ρ h.length a.tmps fr){t:TypeId}{x:Operand}{lo hi mx:Option Operand}(eD:o.op= .slice t x lo hi mx){i:Ti}(pQ:f_ C.P t=some i)
 {sz vN:Nat} {ag:Bool} {ez:List Value} (hk:i.kd= .slice sz ag vN ez) (hz:jL sz (ev C fr x)=true) {y:AV} (hy:ku (ev C fr x) (lo.map (ev C fr)) (hi.map (ev C fr)) (mx.map (ev C fr))=some y):
 Good C o a w X ρ h y h:=by
 obtain⟨d,info,z,h1,h2,h3,h4,h5,h6,h7,h8,h9⟩:=eP pQ;rw[hk]at h4;obtain⟨e,ei,ed,Qw,rfl,k1,k2,k3,rfl,k5,k6,k7,k8,k9,qQ⟩:=fV h4;have e1:=eH hs hf x;have kb:∀(base:Option Addr) (len cap l hh m:Nat),a.eval x= .slice base len cap->(Instr.sliceBounds true len cap (lo.map a.eval) (hi.map a.eval) (mx.map a.eval)).run C.P w= .ok (l,hh,m) w->
  (execOp a.eval o).run C.P w= .ok (.value (.slice (if m=l then base else base.map (·.add (l*ei.size))) (hh-l) (m-l))) w:=by
  intro base len cap l hh m hq hb;simp only[execOp,eD,Instr.sliceAt,Instr.slice,run_underlying h1,Sem.run_bind,Result.andThen_ok,hq,hb,fu k1,Sem.run_pure]
 unfold ku at hy;split at hy
 case h_2=>cases hy
 rename_i len cU;split at hy
 case h_3=>cases hy
 .rename_i l hh hl DI wk;have aec:mx=none:=by cases mx<;>simp_all
  subst aec;split at hy
  case isFalse=>cases hy
  rename_i hc;cases hx:ev C fr x with
  |
   ls qk cY zz=>
   rw[hx]at hy e1 hz cU;simp only[jL,beq_iff_eq]at hz;subst hz;simp only[rW,Zc]at cU;subst cU;simp only[Zc]at hy;subst hy;rcases e1.mR.iM with⟨rfl,b,cap,hq,c1,c2⟩|⟨b,o',cap,us,dA,t0,fz,hq,c1,c2,c4,c5,c6,c7,c8⟩
   .simp only[Xa]at hc DI|-;have hb:=sX hs hf hl DI hc.1 (cap:=cap) (by omega);have qg:l=0:=by omega
    have xC:hh=0:=by omega
    subst qg xC;refine dE hs (kb _ _ _ _ _ _ hq hb) (.im ?_);simp only[List.drop_nil,List.take_nil];exact .le _ _ _ _ (by omega) (λhz=>by simp at hz;have:=c2 hz;omega)
   .have hb:=sX hs hf hl DI hc.1 (cap:=cap) (by omega);refine dE hs (kb _ _ _ _ _ _ hq hb) (.im ?_);refine O5 c1 c2 c5 c7 c8 hc.1 hc.2 (by omega) (Yt _) _ (λq=>?_) _ ?_
    .simp only[Zh,beq_iff_eq]at q;have:=c6 q.1;omega
    .split<;>simp[add_lit]
  |
   sl id qk off aej k=>
   rw[hx]at hy e1 hz cU;simp only[jL,beq_iff_eq]at hz;subst hz;simp only[rW,Zc]at cU;subst cU;obtain⟨cap,dA,t0,fz,hq,c1,c2,c3,ck,ck',c4,c5⟩:=e1.j_;have hb:=sX hs hf hl DI hc.1 (cap:=cap) (by omega);by_cases hlh:l=hh
   .simp only[hlh,if_true,Zc]at hy;subst hy hlh;refine dE hs (kb _ _ _ _ _ _ hq hb) (.im ?_);simp only[Nat.sub_self];refine .le _ _ _ _ (by omega) (λhz=>?_);simp only[Zh,beq_iff_eq]at hz;have:=ck hz.1;omega
   .simp only[hlh,if_false]at hy;split at hy
    case isTrue=>cases hy
    rename_i TD;simp only[Zc]at hy;subst hy;refine dE hs (kb _ _ _ _ _ _ hq hb) ?_;rw[db (show¬cap=l by omega)];have fq:l*ei.size+(cap-l)*ei.size=cap*ei.size:=by rw[<-Xw];congr 1;omega
    have:=Rp.sl (w:=w) (X:=fj X ρ h) (ρ:=ρ) (n:=h.length) id ei.size (off+l*ei.size) (hh-l) (cap-l) k dA t0 fz c1 c2 (by omega)
     (λq=>by
      have:=ck q;simp only[q,Bool.true_and,bne_iff_ne,ne_eq,Decidable.not_not]at TD;omega) (λq=>by have:=ck' q;omega) (by omega) (by omega)
    simpa[add_lit]using this
  |_=>rw[hx]at cU;simp[rW]at cU
 .rename_i l hh m hl DI wk;split at hy
  case h_2=>cases hy
  rename_i m' yG;split at hy
  case isFalse=>cases hy
  rename_i hc;obtain⟨mo,rfl⟩:∃mo,mx=some mo:=by cases mx with|none=>simp at wk|some mo=>exact⟨mo,rfl⟩
  obtain⟨ho,rfl⟩:∃ho,hi=some ho:=by cases hi with|none=>simp at hc|some ho=>exact⟨ho,rfl⟩
  simp only[Xq,Zc]at wk;subst wk;simp only[Xq,gQ]at DI;obtain⟨xm,Hj,hc3,_⟩:=hc;split at hy
  case isFalse=>
   simp only[Zc]at hy;subst hy;obtain⟨base,aek,cap,hq,nh⟩:∃base aek cap,a.eval x= .slice base aek cap/\len<=cap:=by
    cases hx:ev C fr x with
    |
     ls qk cY zz=>
     rw[hx]at e1 cU;simp only[rW,Zc]at cU;subst cU;rcases e1.mR.iM with⟨rfl,b,cap,hq,c1,c2⟩|⟨b,o',cap,us,dA,t0,fz,hq,c1,c2,c4,c5,c6,c7,c8⟩
     .exact⟨_,_,_,hq,Nat.zero_le _⟩
     .exact⟨_,_,_,hq,by omega⟩
    |
     sl id qk off aej k=>
     rw[hx]at e1 cU;simp only[rW,Zc]at cU;subst cU;obtain⟨cap,dA,t0,fz,hq,c1,c2,c3,ck,ck',c4,c5⟩:=e1.j_;exact⟨_,_,_,hq,by omega⟩
    |_=>rw[hx]at cU;simp[rW]at cU
   have hb:=qy hs hf hl xm DI Hj yG (len:=aek) (cap:=cap) (by omega);exact dE hs (kb _ _ _ _ _ _ hq hb) (.im (.ud _))
  rename_i Hj;subst Hj;cases hx:ev C fr x with
  |
   ls qk cY zz=>
   rw[hx]at hy e1 hz cU;simp only[jL,beq_iff_eq]at hz;subst hz;simp only[Zc]at hy;subst hy;simp only[rW,Zc]at cU;subst cU;rcases e1.mR.iM with⟨rfl,b,cap,hq,c1,c2⟩|⟨b,o',cap,us,dA,t0,fz,hq,c1,c2,c4,c5,c6,c7,c8⟩
   .simp only[Xa]at hc3;have hb:=qy hs hf hl xm DI (Yt _) yG (len:=0) (cap:=cap) (by omega);refine dE hs (kb _ _ _ _ _ _ hq hb) (.im ?_);have qg:l=0:=by omega
    have xC:hh=0:=by omega
    subst qg xC;simp only[List.drop_nil,List.take_nil];exact .le _ _ _ _ (by omega) (λ_=>rfl)
   .have hb:=qy hs hf hl xm DI (Yt _) yG (len:=cY.length) (cap:=cap) (by omega);refine dE hs (kb _ _ _ _ _ _ hq hb) (.im ?_);refine O5 c1 c2 c5 c7 c8 xm hc3 (Yt _) (by omega) _ (λ_=>rfl) _ ?_;split<;>simp[add_lit]
  |
   sl id qk off aej k=>
   rw[hx]at hy e1 hz cU;simp only[jL,beq_iff_eq]at hz;subst hz;simp only[rW,Zc]at cU;subst cU;obtain⟨cap,dA,t0,fz,hq,c1,c2,c3,ck,ck',c4,c5⟩:=e1.j_;have hb:=qy hs hf hl xm DI (Yt _) yG (len:=aej) (cap:=cap) (by omega);by_cases hlh:l=hh
   .simp only[hlh,if_true,Zc]at hy;subst hy hlh;refine dE hs (kb _ _ _ _ _ _ hq hb) (.im ?_);simp only[Nat.sub_self];exact .le _ _ _ _ (by simp[maxLen]) (λ_=>rfl)
   .simp only[hlh,if_false,Zc]at hy;subst hy;refine dE hs (kb _ _ _ _ _ _ hq hb) ?_;rw[db (show¬hh=l by omega)];have fq:l*ei.size+(hh-l)*ei.size=hh*ei.size:=by rw[<-Xw];congr 1;omega
    have eG:hh*ei.size<=cap*ei.size:=Zx _ (by omega);have:=Rp.sl (w:=w) (X:=fj X ρ h) (ρ:=ρ) (n:=h.length) id ei.size (off+l*ei.size) (hh-l) (hh-l) true dA t0 fz c1 c2 (by omega)
     (λ_=>rfl) (λq=>by cases q) (Yt _) (by omega)
    simpa[add_lit]using this
  |_=>rw[hx]at cU;simp[rW]at cU
def uA {sz:Nat}(gC:0<sz):∀(cY:List (List AV)),(∀row∈cY,row.length=sz)->∀k,cY.flatten[k]?=(cY[k/sz]?).bind (·[k % sz]?)
 | [],_,k=>by simp
 |
  row::cY,hr,k=>by
  have hl:=hr row (by simp);have ih:=uA gC cY (λr hm=>hr r (by simp[hm]));simp only[List.flatten_cons];by_cases hk:k<sz
  .rw[Zd (by omega),Nat.div_eq_of_lt hk,Nat.mod_eq_of_lt hk];simp
  .rw[Zf (by omega),ih (k-row.length),hl];have h1:k/sz=(k-sz)/sz+1:=by rw[Nat.div_eq_sub_div gC (by omega)]
   have h2:k % sz=(k-sz) % sz:=Nat.mod_eq_sub_mod (by omega);rw[h1,h2,Yf]
def dH {sz:Nat}:∀(cY:List (List AV)),(∀row∈cY,row.length=sz)->cY.flatten.length=cY.length*sz
 | [],_=>by simp
 |
  row::cY,hr=>by
  have:=dH cY (λr hm=>hr r (by simp[hm]));simp only[List.flatten_cons,Zu,Yw,Xw,hr row (by simp),this];omega
def rO (hs:iw C.G w X ρ h)(hf:RF w (fj X ρ h) ρ h.length a.tmps fr){x:Operand}{sz m:Nat}{news:List AV}(gC:0<sz)(hz:jL sz (ev C fr x)=true)(hn:gY h (ev C fr x)=some (m,news)):
 ∃base cap,a.eval x= .slice base m cap/\news.length=m*sz/\(m=0\/∃(b o':Nat) (dX:List Value),base=some ⟨b,o',none⟩/\dX.length=m*sz/\
  (∀(j:Nat) (u:Value),dX[j]?=some u->w.cell? ((⟨b,o',none⟩:Addr).add j)=some u)/\(∀u∈dX,u.oneCell'=true)/\∀(k:Nat) (y:AV),news[k]?=some y->Rp w (fj X ρ h) ρ h.length (dX.getD k undef) y):=by
 have e1:=eH hs hf x;unfold gY at hn;split at hn
 .rename_i hx;simp only[Zc,Zg]at hn;obtain⟨rfl,rfl⟩:=hn;rw[hx]at e1;exact⟨none,0,e1.eF.1,by simp,.inl rfl⟩
 .rename_i qk cY zz hx;rw[hx]at e1 hz;simp only[jL,beq_iff_eq]at hz;subst hz;simp only[Zc,Zg]at hn;obtain⟨rfl,rfl⟩:=hn;rcases e1.mR.iM with⟨rfl,b,cap,hq,c1,c2⟩|⟨b,o',cap,us,dA,t0,fz,hq,c1,c2,c4,c5,c6,c7,c8⟩
  .exact⟨b,cap,hq,by simp,.inl rfl⟩
  .have dJ:∀row∈cY,row.length=qk:=λrow hm=>by
    obtain⟨k,hk,rfl⟩:=List.getElem_of_mem hm;exact c7 k _ (Zb hk)
   have hfg:=uA gC cY dJ;have cU:=dH cY dJ;refine⟨_,cap,hq,cU,.inr ⟨b,o',(List.range (cY.length*qk)).map λk=>us (k/qk) (k % qk),rfl,by simp,?_,?_,?_⟩⟩
   .intro j u hj;simp only[Zs,Ze]at hj;obtain⟨k,hk,rfl⟩:=hj;have jU:j<cY.length*qk:=by have:=(Za.1 hk).1;simpa using this
    rw[Xp jU]at hk;cases hk;have h1:j/qk<cY.length:=by rw[Nat.div_lt_iff_lt_mul gC];exact jU
    have h2:j % qk< (cY[j/qk]).length:=by rw[c7 _ _ (Zb h1)];exact Nat.mod_lt _ gC
    have:=c8 (j/qk) _ (j % qk) _ (Zb h1) (Zb h2);rw[add_lit,ka c2,<-this.1]
    congr 1
    have:=Nat.div_add_mod j qk;rw[Nat.mul_comm]at this;omega
   .intro u hu;simp only[Yi,List.mem_range]at hu;obtain⟨j,jU,rfl⟩:=hu;have h1:j/qk<cY.length:=by rw[Nat.div_lt_iff_lt_mul gC];exact jU
    have h2:j % qk< (cY[j/qk]).length:=by rw[c7 _ _ (Zb h1)];exact Nat.mod_lt _ gC
    exact(c8 (j/qk) _ (j % qk) _ (Zb h1) (Zb h2)).2.1
   .intro k y hk;have g_:k<cY.length*qk:=by have:=(Za.1 hk).1;rwa [cU]at this
    rw[hfg]at hk;simp only[Yh]at hk;obtain⟨row,hr,hy⟩:=hk;have:=c8 _ row _ y hr hy;have e2:((List.range (cY.length*qk)).map λk=>us (k/qk) (k % qk)).getD k undef=us (k/qk) (k % qk):=by simp[List.getD,Xp g_]
    rw[e2];exact .im this.2.2
 .rename_i id qk off len k hx;rw[hx]at e1 hz;simp only[jL,beq_iff_eq]at hz;subst hz;split at hn
  case h_2=>cases hn
  rename_i cs dC;split at hn
  case isFalse=>cases hn
  rename_i eG;simp only[Zc,Zg]at hn;obtain⟨rfl,rfl⟩:=hn;obtain⟨cap,dA,t0,fz,hq,c1,c2,c3,_,_,c4,c5⟩:=e1.j_;obtain⟨cur',t1,x8,us,d1,d3⟩:=hs.cells dC;refine⟨_,cap,hq,by simp;omega,.inr ⟨ρ id,off,(List.range (len*qk)).map λk=>us (off+k),rfl,by simp,?_,?_,?_⟩⟩
  .intro j u hj;simp only[Zs,Ze]at hj;obtain⟨k,hk,rfl⟩:=hj;have jU:j<len*qk:=by have:=(Za.1 hk).1;simpa using this
   rw[Xp jU]at hk;cases hk;rw[add_lit,ka d1];exact(d3 (off+j) _ (Zb (by omega))).1
  .intro u hu;simp only[Yi,List.mem_range]at hu;obtain⟨j,jU,rfl⟩:=hu;exact(d3 (off+j) _ (Zb (by omega))).2.1
  .intro k y hk;rw[Xr]at hk;split at hk
   .rename_i g_;rw[Xg]at hk;have e2:((List.range (len*qk)).map λk=>us (off+k)).getD k undef=us (off+k):=by simp[List.getD,Xp g_]
    rw[e2];exact(d3 (off+k) y hk).2.2
   .cases hk
 .cases hn
end ops
def Rp.zZ {w:World}{X X':Nat->Prop}{ρ:Nat->Nat}{n:Nat}(hX:∀b,X' b->X b){v:Value}{x:AV}(h:Rp w X ρ n v x):Rp w X' ρ n v x:=by
 induction h with
 |im hi=>exact .im (hi.zZ hX)
 |sl id sz off len cap k dA t fz h1 h2 h3 h4 h5 h6 h7=>exact .sl id sz off len cap k dA t fz h1 h2 h3 h4 h5 h6 h7
 |pt id off h1=>exact .pt id off h1
 |mp id h1=>exact .mp id h1
 |fn f us xs h1 h2 ih=>exact .fn f us xs h1 ih
 |ag us xs h1 h2 h3 ih=>exact .ag us xs h1 h2 ih
 |tp us xs h1 h2 ih=>exact .tp us xs h1 ih
def iw.agS {G:Nat->Option (List Value)}{w:World}{X:Nat->Prop}{ρ:Nat->Nat}{h:Hp}(hs:iw G w X ρ h){id:Nat}{cs:List AV}(dC:gI h id=some cs):¬X (ρ id):=by
 unfold gI at dC;split at dC
 .rename_i cs' hi;exact hs.out id ⟨_,hi,rfl⟩
 .rename_i cs' hi;exact λhx=>hs.rV id _ hi (.inl hx)
 .rename_i cs' hi;exact hs.out id ⟨_,hi,rfl⟩
 .cases dC
def pN {G:Nat->Option (List Value)}{w:World}{X:Nat->Prop}{ρ:Nat->Nat}{h:Hp}(hs:iw G w X ρ h):∀(n:Nat) (v:Value) (x y:AV),Rp w (fj X ρ h) ρ h.length v x->dq h n x=some y->Ri w X v y:=by
 have base:∀{v:Value} {x:AV},Rp w (fj X ρ h) ρ h.length v x->(match x with| .sc _| .ls .. | .rp .. =>true|_=>false)=true->Ri w X v x:=by
  intro v x hr hx;cases hr with
  |im hi=>exact hi.zZ λb=> .inl
  |_=>simp at hx
 intro n
 induction n with
 |
  zero=>
  intro v x y hr hy;cases x<;>simp only[dq,Zc]at hy<;>first|(subst hy;exact base hr rfl)|cases hy
 |
  succ n ih=>
  intro v x y hr hy;cases x with
  |sc u=>simp only[dq,Zc]at hy;subst hy;exact base hr rfl
  |ls sz cY z=>simp only[dq,Zc]at hy;subst hy;exact base hr rfl
  |rp row j=>simp only[dq,Zc]at hy;subst hy;exact base hr rfl
  |
   pt id off=>
   simp only[dq]at hy;split at hy
   case h_2=>cases hy
   rename_i cs dC;simp only[Ze]at hy;obtain⟨ys,wL,rfl⟩:=hy;obtain⟨rfl,_⟩:=hr.oq;obtain⟨dA,t,fz,us,d1,d3⟩:=hs.cells dC;obtain⟨m1,m2⟩:=ir wL;have fo:∀(k:Nat) (y:AV),ys[k]?=some y->dA[k]?=some (us k)/\(us k).oneCell'=true/\Ri w X (us k) y:=by
    intro k y hk;have g_:k<cs.length:=by have:=(Za.1 hk).1;omega
    obtain⟨b,hb,lH⟩:=m2 k _ (Zb g_);rw[hk]at hb;cases hb;have h3:=d3 k _ (Zb g_);exact⟨h3.1,h3.2.1,ih _ _ _ h3.2.2 lH⟩
   have:=Ri.rp (w:=w) (X:=X) (ρ id) 0 off ys us dA t fz (hs.agS dC) d1 (λk y hk=>by rw[Xb];exact⟨(fo k y hk).1,(fo k y hk).2.1⟩) (λk y hk=>(fo k y hk).2.2);simpa using this
  |
   ag xs=>
   simp only[dq,Ze]at hy;obtain⟨ys,wL,rfl⟩:=hy;obtain⟨us,rfl,h1,h2,h3⟩:=hr.yC;obtain⟨m1,m2⟩:=ir wL;refine .ag us ys (by omega) h2 λk y hk=>?_
   have g_:k<xs.length:=by have:=(Za.1 hk).1;omega
   obtain⟨b,hb,lH⟩:=m2 k _ (Zb g_);rw[hk]at hb;cases hb;exact ih _ _ _ (h3 k _ (Zb g_)) lH
  |
   tp xs=>
   simp only[dq,Ze]at hy;obtain⟨ys,wL,rfl⟩:=hy;obtain⟨us,rfl,h1,h3⟩:=hr.UC;obtain⟨m1,m2⟩:=ir wL;refine .tp us ys (by omega) λk y hk=>?_
   have g_:k<xs.length:=by have:=(Za.1 hk).1;omega
   obtain⟨b,hb,lH⟩:=m2 k _ (Zb g_);rw[hk]at hb;cases hb;exact ih _ _ _ (h3 k _ (Zb g_)) lH
  |
   fn f xs=>
   simp only[dq,Ze]at hy;obtain⟨ys,wL,rfl⟩:=hy;obtain⟨us,rfl,h1,h3⟩:=hr.qH;obtain⟨m1,m2⟩:=ir wL;refine .fn f us ys (by omega) λk y hk=>?_
   have g_:k<xs.length:=by have:=(Za.1 hk).1;omega
   obtain⟨b,hb,lH⟩:=m2 k _ (Zb g_);rw[hk]at hb;cases hb;exact ih _ _ _ (h3 k _ (Zb g_)) lH
  |
   sl id sz off len kk=>
   simp only[dq]at hy;split at hy
   case h_2=>cases hy
   rename_i cs dC;split at hy
   case isFalse=>cases hy
   rename_i eG;simp only[Ze]at hy;obtain⟨ys,wL,rfl⟩:=hy;obtain⟨cap,aa9,t0,fz,rfl,c1,c2,c3,_,_,c4,c5⟩:=hr.j_;obtain⟨dA,t1,fz1,us,d1,d3⟩:=hs.cells dC;obtain⟨m1,m2⟩:=ir wL;have hylen:ys.length=len*sz:=by rw[m1];simp;omega
   have fX:∀(i:Nat) (row:List AV),((List.range len).map λi=>(ys.drop (i*sz)).take sz)[i]?=some row->i<len/\row=(ys.drop (i*sz)).take sz:=by
    intro i row du;simp only[Zs,Ze]at du;obtain⟨k,hk,rfl⟩:=du;have gG:i<len:=by have:=(Za.1 hk).1;simpa using this
    rw[Xp gG]at hk;cases hk;exact⟨gG,rfl⟩
   have fo:∀(i:Nat) (row:List AV) (j:Nat) (x:AV),((List.range len).map λi=>(ys.drop (i*sz)).take sz)[i]?=some row->row[j]?=some x->j<sz/\i*sz+j<len*sz/\ys[i*sz+j]?=some x:=by
    intro i row j x du hx;obtain⟨gG,rfl⟩:=fX i row du;rw[Xr]at hx;split at hx
    .rename_i hj;rw[Xg]at hx;refine⟨hj,?_,hx⟩;have:=(Za.1 hx).1;omega
    .cases hx
   have hval:∀(k:Nat) (y:AV),ys[k]?=some y->k<len*sz->dA[off+k]?=some (us (off+k))/\(us (off+k)).oneCell'=true/\Ri w X (us (off+k)) y:=by
    intro k y hk g_;have hcs:((cs.drop off).take (len*sz))[k]?=cs[off+k]?:=by
     rw[Xr,dd g_,Xg]
    have hkc:off+k<cs.length:=by omega
    obtain⟨b,hb,lH⟩:=m2 k cs[off+k] (by rw[hcs,Zb hkc]);rw[hk]at hb;cases hb;have h3:=d3 (off+k) _ (Zb hkc);exact⟨h3.1,h3.2.1,ih _ _ _ h3.2.2 lH⟩
   refine .ls (ρ id) off len cap sz _ false (λi j=>us (off+(i*sz+j))) dA t1 fz1 (hs.agS dC) d1 (by simp) c4 c5 (λh=>by cases h) ?_ ?_ ?_
   .intro i row du;obtain⟨gG,rfl⟩:=fX i row du;have:(i+1)*sz<=len*sz:=Zx _ gG;rw[Xw]at this;simp;omega
   .intro i row j x du hx;obtain⟨_,q2,q3⟩:=fo i row j x du hx;have:=hval _ _ q3 q2;exact⟨by rw[<-this.1];congr 1;omega,this.2.1⟩
   .intro i row j x du hx;obtain⟨_,q2,q3⟩:=fo i row j x du hx;exact(hval _ _ q3 q2).2.2
  |_=>simp[dq]at hy
def CG {ids:List Nat}{h:Hp}{id:Nat}{cs:List AV}(hr:gI (mask ids h) id=some cs):gI h id=some cs:=by
 unfold gI at hr|-;have key:∀b,(mask ids h)[id]?=some b->b≠ .dead->h[id]?=some b:=by
  intro b hb hd;unfold mask at hb;simp only[Zs,Ze]at hb;obtain⟨k,hk,hb⟩:=hb;have g_:id<h.length:=by have:=(Za.1 hk).1;simpa using this
  rw[Xp g_]at hk;cases hk;split at hb
  .simp only[List.getD,Zb g_,Yv]at hb;rw[Zb g_,hb]
  .exact absurd hb.symm hd
 split at hr
 .rename_i cs' hi;rw[key _ hi (by simp)];exact hr
 .rename_i cs' hi;rw[key _ hi (by simp)];exact hr
 .rename_i cs' hi;rw[key _ hi (by simp)];exact hr
 .cases hr
def Rt {ids:List Nat}{h:Hp}:∀(n:Nat) (x y:AV),dq (mask ids h) n x=some y->dq h n x=some y:=by
 intro n
 induction n with
 |zero=>intro x y hs;cases x<;>simp_all [dq]
 |
  succ n ih=>
  have many:∀(xs ys:List AV),xs.mapM (dq (mask ids h) n)=some ys->xs.mapM (dq h n)=some ys:=by
   intro xs
   induction xs with
   |nil=>intro ys hm;simpa using hm
   |
    cons x xs O6=>
    intro ys hm;simp only[Zo,Option.bind_eq_bind,Yh,Option.pure_def,Zc]at hm|-;obtain⟨b,hb,bs,MR,rfl⟩:=hm;exact⟨b,ih _ _ hb,bs,O6 _ MR,rfl⟩
  intro x y hs;cases x with
  |sc u=>simpa[dq]using hs
  |ls sz cY z=>simpa[dq]using hs
  |rp row j=>simpa[dq]using hs
  |
   pt id off=>
   simp only[dq]at hs|-;split at hs
   case h_2=>cases hs
   rename_i cs dC;rw[CG dC];simp only[Ze]at hs|-;obtain⟨ys,wL,rfl⟩:=hs;exact⟨ys,many _ _ wL,rfl⟩
  |
   sl id sz off len k=>
   simp only[dq]at hs|-;split at hs
   case h_2=>cases hs
   rename_i cs dC;rw[CG dC];simp only;split at hs
   case isFalse=>cases hs
   rename_i eG;rw[dd eG];simp only[Ze]at hs|-;obtain⟨ys,wL,rfl⟩:=hs;exact⟨ys,many _ _ wL,rfl⟩
  |
   ag xs=>
   simp only[dq,Ze]at hs|-;obtain⟨ys,wL,rfl⟩:=hs;exact⟨ys,many _ _ wL,rfl⟩
  |
   tp xs=>
   simp only[dq,Ze]at hs|-;obtain⟨ys,wL,rfl⟩:=hs;exact⟨ys,many _ _ wL,rfl⟩
  |
   fn f xs=>
   simp only[dq,Ze]at hs|-;obtain⟨ys,wL,rfl⟩:=hs;exact⟨ys,many _ _ wL,rfl⟩
  |_=>simp[dq]at hs
def MS {ids:List Nat}{h h':Hp}(hz:freeze ids h=some h'):h'.length=h.length/\∀(i:Nat) (b':fp),h'[i]?=some b'->
 (i∉ids/\h[i]?=some b')\/(i∈ids/\((∃cs cs',h[i]?=some (.row cs)/\cs.mapM (dq (mask ids h) 8)=some cs'/\b'= .KK cs')\/(h[i]?=some b'/\wN b'=false))):=by
 unfold freeze at hz;obtain⟨m1,m2⟩:=ir hz;have hl:h'.length=h.length:=by rw[m1];simp
 refine⟨hl,λi b' hi=>?_⟩;have gG:i<h.length:=by have:=(Za.1 hi).1;omega
 obtain⟨b,hb,hf⟩:=m2 i i (by rw[Xp gG]);rw[hi]at hb;cases hb;split at hf
 .rename_i hc;have kM:i∈ids:=by simpa using hc
  right;refine⟨kM,?_⟩;split at hf
  .rename_i cs hh;simp only[Ze]at hf;obtain⟨cs',hcs,rfl⟩:=hf;exact .inl ⟨cs,cs',hh,hcs,rfl⟩
  .rename_i cs hh;cases hf;exact .inr ⟨hh,rfl⟩
  .rename_i hh;cases hf;exact .inr ⟨hh,rfl⟩
  .cases hf
 .rename_i hc;exact .inl ⟨by simpa using hc,hf⟩
def xQ {G:Nat->Option (List Value)}{w:World}{X:Nat->Prop}{ρ:Nat->Nat}{h h':Hp}{ids:List Nat}(hs:iw G w X ρ h)(hz:freeze ids h=some h'):
 Ext G w X ρ h w ρ h'/\∀(n:Nat) (v:Value) (x y:AV),Rp w (fj X ρ h) ρ h.length v x->dq (mask ids h) n x=some y->Ri w (fj X ρ h') v y:=by
 obtain⟨hl,hg⟩:=MS hz;have iH:∀i,live h' i->live h i/\i∉ids:=by
  rintro i ⟨b,hi,hb⟩;rcases hg i b hi with⟨h1,h2⟩|⟨_,⟨cs,cs',_,_,rfl⟩|⟨_,h3⟩⟩
  .exact⟨⟨b,h2,hb⟩,h1⟩
  .cases hb
  .rw[h3]at hb;cases hb
 have hml:(mask ids h).length=h.length:=by simp[mask]
 have hmk:∀(i:Nat) (b:fp),(mask ids h)[i]?=some b->b≠ .dead->h[i]?=some b/\i∈ids:=by
  intro i b hb hd;unfold mask at hb;simp only[Zs,Ze]at hb;obtain⟨k,hk,hb⟩:=hb;have g_:i<h.length:=by have:=(Za.1 hk).1;simpa using this
  rw[Xp g_]at hk;cases hk;split at hb
  .rename_i hc;simp only[List.getD,Zb g_,Yv]at hb;rw[Zb g_,hb];exact⟨rfl,by simpa using hc⟩
  .exact absurd hb.symm hd
 have y9:∀i,live (mask ids h) i->live h i/\i∈ids:=by
  rintro i ⟨b,hi,hb⟩;have:=hmk i b hi (λe=>by subst e;cases hb);exact⟨⟨b,this.1,hb⟩,this.2⟩
 have MT:∀b,fj (fj X ρ h') ρ (mask ids h) b->fj X ρ h b:=by
  rintro b ((hx|⟨i,hi,e⟩)|⟨i,hi,e⟩)
  .exact .inl hx
  .exact .inr ⟨i,(iH i hi).1,e⟩
  .exact .inr ⟨i,(y9 i hi).1,e⟩
 have hsm:iw G w (fj X ρ h') ρ (mask ids h):=by
  refine⟨?_,λg row hgr=>?_,λi j hi hj=>hs.inj i j (y9 i hi).1 (y9 j hj).1,?_,?_,?_⟩
  .rintro b (hx|⟨i,hi,e⟩)
   .exact hs.DV b hx
   .rw[<-e];exact hs.lt (iH i hi).1
  .obtain⟨h1,h2⟩:=hs.tD g row hgr;exact⟨λhh=>h1 (MT g hh),h2⟩
  .rintro i hi (hx|⟨j,hj,e⟩)
   .exact hs.out i (y9 i hi).1 hx
   .have:=hs.inj j i (iH j hj).1 (y9 i hi).1 e;subst this;exact(iH j hj).2 (y9 j hi).2
  .intro i cs hi hh;exact hs.rV i cs (hmk i _ hi (by simp)).1 (MT _ hh)
  .intro i b hi;by_cases hd:b= .dead
   .subst hd;trivial
   .have hb:=hs.kg i b (hmk i b hi hd).1;cases b with
    |dead=>exact absurd rfl hd
    |
     row cs=>
     obtain⟨dA,t,fz,us,h1,hf,h2,h3⟩:=hb;exact⟨dA,t,fz,us,h1,hf,h2,λk x hk=>⟨(h3 k x hk).1,(h3 k x hk).2.1,by rw[hml];exact(h3 k x hk).2.2.zZ MT⟩⟩
    |
     map es clock=>
     obtain⟨ms,h1,h2,S9,h3⟩:=hb;refine⟨ms,h1,h2,S9,λk e hk=>?_⟩;obtain⟨m,a1,a2,a3,a4,a5⟩:=h3 k e hk;exact⟨m,a1,a2,a3,a4,by rw[hml];exact a5.zZ MT⟩
    |
     KK cs=>
     obtain⟨dA,t,fz,us,h1,h3⟩:=hb;exact⟨dA,t,fz,us,h1,λk x hk=>⟨(h3 k x hk).1,(h3 k x hk).2.1,(h3 k x hk).2.2.zZ MT⟩⟩
    |iter s p=>exact hb
    |
     raw cs=>
     obtain⟨dA,t,fz,us,h1,hf,h2,h3⟩:=hb;exact⟨dA,t,fz,us,h1,hf,h2,λk x hk=>⟨(h3 k x hk).1,(h3 k x hk).2.1,by rw[hml];exact(h3 k x hk).2.2.zZ MT⟩⟩
 have nq:∀(n:Nat) (v:Value) (x y:AV),Rp w (fj X ρ h) ρ h.length v x->dq (mask ids h) n x=some y->Ri w (fj X ρ h') v y:=λn v x y hr hy=>
  pN hsm n v x y (by rw[hml];exact hr.zZ MT) hy
 refine⟨Hs hs h' hl λi b' hi=>?_,nq⟩;rcases hg i b' hi with⟨_,h2⟩|⟨_,⟨cs,cs',h1,h2,rfl⟩|⟨h1,_⟩⟩
 .exact .inr (.inl h2)
 .refine .inr (.inr ⟨cs',rfl,⟨_,h1,rfl⟩,?_⟩);obtain⟨dA,t,fz,us,d1,_,_,d3⟩:=hs.row i cs h1;obtain⟨m1,m2⟩:=ir h2;refine⟨dA,t,fz,us,d1,λk y hk=>?_⟩;have g_:k<cs.length:=by have:=(Za.1 hk).1;omega
  obtain⟨b,hb,lH⟩:=m2 k _ (Zb g_);rw[hk]at hb;cases hb;have h3:=d3 k _ (Zb g_);exact⟨h3.1,h3.2.1,nq 8 _ _ _ h3.2.2 lH⟩
 .exact .inr (.inl h1)
end Go.Ae
