/- Part of the proof. -/
import Derived.Test.YtmocfjnklfpnbaaGreatDoorP1
import Derived.IntWalk
import Derived.Laws.Strings
set_option linter.all false
namespace Go.Ae
open Go
section inv
variable {w : World} {X : Nat -> Prop} {ρ : Nat -> Nat} {n : Nat} {v : Value}
def Rp.dQ{u:Value}(h:Rp w X ρ n v (.sc u)):v=u/\lr u=true:=by
 cases h with
 |im h=>cases h with
  |sc _ hf=>exact⟨rfl,hf⟩
def Rp.mT{id off:Nat}(h:Rp w X ρ n v (.pt id off)):v= .pointer (some ⟨ρ id,off,none⟩)/\id<n:=by
 cases h with
 |im h=>cases h
 |pt _ _ hl=>exact⟨rfl,hl⟩
def Rp.AM{row:List AV}{j:Nat}(h:Rp w X ρ n v (.rp row j)):Ri w X v (.rp row j):=by
 cases h with
 |im h=>exact h
def Rp.mg{sz:Nat}{cq:List (List AV)}{z:Bool}(h:Rp w X ρ n v (.ls sz cq z)):Ri w X v (.ls sz cq z):=by
 cases h with
 |im h=>exact h
def Rp.kr{id sz off len:Nat}{k:Bool}(h:Rp w X ρ n v (.sl id sz off len k)):∃cap cV t fz,v= .slice (some ⟨ρ id,off,none⟩) len cap/\id<n/\w.heap[ρ id]?=some (Obj.cells cV t fz)/\off+cap*sz<=cV.size/\(k=true->cap=len)/\(k=false->off+cap*sz=cV.size)/\len<=cap/\cap<=maxLen:=by
 cases h with
 |im h=>cases h
 |sl _ _ _ _ cap _ cV t fz h1 h2 h3 h4 h5 h6 h7=>exact⟨cap,cV,t,fz,rfl,h1,h2,h3,h4,h5,h6,h7⟩
def Rp.EJ{id:Nat}(h:Rp w X ρ n v (.mp id)):v= .map (some (ρ id))/\id<n:=by
 cases h with
 |im h=>cases h
 |mp _ hl=>exact⟨rfl,hl⟩
def Rp.abj{u:Value}(h:Rp w X ρ n v (.pn u)):False:=by
 cases h with
 |im h=>cases h
def Rp.abk(h:Rp w X ρ n v .un):v=undef:=by
 cases h with
 |im h=>cases h with
  |un=>rfl
def Rp.pj{f:FuncId}{xs:List AV}(h:Rp w X ρ n v (.fn f xs)):∃us:Array Value,v= .func (.func f) #[] us/\us.size=xs.length/\∀k x,xs[k]?=some x->Rp w X ρ n (us.getD k undef) x:=by
 cases h with
 |im h=>cases h with
  |fn _ us _ h1 h2=>exact⟨us,rfl,h1,λk x hk=> .im (h2 k x hk)⟩
 |fn _ us _ h1 h2=>exact⟨us,rfl,h1,h2⟩
def Rp.xm{xs:List AV}(h:Rp w X ρ n v (.ag xs)):∃us:Array Value,v= .agg us/\us.size=xs.length/\(∀k,k<us.size->(us.getD k undef).oneCell'=true)/\∀k x,xs[k]?=some x->Rp w X ρ n (us.getD k undef) x:=by
 cases h with
 |im h=>cases h with
  |ag us _ h1 h2 h3=>exact⟨us,rfl,h1,h2,λk x hk=> .im (h3 k x hk)⟩
 |ag us _ h1 h2 h3=>exact⟨us,rfl,h1,h2,h3⟩
def Rp.Rn{xs:List AV}(h:Rp w X ρ n v (.tp xs)):∃us:Array Value,v= .tuple us/\us.size=xs.length/\∀k x,xs[k]?=some x->Rp w X ρ n (us.getD k undef) x:=by
 cases h with
 |im h=>cases h with
  |tp us _ h1 h2=>exact⟨us,rfl,h1,λk x hk=> .im (h2 k x hk)⟩
 |tp us _ h1 h2=>exact⟨us,rfl,h1,h2⟩
def Ri.iR{sz:Nat}{cq:List (List AV)}{z:Bool}(h:Ri w X v (.ls sz cq z)):
 (cq=[]/\∃a cap,v= .slice a 0 cap/\cap<=maxLen/\(z=true->cap=0))\/
 ∃(b o cap:Nat)(us:Nat->Nat->Value)(cV:Array Value)(t:TypeId)(fz:Nat × Nat),v= .slice (some ⟨b,o,none⟩) cq.length cap/\¬X b/\w.heap[b]?=some (Obj.cells cV t fz)/\cq.length<=cap/\cap<=maxLen/\(z=true->cap=cq.length)/\
  (∀(i:Nat)(row:List AV),cq[i]?=some row->row.length=sz)/\
  (∀(i:Nat)(row:List AV)(j:Nat)(x:AV),cq[i]?=some row->row[j]?=some x->cV[o+i*sz+j]?=some (us i j)/\Value.oneCell' (us i j)=true/\Ri w X (us i j) x):=by
 cases h with
 |le a cap _ _ h1 h2=>exact .inl ⟨rfl,a,cap,rfl,h1,h2⟩
 |ls b o len cap _ _ _ us cV t fz h1 h2 h3 h4 h5 h6 h7 h8 h9=>
  subst h3;exact .inr ⟨b,o,cap,us,cV,t,fz,rfl,h1,h2,h4,h5,h6,h7,λi row j x hr hx=>⟨(h8 i row j x hr hx).1,(h8 i row j x hr hx).2,h9 i row j x hr hx⟩⟩
def lN{v:Value}(h:lr v=true):v.oneCell'=true:=by
 cases v<;>simp_all [lr,Value.oneCell']
def JQ{v:Value}(h:lr v=true):v.cells= #[v]:=by
 cases v<;>first|rfl|simp[lr]at h
def Rp.zk{x:AV}{xs:List AV}(h:Rp w X ρ n v x)(hc:cls x=some xs):v.cells.size=xs.length/\(∀k,k<v.cells.size->(v.cells.getD k undef).oneCell'=true)/\∀k y,xs[k]?=some y->Rp w X ρ n (v.cells.getD k undef) y:=by
 have single:∀{x:AV},Rp w X ρ n v x->v.cells= #[v]->v.oneCell'=true->xs=[x]->v.cells.size=xs.length/\(∀k,k<v.cells.size->(v.cells.getD k undef).oneCell'=true)/\∀k y,xs[k]?=some y->Rp w X ρ n (v.cells.getD k undef) y:=by
  intro x h e1 e2 e3;subst e3;rw[e1];refine⟨rfl,λk hk=>?_,λk y hy=>?_⟩
  .have:k=0:=by simpa using hk
   subst this;simpa using e2
  .cases k with
   |zero=>simp at hy;subst hy;simpa using h
   |succ k=>simp at hy
 cases x with
 |ag ys=>
  simp[cls]at hc;subst hc;obtain⟨us,rfl,h1,h2,h3⟩:=h.xm;exact⟨h1,h2,h3⟩
 |ud=>simp[cls]at hc
 |un=>simp[cls]at hc
 |tp ys=>simp[cls]at hc
 |sc u=>
  simp[cls]at hc;obtain⟨rfl,hf⟩:=h.dQ;exact single h (JQ hf) (lN hf) hc.symm
 |ls sz cq z=>
  simp[cls]at hc;have h':=h.mg;cases h'<;>exact single h rfl rfl hc.symm
 |pn u=>simp[cls]at hc
 |sl id sz off len k=>
  simp[cls]at hc;obtain⟨cap,cV,t,fz,rfl,_⟩:=h.kr;exact single h rfl rfl hc.symm
 |pt id off=>
  simp[cls]at hc;obtain⟨rfl,_⟩:=h.mT;exact single h rfl rfl hc.symm
 |rp row j=>
  simp[cls]at hc;have h':=h.AM;cases h';exact single h rfl rfl hc.symm
 |fn f ys=>
  simp[cls]at hc;obtain⟨us,rfl,_⟩:=h.pj;exact single h rfl rfl hc.symm
 |mp id=>
  simp[cls]at hc;cases h with
  |im h=>cases h
  |mp _ _=>exact single (.mp id (by assumption)) rfl rfl hc.symm
 |
  oc=>
  simp[cls]at hc;cases h with
  |im h=>cases h with
   |oc _ h1=>exact single (.im (.oc v h1)) (by cases v<;>first|rfl|simp[Value.oneCell']at h1) h1 hc.symm
end inv
def G8{P:Program}{α:Type}{s:Sem α}{a:α}(h:jL P s=some a)(w:World):s.run P w= .ok a w:=by
 induction s with
 |pure b=>simp[jL]at h;subst h;rfl
 |program k ih=>simp only[jL]at h;simp only[Sem.run];exact ih P h
 |mark m k ih=>simp only[jL]at h;simp only[Sem.run];exact ih h
 |_=>simp[jL]at h
def AO{w:World}{X:Nat->Prop}{ρ:Nat->Nat}{n:Nat}(v:Value):Rp w X ρ n v (ofConst v):=by
 unfold ofConst;split
 .rename_i cs;split
  .rename_i fZ;refine .ag cs _ (by simp) (λk hk=>lN ?_) λk x hk=>?_
   .have:cs.toList.all lr=true:=fZ;rw[Yp]at this;simpa[hk]using this (cs[k]) (by simp)
   .simp only[Zs,Ze]at hk;obtain⟨u,hu,rfl⟩:=hk;have hm:u∈cs.toList:=Zi hu;rw[Yp]at fZ;have:cs.getD k undef=u:=by simp at hu;simp[hu]
    rw[this];exact .im (.sc u (fZ u hm))
  .exact .im (.ud _)
 .split
  .exact .im (.sc _ (by assumption))
  .exact .im (.ud _)
def dM{C:Cx}{w:World}{X:Nat->Prop}{ρ:Nat->Nat}{h:Hp}(hs:ia C.G w X ρ h){a:Act}{fr:List AV}(hf:RF w (dZ X ρ h) ρ h.length a.tmps fr)(x:Operand):
 Rp w (dZ X ρ h) ρ h.length (a.eval x) (ev C fr x):=by
 cases x with
 |tmp t=>
  simp only[ev,Act.eval];cases ht:fr[t]? with
  |some y=>have:=hf.2 t y ht;simpa[List.getD,ht]using this
  |none=>simp[List.getD,ht];exact .im (.ud _)
 |const v=>exact AO v
 |func f=>exact .fn f #[] [] rfl (by simp)
 |global g=>
  simp only[ev,Act.eval];cases hg:C.G g with
  |none=>exact .im (.ud _)
  |some row=>
   obtain⟨h1,cV,t,fz,h2,_,h3⟩:=hs.rS g row hg;have:Ri w (dZ X ρ h) (.pointer (some ⟨g,0+0,none⟩)) (.rp (row.map gav) 0):=by
    refine .rp g 0 0 _ (λk=>(cV[k]?).getD undef) cV t fz h1 h2 ?_ ?_
    .intro k x hk;simp only[Zs,Ze]at hk;obtain⟨u,hu,rfl⟩:=hk;obtain⟨u',e1,e2,_⟩:=h3 k u hu;simp[e1,e2]
    .intro k x hk;simp only[Zs,Ze]at hk;obtain⟨u,hu,rfl⟩:=hk;obtain⟨u',e1,_,e3⟩:=h3 k u hu;simpa[e1]using aaL e3
   exact .im this
def eX{P:Program}{t:TypeId}{i:Ti}(h:ir P t=some i):∃d info z,P.underlying t=some d/\P.info? t=some info/\info.zero=some z/\FW P d=some i.kd/\
 i.size=info.size/\i.agg=rh d/\i.zero=z.cells.toList/\(∀u∈z.cells.toList,lr u=true)/\z.cells.size=info.size:=by
 unfold ir at h;split at h
 .rename_i d info hd hi;split at h
  .rename_i z kd hz hk;split at h
   .rename_i hc;simp only[Zc]at h;subst h;simp only[Zh,Yp,beq_iff_eq]at hc;exact⟨d,info,z,hd,hi,hz,hk,rfl,rfl,rfl,hc.1,hc.2⟩
   .cases h
  .cases h
 .cases h
def gX{P:Program}{d:TypeDesc}{sz bytes:Nat}{agg:Bool}{ez:List Value}(h:FW P d=some (.slice sz agg bytes ez)):
 ∃e ei ed z,d= .slice e/\P.info? e=some ei/\P.underlying e=some ed/\ei.zero=some z/\sz=ei.size/\agg=rh ed/\bytes=ei.bytes/\ez=z.cells.toList/\(∀u∈z.cells.toList,lr u=true)/\z.cells.size=ei.size/\0<sz:=by
 unfold FW at h;split at h
 .simp at h
 .rename_i e;split at h
  .rename_i ei ed hi hu;split at h
   .rename_i z hz;split at h
    .rename_i hc;simp only[Zc,Kd.slice.injEq]at h;simp only[Zh,Yp,beq_iff_eq,bne_iff_ne]at hc;exact⟨e,ei,ed,z,rfl,hi,hu,hz,h.1.symm,h.2.1.symm,h.2.2.1.symm,h.2.2.2.symm,hc.1.1,hc.1.2,by have:=hc.2;omega⟩
    .cases h
   .cases h
  .cases h
 .split at h<;>simp at h
 .simp at h
def uJ{P:Program}{d:TypeDesc}{n sz:Nat}{agg:Bool}(h:FW P d=some (.array n sz agg)):
 ∃e ei ed,d= .array n e/\P.info? e=some ei/\P.underlying e=some ed/\sz=ei.size/\agg=rh ed:=by
 unfold FW at h;split at h
 .simp at h
 .split at h
  .split at h
   .split at h<;>simp at h
   .cases h
  .cases h
 .rename_i m e;split at h
  .rename_i ei ed hi hu;simp only[Zc,Kd.array.injEq]at h;obtain⟨rfl,rfl,rfl⟩:=h;exact⟨e,ei,ed,rfl,hi,hu,rfl,rfl⟩
  .cases h
 .simp at h
def iT{α β:Type}{f:α->Option β}:∀{l:List α}{m:List β},l.mapM f=some m->m.length=l.length/\∀(k:Nat)(a:α),l[k]?=some a->∃b,m[k]?=some b/\f a=some b
 | [],m,h=>by simp at h;subst h;simp
 |
  a::l,m,h=>by
  simp only[Zo,Option.bind_eq_bind,Ye,Option.pure_def,Zc]at h;obtain⟨b,hb,m',hm,rfl⟩:=h;obtain⟨h1,h2⟩:=iT hm;refine⟨by simp[h1],λk x hk=>?_⟩;cases k with
  |zero=>simp at hk;subst hk;exact⟨b,rfl,hb⟩
  |succ k=>simp at hk;simpa using h2 k x hk
def sa{P:Program}{d:TypeDesc}{l:List (Nat × Nat × Bool)}(h:FW P d=some (.struct l)):
 ∃fs:Array Field,d= .struct fs/\l.length=fs.size/\∀(k:Nat)(f:Field),fs[k]?=some f->∃fi fd,P.info? f.type=some fi/\P.underlying f.type=some fd/\l[k]?=some (f.offset,fi.size,rh fd):=by
 unfold FW at h;split at h
 .rename_i fs;simp only[Ze,Kd.struct.injEq]at h;obtain⟨l',hl,rfl⟩:=h;obtain⟨h1,h2⟩:=iT hl;refine⟨fs,rfl,by simpa using h1,λk f hk=>?_⟩;obtain⟨b,hb,hf⟩:=h2 k f (by simpa using hk);split at hf
  .rename_i fi fd hi hu;simp only[Zc]at hf;exact⟨fi,fd,hi,hu,by rw[hb,<-hf]⟩
  .cases hf
 .split at h
  .split at h
   .split at h<;>simp at h
   .cases h
  .cases h
 .split at h<;>simp at h
 .simp at h
def tf{P:Program}{t:TypeId}{d:TypeDesc}(h:P.underlying t=some d)(w:World):(isAgg t).run P w= .ok (rh d) w:=by
 unfold isAgg;simp only[Sem.run_bind,run_underlying h,Result.andThen_ok];cases d<;>simp[rh]
def fX{P:Program}{t:TypeId}{i:TypeInfo}(h:P.info? t=some i)(w:World):(sizeOf t).run P w= .ok i.size w:=by
 simp[sizeOf,typeInfo,h]
def oa{P:Program}{t:TypeId}{i:TypeInfo}{z:Value}(h:P.info? t=some i)(hz:i.zero=some z)(w:World):(zeroValue t).run P w= .ok z w:=by
 simp[zeroValue,typeInfo,h,hz]
def add_lit(b o j:Nat):(⟨b,o,none⟩:Addr).add j=⟨b,o+j,none⟩:=by
 unfold Addr.add;split<;>simp_all
def oS{w:World}{b:Nat}{cV:Array Value}{t:TypeId}{fz:Nat × Nat}(h:w.heap[b]?=some (.cells cV t fz))(o:Nat):w.cell? ⟨b,o,none⟩=cV[o]?:=by
 simp[World.cell?,h]
def AP{P:Program}{w:World}{X:Nat->Prop}{ρ:Nat->Nat}{n:Nat}{t:TypeId}{d:TypeDesc}{info:TypeInfo}(h1:P.underlying t=some d)(h2:P.info? t=some info){b o off:Nat}{cV:Array Value}{t0:TypeId}{fz:Nat × Nat}(hb:w.heap[b]?=some (.cells cV t0 fz)){cs:List AV}{us:Nat->Value}(hc:∀k x,cs[k]?=some x->cV[o+k]?=some (us k)/\(us k).oneCell'=true/\Rp w X ρ n (us k) x){y:AV}(hp:part (rh d) off info.size cs=some y):∃v,(loadVar t ⟨b,o+off,none⟩).run P w= .ok v w/\Rp w X ρ n v y:=by
 unfold part at hp;cases ha:rh d with
 |
  true=>
  simp only[ha,if_true]at hp;split at hp
  .rename_i cP;simp only[Zc]at hp;subst hp;have hl:=run_loadCells (P:=P) w ⟨b,o+off,none⟩ info.size (λj=>us (off+j)) (λj hj=>by
    have hk:off+j<cs.length:=by omega
    rw[add_lit,oS hb,Nat.add_assoc];exact(hc (off+j) _ (Zb hk)).1)
   refine⟨.agg ((List.range info.size).map λj=>us (off+j)).toArray,?_,?_⟩
   .simp[loadVar,tf h1,ha,fX h2,hl]
   .refine .ag _ _ (by simp;omega) (λk hk=>?_) λk x hk=>?_
    .simp at hk;have kD:off+k<cs.length:=by omega
     simpa[hk]using(hc (off+k) _ (Zb kD)).2.1
    .rw[Xi]at hk;split at hk
     .rename_i du;rw[Xj]at hk;have:k<info.size:=by omega
      simpa[this]using(hc (off+k) x hk).2.2
     .cases hk
  .cases hp
 |
  false=>
  simp only[ha]at hp;have hp':cs[off]?=some y:=by simpa using hp
  have hh:=hc off y hp';refine⟨us off,?_,hh.2.2⟩;have fO:w.cell? ⟨b,o+off,none⟩=some (us off):=by rw[oS hb];exact hh.1
  simp[loadVar,tf h1,ha,fO]
def C3{P:Program}{w:World}{X:Nat->Prop}{ρ:Nat->Nat}{n:Nat}{t:TypeId}{i:Ti}(hi:ir P t=some i){b o off:Nat}{cV:Array Value}{t0:TypeId}{fz:Nat × Nat}(hb:w.heap[b]?=some (.cells cV t0 fz)){cs:List AV}{us:Nat->Value}(hc:∀k x,cs[k]?=some x->cV[o+k]?=some (us k)/\(us k).oneCell'=true/\Rp w X ρ n (us k) x){y:AV}(hp:part i.agg off i.size cs=some y):∃v,(loadVar t ⟨b,o+off,none⟩).run P w= .ok v w/\Rp w X ρ n v y:=by
 obtain⟨d,info,z,h1,h2,h3,h4,h5,h6,h7,h8,h9⟩:=eX hi;rw[h5,h6]at hp;exact AP h1 h2 hb hc hp
def ia.cells{G:Nat->Option (List Value)}{w:World}{X:Nat->Prop}{ρ:Nat->Nat}{h:Hp}(hs:ia G w X ρ h){id:Nat}{cs:List AV}(ej:gu h id=some cs):
 ∃(cV:Array Value)(t:TypeId)(fz:Nat × Nat)(us:Nat->Value),w.heap[ρ id]?=some (.cells cV t fz)/\∀k x,cs[k]?=some x->cV[k]?=some (us k)/\(us k).oneCell'=true/\Rp w (dZ X ρ h) ρ h.length (us k) x:=by
 unfold gu at ej;split at ej
 .rename_i cs' hi;cases ej;obtain⟨cV,t,fz,us,h1,_,_,h3⟩:=hs.row id _ hi;exact⟨cV,t,fz,us,h1,h3⟩
 .rename_i cs' hi;cases ej;obtain⟨cV,t,fz,us,h1,h3⟩:=hs.km id _ hi;exact⟨cV,t,fz,us,h1,λk x hk=>⟨(h3 k x hk).1,(h3 k x hk).2.1,.im (h3 k x hk).2.2⟩⟩
 .rename_i cs' hi;cases ej;obtain⟨cV,t,fz,us,h1,_,_,h3⟩:=hs.km id _ hi;exact⟨cV,t,fz,us,h1,h3⟩
 .cases ej
def CR{h:Hp}{id:Nat}{cs:List AV}(ej:h[id]?=some (.row cs)):gu h id=some cs:=by
 unfold gu;rw[ej]
def Good(C:Cx)(o:Oper)(a:Act)(w:World)(X:Nat->Prop)(ρ:Nat->Nat)(h:Hp)(r:AV)(h':Hp):Prop:=
 ∀(K:Act->World->Prop)(Q:Exit->Act->World->Prop),
  (∀v w' ρ',Ext C.G w X ρ h w' ρ' h'->Rp w' (dZ X ρ' h') ρ' h'.length v r->K (a.put o.dst v) w')->
  (∀u w' ρ',r= .pn u->Ext C.G w X ρ h w' ρ' h'->Q (.panic [{v:=u,recovered:=false}]) a w')->o.wp C.P a w K Q
section good
variable {C : Cx} {o : Oper} {a : Act} {w : World} {X : Nat -> Prop} {ρ : Nat -> Nat} {h : Hp}
def eD{w':World}{ρ':Nat->Nat}{h':Hp}{v:Value}{r:AV}(hr:(execOp a.eval o).run C.P w= .ok (.value v) w')(he:Ext C.G w X ρ h w' ρ' h')(hv:Rp w' (dZ X ρ' h') ρ' h'.length v r):Good C o a w X ρ h r h':=by
 intro K Q hK _;unfold Oper.wp;rw[hr,Oper.upon_value];exact hK v w' ρ' he hv
def th{w':World}{ρ':Nat->Nat}{h':Hp}(hr:(execOp a.eval o).run C.P w= .ok .skip w')(he:Ext C.G w X ρ h w' ρ' h'):Good C o a w X ρ h .un h':=by
 intro K Q hK _;unfold Oper.wp;rw[hr,Oper.upon_skip];exact hK undef w' ρ' he (.im .un)
def cN(hs:ia C.G w X ρ h){v:Value}{r:AV}(hr:(execOp a.eval o).run C.P w= .ok (.value v) w)(hv:Rp w (dZ X ρ h) ρ h.length v r):Good C o a w X ρ h r h:=
 eD hr (Ext.refl hs) hv
end good
def Wq{w:World}{X:Nat->Prop}{ρ:Nat->Nat}{n:Nat}{v:Value}{x:AV}(h:Rp w X ρ n v x)(hd:tR x=true):v=tS x:=by
 cases x with
 |sc u=>exact h.dQ.1
 |ag xs=>
  obtain⟨us,rfl,h1,h2,h3⟩:=h.xm;simp only[tR,Yp]at hd;simp only[tS]
  congr 1
  apply Array.ext
  .simpa using h1
  .intro i hi rN;have hl:i<xs.length:=by simpa using rN
   have h4:=h3 i _ (Zb hl);have h5:=hd xs[i] (List.getElem_mem hl);cases hx:xs[i]with
   |sc u=>
    rw[hx]at h4;have:=h4.dQ.1;simp only[hi,Zr,Xf,Xg]at this;simp[hx,adp,this]
   |_=>rw[hx]at h5;simp[Vl]at h5
 |fn f xs=>
  cases xs with
  |cons y ys=>simp[tR]at hd
  |
   nil=>
   obtain⟨us,rfl,h1,_⟩:=h.pj;have:us= #[]:=Array.eq_empty_of_size_eq_zero (by simpa using h1);rw[this];rfl
 |_=>simp[tR]at hd
def G9{w:World}{X:Nat->Prop}{vs:Array Value}(fZ:vs.toList.all lr=true):vs.size=(vs.toList.map AV.sc).length/\(∀k,k<vs.size->(vs.getD k undef).oneCell'=true)/\∀(k:Nat)(x:AV),(vs.toList.map AV.sc)[k]?=some x->Ri w X (vs.getD k undef) x:=by
 rw[Yp]at fZ;refine⟨by simp,λk hk=>lN (fZ _ ?_),λk x hk=>?_⟩
 .have:vs.getD k undef=vs[k]:=by simp[hk]
  rw[this];exact Array.getElem_mem_toList hk
 .simp only[Zs,Ze]at hk;obtain⟨u,hu,rfl⟩:=hk;have:vs.getD k undef=u:=by simp at hu;simp[hu]
  rw[this];exact .sc u (fZ u (Zi hu))
def nH(k:IntKind)(n:Int):dA k n=k.wrap n:=by
 unfold dA;split
 .split
  .rename_i h;exact(IntWalk.i64_in n (by omega)).symm
  .rfl
 .split
  .rename_i h;simp only[IntKind.wrap,IntKind.signed,IntKind.bits,Bool.false_and,Yl,if_false];omega
  .rfl
 .rfl
def qI{a:Int}(h0:0<=a)(h1:a<=18446744073709551615):(BitVec.ofInt 64 a).toNat=a.toNat:=by
 rw[BitVec.toNat_ofInt];have:a % ((2^64:Nat):Int)=a:=Int.emod_eq_of_lt h0 (by omega);rw[this]
def wrap_u64{n:Nat}(h:n<18446744073709551616):IntKind.u64.wrap (n:Int)=n:=by
 simp only[IntKind.wrap,IntKind.signed,IntKind.bits,Bool.false_and,Yl,if_false];omega
def Nn{P:Program}{op:BinOp}{k:IntKind}{a b:Int}{v:Value}(h:xR op k a b=some v)(t:TypeId)(w:World):(binOp op t (.int k a) (.int k b)).run P w= .ok v w:=by
 unfold xR at h;cases op<;>simp only[Zc,nH]at h<;>first|contradiction|skip
 case and=>
  split at h
  .rename_i hc;obtain⟨rfl,a0,a1,b0,b1⟩:=hc;simp only[Zc]at h;subst h;have hr:(BitVec.ofInt 64 a &&& BitVec.ofInt 64 b).toNat=a.toNat &&& b.toNat:=by rw[BitVec.toNat_and,qI a0 a1,qI b0 b1]
   have hl:a.toNat &&& b.toNat<18446744073709551616:=by have:=(BitVec.ofInt 64 a &&& BitVec.ofInt 64 b).isLt;rw[hr]at this;exact this
   show Result.ok (Value.int IntKind.u64 (IntKind.u64.wrap ((BitVec.ofInt 64 a &&& BitVec.ofInt 64 b).toNat:Int))) w=_;rw[hr,wrap_u64 hl]
  .cases h
 case or=>
  split at h
  .rename_i hc;obtain⟨rfl,a0,a1,b0,b1⟩:=hc;simp only[Zc]at h;subst h;have hr:(BitVec.ofInt 64 a|||BitVec.ofInt 64 b).toNat=a.toNat|||b.toNat:=by rw[BitVec.toNat_or,qI a0 a1,qI b0 b1]
   have hl:a.toNat|||b.toNat<18446744073709551616:=by have:=(BitVec.ofInt 64 a|||BitVec.ofInt 64 b).isLt;rw[hr]at this;exact this
   show Result.ok (Value.int IntKind.u64 (IntKind.u64.wrap ((BitVec.ofInt 64 a|||BitVec.ofInt 64 b).toNat:Int))) w=_;rw[hr,wrap_u64 hl]
  .cases h
 all_goals first
  |(
   split at h
   .cases h
   .rename_i hb;simp only[Zc]at h;subst h;simp[binOp,Op.intDiv,hb])
  |(subst h;simp[binOp,Op.intArith,Op.intCmp];done)
  |(subst h;simp[binOp,Op.intCmp];rfl)
def JR{op:BinOp}{k:IntKind}{a b:Int}{v:Value}(hv:xR op k a b=some v):lr v=true:=by
 unfold xR at hv;cases op<;>simp only[Zc]at hv<;>first|contradiction|(subst hv;rfl)|(split at hv<;>first|contradiction|(simp only[Zc]at hv;subst hv;rfl))
def G_{P:Program}{op:BinOp}{k k':IntKind}{a b:Int}{v:Value}(h:yW op k a k' b=some v)(t:TypeId)(w:World):(binOp op t (.int k a) (.int k' b)).run P w= .ok v w/\lr v=true:=by
 unfold yW at h;split at h
 .split at h
  .rename_i hc;simp only[Zc]at h;subst h;refine⟨?_,rfl⟩;have hn:¬b<0:=by omega
   have hm:min b.toNat k.bits=b.toNat:=by omega
   have hd:a.fdiv (2^b.toNat)=a/((2^b.toNat:Nat):Int):=by
    rw[Int.fdiv_eq_ediv_of_nonneg a (Int.pow_nonneg (by decide))]
    congr 1
   simp only[binOp,Op.shift,hn,if_false,hm,hd,Sem.run_pure]
  .cases h
 .split at h
  .rename_i hk;subst hk;exact⟨Nn h t w,JR h⟩
  .cases h
def Nq{P:Program}{op:BinOp}{a b:ByteArray}{v:Value}(h:ew op a b=some v)(t:TypeId)(w:World):(binOp op t (.string a) (.string b)).run P w= .ok v w:=by
 unfold ew at h;cases op
 case add=>
  simp only at h;split at h
  .rename_i hc;simp only[Zc]at h;subst h;have e:¬((a.size+b.size:Nat):Int)>IntKind.i64.max:=by
    show¬((a.size+b.size:Nat):Int)>9223372036854775807;omega
   simp only[binOp,Op.stringOp,cv e];rfl
  .cases h
 all_goals (simp only[Zc]at h)
 all_goals first|contradiction|skip
 all_goals (subst h;simp[binOp,Op.stringOp,dn,nO,ByteArray.toList_eq])
def Nr{C:Cx}{w:World}{X:Nat->Prop}{ρ:Nat->Nat}{h:Hp}(hs:ia C.G w X ρ h){a:Act}{fr:List AV}(hf:RF w (dZ X ρ h) ρ h.length a.tmps fr){o:Oper}{r:AV}(hr:uk C (ev C fr) o=some r):Good C o a w X ρ h r h:=by
 unfold uk at hr;split at hr
 .rename_i op t x y t' dq;split at hr
  .rename_i p q hx hy;have ex:=dM hs hf x;have ey:=dM hs hf y;rw[hx]at ex;rw[hy]at ey;have he:C.P.underlying t=some .bool->(Op.equal t (.bool p) (.bool q)).run C.P w= .ok (p==q) w:=λhu=>by
    show(Op.equalIn (9999+1) t (.bool p) (.bool q)).run C.P w=_;unfold Op.equalIn;simp[run_underlying hu]
   split at hr
   .rename_i hu;simp only[Zc]at hr;subst hr;refine cN hs (v:= .bool (p==q)) ?_ (.im (.sc _ rfl));simp[execOp,dq,ex.dQ.1,ey.dQ.1,eqGuard,binOp,he hu]
   .rename_i hu;simp only[Zc]at hr;subst hr;refine cN hs (v:= .bool (p !=q)) ?_ (.im (.sc _ rfl));simp[execOp,dq,ex.dQ.1,ey.dQ.1,eqGuard,binOp,he hu,bne]
   .cases hr
  .rename_i k n k' m hx hy;simp only[Ze]at hr;obtain⟨v,hv,rfl⟩:=hr;have ex:=dM hs hf x;have ey:=dM hs hf y;rw[hx]at ex;rw[hy]at ey;obtain⟨this,vj⟩:=G_ (P:=C.P) hv t w;refine cN hs (v:=v) ?_ (.im (.sc _ vj));simp only[execOp,dq,ex.dQ.1,ey.dQ.1,eqGuard];cases op<;>simp[this]
  .rename_i s1 s2 hx hy;simp only[Ze]at hr;obtain⟨v,hv,rfl⟩:=hr;have ex:=dM hs hf x;have ey:=dM hs hf y;rw[hx]at ex;rw[hy]at ey;refine cN hs (v:=v) ?_ (.im (.sc _ ?_))
   .have:=Nq (P:=C.P) hv t w;simp only[execOp,dq,ex.dQ.1,ey.dQ.1,eqGuard];cases op<;>simp[this]
   .unfold ew at hv;cases op
    case add=>
     simp only at hv;split at hv
     .cases hv;rfl
     .cases hv
    all_goals (simp only[Zc]at hv)
    all_goals first|contradiction|(subst hv;rfl)
  .cases hr
 .rename_i t x dq;split at hr
  .rename_i b hx;simp only[Zc]at hr;subst hr;have ex:=dM hs hf x;rw[hx]at ex;exact cN hs (v:= .bool !b) (by simp[execOp,dq,ex.dQ.1,Op.unary]) (.im (.sc _ rfl))
  .cases hr
 .rename_i t x dq;split at hr
  .rename_i k n hx;simp only[Ze]at hr;obtain⟨v,hv,rfl⟩:=hr;have ex:=dM hs hf x;rw[hx]at ex;simp only[xR,Zc,nH]at hv;subst hv;exact cN hs (by simp[execOp,dq,ex.dQ.1,Op.unary,Op.intArith]) (.im (.sc _ rfl))
  .cases hr
 .rename_i src dst x dq;split at hr
  .rename_i k0 n hx;split at hr
   .rename_i k1 k h1 h2;simp only[Zc]at hr;subst hr;have ex:=dM hs hf x;rw[hx]at ex;rw[nH];exact cN hs (v:= .int k (k.wrap n)) (by simp[execOp,dq,ex.dQ.1,convert,run_underlying h1,run_underlying h2,Conv.intToInt]) (.im (.sc _ rfl))
   .cases hr
  .cases hr
 .rename_i t x ix dq;split at hr
  .rename_i s k i hx hi;split at hr
   .rename_i hc;simp only[Ze]at hr;obtain⟨b,hb,rfl⟩:=hr;have ex:=dM hs hf x;have ei:=dM hs hf ix;rw[hx]at ex;rw[hi]at ei;have hu:C.P.underlying t=some .string:=by
     have:=hc.1;unfold isStr at this;split at this
     .assumption
     .cases this
    have hg:s[i.toNat]?=some b:=by
     rw[<-hb];show(if h:i.toNat<s.size then some s[i.toNat]else none)=_;split
     .rename_i h;have:i.toNat<s.data.toList.length:=by simpa using h
      rw[Zb this];rfl
     .rename_i h;rw[Xc (by simpa using h)]
    refine cN hs (v:= .int .u8 b.toNat) ?_ (.im (.sc _ rfl));simp[execOp,dq,ex.dQ.1,ei.dQ.1,Instr.index,asIntOf,run_underlying hu,hc.2,hg]
   .cases hr
  .cases hr
 .rename_i args wO dq;split at hr
  .rename_i x t hl ht;have iF:args= #[x]:=by cases args;simp_all
   have JS:wO= #[t]:=by cases wO;simp_all
   subst iF JS;split at hr
   .rename_i s hx;split at hr
    .rename_i hc;simp only[Zc]at hr;subst hr;have ex:=dM hs hf x;rw[hx]at ex;have hu:C.P.underlying t=some .string:=by
      unfold isStr at hc;split at hc
      .assumption
      .cases hc
     refine cN hs (v:= .int .i64 s.size) ?_ (.im (.sc _ rfl));simp[execOp,dq,resolve,invoke,builtin,Builtin.len_,ex.dQ.1,run_underlying hu,goInt]
    .cases hr
   .rename_i hx;split at hr
    .rename_i hc;simp only[Zc]at hr;subst hr;have ex:=dM hs hf x;rw[hx]at ex;obtain⟨el,hu⟩:∃el,C.P.underlying t=some (.slice el):=by
      unfold j9 at hc;split at hc
      .rename_i el hu;exact⟨el,hu⟩
      .cases hc
     refine cN hs (v:= .int .i64 0) ?_ (.im (.sc _ rfl));simp[execOp,dq,resolve,invoke,builtin,Builtin.len_,ex.dQ.1,run_underlying hu,goInt]
    .cases hr
   .cases hr
  .cases hr
 .rename_i args wO dq;split at hr
  .rename_i x y hl;have iF:args= #[x,y]:=by cases args;simp_all
   subst iF;split at hr
   .rename_i k p k' q hx hy;simp only[Zc]at hr;subst hr;have ex:=dM hs hf x;have ey:=dM hs hf y;rw[hx]at ex;rw[hy]at ey;refine cN hs (v:= .int k (if q>p then q else p)) ?_ (.im (.sc _ rfl));simp[execOp,dq,resolve,invoke,builtin,Builtin.max_,Builtin.max2,ex.dQ.1,ey.dQ.1]
   .cases hr
  .cases hr
 .rename_i args wO dq;split at hr
  .rename_i x y hl;have iF:args= #[x,y]:=by cases args;simp_all
   subst iF;split at hr
   .rename_i k p k' q hx hy;simp only[Zc]at hr;subst hr;have ex:=dM hs hf x;have ey:=dM hs hf y;rw[hx]at ex;rw[hy]at ey;refine cN hs (v:= .int k (if q<p then q else p)) ?_ (.im (.sc _ rfl));simp[execOp,dq,resolve,invoke,builtin,Builtin.min_,Builtin.min2,ex.dQ.1,ey.dQ.1]
   .cases hr
  .cases hr
 .cases hr
def Ns{C:Cx}{w:World}{X:Nat->Prop}{ρ:Nat->Nat}{h:Hp}(hs:ia C.G w X ρ h){a:Act}{fr:List AV}(hf:RF w (dZ X ρ h) ρ h.length a.tmps fr){o:Oper}{r:AV}(hr:mO C (ev C fr) o=some r):Good C o a w X ρ h r h:=by
 unfold mO at hr;split at hr
 .rename_i hc;simp only[Zh,Yp,Xd]at hc;obtain⟨hns,fZ⟩:=hc;have he:execOp a.eval o=execOp (λx=>tS (ev C fr x)) o:=
   execOp_congr o (λcs b abl=>by simp[abl,pD]at hns) λx hx=>Wq (dM hs hf x) (fZ x (by simpa using hx))
  split at hr
  .rename_i v hv;have jV:=G8 hv w;rw[<-he]at jV;refine cN hs jV ?_;unfold zI at hr;split at hr
   .rename_i vs;split at hr
    .rename_i fZ;simp only[Zc]at hr;subst hr;obtain⟨h1,_,h3⟩:=G9 (w:=w) (X:=dZ X ρ h) fZ;exact .im (.tp vs _ h1 h3)
    .cases hr
   .rename_i vs;split at hr
    .rename_i fZ;simp only[Zc]at hr;subst hr;obtain⟨h1,h2,h3⟩:=G9 (w:=w) (X:=dZ X ρ h) fZ;exact .im (.ag vs _ h1 h2 h3)
    .cases hr
   .split at hr
    .simp only[Zc]at hr;subst hr;exact .im (.sc _ (by assumption))
    .cases hr
  .cases hr
 .cases hr
def Ha{C:Cx}{w:World}{X:Nat->Prop}{ρ:Nat->Nat}{h:Hp}(hs:ia C.G w X ρ h){a:Act}{fr:List AV}(hf:RF w (dZ X ρ h) ρ h.length a.tmps fr){o:Oper}{r:AV}(hr:iu C (ev C fr) o=some r):Good C o a w X ρ h r h:=by
 unfold iu at hr;split at hr
 .rename_i r' hq;simp only[Zc]at hr;subst hr;exact Nr hs hf hq
 .exact Ns hs hf hr
section ops
variable {C : Cx} {w : World} {X : Nat -> Prop} {ρ : Nat -> Nat} {h : Hp} {a : Act} {fr : List AV} {o : Oper}
def qJ(P:Program)(w:World)(ob:Obj):(newObj ob).run P w= .ok w.heap.size (w.alloc ob):=rfl
def mh{n:Nat}{v:Value}{x:AV}{i:Nat}(hv:Rp w X ρ n v x)(hn:jy x=some i):∃k j,v= .int k j/\0<=j/\j.toNat=i:=by
 unfold jy at hn;split at hn
 .rename_i k j;split at hn
  .simp only[Zc]at hn;obtain⟨rfl,_⟩:=hv.dQ;exact⟨k,j,rfl,by assumption,hn⟩
  .cases hn
 .cases hn
def Ro(hs:ia C.G w X ρ h)(hf:RF w (dZ X ρ h) ρ h.length a.tmps fr){x:Operand}(dq:o.op= .move x\/o.op= .assign x):Good C o a w X ρ h (ev C fr x) h:=
 cN hs (by rcases dq with dq|dq<;>simp only[execOp,dq,Sem.run_pure]) (dM hs hf x)
def abm(hs:ia C.G w X ρ h)(hf:RF w (dZ X ρ h) ρ h.length a.tmps fr){c x y:Operand}(dq:o.op= .pick c x y){t:Bool}(hc:ev C fr c= .sc (.bool t)):
 Good C o a w X ρ h (bif t then ev C fr x else ev C fr y) h:=by
 have h1:=dM hs hf c;rw[hc]at h1;have h2:=h1.dQ.1;refine cN (v:=if t then a.eval x else a.eval y) hs ?_ ?_
 .simp only[execOp,dq,h2,asBool,Sem.run_bind,Sem.run_pure,Result.andThen_ok]
 .cases t
  .exact dM hs hf y
  .exact dM hs hf x
def JT(w0:World)(h:Hp)(ρ:Nat->Nat)(w':World)(X':Nat->Prop)(m:Nat)(hm:h.length<m):Rp w' X' (λi=>if i=h.length then w0.heap.size else ρ i) m (.pointer (some ⟨w0.heap.size,0,none⟩)) (.pt h.length 0):=by
 have:=Rp.pt (w:=w') (X:=X') (ρ:=λi=>if i=h.length then w0.heap.size else ρ i) h.length 0 hm;simpa using this
def Wr(hs:ia C.G w X ρ h){t:TypeId}(dq:o.op= .alloc t){i:Ti}(hi:ir C.P t=some i):Good C o a w X ρ h (.pt h.length 0) (h++[.row (i.zero.map .sc)]):=by
 obtain⟨d,info,z,h1,h2,h3,h4,h5,h6,h7,h8,h9⟩:=eX hi;have he:=sS hs z.cells t (i.zero.map .sc) (λk=>z.cells.getD k undef) (by simp[h7]) (λk x hk=>by
  rw[h7]at hk;simp only[Zs,Ze]at hk;obtain⟨u,hu,rfl⟩:=hk;have hm:u∈z.cells.toList:=Zi hu;have hu':z.cells[k]?=some u:=by simpa using hu
  have:z.cells.getD k undef=u:=by simp[hu']
  rw[this];exact⟨hu',lN (h8 u hm),.im (.sc u (h8 u hm))⟩) (0,0) (.inl rfl)
 refine eD (v:= .pointer (some ⟨w.heap.size,0,none⟩)) ?_ he (JT w h ρ _ _ _ (by simp));simp only[execOp,dq,Instr.alloc,Sem.run_bind,oa h2 h3,Result.andThen_ok,newVar,newRow,qJ,Sem.run_pure]
def adM(hs:ia C.G w X ρ h)(hf:RF w (dZ X ρ h) ρ h.length a.tmps fr){t:TypeId}{x:Operand}(dq:o.op= .box t x){cs:List AV}(hc:cls (ev C fr x)=some cs):
 Good C o a w X ρ h (.pt h.length 0) (h++[.row cs]):=by
 obtain⟨h1,h2,h3⟩:=(dM hs hf x).zk hc;have he:=sS hs (a.eval x).cells t cs (λk=>(a.eval x).cells.getD k undef) (by omega) (λk y hk=>by
  have du:k< (a.eval x).cells.size:=by have:=(Za.1 hk).1;omega
  refine⟨?_,h2 k du,h3 k y hk⟩;simp[du]) (0,0) (.inl rfl)
 refine eD (v:= .pointer (some ⟨w.heap.size,0,none⟩)) ?_ he (JT w h ρ _ _ _ (by simp));simp only[execOp,dq,Instr.box,Sem.run_bind,Result.andThen_ok,newVar,newRow,qJ,Sem.run_pure]
def abn(hs:ia C.G w X ρ h)(hf:RF w (dZ X ρ h) ρ h.length a.tmps fr){t:TypeId}{x:Operand}(dq:o.op= .load t x){i:Ti}(hi:ir C.P t=some i){id off:Nat}{cs:List AV}(hx:ev C fr x= .pt id off)(ej:gu h id=some cs){y:AV}(hp:part i.agg off i.size cs=some y):Good C o a w X ρ h y h:=by
 have h1:=dM hs hf x;rw[hx]at h1;obtain⟨h2,h3⟩:=h1.mT;obtain⟨cV,t0,fz,us,c1,c3⟩:=hs.cells ej;obtain⟨v,hv,hr⟩:=C3 (ρ:=ρ) (n:=h.length) (X:=dZ X ρ h) hi (o:=0) c1 (us:=us) (cs:=cs) (λk x hk=>by simpa using c3 k x hk) hp;refine cN hs (v:=v) ?_ hr;simp only[Xk]at hv;simp only[execOp,dq,Instr.loadAt,Instr.sureAddr,h2,Sem.run_bind,Sem.run_pure,Result.andThen_ok,hv]
def Ws(hs:ia C.G w X ρ h)(hf:RF w (dZ X ρ h) ρ h.length a.tmps fr){t:TypeId}{x:Operand}(dq:o.op= .load t x){i:Ti}(hi:ir C.P t=some i){row:List AV}{j:Nat}(hx:ev C fr x= .rp row j){y:AV}(hp:part i.agg j i.size row=some y):Good C o a w X ρ h y h:=by
 have h1:=dM hs hf x;rw[hx]at h1;have h2:=h1.AM;cases hq:a.eval x<;>rw[hq]at h2<;>cases h2;rename_i b o' us cV t0 fz c1 c2 c3 c4;obtain⟨v,hv,hr⟩:=C3 (ρ:=ρ) (n:=h.length) (X:=dZ X ρ h) hi (o:=o') c2 (us:=us) (cs:=row) (λk x hk=>⟨(c3 k x hk).1,(c3 k x hk).2,.im (c4 k x hk)⟩) hp;refine cN hs (v:=v) ?_ hr;simp only[execOp,dq,Instr.loadAt,Instr.sureAddr,hq,Sem.run_bind,Sem.run_pure,Result.andThen_ok,hv]
def uK{cs vs:List AV}{off:Nat}(cP:off<=cs.length)(k:Nat):(cF cs off vs)[k]?=if off<=k/\k<off+vs.length then vs[k-off]? else cs[k]?:=by
 unfold cF;by_cases h1:k<off
 .rw[cv (by omega),Zp,Zd (by simp;omega),Xi,cw h1]
 .by_cases h2:k<off+vs.length
  .rw[cw (by omega),Zp,Zf (by simp;omega),Zd (by simp;omega)]
   congr 1
   simp;omega
  .rw[cv (by omega),Zf (by simp;omega),Xj]
   congr 1
   simp;omega
def sd{cs vs:List AV}{off:Nat}(cP:off<=cs.length):(cF cs off vs).length=max cs.length (off+vs.length):=by
 unfold cF;simp;omega
def uc{cs vs:List AV}{off:Nat}(cP:off+vs.length<=cs.length):(cF cs off vs).length=cs.length:=by
 unfold cF;simp;omega
def lO(P:Program)(g o:Nat)(t:TypeId)(fz:Nat × Nat):∀(vs:List Value)(i:Nat)(cV:Array Value)(w:World),w.heap[g]?=some (.cells cV t fz)->Fw fz cV->o+i+vs.length<=cV.size->(∀v∈vs,v.oneCell'=true)->
 (storeCells ⟨g,o,none⟩ vs i).run P w= .ok () (w.setRow g (cV.toList.take (o+i)++vs++cV.toList.drop (o+i+vs.length)).toArray)
 |
  [],i,cV,w,hg,_,_,_=>by
  simp only[storeCells,Yk,List.length_nil,Nat.add_zero,List.take_append_drop,Array.toArray_toList];rw[setRow_self w g cV t fz hg];rfl
 |
  v::rest,i,cV,w,hg,BL,hl,h1=>by
  have hi:o+i<cV.size:=by simp at hl;omega
  have ahj:(⟨g,o,none⟩:Addr).add i=⟨g,o+i,none⟩:=by unfold Addr.add;split<;>simp_all
  have fO:w.cell? ⟨g,o+i,none⟩=some cV[o+i]:=by simp[World.cell?,hg,hi]
  have abo:w.frozen? ⟨g,o+i,none⟩=false:=by
   rcases BL with rfl|BL
   .simp[World.frozen?,hg]
   .obtain⟨lo,rN⟩:=fz;simp only[World.frozen?,hg,Bool.and_eq_false_iff,decide_eq_false_iff_not];left;simp only at BL;omega
  have dO:(store ((⟨g,o,none⟩:Addr).add i) v).run P w= .ok () (w.setRow g (cV.setIfInBounds (o+i) v)):=by
   rw[ahj,run_store P w _ v _ (h1 v (by simp)),fO];simp[abo,setCell_eq_setRow w g (o+i) cV t fz v hg]
  have ih:=lO P g o t fz rest (i+1) (cV.setIfInBounds (o+i) v) (w.setRow g (cV.setIfInBounds (o+i) v)) (setRow_heap w g cV _ t _ hg) (BL.imp (λq=>q) (λq=>by simpa using q)) (by simp at hl|-;omega) (λx hx=>h1 x (by simp[hx]));simp only[storeCells,Sem.run_bind,dO,Result.andThen_ok,ih,setRow_setRow]
  congr 3
  have e:=list_seg_step cV.toList (o+i) v rest (by simp at hl|-;omega);simpa[Array.toList_setIfInBounds,Nat.add_assoc]using e
def AQ(hs:ia C.G w X ρ h){id off:Nat}{cs:List AV}(ej:h[id]?=some (.row cs)){vs:List AV}(cP:off<=cs.length)(EK:∀(cV:Array Value)(t:TypeId)(fz:Nat × Nat),w.heap[ρ id]?=some (.cells cV t fz)->off+vs.length<=cV.size){dI:List Value}(cp:dI.length=vs.length)(mi:∀v∈dI,v.oneCell'=true)(mU:∀(k:Nat)(x:AV),vs[k]?=some x->Rp w (dZ X ρ h) ρ h.length (dI.getD k undef) x):
 ∃w',(storeCells ⟨ρ id,off,none⟩ dI).run C.P w= .ok () w'/\Ext C.G w X ρ h w' ρ (h.set id (.row (cF cs off vs))):=by
 obtain⟨cV,t0,fz,us,c1,BL,c2,c3⟩:=hs.row id cs ej;have hfit':=EK cV t0 fz c1;have dO:=lO C.P (ρ id) off t0 fz dI 0 cV w c1 (.inl BL.eq) (by omega) mi;refine⟨_,dO,?_⟩;have ik:(cV.toList.take (off+0)++dI++cV.toList.drop (off+0+dI.length)).toArray.size=cV.size:=by simp;omega
 refine CD (w':=w.setRow (ρ id) (cV.toList.take (off+0)++dI++cV.toList.drop (off+0+dI.length)).toArray) hs id cs ej cV _ t0 fz BL c1 rfl rfl rfl (by simp[World.setRow]) (setRow_heap w (ρ id) cV _ t0 _ c1) ik (λb hb=>setRow_other w (ρ id) b _ hb) (cF cs off vs)
  (λk=>(cV.toList.take (off+0)++dI++cV.toList.drop (off+0+dI.length)).getD k undef) (by rw[sd cP,ik];omega) ?_
 intro k x hk;rw[uK cP]at hk;by_cases hin:off<=k/\k<off+vs.length
 .rw[cw hin]at hk;have hv:(cV.toList.take (off+0)++dI++cV.toList.drop (off+0+dI.length))[k]?=some (dI.getD (k-off) undef):=by
   rw[Zp,Zf (by simp;omega),Zd (by simp;omega)];have:k-off<dI.length:=by omega
   simp[show min off cV.size=off by omega,List.getD,Zb this]
  have hm:dI.getD (k-off) undef∈dI:=by
   have:k-off<dI.length:=by omega
   simp[List.getD,Zb this]
  refine⟨by rw[List.getElem?_toArray];simp only[List.getD,hv,Xg],?_,?_⟩
  .simp only[List.getD,hv,Xg];exact mi _ hm
  .simp only[List.getD,hv,Xg];have:=mU (k-off) x hk;simpa[List.getD]using this
 .rw[cv hin]at hk;have h3:=c3 k x hk;have hv:(cV.toList.take (off+0)++dI++cV.toList.drop (off+0+dI.length))[k]?=some (us k):=by
   have hck:cV.toList[k]?=some (us k):=by simpa using h3.1
   by_cases h4:k<off
   .rw[Zp,Zd (by simp;omega),Xi,cw (by omega)];exact hck
   .rw[Zf (by simp;omega),Xj,<-hck]
    congr 1
    simp;omega
  refine⟨by rw[List.getElem?_toArray];simp only[List.getD,hv,Xg],?_,?_⟩
  .simp only[List.getD,hv,Xg];exact h3.2.1
  .simp only[List.getD,hv,Xg];exact h3.2.2
def pS(hs:ia C.G w X ρ h){id off:Nat}{cs:List AV}(ej:h[id]?=some (.row cs)){vs:List AV}(cP:off+vs.length<=cs.length){dI:List Value}(cp:dI.length=vs.length)(mi:∀v∈dI,v.oneCell'=true)(mU:∀(k:Nat)(x:AV),vs[k]?=some x->Rp w (dZ X ρ h) ρ h.length (dI.getD k undef) x):
 ∃w',(storeCells ⟨ρ id,off,none⟩ dI).run C.P w= .ok () w'/\Ext C.G w X ρ h w' ρ (h.set id (.row (cF cs off vs))):=
 AQ hs ej (by omega) (λcV t fz hc=>by
  obtain⟨kl,t',I1,us,c1,_,c2,c3⟩:=hs.row id cs ej;rw[hc]at c1;cases c1;omega) cp mi mU
def Nt(hs:ia C.G w X ρ h){id off:Nat}{cs:List AV}(ej:h[id]?=some (.raw cs)){vs:List AV}(cP:off+vs.length<=cs.length){dI:List Value}(cp:dI.length=vs.length)(mi:∀v∈dI,v.oneCell'=true)(mU:∀(k:Nat)(x:AV),vs[k]?=some x->Rp w (dZ X ρ h) ρ h.length (dI.getD k undef) x):
 ∃w',(storeCells ⟨ρ id,off,none⟩ dI).run C.P w= .ok () w'/\Ext C.G w X ρ h w' ρ (h.set id (.raw (cF cs off vs))):=by
 obtain⟨cV,t0,fz,us,c1,BL,c2,c3⟩:=hs.km id _ ej;have dO:=lO C.P (ρ id) off t0 fz dI 0 cV w c1 BL (by omega) mi;refine⟨_,dO,?_⟩;have ik:(cV.toList.take (off+0)++dI++cV.toList.drop (off+0+dI.length)).toArray.size=cV.size:=by simp;omega
 refine pB (w':=w.setRow (ρ id) (cV.toList.take (off+0)++dI++cV.toList.drop (off+0+dI.length)).toArray) hs id (.raw cs) (.raw (cF cs off vs)) ej rfl rfl rfl rfl rfl (by simp[World.setRow]) (λc t f hc=>by rw[c1]at hc;cases hc;exact⟨_,_,_,setRow_heap w (ρ id) cV _ t0 _ c1,ik⟩) (λb hb=>setRow_other w (ρ id) b _ hb)
  ⟨_,t0,fz,λk=>(cV.toList.take (off+0)++dI++cV.toList.drop (off+0+dI.length)).getD k undef,setRow_heap w (ρ id) cV _ t0 _ c1,BL.imp (λq=>q) (λq=>by rw[ik];exact q),by rw[sd (by omega),ik];omega,?_⟩
 intro k x hk;rw[uK (by omega)]at hk;by_cases hin:off<=k/\k<off+vs.length
 .rw[cw hin]at hk;have hv:(cV.toList.take (off+0)++dI++cV.toList.drop (off+0+dI.length))[k]?=some (dI.getD (k-off) undef):=by
   rw[Zp,Zf (by simp;omega),Zd (by simp;omega)];have:k-off<dI.length:=by omega
   simp[show min off cV.size=off by omega,List.getD,Zb this]
  have hm:dI.getD (k-off) undef∈dI:=by
   have:k-off<dI.length:=by omega
   simp[List.getD,Zb this]
  refine⟨by rw[List.getElem?_toArray];simp only[List.getD,hv,Xg],?_,?_⟩
  .simp only[List.getD,hv,Xg];exact mi _ hm
  .simp only[List.getD,hv,Xg];have:=mU (k-off) x hk;simpa[List.getD]using this
 .rw[cv hin]at hk;have h3:=c3 k x hk;have hv:(cV.toList.take (off+0)++dI++cV.toList.drop (off+0+dI.length))[k]?=some (us k):=by
   have hck:cV.toList[k]?=some (us k):=by simpa using h3.1
   by_cases h4:k<off
   .rw[Zp,Zd (by simp;omega),Xi,cw (by omega)];exact hck
   .rw[Zf (by simp;omega),Xj,<-hck]
    congr 1
    simp;omega
  refine⟨by rw[List.getElem?_toArray];simp only[List.getD,hv,Xg],?_,?_⟩
  .simp only[List.getD,hv,Xg];exact h3.2.1
  .simp only[List.getD,hv,Xg];exact h3.2.2
def Wt(hs:ia C.G w X ρ h)(hf:RF w (dZ X ρ h) ρ h.length a.tmps fr){t:TypeId}{x y:Operand}(dq:o.op= .store t x y){i:Ti}(hi:ir C.P t=some i){id off:Nat}{cs vs:List AV}(hx:ev C fr x= .pt id off)(ej:h[id]?=some (.row cs))(hv:cls (ev C fr y)=some vs)(hl:vs.length=i.size)(cP:off+i.size<=cs.length):
 Good C o a w X ρ h .un (h.set id (.row (cF cs off vs))):=by
 obtain⟨d,info,z,h1,h2,h3,h4,h5,h6,h7,h8,h9⟩:=eX hi;have e1:=dM hs hf x;rw[hx]at e1;obtain⟨e2,e3⟩:=e1.mT;obtain⟨ae,af,ah⟩:=(dM hs hf y).zk hv;obtain⟨w',hw,he⟩:=pS hs ej (off:=off) (vs:=vs) (by omega) (dI:=(a.eval y).cells.toList) (by simpa using ae) (λv hv=>by
  obtain⟨k,hk,rfl⟩:=List.getElem_of_mem hv;have:=af k (by simpa using hk);simp at hk;simpa[hk]using this) (λk x hk=>by simpa[List.getD]using ah k x hk)
 refine th ?_ he;have gE:¬(a.eval y).cells.size≠info.size:=by omega
 simp only[execOp,dq,Instr.storeAt,Instr.sureAddr,e2,storeVar,Sem.run_bind,Sem.run_pure,Result.andThen_ok,fX h2,gE,if_false,hw]
def Rq(hs:ia C.G w X ρ h)(hf:RF w (dZ X ρ h) ρ h.length a.tmps fr){t:TypeId}{x y:Operand}(dq:o.op= .store t x y){i:Ti}(hi:ir C.P t=some i){id off:Nat}{cs vs:List AV}(hx:ev C fr x= .pt id off)(ej:h[id]?=some (.raw cs))(hv:cls (ev C fr y)=some vs)(hl:vs.length=i.size)(cP:off+i.size<=cs.length):
 Good C o a w X ρ h .un (h.set id (.raw (cF cs off vs))):=by
 obtain⟨d,info,z,h1,h2,h3,h4,h5,h6,h7,h8,h9⟩:=eX hi;have e1:=dM hs hf x;rw[hx]at e1;obtain⟨e2,e3⟩:=e1.mT;obtain⟨ae,af,ah⟩:=(dM hs hf y).zk hv;obtain⟨w',hw,he⟩:=Nt hs ej (off:=off) (vs:=vs) (by omega) (dI:=(a.eval y).cells.toList) (by simpa using ae) (λv hv=>by
  obtain⟨k,hk,rfl⟩:=List.getElem_of_mem hv;have:=af k (by simpa using hk);simp at hk;simpa[hk]using this) (λk x hk=>by simpa[List.getD]using ah k x hk)
 refine th ?_ he;have gE:¬(a.eval y).cells.size≠info.size:=by omega
 simp only[execOp,dq,Instr.storeAt,Instr.sureAddr,e2,storeVar,Sem.run_bind,Sem.run_pure,Result.andThen_ok,fX h2,gE,if_false,hw]
def Rr(hs:ia C.G w X ρ h)(hf:RF w (dZ X ρ h) ρ h.length a.tmps fr){x:Operand}(dq:o.op= .nilCheck x)(hx:(∃id off,ev C fr x= .pt id off)\/(∃row j,ev C fr x= .rp row j)\/∃f cs,ev C fr x= .fn f cs):
 Good C o a w X ρ h (ev C fr x) h:=by
 have h1:=dM hs hf x;refine cN hs (v:=a.eval x) ?_ h1;rcases hx with⟨id,off,hx⟩|⟨row,j,hx⟩|⟨f,cs,hx⟩<;>rw[hx]at h1
 .simp only[execOp,dq,h1.mT.1,Sem.run_pure]
 .have h2:=h1.AM;cases hq:a.eval x<;>rw[hq]at h2<;>cases h2;simp only[execOp,dq,hq,Sem.run_pure]
 .obtain⟨us,h2,_⟩:=h1.pj;simp only[execOp,dq,h2,Sem.run_pure]
def LG(hs:ia C.G w X ρ h)(hf:RF w (dZ X ρ h) ρ h.length a.tmps fr){t:TypeId}{x:Operand}{f:Nat}(dq:o.op= .fieldAddr t x f){i:Ti}(hi:ir C.P t=some i){fs:List (Nat × Nat × Bool)}(hk:i.kd= .struct fs){of sz:Nat}{ag:Bool}(Nu:fs[f]?=some (of,sz,ag))(ik:sz≠0):
 (∀id off,ev C fr x= .pt id off->Good C o a w X ρ h (.pt id (off+of)) h)/\(∀row j,ev C fr x= .rp row j->Good C o a w X ρ h (.rp row (j+of)) h):=by
 obtain⟨d,info,z,h1,h2,h3,h4,h5,h6,h7,h8,h9⟩:=eX hi;rw[hk]at h4;obtain⟨fields,rfl,cp,mj⟩:=sa h4;have Nv:f<fields.size:=by have:=(Za.1 Nu).1;omega
 obtain⟨fi,fd,g1,g2,g3⟩:=mj f fields[f] (Xf Nv);rw[Nu]at g3;simp only[Zc,Zg]at g3;obtain⟨rfl,rfl,rfl⟩:=g3;have e1:=dM hs hf x;constructor
 .intro id off hx;rw[hx]at e1;obtain⟨e2,e3⟩:=e1.mT;refine cN hs (v:= .pointer (some ⟨ρ id,off+fields[f].offset,none⟩)) ?_ (.pt id _ e3);simp only[execOp,dq,Instr.fieldAt,run_underlying h1,Sem.run_bind,Result.andThen_ok,Xf Nv,e2,Instr.sureAddr,Sem.run_pure,fieldPlace,fX g1,ik,if_false,add_lit]
 .intro row j hx;rw[hx]at e1;have e2:=e1.AM;cases hq:a.eval x<;>rw[hq]at e2<;>cases e2;rename_i b o' us cV t0 fz c1 c2 c3 c4;refine cN hs (v:= .pointer (some ⟨b,o'+(j+fields[f].offset),none⟩)) ?_ (.im (.rp b o' _ row us cV t0 fz c1 c2 c3 c4));simp only[execOp,dq,Instr.fieldAt,run_underlying h1,Sem.run_bind,Result.andThen_ok,Xf Nv,hq,Instr.sureAddr,Sem.run_pure,fieldPlace,fX g1,ik,if_false,add_lit,Nat.add_assoc]
def Hb(hs:ia C.G w X ρ h)(hf:RF w (dZ X ρ h) ρ h.length a.tmps fr){t:TypeId}{x ix:Operand}(dq:o.op= .indexAddr t x ix){i:Ti}(hi:ir C.P t=some i){sz tM:Nat}{ag:Bool}{ez:List Value}(hk:i.kd= .slice sz ag tM ez){n:Nat}(hn:jy (ev C fr ix)=some n):
 (∀id off len k,ev C fr x= .sl id sz off len k->n<len->Good C o a w X ρ h (.pt id (off+n*sz)) h)/\(∀cq z row,ev C fr x= .ls sz cq z->cq[n]?=some row->Good C o a w X ρ h (.rp row 0) h):=by
 obtain⟨d,info,z,h1,h2,h3,h4,h5,h6,h7,h8,h9⟩:=eX hi;rw[hk]at h4;obtain⟨e,ei,ed,Nw,rfl,k1,k2,k3,rfl,k5,k6,k7,k8,k9,C4⟩:=gX h4;obtain⟨kk,j,hj,AR,Cc⟩:=mh (dM hs hf ix) hn;have e1:=dM hs hf x;constructor
 .intro id off len k hx du;rw[hx]at e1;obtain⟨cap,cV,t0,fz,e2,e3,e4,_,_,e6,e7⟩:=e1.kr;refine cN hs (v:= .pointer (some ⟨ρ id,off+n*ei.size,none⟩)) ?_ (.pt id _ e3);have hc:0<=j/\j< (len:Int):=by omega
  simp only[execOp,dq,Instr.indexAt,hj,asIntOf,e2,run_underlying h1,Sem.run_bind,Result.andThen_ok,Sem.run_pure,hc,and_self,if_true,fX k1,add_lit,Cc]
 .intro cq zz row hx cY;rw[hx]at e1;rcases e1.mg.iR with⟨rfl,_⟩|⟨b,o',cap,us,cV,t0,fz,hq,c1,c2,c4,c5,c6,c7,c8⟩
  .simp at cY
  .have du:n<cq.length:=(Za.1 cY).1;have hc:0<=j/\j< (cq.length:Int):=by omega
   refine cN hs (v:= .pointer (some ⟨b,(o'+n*ei.size)+0,none⟩)) ?_ (.im (.rp b _ 0 row (us n) cV t0 fz c1 c2 (λk x hk=>⟨(c8 n row k x cY hk).1,(c8 n row k x cY hk).2.1⟩) (λk x hk=>(c8 n row k x cY hk).2.2)));simp only[execOp,dq,Instr.indexAt,hj,asIntOf,hq,run_underlying h1,Sem.run_bind,Result.andThen_ok,Sem.run_pure,hc,and_self,if_true,fX k1,add_lit,Cc,Nat.add_zero]
def Hc(hs:ia C.G w X ρ h)(hf:RF w (dZ X ρ h) ρ h.length a.tmps fr){t:TypeId}{x ix:Operand}(dq:o.op= .indexAddr t x ix){i:Ti}(hi:ir C.P t=some i){m sz:Nat}{ag:Bool}(hk:i.kd= .array m sz ag){n:Nat}(hn:jy (ev C fr ix)=some n)(du:n<m):
 (∀id off,ev C fr x= .pt id off->Good C o a w X ρ h (.pt id (off+n*sz)) h)/\(∀row j,ev C fr x= .rp row j->Good C o a w X ρ h (.rp row (j+n*sz)) h):=by
 obtain⟨d,info,z,h1,h2,h3,h4,h5,h6,h7,h8,h9⟩:=eX hi;rw[hk]at h4;obtain⟨e,ei,ed,rfl,k1,k2,rfl,k4⟩:=uJ h4;obtain⟨kk,j0,hj,AR,Cc⟩:=mh (dM hs hf ix) hn;have e1:=dM hs hf x;have hc:0<=j0/\j0< (m:Int):=by omega
 constructor
 .intro id off hx;rw[hx]at e1;obtain⟨e2,e3⟩:=e1.mT;refine cN hs (v:= .pointer (some ⟨ρ id,off+n*ei.size,none⟩)) ?_ (.pt id _ e3);simp only[execOp,dq,Instr.indexAt,hj,asIntOf,e2,run_underlying h1,Sem.run_bind,Result.andThen_ok,Sem.run_pure,Instr.sureAddr,hc,and_self,if_true,fX k1,add_lit,Cc]
 .intro row j hx;rw[hx]at e1;have e2:=e1.AM;cases hq:a.eval x<;>rw[hq]at e2<;>cases e2;rename_i b o' us cV t0 fz c1 c2 c3 c4;refine cN hs (v:= .pointer (some ⟨b,o'+(j+n*ei.size),none⟩)) ?_ (.im (.rp b o' _ row us cV t0 fz c1 c2 c3 c4));simp only[execOp,dq,Instr.indexAt,hj,asIntOf,hq,run_underlying h1,Sem.run_bind,Result.andThen_ok,Sem.run_pure,Instr.sureAddr,hc,and_self,if_true,fX k1,add_lit,Cc,Nat.add_assoc]
def Hd{P:Program}{n:Nat}{t:TypeId}{d:TypeDesc}{info:TypeInfo}(h1:P.underlying t=some d)(h2:P.info? t=some info){us:Array Value}{xs:List AV}(hl:us.size=xs.length)(mi:∀k,k<us.size->(us.getD k undef).oneCell'=true)(mU:∀(k:Nat)(x:AV),xs[k]?=some x->Rp w X ρ n (us.getD k undef) x){off:Nat}{y:AV}(hp:part (rh d) off info.size xs=some y):
 ∃v,(Go.part t us off).run P w= .ok v w/\Rp w X ρ n v y:=by
 unfold part at hp;cases ha:rh d with
 |
  true=>
  simp only[ha,if_true]at hp;split at hp
  .rename_i cP;simp only[Zc]at hp;subst hp;refine⟨.agg (us.extract off (off+info.size)),?_,.ag _ _ (by simp;omega) (λk hk=>?_) λk x hk=>?_⟩
   .simp[Go.part,tf h1,ha,fX h2]
   .have kD:off+k<us.size:=by simp at hk;omega
    have:=mi (off+k) kD;simp at hk;simpa[Array.getElem?_extract,kD,show k<min (off+info.size) us.size-off by omega]using this
   .rw[Xi]at hk;split at hk
    .rename_i du;rw[Xj]at hk;have kD:off+k<us.size:=by have:=(Za.1 hk).1;omega
     have:=mU (off+k) x hk;simpa[Array.getElem?_extract,kD,show k<min (off+info.size) us.size-off by omega]using this
    .cases hk
  .cases hp
 |
  false=>
  simp only[ha]at hp;have hp':xs[off]?=some y:=by simpa using hp
  have du:off<us.size:=by have:=(Za.1 hp').1;omega
  refine⟨us[off],?_,by simpa[du]using mU off y hp'⟩;simp[Go.part,tf h1,ha,du]
def Rs(hs:ia C.G w X ρ h)(hf:RF w (dZ X ρ h) ρ h.length a.tmps fr){t:TypeId}{x:Operand}{f:Nat}(dq:o.op= .field t x f){i:Ti}(hi:ir C.P t=some i){fs:List (Nat × Nat × Bool)}(hk:i.kd= .struct fs){of sz:Nat}{ag:Bool}(Nu:fs[f]?=some (of,sz,ag)){cs:List AV}(hx:ev C fr x= .ag cs){y:AV}(hp:part ag of sz cs=some y):Good C o a w X ρ h y h:=by
 obtain⟨d,info,z,h1,h2,h3,h4,h5,h6,h7,h8,h9⟩:=eX hi;rw[hk]at h4;obtain⟨fields,rfl,cp,mj⟩:=sa h4;have Nv:f<fields.size:=by have:=(Za.1 Nu).1;omega
 obtain⟨fi,fd,g1,g2,g3⟩:=mj f fields[f] (Xf Nv);rw[Nu]at g3;simp only[Zc,Zg]at g3;obtain⟨rfl,rfl,rfl⟩:=g3;have e1:=dM hs hf x;rw[hx]at e1;obtain⟨us,e2,e3,e4,e5⟩:=e1.xm;obtain⟨v,hv,hr⟩:=Hd (P:=C.P) g2 g1 e3 e4 e5 hp;refine cN hs (v:=v) ?_ hr;simp only[execOp,dq,Instr.field,run_underlying h1,Sem.run_bind,Result.andThen_ok,Xf Nv,e2,asAgg,Sem.run_pure,hv]
def Rt(hs:ia C.G w X ρ h)(hf:RF w (dZ X ρ h) ρ h.length a.tmps fr){t:TypeId}{x ix:Operand}(dq:o.op= .index t x ix){i:Ti}(hi:ir C.P t=some i){m sz:Nat}{ag:Bool}(hk:i.kd= .array m sz ag){n:Nat}(hn:jy (ev C fr ix)=some n)(du:n<m){cs:List AV}(hx:ev C fr x= .ag cs){y:AV}(hp:part ag (n*sz) sz cs=some y):Good C o a w X ρ h y h:=by
 obtain⟨d,info,z,h1,h2,h3,h4,h5,h6,h7,h8,h9⟩:=eX hi;rw[hk]at h4;obtain⟨e,ei,ed,rfl,k1,k2,rfl,rfl⟩:=uJ h4;obtain⟨kk,j0,hj,AR,Cc⟩:=mh (dM hs hf ix) hn;have hc:0<=j0/\j0< (m:Int):=by omega
 have e1:=dM hs hf x;rw[hx]at e1;obtain⟨us,e2,e3,e4,e5⟩:=e1.xm;obtain⟨v,hv,hr⟩:=Hd (P:=C.P) k2 k1 e3 e4 e5 hp;refine cN hs (v:=v) ?_ hr;simp only[execOp,dq,Instr.index,hj,asIntOf,run_underlying h1,Sem.run_bind,Result.andThen_ok,e2,Sem.run_pure,hc,and_self,if_true,fX k1,Cc,hv]
def Nx(hs:ia C.G w X ρ h)(hf:RF w (dZ X ρ h) ρ h.length a.tmps fr){x:Operand}{i:Nat}(dq:o.op= .extract x i){vs:List AV}(hx:ev C fr x= .tp vs){y:AV}(hy:vs[i]?=some y):Good C o a w X ρ h y h:=by
 have e1:=dM hs hf x;rw[hx]at e1;obtain⟨us,e2,e3,e4⟩:=e1.Rn;have du:i<us.size:=by have:=(Za.1 hy).1;omega
 refine cN hs (v:=us.getD i undef) ?_ (e4 i y hy);simp[execOp,dq,Instr.extract,e2,du]
def JU(hs:ia C.G w X ρ h)(hf:RF w (dZ X ρ h) ρ h.length a.tmps fr){f:FuncId}{first nM:Array Operand}(dq:o.op= .makeFunc (.func f) first nM)(h0:first.isEmpty=true):
 Good C o a w X ρ h (.fn f (nM.toList.map (ev C fr))) h:=by
 have:first= #[]:=by simpa using h0
 subst this;refine cN hs (v:= .func (.func f) #[] (nM.map a.eval)) ?_ ?_
 .simp[execOp,dq,Instr.makeFunc]
 .refine .fn f _ _ (by simp) λk x hk=>?_
  simp only[Zs,Ze]at hk;obtain⟨y,hy,rfl⟩:=hk;have Ny:nM[k]?=some y:=by simpa using hy
  have:=dM hs hf y;simpa[Ny]using this
def adN(hs:ia C.G w X ρ h)(hf:RF w (dZ X ρ h) ρ h.length a.tmps fr){x:Operand}{t:TypeId}{args:Array Operand}{wO:Array TypeId}(dq:o.op= .call {callee:= .builtin .len,args:=args,argTypes:=wO})(ha:args.toList=[x])(ht:wO.toList=[t]){i:Ti}(hi:ir C.P t=some i){sz tM:Nat}{ag:Bool}{ez:List Value}(hk:i.kd= .slice sz ag tM ez){n:Nat}(hn:tD (ev C fr x)=some n):Good C o a w X ρ h (.sc (.int .i64 n)) h:=by
 obtain⟨d,info,z,h1,h2,h3,h4,h5,h6,h7,h8,h9⟩:=eX hi;rw[hk]at h4;obtain⟨e,ei,ed,Nw,rfl,_⟩:=gX h4;obtain⟨args⟩:=args;obtain⟨wO⟩:=wO;simp only at ha ht;subst ha ht;have e1:=dM hs hf x;have hval:∃b cap,a.eval x= .slice b n cap:=by
  cases hx:ev C fr x<;>rw[hx]at e1 hn<;>simp[tD]at hn
  .rcases e1.mg.iR with⟨rfl,b,cap,hq,_⟩|⟨b,o',cap,us,cV,t0,fz,hq,_⟩
   .exact⟨b,cap,by rw[hq,<-hn];rfl⟩
   .exact⟨_,cap,by rw[hq,hn]⟩
  .obtain⟨cap,_,_,_,e2,_⟩:=e1.kr;exact⟨_,cap,by rw[e2,hn]⟩
 obtain⟨b,cap,hq⟩:=hval;refine cN hs (v:= .int .i64 n) ?_ (.im (.sc _ rfl));simp[execOp,dq,resolve,invoke,builtin,Builtin.len_,hq,run_underlying h1,goInt]
end ops
end Go.Ae
