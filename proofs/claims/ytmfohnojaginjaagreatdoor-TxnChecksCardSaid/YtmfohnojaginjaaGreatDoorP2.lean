/- Part of the proof. -/
import Derived.Test.YtmfohnojaginjaaGreatDoorP1
import Derived.IntWalk
import Derived.Laws.Strings
set_option linter.all false
namespace Go.Ae
open Go
section inv
variable {w : World} {X : Nat -> Prop} {ρ : Nat -> Nat} {n : Nat} {v : Value}
def Rp.dH{u:Value}(h:Rp w X ρ n v (.sc u)):v=u/\kQ u=true:=by
 cases h with
 |im h=>cases h with
  |sc _ hf=>exact⟨rfl,hf⟩
def Rp.nk{id off:Nat}(h:Rp w X ρ n v (.pt id off)):v= .pointer (some ⟨ρ id,off,none⟩)/\id<n:=by
 cases h with
 |im h=>cases h
 |pt _ _ hl=>exact⟨rfl,hl⟩
def Rp.BI{row:List AV}{j:Nat}(h:Rp w X ρ n v (.rp row j)):Ri w X v (.rp row j):=by
 cases h with
 |im h=>exact h
def Rp.my{sz:Nat}{cg:List (List AV)}{z:Bool}(h:Rp w X ρ n v (.ls sz cg z)):Ri w X v (.ls sz cg z):=by
 cases h with
 |im h=>exact h
def Rp.jT{id sz off len:Nat}{k:Bool}(h:Rp w X ρ n v (.sl id sz off len k)):∃cap cF t fz,v= .slice (some ⟨ρ id,off,none⟩) len cap/\id<n/\w.heap[ρ id]?=some (Obj.cells cF t fz)/\off+cap*sz<=cF.size/\(k=true->cap=len)/\(k=false->off+cap*sz=cF.size)/\len<=cap/\cap<=maxLen:=by
 cases h with
 |im h=>cases h
 |sl _ _ _ _ cap _ cF t fz h1 h2 h3 h4 h5 h6 h7=>exact⟨cap,cF,t,fz,rfl,h1,h2,h3,h4,h5,h6,h7⟩
def Rp.FD{id:Nat}(h:Rp w X ρ n v (.mp id)):v= .map (some (ρ id))/\id<n:=by
 cases h with
 |im h=>cases h
 |mp _ hl=>exact⟨rfl,hl⟩
def Rp.adf{u:Value}(h:Rp w X ρ n v (.pn u)):False:=by
 cases h with
 |im h=>cases h
def Rp.adg(h:Rp w X ρ n v .un):v=undef:=by
 cases h with
 |im h=>cases h with
  |un=>rfl
def Rp.wq{f:FuncId}{xs:List AV}(h:Rp w X ρ n v (.fn f xs)):∃us:Array Value,v= .func (.func f) #[] us/\us.size=xs.length/\∀k x,xs[k]?=some x->Rp w X ρ n (us.getD k undef) x:=by
 cases h with
 |im h=>cases h with
  |fn _ us _ h1 h2=>exact⟨us,rfl,h1,λk x hk=> .im (h2 k x hk)⟩
 |fn _ us _ h1 h2=>exact⟨us,rfl,h1,h2⟩
def Rp.yC{xs:List AV}(h:Rp w X ρ n v (.ag xs)):∃us:Array Value,v= .agg us/\us.size=xs.length/\(∀k,k<us.size->(us.getD k undef).oneCell'=true)/\∀k x,xs[k]?=some x->Rp w X ρ n (us.getD k undef) x:=by
 cases h with
 |im h=>cases h with
  |ag us _ h1 h2 h3=>exact⟨us,rfl,h1,h2,λk x hk=> .im (h3 k x hk)⟩
 |ag us _ h1 h2 h3=>exact⟨us,rfl,h1,h2,h3⟩
def Rp.T0{xs:List AV}(h:Rp w X ρ n v (.tp xs)):∃us:Array Value,v= .tuple us/\us.size=xs.length/\∀k x,xs[k]?=some x->Rp w X ρ n (us.getD k undef) x:=by
 cases h with
 |im h=>cases h with
  |tp us _ h1 h2=>exact⟨us,rfl,h1,λk x hk=> .im (h2 k x hk)⟩
 |tp us _ h1 h2=>exact⟨us,rfl,h1,h2⟩
def Ri.iu{sz:Nat}{cg:List (List AV)}{z:Bool}(h:Ri w X v (.ls sz cg z)):
 (cg=[]/\∃a cap,v= .slice a 0 cap/\cap<=maxLen/\(z=true->cap=0))\/
 ∃(b o cap:Nat)(us:Nat->Nat->Value)(cF:Array Value)(t:TypeId)(fz:Nat × Nat),v= .slice (some ⟨b,o,none⟩) cg.length cap/\¬X b/\w.heap[b]?=some (Obj.cells cF t fz)/\cg.length<=cap/\cap<=maxLen/\(z=true->cap=cg.length)/\
  (∀(i:Nat)(row:List AV),cg[i]?=some row->row.length=sz)/\
  (∀(i:Nat)(row:List AV)(j:Nat)(x:AV),cg[i]?=some row->row[j]?=some x->cF[o+i*sz+j]?=some (us i j)/\Value.oneCell' (us i j)=true/\Ri w X (us i j) x):=by
 cases h with
 |le a cap _ _ h1 h2=>exact .inl ⟨rfl,a,cap,rfl,h1,h2⟩
 |ls b o len cap _ _ _ us cF t fz h1 h2 h3 h4 h5 h6 h7 h8 h9=>
  subst h3;exact .inr ⟨b,o,cap,us,cF,t,fz,rfl,h1,h2,h4,h5,h6,h7,λi row j x hr hx=>⟨(h8 i row j x hr hx).1,(h8 i row j x hr hx).2,h9 i row j x hr hx⟩⟩
def oC{v:Value}(h:kQ v=true):v.oneCell'=true:=by
 cases v<;>simp_all [kQ,Value.oneCell']
def wu{v:Value}(h:kQ v=true):v.cells= #[v]:=by
 cases v<;>first|rfl|simp[kQ]at h
def Rp.Az{x:AV}{xs:List AV}(h:Rp w X ρ n v x)(hc:cls x=some xs):v.cells.size=xs.length/\(∀k,k<v.cells.size->(v.cells.getD k undef).oneCell'=true)/\∀k y,xs[k]?=some y->Rp w X ρ n (v.cells.getD k undef) y:=by
 have single:∀{x:AV},Rp w X ρ n v x->v.cells= #[v]->v.oneCell'=true->xs=[x]->v.cells.size=xs.length/\(∀k,k<v.cells.size->(v.cells.getD k undef).oneCell'=true)/\∀k y,xs[k]?=some y->Rp w X ρ n (v.cells.getD k undef) y:=by
  intro x h e1 e2 e3;subst e3;rw[e1];refine⟨rfl,λk hk=>?_,λk y hy=>?_⟩
  .have:k=0:=by simpa using hk
   subst this;simpa using e2
  .cases k with
   |zero=>simp at hy;subst hy;simpa using h
   |succ k=>simp at hy
 cases x with
 |ag ys=>
  simp[cls]at hc;subst hc;obtain⟨us,rfl,h1,h2,h3⟩:=h.yC;exact⟨h1,h2,h3⟩
 |ud=>simp[cls]at hc
 |un=>simp[cls]at hc
 |tp ys=>simp[cls]at hc
 |sc u=>
  simp[cls]at hc;obtain⟨rfl,hf⟩:=h.dH;exact single h (wu hf) (oC hf) hc.symm
 |ls sz cg z=>
  simp[cls]at hc;have h':=h.my;cases h'<;>exact single h rfl rfl hc.symm
 |pn u=>simp[cls]at hc
 |sl id sz off len k=>
  simp[cls]at hc;obtain⟨cap,cF,t,fz,rfl,_⟩:=h.jT;exact single h rfl rfl hc.symm
 |pt id off=>
  simp[cls]at hc;obtain⟨rfl,_⟩:=h.nk;exact single h rfl rfl hc.symm
 |rp row j=>
  simp[cls]at hc;have h':=h.BI;cases h';exact single h rfl rfl hc.symm
 |fn f ys=>
  simp[cls]at hc;obtain⟨us,rfl,_⟩:=h.wq;exact single h rfl rfl hc.symm
 |mp id=>
  simp[cls]at hc;cases h with
  |im h=>cases h
  |mp _ _=>exact single (.mp id (by assumption)) rfl rfl hc.symm
 |
  oc=>
  simp[cls]at hc;cases h with
  |im h=>cases h with
   |oc _ h1=>exact single (.im (.oc v h1)) (by cases v<;>first|rfl|simp[Value.oneCell']at h1) h1 hc.symm
end inv
def HZ{P:Program}{α:Type}{s:Sem α}{a:α}(h:eQ P s=some a)(w:World):s.run P w= .ok a w:=by
 induction s with
 |pure b=>simp[eQ]at h;subst h;rfl
 |program k ih=>simp only[eQ]at h;simp only[Sem.run];exact ih P h
 |mark m k ih=>simp only[eQ]at h;simp only[Sem.run];exact ih h
 |_=>simp[eQ]at h
def BJ{w:World}{X:Nat->Prop}{ρ:Nat->Nat}{n:Nat}(v:Value):Rp w X ρ n v (ofConst v):=by
 unfold ofConst;split
 .rename_i cs;split
  .rename_i dN;refine .ag cs _ (by simp) (λk hk=>oC ?_) λk x hk=>?_
   .have:cs.toList.all kQ=true:=dN;rw[Yt]at this;simpa[hk]using this (cs[k]) (by simp)
   .simp only[Zs,Ze]at hk;obtain⟨u,hu,rfl⟩:=hk;have hm:u∈cs.toList:=Zi hu;rw[Yt]at dN;have:cs.getD k undef=u:=by simp at hu;simp[hu]
    rw[this];exact .im (.sc u (dN u hm))
  .exact .im (.ud _)
 .split
  .exact .im (.sc _ (by assumption))
  .exact .im (.ud _)
def dA{C:Cx}{w:World}{X:Nat->Prop}{ρ:Nat->Nat}{h:Hp}(hs:gf C.G w X ρ h){a:Act}{fr:List AV}(hf:RF w (dK X ρ h) ρ h.length a.tmps fr)(x:Operand):
 Rp w (dK X ρ h) ρ h.length (a.eval x) (ev C fr x):=by
 cases x with
 |tmp t=>
  simp only[ev,Act.eval];cases ht:fr[t]? with
  |some y=>have:=hf.2 t y ht;simpa[List.getD,ht]using this
  |none=>simp[List.getD,ht];exact .im (.ud _)
 |const v=>exact BJ v
 |func f=>exact .fn f #[] [] rfl (by simp)
 |global g=>
  simp only[ev,Act.eval];cases hg:C.G g with
  |none=>exact .im (.ud _)
  |some row=>
   obtain⟨h1,cF,t,fz,h2,_,h3⟩:=hs.s8 g row hg;have:Ri w (dK X ρ h) (.pointer (some ⟨g,0+0,none⟩)) (.rp (row.map gav) 0):=by
    refine .rp g 0 0 _ (λk=>(cF[k]?).getD undef) cF t fz h1 h2 ?_ ?_
    .intro k x hk;simp only[Zs,Ze]at hk;obtain⟨u,hu,rfl⟩:=hk;obtain⟨u',e1,e2,_⟩:=h3 k u hu;simp[e1,e2]
    .intro k x hk;simp only[Zs,Ze]at hk;obtain⟨u,hu,rfl⟩:=hk;obtain⟨u',e1,_,e3⟩:=h3 k u hu;simpa[e1]using acL e3
   exact .im this
def dG{P:Program}{t:TypeId}{i:Ti}(h:eH P t=some i):∃d info z,P.underlying t=some d/\P.info? t=some info/\info.zero=some z/\G3 P d=some i.kd/\
 i.size=info.size/\i.agg=sM d/\i.zero=z.cells.toList/\(∀u∈z.cells.toList,kQ u=true)/\z.cells.size=info.size:=by
 unfold eH at h;split at h
 .rename_i d info hd hi;split at h
  .rename_i z kd hz hk;split at h
   .rename_i hc;simp only[Zc]at h;subst h;simp only[Zh,Yt,beq_iff_eq]at hc;exact⟨d,info,z,hd,hi,hz,hk,rfl,rfl,rfl,hc.1,hc.2⟩
   .cases h
  .cases h
 .cases h
def ec{P:Program}{d:TypeDesc}{sz bytes:Nat}{agg:Bool}{ez:List Value}(h:G3 P d=some (.slice sz agg bytes ez)):
 ∃e ei ed z,d= .slice e/\P.info? e=some ei/\P.underlying e=some ed/\ei.zero=some z/\sz=ei.size/\agg=sM ed/\bytes=ei.bytes/\ez=z.cells.toList/\(∀u∈z.cells.toList,kQ u=true)/\z.cells.size=ei.size/\0<sz:=by
 unfold G3 at h;split at h
 .simp at h
 .rename_i e;split at h
  .rename_i ei ed hi hu;split at h
   .rename_i z hz;split at h
    .rename_i hc;simp only[Zc,Kd.slice.injEq]at h;simp only[Zh,Yt,beq_iff_eq,bne_iff_ne]at hc;exact⟨e,ei,ed,z,rfl,hi,hu,hz,h.1.symm,h.2.1.symm,h.2.2.1.symm,h.2.2.2.symm,hc.1.1,hc.1.2,by have:=hc.2;omega⟩
    .cases h
   .cases h
  .cases h
 .split at h<;>simp at h
 .simp at h
def wv{P:Program}{d:TypeDesc}{n sz:Nat}{agg:Bool}(h:G3 P d=some (.array n sz agg)):
 ∃e ei ed,d= .array n e/\P.info? e=some ei/\P.underlying e=some ed/\sz=ei.size/\agg=sM ed:=by
 unfold G3 at h;split at h
 .simp at h
 .split at h
  .split at h
   .split at h<;>simp at h
   .cases h
  .cases h
 .rename_i m e;split at h
  .rename_i ei ed hi hu;simp only[Zc,Kd.array.injEq]at h;obtain⟨rfl,rfl,rfl⟩:=h;exact⟨e,ei,ed,rfl,hi,hu,rfl,rfl⟩
  .cases h
 .simp at h
def iP{α β:Type}{f:α->Option β}:∀{l:List α}{m:List β},l.mapM f=some m->m.length=l.length/\∀(k:Nat)(a:α),l[k]?=some a->∃b,m[k]?=some b/\f a=some b
 | [],m,h=>by simp at h;subst h;simp
 |
  a::l,m,h=>by
  simp only[Zo,Option.bind_eq_bind,Yj,Option.pure_def,Zc]at h;obtain⟨b,hb,m',hm,rfl⟩:=h;obtain⟨h1,h2⟩:=iP hm;refine⟨by simp[h1],λk x hk=>?_⟩;cases k with
  |zero=>simp at hk;subst hk;exact⟨b,rfl,hb⟩
  |succ k=>simp at hk;simpa using h2 k x hk
def tQ{P:Program}{d:TypeDesc}{l:List (Nat × Nat × Bool)}(h:G3 P d=some (.struct l)):
 ∃fs:Array Field,d= .struct fs/\l.length=fs.size/\∀(k:Nat)(f:Field),fs[k]?=some f->∃fi fd,P.info? f.type=some fi/\P.underlying f.type=some fd/\l[k]?=some (f.offset,fi.size,sM fd):=by
 unfold G3 at h;split at h
 .rename_i fs;simp only[Ze,Kd.struct.injEq]at h;obtain⟨l',hl,rfl⟩:=h;obtain⟨h1,h2⟩:=iP hl;refine⟨fs,rfl,by simpa using h1,λk f hk=>?_⟩;obtain⟨b,hb,hf⟩:=h2 k f (by simpa using hk);split at hf
  .rename_i fi fd hi hu;simp only[Zc]at hf;exact⟨fi,fd,hi,hu,by rw[hb,<-hf]⟩
  .cases hf
 .split at h
  .split at h
   .split at h<;>simp at h
   .cases h
  .cases h
 .split at h<;>simp at h
 .simp at h
def uM{P:Program}{t:TypeId}{d:TypeDesc}(h:P.underlying t=some d)(w:World):(isAgg t).run P w= .ok (sM d) w:=by
 unfold isAgg;simp only[Sem.run_bind,run_underlying h,Result.andThen_ok];cases d<;>simp[sM]
def dY{P:Program}{t:TypeId}{i:TypeInfo}(h:P.info? t=some i)(w:World):(sizeOf t).run P w= .ok i.size w:=by
 simp[sizeOf,typeInfo,h]
def oD{P:Program}{t:TypeId}{i:TypeInfo}{z:Value}(h:P.info? t=some i)(hz:i.zero=some z)(w:World):(zeroValue t).run P w= .ok z w:=by
 simp[zeroValue,typeInfo,h,hz]
def add_lit(b o j:Nat):(⟨b,o,none⟩:Addr).add j=⟨b,o+j,none⟩:=by
 unfold Addr.add;split<;>simp_all
def jD{w:World}{b:Nat}{cF:Array Value}{t:TypeId}{fz:Nat × Nat}(h:w.heap[b]?=some (.cells cF t fz))(o:Nat):w.cell? ⟨b,o,none⟩=cF[o]?:=by
 simp[World.cell?,h]
def BK{P:Program}{w:World}{X:Nat->Prop}{ρ:Nat->Nat}{n:Nat}{t:TypeId}{d:TypeDesc}{info:TypeInfo}(h1:P.underlying t=some d)(h2:P.info? t=some info){b o off:Nat}{cF:Array Value}{t0:TypeId}{fz:Nat × Nat}(hb:w.heap[b]?=some (.cells cF t0 fz)){cs:List AV}{us:Nat->Value}(hc:∀k x,cs[k]?=some x->cF[o+k]?=some (us k)/\(us k).oneCell'=true/\Rp w X ρ n (us k) x){y:AV}(hp:part (sM d) off info.size cs=some y):∃v,(loadVar t ⟨b,o+off,none⟩).run P w= .ok v w/\Rp w X ρ n v y:=by
 unfold part at hp;cases ha:sM d with
 |
  true=>
  simp only[ha,if_true]at hp;split at hp
  .rename_i da;simp only[Zc]at hp;subst hp;have hl:=run_loadCells (P:=P) w ⟨b,o+off,none⟩ info.size (λj=>us (off+j)) (λj hj=>by
    have hk:off+j<cs.length:=by omega
    rw[add_lit,jD hb,Nat.add_assoc];exact(hc (off+j) _ (Zb hk)).1)
   refine⟨.agg ((List.range info.size).map λj=>us (off+j)).toArray,?_,?_⟩
   .simp[loadVar,uM h1,ha,dY h2,hl]
   .refine .ag _ _ (by simp;omega) (λk hk=>?_) λk x hk=>?_
    .simp at hk;have lk:off+k<cs.length:=by omega
     simpa[hk]using(hc (off+k) _ (Zb lk)).2.1
    .rw[Xn]at hk;split at hk
     .rename_i dm;rw[Xo]at hk;have:k<info.size:=by omega
      simpa[this]using(hc (off+k) x hk).2.2
     .cases hk
  .cases hp
 |
  false=>
  simp only[ha]at hp;have MX:cs[off]?=some y:=by simpa using hp
  have hh:=hc off y MX;refine⟨us off,?_,hh.2.2⟩;have dX:w.cell? ⟨b,o+off,none⟩=some (us off):=by rw[jD hb];exact hh.1
  simp[loadVar,uM h1,ha,dX]
def DZ{P:Program}{w:World}{X:Nat->Prop}{ρ:Nat->Nat}{n:Nat}{t:TypeId}{i:Ti}(hi:eH P t=some i){b o off:Nat}{cF:Array Value}{t0:TypeId}{fz:Nat × Nat}(hb:w.heap[b]?=some (.cells cF t0 fz)){cs:List AV}{us:Nat->Value}(hc:∀k x,cs[k]?=some x->cF[o+k]?=some (us k)/\(us k).oneCell'=true/\Rp w X ρ n (us k) x){y:AV}(hp:part i.agg off i.size cs=some y):∃v,(loadVar t ⟨b,o+off,none⟩).run P w= .ok v w/\Rp w X ρ n v y:=by
 obtain⟨d,info,z,h1,h2,h3,h4,h5,h6,h7,h8,h9⟩:=dG hi;rw[h5,h6]at hp;exact BK h1 h2 hb hc hp
def gf.cells{G:Nat->Option (List Value)}{w:World}{X:Nat->Prop}{ρ:Nat->Nat}{h:Hp}(hs:gf G w X ρ h){id:Nat}{cs:List AV}(cZ:rowOf h id=some cs):
 ∃(cF:Array Value)(t:TypeId)(fz:Nat × Nat)(us:Nat->Value),w.heap[ρ id]?=some (.cells cF t fz)/\∀k x,cs[k]?=some x->cF[k]?=some (us k)/\(us k).oneCell'=true/\Rp w (dK X ρ h) ρ h.length (us k) x:=by
 unfold rowOf at cZ;split at cZ
 .rename_i cs' hi;cases cZ;obtain⟨cF,t,fz,us,h1,_,_,h3⟩:=hs.row id _ hi;exact⟨cF,t,fz,us,h1,h3⟩
 .rename_i cs' hi;cases cZ;obtain⟨cF,t,fz,us,h1,h3⟩:=hs.y6 id _ hi;exact⟨cF,t,fz,us,h1,λk x hk=>⟨(h3 k x hk).1,(h3 k x hk).2.1,.im (h3 k x hk).2.2⟩⟩
 .rename_i cs' hi;cases cZ;obtain⟨cF,t,fz,us,h1,_,_,h3⟩:=hs.y6 id _ hi;exact⟨cF,t,fz,us,h1,h3⟩
 .cases cZ
def qC{h:Hp}{id:Nat}{cs:List AV}(cZ:h[id]?=some (.row cs)):rowOf h id=some cs:=by
 unfold rowOf;rw[cZ]
def Good(C:Cx)(o:Oper)(a:Act)(w:World)(X:Nat->Prop)(ρ:Nat->Nat)(h:Hp)(r:AV)(h':Hp):Prop:=
 ∀(K:Act->World->Prop)(Q:Exit->Act->World->Prop),
  (∀v w' ρ',Ext C.G w X ρ h w' ρ' h'->Rp w' (dK X ρ' h') ρ' h'.length v r->K (a.put o.dst v) w')->
  (∀u w' ρ',r= .pn u->Ext C.G w X ρ h w' ρ' h'->Q (.panic [{v:=u,recovered:=false}]) a w')->o.wp C.P a w K Q
section good
variable {C : Cx} {o : Oper} {a : Act} {w : World} {X : Nat -> Prop} {ρ : Nat -> Nat} {h : Hp}
def dW{w':World}{ρ':Nat->Nat}{h':Hp}{v:Value}{r:AV}(hr:(execOp a.eval o).run C.P w= .ok (.value v) w')(he:Ext C.G w X ρ h w' ρ' h')(hv:Rp w' (dK X ρ' h') ρ' h'.length v r):Good C o a w X ρ h r h':=by
 intro K Q hK _;unfold Oper.wp;rw[hr,Oper.upon_value];exact hK v w' ρ' he hv
def uN{w':World}{ρ':Nat->Nat}{h':Hp}(hr:(execOp a.eval o).run C.P w= .ok .skip w')(he:Ext C.G w X ρ h w' ρ' h'):Good C o a w X ρ h .un h':=by
 intro K Q hK _;unfold Oper.wp;rw[hr,Oper.upon_skip];exact hK undef w' ρ' he (.im .un)
def cK(hs:gf C.G w X ρ h){v:Value}{r:AV}(hr:(execOp a.eval o).run C.P w= .ok (.value v) w)(hv:Rp w (dK X ρ h) ρ h.length v r):Good C o a w X ρ h r h:=
 dW hr (Ext.refl hs) hv
end good
def ZA{w:World}{X:Nat->Prop}{ρ:Nat->Nat}{n:Nat}{v:Value}{x:AV}(h:Rp w X ρ n v x)(hd:y7 x=true):v=vA x:=by
 cases x with
 |sc u=>exact h.dH.1
 |ag xs=>
  obtain⟨us,rfl,h1,h2,h3⟩:=h.yC;simp only[y7,Yt]at hd;simp only[vA]
  congr 1
  apply Array.ext
  .simpa using h1
  .intro i hi p8;have hl:i<xs.length:=by simpa using p8
   have h4:=h3 i _ (Zb hl);have h5:=hd xs[i] (List.getElem_mem hl);cases hx:xs[i]with
   |sc u=>
    rw[hx]at h4;have:=h4.dH.1;simp only[hi,Zr,Xl,Xm]at this;simp[hx,acM,this]
   |_=>rw[hx]at h5;simp[X0]at h5
 |fn f xs=>
  cases xs with
  |cons y ys=>simp[y7]at hd
  |
   nil=>
   obtain⟨us,rfl,h1,_⟩:=h.wq;have:us= #[]:=Array.eq_empty_of_size_eq_zero (by simpa using h1);rw[this];rfl
 |_=>simp[y7]at hd
def H0{w:World}{X:Nat->Prop}{vs:Array Value}(dN:vs.toList.all kQ=true):vs.size=(vs.toList.map AV.sc).length/\(∀k,k<vs.size->(vs.getD k undef).oneCell'=true)/\∀(k:Nat)(x:AV),(vs.toList.map AV.sc)[k]?=some x->Ri w X (vs.getD k undef) x:=by
 rw[Yt]at dN;refine⟨by simp,λk hk=>oC (dN _ ?_),λk x hk=>?_⟩
 .have:vs.getD k undef=vs[k]:=by simp[hk]
  rw[this];exact Array.getElem_mem_toList hk
 .simp only[Zs,Ze]at hk;obtain⟨u,hu,rfl⟩:=hk;have:vs.getD k undef=u:=by simp at hu;simp[hu]
  rw[this];exact .sc u (dN u (Zi hu))
def mA(k:IntKind)(n:Int):cS k n=k.wrap n:=by
 unfold cS;split
 .split
  .rename_i h;exact(IntWalk.i64_in n (by omega)).symm
  .rfl
 .split
  .rename_i h;simp only[IntKind.wrap,IntKind.signed,IntKind.bits,Xi,Ys,if_false];omega
  .rfl
 .rfl
def rS{a:Int}(h0:0<=a)(h1:a<=18446744073709551615):(BitVec.ofInt 64 a).toNat=a.toNat:=by
 rw[BitVec.toNat_ofInt];have:a % ((2^64:Nat):Int)=a:=Int.emod_eq_of_lt h0 (by omega);rw[this]
def wrap_u64{n:Nat}(h:n<18446744073709551616):IntKind.u64.wrap (n:Int)=n:=by
 simp only[IntKind.wrap,IntKind.signed,IntKind.bits,Xi,Ys,if_false];omega
def O_{P:Program}{op:BinOp}{k:IntKind}{a b:Int}{v:Value}(h:y8 op k a b=some v)(t:TypeId)(w:World):(binOp op t (.int k a) (.int k b)).run P w= .ok v w:=by
 unfold y8 at h;cases op<;>simp only[Zc,mA]at h<;>first|contradiction|skip
 case and=>
  split at h
  .rename_i hc;obtain⟨rfl,a0,a1,b0,b1⟩:=hc;simp only[Zc]at h;subst h;have hr:(BitVec.ofInt 64 a &&& BitVec.ofInt 64 b).toNat=a.toNat &&& b.toNat:=by rw[BitVec.toNat_and,rS a0 a1,rS b0 b1]
   have hl:a.toNat &&& b.toNat<18446744073709551616:=by have:=(BitVec.ofInt 64 a &&& BitVec.ofInt 64 b).isLt;rw[hr]at this;exact this
   show Result.ok (Value.int IntKind.u64 (IntKind.u64.wrap ((BitVec.ofInt 64 a &&& BitVec.ofInt 64 b).toNat:Int))) w=_;rw[hr,wrap_u64 hl]
  .cases h
 case or=>
  split at h
  .rename_i hc;obtain⟨rfl,a0,a1,b0,b1⟩:=hc;simp only[Zc]at h;subst h;have hr:(BitVec.ofInt 64 a|||BitVec.ofInt 64 b).toNat=a.toNat|||b.toNat:=by rw[BitVec.toNat_or,rS a0 a1,rS b0 b1]
   have hl:a.toNat|||b.toNat<18446744073709551616:=by have:=(BitVec.ofInt 64 a|||BitVec.ofInt 64 b).isLt;rw[hr]at this;exact this
   show Result.ok (Value.int IntKind.u64 (IntKind.u64.wrap ((BitVec.ofInt 64 a|||BitVec.ofInt 64 b).toNat:Int))) w=_;rw[hr,wrap_u64 hl]
  .cases h
 all_goals first
  |(
   split at h
   .cases h
   .rename_i hb;simp only[Zc]at h;subst h;simp[binOp,Op.intDiv,hb])
  |(subst h;simp[binOp,Op.intArith,Op.intCmp];done)
  |(subst h;simp[binOp,Op.intCmp];rfl)
def K5{op:BinOp}{k:IntKind}{a b:Int}{v:Value}(hv:y8 op k a b=some v):kQ v=true:=by
 unfold y8 at hv;cases op<;>simp only[Zc]at hv<;>first|contradiction|(subst hv;rfl)|(split at hv<;>first|contradiction|(simp only[Zc]at hv;subst hv;rfl))
def H3{P:Program}{op:BinOp}{k k':IntKind}{a b:Int}{v:Value}(h:Ai op k a k' b=some v)(t:TypeId)(w:World):(binOp op t (.int k a) (.int k' b)).run P w= .ok v w/\kQ v=true:=by
 unfold Ai at h;split at h
 .split at h
  .rename_i hc;simp only[Zc]at h;subst h;refine⟨?_,rfl⟩;have hn:¬b<0:=by omega
   have hm:min b.toNat k.bits=b.toNat:=by omega
   have hd:a.fdiv (2^b.toNat)=a/((2^b.toNat:Nat):Int):=by
    rw[Int.fdiv_eq_ediv_of_nonneg a (Int.pow_nonneg (by decide))]
    congr 1
   simp only[binOp,Op.shift,hn,if_false,hm,hd,Sem.run_pure]
  .cases h
 .split at h
  .rename_i hk;subst hk;exact⟨O_ h t w,K5 h⟩
  .cases h
def Pa{P:Program}{op:BinOp}{a b:ByteArray}{v:Value}(h:GZ op a b=some v)(t:TypeId)(w:World):(binOp op t (.string a) (.string b)).run P w= .ok v w:=by
 unfold GZ at h;cases op
 case add=>
  simp only at h;split at h
  .rename_i hc;simp only[Zc]at h;subst h;have e:¬((a.size+b.size:Nat):Int)>IntKind.i64.max:=by
    show¬((a.size+b.size:Nat):Int)>9223372036854775807;omega
   simp only[binOp,Op.stringOp,cm e];rfl
  .cases h
 all_goals (simp only[Zc]at h)
 all_goals first|contradiction|skip
 all_goals (subst h;simp[binOp,Op.stringOp,fm,nC,ByteArray.toList_eq])
def Pb{C:Cx}{w:World}{X:Nat->Prop}{ρ:Nat->Nat}{h:Hp}(hs:gf C.G w X ρ h){a:Act}{fr:List AV}(hf:RF w (dK X ρ h) ρ h.length a.tmps fr){o:Oper}{r:AV}(hr:vQ C (ev C fr) o=some r):Good C o a w X ρ h r h:=by
 unfold vQ at hr;split at hr
 .rename_i op t x y t' dp;split at hr
  .rename_i p q hx hy;have ex:=dA hs hf x;have ey:=dA hs hf y;rw[hx]at ex;rw[hy]at ey;have he:C.P.underlying t=some .bool->(Op.equal t (.bool p) (.bool q)).run C.P w= .ok (p==q) w:=λhu=>by
    show(Op.equalIn (9999+1) t (.bool p) (.bool q)).run C.P w=_;unfold Op.equalIn;simp[run_underlying hu]
   split at hr
   .rename_i hu;simp only[Zc]at hr;subst hr;refine cK hs (v:= .bool (p==q)) ?_ (.im (.sc _ rfl));simp[execOp,dp,ex.dH.1,ey.dH.1,eqGuard,binOp,he hu]
   .rename_i hu;simp only[Zc]at hr;subst hr;refine cK hs (v:= .bool (p !=q)) ?_ (.im (.sc _ rfl));simp[execOp,dp,ex.dH.1,ey.dH.1,eqGuard,binOp,he hu,bne]
   .cases hr
  .rename_i k n k' m hx hy;simp only[Ze]at hr;obtain⟨v,hv,rfl⟩:=hr;have ex:=dA hs hf x;have ey:=dA hs hf y;rw[hx]at ex;rw[hy]at ey;obtain⟨this,CR⟩:=H3 (P:=C.P) hv t w;refine cK hs (v:=v) ?_ (.im (.sc _ CR));simp only[execOp,dp,ex.dH.1,ey.dH.1,eqGuard];cases op<;>simp[this]
  .rename_i s1 s2 hx hy;simp only[Ze]at hr;obtain⟨v,hv,rfl⟩:=hr;have ex:=dA hs hf x;have ey:=dA hs hf y;rw[hx]at ex;rw[hy]at ey;refine cK hs (v:=v) ?_ (.im (.sc _ ?_))
   .have:=Pa (P:=C.P) hv t w;simp only[execOp,dp,ex.dH.1,ey.dH.1,eqGuard];cases op<;>simp[this]
   .unfold GZ at hv;cases op
    case add=>
     simp only at hv;split at hv
     .cases hv;rfl
     .cases hv
    all_goals (simp only[Zc]at hv)
    all_goals first|contradiction|(subst hv;rfl)
  .cases hr
 .rename_i t x dp;split at hr
  .rename_i b hx;simp only[Zc]at hr;subst hr;have ex:=dA hs hf x;rw[hx]at ex;exact cK hs (v:= .bool !b) (by simp[execOp,dp,ex.dH.1,Op.unary]) (.im (.sc _ rfl))
  .cases hr
 .rename_i t x dp;split at hr
  .rename_i k n hx;simp only[Ze]at hr;obtain⟨v,hv,rfl⟩:=hr;have ex:=dA hs hf x;rw[hx]at ex;simp only[y8,Zc,mA]at hv;subst hv;exact cK hs (by simp[execOp,dp,ex.dH.1,Op.unary,Op.intArith]) (.im (.sc _ rfl))
  .cases hr
 .rename_i src dst x dp;split at hr
  .rename_i k0 n hx;split at hr
   .rename_i k1 k h1 h2;simp only[Zc]at hr;subst hr;have ex:=dA hs hf x;rw[hx]at ex;rw[mA];exact cK hs (v:= .int k (k.wrap n)) (by simp[execOp,dp,ex.dH.1,convert,run_underlying h1,run_underlying h2,Conv.intToInt]) (.im (.sc _ rfl))
   .cases hr
  .cases hr
 .rename_i t x ix dp;split at hr
  .rename_i s k i hx hi;split at hr
   .rename_i hc;simp only[Ze]at hr;obtain⟨b,hb,rfl⟩:=hr;have ex:=dA hs hf x;have ei:=dA hs hf ix;rw[hx]at ex;rw[hi]at ei;have hu:C.P.underlying t=some .string:=by
     have:=hc.1;unfold isStr at this;split at this
     .assumption
     .cases this
    have hg:s[i.toNat]?=some b:=by
     rw[<-hb];show(if h:i.toNat<s.size then some s[i.toNat]else none)=_;split
     .rename_i h;have:i.toNat<s.data.toList.length:=by simpa using h
      rw[Zb this];rfl
     .rename_i h;rw[Xh (by simpa using h)]
    refine cK hs (v:= .int .u8 b.toNat) ?_ (.im (.sc _ rfl));simp[execOp,dp,ex.dH.1,ei.dH.1,Instr.index,asIntOf,run_underlying hu,hc.2,hg]
   .cases hr
  .cases hr
 .rename_i args ya dp;split at hr
  .rename_i x t hl ht;have CU:args= #[x]:=by cases args;simp_all
   have ht':ya= #[t]:=by cases ya;simp_all
   subst CU ht';split at hr
   .rename_i s hx;split at hr
    .rename_i hc;simp only[Zc]at hr;subst hr;have ex:=dA hs hf x;rw[hx]at ex;have hu:C.P.underlying t=some .string:=by
      unfold isStr at hc;split at hc
      .assumption
      .cases hc
     refine cK hs (v:= .int .i64 s.size) ?_ (.im (.sc _ rfl));simp[execOp,dp,resolve,invoke,builtin,Builtin.len_,ex.dH.1,run_underlying hu,goInt]
    .cases hr
   .rename_i hx;split at hr
    .rename_i hc;simp only[Zc]at hr;subst hr;have ex:=dA hs hf x;rw[hx]at ex;obtain⟨el,hu⟩:∃el,C.P.underlying t=some (.slice el):=by
      unfold lf at hc;split at hc
      .rename_i el hu;exact⟨el,hu⟩
      .cases hc
     refine cK hs (v:= .int .i64 0) ?_ (.im (.sc _ rfl));simp[execOp,dp,resolve,invoke,builtin,Builtin.len_,ex.dH.1,run_underlying hu,goInt]
    .cases hr
   .cases hr
  .cases hr
 .rename_i args ya dp;split at hr
  .rename_i x y hl;have CU:args= #[x,y]:=by cases args;simp_all
   subst CU;split at hr
   .rename_i k p k' q hx hy;simp only[Zc]at hr;subst hr;have ex:=dA hs hf x;have ey:=dA hs hf y;rw[hx]at ex;rw[hy]at ey;refine cK hs (v:= .int k (if q>p then q else p)) ?_ (.im (.sc _ rfl));simp[execOp,dp,resolve,invoke,builtin,Builtin.max_,Builtin.max2,ex.dH.1,ey.dH.1]
   .cases hr
  .cases hr
 .rename_i args ya dp;split at hr
  .rename_i x y hl;have CU:args= #[x,y]:=by cases args;simp_all
   subst CU;split at hr
   .rename_i k p k' q hx hy;simp only[Zc]at hr;subst hr;have ex:=dA hs hf x;have ey:=dA hs hf y;rw[hx]at ex;rw[hy]at ey;refine cK hs (v:= .int k (if q<p then q else p)) ?_ (.im (.sc _ rfl));simp[execOp,dp,resolve,invoke,builtin,Builtin.min_,Builtin.min2,ex.dH.1,ey.dH.1]
   .cases hr
  .cases hr
 .cases hr
def Pc{C:Cx}{w:World}{X:Nat->Prop}{ρ:Nat->Nat}{h:Hp}(hs:gf C.G w X ρ h){a:Act}{fr:List AV}(hf:RF w (dK X ρ h) ρ h.length a.tmps fr){o:Oper}{r:AV}(hr:j_ C (ev C fr) o=some r):Good C o a w X ρ h r h:=by
 unfold j_ at hr;split at hr
 .rename_i hc;simp only[Zh,Yt,Xj]at hc;obtain⟨j6,dN⟩:=hc;have he:execOp a.eval o=execOp (λx=>vA (ev C fr x)) o:=
   execOp_congr o (λcs b adh=>by simp[adh,wY]at j6) λx hx=>ZA (dA hs hf x) (dN x (by simpa using hx))
  split at hr
  .rename_i v hv;have jj:=HZ hv w;rw[<-he]at jj;refine cK hs jj ?_;unfold AX at hr;split at hr
   .rename_i vs;split at hr
    .rename_i dN;simp only[Zc]at hr;subst hr;obtain⟨h1,_,h3⟩:=H0 (w:=w) (X:=dK X ρ h) dN;exact .im (.tp vs _ h1 h3)
    .cases hr
   .rename_i vs;split at hr
    .rename_i dN;simp only[Zc]at hr;subst hr;obtain⟨h1,h2,h3⟩:=H0 (w:=w) (X:=dK X ρ h) dN;exact .im (.ag vs _ h1 h2 h3)
    .cases hr
   .split at hr
    .simp only[Zc]at hr;subst hr;exact .im (.sc _ (by assumption))
    .cases hr
  .cases hr
 .cases hr
def H4{C:Cx}{w:World}{X:Nat->Prop}{ρ:Nat->Nat}{h:Hp}(hs:gf C.G w X ρ h){a:Act}{fr:List AV}(hf:RF w (dK X ρ h) ρ h.length a.tmps fr){o:Oper}{r:AV}(hr:gM C (ev C fr) o=some r):Good C o a w X ρ h r h:=by
 unfold gM at hr;split at hr
 .rename_i r' hq;simp only[Zc]at hr;subst hr;exact Pb hs hf hq
 .exact Pc hs hf hr
section ops
variable {C : Cx} {w : World} {X : Nat -> Prop} {ρ : Nat -> Nat} {h : Hp} {a : Act} {fr : List AV} {o : Oper}
def pG(P:Program)(w:World)(ob:Obj):(newObj ob).run P w= .ok w.heap.size (w.alloc ob):=rfl
def mB{n:Nat}{v:Value}{x:AV}{i:Nat}(hv:Rp w X ρ n v x)(hn:jJ x=some i):∃k j,v= .int k j/\0<=j/\j.toNat=i:=by
 unfold jJ at hn;split at hn
 .rename_i k j;split at hn
  .simp only[Zc]at hn;obtain⟨rfl,_⟩:=hv.dH;exact⟨k,j,rfl,by assumption,hn⟩
  .cases hn
 .cases hn
def T3(hs:gf C.G w X ρ h)(hf:RF w (dK X ρ h) ρ h.length a.tmps fr){x:Operand}(dp:o.op= .move x\/o.op= .assign x):Good C o a w X ρ h (ev C fr x) h:=
 cK hs (by rcases dp with dp|dp<;>simp only[execOp,dp,Sem.run_pure]) (dA hs hf x)
def adi(hs:gf C.G w X ρ h)(hf:RF w (dK X ρ h) ρ h.length a.tmps fr){c x y:Operand}(dp:o.op= .pick c x y){t:Bool}(hc:ev C fr c= .sc (.bool t)):
 Good C o a w X ρ h (bif t then ev C fr x else ev C fr y) h:=by
 have h1:=dA hs hf c;rw[hc]at h1;have h2:=h1.dH.1;refine cK (v:=if t then a.eval x else a.eval y) hs ?_ ?_
 .simp only[execOp,dp,h2,asBool,Sem.run_bind,Sem.run_pure,Result.andThen_ok]
 .cases t
  .exact dA hs hf y
  .exact dA hs hf x
def K6(w0:World)(h:Hp)(ρ:Nat->Nat)(w':World)(X':Nat->Prop)(m:Nat)(hm:h.length<m):Rp w' X' (λi=>if i=h.length then w0.heap.size else ρ i) m (.pointer (some ⟨w0.heap.size,0,none⟩)) (.pt h.length 0):=by
 have:=Rp.pt (w:=w') (X:=X') (ρ:=λi=>if i=h.length then w0.heap.size else ρ i) h.length 0 hm;simpa using this
def ZB(hs:gf C.G w X ρ h){t:TypeId}(dp:o.op= .alloc t){i:Ti}(hi:eH C.P t=some i):Good C o a w X ρ h (.pt h.length 0) (h++[.row (i.zero.map .sc)]):=by
 obtain⟨d,info,z,h1,h2,h3,h4,h5,h6,h7,h8,h9⟩:=dG hi;have he:=uw hs z.cells t (i.zero.map .sc) (λk=>z.cells.getD k undef) (by simp[h7]) (λk x hk=>by
  rw[h7]at hk;simp only[Zs,Ze]at hk;obtain⟨u,hu,rfl⟩:=hk;have hm:u∈z.cells.toList:=Zi hu;have hu':z.cells[k]?=some u:=by simpa using hu
  have:z.cells.getD k undef=u:=by simp[hu']
  rw[this];exact⟨hu',oC (h8 u hm),.im (.sc u (h8 u hm))⟩) (0,0) (.inl rfl)
 refine dW (v:= .pointer (some ⟨w.heap.size,0,none⟩)) ?_ he (K6 w h ρ _ _ _ (by simp));simp only[execOp,dp,Instr.alloc,Sem.run_bind,oD h2 h3,Result.andThen_ok,newVar,newRow,pG,Sem.run_pure]
def afL(hs:gf C.G w X ρ h)(hf:RF w (dK X ρ h) ρ h.length a.tmps fr){t:TypeId}{x:Operand}(dp:o.op= .box t x){cs:List AV}(hc:cls (ev C fr x)=some cs):
 Good C o a w X ρ h (.pt h.length 0) (h++[.row cs]):=by
 obtain⟨h1,h2,h3⟩:=(dA hs hf x).Az hc;have he:=uw hs (a.eval x).cells t cs (λk=>(a.eval x).cells.getD k undef) (by omega) (λk y hk=>by
  have dm:k< (a.eval x).cells.size:=by have:=(Za.1 hk).1;omega
  refine⟨?_,h2 k dm,h3 k y hk⟩;simp[dm]) (0,0) (.inl rfl)
 refine dW (v:= .pointer (some ⟨w.heap.size,0,none⟩)) ?_ he (K6 w h ρ _ _ _ (by simp));simp only[execOp,dp,Instr.box,Sem.run_bind,Result.andThen_ok,newVar,newRow,pG,Sem.run_pure]
def adj(hs:gf C.G w X ρ h)(hf:RF w (dK X ρ h) ρ h.length a.tmps fr){t:TypeId}{x:Operand}(dp:o.op= .load t x){i:Ti}(hi:eH C.P t=some i){id off:Nat}{cs:List AV}(hx:ev C fr x= .pt id off)(cZ:rowOf h id=some cs){y:AV}(hp:part i.agg off i.size cs=some y):Good C o a w X ρ h y h:=by
 have h1:=dA hs hf x;rw[hx]at h1;obtain⟨h2,h3⟩:=h1.nk;obtain⟨cF,t0,fz,us,c1,c3⟩:=hs.cells cZ;obtain⟨v,hv,hr⟩:=DZ (ρ:=ρ) (n:=h.length) (X:=dK X ρ h) hi (o:=0) c1 (us:=us) (cs:=cs) (λk x hk=>by simpa using c3 k x hk) hp;refine cK hs (v:=v) ?_ hr;simp only[Xs]at hv;simp only[execOp,dp,Instr.loadAt,Instr.sureAddr,h2,Sem.run_bind,Sem.run_pure,Result.andThen_ok,hv]
def ZC(hs:gf C.G w X ρ h)(hf:RF w (dK X ρ h) ρ h.length a.tmps fr){t:TypeId}{x:Operand}(dp:o.op= .load t x){i:Ti}(hi:eH C.P t=some i){row:List AV}{j:Nat}(hx:ev C fr x= .rp row j){y:AV}(hp:part i.agg j i.size row=some y):Good C o a w X ρ h y h:=by
 have h1:=dA hs hf x;rw[hx]at h1;have h2:=h1.BI;cases hq:a.eval x<;>rw[hq]at h2<;>cases h2;rename_i b o' us cF t0 fz c1 c2 c3 c4;obtain⟨v,hv,hr⟩:=DZ (ρ:=ρ) (n:=h.length) (X:=dK X ρ h) hi (o:=o') c2 (us:=us) (cs:=row) (λk x hk=>⟨(c3 k x hk).1,(c3 k x hk).2,.im (c4 k x hk)⟩) hp;refine cK hs (v:=v) ?_ hr;simp only[execOp,dp,Instr.loadAt,Instr.sureAddr,hq,Sem.run_bind,Sem.run_pure,Result.andThen_ok,hv]
def wy{cs vs:List AV}{off:Nat}(da:off<=cs.length)(k:Nat):(cn cs off vs)[k]?=if off<=k/\k<off+vs.length then vs[k-off]? else cs[k]?:=by
 unfold cn;by_cases h1:k<off
 .rw[cm (by omega),Zp,Zd (by simp;omega),Xn,cq h1]
 .by_cases h2:k<off+vs.length
  .rw[cq (by omega),Zp,Zf (by simp;omega),Zd (by simp;omega)]
   congr 1
   simp;omega
  .rw[cm (by omega),Zf (by simp;omega),Xo]
   congr 1
   simp;omega
def tS{cs vs:List AV}{off:Nat}(da:off<=cs.length):(cn cs off vs).length=max cs.length (off+vs.length):=by
 unfold cn;simp;omega
def jO{cs vs:List AV}{off:Nat}(da:off+vs.length<=cs.length):(cn cs off vs).length=cs.length:=by
 unfold cn;simp;omega
def iQ(P:Program)(g o:Nat)(t:TypeId)(fz:Nat × Nat):∀(vs:List Value)(i:Nat)(cF:Array Value)(w:World),w.heap[g]?=some (.cells cF t fz)->Fw fz cF->o+i+vs.length<=cF.size->(∀v∈vs,v.oneCell'=true)->
 (storeCells ⟨g,o,none⟩ vs i).run P w= .ok () (w.setRow g (cF.toList.take (o+i)++vs++cF.toList.drop (o+i+vs.length)).toArray)
 |
  [],i,cF,w,hg,_,_,_=>by
  simp only[storeCells,Yr,Xq,Nat.add_zero,List.take_append_drop,Array.toArray_toList];rw[setRow_self w g cF t fz hg];rfl
 |
  v::rest,i,cF,w,hg,CX,hl,h1=>by
  have hi:o+i<cF.size:=by simp at hl;omega
  have aiZ:(⟨g,o,none⟩:Addr).add i=⟨g,o+i,none⟩:=by unfold Addr.add;split<;>simp_all
  have dX:w.cell? ⟨g,o+i,none⟩=some cF[o+i]:=by simp[World.cell?,hg,hi]
  have adk:w.frozen? ⟨g,o+i,none⟩=false:=by
   rcases CX with rfl|CX
   .simp[World.frozen?,hg]
   .obtain⟨lo,p8⟩:=fz;simp only[World.frozen?,hg,Bool.and_eq_false_iff,decide_eq_false_iff_not];left;simp only at CX;omega
  have dq:(store ((⟨g,o,none⟩:Addr).add i) v).run P w= .ok () (w.setRow g (cF.setIfInBounds (o+i) v)):=by
   rw[aiZ,run_store P w _ v _ (h1 v (by simp)),dX];simp[adk,setCell_eq_setRow w g (o+i) cF t fz v hg]
  have ih:=iQ P g o t fz rest (i+1) (cF.setIfInBounds (o+i) v) (w.setRow g (cF.setIfInBounds (o+i) v)) (setRow_heap w g cF _ t _ hg) (CX.imp (λq=>q) (λq=>by simpa using q)) (by simp at hl|-;omega) (λx hx=>h1 x (by simp[hx]));simp only[storeCells,Sem.run_bind,dq,Result.andThen_ok,ih,setRow_setRow]
  congr 3
  have e:=list_seg_step cF.toList (o+i) v rest (by simp at hl|-;omega);simpa[Array.toList_setIfInBounds,Nat.add_assoc]using e
def BL(hs:gf C.G w X ρ h){id off:Nat}{cs:List AV}(cZ:h[id]?=some (.row cs)){vs:List AV}(da:off<=cs.length)(oE:∀(cF:Array Value)(t:TypeId)(fz:Nat × Nat),w.heap[ρ id]?=some (.cells cF t fz)->off+vs.length<=cF.size){dj:List Value}(cf:dj.length=vs.length)(mh:∀v∈dj,v.oneCell'=true)(nu:∀(k:Nat)(x:AV),vs[k]?=some x->Rp w (dK X ρ h) ρ h.length (dj.getD k undef) x):
 ∃w',(storeCells ⟨ρ id,off,none⟩ dj).run C.P w= .ok () w'/\Ext C.G w X ρ h w' ρ (h.set id (.row (cn cs off vs))):=by
 obtain⟨cF,t0,fz,us,c1,CX,c2,c3⟩:=hs.row id cs cZ;have hfit':=oE cF t0 fz c1;have dq:=iQ C.P (ρ id) off t0 fz dj 0 cF w c1 (.inl CX.eq) (by omega) mh;refine⟨_,dq,?_⟩;have fX:(cF.toList.take (off+0)++dj++cF.toList.drop (off+0+dj.length)).toArray.size=cF.size:=by simp;omega
 refine Dy (w':=w.setRow (ρ id) (cF.toList.take (off+0)++dj++cF.toList.drop (off+0+dj.length)).toArray) hs id cs cZ cF _ t0 fz CX c1 rfl rfl rfl (by simp[World.setRow]) (setRow_heap w (ρ id) cF _ t0 _ c1) fX (λb hb=>setRow_other w (ρ id) b _ hb) (cn cs off vs)
  (λk=>(cF.toList.take (off+0)++dj++cF.toList.drop (off+0+dj.length)).getD k undef) (by rw[tS da,fX];omega) ?_
 intro k x hk;rw[wy da]at hk;by_cases oZ:off<=k/\k<off+vs.length
 .rw[cq oZ]at hk;have hv:(cF.toList.take (off+0)++dj++cF.toList.drop (off+0+dj.length))[k]?=some (dj.getD (k-off) undef):=by
   rw[Zp,Zf (by simp;omega),Zd (by simp;omega)];have:k-off<dj.length:=by omega
   simp[show min off cF.size=off by omega,List.getD,Zb this]
  have hm:dj.getD (k-off) undef∈dj:=by
   have:k-off<dj.length:=by omega
   simp[List.getD,Zb this]
  refine⟨by rw[Xr];simp only[List.getD,hv,Xm],?_,?_⟩
  .simp only[List.getD,hv,Xm];exact mh _ hm
  .simp only[List.getD,hv,Xm];have:=nu (k-off) x hk;simpa[List.getD]using this
 .rw[cm oZ]at hk;have h3:=c3 k x hk;have hv:(cF.toList.take (off+0)++dj++cF.toList.drop (off+0+dj.length))[k]?=some (us k):=by
   have hck:cF.toList[k]?=some (us k):=by simpa using h3.1
   by_cases h4:k<off
   .rw[Zp,Zd (by simp;omega),Xn,cq (by omega)];exact hck
   .rw[Zf (by simp;omega),Xo,<-hck]
    congr 1
    simp;omega
  refine⟨by rw[Xr];simp only[List.getD,hv,Xm],?_,?_⟩
  .simp only[List.getD,hv,Xm];exact h3.2.1
  .simp only[List.getD,hv,Xm];exact h3.2.2
def qI(hs:gf C.G w X ρ h){id off:Nat}{cs:List AV}(cZ:h[id]?=some (.row cs)){vs:List AV}(da:off+vs.length<=cs.length){dj:List Value}(cf:dj.length=vs.length)(mh:∀v∈dj,v.oneCell'=true)(nu:∀(k:Nat)(x:AV),vs[k]?=some x->Rp w (dK X ρ h) ρ h.length (dj.getD k undef) x):
 ∃w',(storeCells ⟨ρ id,off,none⟩ dj).run C.P w= .ok () w'/\Ext C.G w X ρ h w' ρ (h.set id (.row (cn cs off vs))):=
 BL hs cZ (by omega) (λcF t fz hc=>by
  obtain⟨cur',t',xZ,us,c1,_,c2,c3⟩:=hs.row id cs cZ;rw[hc]at c1;cases c1;omega) cf mh nu
def Pd(hs:gf C.G w X ρ h){id off:Nat}{cs:List AV}(cZ:h[id]?=some (.raw cs)){vs:List AV}(da:off+vs.length<=cs.length){dj:List Value}(cf:dj.length=vs.length)(mh:∀v∈dj,v.oneCell'=true)(nu:∀(k:Nat)(x:AV),vs[k]?=some x->Rp w (dK X ρ h) ρ h.length (dj.getD k undef) x):
 ∃w',(storeCells ⟨ρ id,off,none⟩ dj).run C.P w= .ok () w'/\Ext C.G w X ρ h w' ρ (h.set id (.raw (cn cs off vs))):=by
 obtain⟨cF,t0,fz,us,c1,CX,c2,c3⟩:=hs.y6 id _ cZ;have dq:=iQ C.P (ρ id) off t0 fz dj 0 cF w c1 CX (by omega) mh;refine⟨_,dq,?_⟩;have fX:(cF.toList.take (off+0)++dj++cF.toList.drop (off+0+dj.length)).toArray.size=cF.size:=by simp;omega
 refine qa (w':=w.setRow (ρ id) (cF.toList.take (off+0)++dj++cF.toList.drop (off+0+dj.length)).toArray) hs id (.raw cs) (.raw (cn cs off vs)) cZ rfl rfl rfl rfl rfl (by simp[World.setRow]) (λc t f hc=>by rw[c1]at hc;cases hc;exact⟨_,_,_,setRow_heap w (ρ id) cF _ t0 _ c1,fX⟩) (λb hb=>setRow_other w (ρ id) b _ hb)
  ⟨_,t0,fz,λk=>(cF.toList.take (off+0)++dj++cF.toList.drop (off+0+dj.length)).getD k undef,setRow_heap w (ρ id) cF _ t0 _ c1,CX.imp (λq=>q) (λq=>by rw[fX];exact q),by rw[tS (by omega),fX];omega,?_⟩
 intro k x hk;rw[wy (by omega)]at hk;by_cases oZ:off<=k/\k<off+vs.length
 .rw[cq oZ]at hk;have hv:(cF.toList.take (off+0)++dj++cF.toList.drop (off+0+dj.length))[k]?=some (dj.getD (k-off) undef):=by
   rw[Zp,Zf (by simp;omega),Zd (by simp;omega)];have:k-off<dj.length:=by omega
   simp[show min off cF.size=off by omega,List.getD,Zb this]
  have hm:dj.getD (k-off) undef∈dj:=by
   have:k-off<dj.length:=by omega
   simp[List.getD,Zb this]
  refine⟨by rw[Xr];simp only[List.getD,hv,Xm],?_,?_⟩
  .simp only[List.getD,hv,Xm];exact mh _ hm
  .simp only[List.getD,hv,Xm];have:=nu (k-off) x hk;simpa[List.getD]using this
 .rw[cm oZ]at hk;have h3:=c3 k x hk;have hv:(cF.toList.take (off+0)++dj++cF.toList.drop (off+0+dj.length))[k]?=some (us k):=by
   have hck:cF.toList[k]?=some (us k):=by simpa using h3.1
   by_cases h4:k<off
   .rw[Zp,Zd (by simp;omega),Xn,cq (by omega)];exact hck
   .rw[Zf (by simp;omega),Xo,<-hck]
    congr 1
    simp;omega
  refine⟨by rw[Xr];simp only[List.getD,hv,Xm],?_,?_⟩
  .simp only[List.getD,hv,Xm];exact h3.2.1
  .simp only[List.getD,hv,Xm];exact h3.2.2
def ZD(hs:gf C.G w X ρ h)(hf:RF w (dK X ρ h) ρ h.length a.tmps fr){t:TypeId}{x y:Operand}(dp:o.op= .store t x y){i:Ti}(hi:eH C.P t=some i){id off:Nat}{cs vs:List AV}(hx:ev C fr x= .pt id off)(cZ:h[id]?=some (.row cs))(hv:cls (ev C fr y)=some vs)(hl:vs.length=i.size)(da:off+i.size<=cs.length):
 Good C o a w X ρ h .un (h.set id (.row (cn cs off vs))):=by
 obtain⟨d,info,z,h1,h2,h3,h4,h5,h6,h7,h8,h9⟩:=dG hi;have e1:=dA hs hf x;rw[hx]at e1;obtain⟨e2,e3⟩:=e1.nk;obtain⟨aa,af,ah⟩:=(dA hs hf y).Az hv;obtain⟨w',hw,he⟩:=qI hs cZ (off:=off) (vs:=vs) (by omega) (dj:=(a.eval y).cells.toList) (by simpa using aa) (λv hv=>by
  obtain⟨k,hk,rfl⟩:=List.getElem_of_mem hv;have:=af k (by simpa using hk);simp at hk;simpa[hk]using this) (λk x hk=>by simpa[List.getD]using ah k x hk)
 refine uN ?_ he;have eF:¬(a.eval y).cells.size≠info.size:=by omega
 simp only[execOp,dp,Instr.storeAt,Instr.sureAddr,e2,storeVar,Sem.run_bind,Sem.run_pure,Result.andThen_ok,dY h2,eF,if_false,hw]
def T4(hs:gf C.G w X ρ h)(hf:RF w (dK X ρ h) ρ h.length a.tmps fr){t:TypeId}{x y:Operand}(dp:o.op= .store t x y){i:Ti}(hi:eH C.P t=some i){id off:Nat}{cs vs:List AV}(hx:ev C fr x= .pt id off)(cZ:h[id]?=some (.raw cs))(hv:cls (ev C fr y)=some vs)(hl:vs.length=i.size)(da:off+i.size<=cs.length):
 Good C o a w X ρ h .un (h.set id (.raw (cn cs off vs))):=by
 obtain⟨d,info,z,h1,h2,h3,h4,h5,h6,h7,h8,h9⟩:=dG hi;have e1:=dA hs hf x;rw[hx]at e1;obtain⟨e2,e3⟩:=e1.nk;obtain⟨aa,af,ah⟩:=(dA hs hf y).Az hv;obtain⟨w',hw,he⟩:=Pd hs cZ (off:=off) (vs:=vs) (by omega) (dj:=(a.eval y).cells.toList) (by simpa using aa) (λv hv=>by
  obtain⟨k,hk,rfl⟩:=List.getElem_of_mem hv;have:=af k (by simpa using hk);simp at hk;simpa[hk]using this) (λk x hk=>by simpa[List.getD]using ah k x hk)
 refine uN ?_ he;have eF:¬(a.eval y).cells.size≠info.size:=by omega
 simp only[execOp,dp,Instr.storeAt,Instr.sureAddr,e2,storeVar,Sem.run_bind,Sem.run_pure,Result.andThen_ok,dY h2,eF,if_false,hw]
def T5(hs:gf C.G w X ρ h)(hf:RF w (dK X ρ h) ρ h.length a.tmps fr){x:Operand}(dp:o.op= .nilCheck x)(hx:(∃id off,ev C fr x= .pt id off)\/(∃row j,ev C fr x= .rp row j)\/∃f cs,ev C fr x= .fn f cs):
 Good C o a w X ρ h (ev C fr x) h:=by
 have h1:=dA hs hf x;refine cK hs (v:=a.eval x) ?_ h1;rcases hx with⟨id,off,hx⟩|⟨row,j,hx⟩|⟨f,cs,hx⟩<;>rw[hx]at h1
 .simp only[execOp,dp,h1.nk.1,Sem.run_pure]
 .have h2:=h1.BI;cases hq:a.eval x<;>rw[hq]at h2<;>cases h2;simp only[execOp,dp,hq,Sem.run_pure]
 .obtain⟨us,h2,_⟩:=h1.wq;simp only[execOp,dp,h2,Sem.run_pure]
def MY(hs:gf C.G w X ρ h)(hf:RF w (dK X ρ h) ρ h.length a.tmps fr){t:TypeId}{x:Operand}{f:Nat}(dp:o.op= .fieldAddr t x f){i:Ti}(hi:eH C.P t=some i){fs:List (Nat × Nat × Bool)}(hk:i.kd= .struct fs){of sz:Nat}{ag:Bool}(uC:fs[f]?=some (of,sz,ag))(fX:sz≠0):
 (∀id off,ev C fr x= .pt id off->Good C o a w X ρ h (.pt id (off+of)) h)/\(∀row j,ev C fr x= .rp row j->Good C o a w X ρ h (.rp row (j+of)) h):=by
 obtain⟨d,info,z,h1,h2,h3,h4,h5,h6,h7,h8,h9⟩:=dG hi;rw[hk]at h4;obtain⟨fields,rfl,cf,mC⟩:=tQ h4;have Pe:f<fields.size:=by have:=(Za.1 uC).1;omega
 obtain⟨fi,fd,g1,g2,g3⟩:=mC f fields[f] (Xl Pe);rw[uC]at g3;simp only[Zc,Zg]at g3;obtain⟨rfl,rfl,rfl⟩:=g3;have e1:=dA hs hf x;constructor
 .intro id off hx;rw[hx]at e1;obtain⟨e2,e3⟩:=e1.nk;refine cK hs (v:= .pointer (some ⟨ρ id,off+fields[f].offset,none⟩)) ?_ (.pt id _ e3);simp only[execOp,dp,Instr.fieldAt,run_underlying h1,Sem.run_bind,Result.andThen_ok,Xl Pe,e2,Instr.sureAddr,Sem.run_pure,fieldPlace,dY g1,fX,if_false,add_lit]
 .intro row j hx;rw[hx]at e1;have e2:=e1.BI;cases hq:a.eval x<;>rw[hq]at e2<;>cases e2;rename_i b o' us cF t0 fz c1 c2 c3 c4;refine cK hs (v:= .pointer (some ⟨b,o'+(j+fields[f].offset),none⟩)) ?_ (.im (.rp b o' _ row us cF t0 fz c1 c2 c3 c4));simp only[execOp,dp,Instr.fieldAt,run_underlying h1,Sem.run_bind,Result.andThen_ok,Xl Pe,hq,Instr.sureAddr,Sem.run_pure,fieldPlace,dY g1,fX,if_false,add_lit,Nat.add_assoc]
def H5(hs:gf C.G w X ρ h)(hf:RF w (dK X ρ h) ρ h.length a.tmps fr){t:TypeId}{x ix:Operand}(dp:o.op= .indexAddr t x ix){i:Ti}(hi:eH C.P t=some i){sz tu:Nat}{ag:Bool}{ez:List Value}(hk:i.kd= .slice sz ag tu ez){n:Nat}(hn:jJ (ev C fr ix)=some n):
 (∀id off len k,ev C fr x= .sl id sz off len k->n<len->Good C o a w X ρ h (.pt id (off+n*sz)) h)/\(∀cg z row,ev C fr x= .ls sz cg z->cg[n]?=some row->Good C o a w X ρ h (.rp row 0) h):=by
 obtain⟨d,info,z,h1,h2,h3,h4,h5,h6,h7,h8,h9⟩:=dG hi;rw[hk]at h4;obtain⟨e,ei,ed,Pf,rfl,k1,k2,k3,rfl,k5,k6,k7,k8,k9,zm⟩:=ec h4;obtain⟨kk,j,hj,T6,xk⟩:=mB (dA hs hf ix) hn;have e1:=dA hs hf x;constructor
 .intro id off len k hx dm;rw[hx]at e1;obtain⟨cap,cF,t0,fz,e2,e3,e4,_,_,e6,e7⟩:=e1.jT;refine cK hs (v:= .pointer (some ⟨ρ id,off+n*ei.size,none⟩)) ?_ (.pt id _ e3);have hc:0<=j/\j< (len:Int):=by omega
  simp only[execOp,dp,Instr.indexAt,hj,asIntOf,e2,run_underlying h1,Sem.run_bind,Result.andThen_ok,Sem.run_pure,hc,and_self,if_true,dY k1,add_lit,xk]
 .intro cg zz row hx fG;rw[hx]at e1;rcases e1.my.iu with⟨rfl,_⟩|⟨b,o',cap,us,cF,t0,fz,hq,c1,c2,c4,c5,c6,c7,c8⟩
  .simp at fG
  .have dm:n<cg.length:=(Za.1 fG).1;have hc:0<=j/\j< (cg.length:Int):=by omega
   refine cK hs (v:= .pointer (some ⟨b,(o'+n*ei.size)+0,none⟩)) ?_ (.im (.rp b _ 0 row (us n) cF t0 fz c1 c2 (λk x hk=>⟨(c8 n row k x fG hk).1,(c8 n row k x fG hk).2.1⟩) (λk x hk=>(c8 n row k x fG hk).2.2)));simp only[execOp,dp,Instr.indexAt,hj,asIntOf,hq,run_underlying h1,Sem.run_bind,Result.andThen_ok,Sem.run_pure,hc,and_self,if_true,dY k1,add_lit,xk,Nat.add_zero]
def H6(hs:gf C.G w X ρ h)(hf:RF w (dK X ρ h) ρ h.length a.tmps fr){t:TypeId}{x ix:Operand}(dp:o.op= .indexAddr t x ix){i:Ti}(hi:eH C.P t=some i){m sz:Nat}{ag:Bool}(hk:i.kd= .array m sz ag){n:Nat}(hn:jJ (ev C fr ix)=some n)(dm:n<m):
 (∀id off,ev C fr x= .pt id off->Good C o a w X ρ h (.pt id (off+n*sz)) h)/\(∀row j,ev C fr x= .rp row j->Good C o a w X ρ h (.rp row (j+n*sz)) h):=by
 obtain⟨d,info,z,h1,h2,h3,h4,h5,h6,h7,h8,h9⟩:=dG hi;rw[hk]at h4;obtain⟨e,ei,ed,rfl,k1,k2,rfl,k4⟩:=wv h4;obtain⟨kk,j0,hj,T6,xk⟩:=mB (dA hs hf ix) hn;have e1:=dA hs hf x;have hc:0<=j0/\j0< (m:Int):=by omega
 constructor
 .intro id off hx;rw[hx]at e1;obtain⟨e2,e3⟩:=e1.nk;refine cK hs (v:= .pointer (some ⟨ρ id,off+n*ei.size,none⟩)) ?_ (.pt id _ e3);simp only[execOp,dp,Instr.indexAt,hj,asIntOf,e2,run_underlying h1,Sem.run_bind,Result.andThen_ok,Sem.run_pure,Instr.sureAddr,hc,and_self,if_true,dY k1,add_lit,xk]
 .intro row j hx;rw[hx]at e1;have e2:=e1.BI;cases hq:a.eval x<;>rw[hq]at e2<;>cases e2;rename_i b o' us cF t0 fz c1 c2 c3 c4;refine cK hs (v:= .pointer (some ⟨b,o'+(j+n*ei.size),none⟩)) ?_ (.im (.rp b o' _ row us cF t0 fz c1 c2 c3 c4));simp only[execOp,dp,Instr.indexAt,hj,asIntOf,hq,run_underlying h1,Sem.run_bind,Result.andThen_ok,Sem.run_pure,Instr.sureAddr,hc,and_self,if_true,dY k1,add_lit,xk,Nat.add_assoc]
def H7{P:Program}{n:Nat}{t:TypeId}{d:TypeDesc}{info:TypeInfo}(h1:P.underlying t=some d)(h2:P.info? t=some info){us:Array Value}{xs:List AV}(hl:us.size=xs.length)(mh:∀k,k<us.size->(us.getD k undef).oneCell'=true)(nu:∀(k:Nat)(x:AV),xs[k]?=some x->Rp w X ρ n (us.getD k undef) x){off:Nat}{y:AV}(hp:part (sM d) off info.size xs=some y):
 ∃v,(Go.part t us off).run P w= .ok v w/\Rp w X ρ n v y:=by
 unfold part at hp;cases ha:sM d with
 |
  true=>
  simp only[ha,if_true]at hp;split at hp
  .rename_i da;simp only[Zc]at hp;subst hp;refine⟨.agg (us.extract off (off+info.size)),?_,.ag _ _ (by simp;omega) (λk hk=>?_) λk x hk=>?_⟩
   .simp[Go.part,uM h1,ha,dY h2]
   .have lk:off+k<us.size:=by simp at hk;omega
    have:=mh (off+k) lk;simp at hk;simpa[Array.getElem?_extract,lk,show k<min (off+info.size) us.size-off by omega]using this
   .rw[Xn]at hk;split at hk
    .rename_i dm;rw[Xo]at hk;have lk:off+k<us.size:=by have:=(Za.1 hk).1;omega
     have:=nu (off+k) x hk;simpa[Array.getElem?_extract,lk,show k<min (off+info.size) us.size-off by omega]using this
    .cases hk
  .cases hp
 |
  false=>
  simp only[ha]at hp;have MX:xs[off]?=some y:=by simpa using hp
  have dm:off<us.size:=by have:=(Za.1 MX).1;omega
  refine⟨us[off],?_,by simpa[dm]using nu off y MX⟩;simp[Go.part,uM h1,ha,dm]
def T7(hs:gf C.G w X ρ h)(hf:RF w (dK X ρ h) ρ h.length a.tmps fr){t:TypeId}{x:Operand}{f:Nat}(dp:o.op= .field t x f){i:Ti}(hi:eH C.P t=some i){fs:List (Nat × Nat × Bool)}(hk:i.kd= .struct fs){of sz:Nat}{ag:Bool}(uC:fs[f]?=some (of,sz,ag)){cs:List AV}(hx:ev C fr x= .ag cs){y:AV}(hp:part ag of sz cs=some y):Good C o a w X ρ h y h:=by
 obtain⟨d,info,z,h1,h2,h3,h4,h5,h6,h7,h8,h9⟩:=dG hi;rw[hk]at h4;obtain⟨fields,rfl,cf,mC⟩:=tQ h4;have Pe:f<fields.size:=by have:=(Za.1 uC).1;omega
 obtain⟨fi,fd,g1,g2,g3⟩:=mC f fields[f] (Xl Pe);rw[uC]at g3;simp only[Zc,Zg]at g3;obtain⟨rfl,rfl,rfl⟩:=g3;have e1:=dA hs hf x;rw[hx]at e1;obtain⟨us,e2,e3,e4,e5⟩:=e1.yC;obtain⟨v,hv,hr⟩:=H7 (P:=C.P) g2 g1 e3 e4 e5 hp;refine cK hs (v:=v) ?_ hr;simp only[execOp,dp,Instr.field,run_underlying h1,Sem.run_bind,Result.andThen_ok,Xl Pe,e2,asAgg,Sem.run_pure,hv]
def T8(hs:gf C.G w X ρ h)(hf:RF w (dK X ρ h) ρ h.length a.tmps fr){t:TypeId}{x ix:Operand}(dp:o.op= .index t x ix){i:Ti}(hi:eH C.P t=some i){m sz:Nat}{ag:Bool}(hk:i.kd= .array m sz ag){n:Nat}(hn:jJ (ev C fr ix)=some n)(dm:n<m){cs:List AV}(hx:ev C fr x= .ag cs){y:AV}(hp:part ag (n*sz) sz cs=some y):Good C o a w X ρ h y h:=by
 obtain⟨d,info,z,h1,h2,h3,h4,h5,h6,h7,h8,h9⟩:=dG hi;rw[hk]at h4;obtain⟨e,ei,ed,rfl,k1,k2,rfl,rfl⟩:=wv h4;obtain⟨kk,j0,hj,T6,xk⟩:=mB (dA hs hf ix) hn;have hc:0<=j0/\j0< (m:Int):=by omega
 have e1:=dA hs hf x;rw[hx]at e1;obtain⟨us,e2,e3,e4,e5⟩:=e1.yC;obtain⟨v,hv,hr⟩:=H7 (P:=C.P) k2 k1 e3 e4 e5 hp;refine cK hs (v:=v) ?_ hr;simp only[execOp,dp,Instr.index,hj,asIntOf,run_underlying h1,Sem.run_bind,Result.andThen_ok,e2,Sem.run_pure,hc,and_self,if_true,dY k1,xk,hv]
def Pg(hs:gf C.G w X ρ h)(hf:RF w (dK X ρ h) ρ h.length a.tmps fr){x:Operand}{i:Nat}(dp:o.op= .extract x i){vs:List AV}(hx:ev C fr x= .tp vs){y:AV}(hy:vs[i]?=some y):Good C o a w X ρ h y h:=by
 have e1:=dA hs hf x;rw[hx]at e1;obtain⟨us,e2,e3,e4⟩:=e1.T0;have dm:i<us.size:=by have:=(Za.1 hy).1;omega
 refine cK hs (v:=us.getD i undef) ?_ (e4 i y hy);simp[execOp,dp,Instr.extract,e2,dm]
def K7(hs:gf C.G w X ρ h)(hf:RF w (dK X ρ h) ρ h.length a.tmps fr){f:FuncId}{first oe:Array Operand}(dp:o.op= .makeFunc (.func f) first oe)(h0:first.isEmpty=true):
 Good C o a w X ρ h (.fn f (oe.toList.map (ev C fr))) h:=by
 have:first= #[]:=by simpa using h0
 subst this;refine cK hs (v:= .func (.func f) #[] (oe.map a.eval)) ?_ ?_
 .simp[execOp,dp,Instr.makeFunc]
 .refine .fn f _ _ (by simp) λk x hk=>?_
  simp only[Zs,Ze]at hk;obtain⟨y,hy,rfl⟩:=hk;have K8:oe[k]?=some y:=by simpa using hy
  have:=dA hs hf y;simpa[K8]using this
def afM(hs:gf C.G w X ρ h)(hf:RF w (dK X ρ h) ρ h.length a.tmps fr){x:Operand}{t:TypeId}{args:Array Operand}{ya:Array TypeId}(dp:o.op= .call {callee:= .builtin .len,args:=args,argTypes:=ya})(ha:args.toList=[x])(ht:ya.toList=[t]){i:Ti}(hi:eH C.P t=some i){sz tu:Nat}{ag:Bool}{ez:List Value}(hk:i.kd= .slice sz ag tu ez){n:Nat}(hn:u7 (ev C fr x)=some n):Good C o a w X ρ h (.sc (.int .i64 n)) h:=by
 obtain⟨d,info,z,h1,h2,h3,h4,h5,h6,h7,h8,h9⟩:=dG hi;rw[hk]at h4;obtain⟨e,ei,ed,Pf,rfl,_⟩:=ec h4;obtain⟨args⟩:=args;obtain⟨ya⟩:=ya;simp only at ha ht;subst ha ht;have e1:=dA hs hf x;have hval:∃b cap,a.eval x= .slice b n cap:=by
  cases hx:ev C fr x<;>rw[hx]at e1 hn<;>simp[u7]at hn
  .rcases e1.my.iu with⟨rfl,b,cap,hq,_⟩|⟨b,o',cap,us,cF,t0,fz,hq,_⟩
   .exact⟨b,cap,by rw[hq,<-hn];rfl⟩
   .exact⟨_,cap,by rw[hq,hn]⟩
  .obtain⟨cap,_,_,_,e2,_⟩:=e1.jT;exact⟨_,cap,by rw[e2,hn]⟩
 obtain⟨b,cap,hq⟩:=hval;refine cK hs (v:= .int .i64 n) ?_ (.im (.sc _ rfl));simp[execOp,dp,resolve,invoke,builtin,Builtin.len_,hq,run_underlying h1,goInt]
end ops
end Go.Ae
