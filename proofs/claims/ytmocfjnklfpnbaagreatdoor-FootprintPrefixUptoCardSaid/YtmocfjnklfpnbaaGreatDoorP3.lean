/- The abstract evaluator, part 3: each operation of the evaluator is what the model does. -/
import Derived.Test.YtmocfjnklfpnbaaGreatDoorP2
import Derived.IntWalk
import Derived.Laws.Strings
set_option linter.all false
namespace Go.Ae
open Go
section inv
variable {w : World} {X : Nat → Prop} {ρ : Nat → Nat} {n : Nat} {v : Value}
theorem Rp.sc_inv {u:Value}(h:Rp w X ρ n v (.sc u)):v=u∧flat u=true:=by
 cases h with
 |
  im h=>cases h with
  |sc _ hf=>exact⟨rfl,hf⟩
theorem Rp.pt_inv {id off:Nat}(h:Rp w X ρ n v (.pt id off)):v= .pointer (some ⟨ρ id,off,none⟩)∧id<n:=by
 cases h with
 |im h=>cases h
 |pt _ _ hl=>exact⟨rfl,hl⟩
theorem Rp.rp_inv {row:List AV}{j:Nat}(h:Rp w X ρ n v (.rp row j)):Ri w X v (.rp row j):=by
 cases h with
 |im h=>exact h
theorem Rp.ls_inv {sz:Nat}{rows:List (List AV)}{z:Bool}(h:Rp w X ρ n v (.ls sz rows z)):Ri w X v (.ls sz rows z):=by
 cases h with
 |im h=>exact h
theorem Rp.sl_inv {id sz off len:Nat}{k:Bool}(h:Rp w X ρ n v (.sl id sz off len k)):∃cap cur t fz,v= .slice (some ⟨ρ id,off,none⟩) len cap∧id<n∧w.heap[ρ id]?=some (Obj.cells cur t fz)∧off+cap*sz≤cur.size∧(k=true→cap=len)∧(k=false→off+cap*sz=cur.size)∧len≤cap∧cap≤maxLen:=by
 cases h with
 |im h=>cases h
 |sl _ _ _ _ cap _ cur t fz h1 h2 h3 h4 h5 h6 h7=>exact⟨cap,cur,t,fz,rfl,h1,h2,h3,h4,h5,h6,h7⟩
theorem Rp.mp_inv {id:Nat}(h:Rp w X ρ n v (.mp id)):v= .map (some (ρ id))∧id<n:=by
 cases h with
 |im h=>cases h
 |mp _ hl=>exact⟨rfl,hl⟩
theorem Rp.pn_inv {u:Value}(h:Rp w X ρ n v (.pn u)):False:=by
 cases h with
 |im h=>cases h
theorem Rp.un_inv (h:Rp w X ρ n v .un):v=undef:=by
 cases h with
 |
  im h=>cases h with
  |un=>rfl
theorem Rp.fn_inv {f:FuncId}{xs:List AV}(h:Rp w X ρ n v (.fn f xs)):∃us:Array Value,v= .func (.func f) #[] us∧us.size=xs.length∧∀k x,xs[k]?=some x→Rp w X ρ n (us.getD k undef) x:=by
 cases h with
 |
  im h=>cases h with
  |fn _ us _ h1 h2=>exact⟨us,rfl,h1,fun k x hk=> .im (h2 k x hk)⟩
 |fn _ us _ h1 h2=>exact⟨us,rfl,h1,h2⟩
theorem Rp.ag_inv {xs:List AV}(h:Rp w X ρ n v (.ag xs)):∃us:Array Value,v= .agg us∧us.size=xs.length∧(∀k,k<us.size→(us.getD k undef).oneCell'=true)∧∀k x,xs[k]?=some x→Rp w X ρ n (us.getD k undef) x:=by
 cases h with
 |
  im h=>cases h with
  |ag us _ h1 h2 h3=>exact⟨us,rfl,h1,h2,fun k x hk=> .im (h3 k x hk)⟩
 |ag us _ h1 h2 h3=>exact⟨us,rfl,h1,h2,h3⟩
theorem Rp.tp_inv {xs:List AV}(h:Rp w X ρ n v (.tp xs)):∃us:Array Value,v= .tuple us∧us.size=xs.length∧∀k x,xs[k]?=some x→Rp w X ρ n (us.getD k undef) x:=by
 cases h with
 |
  im h=>cases h with
  |tp us _ h1 h2=>exact⟨us,rfl,h1,fun k x hk=> .im (h2 k x hk)⟩
 |tp us _ h1 h2=>exact⟨us,rfl,h1,h2⟩
theorem Ri.ls_cases {sz:Nat}{rows:List (List AV)}{z:Bool}(h:Ri w X v (.ls sz rows z)):
 (rows=[]∧∃a cap,v= .slice a 0 cap∧cap≤maxLen∧(z=true→cap=0))∨
 ∃(b o cap:Nat) (us:Nat→Nat→Value) (cur:Array Value) (t:TypeId) (fz:Nat × Nat),v= .slice (some ⟨b,o,none⟩) rows.length cap∧¬X b∧w.heap[b]?=some (Obj.cells cur t fz)∧rows.length≤cap∧cap≤maxLen∧(z=true→cap=rows.length)∧
  (∀(i:Nat) (row:List AV),rows[i]?=some row→row.length=sz)∧
  (∀(i:Nat) (row:List AV) (j:Nat) (x:AV),rows[i]?=some row→row[j]?=some x→cur[o+i*sz+j]?=some (us i j)∧Value.oneCell' (us i j)=true∧Ri w X (us i j) x):=by
 cases h with
 |le a cap _ _ h1 h2=>exact .inl ⟨rfl,a,cap,rfl,h1,h2⟩
 |
  ls b o len cap _ _ _ us cur t fz h1 h2 h3 h4 h5 h6 h7 h8 h9=>
  subst h3;exact .inr ⟨b,o,cap,us,cur,t,fz,rfl,h1,h2,h4,h5,h6,h7,fun i row j x hr hx=>⟨(h8 i row j x hr hx).1,(h8 i row j x hr hx).2,h9 i row j x hr hx⟩⟩
theorem flat_one {v:Value}(h:flat v=true):v.oneCell'=true:=by
 cases v<;>simp_all [flat,Value.oneCell']
theorem flat_cells {v:Value}(h:flat v=true):v.cells= #[v]:=by
 cases v<;>first|rfl|simp[flat]at h
theorem Rp.cls_inv {x:AV}{xs:List AV}(h:Rp w X ρ n v x)(hc:cls x=some xs):v.cells.size=xs.length∧(∀k,k<v.cells.size→(v.cells.getD k undef).oneCell'=true)∧∀k y,xs[k]?=some y→Rp w X ρ n (v.cells.getD k undef) y:=by
 have single:∀{x:AV},Rp w X ρ n v x→v.cells= #[v]→v.oneCell'=true→xs=[x]→v.cells.size=xs.length∧(∀k,k<v.cells.size→(v.cells.getD k undef).oneCell'=true)∧∀k y,xs[k]?=some y→Rp w X ρ n (v.cells.getD k undef) y:=by
  intro x h e1 e2 e3;subst e3;rw[e1];refine⟨rfl,fun k hk=>?_,fun k y hy=>?_⟩
  ·have:k=0:=by simpa using hk
   subst this;simpa using e2
  ·cases k with
   |zero=>simp at hy;subst hy;simpa using h
   |succ k=>simp at hy
 cases x with
 |
  ag ys=>
  simp[cls]at hc;subst hc;obtain⟨us,rfl,h1,h2,h3⟩:=h.ag_inv;exact⟨h1,h2,h3⟩
 |ud=>simp[cls]at hc
 |un=>simp[cls]at hc
 |tp ys=>simp[cls]at hc
 |
  sc u=>
  simp[cls]at hc;obtain⟨rfl,hf⟩:=h.sc_inv;exact single h (flat_cells hf) (flat_one hf) hc.symm
 |
  ls sz rows z=>
  simp[cls]at hc;have h':=h.ls_inv;cases h'<;>exact single h rfl rfl hc.symm
 |pn u=>simp[cls]at hc
 |
  sl id sz off len k=>
  simp[cls]at hc;obtain⟨cap,cur,t,fz,rfl,_⟩:=h.sl_inv;exact single h rfl rfl hc.symm
 |
  pt id off=>
  simp[cls]at hc;obtain⟨rfl,_⟩:=h.pt_inv;exact single h rfl rfl hc.symm
 |
  rp row j=>
  simp[cls]at hc;have h':=h.rp_inv;cases h';exact single h rfl rfl hc.symm
 |
  fn f ys=>
  simp[cls]at hc;obtain⟨us,rfl,_⟩:=h.fn_inv;exact single h rfl rfl hc.symm
 |
  mp id=>
  simp[cls]at hc;cases h with
  |im h=>cases h
  |mp _ _=>exact single (.mp id (by assumption)) rfl rfl hc.symm
 |
  oc=>
  simp[cls]at hc;cases h with
  |
   im h=>cases h with
   |oc _ h1=>exact single (.im (.oc v h1)) (by cases v<;>first|rfl|simp[Value.oneCell']at h1) h1 hc.symm
end inv
theorem runPure_run {P:Program}{α:Type}{s:Sem α}{a:α}(h:runPure P s=some a)(w:World):s.run P w= .ok a w:=by
 induction s with
 |pure b=>simp[runPure]at h;subst h;rfl
 |program k ih=>simp only[runPure]at h;simp only[Sem.run];exact ih P h
 |mark m k ih=>simp only[runPure]at h;simp only[Sem.run];exact ih h
 |_=>simp[runPure]at h
theorem ofConst_rp {w:World}{X:Nat→Prop}{ρ:Nat→Nat}{n:Nat}(v:Value):Rp w X ρ n v (ofConst v):=by
 unfold ofConst;split
 ·rename_i cs;split
  ·rename_i hall;refine .ag cs _ (by simp) (fun k hk=>flat_one ?_) fun k x hk=>?_
   ·have:cs.toList.all flat=true:=hall;rw[List.all_eq_true]at this;simpa[hk]using this (cs[k]) (by simp)
   ·simp only[Zs,Ze]at hk;obtain⟨u,hu,rfl⟩:=hk;have hm:u∈cs.toList:=Zi hu;rw[List.all_eq_true]at hall;have:cs.getD k undef=u:=by simp at hu;simp[hu]
    rw[this];exact .im (.sc u (hall u hm))
  ·exact .im (.ud _)
 ·split
  ·exact .im (.sc _ (by assumption))
  ·exact .im (.ud _)
theorem ev_rp {C:Cx}{w:World}{X:Nat→Prop}{ρ:Nat→Nat}{h:Hp}(hs:Sim C.G w X ρ h){a:Act}{fr:List AV}(hf:RF w (tot X ρ h) ρ h.length a.tmps fr)(x:Operand):
 Rp w (tot X ρ h) ρ h.length (a.eval x) (ev C fr x):=by
 cases x with
 |
  tmp t=>
  simp only[ev,Act.eval];cases ht:fr[t]? with
  |some y=>have:=hf.2 t y ht;simpa[List.getD,ht]using this
  |none=>simp[List.getD,ht];exact .im (.ud _)
 |const v=>exact ofConst_rp v
 |func f=>exact .fn f #[] [] rfl (by simp)
 |
  global g=>
  simp only[ev,Act.eval];cases hg:C.G g with
  |none=>exact .im (.ud _)
  |
   some row=>
   obtain⟨h1,cur,t,fz,h2,_,h3⟩:=hs.glob g row hg;have:Ri w (tot X ρ h) (.pointer (some ⟨g,0+0,none⟩)) (.rp (row.map gav) 0):=by
    refine .rp g 0 0 _ (fun k=>(cur[k]?).getD undef) cur t fz h1 h2 ?_ ?_
    ·intro k x hk;simp only[Zs,Ze]at hk;obtain⟨u,hu,rfl⟩:=hk;obtain⟨u',e1,e2,_⟩:=h3 k u hu;simp[e1,e2]
    ·intro k x hk;simp only[Zs,Ze]at hk;obtain⟨u,hu,rfl⟩:=hk;obtain⟨u',e1,_,e3⟩:=h3 k u hu;simpa[e1]using gok_ri e3
   exact .im this
theorem tiOf_spec {P:Program}{t:TypeId}{i:Ti}(h:tiOf P t=some i):∃d info z,P.underlying t=some d∧P.info? t=some info∧info.zero=some z∧kdOf P d=some i.kd∧
 i.size=info.size∧i.agg=aggD d∧i.zero=z.cells.toList∧(∀u∈z.cells.toList,flat u=true)∧z.cells.size=info.size:=by
 unfold tiOf at h;split at h
 ·rename_i d info hd hi;split at h
  ·rename_i z kd hz hk;split at h
   ·rename_i hc;simp only[Zc]at h;subst h;simp only[Zh,List.all_eq_true,beq_iff_eq]at hc;exact⟨d,info,z,hd,hi,hz,hk,rfl,rfl,rfl,hc.1,hc.2⟩
   ·cases h
  ·cases h
 ·cases h
theorem kdOf_slice {P:Program}{d:TypeDesc}{sz bytes:Nat}{agg:Bool}{ez:List Value}(h:kdOf P d=some (.slice sz agg bytes ez)):
 ∃e ei ed z,d= .slice e∧P.info? e=some ei∧P.underlying e=some ed∧ei.zero=some z∧sz=ei.size∧agg=aggD ed∧bytes=ei.bytes∧ez=z.cells.toList∧(∀u∈z.cells.toList,flat u=true)∧z.cells.size=ei.size∧0<sz:=by
 unfold kdOf at h;split at h
 ·simp at h
 ·rename_i e;split at h
  ·rename_i ei ed hi hu;split at h
   ·rename_i z hz;split at h
    ·rename_i hc;simp only[Zc,Kd.slice.injEq]at h;simp only[Zh,List.all_eq_true,beq_iff_eq,bne_iff_ne]at hc;exact⟨e,ei,ed,z,rfl,hi,hu,hz,h.1.symm,h.2.1.symm,h.2.2.1.symm,h.2.2.2.symm,hc.1.1,hc.1.2,by have:=hc.2;omega⟩
    ·cases h
   ·cases h
  ·cases h
 ·split at h<;>simp at h
 ·simp at h
theorem kdOf_array {P:Program}{d:TypeDesc}{n sz:Nat}{agg:Bool}(h:kdOf P d=some (.array n sz agg)):
 ∃e ei ed,d= .array n e∧P.info? e=some ei∧P.underlying e=some ed∧sz=ei.size∧agg=aggD ed:=by
 unfold kdOf at h;split at h
 ·simp at h
 ·split at h
  ·split at h
   ·split at h<;>simp at h
   ·cases h
  ·cases h
 ·rename_i m e;split at h
  ·rename_i ei ed hi hu;simp only[Zc,Kd.array.injEq]at h;obtain⟨rfl,rfl,rfl⟩:=h;exact⟨e,ei,ed,rfl,hi,hu,rfl,rfl⟩
  ·cases h
 ·simp at h
theorem mapM_get {α β:Type}{f:α→Option β}:∀{l:List α} {m:List β},l.mapM f=some m→m.length=l.length∧∀(k:Nat) (a:α),l[k]?=some a→∃b,m[k]?=some b∧f a=some b
 | [],m,h=>by simp at h;subst h;simp
 |
  a::l,m,h=>by
  simp only[Zo,Option.bind_eq_bind,Yg,Option.pure_def,Zc]at h;obtain⟨b,hb,m',hm,rfl⟩:=h;obtain⟨h1,h2⟩:=mapM_get hm;refine⟨by simp[h1],fun k x hk=>?_⟩;cases k with
  |zero=>simp at hk;subst hk;exact⟨b,rfl,hb⟩
  |succ k=>simp at hk;simpa using h2 k x hk
theorem kdOf_struct {P:Program}{d:TypeDesc}{l:List (Nat × Nat × Bool)}(h:kdOf P d=some (.struct l)):
 ∃fs:Array Field,d= .struct fs∧l.length=fs.size∧∀(k:Nat) (f:Field),fs[k]?=some f→∃fi fd,P.info? f.type=some fi∧P.underlying f.type=some fd∧l[k]?=some (f.offset,fi.size,aggD fd):=by
 unfold kdOf at h;split at h
 ·rename_i fs;simp only[Ze,Kd.struct.injEq]at h;obtain⟨l',hl,rfl⟩:=h;obtain⟨h1,h2⟩:=mapM_get hl;refine⟨fs,rfl,by simpa using h1,fun k f hk=>?_⟩;obtain⟨b,hb,hf⟩:=h2 k f (by simpa using hk);split at hf
  ·rename_i fi fd hi hu;simp only[Zc]at hf;exact⟨fi,fd,hi,hu,by rw[hb,←hf]⟩
  ·cases hf
 ·split at h
  ·split at h
   ·split at h<;>simp at h
   ·cases h
  ·cases h
 ·split at h<;>simp at h
 ·simp at h
theorem run_isAgg {P:Program}{t:TypeId}{d:TypeDesc}(h:P.underlying t=some d)(w:World):(isAgg t).run P w= .ok (aggD d) w:=by
 unfold isAgg;simp only[Sem.run_bind,run_underlying h,Result.andThen_ok];cases d<;>simp[aggD]
theorem run_size {P:Program}{t:TypeId}{i:TypeInfo}(h:P.info? t=some i)(w:World):(sizeOf t).run P w= .ok i.size w:=by
 simp[sizeOf,typeInfo,h]
theorem run_zero {P:Program}{t:TypeId}{i:TypeInfo}{z:Value}(h:P.info? t=some i)(hz:i.zero=some z)(w:World):(zeroValue t).run P w= .ok z w:=by
 simp[zeroValue,typeInfo,h,hz]
theorem add_lit (b o j:Nat):(⟨b,o,none⟩:Addr).add j=⟨b,o+j,none⟩:=by
 unfold Addr.add;split<;>simp_all
theorem cell_at {w:World}{b:Nat}{cur:Array Value}{t:TypeId}{fz:Nat × Nat}(h:w.heap[b]?=some (.cells cur t fz))(o:Nat):w.cell? ⟨b,o,none⟩=cur[o]?:=by
 simp[World.cell?,h]
theorem load_part' {P:Program}{w:World}{X:Nat→Prop}{ρ:Nat→Nat}{n:Nat}{t:TypeId}{d:TypeDesc}{info:TypeInfo}(h1:P.underlying t=some d)(h2:P.info? t=some info){b o off:Nat}{cur:Array Value}{t0:TypeId}{fz:Nat × Nat}
 (hb:w.heap[b]?=some (.cells cur t0 fz)) {cs:List AV} {us:Nat→Value} (hc:∀k x,cs[k]?=some x→cur[o+k]?=some (us k)∧(us k).oneCell'=true∧Rp w X ρ n (us k) x)
 {y:AV} (hp:part (aggD d) off info.size cs=some y):∃v,(loadVar t ⟨b,o+off,none⟩).run P w= .ok v w∧Rp w X ρ n v y:=by
 unfold part at hp;cases ha:aggD d with
 |
  true=>
  simp only[ha,if_true]at hp;split at hp
  ·rename_i hle;simp only[Zc]at hp;subst hp;have hl:=run_loadCells (P:=P) w ⟨b,o+off,none⟩ info.size (fun j=>us (off+j)) (fun j hj=>by
    have hk:off+j<cs.length:=by omega
    rw[add_lit,cell_at hb,Nat.add_assoc];exact(hc (off+j) _ (Zb hk)).1)
   refine⟨.agg ((List.range info.size).map fun j=>us (off+j)).toArray,?_,?_⟩
   ·simp[loadVar,run_isAgg h1,ha,run_size h2,hl]
   ·refine .ag _ _ (by simp;omega) (fun k hk=>?_) fun k x hk=>?_
    ·simp at hk;have hk':off+k<cs.length:=by omega
     simpa[hk]using(hc (off+k) _ (Zb hk')).2.1
    ·rw[List.getElem?_take]at hk;split at hk
     ·rename_i hlt;rw[List.getElem?_drop]at hk;have:k<info.size:=by omega
      simpa[this]using(hc (off+k) x hk).2.2
     ·cases hk
  ·cases hp
 |
  false=>
  simp only[ha]at hp;have hp':cs[off]?=some y:=by simpa using hp
  have hh:=hc off y hp';refine⟨us off,?_,hh.2.2⟩;have hcell:w.cell? ⟨b,o+off,none⟩=some (us off):=by rw[cell_at hb];exact hh.1
  simp[loadVar,run_isAgg h1,ha,hcell]
theorem load_part {P:Program}{w:World}{X:Nat→Prop}{ρ:Nat→Nat}{n:Nat}{t:TypeId}{i:Ti}(hi:tiOf P t=some i){b o off:Nat}{cur:Array Value}{t0:TypeId}{fz:Nat × Nat}
 (hb:w.heap[b]?=some (.cells cur t0 fz)) {cs:List AV} {us:Nat→Value} (hc:∀k x,cs[k]?=some x→cur[o+k]?=some (us k)∧(us k).oneCell'=true∧Rp w X ρ n (us k) x)
 {y:AV} (hp:part i.agg off i.size cs=some y):∃v,(loadVar t ⟨b,o+off,none⟩).run P w= .ok v w∧Rp w X ρ n v y:=by
 obtain⟨d,info,z,h1,h2,h3,h4,h5,h6,h7,h8,h9⟩:=tiOf_spec hi;rw[h5,h6]at hp;exact load_part' h1 h2 hb hc hp
theorem Sim.cells {G:Nat→Option (List Value)}{w:World}{X:Nat→Prop}{ρ:Nat→Nat}{h:Hp}(hs:Sim G w X ρ h){id:Nat}{cs:List AV}(hid:rowOf h id=some cs):
 ∃(cur:Array Value) (t:TypeId) (fz:Nat × Nat) (us:Nat→Value),w.heap[ρ id]?=some (.cells cur t fz)∧∀k x,cs[k]?=some x→cur[k]?=some (us k)∧(us k).oneCell'=true∧Rp w (tot X ρ h) ρ h.length (us k) x:=by
 unfold rowOf at hid;split at hid
 ·rename_i cs' hi;cases hid;obtain⟨cur,t,fz,us,h1,_,_,h3⟩:=hs.row id _ hi;exact⟨cur,t,fz,us,h1,h3⟩
 ·rename_i cs' hi;cases hid;obtain⟨cur,t,fz,us,h1,h3⟩:=hs.blk id _ hi;exact⟨cur,t,fz,us,h1,fun k x hk=>⟨(h3 k x hk).1,(h3 k x hk).2.1,.im (h3 k x hk).2.2⟩⟩
 ·rename_i cs' hi;cases hid;obtain⟨cur,t,fz,us,h1,_,_,h3⟩:=hs.blk id _ hi;exact⟨cur,t,fz,us,h1,h3⟩
 ·cases hid
theorem rowOf_row {h:Hp}{id:Nat}{cs:List AV}(hid:h[id]?=some (.row cs)):rowOf h id=some cs:=by
 unfold rowOf;rw[hid]
def Good (C:Cx)(o:Oper)(a:Act)(w:World)(X:Nat→Prop)(ρ:Nat→Nat)(h:Hp)(r:AV)(h':Hp):Prop:=
 ∀(K:Act→World→Prop) (Q:Exit→Act→World→Prop),
  (∀v w' ρ',Ext C.G w X ρ h w' ρ' h'→Rp w' (tot X ρ' h') ρ' h'.length v r→K (a.put o.dst v) w')→
  (∀u w' ρ',r= .pn u→Ext C.G w X ρ h w' ρ' h'→Q (.panic [{v:=u,recovered:=false}]) a w')→o.wp C.P a w K Q
section good
variable {C : Cx} {o : Oper} {a : Act} {w : World} {X : Nat → Prop} {ρ : Nat → Nat} {h : Hp}
theorem good_value {w':World}{ρ':Nat→Nat}{h':Hp}{v:Value}{r:AV}(hr:(execOp a.eval o).run C.P w= .ok (.value v) w')(he:Ext C.G w X ρ h w' ρ' h')(hv:Rp w' (tot X ρ' h') ρ' h'.length v r):Good C o a w X ρ h r h':=by
 intro K Q hK _;unfold Oper.wp;rw[hr,Oper.upon_value];exact hK v w' ρ' he hv
theorem good_skip {w':World}{ρ':Nat→Nat}{h':Hp}(hr:(execOp a.eval o).run C.P w= .ok .skip w')(he:Ext C.G w X ρ h w' ρ' h'):Good C o a w X ρ h .un h':=by
 intro K Q hK _;unfold Oper.wp;rw[hr,Oper.upon_skip];exact hK undef w' ρ' he (.im .un)
theorem good_same (hs:Sim C.G w X ρ h){v:Value}{r:AV}(hr:(execOp a.eval o).run C.P w= .ok (.value v) w)(hv:Rp w (tot X ρ h) ρ h.length v r):Good C o a w X ρ h r h:=
 good_value hr (Ext.refl hs) hv
end good
theorem det_inv {w:World}{X:Nat→Prop}{ρ:Nat→Nat}{n:Nat}{v:Value}{x:AV}(h:Rp w X ρ n v x)(hd:isDet x=true):v=detOf x:=by
 cases x with
 |sc u=>exact h.sc_inv.1
 |
  ag xs=>
  obtain⟨us,rfl,h1,h2,h3⟩:=h.ag_inv;simp only[isDet,List.all_eq_true]at hd;simp only[detOf]
  congr 1
  apply Array.ext
  ·simpa using h1
  ·intro i hi hi';have hl:i<xs.length:=by simpa using hi'
   have h4:=h3 i _ (Zb hl);have h5:=hd xs[i] (List.getElem_mem hl);cases hx:xs[i]with
   |
    sc u=>
    rw[hx]at h4;have:=h4.sc_inv.1;simp only[hi,Zr,Array.getElem?_eq_getElem,Option.getD_some]at this;simp[hx,scOf,this]
   |_=>rw[hx]at h5;simp[isSc]at h5
 |
  fn f xs=>
  cases xs with
  |cons y ys=>simp[isDet]at hd
  |
   nil=>
   obtain⟨us,rfl,h1,_⟩:=h.fn_inv;have:us= #[]:=Array.eq_empty_of_size_eq_zero (by simpa using h1);rw[this];rfl
 |_=>simp[isDet]at hd
theorem flats_rp {w:World}{X:Nat→Prop}{vs:Array Value}(hall:vs.toList.all flat=true):vs.size=(vs.toList.map AV.sc).length∧(∀k,k<vs.size→(vs.getD k undef).oneCell'=true)∧∀(k:Nat) (x:AV),(vs.toList.map AV.sc)[k]?=some x→Ri w X (vs.getD k undef) x:=by
 rw[List.all_eq_true]at hall;refine⟨by simp,fun k hk=>flat_one (hall _ ?_),fun k x hk=>?_⟩
 ·have:vs.getD k undef=vs[k]:=by simp[hk]
  rw[this];exact Array.getElem_mem_toList hk
 ·simp only[Zs,Ze]at hk;obtain⟨u,hu,rfl⟩:=hk;have:vs.getD k undef=u:=by simp at hu;simp[hu]
  rw[this];exact .sc u (hall u (Zi hu))
theorem fitI_wrap (k:IntKind)(n:Int):fitI k n=k.wrap n:=by
 unfold fitI;split
 ·split
  ·rename_i h;exact(IntWalk.i64_in n (by omega)).symm
  ·rfl
 ·split
  ·rename_i h;simp only[IntKind.wrap,IntKind.signed,IntKind.bits,Bool.false_and,Yl,if_false];omega
  ·rfl
 ·rfl
theorem bits_ofInt {a:Int}(h0:0≤a)(h1:a≤18446744073709551615):(BitVec.ofInt 64 a).toNat=a.toNat:=by
 rw[BitVec.toNat_ofInt];have:a % ((2^64:Nat):Int)=a:=Int.emod_eq_of_lt h0 (by omega);rw[this]
theorem wrap_u64 {n:Nat}(h:n<18446744073709551616):IntKind.u64.wrap (n:Int)=n:=by
 simp only[IntKind.wrap,IntKind.signed,IntKind.bits,Bool.false_and,Yl,if_false];omega
theorem intOp_run {P:Program}{op:BinOp}{k:IntKind}{a b:Int}{v:Value}(h:intOp op k a b=some v)(t:TypeId)(w:World):(binOp op t (.int k a) (.int k b)).run P w= .ok v w:=by
 unfold intOp at h;cases op<;>simp only[Zc,fitI_wrap]at h<;>first|contradiction|skip
 case and=>
  split at h
  ·rename_i hc;obtain⟨rfl,a0,a1,b0,b1⟩:=hc;simp only[Zc]at h;subst h;have hr:(BitVec.ofInt 64 a &&& BitVec.ofInt 64 b).toNat=a.toNat &&& b.toNat:=by rw[BitVec.toNat_and,bits_ofInt a0 a1,bits_ofInt b0 b1]
   have hl:a.toNat &&& b.toNat<18446744073709551616:=by have:=(BitVec.ofInt 64 a &&& BitVec.ofInt 64 b).isLt;rw[hr]at this;exact this
   show Result.ok (Value.int IntKind.u64 (IntKind.u64.wrap ((BitVec.ofInt 64 a &&& BitVec.ofInt 64 b).toNat:Int))) w=_;rw[hr,wrap_u64 hl]
  ·cases h
 case or=>
  split at h
  ·rename_i hc;obtain⟨rfl,a0,a1,b0,b1⟩:=hc;simp only[Zc]at h;subst h;have hr:(BitVec.ofInt 64 a|||BitVec.ofInt 64 b).toNat=a.toNat|||b.toNat:=by rw[BitVec.toNat_or,bits_ofInt a0 a1,bits_ofInt b0 b1]
   have hl:a.toNat|||b.toNat<18446744073709551616:=by have:=(BitVec.ofInt 64 a|||BitVec.ofInt 64 b).isLt;rw[hr]at this;exact this
   show Result.ok (Value.int IntKind.u64 (IntKind.u64.wrap ((BitVec.ofInt 64 a|||BitVec.ofInt 64 b).toNat:Int))) w=_;rw[hr,wrap_u64 hl]
  ·cases h
 all_goals first
  |(
   split at h
   ·cases h
   ·rename_i hb;simp only[Zc]at h;subst h;simp[binOp,Op.intDiv,hb])
  |(subst h;simp[binOp,Op.intArith,Op.intCmp];done)
  |(subst h;simp[binOp,Op.intArith,Op.intCmp];rfl)
theorem intOp_flat {op:BinOp}{k:IntKind}{a b:Int}{v:Value}(hv:intOp op k a b=some v):flat v=true:=by
 unfold intOp at hv;cases op<;>simp only[Zc]at hv<;>first|contradiction|(subst hv;rfl)|(split at hv<;>first|contradiction|(simp only[Zc]at hv;subst hv;rfl))
theorem binFast_run {P:Program}{op:BinOp}{k k':IntKind}{a b:Int}{v:Value}(h:binFast op k a k' b=some v)(t:TypeId)(w:World):(binOp op t (.int k a) (.int k' b)).run P w= .ok v w∧flat v=true:=by
 unfold binFast at h;split at h
 ·split at h
  ·rename_i hc;simp only[Zc]at h;subst h;refine⟨?_,rfl⟩;have hn:¬b<0:=by omega
   have hm:min b.toNat k.bits=b.toNat:=by omega
   have hd:a.fdiv (2^b.toNat)=a/((2^b.toNat:Nat):Int):=by
    rw[Int.fdiv_eq_ediv_of_nonneg a (Int.pow_nonneg (by decide))]
    congr 1
   simp only[binOp,Op.shift,hn,if_false,hm,hd,Sem.run_pure]
  ·cases h
 ·split at h
  ·rename_i hk;subst hk;exact⟨intOp_run h t w,intOp_flat h⟩
  ·cases h
theorem strOp_run {P:Program}{op:BinOp}{a b:ByteArray}{v:Value}(h:strOp op a b=some v)(t:TypeId)(w:World):(binOp op t (.string a) (.string b)).run P w= .ok v w:=by
 unfold strOp at h;cases op
 case add=>
  simp only at h;split at h
  ·rename_i hc;simp only[Zc]at h;subst h;have e:¬((a.size+b.size:Nat):Int)>IntKind.i64.max:=by
    show¬((a.size+b.size:Nat):Int)>9223372036854775807;omega
   simp only[binOp,Op.stringOp,if_neg e];rfl
  ·cases h
 all_goals (simp only[Zc]at h)
 all_goals first|contradiction|skip
 all_goals (subst h;simp[binOp,Op.stringOp,eqS,ltS,ByteArray.toList_eq])
theorem fast_good {C:Cx}{w:World}{X:Nat→Prop}{ρ:Nat→Nat}{h:Hp}(hs:Sim C.G w X ρ h){a:Act}{fr:List AV}(hf:RF w (tot X ρ h) ρ h.length a.tmps fr){o:Oper}{r:AV}
 (hr:fastOp C (ev C fr) o=some r):Good C o a w X ρ h r h:=by
 unfold fastOp at hr;split at hr
 ·rename_i op t x y t' hop;split at hr
  ·rename_i p q hx hy;have ex:=ev_rp hs hf x;have ey:=ev_rp hs hf y;rw[hx]at ex;rw[hy]at ey;have he:C.P.underlying t=some .bool→(Op.equal t (.bool p) (.bool q)).run C.P w= .ok (p==q) w:=fun hu=>by
    show(Op.equalIn (9999+1) t (.bool p) (.bool q)).run C.P w=_;unfold Op.equalIn;simp[run_underlying hu]
   split at hr
   ·rename_i hu;simp only[Zc]at hr;subst hr;refine good_same hs (v:= .bool (p==q)) ?_ (.im (.sc _ rfl));simp[execOp,hop,ex.sc_inv.1,ey.sc_inv.1,eqGuard,binOp,Sem.run_bind,he hu]
   ·rename_i hu;simp only[Zc]at hr;subst hr;refine good_same hs (v:= .bool (p !=q)) ?_ (.im (.sc _ rfl));simp[execOp,hop,ex.sc_inv.1,ey.sc_inv.1,eqGuard,binOp,Sem.run_bind,he hu,bne]
   ·cases hr
  ·rename_i k n k' m hx hy;simp only[Ze]at hr;obtain⟨v,hv,rfl⟩:=hr;have ex:=ev_rp hs hf x;have ey:=ev_rp hs hf y;rw[hx]at ex;rw[hy]at ey;obtain⟨this,hfl⟩:=binFast_run (P:=C.P) hv t w;refine good_same hs (v:=v) ?_ (.im (.sc _ hfl));simp only[execOp,hop,ex.sc_inv.1,ey.sc_inv.1,eqGuard];cases op<;>simp[Sem.run_bind,this]
  ·rename_i s1 s2 hx hy;simp only[Ze]at hr;obtain⟨v,hv,rfl⟩:=hr;have ex:=ev_rp hs hf x;have ey:=ev_rp hs hf y;rw[hx]at ex;rw[hy]at ey;refine good_same hs (v:=v) ?_ (.im (.sc _ ?_))
   ·have:=strOp_run (P:=C.P) hv t w;simp only[execOp,hop,ex.sc_inv.1,ey.sc_inv.1,eqGuard];cases op<;>simp[Sem.run_bind,this]
   ·unfold strOp at hv;cases op
    case add=>
     simp only at hv;split at hv
     ·cases hv;rfl
     ·cases hv
    all_goals (simp only[Zc]at hv)
    all_goals first|contradiction|(subst hv;rfl)
  ·cases hr
 ·rename_i t x hop;split at hr
  ·rename_i b hx;simp only[Zc]at hr;subst hr;have ex:=ev_rp hs hf x;rw[hx]at ex;exact good_same hs (v:= .bool !b) (by simp[execOp,hop,ex.sc_inv.1,Op.unary]) (.im (.sc _ rfl))
  ·cases hr
 ·rename_i t x hop;split at hr
  ·rename_i k n hx;simp only[Ze]at hr;obtain⟨v,hv,rfl⟩:=hr;have ex:=ev_rp hs hf x;rw[hx]at ex;simp only[intOp,Zc,fitI_wrap]at hv;subst hv;exact good_same hs (by simp[execOp,hop,ex.sc_inv.1,Op.unary,Op.intArith]) (.im (.sc _ rfl))
  ·cases hr
 ·rename_i src dst x hop;split at hr
  ·rename_i k0 n hx;split at hr
   ·rename_i k1 k h1 h2;simp only[Zc]at hr;subst hr;have ex:=ev_rp hs hf x;rw[hx]at ex;rw[fitI_wrap];exact good_same hs (v:= .int k (k.wrap n)) (by simp[execOp,hop,ex.sc_inv.1,convert,run_underlying h1,run_underlying h2,Conv.intToInt]) (.im (.sc _ rfl))
   ·cases hr
  ·cases hr
 ·rename_i t x ix hop;split at hr
  ·rename_i s k i hx hi;split at hr
   ·rename_i hc;simp only[Ze]at hr;obtain⟨b,hb,rfl⟩:=hr;have ex:=ev_rp hs hf x;have ei:=ev_rp hs hf ix;rw[hx]at ex;rw[hi]at ei;have hu:C.P.underlying t=some .string:=by
     have:=hc.1;unfold isStr at this;split at this
     ·assumption
     ·cases this
    have hg:s[i.toNat]?=some b:=by
     rw[←hb];show(if h:i.toNat<s.size then some s[i.toNat]else none)=_;split
     ·rename_i h;have:i.toNat<s.data.toList.length:=by simpa using h
      rw[Zb this];rfl
     ·rename_i h;rw[List.getElem?_eq_none (by simpa using h)]
    refine good_same hs (v:= .int .u8 b.toNat) ?_ (.im (.sc _ rfl));simp[execOp,hop,ex.sc_inv.1,ei.sc_inv.1,Instr.index,asIntOf,run_underlying hu,hc.2,hg]
   ·cases hr
  ·cases hr
 ·rename_i args tys hop;split at hr
  ·rename_i x t hl ht;have hl':args= #[x]:=by cases args;simp_all
   have ht':tys= #[t]:=by cases tys;simp_all
   subst hl' ht';split at hr
   ·rename_i s hx;split at hr
    ·rename_i hc;simp only[Zc]at hr;subst hr;have ex:=ev_rp hs hf x;rw[hx]at ex;have hu:C.P.underlying t=some .string:=by
      unfold isStr at hc;split at hc
      ·assumption
      ·cases hc
     refine good_same hs (v:= .int .i64 s.size) ?_ (.im (.sc _ rfl));simp[execOp,hop,resolve,invoke,builtin,Builtin.len_,ex.sc_inv.1,run_underlying hu,goInt]
    ·cases hr
   ·rename_i hx;split at hr
    ·rename_i hc;simp only[Zc]at hr;subst hr;have ex:=ev_rp hs hf x;rw[hx]at ex;obtain⟨el,hu⟩:∃el,C.P.underlying t=some (.slice el):=by
      unfold isSlT at hc;split at hc
      ·rename_i el hu;exact⟨el,hu⟩
      ·cases hc
     refine good_same hs (v:= .int .i64 0) ?_ (.im (.sc _ rfl));simp[execOp,hop,resolve,invoke,builtin,Builtin.len_,ex.sc_inv.1,run_underlying hu,goInt]
    ·cases hr
   ·cases hr
  ·cases hr
 ·rename_i args tys hop;split at hr
  ·rename_i x y hl;have hl':args= #[x,y]:=by cases args;simp_all
   subst hl';split at hr
   ·rename_i k p k' q hx hy;simp only[Zc]at hr;subst hr;have ex:=ev_rp hs hf x;have ey:=ev_rp hs hf y;rw[hx]at ex;rw[hy]at ey;refine good_same hs (v:= .int k (if q>p then q else p)) ?_ (.im (.sc _ rfl));simp[execOp,hop,resolve,invoke,builtin,Builtin.max_,Builtin.max2,ex.sc_inv.1,ey.sc_inv.1]
   ·cases hr
  ·cases hr
 ·rename_i args tys hop;split at hr
  ·rename_i x y hl;have hl':args= #[x,y]:=by cases args;simp_all
   subst hl';split at hr
   ·rename_i k p k' q hx hy;simp only[Zc]at hr;subst hr;have ex:=ev_rp hs hf x;have ey:=ev_rp hs hf y;rw[hx]at ex;rw[hy]at ey;refine good_same hs (v:= .int k (if q<p then q else p)) ?_ (.im (.sc _ rfl));simp[execOp,hop,resolve,invoke,builtin,Builtin.min_,Builtin.min2,ex.sc_inv.1,ey.sc_inv.1]
   ·cases hr
  ·cases hr
 ·cases hr
theorem slow_good {C:Cx}{w:World}{X:Nat→Prop}{ρ:Nat→Nat}{h:Hp}(hs:Sim C.G w X ρ h){a:Act}{fr:List AV}(hf:RF w (tot X ρ h) ρ h.length a.tmps fr){o:Oper}{r:AV}
 (hr:slowOp C (ev C fr) o=some r):Good C o a w X ρ h r h:=by
 unfold slowOp at hr;split at hr
 ·rename_i hc;simp only[Zh,List.all_eq_true,Bool.not_eq_true']at hc;obtain⟨hns,hall⟩:=hc;have he:execOp a.eval o=execOp (fun x=>detOf (ev C fr x)) o:=
   execOp_congr o (fun cs b hsel=>by simp[hsel,isSelect]at hns) fun x hx=>det_inv (ev_rp hs hf x) (hall x (by simpa using hx))
  split at hr
  ·rename_i v hv;have hrun:=runPure_run hv w;rw[←he]at hrun;refine good_same hs hrun ?_;unfold ofResult at hr;split at hr
   ·rename_i vs;split at hr
    ·rename_i hall;simp only[Zc]at hr;subst hr;obtain⟨h1,_,h3⟩:=flats_rp (w:=w) (X:=tot X ρ h) hall;exact .im (.tp vs _ h1 h3)
    ·cases hr
   ·rename_i vs;split at hr
    ·rename_i hall;simp only[Zc]at hr;subst hr;obtain⟨h1,h2,h3⟩:=flats_rp (w:=w) (X:=tot X ρ h) hall;exact .im (.ag vs _ h1 h2 h3)
    ·cases hr
   ·split at hr
    ·simp only[Zc]at hr;subst hr;exact .im (.sc _ (by assumption))
    ·cases hr
  ·cases hr
 ·cases hr
theorem scalar_good {C:Cx}{w:World}{X:Nat→Prop}{ρ:Nat→Nat}{h:Hp}(hs:Sim C.G w X ρ h){a:Act}{fr:List AV}(hf:RF w (tot X ρ h) ρ h.length a.tmps fr){o:Oper}{r:AV}
 (hr:scalarOp C (ev C fr) o=some r):Good C o a w X ρ h r h:=by
 unfold scalarOp at hr;split at hr
 ·rename_i r' hq;simp only[Zc]at hr;subst hr;exact fast_good hs hf hq
 ·exact slow_good hs hf hr
end Go.Ae
