/- Part of the proof. -/
import Derived.Deep.Slices
import GoSem.ClaimJoined
import Derived.Test.YtaibpnppeiigdaaGreatDoorP29
set_option linter.all false
set_option maxHeartbeats 32000000
set_option maxRecDepth 100000
namespace Go.Proofs.YtaibpnppeiigdaaGreatDoor
open Go Go.Ae Go.ChangeShapes Go.WideShapes Go.Proofs.Tryz
def WJ :prog.cellsOf 31=5:=by kernel_rfl
def WK :prog.cellsOf 3=1:=by kernel_rfl
def aeL :prog.cellsOf 9=1:=by kernel_rfl
def RV (w:World)(cs:List Value)(v:V):Prop:=cs.length=5/\∀(j:Nat) (y:AV),(enc v)[j]?=some y->(cs.getD j undef).oneCell'=true/\Ri w ef (cs.getD j undef) y
def O_ {p:Nat->V->Prop}:∀n,(∀i,i<n->∃x,p i x)->∃l:List V,l.length=n/\∀i v,l[i]?=some v->p i v
 |0,_=>⟨[],rfl,by simp⟩
 |
  n+1,h=>by
  obtain⟨l,hl,hp⟩:=O_ n λi hi=>h i (by omega)
  obtain⟨x,hx⟩:=h n (by omega);refine⟨l++[x],by simp[hl],λi v hv=>?_⟩;by_cases hi:i<n
  .rw[Zd (by omega)]at hv;exact hp i v hv
  .have dY:=(Za.1 hv).1;simp at dY;obtain rfl:i=n:=by omega
   rw[Zf (by omega),hl]at hv;simp at hv;subst hv;exact hx
def Pa {D:Nat}:∀{l:List V},(∀x∈l,fB x<=D)->Gw l<=D
 | [],_=>by simp[Gw]
 |
  x::xs,h=>by
  have h1:=h x (by simp);have h2:=Pa λy hy=>h y (Xn _ hy)
  rw[Gw];omega
def WL :∀{l:List V},(∀x∈l,gV x)->Px l
 | [],_=>by simp[Px]
 |
  x::xs,h=>by
  rw[Px];exact⟨h x (by simp),WL λy hy=>h y (Xn _ hy)⟩
def jz {n:Nat}(h:n<=reachBytes):n<=1000000000000000:=by unfold reachBytes at h;omega
def aeM :prog.bytesOf 31=64:=by kernel_rfl
def DM {H:Type}(a b c d e:DataW H):(DataW.agg [a,b,c,d,e]).weights prog 31=a.weights prog 3++(b.weights prog 3++(c.weights prog 3++(d.weights prog 9++(e.weights prog 29++[])))):=by
 rw[DataW.weights,underlying31];rfl
def CP {H:Type}(es sp:List (DataW H)):(DataW.slice es sp).weights prog 29=(es.length+sp.length)*64::(DataW.weightsAll prog 31 es++DataW.weightsAll prog 31 sp):=by
 rw[DataW.weights,underlying29,<-aeM]
def uH {H:Type}{e:TypeId}{d:DataW H}{m:Nat}(hm:m∈d.weights prog e):∀{l:List (DataW H)},d∈l->m∈DataW.weightsAll prog e l
 |
  x::l,h=>by
  rw[DataW.weightsAll];rcases Xm.1 h with rfl|h
  .exact Zy _ hm
  .exact Zk _ (uH hm h)
def Fits {H:Type}(t:TypeId)(d:DataW H):Prop:=∀m∈d.weights prog t,m<=reachBytes
section
variable {H : Type} {en : TypeId × Value -> H} {w : World} {held : Bool}
def R7 {a:Addr}{cap:Nat}{l:List V}(hl:l.length<=cap)(hm:cap<=maxLen)(hp:∀(i:Nat) (v:V),l[i]?=some v->∃cs,w.cells? 0 (a.add (i*5)) 5=some cs/\RV w cs v):Ri w ef (.slice (some a) l.length cap) (.ls 5 (dN l) false):=by
 cases qg:l with
 |nil=>exact .le _ _ _ _ hm (by simp)
 |
  cons v0 l0=>
  rw[<-qg];obtain⟨Y4,od,_⟩:=hp 0 v0 (by rw[qg];rfl);obtain⟨_,x9,hg0⟩:=World.cells?_some od;have h00:=hg0 0 (by omega);rw[Nat.zero_mul,Go.Deep.add_add,Zb (by omega)]at h00;obtain⟨b,o,sp⟩:=a;have h0:w.cell? ⟨b,o,sp⟩=some Y4[0]:=h00;unfold World.cell? at h0;cases hb:w.heap[b]? with
  |none=>rw[hb]at h0;cases h0
  |
   some ob=>
   rw[hb]at h0;cases ob<;>simp only[reduceCtorEq]at h0;rename_i dA t fz;cases sp with
   |some q=>simp at h0
   |
    none=>
    have at':∀k,w.cell? ⟨b,o+k,none⟩=dA[o+k]?:=λk=>by unfold World.cell?;rw[hb];rfl
    have aeN:∀k,(Addr.mk b o none).add k=⟨b,o+k,none⟩:=λk=>by
     unfold Addr.add;by_cases hk:k=0
     .subst hk;simp
     .simp[hk]
    have key:∀(i:Nat) (row:LA) (j:Nat) (x:AV),(dN l)[i]?=some row->row[j]?=some x->dA[o+i*5+j]?=some (dA.getD (o+i*5+j) undef)/\(dA.getD (o+i*5+j) undef).oneCell'=true/\Ri w ef (dA.getD (o+i*5+j) undef) x:=by
     intro i row j x hi hj;rw[fP]at hi;cases hv:l[i]? with
     |none=>rw[hv]at hi;cases hi
     |
      some v=>
      rw[hv]at hi;simp only[Xq,Zc]at hi;subst hi;have hj5:j<5:=by have:=(Za.1 hj).1;rwa [i7]at this
      obtain⟨cs,hc,hn,hr⟩:=hp i v hv;obtain⟨_,_,hg⟩:=World.cells?_some hc;have h1:=hg j hj5;rw[Go.Deep.add_add,aeN,at',Zb (by omega)]at h1;have e:dA.getD (o+i*5+j) undef=cs.getD j undef:=by
       rw[Zr,Nat.add_assoc,h1,Yj,Zb (by omega)]
      rw[e,Nat.add_assoc,h1,Yj,Zb (by omega)];have:=hr j x hj;rw[Yj,Zb (by omega)]at this;exact⟨rfl,this.1,this.2⟩
    refine .ls b o l.length cap 5 (dN l) false (λi j=>dA.getD (o+i*5+j) undef) dA t fz (λh=>h) hb (dK l) hl hm (by simp) ?_ (λi row j x hi hj=>⟨(key i row j x hi hj).1,(key i row j x hi hj).2.1⟩) (λi row j x hi hj=>(key i row j x hi hj).2.2);intro i row hi;rw[fP]at hi;cases hv:l[i]? with
    |none=>rw[hv]at hi;cases hi
    |
     some v=>
     rw[hv]at hi;simp only[Xq,Zc]at hi;rw[<-hi,i7]
def ag7 :∀(fuel:Nat) (cs:List Value) (x:DataW H × List MemPlace),DataW.trod en prog w 0 (λ_=>true) held fuel 31 cs=some x->Fits 31 x.1->∃v:V,fB v<=fuel/\gV v/\RV w cs v:=by
 intro fuel
 induction fuel using Nat.strongRecOn with
 |
  ind fuel ih=>
  intro cs x h hw;obtain⟨xs,n,rfl,rfl,hl,hn,hf⟩:=DataW.trod_struct underlying31 h;rw[WJ]at hl;have hn5:xs.length=5:=hn
  match cs,hl,xs,hn5 with
  |
   [c0,c1,c2,c3,c4],_,[x0,x1,x2,x3,x4],_=>
   have h0:=hf 0 _ rfl;have h1:=hf 1 _ rfl;have h2:=hf 2 _ rfl;have h3:=hf 3 _ rfl;have h4:=hf 4 _ rfl;clear hf h;simp only[Yg,Yf]at h0 h1 h2 h3 h4;obtain⟨k0,e0,_,_⟩:=DataW.trod_int underlying3 h0;obtain⟨k1,e1,_,_⟩:=DataW.trod_int underlying3 h1;obtain⟨k2,e2,_,_⟩:=DataW.trod_int underlying3 h2;obtain⟨s3,e3,w3,_⟩:=DataW.trod_string underlying9 h3;obtain rfl:c0=_:=(List.cons.inj e0).1;obtain rfl:c1=_:=(List.cons.inj e1).1;obtain rfl:c2=_:=(List.cons.inj e2).1;obtain rfl:c3=_:=(List.cons.inj e3).1;have oD:Fits 31 (DataW.agg [x0.1,x1.1,x2.1,x3.1,x4.1]):=hw;unfold Fits at oD;rw[DM]at oD;have hs:s3.size<=reachBytes:=oD _ (by
    refine Zk _ (Zk _ (Zk _ (Zy _ ?_)));rw[w3];exact List.mem_singleton.2 rfl)
   have hw4:Fits 29 x4.1:=λm hm=>oD m (Zk _ (Zk _ (Zk _ (Zk _ (Zy _ hm)))))
   have fin:∀(z:Bool) (l:List V) (D:Nat),(∀y∈l,fB y<=D)->D+1<=n+1->(∀y∈l,gV y)->l.length<=reachBytes->c4.oneCell'=true->Ri w ef c4 (fG z l)->
    ∃v:V,fB v<=n+1/\gV v/\RV w [.int .i64 k0,.int .i64 k1,.int .i64 k2,.string s3,c4] v:=by
    intro z l D hd hD hb C_ ho hr;refine⟨.mk k0 k1 k2 s3 z l,?_,?_,rfl,λj y hj=>?_⟩
    .rw[fB];have:=Pa hd;omega
    .rw[gV];exact⟨jz hs,jz C_,WL hb⟩
    .match j,hj with
     |0,hj=>cases hj;exact⟨rfl,.sc _ rfl⟩
     |1,hj=>cases hj;exact⟨rfl,.sc _ rfl⟩
     |2,hj=>cases hj;exact⟨rfl,.sc _ rfl⟩
     |3,hj=>cases hj;exact⟨rfl,.sc _ rfl⟩
     |4,hj=>cases hj;exact⟨ho,hr⟩
     |_+5,hj=>simp[enc]at hj
   rcases DataW.trod_slice underlying29 h4 with⟨e,_⟩|⟨a,len,cap,elems,rest,m,hm,e,wx,_,YT,yf,Bu,hq,_⟩
   .obtain rfl:c4=_:=(List.cons.inj e).1;exact fin true [] 0 (by simp) (by omega) (by simp) (by simp) rfl (.sc _ rfl)
   .obtain rfl:c4=_:=(List.cons.inj e).1;unfold Fits at hw4;rw[wx,CP]at hw4;have cU:elems.length<=reachBytes:=by
     have:=hw4 _ (List.mem_cons_self ..);simp only[Yk]at this;omega
    obtain⟨l,C_,hp⟩:=O_ (p:=λi v=>fB v<=m/\gV v/\∃cs',w.cells? 0 (a.add (i*5)) 5=some cs'/\RV w cs' v) len (λi hi=>by
     have h5:=hq i hi;rw[WJ,Zb (by omega)]at h5;obtain⟨cs',q1,q2⟩:=Yh.1 h5;obtain⟨v,d1,d2,d3⟩:=ih m (by omega) cs' _ q2 (λk hk=>hw4 k (Xn _ (Zy _ (uH hk (Yi.2 ⟨_,Xd _,rfl⟩)))));exact⟨v,d1,d2,cs',q1,d3⟩)
    have kM:∀y∈l,fB y<=m/\gV y:=λy hy=>by
     obtain⟨i,hi⟩:=List.getElem?_of_mem hy;exact⟨(hp i y hi).1,(hp i y hi).2.1⟩
    refine fin false l m (λy hy=>(kM y hy).1) (by omega) (λy hy=>(kM y hy).2) (by omega) rfl ?_;have:=R7 (w:=w) (a:=a) (cap:=cap) (l:=l) (by omega) yf (λi v hv=>(hp i v hv).2.2);rw[C_]at this;unfold fG ql;simpa using this
end
def RR (w:World)(cs:List Value)(row:LA):Prop:=cs.length=row.length/\∀(j:Nat) (y:AV),row[j]?=some y->(cs.getD j undef).oneCell'=true/\Ri w ef (cs.getD j undef) y
def WM {w:World}{cs:List Value}{v:V}(h:RV w cs v):RR w cs (enc v):=⟨by rw[h.1,i7],h.2⟩
def Kb {α:Type}{p:Nat->α->Prop}:∀n,(∀i,i<n->∃x,p i x)->∃l:List α,l.length=n/\∀i v,l[i]?=some v->p i v
 |0,_=>⟨[],rfl,by simp⟩
 |
  n+1,h=>by
  obtain⟨l,hl,hp⟩:=Kb n λi hi=>h i (by omega)
  obtain⟨x,hx⟩:=h n (by omega);refine⟨l++[x],by simp[hl],λi v hv=>?_⟩;by_cases hi:i<n
  .rw[Zd (by omega)]at hv;exact hp i v hv
  .have dY:=(Za.1 hv).1;simp at dY;obtain rfl:i=n:=by omega
   rw[Zf (by omega),hl]at hv;simp at hv;subst hv;exact hx
def kf {w:World}{c1 c2:List Value}{r1 r2:LA}(h1:RR w c1 r1)(h2:RR w c2 r2):RR w (c1++c2) (r1++r2):=by
 refine⟨by rw[Zu,Zu,h1.1,h2.1],λj y hj=>?_⟩;by_cases dY:j<r1.length
 .rw[Zd dY]at hj;rw[Yj,Zd (by rw[h1.1];exact dY),<-Yj];exact h1.2 j y hj
 .rw[Zf (by omega)]at hj;rw[Yj,Zf (by rw[h1.1];omega),h1.1,<-Yj];exact h2.2 _ y hj
def GU {w:World}{c:Value}{x:AV}(ho:c.oneCell'=true)(h:Ri w ef c x):RR w [c] [x]:=⟨rfl,λj y hj=>by
 match j,hj with
 |0,hj=>cases hj;exact⟨ho,h⟩
 |_+1,hj=>simp at hj⟩
section
variable {w : World}
def aby {a:Addr}{cap sz:Nat}{cY:List LA}(gC:0<sz)(hl:cY.length<=cap)(hm:cap<=maxLen)(fX:∀row∈cY,row.length=sz)(hp:∀(i:Nat) (row:LA),cY[i]?=some row->∃cs,w.cells? 0 (a.add (i*sz)) sz=some cs/\RR w cs row):Ri w ef (.slice (some a) cY.length cap) (.ls sz cY false):=by
 cases qg:cY with
 |nil=>exact .le _ _ _ _ hm (by simp)
 |
  cons v0 l0=>
  rw[<-qg];obtain⟨Y4,od,hr0⟩:=hp 0 v0 (by rw[qg];rfl);have x9:Y4.length=sz:=by rw[hr0.1];exact fX v0 (by rw[qg];simp)
  obtain⟨_,_,hg0⟩:=World.cells?_some od;have h00:=hg0 0 gC;rw[Nat.zero_mul,Go.Deep.add_add,Zb (by omega)]at h00;obtain⟨b,o,sp⟩:=a;have h0:w.cell? ⟨b,o,sp⟩=some Y4[0]:=h00;unfold World.cell? at h0;cases hb:w.heap[b]? with
  |none=>rw[hb]at h0;cases h0
  |
   some ob=>
   rw[hb]at h0;cases ob<;>simp only[reduceCtorEq]at h0;rename_i dA t fz;cases sp with
   |some q=>simp at h0
   |
    none=>
    have at':∀k,w.cell? ⟨b,o+k,none⟩=dA[o+k]?:=λk=>by unfold World.cell?;rw[hb];rfl
    have aeN:∀k,(Addr.mk b o none).add k=⟨b,o+k,none⟩:=λk=>by
     unfold Addr.add;by_cases hk:k=0
     .subst hk;simp
     .simp[hk]
    have key:∀(i:Nat) (row:LA) (j:Nat) (x:AV),cY[i]?=some row->row[j]?=some x->dA[o+i*sz+j]?=some (dA.getD (o+i*sz+j) undef)/\(dA.getD (o+i*sz+j) undef).oneCell'=true/\Ri w ef (dA.getD (o+i*sz+j) undef) x:=by
     intro i row j x hi hj;have nC:=fX row (Zi hi);have hj5:j<sz:=by have:=(Za.1 hj).1;omega
     obtain⟨cs,hc,hr⟩:=hp i row hi;have hn:cs.length=sz:=by rw[hr.1,nC]
     obtain⟨_,_,hg⟩:=World.cells?_some hc;have h1:=hg j hj5;rw[Go.Deep.add_add,aeN,at',Zb (by omega)]at h1;have e:dA.getD (o+i*sz+j) undef=cs.getD j undef:=by
      rw[Zr,Nat.add_assoc,h1,Yj,Zb (by omega)]
     rw[e,Nat.add_assoc,h1,Yj,Zb (by omega)];have:=hr.2 j x hj;rw[Yj,Zb (by omega)]at this;exact⟨rfl,this.1,this.2⟩
    exact .ls b o cY.length cap sz cY false (λi j=>dA.getD (o+i*sz+j) undef) dA t fz (λh=>h) hb rfl hl hm (by simp) (λi row hi=>fX row (Zi hi)) (λi row j x hi hj=>⟨(key i row j x hi hj).1,(key i row j x hi hj).2.1⟩) (λi row j x hi hj=>(key i row j x hi hj).2.2)
end
section
variable {H : Type} {en : TypeId × Value -> H} {w : World} {held : Bool}
def Reads (H:Type)(en:TypeId × Value->H)(w:World)(held:Bool){α:Type}(t:TypeId)(encA:α->LA)(P:Nat->α->Prop):Prop:=
 ∀(fuel:Nat) (cs:List Value) (x:DataW H × List MemPlace),DataW.trod en prog w 0 (λ_=>true) held fuel t cs=some x->Fits t x.1->∃a:α,P fuel a/\RR w cs (encA a)
def mE {α:Type}{encA:α->LA}{P:Nat->α->Prop}{te tl:TypeId}{sz bs:Nat}(ht:prog.underlying tl=some (.slice te))(gC:0<sz)(hc:prog.cellsOf te=sz)(hb:prog.bytesOf te=bs+1)(Uc:∀a,(encA a).length=sz)(ag8:∀m n a,m<=n->P m a->P n a)(rd:Reads H en w held te encA P):
 Reads H en w held tl (λl:List α=> [.ls sz (l.map encA) false]) (λn l=>(∀a∈l,P n a)/\l.length<=reachBytes):=by
 intro fuel cs x h hw;rcases DataW.trod_slice ht h with⟨e,_⟩|⟨a,len,cap,elems,rest,m,hm,e,wx,_,YT,yf,Bu,hq,_⟩
 .subst e;exact⟨[],⟨by simp,by simp⟩,GU rfl (.le none 0 sz false (Nat.zero_le _) (by simp))⟩
 .subst e;unfold Fits at hw;rw[wx,DataW.weights,ht]at hw;have cU:elems.length<=reachBytes:=by
   have:=hw _ (List.mem_cons_self ..);simp only[Yk]at this;rw[hb]at this;have h2:elems.length*1<=(elems.length+rest.length)*(bs+1):=Nat.mul_le_mul (by omega) (by omega);omega
  obtain⟨l,C_,hp⟩:=Kb (p:=λi v=>P m v/\∃cs',w.cells? 0 (a.add (i*sz)) sz=some cs'/\RR w cs' (encA v)) len (λi hi=>by
   have h5:=hq i hi;rw[hc,Zb (by omega)]at h5;obtain⟨cs',q1,q2⟩:=Yh.1 h5;obtain⟨v,d1,d3⟩:=rd m cs' _ q2 (λk hk=>hw k (Xn _ (Zy _ (uH hk (Yi.2 ⟨_,Xd _,rfl⟩)))));exact⟨v,d1,cs',q1,d3⟩)
  refine⟨l,⟨λy hy=>?_,by omega⟩,GU rfl ?_⟩
  .obtain⟨i,hi⟩:=List.getElem?_of_mem hy;exact ag8 _ _ _ (by omega) (hp i y hi).1
  .have:=aby (w:=w) (a:=a) (cap:=cap) (cY:=l.map encA) gC (by rw[Yk];omega) yf (λrow hr=>by obtain⟨v,_,rfl⟩:=Yi.1 hr;exact Uc v) (λi row hr=>by
    rw[Zs]at hr;obtain⟨v,hv,rfl⟩:=Ze.1 hr;exact(hp i v hv).2)
   rw[Yk,C_]at this;exact this
end
def Pb :prog.cellsOf 143=6:=by kernel_rfl
def abz :prog.bytesOf 143=79+1:=by kernel_rfl
def aeO :prog.bytesOf 9=15+1:=by kernel_rfl
def GX {H:Type}(a b:DataW H):(DataW.agg [a,b]).weights prog 143=a.weights prog 9++(b.weights prog 31++[]):=by
 rw[DataW.weights,underlying143];rfl
section
variable {H : Type} {en : TypeId × Value -> H} {w : World} {held : Bool}
def mW :Reads H en w held 9 (λs:ByteArray=> [.sc (.string s)]) (λ_ s=>s.size<=reachBytes):=by
 intro fuel cs x h hw;obtain⟨s,e,wx,_⟩:=DataW.trod_string underlying9 h;subst e;refine⟨s,?_,GU rfl (.sc _ rfl)⟩;unfold Fits at hw;rw[wx]at hw;exact hw _ (List.mem_singleton.2 rfl)
def uI :Reads H en w held 31 enc (λn v=>fB v<=n/\gV v):=by
 intro fuel cs x h hw;obtain⟨v,d1,d2,d3⟩:=ag7 fuel cs x h hw;exact⟨v,⟨d1,d2⟩,WM d3⟩
def Nc :Reads H en w held 143 lM (λn c=>fB c.v<=n/\gV c.v/\c.key.size<=reachBytes):=by
 intro fuel cs x h hw;obtain⟨xs,n,rfl,rfl,hl,hn,hf⟩:=DataW.trod_struct underlying143 h;rw[Pb]at hl;have Dx:xs.length=2:=hn
 match cs,hl,xs,Dx with
 |
  [c0,c1,c2,c3,c4,c5],_,[x0,x1],_=>
  have h0:=hf 0 _ rfl;have h1:=hf 1 _ rfl;clear hf h;simp only[Yg,Yf]at h0 h1;have oD:Fits 143 (DataW.agg [x0.1,x1.1]):=hw;unfold Fits at oD;rw[GX]at oD;obtain⟨s,hs,r0⟩:=mW n _ _ h0 (λm hm=>oD m (Zy _ hm));obtain⟨v,hv,r1⟩:=uI n _ _ h1 (λm hm=>oD m (Zk _ (Zy _ hm)));exact⟨⟨s,v⟩,⟨by have:=hv.1;show fB v<=n+1;omega,hv.2,hs⟩,kf r0 r1⟩
end
def WN :prog.cellsOf 91=3:=by kernel_rfl
def WO :prog.cellsOf 94=5:=by kernel_rfl
def aeP :prog.cellsOf 25=4:=by kernel_rfl
def WQ :prog.cellsOf 61=10:=by kernel_rfl
def aeQ :prog.bytesOf 91=55+1:=by kernel_rfl
def aeR :prog.bytesOf 94=63+1:=by kernel_rfl
def GY {H:Type}(a b c:DataW H):(DataW.agg [a,b,c]).weights prog 91=a.weights prog 3++(b.weights prog 28++(c.weights prog 89++[])):=by
 rw[DataW.weights,underlying91];rfl
def GZ {H:Type}(a b c d e:DataW H):(DataW.agg [a,b,c,d,e]).weights prog 94=a.weights prog 3++(b.weights prog 3++(c.weights prog 3++(d.weights prog 9++(e.weights prog 89++[])))):=by
 rw[DataW.weights,underlying94];rfl
def DN {H:Type}(a b c d:DataW H):(DataW.agg [a,b,c,d]).weights prog 25=a.weights prog 22++(b.weights prog 23++(c.weights prog 3++(d.weights prog 3++[]))):=by
 rw[DataW.weights,underlying25];rfl
def CQ {H:Type}(a b c d e f:DataW H):(DataW.agg [a,b,c,d,e,f]).weights prog 61=a.weights prog 3++(b.weights prog 3++(c.weights prog 3++(d.weights prog 3++(e.weights prog 9++(f.weights prog 31++[]))))):=by
 rw[DataW.weights,underlying61];rfl
section
variable {H : Type} {en : TypeId × Value -> H} {w : World} {held : Bool}
def jm :Reads H en w held 3 (λk:Int=> [.sc (.int .i64 k)]) (λ_ _=>True):=by
 intro fuel cs x h hw;obtain⟨k,e,_,_⟩:=DataW.trod_int underlying3 h;subst e;exact⟨k,trivial,GU rfl (.sc _ rfl)⟩
def xT :Reads H en w held 28 (λl:List ByteArray=> [.ls 1 (l.map λs=> [.sc (.string s)]) false]) (λ_ l=>(∀s∈l,s.size<=reachBytes)/\l.length<=reachBytes):=
 mE (encA:=λs:ByteArray=> [.sc (.string s)]) (P:=λ_ (s:ByteArray)=>s.size<=reachBytes) underlying28 (by omega) aeL aeO (λ_=>rfl) (λ_ _ _ _ h=>h) mW
def zR :Reads H en w held 89 (λl:List iP=> [.ls 6 (l.map lM) false]) (λn l=>(∀c∈l,fB c.v<=n/\gV c.v/\c.key.size<=reachBytes)/\l.length<=reachBytes):=
 mE (encA:=lM) (P:=λn (c:iP)=>fB c.v<=n/\gV c.v/\c.key.size<=reachBytes) underlying89 (by omega) Pb abz (λc=>by simp) (λm n a hm h=>⟨Yn h.1 hm,h.2⟩) Nc
def NdR (n:Nat)(m:Nd):Prop:=(∀s∈m.labels,s.size<=reachBytes)/\m.labels.length<=reachBytes/\(∀c∈m.props,fB c.v<=n/\gV c.v/\c.key.size<=reachBytes)/\m.props.length<=reachBytes
def EdR (n:Nat)(m:Ed):Prop:=m.type.size<=reachBytes/\(∀c∈m.props,fB c.v<=n/\gV c.v/\c.key.size<=reachBytes)/\m.props.length<=reachBytes
def Nf :Reads H en w held 91 eo NdR:=by
 intro fuel cs x h hw;obtain⟨xs,n,rfl,rfl,hl,hn,hf⟩:=DataW.trod_struct underlying91 h;rw[WN]at hl;have Dx:xs.length=3:=hn
 match cs,hl,xs,Dx with
 |
  [c0,c1,c2],_,[x0,x1,x2],_=>
  have h0:=hf 0 _ rfl;have h1:=hf 1 _ rfl;have h2:=hf 2 _ rfl;clear hf h;simp only[Yg,Yf]at h0 h1 h2;have oD:Fits 91 (DataW.agg [x0.1,x1.1,x2.1]):=hw;unfold Fits at oD;rw[GY]at oD;obtain⟨k,_,r0⟩:=jm n _ _ h0 (λm hm=>oD m (Zy _ hm));obtain⟨l,hl,r1⟩:=xT n _ _ h1 (λm hm=>oD m (Zk _ (Zy _ hm)));obtain⟨p,hp,r2⟩:=zR n _ _ h2 (λm hm=>oD m (Zk _ (Zk _ (Zy _ hm))));exact⟨⟨k,l,p⟩,⟨hl.1,hl.2,λc hc=>⟨by have:=(hp.1 c hc).1;omega,(hp.1 c hc).2⟩,hp.2⟩,kf r0 (kf r1 r2)⟩
def Ng :Reads H en w held 94 eY EdR:=by
 intro fuel cs x h hw;obtain⟨xs,n,rfl,rfl,hl,hn,hf⟩:=DataW.trod_struct underlying94 h;rw[WO]at hl;have Dx:xs.length=5:=hn
 match cs,hl,xs,Dx with
 |
  [c0,c1,c2,c3,c4],_,[x0,x1,x2,x3,x4],_=>
  have h0:=hf 0 _ rfl;have h1:=hf 1 _ rfl;have h2:=hf 2 _ rfl;have h3:=hf 3 _ rfl;have h4:=hf 4 _ rfl;clear hf h;simp only[Yg,Yf]at h0 h1 h2 h3 h4;have oD:Fits 94 (DataW.agg [x0.1,x1.1,x2.1,x3.1,x4.1]):=hw;unfold Fits at oD;rw[GZ]at oD;obtain⟨k,_,r0⟩:=jm n _ _ h0 (λm hm=>oD m (Zy _ hm));obtain⟨k1,_,r1⟩:=jm n _ _ h1 (λm hm=>oD m (Zk _ (Zy _ hm)));obtain⟨k2,_,r2⟩:=jm n _ _ h2 (λm hm=>oD m (Zk _ (Zk _ (Zy _ hm))));obtain⟨s,hs,r3⟩:=mW n _ _ h3 (λm hm=>oD m (Zk _ (Zk _ (Zk _ (Zy _ hm)))));obtain⟨p,hp,r4⟩:=zR n _ _ h4 (λm hm=>oD m (Zk _ (Zk _ (Zk _ (Zk _ (Zy _ hm))))));exact⟨⟨k,k1,k2,s,p⟩,⟨hs,λc hc=>⟨by have:=(hp.1 c hc).1;omega,(hp.1 c hc).2⟩,hp.2⟩,kf r0 (kf r1 (kf r2 (kf r3 r4)))⟩
def Kc :Reads H en w held 22 (λl:List Nd=> [.ls 3 (l.map eo) false]) (λn l=>(∀c∈l,NdR n c)/\l.length<=reachBytes):=
 mE (encA:=eo) (P:=NdR) underlying22 (by omega) WN aeQ (λ_=>rfl) (λm n a hm h=>⟨h.1,h.2.1,λc hc=>⟨Yn (h.2.2.1 c hc).1 hm,(h.2.2.1 c hc).2⟩,h.2.2.2⟩) Nf
def Ke :Reads H en w held 23 (λl:List Ed=> [.ls 5 (l.map eY) false]) (λn l=>(∀c∈l,EdR n c)/\l.length<=reachBytes):=
 mE (encA:=eY) (P:=EdR) underlying23 (by omega) WO aeR (λ_=>rfl) (λm n a hm h=>⟨h.1,λc hc=>⟨Yn (h.2.1 c hc).1 hm,(h.2.1 c hc).2⟩,h.2.2⟩) Ng
def Kf :Reads H en w held 25 dn (λn g=>AX n g/\SzB g):=by
 intro fuel cs x h hw;obtain⟨xs,n,rfl,rfl,hl,hn,hf⟩:=DataW.trod_struct underlying25 h;rw[aeP]at hl;have Dx:xs.length=4:=hn
 match cs,hl,xs,Dx with
 |
  [c0,c1,c2,c3],_,[x0,x1,x2,x3],_=>
  have h0:=hf 0 _ rfl;have h1:=hf 1 _ rfl;have h2:=hf 2 _ rfl;have h3:=hf 3 _ rfl;clear hf h;simp only[Yg,Yf]at h0 h1 h2 h3;have oD:Fits 25 (DataW.agg [x0.1,x1.1,x2.1,x3.1]):=hw;unfold Fits at oD;rw[DN]at oD;obtain⟨ns,ou,r0⟩:=Kc n _ _ h0 (λm hm=>oD m (Zy _ hm));obtain⟨es,tx,r1⟩:=Ke n _ _ h1 (λm hm=>oD m (Zk _ (Zy _ hm)));obtain⟨k2,_,r2⟩:=jm n _ _ h2 (λm hm=>oD m (Zk _ (Zk _ (Zy _ hm))));obtain⟨k3,_,r3⟩:=jm n _ _ h3 (λm hm=>oD m (Zk _ (Zk _ (Zk _ (Zy _ hm)))));refine⟨⟨ns,es,k2,k3⟩,⟨⟨jz ou.2,jz tx.2,λm hm=>?_,λm hm=>?_⟩,⟨λm hm=>?_,λm hm=>?_⟩⟩,kf r0 (kf r1 (kf r2 r3))⟩
  .have q:=ou.1 m hm;exact⟨jz q.2.1,jz q.2.2.2,λc hc=>⟨Nat.le_succ_of_le (q.2.2.1 c hc).1,(q.2.2.1 c hc).2.1⟩⟩
  .have q:=tx.1 m hm;exact⟨jz q.2.2,λc hc=>⟨Nat.le_succ_of_le (q.2.1 c hc).1,(q.2.1 c hc).2.1⟩⟩
  .have q:=ou.1 m hm;exact⟨λs hs=>jz (q.1 s hs),λc hc=>jz (q.2.2.1 c hc).2.2⟩
  .have q:=tx.1 m hm;exact⟨jz q.1,λc hc=>jz (q.2.1 c hc).2.2⟩
end
end Go.Proofs.YtaibpnppeiigdaaGreatDoor
namespace Go.Proofs.YtaibpnppeiigdaaGreatDoor
open Go Go.Ae Go.Proofs.Tryz
section
attribute [local simp] zi da XM
@[simp] def WR (p:Pr):(adp p).length=8:=by obtain⟨k,n,y,v⟩:=p;obtain⟨a,b,c,d,e,f⟩:=v;rfl
@[simp] def aje (p:Pr):(adp p).take 8=adp p:=by rw[Ys];rw[WR];exact Yt _
end
end Go.Proofs.YtaibpnppeiigdaaGreatDoor
namespace Go.Proofs.YtaibpnppeiigdaaGreatDoor
open Go Go.Ae Go.ChangeShapes Go.WideShapes Go.Proofs.Tryz
def aeS :prog.bytesOf 61=111+1:=by kernel_rfl
section
variable {H : Type} {en : TypeId × Value -> H} {w : World} {held : Bool}
def R8 (c:Ch):(dp c).length=10:=by obtain⟨a,b,c,d,e,v⟩:=c;obtain⟨k,m,d,s,z,l⟩:=v;rfl
end
def WT {H:Type}{en:TypeId × Value->H}{W:World}{base:Nat}{α:Type}{R:α->AV}{P:Nat->α->Prop}{t e:TypeId}(ht:prog.underlying t=some (.slice e))(rd:Reads H en W true t (λl=> [R l]) P){v:Value}{d:DataW H}{ps:List MemPlace}(hv:Value.okWide prog W .any base t v)(h:DataW.Trod en prog W 0 (λ_=>true) true t v d ps)(hw:Fits t d):∃(n:Nat) (a:α),P n a/\Ri W ef v (R a):=by
 obtain⟨fuel,hf⟩:=h;obtain⟨a,hp,hr⟩:=rd fuel _ _ hf hw;refine⟨fuel,a,hp,?_⟩;have hx:=(hr.2 0 _ rfl).2;unfold Value.okWide at hv;rw[ht]at hv;cases v with
 |agg cs=>exact(by simp[Cell.okWide,Cell.ok,ht]at hv)
 |_=>exact hx
def abA :prog.cellsOf 33=9:=by kernel_rfl
def aeT :prog.bytesOf 3=7+1:=by kernel_rfl
def G0 {H:Type}(a b c d e:DataW H):(DataW.agg [a,b,c,d,e]).weights prog 33=a.weights prog 3++(b.weights prog 27++(c.weights prog 9++(d.weights prog 28++(e.weights prog 31++[])))):=by
 rw[DataW.weights,underlying33];rfl
section
variable {H : Type} {en : TypeId × Value -> H} {w : World} {held : Bool}
def DP :Reads H en w held 61 dp (λn c=>fB c.v<=n/\gV c.v/\c.name.size<=reachBytes):=by
 intro fuel cs x h hw;obtain⟨xs,n,rfl,rfl,hl,hn,hf⟩:=DataW.trod_struct underlying61 h;rw[WQ]at hl;have Dx:xs.length=6:=hn
 match cs,hl,xs,Dx with
 |
  [c0,c1,c2,c3,c4,c5,c6,c7,c8,c9],_,[x0,x1,x2,x3,x4,x5],_=>
  have h0:=hf 0 _ rfl;have h1:=hf 1 _ rfl;have h2:=hf 2 _ rfl;have h3:=hf 3 _ rfl;have h4:=hf 4 _ rfl;have h5:=hf 5 _ rfl;clear hf h;simp only[Yg,Yf]at h0 h1 h2 h3 h4 h5;have oD:Fits 61 (DataW.agg [x0.1,x1.1,x2.1,x3.1,x4.1,x5.1]):=hw;unfold Fits at oD;rw[CQ]at oD;obtain⟨k,_,r0⟩:=jm n _ _ h0 (λm hm=>oD m (Zy _ hm));obtain⟨k1,_,r1⟩:=jm n _ _ h1 (λm hm=>oD m (Zk _ (Zy _ hm)));obtain⟨k2,_,r2⟩:=jm n _ _ h2 (λm hm=>oD m (Zk _ (Zk _ (Zy _ hm))));obtain⟨k3,_,r3⟩:=jm n _ _ h3 (λm hm=>oD m (Zk _ (Zk _ (Zk _ (Zy _ hm)))));obtain⟨s,hs,r4⟩:=mW n _ _ h4 (λm hm=>oD m (Zk _ (Zk _ (Zk _ (Zk _ (Zy _ hm))))));obtain⟨v,hv,r5⟩:=uI n _ _ h5 (λm hm=>oD m (Zk _ (Zk _ (Zk _ (Zk _ (Zk _ (Zy _ hm)))))));exact⟨⟨k,k1,k2,k3,s,v⟩,⟨by have:=hv.1;show fB v<=n+1;omega,hv.2,hs⟩,kf r0 (kf r1 (kf r2 (kf r3 (kf r4 r5))))⟩
def CR :Reads H en w held 26 (λl:List Ch=> [.ls 10 (zd l) false]) (λn l=>(∀c∈l,fB c.v<=n/\gV c.v/\c.name.size<=reachBytes)/\l.length<=reachBytes):=
 mE (encA:=dp) (P:=λn (c:Ch)=>fB c.v<=n/\gV c.v/\c.name.size<=reachBytes) underlying26 (by omega) WQ aeS R8 (λm n a hm h=>⟨Yn h.1 hm,h.2⟩) DP
def Nh :Reads H en w held 27 (λl:List Int=> [.ls 1 (tI l) false]) (λ_ l=>(∀x∈l,True)/\l.length<=reachBytes):=
 mE (encA:=λk:Int=> [.sc (.int .i64 k)]) (P:=λ_ (_:Int)=>True) underlying27 (by omega) WK aeT (λ_=>rfl) (λ_ _ _ _ h=>h) jm
def Ni :Reads H en w held 33 encA (λn a=>fB a.v<=n/\gV a.v/\a.ts.length<=reachBytes):=by
 intro fuel cs x h hw;obtain⟨xs,n,rfl,rfl,hl,hn,hf⟩:=DataW.trod_struct underlying33 h;rw[abA]at hl;have Dx:xs.length=5:=hn
 match cs,hl,xs,Dx with
 |
  [c0,c1,c2,c3,c4,c5,c6,c7,c8],_,[x0,x1,x2,x3,x4],_=>
  have h0:=hf 0 _ rfl;have h1:=hf 1 _ rfl;have h2:=hf 2 _ rfl;have h3:=hf 3 _ rfl;have h4:=hf 4 _ rfl;clear hf h;simp only[Yg,Yf]at h0 h1 h2 h3 h4;have oD:Fits 33 (DataW.agg [x0.1,x1.1,x2.1,x3.1,x4.1]):=hw;unfold Fits at oD;rw[G0]at oD;obtain⟨k,_,r0⟩:=jm n _ _ h0 (λm hm=>oD m (Zy _ hm));obtain⟨vs,_,r1⟩:=Nh n _ _ h1 (λm hm=>oD m (Zk _ (Zy _ hm)));obtain⟨s,_,r2⟩:=mW n _ _ h2 (λm hm=>oD m (Zk _ (Zk _ (Zy _ hm))));obtain⟨ts,hts,r3⟩:=xT n _ _ h3 (λm hm=>oD m (Zk _ (Zk _ (Zk _ (Zy _ hm)))));obtain⟨v,hv,r4⟩:=uI n _ _ h4 (λm hm=>oD m (Zk _ (Zk _ (Zk _ (Zk _ (Zy _ hm))))));exact⟨⟨k,vs,s,ts,v⟩,⟨by have:=hv.1;show fB v<=n+1;omega,hv.2,hts.2⟩,kf r0 (kf r1 (kf r2 (kf r3 r4)))⟩
end
end Go.Proofs.YtaibpnppeiigdaaGreatDoor
