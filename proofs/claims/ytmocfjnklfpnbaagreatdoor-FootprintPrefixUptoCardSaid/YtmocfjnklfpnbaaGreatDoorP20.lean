/- Contracts: the program's order of values; the orders of predicates. -/
import Derived.Test.YtmocfjnklfpnbaaGreatDoorP19
import Derived.Deep.Slices
import GoSem.ClaimJoined
import Derived.Test.YtmocfjnklfpnbaaGreatDoorP13
set_option linter.all false
set_option maxRecDepth 100000
namespace Go.Proofs.YtmocfjnklfpnbaaGreatDoor
open Go Go.Ae
section
attribute [local simp] aop aopW coldF extF putA ofConst flat scalarOp fastOp binFast intOp strOp guardX Ae.part rowOf szOk natOf lenA cls fillA splice newsOf isNilC cellX
set_option maxHeartbeats 8000000
theorem val_Order1 (M:Nat)(v w:V)(b:Bool)(h:Hp)(c:Int)(p q:Bool)
 (hv:∀b h,callN cx (M+1) b 73 [evV v] h=some (.sc (.bool p),h)) (hw:∀b h,callN cx (M+1) b 73 [evV w] h=some (.sc (.bool q),h))
 (ho:p=true→q=true→∀b h,callN cx (M+1) b 74 [evV v,evV w] h=some (.sc (.int .i64 c),h)) (hpq:¬(p=false∧q=false)):
 callN cx (M+2) b 39 [evV v,evV w] h=some (.sc (.int .i64 (bif p then(bif q then c else-1)else 1)),h):=by
 have hca:=calm_evV2 v w;refine pure_calm (r:= .sc (.int .i64 (bif p then(bif q then c else-1)else 1))) (n:=M+1) ⟨Tryz.f39.ntmps,(Tryz.f39.body).getD .skip,[.tmp 4]⟩ (by kernel_rfl) (by kernel_rfl) rfl (by kernel_rfl) (by simp[Tryz.f39]) hca rfl ?_ b h;clear hca;cases v with
 |
  mk k n d s z l=>
  cases w with
  |
   mk k' n' d' s' z' l'=>
   rw[evV_eq]at hv ho⊢;rw[evV_eq]at hw ho⊢;generalize evL z l=L at hv ho;generalize evL z' l'=L' at hw ho;cases p<;>cases q<;>simp at hpq
   ·simp[Tryz.f39,hv,hw]
   ·simp[Tryz.f39,hv,hw]
   ·have ho':=ho rfl rfl;simp[Tryz.f39,hv,hw,ho']
theorem val_Order2 (M:Nat)(v w:V)(b:Bool)(h:Hp)(c1 c2 c3 c4 c5:Int)
 (hv:∀b h,callN cx (M+1) b 73 [evV v] h=some (.sc (.bool false),h)) (hw:∀b h,callN cx (M+1) b 73 [evV w] h=some (.sc (.bool false),h))
 (h1:∀b h,callN cx (M+1) b 37 [.sc (.int .i64 v.k),.sc (.int .i64 w.k)] h=some (.sc (.int .i64 c1),h))
 (h2:∀b h,callN cx (M+1) b 37 [.sc (.int .i64 v.n),.sc (.int .i64 w.n)] h=some (.sc (.int .i64 c2),h))
 (h3:∀b h,callN cx (M+1) b 37 [.sc (.int .i64 v.d),.sc (.int .i64 w.d)] h=some (.sc (.int .i64 c3),h))
 (h4:∀b h,callN cx (M+1) b 38 [.sc (.string v.s),.sc (.string w.s)] h=some (.sc (.int .i64 c4),h))
 (hl:∀b h,callN cx (M+1) b 75 [evL v.isNil v.l,evL w.isNil w.l,.fn 39 []] h=some (.sc (.int .i64 c5),h)):
 callN cx (M+2) b 39 [evV v,evV w] h=some (.sc (.int .i64 (orI [c1,c2,c3,c4,c5])),h):=by
 have hca:=calm_evV2 v w;refine pure_calm (r:= .sc (.int .i64 (orI [c1,c2,c3,c4,c5]))) (n:=M+1) ⟨Tryz.f39.ntmps,(Tryz.f39.body).getD .skip,[.tmp 4]⟩ (by kernel_rfl) (by kernel_rfl) rfl (by kernel_rfl) (by simp[Tryz.f39]) hca rfl ?_ b h;clear hca;cases v with
 |
  mk k n d s z l=>
  cases w with
  |
   mk k' n' d' s' z' l'=>
   simp only[V.k,V.n,V.d,V.s,V.l,V.isNil]at h1 h2 h3 h4 hl;rw[evV_eq]at hv⊢;rw[evV_eq]at hw⊢;have hL:(∃r,evL z l= .ls 5 r z)∨evL z l= .sc (.slice none 0 0):=(lsV_cases z l).elim (fun e=> .inr e.2) (fun e=> .inl ⟨_,e⟩);have hL':(∃r,evL z' l'= .ls 5 r z')∨evL z' l'= .sc (.slice none 0 0):=(lsV_cases z' l').elim (fun e=> .inr e.2) (fun e=> .inl ⟨_,e⟩);generalize evL z l=L at hv hl hL;generalize evL z' l'=L' at hw hl hL';have hor:=fun b=>Or_own M b [.row [.sc (.int .i64 k),.sc (.int .i64 n),.sc (.int .i64 d),.sc (.string s),L],.row [.sc (.int .i64 k'),.sc (.int .i64 n'),.sc (.int .i64 d'),.sc (.string s'),L'],.row [.sc (.int .i64 c1),.sc (.int .i64 c2),.sc (.int .i64 c3),.sc (.int .i64 c4),.sc (.int .i64 c5)]] 2 5 [c1,c2,c3,c4,c5] rfl rfl (by simp)
   generalize orI [c1,c2,c3,c4,c5]=o at hor;rcases hL with⟨r,rfl⟩|rfl<;>rcases hL' with⟨r',rfl⟩|rfl<;>simp[Tryz.f39,hv,hw,h1,h2,h3,h4,hl,hor]
theorem C_Order_all :∀(D:Nat) (v w:V),dep v≤D→dep w≤D→bdV v→bdV w→∀N,C_Order (N+2*D+7) v w:=by
 intro D
 induction D with
 |zero=>intro v w h;have:=dep_pos v;omega
 |
  succ D ih=>
  intro v w dv dw bv bw N b h;have hl:=val_lists_Order (N+2*D+7) v.isNil w.isNil v.l w.l (bdV_l bv).1 (bdV_l bw).1 (fun x hx y hy=>ih x y (dep_l dv x hx) (dep_l dw y hy) ((bdV_l bv).2 x hx) ((bdV_l bw).2 y hy) N);have hv:=fun b h=>val_Valid (N+2) (D+1) v dv bv b h
  have hw:=fun b h=>val_Valid (N+2) (D+1) w dw bw b h
  rw[show N+2+2*(D+1)+4=N+2*D+7+1 by omega]at hv hw;rw[show N+2*(D+1)+7=N+2*D+7+2 by omega];by_cases hn:okT v=false∧okT w=false
  ·rw[hn.1]at hv;rw[hn.2]at hw;have:=val_Order2 (N+2*D+7) v w b h _ _ _ _ _ hv hw (fun b h=>Compare_int (N+2*D+6) b _ _ h) (fun b h=>Compare_int (N+2*D+6) b _ _ h) (fun b h=>Compare_int (N+2*D+6) b _ _ h) (fun b h=>Compare_str (N+2*D+6) b _ _ h) hl;simp only[evV]at this;rw[this,ordV_eq' v w,hn.1,hn.2];rfl
  ·have:=val_Order1 (N+2*D+7) v w b h (ordV v w) (okT v) (okT w) hv hw (fun ov ow b h=>by
    have:=C_order_all (D+1) v w dv dw bv bw ov ow N b h;rw[show N+2*(D+1)+6=N+2*D+7+1 by omega]at this;exact this) hn
   simp only[evV]at this;rw[this,ordV_eq' v w];cases hp:okT v<;>cases hq:okT w
   ·exact absurd ⟨hp,hq⟩ hn
   ·rfl
   ·rfl
   ·simp only[cond_true]
def encP (p:Pr):List AV:=[.sc (.int .i64 p.k),.sc (.string p.n),.sc (.string p.y)]++enc p.v
def evP (p:Pr):AV:= .ag (encP p)
theorem calm_evP (p:Pr):calm (evP p)=true:=by
 cases p with
 |
  mk k n y v=>
  cases v with
  |mk k' n' d' s' z' l'=>simp only[evP,encP,enc,calm,lsV];cases z' && (encL l').isEmpty<;>rfl
theorem calm_evP2 (p q:Pr):[evP p,evP q].all calm=true:=by rw[Zn,Zn,calm_evP,calm_evP];rfl
theorem fp_Order (M:Nat)(p q:Pr)(b:Bool)(h:Hp)(c:Int)(ho:∀b h,callN cx (M+2) b 39 [.ag (enc p.v),.ag (enc q.v)] h=some (.sc (.int .i64 c),h)):
 callN cx (M+3) b 14 [evP p,evP q] h=some (.sc (.int .i64 (orI [cmpI p.k q.k,cmpS p.n q.n,cmpS p.y q.y,c])),h):=by
 have hca:=calm_evP2 p q;refine pure_calm (r:= .sc (.int .i64 (orI [cmpI p.k q.k,cmpS p.n q.n,cmpS p.y q.y,c]))) (n:=M+2) ⟨Tryz.f14.ntmps,(Tryz.f14.body).getD .skip,[.tmp 4]⟩ (by kernel_rfl) (by kernel_rfl) rfl (by kernel_rfl) (by simp[Tryz.f14]) hca rfl ?_ b h;clear hca;have h1:=fun b h=>Compare_int M b p.k q.k h
 have h2:=fun b h=>Compare_str M b p.n q.n h
 have h3:=fun b h=>Compare_str M b p.y q.y h
 generalize cmpI p.k q.k=c1 at h1;generalize cmpS p.n q.n=c2 at h2;generalize cmpS p.y q.y=c3 at h3;cases p with
 |
  mk pk pn py v=>
  cases q with
  |
   mk qk qn qy w=>
   cases v with
   |
    mk k n d s z l=>
    cases w with
    |
     mk k' n' d' s' z' l'=>
     have e1:evP ⟨pk,pn,py,.mk k n d s z l⟩= .ag [.sc (.int .i64 pk),.sc (.string pn),.sc (.string py),.sc (.int .i64 k),.sc (.int .i64 n),.sc (.int .i64 d),.sc (.string s),evL z l]:=rfl;have e2:evP ⟨qk,qn,qy,.mk k' n' d' s' z' l'⟩= .ag [.sc (.int .i64 qk),.sc (.string qn),.sc (.string qy),.sc (.int .i64 k'),.sc (.int .i64 n'),.sc (.int .i64 d'),.sc (.string s'),evL z' l']:=rfl;rw[e1,e2];have e3:enc (.mk k n d s z l)=[.sc (.int .i64 k),.sc (.int .i64 n),.sc (.int .i64 d),.sc (.string s),evL z l]:=rfl;have e4:enc (.mk k' n' d' s' z' l')=[.sc (.int .i64 k'),.sc (.int .i64 n'),.sc (.int .i64 d'),.sc (.string s'),evL z' l']:=rfl;simp only[e3,e4]at ho h1 h2 h3;clear e1 e2 e3 e4;generalize evL z l=L at ho;generalize evL z' l'=L' at ho;have hor:=fun b=>Or_own (M+1) b [.row [.sc (.int .i64 pk),.sc (.string pn),.sc (.string py),.sc (.int .i64 k),.sc (.int .i64 n),.sc (.int .i64 d),.sc (.string s),L],.row [.sc (.int .i64 qk),.sc (.string qn),.sc (.string qy),.sc (.int .i64 k'),.sc (.int .i64 n'),.sc (.int .i64 d'),.sc (.string s'),L'],.row [.sc (.int .i64 c1),.sc (.int .i64 c2),.sc (.int .i64 c3),.sc (.int .i64 c)]] 2 4 [c1,c2,c3,c] rfl rfl (by simp)
     generalize orI [c1,c2,c3,c]=o at hor;simp[Tryz.f14,h1,h2,h3,ho,hor]
theorem rf_Order (M:Nat)(p q:Pr)(b:Bool)(h:Hp)(c:Int)(ho:∀b h,callN cx (M+1) b 57 [.ag (enc p.v),.ag (enc q.v)] h=some (.sc (.int .i64 c),h)):
 callN cx (M+2) b 24 [evP p,evP q] h=some (.sc (.int .i64 (orI [cmpI p.k q.k,cmpS p.n q.n,cmpS p.y q.y,c])),h):=by
 have hca:=calm_evP2 p q;refine pure_calm (r:= .sc (.int .i64 (orI [cmpI p.k q.k,cmpS p.n q.n,cmpS p.y q.y,c]))) (n:=M+1) ⟨Tryz.f24.ntmps,(Tryz.f24.body).getD .skip,[.tmp 4]⟩ (by kernel_rfl) (by kernel_rfl) rfl (by kernel_rfl) (by simp[Tryz.f24]) hca rfl ?_ b h;clear hca;have h2:=fun b h=>r45_texts M b p.n q.n h
 have h3:=fun b h=>r45_texts M b p.y q.y h
 generalize cmpS p.n q.n=c2 at h2;generalize cmpS p.y q.y=c3 at h3;cases p with
 |
  mk pk pn py v=>
  cases q with
  |
   mk qk qn qy w=>
   cases v with
   |
    mk k n d s z l=>
    cases w with
    |
     mk k' n' d' s' z' l'=>
     have e1:evP ⟨pk,pn,py,.mk k n d s z l⟩= .ag [.sc (.int .i64 pk),.sc (.string pn),.sc (.string py),.sc (.int .i64 k),.sc (.int .i64 n),.sc (.int .i64 d),.sc (.string s),evL z l]:=rfl;have e2:evP ⟨qk,qn,qy,.mk k' n' d' s' z' l'⟩= .ag [.sc (.int .i64 qk),.sc (.string qn),.sc (.string qy),.sc (.int .i64 k'),.sc (.int .i64 n'),.sc (.int .i64 d'),.sc (.string s'),evL z' l']:=rfl;rw[e1,e2];have e3:enc (.mk k n d s z l)=[.sc (.int .i64 k),.sc (.int .i64 n),.sc (.int .i64 d),.sc (.string s),evL z l]:=rfl;have e4:enc (.mk k' n' d' s' z' l')=[.sc (.int .i64 k'),.sc (.int .i64 n'),.sc (.int .i64 d'),.sc (.string s'),evL z' l']:=rfl;simp only[e3,e4]at ho h2 h3⊢;clear e1 e2 e3 e4;generalize evL z l=L at ho;generalize evL z' l'=L' at ho;by_cases k1:pk<qk
     ·simp[Tryz.f24,k1,show¬pk=qk by omega,cmpI,orI]
     by_cases k2:qk<pk
     ·simp[Tryz.f24,k1,k2,show¬pk=qk by omega,cmpI,orI]
     obtain rfl:pk=qk:=by omega
     by_cases k3:c2=0
     ·subst k3;by_cases k4:c3=0
      ·subst k4;simp[Tryz.f24,h2,h3,ho,cmpI,orI]
      ·simp[Tryz.f24,h2,h3,k4,cmpI,orI]
     ·simp[Tryz.f24,h2,k3,cmpI,orI]
end
end Go.Proofs.YtmocfjnklfpnbaaGreatDoor
namespace Go.Proofs.YtmocfjnklfpnbaaGreatDoor
open Go Go.Ae Go.ChangeShapes Go.WideShapes
theorem cellsV :Tryz.prog.cellsOf 35=5:=by kernel_rfl
theorem cellsI :Tryz.prog.cellsOf 3=1:=by kernel_rfl
theorem cellsS :Tryz.prog.cellsOf 9=1:=by kernel_rfl
theorem cellsL :Tryz.prog.cellsOf 33=1:=by kernel_rfl
def RV (w:World)(cs:List Value)(v:V):Prop:=cs.length=5∧∀(j:Nat) (y:AV),(enc v)[j]?=some y→(cs.getD j undef).oneCell'=true∧Ri w none' (cs.getD j undef) y
theorem list_of {p:Nat→V→Prop}:∀n,(∀i,i<n→∃x,p i x)→∃l:List V,l.length=n∧∀i v,l[i]?=some v→p i v
 |0,_=>⟨[],rfl,by simp⟩
 |
  n+1,h=>by
  obtain⟨l,hl,hp⟩:=list_of n fun i hi=>h i (by omega)
  obtain⟨x,hx⟩:=h n (by omega);refine⟨l++[x],by simp[hl],fun i v hv=>?_⟩;by_cases hi:i<n
  ·rw[Zd (by omega)]at hv;exact hp i v hv
  ·have hlt:=(Za.1 hv).1;simp at hlt;obtain rfl:i=n:=by omega
   rw[Zf (by omega),hl]at hv;simp at hv;subst hv;exact hx
theorem depL_le {D:Nat}:∀{l:List V},(∀x∈l,dep x≤D)→depL l≤D
 | [],_=>by simp[depL]
 |
  x::xs,h=>by
  have h1:=h x (by simp);have h2:=depL_le fun y hy=>h y (List.mem_cons_of_mem _ hy)
  rw[depL];omega
theorem reach_bd {n:Nat}(h:n≤reachBytes):n≤1000000000000000:=by unfold reachBytes at h;omega
theorem bytesV :Tryz.prog.bytesOf 35=64:=by kernel_rfl
theorem weights_value {H:Type}(a b c d e:DataW H):(DataW.agg [a,b,c,d,e]).weights Tryz.prog 35=a.weights Tryz.prog 3++(b.weights Tryz.prog 3++(c.weights Tryz.prog 3++(d.weights Tryz.prog 9++(e.weights Tryz.prog 33++[])))):=by
 rw[DataW.weights,Tryz.underlying35];rfl
theorem weights_values {H:Type}(es sp:List (DataW H)):(DataW.slice es sp).weights Tryz.prog 33=(es.length+sp.length)*64::(DataW.weightsAll Tryz.prog 35 es++DataW.weightsAll Tryz.prog 35 sp):=by
 rw[DataW.weights,Tryz.underlying33,←bytesV]
theorem weights_mem {H:Type}{e:TypeId}{d:DataW H}{m:Nat}(hm:m∈d.weights Tryz.prog e):∀{l:List (DataW H)},d∈l→m∈DataW.weightsAll Tryz.prog e l
 |
  x::l,h=>by
  rw[DataW.weightsAll];rcases List.mem_cons.1 h with rfl|h
  ·exact Zy _ hm
  ·exact Zk _ (weights_mem hm h)
def Fits {H:Type}(t:TypeId)(d:DataW H):Prop:=∀m∈d.weights Tryz.prog t,m≤reachBytes
section
variable {H : Type} {en : TypeId × Value → H} {w : World} {held : Bool}
theorem ri_values {a:Addr}{cap:Nat}{l:List V}(hl:l.length≤cap)(hm:cap≤maxLen)(hp:∀(i:Nat) (v:V),l[i]?=some v→∃cs,w.cells? 0 (a.add (i*5)) 5=some cs∧RV w cs v):Ri w none' (.slice (some a) l.length cap) (.ls 5 (encL l) false):=by
 cases hl0:l with
 |nil=>exact .le _ _ _ _ hm (by simp)
 |
  cons v0 l0=>
  rw[←hl0];obtain⟨cs0,hc0,_⟩:=hp 0 v0 (by rw[hl0];rfl);obtain⟨_,hn0,hg0⟩:=World.cells?_some hc0;have h00:=hg0 0 (by omega);rw[Nat.zero_mul,Go.Deep.add_add,Zb (by omega)]at h00;obtain⟨b,o,sp⟩:=a;have h0:w.cell? ⟨b,o,sp⟩=some cs0[0]:=h00;unfold World.cell? at h0;cases hb:w.heap[b]? with
  |none=>rw[hb]at h0;cases h0
  |
   some ob=>
   rw[hb]at h0;cases ob<;>simp only[reduceCtorEq]at h0;rename_i cur t fz;cases sp with
   |some q=>simp at h0
   |
    none=>
    have at':∀k,w.cell? ⟨b,o+k,none⟩=cur[o+k]?:=fun k=>by unfold World.cell?;rw[hb];rfl
    have add':∀k,(Addr.mk b o none).add k=⟨b,o+k,none⟩:=fun k=>by
     unfold Addr.add;by_cases hk:k=0
     ·subst hk;simp
     ·simp[hk]
    have key:∀(i:Nat) (row:List AV) (j:Nat) (x:AV),(encL l)[i]?=some row→row[j]?=some x→cur[o+i*5+j]?=some (cur.getD (o+i*5+j) undef)∧(cur.getD (o+i*5+j) undef).oneCell'=true∧Ri w none' (cur.getD (o+i*5+j) undef) x:=by
     intro i row j x hi hj;rw[encL_get]at hi;cases hv:l[i]? with
     |none=>rw[hv]at hi;cases hi
     |
      some v=>
      rw[hv]at hi;simp only[Option.map_some,Zc]at hi;subst hi;have hj5:j<5:=by have:=(Za.1 hj).1;rwa [enc_length]at this
      obtain⟨cs,hc,hn,hr⟩:=hp i v hv;obtain⟨_,_,hg⟩:=World.cells?_some hc;have h1:=hg j hj5;rw[Go.Deep.add_add,add',at',Zb (by omega)]at h1;have e:cur.getD (o+i*5+j) undef=cs.getD j undef:=by
       rw[Zr,Nat.add_assoc,h1,Yi,Zb (by omega)]
      rw[e,Nat.add_assoc,h1,Yi,Zb (by omega)];have:=hr j x hj;rw[Yi,Zb (by omega)]at this;exact⟨rfl,this.1,this.2⟩
    refine .ls b o l.length cap 5 (encL l) false (fun i j=>cur.getD (o+i*5+j) undef) cur t fz (fun h=>h) hb (encL_length l) hl hm (by simp) ?_ (fun i row j x hi hj=>⟨(key i row j x hi hj).1,(key i row j x hi hj).2.1⟩) (fun i row j x hi hj=>(key i row j x hi hj).2.2);intro i row hi;rw[encL_get]at hi;cases hv:l[i]? with
    |none=>rw[hv]at hi;cases hi
    |
     some v=>
     rw[hv]at hi;simp only[Option.map_some,Zc]at hi;rw[←hi,enc_length]
end
end Go.Proofs.YtmocfjnklfpnbaaGreatDoor
namespace Go.Proofs.YtmocfjnklfpnbaaGreatDoor
open Go Go.Ae
section
attribute [local simp] aop aopW coldF extF putA ofConst flat scalarOp fastOp binFast intOp strOp guardX Ae.part rowOf szOk natOf lenA cls fillA splice newsOf isNilC cellX
set_option maxHeartbeats 8000000
def Small (x:Int):Prop:= -1≤x∧x≤1
def lttI (q:Int):Bool:=(decide (97≤q) && decide (q≤122))||(decide (65≤q) && decide (q≤90))
def wordI (q:Int):Bool:=lttI q||(decide (48≤q) && decide (q≤57))||decide (q=95)
theorem g_letter (n:Nat)(b:Bool)(q:Int)(h:Hp):callN cx (n+1) b 180 [.sc (.int .u8 q)] h=some (.sc (.bool (lttI q)),h):=by
 refine pure_calm (r:= .sc (.bool (lttI q))) ⟨Tryz.f180.ntmps,(Tryz.f180.body).getD .skip,[.tmp 2]⟩ (by kernel_rfl) (by kernel_rfl) rfl (by kernel_rfl) (by simp[Tryz.f180]) rfl rfl ?_ b h;unfold lttI;by_cases h1:97≤q
 ·by_cases h2:q≤122
  ·simp[Tryz.f180,h1,h2]
  ·simp[Tryz.f180,h1,h2,show 65≤q by omega,show¬q≤90 by omega]
 ·by_cases h2:65≤q
  ·by_cases h3:q≤90<;>simp[Tryz.f180,h1,h2,h3]
  ·simp[Tryz.f180,h1,h2]
def wordC (c:UInt8):Bool:=wordI c.toNat
def wordD (x:ByteArray)(i:Nat):Bool:=(x.data.toList.drop i).all wordC
theorem wordD_end (x:ByteArray)(i:Nat)(h:x.size≤i):wordD x i=true:=by unfold wordD;rw[Zt h];rfl
theorem wordD_step {x:ByteArray}{i:Nat}{c:UInt8}(h:x.data.toList[i]?=some c):wordD x i=(wordC c && wordD x (i+1)):=by
 obtain⟨k,e⟩:=Za.1 h;unfold wordD;rw[Zm k,e,Zn]
def nameS (x:ByteArray):Bool:=decide ((x.size:Int)≤20) && (match x.data.toList[0]? with|none=>false|some c=>lttI c.toNat) && wordD x 1
theorem size_len (x:ByteArray):x.data.toList.length=x.size:=rfl
theorem name_first (x:ByteArray):(x.size=0∧x.data.toList[0]?=none∧eqS x ⟨#[]⟩=true)∨∃c,0<x.size∧x.data.toList[0]?=some c∧eqS x ⟨#[]⟩=false∧wordD x 0=(wordC c && wordD x 1):=by
 cases h:x.data.toList[0]? with
 |
  none=>
  have h1:=List.getElem?_eq_none_iff.1 h;have h2:x.data.toList=[]:=Zl (by omega);exact .inl ⟨by have:=size_len x;omega,rfl,by unfold eqS;rw[h2];rfl⟩
 |
  some c=>
  have h1:=(Za.1 h).1;refine .inr ⟨c,by have:=size_len x;omega,rfl,?_,wordD_step h⟩;unfold eqS;cases hq:x.data.toList with
  |nil=>rw[hq]at h1;simp at h1
  |cons a l=>rfl
theorem let_word (q:Int)(h:lttI q=true):wordI q=true:=by unfold wordI;rw[h];rfl
theorem g_Name (n:Nat)(b:Bool)(x:ByteArray)(h:Hp):callN cx (n+2) b 124 [.sc (.string x)] h=some (.sc (.bool (nameS x)),h):=by
 refine pure_calm (r:= .sc (.bool (nameS x))) ⟨Tryz.f124.ntmps,(Tryz.f124.body).getD .skip,[.tmp 2]⟩ (by kernel_rfl) (by kernel_rfl) rfl (by kernel_rfl) (by simp[Tryz.f124]) rfl rfl ?_ b h;have hsz:=size_len x;have hcl:=fun b q h=>g_letter n b q h
 unfold nameS;rcases name_first x with⟨z0,z1,z2⟩|⟨c0,z0,z1,z2,z3⟩
 ·simp[Tryz.f124,z0,z1,z2]
 have z1':∀k,x.data[0]'k=c0:=fun k=>by obtain⟨_,e⟩:=Za.1 z1;exact e
 by_cases h20:(x.size:Int)≤20
 rotate_left
 ·simp[Tryz.f124,z0,z1,z2,show 20< (x.size:Int) by omega,h20]
 have h20':¬20< (x.size:Int):=by omega
 obtain⟨q0,hq0⟩:∃q:Int,q=c0.toNat:=⟨_,rfl⟩;have hc0:=fun b h=>hcl b q0 h
 cases hl0:lttI q0
 ·simp[Tryz.f124,z0,z1,z1',z2,h20,h20',←hq0,hc0,hl0]
 have z4:wordD x 0=wordD x 1:=by
  rw[z3,show wordC c0=wordI q0 from by rw[hq0];rfl,let_word q0 hl0];rfl
 clear z3;simp[Tryz.f124,z0,z1,z1',z2,h20,h20',←hq0,hc0,hl0];refine loop_up (C:=cx) (G:=fun r=>∃h',finX _ (thenX _ _ (blockX _ r) _)=some (_,h'))
  (fun i s=>wordD x 1=wordD x i∧s.1.length=46∧gt s.1 0= .sc (.string x)∧gt s.1 18= .sc (.int .i64 x.size)∧gt s.1 19= .sc (.int .i64 i))
  (fun o s=>s.1.length=46∧((o= .exit 0∧wordD x 1=true)∨(o= .ret∧wordD x 1=false∧gt s.1 2= .sc (.bool false)))) x.size (by simp;omega) (by simp[z4]) ?_ ?_
 ·rintro i fr h hle ⟨ho,hlen,h0,h18,h19⟩;simp only at hlen h0 h18 h19;by_cases hi:i<x.size
  ·obtain⟨c,hc⟩:∃c,x.data.toList[i]?=some c:=⟨_,Zb (by omega)⟩;rw[wordD_step hc]at ho;have hf:fitI .i64 ((i:Int)+1)=((i+1:Nat):Int):=fit_i64 (by omega) (by omega);have hc':∀k,x.data[i]'k=c:=fun k=>by obtain⟨_,e⟩:=Za.1 hc;exact e
   obtain⟨q,hq⟩:∃q:Int,q=c.toNat:=⟨_,rfl⟩;have hok:wordC c=wordI q:=by rw[hq];rfl
   rw[hok]at ho;clear hok;have hcq:=fun b h=>hcl b q h
   unfold wordI at ho;cases hl:lttI q
   ·by_cases c1:q<48
    ·have z:wordD x 1=false:=by rw[ho,hl];simp;omega
     clear ho;simp[hlen,h0,h18,h19,hi,hc,hc',←hq,hcq,hl,c1,show¬q=95 by omega,z]
    ·by_cases c2:57<q
     ·by_cases c3:q=95
      ·have z:wordD x 1=wordD x (i+1):=by rw[ho,hl];simp[c3]
       clear ho;subst c3;simp[hlen,h0,h18,h19,hi,hc,hc',←hq,hcq,hl,hf];exact z
      ·have z:wordD x 1=false:=by rw[ho,hl];simp;omega
       clear ho;simp[hlen,h0,h18,h19,hi,hc,hc',←hq,hcq,hl,c1,c2,c3,z]
     ·have z:wordD x 1=wordD x (i+1):=by rw[ho,hl];simp[show 48≤q by omega,show q≤57 by omega]
      clear ho;simp[hlen,h0,h18,h19,hi,hc,hc',←hq,hcq,hl,c1,c2,show¬q=95 by omega,hf];exact z
   ·have z:wordD x 1=wordD x (i+1):=by rw[ho,hl];simp
    clear ho;simp[hlen,h0,h18,h19,hi,hc,hc',←hq,hcq,hl,hf];exact z
  ·have hz:wordD x 1=true:=by rw[ho,wordD_end x i (by omega)]
   simp[hlen,h0,h18,h19,hi,hz]
 ·rintro o fr h hn ⟨hlen,⟨rfl,hz⟩|⟨rfl,hz,h2⟩⟩
  ·simp only at hlen;simp[hlen,hz]
  ·simp only at h2;simp[h2,hz]
def tsR (l:List ByteArray):List (List AV):=l.map fun s=> [.sc (.string s)]
def tsV (l:List ByteArray)(z:Bool):AV:= .ls 1 (tsR l) z
theorem tsR_length (l:List ByteArray):(tsR l).length=l.length:=by simp[tsR]
theorem tsR_get (l:List ByteArray)(i:Nat):(tsR l)[i]?=(l[i]?).map fun s=> [.sc (.string s)]:=by simp[tsR]
def risesL :List ByteArray→Bool
 | []=>true
 |
  x::l=>match l with
  | []=>true
  |y::_=>ltS x y && risesL l
def risesD (l:List ByteArray)(i:Nat):Bool:=risesL (l.drop i)
theorem risesD_end (l:List ByteArray)(i:Nat)(h:l.length≤i+1):risesD l i=true:=by
 unfold risesD;cases hq:l.drop i with
 |nil=>rfl
 |
  cons x m=>
  have:=congrArg List.length hq;simp at this;have hm:m=[]:=Zl (by omega);subst hm;rfl
theorem risesD_step {l:List ByteArray}{i:Nat}{x y:ByteArray}(h:l[i]?=some x)(h':l[i+1]?=some y):risesD l i=(ltS x y && risesD l (i+1)):=by
 obtain⟨k,e⟩:=Za.1 h;obtain⟨k',e'⟩:=Za.1 h';unfold risesD;rw[Zm k,Zm k',e,e',risesL]
theorem le_lt (x y:ByteArray):(ltS y x||eqS y x)= !(ltS x y):=by
 cases h1:ltS x y with
 |
  true=>
  have h2:=ltS_asymm h1;cases h3:eqS y x with
  |false=>simp[h2]
  |true=>have:=(eqS_iff y x).1 h3;subst this;rw[ltS_irrefl]at h1;cases h1
 |
  false=>
  cases h3:eqS y x with
  |true=>simp
  |
   false=>
   cases h4:ltS y x with
   |true=>simp
   |false=>have:=ltS_total h4 h3;rw[h1]at this;cases this
def plainV (v:V):Bool:=okT v && (decide (v.k=1)||decide (v.k=2)||decide (v.k=4))
structure Prp where
 key:ByteArray
 v:V
def encR (p:Prp):List AV:= .sc (.string p.key)::enc p.v
def prR (l:List Prp):List (List AV):=l.map encR
def prV (l:List Prp)(z:Bool):AV:= .ls 6 (prR l) z
@[simp] theorem encR_length (p:Prp):(encR p).length=6:=by simp[encR]
@[simp] theorem get_set_last (h:Hp)(a b d:Blk)(id:Nat):((h++[a]).set id d++[b])[h.length+1]?=some b:=by rw[Zf (by simp)];simp
theorem app_nil {t:TypeId}{i:Ti}{sz bytes:Nat}{ag:Bool}{ez:List Value}(hT:cx.T t=some i)(hk:i.kd= .slice sz ag bytes ez)(h:Hp)(cs:List AV)(hc:cs.length=sz)(hb:bytes≤1000):
 appendA cx (h++[.row cs]) t (.sc (.slice none 0 0)) (.sl h.length sz 0 1 false)=some (.sl (h.length+1) sz 0 1 false,h++[.row cs,.row cs]):=by
 obtain⟨size,agg,zero,kd⟩:=i;simp only at hk;subst hk;have hr:rowOf (h++[Blk.row cs]) h.length=some cs:=by simp[rowOf]
 have hn:newsOf (h++[Blk.row cs]) (.sl h.length sz 0 1 false)=some (1,cs):=by
  simp only[newsOf,hr];rw[if_pos (by omega),Yf,Nat.one_mul,List.take_of_length_le (by omega)]
 unfold appendA;rw[hT];simp only[szOk,beq_self_eq_true,Bool.and_self,if_true,hn];rw[if_neg (by omega),if_pos (by unfold maxLen;omega)];simp
theorem app_own {t:TypeId}{i:Ti}{sz bytes:Nat}{ag:Bool}{ez:List Value}(hT:cx.T t=some i)(hk:i.kd= .slice sz ag bytes ez)(h:Hp)(cs old:List AV)(id n:Nat)(hid:h[id]?=some (.row old))(hc:cs.length=sz)(ho:old.length=n*sz)(hsz:0<sz)(hn1:n≤1000000000000000)(hb:(n+1)*bytes≤140737488355328):
 appendA cx (h++[.row cs]) t (.sl id sz 0 n false) (.sl h.length sz 0 1 false)=some (.sl (h.length+1) sz 0 (n+1) false,(h++[Blk.row cs]).set id .dead++[.row (old++cs)]):=by
 obtain⟨size,agg,zero,kd⟩:=i;simp only at hk;subst hk;have hidl:id<h.length:=(Za.1 hid).1;have hr:rowOf (h++[Blk.row cs]) h.length=some cs:=by simp[rowOf]
 have hn:newsOf (h++[Blk.row cs]) (.sl h.length sz 0 1 false)=some (1,cs):=by
  simp only[newsOf,hr];rw[if_pos (by omega),Yf,Nat.one_mul,List.take_of_length_le (by omega)]
 have hid':(h++[Blk.row cs])[id]?=some (.row old):=by rw[Zd hidl];exact hid
 have hmul:(n+1)*sz=n*sz+sz:=by rw[Nat.add_mul,Nat.one_mul]
 unfold appendA;rw[hT];simp only[szOk,beq_self_eq_true,Bool.and_self,if_true,hn,hid'];rw[if_neg (by omega),if_neg (by omega),if_pos ⟨trivial,ho,by unfold maxLen;omega,hb⟩];simp
structure Nd where
 id:Int
 labels:List ByteArray
 props:List Prp
structure Ed where
 id:Int
 src:Int
 dst:Int
 type:ByteArray
 props:List Prp
structure Gr where
 nodes:List Nd
 edges:List Ed
 nn:Int
 ne:Int
def encN (n:Nd):List AV:=[.sc (.int .i64 n.id),tsV n.labels false,prV n.props false]
section
variable {C : Cx} {cal : FuncId → List AV → Hp → Option (AV × Hp)} {ops : Array Oper}
theorem opP_np {x:AV}(hx:∀v,x≠ .pn v)(d:Tmp)(rest:List Oper)(fr:List AV)(h:Hp):opP C cal ops (some d) rest fr (some (x,h))=runOpsP C cal ops rest (fr.set d x,h):=by
 cases x<;>first|rfl|exact absurd rfl (hx _)
theorem opN_np {x:AV}(hx:∀v,x≠ .pn v)(d:Tmp)(rest:List Oper)(fr:List AV)(h:Hp):opN C cal ops (some d) rest fr (some (x,h))=runOps C cal ops rest (fr.set d x,h):=by
 cases x<;>first|rfl|exact absurd rfl (hx _)
end
def ndC (o:Option Nd):List AV:=match o with
 |none=> [.sc (.int .i64 0),.sc (.slice none 0 0),.sc (.slice none 0 0)]
 |some n=>encN n
@[simp] theorem ndC_length (o:Option Nd):(ndC o).length=3:=by cases o<;>rfl
theorem snap_all {h:Hp}{n:Nat}:∀{xs:List AV},xs.all calm=true→xs.mapM (snap h (n+2))=some xs
 | [],_=>rfl
 |
  x::xs,hc=>by
  rw[Zn,Zh]at hc;rw[Zo,snap_of_calm hc.1,snap_all hc.2];rfl
theorem pure_tup {f:FuncId}{args:List AV}{n:Nat}{xs:List AV}(fi:Fi)(hF:cx.F f=some fi)(hok:ok2 cx fi.body=true)(hs:cx.srt f=none)(hi:cx.inl f=false)(hl:args.length≤fi.ntmps)(hc:args.all calm=true)(hr:xs.all calm=true)
 (hb:(finX fi.res (exec2 cx (callN cx n) fi.body (args++List.replicate (fi.ntmps-args.length) .un,[]))).map Prod.fst=some (.tp xs)) (b:Bool) (h:Hp) (ht:plainF f=true:=by decide):callN cx (n+1) b f args h=some (.tp xs,h):=by
 simp only[Ze]at hb;obtain⟨⟨r0,h'⟩,hb,rfl⟩:=hb;exact pure_at fi hF hok hs hi hl hc hb (by show(xs.mapM (snap h' 7)).map AV.tp=_;rw[snap_all hr];rfl) b h ht
set_option maxHeartbeats 16000000
theorem fit_succ {i:Nat}(h:i≤1000000000000000):fitI .i64 ((i:Int)+1)=((i+1:Nat):Int):=fit_i64 (by omega) (by omega)
end
end Go.Proofs.YtmocfjnklfpnbaaGreatDoor
namespace Go.Ae
open Go
structure Spl {α:Type}(lt eq:α→Bool)(l pre mid post:List α):Prop where
 e:l=pre++mid++post
 p:∀x∈pre,lt x=true∧eq x=false
 m:∀x∈mid,lt x=false∧eq x=true
 one:mid.length≤1
 q:∀x∈post,lt x=false∧eq x=false
section
variable {α : Type} {lt eq : α → Bool} {l pre mid post : List α}
theorem Spl.filter (h:Spl lt eq l pre mid post):l.filter (fun x=> !eq x)=pre++post:=by
 have h1:pre.filter (fun x=> !eq x)=pre:=List.filter_eq_self.2 fun x hx=>by simp[(h.p x hx).2]
 have h2:mid.filter (fun x=> !eq x)=[]:=List.filter_eq_nil_iff.2 fun x hx=>by simp[(h.m x hx).2]
 have h3:post.filter (fun x=> !eq x)=post:=List.filter_eq_self.2 fun x hx=>by simp[(h.q x hx).2]
 rw[h.e,List.filter_append,List.filter_append,h1,h2,h3,Yk]
theorem Spl.any (h:Spl lt eq l pre mid post):l.any eq= !mid.isEmpty:=by
 rw[h.e,List.any_append,List.any_append];have h1:pre.any eq=false:=List.any_eq_false.2 fun x hx=>by simp[(h.p x hx).2]
 have h3:post.any eq=false:=List.any_eq_false.2 fun x hx=>by simp[(h.q x hx).2]
 rw[h1,h3]
 match hmid:mid with
 | []=>rfl
 |x::_=>simp[(h.m x (by simp)).2]
theorem Spl.take (h:Spl lt eq l pre mid post):l.take pre.length=pre:=by rw[h.e,Zp];simp
theorem Spl.drop (h:Spl lt eq l pre mid post):l.drop pre.length=mid++post:=by rw[h.e,Zp];simp
theorem Spl.at {x:α}(h:Spl lt eq l pre [x] post):l[pre.length]?=some x:=by rw[h.e,Zp];simp
theorem Spl.set {x:α}(h:Spl lt eq l pre [x] post)(n:α):l.set pre.length n=pre++[n]++post:=by rw[h.e,Zp];simp
end
end Go.Ae
namespace Go.Proofs.YtmocfjnklfpnbaaGreatDoor
open Go Go.Ae
section
attribute [local simp] aop aopW coldF extF putA ofConst flat scalarOp fastOp binFast intOp strOp guardX Ae.part rowOf szOk natOf lenA cls fillA splice newsOf isNilC cellX
set_option maxHeartbeats 8000000
theorem encR_take (c:Prp):(encR c).take 6=encR c:=List.take_of_length_le (by simp)
end
end Go.Proofs.YtmocfjnklfpnbaaGreatDoor
