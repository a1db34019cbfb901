/- Bags: their rows, the map from texts to places; the closures of zset.Norm; the first row of multiplicity 0. -/
import Derived.Test.YtiefabpageilbaaGreatDoorP27
import Derived.Test.YtiefabpageilbaaGreatDoorP23
set_option linter.all false
set_option maxRecDepth 100000
namespace Go.Proofs.YtiefabpageilbaaGreatDoor
open Go Go.Ae
section
attribute [local simp] aop aopW coldF extF putA ofConst flat scalarOp fastOp binFast intOp strOp guardX Ae.part rowOf szOk natOf lenA cls fillA splice newsOf isNilC cellX
set_option maxHeartbeats 16000000
def addZ (a b:Int):Int:=fitI .i64 (a+b)
def encS (p:Rw × Int):List AV:=[.ls 5 (encL p.1.1) false,.sc (.int .i64 p.2)]
def bagR (S:List (Rw × Int)):List (List AV):=S.map encS
theorem bagR_length (S:List (Rw × Int)):(bagR S).length=S.length:=by simp[bagR]
theorem bagR_get (S:List (Rw × Int))(i:Nat):(bagR S)[i]?=(S[i]?).map encS:=by simp[bagR]
theorem bagR_all (S:List (Rw × Int)):(∀r∈bagR S,r.length=2)∧(bagR S).flatten.all calm1=true:=
 ⟨fun r hr=>by obtain⟨c,_,rfl⟩:=Yc.1 hr;rfl,calm1_rows fun r hr=>by obtain⟨c,_,rfl⟩:=Yc.1 hr;rfl⟩
theorem bagR_flat (S:List (Rw × Int)):(bagR S).flatten=S.flatMap encS:=by rw[bagR,List.flatMap_def]
theorem encS_len (p:Rw × Int):(encS p).length=2:=rfl
structure RowB (D:Nat)(r:Rw):Prop where
 len:r.1.length≤1000000000000
 key:(zkR r.1).length≤1000000000000
 dep:∀x∈r.1,dep x≤D∧bdV x
structure BagB (D:Nat)(S:List (Rw × Int)):Prop where
 row:∀p∈S,RowB D p.1
 num:∀p∈S,i64 p.2
 len:S.length≤1000000
theorem fit_range (n:Int):i64 (fitI .i64 n):=by
 show i64 (if-9223372036854775808≤n∧n≤9223372036854775807 then n else IntKind.i64.wrap n);unfold i64;split
 ·assumption
 ·rw[IntWalk.i64_left];unfold RowKit.wrap64;omega
def keyOf (r:Rw):ByteArray:=⟨(zkR r.1).toArray⟩
theorem keyOf_inj {D:Nat}{a b:Rw}(ha:RowB D a)(hb:RowB D b)(h:keyOf a=keyOf b):a=b:=by
 unfold keyOf at h;injection h with h
 have h':=congrArg Array.toList h;simp only at h';exact Subtype.ext (zkR_inj a.2 b.2 (by have:=ha.len;omega) (by have:=hb.len;omega) h')
def mapE :List (Rw × Int)→Nat→List (Value × AV)
 | [],_=> []
 |p::t,k=>(.string (keyOf p.1),.sc (.int .i64 k))::mapE t (k+1)
theorem mapE_snoc :∀(S:List (Rw × Int)) (p:Rw × Int) (k:Nat),mapE (S++[p]) k=mapE S k++[(.string (keyOf p.1),.sc (.int .i64 ((k+S.length:Nat):Int)))]
 | [],p,k=>rfl
 |
  q::S,p,k=>by
  rw[List.cons_append,mapE,mapE,mapE_snoc S p (k+1),List.length_cons,List.cons_append,show k+1+S.length=k+(S.length+1) by omega]
theorem mapE_keys :∀(S T:List (Rw × Int)) (k:Nat),S.map (·.1)=T.map (·.1)→mapE S k=mapE T k
 | [],[],_,_=>rfl
 | [],_::_,_,h=>by simp at h
 |_::_,[],_,h=>by simp at h
 |
  p::S,q::T,k,h=>by
  rw[List.map_cons,List.map_cons]at h;injection h with h1 h2
  rw[mapE,mapE,h1,mapE_keys S T (k+1) h2]
theorem mapE_str :∀(S:List (Rw × Int)) (k:Nat),(mapE S k).all strKey=true
 | [],_=>rfl
 |p::S,k=>by rw[mapE,Zn,mapE_str S (k+1)];rfl
theorem keyB_ne {D:Nat}{a b:Rw}(ha:RowB D a)(hb:RowB D b)(h:b≠a):keyB (keyOf a) (.string (keyOf b))=false:=by
 show(keyOf a==keyOf b)=false;rw[Bool.eq_false_iff];intro e;exact h (keyOf_inj ha hb ((Go.MapKept.bytes_beq _ _).1 e)).symm
theorem keyB_self (a:Rw):keyB (keyOf a) (.string (keyOf a))=true:=by
 show(keyOf a==keyOf a)=true;exact(Go.MapKept.bytes_beq _ _).2 rfl
theorem keyIx_none {D:Nat}{r:Rw}(hr:RowB D r):∀(S:List (Rw × Int)) (k i:Nat),(∀p∈S,RowB D p.1)→r∉S.map (·.1)→keyIx (keyOf r) (mapE S k) i=none
 | [],_,_,_,_=>rfl
 |
  p::S,k,i,hS,h=>by
  rw[List.map_cons,List.mem_cons,not_or]at h;rw[mapE,keyIx,keyB_ne hr (hS p (by simp)) (fun e=>h.1 e.symm)];exact keyIx_none hr S (k+1) (i+1) (fun q hq=>hS q (List.mem_cons_of_mem _ hq)) h.2
theorem keyIx_some {D:Nat}{r:Rw}(hr:RowB D r):∀(a:List (Rw × Int)) (m:Int) (t:List (Rw × Int)) (k i:Nat),(∀p∈a,RowB D p.1)→r∉a.map (·.1)→keyIx (keyOf r) (mapE (a++(r,m)::t) k) i=some (i+a.length)
 | [],m,t,k,i,_,_=>by rw[List.nil_append,mapE,keyIx,keyB_self];rfl
 |
  p::a,m,t,k,i,hS,h=>by
  rw[List.map_cons,List.mem_cons,not_or]at h;rw[List.cons_append,mapE,keyIx,keyB_ne hr (hS p (by simp)) (fun e=>h.1 e.symm)];have:=keyIx_some hr a m t (k+1) (i+1) (fun q hq=>hS q (List.mem_cons_of_mem _ hq)) h.2;rw[List.length_cons,show i+(a.length+1)=i+1+a.length by omega];exact this
theorem mapE_get :∀(a:List (Rw × Int)) (p:Rw × Int) (t:List (Rw × Int)) (k:Nat),(mapE (a++p::t) k)[a.length]?=some (.string (keyOf p.1),.sc (.int .i64 ((k+a.length:Nat):Int)))
 | [],p,t,k=>rfl
 |
  q::a,p,t,k=>by
  rw[List.cons_append,mapE,List.length_cons,Ya,mapE_get a p t (k+1),show k+1+a.length=k+(a.length+1) by omega]
theorem first_of {r:Rw}:∀(S:List (Rw × Int)),r∈S.map (·.1)→∃a m t,S=a++(r,m)::t∧r∉a.map (·.1)
 | [],h=>by simp at h
 |
  (q,m)::S,h=>by
  by_cases e:r=q
  ·subst e;exact⟨[],m,S,rfl,by simp⟩
  ·rw[List.map_cons,List.mem_cons]at h;obtain⟨a,m',t,e1,e2⟩:=first_of S (h.resolve_left e);refine⟨(q,m)::a,m',t,by rw[e1];rfl,?_⟩;rw[List.map_cons,List.mem_cons,not_or];exact⟨e,e2⟩
theorem mapAt_none {D:Nat}{S:List (Rw × Int)}{r:Rw}(hr:RowB D r)(hS:∀p∈S,RowB D p.1)(h:r∉S.map (·.1)):mapAt cx 98 (keyOf r) (mapE S 0)=some (.sc (.int .i64 0),false):=by
 unfold mapAt;rw[keyIx_none hr S 0 0 hS h,Z_ix];rfl
theorem mapAt_some {D:Nat}{a t:List (Rw × Int)}{m:Int}{r:Rw}(hr:RowB D r)(hS:∀p∈a,RowB D p.1)(h:r∉a.map (·.1)):mapAt cx 98 (keyOf r) (mapE (a++(r,m)::t) 0)=some (.sc (.int .i64 (a.length:Int)),true):=by
 unfold mapAt;rw[keyIx_some hr a m t 0 0 hS h];simp only[Nat.zero_add];rw[mapE_get];simp
theorem bag_at (a:List (Rw × Int))(r:Rw)(m:Int)(t:List (Rw × Int))(rest:List AV):((a++(r,m)::t).flatMap encS++rest)[a.length*2+1]?=some (.sc (.int .i64 m)):=by
 have:(a.flatMap encS).length=a.length*2:=flat_len encS_len a;rw[List.flatMap_append,Zp,Zf (by omega),this];rw[show a.length*2+1-a.length*2=1 by omega];rfl
theorem bag_set (a:List (Rw × Int))(r:Rw)(m n:Int)(t:List (Rw × Int)):splice ((a++(r,m)::t).flatMap encS) (a.length*2+1) [.sc (.int .i64 n)]=(a++(r,n)::t).flatMap encS:=by
 have hl:(a.flatMap encS).length=a.length*2:=flat_len encS_len a;rw[List.flatMap_append,List.flatMap_append,List.flatMap_cons,List.flatMap_cons];have:=splice_mid (A:=a.flatMap encS++[.ls 5 (encL r.1) false]) (Z:=[.sc (.int .i64 m)]) (E:=[.sc (.int .i64 n)]) (B:=t.flatMap encS) (o:=a.length*2+1) (by simp[hl]) rfl;simpa[encS]using this
theorem bag_len (S:List (Rw × Int)):(S.flatMap encS).length=S.length*2:=flat_len encS_len S
theorem bag_row {S:List (Rw × Int)}{i:Nat}{p:Rw × Int}(h:S[i]?=some p)(rest:List AV):((S.flatMap encS++rest).drop (i*2)).take 2=encS p:=by
 have hi:=(Za.1 h).1;have:=rowAt_flat (enc:=encS) encS_len rest S i hi;unfold Ae.rowAt at this;rw[Nat.zero_add]at this;rw[this];obtain⟨_,e⟩:=Za.1 h;rw[e]
theorem z_zero (n:Nat)(b:Bool)(p:Rw × Int)(h:Hp):callN cx (n+1) b 32 [.ag (encS p)] h=some (.sc (.bool (decide (p.2=0))),h):=by
 refine pure_calm (n:=n) (r:= .sc (.bool (decide (p.2=0)))) ⟨Tryz.f32.ntmps,(Tryz.f32.body).getD .skip,[.tmp 2]⟩ (by kernel_rfl) (by kernel_rfl) rfl (by kernel_rfl) (by simp[Tryz.f32]) rfl rfl ?_ b h;simp[Tryz.f32,encS]
theorem z_cmp (N D:Nat)(b:Bool)(p q:Rw × Int)(h:Hp)(hp:RowB D p.1)(hq:RowB D q.1):callN cx (N+2*D+10) b 34 [.ag (encS p),.ag (encS q)] h=some (.sc (.int .i64 (ordR p.1 q.1)),h):=by
 refine pure_calm (n:=N+2*D+9) (r:= .sc (.int .i64 (ordR p.1 q.1))) ⟨Tryz.f34.ntmps,(Tryz.f34.body).getD .skip,[.tmp 4]⟩ (by kernel_rfl) (by kernel_rfl) rfl (by kernel_rfl) (by simp[Tryz.f34]) rfl rfl ?_ b h;have f:=fun b h=>p_OrderRows N D p.1.1 q.1.1 b h (by have:=hp.len;omega) (by have:=hq.len;omega) hp.dep hq.dep
 unfold ordR;generalize N+2*D+9=M at f⊢;generalize ordL p.1.1 q.1.1=r at f⊢;simp[Tryz.f34,encS,f]
def idxZ :List (Rw × Int)→Int→Int
 | [],_=> -1
 |p::t,i=>if p.2=0 then i else idxZ t (i+1)
def idxZD (S:List (Rw × Int))(i:Nat):Int:=idxZ (S.drop i) i
theorem idxZD_end (S:List (Rw × Int))(i:Nat)(h:S.length≤i):idxZD S i= -1:=by unfold idxZD;rw[Zt h];rfl
theorem idxZD_step {S:List (Rw × Int)}{i:Nat}{p:Rw × Int}(h:S[i]?=some p):idxZD S i=if p.2=0 then(i:Int)else idxZD S (i+1):=by
 obtain⟨k,e⟩:=Za.1 h;unfold idxZD;rw[Zm k,e,idxZ];rfl
theorem idxZ_cases :∀(S:List (Rw × Int)) (i:Int),(idxZ S i= -1∧∀p∈S,p.2≠0)∨∃a p t,S=a++p::t∧(∀q∈a,q.2≠0)∧p.2=0∧idxZ S i=i+a.length
 | [],i=> .inl ⟨rfl,fun _ h=>by simp at h⟩
 |
  p::S,i=>by
  unfold idxZ;by_cases e:p.2=0
  ·rw[if_pos e];exact .inr ⟨[],p,S,rfl,fun _ h=>by simp at h,e,by simp⟩
  ·rw[if_neg e];rcases idxZ_cases S (i+1)with⟨h1,h2⟩|⟨a,q,t,h1,h2,h3,h4⟩
   ·refine .inl ⟨h1,fun q hq=>?_⟩;rcases List.mem_cons.1 hq with rfl|h
    ·exact e
    ·exact h2 q h
   ·refine .inr ⟨p::a,q,t,by rw[h1];rfl,fun x hx=>?_,h3,by rw[h4];simp;omega⟩;rcases List.mem_cons.1 hx with rfl|h
    ·exact e
    ·exact h2 x h
theorem z_index (n:Nat)(b:Bool)(S:List (Rw × Int))(z:Bool)(h:Hp)(hl:S.length≤1000000):callN cx (n+2) b 55 [.ls 2 (bagR S) z,.fn 32 []] h=some (.sc (.int .i64 (idxZ S 0)),h):=by
 refine pure_calm (n:=n+1) (r:= .sc (.int .i64 (idxZ S 0))) ⟨Tryz.f55.ntmps,(Tryz.f55.body).getD .skip,[.tmp 4]⟩ (by kernel_rfl) (by kernel_rfl) rfl (by kernel_rfl) (by simp[Tryz.f55]) rfl rfl ?_ b h;have hq:=bagR_length S;have hg:=bagR_get S;have hcl:=fun b p h=>z_zero n b p h
 generalize bagR S=rows at hq hg;generalize n+1=M at hcl⊢;change(finX _ _).map Prod.fst=some (.sc (.int .i64 (idxZD S 0)));simp[Tryz.f55,hq];refine loop_up (C:=cx) (G:=fun r=>∃h',finX _ (thenX _ _ (blockX _ r) _)=some (_,h'))
  (fun i s=>idxZD S 0=idxZD S i∧s.1.length=19∧gt s.1 0= .ls 2 rows z∧gt s.1 1= .fn 32 []∧gt s.1 7= .sc (.int .i64 S.length)∧gt s.1 8= .sc (.int .i64 i))
  (fun o s=>s.1.length=19∧((o= .exit 0∧idxZD S 0= -1)∨(o= .ret∧gt s.1 4= .sc (.int .i64 (idxZD S 0))))) S.length (by simp;omega) (by simp) ?_ ?_
 ·rintro i fr h hle ⟨ho,hlen,h0,h1,h7,h8⟩;simp only at hlen h0 h1 h7 h8;by_cases hi:i<S.length
  ·obtain⟨p,hx⟩:∃p,S[i]?=some p:=⟨_,Zb hi⟩;have hr:rows[i]?=some (encS p):=by rw[hg,hx];rfl
   have hr':∀k,rows[i]'k=encS p:=fun k=>by obtain⟨_,e⟩:=Za.1 hr;exact e
   rw[idxZD_step hx]at ho;have hcx:=fun b h=>hcl b p h
   have hf:fitI .i64 ((i:Int)+1)=((i+1:Nat):Int):=fit_i64 (by omega) (by omega);unfold encS at hr hr' hcx;by_cases hk:p.2=0
   ·rw[if_pos hk]at ho;simp only[hk,decide_true]at hcx hr hr';simp[hlen,h0,h1,h7,h8,hi,hq,hr,hr',hcx,ho]
   ·rw[if_neg hk]at ho;simp only[hk,decide_false]at hcx;simp[hlen,h0,h1,h7,h8,hi,hq,hr,hr',hcx,hf];exact ho
  ·have zz:idxZD S 0= -1:=by rw[ho,idxZD_end _ i (by omega)]
   simp[hlen,h0,h1,h7,h8,hi,hq,zz]
 ·rintro o fr h hn ⟨hlen,⟨rfl,hz⟩|⟨rfl,h2⟩⟩
  ·simp only at hlen;simp[hlen,hz]
  ·simp only at h2;simp[h2]
end
section
attribute [local simp] aop aopW coldF extF putA ofConst flat scalarOp fastOp binFast intOp strOp guardX Ae.part rowOf szOk natOf lenA cls fillA newsOf isNilC cellX
set_option maxHeartbeats 32000000
def nzF (S:List (Rw × Int)):List (Rw × Int):=S.filter fun x=>x.2 !=0
theorem bag_snap {h:Hp}{n id:Nat}{S:List (Rw × Int)}{rest:List AV}(hid:h[id]?=some (.row (S.flatMap encS++rest))):Ae.snap h (n+1) (.sl id 2 0 S.length false)=some (.ls 2 (bagR S) false):=by
 have hall:=bagR_all S;have:=snap_flat (h:=h) (n:=n) (id:=id) (sz:=2) (rows:=bagR S) (cs:=S.flatMap encS++rest) (by omega) hall.1 hall.2 (by rw[rowOf,hid]) (by rw[bagR_flat,bagR_length];exact List.take_left' (bag_len S)) (by rw[bagR_length,Zu,bag_len];omega);rw[bagR_length]at this;exact this
theorem z_index_own (n:Nat)(b:Bool)(S:List (Rw × Int))(id:Nat)(h:Hp)(hl:S.length≤1000000)(hid:h[id]?=some (.row (S.flatMap encS))):callN cx (n+2) b 55 [.sl id 2 0 S.length false,.fn 32 []] h=some (.sc (.int .i64 (idxZ S 0)),h):=by
 refine call_snap (n:=n+1) (ys:=[.ls 2 (bagR S) false,.fn 32 []]) rfl (by kernel_rfl) ?_ rfl rfl (z_index n b S false h hl);have:=bag_snap (h:=h) (n:=7) (id:=id) (S:=S) (rest:=[]) (by rw[Yf];exact hid);rw[Zo,this];rfl
theorem z_index_nil (n:Nat)(b:Bool)(h:Hp):callN cx (n+1) b 55 [.sc (.slice none 0 0),.fn 32 []] h=some (.sc (.int .i64 (-1)),h):=by
 refine pure_calm (n:=n) (r:= .sc (.int .i64 (-1))) ⟨Tryz.f55.ntmps,(Tryz.f55.body).getD .skip,[.tmp 4]⟩ (by kernel_rfl) (by kernel_rfl) rfl (by kernel_rfl) (by simp[Tryz.f55]) rfl rfl ?_ b h;simp[Tryz.f55];refine loop_up (C:=cx) (G:=fun r=>∃h',finX _ (thenX _ _ (blockX _ r) _)=some (_,h'))
  (fun i s=>i=0∧s.1.length=19∧gt s.1 7= .sc (.int .i64 0)∧gt s.1 8= .sc (.int .i64 0))
  (fun o s=>s.1.length=19∧o= .exit 0) 0 (by simp) ⟨rfl,rfl,rfl,rfl⟩ ?_ ?_
 ·rintro i fr h hle ⟨rfl,hlen,h7,h8⟩;simp only at hlen h7 h8;simp[hlen,h7,h8]
 ·rintro o fr h hn ⟨hlen,rfl⟩;simp only at hlen;simp[hlen]
def OwnS (h:Hp)(id:Nat)(F:List (Rw × Int))(r:AV):Prop:=(F=[]∧∃z,r= .ls 2 [] z)∨(F≠ []∧r= .sl id 2 0 F.length false∧∃rest,h[id]?=some (.row (F.flatMap encS++rest)))
theorem nzF_take {S:List (Rw × Int)}{j:Nat}{p:Rw × Int}(h:S[j]?=some p):nzF (S.take (j+1))=nzF (S.take j)++(if p.2=0 then[]else[p]):=by
 unfold nzF;rw[List.take_add_one,h,List.filter_append]
 congr 1
 by_cases e:p.2=0<;>simp[e]
theorem sps (a b x y:AV):splice [a,b] 0 [x,y]=[x,y]:=rfl
structure DelI (S:List (Rw × Int))(id:Nat)(h:Hp)(j:Nat)(s:St):Prop where
 le:j≤S.length
 len:s.1.length=42
 g0:gt s.1 0= .sl id 2 0 S.length false
 g1:gt s.1 1= .fn 32 []
 g5:gt s.1 5= .sc (.int .i64 ((nzF (S.take j)).length:Nat))
 g6:gt s.1 6= .sc (.int .i64 (j:Nat))
 lt:(nzF (S.take j)).length<j
 hl:h.length≤s.2.length
 keep:∀j b,j≠id→h[j]?=some b→s.2[j]?=some b
 row:∃X,X.length=(j-(nzF (S.take j)).length)*2∧s.2[id]?=some (.row ((nzF (S.take j)).flatMap encS++(X++(S.drop j).flatMap encS)))
theorem z_delete (n:Nat)(b:Bool)(S:List (Rw × Int))(id:Nat)(h:Hp)(hne:S≠ [])(hl:S.length≤1000000)(hid:h[id]?=some (.row (S.flatMap encS))):
 ∃r h',callN cx (n+3) b 31 [.sl id 2 0 S.length false,.fn 32 []] h=some (r,h')∧(∀j b,j≠id→h[j]?=some b→h'[j]?=some b)∧OwnS h' id (nzF S) r:=by
 rw[call_inl (n:=n+2) ⟨Tryz.f31.ntmps,(Tryz.f31.body).getD .skip,[.tmp 4]⟩ rfl (by kernel_rfl) (by kernel_rfl) (by kernel_rfl) (by kernel_rfl) (by simp[Tryz.f31])];have f0:=fun b=>z_index_own n b S id h hl hid
 have f1:=fun b p h=>z_zero (n+1) b p h
 rcases idxZ_cases S 0 with⟨e,hall⟩|⟨a,p,t,e1,ha,hp0,e2⟩
 ·rw[e]at f0;generalize n+2=M at f0 f1⊢;simp[Tryz.f31,f0];have hF:nzF S=S:=List.filter_eq_self.2 fun x hx=>by simp[hall x hx]
  refine⟨_,_,⟨rfl,rfl⟩,fun j b _ hj=>hj,.inr ⟨by rw[hF];exact hne,by rw[hF],[],by rw[hF,Yf];exact hid⟩⟩
 ·have hal:a.length<S.length:=by rw[e1];simp
  have ea:nzF (S.take (a.length+1))=a:=by
   rw[nzF_take (p:=p) (by rw[e1];simp),if_pos hp0,Yf,e1,List.take_left];exact List.filter_eq_self.2 fun x hx=>by simp[ha x hx]
  rw[Int.zero_add]at e2;rw[e2]at f0;generalize n+2=M at f0 f1⊢;obtain⟨w,hw⟩:∃w:Int,w=a.length:=⟨_,rfl⟩;obtain⟨w1,hw1⟩:∃w:Int,w=((a.length+1:Nat):Int):=⟨_,rfl⟩;rw[←hw]at f0;have hm1:¬w= -1:=by omega
  have hf0:fitI .i64 (w+1)=w1:=by rw[hw,hw1];exact fit_succ (by omega)
  simp[Tryz.f31,f0,hm1,hf0];rw[hw,hw1];clear hf0 hm1 f0 hw hw1;have hidl:id<h.length:=(Za.1 hid).1;refine loop_up (C:=cx) (G:=fun r=>∃r0 h',finX _ (thenX _ _ (blockX _ r) _)=some (r0,h')∧(∀j b,j≠id→h[j]?=some b→h'[j]?=some b)∧OwnS h' id (nzF S) r0)
   (fun c s=>DelI S id h (a.length+1+c) s)
   (fun o s=>o= .exit 0∧s.1.length=42∧gt s.1 0= .sl id 2 0 S.length false∧gt s.1 5= .sc (.int .i64 ((nzF S).length:Nat))∧(nzF S).length<S.length∧(∀j b,j≠id→h[j]?=some b→s.2[j]?=some b)∧∃cs,s.2[id]?=some (.row cs)∧cs.length=S.length*2∧cs.take ((nzF S).length*2)=(nzF S).flatMap encS) S.length (by simp;omega) ?_ ?_ ?_
  ·refine⟨by omega,rfl,rfl,rfl,by rw[Nat.add_zero,ea];rfl,rfl,by rw[Nat.add_zero,ea];omega,Nat.le_refl _,fun j b _ hj=>hj,encS p,by rw[Nat.add_zero,ea];simp[encS],?_⟩;show h[id]?=_;have e3:S.drop (a.length+1)=t:=by rw[e1];simp[List.drop_append]
   have e4:S.flatMap encS=a.flatMap encS++(encS p++t.flatMap encS):=by rw[e1,List.flatMap_append,List.flatMap_cons]
   rw[Nat.add_zero,ea,hid,e3,e4]
  ·rintro c fr hp _ ⟨hj,hlen,g0,g1,g5,g6,hlt,hhl,hkeep,X,hX,hz⟩;simp only at hlen g0 g1 g5 g6 hhl hkeep hz;obtain⟨j,hj0⟩:∃j,j=a.length+1+c:=⟨_,rfl⟩;rw[←hj0]at hj g5 g6 hlt hX hz;have hidp:id<hp.length:=by omega
   by_cases hi:j<S.length
   ·obtain⟨p,hx⟩:∃p,S[j]?=some p:=⟨_,Zb hi⟩;have hst:=nzF_take hx;have hdr:S.drop j=p::S.drop (j+1):=by
     obtain⟨k,e⟩:=Za.1 hx;rw[Zm k,e]
    have hc0:c<S.length:=by omega
    have hj1:a.length+1+(c+1)=j+1:=by omega
    have hgoal:∀s,DelI S id h (j+1) s→DelI S id h (a.length+1+(c+1)) s:=fun s q=>by rw[hj1];exact q
    clear hj0 hj1 e1 e2 ea ha;generalize nzF (S.take j)=F at g5 hlt hX hz hst;obtain⟨cs,hcs⟩:∃cs,cs=F.flatMap encS++(X++(S.drop j).flatMap encS):=⟨_,rfl⟩;have hfl:(F.flatMap encS).length=F.length*2:=bag_len F;have hcl:cs.length=S.length*2:=by
     rw[hcs,Zu,Zu,hfl,hX,bag_len,List.length_drop];omega
    have hrow:(cs.drop (j*2)).take 2=encS p:=by
     rw[hcs,←Zp,List.drop_append_of_le_length (by rw[Zu,hfl,hX];omega),Zt (by rw[Zu,hfl,hX];omega),List.nil_append,hdr,List.flatMap_cons];exact List.take_left' (encS_len p)
    have hc1:j*2+2≤S.length*2:=by omega
    have hc2:F.length*2+2≤S.length*2:=by omega
    have hFS:F.length<S.length:=by omega
    have f1:=fun b h=>f1 b p h
    rw[←hcs]at hz;have hA:∀y:Blk,(hp++[y])[id]?=some (.row cs):=fun y=>by rw[Zd hidp];exact hz
    have hz':∀k,hp[id]'k= .row cs:=fun k=>by obtain⟨_,e⟩:=Za.1 hz;exact e
    have hA':∀(y:Blk) k,(hp++[y])[id]'k= .row cs:=fun y k=>by obtain⟨_,e⟩:=Za.1 (hA y);exact e
    have hkp:∀(y:Blk) j b,j≠id→h[j]?=some b→(hp++[y])[j]?=some b:=fun y j b hne hh=>by
     have:=hkeep j b hne hh;rw[Zd (Za.1 this).1];exact this
    have hf:=fit_succ (i:=j) (by omega);unfold encS at hrow f1;by_cases h0:p.2=0
    ·have f1':∀b h,callN cx M b 32 [.ag [.ls 5 (encL p.1.1) false,.sc (.int .i64 p.2)]] h=some (.sc (.bool true),h):=fun b h=>by rw[f1,h0];rfl
     rw[if_pos h0,Yf]at hst;simp[hlen,g0,g1,g5,g6,hi,hz,hz',hA,hA',hrow,hcl,hc1,f1',hf,setlast,getlast,sps,hc0];clear hf f1 f1';apply hgoal;refine⟨by omega,by simp[hlen],by simp[hlen,g0],by simp[hlen,g1],by simp[hlen,g5,hst],by simp[hlen],by rw[hst];omega,by simp;omega,hkp _,X++encS p,by rw[hst,Zu,hX];simp[encS];omega,?_⟩;rw[hst];rw[hA,hcs,hdr,List.flatMap_cons,Zp]
    ·have f1':∀b h,callN cx M b 32 [.ag [.ls 5 (encL p.1.1) false,.sc (.int .i64 p.2)]] h=some (.sc (.bool false),h):=fun b h=>by rw[f1,decide_eq_false h0]
     rw[if_neg h0]at hst;have hfF:=fit_succ (i:=F.length) (by omega);simp[hlen,g0,g1,g5,g6,hi,hz,hz',hA,hA',hrow,hcl,hc1,hc2,hFS,f1',hf,hfF,setlast,getlast,sps,hc0];clear hf hfF f1 f1';apply hgoal;refine⟨by omega,by simp[hlen],by simp[hlen,g0],by simp[hlen,g1],by simp[hlen,hst],by simp[hlen],by rw[hst];simp;omega,by simp;omega,fun k b hne hh=>by rw[Zq (fun e=>hne e.symm)];exact hkp _ k b hne hh,?_⟩;obtain⟨x0,x1,X',rfl⟩:∃x0 x1 X',X=x0::x1::X':=by
      match X,hX with
      | [],hX=>simp at hX;omega
      | [x],hX=>simp at hX;omega
      |x0::x1::X',_=>exact⟨x0,x1,X',rfl⟩
     refine⟨X'++encS p,by rw[hst];simp[encS]at hX⊢;omega,?_⟩;rw[Zj (by simp;omega),hst];have:=splice_mid (A:=F.flatMap encS) (Z:=[x0,x1]) (E:=encS p) (B:=X'++(encS p++(S.drop (j+1)).flatMap encS)) (o:=F.length*2) hfl.symm rfl;rw[hdr,List.flatMap_cons]at hcs;have e5:cs=F.flatMap encS++([x0,x1]++(X'++(encS p++(S.drop (j+1)).flatMap encS))):=by rw[hcs];simp
     rw[←e5]at this;unfold encS at this⊢;rw[this];simp
   ·have hil:j=S.length:=Zz hj (Zy hi);rw[hil,List.take_length]at g5 hlt hX hz;rw[hil]at g6;simp[hlen,g0,g1,g6,g5];refine⟨hlt,hkeep,_,hz,?_,?_⟩
    ·rw[Zu,Zu,bag_len,hX];simp;omega
    ·exact List.take_left' (bag_len _)
  ·rintro o fr hp hn ⟨rfl,hlen,g0,g5,hlt,hkeep,cs,hz,hcl,htk⟩;simp only at hlen g0 g5 hkeep hz;have hidp:id<hp.length:=(Za.1 hz).1;have hz':∀k,hp[id]'k= .row cs:=fun k=>by obtain⟨_,e⟩:=Za.1 hz;exact e
   generalize nzF S=F at g5 hlt htk⊢;have hF1:F.length≤S.length:=by omega
   have hF2:¬F.length=S.length:=by omega
   have hF3:0<S.length-F.length:=by omega
   have hF4:F.length*2+(S.length-F.length)*2≤S.length*2:=by omega
   have htk2:∀vs:List AV,splice cs (F.length*2) vs=F.flatMap encS++(vs++cs.drop (F.length*2+vs.length)):=fun vs=>by
    unfold splice;rw[htk,Zp]
   cases hF:F with
   |
    nil=>
    subst hF;have hF5:0<S.length:=hF3;have hF6:¬S=[]:=hne;have hF7:¬0=S.length:=by omega
    simp only[List.length_nil]at g5;simp[hlen,g0,g5,sliceA,boundA,clearA,hz,hz',hcl,hF5,hF6,hF7,List.getElem?_set];exact⟨_,_,⟨rfl,rfl⟩,fun j b hne hh=>by rw[Zq (fun e=>hne e.symm)];exact hkeep j b hne hh,.inl ⟨rfl,false,rfl⟩⟩
   |
    cons q F'=>
    rw[←hF];have hFp:0<F.length:=by rw[hF];simp
    have hF5:¬0=F.length:=by omega
    have hF6:¬F.length=0:=by omega
    have hF7:¬F=[]:=by rw[hF];simp
    simp[hlen,g0,g5,sliceA,boundA,clearA,hz,hz',hcl,hF1,hF2,hF3,hF4,hF5,hF6,hF7];refine⟨_,_,⟨rfl,rfl⟩,fun j b hne hh=>by rw[Zq (fun e=>hne e.symm)];exact hkeep j b hne hh,.inr ⟨hF7,rfl,?_⟩⟩;exact⟨_,by rw[Zj hidp,htk2]⟩
end
end Go.Proofs.YtiefabpageilbaaGreatDoor
