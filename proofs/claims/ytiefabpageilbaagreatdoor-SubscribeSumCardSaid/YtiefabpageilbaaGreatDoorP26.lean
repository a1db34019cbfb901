/- Graphs: nodes, edges; a node by its number. -/
import Derived.Test.YtiefabpageilbaaGreatDoorP25
import Derived.Test.YtiefabpageilbaaGreatDoorP14
import Derived.Test.YtiefabpageilbaaGreatDoorP15
set_option linter.all false
set_option maxRecDepth 100000
namespace Go.Proofs.YtiefabpageilbaaGreatDoor
open Go Go.Ae
section
attribute [local simp] aop aopW coldF extF putA ofConst flat scalarOp fastOp binFast intOp strOp guardX Ae.part rowOf szOk natOf lenA cls fillA splice newsOf isNilC cellX
set_option maxHeartbeats 8000000
structure Nd where
 id:Int
 labels:List ByteArray
 props:List Prp
structure Ed where
 id:Int
 src:Int
 dst:Int
 type:ByteArray
 props:List Prp
structure Gr where
 nodes:List Nd
 edges:List Ed
 nn:Int
 ne:Int
def encN (n:Nd):List AV:=[.sc (.int .i64 n.id),tsV n.labels false,prV n.props false]
def encE (e:Ed):List AV:=[.sc (.int .i64 e.id),.sc (.int .i64 e.src),.sc (.int .i64 e.dst),.sc (.string e.type),prV e.props false]
section
variable {C : Cx} {cal : FuncId → List AV → Hp → Option (AV × Hp)} {ops : Array Oper}
theorem opP_np {x:AV}(hx:∀v,x≠ .pn v)(d:Tmp)(rest:List Oper)(fr:List AV)(h:Hp):opP C cal ops (some d) rest fr (some (x,h))=runOpsP C cal ops rest (fr.set d x,h):=by
 cases x<;>first|rfl|exact absurd rfl (hx _)
end
def ndC (o:Option Nd):List AV:=match o with
 |none=> [.sc (.int .i64 0),.sc (.slice none 0 0),.sc (.slice none 0 0)]
 |some n=>encN n
@[simp] theorem ndC_length (o:Option Nd):(ndC o).length=3:=by cases o<;>rfl
set_option maxHeartbeats 16000000
theorem fit_succ {i:Nat}(h:i≤1000000000000000):fitI .i64 ((i:Int)+1)=((i+1:Nat):Int):=fit_i64 (by omega) (by omega)
set_option maxHeartbeats 8000000
structure Ch where
 k:Int
 a:Int
 b:Int
 c:Int
 name:ByteArray
 v:V
def encC (c:Ch):List AV:=[.sc (.int .i64 c.k),.sc (.int .i64 c.a),.sc (.int .i64 c.b),.sc (.int .i64 c.c),.sc (.string c.name)]++enc c.v
@[simp] theorem encC_length (c:Ch):(encC c).length=10:=by simp[encC]
@[simp] theorem enc_take (v:V):(enc v).take 5=enc v:=List.take_of_length_le (by simp)
@[simp] theorem T_uses :cx.T 159=some {size:=3,agg:=true,zero:=[.bool false,.bool false,.bool false],kd:= .struct [(0,1,false),(1,1,false),(2,1,false)]}:=by kernel_rfl
end
end Go.Proofs.YtiefabpageilbaaGreatDoor
namespace Go.Ae
open Go
structure Spl {α:Type}(lt eq:α→Bool)(l pre mid post:List α):Prop where
 e:l=pre++mid++post
 p:∀x∈pre,lt x=true∧eq x=false
 m:∀x∈mid,lt x=false∧eq x=true
 one:mid.length≤1
 q:∀x∈post,lt x=false∧eq x=false
section
variable {α : Type} {lt eq : α → Bool} {l pre mid post : List α}
theorem Spl.filter (h:Spl lt eq l pre mid post):l.filter (fun x=> !eq x)=pre++post:=by
 have h1:pre.filter (fun x=> !eq x)=pre:=List.filter_eq_self.2 fun x hx=>by simp[(h.p x hx).2]
 have h2:mid.filter (fun x=> !eq x)=[]:=List.filter_eq_nil_iff.2 fun x hx=>by simp[(h.m x hx).2]
 have h3:post.filter (fun x=> !eq x)=post:=List.filter_eq_self.2 fun x hx=>by simp[(h.q x hx).2]
 rw[h.e,List.filter_append,List.filter_append,h1,h2,h3,Yf]
theorem Spl.any (h:Spl lt eq l pre mid post):l.any eq= !mid.isEmpty:=by
 rw[h.e,List.any_append,List.any_append];have h1:pre.any eq=false:=List.any_eq_false.2 fun x hx=>by simp[(h.p x hx).2]
 have h3:post.any eq=false:=List.any_eq_false.2 fun x hx=>by simp[(h.q x hx).2]
 rw[h1,h3]
 match hmid:mid with
 | []=>rfl
 |x::_=>simp[(h.m x (by simp)).2]
theorem Spl.take (h:Spl lt eq l pre mid post):l.take pre.length=pre:=by rw[h.e,Zp];simp
theorem Spl.drop (h:Spl lt eq l pre mid post):l.drop pre.length=mid++post:=by rw[h.e,Zp];simp
theorem Spl.at {x:α}(h:Spl lt eq l pre [x] post):l[pre.length]?=some x:=by rw[h.e,Zp];simp
theorem Spl.set {x:α}(h:Spl lt eq l pre [x] post)(n:α):l.set pre.length n=pre++[n]++post:=by rw[h.e,Zp];simp
end
end Go.Ae
namespace Go.Proofs.YtiefabpageilbaaGreatDoor
open Go Go.Ae
section
attribute [local simp] aop aopW coldF extF putA ofConst flat scalarOp fastOp binFast intOp strOp guardX Ae.part rowOf szOk natOf lenA cls fillA splice newsOf isNilC cellX
set_option maxHeartbeats 8000000
theorem encR_take (c:Prp):(encR c).take 6=encR c:=List.take_of_length_le (by simp)
def Bld (h:Hp)(sz:Nat)(rows:List (List AV))(x:AV):Prop:=(rows=[]∧x= .sc (.slice none 0 0))∨(rows≠ []∧∃id,x= .sl id sz 0 rows.length false∧h[id]?=some (.row rows.flatten))
theorem Bld.np {h:Hp}{sz:Nat}{rows:List (List AV)}{x:AV}(hx:Bld h sz rows x)(v:Value):x≠ .pn v:=by
 rcases hx with⟨_,rfl⟩|⟨_,id,rfl,_⟩<;>simp
theorem bld_app' {t:TypeId}{i:Ti}{sz bytes:Nat}{ag:Bool}{ez:List Value}(hT:cx.T t=some i)(hk:i.kd= .slice sz ag bytes ez)(h:Hp)(c:List AV)(rows:List (List AV))(x:AV)(hx:Bld h sz rows x)(hc:c.length=sz)(hr:∀r∈rows,r.length=sz)(hsz:0<sz)(hn:rows.length≤1000000000)(hb:bytes≤1000):
 ∃id h',appendA cx (h++[.row c]) t x (.sl h.length sz 0 1 false)=some (.sl id sz 0 (rows.length+1) false,h')∧h'[id]?=some (.row (rows++[c]).flatten)∧
  (∀j b,h[j]?=some b→(∀k n,x= .sl k sz 0 n false→j≠k)→h'[j]?=some b)∧h.length≤id:=by
 rcases hx with⟨rfl,rfl⟩|⟨hne,id,rfl,hid⟩
 ·refine⟨_,_,app_nil hT hk h c hc hb,?_,fun j b hj _=>?_,by omega⟩
  ·rw[show h++[Blk.row c,Blk.row c]=(h++[Blk.row c])++[Blk.row c] by simp,Zf (by simp)];simp
  ·have:=(Za.1 hj).1;rw[Zd this];exact hj
 ·have hfl:rows.flatten.length=rows.length*sz:=flatten_length rows hr;have hby:(rows.length+1)*bytes≤140737488355328:=by
   have:=Nat.mul_le_mul (show rows.length+1≤1000000001 by omega) hb;omega
  refine⟨_,_,app_own hT hk h c rows.flatten id rows.length hid hc hfl hsz (by omega) hby,?_,fun j b hj hjk=>?_,by omega⟩
  ·rw[Zf (by simp)];simp
  ·have hjl:=(Za.1 hj).1;have hjn:j≠id:=hjk id _ rfl;rw[Zd (by simp;omega),Zq (fun e=>hjn e.symm),Zd hjl];exact hj
def bldV (sz:Nat)(rows:List (List AV)):AV:=if rows.isEmpty then .sc (.slice none 0 0)else .ls sz rows false
theorem chunk_flat {sz:Nat}(hsz:0<sz):∀(rows:List (List AV)),(∀r∈rows,r.length=sz)→(List.range rows.length).map (fun i=>(rows.flatten.drop (i*sz)).take sz)=rows
 | [],_=>rfl
 |
  r::rows,h=>by
  have hr:=h r (by simp);have ih:=chunk_flat hsz rows fun x hx=>h x (by simp[hx])
  rw[List.length_cons,List.range_succ_eq_map,List.map_cons,List.map_map]
  congr 1
  ·simp[←hr]
  ·refine Eq.trans (List.map_congr_left fun i _=>?_) ih;simp only[Function.comp_apply,List.flatten_cons,Nat.succ_eq_add_one,Nat.add_mul,Nat.one_mul];rw[Nat.add_comm,←List.drop_drop,←hr,List.drop_left]
def calm1 :AV→Bool
 | .sc _| .ls .. | .rp .. =>true
 |_=>false
@[simp] theorem calm1_sc (v:Value):calm1 (.sc v)=true:=rfl
@[simp] theorem calm1_ls (sz:Nat)(rows:List (List AV))(z:Bool):calm1 (.ls sz rows z)=true:=rfl
theorem snap_calm1 {h:Hp}{n:Nat}{x:AV}(hx:calm1 x=true):snap h n x=some x:=by
 cases x<;>simp[calm1]at hx<;>simp[snap]
theorem mapM_calm1 {h:Hp}{n:Nat}:∀{xs:List AV},xs.all calm1=true→xs.mapM (snap h n)=some xs
 | [],_=>rfl
 |
  x::xs,hx=>by
  rw[Zn,Zh]at hx;rw[Zo,snap_calm1 hx.1,mapM_calm1 hx.2];rfl
theorem snap_flat {h:Hp}{n id sz:Nat}{rows:List (List AV)}{cs:List AV}(hsz:0<sz)(hr:∀r∈rows,r.length=sz)(hc:rows.flatten.all calm1=true)(hid:rowOf h id=some cs)(htk:cs.take (rows.length*sz)=rows.flatten)(hle:rows.length*sz≤cs.length):snap h (n+1) (.sl id sz 0 rows.length false)=some (.ls sz rows false):=by
 simp only[snap,hid,Nat.zero_add,List.drop_zero,if_pos hle,htk,mapM_calm1 hc,Option.map_some,chunk_flat hsz rows hr]
theorem bld_snap {h:Hp}{n sz:Nat}{rows:List (List AV)}{x:AV}(hsz:0<sz)(hr:∀r∈rows,r.length=sz)(hc:rows.flatten.all calm1=true)(hx:Bld h sz rows x):snap h (n+1) x=some (bldV sz rows):=by
 rcases hx with⟨rfl,rfl⟩|⟨hne,id,rfl,hid⟩
 ·rfl
 ·have hfl:rows.flatten.length=rows.length*sz:=flatten_length rows hr;rw[snap_flat hsz hr hc (rowOf_row hid) (by rw[List.take_of_length_le (by omega)]) (by omega)];unfold bldV;cases rows with
  |nil=>exact absurd rfl hne
  |cons r rows=>rfl
theorem nfS_bld (sz:Nat)(rows:List (List AV)):nfS sz (bldV sz rows)= .ls sz rows false:=by
 unfold bldV;cases rows with
 |nil=>rfl
 |cons r rows=>simp[nfS]
theorem calm1_rows {rows:List (List AV)}(h:∀r∈rows,r.all calm1=true):rows.flatten.all calm1=true:=by
 induction rows with
 |nil=>rfl
 |cons r rows ih=>rw[List.flatten_cons,List.all_append,h r (by simp),ih fun x hx=>h x (by simp[hx])];rfl
end
@[simp] theorem T_Row :cx.T 28=some {size:=1,agg:=false,zero:=[.slice none 0 0],kd:= .slice 5 true 64 [.int .i64 0,.int .i64 0,.int .i64 0,.string ⟨#[]⟩,.slice none 0 0]}:=by kernel_rfl
@[simp] theorem T_Rows :cx.T 32=some {size:=1,agg:=false,zero:=[.slice none 0 0],kd:= .slice 1 false 24 [.slice none 0 0]}:=by kernel_rfl
@[simp] theorem T_Signed :cx.T 30=some {size:=2,agg:=true,zero:=[.slice none 0 0,.int .i64 0],kd:= .struct [(0,1,false),(1,1,false)]}:=by kernel_rfl
@[simp] theorem T_Bag :cx.T 24=some {size:=1,agg:=false,zero:=[.slice none 0 0],kd:= .slice 2 true 32 [.slice none 0 0,.int .i64 0]}:=by kernel_rfl
@[simp] theorem T_Tuples :cx.T 445=some {size:=1,agg:=false,zero:=[.slice none 0 0],kd:= .slice 1 false 24 [.slice none 0 0]}:=by kernel_rfl
@[simp] theorem L_Row :isSlT cx 28=true:=by kernel_rfl
@[simp] theorem L_Rows :isSlT cx 32=true:=by kernel_rfl
@[simp] theorem L_Bag :isSlT cx 24=true:=by kernel_rfl
@[simp] theorem L_Tuples :isSlT cx 445=true:=by kernel_rfl
@[simp] theorem M_ix :isMapS cx 98=true:=by kernel_rfl
@[simp] theorem Z_ix :mapZ cx 98=some (.sc (.int .i64 0)):=by kernel_rfl
section
attribute [local simp] aop aopW coldF extF putA ofConst flat scalarOp fastOp binFast intOp strOp guardX Ae.part rowOf szOk natOf lenA cls fillA newsOf isNilC cellX
set_option maxHeartbeats 16000000
theorem calm1_enc (v:V):(enc v).all calm1=true:=by
 cases v with
 |
  mk k n d s z l=>
  rw[enc];rcases lsV_cases z l with⟨_,h⟩|h<;>(unfold evL at h;rw[h];rfl)
theorem encL_all (l:List V):(∀r∈encL l,r.length=5)∧(encL l).flatten.all calm1=true:=by
 induction l with
 |nil=>rw[encL];exact⟨fun r hr=>by simp at hr,rfl⟩
 |
  cons x l ih=>
  rw[encL];refine⟨fun r hr=>?_,by rw[List.flatten_cons,List.all_append,calm1_enc,ih.2];rfl⟩;rcases List.mem_cons.1 hr with rfl|h
  ·exact enc_length x
  ·exact ih.1 r h
theorem zkL_len (l:List V):l.length≤(zkL l).length:=by
 induction l with
 |nil=>simp
 |
  cons x l ih=>
  rw[zkL,Zu,List.length_cons];have:1≤(zkV x).length:=by cases x;rw[zkV];simp;omega
  omega
def zr5 :List AV:=[.sc (.int .i64 0),.sc (.int .i64 0),.sc (.int .i64 0),.sc (.string ⟨#[]⟩),.sc (.slice none 0 0)]
def zrs (m:Nat):List AV:=(List.range m).flatMap fun _=>zr5
theorem zrs_succ (m:Nat):zrs (m+1)=zr5++zrs m:=by
 unfold zrs;rw[List.range_succ_eq_map,List.flatMap_cons,List.flatMap_map]
theorem zrs_len (m:Nat):(zrs m).length=m*5:=by
 induction m with
 |zero=>rfl
 |succ m ih=>rw[zrs_succ,Zu,ih,Nat.add_mul];simp[zr5];omega
theorem splice_mid {A Z E B:List AV}{o:Nat}(h:o=A.length)(he:E.length=Z.length):splice (A++(Z++B)) o E=A++(E++B):=by
 subst h;unfold splice;rw[List.take_left,he,←List.drop_drop,List.drop_left,List.drop_left,Zp]
theorem sp5 (a b c d e p q r s t:AV):splice [a,b,c,d,e] 0 [p,q,r,s,t]=[p,q,r,s,t]:=rfl
theorem sp4 (a b c d e x:AV):splice [a,b,c,d,e] 4 [x]=[a,b,c,d,x]:=rfl
def cloneR (l:List V)(i:Nat):List AV:=((encL l).take i).flatten++zrs (l.length-i)
theorem flat5 (l:List V)(i:Nat)(hi:i≤l.length):((encL l).take i).flatten.length=i*5:=by
 have:=flatten_length ((encL l).take i) (sz:=5) fun r hr=>(encL_all l).1 r (List.mem_of_mem_take hr)
 rw[this,List.length_take,encL_length]
 congr 1;omega
theorem cloneR_len (l:List V)(i:Nat)(hi:i≤l.length):(cloneR l i).length=l.length*5:=by
 unfold cloneR;rw[Zu,flat5 l i hi,zrs_len];omega
theorem cloneR_step {l:List V}{i:Nat}{x:V}(h:l[i]?=some x):splice (cloneR l i) (i*5) (enc x)=cloneR l (i+1):=by
 have hi:=(Za.1 h).1;unfold cloneR;obtain⟨m,hm⟩:∃m,l.length-i=m+1:=⟨l.length-i-1,by omega⟩;rw[hm,zrs_succ,splice_mid (flat5 l i (by omega)).symm (by rw[enc_length];rfl),show l.length-(i+1)=m by omega,List.take_add_one,encL_get,h];simp
theorem cloneR_end (l:List V):cloneR l l.length=(encL l).flatten:=by
 unfold cloneR;rw[Nat.sub_self,List.take_of_length_le (by rw[encL_length];omega)];simp[zrs]
theorem at0 {h:Hp}{b:Blk}(k:h[0]?=some b):∀j,h[0]'j=b:=fun j=>by obtain⟨_,e⟩:=Za.1 k;exact e
theorem z_clone :∀(D:Nat) (l:List V),(∀x∈l,dep x≤D)→gdL l→(zkR l).length≤1000000000000→∀(N:Nat) (z:Bool) b h,callN cx (N+D+1) b 30 [.ls 5 (encL l) z] h=some (.ls 5 (encL l) false,h):=by
 intro D
 induction D with
 |
  zero=>
  intro l hd;have:l=[]:=by
   cases l with
   |nil=>rfl
   |cons x l=>have:=hd x (by simp);have:=dep_pos x;omega
  subst this;intro _ _ N z b h;refine kx_call (f:=30) (n:=N) (args:=[.ls 5 (encL []) z]) (.ls 5 (encL []) false) ⟨Tryz.f30.ntmps,(Tryz.f30.body).getD .skip,[.tmp 2]⟩ (by kernel_rfl) (by kernel_rfl) rfl (by kernel_rfl) (by simp[Tryz.f30]) rfl ?_ (by decide) b h;have hkx:kx 30=5:=by decide
  rw[hkx];simp[Tryz.f30,encL,maxLen];refine loop_up (C:=cx) (G:=fun r=>∃r0 h',finX _ (thenX _ _ (blockX _ r) _)=some (r0,h')∧∃r',Ae.snap h' 8 r0=some r'∧nfX 5 r'= .ls 5 [] false)
   (fun i s=>i=0∧s.1.length=30∧gt s.1 3= .sl 0 5 0 0 false∧gt s.1 10= .sc (.int .i64 0)∧gt s.1 11= .sc (.int .i64 0)∧s.2[0]?=some (.row []))
   (fun o s=>o= .exit 0∧s.1.length=30∧gt s.1 3= .sl 0 5 0 0 false∧s.2[0]?=some (.row [])) 0 (by simp) ⟨rfl,rfl,rfl,rfl,rfl,rfl⟩ ?_ ?_
  ·rintro i fr hp hle ⟨rfl,hlen,h3,h10,h11,hz⟩;simp only at hlen h3 h10 h11 hz;simp[hlen,h3,h10,h11,hz]
  ·rintro o fr hp hn ⟨rfl,hlen,h3,hz⟩;simp only at hlen h3 hz;have:=snap_flat (h:=hp) (n:=7) (id:=0) (sz:=5) (rows:=[]) (cs:=[]) (by omega) (by simp) rfl (by rw[rowOf,hz]) rfl (by simp);simp[hlen,h3,nfX];exact⟨_,_,⟨rfl,rfl⟩,_,this,rfl⟩
 |
  succ D ih=>
  intro l hd hg hk N z b h;refine kx_call (f:=30) (n:=N+D+1) (args:=[.ls 5 (encL l) z]) (.ls 5 (encL l) false) ⟨Tryz.f30.ntmps,(Tryz.f30.body).getD .skip,[.tmp 2]⟩ (by kernel_rfl) (by kernel_rfl) rfl (by kernel_rfl) (by simp[Tryz.f30]) rfl ?_ (by decide) b h;have hkx:kx 30=5:=by decide
  rw[hkx];have hkl:(zkR l).length=(itoaC l.length).length+(zkL l).length+2:=by unfold zkR;simp;omega
  have hl:l.length≤1000000000000:=by have:=zkL_len l;omega
  have fR:∀x∈l,∀b h,callN cx (N+D+1) b 30 [.ls 5 (encL x.l) false] h=some (.ls 5 (encL x.l) false,h):=fun x hx=>by
   have gx:=gdL_mem hg x hx;have dx:=hd x hx;have kx:=zkV_le hx;cases x with
   |
    mk k n d s z' l'=>
    rw[gdV]at gx;rw[dep]at dx;have:(zkR l').length≤(zkV (.mk k n d s z' l')).length:=by
     rw[zkV,zkR];simp;omega
    exact ih l' (fun y hy=>by have:=dep_mem hy;omega) gx.2.2.2.2.2.2 (by omega) N false
  clear ih;generalize N+D+1=M at fR⊢;have hq:=encL_length l;have hgt:=encL_get l;have hall:=encL_all l;have hst:=fun(i:Nat) (x:V)=>cloneR_step (l:=l) (i:=i) (x:=x)
  have hcl:=cloneR_len l;have hend:=cloneR_end l;have h0:cloneR l 0=(List.range l.length).flatMap fun _=> [.sc (.int .i64 0),.sc (.int .i64 0),.sc (.int .i64 0),.sc (.string ⟨#[]⟩),.sc (.slice none 0 0)]:=by
   unfold cloneR zrs zr5;simp
  generalize cloneR l=cR at hst hcl hend h0;generalize encL l=rows at hq hgt hall hend;have c1:(l.length:Nat)≤9223372036854775807:=by omega
  have c2:l.length*64≤140737488355328:=by omega
  simp[Tryz.f30,hq,maxLen,c1,c2];refine loop_up (C:=cx) (G:=fun r=>∃r0 h',finX _ (thenX _ _ (blockX _ r) _)=some (r0,h')∧∃r',Ae.snap h' 8 r0=some r'∧nfX 5 r'= .ls 5 rows false)
   (fun i s=>i≤l.length∧s.1.length=30∧gt s.1 3= .sl 0 5 0 l.length false∧gt s.1 9= .ls 5 rows z∧gt s.1 10= .sc (.int .i64 l.length)∧gt s.1 11= .sc (.int .i64 i)∧s.2[0]?=some (.row (cR i)))
   (fun o s=>o= .exit 0∧s.1.length=30∧gt s.1 3= .sl 0 5 0 l.length false∧s.2[0]?=some (.row rows.flatten)) l.length (by simp;omega) ?_ ?_ ?_
  ·refine⟨by omega,rfl,rfl,rfl,rfl,rfl,?_⟩;rw[h0];rfl
  ·rintro i fr hp hle0 ⟨hle,hlen,h3,h9,h10,h11,hz⟩;simp only at hlen h3 h9 h10 h11 hz;by_cases hi:i<l.length
   ·obtain⟨x,hx⟩:∃x,l[i]?=some x:=⟨_,Zb hi⟩;have hmem:=Zi hx;have gx:=gdL_mem hg x hmem;have fK:=fR x hmem;have hr:rows[i]?=some (enc x):=by rw[hgt,hx];rfl
    have hr':∀k,rows[i]'k=enc x:=fun k=>by obtain⟨_,e⟩:=Za.1 hr;exact e
    have hf:fitI .i64 ((i:Int)+1)=((i+1:Nat):Int):=fit_i64 (by omega) (by omega);have hs1:=hst i x hx;have hc1:=hcl i (by omega);have hpl:0<hp.length:=(Za.1 hz).1;have hne:¬hp.length=0:=by omega
    have hpn:¬hp=[]:=fun e=>by rw[e]at hpl;simp at hpl
    have hz':=at0 hz;have hA:∀y:Blk,(hp++[y])[0]?=some (.row (cR i)):=fun y=>by rw[Zd hpl];exact hz
    have hA':=fun y=>at0 (hA y)
    have hS:∀(y w:Blk),((hp++[y]).set 0 w)[0]?=some w:=fun y w=>by rw[Zj (by simp)]
    have hge:i*5+5≤l.length*5:=by omega
    clear fR hst hcl;cases x with
    |
     mk k n d s z' l'=>
     rw[gdV]at gx;obtain⟨g1,g2,g3,g4,g5,rfl,_⟩:=gx;simp only[V.l]at fK;simp only[enc,lsV_false]at hr hr' hs1;cases l' with
     |
      nil=>
      simp only[encL]at hr hr' hs1;simp[hlen,h3,h9,h10,h11,hi,hq,hr,hr',hf,setlast,getlast,hA,hA',hS,sp5,sp4,hc1,hge,hne,hpn];exact⟨by omega,by rw[hs1]⟩
     |
      cons y l'=>
      have e1:((encL (y::l')).length:Int)=l'.length+1:=by rw[encL_length];simp
      generalize encL (y::l')=rows' at fK hr hr' hs1 e1;have e2:(0:Int)< (rows'.length:Int):=by omega
      have e3:0<rows'.length:=by omega
      have e4:¬rows'=[]:=fun e=>by rw[e]at e3;simp at e3
      simp[hlen,h3,h9,h10,h11,hi,hq,hr,hr',hf,setlast,getlast,hA,hA',hS,sp5,sp4,hc1,hge,hne,hpn,fK,e2,e3,e4];exact⟨by omega,by rw[hs1]⟩
   ·have hil:i=l.length:=Zz hle (Zy hi);subst hil;rw[hend]at hz;simp[hlen,h3,h9,h10,h11,hq,hz]
  ·rintro o fr hp hn ⟨rfl,hlen,h3,hz⟩;simp only at hlen h3 hz;have:=snap_flat (h:=hp) (n:=7) (id:=0) (sz:=5) (rows:=rows) (cs:=rows.flatten) (by omega) hall.1 hall.2 (by rw[rowOf,hz]) (by rw[List.take_of_length_le];rw[flatten_length rows hall.1];omega) (by rw[flatten_length rows hall.1];omega);rw[hq]at this;simp[hlen,h3,nfX];exact⟨_,_,⟨rfl,rfl⟩,_,this,rfl⟩
theorem r47_row (N:Nat)(l:List V)(z:Bool)(b:Bool)(h:Hp)(hl:l.length≤1000000000000):callN cx (N+1) b 20 [.ls 5 (encL l) z] h=some (.ls 5 (encL l) false,h):=by
 refine kx_call (f:=20) (n:=N) (args:=[.ls 5 (encL l) z]) (.ls 5 (encL l) false) ⟨Tryz.f20.ntmps,(Tryz.f20.body).getD .skip,[.tmp 2]⟩ (by kernel_rfl) (by kernel_rfl) rfl (by kernel_rfl) (by simp[Tryz.f20]) rfl ?_ (by decide) b h;have hkx:kx 20=5:=by decide
 rw[hkx];have hall:=encL_all l;have hq:=encL_length l;generalize encL l=rows at hall hq;have hfl:=flatten_length rows hall.1;cases hr:rows with
 |
  nil=>
  have e0:Ae.snap [Blk.row []] 8 (.sl 0 5 0 0 false)=some (.ls 5 [] false):=snap_flat (rows:=[]) (cs:=[]) (by omega) (by simp) rfl rfl rfl (by simp);simp[Tryz.f20,appendA,nfX,nfS];exact⟨_,_,⟨rfl,rfl⟩,_,e0,rfl⟩
 |
  cons r rest=>
  rw[←hr];have h0:¬rows.length=0:=by rw[hr];simp
  have h1:¬rows=[]:=by rw[hr];simp
  have c1:rows.length≤9223372036854775807:=by omega
  have c2:rows.length*64≤140737488355328:=by omega
  have e0:Ae.snap [Blk.dead,Blk.row rows.flatten] 8 (.sl 1 5 0 rows.length false)=some (.ls 5 rows false):=snap_flat (cs:=rows.flatten) (by omega) hall.1 hall.2 rfl (by rw[List.take_of_length_le];omega) (by omega);have h2:¬rows.length*5=0:=by omega
  simp[Tryz.f20,appendA,maxLen,h0,h1,h2,c1,c2,nfX,nfS];exact⟨_,_,⟨rfl,rfl⟩,_,e0,rfl⟩
end
end Go.Proofs.YtiefabpageilbaaGreatDoor
