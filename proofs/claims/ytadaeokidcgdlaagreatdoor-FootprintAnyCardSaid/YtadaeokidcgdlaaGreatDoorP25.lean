/- Slices under construction: append by append. -/
import Derived.Test.YtadaeokidcgdlaaGreatDoorP24
set_option linter.unusedSimpArgs false
set_option maxRecDepth 100000
namespace Go.Proofs.YtadaeokidcgdlaaGreatDoor
open Go Go.Ae
section
attribute [local simp] aop aopW coldF extF putA ofConst flat scalarOp fastOp binFast intOp strOp guardX Ae.part rowOf szOk natOf lenA cls fillA splice newsOf isNilC cellX
set_option maxHeartbeats 8000000
def Bld (h:Hp)(sz:Nat)(rows:List (List AV))(x:AV):Prop:=(rows=[]∧x= .sc (.slice none 0 0))∨(rows≠ []∧∃id,x= .sl id sz 0 rows.length false∧h[id]?=some (.row rows.flatten))
theorem Bld.np {h:Hp}{sz:Nat}{rows:List (List AV)}{x:AV}(hx:Bld h sz rows x)(v:Value):x≠ .pn v:=by
 rcases hx with⟨_,rfl⟩|⟨_,id,rfl,_⟩<;>simp
theorem bld_app' {t:TypeId}{i:Ti}{sz bytes:Nat}{ag:Bool}{ez:List Value}(hT:cx.T t=some i)(hk:i.kd= .slice sz ag bytes ez)(h:Hp)(c:List AV)(rows:List (List AV))(x:AV)(hx:Bld h sz rows x)(hc:c.length=sz)(hr:∀r∈rows,r.length=sz)(hsz:0<sz)(hn:rows.length≤1000000000)(hb:bytes≤1000):
 ∃id h',appendA cx (h++[.row c]) t x (.sl h.length sz 0 1 false)=some (.sl id sz 0 (rows.length+1) false,h')∧h'[id]?=some (.row (rows++[c]).flatten)∧
  (∀j b,h[j]?=some b→(∀k n,x= .sl k sz 0 n false→j≠k)→h'[j]?=some b)∧h.length≤id:=by
 rcases hx with⟨rfl,rfl⟩|⟨hne,id,rfl,hid⟩
 ·refine⟨_,_,app_nil hT hk h c hc hb,?_,fun j b hj _=>?_,by omega⟩
  ·rw[show h++[Blk.row c,Blk.row c]=(h++[Blk.row c])++[Blk.row c] by simp,Zf (by simp)];simp
  ·have:=(Za.1 hj).1;rw[Zd this];exact hj
 ·have hfl:rows.flatten.length=rows.length*sz:=flatten_length rows hr;have hby:(rows.length+1)*bytes≤140737488355328:=by
   have:=Nat.mul_le_mul (show rows.length+1≤1000000001 by omega) hb;omega
  refine⟨_,_,app_own hT hk h c rows.flatten id rows.length hid hc hfl hsz (by omega) hby,?_,fun j b hj hjk=>?_,by omega⟩
  ·rw[Zf (by simp)];simp
  ·have hjl:=(Za.1 hj).1;have hjn:j≠id:=hjk id _ rfl;rw[Zd (by simp;omega),Zq (fun e=>hjn e.symm),Zd hjl];exact hj
theorem bld_app {t:TypeId}{i:Ti}{sz bytes:Nat}{ag:Bool}{ez:List Value}(hT:cx.T t=some i)(hk:i.kd= .slice sz ag bytes ez)(h:Hp)(c:List AV)(rows:List (List AV))(x:AV)(hx:Bld h sz rows x)(hc:c.length=sz)(hr:∀r∈rows,r.length=sz)(hsz:0<sz)(hn:rows.length≤1000000000)(hb:bytes≤1000):
 ∃id h',appendA cx (h++[.row c]) t x (.sl h.length sz 0 1 false)=some (.sl id sz 0 (rows.length+1) false,h')∧h'[id]?=some (.row (rows++[c]).flatten)∧
  (∀j b,h[j]?=some b→(∀k n,x= .sl k sz 0 n false→j≠k)→h'[j]?=some b):=by
 obtain⟨id,h',a,b,c,_⟩:=bld_app' hT hk h c rows x hx hc hr hsz hn hb;exact⟨id,h',a,b,c⟩
theorem bld_of {h:Hp}{sz:Nat}{rows:List (List AV)}{c:List AV}{id:Nat}(hid:h[id]?=some (.row (rows++[c]).flatten)):Bld h sz (rows++[c]) (.sl id sz 0 (rows.length+1) false):=
 .inr ⟨by simp,id,by simp,hid⟩
def bldV (sz:Nat)(rows:List (List AV)):AV:=if rows.isEmpty then .sc (.slice none 0 0)else .ls sz rows false
theorem chunk_flat {sz:Nat}(hsz:0<sz):∀(rows:List (List AV)),(∀r∈rows,r.length=sz)→(List.range rows.length).map (fun i=>(rows.flatten.drop (i*sz)).take sz)=rows
 | [],_=>rfl
 |
  r::rows,h=>by
  have hr:=h r (by simp);have ih:=chunk_flat hsz rows fun x hx=>h x (by simp[hx])
  rw[List.length_cons,List.range_succ_eq_map,List.map_cons,List.map_map]
  congr 1
  ·simp[←hr]
  ·refine Eq.trans (List.map_congr_left fun i _=>?_) ih;simp only[Function.comp_apply,List.flatten_cons,Nat.succ_eq_add_one,Nat.add_mul,Nat.one_mul];rw[Nat.add_comm,←List.drop_drop,←hr,List.drop_left]
def calm1 :AV→Bool
 | .sc _| .ls .. | .rp .. =>true
 |_=>false
@[simp] theorem calm1_sc (v:Value):calm1 (.sc v)=true:=rfl
@[simp] theorem calm1_ls (sz:Nat)(rows:List (List AV))(z:Bool):calm1 (.ls sz rows z)=true:=rfl
theorem snap_calm1 {h:Hp}{n:Nat}{x:AV}(hx:calm1 x=true):snap h n x=some x:=by
 cases x<;>simp[calm1]at hx<;>simp[snap]
theorem mapM_calm1 {h:Hp}{n:Nat}:∀{xs:List AV},xs.all calm1=true→xs.mapM (snap h n)=some xs
 | [],_=>rfl
 |
  x::xs,hx=>by
  rw[Zn,Zh]at hx;rw[Zo,snap_calm1 hx.1,mapM_calm1 hx.2];rfl
theorem snap_flat {h:Hp}{n id sz:Nat}{rows:List (List AV)}{cs:List AV}(hsz:0<sz)(hr:∀r∈rows,r.length=sz)(hc:rows.flatten.all calm1=true)(hid:rowOf h id=some cs)(htk:cs.take (rows.length*sz)=rows.flatten)(hle:rows.length*sz≤cs.length):snap h (n+1) (.sl id sz 0 rows.length false)=some (.ls sz rows false):=by
 simp only[snap,hid,Nat.zero_add,Yg,if_pos hle,htk,mapM_calm1 hc,Option.map_some,chunk_flat hsz rows hr]
theorem bld_snap {h:Hp}{n sz:Nat}{rows:List (List AV)}{x:AV}(hsz:0<sz)(hr:∀r∈rows,r.length=sz)(hc:rows.flatten.all calm1=true)(hx:Bld h sz rows x):snap h (n+1) x=some (bldV sz rows):=by
 rcases hx with⟨rfl,rfl⟩|⟨hne,id,rfl,hid⟩
 ·rfl
 ·have hfl:rows.flatten.length=rows.length*sz:=flatten_length rows hr;rw[snap_flat hsz hr hc (rowOf_row hid) (by rw[List.take_of_length_le (by omega)]) (by omega)];unfold bldV;cases rows with
  |nil=>exact absurd rfl hne
  |cons r rows=>rfl
theorem nfS_bld (sz:Nat)(rows:List (List AV)):nfS sz (bldV sz rows)= .ls sz rows false:=by
 unfold bldV;cases rows with
 |nil=>rfl
 |cons r rows=>simp[nfS]
theorem calm1_encR (c:Prp):(encR c).all calm1=true:=by
 rw[encR_eq];rcases lsV_cases c.v.isNil c.v.l with⟨_,h⟩|h<;>(rw[h];rfl)
theorem calm1_rows {rows:List (List AV)}(h:∀r∈rows,r.all calm1=true):rows.flatten.all calm1=true:=by
 induction rows with
 |nil=>rfl
 |cons r rows ih=>rw[List.flatten_cons,List.all_append,h r (by simp),ih fun x hx=>h x (by simp[hx])];rfl
theorem prR_all (l:List Prp):(∀r∈prR l,r.length=6)∧(prR l).flatten.all calm1=true:=
 ⟨fun r hr=>by obtain⟨c,_,rfl⟩:=Yi.1 hr;simp,calm1_rows fun r hr=>by obtain⟨c,_,rfl⟩:=Yi.1 hr;exact calm1_encR c⟩
theorem tsR_all (l:List ByteArray):(∀r∈tsR l,r.length=1)∧(tsR l).flatten.all calm1=true:=
 ⟨fun r hr=>by obtain⟨c,_,rfl⟩:=Yi.1 hr;rfl,calm1_rows fun r hr=>by obtain⟨c,_,rfl⟩:=Yi.1 hr;rfl⟩
theorem ndR_all (l:List Nd):(∀r∈ndR l,r.length=3)∧(ndR l).flatten.all calm1=true:=
 ⟨fun r hr=>by obtain⟨c,_,rfl⟩:=Yi.1 hr;rfl,calm1_rows fun r hr=>by obtain⟨c,_,rfl⟩:=Yi.1 hr;rfl⟩
theorem edR_all (l:List Ed):(∀r∈edR l,r.length=5)∧(edR l).flatten.all calm1=true:=
 ⟨fun r hr=>by obtain⟨c,_,rfl⟩:=Yi.1 hr;rfl,calm1_rows fun r hr=>by obtain⟨c,_,rfl⟩:=Yi.1 hr;rfl⟩
set_option maxHeartbeats 16000000
@[simp] theorem encR_get0 (c:Prp)(h:0< (encR c).length):(encR c)[0]'h= .sc (.string c.key):=rfl
attribute [local simp] encR_take
theorem calm_sp (l:List Prp)(x:ByteArray)(v:V):[prV l false,.sc (.string x),.ag (enc v)].all calm=true:=by
 have:calm (.ag (enc v))=true:=calm_evV v;rw[Zn,Zn,Zn,this];rfl
def setR (l:List Prp)(x:ByteArray)(v:V):List Prp:=putL (ltR x) (eqR x) ⟨x,v⟩ (!nullS v) l
theorem prR_app (l m:List Prp):prR (l++m)=prR l++prR m:=by simp[prR]
def bn :Bool→Nat
 |true=>0
 |false=>1
theorem putF_len {α:Type}{lt eq:α→Bool}{n:α}{add:Bool}:∀(l:List α) (acc:List α) (d:Bool),((l.foldl (putR lt eq n add) (acc,d)).1).length≤acc.length+l.length+bn d
 | [],acc,d=>by simp
 |
  x::l,acc,d=>by
  rw[List.foldl_cons];have ih:=putF_len (lt:=lt) (eq:=eq) (n:=n) (add:=add) l (putR lt eq n add (acc,d) x).1 (putR lt eq n add (acc,d) x).2;refine Ym ih ?_;have h1:(if eq x=true then([]:List α)else[x]).length≤1:=by split<;>simp
  have h2:(if(!d && !lt x && add)=true then[n]else[]).length+bn (d|| !lt x)≤bn d:=by
   rcases Bool.eq_false_or_eq_true (lt x)with e|e<;>rw[e]<;>cases d<;>cases add<;>simp[bn]
  simp only[putR,Zu,List.length_cons];omega
theorem putF_le {α:Type}(lt eq:α→Bool)(n:α)(add:Bool)(l:List α)(i:Nat):((putF lt eq n add l i).1).length≤l.length+1:=by
 unfold putF;have:=putF_len (lt:=lt) (eq:=eq) (n:=n) (add:=add) (l.take i) [] false;simp only[List.length_nil,Nat.zero_add,List.length_take,bn]at this;omega
theorem snap_tp2 {h:Hp}{x x':AV}{v:Value}(e:snap h 7 x=some x'):snap h 8 (.tp [x,.sc v])=some (.tp [x',.sc v]):=by
 show(List.mapM (snap h 7) [x,.sc v]).map AV.tp=_;rw[Zo,e];rfl
theorem r08_setProp (N D:Nat)(b:Bool)(l:List Prp)(x:ByteArray)(v:V)(h:Hp)(hl:l.length≤100000)(hd:dep v≤D)(hv:bdV v):
 callN cx (N+3*D+8) b 219 [prV l false,.sc (.string x),.ag (enc v)] h=some (.tp [bldV 6 (prR (setR l x v)),.sc (.bool (decide ((setR l x v).length≤16)))],h):=by
 suffices H:∃r,r=AV.tp [bldV 6 (prR (setR l x v)),.sc (.bool (decide ((setR l x v).length≤16)))]∧∀b h,callN cx (N+3*D+8) b 219 [prV l false,.sc (.string x),.ag (enc v)] h=some (r,h) by
  obtain⟨r,rfl,hr⟩:=H;exact hr b h
 refine pure_ex (f:=219) (n:=N+3*D+7) (args:=[prV l false,.sc (.string x),.ag (enc v)]) (fun r=>r= .tp [bldV 6 (prR (setR l x v)),.sc (.bool (decide ((setR l x v).length≤16)))]) ⟨Tryz.f219.ntmps,(Tryz.f219.body).getD .skip,[.tmp 6,.tmp 7]⟩ (by kernel_rfl) (by kernel_rfl) rfl (by kernel_rfl) (by simp[Tryz.f219]) (calm_sp _ _ _) ?_;have hq:=prR_length l;have hg:=prR_get l;have f1:=fun b h=>r08_null N D b v h hd hv
 have hle:=putF_le (ltR x) (eqR x) ⟨x,v⟩ (!nullS v) l;unfold setR putL;unfold prV;generalize nullS v=nul at f1 hle⊢;generalize hP:putF (ltR x) (eqR x) ⟨x,v⟩ (!nul) l=P at hle⊢;generalize prR l=rows at hq hg;generalize N+3*D+7=M at f1;have h0:P 0=([],false):=by rw[←hP];rfl
 have hstep:∀{i:Nat} {c:Prp},l[i]?=some c→P (i+1)=putR (ltR x) (eqR x) ⟨x,v⟩ (!nul) (P i) c:=fun hc=>by rw[←hP];exact putF_succ _ _ hc
 clear hP;simp[Tryz.f219];refine loop_up (C:=cx) (G:=fun r=>∃r0 h',finX _ (thenX _ _ (blockX _ r) _)=some (r0,h')∧snap h' 8 r0=some (.tp [bldV 6 (prR (putZ ⟨x,v⟩ (!nul) (P l.length))),.sc (.bool (decide ((putZ ⟨x,v⟩ (!nul) (P l.length)).length≤16)))]))
  (fun i s=>s.1.length=68∧gt s.1 0= .ls 6 rows false∧gt s.1 1= .sc (.string x)∧gt s.1 5= .pt 0 0∧gt s.1 9= .sc (.bool (P i).2)∧gt s.1 10= .sc (.int .i64 i)∧s.2[0]?=some (.row (enc v))∧∃y,gt s.1 8=y∧Bld s.2 6 (prR (P i).1) y)
  (fun o s=>o= .exit 0∧s.1.length=68∧gt s.1 1= .sc (.string x)∧gt s.1 5= .pt 0 0∧gt s.1 9= .sc (.bool (P l.length).2)∧s.2[0]?=some (.row (enc v))∧∃y,gt s.1 8=y∧Bld s.2 6 (prR (P l.length).1) y) l.length (by simp;omega) (by simp[h0,prR,Bld]) ?_ ?_
 ·rintro i fr h hle' ⟨hlen,e0,e1,e5,e9,e10,hv0,y,e8,hy⟩;simp only at hlen e0 e1 e5 e9 e10 hv0 e8 hy;by_cases hi:i<l.length
  ·obtain⟨c,hc⟩:∃c,l[i]?=some c:=⟨_,Zb hi⟩;have hr:rows[i]?=some (encR c):=by rw[hg,hc];rfl
   have hr':∀k,rows[i]'k=encR c:=fun k=>by obtain⟨_,e⟩:=Za.1 hr;exact e
   have hf:=fit_succ (i:=i) (by omega);have hst:=hstep hc;have hPl:=hle i;generalize P i=P0 at hst hPl e9 hy;obtain⟨p0,d0⟩:=P0;simp only at e9 hy hPl;have hne0:∀k n,y= .sl k 6 0 n false→(0:Nat)≠k:=fun k n ek e=>by
    subst e;rcases hy with⟨_,hy⟩|⟨hne,id,hy,hid⟩
    ·rw[ek]at hy;cases hy
    ·rw[ek]at hy;simp only[AV.sl.injEq]at hy;obtain⟨rfl,_⟩:=hy;rw[hv0]at hid;simp only[Zc,Blk.row.injEq]at hid;have h1:=congrArg List.length hid;rw[enc_length,flatten_length (prR p0) (prR_all p0).1]at h1;cases p0 with
     |nil=>exact absurd rfl hne
     |cons a p0=>simp[prR]at h1;omega
   have hall:=prR_all p0;have q0:=fun(ops:Array Oper) (d:Tmp) (rest:List Oper) (fr:List AV) (h:Hp)=>opP_np (C:=cx) (cal:=callN cx M true) (ops:=ops) (fun v=>hy.np v) d rest fr h
   have keep:∀(rows1:List Prp) (y1:AV) (h1:Hp),Bld h1 6 (prR rows1) y1→rows1.length≤200002→h1[0]?=some (.row (enc v))→(∀k n,y1= .sl k 6 0 n false→(0:Nat)≠k)→
    ∃id h2,appendA cx (h1++[.row (encR c)]) 80 y1 (.sl h1.length 6 0 1 false)=some (.sl id 6 0 (rows1.length+1) false,h2)∧Bld h2 6 (prR (rows1++[c])) (.sl id 6 0 (rows1.length+1) false)∧h2[0]?=some (.row (enc v)):=by
    intro rows1 y1 h1 hb hn hz hk;obtain⟨id,h2,a1,a2,a3⟩:=bld_app (t:=80) T_s_api_Prop rfl h1 (encR c) (prR rows1) y1 hb (by simp) (prR_all rows1).1 (by omega) (by rw[prR_length];omega) (by omega);rw[prR_length]at a1;refine⟨id,h2,a1,?_,a3 0 _ hz (fun k n e=>hk k n e)⟩;rw[prR_app];have:=bld_of (rows:=prR rows1) (c:=encR c) (sz:=6) a2
    rwa [prR_length]at this
   have putn:∃id h2,appendA cx (h++[.row (.sc (.string x)::enc v)]) 80 y (.sl h.length 6 0 1 false)=some (.sl id 6 0 (p0.length+1) false,h2)∧Bld h2 6 (prR (p0++[⟨x,v⟩])) (.sl id 6 0 (p0.length+1) false)∧h2[0]?=some (.row (enc v))∧(0:Nat)≠id:=by
    obtain⟨id,h2,a1,a2,a3⟩:=bld_app (t:=80) T_s_api_Prop rfl h (encR ⟨x,v⟩) (prR p0) y hy (by simp) hall.1 (by omega) (by rw[prR_length];omega) (by omega);rw[prR_length]at a1;have h20:=a3 0 _ hv0 (fun k n e=>hne0 k n e);refine⟨id,h2,a1,?_,h20,fun e=>?_⟩
    ·rw[prR_app];have:=bld_of (rows:=prR p0) (c:=encR ⟨x,v⟩) (sz:=6) a2
     rwa [prR_length]at this
    ·subst e;rw[h20]at a2;simp only[Zc,Blk.row.injEq]at a2;have h1:=congrArg List.length a2;rw[enc_length,List.flatten_append,Zu]at h1;simp at h1<;>omega
   obtain⟨id2,h2,k1,k2,k3⟩:=keep p0 y h hy (by omega) hv0 hne0;obtain⟨id3,h3,n1,n2,n3,n4⟩:=putn;obtain⟨id4,h4,m1,m2,m3⟩:=keep (p0++[⟨x,v⟩]) _ h3 n2 (by simp;omega) n3 (fun k n e=>by simp only[AV.sl.injEq]at e;rw[←e.1];exact n4);simp only[Zu,List.length_singleton]at m1 m2;cases d0
   ·cases hlt:ltS c.key x
    ·cases nul
     ·cases heq:eqS c.key x
      ·simp[hlen,e0,e1,e5,e8,e9,e10,q0,hst,hv0,hi,hq,hr,hr',hf,f1,hlt,heq,n1,n3,m1,putR,ltR,eqR,m3];simpa using m2
      ·simp[hlen,e0,e1,e5,e8,e9,e10,q0,hst,hv0,hi,hq,hr,hr',hf,f1,hlt,heq,n1,n3,putR,ltR,eqR];exact n2
     ·cases heq:eqS c.key x
      ·simp[hlen,e0,e1,e5,e8,e9,e10,q0,hst,hv0,hi,hq,hr,hr',hf,f1,hlt,heq,k1,k3,putR,ltR,eqR];exact k2
      ·simp[hlen,e0,e1,e5,e8,e9,e10,q0,hst,hv0,hi,hq,hr,hr',hf,f1,hlt,heq,putR,ltR,eqR];exact hy
    ·cases heq:eqS c.key x
     ·simp[hlen,e0,e1,e5,e8,e9,e10,q0,hst,hv0,hi,hq,hr,hr',hf,f1,hlt,heq,k1,k3,putR,ltR,eqR];exact k2
     ·simp[hlen,e0,e1,e5,e8,e9,e10,q0,hst,hv0,hi,hq,hr,hr',hf,f1,hlt,heq,putR,ltR,eqR];exact hy
   ·cases heq:eqS c.key x
    ·simp[hlen,e0,e1,e5,e8,e9,e10,q0,hst,hv0,hi,hq,hr,hr',hf,f1,heq,k1,k3,putR,ltR,eqR];exact k2
    ·simp[hlen,e0,e1,e5,e8,e9,e10,q0,hst,hv0,hi,hq,hr,hr',hf,f1,heq,putR,ltR,eqR];exact hy
  ·have hil:i=l.length:=by omega
   subst hil;simp[hlen,e0,e1,e5,e8,e9,e10,hv0,hi,hq];exact hy
 ·rintro o fr h hn ⟨rfl,hlen,e1,e5,e9,hv0,y,e8,hy⟩;simp only at hlen e1 e5 e9 hv0 e8 hy;have hPl:=hle l.length;generalize P l.length=P0 at hPl e9 hy;obtain⟨p0,d0⟩:=P0;simp only at e9 hy hPl;have hsn:∀(ps:List Prp) (h1:Hp) (y1:AV),Bld h1 6 (prR ps) y1→snap h1 7 y1=some (bldV 6 (prR ps)):=fun ps h1 y1 hb=>bld_snap (by omega) (prR_all ps).1 (prR_all ps).2 hb
  have q0:=fun(ops:Array Oper) (d:Tmp) (rest:List Oper) (fr:List AV) (h:Hp)=>opP_np (C:=cx) (cal:=callN cx M true) (ops:=ops) (fun v=>hy.np v) d rest fr h
  have hlen':∀e:p0.length=p0.length,(prR p0).length=p0.length:=fun _=>prR_length p0
  by_cases hput:d0=false∧nul=false
  ·obtain⟨rfl,rfl⟩:=hput;obtain⟨id,h2,a1,a2,a3⟩:=bld_app (t:=80) T_s_api_Prop rfl h (encR ⟨x,v⟩) (prR p0) y hy (by simp) (prR_all p0).1 (by omega) (by rw[prR_length];omega) (by omega);rw[prR_length]at a1;have a4:snap h2 7 (.sl id 6 0 (p0.length+1) false)=some (bldV 6 (prR (p0++[⟨x,v⟩]))):=hsn _ _ _ (by
    rw[prR_app];have:=bld_of (rows:=prR p0) (c:=encR ⟨x,v⟩) (sz:=6) a2
    rwa [prR_length]at this)
   have a1':appendA cx (h++[.row (.sc (.string x)::enc v)]) 80 y (.sl h.length 6 0 1 false)=some (.sl id 6 0 (p0.length+1) false,h2):=a1;simp[hlen,e1,e5,e8,e9,q0,hv0,f1,a1',putZ];exact⟨_,_,⟨rfl,rfl⟩,by rw[snap_tp2 a4]<;>simp only[Zc,AV.tp.injEq,List.cons.injEq,AV.sc.injEq,Value.bool.injEq,decide_eq_decide,true_and,and_true]<;>omega⟩
  ·have hz:putZ ⟨x,v⟩ (!nul) (p0,d0)=p0:=by
    unfold putZ;cases d0<;>cases nul<;>simp_all
   rw[hz];have a4:=hsn _ _ _ hy;rcases hy with⟨hp,rfl⟩|⟨hne,id,rfl,hid⟩
   ·have hp0:p0=[]:=Zl (by rw[←prR_length,hp];rfl);subst hp0;cases d0<;>cases nul<;>simp at hput<;>(simp[hlen,e1,e5,e8,e9,hv0,f1];exact⟨_,_,⟨rfl,rfl⟩,by rw[snap_tp2 a4]⟩)
   ·rw[prR_length]at *;cases d0<;>cases nul<;>simp at hput<;>(simp[hlen,e1,e5,e8,e9,hv0,f1];exact⟨_,_,⟨rfl,rfl⟩,by rw[snap_tp2 a4]<;>simp only[Zc,AV.tp.injEq,List.cons.injEq,AV.sc.injEq,Value.bool.injEq,decide_eq_decide,true_and,and_true]<;>omega⟩)
theorem tsR_app (l m:List ByteArray):tsR (l++m)=tsR l++tsR m:=by simp[tsR]
theorem bld_appL {t:TypeId}{i:Ti}{sz bytes:Nat}{ag:Bool}{ez:List Value}(hT:cx.T t=some i)(hk:i.kd= .slice sz ag bytes ez)(h:Hp)(rows more:List (List AV))(z:Bool)(x:AV)(hx:Bld h sz rows x)(hr:∀r∈rows,r.length=sz)(hm:∀r∈more,r.length=sz)(hsz:0<sz)(hn:rows.length+more.length≤1000000000)(hb:bytes≤1000):
 ∃y h',appendA cx h t x (.ls sz more z)=some (y,h')∧Bld h' sz (rows++more) y:=by
 obtain⟨size,agg,zero,kd⟩:=i;simp only at hk;subst hk;have hmaxl:rows.length+more.length≤maxLen:=by unfold maxLen;omega
 have hby:(rows.length+more.length)*bytes≤140737488355328:=by
  have:=Nat.mul_le_mul hn hb;omega
 unfold appendA;rw[hT];cases more with
 |
  nil=>
  refine⟨x,h,?_,by simpa using hx⟩;rcases hx with⟨rfl,rfl⟩|⟨hne,id,rfl,hid⟩<;>simp[szOk,newsOf]
 |
  cons r more=>
  have hfm:=flatten_length (r::more) hm;rcases hx with⟨rfl,rfl⟩|⟨hne,id,rfl,hid⟩
  ·refine⟨.sl h.length sz 0 (r::more).length false,h++[.row (r::more).flatten],?_,.inr ⟨by simp,h.length,by simp,by simp⟩⟩;simp only[szOk,beq_self_eq_true,Bool.and_self,if_true,newsOf];rw[if_neg (by simp),if_pos ⟨by simp at hmaxl⊢;omega,by simpa using hby⟩]
  ·have hfl:=flatten_length rows hr;refine⟨.sl h.length sz 0 (rows.length+(r::more).length) false,h.set id .dead++[.row (rows.flatten++(r::more).flatten)],?_,.inr ⟨by simp,h.length,by simp,?_⟩⟩
   ·have hpos:0< (r::more).length*sz:=Nat.mul_pos (by simp) hsz;simp only[szOk,beq_self_eq_true,Bool.and_self,if_true,newsOf,hid];rw[if_neg (by simp),if_neg (by rw[Nat.add_mul];omega),if_pos ⟨trivial,hfl,hmaxl,hby⟩]
   ·rw[Zf (by simp)];simp
theorem r08_without (n:Nat)(b:Bool)(l:List ByteArray)(x:ByteArray)(h:Hp)(hl:l.length≤100000):
 callN cx (n+1) b 222 [tsV l false,.sc (.string x)] h=some (bldV 1 (tsR (l.filter fun s=> !eqT x s)),h):=by
 suffices H:∃r,r=bldV 1 (tsR (l.filter fun s=> !eqT x s))∧∀b h,callN cx (n+1) b 222 [tsV l false,.sc (.string x)] h=some (r,h) by
  obtain⟨r,rfl,hr⟩:=H;exact hr b h
 refine pure_ex (f:=222) (n:=n) (args:=[tsV l false,.sc (.string x)]) (fun r=>r=bldV 1 (tsR (l.filter fun s=> !eqT x s))) ⟨Tryz.f222.ntmps,(Tryz.f222.body).getD .skip,[.tmp 4]⟩ (by kernel_rfl) (by kernel_rfl) rfl (by kernel_rfl) (by simp[Tryz.f222]) rfl ?_;have hq:=tsR_length l;have hg:=tsR_get l;unfold tsV;generalize tsR l=rows at hq hg;generalize hP:(fun i=>(l.take i).filter fun s=> !eqT x s)=P;have h0:P 0=[]:=by rw[←hP];rfl
 have hend:P l.length=l.filter fun s=> !eqT x s:=by rw[←hP];simp
 have hstep:∀{i:Nat} {c:ByteArray},l[i]?=some c→P (i+1)=P i++(if eqT x c then[]else[c]):=fun{i c} hc=>by
  rw[←hP];simp only[List.take_add_one,hc,Yn]
  congr 1
  cases hq:eqT x c<;>simp[hq]
 have hle:∀i,(P i).length≤l.length:=fun i=>by rw[←hP];exact Ym (List.length_filter_le _ _) (by simp;omega)
 rw[←hend];clear hP hend;simp[Tryz.f222];refine loop_up (C:=cx) (G:=fun r=>∃r0 h',finX _ (thenX _ _ (blockX _ r) _)=some (r0,h')∧snap h' 8 r0=some (bldV 1 (tsR (P l.length))))
  (fun i s=>s.1.length=27∧gt s.1 0= .ls 1 rows false∧gt s.1 1= .sc (.string x)∧gt s.1 6= .sc (.int .i64 i)∧∃y,gt s.1 5=y∧Bld s.2 1 (tsR (P i)) y)
  (fun o s=>o= .exit 0∧s.1.length=27∧∃y,gt s.1 5=y∧Bld s.2 1 (tsR (P l.length)) y) l.length (by simp;omega) (by simp[h0,tsR,Bld]) ?_ ?_
 ·rintro i fr h hle' ⟨hlen,e0,e1,e6,y,e5,hy⟩;simp only at hlen e0 e1 e6 e5 hy;by_cases hi:i<l.length
  ·obtain⟨c,hc⟩:∃c,l[i]?=some c:=⟨_,Zb hi⟩;have hr:rows[i]?=some [.sc (.string c)]:=by rw[hg,hc];rfl
   have hr':∀k,rows[i]'k=[.sc (.string c)]:=fun k=>by obtain⟨_,e⟩:=Za.1 hr;exact e
   have hf:=fit_succ (i:=i) (by omega);have hst:=hstep hc;have hPl:=hle i;generalize P i=p0 at hst hPl hy;have q0:=fun(ops:Array Oper) (d:Tmp) (rest:List Oper) (fr:List AV) (h:Hp)=>opP_np (C:=cx) (cal:=callN cx n true) (ops:=ops) (fun v=>hy.np v) d rest fr h
   obtain⟨id,h2,a1,a2,a3⟩:=bld_app (t:=60) T___string rfl h [.sc (.string c)] (tsR p0) y hy rfl (tsR_all p0).1 (by omega) (by rw[tsR_length];omega) (by omega);have a4:=bld_of (rows:=tsR p0) (c:=[.sc (.string c)]) (sz:=1) a2;rw[tsR_length]at a1 a4;cases heq:eqS c x
   ·simp[hlen,e0,e1,e5,e6,q0,hst,hi,hq,hr,hr',hf,heq,a1,eqT,tsR_app];exact a4
   ·simp[hlen,e0,e1,e5,e6,q0,hst,hi,hq,hr,hr',hf,heq,eqT];exact hy
  ·have hil:i=l.length:=by omega
   subst hil;simp[hlen,e0,e5,e6,hi,hq];exact hy
 ·rintro o fr h hn ⟨rfl,hlen,y,e5,hy⟩;simp only at hlen e5 hy;have q0:=fun(ops:Array Oper) (d:Tmp) (rest:List Oper) (fr:List AV) (h:Hp)=>opP_np (C:=cx) (cal:=callN cx n true) (ops:=ops) (fun v=>hy.np v) d rest fr h
  have a4:snap h 8 y=some (bldV 1 (tsR (P l.length))):=bld_snap (by omega) (tsR_all _).1 (tsR_all _).2 hy;simp[hlen,e5,q0];exact⟨_,_,⟨rfl,rfl⟩,a4⟩
theorem r07_PutStr (n:Nat)(b:Bool)(l pre post:List ByteArray)(x:ByteArray)(h:Hp)(hl:l.length≤100000)(hs:Spl (ltT x) (eqT x) l pre [] post):
 callN cx (n+1) b 221 [tsV l false,.sc (.string x)] h=some (.ls 1 (tsR (pre++[x]++post)) false,h):=by
 suffices H:∃r,r=AV.ls 1 (tsR (pre++[x]++post)) false∧∀b h,callN cx (n+1) b 221 [tsV l false,.sc (.string x)] h=some (r,h) by
  obtain⟨r,rfl,hr⟩:=H;exact hr b h
 refine pure_ex (f:=221) (n:=n) (args:=[tsV l false,.sc (.string x)]) (fun r=>r= .ls 1 (tsR (pre++[x]++post)) false) ⟨Tryz.f221.ntmps,(Tryz.f221.body).getD .skip,[.tmp 4]⟩ (by kernel_rfl) (by kernel_rfl) rfl (by kernel_rfl) (by simp[Tryz.f221]) rfl ?_;have hq:=tsR_length l;have hg:=tsR_get l;have hp:pre.length≤l.length:=by rw[hs.e];simp
 have hpl:pre.length+post.length=l.length:=by rw[hs.e];simp
 have htk:(tsR l).take pre.length=tsR pre:=by unfold tsR;rw[←List.map_take,hs.take]
 have hdr:(tsR l).drop pre.length=tsR post:=by unfold tsR;rw[←List.map_drop,hs.drop];rfl
 unfold tsV;generalize tsR l=rows at hq hg htk hdr;simp[Tryz.f221];refine loop_up (C:=cx) (G:=fun r=>∃r0 h',finX _ (thenX _ _ (blockX _ r) _)=some (r0,h')∧snap h' 8 r0=some (.ls 1 (tsR (pre++x::post)) false))
  (fun i s=>s.1.length=47∧gt s.1 0= .ls 1 rows false∧gt s.1 1= .sc (.string x)∧gt s.1 5= .sc (.slice none 0 0)∧gt s.1 6= .sc (.int .i64 i)∧i≤pre.length)
  (fun o s=>o= .exit 0∧s.1.length=47∧gt s.1 0= .ls 1 rows false∧gt s.1 1= .sc (.string x)∧gt s.1 5= .sc (.slice none 0 0)∧gt s.1 6= .sc (.int .i64 pre.length)) pre.length (by simp;omega) (by simp) ?_ ?_
 ·rintro i fr h hle' ⟨hlen,e0,e1,e5,e6,hip⟩;simp only at hlen e0 e1 e5 e6;by_cases hi:i<l.length
  ·obtain⟨c,hc⟩:∃c,l[i]?=some c:=⟨_,Zb hi⟩;have hr:rows[i]?=some [.sc (.string c)]:=by rw[hg,hc];rfl
   have hr':∀k,rows[i]'k=[.sc (.string c)]:=fun k=>by obtain⟨_,e⟩:=Za.1 hr;exact e
   have hf:=fit_succ (i:=i) (by omega);have hlt:=hs.lt_iff hc;cases heq:ltS c x
   ·have:i=pre.length:=by
     have h1:¬i<pre.length:=fun q=>by have:=hlt.2 q;unfold ltT at this;rw[heq]at this;cases this
     omega
    subst this;simp[hlen,e0,e1,e5,e6,hi,hq,hr,hr',heq]
   ·have h1:i<pre.length:=hlt.1 heq;simp[hlen,e0,e1,e5,e6,hi,hq,hr,hr',hf,heq,h1];omega
  ·have hil:i=pre.length:=by omega
   subst hil;simp[hlen,e0,e1,e5,e6,hi,hq]
 ·rintro o fr h hn ⟨rfl,hlen,e0,e1,e5,e6⟩;simp only at hlen e0 e1 e5 e6;obtain⟨y1,h1,a1,a2⟩:=bld_appL (t:=60) T___string rfl h [] (tsR pre) false (.sc (.slice none 0 0)) (.inl ⟨rfl,rfl⟩) (by simp) (tsR_all pre).1 (by omega) (by rw[tsR_length];simp;omega) (by omega);rw[Zw]at a2;have q1:=fun(ops:Array Oper) (d:Tmp) (rest:List Oper) (fr:List AV) (h:Hp)=>opP_np (C:=cx) (cal:=callN cx n true) (ops:=ops) (fun v=>a2.np v) d rest fr h
  obtain⟨id,h2,b1,b2,b3⟩:=bld_app (t:=60) T___string rfl h1 [.sc (.string x)] (tsR pre) y1 a2 rfl (tsR_all pre).1 (by omega) (by rw[tsR_length];omega) (by omega);have b4:=bld_of (rows:=tsR pre) (c:=[.sc (.string x)]) (sz:=1) b2;rw[tsR_length]at b1 b4;have e7:tsR pre++[[.sc (.string x)]]=tsR (pre++[x]):=by simp[tsR]
  rw[e7]at b4;obtain⟨y3,h3,c1,c2⟩:=bld_appL (t:=60) T___string rfl h2 (tsR (pre++[x])) (tsR post) false _ b4 (tsR_all _).1 (tsR_all post).1 (by omega) (by rw[tsR_length,tsR_length];simp;omega) (by omega);rw[←tsR_app]at c2;have q3:=fun(ops:Array Oper) (d:Tmp) (rest:List Oper) (fr:List AV) (h:Hp)=>opP_np (C:=cx) (cal:=callN cx n true) (ops:=ops) (fun v=>c2.np v) d rest fr h
  have c3:snap h3 8 y3=some (.ls 1 (tsR (pre++x::post)) false):=by
   rw[bld_snap (by omega) (tsR_all _).1 (tsR_all _).2 c2];simp[bldV,tsR]
  have htd:(tsR post).take (l.length-pre.length)=tsR post:=List.take_of_length_le (by rw[tsR_length];omega);have hcmp:∀c,l[pre.length]?=some c→eqS c x=false:=fun c hc=>by
   have:=hs.eq_at hc;simpa[eqT]using this
  by_cases hi:pre.length<l.length
  ·obtain⟨c,hc⟩:∃c,l[pre.length]?=some c:=⟨_,Zb hi⟩;have hr:rows[pre.length]?=some [.sc (.string c)]:=by rw[hg,hc];rfl
   have hr':∀k,rows[pre.length]'k=[.sc (.string c)]:=fun k=>by obtain⟨_,e⟩:=Za.1 hr;exact e
   have hne:decide ((pre.length:Int)=(l.length:Int))=false:=by simp;omega
   have heq:=hcmp c hc;simp[hlen,e0,e1,e5,e6,hi,hq,hr,hr',htk,hdr,sliceA,boundA,hp,a1,q1,b1,c1,q3,heq,hne,htd];exact⟨_,_,⟨rfl,rfl⟩,c3⟩
  ·have hne:decide ((pre.length:Int)=(l.length:Int))=true:=by simp;omega
   simp[hlen,e0,e1,e5,e6,hi,hq,htk,hdr,sliceA,boundA,hp,a1,q1,b1,c1,q3,hne,htd];exact⟨_,_,⟨rfl,rfl⟩,c3⟩
end
end Go.Proofs.YtadaeokidcgdlaaGreatDoor
