/- The editor's small parts: must; a search among labels; own slices read, inserted into, deleted from. -/
import Derived.Test.YtadaeokidcgdlaaGreatDoorP32
import Derived.Test.YtadaeokidcgdlaaGreatDoorP26
import Derived.Test.YtadaeokidcgdlaaGreatDoorP31
set_option linter.unusedSimpArgs false
set_option maxRecDepth 100000
namespace Go.Proofs.YtadaeokidcgdlaaGreatDoor
open Go Go.Ae
section
attribute [local simp] aop aopW coldF extF putA ofConst flat scalarOp fastOp binFast intOp strOp guardX Ae.part rowOf szOk natOf lenA cls fillA splice newsOf isNilC cellX
set_option maxHeartbeats 8000000
noncomputable def slowI (u:AV):Option AV:=slowOp cx (fun _=>u) {dst:=none,op:= .makeInterface 215 (.tmp 0),type:=0,pos:= "",after:= #[],guard:=none}
theorem slowI_of (fr:List AV)(d:Option Tmp)(x:Tmp)(ty:TypeId)(p:String)(a:Array Edge)(g:Option (Nat × Bool)):slowOp cx (ev cx fr) {dst:=d,op:= .makeInterface 215 (.tmp x),type:=ty,pos:=p,after:=a,guard:=g}=slowI (gt fr x):=rfl
theorem slowI_eq (e:Int):slowI (.sc (.int .i64 e))=some (.sc (.iface 215 (.int .i64 e))):=rfl
theorem must_ok (n:Nat)(b:Bool)(e:Int)(h:Hp):callN cx (n+1) b 233 [.sc (.bool true),.sc (.int .i64 e)] h=some (.tp [],h):=by
 rw[call_inl (n:=n) ⟨Tryz.f233.ntmps,(Tryz.f233.body).getD .skip,[]⟩ rfl (by kernel_rfl) (by kernel_rfl) (by kernel_rfl) (by kernel_rfl) (by simp[Tryz.f233])];simp[Tryz.f233];rfl
theorem must_no (n:Nat)(b:Bool)(e:Int)(h:Hp):callN cx (n+1) b 233 [.sc (.bool false),.sc (.int .i64 e)] h=some (.pn (.iface 215 (.int .i64 e)),h):=by
 rw[call_inl (n:=n) ⟨Tryz.f233.ntmps,(Tryz.f233.body).getD .skip,[]⟩ rfl (by kernel_rfl) (by kernel_rfl) (by kernel_rfl) (by kernel_rfl) (by simp[Tryz.f233])];simp[Tryz.f233,slowI_of,slowI_eq]
theorem nan_str (n:Nat)(b:Bool)(x:ByteArray)(h:Hp):callN cx (n+1) b 304 [.sc (.string x)] h=some (.sc (.bool false),h):=by
 refine pure_calm (r:= .sc (.bool false)) (n:=n) ⟨Tryz.f304.ntmps,(Tryz.f304.body).getD .skip,[.tmp 2]⟩ (by kernel_rfl) (by kernel_rfl) rfl (by kernel_rfl) (by simp[Tryz.f304]) rfl rfl ?_ b h;simp[Tryz.f304,(eqS_iff x x).2 rfl]
theorem nan_str' (n:Nat)(b:Bool)(x:ByteArray)(h:Hp):callN cx (n+1) b 95 [.sc (.string x)] h=some (.sc (.bool false),h):=by
 refine pure_calm (r:= .sc (.bool false)) (n:=n) ⟨Tryz.f95.ntmps,(Tryz.f95.body).getD .skip,[.tmp 2]⟩ (by kernel_rfl) (by kernel_rfl) rfl (by kernel_rfl) (by simp[Tryz.f95]) rfl rfl ?_ b h;simp[Tryz.f95,(eqS_iff x x).2 rfl]
theorem Less_str (n:Nat)(b:Bool)(x y:ByteArray)(h:Hp):callN cx (n+2) b 303 [.sc (.string x),.sc (.string y)] h=some (.sc (.bool (ltS x y)),h):=by
 refine pure_calm (r:= .sc (.bool (ltS x y))) (n:=n+1) ⟨Tryz.f303.ntmps,(Tryz.f303.body).getD .skip,[.tmp 4]⟩ (by kernel_rfl) (by kernel_rfl) rfl (by kernel_rfl) (by simp[Tryz.f303]) rfl rfl ?_ b h;have f1:=nan_str' n;simp[Tryz.f303,f1]
theorem sl_Search_string (n:Nat)(l pre mid post:List ByteArray)(x:ByteArray)(S:AV)(hS:(∃z,S= .ls 1 (tsR l) z)∨(l=[]∧S= .sc (.slice none 0 0)))(hl:l.length≤1000000000000000)(hs:Spl (ltT x) (eqT x) l pre mid post)(bb:Bool)(h:Hp):
 callN cx (n+3) bb 236 [S,.sc (.string x)] h=some (.tp [.sc (.int .i64 pre.length),.sc (.bool !mid.isEmpty)],h):=by
 have hp:pre.length≤l.length:=by rw[hs.e];simp
 have hq:=tsR_length l;have hg:=tsR_get l;rcases hS with⟨z,rfl⟩|⟨rfl,rfl⟩
 case inr=>
  have hp0:pre=[]:=Zl (by simpa using hp);have hm0:mid=[]:=hs.nil_at (by simp);subst hp0 hm0
  suffices H:∃r,r=AV.tp [.sc (.int .i64 0),.sc (.bool false)]∧∀b h,callN cx (n+3) b 236 [.sc (.slice none 0 0),.sc (.string x)] h=some (r,h) by
   obtain⟨r,rfl,hr⟩:=H;exact hr bb h
  refine pure_ex (f:=236) (n:=n+2) (args:=[.sc (.slice none 0 0),.sc (.string x)]) (fun r=>r= .tp [.sc (.int .i64 0),.sc (.bool false)]) ⟨Tryz.f236.ntmps,(Tryz.f236.body).getD .skip,[.tmp 4,.tmp 5]⟩ (by kernel_rfl) (by kernel_rfl) rfl (by kernel_rfl) (by simp[Tryz.f236]) rfl ?_;simp[Tryz.f236];refine loop_up (C:=cx) (G:=fun r=>∃r0 h',finX _ (thenX _ _ (blockX _ r) _)=some (r0,h')∧snap h' 8 r0=some (.tp [.sc (.int .i64 0),.sc (.bool false)]))
   (fun k s=>s.1.length=54∧gt s.1 6= .sc (.int .i64 0)∧gt s.1 7= .sc (.int .i64 0)∧gt s.1 8= .sc (.int .i64 0))
   (fun o s=>o= .exit 0∧s.1.length=54∧gt s.1 6= .sc (.int .i64 0)∧gt s.1 7= .sc (.int .i64 0)) 0 (by simp) (by simp) ?_ ?_
  ·rintro k fr h hle ⟨hlen,h8,h9,h10⟩;simp only at hlen h8 h9 h10;simp[hlen,h8,h9,h10]
  ·rintro o fr h hn ⟨rfl,hlen,h8,h9⟩;simp only at hlen h8 h9;simp[hlen,h8,h9];exact⟨_,_,⟨rfl,rfl⟩,rfl⟩
 suffices H:∃r,r=AV.tp [.sc (.int .i64 pre.length),.sc (.bool !mid.isEmpty)]∧∀b h,callN cx (n+3) b 236 [.ls 1 (tsR l) z,.sc (.string x)] h=some (r,h) by
  obtain⟨r,rfl,hr⟩:=H;exact hr bb h
 refine pure_ex (f:=236) (n:=n+2) (args:=[.ls 1 (tsR l) z,.sc (.string x)]) (fun r=>r= .tp [.sc (.int .i64 pre.length),.sc (.bool !mid.isEmpty)]) ⟨Tryz.f236.ntmps,(Tryz.f236.body).getD .skip,[.tmp 4,.tmp 5]⟩ (by kernel_rfl) (by kernel_rfl) rfl (by kernel_rfl) (by simp[Tryz.f236]) rfl ?_;have f1:=Less_str n;generalize tsR l=rows at hq hg⊢;have f2:=nan_str (n+1);generalize n+2=M at f1 f2;simp[Tryz.f236];refine loop_up (C:=cx) (G:=fun r=>∃r0 h',finX _ (thenX _ _ (blockX _ r) _)=some (r0,h')∧snap h' 8 r0=some (.tp [.sc (.int .i64 pre.length),.sc (.bool !mid.isEmpty)]))
  (fun k s=>∃lo hi:Nat,s.1.length=54∧gt s.1 0= .ls 1 rows z∧gt s.1 1= .sc (.string x)∧gt s.1 6= .sc (.int .i64 l.length)∧gt s.1 7= .sc (.int .i64 lo)∧gt s.1 8= .sc (.int .i64 hi)
   ∧lo≤pre.length∧pre.length≤hi∧hi≤l.length∧hi-lo+k≤l.length)
  (fun o s=>o= .exit 0∧s.1.length=54∧gt s.1 0= .ls 1 rows z∧gt s.1 1= .sc (.string x)∧gt s.1 6= .sc (.int .i64 l.length)∧gt s.1 7= .sc (.int .i64 pre.length)) l.length (by simp;omega) ?_ ?_ ?_
 ·refine⟨0,l.length,?_⟩;simp[hq,hp]
 ·rintro k fr h hle ⟨lo,hi,hlen,h0,h1,h8,h9,h10,q1,q2,q3,q4⟩;simp only at hlen h0 h1 h8 h9 h10;by_cases hh:lo<hi
  ·have hm1:lo≤(lo+hi)/2:=by omega
   have hm2:(lo+hi)/2<hi:=by omega
   generalize hmid:(lo+hi)/2=md at hm1 hm2;obtain⟨c,hc⟩:∃c,l[md]?=some c:=⟨_,Zb (by omega)⟩;have hr:rows[md]?=some [.sc (.string c)]:=by rw[hg,hc];rfl
   have hr':∀k,rows[md]'k=[.sc (.string c)]:=fun k=>by obtain⟨_,e⟩:=Za.1 hr;exact e
   have e1:fitI .i64 ((lo:Int)+hi)=((lo+hi:Nat):Int):=by rw[show(lo:Int)+hi=((lo+hi:Nat):Int) by omega];exact fit_i64 (by omega) (by omega)
   have e2:fitI .u64 ((lo:Int)+hi)=(lo:Int)+hi:=fit_u64 (by omega) (by omega);have e3:((lo:Int)+hi)/2=(md:Int):=by omega
   have e4:fitI .i64 (md:Int)=md:=fit_i64 (by omega) (by omega);have e5:fitI .i64 ((md:Int)+1)=((md+1:Nat):Int):=fit_i64 (by omega) (by omega);have hmq:md<l.length:=Yl hm2 q3;have hlt:=hs.lt_iff hc;cases hk:ltS c x
   ·have hmp:pre.length≤md:=by
     refine Yb fun q=>?_
     have:=hlt.2 q;unfold ltT at this;rw[hk]at this;cases this
    simp[hlen,h0,h1,h8,h9,h10,hh,e1,e2,e3,e4,e5,hq,hmq,hr,hr',f1,hk,IntKind.bits];clear e1 e2 e3 e4 e5;exact⟨by omega,lo,rfl,md,rfl,by omega,by omega,by omega,by omega⟩
   ·have hmp:md<pre.length:=hlt.1 hk;simp[hlen,h0,h1,h8,h9,h10,hh,e1,e2,e3,e4,e5,hq,hmq,hr,hr',f1,hk,IntKind.bits];clear e1 e2 e3 e4 e5;exact⟨by omega,md+1,by omega,hi,rfl,by omega,by omega,by omega,by omega⟩
  ·have hlo:lo=pre.length:=by omega
   subst hlo;simp[hlen,h0,h1,h8,h9,h10,hh]
 ·rintro o fr h hn ⟨rfl,hlen,h0,h1,h8,h9⟩;simp only at hlen h0 h1 h8 h9;by_cases hh:pre.length<l.length
  ·obtain⟨c,hc⟩:∃c,l[pre.length]?=some c:=⟨_,Zb hh⟩;have hr:rows[pre.length]?=some [.sc (.string c)]:=by rw[hg,hc];rfl
   have hr':∀k,rows[pre.length]'k=[.sc (.string c)]:=fun k=>by obtain⟨_,e⟩:=Za.1 hr;exact e
   have hfd:(!mid.isEmpty)=eqS c x:=by rw[←hs.eq_at hc];rfl
   rw[hfd];cases hk:eqS c x
   ·simp[hlen,h0,h1,h8,h9,hh,hq,hr,hr',f2,hk];exact⟨_,_,⟨rfl,rfl⟩,rfl⟩
   ·simp[hlen,h0,h1,h8,h9,hh,hq,hr,hr',f2,hk];exact⟨_,_,⟨rfl,rfl⟩,rfl⟩
  ·have hfd:(!mid.isEmpty)=false:=by rw[hs.nil_at (by omega)];rfl
   rw[hfd];simp[hlen,h0,h1,h8,h9,hh];exact⟨_,_,⟨rfl,rfl⟩,rfl⟩
theorem OwnL.np {h:Hp}{tag:Nat→Tg}{tg:Tg}{sz:Nat}{rows:List (List AV)}{x:AV}(ho:OwnL h tag tg sz rows x)(v:Value):x≠ .pn v:=by
 rcases ho with⟨_,rfl|rfl⟩|⟨id,cs,rfl,_⟩<;>simp
theorem OwnL.cls {h:Hp}{tag:Nat→Tg}{tg:Tg}{sz:Nat}{rows:List (List AV)}{x:AV}(ho:OwnL h tag tg sz rows x):cls x=some [x]:=by
 rcases ho with⟨_,rfl|rfl⟩|⟨id,cs,rfl,_⟩<;>rfl
theorem nfS_inv {sz:Nat}{y:AV}{rows:List (List AV)}(h:nfS sz y= .ls sz rows false):(∃z,y= .ls sz rows z)∨(rows=[]∧y= .sc (.slice none 0 0)):=by
 unfold nfS at h;split at h
 ·simp only[AV.ls.injEq,true_and,and_true]at h;exact .inr ⟨h.symm,rfl⟩
 ·rename_i s r z;split at h
  ·rename_i e;simp only[AV.ls.injEq,true_and,and_true]at h;subst e h;exact .inl ⟨_,rfl⟩
  ·rename_i e;simp only[AV.ls.injEq]at h;exact absurd h.1 e
 ·rename_i hn;subst h;exact absurd rfl (hn _ _ _)
theorem flat_take {sz:Nat}{pre post:List (List AV)}(hr:∀r∈pre++post,r.length=sz):(pre++post).flatten.take (pre.length*sz)=pre.flatten∧(pre++post).flatten.drop (pre.length*sz)=post.flatten:=by
 have e:pre.flatten.length=pre.length*sz:=flatten_length pre fun r h=>hr r (by simp[h])
 rw[List.flatten_append];exact⟨List.take_left' e,List.drop_left' e⟩
theorem own_ins {h:Hp}{tag:Nat→Tg}{tg:Tg}{sz bytes:Nat}{pre post:List (List AV)}{x:AV}{vs:List AV}{vid:Nat}{k:Bool}(hx:OwnL h tag tg sz (pre++post) x)(hr:∀r∈pre++post,r.length=sz)(hv:h[vid]?=some (.row vs))(hvl:vs.length=sz)(htv:tag vid≠tg)(hn:(pre++post).length+1≤1000000)(hb:bytes≤1000):
 ∃x' h' tag',insA sz bytes h [x,.sc (.int .i64 pre.length),.sl vid sz 0 1 k]=some (x',h')∧OwnL h' tag' tg sz (pre++[vs]++post) x'∧Frm h tag h' tag' (fun t=>t=tg):=by
 rcases hx with⟨he,hx⟩|⟨id,cs,rfl,h1,h2,h3,h4⟩
 ·obtain⟨rfl,rfl⟩:pre=[]∧post=[]:=by simpa using he
  have hb':bytes≤140737488355328:=by omega
  have ho:OwnL (h++[.row vs]) (tagU tag h.length tg) tg sz ([]++[vs]++[]) (.sl h.length sz 0 1 false):=
   .inr ⟨h.length,vs,rfl,by simp,by simp[←hvl],by simp[hvl],by unfold tagU;rw[if_pos rfl]⟩
  rcases hx with rfl|rfl
  ·exact⟨_,_,_,by simp[insA,hv,hvl,hb'],ho,Frm.push _ _ _ _ _⟩
  ·exact⟨_,_,_,by simp[insA,hv,hvl,hb'],ho,Frm.push _ _ _ _ _⟩
 ·have hne:id≠vid:=fun e=>htv (e▸h4)
  have hl:=(Za.1 h1).1;obtain⟨f1,f2⟩:=flat_take hr;have hle:pre.length≤(pre++post).length:=by simp
  have hby:((pre++post).length+1)*bytes≤140737488355328:=by
   have:=Nat.mul_le_mul hn hb;omega
  have hlt:pre.length*sz≤(pre++post).length*sz:=Zx _ hle;have e1:cs.take (pre.length*sz)=pre.flatten:=by
   have:=congrArg (List.take (pre.length*sz)) h2;rw[List.take_take,Nat.min_eq_left hlt,f1]at this;exact this
  have e2:(cs.take ((pre++post).length*sz)).drop (pre.length*sz)=post.flatten:=by rw[h2,f2]
  have hfr:Frm h tag (h.set id .dead++[.row (pre.flatten++vs++post.flatten)]) (tagU tag h.length tg) (fun t=>t=tg):=by
   have a:=Frm.set h tag id .dead (S:=fun t=>t=tg) h4;have b:=Frm.push (h.set id .dead) tag (.row (pre.flatten++vs++post.flatten)) tg (fun t=>t=tg);rw[List.length_set]at b;exact a.trans b (fun _ q=>q) (fun _ q=>q)
  refine⟨.sl h.length sz 0 ((pre++post).length+1) false,_,_,?_,.inr ⟨h.length,pre.flatten++vs++post.flatten,?_,?_,?_,?_,?_⟩,hfr⟩
  ·have c:True∧id≠vid∧(pre.length:Int).toNat≤(pre++post).length∧(pre++post).length*sz≤cs.length∧(pre++post).length+1≤1000000000000000∧((pre++post).length+1)*bytes≤140737488355328:=⟨trivial,hne,by rw[Int.toNat_natCast];exact hle,h3,by omega,hby⟩;have c0:True∧vs.length=sz∧(0:Int)≤(pre.length:Int):=⟨trivial,hvl,by omega⟩;simp only[insA,hv,h1];rw[if_pos c0,if_pos c,Int.toNat_natCast,e1,e2]
  ·simp;omega
  ·rw[Zf (by simp)];simp
  ·have ea:(pre.flatten++vs++post.flatten)=(pre++[vs]++post).flatten:=by simp
   rw[ea,List.take_of_length_le];rw[flatten_length (pre++[vs]++post) (sz:=sz) (fun r hh=>by
    simp only[Ya,List.mem_singleton]at hh;rcases hh with(hh|hh)|hh
    ·exact hr r (by simp[hh])
    ·rw[hh];exact hvl
    ·exact hr r (by simp[hh]))]
   exact Nat.le_refl _
  ·have ea:(pre.flatten++vs++post.flatten)=(pre++[vs]++post).flatten:=by simp
   rw[ea,flatten_length (pre++[vs]++post) (sz:=sz) (fun r hh=>by
    simp only[Ya,List.mem_singleton]at hh;rcases hh with(hh|hh)|hh
    ·exact hr r (by simp[hh])
    ·rw[hh];exact hvl
    ·exact hr r (by simp[hh]))]
   exact Nat.le_refl _
  ·unfold tagU;rw[if_pos rfl]
theorem ins_String (n:Nat)(b:Bool)(args:List AV)(h:Hp):callN cx (n+1) b 237 args h=insA 1 16 h args:=by
 have e1:cx.srt 237=none:=by kernel_rfl
 have e2:cx.inl 237=true:=by kernel_rfl
 have e3:cx.ins 237=some (1,16):=by kernel_rfl
 simp only[callN,e1,e2,e3,if_true]
theorem ins_Prop (n:Nat)(b:Bool)(args:List AV)(h:Hp):callN cx (n+1) b 310 args h=insA 6 80 h args:=by
 have e1:cx.srt 310=none:=by kernel_rfl
 have e2:cx.inl 310=true:=by kernel_rfl
 have e3:cx.ins 310=some (6,80):=by kernel_rfl
 simp only[callN,e1,e2,e3,if_true]
theorem ins_Node (n:Nat)(b:Bool)(args:List AV)(h:Hp):callN cx (n+1) b 234 args h=insA 3 56 h args:=by
 have e1:cx.srt 234=none:=by kernel_rfl
 have e2:cx.inl 234=true:=by kernel_rfl
 have e3:cx.ins 234=some (3,56):=by kernel_rfl
 simp only[callN,e1,e2,e3,if_true]
theorem ins_Edge (n:Nat)(b:Bool)(args:List AV)(h:Hp):callN cx (n+1) b 241 args h=insA 5 64 h args:=by
 have e1:cx.srt 241=none:=by kernel_rfl
 have e2:cx.inl 241=true:=by kernel_rfl
 have e3:cx.ins 241=some (5,64):=by kernel_rfl
 simp only[callN,e1,e2,e3,if_true]
def DelOK (f:FuncId)(sz:Nat):Prop:=∀(n:Nat) (b:Bool) (id p q P1 L R:Nat) (cs A r C:List AV) (h:Hp),h[id]?=some (.row cs)→P1=p+1→L=p+1+q→R=p+q→A.length=p*sz→r.length=sz→C.length=q*sz→cs.take (L*sz)=A++r++C→L*sz≤cs.length→L≤1000000000→
 ∃cs',callN cx (n+1) b f [.sl id sz 0 L false,.sc (.int .i64 p),.sc (.int .i64 P1)] h=some (.sl id sz 0 R false,h.set id (.row cs'))∧cs'.length=cs.length∧cs'.take (R*sz)=A++C
theorem del_String :DelOK 238 1:=fun n b id p q P1 L R cs A r C h a1 a2 a3 a4 a5 a6 a7 a8 a9 a10=>by
 simp only[Nat.mul_one]at *;exact sl_Delete_String n b id p q P1 L R cs A r C h a1 a2 a3 a4 a5 a6 a7 a8 a9 a10
theorem del_Prop :DelOK 309 6:=fun n b id p q P1 L R cs A r C h a1 a2 a3 a4 a5 a6 a7 a8 a9 a10=>sl_Delete_Prop n b id p q P1 L R cs A r C h a1 a2 a3 a4 a5 a6 a7 a8 a9 a10
theorem del_Node :DelOK 235 3:=fun n b id p q P1 L R cs A r C h a1 a2 a3 a4 a5 a6 a7 a8 a9 a10=>sl_Delete_Node n b id p q P1 L R cs A r C h a1 a2 a3 a4 a5 a6 a7 a8 a9 a10
theorem del_Edge :DelOK 242 5:=fun n b id p q P1 L R cs A r C h a1 a2 a3 a4 a5 a6 a7 a8 a9 a10=>sl_Delete_Edge n b id p q P1 L R cs A r C h a1 a2 a3 a4 a5 a6 a7 a8 a9 a10
theorem own_del {f:FuncId}{sz:Nat}(hD:DelOK f sz){h:Hp}{tag:Nat→Tg}{tg:Tg}{pre post:List (List AV)}{r:List AV}{x:AV}(hx:OwnL h tag tg sz (pre++[r]++post) x)(hr:∀y∈pre++[r]++post,y.length=sz)(hn:(pre++[r]++post).length≤1000000)(n:Nat)(b:Bool):
 ∃x' h',callN cx (n+1) b f [x,.sc (.int .i64 pre.length),.sc (.int .i64 ((pre.length:Int)+1))] h=some (x',h')∧OwnL h' tag tg sz (pre++post) x'∧Frm h tag h' tag (fun t=>t=tg):=by
 rcases hx with⟨he,hx⟩|⟨id,cs,rfl,h1,h2,h3,h4⟩
 ·simp at he
 ·have hl:=(Za.1 h1).1;have hlen:(pre++[r]++post).length=pre.length+1+post.length:=by simp;omega
  have hA:pre.flatten.length=pre.length*sz:=flatten_length pre fun y hy=>hr y (by simp[hy])
  have hC:post.flatten.length=post.length*sz:=flatten_length post fun y hy=>hr y (by simp[hy])
  rw[hlen]at h2 h3 hn;obtain⟨cs',c1,c2,c3⟩:=hD n b id pre.length post.length (pre.length+1) (pre.length+1+post.length) (pre.length+post.length) cs pre.flatten r post.flatten h h1 rfl rfl rfl hA (hr r (by simp)) hC (by rw[h2];simp) h3 (by omega);rw[hlen];refine⟨_,_,c1,.inr ⟨id,cs',by simp,Zj hl,?_,?_,h4⟩,Frm.set h tag id _ h4⟩
  ·rw[Zu,c3,List.flatten_append]
  ·rw[c2,Zu];have:(pre.length+post.length)*sz≤(pre.length+1+post.length)*sz:=Zx _ (by omega);omega
theorem mapM_app {f:AV→Option AV}:∀{l m l' m':List AV},l.mapM f=some l'→m.mapM f=some m'→(l++m).mapM f=some (l'++m')
 |
  [],m,l',m',h,k=>by
  have:l'=[]:=by simpa using h.symm
  subst this;simpa using k
 |
  a::l,m,l',m',h,k=>by
  rw[Zo]at h;cases ha:f a with
  |none=>rw[ha]at h;cases h
  |
   some a'=>
   cases hl:l.mapM f with
   |none=>rw[ha,hl]at h;cases h
   |
    some l2=>
    rw[ha,hl]at h;have:l'=a'::l2:=by simpa using h.symm
    subst this;rw[Zv,Zo,ha,mapM_app hl k];rfl
theorem rows_read {α:Type}{f:AV→Option AV}{R:α→List AV→Prop}:∀{l:List α} {rows:List (List AV)},rows.length=l.length→(∀(i:Nat) (a:α) (r:List AV),l[i]?=some a→rows[i]?=some r→∃r',r.mapM f=some r'∧R a r')→
 ∃rows':List (List AV),rows.flatten.mapM f=some rows'.flatten∧rows'.length=l.length∧∀(i:Nat) (a:α),l[i]?=some a→∃r',rows'[i]?=some r'∧R a r'
 |
  [],rows,hl,_=>by
  have:rows=[]:=Zl (by simpa using hl);subst this;exact⟨[],rfl,rfl,by simp⟩
 |
  a::l,rows,hl,h=>by
  cases rows with
  |nil=>simp at hl
  |
   cons r rows=>
   obtain⟨r',h1,h2⟩:=h 0 a r rfl rfl;obtain⟨rows',h3,h4,h5⟩:=rows_read (l:=l) (rows:=rows) (f:=f) (R:=R) (by simpa using hl) (fun i b s hb hs=>h (i+1) b s (by simpa using hb) (by simpa using hs));refine⟨r'::rows',?_,by simp[h4],?_⟩
   ·rw[List.flatten_cons,List.flatten_cons];exact mapM_app h1 h3
   ·intro i b hb;cases i with
    |zero=>simp at hb;subst hb;exact⟨r',rfl,h2⟩
    |succ i=>exact h5 i b (by simpa using hb)
def NrR (c:Nd)(r:List AV):Prop:=∃a b,r=[.sc (.int .i64 c.id),a,b]∧nfS 1 a= .ls 1 (tsR c.labels) false∧nfS 6 b= .ls 6 (prR c.props) false
def ErR (c:Ed)(r:List AV):Prop:=∃b,r=[.sc (.int .i64 c.id),.sc (.int .i64 c.src),.sc (.int .i64 c.dst),.sc (.string c.type),b]∧nfS 6 b= .ls 6 (prR c.props) false
theorem nodes_read {h:Hp}{tag:Nat→Tg}{l:List Nd}{rows:List (List AV)}{N:AV}(n:Nat)(ho:OwnL h tag .nodes 3 rows N)(ha:AllR (RepN h tag) l rows):
 ∃rows' y,Ae.snap h (n+3) N=some y∧nfS 3 y= .ls 3 rows' false∧rows'.length=l.length∧(∀r∈rows',r.length=3)∧∀(i:Nat) (c:Nd),l[i]?=some c→∃r',rows'[i]?=some r'∧NrR c r':=by
 obtain⟨rows',h1,h2,h3⟩:=rows_read (f:=Ae.snap h (n+2)) (R:=NrR) ha.1 (fun i c r hc hr=>by
  obtain⟨L,P,rfl,o1,o2⟩:=ha.2 i c r hc hr;obtain⟨y1,a1,a2⟩:=o1.snap1 (n:=n+1) (by omega) (tsR_all _).1 (tsR_all _).2;obtain⟨y2,b1,b2⟩:=o2.snap1 (n:=n+1) (by omega) (prR_all _).1 (prR_all _).2;refine⟨[.sc (.int .i64 c.id),y1,y2],?_,y1,y2,rfl,a2,b2⟩;rw[Zo,Zo,Zo,List.mapM_nil,a1,b1];simp[Ae.snap])
 have h4:∀r∈rows',r.length=3:=fun r hr=>by
  obtain⟨i,hi⟩:=List.mem_iff_getElem?.1 hr;have hl:=(Za.1 hi).1;obtain⟨r',e1,a,b,rfl,_⟩:=h3 i _ (Zb (by omega));rw[hi]at e1;cases e1;rfl
 obtain⟨y,e1,e2⟩:=ho.snap (n:=n+2) (by omega) h4 (by rw[h2,ha.1]) h1;exact⟨rows',y,e1,e2,h2,h4,h3⟩
theorem edges_read {h:Hp}{tag:Nat→Tg}{l:List Ed}{rows:List (List AV)}{N:AV}(n:Nat)(ho:OwnL h tag .edges 5 rows N)(ha:AllR (RepE h tag) l rows):
 ∃rows' y,Ae.snap h (n+3) N=some y∧nfS 5 y= .ls 5 rows' false∧rows'.length=l.length∧(∀r∈rows',r.length=5)∧∀(i:Nat) (c:Ed),l[i]?=some c→∃r',rows'[i]?=some r'∧ErR c r':=by
 obtain⟨rows',h1,h2,h3⟩:=rows_read (f:=Ae.snap h (n+2)) (R:=ErR) ha.1 (fun i c r hc hr=>by
  obtain⟨P,rfl,o2⟩:=ha.2 i c r hc hr;obtain⟨y2,b1,b2⟩:=o2.snap1 (n:=n+1) (by omega) (prR_all _).1 (prR_all _).2;refine⟨[.sc (.int .i64 c.id),.sc (.int .i64 c.src),.sc (.int .i64 c.dst),.sc (.string c.type),y2],?_,y2,rfl,b2⟩;rw[Zo,Zo,Zo,Zo,Zo,List.mapM_nil,b1];simp[Ae.snap])
 have h4:∀r∈rows',r.length=5:=fun r hr=>by
  obtain⟨i,hi⟩:=List.mem_iff_getElem?.1 hr;have hl:=(Za.1 hi).1;obtain⟨r',e1,b,rfl,_⟩:=h3 i _ (Zb (by omega));rw[hi]at e1;cases e1;rfl
 obtain⟨y,e1,e2⟩:=ho.snap (n:=n+2) (by omega) h4 (by rw[h2,ha.1]) h1;exact⟨rows',y,e1,e2,h2,h4,h3⟩
theorem ed_node (n:Nat)(b:Bool)(E:Nat)(g:Gr)(N V:AV)(nrows erows:List (List AV))(tag:Nat→Tg)(h:Hp)(x:Int)(pre mid post:List Nd)(hG:RepG h tag E g N V nrows erows)(hl:g.nodes.length≤1000000)(hs:Spl (ltN x) (eqN x) g.nodes pre mid post):
 callN cx (n+5) b 232 [.pt E 0,.sc (.int .i64 x)] h=some (.tp [.sc (.int .i64 pre.length),.sc (.bool !mid.isEmpty)],h):=by
 obtain⟨rows',y,e1,e2,e3,e4,e5⟩:=nodes_read 5 hG.ns hG.na;have hy:(∃z,y= .ls 3 rows' z)∨(rows'=[]∧y= .sc (.slice none 0 0)):=nfS_inv e2;have f0:=fun bb=>sl_Search_node n g.nodes pre mid post x rows' y hy (by omega) e3 (fun i c hc=>by
  obtain⟨r',r1,a,b,rfl,_⟩:=e5 i c hc;exact⟨a,b,r1⟩) hs bb h
 have hcy:calm y=true:=by rcases hy with⟨z,rfl⟩|⟨_,rfl⟩<;>rfl
 have f1:∀bb,callN cx (n+4) bb 226 [N,.sc (.int .i64 x),.fn 300 []] h=some (.tp [.sc (.int .i64 pre.length),.sc (.bool !mid.isEmpty)],h):=fun bb=>
  call_snap (n:=n+3) (ys:=[y,.sc (.int .i64 x),.fn 300 []]) (by kernel_rfl) (by kernel_rfl) (by
   rw[Zo,Zo,Zo,List.mapM_nil,e1];simp[Ae.snap]) (by rw[Zn,hcy];rfl) rfl (f0 bb)
 have hnp:=hG.ns.np;have hb:=hG.box;rw[call_inl (n:=n+4) ⟨Tryz.f232.ntmps,(Tryz.f232.body).getD .skip,[.tmp 4,.tmp 5]⟩ rfl (by kernel_rfl) (by kernel_rfl) (by kernel_rfl) (by kernel_rfl) (by simp[Tryz.f232])];have q0:=fun(ops:Array Oper) (d:Tmp) (rest:List Oper) (fr:List AV) (h:Hp)=>opP_np (C:=cx) (cal:=callN cx (n+4) true) (ops:=ops) (fun v=>hnp v) d rest fr h
 generalize(!mid.isEmpty)=r at f1⊢;simp[Tryz.f232,hb,q0,f1]
theorem ed_edge (n:Nat)(b:Bool)(E:Nat)(g:Gr)(N V:AV)(nrows erows:List (List AV))(tag:Nat→Tg)(h:Hp)(x:Int)(pre mid post:List Ed)(hG:RepG h tag E g N V nrows erows)(hl:g.edges.length≤1000000)(hs:Spl (ltE x) (eqE x) g.edges pre mid post):
 callN cx (n+5) b 240 [.pt E 0,.sc (.int .i64 x)] h=some (.tp [.sc (.int .i64 pre.length),.sc (.bool !mid.isEmpty)],h):=by
 obtain⟨rows',y,e1,e2,e3,e4,e5⟩:=edges_read 5 hG.es hG.ea;have hy:(∃z,y= .ls 5 rows' z)∨(rows'=[]∧y= .sc (.slice none 0 0)):=nfS_inv e2;have f0:=fun bb=>sl_Search_edge n g.edges pre mid post x rows' y hy (by omega) e3 (fun i c hc=>by
  obtain⟨r',r1,b,rfl,_⟩:=e5 i c hc;exact⟨_,_,_,b,r1⟩) hs bb h
 have hcy:calm y=true:=by rcases hy with⟨z,rfl⟩|⟨_,rfl⟩<;>rfl
 have f1:∀bb,callN cx (n+4) bb 311 [V,.sc (.int .i64 x),.fn 312 []] h=some (.tp [.sc (.int .i64 pre.length),.sc (.bool !mid.isEmpty)],h):=fun bb=>
  call_snap (n:=n+3) (ys:=[y,.sc (.int .i64 x),.fn 312 []]) (by kernel_rfl) (by kernel_rfl) (by
   rw[Zo,Zo,Zo,List.mapM_nil,e1];simp[Ae.snap]) (by rw[Zn,hcy];rfl) rfl (f0 bb)
 have hnp:=hG.es.np;have hb:=hG.box;rw[call_inl (n:=n+4) ⟨Tryz.f240.ntmps,(Tryz.f240.body).getD .skip,[.tmp 4,.tmp 5]⟩ rfl (by kernel_rfl) (by kernel_rfl) (by kernel_rfl) (by kernel_rfl) (by simp[Tryz.f240])];have q0:=fun(ops:Array Oper) (d:Tmp) (rest:List Oper) (fr:List AV) (h:Hp)=>opP_np (C:=cx) (cal:=callN cx (n+4) true) (ops:=ops) (fun v=>hnp v) d rest fr h
 generalize(!mid.isEmpty)=r at f1⊢;simp[Tryz.f240,hb,q0,f1]
end
section
attribute [local simp] aop aopW coldF extF putA ofConst flat scalarOp fastOp binFast intOp strOp guardX Ae.part rowOf szOk natOf lenA cls fillA newsOf isNilC cellX
set_option maxHeartbeats 16000000
@[simp] theorem encR_cons (k:ByteArray)(v:V):encR ⟨k,v⟩= .sc (.string k)::enc v:=rfl
def setL (x:ByteArray)(v:V)(pre post:List Prp):List Prp:=pre++(if nullS v then[]else[⟨x,v⟩])++post
theorem own_props {h:Hp}{tag:Nat→Tg}{tg:Tg}{l:List Prp}{X:AV}(ho:OwnL h tag tg 6 (prR l) X)(n:Nat):∃y,Ae.snap h (n+1) X=some y∧((∃z,y= .ls 6 (prR l) z)∨(prR l=[]∧y= .sc (.slice none 0 0))):=by
 obtain⟨y,a1,a2⟩:=ho.snap1 (n:=n) (by omega) (prR_all _).1 (prR_all _).2;exact⟨y,a1,nfS_inv a2⟩
theorem set_search (n:Nat){h:Hp}{tag:Nat→Tg}{tg:Tg}{l pre mid post:List Prp}{X:AV}(ho:OwnL h tag tg 6 (prR l) X)(hl:l.length≤1000000){x:ByteArray}(hs:Spl (ltR x) (eqR x) l pre mid post)(b:Bool):
 callN cx (n+4) b 307 [X,.sc (.string x),.fn 308 []] h=some (.tp [.sc (.int .i64 pre.length),.sc (.bool !mid.isEmpty)],h):=by
 obtain⟨y,e1,hy⟩:=own_props ho 7;have f0:=sl_Search_prop n l pre mid post x (prR l) y hy (by omega) (prR_length l) (fun i c hc=>by rw[prR_get,hc];rfl) hs b h;have hcy:calm y=true:=by rcases hy with⟨z,rfl⟩|⟨_,rfl⟩<;>rfl
 exact call_snap (n:=n+3) (ys:=[y,.sc (.string x),.fn 308 []]) (by kernel_rfl) (by kernel_rfl) (by
  rw[Zo,Zo,Zo,List.mapM_nil,e1];simp[Ae.snap]) (by rw[Zn,hcy];rfl) rfl f0
theorem own_form {h:Hp}{tag:Nat→Tg}{tg:Tg}{sz:Nat}{rows:List (List AV)}{X:AV}(ho:OwnL h tag tg sz rows X):(rows.length=0∧X= .ls sz [] true)∨(rows.length=0∧X= .sc (.slice none 0 0))∨∃id,X= .sl id sz 0 rows.length false:=by
 rcases ho with⟨rfl,rfl|rfl⟩|⟨id,cs,rfl,_⟩
 ·exact .inl ⟨rfl,rfl⟩
 ·exact .inr (.inl ⟨rfl,rfl⟩)
 ·exact .inr (.inr ⟨id,rfl⟩)
theorem own_put {h:Hp}{tag:Nat→Tg}{tg:Tg}{sz:Nat}{pre post:List (List AV)}{r r':List AV}{id:Nat}{cs vs:List AV}{o:Nat}(h1:h[id]?=some (.row cs))(h2:cs.take ((pre++[r]++post).length*sz)=(pre++[r]++post).flatten)(h3:(pre++[r]++post).length*sz≤cs.length)(h4:tag id=tg)
 (hr:∀y∈pre++[r]++post,y.length=sz) (ho:o+vs.length≤sz) (hr':r'=splice r o vs):
 OwnL (h.set id (.row (splice cs (pre.length*sz+o) vs))) tag tg sz (pre++[r']++post) (.sl id sz 0 (pre++[r]++post).length false):=by
 have hl:=(Za.1 h1).1;have hlen:(pre++[r]++post).length=pre.length+1+post.length:=by simp;omega
 have hA:pre.flatten.length=pre.length*sz:=flatten_length pre fun y hy=>hr y (by simp[hy])
 have hC:post.flatten.length=post.length*sz:=flatten_length post fun y hy=>hr y (by simp[hy])
 have hrl:r.length=sz:=hr r (by simp);have hN:(pre++[r]++post).length*sz=pre.length*sz+sz+post.length*sz:=by rw[hlen,Nat.add_mul,Nat.add_mul,Nat.one_mul]
 obtain⟨D,hD⟩:∃D,cs=pre.flatten++r++post.flatten++D:=⟨cs.drop ((pre++[r]++post).length*sz),by
  have:=List.take_append_drop ((pre++[r]++post).length*sz) cs;have e:(pre++[r]++post).flatten=pre.flatten++r++post.flatten:=by simp
  rw[h2,e]at this;exact this.symm⟩
 have hsp:splice cs (pre.length*sz+o) vs=pre.flatten++splice r o vs++post.flatten++D:=by
  unfold splice;have e1:cs.take (pre.length*sz+o)=pre.flatten++r.take o:=by
   rw[hD,Zp,Zp,←hA,List.take_length_add_append,List.take_append_of_le_length (by omega)]
  have e2:cs.drop (pre.length*sz+o+vs.length)=r.drop (o+vs.length)++post.flatten++D:=by
   rw[hD,Zp,Zp,←hA,Nat.add_assoc,List.drop_length_add_append,List.drop_append_of_le_length (by omega),Zp]
  rw[e1,e2];simp
 have hvl:(splice r o vs).length=sz:=by rw[splice_len (by omega),hrl]
 refine .inr ⟨id,_,by simp,Zj hl,?_,?_,h4⟩
 ·rw[hsp,hr'];have e:(pre++[splice r o vs]++post).length*sz=(pre.flatten++splice r o vs++post.flatten).length:=by
   simp only[Zu,List.length_cons,List.length_nil,hA,hC,hvl,Nat.add_mul];omega
  rw[e,List.take_left' rfl];simp
 ·have e:(pre++[r']++post).length=(pre++[r]++post).length:=by simp
  rw[e,splice_len (by rw[hN]at h3;omega)];exact h3
theorem c_set (N D:Nat)(b:Bool){h:Hp}{tag:Nat→Tg}{tg:Tg}{l pre mid post:List Prp}{X:AV}(ho:OwnL h tag tg 6 (prR l) X)(hl:l.length≤16){x:ByteArray}{v:V}(hs:Spl (ltR x) (eqR x) l pre mid post)(hd:dep v≤D)(hv:bdV v)(htg:tg≠ .none):
 if(setL x v pre post).length≤16 then
  ∃X' h' tag',callN cx (N+2*D+9) b 239 [X,.sc (.string x),.ag (enc v)] h=some (X',h')∧OwnL h' tag' tg 6 (prR (setL x v pre post)) X'∧Frm h tag h' tag' (fun t=>t=tg)
 else∃h' tag',callN cx (N+2*D+9) b 239 [X,.sc (.string x),.ag (enc v)] h=some (.pn (.iface 215 (.int .i64 20)),h')∧Frm h tag h' tag' (fun t=>t=tg):=by
 have fr1:Frm h tag (h++[.row (enc v)]) (tagU tag h.length .none) (fun t=>t=tg):=Frm.push _ _ _ _ _;have fr0:Frm h tag (h++[.row (enc v)]) (tagU tag h.length .none) (fun _=>False):=Frm.push _ _ _ _ _;have ho1:=ho.frm fr0 (fun q=>q);have hb1:(h++[Blk.row (enc v)])[h.length]?=some (.row (enc v)):=by simp
 have ht1:tagU tag h.length .none h.length= .none:=by unfold tagU;rw[if_pos rfl]
 have f1:=fun bb=>set_search (N+2*D+4) ho1 (by omega) hs bb
 have f2:=fun bb=>c_null N D bb v (h++[.row (enc v)]) hd hv
 have hin:=call_inl (n:=N+2*D+8) (f:=239) (args:=[X,.sc (.string x),.ag (enc v)]) ⟨Tryz.f239.ntmps,(Tryz.f239.body).getD .skip,[.tmp 6]⟩ rfl (by kernel_rfl) (by kernel_rfl) (by kernel_rfl) (by kernel_rfl) (by simp[Tryz.f239]) b h;have hnp:=ho.np;have q0:=fun(ops:Array Oper) (d:Tmp) (rest:List Oper) (fr:List AV) (h:Hp)=>opP_np (C:=cx) (cal:=callN cx (N+2*D+8) true) (ops:=ops) (fun v=>hnp v) d rest fr h
 have hplen:pre.length≤l.length:=by rw[hs.e];simp
 have e5:fitI .i64 ((pre.length:Int)+1)=(pre.length:Int)+1:=fit_i64 (by omega) (by omega);rw[hin];have hone:=hs.one;cases hz:nullS v
 ·rw[hz]at f2;have hs0:setL x v pre post=pre++[⟨x,v⟩]++post:=by unfold setL;rw[hz];rfl
  cases mid with
  |
   nil=>
   simp only[List.isEmpty_nil,Bool.not_true]at f1;have el:l=pre++post:=by rw[hs.e];simp
   have f4:=must_ok (N+2*D+7);have f4':=must_no (N+2*D+7);have hll:(setL x v pre post).length=l.length+1:=by rw[hs0,el];simp;omega
   by_cases h16:l.length<16
   ·rw[if_pos (by omega)];have c16:(l.length:Int)<16:=by omega
    have fr2:Frm h tag (h++[.row (enc v)]++[.row (encR ⟨x,v⟩)]) (tagU (tagU tag h.length .none) (h.length+1) .none) (fun _=>False):=by
     have:=Frm.push (h++[.row (enc v)]) (tagU tag h.length .none) (.row (encR ⟨x,v⟩)) .none (fun _=>False);rw[Zu]at this;exact fr0.trans this (fun _ q=>q) (fun _ q=>q)
    have ho2:=ho.frm fr2 (fun q=>q);rw[el,prR_app]at ho2;have hw:∀r∈prR pre++prR post,r.length=6:=fun r hr=>by rw[←prR_app]at hr;exact(prR_all _).1 r hr
    have hn2:(prR pre++prR post).length+1≤1000000:=by rw[Zu,prR_length,prR_length];rw[el,Zu]at h16;omega
    obtain⟨X',h',tag',g1,g2,g3⟩:=own_ins (bytes:=80) (k:=false) (vs:=encR ⟨x,v⟩) (vid:=h.length+1) ho2 hw (by rw[Zf (by simp)];simp) (by simp) (by
     unfold tagU;rw[if_pos rfl];exact fun e=>htg e.symm) hn2 (by omega)
    have f5:=fun bb=>(ins_Prop (N+2*D+7) bb _ _).trans g1
    have hnp2:=g2.np;have q2:=fun(ops:Array Oper) (d:Tmp) (rest:List Oper) (fr:List AV) (h:Hp)=>opP_np (C:=cx) (cal:=callN cx (N+2*D+8) true) (ops:=ops) (fun v=>hnp2 v) d rest fr h
    refine⟨X',h',tag',?_,by rw[hs0,prR_app,prR_app];exact g2,fr2.trans g3 (fun _ q=>q.elim) (fun _ q=>q)⟩;rw[prR_length]at f5;simp only[Zp,Zv,Zw,encR_cons]at f5;have hlen:=prR_length l;rcases own_form ho with⟨h0,rfl⟩|⟨h0,rfl⟩|⟨id,rfl⟩
    ·simp[Tryz.f239,q2,f1,f2,hb1,f4,f5,splice]
    ·simp[Tryz.f239,q2,f1,f2,hb1,f4,f5,splice]
    ·rw[hlen]at f1 f5⊢;simp[Tryz.f239,q2,f1,f2,hb1,f4,f5,splice,c16]
   ·rw[if_neg (by omega)];have c16:¬(l.length:Int)<16:=by omega
    refine⟨_,_,?_,fr1⟩;have hlen:=prR_length l;rcases own_form ho with⟨h0,rfl⟩|⟨h0,rfl⟩|⟨id,rfl⟩
    ·omega
    ·omega
    ·rw[hlen]at f1⊢;simp[Tryz.f239,f1,f2,hb1,f4',c16]
  |
   cons p m=>
   have hm:m=[]:=by simpa using hone
   subst hm;simp only[List.isEmpty_cons,Bool.not_false]at f1;have el:l=pre++[p]++post:=hs.e;have hk:p.key=x:=(eqS_iff _ _).1 (hs.m p (by simp)).2;rw[if_pos (by rw[hs0];rw[el]at hl;simpa using hl),hs0];have hrl:prR l=prR pre++[encR p]++prR post:=by rw[el,prR_app,prR_app];rfl
   rcases ho1 with⟨he,_⟩|⟨id,cs,rfl,h1,h2,h3,h4⟩
   ·rw[hrl]at he;simp at he
   ·have hlen:=prR_length l;have c1:pre.length<l.length:=by rw[el];simp
    have c2:pre.length*6+1+5≤cs.length:=by rw[hlen]at h3;omega
    have hpu:=own_put (o:=1) (vs:=enc v) (r':=encR ⟨x,v⟩) h1 (by rw[←hrl];exact h2) (by rw[←hrl];exact h3) h4 (fun y hy=>by rw[←hrl]at hy;exact(prR_all _).1 y hy) (by simp) (by
     obtain⟨k,w⟩:=p;simp only at hk;subst hk;simp[splice])
    rw[prR_length,←hrl]at hpu;refine⟨.sl id 6 0 (prR l).length false,_,_,?_,?_,fr1.trans (Frm.set _ _ id (.row (splice cs (pre.length*6+1) (enc v))) (S:=fun t=>t=tg) h4) (fun _ q=>q) (fun _ q=>q)⟩
    ·rw[hlen]at f1⊢;simp[Tryz.f239,f1,f2,hb1,c1,c2,h1]
    ·rw[prR_app,prR_app];exact hpu
 ·rw[hz]at f2;cases mid with
  |
   nil=>
   have e:setL x v pre post=l:=by unfold setL;rw[hz,hs.e];simp
   rw[e,if_pos hl];refine⟨X,_,_,?_,ho1,fr1⟩;simp only[List.isEmpty_nil,Bool.not_true]at f1;simp[Tryz.f239,q0,f1,f2,hb1]
  |
   cons p m=>
   have hm:m=[]:=by simpa using hone
   subst hm;simp only[List.isEmpty_cons,Bool.not_false]at f1;have el:l=pre++[p]++post:=hs.e;have hs0:setL x v pre post=pre++post:=by unfold setL;rw[hz];simp
   rw[if_pos (by rw[hs0];rw[el]at hl;simp at hl⊢;omega),hs0];have hrl:prR l=prR pre++[encR p]++prR post:=by rw[el,prR_app,prR_app];rfl
   rw[hrl]at ho1;have hd2:=fun bb=>own_del del_Prop ho1 (fun y hy=>by rw[←hrl]at hy;exact(prR_all _).1 y hy) (by rw[←hrl,prR_length];omega) (N+2*D+7) bb
   obtain⟨X',h',g1,g2,g3⟩:=hd2 true;rw[prR_length]at g1;have hnp2:=g2.np;have q2:=fun(ops:Array Oper) (d:Tmp) (rest:List Oper) (fr:List AV) (h:Hp)=>opP_np (C:=cx) (cal:=callN cx (N+2*D+8) true) (ops:=ops) (fun v=>hnp2 v) d rest fr h
   refine⟨X',h',_,?_,by rw[prR_app];exact g2,fr1.trans g3 (fun _ q=>q) (fun _ q=>q)⟩;simp[Tryz.f239,q0,q2,f1,f2,hb1,e5,g1]
end
end Go.Proofs.YtadaeokidcgdlaaGreatDoor
