/- Properties; their keys. -/
import Derived.Test.YtadaeokidcgdlaaGreatDoorP20
set_option linter.unusedSimpArgs false
set_option maxRecDepth 100000
namespace Go.Proofs.YtadaeokidcgdlaaGreatDoor
open Go Go.Ae
section
attribute [local simp] aop aopW coldF extF putA ofConst flat scalarOp fastOp binFast intOp strOp guardX Ae.part rowOf szOk natOf lenA cls fillA splice newsOf isNilC cellX
set_option maxHeartbeats 8000000
structure Prp where
 key:ByteArray
 v:V
def encR (p:Prp):List AV:= .sc (.string p.key)::enc p.v
def prR (l:List Prp):List (List AV):=l.map encR
def prV (l:List Prp)(z:Bool):AV:= .ls 6 (prR l) z
@[simp] theorem encR_length (p:Prp):(encR p).length=6:=by simp[encR]
theorem prR_length (l:List Prp):(prR l).length=l.length:=by simp[prR]
theorem prR_get (l:List Prp)(i:Nat):(prR l)[i]?=(l[i]?).map encR:=by simp[prR]
def keysL (l:List Prp):List ByteArray:=l.map Prp.key
def kyC (l:List Prp):List AV:=l.map fun p=> .sc (.string p.key)
def kyV (l:List Prp):AV:=match l with
 | []=> .sc (.slice none 0 0)
 |_::_=>tsV (keysL l) false
@[simp] theorem get_set_last (h:Hp)(a b d:Blk)(id:Nat):((h++[a]).set id d++[b])[h.length+1]?=some b:=by rw[Zf (by simp)];simp
theorem snap_scs {h:Hp}{n id len:Nat}{vs:List Value}(hx:h[id]?=some (.row (vs.map .sc)))(hlen:vs.length=len):snap h (n+1) (.sl id 1 0 len false)=some (.ls 1 (vs.map fun x=> [.sc x]) false):=by
 subst hlen;have e:∀l:List Value,(l.map AV.sc).mapM (snap h n)=some (l.map AV.sc):=by
  intro l
  induction l with
  |nil=>rfl
  |cons x l ih=>rw[List.map_cons,Zo,ih,snap_scv];rfl
 have e2:((vs.map AV.sc).drop 0).take (vs.length*1)=vs.map AV.sc:=by
  rw[Yg,List.take_of_length_le (by simp)]
 have e3:0+vs.length*1≤(vs.map AV.sc).length:=by simp
 simp only[snap,rowOf,hx,e3,if_true,e2,e,Option.map_some,Zc,AV.ls.injEq,true_and,and_true];apply List.ext_getElem?;intro i;by_cases hi:i<vs.length
 ·simp only[Zs,List.getElem?_range hi,Zb hi,Option.map_some,Nat.mul_one];rw[Zm (by simpa using hi)];simp
 ·simp[hi]
theorem kyC_sc (l:List Prp):kyC l=(l.map fun p=>Value.string p.key).map .sc:=by simp[kyC]
theorem kyV_snap {h:Hp}{n id len:Nat}{l:List Prp}(hl:l≠ [])(hx:h[id]?=some (.row (kyC l)))(hlen:l.length=len):snap h (n+1) (.sl id 1 0 len false)=some (kyV l):=by
 rw[kyC_sc]at hx;rw[snap_scs hx (by simp[hlen])];cases l with
 |nil=>exact absurd rfl hl
 |cons p l=>simp[kyV,tsV,tsR,keysL]
theorem app_nil {t:TypeId}{i:Ti}{sz bytes:Nat}{ag:Bool}{ez:List Value}(hT:cx.T t=some i)(hk:i.kd= .slice sz ag bytes ez)(h:Hp)(cs:List AV)(hc:cs.length=sz)(hb:bytes≤1000):
 appendA cx (h++[.row cs]) t (.sc (.slice none 0 0)) (.sl h.length sz 0 1 false)=some (.sl (h.length+1) sz 0 1 false,h++[.row cs,.row cs]):=by
 obtain⟨size,agg,zero,kd⟩:=i;simp only at hk;subst hk;have hr:rowOf (h++[Blk.row cs]) h.length=some cs:=by simp[rowOf]
 have hn:newsOf (h++[Blk.row cs]) (.sl h.length sz 0 1 false)=some (1,cs):=by
  simp only[newsOf,hr];rw[if_pos (by omega),Yg,Nat.one_mul,List.take_of_length_le (by omega)]
 unfold appendA;rw[hT];simp only[szOk,beq_self_eq_true,Bool.and_self,if_true,hn];rw[if_neg (by omega),if_pos (by unfold maxLen;omega)];simp
theorem app_own {t:TypeId}{i:Ti}{sz bytes:Nat}{ag:Bool}{ez:List Value}(hT:cx.T t=some i)(hk:i.kd= .slice sz ag bytes ez)(h:Hp)(cs old:List AV)(id n:Nat)(hid:h[id]?=some (.row old))(hc:cs.length=sz)(ho:old.length=n*sz)(hsz:0<sz)(hn1:n≤1000000000000000)(hb:(n+1)*bytes≤140737488355328):
 appendA cx (h++[.row cs]) t (.sl id sz 0 n false) (.sl h.length sz 0 1 false)=some (.sl (h.length+1) sz 0 (n+1) false,(h++[Blk.row cs]).set id .dead++[.row (old++cs)]):=by
 obtain⟨size,agg,zero,kd⟩:=i;simp only at hk;subst hk;have hidl:id<h.length:=(Za.1 hid).1;have hr:rowOf (h++[Blk.row cs]) h.length=some cs:=by simp[rowOf]
 have hn:newsOf (h++[Blk.row cs]) (.sl h.length sz 0 1 false)=some (1,cs):=by
  simp only[newsOf,hr];rw[if_pos (by omega),Yg,Nat.one_mul,List.take_of_length_le (by omega)]
 have hid':(h++[Blk.row cs])[id]?=some (.row old):=by rw[Zd hidl];exact hid
 have hmul:(n+1)*sz=n*sz+sz:=by rw[Nat.add_mul,Nat.one_mul]
 unfold appendA;rw[hT];simp only[szOk,beq_self_eq_true,Bool.and_self,if_true,hn,hid'];rw[if_neg (by omega),if_neg (by omega),if_pos ⟨trivial,ho,by unfold maxLen;omega,hb⟩];simp
theorem r07_keys (n:Nat)(b:Bool)(l:List Prp)(z:Bool)(h:Hp)(hl:l.length≤1000):callN cx (n+1) b 295 [prV l z] h=some (kyV l,h):=by
 suffices H:∃r,r=kyV l∧∀b h,callN cx (n+1) b 295 [prV l z] h=some (r,h) by
  obtain⟨r,rfl,hr⟩:=H;exact hr b h
 refine pure_ex (f:=295) (n:=n) (args:=[prV l z]) (fun r=>r=kyV l) ⟨Tryz.f295.ntmps,(Tryz.f295.body).getD .skip,[.tmp 2]⟩ (by kernel_rfl) (by kernel_rfl) rfl (by kernel_rfl) (by simp[Tryz.f295]) rfl ?_;have hq:=prR_length l;have hg:=prR_get l;unfold prV;generalize prR l=rows at hq hg;simp[Tryz.f295];refine loop_up (C:=cx) (G:=fun r=>∃r0 h',finX _ (thenX _ _ (blockX _ r) _)=some (r0,h')∧snap h' 8 r0=some (kyV l))
  (fun i s=>s.1.length=20∧gt s.1 0= .ls 6 rows z∧gt s.1 4= .sc (.int .i64 i)∧((i=0∧gt s.1 3= .sc (.slice none 0 0))∨(0<i∧∃id cs,gt s.1 3= .sl id 1 0 i false∧s.2[id]?=some (.row cs)∧cs=kyC (l.take i))))
  (fun o s=>s.1.length=20∧o= .exit 0∧((l=[]∧gt s.1 3= .sc (.slice none 0 0))∨(l≠ []∧∃id,gt s.1 3= .sl id 1 0 l.length false∧s.2[id]?=some (.row (kyC l))))) l.length (by simp;omega) (by simp) ?_ ?_
 ·rintro i fr h hle ⟨hlen,h0,h4,h3⟩;simp only at hlen h0 h4 h3;by_cases hi:i<l.length
  ·obtain⟨x,hx⟩:∃c,l[i]?=some c:=⟨_,Zb hi⟩;have hr:rows[i]?=some (.sc (.string x.key)::enc x.v):=by rw[hg,hx];rfl
   have hr':∀k,rows[i]'k= .sc (.string x.key)::enc x.v:=fun k=>by obtain⟨_,e⟩:=Za.1 hr;exact e
   have hf:fitI .i64 ((i:Int)+1)=((i+1:Nat):Int):=fit_i64 (by omega) (by omega);have htk:kyC (l.take (i+1))=kyC (l.take i)++[.sc (.string x.key)]:=by
    rw[List.take_add_one,hx];simp[kyC]
   rcases h3 with⟨rfl,h3⟩|⟨hpos,id,cs,h3,hid,hcs⟩
   ·have happ:=app_nil (t:=60) T___string rfl h [.sc (.string x.key)] rfl (by omega);simp[hlen,h0,h4,h3,hi,hq,hr,hr',happ];exact⟨rfl,htk.symm⟩
   ·have hcl:cs.length=i:=by rw[hcs];simp[kyC];omega
    have hidl:id<h.length:=(Za.1 hid).1;have happ:=app_own (t:=60) T___string rfl h [.sc (.string x.key)] cs id i hid rfl (by omega) (by omega) (by omega) (by omega);simp[hlen,h0,h4,h3,hi,hq,hr,hr',happ,hf];rw[htk,hcs]
  ·have hil:i=l.length:=by omega
   subst hil;simp[hlen,h0,h4,hi,hq];rcases h3 with⟨h1,h3⟩|⟨hpos,id,cs,h3,hid,hcs⟩
   ·exact .inl ⟨Zl h1,h3⟩
   ·refine .inr ⟨fun e=>by rw[e]at hpos;simp at hpos,id,h3,?_⟩;rw[hid,hcs,List.take_of_length_le (Nat.le_refl _)]
 ·rintro o fr h hn ⟨hlen,rfl,⟨rfl,h3⟩|⟨hne,id,h3,hid⟩⟩
  ·simp only at hlen h3;simp[hlen,h3,kyV];exact⟨_,_,⟨rfl,rfl⟩,rfl⟩
  ·simp only at hlen h3 hid;simp[hlen,h3];exact⟨_,_,⟨rfl,rfl⟩,kyV_snap hne hid rfl⟩
section
variable {C : Cx} {cal : FuncId → List AV → Hp → Option (AV × Hp)} {ops : Array Oper}
@[simp] theorem opP_kyV (d:Tmp)(rest:List Oper)(fr:List AV)(l:List Prp)(h:Hp):opP C cal ops (some d) rest fr (some (kyV l,h))=runOpsP C cal ops rest (fr.set d (kyV l),h):=by cases l<;>rfl
@[simp] theorem opN_kyV (d:Tmp)(rest:List Oper)(fr:List AV)(l:List Prp)(h:Hp):opN C cal ops (some d) rest fr (some (kyV l,h))=runOps C cal ops rest (fr.set d (kyV l),h):=by cases l<;>rfl
end
def lbV (o:Option Bool)(l:List ByteArray):AV:=match o with
 |none=> .sc (.slice none 0 0)
 |some z=>tsV l z
def LbOk (o:Option Bool)(l:List ByteArray):Prop:=o=none→l=[]
theorem calm_lbV (o:Option Bool)(l:List ByteArray):calm (lbV o l)=true:=by cases o<;>rfl
theorem calm_kyV (l:List Prp):calm (kyV l)=true:=by cases l<;>rfl
theorem calm_parts (o:Option Bool)(l:List ByteArray)(p:List Prp)(z:Bool):[lbV o l,prV p z].all calm=true:=by rw[Zn,calm_lbV];rfl
theorem keysL_length (l:List Prp):(keysL l).length=l.length:=by simp[keysL]
theorem ky_Names (n:Nat)(b:Bool)(l:List Prp)(h:Hp)(hl:l.length≤1000000000000000):callN cx (n+3) b 296 [kyV l] h=some (.sc (.bool (namesL (keysL l))),h):=by
 cases l with
 |nil=>exact r07_Names_nil (n+2) b h
 |cons p l=>exact r07_Names n b (keysL (p::l)) false h (by rw[keysL_length];exact hl)
theorem ky_Rises (n:Nat)(b:Bool)(l:List Prp)(h:Hp)(hl:l.length≤1000000000000000):callN cx (n+1) b 297 [kyV l] h=some (.sc (.bool (risesL (keysL l))),h):=by
 cases l with
 |nil=>exact r07_Rises_nil n b h
 |cons p l=>exact r07_Rises n b (keysL (p::l)) false h (by rw[keysL_length];exact hl)
theorem lb_Names (n:Nat)(b:Bool)(o:Option Bool)(l:List ByteArray)(h:Hp)(ho:LbOk o l)(hl:l.length≤1000000000000000):callN cx (n+3) b 296 [lbV o l] h=some (.sc (.bool (namesL l)),h):=by
 cases o with
 |none=>rw[ho rfl];exact r07_Names_nil (n+2) b h
 |some z=>exact r07_Names n b l z h hl
theorem lb_Rises (n:Nat)(b:Bool)(o:Option Bool)(l:List ByteArray)(h:Hp)(ho:LbOk o l)(hl:l.length≤1000000000000000):callN cx (n+1) b 297 [lbV o l] h=some (.sc (.bool (risesL l)),h):=by
 cases o with
 |none=>rw[ho rfl];exact r07_Rises_nil n b h
 |some z=>exact r07_Rises n b l z h hl
def plainsL (l:List Prp):Bool:=l.all fun p=>plainV p.v
def plainsD (l:List Prp)(i:Nat):Bool:=plainsL (l.drop i)
theorem plainsD_end (l:List Prp)(i:Nat)(h:l.length≤i):plainsD l i=true:=by unfold plainsD;rw[Zt h];rfl
theorem plainsD_step {l:List Prp}{i:Nat}{c:Prp}(h:l[i]?=some c):plainsD l i=(plainV c.v && plainsD l (i+1)):=by
 obtain⟨k,e⟩:=Za.1 h;unfold plainsD plainsL;rw[Zm k,e,Zn]
def partsE (l:List ByteArray)(p:List Prp):Int:=
 if 8<l.length∨16<p.length then 4
 else if(namesL l && namesL (keysL p))=false then 6
 else if(risesL l && risesL (keysL p))=false then 26
 else if plainsL p=false then 8 else 0
def PrB (D:Nat)(p:List Prp):Prop:=∀x∈p,dep x.v≤D∧bdV x.v
theorem r07_parts (N D:Nat)(b:Bool)(o:Option Bool)(l:List ByteArray)(p:List Prp)(z:Bool)(h:Hp)(ho:LbOk o l)(hl:l.length≤1000000000000000)(hp:p.length≤1000000000000000)(hb:PrB D p):
 callN cx (N+2*D+6) b 213 [lbV o l,prV p z] h=some (.sc (.int .i64 (partsE l p)),h):=by
 refine pure_calm (r:= .sc (.int .i64 (partsE l p))) (n:=N+2*D+5) ⟨Tryz.f213.ntmps,(Tryz.f213.body).getD .skip,[.tmp 4]⟩ (by kernel_rfl) (by kernel_rfl) rfl (by kernel_rfl) (by simp[Tryz.f213]) (calm_parts _ _ _ _) rfl ?_ b h;have f1:=fun b h=>lb_Names (N+2*D+2) b o l h ho hl
 have f2:=fun b h=>lb_Rises (N+2*D+4) b o l h ho hl
 have f3:=fun b h=>ky_Names (N+2*D+2) b p h hp
 have f4:=fun b h=>ky_Rises (N+2*D+4) b p h hp
 have f5:=fun b h (hk:p.length≤1000)=>r07_keys (N+2*D+4) b p z h hk
 have f6:=fun b x h (hx:x∈p)=>r04_Plain N D x.v (hb x hx).1 (hb x hx).2 b h
 unfold partsE;have hq:=prR_length p;have hg:=prR_get p;unfold prV at f5⊢;generalize prR p=rows at hq hg f5;generalize N+2*D+5=M at f1 f2 f3 f4 f5 f6;have hlen:(∃z',lbV o l= .ls 1 (tsR l) z')∨(lbV o l= .sc (.slice none 0 0)∧l.length=0):=by
  cases o with
  |none=>exact .inr ⟨rfl,by rw[ho rfl];rfl⟩
  |some z'=>exact .inl ⟨z',rfl⟩
 have htl:=tsR_length l;generalize tsR l=rows' at hlen htl;generalize lbV o l=L at f1 f2 hlen;by_cases h8:8<l.length
 ·rcases hlen with⟨z',rfl⟩|⟨rfl,e⟩
  ·simp[Tryz.f213,htl,h8,show 8< (l.length:Int) by omega]
  ·omega
 have h8':¬8< (l.length:Int):=by omega
 by_cases h16:16<p.length
 ·have h16':16< (p.length:Int):=by omega
  rcases hlen with⟨z',rfl⟩|⟨rfl,e⟩
  ·simp[Tryz.f213,htl,hq,h8,h8',h16,h16']
  ·simp[Tryz.f213,hq,h8,h8',h16,h16']
 have f5':=fun b h=>f5 b h (by omega)
 have hor:¬(8<l.length∨16<p.length):=by omega
 rw[if_neg hor];have h16':¬16< (p.length:Int):=by omega
 clear f5 hor;generalize namesL l=n1 at f1;generalize risesL l=n2 at f2;generalize namesL (keysL p)=n3 at f3;generalize risesL (keysL p)=n4 at f4;cases n1
 ·rcases hlen with⟨z',rfl⟩|⟨rfl,e⟩<;>simp[Tryz.f213,htl,hq,h8',h16',f1,f5']
 cases n3
 ·rcases hlen with⟨z',rfl⟩|⟨rfl,e⟩<;>simp[Tryz.f213,htl,hq,h8',h16',f1,f3,f5']
 cases n2
 ·rcases hlen with⟨z',rfl⟩|⟨rfl,e⟩<;>simp[Tryz.f213,htl,hq,h8',h16',f1,f2,f3,f5']
 cases n4
 ·rcases hlen with⟨z',rfl⟩|⟨rfl,e⟩<;>simp[Tryz.f213,htl,hq,h8',h16',f1,f2,f3,f4,f5']
 rcases hlen with⟨z',rfl⟩|⟨rfl,e⟩
 all_goals
  simp[Tryz.f213,htl,hq,h8',h16',f1,f2,f3,f4,f5'];refine loop_up (C:=cx) (G:=fun r=>∃h',finX _ (thenX _ _ (blockX _ r) _)=some (_,h'))
   (fun i s=>plainsL p=plainsD p i∧s.1.length=46∧gt s.1 1= .ls 6 rows z∧gt s.1 6= .sc (.int .i64 i))
   (fun o s=>s.1.length=46∧((o= .exit 0∧plainsL p=true)∨(o= .ret∧plainsL p=false∧gt s.1 4= .sc (.int .i64 8)))) p.length (by simp;omega) (by simp[plainsD]) ?_ ?_
  ·rintro i fr h hle ⟨ho,hlen,h1,h6⟩;simp only at hlen h1 h6;by_cases hi:i<p.length
   ·obtain⟨x,hx⟩:∃c,p[i]?=some c:=⟨_,Zb hi⟩;have hr:rows[i]?=some (.sc (.string x.key)::enc x.v):=by rw[hg,hx];rfl
    have hr':∀k,rows[i]'k= .sc (.string x.key)::enc x.v:=fun k=>by obtain⟨_,e⟩:=Za.1 hr;exact e
    rw[plainsD_step hx]at ho;have hcx:=fun b h=>f6 b x h (Zi hx)
    have hf:fitI .i64 ((i:Int)+1)=((i+1:Nat):Int):=fit_i64 (by omega) (by omega);cases hk:plainV x.v
    ·have zz:plainsL p=false:=by rw[ho,hk];rfl
     clear ho;simp[hlen,h1,h6,hi,hq,hr,hr',hcx,hk,zz]
    ·have zz:plainsL p=plainsD p (i+1):=by rw[ho,hk];rfl
     clear ho;simp[hlen,h1,h6,hi,hq,hr,hr',hcx,hk,hf];exact zz
   ·have zz:plainsL p=true:=by rw[ho,plainsD_end p i (by omega)]
    simp[hlen,h1,h6,hi,hq,zz]
  ·rintro o fr h hn ⟨hlen,⟨rfl,hz⟩|⟨rfl,hz,h2⟩⟩
   ·simp only at hlen;simp[hlen,hz]
   ·simp only at h2;simp[h2,hz]
@[simp] theorem get_app2 (h:Hp)(a b c:Blk)(l:Hp):(h++a::b::c::l)[h.length+2]?=some c:=by rw[Zf (by omega)];simp
@[simp] theorem get_set_last2 (h:Hp)(a b c d:Blk)(id:Nat):((h++[a,b]).set id d++[c])[h.length+2]?=some c:=by rw[Zf (by simp)];simp
theorem ky_increasing (n:Nat)(b:Bool)(l:List Prp)(h:Hp)(hl:l.length≤1000000000000000):callN cx (n+1) b 225 [kyV l] h=some (.sc (.bool (risesL (keysL l))),h):=by
 cases l with
 |nil=>exact g_increasing_nil n b h
 |cons p l=>exact g_increasing n b (keysL (p::l)) false h (by rw[keysL_length];exact hl)
theorem ky_Contains (n:Nat)(b:Bool)(l:List Prp)(h:Hp)(hl:l.length≤1000000000000000):callN cx (n+5) b 77 [kyV l,.fn 224 []] h=some (.sc (.bool (!namesL (keysL l))),h):=by
 cases l with
 |nil=>exact sl_ContainsFunc_nil (n+3) b h
 |cons p l=>exact sl_ContainsFunc_unnamed n b (keysL (p::l)) false h (by rw[keysL_length];exact hl)
theorem lb_increasing (n:Nat)(b:Bool)(o:Option Bool)(l:List ByteArray)(h:Hp)(ho:LbOk o l)(hl:l.length≤1000000000000000):callN cx (n+1) b 225 [lbV o l] h=some (.sc (.bool (risesL l)),h):=by
 cases o with
 |none=>rw[ho rfl];exact g_increasing_nil n b h
 |some z=>exact g_increasing n b l z h hl
theorem lb_Contains (n:Nat)(b:Bool)(o:Option Bool)(l:List ByteArray)(h:Hp)(ho:LbOk o l)(hl:l.length≤1000000000000000):callN cx (n+5) b 77 [lbV o l,.fn 224 []] h=some (.sc (.bool (!namesL l)),h):=by
 cases o with
 |none=>rw[ho rfl];exact sl_ContainsFunc_nil (n+3) b h
 |some z=>exact sl_ContainsFunc_unnamed n b l z h hl
def KyAt (h:Hp)(l:List Prp)(x:AV):Prop:=(l=[]∧x= .sc (.slice none 0 0))∨(l≠ []∧∃id,x= .sl id 1 0 l.length false∧h[id]?=some (.row (kyC l)))
theorem kyAt_snap {h:Hp}{l:List Prp}{x:AV}(hx:KyAt h l x):snap h 8 x=some (kyV l):=by
 rcases hx with⟨rfl,rfl⟩|⟨hne,id,rfl,hid⟩
 ·rfl
 ·exact kyV_snap hne hid rfl
theorem kyAt_increasing (n:Nat)(b:Bool)(l:List Prp)(h:Hp)(x:AV)(hx:KyAt h l x)(hl:l.length≤1000000000000000):callN cx (n+1) b 225 [x] h=some (.sc (.bool (risesL (keysL l))),h):=by
 refine call_snap (ys:=[kyV l]) rfl (by kernel_rfl) ?_ ?_ rfl (ky_increasing n b l h hl)
 ·rw[Zo,kyAt_snap hx];rfl
 ·rw[Zn,calm_kyV];rfl
theorem kyAt_Contains (n:Nat)(b:Bool)(l:List Prp)(h:Hp)(x:AV)(hx:KyAt h l x)(hl:l.length≤1000000000000000):callN cx (n+5) b 77 [x,.fn 224 []] h=some (.sc (.bool (!namesL (keysL l))),h):=by
 refine call_snap (n:=n+4) (ys:=[kyV l,.fn 224 []]) rfl (by kernel_rfl) ?_ ?_ rfl (ky_Contains n b l h hl)
 ·rw[Zo,kyAt_snap hx];rfl
 ·rw[Zn,calm_kyV];rfl
theorem g_parts (N D:Nat)(b:Bool)(o:Option Bool)(l:List ByteArray)(p:List Prp)(z:Bool)(h:Hp)(ho:LbOk o l)(hl:l.length≤1000000000000000)(hp:p.length≤1000000000000000)(hb:PrB D p):
 callN cx (N+2*D+6) b 155 [lbV o l,prV p z] h=some (.sc (.int .i64 (partsE l p)),h):=by
 refine pure_calm (r:= .sc (.int .i64 (partsE l p))) (n:=N+2*D+5) ⟨Tryz.f155.ntmps,(Tryz.f155.body).getD .skip,[.tmp 4]⟩ (by kernel_rfl) (by kernel_rfl) rfl (by kernel_rfl) (by simp[Tryz.f155]) (calm_parts _ _ _ _) rfl ?_ b h;have f1:=fun b h=>lb_Contains (N+2*D) b o l h ho hl
 have f2:=fun b h=>lb_increasing (N+2*D+4) b o l h ho hl
 have f3:=fun b x h (hx:KyAt h p x)=>kyAt_Contains (N+2*D) b p h x hx hp
 have f4:=fun b x h (hx:KyAt h p x)=>kyAt_increasing (N+2*D+4) b p h x hx hp
 have f6:=fun b x h (hx:x∈p)=>val_Plain N D x.v (hb x hx).1 (hb x hx).2 b h
 unfold partsE;have hq:=prR_length p;have hg:=prR_get p;unfold prV;generalize prR p=rows at hq hg;generalize N+2*D+5=M at f1 f2 f3 f4 f6;have hlen:(∃z',lbV o l= .ls 1 (tsR l) z')∨(lbV o l= .sc (.slice none 0 0)∧l.length=0):=by
  cases o with
  |none=>exact .inr ⟨rfl,by rw[ho rfl];rfl⟩
  |some z'=>exact .inl ⟨z',rfl⟩
 have htl:=tsR_length l;generalize tsR l=rows' at hlen htl;generalize lbV o l=L at f1 f2 hlen;by_cases h8:8<l.length
 ·rcases hlen with⟨z',rfl⟩|⟨rfl,e⟩
  ·simp[Tryz.f155,htl,h8,show 8< (l.length:Int) by omega]
  ·omega
 have h8':¬8< (l.length:Int):=by omega
 by_cases h16:16<p.length
 ·have h16':16< (p.length:Int):=by omega
  rcases hlen with⟨z',rfl⟩|⟨rfl,e⟩
  ·simp[Tryz.f155,htl,hq,h8,h8',h16,h16']
  ·simp[Tryz.f155,hq,h8,h8',h16,h16']
 have hor:¬(8<l.length∨16<p.length):=by omega
 rw[if_neg hor];have h16':¬16< (p.length:Int):=by omega
 clear hor;generalize namesL l=n1 at f1;generalize risesL l=n2 at f2;generalize namesL (keysL p)=n3 at f3;generalize risesL (keysL p)=n4 at f4;have happ0:∀(hh:Hp) (x:Prp),appendA cx (hh++[Blk.row (.sc (.string x.key)::enc x.v),Blk.row [.sc (.string x.key)]]) 60 (.sc (.slice none 0 0)) (.sl (hh.length+1) 1 0 1 false)=some (.sl (hh.length+2) 1 0 1 false,hh++[Blk.row (.sc (.string x.key)::enc x.v),Blk.row [.sc (.string x.key)],Blk.row [.sc (.string x.key)]]):=fun hh x=>by
  have happ:=app_nil (t:=60) T___string rfl (hh++[Blk.row (.sc (.string x.key)::enc x.v)]) [.sc (.string x.key)] rfl (by omega);simpa only[Zp,Zv,Zw,Zu,List.length_cons,List.length_nil,Nat.zero_add,Nat.add_assoc]using happ
 have happ1:∀(hh:Hp) (x:Prp) (cs:List AV) (id n:Nat) (hid:hh[id]?=some (.row cs)) (ho:cs.length=n*1) (hn:n≤16),appendA cx (hh++[Blk.row (.sc (.string x.key)::enc x.v),Blk.row [.sc (.string x.key)]]) 60 (.sl id 1 0 n false) (.sl (hh.length+1) 1 0 1 false)=some (.sl (hh.length+2) 1 0 (n+1) false,(hh++[Blk.row (.sc (.string x.key)::enc x.v),Blk.row [.sc (.string x.key)]]).set id .dead++[.row (cs++[.sc (.string x.key)])]):=fun hh x cs id n hid ho hn=>by
  have hidl:id<hh.length:=(Za.1 hid).1;have happ:=app_own (t:=60) T___string rfl (hh++[Blk.row (.sc (.string x.key)::enc x.v)]) [.sc (.string x.key)] cs id n (by rw[Zd hidl];exact hid) rfl ho (by omega) (by omega) (by omega);simpa only[Zp,Zv,Zw,Zu,List.length_cons,List.length_nil,Nat.zero_add,Nat.add_assoc]using happ
 rcases hlen with⟨z',hz⟩|⟨hz,e⟩
 all_goals
  simp[Tryz.f155,hz,htl,hq,h8',h16'];refine loop_up (C:=cx) (G:=fun r=>∃h',finX _ (thenX _ _ (blockX _ r) _)=some (_,h'))
   (fun i s=>s.1.length=55∧gt s.1 0=L∧gt s.1 1= .ls 6 rows z∧gt s.1 18= .ls 6 rows z∧gt s.1 19= .sc (.int .i64 p.length)∧gt s.1 20= .sc (.int .i64 i)∧((i=0∧gt s.1 5= .sc (.slice none 0 0))∨(0<i∧∃id cs,gt s.1 5= .sl id 1 0 i false∧s.2[id]?=some (.row cs)∧cs=kyC (p.take i))))
   (fun o s=>s.1.length=55∧o= .exit 0∧gt s.1 0=L∧gt s.1 1= .ls 6 rows z∧KyAt s.2 p (gt s.1 5)) p.length (by simp;omega) (by simp[hq,hz]) ?_ ?_
  ·rintro i fr h hle ⟨hlen,h0,h1,h18,h19,h20,h5⟩;simp only at hlen h0 h1 h18 h19 h20 h5;by_cases hi:i<p.length
   ·obtain⟨x,hx⟩:∃c,p[i]?=some c:=⟨_,Zb hi⟩;have hr:rows[i]?=some (.sc (.string x.key)::enc x.v):=by rw[hg,hx];rfl
    have hr':∀k,rows[i]'k= .sc (.string x.key)::enc x.v:=fun k=>by obtain⟨_,e⟩:=Za.1 hr;exact e
    have hf:fitI .i64 ((i:Int)+1)=((i+1:Nat):Int):=fit_i64 (by omega) (by omega);have htk:kyC (p.take (i+1))=kyC (p.take i)++[.sc (.string x.key)]:=by
     rw[List.take_add_one,hx];simp[kyC]
    rcases h5 with⟨rfl,h5⟩|⟨hpos,id,cs,h5,hid,hcs⟩
    ·simp[hlen,h0,h1,h18,h19,h20,h5,hi,hq,hr,hr',happ0];exact⟨rfl,htk.symm⟩
    ·have hcl:cs.length=i:=by rw[hcs];simp[kyC];omega
     have hidl:id<h.length:=(Za.1 hid).1;have happ:=happ1 h x cs id i hid (by omega) (by omega);simp[hlen,h0,h1,h18,h19,h20,h5,hi,hq,hr,hr',happ,hf];rw[htk,hcs]
   ·have hil:i=p.length:=by omega
    subst hil;simp[hlen,h0,h1,h18,h19,h20,hi,hq];rcases h5 with⟨h2,h5⟩|⟨hpos,id,cs,h5,hid,hcs⟩
    ·exact .inl ⟨Zl h2,h5⟩
    ·refine .inr ⟨fun e=>by rw[e]at hpos;simp at hpos,id,h5,?_⟩;rw[hid,hcs,List.take_of_length_le (Nat.le_refl _)]
  ·rintro o fr h hn ⟨hlen,rfl,h0,h1,hky⟩;simp only at hlen h0 h1 hky;obtain⟨x5,h5⟩:∃x5,gt fr 5=x5:=⟨_,rfl⟩;rw[h5]at hky;have f3':=fun b=>f3 b x5 h hky
   have f4':=fun b=>f4 b x5 h hky
   have e0:∀{cal:Cal} {ops:Array Oper} (d:Tmp) (rest:List Oper) (fr:List AV) (h:Hp),opP cx cal ops (some d) rest fr (some (L,h))=runOpsP cx cal ops rest (fr.set d L,h):=by rw[hz];intros;rfl
   have e5:∀{cal:Cal} {ops:Array Oper} (d:Tmp) (rest:List Oper) (fr:List AV) (h:Hp),opP cx cal ops (some d) rest fr (some (x5,h))=runOpsP cx cal ops rest (fr.set d x5,h):=by rcases hky with⟨_,rfl⟩|⟨_,_,rfl,_⟩<;>(intros;rfl)
   cases n1
   ·simp[e0,e5,hlen,h0,h1,h5,f1]
   cases n3
   ·simp[e0,e5,hlen,h0,h1,h5,f1,f3']
   cases n2
   ·simp[e0,e5,hlen,h0,h1,h5,f1,f2,f3']
   cases n4
   ·simp[e0,e5,hlen,h0,h1,h5,f1,f2,f3',f4']
   simp[e0,e5,hlen,h0,h1,h5,f1,f2,f3',f4',hq];refine loop_up (C:=cx) (G:=fun r=>∃h',finX _ (thenX _ _ (blockX _ r) _)=some (_,h'))
    (fun i s=>plainsL p=plainsD p i∧s.1.length=55∧gt s.1 44= .ls 6 rows z∧gt s.1 45= .sc (.int .i64 p.length)∧gt s.1 46= .sc (.int .i64 i))
    (fun o s=>s.1.length=55∧((o= .exit 2∧plainsL p=true)∨(o= .ret∧plainsL p=false∧gt s.1 4= .sc (.int .i64 8)))) p.length (by simp;omega) (by simp[plainsD,hq,hlen]) ?_ ?_
   ·rintro i fr h hle ⟨ho,hlen,h44,h45,h46⟩;simp only at hlen h44 h45 h46;by_cases hi:i<p.length
    ·obtain⟨x,hx⟩:∃c,p[i]?=some c:=⟨_,Zb hi⟩;have hr:rows[i]?=some (.sc (.string x.key)::enc x.v):=by rw[hg,hx];rfl
     have hr':∀k,rows[i]'k= .sc (.string x.key)::enc x.v:=fun k=>by obtain⟨_,e⟩:=Za.1 hr;exact e
     rw[plainsD_step hx]at ho;have hcx:=fun b h=>f6 b x h (Zi hx)
     have hf:fitI .i64 ((i:Int)+1)=((i+1:Nat):Int):=fit_i64 (by omega) (by omega);cases hk:plainV x.v
     ·have zz:plainsL p=false:=by rw[ho,hk];rfl
      clear ho;simp[hlen,h44,h45,h46,hi,hq,hr,hr',hcx,hk,zz]
     ·have zz:plainsL p=plainsD p (i+1):=by rw[ho,hk];rfl
      clear ho;simp[hlen,h44,h45,h46,hi,hq,hr,hr',hcx,hk,hf];exact zz
    ·have zz:plainsL p=true:=by rw[ho,plainsD_end p i (by omega)]
     simp[hlen,h44,h45,h46,hi,hq,zz]
   ·rintro o fr h hn ⟨hlen,⟨rfl,hz⟩|⟨rfl,hz,h2⟩⟩
    ·simp only at hlen;simp[hlen,hz]
    ·simp only at h2;simp[h2,hz]
set_option maxHeartbeats 8000000
structure Nd where
 id:Int
 labels:List ByteArray
 props:List Prp
structure Ed where
 id:Int
 src:Int
 dst:Int
 type:ByteArray
 props:List Prp
structure Gr where
 nodes:List Nd
 edges:List Ed
 nn:Int
 ne:Int
def encN (n:Nd):List AV:=[.sc (.int .i64 n.id),tsV n.labels false,prV n.props false]
def encE (e:Ed):List AV:=[.sc (.int .i64 e.id),.sc (.int .i64 e.src),.sc (.int .i64 e.dst),.sc (.string e.type),prV e.props false]
def ndR (l:List Nd):List (List AV):=l.map encN
def edR (l:List Ed):List (List AV):=l.map encE
def ndV (l:List Nd):AV:= .ls 3 (ndR l) false
def edV (l:List Ed):AV:= .ls 5 (edR l) false
def encG (g:Gr):List AV:=[ndV g.nodes,edV g.edges,.sc (.int .i64 g.nn),.sc (.int .i64 g.ne)]
theorem ndR_length (l:List Nd):(ndR l).length=l.length:=by simp[ndR]
theorem ndR_get (l:List Nd)(i:Nat):(ndR l)[i]?=(l[i]?).map encN:=by simp[ndR]
theorem edR_length (l:List Ed):(edR l).length=l.length:=by simp[edR]
theorem edR_get (l:List Ed)(i:Nat):(edR l)[i]?=(l[i]?).map encE:=by simp[edR]
section
variable {C : Cx} {cal : FuncId → List AV → Hp → Option (AV × Hp)} {ops : Array Oper}
theorem opP_np {x:AV}(hx:∀v,x≠ .pn v)(d:Tmp)(rest:List Oper)(fr:List AV)(h:Hp):opP C cal ops (some d) rest fr (some (x,h))=runOpsP C cal ops rest (fr.set d x,h):=by
 cases x<;>first|rfl|exact absurd rfl (hx _)
theorem opN_np {x:AV}(hx:∀v,x≠ .pn v)(d:Tmp)(rest:List Oper)(fr:List AV)(h:Hp):opN C cal ops (some d) rest fr (some (x,h))=runOps C cal ops rest (fr.set d x,h):=by
 cases x<;>first|rfl|exact absurd rfl (hx _)
end
def nodeAt (l:List Nd)(x:Int):Option Nd:=l.find? fun n=>n.id==x
def nodeD (l:List Nd)(x:Int)(i:Nat):Option Nd:=nodeAt (l.drop i) x
theorem nodeD_end (l:List Nd)(x:Int)(i:Nat)(h:l.length≤i):nodeD l x i=none:=by unfold nodeD;rw[Zt h];rfl
theorem nodeD_step {l:List Nd}{x:Int}{i:Nat}{c:Nd}(h:l[i]?=some c):nodeD l x i=if c.id=x then some c else nodeD l x (i+1):=by
 obtain⟨k,e⟩:=Za.1 h;unfold nodeD nodeAt;rw[Zm k,e,List.find?_cons];by_cases q:c.id=x
 ·simp[q]
 ·have q':(c.id==x)=false:=by simpa using q
  simp[q,q']
def ndC (o:Option Nd):List AV:=match o with
 |none=> [.sc (.int .i64 0),.sc (.slice none 0 0),.sc (.slice none 0 0)]
 |some n=>encN n
@[simp] theorem ndC_length (o:Option Nd):(ndC o).length=3:=by cases o<;>rfl
theorem calm_nd (o:Option Nd)(b:Bool):[AV.ag (ndC o),.sc (.bool b)].all calm=true:=by cases o<;>rfl
theorem snap_all {h:Hp}{n:Nat}:∀{xs:List AV},xs.all calm=true→xs.mapM (snap h (n+2))=some xs
 | [],_=>rfl
 |
  x::xs,hc=>by
  rw[Zn,Zh]at hc;rw[Zo,snap_of_calm hc.1,snap_all hc.2];rfl
theorem pure_tup {f:FuncId}{args:List AV}{n:Nat}{xs:List AV}(fi:Fi)(hF:cx.F f=some fi)(hok:ok2 cx fi.body=true)(hs:cx.srt f=none)(hi:cx.inl f=false)(hl:args.length≤fi.ntmps)(hc:args.all calm=true)(hr:xs.all calm=true)
 (hb:(finX fi.res (exec2 cx (callN cx n) fi.body (args++List.replicate (fi.ntmps-args.length) .un,[]))).map Prod.fst=some (.tp xs)) (b:Bool) (h:Hp) (ht:plainF f=true:=by decide):callN cx (n+1) b f args h=some (.tp xs,h):=by
 simp only[Ze]at hb;obtain⟨⟨r0,h'⟩,hb,rfl⟩:=hb;exact pure_at fi hF hok hs hi hl hc hb (by show(xs.mapM (snap h' 7)).map AV.tp=_;rw[snap_all hr];rfl) b h ht
theorem calm_G (g:Gr)(x:Int):[AV.ag (encG g),.sc (.int .i64 x)].all calm=true:=rfl
theorem r07_Node (n:Nat)(b:Bool)(g:Gr)(x:Int)(h:Hp)(hl:g.nodes.length≤1000000000000000):
 callN cx (n+1) b 40 [.ag (encG g),.sc (.int .i64 x)] h=some (.tp [.ag (ndC (nodeAt g.nodes x)),.sc (.bool (nodeAt g.nodes x).isSome)],h):=by
 refine pure_tup (xs:=[.ag (ndC (nodeAt g.nodes x)),.sc (.bool (nodeAt g.nodes x).isSome)]) ⟨Tryz.f40.ntmps,(Tryz.f40.body).getD .skip,[.cell 4 3 true,.tmp 5]⟩ (by kernel_rfl) (by kernel_rfl) rfl (by kernel_rfl) (by simp[Tryz.f40]) (calm_G _ _) (calm_nd _ _) ?_ b h;have hq:=ndR_length g.nodes;have hg:=ndR_get g.nodes;unfold encG ndV;generalize ndR g.nodes=rows at hq hg;simp[Tryz.f40];refine loop_up (C:=cx) (G:=fun r=>∃h',finX _ (thenX _ _ (blockX _ r) _)=some (_,h'))
  (fun i s=>nodeAt g.nodes x=nodeD g.nodes x i∧s.1.length=28∧gt s.1 1= .sc (.int .i64 x)∧gt s.1 2= .pt 0 0∧gt s.1 4= .pt 1 0∧gt s.1 6= .sc (.int .i64 i)∧s.2=[.row [.ls 3 rows false,edV g.edges,.sc (.int .i64 g.nn),.sc (.int .i64 g.ne)],.row [.sc (.int .i64 0),.sc (.slice none 0 0),.sc (.slice none 0 0)]])
  (fun o s=>s.1.length=28∧gt s.1 4= .pt 1 0∧((o= .exit 0∧nodeAt g.nodes x=none∧∃a b,s.2=[.row a,.row b]∧b.length=3)∨(o= .ret∧∃c a,nodeAt g.nodes x=some c∧gt s.1 5= .sc (.bool true)∧s.2=[.row a,.row (encN c)]))) g.nodes.length (by simp;omega) (by simp[nodeD]) ?_ ?_
 ·rintro i fr h hle ⟨ho,hlen,h1,h2,h4,h6,hh⟩;simp only at hlen h1 h2 h4 h6 hh;subst hh;by_cases hi:i<g.nodes.length
  ·obtain⟨c,hx⟩:∃c,g.nodes[i]?=some c:=⟨_,Zb hi⟩;have hr:rows[i]?=some [.sc (.int .i64 c.id),tsV c.labels false,prV c.props false]:=by rw[hg,hx];rfl
   have hr':∀k,rows[i]'k=[.sc (.int .i64 c.id),tsV c.labels false,prV c.props false]:=fun k=>by obtain⟨_,e⟩:=Za.1 hr;exact e
   rw[nodeD_step hx]at ho;have hf:fitI .i64 ((i:Int)+1)=((i+1:Nat):Int):=fit_i64 (by omega) (by omega);by_cases hk:c.id=x
   ·rw[if_pos hk]at ho;simp[hlen,h1,h2,h4,h6,hi,hq,hr,hr',hk,ho,encN]
   ·rw[if_neg hk]at ho;simp[hlen,h1,h2,h4,h6,hi,hq,hr,hr',hk,hf];exact ho
  ·have zz:nodeAt g.nodes x=none:=by rw[ho,nodeD_end _ _ i (by omega)]
   simp[hlen,h1,h2,h4,h6,hi,hq,zz];exact⟨_,_,⟨rfl,rfl⟩,rfl⟩
 ·rintro o fr h hn ⟨hlen,h4,⟨rfl,hz,a,b',hh,hb⟩|⟨rfl,c,a,hz,h5,hh⟩⟩
  ·simp only at hlen h4 hh;subst hh;simp[hlen,h4,hz,hb,ndC]
  ·simp only at hlen h4 h5 hh;subst hh;simp[hlen,h4,h5,hz,ndC,encN]
structure GrB (D:Nat)(g:Gr):Prop where
 nl:g.nodes.length≤1000000000000000
 el:g.edges.length≤1000000000000000
 ns:∀n∈g.nodes,n.labels.length≤1000000000000000∧n.props.length≤1000000000000000∧PrB D n.props
 es:∀e∈g.edges,e.props.length≤1000000000000000∧PrB D e.props
def nodeE (g:Gr)(i:Nat):Int:=match g.nodes[i]? with
 |none=>0
 |
  some n=>if 0<i∧(∃m,g.nodes[i-1]?=some m∧n.id≤m.id)then 26
  else if n.id<1∨g.nn≤n.id then 1 else partsE n.labels n.props
def edgeE (g:Gr)(i:Nat):Int:=match g.edges[i]? with
 |none=>0
 |
  some e=>if 0<i∧(∃m,g.edges[i-1]?=some m∧e.id≤m.id)then 26
  else if e.id<1∨g.ne≤e.id then 1
  else if(nodeAt g.nodes e.src).isSome=false∨(nodeAt g.nodes e.dst).isSome=false then 10
  else if nameS e.type=false then 6 else partsE [] e.props
theorem r07_node (N D:Nat)(b:Bool)(g:Gr)(i:Nat)(h:Hp)(hb:GrB D g)(hi:i<g.nodes.length):
 callN cx (N+2*D+7) b 146 [.ag (encG g),.sc (.int .i64 i)] h=some (.sc (.int .i64 (nodeE g i)),h):=by
 refine pure_calm (r:= .sc (.int .i64 (nodeE g i))) (n:=N+2*D+6) ⟨Tryz.f146.ntmps,(Tryz.f146.body).getD .skip,[.tmp 4]⟩ (by kernel_rfl) (by kernel_rfl) rfl (by kernel_rfl) (by simp[Tryz.f146]) (calm_G _ _) rfl ?_ b h;have hnl:=hb.nl;obtain⟨c,hx⟩:∃c,g.nodes[i]?=some c:=⟨_,Zb hi⟩;have hcb:=hb.ns c (Zi hx);have f1:=fun b h=>r07_parts N D b (some false) c.labels c.props false h (by intro e;cases e) hcb.1 hcb.2.1 hcb.2.2
 have hq:=ndR_length g.nodes;have hg:=ndR_get g.nodes;unfold encG ndV;generalize ndR g.nodes=rows at hq hg;generalize N+2*D+6=M at f1;have hr:rows[i]?=some [.sc (.int .i64 c.id),tsV c.labels false,prV c.props false]:=by rw[hg,hx];rfl
 have hr':∀k,rows[i]'k=[.sc (.int .i64 c.id),tsV c.labels false,prV c.props false]:=fun k=>by obtain⟨_,e⟩:=Za.1 hr;exact e
 unfold nodeE;rw[hx];simp only[lbV,tsV,prV]at f1 hr hr'⊢;generalize tsR c.labels=r1 at f1 hr hr';generalize prR c.props=r2 at f1 hr hr';generalize partsE c.labels c.props=pe at f1;have hii:¬(i:Int)<0:=by omega
 obtain rfl|⟨j,hji⟩:i=0∨∃j,i=j+1:=by cases i with|zero=>exact .inl rfl|succ j=>exact .inr ⟨j,rfl⟩
 ·rw[if_neg (by rintro⟨a,_⟩;omega)];have hi':0< (g.nodes.length:Int):=by omega
  by_cases k1:c.id<1
  ·simp[Tryz.f146,hq,hi,hi',hr,hr',k1]
  by_cases k2:g.nn≤c.id
  ·simp[Tryz.f146,hq,hi,hi',hr,hr',k1,k2]
  ·simp[Tryz.f146,hq,hi,hi',hr,hr',k1,k2,f1]
 ·obtain⟨m,hm⟩:∃m,g.nodes[j]?=some m:=⟨_,Zb (by omega)⟩;have hs:rows[j]?=some [.sc (.int .i64 m.id),tsV m.labels false,prV m.props false]:=by rw[hg,hm];rfl
  have hs':∀k,rows[j]'k=[.sc (.int .i64 m.id),tsV m.labels false,prV m.props false]:=fun k=>by obtain⟨_,e⟩:=Za.1 hs;exact e
  have hf:fitI .i64 ((i:Int)-1)=(j:Int):=by rw[show((i:Int)-1)=((j:Nat):Int) by omega];exact fit_i64 (by omega) (by omega)
  have hp:0<i:=by omega
  have hj:j<g.nodes.length:=by omega
  by_cases k0:c.id≤m.id
  ·rw[if_pos ⟨by omega,m,by rw[show i-1=j by omega];exact hm,k0⟩];simp[Tryz.f146,hq,hi,hj,hr,hr',hs,hs',hf,hp,k0]
  rw[if_neg (by rintro⟨_,m',e,k⟩;rw[show i-1=j by omega,hm]at e;cases e;exact k0 k)];by_cases k1:c.id<1
  ·simp[Tryz.f146,hq,hi,hj,hr,hr',hs,hs',hf,hp,k0,k1]
  by_cases k2:g.nn≤c.id
  ·simp[Tryz.f146,hq,hi,hj,hr,hr',hs,hs',hf,hp,k0,k1,k2]
  ·simp[Tryz.f146,hq,hi,hj,hr,hr',hs,hs',hf,hp,k0,k1,k2,f1]
end
end Go.Proofs.YtadaeokidcgdlaaGreatDoor
