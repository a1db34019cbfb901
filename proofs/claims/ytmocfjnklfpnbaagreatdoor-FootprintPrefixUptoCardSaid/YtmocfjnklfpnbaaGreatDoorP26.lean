/- The node and edge patterns of a path as they are written: the program's parts. -/
import Derived.Test.YtmocfjnklfpnbaaGreatDoorP25
set_option linter.all false
set_option maxRecDepth 100000
namespace Go.Proofs.YtmocfjnklfpnbaaGreatDoor
open Go Go.Ae
section
attribute [local simp] aop aopW coldF extF putA ofConst flat scalarOp fastOp binFast intOp strOp guardX Ae.part rowOf szOk natOf lenA cls fillA splice newsOf isNilC cellX
set_option maxHeartbeats 32000000
def gnP (x:Gp):Np:=⟨x.var,x.types,x.props⟩
def partsT :List Np→List Gp→List Np
 | [],_=> []
 |n::ns,[]=>n::partsT ns []
 |n::ns,e::es=>n::gnP e::partsT ns es
theorem partsT_take :∀{ns:List Np} {es:List Gp} {i:Nat} {x:Np},ns[i]?=some x→partsT (ns.take (i+1)) es=partsT (ns.take i) es++x::((es[i]?).map gnP).toList
 |n::ns,[],0,x,h=>by cases h;simp[partsT]
 |n::ns,e::es,0,x,h=>by cases h;simp[partsT]
 |
  n::ns,[],i+1,x,h=>by
  have:=partsT_take (es:=[]) (i:=i) (show ns[i]?=some x from h);simp only[List.take_succ_cons,partsT,this,Zv];simp
 |
  n::ns,e::es,i+1,x,h=>by
  have:=partsT_take (es:=es) (i:=i) (show ns[i]?=some x from h);simp only[List.take_succ_cons,partsT,this,Zv];simp
theorem partsT_len :∀(ns:List Np) (es:List Gp),(partsT ns es).length≤2*ns.length
 | [],_=>by simp[partsT]
 |n::ns,[]=>by have:=partsT_len ns [];simp only[partsT,List.length_cons];omega
 |n::ns,e::es=>by have:=partsT_len ns es;simp only[partsT,List.length_cons];omega
theorem npR_app (a b:List Np):npR (a++b)=npR a++npR b:=by simp[npR]
theorem npR_all (l:List Np):(∀r∈npR l,r.length=3)∧(npR l).flatten.all calm1=true:=
 ⟨fun r hr=>by obtain⟨c,_,rfl⟩:=Yh.1 hr;rfl,calm1_rows fun r hr=>by obtain⟨c,_,rfl⟩:=Yh.1 hr;rfl⟩
theorem get_app {h:Hp}{j:Nat}{x:Blk}(k:Hp)(hj:h[j]?=some x):(h++k)[j]?=some x:=by
 rw[Zd (Za.1 hj).1];exact hj
theorem Bld.grow {h:Hp}{sz:Nat}{rows:List (List AV)}{x:AV}(k:Hp)(hx:Bld h sz rows x):Bld (h++k) sz rows x:=by
 rcases hx with hx|⟨hne,id,e,hid⟩
 ·exact .inl hx
 ·exact .inr ⟨hne,id,e,get_app k hid⟩
theorem sy_parts (n:Nat)(b:Bool)(p:Tp)(h:Hp)(hl:p.nodes.length≤100000000):callN cx (n+1) b 212 [.ag (encTp p)] h=some (.ls 3 (npR (partsT p.nodes p.edges)) false,h):=by
 refine kx_call (f:=212) (n:=n) (args:=[.ag (encTp p)]) (.ls 3 (npR (partsT p.nodes p.edges)) false) ⟨Tryz.f212.ntmps,(Tryz.f212.body).getD .skip,[.tmp 2]⟩ (by kernel_rfl) (by kernel_rfl) rfl (by kernel_rfl) (by simp[Tryz.f212]) rfl ?_ (by decide) b h;have hkx:kx 212=3:=by decide
 rw[hkx];obtain⟨vr,ns,es⟩:=p;unfold encTp;simp only at hl⊢;have hq:=npR_length ns;have hg:=npR_get ns;generalize npR ns=rows at hq hg;have hqe:=gpR_length es;have hge:=gpR_get es;generalize gpR es=rowe at hqe hge;simp[Tryz.f212,hq];refine loop_up (C:=cx) (G:=fun r=>∃r0 h',finX _ (thenX _ _ (blockX _ r) _)=some (r0,h')∧∃r',Ae.snap h' 8 r0=some r'∧nfX 3 r'= .ls 3 (npR (partsT ns es)) false)
  (fun i s=>i≤ns.length∧s.1.length=53∧gt s.1 1= .pt 0 0∧gt s.1 7= .ls 3 rows false∧gt s.1 8= .sc (.int .i64 (ns.length:Nat))∧gt s.1 9= .sc (.int .i64 (i:Nat))∧s.2[0]?=some (.row [.sc (.string vr),.ls 3 rows false,.ls 7 rowe false])∧∃y,gt s.1 3=y∧Bld s.2 3 (npR (partsT (ns.take i) es)) y∧∀k m,y= .sl k 3 0 m false→0≠k)
  (fun o s=>o= .exit 0∧s.1.length=53∧∃y,gt s.1 3=y∧Bld s.2 3 (npR (partsT ns es)) y) ns.length (by simp;omega) ⟨by omega,rfl,rfl,rfl,rfl,rfl,rfl,_,rfl,.inl ⟨rfl,rfl⟩,by simp⟩ ?_ ?_
 ·rintro i fr hp _ ⟨hi0,hlen,h1,h7,h8,h9,hb,y,h3,hy,hyk⟩;simp only at hlen h1 h7 h8 h9 hb h3 hy;by_cases hi:i<ns.length
  ·obtain⟨x,hx⟩:∃p,ns[i]?=some p:=⟨_,Zb hi⟩;have hr:rows[i]?=some (encNp x):=by rw[hg,hx];rfl
   have hr':∀k,rows[i]'k=encNp x:=fun k=>by obtain⟨_,e⟩:=Za.1 hr;exact e
   have hst:=partsT_take (es:=es) hx;have hf:fitI .i64 ((i:Int)+1)=((i+1:Nat):Int):=fit_i64 (by omega) (by omega);have q3:=fun(ops:Array Oper) (d:Tmp) (rest:List Oper) (fr:List AV) (h:Hp)=>opP_np (C:=cx) (cal:=callN cx n true) (ops:=ops) (fun v=>hy.np v) d rest fr h
   have hkl:(npR (partsT (ns.take i) es)).length≤900000000:=by rw[npR_length];have:=partsT_len (ns.take i) es;have:=List.length_take_le i ns;omega
   have hal:=(npR_all (partsT (ns.take i) es)).1;obtain⟨id,h4,b1,b2,b3,b4⟩:=bld_app' (t:=270) T_qPts rfl (hp++[.row (encNp x)]) (encNp x) (npR (partsT (ns.take i) es)) y (hy.grow _) rfl hal (by omega) (by omega) (by omega);have hb2:=b3 0 _ (get_app _ hb) hyk;have hid0:0≠id:=by simp at b4;omega
   have hy2:Bld h4 3 (npR (partsT (ns.take i) es)++[encNp x]) (.sl id 3 0 ((npR (partsT (ns.take i) es)).length+1) false):=bld_of b2;simp only[Zp,Zv,Zw,Zu,List.length_cons,List.length_nil,Nat.zero_add]at b1;unfold encNp at hr hr' b1;by_cases he:i<es.length
   ·obtain⟨w,hw⟩:∃p,es[i]?=some p:=⟨_,Zb he⟩;have hrw:rowe[i]?=some (encGp w):=by rw[hge,hw];rfl
    have hrw':∀k,rowe[i]'k=encGp w:=fun k=>by obtain⟨_,e⟩:=Za.1 hrw;exact e
    obtain⟨id',h5,d1,d2,d3,d4⟩:=bld_app' (t:=270) T_qPts rfl h4 (encNp (gnP w)) (npR (partsT (ns.take i) es)++[encNp x]) _ hy2 rfl (fun r hr=>by rcases Ya.1 hr with hr|hr;exact hal r hr;simp at hr;subst hr;rfl) (by omega) (by rw[Zu];show _+1≤_;omega) (by omega);have hb3:=d3 0 _ hb2 (fun k m e=>by cases e;exact hid0);simp only[Zu,List.length_cons,List.length_nil,Nat.zero_add]at d1;unfold encNp gnP at d1;unfold encGp at hrw hrw';generalize hFF:npR (partsT (ns.take i) es)=F at b1 b2 b3 hst hy2 d1 d2 d3 hkl hal;simp[hlen,h1,h3,h7,h8,h9,hi,hq,hr,hr',he,hqe,hrw,hrw',q3,b1,hb2,d1,hf];refine⟨by omega,hb3,?_,fun e=>by have:=(Za.1 hb2).1;omega⟩;have key:=bld_of (sz:=3) d2;rw[Zu]at key;rw[hst,npR_app,hFF,hw];simpa[npR]using key
   ·simp[hlen,h1,h3,h7,h8,h9,hi,hq,hr,hr',he,hqe,q3,b1,hb2,hf];refine⟨by omega,?_,hid0⟩;rw[hst,npR_app,List.getElem?_eq_none (by omega)];simpa[npR]using hy2
  ·have hil:i=ns.length:=Yc hi0 (Yb hi);subst hil;rw[List.take_length]at hy;simp[hlen,h7,h8,h9];rw[h3];exact hy
 ·rintro o fr hp hn ⟨rfl,hlen,y,h3,hy⟩;simp only at hlen h3 hy;have hsn:=bld_snap (n:=7) (by omega) (npR_all _).1 (npR_all _).2 hy;have q3:=fun(ops:Array Oper) (d:Tmp) (rest:List Oper) (fr:List AV) (h:Hp)=>opP_np (C:=cx) (cal:=callN cx n true) (ops:=ops) (fun v=>hy.np v) d rest fr h
  simp[hlen,h3,q3];exact⟨_,_,⟨rfl,rfl⟩,_,hsn,nfS_bld _ _⟩
end
section
attribute [local simp] aop aopW coldF extF putA ofConst flat scalarOp fastOp binFast intOp strOp guardX Ae.part rowOf szOk natOf lenA cls fillA newsOf isNilC cellX
set_option maxHeartbeats 32000000
def cT :Nat→Code→Code
 |0,c=>c
 |n+1,c=>cT n (cR c)
def firstE :List Int→Int
 | []=>0
 |a::l=>if a=0 then firstE l else a
theorem firstE_app :∀(a b:List Int),firstE (a++b)=if firstE a=0 then firstE b else firstE a
 | [],b=>by simp[firstE]
 |
  x::a,b=>by
  rw[Zv,firstE,firstE,firstE_app a b];by_cases h:x=0
  ·rw[if_pos h,if_pos h]
  ·rw[if_neg h,if_neg h,if_neg h]
def badN (x:Np):Bool:=(!eqS x.var ⟨#[]⟩ && !wordS x.var)||((x.labels.any fun s=> !wordS s)||((keysP x.props).any fun s=> !wordS s))
def badO (x:Np):Bool:= !risesL x.labels|| !risesL (keysP x.props)
def exprsN (l:List Np):List Ep:=l.flatMap fun x=>x.props.map (·.e)
def hopB (x:Gp):Bool:= !(hopC x.dir x.mode x.mn x.mx x.props.length)
def makB (x:Gp):Bool:= !(makeC x.mode x.dir x.types.length)
def tailE (p:Tp)(create agg:Bool):Int:=if agg=true then 9 else if(create && p.edges.any makB)=true then 1 else 0
def feX (l:List Ep):Int:=firstE (l.map chkX)
def agX (l:List Ep):Bool:=l.any hasX
def exJ (E:List Ep)(l:List Pp)(j:Nat):List Ep:=E++(l.take j).map (·.e)
theorem exJ_zero (E:List Ep)(l:List Pp):exJ E l 0=E:=by simp[exJ]
theorem exJ_all (E:List Ep)(l:List Pp):exJ E l l.length=E++l.map (·.e):=by simp[exJ]
theorem exJ_snoc (E:List Ep){l:List Pp}{j:Nat}{q:Pp}(h:l[j]?=some q):exJ E l (j+1)=exJ E l j++[q.e]:=by
 unfold exJ;rw[List.take_add_one,h];simp
theorem exJ_split (E:List Ep){l:List Pp}{j:Nat}{q:Pp}(h:l[j]?=some q):E++l.map (·.e)=exJ E l j++q.e::(l.drop (j+1)).map (·.e):=by
 obtain⟨k,e⟩:=Za.1 h;have:l=l.take j++q::l.drop (j+1):=by rw[←e,←Zm k,List.take_append_drop]
 conv=>lhs;rw[this]
 simp[exJ]
theorem feX_app (a b:List Ep):feX (a++b)=if feX a=0 then feX b else feX a:=by unfold feX;rw[List.map_append,firstE_app]
theorem feX_snoc {a:List Ep}{q:Ep}(h:feX a=0):feX (a++[q])=chkX q:=by
 rw[feX_app,if_pos h];unfold feX;rw[List.map_cons,List.map_nil,firstE];split
 ·rename_i e;exact e.symm
 ·rfl
theorem feX_mid {a b:List Ep}{q:Ep}(h:feX a=0)(hc:chkX q≠0):feX (a++q::b)=chkX q:=by
 rw[feX_app,if_pos h];unfold feX;rw[List.map_cons,firstE,if_neg hc]
theorem agX_snoc (a:List Ep)(q:Ep):agX (a++[q])=(agX a||hasX q):=by unfold agX;simp
def exprE (p:Tp)(create:Bool)(l:List Np):Int:=if feX (exprsN l)=0 then tailE p create (agX (exprsN l))else feX (exprsN l)
def pathE (p:Tp)(create:Bool):Int:=
 if longT p=true then 4
 else if((!decide (p.nodes.length=p.edges.length+1))||p.edges.any hopB)=true then 1
 else if(!eqS p.var ⟨#[]⟩ && !wordS p.var)=true then 6
 else if(partsT p.nodes p.edges).any badN=true then 6
 else if(partsT p.nodes p.edges).any badO=true then 26
 else exprE p create (partsT p.nodes p.edges)
def bdN (D d:Nat)(x:Np):Prop:=x.labels.length≤1000000000∧x.props.length≤1000000000∧∀q∈x.props,depX q.e≤d∧bdX D q.e
def bdG (D d:Nat)(x:Gp):Prop:=x.types.length≤1000000000∧x.props.length≤1000000000∧∀q∈x.props,depX q.e≤d∧bdX D q.e
def bdT (D d:Nat)(p:Tp):Prop:=(∀x∈p.nodes,bdN D d x)∧(∀x∈p.edges,bdG D d x)∧p.nodes.length≤1000000000∧p.edges.length≤1000000000
theorem partsT_bd {D d:Nat}:∀{ns:List Np} {es:List Gp},(∀x∈ns,bdN D d x)→(∀x∈es,bdG D d x)→∀x∈partsT ns es,bdN D d x
 | [],_,_,_,x,h=>by simp[partsT]at h
 |
  n::ns,[],hn,he,x,h=>by
  rw[partsT]at h;rcases List.mem_cons.1 h with rfl|h
  ·exact hn _ (by simp)
  ·exact partsT_bd (fun x hx=>hn x (by simp[hx])) he x h
 |
  n::ns,e::es,hn,he,x,h=>by
  rw[partsT]at h;rcases List.mem_cons.1 h with rfl|h
  ·exact hn _ (by simp)
  ·rcases List.mem_cons.1 h with rfl|h
   ·exact he e (by simp)
   ·exact partsT_bd (fun x hx=>hn x (by simp[hx])) (fun x hx=>he x (by simp[hx])) x h
theorem ct_hop (n:Nat)(b:Bool)(l:List Gp)(h:Hp)(hl:l.length≤1000000000000000):callN cx (n+4) b 209 [.ls 7 (gpR l) false,.fn 210 []] h=some (.sc (.bool (l.any hopB)),h):=by
 have hex:∃p:List AV→Bool,(∀x,p (encGp x)=hopB x):=by
  refine⟨fun r=>match callN cx (n+2) true 210 [.ag r] []with|some (.sc (.bool q),_)=>q|_=>false,fun x=>?_⟩;simp only[sy_path1 n true x [],hopB]
 obtain⟨p,hp⟩:=hex;have f1:=ct_EPs (n+2) b 210 (gpR l) p false h (fun r hr=>by obtain⟨x,_,rfl⟩:=Yh.1 hr;rfl) (by rw[gpR_length];exact hl) (fun r hr b h=>by
  obtain⟨x,hx,rfl⟩:=Yh.1 hr;rw[hp x];exact sy_path1 n b x h)
 rw[show(gpR l).any p=l.any hopB by unfold gpR;rw[List.any_map];exact anyC fun x _=>hp x]at f1;exact f1
theorem ct_mak (n:Nat)(b:Bool)(l:List Gp)(h:Hp)(hl:l.length≤1000000000000000):callN cx (n+4) b 209 [.ls 7 (gpR l) false,.fn 217 []] h=some (.sc (.bool (l.any makB)),h):=by
 have hex:∃p:List AV→Bool,(∀x,p (encGp x)=makB x):=by
  refine⟨fun r=>match callN cx (n+2) true 217 [.ag r] []with|some (.sc (.bool q),_)=>q|_=>false,fun x=>?_⟩;simp only[sy_path2 n true x [],makB]
 obtain⟨p,hp⟩:=hex;have f1:=ct_EPs (n+2) b 217 (gpR l) p false h (fun r hr=>by obtain⟨x,_,rfl⟩:=Yh.1 hr;rfl) (by rw[gpR_length];exact hl) (fun r hr b h=>by
  obtain⟨x,hx,rfl⟩:=Yh.1 hr;rw[hp x];exact sy_path2 n b x h)
 rw[show(gpR l).any p=l.any makB by unfold gpR;rw[List.any_map];exact anyC fun x _=>hp x]at f1;exact f1
theorem loopU {call:Bool→Cal}(Inv:Nat→St→Prop)(Q:Out→St→Prop)(N:Nat)(hN:N<cx.fuel)(X:Option (Out × St))(c:Code)(fr:List AV)(h:Hp)(hX:exec2 cx call (.loop c) (fr,h)=X)(hI:Inv 0 (fr,h))
 (step:∀i fr h,i≤N→Inv i (fr,h)→UpX Inv Q N i (exec2 cx call c (fr,h))):∃o fr' h',X=some (o,(fr',h'))∧Q o (fr',h'):=by
 subst hX;exact loop_up (C:=cx) (G:=fun r=>∃o fr' h',r=some (o,(fr',h'))∧Q o (fr',h')) Inv Q N hN hI step (fun o fr h _ hq=>⟨o,fr,h,rfl,hq⟩)
theorem loopE {P:Prop}{call:Bool→Cal}{X:Option (Out × St)}{c:Code}{fr:List AV}{h:Hp}(hX:exec2 cx call (.loop c) (fr,h)=X)(Inv:Nat→St→Prop)(Q:Out→St→Prop)(N:Nat)(hN:N<cx.fuel)(hI:Inv 0 (fr,h))
 (step:∀i fr h,i≤N→Inv i (fr,h)→UpX Inv Q N i (exec2 cx call c (fr,h))) (fin:∀o fr' h',X=some (o,(fr',h'))→Q o (fr',h')→P):P:=by
 obtain⟨o,fr',h',e,hQ⟩:=loopU Inv Q N hN X c fr h hX hI step;exact fin o fr' h' e hQ
theorem row_get {α:Type}{R:List (List AV)}{l:List α}{enc:α→List AV}(hg:∀i:Nat,R[i]?=(l[i]?).map enc){i:Nat}(hi:i<l.length):∃x,l[i]?=some x∧R[i]?=some (enc x)∧∀k,R[i]'k=enc x:=by
 have hx:l[i]?=some l[i]:=Zb hi;have hr:R[i]?=some (enc l[i]):=by rw[hg,hx];rfl
 exact⟨_,hx,hr,fun k=>by obtain⟨_,e⟩:=Za.1 hr;exact e⟩
noncomputable def kCP :Code:=(Tryz.f138.body).getD .skip
def SP (cr:Bool)(rp:List (List AV))(row:List AV)(fr:List AV)(h:Hp):Prop:=fr.length=125∧gt fr 1= .sc (.bool cr)∧gt fr 2= .pt 0 0∧gt fr 5= .ls 3 rp false∧h[0]?=some (.row row)
def PX (r:Option (Out × St))(v:Int):Prop:=∃h',finX [.tmp 4] r=some (.sc (.int .i64 v),h')
theorem PX_ret {fr:List AV}{h:Hp}{v:Int}(h4:gt fr 4= .sc (.int .i64 v)):PX (some (.ret,(fr,h))) v:=⟨h,by simp[h4]⟩
theorem cp_D (M:Nat)(cr agg w:Bool)(rp rn rg:List (List AV))(vr:ByteArray)(fr:List AV)(h:Hp)(hS:SP cr rp [.sc (.string vr),.ls 3 rn false,.ls 7 rg false] fr h)(h10:gt fr 10= .sc (.bool agg))
 (fm:∀b h,callN cx M b 209 [.ls 7 rg false,.fn 217 []] h=some (.sc (.bool w),h)):PX (exec2 cx (callN cx M) (cT 9 kCP) (fr,h)) (if agg=true then 9 else if(cr && w)=true then 1 else 0):=by
 obtain⟨hlen,h1,h2,h5,hh⟩:=hS;cases agg
 ·cases cr
  ·simp[kCP,cT,cR,Tryz.f138,hlen,h1,h2,h10,hh];exact PX_ret (by simp[hlen])
  ·cases w<;>simp[kCP,cT,cR,Tryz.f138,hlen,h1,h2,h10,hh,fm]
   ·exact PX_ret (by simp[hlen])
   ·exact PX_ret (by simp[hlen])
 ·simp[kCP,cT,cR,Tryz.f138,hlen,h1,h2,h10,hh];exact PX_ret (by simp[hlen])
theorem spl3 (a b c x y z:AV):splice [a,b,c] 0 [x,y,z]=[x,y,z]:=rfl
theorem exprsN_take {l:List Np}{i:Nat}{x:Np}(h:l[i]?=some x):exprsN (l.take (i+1))=exprsN (l.take i)++x.props.map (·.e):=by
 unfold exprsN;rw[List.take_add_one,h];simp
theorem exprsN_split {l:List Np}{i:Nat}{x:Np}(h:l[i]?=some x):exprsN l=exprsN (l.take i)++(x.props.map (·.e)++exprsN (l.drop (i+1))):=by
 obtain⟨k,e⟩:=Za.1 h;have:l=l.take i++x::l.drop (i+1):=by rw[←e,←Zm k,List.take_append_drop]
 conv=>lhs;rw[this]
 unfold exprsN;simp
theorem cp_C (M:Nat)(cr:Bool)(l:List Np)(row:List AV)(t:Bool→Int)(X:Code)(hl:l.length≤1000000000)(hb:∀x∈l,x.props.length≤1000000000)
 (fc:∀x∈l,∀q∈x.props,∀b h,callN cx M b 139 [.ag (encX q.e)] h=some (.sc (.int .i64 (chkX q.e)),h))
 (fh:∀x∈l,∀q∈x.props,∀b h,callN cx M b 145 [.ag (encX q.e)] h=some (.sc (.bool (hasX q.e)),h))
 (hX:∀fr h agg,SP cr (npR l) row fr h→gt fr 10= .sc (.bool agg)→PX (exec2 cx (callN cx M) X (fr,h)) (t agg)) (fr:List AV) (h:Hp) (hS:SP cr (npR l) row fr h):
 PX (exec2 cx (callN cx M) (.seq (cL (cT 7 kCP)) (.seq (cL (cT 8 kCP)) X)) (fr,h)) (if feX (exprsN l)=0 then t (agX (exprsN l))else feX (exprsN l)):=by
 obtain⟨hlen,h1,h2,h5,hh⟩:=hS;have hq:=npR_length l;have hg:=npR_get l;generalize npR l=rp at hq hg hX h5;simp[kCP,cT,cR,cL,Tryz.f138,hlen,h1,h2,h5,hq];generalize hXX:exec2 cx (callN cx M) (.loop _) _=XX;refine loopE hXX
  (fun i s=>SP cr rp row s.1 s.2∧gt s.1 89= .ls 3 rp false∧gt s.1 90= .sc (.int .i64 (l.length:Nat))∧gt s.1 91= .sc (.int .i64 (i:Nat))∧gt s.1 10= .sc (.bool (agX (exprsN (l.take i))))∧feX (exprsN (l.take i))=0)
  (fun o s=>(o= .exit 4∧SP cr rp row s.1 s.2∧gt s.1 10= .sc (.bool (agX (exprsN l)))∧feX (exprsN l)=0)∨(o= .ret∧gt s.1 4= .sc (.int .i64 (feX (exprsN l)))∧feX (exprsN l)≠0))
  l.length (by simp;omega) ⟨⟨by simp[hlen],by simp[h1],by simp[h2],by simp[h5],hh⟩,by simp[hlen],by simp[hlen],by simp[hlen],by simp[hlen,exprsN,agX],rfl⟩ ?_ ?_
 rotate_left
 ·rintro o fr' h' rfl hQ;rcases hQ with⟨rfl,hS,h10,h0⟩|⟨rfl,h4,h0⟩
  ·rw[if_pos h0];simp;exact hX _ _ _ hS h10
  ·rw[if_neg h0];simp;exact PX_ret h4
 ·clear hXX XX;rintro i fr hp hle ⟨⟨hlen,h1,h2,h5,hh⟩,h89,h90,h91,h10,h0⟩;simp only at hlen h1 h2 h5 hh h89 h90 h91 h10 h0;by_cases hi:i<l.length
  ·obtain⟨x,hx,hr,hr'⟩:=row_get hg hi;have hmem:=Zi hx;have hst:=exprsN_take hx;have hsp:=exprsN_split hx;have hf:fitI .i64 ((i:Int)+1)=((i+1:Nat):Int):=fit_i64 (by omega) (by omega);have hqp:=ppR_length x.props;have hgp:=ppR_get x.props;have hbx:=hb x hmem;have fcx:=fc x hmem;have fhx:=fh x hmem;unfold encNp at hr hr';generalize ppR x.props=rpp at hr hr' hqp hgp;generalize exprsN (l.take i)=E0 at h10 h0 hst hsp;simp[hlen,h89,h90,h91,hi,hq,hr,hr',hqp,spl3];generalize hYY:exec2 cx (callN cx M) (.loop _) _=YY;refine loopE hYY
    (fun j s=>SP cr rp row s.1 s.2∧gt s.1 89= .ls 3 rp false∧gt s.1 90= .sc (.int .i64 (l.length:Nat))∧gt s.1 91= .sc (.int .i64 (i:Nat))∧gt s.1 96= .ls 10 rpp false∧gt s.1 97= .sc (.int .i64 (x.props.length:Nat))∧gt s.1 98= .sc (.int .i64 (j:Nat))∧gt s.1 10= .sc (.bool (agX (exJ E0 x.props j)))∧feX (exJ E0 x.props j)=0)
    (fun o s=>(o= .exit 6∧SP cr rp row s.1 s.2∧gt s.1 89= .ls 3 rp false∧gt s.1 90= .sc (.int .i64 (l.length:Nat))∧gt s.1 91= .sc (.int .i64 (i:Nat))∧gt s.1 10= .sc (.bool (agX (E0++x.props.map (·.e))))∧feX (E0++x.props.map (·.e))=0)∨(o= .ret∧gt s.1 4= .sc (.int .i64 (feX (exprsN l)))∧feX (exprsN l)≠0))
    x.props.length (by simp;omega) ⟨⟨by simp[hlen],by simp[h1],by simp[h2],by simp[h5],get_app _ hh⟩,by simp[hlen,h89],by simp[hlen,h90],by simp[hlen,h91],by simp[hlen],by simp[hlen],by simp[hlen],by rw[exJ_zero];simp[hlen,h10],by rw[exJ_zero];exact h0⟩ ?_ ?_
   rotate_left
   ·rintro o fr' h' rfl hQ;rcases hQ with⟨rfl,⟨hlen,h1,h2,h5,hh⟩,h89,h90,h91,h10,h0⟩|⟨rfl,h4,h0⟩
    ·simp only at hlen h1 h2 h5 hh h89 h90 h91 h10 h0;simp[hlen,h91,hf,hi];rw[hst];exact⟨⟨by simp[hlen],by simp[h1],by simp[h2],by simp[h5],hh⟩,h89,h90,h10,h0⟩
    ·simp;exact⟨h4,h0⟩
   ·clear hYY YY;rintro j fr hp hle' ⟨⟨hlen,h1,h2,h5,hh⟩,h89,h90,h91,h96,h97,h98,h10,h0⟩;simp only at hlen h1 h2 h5 hh h89 h90 h91 h96 h97 h98 h10 h0;by_cases hj:j<x.props.length
    ·obtain⟨q,hqx,hrq,hrq'⟩:=row_get hgp hj;have hqm:=Zi hqx;have fq:=fcx q hqm;have gq:=fhx q hqm;have hfj:fitI .i64 ((j:Int)+1)=((j+1:Nat):Int):=fit_i64 (by omega) (by omega);have hev:=encX_length q.e;have hall:chkX q.e≠0→feX (exprsN l)=chkX q.e:=fun hc=>by
      rw[hsp,←Zp,exJ_split E0 hqx,Zp,Zv,feX_mid h0 hc]
     have hnext:=feX_snoc (q:=q.e) h0;have hnagg:=agX_snoc (exJ E0 x.props j) q.e;rw[←exJ_snoc E0 hqx]at hnext hnagg;unfold encPp at hrq hrq';generalize agX (exJ E0 x.props j)=ag at h10 hnagg;generalize chkX q.e=c at fq hall hnext;generalize hasX q.e=g at gq hnagg;generalize encX q.e=ev at fq gq hrq hrq' hev;have hev9:ev.take 9=ev:=List.take_of_length_le (by omega);have hsx:=spX10 (ev:= .sc (.string q.key)::ev) (by simp[hev]);by_cases hc:c=0
     ·subst hc;cases ag
      ·simp[hlen,h96,h97,h98,h10,hj,hqp,hrq,hrq',hev,hev9,hsx,fq,gq,hfj];refine⟨⟨by simp[hlen],by simp[h1],by simp[h2],by simp[h5],get_app _ hh⟩,h89,h90,h91,?_,hnext⟩;rw[hnagg];simp
      ·simp[hlen,h96,h97,h98,h10,hj,hqp,hrq,hrq',hev,hev9,hsx,fq,gq,hfj];refine⟨⟨by simp[hlen],by simp[h1],by simp[h2],by simp[h5],get_app _ hh⟩,h89,h90,h91,?_,hnext⟩;rw[hnagg];simp
     ·have hall:=hall hc;simp[hlen,h96,h97,h98,h10,hj,hqp,hrq,hrq',hev,hev9,hsx,fq,gq,hfj,hc];exact⟨hall.symm,fun e=>hc (hall.symm.trans e)⟩
    ·have hjl:j=x.props.length:=Yc hle' (Yb hj);subst hjl;rw[exJ_all]at h10 h0;simp[hlen,h97,h98];exact⟨⟨by simp[hlen],by simp[h1],by simp[h2],by simp[h5],hh⟩,h89,h90,h91,h10,h0⟩
  ·have hil:i=l.length:=Yc hle (Yb hi);subst hil;rw[List.take_length]at h10 h0;simp[hlen,h90,h91];exact⟨⟨by simp[hlen],by simp[h1],by simp[h2],by simp[h5],hh⟩,h10,h0⟩
theorem any_drop {α:Type}{l:List α}{p:α→Bool}{i:Nat}{x:α}(h:l[i]?=some x):(l.drop i).any p=(p x||(l.drop (i+1)).any p):=by
 obtain⟨k,e⟩:=Za.1 h;rw[Zm k,e,List.any_cons]
theorem cp_B (M:Nat)(cr:Bool)(l:List Np)(row:List AV)(v:Int)(X:Code)(hl:l.length≤1000000000)
 (fr1:∀x∈l,∀b h,callN cx M b 216 [.ls 1 (tsR x.labels) false] h=some (.sc (.bool (risesL x.labels)),h))
 (fk:∀x∈l,∀b h,callN cx M b 215 [.ls 10 (ppR x.props) false] h=some (.ls 1 (tsR (keysP x.props)) false,h))
 (fr2:∀x∈l,∀b h,callN cx M b 216 [.ls 1 (tsR (keysP x.props)) false] h=some (.sc (.bool (risesL (keysP x.props))),h))
 (hX:∀fr h,SP cr (npR l) row fr h→PX (exec2 cx (callN cx M) X (fr,h)) v) (fr:List AV) (h:Hp) (hS:SP cr (npR l) row fr h):
 PX (exec2 cx (callN cx M) (.seq (cL (cT 6 kCP)) X) (fr,h)) (if l.any badO=true then 26 else v):=by
 obtain⟨hlen,h1,h2,h5,hh⟩:=hS;have hq:=npR_length l;have hg:=npR_get l;generalize npR l=rp at hq hg hX h5;generalize hA:l.any badO=A;simp[kCP,cT,cR,cL,Tryz.f138,hlen,h1,h2,h5,hq];generalize hXX:exec2 cx (callN cx M) (.loop _) _=XX;refine loopE hXX
  (fun i s=>SP cr rp row s.1 s.2∧gt s.1 71= .ls 3 rp false∧gt s.1 72= .sc (.int .i64 (l.length:Nat))∧gt s.1 73= .sc (.int .i64 (i:Nat))∧(l.drop i).any badO=A)
  (fun o s=>(o= .exit 2∧SP cr rp row s.1 s.2∧A=false)∨(o= .ret∧gt s.1 4= .sc (.int .i64 26)∧A=true))
  l.length (by simp;omega) ⟨⟨by simp[hlen],by simp[h1],by simp[h2],by simp[h5],hh⟩,by simp[hlen],by simp[hlen],by simp[hlen],hA⟩ ?_ ?_
 ·clear hXX XX hA;rintro i fr hp hle ⟨⟨hlen,h1,h2,h5,hh⟩,h71,h72,h73,hA⟩;simp only at hlen h1 h2 h5 hh h71 h72 h73 hA;by_cases hi:i<l.length
  ·obtain⟨x,hx,hr,hr'⟩:=row_get hg hi;have hmem:=Zi hx;have hf:fitI .i64 ((i:Int)+1)=((i+1:Nat):Int):=fit_i64 (by omega) (by omega);rw[any_drop hx,show badO x=(!risesL x.labels|| !risesL (keysP x.props))from rfl]at hA;have f1:=fr1 x hmem;have f2:=fk x hmem;have f3:=fr2 x hmem;unfold encNp at hr hr';generalize tsR x.labels=rl at hr hr' f1;generalize ppR x.props=rpp at hr hr' f2;generalize tsR (keysP x.props)=rk at f2 f3;generalize risesL x.labels=w1 at f1 hA;generalize risesL (keysP x.props)=w2 at f3 hA;generalize hA':(l.drop (i+1)).any badO=A' at hA;subst hA;cases w1
   ·simp[hlen,h71,h72,h73,hi,hq,hr,hr',spl3,f1]
   ·cases w2
    ·simp[hlen,h71,h72,h73,hi,hq,hr,hr',spl3,f1,f2,f3]
    ·simp[hlen,h71,h72,h73,hi,hq,hr,hr',spl3,f1,f2,f3,hf];exact⟨⟨by simp[hlen],by simp[h1],by simp[h2],by simp[h5],get_app _ hh⟩,hA'⟩
  ·have hil:i=l.length:=Yc hle (Yb hi);subst hil;rw[Yd]at hA;subst hA;simp[hlen,h72,h73];exact⟨by simp[hlen],by simp[h1],by simp[h2],by simp[h5],hh⟩
 ·rintro o fr' h' rfl hQ;rcases hQ with⟨rfl,hS,rfl⟩|⟨rfl,h4,rfl⟩
  ·simp;exact hX _ _ hS
  ·simp;exact PX_ret h4
theorem cp_A (M:Nat)(cr:Bool)(l:List Np)(row:List AV)(v:Int)(X:Code)(hl:l.length≤1000000000)
 (fw:∀x∈l,∀b h,callN cx M b 213 [.sc (.string x.var)] h=some (.sc (.bool (wordS x.var)),h))
 (fr1:∀x∈l,∀b h,callN cx M b 214 [.ls 1 (tsR x.labels) false] h=some (.sc (.bool (!(x.labels.any fun s=> !wordS s))),h))
 (fk:∀x∈l,∀b h,callN cx M b 215 [.ls 10 (ppR x.props) false] h=some (.ls 1 (tsR (keysP x.props)) false,h))
 (fr2:∀x∈l,∀b h,callN cx M b 214 [.ls 1 (tsR (keysP x.props)) false] h=some (.sc (.bool (!((keysP x.props).any fun s=> !wordS s))),h))
 (hX:∀fr h,SP cr (npR l) row fr h→PX (exec2 cx (callN cx M) X (fr,h)) v) (fr:List AV) (h:Hp) (hS:SP cr (npR l) row fr h):
 PX (exec2 cx (callN cx M) (.seq (cL (cT 5 kCP)) X) (fr,h)) (if l.any badN=true then 6 else v):=by
 obtain⟨hlen,h1,h2,h5,hh⟩:=hS;have hq:=npR_length l;have hg:=npR_get l;generalize npR l=rp at hq hg hX h5;generalize hA:l.any badN=A;simp[kCP,cT,cR,cL,Tryz.f138,hlen,h1,h2,h5,hq];generalize hXX:exec2 cx (callN cx M) (.loop _) _=XX;refine loopE hXX
  (fun i s=>SP cr rp row s.1 s.2∧gt s.1 42= .ls 3 rp false∧gt s.1 43= .sc (.int .i64 (l.length:Nat))∧gt s.1 44= .sc (.int .i64 (i:Nat))∧(l.drop i).any badN=A)
  (fun o s=>(o= .exit 0∧SP cr rp row s.1 s.2∧A=false)∨(o= .ret∧gt s.1 4= .sc (.int .i64 6)∧A=true))
  l.length (by simp;omega) ⟨⟨by simp[hlen],by simp[h1],by simp[h2],by simp[h5],hh⟩,by simp[hlen],by simp[hlen],by simp[hlen],hA⟩ ?_ ?_
 ·clear hXX XX hA;rintro i fr hp hle ⟨⟨hlen,h1,h2,h5,hh⟩,h42,h43,h44,hA⟩;simp only at hlen h1 h2 h5 hh h42 h43 h44 hA;by_cases hi:i<l.length
  ·obtain⟨x,hx,hr,hr'⟩:=row_get hg hi;have hmem:=Zi hx;have hf:fitI .i64 ((i:Int)+1)=((i+1:Nat):Int):=fit_i64 (by omega) (by omega);rw[any_drop hx,show badN x=((!eqS x.var ⟨#[]⟩ && !wordS x.var)||((x.labels.any fun s=> !wordS s)||((keysP x.props).any fun s=> !wordS s)))from rfl]at hA;have f0:=fw x hmem;have f1:=fr1 x hmem;have f2:=fk x hmem;have f3:=fr2 x hmem;unfold encNp at hr hr';generalize tsR x.labels=rl at hr hr' f1;generalize ppR x.props=rpp at hr hr' f2;generalize tsR (keysP x.props)=rk at f2 f3;generalize(x.labels.any fun s=> !wordS s)=w1 at f1 hA;generalize((keysP x.props).any fun s=> !wordS s)=w2 at f3 hA;generalize wordS x.var=w0 at f0 hA;generalize he:eqS x.var ⟨#[]⟩=en at hA;generalize hA':(l.drop (i+1)).any badN=A' at hA;subst hA;cases en
   ·cases w0
    ·simp[hlen,h42,h43,h44,hi,hq,hr,hr',spl3,he,f0]
    ·cases w1
     ·cases w2
      ·simp[hlen,h42,h43,h44,hi,hq,hr,hr',spl3,he,f0,f1,f2,f3,hf];exact⟨⟨by simp[hlen],by simp[h1],by simp[h2],by simp[h5],get_app _ hh⟩,hA'⟩
      ·simp[hlen,h42,h43,h44,hi,hq,hr,hr',spl3,he,f0,f1,f2,f3]
     ·simp[hlen,h42,h43,h44,hi,hq,hr,hr',spl3,he,f0,f1]
   ·cases w1
    ·cases w2
     ·simp[hlen,h42,h43,h44,hi,hq,hr,hr',spl3,he,f1,f2,f3,hf];exact⟨⟨by simp[hlen],by simp[h1],by simp[h2],by simp[h5],get_app _ hh⟩,hA'⟩
     ·simp[hlen,h42,h43,h44,hi,hq,hr,hr',spl3,he,f1,f2,f3]
    ·simp[hlen,h42,h43,h44,hi,hq,hr,hr',spl3,he,f1]
  ·have hil:i=l.length:=Yc hle (Yb hi);subst hil;rw[Yd]at hA;subst hA;simp[hlen,h43,h44];exact⟨by simp[hlen],by simp[h1],by simp[h2],by simp[h5],hh⟩
 ·rintro o fr' h' rfl hQ;rcases hQ with⟨rfl,hS,rfl⟩|⟨rfl,h4,rfl⟩
  ·simp;exact hX _ _ hS
  ·simp;exact PX_ret h4
def SP0 (cr:Bool)(row:List AV)(fr:List AV)(h:Hp):Prop:=fr.length=125∧gt fr 1= .sc (.bool cr)∧gt fr 2= .pt 0 0∧h[0]?=some (.row row)
theorem cp_2 (M:Nat)(cr w:Bool)(vr:ByteArray)(rn re:List (List AV))(v:Int)(X:Code)(fr:List AV)(h:Hp)(hS:SP0 cr [.sc (.string vr),.ls 3 rn false,.ls 7 re false] fr h)(qa qb q:Int)(hqa:(rn.length:Int)=qa)(hqb:(re.length:Int)=qb)(hf:fitI .i64 (qb+1)=q)
 (f2:∀b h,callN cx M b 209 [.ls 7 re false,.fn 210 []] h=some (.sc (.bool w),h))
 (hX:∀fr,qa=q→w=false→SP0 cr [.sc (.string vr),.ls 3 rn false,.ls 7 re false] fr h→PX (exec2 cx (callN cx M) X (fr,h)) v):PX (exec2 cx (callN cx M) (.seq (cL (cT 2 kCP)) X) (fr,h)) (if qa=q then(if w=true then 1 else v)else 1):=by
 obtain⟨hlen,h1,h2,hh⟩:=hS;by_cases c2:qa=q
 ·rw[if_pos c2];have hX:=fun fr=>hX fr c2
  cases w
  ·simp[kCP,cT,cR,cL,Tryz.f138,hlen,h1,h2,hh,hqa,hqb,hf,c2,f2];exact hX _ rfl ⟨by simp[hlen],by simp[hlen,h1],by simp[hlen,h2],hh⟩
  ·simp[kCP,cT,cR,cL,Tryz.f138,hlen,h1,h2,hh,hqa,hqb,hf,c2,f2];exact PX_ret (by simp[hlen])
 ·rw[if_neg c2];simp[kCP,cT,cR,cL,Tryz.f138,hlen,h1,h2,hh,hqa,hqb,hf,c2];exact PX_ret (by simp[hlen])
theorem cp_34 (M:Nat)(cr en w0:Bool)(vr:ByteArray)(rn re rl:List (List AV))(v:Int)(X:Code)(fr:List AV)(h:Hp)(hS:SP0 cr [.sc (.string vr),.ls 3 rn false,.ls 7 re false] fr h)
 (f5:∀b h,callN cx M b 212 [.ag [.sc (.string vr),.ls 3 rn false,.ls 7 re false]] h=some (.ls 3 rl false,h)) (he:eqS vr ⟨#[]⟩=en) (f4:∀b h,callN cx M b 213 [.sc (.string vr)] h=some (.sc (.bool w0),h))
 (hX:∀fr,SP cr rl [.sc (.string vr),.ls 3 rn false,.ls 7 re false] fr h→PX (exec2 cx (callN cx M) X (fr,h)) v):PX (exec2 cx (callN cx M) (.seq (cL (cT 3 kCP)) (.seq (cL (cT 4 kCP)) X)) (fr,h)) (if(!en && !w0)=true then 6 else v):=by
 obtain⟨hlen,h1,h2,hh⟩:=hS;cases en
 ·cases w0
  ·simp[kCP,cT,cR,cL,Tryz.f138,hlen,h1,h2,hh,f5,he,f4];exact PX_ret (by simp[hlen])
  ·simp[kCP,cT,cR,cL,Tryz.f138,hlen,h1,h2,hh,f5,he,f4];exact hX _ ⟨by simp[hlen],by simp[hlen,h1],by simp[hlen,h2],by simp[hlen],hh⟩
 ·simp[kCP,cT,cR,cL,Tryz.f138,hlen,h1,h2,hh,f5,he];exact hX _ ⟨by simp[hlen],by simp[hlen,h1],by simp[hlen,h2],by simp[hlen],hh⟩
theorem sy_CheckPath (D d n:Nat)(b:Bool)(p:Tp)(cr:Bool)(h:Hp)(hb:bdT D d p)(hn:2*D+3*d+20≤n):callN cx n b 138 [.ag (encTp p),.sc (.bool cr)] h=some (.sc (.int .i64 (pathE p cr)),h):=by
 obtain⟨M,rfl⟩:∃M,n=M+1:=⟨n-1,by omega⟩;obtain⟨hbn,hbe,hln,hle⟩:=hb;have hcalm:[AV.ag (encTp p),.sc (.bool cr)].all calm=true:=rfl;refine pure_calm (n:=M) (r:= .sc (.int .i64 (pathE p cr))) ⟨Tryz.f138.ntmps,(Tryz.f138.body).getD .skip,[.tmp 4]⟩ (by kernel_rfl) (by kernel_rfl) rfl (by kernel_rfl) (by simp[Tryz.f138]) hcalm rfl ?_ b h;obtain⟨k1,e1⟩:∃k,M=k+1:=⟨M-1,by omega⟩;obtain⟨k3,e3⟩:∃k,M=k+3:=⟨M-3,by omega⟩;obtain⟨k4,e4⟩:∃k,M=k+4:=⟨M-4,by omega⟩;obtain⟨k7,e7⟩:∃k,M=k+7:=⟨M-7,by omega⟩;obtain⟨kc,ec⟩:∃k,M=k+2*D+9+d:=⟨M-2*D-9-d,by omega⟩;obtain⟨kh,eh⟩:∃k,M=k+3*d:=⟨M-3*d,by omega⟩;have hpb:=partsT_bd hbn hbe;have f1:=fun b h=>sy_long k1 b p h
 rw[←e1]at f1;have f2:=fun b h=>ct_hop k4 b p.edges h (by omega)
 have f3:=fun b h=>ct_mak k4 b p.edges h (by omega)
 rw[←e4]at f2 f3;have f4:=fun b h=>sy_word k3 b p.var h
 rw[←e3]at f4;have hA:∀fr h,SP cr (npR (partsT p.nodes p.edges)) [.sc (.string p.var),.ls 3 (npR p.nodes) false,.ls 7 (gpR p.edges) false] fr h→(partsT p.nodes p.edges).length≤1000000000→
  PX (exec2 cx (callN cx M) (cT 5 kCP) (fr,h)) (if(partsT p.nodes p.edges).any badN=true then 6 else if(partsT p.nodes p.edges).any badO=true then 26 else exprE p cr (partsT p.nodes p.edges)):=by
  intro fr h hS hpl;rw[show cT 5 kCP= .seq (cL (cT 5 kCP)) (cT 6 kCP) by kernel_rfl];refine cp_A M cr _ _ _ _ hpl (fun x hx b h=>by rw[e3];exact sy_word k3 b x.var h) (fun x hx b h=>by rw[e7];exact sy_words k7 b x.labels false h (by have:=(hpb x hx).1;omega))
   (fun x hx b h=>by rw[e1];exact sy_keys k1 b x.props false h (hpb x hx).2.1) (fun x hx b h=>by rw[e7];exact sy_words k7 b (keysP x.props) false h (by unfold keysP;rw[List.length_map];have:=(hpb x hx).2.1;omega)) ?_ fr h hS
  intro fr h hS;rw[show cT 6 kCP= .seq (cL (cT 6 kCP)) (cT 7 kCP) by kernel_rfl];refine cp_B M cr _ _ _ _ hpl (fun x hx b h=>by rw[e1];exact sy_rises k1 b x.labels false h (by have:=(hpb x hx).1;omega)) (fun x hx b h=>by rw[e1];exact sy_keys k1 b x.props false h (hpb x hx).2.1)
   (fun x hx b h=>by rw[e1];exact sy_rises k1 b (keysP x.props) false h (by unfold keysP;rw[List.length_map];have:=(hpb x hx).2.1;omega)) ?_ fr h hS
  intro fr h hS;rw[show cT 7 kCP= .seq (cL (cT 7 kCP)) (.seq (cL (cT 8 kCP)) (cT 9 kCP)) by kernel_rfl];unfold exprE tailE;exact cp_C M cr _ _ (fun agg=>if agg=true then 9 else if(cr && p.edges.any makB)=true then 1 else 0) _ hpl (fun x hx=>(hpb x hx).2.1) (fun x hx q hq b h=>by rw[ec];exact sy_CheckExpr kc D d b q.e h ((hpb x hx).2.2 q hq).1 ((hpb x hx).2.2 q hq).2)
   (fun x hx q hq b h=>by rw[eh];exact sy_HasAgg D d q.e ((hpb x hx).2.2 q hq).1 ((hpb x hx).2.2 q hq).2 kh b h) (fun fr h agg hS h10=>cp_D M cr agg (p.edges.any makB) _ _ _ _ fr h hS h10 f3) fr h hS
 show(finX _ (exec2 cx (callN cx M) kCP _)).map Prod.fst=_;rw[show kCP= .seq (cL (cT 0 kCP)) (.seq (cL (cT 1 kCP)) (.seq (cL (cT 2 kCP)) (.seq (cL (cT 3 kCP)) (.seq (cL (cT 4 kCP)) (cT 5 kCP))))) by kernel_rfl];generalize cT 5 kCP=X5 at hA⊢;unfold pathE;have hl6:longT p=false→p.edges.length≤6:=fun hlg=>by
  unfold longT at hlg;simp only[Bool.or_eq_false_iff,decide_eq_false_iff_not]at hlg;omega
 have f5:p.nodes.length≤100000000→∀b h,callN cx M b 212 [.ag (encTp p)] h=some (.ls 3 (npR (partsT p.nodes p.edges)) false,h):=fun hh b h=>by rw[e1];exact sy_parts k1 b p h hh
 have hpl:=partsT_len p.nodes p.edges;clear e1 e3 e4 e7 ec eh hcalm hpb hbn hbe;obtain⟨vr,ns,es⟩:=p;unfold encTp at f1 f5⊢;simp only at f1 f2 f4 f5 hA hl6 hln hle hpl⊢;have hq:=npR_length ns;have hqe:=gpR_length es;generalize npR ns=rn at hq f1 f5 hA⊢;generalize gpR es=re at hqe f1 f2 f3 f5 hA⊢;generalize longT ⟨vr,ns,es⟩=lg at f1 hl6⊢;cases lg
 rotate_left
 ·simp[kCP,cT,cR,cL,Tryz.f138,f1]
 have hl6:=hl6 rfl;have f5:=fun(hc:ns.length=es.length+1)=>f5 (by omega)
 have hpl':ns.length=es.length+1→(partsT ns es).length≤1000000000:=fun hc=>by omega
 have hf0:es.length≤1000000000000000:=by omega
 have hqa:(rn.length:Int)=(ns.length:Int):=by rw[hq]
 have hqb:(re.length:Int)=(es.length:Int):=by rw[hqe]
 have hcc:ns.length=es.length+1↔(ns.length:Int)=((es.length+1:Nat):Int):=by omega
 have hv:(if(!decide (ns.length=es.length+1)||es.any hopB)=true then(1:Int)else if(!eqS vr ⟨#[]⟩ && !wordS vr)=true then 6 else if(partsT ns es).any badN=true then 6 else if(partsT ns es).any badO=true then 26 else exprE ⟨vr,ns,es⟩ cr (partsT ns es))=
  if(ns.length:Int)=((es.length+1:Nat):Int)then(if es.any hopB=true then 1 else if(!eqS vr ⟨#[]⟩ && !wordS vr)=true then 6 else if(partsT ns es).any badN=true then 6 else if(partsT ns es).any badO=true then 26 else exprE ⟨vr,ns,es⟩ cr (partsT ns es))else 1:=by
  by_cases hc:ns.length=es.length+1
  ·rw[if_pos (hcc.1 hc),decide_eq_true hc];rfl
  ·rw[if_neg (fun e=>hc (hcc.2 e)),decide_eq_false hc];rfl
 rw[if_neg (by simp),hv];clear hv;have hf:=fit_succ hf0;have hZ:∀fr h,SP0 cr [.sc (.string vr),.ls 3 rn false,.ls 7 re false] fr h→PX (exec2 cx (callN cx M) (.seq (cL (cT 2 kCP)) (.seq (cL (cT 3 kCP)) (.seq (cL (cT 4 kCP)) X5))) (fr,h)) (if(ns.length:Int)=((es.length+1:Nat):Int)then(if es.any hopB=true then 1 else if(!eqS vr ⟨#[]⟩ && !wordS vr)=true then 6 else if(partsT ns es).any badN=true then 6 else if(partsT ns es).any badO=true then 26 else exprE ⟨vr,ns,es⟩ cr (partsT ns es))else 1):=
  fun fr h hS=>cp_2 M cr (es.any hopB) vr rn re _ _ fr h hS _ _ _ hqa hqb hf f2 fun fr hc _ hS=>cp_34 M cr _ (wordS vr) vr rn re _ _ _ fr h hS (f5 (hcc.2 hc)) rfl f4 fun fr hS=>hA fr h hS (hpl' (hcc.2 hc))
 generalize(Code.seq (cL (cT 2 kCP)) (.seq (cL (cT 3 kCP)) (.seq (cL (cT 4 kCP)) X5)))=Z at hZ⊢;generalize(if(ns.length:Int)=((es.length+1:Nat):Int)then _ else _)=V at hZ⊢;clear hf hcc hpl' f5 hA hqa hqb;simp[kCP,cT,cR,cL,Tryz.f138,f1];exact hZ _ _ ⟨by simp,by simp,by simp,rfl⟩
end
end Go.Proofs.YtmocfjnklfpnbaaGreatDoor
