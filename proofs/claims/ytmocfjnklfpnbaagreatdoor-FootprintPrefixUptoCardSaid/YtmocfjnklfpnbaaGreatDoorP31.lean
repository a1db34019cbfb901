/- The binder: a clause: the program's binder.clause. -/
import Derived.Test.YtmocfjnklfpnbaaGreatDoorP30
set_option linter.all false
set_option maxRecDepth 100000
namespace Go.Proofs.YtmocfjnklfpnbaaGreatDoor
open Go Go.Ae
section
attribute [local simp] aop aopW coldF extF putA ofConst flat scalarOp fastOp binFast intOp strOp guardX Ae.part rowOf szOk natOf lenA cls fillA newsOf isNilC cellX
set_option maxHeartbeats 32000000
noncomputable def kCL :Code:=(Tryz.f41.body).getD .skip
def Bs.set1 (s:Bs)(x:Sp):Bs:=(s.elem x.var (eqS x.label ⟨#[]⟩)).fail (chkB (s.elem x.var (eqS x.label ⟨#[]⟩)).now x.e false)
def Bs.unw1 (s:Bs)(c:Cp):Bs:=s.fail (chkB s.now c.e false)
def Bs.unw2 (s:Bs)(c:Cp):Bs:=if kndS s.now c.name=0 then s else s.fail 7
def Bs.unw (s:Bs)(c:Cp):Bs:=((s.unw1 c).unw2 c).intro c.name 4
def Bs.clause0 (s:Bs)(c:Cp):Bs:=
 if c.kind=1∨c.kind=5∨c.kind=6 then s.paths c
 else if c.kind=2 then s.unw c
 else if c.kind=3∨c.kind=4 then s.columns c
 else if c.kind=7 then c.sets.foldl Bs.set1 s
 else if c.kind=8 then c.names.foldl (fun s nm=>s.elem nm true) s
 else s
def Bs.clause (s:Bs)(c:Cp):Bs:=({s with old:=s.now}:Bs).clause0 c
theorem set1_ok {s:Bs}(h:OkS s)(x:Sp):OkS (s.set1 x):=(h.elem _ _).fail _
theorem sets_ok :∀(l:List Sp) {s:Bs},OkS s→OkS (l.foldl Bs.set1 s)
 | [],s,h=>h
 |x::l,s,h=>sets_ok l (set1_ok h x)
theorem names_ok :∀(l:List ByteArray) {s:Bs},OkS s→OkS (l.foldl (fun s nm=>s.elem nm true) s)
 | [],s,h=>h
 |x::l,s,h=>names_ok l (h.elem x true)
theorem items_ok :∀(l:List Ip) {s:Bs},OkS s→OkS (l.foldl Bs.item s)
 | [],s,h=>h
 |x::l,s,h=>items_ok l (item_ok h x).1
theorem clause_ok {s:Bs}(h:OkS s)(c:Cp):OkS (s.clause c):=by
 have h0:OkS {s with old:=s.now}:=⟨h.2,h.2⟩;unfold Bs.clause Bs.clause0;split
 ·exact(chks_ok _ (paths_ok c.kind _ h0).1).1
 ·split
  ·refine OkS.intro ?_ _ _;unfold Bs.unw2;split
   ·exact h0.fail _
   ·exact(h0.fail _).fail _
  ·split
   ·exact(chks_ok _ (chks_ok _ (items_ok _ (s:={({s with old:=s.now}:Bs)with now:=[]}) ⟨h.2,by simp⟩)).1).1
   ·split
    ·exact sets_ok _ h0
    ·split
     ·exact names_ok _ h0
     ·exact h0
def PN (id:Nat)(T:Bs)(h0:Hp)(r:Option (Out × St)):Prop:=∃fr' h',r=some (.normal,(fr',h'))∧BS id T h'∧Keep id h0 h'
theorem cl_8 (M id hc:Nat)(l:List ByteArray)(rows:List (List AV))(row:List AV)(hrow:row[20]?=some (.ls 1 rows false))(h0:Hp)(hq:rows.length=l.length)(hg:∀i:Nat,rows[i]?=(l[i]?).map fun s=> [.sc (.string s)])(hl:l.length≤1000000000)(hn:2≤M)(s:Bs)
 (fr:List AV) (h:Hp) (hS:BS id s h) (hs:OkS s) (hK:Keep id h0 h) (hlen:fr.length=94) (g0:gt fr 0= .pt id 0) (g3:gt fr 3= .pt hc 0) (hh:h[hc]?=some (.row row)):
 PN id (l.foldl (fun s nm=>s.elem nm true) s) h0 (exec2 cx (callN cx M) (cL (cR (cR (cR (cR (cR (cR (cR (cR (cR (cL (cT 3 kCL)))))))))))) (fr,h)):=by
 obtain⟨k2,e2⟩:∃k,M=k+2:=⟨M-2,by omega⟩;have fe:=fun b (s:Bs) nm h hS (hs:OkS s)=>bd_elem k2 b id s nm true h hS hs
 rw[←e2]at fe;clear e2 hn;generalize hTL:l.foldl (fun s nm=>s.elem nm true) s=TL;simp[kCL,cT,cR,cL,Tryz.f41,hlen,g0,g3,hh,hrow,hq];generalize hXX:exec2 cx (callN cx M) (.loop _) _=XX;refine loopE hXX
  (fun i st=>st.1.length=94∧gt st.1 0= .pt id 0∧gt st.1 84= .ls 1 rows false∧gt st.1 85= .sc (.int .i64 (l.length:Nat))∧gt st.1 86= .sc (.int .i64 (i:Nat))∧∃s',BS id s' st.2∧OkS s'∧Keep id h0 st.2∧(l.drop i).foldl (fun s nm=>s.elem nm true) s'=TL)
  (fun o st=>o= .exit 3∧BS id TL st.2∧Keep id h0 st.2)
  l.length (by simp;omega) ⟨by simp[hlen],by simp[g0],by simp[hlen],by simp[hlen],by simp[hlen],s,hS,hs,hK,hTL⟩ ?_ ?_
 ·clear hXX XX hTL hS hs hK hlen g0 g3 hh;rintro i fr hp hle ⟨hlen,g0,h1,h2,h3,s',hS,hs,hK,hTL⟩;simp only at hlen g0 h1 h2 h3 hS hK;by_cases hi:i<l.length
  ·obtain⟨x,hx,hr,hr'⟩:=row_get hg hi;have hf0:i≤1000000000000000:=by omega
   rw[drop_of hx,List.foldl_cons]at hTL;obtain⟨h',f1,hS',hK'⟩:=fe true s' x hp hS hs;have hs':=hs.elem x true;generalize s'.elem x true=s2 at *;have hf:=fit_succ hf0;simp[hlen,g0,h1,h2,h3,hi,hq,hr,hr',f1,hf];exact⟨s2,hS',hs',hK.trans hK',hTL⟩
  ·have hil:i=l.length:=Yc hle (Yb hi);subst hil;rw[Yd,List.foldl_nil]at hTL;subst hTL;simp[hlen,h2,h3];exact⟨hS,hK⟩
 ·rintro o fr' h' rfl ⟨rfl,hS,hK⟩;exact⟨fr',h',by simp,hS,hK⟩
theorem cl_7 (D d M id hc:Nat)(l:List Sp)(rows:List (List AV))(row:List AV)(hrow:row[19]?=some (.ls 13 rows false))(h0:Hp)(hq:rows.length=l.length)(hg:∀i:Nat,rows[i]?=(l[i]?).map encSp)(hl:l.length≤1000000000)(hb:∀x∈l,okE D d x.e)(hn:3*d+40≤M)(s:Bs)
 (fr:List AV) (h:Hp) (hS:BS id s h) (hs:OkS s) (hK:Keep id h0 h) (hlen:fr.length=94) (g0:gt fr 0= .pt id 0) (g3:gt fr 3= .pt hc 0) (hh:h[hc]?=some (.row row)):
 PN id (l.foldl Bs.set1 s) h0 (exec2 cx (callN cx M) (cL (cR (cR (cR (cR (cR (cR (cR (cL (cT 3 kCL)))))))))) (fr,h)):=by
 obtain⟨k1,e1⟩:∃k,M=k+1:=⟨M-1,by omega⟩;obtain⟨k2,e2⟩:∃k,M=k+2:=⟨M-2,by omega⟩;have fe:=fun b (s:Bs) nm ed h hS (hs:OkS s)=>bd_elem k2 b id s nm ed h hS hs
 have ff:=fun b (s:Bs) e h hS=>bd_fail k1 b id s e h hS
 have fc:=fun b (l:Sco) (y:AV) (h:Hp) (e:Ep) (he:okE D d e) (hB:Bld h 2 (coR l) y) (hs:l.length≤24)=>check_call D d M b l y h e false hB (by omega) he (by omega)
 rw[←e1]at ff;rw[←e2]at fe;clear e1 e2 hn;generalize hTL:l.foldl Bs.set1 s=TL;simp[kCL,cT,cR,cL,Tryz.f41,hlen,g0,g3,hh,hrow,hq];generalize hXX:exec2 cx (callN cx M) (.loop _) _=XX;refine loopE hXX
  (fun i st=>st.1.length=94∧gt st.1 0= .pt id 0∧gt st.1 58= .ls 13 rows false∧gt st.1 59= .sc (.int .i64 (l.length:Nat))∧gt st.1 60= .sc (.int .i64 (i:Nat))∧∃s',BS id s' st.2∧OkS s'∧Keep id h0 st.2∧(l.drop i).foldl Bs.set1 s'=TL)
  (fun o st=>o= .exit 1∧BS id TL st.2∧Keep id h0 st.2)
  l.length (by simp;omega) ⟨by simp[hlen],by simp[g0],by simp[hlen],by simp[hlen],by simp[hlen],s,hS,hs,hK,hTL⟩ ?_ ?_
 ·clear hXX XX hTL hS hs hK hlen g0 g3 hh;rintro i fr hp hle ⟨hlen,g0,h1,h2,h3,s',hS,hs,hK,hTL⟩;simp only at hlen g0 h1 h2 h3 hS hK;by_cases hi:i<l.length
  ·obtain⟨x,hx,hr,hr'⟩:=row_get hg hi;have hmem:=Zi hx;have hf0:i≤1000000000000000:=by omega
   rw[drop_of hx,List.foldl_cons]at hTL;change(l.drop (i+1)).foldl Bs.set1 ((s'.elem x.var (eqS x.label ⟨#[]⟩)).fail (chkB (s'.elem x.var (eqS x.label ⟨#[]⟩)).now x.e false))=TL at hTL;have hlt:=hS.lt;have hjid:hp.length≠id:=by omega
   have gp:(hp++[Blk.row (encSp x)])[hp.length]?=some (.row (encSp x)):=by simp
   have hKa:=hK.trans (Keep.app id hp [.row (encSp x)]);obtain⟨h1',f1,hS1,hK1⟩:=fe true s' x.var (eqS x.label ⟨#[]⟩) _ (hS.app [.row (encSp x)]) hs;have hs1:=hs.elem x.var (eqS x.label ⟨#[]⟩);have gp1:=hK1 _ _ gp hjid;have hKb:=hKa.trans hK1;obtain⟨h2',f2,hS2,hK2⟩:=ff false _ (chkB (s'.elem x.var (eqS x.label ⟨#[]⟩)).now x.e false) h1' hS1;have hs2:=hs1.fail (chkB (s'.elem x.var (eqS x.label ⟨#[]⟩)).now x.e false);generalize hd:(s'.elem x.var (eqS x.label ⟨#[]⟩)).fail (chkB (s'.elem x.var (eqS x.label ⟨#[]⟩)).now x.e false)=s2 at *;have hTL':=hTL;clear hTL hd;generalize s'.elem x.var (eqS x.label ⟨#[]⟩)=s1 at *;obtain⟨yo,yn,i0,⟨go,go'⟩,gn,gn'⟩:=hS1;have f3:=fc false s1.now yn h1' x.e (hb x hmem) gn hs1.2;have q3:=fun(ops:Array Oper) (dd:Tmp) (rest:List Oper) (fr:List AV) (h:Hp)=>opN_np (C:=cx) (cal:=callN cx M false) (ops:=ops) (fun v=>gn.np v) dd rest fr h
   clear go go' gn gn' hS hs hs1 hK hKa hK1 gp ff fe fc;generalize chkB s1.now x.e false=c at *;generalize s1.e=u at *;obtain⟨a0,a1,a2,a3,a4,a5,a6,a7,a8,he9⟩:=encX9 x.e;unfold encSp at hr hr' f1 gp1;rw[he9]at hr f1 gp1 f3;simp only[he9]at hr';have hsx:=spX13 (ev:=[.sc (.string x.var),.sc (.string x.key),.sc (.string x.label),.sc (.bool x.off),a0,a1,a2,a3,a4,a5,a6,a7,a8]) rfl;have hgs:∀k:Nat,(hp++[Blk.row [.sc (.string x.var),.sc (.string x.key),.sc (.string x.label),.sc (.bool x.off),a0,a1,a2,a3,a4,a5,a6,a7,a8]])[hp.length]?=some (.row [.sc (.string x.var),.sc (.string x.key),.sc (.string x.label),.sc (.bool x.off),a0,a1,a2,a3,a4,a5,a6,a7,a8]):=fun _=>by simp
   generalize hjp:hp.length=jp at *;generalize hHH:hp++[Blk.row [.sc (.string x.var),.sc (.string x.key),.sc (.string x.label),.sc (.bool x.off),a0,a1,a2,a3,a4,a5,a6,a7,a8]]=hp1 at *;have hgs:=hgs 0;have hf:=fit_succ hf0;simp[hlen,g0,h1,h2,h3,hi,hq,hr,hr',hsx,hHH,hjp,hgs,f1,gp1,i0,q3,f3,f2,hf];exact⟨s2,hS2,hs2,hKb.trans hK2,hTL'⟩
  ·have hil:i=l.length:=Yc hle (Yb hi);subst hil;rw[Yd,List.foldl_nil]at hTL;subst hTL;simp[hlen,h2,h3];exact⟨hS,hK⟩
 ·rintro o fr' h' rfl ⟨rfl,hS,hK⟩;exact⟨fr',h',by simp,hS,hK⟩
theorem encCp9 (c:Cp):∃a0 a1 a2 a3 a4 a5 a6 a7 a8,encX c.e=[a0,a1,a2,a3,a4,a5,a6,a7,a8]∧encCp c=ccR c.kind c.opt c.dist (tpR c.paths) (encXs c.wher) a0 a1 a2 a3 a4 a5 a6 a7 a8 c.name (ipR c.items) (opR c.order) c.skip c.limit (spR c.sets) (tsR c.names):=by
 obtain⟨a0,a1,a2,a3,a4,a5,a6,a7,a8,he9⟩:=encX9 c.e;refine⟨a0,a1,a2,a3,a4,a5,a6,a7,a8,he9,?_⟩;unfold encCp ccR;rw[he9];rfl
theorem cl_2 (D d M id hc:Nat)(c:Cp)(hb:BbC D d c)(hn:3*d+60≤M)(h0:Hp)(s:Bs)(fr:List AV)(h:Hp)(hS:BS id s h)(hs:OkS s)(hK:Keep id h0 h)(hlen:fr.length=94)(g0:gt fr 0= .pt id 0)(g3:gt fr 3= .pt hc 0)(hh:h[hc]?=some (.row (encCp c)))(hne:hc≠id):
 PN id (s.unw c) h0 (exec2 cx (callN cx M) (cL (cR (cR (cR (cL (cT 3 kCL)))))) (fr,h)):=by
 obtain⟨k1,e1⟩:∃k,M=k+1:=⟨M-1,by omega⟩;obtain⟨k2,e2⟩:∃k,M=k+2:=⟨M-2,by omega⟩;have ff:=fun b (s:Bs) e h hS=>bd_fail k1 b id s e h hS
 have fi:=fun b (s:Bs) nm k h hS (hs:OkS s)=>bd_intro k2 b id s nm k h hS (by have:=hs.2;omega)
 have fk:=fun b (l:Sco) (y:AV) (h:Hp) nm (hB:Bld h 2 (coR l) y) (hs:l.length≤24)=>kind_call k1 b l y h nm hB (by omega)
 have fc:=fun b (l:Sco) (y:AV) (h:Hp) (hB:Bld h 2 (coR l) y) (hs:l.length≤24)=>check_call D d M b l y h c.e false hB (by omega) hb.e (by omega)
 rw[←e1]at ff fk;rw[←e2]at fi;clear e1 e2 hn hb;obtain⟨a0,a1,a2,a3,a4,a5,a6,a7,a8,he9,hcc⟩:=encCp9 c;have hr14:(encCp c)[14]?=some (.sc (.string c.name)):=by rw[hcc];rfl
 have hr5:((encCp c).drop 5).take 9=[a0,a1,a2,a3,a4,a5,a6,a7,a8]:=by rw[hcc];rfl
 have hcl:(encCp c).length=21:=by simp[encCp,encX_length]
 have hr14':∀k,(encCp c)[14]'k= .sc (.string c.name):=fun kx=>by obtain⟨_,e⟩:=Za.1 hr14;exact e
 clear hcc;obtain⟨h1,f1,hS4,hK4⟩:=ff false s (chkB s.now c.e false) _ hS;obtain⟨yo,yn,i0,⟨go,go'⟩,gn,gn'⟩:=hS;have f2:=fc false s.now yn _ gn hs.2;rw[he9]at f2;have q1:=fun(ops:Array Oper) (dd:Tmp) (rest:List Oper) (fr:List AV) (h:Hp)=>opN_np (C:=cx) (cal:=callN cx M false) (ops:=ops) (fun v=>gn.np v) dd rest fr h
 change BS id (s.unw1 c) h1 at hS4;have hs4:OkS (s.unw1 c):=hs;have hh2:=hK4 _ _ hh hne;have hKb:=hK.trans hK4;unfold Bs.unw;generalize s.unw1 c=s1 at *;clear go go' gn gn';have hS5:=hS4;obtain⟨yo1,yn1,i1,⟨go,go'⟩,gn,gn'⟩:=hS5;have f3:=fk false s1.now yn1 h1 c.name gn hs4.2;have q2:=fun(ops:Array Oper) (dd:Tmp) (rest:List Oper) (fr:List AV) (h:Hp)=>opN_np (C:=cx) (cal:=callN cx M false) (ops:=ops) (fun v=>gn.np v) dd rest fr h
 clear go go' gn gn';obtain⟨h2,f4,hS6,hs6,hK6⟩:∃h2,(kndS s1.now c.name=0∧h2=h1∨kndS s1.now c.name≠0∧callN cx M true 78 [.pt id 0,.sc (.int .i64 7)] h1=some (.tp [],h2))∧BS id (s1.unw2 c) h2∧OkS (s1.unw2 c)∧Keep id h1 h2:=by
  unfold Bs.unw2;by_cases kk:kndS s1.now c.name=0
  ·rw[if_pos kk];exact⟨h1,.inl ⟨kk,rfl⟩,hS4,hs4,Keep.refl _ _⟩
  ·rw[if_neg kk];obtain⟨h2,f4,a,b⟩:=ff true s1 7 h1 hS4;exact⟨h2,.inr ⟨kk,f4⟩,a,hs4,b⟩
 have hh3:=hK6 _ _ hh2 hne;have hKc:=hKb.trans hK6;generalize s1.unw2 c=s2 at *;obtain⟨h3,f6,hS8,hK8⟩:=fi true s2 c.name 4 h2 hS6 hs6;have hKd:=hKc.trans hK8;generalize s2.intro c.name 4=s3 at *;generalize kndS s1.now c.name=k at f3 f4;generalize chkB s.now c.e false=cc at f1 f2;generalize encCp c=row at *;generalize s.e=u0 at *;generalize s1.e=u1 at *;clear hS4 hS6 hK hK4 hK6 hK8 hKb hKc hs hs4 hs6 ff fi fk fc;rcases f4 with⟨rfl,rfl⟩|⟨kk,f4⟩
 ·unfold PN;simp[kCL,cT,cR,cL,Tryz.f41,hlen,g0,g3,hh,hr5,hcl,i0,q1,f2,f1,hh2,hr14,hr14',i1,q2,f3,f6];exact⟨_,_,⟨rfl,rfl⟩,hS8,hKd⟩
 ·unfold PN;simp[kCL,cT,cR,cL,Tryz.f41,hlen,g0,g3,hh,hr5,hcl,i0,q1,f2,f1,hh2,hr14,hr14',i1,q2,f3,kk,f4,hh3,f6];exact⟨_,_,⟨rfl,rfl⟩,hS8,hKd⟩
theorem PB_block {id:Nat}{T:Bs}{h0:Hp}{r:Option (Out × St)}(h:PN id T h0 r):PB id T h0 (blockX 0 r):=by
 obtain⟨fr',h',rfl,hS,hK⟩:=h;exact⟨h',by simp[resR,blockX],hS,hK⟩
theorem bd_clause1 (D d M id hc:Nat)(c:Cp)(hb:BbC D d c)(hn:3*d+60≤M)(h0:Hp)(s:Bs)(fr:List AV)(h:Hp)(hS:BS id s h)(hs:OkS s)(hK:Keep id h0 h)(hlen:fr.length=94)(g0:gt fr 0= .pt id 0)(g3:gt fr 3= .pt hc 0)(g16:gt fr 16= .sc (.int .i64 c.kind))(hh:h[hc]?=some (.row (encCp c)))(hne:hc≠id):
 PB id (s.clause0 c) h0 (exec2 cx (callN cx M) (cT 3 kCL) (fr,h)):=by
 have fpa:=fun b=>bd_paths D d M b id s c h hS hs hb (by omega)
 have fco:=fun b=>bd_columns D d M b id s c h hS hs hb (by omega)
 have f2:=fun fr hlen g0 g3=>cl_2 D d M id hc c hb hn h0 s fr h hS hs hK hlen g0 g3 hh hne
 have f7:=fun fr hlen g0 g3=>cl_7 D d M id hc c.sets (spR c.sets) (encCp c) (row15 c).2.2.1 h0 (spR_length _) (spR_get _) hb.n5 hb.sets (by omega) s fr h hS hs hK hlen g0 g3 hh
 have f8:=fun fr hlen g0 g3=>cl_8 M id hc c.names (tsR c.names) (encCp c) (row15 c).2.2.2 h0 (tsR_length _) (tsR_get _) hb.n6 (by omega) s fr h hS hs hK hlen g0 g3 hh
 rw[show cT 3 kCL= .block 0 (.seq (cL (cL (cT 3 kCL))) (.cond (.tmp 17) (cL (cR (cL (cT 3 kCL)))) (.seq (cL (cR (cR (cL (cT 3 kCL))))) (.cond (.tmp 24) (cL (cR (cR (cR (cL (cT 3 kCL)))))) (.seq (cL (cR (cR (cR (cR (cL (cT 3 kCL))))))) (.cond (.tmp 49) (cL (cR (cR (cR (cR (cR (cL (cT 3 kCL)))))))) (.seq (cL (cR (cR (cR (cR (cR (cR (cL (cT 3 kCL))))))))) (.cond (.tmp 55) (cL (cR (cR (cR (cR (cR (cR (cR (cL (cT 3 kCL)))))))))) (.seq (cL (cR (cR (cR (cR (cR (cR (cR (cR (cL (cT 3 kCL))))))))))) (.cond (.tmp 81) (cL (cR (cR (cR (cR (cR (cR (cR (cR (cR (cL (cT 3 kCL)))))))))))) .skip)))))))))) by kernel_rfl];generalize cL (cR (cR (cR (cL (cT 3 kCL)))))=Z2 at f2⊢;generalize cL (cR (cR (cR (cR (cR (cR (cR (cL (cT 3 kCL)))))))))=Z7 at f7⊢;generalize cL (cR (cR (cR (cR (cR (cR (cR (cR (cR (cL (cT 3 kCL)))))))))))=Z8 at f8⊢;have hcl:(encCp c).length=21:=by simp[encCp,encX_length]
 have hct:(encCp c).take 21=encCp c:=List.take_of_length_le (by omega);unfold Bs.clause0;by_cases k156:c.kind=1∨c.kind=5∨c.kind=6
 ·rw[if_pos k156];obtain⟨h',f1,hS',hK'⟩:=fpa true;refine⟨h',?_,hS',hK.trans hK'⟩;clear f2 f7 f8 fpa fco;generalize encCp c=row at *;generalize c.kind=kd at *;rcases k156 with rfl|rfl|rfl<;>simp[kCL,cT,cR,cL,Tryz.f41,hlen,g0,g3,g16,hh,hcl,hct,f1,resR]
 rw[if_neg k156];have k1:¬c.kind=1:=fun e=>k156 (.inl e)
 have k5:¬c.kind=5:=fun e=>k156 (.inr (.inl e))
 have k6:¬c.kind=6:=fun e=>k156 (.inr (.inr e))
 by_cases k2:c.kind=2
 ·rw[if_pos k2];clear f7 f8 fpa fco;generalize encCp c=row at *;generalize c.kind=kd at *;subst k2;simp[kCL,cT,cR,cL,Tryz.f41,hlen,g0,g3,g16];exact PB_block (f2 _ (by simp[hlen]) (by simp[g0]) (by simp[g3]))
 rw[if_neg k2];by_cases k34:c.kind=3∨c.kind=4
 ·rw[if_pos k34];obtain⟨h',f1,hS',hK'⟩:=fco true;refine⟨h',?_,hS',hK.trans hK'⟩;clear f2 f7 f8 fpa fco;generalize encCp c=row at *;generalize c.kind=kd at *;rcases k34 with rfl|rfl<;>simp[kCL,cT,cR,cL,Tryz.f41,hlen,g0,g3,g16,hh,hcl,hct,f1,resR]
 rw[if_neg k34];have k3:¬c.kind=3:=fun e=>k34 (.inl e)
 have k4:¬c.kind=4:=fun e=>k34 (.inr e)
 by_cases k7:c.kind=7
 ·rw[if_pos k7];clear f2 f8 fpa fco;generalize encCp c=row at *;generalize c.kind=kd at *;subst k7;simp[kCL,cT,cR,cL,Tryz.f41,hlen,g0,g3,g16];exact PB_block (f7 _ (by simp[hlen]) (by simp[g0]) (by simp[g3]))
 rw[if_neg k7];by_cases k8:c.kind=8
 ·rw[if_pos k8];clear f2 f7 fpa fco;generalize encCp c=row at *;generalize c.kind=kd at *;subst k8;simp[kCL,cT,cR,cL,Tryz.f41,hlen,g0,g3,g16];exact PB_block (f8 _ (by simp[hlen]) (by simp[g0]) (by simp[g3]))
 rw[if_neg k8];clear f7 f8 fpa fco;generalize encCp c=row at *;generalize c.kind=kd at *;simp[kCL,cT,cR,cL,Tryz.f41,hlen,g0,g3,g16,k1,k2,k3,k4,k5,k6,k7,k8];exact⟨h,by simp[resR],hS,hK⟩
theorem bd_clause (D d n:Nat)(t:Bool)(id:Nat)(s:Bs)(c:Cp)(h:Hp)(hS:BS id s h)(hs:OkS s)(hb:BbC D d c)(hn:3*d+70≤n):
 ∃h',callN cx n t 41 [.pt id 0,.ag (encCp c)] h=some (.tp [],h')∧BS id (s.clause c) h'∧Keep id h h':=by
 obtain⟨M,rfl⟩:∃m,n=m+1:=⟨n-1,by omega⟩;rw[call_inl (n:=M) ⟨Tryz.f41.ntmps,(Tryz.f41.body).getD .skip,[]⟩ rfl (by kernel_rfl) (by kernel_rfl) (by kernel_rfl) (by kernel_rfl) (by simp[Tryz.f41])];show PB id (s.clause c) h (exec2 cx (callN cx M) kCL _);rw[show kCL= .seq (cL (cT 0 kCL)) (.seq (cL (cT 1 kCL)) (.seq (cL (cT 2 kCL)) (cT 3 kCL))) by kernel_rfl];have hlt:=hS.lt;obtain⟨yo,yn,i0,⟨go,go'⟩,gn,gn'⟩:=hS;have hh0:(h++[Blk.row (encCp c)])[h.length]?=some (.row (encCp c)):=by simp
 have i1:=get_app [.row (encCp c)] i0;have hS1:BS id {s with old:=s.now} ((h++[Blk.row (encCp c)]).set id (.row [yn,yn,.sc (.int .i64 s.e)])):=
  ⟨yn,yn,get_set_self i1,⟨(gn.grow _).keep (Keep.set _ _ _) gn',gn'⟩,(gn.grow _).keep (Keep.set _ _ _) gn',gn'⟩
 have hrest:∀fr,fr.length=94→gt fr 0= .pt id 0→gt fr 3= .pt h.length 0→gt fr 16= .sc (.int .i64 c.kind)→PB id (s.clause c) h (exec2 cx (callN cx M) (cT 3 kCL) (fr,(h++[Blk.row (encCp c)]).set id (.row [yn,yn,.sc (.int .i64 s.e)]))):=
  fun fr hlen g0 g3 g16=>bd_clause1 D d M id h.length c hb (by omega) h {s with old:=s.now} fr _ hS1 ⟨hs.2,hs.2⟩ ((Keep.app _ _ _).trans (Keep.set _ _ _)) hlen g0 g3 g16 (get_set_ne hh0 (by omega)) (by omega)
 have hh1:((h++[Blk.row (encCp c)]).set id (.row [yn,yn,.sc (.int .i64 s.e)]))[h.length]?=some (.row (encCp c)):=get_set_ne hh0 (by omega);have q1:=fun(ops:Array Oper) (dd:Tmp) (rest:List Oper) (fr:List AV) (h:Hp)=>opP_np (C:=cx) (cal:=callN cx M true) (ops:=ops) (fun v=>gn.np v) dd rest fr h
 have hcls:cls yn=some [yn]:=by rcases gn with⟨_,rfl⟩|⟨_,j,rfl,_⟩<;>rfl
 unfold cls at hcls;generalize cT 3 kCL=Z at hrest⊢;generalize s.clause c=T at hrest⊢;obtain⟨tl,hct,htl⟩:=encCp_tail c;clear hh0 hS1;rw[hct]at i1 hrest hh1⊢;generalize c.kind=kd at *;generalize s.e=u at *;generalize hHH:(h++[Blk.row (AV.sc (.int .i64 kd)::tl)]).set id (.row [yn,yn,.sc (.int .i64 u)])=H at *;simp[kCL,cT,cR,cL,Tryz.f41,htl,i1,q1,hcls,splice,hHH,hh1];exact hrest _ (by simp) (by simp) (by simp) (by simp)
def scopeL :List Cp→Bs→Nat→Sco × Int × Int
 | [],s,_=>(s.now,0,0)
 |c::l,s,i=>if(s.clause c).e=0 then scopeL l (s.clause c) (i+1)else([],(i:Int),(s.clause c).e)
def cutN (m:Nat)(n:Int):Nat:=min (max n 0).toNat m
def scopeE (l:List Cp)(n:Int):Sco × Int × Int:=if(queryE l).2=0 then scopeL (l.take (cutN l.length n)) ⟨[],[],0⟩ 0 else([],(queryE l).1,(queryE l).2)
theorem scopeL_len :∀(l:List Cp) (s:Bs) (i:Nat),OkS s→(scopeL l s i).1.length≤24
 | [],s,i,h=>h.2
 |
  c::l,s,i,h=>by
  rw[scopeL];split
  ·exact scopeL_len l _ _ (clause_ok h c)
  ·simp
theorem scopeE_len (l:List Cp)(n:Int):(scopeE l n).1.length≤24:=by
 unfold scopeE;split
 ·exact scopeL_len _ _ _ ⟨by simp,by simp⟩
 ·simp
theorem m_CloneN (n:Nat)(b:Bool)(h:Hp):callN cx (n+1) b 42 [.sc (.slice none 0 0)] h=some (.sc (.slice none 0 0),h):=by
 kernel_rfl
theorem app_empty {t:TypeId}{i:Ti}{sz bytes:Nat}{ag:Bool}{ez:List Value}(hT:cx.T t=some i)(hk:i.kd= .slice sz ag bytes ez)(h:Hp)(old:List AV)(id n:Nat)(hid:h[id]?=some (.row old))(ho:old.length=n*sz)(hsz:0<sz)(hn:0<n)(hn1:n≤1000000000000000)(hb:n*bytes≤140737488355328):
 appendA cx (h++[.row []]) t (.sl h.length sz 0 0 false) (.sl id sz 0 n false)=some (.sl (h.length+1) sz 0 n false,(h++[Blk.row []]).set h.length .dead++[.row old]):=by
 obtain⟨size,agg,zero,kd⟩:=i;simp only at hk;subst hk;have hidl:id<h.length:=(Za.1 hid).1;have hr:rowOf (h++[Blk.row []]) id=some old:=by unfold rowOf;rw[Zd hidl,hid]
 have hn:newsOf (h++[Blk.row []]) (.sl id sz 0 n false)=some (n,old):=by
  simp only[newsOf,hr];rw[if_pos (by omega),Yf,List.take_of_length_le (by omega)]
 have hpos:0<n*sz:=Nat.mul_pos (by omega) hsz;unfold appendA;rw[hT];simp only[szOk,beq_self_eq_true,Bool.and_self,if_true,hn];rw[if_neg (by omega)];have h0:(h++[Blk.row []])[h.length]?=some (.row []):=by simp
 simp only[h0];rw[if_neg (by simp;omega),if_pos ⟨trivial,by simp,by unfold maxLen;omega,by rw[Nat.zero_add];exact hb⟩];simp
theorem m_CloneS (n:Nat)(b:Bool)(j:Nat)(l:Sco)(h:Hp)(hl:l.length≤24)(hne:coR l≠ [])(hj:h[j]?=some (.row (coR l).flatten)):callN cx (n+1) b 42 [.sl j 2 0 (coR l).length false] h=some (.sl (h.length+1) 2 0 (coR l).length false,(h++[Blk.row []]).set h.length .dead++[.row (coR l).flatten]):=by
 rw[call_inl (n:=n) ⟨Tryz.f42.ntmps,(Tryz.f42.body).getD .skip,[.tmp 2]⟩ rfl (by kernel_rfl) (by kernel_rfl) (by kernel_rfl) (by kernel_rfl) (by simp[Tryz.f42])];have hq:=coR_length l;have f1:=app_empty (t:=118) T_qSc rfl h (coR l).flatten j (coR l).length hj (flatten_length _ (coR_all l).1) (by omega) (List.length_pos_iff.2 hne) (by omega) (by omega);generalize(coR l).flatten=F at *;generalize(coR l).length=m at *;simp[Tryz.f42,f1,someA]
theorem clone_bld (n:Nat)(b:Bool)(l:Sco)(y:AV)(h:Hp)(hl:l.length≤24)(hB:Bld h 2 (coR l) y):∃y' h',callN cx (n+1) b 42 [y] h=some (y',h')∧Bld h' 2 (coR l) y':=by
 rcases hB with⟨h0,rfl⟩|⟨hne,j,rfl,hj⟩
 ·exact⟨_,_,m_CloneN n b h,.inl ⟨h0,rfl⟩⟩
 ·refine⟨_,_,m_CloneS n b j l h hl hne hj,.inr ⟨hne,_,rfl,?_⟩⟩;rw[Zf (by simp)];simp
noncomputable def kSC :Code:=(Tryz.f16.body).getD .skip
def PS (r:Option (Out × St))(T:Sco × Int × Int):Prop:=∃y h',finX [.tmp 4,.tmp 5,.tmp 6] r=some (.tp [y,.sc (.int .i64 T.2.1),.sc (.int .i64 T.2.2)],h')∧Bld h' 2 (coR T.1) y
theorem sc_3 (D d M:Nat)(l:List Cp)(n:Int)(T:Sco × Int × Int)(hb:∀c∈l,BbC D d c)(hl:l.length≤1000000)(hn:3*d+80≤M)(hT:scopeL (l.take (cutN l.length n)) ⟨[],[],0⟩ 0=T)(fr:List AV)(hlen:fr.length=48)(g1:gt fr 1= .sc (.int .i64 n))(g2:gt fr 2= .pt 0 0)(g9:gt fr 9= .pt 1 0):
 PS (exec2 cx (callN cx M) (cT 3 kSC) (fr,[.row [.ls 21 (cpR l) false],.row [.sc (.slice none 0 0),.sc (.slice none 0 0),.sc (.int .i64 0)]])) T:=by
 obtain⟨k1,e1⟩:∃k,M=k+1:=⟨M-1,by omega⟩;have fcl:=fun(s:Bs) (c:Cp) h hS hs hc=>bd_clause D d M true 1 s c h hS hs hc (by omega)
 have fcn:=fun(l:Sco) (y:AV) (h:Hp) hl hB=>clone_bld k1 true l y h hl hB
 rw[←e1]at fcn;clear e1 hn;have hTl:=scopeL_len (l.take (cutN l.length n)) ⟨[],[],0⟩ 0 ⟨by simp,by simp⟩;rw[hT]at hTl;have hq:=cpR_length l;have hg:∀i:Nat,((cpR l).take (cutN l.length n))[i]?=((l.take (cutN l.length n))[i]?).map encCp:=by intro i;rw[show(cpR l).take (cutN l.length n)=(l.take (cutN l.length n)).map encCp by unfold cpR;rw[List.map_take],Zs]
 have hb':∀c∈l.take (cutN l.length n),BbC D d c:=fun c hc=>hb c (List.mem_of_mem_take hc)
 have hlm:(l.take (cutN l.length n)).length=cutN l.length n:=by rw[List.length_take];unfold cutN;omega
 have hT0:=hT;generalize hm:cutN l.length n=m at *;have hml:m≤l.length:=by rw[←hm];unfold cutN;omega
 have hm2:(if(l.length:Int)< (if n<0 then 0 else n)then(l.length:Int)else if n<0 then 0 else n)=(m:Int):=by
  rw[←hm];unfold cutN;split<;>split<;>omega
 have hm2':∀q:Int,q=(l.length:Int)→(if q< (if n<0 then 0 else n)then q else if n<0 then 0 else n)=(m:Int):=fun q hq=>by rw[hq];exact hm2
 have hrl:(cpR l).length=l.length:=hq;generalize cpR l=rows at *;have hsl:sliceA (.ls 21 rows false) none (some (.sc (.int .i64 (m:Int)))) none=some (.ls 21 (rows.take m) false):=by
  simp only[sliceA,lenA,boundA,natOf,Bool.false_and];simp;omega
 have hqt:(rows.take m).length=m:=by rw[List.length_take];omega
 clear hm;generalize rows.take m=rt at *;generalize hlml:l.take m=lm at *;generalize hL:(l.length:Int)=L at *;simp[kSC,cT,cR,cL,Tryz.f16,hlen,g1,g2,g9,hq,hL,hm2,hsl,hqt];generalize hXX:exec2 cx (callN cx M) (.loop _) _=XX;refine loopE hXX
  (fun i st=>st.1.length=48∧gt st.1 9= .pt 1 0∧gt st.1 29= .ls 21 rt false∧gt st.1 30= .sc (.int .i64 (m:Nat))∧gt st.1 31= .sc (.int .i64 (i:Nat))∧∃s',BS 1 s' st.2∧OkS s'∧scopeL (lm.drop i) s' i=T)
  (fun o st=>st.1.length=48∧((o= .exit 0∧gt st.1 9= .pt 1 0∧∃s',BS 1 s' st.2∧T=(s'.now,0,0))∨(o= .ret∧gt st.1 4= .sc (.slice none 0 0)∧gt st.1 5= .sc (.int .i64 T.2.1)∧gt st.1 6= .sc (.int .i64 T.2.2)∧T.1=[])))
  m (by simp;omega) ⟨by simp[hlen],by simp[g9],by simp[hlen],by simp[hlen],by simp[hlen],⟨[],[],0⟩,⟨.sc (.slice none 0 0),.sc (.slice none 0 0),rfl,⟨.inl ⟨rfl,rfl⟩,by simp⟩,.inl ⟨rfl,rfl⟩,by simp⟩,⟨by simp,by simp⟩,hT0⟩ ?_ ?_
 ·clear hXX XX hT0 hlen g1 g2 g9 hTl hm2 hm2' hsl hrl hL;rintro i fr hp hle ⟨hlen,g9,h1,h2,h3,s',hS,hs,hT⟩;simp only at hlen g9 h1 h2 h3 hS;by_cases hi:i<m
  ·obtain⟨x,hx,hr,hr'⟩:=row_get hg (by omega:i<lm.length);have hmem:=Zi hx;have hf0:i≤1000000000000000:=by omega
   rw[drop_of hx,scopeL]at hT;obtain⟨h',f1,hS',hK'⟩:=fcl s' x _ (hS.app [.row (encCp x)]) hs (hb' x hmem);have hs':=clause_ok hs x;generalize s'.clause x=s2 at *;have hS2:=hS';obtain⟨yo,yn,i0,_⟩:=hS';have i0':=get_ix i0;have hev:(encCp x).length=21:=by simp[encCp,encX_length]
   generalize encCp x=ev at *;have hev9:ev.take 21=ev:=List.take_of_length_le (by omega);have hsx:=spY21 hev;have hf:=fit_succ hf0;by_cases he:s2.e=0
   ·rw[if_pos he]at hT;rw[he]at i0 i0';simp[hlen,g9,h1,h2,h3,hi,hqt,hr,hr',hsx,hev,hev9,f1,i0,i0',hf];exact⟨s2,hS2,hs',hT⟩
   ·rw[if_neg he]at hT;subst hT;generalize s2.e=u at *;simp[hlen,g9,h1,h2,h3,hi,hqt,hr,hr',hsx,hev,hev9,f1,i0,i0',he]
  ·have hil:i=m:=Yc hle (Yb hi);subst hil;rw[Zt (by omega),scopeL]at hT;simp[hlen,h2,h3];exact⟨g9,s',hS,hT.symm⟩
 ·rintro o fr' h' rfl ⟨hlen,⟨rfl,g9,s',hS,rfl⟩|⟨rfl,h4,h5,h6,h0⟩⟩
  ·simp only at hlen g9 hS hTl;obtain⟨yo,yn,i0,⟨go,go'⟩,gn,gn'⟩:=hS;have i0':=get_ix i0;obtain⟨y',h2,f1,hB⟩:=fcn s'.now yn h' hTl gn;have q1:=fun(ops:Array Oper) (dd:Tmp) (rest:List Oper) (fr:List AV) (h:Hp)=>opP_np (C:=cx) (cal:=callN cx M true) (ops:=ops) (fun v=>gn.np v) dd rest fr h
   have q2:=fun(ops:Array Oper) (dd:Tmp) (rest:List Oper) (fr:List AV) (h:Hp)=>opP_np (C:=cx) (cal:=callN cx M true) (ops:=ops) (fun v=>hB.np v) dd rest fr h
   refine⟨y',h2,?_,hB⟩;simp[hlen,g9,i0,i0',q1,q2,f1]
  ·simp only at h4 h5 h6;refine⟨.sc (.slice none 0 0),h',?_,.inl ⟨by rw[h0];rfl,rfl⟩⟩;simp[h4,h5,h6]
end
end Go.Proofs.YtmocfjnklfpnbaaGreatDoor
