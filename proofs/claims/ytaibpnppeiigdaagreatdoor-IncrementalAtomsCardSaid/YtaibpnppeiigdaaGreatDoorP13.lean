/- Part of the proof. -/
import Derived.Test.YtaibpnppeiigdaaGreatDoorP12
set_option linter.all false
set_option maxHeartbeats 8000000
set_option maxRecDepth 100000
namespace Go.Proofs.YtaibpnppeiigdaaGreatDoor
open Go Go.Ae Go.Proofs.Tryz
section
attribute [local simp] zi da XM
structure iP where
 key:ByteArray
 v:V
def lM (p:iP):LA:= .sc (.string p.key)::enc p.v
def iy (l:List iP):List LA:=l.map lM
def iE (l:List iP)(z:Bool):AV:= .ls 6 (iy l) z
@[simp] def ac7 (p:iP):(lM p).length=6:=by simp[lM]
def dW (l:List iP):(iy l).length=l.length:=by simp[iy]
def qo (l:List iP)(i:Nat):(iy l)[i]?=(l[i]?).map lM:=by simp[iy]
def i6 (l:List iP):List ByteArray:=l.map iP.key
def Lu (l:List iP):LA:=l.map λp=> .sc (.string p.key)
def FL (l:List iP):AV:=match l with
 | []=> .sc (.slice none 0 0)
 |_::_=>iK (i6 l) false
@[simp] def ab7 (h:Hp)(a b d:fp)(id:Nat):((h++[a]).set id d++[b])[h.length+1]?=some b:=by rw[Zf (by simp)];simp
def TM {h:Hp}{n id len:Nat}{vs:List Value}(hx:h[id]?=some (.row (vs.map .sc)))(cU:vs.length=len):dq h (n+1) (.sl id 1 0 len false)=some (.ls 1 (vs.map λx=> [.sc x]) false):=by
 subst cU;have e:∀l:List Value,(l.map AV.sc).mapM (dq h n)=some (l.map AV.sc):=by
  intro l
  induction l with
  |nil=>rfl
  |cons x l ih=>rw[Xi,Zo,ih,TN];rfl
 have e2:((vs.map AV.sc).drop 0).take (vs.length*1)=vs.map AV.sc:=by
  rw[List.drop_zero,Ys (by simp)]
 have e3:0+vs.length*1<=(vs.map AV.sc).length:=by simp
 simp only[dq,gI,hx,e3,if_true,e2,e,Xq,Zc,AV.ls.injEq,true_and,and_true];apply Xe;intro i;by_cases hi:i<vs.length
 .simp only[Zs,Xp hi,Zb hi,Xq,Nat.mul_one];rw[Zm (by simpa using hi)];simp
 .simp[hi]
def adq (l:List iP):Lu l=(l.map λp=>Value.string p.key).map .sc:=by simp[Lu]
def HS {h:Hp}{n id len:Nat}{l:List iP}(hl:l≠ [])(hx:h[id]?=some (.row (Lu l)))(cU:l.length=len):dq h (n+1) (.sl id 1 0 len false)=some (FL l):=by
 rw[adq]at hx;rw[TM hx (by simp[cU])];cases l with
 |nil=>exact absurd rfl hl
 |cons p l=>simp[FL,iK,gP,i6]
def xa {t:TypeId}{i:Ti}{sz bytes:Nat}{ag:Bool}{ez:List Value}(hT:cx.T t=some i)(hk:i.kd= .slice sz ag bytes ez)(h:Hp)(cs:LA)(hc:cs.length=sz)(hb:bytes<=1000):
 eE cx (h++[.row cs]) t (.sc (.slice none 0 0)) (.sl h.length sz 0 1 false)=some (.sl (h.length+1) sz 0 1 false,h++[.row cs,.row cs]):=by
 obtain⟨size,agg,zero,kd⟩:=i;simp only at hk;subst hk;have hr:gI (h++[fp.row cs]) h.length=some cs:=by simp[gI]
 have hn:gY (h++[fp.row cs]) (.sl h.length sz 0 1 false)=some (1,cs):=by
  simp only[gY,hr];rw[dd (by omega),List.drop_zero,Nat.one_mul,Ys (by omega)]
 unfold eE;rw[hT];simp only[jL,beq_self_eq_true,Bool.and_self,if_true,hn];rw[db (by omega),dd (by unfold maxLen;omega)];simp
def Ay {t:TypeId}{i:Ti}{sz bytes:Nat}{ag:Bool}{ez:List Value}(hT:cx.T t=some i)(hk:i.kd= .slice sz ag bytes ez)(h:Hp)(cs old:LA)(id n:Nat)(dC:h[id]?=some (.row old))(hc:cs.length=sz)(ho:old.length=n*sz)(gC:0<sz)(hn1:n<=1000000000000000)(hb:(n+1)*bytes<=140737488355328):
 eE cx (h++[.row cs]) t (.sl id sz 0 n false) (.sl h.length sz 0 1 false)=some (.sl (h.length+1) sz 0 (n+1) false,(h++[fp.row cs]).set id .dead++[.row (old++cs)]):=by
 obtain⟨size,agg,zero,kd⟩:=i;simp only at hk;subst hk;have jD:id<h.length:=(Za.1 dC).1;have hr:gI (h++[fp.row cs]) h.length=some cs:=by simp[gI]
 have hn:gY (h++[fp.row cs]) (.sl h.length sz 0 1 false)=some (1,cs):=by
  simp only[gY,hr];rw[dd (by omega),List.drop_zero,Nat.one_mul,Ys (by omega)]
 have Dp:(h++[fp.row cs])[id]?=some (.row old):=by rw[Zd jD];exact dC
 have hmul:(n+1)*sz=n*sz+sz:=by rw[Xw,Nat.one_mul]
 unfold eE;rw[hT];simp only[jL,beq_self_eq_true,Bool.and_self,if_true,hn,Dp];rw[db (by omega),db (by omega),dd ⟨trivial,ho,by unfold maxLen;omega,hb⟩];simp
def TP (n:Nat)(b:Bool)(l:List iP)(z:Bool)(h:Hp)(hl:l.length<=1000):cW cx (n+1) b 223 [iE l z] h=some (FL l,h):=by
 suffices H:∃r,r=FL l/\∀b h,cW cx (n+1) b 223 [iE l z] h=some (r,h) by
  obtain⟨r,rfl,hr⟩:=H;exact hr b h
 refine iQ (f:=223) (n:=n) (args:=[iE l z]) (λr=>r=FL l) ⟨f223.ntmps,(f223.body).getD .skip,[.tmp 2]⟩ (by kernel_rfl) (by kernel_rfl) rfl (by kernel_rfl) (by simp[f223]) rfl ?_;have hq:=dW l;have hg:=qo l;unfold iE;generalize iy l=cY at hq hg;simp[f223];refine eC (C:=cx) (G:=λr=>∃r0 h',eQ _ (eR _ _ (dL _ r) _)=some (r0,h')/\dq h' 8 r0=some (FL l))
  (λi s=>s.1.length=20/\gt s.1 0= .ls 6 cY z/\gt s.1 4=i/\((i=0/\gt s.1 3=())\/(0<i/\∃id cs,gt s.1 3= .sl id 1 0 i false/\s.2[id]?=some (.row cs)/\cs=Lu (l.take i))))
  (λo s=>s.1.length=20/\o= .exit 0/\((l=[]/\gt s.1 3=())\/(l≠ []/\∃id,gt s.1 3= .sl id 1 0 l.length false/\s.2[id]?=some (.row (Lu l))))) l.length (by simp;omega) (by simp) ?_ ?_
 .rintro i fr h eG ⟨cU,h0,h4,h3⟩;simp only at cU h0 h4 h3;by_cases hi:i<l.length
  .obtain⟨x,hx⟩:=eA hi;have hr:cY[i]?=some (.sc (.string x.key)::enc x.v):=by rw[hg,hx];rfl
   have du:=gA hr
   have hf:dM .i64 ((i:Int)+1)=((i+1:Nat):Int):=dh (by omega) (by omega);have rR:Lu (l.take (i+1))=Lu (l.take i)++[.sc (.string x.key)]:=by
    rw[Yx,hx];simp[Lu]
   rcases h3 with⟨rfl,h3⟩|⟨qC,id,cs,h3,dC,hcs⟩
   .have FM:=xa (t:=28) kV rfl h [.sc (.string x.key)] rfl (by omega);simp[cU,h0,h4,h3,hi,hq,du,FM];exact⟨rfl,rR.symm⟩
   .have fq:cs.length=i:=by rw[hcs];simp[Lu];omega
    have FM:=Ay (t:=28) kV rfl h [.sc (.string x.key)] cs id i dC rfl (by omega) (by omega) (by omega) (by omega);simp[cU,h0,h4,h3,hi,hq,du,FM,hf];rw[rR,hcs]
  .have gG:i=l.length:=by omega
   subst gG;simp[cU,h0,h4,hq];rcases h3 with⟨h1,h3⟩|⟨qC,id,cs,h3,dC,hcs⟩
   .exact .inl ⟨Zl h1,h3⟩
   .refine .inr ⟨λe=>by rw[e]at qC;simp at qC,id,h3,?_⟩;rw[dC,hcs,Ys (Yt _)]
 .rintro o fr h hn ⟨cU,rfl,⟨rfl,h3⟩|⟨eW,id,h3,dC⟩⟩
  .simp only at cU h3;simp[cU,h3,FL];exact gz rfl
  .simp only at cU h3 dC;simp[cU,h3];exact gz (HS eW dC rfl)
section
variable {C : Cx} {cal : FuncId -> LA -> Hp -> Option (AV × Hp)} {ops : Array Oper}
@[simp] def aix (d:Tmp)(rest:List Oper)(fr:LA)(l:List iP)(h:Hp):tV C cal ops (some d) rest fr (some (FL l,h))=eh C cal ops rest (fr.set d (FL l),h):=by cases l<;>rfl
@[simp] def aja (d:Tmp)(rest:List Oper)(fr:LA)(l:List iP)(h:Hp):wE C cal ops (some d) rest fr (some (FL l,h))=dz C cal ops rest (fr.set d (FL l),h):=by cases l<;>rfl
end
def HT (o:Option Bool)(l:List ByteArray):AV:=match o with
 |none=> .sc (.slice none 0 0)
 |some z=>iK l z
def PQ (o:Option Bool)(l:List ByteArray):Prop:=o=none->l=[]
def TQ (o:Option Bool)(l:List ByteArray):d_ (HT o l)=true:=by cases o<;>rfl
def HU (l:List iP):d_ (FL l)=true:=by cases l<;>rfl
def Bo (o:Option Bool)(l:List ByteArray)(p:List iP)(z:Bool):[HT o l,iE p z].all d_=true:=by rw[Zn,TQ];rfl
def oF (l:List iP):(i6 l).length=l.length:=by simp[i6]
def TR (n:Nat)(b:Bool)(l:List iP)(h:Hp)(hl:l.length<=1000000000000000):cW cx (n+3) b 224 [FL l] h=some (.sc (.bool (fg (i6 l))),h):=by
 cases l with
 |nil=>exact vK (n+2) b h
 |cons p l=>exact Eg n b (i6 (p::l)) false h (by rw[oF];exact hl)
def TS (n:Nat)(b:Bool)(l:List iP)(h:Hp)(hl:l.length<=1000000000000000):cW cx (n+1) b 225 [FL l] h=some (.sc (.bool (dZ (i6 l))),h):=by
 cases l with
 |nil=>exact vJ n b h
 |cons p l=>exact Ef n b (i6 (p::l)) false h (by rw[oF];exact hl)
def TT (n:Nat)(b:Bool)(o:Option Bool)(l:List ByteArray)(h:Hp)(ho:PQ o l)(hl:l.length<=1000000000000000):cW cx (n+3) b 224 [HT o l] h=some (.sc (.bool (fg l)),h):=by
 cases o with
 |none=>rw[ho rfl];exact vK (n+2) b h
 |some z=>exact Eg n b l z h hl
def TU (n:Nat)(b:Bool)(o:Option Bool)(l:List ByteArray)(h:Hp)(ho:PQ o l)(hl:l.length<=1000000000000000):cW cx (n+1) b 225 [HT o l] h=some (.sc (.bool (dZ l)),h):=by
 cases o with
 |none=>rw[ho rfl];exact vJ n b h
 |some z=>exact Ef n b l z h hl
def jb (l:List iP):Bool:=l.all λp=>jd p.v
def mL (l:List iP)(i:Nat):Bool:=jb (l.drop i)
def zo (l:List iP)(i:Nat)(h:l.length<=i):mL l i=true:=by unfold mL;rw[Zt h];rfl
def xb {l:List iP}{i:Nat}{c:iP}(h:l[i]?=some c):mL l i=(jd c.v && mL l (i+1)):=by
 obtain⟨k,e⟩:=Za.1 h;unfold mL jb;rw[Zm k,e,Zn]
def ie (l:List ByteArray)(p:List iP):Int:=
 if 8<l.length\/16<p.length then 4
 else if(fg l && fg (i6 p))=false then 6
 else if(dZ l && dZ (i6 p))=false then 26
 else if jb p=false then 8 else 0
def KM (D:Nat)(p:List iP):Prop:=∀x∈p,fB x.v<=D/\gV x.v
def Ei (N D:Nat)(b:Bool)(o:Option Bool)(l:List ByteArray)(p:List iP)(z:Bool)(h:Hp)(ho:PQ o l)(hl:l.length<=1000000000000000)(hp:p.length<=1000000000000000)(hb:KM D p):
 cW cx (N+2*D+6) b 150 [HT o l,iE p z] h=some (.sc (.int .i64 (ie l p)),h):=by
 refine fZ f150 [.tmp 4] (Bo _ _ _ _) rfl ?_ b h;have aa:=λb h=>TT (N+2*D+2) b o l h ho hl
 have ae:=λb h=>TU (N+2*D+4) b o l h ho hl
 have af:=λb h=>TR (N+2*D+2) b p h hp
 have ah:=λb h=>TS (N+2*D+4) b p h hp
 have ai:=λb h (hk:p.length<=1000)=>TP (N+2*D+4) b p z h hk
 have aj:=λb x h (hx:x∈p)=>yq N D x.v (hb x hx).1 (hb x hx).2 b h
 unfold ie;have hq:=dW p;have hg:=qo p;unfold iE at ai|-;generalize iy p=cY at hq hg ai;generalize N+2*D+5=M at aa ae af ah ai aj;have cU:(∃z',HT o l= .ls 1 (gP l) z')\/(HT o l=()/\l.length=0):=by
  cases o with
  |none=>exact .inr ⟨rfl,by rw[ho rfl];rfl⟩
  |some z'=>exact .inl ⟨z',rfl⟩
 have tW:=dG l;generalize gP l=rows' at cU tW;generalize HT o l=L at aa ae cU;by_cases h8:8<l.length
 .rcases cU with⟨z',rfl⟩|⟨rfl,e⟩
  .simp[f150,tW,h8,show 8< (l.length:Int) by omega]
  .omega
 have HV:¬8< (l.length:Int):=by omega
 by_cases oe:16<p.length
 .have yr:16< (p.length:Int):=by omega
  rcases cU with⟨z',rfl⟩|⟨rfl,e⟩
  .simp[f150,tW,hq,h8,HV,oe,yr]
  .simp[f150,hq,h8,oe,yr]
 have f5':=λb h=>ai b h (by omega)
 have jM:¬(8<l.length\/16<p.length):=by omega
 rw[db jM];have yr:¬16< (p.length:Int):=by omega
 clear ai jM;generalize fg l=n1 at aa;generalize dZ l=n2 at ae;generalize fg (i6 p)=n3 at af;generalize dZ (i6 p)=n4 at ah;cases n1
 .rcases cU with⟨z',rfl⟩|⟨rfl,e⟩<;>simp[f150,tW,hq,HV,yr,aa,f5']
 cases n3
 .rcases cU with⟨z',rfl⟩|⟨rfl,e⟩<;>simp[f150,tW,hq,HV,yr,aa,af,f5']
 cases n2
 .rcases cU with⟨z',rfl⟩|⟨rfl,e⟩<;>simp[f150,tW,hq,HV,yr,aa,ae,af,f5']
 cases n4
 .rcases cU with⟨z',rfl⟩|⟨rfl,e⟩<;>simp[f150,tW,hq,HV,yr,aa,ae,af,ah,f5']
 rcases cU with⟨z',rfl⟩|⟨rfl,e⟩
 all_goals
  simp[f150,tW,hq,HV,yr,aa,ae,af,ah,f5'];refine lS
   (λi s _=>jb p=mL p i/\s.length=46/\gt s 1= .ls 6 cY z/\gt s 6=i)
   (λo s _=>s.length=46/\((o= .exit 0/\jb p=true)\/(o= .ret/\jb p=false/\gt s 4=(8:Int)))) p.length (by simp;omega) (by simp[mL]) ?_ ?_
  .rintro i fr h eG ⟨ho,cU,h1,h6⟩;by_cases hi:i<p.length
   .obtain⟨x,hx⟩:=eA hi;have hr:cY[i]?=some (.sc (.string x.key)::enc x.v):=by rw[hg,hx];rfl
    have du:=gA hr
    rw[xb hx]at ho;have nM:=λb h=>aj b x h (Zi hx)
    have hf:dM .i64 ((i:Int)+1)=((i+1:Nat):Int):=dh (by omega) (by omega);cases hk:jd x.v
    .have zz:jb p=false:=by rw[ho,hk];rfl
     clear ho;simp[cU,h1,h6,hi,hq,du,nM,hk,zz]
    .have zz:jb p=mL p (i+1):=by rw[ho,hk];rfl
     clear ho;simp[cU,h1,h6,hi,hq,du,nM,hk,hf];exact zz
   .have zz:jb p=true:=by rw[ho,zo p i (by omega)]
    simp[cU,h1,h6,hi,hq,zz]
  .rintro o fr h hn ⟨cU,⟨rfl,hz⟩|⟨rfl,hz,h2⟩⟩
   .simp[cU,hz]
   .simp[h2,hz]
@[simp] def ahK (h:Hp)(a b c:fp)(l:Hp):(h++a::b::c::l)[h.length+2]?=some c:=by rw[Zf (by omega)];simp
@[simp] def YZ (h:Hp)(a b c d:fp)(id:Nat):((h++[a,b]).set id d++[c])[h.length+2]?=some c:=by rw[Zf (by simp)];simp
def Dq (n:Nat)(b:Bool)(l:List iP)(h:Hp)(hl:l.length<=1000000000000000):cW cx (n+1) b 161 [FL l] h=some (.sc (.bool (dZ (i6 l))),h):=by
 cases l with
 |nil=>exact ri n b h
 |cons p l=>exact w_ n b (i6 (p::l)) false h (by rw[oF];exact hl)
def HW (n:Nat)(b:Bool)(l:List iP)(h:Hp)(hl:l.length<=1000000000000000):cW cx (n+5) b 116 [FL l,.fn 160 []] h=some (.sc (.bool (!fg (i6 l))),h):=by
 cases l with
 |nil=>exact oB (n+3) b h
 |cons p l=>exact my n b (i6 (p::l)) false h (by rw[oF];exact hl)
def Dr (n:Nat)(b:Bool)(o:Option Bool)(l:List ByteArray)(h:Hp)(ho:PQ o l)(hl:l.length<=1000000000000000):cW cx (n+1) b 161 [HT o l] h=some (.sc (.bool (dZ l)),h):=by
 cases o with
 |none=>rw[ho rfl];exact ri n b h
 |some z=>exact w_ n b l z h hl
def HX (n:Nat)(b:Bool)(o:Option Bool)(l:List ByteArray)(h:Hp)(ho:PQ o l)(hl:l.length<=1000000000000000):cW cx (n+5) b 116 [HT o l,.fn 160 []] h=some (.sc (.bool (!fg l)),h):=by
 cases o with
 |none=>rw[ho rfl];exact oB (n+3) b h
 |some z=>exact my n b l z h hl
def PR (h:Hp)(l:List iP)(x:AV):Prop:=(l=[]/\x=())\/(l≠ []/\∃id,x= .sl id 1 0 l.length false/\h[id]?=some (.row (Lu l)))
def Ej {h:Hp}{l:List iP}{x:AV}(hx:PR h l x):dq h 8 x=some (FL l):=by
 rcases hx with⟨rfl,rfl⟩|⟨eW,id,rfl,dC⟩
 .rfl
 .exact HS eW dC rfl
def Ab (n:Nat)(b:Bool)(l:List iP)(h:Hp)(x:AV)(hx:PR h l x)(hl:l.length<=1000000000000000):cW cx (n+1) b 161 [x] h=some (.sc (.bool (dZ (i6 l))),h):=by
 refine mr (ys:=[FL l]) rfl (by kernel_rfl) ?_ ?_ rfl (Dq n b l h hl)
 .rw[Zo,Ej hx];rfl
 .rw[Zn,HU];rfl
def Ds (n:Nat)(b:Bool)(l:List iP)(h:Hp)(x:AV)(hx:PR h l x)(hl:l.length<=1000000000000000):cW cx (n+5) b 116 [x,.fn 160 []] h=some (.sc (.bool (!fg (i6 l))),h):=by
 refine mr (n:=n+4) (ys:=[FL l,.fn 160 []]) rfl (by kernel_rfl) ?_ ?_ rfl (HW n b l h hl)
 .rw[Zo,Ej hx];rfl
 .rw[Zn,HU];rfl
def NY (N D:Nat)(b:Bool)(o:Option Bool)(l:List ByteArray)(p:List iP)(z:Bool)(h:Hp)(ho:PQ o l)(hl:l.length<=1000000000000000)(hp:p.length<=1000000000000000)(hb:KM D p):
 cW cx (N+2*D+6) b 98 [HT o l,iE p z] h=some (.sc (.int .i64 (ie l p)),h):=by
 refine fZ f98 [.tmp 4] (Bo _ _ _ _) rfl ?_ b h;have aa:=λb h=>HX (N+2*D) b o l h ho hl
 have ae:=λb h=>Dr (N+2*D+4) b o l h ho hl
 have af:=λb x h (hx:PR h p x)=>Ds (N+2*D) b p h x hx hp
 have ah:=λb x h (hx:PR h p x)=>Ab (N+2*D+4) b p h x hx hp
 have aj:=λb x h (hx:x∈p)=>yp N D x.v (hb x hx).1 (hb x hx).2 b h
 unfold ie;have hq:=dW p;have hg:=qo p;unfold iE;generalize iy p=cY at hq hg;generalize N+2*D+5=M at aa ae af ah aj;have cU:(∃z',HT o l= .ls 1 (gP l) z')\/(HT o l=()/\l.length=0):=by
  cases o with
  |none=>exact .inr ⟨rfl,by rw[ho rfl];rfl⟩
  |some z'=>exact .inl ⟨z',rfl⟩
 have tW:=dG l;generalize gP l=rows' at cU tW;generalize HT o l=L at aa ae cU;by_cases h8:8<l.length
 .rcases cU with⟨z',rfl⟩|⟨rfl,e⟩
  .simp[f98,tW,h8,show 8< (l.length:Int) by omega]
  .omega
 have HV:¬8< (l.length:Int):=by omega
 by_cases oe:16<p.length
 .have yr:16< (p.length:Int):=by omega
  rcases cU with⟨z',rfl⟩|⟨rfl,e⟩
  .simp[f98,tW,hq,h8,HV,oe,yr]
  .simp[f98,hq,h8,oe,yr]
 have jM:¬(8<l.length\/16<p.length):=by omega
 rw[db jM];have yr:¬16< (p.length:Int):=by omega
 clear jM;generalize fg l=n1 at aa;generalize dZ l=n2 at ae;generalize fg (i6 p)=n3 at af;generalize dZ (i6 p)=n4 at ah;have aga:∀(hh:Hp) (x:iP),eE cx (hh++[fp.row (.sc (.string x.key)::enc x.v),fp.row [.sc (.string x.key)]]) 28 (.sc (.slice none 0 0)) (.sl (hh.length+1) 1 0 1 false)=some (.sl (hh.length+2) 1 0 1 false,hh++[fp.row (.sc (.string x.key)::enc x.v),fp.row [.sc (.string x.key)],fp.row [.sc (.string x.key)]]):=λhh x=>by
  have FM:=xa (t:=28) kV rfl (hh++[fp.row (.sc (.string x.key)::enc x.v)]) [.sc (.string x.key)] rfl (by omega);simpa only[Zp,Zv,Zw,Zu,Yw,Xa,Xb,Nat.add_assoc]using FM
 have agb:∀(hh:Hp) (x:iP) (cs:LA) (id n:Nat) (dC:hh[id]?=some (.row cs)) (ho:cs.length=n*1) (hn:n<=16),eE cx (hh++[fp.row (.sc (.string x.key)::enc x.v),fp.row [.sc (.string x.key)]]) 28 (.sl id 1 0 n false) (.sl (hh.length+1) 1 0 1 false)=some (.sl (hh.length+2) 1 0 (n+1) false,(hh++[fp.row (.sc (.string x.key)::enc x.v),fp.row [.sc (.string x.key)]]).set id .dead++[.row (cs++[.sc (.string x.key)])]):=λhh x cs id n dC ho hn=>by
  have jD:id<hh.length:=(Za.1 dC).1;have FM:=Ay (t:=28) kV rfl (hh++[fp.row (.sc (.string x.key)::enc x.v)]) [.sc (.string x.key)] cs id n (by rw[Zd jD];exact dC) rfl ho (by omega) (by omega) (by omega);simpa only[Zp,Zv,Zw,Zu,Yw,Xa,Xb,Nat.add_assoc]using FM
 rcases cU with⟨z',hz⟩|⟨hz,e⟩
 all_goals
  simp[f98,hz,tW,hq,HV,yr];refine lS
   (λi s iR=>s.length=55/\gt s 0=L/\gt s 1= .ls 6 cY z/\gt s 18= .ls 6 cY z/\gt s 19=p.length/\gt s 20=i/\((i=0/\gt s 5=())\/(0<i/\∃id cs,gt s 5= .sl id 1 0 i false/\iR[id]?=some (.row cs)/\cs=Lu (p.take i))))
   (λo s iR=>s.length=55/\o= .exit 0/\gt s 0=L/\gt s 1= .ls 6 cY z/\PR iR p (gt s 5)) p.length (by simp;omega) (by simp[hz]) ?_ ?_
  .rintro i fr h eG ⟨cU,h0,h1,PM,YA,NU,h5⟩;by_cases hi:i<p.length
   .obtain⟨x,hx⟩:=eA hi;have hr:cY[i]?=some (.sc (.string x.key)::enc x.v):=by rw[hg,hx];rfl
    have du:=gA hr
    have hf:dM .i64 ((i:Int)+1)=((i+1:Nat):Int):=dh (by omega) (by omega);have rR:Lu (p.take (i+1))=Lu (p.take i)++[.sc (.string x.key)]:=by
     rw[Yx,hx];simp[Lu]
    rcases h5 with⟨rfl,h5⟩|⟨qC,id,cs,h5,dC,hcs⟩
    .simp[cU,h0,h1,PM,YA,NU,h5,hi,hq,du,aga];exact⟨rfl,rR.symm⟩
    .have fq:cs.length=i:=by rw[hcs];simp[Lu];omega
     have FM:=agb h x cs id i dC (by omega) (by omega);simp[cU,h0,h1,PM,YA,NU,h5,hi,hq,du,FM,hf];rw[rR,hcs]
   .have gG:i=p.length:=by omega
    subst gG;simp[cU,h0,h1,YA,NU];rcases h5 with⟨h2,h5⟩|⟨qC,id,cs,h5,dC,hcs⟩
    .exact .inl ⟨Zl h2,h5⟩
    .refine .inr ⟨λe=>by rw[e]at qC;simp at qC,id,h5,?_⟩;rw[dC,hcs,Ys (Yt _)]
  .rintro o fr h hn ⟨cU,rfl,h0,h1,Hf⟩;obtain⟨x5,h5⟩:∃x5,gt fr 5=x5:=⟨_,rfl⟩;rw[h5]at Hf;have YB:=λb=>af b x5 h Hf
   have f4':=λb=>ah b x5 h Hf
   have e0:∀{cal:jH} {ops:Array Oper} (d:Tmp) (rest:List Oper) (fr:LA) (h:Hp),tV cx cal ops (some d) rest fr (some (L,h))=eh cx cal ops rest (fr.set d L,h):=by rw[hz];intros;rfl
   have e5:∀{cal:jH} {ops:Array Oper} (d:Tmp) (rest:List Oper) (fr:LA) (h:Hp),tV cx cal ops (some d) rest fr (some (x5,h))=eh cx cal ops rest (fr.set d x5,h):=by rcases Hf with⟨_,rfl⟩|⟨_,_,rfl,_⟩<;>(intros;rfl)
   cases n1
   .simp[e0,cU,h0,aa]
   cases n3
   .simp[e0,e5,cU,h0,h5,aa,YB]
   cases n2
   .simp[e0,e5,cU,h0,h5,aa,ae,YB]
   cases n4
   .simp[e0,e5,cU,h0,h5,aa,ae,YB,f4']
   simp[e0,e5,cU,h0,h1,h5,aa,ae,YB,f4',hq];refine lS
    (λi s _=>jb p=mL p i/\s.length=55/\gt s 44= .ls 6 cY z/\gt s 45=p.length/\gt s 46=i)
    (λo s _=>s.length=55/\((o= .exit 2/\jb p=true)\/(o= .ret/\jb p=false/\gt s 4=(8:Int)))) p.length (by simp;omega) (by simp[mL,cU]) ?_ ?_
   .rintro i fr h eG ⟨ho,cU,h44,h45,h46⟩;by_cases hi:i<p.length
    .obtain⟨x,hx⟩:=eA hi;have hr:cY[i]?=some (.sc (.string x.key)::enc x.v):=by rw[hg,hx];rfl
     have du:=gA hr
     rw[xb hx]at ho;have nM:=λb h=>aj b x h (Zi hx)
     have hf:dM .i64 ((i:Int)+1)=((i+1:Nat):Int):=dh (by omega) (by omega);cases hk:jd x.v
     .have zz:jb p=false:=by rw[ho,hk];rfl
      clear ho;simp[cU,h44,h45,h46,hi,hq,du,nM,hk,zz]
     .have zz:jb p=mL p (i+1):=by rw[ho,hk];rfl
      clear ho;simp[cU,h44,h45,h46,hi,hq,du,nM,hk,hf];exact zz
    .have zz:jb p=true:=by rw[ho,zo p i (by omega)]
     simp[cU,h45,h46,hi,zz]
   .rintro o fr h hn ⟨cU,⟨rfl,hz⟩|⟨rfl,hz,h2⟩⟩
    .simp[cU,hz]
    .simp[h2,hz]
structure Nd where
 id:Int
 labels:List ByteArray
 props:List iP
structure Ed where
 id:Int
 src:Int
 dst:Int
 type:ByteArray
 props:List iP
structure Gr where
 nodes:List Nd
 cZ:List Ed
 nn:Int
 ne:Int
def eo (n:Nd):LA:=[.sc (.int .i64 n.id),iK n.labels false,iE n.props false]
def eY (e:Ed):LA:=[.sc (.int .i64 e.id),.sc (.int .i64 e.src),.sc (.int .i64 e.dst),.sc (.string e.type),iE e.props false]
def lU (l:List Nd):List LA:=l.map eo
def mA (l:List Ed):List LA:=l.map eY
def gh (l:List Nd):AV:= .ls 3 (lU l) false
def gE (l:List Ed):AV:= .ls 5 (mA l) false
def dn (g:Gr):LA:=[gh g.nodes,gE g.cZ,.sc (.int .i64 g.nn),.sc (.int .i64 g.ne)]
def fJ (l:List Nd):(lU l).length=l.length:=by simp[lU]
def mM (l:List Nd)(i:Nat):(lU l)[i]?=(l[i]?).map eo:=by simp[lU]
def fU (l:List Ed):(mA l).length=l.length:=by simp[mA]
def mN (l:List Ed)(i:Nat):(mA l)[i]?=(l[i]?).map eY:=by simp[mA]
section
variable {C : Cx} {cal : FuncId -> LA -> Hp -> Option (AV × Hp)} {ops : Array Oper}
def kW {x:AV}(hx:∀v,x≠ .pn v)(d:Tmp)(rest:List Oper)(fr:LA)(h:Hp):tV C cal ops (some d) rest fr (some (x,h))=eh C cal ops rest (fr.set d x,h):=by
 cases x<;>first|rfl|exact absurd rfl (hx _)
def Bp {x:AV}(hx:∀v,x≠ .pn v)(d:Tmp)(rest:List Oper)(fr:LA)(h:Hp):wE C cal ops (some d) rest fr (some (x,h))=dz C cal ops rest (fr.set d x,h):=by
 cases x<;>first|rfl|exact absurd rfl (hx _)
end
def oG {x:AV}(hx:∀v,x≠ .pn v):∀(cal:FuncId->LA->Hp->Option (AV × Hp))(ops:Array Oper)(d:Tmp)(rest:List Oper)(fr:LA)(h:Hp),tV cx cal ops (some d) rest fr (some (x,h))=eh cx cal ops rest (fr.set d x,h):=λ_ _ d rest fr h=>kW hx d rest fr h
def NZ {x:AV}(hx:∀v,x≠ .pn v):∀(cal:FuncId->LA->Hp->Option (AV × Hp))(ops:Array Oper)(d:Tmp)(rest:List Oper)(fr:LA)(h:Hp),wE cx cal ops (some d) rest fr (some (x,h))=dz cx cal ops rest (fr.set d x,h):=λ_ _ d rest fr h=>Bp hx d rest fr h
def dQ (l:List Nd)(x:Int):Option Nd:=l.find? λn=>n.id==x
def Bq (l:List Nd)(x:Int)(i:Nat):Option Nd:=dQ (l.drop i) x
def PS (l:List Nd)(x:Int)(i:Nat)(h:l.length<=i):Bq l x i=none:=by unfold Bq;rw[Zt h];rfl
def Lv {l:List Nd}{x:Int}{i:Nat}{c:Nd}(h:l[i]?=some c):Bq l x i=if c.id=x then some c else Bq l x (i+1):=by
 obtain⟨k,e⟩:=Za.1 h;unfold Bq dQ;rw[Zm k,e,List.find?_cons];by_cases q:c.id=x
 .simp[q]
 .have q':(c.id==x)=false:=by simpa using q
  simp[q,q']
def Br (o:Option Nd):LA:=match o with
 |none=> [.sc (.int .i64 0),.sc (.slice none 0 0),.sc (.slice none 0 0)]
 |some n=>eo n
@[simp] def afq (o:Option Nd):(Br o).length=3:=by cases o<;>rfl
def ZP (o:Option Nd)(b:Bool):[AV.ag (Br o),.sc (.bool b)].all d_=true:=by cases o<;>rfl
def HY {h:Hp}{n:Nat}:∀{xs:LA},xs.all d_=true->xs.mapM (dq h (n+2))=some xs
 | [],_=>rfl
 |
  x::xs,hc=>by
  rw[Zn,Zh]at hc;rw[Zo,oH hc.1,HY hc.2];rfl
def TV {f:FuncId}{args:LA}{n:Nat}{xs:LA}(fi:Fi)(hF:cx.F f=some fi)(iG:tv cx fi.body=true)(hs:cx.ox f=none)(hi:cx.inl f=false)(hl:args.length<=fi.ntmps)(hc:args.all d_=true)(hr:xs.all d_=true)
 (hb:(eQ fi.res (dS cx (cW cx n) fi.body (args++List.replicate (fi.ntmps-args.length) .un,[]))).map Prod.fst=some (.tp xs)) (b:Bool) (h:Hp) (ht:kv f=true:=by decide):cW cx (n+1) b f args h=some (.tp xs,h):=by
 simp only[Ze]at hb;obtain⟨⟨r0,h'⟩,hb,rfl⟩:=hb;exact xc fi hF iG hs hi hl hc hb (by show(xs.mapM (dq h' 7)).map AV.tp=_;rw[HY hr];rfl) b h ht
def tA {f:FuncId}{args:LA}{n:Nat}{xs:LA}(fn:Func)(res:List Rv)(hc:args.all d_=true)(hr:xs.all d_=true)(hb:(eQ res (dS cx (cW cx n) ((fn.body).getD .skip) (args++List.replicate (fn.ntmps-args.length) .un,[]))).map Prod.fst=some (.tp xs))(b:Bool)(h:Hp)(ht:kv f=true:=by decide)(hF:cx.F f=some ⟨fn.ntmps,(fn.body).getD .skip,res⟩:=by kernel_rfl)(iG:tv cx ((fn.body).getD .skip)=true:=by kernel_rfl)(hi:cx.inl f=false:=by kernel_rfl)(hl:Nat.ble args.length fn.ntmps=true:=by rfl):cW cx (n+1) b f args h=some (.tp xs,h):=
 TV ⟨fn.ntmps,(fn.body).getD .skip,res⟩ hF iG rfl hi (Nat.le_of_ble_eq_true hl) hc hr hb b h ht
def Bt (g:Gr)(x:Int):[AV.ag (dn g),.sc (.int .i64 x)].all d_=true:=rfl
def jq (n:Nat)(b:Bool)(g:Gr)(x:Int)(h:Hp)(hl:g.nodes.length<=1000000000000000):
 cW cx (n+1) b 89 [.ag (dn g),x] h=some (.tp [.ag (Br (dQ g.nodes x)),.sc (.bool (dQ g.nodes x).isSome)],h):=by
 refine tA (xs:=[.ag (Br (dQ g.nodes x)),.sc (.bool (dQ g.nodes x).isSome)]) f89 [.cell 4 3 true,.tmp 5] (Bt _ _) (by exact ZP _ _) ?_ b h;have hq:=fJ g.nodes;have hg:=mM g.nodes;unfold dn gh;generalize lU g.nodes=cY at hq hg;simp[f89];refine lS
  (λi s iR=>dQ g.nodes x=Bq g.nodes x i/\s.length=28/\gt s 1=x/\gt s 2= .pt 0 0/\gt s 4= .pt 1 0/\gt s 6=i/\iR=[.row [.ls 3 cY false,gE g.cZ,g.nn,g.ne],.row [(0:Int),(),()]])
  (λo s iR=>s.length=28/\gt s 4= .pt 1 0/\((o= .exit 0/\dQ g.nodes x=none/\∃a b,iR=[.row a,.row b]/\b.length=3)\/(o= .ret/\∃c a,dQ g.nodes x=some c/\gt s 5=true/\iR=[.row a,.row (eo c)]))) g.nodes.length (by simp;omega) (by simp[Bq]) ?_ ?_
 .rintro i fr h eG ⟨ho,cU,h1,h2,h4,h6,hh⟩;subst hh;by_cases hi:i<g.nodes.length
  .obtain⟨c,hx⟩:=eA hi;have hr:cY[i]?=some [.sc (.int .i64 c.id),iK c.labels false,iE c.props false]:=by rw[hg,hx];rfl
   have du:=gA hr
   rw[Lv hx]at ho;have hf:dM .i64 ((i:Int)+1)=((i+1:Nat):Int):=dh (by omega) (by omega);by_cases hk:c.id=x
   .rw[dd hk]at ho;simp[cU,h1,h2,h4,h6,hi,hq,du,hk,ho,eo]
   .rw[db hk]at ho;simp[cU,h1,h2,h4,h6,hi,hq,du,hk,hf];exact ho
  .have zz:dQ g.nodes x=none:=by rw[ho,PS _ _ i (by omega)]
   simp[cU,h2,h4,h6,hi,hq,zz];exact gz rfl
 .rintro o fr h hn ⟨cU,h4,⟨rfl,hz,a,b',hh,hb⟩|⟨rfl,c,a,hz,h5,hh⟩⟩
  .subst hh;simp[cU,h4,hz,hb,Br]
  .subst hh;simp[h4,h5,hz,Br,eo]
structure AX (D:Nat)(g:Gr):Prop where
 nl:g.nodes.length<=1000000000000000
 el:g.cZ.length<=1000000000000000
 ns:∀n∈g.nodes,n.labels.length<=1000000000000000/\n.props.length<=1000000000000000/\KM D n.props
 es:∀e∈g.cZ,e.props.length<=1000000000000000/\KM D e.props
def mB (g:Gr)(i:Nat):Int:=match g.nodes[i]? with
 |none=>0
 |
  some n=>if 0<i/\(∃m,g.nodes[i-1]?=some m/\n.id<=m.id)then 26
  else if n.id<1\/g.nn<=n.id then 1 else ie n.labels n.props
def mC (g:Gr)(i:Nat):Int:=match g.cZ[i]? with
 |none=>0
 |
  some e=>if 0<i/\(∃m,g.cZ[i-1]?=some m/\e.id<=m.id)then 26
  else if e.id<1\/g.ne<=e.id then 1
  else if(dQ g.nodes e.src).isSome=false\/(dQ g.nodes e.dst).isSome=false then 10
  else if jo e.type=false then 6 else ie [] e.props
def TW (N D:Nat)(b:Bool)(g:Gr)(i:Nat)(h:Hp)(hb:AX D g)(hi:i<g.nodes.length):
 cW cx (N+2*D+7) b 86 [.ag (dn g),i] h=some (.sc (.int .i64 (mB g i)),h):=by
 refine fZ f86 [.tmp 4] (Bt _ _) rfl ?_ b h;have nS:=hb.nl;obtain⟨c,hx⟩:=eA hi;have ZQ:=hb.ns c (Zi hx);have aa:=λb h=>Ei N D b (some false) c.labels c.props false h (by intro e;cases e) ZQ.1 ZQ.2.1 ZQ.2.2
 have hq:=fJ g.nodes;have hg:=mM g.nodes;unfold dn gh;generalize lU g.nodes=cY at hq hg;generalize N+2*D+6=M at aa;have hr:cY[i]?=some [.sc (.int .i64 c.id),iK c.labels false,iE c.props false]:=by rw[hg,hx];rfl
 have du:=gA hr
 unfold mB;rw[hx];simp only[HT,iK,iE]at aa hr du|-;generalize gP c.labels=r1 at aa hr du;generalize iy c.props=r2 at aa hr du;generalize ie c.labels c.props=pe at aa;have hii:¬(i:Int)<0:=by omega
 obtain rfl|⟨j,N3⟩:i=0\/∃j,i=j+1:=by cases i with|zero=>exact .inl rfl|succ j=>exact .inr ⟨j,rfl⟩
 .rw[db (by rintro⟨a,_⟩;omega)];have pQ:0< (g.nodes.length:Int):=by omega
  by_cases k1:c.id<1
  .simp[f86,hq,hi,du,k1]
  by_cases k2:g.nn<=c.id
  .simp[f86,hq,hi,du,k1,k2]
  .simp[f86,hq,hi,du,k1,k2,aa]
 .obtain⟨m,hm⟩:∃m,g.nodes[j]?=some m:=⟨_,Zb (by omega)⟩;have hs:cY[j]?=some [.sc (.int .i64 m.id),iK m.labels false,iE m.props false]:=by rw[hg,hm];rfl
  have kC:=gA hs
  have hf:dM .i64 ((i:Int)-1)=(j:Int):=by rw[show((i:Int)-1)=((j:Nat):Int) by omega];exact dh (by omega) (by omega)
  have hp:0<i:=by omega
  have hj:j<g.nodes.length:=by omega
  by_cases k0:c.id<=m.id
  .rw[dd ⟨by omega,m,by rw[show i-1=j by omega];exact hm,k0⟩];simp[f86,hq,hi,hj,du,kC,hf,hp,k0]
  rw[db (by rintro⟨_,m',e,k⟩;rw[show i-1=j by omega,hm]at e;cases e;exact k0 k)];by_cases k1:c.id<1
  .simp[f86,hq,hi,hj,du,kC,hf,hp,k0,k1]
  by_cases k2:g.nn<=c.id
  .simp[f86,hq,hi,hj,du,kC,hf,hp,k0,k1,k2]
  .simp[f86,hq,hi,hj,du,kC,hf,hp,k0,k1,k2,aa]
def TX (N D:Nat)(b:Bool)(g:Gr)(i:Nat)(h:Hp)(hb:AX D g)(hi:i<g.cZ.length):
 cW cx (N+2*D+7) b 87 [.ag (dn g),i] h=some (.sc (.int .i64 (mC g i)),h):=by
 refine fZ f87 [.tmp 4] (Bt _ _) rfl ?_ b h;have nS:=hb.el;obtain⟨c,hx⟩:=eA hi;have ZQ:=hb.es c (Zi hx);have aa:=λb h=>Ei N D b none [] c.props false h (λ_=>rfl) (by simp) ZQ.1 ZQ.2
 have ae:=λb x h=>jq (N+2*D+5) b g x h hb.nl
 have af:=λb x h=>tS (N+2*D+4) b x h
 have hq:=fU g.cZ;have hg:=mN g.cZ;unfold dn at ae|-;unfold gE at ae|-;generalize mA g.cZ=cY at hq hg ae;simp only[gh]at ae|-;generalize lU g.nodes=jW at ae;generalize N+2*D+6=M at aa ae af;have hr:cY[i]?=some [.sc (.int .i64 c.id),.sc (.int .i64 c.src),.sc (.int .i64 c.dst),.sc (.string c.type),iE c.props false]:=by rw[hg,hx];rfl
 have du:=gA hr
 unfold mC;rw[hx];simp only[HT,iE]at aa hr du|-;generalize iy c.props=r2 at aa hr du;generalize ie [] c.props=pe at aa;have YC:=λb h=>ae b c.src h
 have YD:=λb h=>ae b c.dst h
 generalize dQ g.nodes c.src=na at YC|-;generalize dQ g.nodes c.dst=nb at YD|-;have YB:=λb h=>af b c.type h
 generalize jo c.type=nt at YB|-;generalize na.isSome=ba at YC|-;generalize nb.isSome=bb at YD|-;clear ae af;obtain rfl|⟨j,N3⟩:i=0\/∃j,i=j+1:=by cases i with|zero=>exact .inl rfl|succ j=>exact .inr ⟨j,rfl⟩
 .rw[db (by rintro⟨a,_⟩;omega)];have pQ:0< (g.cZ.length:Int):=by omega
  by_cases k1:c.id<1
  .simp[f87,hq,hi,du,k1]
  by_cases k2:g.ne<=c.id
  .simp[f87,hq,hi,du,k1,k2]
  cases ba
  .simp[f87,hq,hi,du,k1,k2,YC,YD]
  cases bb
  .simp[f87,hq,hi,du,k1,k2,YC,YD]
  cases nt
  .simp[f87,hq,hi,du,k1,k2,YC,YD,YB]
  .simp[f87,hq,hi,du,k1,k2,YC,YD,YB,aa]
 .obtain⟨m,hm⟩:∃m,g.cZ[j]?=some m:=⟨_,Zb (by omega)⟩;have hs:cY[j]?=some [.sc (.int .i64 m.id),.sc (.int .i64 m.src),.sc (.int .i64 m.dst),.sc (.string m.type),iE m.props false]:=by rw[hg,hm];rfl
  have kC:=gA hs
  have hf:dM .i64 ((i:Int)-1)=(j:Int):=by rw[show((i:Int)-1)=((j:Nat):Int) by omega];exact dh (by omega) (by omega)
  have hp:0<i:=by omega
  have hj:j<g.cZ.length:=by omega
  by_cases k0:c.id<=m.id
  .rw[dd ⟨by omega,m,by rw[show i-1=j by omega];exact hm,k0⟩];simp[f87,hq,hi,hj,du,kC,hf,hp,k0]
  rw[db (by rintro⟨_,m',e,k⟩;rw[show i-1=j by omega,hm]at e;cases e;exact k0 k)];by_cases k1:c.id<1
  .simp[f87,hq,hi,hj,du,kC,hf,hp,k0,k1]
  by_cases k2:g.ne<=c.id
  .simp[f87,hq,hi,hj,du,kC,hf,hp,k0,k1,k2]
  cases ba
  .simp[f87,hq,hi,hj,du,kC,hf,hp,k0,k1,k2,YC,YD]
  cases bb
  .simp[f87,hq,hi,hj,du,kC,hf,hp,k0,k1,k2,YC,YD]
  cases nt
  .simp[f87,hq,hi,hj,du,kC,hf,hp,k0,k1,k2,YC,YD,YB]
  .simp[f87,hq,hi,hj,du,kC,hf,hp,k0,k1,k2,YC,YD,YB,aa]
def tX (f:Nat->Int)(i:Nat):Nat->Int
 |0=>0
 |k+1=>if f i=0 then tX f (i+1) k else f i
def sr (f:Nat->Int){i n:Nat}(h:i<n):tX f i (n-i)=if f i=0 then tX f (i+1) (n-(i+1))else f i:=by
 obtain⟨k,rfl⟩:∃k,n=i+1+k:=⟨n-(i+1),by omega⟩;rw[show i+1+k-i=k+1 by omega,show i+1+k-(i+1)=k by omega];rfl
def yt (g:Gr):Int:=tX (mC g) 0 g.cZ.length
def tY (g:Gr):Int:=tX (mB g) 0 g.nodes.length
def gN (g:Gr):Int:=
 if 2000<g.nodes.length\/4000<g.cZ.length then 4
 else if g.nn<1\/1000001<g.nn\/g.ne<1\/1000001<g.ne then 1
 else if tY g=0 then yt g else tY g
def N4 (g:Gr):[AV.ag (dn g)].all d_=true:=rfl
def Ek (N D:Nat)(b:Bool)(g:Gr)(h:Hp)(hb:AX D g):
 cW cx (N+2*D+8) b 42 [.ag (dn g)] h=some (.sc (.int .i64 (gN g)),h):=by
 refine fZ f42 [.tmp 2] (N4 _) rfl ?_ b h;have aa:=λb i h (hi:i<g.nodes.length)=>TW N D b g i h hb hi
 have ae:=λb i h (hi:i<g.cZ.length)=>TX N D b g i h hb hi
 have nS:=hb.nl;have Bu:=hb.el;have tq:=fJ g.nodes;have qD:=fU g.cZ;unfold gN;generalize eW:tY g=ne;generalize N5:yt g=ee;unfold tY at eW;unfold yt at N5;generalize mB g=fn at aa eW;generalize mC g=fe at ae N5;unfold dn gh gE at aa ae|-;generalize lU g.nodes=jW at tq aa ae;generalize mA g.cZ=h_ at qD aa ae;generalize N+2*D+7=M at aa ae;obtain⟨nodes,cZ,nn,en⟩:=g;simp only at *;by_cases k1:2000<nodes.length
 .simp[f42,tq,k1,show 2000< (nodes.length:Int) by omega]
 have PT:¬2000< (nodes.length:Int):=by omega
 by_cases k2:4000<cZ.length
 .simp[f42,tq,qD,k1,PT,k2,show 4000< (cZ.length:Int) by omega]
 have TY:¬4000< (cZ.length:Int):=by omega
 by_cases k3:nn<1
 .simp[f42,tq,qD,k1,PT,k2,TY,k3]
 by_cases k4:1000001<nn
 .simp[f42,tq,qD,k1,PT,k2,TY,k3,k4]
 by_cases k5:en<1
 .simp[f42,tq,qD,k1,PT,k2,TY,k3,k4,k5]
 by_cases k6:1000001<en
 .simp[f42,tq,qD,k1,PT,k2,TY,k3,k4,k5,k6]
 simp[f42,tq,qD,k1,PT,k2,TY,k3,k4,k5,k6];refine lS
  (λi s iR=>ne=tX fn i (nodes.length-i)/\s.length=61/\gt s 1= .pt 0 0/\gt s 3=i/\iR=[.row [.ls 3 jW false,.ls 5 h_ false,nn,en]])
  (λo s iR=>s.length=61/\((o= .exit 0/\ne=0/\gt s 1= .pt 0 0/\iR=[.row [.ls 3 jW false,.ls 5 h_ false,nn,en]])\/(o= .ret/\ne≠0/\gt s 2=ne))) nodes.length (by simp;omega) (by simp[eW]) ?_ ?_
 .rintro i fr h eG ⟨ho,cU,h1,h3,hh⟩;subst hh;by_cases hi:i<nodes.length
  .have nM:=λb h=>aa b i h hi
   rw[sr fn hi]at ho;have hf:dM .i64 ((i:Int)+1)=((i+1:Nat):Int):=dh (by omega) (by omega);by_cases hk:fn i=0
   .rw[dd hk]at ho;simp[cU,h1,h3,hi,tq,nM,hk,hf];exact ho
   .rw[db hk]at ho;simp[cU,h1,h3,hi,tq,nM,hk,ho]
  .rw[show nodes.length-i=0 by omega]at ho;have vZ:ne=0:=ho;simp[cU,h1,h3,hi,tq,vZ]
 .rintro o fr h hn ⟨cU,⟨rfl,hz,h1,hh⟩|⟨rfl,hz,h2⟩⟩
  .subst hh;clear eW hn;subst hz;simp;refine lS
    (λi s iR=>ee=tX fe i (cZ.length-i)/\s.length=61/\gt s 1= .pt 0 0/\gt s 5=i/\iR=[.row [.ls 3 jW false,.ls 5 h_ false,nn,en]])
    (λo s _=>s.length=61/\((o= .exit 2/\ee=0)\/(o= .ret/\gt s 2=ee))) cZ.length (by simp;omega) (by simp[N5,cU,h1]) ?_ ?_
   .rintro i fr h eG ⟨ho,cU,h1,h5,hh⟩;subst hh;by_cases hi:i<cZ.length
    .have nM:=λb h=>ae b i h hi
     rw[sr fe hi]at ho;have hf:dM .i64 ((i:Int)+1)=((i+1:Nat):Int):=dh (by omega) (by omega);by_cases hk:fe i=0
     .rw[dd hk]at ho;simp[cU,h1,h5,hi,qD,nM,hk,hf];exact ho
     .rw[db hk]at ho;simp[cU,h1,h5,hi,qD,nM,hk,ho]
    .rw[show cZ.length-i=0 by omega]at ho;have vZ:ee=0:=ho;simp[cU,h1,h5,hi,qD,vZ]
   .rintro o fr h hn ⟨cU,⟨rfl,hz⟩|⟨rfl,h2⟩⟩
    .simp[cU,hz]
    .simp[h2]
  .simp[h2,hz]
@[simp] def acJ (c:Nd):(eo c).length=3:=rfl
@[simp] def acT (c:Ed):(eY c).length=5:=rfl
@[simp] def af0 (c:Nd):(eo c).take 3=eo c:=rfl
@[simp] def afP (c:Ed):(eY c).take 5=eY c:=rfl
@[simp] def ak0 :cx.P.underlying 160=some (.int .u64):=by kernel_rfl
def uS (l:List Nd):Prop:=∀(i j:Nat) (a b:Nd),l[i]?=some a->l[j]?=some b->i<j->a.id<b.id
def TZ (l:List Nd)(x:Int)(f:FuncId):[gh l,.sc (.int .i64 x),.fn f []].all d_=true:=rfl
def T0 (l:List Nd)(x:Int):[gh l,.sc (.int .i64 x)].all d_=true:=rfl
def adr (n:Nat)(b:Bool)(c:Nd)(x:Int)(h:Hp):cW cx (n+3) b 163 [.ag (eo c),x] h=some (.sc (.int .i64 (ej c.id x)),h++[.row (eo c)]):=by
 rw[K7 (n:=n+2) f163 [.tmp 4]];have aa:=λb h=>jn n b c.id x h
 generalize ej c.id x=r at aa;simp[f163,eo,aa]
structure PU (l:List Nd)(x:Int)(lo:Nat):Prop where
 le:lo<=l.length
 lt:∀(i:Nat) (a:Nd),l[i]?=some a->i<lo->a.id<x
 ge:∀(i:Nat) (a:Nd),l[i]?=some a->lo<=i->x<=a.id
def HZ {l:List Nd}{x:Int}{i:Nat}{a:Nd}(h:l[i]?=some a)(e:a.id=x):(dQ l x).isSome=true:=by
 unfold dQ;rw[List.find?_isSome];exact⟨a,Zi h,by simpa using e⟩
def PU.found {l:List Nd}{x:Int}{lo:Nat}(hs:uS l)(h:PU l x lo):(dQ l x).isSome=true↔∃a:Nd,l[lo]?=some a/\a.id=x:=by
 constructor
 .intro k;unfold dQ at k;rw[List.find?_isSome]at k;obtain⟨a,ha,e⟩:=k;obtain⟨i,hi⟩:=List.mem_iff_getElem?.1 ha;simp only[beq_iff_eq]at e;have h1:¬i<lo:=λq=>by have:=h.lt i a hi q;omega
  by_cases h2:i=lo
  .subst h2;exact⟨a,hi,e⟩
  .obtain⟨c,hc⟩:∃c,l[lo]?=some c:=⟨_,Zb (by have:=(Za.1 hi).1;omega)⟩;have h3:=hs lo i c a hc hi (by omega);have h4:=h.ge lo c hc (Yt _);omega
 .rintro⟨a,ha,e⟩;exact HZ ha e
def Dt (n:Nat)(l:List Nd)(x:Int)(hl:l.length<=1000000000000000)(hs:uS l):
 ∃r,(∃lo:Nat,PU l x lo/\r= .tp [lo,.sc (.bool (dQ l x).isSome)])/\∀b h,cW cx (n+4) b 162 [gh l,x,.fn 163 []] h=some (r,h):=by
 refine iQ (f:=162) (n:=n+3) (args:=[gh l,.sc (.int .i64 x),.fn 163 []]) (λr=>∃lo:Nat,PU l x lo/\r= .tp [lo,.sc (.bool (dQ l x).isSome)]) ⟨f162.ntmps,(f162.body).getD .skip,[.tmp 6,.tmp 7]⟩ (by kernel_rfl) (by kernel_rfl) rfl (by kernel_rfl) (by simp[f162]) (TZ _ _ _) ?_;have hq:=fJ l;have hg:=mM l;have aa:=λb c h=>adr n b c x h
 unfold gh;generalize lU l=cY at hq hg;generalize n+3=M at aa;simp[f162];refine eC (C:=cx) (G:=λr=>∃r0 h',eQ _ (eR _ _ (dL _ r) _)=some (r0,h')/\∃r',dq h' 8 r0=some r'/\∃lo:Nat,PU l x lo/\r'= .tp [lo,.sc (.bool (dQ l x).isSome)])
  (λk s=>∃lo hi:Nat,s.1.length=49/\gt s.1 0= .ls 3 cY false/\gt s.1 1=x/\gt s.1 2= .fn 163 []/\gt s.1 8=l.length/\gt s.1 9=lo/\gt s.1 10=hi
   /\lo<=hi/\hi<=l.length/\hi-lo+k<=l.length/\(∀(i:Nat) (a:Nd),l[i]?=some a->i<lo->a.id<x)/\(∀(i:Nat) (a:Nd),l[i]?=some a->hi<=i->x<=a.id))
  (λo s=>o= .exit 0/\s.1.length=49/\gt s.1 0= .ls 3 cY false/\gt s.1 1=x/\gt s.1 2= .fn 163 []/\gt s.1 8=l.length/\∃lo:Nat,gt s.1 9=lo/\PU l x lo) l.length (by simp;omega) ?_ ?_ ?_
 .refine⟨0,l.length,?_⟩;simp[hq];intro i a ha q;have:=(Za.1 ha).1;omega
 .rintro k fr h eG ⟨lo,hi,cU,h0,h1,h2,h8,h9,lQ,q1,q2,q3,q4,q5⟩;simp only at cU h0 h1 h2 h8 h9 lQ;by_cases hh:lo<hi
  .have Ac:lo<=(lo+hi)/2:=by omega
   have Hg:(lo+hi)/2<hi:=by omega
   generalize yu:(lo+hi)/2=gj at Ac Hg;obtain⟨c,hc⟩:∃c,l[gj]?=some c:=⟨_,Zb (by omega)⟩;have hr:cY[gj]?=some (eo c):=by rw[hg,hc];rfl
   have du:=gA hr
   have e1:dM .i64 ((lo:Int)+hi)=((lo+hi:Nat):Int):=by rw[show(lo:Int)+hi=((lo+hi:Nat):Int) by omega];exact dh (by omega) (by omega)
   have e2:dM .u64 ((lo:Int)+hi)=(lo:Int)+hi:=kG (by omega) (by omega);have e3:((lo:Int)+hi)/2=(gj:Int):=by omega
   have e4:dM .i64 (gj:Int)=gj:=dh (by omega) (by omega);have e5:dM .i64 ((gj:Int)+1)=((gj+1:Nat):Int):=dh (by omega) (by omega);have N6:gj<l.length:=Ym Hg q2;by_cases hk:ej c.id x<0
   .simp[cU,h0,h1,h2,h8,h9,lQ,hh,e1,e2,e3,e4,e5,hq,N6,du,aa,hk,IntKind.bits];clear e1 e2 e3 e4 e5;refine⟨by omega,gj+1,by omega,hi,rfl,by omega,by omega,by omega,?_,q5⟩;intro i a ha q;have nM:c.id<x:=by unfold ej at hk;split at hk<;>omega
    by_cases h3:i=gj
    .subst h3;rw[hc]at ha;cases ha;exact nM
    .have:=hs i gj a c ha hc (by omega);omega
   .simp[cU,h0,h1,h2,h8,h9,lQ,hh,e1,e2,e3,e4,hq,N6,du,aa,hk,IntKind.bits];clear e1 e2 e3 e4 e5;refine⟨by omega,lo,rfl,gj,rfl,by omega,by omega,by omega,q4,?_⟩;intro i a ha q;have nM:x<=c.id:=by unfold ej at hk;split at hk<;>omega
    by_cases h3:i=gj
    .subst h3;rw[hc]at ha;cases ha;exact nM
    .have:=hs gj i c a hc ha (by omega);omega
  .have SL:lo=hi:=by omega
   subst SL;simp[cU,h0,h1,h2,h8,h9,lQ];exact⟨lo,rfl,q2,q4,q5⟩
 .rintro o fr h hn ⟨rfl,cU,h0,h1,h2,h8,lo,h9,hL⟩;simp only at cU h0 h1 h2 h8 h9;have wF:=hL.found hs;have C_:=hL.le;by_cases hh:lo<l.length
  .obtain⟨c,hc⟩:=eA hh;have hr:cY[lo]?=some (eo c):=by rw[hg,hc];rfl
   have du:=gA hr
   have ads:(dQ l x).isSome=decide (ej c.id x=0):=by
    rw[Bool.eq_iff_iff,wF,decide_eq_true_iff];rw[hc];unfold ej;constructor
    .rintro⟨a,ha,e⟩;cases ha;rw[db (by omega),db (by omega)]
    .intro e;refine⟨c,rfl,?_⟩;split at e<;>(try split at e)<;>omega
   rw[ads];simp[cU,h0,h1,h2,h8,h9,hh,hq,du,aa];exact gz ⟨_,rfl,lo,hL,rfl⟩
  .have SL:lo=l.length:=by omega
   have ads:(dQ l x).isSome=false:=by
    rw[Bool.eq_false_iff];intro e;obtain⟨a,ha,_⟩:=wF.1 e;have:=(Za.1 ha).1;omega
   rw[ads];simp[cU,h8,h9,hh];exact gz ⟨_,rfl,lo,hL,rfl⟩
def agc (n:Nat)(b:Bool)(l:List Nd)(x:Int)(h:Hp)(hl:l.length<=1000000000000000)(hs:uS l):
 cW cx (n+5) b 99 [gh l,x] h=some (.sc (.bool (dQ l x).isSome),h):=by
 refine fZ f99 [.tmp 4] (T0 _ _) rfl ?_ b h;obtain⟨r,⟨lo,hL,rfl⟩,aa⟩:=Dt n l x hl hs;generalize(dQ l x).isSome=r at aa;generalize n+4=M at aa;unfold gh at aa|-;simp[f99,aa]
end
end Go.Proofs.YtaibpnppeiigdaaGreatDoor
