/- Whether changes touch predicates: the program's. -/
import Derived.Test.YtadaeokidcgdlaaGreatDoorP148
import Derived.Test.YtadaeokidcgdlaaGreatDoorP41
import Derived.Test.YtadaeokidcgdlaaGreatDoorP39
import Derived.Test.YtadaeokidcgdlaaGreatDoorP19
set_option linter.unusedSimpArgs false
set_option maxRecDepth 100000
set_option linter.unusedVariables false
namespace Go.Proofs.YtadaeokidcgdlaaGreatDoor
open Go Go.Ae
section
attribute [local simp] aop aopW coldF extF putA ofConst flat scalarOp fastOp binFast intOp strOp guardX Ae.part rowOf szOk natOf lenA cls fillA splice newsOf isNilC cellX
set_option maxHeartbeats 32000000
def pdR (l:List Pr):List (List AV):=l.map encP
theorem pdR_length (l:List Pr):(pdR l).length=l.length:=by simp[pdR]
theorem pdR_get (l:List Pr)(i:Nat):(pdR l)[i]?=(l[i]?).map encP:=by simp[pdR]
@[simp] theorem encP_len (p:Pr):(encP p).length=8:=by obtain⟨k,n,y,v⟩:=p;obtain⟨a,b,c,d,e,f⟩:=v;rfl
@[simp] theorem encP_tk (p:Pr):(encP p).take 8=encP p:=by rw[List.take_of_length_le];rw[encP_len];exact Nat.le_refl _
def anyS :Gr→List Pr→List Ch→Bool
 |_,_,[]=>false
 |g,l,c::cs=>l.any (fun p=>touchS g p c)||anyS (appF g c).1 l cs
def anyF (g:Gr)(l:List Pr)(cs:List Ch):Bool:=if¬(allF g cs).2.2=0 then false else anyS g l cs
theorem allF_zero {g:Gr}{cs:List Ch}(h:(allF g cs).2.2=0):graphE g=0:=by
 unfold allF at h;split at h
 ·exact h
 ·rename_i q;exact Classical.not_not.1 q
theorem fine_zero (D:Nat):Fine D zeroG:=⟨⟨by decide,by decide,List.Pairwise.nil,List.Pairwise.nil,fun _ h=>(List.not_mem_nil h).elim,fun _ h=>(List.not_mem_nil h).elim⟩,⟨fun _ h=>(List.not_mem_nil h).elim,fun _ h=>(List.not_mem_nil h).elim⟩,fun _ h=>(List.not_mem_nil h).elim,fun _ h=>(List.not_mem_nil h).elim⟩
theorem fine_app {D:Nat}{g:Gr}{c:Ch}(H:Fine D g)(hd:dep c.v≤D)(hv:bdV c.v):Fine D (appF g c).1:=by
 unfold appF;split
 ·exact fine_zero D
 ·by_cases h0:(stepF g c).2=0
  ·exact fine_step H hd hv h0
  ·rw[stepF_err h0];exact fine_zero D
theorem t_any1 (n D:Nat)(b:Bool)(g:Gr)(p:Pr)(c:Ch)(h:Hp)(hb:GrB D g)(pd:dep p.v≤D∧bdV p.v)(cd:dep c.v≤D∧bdV c.v):
 callN cx (n+2*D+15) b 46 [.ag (encP p),.rp (encG g) 0,.rp (encC c) 0] h=some (.sc (.bool (touchS g p c)),h++[.row (encP p)]):=by
 rw[call_inl (n:=n+2*D+14) ⟨Tryz.f46.ntmps,(Tryz.f46.body).getD .skip,[.tmp 4]⟩ rfl (by kernel_rfl) (by kernel_rfl) (by kernel_rfl) (by kernel_rfl) (by simp[Tryz.f46])];have f1:=fun b h=>fp_Touches n D b g p c h hb pd.1 pd.2 cd.1 cd.2
 generalize touchS g p c=r at f1⊢;generalize n+2*D+14=M at f1⊢;clear hb pd cd;obtain⟨pk,pn,py,pv⟩:=p;obtain⟨ck,ca,cb,cc,cn,cv⟩:=c;obtain⟨k1,m1,d1,s1,z1,q1⟩:=pv;obtain⟨k2,m2,d2,s2,z2,q2⟩:=cv;simp only[encG,ndV,edV,encP,encC,enc,Zv,Zw]at f1⊢;generalize lsV z1 (encL q1)=y1 at f1⊢;generalize lsV z2 (encL q2)=y2 at f1⊢;simp[Tryz.f46,f1]
theorem sl_Index_any (n D:Nat)(b:Bool)(l:List Pr)(z:Bool)(g:Gr)(c:Ch)(h:Hp)(hl:l.length≤1000000000000000)(hb:GrB D g)(hp:∀p∈l,dep p.v≤D∧bdV p.v)(cd:dep c.v≤D∧bdV c.v):
 callN cx (n+2*D+16) b 93 [.ls 8 (pdR l) z,.fn 46 [.rp (encG g) 0,.rp (encC c) 0]] h=some (.sc (.int .i64 (idxPD (fun p=>touchS g p c) l 0)),h):=by
 refine pure_calm (n:=n+2*D+15) (r:= .sc (.int .i64 (idxPD (fun p=>touchS g p c) l 0))) ⟨Tryz.f93.ntmps,(Tryz.f93.body).getD .skip,[.tmp 4]⟩ (by kernel_rfl) (by kernel_rfl) rfl (by kernel_rfl) (by simp[Tryz.f93]) rfl rfl ?_ b h;have hq:=pdR_length l;have hg:=pdR_get l;have hcl:=fun b p h (k:p∈l)=>t_any1 n D b g p c h hb (hp p k) cd
 generalize pdR l=rows at hq hg;generalize n+2*D+15=M at hcl⊢;simp[Tryz.f93,hq];refine loop_up (C:=cx) (G:=fun r=>∃h',finX _ (thenX _ _ (blockX _ r) _)=some (_,h'))
  (fun i s=>idxPD (fun p=>touchS g p c) l 0=idxPD (fun p=>touchS g p c) l i∧s.1.length=19∧gt s.1 0= .ls 8 rows z∧gt s.1 1= .fn 46 [.rp (encG g) 0,.rp (encC c) 0]∧gt s.1 7= .sc (.int .i64 l.length)∧gt s.1 8= .sc (.int .i64 i))
  (fun o s=>s.1.length=19∧((o= .exit 0∧idxPD (fun p=>touchS g p c) l 0= -1)∨(o= .ret∧gt s.1 4= .sc (.int .i64 (idxPD (fun p=>touchS g p c) l 0))))) l.length (by simp;omega) (by simp) ?_ ?_
 ·rintro i fr h hle ⟨ho,hlen,h0,h1,h7,h8⟩;simp only at hlen h0 h1 h7 h8;by_cases hi:i<l.length
  ·obtain⟨p,hx⟩:∃p,l[i]?=some p:=⟨_,Zb hi⟩;have hr:rows[i]?=some (encP p):=by rw[hg,hx];rfl
   have hr':∀k,rows[i]'k=encP p:=fun k=>by obtain⟨_,e⟩:=Za.1 hr;exact e
   rw[idxPD_step hx]at ho;have hcx:=fun b h=>hcl b p h (Zi hx)
   have hf:fitI .i64 ((i:Int)+1)=((i+1:Nat):Int):=fit_i64 (by omega) (by omega);cases hk:touchS g p c
   ·rw[if_neg (by rw[hk];simp)]at ho;rw[hk]at hcx;simp[hlen,h0,h1,h7,h8,hi,hq,hr,hr',hcx,hf];exact ho
   ·rw[if_pos hk]at ho;rw[hk]at hcx;simp[hlen,h0,h1,h7,h8,hi,hq,hr,hr',hcx,ho]
  ·have zz:idxPD (fun p=>touchS g p c) l 0= -1:=by rw[ho,idxPD_end _ l i (by omega)]
   simp[hlen,h0,h1,h7,h8,hi,hq,zz]
 ·rintro o fr h hn ⟨hlen,⟨rfl,hz⟩|⟨rfl,h2⟩⟩
  ·simp only at hlen;simp[hlen,hz]
  ·simp only at h2;simp[h2]
theorem sl_Contains_any (n D:Nat)(b:Bool)(l:List Pr)(z:Bool)(g:Gr)(c:Ch)(h:Hp)(hl:l.length≤1000000000000000)(hb:GrB D g)(hp:∀p∈l,dep p.v≤D∧bdV p.v)(cd:dep c.v≤D∧bdV c.v):
 callN cx (n+2*D+17) b 45 [.ls 8 (pdR l) z,.fn 46 [.rp (encG g) 0,.rp (encC c) 0]] h=some (.sc (.bool (l.any fun p=>touchS g p c)),h):=by
 refine pure_calm (n:=n+2*D+16) (r:= .sc (.bool (l.any fun p=>touchS g p c))) ⟨Tryz.f45.ntmps,(Tryz.f45.body).getD .skip,[.tmp 4]⟩ (by kernel_rfl) (by kernel_rfl) rfl (by kernel_rfl) (by simp[Tryz.f45]) rfl rfl ?_ b h;have hc:=fun b h=>sl_Index_any n D b l z g c h hl hb hp cd
 have hw:=idxP_any (fun p=>touchS g p c) l 0;change(0≤idxPD (fun p=>touchS g p c) l 0)=_ at hw;generalize idxPD (fun p=>touchS g p c) l 0=w at hc hw;generalize n+2*D+16=M at hc⊢;cases hk:l.any fun p=>touchS g p c
 ·have:¬0≤w:=fun q=>by rw[hw.mp q]at hk;cases hk
  simp[Tryz.f45,hc,this]
 ·have:0≤w:=hw.mpr hk;simp[Tryz.f45,hc,this]
theorem snap_rp {h:Hp}{i:Nat}{xs:List AV}(k:At h i (.row xs))(hc:xs.all calm1=true)(n:Nat):Ae.snap h (n+1) (.pt i 0)=some (.rp xs 0):=by
 have e:rowOf h i=some xs:=rowOf_row k;show(match rowOf h i with|some cs=>(cs.mapM (Ae.snap h n)).map fun xs=>AV.rp xs 0|none=>none)=_;rw[e];dsimp only;rw[mapM_calm1 hc];rfl
theorem fp_Any (n D:Nat)(b:Bool)(g:Gr)(l:List Pr)(cs:List Ch)(y z:Bool)(h:Hp)(hg:GrB D g)(hl:l.length≤1000000)(hcl:cs.length≤1000000)(hp:∀p∈l,dep p.v≤D∧bdV p.v)(hc:∀c∈cs,dep c.v≤D∧bdV c.v):
 callN cx (n+2*D+18) b 16 [.ag (encG g),.ls 8 (pdR l) y,.ls 10 (chR cs) z] h=some (.sc (.bool (anyF g l cs)),h):=by
 refine pure_calm (n:=n+2*D+17) (r:= .sc (.bool (anyF g l cs))) ⟨Tryz.f16.ntmps,(Tryz.f16.body).getD .skip,[.tmp 6]⟩ (by kernel_rfl) (by kernel_rfl) rfl (by kernel_rfl) (by simp[Tryz.f16]) rfl rfl ?_ b h;have f1:=fun bb hh=>c_ApplyAll (n+5) D bb g cs z hh hg hcl fun he=>okF_of (fine_of he hg) hc
 have f2:=fun gi bb c hh (H:Fine D gi) (hd:dep c.v≤D∧bdV c.v)=>c_Apply (n+4) D bb gi c hh H.gr hd.1 hd.2
 have f3:=fun gi bb c hh (H:Fine D gi) (hd:dep c.v≤D∧bdV c.v)=>sl_Contains_any n D bb l y gi c hh (by omega) H.gr hp hd
 rw[show n+5+2*D+12=n+2*D+17 by omega]at f1;simp only[show n+4+2*D+13=n+2*D+17 by omega]at f2;have f4:∀(gi:Gr) (bb:Bool) (c:Ch) (hh:Hp) (i:Nat),Fine D gi→(dep c.v≤D∧bdV c.v)→At hh 0 (.row (encG gi))→At hh i (.row (encC c))→callN cx (n+2*D+17) bb 45 [.ls 8 (pdR l) y,.fn 46 [.pt 0 0,.pt i 0]] hh=some (.sc (.bool (l.any fun p=>touchS gi p c)),hh):=fun gi bb c hh i H hd k1 k2=>
  call_snap (n:=n+2*D+16) (ys:=[.ls 8 (pdR l) y,.fn 46 [.rp (encG gi) 0,.rp (encC c) 0]]) (by kernel_rfl) (by kernel_rfl) (by
   have e:Ae.snap hh 8 (.fn 46 [.pt 0 0,.pt i 0])=some (.fn 46 [.rp (encG gi) 0,.rp (encC c) 0]):=by
    show([.pt 0 0,.pt i 0].mapM (Ae.snap hh 7)).map (AV.fn 46)=_;rw[Zo,Zo,List.mapM_nil,snap_rp k1 rfl,snap_rp k2 (calm1_encC c)];rfl
   rw[Zo,Zo,List.mapM_nil,e];rfl) rfl rfl (f3 gi bb c hh H hd)
 unfold anyF;have hz:=allF_zero (g:=g) (cs:=cs);generalize allF g cs=r at f1 hz⊢;obtain⟨G,i0,e⟩:=r;dsimp only at f1 hz⊢;generalize n+2*D+17=M at f1 f2 f4⊢;clear f3;have hq:=chR_length cs;have hgt:=chR_get cs;generalize pdR l=prs at f4⊢;generalize chR cs=rows at f1 hq hgt⊢;by_cases he:e=0
 ·rw[if_neg (by simp[he])];have F0:=fine_of (hz he) hg;subst he;simp only[encG,ndV,edV]at f1;simp[Tryz.f16,encG,ndV,edV,f1,splice,hq];refine loop_up (C:=cx) (G:=fun r=>∃h',finX _ (thenX _ _ (blockX _ r) _)=some (_,h'))
   (fun i s=>∃gi,i≤cs.length∧s.1.length=37∧gt s.1 1= .ls 8 prs y∧gt s.1 3= .pt 0 0∧gt s.1 21= .ls 10 rows z∧gt s.1 22= .sc (.int .i64 cs.length)∧gt s.1 23= .sc (.int .i64 i)∧anyS g l cs=anyS gi l (cs.drop i)∧Fine D gi∧At s.2 0 (.row (encG gi)))
   (fun o s=>s.1.length=37∧((o= .exit 0∧anyS g l cs=false)∨(o= .ret∧gt s.1 6= .sc (.bool true)∧anyS g l cs=true))) cs.length (by simp;omega) ?_ ?_ ?_
  ·exact⟨g,by omega,rfl,rfl,rfl,rfl,rfl,rfl,rfl,F0,rfl⟩
  ·rintro i fr hp2 hle' ⟨gi,hle2,hlen,g1,g3,g21,g22,g23,hst,FI,hz0⟩;simp only at hlen g1 g3 g21 g22 g23 hz0;by_cases hi:i<cs.length
   ·obtain⟨c,hcx⟩:∃e,cs[i]?=some e:=⟨_,Zb hi⟩;have hr:rows[i]?=some (encC c):=by rw[hgt,hcx];rfl
    have hr':∀k,rows[i]'k=encC c:=fun k=>by obtain⟨_,e⟩:=Za.1 hr;exact e
    have hdr:cs.drop i=c::cs.drop (i+1):=by
     obtain⟨k,e⟩:=Za.1 hcx;rw[Zm k,e]
    have hcd:=hc c (Zi hcx);have hfa:=fine_app (c:=c) FI hcd.1 hcd.2;have f2:=fun bb hh=>f2 gi bb c hh FI hcd
    rw[hdr,anyS]at hst;have hf:=fit_succ (i:=i) (by omega);generalize appF gi c=r at hst f2 hfa;obtain⟨G',e'⟩:=r;dsimp only at hst f2 hfa;have l0:=hz0.lt;have a0:=hz0.eq0;have an:∀y,(hp2++[y])[hp2.length]?=some y:=fun y=>by simp
    have k1:At (hp2++[.row (encC c)]) 0 (.row (encG gi)):=hz0.app _;have k2:At (hp2++[.row (encC c)]) hp2.length (.row (encC c)):=by unfold At;simp
    have kq:∀y k,(hp2++y)[0]'k= .row (encG gi):=fun y k=>(hz0.app y).get k
    have kn:∀x k,(hp2++[x])[hp2.length]'k=x:=fun x k=>by simp
    have f4:=fun bb=>f4 gi bb c _ _ FI hcd k1 k2
    have k1':=k1.eq0;have s1:∀w,At ((hp2++[Blk.row (encC c)]).set 0 w) 0 w:=fun w=>k1.new w
    generalize l.any (fun p=>touchS gi p c)=T at f4 hst;cases T
    ·rw[Bool.false_or]at hst;simp only[encG,ndV,edV]at f2 a0 k1' kq;simp[hlen,g1,g3,g21,g22,g23,hi,hq,hr,hr',f4,f2,hf,an,k1',kq,splice];exact⟨hi,G',hst,hfa,s1 _⟩
    ·simp[hlen,g1,g3,g21,g22,g23,hi,hq,hr,hr',f4,hst,an,splice]
   ·have hil:i=cs.length:=Nat.le_antisymm hle2 (Yb hi);subst hil;rw[List.drop_length,anyS]at hst;simp[hlen,g1,g3,g21,g22,g23,hst]
  ·rintro o fr h2 hn ⟨hlen,⟨rfl,hst⟩|⟨rfl,g6,hst⟩⟩
   ·simp only at hlen;simp[hlen,hst]
   ·simp only at g6;simp[g6,hst]
 ·rw[if_pos he];simp only[encG,ndV,edV]at f1;simp[Tryz.f16,encG,ndV,edV,f1,he,splice]
def anyD (f:Pr→Bool)(l:List Pr)(j:Nat):Bool:=(l.drop j).any f
theorem anyD_end (f:Pr→Bool)(l:List Pr)(j:Nat)(h:l.length≤j):anyD f l j=false:=by unfold anyD;rw[Zt h];rfl
theorem anyD_step {f:Pr→Bool}{l:List Pr}{j:Nat}{p:Pr}(h:l[j]?=some p):anyD f l j=(f p||anyD f l (j+1)):=by
 obtain⟨k,e⟩:=Za.1 h;unfold anyD;rw[Zm k,e,List.any_cons]
theorem r45_Any (N D:Nat)(b:Bool)(g:Gr)(l:List Pr)(cs:List Ch)(y z:Bool)(h:Hp)(hg:GrB D g)(hl:l.length≤1000000)(hcl:cs.length≤1000000)(hp:∀p∈l,dep p.v≤D∧bdV p.v)(hc:∀c∈cs,dep c.v≤D∧bdV c.v):
 callN cx (N+3*D+13) b 17 [.ag (encG g),.ls 8 (pdR l) y,.ls 10 (chR cs) z] h=some (.sc (.bool (anyF g l cs)),h):=by
 refine pure_calm (n:=N+3*D+12) (r:= .sc (.bool (anyF g l cs))) ⟨Tryz.f17.ntmps,(Tryz.f17.body).getD .skip,[.tmp 6]⟩ (by kernel_rfl) (by kernel_rfl) rfl (by kernel_rfl) (by simp[Tryz.f17]) rfl rfl ?_ b h;have f1:=fun bb hh=>r08_ApplyAll (N+1) D bb g cs z hh hg hcl hc
 have f2:=fun gi bb c hh (H:Fine D gi) (hd:dep c.v≤D∧bdV c.v)=>r08_Apply (N+1) D bb gi c hh H.gr hd.1 hd.2
 have f3:=fun gi bb p c hh (H:Fine D gi) (pd:dep p.v≤D∧bdV p.v) (cd:dep c.v≤D∧bdV c.v)=>r45_Touches N D bb gi p c hh H.gr pd.1 pd.2 cd.1 cd.2
 rw[show N+1+3*D+11=N+3*D+12 by omega]at f1;simp only[show N+1+3*D+11=N+3*D+12 by omega]at f2;unfold anyF;have hz:=allF_zero (g:=g) (cs:=cs);generalize allF g cs=r at f1 hz⊢;obtain⟨G,i0,e⟩:=r;dsimp only at f1 hz⊢;generalize N+3*D+12=M at f1 f2 f3⊢;have hq:=chR_length cs;have hgt:=chR_get cs;have hql:=pdR_length l;have hgl:=pdR_get l;generalize pdR l=prs at f1 hql hgl⊢;generalize chR cs=rows at f1 hq hgt⊢;by_cases he:e=0
 ·rw[if_neg (by simp[he])];have F0:=fine_of (hz he) hg;subst he;simp only[encG,ndV,edV]at f1;simp[Tryz.f17,encG,ndV,edV,f1,splice];refine loop_up (C:=cx) (G:=fun r=>∃h',finX _ (thenX _ _ (blockX _ r) _)=some (_,h'))
   (fun i s=>∃gi,i≤cs.length∧s.1.length=52∧gt s.1 1= .ls 8 prs y∧gt s.1 2= .ls 10 rows z∧gt s.1 3= .pt 0 0∧gt s.1 10= .sc (.int .i64 i)∧anyS g l cs=anyS gi l (cs.drop i)∧Fine D gi∧At s.2 0 (.row (encG gi)))
   (fun o s=>s.1.length=52∧((o= .exit 0∧anyS g l cs=false)∨(o= .ret∧gt s.1 6= .sc (.bool true)∧anyS g l cs=true))) cs.length (by simp;omega) ?_ ?_ ?_
  ·exact⟨g,by omega,rfl,rfl,rfl,rfl,rfl,rfl,F0,rfl⟩
  ·rintro i fr hp2 hle' ⟨gi,hle2,hlen,g1,g2,g3,g10,hst,FI,hz0⟩;simp only at hlen g1 g2 g3 g10 hz0;by_cases hi:i<cs.length
   ·obtain⟨c,hcx⟩:∃e,cs[i]?=some e:=⟨_,Zb hi⟩;have hr:rows[i]?=some (encC c):=by rw[hgt,hcx];rfl
    have hr':∀k,rows[i]'k=encC c:=fun k=>by obtain⟨_,e⟩:=Za.1 hr;exact e
    have hdr:cs.drop i=c::cs.drop (i+1):=by
     obtain⟨k,e⟩:=Za.1 hcx;rw[Zm k,e]
    have hcd:=hc c (Zi hcx);have hfa:=fine_app (c:=c) FI hcd.1 hcd.2;have f2:=fun bb hh=>f2 gi bb c hh FI hcd
    have f3:=fun bb p hh (k:p∈l)=>f3 gi bb p c hh FI (hp p k) hcd
    rw[hdr,anyS]at hst;have hf:=fit_succ (i:=i) (by omega);generalize appF gi c=r at hst f2 hfa;obtain⟨G',e'⟩:=r;dsimp only at hst f2 hfa;have a0:=hz0.eq0;have s1:∀w,At (hp2.set 0 w) 0 w:=fun w=>hz0.new w
    have hT:l.any (fun p=>touchS gi p c)=anyD (fun p=>touchS gi p c) l 0:=rfl;rw[hT]at hst;simp only[encG,ndV,edV]at f2 f3 a0;simp[hlen,g1,g2,g3,g10,hi,hq,hr,hr',hf];generalize hX:exec2 cx (callN cx M) (Code.loop _) _=X;obtain⟨o2,fr2,hp3,rfl,hlen2,q1,q2,q3,q10,hh3,hq2⟩:=loop_exU (call:=callN cx M)
     (fun j st=>j≤l.length∧anyD (fun p=>touchS gi p c) l 0=anyD (fun p=>touchS gi p c) l j∧st.1.length=52∧gt st.1 1= .ls 8 prs y∧gt st.1 2= .ls 10 rows z∧gt st.1 3= .pt 0 0∧gt st.1 10= .sc (.int .i64 i)∧gt st.1 11= .sc (.int .i64 j)∧st.2=hp2)
     (fun o s=>s.1.length=52∧gt s.1 1= .ls 8 prs y∧gt s.1 2= .ls 10 rows z∧gt s.1 3= .pt 0 0∧gt s.1 10= .sc (.int .i64 i)∧s.2=hp2∧((o= .exit 2∧anyD (fun p=>touchS gi p c) l 0=false)∨(o= .ret∧gt s.1 6= .sc (.bool true)∧anyD (fun p=>touchS gi p c) l 0=true))) l.length (by simp;omega) X _ _ _ hX ⟨by omega,rfl,by simp[hlen],by simp[hlen,g1],by simp[hlen,g2],by simp[hlen,g3],by simp[hlen,g10],by simp[hlen],rfl⟩ (by
      clear g1 g2 g3 g10 hlen hX f2 f1;rintro j fr hp2' hlj' ⟨hlj,hany,hlen,g1,g2,g3,g10,g11,hh⟩;simp only at hlen g1 g2 g3 g10 g11 hh;subst hh;by_cases hj:j<l.length
      ·obtain⟨p,hpx⟩:∃e,l[j]?=some e:=⟨_,Zb hj⟩;have hrp:prs[j]?=some (encP p):=by rw[hgl,hpx];rfl
       have hrp':∀k,prs[j]'k=encP p:=fun k=>by obtain⟨_,e⟩:=Za.1 hrp;exact e
       have f3:=fun bb hh=>f3 bb p hh (Zi hpx)
       rw[anyD_step hpx]at hany;have hfj:=fit_succ (i:=j) (by omega);cases hk:touchS gi p c
       ·rw[hk]at f3;rw[hk,Bool.false_or]at hany;simp[hlen,g1,g2,g3,g10,g11,hi,hj,hq,hql,hr,hr',hrp,hrp',a0,f3,hfj];exact⟨hj,hany⟩
       ·rw[hk]at f3;rw[hk,Bool.true_or]at hany;simp[hlen,g1,g2,g3,g10,g11,hi,hj,hq,hql,hr,hr',hrp,hrp',a0,f3,hfj];exact hany
      ·have zz:anyD (fun p=>touchS gi p c) l 0=false:=by rw[hany,anyD_end _ _ _ (by omega)]
       simp[hlen,g1,g2,g3,g10,g11,hi,hj,hq,hql,zz])
    simp only at hlen2 q1 q2 q3 q10 hh3 hq2;subst hh3;rcases hq2 with⟨rfl,hf0⟩|⟨rfl,q6,hf1⟩
    ·rw[hf0,Bool.false_or]at hst;simp[hlen2,q1,q2,q3,q10,hi,hq,hr,hr',a0,f2,hf,splice];exact⟨hi,G',hst,hfa,s1 _⟩
    ·rw[hf1,Bool.true_or]at hst;simp[hlen2,q6,hst]
   ·have hil:i=cs.length:=Nat.le_antisymm hle2 (Yb hi);subst hil;rw[List.drop_length,anyS]at hst;simp[hlen,g1,g2,g3,g10,hq,hst]
  ·rintro o fr h2 hn ⟨hlen,⟨rfl,hst⟩|⟨rfl,g6,hst⟩⟩
   ·simp only at hlen;simp[hlen,hst]
   ·simp only at g6;simp[g6,hst]
 ·rw[if_pos he];simp only[encG,ndV,edV]at f1;simp[Tryz.f17,encG,ndV,edV,f1,he,splice]
set_option maxHeartbeats 16000000
theorem fa_walk (M:Nat)(g:Gr)(prs rows:List (List AV))(y z u s:Bool)
 (hS:∀t h,callN cx M t 13 [.ag (encG g),.sc (.int .i64 40),.sc (.int .i64 60)] h=some (.sc (.bool s),h))
 (hT:¬20<prs.length→¬12<rows.length→∀t h,callN cx M t 16 [.ag (encG g),.ls 8 prs y,.ls 10 rows z] h=some (.sc (.bool u),h))
 (hR:¬20<prs.length→¬12<rows.length→∀t h,callN cx M t 17 [.ag (encG g),.ls 8 prs y,.ls 10 rows z] h=some (.sc (.bool u),h))
 (hl:∀t h,callN cx M t 9 [] h=some (.sc (.bool true),h)):
 ∃h',finX [.tmp 6] (exec2 cx (callN cx M) ((Tryz.f5.body).getD .skip) ([.ag (encG g),.ls 8 prs y,.ls 10 rows z]++List.replicate (Tryz.f5.ntmps-3) .un,[]))=some (.sc (.bool true),h'):=by
 simp only[encG,ndV,edV]at hS hT hR⊢;by_cases h1:20<prs.length
 ·have h1':(20:Int)<prs.length:=by omega
  by_cases h2:12<rows.length
  ·have h2':(12:Int)<rows.length:=by omega
   cases s<;>simp[Tryz.f5,hS,hl,h1,h1',h2,h2']
  ·have h2':¬(12:Int)<rows.length:=by omega
   cases s<;>simp[Tryz.f5,hS,hl,h1,h1',h2,h2']
 ·have h1':¬(20:Int)<prs.length:=by omega
  by_cases h2:12<rows.length
  ·have h2':(12:Int)<rows.length:=by omega
   cases s<;>simp[Tryz.f5,hS,hl,h1,h1',h2,h2']
  ·have h2':¬(12:Int)<rows.length:=by omega
   have hT:=hT h1 h2;have hR:=hR h1 h2;cases s
   ·simp[Tryz.f5,hS,hl,h1,h1',h2,h2']
   ·simp[Tryz.f5,hS,hT,hR,hl,h1,h1',h2,h2']
end
end Go.Proofs.YtadaeokidcgdlaaGreatDoor
