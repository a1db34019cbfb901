/- Does a change touch what a rule reads: the program's answer is the reference's. -/
import Derived.Test.YtadaeokidcgdlaaGreatDoorP40
set_option linter.unusedSimpArgs false
set_option maxRecDepth 100000
set_option linter.unusedVariables false
namespace Go.Proofs.YtadaeokidcgdlaaGreatDoor
open Go Go.Ae
section
attribute [local simp] aop aopW coldF extF putA ofConst flat scalarOp fastOp binFast intOp strOp guardX Ae.part rowOf szOk natOf lenA cls fillA splice newsOf isNilC cellX
set_option maxHeartbeats 4000000
theorem plain_l {v:V}(h:plainV v=true):v.l=[]∧v.k≠0:=by
 obtain⟨k,n,d,s,z,l⟩:=v;unfold plainV okT at h;rw[okV]at h;simp only[Zh,Bool.or_eq_true,Zz,V.k,List.isEmpty_iff]at h;obtain⟨⟨⟨_,h1⟩,_⟩,h2⟩:=h;refine⟨?_,?_⟩
 ·show l=[];rcases h1 with(q|q)|q
  ·subst q;simp at h2
  ·subst q;simp at h2
  ·exact q
 ·show k≠0;rintro rfl;simp at h2
theorem parts_plain {l:List ByteArray}{p:List Prp}(h:partsE l p=0):∀x∈p,plainV x.v=true:=by
 unfold partsE at h;split at h
 ·cases h
 ·split at h
  ·cases h
  ·split at h
   ·cases h
   ·split at h
    ·cases h
    ·rename_i q;rw[Bool.not_eq_false]at q;exact fun x hx=>List.all_eq_true.1 q x hx
theorem eqS_comm (x y:ByteArray):eqS x y=eqS y x:=by
 rw[Bool.eq_iff_iff,eqS_iff,eqS_iff];exact eq_comm
theorem propAt_or (l:List Prp)(x:ByteArray):(propAt l x=zeroV∧l.any (eqR x)=false)∨∃c∈l,propAt l x=c.v∧l.any (eqR x)=true:=by
 induction l with
 |nil=>exact .inl ⟨rfl,rfl⟩
 |
  cons c l ih=>
  rw[propAt,List.any_cons];by_cases h:eqS c.key x=true
  ·rw[if_pos h];exact .inr ⟨c,by simp,rfl,by unfold eqR;rw[h];rfl⟩
  ·have e:eqR x c=false:=by unfold eqR;simpa using h
   rw[if_neg h,e,Bool.false_or];rcases ih with q|⟨d,hd,q⟩
   ·exact .inl q
   ·exact .inr ⟨d,by simp[hd],q⟩
theorem cln_cln (v:V):clnV (clnV v)=clnV v:=rfl
theorem propAt_cln (l:List Prp)(x:ByteArray):clnV (propAt (l.map clnP) x)=clnV (propAt l x):=by
 induction l with
 |nil=>rfl
 |
  cons c l ih=>
  rw[List.map_cons,propAt,propAt];by_cases h:eqS c.key x=true
  ·rw[if_pos h,if_pos (show eqS (clnP c).key x=true from h)];exact cln_cln _
  ·rw[if_neg h,if_neg (show¬eqS (clnP c).key x=true from h)];exact ih
theorem eqV_cln {v:V}(w:V)(h:v.l=[]):eqV (clnV v) w=eqV v w:=by
 obtain⟨k,n,d,s,z,l⟩:=v;have h:l=[]:=h;subst h;show eqV (.mk k n d s false []) w=_;have e:okT (.mk k n d s false [])=okT (.mk k n d s z []):=by unfold okT;rw[okV,okV]
 unfold eqV numB numN numD;rw[e];rfl
theorem propAt_l {l:List Prp}(h:∀c∈l,plainV c.v=true)(x:ByteArray):(propAt l x).l=[]:=by
 rcases propAt_or l x with⟨q,_⟩|⟨c,hc,q,_⟩
 ·rw[q];rfl
 ·rw[q];exact(plain_l (h c hc)).1
theorem keyed_any {l:List Prp}(h:∀c∈l,plainV c.v=true)(x:ByteArray):l.any (eqR x)=keyedS l x:=by
 unfold keyedS;rcases propAt_or l x with⟨q,e⟩|⟨c,hc,q,e⟩
 ·rw[q,e];rfl
 ·rw[q,e];simp[(plain_l (h c hc)).2]
theorem any_cln (l:List Prp)(x:ByteArray):(l.map clnP).any (eqR x)=l.any (eqR x):=by
 rw[List.any_map];rfl
theorem any_same (l:List ByteArray)(x:ByteArray):l.any (sameS x)=((eqS x ⟨#[]⟩ && decide (0<l.length))||hasS l x):=by
 unfold hasS
 induction l with
 |nil=>simp
 |
  cons y l ih=>
  rw[List.any_cons,List.any_cons,ih];unfold sameS;rw[eqS_comm y x];cases eqS x ⟨#[]⟩<;>simp
theorem touN_law {o:Option Nd}{p:Pr}{c:Ch}(h:∀m,o=some m→∀x∈m.props,plainV x.v=true):touN (clnN o) p c=nodesS (ndZ o) p c:=by
 have e:clnN o=⟨(ndZ o).id,(ndZ o).labels,(ndZ o).props.map clnP⟩:=by cases o<;>rfl
 have hp:∀x∈(ndZ o).props,plainV x.v=true:=by
  cases o with
  |none=>exact fun x hx=>by cases hx
  |some m=>exact h m rfl
 rw[e];generalize ndZ o=m at hp;unfold touN nodesS equalS;dsimp only;rw[propAt_cln,eqV_cln _ (propAt_l hp _),any_cln,keyed_any hp,any_same];unfold sameS;rw[eqS_comm c.name p.n];generalize keyedS m.props p.n=u1;generalize hasS m.labels p.n=u2;generalize decide (eqV (propAt m.props p.y) p.v=2)=u3;generalize decide (eqV c.v p.v=2)=u4;generalize eqS p.n ⟨#[]⟩=u5;generalize eqS p.n c.name=u6;generalize eqS c.name p.y=u7;generalize decide (0<m.labels.length)=u8;by_cases p1:p.k=1
 ·by_cases c1:c.k=1
  ·simp[p1,c1]
  ·by_cases c2:c.k=2<;>simp[p1,c1,c2]
 ·by_cases p2:p.k=2
  ·by_cases c2:c.k=2
   ·simp[p1,p2,c2]
   ·by_cases c3:c.k=3
    ·simp[p2,c3]
    ·by_cases c4:c.k=4<;>simp[p2,c2,c3,c4]
  ·by_cases p3:p.k=3
   ·simp[p3]
   ·by_cases p4:p.k=4
    ·by_cases c2:c.k=2
     ·cases u2<;>cases u3<;>simp[p4,c2]
     ·by_cases c3:c.k=3
      ·simp[p4,c3]
      ·by_cases c4:c.k=4
       ·simp[p4,c4]
       ·by_cases c5:c.k=5
        ·cases u7<;>simp[p4,c5]
        ·simp[p4,c2,c3,c4,c5]
    ·simp[p1,p2,p3,p4]
def touP (g:Gr)(p:Pr)(c:Ch):Bool:=
 if¬(appF g c).2=0 then false
 else if c.k≤5 then touN (clnN (nodeAt g.nodes c.a)) p c
 else if p.k=5 then !decide (c.k=8) && sameS p.n (if c.k=6 then c.name else(clnE (edgeAt g.edges c.a)).type)
 else if p.k=6 then(decide (c.k=8) && eqS c.name p.n)||(decide (c.k=7) && (clnE (edgeAt g.edges c.a)).props.any (eqR p.n))
 else false
theorem app_graph {g:Gr}{c:Ch}(h:(appF g c).2=0):graphE g=0:=by
 unfold appF at h;split at h
 ·rename_i q;exact absurd h q
 ·rename_i q;omega
theorem touP_law (g:Gr)(p:Pr)(c:Ch):touP g p c=touchS g p c:=by
 unfold touP touchS;by_cases hE:(appF g c).2=0
 ·have hE':¬ ¬(appF g c).2=0:=fun q=>q hE
  rw[if_neg hE',if_neg hE'];have hg:=gv_of (app_graph hE);by_cases h5:c.k≤5
  ·rw[if_pos h5,if_pos h5];exact touN_law fun m hm=>parts_plain (hg.np m (nodeAt_id hm).1)
  ·rw[if_neg h5,if_neg h5];have hk:6≤c.k∧c.k≤8:=by
    rcases appF_ok hE with e|e|⟨e,_⟩|⟨e,_⟩<;>omega
   by_cases p5:p.k=5
   ·rw[if_pos p5,if_pos p5];have e:(clnE (edgeAt g.edges c.a)).type=(edZ (edgeAt g.edges c.a)).type:=by cases edgeAt g.edges c.a<;>rfl
    rw[e];unfold sameS;by_cases c6:c.k=6
    ·simp[c6]
    ·by_cases c7:c.k=7
     ·simp[c7]
     ·have c8:c.k=8:=by omega
      simp[c8]
   ·rw[if_neg p5,if_neg p5];have e:(clnE (edgeAt g.edges c.a)).props.any (eqR p.n)=keyedS (edZ (edgeAt g.edges c.a)).props p.n:=by
     cases q:edgeAt g.edges c.a with
     |none=>rfl
     |some m=>exact(any_cln _ _).trans (keyed_any (parts_plain (hg.ep m (edgeAt_id q).1)) _)
    rw[e];by_cases p6:p.k=6<;>simp[p6]
 ·rw[if_pos hE,if_pos hE]
set_option maxHeartbeats 16000000
theorem bd_cln {v:V}(h:bdV v):bdV (clnV v):=by
 obtain⟨k,n,d,s,z,l⟩:=v;unfold clnV;rw[bdV]at h⊢;exact⟨h.1,Nat.zero_le _,by rw[bdL];trivial⟩
theorem bd_zero :bdV zeroV:=by
 unfold zeroV;rw[bdV];exact⟨Nat.zero_le _,Nat.zero_le _,by rw[bdL];trivial⟩
theorem gv_node {g:Gr}(hg:GV g):∀m∈g.nodes,m.labels.length≤1000000∧m.props.length≤1000000∧∀c∈m.props,c.v.l=[]:=fun m hm=>by
 have q:=partsE_zero (hg.np m hm);exact⟨by omega,by omega,fun c hc=>(plain_l (parts_plain (hg.np m hm) c hc)).1⟩
theorem gv_edge {g:Gr}(hg:GV g):∀m∈g.edges,m.props.length≤1000000∧∀c∈m.props,c.v.l=[]:=fun m hm=>by
 have q:=partsE_zero (hg.ep m hm);exact⟨by omega,fun c hc=>(plain_l (parts_plain (hg.ep m hm) c hc)).1⟩
theorem tnb_of {D:Nat}{g:Gr}{p:Pr}{c:Ch}(hg:GV g)(hb:GrB D g)(pd:dep p.v≤D)(pv:bdV p.v)(cd:dep c.v≤D)(cv:bdV c.v):TnB (D+1) (clnN (nodeAt g.nodes c.a)) p c:=by
 rcases ho:nodeAt g.nodes c.a with _|m
 ·exact{ll:=by simp[clnN],pl:=by simp[clnN],pe:=fun x hx=>(by cases hx),ob:=bd_cln bd_zero,pd:=by omega,pv:=pv,cd:=by omega,cv:=cv}
 ·have hm:=(nodeAt_id ho).1;have q:=gv_node hg m hm;refine⟨by show m.labels.length≤_;omega,by show(m.props.map clnP).length≤_;rw[Yk];omega,fun x hx=>?_,?_,by omega,pv,by omega,cv⟩
  ·obtain⟨y,_,rfl⟩:=Yi.1 (show x∈m.props.map clnP from hx);rfl
  ·show bdV (clnV (propAt (m.props.map clnP) p.y));rw[propAt_cln];refine bd_cln ?_;rcases propAt_or m.props p.y with⟨e,_⟩|⟨x,hx,e,_⟩
   ·rw[e];exact bd_zero
   ·rw[e];exact((hb.ns m hm).2.2 x hx).2
theorem fp_Touches (N D:Nat)(b:Bool)(g:Gr)(p:Pr)(c:Ch)(h:Hp)(hb:GrB D g)(pd:dep p.v≤D)(pv:bdV p.v)(cd:dep c.v≤D)(cv:bdV c.v):
 callN cx (N+2*D+14) b 14 [.ag (encG g),.ag (encP p),.ag (encC c)] h=some (.sc (.bool (touchS g p c)),h):=by
 rw[←touP_law];refine pure_calm (r:= .sc (.bool (touP g p c))) (n:=N+2*D+13) ⟨Tryz.f14.ntmps,(Tryz.f14.body).getD .skip,[.tmp 6]⟩ (by kernel_rfl) (by kernel_rfl) rfl (by kernel_rfl) (by simp[Tryz.f14]) (calm_gpc _ _ _) rfl ?_ b h;have f1:=fun b h=>c_Apply N D b g c h hb cd cv
 have f2:=fun b h (k:GV g)=>g_Node (N+2*D+9) b g c.a h hb.nl (gv_node k)
 have f3:=fun b h (k:GV g)=>g_Edge (N+2*D+9) b g c.a h hb.el (gv_edge k)
 have f4:=fun b h (k:GV g)=>fp_touN (N+2) D b (clnN (nodeAt g.nodes c.a)) p c h (tnb_of k hb pd pv cd cv)
 rw[show N+2+2*D+11=N+2*D+13 by omega]at f4;have f5:=fun b h (k:GV g)=>fp_has (N+2*D+9) b (clnE (edgeAt g.edges c.a)).props false p.n h (by
  cases ho:edgeAt g.edges c.a with
  |none=>simp[clnE]
  |
   some m=>
   have q:=gv_edge k m (edgeAt_id ho).1;show(m.props.map clnP).length≤_;rw[Yk];omega)
 have f6:=fun b x h=>fp_same (N+2*D+12) b p.n x h
 have hok:=appF_ok (g:=g) (c:=c);have hgr:=app_graph (g:=g) (c:=c);unfold touP;generalize(edgeAt g.edges c.a).isSome=b1 at f3;generalize(nodeAt g.nodes c.a).isSome=b2 at f2;have hk:(appF g c).2=0→¬c.k≤5→c.k=6∨c.k=7∨c.k=8:=fun he h5=>by
  rcases hok he with e|e|⟨e,_⟩|⟨e,_⟩<;>omega
 clear hok;generalize appF g c=r at f1 hgr hk⊢;obtain⟨G,E⟩:=r;dsimp only at f1 hgr hk⊢;by_cases hE:E=0
 ·subst hE;have hg:=gv_of (hgr rfl);have hk0:=hk rfl;have j2:=fun b h=>f2 b h hg
  have j3:=fun b h=>f3 b h hg
  have j4:=fun b h=>f4 b h hg
  have j5:=fun b h=>f5 b h hg
  clear f2 f3 f4 f5 hk hgr hg hb pd pv cd cv;rw[if_neg (by simp)];generalize clnE (edgeAt g.edges c.a)=e at j3 j5⊢;generalize clnN (nodeAt g.nodes c.a)=m at j2 j4⊢;generalize touN m p c=u1 at j4⊢;generalize e.props.any (eqR p.n)=u2 at j5⊢;obtain⟨pk,pn,py,pv⟩:=p;obtain⟨ck,ca,cb,cc,cn,cv⟩:=c;obtain⟨k1,m1,d1,s1,z1,q1⟩:=pv;obtain⟨k2,m2,d2,s2,z2,q2⟩:=cv;obtain⟨nid,labels,nprops⟩:=m;obtain⟨eid,esrc,edst,etype,eprops⟩:=e;simp only[encN,encE,encG,ndV,edV,tsV,prV,encP,encC,enc,ndC,edC,Zv,Zw]at f1 j2 j3 j4 j5⊢;generalize lsV z1 (encL q1)=y1 at j4⊢;generalize lsV z2 (encL q2)=y2 at f1 j4⊢;generalize N+2*D+13=M at f1 j2 j3 j4 j5 f6;by_cases h5:ck≤5
  ·rw[if_pos h5];simp[Tryz.f14,f1,j2,j4,h5]
  ·rw[if_neg h5];rcases hk0 h5 with rfl|rfl|rfl
   ·by_cases p5:pk=5
    ·simp[Tryz.f14,f1,j3,f6,p5]
    ·by_cases p6:pk=6
     ·simp[Tryz.f14,f1,j3,p6]
     ·simp[Tryz.f14,f1,j3,p5,p6]
   ·by_cases p5:pk=5
    ·simp[Tryz.f14,f1,j3,f6,p5]
    ·by_cases p6:pk=6
     ·simp[Tryz.f14,f1,j3,j5,p6]
     ·simp[Tryz.f14,f1,j3,p5,p6]
   ·by_cases p5:pk=5
    ·simp[Tryz.f14,f1,j3,f6,p5]
    ·by_cases p6:pk=6
     ·cases e1:eqS cn pn<;>simp[Tryz.f14,f1,j3,p6,e1]
     ·simp[Tryz.f14,f1,j3,p5,p6]
 ·rw[if_pos hE];clear f2 f3 f4 f5 f6 hgr hk hb pd pv cd cv;obtain⟨pk,pn,py,pv⟩:=p;obtain⟨ck,ca,cb,cc,cn,cv⟩:=c;obtain⟨k1,m1,d1,s1,z1,q1⟩:=pv;obtain⟨k2,m2,d2,s2,z2,q2⟩:=cv;simp only[encN,encE,encG,ndV,edV,tsV,prV,encP,encC,enc,ndC,edC,Zv,Zw]at f1⊢;generalize lsV z1 (encL q1)=y1;generalize lsV z2 (encL q2)=y2 at f1⊢;generalize N+2*D+13=M at f1;simp[Tryz.f14,f1,hE]
end
end Go.Proofs.YtadaeokidcgdlaaGreatDoor
