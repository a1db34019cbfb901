/- A change of a node and what a rule reads of it: the reference's. -/
import Derived.Test.YtadaeokidcgdlaaGreatDoorP31
import Derived.Test.YtadaeokidcgdlaaGreatDoorP20
set_option linter.unusedSimpArgs false
set_option maxRecDepth 100000
set_option linter.unusedVariables false
namespace Go.Proofs.YtadaeokidcgdlaaGreatDoor
open Go Go.Ae
section
attribute [local simp] aop aopW coldF extF putA ofConst flat scalarOp fastOp binFast intOp strOp guardX Ae.part rowOf szOk natOf lenA cls fillA splice newsOf isNilC cellX
set_option maxHeartbeats 16000000
def nodesS (n:Nd)(p:Pr)(c:Ch):Bool:=
 if p.k=1 then decide (c.k=1)||decide (c.k=2)
 else if p.k=2 then(if c.k=2 then(eqS p.n ⟨#[]⟩ && decide (0<n.labels.length))||hasS n.labels p.n else(decide (c.k=3)||decide (c.k=4)) && (eqS p.n ⟨#[]⟩||eqS p.n c.name))
 else if p.k=3 then(decide (c.k=5) && eqS c.name p.n)||(decide (c.k=2) && keyedS n.props p.n)
 else if p.k=4 then(if c.k=3∨c.k=4 then eqS c.name p.n else if c.k=5∧eqS c.name p.y=true then equalS n.props p||decide (eqV c.v p.v=2)else(decide (c.k=2) && hasS n.labels p.n) && equalS n.props p)
 else false
theorem calm_npc (n:Nd)(p:Pr)(c:Ch):[AV.ag (encN n),.ag (encP p),.ag (encC c)].all calm=true:=by
 have h1:=calm_encC c;have h2:=calm_evP p;unfold evP at h2;rw[Zn,Zh]at h1;rw[Zn,Zn,Zn,h1.1,h2];rfl
structure NdB (D:Nat)(n:Nd)(p:Pr)(c:Ch):Prop where
 ll:n.labels.length≤1000000000000000
 pl:n.props.length≤1000000000000000
 pb:PrB D n.props
 pd:dep p.v≤D
 pv:bdV p.v
 cd:dep c.v≤D
 cv:bdV c.v
theorem r45_nodes (N D:Nat)(b:Bool)(n:Nd)(p:Pr)(c:Ch)(h:Hp)(H:NdB D n p c):
 callN cx (N+2*D+8) b 41 [.ag (encN n),.ag (encP p),.ag (encC c)] h=some (.sc (.bool (nodesS n p c)),h):=by
 refine pure_calm (r:= .sc (.bool (nodesS n p c))) (n:=N+2*D+7) ⟨Tryz.f41.ntmps,(Tryz.f41.body).getD .skip,[.tmp 6]⟩ (by kernel_rfl) (by kernel_rfl) rfl (by kernel_rfl) (by simp[Tryz.f41]) (calm_npc _ _ _) rfl ?_ b h;have f1:=fun b h=>r07_HasLabel (N+2*D+5) b n p.n h H.ll
 have f2:=fun b h=>r45_keyed (N+2*D+5) b n.props false p.n h H.pl
 have f3:=fun b h=>r45_equal N D b n.props false p h H.pl H.pb H.pd H.pv
 have f4:=fun b h=>r04_Equal (N+1) D b c.v p.v h H.cd H.pd H.cv H.pv
 rw[show N+1+2*D+6=N+2*D+7 by omega]at f4;have hq:=tsR_length n.labels;clear H;unfold nodesS;generalize hasS n.labels p.n=u1 at f1⊢;generalize keyedS n.props p.n=u2 at f2⊢;generalize equalS n.props p=u3 at f3⊢;generalize eqV c.v p.v=u4 at f4⊢;obtain⟨pk,pn,py,pv⟩:=p;obtain⟨ck,ca,cb,cc,cn,cv⟩:=c;obtain⟨k1,m1,d1,s1,z1,q1⟩:=pv;obtain⟨k2,m2,d2,s2,z2,q2⟩:=cv;obtain⟨id,labels,props⟩:=n;simp only[encN,encP,encC,enc,tsV,prV,Zv,Zw]at f1 f2 f3 f4⊢;generalize lsV z1 (encL q1)=y1 at f3 f4⊢;generalize lsV z2 (encL q2)=y2 at f4⊢;generalize tsR labels=ls at f1 hq⊢;generalize prR props=ps at f1 f2 f3⊢;generalize N+2*D+7=M at f1 f2 f3 f4;by_cases p1:pk=1
 ·subst p1;by_cases c1:ck=1
  ·simp[Tryz.f41,c1]
  ·by_cases c2:ck=2
   ·simp[Tryz.f41,c2]
   ·by_cases c3:ck=3
    ·simp[Tryz.f41,c3]
    ·by_cases c4:ck=4
     ·simp[Tryz.f41,c4]
     ·simp[Tryz.f41,c1,c2,c3,c4]
 ·by_cases p2:pk=2
  ·subst p2;by_cases c2:ck=2
   ·subst c2;cases e1:eqS pn ⟨#[]⟩
    ·cases u1<;>simp[Tryz.f41,e1,f1,hq]
    ·by_cases hl:0<labels.length
     ·cases u1<;>simp[Tryz.f41,e1,f1,hq,hl]
     ·cases u1<;>simp[Tryz.f41,e1,f1,hq,hl]
   ·by_cases c3:ck=3
    ·subst c3;cases e1:eqS pn ⟨#[]⟩<;>simp[Tryz.f41,e1]
    ·by_cases c4:ck=4
     ·subst c4;cases e1:eqS pn ⟨#[]⟩<;>simp[Tryz.f41,e1]
     ·simp[Tryz.f41,c2,c3,c4]
  ·by_cases p3:pk=3
   ·subst p3;by_cases c5:ck=5
    ·subst c5;cases e1:eqS cn pn<;>simp[Tryz.f41,e1]
    ·by_cases c2:ck=2
     ·subst c2;simp[Tryz.f41,f2]
     ·by_cases c3:ck=3
      ·simp[Tryz.f41,c3]
      ·by_cases c4:ck=4
       ·simp[Tryz.f41,c4]
       ·simp[Tryz.f41,c2,c3,c4,c5]
   ·by_cases p4:pk=4
    ·subst p4;by_cases c3:ck=3
     ·subst c3;simp[Tryz.f41]
     ·by_cases c4:ck=4
      ·subst c4;simp[Tryz.f41]
      ·by_cases c5:ck=5
       ·subst c5;cases e1:eqS cn py
        ·simp[Tryz.f41,e1]
        ·cases u3
         ·by_cases h4:u4=2<;>simp[Tryz.f41,e1,f3,f4,h4]
         ·simp[Tryz.f41,e1,f3]
       ·by_cases c2:ck=2
        ·subst c2;cases u1<;>simp[Tryz.f41,f1,f3]
        ·simp[Tryz.f41,c2,c3,c4,c5]
    ·by_cases c3:ck=3
     ·simp[Tryz.f41,p1,p2,p3,p4,c3]
     ·by_cases c4:ck=4
      ·simp[Tryz.f41,p1,p2,p3,p4,c4]
      ·simp[Tryz.f41,p1,p2,p3,p4,c3,c4]
theorem r45_nodes0 (n:Nat)(b:Bool)(p:Pr)(c:Ch)(h:Hp)(hk:c.k=1):
 callN cx (n+1) b 41 [.ag [.sc (.int .i64 0),.sc (.slice none 0 0),.sc (.slice none 0 0)],.ag (encP p),.ag (encC c)] h=some (.sc (.bool (decide (p.k=1))),h):=by
 have hcalm:[AV.ag [.sc (.int .i64 0),.sc (.slice none 0 0),.sc (.slice none 0 0)],.ag (encP p),.ag (encC c)].all calm=true:=by
  have h1:=calm_encC c;have h2:=calm_evP p;unfold evP at h2;rw[Zn,Zh]at h1;rw[Zn,Zn,Zn,h1.1,h2];rfl
 refine pure_calm (r:= .sc (.bool (decide (p.k=1)))) (n:=n) ⟨Tryz.f41.ntmps,(Tryz.f41.body).getD .skip,[.tmp 6]⟩ (by kernel_rfl) (by kernel_rfl) rfl (by kernel_rfl) (by simp[Tryz.f41]) hcalm rfl ?_ b h;obtain⟨pk,pn,py,pv⟩:=p;obtain⟨ck,ca,cb,cc,cn,cv⟩:=c;obtain⟨k1,m1,d1,s1,z1,q1⟩:=pv;obtain⟨k2,m2,d2,s2,z2,q2⟩:=cv;dsimp only at hk;subst hk;simp only[encP,encC,enc,Zv,Zw];generalize lsV z1 (encL q1)=y1;generalize lsV z2 (encL q2)=y2;by_cases p1:pk=1
 ·simp[Tryz.f41,p1]
 ·by_cases p2:pk=2
  ·simp[Tryz.f41,p2]
  ·by_cases p3:pk=3
   ·simp[Tryz.f41,p3]
   ·by_cases p4:pk=4
    ·simp[Tryz.f41,p4]
    ·simp[Tryz.f41,p1,p2,p3,p4]
theorem appF_ok {g:Gr}{c:Ch}(h:(appF g c).2=0):c.k=1∨c.k=6∨((c.k=7∨c.k=8)∧∃e,edgeAt g.edges c.a=some e)∨((2≤c.k∧c.k≤5)∧∃n,nodeAt g.nodes c.a=some n):=by
 unfold appF at h;split at h
 ·rename_i q;exact absurd h q
 ·unfold stepF at h;split at h
  ·rename_i q;exact absurd h q
  ·rename_i q;have hk:=changeE_kind (c:=c) (by
    by_cases e:changeE c=0
    ·exact e
    ·exact absurd e q)
   split at h
   ·rename_i k;exact .inl k
   ·split at h
    ·rename_i k;exact .inr (.inl k)
    ·split at h
     ·rename_i k;split at h
      ·cases h
      ·rename_i e he;exact .inr (.inr (.inl ⟨k,e,he⟩))
     ·split at h
      ·cases h
      ·rename_i n hn;exact .inr (.inr (.inr ⟨by omega,n,hn⟩))
def ndZ (o:Option Nd):Nd:=o.getD ⟨0,[],[]⟩
def edZ (o:Option Ed):Ed:=o.getD ⟨0,0,0,⟨#[]⟩,[]⟩
def touchS (g:Gr)(p:Pr)(c:Ch):Bool:=
 if¬(appF g c).2=0 then false
 else if c.k≤5 then nodesS (ndZ (nodeAt g.nodes c.a)) p c
 else if p.k=5 then(decide (c.k=6) && (eqS p.n ⟨#[]⟩||eqS p.n c.name))||(decide (c.k=7) && (eqS p.n ⟨#[]⟩||eqS p.n (edZ (edgeAt g.edges c.a)).type))
 else decide (p.k=6) && ((decide (c.k=8) && eqS c.name p.n)||(decide (c.k=7) && keyedS (edZ (edgeAt g.edges c.a)).props p.n))
theorem calm_gpc (g:Gr)(p:Pr)(c:Ch):[AV.ag (encG g),.ag (encP p),.ag (encC c)].all calm=true:=by
 have h1:=calm_encC c;have h2:=calm_evP p;unfold evP at h2;rw[Zn,Zh]at h1;rw[Zn,Zn,Zn,h1.1,h2];rfl
theorem r45_Touches (N D:Nat)(b:Bool)(g:Gr)(p:Pr)(c:Ch)(h:Hp)(hb:GrB D g)(pd:dep p.v≤D)(pv:bdV p.v)(cd:dep c.v≤D)(cv:bdV c.v):
 callN cx (N+3*D+12) b 15 [.ag (encG g),.ag (encP p),.ag (encC c)] h=some (.sc (.bool (touchS g p c)),h):=by
 refine pure_calm (r:= .sc (.bool (touchS g p c))) (n:=N+3*D+11) ⟨Tryz.f15.ntmps,(Tryz.f15.body).getD .skip,[.tmp 6]⟩ (by kernel_rfl) (by kernel_rfl) rfl (by kernel_rfl) (by simp[Tryz.f15]) (calm_gpc _ _ _) rfl ?_ b h;have f1:=fun b h=>r08_Apply N D b g c h hb cd cv
 have f2:=fun b h=>r07_Node (N+3*D+10) b g c.a h hb.nl
 have f3:=fun b h=>r07_Edge (N+3*D+10) b g c.a h hb.el
 have f4:=fun b h n (k:nodeAt g.nodes c.a=some n)=>r45_nodes (N+D+3) D b n p c h (by
  have hm:=(nodeAt_id k).1;exact⟨(hb.ns n hm).1,(hb.ns n hm).2.1,(hb.ns n hm).2.2,pd,pv,cd,cv⟩)
 rw[show N+D+3+2*D+8=N+3*D+11 by omega]at f4;have f5:=fun b h k=>r45_nodes0 (N+3*D+10) b p c h k
 have f6:=fun b h e (k:edgeAt g.edges c.a=some e)=>r45_keyed (N+3*D+9) b e.props false p.n h (hb.es e (edgeAt_id k).1).1
 have hok:=appF_ok (g:=g) (c:=c);unfold touchS;generalize appF g c=r at f1 hok⊢;obtain⟨G,E⟩:=r;dsimp only at f1 hok⊢;generalize nodeAt g.nodes c.a=on at f2 f4 hok⊢;generalize edgeAt g.edges c.a=oe at f3 f6 hok⊢;by_cases hE:E=0
 ·subst hE;rw[if_neg (by simp)];by_cases h5:c.k≤5
  ·rw[if_pos h5];cases on with
   |
    none=>
    have k1:c.k=1:=by
     rcases hok rfl with e|e|⟨e,_⟩|⟨e,n,hn⟩
     ·exact e
     ·omega
     ·omega
     ·cases hn
    have f5:=fun b h=>f5 b h k1
    have e1:nodesS (ndZ none) p c=decide (p.k=1):=by
     unfold nodesS;by_cases p1:p.k=1
     ·simp[p1,k1]
     ·simp[p1,k1]
    rw[e1];generalize decide (p.k=1)=T at f5⊢;clear hb pd pv cd cv hok f3 f4 f6 e1;obtain⟨pk,pn,py,k1,m1,d1,s1,z1,q1⟩:=p;obtain⟨ck,ca,cb,cc,cn,k2,m2,d2,s2,z2,q2⟩:=c;simp only[encN,encE,encG,ndV,edV,tsV,prV,encP,encC,enc,ndC,edC,Zv,Zw,Option.isSome_some,Option.isSome_none]at f1 f2 f5⊢;generalize lsV z1 (encL q1)=y1 at f5⊢;generalize lsV z2 (encL q2)=y2 at f1 f5⊢;generalize N+3*D+11=M at f1 f2 f5;dsimp only at k1;subst k1;simp[Tryz.f15,f1,f2,f5]
   |
    some n=>
    have f4:=fun b h=>f4 b h n rfl
    show Option.map Prod.fst _=some (AV.sc (.bool (nodesS n p c)));generalize nodesS n p c=T at f4⊢;clear hb pd pv cd cv hok f3 f5 f6;obtain⟨pk,pn,py,k1,m1,d1,s1,z1,q1⟩:=p;obtain⟨ck,ca,cb,cc,cn,k2,m2,d2,s2,z2,q2⟩:=c;simp only[encN,encE,encG,ndV,edV,tsV,prV,encP,encC,enc,ndC,edC,Zv,Zw,Option.isSome_some,Option.isSome_none]at f1 f2 f4⊢;generalize lsV z1 (encL q1)=y1 at f4⊢;generalize lsV z2 (encL q2)=y2 at f1 f4⊢;generalize N+3*D+11=M at f1 f2 f4;dsimp only at h5;simp[Tryz.f15,f1,f2,f4,h5]
  ·rw[if_neg h5];have hk:c.k=6∨((c.k=7∨c.k=8)∧∃e,oe=some e):=by
    rcases hok rfl with e|e|e|⟨e,n,hn⟩
    ·omega
    ·exact .inl e
    ·exact .inr e
    ·omega
   rcases hk with hk|⟨hk,e,he⟩
   ·cases oe with
    |
     none=>
     clear hb pd pv cd cv hok f2 f4 f5 f6;obtain⟨pk,pn,py,k1,m1,d1,s1,z1,q1⟩:=p;obtain⟨ck,ca,cb,cc,cn,k2,m2,d2,s2,z2,q2⟩:=c;simp only[encN,encE,encG,ndV,edV,tsV,prV,encP,encC,enc,ndC,edC,Zv,Zw,Option.isSome_some,Option.isSome_none]at f1 f3⊢;generalize lsV z1 (encL q1)=y1 at⊢;generalize lsV z2 (encL q2)=y2 at f1⊢;generalize N+3*D+11=M at f1 f3;dsimp only at hk h5;subst hk;by_cases p5:pk=5
     ·cases e1:eqS pn ⟨#[]⟩<;>cases e2:eqS pn cn<;>simp[Tryz.f15,f1,f3,p5,e1,e2]
     ·by_cases p6:pk=6
      ·simp[Tryz.f15,f1,f3,p6]
      ·simp[Tryz.f15,f1,f3,p5,p6]
    |
     some e=>
     clear hb pd pv cd cv hok f2 f4 f5 f6;obtain⟨pk,pn,py,k1,m1,d1,s1,z1,q1⟩:=p;obtain⟨ck,ca,cb,cc,cn,k2,m2,d2,s2,z2,q2⟩:=c;simp only[encN,encE,encG,ndV,edV,tsV,prV,encP,encC,enc,ndC,edC,Zv,Zw,Option.isSome_some,Option.isSome_none]at f1 f3⊢;generalize lsV z1 (encL q1)=y1 at⊢;generalize lsV z2 (encL q2)=y2 at f1⊢;generalize N+3*D+11=M at f1 f3;dsimp only at hk h5;subst hk;by_cases p5:pk=5
     ·cases e1:eqS pn ⟨#[]⟩<;>cases e2:eqS pn cn<;>simp[Tryz.f15,f1,f3,p5,e1,e2]
     ·by_cases p6:pk=6
      ·simp[Tryz.f15,f1,f3,p6]
      ·simp[Tryz.f15,f1,f3,p5,p6]
   ·subst he;have f6:=fun b h=>f6 b h e rfl
    show Option.map Prod.fst _=some (AV.sc (.bool (if p.k=5 then(decide (c.k=6) && (eqS p.n ⟨#[]⟩||eqS p.n c.name))||(decide (c.k=7) && (eqS p.n ⟨#[]⟩||eqS p.n e.type))else decide (p.k=6) && ((decide (c.k=8) && eqS c.name p.n)||(decide (c.k=7) && keyedS e.props p.n)))));generalize keyedS e.props p.n=u at f6⊢;clear hb pd pv cd cv hok f2 f4 f5;obtain⟨pk,pn,py,k1,m1,d1,s1,z1,q1⟩:=p;obtain⟨ck,ca,cb,cc,cn,k2,m2,d2,s2,z2,q2⟩:=c;simp only[encN,encE,encG,ndV,edV,tsV,prV,encP,encC,enc,ndC,edC,Zv,Zw,Option.isSome_some,Option.isSome_none]at f1 f3 f6⊢;generalize lsV z1 (encL q1)=y1 at⊢;generalize lsV z2 (encL q2)=y2 at f1⊢;generalize N+3*D+11=M at f1 f3 f6;dsimp only at hk h5;rcases hk with rfl|rfl
    ·by_cases p5:pk=5
     ·cases e1:eqS pn ⟨#[]⟩<;>simp[Tryz.f15,f1,f3,p5,e1]
     ·by_cases p6:pk=6
      ·simp[Tryz.f15,f1,f3,f6,p6]
      ·simp[Tryz.f15,f1,f3,p5,p6]
    ·by_cases p5:pk=5
     ·simp[Tryz.f15,f1,f3,p5]
     ·by_cases p6:pk=6
      ·cases e1:eqS cn pn<;>simp[Tryz.f15,f1,f3,p6,e1]
      ·simp[Tryz.f15,f1,f3,p5,p6]
 ·rw[if_pos hE];clear hb pd pv cd cv hok f2 f3 f4 f5 f6;obtain⟨pk,pn,py,k1,m1,d1,s1,z1,q1⟩:=p;obtain⟨ck,ca,cb,cc,cn,k2,m2,d2,s2,z2,q2⟩:=c;simp only[encN,encE,encG,ndV,edV,tsV,prV,encP,encC,enc,ndC,edC,Zv,Zw,Option.isSome_some,Option.isSome_none]at f1⊢;generalize lsV z1 (encL q1)=y1 at⊢;generalize lsV z2 (encL q2)=y2 at f1⊢;generalize N+3*D+11=M at f1;simp[Tryz.f15,f1,hE]
mutual
def weiV :V→Int→Int→Int
 | .mk _ _ _ s _ l,b,m=>if m<1 then-1 else weiL l (b-1-(s.size:Int)/50) m
def weiL :List V→Int→Int→Int
 | [],b,_=>b
 |x::xs,b,m=>if 0≤b then weiL xs (weiV x b (m-1)) m else b
end
mutual
theorem weiV_le :∀(v:V) (b m:Int),b≤2000→weiV v b m≤2000
 |
  .mk k n d s z l,b,m,h=>by
  rw[weiV];split
  ·omega
  ·exact weiL_le l _ m (by omega)
theorem weiL_le :∀(l:List V) (b m:Int),b≤2000→weiL l b m≤2000
 | [],b,m,h=>by rw[weiL];exact h
 |
  x::xs,b,m,h=>by
  rw[weiL];split
  ·exact weiL_le xs _ m (weiV_le x b (m-1) h)
  ·exact h
end
mutual
theorem weiV_ge :∀(v:V) (b m:Int),bdV v→(0≤b→ -100000000000001≤weiV v b m)∧(b<0→b-100000000000001≤weiV v b m)
 |
  .mk k n d s z l,b,m,h=>by
  rw[bdV]at h;rw[weiV];have hs:=h.1;split
  ·omega
  ·have:=weiL_ge l (b-1-(s.size:Int)/50) m h.2.2;omega
theorem weiL_ge :∀(l:List V) (b m:Int),bdL l→(0≤b→ -100000000000001≤weiL l b m)∧(b<0→weiL l b m=b)
 | [],b,m,h=>by rw[weiL];omega
 |
  x::xs,b,m,h=>by
  rw[bdL]at h;rw[weiL];refine⟨fun hb=>?_,fun hb=>?_⟩
  ·rw[if_pos hb];have h1:=(weiV_ge x b (m-1) h.1).1 hb;have h2:=weiL_ge xs (weiV x b (m-1)) m h.2;by_cases h3:0≤weiV x b (m-1)
   ·exact h2.1 h3
   ·rw[h2.2 (by omega)];exact h1
  ·rw[if_neg (by omega)]
end
def weiLD (l:List V)(b m:Int)(i:Nat):Int:=weiL (l.drop i) b m
theorem weiLD_end (l:List V)(b m:Int)(i:Nat)(h:l.length≤i):weiLD l b m i=b:=by unfold weiLD;rw[Zt h,weiL]
theorem weiLD_neg (l:List V)(b m:Int)(i:Nat)(h:b<0):weiLD l b m i=b:=by
 unfold weiLD;cases l.drop i with
 |nil=>rw[weiL]
 |cons x xs=>rw[weiL,if_neg (by omega)]
theorem weiLD_step {l:List V}{i:Nat}{x:V}{b:Int}(m:Int)(h:l[i]?=some x)(hb:0≤b):weiLD l b m i=weiLD l (weiV x b (m-1)) m (i+1):=by
 obtain⟨k,e⟩:=Za.1 h;unfold weiLD;rw[Zm k,e,weiL,if_pos hb]
theorem tdiv50 (n:Nat):Int.tdiv (n:Int) 50=(n:Int)/50:=Int.tdiv_eq_ediv_of_nonneg (Int.natCast_nonneg n)
theorem r04_Weigh :∀(D:Nat) (v:V),dep v≤D→bdV v→∀(N:Nat) (n m:Int), -1000000000000000≤n→n≤2000→m≤12→0≤m→∀b h,callN cx (N+D+1) b 74 [.ag (enc v),.sc (.int .i64 n),.sc (.int .i64 m)] h=some (.sc (.int .i64 (weiV v n m)),h):=by
 intro D
 induction D with
 |zero=>intro v h;have:=dep_pos v;omega
 |
  succ D ih=>
  intro v dv bv N n m hn hn' hm hm' b h;have hcalm:[AV.ag (enc v),.sc (.int .i64 n),.sc (.int .i64 m)].all calm=true:=by rw[Zn,calm_v1];rfl
  refine pure_calm (n:=N+D+1) (r:= .sc (.int .i64 (weiV v n m))) ⟨Tryz.f74.ntmps,(Tryz.f74.body).getD .skip,[.tmp 6]⟩ (by kernel_rfl) (by kernel_rfl) rfl (by kernel_rfl) (by simp[Tryz.f74]) hcalm rfl ?_ b h;have ho:∀x∈v.l,∀(n m:Int), -1000000000000000≤n→n≤2000→m≤12→0≤m→∀b h,callN cx (N+D+1) b 74 [.ag (enc x),.sc (.int .i64 n),.sc (.int .i64 m)] h=some (.sc (.int .i64 (weiV x n m)),h):=fun x hx=>ih x (dep_l dv x hx) ((bdV_l bv).2 x hx) N
  obtain⟨k,q,d,s,z,l⟩:=v;simp only[V.l]at ho;rw[bdV]at bv;have hs:=bv.1;have hll:=bv.2.1;have e1:fitI .i64 (n-1)=n-1:=fit_i64 (by omega) (by omega);have e2:fitI .i64 ((s.size:Int)/50)=(s.size:Int)/50:=fit_i64 (by omega) (by omega);have e3:fitI .i64 (n-1-(s.size:Int)/50)=n-1-(s.size:Int)/50:=fit_i64 (by omega) (by omega);rw[weiV];rw[show enc (.mk k q d s z l)=[.sc (.int .i64 k),.sc (.int .i64 q),.sc (.int .i64 d),.sc (.string s),evL z l]from rfl];by_cases h1:m<1
  ·rw[if_pos h1];generalize evL z l=L at *;simp[Tryz.f74,e1,e2,e3,h1,tdiv50]
  ·rw[if_neg h1];have e4:fitI .i64 (m-1)=m-1:=fit_i64 (by omega) (by omega);have hc0:n-1-(s.size:Int)/50≤2000:=by omega
   obtain⟨b0,hb0⟩:∃b0,b0=n-1-(s.size:Int)/50:=⟨_,rfl⟩;rw[←hb0]at hc0⊢;have e3:fitI .i64 (n-1-(s.size:Int)/50)=b0:=by rw[e3,hb0]
   rcases lsV_cases z l with⟨rfl,hL⟩|hL
   ·rw[hL,weiL];simp[Tryz.f74,e1,e2,e3,h1,tdiv50];refine loop_up (C:=cx) (G:=fun r=>∃h',finX _ (thenX _ _ (blockX _ r) _)=some (_,h'))
     (fun i st=>i=0∧st.1.length=38∧gt st.1 1= .sc (.int .i64 b0)∧gt st.1 3= .pt 0 0∧gt st.1 7= .sc (.int .i64 0)∧st.2=[.row [.sc (.int .i64 k),.sc (.int .i64 q),.sc (.int .i64 d),.sc (.string s),.sc (.slice none 0 0)]])
     (fun o s=>o= .exit 0∧s.1.length=38∧gt s.1 1= .sc (.int .i64 b0)) 0 (by simp) ⟨rfl,rfl,rfl,rfl,rfl,rfl⟩ ?_ ?_
    ·rintro i fr hp hle ⟨rfl,hlen,h1,h3,h7,hh⟩;simp only at hlen h1 h3 h7 hh;subst hh;simp[hlen,h1,h3,h7]
    ·rintro o fr hp hn ⟨rfl,hlen,h1⟩;simp only at hlen h1;simp[hlen,h1]
   ·rw[hL];have hq:=encL_length l;have hg:=encL_get l;generalize encL l=rows at hq hg;generalize hT:weiL l b0 m=T;simp[Tryz.f74,e1,e2,e3,h1,tdiv50];refine loop_up (C:=cx) (G:=fun r=>∃h',finX _ (thenX _ _ (blockX _ r) _)=some (_,h'))
     (fun i st=>∃c:Int,T=weiLD l c m i∧c≤2000∧st.1.length=38∧gt st.1 1= .sc (.int .i64 c)∧gt st.1 2= .sc (.int .i64 m)∧gt st.1 3= .pt 0 0∧gt st.1 7= .sc (.int .i64 i)∧st.2=[.row [.sc (.int .i64 k),.sc (.int .i64 q),.sc (.int .i64 d),.sc (.string s),.ls 5 rows z]])
     (fun o s=>o= .exit 0∧s.1.length=38∧gt s.1 1= .sc (.int .i64 T)) l.length (by simp;omega) ⟨b0,hT.symm,hc0,rfl,rfl,rfl,rfl,rfl,rfl⟩ ?_ ?_
    ·rintro i fr hp hle ⟨c,hT,hc,hlen,h1,h2,h3,h7,hh⟩;simp only at hlen h1 h2 h3 h7 hh;subst hh;by_cases hi:i<l.length
     ·obtain⟨x,hx⟩:∃x,l[i]?=some x:=⟨_,Zb hi⟩;have hr:rows[i]?=some (enc x):=by rw[hg,hx];rfl
      have hr':∀k,rows[i]'k=enc x:=fun k=>by obtain⟨_,e⟩:=Za.1 hr;exact e
      by_cases hc':0≤c
      ·have hw:=fun b h=>ho x (Zi hx) c (m-1) (by omega) hc (by omega) (by omega) b h
       have hf:=fit_succ (Ym hle hll);simp[hlen,h1,h2,h3,h7,hi,hq,hr,hr',hc',hw,e4,hf];exact⟨by rw[hT,weiLD_step m hx hc'],weiV_le x c (m-1) hc⟩
      ·have zz:T=c:=by rw[hT,weiLD_neg _ _ _ _ (by omega)]
       simp[hlen,h1,h2,h3,h7,hi,hq,hc',zz]
     ·have zz:T=c:=by rw[hT,weiLD_end _ _ _ _ (by omega)]
      simp[hlen,h1,h2,h3,h7,hi,hq,zz]
    ·rintro o fr hp hn ⟨rfl,hlen,h1⟩;simp only at hlen h1;simp[hlen,h1]
set_option maxHeartbeats 16000000
def weiP :List Prp→Int→Int
 | [],b=>b
 |c::l,b=>if 0≤b then weiP l (weiV c.v (b-(c.key.size:Int)/50) 12)else b
def weiPD (l:List Prp)(b:Int)(i:Nat):Int:=weiP (l.drop i) b
theorem weiPD_end (l:List Prp)(b:Int)(i:Nat)(h:l.length≤i):weiPD l b i=b:=by unfold weiPD;rw[Zt h,weiP]
theorem weiPD_neg (l:List Prp)(b:Int)(i:Nat)(h:b<0):weiPD l b i=b:=by
 unfold weiPD;cases l.drop i with
 |nil=>rw[weiP]
 |cons x xs=>rw[weiP,if_neg (by omega)]
theorem weiPD_step {l:List Prp}{i:Nat}{c:Prp}{b:Int}(h:l[i]?=some c)(hb:0≤b):weiPD l b i=weiPD l (weiV c.v (b-(c.key.size:Int)/50) 12) (i+1):=by
 obtain⟨k,e⟩:=Za.1 h;unfold weiPD;rw[Zm k,e,weiP,if_pos hb]
theorem weiP_le :∀(l:List Prp) (b:Int),b≤2000→weiP l b≤2000
 | [],b,h=>by rw[weiP];exact h
 |
  x::xs,b,h=>by
  rw[weiP];split
  ·exact weiP_le xs _ (weiV_le _ _ _ (by omega))
  ·exact h
theorem r07_weigh (N D:Nat)(b:Bool)(l:List Prp)(z:Bool)(n:Int)(h:Hp)(hl:l.length≤1000000000000000)(hn:n≤2000)(hb:∀c∈l,dep c.v≤D∧bdV c.v∧c.key.size≤1000000000000000):
 callN cx (N+D+2) b 32 [prV l z,.sc (.int .i64 n)] h=some (.sc (.int .i64 (weiP l n)),h):=by
 refine pure_calm (n:=N+D+1) (r:= .sc (.int .i64 (weiP l n))) ⟨Tryz.f32.ntmps,(Tryz.f32.body).getD .skip,[.tmp 4]⟩ (by kernel_rfl) (by kernel_rfl) rfl (by kernel_rfl) (by simp[Tryz.f32]) rfl rfl ?_ b h;have hq:=prR_length l;have hg:=prR_get l;unfold prV;generalize prR l=rows at hq hg;generalize hT:weiP l n=T;simp[Tryz.f32,hq];refine loop_up (C:=cx) (G:=fun r=>∃h',finX _ (thenX _ _ (blockX _ r) _)=some (_,h'))
  (fun i st=>∃c:Int,T=weiPD l c i∧c≤2000∧st.1.length=32∧gt st.1 0= .ls 6 rows z∧gt st.1 1= .sc (.int .i64 c)∧gt st.1 5= .sc (.int .i64 i))
  (fun o s=>o= .exit 0∧s.1.length=32∧gt s.1 1= .sc (.int .i64 T)) l.length (by simp;omega) ⟨n,hT.symm,hn,rfl,rfl,rfl,rfl⟩ ?_ ?_
 ·rintro i fr hp hle ⟨c,hT,hc,hlen,h0,h1,h5⟩;simp only at hlen h0 h1 h5;by_cases hi:i<l.length
  ·obtain⟨x,hx⟩:∃x,l[i]?=some x:=⟨_,Zb hi⟩;have hxb:=hb x (Zi hx);by_cases hc':0≤c
   ·have hw:=fun b h=>r04_Weigh D x.v hxb.1 hxb.2.1 N (c-(x.key.size:Int)/50) 12 (by have:=hxb.2.2;omega) (by omega) (by omega) (by omega) b h
    have hf:=fit_succ (Ym hle hl);have e2:fitI .i64 ((x.key.size:Int)/50)=(x.key.size:Int)/50:=fit_i64 (by have:=hxb.2.2;omega) (by have:=hxb.2.2;omega);have e3:fitI .i64 (c-(x.key.size:Int)/50)=c-(x.key.size:Int)/50:=fit_i64 (by have:=hxb.2.2;omega) (by have:=hxb.2.2;omega);have hst:=weiPD_step hx hc';have hle2:=weiV_le x.v (c-(x.key.size:Int)/50) 12 (by omega);rw[←hT]at hst;have hr:rows[i]?=some (encR x):=by rw[hg,hx];rfl
    obtain⟨ck,k,m,d,s,z',q⟩:=x;dsimp only at hw e2 e3 hst hle2;generalize weiV _ _ _=W at hw hst hle2;simp only[enc]at hw;have hr:rows[i]?=some [.sc (.string ck),.sc (.int .i64 k),.sc (.int .i64 m),.sc (.int .i64 d),.sc (.string s),lsV z' (encL q)]:=hr;have hr':∀kx,rows[i]'kx=[.sc (.string ck),.sc (.int .i64 k),.sc (.int .i64 m),.sc (.int .i64 d),.sc (.string s),lsV z' (encL q)]:=fun k=>by obtain⟨_,e⟩:=Za.1 hr;exact e
    generalize lsV z' (encL q)=L at *;simp[hlen,h0,h1,h5,hi,hq,hr,hr',hc',hw,hf,tdiv50,e2,e3];exact⟨hst,hle2⟩
   ·have zz:T=c:=by rw[hT,weiPD_neg _ _ _ (by omega)]
    simp[hlen,h0,h1,h5,hi,hq,hc',zz]
  ·have zz:T=c:=by rw[hT,weiPD_end _ _ _ (by omega)]
   simp[hlen,h0,h1,h5,hi,hq,zz]
 ·rintro o fr hp hn ⟨rfl,hlen,h1⟩;simp only at hlen h1;simp[hlen,h1]
end
@[simp] theorem T_editor :cx.T 157=some {size:=4,agg:=true,zero:=[.slice none 0 0,.slice none 0 0,.int .i64 0,.int .i64 0],kd:= .struct [(0,4,true)]}:=by kernel_rfl
section
attribute [local simp] aop aopW coldF extF putA ofConst flat scalarOp fastOp binFast intOp strOp guardX Ae.part rowOf szOk natOf lenA cls fillA newsOf isNilC cellX
attribute [local simp] sliceA boundA coldA clearA appendA szOk
set_option maxHeartbeats 8000000
theorem splice_len {cs vs:List AV}{off:Nat}(h:off+vs.length≤cs.length):(splice cs off vs).length=cs.length:=by
 unfold splice;simp;omega
theorem splice_pre {cs vs:List AV}{off:Nat}(h:off≤cs.length):(splice cs off vs).take off=cs.take off:=by
 unfold splice;rw[Zp,List.take_append_of_le_length (by simp;omega),List.take_take,Nat.min_self]
theorem splice_take {cs vs:List AV}{off:Nat}(h:off≤cs.length):(splice cs off vs).take (off+vs.length)=cs.take off++vs:=by
 unfold splice;rw[List.take_append_of_le_length (by simp;omega),List.take_of_length_le (by simp;omega)]
theorem take3 {cs A r C:List AV}{a b c N:Nat}(hN:N=a+b+c)(htk:cs.take N=A++r++C)(hA:A.length=a)(hr:r.length=b):cs.take a=A∧(cs.drop (a+b)).take c=C:=by
 constructor
 ·have e:cs.take a=(cs.take N).take a:=by rw[List.take_take,Nat.min_eq_left (by omega)]
  rw[e,htk,Zp];exact List.take_left' hA
 ·have e:(cs.drop (a+b)).take c=(cs.take N).drop (a+b):=by rw[List.drop_take,show N-(a+b)=c by omega]
  rw[e,htk];exact List.drop_left' (by simp[hA,hr])
theorem sl_Delete_String (n:Nat)(b:Bool)(id p q P1 L R:Nat)(cs A r C:List AV)(h:Hp)(hid:h[id]?=some (.row cs))(e1:P1=p+1)(e2:L=p+1+q)(e3:R=p+q)(hA:A.length=p)(hr:r.length=1)(hC:C.length=q)(htk:cs.take (L)=A++r++C)(hle:L≤cs.length)(hm:L≤1000000000):
 ∃cs',callN cx (n+1) b 238 [.sl id 1 0 L false,.sc (.int .i64 p),.sc (.int .i64 P1)] h=some (.sl id 1 0 R false,h.set id (.row cs'))∧cs'.length=cs.length∧cs'.take (R)=A++C:=by
 have hs:∀x,(h.set id x)[id]?=some x:=fun x=>Zj (Za.1 hid).1
 have a1:p≤P1:=by omega
 have a2:P1≤L:=by omega
 have a3:¬(p:Int)=(P1:Int):=by omega
 have a4:¬p=P1:=by omega
 have b0:1≤cs.length:=by omega
 have b1:p≤cs.length:=by omega
 obtain⟨c1,c2⟩:=take3 (c:=q) (by omega) htk hA hr;have hin:=call_inl (n:=n) (f:=238) (args:=[.sl id 1 0 L false,.sc (.int .i64 p),.sc (.int .i64 P1)]) ⟨Tryz.f238.ntmps,(Tryz.f238.body).getD .skip,[.tmp 6]⟩ rfl (by kernel_rfl) (by kernel_rfl) (by kernel_rfl) (by kernel_rfl) (by simp[Tryz.f238]) b h;by_cases hq:q=0
 ·subst hq;have e4:P1=L:=by omega
  have e5:R=p:=by omega
  subst e4 e5;have z1:P1-R=1:=by omega
  have z2:R<P1:=by omega
  have z3:R+1≤cs.length:=by omega
  refine⟨splice cs (R) [.sc (.string ⟨#[]⟩)],?_,splice_len (by simp;omega),?_⟩
  ·rw[hin];simp[Tryz.f238,hid,a1,a3,a4,b0,b1,z1,z2,z3,hle]
  ·rw[splice_pre b1,c1];have:C=[]:=Zl (by omega);rw[this,Yo]
 ·have e4:¬P1=L:=by omega
  have z0:L-P1=q:=by omega
  have z0':p+q=R:=by omega
  have z1:L-R=1:=by omega
  have z2:R<L:=by omega
  have z2':R≤L:=by omega
  have z3:R+1≤cs.length:=by omega
  have z4:P1+q≤cs.length:=by omega
  have z5:R≤cs.length:=by omega
  have hn:((cs.drop (P1)).take (q))=C:=by rw[show P1=p+1 by omega];exact c2
  have hl:(splice cs (p) C).length=cs.length:=splice_len (by omega);refine⟨splice (splice cs (p) C) (R) [.sc (.string ⟨#[]⟩)],?_,by rw[splice_len (by simp;omega),hl],?_⟩
  ·rw[hin];simp[Tryz.f238,hid,hs,a1,a2,a3,a4,b0,b1,e4,hq,z0,z0',z1,z2,z2',z3,z4,z5,hle,hn,hl]
  ·rw[splice_pre (by omega)];have:=splice_take (vs:=C) (off:=p) b1;rw[c1,hC,show p+q=R by omega]at this;exact this
theorem sl_Delete_Prop (n:Nat)(b:Bool)(id p q P1 L R:Nat)(cs A r C:List AV)(h:Hp)(hid:h[id]?=some (.row cs))(e1:P1=p+1)(e2:L=p+1+q)(e3:R=p+q)(hA:A.length=p*6)(hr:r.length=6)(hC:C.length=q*6)(htk:cs.take (L*6)=A++r++C)(hle:L*6≤cs.length)(hm:L≤1000000000):
 ∃cs',callN cx (n+1) b 309 [.sl id 6 0 L false,.sc (.int .i64 p),.sc (.int .i64 P1)] h=some (.sl id 6 0 R false,h.set id (.row cs'))∧cs'.length=cs.length∧cs'.take (R*6)=A++C:=by
 have hs:∀x,(h.set id x)[id]?=some x:=fun x=>Zj (Za.1 hid).1
 have a1:p≤P1:=by omega
 have a2:P1≤L:=by omega
 have a3:¬(p:Int)=(P1:Int):=by omega
 have a4:¬p=P1:=by omega
 have b0:6≤cs.length:=by omega
 have b1:p*6≤cs.length:=by omega
 obtain⟨c1,c2⟩:=take3 (c:=q*6) (by omega) htk hA hr;have hin:=call_inl (n:=n) (f:=309) (args:=[.sl id 6 0 L false,.sc (.int .i64 p),.sc (.int .i64 P1)]) ⟨Tryz.f309.ntmps,(Tryz.f309.body).getD .skip,[.tmp 6]⟩ rfl (by kernel_rfl) (by kernel_rfl) (by kernel_rfl) (by kernel_rfl) (by simp[Tryz.f309]) b h;by_cases hq:q=0
 ·subst hq;have e4:P1=L:=by omega
  have e5:R=p:=by omega
  subst e4 e5;have z1:P1-R=1:=by omega
  have z2:R<P1:=by omega
  have z3:R*6+6≤cs.length:=by omega
  refine⟨splice cs (R*6) [.sc (.string ⟨#[]⟩),.sc (.int .i64 0),.sc (.int .i64 0),.sc (.int .i64 0),.sc (.string ⟨#[]⟩),.sc (.slice none 0 0)],?_,splice_len (by simp;omega),?_⟩
  ·rw[hin];simp[Tryz.f309,hid,a1,a3,a4,b0,b1,z1,z2,z3,hle]
  ·rw[splice_pre b1,c1];have:C=[]:=Zl (by omega);rw[this,Yo]
 ·have e4:¬P1=L:=by omega
  have z0:L-P1=q:=by omega
  have z0':p+q=R:=by omega
  have z1:L-R=1:=by omega
  have z2:R<L:=by omega
  have z2':R≤L:=by omega
  have z3:R*6+6≤cs.length:=by omega
  have z4:P1*6+q*6≤cs.length:=by omega
  have z5:R*6≤cs.length:=by omega
  have hn:((cs.drop (P1*6)).take (q*6))=C:=by rw[show P1*6=p*6+6 by omega];exact c2
  have hl:(splice cs (p*6) C).length=cs.length:=splice_len (by omega);refine⟨splice (splice cs (p*6) C) (R*6) [.sc (.string ⟨#[]⟩),.sc (.int .i64 0),.sc (.int .i64 0),.sc (.int .i64 0),.sc (.string ⟨#[]⟩),.sc (.slice none 0 0)],?_,by rw[splice_len (by simp;omega),hl],?_⟩
  ·rw[hin];simp[Tryz.f309,hid,hs,a1,a2,a3,a4,b0,b1,e4,hq,z0,z0',z1,z2,z2',z3,z4,z5,hle,hn,hl]
  ·rw[splice_pre (by omega)];have:=splice_take (vs:=C) (off:=p*6) b1;rw[c1,hC,show p*6+q*6=R*6 by omega]at this;exact this
theorem sl_Delete_Node (n:Nat)(b:Bool)(id p q P1 L R:Nat)(cs A r C:List AV)(h:Hp)(hid:h[id]?=some (.row cs))(e1:P1=p+1)(e2:L=p+1+q)(e3:R=p+q)(hA:A.length=p*3)(hr:r.length=3)(hC:C.length=q*3)(htk:cs.take (L*3)=A++r++C)(hle:L*3≤cs.length)(hm:L≤1000000000):
 ∃cs',callN cx (n+1) b 235 [.sl id 3 0 L false,.sc (.int .i64 p),.sc (.int .i64 P1)] h=some (.sl id 3 0 R false,h.set id (.row cs'))∧cs'.length=cs.length∧cs'.take (R*3)=A++C:=by
 have hs:∀x,(h.set id x)[id]?=some x:=fun x=>Zj (Za.1 hid).1
 have a1:p≤P1:=by omega
 have a2:P1≤L:=by omega
 have a3:¬(p:Int)=(P1:Int):=by omega
 have a4:¬p=P1:=by omega
 have b0:3≤cs.length:=by omega
 have b1:p*3≤cs.length:=by omega
 obtain⟨c1,c2⟩:=take3 (c:=q*3) (by omega) htk hA hr;have hin:=call_inl (n:=n) (f:=235) (args:=[.sl id 3 0 L false,.sc (.int .i64 p),.sc (.int .i64 P1)]) ⟨Tryz.f235.ntmps,(Tryz.f235.body).getD .skip,[.tmp 6]⟩ rfl (by kernel_rfl) (by kernel_rfl) (by kernel_rfl) (by kernel_rfl) (by simp[Tryz.f235]) b h;by_cases hq:q=0
 ·subst hq;have e4:P1=L:=by omega
  have e5:R=p:=by omega
  subst e4 e5;have z1:P1-R=1:=by omega
  have z2:R<P1:=by omega
  have z3:R*3+3≤cs.length:=by omega
  refine⟨splice cs (R*3) [.sc (.int .i64 0),.sc (.slice none 0 0),.sc (.slice none 0 0)],?_,splice_len (by simp;omega),?_⟩
  ·rw[hin];simp[Tryz.f235,hid,a1,a3,a4,b0,b1,z1,z2,z3,hle]
  ·rw[splice_pre b1,c1];have:C=[]:=Zl (by omega);rw[this,Yo]
 ·have e4:¬P1=L:=by omega
  have z0:L-P1=q:=by omega
  have z0':p+q=R:=by omega
  have z1:L-R=1:=by omega
  have z2:R<L:=by omega
  have z2':R≤L:=by omega
  have z3:R*3+3≤cs.length:=by omega
  have z4:P1*3+q*3≤cs.length:=by omega
  have z5:R*3≤cs.length:=by omega
  have hn:((cs.drop (P1*3)).take (q*3))=C:=by rw[show P1*3=p*3+3 by omega];exact c2
  have hl:(splice cs (p*3) C).length=cs.length:=splice_len (by omega);refine⟨splice (splice cs (p*3) C) (R*3) [.sc (.int .i64 0),.sc (.slice none 0 0),.sc (.slice none 0 0)],?_,by rw[splice_len (by simp;omega),hl],?_⟩
  ·rw[hin];simp[Tryz.f235,hid,hs,a1,a2,a3,a4,b0,b1,e4,hq,z0,z0',z1,z2,z2',z3,z4,z5,hle,hn,hl]
  ·rw[splice_pre (by omega)];have:=splice_take (vs:=C) (off:=p*3) b1;rw[c1,hC,show p*3+q*3=R*3 by omega]at this;exact this
theorem sl_Delete_Edge (n:Nat)(b:Bool)(id p q P1 L R:Nat)(cs A r C:List AV)(h:Hp)(hid:h[id]?=some (.row cs))(e1:P1=p+1)(e2:L=p+1+q)(e3:R=p+q)(hA:A.length=p*5)(hr:r.length=5)(hC:C.length=q*5)(htk:cs.take (L*5)=A++r++C)(hle:L*5≤cs.length)(hm:L≤1000000000):
 ∃cs',callN cx (n+1) b 242 [.sl id 5 0 L false,.sc (.int .i64 p),.sc (.int .i64 P1)] h=some (.sl id 5 0 R false,h.set id (.row cs'))∧cs'.length=cs.length∧cs'.take (R*5)=A++C:=by
 have hs:∀x,(h.set id x)[id]?=some x:=fun x=>Zj (Za.1 hid).1
 have a1:p≤P1:=by omega
 have a2:P1≤L:=by omega
 have a3:¬(p:Int)=(P1:Int):=by omega
 have a4:¬p=P1:=by omega
 have b0:5≤cs.length:=by omega
 have b1:p*5≤cs.length:=by omega
 obtain⟨c1,c2⟩:=take3 (c:=q*5) (by omega) htk hA hr;have hin:=call_inl (n:=n) (f:=242) (args:=[.sl id 5 0 L false,.sc (.int .i64 p),.sc (.int .i64 P1)]) ⟨Tryz.f242.ntmps,(Tryz.f242.body).getD .skip,[.tmp 6]⟩ rfl (by kernel_rfl) (by kernel_rfl) (by kernel_rfl) (by kernel_rfl) (by simp[Tryz.f242]) b h;by_cases hq:q=0
 ·subst hq;have e4:P1=L:=by omega
  have e5:R=p:=by omega
  subst e4 e5;have z1:P1-R=1:=by omega
  have z2:R<P1:=by omega
  have z3:R*5+5≤cs.length:=by omega
  refine⟨splice cs (R*5) [.sc (.int .i64 0),.sc (.int .i64 0),.sc (.int .i64 0),.sc (.string ⟨#[]⟩),.sc (.slice none 0 0)],?_,splice_len (by simp;omega),?_⟩
  ·rw[hin];simp[Tryz.f242,hid,a1,a3,a4,b0,b1,z1,z2,z3,hle]
  ·rw[splice_pre b1,c1];have:C=[]:=Zl (by omega);rw[this,Yo]
 ·have e4:¬P1=L:=by omega
  have z0:L-P1=q:=by omega
  have z0':p+q=R:=by omega
  have z1:L-R=1:=by omega
  have z2:R<L:=by omega
  have z2':R≤L:=by omega
  have z3:R*5+5≤cs.length:=by omega
  have z4:P1*5+q*5≤cs.length:=by omega
  have z5:R*5≤cs.length:=by omega
  have hn:((cs.drop (P1*5)).take (q*5))=C:=by rw[show P1*5=p*5+5 by omega];exact c2
  have hl:(splice cs (p*5) C).length=cs.length:=splice_len (by omega);refine⟨splice (splice cs (p*5) C) (R*5) [.sc (.int .i64 0),.sc (.int .i64 0),.sc (.int .i64 0),.sc (.string ⟨#[]⟩),.sc (.slice none 0 0)],?_,by rw[splice_len (by simp;omega),hl],?_⟩
  ·rw[hin];simp[Tryz.f242,hid,hs,a1,a2,a3,a4,b0,b1,e4,hq,z0,z0',z1,z2,z2',z3,z4,z5,hle,hn,hl]
  ·rw[splice_pre (by omega)];have:=splice_take (vs:=C) (off:=p*5) b1;rw[c1,hC,show p*5+q*5=R*5 by omega]at this;exact this
end
end Go.Proofs.YtadaeokidcgdlaaGreatDoor
