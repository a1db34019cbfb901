/- Facts on the types of changes and rules. -/
import Derived.Test.YtadaeokidcgdlaaGreatDoorP32
import Derived.Test.YtadaeokidcgdlaaGreatDoorP37
import Derived.Test.YtadaeokidcgdlaaGreatDoorP31
set_option maxRecDepth 100000
set_option linter.unusedSimpArgs false
set_option linter.unusedVariables false
namespace Go.Proofs.YtadaeokidcgdlaaGreatDoor
open Go Go.Ae
@[simp] theorem T_s_api_Change :cx.T 45=some {size:=1,agg:=false,zero:=[.slice none 0 0],kd:= .slice 10 true 112 [.int .i64 0,.int .i64 0,.int .i64 0,.int .i64 0,.string ⟨#[]⟩,.int .i64 0,.int .i64 0,.int .i64 0,.string ⟨#[]⟩,.slice none 0 0]}:=by kernel_rfl
@[simp] theorem T_s_api_Pred :cx.T 27=some {size:=1,agg:=false,zero:=[.slice none 0 0],kd:= .slice 8 true 104 [.int .i64 0,.string ⟨#[]⟩,.string ⟨#[]⟩,.int .i64 0,.int .i64 0,.int .i64 0,.string ⟨#[]⟩,.slice none 0 0]}:=by kernel_rfl
section
attribute [local simp] aop aopW coldF extF putA ofConst flat scalarOp fastOp binFast intOp strOp guardX Ae.part rowOf szOk natOf lenA cls fillA newsOf isNilC cellX
set_option maxHeartbeats 32000000
def stepsF :Gr→List Ch→Nat→Gr × Int × Int
 |g,[],i=>(g,i,0)
 |g,c::cs,i=>if(stepF g c).2=0 then stepsF (stepF g c).1 cs (i+1)else(zeroG,i,(stepF g c).2)
def OkF (D:Nat):Gr→List Ch→Prop
 |_,[]=>True
 |g,c::cs=>GV g∧NB g∧dep c.v≤D∧bdV c.v∧((stepF g c).2=0→OkF D (stepF g c).1 cs)
def allF (g:Gr)(cs:List Ch):Gr × Int × Int:=if¬graphE g=0 then(zeroG,0,graphE g)else stepsF g cs 0
def chR (cs:List Ch):List (List AV):=cs.map encC
theorem chR_length (l:List Ch):(chR l).length=l.length:=by simp[chR]
theorem chR_get (l:List Ch)(i:Nat):(chR l)[i]?=(l[i]?).map encC:=by simp[chR]
@[simp] theorem spl_encC (a0 a1 a2 a3 a4 a5 a6 a7 a8 a9:AV)(c:Ch):splice [a0,a1,a2,a3,a4,a5,a6,a7,a8,a9] 0 (encC c)=encC c:=by simp[splice]
theorem repG_read {h:Hp}{tag:Nat→Tg}{E:Nat}{g:Gr}{N V:AV}{nr er:List (List AV)}(H:RepG h tag E g N V nr er)(n:Nat):
 ∃y1 y2,Ae.snap h (n+4) (.ag [N,V,.sc (.int .i64 g.nn),.sc (.int .i64 g.ne)])=some (.ag [y1,y2,.sc (.int .i64 g.nn),.sc (.int .i64 g.ne)])∧nfG (.ag [y1,y2,.sc (.int .i64 g.nn),.sc (.int .i64 g.ne)])= .ag (encG g):=by
 obtain⟨r1,y1,a1,a2,a3,a4,a5⟩:=nodes_read n H.ns H.na;obtain⟨r2,y2,b1,b2,b3,b4,b5⟩:=edges_read n H.es H.ea;have en:r1.map nfN=ndR g.nodes:=by
  apply List.ext_getElem?;intro i;rw[Zs,ndR_get];cases hc:g.nodes[i]? with
  |
   none=>
   rw[List.getElem?_eq_none (by have:=List.getElem?_eq_none_iff.1 hc;omega)];rfl
  |
   some c=>
   obtain⟨r',h1,a,b,rfl,h2,h3⟩:=a5 i c hc;rw[h1];simp only[Option.map_some,nfN,h2,h3];rfl
 have ee:r2.map nfE=edR g.edges:=by
  apply List.ext_getElem?;intro i;rw[Zs,edR_get];cases hc:g.edges[i]? with
  |
   none=>
   rw[List.getElem?_eq_none (by have:=List.getElem?_eq_none_iff.1 hc;omega)];rfl
  |
   some c=>
   obtain⟨r',h1,b,rfl,h3⟩:=b5 i c hc;rw[h1];simp only[Option.map_some,nfE,h3];rfl
 have l1:nfL 3 nfN y1=ndV g.nodes:=by
  rcases nfS_inv a2 with⟨z,rfl⟩|⟨rfl,rfl⟩
  ·simp[nfL,en,ndV]
  ·have:ndR g.nodes=[]:=by rw[←en];rfl
   simp[nfL,ndV,this]
 have l2:nfL 5 nfE y2=edV g.edges:=by
  rcases nfS_inv b2 with⟨z,rfl⟩|⟨rfl,rfl⟩
  ·simp[nfL,ee,edV]
  ·have:edR g.edges=[]:=by rw[←ee];rfl
   simp[nfL,edV,this]
 refine⟨y1,y2,?_,?_⟩
 ·show([N,V,.sc (.int .i64 g.nn),.sc (.int .i64 g.ne)].mapM (Ae.snap h (n+3))).map AV.ag=_;rw[Zo,Zo,Zo,Zo,List.mapM_nil,a1,b1];simp[Ae.snap]
 ·simp only[nfG,l1,l2,encG]
theorem nfR_tp3 {x y:AV}{u v:AV}(h:nfG x=y):nfR (.tp [x,u,v])= .tp [y,u,v]:=by simp only[nfR,h]
theorem snap_tp3 {h:Hp}{x x':AV}{u v:Value}(e:Ae.snap h 7 x=some x'):Ae.snap h 8 (.tp [x,.sc u,.sc v])=some (.tp [x',.sc u,.sc v]):=by
 show([x,.sc u,.sc v].mapM (Ae.snap h 7)).map AV.tp=_;rw[Zo,Zo,Zo,List.mapM_nil,e];simp[Ae.snap]
theorem c_ApplyAll (n D:Nat)(b:Bool)(g:Gr)(cs:List Ch)(z:Bool)(h:Hp)(hg:GrB D g)(hc:cs.length≤1000000)(hok:graphE g=0→OkF D g cs):
 callN cx (n+2*D+12) b 44 [.ag (encG g),.ls 10 (chR cs) z] h=some (.tp [.ag (encG (allF g cs).1),.sc (.int .i64 (allF g cs).2.1),.sc (.int .i64 (allF g cs).2.2)],h):=by
 refine pure_exN (f:=44) (n:=n+2*D+11) (args:=[.ag (encG g),.ls 10 (chR cs) z]) (.tp [.ag (encG (allF g cs).1),.sc (.int .i64 (allF g cs).2.1),.sc (.int .i64 (allF g cs).2.2)]) ⟨Tryz.f44.ntmps,(Tryz.f44.body).getD .skip,[.cell 4 4 true,.tmp 5,.tmp 6]⟩ (by kernel_rfl) (by kernel_rfl) rfl (by kernel_rfl) (by simp[Tryz.f44]) rfl ?_ (by decide) b h;have f1:=fun bb hh=>g_Check (n+3) D bb g hh hg
 rw[show n+3+2*D+8=n+2*D+11 by omega]at f1;unfold allF;by_cases he:graphE g=0
 ·rw[if_neg (by simp[he])];have hgv:=gv_of he;have hnb:=nb_of he;have hok:=hok he;obtain⟨r,h1,c1,N,V,t1,nr,er,rfl,o1,o2,a1,a2,FO⟩:=c_copied (n+2*D+9) true g (fun _=> .none) [.row (encG g),.row [.sc (.slice none 0 0),.sc (.slice none 0 0),.sc (.int .i64 0),.sc (.int .i64 0)]] hgv.nl hgv.el (fun m hm=>by have:=partsE_zero (hgv.np m hm);omega) (fun m hm=>by have:=partsE_zero (hgv.ep m hm);omega);have k4:=FO 1 _ rfl (by simp);have pE:=Frm.push h1 t1 (.row [N,V,.sc (.int .i64 g.nn),.sc (.int .i64 g.ne)]) .box (fun _=>False);have R0:RepG (h1++[.row [N,V,.sc (.int .i64 g.nn),.sc (.int .i64 g.ne)]]) (tagU t1 h1.length .box) h1.length g N V nr er:={
   box:=by simp
   tb:=tagU_self _ _ _
   ns:=o1.frm pE (fun q=>q)
   es:=o2.frm pE (fun q=>q)
   na:=a1.imp fun a _ r q=>q.frm pE (fun q=>q) (fun q=>q)
   ea:=a2.imp fun a _ r q=>q.frm pE (fun q=>q)}
  have k5:=pE 1 _ k4.1 (fun q=>q);have hq:=chR_length cs;have hgt:=chR_get cs;generalize chR cs=rows at hq hgt⊢;generalize hT:AV.tp [.ag (encG (stepsF g cs 0).1),.sc (.int .i64 (stepsF g cs 0).2.1),.sc (.int .i64 (stepsF g cs 0).2.2)]=T;rw[he]at f1;simp only[encG,ndV,edV]at f1 c1;simp[Tryz.f44,encG,ndV,edV,f1,c1,splice,hq];refine loop_up (C:=cx) (G:=fun r=>∃r0 h',finX _ (thenX _ _ (blockX _ r) _)=some (r0,h')∧∃r',Ae.snap h' 8 r0=some r'∧nfR r'=T)
   (fun i s=>∃gi tt N V nr er,i≤cs.length∧s.1.length=40∧gt s.1 1= .ls 10 rows z∧gt s.1 4= .pt 1 0∧gt s.1 8= .pt h1.length 0∧gt s.1 21= .ls 10 rows z∧gt s.1 22= .sc (.int .i64 cs.length)∧gt s.1 23= .sc (.int .i64 i)∧stepsF g cs 0=stepsF gi (cs.drop i) i∧OkF D gi (cs.drop i)∧RepG s.2 tt h1.length gi N V nr er∧s.2[1]?=some (.row [.sc (.slice none 0 0),.sc (.slice none 0 0),.sc (.int .i64 0),.sc (.int .i64 0)])∧tt 1= .none)
   (fun o s=>s.1.length=40∧gt s.1 4= .pt 1 0∧((o= .ret∧∃i e:Int,gt s.1 5= .sc (.int .i64 i)∧gt s.1 6= .sc (.int .i64 e)∧stepsF g cs 0=(zeroG,i,e)∧s.2[1]?=some (.row [.sc (.slice none 0 0),.sc (.slice none 0 0),.sc (.int .i64 0),.sc (.int .i64 0)]))∨
    (o= .exit 0∧gt s.1 1= .ls 10 rows z∧gt s.1 8= .pt h1.length 0∧∃gi tt N V nr er,stepsF g cs 0=(gi,(cs.length:Int),0)∧RepG s.2 tt h1.length gi N V nr er∧s.2[1]?=some (.row [.sc (.slice none 0 0),.sc (.slice none 0 0),.sc (.int .i64 0),.sc (.int .i64 0)])∧tt 1= .none))) cs.length (by simp;omega) ?_ ?_ ?_
  ·exact⟨g,_,N,V,nr,er,by omega,rfl,rfl,rfl,rfl,rfl,rfl,rfl,rfl,hok,R0,k5.1,k5.2.trans k4.2⟩
  ·rintro i fr hp hle' ⟨gi,tt,N',V',nr',er',hle2,hlen,g1,g4,g8,g21,g22,g23,hst,hok,RG,hz1,tz1⟩;simp only at hlen g1 g4 g8 g21 g22 g23 RG hz1;by_cases hi:i<cs.length
   ·obtain⟨c,hc⟩:∃e,cs[i]?=some e:=⟨_,Zb hi⟩;have hr:rows[i]?=some (encC c):=by rw[hgt,hc];rfl
    have hr':∀k,rows[i]'k=encC c:=fun k=>by obtain⟨_,e⟩:=Za.1 hr;exact e
    have hdr:cs.drop i=c::cs.drop (i+1):=by
     obtain⟨k,e⟩:=Za.1 hc;rw[Zm k,e]
    rw[hdr,stepsF]at hst;rw[hdr]at hok;obtain⟨v1,v2,v3,v4,v5⟩:=hok;have p1:=Frm.push hp tt (.row (encC c)) .none (fun _=>False);have RG1:=repG_box RG (encC c);obtain⟨h',s1,⟨t4,s2⟩,s3⟩:=ed_step n D true h1.length gi c N' V' nr' er' _ _ RG1 v1 v2 v3 v4;have kz:=p1 1 _ hz1 (fun q=>q);have kz2:=s2 1 _ kz.1 (by rw[kz.2,tz1];simp);have hf:=fit_succ (i:=i) (by omega);generalize stepF gi c=r at hst s1 s3 v5;by_cases h0:r.2=0
    ·rw[if_pos h0]at hst;rw[h0]at s1;obtain⟨t5,N2,V2,nr2,er2,RG2,FO2⟩:=s3 h0;have kz3:=FO2 1 _ kz.1 (by rw[kz.2,tz1];simp);simp[hlen,g1,g4,g8,g21,g22,g23,hi,hq,hr,hr',s1,hf];exact⟨hi,r.1,hst,v5 h0,t5,⟨N2,V2,nr2,er2,RG2⟩,kz3.1,kz3.2.trans (kz.2.trans tz1)⟩
    ·rw[if_neg h0]at hst;have hb2:=kz2.1;have lz:=(Za.1 hb2).1;have hs2:∀y,(h'.set 1 y)[1]?=some y:=fun y=>Zj lz
     simp[hlen,g1,g4,g8,g21,g22,g23,hi,hq,hr,hr',s1,h0,hb2,hs2,splice];exact hst
   ·have hil:i=cs.length:=Nat.le_antisymm hle2 (Yb hi);subst hil;rw[List.drop_length,stepsF]at hst;simp[hlen,g1,g4,g8,g21,g22,g23];exact⟨gi,hst,tt,⟨N',V',nr',er',RG⟩,hz1,tz1⟩
  ·rintro o fr hp hn ⟨hlen,g4,⟨rfl,i,e,g5,g6,hst,hz1⟩|⟨rfl,g1,g8,gi,tt,N',V',nr',er',hst,RG,hz1,tz1⟩⟩
   ·simp only at hlen g4 g5 g6 hz1;rw[hst]at hT;simp[hlen,g4,g5,g6,hz1];exact⟨_,_,⟨rfl,rfl⟩,_,rfl,hT⟩
   ·simp only at hlen g1 g4 g8 RG hz1;rw[hst]at hT;have hb:=RG.box;have lz:=(Za.1 hz1).1;have hs2:∀y,(hp.set 1 y)[1]?=some y:=fun y=>Zj lz
    have RG':=RG.frm (Frm.set hp tt 1 (.row [N',V',.sc (.int .i64 gi.nn),.sc (.int .i64 gi.ne)]) (S:=fun t=>t= .none) tz1);obtain⟨y1,y2,w1,w2⟩:=repG_read RG' 3;simp[hlen,g1,g4,g8,hb,hz1,hs2,hq,splice];exact⟨_,_,⟨rfl,rfl⟩,_,snap_tp3 w1,by rw[←hT];exact nfR_tp3 w2⟩
 ·rw[if_pos he];generalize graphE g=e at f1 he;simp only[encG,ndV,edV]at f1;simp[Tryz.f44,encG,ndV,edV,f1,he,splice];exact⟨_,_,⟨rfl,rfl⟩,_,rfl,rfl⟩
end
section
attribute [local simp] aop aopW coldF extF putA ofConst flat scalarOp fastOp binFast intOp strOp guardX Ae.part rowOf szOk natOf lenA cls fillA splice newsOf isNilC cellX
set_option maxHeartbeats 16000000
theorem call_frz {f:FuncId}{args ys:List AV}{n:Nat}{r:AV}{h h':Hp}(hs:cx.srt f=none)(hi:cx.inl f=false)(ha:args.mapM (Ae.snap h 8)=some ys)(hc:ys.all calm=true)(hca:args.all calm=false)(hr:scalarRes r=false)(hm:(args.mapM (Ae.snap (mask (args.flatMap (reach h 8)) h) 8)).isSome=true)(hf:Ae.freeze (args.flatMap (reach h 8)) h=some h')
 (hcall:callN cx (n+1) true f ys h=some (r,h)):callN cx (n+1) true f args h=some (r,h'):=by
 have e:ys.mapM (Ae.snap h 8)=some ys:=mapM_calm (n:=6) hc;simp only[callN,hs,hi,Yp,if_false,e,hc,Bool.true_or,if_true,ha]at hcall⊢;split at hcall
 ·rename_i r0 h0;simp only[Zc,Zg,and_true]at hcall;subst hcall;simp only[hca,hr,Bool.or_self,Yp,if_false,hm,Bool.and_self,if_true,hf,Option.map_some]
 ·cases hcall
theorem reach_calm1 {h:Hp}{n:Nat}{x:AV}(hx:calm1 x=true):reach h n x=[]:=by
 cases n<;>cases x<;>simp[calm1]at hx<;>rfl
theorem flat_calm1 {h:Hp}{n:Nat}:∀{xs:List AV},xs.all calm1=true→xs.flatMap (reach h n)=[]
 | [],_=>rfl
 |
  x::xs,hx=>by
  rw[Zn,Zh]at hx;rw[List.flatMap_cons,reach_calm1 hx.1,flat_calm1 hx.2];rfl
theorem calm1_encC (c:Ch):(encC c).all calm1=true:=by
 have h1:=calm_encC c;rw[Zn,Zh]at h1;exact h1.1
theorem onEF_err {g:Gr}{c:Ch}{m:Ed}:¬(onEF g c m).2=0→(onEF g c m).1=zeroG:=by
 unfold onEF
 (repeat' split)<;>intro h<;>first|exact absurd rfl h|rfl
theorem onNF_err {g:Gr}{c:Ch}{m:Nd}:¬(onNF g c m).2=0→(onNF g c m).1=zeroG:=by
 unfold onNF
 (repeat' split)<;>intro h<;>first|exact absurd rfl h|rfl
theorem stepF_err {g:Gr}{c:Ch}:¬(stepF g c).2=0→(stepF g c).1=zeroG:=by
 unfold stepF
 (repeat' split)<;>intro h<;>first|exact absurd rfl h|rfl|exact onEF_err h|exact onNF_err h
theorem allF_one (g:Gr)(c:Ch):((allF g [c]).1,(allF g [c]).2.2)=appF g c:=by
 unfold allF appF;split
 ·rfl
 ·rw[stepsF];split
  ·rename_i h;rw[stepsF];exact Prod.ext rfl h.symm
  ·rename_i h;exact Prod.ext (stepF_err h).symm rfl
theorem c_Apply (n D:Nat)(b:Bool)(g:Gr)(c:Ch)(h:Hp)(hg:GrB D g)(hd:dep c.v≤D)(hv:bdV c.v):
 callN cx (n+2*D+13) b 33 [.ag (encG g),.ag (encC c)] h=some (.tp [.ag (encG (appF g c).1),.sc (.int .i64 (appF g c).2)],h):=by
 have f0:=c_ApplyAll n D true g [c] false [.row (encG g),.row (encC c),.row [.sc (.slice none 0 0),.sc (.slice none 0 0),.sc (.int .i64 0),.sc (.int .i64 0)],.row (encC c)] hg (by simp) (fun he=>⟨gv_of he,nb_of he,hd,hv,fun _=>trivial⟩);have ea:=allF_one g c;refine pure_exN (f:=33) (n:=n+2*D+12) (args:=[.ag (encG g),.ag (encC c)]) (.tp [.ag (encG (appF g c).1),.sc (.int .i64 (appF g c).2)]) ⟨Tryz.f33.ntmps,(Tryz.f33.body).getD .skip,[.cell 4 4 true,.tmp 5]⟩ (by kernel_rfl) (by kernel_rfl) rfl (by kernel_rfl) (by simp[Tryz.f33]) ?_ ?_ (by decide) b h
 ·rw[Zn,calm_ag1,calm_encC];rfl
 ·rw[←ea];generalize allF g [c]=r at f0;obtain⟨G,i,e⟩:=r;have h1:=calm1_encC c;have hsn:∀(hh:Hp),hh[3]?=some (.row (encC c))→∀m,Ae.snap hh (m+1) (.sl 3 10 0 1 false)=some (.ls 10 (chR [c]) false):=fun hh h3 m=>by
   have:=snap_flat (h:=hh) (n:=m) (id:=3) (sz:=10) (rows:=[encC c]) (cs:=encC c) (by omega) (by simp) (by simpa using h1) (rowOf_row h3) (by simp) (by simp);simpa[chR]using this
  have f1:=call_frz (f:=44) (n:=n+2*D+11) (args:=[.ag (encG g),.sl 3 10 0 1 false]) (ys:=[.ag (encG g),.ls 10 (chR [c]) false]) (h:=[.row (encG g),.row (encC c),.row [.sc (.slice none 0 0),.sc (.slice none 0 0),.sc (.int .i64 0),.sc (.int .i64 0)],.row (encC c)]) (h':=[.row (encG g),.row (encC c),.row [.sc (.slice none 0 0),.sc (.slice none 0 0),.sc (.int .i64 0),.sc (.int .i64 0)],.ice (encC c)])
   (by kernel_rfl) (by kernel_rfl) (by rw[Zo,Zo,List.mapM_nil,hsn _ rfl 7];rfl) rfl rfl rfl ?_ ?_ f0
  ·simp only[encG,ndV,edV]at f1;simp[Tryz.f33,encG,ndV,edV,f1,splice];exact⟨_,_,⟨rfl,rfl⟩,_,rfl,nfR_tpG G _⟩
  ·have hr:([AV.ag (encG g),.sl 3 10 0 1 false].flatMap (reach [.row (encG g),.row (encC c),.row [.sc (.slice none 0 0),.sc (.slice none 0 0),.sc (.int .i64 0),.sc (.int .i64 0)],.row (encC c)] 8))=[3]:=by
    show[]++(3::(encC c).flatMap (reach _ 7)++[])=[3];rw[flat_calm1 h1];rfl
   rw[hr];have:(List.mapM (Ae.snap (mask [3] [.row (encG g),.row (encC c),.row [.sc (.slice none 0 0),.sc (.slice none 0 0),.sc (.int .i64 0),.sc (.int .i64 0)],.row (encC c)]) 8) [AV.ag (encG g),.sl 3 10 0 1 false])=some [.ag (encG g),.ls 10 (chR [c]) false]:=by
    rw[Zo,Zo,List.mapM_nil,hsn _ rfl 7];rfl
   rw[this];rfl
  ·have hr:([AV.ag (encG g),.sl 3 10 0 1 false].flatMap (reach [.row (encG g),.row (encC c),.row [.sc (.slice none 0 0),.sc (.slice none 0 0),.sc (.int .i64 0),.sc (.int .i64 0)],.row (encC c)] 8))=[3]:=by
    show[]++(3::(encC c).flatMap (reach _ 7)++[])=[3];rw[flat_calm1 h1];rfl
   rw[hr];have hm:(encC c).mapM (Ae.snap (mask [3] [.row (encG g),.row (encC c),.row [.sc (.slice none 0 0),.sc (.slice none 0 0),.sc (.int .i64 0),.sc (.int .i64 0)],.row (encC c)]) 8)=some (encC c):=mapM_calm1 h1;simp[Ae.freeze,List.range,List.range.loop,hm]
set_option maxHeartbeats 8000000
theorem val_truth (n:Nat)(b x:Bool)(h:Hp):callN cx (n+1) b 293 [.sc (.bool x)] h=some (.sc (.int .i64 (yesI x)),h):=by
 refine pure_calm (r:= .sc (.int .i64 (yesI x))) ⟨Tryz.f293.ntmps,(Tryz.f293.body).getD .skip,[.tmp 2]⟩ (by kernel_rfl) (by kernel_rfl) rfl (by kernel_rfl) (by simp[Tryz.f293]) rfl rfl ?_ b h;cases x<;>simp[Tryz.f293,yesI]
theorem val_tri (n:Nat)(b:Bool)(x:Int)(h:Hp):callN cx (n+1) b 334 [.sc (.int .i64 x)] h=some (.sc (.int .i64 (triS x)),h):=by
 refine pure_calm (n:=n) (r:= .sc (.int .i64 (triS x))) ⟨Tryz.f334.ntmps,(Tryz.f334.body).getD .skip,[.tmp 2]⟩ (by kernel_rfl) (by kernel_rfl) rfl (by kernel_rfl) (by simp[Tryz.f334]) rfl rfl ?_ b h;by_cases h0:x=0
 ·simp[Tryz.f334,triS,h0]
 ·by_cases h2:x=2
  ·simp[Tryz.f334,triS,h2]
  ·simp[Tryz.f334,triS,h0,h2]
theorem val_And (n:Nat)(b:Bool)(x y:Int)(h:Hp):callN cx (n+2) b 294 [.sc (.int .i64 x),.sc (.int .i64 y)] h=some (.sc (.int .i64 (andS x y)),h):=by
 refine pure_calm (n:=n+1) (r:= .sc (.int .i64 (andS x y))) ⟨Tryz.f294.ntmps,(Tryz.f294.body).getD .skip,[.tmp 4]⟩ (by kernel_rfl) (by kernel_rfl) rfl (by kernel_rfl) (by simp[Tryz.f294]) rfl rfl ?_ b h;have f1:=val_tri n;unfold andS;by_cases hc:triS y<triS x
 ·simp[Tryz.f294,f1,hc]
 ·simp[Tryz.f294,f1,hc]
set_option maxHeartbeats 16000000
theorem val_equal1 (M:Nat)(k n d k' n' d':Int)(s s':ByteArray)(L L':AV)(N1 D1 N2 D2:Int)(B1 B2:Bool)(hL:calm1 L=true)(hL':calm1 L'=true)
 (f2:∀b h,callN cx M b 105 [.ag [.sc (.int .i64 k),.sc (.int .i64 n),.sc (.int .i64 d),.sc (.string s),L]] h=some (.tp [frA N1 D1,.sc (.bool B1)],h))
 (f4:∀b h,callN cx M b 105 [.ag [.sc (.int .i64 k'),.sc (.int .i64 n'),.sc (.int .i64 d'),.sc (.string s'),L']] h=some (.tp [frA N2 D2,.sc (.bool B2)],h))
 (hy:∀x b h,callN cx M b 293 [.sc (.bool x)] h=some (.sc (.int .i64 (yesI x)),h))
 (hB:¬(B1=true∧B2=true)) (hn:(k=0∨k'=0)∨¬k=k'∨(¬k=8∧¬k=7)) (b:Bool) (h:Hp):
 callN cx (M+1) b 211 [.ag [.sc (.int .i64 k),.sc (.int .i64 n),.sc (.int .i64 d),.sc (.string s),L],.ag [.sc (.int .i64 k'),.sc (.int .i64 n'),.sc (.int .i64 d'),.sc (.string s'),L']] h=some (.sc (.int .i64 (
  if k=0∨k'=0 then 1
  else if¬k=k' then 0
  else yesI (decide (n=n') && eqS s s'))),h):=by
 refine pure_calm (n:=M) (r:= .sc (.int .i64 _)) ⟨Tryz.f211.ntmps,(Tryz.f211.body).getD .skip,[.tmp 4]⟩ (by kernel_rfl) (by kernel_rfl) rfl (by kernel_rfl) (by simp[Tryz.f211]) (by rw[Zn,Zn,calm_ag1,calm_ag1];simp[hL,hL']) rfl ?_ b h;unfold frA at f2 f4;by_cases k0:k=0
 ·simp[Tryz.f211,k0]
 ·by_cases k0':k'=0
  ·simp[Tryz.f211,k0,k0']
  ·have hn2:¬k=k'∨(¬k=8∧¬k=7):=by
    rcases hn with(e|e)|e
    ·exact absurd e k0
    ·exact absurd e k0'
    ·exact e
   clear hn;cases B1<;>cases B2
   case true.true=>exact absurd ⟨rfl,rfl⟩ hB
   all_goals
    by_cases hk:k=k'
    ·subst hk;have h8:¬k=8∧¬k=7:=by
      rcases hn2 with e|e
      ·exact absurd rfl e
      ·exact e
     by_cases e1:n=n'
     ·subst e1;simp[Tryz.f211,k0,f2,f4,hy,h8.1,h8.2]
     ·simp[Tryz.f211,k0,f2,f4,hy,h8.1,h8.2,e1]
    ·simp[Tryz.f211,k0,k0',f2,f4,hy,hk]
theorem dvd_low {a b c d:Nat}(h:a*d=c*b)(g:Nat.gcd a b=1):b ∣ d:=by
 have h1:b ∣ a*d:=⟨c,by rw[h,Nat.mul_comm]⟩;exact Nat.Coprime.dvd_of_dvd_mul_left (Nat.Coprime.symm g) h1
theorem sgnI_zero {x:Int}:sgnI x=0↔x=0:=by unfold sgnI;(repeat' split)<;>omega
theorem low_eq {n1 d1 n2 d2:Int}(h1:fv n1 d1=true)(h2:fv n2 d2=true):cmpF n1 d1 n2 d2=0↔n1=n2∧d1=d2:=by
 unfold cmpF nrmN nrmD;rw[h1,h2,sgnI_zero];simp only[cond_true];simp only[fv,Zh,Zz,gcdI]at h1 h2;constructor
 ·intro h;have e:n1*d2=n2*d1:=by omega
  have en:n1.natAbs*d2.natAbs=n2.natAbs*d1.natAbs:=by rw[←Int.natAbs_mul,←Int.natAbs_mul,e]
  have g1:Nat.gcd n1.natAbs d1.natAbs=1:=Int.ofNat.inj (of_decide_eq_true h1.2);have g2:Nat.gcd n2.natAbs d2.natAbs=1:=Int.ofNat.inj (of_decide_eq_true h2.2);have a1:=dvd_low en g1;have a2:=dvd_low en.symm g2;have a3:=Nat.dvd_antisymm a1 a2;have ed:d1=d2:=by omega
  subst ed;exact⟨Int.eq_of_mul_eq_mul_right (by omega) e,rfl⟩
 ·rintro⟨rfl,rfl⟩;omega
theorem fv_num {v:V}(h:numB v=true):fv (numN v) (numD v)=true:=by
 unfold numB at h;rw[Zh,Bool.or_eq_true,Zz,Zz]at h;obtain⟨ho,hk⟩:=h;unfold numN numD;rw[if_pos ho,if_pos ho];cases v with
 |
  mk k n d s z l=>
  simp only[V.k,V.n,V.d]at hk⊢;unfold okT at ho;rw[okV]at ho;simp only[Zh]at ho;obtain⟨_,ho⟩:=ho;rcases hk with rfl|rfl
  ·simp at ho⊢;rw[fv,ho];simp[gcdI]
  ·simp at ho⊢;exact ho.2
theorem num_eq {v w:V}(hv:numB v=true)(hw:numB w=true):decide (cmpF (numN v) (numD v) (numN w) (numD w)=0)=(decide (numN v=numN w) && decide (numD v=numD w)):=by
 rw[Bool.eq_iff_iff,Zh,Zz,Zz,Zz];exact low_eq (fv_num hv) (fv_num hw)
noncomputable def slowB (u v:AV):Option AV:=slowOp cx (fun o=>match o with| .tmp 0=>u|_=>v) {dst:=none,op:= .binOp .eql 165 (.tmp 0) (.tmp 1) 165,type:=0,pos:= "",after:= #[],guard:=none}
theorem slowB_of (fr:List AV)(d:Option Tmp)(x y:Tmp)(ty:TypeId)(p:String)(a:Array Edge)(g:Option (Nat × Bool)):slowOp cx (ev cx fr) {dst:=d,op:= .binOp .eql 165 (.tmp x) (.tmp y) 165,type:=ty,pos:=p,after:=a,guard:=g}=slowB (gt fr x) (gt fr y):=rfl
theorem runPure_bind {P:Program}{α β:Type}(s:Sem α)(f:α→Sem β):runPure P (s>>=f)=(runPure P s).bind fun a=>runPure P (f a):=by
 induction s with
 |pure a=>rfl
 |program k ih=>exact ih P
 |mark m k ih=>exact ih
 |_=>rfl
theorem runPure_pure {P:Program}{α:Type}(a:α):runPure P (pure a:Sem α)=some a:=rfl
theorem runPure_prog {P:Program}:runPure P program=some P:=rfl
theorem frac_under :Tryz.prog.underlying 165=some (.struct #[{name:= "N",type:=3,offset:=0,embedded:=false,tag:= "",pkgPath:= "",byteOffset:=0},{name:= "D",type:=3,offset:=1,embedded:=false,tag:= "",pkgPath:= "",byteOffset:=8}]):=by kernel_rfl
theorem slowB_eq (a b c d:Int):slowB (.ag [.sc (.int .i64 a),.sc (.int .i64 b)]) (.ag [.sc (.int .i64 c),.sc (.int .i64 d)])=some (.sc (.bool (decide (a=c) && decide (b=d)))):=by
 have hP:cx.P=Tryz.prog:=rfl;have u1:∀t x,Tryz.prog.underlying t=some x→runPure Tryz.prog (underlying t)=some x:=fun t x h=>by
  simp only[underlying,runPure_bind,runPure_prog,Option.bind_some,h];rfl
 have p1:∀(x y:Value),runPure Tryz.prog (part 3 #[x,y] 0)=some x:=fun x y=>by
  kernel_rfl
 have p2:∀(x y:Value),runPure Tryz.prog (part 3 #[x,y] 1)=some y:=fun x y=>by kernel_rfl
 have u165:=u1 _ _ frac_under;have u3:=u1 3 (.int .i64) (by kernel_rfl);have e3:∀(n:Nat) (x y:Int),runPure Tryz.prog (Op.equalIn (n+1) 3 (.int .i64 x) (.int .i64 y))=some (decide (x=y)):=fun n x y=>by
  simp only[Op.equalIn,runPure_bind,u3,Option.bind_some,if_true,runPure_pure];rfl
 have e1:runPure Tryz.prog (Op.equalIn 10000 165 (.agg #[.int .i64 a,.int .i64 b]) (.agg #[.int .i64 c,.int .i64 d]))=some (decide (a=c) && decide (b=d)):=by
  rw[show(10000:Nat)=9998+1+1 from rfl,Op.equalIn];have e3':∀x y:Int,runPure Tryz.prog (Op.equalIn 9999 3 (.int .i64 x) (.int .i64 y))=some (decide (x=y)):=e3 9998;have hs:Tryz.prog.stoodInHeld 165=false:=by kernel_rfl
  have n1:("N" ≠ "_"):=by decide
  have n2:("D" ≠ "_"):=by decide
  simp only[runPure_bind,u165,Option.bind_some,runPure_prog,hs,Yp,if_false,List.forIn_toArray,List.forIn_cons,List.forIn_nil,n1,n2,if_true,p1,p2,e3,ne_eq,not_false_eq_true];by_cases h1:a=c<;>by_cases h2:b=d<;>simp[h1,h2,runPure_pure,runPure_bind,p1,p2,e3']
 have e:runPure cx.P (execOp (fun x=>detOf (match x with| .tmp 0=>AV.ag [.sc (.int .i64 a),.sc (.int .i64 b)]|_=>AV.ag [.sc (.int .i64 c),.sc (.int .i64 d)])) {dst:=none,op:= .binOp .eql 165 (.tmp 0) (.tmp 1) 165,type:=0,pos:= "",after:= #[],guard:=none})=some (.value (.bool (decide (a=c) && decide (b=d)))):=by
  have hg:Tryz.prog.eqGuardType Tryz.prog.depth 165=false:=by kernel_rfl
  simp only[execOp,detOf,List.map,scOf,eqGuard,binOp,Op.equal,Op.maxDepth,runPure_bind,hP,runPure_prog,Option.bind_some,hg,Bool.not_true,Bool.not_false,Yp,if_false,if_true,runPure_pure,e1]
 unfold slowB slowOp;refine(if_pos rfl).trans ?_;rw[e];rfl
def VE (N:Nat)(v w:V):Prop:=∀b h,callN cx N b 211 [.ag (enc v),.ag (enc w)] h=some (.sc (.int .i64 (eqV v w)),h)
theorem val_equal3 (M:Nat)(k n d n' d':Int)(s s':ByteArray)(z z':Bool)(l m:List V)(N1 D1 N2 D2:Int)
 (f2:∀b h,callN cx M b 105 [.ag [.sc (.int .i64 k),.sc (.int .i64 n),.sc (.int .i64 d),.sc (.string s),evL z l]] h=some (.tp [frA N1 D1,.sc (.bool false)],h))
 (f4:∀b h,callN cx M b 105 [.ag [.sc (.int .i64 k),.sc (.int .i64 n'),.sc (.int .i64 d'),.sc (.string s'),evL z' m]] h=some (.tp [frA N2 D2,.sc (.bool false)],h))
 (ha:∀x y b h,callN cx M b 294 [.sc (.int .i64 x),.sc (.int .i64 y)] h=some (.sc (.int .i64 (andS x y)),h))
 (ho:∀x∈l,∀y∈m,VE M x y) (hk:k=8∨k=7) (hl:l.length≤1000000000000000) (b:Bool) (h:Hp):
 callN cx (M+1) b 211 [.ag [.sc (.int .i64 k),.sc (.int .i64 n),.sc (.int .i64 d),.sc (.string s),evL z l],.ag [.sc (.int .i64 k),.sc (.int .i64 n'),.sc (.int .i64 d'),.sc (.string s'),evL z' m]] h=some (.sc (.int .i64 (
  if¬l.length=m.length then 0 else eqL l m 2)),h):=by
 have c1:calm1 (evL z l)=true:=by unfold evL lsV;cases z && (encL l).isEmpty<;>rfl
 have c2:calm1 (evL z' m)=true:=by unfold evL lsV;cases z' && (encL m).isEmpty<;>rfl
 refine pure_calm (n:=M) (r:= .sc (.int .i64 _)) ⟨Tryz.f211.ntmps,(Tryz.f211.body).getD .skip,[.tmp 4]⟩ (by kernel_rfl) (by kernel_rfl) rfl (by kernel_rfl) (by simp[Tryz.f211]) (by rw[Zn,Zn,calm_ag1,calm_ag1];simp[c1,c2]) rfl ?_ b h;unfold frA at f2 f4;clear c1 c2;have hL:=evL_cases z l;have hL':=evL_cases z' m;generalize evL z l=L at hL f2;generalize evL z' m=L' at hL' f4;have hq:=encL_length l;have hg:=encL_get l;have hq':=encL_length m;have hg':=encL_get m;generalize encL l=rows at hq hg hL;generalize encL m=rows' at hq' hg' hL';by_cases hlen:l.length=m.length
 ·rw[if_neg (by simp[hlen])];have hi':((l.length:Int)=(m.length:Int)):=by omega
  by_cases h0:l.length=0
  ·have h0':m.length=0:=by omega
   have e0:eqL l m 2=2:=by
    have:=Zl h0;subst this;rw[eqL]
   have hr:rows=[]:=Zl (by omega);have hr':rows'=[]:=Zl (by omega);subst hr hr';rw[e0];rcases hL with hL|⟨hL,hz⟩<;>rcases hL' with hL'|⟨hL',hz'⟩<;>subst hL<;>subst hL'<;>rcases hk with rfl|rfl
   all_goals
    simp[Tryz.f211,f2,f4];refine loop_up (C:=cx) (G:=fun r=>∃h',finX _ (thenX _ _ (blockX _ r) _)=some (_,h'))
     (fun i st=>st.1.length=95∧gt st.1 77= .sc (.int .i64 0)∧gt st.1 76= .sc (.int .i64 0)∧gt st.1 9= .sc (.int .i64 2))
     (fun o st=>o= .exit 1∧st.1.length=95∧gt st.1 9= .sc (.int .i64 2)) 0 (by simp) ⟨rfl,rfl,rfl,rfl⟩ ?_ ?_
    ·rintro i fr h hle ⟨hlen,g77,g76,g9⟩;simp only at hlen g77 g76 g9;simp[hlen,g77,g76,g9]
    ·rintro o fr h hn ⟨rfl,hlen,g9⟩;simp only at hlen g9;simp[hlen,g9]
  ·rcases hL with hL|⟨hL,hz⟩
   ·rcases hL' with hL'|⟨hL',hz'⟩
    ·subst hL hL';have hlen0:=hlen;rcases hk with rfl|rfl
     ·simp[Tryz.f211,f2,f4,hq,hq',hi',hlen];refine loop_up (C:=cx) (G:=fun r=>∃h',finX _ (thenX _ _ (blockX _ r) _)=some (_,h'))
       (fun i st=>i≤m.length∧st.1.length=95∧gt st.1 2= .pt 0 0∧gt st.1 3= .pt 1 0∧gt st.1 76= .sc (.int .i64 m.length)∧gt st.1 77= .sc (.int .i64 i)∧st.2[0]?=some (.row [.sc (.int .i64 8),.sc (.int .i64 n),.sc (.int .i64 d),.sc (.string s),.ls 5 rows z])∧st.2[1]?=some (.row [.sc (.int .i64 8),.sc (.int .i64 n'),.sc (.int .i64 d'),.sc (.string s'),.ls 5 rows' z'])∧∃a,gt st.1 9= .sc (.int .i64 a)∧eqL l m 2=eqLD l m a i)
       (fun o st=>o= .exit 1∧st.1.length=95∧gt st.1 9= .sc (.int .i64 (eqL l m 2))) m.length (by simp;omega) (by simp[eqLD,hlen]) ?_ ?_
      ·rintro i fr h hle ⟨hle',hlen,g2,g3,g76,g77,s0,s1,a,g9,hor⟩;simp only at hlen g2 g3 g76 g77 g9 s0 s1;have hf:fitI .i64 ((i:Int)+1)=((i+1:Nat):Int):=fit_i64 (by omega) (by omega);by_cases hi:i<m.length
       ·obtain⟨x,hx⟩:∃c,l[i]?=some c:=⟨_,Zb (by omega)⟩;obtain⟨y,hy⟩:∃c,m[i]?=some c:=⟨_,Zb hi⟩;have hr:rows[i]?=some (enc x):=by rw[hg,hx];rfl
        have hr2:rows'[i]?=some (enc y):=by rw[hg',hy];rfl
        have hr':∀k,rows[i]'k=enc x:=fun k=>by obtain⟨_,e⟩:=Za.1 hr;exact e
        have hr2':∀k,rows'[i]'k=enc y:=fun k=>by obtain⟨_,e⟩:=Za.1 hr2;exact e
        have hcall:=ho x (Zi hx) y (Zi hy);unfold VE at hcall;rw[eqLD_step a hx hy]at hor;generalize eqV x y=c at hcall hor;generalize eqL l m 2=T at hor;simp[hlen,g2,g3,g76,g77,g9,s0,s1,hi,hlen0,hq,hq',hr,hr',hr2,hr2',hcall,ha,hf];exact⟨by omega,hor⟩
       ·have hz:=eqLD_end l m a i (by omega);rw[hz]at hor;simp[hlen,g2,g3,g76,g77,g9,s0,s1,hi,hlen0,hq,hq',hor]
      ·rintro o fr h hn ⟨rfl,hlen,g9⟩;simp only at hlen g9;simp[hlen,g9]
     ·simp[Tryz.f211,f2,f4,hq,hq',hi',hlen];refine loop_up (C:=cx) (G:=fun r=>∃h',finX _ (thenX _ _ (blockX _ r) _)=some (_,h'))
       (fun i st=>i≤m.length∧st.1.length=95∧gt st.1 2= .pt 0 0∧gt st.1 3= .pt 1 0∧gt st.1 76= .sc (.int .i64 m.length)∧gt st.1 77= .sc (.int .i64 i)∧st.2[0]?=some (.row [.sc (.int .i64 7),.sc (.int .i64 n),.sc (.int .i64 d),.sc (.string s),.ls 5 rows z])∧st.2[1]?=some (.row [.sc (.int .i64 7),.sc (.int .i64 n'),.sc (.int .i64 d'),.sc (.string s'),.ls 5 rows' z'])∧∃a,gt st.1 9= .sc (.int .i64 a)∧eqL l m 2=eqLD l m a i)
       (fun o st=>o= .exit 1∧st.1.length=95∧gt st.1 9= .sc (.int .i64 (eqL l m 2))) m.length (by simp;omega) (by simp[eqLD,hlen]) ?_ ?_
      ·rintro i fr h hle ⟨hle',hlen,g2,g3,g76,g77,s0,s1,a,g9,hor⟩;simp only at hlen g2 g3 g76 g77 g9 s0 s1;have hf:fitI .i64 ((i:Int)+1)=((i+1:Nat):Int):=fit_i64 (by omega) (by omega);by_cases hi:i<m.length
       ·obtain⟨x,hx⟩:∃c,l[i]?=some c:=⟨_,Zb (by omega)⟩;obtain⟨y,hy⟩:∃c,m[i]?=some c:=⟨_,Zb hi⟩;have hr:rows[i]?=some (enc x):=by rw[hg,hx];rfl
        have hr2:rows'[i]?=some (enc y):=by rw[hg',hy];rfl
        have hr':∀k,rows[i]'k=enc x:=fun k=>by obtain⟨_,e⟩:=Za.1 hr;exact e
        have hr2':∀k,rows'[i]'k=enc y:=fun k=>by obtain⟨_,e⟩:=Za.1 hr2;exact e
        have hcall:=ho x (Zi hx) y (Zi hy);unfold VE at hcall;rw[eqLD_step a hx hy]at hor;generalize eqV x y=c at hcall hor;generalize eqL l m 2=T at hor;simp[hlen,g2,g3,g76,g77,g9,s0,s1,hi,hlen0,hq,hq',hr,hr',hr2,hr2',hcall,ha,hf];exact⟨by omega,hor⟩
       ·have hz:=eqLD_end l m a i (by omega);rw[hz]at hor;simp[hlen,g2,g3,g76,g77,g9,s0,s1,hi,hlen0,hq,hq',hor]
      ·rintro o fr h hn ⟨rfl,hlen,g9⟩;simp only at hlen g9;simp[hlen,g9]
    ·omega
   ·omega
 ·rw[if_pos hlen];have hi':¬((l.length:Int)=(m.length:Int)):=by omega
  rcases hL with hL|⟨hL,hz⟩
  ·rcases hL' with hL'|⟨hL',hz'⟩
   ·subst hL hL';rcases hk with rfl|rfl<;>simp[Tryz.f211,f2,f4,hq,hq',hi',hlen]
   ·subst hL hL';have hne:¬l=[]:=fun e=>hlen (by rw[e,hz'];rfl)
    rcases hk with rfl|rfl<;>simp[Tryz.f211,f2,f4,hq,hne]
  ·rcases hL' with hL'|⟨hL',hz'⟩
   ·subst hL hL';have hne:¬0=(m.length:Int):=fun e=>hlen (by omega)
    rcases hk with rfl|rfl<;>simp[Tryz.f211,f2,f4,hq',hne]
   ·exact absurd (by omega) hlen
theorem val_equal2 (M:Nat)(k n d k' n' d':Int)(s s':ByteArray)(L L':AV)(N1 D1 N2 D2:Int)(hL:calm1 L=true)(hL':calm1 L'=true)
 (f2:∀b h,callN cx M b 105 [.ag [.sc (.int .i64 k),.sc (.int .i64 n),.sc (.int .i64 d),.sc (.string s),L]] h=some (.tp [frA N1 D1,.sc (.bool true)],h))
 (f4:∀b h,callN cx M b 105 [.ag [.sc (.int .i64 k'),.sc (.int .i64 n'),.sc (.int .i64 d'),.sc (.string s'),L']] h=some (.tp [frA N2 D2,.sc (.bool true)],h))
 (hy:∀x b h,callN cx M b 293 [.sc (.bool x)] h=some (.sc (.int .i64 (yesI x)),h))
 (hn:¬k=0) (hn':¬k'=0) (b:Bool) (h:Hp):
 callN cx (M+1) b 211 [.ag [.sc (.int .i64 k),.sc (.int .i64 n),.sc (.int .i64 d),.sc (.string s),L],.ag [.sc (.int .i64 k'),.sc (.int .i64 n'),.sc (.int .i64 d'),.sc (.string s'),L']] h=some (.sc (.int .i64 (yesI (decide (N1=N2) && decide (D1=D2)))),h):=by
 refine pure_calm (n:=M) (r:= .sc (.int .i64 _)) ⟨Tryz.f211.ntmps,(Tryz.f211.body).getD .skip,[.tmp 4]⟩ (by kernel_rfl) (by kernel_rfl) rfl (by kernel_rfl) (by simp[Tryz.f211]) (by rw[Zn,Zn,calm_ag1,calm_ag1];simp[hL,hL']) rfl ?_ b h;unfold frA at f2 f4;have e:=slowB_eq N1 D1 N2 D2;generalize(decide (N1=N2) && decide (D1=D2))=q at e⊢;simp[Tryz.f211,hn,hn',f2,f4,hy,slowB_of,e]
theorem if3 {P Q R:Prop}[Decidable P][Decidable Q][Decidable R](p:¬P)(q:¬Q)(r:¬R)(a b c T:Int):(if P then a else if Q then b else if R then c else T)=T:=by
 rw[if_neg p,if_neg q,if_neg r]
theorem VE_all :∀(D:Nat) (v w:V),dep v≤D→dep w≤D→bdV v→bdV w→okT v=true→okT w=true→∀N,VE (N+2*D+6) v w:=by
 intro D
 induction D with
 |zero=>intro v w h;have:=dep_pos v;omega
 |
  succ D ih=>
  intro v w dv dw bv bw ov ow N b h;have pv:=ok_parts ov;have pw:=ok_parts ow;have ho:∀x∈v.l,∀y∈w.l,VE (N+2*D+7) x y:=fun x hx y hy=>by
   have:=ih x y (dep_l dv x hx) (dep_l dw y hy) ((bdV_l bv).2 x hx) ((bdV_l bw).2 y hy) (pv.2.2.2.2.2 x hx) (pw.2.2.2.2.2 y hy) (N+1);rw[show N+1+2*D+6=N+2*D+7 by omega]at this;exact this
  have nv:=fun b h=>val_Number N (D+1) v dv bv b h
  have nw:=fun b h=>val_Number N (D+1) w dw bw b h
  rw[show N+2*(D+1)+5=N+2*D+7 by omega]at nv nw;rw[show N+2*(D+1)+6=N+2*D+7+1 by omega];have hy:=fun x b h=>val_truth (N+2*D+6) b x h
  have ha:=fun x y b h=>val_And (N+2*D+5) b x y h
  have hl:=(bdV_l bv).1;have hne:=fun(q1:numB v=true) (q2:numB w=true)=>num_eq q1 q2
  cases v with
  |
   mk k n d s z l=>
   cases w with
   |
    mk k' n' d' s' z' m=>
    simp only[V.l,V.k,V.n,V.s,V.d]at ho hl pv pw;have c1:calm1 (evL z l)=true:=by unfold evL lsV;cases z && (encL l).isEmpty<;>rfl
    have c2:calm1 (evL z' m)=true:=by unfold evL lsV;cases z' && (encL m).isEmpty<;>rfl
    rw[eqV,ov,ow];simp only[V.k,V.n,V.s,V.l,Bool.true_eq_false,or_false];rw[evV_eq]at nv nw;by_cases h0:k=0∨k'=0
    ·rw[if_pos h0];by_cases hB:numB (.mk k n d s z l)=true∧numB (.mk k' n' d' s' z' m)=true
     ·exfalso;rcases h0 with rfl|rfl
      ·have:numB (.mk 0 n d s z l)=false:=by show(okT _ && false)=false;exact Bool.and_false _
       rw[this]at hB;exact absurd hB.1 (by simp)
      ·have:numB (.mk 0 n' d' s' z' m)=false:=by show(okT _ && false)=false;exact Bool.and_false _
       rw[this]at hB;exact absurd hB.2 (by simp)
     ·have:=val_equal1 (N+2*D+7) k n d k' n' d' s s' _ _ _ _ _ _ _ _ c1 c2 nv nw hy hB (.inl h0) b h;rw[if_pos h0]at this;exact this
    ·rw[if_neg h0];have hk0:¬k=0:=fun e=>h0 (.inl e)
     have hk0':¬k'=0:=fun e=>h0 (.inr e)
     by_cases hB:numB (.mk k n d s z l)=true∧numB (.mk k' n' d' s' z' m)=true
     ·rw[if_pos hB,hne hB.1 hB.2];rw[hB.1]at nv;rw[hB.2]at nw;exact val_equal2 _ _ _ _ _ _ _ _ _ _ _ _ _ _ _ c1 c2 nv nw hy hk0 hk0' b h
     ·rw[if_neg hB];by_cases h8:k=k'∧(k=8∨k=7)
      ·obtain⟨e,h8⟩:=h8;subst e;have b0:(decide (k=2)||decide (k=3))=false:=by simp;omega
       have b1:numB (.mk k n d s z l)=false:=by show(okT _ && (decide (k=2)||decide (k=3)))=false;rw[b0,Bool.and_false]
       have b2:numB (.mk k n' d' s' z' m)=false:=by show(okT _ && (decide (k=2)||decide (k=3)))=false;rw[b0,Bool.and_false]
       rw[b1]at nv;rw[b2]at nw;exact(val_equal3 _ _ _ _ _ _ _ _ _ _ _ _ _ _ _ _ nv nw ha ho h8 hl b h).trans (congrArg (fun x=>some (AV.sc (.int .i64 x),h)) (if3 (fun e=>e rfl) (by omega) (by omega) _ _ _ _).symm)
      ·have hn:¬k=k'∨(¬k=8∧¬k=7):=by omega
       have:=val_equal1 (N+2*D+7) k n d k' n' d' s s' _ _ _ _ _ _ _ _ c1 c2 nv nw hy hB (.inr hn) b h;rw[if_neg h0]at this;refine this.trans (congrArg (fun x=>some (AV.sc (.int .i64 x),h)) ?_);by_cases e:k=k'
       ·subst e;rw[if_neg (c:=¬k=k) (fun e=>e rfl)];by_cases k4:k=4
        ·rw[if_pos k4];have e1:=pv.2.2.2.2.1 k4;have e2:=pw.2.2.2.2.1 k4;simp[e1,e2]
        ·rw[if_neg k4,if_pos (by omega)];have e1:=pv.2.2.2.1.resolve_left k4;have e2:=pw.2.2.2.1.resolve_left k4;rw[e1,e2];have:eqS ⟨#[]⟩ ⟨#[]⟩=true:=rfl;rw[this,Bool.and_true];exact(if_neg (fun e=>e rfl)).symm
       ·rw[if_pos e];exact(if_pos e).symm
end
end Go.Proofs.YtadaeokidcgdlaaGreatDoor
