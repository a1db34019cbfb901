/- Part of the proof. -/
import Derived.Test.YtmfohnojaginjaaGreatDoorP17
set_option linter.all false
set_option maxHeartbeats 32000000
set_option maxRecDepth 100000
namespace Go.Proofs.YtmfohnojaginjaaGreatDoor
open Go Go.Ae Go.Proofs.Tryz
section
attribute [local simp] cn eD
def jZ(g:Gr)(c:Ch):[AV.ag (cl g),.ag (cB c)].all dk=true:=by
 have h1:=nZ c;rw[Zn,Zh]at h1;rw[Zn,Zn,h1.1];rfl
def dO{l pre eY post:List Nd}{x:Int}(h:gZ (p_ x) (pB x) l pre eY post):cM l x=eY.head?:=by
 rw[<-h.find];unfold cM
 congr 1
def dV{l pre eY post:List Ed}{x:Int}(h:gZ (xj x) (wk x) l pre eY post):iE l x=eY.head?:=by
 rw[<-h.find];unfold iE
 congr 1
structure MT (D:Nat)(g:Gr)(c:Ch)(pn mn qn:List Nd)(pe me qe:List Ed):Prop where
 nl:g.nodes.length<=100000
 el:g.cj.length<=100000
 sn:gZ (p_ c.a) (pB c.a) g.nodes pn mn qn
 se:gZ (xj c.a) (wk c.a) g.cj pe me qe
 YV:0<=c.a/\c.a<=1000000000
 hd:gS c.v<=D
 hv:jK c.v
def Fv(N D:Nat)(b:Bool)(g:Gr)(c:Ch)(h:Hp)(hd:gS c.v<=D)(hv:jK c.v)(he:¬dx c=0):
 ch cx (N+3*D+10) b 91 [.ag (cl g),.ag (cB c)] h=some (.tp [.ag (cl (fq)),.sc (.int .i64 (dx c))],h):=by
 refine nA (n:=N+3*D+9) f91 [.cell 4 4 true,.tmp 5] (jZ _ _) ?_ b h;have fC:=λb h=>gF (N:=N+1) (D:=D) b c h hd hv
 rw[show N+1+3*D+8=N+3*D+9 by omega]at fC;simp only[cB,Zv,Zw]at fC;generalize N+3*D+9=M at fC;generalize dx c=e at fC he;simp[f91,cl,cB,fC,he];exact gq ⟨_,rfl,gG _⟩
def HJ(N D:Nat)(b:Bool)(g:Gr)(c:Ch)(pn mn qn:List Nd)(pe me qe:List Ed)(h:Hp)(H:MT D g c pn mn qn pe me qe)(he:dx c=0)(hk:c.k=1)(n:Nd)(R_:mn=[n])(o:Option Ed)(CT:me.head?=o):
 ch cx (N+3*D+10) b 91 [.ag (cl g),.ag (cB c)] h=some (.tp [.ag (cl (fq)),.sc (.int .i64 (7))],h):=by
 refine nA (n:=N+3*D+9) f91 [.cell 4 4 true,.tmp 5] (jZ _ _) ?_ b h;have fC:=λb h=>gF (N:=N+1) (D:=D) b c h H.hd H.hv
 have fN:=λb x h=>ir (N+3*D+8) b g x h (Yp H.nl (by omega))
 have fE:=λb x h=>jh (N+3*D+8) b g x h (Yp H.el (by omega))
 have jq:=λb h=>fN b c.a h
 have jB:=λb h=>fE b c.a h
 rw[dO H.sn]at jq;rw[dV H.se]at jB;rw[show N+1+3*D+8=N+3*D+9 by omega]at fC;simp only[he,hk,cB,Zv,Zw]at fC;simp only[R_,CT,List.head?_cons,Xy,zV,dh,cl,dy,dz,iD,eU]at jq jB;generalize N+3*D+9=M at fC jq jB;cases o with
 |
  none=>
  simp only[Ao,Xz]at jB;simp[f91,cl,dy,dz,cB,fC,jq,jB,hk];exact gq ⟨_,rfl,gG _⟩
 |some e=>
  simp only[Ao,Xy,dP,eU]at jB;simp[f91,cl,dy,dz,cB,fC,jq,jB,hk];exact gq ⟨_,rfl,gG _⟩
def HK(N D:Nat)(b:Bool)(g:Gr)(c:Ch)(pn mn qn:List Nd)(pe me qe:List Ed)(h:Hp)(H:MT D g c pn mn qn pe me qe)(he:dx c=0)(hk:c.k=1)(R_:mn=[])(hl:2000<=g.nodes.length):
 ch cx (N+3*D+10) b 91 [.ag (cl g),.ag (cB c)] h=some (.tp [.ag (cl (fq)),.sc (.int .i64 (20))],h):=by
 refine nA (n:=N+3*D+9) f91 [.cell 4 4 true,.tmp 5] (jZ _ _) ?_ b h;have fC:=λb h=>gF (N:=N+1) (D:=D) b c h H.hd H.hv
 have fN:=λb x h=>ir (N+3*D+8) b g x h (Yp H.nl (by omega))
 have fE:=λb x h=>jh (N+3*D+8) b g x h (Yp H.el (by omega))
 have jq:=λb h=>fN b c.a h
 have jB:=λb h=>fE b c.a h
 rw[dO H.sn]at jq;rw[dV H.se]at jB;rw[show N+1+3*D+8=N+3*D+9 by omega]at fC;simp only[he,hk,cB,Zv,Zw]at fC;simp only[R_,List.head?_nil,Xz,zV,cl,dy,dz]at jq;have hq:=dC g.nodes;generalize N+3*D+9=M at fC jq jB;have CU:(2000:Int)<=g.nodes.length:=by omega
 cases ho:me.head? with
 |
  none=>
  simp only[ho,Ao,Xz,cl,dy,dz]at jB;simp[f91,cl,dy,dz,cB,fC,jq,jB,hk,hq,CU];exact gq ⟨_,rfl,gG _⟩
 |some e=>
  simp only[ho,Ao,Xy,dP,cl,dy,dz,eU]at jB;simp[f91,cl,dy,dz,cB,fC,jq,jB,hk,hq,CU];exact gq ⟨_,rfl,gG _⟩
def HL(N D:Nat)(b:Bool)(g:Gr)(c:Ch)(pn mn qn:List Nd)(pe me qe:List Ed)(h:Hp)(H:MT D g c pn mn qn pe me qe)(he:dx c=0)(hk:c.k=1)(R_:mn=[])(hl:g.nodes.length<2000):
 ch cx (N+3*D+10) b 91 [.ag (cl g),.ag (cB c)] h=some (.tp [.ag (cl (qG g pn qn ⟨c.a,[],[]⟩)),.sc (.int .i64 (0))],h):=by
 refine nA (n:=N+3*D+9) f91 [.cell 4 4 true,.tmp 5] (jZ _ _) ?_ b h;have fC:=λb h=>gF (N:=N+1) (D:=D) b c h H.hd H.hv
 have fN:=λb x h=>ir (N+3*D+8) b g x h (Yp H.nl (by omega))
 have fE:=λb x h=>jh (N+3*D+8) b g x h (Yp H.el (by omega))
 have jq:=λb h=>fN b c.a h
 have jB:=λb h=>fE b c.a h
 rw[dO H.sn]at jq;rw[dV H.se]at jB;rw[show N+1+3*D+8=N+3*D+9 by omega]at fC;simp only[he,hk,cB,Zv,Zw]at fC;simp only[R_,List.head?_nil,Xz,zV,cl,dy,dz]at jq;have hq:=dC g.nodes;have av:=λb h=>pD (N+3*D+8) b g c.a (.sc (.slice none 0 0)) (.sc (.slice none 0 0)) ⟨c.a,[],[]⟩ pn [] qn h H.nl rfl rfl rfl (by have:=H.sn;rw[R_]at this;exact this) H.YV
 simp only[cl,dy,dz]at av;generalize N+3*D+9=M at fC jq jB av;have CU:¬(2000:Int)<=g.nodes.length:=by omega
 cases ho:me.head? with
 |
  none=>
  simp only[ho,Ao,Xz,cl,dy,dz]at jB;simp[f91,cl,dy,dz,cB,fC,jq,jB,hk,hq,CU,av];exact gq ⟨_,rfl,kC (qG g pn qn ⟨c.a,[],[]⟩) _⟩
 |some e=>
  simp only[ho,Ao,Xy,dP,cl,dy,dz,eU]at jB;simp[f91,cl,dy,dz,cB,fC,jq,jB,hk,hq,CU,av];exact gq ⟨_,rfl,kC (qG g pn qn ⟨c.a,[],[]⟩) _⟩
def HM(N D:Nat)(b:Bool)(g:Gr)(c:Ch)(pn mn qn:List Nd)(pe me qe:List Ed)(h:Hp)(H:MT D g c pn mn qn pe me qe)(he:dx c=0)(h1:¬c.k=1)(h6:¬c.k=6)(h7:¬c.k=7)(h8:¬c.k=8)(R_:mn=[]):
 ch cx (N+3*D+10) b 91 [.ag (cl g),.ag (cB c)] h=some (.tp [.ag (cl (fq)),.sc (.int .i64 (10))],h):=by
 refine nA (n:=N+3*D+9) f91 [.cell 4 4 true,.tmp 5] (jZ _ _) ?_ b h;have fC:=λb h=>gF (N:=N+1) (D:=D) b c h H.hd H.hv
 have fN:=λb x h=>ir (N+3*D+8) b g x h (Yp H.nl (by omega))
 have fE:=λb x h=>jh (N+3*D+8) b g x h (Yp H.el (by omega))
 have jq:=λb h=>fN b c.a h
 have jB:=λb h=>fE b c.a h
 rw[dO H.sn]at jq;rw[dV H.se]at jB;rw[show N+1+3*D+8=N+3*D+9 by omega]at fC;simp only[he,cB,Zv,Zw]at fC;simp only[R_,List.head?_nil,Xz,zV,cl,dy,dz]at jq;generalize N+3*D+9=M at fC jq jB;cases ho:me.head? with
 |
  none=>
  simp only[ho,Ao,Xz,cl,dy,dz]at jB;simp[f91,cl,dy,dz,cB,fC,jq,jB,h1,h6,h7,h8];exact gq ⟨_,rfl,gG _⟩
 |some e=>
  simp only[ho,Ao,Xy,dP,cl,dy,dz,eU]at jB;simp[f91,cl,dy,dz,cB,fC,jq,jB,h1,h6,h7,h8];exact gq ⟨_,rfl,gG _⟩
def HN(N D:Nat)(b:Bool)(g:Gr)(c:Ch)(pn mn qn:List Nd)(pe me qe:List Ed)(h:Hp)(H:MT D g c pn mn qn pe me qe)(he:dx c=0)(h1:¬c.k=1)(h6:¬c.k=6)(h7:¬c.k=7)(h8:¬c.k=8)(n:Nd)(R_:mn=[n])(G:Gr)(E:Int)(Fx:∀b h,ch cx (N+3*D+9) b 148 [.ag (cl g),.ag (cB c),.ag (dh n)] h=some (.tp [.ag (cl G),E],h)):
 ch cx (N+3*D+10) b 91 [.ag (cl g),.ag (cB c)] h=some (.tp [.ag (cl (G)),.sc (.int .i64 (E))],h):=by
 refine nA (n:=N+3*D+9) f91 [.cell 4 4 true,.tmp 5] (jZ _ _) ?_ b h;have fC:=λb h=>gF (N:=N+1) (D:=D) b c h H.hd H.hv
 have fN:=λb x h=>ir (N+3*D+8) b g x h (Yp H.nl (by omega))
 have fE:=λb x h=>jh (N+3*D+8) b g x h (Yp H.el (by omega))
 have jq:=λb h=>fN b c.a h
 have jB:=λb h=>fE b c.a h
 rw[dO H.sn]at jq;rw[dV H.se]at jB;rw[show N+1+3*D+8=N+3*D+9 by omega]at fC;simp only[he,cB,Zv,Zw]at fC;simp only[R_,List.head?_cons,Xy,zV,dh,cl,dy,dz,iD,eU]at jq;simp only[cB,Zv,Zw,dh,cl,dy,dz,iD,eU]at Fx;generalize N+3*D+9=M at fC jq jB Fx;cases ho:me.head? with
 |
  none=>
  simp only[ho,Ao,Xz,cl,dy,dz]at jB;simp[f91,cl,dy,dz,cB,fC,jq,jB,h1,h6,h7,h8,Fx];exact gq ⟨_,rfl,kC G _⟩
 |some e=>
  simp only[ho,Ao,Xy,dP,cl,dy,dz,eU]at jB;simp[f91,cl,dy,dz,cB,fC,jq,jB,h1,h6,h7,h8,Fx];exact gq ⟨_,rfl,kC G _⟩
def De(N D:Nat)(b:Bool)(g:Gr)(c:Ch)(pn mn qn:List Nd)(pe me qe:List Ed)(h:Hp)(H:MT D g c pn mn qn pe me qe)(he:dx c=0)(hk:c.k=7)(CT:me=[]):
 ch cx (N+3*D+10) b 91 [.ag (cl g),.ag (cB c)] h=some (.tp [.ag (cl (fq)),.sc (.int .i64 (11))],h):=by
 refine nA (n:=N+3*D+9) f91 [.cell 4 4 true,.tmp 5] (jZ _ _) ?_ b h;have fC:=λb h=>gF (N:=N+1) (D:=D) b c h H.hd H.hv
 have fN:=λb x h=>ir (N+3*D+8) b g x h (Yp H.nl (by omega))
 have fE:=λb x h=>jh (N+3*D+8) b g x h (Yp H.el (by omega))
 have jq:=λb h=>fN b c.a h
 have jB:=λb h=>fE b c.a h
 rw[dO H.sn]at jq;rw[dV H.se]at jB;rw[show N+1+3*D+8=N+3*D+9 by omega]at fC;simp only[he,hk,cB,Zv,Zw]at fC;simp only[CT,List.head?_nil,Xz,Ao,cl,dy,dz]at jB;generalize N+3*D+9=M at fC jq jB;cases ho:mn.head? with
 |
  none=>
  simp only[ho,zV,Xz,cl,dy,dz]at jq;simp[f91,cl,dy,dz,cB,fC,jq,jB,hk];exact gq ⟨_,rfl,gG _⟩
 |some nn=>
  simp only[ho,zV,Xy,dh,cl,dy,dz,iD,eU]at jq;simp[f91,cl,dy,dz,cB,fC,jq,jB,hk];exact gq ⟨_,rfl,gG _⟩
def Df(N D:Nat)(b:Bool)(g:Gr)(c:Ch)(pn mn qn:List Nd)(pe me qe:List Ed)(h:Hp)(H:MT D g c pn mn qn pe me qe)(he:dx c=0)(hk:c.k=7)(n:Ed)(CT:me=[n])(G:Gr)(E:Int)(Fx:∀b h,ch cx (N+3*D+9) b 147 [.ag (cl g),.ag (cB c),.ag (dP n)] h=some (.tp [.ag (cl G),E],h)):
 ch cx (N+3*D+10) b 91 [.ag (cl g),.ag (cB c)] h=some (.tp [.ag (cl (G)),.sc (.int .i64 (E))],h):=by
 refine nA (n:=N+3*D+9) f91 [.cell 4 4 true,.tmp 5] (jZ _ _) ?_ b h;have fC:=λb h=>gF (N:=N+1) (D:=D) b c h H.hd H.hv
 have fN:=λb x h=>ir (N+3*D+8) b g x h (Yp H.nl (by omega))
 have fE:=λb x h=>jh (N+3*D+8) b g x h (Yp H.el (by omega))
 have jq:=λb h=>fN b c.a h
 have jB:=λb h=>fE b c.a h
 rw[dO H.sn]at jq;rw[dV H.se]at jB;rw[show N+1+3*D+8=N+3*D+9 by omega]at fC;simp only[he,hk,cB,Zv,Zw]at fC;simp only[CT,List.head?_cons,Xy,Ao,dP,cl,dy,dz,eU]at jB;simp only[hk,cB,Zv,Zw,dP,cl,dy,dz,eU]at Fx;generalize N+3*D+9=M at fC jq jB Fx;cases ho:mn.head? with
 |
  none=>
  simp only[ho,zV,Xz,cl,dy,dz]at jq;simp[f91,cl,dy,dz,cB,fC,jq,jB,hk,Fx];exact gq ⟨_,rfl,kC G _⟩
 |some nn=>
  simp only[ho,zV,Xy,dh,cl,dy,dz,iD,eU]at jq;simp[f91,cl,dy,dz,cB,fC,jq,jB,hk,Fx];exact gq ⟨_,rfl,kC G _⟩
def Dg(N D:Nat)(b:Bool)(g:Gr)(c:Ch)(pn mn qn:List Nd)(pe me qe:List Ed)(h:Hp)(H:MT D g c pn mn qn pe me qe)(he:dx c=0)(hk:c.k=8)(CT:me=[]):
 ch cx (N+3*D+10) b 91 [.ag (cl g),.ag (cB c)] h=some (.tp [.ag (cl (fq)),.sc (.int .i64 (11))],h):=by
 refine nA (n:=N+3*D+9) f91 [.cell 4 4 true,.tmp 5] (jZ _ _) ?_ b h;have fC:=λb h=>gF (N:=N+1) (D:=D) b c h H.hd H.hv
 have fN:=λb x h=>ir (N+3*D+8) b g x h (Yp H.nl (by omega))
 have fE:=λb x h=>jh (N+3*D+8) b g x h (Yp H.el (by omega))
 have jq:=λb h=>fN b c.a h
 have jB:=λb h=>fE b c.a h
 rw[dO H.sn]at jq;rw[dV H.se]at jB;rw[show N+1+3*D+8=N+3*D+9 by omega]at fC;simp only[he,hk,cB,Zv,Zw]at fC;simp only[CT,List.head?_nil,Xz,Ao,cl,dy,dz]at jB;generalize N+3*D+9=M at fC jq jB;cases ho:mn.head? with
 |
  none=>
  simp only[ho,zV,Xz,cl,dy,dz]at jq;simp[f91,cl,dy,dz,cB,fC,jq,jB,hk];exact gq ⟨_,rfl,gG _⟩
 |some nn=>
  simp only[ho,zV,Xy,dh,cl,dy,dz,iD,eU]at jq;simp[f91,cl,dy,dz,cB,fC,jq,jB,hk];exact gq ⟨_,rfl,gG _⟩
def Dh(N D:Nat)(b:Bool)(g:Gr)(c:Ch)(pn mn qn:List Nd)(pe me qe:List Ed)(h:Hp)(H:MT D g c pn mn qn pe me qe)(he:dx c=0)(hk:c.k=8)(n:Ed)(CT:me=[n])(G:Gr)(E:Int)(Fx:∀b h,ch cx (N+3*D+9) b 147 [.ag (cl g),.ag (cB c),.ag (dP n)] h=some (.tp [.ag (cl G),E],h)):
 ch cx (N+3*D+10) b 91 [.ag (cl g),.ag (cB c)] h=some (.tp [.ag (cl (G)),.sc (.int .i64 (E))],h):=by
 refine nA (n:=N+3*D+9) f91 [.cell 4 4 true,.tmp 5] (jZ _ _) ?_ b h;have fC:=λb h=>gF (N:=N+1) (D:=D) b c h H.hd H.hv
 have fN:=λb x h=>ir (N+3*D+8) b g x h (Yp H.nl (by omega))
 have fE:=λb x h=>jh (N+3*D+8) b g x h (Yp H.el (by omega))
 have jq:=λb h=>fN b c.a h
 have jB:=λb h=>fE b c.a h
 rw[dO H.sn]at jq;rw[dV H.se]at jB;rw[show N+1+3*D+8=N+3*D+9 by omega]at fC;simp only[he,hk,cB,Zv,Zw]at fC;simp only[CT,List.head?_cons,Xy,Ao,dP,cl,dy,dz,eU]at jB;simp only[hk,cB,Zv,Zw,dP,cl,dy,dz,eU]at Fx;generalize N+3*D+9=M at fC jq jB Fx;cases ho:mn.head? with
 |
  none=>
  simp only[ho,zV,Xz,cl,dy,dz]at jq;simp[f91,cl,dy,dz,cB,fC,jq,jB,hk,Fx];exact gq ⟨_,rfl,kC G _⟩
 |some nn=>
  simp only[ho,zV,Xy,dh,cl,dy,dz,iD,eU]at jq;simp[f91,cl,dy,dz,cB,fC,jq,jB,hk,Fx];exact gq ⟨_,rfl,kC G _⟩
def HO(N D:Nat)(b:Bool)(g:Gr)(c:Ch)(pn mn qn:List Nd)(pe me qe:List Ed)(h:Hp)(H:MT D g c pn mn qn pe me qe)(he:dx c=0)(hk:c.k=6)(n:Ed)(CT:me=[n]):
 ch cx (N+3*D+10) b 91 [.ag (cl g),.ag (cB c)] h=some (.tp [.ag (cl (fq)),.sc (.int .i64 (7))],h):=by
 refine nA (n:=N+3*D+9) f91 [.cell 4 4 true,.tmp 5] (jZ _ _) ?_ b h;have fC:=λb h=>gF (N:=N+1) (D:=D) b c h H.hd H.hv
 have fN:=λb x h=>ir (N+3*D+8) b g x h (Yp H.nl (by omega))
 have fE:=λb x h=>jh (N+3*D+8) b g x h (Yp H.el (by omega))
 have jq:=λb h=>fN b c.a h
 have jB:=λb h=>fE b c.a h
 rw[dO H.sn]at jq;rw[dV H.se]at jB;rw[show N+1+3*D+8=N+3*D+9 by omega]at fC;simp only[he,hk,cB,Zv,Zw]at fC;have Fy:=λb h=>fN b c.b h
 have FA:=λb h=>fN b c.c h
 have HB:True=True:=rfl;simp only[CT,List.head?_cons,Xy,Ao,dP,cl,dy,dz,eU]at jB;generalize N+3*D+9=M at fC jq jB Fy FA fN fE;clear fN fE;generalize mn.head?=oa at jq HB;generalize cM g.nodes c.b=ob at Fy HB;generalize cM g.nodes c.c=oc at FA HB;rcases oa with _|na<;>rcases ob with _|nb<;>rcases oc with _|nc<;>simp only[zV,Xy,Xz,dh,cl,dy,dz,iD,eU]at jq Fy FA HB<;>first|(exfalso;revert HB;decide)|skip
 all_goals (simp[f91,cl,dy,dz,cB,fC,jq,jB,hk,Fy,FA];exact gq ⟨_,rfl,gG _⟩)
def HP(N D:Nat)(b:Bool)(g:Gr)(c:Ch)(pn mn qn:List Nd)(pe me qe:List Ed)(h:Hp)(H:MT D g c pn mn qn pe me qe)(he:dx c=0)(hk:c.k=6)(CT:me=[])(HB:((cM g.nodes c.b).isSome && (cM g.nodes c.c).isSome)=false):
 ch cx (N+3*D+10) b 91 [.ag (cl g),.ag (cB c)] h=some (.tp [.ag (cl (fq)),.sc (.int .i64 (10))],h):=by
 refine nA (n:=N+3*D+9) f91 [.cell 4 4 true,.tmp 5] (jZ _ _) ?_ b h;have fC:=λb h=>gF (N:=N+1) (D:=D) b c h H.hd H.hv
 have fN:=λb x h=>ir (N+3*D+8) b g x h (Yp H.nl (by omega))
 have fE:=λb x h=>jh (N+3*D+8) b g x h (Yp H.el (by omega))
 have jq:=λb h=>fN b c.a h
 have jB:=λb h=>fE b c.a h
 rw[dO H.sn]at jq;rw[dV H.se]at jB;rw[show N+1+3*D+8=N+3*D+9 by omega]at fC;simp only[he,hk,cB,Zv,Zw]at fC;have Fy:=λb h=>fN b c.b h
 have FA:=λb h=>fN b c.c h
 simp only[CT,List.head?_nil,Xz,Ao,cl,dy,dz]at jB;generalize N+3*D+9=M at fC jq jB Fy FA fN fE;clear fN fE;generalize mn.head?=oa at jq HB;generalize cM g.nodes c.b=ob at Fy HB;generalize cM g.nodes c.c=oc at FA HB;rcases oa with _|na<;>rcases ob with _|nb<;>rcases oc with _|nc<;>simp only[zV,Xy,Xz,dh,cl,dy,dz,iD,eU]at jq Fy FA HB<;>first|(exfalso;revert HB;decide)|skip
 all_goals (simp[f91,cl,dy,dz,cB,fC,jq,jB,hk,Fy,FA];exact gq ⟨_,rfl,gG _⟩)
def HQ(N D:Nat)(b:Bool)(g:Gr)(c:Ch)(pn mn qn:List Nd)(pe me qe:List Ed)(h:Hp)(H:MT D g c pn mn qn pe me qe)(he:dx c=0)(hk:c.k=6)(CT:me=[])(HB:((cM g.nodes c.b).isSome && (cM g.nodes c.c).isSome)=true)(hl:4000<=g.cj.length):
 ch cx (N+3*D+10) b 91 [.ag (cl g),.ag (cB c)] h=some (.tp [.ag (cl (fq)),.sc (.int .i64 (20))],h):=by
 refine nA (n:=N+3*D+9) f91 [.cell 4 4 true,.tmp 5] (jZ _ _) ?_ b h;have fC:=λb h=>gF (N:=N+1) (D:=D) b c h H.hd H.hv
 have fN:=λb x h=>ir (N+3*D+8) b g x h (Yp H.nl (by omega))
 have fE:=λb x h=>jh (N+3*D+8) b g x h (Yp H.el (by omega))
 have jq:=λb h=>fN b c.a h
 have jB:=λb h=>fE b c.a h
 rw[dO H.sn]at jq;rw[dV H.se]at jB;rw[show N+1+3*D+8=N+3*D+9 by omega]at fC;simp only[he,hk,cB,Zv,Zw]at fC;have Fy:=λb h=>fN b c.b h
 have FA:=λb h=>fN b c.c h
 have hq:=dD g.cj;have CU:(4000:Int)<=g.cj.length:=by omega
 simp only[CT,List.head?_nil,Xz,Ao,cl,dy,dz]at jB;generalize N+3*D+9=M at fC jq jB Fy FA fN fE;clear fN fE;generalize mn.head?=oa at jq HB;generalize cM g.nodes c.b=ob at Fy HB;generalize cM g.nodes c.c=oc at FA HB;rcases oa with _|na<;>rcases ob with _|nb<;>rcases oc with _|nc<;>simp only[zV,Xy,Xz,dh,cl,dy,dz,iD,eU]at jq Fy FA HB<;>first|(exfalso;revert HB;decide)|skip
 all_goals (simp[f91,cl,dy,dz,cB,fC,jq,jB,hk,Fy,FA,hq,CU];exact gq ⟨_,rfl,gG _⟩)
def HR(N D:Nat)(b:Bool)(g:Gr)(c:Ch)(pn mn qn:List Nd)(pe me qe:List Ed)(h:Hp)(H:MT D g c pn mn qn pe me qe)(he:dx c=0)(hk:c.k=6)(CT:me=[])(HB:((cM g.nodes c.b).isSome && (cM g.nodes c.c).isSome)=true)(hl:g.cj.length<4000):
 ch cx (N+3*D+10) b 91 [.ag (cl g),.ag (cB c)] h=some (.tp [.ag (cl (qH g pe qe ⟨c.a,c.b,c.c,c.name,[]⟩)),.sc (.int .i64 (0))],h):=by
 refine nA (n:=N+3*D+9) f91 [.cell 4 4 true,.tmp 5] (jZ _ _) ?_ b h;have fC:=λb h=>gF (N:=N+1) (D:=D) b c h H.hd H.hv
 have fN:=λb x h=>ir (N+3*D+8) b g x h (Yp H.nl (by omega))
 have fE:=λb x h=>jh (N+3*D+8) b g x h (Yp H.el (by omega))
 have jq:=λb h=>fN b c.a h
 have jB:=λb h=>fE b c.a h
 rw[dO H.sn]at jq;rw[dV H.se]at jB;rw[show N+1+3*D+8=N+3*D+9 by omega]at fC;simp only[he,hk,cB,Zv,Zw]at fC;have Fy:=λb h=>fN b c.b h
 have FA:=λb h=>fN b c.c h
 have hq:=dD g.cj;have CU:¬(4000:Int)<=g.cj.length:=by omega
 simp only[CT,List.head?_nil,Xz,Ao,cl,dy,dz]at jB;have av:=λb h=>zh (N+3*D+8) b g c.a c.b c.c c.name (.sc (.slice none 0 0)) ⟨c.a,c.b,c.c,c.name,[]⟩ pe [] qe h H.el rfl rfl (by have:=H.se;rw[CT]at this;exact this) H.YV
 simp only[cl,dy,dz]at av;generalize N+3*D+9=M at fC jq jB Fy FA fN fE av;clear fN fE;generalize mn.head?=oa at jq HB;generalize cM g.nodes c.b=ob at Fy HB;generalize cM g.nodes c.c=oc at FA HB;rcases oa with _|na<;>rcases ob with _|nb<;>rcases oc with _|nc<;>simp only[zV,Xy,Xz,dh,cl,dy,dz,iD,eU]at jq Fy FA HB<;>first|(exfalso;revert HB;decide)|skip
 all_goals (simp[f91,cl,dy,dz,cB,fC,jq,jB,hk,Fy,FA,hq,CU,av];exact gq ⟨_,rfl,kC (qH g pe qe ⟨c.a,c.b,c.c,c.name,[]⟩) _⟩)
section
variable {α : Type} {lt eq : α -> Bool} {l pre eY post : List α}
def filter_all{f:α->Bool}{l:List α}(h:∀x∈l,f x=true):l.filter f=l:=List.filter_eq_self.2 h
def uJ{f:α->Bool}{l:List α}(h:∀x∈l,f x=false):l.filter f=[]:=by
 rw[List.filter_eq_nil_iff];intro x hx;rw[h x hx];simp
def j4(h:gZ lt eq l pre eY post):l.filter lt=pre:=by
 rw[h.e,Yq,Yq,filter_all (λx hx=>(h.p x hx).1),uJ (λx hx=>(h.m x hx).1),uJ (λx hx=>(h.q x hx).1),Yr,Yr]
def iM(h:gZ lt eq l pre eY post):l.filter (λx=> !lt x && !eq x)=post:=by
 rw[h.e,Yq,Yq,uJ (λx hx=>by rw[(h.p x hx).1];rfl),uJ (λx hx=>by rw[(h.m x hx).2];simp),filter_all (λx hx=>by rw[(h.q x hx).1,(h.q x hx).2];rfl),Zw,Zw]
end
def KX{l:List Nd}(x:Int)(h:l.Pairwise λa b=>a.id<b.id):∃p m q,gZ (p_ x) (pB x) l p m q:=
 Fm _ h (λa b r q=>by simp only[p_,Zy]at *;omega) (λa b r q=>by simp only[p_,pB,Zy]at *;omega) (λa q=>by simp only[p_,pB,Zy,decide_eq_false_iff_not]at *;omega)
def TN{l:List Ed}(x:Int)(h:l.Pairwise λa b=>a.id<b.id):∃p m q,gZ (xj x) (wk x) l p m q:=
 Fm _ h (λa b r q=>by simp only[xj,Zy]at *;omega) (λa b r q=>by simp only[xj,wk,Zy]at *;omega) (λa q=>by simp only[xj,wk,Zy,decide_eq_false_iff_not]at *;omega)
def Y3{l:List ByteArray}(x:ByteArray)(h:l.Pairwise λa b=>nC a b=true):∃p m q,gZ (KS x) (yu x) l p m q:=
 Fm _ h (λa b r q=>qq r q) (λa b r q=>by have:=(iC _ _).1 q;subst this;exact r) (λa q=>by
  cases e:yu x a with
  |false=>rfl
  |true=>have:=(iC _ _).1 e;subst this;unfold KS at q;rw[kc]at q;cases q)
def rQ :∀{l:List ByteArray},dS l=true->l.Pairwise λa b=>nC a b=true
 | [],_=>List.Pairwise.nil
 | [x],_=>List.pairwise_singleton _ _
 |
  x::y::l,h=>by
  have h':(nC x y && dS (y::l))=true:=h;rw[Zh]at h';have ih:=rQ h'.2;refine List.pairwise_cons.2 ⟨λz hz=>?_,ih⟩;rcases Yw.1 hz with rfl|hz
  .exact h'.1
  .exact qq h'.1 ((List.pairwise_cons.1 ih).1 z hz)
def HS{g:Gr}{i:Nat}{a c:Ed}(ha:g.cj[i]?=some a)(hc:g.cj[i+1]?=some c)(h:lV g (i+1)=0):a.id<c.id:=by
 unfold lV at h;rw[hc]at h;dsimp only at h;split at h
 .cases h
 .rename_i q;refine Int.lt_of_not_ge λk=>q ⟨by omega,a,ha,k⟩
def FB{g:Gr}(h:yt g=0):∀(i j:Nat)(a b:Ed),g.cj[i]?=some a->g.cj[j]?=some b->i<j->a.id<b.id:=by
 have hz:∀j,j<g.cj.length->lV g j=0:=λj hj=>ki (lV g) g.cj.length 0 h j (by omega) (by omega)
 intro i j a b ha hb pZ;obtain⟨k,rfl⟩:∃k,j=i+1+k:=⟨j-(i+1),by omega⟩;clear pZ
 induction k generalizing b with
 |zero=>exact HS ha hb (hz _ (Za.1 hb).1)
 |succ k ih=>
  have hl:i+1+k+1<g.cj.length:=by have:=(Za.1 hb).1;omega
  have hc:g.cj[i+1+k]?=some g.cj[i+1+k]:=Zb (by omega);have h1:=ih _ hc;have h2:=HS hc hb (hz _ hl);omega
structure GV (g:Gr):Prop where
 nl:g.nodes.length<=2000
 el:g.cj.length<=4000
 sn:g.nodes.Pairwise λa b=>a.id<b.id
 se:g.cj.Pairwise λa b=>a.id<b.id
 np:∀n∈g.nodes,gk n.labels n.props=0
 ep:∀e∈g.cj,gk [] e.props=0
def gd{l:List ByteArray}{p:List fZ}(h:gk l p=0):l.length<=8/\p.length<=16/\l.Pairwise (λa b=>nC a b=true):=by
 unfold gk at h;split at h
 .cases h
 .rename_i h1;split at h
  .cases h
  .split at h
   .cases h
   .rename_i h3;have h4:(dS l && dS (iq p))=true:=by
     cases q:(dS l && dS (iq p))with
     |true=>rfl
     |false=>exact absurd q h3
    rw[Zh]at h4;exact⟨by omega,by omega,rQ h4.1⟩
def HT{g:Gr}(h:dQ g=0):GV g:=by
 unfold dQ at h;split at h
 .cases h
 .rename_i h1;split at h
  .cases h
  .split at h
   .rename_i h2 h3;have hn:=xg h3;have he:=FB h;have zn:∀j,j<g.nodes.length->mT g j=0:=λj hj=>ki (mT g) g.nodes.length 0 h3 j (by omega) (by omega)
    have ze:∀j,j<g.cj.length->lV g j=0:=λj hj=>ki (lV g) g.cj.length 0 h j (by omega) (by omega)
    refine⟨by omega,by omega,?_,?_,?_,?_⟩
    .rw[List.pairwise_iff_getElem];intro i j hi hj pZ;exact hn i j _ _ (Zb hi) (Zb hj) pZ
    .rw[List.pairwise_iff_getElem];intro i j hi hj pZ;exact he i j _ _ (Zb hi) (Zb hj) pZ
    .intro n hn;obtain⟨i,hi,rfl⟩:=List.mem_iff_getElem.1 hn;have:=zn i hi;unfold mT at this;rw[Zb hi]at this;dsimp only at this;split at this
     .cases this
     .split at this
      .cases this
      .exact this
    .intro n hn;obtain⟨i,hi,rfl⟩:=List.mem_iff_getElem.1 hn;have:=ze i hi;unfold lV at this;rw[Zb hi]at this;dsimp only at this;split at this
     .cases this
     .split at this
      .cases this
      .split at this
       .cases this
       .split at this
        .cases this
        .exact this
   .rename_i h2 h3;exact absurd h h3
def W7(l:List Nd)(x:Int):=l.filter (p_ x)
def W8(l:List Nd)(x:Int):=l.filter λn=> !p_ x n && !pB x n
def loE(l:List Ed)(x:Int):=l.filter (xj x)
def hiE(l:List Ed)(x:Int):=l.filter λn=> !xj x n && !wk x n
def loT(l:List ByteArray)(x:ByteArray):=l.filter (KS x)
def hiT(l:List ByteArray)(x:ByteArray):=l.filter λn=> !KS x n && !yu x n
def HU(g:Gr)(c:Ch)(n:Nd):Gr × Int:=
 if c.k=2 then(if g.cj.any (mv c.a)then fq else{g with nodes:=W7 g.nodes c.a++W8 g.nodes c.a},if g.cj.any (mv c.a)then 12 else 0)
 else if c.k=3 then(if n.labels.any (yu c.name)then fq else if 8<=n.labels.length then fq else qG g (W7 g.nodes c.a) (W8 g.nodes c.a) {n with labels:=loT n.labels c.name++[c.name]++hiT n.labels c.name},
  if n.labels.any (yu c.name)then 7 else if 8<=n.labels.length then 20 else 0)
 else if c.k=4 then(if n.labels.any (yu c.name)then qG g (W7 g.nodes c.a) (W8 g.nodes c.a) {n with labels:=loT n.labels c.name++hiT n.labels c.name}else fq,if n.labels.any (yu c.name)then 0 else 23)
 else(if(g_ n.props c.name c.v).length<=16 then qG g (W7 g.nodes c.a) (W8 g.nodes c.a) {n with props:=g_ n.props c.name c.v}else fq,if(g_ n.props c.name c.v).length<=16 then 0 else 20)
def HV(g:Gr)(c:Ch)(m:Ed):Gr × Int:=
 if c.k=7 then({g with cj:=loE g.cj c.a++hiE g.cj c.a},0)
 else(if(g_ m.props c.name c.v).length<=16 then qH g (loE g.cj c.a) (hiE g.cj c.a) {m with props:=g_ m.props c.name c.v}else fq,if(g_ m.props c.name c.v).length<=16 then 0 else 20)
def iN(g:Gr)(c:Ch):Gr × Int:=
 if¬dx c=0 then(fq,dx c)
 else if c.k=1 then(match cM g.nodes c.a with
  |some _=>(fq,7)
  |none=>if 2000<=g.nodes.length then(fq,20)else(qG g (W7 g.nodes c.a) (W8 g.nodes c.a) ⟨c.a,[],[]⟩,0))
 else if c.k=6 then(match iE g.cj c.a with
  |some _=>(fq,7)
  |
   none=>if((cM g.nodes c.b).isSome && (cM g.nodes c.c).isSome)=false then(fq,10)
   else if 4000<=g.cj.length then(fq,20)else(qH g (loE g.cj c.a) (hiE g.cj c.a) ⟨c.a,c.b,c.c,c.name,[]⟩,0))
 else if c.k=7\/c.k=8 then(match iE g.cj c.a with
  |none=>(fq,11)
  |some m=>HV g c m)
 else(match cM g.nodes c.a with
  |none=>(fq,10)
  |some n=>HU g c n)
def oB{c:Ch}(h:dx c=0):1<=c.a/\c.a<=1000000:=by
 unfold dx at h;split at h
 .cases h
 .rename_i q;have:J3 c.a=true:=by
   cases e:J3 c.a with
   |true=>rfl
   |false=>exact absurd (Or.inr (Or.inl e)) q
  unfold J3 at this;rw[Zh,Zy,Zy]at this;exact this
def nM{c:Ch}(h:dx c=0):1<=c.k/\c.k<=8:=by
 unfold dx at h;split at h
 .cases h
 .rename_i q;have:cI c.k=true:=by
   cases e:cI c.k with
   |true=>rfl
   |false=>exact absurd (Or.inl e) q
  unfold cI at this;rw[Zh,Zy,Zy]at this;exact this
def ji{α:Type}{l:List α}{x:α}(h:l.head?=some x)(h1:l.length<=1):l=[x]:=by
 cases l with
 |nil=>cases h
 |cons y l=>
  cases l with
  |nil=>cases h;rfl
  |cons z l=>simp at h1
def iH{α:Type}{l:List α}(h:l.head?=none):l=[]:=by
 cases l with
 |nil=>rfl
 |cons y l=>cases h
def yx{l:List Nd}{x:Int}{n:Nd}(h:cM l x=some n):n∈l/\n.id=x:=by
 unfold cM at h;exact⟨List.mem_of_find?_eq_some h,by have:=List.find?_some h;simpa using this⟩
def DX{l:List Ed}{x:Int}{n:Ed}(h:iE l x=some n):n∈l/\n.id=x:=by
 unfold iE at h;exact⟨List.mem_of_find?_eq_some h,by have:=List.find?_some h;simpa using this⟩
def Y4(N D:Nat)(b:Bool)(g:Gr)(c:Ch)(n:Nd)(h:Hp)(hg:GV g)(he:dx c=0)(hd:gS c.v<=D)(hv:jK c.v)(h1:¬c.k=1)(h6:¬c.k=6)(h7:¬c.k=7)(h8:¬c.k=8)(hn:cM g.nodes c.a=some n):
 ch cx (N+3*D+9) b 148 [.ag (cl g),.ag (cB c),.ag (dh n)] h=some (.tp [.ag (cl (HU g c n).1),.sc (.int .i64 (HU g c n).2)],h):=by
 have cZ:=oB he;have hk:=nM he;have hm:=yx hn;have hp:=gd (hg.np n hm.1);obtain⟨p,m,q,hs⟩:=KX c.a hg.sn;obtain⟨lp,lm,lq,hl⟩:=Y3 c.name hp.2.2;rw[dO hs]at hn;have Hq:=ji hn hs.one;subst Hq;have H:OnN g c n p q lp lm lq:=⟨by have:=hg.nl;omega,hs,hm.2,hl,by omega,by omega,by omega⟩;have e1:=j4 hs;have e2:=iM hs;have e3:=j4 hl;have e4:=iM hl;have e5:=hl.any;unfold HU W7 W8 loT hiT;rw[e1,e2,e3,e4,e5];by_cases k2:c.k=2
 .rw[cq k2];exact Y0 N D b g c n p q lp lm lq h H k2 _ (λb h=>by
   rw[show N+3*D+8=N+3*D+5+3 by omega];exact TM _ b g c.a h (by have:=hg.el;omega))
 .rw[cm k2];by_cases k3:c.k=3
  .rw[cq k3,YW N D b g c n p q lp lm lq h H k3];cases lm<;>rfl
  .rw[cm k3];by_cases k4:c.k=4
   .rw[cq k4,YX N D b g c n p q lp lm lq h H k4];cases lm<;>rfl
   .rw[cm k4];exact YZ N D b g c n p q lp lm lq h H (by omega) hd hv
def Y5(N D:Nat)(b:Bool)(g:Gr)(c:Ch)(n:Ed)(h:Hp)(hg:GV g)(he:dx c=0)(hd:gS c.v<=D)(hv:jK c.v)(hk:c.k=7\/c.k=8)(hn:iE g.cj c.a=some n):
 ch cx (N+3*D+9) b 147 [.ag (cl g),.ag (cB c),.ag (dP n)] h=some (.tp [.ag (cl (HV g c n).1),.sc (.int .i64 (HV g c n).2)],h):=by
 have cZ:=oB he;have hm:=DX hn;have hp:=gd (hg.ep n hm.1);obtain⟨p,m,q,hs⟩:=TN c.a hg.se;rw[dV hs]at hn;have Hq:=ji hn hs.one;subst Hq;have H:OnE g c n p q:=⟨by have:=hg.el;omega,hs,hm.2,by omega,by omega⟩;have e1:=j4 hs;have e2:=iM hs;unfold HV loE hiE;rw[e1,e2];rcases hk with k|k
 .rw[cq k];exact TF N D b g c n p q h H k
 .rw[cm (by omega)];exact TE N D b g c n p q h H k hd hv
def TP(N D:Nat)(b:Bool)(g:Gr)(c:Ch)(h:Hp)(hg:GV g)(hd:gS c.v<=D)(hv:jK c.v):
 ch cx (N+3*D+10) b 91 [.ag (cl g),.ag (cB c)] h=some (.tp [.ag (cl (iN g c).1),.sc (.int .i64 (iN g c).2)],h):=by
 unfold iN;by_cases he:dx c=0
 .rw[cm (by simp[he])];have cZ:=oB he;obtain⟨pn,mn,qn,hs⟩:=KX c.a hg.sn;obtain⟨pe,me,qe,wo⟩:=TN c.a hg.se;have H:MT D g c pn mn qn pe me qe:=⟨by have:=hg.nl;omega,by have:=hg.el;omega,hs,wo,by omega,hd,hv⟩;have e1:W7 g.nodes c.a=pn:=j4 hs;have e2:W8 g.nodes c.a=qn:=iM hs;have e3:loE g.cj c.a=pe:=j4 wo;have e4:hiE g.cj c.a=qe:=iM wo;by_cases k1:c.k=1
  .rw[cq k1,e1,e2];cases hn:cM g.nodes c.a with
   |some n=>
    rw[dO hs]at hn;exact HJ N D b g c pn mn qn pe me qe h H he k1 n (ji hn hs.one) _ rfl
   |
    none=>
    rw[dO hs]at hn;dsimp only;by_cases hl:2000<=g.nodes.length
    .rw[cq hl];exact HK N D b g c pn mn qn pe me qe h H he k1 (iH hn) hl
    .rw[cm hl];exact HL N D b g c pn mn qn pe me qe h H he k1 (iH hn) (by omega)
  .rw[cm k1];by_cases k6:c.k=6
   .rw[cq k6,e3,e4];cases hn:iE g.cj c.a with
    |some n=>
     rw[dV wo]at hn;exact HO N D b g c pn mn qn pe me qe h H he k6 n (ji hn wo.one)
    |
     none=>
     rw[dV wo]at hn;dsimp only;by_cases hb:((cM g.nodes c.b).isSome && (cM g.nodes c.c).isSome)=false
     .rw[cq hb];exact HP N D b g c pn mn qn pe me qe h H he k6 (iH hn) hb
     .rw[cm hb];have GB:((cM g.nodes c.b).isSome && (cM g.nodes c.c).isSome)=true:=by cases q:((cM g.nodes c.b).isSome && (cM g.nodes c.c).isSome)with|true=>rfl|false=>exact absurd q hb
      by_cases hl:4000<=g.cj.length
      .rw[cq hl];exact HQ N D b g c pn mn qn pe me qe h H he k6 (iH hn) GB hl
      .rw[cm hl];exact HR N D b g c pn mn qn pe me qe h H he k6 (iH hn) GB (by omega)
   .rw[cm k6];by_cases k78:c.k=7\/c.k=8
    .rw[cq k78];cases hn:iE g.cj c.a with
     |
      none=>
      rw[dV wo]at hn;rcases k78 with k|k
      .exact De N D b g c pn mn qn pe me qe h H he k (iH hn)
      .exact Dg N D b g c pn mn qn pe me qe h H he k (iH hn)
     |some n=>
      have Fx:=λb h=>Y5 N D b g c n h hg he hd hv k78 hn
      rw[dV wo]at hn;rcases k78 with k|k
      .exact Df N D b g c pn mn qn pe me qe h H he k n (ji hn wo.one) _ _ Fx
      .exact Dh N D b g c pn mn qn pe me qe h H he k n (ji hn wo.one) _ _ Fx
    .rw[cm k78];have k7:¬c.k=7:=λe=>k78 (Or.inl e)
     have k8:¬c.k=8:=λe=>k78 (Or.inr e)
     cases hn:cM g.nodes c.a with
     |
      none=>
      rw[dO hs]at hn;exact HM N D b g c pn mn qn pe me qe h H he k1 k6 k7 k8 (iH hn)
     |some n=>
      have Fx:=λb h=>Y4 N D b g c n h hg he hd hv k1 k6 k7 k8 hn
      rw[dO hs]at hn;exact HN N D b g c pn mn qn pe me qe h H he k1 k6 k7 k8 n (ji hn hs.one) _ _ Fx
 .rw[cq he];exact Fv N D b g c h hd hv he
def vq(x:Int):Int:=if x=0 then 0 else if x=2 then 2 else 1
def Y6(n:Nat)(b:Bool)(x:Int)(h:Hp):ch cx (n+1) b 450 [x] h=some (.sc (.int .i64 (vq x)),h):=by
 refine eR f450 [.tmp 2] rfl rfl ?_ b h;by_cases h0:x=0
 .simp[f450,vq,h0]
 .by_cases h2:x=2
  .simp[f450,vq,h2]
  .simp[f450,vq,h0,h2]
def HW(x y:Int):Int:=if vq y<vq x then vq y else vq x
def Y7(n:Nat)(b:Bool)(x y:Int)(h:Hp):ch cx (n+2) b 374 [x,y] h=some (.sc (.int .i64 (HW x y)),h):=by
 refine eR f374 [.tmp 4] rfl rfl ?_ b h;have aa:=Y6 n;unfold HW;by_cases hc:vq y<vq x
 .simp[f374,aa,hc]
 .simp[f374,aa,hc]
mutual
def nU :V->V->Int
 |
  .mk k n d s z l,w=>
  if k=0\/w.k=0\/jo (.mk k n d s z l)=false\/jo w=false then 1
  else if jR (.mk k n d s z l)=true/\jR w=true then tv (decide (ve (lI (.mk k n d s z l)) (lJ (.mk k n d s z l)) (lI w) (lJ w)=0))
  else if¬k=w.k then 0
  else if k=4 then tv (fm s w.s)
  else if¬k=8/\¬k=7 then tv (decide (n=w.n))
  else if¬l.length=w.l.length then 0 else xY l w.l 2
def xY :List V->List V->Int->Int
 | [],_,a=>a
 |
  x::xs,m,a=>match m with
  | []=>a
  |y::ys=>xY xs ys (HW a (nU x y))
end
def EC(N:Nat)(v w:V):Prop:=∀b h,ch cx N b 266 [.ag (enc v),.ag (enc w)] h=some (.sc (.int .i64 (nU v w)),h)
def yy(l m:List V)(a:Int)(i:Nat):Int:=xY (l.drop i) (m.drop i) a
def xt(l m:List V)(a:Int)(i:Nat)(h:l.length<=i):yy l m a i=a:=by
 unfold yy;rw[Zt h,xY]
def uK{l m:List V}{i:Nat}{x y:V}(a:Int)(h:l[i]?=some x)(h':m[i]?=some y):yy l m a i=yy l m (HW a (nU x y)) (i+1):=by
 obtain⟨k,e⟩:=Za.1 h;obtain⟨k',e'⟩:=Za.1 h';unfold yy;rw[Zm k,e,Zm k',e',xY]
def FC(v:V):dk (.ag (enc v))=true:=by
 cases v;rw[enc];unfold po;rename_i z l;cases (z && (ef l).isEmpty)<;>rfl
def Y8(v w:V):[AV.ag (enc v),.ag (enc w)].all dk=true:=by
 rw[Zn,Zn,FC,FC];rfl
structure EqB (M:Nat)(k n d:Int)(s:ByteArray)(L:AV)(p:Bool)(N1 D1:Int)(B1:Bool):Prop where
 v:∀b h,ch cx M b 167 [.ag [k,n,d,s,L]] h=some ((p:AV),h)
 n:∀b h,ch cx M b 172 [.ag [k,n,d,s,L]] h=some (.tp [kI N1 D1,B1],h)
def KY(M:Nat)(k n d k' n' d':Int)(s s':ByteArray)(L L':AV)(p q:Bool)(N1 D1 N2 D2:Int)(B1 B2:Bool)(hL:eu L=true)(eW:eu L'=true)(H:EqB M k n d s L p N1 D1 B1)(H':EqB M k' n' d' s' L' q N2 D2 B2)(c:Int)(hc:∀b h,ch cx M b 173 [kI N1 D1,kI N2 D2] h=some ((c:AV),h))(hy:∀x b h,ch cx M b 168 [.sc (.bool x)] h=some (.sc (.int .i64 (tv x)),h))(hn:(k=0\/k'=0\/p=false\/q=false)\/(B1=true/\B2=true)\/¬k=k'\/k=4\/(¬k=8/\¬k=7))(b:Bool)(h:Hp):
 ch cx (M+1) b 266 [.ag [k,n,d,s,L],.ag [k',n',d',s',L']] h=some (.sc (.int .i64 (
  if k=0\/k'=0\/p=false\/q=false then 1
  else if B1=true/\B2=true then tv (decide (c=0))
  else if¬k=k' then 0
  else if k=4 then tv (fm s s')
  else tv (decide (n=n')))),h):=by
 refine eR f266 [.tmp 4] (by rw[Zn,Zn,iL,iL];simp[hL,eW]) rfl ?_ b h;have aa:=H.v;have af:=H.n;have ah:=H'.v;have ai:=H'.n;unfold kI at af ai hc;clear H H';by_cases k0:k=0
 .simp[f266,k0]
 .by_cases J6:k'=0
  .simp[f266,k0,J6]
  .cases p
   .simp[f266,k0,J6,aa]
   .cases q
    .simp[f266,k0,J6,aa,ah]
    .have hn':(B1=true/\B2=true)\/¬k=k'\/k=4\/(¬k=8/\¬k=7):=by
      rcases hn with(e|e|e|e)|e
      .exact absurd e k0
      .exact absurd e J6
      .cases e
      .cases e
      .exact e
     clear hn;by_cases hB:B1=true/\B2=true
     .obtain⟨rfl,rfl⟩:=hB;simp[f266,k0,J6,aa,af,ah,ai,hc,hy]
     .have tM:¬k=k'\/k=4\/(¬k=8/\¬k=7):=by
       rcases hn' with e|e
       .exact absurd e hB
       .exact e
      cases B1<;>cases B2
      case true.true=>exact absurd ⟨rfl,rfl⟩ hB
      all_goals
       by_cases hk:k=k'
       .subst hk;by_cases h4:k=4
        .subst h4;simp[f266,aa,af,ah,ai,hy]
        .have h8:¬k=8/\¬k=7:=by
          rcases tM with e|e|e
          .exact absurd rfl e
          .exact absurd e h4
          .exact e
         simp[f266,k0,aa,af,ah,ai,hy,h4,h8.1,h8.2]
       .simp[f266,k0,J6,aa,af,ah,ai,hk]
def KZ(M:Nat)(k n d n' d':Int)(s s':ByteArray)(z z':Bool)(l m:List V)(N1 D1 N2 D2:Int)(H:EqB M k n d s (eG z l) true N1 D1 false)(H':EqB M k n' d' s' (eG z' m) true N2 D2 false)(ha:∀x y b h,ch cx M b 374 [.sc (.int .i64 x),.sc (.int .i64 y)] h=some (.sc (.int .i64 (HW x y)),h))(ho:∀x∈l,∀y∈m,EC M x y)(hk:k=8\/k=7)(hl:l.length<=1000000000000000)(b:Bool)(h:Hp):
 ch cx (M+1) b 266 [.ag [k,n,d,s,eG z l],.ag [k,n',d',s',eG z' m]] h=some (.sc (.int .i64 (
  if¬l.length=m.length then 0 else xY l m 2)),h):=by
 have c1:eu (eG z l)=true:=by unfold eG po;cases z && (ef l).isEmpty<;>rfl
 have c2:eu (eG z' m)=true:=by unfold eG po;cases z' && (ef m).isEmpty<;>rfl
 refine eR f266 [.tmp 4] (by rw[Zn,Zn,iL,iL];simp[c1,c2]) rfl ?_ b h;have aa:=H.v;have af:=H.n;have ah:=H'.v;have ai:=H'.n;unfold kI at af ai;clear H H' c1 c2;have hL:=jN z l;have eW:=jN z' m;generalize eG z l=L at hL aa af;generalize eG z' m=L' at eW ah ai;have hq:=dI l;have hg:=gh l;have mR:=dI m;have x6:=gh m;generalize ef l=cg at hq hg hL;generalize ef m=rows' at mR x6 eW;by_cases cf:l.length=m.length
 .rw[cm (by simp[cf])];have p8:((l.length:Int)=(m.length:Int)):=by omega
  by_cases h0:l.length=0
  .have lQ:m.length=0:=by omega
   have e0:xY l m 2=2:=by
    have:=Zl h0;subst this;rw[xY]
   have hr:cg=[]:=Zl (by omega);have cz:rows'=[]:=Zl (by omega);subst hr cz;rw[e0];rcases hL with hL|⟨hL,hz⟩<;>rcases eW with eW|⟨eW,JZ⟩<;>subst hL<;>subst eW<;>rcases hk with rfl|rfl
   all_goals
    simp[f266,aa,af,ah,ai];refine pQ
     (λi st dn=>st.length=104/\gt st 2= .pt 0 0/\gt st 10=(0:Int)/\gt st 9=(2:Int)/\∃k n d s L0,dn[0]?=some (.row [.sc (.int .i64 k),.sc (.int .i64 n),.sc (.int .i64 d),.sc (.string s),L0])/\(L0= .ls 5 [] z\/L0= .sc (.slice none 0 0)))
     (λo st _=>o= .exit 0/\st.length=104/\gt st 9=(2:Int)) 0 (by simp) (by first|exact⟨rfl,rfl,rfl,rfl,_,_,_,_,_,rfl,Or.inl rfl⟩|exact⟨rfl,rfl,rfl,rfl,_,_,_,_,_,rfl,Or.inr rfl⟩) ?_ ?_
    .rintro i fr h da ⟨cf,g2,g10,g9,k,n,d,s,L0,s0,hL0|hL0⟩<;>subst hL0<;>simp[cf,g2,g10,g9,s0]
    .rintro o fr h hn ⟨rfl,cf,g9⟩;simp[cf,g9]
  .rcases hL with hL|⟨hL,hz⟩
   .rcases eW with eW|⟨eW,JZ⟩
    .subst hL eW;have tN:=cf;rcases hk with rfl|rfl
     .simp[f266,aa,af,ah,ai,hq,mR,cf];refine pQ
       (λi st dn=>i<=m.length/\st.length=104/\gt st 2= .pt 0 0/\gt st 3= .pt 1 0/\gt st 10=i/\dn[0]?=some (.row [(8:Int),.sc (.int .i64 n),.sc (.int .i64 d),.sc (.string s),.ls 5 cg z])/\dn[1]?=some (.row [(8:Int),n',d',s',.ls 5 rows' z'])/\∃a,gt st 9= .sc (.int .i64 a)/\xY l m 2=yy l m a i)
       (λo st _=>o= .exit 0/\st.length=104/\gt st 9= .sc (.int .i64 (xY l m 2))) m.length (by simp;omega) (by simp[yy]) ?_ ?_
      .rintro i fr h da ⟨jw,cf,g2,g3,g10,s0,s1,a,g9,j9⟩;have hf:cS .i64 ((i:Int)+1)=((i+1:Nat):Int):=cu (by omega) (by omega);by_cases hi:i<m.length
       .obtain⟨x,hx⟩:∃c,l[i]?=some c:=⟨_,Zb (by omega)⟩;obtain⟨y,hy⟩:=eA hi;have hr:cg[i]?=some (enc x):=by rw[hg,hx];rfl
        have vY:rows'[i]?=some (enc y):=by rw[x6,hy];rfl
        have cz:=gA hr
        have nG:=gA vY
        have cJ:=ho x (Zi hx) y (Zi hy);unfold EC at cJ;rw[uK a hx hy]at j9;generalize nU x y=c at cJ j9;generalize xY l m 2=T at j9;simp[cf,g2,g3,g10,g9,s0,s1,hi,tN,hq,mR,cz,nG,cJ,ha,hf];exact⟨by omega,j9⟩
       .have hz:=xt l m a i (by omega);rw[hz]at j9;simp[cf,g2,g10,g9,s0,hi,tN,hq,j9]
      .rintro o fr h hn ⟨rfl,cf,g9⟩;simp[cf,g9]
     .simp[f266,aa,af,ah,ai,hq,mR,cf];refine pQ
       (λi st dn=>i<=m.length/\st.length=104/\gt st 2= .pt 0 0/\gt st 3= .pt 1 0/\gt st 10=i/\dn[0]?=some (.row [(7:Int),.sc (.int .i64 n),.sc (.int .i64 d),.sc (.string s),.ls 5 cg z])/\dn[1]?=some (.row [(7:Int),n',d',s',.ls 5 rows' z'])/\∃a,gt st 9= .sc (.int .i64 a)/\xY l m 2=yy l m a i)
       (λo st _=>o= .exit 0/\st.length=104/\gt st 9= .sc (.int .i64 (xY l m 2))) m.length (by simp;omega) (by simp[yy]) ?_ ?_
      .rintro i fr h da ⟨jw,cf,g2,g3,g10,s0,s1,a,g9,j9⟩;have hf:cS .i64 ((i:Int)+1)=((i+1:Nat):Int):=cu (by omega) (by omega);by_cases hi:i<m.length
       .obtain⟨x,hx⟩:∃c,l[i]?=some c:=⟨_,Zb (by omega)⟩;obtain⟨y,hy⟩:=eA hi;have hr:cg[i]?=some (enc x):=by rw[hg,hx];rfl
        have vY:rows'[i]?=some (enc y):=by rw[x6,hy];rfl
        have cz:=gA hr
        have nG:=gA vY
        have cJ:=ho x (Zi hx) y (Zi hy);unfold EC at cJ;rw[uK a hx hy]at j9;generalize nU x y=c at cJ j9;generalize xY l m 2=T at j9;simp[cf,g2,g3,g10,g9,s0,s1,hi,tN,hq,mR,cz,nG,cJ,ha,hf];exact⟨by omega,j9⟩
       .have hz:=xt l m a i (by omega);rw[hz]at j9;simp[cf,g2,g10,g9,s0,hi,tN,hq,j9]
      .rintro o fr h hn ⟨rfl,cf,g9⟩;simp[cf,g9]
    .omega
   .omega
 .rw[cq cf];have p8:¬((l.length:Int)=(m.length:Int)):=by omega
  rcases hL with hL|⟨hL,hz⟩
  .rcases eW with eW|⟨eW,JZ⟩
   .subst hL eW;rcases hk with rfl|rfl<;>simp[f266,aa,af,ah,ai,hq,mR,p8]
   .subst hL eW;have eF:¬l=[]:=λe=>cf (by rw[e,JZ];rfl)
    rcases hk with rfl|rfl<;>simp[f266,aa,af,ah,ai,hq,eF]
  .rcases eW with eW|⟨eW,JZ⟩
   .subst hL eW;have eF:¬0=(m.length:Int):=λe=>cf (by omega)
    rcases hk with rfl|rfl<;>simp[f266,aa,af,ah,ai,mR,eF]
   .exact absurd (by omega) cf
end
end Go.Proofs.YtmfohnojaginjaaGreatDoor
