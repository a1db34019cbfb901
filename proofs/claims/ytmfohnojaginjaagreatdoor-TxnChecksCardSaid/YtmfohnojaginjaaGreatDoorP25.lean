/- Part of the proof. -/
import Derived.Test.YtmfohnojaginjaaGreatDoorP24
set_option linter.all false
set_option maxHeartbeats 32000000
set_option maxRecDepth 100000
namespace Go.Proofs.YtmfohnojaginjaaGreatDoor
open Go Go.Ae Go.Proofs.Tryz
section
attribute [local simp] eD
def IG{sz:Nat}{pre post:List LA}{r vs:LA}{o:Nat}(hr:∀y∈pre,y.length=sz)(vp:r.length=sz)(ho:o+vs.length<=sz):cn (pre++[r]++post).flatten (pre.length*sz+o) vs=(pre++[cn r o vs]++post).flatten:=by
 have hA:pre.flatten.length=pre.length*sz:=cQ pre hr;have e:(pre++[r]++post).flatten=pre.flatten++r++post.flatten:=by simp
 rw[e];unfold cn;have e1:(pre.flatten++r++post.flatten).take (pre.length*sz+o)=pre.flatten++r.take o:=by
  rw[Zp,<-hA,List.take_length_add_append,List.take_append_of_le_length (by omega)]
 have e2:(pre.flatten++r++post.flatten).drop (pre.length*sz+o+vs.length)=r.drop (o+vs.length)++post.flatten:=by
  rw[Zp,<-hA,Nat.add_assoc,List.drop_length_add_append,List.drop_append_of_le_length (by omega)]
 rw[e1,e2];simp
def wu{sz:Nat}{pre post:List LA}{r:LA}{o m:Nat}(hr:∀y∈pre,y.length=sz)(vp:r.length=sz)(ho:o+m<=sz):((pre++[r]++post).flatten.drop (pre.length*sz+o)).take m=(r.drop o).take m:=by
 have hA:pre.flatten.length=pre.length*sz:=cQ pre hr;have e:(pre++[r]++post).flatten=pre.flatten++(r++post.flatten):=by simp
 rw[e,<-hA,List.drop_length_add_append,List.drop_append_of_le_length (by omega),List.take_append_of_le_length (by simp;omega)]
def FM(c:fZ):LA:=[.sc (.string c.key),.sc (.int .i64 c.v.k),.sc (.int .i64 c.v.n),.sc (.int .i64 c.v.d),.sc (.string c.v.s),M4 c.v.isNil]
def UK(c:fZ):fZ:=⟨c.key,ai6 c.v⟩
def xB(l:List fZ):(∀r∈l.map FM,r.length=6)/\(l.map FM).flatten.all eu=true:=by
 refine⟨λr hr=>by obtain⟨c,_,rfl⟩:=Yk.1 hr;rfl,kW λr hr=>?_⟩;obtain⟨c,_,rfl⟩:=Yk.1 hr;unfold FM M4;cases c.v.isNil<;>rfl
def adz(l:List fZ):(l.map FM).map Z4=d_ (l.map UK):=by
 unfold d_;rw[List.map_map,List.map_map];refine List.map_congr_left λc _=>?_
 show Z4 (FM c)=fK (UK c);rw[uD];unfold FM Z4 M4;cases c.v.isNil<;>rfl
structure CpP (h:Hp)(l:List fZ)(x:AV)(h':Hp):Prop where
 y:∀(h2:Hp),(∀(i:Nat)(b:eK),h.length<=i->h'[i]?=some b->h2[i]?=some b)->∃y,(∀m,Ae.cD h2 (m+1) x=some y)/\BA 6 Z4 y= .ls 6 (d_ (l.map UK)) false
 f:∀(i:Nat)(b:eK),h[i]?=some b->h'[i]?=some b
 np:∀v:Value,x≠ .pn v
 c:cls x=some [x]
def UL{l:List fZ}{i:Nat}{m:fZ}(h:l[i]?=some m):(d_ l).drop i=[fK m]++(d_ l).drop (i+1):=by
 have:(d_ l)[i]?=some (fK m):=by rw[lT,h];rfl
 obtain⟨k,e⟩:=Za.1 this;rw[Zm k,e];rfl
def FN(n:Nat)(b:Bool)(l:List fZ)(z:Bool)(h:Hp)(hl:l.length<=10^6)(hp:∀c∈l,c.v.l=[]):
 ∃x h',ch cx (n+3) b 349 [.ls 6 (d_ l) z] h=some (x,h')/\CpP h l x h':=by
 rw[WX (n:=n+2) f349 [.tmp 2]];have aa:=λbb hh=>BP (n+1) bb (d_ l) z hh (by rw[cP];exact hl) (gQ _).1
 cases l with
 |
  nil=>
  have Z5:∀bb hh,ch cx (n+2) bb 135 [.ls 6 (d_ []) z] hh=some (.ls 6 [] true,hh):=λbb hh=>aa bb hh
  have e0:d_ []=[]:=rfl;rw[e0]at Z5;rw[e0];simp[f349,Z5];refine ej (C:=cx) (G:=λr=>∃x h',dL _ (eX _ _ (du _ r) _)=some (x,h')/\CpP _ _ x h')
   (λi s=>s.1.length=24/\gt s.1 3= .ls 6 [] true/\gt s.1 8=(0:Int)/\gt s.1 9=(0:Int)/\s.2=h)
   (λo s=>o= .exit 0/\s.1.length=24/\gt s.1 3= .ls 6 [] true/\s.2=h) 0 (by simp) ⟨rfl,rfl,rfl,rfl,rfl⟩ ?_ ?_
  .rintro i fr hp da ⟨cf,g3,g8,g9,hh⟩;simp only at cf g3 g8 g9 hh;simp[cf,g3,g8,g9,hh]
  .rintro o fr hp hn ⟨rfl,cf,g3,hh⟩;simp only at cf g3 hh;subst hh;simp[cf,g3];exact gq ⟨λh2 _=>⟨.ls 6 [] true,λm=>by simp[Ae.cD],by simp[BA,d_]⟩,λi b q=>q,by simp,rfl⟩
 |cons c0 l0=>
  generalize hL:c0::l0=L at *;have eF:(d_ L).isEmpty=false:=by rw[<-hL];rfl
  simp only[eF,Ys,if_false]at aa;rw[cP]at aa;have hLn:L.length≠0:=by rw[<-hL];simp
  simp[f349,aa];refine ej (C:=cx) (G:=λr=>∃x h',dL _ (eX _ _ (du _ r) _)=some (x,h')/\CpP _ _ x h')
   (λi s=>i<=L.length/\s.1.length=24/\gt s.1 3= .sl (h.length+1) 6 0 L.length false/\gt s.1 8=L.length/\gt s.1 9=i/\At s.2 (h.length+1) (.row ((L.take i).map FM++(d_ L).drop i).flatten)/\∀(j:Nat)(b:eK),h[j]?=some b->s.2[j]?=some b)
   (λo s=>o= .exit 0/\s.1.length=24/\gt s.1 3= .sl (h.length+1) 6 0 L.length false/\At s.2 (h.length+1) (.row (L.map FM).flatten)/\∀(j:Nat)(b:eK),h[j]?=some b->s.2[j]?=some b) L.length (by simp;omega) ?_ ?_ ?_
  .refine⟨by omega,rfl,rfl,rfl,rfl,?_,λj b hj=>?_⟩
   .show(h++[eK.dead,.row (d_ L).flatten])[h.length+1]?=_;rw[Zf (by omega)];simp
   .show(h++[eK.dead,.row (d_ L).flatten])[j]?=_;rw[Zd (Za.1 hj).1];exact hj
  .rintro i fr lL da ⟨pS,cf,g3,g8,g9,ha,x_⟩;simp only at cf g3 g8 g9 ha x_;by_cases hi:i<L.length
   .obtain⟨c,hx⟩:=eA hi;have dZ:=hp c (Zi hx);rw[UL hx,<-Zp]at ha;have PL:((L.take i).map FM).length=i:=by simp;omega
    have UM:=(xB (L.take i)).1;have aja:((L.take i).map FM++[fK c]++(d_ L).drop (i+1)).flatten.length=L.length*6:=by
     rw[cQ _ (sz:=6) (λy hy=>by
      rw[Zp,Zz,Zz]at hy;rcases hy with hy|hy|hy
      .exact UM y hy
      .rw[List.mem_singleton]at hy;rw[hy];simp
      .exact(gQ L).1 y (List.mem_of_mem_drop hy))]
     congr 1
     simp[cP];omega
    have tq:=IG (sz:=6) (post:=(d_ L).drop (i+1)) (r:=fK c) (vs:=[.sc (.int .i64 c.v.k),.sc (.int .i64 c.v.n),.sc (.int .i64 c.v.d),.sc (.string c.v.s),M4 c.v.isNil]) (o:=1) UM (by simp) (by simp);have wT:=wu (sz:=6) (post:=(d_ L).drop (i+1)) (r:=fK c) (o:=1) (m:=5) UM (by simp) (by omega);rw[PL]at tq wT;have abV:((L.take (i+1)).map FM++(d_ L).drop (i+1))=(L.take i).map FM++[FM c]++(d_ L).drop (i+1):=by
     rw[wB hx];simp
    have hcr:cn (fK c) 1 [c.v.k,c.v.n,c.v.d,c.v.s,M4 c.v.isNil]=FM c:=by
     rw[uD];rfl
    rw[hcr,<-abV]at tq;have hb6:i*6+1+5<=((L.take i).map FM++[fK c]++(d_ L).drop (i+1)).flatten.length:=by rw[aja];omega
    have hc5:((fK c).drop 1).take 5=[.sc (.int .i64 c.v.k),.sc (.int .i64 c.v.n),.sc (.int .i64 c.v.d),.sc (.string c.v.s),eG c.v.isNil []]:=by rw[uD,dZ];rfl
    rw[hc5]at wT;generalize((L.take i).map FM++[fK c]++(d_ L).drop (i+1)).flatten=cs at *;have af:=λb h=>Uv n b c.v.isNil c.v.k c.v.n c.v.d c.v.s h
    have hcs:lL[h.length+1]?=some (.row cs):=ha;have afU:∀y,(lL++y)[h.length+1]?=some (.row cs):=λy=>ha.app y
    have hLc:eu (eG c.v.isNil [])=true:=by cases c.v.isNil<;>rfl
    have hf:=cG (i:=i) (by omega);simp[cf,g3,g8,g9,hi,hcs,wT,hb6,af,afU,hf,tq];refine⟨hi,Zj (Za.1 (afU _)).1,λj b hj=>?_⟩;have jl:=(Za.1 hj).1;rw[Zq (by omega)];exact(show At lL j b from x_ j b hj).app _
   .have k_:i=L.length:=Nat.le_antisymm pS (Ya hi);subst k_;have hz:(d_ L).drop L.length=[]:=Zt (by rw[cP];exact Xc _);rw[hz,Yr,Xx]at ha;simp[cf,g3,g8,g9];exact⟨ha,x_⟩
  .rintro o fr lL hn ⟨rfl,cf,g3,ha,x_⟩;simp only at cf g3 ha x_;simp[cf,g3];refine⟨_,_,⟨rfl,rfl⟩,⟨λh2 hh=>⟨.ls 6 (L.map FM) false,λm=>?_,?_⟩,x_,by simp,rfl⟩⟩
   .have:=uE (h:=h2) (n:=m) (id:=h.length+1) (sz:=6) (cg:=L.map FM) (cs:=(L.map FM).flatten) (by omega) (xB L).1 (xB L).2 (qC (hh _ _ (by omega) ha)) (by
     rw[Xa];rw[cQ _ (xB L).1];exact Xc _) (by rw[cQ _ (xB L).1];exact Xc _)
    rw[Ym]at this;exact this
   .rw[oA,adz]
def PM(n:Nat)(l:List ByteArray)(z:Bool)(h:Hp)(hl:l.length<=10^6):
 ∃x h',(∀b,ch cx (n+1) b 134 [.ls 1 (fj l) z] h=some (x,h'))/\(∀(h2:Hp),(∀(i:Nat)(b:eK),h.length<=i->h'[i]?=some b->h2[i]?=some b)->∃y,(∀m,Ae.cD h2 (m+1) x=some y)/\uF 1 y= .ls 1 (fj l) false)/\(∀(i:Nat)(b:eK),h[i]?=some b->h'[i]?=some b)/\(∀v:Value,x≠ .pn v)/\cls x=some [x]:=by
 have aa:=λbb=>BO n bb (fj l) z h (by rw[di];exact hl) (gm _).1
 cases pg:(fj l).isEmpty with
 |
  true=>
  rw[pg]at aa;have e:fj l=[]:=List.isEmpty_iff.1 pg;exact⟨_,_,aa,λh2 _=>⟨.ls 1 [] true,λm=>by simp[Ae.cD],by simp[uF,e]⟩,λi b q=>q,by simp,rfl⟩
 |
  false=>
  rw[pg]at aa;refine⟨_,_,aa,λh2 hh=>⟨.ls 1 (fj l) false,λm=>?_,by simp[uF]⟩,λi b q=>?_,by simp,rfl⟩
  .have a:(h++[eK.dead,.row (fj l).flatten])[h.length+1]?=some (.row (fj l).flatten):=by rw[Zf (by omega)];simp
   exact uE (h:=h2) (n:=m) (id:=h.length+1) (sz:=1) (cg:=fj l) (cs:=(fj l).flatten) (by omega) (gm l).1 (gm l).2 (qC (hh _ _ (by omega) a)) (by
    rw[Xa];rw[cQ _ (gm l).1];exact Xc _) (by rw[cQ _ (gm l).1];exact Xc _)
  .exact(show At h i b from q).app _
@[simp] def aie(m:Nd):(dh m)[0]?=some (.sc (.int .i64 m.id)):=rfl
@[simp] def ah1(m:Ed):(dP m)[0]?=some (.sc (.int .i64 m.id)):=rfl
@[simp] def ahs(m:Nd)(h:0< (dh m).length):(dh m)[0]'h=m.id:=rfl
@[simp] def ahT(m:Ed)(h:0< (dP m).length):(dP m)[0]'h=m.id:=rfl
@[simp] def ahI(m:Nd):(dh m).take 3=dh m:=rfl
@[simp] def ah9(m:Ed):(dP m).take 5=dP m:=rfl
def z8(o:Option Nd):Nd:=match o with
 |none=>⟨0,[],[]⟩
 |some m=>⟨m.id,m.labels,m.props.map UK⟩
def bytes_beq(s:ByteArray):(s==s)=true:=by
 obtain⟨d⟩:=s;show(d==d)=true;simp
def PN{l:List fZ}(hp:∀c∈l,c.v.l=[]):mf (d_ l) (d_ l)=true:=by
 refine jP λr hr=>?_
 obtain⟨c,hc,rfl⟩:=Yk.1 hr;rw[uD,hp c hc];have e:fH (eG c.v.isNil []) (eG c.v.isNil [])=true:=by cases c.v.isNil<;>rfl
 simp only[gY,fH,Ae.nU,bytes_beq,decide_true,Bool.and_self,e]
def adA(n:Nat)(b:Bool)(g:Gr)(x:Int)(h:Hp)(hl:g.nodes.length<=1000000000000000)(hp:∀m∈g.nodes,m.labels.length<=10^6/\m.props.length<=10^6/\∀c∈m.props,c.v.l=[]):
 ch cx (n+4) b 224 [.ag (cl g),x] h=some (.tp [.ag (dh (z8 (cM g.nodes x))),.sc (.bool (cM g.nodes x).isSome)],h):=by
 refine Pq (f:=224) (n:=n+3) (args:=[.ag (cl g),.sc (.int .i64 x)]) (λi=>i==5) (.tp [.ag (dh (z8 (cM g.nodes x))),.sc (.bool (cM g.nodes x).isSome)]) ⟨f224.ntmps,(f224.body).getD .skip,[.cell 4 3 true,.tmp 5]⟩ (by kernel_rfl) (by kernel_rfl) rfl (by kernel_rfl) (by simp[f224]) rfl ?_ (by decide) b h;have hq:=dC g.nodes;have hg:=iJ g.nodes;generalize hT:AV.tp [.ag (dh (z8 (cM g.nodes x))),.sc (.bool (cM g.nodes x).isSome)]=T;unfold cl dy dz;generalize f_ g.nodes=cg at hq hg;simp[f224,hq];refine lY (C:=cx) (G:=λr=>∃r0 h',dL _ (qM _ _ _ (du _ r) _)=some (r0,h')/\∃r',Ae.cD h' 8 r0=some r'/\nfW r'=T)
  (λi s=>cM g.nodes x=zc g.nodes x i/\s.1.length=29/\gt s.1 1=x/\gt s.1 4= .pt 1 0/\gt s.1 9= .ls 3 cg false/\gt s.1 10=g.nodes.length/\gt s.1 11=i/\At s.2 1 (.row [(0:Int),(),()]))
  (λo s=>s.1.length=29/\gt s.1 4= .pt 1 0/\((o= .exit 0/\cM g.nodes x=none/\At s.2 1 (.row [(0:Int),(),()]))\/
   (o= .ret/\gt s.1 5=true/\∃c L P y1 y2,cM g.nodes x=some c/\At s.2 1 (.row [c.id,L,P])/\Ae.cD s.2 6 L=some y1/\Ae.cD s.2 6 P=some y2/\uF 1 y1= .ls 1 (fj c.labels) false/\BA 6 Z4 y2= .ls 6 (d_ (c.props.map UK)) false))) g.nodes.length (by simp;omega) ⟨rfl,rfl,rfl,rfl,rfl,rfl,rfl,rfl⟩ ?_ ?_
 .rintro i fr lL da ⟨ho,cf,h1,h4,h9,lN,GD,hh⟩;simp only at cf h1 h4 h9 lN GD hh;by_cases hi:i<g.nodes.length
  .obtain⟨c,hx⟩:=eA hi;have vH:=hp c (Zi hx);have hr:cg[i]?=some (dh c):=by rw[hg,hx];rfl
   have cz:=gA hr
   rw[Bm hx]at ho;have hf:cS .i64 ((i:Int)+1)=((i+1:Nat):Int):=cu (by omega) (by omega);by_cases hk:c.id=x
   .rw[cq hk]at ho;obtain⟨L,h2,l1,l2,l3,l4,l5⟩:=PM (n+2) c.labels false (lL++[.row (dh c)]) vH.1;obtain⟨P,h3,p1,p2⟩:=FN n false c.props false h2 vH.2.1 vH.2.2;have k1:=p2.f 1 _ (l3 1 _ (hh.app _));have kn:=l3 lL.length (.row (dh c)) (by simp);have kn0:(lL++[eK.row (dh c)])[lL.length]?=some (.row (dh c)):=by simp
    have l5':=l5;have c5:=p2.c;unfold cls at l5' c5;have qL:=λ(cal:iB)(ops:Array Oper)(d:Tmp)(rest:List Oper)(fr:LA)(h:Hp)=>tG (C:=cx) (cal:=cal) (ops:=ops) l4 d rest fr h
    have qP:=λ(cal:iB)(ops:Array Oper)(d:Tmp)(rest:List Oper)(fr:LA)(h:Hp)=>tG (C:=cx) (cal:=cal) (ops:=ops) p2.np d rest fr h
    simp[cf,h1,h9,lN,GD,hi,hq,cz,hk];rw[wz (j:=5) (m:=0) ?_ ?_ ?_ ?_]
    rotate_left
    .kernel_rfl
    .simp
    .rfl
    .simp
    simp[cf,h1,h4,kn,l1,p1,qL,qP,l5',c5,k1,cn,fH,PN vH.2.2];have l1h:1<lL.length:=(Za.1 hh).1;have l2h:lL.length<h2.length:=(Za.1 kn).1;obtain⟨y1,s1,n1⟩:=l2 (h3.set 1 (.row [x,L,P])) (λi b hi hb=>by
     have:lL.length+1<=i:=by simpa using hi
     rw[Zq (by omega)];exact p2.f i b hb)
    obtain⟨y2,s2,n2⟩:=p2.y (h3.set 1 (.row [x,L,P])) (λi b hi hb=>by
     rw[Zq (by omega)];exact hb)
    exact⟨c,ho,L,P,by rw[hk];exact Zj (Za.1 k1).1,y1,s1 5,y2,s2 5,n1,n2⟩
   .rw[cm hk]at ho;simp[cf,h1,h4,h9,lN,GD,hi,hq,cz,hk,hf];exact⟨ho,hh.app _⟩
  .have zz:cM g.nodes x=none:=by rw[ho,DT _ _ i (by omega)]
   simp[cf,h4,lN,GD,hi,zz];exact hh
 .rintro o fr lL hn ⟨cf,h4,⟨rfl,hz,hh⟩|⟨rfl,h5,c,L,P,y1,y2,hz,hh,s1,s2,s3,s4⟩⟩
  .simp only at cf h4 hh;have D9:lL[1]?=some (.row [(0:Int),(),()]):=hh;have zZ:∀w,(lL.set 1 w)[1]?=some w:=λw=>Zj (Za.1 D9).1
   simp[cf,h4,D9,zZ,cn];exact gq ⟨_,rfl,by rw[<-hT,hz];rfl⟩
  .simp only at cf h4 h5 hh s1 s2;have D9:lL[1]?=some (.row [c.id,L,P]):=hh;simp[h4,h5,D9];refine⟨_,_,⟨rfl,rfl⟩,.tp [.ag [c.id,y1,y2],true],?_,?_⟩
   .have e:Ae.cD lL 7 (.ag [c.id,L,P])=some (.ag [c.id,y1,y2]):=by
     show([.sc (.int .i64 c.id),L,P].mapM (Ae.cD lL 6)).map AV.ag=_;rw[Zo,Zo,Zo,List.mapM_nil,s1,s2];simp[Ae.cD]
    show([.ag [c.id,L,P],.sc (.bool true)].mapM (Ae.cD lL 7)).map AV.tp=_;rw[Zo,Zo,List.mapM_nil,e];simp[Ae.cD]
   .rw[<-hT,hz];simp only[nfW,s3,s4,z8,dh,Xy];rfl
end
section
attribute [local simp] cn eD
section
variable {C : Cx} {cal : FuncId -> LA -> Hp -> Option (AV × Hp)}
def adB(x y:Option (AV × Hp))(r:Option (Out × St)):Option (Out × St):=match x,y with|some (v,_),some (v',_)=>(if fH v' v=true then r else none)|_,_=>none
@[simp] def PO(v v':AV)(h h':Hp)(r:Option (Out × St)):adB (some (v,h)) (some (v',h')) r=if fH v' v=true then r else none:=rfl
def abW(x:Option Oper)(f:Oper->Option (Out × St)):Option (Out × St):=match x with|some o=>f o|none=>none
@[simp] def BT(o:Oper)(f:Oper->Option (Out × St)):abW (some o) f=f o:=rfl
def xC(C:Cx)(cal:FuncId->LA->Hp->Option (AV × Hp))(l:List Oper)(s:St)(z:Option (Out × St)):List (Nat × Nat)->Option (Out × St)
 | []=>z
 |(j,m)::ps=>abW l[j]? λo=>oF (cp C cal l.toArray (l.take j) s) λsj=>oF (cp C cal l.toArray (l.take m) s) λsm=>adB (lG C cal (ev C sj.1) sj.2 o) (lG C cal (ev C sj.1) sm.2 o) (xC C cal l s z ps)
def D_(l:List Oper)(s:St):∀ps,xC C cal l s none ps=none
 | []=>rfl
 |
  (j,m)::ps=>by
  unfold xC;rw[D_ l s ps];cases l[j]? with
  |none=>rfl
  |some o=>
  rw[BT];cases cp C cal l.toArray (l.take j) s with
  |none=>rfl
  |some sj=>
   cases cp C cal l.toArray (l.take m) s with
   |none=>rfl
   |some sm=>
    simp only[oF,adB];split<;>(try rfl);split<;>rfl
def okM(l:List Oper)(ps:List (Nat × Nat)):Bool:=ps.all λp=>(match l[p.1]? with|some o=>o.guard.isNone|none=>false) && decide (p.2<=l.length)
def IH{l:List Oper}{s:St}{jv:List St}(hL:eC C cal l.toArray l s=some jv)(z:Option (Out × St)):∀ps,okM l ps=true->xC C cal l s z ps=if ps.all (sameAt C cal l.toArray jv)then z else none
 | [],_=>rfl
 |
  (j,m)::ps,hk=>by
  unfold okM at hk;rw[Zn,Zh,Zh,Zy]at hk;obtain⟨⟨mS,hm⟩,WW⟩:=hk;have ih:=IH hL z ps WW;obtain⟨o,ho⟩:∃o,l[j]?=some o:=by
   cases q:l[j]? with
   |none=>dsimp only at mS;rw[q]at mS;cases mS
   |some o=>exact⟨o,rfl⟩
  dsimp only at mS hm;rw[ho]at mS;have hg:=Yb.1 mS;have hj:j<=l.length:=Nat.le_of_lt (Za.1 ho).1;have Od:=oL l s jv hL;have h1:=Od j hj;have h2:=Od m hm;have UN:l.toArray[j]?=some o:=by simpa using ho
  unfold xC;rw[ih,Zn,ho,BT];cases hq:cp C cal l.toArray (l.take j) s with
  |
   none=>
   have:sameAt C cal l.toArray jv (j,m)=false:=by
    simp only[sameAt,UN,h1,hq]
   rw[this];rfl
  |some sj=>
   cases hr:cp C cal l.toArray (l.take m) s with
   |
    none=>
    have:sameAt C cal l.toArray jv (j,m)=false:=by
     simp only[sameAt,UN,h1,hq,h2,hr,eM,hg]
    rw[this];rfl
   |some sm=>
    simp only[BU];cases ha:lG C cal (ev C sj.1) sj.2 o with
    |
     none=>
     have:sameAt C cal l.toArray jv (j,m)=false:=by
      simp only[sameAt,UN,h1,hq,h2,hr,eM,hg,ha]
     rw[this];rfl
    |some q=>
     obtain⟨v,h'⟩:=q;cases hb:lG C cal (ev C sj.1) sm.2 o with
     |
      none=>
      have:sameAt C cal l.toArray jv (j,m)=false:=by
       simp only[sameAt,UN,h1,hq,h2,hr,eM,hg,ha,hb]
      rw[this];rfl
     |some q'=>
      obtain⟨v',h''⟩:=q';have:sameAt C cal l.toArray jv (j,m)=fH v' v:=by
       simp only[sameAt,UN,h1,hq,h2,hr,eM,hg,ha,hb]
      rw[this];simp only[PO];cases fH v' v<;>rfl
def mX{l:List Oper}(ps:List (Nat × Nat))(hn:(needs C l.toArray,G0 C l.toArray)=(ps,false))(hk:okM l ps=true)(s:St):sG C cal true l s=xC C cal l s (Dj (cp C cal l.toArray l s)) ps:=by
 have hn1:=congrArg Prod.fst hn;have hth:=congrArg Prod.snd hn;dsimp only at hn1 hth;cases hL:eC C cal l.toArray l s with
 |
  none=>
  rw[xD];have h0:cp C cal l.toArray l s=none:=nN hL;rw[h0];show vS C cal l.toArray s=_;have:Dj (none:Option St)=none:=rfl;rw[this,D_];simp only[vS,hth,Ys,if_false]
 |some jv=>
  obtain⟨S,_,el,e1,_⟩:=qQ l s jv hL;have hr:cp C cal l.toArray l s=some (S l.length):=by rw[<-fU,hL,Option.bind_some,e1 l.length (Xc _)]
  rw[xD,hr,PQ,hL,hn1,IH hL _ ps hk];dsimp only;rw[e1 l.length (Xc _)];rfl
end
def xE :∀{xs ys:LA},gY xs xs=true->gY ys ys=true->gY (xs++ys) (xs++ys)=true
 | [],_,_,h=>h
 |
  x::xs,ys,h,k=>by
  rw[gY,Zh]at h;rw[Zv,gY,h.1,xE h.2 k];rfl
mutual
def M8 :∀v:V,gY (enc v) (enc v)=true
 |
  .mk k n d s z l=>by
  have h:=UO l;have e:fH (po z (ef l)) (po z (ef l))=true:=by
   unfold po;cases z && (ef l).isEmpty
   .simp[fH,h]
   .simp[fH,Ae.nU]
  simp only[enc,gY,fH,Ae.nU,bytes_beq,decide_true,Bool.and_self,e]
def UO :∀l:List V,mf (ef l) (ef l)=true
 | []=>by simp[ef,mf]
 |x::xs=>by simp[ef,mf,M8 x,UO xs]
end
def M9(c:Ch):gY (cB c) (cB c)=true:=xE (by simp[gY,fH,Ae.nU,bytes_beq]) (M8 c.v)
def AD(l:List fZ):mf (d_ l) (d_ l)=true:=jP λr hr=>by
 obtain⟨c,_,rfl⟩:=Yk.1 hr;have e:fK c=[.sc (.string c.key)]++enc c.v:=rfl;rw[e];exact xE (by simp[gY,fH,Ae.nU,bytes_beq]) (M8 c.v)
def M_(l:List ByteArray):mf (fj l) (fj l)=true:=jP λr hr=>by
 obtain⟨c,_,rfl⟩:=Yk.1 hr;simp[gY,fH,Ae.nU,bytes_beq]
def nO(l:List Nd):mf (f_ l) (f_ l)=true:=jP λr hr=>by
 obtain⟨c,_,rfl⟩:=Yk.1 hr;simp[dh,iD,eU,gY,fH,Ae.nU,AD,M_]
def nP(l:List Ed):mf (fV l) (fV l)=true:=jP λr hr=>by
 obtain⟨c,_,rfl⟩:=Yk.1 hr;simp[dP,eU,gY,fH,Ae.nU,AD,bytes_beq]
def qR{f:FuncId}{args:LA}{n:Nat}(bad:Nat->Bool)(r0:AV)(fi:Fi)(hF:cx.F f=some fi)(gI:FE cx bad fi.body=true)(hs:cx.oW f=none)(hi:cx.inl f=false)(hl:args.length<=fi.ntmps)(hc:args.all dk=true)(hb:∃r h',dL fi.res (eE cx (ch cx n) bad fi.body (args++List.replicate (fi.ntmps-args.length) .un,[]))=some (r,h')/\∃r',Ae.cD h' 8 r=some r'/\xn r'=r0)(ht:(xo f && Fs f)=true:=by decide)(b:Bool)(h:Hp):ch cx (n+1) b f args h=some (r0,h):=by
 obtain⟨r,h',hb,r',hr,hR⟩:=hb;rw[Zh]at ht;have:=mq (C:=cx) hs hi (uH ht.1) hc (by rw[uO hF gI hl];exact hb) hr b h;rw[this];show some (OW f r',h)=_;unfold OW;rw[ht.2];simp[hR]
def At.fh{h:Hp}{i:Nat}{b:eK}(k:At h i b):h[i]?=some b:=k
def At.set{h:Hp}{i j:Nat}{b:eK}(k:At h i b)(hn:j≠i)(y:eK):At (h.set j y) i b:=by
 unfold At at *;rw[Zq hn];exact k
def At.lt{h:Hp}{i:Nat}{b:eK}(k:At h i b):i<h.length:=(Za.1 k).1
def At.new{h:Hp}{i:Nat}{b:eK}(k:At h i b)(y:eK):At (h.set i y) i y:=Zj k.lt
def adC(g:Gr)(u v:Value):xn (.tp [.ag (cl g),.sc u,.sc v])= .tp [.ag (cl g),.sc u,.sc v]:=by simp[xn,GI,cl,dy,dz,oA,rO,pC]
def FP(N D:Nat)(b:Bool)(g:Gr)(cs:List Ch)(z:Bool)(h:Hp)(hg:qw D g)(hl:cs.length<=10^6)(hc:∀c∈cs,gS c.v<=D/\jK c.v):
 ch cx (N+3*D+11) b 52 [.ag (cl g),.ls 10 (sJ cs) z] h=some (.tp [.ag (cl (jE g cs).1),.sc (.int .i64 (jE g cs).2.1),.sc (.int .i64 (jE g cs).2.2)],h):=by
 refine qR (f:=52) (n:=N+3*D+10) (args:=[.ag (cl g),.ls 10 (sJ cs) z]) (λi=>i==7) (.tp [.ag (cl (jE g cs).1),.sc (.int .i64 (jE g cs).2.1),.sc (.int .i64 (jE g cs).2.2)]) ⟨f52.ntmps,(f52.body).getD .skip,[.cell 4 4 true,.tmp 5,.tmp 6]⟩ (by kernel_rfl) (by kernel_rfl) rfl (by kernel_rfl) (by simp[f52]) rfl ?_ (by decide) b h;have aa:=λbb hh=>uA (N+D+2) D bb g hh hg
 rw[show N+D+2+2*D+8=N+3*D+10 by omega]at aa;have af:=λ(gi:Gr)(c:Ch)bb hh(H:ny D gi)(hd:gS c.v<=D/\jK c.v)=>TP N D bb gi c hh H.v hd.1 hd.2
 unfold jE;generalize N+3*D+10=M at aa af;by_cases he:dQ g=0
 .rw[cm (by simp[he])];have F0:=FL he hg;have hq:=oK cs;have jc:=FH cs;generalize sJ cs=cg at hq jc|-;generalize hT:AV.tp [.ag (cl (iy g cs 0).1),.sc (.int .i64 (iy g cs 0).2.1),.sc (.int .i64 (iy g cs 0).2.2)]=T;rw[he]at aa;simp only[cl,dy,dz]at aa;simp[f52,cl,dy,dz,aa];refine lY (C:=cx) (G:=λr=>∃r0 h',dL _ (qM _ _ _ (du _ r) _)=some (r0,h')/\∃r',Ae.cD h' 8 r0=some r'/\xn r'=T)
   (λi s=>∃gi,i<=cs.length/\s.1.length=41/\gt s.1 1= .ls 10 cg z/\gt s.1 2= .pt 0 0/\gt s.1 4= .pt 1 0/\gt s.1 8=i/\iy g cs 0=iy gi (cs.drop i) i/\ny D gi/\At s.2 0 (.row (cl gi))/\At s.2 1 (.row [(),(),(0:Int),(0:Int)]))
   (λo s=>s.1.length=41/\gt s.1 4= .pt 1 0/\((o= .ret/\∃i e:Int,gt s.1 5=i/\gt s.1 6=e/\iy g cs 0=(fq,i,e)/\At s.2 1 (.row [(),(),(0:Int),(0:Int)]))\/
    (o= .exit 0/\gt s.1 1= .ls 10 cg z/\gt s.1 2= .pt 0 0/\∃gi,iy g cs 0=(gi,(cs.length:Int),0)/\At s.2 0 (.row (cl gi))/\At s.2 1 (.row [(),(),(0:Int),(0:Int)])))) cs.length (by simp;omega) ?_ ?_ ?_
  .exact⟨g,by omega,rfl,rfl,rfl,rfl,rfl,rfl,F0,rfl,rfl⟩
  .rintro i fr hp jw ⟨gi,pS,cf,g1,g2,g4,g8,dq,FI,db,eo⟩;simp only at cf g1 g2 g4 g8 db eo;by_cases hi:i<cs.length
   .obtain⟨c,rz⟩:=eA hi;have hr:cg[i]?=some (cB c):=by rw[jc,rz];rfl
    have cz:=gA hr
    have Ke:cs.drop i=c::cs.drop (i+1):=by
     obtain⟨k,e⟩:=Za.1 rz;rw[Zm k,e]
    have Lu:=hc c (Zi rz);have af:=λbb hh=>af gi c bb hh FI Lu
    have UQ:=yG (c:=c) FI Lu.1 Lu.2;rw[Ke,iy]at dq;have hf:=cG (i:=i) (by omega);generalize iN gi c=r at dq af UQ;obtain⟨G,e⟩:=r;dsimp only at dq af UQ;have l1:=eo.lt;have a0:=db.fh;have a1:=eo.fh;have aq:∀y k,(hp++y)[0]'k= .row (cl gi):=λy k=>(db.app y).get k
    have uV:∀y,(hp++y)[0]?=some (.row (cl gi)):=λy=>(db.app y).fh
    have an:∀y,(hp++[y])[hp.length]?=some y:=λy=>by simp
    have Av:∀y,(hp++y)[1]?=some (.row [(),(),(0:Int),(0:Int)]):=λy=>(eo.app y).fh
    by_cases h0:e=0
    .rw[cq h0]at dq;subst h0;simp only[cl,dy,dz]at af a0 uV aq;simp[cf,g1,g8,hi,hq];rw[mX [(0,10),(4,10),(5,10)] ?_ ?_]
     rotate_left
     .kernel_rfl
     .kernel_rfl
     simp(maxSteps:=1000000) [xC,cf,g1,g2,g4,g8,hi,hq,cz,hf,af,a0,aq,cn,fH,gY,Ae.nU,M9,nO,nP];exact⟨hi,G,dq,UQ rfl,(db.app _).new _,(eo.app _).set (j:=0) (by decide) _⟩
    .rw[cm h0]at dq;simp only[cl,dy,dz]at af a0 uV aq;simp[cf,g1,g8,hi,hq];rw[mX [(0,10),(4,10),(5,10)] ?_ ?_]
     rotate_left
     .kernel_rfl
     .kernel_rfl
     simp(maxSteps:=1000000) [xC,cf,g1,g2,g4,g8,hi,hq,cz,h0,af,a0,Av,aq,cn,fH,gY,Ae.nU,M9,nO,nP];exact⟨dq,(eo.app _).new _⟩
   .have k_:i=cs.length:=Nat.le_antisymm pS (Ya hi);subst k_;rw[Yc,iy]at dq;simp[cf,g1,g2,g4,g8,hq];exact⟨gi,dq,db,eo⟩
  .rintro o fr hp hn ⟨cf,g4,⟨rfl,i,e,g5,g6,dq,eo⟩|⟨rfl,g1,g2,gi,dq,db,eo⟩⟩
   .simp only at cf g4 g5 g6 eo;rw[dq]at hT;have a1:=eo.fh;simp[g4,g5,g6,a1];exact gq ⟨_,rfl,hT⟩
   .simp only at cf g1 g2 db eo;rw[dq]at hT;have a0:=db.fh;have a1:=eo.fh;have s1:∀y,(hp.set 1 y)[1]?=some y:=λy=>(eo.new y).fh
    simp only[cl,dy,dz]at a0;simp[cf,g1,g2,g4,hq,a0,a1,s1,cn];exact gq ⟨_,rfl,by rw[<-hT];exact adC gi _ _⟩
 .rw[cq he];generalize dQ g=e at aa he;simp only[cl,dy,dz]at aa;simp[f52,cl,dy,dz,aa,he,cn];exact gq ⟨_,rfl,rfl⟩
structure Cm where
 ts:Int
 cs:List Ch
def jM(c:Cm):LA:=[.sc (.int .i64 c.ts),.ls 10 (sJ c.cs) false]
def oU(l:List Cm):List LA:=l.map jM
def gl(l:List Cm):(oU l).length=l.length:=by simp[oU]
def uW(l:List Cm)(i:Nat):(oU l)[i]?=(l[i]?).map jM:=by simp[oU]
def Z6(D:Nat)(cs:List Ch):Prop:=cs.length<=10^6/\∀c∈cs,gS c.v<=D/\jK c.v
def CmB(D:Nat)(l:List Cm):Prop:=∀c∈l,Z6 D c.cs
def zr{D:Nat}:∀{cs:List Ch}{g:Gr}{i:Nat},ny D g->(∀c∈cs,gS c.v<=D/\jK c.v)->(iy g cs i).2.2=0->ny D (iy g cs i).1
 | [],_,_,H,_,_=>H
 |
  c::cs,g,i,H,hc,h0=>by
  rw[iy]at h0|-;split at h0
  .rename_i e;rw[cq e];exact zr (yG H (hc c (by simp)).1 (hc c (by simp)).2 e) (λx hx=>hc x (by simp[hx])) h0
  .rename_i e;exact absurd h0 e
def qS{D:Nat}{g:Gr}{cs:List Ch}(hg:qw D g)(hc:Z6 D cs)(h0:(jE g cs).2.2=0):ny D (jE g cs).1:=by
 unfold jE at h0|-;split at h0
 .rename_i e;exact absurd h0 e
 .rename_i e;rw[cm e];exact zr (FL (Classical.not_not.1 e) hg) hc.2 h0
def dF :Gr->List Cm->Gr × Int
 |g,[]=>(g,0)
 |g,c::l=>if(jE g c.cs).2.2=0 then dF (jE g c.cs).1 l else(fq,(jE g c.cs).2.2)
def zt{D:Nat}:∀{l:List Cm}{g:Gr},ny D g->CmB D l->(dF g l).2=0->ny D (dF g l).1
 | [],_,H,_,_=>H
 |
  c::l,g,H,hc,h0=>by
  rw[dF]at h0|-;split at h0
  .rename_i e;rw[cq e];exact zt (qS H.gr (hc c (by simp)) e) (λx hx=>hc x (by simp[hx])) h0
  .rename_i e;exact absurd h0 e
def abX(N D:Nat)(b:Bool)(g:Gr)(cs:List Ch)(z:Bool)(h:Hp)(hg:qw D g)(hc:Z6 D cs):
 ch cx (N+2*D+12) b 50 [.ag (cl g),.ls 10 (sJ cs) z] h=some (.tp [.ag (cl (jE g cs).1),.sc (.int .i64 (jE g cs).2.1),.sc (.int .i64 (jE g cs).2.2)],h):=
 Lk N D b g cs z h hg hc.1 λh0=>UJ (FL h0 hg) hc.2
def qT :LA:=[.sc (.slice none 0 0),.sc (.slice none 0 0),.sc (.int .i64 0),.sc (.int .i64 0)]
def r8(g:Gr)(u:Value):xn (.tp [.ag (cl g),.sc u])= .tp [.ag (cl g),.sc u]:=by simp[xn,GI,cl,dy,dz,oA,rO,pC]
def FQ(g:Gr):xn (.ag (cl g))= .ag (cl g):=by simp[xn,GI,cl,dy,dz,oA,rO,pC]
def Na(N D:Nat)(b:Bool)(g:Gr)(l:List Cm)(z:Bool)(h:Hp)(hg:qw D g)(hl:l.length<=10^6)(hc:CmB D l):
 ch cx (N+2*D+13) b 54 [.ag (cl g),.ls 2 (oU l) z] h=some (.tp [.ag (cl (dF g l).1),.sc (.int .i64 (dF g l).2)],h):=by
 refine nA (n:=N+2*D+12) f54 [.cell 4 4 true,.tmp 5] rfl ?_ b h;have fa:=λ(g:Gr)(cs:List Ch)z bb h hg hc=>abX N D bb g cs z h hg hc
 generalize N+2*D+12=M at fa|-;have hq:=gl l;have jc:=uW l;generalize oU l=cg at hq jc|-;generalize hT:AV.tp [.ag (cl (dF g l).1),.sc (.int .i64 (dF g l).2)]=T;generalize hR:dF g l=R at hT;simp[f54,cl,dy,dz,hq];generalize gU:M (.loop _) _=XX;refine pU gU
  (λi s dn=>s.length=32/\gt s 2= .pt 0 0/\gt s 4= .pt 1 0/\gt s 11= .ls 2 cg z/\gt s 12=l.length/\gt s 13=i/\At dn 1 (.row qT)/\∃gi,qw D gi/\dF gi (l.drop i)=R/\At dn 0 (.row (cl gi)))
  (λo s dn=>s.length=32/\gt s 2= .pt 0 0/\gt s 4= .pt 1 0/\At dn 1 (.row qT)/\((o= .exit 0/\∃gi,R=(gi,0)/\At dn 0 (.row (cl gi)))\/(o= .ret/\∃e:Int,R=(fq,e)/\gt s 5=e))) l.length (by simp;omega) ⟨by simp,by simp,by simp,by simp,by simp,by simp,rfl,g,hg,hR,rfl⟩ ?_ ?_
 .clear gU XX hR hT;rintro i fr hp da ⟨cf,g2,g4,g11,g12,g13,eo,gi,hgi,dq,db⟩;have a0:=db.fh;have a1:=eo.fh;have aq:∀y k,(hp++y)[0]'k= .row (cl gi):=λy k=>(db.app y).get k
  have a1q:∀y k,(hp++y)[1]'k= .row qT:=λy k=>(eo.app y).get k
  have uV:∀y,(hp++y)[0]?=some (.row (cl gi)):=λy=>(db.app y).fh
  have Av:∀y,(hp++y)[1]?=some (.row qT):=λy=>(eo.app y).fh
  have an:∀y,(hp++[y])[hp.length]?=some y:=λy=>by simp
  rcases jr jc da with⟨c,hi,hx,hr,cz⟩|rfl
  .have Bo:=hc c (Zi hx);rw[jd hx,dF]at dq;have fa:=λbb h=>fa gi c.cs false bb h hgi Bo
   have UQ:=λh0=>(qS hgi Bo h0).gr
   have hf:=cG (i:=i) (by omega);generalize jE gi c.cs=r at dq fa UQ;obtain⟨G,k,e⟩:=r;dsimp only at dq fa UQ;simp only[cl,dy,dz,qT]at fa a0 uV a1 Av aq a1q;by_cases h0:e=0
   .rw[cq h0]at dq;subst h0;simp[cf,g2,g4,g11,g12,g13,hi,hq,cz,jM,fa,aq,hf];exact⟨((eo.app _).set (j:=0) (by decide) _),G,UQ rfl,dq,(db.app _).new _⟩
   .rw[cm h0]at dq;simp[cf,g2,g4,g11,g12,g13,hi,hq,cz,jM,fa,aq,a1q,h0];exact⟨(eo.app _).new _,dq.symm⟩
  .rw[Yc,dF]at dq;simp[cf,g2,g4,g12,g13,<-dq];exact⟨eo,db⟩
 .rintro o gO h' rfl ⟨cf,g2,g4,eo,⟨rfl,gi,rfl,db⟩|⟨rfl,e,rfl,g5⟩⟩
  .have a0:=db.fh;have a1:=eo.fh;have s1:∀y,(h'.set 1 y)[1]?=some y:=λy=>(eo.new y).fh
   simp only[cl,dy,dz,qT]at a0 a1;simp[cf,g2,g4,a0,a1,s1];exact gq ⟨_,rfl,by rw[<-hT];exact r8 gi _⟩
  .have a1:=eo.fh;simp only[qT]at a1;simp[g4,g5,a1];exact gq ⟨_,rfl,by rw[<-hT];rfl⟩
structure Hi where
 b:Int
 g:Gr
 l:List Cm
def iz(x:Hi)(L:AV):LA:= .sc (.int .i64 x.b)::(cl x.g++[L])
def oV(x:Hi):AV:= .ag (iz x (.ls 2 (oU x.l) false))
def Dk :Int->List Cm->Bool
 |_,[]=>true
 |k,c::l=>decide (c.ts=k) && Dk (k+1) l
def gu(x:Hi):Int:=if x.b<0\/1000000000000000<x.b then 1 else if¬dQ x.g=0 then dQ x.g else if 1000<x.l.length then 4 else if Dk (x.b+1) x.l=true then(dF x.g x.l).2 else 26
structure Lv (D:Nat)(x:Hi):Prop where
 g:qw D x.g
 l:x.l.length<=10^6
 c:CmB D x.l
 t:∀c∈x.l, -9223372036854775808<=c.ts/\c.ts<=9223372036854775807
def FR(N D:Nat)(b:Bool)(x:Hi)(h:Hp)(hx:Lv D x):
 ch cx (N+2*D+14) b 25 [oV x] h=some (.sc (.int .i64 (gu x)),h):=by
 have main:∃h',dL [.tmp 2] (cO cx (ch cx (N+2*D+13)) ((f25.body).getD .skip) ([oV x]++List.replicate 51 .un,[]))=some (.sc (.int .i64 (gu x)),h'):=by
  have fg:=λbb h=>Am (N+5) D bb x.g h hx.g
  have fa:=λbb h=>Na N D bb x.g x.l false h hx.g hx.l hx.c
  rw[show N+5+2*D+8=N+2*D+13 by omega]at fg;have hl:=hx.l;clear hx;generalize N+2*D+13=M at fg fa|-;obtain⟨bs,g,l⟩:=x;unfold oV gu iz;simp only at fg fa hl|-;have hq:=gl l;have jc:=uW l;generalize oU l=cg at hq jc fa|-;generalize hA:(dF g l).2=ae at fa|-;generalize(dF g l).1=ag at fa;clear hA;generalize dQ g=ge at fg|-;simp only[cl,dy,dz]at fg fa;by_cases h1:bs<0
  .simp[f25,cl,dy,dz,h1]
  by_cases h2:1000000000000000<bs
  .simp[f25,cl,dy,dz,h1,h2]
  rw[cm (by omega)];by_cases h3:ge=0
  rotate_left
  .simp[f25,cl,dy,dz,h1,h2,fg,h3]
  subst h3;rw[cm (by simp)];by_cases h4:1000<l.length
  .simp[f25,cl,dy,dz,h1,h2,fg,hq,show(1000:Int)< (l.length:Int) by omega,h4]
  rw[cm h4];generalize hE:(if Dk (bs+1) l=true then ae else 26)=E;simp[f25,cl,dy,dz,h1,h2,fg,hq,show¬(1000:Int)< (l.length:Int) by omega];generalize gU:M (.loop _) _=XX;refine pU gU
   (λi s dn=>(if Dk (bs+1+(i:Int)) (l.drop i)=true then ae else 26)=E/\s.length=52/\gt s 1= .pt 0 0/\gt s 27= .ls 2 cg false/\gt s 28=l.length/\gt s 29=i/\At dn 0 (.row [bs,.ls 3 (f_ g.nodes) false,.ls 5 (fV g.cj) false,g.nn,g.ne,.ls 2 cg false]))
   (λo s dn=>s.length=52/\((o= .exit 0/\ae=E/\gt s 1= .pt 0 0/\At dn 0 (.row [bs,.ls 3 (f_ g.nodes) false,.ls 5 (fV g.cj) false,g.nn,g.ne,.ls 2 cg false]))\/(o= .ret/\gt s 2=E))) l.length (by simp;omega) ⟨by simpa using hE,by simp,by simp,by simp,by simp,by simp,rfl⟩ ?_ ?_
  .clear gU XX hE fg fa;rintro i fr hp da ⟨hE,cf,g1,g27,g28,g29,db⟩;have a0:=db.fh;have aq:∀y k,(hp++y)[0]'k= .row [bs,.ls 3 (f_ g.nodes) false,.ls 5 (fV g.cj) false,g.nn,g.ne,.ls 2 cg false]:=λy k=>(db.app y).get k
   have uV:∀y,(hp++y)[0]?=some (.row [bs,.ls 3 (f_ g.nodes) false,.ls 5 (fV g.cj) false,g.nn,g.ne,.ls 2 cg false]):=λy=>(db.app y).fh
   rcases jr jc da with⟨c,hi,hx,hr,cz⟩|rfl
   .rw[jd hx,Dk]at hE;have aa:cS .i64 (bs+1)=bs+1:=cu (by omega) (by omega);have af:cS .i64 (bs+1+(i:Int))=bs+1+(i:Int):=by clear aa;exact cu (by omega) (by omega)
    have hf:=cG (i:=i) (by clear aa af;omega);by_cases ht:c.ts=bs+1+(i:Int)
    .rw[decide_eq_true ht,Xd]at hE;simp[cf,g1,g27,g28,g29,hi,hq,cz,jM,aq,aa,af,hf,ht];refine⟨?_,db.app _⟩;have e:bs+1+((i:Int)+1)=bs+1+(i:Int)+1:=by clear aa af hf;omega
     rw[<-hE];simp only[e]
    .rw[decide_eq_false ht,Xi]at hE;simp[cf,g1,g27,g28,g29,hi,hq,cz,jM,aq,aa,af,ht];exact hE
   .rw[Yc,Dk]at hE;simp[cf,g1,g28,g29];exact⟨hE,db⟩
  .clear fg;rintro o gO h' rfl ⟨cf,⟨rfl,hE,g1,db⟩|⟨rfl,g2⟩⟩
   .have a0:=db.fh;have uV:=λy=>(db.app y).fh
    simp[cf,g1,a0,fa,hE]
   .simp[g2]
 obtain⟨h',e⟩:=main;exact gD (r:= .sc (.int .i64 (gu x))) (h':=h') (n:=N+2*D+13) ⟨f25.ntmps,(f25.body).getD .skip,[.tmp 2]⟩ (by kernel_rfl) (by kernel_rfl) rfl (by kernel_rfl) (by simp[f25]) rfl e rfl b h
def UR(n:Nat)(b:Bool)(x:Hi)(h:Hp):ch cx (n+1) b 46 [oV x] h=some (.sc (.int .i64 (cS .i64 (x.b+(x.l.length:Int)))),h):=by
 refine eR f46 [.tmp 2] rfl rfl ?_ b h;have hq:=gl x.l;unfold oV iz;simp[f46,cl,dy,dz,hq]
def II(n:Nat)(b:Bool)(x:Hi)(h:Hp):ch cx (n+1) b 108 [oV x] h=some (.sc (.int .i64 (cS .i64 (x.b+(x.l.length:Int)))),h):=by
 refine eR f108 [.tmp 2] rfl rfl ?_ b h;have hq:=gl x.l;unfold oV iz;simp[f108,cl,dy,dz,hq]
def Z7(cs:List Ch):∀r∈sJ cs,r.length=10:=λr hr=>by
 obtain⟨c,_,rfl⟩:=Yk.1 hr;unfold cB;rw[Zu,dB];rfl
def PR(cs:List Ch):(sJ cs).flatten.all eu=true:=by
 rw[Yt];intro x hx;obtain⟨r,hr,hx⟩:=List.mem_flatten.1 hx;obtain⟨c,_,rfl⟩:=Yk.1 hr;exact Yt.1 (Ll c) x hx
def afV(n:Nat)(b:Bool)(cs:List Ch)(z:Bool)(h:Hp)(hl:cs.length<=10^6):ch cx (n+1) b 85 [.ls 10 (sJ cs) z] h=some (.ls 10 (sJ cs) false,h):=by
 have e1:cx.oW 85=none:=by kernel_rfl
 have e2:cx.inl 85=false:=by kernel_rfl
 cases cs with
 |
  nil=>
  have e4:cx.ux 85 [.ls 10 [] z]=some (.ls 10 [] false):=rfl;have e5:[AV.ls 10 [] z].mapM (Ae.cD h 8)=some [AV.ls 10 [] z]:=rfl;simp only[sJ,Xw,ch,e1,e2,e4,e5,Ys,if_false];rfl
 |cons c cs=>
  have hw:=Z7 (c::cs);have dZ:=PR (c::cs);have hln:(sJ (c::cs)).length=cs.length+1:=by simp[sJ]
  generalize hR:sJ (c::cs)=R at hw dZ hln|-;obtain⟨r,cg,rfl⟩:∃r cg,R=r::cg:=⟨cB c,sJ cs,by rw[<-hR];rfl⟩;clear hR;have CR:(r::cg).flatten.length=(r::cg).length*10:=cQ _ hw;have CU:cg.length+1<=1000000:=by simp at hln hl;omega
  have c0:cg.length+1<=maxLen:=by unfold maxLen;omega
  have c2:¬(cg.length+1)*10<=0:=by omega
  have c3:¬cg.length+1=0:=by omega
  have c4:(cg.length+1)*112<=140737488355328:=by omega
  have e4:cx.ux 85 [.ls 10 (r::cg) z]=none:=rfl;have e5:cx.F 85=some ⟨f85.ntmps,(f85.body).getD .skip,[.tmp 2]⟩:=by kernel_rfl
  have hb:om cx (ch cx n) 85 [.ls 10 (r::cg) z] []=some (.sl 1 10 0 (cg.length+1) false,[.dead,.row (r::cg).flatten]):=by
   rw[jL e5 (by kernel_rfl) (by simp[f85])];simp[f85,s9,ka,ew,c0,c4,c2]
  have hs:Ae.cD [eK.dead,.row (r::cg).flatten] 8 (.sl 1 10 0 (r::cg).length false)=some (.ls 10 (r::cg) false):=
   uE (n:=7) (by omega) hw dZ (cs:=(r::cg).flatten) rfl (by rw[<-CR,Xx]) (by omega)
  rw[mq (C:=cx) e1 e2 e4 rfl hb hs b h];rfl
def US(n D:Nat)(b:Bool)(g:Gr)(h:Hp)(hg:qw D g)(he:dQ g=0):
 ch cx (n+2*D+12) b 50 [.ag (cl g),()] h=some (.tp [.ag (cl g),(0:Int),(0:Int)],h):=by
 refine nA (n:=n+2*D+11) f50 [.cell 4 4 true,.tmp 5,.tmp 6] rfl ?_ b h;have aa:=λbb hh=>Am (n+3) D bb g hh hg
 rw[show n+3+2*D+8=n+2*D+11 by omega]at aa;have Sc:=HT he;have W_:=Uc he;obtain⟨r,h1,c1,N,V,t1,nr,er,rfl,o1,o2,a1,a2,FO⟩:=Iv (n+2*D+9) true g (λ_=> .none) [.row (cl g),.row [(),(),(0:Int),(0:Int)]] Sc.nl Sc.el (λm hm=>by have:=gd (Sc.np m hm);omega) (λm hm=>by have:=gd (Sc.ep m hm);omega);have k4:=FO 1 _ rfl (by simp);have pE:=fM.push h1 t1 (.row [N,V,g.nn,g.ne]) .box (λ_=>False);have R0:gp (h1++[.row [N,V,g.nn,g.ne]]) (eO t1 h1.length .box) h1.length g N V nr er:={
  box:=by simp
  tb:=hY _ _ _
  ns:=o1.fl pE (λq=>q)
  es:=o2.fl pE (λq=>q)
  na:=a1.imp λa _ r q=>q.fl pE (λq=>q) (λq=>q)
  ea:=a2.imp λa _ r q=>q.fl pE (λq=>q)}
 have k5:=pE 1 _ k4.1 (λq=>q);rw[he]at aa;simp only[cl,dy,dz]at aa c1;simp[f50,cl,dy,dz,aa,c1,cn];generalize gU:cO cx (ch cx (n+2*D+11)) (.loop _) _=XX;refine pU gU (λi s dn=>s.length=40/\gt s 1=()/\gt s 4= .pt 1 0/\gt s 8= .pt h1.length 0/\gt s 22=(0:Int)/\gt s 23=(0:Int)/\gp dn (eO t1 h1.length .box) h1.length g N V nr er/\dn[1]?=some (.row [(),(),(0:Int),(0:Int)]))
  (λo s dn=>o= .exit 0/\s.length=40/\gt s 1=()/\gt s 4= .pt 1 0/\gt s 8= .pt h1.length 0/\gp dn (eO t1 h1.length .box) h1.length g N V nr er/\dn[1]?=some (.row [(),(),(0:Int),(0:Int)])) 0 (by simp) ⟨by simp,by simp,by simp,by simp,by simp,by simp,R0,k5.1⟩ ?_ ?_
 .clear gU XX;rintro i fr hp _ ⟨cf,g1,g4,g8,g22,g23,RG,eo⟩;simp[cf,g1,g4,g8,g22,g23];exact⟨RG,eo⟩
 .rintro o gO hp rfl ⟨rfl,cf,g1,g4,g8,RG,eo⟩;have hb:=RG.box;have lz:=(Za.1 eo).1;have AA:∀y,(hp.set 1 y)[1]?=some y:=λy=>Zj lz
  have RG':=RG.fl (fM.set hp (eO t1 h1.length .box) 1 (.row [N,V,g.nn,g.ne]) (S:=λt=>t= .none) (k5.2.trans k4.2));obtain⟨y1,y2,w1,w2⟩:=D4 RG' 3;simp[cf,g1,g4,g8,hb,eo,AA,cn];exact gq ⟨_,Iw w1,M2 w2⟩
def FT{α:Type}{l:List α}{i:Nat}{x:α}(y:List α)(h:l[i]?=some x):(l++y)[i]?=some x:=by
 rw[Zd (Za.1 h).1];exact h
def ko{α:Type}{l:List α}{i j:Nat}{x y:α}(h:l[i]?=some x)(hn:j≠i):(l.set j y)[i]?=some x:=by
 rw[Zq hn];exact h
def xF{t:TypeId}{i:Ti}{sz bytes:Nat}{ag:Bool}{ez:List Value}(hT:cx.T t=some i)(hk:i.kd= .slice sz ag bytes ez)(h:Hp)(c:LA)(z:Bool)(cg:List LA)(x:AV)(hx:gz h sz cg x)(hc:c.length=sz)(hr:∀r∈cg,r.length=sz)(fX:0<sz)(hn:cg.length<=10^9)(hb:bytes<=1000):
 ∃id h',ew cx h t x (.ls sz [c] z)=some (.sl id sz 0 (cg.length+1) false,h')/\h'[id]?=some (.row (cg++[c]).flatten)/\
  (∀j b,h[j]?=some b->(∀k n,x= .sl k sz 0 n false->j≠k)->h'[j]?=some b)/\h.length<=id:=by
 obtain⟨size,agg,zero,kd⟩:=i;simp only at hk;subst hk;have pH:ju h (.ls sz [c] z)=some (1,c):=by simp[ju]
 rcases hx with⟨rfl,rfl⟩|⟨eF,id,rfl,cZ⟩
 .refine⟨h.length,h++[.row c],?_,by simp,λj b hj _=>FT _ hj,Xc _⟩;unfold ew;rw[hT];simp only[ka,beq_self_eq_true,Bool.and_self,if_true,pH];rw[cm (by omega),cq (by unfold maxLen;omega)];rfl
 .have CR:cg.flatten.length=cg.length*sz:=cQ cg hr;have wP:(cg.length+1)*bytes<=140737488355328:=by
   have:=Nat.mul_le_mul (show cg.length+1<=1000000001 by omega) hb;omega
  have hmul:(cg.length+1)*sz=cg.length*sz+sz:=by rw[Xp,Nat.one_mul]
  refine⟨h.length,h.set id .dead++[.row (cg.flatten++c)],?_,?_,λj b hj hjk=>?_,Xc _⟩
  .unfold ew;rw[hT];simp only[ka,beq_self_eq_true,Bool.and_self,if_true,pH,cZ];rw[cm (by omega),cm (by omega),cq ⟨trivial,CR,by unfold maxLen;omega,wP⟩]
  .rw[Zf (by simp)];simp
  .have mZ:=(Za.1 hj).1;have xk:j≠id:=hjk id _ rfl;rw[Zd (by simp;omega)];exact ko hj λe=>xk e.symm
def gz.grow{h:Hp}{sz:Nat}{cg:List LA}{x:AV}(hx:gz h sz cg x)(k:Hp):gz (h++k) sz cg x:=by
 rcases hx with h0|⟨eF,id,rfl,cZ⟩
 .exact .inl h0
 .exact .inr ⟨eF,id,rfl,FT _ cZ⟩
def gz.cls{h:Hp}{sz:Nat}{cg:List LA}{x:AV}(hx:gz h sz cg x):Ae.cls x=some [x]:=by
 rcases hx with⟨_,rfl⟩|⟨_,id,rfl,_⟩<;>rfl
def Nb(l:List Cm):∀r∈oU l,r.length=2:=λr hr=>by
 obtain⟨c,_,rfl⟩:=Yk.1 hr;rfl
def PT(l:List Cm):(oU l).flatten.all eu=true:=by
 rw[Yt];intro x hx;obtain⟨r,hr,hx⟩:=List.mem_flatten.1 hx;obtain⟨c,_,rfl⟩:=Yk.1 hr;simp only[jM,Yw,Qf,or_false]at hx;rcases hx with rfl|rfl<;>rfl
def UT(N D:Nat)(b:Bool)(x:Hi)(h:Hp)(hx:Lv D x)(h0:dQ x.g=0):
 ch cx (N+2*D+13) b 67 [oV x] h=some (.ag (iz x (dt 2 (oU x.l))),h):=by
 have main:∃r h',dL [.cell 2 6 true] (cO cx (ch cx (N+2*D+12)) ((f67.body).getD .skip) ([oV x]++List.replicate 39 .un,[]))=some (r,h')/\Ae.cD h' 8 r=some (.ag (iz x (dt 2 (oU x.l)))):=by
  have fa:=λbb h=>US N D bb x.g h hx.g h0
  have fc:=λ(cs:List Ch)z bb h(hl:cs.length<=10^6)=>afV (N+2*D+11) bb cs z h hl
  rw[show N+2*D+11+1=N+2*D+12 from rfl]at fc;have hl:=hx.l;have Bo:=hx.c;clear hx h0;generalize N+2*D+12=M at fa fc|-;obtain⟨bs,g,l⟩:=x;unfold oV iz;simp only at fa hl Bo|-;have hq:=gl l;have jc:=uW l;generalize hrw:oU l=cg at hq jc|-;simp only[cl,dy,dz]at fa;simp[f67,cl,dy,dz,fa,hq];generalize gU:M (.loop _) _=XX;refine pU gU
   (λi s dn=>s.length=40/\gt s 2= .pt 1 0/\gt s 6= .pt 3 0/\gt s 21= .ls 2 cg false/\gt s 22=l.length/\gt s 23=i/\∃y,At dn 1 (.row [(0:Int),(),(),(0:Int),(0:Int),()])/\At dn 3 (.row [bs,.ls 3 (f_ g.nodes) false,.ls 5 (fV g.cj) false,g.nn,g.ne,y])/\gz dn 2 (oU (l.take i)) y/\∀k m,y= .sl k 2 0 m false->k≠1/\k≠3)
   (λo s dn=>o= .exit 0/\s.length=40/\gt s 2= .pt 1 0/\gt s 6= .pt 3 0/\∃y,At dn 1 (.row [(0:Int),(),(),(0:Int),(0:Int),()])/\At dn 3 (.row [bs,.ls 3 (f_ g.nodes) false,.ls 5 (fV g.cj) false,g.nn,g.ne,y])/\gz dn 2 (oU l) y/\∀k m,y= .sl k 2 0 m false->k≠1/\k≠3) l.length (by simp;omega)
   ⟨by simp,by simp,by simp,by simp,by simp,by simp,.sc (.slice none 0 0),rfl,rfl,.inl ⟨rfl,rfl⟩,λk m e=>by cases e⟩ ?_ ?_
  .clear gU XX fa;rintro i fr hp da ⟨cf,g2,g6,g21,g22,g23,y,eo,Sg,hB,hn⟩;rcases jr jc da with⟨c,hi,hx,hr,cz⟩|rfl
   .have vh:=Bo c (Zi hx);have fc:=λbb h=>fc c.cs false bb h vh.1
    have hf:=cG (i:=i) (by omega);obtain⟨j,h2,b1,b2,b3,b4⟩:=xF (t:=27) afQ rfl (hp++[.row (jM c)]) (jM c) true (oU (l.take i)) y (hB.grow _) rfl (Nb _) (by omega) (by rw[gl,Xf];omega) (by omega);have l3:=Sg.lt;have c1:=b3 1 _ (eo.app _).fh λk n e=>((hn k n e).1).symm
    have c3:=b3 3 _ (Sg.app _).fh λk n e=>((hn k n e).2).symm
    have zd:(oU (l.take i)).length=i:=by rw[gl,Xf];omega
    have sS:oU (l.take i)++[jM c]=oU (l.take (i+1)):=by rw[jk hx];simp[oU]
    have a0:=Sg.fh;have aq:∀y' k,(hp++y')[3]'k= .row [bs,.ls 3 (f_ g.nodes) false,.ls 5 (fV g.cj) false,g.nn,g.ne,y]:=λy' k=>(Sg.app y').get k
    have uV:∀y',(hp++y')[3]?=some (.row [bs,.ls 3 (f_ g.nodes) false,.ls 5 (fV g.cj) false,g.nn,g.ne,y]):=λy'=>(Sg.app y').fh
    have an:∀y',(hp++[y'])[hp.length]?=some y':=λy=>by simp
    have q1:=λops d rest fr h=>npR (λv=>hB.np v) (ch cx M false) ops d rest fr h
    have nQ:=hB.cls;rw[zd]at b1;simp only[jM]at b1;simp[cf,g2,g6,g21,g22,g23,hi,hq,cz,jM,uV,hf,fc,q1,b1,c3,oh,chunk,dk];simp only[Zu,Xe,Xq]at b4;refine⟨At.set (show At h2 1 _ from c1) (by decide) _,_,At.new (show At h2 3 _ from c3) _,.inr ⟨by rw[<-sS];simp,j,by rw[gl,Xf,Nat.min_eq_left hi],by rw[<-sS];exact ko b2 (by omega)⟩,λk m e=>?_⟩;injection e;omega
   .simp[cf,g2,g6,g22,g23];rw[Xx]at hB;exact⟨eo,y,Sg,hB,hn⟩
  .rintro o gO hp rfl ⟨rfl,cf,g2,g6,y,eo,Sg,hB,hn⟩;have a1:=eo.fh;have a3:=Sg.fh;have q1:=λops d rest fr h=>tZ (λv=>hB.np v) (ch cx M true) ops d rest fr h
   have nQ:=hB.cls;have s1:∀y,(hp.set 1 y)[1]?=some y:=λy=>(eo.new y).fh
   simp[cf,g2,g6,a1,a3,s1];have RY:gz (hp.set 1 (.row [bs,.ls 3 (f_ g.nodes) false,.ls 5 (fV g.cj) false,g.nn,g.ne,y])) 2 (oU l) y:=by
    rcases hB with⟨h0,rfl⟩|⟨eF,j,rfl,hj⟩
    .exact .inl ⟨h0,rfl⟩
    .exact .inr ⟨eF,j,rfl,ko hj λe=>(hn j _ rfl).1 e.symm⟩
   have hs:=fJ (n:=6) (by omega) (Nb l) (PT l) RY;rw[hrw]at hs;exact⟨_,_,⟨rfl,rfl⟩,by simp[Ae.cD,hs]⟩
 obtain⟨r,h',e,hs⟩:=main;exact gD (r:=r) (r':= .ag (iz x (dt 2 (oU x.l)))) (h':=h') (n:=N+2*D+12) ⟨f67.ntmps,(f67.body).getD .skip,[.cell 2 6 true]⟩ (by kernel_rfl) (by kernel_rfl) rfl (by kernel_rfl) (by simp[f67]) rfl e hs b h
end
end Go.Proofs.YtmfohnojaginjaaGreatDoor
