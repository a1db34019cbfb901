/- Part of the proof. -/
import Derived.Test.YtaibpnppeiigdaaGreatDoorP31
import Derived.Test.YtaibpnppeiigdaaGreatDoorP27
import Derived.WalkKit
import Derived.Lib.Walk
import Derived.Lib.SliceRun
import Derived.Lib.AppendZerosOnto
import Derived.Lib.Overlaps
import Derived.Laws.Externs
import Derived.Laws.IdiomCopy
import Derived.Shelf.RegionOpenPlain
set_option linter.all false
set_option maxHeartbeats 4000000
set_option maxRecDepth 100000
namespace Go.Proofs
open Go Go.Ae Go.RowKit Go.Shelf Go.Sort Go.Proofs.Tryz
def Wv (l:List Int):(l.mergeSort λx y=>decide (x<=y))=km l:=by
 have hm:=List.pairwise_mergeSort (le:=λx y:Int=>decide (x<=y)) (λa b c h1 h2=>by simp only[Zz]at *;omega) (λa b=>by simp only[Bool.or_eq_true,Zz];omega) l;have g:∀{a b:Int},decide (a<=b)=true->a<=b:=λ{a b} h=>of_decide_eq_true h
 exact List.Perm.eq_of_pairwise (le:=λa b:Int=>a<=b) (λa b _ _ h1 h2=>by omega) (List.Pairwise.imp g hm) (Cv l) ((List.mergeSort_perm _ _).trans (lg l).symm)
def JZ {w w':World}(h:Below w.heap.size w w')(hd:w.drawn<=w'.drawn):Step w ef w' ef:={
 os:=h.os
 tape:=h.tape
 output:=h.output
 size:=h.size
 keep:=λb hb _=>h.block b hb
 row:=λb dA t fz hb=>⟨dA,t,fz,(h.block b (fH hb)).trans hb,rfl⟩
 less:=λ_ _ h=>h
 drew:=hd}
def RL (l:List Int):l_ (λj=>l.getD j 0) l.length=l:=by
 apply List.ext_getElem
 .simp[l_]
 .intro i h1 h2;simp[l_,List.getD,h2]
def ag0 (w w':World)(l:List Int)(v:Value):Prop:=(l=[]/\v= .slice none 0 0)\/l≠ []/\∃(B cap:Nat) (dA:Array Value) (t:TypeId),v= .slice (some ⟨B,0,none⟩) l.length cap/\w.heap.size<=B/\w'.heap[B]?=some (.cells dA t (0,0))/\l.length<=cap/\cap<=maxLen/\dA.size=cap/\
 ∀(k:Nat) (n:Int),(km l)[k]?=some n->dA[k]?=some (.int .i64 n)
def zP (C:Cx)(hP:C.P=prog)(l:List Int)(z:Bool)(hl:l.length<=1000000000000)(w:World)(X:Nat->Prop)(vs:Array Value)(hX:∀b,X b->b<w.heap.size)(gC:vs.size=1)(hv:∀(k:Nat) (x:AV),([.fn 210 [.rp [.ls 1 (l.map p8) z] 0]]:List AV)[k]?=some x->Ri w X (vs.getD k undef) x):
 Calls C.P 127 vs w (λe w'=>∃v,e= .returned v/\Step w ef w' ef/\ag0 w w' l v):=by
 rw[hP];have h0:=hv 0 _ rfl;have J0:vs= #[vs.getD 0 undef]:=by
  obtain⟨L⟩:=vs
  match L,gC with
  | [x],_=>rfl
 rw[J0];generalize vs.getD 0 undef=v0 at h0;cases h0 with
 |
  fn _ us _ hus hur=>
  have h1:=hur 0 _ rfl;have hu1:us= #[us.getD 0 undef]:=by
   obtain⟨L⟩:=us
   match L,hus with
   | [x],_=>rfl
  rw[hu1];generalize us.getD 0 undef=v1 at h1;cases h1 with
  |
   rp b o _ row us2 dA t fz hXb hb fo ng=>
   have od:=fo 0 _ rfl;have hr0:=ng 0 _ rfl;have NG:b<w.heap.size:=fH hb;have ZQ:w.cell? ⟨b,o+0,none⟩=some (us2 0):=by
    unfold World.cell?;simp only[hb];simpa using od.1
   generalize us2 0=u0 at hr0 ZQ;have key:∀(p:Option Addr) (bb off cap:Nat),u0= .slice p l.length cap->(0<l.length->bb<w.heap.size/\p=some ⟨bb,off,none⟩)->(∀j,j<l.length->w.cell? ⟨bb,off+j,none⟩=some (.int .i64 (l.getD j 0)))->
    Calls prog 127 #[.func (.func 210) #[] #[.pointer (some ⟨b,o+0,none⟩)]] w (λe w'=>∃v,e= .returned v/\Step w ef w' ef/\ag0 w w' l v):=by
    intro p bb off cap hu hp hcs;have jt:l.length<=maxLen:=Yn hl (by unfold maxLen;omega);have hS:=abl b (o+0) bb off l.length cap (λj=>l.getD j 0) jt (by omega) w p hp NG (by rw[ZQ,hu]) hcs;refine(JY hS (λw' ⟨v,he,_⟩=>by cases he)).mono ?_;rintro e w' ⟨⟨v,rfl,wP,p_,aki⟩,hd⟩;rw[RL]at wP p_;rw[Wv]at wP;refine⟨v,rfl,JZ aki hd,?_⟩;by_cases qg:l=[]
    .exact .inl ⟨qg,p_.2 qg⟩
    .rcases wP.2 with⟨_,hz⟩|⟨g,gp,cur',rfl,pO,hgb,r1,r2,r3,r4⟩
     .exact absurd (Zl hz) qg
     .have KS:(km l).length=l.length:=(lg l).length_eq;refine .inr ⟨qg,g,gp,cur',_,rfl,pO,hgb,by omega,r2,by omega,λk n hn=>?_⟩;have hk:k<l.length:=by rw[<-KS];exact(Za.1 hn).1
      have e2:(cur'.toList.take (l.length*1))[k]?=some (.int .i64 n):=by
       rw[r4,Zs];show Option.map encZ ((km l)[k]?)=_;rw[hn];rfl
      rw[Xr,dd (by omega)]at e2;simpa using e2
   generalize J1:l.map p8=cY at hr0;cases hr0 with
   |
    le a cap _ _ nh hz=>
    have:l=[]:=by cases l with|nil=>rfl|cons x l=>cases J1
    subst this;exact key a 0 0 cap rfl (λh=>by simp at h) (λj hj=>by simp at hj)
   |
    ls bb off len cap _ _ _ us3 cur3 t3 fz3 hX3 DD cU YT yf hz nC fq YM=>
    have nP:len=l.length:=by rw[<-cU,<-J1,Yk]
    subst nP;refine key _ bb off cap rfl (λ_=>⟨fH DD,rfl⟩) λj hj=>?_
    have fX:cY[j]?=some (p8 (l.getD j 0)):=by rw[<-J1,Zs];simp[List.getD,hj]
    have h1:=fq j _ 0 _ fX rfl;have h2:=YM j _ 0 _ fX rfl;have e:=(Rp.im (ρ:=id) (n:=0) h2).eF.1;rw[e]at h1;unfold World.cell?;simp only[DD];simpa using h1.1
def M6 (C:Cx)(hP:C.P=prog)(l:List Int)(z:Bool)(hl:l.length<=1000000000000):oY C 127 [.fn 210 [.rp [.ls 1 (l.map p8) z] 0]] (EM l):=by
 intro w X vs hX hG gC hv;refine⟨⟨_,by rw[hP];exact func127,of_decide_eq_true (by kernel_rfl),by kernel_rfl⟩,?_⟩;refine(zP C hP l z hl w X vs hX gC hv).mono ?_;rintro e w' ⟨v,rfl,dD,hN⟩;refine⟨v,rfl,dD,?_⟩;unfold EM;rcases hN with⟨h0,rfl⟩|⟨h0,g,cap,dA,t,rfl,pO,hgb,r1,r2,r3,r4⟩
 .rw[dd h0];exact .sc _ rfl
 .rw[db h0];have KS:(km l).length=l.length:=(lg l).length_eq;have Ww:∀(i:Nat) (row:List AV),((km l).map p8)[i]?=some row->∃n,(km l)[i]?=some n/\row=p8 n:=λi row fX=>by
   rw[Zs,Ze]at fX;obtain⟨n,h1,h2⟩:=fX;exact⟨n,h1,h2.symm⟩
  have h1:∀(n:Int) (j:Nat) (x:AV),(p8 n)[j]?=some x->j=0/\x= .sc (.int .i64 n):=λn j x hx=>by
   have hj:j=0:=by
    have:=(Za.1 hx).1;simp[p8]at this;exact this
   subst hj;simp only[p8,Yg,Zc]at hx;exact⟨rfl,hx.symm⟩
  refine .ls g 0 l.length cap 1 _ false (λi _=> .int .i64 ((km l).getD i 0)) dA _ _ (λhx=>absurd (hX g hx) (by omega)) hgb (by simp[KS]) r1 r2 (by simp) ?_ ?_ ?_
  .intro i row fX;obtain⟨n,_,rfl⟩:=Ww i row fX;rfl
  .intro i row j x fX hx;obtain⟨n,hn,rfl⟩:=Ww i row fX;obtain⟨rfl,_⟩:=h1 n j x hx;have e1:(km l).getD i 0=n:=by simp[List.getD,hn]
   refine⟨?_,rfl⟩;rw[e1];simpa using r4 i n hn
  .intro i row j x fX hx;obtain⟨n,hn,rfl⟩:=Ww i row fX;obtain⟨rfl,rfl⟩:=h1 n j x hx;have e1:(km l).getD i 0=n:=by simp[List.getD,hn]
   rw[e1];exact .sc _ rfl
def J2 (C:Cx)(hP:C.P=prog)(l:List Int)(z:Bool)(hl:l.length<=1000000000000)(cY:List (List AV))(z':Bool)(he:EM l= .ls 1 cY z')(w:World)(X:Nat->Prop)(vs:Array Value)(hX:∀b,X b->b<w.heap.size)(gC:vs.size=1)(hv:∀(k:Nat) (x:AV),([.fn 210 [.rp [.ls 1 (l.map p8) z] 0]]:List AV)[k]?=some x->Ri w X (vs.getD k undef) x):
 Calls C.P 127 vs w (λe w'=>Step w ef w' ef/\∃(B cap:Nat) (dA:Array Value) (t:TypeId),e= .returned (.slice (some ⟨B,0,none⟩) cY.length cap)/\w.heap.size<=B/\w'.heap[B]?=some (.cells dA t (0,0))/\cY.length<=cap/\cap<=maxLen/\dA.size=cap/\
  ∀(k:Nat) (v:Value),cY[k]?=some [.sc v]->dA[k]?=some v):=by
 refine(zP C hP l z hl w X vs hX gC hv).mono ?_;rintro e w' ⟨v,rfl,dD,hN⟩;unfold EM at he;rcases hN with⟨h0,rfl⟩|⟨h0,g,cap,dA,t,rfl,pO,hgb,r1,r2,r3,r4⟩
 .rw[dd h0]at he;cases he
 .rw[db h0]at he;injection he with _ he _
  subst he;have KS:(km l).length=l.length:=(lg l).length_eq;refine⟨dD,g,cap,dA,t,by rw[Yk,KS],pO,hgb,by rw[Yk,KS];exact r1,r2,r3,λk v hk=>?_⟩;rw[Zs,Ze]at hk;obtain⟨n,h1,h2⟩:=hk;simp only[p8,List.cons.injEq,AV.sc.injEq,and_true]at h2;rw[<-h2];exact r4 k n h1
def grow_step (w:World)(k:Nat)(os:Array Obj):Step w ef (grow (w.drewN k) os) ef:=by
 have hk:∀b,b<w.heap.size->(grow (w.drewN k) os).heap[b]?=w.heap[b]?:=λb hb=>by
  show(w.heap++os)[b]?=_;rw[Xx hb]
 exact{os:=rfl,tape:=rfl,output:=rfl,size:=by show w.heap.size<=(w.heap++os).size;simp,keep:=λb hb _=>hk b hb,row:=λb dA t fz hb=>⟨dA,t,fz,(hk b (fH hb)).trans hb,rfl⟩,less:=λ_ _ h=>h,drew:=by show w.drawn<=w.drawn+k;omega}
def abr (C:Cx)(hP:C.P=prog)(hGl:C.G 1=some sY)(n:Int)(h0: -9223372036854775808<=n)(h1:n<=9223372036854775807):
 oY C 242 [n] (.sc (.string ⟨(Lib.itoa n).toArray⟩)):=by
 intro w X vs hX hG gC hv;refine⟨⟨_,by rw[hP];exact func242,of_decide_eq_true (by kernel_rfl),by kernel_rfl⟩,?_⟩;rw[hP];have wG:=(Rp.im (ρ:=id) (n:=0) (hv 0 _ rfl)).eF.1;have J0:vs= #[.int .i64 n]:=by
  obtain⟨L⟩:=vs
  match L,gC with
  | [x],_=>simp at wG;rw[wG]
 rw[J0];obtain⟨_,dA,t,fz,g1,g2,g3⟩:=hG _ _ hGl;have lr:dA=sY.toArray:=by
  apply Array.ext_getElem?;intro k;by_cases hk:k<sY.length
  .obtain⟨u,u1,_,u3⟩:=g3 k _ (Zb hk);have e:u=sY[k]:=by
    have hm:sY[k]∈sY:=Xd hk;obtain⟨z,_,hz⟩:=Yi.1 (show sY[k]∈Lib.pow10Tab.map λz=>Value.int .u64 z from hm);rw[<-hz]at u3|-;exact u3.1
   rw[u1,e];simp[hk]
  .rw[Array.getElem?_eq_none (by omega),Array.getElem?_eq_none (by simpa using hk)]
 have hnm:prog.globalNamed "internal/strconv.uint64pow10" =some 1:=by kernel_rfl
 have Ar:Lib.TabIs prog w "internal/strconv.uint64pow10" .u64 Lib.pow10Tab:=by
  unfold Lib.TabIs World.var?;rw[hnm,Option.bind_some,g1,lr];rfl
 have hI:Calls prog 242 #[.int .i64 n] w λe w'=>e= .returned (.string ⟨(Lib.itoa n).toArray⟩)/\∃k os,w'=grow (w.drewN k) os:=Any.strconv_Itoa Tryz.Wp n h0 h1 w Ar
 refine hI.mono ?_;rintro e w' ⟨rfl,k,os,rfl⟩;exact⟨_,rfl,grow_step w k os,.sc _ rfl⟩
end Go.Proofs
namespace Go.Ae
open Go
def oP (dA:Array Value)(o:Nat)(vs:List Value):Array Value:=(dA.toList.take o++vs++dA.toList.drop (o+vs.length)).toArray
def nJ {dA:Array Value}{o:Nat}{vs:List Value}(h:o+vs.length<=dA.size):(oP dA o vs).size=dA.size:=by simp[oP];omega
def uE {dA:Array Value}{o:Nat}{vs:List Value}(h:o+vs.length<=dA.size)(k:Nat):(oP dA o vs)[k]?=if o<=k/\k<o+vs.length then vs[k-o]? else dA[k]?:=by
 unfold oP;rw[List.getElem?_toArray];by_cases h1:k<o
 .rw[Zp,Zd (by simp;omega),Xr,dd h1,db (by omega)];simp
 .by_cases h2:k<o+vs.length
  .rw[Zp,Zf (by simp;omega),Zd (by simp;omega),dd ⟨by omega,h2⟩]
   congr 1
   simp;omega
  .rw[Zf (by simp;omega),Xg,db (by omega)];rw[Array.getElem?_toList]
   congr 1
   simp;omega
def sZ {P:Program}(W:World)(t ty e:TypeId)(ei:TypeInfo)(ht:P.underlying t=some (.slice e))(hi:P.info? e=some ei)(b off len dc sb so n sc:Nat)(dX:List Value)(hl:dX.length=min n len*ei.size)
 (aes:∀(j:Nat) (u:Value),dX[j]?=some u->W.cell? ⟨sb,so+j,none⟩=some u) (dA:Array Value) (t0:TypeId) (fz:Nat × Nat) (hb:W.heap[b]?=some (.cells dA t0 fz)) (hf:Fz fz dA) (uk:off+dX.length<=dA.size) (h1:∀u∈dX,u.oneCell'=true):
 (Builtin.copy_ #[t,t] ty #[.slice (some ⟨b,off,none⟩) len dc,.slice (some ⟨sb,so,none⟩) n sc]).run P W= .ok (.int .i64 (min n len:Nat)) (W.setRow b (oP dA off dX)):=by
 have dD:=jv P b off t0 fz dX 0 dA W hb (.inl hf.eq) (by omega) h1;have Ee:(Builtin.firstCells ei.size (min n len) (.slice (some ⟨sb,so,none⟩) n sc)).run P W= .ok dX.toArray W:=
  run_firstCells_some (P:=P) W ei.size (min n len) ⟨sb,so,none⟩ n sc dX hl (λj u hj=>by rw[add_lit];exact aes j u hj)
 have Q1:Nat.min n len=min n len:=rfl;simp only[Nat.add_zero]at dD;simp[Builtin.copy_,run_underlying ht,Builtin.lenOf,sizeOf,typeInfo,hi,Q1,Ee,dD,goInt,oP]
def aet (w:World)(base:Option Addr)(n cap i sz:Nat)(olds vs:List Value)(e:Ending)(w':World):Prop:=
 ∃(B gp:Nat) (cur':Array Value) (t':TypeId) (x8:Nat × Nat),
  e= .returned (.slice (some ⟨B,0,none⟩) (n+1) gp)/\w'.heap[B]?=some (.cells cur' t' x8)/\Fz x8 cur'/\gp*sz=cur'.size/\n+1<=gp/\gp<=maxLen/\
  (∀(k:Nat) (u:Value),(olds.take (i*sz)++vs++olds.drop (i*sz))[k]?=some u->cur'[k]?=some u)/\
  ((
   w.heap.size<=B/\x8=(0,0)/\Step w ef w' ef)\/(base=some ⟨B,0,none⟩/\0<cap/\w'.os=w.os/\w'.tape=w.tape/\w'.output=w.output/\w'.heap.size=w.heap.size/\w.drawn<=w'.drawn/\(∀b,b≠B->w'.heap[b]?=w.heap[b]?)/\
   ∀(dA:Array Value) (t:TypeId) (fz:Nat × Nat),w.heap[B]?=some (.cells dA t fz)->cur'.size=dA.size))
def qJ {olds vs:List Value}{p k:Nat}(hp:p<=olds.length):(olds.take p++vs++olds.drop p)[k]?=if k<p then olds[k]? else if k<p+vs.length then vs[k-p]? else olds[k-vs.length]?:=by
 by_cases h1:k<p
 .rw[Zp,Zd (by simp;omega),Xr,dd h1,dd h1]
 .by_cases h2:k<p+vs.length
  .rw[Zp,Zf (by simp;omega),Zd (by simp;omega),db h1,dd h2]
   congr 1
   simp;omega
  .rw[Zf (by simp;omega),Xg,db h1,db h2]
   congr 1
   simp;omega
def O9 {w w':World}{b n cap i sz:Nat}{olds vs:List Value}{dA cur':Array Value}{t:TypeId}{fz:Nat × Nat}(hb:w.heap[b]?=some (.cells dA t fz))(hf:Fz fz dA)(nh:cap*sz=dA.size)(hn:n+1<=cap)(hc:cap<=maxLen)
 (hw:w'.heap[b]?=some (.cells cur' t fz)) (hs:cur'.size=dA.size) (h1:w'.os=w.os) (h2:w'.tape=w.tape) (h3:w'.output=w.output) (h4:w'.heap.size=w.heap.size) (h6:w.drawn<=w'.drawn) (h5:∀k,k≠b->w'.heap[k]?=w.heap[k]?)
 (hg:∀(k:Nat) (u:Value),(olds.take (i*sz)++vs++olds.drop (i*sz))[k]?=some u->cur'[k]?=some u):aet w (some ⟨b,0,none⟩) n cap i sz olds vs (.returned (.slice (some ⟨b,0,none⟩) (n+1) cap)) w':=
 ⟨b,cap,cur',t,fz,rfl,hw,hf.imp (λq=>q) (λq=>by rw[hs];exact q),by omega,hn,hc,hg,.inr ⟨rfl,by omega,h1,h2,h3,h4,h6,h5,λc tt ff hh=>by rw[hb]at hh;cases hh;exact hs⟩⟩
def J3 {w w':World}{base:Option Addr}{n cap gp i sz:Nat}{olds vs:List Value}{cur':Array Value}{t:TypeId}(nh:gp*sz=cur'.size)(hn:n+1<=gp)(hc:gp<=maxLen)
 (hw:w'.heap[w.heap.size]?=some (.cells cur' t (0,0))) (h1:w'.os=w.os) (h2:w'.tape=w.tape) (h3:w'.output=w.output) (h4:w.heap.size<=w'.heap.size) (h6:w.drawn<=w'.drawn) (h5:∀k,k<w.heap.size->w'.heap[k]?=w.heap[k]?)
 (hg:∀(k:Nat) (u:Value),(olds.take (i*sz)++vs++olds.drop (i*sz))[k]?=some u->cur'[k]?=some u):aet w base n cap i sz olds vs (.returned (.slice (some ⟨w.heap.size,0,none⟩) (n+1) gp)) w':=
 ⟨w.heap.size,gp,cur',t,(0,0),rfl,hw,.inl rfl,nh,hn,hc,hg,.inl ⟨Yt _,rfl,⟨h1,h2,h3,h4,λb hb _=>h5 b hb,λb c tt ff hb=>⟨c,tt,ff,(h5 b (fH hb)).trans hb,rfl⟩,λ_ _ h=>h,h6⟩⟩⟩
def Wx {olds vs:List Value}{dA:Array Value}{p:Nat}(hp:p=olds.length)(uk:p+vs.length<=dA.size)(ho:∀(k:Nat) (u:Value),olds[k]?=some u->dA[k]?=some u)(k:Nat)(u:Value)(h:(olds.take p++vs++olds.drop p)[k]?=some u):(oP dA p vs)[k]?=some u:=by
 rw[qJ (by omega)]at h;rw[uE uk];split at h
 .rename_i h1;rw[db (by omega)];exact ho k u h
 .split at h
  .rename_i h1 h2;rw[dd ⟨by omega,h2⟩];exact h
  .rename_i h1 h2;rw[Xt (by omega)]at h;cases h
def M7 {olds vs:List Value}{dA:Array Value}{p s:Nat}(hp:p<=olds.length)(hs:s=p+vs.length)(uk:olds.length+vs.length<=dA.size)(ho:∀(k:Nat) (u:Value),olds[k]?=some u->dA[k]?=some u)(k:Nat)(u:Value)(h:(olds.take p++vs++olds.drop p)[k]?=some u):
 (oP (oP dA s (olds.drop p)) p vs)[k]?=some u:=by
 subst hs;have hd:(olds.drop p).length=olds.length-p:=by simp
 rw[qJ hp]at h;rw[uE (by rw[nJ (by omega)];omega),uE (by omega)];split at h
 .rename_i h1;rw[db (by omega),db (by omega)];exact ho k u h
 .split at h
  .rename_i h1 h2;rw[dd ⟨by omega,h2⟩];exact h
  .rename_i h1 h2;have hk:k-vs.length<olds.length:=(Za.1 h).1;rw[db (by omega),dd ⟨by omega,by omega⟩,Xg,<-h]
   congr 1
   omega
def RN {olds vs:List Value}{dA:Array Value}{p s:Nat}(hp:p<=olds.length)(hs:s=p+vs.length)(uk:olds.length+vs.length<=dA.size)(ho:∀(k:Nat) (u:Value),k<p->olds[k]?=some u->dA[k]?=some u)(k:Nat)(u:Value)(h:(olds.take p++vs++olds.drop p)[k]?=some u):
 (oP (oP dA p vs) s (olds.drop p))[k]?=some u:=by
 subst hs;have hd:(olds.drop p).length=olds.length-p:=by simp
 rw[qJ hp]at h;rw[uE (by rw[nJ (by omega)];omega),uE (by omega)];split at h
 .rename_i h1;rw[db (by omega),db (by omega)];exact ho k u h1 h
 .split at h
  .rename_i h1 h2;rw[db (by omega),dd ⟨by omega,h2⟩];exact h
  .rename_i h1 h2;have hk:k-vs.length<olds.length:=(Za.1 h).1;rw[dd ⟨by omega,by omega⟩,Xg,<-h]
   congr 1
   omega
def CO {P:Program}(w:World){o:Oper}{a:Act}{K:Act->World->Prop}{Q:Exit->Act->World->Prop}(d s:Operand)(t t':TypeId)(ho:o.op= .call {callee:= .builtin .copy,args:= #[d,s],argTypes:= #[t,t']})(v u:Value)(hd:a.eval d=v)(hs:a.eval s=u){v':Value}{w':World}
 (hr:(Builtin.copy_ #[t,t'] o.type #[v,u]).run P w= .ok v' w') (h:K (a.put o.dst v') w'):o.wp P a w K Q:=by
 unfold Oper.wp execOp;simp only[ho,resolve,invoke,builtin,Sem.run_bind,Sem.run_pure,Result.andThen_ok,List.map_toArray,Xi,List.map_nil,hd,hs,hr];exact h
def iu {P:Program}(w:World){ops:Array Oper}{rest:List Oper}{o:Oper}{a:Act}{Q:Exit->Act->World->Prop}(hgd:o.guard=none)(d s:Operand)(t t':TypeId)(ho:o.op= .call {callee:= .builtin .copy,args:= #[d,s],argTypes:= #[t,t']})(v u:Value)(hd:a.eval d=v)(hs:a.eval s=u){v':Value}{w':World}
 (hr:(Builtin.copy_ #[t,t'] o.type #[v,u]).run P w= .ok v' w') (h:wpList P ops Q rest (a.put o.dst v') w'):wpList P ops Q (o::rest) a w:=
 wpList_plain hgd λ_ hK=>CO w d s t t' ho v u hd hs hr (hK _ _ h)
def jx {P:Program}{ops:Array Oper}{o:Oper}{a:Act}{w:World}{K:Act->World->Prop}{Q:Exit->Act->World->Prop}{E:Prop}(hg:o.guard=none)(d x:Operand)(dT sT:TypeId)(eD:o.op=Op.call {callee:=Callee.builtin Builtin.copy,args:= #[d,x],argTypes:= #[dT,sT]})
 (v u:Value) (hd:a.eval d=v) (hx:a.eval x=u) {v':Value} {w':World} (hr:(Builtin.copy_ #[dT,sT] o.type #[v,u]).run P w= .ok v' w') (hK:K (a.put o.dst v') w'):if Region.wanted o (yielded ops a.tmps)=true then Oper.wp P o a w K Q else E:=by
 rw[dd (show Region.wanted o (yielded ops a.tmps)=true by simp[Region.wanted,hg])];exact CO w d x dT sT eD v u hd hx hr hK
end Go.Ae
namespace Go.Proofs.YtaibpnppeiigdaaGreatDoor
open Go Go.Ae Go.Proofs.Tryz
def RO (base:Option Addr)(c:Nat)(w:World):Calls prog 102 #[.slice base 0 c] w λe w'=>∃a,e= .returned (.slice a 0 0)/\Step w ef w' ef:=by
 obtain⟨e,ei,ht,hi,_⟩:∃e ei,prog.underlying 28=some (.slice e)/\prog.info? e=some ei/\True:=by
  obtain⟨i,hi⟩:∃i,f_ prog 28=some i/\(match i.kd with| .slice .. =>true|_=>false)=true:=by
   cases h:f_ prog 28 with
   |none=>exact absurd h (by
    have:(f_ prog 28).isSome=true:=by kernel_rfl
    intro h';rw[h']at this;cases this)
   |
    some i=>
    refine⟨i,rfl,?_⟩;have:(match f_ prog 28 with|some i=>(match i.kd with| .slice .. =>true|_=>false)|none=>false)=true:=by kernel_rfl
    rw[h]at this;exact this
  obtain⟨hi,hk⟩:=hi;obtain⟨d,info,z,h1,h2,h3,h4,h5,h6,h7,h8,h9⟩:=eP hi;split at hk
  .rename_i s ag b ez M8;rw[M8]at h4;obtain⟨e,ei,ed,z',rfl,k1,k2,k3,k4,k5,k6,k7,k8,k9,qQ⟩:=fV h4;exact⟨e,ei,h1,k1,trivial⟩
  .cases hk
 have q22:∀(w:World) (a:Option Addr) (n c n' c':Nat),(binOp .eql 28 (.slice a n c) (.slice none n' c')).run prog w= .ok (.bool a.isNone) w:=λw a n c n' c'=>Lib.run_eql_slice_nil w _ _ a n c n' c' ht
 have u1:=run_underlying ht;have xw:∀w,(Go.sizeOf e).run prog w= .ok ei.size w:=λw=>fu hi w
 go_enter func102,ntmps102
 cases base with
 |
  none=>
  go_wp2
  go_ret
  exact⟨_,rfl,Step.refl _ _⟩
 |
  some a=>
  go_wp2_with (at_builtin;refine Lib.wpList_append_run _ rfl _ _ _ _ rfl _ _ rfl rfl _ _ (jy ht hi _ _ 0 0 c (Yt _) _) ?_)
  all_goals
   go_ret
   exact⟨_,rfl,iV _ _⟩
def abt (base:Option Addr)(c:Nat)(w:World):Calls prog 103 #[.slice base 0 c] w λe w'=>∃a,e= .returned (.slice a 0 0)/\Step w ef w' ef:=by
 obtain⟨e,ei,ht,hi,_⟩:∃e ei,prog.underlying 89=some (.slice e)/\prog.info? e=some ei/\True:=by
  obtain⟨i,hi⟩:∃i,f_ prog 89=some i/\(match i.kd with| .slice .. =>true|_=>false)=true:=by
   cases h:f_ prog 89 with
   |none=>exact absurd h (by
    have:(f_ prog 89).isSome=true:=by kernel_rfl
    intro h';rw[h']at this;cases this)
   |
    some i=>
    refine⟨i,rfl,?_⟩;have:(match f_ prog 89 with|some i=>(match i.kd with| .slice .. =>true|_=>false)|none=>false)=true:=by kernel_rfl
    rw[h]at this;exact this
  obtain⟨hi,hk⟩:=hi;obtain⟨d,info,z,h1,h2,h3,h4,h5,h6,h7,h8,h9⟩:=eP hi;split at hk
  .rename_i s ag b ez M8;rw[M8]at h4;obtain⟨e,ei,ed,z',rfl,k1,k2,k3,k4,k5,k6,k7,k8,k9,qQ⟩:=fV h4;exact⟨e,ei,h1,k1,trivial⟩
  .cases hk
 have q22:∀(w:World) (a:Option Addr) (n c n' c':Nat),(binOp .eql 89 (.slice a n c) (.slice none n' c')).run prog w= .ok (.bool a.isNone) w:=λw a n c n' c'=>Lib.run_eql_slice_nil w _ _ a n c n' c' ht
 have u1:=run_underlying ht;have xw:∀w,(Go.sizeOf e).run prog w= .ok ei.size w:=λw=>fu hi w
 go_enter func103,ntmps103
 cases base with
 |
  none=>
  go_wp2
  go_ret
  exact⟨_,rfl,Step.refl _ _⟩
 |
  some a=>
  go_wp2_with (at_builtin;refine Lib.wpList_append_run _ rfl _ _ _ _ rfl _ _ rfl rfl _ _ (jy ht hi _ _ 0 0 c (Yt _) _) ?_)
  all_goals
   go_ret
   exact⟨_,rfl,iV _ _⟩
def abu (base:Option Addr)(c:Nat)(w:World):Calls prog 101 #[.slice base 0 c] w λe w'=>∃a,e= .returned (.slice a 0 0)/\Step w ef w' ef:=by
 obtain⟨e,ei,ht,hi,_⟩:∃e ei,prog.underlying 22=some (.slice e)/\prog.info? e=some ei/\True:=by
  obtain⟨i,hi⟩:∃i,f_ prog 22=some i/\(match i.kd with| .slice .. =>true|_=>false)=true:=by
   cases h:f_ prog 22 with
   |none=>exact absurd h (by
    have:(f_ prog 22).isSome=true:=by kernel_rfl
    intro h';rw[h']at this;cases this)
   |
    some i=>
    refine⟨i,rfl,?_⟩;have:(match f_ prog 22 with|some i=>(match i.kd with| .slice .. =>true|_=>false)|none=>false)=true:=by kernel_rfl
    rw[h]at this;exact this
  obtain⟨hi,hk⟩:=hi;obtain⟨d,info,z,h1,h2,h3,h4,h5,h6,h7,h8,h9⟩:=eP hi;split at hk
  .rename_i s ag b ez M8;rw[M8]at h4;obtain⟨e,ei,ed,z',rfl,k1,k2,k3,k4,k5,k6,k7,k8,k9,qQ⟩:=fV h4;exact⟨e,ei,h1,k1,trivial⟩
  .cases hk
 have q22:∀(w:World) (a:Option Addr) (n c n' c':Nat),(binOp .eql 22 (.slice a n c) (.slice none n' c')).run prog w= .ok (.bool a.isNone) w:=λw a n c n' c'=>Lib.run_eql_slice_nil w _ _ a n c n' c' ht
 have u1:=run_underlying ht;have xw:∀w,(Go.sizeOf e).run prog w= .ok ei.size w:=λw=>fu hi w
 go_enter func101,ntmps101
 cases base with
 |
  none=>
  go_wp2
  go_ret
  exact⟨_,rfl,Step.refl _ _⟩
 |
  some a=>
  go_wp2_with (at_builtin;refine Lib.wpList_append_run _ rfl _ _ _ _ rfl _ _ rfl rfl _ _ (jy ht hi _ _ 0 0 c (Yt _) _) ?_)
  all_goals
   go_ret
   exact⟨_,rfl,iV _ _⟩
def abv (base:Option Addr)(c:Nat)(w:World):Calls prog 104 #[.slice base 0 c] w λe w'=>∃a,e= .returned (.slice a 0 0)/\Step w ef w' ef:=by
 obtain⟨e,ei,ht,hi,_⟩:∃e ei,prog.underlying 23=some (.slice e)/\prog.info? e=some ei/\True:=by
  obtain⟨i,hi⟩:∃i,f_ prog 23=some i/\(match i.kd with| .slice .. =>true|_=>false)=true:=by
   cases h:f_ prog 23 with
   |none=>exact absurd h (by
    have:(f_ prog 23).isSome=true:=by kernel_rfl
    intro h';rw[h']at this;cases this)
   |
    some i=>
    refine⟨i,rfl,?_⟩;have:(match f_ prog 23 with|some i=>(match i.kd with| .slice .. =>true|_=>false)|none=>false)=true:=by kernel_rfl
    rw[h]at this;exact this
  obtain⟨hi,hk⟩:=hi;obtain⟨d,info,z,h1,h2,h3,h4,h5,h6,h7,h8,h9⟩:=eP hi;split at hk
  .rename_i s ag b ez M8;rw[M8]at h4;obtain⟨e,ei,ed,z',rfl,k1,k2,k3,k4,k5,k6,k7,k8,k9,qQ⟩:=fV h4;exact⟨e,ei,h1,k1,trivial⟩
  .cases hk
 have q22:∀(w:World) (a:Option Addr) (n c n' c':Nat),(binOp .eql 23 (.slice a n c) (.slice none n' c')).run prog w= .ok (.bool a.isNone) w:=λw a n c n' c'=>Lib.run_eql_slice_nil w _ _ a n c n' c' ht
 have u1:=run_underlying ht;have xw:∀w,(Go.sizeOf e).run prog w= .ok ei.size w:=λw=>fu hi w
 go_enter func104,ntmps104
 cases base with
 |
  none=>
  go_wp2
  go_ret
  exact⟨_,rfl,Step.refl _ _⟩
 |
  some a=>
  go_wp2_with (at_builtin;refine Lib.wpList_append_run _ rfl _ _ _ _ rfl _ _ rfl rfl _ _ (jy ht hi _ _ 0 0 c (Yt _) _) ?_)
  all_goals
   go_ret
   exact⟨_,rfl,iV _ _⟩
def Wy (base:Option Addr)(c:Nat)(w:World):Calls prog 253 #[.slice base 0 c] w λe w'=>∃a,e= .returned (.slice a 0 0)/\Step w ef w' ef:=by
 obtain⟨e,ei,ht,hi,_⟩:∃e ei,prog.underlying 29=some (.slice e)/\prog.info? e=some ei/\True:=by
  obtain⟨i,hi⟩:∃i,f_ prog 29=some i/\(match i.kd with| .slice .. =>true|_=>false)=true:=by
   cases h:f_ prog 29 with
   |none=>exact absurd h (by
    have:(f_ prog 29).isSome=true:=by kernel_rfl
    intro h';rw[h']at this;cases this)
   |
    some i=>
    refine⟨i,rfl,?_⟩;have:(match f_ prog 29 with|some i=>(match i.kd with| .slice .. =>true|_=>false)|none=>false)=true:=by kernel_rfl
    rw[h]at this;exact this
  obtain⟨hi,hk⟩:=hi;obtain⟨d,info,z,h1,h2,h3,h4,h5,h6,h7,h8,h9⟩:=eP hi;split at hk
  .rename_i s ag b ez M8;rw[M8]at h4;obtain⟨e,ei,ed,z',rfl,k1,k2,k3,k4,k5,k6,k7,k8,k9,qQ⟩:=fV h4;exact⟨e,ei,h1,k1,trivial⟩
  .cases hk
 have q22:∀(w:World) (a:Option Addr) (n c n' c':Nat),(binOp .eql 29 (.slice a n c) (.slice none n' c')).run prog w= .ok (.bool a.isNone) w:=λw a n c n' c'=>Lib.run_eql_slice_nil w _ _ a n c n' c' ht
 have u1:=run_underlying ht;have xw:∀w,(Go.sizeOf e).run prog w= .ok ei.size w:=λw=>fu hi w
 go_enter func253,ntmps253
 cases base with
 |
  none=>
  go_wp2
  go_ret
  exact⟨_,rfl,Step.refl _ _⟩
 |
  some a=>
  go_wp2_with (at_builtin;refine Lib.wpList_append_run _ rfl _ _ _ _ rfl _ _ rfl rfl _ _ (jy ht hi _ _ 0 0 c (Yt _) _) ?_)
  all_goals
   go_ret
   exact⟨_,rfl,iV _ _⟩
def RP (base:Option Addr)(c:Nat)(w:World):Calls prog 179 #[.slice base 0 c] w λe w'=>∃a,e= .returned (.slice a 0 0)/\Step w ef w' ef:=by
 obtain⟨e,ei,ht,hi,_⟩:∃e ei,prog.underlying 40=some (.slice e)/\prog.info? e=some ei/\True:=by
  obtain⟨i,hi⟩:∃i,f_ prog 40=some i/\(match i.kd with| .slice .. =>true|_=>false)=true:=by
   cases h:f_ prog 40 with
   |none=>exact absurd h (by
    have:(f_ prog 40).isSome=true:=by kernel_rfl
    intro h';rw[h']at this;cases this)
   |
    some i=>
    refine⟨i,rfl,?_⟩;have:(match f_ prog 40 with|some i=>(match i.kd with| .slice .. =>true|_=>false)|none=>false)=true:=by kernel_rfl
    rw[h]at this;exact this
  obtain⟨hi,hk⟩:=hi;obtain⟨d,info,z,h1,h2,h3,h4,h5,h6,h7,h8,h9⟩:=eP hi;split at hk
  .rename_i s ag b ez M8;rw[M8]at h4;obtain⟨e,ei,ed,z',rfl,k1,k2,k3,k4,k5,k6,k7,k8,k9,qQ⟩:=fV h4;exact⟨e,ei,h1,k1,trivial⟩
  .cases hk
 have q22:∀(w:World) (a:Option Addr) (n c n' c':Nat),(binOp .eql 40 (.slice a n c) (.slice none n' c')).run prog w= .ok (.bool a.isNone) w:=λw a n c n' c'=>Lib.run_eql_slice_nil w _ _ a n c n' c' ht
 have u1:=run_underlying ht;have xw:∀w,(Go.sizeOf e).run prog w= .ok ei.size w:=λw=>fu hi w
 go_enter func179,ntmps179
 cases base with
 |
  none=>
  go_wp2
  go_ret
  exact⟨_,rfl,Step.refl _ _⟩
 |
  some a=>
  go_wp2_with (at_builtin;refine Lib.wpList_append_run _ rfl _ _ _ _ rfl _ _ rfl rfl _ _ (jy ht hi _ _ 0 0 c (Yt _) _) ?_)
  all_goals
   go_ret
   exact⟨_,rfl,iV _ _⟩
def aeu (base:Option Addr)(c:Nat)(w:World):Calls prog 139 #[.slice base 0 c] w λe w'=>∃a,e= .returned (.slice a 0 0)/\Step w ef w' ef:=by
 obtain⟨e,ei,ht,hi,_⟩:∃e ei,prog.underlying 27=some (.slice e)/\prog.info? e=some ei/\True:=by
  obtain⟨i,hi⟩:∃i,f_ prog 27=some i/\(match i.kd with| .slice .. =>true|_=>false)=true:=by
   cases h:f_ prog 27 with
   |none=>exact absurd h (by
    have:(f_ prog 27).isSome=true:=by kernel_rfl
    intro h';rw[h']at this;cases this)
   |
    some i=>
    refine⟨i,rfl,?_⟩;have:(match f_ prog 27 with|some i=>(match i.kd with| .slice .. =>true|_=>false)|none=>false)=true:=by kernel_rfl
    rw[h]at this;exact this
  obtain⟨hi,hk⟩:=hi;obtain⟨d,info,z,h1,h2,h3,h4,h5,h6,h7,h8,h9⟩:=eP hi;split at hk
  .rename_i s ag b ez M8;rw[M8]at h4;obtain⟨e,ei,ed,z',rfl,k1,k2,k3,k4,k5,k6,k7,k8,k9,qQ⟩:=fV h4;exact⟨e,ei,h1,k1,trivial⟩
  .cases hk
 have q22:∀(w:World) (a:Option Addr) (n c n' c':Nat),(binOp .eql 27 (.slice a n c) (.slice none n' c')).run prog w= .ok (.bool a.isNone) w:=λw a n c n' c'=>Lib.run_eql_slice_nil w _ _ a n c n' c' ht
 have u1:=run_underlying ht;have xw:∀w,(Go.sizeOf e).run prog w= .ok ei.size w:=λw=>fu hi w
 go_enter func139,ntmps139
 cases base with
 |
  none=>
  go_wp2
  go_ret
  exact⟨_,rfl,Step.refl _ _⟩
 |
  some a=>
  go_wp2_with (at_builtin;refine Lib.wpList_append_run _ rfl _ _ _ _ rfl _ _ rfl rfl _ _ (jy ht hi _ _ 0 0 c (Yt _) _) ?_)
  all_goals
   go_ret
   exact⟨_,rfl,iV _ _⟩
def aev (f:FuncId)(sz:Nat)(hf:Wz f=some sz)(z:Bool):oY cx f [.ls sz [] z] (.ls sz [] true):=by
 intro w X vs hX hG hl hv;obtain⟨b,cap,J0⟩:∃b cap,vs= #[.slice b 0 cap]:=by
  have gC:vs.size=1:=hl;have h0:∃b cap,vs.getD 0 undef= .slice b 0 cap:=by
   rcases(hv 0 _ rfl).iM with⟨_,b,cap,hq,_⟩|⟨b,o',cap,us,dA,t0,fz,hq,_⟩
   .exact⟨_,_,hq⟩
   .exact⟨_,_,hq⟩
  obtain⟨b,cap,h0⟩:=h0;refine⟨b,cap,?_⟩;apply Array.ext
  .simpa using gC
  .intro i h1 h2;have hi:i=0:=by omega
   subst hi;simpa[h1,Zr]using h0
 subst J0;have fin:∀{f:FuncId},Calls prog f #[.slice b 0 cap] w (λe w'=>∃a,e= .returned (.slice a 0 0)/\Step w ef w' ef)->Calls cx.P f #[.slice b 0 cap] w (λe w'=>∃v,e= .returned v/\Step w ef w' ef/\Ri w' X v (.ls sz [] true)):=
  λh=>h.mono λe w' ⟨a,he,dD⟩=>⟨_,he,dD,.le _ _ _ _ (by simp[maxLen]) (λ_=>rfl)⟩
 unfold Wz at hf;split at hf
 .rename_i e;subst e;exact⟨⟨_,func102,of_decide_eq_true (by kernel_rfl),by kernel_rfl⟩,fin (RO b cap w)⟩
 split at hf
 .rename_i e;subst e;exact⟨⟨_,func103,of_decide_eq_true (by kernel_rfl),by kernel_rfl⟩,fin (abt b cap w)⟩
 split at hf
 .rename_i e;subst e;exact⟨⟨_,func101,of_decide_eq_true (by kernel_rfl),by kernel_rfl⟩,fin (abu b cap w)⟩
 split at hf
 .rename_i e;subst e;exact⟨⟨_,func104,of_decide_eq_true (by kernel_rfl),by kernel_rfl⟩,fin (abv b cap w)⟩
 split at hf
 .rename_i e;subst e;exact⟨⟨_,func253,of_decide_eq_true (by kernel_rfl),by kernel_rfl⟩,fin (Wy b cap w)⟩
 split at hf
 .rename_i e;subst e;exact⟨⟨_,func179,of_decide_eq_true (by kernel_rfl),by kernel_rfl⟩,fin (RP b cap w)⟩
 split at hf
 .rename_i e;subst e;exact⟨⟨_,func139,of_decide_eq_true (by kernel_rfl),by kernel_rfl⟩,fin (aeu b cap w)⟩
 cases hf
end Go.Proofs.YtaibpnppeiigdaaGreatDoor
namespace Go.Ae
open Go
def WE (P:Program)(F:FuncId)(T:TypeId):Prop:=∀(w:World) (base:Option Addr) (n cap vb vc:Nat) (r:Value) (W:World) (Q:Ending->World->Prop),n<=cap->cap<=9223372036854775807->n+1<=1000000000000000->
 (∀ty,(Builtin.append_ #[T,T] ty #[.slice base n cap,.slice (some ⟨vb,0,none⟩) 1 vc]).run P w= .ok r W)->Q (.returned r) W->Calls P F #[.slice base n cap,.int .i64 n,.slice (some ⟨vb,0,none⟩) 1 vc] w Q
def WS (P:Program)(F O:FuncId)(T:TypeId)(s:Nat):Prop:=∀(e:TypeId) (ei:TypeInfo) (w W:World) (b n cap i vb vc:Nat) (C:Array Value) (Q:Ending->World->Prop),P.underlying T=some (.slice e)->P.info? e=some ei->ei.size=s->(∀w,(Go.sizeOf e).run P w= .ok s w)->i<n->n+1<=cap->cap<=9223372036854775807->n+1<=1000000000000000->
 (∀lb cb,(callFunc O #[.slice (some ⟨vb,0,none⟩) 1 vc,.slice (some ⟨b,(i+1)*s,none⟩) lb cb]).run P w= .ok (.value (.bool false)) w)->
 (∀ty dc sc,(Builtin.copy_ #[T,T] ty #[.slice (some ⟨b,(i+1)*s,none⟩) (n-i) dc,.slice (some ⟨b,i*s,none⟩) (n+1-i) sc]).run P w.drew= .ok (.int .i64 (min (n+1-i) (n-i):Nat)) W)->
 (∀(W':World),W'.heap=W.heap->∀ty dc,(Builtin.copy_ #[T,T] ty #[.slice (some ⟨b,i*s,none⟩) (n+1-i) dc,.slice (some ⟨vb,0,none⟩) 1 vc]).run P W'= .ok (.int .i64 (min 1 (n+1-i):Nat)) (W'.setRow b C))->
 Q (.returned (.slice (some ⟨b,0,none⟩) (n+1) cap)) (W.setRow b C)->Calls P F #[.slice (some ⟨b,0,none⟩) n cap,.int .i64 i,.slice (some ⟨vb,0,none⟩) 1 vc] w Q
def WG (P:Program)(F:FuncId)(T I:TypeId)(s:Nat):Prop:=∀(e:TypeId) (ei:TypeInfo) (w W:World) (b B cap i vb vc G:Nat) (R S:Array Value) (Q:Ending->World->Prop),P.underlying T=some (.slice e)->P.info? e=some ei->ei.size=s->(∀w,(Go.sizeOf e).run P w= .ok s w)->i<cap->cap<=9223372036854775807->cap+1<=1000000000000000->cap+1<=G->G<=9223372036854775807->
 (∀ty,(Builtin.append_ #[T,I] ty #[.slice (some ⟨b,0,none⟩) i cap,.int .i64 ((cap:Int)+1-(i:Int))]).run P w= .ok (.slice (some ⟨B,0,none⟩) (cap+1) G) W)->
 (∀(W':World),W'.heap=W.heap->∀ty dc,(Builtin.copy_ #[T,T] ty #[.slice (some ⟨B,i*s,none⟩) (cap+1-i) dc,.slice (some ⟨vb,0,none⟩) 1 vc]).run P W'= .ok (.int .i64 (min 1 (cap+1-i):Nat)) (W'.setRow B R))->
 (∀(W':World),W'.heap=(W.setRow B R).heap->∀ty dc sc,(Builtin.copy_ #[T,T] ty #[.slice (some ⟨B,(i+1)*s,none⟩) (cap-i) dc,.slice (some ⟨b,i*s,none⟩) (cap-i) sc]).run P W'= .ok (.int .i64 (min (cap-i) (cap-i):Nat)) (W'.setRow B S))->
 (∀W':World,W'.os=W.os->W'.tape=W.tape->W'.output=W.output->W'.heap=((W.setRow B R).setRow B S).heap->W.drawn<=W'.drawn->Q (.returned (.slice (some ⟨B,0,none⟩) (cap+1) G)) W')->
 Calls P F #[.slice (some ⟨b,0,none⟩) cap cap,.int .i64 i,.slice (some ⟨vb,0,none⟩) 1 vc] w Q
def tyG {P:Program}{T:TypeId}{s B:Nat}(h:(match f_ P T with|some i=>(match i.kd with| .slice s' _ b _=>s'==s && b==B|_=>false)|none=>false)=true):
 ∃e ei z,P.underlying T=some (.slice e)/\P.info? e=some ei/\ei.zero=some z/\ei.size=s/\ei.bytes=B/\z.cells.size=s/\(∀w,(Go.sizeOf e).run P w= .ok s w):=by
 cases hi:f_ P T with
 |none=>rw[hi]at h;cases h
 |
  some i=>
  rw[hi]at h;obtain⟨d,info,z,h1,h2,h3,h4,h5,h6,h7,h8,h9⟩:=eP hi;simp only at h;split at h
  .rename_i s' ag b ez M8;rw[M8]at h4;obtain⟨e,ei,ed,z',rfl,k1,k2,k3,k4,k5,k6,k7,k8,k9,qQ⟩:=fV h4;simp only[Zh,beq_iff_eq]at h;obtain⟨rfl,rfl⟩:=h;refine⟨e,ei,z',h1,k1,k3,k4.symm,k6.symm,by rw[k9,k4],λw=>?_⟩;rw[fu k1,k4]
  .cases h
def GN {C:Cx}{F O:FuncId}{T I D:TypeId}{s B:Nat}(KV:0<s)(UL:0<B)
 (hT:(match f_ C.P T with|some i=>(match i.kd with| .slice s' _ b _=>s'==s && b==B|_=>false)|none=>false)=true)
 (htn:C.P.underlying I=some (.int .i64)) (wz:∃fn,C.P.funcs[F]?=some fn/\fn.name≠ "runtime.NumGoroutine" /\fn.body.isSome=true)
 (hO:∀args w,(callFunc O args).run C.P w=((Extern.SlicesOverlaps.overlaps #[T,T] #[D] args).run C.P w).andThen λv w'=> .ok (.value v) w')
 (hE:WE C.P F T) (hS:WS C.P F O T s) (hG:WG C.P F T I s):zQ C F s B:=by
 refine⟨KV,UL,wz,λw base n cap i vb vc olds vs DL vt vf ho hv ny hn hc hm yw o1 v1 hvb hvf hvc hb=>?_⟩;change Calls C.P F _ w (aet w base n cap i s olds vs);obtain⟨e,ei,z,ht,hi,hz,hs,MR,hzs,xw⟩:=tyG hT;have wk:cap<=9223372036854775807:=hc;have hvw:∀(j:Nat) (u:Value),vs[j]?=some u->w.cell? ⟨vb,0+j,none⟩=some u:=λj u hj=>by rw[ka hvb,Xb];exact hvc j u hj
 have ag1:∀(j:Nat) (u:Value),vs[j]?=some u->w.cell? ((⟨vb,0,none⟩:Addr).add j)=some u:=λj u hj=>by rw[add_lit];exact hvw j u hj
 have GD:vs.length=1*ei.size:=by omega
 by_cases he:i=n
 .subst he;by_cases nu:i+1<=cap
  .rcases hb with⟨h0,h1⟩|⟨b,dA,t,fz,rfl,eW,Hn,hf,nh,fo⟩
   .omega
   have uk:i*s+vs.length<=dA.size:=by
    have:=Zx s nu;rw[Xw]at this;omega
   have dD:=jv C.P b (i*s) t fz vs 0 dA w Hn (.inl hf.eq) (by omega) v1;exact hE w _ i cap vb vc _ (w.setRow b (oP dA (i*s) vs)) _ (by omega) wk hm (λty=>uF ht hi b 0 i cap 1 vc ⟨vb,0,none⟩ vs GD ag1 nu (by rw[hs,Xb];exact dD))
    (O9 (i:=i) Hn hf nh nu hc (setRow_heap w b dA _ t fz Hn) (nJ uk) rfl rfl rfl (by simp) (Yt _) (λk hk=>setRow_other w b k _ hk) (Wx ho.symm uk fo))
  .have hcg:cap<i+1:=by omega
   have aes:Src C.P ei.size T (.slice (some ⟨vb,0,none⟩) 1 vc) 1 vs w:=Src.ofSlice w ht ⟨vb,0,none⟩ 1 vc vs GD ag1 v1;have hold:(Builtin.firstCells ei.size i (.slice base i cap)).run C.P w.drew= .ok olds.toArray w.drew:=by
    rcases hb with⟨h0,h1⟩|⟨b,dA,t,fz,rfl,eW,Hn,hf,nh,fo⟩
    .subst h0;have:olds=[]:=Zl (by omega);subst this;cases base<;>simp[Builtin.firstCells,loadCells,loadCellsFrom]
    .exact run_firstCells_some w.drew ei.size i ⟨b,0,none⟩ i cap olds (by rw[hs];exact ho) (λj u hj=>by rw[add_lit,Xb];exact(ka (w:=w.drew) Hn j).trans (fo j u hj))
   have rS:=grownCap_ge w (i+1) cap e;have eG:=grownCap_le_maxLen w (i+1) cap e (by unfold maxLen;omega);have kb:∀ty,(Builtin.append_ #[T,T] ty #[.slice base i cap,.slice (some ⟨vb,0,none⟩) 1 vc]).run C.P w=_:=λty=>
    run_append_grow_src w T T ty e ei z ht hi hz base i cap olds hold _ 1 vs aes hcg (by omega) (by rw[MR];exact growslice_fits hcg yw)
   generalize grownCap w (i+1) cap e=G at kb rS eG;have gC:G*s=((olds++vs).toArray++Builtin.zeroCells z.cells (G-(i+1))).size:=by
    have h2:G=(i+1)+(G-(i+1)):=by omega
    have h3:G*s=(i+1)*s+(G-(i+1))*s:=by rw[<-Xw,<-h2]
    have h4:=Xw i 1 s;rw[Array.size_append,List.size_toArray,size_zeroCells,hzs,Zu];omega
   have O0:∀(k:Nat) (u:Value),(olds.take (i*s)++vs++olds.drop (i*s))[k]?=some u->((olds++vs).toArray++Builtin.zeroCells z.cells (G-(i+1)))[k]?=some u:=λk u hk=>by
    rw[<-ho,Yz,List.drop_length,Yp]at hk;rw[Xx (by simpa using(Za.1 hk).1),List.getElem?_toArray];exact hk
   exact hE w base i cap vb vc _ _ _ hn wk hm kb
    (J3 gC rS eG (jT w.drew _) rfl rfl rfl (by simp[World.alloc]) (Nat.le_succ _) (λk hk=>by show(w.heap.push _)[k]?=_;simp[Array.getElem?_push,Xu hk]) O0)
 rcases hb with⟨h0,h1⟩|⟨b,dA,t,fz,rfl,eW,Hn,hf,nh,fo⟩
 .omega
 have dY:i<n:=by omega
 have lQ:=Zx s dY;rw[Nat.succ_mul]at lQ;have hdl:(olds.drop (i*s)).length=(n-i)*s:=by rw[Xk,ho,Nat.sub_mul]
 have hdl':(olds.drop (i*s)).length=n*s-i*s:=by rw[Xk,ho]
 have mY:DL.size≠0:=by
  have:=(Xy.1 (hvc 0 _ (Zb (by omega)))).1;omega
 have Uo:vs.length=min 1 (n+1-i)*ei.size:=by rw[Nat.min_eq_left (by omega)];omega
 have Av:(i+1)*s=i*s+s:=Nat.succ_mul i s;by_cases nu:n+1<=cap
 .have h9:=Zx s nu;rw[Xw]at h9;have SQ:min (n+1-i) (n-i)=n-i:=by omega
  have J4:(i+1)*s+(olds.drop (i*s)).length<=dA.size:=by omega
  have abw:=nJ J4;obtain⟨W1,Ap⟩:∃W1,W1=w.drew.setRow b (oP dA ((i+1)*s) (olds.drop (i*s))):=⟨_,rfl⟩;have ag2:W1.heap[b]?=some (.cells (oP dA ((i+1)*s) (olds.drop (i*s))) t fz):=by rw[Ap];exact setRow_heap w.drew b dA _ t fz Hn
  have akj:W1.heap[vb]?=some (.cells DL vt vf):=by rw[Ap,setRow_other w.drew b vb _ (λh=>eW h.symm)];exact hvb
  refine hS e ei w W1 b n cap i vb vc (oP (oP dA ((i+1)*s) (olds.drop (i*s))) (i*s) vs) _ ht hi hs xw dY nu wk hm (λlb cb=>?_) (λty dc sc=>?_) (λW hW ty dc=>?_) ?_
  .rw[hO,Lib.run_overlaps_apart w T D e ht s xw ⟨vb,0,none⟩ ⟨b,(i+1)*s,none⟩ 1 vc lb cb (λh=>eW h.symm) vt t DL.size dA.size (by simp[World.shape?,hvb]) (by simp[World.shape?,Hn]) (by omega) (by simp[World.frozen?,hvb,hvf.eq]) (by simp[World.frozen?,hvb,hvf.eq])];rfl
  .rw[Ap];exact sZ w.drew T ty e ei ht hi b ((i+1)*s) _ dc b (i*s) _ sc (olds.drop (i*s)) (by rw[hs,SQ];exact hdl) (λj u hj=>by
    rw[Xg]at hj;exact(ka (w:=w.drew) Hn _).trans (fo _ u hj)) dA t fz Hn hf J4 (λu hu=>o1 u (List.mem_of_mem_drop hu))
  .exact sZ W T ty e ei ht hi b (i*s) _ dc vb 0 1 vc vs Uo (λj u hj=>by
    rw[Xb];exact(ka (by rw[hW];exact akj) _).trans (hvc _ u hj)) _ t fz (by rw[hW];exact ag2) (hf.imp (λq=>q) λq=>q.2.elim) (by rw[abw];omega) v1
  .exact O9 Hn hf nh nu hc (setRow_heap W1 b _ _ t fz ag2) (by rw[nJ (by rw[abw];omega),abw]) (by rw[Ap];rfl) (by rw[Ap];rfl) (by rw[Ap];rfl) (by rw[Ap];simp) (by rw[Ap];exact Nat.le_succ _) (λk hk=>by rw[setRow_other W1 b k _ hk,Ap,setRow_other w.drew b k _ hk];rfl)
    (M7 (by omega) (by omega) (by omega) fo)
 have hcn:cap=n:=by omega
 subst hcn;have TD:(cap:Int)+1-(i:Int)=((cap+1-i:Nat):Int):=by omega
 have hik:i+(cap+1-i)=cap+1:=by omega
 have hold:(Builtin.firstCells ei.size i (.slice (some ⟨b,0,none⟩) i cap)).run C.P w.drew= .ok (olds.take (i*s)).toArray w.drew:=
  run_firstCells_some w.drew ei.size i ⟨b,0,none⟩ i cap (olds.take (i*s)) (by rw[Yy,hs,ho];omega) (λj u hj=>by
   rw[add_lit,Xb];rw[Xr]at hj;split at hj
   .exact(ka (w:=w.drew) Hn j).trans (fo j u hj)
   .cases hj)
 have MN:∀ty,(Builtin.append_ #[T,I] ty #[.slice (some ⟨b,0,none⟩) i cap,.int .i64 ((cap:Int)+1-(i:Int))]).run C.P w=
  .ok (.slice (some ⟨w.heap.size,0,none⟩) (cap+1) (grownCap w (cap+1) cap e)) (w.drew.alloc (.cells ((olds.take (i*s)).toArray++Builtin.zeroCells z.cells (cap+1-i)++Builtin.zeroCells z.cells (grownCap w (cap+1) cap e-(cap+1))) e)):=λty=>by
  have h:=Lib.run_append_grow_zeros w T I ty e ei z .i64 .i64 ht htn hi hz (some ⟨b,0,none⟩) i cap (olds.take (i*s)) hold (cap+1-i) (by omega) (by omega) (by omega) (by omega) (by rw[MR];have:=Zx B (show cap+1-i<=cap+1 by omega);omega) (by rw[MR,hik];exact growslice_fits (by omega) yw);rw[hik]at h;rw[TD];exact h
 have rS:=grownCap_ge w (cap+1) cap e;have eG:=grownCap_le_maxLen w (cap+1) cap e (by unfold maxLen;omega);generalize grownCap w (cap+1) cap e=G at MN rS eG;obtain⟨ROW,aew⟩:∃ROW:Array Value,ROW=(olds.take (i*s)).toArray++Builtin.zeroCells z.cells (cap+1-i)++Builtin.zeroCells z.cells (G-(cap+1)):=⟨_,rfl⟩;rw[<-aew]at MN;have hRs:ROW.size=G*s:=by
  rw[aew,Array.size_append,Array.size_append,List.size_toArray,size_zeroCells,size_zeroCells,hzs,Yy,ho];have e1:G=i+(cap+1-i)+(G-(cap+1)):=by omega
  have e2:G*s=i*s+(cap+1-i)*s+(G-(cap+1))*s:=by rw[<-Xw,<-Xw,<-e1]
  omega
 have hRg:∀(k:Nat) (u:Value),k<i*s->olds[k]?=some u->ROW[k]?=some u:=λk u hk hu=>by
  rw[aew,Array.append_assoc,Xx (by simp;omega),List.getElem?_toArray,Xr,dd hk];exact hu
 have hG1:=Zx s rS;rw[Xw]at hG1;have NG:=fH Hn;have akk:=fH hvb;obtain⟨W1,Ap⟩:∃W1,W1=w.drew.alloc (.cells ROW e):=⟨_,rfl⟩;have ag3:W1.heap[w.heap.size]?=some (.cells ROW e (0,0)):=by rw[Ap];exact jT w.drew _
 have aex:∀k,k<w.heap.size->W1.heap[k]?=w.heap[k]?:=λk hk=>by rw[Ap];show(w.heap.push _)[k]?=_;simp[Array.getElem?_push,Xu hk]
 have hW1s:W1.heap.size=w.heap.size+1:=by rw[Ap];show(w.heap.push _).size=_;simp
 have J4:i*s+vs.length<=ROW.size:=by omega
 have abw:=nJ J4;have acw:(i+1)*s+(olds.drop (i*s)).length<=(oP ROW (i*s) vs).size:=by omega
 have hsz2:=nJ acw;have hR2:(W1.setRow w.heap.size (oP ROW (i*s) vs)).heap[w.heap.size]?=some (.cells (oP ROW (i*s) vs) e (0,0)):=setRow_heap W1 _ ROW _ e _ ag3;refine hG e ei w W1 b w.heap.size cap i vb vc G (oP ROW (i*s) vs) (oP (oP ROW (i*s) vs) ((i+1)*s) (olds.drop (i*s))) _ ht hi hs xw dY wk hm rS eG (λty=>by rw[Ap];exact MN ty) (λW hW ty dc=>?_) (λW hW ty dc sc=>?_) (λW' h1 h2 h3 h4 h6=>?_)
 .exact sZ W T ty e ei ht hi w.heap.size (i*s) _ dc vb 0 1 vc vs Uo (λj u hj=>by
   rw[Xb];exact(ka (by rw[hW,aex _ akk];exact hvb) _).trans (hvc _ u hj)) _ e (0,0) (by rw[hW];exact ag3) (.inl rfl) J4 v1
 .exact sZ W T ty e ei ht hi w.heap.size ((i+1)*s) _ dc b (i*s) _ sc (olds.drop (i*s)) (by rw[hs,Nat.min_self];exact hdl) (λj u hj=>by
   rw[Xg]at hj;exact(ka (by rw[hW,setRow_other W1 _ b _ (Xu NG),aex _ NG];exact Hn) _).trans (fo _ u hj)) _ e (0,0) (by rw[hW];exact hR2) (.inl rfl) acw (λu hu=>o1 u (List.mem_of_mem_drop hu))
 .exact J3 (t:=e) (cur':=oP (oP ROW (i*s) vs) ((i+1)*s) (olds.drop (i*s))) (by omega) rS eG (by rw[h4];exact setRow_heap _ _ _ _ e _ hR2) (by rw[h1,Ap];rfl) (by rw[h2,Ap];rfl) (by rw[h3,Ap];rfl) (by rw[h4];simp;omega) (by rw[Ap]at h6;exact Yn (Nat.le_succ _) h6) (λk hk=>by rw[h4,setRow_other _ _ k _ (Xu hk),setRow_other _ _ k _ (Xu hk)];exact aex k hk) (RN (by omega) (by omega) (by omega) hRg)
end Go.Ae
namespace Go.Proofs.YtaibpnppeiigdaaGreatDoor
open Go Go.Ae Go.Proofs.Tryz
def J5 :WE prog 173 28:=λw base n cap vb vc r W Q hn wk hm kb fin=>by
 go_enter func173,ntmps173
 cases base with
 |
  none=>
  go_wp2_with (at_builtin;refine Lib.wpList_append_run _ rfl _ _ _ _ rfl _ _ rfl rfl _ _ (kb _) ?_)
  all_goals exact fin
 |
  some a=>
  obtain⟨ab,ao,asp⟩:=a
  go_wp2_with (at_builtin;refine Lib.wpList_append_run _ rfl _ _ _ _ rfl _ _ rfl rfl _ _ (kb _) ?_)
  all_goals exact fin
def J6 :WS prog 173 232 28 1:=λe ei w W b n cap i vb vc C Q ht hi hs xw ny nu wk hm hov J7 J8 fin=>by
 have Hh:IntKind.i64.wrap ((i:Int)+1)=(i:Int)+1:=by rw[IntKind.wrap_i64];omega
 have hw2:IntKind.i64.wrap ((n:Int)+1)=(n:Int)+1:=by rw[IntKind.wrap_i64];omega
 have Dd:(0:Int)<=(i:Int)+1:=by omega
 have hii:i<=n:=by omega
 have htn:((i:Int)+1).toNat=i+1:=by omega
 have aey:((n:Int)+1).toNat=n+1:=by omega
 have KW:¬(cap=i+1):=by omega
 have DD:(i:Int)<=(n:Int)+1:=by omega
 have hb4:¬(cap=i):=by omega
 have mixed:prog.follows .mixedOrders=true:=by kernel_rfl
 go_enter func173,ntmps173
 simp only[Nat.mul_one]at hov J7 J8
 go_wp2_with (simp only[hov])
 go_region_law_o (refine jx rfl _ _ 28 28 rfl _ _ (by simp[Act.eval,Act.put]) (by simp[Act.eval,Act.put]) (J7 _ _ _) ?_)
 go_wp2_with (at_builtin;refine iu _ rfl _ _ 28 28 rfl _ _ rfl rfl (J8 _ rfl _ _) ?_)
 exact fin
def J9 :WG prog 173 28 3 1:=λe ei w W b B cap i vb vc G R S Q ht hi hs xw ny wk hm rS n_ MN J_ Ka fin=>by
 have Hh:IntKind.i64.wrap ((i:Int)+1)=(i:Int)+1:=by rw[IntKind.wrap_i64];omega
 have hw2:IntKind.i64.wrap ((cap:Int)+1)=(cap:Int)+1:=by rw[IntKind.wrap_i64];omega
 have hw3:IntKind.i64.wrap ((cap:Int)+1-(i:Int))=(cap:Int)+1-(i:Int):=by rw[IntKind.wrap_i64];omega
 have Dd:(0:Int)<=(i:Int)+1:=by omega
 have aez:((i:Int)+1).toNat=i+1:=by omega
 have KW:¬(cap=i):=by omega
 have DD:(i:Int)<=(cap:Int):=by omega
 have hb4:¬(G=i):=by omega
 have hb5:¬(G=i+1):=by omega
 have hz3:(cap:Int)< (cap:Int)+1:=by omega
 have mixed:prog.follows .mixedOrders=true:=by kernel_rfl
 simp only[Nat.mul_one]at J_ Ka
 go_enter func173,ntmps173
 go_wp2_with (first
  |(at_builtin;refine Lib.wpList_append_run _ rfl _ _ _ _ rfl _ _ rfl rfl _ _ (MN _) ?_)
  |(at_builtin;refine iu _ rfl _ _ 28 28 rfl _ _ rfl rfl (J_ _ rfl _ _) ?_))
 go_region_law_o (refine jx rfl _ _ 28 28 rfl (.slice (some ⟨B,i+1,none⟩) (cap-i) (G-(i+1))) (.slice (some ⟨b,i,none⟩) (cap-i) (cap-i)) (by simp[Act.eval,Act.put]) (by simp[Act.eval,Act.put]) (Ka ((W.setRow B R).drew) rfl 3 (G-(i+1)) (cap-i)) ?_)
 go_wp2
 exact fin _ rfl rfl rfl rfl (by first|exact Nat.le_refl _|exact Nat.le_succ _|(show W.drawn<=W.drawn+1+1;omega))
def GQ :zQ cx 173 1 16:=
 GN (O:=232) (T:=28) (I:=3) (D:=4) (by omega) (by omega) (by kernel_rfl) (by kernel_rfl) ⟨_,func173,of_decide_eq_true (by kernel_rfl),by kernel_rfl⟩
  (λargs w=>run_callFunc_extern func232 (by kernel_rfl) (by kernel_rfl) (by kernel_rfl) (by kernel_rfl) args w) J5 J6 J9
end Go.Proofs.YtaibpnppeiigdaaGreatDoor
