/- Contracts: the library's search for a letter that may not be printed. -/
import Derived.Test.YtmocfjnklfpnbaaGreatDoorP17
import Derived.Laws.RangeAny
import Derived.Laws.RangeString
set_option linter.all false
set_option maxRecDepth 100000
namespace Go.Proofs.YtmocfjnklfpnbaaGreatDoor
open Go Go.Ae
section
attribute [local simp] aop aopW coldF extF putA ofConst flat scalarOp fastOp binFast intOp strOp guardX Ae.part rowOf szOk natOf lenA cls fillA newsOf isNilC cellX
theorem call_inl {f:FuncId}{args:List AV}{n:Nat}(fi:Fi)(hs:cx.srt f=none)(hi:cx.inl f=true)(hF:cx.F f=some fi)(hd:(splitD cx fi.body).isNone=true)(hok:ok2 cx fi.body=true)(hl:args.length≤fi.ntmps)(b:Bool)(h:Hp)(hp:plainF f=true:=by decide):
 callN cx (n+1) b f args h=finX fi.res (exec2 cx (callN cx n) fi.body (args++List.replicate (fi.ntmps-args.length) .un,h)):=by
 have e1:cx.ins f=none:=ins_none hp;have e2:(if args.all calm then cx.tab f args else none)=none:=by rw[show cx.tab f args=none from tab_none hp];split<;>rfl
 simp only[callN,hs,hi,if_true,e1,e2,hF,Option.isNone_iff_eq_none.1 hd];exact body1_of hF hok hl h
theorem val_ctrl (n:Nat)(b:Bool)(r:Int)(h:Hp):callN cx (n+1) b 198 [.sc (.int .i32 r)] h=some (.sc (.bool (decide (r<32)||decide (126<r))),h):=by
 rw[call_inl ⟨Tryz.f198.ntmps,(Tryz.f198.body).getD .skip,[.tmp 2]⟩ rfl (by kernel_rfl) (by kernel_rfl) (by kernel_rfl) (by kernel_rfl) (by simp[Tryz.f198])];by_cases h1:r<32<;>simp[Tryz.f198,h1]
def idxL :List UInt8→Nat→Int
 | [],_=> -1
 |c::l,i=>if okC c=true then idxL l (i+1)else i
def idxD (x:ByteArray)(i:Nat):Int:=idxL (x.data.toList.drop i) i
theorem idxL_neg :∀(l:List UInt8) (i:Nat),(idxL l i<0)=(l.all okC=true)
 | [],i=>by simp[idxL]
 |
  c::l,i=>by
  rw[idxL,Zn];cases h:okC c
  ·simp
  ·simp[idxL_neg l (i+1)]
theorem idxD_end (x:ByteArray)(i:Nat)(h:x.size≤i):idxD x i= -1:=by unfold idxD;rw[Zt h];rfl
theorem idxD_step {x:ByteArray}{i:Nat}{c:UInt8}(h:x.data.toList[i]?=some c):idxD x i=if okC c=true then idxD x (i+1)else i:=by
 obtain⟨k,e⟩:=Za.1 h;unfold idxD;rw[Zm k,e,idxL]
theorem rune_of {x:ByteArray}{i:Nat}{c:UInt8}(h:x.data.toList[i]?=some c):(okC c=true∧Utf8.decode x i=(c.toNat,1)∧32≤c.toNat∧c.toNat≤126)∨(okC c=false∧((Utf8.decode x i).1<32∨126< (Utf8.decode x i).1)):=by
 obtain⟨k,e⟩:=Za.1 h;have kx:i<x.size:=k;have ex:x[i]'kx=c:=e;by_cases ha:c.toNat<128
 ·have hd:=decode_ascii x i kx (by rw[ex];exact ha);rw[ex]at hd;cases hc:okC c with
  |
   true=>
   left;simp only[okC,Zh,Zz]at hc;exact⟨rfl,hd,hc.1,hc.2⟩
  |
   false=>
   right;rw[hd];simp only[okC,Bool.and_eq_false_iff,decide_eq_false_iff_not]at hc;exact⟨rfl,by simp only;omega⟩
 ·have hd:=decode_high x i kx (by rw[ex];omega);right;refine⟨?_,.inr (by omega)⟩;simp only[okC,Bool.and_eq_false_iff,decide_eq_false_iff_not];omega
theorem str_indexFunc (n:Nat)(b:Bool)(x:ByteArray)(h:Hp)(hx:x.size≤1000000000000000):callN cx (n+2) b 264 [.sc (.string x),.fn 198 [],.sc (.bool true)] h=some (.sc (.int .i64 (idxD x 0)),h):=by
 refine pure_calm (r:= .sc (.int .i64 (idxD x 0))) ⟨Tryz.f264.ntmps,(Tryz.f264.body).getD .skip,[.tmp 6]⟩ (by kernel_rfl) (by kernel_rfl) rfl (by kernel_rfl) (by simp[Tryz.f264]) rfl rfl ?_ b h;have hsz:x.data.toList.length=x.size:=rfl;have hcl:=fun b r h=>val_ctrl n b r h
 simp[Tryz.f264];refine loop_up (C:=cx) (G:=fun r=>∃h',finX _ (thenX _ _ (blockX _ r) _)=some (_,h'))
  (fun i s=>idxD x 0=idxD x i∧s.1.length=21∧gt s.1 1= .fn 198 []∧gt s.1 2= .sc (.bool true)∧gt s.1 10= .pt 0 0∧s.2=[.iter x i])
  (fun o s=>s.1.length=21∧((o= .exit 0∧idxD x 0= -1)∨(o= .ret∧gt s.1 6= .sc (.int .i64 (idxD x 0))))) x.size (by simp;omega) (by simp) ?_ ?_
 ·rintro i fr h hle ⟨ho,hlen,h1,h2,h10,hh⟩;simp only at hlen h1 h2 h10 hh;subst hh;by_cases hi:i<x.size
  ·obtain⟨c,hc⟩:∃c,x.data.toList[i]?=some c:=⟨_,Zb (by omega)⟩;rw[idxD_step hc]at ho;rcases rune_of hc with⟨hk,hd,k1,k2⟩|⟨hk,hd⟩
   ·rw[if_pos hk]at ho;have f1:¬((c.toNat:Int)<32):=by omega
    have f2:¬(126< (c.toNat:Int)):=by omega
    generalize c.toNat=d at hd f1 f2;simp[hlen,h1,h2,h10,hi,hd,hcl,f1,f2];exact ho
   ·rw[if_neg (by rw[hk];simp)]at ho;generalize hde:Utf8.decode x i=de at hd;obtain⟨d,wd⟩:=de;simp only at hd;by_cases f1:(d:Int)<32
    ·simp[hlen,h1,h2,h10,hi,hde,hcl,f1,ho]
    ·have f2:126< (d:Int):=by omega
     simp[hlen,h1,h2,h10,hi,hde,hcl,f1,f2,ho]
  ·have hz:idxD x 0= -1:=by rw[ho,idxD_end x i (by omega)]
   simp[hlen,h1,h2,h10,hi,hz]
 ·rintro o fr h hn ⟨hlen,⟨rfl,hz⟩|⟨rfl,h2⟩⟩
  ·simp only at hlen;simp[hlen,hz]
  ·simp only at h2;simp[h2]
theorem str_IndexFunc (n:Nat)(b:Bool)(x:ByteArray)(h:Hp)(hx:x.size≤1000000000000000):callN cx (n+3) b 197 [.sc (.string x),.fn 198 []] h=some (.sc (.int .i64 (idxD x 0)),h):=by
 refine pure_calm (r:= .sc (.int .i64 (idxD x 0))) ⟨Tryz.f197.ntmps,(Tryz.f197.body).getD .skip,[.tmp 4]⟩ (by kernel_rfl) (by kernel_rfl) rfl (by kernel_rfl) (by simp[Tryz.f197]) rfl rfl ?_ b h;have hc:=fun b h=>str_indexFunc n b x h hx
 simp[Tryz.f197,hc]
theorem idx_okS (x:ByteArray):(idxD x 0<0)=(okS x=true):=by
 unfold idxD;rw[idxL_neg];rfl
end
section
attribute [local simp] aop aopW coldF extF putA ofConst flat scalarOp fastOp binFast intOp strOp guardX Ae.part rowOf szOk natOf lenA cls fillA splice newsOf isNilC cellX
set_option maxHeartbeats 4000000
@[simp] theorem get_app0 (h:Hp)(a:Blk)(l:Hp):(h++a::l)[h.length]?=some a:=by simp
@[simp] theorem get_app1 (h:Hp)(a b:Blk)(l:Hp):(h++a::b::l)[h.length+1]?=some b:=by rw[Zf (by omega)];simp
@[simp] theorem set_app0 (h:Hp)(a b:Blk)(l:Hp):(h++a::l).set h.length b=h++b::l:=by rw[List.set_append_right _ _ (Nat.le_refl _)];simp
@[simp] theorem set_app1 (h:Hp)(a b c:Blk)(l:Hp):(h++a::b::l).set (h.length+1) c=h++a::c::l:=by rw[List.set_append_right _ _ (by omega)];simp
@[simp] theorem rng2 :List.range 2=[0,1]:=rfl
@[simp] theorem rng3 :List.range 3=[0,1,2]:=rfl
@[simp] theorem rng4 :List.range 4=[0,1,2,3]:=rfl
@[simp] theorem rng5 :List.range 5=[0,1,2,3,4]:=rfl
def PVC (N:Nat)(v:V):Prop:=∀b q h,0≤q→q≤8→callN cx N b 131 [.ag (enc v),.sc (.int .i64 q)] h=some (.sc (.bool (okV v (8-q))),h)
theorem okV_56 {v:V}(h:v.k=5∨v.k=6)(m m':Int):okV v m=okV v m':=by
 cases v with
 |
  mk k n d s z l=>
  simp only[V.k]at h;rw[okV,okV];rcases h with rfl|rfl<;>simp
theorem val_path (N:Nat)(b:Bool)(z:Bool)(l:List V)(h:Hp)(hv:∀x∈l,PVC N x):callN cx (N+1) b 199 [evL z l] h=some (.sc (.bool (okPth l)),h):=by
 have hc:[evL z l].all calm=true:=by rw[Zn,calm_evL];rfl
 refine pure_calm (r:= .sc (.bool (okPth l))) ⟨Tryz.f199.ntmps,(Tryz.f199.body).getD .skip,[.tmp 2]⟩ (by kernel_rfl) (by kernel_rfl) rfl (by kernel_rfl) (by simp[Tryz.f199]) hc rfl ?_ b h;clear hc;unfold okPth;rcases lsV_cases z l with⟨rfl,e⟩|e
 ·simp[Tryz.f199,e]
 rw[e];have hq:=encL_length l;have hg:=encL_get l;generalize encL l=rows at hq hg;have hm:((l.length:Int).tmod 2)=((l.length % 2:Nat):Int):=rfl;by_cases h0:l.length % 2=0
 ·rw[h0]at hm;simp[Tryz.f199,hq,hm,h0]
 have h0':l.length % 2=1:=by omega
 rw[h0']at hm;by_cases h2:25< (l.length:Int)
 ·simp[Tryz.f199,hq,hm,h0',h2,show¬(l.length:Int)≤25 by omega]
 have h2':(l.length:Int)≤25:=by omega
 simp[Tryz.f199,hq,hm,h0',h2,h2'];refine loop_up (C:=cx) (G:=fun r=>∃h',finX _ (thenX _ _ (blockX _ r) _)=some (_,h'))
  (fun i s=>okP l false=okPD l i∧s.1.length=37∧gt s.1 15= .ls 5 rows z∧gt s.1 16= .sc (.int .i64 l.length)∧gt s.1 17= .sc (.int .i64 i))
  (fun o s=>s.1.length=37∧((o= .exit 0∧okP l false=true)∨(o= .ret∧okP l false=false∧gt s.1 2= .sc (.bool false)))) l.length (by simp;omega) (by simp[okPD_zero]) ?_ ?_
 ·rintro i fr h hle ⟨ho,hlen,h15,h16,h17⟩;simp only at hlen h15 h16 h17;by_cases hi:i<l.length
  ·obtain⟨c,hc⟩:∃c,l[i]?=some c:=⟨_,Zb hi⟩;have hr:rows[i]?=some (enc c):=by rw[hg,hc];rfl
   have hr':∀k,rows[i]'k=enc c:=fun k=>by obtain⟨_,e⟩:=Za.1 hr;exact e
   have hcv:=hv c (Zi hc);have hcall:=fun b h=>hcv b 0 h (by omega) (by omega)
   rw[okPD_step hc]at ho;have hf:fitI .i64 ((i:Int)+1)=((i+1:Nat):Int):=fit_i64 (by omega) (by omega);have h56:c.k=5∨c.k=6→okV c (8-0)=okV c 0:=fun q=>okV_56 q _ _
   generalize okV c 0=K0 at ho h56;generalize okV c (8-0)=K at hcall h56;cases c with
   |
    mk k n d s z' l'=>
    simp only[V.k]at ho h56;simp only[enc]at hr hr' hcall;generalize lsV z' (encL l')=L' at hr hr' hcall;have hm:((i:Int).tmod 2)=((i % 2:Nat):Int):=rfl;rcases Nat.mod_two_eq_zero_or_one i with q|q<;>rw[q]at hm ho
    all_goals
     simp only[show¬((0:Nat)=1)from by decide,if_false,if_true]at ho
    ·by_cases hk:k=5
     ·subst hk;obtain rfl:=h56 (.inl rfl);cases K
      ·have zz:okP l false=false:=by rw[ho];simp
       clear ho;simp[hlen,h15,h16,h17,hi,hq,hr,hr',hcall,hm,zz]
      ·have zz:okP l false=okPD l (i+1):=by rw[ho];simp
       clear ho;simp[hlen,h15,h16,h17,hi,hq,hr,hr',hcall,hm,hf];exact zz
     ·have zz:okP l false=false:=by rw[ho];simp[hk]
      clear ho;simp[hlen,h15,h16,h17,hi,hq,hr,hr',hm,hk,zz]
    ·by_cases hk:k=6
     ·subst hk;obtain rfl:=h56 (.inr rfl);cases K
      ·have zz:okP l false=false:=by rw[ho];simp
       clear ho;simp[hlen,h15,h16,h17,hi,hq,hr,hr',hcall,hm,zz]
      ·have zz:okP l false=okPD l (i+1):=by rw[ho];simp
       clear ho;simp[hlen,h15,h16,h17,hi,hq,hr,hr',hcall,hm,hf];exact zz
     ·have zz:okP l false=false:=by rw[ho];simp[hk]
      clear ho;simp[hlen,h15,h16,h17,hi,hq,hr,hr',hm,hk,zz]
  ·have zz:okP l false=true:=by rw[ho,okPD_end l i (by omega)]
   simp[hlen,h15,h16,h17,hi,hq,zz]
 ·rintro o fr h hn ⟨hlen,⟨rfl,hz⟩|⟨rfl,hz,h2⟩⟩
  ·simp only at hlen;simp[hlen,hz]
  ·simp only at h2;simp[h2,hz]
set_option maxHeartbeats 8000000
theorem lsV_3 (z:Bool)(l:List V):(evL z l= .sc (.slice none 0 0)∧l.isEmpty=true)∨(evL z l= .ls 5 [] z∧l.isEmpty=true)∨∃rows,evL z l= .ls 5 rows z∧0<rows.length∧l.isEmpty=false:=by
 rcases lsV_cases z l with⟨rfl,e⟩|e
 ·exact .inl ⟨e,rfl⟩
 ·cases l with
  |nil=>exact .inr (.inl ⟨e,rfl⟩)
  |cons x xs=>exact .inr (.inr ⟨_,e,by rw[encL_length];simp,rfl⟩)
theorem calm_valid (v:V)(q:Int):[evV v,.sc (.int .i64 q)].all calm=true:=by rw[Zn,calm_evV];rfl
theorem val_valid0 (M:Nat)(n d q:Int)(s:ByteArray)(z:Bool)(l:List V)(b:Bool)(h:Hp):callN cx (M+1) b 131 [evV (.mk 0 n d s z l),.sc (.int .i64 q)] h=some (.sc (.bool (okV (.mk 0 n d s z l) (8-q))),h):=by
 refine pure_calm (r:= .sc (.bool (okV (.mk 0 n d s z l) (8-q)))) (n:=M) ⟨Tryz.f131.ntmps,(Tryz.f131.body).getD .skip,[.tmp 4]⟩ (by kernel_rfl) (by kernel_rfl) rfl (by kernel_rfl) (by simp[Tryz.f131]) (calm_valid _ _) rfl ?_ b h;rw[okV_bare,evV_eq];unfold bareV;simp only[V.n,V.d,V.s,V.l];have hl:=lsV_3 z l;generalize evL z l=L at hl;generalize l.isEmpty=E at hl;by_cases hd:d=0
 rotate_left
 ·simp[Tryz.f131,hd]
 cases hs:eqS s ⟨#[]⟩
 ·simp[Tryz.f131,hs,hd]
 rcases hl with⟨rfl,rfl⟩|⟨rfl,rfl⟩|⟨rows,rfl,hr,rfl⟩
 rotate_right
 ·simp[Tryz.f131,hr,hd,hs]
 all_goals
  by_cases hn:n=0<;>simp[Tryz.f131,hn,hd,hs]
theorem val_valid1 (M:Nat)(n d q:Int)(s:ByteArray)(z:Bool)(l:List V)(b:Bool)(h:Hp):callN cx (M+1) b 131 [evV (.mk 1 n d s z l),.sc (.int .i64 q)] h=some (.sc (.bool (okV (.mk 1 n d s z l) (8-q))),h):=by
 refine pure_calm (r:= .sc (.bool (okV (.mk 1 n d s z l) (8-q)))) (n:=M) ⟨Tryz.f131.ntmps,(Tryz.f131.body).getD .skip,[.tmp 4]⟩ (by kernel_rfl) (by kernel_rfl) rfl (by kernel_rfl) (by simp[Tryz.f131]) (calm_valid _ _) rfl ?_ b h;rw[okV_bare,evV_eq];unfold bareV;simp only[V.n,V.d,V.s,V.l];have hl:=lsV_3 z l;generalize evL z l=L at hl;generalize l.isEmpty=E at hl;by_cases hd:d=0
 rotate_left
 ·simp[Tryz.f131,hd]
 cases hs:eqS s ⟨#[]⟩
 ·simp[Tryz.f131,hs,hd]
 rcases hl with⟨rfl,rfl⟩|⟨rfl,rfl⟩|⟨rows,rfl,hr,rfl⟩
 rotate_right
 ·simp[Tryz.f131,hr,hd,hs]
 all_goals
  by_cases hn:n=0
  ·simp[Tryz.f131,hn,hd,hs]
  ·simp[Tryz.f131,hn,hd,hs]
theorem val_valid2 (M:Nat)(n d q:Int)(s:ByteArray)(z:Bool)(l:List V)(b:Bool)(h:Hp)(g1:∀b h,callN cx M b 195 [.sc (.int .i64 n)] h=some (.sc (.bool (inR n)),h)):callN cx (M+1) b 131 [evV (.mk 2 n d s z l),.sc (.int .i64 q)] h=some (.sc (.bool (okV (.mk 2 n d s z l) (8-q))),h):=by
 refine pure_calm (r:= .sc (.bool (okV (.mk 2 n d s z l) (8-q)))) (n:=M) ⟨Tryz.f131.ntmps,(Tryz.f131.body).getD .skip,[.tmp 4]⟩ (by kernel_rfl) (by kernel_rfl) rfl (by kernel_rfl) (by simp[Tryz.f131]) (calm_valid _ _) rfl ?_ b h;rw[okV_bare,evV_eq];unfold bareV;simp only[V.n,V.d,V.s,V.l];have hl:=lsV_3 z l;generalize evL z l=L at hl;generalize l.isEmpty=E at hl;by_cases hd:d=0
 rotate_left
 ·simp[Tryz.f131,hd,g1]
 cases hs:eqS s ⟨#[]⟩
 ·simp[Tryz.f131,hs,g1,hd]
 rcases hl with⟨rfl,rfl⟩|⟨rfl,rfl⟩|⟨rows,rfl,hr,rfl⟩
 rotate_right
 ·simp[Tryz.f131,hr,g1,hd,hs]
 all_goals simp[Tryz.f131,g1,hd,hs]
theorem val_valid3 (M:Nat)(n d q:Int)(s:ByteArray)(z:Bool)(l:List V)(b:Bool)(h:Hp)(g2:∀b h,callN cx M b 196 [.ag [.sc (.int .i64 n),.sc (.int .i64 d)]] h=some (.sc (.bool (fv n d)),h)):callN cx (M+1) b 131 [evV (.mk 3 n d s z l),.sc (.int .i64 q)] h=some (.sc (.bool (okV (.mk 3 n d s z l) (8-q))),h):=by
 refine pure_calm (r:= .sc (.bool (okV (.mk 3 n d s z l) (8-q)))) (n:=M) ⟨Tryz.f131.ntmps,(Tryz.f131.body).getD .skip,[.tmp 4]⟩ (by kernel_rfl) (by kernel_rfl) rfl (by kernel_rfl) (by simp[Tryz.f131]) (calm_valid _ _) rfl ?_ b h;rw[okV_bare,evV_eq];unfold bareV;simp only[V.n,V.d,V.s,V.l];have hl:=lsV_3 z l;generalize evL z l=L at hl;generalize l.isEmpty=E at hl;cases hs:eqS s ⟨#[]⟩
 ·simp[Tryz.f131,hs,g2]
 rcases hl with⟨rfl,rfl⟩|⟨rfl,rfl⟩|⟨rows,rfl,hr,rfl⟩
 rotate_right
 ·simp[Tryz.f131,hr,g2,hs]
 all_goals
  by_cases hd:2≤d<;>simp[Tryz.f131,hd,g2,hs]
theorem val_valid4 (M:Nat)(n d q:Int)(s:ByteArray)(z:Bool)(l:List V)(b:Bool)(h:Hp)(g3:∀b h,callN cx M b 197 [.sc (.string s),.fn 198 []] h=some (.sc (.int .i64 (idxD s 0)),h)):callN cx (M+1) b 131 [evV (.mk 4 n d s z l),.sc (.int .i64 q)] h=some (.sc (.bool (okV (.mk 4 n d s z l) (8-q))),h):=by
 refine pure_calm (r:= .sc (.bool (okV (.mk 4 n d s z l) (8-q)))) (n:=M) ⟨Tryz.f131.ntmps,(Tryz.f131.body).getD .skip,[.tmp 4]⟩ (by kernel_rfl) (by kernel_rfl) rfl (by kernel_rfl) (by simp[Tryz.f131]) (calm_valid _ _) rfl ?_ b h;rw[okV_bare,evV_eq];unfold bareV;simp only[V.n,V.d,V.s,V.l];have hl:=lsV_3 z l;generalize evL z l=L at hl;generalize l.isEmpty=E at hl;by_cases hd:d=0
 rotate_left
 ·simp[Tryz.f131,hd]
 rcases hl with⟨rfl,rfl⟩|⟨rfl,rfl⟩|⟨rows,rfl,hr,rfl⟩
 rotate_right
 ·simp[Tryz.f131,hr,hd]
 all_goals
  have hw:=idx_okS s;generalize idxD s 0=w at hw g3;by_cases hn:n=0
  ·by_cases h1:(s.size:Int)≤100
   ·by_cases h2:w<0
    ·have h3:okS s=true:=by rw[←hw];exact h2
     simp[Tryz.f131,hn,h1,h2,h3,g3,hd]
    ·have h3:okS s=false:=by cases h4:okS s with|false=>rfl|true=>rw[h4]at hw;exact absurd (hw.mpr rfl) h2
     simp[Tryz.f131,hn,h1,h2,h3,g3,hd]
   ·simp[Tryz.f131,hn,h1,hd]
  ·simp[Tryz.f131,hn,hd]
theorem val_valid5 (M:Nat)(n d q:Int)(s:ByteArray)(z:Bool)(l:List V)(b:Bool)(h:Hp):callN cx (M+1) b 131 [evV (.mk 5 n d s z l),.sc (.int .i64 q)] h=some (.sc (.bool (okV (.mk 5 n d s z l) (8-q))),h):=by
 refine pure_calm (r:= .sc (.bool (okV (.mk 5 n d s z l) (8-q)))) (n:=M) ⟨Tryz.f131.ntmps,(Tryz.f131.body).getD .skip,[.tmp 4]⟩ (by kernel_rfl) (by kernel_rfl) rfl (by kernel_rfl) (by simp[Tryz.f131]) (calm_valid _ _) rfl ?_ b h;rw[okV_bare,evV_eq];unfold bareV;simp only[V.n,V.d,V.s,V.l];have hl:=lsV_3 z l;generalize evL z l=L at hl;generalize l.isEmpty=E at hl;by_cases hd:d=0
 rotate_left
 ·simp[Tryz.f131,hd]
 cases hs:eqS s ⟨#[]⟩
 ·simp[Tryz.f131,hs,hd]
 rcases hl with⟨rfl,rfl⟩|⟨rfl,rfl⟩|⟨rows,rfl,hr,rfl⟩
 rotate_right
 ·simp[Tryz.f131,hr,hd,hs]
 all_goals
  by_cases hn:1≤n<;>simp[Tryz.f131,hn,hd,hs]
theorem val_valid6 (M:Nat)(n d q:Int)(s:ByteArray)(z:Bool)(l:List V)(b:Bool)(h:Hp):callN cx (M+1) b 131 [evV (.mk 6 n d s z l),.sc (.int .i64 q)] h=some (.sc (.bool (okV (.mk 6 n d s z l) (8-q))),h):=by
 refine pure_calm (r:= .sc (.bool (okV (.mk 6 n d s z l) (8-q)))) (n:=M) ⟨Tryz.f131.ntmps,(Tryz.f131.body).getD .skip,[.tmp 4]⟩ (by kernel_rfl) (by kernel_rfl) rfl (by kernel_rfl) (by simp[Tryz.f131]) (calm_valid _ _) rfl ?_ b h;rw[okV_bare,evV_eq];unfold bareV;simp only[V.n,V.d,V.s,V.l];have hl:=lsV_3 z l;generalize evL z l=L at hl;generalize l.isEmpty=E at hl;by_cases hd:d=0
 rotate_left
 ·simp[Tryz.f131,hd]
 cases hs:eqS s ⟨#[]⟩
 ·simp[Tryz.f131,hs,hd]
 rcases hl with⟨rfl,rfl⟩|⟨rfl,rfl⟩|⟨rows,rfl,hr,rfl⟩
 rotate_right
 ·simp[Tryz.f131,hr,hd,hs]
 all_goals
  by_cases hn:1≤n<;>simp[Tryz.f131,hn,hd,hs]
theorem val_valid7 (M:Nat)(n d q:Int)(s:ByteArray)(z:Bool)(l:List V)(b:Bool)(h:Hp)(g4:∀b h,callN cx M b 199 [evL z l] h=some (.sc (.bool (okPth l)),h)):callN cx (M+1) b 131 [evV (.mk 7 n d s z l),.sc (.int .i64 q)] h=some (.sc (.bool (okV (.mk 7 n d s z l) (8-q))),h):=by
 refine pure_calm (r:= .sc (.bool (okV (.mk 7 n d s z l) (8-q)))) (n:=M) ⟨Tryz.f131.ntmps,(Tryz.f131.body).getD .skip,[.tmp 4]⟩ (by kernel_rfl) (by kernel_rfl) rfl (by kernel_rfl) (by simp[Tryz.f131]) (calm_valid _ _) rfl ?_ b h;rw[okV_bare,evV_eq];unfold bareV;simp only[V.n,V.d,V.s,V.l];have hl:=lsV_3 z l;generalize evL z l=L at hl g4;generalize l.isEmpty=E at hl;by_cases hd:d=0
 rotate_left
 ·simp[Tryz.f131,hd]
 cases hs:eqS s ⟨#[]⟩
 ·simp[Tryz.f131,hs,hd]
 rcases hl with⟨rfl,rfl⟩|⟨rfl,rfl⟩|⟨rows,rfl,hr,rfl⟩
 all_goals
  by_cases hn:n=0<;>simp[Tryz.f131,hn,g4,hd,hs]
theorem val_validX (M:Nat)(k n d q:Int)(s:ByteArray)(z:Bool)(l:List V)(b:Bool)(h:Hp)(h0:¬k=0)(h1:¬k=1)(h2:¬k=2)(h3:¬k=3)(h4:¬k=4)(h5:¬k=5)(h6:¬k=6)(h7:¬k=7)(h8:¬k=8):callN cx (M+1) b 131 [evV (.mk k n d s z l),.sc (.int .i64 q)] h=some (.sc (.bool (okV (.mk k n d s z l) (8-q))),h):=by
 refine pure_calm (r:= .sc (.bool (okV (.mk k n d s z l) (8-q)))) (n:=M) ⟨Tryz.f131.ntmps,(Tryz.f131.body).getD .skip,[.tmp 4]⟩ (by kernel_rfl) (by kernel_rfl) rfl (by kernel_rfl) (by simp[Tryz.f131]) (calm_valid _ _) rfl ?_ b h;rw[okV_bare,evV_eq];have hl:=lsV_3 z l;generalize evL z l=L at hl;generalize l.isEmpty=E at hl;by_cases hd:d=0
 rotate_left
 ·simp[Tryz.f131,h0,h1,h2,h3,h4,h5,h6,h7,h8,hd]
 cases hs:eqS s ⟨#[]⟩
 ·simp[Tryz.f131,h0,h1,h2,h3,h4,h5,h6,h7,h8,hd,hs]
 rcases hl with⟨rfl,rfl⟩|⟨rfl,rfl⟩|⟨rows,rfl,hr,rfl⟩
 rotate_right
 ·simp[Tryz.f131,h0,h1,h2,h3,h4,h5,h6,h7,h8,hd,hs,hr]
 all_goals simp[Tryz.f131,h0,h1,h2,h3,h4,h5,h6,h7,h8,hd,hs]
theorem val_valid8 (M:Nat)(n d q:Int)(s:ByteArray)(z:Bool)(l:List V)(b:Bool)(h:Hp)(hq0:0≤q)(hq8:q≤8)(hv:∀x∈l,PVC M x):callN cx (M+1) b 131 [evV (.mk 8 n d s z l),.sc (.int .i64 q)] h=some (.sc (.bool (okV (.mk 8 n d s z l) (8-q))),h):=by
 refine pure_calm (r:= .sc (.bool (okV (.mk 8 n d s z l) (8-q)))) (n:=M) ⟨Tryz.f131.ntmps,(Tryz.f131.body).getD .skip,[.tmp 4]⟩ (by kernel_rfl) (by kernel_rfl) rfl (by kernel_rfl) (by simp[Tryz.f131]) (calm_valid _ _) rfl ?_ b h;rw[okV_bare,evV_eq];unfold bareV;simp only[V.n,V.d,V.s,V.l];by_cases hd:d=0
 rotate_left
 ·simp[Tryz.f131,hd]
 cases hs:eqS s ⟨#[]⟩
 ·simp[Tryz.f131,hd,hs]
 by_cases hn:n=0
 rotate_left
 ·simp[Tryz.f131,hd,hs,hn]
 unfold okLst;have e1:decide (1≤8-q)= !decide (8≤q):=by
  by_cases c:8≤q
  ·rw[decide_eq_true c,decide_eq_false (by omega)];rfl
  ·rw[decide_eq_false c,decide_eq_true (by omega)];rfl
 rw[e1];rcases lsV_cases z l with⟨rfl,e⟩|e
 ·rw[e];by_cases h3:8≤q
  ·simp[Tryz.f131,hd,hs,hn,h3]
  simp[Tryz.f131,hd,hs,hn,h3,okL];refine loop_up (C:=cx) (G:=fun r=>∃h',finX _ (thenX _ _ (blockX _ (thenX _ _ (blockX _ r) _)) _)=some (_,h'))
   (fun i s=>i=0∧s.1.length=142∧gt s.1 121= .sc (.int .i64 0)∧gt s.1 122= .sc (.int .i64 0))
   (fun o s=>s.1.length=142∧o= .exit 1) 0 (by simp) (by simp) ?_ ?_
  ·rintro i fr h hle ⟨rfl,hlen,h121,h122⟩;simp only at hlen h121 h122;simp[hlen,h121,h122]
  ·rintro o fr h hn ⟨hlen,rfl⟩;simp only at hlen;simp[hlen]
 ·rw[e];have hz:=encL_length l;have hg:=encL_get l;generalize encL l=rows at hz hg;by_cases h2:64< (l.length:Int)
  ·simp[Tryz.f131,hd,hs,hn,hz,h2,show¬(l.length:Int)≤64 by omega]
  have h2':(l.length:Int)≤64:=by omega
  by_cases h3:8≤q
  ·simp[Tryz.f131,hd,hs,hn,hz,h2,h2',h3]
  simp[Tryz.f131,hd,hs,hn,hz,h2,h2',h3];have hf1:fitI .i64 (q+1)=q+1:=fit_i64 (by omega) (by omega);have e2:(8:Int)-q-1=8-(q+1):=by omega
  rw[e2];refine loop_up (C:=cx) (G:=fun r=>∃h',finX _ (thenX _ _ (blockX _ (thenX _ _ (blockX _ r) _)) _)=some (_,h'))
   (fun i s=>okL l (8-(q+1))=okLD l (8-(q+1)) i∧s.1.length=142∧gt s.1 1= .sc (.int .i64 q)∧gt s.1 120= .ls 5 rows z∧gt s.1 121= .sc (.int .i64 l.length)∧gt s.1 122= .sc (.int .i64 i))
   (fun o s=>s.1.length=142∧((o= .exit 1∧okL l (8-(q+1))=true)∨(o= .ret∧okL l (8-(q+1))=false∧gt s.1 4= .sc (.bool false)))) l.length (by simp;omega) (by simp[okLD_zero]) ?_ ?_
  ·rintro i fr h hle ⟨ho,hlen,h1,h120,h121,h122⟩;simp only at hlen h1 h120 h121 h122;by_cases hi:i<l.length
   ·obtain⟨c,hc⟩:∃c,l[i]?=some c:=⟨_,Zb hi⟩;have hr:rows[i]?=some (enc c):=by rw[hg,hc];rfl
    have hr':∀k,rows[i]'k=enc c:=fun k=>by obtain⟨_,e⟩:=Za.1 hr;exact e
    have hcv:=hv c (Zi hc);have hcall:=fun b h=>hcv b (q+1) h (by omega) (by omega)
    rw[okLD_step hc]at ho;have hf:fitI .i64 ((i:Int)+1)=((i+1:Nat):Int):=fit_i64 (by omega) (by omega);generalize okV c (8-(q+1))=K at hcall ho;cases c with
    |
     mk k' n' d' s' z' l'=>
     simp only[enc]at hr hr' hcall;generalize lsV z' (encL l')=L' at hr hr' hcall;cases K
     ·have zz:okL l (8-(q+1))=false:=by rw[ho];rfl
      clear ho;simp[hlen,h1,h120,h121,h122,hi,hz,hr,hr',hf1,hcall,zz]
     ·have zz:okL l (8-(q+1))=okLD l (8-(q+1)) (i+1):=by rw[ho];rfl
      clear ho;simp[hlen,h1,h120,h121,h122,hi,hz,hr,hr',hf1,hcall,hf];exact zz
   ·have zz:okL l (8-(q+1))=true:=by rw[ho,okLD_end l _ i (by omega)]
    simp[hlen,h1,h120,h121,h122,hi,hz,zz]
  ·rintro o fr h hn ⟨hlen,⟨rfl,hz⟩|⟨rfl,hz,h2⟩⟩
   ·simp only at hlen;simp[hlen,hz]
   ·simp only at h2;simp[h2,hz]
theorem val_valid (N:Nat)(v:V)(hs:v.s.size≤1000000000000000)(hv3:∀x∈v.l,PVC (N+3) x)(hv4:∀x∈v.l,PVC (N+4) x):PVC (N+5) v:=by
 intro b q h hq0 hq8;cases v with
 |
  mk k n d s z l=>
  simp only[V.s,V.l]at hs hv3 hv4;have g1:=fun b h=>num_In (N+3) b n h
  have g2:=fun b h=>frac_Valid (N+1) b n d h
  have g3:=fun b h=>str_IndexFunc (N+1) b s h hs
  have g4:=fun b h=>val_path (N+3) b z l h hv3
  simp only[frA]at g2;show callN cx (N+5) b 131 [evV (.mk k n d s z l),.sc (.int .i64 q)] h=_;by_cases h0:k=0
  ·subst h0;exact val_valid0 (N+4) n d q s z l b h
  by_cases h1:k=1
  ·subst h1;exact val_valid1 (N+4) n d q s z l b h
  by_cases h2:k=2
  ·subst h2;exact val_valid2 (N+4) n d q s z l b h g1
  by_cases h3:k=3
  ·subst h3;exact val_valid3 (N+4) n d q s z l b h g2
  by_cases h4:k=4
  ·subst h4;exact val_valid4 (N+4) n d q s z l b h g3
  by_cases h5:k=5
  ·subst h5;exact val_valid5 (N+4) n d q s z l b h
  by_cases h6:k=6
  ·subst h6;exact val_valid6 (N+4) n d q s z l b h
  by_cases h7:k=7
  ·subst h7;exact val_valid7 (N+4) n d q s z l b h g4
  by_cases h8:k=8
  ·subst h8;exact val_valid8 (N+4) n d q s z l b h hq0 hq8 hv4
  exact val_validX (N+4) k n d q s z l b h h0 h1 h2 h3 h4 h5 h6 h7 h8
theorem PVC_all :∀(D:Nat) (v:V),dep v≤D→bdV v→∀N,PVC (N+2*D+3) v:=by
 intro D
 induction D with
 |zero=>intro v h;have:=dep_pos v;omega
 |
  succ D ih=>
  intro v h hb N;have hl:∀x∈v.l,dep x≤D∧bdV x:=fun x hx=>⟨dep_l h x hx,(bdV_l hb).2 x hx⟩
  have hs:v.s.size≤1000000000000000:=by cases v;rw[bdV]at hb;exact hb.1
  have:=val_valid (N+2*D) v hs (fun x hx=>ih x (hl x hx).1 (hl x hx).2 N) (fun x hx=>by
   have:=ih x (hl x hx).1 (hl x hx).2 (N+1)
   rwa [show N+1+2*D+3=N+2*D+4 by omega]at this)
  rw[show N+2*(D+1)+3=N+2*D+5 by omega];exact this
theorem val_Valid (N D:Nat)(v:V)(hd:dep v≤D)(hb:bdV v)(b:Bool)(h:Hp):callN cx (N+2*D+4) b 73 [evV v] h=some (.sc (.bool (okT v)),h):=by
 have hv:=fun b h=>PVC_all D v hd hb N b 0 h (by omega) (by omega)
 have hc:=calm_evV1 v;refine pure_calm (n:=N+2*D+3) (r:= .sc (.bool (okT v))) ⟨Tryz.f73.ntmps,(Tryz.f73.body).getD .skip,[.tmp 2]⟩ (by kernel_rfl) (by kernel_rfl) rfl (by kernel_rfl) (by simp[Tryz.f73]) hc rfl ?_ b h;clear hc;unfold okT;simp only[show(8:Int)-0=8 from rfl]at hv;generalize okV v 8=K at hv;generalize N+2*D+3=M at hv;cases v with
 |
  mk k n d s z l=>
  rw[evV_eq];have he:enc (.mk k n d s z l)=[.sc (.int .i64 k),.sc (.int .i64 n),.sc (.int .i64 d),.sc (.string s),evL z l]:=rfl;rw[he]at hv;generalize evL z l=L at hv;simp[Tryz.f73,hv]
theorem val_Number (N D:Nat)(v:V)(hd:dep v≤D)(hb:bdV v)(b:Bool)(h:Hp):callN cx (N+2*D+5) b 133 [evV v] h=some (.tp [frA (numN v) (numD v),.sc (.bool (numB v))],h):=by
 have hv:=fun b h=>val_Valid N D v hd hb b h
 have hc:=calm_evV1 v;have hr:snap [] 8 (.tp [frA (numN v) (numD v),.sc (.bool (numB v))])=some (.tp [frA (numN v) (numD v),.sc (.bool (numB v))]):=rfl;clear hr
 suffices H:(∃r,r=AV.tp [frA (numN v) (numD v),.sc (.bool (numB v))]∧∀b h,callN cx (N+2*D+5) b 133 [evV v] h=some (r,h)) by
  obtain⟨r,rfl,hr⟩:=H;exact hr b h
 refine pure_ex (f:=133) (n:=N+2*D+4) (args:=[evV v]) (fun r=>r= .tp [frA (numN v) (numD v),.sc (.bool (numB v))]) ⟨Tryz.f133.ntmps,(Tryz.f133.body).getD .skip,[.cell 2 2 true,.tmp 3]⟩ (by kernel_rfl) (by kernel_rfl) rfl (by kernel_rfl) (by simp[Tryz.f133]) hc ?_;clear hc;generalize N+2*D+4=M at hv;cases v with
 |
  mk k n d s z l=>
  unfold numN numD numB;generalize okT (.mk k n d s z l)=K at hv;simp only[V.k,V.n,V.d];rw[evV_eq]at hv⊢;generalize evL z l=L at hv;cases K
  ·by_cases h2:k=2
   ·subst h2;simp[Tryz.f133,hv,frA];exact⟨_,_,⟨rfl,rfl⟩,rfl⟩
   ·by_cases h3:k=3
    ·subst h3;simp[Tryz.f133,hv,frA];exact⟨_,_,⟨rfl,rfl⟩,rfl⟩
    ·simp[Tryz.f133,hv,frA,h2,h3];exact⟨_,_,⟨rfl,rfl⟩,rfl⟩
  ·by_cases h2:k=2
   ·subst h2;simp[Tryz.f133,hv,frA];exact⟨_,_,⟨rfl,rfl⟩,rfl⟩
   ·by_cases h3:k=3
    ·subst h3;simp[Tryz.f133,hv,frA];exact⟨_,_,⟨rfl,rfl⟩,rfl⟩
    ·simp[Tryz.f133,hv,frA,h2,h3];exact⟨_,_,⟨rfl,rfl⟩,rfl⟩
end
end Go.Proofs.YtmocfjnklfpnbaaGreatDoor
