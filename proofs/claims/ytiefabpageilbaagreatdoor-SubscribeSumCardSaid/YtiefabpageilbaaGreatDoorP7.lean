/- The abstract evaluator, part 19: values handed on for good; blocks given up. -/
import Derived.Test.YtiefabpageilbaaGreatDoorP4
set_option linter.all false
namespace Go.Ae
open Go
theorem Rp.anti {w:World}{X X':Nat→Prop}{ρ:Nat→Nat}{n:Nat}(hX:∀b,X' b→X b){v:Value}{x:AV}(h:Rp w X ρ n v x):Rp w X' ρ n v x:=by
 induction h with
 |im hi=>exact .im (hi.anti hX)
 |sl id sz off len cap k cur t fz h1 h2 h3 h4 h5 h6 h7=>exact .sl id sz off len cap k cur t fz h1 h2 h3 h4 h5 h6 h7
 |pt id off h1=>exact .pt id off h1
 |mp id h1=>exact .mp id h1
 |fn f us xs h1 h2 ih=>exact .fn f us xs h1 ih
 |ag us xs h1 h2 h3 ih=>exact .ag us xs h1 h2 ih
 |tp us xs h1 h2 ih=>exact .tp us xs h1 ih
theorem Sim.outc {G:Nat→Option (List Value)}{w:World}{X:Nat→Prop}{ρ:Nat→Nat}{h:Hp}(hs:Sim G w X ρ h){id:Nat}{cs:List AV}(hid:rowOf h id=some cs):¬X (ρ id):=by
 unfold rowOf at hid;split at hid
 ·rename_i cs' hi;exact hs.out id ⟨_,hi,rfl⟩
 ·rename_i cs' hi;exact fun hx=>hs.cold id _ hi (.inl hx)
 ·rename_i cs' hi;exact hs.out id ⟨_,hi,rfl⟩
 ·cases hid
theorem snap_sound {G:Nat→Option (List Value)}{w:World}{X:Nat→Prop}{ρ:Nat→Nat}{h:Hp}(hs:Sim G w X ρ h):∀(n:Nat) (v:Value) (x y:AV),Rp w (tot X ρ h) ρ h.length v x→snap h n x=some y→Ri w X v y:=by
 have base:∀{v:Value} {x:AV},Rp w (tot X ρ h) ρ h.length v x→(match x with| .sc _| .ls .. | .rp .. | .oc=>true|_=>false)=true→Ri w X v x:=by
  intro v x hr hx;cases hr with
  |im hi=>exact hi.anti fun b=> .inl
  |_=>simp at hx
 intro n
 induction n with
 |
  zero=>
  intro v x y hr hy;cases x<;>simp only[snap,Zc]at hy<;>first|(subst hy;exact base hr rfl)|cases hy
 |
  succ n ih=>
  intro v x y hr hy;cases x with
  |sc u=>simp only[snap,Zc]at hy;subst hy;exact base hr rfl
  |ls sz rows z=>simp only[snap,Zc]at hy;subst hy;exact base hr rfl
  |rp row j=>simp only[snap,Zc]at hy;subst hy;exact base hr rfl
  |oc=>simp only[snap,Zc]at hy;subst hy;exact base hr rfl
  |
   pt id off=>
   simp only[snap]at hy;split at hy
   case h_2=>cases hy
   rename_i cs hid;simp only[Ze]at hy;obtain⟨ys,hys,rfl⟩:=hy;obtain⟨rfl,_⟩:=hr.pt_inv;obtain⟨cur,t,fz,us,d1,d3⟩:=hs.cells hid;obtain⟨m1,m2⟩:=mapM_get hys;have hcell:∀(k:Nat) (y:AV),ys[k]?=some y→cur[k]?=some (us k)∧(us k).oneCell'=true∧Ri w X (us k) y:=by
    intro k y hk;have hkl:k<cs.length:=by have:=(Za.1 hk).1;omega
    obtain⟨b,hb,hsn⟩:=m2 k _ (Zb hkl);rw[hk]at hb;cases hb;have h3:=d3 k _ (Zb hkl);exact⟨h3.1,h3.2.1,ih _ _ _ h3.2.2 hsn⟩
   have:=Ri.rp (w:=w) (X:=X) (ρ id) 0 off ys us cur t fz (hs.outc hid) d1 (fun k y hk=>by rw[Nat.zero_add];exact⟨(hcell k y hk).1,(hcell k y hk).2.1⟩) (fun k y hk=>(hcell k y hk).2.2);simpa using this
  |
   ag xs=>
   simp only[snap,Ze]at hy;obtain⟨ys,hys,rfl⟩:=hy;obtain⟨us,rfl,h1,h2,h3⟩:=hr.ag_inv;obtain⟨m1,m2⟩:=mapM_get hys;refine .ag us ys (by omega) h2 fun k y hk=>?_
   have hkl:k<xs.length:=by have:=(Za.1 hk).1;omega
   obtain⟨b,hb,hsn⟩:=m2 k _ (Zb hkl);rw[hk]at hb;cases hb;exact ih _ _ _ (h3 k _ (Zb hkl)) hsn
  |
   tp xs=>
   simp only[snap,Ze]at hy;obtain⟨ys,hys,rfl⟩:=hy;obtain⟨us,rfl,h1,h3⟩:=hr.tp_inv;obtain⟨m1,m2⟩:=mapM_get hys;refine .tp us ys (by omega) fun k y hk=>?_
   have hkl:k<xs.length:=by have:=(Za.1 hk).1;omega
   obtain⟨b,hb,hsn⟩:=m2 k _ (Zb hkl);rw[hk]at hb;cases hb;exact ih _ _ _ (h3 k _ (Zb hkl)) hsn
  |
   fn f xs=>
   simp only[snap,Ze]at hy;obtain⟨ys,hys,rfl⟩:=hy;obtain⟨us,rfl,h1,h3⟩:=hr.fn_inv;obtain⟨m1,m2⟩:=mapM_get hys;refine .fn f us ys (by omega) fun k y hk=>?_
   have hkl:k<xs.length:=by have:=(Za.1 hk).1;omega
   obtain⟨b,hb,hsn⟩:=m2 k _ (Zb hkl);rw[hk]at hb;cases hb;exact ih _ _ _ (h3 k _ (Zb hkl)) hsn
  |
   sl id sz off len kk=>
   simp only[snap]at hy;split at hy
   case h_2=>cases hy
   rename_i cs hid;split at hy
   case isFalse=>cases hy
   rename_i hle;simp only[Ze]at hy;obtain⟨ys,hys,rfl⟩:=hy;obtain⟨cap,cur0,t0,fz,rfl,c1,c2,c3,_,_,c4,c5⟩:=hr.sl_inv;obtain⟨cur,t1,fz1,us,d1,d3⟩:=hs.cells hid;obtain⟨m1,m2⟩:=mapM_get hys;have hylen:ys.length=len*sz:=by rw[m1];simp;omega
   have hrow:∀(i:Nat) (row:List AV),((List.range len).map fun i=>(ys.drop (i*sz)).take sz)[i]?=some row→i<len∧row=(ys.drop (i*sz)).take sz:=by
    intro i row hr';simp only[Zs,Ze]at hr';obtain⟨k,hk,rfl⟩:=hr';have hil:i<len:=by have:=(Za.1 hk).1;simpa using this
    rw[List.getElem?_range hil]at hk;cases hk;exact⟨hil,rfl⟩
   have hcell:∀(i:Nat) (row:List AV) (j:Nat) (x:AV),((List.range len).map fun i=>(ys.drop (i*sz)).take sz)[i]?=some row→row[j]?=some x→j<sz∧i*sz+j<len*sz∧ys[i*sz+j]?=some x:=by
    intro i row j x hr' hx;obtain⟨hil,rfl⟩:=hrow i row hr';rw[List.getElem?_take]at hx;split at hx
    ·rename_i hj;rw[List.getElem?_drop]at hx;refine⟨hj,?_,hx⟩;have:=(Za.1 hx).1;omega
    ·cases hx
   have hval:∀(k:Nat) (y:AV),ys[k]?=some y→k<len*sz→cur[off+k]?=some (us (off+k))∧(us (off+k)).oneCell'=true∧Ri w X (us (off+k)) y:=by
    intro k y hk hkl;have hcs:((cs.drop off).take (len*sz))[k]?=cs[off+k]?:=by
     rw[List.getElem?_take,if_pos hkl,List.getElem?_drop]
    have hkc:off+k<cs.length:=by omega
    obtain⟨b,hb,hsn⟩:=m2 k cs[off+k] (by rw[hcs,Zb hkc]);rw[hk]at hb;cases hb;have h3:=d3 (off+k) _ (Zb hkc);exact⟨h3.1,h3.2.1,ih _ _ _ h3.2.2 hsn⟩
   refine .ls (ρ id) off len cap sz _ false (fun i j=>us (off+(i*sz+j))) cur t1 fz1 (hs.outc hid) d1 (by simp) c4 c5 (fun h=>by cases h) ?_ ?_ ?_
   ·intro i row hr';obtain⟨hil,rfl⟩:=hrow i row hr';have:(i+1)*sz≤len*sz:=Zv _ hil;rw[Nat.add_mul]at this;simp;omega
   ·intro i row j x hr' hx;obtain⟨_,q2,q3⟩:=hcell i row j x hr' hx;have:=hval _ _ q3 q2;exact⟨by rw[←this.1];congr 1;omega,this.2.1⟩
   ·intro i row j x hr' hx;obtain⟨_,q2,q3⟩:=hcell i row j x hr' hx;exact(hval _ _ q3 q2).2.2
  |_=>simp[snap]at hy
theorem rowOf_mask {ids:List Nat}{h:Hp}{id:Nat}{cs:List AV}(hr:rowOf (mask ids h) id=some cs):rowOf h id=some cs:=by
 unfold rowOf at hr⊢;have key:∀b,(mask ids h)[id]?=some b→b≠ .dead→h[id]?=some b:=by
  intro b hb hd;unfold mask at hb;simp only[Zs,Ze]at hb;obtain⟨k,hk,hb⟩:=hb;have hkl:id<h.length:=by have:=(Za.1 hk).1;simpa using this
  rw[List.getElem?_range hkl]at hk;cases hk;split at hb
  ·simp only[List.getD,Zb hkl,Option.getD_some]at hb;rw[Zb hkl,hb]
  ·exact absurd hb.symm hd
 split at hr
 ·rename_i cs' hi;rw[key _ hi (by simp)];exact hr
 ·rename_i cs' hi;rw[key _ hi (by simp)];exact hr
 ·rename_i cs' hi;rw[key _ hi (by simp)];exact hr
 ·cases hr
theorem snap_mask {ids:List Nat}{h:Hp}:∀(n:Nat) (x y:AV),snap (mask ids h) n x=some y→snap h n x=some y:=by
 intro n
 induction n with
 |zero=>intro x y hs;cases x<;>simp_all [snap]
 |
  succ n ih=>
  have many:∀(xs ys:List AV),xs.mapM (snap (mask ids h) n)=some ys→xs.mapM (snap h n)=some ys:=by
   intro xs
   induction xs with
   |nil=>intro ys hm;simpa using hm
   |
    cons x xs ihx=>
    intro ys hm;simp only[Zo,Option.bind_eq_bind,Yb,Option.pure_def,Zc]at hm⊢;obtain⟨b,hb,bs,hbs,rfl⟩:=hm;exact⟨b,ih _ _ hb,bs,ihx _ hbs,rfl⟩
  intro x y hs;cases x with
  |sc u=>simpa[snap]using hs
  |ls sz rows z=>simpa[snap]using hs
  |rp row j=>simpa[snap]using hs
  |oc=>simpa[snap]using hs
  |
   pt id off=>
   simp only[snap]at hs⊢;split at hs
   case h_2=>cases hs
   rename_i cs hid;rw[rowOf_mask hid];simp only[Ze]at hs⊢;obtain⟨ys,hys,rfl⟩:=hs;exact⟨ys,many _ _ hys,rfl⟩
  |
   sl id sz off len k=>
   simp only[snap]at hs⊢;split at hs
   case h_2=>cases hs
   rename_i cs hid;rw[rowOf_mask hid];simp only;split at hs
   case isFalse=>cases hs
   rename_i hle;rw[if_pos hle];simp only[Ze]at hs⊢;obtain⟨ys,hys,rfl⟩:=hs;exact⟨ys,many _ _ hys,rfl⟩
  |
   ag xs=>
   simp only[snap,Ze]at hs⊢;obtain⟨ys,hys,rfl⟩:=hs;exact⟨ys,many _ _ hys,rfl⟩
  |
   tp xs=>
   simp only[snap,Ze]at hs⊢;obtain⟨ys,hys,rfl⟩:=hs;exact⟨ys,many _ _ hys,rfl⟩
  |
   fn f xs=>
   simp only[snap,Ze]at hs⊢;obtain⟨ys,hys,rfl⟩:=hs;exact⟨ys,many _ _ hys,rfl⟩
  |_=>simp[snap]at hs
theorem freeze_get {ids:List Nat}{h h':Hp}(hz:freeze ids h=some h'):h'.length=h.length∧∀(i:Nat) (b':Blk),h'[i]?=some b'→
 (i∉ids∧h[i]?=some b')∨(i∈ids∧((∃cs cs',h[i]?=some (.row cs)∧cs.mapM (snap (mask ids h) 8)=some cs'∧b'= .ice cs')∨(h[i]?=some b'∧liveB b'=false))):=by
 unfold freeze at hz;obtain⟨m1,m2⟩:=mapM_get hz;have hl:h'.length=h.length:=by rw[m1];simp
 refine⟨hl,fun i b' hi=>?_⟩;have hil:i<h.length:=by have:=(Za.1 hi).1;omega
 obtain⟨b,hb,hf⟩:=m2 i i (by rw[List.getElem?_range hil]);rw[hi]at hb;cases hb;split at hf
 ·rename_i hc;have hmem:i∈ids:=by simpa using hc
  right;refine⟨hmem,?_⟩;split at hf
  ·rename_i cs hh;simp only[Ze]at hf;obtain⟨cs',hcs,rfl⟩:=hf;exact .inl ⟨cs,cs',hh,hcs,rfl⟩
  ·rename_i cs hh;cases hf;exact .inr ⟨hh,rfl⟩
  ·rename_i hh;cases hf;exact .inr ⟨hh,rfl⟩
  ·cases hf
 ·rename_i hc;exact .inl ⟨by simpa using hc,hf⟩
theorem freeze_sound {G:Nat→Option (List Value)}{w:World}{X:Nat→Prop}{ρ:Nat→Nat}{h h':Hp}{ids:List Nat}(hs:Sim G w X ρ h)(hz:freeze ids h=some h'):
 Ext G w X ρ h w ρ h'∧∀(n:Nat) (v:Value) (x y:AV),Rp w (tot X ρ h) ρ h.length v x→snap (mask ids h) n x=some y→Ri w (tot X ρ h') v y:=by
 obtain⟨hl,hg⟩:=freeze_get hz;have hlive:∀i,live h' i→live h i∧i∉ids:=by
  rintro i ⟨b,hi,hb⟩;rcases hg i b hi with⟨h1,h2⟩|⟨_,⟨cs,cs',_,_,rfl⟩|⟨_,h3⟩⟩
  ·exact⟨⟨b,h2,hb⟩,h1⟩
  ·cases hb
  ·rw[h3]at hb;cases hb
 have hml:(mask ids h).length=h.length:=by simp[mask]
 have hmk:∀(i:Nat) (b:Blk),(mask ids h)[i]?=some b→b≠ .dead→h[i]?=some b∧i∈ids:=by
  intro i b hb hd;unfold mask at hb;simp only[Zs,Ze]at hb;obtain⟨k,hk,hb⟩:=hb;have hkl:i<h.length:=by have:=(Za.1 hk).1;simpa using this
  rw[List.getElem?_range hkl]at hk;cases hk;split at hb
  ·rename_i hc;simp only[List.getD,Zb hkl,Option.getD_some]at hb;rw[Zb hkl,hb];exact⟨rfl,by simpa using hc⟩
  ·exact absurd hb.symm hd
 have hmlive:∀i,live (mask ids h) i→live h i∧i∈ids:=by
  rintro i ⟨b,hi,hb⟩;have:=hmk i b hi (fun e=>by subst e;cases hb);exact⟨⟨b,this.1,hb⟩,this.2⟩
 have hsub:∀b,tot (tot X ρ h') ρ (mask ids h) b→tot X ρ h b:=by
  rintro b ((hx|⟨i,hi,e⟩)|⟨i,hi,e⟩)
  ·exact .inl hx
  ·exact .inr ⟨i,(hlive i hi).1,e⟩
  ·exact .inr ⟨i,(hmlive i hi).1,e⟩
 have hsm:Sim G w (tot X ρ h') ρ (mask ids h):=by
  refine⟨?_,fun g row hgr=>?_,fun i j hi hj=>hs.inj i j (hmlive i hi).1 (hmlive j hj).1,?_,?_,?_⟩
  ·rintro b (hx|⟨i,hi,e⟩)
   ·exact hs.xlt b hx
   ·rw[←e];exact hs.lt (hlive i hi).1
  ·obtain⟨h1,h2⟩:=hs.glob g row hgr;exact⟨fun hh=>h1 (hsub g hh),h2⟩
  ·rintro i hi (hx|⟨j,hj,e⟩)
   ·exact hs.out i (hmlive i hi).1 hx
   ·have:=hs.inj j i (hlive j hj).1 (hmlive i hi).1 e;subst this;exact(hlive j hj).2 (hmlive j hi).2
  ·intro i cs hi hh;exact hs.cold i cs (hmk i _ hi (by simp)).1 (hsub _ hh)
  ·intro i b hi;by_cases hd:b= .dead
   ·subst hd;trivial
   ·have hb:=hs.blk i b (hmk i b hi hd).1;cases b with
    |dead=>exact absurd rfl hd
    |
     row cs=>
     obtain⟨cur,t,fz,us,h1,hf,h2,h3⟩:=hb;exact⟨cur,t,fz,us,h1,hf,h2,fun k x hk=>⟨(h3 k x hk).1,(h3 k x hk).2.1,by rw[hml];exact(h3 k x hk).2.2.anti hsub⟩⟩
    |
     map es clock=>
     obtain⟨ms,h1,h2,hnd,h3⟩:=hb;refine⟨ms,h1,h2,hnd,fun k e hk=>?_⟩;obtain⟨m,a1,a2,a3,a4,a5⟩:=h3 k e hk;exact⟨m,a1,a2,a3,a4,by rw[hml];exact a5.anti hsub⟩
    |
     ice cs=>
     obtain⟨cur,t,fz,us,h1,h3⟩:=hb;exact⟨cur,t,fz,us,h1,fun k x hk=>⟨(h3 k x hk).1,(h3 k x hk).2.1,(h3 k x hk).2.2.anti hsub⟩⟩
    |iter s p=>exact hb
    |
     raw cs=>
     obtain⟨cur,t,fz,us,h1,hf,h2,h3⟩:=hb;exact⟨cur,t,fz,us,h1,hf,h2,fun k x hk=>⟨(h3 k x hk).1,(h3 k x hk).2.1,by rw[hml];exact(h3 k x hk).2.2.anti hsub⟩⟩
 have hsnap:∀(n:Nat) (v:Value) (x y:AV),Rp w (tot X ρ h) ρ h.length v x→snap (mask ids h) n x=some y→Ri w (tot X ρ h') v y:=fun n v x y hr hy=>
  snap_sound hsm n v x y (by rw[hml];exact hr.anti hsub) hy
 refine⟨ext_less hs h' hl fun i b' hi=>?_,hsnap⟩;rcases hg i b' hi with⟨_,h2⟩|⟨_,⟨cs,cs',h1,h2,rfl⟩|⟨h1,_⟩⟩
 ·exact .inr (.inl h2)
 ·refine .inr (.inr ⟨cs',rfl,⟨_,h1,rfl⟩,?_⟩);obtain⟨cur,t,fz,us,d1,_,_,d3⟩:=hs.row i cs h1;obtain⟨m1,m2⟩:=mapM_get h2;refine⟨cur,t,fz,us,d1,fun k y hk=>?_⟩;have hkl:k<cs.length:=by have:=(Za.1 hk).1;omega
  obtain⟨b,hb,hsn⟩:=m2 k _ (Zb hkl);rw[hk]at hb;cases hb;have h3:=d3 k _ (Zb hkl);exact⟨h3.1,h3.2.1,hsnap 8 _ _ _ h3.2.2 hsn⟩
 ·exact .inr (.inl h1)
end Go.Ae
