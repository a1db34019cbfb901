/- Part of the proof. -/
import Derived.Test.YtaibpnppeiigdaaGreatDoorP30
import Derived.Test.YtaibpnppeiigdaaGreatDoorP33
set_option maxRecDepth 100000
namespace Go.Proofs.YtaibpnppeiigdaaGreatDoor
open Go Go.Ae Go.Proofs.Tryz
theorem Y1 (D:Nat)(g:Gr)(cs:List Ch)(a:Am)(z:Bool)(hb:AX D g)(hs:SzB g)(hl:cs.length<=1000000000000000)(hc:∀c∈cs,fB c.v<=D/\gV c.v/\c.name.size<=1000000000000000)(hd:fB a.v<=D)(hv:gV a.v)(ht:a.ts.length<=1000000000000000):
 oY cx 3 [.ag (dn g),.ls 10 (zd cs) z,.ag (encA a)] (.sc (.bool true)):=by
 have SH:∀c∈cs,fB c.v<=D/\gV c.v:=λc h=>⟨(hc c h).1,(hc c h).2.1⟩
 have hS:∀t h,cW cx (3*D+6000) t 6 [.ag (dn g),.ls 10 (zd cs) z] h=some (.sc (.bool (tC g && Fj cs)),h):=λt h=>by
  have:=Po (2*D+5996) D t g cs z h hb hs hl hc
  rwa [show 2*D+5996+D+4=3*D+6000 by omega]at this
 have hL:∀t h,cW cx (3*D+6000) t 7 [.ag [(),.ls 9 [encA a] true]] h=some (.sc (.bool (vS 0 [a])),h):=λt h=>by
  have:=Y2 (2*D+5996) D t (.sc (.slice none 0 0)) 0 [a] true h (.inr ⟨rfl,rfl⟩) (by simp) (λx hx=>by
   have:x=a:=by simpa using hx
   subst this;exact⟨hd,hv⟩)
  rw[show 2*D+5996+D+4=3*D+6000 by omega]at this;exact this
 have hX:∃X e,DU g cs a= .tp [X,.sc (.int .i64 e)]/\(X= .sc (.slice none 0 0)\/∃r,X= .ls 2 r false)/\∀t h,cW cx (3*D+6000) t 11 [X,X] h=some ((true:AV),h):=by
  unfold DU;by_cases he:(jG g cs).2.2=0
  .rw[dd he];have hD:1<=D:=by have:=gZ a.v;omega
   refine⟨_,_,rfl,.inr ⟨_,rfl⟩,λt h=>?_⟩;have:=S8 5991 D t (Hq (iW g a) (iW (jG g cs).1 a)) h (qf (K1 hD g _ a))
   rwa [show 5991+3*D+9=3*D+6000 by omega]at this
  .rw[db he];exact⟨_,_,rfl,.inl rfl,λt h=>Fk (3*D+5999) t h⟩
 obtain⟨X,e,hXe,hX1,hE⟩:=hX;have hA:(tC g && Fj cs)=true->vS 0 [a]=true->AmB D a/\cs.length<=1000000:=λq1 q2=>by
  unfold vS lI at q2;unfold Fj at q1;simp only[Zh,Zz,Zn,List.all_nil]at q1 q2;exact⟨⟨hd,hv,by omega,ht⟩,by omega⟩
 have hP:(tC g && Fj cs)=true->vS 0 [a]=true->∀t h,cW cx (3*D+6000) t 9 [.ag (dn g),.ls 10 (zd cs) z,.ag (encA a)] h=some (.tp [X,.sc (.int .i64 e)],h):=λq1 q2 t h=>by
  obtain⟨ha,fq⟩:=hA q1 q2;have:=ada (D+5983) D t g cs z a h hb fq SH ha
  rwa [show D+5983+2*D+17=3*D+6000 by omega,hXe]at this
 have hR:(tC g && Fj cs)=true->vS 0 [a]=true->∀t h,cW cx (3*D+6000) t 10 [.ag (dn g),.ls 10 (zd cs) z,.ag (encA a)] h=some (.tp [X,.sc (.int .i64 e)],h):=λq1 q2 t h=>by
  obtain⟨ha,fq⟩:=hA q1 q2;have:=adb 990 D t g cs z a h hb fq SH ha
  rwa [show 990+3*D+5010=3*D+6000 by omega,hXe]at this
 have hlv:∀t h,cW cx (3*D+6000) t 8 [] h=some ((true:AV),h):=λt h=>by
  have:=live (3*D+5910);exact Pp (n:=3*D+5999) rfl (by kernel_rfl) this t h
 obtain⟨h',hw⟩:=Y3 (3*D+6000) g (zd cs) z a _ _ X e hX1 hS hL hP hR hE hlv;have hb:qR cx (cW cx (3*D+6000)) 3 [.ag (dn g),.ls 10 (zd cs) z,.ag (encA a)] []=some ((true:AV),h'):=by
  rw[kh (fi:=⟨f3.ntmps,(f3.body).getD .skip,[.tmp 6]⟩) (by kernel_rfl) (by kernel_rfl) (by simp[f3])];exact hw
 exact Hr ade hb (m:=8) rfl
end Go.Proofs.YtaibpnppeiigdaaGreatDoor
