/- Plain numbers: no point of small coordinates lies near the ray of an angle. -/
import Derived.Test.YtknhbpnclokciaaZCfB1
import Derived.Test.YtknhbpnclokciaaZCfB2
import Derived.Test.YtknhbpnclokciaaZCfB3
import Derived.Test.YtknhbpnclokciaaZCfB4
import Derived.Test.YtknhbpnclokciaaZTrigs
import Derived.Test.YtknhbpnclokciaaZArcHi
import Derived.Test.YtknhbpnclokciaaZArc8
set_option linter.unusedVariables false
set_option linter.unusedSimpArgs false
namespace Alm
def T1:Nat:=2668606815930616794422295251795238276401961381301642649179619132477219630421654918950972168987929389
def e61:Rat:=1/((2^61:Int):Rat)
end Alm
namespace Go.Proofs.Ytknhbpnclokciaa
open Alm
theorem bz:29/100000000<=s1:=by unfold s1 s1n dd tp;decide +kernel
theorem JX:s1<=3/10000000:=by unfold s1 s1n dd tp;decide +kernel
theorem GI:4/100000000000000<=1-c1/\1-c1<=1/10000000000000:=by unfold c1 c1n dd tp;constructor<;>decide +kernel
theorem kV (n:Nat) (h:n<=2700000):zs n+1/10000000<=zs (n+1):=by
 rw [eY];have a:=fo n h;have b:=jL n;have c:=GI;have s:=bz;have e1:0<=(zc n-49/100)*(s1-29/100000000):=Rat.mul_nonneg (by grind) (by grind)
 have e2:0<=(1-zs n)*(1-c1):=Rat.mul_nonneg (by grind) (by grind)
 grind
theorem VM (n:Nat) (h:n<=2700000):zc (n+1)<zc n:=by
 rw [eX];have a:=fo n h;have b:=tV n h;have c:=GI;have s:=JX;have s':=bz;have e1:0<=(zc n-49/100)*(1-c1-4/100000000000000):=Rat.mul_nonneg (by grind) (by grind)
 have e2:0<=(zs n+1/1000000000)*s1:=Rat.mul_nonneg (by grind) (by grind)
 grind
theorem Qy:((ev sP 1800000*2-L0).natAbs:Int)*2^60<=L0*2:=by decide +kernel
theorem iL:u30=1/1073741824:=by unfold u30;decide +kernel
theorem Rh:0<mg:=by unfold mg;decide +kernel
theorem Rv (n:Nat) (hn:n+1=2700000):zs (n+1)<zc n:=by
 have f1:FlR (zs (n+1)) 759250124:=by rw [hn];exact Gh
 have f2:FlR (zc (n+1)) 759250124:=by rw [hn];exact BJ
 unfold FlR at f1 f2;rw [iL] at f1 f2;have m:=Rh;have e:=eX n;have e':=eY n;have b:=tV n (by omega)
 have a:=fo n (by omega)
 have b2:=jL n;have a2:=lN n;have c:=GI;have s:=bz;have s2:=JX;clear hn;generalize zs (n+1)=x' at *
 generalize zc (n+1)=y' at *
 generalize zs n=x at *
 generalize zc n=y at *
 have e1:0<=(1-y)*s1:=Rat.mul_nonneg (by grind) (by grind)
 have e2:0<=(x+1/1000000000)*(1-c1):=Rat.mul_nonneg (by grind) (by grind)
 have k:69/100<=x:=by grind
 have e3:0<=(x-69/100)*(s1-29/100000000):=Rat.mul_nonneg (by grind) (by grind)
 have e4:0<=(y-49/100)*(1-c1):=Rat.mul_nonneg (by grind) (by grind)
 grind
theorem XL (n:Nat) (hn:n=1800000):-(2/1000000000)<=zs n-1/2/\zs n-1/2<=2/1000000000:=by
 have h:=(near n (by omega)).1
 have d:=tX
 have p:-(1/1000000000000)<=ps n-1/2/\ps n-1/2<=1/1000000000000:=by
  have m:=lm n;have q:=Qy;have l:=q8;rw [<-show ((n:Nat):Int)=1800000 by omega] at q
  generalize ev sP (n:Int)=E at *
  have q1:((E*2-L0)*2^60<=L0*2)/\(-(L0*2)<=(E*2-L0)*2^60):=by omega
  have r1:(((E*2-L0)*2^60:Int):Rat)<=((L0*2:Int):Rat):=by exact_mod_cast q1.1
  have r2:((-(L0*2):Int):Rat)<=(((E*2-L0)*2^60:Int):Rat):=by exact_mod_cast q1.2
  clear q q1 h d hn;generalize L0=L at *
  simp only [Rat.intCast_mul,Rat.intCast_sub,Rat.intCast_neg] at r1 r2;generalize (L:Rat)=l0 at *
  generalize ps n=x at *
  have hx:(E:Rat)=x*l0:=m.symm;rw [hx] at r1 r2;have k:(((2^60:Int)):Rat)=1152921504606846976:=by decide +kernel
  have k2:((2:Int):Rat)=2:=by decide +kernel
  rw [k,k2] at r1 r2;refine ⟨?_,?_⟩
  . refine Rat.not_lt.1 fun hh=>?_
    have:0<(1/2-1/1000000000000-x)*l0:=Rat.mul_pos (by grind) l
    grind
  . refine Rat.not_lt.1 fun hh=>?_
    have:0<(x-1/2-1/1000000000000)*l0:=Rat.mul_pos (by grind) l
    grind
 grind
def sS (n:Nat):Rat:=if n=1800000 then 1/2 else if 2*n<=5400000 then zs n else zc (5400000-n)
theorem acp (n:Nat) (h:n<5400000):sS n<sS (n+1):=by
 unfold sS
 by_cases h1:n=1800000
 . have a:=XL n h1;have b:=kV n (by omega)
   rw [if_pos h1,if_neg (by omega),if_pos (by omega)]
   clear h1 h;grind
 . rw [if_neg h1]
   by_cases h2:n+1=1800000
   . have a:=XL (n+1) h2;have b:=kV n (by omega)
     rw [if_pos h2,if_pos (by omega)]
     clear h1 h h2;grind
   . rw [if_neg h2]
     by_cases h3:2*(n+1)<=5400000
     . rw [if_pos h3,if_pos (by omega)]
       have b:=kV n (by omega)
       clear h1 h h2 h3;grind
     . rw [if_neg h3]
       by_cases h4:2*n<=5400000
       . rw [if_pos h4];have:=Rv (5400000-(n+1)) (by omega)
         rw [show 5400000-(n+1)+1=n by omega] at this
         exact this
       . rw [if_neg h4];have:=VM (5400000-(n+1)) (by omega)
         rw [show 5400000-(n+1)+1=5400000-n by omega] at this
         exact this
theorem qg (m:Nat):∀ n:Nat,m<n->n<=5400000->sS m<sS n
 | 0,h,_=>by omega
 | n+1,h,h2=>by
  have up:=acp n (by omega)
  by_cases e:m=n
  . subst e;exact up
  . have:=qg m n (by omega) (by omega)
    clear h h2 e;grind
theorem uY:sS 0=0:=by unfold sS;rw [if_neg (by omega),if_pos (by omega)];exact fQ
theorem Hg (n:Nat) (h:n=5400000):sS n=1:=by
 unfold sS;rw [if_neg (by omega),if_neg (by omega),show 5400000-n=0 by omega]
 exact iH
theorem zo {s:Rat} {q:Nat} (h:FlR s q):((q:Int):Rat)*u30<=s/\s<=(((q:Int)+1:Int):Rat)*u30:=by
 have m:=Rh;unfold FlR at h;rw [iL] at *
 rw [Rat.intCast_add];have:((1:Int):Rat)=1:=rfl;rw [this];grind
theorem uh (n:Nat) (h:n<=5400000):(dH (n:Int):Rat)*u30<=sS n/\sS n<=((dH (n:Int)+(if dM (n:Int) then 0 else 1):Int):Rat)*u30:=by
 by_cases h0:n=0
 . subst h0;rw [uY];have a:dH ((0:Nat):Int)=0:=by decide
   have b:dM ((0:Nat):Int)=true:=by decide
   rw [a,b,if_pos rfl];have:((0:Int):Rat)=0:=rfl;rw [Int.add_zero,this];grind
 by_cases h1:n=1800000
 . have a:dH (n:Int)=536870912:=by rw [h1];decide
   have b:dM (n:Int)=true:=by rw [h1];decide
   have c:sS n=1/2:=by unfold sS;rw [if_pos h1]
   rw [a,b,c,if_pos rfl,iL,Int.add_zero];have:((536870912:Int):Rat)=536870912:=rfl;rw [this];clear a b c h h0 h1;grind
 by_cases h2:n=5400000
 . have a:dH (n:Int)=1073741824:=by rw [h2];decide
   have b:dM (n:Int)=true:=by rw [h2];decide
   rw [a,b,Hg n h2,if_pos rfl,iL,Int.add_zero];have:((1073741824:Int):Rat)=1073741824:=rfl;rw [this];clear a b h h0 h1 h2;grind
 have e:dM (n:Int)=false:=by
  unfold dM;simp only [Bool.or_eq_false_iff,beq_eq_false_iff_ne];refine ⟨⟨?_,?_⟩,?_⟩<;>omega
 have v:dH (n:Int)=(lv n:Int):=by
  unfold dH;rw [if_neg (by omega),if_neg (by omega),if_neg (by omega),Int.toNat_natCast]
 rw [e,v,if_neg (by simp)]
 unfold sS lv;rw [if_neg h1]
 by_cases h3:2*n<=5400000
 . rw [if_pos h3,if_pos h3];obtain ⟨q,hq⟩:=Oq n (by omega) h0 h1
   rw [BZ n (by omega) q hq]
   exact zo hq
 . rw [if_neg h3,if_neg h3];obtain ⟨q,hq⟩:=Tf (5400000-n) (by omega) (by omega)
   rw [BF (5400000-n) (by omega) q hq]
   exact zo hq
def sR (n:Int):Rat:=if 0<=n then sS n.toNat else -sS (-n).toNat
theorem rQ (n:Int) (h0:0<=n) (h1:n<=5400000):aH n=n/\fA n=false:=by
 unfold aH fA ak;simp only [];refine ⟨by split<;>split<;>omega,by simp;omega⟩
theorem tT (n:Int) (h0:-5400000<=n) (h1:n<0):aH n=-n/\fA n=true:=by
 unfold aH fA ak;simp only [];refine ⟨by split<;>split<;>omega,by simp;omega⟩
theorem zL (n:Int) (h0:-5400000<=n) (h1:n<=5400000):(bLo n:Rat)*u30<=sR n/\sR n<=(bHi n:Rat)*u30:=by
 unfold sR bLo bHi
 by_cases h:0<=n
 . obtain ⟨a,b⟩:=rQ n h h1;rw [a,b,if_pos h,if_neg (by simp),if_neg (by simp)]
   have:=uh n.toNat (by omega)
   rw [Int.toNat_of_nonneg h] at this;exact this
 . obtain ⟨a,b⟩:=tT n h0 (by omega)
   rw [a,b,if_neg h,if_pos rfl,if_pos rfl];have:=uh (-n).toNat (by omega)
   rw [Int.toNat_of_nonneg (show (0:Int)<=-n by omega)] at this
   rw [Rat.intCast_neg,Rat.intCast_neg];generalize (((dH (-n)+if dM (-n)=true then 0 else 1:Int)):Rat)=x at *
   generalize ((dH (-n):Int):Rat)=y at *
   clear a b h h0 h1;grind
theorem VV (m n:Int) (h0:-5400000<=m) (h:m<n) (h1:n<=5400000):sR m<sR n:=by
 unfold sR
 by_cases hm:0<=m
 . rw [if_pos hm,if_pos (by omega)]
   exact qg _ _ (by omega) (by omega)
 . rw [if_neg hm];have a:=qg 0 (-m).toNat (by omega) (by omega)
   rw [uY] at a
   by_cases hn:0<=n
   . rw [if_pos hn]
     have b:0<=sS n.toNat:=by
      by_cases z:n.toNat=0
      . rw [z,uY];exact Rat.le_refl
      . have:=qg 0 n.toNat (by omega) (by omega)
        rw [uY] at this;exact Rat.le_of_lt this
     clear h0 h h1 hm hn;grind
   . rw [if_neg hn];have:=qg (-n).toNat (-m).toNat (by omega) (by omega)
     clear h0 h h1 hm hn;grind
theorem GJ (m n:Int) (h0:-5400000<=m) (h:m<n) (h1:n<=5400000):bLo m<bHi n:=by
 have a:=(zL m h0 (by omega)).1
 have b:=(zL n (by omega) h1).2
 have c:=VV m n h0 h h1;rw [iL] at a b
 have k:(bLo m:Rat)<(bHi n:Rat):=by
  clear h0 h h1;grind
 exact_mod_cast k
end Go.Proofs.Ytknhbpnclokciaa
namespace Alm
end Alm
namespace Alm
end Alm
namespace Alm
end Alm
namespace Alm
