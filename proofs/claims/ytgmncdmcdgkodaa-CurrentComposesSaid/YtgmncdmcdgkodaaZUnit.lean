/- Exact points of the unit circle near all angles: the enclosures of sine and cosine hold them. -/
import Derived.Test.YtgmncdmcdgkodaaZSides
import Derived.Test.YtgmncdmcdgkodaaZSp
set_option linter.unusedVariables false
set_option linter.unusedSimpArgs false
namespace Go.Proofs.Ytgmncdmcdgkodaa
open Alm
def ee:Rat:=1/1606938044258990275541962092341162602522202993782792835301376
theorem bM:0<ee:=by unfold ee;decide +kernel
theorem lV:4*bC<=1/4*ee:=by unfold bC aK ee;decide +kernel
theorem JF:((ev sP 1800000*2-L0).natAbs:Int)*2^201<=L0*2:=by decide +kernel
theorem M7 (n:Nat) (hn:n=1800000):-ee<=zs n-1/2/\zs n-1/2<=ee:=by
 have h:=(near n (by omega)).1
 have d:=lV;have dp:0<bC:=by unfold bC aK;decide +kernel
 have p:-(1/2*ee)<=ps n-1/2/\ps n-1/2<=1/2*ee:=by
  have m:=iK n;have q:=JF;have l:=kQ;rw [<-show ((n:Nat):Int)=1800000 by omega] at q
  generalize ev sP (n:Int)=E at *
  have q1:((E*2-L0)*2^201<=L0*2)/\(-(L0*2)<=(E*2-L0)*2^201):=by omega
  have r1:(((E*2-L0)*2^201:Int):Rat)<=((L0*2:Int):Rat):=Rat.intCast_le_intCast.2 q1.1;have r2:((-(L0*2):Int):Rat)<=(((E*2-L0)*2^201:Int):Rat):=Rat.intCast_le_intCast.2 q1.2;clear q q1 h d hn dp;generalize L0=L at *
  simp only [Rat.intCast_mul,Rat.intCast_sub,Rat.intCast_neg] at r1 r2;generalize (L:Rat)=l0 at *
  generalize ps n=x at *
  have hx:(E:Rat)=x*l0:=m.symm;rw [hx] at r1 r2;have k:(((2^201:Int)):Rat)=3213876088517980551083924184682325205044405987565585670602752:=by decide +kernel
  have k2:((2:Int):Rat)=2:=by decide +kernel
  rw [k,k2] at r1 r2;have e1:ee=1/1606938044258990275541962092341162602522202993782792835301376:=rfl;rw [e1];refine ⟨?_,?_⟩
  . refine Rat.not_lt.1 fun hh=>?_
    have:0<(1/2-1/2*(1/1606938044258990275541962092341162602522202993782792835301376)-x)*l0:=Rat.mul_pos (by grind) l
    grind
  . refine Rat.not_lt.1 fun hh=>?_
    have:0<(x-1/2-1/2*(1/1606938044258990275541962092341162602522202993782792835301376))*l0:=Rat.mul_pos (by grind) l
    grind
 have e:=bM;grind
theorem BG (n:Nat) (h:n<=5400000):-ee<=tS n-sS n/\tS n-sS n<=ee:=by
 have e:=bM;unfold tS sS
 by_cases h1:n=1800000
 . rw [if_pos h1,if_pos (by omega)]
   exact M7 n h1
 . rw [if_neg h1]
   by_cases h2:n<=2700000
   . rw [if_pos h2,if_pos (by omega)];grind
   . rw [if_neg h2,if_neg (by omega)];grind
theorem OU (n:Nat):tS n*tS n+tC n*tC n=1:=by
 unfold tS tC;split
 . have:=kS n;grind
 . have:=kS (5400000-n);grind
theorem LQ (n:Nat) (h:n<=5400000):-ee<=tC n-tS (5400000-n)/\tC n-tS (5400000-n)<=ee:=by
 have e:=bM;unfold tS tC
 by_cases h1:n=2700000
 . rw [if_pos (show n<=2700000 by omega),if_pos (show 5400000-n<=2700000 by omega)]
   have e1:5400000-n=2700000:=by omega
   have m:=gF;have d:=lV;rw [e1,h1];generalize zs 2700000=x at *
   generalize zc 2700000=y at *
   clear h h1 e1;grind
 . by_cases h2:n<=2700000
   . rw [if_pos h2,if_neg (by omega),show 5400000-(5400000-n)=n by omega];grind
   . rw [if_neg h2,if_pos (by omega)];grind
def sg (n:Int):Rat:=if aY n then -tS (ax n).toNat else tS (ax n).toNat
def cg (n:Int):Rat:=if aY (n+5400000) then -tC (ax n).toNat else tC (ax n).toNat
theorem pI (n:Int):sg n*sg n+cg n*cg n=1:=by
 have t:=OU (ax n).toNat;unfold sg cg;split<;>split<;>grind
theorem dD (n:Int):ax (n+5400000)=5400000-ax n:=by
 unfold ax ai;simp only []
 repeat' split
 all_goals omega
theorem IU (n:Int) (x:Rat) (e:Rat) (h1:-e<=x-sS (ax n).toNat) (h2:x-sS (ax n).toNat<=e) :
 (bLo n:Rat)*u30-e<=(if aY n then -x else x)/\(if aY n then -x else x)<=(bHi n:Rat)*u30+e:=by
 have b:=fC n;have s:=mG (ax n).toNat (by omega)
 rw [Int.toNat_of_nonneg b.1] at s;unfold bLo bHi
 by_cases q:aY n=true
 . rw [if_pos q,if_pos q,if_pos q];generalize dJ (ax n)+(if fD (ax n) then 0 else 1)=H at *
   generalize dJ (ax n)=L at *
   rw [Rat.intCast_neg,Rat.intCast_neg]
   constructor<;>grind
 . rw [if_neg q,if_neg q,if_neg q];generalize dJ (ax n)+(if fD (ax n) then 0 else 1)=H at *
   generalize dJ (ax n)=L at *
   constructor<;>grind
theorem SI (n:Int):(bLo n:Rat)*u30-2*ee<=sg n/\sg n<=(bHi n:Rat)*u30+2*ee:=by
 have b:=fC n;have t:=BG (ax n).toNat (by omega)
 have e:=bM;exact IU n _ (2*ee) (by grind) (by grind)
theorem PZ (n:Int):(bLo (n+5400000):Rat)*u30-2*ee<=cg n/\cg n<=(bHi (n+5400000):Rat)*u30+2*ee:=by
 have b:=fC n;have t:=LQ (ax n).toNat (by omega)
 have t2:=BG (5400000-(ax n).toNat) (by omega)
 have e:=dD n;have e2:(ax (n+5400000)).toNat=5400000-(ax n).toNat:=by rw [e];omega
 have p:=bM;exact IU (n+5400000) _ (2*ee) (by rw [e2];grind) (by rw [e2];grind)
def InE (L H:Int) (x e:Rat):Prop:=(L:Rat)*u30-e<=x/\x<=(H:Rat)*u30+e
theorem Ql (lo hi n:Int) (h:n=lo∨n=hi):InE (bv lo hi) (bz lo hi) (sg n) (2*ee):=by
 have s:=SI n;have u:0<u30:=by rw [fo];decide +kernel
 have a:bv lo hi<=bLo n/\bHi n<=bz lo hi:=by
  have b:=jg n;unfold bv bz;rcases h with rfl|rfl<;>(constructor<;>split<;>omega)
 have c1:(bv lo hi:Rat)<=(bLo n:Rat):=Rat.intCast_le_intCast.2 a.1;have c2:(bHi n:Rat)<=(bz lo hi:Rat):=Rat.intCast_le_intCast.2 a.2;have m1:=Rat.mul_le_mul_of_nonneg_right c1 (Rat.le_of_lt u);have m2:=Rat.mul_le_mul_of_nonneg_right c2 (Rat.le_of_lt u);unfold InE
 constructor<;>grind
theorem Tq (lo hi n:Int) (h:n=lo∨n=hi):InE (bv (lo+5400000) (hi+5400000)) (bz (lo+5400000) (hi+5400000)) (cg n) (2*ee):=by
 have s:=PZ n;have u:0<u30:=by rw [fo];decide +kernel
 have a:bv (lo+5400000) (hi+5400000)<=bLo (n+5400000)/\bHi (n+5400000)<=bz (lo+5400000) (hi+5400000):=by
  have b:=jg (n+5400000);unfold bv bz;rcases h with rfl|rfl<;>(constructor<;>split<;>omega)
 have c1:(bv (lo+5400000) (hi+5400000):Rat)<=(bLo (n+5400000):Rat):=Rat.intCast_le_intCast.2 a.1;have c2:(bHi (n+5400000):Rat)<=(bz (lo+5400000) (hi+5400000):Rat):=Rat.intCast_le_intCast.2 a.2;have m1:=Rat.mul_le_mul_of_nonneg_right c1 (Rat.le_of_lt u);have m2:=Rat.mul_le_mul_of_nonneg_right c2 (Rat.le_of_lt u);unfold InE
 constructor<;>grind
end Go.Proofs.Ytgmncdmcdgkodaa
namespace Alm
theorem Fv {l h x e:Rat} (lh:l<=h) (a:l-e<=x) (b:x<=h+e) (he:0<=e):∃ y,l<=y/\y<=h/\-e<=x-y/\x-y<=e:=by
 by_cases p:x<l
 . exact ⟨l,by grind,lh,by grind,by grind⟩
 . by_cases q:h<x
   . exact ⟨h,lh,by grind,by grind,by grind⟩
   . exact ⟨x,by grind,by grind,by grind,by grind⟩
end Alm
namespace Go.Proofs.Ytgmncdmcdgkodaa
open Alm Sx
abbrev IV:=Int × Int
def uS (a b:Int):IV:=(bv a b,bz a b)
def uC (a b:Int):IV:=(bv (a+5400000) (b+5400000),bz (a+5400000) (b+5400000))
def U (p:IV):Prop:=-1073741824<=p.1/\p.1<=p.2/\p.2<=1073741824
theorem Jk:0<u30:=by rw [fo];decide +kernel
theorem I8:(1073741824:Rat)*u30=1:=by rw [fo];decide +kernel
theorem GI {x y:Rat} (h:x*x+y*y=1):-1<=x/\x<=1:=by
 have yy:0<=y*y:=by
  rcases Rat.le_total (a:=0) (b:=y) with q|q
  . exact Rat.mul_nonneg q q
  . have:=Rat.mul_nonneg (show 0<=-y by grind) (show 0<=-y by grind)
    grind
 constructor
 . refine Rat.not_lt.1 fun hh=>?_
   have:=Rat.mul_pos (show 0 < -1-x by grind) (show 0<1-x by grind)
   grind
 . refine Rat.not_lt.1 fun hh=>?_
   have:=Rat.mul_pos (show 0<x-1 by grind) (show 0<x+1 by grind)
   grind
theorem IA (x:Rat):0<=x*x:=by
 rcases Rat.le_total (a:=0) (b:=x) with q|q
 . exact Rat.mul_nonneg q q
 . have:=Rat.mul_nonneg (show 0<=-x by grind) (show 0<=-x by grind)
   grind
