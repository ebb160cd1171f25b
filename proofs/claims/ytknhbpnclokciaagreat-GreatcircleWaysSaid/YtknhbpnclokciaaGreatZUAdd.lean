/- The points of the unit circle near angles obey the law of addition, nearly. -/
import Derived.Test.YtknhbpnclokciaaGreatZUnM
set_option linter.unusedVariables false
set_option linter.unusedSimpArgs false
namespace Go.Proofs.YtknhbpnclokciaaGreat
open Alm
def ael (x y e:Rat):Prop:=-e<=x-y/\x-y<=e
theorem ael.refl (x:Rat):ael x x 0:=by unfold ael;constructor<;>grind
theorem ael.symm {x y e:Rat} (h:ael x y e):ael y x e:=by unfold ael at *;constructor<;>grind
theorem ael.trans {x y z e f:Rat} (h:ael x y e) (k:ael y z f):ael x z (e+f):=by unfold ael at *;constructor<;>grind
theorem ael.neg {x y e:Rat} (h:ael x y e):ael (-x) (-y) e:=by unfold ael at *;constructor<;>grind
theorem ael.add {x y z w e f:Rat} (h:ael x y e) (k:ael z w f):ael (x+z) (y+w) (e+f):=by unfold ael at *;constructor<;>grind
theorem ael.le {x y e f:Rat} (h:ael x y e) (k:e<=f):ael x y f:=by unfold ael at *;constructor<;>grind
def aem (x:Rat):Prop:=-1<=x/\x<=1
theorem ael.mul {x x' y y' e f:Rat} (hx:ael x x' e) (hy:ael y y' f) (b1:aem x) (b2:aem y') (he:0<=e) (hf:0<=f):ael (x*y) (x'*y') (e+f):=by
 unfold ael aem at *
 have w1:=Rat.mul_nonneg (show 0<=1-x by grind) (show 0<=f-(y-y') by grind)
 have w2:=Rat.mul_nonneg (show 0<=1-x by grind) (show 0<=f+(y-y') by grind)
 have w3:=Rat.mul_nonneg (show 0<=1+x by grind) (show 0<=f-(y-y') by grind)
 have w4:=Rat.mul_nonneg (show 0<=1+x by grind) (show 0<=f+(y-y') by grind)
 have v1:=Rat.mul_nonneg (show 0<=1-y' by grind) (show 0<=e-(x-x') by grind)
 have v2:=Rat.mul_nonneg (show 0<=1-y' by grind) (show 0<=e+(x-x') by grind)
 have v3:=Rat.mul_nonneg (show 0<=1+y' by grind) (show 0<=e-(x-x') by grind)
 have v4:=Rat.mul_nonneg (show 0<=1+y' by grind) (show 0<=e+(x-x') by grind)
 constructor<;>grind
theorem UY (m:Nat):∀ n:Nat,zc (m+n)=zc m*zc n-zs m*zs n/\zs (m+n)=zs m*zc n+zc m*zs n
 | 0=>by rw [Nat.add_zero,iE,gD];constructor<;>grind
 | n+1=>by
  obtain ⟨h1,h2⟩:=UY m n;rw [show m+(n+1)=(m+n)+1 from rfl,fo,eZ,fo,eZ,h1,h2]
  constructor<;>grind
theorem acw {m n:Nat} (h:n<=m):zc (m-n)=zc m*zc n+zs m*zs n/\zs (m-n)=zs m*zc n-zc m*zs n:=by
 obtain ⟨h1,h2⟩:=UY (m-n) n;rw [Nat.sub_add_cancel h] at h1 h2;have u:=L9 n;generalize zc (m-n)=x at *
 generalize zs (m-n)=y at *
 rw [h1,h2]
 constructor<;>grind
theorem z1 (n:Nat):aem (zc n)/\aem (zs n):=⟨nI n,jM n⟩
theorem t1 (n:Nat):aem (tC n)/\aem (tS n):=by
 unfold tC tS
 constructor<;>split<;>first|exact nI _|exact jM _
theorem aew:ael (zc 5400000) 0 (1/2*ee)/\ael (zs 5400000) 1 (1/2*ee):=by
 have d:=sV;have s:=aaq;have e:=M9;have e1:ee<=1:=by unfold ee;decide +kernel
 have a:=UY 2700000 2700000;have u:=L9 2700000;have b:=z1 2700000;rw [show (2700000+2700000:Nat)=5400000 from rfl] at a
 rw [a.1,a.2];clear a;unfold aem at b;unfold ael;generalize zs 2700000=x at *
 generalize zc 2700000=y at *
 generalize bL=dd at *
 have k1:=Rat.mul_nonneg (show 0<=4*dd-(x-y) by grind) (show 0<=2-(x+y) by grind)
 have k2:=Rat.mul_nonneg (show 0<=4*dd+(x-y) by grind) (show 0<=2-(x+y) by grind)
 have k3:=Rat.mul_nonneg (show 0<=4*dd-(x-y) by grind) (show 0<=2+(x+y) by grind)
 have k4:=Rat.mul_nonneg (show 0<=4*dd+(x-y) by grind) (show 0<=2+(x+y) by grind)
 have k5:=Rat.mul_nonneg (show 0<=4*dd-(x-y) by grind) (show 0<=4*dd+(x-y) by grind)
 have k6:=Rat.mul_nonneg (show 0<=1/4*ee-4*dd by grind) (show 0<=1/4*ee+4*dd by grind)
 have k7:=Rat.mul_nonneg (show 0<=ee by grind) (show 0<=1-ee by grind)
 have k8:=aad (x-y);refine ⟨⟨by grind,by grind⟩,⟨by grind,by grind⟩⟩
theorem aev:ael (zc 10800000) (-1) (2*ee)/\ael (zs 10800000) 0 (2*ee):=by
 obtain ⟨q1,q2⟩:=aew;have e:=M9;have a:=UY 5400000 5400000;rw [show (5400000+5400000:Nat)=10800000 from rfl] at a
 obtain ⟨o1,o2⟩:=z1 5400000;have c1:=ael.mul q1 q1 o1 ⟨by grind,by grind⟩ (by grind) (by grind)
 have c2:=ael.mul q2 q2 o2 ⟨by grind,by grind⟩ (by grind) (by grind)
 have c3:=ael.mul q2 q1 o2 ⟨by grind,by grind⟩ (by grind) (by grind)
 have c4:=ael.mul q1 q2 o1 ⟨by grind,by grind⟩ (by grind) (by grind)
 unfold ael at *
 rw [a.1,a.2];clear a;generalize zc 5400000=p at *
 generalize zs 5400000=q at *
 refine ⟨⟨by grind,by grind⟩,⟨by grind,by grind⟩⟩
theorem aex:ael (zc 21600000) 1 (8*ee)/\ael (zs 21600000) 0 (8*ee):=by
 obtain ⟨q1,q2⟩:=aev;have e:=M9;have a:=UY 10800000 10800000;rw [show (10800000+10800000:Nat)=21600000 from rfl] at a
 obtain ⟨o1,o2⟩:=z1 10800000;have c1:=ael.mul q1 q1 o1 ⟨by grind,by grind⟩ (by grind) (by grind)
 have c2:=ael.mul q2 q2 o2 ⟨by grind,by grind⟩ (by grind) (by grind)
 have c3:=ael.mul q2 q1 o2 ⟨by grind,by grind⟩ (by grind) (by grind)
 have c4:=ael.mul q1 q2 o1 ⟨by grind,by grind⟩ (by grind) (by grind)
 unfold ael at *
 rw [a.1,a.2];clear a;generalize zc 10800000=p at *
 generalize zs 10800000=q at *
 refine ⟨⟨by grind,by grind⟩,⟨by grind,by grind⟩⟩
theorem adm {m n:Nat} (h:n<=m) {p q k:Rat} (hp:ael (zc m) p k) (hq:ael (zs m) q k) (hk:0<=k):ael (zc (m-n)) (p*zc n+q*zs n) (2*k)/\ael (zs (m-n)) (q*zc n-p*zs n) (2*k):=by
 obtain ⟨a,b⟩:=acw h;obtain ⟨o1,o2⟩:=z1 n;obtain ⟨u1,u2⟩:=z1 m;have m1:=ael.mul hp (ael.refl (zc n)) u1 o1 hk Rat.le_refl;have m2:=ael.mul hq (ael.refl (zs n)) u2 o2 hk Rat.le_refl;have m3:=ael.mul hq (ael.refl (zc n)) u2 o1 hk Rat.le_refl;have m4:=ael.mul hp (ael.refl (zs n)) u1 o2 hk Rat.le_refl;rw [a,b];unfold ael at *
 refine ⟨⟨by grind,by grind⟩,⟨by grind,by grind⟩⟩
theorem tz (k:Nat) (h:k<=5400000):ael (tS k) (zs k) ee/\ael (tC k) (zc k) ee:=by
 have e:=M9;unfold tS tC
 by_cases q:k<=2700000
 . rw [if_pos q,if_pos q];exact ⟨(ael.refl _).le (by grind),(ael.refl _).le (by grind)⟩
 . rw [if_neg q,if_neg q];obtain ⟨a,b⟩:=adm h aew.1 aew.2 (by grind)
   unfold ael at *
   refine ⟨⟨?_,?_⟩,⟨?_,?_⟩⟩<;>grind
theorem acZ {n:Nat} (h:n<=10800000):ael (zs (10800000-n)) (zs n) (4*ee)/\ael (zc (10800000-n)) (-zc n) (4*ee):=by
 have e:=M9;obtain ⟨a,b⟩:=adm h aev.1 aev.2 (by grind)
 unfold ael at *
 refine ⟨⟨?_,?_⟩,⟨?_,?_⟩⟩<;>grind
theorem adW {n:Nat} (h:10800000<=n):ael (zs (n-10800000)) (-zs n) (4*ee)/\ael (zc (n-10800000)) (-zc n) (4*ee):=by
 have e:=M9;obtain ⟨a,b⟩:=acw h;obtain ⟨o1,o2⟩:=z1 n;obtain ⟨q1,q2⟩:=aev;have u:=z1 10800000;have m1:=ael.mul (ael.refl (zc n)) q1 o1 ⟨by grind,by grind⟩ Rat.le_refl (show 0<=2*ee by grind)
 have m2:=ael.mul (ael.refl (zs n)) q2 o2 ⟨by grind,by grind⟩ Rat.le_refl (show 0<=2*ee by grind)
 have m3:=ael.mul (ael.refl (zs n)) q1 o2 ⟨by grind,by grind⟩ Rat.le_refl (show 0<=2*ee by grind)
 have m4:=ael.mul (ael.refl (zc n)) q2 o1 ⟨by grind,by grind⟩ Rat.le_refl (show 0<=2*ee by grind)
 rw [a,b];clear a b h;unfold ael at *
 generalize zc 10800000=p at *
 generalize zs 10800000=q at *
 refine ⟨⟨?_,?_⟩,⟨?_,?_⟩⟩<;>grind
theorem aaA:tC 5400000=0:=by unfold tC;rw [if_neg (by omega)];exact gD
theorem gz (n:Int):ael (sg n) (zs (ak n).toNat) (9*ee)/\ael (cg n) (zc (ak n).toNat) (9*ee):=by
 have e:=M9;have w0:0<=ak n/\ak n<21600000:=by unfold ak;omega
 obtain ⟨N,hN⟩:=Int.eq_ofNat_of_zero_le w0.1;have hn:(ak n).toNat=N:=by omega
 have wq:ak (n+5400000)=if N<16200000 then (N:Int)+5400000 else (N:Int)-16200000:=by
  unfold ak at *;split<;>omega
 rw [hn];unfold sg cg jg;rw [wq,hN]
 by_cases h1:N<=5400000
 . have f:bC n=N:=by unfold bC;simp only [hN];split<;>split<;>omega
   rw [f,if_neg (by simp;omega),if_neg (by simp;split<;>omega)]
   obtain ⟨a,b⟩:=tz N h1;exact ⟨a.le (by grind),b.le (by grind)⟩
 . by_cases h2:N<=10800000
   . have f:(bC n).toNat=10800000-N:=by unfold bC;simp only [hN];split<;>split<;>omega
     rw [f,if_neg (by simp;omega),if_pos (by simp;split<;>omega)]
     obtain ⟨a,b⟩:=tz (10800000-N) (by omega)
     obtain ⟨c,d⟩:=acZ h2;refine ⟨(a.trans c).le (by grind),?_⟩
     have x:=(b.trans d).neg;rw [Rat.neg_neg] at x;exact x.le (by grind)
   . obtain ⟨c,d⟩:=adW (show 10800000<=N by omega)
     have cs:=c.neg;have ds:=d.neg;rw [Rat.neg_neg] at cs ds
     by_cases h3:N<=16200000
     . have f:(bC n).toNat=N-10800000:=by unfold bC;simp only [hN];split<;>split<;>omega
       rw [f,if_pos (by simp;omega)]
       obtain ⟨a,b⟩:=tz (N-10800000) (by omega)
       refine ⟨(a.neg.trans cs).le (by grind),?_⟩
       by_cases h4:N=16200000
       . subst h4;rw [if_neg (by simp)]
         have t0:tC (16200000-10800000)=0:=aaA;have y:=b.neg.trans ds;rw [t0] at y ⊢
         rw [Rat.neg_zero] at y;exact y.le (by grind)
       . rw [if_pos (by simp;split<;>omega)]
         exact (b.neg.trans ds).le (by grind)
     . have f:(bC n).toNat=21600000-N:=by unfold bC;simp only [hN];split<;>split<;>omega
       rw [f,if_pos (by simp;omega),if_neg (by simp;split<;>omega)]
       obtain ⟨a,b⟩:=tz (21600000-N) (by omega)
       obtain ⟨p,q⟩:=acZ (n:=N-10800000) (by omega)
       rw [show 10800000-(N-10800000)=21600000-N by omega] at p q
       refine ⟨((a.trans p).neg.trans cs).le (by grind),?_⟩
       have x:=(b.trans q).trans ds;exact x.le (by grind)
theorem g1 (n:Int):aem (cg n)/\aem (sg n):=by
 have o:=Zp n;exact ⟨ZG (y:=sg n) (by grind),ZG o⟩
theorem adl (a b:Int):ael (cg (b-a)) (cg b*cg a+sg b*sg a) (70*ee):=by
 have e:=M9;obtain ⟨sa,ca⟩:=gz a;obtain ⟨sb,cb⟩:=gz b;obtain ⟨_,cd⟩:=gz (b-a);have wa:0<=ak a/\ak a<21600000:=by unfold ak;omega
 have wb:0<=ak b/\ak b<21600000:=by unfold ak;omega
 have wd:ak (b-a)=if ak a<=ak b then ak b-ak a else 21600000-(ak a-ak b):=by
  unfold ak;split<;>omega
 generalize hA:(ak a).toNat=A at *
 generalize hB:(ak b).toNat=B at *
 have p1:=ael.mul cb ca (g1 b).1 (z1 A).1 (by grind) (by grind)
 have p2:=ael.mul sb sa (g1 b).2 (z1 A).2 (by grind) (by grind)
 have p:=p1.add p2
 by_cases h:ak a<=ak b
 . have hC:(ak (b-a)).toNat=B-A:=by rw [wd,if_pos h];omega
   rw [hC,(acw (show A<=B by omega)).1] at cd
   exact (cd.trans p.symm).le (by grind)
 . have hC:(ak (b-a)).toNat=21600000-(A-B):=by rw [wd,if_neg h];omega
   rw [hC] at cd;have f:=(adm (show A-B<=21600000 by omega) aex.1 aex.2 (by grind)).1
   have g:=(acw (show B<=A by omega)).1
   have x:=cd.trans f;rw [g] at x;have y:(1*(zc A*zc B+zs A*zs B)+0*zs (A-B))=zc B*zc A+zs B*zs A:=by grind
   rw [y] at x;exact (x.trans p.symm).le (by grind)
