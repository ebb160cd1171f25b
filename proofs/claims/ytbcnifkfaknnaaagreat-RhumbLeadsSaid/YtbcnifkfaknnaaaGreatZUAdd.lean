/- The points of the unit circle near angles obey the law of addition, nearly. -/
import Derived.Test.YtbcnifkfaknnaaaGreatZUnit
set_option linter.unusedVariables false
set_option linter.unusedSimpArgs false
namespace Go.Proofs.YtbcnifkfaknnaaaGreat
open Alm
def Nr (x y e:Rat):Prop:=-e<=x-y/\x-y<=e
theorem Nr.refl (x:Rat):Nr x x 0:=by unfold Nr;constructor<;>grind
theorem Nr.symm {x y e:Rat} (h:Nr x y e):Nr y x e:=by unfold Nr at *;constructor<;>grind
theorem Nr.trans {x y z e f:Rat} (h:Nr x y e) (k:Nr y z f):Nr x z (e+f):=by unfold Nr at *;constructor<;>grind
theorem Nr.neg {x y e:Rat} (h:Nr x y e):Nr (-x) (-y) e:=by unfold Nr at *;constructor<;>grind
theorem Nr.add {x y z w e f:Rat} (h:Nr x y e) (k:Nr z w f):Nr (x+z) (y+w) (e+f):=by unfold Nr at *;constructor<;>grind
theorem Nr.le {x y e f:Rat} (h:Nr x y e) (k:e<=f):Nr x y f:=by unfold Nr at *;constructor<;>grind
def O1 (x:Rat):Prop:=-1<=x/\x<=1
theorem Nr.mul {x x' y y' e f:Rat} (hx:Nr x x' e) (hy:Nr y y' f) (b1:O1 x) (b2:O1 y') (he:0<=e) (hf:0<=f):Nr (x*y) (x'*y') (e+f):=by
 unfold Nr O1 at *
 have w1:=Rat.mul_nonneg (show 0<=1-x by grind) (show 0<=f-(y-y') by grind)
 have w2:=Rat.mul_nonneg (show 0<=1-x by grind) (show 0<=f+(y-y') by grind)
 have w3:=Rat.mul_nonneg (show 0<=1+x by grind) (show 0<=f-(y-y') by grind)
 have w4:=Rat.mul_nonneg (show 0<=1+x by grind) (show 0<=f+(y-y') by grind)
 have v1:=Rat.mul_nonneg (show 0<=1-y' by grind) (show 0<=e-(x-x') by grind)
 have v2:=Rat.mul_nonneg (show 0<=1-y' by grind) (show 0<=e+(x-x') by grind)
 have v3:=Rat.mul_nonneg (show 0<=1+y' by grind) (show 0<=e-(x-x') by grind)
 have v4:=Rat.mul_nonneg (show 0<=1+y' by grind) (show 0<=e+(x-x') by grind)
 constructor<;>grind
theorem vM (m:Nat):∀ n:Nat,zc (m+n)=zc m*zc n-zs m*zs n/\zs (m+n)=zs m*zc n+zc m*zs n
 | 0=>by rw [Nat.add_zero,fE,dP];constructor<;>grind
 | n+1=>by
  obtain ⟨h1,h2⟩:=vM m n;rw [show m+(n+1)=(m+n)+1 from rfl,bX,bZ,bX,bZ,h1,h2]
  constructor<;>grind
theorem Qa {m n:Nat} (h:n<=m):zc (m-n)=zc m*zc n+zs m*zs n/\zs (m-n)=zs m*zc n-zc m*zs n:=by
 obtain ⟨h1,h2⟩:=vM (m-n) n;rw [Nat.sub_add_cancel h] at h1 h2;have u:=jk n;generalize zc (m-n)=x at *
 generalize zs (m-n)=y at *
 rw [h1,h2]
 constructor<;>grind
theorem z1 (n:Nat):O1 (zc n)/\O1 (zs n):=⟨gB n,dL n⟩
theorem t1 (n:Nat):O1 (tC n)/\O1 (tS n):=by
 unfold tC tS
 constructor<;>split<;>first|exact gB _|exact dL _
theorem zQ:Nr (zc 5400000) 0 (1/2*ee)/\Nr (zs 5400000) 1 (1/2*ee):=by
 have d:=jb;have s:=pJ;have e:=dm;have e1:ee<=1:=by unfold ee;decide +kernel
 have a:=vM 2700000 2700000;have u:=jk 2700000;have b:=z1 2700000;rw [show (2700000+2700000:Nat)=5400000 from rfl] at a
 rw [a.1,a.2];clear a;unfold O1 at b;unfold Nr;generalize zs 2700000=x at *
 generalize zc 2700000=y at *
 generalize bM=dd at *
 have k1:=Rat.mul_nonneg (show 0<=4*dd-(x-y) by grind) (show 0<=2-(x+y) by grind)
 have k2:=Rat.mul_nonneg (show 0<=4*dd+(x-y) by grind) (show 0<=2-(x+y) by grind)
 have k3:=Rat.mul_nonneg (show 0<=4*dd-(x-y) by grind) (show 0<=2+(x+y) by grind)
 have k4:=Rat.mul_nonneg (show 0<=4*dd+(x-y) by grind) (show 0<=2+(x+y) by grind)
 have k5:=Rat.mul_nonneg (show 0<=4*dd-(x-y) by grind) (show 0<=4*dd+(x-y) by grind)
 have k6:=Rat.mul_nonneg (show 0<=1/4*ee-4*dd by grind) (show 0<=1/4*ee+4*dd by grind)
 have k7:=Rat.mul_nonneg (show 0<=ee by grind) (show 0<=1-ee by grind)
 have k8:=iV (x-y);refine ⟨⟨by grind,by grind⟩,⟨by grind,by grind⟩⟩
theorem zH:Nr (zc 10800000) (-1) (2*ee)/\Nr (zs 10800000) 0 (2*ee):=by
 obtain ⟨q1,q2⟩:=zQ;have e:=dm;have a:=vM 5400000 5400000;rw [show (5400000+5400000:Nat)=10800000 from rfl] at a
 obtain ⟨o1,o2⟩:=z1 5400000;have c1:=Nr.mul q1 q1 o1 ⟨by grind,by grind⟩ (by grind) (by grind)
 have c2:=Nr.mul q2 q2 o2 ⟨by grind,by grind⟩ (by grind) (by grind)
 have c3:=Nr.mul q2 q1 o2 ⟨by grind,by grind⟩ (by grind) (by grind)
 have c4:=Nr.mul q1 q2 o1 ⟨by grind,by grind⟩ (by grind) (by grind)
 unfold Nr at *
 rw [a.1,a.2];clear a;generalize zc 5400000=p at *
 generalize zs 5400000=q at *
 refine ⟨⟨by grind,by grind⟩,⟨by grind,by grind⟩⟩
theorem zT:Nr (zc 21600000) 1 (8*ee)/\Nr (zs 21600000) 0 (8*ee):=by
 obtain ⟨q1,q2⟩:=zH;have e:=dm;have a:=vM 10800000 10800000;rw [show (10800000+10800000:Nat)=21600000 from rfl] at a
 obtain ⟨o1,o2⟩:=z1 10800000;have c1:=Nr.mul q1 q1 o1 ⟨by grind,by grind⟩ (by grind) (by grind)
 have c2:=Nr.mul q2 q2 o2 ⟨by grind,by grind⟩ (by grind) (by grind)
 have c3:=Nr.mul q2 q1 o2 ⟨by grind,by grind⟩ (by grind) (by grind)
 have c4:=Nr.mul q1 q2 o1 ⟨by grind,by grind⟩ (by grind) (by grind)
 unfold Nr at *
 rw [a.1,a.2];clear a;generalize zc 10800000=p at *
 generalize zs 10800000=q at *
 refine ⟨⟨by grind,by grind⟩,⟨by grind,by grind⟩⟩
theorem VP {m n:Nat} (h:n<=m) {p q k:Rat} (hp:Nr (zc m) p k) (hq:Nr (zs m) q k) (hk:0<=k):Nr (zc (m-n)) (p*zc n+q*zs n) (2*k)/\Nr (zs (m-n)) (q*zc n-p*zs n) (2*k):=by
 obtain ⟨a,b⟩:=Qa h;obtain ⟨o1,o2⟩:=z1 n;obtain ⟨u1,u2⟩:=z1 m;have m1:=Nr.mul hp (Nr.refl (zc n)) u1 o1 hk Rat.le_refl;have m2:=Nr.mul hq (Nr.refl (zs n)) u2 o2 hk Rat.le_refl;have m3:=Nr.mul hq (Nr.refl (zc n)) u2 o1 hk Rat.le_refl;have m4:=Nr.mul hp (Nr.refl (zs n)) u1 o2 hk Rat.le_refl;rw [a,b];unfold Nr at *
 refine ⟨⟨by grind,by grind⟩,⟨by grind,by grind⟩⟩
theorem tz (k:Nat) (h:k<=5400000):Nr (tS k) (zs k) ee/\Nr (tC k) (zc k) ee:=by
 have e:=dm;unfold tS tC
 by_cases q:k<=2700000
 . rw [if_pos q,if_pos q];exact ⟨(Nr.refl _).le (by grind),(Nr.refl _).le (by grind)⟩
 . rw [if_neg q,if_neg q];obtain ⟨a,b⟩:=VP h zQ.1 zQ.2 (by grind)
   unfold Nr at *
   refine ⟨⟨?_,?_⟩,⟨?_,?_⟩⟩<;>grind
theorem Ri {n:Nat} (h:n<=10800000):Nr (zs (10800000-n)) (zs n) (4*ee)/\Nr (zc (10800000-n)) (-zc n) (4*ee):=by
 have e:=dm;obtain ⟨a,b⟩:=VP h zH.1 zH.2 (by grind)
 unfold Nr at *
 refine ⟨⟨?_,?_⟩,⟨?_,?_⟩⟩<;>grind
theorem XD {n:Nat} (h:10800000<=n):Nr (zs (n-10800000)) (-zs n) (4*ee)/\Nr (zc (n-10800000)) (-zc n) (4*ee):=by
 have e:=dm;obtain ⟨a,b⟩:=Qa h;obtain ⟨o1,o2⟩:=z1 n;obtain ⟨q1,q2⟩:=zH;have u:=z1 10800000;have m1:=Nr.mul (Nr.refl (zc n)) q1 o1 ⟨by grind,by grind⟩ Rat.le_refl (show 0<=2*ee by grind)
 have m2:=Nr.mul (Nr.refl (zs n)) q2 o2 ⟨by grind,by grind⟩ Rat.le_refl (show 0<=2*ee by grind)
 have m3:=Nr.mul (Nr.refl (zs n)) q1 o2 ⟨by grind,by grind⟩ Rat.le_refl (show 0<=2*ee by grind)
 have m4:=Nr.mul (Nr.refl (zc n)) q2 o1 ⟨by grind,by grind⟩ Rat.le_refl (show 0<=2*ee by grind)
 rw [a,b];clear a b h;unfold Nr at *
 generalize zc 10800000=p at *
 generalize zs 10800000=q at *
 refine ⟨⟨?_,?_⟩,⟨?_,?_⟩⟩<;>grind
theorem nU:tC 5400000=0:=by unfold tC;rw [if_neg (by omega)];exact dP
theorem gz (n:Int):Nr (sg n) (zs (aj n).toNat) (9*ee)/\Nr (cg n) (zc (aj n).toNat) (9*ee):=by
 have e:=dm;have w0:0<=aj n/\aj n<21600000:=by unfold aj;omega
 obtain ⟨N,hN⟩:=Int.eq_ofNat_of_zero_le w0.1;have hn:(aj n).toNat=N:=by omega
 have wq:aj (n+5400000)=if N<16200000 then (N:Int)+5400000 else (N:Int)-16200000:=by
  unfold aj at *;split<;>omega
 rw [hn];unfold sg cg bu;rw [wq,hN]
 by_cases h1:N<=5400000
 . have f:aI n=N:=by unfold aI;simp only [hN];split<;>split<;>omega
   rw [f,if_neg (by simp;omega),if_neg (by simp;split<;>omega)]
   obtain ⟨a,b⟩:=tz N h1;exact ⟨a.le (by grind),b.le (by grind)⟩
 . by_cases h2:N<=10800000
   . have f:(aI n).toNat=10800000-N:=by unfold aI;simp only [hN];split<;>split<;>omega
     rw [f,if_neg (by simp;omega),if_pos (by simp;split<;>omega)]
     obtain ⟨a,b⟩:=tz (10800000-N) (by omega)
     obtain ⟨c,d⟩:=Ri h2;refine ⟨(a.trans c).le (by grind),?_⟩
     have x:=(b.trans d).neg;rw [Rat.neg_neg] at x;exact x.le (by grind)
   . obtain ⟨c,d⟩:=XD (show 10800000<=N by omega)
     have cs:=c.neg;have ds:=d.neg;rw [Rat.neg_neg] at cs ds
     by_cases h3:N<=16200000
     . have f:(aI n).toNat=N-10800000:=by unfold aI;simp only [hN];split<;>split<;>omega
       rw [f,if_pos (by simp;omega)]
       obtain ⟨a,b⟩:=tz (N-10800000) (by omega)
       refine ⟨(a.neg.trans cs).le (by grind),?_⟩
       by_cases h4:N=16200000
       . subst h4;rw [if_neg (by simp)]
         have t0:tC (16200000-10800000)=0:=nU;have y:=b.neg.trans ds;rw [t0] at y ⊢
         rw [Rat.neg_zero] at y;exact y.le (by grind)
       . rw [if_pos (by simp;split<;>omega)]
         exact (b.neg.trans ds).le (by grind)
     . have f:(aI n).toNat=21600000-N:=by unfold aI;simp only [hN];split<;>split<;>omega
       rw [f,if_pos (by simp;omega),if_neg (by simp;split<;>omega)]
       obtain ⟨a,b⟩:=tz (21600000-N) (by omega)
       obtain ⟨p,q⟩:=Ri (n:=N-10800000) (by omega)
       rw [show 10800000-(N-10800000)=21600000-N by omega] at p q
       refine ⟨((a.trans p).neg.trans cs).le (by grind),?_⟩
       have x:=(b.trans q).trans ds;exact x.le (by grind)
theorem g1 (n:Int):O1 (cg n)/\O1 (sg n):=by
 have o:=jw n;exact ⟨NL (y:=sg n) (by grind),NL o⟩
theorem zS (a b:Int):Nr (cg (b-a)) (cg b*cg a+sg b*sg a) (70*ee):=by
 have e:=dm;obtain ⟨sa,ca⟩:=gz a;obtain ⟨sb,cb⟩:=gz b;obtain ⟨_,cd⟩:=gz (b-a);have wa:0<=aj a/\aj a<21600000:=by unfold aj;omega
 have wb:0<=aj b/\aj b<21600000:=by unfold aj;omega
 have wd:aj (b-a)=if aj a<=aj b then aj b-aj a else 21600000-(aj a-aj b):=by
  unfold aj;split<;>omega
 generalize hA:(aj a).toNat=A at *
 generalize hB:(aj b).toNat=B at *
 have p1:=Nr.mul cb ca (g1 b).1 (z1 A).1 (by grind) (by grind)
 have p2:=Nr.mul sb sa (g1 b).2 (z1 A).2 (by grind) (by grind)
 have p:=p1.add p2
 by_cases h:aj a<=aj b
 . have hC:(aj (b-a)).toNat=B-A:=by rw [wd,if_pos h];omega
   rw [hC,(Qa (show A<=B by omega)).1] at cd
   exact (cd.trans p.symm).le (by grind)
 . have hC:(aj (b-a)).toNat=21600000-(A-B):=by rw [wd,if_neg h];omega
   rw [hC] at cd;have f:=(VP (show A-B<=21600000 by omega) zT.1 zT.2 (by grind)).1
   have g:=(Qa (show B<=A by omega)).1
   have x:=cd.trans f;rw [g] at x;have y:(1*(zc A*zc B+zs A*zs B)+0*zs (A-B))=zc B*zc A+zs B*zs A:=by grind
   rw [y] at x;exact (x.trans p.symm).le (by grind)
