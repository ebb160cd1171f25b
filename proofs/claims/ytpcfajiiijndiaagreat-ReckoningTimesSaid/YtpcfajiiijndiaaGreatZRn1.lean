/- The contracts of package rhumb's numbers (192 binary digits behind the point, the least limbs first): product and quotient by a number, sum, difference, comparison, pi. -/
import Derived.Test.YtpcfajiiijndiaaGreatZArcLo
import Derived.Test.YtpcfajiiijndiaaGreatZTrigs
set_option linter.unusedVariables false
set_option linter.unusedSimpArgs false
set_option maxRecDepth 100000
set_option maxHeartbeats 2000000
namespace Go.Proofs.YtpcfajiiijndiaaGreat
open Go.RowKit Alm
theorem yE (A:Nat) (n:Int) (hA:A<W) (hn:U64 n) (hs:A*n.toNat<W) (w:World) :
 Calls Tryz.prog 107 #[.agg #[.int .u64 (nl A 3),.int .u64 (nl A 2),.int .u64 (nl A 1),.int .u64 (nl A 0)],.int .u64 n] w fun e w' =>
  e=.returned (.agg #[.int .u64 (nl (A*n.toNat) 3),.int .u64 (nl (A*n.toNat) 2),.int .u64 (nl (A*n.toNat) 1),.int .u64 (nl (A*n.toNat) 0)])/\Below w.heap.size w w':=by
 have hW:W=115792089237316195423570985008687907853269984665640564039457584007913129639936:=by unfold W;decide +kernel
 have va:=dX A hA;unfold V4 at va;have u0:=ay A 0;have u1:=ay A 1;have u2:=ay A 2;have u3:=ay A 3
 have eP:((A*n.toNat:Nat):Int)=(nl A 0*n)*2^192+(nl A 1*n)*2^128+(nl A 2*n)*2^64+nl A 3*n:=by
  rw [Int.natCast_mul,Int.toNat_of_nonneg hn.1,<-va];grind
 have hsI:((A*n.toNat:Nat):Int)<115792089237316195423570985008687907853269984665640564039457584007913129639936:=by omega
 generalize nl A 0=a0 at *
 generalize nl A 1=a1 at *
 generalize nl A 2=a2 at *
 generalize nl A 3=a3 at *
 have m3:=dH a3 n u3 hn;have m2:=dH a2 n u2 hn;have m1:=dH a1 n u1 hn;have m0:=dH a0 n u0 hn;have k3:=fun w=>dw a3 n u3 hn w;have k2:=fun w=>dw a2 n u2 hn w;have k1:=fun w=>dw a1 n u1 hn w;have k0:=fun w=>dw a0 n u0 hn w
 generalize mh a3 n=h3 at *
 generalize ml a3 n=l3 at *
 generalize mh a2 n=h2 at *
 generalize ml a2 n=l2 at *
 generalize mh a1 n=h1 at *
 generalize ml a1 n=l1 at *
 generalize mh a0 n=h0 at *
 generalize ml a0 n=l0 at *
 have g3:=aU l3 0 0 m3.2.1 (by unfold U64;omega) (by unfold Bit;omega)
 have r3:=aO l3 0 0 m3.2.1 (by unfold U64;omega) (by unfold Bit;omega)
 generalize ad l3 0 0=s3 at *
 generalize adc l3 0 0=c3 at *
 have j3:U64 (h3+c3):=by have:=g3.2.1;have:=m3.1;have:=m3.2.2.2;unfold U64 Bit at *;omega
 have g2:=aU l2 (h3+c3) 0 m2.2.1 j3 (by unfold Bit;omega)
 have r2:=aO l2 (h3+c3) 0 m2.2.1 j3 (by unfold Bit;omega)
 generalize ad l2 (h3+c3) 0=s2 at *
 generalize adc l2 (h3+c3) 0=c2 at *
 have j2:U64 (h2+c2):=by have:=g2.2.1;have:=m2.1;have:=m2.2.2.2;unfold U64 Bit at *;omega
 have g1:=aU l1 (h2+c2) 0 m1.2.1 j2 (by unfold Bit;omega)
 have r1:=aO l1 (h2+c2) 0 m1.2.1 j2 (by unfold Bit;omega)
 generalize ad l1 (h2+c2) 0=s1 at *
 generalize adc l1 (h2+c2) 0=c1 at *
 have j1:U64 (h1+c1):=by have:=g1.2.1;have:=m1.1;have:=m1.2.2.2;unfold U64 Bit at *;omega
 have g0:=aU l0 (h1+c1) 0 m0.2.1 j1 (by unfold Bit;omega)
 have r0:=aO l0 (h1+c1) 0 m0.2.1 j1 (by unfold Bit;omega)
 generalize ad l0 (h1+c1) 0=s0 at *
 generalize adc l0 (h1+c1) 0=c0 at *
 have j0:U64 (h0+c0):=by have:=g0.2.1;have:=m0.1;have:=m0.2.2.2;unfold U64 Bit at *;omega
 have fin:s0*2^192+s1*2^128+s2*2^64+s3=((A*n.toNat:Nat):Int):=by
  have e3:=m3.2.2.1;have e2:=m2.2.2.1;have e1:=m1.2.2.1;have e0:=m0.2.2.1;have i3:=g3.2.2;have i2:=g2.2.2;have i1:=g1.2.2;have i0:=g0.2.2;have q0:=g0.1;have q1:=g1.1;have q2:=g2.1;have q3:=g3.1;rw [eP] at hsI ⊢
  generalize a0*n=p0 at *
  generalize a1*n=p1 at *
  generalize a2*n=p2 at *
  generalize a3*n=p3 at *
  unfold U64 at *
  omega
 have FIN:=Lib.hid (pO s0 s1 s2 s3 g0.1 g1.1 g2.1 g3.1 _ fin);have x3:0<=h3:=m3.1.1;have y3:h3<=18446744073709551614:=m3.2.2.2;have z3:0<=c3:=g3.2.1.1;have v3:c3<=1:=g3.2.1.2;have x2:0<=h2:=m2.1.1;have y2:h2<=18446744073709551614:=m2.2.2.2;have z2:0<=c2:=g2.2.1.1;have v2:c2<=1:=g2.2.1.2;have x1:0<=h1:=m1.1.1;have y1:h1<=18446744073709551614:=m1.2.2.2;have z1:0<=c1:=g1.2.1.1;have v1:c1<=1:=g1.2.1.2;have x0:0<=h0:=m0.1.1;have y0:h0<=18446744073709551614:=m0.2.2.2;have z0:0<=c0:=g0.2.1.1;have v0:c0<=1:=g0.2.1.2;have K3:=Lib.hid k3;have K2:=Lib.hid k2;have K1:=Lib.hid k1;have K0:=Lib.hid k0;clear k3 k2 k1 k0 m3 m2 m1 m0 g3 g2 g1 g0 j3 j2 j1 j0 fin va eP hsI hs hA hW u0 u1 u2 u3 hn;go_enter Tryz.func107,Tryz.ntmps107;go_wp2;refine wp_loop_rounds 5 ?_;rw [rounds_succ];go_wp2_with fail;refine (K3.out _).mono ?_;rintro e w' ⟨rfl,rfl⟩;go_wp2;rw [rounds_succ];go_wp2_with fail;refine (K2.out _).mono ?_;rintro e w' ⟨rfl,rfl⟩;go_wp2;rw [rounds_succ];go_wp2_with fail;refine (K1.out _).mono ?_;rintro e w' ⟨rfl,rfl⟩;go_wp2;rw [rounds_succ];go_wp2_with fail;refine (K0.out _).mono ?_;rintro e w' ⟨rfl,rfl⟩;go_wp2;rw [rounds_succ];go_wp2;refine bodyPost_ret (v:=.agg #[.int .u64 s3,.int .u64 s2,.int .u64 s1,.int .u64 s0]) (by simp [results,Tryz.results107,go_sem]) rfl ⟨?_,?_⟩
 . obtain ⟨f0,f1,f2,f3⟩:=FIN.out;exact gX f3 f2 f1 f0
 . go_grown
theorem rY (a0 a1 a2 a3 d:Int) (w:World) (ha0:U64 a0) (ha1:U64 a1) (ha2:U64 a2) (ha3:U64 a3) (hd:U64 d) (h:0<d) :
 Calls Tryz.prog 105 #[.agg #[.int .u64 a3,.int .u64 a2,.int .u64 a1,.int .u64 a0],.int .u64 d] w fun e w' =>
  e=.returned (.agg #[.int .u64 (dq (dr (dr (dr 0 a0 d) a1 d) a2 d) a3 d),.int .u64 (dq (dr (dr 0 a0 d) a1 d) a2 d),.int .u64 (dq (dr 0 a0 d) a1 d),.int .u64 (dq 0 a0 d)])/\Below w.heap.size w w':=by
 have ht:U64 0:=by unfold U64;omega
 have f0:=bF 0 a0 d ht ha0 hd h;have f1:=bF _ a1 d f0.2.1 ha1 hd f0.2.2.1;have f2:=bF _ a2 d f1.2.1 ha2 hd f1.2.2.1;have f3:=bF _ a3 d f2.2.1 ha3 hd f2.2.2.1;have c0:=fun w=>ed 0 a0 d w ht ha0 hd h
 have c1:=fun w=>ed _ a1 d w f0.2.1 ha1 hd f0.2.2.1
 have c2:=fun w=>ed _ a2 d w f1.2.1 ha2 hd f1.2.2.1
 have c3:=fun w=>ed _ a3 d w f2.2.1 ha3 hd f2.2.2.1
 clear f0 f1 f2 f3;generalize dq 0 a0 d=q0 at *
 generalize dr 0 a0 d=t1 at *
 generalize dq t1 a1 d=q1 at *
 generalize dr t1 a1 d=t2 at *
 generalize dq t2 a2 d=q2 at *
 generalize dr t2 a2 d=t3 at *
 generalize dq t3 a3 d=q3 at *
 generalize dr t3 a3 d=t4 at *
 have C0:=Lib.hid c0;have C1:=Lib.hid c1;have C2:=Lib.hid c2;have C3:=Lib.hid c3;clear c0 c1 c2 c3;go_enter Tryz.func105,Tryz.ntmps105;go_wp2;refine wp_loop_rounds 5 ?_;rw [rounds_succ];go_wp2_with fail;refine (C0.out _).mono ?_;rintro e w' ⟨rfl,n0,rfl⟩;go_wp2;rw [rounds_succ];go_wp2_with fail;refine (C1.out _).mono ?_;rintro e w' ⟨rfl,n1,rfl⟩;go_wp2;rw [rounds_succ];go_wp2_with fail;refine (C2.out _).mono ?_;rintro e w' ⟨rfl,n2,rfl⟩;go_wp2;rw [rounds_succ];go_wp2_with fail;refine (C3.out _).mono ?_;rintro e w' ⟨rfl,n3,rfl⟩;go_wp2;rw [rounds_succ];go_wp2;refine bodyPost_ret (v:=.agg #[.int .u64 q3,.int .u64 q2,.int .u64 q1,.int .u64 q0]) (by simp [results,Tryz.results105,go_sem]) rfl ⟨rfl,?_⟩
 repeat' (first|(with_reducible exact Below.refl _ _)|(with_reducible refine below_drewN ?_ _)|go_grown)
theorem iw (A:Nat) (d:Int) (hA:A<W) (hd:U64 d) (h:0<d) (w:World) :
 Calls Tryz.prog 105 #[.agg #[.int .u64 (nl A 3),.int .u64 (nl A 2),.int .u64 (nl A 1),.int .u64 (nl A 0)],.int .u64 d] w fun e w' =>
  e=.returned (.agg #[.int .u64 (nl (A/d.toNat) 3),.int .u64 (nl (A/d.toNat) 2),.int .u64 (nl (A/d.toNat) 1),.int .u64 (nl (A/d.toNat) 0)])/\Below w.heap.size w w':=by
 refine (rY _ _ _ _ d w (ay A 0) (ay A 1) (ay A 2) (ay A 3) hd h).mono ?_;rintro e w' ⟨rfl,hb⟩;have va:=dX A hA;unfold V4 at va;have ht:U64 0:=by unfold U64;omega
 have f0:=bF 0 (nl A 0) d ht (ay A 0) hd h;have f1:=bF _ (nl A 1) d f0.2.1 (ay A 1) hd f0.2.2.1;have f2:=bF _ (nl A 2) d f1.2.1 (ay A 2) hd f1.2.2.1;have f3:=bF _ (nl A 3) d f2.2.1 (ay A 3) hd f2.2.2.1;generalize dq 0 (nl A 0) d=q0 at *
 generalize dr 0 (nl A 0) d=t1 at *
 generalize dq t1 (nl A 1) d=q1 at *
 generalize dr t1 (nl A 1) d=t2 at *
 generalize dq t2 (nl A 2) d=q2 at *
 generalize dr t2 (nl A 2) d=t3 at *
 generalize dq t3 (nl A 3) d=q3 at *
 generalize dr t3 (nl A 3) d=t4 at *
 have hv:q0*2^192+q1*2^128+q2*2^64+q3=((A/d.toNat:Nat):Int):=by
  have e:((A/d.toNat:Nat):Int)=(A:Int)/d:=by
   rw [Int.natCast_ediv,Int.toNat_of_nonneg hd.1]
  rw [e];have g0:=f0.2.2.2;have g1:=f1.2.2.2;have g2:=f2.2.2.2;have g3:=f3.2.2.2;have hs:(q0*2^192+q1*2^128+q2*2^64+q3)*d=q0*d*2^192+q1*d*2^128+q2*d*2^64+q3*d:=by grind
  have tot:(A:Int)=t4+(q0*2^192+q1*2^128+q2*2^64+q3)*d:=by
   rw [hs];generalize q0*d=p0 at *
   generalize q1*d=p1 at *
   generalize q2*d=p2 at *
   generalize q3*d=p3 at *
   generalize nl A 0=a0 at *
   generalize nl A 1=a1 at *
   generalize nl A 2=a2 at *
   generalize nl A 3=a3 at *
   omega
  rw [tot,Int.add_mul_ediv_right _ _ (by omega),Int.ediv_eq_zero_of_lt f3.2.1.1 f3.2.2.1];omega
 obtain ⟨h0,h1,h2,h3⟩:=pO q0 q1 q2 q3 f0.1 f1.1 f2.1 f3.1 _ hv;exact ⟨gX h3 h2 h1 h0,hb⟩
theorem vg (a0 a1 a2 a3 b0 b1 b2 b3:Int) (w:World) (ha0:U64 a0) (ha1:U64 a1) (ha2:U64 a2) (ha3:U64 a3) (hb0:U64 b0) (hb1:U64 b1) (hb2:U64 b2) (hb3:U64 b3) :
 Calls Tryz.prog 102 #[.agg #[.int .u64 a3,.int .u64 a2,.int .u64 a1,.int .u64 a0],.agg #[.int .u64 b3,.int .u64 b2,.int .u64 b1,.int .u64 b0]] w fun e w' =>
  e=.returned (.agg #[.int .u64 (sb a3 b3 0),.int .u64 (sb a2 b2 (sbc a3 b3 0)),.int .u64 (sb a1 b1 (sbc a2 b2 (sbc a3 b3 0))),.int .u64 (sb a0 b0 (sbc a1 b1 (sbc a2 b2 (sbc a3 b3 0))))])/\Below w.heap.size w w':=by
 have f3:=bP a3 b3 0 ha3 hb3 (by unfold Bit;omega)
 have f2:=bP a2 b2 _ ha2 hb2 f3.2.1;have f1:=bP a1 b1 _ ha1 hb1 f2.2.1;have s3:=cK a3 b3 0 ha3 hb3 (by unfold Bit;omega)
 have s2:=cK a2 b2 _ ha2 hb2 f3.2.1;have s1:=cK a1 b1 _ ha1 hb1 f2.2.1;have s0:=cK a0 b0 _ ha0 hb0 f1.2.1;clear f1 f2 f3;generalize sb a3 b3 0=r3 at *
 generalize sbc a3 b3 0=c3 at *
 generalize sb a2 b2 c3=r2 at *
 generalize sbc a2 b2 c3=c2 at *
 generalize sb a1 b1 c2=r1 at *
 generalize sbc a1 b1 c2=c1 at *
 generalize sb a0 b0 c1=r0 at *
 generalize sbc a0 b0 c1=c0 at *
 go_enter Tryz.func102,Tryz.ntmps102;go_wp2;refine wp_loop_rounds 5 ?_;rw [rounds_succ];go_wp2;go_region;go_wp2;rw [rounds_succ];go_wp2;go_region;go_wp2;rw [rounds_succ];go_wp2;go_region;go_wp2;rw [rounds_succ];go_wp2;go_region;go_wp2;rw [rounds_succ];go_wp2;refine bodyPost_ret (v:=.agg #[.int .u64 r3,.int .u64 r2,.int .u64 r1,.int .u64 r0]) (by simp [results,Tryz.results102,go_sem]) rfl ⟨rfl,?_⟩
 go_grown
theorem fJ (A B:Nat) (hA:A<W) (hB:B<=A) (w:World) :
 Calls Tryz.prog 102 #[.agg #[.int .u64 (nl A 3),.int .u64 (nl A 2),.int .u64 (nl A 1),.int .u64 (nl A 0)],.agg #[.int .u64 (nl B 3),.int .u64 (nl B 2),.int .u64 (nl B 1),.int .u64 (nl B 0)]] w fun e w' =>
  e=.returned (.agg #[.int .u64 (nl (A-B) 3),.int .u64 (nl (A-B) 2),.int .u64 (nl (A-B) 1),.int .u64 (nl (A-B) 0)])/\Below w.heap.size w w':=by
 refine (vg _ _ _ _ _ _ _ _ w (ay A 0) (ay A 1) (ay A 2) (ay A 3) (ay B 0) (ay B 1) (ay B 2) (ay B 3)).mono ?_;rintro e w' ⟨rfl,hb⟩;have va:=dX A hA;have vb:=dX B (by omega)
 unfold V4 at va vb;have f3:=bP (nl A 3) (nl B 3) 0 (ay A 3) (ay B 3) (by unfold Bit;omega)
 have f2:=bP (nl A 2) (nl B 2) _ (ay A 2) (ay B 2) f3.2.1;have f1:=bP (nl A 1) (nl B 1) _ (ay A 1) (ay B 1) f2.2.1;have f0:=bP (nl A 0) (nl B 0) _ (ay A 0) (ay B 0) f1.2.1;generalize sb (nl A 3) (nl B 3) 0=r3 at *
 generalize sbc (nl A 3) (nl B 3) 0=c3 at *
 generalize sb (nl A 2) (nl B 2) c3=r2 at *
 generalize sbc (nl A 2) (nl B 2) c3=c2 at *
 generalize sb (nl A 1) (nl B 1) c2=r1 at *
 generalize sbc (nl A 1) (nl B 1) c2=c1 at *
 generalize sb (nl A 0) (nl B 0) c1=r0 at *
 generalize sbc (nl A 0) (nl B 0) c1=c0 at *
 have hv:r0*2^192+r1*2^128+r2*2^64+r3=((A-B:Nat):Int):=by
  unfold U64 Bit at *
  generalize nl A 0=a0 at *
  generalize nl A 1=a1 at *
  generalize nl A 2=a2 at *
  generalize nl A 3=a3 at *
  generalize nl B 0=b0 at *
  generalize nl B 1=b1 at *
  generalize nl B 2=b2 at *
  generalize nl B 3=b3 at *
  have hW:W=115792089237316195423570985008687907853269984665640564039457584007913129639936:=by unfold W;decide +kernel
  rw [hW] at hA;have:(r0*2^192+r1*2^128+r2*2^64+r3:Int)=A-B+115792089237316195423570985008687907853269984665640564039457584007913129639936*c0:=by omega
  have hb1:0<=c0/\c0<=1:=f0.2.1;omega
 obtain ⟨h0,h1,h2,h3⟩:=pO r0 r1 r2 r3 f0.1 f1.1 f2.1 f3.1 _ hv;exact ⟨gX h3 h2 h1 h0,hb⟩
theorem uK (a0 a1 a2 a3 b0 b1 b2 b3:Int) (w:World) (ha0:U64 a0) (ha1:U64 a1) (ha2:U64 a2) (ha3:U64 a3) (hb0:U64 b0) (hb1:U64 b1) (hb2:U64 b2) (hb3:U64 b3) :
 Calls Tryz.prog 100 #[.agg #[.int .u64 a3,.int .u64 a2,.int .u64 a1,.int .u64 a0],.agg #[.int .u64 b3,.int .u64 b2,.int .u64 b1,.int .u64 b0]] w fun e w' =>
  e=.returned (.agg #[.int .u64 (ad a3 b3 0),.int .u64 (ad a2 b2 (adc a3 b3 0)),.int .u64 (ad a1 b1 (adc a2 b2 (adc a3 b3 0))),.int .u64 (ad a0 b0 (adc a1 b1 (adc a2 b2 (adc a3 b3 0))))])/\Below w.heap.size w w':=by
 have f3:=aU a3 b3 0 ha3 hb3 (by unfold Bit;omega)
 have f2:=aU a2 b2 _ ha2 hb2 f3.2.1;have f1:=aU a1 b1 _ ha1 hb1 f2.2.1;have s3:=aO a3 b3 0 ha3 hb3 (by unfold Bit;omega)
 have s2:=aO a2 b2 _ ha2 hb2 f3.2.1;have s1:=aO a1 b1 _ ha1 hb1 f2.2.1;have s0:=aO a0 b0 _ ha0 hb0 f1.2.1;clear f1 f2 f3;generalize ad a3 b3 0=r3 at *
 generalize adc a3 b3 0=c3 at *
 generalize ad a2 b2 c3=r2 at *
 generalize adc a2 b2 c3=c2 at *
 generalize ad a1 b1 c2=r1 at *
 generalize adc a1 b1 c2=c1 at *
 generalize ad a0 b0 c1=r0 at *
 generalize adc a0 b0 c1=c0 at *
 go_enter Tryz.func100,Tryz.ntmps100;go_wp2;refine wp_loop_rounds 5 ?_;rw [rounds_succ];go_wp2;go_region;go_wp2;rw [rounds_succ];go_wp2;go_region;go_wp2;rw [rounds_succ];go_wp2;go_region;go_wp2;rw [rounds_succ];go_wp2;go_region;go_wp2;rw [rounds_succ];go_wp2;refine bodyPost_ret (v:=.agg #[.int .u64 r3,.int .u64 r2,.int .u64 r1,.int .u64 r0]) (by simp [results,Tryz.results100,go_sem]) rfl ⟨rfl,?_⟩
 go_grown
theorem eX (A B:Nat) (h:A+B<W) (w:World) :
 Calls Tryz.prog 100 #[.agg #[.int .u64 (nl A 3),.int .u64 (nl A 2),.int .u64 (nl A 1),.int .u64 (nl A 0)],.agg #[.int .u64 (nl B 3),.int .u64 (nl B 2),.int .u64 (nl B 1),.int .u64 (nl B 0)]] w fun e w' =>
  e=.returned (.agg #[.int .u64 (nl (A+B) 3),.int .u64 (nl (A+B) 2),.int .u64 (nl (A+B) 1),.int .u64 (nl (A+B) 0)])/\Below w.heap.size w w':=by
 refine (uK _ _ _ _ _ _ _ _ w (ay A 0) (ay A 1) (ay A 2) (ay A 3) (ay B 0) (ay B 1) (ay B 2) (ay B 3)).mono ?_;rintro e w' ⟨rfl,hb⟩;have va:=dX A (by omega)
 have vb:=dX B (by omega)
 unfold V4 at va vb;have f3:=aU (nl A 3) (nl B 3) 0 (ay A 3) (ay B 3) (by unfold Bit;omega)
 have f2:=aU (nl A 2) (nl B 2) _ (ay A 2) (ay B 2) f3.2.1;have f1:=aU (nl A 1) (nl B 1) _ (ay A 1) (ay B 1) f2.2.1;have f0:=aU (nl A 0) (nl B 0) _ (ay A 0) (ay B 0) f1.2.1;generalize ad (nl A 3) (nl B 3) 0=r3 at *
 generalize adc (nl A 3) (nl B 3) 0=c3 at *
 generalize ad (nl A 2) (nl B 2) c3=r2 at *
 generalize adc (nl A 2) (nl B 2) c3=c2 at *
 generalize ad (nl A 1) (nl B 1) c2=r1 at *
 generalize adc (nl A 1) (nl B 1) c2=c1 at *
 generalize ad (nl A 0) (nl B 0) c1=r0 at *
 generalize adc (nl A 0) (nl B 0) c1=c0 at *
 have hv:r0*2^192+r1*2^128+r2*2^64+r3=((A+B:Nat):Int):=by
  unfold U64 Bit at *
  generalize nl A 0=a0 at *
  generalize nl A 1=a1 at *
  generalize nl A 2=a2 at *
  generalize nl A 3=a3 at *
  generalize nl B 0=b0 at *
  generalize nl B 1=b1 at *
  generalize nl B 2=b2 at *
  generalize nl B 3=b3 at *
  have hW:W=115792089237316195423570985008687907853269984665640564039457584007913129639936:=by unfold W;decide +kernel
  rw [hW] at h;have:(r0*2^192+r1*2^128+r2*2^64+r3:Int)=A+B-115792089237316195423570985008687907853269984665640564039457584007913129639936*c0:=by omega
  have hb1:0<=c0/\c0<=1:=f0.2.1;omega
 obtain ⟨h0,h1,h2,h3⟩:=pO r0 r1 r2 r3 f0.1 f1.1 f2.1 f3.1 _ hv;exact ⟨gX h3 h2 h1 h0,hb⟩
theorem Bn (a0 a1 a2 a3 b0 b1 b2 b3:Int) (w:World) (h:a0≠b0) :
 Calls Tryz.prog 104 #[.agg #[.int .u64 a3,.int .u64 a2,.int .u64 a1,.int .u64 a0],.agg #[.int .u64 b3,.int .u64 b2,.int .u64 b1,.int .u64 b0]] w fun e w'=>e=.returned (.bool (decide (a0<b0)))/\Below w.heap.size w w':=by
 have h1:(a0 != b0)=true:=by simpa using h
 have h2:(a0==b0)=false:=by simpa using h
 have h3:decide (a0=b0)=false:=by simpa using h
 clear h;go_enter Tryz.func104,Tryz.ntmps104;go_wp2;refine wp_loop_rounds 5 ?_;rw [rounds_succ];go_wp2;go_region;go_wp2;go_region;go_wp2;go_ret;exact ⟨rfl,by go_grown⟩
theorem Cc (a0 a1 a2 a3 b1 b2 b3:Int) (w:World) (h:a1≠b1) :
 Calls Tryz.prog 104 #[.agg #[.int .u64 a3,.int .u64 a2,.int .u64 a1,.int .u64 a0],.agg #[.int .u64 b3,.int .u64 b2,.int .u64 b1,.int .u64 a0]] w fun e w'=>e=.returned (.bool (decide (a1<b1)))/\Below w.heap.size w w':=by
 have h1:(a1 != b1)=true:=by simpa using h
 have h2:(a1==b1)=false:=by simpa using h
 have h3:decide (a1=b1)=false:=by simpa using h
 clear h;go_enter Tryz.func104,Tryz.ntmps104;go_wp2;refine wp_loop_rounds 5 ?_;rw [rounds_succ];go_wp2;go_region;go_wp2;rw [rounds_succ];go_wp2;go_region;go_wp2;go_region;go_wp2;go_ret;exact ⟨rfl,by go_grown⟩
theorem Bf (a0 a1 a2 a3 b2 b3:Int) (w:World) (h:a2≠b2) :
 Calls Tryz.prog 104 #[.agg #[.int .u64 a3,.int .u64 a2,.int .u64 a1,.int .u64 a0],.agg #[.int .u64 b3,.int .u64 b2,.int .u64 a1,.int .u64 a0]] w fun e w'=>e=.returned (.bool (decide (a2<b2)))/\Below w.heap.size w w':=by
 have h1:(a2 != b2)=true:=by simpa using h
 have h2:(a2==b2)=false:=by simpa using h
 have h3:decide (a2=b2)=false:=by simpa using h
 clear h;go_enter Tryz.func104,Tryz.ntmps104;go_wp2;refine wp_loop_rounds 5 ?_;rw [rounds_succ];go_wp2;go_region;go_wp2;rw [rounds_succ];go_wp2;go_region;go_wp2;rw [rounds_succ];go_wp2;go_region;go_wp2;go_region;go_wp2;go_ret;exact ⟨rfl,by go_grown⟩
theorem A7 (a0 a1 a2 a3 b3:Int) (w:World) (h:a3≠b3) :
 Calls Tryz.prog 104 #[.agg #[.int .u64 a3,.int .u64 a2,.int .u64 a1,.int .u64 a0],.agg #[.int .u64 b3,.int .u64 a2,.int .u64 a1,.int .u64 a0]] w fun e w'=>e=.returned (.bool (decide (a3<b3)))/\Below w.heap.size w w':=by
 have h1:(a3 != b3)=true:=by simpa using h
 have h2:(a3==b3)=false:=by simpa using h
 have h3:decide (a3=b3)=false:=by simpa using h
 clear h;go_enter Tryz.func104,Tryz.ntmps104;go_wp2;refine wp_loop_rounds 5 ?_;rw [rounds_succ];go_wp2;go_region;go_wp2;rw [rounds_succ];go_wp2;go_region;go_wp2;rw [rounds_succ];go_wp2;go_region;go_wp2;rw [rounds_succ];go_wp2;go_region;go_wp2;go_region;go_wp2;go_ret;exact ⟨rfl,by go_grown⟩
theorem Bz (a0 a1 a2 a3:Int) (w:World) :
 Calls Tryz.prog 104 #[.agg #[.int .u64 a3,.int .u64 a2,.int .u64 a1,.int .u64 a0],.agg #[.int .u64 a3,.int .u64 a2,.int .u64 a1,.int .u64 a0]] w fun e w'=>e=.returned (.bool false)/\Below w.heap.size w w':=by
 go_enter Tryz.func104,Tryz.ntmps104;go_wp2;refine wp_loop_rounds 5 ?_;rw [rounds_succ];go_wp2;go_region;go_wp2;rw [rounds_succ];go_wp2;go_region;go_wp2;rw [rounds_succ];go_wp2;go_region;go_wp2;rw [rounds_succ];go_wp2;go_region;go_wp2;rw [rounds_succ];go_wp2;go_ret;exact ⟨rfl,by go_grown⟩
theorem qj (A B:Nat) (hA:A<W) (hB:B<W) (w:World) :
 Calls Tryz.prog 104 #[.agg #[.int .u64 (nl A 3),.int .u64 (nl A 2),.int .u64 (nl A 1),.int .u64 (nl A 0)],.agg #[.int .u64 (nl B 3),.int .u64 (nl B 2),.int .u64 (nl B 1),.int .u64 (nl B 0)]] w fun e w' =>
  e=.returned (.bool (decide (A<B)))/\Below w.heap.size w w':=by
 rw [<-AX A B hA hB];generalize nl A 0=a0 at *
 generalize nl A 1=a1 at *
 generalize nl A 2=a2 at *
 generalize nl A 3=a3 at *
 generalize nl B 0=b0 at *
 generalize nl B 1=b1 at *
 generalize nl B 2=b2 at *
 generalize nl B 3=b3 at *
 by_cases h0:a0=b0
 . subst h0
   by_cases h1:a1=b1
   . subst h1
     by_cases h2:a2=b2
     . subst h2
       by_cases h3:a3=b3
       . subst h3;exact (Bz a0 a1 a2 a3 w).mono fun e w' ⟨he,hb⟩=>⟨by rw [he];exact fI (by unfold lexB;simp),hb⟩
       . exact (A7 a0 a1 a2 a3 b3 w h3).mono fun e w' ⟨he,hb⟩=>⟨by rw [he];exact fI (by unfold lexB;simp),hb⟩
     . exact (Bf a0 a1 a2 a3 b2 b3 w h2).mono fun e w' ⟨he,hb⟩=>⟨by rw [he];exact fI (by unfold lexB;simp [h2]),hb⟩
   . exact (Cc a0 a1 a2 a3 b1 b2 b3 w h1).mono fun e w' ⟨he,hb⟩=>⟨by rw [he];exact fI (by unfold lexB;simp [h1]),hb⟩
 . exact (Bn a0 a1 a2 a3 b0 b1 b2 b3 w h0).mono fun e w' ⟨he,hb⟩=>⟨by rw [he];exact fI (by unfold lexB;simp [h0]),hb⟩
theorem DC (w:World) :
 Calls Tryz.prog 109 #[] w fun e w'=>e=.returned (.agg #[.int .u64 (nl PiA 3),.int .u64 (nl PiA 2),.int .u64 (nl PiA 1),.int .u64 (nl PiA 0)])/\Below w.heap.size w w':=by
 have e0:nl PiA 0=3:=by unfold nl PiA;decide +kernel
 have e1:nl PiA 1=2611923443488327891:=by unfold nl PiA;decide +kernel
 have e2:nl PiA 2=1376283091369227076:=by unfold nl PiA;decide +kernel
 have e3:nl PiA 3=11820040416388919760:=by unfold nl PiA;decide +kernel
 rw [e0,e1,e2,e3];clear e0 e1 e2 e3;go_enter Tryz.func109,Tryz.ntmps109;go_wp2;refine bodyPost_ret (by simp [results,Tryz.results109,go_sem];try rfl) rfl ⟨rfl,by go_grown⟩
