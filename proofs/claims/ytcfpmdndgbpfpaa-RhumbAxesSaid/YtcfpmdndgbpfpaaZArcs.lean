/- The contracts of package arctrig's numbers. -/
import Derived.Test.YtcfpmdndgbpfpaaZArcLo
import Derived.Test.YtcfpmdndgbpfpaaZTrigs
set_option linter.unusedVariables false
set_option linter.unusedSimpArgs false
set_option maxRecDepth 100000
set_option maxHeartbeats 8000000
namespace Go.Proofs.Ytcfpmdndgbpfpaa
open Go.RowKit Alm
theorem zS (A B:Nat) (hA:A<W) (hB:B<W) (hs:A*B<2^448) (w:World) :
 Calls Try.prog 80 #[.agg #[.int .u64 (nl A 0),.int .u64 (nl A 1),.int .u64 (nl A 2),.int .u64 (nl A 3)],.agg #[.int .u64 (nl B 0),.int .u64 (nl B 1),.int .u64 (nl B 2),.int .u64 (nl B 3)]] w fun e w' =>
  e=.returned (.agg #[.int .u64 (nl (au A B) 0),.int .u64 (nl (au A B) 1),.int .u64 (nl (au A B) 2),.int .u64 (nl (au A B) 3)])/\Below w.heap.size w w':=by
 refine (Ag (nl A) (nl B) w (fun k _=>av A k) (fun k _=>av B k)).mono ?_
 rintro e w' ⟨r,rfl,hr,hv,hb⟩;rw [dx A hA,dx B hB] at hv;have hm:=FX r hr A B hv hs;obtain ⟨h0,h1,h2,h3⟩:=rO (fun k=>r (k+1)) (fun k hk=>hr (k+1) (by omega)) _ hm
 exact ⟨eF h0 h1 h2 h3,hb⟩
theorem pK (A:Nat) (n:Int) (hA:A<W) (hn:U64 n) (hs:A*n.toNat<W) (w:World) :
 Calls Try.prog 70 #[.agg #[.int .u64 (nl A 0),.int .u64 (nl A 1),.int .u64 (nl A 2),.int .u64 (nl A 3)],.int .u64 n] w fun e w' =>
  e=.returned (.agg #[.int .u64 (nl (A*n.toNat) 0),.int .u64 (nl (A*n.toNat) 1),.int .u64 (nl (A*n.toNat) 2),.int .u64 (nl (A*n.toNat) 3)])/\Below w.heap.size w w':=by
 have hW:W=115792089237316195423570985008687907853269984665640564039457584007913129639936:=by unfold W;decide +kernel
 have va:=dx A hA;unfold V4 at va;have u0:=av A 0;have u1:=av A 1;have u2:=av A 2;have u3:=av A 3
 have eP:((A*n.toNat:Nat):Int)=(nl A 0*n)*2^192+(nl A 1*n)*2^128+(nl A 2*n)*2^64+nl A 3*n:=by
  rw [Int.natCast_mul,Int.toNat_of_nonneg hn.1,<-va];grind
 have hsI:((A*n.toNat:Nat):Int)<115792089237316195423570985008687907853269984665640564039457584007913129639936:=by omega
 generalize nl A 0=a0 at *
 generalize nl A 1=a1 at *
 generalize nl A 2=a2 at *
 generalize nl A 3=a3 at *
 have m3:=bZ a3 n u3 hn;have m2:=bZ a2 n u2 hn;have m1:=bZ a1 n u1 hn;have m0:=bZ a0 n u0 hn;have k3:=fun w=>bW a3 n u3 hn w;have k2:=fun w=>bW a2 n u2 hn w;have k1:=fun w=>bW a1 n u1 hn w;have k0:=fun w=>bW a0 n u0 hn w
 generalize mh a3 n=h3 at *
 generalize ml a3 n=l3 at *
 generalize mh a2 n=h2 at *
 generalize ml a2 n=l2 at *
 generalize mh a1 n=h1 at *
 generalize ml a1 n=l1 at *
 generalize mh a0 n=h0 at *
 generalize ml a0 n=l0 at *
 have g3:=aR l3 0 0 m3.2.1 (by unfold U64;omega) (by unfold Bit;omega)
 have r3:=aK l3 0 0 m3.2.1 (by unfold U64;omega) (by unfold Bit;omega)
 generalize ad l3 0 0=s3 at *
 generalize adc l3 0 0=c3 at *
 have j3:U64 (h3+c3):=by have:=g3.2.1;have:=m3.1;have:=m3.2.2.2;unfold U64 Bit at *;omega
 have g2:=aR l2 (h3+c3) 0 m2.2.1 j3 (by unfold Bit;omega)
 have r2:=aK l2 (h3+c3) 0 m2.2.1 j3 (by unfold Bit;omega)
 generalize ad l2 (h3+c3) 0=s2 at *
 generalize adc l2 (h3+c3) 0=c2 at *
 have j2:U64 (h2+c2):=by have:=g2.2.1;have:=m2.1;have:=m2.2.2.2;unfold U64 Bit at *;omega
 have g1:=aR l1 (h2+c2) 0 m1.2.1 j2 (by unfold Bit;omega)
 have r1:=aK l1 (h2+c2) 0 m1.2.1 j2 (by unfold Bit;omega)
 generalize ad l1 (h2+c2) 0=s1 at *
 generalize adc l1 (h2+c2) 0=c1 at *
 have j1:U64 (h1+c1):=by have:=g1.2.1;have:=m1.1;have:=m1.2.2.2;unfold U64 Bit at *;omega
 have g0:=aR l0 (h1+c1) 0 m0.2.1 j1 (by unfold Bit;omega)
 have r0:=aK l0 (h1+c1) 0 m0.2.1 j1 (by unfold Bit;omega)
 generalize ad l0 (h1+c1) 0=s0 at *
 generalize adc l0 (h1+c1) 0=c0 at *
 have j0:U64 (h0+c0):=by have:=g0.2.1;have:=m0.1;have:=m0.2.2.2;unfold U64 Bit at *;omega
 have fin:s0*2^192+s1*2^128+s2*2^64+s3=((A*n.toNat:Nat):Int):=by
  have e3:=m3.2.2.1;have e2:=m2.2.2.1;have e1:=m1.2.2.1;have e0:=m0.2.2.1;have i3:=g3.2.2;have i2:=g2.2.2;have i1:=g1.2.2;have i0:=g0.2.2;have q0:=g0.1;have q1:=g1.1;have q2:=g2.1;have q3:=g3.1;rw [eP] at hsI ⊢
  generalize a0*n=p0 at *
  generalize a1*n=p1 at *
  generalize a2*n=p2 at *
  generalize a3*n=p3 at *
  unfold U64 at *
  omega
 have FIN:=Lib.hid (jG s0 s1 s2 s3 g0.1 g1.1 g2.1 g3.1 _ fin);have x3:0<=h3:=m3.1.1;have y3:h3<=18446744073709551614:=m3.2.2.2;have z3:0<=c3:=g3.2.1.1;have v3:c3<=1:=g3.2.1.2;have x2:0<=h2:=m2.1.1;have y2:h2<=18446744073709551614:=m2.2.2.2;have z2:0<=c2:=g2.2.1.1;have v2:c2<=1:=g2.2.1.2;have x1:0<=h1:=m1.1.1;have y1:h1<=18446744073709551614:=m1.2.2.2;have z1:0<=c1:=g1.2.1.1;have v1:c1<=1:=g1.2.1.2;have x0:0<=h0:=m0.1.1;have y0:h0<=18446744073709551614:=m0.2.2.2;have z0:0<=c0:=g0.2.1.1;have v0:c0<=1:=g0.2.1.2;have K3:=Lib.hid k3;have K2:=Lib.hid k2;have K1:=Lib.hid k1;have K0:=Lib.hid k0;clear k3 k2 k1 k0 m3 m2 m1 m0 g3 g2 g1 g0 j3 j2 j1 j0 fin va eP hsI hs hA hW u0 u1 u2 u3 hn;go_enter Try.func70,Try.ntmps70;go_wp2;refine wp_loop_rounds 5 ?_;rw [rounds_succ];go_wp2_with fail;refine (K3.out _).mono ?_;rintro e w' ⟨rfl,rfl⟩;go_wp2;rw [rounds_succ];go_wp2_with fail;refine (K2.out _).mono ?_;rintro e w' ⟨rfl,rfl⟩;go_wp2;rw [rounds_succ];go_wp2_with fail;refine (K1.out _).mono ?_;rintro e w' ⟨rfl,rfl⟩;go_wp2;rw [rounds_succ];go_wp2_with fail;refine (K0.out _).mono ?_;rintro e w' ⟨rfl,rfl⟩;go_wp2;rw [rounds_succ];go_wp2;refine bodyPost_ret (v:=.agg #[.int .u64 s0,.int .u64 s1,.int .u64 s2,.int .u64 s3]) (by simp [results,Try.results70,go_sem]) rfl ⟨?_,?_⟩
 . obtain ⟨f0,f1,f2,f3⟩:=FIN.out;exact eF f0 f1 f2 f3
 . go_grown
end Go.Proofs.Ytcfpmdndgbpfpaa
namespace Go.Proofs.Ytcfpmdndgbpfpaa
open Go.RowKit Alm
theorem Bu (a0 a1 a2 a3 d:Int) (w:World) (ha0:U64 a0) (ha1:U64 a1) (ha2:U64 a2) (ha3:U64 a3) (hd:U64 d) (h:0<d) :
 Calls Try.prog 79 #[.agg #[.int .u64 a0,.int .u64 a1,.int .u64 a2,.int .u64 a3],.int .u64 d] w fun e w' =>
  e=.returned (.agg #[.int .u64 (dq 0 a0 d),.int .u64 (dq (dr 0 a0 d) a1 d),.int .u64 (dq (dr (dr 0 a0 d) a1 d) a2 d),.int .u64 (dq (dr (dr (dr 0 a0 d) a1 d) a2 d) a3 d)])/\Below w.heap.size w w':=by
 have ht:U64 0:=by unfold U64;omega
 have f0:=bi 0 a0 d ht ha0 hd h;have f1:=bi _ a1 d f0.2.1 ha1 hd f0.2.2.1;have f2:=bi _ a2 d f1.2.1 ha2 hd f1.2.2.1;have f3:=bi _ a3 d f2.2.1 ha3 hd f2.2.2.1;have c0:=fun w=>dD 0 a0 d w ht ha0 hd h
 have c1:=fun w=>dD _ a1 d w f0.2.1 ha1 hd f0.2.2.1
 have c2:=fun w=>dD _ a2 d w f1.2.1 ha2 hd f1.2.2.1
 have c3:=fun w=>dD _ a3 d w f2.2.1 ha3 hd f2.2.2.1
 clear f0 f1 f2 f3;generalize dq 0 a0 d=q0 at *
 generalize dr 0 a0 d=t1 at *
 generalize dq t1 a1 d=q1 at *
 generalize dr t1 a1 d=t2 at *
 generalize dq t2 a2 d=q2 at *
 generalize dr t2 a2 d=t3 at *
 generalize dq t3 a3 d=q3 at *
 generalize dr t3 a3 d=t4 at *
 have C0:=Lib.hid c0;have C1:=Lib.hid c1;have C2:=Lib.hid c2;have C3:=Lib.hid c3;clear c0 c1 c2 c3;go_enter Try.func79,Try.ntmps79;go_wp2;refine wp_loop_rounds 5 ?_;rw [rounds_succ];go_wp2_with fail;refine (C0.out _).mono ?_;rintro e w' ⟨rfl,n0,rfl⟩;go_wp2;rw [rounds_succ];go_wp2_with fail;refine (C1.out _).mono ?_;rintro e w' ⟨rfl,n1,rfl⟩;go_wp2;rw [rounds_succ];go_wp2_with fail;refine (C2.out _).mono ?_;rintro e w' ⟨rfl,n2,rfl⟩;go_wp2;rw [rounds_succ];go_wp2_with fail;refine (C3.out _).mono ?_;rintro e w' ⟨rfl,n3,rfl⟩;go_wp2;rw [rounds_succ];go_wp2;refine bodyPost_ret (v:=.agg #[.int .u64 q0,.int .u64 q1,.int .u64 q2,.int .u64 q3]) (by simp [results,Try.results79,go_sem]) rfl ⟨rfl,?_⟩
 repeat' (first|(with_reducible exact Below.refl _ _)|(with_reducible refine below_drewN ?_ _)|go_grown)
theorem wJ (A:Nat) (d:Int) (hA:A<W) (hd:U64 d) (h:0<d) (w:World) :
 Calls Try.prog 79 #[.agg #[.int .u64 (nl A 0),.int .u64 (nl A 1),.int .u64 (nl A 2),.int .u64 (nl A 3)],.int .u64 d] w fun e w' =>
  e=.returned (.agg #[.int .u64 (nl (A/d.toNat) 0),.int .u64 (nl (A/d.toNat) 1),.int .u64 (nl (A/d.toNat) 2),.int .u64 (nl (A/d.toNat) 3)])/\Below w.heap.size w w':=by
 refine (Bu _ _ _ _ d w (av A 0) (av A 1) (av A 2) (av A 3) hd h).mono ?_;rintro e w' ⟨rfl,hb⟩;have va:=dx A hA;unfold V4 at va;have ht:U64 0:=by unfold U64;omega
 have f0:=bi 0 (nl A 0) d ht (av A 0) hd h;have f1:=bi _ (nl A 1) d f0.2.1 (av A 1) hd f0.2.2.1;have f2:=bi _ (nl A 2) d f1.2.1 (av A 2) hd f1.2.2.1;have f3:=bi _ (nl A 3) d f2.2.1 (av A 3) hd f2.2.2.1;generalize dq 0 (nl A 0) d=q0 at *
 generalize dr 0 (nl A 0) d=t1 at *
 generalize dq t1 (nl A 1) d=q1 at *
 generalize dr t1 (nl A 1) d=t2 at *
 generalize dq t2 (nl A 2) d=q2 at *
 generalize dr t2 (nl A 2) d=t3 at *
 generalize dq t3 (nl A 3) d=q3 at *
 generalize dr t3 (nl A 3) d=t4 at *
 have hv:q0*2^192+q1*2^128+q2*2^64+q3=((A/d.toNat:Nat):Int):=by
  have e:((A/d.toNat:Nat):Int)=(A:Int)/d:=by
   rw [Int.natCast_ediv,Int.toNat_of_nonneg hd.1]
  rw [e];have g0:=f0.2.2.2;have g1:=f1.2.2.2;have g2:=f2.2.2.2;have g3:=f3.2.2.2;have hs:(q0*2^192+q1*2^128+q2*2^64+q3)*d=q0*d*2^192+q1*d*2^128+q2*d*2^64+q3*d:=by grind
  have tot:(A:Int)=t4+(q0*2^192+q1*2^128+q2*2^64+q3)*d:=by
   rw [hs];generalize q0*d=p0 at *
   generalize q1*d=p1 at *
   generalize q2*d=p2 at *
   generalize q3*d=p3 at *
   generalize nl A 0=a0 at *
   generalize nl A 1=a1 at *
   generalize nl A 2=a2 at *
   generalize nl A 3=a3 at *
   omega
  rw [tot,Int.add_mul_ediv_right _ _ (by omega),Int.ediv_eq_zero_of_lt f3.2.1.1 f3.2.2.1];omega
 obtain ⟨h0,h1,h2,h3⟩:=jG q0 q1 q2 q3 f0.1 f1.1 f2.1 f3.1 _ hv;exact ⟨eF h0 h1 h2 h3,hb⟩
theorem Bw (a0 a1 a2 a3 b0 b1 b2 b3:Int) (w:World) (ha0:U64 a0) (ha1:U64 a1) (ha2:U64 a2) (ha3:U64 a3) (hb0:U64 b0) (hb1:U64 b1) (hb2:U64 b2) (hb3:U64 b3) :
 Calls Try.prog 86 #[.agg #[.int .u64 a0,.int .u64 a1,.int .u64 a2,.int .u64 a3],.agg #[.int .u64 b0,.int .u64 b1,.int .u64 b2,.int .u64 b3]] w fun e w' =>
  e=.returned (.agg #[.int .u64 (sb a0 b0 (sbc a1 b1 (sbc a2 b2 (sbc a3 b3 0)))),.int .u64 (sb a1 b1 (sbc a2 b2 (sbc a3 b3 0))),.int .u64 (sb a2 b2 (sbc a3 b3 0)),.int .u64 (sb a3 b3 0)])/\Below w.heap.size w w':=by
 have f3:=bB a3 b3 0 ha3 hb3 (by unfold Bit;omega)
 have f2:=bB a2 b2 _ ha2 hb2 f3.2.1;have f1:=bB a1 b1 _ ha1 hb1 f2.2.1;have s3:=bS a3 b3 0 ha3 hb3 (by unfold Bit;omega)
 have s2:=bS a2 b2 _ ha2 hb2 f3.2.1;have s1:=bS a1 b1 _ ha1 hb1 f2.2.1;have s0:=bS a0 b0 _ ha0 hb0 f1.2.1;clear f1 f2 f3;generalize sb a3 b3 0=r3 at *
 generalize sbc a3 b3 0=c3 at *
 generalize sb a2 b2 c3=r2 at *
 generalize sbc a2 b2 c3=c2 at *
 generalize sb a1 b1 c2=r1 at *
 generalize sbc a1 b1 c2=c1 at *
 generalize sb a0 b0 c1=r0 at *
 generalize sbc a0 b0 c1=c0 at *
 go_enter Try.func86,Try.ntmps86;go_wp2;refine wp_loop_rounds 5 ?_;rw [rounds_succ];go_wp2;go_region;go_wp2;rw [rounds_succ];go_wp2;go_region;go_wp2;rw [rounds_succ];go_wp2;go_region;go_wp2;rw [rounds_succ];go_wp2;go_region;go_wp2;rw [rounds_succ];go_wp2;refine bodyPost_ret (v:=.agg #[.int .u64 r0,.int .u64 r1,.int .u64 r2,.int .u64 r3]) (by simp [results,Try.results86,go_sem]) rfl ⟨rfl,?_⟩
 go_grown
theorem Gq (A B:Nat) (hA:A<W) (hB:B<=A) (w:World) :
 Calls Try.prog 86 #[.agg #[.int .u64 (nl A 0),.int .u64 (nl A 1),.int .u64 (nl A 2),.int .u64 (nl A 3)],.agg #[.int .u64 (nl B 0),.int .u64 (nl B 1),.int .u64 (nl B 2),.int .u64 (nl B 3)]] w fun e w' =>
  e=.returned (.agg #[.int .u64 (nl (A-B) 0),.int .u64 (nl (A-B) 1),.int .u64 (nl (A-B) 2),.int .u64 (nl (A-B) 3)])/\Below w.heap.size w w':=by
 refine (Bw _ _ _ _ _ _ _ _ w (av A 0) (av A 1) (av A 2) (av A 3) (av B 0) (av B 1) (av B 2) (av B 3)).mono ?_;rintro e w' ⟨rfl,hb⟩;have va:=dx A hA;have vb:=dx B (by omega)
 unfold V4 at va vb;have f3:=bB (nl A 3) (nl B 3) 0 (av A 3) (av B 3) (by unfold Bit;omega)
 have f2:=bB (nl A 2) (nl B 2) _ (av A 2) (av B 2) f3.2.1;have f1:=bB (nl A 1) (nl B 1) _ (av A 1) (av B 1) f2.2.1;have f0:=bB (nl A 0) (nl B 0) _ (av A 0) (av B 0) f1.2.1;generalize sb (nl A 3) (nl B 3) 0=r3 at *
 generalize sbc (nl A 3) (nl B 3) 0=c3 at *
 generalize sb (nl A 2) (nl B 2) c3=r2 at *
 generalize sbc (nl A 2) (nl B 2) c3=c2 at *
 generalize sb (nl A 1) (nl B 1) c2=r1 at *
 generalize sbc (nl A 1) (nl B 1) c2=c1 at *
 generalize sb (nl A 0) (nl B 0) c1=r0 at *
 generalize sbc (nl A 0) (nl B 0) c1=c0 at *
 have hv:r0*2^192+r1*2^128+r2*2^64+r3=((A-B:Nat):Int):=by
  unfold U64 Bit at *
  generalize nl A 0=a0 at *
  generalize nl A 1=a1 at *
  generalize nl A 2=a2 at *
  generalize nl A 3=a3 at *
  generalize nl B 0=b0 at *
  generalize nl B 1=b1 at *
  generalize nl B 2=b2 at *
  generalize nl B 3=b3 at *
  have hW:W=115792089237316195423570985008687907853269984665640564039457584007913129639936:=by unfold W;decide +kernel
  rw [hW] at hA;have:(r0*2^192+r1*2^128+r2*2^64+r3:Int)=A-B+115792089237316195423570985008687907853269984665640564039457584007913129639936*c0:=by omega
  have hb1:0<=c0/\c0<=1:=f0.2.1;omega
 obtain ⟨h0,h1,h2,h3⟩:=jG r0 r1 r2 r3 f0.1 f1.1 f2.1 f3.1 _ hv;exact ⟨eF h0 h1 h2 h3,hb⟩
theorem AJ (a0 a1 a2 a3 b0 b1 b2 b3:Int) (w:World) (ha0:U64 a0) (ha1:U64 a1) (ha2:U64 a2) (ha3:U64 a3) (hb0:U64 b0) (hb1:U64 b1) (hb2:U64 b2) (hb3:U64 b3) :
 Calls Try.prog 87 #[.agg #[.int .u64 a0,.int .u64 a1,.int .u64 a2,.int .u64 a3],.agg #[.int .u64 b0,.int .u64 b1,.int .u64 b2,.int .u64 b3]] w fun e w' =>
  e=.returned (.agg #[.int .u64 (ad a0 b0 (adc a1 b1 (adc a2 b2 (adc a3 b3 0)))),.int .u64 (ad a1 b1 (adc a2 b2 (adc a3 b3 0))),.int .u64 (ad a2 b2 (adc a3 b3 0)),.int .u64 (ad a3 b3 0)])/\Below w.heap.size w w':=by
 have f3:=aR a3 b3 0 ha3 hb3 (by unfold Bit;omega)
 have f2:=aR a2 b2 _ ha2 hb2 f3.2.1;have f1:=aR a1 b1 _ ha1 hb1 f2.2.1;have s3:=aK a3 b3 0 ha3 hb3 (by unfold Bit;omega)
 have s2:=aK a2 b2 _ ha2 hb2 f3.2.1;have s1:=aK a1 b1 _ ha1 hb1 f2.2.1;have s0:=aK a0 b0 _ ha0 hb0 f1.2.1;clear f1 f2 f3;generalize ad a3 b3 0=r3 at *
 generalize adc a3 b3 0=c3 at *
 generalize ad a2 b2 c3=r2 at *
 generalize adc a2 b2 c3=c2 at *
 generalize ad a1 b1 c2=r1 at *
 generalize adc a1 b1 c2=c1 at *
 generalize ad a0 b0 c1=r0 at *
 generalize adc a0 b0 c1=c0 at *
 go_enter Try.func87,Try.ntmps87;go_wp2;refine wp_loop_rounds 5 ?_;rw [rounds_succ];go_wp2;go_region;go_wp2;rw [rounds_succ];go_wp2;go_region;go_wp2;rw [rounds_succ];go_wp2;go_region;go_wp2;rw [rounds_succ];go_wp2;go_region;go_wp2;rw [rounds_succ];go_wp2;refine bodyPost_ret (v:=.agg #[.int .u64 r0,.int .u64 r1,.int .u64 r2,.int .u64 r3]) (by simp [results,Try.results87,go_sem]) rfl ⟨rfl,?_⟩
 go_grown
theorem JF (A B:Nat) (h:A+B<W) (w:World) :
 Calls Try.prog 87 #[.agg #[.int .u64 (nl A 0),.int .u64 (nl A 1),.int .u64 (nl A 2),.int .u64 (nl A 3)],.agg #[.int .u64 (nl B 0),.int .u64 (nl B 1),.int .u64 (nl B 2),.int .u64 (nl B 3)]] w fun e w' =>
  e=.returned (.agg #[.int .u64 (nl (A+B) 0),.int .u64 (nl (A+B) 1),.int .u64 (nl (A+B) 2),.int .u64 (nl (A+B) 3)])/\Below w.heap.size w w':=by
 refine (AJ _ _ _ _ _ _ _ _ w (av A 0) (av A 1) (av A 2) (av A 3) (av B 0) (av B 1) (av B 2) (av B 3)).mono ?_;rintro e w' ⟨rfl,hb⟩;have va:=dx A (by omega)
 have vb:=dx B (by omega)
 unfold V4 at va vb;have f3:=aR (nl A 3) (nl B 3) 0 (av A 3) (av B 3) (by unfold Bit;omega)
 have f2:=aR (nl A 2) (nl B 2) _ (av A 2) (av B 2) f3.2.1;have f1:=aR (nl A 1) (nl B 1) _ (av A 1) (av B 1) f2.2.1;have f0:=aR (nl A 0) (nl B 0) _ (av A 0) (av B 0) f1.2.1;generalize ad (nl A 3) (nl B 3) 0=r3 at *
 generalize adc (nl A 3) (nl B 3) 0=c3 at *
 generalize ad (nl A 2) (nl B 2) c3=r2 at *
 generalize adc (nl A 2) (nl B 2) c3=c2 at *
 generalize ad (nl A 1) (nl B 1) c2=r1 at *
 generalize adc (nl A 1) (nl B 1) c2=c1 at *
 generalize ad (nl A 0) (nl B 0) c1=r0 at *
 generalize adc (nl A 0) (nl B 0) c1=c0 at *
 have hv:r0*2^192+r1*2^128+r2*2^64+r3=((A+B:Nat):Int):=by
  unfold U64 Bit at *
  generalize nl A 0=a0 at *
  generalize nl A 1=a1 at *
  generalize nl A 2=a2 at *
  generalize nl A 3=a3 at *
  generalize nl B 0=b0 at *
  generalize nl B 1=b1 at *
  generalize nl B 2=b2 at *
  generalize nl B 3=b3 at *
  have hW:W=115792089237316195423570985008687907853269984665640564039457584007913129639936:=by unfold W;decide +kernel
  rw [hW] at h;have:(r0*2^192+r1*2^128+r2*2^64+r3:Int)=A+B-115792089237316195423570985008687907853269984665640564039457584007913129639936*c0:=by omega
  have hb1:0<=c0/\c0<=1:=f0.2.1;omega
 obtain ⟨h0,h1,h2,h3⟩:=jG r0 r1 r2 r3 f0.1 f1.1 f2.1 f3.1 _ hv;exact ⟨eF h0 h1 h2 h3,hb⟩
end Go.Proofs.Ytcfpmdndgbpfpaa
namespace Go.Proofs.Ytcfpmdndgbpfpaa
open Go.RowKit Alm
theorem Ph (a0 a1 a2 a3 b0 b1 b2 b3:Int) (w:World) (h:a0≠b0) :
 Calls Try.prog 71 #[.agg #[.int .u64 a0,.int .u64 a1,.int .u64 a2,.int .u64 a3],.agg #[.int .u64 b0,.int .u64 b1,.int .u64 b2,.int .u64 b3]] w fun e w'=>e=.returned (.bool (decide (a0<b0)))/\Below w.heap.size w w':=by
 have h1:(a0 != b0)=true:=by simpa using h
 have h2:(a0==b0)=false:=by simpa using h
 have h3:decide (a0=b0)=false:=by simpa using h
 clear h;go_enter Try.func71,Try.ntmps71;go_wp2;refine wp_loop_rounds 5 ?_;rw [rounds_succ];go_wp2;go_region;go_wp2;go_region;go_wp2;go_ret;exact ⟨rfl,by go_grown⟩
theorem NS (a0 a1 a2 a3 b1 b2 b3:Int) (w:World) (h:a1≠b1) :
 Calls Try.prog 71 #[.agg #[.int .u64 a0,.int .u64 a1,.int .u64 a2,.int .u64 a3],.agg #[.int .u64 a0,.int .u64 b1,.int .u64 b2,.int .u64 b3]] w fun e w'=>e=.returned (.bool (decide (a1<b1)))/\Below w.heap.size w w':=by
 have h1:(a1 != b1)=true:=by simpa using h
 have h2:(a1==b1)=false:=by simpa using h
 have h3:decide (a1=b1)=false:=by simpa using h
 clear h;go_enter Try.func71,Try.ntmps71;go_wp2;refine wp_loop_rounds 5 ?_;rw [rounds_succ];go_wp2;go_region;go_wp2;rw [rounds_succ];go_wp2;go_region;go_wp2;go_region;go_wp2;go_ret;exact ⟨rfl,by go_grown⟩
theorem OW (a0 a1 a2 a3 b2 b3:Int) (w:World) (h:a2≠b2) :
 Calls Try.prog 71 #[.agg #[.int .u64 a0,.int .u64 a1,.int .u64 a2,.int .u64 a3],.agg #[.int .u64 a0,.int .u64 a1,.int .u64 b2,.int .u64 b3]] w fun e w'=>e=.returned (.bool (decide (a2<b2)))/\Below w.heap.size w w':=by
 have h1:(a2 != b2)=true:=by simpa using h
 have h2:(a2==b2)=false:=by simpa using h
 have h3:decide (a2=b2)=false:=by simpa using h
 clear h;go_enter Try.func71,Try.ntmps71;go_wp2;refine wp_loop_rounds 5 ?_;rw [rounds_succ];go_wp2;go_region;go_wp2;rw [rounds_succ];go_wp2;go_region;go_wp2;rw [rounds_succ];go_wp2;go_region;go_wp2;go_region;go_wp2;go_ret;exact ⟨rfl,by go_grown⟩
theorem Nz (a0 a1 a2 a3 b3:Int) (w:World) (h:a3≠b3) :
 Calls Try.prog 71 #[.agg #[.int .u64 a0,.int .u64 a1,.int .u64 a2,.int .u64 a3],.agg #[.int .u64 a0,.int .u64 a1,.int .u64 a2,.int .u64 b3]] w fun e w'=>e=.returned (.bool (decide (a3<b3)))/\Below w.heap.size w w':=by
 have h1:(a3 != b3)=true:=by simpa using h
 have h2:(a3==b3)=false:=by simpa using h
 have h3:decide (a3=b3)=false:=by simpa using h
 clear h;go_enter Try.func71,Try.ntmps71;go_wp2;refine wp_loop_rounds 5 ?_;rw [rounds_succ];go_wp2;go_region;go_wp2;rw [rounds_succ];go_wp2;go_region;go_wp2;rw [rounds_succ];go_wp2;go_region;go_wp2;rw [rounds_succ];go_wp2;go_region;go_wp2;go_region;go_wp2;go_ret;exact ⟨rfl,by go_grown⟩
theorem O3 (a0 a1 a2 a3:Int) (w:World) :
 Calls Try.prog 71 #[.agg #[.int .u64 a0,.int .u64 a1,.int .u64 a2,.int .u64 a3],.agg #[.int .u64 a0,.int .u64 a1,.int .u64 a2,.int .u64 a3]] w fun e w'=>e=.returned (.bool false)/\Below w.heap.size w w':=by
 go_enter Try.func71,Try.ntmps71;go_wp2;refine wp_loop_rounds 5 ?_;rw [rounds_succ];go_wp2;go_region;go_wp2;rw [rounds_succ];go_wp2;go_region;go_wp2;rw [rounds_succ];go_wp2;go_region;go_wp2;rw [rounds_succ];go_wp2;go_region;go_wp2;rw [rounds_succ];go_wp2;go_ret;exact ⟨rfl,by go_grown⟩
theorem Lr (A B:Nat) (hA:A<W) (hB:B<W) (w:World) :
 Calls Try.prog 71 #[.agg #[.int .u64 (nl A 0),.int .u64 (nl A 1),.int .u64 (nl A 2),.int .u64 (nl A 3)],.agg #[.int .u64 (nl B 0),.int .u64 (nl B 1),.int .u64 (nl B 2),.int .u64 (nl B 3)]] w fun e w' =>
  e=.returned (.bool (decide (A<B)))/\Below w.heap.size w w':=by
 rw [<-Cc A B hA hB];generalize nl A 0=a0 at *
 generalize nl A 1=a1 at *
 generalize nl A 2=a2 at *
 generalize nl A 3=a3 at *
 generalize nl B 0=b0 at *
 generalize nl B 1=b1 at *
 generalize nl B 2=b2 at *
 generalize nl B 3=b3 at *
 by_cases h0:a0=b0
 . subst h0
   by_cases h1:a1=b1
   . subst h1
     by_cases h2:a2=b2
     . subst h2
       by_cases h3:a3=b3
       . subst h3;exact (O3 a0 a1 a2 a3 w).mono fun e w' ⟨he,hb⟩=>⟨by rw [he];exact bR (by unfold lexB;simp),hb⟩
       . exact (Nz a0 a1 a2 a3 b3 w h3).mono fun e w' ⟨he,hb⟩=>⟨by rw [he];exact bR (by unfold lexB;simp),hb⟩
     . exact (OW a0 a1 a2 a3 b2 b3 w h2).mono fun e w' ⟨he,hb⟩=>⟨by rw [he];exact bR (by unfold lexB;simp [h2]),hb⟩
   . exact (NS a0 a1 a2 a3 b1 b2 b3 w h1).mono fun e w' ⟨he,hb⟩=>⟨by rw [he];exact bR (by unfold lexB;simp [h1]),hb⟩
 . exact (Ph a0 a1 a2 a3 b0 b1 b2 b3 w h0).mono fun e w' ⟨he,hb⟩=>⟨by rw [he];exact bR (by unfold lexB;simp [h0]),hb⟩
theorem QU (w:World) :
 Calls Try.prog 78 #[] w fun e w'=>e=.returned (.agg #[.int .u64 (nl PiA 0),.int .u64 (nl PiA 1),.int .u64 (nl PiA 2),.int .u64 (nl PiA 3)])/\Below w.heap.size w w':=by
 have e0:nl PiA 0=3:=by unfold nl PiA;decide +kernel
 have e1:nl PiA 1=2611923443488327891:=by unfold nl PiA;decide +kernel
 have e2:nl PiA 2=1376283091369227076:=by unfold nl PiA;decide +kernel
 have e3:nl PiA 3=11820040416388919760:=by unfold nl PiA;decide +kernel
 rw [e0,e1,e2,e3];clear e0 e1 e2 e3;go_enter Try.func78,Try.ntmps78;go_wp2;refine bodyPost_ret (by simp [results,Try.results78,go_sem];try rfl) rfl ⟨rfl,by go_grown⟩
end Go.Proofs.Ytcfpmdndgbpfpaa
namespace Go.Proofs.Ytcfpmdndgbpfpaa
open Go.RowKit Alm
structure AU (w wr:World) (Y b7 b8 s T:Nat):Prop where
 below:Below w.heap.size w wr
 y:dP wr (w.heap.size+1) Y
 r:dP wr (w.heap.size+1+1) 0
 s:dP wr b7 s
 t:dP wr b8 T
 lt:w.heap.size+5<=wr.heap.size
theorem AU.t_store {w wr w2:World} {Y b7 b8 s T:Nat} (h:AU w wr Y b7 b8 s T) (hb:Below wr.heap.size wr w2) (h7:w.heap.size+3<=b7/\b7<w.heap.size+5) (h8:w.heap.size+3<=b8/\b8<w.heap.size+5) (hn:b7≠b8) (T':Nat):AU w (bG w2 b8 T') Y b7 b8 s T':=by
 have hl:=h.lt;have hs:=hb.size;refine ⟨jw (h.below.trans (hb.mono (by omega))) _ (by omega),(h.y.below hb (by omega)).apart _ (by omega),(h.r.below hb (by omega)).apart _ (by omega),(h.s.below hb (by omega)).apart _ (by omega),(h.t.below hb (by omega)).store _,by rw [kR];omega⟩
theorem AU.s_store {w wr w2:World} {Y b7 b8 s T:Nat} (h:AU w wr Y b7 b8 s T) (hb:Below wr.heap.size wr w2) (h7:w.heap.size+3<=b7/\b7<w.heap.size+5) (h8:w.heap.size+3<=b8/\b8<w.heap.size+5) (hn:b7≠b8) (S:Nat):AU w (bG w2 b7 S) Y b7 b8 S T:=by
 have hl:=h.lt;have hs:=hb.size;refine ⟨jw (h.below.trans (hb.mono (by omega))) _ (by omega),(h.y.below hb (by omega)).apart _ (by omega),(h.r.below hb (by omega)).apart _ (by omega),(h.s.below hb (by omega)).store _,(h.t.below hb (by omega)).apart _ (by omega),by rw [kR];omega⟩
theorem IJ (w:World) (A:Nat) (hA:A<W):(binOp .neq 95 (.agg #[.int .u64 (nl A 0),.int .u64 (nl A 1),.int .u64 (nl A 2),.int .u64 (nl A 3)]) (.agg #[.int .u64 0,.int .u64 0,.int .u64 0,.int .u64 0])).run Try.prog w=.ok (.bool (!(decide (A=0)))) w:=by
 rw [J9,Cu A hA]
def M6 (F Y n:Nat) (w:World) (e:Ending) (w':World):Prop :=
 (∃ S:Nat,(S:Int)=dn 34 F Y n/\S<=QA/\e=.returned (.agg #[.int .u64 (nl S 0),.int .u64 (nl S 1),.int .u64 (nl S 2),.int .u64 (nl S 3)]))/\Below w.heap.size w w'
def Sk (F Y n0 b7 b8:Nat) (w:World) (v2 v9:Value) (wr:World):Prop :=
 ∃ (n s T:Nat) (mi:Bool),v2=.int .u64 (n:Int)/\v9=.bool mi/\zF (dn 34 F Y n0) F Y s T n mi/\AU w wr Y b7 b8 s T
theorem E5:2^60*QA<W:=by rw [bL];unfold W;decide +kernel
theorem DC {R:Int} {F Y s T n:Nat} {mi:Bool} (h:zF R F Y s T n mi):T<=QA/\s<=QA:=by
 obtain ⟨m,_,_,_,_,h1,h2,h⟩:=h;refine ⟨h1,?_⟩;cases mi<;>simp at h<;>omega
theorem EQ (F Y n:Nat) (w:World) (hF:F<=QA) (hY:Y<=QA) (hn:n<=1) :
 Calls Try.prog 81 #[.agg #[.int .u64 (nl F 0),.int .u64 (nl F 1),.int .u64 (nl F 2),.int .u64 (nl F 3)],.agg #[.int .u64 (nl Y 0),.int .u64 (nl Y 1),.int .u64 (nl Y 2),.int .u64 (nl Y 3)],.int .u64 (n:Int)] w (M6 F Y n w):=by
 have HF:=Lib.hid hF;have HY:=Lib.hid hY;have HN:=Lib.hid hn;clear hF hY hn;go_enter Try.func81,Try.ntmps81;go_wp2;go_region
 . go_wp2;go_loopw [2,9] (fun v2 v9 wr=>Sk F Y n (w.heap.size+1+1+1) (w.heap.size+1+1+1+1) w v2 v9 wr) (fun v2 _ _=>(100-intOf v2).toNat)
   case atStart =>
    refine ⟨n,F,F,true,rfl,rfl,kQ F Y n HF.out HN.out,?_,?_,?_,?_,?_,?_⟩
    . go_grown
    . intro k hk;have:k=0∨k=1∨k=2∨k=3:=by omega
      rcases this with rfl|rfl|rfl|rfl<;>refine ⟨by simp [go_sem],by simp [go_sem],av _ _⟩
    . intro k hk;have:k=0∨k=1∨k=2∨k=3:=by omega
      rcases this with rfl|rfl|rfl|rfl<;>refine ⟨by simp [go_sem,nl],by simp [go_sem],av _ _⟩
    . intro k hk;have:k=0∨k=1∨k=2∨k=3:=by omega
      rcases this with rfl|rfl|rfl|rfl<;>refine ⟨by simp [go_sem],by simp [go_sem],av _ _⟩
    . intro k hk;have:k=0∨k=1∨k=2∨k=3:=by omega
      rcases this with rfl|rfl|rfl|rfl<;>refine ⟨by simp [go_sem],by simp [go_sem],av _ _⟩
    . simp
   case round =>
    obtain ⟨n',s,T,mi,rfl,rfl,hI,hW⟩:=hrel;have HI:=Lib.hid hI;have HW:=Lib.hid hW;clear hI hW
    have TQ:Hid (T<W/\s<W/\T<=QA/\s<=QA/\Y<W):=by
     have:=DC HI.out;have:=E5;have:=HY.out;exact ⟨by omega,by omega,by omega,by omega,by omega⟩
    have AN:=fun w=>IJ w T TQ.out.1
    by_cases hT:T=0
    . subst hT;simp only [decide_true,Bool.not_true] at AN;have hR:=mU HI.out;have FIN:Hid (∃ S:Nat,(S:Int)=dn 34 F Y n/\S<=QA/\S=s):=⟨s,hR.symm,TQ.out.2.2.2.1,rfl⟩;obtain ⟨q0,q1,q2,q3⟩:=HW.out.t.cells;obtain ⟨s0,s1,s2,s3⟩:=HW.out.s.cells;obtain ⟨r0,r1,r2,r3⟩:=HW.out.r.cells;obtain ⟨f0,f1,f2,f3⟩:=HW.out.r.free;have HB:=Lib.hid HW.out.below;clear hR;go_wp2;refine bodyPost_ret (v:=.agg #[.int .u64 (nl s 0),.int .u64 (nl s 1),.int .u64 (nl s 2),.int .u64 (nl s 3)]) (by simp [results,Try.results81,go_sem,r0,r1,r2,r3]) rfl ⟨?_,?_⟩
      . obtain ⟨S,h1,h2,rfl⟩:=FIN.out;exact ⟨S,h1,h2,rfl⟩
      . have hb:=HB.out;go_grown
    . simp only [hT,decide_false,Bool.not_false] at AN;have hT0:0<T:=by omega
      have NX:=mY HY.out HI.out hT0;obtain ⟨hn67,hlt,NX⟩:=NX;have hprod:∃ D:Nat,D=(n'+1)*(n'+2)/\0<D/\D<=68*69:=⟨_,rfl,Nat.mul_pos (by omega) (by omega),Nat.mul_le_mul (by omega) (by omega)⟩
      obtain ⟨D,hD,hD0,hD1⟩:=hprod;rw [<-hD] at NX hlt
      have hDw:IntKind.u64.wrap (((n':Int)+1)*((n':Int)+2))=(D:Int):=by
       have e:((n':Int)+1)*((n':Int)+2)=(D:Int):=by
        rw [hD,Int.natCast_mul];rfl
       rw [e];exact w64 _ (by unfold U64;omega)
      have hmW:au T Y<W:=by
       have h1:au T Y<=T:=by
        unfold au;apply Nat.div_le_of_le_mul;rw [Nat.mul_comm QA];exact Nat.mul_le_mul_left _ HY.out
       have:=TQ.out.1;omega
      have C1:=Lib.hid (fun w=>zS T Y TQ.out.1 TQ.out.2.2.2.2 (by
       have h1:=Nat.mul_le_mul TQ.out.2.2.1 HY.out;have h2:QA*QA<2^448:=by rw [bL];decide +kernel
       omega) w)
      have C2:=fun w=>wJ (au T Y) (D:Int) hmW (by unfold U64;omega) (by omega) w
      rw [Int.toNat_natCast] at C2;replace C2:=Lib.hid C2;generalize au T Y/D=T' at *
      have HNX:=Lib.hid NX;have HLT:=Lib.hid hlt;have HD:=Lib.hid hD;clear NX hlt hD hmW hD0 hD1;obtain ⟨q0,q1,q2,q3⟩:=HW.out.t.cells;obtain ⟨y0,y1,y2,y3⟩:=HW.out.y.cells;go_wp2_with fail;refine (C1.out _).mono ?_;rintro e w1 ⟨rfl,hb1⟩;have HB1:=Lib.hid hb1;clear hb1 q0 q1 q2 q3 y0 y1 y2 y3;go_wp2_with fail;refine (C2.out _).mono ?_;rintro e w2 ⟨rfl,hb2⟩;have HB2:Hid (Below wr.heap.size wr w2):=HB1.out.trans (hb2.mono HB1.out.size);clear hb2 HB1;have lt5:Hid (w.heap.size+5<=wr.heap.size):=HW.out.lt;have SX:=Lib.hid (HW.out.t_store HB2.out (by omega) (by omega) (by omega) T')
      obtain ⟨q0,q1,q2,q3⟩:=(HW.out.t.below HB2.out (by have:=lt5.out;omega)).cells
      obtain ⟨f0,f1,f2,f3⟩:=(HW.out.t.below HB2.out (by have:=lt5.out;omega)).free
      obtain ⟨s0,s1,s2,s3⟩:=(HW.out.s.below HB2.out (by have:=lt5.out;omega)).cells
      have hn68:(n':Int)<=68:=by omega
      cases mi
      . have NX:=HNX.out;simp only [Bool.false_eq_true,if_false] at NX;have C3:=Lib.hid (fun w=>JF s T' (by have:=E5;omega) w)
        have HNI:=Lib.hid NX.2;clear NX HNX;go_wp2_with fail;refine (C3.out _).mono ?_;rintro e w3 ⟨rfl,hb3⟩;have SY:=Lib.hid (SX.out.s_store hb3 (by omega) (by omega) (by omega) (s+T'))
        obtain ⟨g0,g1,g2,g3⟩:=(SX.out.s.below (show Below (bG w2 (w.heap.size+1+1+1+1) T').heap.size (bG w2 (w.heap.size+1+1+1+1) T') w3 from hb3) (by have:=SX.out.lt;omega)).free
        obtain ⟨k0,k1,k2,k3⟩:=(SX.out.s.below (show Below (bG w2 (w.heap.size+1+1+1+1) T').heap.size (bG w2 (w.heap.size+1+1+1+1) T') w3 from hb3) (by have:=SX.out.lt;omega)).cells
        clear hb3 q0 q1 q2 q3 f0 f1 f2 f3 s0 s1 s2 s3;go_wp2;exact ⟨⟨n'+2,s+T',T',true,by rw [Int.natCast_add];rfl,by first|rfl|simp,HNI.out,SY.out⟩,by simp only [intOf];omega⟩
      . have NX:=HNX.out;simp only [if_true] at NX;have C3:=Lib.hid (fun w=>Gq s T' TQ.out.2.1 NX.1 w)
        have HNI:=Lib.hid NX.2;clear NX HNX;go_wp2_with fail;refine (C3.out _).mono ?_;rintro e w3 ⟨rfl,hb3⟩;have SY:=Lib.hid (SX.out.s_store hb3 (by omega) (by omega) (by omega) (s-T'))
        obtain ⟨g0,g1,g2,g3⟩:=(SX.out.s.below (show Below (bG w2 (w.heap.size+1+1+1+1) T').heap.size (bG w2 (w.heap.size+1+1+1+1) T') w3 from hb3) (by have:=SX.out.lt;omega)).free
        obtain ⟨k0,k1,k2,k3⟩:=(SX.out.s.below (show Below (bG w2 (w.heap.size+1+1+1+1) T').heap.size (bG w2 (w.heap.size+1+1+1+1) T') w3 from hb3) (by have:=SX.out.lt;omega)).cells
        clear hb3 q0 q1 q2 q3 f0 f1 f2 f3 s0 s1 s2 s3;go_wp2;exact ⟨⟨n'+2,s-T',T',false,by rw [Int.natCast_add];rfl,by first|rfl|simp,HNI.out,SY.out⟩,by simp only [intOf];omega⟩
 . go_wp2;go_loopw [2,9] (fun v2 v9 wr=>Sk F Y n (w.heap.size+1+1+1+1) (w.heap.size+1+1+1) w v2 v9 wr) (fun v2 _ _=>(100-intOf v2).toNat)
   case atStart =>
    refine ⟨n,F,F,true,rfl,rfl,kQ F Y n HF.out HN.out,?_,?_,?_,?_,?_,?_⟩
    . go_grown
    . intro k hk;have:k=0∨k=1∨k=2∨k=3:=by omega
      rcases this with rfl|rfl|rfl|rfl<;>refine ⟨by simp [go_sem],by simp [go_sem],av _ _⟩
    . intro k hk;have:k=0∨k=1∨k=2∨k=3:=by omega
      rcases this with rfl|rfl|rfl|rfl<;>refine ⟨by simp [go_sem,nl],by simp [go_sem],av _ _⟩
    . intro k hk;have:k=0∨k=1∨k=2∨k=3:=by omega
      rcases this with rfl|rfl|rfl|rfl<;>refine ⟨by simp [go_sem],by simp [go_sem],av _ _⟩
    . intro k hk;have:k=0∨k=1∨k=2∨k=3:=by omega
      rcases this with rfl|rfl|rfl|rfl<;>refine ⟨by simp [go_sem],by simp [go_sem],av _ _⟩
    . simp
   case round =>
    obtain ⟨n',s,T,mi,rfl,rfl,hI,hW⟩:=hrel;have HI:=Lib.hid hI;have HW:=Lib.hid hW;clear hI hW
    have TQ:Hid (T<W/\s<W/\T<=QA/\s<=QA/\Y<W):=by
     have:=DC HI.out;have:=E5;have:=HY.out;exact ⟨by omega,by omega,by omega,by omega,by omega⟩
    have AN:=fun w=>IJ w T TQ.out.1
    by_cases hT:T=0
    . subst hT;simp only [decide_true,Bool.not_true] at AN;have hR:=mU HI.out;have FIN:Hid (∃ S:Nat,(S:Int)=dn 34 F Y n/\S<=QA/\S=s):=⟨s,hR.symm,TQ.out.2.2.2.1,rfl⟩;obtain ⟨q0,q1,q2,q3⟩:=HW.out.t.cells;obtain ⟨s0,s1,s2,s3⟩:=HW.out.s.cells;obtain ⟨r0,r1,r2,r3⟩:=HW.out.r.cells;obtain ⟨f0,f1,f2,f3⟩:=HW.out.r.free;have HB:=Lib.hid HW.out.below;clear hR;go_wp2;refine bodyPost_ret (v:=.agg #[.int .u64 (nl s 0),.int .u64 (nl s 1),.int .u64 (nl s 2),.int .u64 (nl s 3)]) (by simp [results,Try.results81,go_sem,r0,r1,r2,r3]) rfl ⟨?_,?_⟩
      . obtain ⟨S,h1,h2,rfl⟩:=FIN.out;exact ⟨S,h1,h2,rfl⟩
      . have hb:=HB.out;go_grown
    . simp only [hT,decide_false,Bool.not_false] at AN;have hT0:0<T:=by omega
      have NX:=mY HY.out HI.out hT0;obtain ⟨hn67,hlt,NX⟩:=NX;have hprod:∃ D:Nat,D=(n'+1)*(n'+2)/\0<D/\D<=68*69:=⟨_,rfl,Nat.mul_pos (by omega) (by omega),Nat.mul_le_mul (by omega) (by omega)⟩
      obtain ⟨D,hD,hD0,hD1⟩:=hprod;rw [<-hD] at NX hlt
      have hDw:IntKind.u64.wrap (((n':Int)+1)*((n':Int)+2))=(D:Int):=by
       have e:((n':Int)+1)*((n':Int)+2)=(D:Int):=by
        rw [hD,Int.natCast_mul];rfl
       rw [e];exact w64 _ (by unfold U64;omega)
      have hmW:au T Y<W:=by
       have h1:au T Y<=T:=by
        unfold au;apply Nat.div_le_of_le_mul;rw [Nat.mul_comm QA];exact Nat.mul_le_mul_left _ HY.out
       have:=TQ.out.1;omega
      have C1:=Lib.hid (fun w=>zS T Y TQ.out.1 TQ.out.2.2.2.2 (by
       have h1:=Nat.mul_le_mul TQ.out.2.2.1 HY.out;have h2:QA*QA<2^448:=by rw [bL];decide +kernel
       omega) w)
      have C2:=fun w=>wJ (au T Y) (D:Int) hmW (by unfold U64;omega) (by omega) w
      rw [Int.toNat_natCast] at C2;replace C2:=Lib.hid C2;generalize au T Y/D=T' at *
      have HNX:=Lib.hid NX;have HLT:=Lib.hid hlt;have HD:=Lib.hid hD;clear NX hlt hD hmW hD0 hD1;obtain ⟨q0,q1,q2,q3⟩:=HW.out.t.cells;obtain ⟨y0,y1,y2,y3⟩:=HW.out.y.cells;go_wp2_with fail;refine (C1.out _).mono ?_;rintro e w1 ⟨rfl,hb1⟩;have HB1:=Lib.hid hb1;clear hb1 q0 q1 q2 q3 y0 y1 y2 y3;go_wp2_with fail;refine (C2.out _).mono ?_;rintro e w2 ⟨rfl,hb2⟩;have HB2:Hid (Below wr.heap.size wr w2):=HB1.out.trans (hb2.mono HB1.out.size);clear hb2 HB1;have lt5:Hid (w.heap.size+5<=wr.heap.size):=HW.out.lt;have SX:=Lib.hid (HW.out.t_store HB2.out (by omega) (by omega) (by omega) T')
      obtain ⟨q0,q1,q2,q3⟩:=(HW.out.t.below HB2.out (by have:=lt5.out;omega)).cells
      obtain ⟨f0,f1,f2,f3⟩:=(HW.out.t.below HB2.out (by have:=lt5.out;omega)).free
      obtain ⟨s0,s1,s2,s3⟩:=(HW.out.s.below HB2.out (by have:=lt5.out;omega)).cells
      have hn68:(n':Int)<=68:=by omega
      cases mi
      . have NX:=HNX.out;simp only [Bool.false_eq_true,if_false] at NX;have C3:=Lib.hid (fun w=>JF s T' (by have:=E5;omega) w)
        have HNI:=Lib.hid NX.2;clear NX HNX;go_wp2_with fail;refine (C3.out _).mono ?_;rintro e w3 ⟨rfl,hb3⟩;have SY:=Lib.hid (SX.out.s_store hb3 (by omega) (by omega) (by omega) (s+T'))
        obtain ⟨g0,g1,g2,g3⟩:=(SX.out.s.below (show Below (bG w2 (w.heap.size+1+1+1) T').heap.size (bG w2 (w.heap.size+1+1+1) T') w3 from hb3) (by have:=SX.out.lt;omega)).free
        obtain ⟨k0,k1,k2,k3⟩:=(SX.out.s.below (show Below (bG w2 (w.heap.size+1+1+1) T').heap.size (bG w2 (w.heap.size+1+1+1) T') w3 from hb3) (by have:=SX.out.lt;omega)).cells
        clear hb3 q0 q1 q2 q3 f0 f1 f2 f3 s0 s1 s2 s3;go_wp2;exact ⟨⟨n'+2,s+T',T',true,by rw [Int.natCast_add];rfl,by first|rfl|simp,HNI.out,SY.out⟩,by simp only [intOf];omega⟩
      . have NX:=HNX.out;simp only [if_true] at NX;have C3:=Lib.hid (fun w=>Gq s T' TQ.out.2.1 NX.1 w)
        have HNI:=Lib.hid NX.2;clear NX HNX;go_wp2_with fail;refine (C3.out _).mono ?_;rintro e w3 ⟨rfl,hb3⟩;have SY:=Lib.hid (SX.out.s_store hb3 (by omega) (by omega) (by omega) (s-T'))
        obtain ⟨g0,g1,g2,g3⟩:=(SX.out.s.below (show Below (bG w2 (w.heap.size+1+1+1) T').heap.size (bG w2 (w.heap.size+1+1+1) T') w3 from hb3) (by have:=SX.out.lt;omega)).free
        obtain ⟨k0,k1,k2,k3⟩:=(SX.out.s.below (show Below (bG w2 (w.heap.size+1+1+1) T').heap.size (bG w2 (w.heap.size+1+1+1) T') w3 from hb3) (by have:=SX.out.lt;omega)).cells
        clear hb3 q0 q1 q2 q3 f0 f1 f2 f3 s0 s1 s2 s3;go_wp2;exact ⟨⟨n'+2,s-T',T',false,by rw [Int.natCast_add];rfl,by first|rfl|simp,HNI.out,SY.out⟩,by simp only [intOf];omega⟩
end Go.Proofs.Ytcfpmdndgbpfpaa
namespace Alm
theorem Bv (R:Int) (F Y:Nat) (hY:Y<=QA):∀ (T s n:Nat) (mi:Bool),zF R F Y s T n mi->∃ S:Nat,R=(S:Int)/\S<=QA:=by
 intro T
 induction T using Nat.strongRecOn with
 | _ T ih =>
  intro s n mi h
  by_cases hT:T=0
  . subst hT;obtain ⟨m,_,_,_,_,h1,h2,h3⟩:=id h;refine ⟨s,mU h,?_⟩;cases mi<;>simp at h3<;>omega
  . obtain ⟨_,hlt,h2⟩:=mY hY h (by omega)
    cases mi
    . simp only [Bool.false_eq_true,if_false] at h2;exact ih _ hlt _ _ _ h2.2
    . simp only [if_true] at h2;exact ih _ hlt _ _ _ h2.2
def nO (F Y n:Nat):Nat:=(dn 34 F Y n).toNat
theorem BS (F Y n:Nat) (hF:F<=QA) (hY:Y<=QA) (hn:n<=1):(nO F Y n:Int)=dn 34 F Y n/\nO F Y n<=QA:=by
 obtain ⟨S,h1,h2⟩:=Bv _ F Y hY F F n true (kQ F Y n hF hn);unfold nO;rw [h1];exact ⟨by simp,by simpa using h2⟩
def nA (k:Nat):Nat:=nO (aI k) (sqA k) 1
def nN (k:Nat):Nat:=nO QA (sqA k) 0
theorem pz (k:Nat) (h:k<=2700000):(nA k:Int)=FL k/\nA k<=QA :=
 BS _ _ _ (Nat.le_of_lt (oZ k h)) (Nat.le_of_lt (ja k h).1) (by omega)
theorem oP (k:Nat) (h:k<=2700000):(nN k:Int)=Ec k/\nN k<=QA :=
 BS _ _ _ (Nat.le_refl _) (Nat.le_of_lt (ja k h).1) (by omega)
def sN (k:Nat):Nat:=if k<=2700000 then nA k else nN (5400000-k)
def cN (k:Nat):Nat:=if k<=2700000 then nN k else nA (5400000-k)
theorem Su (k:Nat) (h:k<=5400000):sN k<=QA:=by
 unfold sN;split
 . exact (pz k (by omega)).2
 . exact (oP _ (by omega)).2
theorem Rp (k:Nat) (h:k<=5400000):cN k<=QA:=by
 unfold cN;split
 . exact (oP k (by omega)).2
 . exact (pz _ (by omega)).2
end Alm
namespace Go.Proofs.Ytcfpmdndgbpfpaa
open Go.RowKit Alm
theorem MH (F Y n:Nat) (w:World) (hF:F<=QA) (hY:Y<=QA) (hn:n<=1) :
 Calls Try.prog 81 #[.agg #[.int .u64 (nl F 0),.int .u64 (nl F 1),.int .u64 (nl F 2),.int .u64 (nl F 3)],.agg #[.int .u64 (nl Y 0),.int .u64 (nl Y 1),.int .u64 (nl Y 2),.int .u64 (nl Y 3)],.int .u64 (n:Int)] w fun e w' =>
  e=.returned (.agg #[.int .u64 (nl (nO F Y n) 0),.int .u64 (nl (nO F Y n) 1),.int .u64 (nl (nO F Y n) 2),.int .u64 (nl (nO F Y n) 3)])/\Below w.heap.size w w':=by
 refine (EQ F Y n w hF hY hn).mono ?_;rintro e w' ⟨⟨S,h1,_,rfl⟩,hb⟩;have:nO F Y n=S:=by unfold nO;rw [<-h1];simp
 rw [this];exact ⟨rfl,hb⟩
theorem qR {w w':World} (h:Below w.drew.heap.size w.drew w'):Below w.heap.size w w':=⟨h.os,h.tape,h.output,h.size,h.block⟩
def F4 (w:World) (b:Nat) (x0 x1 x2 x3:Value):Prop :=
 (w.cell? ⟨b,0,none⟩=some x0/\w.cell? ⟨b,1,none⟩=some x1/\w.cell? ⟨b,2,none⟩=some x2/\w.cell? ⟨b,3,none⟩=some x3) /\
 (w.frozen? ⟨b,0,none⟩=false/\w.frozen? ⟨b,1,none⟩=false/\w.frozen? ⟨b,2,none⟩=false/\w.frozen? ⟨b,3,none⟩=false)
def W4 (w:World) (b:Nat) (x0 x1 x2 x3:Value):World:=(((w.setCell ⟨b,0,none⟩ x0).setCell ⟨b,1,none⟩ x1).setCell ⟨b,2,none⟩ x2).setCell ⟨b,3,none⟩ x3
theorem F4.below {w wx:World} {b B:Nat} {x0 x1 x2 x3:Value} (h:F4 w b x0 x1 x2 x3) (hb:Below B w wx) (hB:b<B):F4 wx b x0 x1 x2 x3:=by
 obtain ⟨⟨a0,a1,a2,a3⟩,f0,f1,f2,f3⟩:=h;exact ⟨⟨(hb.cell hB).trans a0,(hb.cell hB).trans a1,(hb.cell hB).trans a2,(hb.cell hB).trans a3⟩,(hb.frozen hB).trans f0,(hb.frozen hB).trans f1,(hb.frozen hB).trans f2,(hb.frozen hB).trans f3⟩
theorem F4.store {w:World} {b:Nat} {x0 x1 x2 x3:Value} (h:F4 w b x0 x1 x2 x3) (y0 y1 y2 y3:Value):F4 (W4 w b y0 y1 y2 y3) b y0 y1 y2 y3:=by
 obtain ⟨⟨a0,a1,a2,a3⟩,f0,f1,f2,f3⟩:=h;have sm:∀ (w:World) (p:Nat) (v u:Value),w.cell? ⟨b,p,none⟩=some u->(w.setCell ⟨b,p,none⟩ v).cell? ⟨b,p,none⟩=some v:=fun w p v u h=>World.cell?_setCell_same _ _ _ h
 have ot:∀ (w:World) (p q:Nat) (v:Value),p≠q->(w.setCell ⟨b,p,none⟩ v).cell? ⟨b,q,none⟩=w.cell? ⟨b,q,none⟩:=fun w p q v h=>World.cell?_setCell_other _ _ _ _ (by intro e;injection e with _ e;exact h e)
 unfold W4;refine ⟨⟨?_,?_,?_,?_⟩,?_,?_,?_,?_⟩
 . rw [ot _ _ _ _ (by omega),ot _ _ _ _ (by omega),ot _ _ _ _ (by omega)];exact sm _ _ _ _ a0
 . rw [ot _ _ _ _ (by omega),ot _ _ _ _ (by omega)];exact sm _ _ _ _ (by rw [ot _ _ _ _ (by omega)];exact a1)
 . rw [ot _ _ _ _ (by omega)];exact sm _ _ _ _ (by rw [ot _ _ _ _ (by omega),ot _ _ _ _ (by omega)];exact a2)
 . exact sm _ _ _ _ (by rw [ot _ _ _ _ (by omega),ot _ _ _ _ (by omega),ot _ _ _ _ (by omega)];exact a3)
 all_goals simp only [World.frozen?_setCell];assumption
theorem F4.apart {w:World} {b b':Nat} {x0 x1 x2 x3:Value} (h:F4 w b x0 x1 x2 x3) (y0 y1 y2 y3:Value) (hn:b'≠b):F4 (W4 w b' y0 y1 y2 y3) b x0 x1 x2 x3:=by
 obtain ⟨⟨a0,a1,a2,a3⟩,f0,f1,f2,f3⟩:=h;have ot:∀ (w:World) (p q:Nat) (v:Value),(w.setCell ⟨b',p,none⟩ v).cell? ⟨b,q,none⟩=w.cell? ⟨b,q,none⟩:=fun w p q v=>World.cell?_setCell_other _ _ _ _ (by intro e;injection e with e;exact hn e)
 unfold W4;refine ⟨⟨?_,?_,?_,?_⟩,?_,?_,?_,?_⟩
 all_goals first|(simp only [World.frozen?_setCell];assumption)|(rw [ot,ot,ot,ot];assumption)
theorem yj {w0 w:World} {N b:Nat} (h:Below N w0 w) (x0 x1 x2 x3:Value) (hb:N<=b):Below N w0 (W4 w b x0 x1 x2 x3) :=
 (((h.setCell (p:=⟨b,0,none⟩) hb _).setCell (p:=⟨b,1,none⟩) hb _).setCell (p:=⟨b,2,none⟩) hb _).setCell (p:=⟨b,3,none⟩) hb _
theorem jL (w:World) (x0 x1 x2 x3:Value) (T:TypeId):F4 (w.alloc (.cells #[x0,x1,x2,x3] T)) w.heap.size x0 x1 x2 x3:=by
 refine ⟨⟨?_,?_,?_,?_⟩,?_,?_,?_,?_⟩<;>simp [go_sem]
theorem F4.drew {w:World} {b:Nat} {x0 x1 x2 x3:Value} (h:F4 w b x0 x1 x2 x3):F4 w.drew b x0 x1 x2 x3:=h
structure LW (w wr:World) (b4 b5:Nat) (X0 X1 X2 X3 Y0 Y1 Y2 Y3:Value):Prop where
 below:Below w.heap.size w wr
 r0:F4 wr w.heap.size (.int .u64 0) (.int .u64 0) (.int .u64 0) (.int .u64 0)
 r1:F4 wr (w.heap.size+1) (.int .u64 0) (.int .u64 0) (.int .u64 0) (.int .u64 0)
 t:F4 wr b4 X0 X1 X2 X3
 q:F4 wr b5 Y0 Y1 Y2 Y3
 l4:b4<wr.heap.size
 l5:b5<wr.heap.size
 lt:w.heap.size+2<=wr.heap.size
theorem LW.next {w wr wx:World} {b4 b5:Nat} {X0 X1 X2 X3 Y0 Y1 Y2 Y3:Value} (h:LW w wr b4 b5 X0 X1 X2 X3 Y0 Y1 Y2 Y3) (hb:Below wr.heap.size wr wx):LW w wx b4 b5 X0 X1 X2 X3 Y0 Y1 Y2 Y3:=by
 have hs:=hb.size;have hl:=h.lt;have h4:=h.l4;have h5:=h.l5;exact ⟨h.below.trans (hb.mono (by omega)),h.r0.below hb (by omega),h.r1.below hb (by omega),h.t.below hb (by omega),h.q.below hb (by omega),by omega,by omega,by omega⟩
def Md (w wr:World):Prop:=Below w.heap.size w wr/\w.heap.size+2<=wr.heap.size/\F4 wr w.heap.size (.int .u64 0) (.int .u64 0) (.int .u64 0) (.int .u64 0)/\F4 wr (w.heap.size+1) (.int .u64 0) (.int .u64 0) (.int .u64 0) (.int .u64 0)
theorem Md.next {w wr wx:World} (h:Md w wr) (hb:Below wr.heap.size wr wx):Md w wx:=by
 obtain ⟨a,b,c,d⟩:=h;have hs:=hb.size;exact ⟨a.trans (hb.mono (by omega)),by omega,c.below hb (by omega),d.below hb (by omega)⟩
theorem Ac (w:World):Md w ((w.alloc (.cells #[.int .u64 0,.int .u64 0,.int .u64 0,.int .u64 0] 95)).alloc (.cells #[.int .u64 0,.int .u64 0,.int .u64 0,.int .u64 0] 95)):=by
 refine ⟨((Below.refl _ _).alloc (Nat.le_refl _) _).alloc (by simp) _,by simp,(jL _ _ _ _ _ _).below (B:=w.heap.size+1) ((Below.refl _ _).alloc (by simp) _) (by omega),?_⟩
 have:=jL (w.alloc (.cells #[.int .u64 0,.int .u64 0,.int .u64 0,.int .u64 0] 95)) (.int .u64 0) (.int .u64 0) (.int .u64 0) (.int .u64 0) 95
 simpa using this
theorem xQ (k:Nat) (w:World) (X0 X1 X2 X3 Y0 Y1 Y2 Y3 S0 S1 S2 S3 C0 C1 C2 C3 P0 P1 P2 P3 K0 K1 K2 K3:Int) (hk0:0<=(k:Int)) (hk1:(k:Int)<=2700000)
 (CP:Hid (∀ w,Calls Try.prog 78 #[] w fun e w'=>e=.returned (.agg #[.int .u64 P0,.int .u64 P1,.int .u64 P2,.int .u64 P3])/\Below w.heap.size w w'))
 (CT:Hid (∀ w,Calls Try.prog 70 #[.agg #[.int .u64 P0,.int .u64 P1,.int .u64 P2,.int .u64 P3],.int .u64 (k:Int)] w fun e w'=>e=.returned (.agg #[.int .u64 K0,.int .u64 K1,.int .u64 K2,.int .u64 K3])/\Below w.heap.size w w'))
 (CO:Hid (∀ w,Calls Try.prog 79 #[.agg #[.int .u64 K0,.int .u64 K1,.int .u64 K2,.int .u64 K3],.int .u64 10800000] w fun e w'=>e=.returned (.agg #[.int .u64 X0,.int .u64 X1,.int .u64 X2,.int .u64 X3])/\Below w.heap.size w w'))
 (CM:Hid (∀ w,Calls Try.prog 80 #[.agg #[.int .u64 X0,.int .u64 X1,.int .u64 X2,.int .u64 X3],.agg #[.int .u64 X0,.int .u64 X1,.int .u64 X2,.int .u64 X3]] w fun e w'=>e=.returned (.agg #[.int .u64 Y0,.int .u64 Y1,.int .u64 Y2,.int .u64 Y3])/\Below w.heap.size w w'))
 (CS:Hid (∀ w,Calls Try.prog 81 #[.agg #[.int .u64 X0,.int .u64 X1,.int .u64 X2,.int .u64 X3],.agg #[.int .u64 Y0,.int .u64 Y1,.int .u64 Y2,.int .u64 Y3],.int .u64 1] w fun e w'=>e=.returned (.agg #[.int .u64 S0,.int .u64 S1,.int .u64 S2,.int .u64 S3])/\Below w.heap.size w w'))
 (CC:Hid (∀ w,Calls Try.prog 81 #[.agg #[.int .u64 1,.int .u64 0,.int .u64 0,.int .u64 0],.agg #[.int .u64 Y0,.int .u64 Y1,.int .u64 Y2,.int .u64 Y3],.int .u64 0] w fun e w'=>e=.returned (.agg #[.int .u64 C0,.int .u64 C1,.int .u64 C2,.int .u64 C3])/\Below w.heap.size w w')) :
 Calls Try.prog 69 #[.int .i64 (k:Int)] w fun e w'=>e=.returned (.tuple #[.agg #[.int .u64 S0,.int .u64 S1,.int .u64 S2,.int .u64 S3],.agg #[.int .u64 C0,.int .u64 C1,.int .u64 C2,.int .u64 C3]])/\Below w.heap.size w w':=by
 have H0:=Lib.hid (Ac w);go_enter Try.func69,Try.ntmps69;go_wp2_with fail;refine (CP.out _).mono ?_;rintro e w1 ⟨rfl,hb1⟩;have H1:=Lib.hid (H0.out.next hb1);clear hb1 H0;go_wp2_with fail;refine (CT.out _).mono ?_;rintro e w2 ⟨rfl,hb2⟩;have H2:=Lib.hid (H1.out.next hb2);clear hb2 H1;go_wp2_with fail;refine (CO.out _).mono ?_;rintro e w3 ⟨rfl,hb3⟩;have H3:=Lib.hid (H2.out.next hb3);clear hb3 H2;go_wp2_with fail;refine (CM.out _).mono ?_;rintro e w4 ⟨rfl,hb4⟩
 have H4:Hid (LW w (w4.alloc (.cells #[.int .u64 Y0,.int .u64 Y1,.int .u64 Y2,.int .u64 Y3] 95)) w3.heap.size w4.heap.size (.int .u64 X0) (.int .u64 X1) (.int .u64 X2) (.int .u64 X3) (.int .u64 Y0) (.int .u64 Y1) (.int .u64 Y2) (.int .u64 Y3)):=by
  have hb4:Below (w3.alloc (.cells #[.int .u64 X0,.int .u64 X1,.int .u64 X2,.int .u64 X3] 95)).heap.size (w3.alloc (.cells #[.int .u64 X0,.int .u64 X1,.int .u64 X2,.int .u64 X3] 95)) w4:=hb4;have hs:=hb4.size;have hz:(w3.alloc (.cells #[.int .u64 X0,.int .u64 X1,.int .u64 X2,.int .u64 X3] 95)).heap.size=w3.heap.size+1:=by simp
  have hn:=jL w3 (.int .u64 X0) (.int .u64 X1) (.int .u64 X2) (.int .u64 X3) 95;have hal:Below w3.heap.size w3 (w3.alloc (.cells #[.int .u64 X0,.int .u64 X1,.int .u64 X2,.int .u64 X3] 95)):=(Below.refl _ _).alloc (Nat.le_refl _) _;have hal4:Below w4.heap.size w4 (w4.alloc (.cells #[.int .u64 Y0,.int .u64 Y1,.int .u64 Y2,.int .u64 Y3] 95)):=(Below.refl _ _).alloc (Nat.le_refl _) _;obtain ⟨a,b,c,d⟩:=((H3.out.next hal).next hb4).next hal4;rw [hz] at hs;exact ⟨a,c,d,(hn.below hb4 (by rw [hz];omega)).below hal4 (by omega),jL _ _ _ _ _ _,by simp;omega,by simp,b⟩
 clear hb4 H3;go_wp2;generalize (w4.alloc (.cells #[.int .u64 Y0,.int .u64 Y1,.int .u64 Y2,.int .u64 Y3] 95))=wq at *
 generalize w3.heap.size=b4 at *
 generalize w4.heap.size=b5 at *
 obtain ⟨⟨x0,x1,x2,x3⟩,_⟩:=H4.out.t;obtain ⟨⟨y0,y1,y2,y3⟩,_⟩:=H4.out.q;clear CP CT CO CM hk0 hk1
 go_region_with (first
  | ((go_at_call 81;with_reducible refine (CS.out _).mono ?_);rintro e w5 ⟨rfl,hb⟩;replace H4:=Lib.hid (H4.out.next (by first|exact hb|exact qR hb));clear hb x0 x1 x2 x3 y0 y1 y2 y3 CS;obtain ⟨⟨x0,x1,x2,x3⟩,_⟩:=H4.out.t;obtain ⟨⟨y0,y1,y2,y3⟩,_⟩:=H4.out.q)
  | ((go_at_call 81;with_reducible refine (CC.out _).mono ?_);rintro e w5 ⟨rfl,hb⟩;replace H4:=Lib.hid (H4.out.next (by first|exact hb|exact qR hb));clear hb x0 x1 x2 x3 y0 y1 y2 y3 CC;obtain ⟨⟨m0,m1,m2,m3⟩,f0,f1,f2,f3⟩:=H4.out.r0;obtain ⟨⟨n0,n1,n2,n3⟩,g0,g1,g2,g3⟩:=H4.out.r1))
 all_goals
  go_wp2;refine bodyPost_ret (v:=.tuple #[.agg #[.int .u64 S0,.int .u64 S1,.int .u64 S2,.int .u64 S3],.agg #[.int .u64 C0,.int .u64 C1,.int .u64 C2,.int .u64 C3]]) (by simp [results,Try.results69,go_sem,m0,m1,m2,m3,n0,n1,n2,n3]) rfl ⟨rfl,?_⟩
  have hb:=H4.out.below;go_grown
theorem rD (k:Nat) (w:World) (hk:k<=2700000) :
 Calls Try.prog 69 #[.int .i64 (k:Int)] w fun e w'=>e=.returned (.tuple #[.agg #[.int .u64 (nl (nA k) 0),.int .u64 (nl (nA k) 1),.int .u64 (nl (nA k) 2),.int .u64 (nl (nA k) 3)],.agg #[.int .u64 (nl (nN k) 0),.int .u64 (nl (nN k) 1),.int .u64 (nl (nN k) 2),.int .u64 (nl (nN k) 3)]])/\Below w.heap.size w w':=by
 have hW:=E5;have hr:=oZ k hk;have hq:=(ja k hk).1
 have hPk:PiA*k<W:=by
  have h1:PiA*k<=PiA*2700000:=Nat.mul_le_mul_left _ hk;have h2:PiA*2700000<W:=by unfold PiA W;decide +kernel
  omega
 have CT:=fun w=>pK PiA (k:Int) Ho (by unfold U64;omega) (by rw [Int.toNat_natCast];exact hPk) w
 rw [Int.toNat_natCast] at CT;have CO:=fun w=>wJ (PiA*k) 10800000 hPk (by unfold U64;omega) (by omega) w
 have eO:PiA*k/(10800000:Int).toNat=aI k:=by unfold aI;rw [Nat.mul_comm];rfl
 rw [eO] at CO
 have CM:=fun w=>zS (aI k) (aI k) (by omega) (by omega) (by
  have h1:=Nat.mul_le_mul (Nat.le_of_lt hr) (Nat.le_of_lt hr);have h2:QA*QA<2^448:=by rw [bL];decide +kernel
  omega) w
 have eM:au (aI k) (aI k)=sqA k:=rfl;rw [eM] at CM;have CS:=fun w=>MH (aI k) (sqA k) 1 w (Nat.le_of_lt hr) (Nat.le_of_lt hq) (by omega)
 have CC:=fun w=>MH QA (sqA k) 0 w (Nat.le_refl _) (Nat.le_of_lt hq) (by omega)
 have eQ:nl QA 0=1/\nl QA 1=0/\nl QA 2=0/\nl QA 3=0:=by unfold nl;rw [bL];decide +kernel
 rw [eQ.1,eQ.2.1,eQ.2.2.1,eQ.2.2.2] at CC;have eS:nO (aI k) (sqA k) 1=nA k:=rfl;have eC:nO QA (sqA k) 0=nN k:=rfl;rw [eS,show ((1:Nat):Int)=1 from rfl] at CS;rw [eC,show ((0:Nat):Int)=0 from rfl] at CC
 exact xQ k w _ _ _ _ _ _ _ _ _ _ _ _ _ _ _ _ _ _ _ _ _ _ _ _ (by omega) (by omega) (Lib.hid QU) (Lib.hid CT) (Lib.hid CO) (Lib.hid CM) (Lib.hid CS) (Lib.hid CC)
