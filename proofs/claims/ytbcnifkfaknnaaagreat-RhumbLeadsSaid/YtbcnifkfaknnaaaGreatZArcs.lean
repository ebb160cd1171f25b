/- The contracts of package arctrig's numbers. -/
import Derived.Test.YtbcnifkfaknnaaaGreatZArcLo
import Derived.Test.YtbcnifkfaknnaaaGreatZTrigs
set_option linter.unusedVariables false
set_option linter.unusedSimpArgs false
set_option maxRecDepth 100000
set_option maxHeartbeats 8000000
namespace Go.Proofs.YtbcnifkfaknnaaaGreat
open Go.RowKit Alm
theorem DX (A B:Nat) (hA:A<W) (hB:B<W) (hs:A*B<2^448) (w:World) :
 Calls Tryz.prog 94 #[.agg #[.int .u64 (nl A 0),.int .u64 (nl A 1),.int .u64 (nl A 2),.int .u64 (nl A 3)],.agg #[.int .u64 (nl B 0),.int .u64 (nl B 1),.int .u64 (nl B 2),.int .u64 (nl B 3)]] w fun e w' =>
  e=.returned (.agg #[.int .u64 (nl (aC A B) 0),.int .u64 (nl (aC A B) 1),.int .u64 (nl (aC A B) 2),.int .u64 (nl (aC A B) 3)])/\Below w.heap.size w w':=by
 refine (Ei (nl A) (nl B) w (fun k _=>aD A k) (fun k _=>aD B k)).mono ?_
 rintro e w' ⟨r,rfl,hr,hv,hb⟩;rw [eX A hA,eX B hB] at hv;have hm:=Ob r hr A B hv hs;obtain ⟨h0,h1,h2,h3⟩:=vJ (fun k=>r (k+1)) (fun k hk=>hr (k+1) (by omega)) _ hm
 exact ⟨gK h0 h1 h2 h3,hb⟩
theorem vz (A:Nat) (n:Int) (hA:A<W) (hn:U64 n) (hs:A*n.toNat<W) (w:World) :
 Calls Tryz.prog 84 #[.agg #[.int .u64 (nl A 0),.int .u64 (nl A 1),.int .u64 (nl A 2),.int .u64 (nl A 3)],.int .u64 n] w fun e w' =>
  e=.returned (.agg #[.int .u64 (nl (A*n.toNat) 0),.int .u64 (nl (A*n.toNat) 1),.int .u64 (nl (A*n.toNat) 2),.int .u64 (nl (A*n.toNat) 3)])/\Below w.heap.size w w':=by
 have hW:W=115792089237316195423570985008687907853269984665640564039457584007913129639936:=by unfold W;decide +kernel
 have va:=eX A hA;unfold V4 at va;have u0:=aD A 0;have u1:=aD A 1;have u2:=aD A 2;have u3:=aD A 3
 have eP:((A*n.toNat:Nat):Int)=(nl A 0*n)*2^192+(nl A 1*n)*2^128+(nl A 2*n)*2^64+nl A 3*n:=by
  rw [Int.natCast_mul,Int.toNat_of_nonneg hn.1,<-va];grind
 have hsI:((A*n.toNat:Nat):Int)<115792089237316195423570985008687907853269984665640564039457584007913129639936:=by omega
 generalize nl A 0=a0 at *
 generalize nl A 1=a1 at *
 generalize nl A 2=a2 at *
 generalize nl A 3=a3 at *
 have m3:=dV a3 n u3 hn;have m2:=dV a2 n u2 hn;have m1:=dV a1 n u1 hn;have m0:=dV a0 n u0 hn;have k3:=fun w=>dQ a3 n u3 hn w;have k2:=fun w=>dQ a2 n u2 hn w;have k1:=fun w=>dQ a1 n u1 hn w;have k0:=fun w=>dQ a0 n u0 hn w
 generalize mh a3 n=h3 at *
 generalize ml a3 n=l3 at *
 generalize mh a2 n=h2 at *
 generalize ml a2 n=l2 at *
 generalize mh a1 n=h1 at *
 generalize ml a1 n=l1 at *
 generalize mh a0 n=h0 at *
 generalize ml a0 n=l0 at *
 have g3:=bB l3 0 0 m3.2.1 (by unfold U64;omega) (by unfold Bit;omega)
 have r3:=aZ l3 0 0 m3.2.1 (by unfold U64;omega) (by unfold Bit;omega)
 generalize ad l3 0 0=s3 at *
 generalize adc l3 0 0=c3 at *
 have j3:U64 (h3+c3):=by have:=g3.2.1;have:=m3.1;have:=m3.2.2.2;unfold U64 Bit at *;omega
 have g2:=bB l2 (h3+c3) 0 m2.2.1 j3 (by unfold Bit;omega)
 have r2:=aZ l2 (h3+c3) 0 m2.2.1 j3 (by unfold Bit;omega)
 generalize ad l2 (h3+c3) 0=s2 at *
 generalize adc l2 (h3+c3) 0=c2 at *
 have j2:U64 (h2+c2):=by have:=g2.2.1;have:=m2.1;have:=m2.2.2.2;unfold U64 Bit at *;omega
 have g1:=bB l1 (h2+c2) 0 m1.2.1 j2 (by unfold Bit;omega)
 have r1:=aZ l1 (h2+c2) 0 m1.2.1 j2 (by unfold Bit;omega)
 generalize ad l1 (h2+c2) 0=s1 at *
 generalize adc l1 (h2+c2) 0=c1 at *
 have j1:U64 (h1+c1):=by have:=g1.2.1;have:=m1.1;have:=m1.2.2.2;unfold U64 Bit at *;omega
 have g0:=bB l0 (h1+c1) 0 m0.2.1 j1 (by unfold Bit;omega)
 have r0:=aZ l0 (h1+c1) 0 m0.2.1 j1 (by unfold Bit;omega)
 generalize ad l0 (h1+c1) 0=s0 at *
 generalize adc l0 (h1+c1) 0=c0 at *
 have j0:U64 (h0+c0):=by have:=g0.2.1;have:=m0.1;have:=m0.2.2.2;unfold U64 Bit at *;omega
 have fin:s0*2^192+s1*2^128+s2*2^64+s3=((A*n.toNat:Nat):Int):=by
  have e3:=m3.2.2.1;have e2:=m2.2.2.1;have e1:=m1.2.2.1;have e0:=m0.2.2.1;have i3:=g3.2.2;have i2:=g2.2.2;have i1:=g1.2.2;have i0:=g0.2.2;have q0:=g0.1;have q1:=g1.1;have q2:=g2.1;have q3:=g3.1;rw [eP] at hsI ⊢
  generalize a0*n=p0 at *
  generalize a1*n=p1 at *
  generalize a2*n=p2 at *
  generalize a3*n=p3 at *
  unfold U64 at *
  omega
 have FIN:=Lib.hid (kR s0 s1 s2 s3 g0.1 g1.1 g2.1 g3.1 _ fin);have x3:0<=h3:=m3.1.1;have y3:h3<=18446744073709551614:=m3.2.2.2;have z3:0<=c3:=g3.2.1.1;have v3:c3<=1:=g3.2.1.2;have x2:0<=h2:=m2.1.1;have y2:h2<=18446744073709551614:=m2.2.2.2;have z2:0<=c2:=g2.2.1.1;have v2:c2<=1:=g2.2.1.2;have x1:0<=h1:=m1.1.1;have y1:h1<=18446744073709551614:=m1.2.2.2;have z1:0<=c1:=g1.2.1.1;have v1:c1<=1:=g1.2.1.2;have x0:0<=h0:=m0.1.1;have y0:h0<=18446744073709551614:=m0.2.2.2;have z0:0<=c0:=g0.2.1.1;have v0:c0<=1:=g0.2.1.2;have K3:=Lib.hid k3;have K2:=Lib.hid k2;have K1:=Lib.hid k1;have K0:=Lib.hid k0;clear k3 k2 k1 k0 m3 m2 m1 m0 g3 g2 g1 g0 j3 j2 j1 j0 fin va eP hsI hs hA hW u0 u1 u2 u3 hn;go_enter Tryz.func84,Tryz.ntmps84;go_wp2;refine wp_loop_rounds 5 ?_;rw [rounds_succ];go_wp2_with fail;refine (K3.out _).mono ?_;rintro e w' ⟨rfl,rfl⟩;go_wp2;rw [rounds_succ];go_wp2_with fail;refine (K2.out _).mono ?_;rintro e w' ⟨rfl,rfl⟩;go_wp2;rw [rounds_succ];go_wp2_with fail;refine (K1.out _).mono ?_;rintro e w' ⟨rfl,rfl⟩;go_wp2;rw [rounds_succ];go_wp2_with fail;refine (K0.out _).mono ?_;rintro e w' ⟨rfl,rfl⟩;go_wp2;rw [rounds_succ];go_wp2;refine bodyPost_ret (v:=.agg #[.int .u64 s0,.int .u64 s1,.int .u64 s2,.int .u64 s3]) (by simp [results,Tryz.results84,go_sem]) rfl ⟨?_,?_⟩
 . obtain ⟨f0,f1,f2,f3⟩:=FIN.out;exact gK f0 f1 f2 f3
 . go_grown
end Go.Proofs.YtbcnifkfaknnaaaGreat
namespace Go.Proofs.YtbcnifkfaknnaaaGreat
open Go.RowKit Alm
theorem Fg (a0 a1 a2 a3 d:Int) (w:World) (ha0:U64 a0) (ha1:U64 a1) (ha2:U64 a2) (ha3:U64 a3) (hd:U64 d) (h:0<d) :
 Calls Tryz.prog 93 #[.agg #[.int .u64 a0,.int .u64 a1,.int .u64 a2,.int .u64 a3],.int .u64 d] w fun e w' =>
  e=.returned (.agg #[.int .u64 (dq 0 a0 d),.int .u64 (dq (dr 0 a0 d) a1 d),.int .u64 (dq (dr (dr 0 a0 d) a1 d) a2 d),.int .u64 (dq (dr (dr (dr 0 a0 d) a1 d) a2 d) a3 d)])/\Below w.heap.size w w':=by
 have ht:U64 0:=by unfold U64;omega
 have f0:=bT 0 a0 d ht ha0 hd h;have f1:=bT _ a1 d f0.2.1 ha1 hd f0.2.2.1;have f2:=bT _ a2 d f1.2.1 ha2 hd f1.2.2.1;have f3:=bT _ a3 d f2.2.1 ha3 hd f2.2.2.1;have c0:=fun w=>eU 0 a0 d w ht ha0 hd h
 have c1:=fun w=>eU _ a1 d w f0.2.1 ha1 hd f0.2.2.1
 have c2:=fun w=>eU _ a2 d w f1.2.1 ha2 hd f1.2.2.1
 have c3:=fun w=>eU _ a3 d w f2.2.1 ha3 hd f2.2.2.1
 clear f0 f1 f2 f3;generalize dq 0 a0 d=q0 at *
 generalize dr 0 a0 d=t1 at *
 generalize dq t1 a1 d=q1 at *
 generalize dr t1 a1 d=t2 at *
 generalize dq t2 a2 d=q2 at *
 generalize dr t2 a2 d=t3 at *
 generalize dq t3 a3 d=q3 at *
 generalize dr t3 a3 d=t4 at *
 have C0:=Lib.hid c0;have C1:=Lib.hid c1;have C2:=Lib.hid c2;have C3:=Lib.hid c3;clear c0 c1 c2 c3;go_enter Tryz.func93,Tryz.ntmps93;go_wp2;refine wp_loop_rounds 5 ?_;rw [rounds_succ];go_wp2_with fail;refine (C0.out _).mono ?_;rintro e w' ⟨rfl,n0,rfl⟩;go_wp2;rw [rounds_succ];go_wp2_with fail;refine (C1.out _).mono ?_;rintro e w' ⟨rfl,n1,rfl⟩;go_wp2;rw [rounds_succ];go_wp2_with fail;refine (C2.out _).mono ?_;rintro e w' ⟨rfl,n2,rfl⟩;go_wp2;rw [rounds_succ];go_wp2_with fail;refine (C3.out _).mono ?_;rintro e w' ⟨rfl,n3,rfl⟩;go_wp2;rw [rounds_succ];go_wp2;refine bodyPost_ret (v:=.agg #[.int .u64 q0,.int .u64 q1,.int .u64 q2,.int .u64 q3]) (by simp [results,Tryz.results93,go_sem]) rfl ⟨rfl,?_⟩
 repeat' (first|(with_reducible exact Below.refl _ _)|(with_reducible refine below_drewN ?_ _)|go_grown)
theorem zW (A:Nat) (d:Int) (hA:A<W) (hd:U64 d) (h:0<d) (w:World) :
 Calls Tryz.prog 93 #[.agg #[.int .u64 (nl A 0),.int .u64 (nl A 1),.int .u64 (nl A 2),.int .u64 (nl A 3)],.int .u64 d] w fun e w' =>
  e=.returned (.agg #[.int .u64 (nl (A/d.toNat) 0),.int .u64 (nl (A/d.toNat) 1),.int .u64 (nl (A/d.toNat) 2),.int .u64 (nl (A/d.toNat) 3)])/\Below w.heap.size w w':=by
 refine (Fg _ _ _ _ d w (aD A 0) (aD A 1) (aD A 2) (aD A 3) hd h).mono ?_;rintro e w' ⟨rfl,hb⟩;have va:=eX A hA;unfold V4 at va;have ht:U64 0:=by unfold U64;omega
 have f0:=bT 0 (nl A 0) d ht (aD A 0) hd h;have f1:=bT _ (nl A 1) d f0.2.1 (aD A 1) hd f0.2.2.1;have f2:=bT _ (nl A 2) d f1.2.1 (aD A 2) hd f1.2.2.1;have f3:=bT _ (nl A 3) d f2.2.1 (aD A 3) hd f2.2.2.1;generalize dq 0 (nl A 0) d=q0 at *
 generalize dr 0 (nl A 0) d=t1 at *
 generalize dq t1 (nl A 1) d=q1 at *
 generalize dr t1 (nl A 1) d=t2 at *
 generalize dq t2 (nl A 2) d=q2 at *
 generalize dr t2 (nl A 2) d=t3 at *
 generalize dq t3 (nl A 3) d=q3 at *
 generalize dr t3 (nl A 3) d=t4 at *
 have hv:q0*2^192+q1*2^128+q2*2^64+q3=((A/d.toNat:Nat):Int):=by
  have e:((A/d.toNat:Nat):Int)=(A:Int)/d:=by
   rw [Int.natCast_ediv,Int.toNat_of_nonneg hd.1]
  rw [e];have g0:=f0.2.2.2;have g1:=f1.2.2.2;have g2:=f2.2.2.2;have g3:=f3.2.2.2;have hs:(q0*2^192+q1*2^128+q2*2^64+q3)*d=q0*d*2^192+q1*d*2^128+q2*d*2^64+q3*d:=by grind
  have tot:(A:Int)=t4+(q0*2^192+q1*2^128+q2*2^64+q3)*d:=by
   rw [hs];generalize q0*d=p0 at *
   generalize q1*d=p1 at *
   generalize q2*d=p2 at *
   generalize q3*d=p3 at *
   generalize nl A 0=a0 at *
   generalize nl A 1=a1 at *
   generalize nl A 2=a2 at *
   generalize nl A 3=a3 at *
   omega
  rw [tot,Int.add_mul_ediv_right _ _ (by omega),Int.ediv_eq_zero_of_lt f3.2.1.1 f3.2.2.1];omega
 obtain ⟨h0,h1,h2,h3⟩:=kR q0 q1 q2 q3 f0.1 f1.1 f2.1 f3.1 _ hv;exact ⟨gK h0 h1 h2 h3,hb⟩
theorem DZ (a0 a1 a2 a3 b0 b1 b2 b3:Int) (w:World) (ha0:U64 a0) (ha1:U64 a1) (ha2:U64 a2) (ha3:U64 a3) (hb0:U64 b0) (hb1:U64 b1) (hb2:U64 b2) (hb3:U64 b3) :
 Calls Tryz.prog 101 #[.agg #[.int .u64 a0,.int .u64 a1,.int .u64 a2,.int .u64 a3],.agg #[.int .u64 b0,.int .u64 b1,.int .u64 b2,.int .u64 b3]] w fun e w' =>
  e=.returned (.agg #[.int .u64 (sb a0 b0 (sbc a1 b1 (sbc a2 b2 (sbc a3 b3 0)))),.int .u64 (sb a1 b1 (sbc a2 b2 (sbc a3 b3 0))),.int .u64 (sb a2 b2 (sbc a3 b3 0)),.int .u64 (sb a3 b3 0)])/\Below w.heap.size w w':=by
 have f3:=cu a3 b3 0 ha3 hb3 (by unfold Bit;omega)
 have f2:=cu a2 b2 _ ha2 hb2 f3.2.1;have f1:=cu a1 b1 _ ha1 hb1 f2.2.1;have s3:=dN a3 b3 0 ha3 hb3 (by unfold Bit;omega)
 have s2:=dN a2 b2 _ ha2 hb2 f3.2.1;have s1:=dN a1 b1 _ ha1 hb1 f2.2.1;have s0:=dN a0 b0 _ ha0 hb0 f1.2.1;clear f1 f2 f3;generalize sb a3 b3 0=r3 at *
 generalize sbc a3 b3 0=c3 at *
 generalize sb a2 b2 c3=r2 at *
 generalize sbc a2 b2 c3=c2 at *
 generalize sb a1 b1 c2=r1 at *
 generalize sbc a1 b1 c2=c1 at *
 generalize sb a0 b0 c1=r0 at *
 generalize sbc a0 b0 c1=c0 at *
 go_enter Tryz.func101,Tryz.ntmps101;go_wp2;refine wp_loop_rounds 5 ?_;rw [rounds_succ];go_wp2;go_region;go_wp2;rw [rounds_succ];go_wp2;go_region;go_wp2;rw [rounds_succ];go_wp2;go_region;go_wp2;rw [rounds_succ];go_wp2;go_region;go_wp2;rw [rounds_succ];go_wp2;refine bodyPost_ret (v:=.agg #[.int .u64 r0,.int .u64 r1,.int .u64 r2,.int .u64 r3]) (by simp [results,Tryz.results101,go_sem]) rfl ⟨rfl,?_⟩
 go_grown
theorem L8 (A B:Nat) (hA:A<W) (hB:B<=A) (w:World) :
 Calls Tryz.prog 101 #[.agg #[.int .u64 (nl A 0),.int .u64 (nl A 1),.int .u64 (nl A 2),.int .u64 (nl A 3)],.agg #[.int .u64 (nl B 0),.int .u64 (nl B 1),.int .u64 (nl B 2),.int .u64 (nl B 3)]] w fun e w' =>
  e=.returned (.agg #[.int .u64 (nl (A-B) 0),.int .u64 (nl (A-B) 1),.int .u64 (nl (A-B) 2),.int .u64 (nl (A-B) 3)])/\Below w.heap.size w w':=by
 refine (DZ _ _ _ _ _ _ _ _ w (aD A 0) (aD A 1) (aD A 2) (aD A 3) (aD B 0) (aD B 1) (aD B 2) (aD B 3)).mono ?_;rintro e w' ⟨rfl,hb⟩;have va:=eX A hA;have vb:=eX B (by omega)
 unfold V4 at va vb;have f3:=cu (nl A 3) (nl B 3) 0 (aD A 3) (aD B 3) (by unfold Bit;omega)
 have f2:=cu (nl A 2) (nl B 2) _ (aD A 2) (aD B 2) f3.2.1;have f1:=cu (nl A 1) (nl B 1) _ (aD A 1) (aD B 1) f2.2.1;have f0:=cu (nl A 0) (nl B 0) _ (aD A 0) (aD B 0) f1.2.1;generalize sb (nl A 3) (nl B 3) 0=r3 at *
 generalize sbc (nl A 3) (nl B 3) 0=c3 at *
 generalize sb (nl A 2) (nl B 2) c3=r2 at *
 generalize sbc (nl A 2) (nl B 2) c3=c2 at *
 generalize sb (nl A 1) (nl B 1) c2=r1 at *
 generalize sbc (nl A 1) (nl B 1) c2=c1 at *
 generalize sb (nl A 0) (nl B 0) c1=r0 at *
 generalize sbc (nl A 0) (nl B 0) c1=c0 at *
 have hv:r0*2^192+r1*2^128+r2*2^64+r3=((A-B:Nat):Int):=by
  unfold U64 Bit at *
  generalize nl A 0=a0 at *
  generalize nl A 1=a1 at *
  generalize nl A 2=a2 at *
  generalize nl A 3=a3 at *
  generalize nl B 0=b0 at *
  generalize nl B 1=b1 at *
  generalize nl B 2=b2 at *
  generalize nl B 3=b3 at *
  have hW:W=115792089237316195423570985008687907853269984665640564039457584007913129639936:=by unfold W;decide +kernel
  rw [hW] at hA;have:(r0*2^192+r1*2^128+r2*2^64+r3:Int)=A-B+115792089237316195423570985008687907853269984665640564039457584007913129639936*c0:=by omega
  have hb1:0<=c0/\c0<=1:=f0.2.1;omega
 obtain ⟨h0,h1,h2,h3⟩:=kR r0 r1 r2 r3 f0.1 f1.1 f2.1 f3.1 _ hv;exact ⟨gK h0 h1 h2 h3,hb⟩
theorem Eu (a0 a1 a2 a3 b0 b1 b2 b3:Int) (w:World) (ha0:U64 a0) (ha1:U64 a1) (ha2:U64 a2) (ha3:U64 a3) (hb0:U64 b0) (hb1:U64 b1) (hb2:U64 b2) (hb3:U64 b3) :
 Calls Tryz.prog 102 #[.agg #[.int .u64 a0,.int .u64 a1,.int .u64 a2,.int .u64 a3],.agg #[.int .u64 b0,.int .u64 b1,.int .u64 b2,.int .u64 b3]] w fun e w' =>
  e=.returned (.agg #[.int .u64 (ad a0 b0 (adc a1 b1 (adc a2 b2 (adc a3 b3 0)))),.int .u64 (ad a1 b1 (adc a2 b2 (adc a3 b3 0))),.int .u64 (ad a2 b2 (adc a3 b3 0)),.int .u64 (ad a3 b3 0)])/\Below w.heap.size w w':=by
 have f3:=bB a3 b3 0 ha3 hb3 (by unfold Bit;omega)
 have f2:=bB a2 b2 _ ha2 hb2 f3.2.1;have f1:=bB a1 b1 _ ha1 hb1 f2.2.1;have s3:=aZ a3 b3 0 ha3 hb3 (by unfold Bit;omega)
 have s2:=aZ a2 b2 _ ha2 hb2 f3.2.1;have s1:=aZ a1 b1 _ ha1 hb1 f2.2.1;have s0:=aZ a0 b0 _ ha0 hb0 f1.2.1;clear f1 f2 f3;generalize ad a3 b3 0=r3 at *
 generalize adc a3 b3 0=c3 at *
 generalize ad a2 b2 c3=r2 at *
 generalize adc a2 b2 c3=c2 at *
 generalize ad a1 b1 c2=r1 at *
 generalize adc a1 b1 c2=c1 at *
 generalize ad a0 b0 c1=r0 at *
 generalize adc a0 b0 c1=c0 at *
 go_enter Tryz.func102,Tryz.ntmps102;go_wp2;refine wp_loop_rounds 5 ?_;rw [rounds_succ];go_wp2;go_region;go_wp2;rw [rounds_succ];go_wp2;go_region;go_wp2;rw [rounds_succ];go_wp2;go_region;go_wp2;rw [rounds_succ];go_wp2;go_region;go_wp2;rw [rounds_succ];go_wp2;refine bodyPost_ret (v:=.agg #[.int .u64 r0,.int .u64 r1,.int .u64 r2,.int .u64 r3]) (by simp [results,Tryz.results102,go_sem]) rfl ⟨rfl,?_⟩
 go_grown
theorem Kg (A B:Nat) (h:A+B<W) (w:World) :
 Calls Tryz.prog 102 #[.agg #[.int .u64 (nl A 0),.int .u64 (nl A 1),.int .u64 (nl A 2),.int .u64 (nl A 3)],.agg #[.int .u64 (nl B 0),.int .u64 (nl B 1),.int .u64 (nl B 2),.int .u64 (nl B 3)]] w fun e w' =>
  e=.returned (.agg #[.int .u64 (nl (A+B) 0),.int .u64 (nl (A+B) 1),.int .u64 (nl (A+B) 2),.int .u64 (nl (A+B) 3)])/\Below w.heap.size w w':=by
 refine (Eu _ _ _ _ _ _ _ _ w (aD A 0) (aD A 1) (aD A 2) (aD A 3) (aD B 0) (aD B 1) (aD B 2) (aD B 3)).mono ?_;rintro e w' ⟨rfl,hb⟩;have va:=eX A (by omega)
 have vb:=eX B (by omega)
 unfold V4 at va vb;have f3:=bB (nl A 3) (nl B 3) 0 (aD A 3) (aD B 3) (by unfold Bit;omega)
 have f2:=bB (nl A 2) (nl B 2) _ (aD A 2) (aD B 2) f3.2.1;have f1:=bB (nl A 1) (nl B 1) _ (aD A 1) (aD B 1) f2.2.1;have f0:=bB (nl A 0) (nl B 0) _ (aD A 0) (aD B 0) f1.2.1;generalize ad (nl A 3) (nl B 3) 0=r3 at *
 generalize adc (nl A 3) (nl B 3) 0=c3 at *
 generalize ad (nl A 2) (nl B 2) c3=r2 at *
 generalize adc (nl A 2) (nl B 2) c3=c2 at *
 generalize ad (nl A 1) (nl B 1) c2=r1 at *
 generalize adc (nl A 1) (nl B 1) c2=c1 at *
 generalize ad (nl A 0) (nl B 0) c1=r0 at *
 generalize adc (nl A 0) (nl B 0) c1=c0 at *
 have hv:r0*2^192+r1*2^128+r2*2^64+r3=((A+B:Nat):Int):=by
  unfold U64 Bit at *
  generalize nl A 0=a0 at *
  generalize nl A 1=a1 at *
  generalize nl A 2=a2 at *
  generalize nl A 3=a3 at *
  generalize nl B 0=b0 at *
  generalize nl B 1=b1 at *
  generalize nl B 2=b2 at *
  generalize nl B 3=b3 at *
  have hW:W=115792089237316195423570985008687907853269984665640564039457584007913129639936:=by unfold W;decide +kernel
  rw [hW] at h;have:(r0*2^192+r1*2^128+r2*2^64+r3:Int)=A+B-115792089237316195423570985008687907853269984665640564039457584007913129639936*c0:=by omega
  have hb1:0<=c0/\c0<=1:=f0.2.1;omega
 obtain ⟨h0,h1,h2,h3⟩:=kR r0 r1 r2 r3 f0.1 f1.1 f2.1 f3.1 _ hv;exact ⟨gK h0 h1 h2 h3,hb⟩
end Go.Proofs.YtbcnifkfaknnaaaGreat
namespace Go.Proofs.YtbcnifkfaknnaaaGreat
open Go.RowKit Alm
theorem U8 (a0 a1 a2 a3 b0 b1 b2 b3:Int) (w:World) (h:a0≠b0) :
 Calls Tryz.prog 85 #[.agg #[.int .u64 a0,.int .u64 a1,.int .u64 a2,.int .u64 a3],.agg #[.int .u64 b0,.int .u64 b1,.int .u64 b2,.int .u64 b3]] w fun e w'=>e=.returned (.bool (decide (a0<b0)))/\Below w.heap.size w w':=by
 have h1:(a0 != b0)=true:=by simpa using h
 have h2:(a0==b0)=false:=by simpa using h
 have h3:decide (a0=b0)=false:=by simpa using h
 clear h;go_enter Tryz.func85,Tryz.ntmps85;go_wp2;refine wp_loop_rounds 5 ?_;rw [rounds_succ];go_wp2;go_region;go_wp2;go_region;go_wp2;go_ret;exact ⟨rfl,by go_grown⟩
theorem VB (a0 a1 a2 a3 b1 b2 b3:Int) (w:World) (h:a1≠b1) :
 Calls Tryz.prog 85 #[.agg #[.int .u64 a0,.int .u64 a1,.int .u64 a2,.int .u64 a3],.agg #[.int .u64 a0,.int .u64 b1,.int .u64 b2,.int .u64 b3]] w fun e w'=>e=.returned (.bool (decide (a1<b1)))/\Below w.heap.size w w':=by
 have h1:(a1 != b1)=true:=by simpa using h
 have h2:(a1==b1)=false:=by simpa using h
 have h3:decide (a1=b1)=false:=by simpa using h
 clear h;go_enter Tryz.func85,Tryz.ntmps85;go_wp2;refine wp_loop_rounds 5 ?_;rw [rounds_succ];go_wp2;go_region;go_wp2;rw [rounds_succ];go_wp2;go_region;go_wp2;go_region;go_wp2;go_ret;exact ⟨rfl,by go_grown⟩
theorem Ub (a0 a1 a2 a3 b2 b3:Int) (w:World) (h:a2≠b2) :
 Calls Tryz.prog 85 #[.agg #[.int .u64 a0,.int .u64 a1,.int .u64 a2,.int .u64 a3],.agg #[.int .u64 a0,.int .u64 a1,.int .u64 b2,.int .u64 b3]] w fun e w'=>e=.returned (.bool (decide (a2<b2)))/\Below w.heap.size w w':=by
 have h1:(a2 != b2)=true:=by simpa using h
 have h2:(a2==b2)=false:=by simpa using h
 have h3:decide (a2=b2)=false:=by simpa using h
 clear h;go_enter Tryz.func85,Tryz.ntmps85;go_wp2;refine wp_loop_rounds 5 ?_;rw [rounds_succ];go_wp2;go_region;go_wp2;rw [rounds_succ];go_wp2;go_region;go_wp2;rw [rounds_succ];go_wp2;go_region;go_wp2;go_region;go_wp2;go_ret;exact ⟨rfl,by go_grown⟩
theorem Tf (a0 a1 a2 a3 b3:Int) (w:World) (h:a3≠b3) :
 Calls Tryz.prog 85 #[.agg #[.int .u64 a0,.int .u64 a1,.int .u64 a2,.int .u64 a3],.agg #[.int .u64 a0,.int .u64 a1,.int .u64 a2,.int .u64 b3]] w fun e w'=>e=.returned (.bool (decide (a3<b3)))/\Below w.heap.size w w':=by
 have h1:(a3 != b3)=true:=by simpa using h
 have h2:(a3==b3)=false:=by simpa using h
 have h3:decide (a3=b3)=false:=by simpa using h
 clear h;go_enter Tryz.func85,Tryz.ntmps85;go_wp2;refine wp_loop_rounds 5 ?_;rw [rounds_succ];go_wp2;go_region;go_wp2;rw [rounds_succ];go_wp2;go_region;go_wp2;rw [rounds_succ];go_wp2;go_region;go_wp2;rw [rounds_succ];go_wp2;go_region;go_wp2;go_region;go_wp2;go_ret;exact ⟨rfl,by go_grown⟩
theorem Uj (a0 a1 a2 a3:Int) (w:World) :
 Calls Tryz.prog 85 #[.agg #[.int .u64 a0,.int .u64 a1,.int .u64 a2,.int .u64 a3],.agg #[.int .u64 a0,.int .u64 a1,.int .u64 a2,.int .u64 a3]] w fun e w'=>e=.returned (.bool false)/\Below w.heap.size w w':=by
 go_enter Tryz.func85,Tryz.ntmps85;go_wp2;refine wp_loop_rounds 5 ?_;rw [rounds_succ];go_wp2;go_region;go_wp2;rw [rounds_succ];go_wp2;go_region;go_wp2;rw [rounds_succ];go_wp2;go_region;go_wp2;rw [rounds_succ];go_wp2;go_region;go_wp2;rw [rounds_succ];go_wp2;go_ret;exact ⟨rfl,by go_grown⟩
theorem QG (A B:Nat) (hA:A<W) (hB:B<W) (w:World) :
 Calls Tryz.prog 85 #[.agg #[.int .u64 (nl A 0),.int .u64 (nl A 1),.int .u64 (nl A 2),.int .u64 (nl A 3)],.agg #[.int .u64 (nl B 0),.int .u64 (nl B 1),.int .u64 (nl B 2),.int .u64 (nl B 3)]] w fun e w' =>
  e=.returned (.bool (decide (A<B)))/\Below w.heap.size w w':=by
 rw [<-GG A B hA hB];generalize nl A 0=a0 at *
 generalize nl A 1=a1 at *
 generalize nl A 2=a2 at *
 generalize nl A 3=a3 at *
 generalize nl B 0=b0 at *
 generalize nl B 1=b1 at *
 generalize nl B 2=b2 at *
 generalize nl B 3=b3 at *
 by_cases h0:a0=b0
 . subst h0
   by_cases h1:a1=b1
   . subst h1
     by_cases h2:a2=b2
     . subst h2
       by_cases h3:a3=b3
       . subst h3;exact (Uj a0 a1 a2 a3 w).mono fun e w' ⟨he,hb⟩=>⟨by rw [he];exact dM (by unfold lexB;simp),hb⟩
       . exact (Tf a0 a1 a2 a3 b3 w h3).mono fun e w' ⟨he,hb⟩=>⟨by rw [he];exact dM (by unfold lexB;simp),hb⟩
     . exact (Ub a0 a1 a2 a3 b2 b3 w h2).mono fun e w' ⟨he,hb⟩=>⟨by rw [he];exact dM (by unfold lexB;simp [h2]),hb⟩
   . exact (VB a0 a1 a2 a3 b1 b2 b3 w h1).mono fun e w' ⟨he,hb⟩=>⟨by rw [he];exact dM (by unfold lexB;simp [h1]),hb⟩
 . exact (U8 a0 a1 a2 a3 b0 b1 b2 b3 w h0).mono fun e w' ⟨he,hb⟩=>⟨by rw [he];exact dM (by unfold lexB;simp [h0]),hb⟩
theorem WA (w:World) :
 Calls Tryz.prog 92 #[] w fun e w'=>e=.returned (.agg #[.int .u64 (nl PiA 0),.int .u64 (nl PiA 1),.int .u64 (nl PiA 2),.int .u64 (nl PiA 3)])/\Below w.heap.size w w':=by
 have e0:nl PiA 0=3:=by unfold nl PiA;decide +kernel
 have e1:nl PiA 1=2611923443488327891:=by unfold nl PiA;decide +kernel
 have e2:nl PiA 2=1376283091369227076:=by unfold nl PiA;decide +kernel
 have e3:nl PiA 3=11820040416388919760:=by unfold nl PiA;decide +kernel
 rw [e0,e1,e2,e3];clear e0 e1 e2 e3;go_enter Tryz.func92,Tryz.ntmps92;go_wp2;refine bodyPost_ret (by simp [results,Tryz.results92,go_sem];try rfl) rfl ⟨rfl,by go_grown⟩
end Go.Proofs.YtbcnifkfaknnaaaGreat
namespace Go.Proofs.YtbcnifkfaknnaaaGreat
open Go.RowKit Alm
structure Ee (w wr:World) (Y b7 b8 s T:Nat):Prop where
 below:Below w.heap.size w wr
 y:fM wr (w.heap.size+1) Y
 r:fM wr (w.heap.size+1+1) 0
 s:fM wr b7 s
 t:fM wr b8 T
 lt:w.heap.size+5<=wr.heap.size
theorem Ee.t_store {w wr w2:World} {Y b7 b8 s T:Nat} (h:Ee w wr Y b7 b8 s T) (hb:Below wr.heap.size wr w2) (h7:w.heap.size+3<=b7/\b7<w.heap.size+5) (h8:w.heap.size+3<=b8/\b8<w.heap.size+5) (hn:b7≠b8) (T':Nat):Ee w (dx w2 b8 T') Y b7 b8 s T':=by
 have hl:=h.lt;have hs:=hb.size;refine ⟨kY (h.below.trans (hb.mono (by omega))) _ (by omega),(h.y.below hb (by omega)).apart _ (by omega),(h.r.below hb (by omega)).apart _ (by omega),(h.s.below hb (by omega)).apart _ (by omega),(h.t.below hb (by omega)).store _,by rw [nI];omega⟩
theorem Ee.s_store {w wr w2:World} {Y b7 b8 s T:Nat} (h:Ee w wr Y b7 b8 s T) (hb:Below wr.heap.size wr w2) (h7:w.heap.size+3<=b7/\b7<w.heap.size+5) (h8:w.heap.size+3<=b8/\b8<w.heap.size+5) (hn:b7≠b8) (S:Nat):Ee w (dx w2 b7 S) Y b7 b8 S T:=by
 have hl:=h.lt;have hs:=hb.size;refine ⟨kY (h.below.trans (hb.mono (by omega))) _ (by omega),(h.y.below hb (by omega)).apart _ (by omega),(h.r.below hb (by omega)).apart _ (by omega),(h.s.below hb (by omega)).store _,(h.t.below hb (by omega)).apart _ (by omega),by rw [nI];omega⟩
theorem Nj (w:World) (A:Nat) (hA:A<W):(binOp .neq 106 (.agg #[.int .u64 (nl A 0),.int .u64 (nl A 1),.int .u64 (nl A 2),.int .u64 (nl A 3)]) (.agg #[.int .u64 0,.int .u64 0,.int .u64 0,.int .u64 0])).run Tryz.prog w=.ok (.bool (!(decide (A=0)))) w:=by
 rw [O5,Hf A hA]
def Vi (F Y n:Nat) (w:World) (e:Ending) (w':World):Prop :=
 (∃ S:Nat,(S:Int)=eT 34 F Y n/\S<=QA/\e=.returned (.agg #[.int .u64 (nl S 0),.int .u64 (nl S 1),.int .u64 (nl S 2),.int .u64 (nl S 3)]))/\Below w.heap.size w w'
def Wn (F Y n0 b7 b8:Nat) (w:World) (v2 v9:Value) (wr:World):Prop :=
 ∃ (n s T:Nat) (mi:Bool),v2=.int .u64 (n:Int)/\v9=.bool mi/\DU (eT 34 F Y n0) F Y s T n mi/\Ee w wr Y b7 b8 s T
theorem Jy:2^60*QA<W:=by rw [dD];unfold W;decide +kernel
theorem F7 {R:Int} {F Y s T n:Nat} {mi:Bool} (h:DU R F Y s T n mi):T<=QA/\s<=QA:=by
 obtain ⟨m,_,_,_,_,h1,h2,h⟩:=h;refine ⟨h1,?_⟩;cases mi<;>simp at h<;>omega
theorem JX (F Y n:Nat) (w:World) (hF:F<=QA) (hY:Y<=QA) (hn:n<=1) :
 Calls Tryz.prog 95 #[.agg #[.int .u64 (nl F 0),.int .u64 (nl F 1),.int .u64 (nl F 2),.int .u64 (nl F 3)],.agg #[.int .u64 (nl Y 0),.int .u64 (nl Y 1),.int .u64 (nl Y 2),.int .u64 (nl Y 3)],.int .u64 (n:Int)] w (Vi F Y n w):=by
 have HF:=Lib.hid hF;have HY:=Lib.hid hY;have HN:=Lib.hid hn;clear hF hY hn;go_enter Tryz.func95,Tryz.ntmps95;go_wp2;go_region
 . go_wp2;go_loopw [2,9] (fun v2 v9 wr=>Wn F Y n (w.heap.size+1+1+1) (w.heap.size+1+1+1+1) w v2 v9 wr) (fun v2 _ _=>(100-intOf v2).toNat)
   case atStart =>
    refine ⟨n,F,F,true,rfl,rfl,nE F Y n HF.out HN.out,?_,?_,?_,?_,?_,?_⟩
    . go_grown
    . intro k hk;have:k=0∨k=1∨k=2∨k=3:=by omega
      rcases this with rfl|rfl|rfl|rfl<;>refine ⟨by simp [go_sem],by simp [go_sem],aD _ _⟩
    . intro k hk;have:k=0∨k=1∨k=2∨k=3:=by omega
      rcases this with rfl|rfl|rfl|rfl<;>refine ⟨by simp [go_sem,nl],by simp [go_sem],aD _ _⟩
    . intro k hk;have:k=0∨k=1∨k=2∨k=3:=by omega
      rcases this with rfl|rfl|rfl|rfl<;>refine ⟨by simp [go_sem],by simp [go_sem],aD _ _⟩
    . intro k hk;have:k=0∨k=1∨k=2∨k=3:=by omega
      rcases this with rfl|rfl|rfl|rfl<;>refine ⟨by simp [go_sem],by simp [go_sem],aD _ _⟩
    . simp
   case round =>
    obtain ⟨n',s,T,mi,rfl,rfl,hI,hW⟩:=hrel;have HI:=Lib.hid hI;have HW:=Lib.hid hW;clear hI hW
    have TQ:Hid (T<W/\s<W/\T<=QA/\s<=QA/\Y<W):=by
     have:=F7 HI.out;have:=Jy;have:=HY.out;exact ⟨by omega,by omega,by omega,by omega,by omega⟩
    have AN:=fun w=>Nj w T TQ.out.1
    by_cases hT:T=0
    . subst hT;simp only [decide_true,Bool.not_true] at AN;have hR:=rP HI.out;have FIN:Hid (∃ S:Nat,(S:Int)=eT 34 F Y n/\S<=QA/\S=s):=⟨s,hR.symm,TQ.out.2.2.2.1,rfl⟩;obtain ⟨q0,q1,q2,q3⟩:=HW.out.t.cells;obtain ⟨s0,s1,s2,s3⟩:=HW.out.s.cells;obtain ⟨r0,r1,r2,r3⟩:=HW.out.r.cells;obtain ⟨f0,f1,f2,f3⟩:=HW.out.r.free;have HB:=Lib.hid HW.out.below;clear hR;go_wp2;refine bodyPost_ret (v:=.agg #[.int .u64 (nl s 0),.int .u64 (nl s 1),.int .u64 (nl s 2),.int .u64 (nl s 3)]) (by simp [results,Tryz.results95,go_sem,r0,r1,r2,r3]) rfl ⟨?_,?_⟩
      . obtain ⟨S,h1,h2,rfl⟩:=FIN.out;exact ⟨S,h1,h2,rfl⟩
      . have hb:=HB.out;go_grown
    . simp only [hT,decide_false,Bool.not_false] at AN;have hT0:0<T:=by omega
      have NX:=qU HY.out HI.out hT0;obtain ⟨hn67,hlt,NX⟩:=NX;have hprod:∃ D:Nat,D=(n'+1)*(n'+2)/\0<D/\D<=68*69:=⟨_,rfl,Nat.mul_pos (by omega) (by omega),Nat.mul_le_mul (by omega) (by omega)⟩
      obtain ⟨D,hD,hD0,hD1⟩:=hprod;rw [<-hD] at NX hlt
      have hDw:IntKind.u64.wrap (((n':Int)+1)*((n':Int)+2))=(D:Int):=by
       have e:((n':Int)+1)*((n':Int)+2)=(D:Int):=by
        rw [hD,Int.natCast_mul];rfl
       rw [e];exact w64 _ (by unfold U64;omega)
      have hmW:aC T Y<W:=by
       have h1:aC T Y<=T:=by
        unfold aC;apply Nat.div_le_of_le_mul;rw [Nat.mul_comm QA];exact Nat.mul_le_mul_left _ HY.out
       have:=TQ.out.1;omega
      have C1:=Lib.hid (fun w=>DX T Y TQ.out.1 TQ.out.2.2.2.2 (by
       have h1:=Nat.mul_le_mul TQ.out.2.2.1 HY.out;have h2:QA*QA<2^448:=by rw [dD];decide +kernel
       omega) w)
      have C2:=fun w=>zW (aC T Y) (D:Int) hmW (by unfold U64;omega) (by omega) w
      rw [Int.toNat_natCast] at C2;replace C2:=Lib.hid C2;generalize aC T Y/D=T' at *
      have HNX:=Lib.hid NX;have HLT:=Lib.hid hlt;have HD:=Lib.hid hD;clear NX hlt hD hmW hD0 hD1;obtain ⟨q0,q1,q2,q3⟩:=HW.out.t.cells;obtain ⟨y0,y1,y2,y3⟩:=HW.out.y.cells;go_wp2_with fail;refine (C1.out _).mono ?_;rintro e w1 ⟨rfl,hb1⟩;have HB1:=Lib.hid hb1;clear hb1 q0 q1 q2 q3 y0 y1 y2 y3;go_wp2_with fail;refine (C2.out _).mono ?_;rintro e w2 ⟨rfl,hb2⟩;have HB2:Hid (Below wr.heap.size wr w2):=HB1.out.trans (hb2.mono HB1.out.size);clear hb2 HB1;have lt5:Hid (w.heap.size+5<=wr.heap.size):=HW.out.lt;have SX:=Lib.hid (HW.out.t_store HB2.out (by omega) (by omega) (by omega) T')
      obtain ⟨q0,q1,q2,q3⟩:=(HW.out.t.below HB2.out (by have:=lt5.out;omega)).cells
      obtain ⟨f0,f1,f2,f3⟩:=(HW.out.t.below HB2.out (by have:=lt5.out;omega)).free
      obtain ⟨s0,s1,s2,s3⟩:=(HW.out.s.below HB2.out (by have:=lt5.out;omega)).cells
      have hn68:(n':Int)<=68:=by omega
      cases mi
      . have NX:=HNX.out;simp only [Bool.false_eq_true,if_false] at NX;have C3:=Lib.hid (fun w=>Kg s T' (by have:=Jy;omega) w)
        have HNI:=Lib.hid NX.2;clear NX HNX;go_wp2_with fail;refine (C3.out _).mono ?_;rintro e w3 ⟨rfl,hb3⟩;have SY:=Lib.hid (SX.out.s_store hb3 (by omega) (by omega) (by omega) (s+T'))
        obtain ⟨g0,g1,g2,g3⟩:=(SX.out.s.below (show Below (dx w2 (w.heap.size+1+1+1+1) T').heap.size (dx w2 (w.heap.size+1+1+1+1) T') w3 from hb3) (by have:=SX.out.lt;omega)).free
        obtain ⟨k0,k1,k2,k3⟩:=(SX.out.s.below (show Below (dx w2 (w.heap.size+1+1+1+1) T').heap.size (dx w2 (w.heap.size+1+1+1+1) T') w3 from hb3) (by have:=SX.out.lt;omega)).cells
        clear hb3 q0 q1 q2 q3 f0 f1 f2 f3 s0 s1 s2 s3;go_wp2;exact ⟨⟨n'+2,s+T',T',true,by rw [Int.natCast_add];rfl,by first|rfl|simp,HNI.out,SY.out⟩,by simp only [intOf];omega⟩
      . have NX:=HNX.out;simp only [if_true] at NX;have C3:=Lib.hid (fun w=>L8 s T' TQ.out.2.1 NX.1 w)
        have HNI:=Lib.hid NX.2;clear NX HNX;go_wp2_with fail;refine (C3.out _).mono ?_;rintro e w3 ⟨rfl,hb3⟩;have SY:=Lib.hid (SX.out.s_store hb3 (by omega) (by omega) (by omega) (s-T'))
        obtain ⟨g0,g1,g2,g3⟩:=(SX.out.s.below (show Below (dx w2 (w.heap.size+1+1+1+1) T').heap.size (dx w2 (w.heap.size+1+1+1+1) T') w3 from hb3) (by have:=SX.out.lt;omega)).free
        obtain ⟨k0,k1,k2,k3⟩:=(SX.out.s.below (show Below (dx w2 (w.heap.size+1+1+1+1) T').heap.size (dx w2 (w.heap.size+1+1+1+1) T') w3 from hb3) (by have:=SX.out.lt;omega)).cells
        clear hb3 q0 q1 q2 q3 f0 f1 f2 f3 s0 s1 s2 s3;go_wp2;exact ⟨⟨n'+2,s-T',T',false,by rw [Int.natCast_add];rfl,by first|rfl|simp,HNI.out,SY.out⟩,by simp only [intOf];omega⟩
 . go_wp2;go_loopw [2,9] (fun v2 v9 wr=>Wn F Y n (w.heap.size+1+1+1+1) (w.heap.size+1+1+1) w v2 v9 wr) (fun v2 _ _=>(100-intOf v2).toNat)
   case atStart =>
    refine ⟨n,F,F,true,rfl,rfl,nE F Y n HF.out HN.out,?_,?_,?_,?_,?_,?_⟩
    . go_grown
    . intro k hk;have:k=0∨k=1∨k=2∨k=3:=by omega
      rcases this with rfl|rfl|rfl|rfl<;>refine ⟨by simp [go_sem],by simp [go_sem],aD _ _⟩
    . intro k hk;have:k=0∨k=1∨k=2∨k=3:=by omega
      rcases this with rfl|rfl|rfl|rfl<;>refine ⟨by simp [go_sem,nl],by simp [go_sem],aD _ _⟩
    . intro k hk;have:k=0∨k=1∨k=2∨k=3:=by omega
      rcases this with rfl|rfl|rfl|rfl<;>refine ⟨by simp [go_sem],by simp [go_sem],aD _ _⟩
    . intro k hk;have:k=0∨k=1∨k=2∨k=3:=by omega
      rcases this with rfl|rfl|rfl|rfl<;>refine ⟨by simp [go_sem],by simp [go_sem],aD _ _⟩
    . simp
   case round =>
    obtain ⟨n',s,T,mi,rfl,rfl,hI,hW⟩:=hrel;have HI:=Lib.hid hI;have HW:=Lib.hid hW;clear hI hW
    have TQ:Hid (T<W/\s<W/\T<=QA/\s<=QA/\Y<W):=by
     have:=F7 HI.out;have:=Jy;have:=HY.out;exact ⟨by omega,by omega,by omega,by omega,by omega⟩
    have AN:=fun w=>Nj w T TQ.out.1
    by_cases hT:T=0
    . subst hT;simp only [decide_true,Bool.not_true] at AN;have hR:=rP HI.out;have FIN:Hid (∃ S:Nat,(S:Int)=eT 34 F Y n/\S<=QA/\S=s):=⟨s,hR.symm,TQ.out.2.2.2.1,rfl⟩;obtain ⟨q0,q1,q2,q3⟩:=HW.out.t.cells;obtain ⟨s0,s1,s2,s3⟩:=HW.out.s.cells;obtain ⟨r0,r1,r2,r3⟩:=HW.out.r.cells;obtain ⟨f0,f1,f2,f3⟩:=HW.out.r.free;have HB:=Lib.hid HW.out.below;clear hR;go_wp2;refine bodyPost_ret (v:=.agg #[.int .u64 (nl s 0),.int .u64 (nl s 1),.int .u64 (nl s 2),.int .u64 (nl s 3)]) (by simp [results,Tryz.results95,go_sem,r0,r1,r2,r3]) rfl ⟨?_,?_⟩
      . obtain ⟨S,h1,h2,rfl⟩:=FIN.out;exact ⟨S,h1,h2,rfl⟩
      . have hb:=HB.out;go_grown
    . simp only [hT,decide_false,Bool.not_false] at AN;have hT0:0<T:=by omega
      have NX:=qU HY.out HI.out hT0;obtain ⟨hn67,hlt,NX⟩:=NX;have hprod:∃ D:Nat,D=(n'+1)*(n'+2)/\0<D/\D<=68*69:=⟨_,rfl,Nat.mul_pos (by omega) (by omega),Nat.mul_le_mul (by omega) (by omega)⟩
      obtain ⟨D,hD,hD0,hD1⟩:=hprod;rw [<-hD] at NX hlt
      have hDw:IntKind.u64.wrap (((n':Int)+1)*((n':Int)+2))=(D:Int):=by
       have e:((n':Int)+1)*((n':Int)+2)=(D:Int):=by
        rw [hD,Int.natCast_mul];rfl
       rw [e];exact w64 _ (by unfold U64;omega)
      have hmW:aC T Y<W:=by
       have h1:aC T Y<=T:=by
        unfold aC;apply Nat.div_le_of_le_mul;rw [Nat.mul_comm QA];exact Nat.mul_le_mul_left _ HY.out
       have:=TQ.out.1;omega
      have C1:=Lib.hid (fun w=>DX T Y TQ.out.1 TQ.out.2.2.2.2 (by
       have h1:=Nat.mul_le_mul TQ.out.2.2.1 HY.out;have h2:QA*QA<2^448:=by rw [dD];decide +kernel
       omega) w)
      have C2:=fun w=>zW (aC T Y) (D:Int) hmW (by unfold U64;omega) (by omega) w
      rw [Int.toNat_natCast] at C2;replace C2:=Lib.hid C2;generalize aC T Y/D=T' at *
      have HNX:=Lib.hid NX;have HLT:=Lib.hid hlt;have HD:=Lib.hid hD;clear NX hlt hD hmW hD0 hD1;obtain ⟨q0,q1,q2,q3⟩:=HW.out.t.cells;obtain ⟨y0,y1,y2,y3⟩:=HW.out.y.cells;go_wp2_with fail;refine (C1.out _).mono ?_;rintro e w1 ⟨rfl,hb1⟩;have HB1:=Lib.hid hb1;clear hb1 q0 q1 q2 q3 y0 y1 y2 y3;go_wp2_with fail;refine (C2.out _).mono ?_;rintro e w2 ⟨rfl,hb2⟩;have HB2:Hid (Below wr.heap.size wr w2):=HB1.out.trans (hb2.mono HB1.out.size);clear hb2 HB1;have lt5:Hid (w.heap.size+5<=wr.heap.size):=HW.out.lt;have SX:=Lib.hid (HW.out.t_store HB2.out (by omega) (by omega) (by omega) T')
      obtain ⟨q0,q1,q2,q3⟩:=(HW.out.t.below HB2.out (by have:=lt5.out;omega)).cells
      obtain ⟨f0,f1,f2,f3⟩:=(HW.out.t.below HB2.out (by have:=lt5.out;omega)).free
      obtain ⟨s0,s1,s2,s3⟩:=(HW.out.s.below HB2.out (by have:=lt5.out;omega)).cells
      have hn68:(n':Int)<=68:=by omega
      cases mi
      . have NX:=HNX.out;simp only [Bool.false_eq_true,if_false] at NX;have C3:=Lib.hid (fun w=>Kg s T' (by have:=Jy;omega) w)
        have HNI:=Lib.hid NX.2;clear NX HNX;go_wp2_with fail;refine (C3.out _).mono ?_;rintro e w3 ⟨rfl,hb3⟩;have SY:=Lib.hid (SX.out.s_store hb3 (by omega) (by omega) (by omega) (s+T'))
        obtain ⟨g0,g1,g2,g3⟩:=(SX.out.s.below (show Below (dx w2 (w.heap.size+1+1+1) T').heap.size (dx w2 (w.heap.size+1+1+1) T') w3 from hb3) (by have:=SX.out.lt;omega)).free
        obtain ⟨k0,k1,k2,k3⟩:=(SX.out.s.below (show Below (dx w2 (w.heap.size+1+1+1) T').heap.size (dx w2 (w.heap.size+1+1+1) T') w3 from hb3) (by have:=SX.out.lt;omega)).cells
        clear hb3 q0 q1 q2 q3 f0 f1 f2 f3 s0 s1 s2 s3;go_wp2;exact ⟨⟨n'+2,s+T',T',true,by rw [Int.natCast_add];rfl,by first|rfl|simp,HNI.out,SY.out⟩,by simp only [intOf];omega⟩
      . have NX:=HNX.out;simp only [if_true] at NX;have C3:=Lib.hid (fun w=>L8 s T' TQ.out.2.1 NX.1 w)
        have HNI:=Lib.hid NX.2;clear NX HNX;go_wp2_with fail;refine (C3.out _).mono ?_;rintro e w3 ⟨rfl,hb3⟩;have SY:=Lib.hid (SX.out.s_store hb3 (by omega) (by omega) (by omega) (s-T'))
        obtain ⟨g0,g1,g2,g3⟩:=(SX.out.s.below (show Below (dx w2 (w.heap.size+1+1+1) T').heap.size (dx w2 (w.heap.size+1+1+1) T') w3 from hb3) (by have:=SX.out.lt;omega)).free
        obtain ⟨k0,k1,k2,k3⟩:=(SX.out.s.below (show Below (dx w2 (w.heap.size+1+1+1) T').heap.size (dx w2 (w.heap.size+1+1+1) T') w3 from hb3) (by have:=SX.out.lt;omega)).cells
        clear hb3 q0 q1 q2 q3 f0 f1 f2 f3 s0 s1 s2 s3;go_wp2;exact ⟨⟨n'+2,s-T',T',false,by rw [Int.natCast_add];rfl,by first|rfl|simp,HNI.out,SY.out⟩,by simp only [intOf];omega⟩
end Go.Proofs.YtbcnifkfaknnaaaGreat
namespace Alm
theorem FH (R:Int) (F Y:Nat) (hY:Y<=QA):∀ (T s n:Nat) (mi:Bool),DU R F Y s T n mi->∃ S:Nat,R=(S:Int)/\S<=QA:=by
 intro T
 induction T using Nat.strongRecOn with
 | _ T ih =>
  intro s n mi h
  by_cases hT:T=0
  . subst hT;obtain ⟨m,_,_,_,_,h1,h2,h3⟩:=id h;refine ⟨s,rP h,?_⟩;cases mi<;>simp at h3<;>omega
  . obtain ⟨_,hlt,h2⟩:=qU hY h (by omega)
    cases mi
    . simp only [Bool.false_eq_true,if_false] at h2;exact ih _ hlt _ _ _ h2.2
    . simp only [if_true] at h2;exact ih _ hlt _ _ _ h2.2
def qw (F Y n:Nat):Nat:=(eT 34 F Y n).toNat
theorem G9 (F Y n:Nat) (hF:F<=QA) (hY:Y<=QA) (hn:n<=1):(qw F Y n:Int)=eT 34 F Y n/\qw F Y n<=QA:=by
 obtain ⟨S,h1,h2⟩:=FH _ F Y hY F F n true (nE F Y n hF hn);unfold qw;rw [h1];exact ⟨by simp,by simpa using h2⟩
def qQ (k:Nat):Nat:=qw (aY k) (sqA k) 1
def qI (k:Nat):Nat:=qw QA (sqA k) 0
theorem ui (k:Nat) (h:k<=2700000):(qQ k:Int)=J7 k/\qQ k<=QA :=
 G9 _ _ _ (Nat.le_of_lt (uw k h)) (Nat.le_of_lt (lS k h).1) (by omega)
theorem tX (k:Nat) (h:k<=2700000):(qI k:Int)=Im k/\qI k<=QA :=
 G9 _ _ _ (Nat.le_refl _) (Nat.le_of_lt (lS k h).1) (by omega)
def sN (k:Nat):Nat:=if k<=2700000 then qQ k else qI (5400000-k)
def cN (k:Nat):Nat:=if k<=2700000 then qI k else qQ (5400000-k)
theorem YF (k:Nat) (h:k<=5400000):sN k<=QA:=by
 unfold sN;split
 . exact (ui k (by omega)).2
 . exact (tX _ (by omega)).2
theorem XK (k:Nat) (h:k<=5400000):cN k<=QA:=by
 unfold cN;split
 . exact (tX k (by omega)).2
 . exact (ui _ (by omega)).2
end Alm
namespace Go.Proofs.YtbcnifkfaknnaaaGreat
open Go.RowKit Alm
theorem Rl (F Y n:Nat) (w:World) (hF:F<=QA) (hY:Y<=QA) (hn:n<=1) :
 Calls Tryz.prog 95 #[.agg #[.int .u64 (nl F 0),.int .u64 (nl F 1),.int .u64 (nl F 2),.int .u64 (nl F 3)],.agg #[.int .u64 (nl Y 0),.int .u64 (nl Y 1),.int .u64 (nl Y 2),.int .u64 (nl Y 3)],.int .u64 (n:Int)] w fun e w' =>
  e=.returned (.agg #[.int .u64 (nl (qw F Y n) 0),.int .u64 (nl (qw F Y n) 1),.int .u64 (nl (qw F Y n) 2),.int .u64 (nl (qw F Y n) 3)])/\Below w.heap.size w w':=by
 refine (JX F Y n w hF hY hn).mono ?_;rintro e w' ⟨⟨S,h1,_,rfl⟩,hb⟩;have:qw F Y n=S:=by unfold qw;rw [<-h1];simp
 rw [this];exact ⟨rfl,hb⟩
theorem wY {w w':World} (h:Below w.drew.heap.size w.drew w'):Below w.heap.size w w':=⟨h.os,h.tape,h.output,h.size,h.block⟩
def F4 (w:World) (b:Nat) (x0 x1 x2 x3:Value):Prop :=
 (w.cell? ⟨b,0,none⟩=some x0/\w.cell? ⟨b,1,none⟩=some x1/\w.cell? ⟨b,2,none⟩=some x2/\w.cell? ⟨b,3,none⟩=some x3) /\
 (w.frozen? ⟨b,0,none⟩=false/\w.frozen? ⟨b,1,none⟩=false/\w.frozen? ⟨b,2,none⟩=false/\w.frozen? ⟨b,3,none⟩=false)
def W4 (w:World) (b:Nat) (x0 x1 x2 x3:Value):World:=(((w.setCell ⟨b,0,none⟩ x0).setCell ⟨b,1,none⟩ x1).setCell ⟨b,2,none⟩ x2).setCell ⟨b,3,none⟩ x3
theorem F4.below {w wx:World} {b B:Nat} {x0 x1 x2 x3:Value} (h:F4 w b x0 x1 x2 x3) (hb:Below B w wx) (hB:b<B):F4 wx b x0 x1 x2 x3:=by
 obtain ⟨⟨a0,a1,a2,a3⟩,f0,f1,f2,f3⟩:=h;exact ⟨⟨(hb.cell hB).trans a0,(hb.cell hB).trans a1,(hb.cell hB).trans a2,(hb.cell hB).trans a3⟩,(hb.frozen hB).trans f0,(hb.frozen hB).trans f1,(hb.frozen hB).trans f2,(hb.frozen hB).trans f3⟩
theorem F4.store {w:World} {b:Nat} {x0 x1 x2 x3:Value} (h:F4 w b x0 x1 x2 x3) (y0 y1 y2 y3:Value):F4 (W4 w b y0 y1 y2 y3) b y0 y1 y2 y3:=by
 obtain ⟨⟨a0,a1,a2,a3⟩,f0,f1,f2,f3⟩:=h;have sm:∀ (w:World) (p:Nat) (v u:Value),w.cell? ⟨b,p,none⟩=some u->(w.setCell ⟨b,p,none⟩ v).cell? ⟨b,p,none⟩=some v:=fun w p v u h=>World.cell?_setCell_same _ _ _ h
 have ot:∀ (w:World) (p q:Nat) (v:Value),p≠q->(w.setCell ⟨b,p,none⟩ v).cell? ⟨b,q,none⟩=w.cell? ⟨b,q,none⟩:=fun w p q v h=>World.cell?_setCell_other _ _ _ _ (by intro e;injection e with _ e;exact h e)
 unfold W4;refine ⟨⟨?_,?_,?_,?_⟩,?_,?_,?_,?_⟩
 . rw [ot _ _ _ _ (by omega),ot _ _ _ _ (by omega),ot _ _ _ _ (by omega)];exact sm _ _ _ _ a0
 . rw [ot _ _ _ _ (by omega),ot _ _ _ _ (by omega)];exact sm _ _ _ _ (by rw [ot _ _ _ _ (by omega)];exact a1)
 . rw [ot _ _ _ _ (by omega)];exact sm _ _ _ _ (by rw [ot _ _ _ _ (by omega),ot _ _ _ _ (by omega)];exact a2)
 . exact sm _ _ _ _ (by rw [ot _ _ _ _ (by omega),ot _ _ _ _ (by omega),ot _ _ _ _ (by omega)];exact a3)
 all_goals simp only [World.frozen?_setCell];assumption
theorem F4.apart {w:World} {b b':Nat} {x0 x1 x2 x3:Value} (h:F4 w b x0 x1 x2 x3) (y0 y1 y2 y3:Value) (hn:b'≠b):F4 (W4 w b' y0 y1 y2 y3) b x0 x1 x2 x3:=by
 obtain ⟨⟨a0,a1,a2,a3⟩,f0,f1,f2,f3⟩:=h;have ot:∀ (w:World) (p q:Nat) (v:Value),(w.setCell ⟨b',p,none⟩ v).cell? ⟨b,q,none⟩=w.cell? ⟨b,q,none⟩:=fun w p q v=>World.cell?_setCell_other _ _ _ _ (by intro e;injection e with e;exact hn e)
 unfold W4;refine ⟨⟨?_,?_,?_,?_⟩,?_,?_,?_,?_⟩
 all_goals first|(simp only [World.frozen?_setCell];assumption)|(rw [ot,ot,ot,ot];assumption)
theorem Dl {w0 w:World} {N b:Nat} (h:Below N w0 w) (x0 x1 x2 x3:Value) (hb:N<=b):Below N w0 (W4 w b x0 x1 x2 x3) :=
 (((h.setCell (p:=⟨b,0,none⟩) hb _).setCell (p:=⟨b,1,none⟩) hb _).setCell (p:=⟨b,2,none⟩) hb _).setCell (p:=⟨b,3,none⟩) hb _
theorem mI (w:World) (x0 x1 x2 x3:Value) (T:TypeId):F4 (w.alloc (.cells #[x0,x1,x2,x3] T)) w.heap.size x0 x1 x2 x3:=by
 refine ⟨⟨?_,?_,?_,?_⟩,?_,?_,?_,?_⟩<;>simp [go_sem]
theorem F4.drew {w:World} {b:Nat} {x0 x1 x2 x3:Value} (h:F4 w b x0 x1 x2 x3):F4 w.drew b x0 x1 x2 x3:=h
structure Pj (w wr:World) (b4 b5:Nat) (X0 X1 X2 X3 Y0 Y1 Y2 Y3:Value):Prop where
 below:Below w.heap.size w wr
 r0:F4 wr w.heap.size (.int .u64 0) (.int .u64 0) (.int .u64 0) (.int .u64 0)
 r1:F4 wr (w.heap.size+1) (.int .u64 0) (.int .u64 0) (.int .u64 0) (.int .u64 0)
 t:F4 wr b4 X0 X1 X2 X3
 q:F4 wr b5 Y0 Y1 Y2 Y3
 l4:b4<wr.heap.size
 l5:b5<wr.heap.size
 lt:w.heap.size+2<=wr.heap.size
theorem Pj.next {w wr wx:World} {b4 b5:Nat} {X0 X1 X2 X3 Y0 Y1 Y2 Y3:Value} (h:Pj w wr b4 b5 X0 X1 X2 X3 Y0 Y1 Y2 Y3) (hb:Below wr.heap.size wr wx):Pj w wx b4 b5 X0 X1 X2 X3 Y0 Y1 Y2 Y3:=by
 have hs:=hb.size;have hl:=h.lt;have h4:=h.l4;have h5:=h.l5;exact ⟨h.below.trans (hb.mono (by omega)),h.r0.below hb (by omega),h.r1.below hb (by omega),h.t.below hb (by omega),h.q.below hb (by omega),by omega,by omega,by omega⟩
def QI (w wr:World):Prop:=Below w.heap.size w wr/\w.heap.size+2<=wr.heap.size/\F4 wr w.heap.size (.int .u64 0) (.int .u64 0) (.int .u64 0) (.int .u64 0)/\F4 wr (w.heap.size+1) (.int .u64 0) (.int .u64 0) (.int .u64 0) (.int .u64 0)
theorem QI.next {w wr wx:World} (h:QI w wr) (hb:Below wr.heap.size wr wx):QI w wx:=by
 obtain ⟨a,b,c,d⟩:=h;have hs:=hb.size;exact ⟨a.trans (hb.mono (by omega)),by omega,c.below hb (by omega),d.below hb (by omega)⟩
theorem Em (w:World):QI w ((w.alloc (.cells #[.int .u64 0,.int .u64 0,.int .u64 0,.int .u64 0] 106)).alloc (.cells #[.int .u64 0,.int .u64 0,.int .u64 0,.int .u64 0] 106)):=by
 refine ⟨((Below.refl _ _).alloc (Nat.le_refl _) _).alloc (by simp) _,by simp,(mI _ _ _ _ _ _).below (B:=w.heap.size+1) ((Below.refl _ _).alloc (by simp) _) (by omega),?_⟩
 have:=mI (w.alloc (.cells #[.int .u64 0,.int .u64 0,.int .u64 0,.int .u64 0] 106)) (.int .u64 0) (.int .u64 0) (.int .u64 0) (.int .u64 0) 106
 simpa using this
theorem Dq (k:Nat) (w:World) (X0 X1 X2 X3 Y0 Y1 Y2 Y3 S0 S1 S2 S3 C0 C1 C2 C3 P0 P1 P2 P3 K0 K1 K2 K3:Int) (hk0:0<=(k:Int)) (hk1:(k:Int)<=2700000)
 (CP:Hid (∀ w,Calls Tryz.prog 92 #[] w fun e w'=>e=.returned (.agg #[.int .u64 P0,.int .u64 P1,.int .u64 P2,.int .u64 P3])/\Below w.heap.size w w'))
 (CT:Hid (∀ w,Calls Tryz.prog 84 #[.agg #[.int .u64 P0,.int .u64 P1,.int .u64 P2,.int .u64 P3],.int .u64 (k:Int)] w fun e w'=>e=.returned (.agg #[.int .u64 K0,.int .u64 K1,.int .u64 K2,.int .u64 K3])/\Below w.heap.size w w'))
 (CO:Hid (∀ w,Calls Tryz.prog 93 #[.agg #[.int .u64 K0,.int .u64 K1,.int .u64 K2,.int .u64 K3],.int .u64 10800000] w fun e w'=>e=.returned (.agg #[.int .u64 X0,.int .u64 X1,.int .u64 X2,.int .u64 X3])/\Below w.heap.size w w'))
 (CM:Hid (∀ w,Calls Tryz.prog 94 #[.agg #[.int .u64 X0,.int .u64 X1,.int .u64 X2,.int .u64 X3],.agg #[.int .u64 X0,.int .u64 X1,.int .u64 X2,.int .u64 X3]] w fun e w'=>e=.returned (.agg #[.int .u64 Y0,.int .u64 Y1,.int .u64 Y2,.int .u64 Y3])/\Below w.heap.size w w'))
 (CS:Hid (∀ w,Calls Tryz.prog 95 #[.agg #[.int .u64 X0,.int .u64 X1,.int .u64 X2,.int .u64 X3],.agg #[.int .u64 Y0,.int .u64 Y1,.int .u64 Y2,.int .u64 Y3],.int .u64 1] w fun e w'=>e=.returned (.agg #[.int .u64 S0,.int .u64 S1,.int .u64 S2,.int .u64 S3])/\Below w.heap.size w w'))
 (CC:Hid (∀ w,Calls Tryz.prog 95 #[.agg #[.int .u64 1,.int .u64 0,.int .u64 0,.int .u64 0],.agg #[.int .u64 Y0,.int .u64 Y1,.int .u64 Y2,.int .u64 Y3],.int .u64 0] w fun e w'=>e=.returned (.agg #[.int .u64 C0,.int .u64 C1,.int .u64 C2,.int .u64 C3])/\Below w.heap.size w w')) :
 Calls Tryz.prog 83 #[.int .i64 (k:Int)] w fun e w'=>e=.returned (.tuple #[.agg #[.int .u64 S0,.int .u64 S1,.int .u64 S2,.int .u64 S3],.agg #[.int .u64 C0,.int .u64 C1,.int .u64 C2,.int .u64 C3]])/\Below w.heap.size w w':=by
 have H0:=Lib.hid (Em w);go_enter Tryz.func83,Tryz.ntmps83;go_wp2_with fail;refine (CP.out _).mono ?_;rintro e w1 ⟨rfl,hb1⟩;have H1:=Lib.hid (H0.out.next hb1);clear hb1 H0;go_wp2_with fail;refine (CT.out _).mono ?_;rintro e w2 ⟨rfl,hb2⟩;have H2:=Lib.hid (H1.out.next hb2);clear hb2 H1;go_wp2_with fail;refine (CO.out _).mono ?_;rintro e w3 ⟨rfl,hb3⟩;have H3:=Lib.hid (H2.out.next hb3);clear hb3 H2;go_wp2_with fail;refine (CM.out _).mono ?_;rintro e w4 ⟨rfl,hb4⟩
 have H4:Hid (Pj w (w4.alloc (.cells #[.int .u64 Y0,.int .u64 Y1,.int .u64 Y2,.int .u64 Y3] 106)) w3.heap.size w4.heap.size (.int .u64 X0) (.int .u64 X1) (.int .u64 X2) (.int .u64 X3) (.int .u64 Y0) (.int .u64 Y1) (.int .u64 Y2) (.int .u64 Y3)):=by
  have hb4:Below (w3.alloc (.cells #[.int .u64 X0,.int .u64 X1,.int .u64 X2,.int .u64 X3] 106)).heap.size (w3.alloc (.cells #[.int .u64 X0,.int .u64 X1,.int .u64 X2,.int .u64 X3] 106)) w4:=hb4;have hs:=hb4.size;have hz:(w3.alloc (.cells #[.int .u64 X0,.int .u64 X1,.int .u64 X2,.int .u64 X3] 106)).heap.size=w3.heap.size+1:=by simp
  have hn:=mI w3 (.int .u64 X0) (.int .u64 X1) (.int .u64 X2) (.int .u64 X3) 106;have hal:Below w3.heap.size w3 (w3.alloc (.cells #[.int .u64 X0,.int .u64 X1,.int .u64 X2,.int .u64 X3] 106)):=(Below.refl _ _).alloc (Nat.le_refl _) _;have hal4:Below w4.heap.size w4 (w4.alloc (.cells #[.int .u64 Y0,.int .u64 Y1,.int .u64 Y2,.int .u64 Y3] 106)):=(Below.refl _ _).alloc (Nat.le_refl _) _;obtain ⟨a,b,c,d⟩:=((H3.out.next hal).next hb4).next hal4;rw [hz] at hs;exact ⟨a,c,d,(hn.below hb4 (by rw [hz];omega)).below hal4 (by omega),mI _ _ _ _ _ _,by simp;omega,by simp,b⟩
 clear hb4 H3;go_wp2;generalize (w4.alloc (.cells #[.int .u64 Y0,.int .u64 Y1,.int .u64 Y2,.int .u64 Y3] 106))=wq at *
 generalize w3.heap.size=b4 at *
 generalize w4.heap.size=b5 at *
 obtain ⟨⟨x0,x1,x2,x3⟩,_⟩:=H4.out.t;obtain ⟨⟨y0,y1,y2,y3⟩,_⟩:=H4.out.q;clear CP CT CO CM hk0 hk1
 go_region_with (first
  | ((go_at_call 95;with_reducible refine (CS.out _).mono ?_);rintro e w5 ⟨rfl,hb⟩;replace H4:=Lib.hid (H4.out.next (by first|exact hb|exact wY hb));clear hb x0 x1 x2 x3 y0 y1 y2 y3 CS;obtain ⟨⟨x0,x1,x2,x3⟩,_⟩:=H4.out.t;obtain ⟨⟨y0,y1,y2,y3⟩,_⟩:=H4.out.q)
  | ((go_at_call 95;with_reducible refine (CC.out _).mono ?_);rintro e w5 ⟨rfl,hb⟩;replace H4:=Lib.hid (H4.out.next (by first|exact hb|exact wY hb));clear hb x0 x1 x2 x3 y0 y1 y2 y3 CC;obtain ⟨⟨m0,m1,m2,m3⟩,f0,f1,f2,f3⟩:=H4.out.r0;obtain ⟨⟨n0,n1,n2,n3⟩,g0,g1,g2,g3⟩:=H4.out.r1))
 all_goals
  go_wp2;refine bodyPost_ret (v:=.tuple #[.agg #[.int .u64 S0,.int .u64 S1,.int .u64 S2,.int .u64 S3],.agg #[.int .u64 C0,.int .u64 C1,.int .u64 C2,.int .u64 C3]]) (by simp [results,Tryz.results83,go_sem,m0,m1,m2,m3,n0,n1,n2,n3]) rfl ⟨rfl,?_⟩
  have hb:=H4.out.below;go_grown
theorem wL (k:Nat) (w:World) (hk:k<=2700000) :
 Calls Tryz.prog 83 #[.int .i64 (k:Int)] w fun e w'=>e=.returned (.tuple #[.agg #[.int .u64 (nl (qQ k) 0),.int .u64 (nl (qQ k) 1),.int .u64 (nl (qQ k) 2),.int .u64 (nl (qQ k) 3)],.agg #[.int .u64 (nl (qI k) 0),.int .u64 (nl (qI k) 1),.int .u64 (nl (qI k) 2),.int .u64 (nl (qI k) 3)]])/\Below w.heap.size w w':=by
 have hW:=Jy;have hr:=uw k hk;have hq:=(lS k hk).1
 have hPk:PiA*k<W:=by
  have h1:PiA*k<=PiA*2700000:=Nat.mul_le_mul_left _ hk;have h2:PiA*2700000<W:=by unfold PiA W;decide +kernel
  omega
 have CT:=fun w=>vz PiA (k:Int) Nb (by unfold U64;omega) (by rw [Int.toNat_natCast];exact hPk) w
 rw [Int.toNat_natCast] at CT;have CO:=fun w=>zW (PiA*k) 10800000 hPk (by unfold U64;omega) (by omega) w
 have eO:PiA*k/(10800000:Int).toNat=aY k:=by unfold aY;rw [Nat.mul_comm];rfl
 rw [eO] at CO
 have CM:=fun w=>DX (aY k) (aY k) (by omega) (by omega) (by
  have h1:=Nat.mul_le_mul (Nat.le_of_lt hr) (Nat.le_of_lt hr);have h2:QA*QA<2^448:=by rw [dD];decide +kernel
  omega) w
 have eM:aC (aY k) (aY k)=sqA k:=rfl;rw [eM] at CM;have CS:=fun w=>Rl (aY k) (sqA k) 1 w (Nat.le_of_lt hr) (Nat.le_of_lt hq) (by omega)
 have CC:=fun w=>Rl QA (sqA k) 0 w (Nat.le_refl _) (Nat.le_of_lt hq) (by omega)
 have eQ:nl QA 0=1/\nl QA 1=0/\nl QA 2=0/\nl QA 3=0:=by unfold nl;rw [dD];decide +kernel
 rw [eQ.1,eQ.2.1,eQ.2.2.1,eQ.2.2.2] at CC;have eS:qw (aY k) (sqA k) 1=qQ k:=rfl;have eC:qw QA (sqA k) 0=qI k:=rfl;rw [eS,show ((1:Nat):Int)=1 from rfl] at CS;rw [eC,show ((0:Nat):Int)=0 from rfl] at CC
 exact Dq k w _ _ _ _ _ _ _ _ _ _ _ _ _ _ _ _ _ _ _ _ _ _ _ _ (by omega) (by omega) (Lib.hid WA) (Lib.hid CT) (Lib.hid CO) (Lib.hid CM) (Lib.hid CS) (Lib.hid CC)
