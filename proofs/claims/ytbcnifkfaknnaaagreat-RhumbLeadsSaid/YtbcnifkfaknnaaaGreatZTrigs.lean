/- The contracts of package trig's numbers. -/
import Derived.Test.YtbcnifkfaknnaaaGreatZLo
import Derived.Deep.RegionHeld3
set_option linter.unusedVariables false
set_option linter.unusedSimpArgs false
set_option maxRecDepth 100000
set_option maxHeartbeats 4000000
namespace Go.Proofs.YtbcnifkfaknnaaaGreat
open Go.RowKit Alm
theorem gK {a b c d a' b' c' d':Int} (h0:a=a') (h1:b=b') (h2:c=c') (h3:d=d') :
 Ending.returned (.agg #[.int .u64 a,.int .u64 b,.int .u64 c,.int .u64 d])=.returned (.agg #[.int .u64 a',.int .u64 b',.int .u64 c',.int .u64 d']):=by rw [h0,h1,h2,h3]
theorem KM (A B:Nat) (hA:A<W) (hB:B<W) (w:World) :
 Calls Tryz.prog 98 #[.agg #[.int .u64 (nl A 0),.int .u64 (nl A 1),.int .u64 (nl A 2),.int .u64 (nl A 3)],.agg #[.int .u64 (nl B 0),.int .u64 (nl B 1),.int .u64 (nl B 2),.int .u64 (nl B 3)]] w fun e w' =>
  e=.returned (.agg #[.int .u64 (nl (mulN A B) 0),.int .u64 (nl (mulN A B) 1),.int .u64 (nl (mulN A B) 2),.int .u64 (nl (mulN A B) 3)])/\Below w.heap.size w w':=by
 refine (Ja (nl A) (nl B) w (fun k _=>aD A k) (fun k _=>aD B k)).mono ?_
 rintro e w' ⟨r,rfl,hr,hv,hb⟩;rw [N7 A B hA hB] at hv;obtain ⟨h0,h1,h2,h3⟩:=vJ r hr _ hv;exact ⟨gK h0 h1 h2 h3,hb⟩
theorem Jv (a0 a1 a2 a3 b0 b1 b2 b3:Int) (w:World) (ha0:U64 a0) (ha1:U64 a1) (ha2:U64 a2) (ha3:U64 a3) (hb0:U64 b0) (hb1:U64 b1) (hb2:U64 b2) (hb3:U64 b3) :
 Calls Tryz.prog 97 #[.agg #[.int .u64 a0,.int .u64 a1,.int .u64 a2,.int .u64 a3],.agg #[.int .u64 b0,.int .u64 b1,.int .u64 b2,.int .u64 b3]] w fun e w' =>
  e=.returned (.agg #[.int .u64 (sb a0 b0 (sbc a1 b1 (sbc a2 b2 (sbc a3 b3 0)))),.int .u64 (sb a1 b1 (sbc a2 b2 (sbc a3 b3 0))),.int .u64 (sb a2 b2 (sbc a3 b3 0)),.int .u64 (sb a3 b3 0)])/\Below w.heap.size w w':=by
 have f3:=cu a3 b3 0 ha3 hb3 (by unfold Bit;omega)
 have f2:=cu a2 b2 _ ha2 hb2 f3.2.1;have f1:=cu a1 b1 _ ha1 hb1 f2.2.1;have s3:=dN a3 b3 0 ha3 hb3 (by unfold Bit;omega)
 have s2:=dN a2 b2 _ ha2 hb2 f3.2.1;have s1:=dN a1 b1 _ ha1 hb1 f2.2.1;have s0:=dN a0 b0 _ ha0 hb0 f1.2.1;clear f1 f2 f3;generalize sb a3 b3 0=r3 at *
 generalize sbc a3 b3 0=c3 at *
 generalize sb a2 b2 c3=r2 at *
 generalize sbc a2 b2 c3=c2 at *
 generalize sb a1 b1 c2=r1 at *
 generalize sbc a1 b1 c2=c1 at *
 generalize sb a0 b0 c1=r0 at *
 generalize sbc a0 b0 c1=c0 at *
 go_enter Tryz.func97,Tryz.ntmps97;go_wp2;refine wp_loop_rounds 5 ?_;rw [rounds_succ];go_wp2;go_region;go_wp2;rw [rounds_succ];go_wp2;go_region;go_wp2;rw [rounds_succ];go_wp2;go_region;go_wp2;rw [rounds_succ];go_wp2;go_region;go_wp2;rw [rounds_succ];go_wp2;refine bodyPost_ret (v:=.agg #[.int .u64 r0,.int .u64 r1,.int .u64 r2,.int .u64 r3]) (by simp [results,Tryz.results97,go_sem]) rfl ⟨rfl,?_⟩
 go_grown
def nL (A B:Nat):Nat:=(A+W-B)%W
theorem ut (A B:Nat) (hA:A<W) (h:B<=A):nL A B=A-B:=by
 unfold nL;rw [show A+W-B=(A-B)+W by omega,Nat.add_mod_right,Nat.mod_eq_of_lt (by omega)]
theorem MP (A B:Nat) (hA:A<W) (hB:B<W) (w:World) :
 Calls Tryz.prog 97 #[.agg #[.int .u64 (nl A 0),.int .u64 (nl A 1),.int .u64 (nl A 2),.int .u64 (nl A 3)],.agg #[.int .u64 (nl B 0),.int .u64 (nl B 1),.int .u64 (nl B 2),.int .u64 (nl B 3)]] w fun e w' =>
  e=.returned (.agg #[.int .u64 (nl (nL A B) 0),.int .u64 (nl (nL A B) 1),.int .u64 (nl (nL A B) 2),.int .u64 (nl (nL A B) 3)])/\Below w.heap.size w w':=by
 refine (Jv _ _ _ _ _ _ _ _ w (aD A 0) (aD A 1) (aD A 2) (aD A 3) (aD B 0) (aD B 1) (aD B 2) (aD B 3)).mono ?_;rintro e w' ⟨rfl,hb⟩;have va:=eX A hA;have vb:=eX B hB;unfold V4 at va vb;have f3:=cu (nl A 3) (nl B 3) 0 (aD A 3) (aD B 3) (by unfold Bit;omega)
 have f2:=cu (nl A 2) (nl B 2) _ (aD A 2) (aD B 2) f3.2.1;have f1:=cu (nl A 1) (nl B 1) _ (aD A 1) (aD B 1) f2.2.1;have f0:=cu (nl A 0) (nl B 0) _ (aD A 0) (aD B 0) f1.2.1;generalize sb (nl A 3) (nl B 3) 0=r3 at *
 generalize sbc (nl A 3) (nl B 3) 0=c3 at *
 generalize sb (nl A 2) (nl B 2) c3=r2 at *
 generalize sbc (nl A 2) (nl B 2) c3=c2 at *
 generalize sb (nl A 1) (nl B 1) c2=r1 at *
 generalize sbc (nl A 1) (nl B 1) c2=c1 at *
 generalize sb (nl A 0) (nl B 0) c1=r0 at *
 generalize sbc (nl A 0) (nl B 0) c1=c0 at *
 have hW:W=115792089237316195423570985008687907853269984665640564039457584007913129639936:=by unfold W;decide +kernel
 have hr:∀ k,k<4->LU ((fun k=>match k with|0=>r0|1=>r1|2=>r2|_=>r3) k):=by
  intro k hk;have:k=0∨k=1∨k=2∨k=3:=by omega
  rcases this with rfl|rfl|rfl|rfl
  . exact f0.1
  . exact f1.1
  . exact f2.1
  . exact f3.1
 have hv:V4 (fun k=>match k with|0=>r0|1=>r1|2=>r2|_=>r3)=(nL A B:Int):=by
  simp only [V4,nL];unfold U64 Bit at *
  rw [hW] at *
  generalize nl A 0=a0 at *
  generalize nl A 1=a1 at *
  generalize nl A 2=a2 at *
  generalize nl A 3=a3 at *
  generalize nl B 0=b0 at *
  generalize nl B 1=b1 at *
  generalize nl B 2=b2 at *
  generalize nl B 3=b3 at *
  have:(r0*2^192+r1*2^128+r2*2^64+r3:Int)=A-B+115792089237316195423570985008687907853269984665640564039457584007913129639936*c0:=by omega
  have hb1:0<=c0/\c0<=1:=f0.2.1;omega
 obtain ⟨h0,h1,h2,h3⟩:=vJ _ hr _ hv;exact ⟨gK h0 h1 h2 h3,hb⟩
theorem bT (x y z:Int) (hx:U64 x) (hy:U64 y) (hz:U64 z) (h:x<z):U64 (dq x y z)/\U64 (dr x y z)/\dr x y z<z/\dq x y z*z+dr x y z=x*18446744073709551616+y:=by
 unfold dq dr U64 at *
 have h0:0<z:=by omega
 have e:=Int.mul_ediv_add_emod (x*18446744073709551616+y) z;have e2:(x*18446744073709551616+y)/z*z=z*((x*18446744073709551616+y)/z):=Int.mul_comm _ _;have r0:=Int.emod_nonneg (x*18446744073709551616+y) (show z≠0 by omega)
 have r1:=Int.emod_lt_of_pos (x*18446744073709551616+y) h0;have q0:=Int.ediv_nonneg (show 0<=x*18446744073709551616+y by omega) (show 0<=z by omega)
 have q1:(x*18446744073709551616+y)/z<18446744073709551616:=by
  apply Int.ediv_lt_of_lt_mul h0;have:(x+1)*18446744073709551616<=z*18446744073709551616:=Int.mul_le_mul_of_nonneg_right (by omega) (by omega)
  omega
 omega
theorem IA (a0 a1 a2 a3 t d:Int) (w:World) (ha0:U64 a0) (ha1:U64 a1) (ha2:U64 a2) (ha3:U64 a3) (ht:U64 t) (hd:U64 d) (h:t<d) :
 Calls Tryz.prog 103 #[.agg #[.int .u64 a0,.int .u64 a1,.int .u64 a2,.int .u64 a3],.int .u64 t,.int .u64 d] w fun e w' =>
  e=.returned (.agg #[.int .u64 (dq t a0 d),.int .u64 (dq (dr t a0 d) a1 d),.int .u64 (dq (dr (dr t a0 d) a1 d) a2 d),.int .u64 (dq (dr (dr (dr t a0 d) a1 d) a2 d) a3 d)])/\Below w.heap.size w w':=by
 have f0:=bT t a0 d ht ha0 hd h;have f1:=bT _ a1 d f0.2.1 ha1 hd f0.2.2.1;have f2:=bT _ a2 d f1.2.1 ha2 hd f1.2.2.1;have f3:=bT _ a3 d f2.2.1 ha3 hd f2.2.2.1;have c0:=fun w=>eU t a0 d w ht ha0 hd h
 have c1:=fun w=>eU _ a1 d w f0.2.1 ha1 hd f0.2.2.1
 have c2:=fun w=>eU _ a2 d w f1.2.1 ha2 hd f1.2.2.1
 have c3:=fun w=>eU _ a3 d w f2.2.1 ha3 hd f2.2.2.1
 clear f0 f1 f2 f3;generalize dq t a0 d=q0 at *
 generalize dr t a0 d=t1 at *
 generalize dq t1 a1 d=q1 at *
 generalize dr t1 a1 d=t2 at *
 generalize dq t2 a2 d=q2 at *
 generalize dr t2 a2 d=t3 at *
 generalize dq t3 a3 d=q3 at *
 generalize dr t3 a3 d=t4 at *
 have C0:=Lib.hid c0;have C1:=Lib.hid c1;have C2:=Lib.hid c2;have C3:=Lib.hid c3;clear c0 c1 c2 c3;go_enter Tryz.func103,Tryz.ntmps103;go_wp2;refine wp_loop_rounds 5 ?_;rw [rounds_succ];go_wp2_with fail;refine (C0.out _).mono ?_;rintro e w' ⟨rfl,n0,rfl⟩;go_wp2;rw [rounds_succ];go_wp2_with fail;refine (C1.out _).mono ?_;rintro e w' ⟨rfl,n1,rfl⟩;go_wp2;rw [rounds_succ];go_wp2_with fail;refine (C2.out _).mono ?_;rintro e w' ⟨rfl,n2,rfl⟩;go_wp2;rw [rounds_succ];go_wp2_with fail;refine (C3.out _).mono ?_;rintro e w' ⟨rfl,n3,rfl⟩;go_wp2;rw [rounds_succ];go_wp2;refine bodyPost_ret (v:=.agg #[.int .u64 q0,.int .u64 q1,.int .u64 q2,.int .u64 q3]) (by simp [results,Tryz.results103,go_sem]) rfl ⟨rfl,?_⟩
 repeat' (first|(with_reducible exact Below.refl _ _)|(with_reducible refine below_drewN ?_ _)|go_grown)
def xc (t A d:Nat):Nat:=(t*W+A)/d
theorem RY (A:Nat) (t d:Int) (hA:A<W) (ht:U64 t) (hd:U64 d) (h:t<d) (w:World) :
 Calls Tryz.prog 103 #[.agg #[.int .u64 (nl A 0),.int .u64 (nl A 1),.int .u64 (nl A 2),.int .u64 (nl A 3)],.int .u64 t,.int .u64 d] w fun e w' =>
  e=.returned (.agg #[.int .u64 (nl (xc t.toNat A d.toNat) 0),.int .u64 (nl (xc t.toNat A d.toNat) 1),.int .u64 (nl (xc t.toNat A d.toNat) 2),.int .u64 (nl (xc t.toNat A d.toNat) 3)])/\Below w.heap.size w w':=by
 refine (IA _ _ _ _ t d w (aD A 0) (aD A 1) (aD A 2) (aD A 3) ht hd h).mono ?_;rintro e w' ⟨rfl,hb⟩;have va:=eX A hA;unfold V4 at va;have f0:=bT t (nl A 0) d ht (aD A 0) hd h;have f1:=bT _ (nl A 1) d f0.2.1 (aD A 1) hd f0.2.2.1;have f2:=bT _ (nl A 2) d f1.2.1 (aD A 2) hd f1.2.2.1;have f3:=bT _ (nl A 3) d f2.2.1 (aD A 3) hd f2.2.2.1;generalize dq t (nl A 0) d=q0 at *
 generalize dr t (nl A 0) d=t1 at *
 generalize dq t1 (nl A 1) d=q1 at *
 generalize dr t1 (nl A 1) d=t2 at *
 generalize dq t2 (nl A 2) d=q2 at *
 generalize dr t2 (nl A 2) d=t3 at *
 generalize dq t3 (nl A 3) d=q3 at *
 generalize dr t3 (nl A 3) d=t4 at *
 have hW:W=115792089237316195423570985008687907853269984665640564039457584007913129639936:=by unfold W;decide +kernel
 have hr:∀ k,k<4->LU ((fun k=>match k with|0=>q0|1=>q1|2=>q2|_=>q3) k):=by
  intro k hk;have:k=0∨k=1∨k=2∨k=3:=by omega
  rcases this with rfl|rfl|rfl|rfl
  . exact f0.1
  . exact f1.1
  . exact f2.1
  . exact f3.1
 have hv:V4 (fun k=>match k with|0=>q0|1=>q1|2=>q2|_=>q3)=(xc t.toNat A d.toNat:Int):=by
  simp only [V4,xc];have hd0:0<d:=by unfold U64 at *;omega
  have e:(((t.toNat*W+A)/d.toNat:Nat):Int)=(t*115792089237316195423570985008687907853269984665640564039457584007913129639936+A)/d:=by
   rw [Int.natCast_ediv,Int.natCast_add,Int.natCast_mul,Int.toNat_of_nonneg ht.1,Int.toNat_of_nonneg hd.1,hW];rfl
  rw [e];have g0:=f0.2.2.2;have g1:=f1.2.2.2;have g2:=f2.2.2.2;have g3:=f3.2.2.2;have hs:(q0*2^192+q1*2^128+q2*2^64+q3)*d=q0*d*2^192+q1*d*2^128+q2*d*2^64+q3*d:=by grind
  have tot:t*115792089237316195423570985008687907853269984665640564039457584007913129639936+A=t4+(q0*2^192+q1*2^128+q2*2^64+q3)*d:=by
   rw [hs];generalize q0*d=p0 at *
   generalize q1*d=p1 at *
   generalize q2*d=p2 at *
   generalize q3*d=p3 at *
   generalize nl A 0=a0 at *
   generalize nl A 1=a1 at *
   generalize nl A 2=a2 at *
   generalize nl A 3=a3 at *
   omega
  rw [tot,Int.add_mul_ediv_right _ _ (by omega),Int.ediv_eq_zero_of_lt f3.2.1.1 f3.2.2.1];omega
 obtain ⟨h0,h1,h2,h3⟩:=vJ _ hr _ hv;exact ⟨gK h0 h1 h2 h3,hb⟩
theorem xU (n:Int) (w:World) (h0:0<=n) (h1:n<=2700000) :
 Calls Tryz.prog 96 #[.int .i64 n] w fun e w'=>e=.returned (.agg #[.int .u64 (nl (bg n.toNat) 0),.int .u64 (nl (bg n.toNat) 1),.int .u64 (nl (bg n.toNat) 2),.int .u64 (nl (bg n.toNat) 3)])/\Below w.heap.size w w':=by
 have hn:U64 n:=by unfold U64;omega
 have m3:=dV 589684135938649225 n (by unfold U64;omega) hn
 have k3:=fun w=>dQ 589684135938649225 n (by unfold U64;omega) hn w
 generalize mh 589684135938649225 n=h3 at *
 generalize ml 589684135938649225 n=l3 at *
 have b3:0<=h3/\h3<=n:=by
  have:=m3.1.1;have:=m3.2.1.1;have:=m3.2.1.2;omega
 have x3:0<=h3:=b3.1;have y3:h3<=2700000:=by omega
 have g3:=bB l3 (0) 0 m3.2.1 (by unfold U64;omega) (by unfold Bit;omega)
 have r3:=aZ l3 (0) 0 m3.2.1 (by unfold U64;omega) (by unfold Bit;omega)
 generalize ad l3 (0) 0=s3 at *
 generalize adc l3 (0) 0=c3 at *
 have z3:0<=c3:=g3.2.1.1;have v3:c3<=1:=g3.2.1.2;have m2:=dV 11820040416388919760 n (by unfold U64;omega) hn
 have k2:=fun w=>dQ 11820040416388919760 n (by unfold U64;omega) hn w
 generalize mh 11820040416388919760 n=h2 at *
 generalize ml 11820040416388919760 n=l2 at *
 have b2:0<=h2/\h2<=n:=by
  have:=m2.1.1;have:=m2.2.1.1;have:=m2.2.1.2;omega
 have x2:0<=h2:=b2.1;have y2:h2<=2700000:=by omega
 have g2:=bB l2 (h3+c3) 0 m2.2.1 (by unfold U64 Bit at *;omega) (by unfold Bit;omega)
 have r2:=aZ l2 (h3+c3) 0 m2.2.1 (by unfold U64 Bit at *;omega) (by unfold Bit;omega)
 generalize ad l2 (h3+c3) 0=s2 at *
 generalize adc l2 (h3+c3) 0=c2 at *
 have z2:0<=c2:=g2.2.1.1;have v2:c2<=1:=g2.2.1.2;have m1:=dV 1376283091369227076 n (by unfold U64;omega) hn
 have k1:=fun w=>dQ 1376283091369227076 n (by unfold U64;omega) hn w
 generalize mh 1376283091369227076 n=h1 at *
 generalize ml 1376283091369227076 n=l1 at *
 have b1:0<=h1/\h1<=n:=by
  have:=m1.1.1;have:=m1.2.1.1;have:=m1.2.1.2;omega
 have x1:0<=h1:=b1.1;have y1:h1<=2700000:=by omega
 have g1:=bB l1 (h2+c2) 0 m1.2.1 (by unfold U64 Bit at *;omega) (by unfold Bit;omega)
 have r1:=aZ l1 (h2+c2) 0 m1.2.1 (by unfold U64 Bit at *;omega) (by unfold Bit;omega)
 generalize ad l1 (h2+c2) 0=s1 at *
 generalize adc l1 (h2+c2) 0=c1 at *
 have z1:0<=c1:=g1.2.1.1;have v1:c1<=1:=g1.2.1.2;have m0:=dV 2611923443488327891 n (by unfold U64;omega) hn
 have k0:=fun w=>dQ 2611923443488327891 n (by unfold U64;omega) hn w
 generalize mh 2611923443488327891 n=hh0 at *
 generalize ml 2611923443488327891 n=l0 at *
 have b0:0<=hh0/\hh0<=n:=by
  have:=m0.1.1;have:=m0.2.1.1;have:=m0.2.1.2;omega
 have x0:0<=hh0:=b0.1;have y0:hh0<=2700000:=by omega
 have g0:=bB l0 (h1+c1) 0 m0.2.1 (by unfold U64 Bit at *;omega) (by unfold Bit;omega)
 have r0:=aZ l0 (h1+c1) 0 m0.2.1 (by unfold U64 Bit at *;omega) (by unfold Bit;omega)
 generalize ad l0 (h1+c1) 0=s0 at *
 generalize adc l0 (h1+c1) 0=c0 at *
 have z0:0<=c0:=g0.2.1.1;have v0:c0<=1:=g0.2.1.2;have hfin:(hh0+c0+3*n)%10800000=hh0+c0+3*n:=by
  have:=m0.2.2.1;have:=m0.2.1.1;omega
 have hq:∃ A:Nat,A<W/\s0=nl A 0/\s1=nl A 1/\s2=nl A 2/\s3=nl A 3/\xc (hh0+c0+3*n).toNat A 10800000=bg n.toNat:=by
  have hW:W=115792089237316195423570985008687907853269984665640564039457584007913129639936:=by unfold W;decide +kernel
  have hPi:PiN=3*115792089237316195423570985008687907853269984665640564039457584007913129639936+16395309179817738009521987751666139093583423331470737840399399094199505546377:=by unfold PiN;decide +kernel
  have e3:=m3.2.2.1;have e2:=m2.2.2.1;have e1:=m1.2.2.1;have e0:=m0.2.2.1;have i3:=g3.2.2;have i2:=g2.2.2;have i1:=g1.2.2;have i0:=g0.2.2;have hr:∀ k,k<4->LU ((fun k=>match k with|0=>s0|1=>s1|2=>s2|_=>s3) k):=by
   intro k hk;have:k=0∨k=1∨k=2∨k=3:=by omega
   rcases this with rfl|rfl|rfl|rfl
   . exact g0.1
   . exact g1.1
   . exact g2.1
   . exact g3.1
  have hb:(s0*2^192+s1*2^128+s2*2^64+s3:Int)=16395309179817738009521987751666139093583423331470737840399399094199505546377*n-115792089237316195423570985008687907853269984665640564039457584007913129639936*(hh0+c0):=by omega
  have q0:=g0.1;have q1:=g1.1;have q2:=g2.1;have q3:=g3.1;have ha:∃ A:Nat,(A:Int)=s0*2^192+s1*2^128+s2*2^64+s3:=⟨(s0*2^192+s1*2^128+s2*2^64+s3).toNat,by unfold U64 at *;omega⟩
  obtain ⟨A,hA⟩:=ha;have hv:V4 (fun k=>match k with|0=>s0|1=>s1|2=>s2|_=>s3)=(A:Int):=by simp only [V4];exact hA.symm
  obtain ⟨j0,j1,j2,j3⟩:=vJ _ hr _ hv;refine ⟨A,by unfold U64 at *;omega,j0,j1,j2,j3,?_⟩
  have hr2:bg n.toNat=n.toNat*PiN/10800000:=by unfold bg;rfl
  rw [hr2];unfold xc
  congr 1
  rw [hPi,hW];omega
 obtain ⟨A,hA,j0,j1,j2,j3,hq⟩:=hq;subst j0 j1 j2 j3;have HQ:=Lib.hid hq;have HA:=Lib.hid hA;clear hq hA;have K3:=Lib.hid k3;have M3:=Lib.hid m3;have G3:=Lib.hid g3;clear k3 m3 g3;have K2:=Lib.hid k2;have M2:=Lib.hid m2;have G2:=Lib.hid g2;clear k2 m2 g2;have K1:=Lib.hid k1;have M1:=Lib.hid m1;have G1:=Lib.hid g1;clear k1 m1 g1;have K0:=Lib.hid k0;have M0:=Lib.hid m0;have G0:=Lib.hid g0;clear k0 m0 g0;go_enter Tryz.func96,Tryz.ntmps96;go_wp2;refine wp_loop_rounds 5 ?_;rw [rounds_succ];go_wp2_with fail;refine (K3.out _).mono ?_;rintro e w' ⟨rfl,rfl⟩;go_wp2;rw [rounds_succ];go_wp2_with fail;refine (K2.out _).mono ?_;rintro e w' ⟨rfl,rfl⟩;go_wp2;rw [rounds_succ];go_wp2_with fail;refine (K1.out _).mono ?_;rintro e w' ⟨rfl,rfl⟩;go_wp2;rw [rounds_succ];go_wp2_with fail;refine (K0.out _).mono ?_;rintro e w' ⟨rfl,rfl⟩;go_wp2;rw [rounds_succ];go_wp2_with fail;refine (RY A _ _ HA.out (by unfold U64;omega) (by unfold U64;omega) (by omega) _).mono ?_
 rintro e w' ⟨rfl,hb⟩;have e1:(10800000:Int).toNat=10800000:=rfl;rw [e1,HQ.out];have hB:Below w.heap.size w w':=by
  refine Below.trans ?_ (hb.mono (by simp;omega))
  go_grown
 have y:∀ k,k<4->w'.cell? ⟨w.heap.size,k,none⟩=some (.int .u64 0)/\w'.frozen? ⟨w.heap.size,k,none⟩=false:=by
  intro k hk;have:k=0∨k=1∨k=2∨k=3:=by omega
  rcases this with rfl|rfl|rfl|rfl<;>refine ⟨(hb.cell (by simp;omega)).trans (by simp [go_sem]),(hb.frozen (by simp;omega)).trans (by simp [go_sem])⟩
 have HB:=Lib.hid hB;clear hb hB;obtain ⟨y0,z0⟩:=y 0 (by omega);obtain ⟨y1,z1⟩:=y 1 (by omega);obtain ⟨y2,z2⟩:=y 2 (by omega);obtain ⟨y3,z3⟩:=y 3 (by omega)
 clear y;go_wp2;refine bodyPost_ret (v:=.agg #[.int .u64 (nl (bg n.toNat) 0),.int .u64 (nl (bg n.toNat) 1),.int .u64 (nl (bg n.toNat) 2),.int .u64 (nl (bg n.toNat) 3)]) (by simp [results,Tryz.results96,go_sem,y0,y1,y2,y3]) rfl ⟨rfl,?_⟩
 have hb:=HB.out;go_grown
end Go.Proofs.YtbcnifkfaknnaaaGreat
namespace Go.Proofs.YtbcnifkfaknnaaaGreat
open Go.RowKit Alm
def fM (w:World) (b A:Nat):Prop:=Row w b 4 (nl A)
theorem fM.cells {w:World} {b A:Nat} (h:fM w b A):w.cell? ⟨b,0,none⟩=some (.int .u64 (nl A 0))/\w.cell? ⟨b,1,none⟩=some (.int .u64 (nl A 1))/\w.cell? ⟨b,2,none⟩=some (.int .u64 (nl A 2))/\w.cell? ⟨b,3,none⟩=some (.int .u64 (nl A 3)) :=
 ⟨(h 0 (by omega)).1,(h 1 (by omega)).1,(h 2 (by omega)).1,(h 3 (by omega)).1⟩
theorem fM.free {w:World} {b A:Nat} (h:fM w b A):w.frozen? ⟨b,0,none⟩=false/\w.frozen? ⟨b,1,none⟩=false/\w.frozen? ⟨b,2,none⟩=false/\w.frozen? ⟨b,3,none⟩=false :=
 ⟨(h 0 (by omega)).2.1,(h 1 (by omega)).2.1,(h 2 (by omega)).2.1,(h 3 (by omega)).2.1⟩
theorem qA (w:World) (T:TypeId):fM (w.alloc (.cells #[.int .u64 0,.int .u64 0,.int .u64 0,.int .u64 0] T)) w.heap.size 0:=by
 intro k hk;have:k=0∨k=1∨k=2∨k=3:=by omega
 rcases this with rfl|rfl|rfl|rfl<;>refine ⟨by simp [go_sem,nl],by simp [go_sem],aD _ _⟩
structure Rm (w0 w1 wr:World) (Y U:Nat):Prop where
 below:Below w0.heap.size w0 wr
 r:fM wr (w0.heap.size+1) 0
 y:fM wr w1.heap.size Y
 u:fM wr (w1.heap.size+1) U
 lt:w1.heap.size+2<=wr.heap.size
 hs:w0.heap.size+2<=w1.heap.size
def RJ (w0 w1:World) (Y odd:Nat) (v:Value) (wr:World):Prop:=∃ k:Nat,v=.int .u64 (k:Int)/\k<=34/\Rm w0 w1 wr Y (bv (34-k) (2*k+odd) Y)
theorem fM.below {w wx:World} {b A B:Nat} (h:fM w b A) (hb:Below B w wx) (hB:b<B):fM wx b A:=Row.below h hb hB
theorem fM.drew {w:World} {b A:Nat} (h:fM w b A):fM w.drew b A:=Row.drew h
theorem wG (w:World) (T:TypeId) (A:Nat):fM (w.alloc (.cells #[.int .u64 (nl A 0),.int .u64 (nl A 1),.int .u64 (nl A 2),.int .u64 (nl A 3)] T)) w.heap.size A:=by
 intro k hk;have:k=0∨k=1∨k=2∨k=3:=by omega
 rcases this with rfl|rfl|rfl|rfl<;>refine ⟨by simp [go_sem],by simp [go_sem],aD _ _⟩
theorem ql (m j Y:Nat) (hY:Y<W):bv m j Y<W:=Nat.lt_of_le_of_lt (jQ m j Y hY) hY
def dx (w:World) (b:Nat) (B:Nat):World:=(((w.setCell ⟨b,0,none⟩ (.int .u64 (nl B 0))).setCell ⟨b,1,none⟩ (.int .u64 (nl B 1))).setCell ⟨b,2,none⟩ (.int .u64 (nl B 2))).setCell ⟨b,3,none⟩ (.int .u64 (nl B 3))
theorem fM.store {w:World} {b A:Nat} (h:fM w b A) (B:Nat):fM (dx w b B) b B:=by
 have:=(((Row.set h (i:=0) (nl B 0) (by omega) (aD _ _)).set (i:=1) (nl B 1) (by omega) (aD _ _)).set (i:=2) (nl B 2) (by omega) (aD _ _)).set (i:=3) (nl B 3) (by omega) (aD _ _)
 intro k hk;have h2:=this k hk;have e:tT (tT (tT (tT (nl A) 0 (nl B 0)) 1 (nl B 1)) 2 (nl B 2)) 3 (nl B 3) k=nl B k:=by
  have:k=0∨k=1∨k=2∨k=3:=by omega
  rcases this with rfl|rfl|rfl|rfl<;>simp [tT]
 rw [e] at h2;exact h2
theorem fM.apart {w:World} {b b' A:Nat} (h:fM w b A) (B:Nat) (hb:b'≠b):fM (dx w b' B) b A :=
 (((Row.other h _ hb).other _ hb).other _ hb).other _ hb
theorem kY {w0 w:World} {N b:Nat} (h:Below N w0 w) (B:Nat) (hb:N<=b):Below N w0 (dx w b B) :=
 (((h.setCell (p:=⟨b,0,none⟩) hb _).setCell (p:=⟨b,1,none⟩) hb _).setCell (p:=⟨b,2,none⟩) hb _).setCell (p:=⟨b,3,none⟩) hb _
theorem nI (w:World) (b B:Nat):(dx w b B).heap.size=w.heap.size:=by simp [dx]
theorem Jj {w w1 wr wq w3 w4:World} {X Y od k D:Nat} (hY:Y<W) (hk:k<=34) (hk0:0<k) (hod:od<=1) (h:Rm w w1 wr Y (bv (34-k) (2*k+od) Y)) (hD:D=(2*k+od-1)*(2*k+od))
 (hq:Below wr.heap.size wr wq) (h3:Below wq.drew.heap.size wq.drew w3) (h4:Below w3.heap.size w3 w4) :
 RJ w w1 Y od (.int .u64 ((k:Int)-1)) (dx w4 (w1.heap.size+1) (nL (Y/D) (mulN (Y/D) (bv (34-k) (2*k+od) Y)))) /\
  (intOf (.int .u64 ((k:Int)-1))).toNat<(intOf (.int .u64 (k:Int))).toNat:=by
 have q1:Y/D<W:=Nat.lt_of_le_of_lt (Nat.div_le_self _ _) hY;have q2:=jQ (34-k) (2*k+od) Y hY;have q3:=iM (Y/D) (bv (34-k) (2*k+od) Y) q1 (by omega)
 have e:nL (Y/D) (mulN (Y/D) (bv (34-k) (2*k+od) Y))=bv (34-(k-1)) (2*(k-1)+od) Y:=by
  rw [ut _ _ q1 q3,show 34-(k-1)=(34-k)+1 by omega]
  have e1:2*(k-1)+od+2=2*k+od:=by omega
  have e2:(2*(k-1)+od+1)*(2*(k-1)+od+2)=D:=by rw [hD,show 2*(k-1)+od+1=2*k+od-1 by omega,e1]
  have e3:∀ m j,bv (m+1) j Y=Y/((j+1)*(j+2))-mulN (Y/((j+1)*(j+2))) (bv m (j+2) Y):=fun m j=>by rw [bv]
  rw [e3,e2,e1]
 rw [e];have s1:=hq.size;have s3:wq.heap.size<=w3.heap.size:=h3.size;have s4:=h4.size;have hl:=h.lt;have hs:=h.hs;have hB:Below (w1.heap.size+2) wr w4:=((hq.mono hl).trans ((Below.refl _ _).drew.trans (h3.mono (by show _<=wq.heap.size;omega)))).trans (h4.mono (by omega))
 refine ⟨⟨k-1,by rw [show ((k-1:Nat):Int)=(k:Int)-1 by omega],by omega,?_,?_,?_,?_,?_,hs⟩,by simp only [intOf];omega⟩
 . exact kY (h.below.trans (hB.mono (by omega))) _ (by omega)
 . exact (h.r.below hB (by omega)).apart _ (by omega)
 . exact (h.y.below hB (by omega)).apart _ (by omega)
 . exact (h.u.below hB (by omega)).store _
 . rw [nI];omega
theorem yY (X Y od:Nat) (w:World) (hX:X<W) (hY:Y<W) (hod:od<=1) (hXY:mulN X X=Y) :
 Calls Tryz.prog 99 #[.agg #[.int .u64 (nl X 0),.int .u64 (nl X 1),.int .u64 (nl X 2),.int .u64 (nl X 3)],.int .u64 (od:Int)] w fun e w' =>
  e=.returned (.agg #[.int .u64 (nl (bv 34 od Y) 0),.int .u64 (nl (bv 34 od Y) 1),.int .u64 (nl (bv 34 od Y) 2),.int .u64 (nl (bv 34 od Y) 3)])/\Below w.heap.size w w':=by
 have HX:=Lib.hid hX;clear hX;have HY:=Lib.hid hY;clear hY;have HXY:=Lib.hid hXY;clear hXY;go_enter Tryz.func99,Tryz.ntmps99;go_wp2_with fail;refine (KM X X HX.out HX.out _).mono ?_;rw [HXY.out];rintro e w1 ⟨rfl,hb1⟩;have h1:Below w.heap.size w w1:=(show Below w.heap.size w _ by go_grown).trans (hb1.mono (by simp;omega))
 have hs:w.heap.size+2<=w1.heap.size:=by have:=hb1.size;simp at this;omega
 have hr:fM w1 (w.heap.size+1) 0:=by
  intro k hk;have:k=0∨k=1∨k=2∨k=3:=by omega
  rcases this with rfl|rfl|rfl|rfl<;>refine ⟨(hb1.cell (by simp)).trans (by simp [go_sem,nl]),(hb1.frozen (by simp)).trans (by simp [go_sem]),aD _ _⟩
 have H1:=Lib.hid h1;have HS:=Lib.hid hs;have HR:=Lib.hid hr;clear h1 hb1 hs hr;go_wp2;go_loopw [7] (fun v wr=>RJ w w1 Y od v wr) (fun v _=>(intOf v).toNat)
 case atStart =>
  refine ⟨34,rfl,by omega,?_,?_,?_,?_,?_,HS.out⟩
  . have:=H1.out;have:=HS.out;go_grown
  . have:=HS.out;exact ((HR.out.below ((Below.refl _ _).alloc (Nat.le_refl _) _) (by omega)).below ((Below.refl _ _).alloc (Nat.le_refl _) _) (by simp;omega))
  . exact (wG _ _ _).below ((Below.refl _ _).alloc (Nat.le_refl _) _) (by simp)
  . have:=qA (w1.alloc (Obj.cells #[.int .u64 (nl Y 0),.int .u64 (nl Y 1),.int .u64 (nl Y 2),.int .u64 (nl Y 3)] 120)) 120
    simpa [bv] using this
  . simp
 case round =>
  obtain ⟨k,rfl,hk,hR⟩:=hrel;have HRR:=Lib.hid hR;clear hR
  by_cases hk0:0<k
  . obtain ⟨q0,q1,q2,q3⟩:=HRR.out.y.cells;have hprod:∃ D:Nat,D=(2*k+od-1)*(2*k+od)/\0<D/\D<=69*69:=⟨_,rfl,Nat.mul_pos (by omega) (by omega),Nat.mul_le_mul (by omega) (by omega)⟩
    obtain ⟨D,hD,hD0,hD1⟩:=hprod;have hDw:IntKind.u64.wrap ((2*(k:Int)-1+(od:Int))*(2*(k:Int)+(od:Int)))=(D:Int):=by
     have e:(2*(k:Int)-1+(od:Int))*(2*(k:Int)+(od:Int))=(D:Int):=by
      rw [hD,Int.natCast_mul];have e2:((2*k+od-1:Nat):Int)=2*(k:Int)-1+od:=by omega
      have e3:((2*k+od:Nat):Int)=2*(k:Int)+od:=by omega
      rw [e2,e3]
     rw [e];exact w64 _ (by unfold U64;omega)
    have HD:=Lib.hid hD;clear hD;go_wp2_with fail;refine (RY Y 0 D HY.out (by unfold U64;omega) (by unfold U64;omega) (by omega) _).mono ?_
    have e1:xc (0:Int).toNat Y (D:Int).toNat=Y/D:=by unfold xc;simp
    rw [e1];rintro e w2 ⟨rfl,hb2⟩;have hq:fM (w2.alloc (Obj.cells #[.int .u64 (nl (Y/D) 0),.int .u64 (nl (Y/D) 1),.int .u64 (nl (Y/D) 2),.int .u64 (nl (Y/D) 3)] 120)) w2.heap.size (Y/D):=wG _ _ _;have hb3:=hb2.alloc hb2.size (Obj.cells #[.int .u64 (nl (Y/D) 0),.int .u64 (nl (Y/D) 1),.int .u64 (nl (Y/D) 2),.int .u64 (nl (Y/D) 3)] 120);have hsz:(w2.alloc (Obj.cells #[.int .u64 (nl (Y/D) 0),.int .u64 (nl (Y/D) 1),.int .u64 (nl (Y/D) 2),.int .u64 (nl (Y/D) 3)] 120)).heap.size=w2.heap.size+1:=by simp
    have hw2:=hb2.size;have hlt:=HRR.out.lt;have HQ:=Lib.hid hq;have HB3:=Lib.hid hb3;have HSZ:=Lib.hid hsz;have HW2:=Lib.hid hw2;have HLT:=Lib.hid hlt;clear hq hb2 hb3 hsz hw2 hlt q0 q1 q2 q3;go_wp2;generalize (w2.alloc (Obj.cells #[.int .u64 (nl (Y/D) 0),.int .u64 (nl (Y/D) 1),.int .u64 (nl (Y/D) 2),.int .u64 (nl (Y/D) 3)] 120))=wq at *
    generalize w2.heap.size=bq at *
    have HU:Hid (fM wq (w1.heap.size+1) (bv (34-k) (2*k+od) Y)):=HRR.out.u.below HB3.out HLT.out;obtain ⟨q0,q1,q2,q3⟩:=HQ.out.cells;obtain ⟨u0,u1,u2,u3⟩:=HU.out.cells;obtain ⟨f0,f1,f2,f3⟩:=HU.out.free;have L1:Hid (Y/D<W):=Nat.lt_of_le_of_lt (Nat.div_le_self _ _) HY.out;have L2:Hid (bv (34-k) (2*k+od) Y<W):=ql _ _ _ HY.out;have L3:Hid (mulN (Y/D) (bv (34-k) (2*k+od) Y)<W):=jJ _ _ L1.out L2.out;have LB:Hid (w1.heap.size+1<wq.heap.size/\bq<wq.heap.size):=by
     have:=HSZ.out;have:=HW2.out;have:=HLT.out;exact ⟨by omega,by omega⟩
    have FIN:Hid (∀ w3 w4:World,Below wq.drew.heap.size wq.drew w3->Below w3.heap.size w3 w4->_):=fun w3 w4 h3 h4=>Jj (X:=X) HY.out hk hk0 hod HRR.out HD.out HB3.out h3 h4
    have hk1:0<(k:Int):=by omega
    have hk2:(k:Int)<=34:=by omega
    clear f0 f1 f2 f3 hDw hD0 hD1 hk0 hk;go_region_with (first
     | (go_at_call 98;refine (KM (Y/D) (bv (34-k) (2*k+od) Y) L1.out L2.out _).mono ?_;clear q0 q1 q2 q3 u0 u1 u2 u3;rintro e w3 ⟨rfl,hb⟩;have HB:=Lib.hid hb;clear hb;obtain ⟨q0,q1,q2,q3⟩:=(HQ.out.drew.below HB.out LB.out.2).cells)
     | (go_at_call 97;refine (MP (Y/D) (mulN (Y/D) (bv (34-k) (2*k+od) Y)) L1.out L3.out _).mono ?_;clear q0 q1 q2 q3;rintro e w4 ⟨rfl,hc⟩;have HC:=Lib.hid hc;clear hc;have HU4:=Lib.hid ((HU.out.drew.below HB.out LB.out.1).below HC.out (Nat.lt_of_lt_of_le LB.out.1 HB.out.size));obtain ⟨f0,f1,f2,f3⟩:=HU4.out.free;obtain ⟨u0,u1,u2,u3⟩:=HU4.out.cells))
    all_goals
     go_wp2;exact FIN.out _ _ HB.out HC.out
  . have hk':k=0:=by omega
    subst hk'
    obtain ⟨q0,q1,q2,q3⟩:=HRR.out.u.cells;obtain ⟨y0,y1,y2,y3⟩:=HRR.out.r.cells;obtain ⟨z0,z1,z2,z3⟩:=HRR.out.r.free;have HB:=Lib.hid HRR.out.below;go_wp2;refine bodyPost_ret (v:=.agg #[.int .u64 (nl (bv 34 od Y) 0),.int .u64 (nl (bv 34 od Y) 1),.int .u64 (nl (bv 34 od Y) 2),.int .u64 (nl (bv 34 od Y) 3)]) (by simp [results,Tryz.results99,go_sem,y0,y1,y2,y3]) rfl ⟨rfl,?_⟩
    have hb:=HB.out;go_grown
end Go.Proofs.YtbcnifkfaknnaaaGreat
namespace Go.Proofs.YtbcnifkfaknnaaaGreat
open Go.RowKit Alm
def mX (n:Nat):Nat:=if 2*n<=5400000 then mV n/2^226 else jG (5400000-n)%W/2^226
theorem Gw (A:Nat) (h:A<W):nl A 0/17179869184=((A/2^226:Nat):Int):=by
 obtain ⟨h0,_,_,_⟩:=jo A;rw [h0];have hW:W=115792089237316195423570985008687907853269984665640564039457584007913129639936:=by unfold W;decide +kernel
 rw [hW] at h;omega
theorem Sy {k:IntKind} {a b:Int} {c:Bool} (h:a=b):Ending.returned (.tuple #[.int k a,.bool c])=.returned (.tuple #[.int k b,.bool c]):=by rw [h]
theorem LD (n:Int) (w:World) (h0:0<n) (h1:2*n<=5400000) (h2:(n==1800000)=false) :
 Calls Tryz.prog 87 #[.int .i64 n] w fun e w'=>e=.returned (.tuple #[.int .i64 ((mV n.toNat/2^226:Nat):Int),.bool false])/\Below w.heap.size w w':=by
 have g0:(n==0)=false:=by simp;omega
 have g1:(n==5400000)=false:=by simp;omega
 have h3:(2*n<=5400000):=h1;go_enter Tryz.func87,Tryz.ntmps87;go_wp2_with fail;refine (xU n _ (by omega) (by omega)).mono ?_
 rintro e w1 ⟨rfl,hb1⟩;have hb2:=hb1.alloc hb1.size (Obj.cells #[.int .u64 (nl (bg n.toNat) 0),.int .u64 (nl (bg n.toNat) 1),.int .u64 (nl (bg n.toNat) 2),.int .u64 (nl (bg n.toNat) 3)] 120);have hx:fM (w1.alloc (Obj.cells #[.int .u64 (nl (bg n.toNat) 0),.int .u64 (nl (bg n.toNat) 1),.int .u64 (nl (bg n.toNat) 2),.int .u64 (nl (bg n.toNat) 3)] 120)) w1.heap.size (bg n.toNat):=wG _ _ _;have hz:=hb1.size;have hsz:(w1.alloc (Obj.cells #[.int .u64 (nl (bg n.toNat) 0),.int .u64 (nl (bg n.toNat) 1),.int .u64 (nl (bg n.toNat) 2),.int .u64 (nl (bg n.toNat) 3)] 120)).heap.size=w1.heap.size+1:=by simp
 have hs0:=qA w 120;have HB2:=Lib.hid hb2;have HX:=Lib.hid hx;have HS0:=Lib.hid hs0;have HZ:=Lib.hid hz;have HSZ:=Lib.hid hsz;clear hb1 hb2 hx hs0 hz hsz;go_wp2;generalize (w1.alloc (Obj.cells #[.int .u64 (nl (bg n.toNat) 0),.int .u64 (nl (bg n.toNat) 1),.int .u64 (nl (bg n.toNat) 2),.int .u64 (nl (bg n.toNat) 3)] 120))=wx at *
 generalize w1.heap.size=bx at *
 have HS:Hid (fM wx w.heap.size 0):=HS0.out.below HB2.out (by simp)
 have HL:Hid (w.heap.size<bx/\bx<wx.heap.size/\w.heap.size<wx.heap.size):=by
  have a:=HZ.out;have b:=HSZ.out;simp at a;exact ⟨by omega,by omega,by omega⟩
 obtain ⟨x0,x1,x2,x3⟩:=HX.out.cells;have hR:bg n.toNat<W:=pV _ (by omega)
 have hY:mulN (bg n.toNat) (bg n.toNat)<W:=jJ _ _ hR hR;have hL1:bv 34 1 (mulN (bg n.toNat) (bg n.toNat))<W:=ql _ _ _ hY;have hM:mulN (bg n.toNat) (bv 34 1 (mulN (bg n.toNat) (bg n.toNat)))<W:=jJ _ _ hR hL1;have hS:mV n.toNat=nL (bg n.toNat) (mulN (bg n.toNat) (bv 34 1 (mulN (bg n.toNat) (bg n.toNat)))):=by
  rw [ut _ _ hR (iM _ _ hR (Nat.le_of_lt hL1))];unfold mV;rfl
 have HR:=Lib.hid hR;have HY:=Lib.hid hY;have HL1:=Lib.hid hL1;have HM:=Lib.hid hM;have HSS:=Lib.hid hS;clear hR hY hL1 hM hS;have hne:w.heap.size≠bx:=by have:=HL.out.1;omega
 generalize hRe:bg n.toNat=R at *
 have HRe:=Lib.hid hRe;clear hRe;have hval:nl (nL R (mulN R (bv 34 1 (mulN R R)))) 0/17179869184=((mV n.toNat/2^226:Nat):Int):=by
  rw [HSS.out];apply Gw;rw [ut _ _ HR.out (iM _ _ HR.out (Nat.le_of_lt HL1.out))];have:=HR.out;omega
 have hvb:(mV n.toNat/2^226:Nat)<2^30:=by
  apply Nat.div_lt_of_lt_mul;have:mV n.toNat<W:=by rw [HSS.out,ut _ _ HR.out (iM _ _ HR.out (Nat.le_of_lt HL1.out))];have:=HR.out;omega
  have hW:W=2^226*2^30:=by unfold W;decide +kernel
  omega
 generalize hve:(mV n.toNat/2^226:Nat)=V at *
 have HVE:=Lib.hid hve;clear hve;have hvb2:(V:Int)<1073741824:=by omega
 clear hvb;go_region_held3 (fun w'=>w'.cell? ⟨bx,0,none⟩=some (.int .u64 (nl (R) 0))/\w'.cell? ⟨bx,1,none⟩=some (.int .u64 (nl (R) 1))/\w'.cell? ⟨bx,2,none⟩=some (.int .u64 (nl (R) 2))/\w'.cell? ⟨bx,3,none⟩=some (.int .u64 (nl (R) 3)))
  (first|go_keep|(refine ⟨?_,?_,?_,?_⟩<;>assumption))
  (first
   | (go_at_call 99;refine (yY R _ 1 _ HR.out HY.out (by omega) rfl).mono ?_;rintro e w2 ⟨rfl,hb⟩;have HA:=Lib.hid hb;clear hb;obtain ⟨x0,x1,x2,x3⟩:=(HX.out.drew.below HA.out HL.out.2.1).cells)
   | (go_at_call 98;refine (KM R _ HR.out HL1.out _).mono ?_;rintro e w3 ⟨rfl,hb⟩;have HB:=Lib.hid hb;clear hb;obtain ⟨x0,x1,x2,x3⟩:=((HX.out.drew.below HA.out HL.out.2.1).below HB.out (Nat.lt_of_lt_of_le HL.out.2.1 HA.out.size)).cells)
   | (go_at_call 97;refine (MP R _ HR.out HM.out _).mono ?_;rintro e w4 ⟨rfl,hb⟩;have HC:=Lib.hid hb;clear hb;obtain ⟨x0,x1,x2,x3⟩:=(((HX.out.drew.below HA.out HL.out.2.1).below HB.out (Nat.lt_of_lt_of_le HL.out.2.1 HA.out.size)).below HC.out (Nat.lt_of_lt_of_le HL.out.2.1 (Nat.le_trans HA.out.size HB.out.size))).cells;have HS4:=Lib.hid (((HS.out.drew.below HA.out HL.out.2.2).below HB.out (Nat.lt_of_lt_of_le HL.out.2.2 HA.out.size)).below HC.out (Nat.lt_of_lt_of_le HL.out.2.2 (Nat.le_trans HA.out.size HB.out.size)));obtain ⟨z0,z1,z2,z3⟩:=HS4.out.cells;obtain ⟨f0,f1,f2,f3⟩:=HS4.out.free))
 go_wp2;go_ret2;refine ⟨Sy (by rw [HVE.out]),?_⟩
 have hA:=HA.out;have hB:=HB.out;have hC:=HC.out;have h2:=HB2.out;have hl:=HL.out;have e1:=hA.size;have e2:=hB.size;have e3:=hC.size;have hxz:wx.drew.heap.size=wx.heap.size:=rfl;have k:Below w.heap.size w w4:=by
  refine Below.trans ?_ (hC.mono (by omega))
  refine Below.trans ?_ (hB.mono (by omega))
  refine Below.trans ?_ (hA.mono (by omega))
  refine Below.drew ?_;exact ((Below.refl _ _).alloc (Nat.le_refl _) _).trans (h2.mono (by simp))
 go_grown
theorem Mf (m:Nat) (L:Nat) (hL:L=bv 34 0 (mulN (bg m) (bg m))) (hlt:L<W):nL 0 L=jG m%W:=by
 unfold nL;have e:jG m=W-L:=by subst hL;unfold jG;rfl
 rw [e,Nat.zero_add]
theorem Io (n:Int) (w:World) (h0:5400000<2*n) (h1:n<5400000) :
 Calls Tryz.prog 87 #[.int .i64 n] w fun e w'=>e=.returned (.tuple #[.int .i64 ((jG (5400000-n).toNat%W/2^226:Nat):Int),.bool false])/\Below w.heap.size w w':=by
 have g0:(n==0)=false:=by simp;omega
 have g1:(n==5400000)=false:=by simp;omega
 have g2:(n==1800000)=false:=by simp;omega
 have h3:¬ (2*n<=5400000):=by omega
 have hR:bg (5400000-n).toNat<W:=pV _ (by omega)
 have hY:mulN (bg (5400000-n).toNat) (bg (5400000-n).toNat)<W:=jJ _ _ hR hR;have hL1:bv 34 0 (mulN (bg (5400000-n).toNat) (bg (5400000-n).toNat))<W:=ql _ _ _ hY;have hc:=Mf (5400000-n).toNat _ rfl hL1;have hlt:jG (5400000-n).toNat%W<W:=Nat.mod_lt _ BR;have hval:=Gw (jG (5400000-n).toNat%W) hlt;rw [<-hc] at hval;have hvb:((jG (5400000-n).toNat%W/2^226:Nat):Int)<1073741824:=by
  have:jG (5400000-n).toNat%W/2^226<2^30:=by
   apply Nat.div_lt_of_lt_mul;have hW:W=2^226*2^30:=by unfold W;decide +kernel
   omega
  omega
 rw [<-hc] at hvb ⊢
 have CR:=Lib.hid (fun w=>xU (5400000-n) w (by omega) (by omega))
 generalize bg (5400000-n).toNat=R at *
 have CL:=Lib.hid (fun w=>yY R _ 0 w hR hY (by omega) rfl)
 generalize bv 34 0 (mulN R R)=L at *
 have cs:=fun w=>MP 0 L BR hL1 w
 have hn0:∀ k,nl 0 k=0:=by intro k;simp [nl]
 simp only [hn0] at cs;have CS:=Lib.hid cs;clear cs hn0;generalize nL 0 L=S at *
 generalize (S/2^226:Nat)=V at *
 clear hR hY hL1 hc hlt;go_enter Tryz.func87,Tryz.ntmps87;go_wp2_with fail;refine (CR.out _).mono ?_;rintro e w1 ⟨rfl,hb1⟩;have H1:=Lib.hid hb1;clear hb1;go_wp2_with fail;refine (CL.out _).mono ?_;rintro e w2 ⟨rfl,hb1⟩;have H2:=Lib.hid hb1;clear hb1;go_wp2_with fail;refine (CS.out _).mono ?_;rintro e w3 ⟨rfl,hb1⟩;have H3:=Lib.hid hb1;clear hb1;have hs1:=H1.out.size;have hs2:=H2.out.size;simp at hs1;have HS0:=Lib.hid (qA w 120);have HS3:=Lib.hid (((HS0.out.below H1.out (by simp)).below H2.out (by omega)).below H3.out (by omega))
 have HSZ:=Lib.hid (And.intro hs1 hs2);clear hs1 hs2;obtain ⟨z0,z1,z2,z3⟩:=HS3.out.cells;obtain ⟨f0,f1,f2,f3⟩:=HS3.out.free;go_wp2;go_ret2;refine ⟨rfl,?_⟩;have hA:=H1.out;have hB:=H2.out;have hC:=H3.out;have hz:=HSZ.out;have k:Below w.heap.size w w3:=by
  refine Below.trans ?_ (hC.mono (by omega))
  refine Below.trans ?_ (hB.mono (by omega))
  refine Below.trans ?_ (hA.mono (by simp))
  exact (Below.refl _ _).alloc (Nat.le_refl _) _
 go_grown
def fq (n:Int):Int:=if n=0 then 0 else if n=1800000 then 536870912 else if n=5400000 then 1073741824 else (mX n.toNat:Int)
def gu (n:Int):Bool:=n==0 || n==1800000 || n==5400000
theorem TV (n:Int) (w:World) (h0:0<=n) (h1:n<=5400000) :
 Calls Tryz.prog 87 #[.int .i64 n] w fun e w'=>e=.returned (.tuple #[.int .i64 (fq n),.bool (gu n)])/\Below w.heap.size w w':=by
 by_cases a0:n=0
 . subst a0;have e1:fq 0=0:=rfl;have e2:gu 0=true:=rfl;rw [e1,e2];go_enter Tryz.func87,Tryz.ntmps87;go_wp2;go_ret2;exact ⟨rfl,Below.refl _ _⟩
 by_cases a1:n=1800000
 . subst a1;have e1:fq 1800000=536870912:=rfl;have e2:gu 1800000=true:=rfl;rw [e1,e2];go_enter Tryz.func87,Tryz.ntmps87;go_wp2;go_ret2;exact ⟨rfl,Below.refl _ _⟩
 by_cases a2:n=5400000
 . subst a2;have e1:fq 5400000=1073741824:=rfl;have e2:gu 5400000=true:=rfl;rw [e1,e2];go_enter Tryz.func87,Tryz.ntmps87;go_wp2;go_ret2;exact ⟨rfl,Below.refl _ _⟩
 have e2:gu n=false:=by unfold gu;simp [a0,a1,a2]
 have e1:fq n=(mX n.toNat:Int):=by unfold fq;rw [if_neg a0,if_neg a1,if_neg a2]
 rw [e1,e2]
 by_cases hl:2*n<=5400000
 . have e3:mX n.toNat=mV n.toNat/2^226:=by unfold mX;rw [if_pos (by omega)]
   rw [e3];exact LD n w (by omega) hl (by simpa using a1)
 . have e3:mX n.toNat=jG (5400000-n).toNat%W/2^226:=by
    unfold mX;rw [if_neg (by omega)]
    rw [show 5400000-n.toNat=(5400000-n).toNat by omega]
   rw [e3];exact Io n w (by omega) (by omega)
end Go.Proofs.YtbcnifkfaknnaaaGreat
namespace Go.Proofs.YtbcnifkfaknnaaaGreat
open Go.RowKit Alm
def I64 (n:Int):Prop:=-9223372036854775808<=n/\n<=9223372036854775807
def aj (n:Int):Int:=n%21600000
theorem BG (n:Int) (w:World) (h:I64 n) :
 Calls Tryz.prog 86 #[.int .i64 n] w fun e w'=>e=.returned (.int .i64 (aj n))/\w=w':=by
 obtain ⟨h1,h2⟩:=h;have k:n.tmod 21600000<0->wrap64 (n.tmod 21600000+21600000)=aj n:=by
  intro h;unfold aj wrap64;rw [Int.tmod_eq_emod] at *;split at h<;>split<;>omega
 have k2:0<=n.tmod 21600000->n.tmod 21600000=aj n:=by
  intro h;unfold aj;rw [Int.tmod_eq_emod] at *;split at h<;>split<;>omega
 have K:=Lib.hid k;have K2:=Lib.hid k2;clear k k2;go_enter Tryz.func86,Tryz.ntmps86;go_wp2
 . go_ret;exact ⟨oQ (K.out (by assumption)),rfl⟩
 . go_ret;exact ⟨oQ (K2.out (by assumption)),rfl⟩
def aI (n:Int):Int :=
 let m:=aj n
 let m:=if 10800000<m then m-10800000 else m
 if 5400000<m then 10800000-m else m
def bu (n:Int):Bool:=decide (10800000<aj n)
def bLo (n:Int):Int:=if bu n then -(fq (aI n)+if gu (aI n) then 0 else 1) else fq (aI n)
def bHi (n:Int):Int:=if bu n then -(fq (aI n)) else fq (aI n)+if gu (aI n) then 0 else 1
theorem ic (n:Int):0<=aI n/\aI n<=5400000:=by
 unfold aI aj;simp only [];split<;>split<;>omega
theorem Lu (n:Nat) (h:n<5400000):mX n<1073741824:=by
 have hW:W=2^226*2^30:=by unfold W;decide +kernel
 unfold mX;split
 . apply Nat.div_lt_of_lt_mul;have hR:=pV n (by omega)
   have hY:=jJ _ _ hR hR;have hL:=ql 34 1 _ hY;have:=iM _ _ hR (Nat.le_of_lt hL);have:mV n<=bg n:=by unfold mV;omega
   omega
 . apply Nat.div_lt_of_lt_mul;have:=Nat.mod_lt (jG (5400000-n)) BR;omega
theorem Hl (n:Int) (h0:0<=n) (h1:n<=5400000):0<=fq n/\fq n<=1073741824/\(gu n=false->fq n<1073741824):=by
 unfold fq gu;split
 . simp
 . split
   . subst n;simp
   . split
     . subst n;simp
     . have:=Lu n.toNat (by omega)
       refine ⟨by omega,by omega,fun _=>by omega⟩
theorem jA (n:Int):-1073741824<=bLo n/\bLo n<=bHi n/\bHi n<=1073741824/\bHi n<=bLo n+1:=by
 obtain ⟨h0,h1⟩:=ic n;obtain ⟨a,b,c⟩:=Hl _ h0 h1;unfold bLo bHi;cases hE:gu (aI n)
 . have:=c hE;split<;>simp<;>omega
 . split<;>simp<;>omega
theorem BZ (n:Int) (w:World) (h:I64 n) :
 Calls Tryz.prog 71 #[.int .i64 n] w fun e w'=>e=.returned (.tuple #[.int .i64 (bLo n),.int .i64 (bHi n)])/\Below w.heap.size w w':=by
 obtain ⟨f0,f1⟩:=ic n;obtain ⟨a,b,c⟩:=Hl _ f0 f1;have CS:=Lib.hid (fun w=>TV (aI n) w f0 f1)
 have CT:=Lib.hid (BG n w h);have hS:bu n=decide (10800000<aj n):=rfl;have hT:0<=aj n/\aj n<21600000:=by unfold aj;omega
 have hF:aI n=if 5400000<(if 10800000<aj n then aj n-10800000 else aj n) then 10800000-(if 10800000<aj n then aj n-10800000 else aj n) else (if 10800000<aj n then aj n-10800000 else aj n):=rfl
 have hlo:bLo n=if bu n then -(fq (aI n)+if gu (aI n) then 0 else 1) else fq (aI n):=rfl
 have hhi:bHi n=if bu n then -(fq (aI n)) else fq (aI n)+if gu (aI n) then 0 else 1:=rfl
 rw [hlo,hhi,hS];clear hlo hhi hS f0 f1 c;generalize aI n=q at *
 generalize fq q=v at *
 obtain ⟨hT0,hT1⟩:=hT;generalize aj n=t at *
 by_cases h1:10800000<t
 . simp only [h1,if_true,decide_true] at hF ⊢
   by_cases h2:5400000<t-10800000
   . rw [if_pos h2] at hF;have HF:=Lib.hid hF;clear hF;cases hE:gu q
     all_goals
      rw [hE] at CS;have HE:=Lib.hid hE;clear hE;go_enter Tryz.func71,Tryz.ntmps71;go_wp2_with fail;refine CT.out.mono ?_;rintro e w' ⟨rfl,rfl⟩;go_wp2_with fail;rw [<-HF.out];refine (CS.out _).mono ?_;rintro e w1 ⟨rfl,hb⟩;have HB:=Lib.hid hb;clear hb;go_wp2;go_ret2;exact ⟨by first|rfl|(simp;done)|(simp;omega),HB.out⟩
   . rw [if_neg h2] at hF;have HF:=Lib.hid hF;clear hF;cases hE:gu q
     all_goals
      rw [hE] at CS;have HE:=Lib.hid hE;clear hE;go_enter Tryz.func71,Tryz.ntmps71;go_wp2_with fail;refine CT.out.mono ?_;rintro e w' ⟨rfl,rfl⟩;go_wp2_with fail;rw [<-HF.out];refine (CS.out _).mono ?_;rintro e w1 ⟨rfl,hb⟩;have HB:=Lib.hid hb;clear hb;go_wp2;go_ret2;exact ⟨by first|rfl|(simp;done)|(simp;omega),HB.out⟩
 . simp only [h1,if_false,decide_false] at hF ⊢
   by_cases h2:5400000<t
   . rw [if_pos h2] at hF;have HF:=Lib.hid hF;clear hF;cases hE:gu q
     all_goals
      rw [hE] at CS;have HE:=Lib.hid hE;clear hE;go_enter Tryz.func71,Tryz.ntmps71;go_wp2_with fail;refine CT.out.mono ?_;rintro e w' ⟨rfl,rfl⟩;go_wp2_with fail;rw [<-HF.out];refine (CS.out _).mono ?_;rintro e w1 ⟨rfl,hb⟩;have HB:=Lib.hid hb;clear hb;go_wp2;go_ret2;exact ⟨by first|rfl|(simp;done)|(simp;omega),HB.out⟩
   . rw [if_neg h2] at hF;subst hF;cases hE:gu q
     all_goals
      rw [hE] at CS;have HE:=Lib.hid hE;clear hE;go_enter Tryz.func71,Tryz.ntmps71;go_wp2_with fail;refine CT.out.mono ?_;rintro e w' ⟨rfl,rfl⟩;go_wp2_with fail;refine (CS.out _).mono ?_;rintro e w1 ⟨rfl,hb⟩;have HB:=Lib.hid hb;clear hb;go_wp2;go_ret2;exact ⟨by first|rfl|(simp;done)|(simp;omega),HB.out⟩
theorem oo {a b:Bool} (h:a=b):Ending.returned (.bool a)=.returned (.bool b):=by rw [h]
theorem Ya {k k':IntKind} {a b c d:Int} (h:a=b) (h':c=d):Ending.returned (.agg #[.int k a,.int k' c])=.returned (.agg #[.int k b,.int k' d]):=by rw [h,h']
def kL (lo hi:Int):Bool:=decide (-1099511627776<=lo/\lo<=hi/\hi<=1099511627776)
theorem uW (lo hi:Int):kL lo hi=true↔-1099511627776<=lo/\lo<=hi/\hi<=1099511627776:=by unfold kL;simp
theorem FZ (lo hi:Int) (w:World) :
 Calls Tryz.prog 45 #[.agg #[.int .i64 lo,.int .i64 hi]] w fun e w'=>e=.returned (.bool (kL lo hi))/\Below w.heap.size w w':=by
 go_enter Tryz.func45,Tryz.ntmps45;go_wp2
 all_goals
  go_ret;exact ⟨oo (by unfold kL;rw [Bool.eq_iff_iff];simp<;>omega),by go_grown⟩
def bK (lo hi n:Int):Bool:=decide (aj (n-lo)<=hi-lo)
theorem FT (lo hi n:Int) (w:World) (h1:I64 (n-lo)) (h2:I64 (hi-lo)) :
 Calls Tryz.prog 72 #[.agg #[.int .i64 lo,.int .i64 hi],.int .i64 n] w fun e w'=>e=.returned (.bool (bK lo hi n))/\Below w.heap.size w w':=by
 have CT:=Lib.hid (fun w=>BG (n-lo) w h1)
 obtain ⟨a1,a2⟩:=h1;obtain ⟨b1,b2⟩:=h2;go_enter Tryz.func72,Tryz.ntmps72;go_wp2;go_quiet ((go_at_call 86;exact Calls.quiet_of_same (A7 (CT.out _))));go_wp2;go_ret;exact ⟨oo rfl,below_drewN (by go_grown) _⟩
theorem J3 (lo hi:Int) (w:World) (h1:I64 (lo+5400000)) (h2:I64 (hi+5400000)) :
 Calls Tryz.prog 47 #[.agg #[.int .i64 lo,.int .i64 hi]] w fun e w'=>e=.returned (.agg #[.int .i64 (lo+5400000),.int .i64 (hi+5400000)])/\Below w.heap.size w w':=by
 obtain ⟨a1,a2⟩:=h1;obtain ⟨b1,b2⟩:=h2;go_enter Tryz.func47,Tryz.ntmps47;go_wp2;refine bodyPost_ret (v:=.agg #[.int .i64 (lo+5400000),.int .i64 (hi+5400000)]) (by simp [results,Tryz.results47,go_sem]) rfl ⟨rfl,by go_grown⟩
def dF (lo hi:Int):Int:=if bK lo hi 16200000 then -1073741824 else min (bLo lo) (bLo hi)
def dH (lo hi:Int):Int:=if bK lo hi 5400000 then 1073741824 else max (bHi lo) (bHi hi)
def YP (lo hi:Int):Prop:=-1100000000000<=lo/\lo<=hi/\hi<=1100000000000
theorem rU (lo hi:Int) (w:World) (h:YP lo hi) :
 Calls Tryz.prog 46 #[.agg #[.int .i64 lo,.int .i64 hi]] w fun e w'=>e=.returned (.agg #[.int .i64 (dF lo hi),.int .i64 (dH lo hi)])/\Below w.heap.size w w':=by
 obtain ⟨h1,h2,h3⟩:=h;have C1:=Lib.hid (fun w=>BZ lo w ⟨by omega,by omega⟩)
 have C2:=Lib.hid (fun w=>BZ hi w ⟨by omega,by omega⟩)
 have C3:=Lib.hid (fun w=>FT lo hi 5400000 w ⟨by omega,by omega⟩ ⟨by omega,by omega⟩)
 have C4:=Lib.hid (fun w=>FT lo hi 16200000 w ⟨by omega,by omega⟩ ⟨by omega,by omega⟩)
 have e1:dF lo hi=if bK lo hi 16200000 then -1073741824 else min (bLo lo) (bLo hi):=rfl
 have e2:dH lo hi=if bK lo hi 5400000 then 1073741824 else max (bHi lo) (bHi hi):=rfl
 rw [e1,e2];clear e1 e2;generalize bLo lo=b1 at *
 generalize bHi lo=b2 at *
 generalize bLo hi=b3 at *
 generalize bHi hi=b4 at *
 generalize bK lo hi 5400000=m1 at *
 generalize bK lo hi 16200000=m2 at *
 have PA:=Lib.hid (dO w (.int .i64 lo) (.int .i64 hi) 27);have PR:=Lib.hid (dO (w.alloc (.cells #[.int .i64 lo,.int .i64 hi] 27)) (.int .i64 0) (.int .i64 0) 46);go_enter Tryz.func46,Tryz.ntmps46;go_wp2_with fail;refine (C1.out _).mono ?_;rintro e w1 ⟨rfl,hb1⟩;have H1:=Lib.hid hb1;clear hb1;have S1:=Lib.hid (show w.heap.size+1<w1.heap.size by have:=H1.out.size;simp at this;omega)
 have PA1:=Lib.hid ((PA.out.alloc (by simp) _).below H1.out (by simp;omega))
 have PR1:=Lib.hid (PR.out.below H1.out (by simp))
 obtain ⟨p0,p1,_,_⟩:=PA1.out;go_wp2_with fail;refine (C2.out _).mono ?_;rintro e w2 ⟨rfl,hb1⟩;have H2:=Lib.hid hb1;clear hb1 p0 p1;have S2:=Lib.hid (show w.heap.size+1<w2.heap.size by have:=H2.out.size;have:=S1.out;omega)
 have PA2:=Lib.hid (PA1.out.below H2.out (by have:=S1.out;omega))
 have PR2:=Lib.hid (PR1.out.below H2.out (by have:=S1.out;simp;omega))
 obtain ⟨p0,p1,_,_⟩:=PA2.out;have HB2:Hid (Below w.heap.size w w2):=by
  have:=S1.out;have:=S2.out;exact ((((Below.refl _ _).alloc (Nat.le_refl _) _).alloc (by simp) _).trans (H1.out.mono (by simp;omega))).trans (H2.out.mono (by omega))
 clear H1 H2 PA PR PA1 PR1 S1 C1 C2;go_wp2_with fail
 all_goals
  refine (C3.out _).mono ?_;rintro e w3 ⟨rfl,hb1⟩;have H3:=Lib.hid hb1;clear hb1 p0 p1;have S3:=Lib.hid (show w.heap.size+1<w3.heap.size by have:=H3.out.size;have:=S2.out;omega)
  have PA3:=Lib.hid (PA2.out.below H3.out (by have:=S2.out;omega))
  have PR3:=Lib.hid (PR2.out.below H3.out (by have:=S2.out;simp;omega))
  obtain ⟨p0,p1,_,_⟩:=PA3.out;have HB:Hid (Below w.heap.size w w3):=HB2.out.trans (H3.out.mono (by have:=S2.out;omega))
  clear PA2 PR2 HB2 S2 H3 C3;cases m1
 all_goals
  go_wp2_with fail;refine (C4.out _).mono ?_;rintro e w4 ⟨rfl,hb1⟩;have H4:=Lib.hid hb1;clear hb1 p0 p1;have PR4:=Lib.hid (PR3.out.below H4.out (by have:=S3.out;simp;omega))
  obtain ⟨r0,r1,g0,g1⟩:=PR4.out;simp only [World.size_alloc] at r0 r1 g0 g1;have HB4:Hid (Below w.heap.size w w4):=HB.out.trans (H4.out.mono (by have:=S3.out;omega))
  clear HB H4 PR3 PA3 S3 C4 PR4;cases m2
 all_goals
  go_wp2;refine bodyPost_ret (by simp [results,Tryz.results46,go_sem,r0,r1];try rfl) rfl ?_
  refine ⟨Ya ?_ ?_,by have:=HB4.out;go_grown⟩
  . first|rfl|(simp;done)|(simp;omega)|omega
  . first|rfl|(simp;done)|(simp;omega)|omega
end Go.Proofs.YtbcnifkfaknnaaaGreat
namespace Go.Proofs.YtbcnifkfaknnaaaGreat
open Go.RowKit Alm
theorem W9 (lo hi:Int) (w:World) (h:kL lo hi=true) :
 Calls Tryz.prog 24 #[.agg #[.int .i64 lo,.int .i64 hi]] w fun e w'=>e=.returned (.tuple #[.agg #[.int .i64 (dF lo hi),.int .i64 (dH lo hi)],.int .i64 0])/\Below w.heap.size w w':=by
 have hv:=(uW lo hi).1 h;have CV:=Lib.hid (fun w=>FZ lo hi w)
 rw [h] at CV;have CE:=Lib.hid (fun w=>rU lo hi w ⟨by omega,by omega,by omega⟩)
 generalize dF lo hi=x at *
 generalize dH lo hi=y at *
 clear h hv;have PA:=Lib.hid (dO w (.int .i64 lo) (.int .i64 hi) 27);have PR:=Lib.hid (dO (w.alloc (.cells #[.int .i64 lo,.int .i64 hi] 27)) (.int .i64 0) (.int .i64 0) 46);go_enter Tryz.func24,Tryz.ntmps24;go_wp2_with fail;refine (CV.out _).mono ?_;rintro e w1 ⟨rfl,hb1⟩;have H1:=Lib.hid hb1;clear hb1;have S1:=Lib.hid (show w.heap.size+1<w1.heap.size by have:=H1.out.size;simp at this;omega)
 have PA1:=Lib.hid ((PA.out.alloc (by simp) _).below H1.out (by simp;omega))
 have PR1:=Lib.hid (PR.out.below H1.out (by simp))
 obtain ⟨p0,p1,_,_⟩:=PA1.out;have HB1:Hid (Below w.heap.size w w1):=(((Below.refl _ _).alloc (Nat.le_refl _) _).alloc (by simp) _).trans (H1.out.mono (by simp;omega))
 clear H1 PA PR;go_wp2_with fail;refine (CE.out _).mono ?_;rintro e w2 ⟨rfl,hb1⟩;have H2:=Lib.hid hb1;clear hb1 p0 p1;have PR2:=Lib.hid (PR1.out.below H2.out (by have:=S1.out;simp;omega))
 obtain ⟨r0,r1,g0,g1⟩:=PR2.out;simp only [World.size_alloc] at r0 r1 g0 g1;have HB2:Hid (Below w.heap.size w w2):=HB1.out.trans (H2.out.mono (by have:=S1.out;omega))
 go_wp2;refine bodyPost_ret (v:=.tuple #[.agg #[.int .i64 x,.int .i64 y],.int .i64 0]) (by simp [results,Tryz.results24,go_sem,r0,r1]) rfl ⟨rfl,by have:=HB2.out;go_grown⟩
theorem Ym (lo hi:Int) (w:World) (h:kL lo hi=true) :
 Calls Tryz.prog 25 #[.agg #[.int .i64 lo,.int .i64 hi]] w fun e w'=>e=.returned (.tuple #[.agg #[.int .i64 (dF (lo+5400000) (hi+5400000)),.int .i64 (dH (lo+5400000) (hi+5400000))],.int .i64 0])/\Below w.heap.size w w':=by
 have hv:=(uW lo hi).1 h;have CV:=Lib.hid (fun w=>FZ lo hi w)
 rw [h] at CV;have CE:=Lib.hid (fun w=>rU (lo+5400000) (hi+5400000) w ⟨by omega,by omega,by omega⟩)
 have CF:=Lib.hid (fun w=>J3 lo hi w ⟨by omega,by omega⟩ ⟨by omega,by omega⟩)
 generalize dF (lo+5400000) (hi+5400000)=x at *
 generalize dH (lo+5400000) (hi+5400000)=y at *
 clear h hv;have PA:=Lib.hid (dO w (.int .i64 lo) (.int .i64 hi) 27);have PR:=Lib.hid (dO (w.alloc (.cells #[.int .i64 lo,.int .i64 hi] 27)) (.int .i64 0) (.int .i64 0) 46);go_enter Tryz.func25,Tryz.ntmps25;go_wp2_with fail;refine (CV.out _).mono ?_;rintro e w1 ⟨rfl,hb1⟩;have H1:=Lib.hid hb1;clear hb1;have S1:=Lib.hid (show w.heap.size+1<w1.heap.size by have:=H1.out.size;simp at this;omega)
 have PA1:=Lib.hid ((PA.out.alloc (by simp) _).below H1.out (by simp;omega))
 have PR1:=Lib.hid (PR.out.below H1.out (by simp))
 obtain ⟨p0,p1,_,_⟩:=PA1.out;have HB1:Hid (Below w.heap.size w w1):=(((Below.refl _ _).alloc (Nat.le_refl _) _).alloc (by simp) _).trans (H1.out.mono (by simp;omega))
 clear H1 PA PR;go_wp2_with fail;refine (CF.out _).mono ?_;rintro e w1' ⟨rfl,hb1⟩;have H1:=Lib.hid hb1;clear hb1 p0 p1;have PR1':=Lib.hid (PR1.out.below H1.out (by have:=S1.out;simp;omega))
 have HB1':Hid (Below w.heap.size w w1'):=HB1.out.trans (H1.out.mono (by have:=S1.out;omega))
 have S1':=Lib.hid (show w.heap.size+1<w1'.heap.size by have:=H1.out.size;have:=S1.out;omega)
 clear HB1 PR1 S1 H1 PA1;go_wp2_with fail;refine (CE.out _).mono ?_;rintro e w2 ⟨rfl,hb1⟩;have H2:=Lib.hid hb1;clear hb1;have PR2:=Lib.hid (PR1'.out.below H2.out (by have:=S1'.out;simp;omega))
 obtain ⟨r0,r1,g0,g1⟩:=PR2.out;simp only [World.size_alloc] at r0 r1 g0 g1;have HB2:Hid (Below w.heap.size w w2):=HB1'.out.trans (H2.out.mono (by have:=S1'.out;omega))
 go_wp2;refine bodyPost_ret (v:=.tuple #[.agg #[.int .i64 x,.int .i64 y],.int .i64 0]) (by simp [results,Tryz.results25,go_sem,r0,r1]) rfl ⟨rfl,by have:=HB2.out;go_grown⟩
def Sb (n v:Int):Int:=if bHi n<=v/\bLo n<v then -1 else if v<=bLo n/\v<bHi n then 1 else if v=bLo n then 0 else if v<bLo n then 1 else -1
