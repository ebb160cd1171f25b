/- The contracts of the reference of package fixed: least, most, floor. -/
import Derived.Test.YtoniodlcogpdbaaGreatZWides
import Derived.Test.YtoniodlcogpdbaaGreatZKp
import Derived.Deep.Light
import Derived.BigRegion
set_option linter.unusedVariables false
set_option linter.unusedSimpArgs false
set_option maxRecDepth 100000
set_option maxHeartbeats 4000000
namespace Go.Proofs.YtoniodlcogpdbaaGreat
open Go.RowKit Alm
theorem AJ (P y B:Int) (hy:0<y) (h1:-B<=P) (h2:P<=B):-B<=P/y/\P/y<=B:=by
 have m:=Int.mul_le_mul_of_nonneg_left (show 1<=y by omega) (show 0<=B by omega)
 have e:-B*y=-(B*y):=Int.neg_mul _ _;exact ⟨Int.le_ediv_of_mul_le hy (by omega),Int.ediv_le_of_le_mul hy (by omega)⟩
theorem UM (a b:Int) (w:World) :
 Calls Tryz.prog 74 #[.int .i64 a,.int .i64 b] w fun e w'=>e=.returned (.int .i64 (min a b))/\w=w':=by
 go_enter Tryz.func74,Tryz.ntmps74;go_wp2
 all_goals
  go_ret;exact ⟨cu (by go_light;omega),rfl⟩
theorem YG (a b:Int) (w:World) :
 Calls Tryz.prog 75 #[.int .i64 a,.int .i64 b] w fun e w'=>e=.returned (.int .i64 (max a b))/\w=w':=by
 go_enter Tryz.func75,Tryz.ntmps75;go_wp2
 all_goals
  go_ret;exact ⟨cu (by go_light;omega),rfl⟩
theorem G5 (a b:Int) (hb:0<b):(a.tmod b<0->a.tdiv b-1=a/b)/\(0<=a.tmod b->a.tdiv b=a/b):=by
 have h1:=Int.mul_tdiv_add_tmod a b;have h2:=Int.tmod_lt_of_pos a hb
 have h3:-b<a.tmod b:=by
  by_cases ha:0<=a
  . have:=Int.tmod_nonneg b ha;omega
  . have h:=Int.neg_tmod (-a) b;rw [Int.neg_neg] at h;have:=Int.tmod_lt_of_pos (-a) hb;omega
 constructor
 . intro h;have e:a=b*(a.tdiv b-1)+(a.tmod b+b):=by grind
   have:=jA b (a.tdiv b-1) (a.tmod b+b) hb (by omega) (by omega)
   rw [<-e] at this;omega
 . intro h;have:=jA b (a.tdiv b) (a.tmod b) hb h h2;rw [h1] at this;omega
theorem Ck (a b:Int) (hb:0<b) (M:Int) (h1:-M<=a) (h2:a<=M):-M<=a.tdiv b/\a.tdiv b<=M:=by
 have hM:0<=M:=by omega
 have h:(a.tdiv b).natAbs=a.natAbs/b.natAbs:=Int.natAbs_tdiv a b;have h3:a.natAbs/b.natAbs<=a.natAbs:=Nat.div_le_self _ _;generalize a.natAbs/b.natAbs=q at *
 omega
theorem nR (a b:Int) (w:World) (h1:-4611686018427387904<=a) (h2:a<=4611686018427387904) (hb:0<b) (hb2:b<=4611686018427387904) :
 Calls Tryz.prog 77 #[.int .i64 a,.int .i64 b] w fun e w'=>e=.returned (.int .i64 (a/b))/\w=w':=by
 have hf:=Lib.hid (G5 a b hb);obtain ⟨t1,t2⟩:=Ck a b hb 4611686018427387904 h1 h2;have hbz:¬ b=0:=by omega
 generalize hF:a/b=F at *
 have HF:=Lib.hid hF;clear hF;go_enter Tryz.func77,Tryz.ntmps77;go_wp2
 . go_ret;exact ⟨cu (hf.out.1 (by assumption)),rfl⟩
 . go_ret;exact ⟨cu (hf.out.2 (by assumption)),rfl⟩
end Go.Proofs.YtoniodlcogpdbaaGreat
namespace Alm
theorem Hg (a b:Int) (hb:0<b):(a.tmod b≠0->a<0->a.tdiv b-1=a/b)/\(a.tmod b=0->a.tdiv b=a/b)/\(0<=a->a.tdiv b=a/b):=by
 have hs:=Int.mul_tdiv_add_tmod a b;have h2:=Int.tmod_lt_of_pos a hb;have hd:=Int.mul_ediv_add_emod a b;have e0:=Int.emod_nonneg a (show b≠0 by omega)
 have e1:=Int.emod_lt_of_pos a hb;refine ⟨fun h hn=>?_,fun h=>?_,fun h=>Int.tdiv_eq_ediv_of_nonneg h⟩
 . have h3:a.tmod b<=0:=by
    have h:=Int.neg_tmod (-a) b;rw [Int.neg_neg] at h;have:=Int.tmod_nonneg b (show 0<=-a by omega)
    omega
   have h4:-b<a.tmod b:=by
    have h:=Int.neg_tmod (-a) b;rw [Int.neg_neg] at h;have:=Int.tmod_lt_of_pos (-a) hb;omega
   symm
   rw [Int.ediv_eq_iff_of_pos hb];have:b*a.tdiv b=a.tdiv b*b:=Int.mul_comm _ _
   constructor<;>grind
 . rw [h,Int.add_zero] at hs;exact (Int.ediv_eq_of_eq_mul_right (by omega) hs.symm).symm
def pO (lo hi:Int):Int:=if -2147483648<=lo/\lo<=hi/\hi<=2147483648 then lo else 0
def pu (lo hi:Int):Int:=if -2147483648<=lo/\lo<=hi/\hi<=2147483648 then hi else 0
def om (lo hi:Int):Int:=if -2147483648<=lo/\lo<=hi/\hi<=2147483648 then 0 else 5
def mn4 (a b c d:Int):Int:=min (min (min (a*c) (a*d)) (b*c)) (b*d)
def mx4 (a b c d:Int):Int:=max (max (max (a*c) (a*d)) (b*c)) (b*d)
def jM (a b c d:Int):Int:=mn4 a b c d/1073741824
def jR (a b c d:Int):Int:=-((-(mx4 a b c d))/1073741824)
theorem IZ (a b c d:Int):jM a b c d<=jR a b c d:=by
 have:mn4 a b c d<=mx4 a b c d:=by unfold mn4 mx4;omega
 unfold jM jR;generalize mn4 a b c d=x at *
 generalize mx4 a b c d=y at *
 omega
theorem fw (x y A B:Int) (hx:-A<=x/\x<=A) (hy:-B<=y/\y<=B):-(A*B)<=x*y/\x*y<=A*B:=by
 have k1:=Int.mul_nonneg (show 0<=A-x by omega) (show 0<=B+y by omega)
 have k2:=Int.mul_nonneg (show 0<=A+x by omega) (show 0<=B-y by omega)
 have k3:=Int.mul_nonneg (show 0<=A-x by omega) (show 0<=B-y by omega)
 have k4:=Int.mul_nonneg (show 0<=A+x by omega) (show 0<=B+y by omega)
 constructor<;>grind
end Alm
namespace Go.Proofs.YtoniodlcogpdbaaGreat
open Go.RowKit Alm
def opV (L H:Int):Value:=.tuple #[.agg #[.int .i64 (pO L H),.int .i64 (pu L H)],.int .i64 (om L H)]
theorem Eb (a b:Int) (w:World) (h1:-4611686018427387904<=a) (h2:a<=4611686018427387904) (hb:0<b) (hb2:b<=4611686018427387904) :
 Calls Tryz.prog 97 #[.int .i64 a,.int .i64 b] w fun e w'=>e=.returned (.int .i64 (a/b))/\w=w':=by
 have hf:=Lib.hid (Hg a b hb);obtain ⟨t1,t2⟩:=Ck a b hb 4611686018427387904 h1 h2;have hbz:¬ b=0:=by omega
 have hb0:0<=b:=by omega
 have hbn:decide (b<0)=false:=by simp;omega
 generalize hF:a/b=F at *
 have HF:=Lib.hid hF;clear hF
 by_cases ha:a<0
 . by_cases hm:a.tmod b=0
   . go_enter Tryz.func97,Tryz.ntmps97;go_wp2;go_ret;exact ⟨cu (hf.out.2.1 hm),rfl⟩
   . have HM:=Lib.hid hm;have hm2:(a.tmod b != 0)=true:=by simpa using hm
     go_enter Tryz.func97,Tryz.ntmps97;go_wp2;go_ret;exact ⟨cu (hf.out.1 HM.out ha),rfl⟩
 . have ha0:0<=a:=by omega
   go_enter Tryz.func97,Tryz.ntmps97;go_wp2
   all_goals
    go_ret;exact ⟨cu (by first|(have:=hf.out.2.2 ha0;omega)|(rw [HF.out])|exact HF.out),rfl⟩
theorem Su (a b:Int) (w:World) (h1:-4611686018427387904<=a) (h2:a<=4611686018427387904) (hb:0<b) (hb2:b<=4611686018427387904) :
 Calls Tryz.prog 98 #[.int .i64 a,.int .i64 b] w fun e w'=>e=.returned (.int .i64 (-((-a)/b)))/\w=w':=by
 have C:=Lib.hid (fun w=>Eb (-a) b w (by omega) (by omega) hb hb2)
 have q:=AJ (-a) b 4611686018427387904 hb (by omega) (by omega)
 obtain ⟨q1,q2⟩:=q;generalize (-a)/b=F at *
 go_enter Tryz.func98,Tryz.ntmps98;go_wp2_with fail;refine (C.out _).mono ?_;rintro e w' ⟨rfl,rfl⟩;go_wp2;go_ret;exact ⟨rfl,rfl⟩
theorem Iy (lo hi:Int) (w:World) :
 Calls Tryz.prog 96 #[.int .i64 lo,.int .i64 hi] w fun e w'=>e=.returned (opV lo hi)/\Below w.heap.size w w':=by
 have C:=fun w=>fI lo hi w
 have K0:=Lib.hid (((az w).new w.heap.size rfl 58 #[.int .i64 0,.int .i64 0]).new (w.heap.size+1) (by simp) 58 #[.int .i64 lo,.int .i64 hi])
 by_cases h:-2147483648<=lo/\lo<=hi/\hi<=2147483648
 . have hv:fxV lo hi=true:=by unfold fxV;simpa using h
   have eV:opV lo hi=.tuple #[.agg #[.int .i64 lo,.int .i64 hi],.int .i64 0]:=by unfold opV pO pu om;rw [if_pos h,if_pos h,if_pos h]
   rw [hv] at C;rw [eV];replace C:=Lib.hid C;clear hv eV h;go_enter Tryz.func96,Tryz.ntmps96;go_wp2_with fail;refine (C.out _).mono ?_;rintro e w1 ⟨rfl,hb⟩;have K1:=Lib.hid (K0.out.below hb);clear hb K0;have a0:=K1.out.c (g:=w.heap.size) (t:=58) (cs:=#[.int .i64 0,.int .i64 0]) (by simp) (i:=0) rfl
   have a1:=K1.out.c (g:=w.heap.size) (t:=58) (cs:=#[.int .i64 0,.int .i64 0]) (by simp) (i:=1) rfl
   have f0:=K1.out.f (g:=w.heap.size) (t:=58) (cs:=#[.int .i64 0,.int .i64 0]) (by simp) 0
   have f1:=K1.out.f (g:=w.heap.size) (t:=58) (cs:=#[.int .i64 0,.int .i64 0]) (by simp) 1
   have b0:=K1.out.c (g:=w.heap.size+1) (t:=58) (cs:=#[.int .i64 lo,.int .i64 hi]) (by simp) (i:=0) rfl
   have b1:=K1.out.c (g:=w.heap.size+1) (t:=58) (cs:=#[.int .i64 lo,.int .i64 hi]) (by simp) (i:=1) rfl
   have HB:=Lib.hid K1.out.1;go_wp2;refine bodyPost_ret (v:=.tuple #[.agg #[.int .i64 lo,.int .i64 hi],.int .i64 0]) (by simp [results,Tryz.results96,go_sem,a0,a1]) rfl ⟨rfl,?_⟩
   have hb:=HB.out;go_grown
 . have hv:fxV lo hi=false:=by unfold fxV;simpa using h
   have eV:opV lo hi=.tuple #[.agg #[.int .i64 0,.int .i64 0],.int .i64 5]:=by unfold opV pO pu om;rw [if_neg h,if_neg h,if_neg h]
   rw [hv] at C;rw [eV];replace C:=Lib.hid C;clear hv eV h;go_enter Tryz.func96,Tryz.ntmps96;go_wp2_with fail;refine (C.out _).mono ?_;rintro e w1 ⟨rfl,hb⟩;have K1:=Lib.hid (K0.out.below hb);clear hb K0;have a0:=K1.out.c (g:=w.heap.size) (t:=58) (cs:=#[.int .i64 0,.int .i64 0]) (by simp) (i:=0) rfl
   have a1:=K1.out.c (g:=w.heap.size) (t:=58) (cs:=#[.int .i64 0,.int .i64 0]) (by simp) (i:=1) rfl
   have f0:=K1.out.f (g:=w.heap.size) (t:=58) (cs:=#[.int .i64 0,.int .i64 0]) (by simp) 0
   have f1:=K1.out.f (g:=w.heap.size) (t:=58) (cs:=#[.int .i64 0,.int .i64 0]) (by simp) 1
   have HB:=Lib.hid K1.out.1;go_wp2;refine bodyPost_ret (v:=.tuple #[.agg #[.int .i64 0,.int .i64 0],.int .i64 5]) (by simp [results,Tryz.results96,go_sem,a0,a1]) rfl ⟨rfl,?_⟩
   have hb:=HB.out;go_grown
end Go.Proofs.YtoniodlcogpdbaaGreat
namespace Go.Proofs.YtoniodlcogpdbaaGreat
open Go.RowKit Alm
theorem kD (L H:Int):∃ x y z:Int,opV L H=.tuple #[.agg #[.int .i64 x,.int .i64 y],.int .i64 z]:=⟨_,_,_,rfl⟩
theorem NJ (P:Program) (w:World) (ts:Array TypeId) (t:TypeId) (x y z u:Int):(Builtin.min_ ts t #[.int .i64 x,.int .i64 y,.int .i64 z,.int .i64 u]).run P w=.ok (.int .i64 (min (min (min x y) z) u)) w:=by
 have e:min (min (min x y) z) u=(if u<(if z<(if y<x then y else x) then z else (if y<x then y else x)) then u else (if z<(if y<x then y else x) then z else (if y<x then y else x))):=by omega
 rw [e];simp [Builtin.min_,Builtin.min2,List.foldlM]
theorem Rw (P:Program) (w:World) (ts:Array TypeId) (t:TypeId) (x y z u:Int):(Builtin.max_ ts t #[.int .i64 x,.int .i64 y,.int .i64 z,.int .i64 u]).run P w=.ok (.int .i64 (max (max (max x y) z) u)) w:=by
 have e:max (max (max x y) z) u=(if (if (if x<y then y else x)<z then z else (if x<y then y else x))<u then u else (if (if x<y then y else x)<z then z else (if x<y then y else x))):=by omega
 rw [e];simp [Builtin.max_,Builtin.max2,List.foldlM]
theorem iT {lo hi:Int} (h:fxV lo hi=true):-2147483648<=lo/\lo<=hi/\hi<=2147483648:=by unfold fxV at h;simpa using h
theorem aac (a1 a2 b1 b2:Int) (w:World) (ha:fxV a1 a2=true) (hb:fxV b1 b2=true) :
 Calls Tryz.prog 141 #[.agg #[.int .i64 a1,.int .i64 a2],.agg #[.int .i64 b1,.int .i64 b2]] w fun e w'=>e=.returned (opV (a1+b1) (a2+b2))/\Below w.heap.size w w':=by
 obtain ⟨h1,h2,h3⟩:=iT ha;obtain ⟨h4,h5,h6⟩:=iT hb;have CB:=fun w=>Ar a1 a2 b1 b2 w
 rw [ha,hb] at CB;replace CB:=Lib.hid CB;clear ha hb;have CF:=fun w=>Iy (a1+b1) (a2+b2) w
 obtain ⟨x,y,z,hE⟩:=kD (a1+b1) (a2+b2);rw [hE] at CF ⊢
 clear hE;replace CF:=Lib.hid CF;have K0:=Lib.hid ((((az w).new w.heap.size rfl 58 #[.int .i64 a1,.int .i64 a2]).new (w.heap.size+1) (by simp) 58 #[.int .i64 b1,.int .i64 b2]).new (w.heap.size+1+1) (by simp) 58 #[.int .i64 0,.int .i64 0])
 go_enter Tryz.func141,Tryz.ntmps141;go_wp2_with fail;refine (CB.out _).mono ?_;rintro e w1 ⟨rfl,hb1⟩;have K1:=Lib.hid (K0.out.below hb1);clear hb1 K0 CB;have a0:=K1.out.c (g:=w.heap.size) (t:=58) (cs:=#[.int .i64 a1,.int .i64 a2]) (by simp) (i:=0) rfl
 have a1:=K1.out.c (g:=w.heap.size) (t:=58) (cs:=#[.int .i64 a1,.int .i64 a2]) (by simp) (i:=1) rfl
 have b0:=K1.out.c (g:=w.heap.size+1) (t:=58) (cs:=#[.int .i64 b1,.int .i64 b2]) (by simp) (i:=0) rfl
 have b1:=K1.out.c (g:=w.heap.size+1) (t:=58) (cs:=#[.int .i64 b1,.int .i64 b2]) (by simp) (i:=1) rfl
 go_wp2_with fail;refine (CF.out _).mono ?_;rintro e w9 ⟨rfl,hb1⟩;have K9:=Lib.hid (K1.out.below hb1);clear hb1 K1 a0 a1 b0 b1;have r0:=K9.out.c (g:=w.heap.size+1+1) (t:=58) (cs:=#[.int .i64 0,.int .i64 0]) (by simp) (i:=0) rfl
 have fr0:=K9.out.f (g:=w.heap.size+1+1) (t:=58) (cs:=#[.int .i64 0,.int .i64 0]) (by simp) 0
 have r1:=K9.out.c (g:=w.heap.size+1+1) (t:=58) (cs:=#[.int .i64 0,.int .i64 0]) (by simp) (i:=1) rfl
 have fr1:=K9.out.f (g:=w.heap.size+1+1) (t:=58) (cs:=#[.int .i64 0,.int .i64 0]) (by simp) 1
 have HB:=Lib.hid K9.out.1;go_wp2;refine bodyPost_ret (v:=.tuple #[.agg #[.int .i64 x,.int .i64 y],.int .i64 z]) (by simp [results,Tryz.results141,go_sem,r0,r1]) rfl ⟨rfl,?_⟩
 have hb:=HB.out;go_grown
theorem XA (a1 a2 b1 b2:Int) (w:World) (ha:fxV a1 a2=true) (hb:fxV b1 b2=true) :
 Calls Tryz.prog 63 #[.agg #[.int .i64 a1,.int .i64 a2],.agg #[.int .i64 b1,.int .i64 b2]] w fun e w'=>e=.returned (opV (a1-b2) (a2-b1))/\Below w.heap.size w w':=by
 obtain ⟨h1,h2,h3⟩:=iT ha;obtain ⟨h4,h5,h6⟩:=iT hb;have CB:=fun w=>Ar a1 a2 b1 b2 w
 rw [ha,hb] at CB;replace CB:=Lib.hid CB;clear ha hb;have CF:=fun w=>Iy (a1-b2) (a2-b1) w
 obtain ⟨x,y,z,hE⟩:=kD (a1-b2) (a2-b1);rw [hE] at CF ⊢
 clear hE;replace CF:=Lib.hid CF;have K0:=Lib.hid ((((az w).new w.heap.size rfl 58 #[.int .i64 a1,.int .i64 a2]).new (w.heap.size+1) (by simp) 58 #[.int .i64 b1,.int .i64 b2]).new (w.heap.size+1+1) (by simp) 58 #[.int .i64 0,.int .i64 0])
 go_enter Tryz.func63,Tryz.ntmps63;go_wp2_with fail;refine (CB.out _).mono ?_;rintro e w1 ⟨rfl,hb1⟩;have K1:=Lib.hid (K0.out.below hb1);clear hb1 K0 CB;have a0:=K1.out.c (g:=w.heap.size) (t:=58) (cs:=#[.int .i64 a1,.int .i64 a2]) (by simp) (i:=0) rfl
 have a1:=K1.out.c (g:=w.heap.size) (t:=58) (cs:=#[.int .i64 a1,.int .i64 a2]) (by simp) (i:=1) rfl
 have b0:=K1.out.c (g:=w.heap.size+1) (t:=58) (cs:=#[.int .i64 b1,.int .i64 b2]) (by simp) (i:=0) rfl
 have b1:=K1.out.c (g:=w.heap.size+1) (t:=58) (cs:=#[.int .i64 b1,.int .i64 b2]) (by simp) (i:=1) rfl
 go_wp2_with fail;refine (CF.out _).mono ?_;rintro e w9 ⟨rfl,hb1⟩;have K9:=Lib.hid (K1.out.below hb1);clear hb1 K1 a0 a1 b0 b1;have r0:=K9.out.c (g:=w.heap.size+1+1) (t:=58) (cs:=#[.int .i64 0,.int .i64 0]) (by simp) (i:=0) rfl
 have fr0:=K9.out.f (g:=w.heap.size+1+1) (t:=58) (cs:=#[.int .i64 0,.int .i64 0]) (by simp) 0
 have r1:=K9.out.c (g:=w.heap.size+1+1) (t:=58) (cs:=#[.int .i64 0,.int .i64 0]) (by simp) (i:=1) rfl
 have fr1:=K9.out.f (g:=w.heap.size+1+1) (t:=58) (cs:=#[.int .i64 0,.int .i64 0]) (by simp) 1
 have HB:=Lib.hid K9.out.1;go_wp2;refine bodyPost_ret (v:=.tuple #[.agg #[.int .i64 x,.int .i64 y],.int .i64 z]) (by simp [results,Tryz.results63,go_sem,r0,r1]) rfl ⟨rfl,?_⟩
 have hb:=HB.out;go_grown
theorem Xf (a1 a2 b1 b2:Int) (w:World) (ha:fxV a1 a2=true) (hb:fxV b1 b2=true) :
 Calls Tryz.prog 61 #[.agg #[.int .i64 a1,.int .i64 a2],.agg #[.int .i64 b1,.int .i64 b2]] w fun e w'=>e=.returned (opV (jM a1 a2 b1 b2) (jR a1 a2 b1 b2))/\Below w.heap.size w w':=by
 obtain ⟨h1,h2,h3⟩:=iT ha;obtain ⟨h4,h5,h6⟩:=iT hb;have CB:=fun w=>Ar a1 a2 b1 b2 w
 rw [ha,hb] at CB;replace CB:=Lib.hid CB;clear ha hb;have m1:=fw a1 b1 2147483648 2147483648 (by omega) (by omega)
 have m2:=fw a1 b2 2147483648 2147483648 (by omega) (by omega)
 have m3:=fw a2 b1 2147483648 2147483648 (by omega) (by omega)
 have m4:=fw a2 b2 2147483648 2147483648 (by omega) (by omega)
 obtain ⟨p1,p2⟩:=m1;obtain ⟨p3,p4⟩:=m2;obtain ⟨p5,p6⟩:=m3;obtain ⟨p7,p8⟩:=m4;have CF:=fun w=>Iy (jM a1 a2 b1 b2) (jR a1 a2 b1 b2) w
 have C1:=fun w=>Eb (mn4 a1 a2 b1 b2) 1073741824 w (by unfold mn4;omega) (by unfold mn4;omega) (by omega) (by omega)
 have C2:=fun w=>Su (mx4 a1 a2 b1 b2) 1073741824 w (by unfold mx4;omega) (by unfold mx4;omega) (by omega) (by omega)
 rw [show mn4 a1 a2 b1 b2/1073741824=jM a1 a2 b1 b2 from rfl] at C1
 rw [show -((-(mx4 a1 a2 b1 b2))/1073741824)=jR a1 a2 b1 b2 from rfl] at C2
 unfold mn4 at C1;unfold mx4 at C2;obtain ⟨x,y,z,hE⟩:=kD (jM a1 a2 b1 b2) (jR a1 a2 b1 b2);rw [hE] at CF ⊢
 clear hE;replace CF:=Lib.hid CF;have K0:=Lib.hid ((((az w).new w.heap.size rfl 58 #[.int .i64 a1,.int .i64 a2]).new (w.heap.size+1) (by simp) 58 #[.int .i64 b1,.int .i64 b2]).new (w.heap.size+1+1) (by simp) 58 #[.int .i64 0,.int .i64 0])
 generalize jM a1 a2 b1 b2=L at *
 generalize jR a1 a2 b1 b2=H at *
 replace C1:=Lib.hid C1;replace C2:=Lib.hid C2;go_enter Tryz.func61,Tryz.ntmps61;go_wp2_with fail;refine (CB.out _).mono ?_;rintro e w1 ⟨rfl,hb1⟩;have K1:=Lib.hid (K0.out.below hb1);clear hb1 K0 CB;have a0:=K1.out.c (g:=w.heap.size) (t:=58) (cs:=#[.int .i64 a1,.int .i64 a2]) (by simp) (i:=0) rfl
 have a1:=K1.out.c (g:=w.heap.size) (t:=58) (cs:=#[.int .i64 a1,.int .i64 a2]) (by simp) (i:=1) rfl
 have b0:=K1.out.c (g:=w.heap.size+1) (t:=58) (cs:=#[.int .i64 b1,.int .i64 b2]) (by simp) (i:=0) rfl
 have b1:=K1.out.c (g:=w.heap.size+1) (t:=58) (cs:=#[.int .i64 b1,.int .i64 b2]) (by simp) (i:=1) rfl
 go_wp2;go_quiet (fail);have K2:=Lib.hid (K1.out.drewN nq);clear K1 a0 a1 b0 b1 p1 p2 p3 p4 p5 p6 p7 p8;generalize a1*b1=P1 at *
 generalize a1*b2=P2 at *
 generalize a2*b1=P3 at *
 generalize a2*b2=P4 at *
 have RM:=fun w=>NJ Tryz.prog w #[ 3,3,3,3] 3 P1 P2 P3 P4
 have RX:=fun w=>Rw Tryz.prog w #[ 3,3,3,3] 3 P1 P2 P3 P4
 generalize min (min (min P1 P2) P3) P4=M at *
 generalize max (max (max P1 P2) P3) P4=N at *
 go_wp2_with fail;refine (C1.out _).mono ?_;rintro e w' ⟨rfl,rfl⟩;go_wp2_with fail;refine (C2.out _).mono ?_;rintro e w' ⟨rfl,rfl⟩;go_wp2_with fail;refine (CF.out _).mono ?_;rintro e w9 ⟨rfl,hb1⟩;have K9:=Lib.hid (K2.out.below hb1);clear hb1 K2;have r0:=K9.out.c (g:=w.heap.size+1+1) (t:=58) (cs:=#[.int .i64 0,.int .i64 0]) (by simp) (i:=0) rfl
 have fr0:=K9.out.f (g:=w.heap.size+1+1) (t:=58) (cs:=#[.int .i64 0,.int .i64 0]) (by simp) 0
 have r1:=K9.out.c (g:=w.heap.size+1+1) (t:=58) (cs:=#[.int .i64 0,.int .i64 0]) (by simp) (i:=1) rfl
 have fr1:=K9.out.f (g:=w.heap.size+1+1) (t:=58) (cs:=#[.int .i64 0,.int .i64 0]) (by simp) 1
 have HB:=Lib.hid K9.out.1;go_wp2;refine bodyPost_ret (v:=.tuple #[.agg #[.int .i64 x,.int .i64 y],.int .i64 z]) (by simp [results,Tryz.results61,go_sem,r0,r1]) rfl ⟨rfl,?_⟩
 have hb:=HB.out;go_grown
end Go.Proofs.YtoniodlcogpdbaaGreat
namespace Go.Proofs.YtoniodlcogpdbaaGreat
open Go.RowKit Alm
theorem Am (lo hi:Int) (w:World) (hl:lo<=hi) :
 Calls Tryz.prog 76 #[.int .i64 lo,.int .i64 hi] w fun e w'=>e=.returned (opV lo hi)/\Below w.heap.size w w':=by
 by_cases h:-2147483648<=lo/\lo<=hi/\hi<=2147483648
 . have eV:opV lo hi=.tuple #[.agg #[.int .i64 lo,.int .i64 hi],.int .i64 0]:=by unfold opV pO pu om;rw [if_pos h,if_pos h,if_pos h]
   rw [eV];clear eV;obtain ⟨h1,h2,h3⟩:=h;go_enter Tryz.func76,Tryz.ntmps76;go_wp2;refine bodyPost_ret (v:=.tuple #[.agg #[.int .i64 lo,.int .i64 hi],.int .i64 0]) (by simp [results,Tryz.results76,go_sem]) rfl ⟨rfl,by go_grown⟩
 . have eV:opV lo hi=.tuple #[.agg #[.int .i64 0,.int .i64 0],.int .i64 5]:=by unfold opV pO pu om;rw [if_neg h,if_neg h,if_neg h]
   rw [eV];clear eV
   by_cases h1:lo < -2147483648
   . go_enter Tryz.func76,Tryz.ntmps76;go_wp2;refine bodyPost_ret (v:=.tuple #[.agg #[.int .i64 0,.int .i64 0],.int .i64 5]) (by simp [results,Tryz.results76,go_sem]) rfl ⟨rfl,by go_grown⟩
   . have h2:2147483648<hi:=by omega
     clear h;go_enter Tryz.func76,Tryz.ntmps76;go_wp2;refine bodyPost_ret (v:=.tuple #[.agg #[.int .i64 0,.int .i64 0],.int .i64 5]) (by simp [results,Tryz.results76,go_sem]) rfl ⟨rfl,by go_grown⟩
theorem Ph (a b:Int) (w:World) (h1:-4611686018427387904<=a) (h2:a<=4611686018427387904) (hb:0<b) (hb2:b<=4611686018427387904) :
 Calls Tryz.prog 78 #[.int .i64 a,.int .i64 b] w fun e w'=>e=.returned (.int .i64 (-((-a)/b)))/\w=w':=by
 have C:=Lib.hid (fun w=>nR (-a) b w (by omega) (by omega) hb hb2)
 have q:=AJ (-a) b 4611686018427387904 hb (by omega) (by omega)
 obtain ⟨q1,q2⟩:=q;generalize (-a)/b=F at *
 go_enter Tryz.func78,Tryz.ntmps78;go_wp2_with fail;refine (C.out _).mono ?_;rintro e w' ⟨rfl,rfl⟩;go_wp2;go_ret;exact ⟨rfl,rfl⟩
theorem UR (a1 a2 b1 b2:Int) (w:World) (ha:fxV a1 a2=true) (hb:fxV b1 b2=true) :
 Calls Tryz.prog 109 #[.agg #[.int .i64 a1,.int .i64 a2],.agg #[.int .i64 b1,.int .i64 b2]] w fun e w'=>e=.returned (opV (a1+b1) (a2+b2))/\Below w.heap.size w w':=by
 obtain ⟨h1,h2,h3⟩:=iT ha;obtain ⟨h4,h5,h6⟩:=iT hb;clear ha hb;have CF:=fun w=>Am (a1+b1) (a2+b2) w (by omega)
 obtain ⟨x,y,z,hE⟩:=kD (a1+b1) (a2+b2);rw [hE] at CF ⊢
 clear hE;replace CF:=Lib.hid CF;have K0:=Lib.hid ((((az w).new w.heap.size rfl 58 #[.int .i64 a1,.int .i64 a2]).new (w.heap.size+1) (by simp) 58 #[.int .i64 b1,.int .i64 b2]).new (w.heap.size+1+1) (by simp) 58 #[.int .i64 0,.int .i64 0])
 go_enter Tryz.func109,Tryz.ntmps109;go_wp2_with fail;refine (CF.out _).mono ?_;rintro e w9 ⟨rfl,hb1⟩;have K9:=Lib.hid (K0.out.below hb1);clear hb1 K0;have r0:=K9.out.c (g:=w.heap.size+1+1) (t:=58) (cs:=#[.int .i64 0,.int .i64 0]) (by simp) (i:=0) rfl
 have fr0:=K9.out.f (g:=w.heap.size+1+1) (t:=58) (cs:=#[.int .i64 0,.int .i64 0]) (by simp) 0
 have r1:=K9.out.c (g:=w.heap.size+1+1) (t:=58) (cs:=#[.int .i64 0,.int .i64 0]) (by simp) (i:=1) rfl
 have fr1:=K9.out.f (g:=w.heap.size+1+1) (t:=58) (cs:=#[.int .i64 0,.int .i64 0]) (by simp) 1
 have HB:=Lib.hid K9.out.1;go_wp2;refine bodyPost_ret (v:=.tuple #[.agg #[.int .i64 x,.int .i64 y],.int .i64 z]) (by simp [results,Tryz.results109,go_sem,r0,r1]) rfl ⟨rfl,?_⟩
 have hb:=HB.out;go_grown
theorem R8 (a1 a2 b1 b2:Int) (w:World) (ha:fxV a1 a2=true) (hb:fxV b1 b2=true) :
 Calls Tryz.prog 86 #[.agg #[.int .i64 a1,.int .i64 a2],.agg #[.int .i64 b1,.int .i64 b2]] w fun e w'=>e=.returned (opV (a1-b2) (a2-b1))/\Below w.heap.size w w':=by
 obtain ⟨h1,h2,h3⟩:=iT ha;obtain ⟨h4,h5,h6⟩:=iT hb;clear ha hb;have CF:=fun w=>Am (a1-b2) (a2-b1) w (by omega)
 obtain ⟨x,y,z,hE⟩:=kD (a1-b2) (a2-b1);rw [hE] at CF ⊢
 clear hE;replace CF:=Lib.hid CF;have K0:=Lib.hid ((((az w).new w.heap.size rfl 58 #[.int .i64 a1,.int .i64 a2]).new (w.heap.size+1) (by simp) 58 #[.int .i64 b1,.int .i64 b2]).new (w.heap.size+1+1) (by simp) 58 #[.int .i64 0,.int .i64 0])
 go_enter Tryz.func86,Tryz.ntmps86;go_wp2_with fail;refine (CF.out _).mono ?_;rintro e w9 ⟨rfl,hb1⟩;have K9:=Lib.hid (K0.out.below hb1);clear hb1 K0;have r0:=K9.out.c (g:=w.heap.size+1+1) (t:=58) (cs:=#[.int .i64 0,.int .i64 0]) (by simp) (i:=0) rfl
 have fr0:=K9.out.f (g:=w.heap.size+1+1) (t:=58) (cs:=#[.int .i64 0,.int .i64 0]) (by simp) 0
 have r1:=K9.out.c (g:=w.heap.size+1+1) (t:=58) (cs:=#[.int .i64 0,.int .i64 0]) (by simp) (i:=1) rfl
 have fr1:=K9.out.f (g:=w.heap.size+1+1) (t:=58) (cs:=#[.int .i64 0,.int .i64 0]) (by simp) 1
 have HB:=Lib.hid K9.out.1;go_wp2;refine bodyPost_ret (v:=.tuple #[.agg #[.int .i64 x,.int .i64 y],.int .i64 z]) (by simp [results,Tryz.results86,go_sem,r0,r1]) rfl ⟨rfl,?_⟩
 have hb:=HB.out;go_grown
theorem Vt (a1 a2 b1 b2:Int) (w:World) (ha:fxV a1 a2=true) (hb:fxV b1 b2=true) :
 Calls Tryz.prog 50 #[.agg #[.int .i64 a1,.int .i64 a2],.agg #[.int .i64 b1,.int .i64 b2]] w fun e w'=>e=.returned (opV (jM a1 a2 b1 b2) (jR a1 a2 b1 b2))/\Below w.heap.size w w':=by
 obtain ⟨h1,h2,h3⟩:=iT ha;obtain ⟨h4,h5,h6⟩:=iT hb;clear ha hb;have m1:=fw a1 b1 2147483648 2147483648 (by omega) (by omega)
 have m2:=fw a1 b2 2147483648 2147483648 (by omega) (by omega)
 have m3:=fw a2 b1 2147483648 2147483648 (by omega) (by omega)
 have m4:=fw a2 b2 2147483648 2147483648 (by omega) (by omega)
 obtain ⟨p1,p2⟩:=m1;obtain ⟨p3,p4⟩:=m2;obtain ⟨p5,p6⟩:=m3;obtain ⟨p7,p8⟩:=m4;have CF:=fun w=>Am (jM a1 a2 b1 b2) (jR a1 a2 b1 b2) w (IZ _ _ _ _)
 have C1:=fun w=>nR (mn4 a1 a2 b1 b2) 1073741824 w (by unfold mn4;omega) (by unfold mn4;omega) (by omega) (by omega)
 have C2:=fun w=>Ph (mx4 a1 a2 b1 b2) 1073741824 w (by unfold mx4;omega) (by unfold mx4;omega) (by omega) (by omega)
 rw [show mn4 a1 a2 b1 b2/1073741824=jM a1 a2 b1 b2 from rfl] at C1
 rw [show -((-(mx4 a1 a2 b1 b2))/1073741824)=jR a1 a2 b1 b2 from rfl] at C2
 have en:mn4 a1 a2 b1 b2=min (a1*b1) (min (a1*b2) (min (a2*b1) (a2*b2))):=by unfold mn4;omega
 have ex:mx4 a1 a2 b1 b2=max (a1*b1) (max (a1*b2) (max (a2*b1) (a2*b2))):=by unfold mx4;omega
 rw [en] at C1;rw [ex] at C2;clear en ex;obtain ⟨x,y,z,hE⟩:=kD (jM a1 a2 b1 b2) (jR a1 a2 b1 b2);rw [hE] at CF ⊢
 clear hE;replace CF:=Lib.hid CF;have K0:=Lib.hid ((((az w).new w.heap.size rfl 58 #[.int .i64 a1,.int .i64 a2]).new (w.heap.size+1) (by simp) 58 #[.int .i64 b1,.int .i64 b2]).new (w.heap.size+1+1) (by simp) 58 #[.int .i64 0,.int .i64 0])
 generalize jM a1 a2 b1 b2=L at *
 generalize jR a1 a2 b1 b2=H at *
 replace C1:=Lib.hid C1;replace C2:=Lib.hid C2;have CL:=Lib.hid UM;have CX:=Lib.hid YG;go_enter Tryz.func50,Tryz.ntmps50;go_wp2;generalize (((w.alloc (.cells #[.int .i64 a1,.int .i64 a2] 58)).alloc (.cells #[.int .i64 b1,.int .i64 b2] 58)).alloc (.cells #[.int .i64 0,.int .i64 0] 58))=wq at *
 have u0:=K0.out.c (g:=w.heap.size) (t:=58) (cs:=#[.int .i64 a1,.int .i64 a2]) (by simp) (i:=0) rfl
 have u1:=K0.out.c (g:=w.heap.size) (t:=58) (cs:=#[.int .i64 a1,.int .i64 a2]) (by simp) (i:=1) rfl
 have v0:=K0.out.c (g:=w.heap.size+1) (t:=58) (cs:=#[.int .i64 b1,.int .i64 b2]) (by simp) (i:=0) rfl
 have v1:=K0.out.c (g:=w.heap.size+1) (t:=58) (cs:=#[.int .i64 b1,.int .i64 b2]) (by simp) (i:=1) rfl
 go_quiet (fail);have K2:=Lib.hid (K0.out.drewN nq);clear K0 u0 u1 v0 v1 p1 p2 p3 p4 p5 p6 p7 p8;generalize a1*b1=P1 at *
 generalize a1*b2=P2 at *
 generalize a2*b1=P3 at *
 generalize a2*b2=P4 at *
 go_wp2_with fail;refine (CL.out _ _ _).mono ?_;rintro e w' ⟨rfl,rfl⟩;go_wp2_with fail;refine (CL.out _ _ _).mono ?_;rintro e w' ⟨rfl,rfl⟩;go_wp2_with fail;refine (CL.out _ _ _).mono ?_;rintro e w' ⟨rfl,rfl⟩;go_wp2_with fail;refine (CX.out _ _ _).mono ?_;rintro e w' ⟨rfl,rfl⟩;go_wp2_with fail;refine (CX.out _ _ _).mono ?_;rintro e w' ⟨rfl,rfl⟩;go_wp2_with fail;refine (CX.out _ _ _).mono ?_;rintro e w' ⟨rfl,rfl⟩;go_wp2_with fail;refine (C1.out _).mono ?_;rintro e w' ⟨rfl,rfl⟩;go_wp2_with fail;refine (C2.out _).mono ?_;rintro e w' ⟨rfl,rfl⟩;go_wp2_with fail;refine (CF.out _).mono ?_;rintro e w9 ⟨rfl,hb1⟩;have K9:=Lib.hid (K2.out.below hb1);clear hb1 K2;have r0:=K9.out.c (g:=w.heap.size+1+1) (t:=58) (cs:=#[.int .i64 0,.int .i64 0]) (by simp) (i:=0) rfl
 have fr0:=K9.out.f (g:=w.heap.size+1+1) (t:=58) (cs:=#[.int .i64 0,.int .i64 0]) (by simp) 0
 have r1:=K9.out.c (g:=w.heap.size+1+1) (t:=58) (cs:=#[.int .i64 0,.int .i64 0]) (by simp) (i:=1) rfl
 have fr1:=K9.out.f (g:=w.heap.size+1+1) (t:=58) (cs:=#[.int .i64 0,.int .i64 0]) (by simp) 1
 have HB:=Lib.hid K9.out.1;go_wp2;refine bodyPost_ret (v:=.tuple #[.agg #[.int .i64 x,.int .i64 y],.int .i64 z]) (by simp [results,Tryz.results50,go_sem,r0,r1]) rfl ⟨rfl,?_⟩
 have hb:=HB.out;go_grown
end Go.Proofs.YtoniodlcogpdbaaGreat
namespace Alm
def rtF:Nat->Int->Int->Int
 | 0,k,_=>k
 | j+1,k,n=>if (k+2^j)*(k+2^j)<=n then rtF j (k+2^j) n else rtF j k n
def rtV (n:Int):Int:=rtF 32 0 n
end Alm
namespace Go.Proofs.YtoniodlcogpdbaaGreat
open Go.RowKit Alm
end Go.Proofs.YtoniodlcogpdbaaGreat
namespace Alm
def sqL (a b:Int):Int:=(if a<=0/\0<=b then 0 else min (a*a) (b*b))/1073741824
def sqH (a b:Int):Int:=-((-(max (a*a) (b*b)))/1073741824)
def rtL (a b:Int):Int:=rtV (max 0 a*1073741824)
def rtH (a b:Int):Int:=if rtV (b*1073741824)*rtV (b*1073741824)<b*1073741824 then rtV (b*1073741824)+1 else rtV (b*1073741824)
end Alm
namespace Go.Proofs.YtoniodlcogpdbaaGreat
open Go.RowKit Alm
end Go.Proofs.YtoniodlcogpdbaaGreat
namespace Go.Proofs.YtoniodlcogpdbaaGreat
open Go.RowKit Alm
