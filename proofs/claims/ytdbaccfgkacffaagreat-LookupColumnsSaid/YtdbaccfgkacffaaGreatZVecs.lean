/- The contracts of the reference of package fixed: least, most, floor. -/
import Derived.Test.YtdbaccfgkacffaaGreatZWides
import Derived.Test.YtdbaccfgkacffaaGreatZKp
import Derived.Deep.Light
import Derived.BigRegion
set_option linter.unusedVariables false
set_option linter.unusedSimpArgs false
set_option maxRecDepth 100000
set_option maxHeartbeats 4000000
namespace Go.Proofs.YtdbaccfgkacffaaGreat
open Go.RowKit Alm
theorem Ad (P y B:Int) (hy:0<y) (h1:-B<=P) (h2:P<=B):-B<=P/y/\P/y<=B:=by
 have m:=Int.mul_le_mul_of_nonneg_left (show 1<=y by omega) (show 0<=B by omega)
 have e:-B*y=-(B*y):=Int.neg_mul _ _;exact ⟨Int.le_ediv_of_mul_le hy (by omega),Int.ediv_le_of_le_mul hy (by omega)⟩
theorem Rp (a b:Int) (w:World) :
 Calls Tryz.prog 279 #[.int .i64 a,.int .i64 b] w fun e w'=>e=.returned (.int .i64 (min a b))/\w=w':=by
 go_enter Tryz.func279,Tryz.ntmps279;go_wp2
 all_goals
  go_ret;exact ⟨bV (by go_light;omega),rfl⟩
theorem ZK (a b:Int) (w:World) :
 Calls Tryz.prog 216 #[.int .i64 a,.int .i64 b] w fun e w'=>e=.returned (.int .i64 (max a b))/\w=w':=by
 go_enter Tryz.func216,Tryz.ntmps216;go_wp2
 all_goals
  go_ret;exact ⟨bV (by go_light;omega),rfl⟩
theorem GG (a b:Int) (hb:0<b):(a.tmod b<0->a.tdiv b-1=a/b)/\(0<=a.tmod b->a.tdiv b=a/b):=by
 have h1:=Int.mul_tdiv_add_tmod a b;have h2:=Int.tmod_lt_of_pos a hb
 have h3:-b<a.tmod b:=by
  by_cases ha:0<=a
  . have:=Int.tmod_nonneg b ha;omega
  . have h:=Int.neg_tmod (-a) b;rw [Int.neg_neg] at h;have:=Int.tmod_lt_of_pos (-a) hb;omega
 constructor
 . intro h;have e:a=b*(a.tdiv b-1)+(a.tmod b+b):=by grind
   have:=jI b (a.tdiv b-1) (a.tmod b+b) hb (by omega) (by omega)
   rw [<-e] at this;omega
 . intro h;have:=jI b (a.tdiv b) (a.tmod b) hb h h2;rw [h1] at this;omega
theorem AB (a b:Int) (hb:0<b) (M:Int) (h1:-M<=a) (h2:a<=M):-M<=a.tdiv b/\a.tdiv b<=M:=by
 have hM:0<=M:=by omega
 have h:(a.tdiv b).natAbs=a.natAbs/b.natAbs:=Int.natAbs_tdiv a b;have h3:a.natAbs/b.natAbs<=a.natAbs:=Nat.div_le_self _ _;generalize a.natAbs/b.natAbs=q at *
 omega
theorem nC (a b:Int) (w:World) (h1:-4611686018427387904<=a) (h2:a<=4611686018427387904) (hb:0<b) (hb2:b<=4611686018427387904) :
 Calls Tryz.prog 281 #[.int .i64 a,.int .i64 b] w fun e w'=>e=.returned (.int .i64 (a/b))/\w=w':=by
 have hf:=Lib.hid (GG a b hb);obtain ⟨t1,t2⟩:=AB a b hb 4611686018427387904 h1 h2;have hbz:¬ b=0:=by omega
 generalize hF:a/b=F at *
 have HF:=Lib.hid hF;clear hF;go_enter Tryz.func281,Tryz.ntmps281;go_wp2
 . go_ret;exact ⟨bV (hf.out.1 (by assumption)),rfl⟩
 . go_ret;exact ⟨bV (hf.out.2 (by assumption)),rfl⟩
end Go.Proofs.YtdbaccfgkacffaaGreat
namespace Alm
theorem Gg (a b:Int) (hb:0<b):(a.tmod b≠0->a<0->a.tdiv b-1=a/b)/\(a.tmod b=0->a.tdiv b=a/b)/\(0<=a->a.tdiv b=a/b):=by
 have hs:=Int.mul_tdiv_add_tmod a b;have h2:=Int.tmod_lt_of_pos a hb;have hd:=Int.mul_ediv_add_emod a b;have e0:=Int.emod_nonneg a (show b≠0 by omega)
 have e1:=Int.emod_lt_of_pos a hb;refine ⟨fun h hn=>?_,fun h=>?_,fun h=>Int.tdiv_eq_ediv_of_nonneg h⟩
 . have h3:a.tmod b<=0:=by
    have h:=Int.neg_tmod (-a) b;rw [Int.neg_neg] at h;have:=Int.tmod_nonneg b (show 0<=-a by omega)
    omega
   have h4:-b<a.tmod b:=by
    have h:=Int.neg_tmod (-a) b;rw [Int.neg_neg] at h;have:=Int.tmod_lt_of_pos (-a) hb;omega
   symm
   rw [Int.ediv_eq_iff_of_pos hb];have:b*a.tdiv b=a.tdiv b*b:=Int.mul_comm _ _
   constructor<;>grind
 . rw [h,Int.add_zero] at hs;exact (Int.ediv_eq_of_eq_mul_right (by omega) hs.symm).symm
def oP (lo hi:Int):Int:=if -2147483648<=lo/\lo<=hi/\hi<=2147483648 then lo else 0
def o5 (lo hi:Int):Int:=if -2147483648<=lo/\lo<=hi/\hi<=2147483648 then hi else 0
def nT (lo hi:Int):Int:=if -2147483648<=lo/\lo<=hi/\hi<=2147483648 then 0 else 5
def mn4 (a b c d:Int):Int:=min (min (min (a*c) (a*d)) (b*c)) (b*d)
def mx4 (a b c d:Int):Int:=max (max (max (a*c) (a*d)) (b*c)) (b*d)
def jJ (a b c d:Int):Int:=mn4 a b c d/1073741824
def jO (a b c d:Int):Int:=-((-(mx4 a b c d))/1073741824)
theorem Ib (a b c d:Int):jJ a b c d<=jO a b c d:=by
 have:mn4 a b c d<=mx4 a b c d:=by unfold mn4 mx4;omega
 unfold jJ jO;generalize mn4 a b c d=x at *
 generalize mx4 a b c d=y at *
 omega
theorem fA (x y A B:Int) (hx:-A<=x/\x<=A) (hy:-B<=y/\y<=B):-(A*B)<=x*y/\x*y<=A*B:=by
 have k1:=Int.mul_nonneg (show 0<=A-x by omega) (show 0<=B+y by omega)
 have k2:=Int.mul_nonneg (show 0<=A+x by omega) (show 0<=B-y by omega)
 have k3:=Int.mul_nonneg (show 0<=A-x by omega) (show 0<=B-y by omega)
 have k4:=Int.mul_nonneg (show 0<=A+x by omega) (show 0<=B+y by omega)
 constructor<;>grind
end Alm
namespace Go.Proofs.YtdbaccfgkacffaaGreat
open Go.RowKit Alm
def opV (L H:Int):Value:=.tuple #[.agg #[.int .i64 (oP L H),.int .i64 (o5 L H)],.int .i64 (nT L H)]
theorem Df (a b:Int) (w:World) (h1:-4611686018427387904<=a) (h2:a<=4611686018427387904) (hb:0<b) (hb2:b<=4611686018427387904) :
 Calls Tryz.prog 206 #[.int .i64 a,.int .i64 b] w fun e w'=>e=.returned (.int .i64 (a/b))/\w=w':=by
 have hf:=Lib.hid (Gg a b hb);obtain ⟨t1,t2⟩:=AB a b hb 4611686018427387904 h1 h2;have hbz:¬ b=0:=by omega
 have hb0:0<=b:=by omega
 have hbn:decide (b<0)=false:=by simp;omega
 generalize hF:a/b=F at *
 have HF:=Lib.hid hF;clear hF
 by_cases ha:a<0
 . by_cases hm:a.tmod b=0
   . go_enter Tryz.func206,Tryz.ntmps206;go_wp2;go_ret;exact ⟨bV (hf.out.2.1 hm),rfl⟩
   . have HM:=Lib.hid hm;have hm2:(a.tmod b != 0)=true:=by simpa using hm
     go_enter Tryz.func206,Tryz.ntmps206;go_wp2;go_ret;exact ⟨bV (hf.out.1 HM.out ha),rfl⟩
 . have ha0:0<=a:=by omega
   go_enter Tryz.func206,Tryz.ntmps206;go_wp2
   all_goals
    go_ret;exact ⟨bV (by first|(have:=hf.out.2.2 ha0;omega)|(rw [HF.out])|exact HF.out),rfl⟩
theorem R6 (a b:Int) (w:World) (h1:-4611686018427387904<=a) (h2:a<=4611686018427387904) (hb:0<b) (hb2:b<=4611686018427387904) :
 Calls Tryz.prog 207 #[.int .i64 a,.int .i64 b] w fun e w'=>e=.returned (.int .i64 (-((-a)/b)))/\w=w':=by
 have C:=Lib.hid (fun w=>Df (-a) b w (by omega) (by omega) hb hb2)
 have q:=Ad (-a) b 4611686018427387904 hb (by omega) (by omega)
 obtain ⟨q1,q2⟩:=q;generalize (-a)/b=F at *
 go_enter Tryz.func207,Tryz.ntmps207;go_wp2_with fail;refine (C.out _).mono ?_;rintro e w' ⟨rfl,rfl⟩;go_wp2;go_ret;exact ⟨rfl,rfl⟩
theorem Gu (lo hi:Int) (w:World) :
 Calls Tryz.prog 205 #[.int .i64 lo,.int .i64 hi] w fun e w'=>e=.returned (opV lo hi)/\Below w.heap.size w w':=by
 have C:=fun w=>fJ lo hi w
 have K0:=Lib.hid (((az w).new w.heap.size rfl 117 #[.int .i64 0,.int .i64 0]).new (w.heap.size+1) (by simp) 117 #[.int .i64 lo,.int .i64 hi])
 by_cases h:-2147483648<=lo/\lo<=hi/\hi<=2147483648
 . have hv:fxV lo hi=true:=by unfold fxV;simpa using h
   have eV:opV lo hi=.tuple #[.agg #[.int .i64 lo,.int .i64 hi],.int .i64 0]:=by unfold opV oP o5 nT;rw [if_pos h,if_pos h,if_pos h]
   rw [hv] at C;rw [eV];replace C:=Lib.hid C;clear hv eV h;go_enter Tryz.func205,Tryz.ntmps205;go_wp2_with fail;refine (C.out _).mono ?_;rintro e w1 ⟨rfl,hb⟩;have K1:=Lib.hid (K0.out.below hb);clear hb K0;have a0:=K1.out.c (g:=w.heap.size) (t:=117) (cs:=#[.int .i64 0,.int .i64 0]) (by simp) (i:=0) rfl
   have a1:=K1.out.c (g:=w.heap.size) (t:=117) (cs:=#[.int .i64 0,.int .i64 0]) (by simp) (i:=1) rfl
   have f0:=K1.out.f (g:=w.heap.size) (t:=117) (cs:=#[.int .i64 0,.int .i64 0]) (by simp) 0
   have f1:=K1.out.f (g:=w.heap.size) (t:=117) (cs:=#[.int .i64 0,.int .i64 0]) (by simp) 1
   have b0:=K1.out.c (g:=w.heap.size+1) (t:=117) (cs:=#[.int .i64 lo,.int .i64 hi]) (by simp) (i:=0) rfl
   have b1:=K1.out.c (g:=w.heap.size+1) (t:=117) (cs:=#[.int .i64 lo,.int .i64 hi]) (by simp) (i:=1) rfl
   have HB:=Lib.hid K1.out.1;go_wp2;refine bodyPost_ret (v:=.tuple #[.agg #[.int .i64 lo,.int .i64 hi],.int .i64 0]) (by simp [results,Tryz.results205,go_sem,a0,a1]) rfl ⟨rfl,?_⟩
   have hb:=HB.out;go_grown
 . have hv:fxV lo hi=false:=by unfold fxV;simpa using h
   have eV:opV lo hi=.tuple #[.agg #[.int .i64 0,.int .i64 0],.int .i64 5]:=by unfold opV oP o5 nT;rw [if_neg h,if_neg h,if_neg h]
   rw [hv] at C;rw [eV];replace C:=Lib.hid C;clear hv eV h;go_enter Tryz.func205,Tryz.ntmps205;go_wp2_with fail;refine (C.out _).mono ?_;rintro e w1 ⟨rfl,hb⟩;have K1:=Lib.hid (K0.out.below hb);clear hb K0;have a0:=K1.out.c (g:=w.heap.size) (t:=117) (cs:=#[.int .i64 0,.int .i64 0]) (by simp) (i:=0) rfl
   have a1:=K1.out.c (g:=w.heap.size) (t:=117) (cs:=#[.int .i64 0,.int .i64 0]) (by simp) (i:=1) rfl
   have f0:=K1.out.f (g:=w.heap.size) (t:=117) (cs:=#[.int .i64 0,.int .i64 0]) (by simp) 0
   have f1:=K1.out.f (g:=w.heap.size) (t:=117) (cs:=#[.int .i64 0,.int .i64 0]) (by simp) 1
   have HB:=Lib.hid K1.out.1;go_wp2;refine bodyPost_ret (v:=.tuple #[.agg #[.int .i64 0,.int .i64 0],.int .i64 5]) (by simp [results,Tryz.results205,go_sem,a0,a1]) rfl ⟨rfl,?_⟩
   have hb:=HB.out;go_grown
end Go.Proofs.YtdbaccfgkacffaaGreat
namespace Go.Proofs.YtdbaccfgkacffaaGreat
open Go.RowKit Alm
theorem jX (L H:Int):∃ x y z:Int,opV L H=.tuple #[.agg #[.int .i64 x,.int .i64 y],.int .i64 z]:=⟨_,_,_,rfl⟩
theorem OE (P:Program) (w:World) (ts:Array TypeId) (t:TypeId) (x y z u:Int):(Builtin.min_ ts t #[.int .i64 x,.int .i64 y,.int .i64 z,.int .i64 u]).run P w=.ok (.int .i64 (min (min (min x y) z) u)) w:=by
 have e:min (min (min x y) z) u=(if u<(if z<(if y<x then y else x) then z else (if y<x then y else x)) then u else (if z<(if y<x then y else x) then z else (if y<x then y else x))):=by omega
 rw [e];simp [Builtin.min_,Builtin.min2,List.foldlM]
theorem Nw (P:Program) (w:World) (ts:Array TypeId) (t:TypeId) (x y z u:Int):(Builtin.max_ ts t #[.int .i64 x,.int .i64 y,.int .i64 z,.int .i64 u]).run P w=.ok (.int .i64 (max (max (max x y) z) u)) w:=by
 have e:max (max (max x y) z) u=(if (if (if x<y then y else x)<z then z else (if x<y then y else x))<u then u else (if (if x<y then y else x)<z then z else (if x<y then y else x))):=by omega
 rw [e];simp [Builtin.max_,Builtin.max2,List.foldlM]
theorem iQ {lo hi:Int} (h:fxV lo hi=true):-2147483648<=lo/\lo<=hi/\hi<=2147483648:=by unfold fxV at h;simpa using h
theorem WZ (a1 a2 b1 b2:Int) (w:World) (ha:fxV a1 a2=true) (hb:fxV b1 b2=true) :
 Calls Tryz.prog 284 #[.agg #[.int .i64 a1,.int .i64 a2],.agg #[.int .i64 b1,.int .i64 b2]] w fun e w'=>e=.returned (opV (a1+b1) (a2+b2))/\Below w.heap.size w w':=by
 obtain ⟨h1,h2,h3⟩:=iQ ha;obtain ⟨h4,h5,h6⟩:=iQ hb;have CB:=fun w=>zD a1 a2 b1 b2 w
 rw [ha,hb] at CB;replace CB:=Lib.hid CB;clear ha hb;have CF:=fun w=>Gu (a1+b1) (a2+b2) w
 obtain ⟨x,y,z,hE⟩:=jX (a1+b1) (a2+b2);rw [hE] at CF ⊢
 clear hE;replace CF:=Lib.hid CF;have K0:=Lib.hid ((((az w).new w.heap.size rfl 117 #[.int .i64 a1,.int .i64 a2]).new (w.heap.size+1) (by simp) 117 #[.int .i64 b1,.int .i64 b2]).new (w.heap.size+1+1) (by simp) 117 #[.int .i64 0,.int .i64 0])
 go_enter Tryz.func284,Tryz.ntmps284;go_wp2_with fail;refine (CB.out _).mono ?_;rintro e w1 ⟨rfl,hb1⟩;have K1:=Lib.hid (K0.out.below hb1);clear hb1 K0 CB;have a0:=K1.out.c (g:=w.heap.size) (t:=117) (cs:=#[.int .i64 a1,.int .i64 a2]) (by simp) (i:=0) rfl
 have a1:=K1.out.c (g:=w.heap.size) (t:=117) (cs:=#[.int .i64 a1,.int .i64 a2]) (by simp) (i:=1) rfl
 have b0:=K1.out.c (g:=w.heap.size+1) (t:=117) (cs:=#[.int .i64 b1,.int .i64 b2]) (by simp) (i:=0) rfl
 have b1:=K1.out.c (g:=w.heap.size+1) (t:=117) (cs:=#[.int .i64 b1,.int .i64 b2]) (by simp) (i:=1) rfl
 go_wp2_with fail;refine (CF.out _).mono ?_;rintro e w9 ⟨rfl,hb1⟩;have K9:=Lib.hid (K1.out.below hb1);clear hb1 K1 a0 a1 b0 b1;have r0:=K9.out.c (g:=w.heap.size+1+1) (t:=117) (cs:=#[.int .i64 0,.int .i64 0]) (by simp) (i:=0) rfl
 have fr0:=K9.out.f (g:=w.heap.size+1+1) (t:=117) (cs:=#[.int .i64 0,.int .i64 0]) (by simp) 0
 have r1:=K9.out.c (g:=w.heap.size+1+1) (t:=117) (cs:=#[.int .i64 0,.int .i64 0]) (by simp) (i:=1) rfl
 have fr1:=K9.out.f (g:=w.heap.size+1+1) (t:=117) (cs:=#[.int .i64 0,.int .i64 0]) (by simp) 1
 have HB:=Lib.hid K9.out.1;go_wp2;refine bodyPost_ret (v:=.tuple #[.agg #[.int .i64 x,.int .i64 y],.int .i64 z]) (by simp [results,Tryz.results284,go_sem,r0,r1]) rfl ⟨rfl,?_⟩
 have hb:=HB.out;go_grown
theorem Zj (a1 a2 b1 b2:Int) (w:World) (ha:fxV a1 a2=true) (hb:fxV b1 b2=true) :
 Calls Tryz.prog 126 #[.agg #[.int .i64 a1,.int .i64 a2],.agg #[.int .i64 b1,.int .i64 b2]] w fun e w'=>e=.returned (opV (a1-b2) (a2-b1))/\Below w.heap.size w w':=by
 obtain ⟨h1,h2,h3⟩:=iQ ha;obtain ⟨h4,h5,h6⟩:=iQ hb;have CB:=fun w=>zD a1 a2 b1 b2 w
 rw [ha,hb] at CB;replace CB:=Lib.hid CB;clear ha hb;have CF:=fun w=>Gu (a1-b2) (a2-b1) w
 obtain ⟨x,y,z,hE⟩:=jX (a1-b2) (a2-b1);rw [hE] at CF ⊢
 clear hE;replace CF:=Lib.hid CF;have K0:=Lib.hid ((((az w).new w.heap.size rfl 117 #[.int .i64 a1,.int .i64 a2]).new (w.heap.size+1) (by simp) 117 #[.int .i64 b1,.int .i64 b2]).new (w.heap.size+1+1) (by simp) 117 #[.int .i64 0,.int .i64 0])
 go_enter Tryz.func126,Tryz.ntmps126;go_wp2_with fail;refine (CB.out _).mono ?_;rintro e w1 ⟨rfl,hb1⟩;have K1:=Lib.hid (K0.out.below hb1);clear hb1 K0 CB;have a0:=K1.out.c (g:=w.heap.size) (t:=117) (cs:=#[.int .i64 a1,.int .i64 a2]) (by simp) (i:=0) rfl
 have a1:=K1.out.c (g:=w.heap.size) (t:=117) (cs:=#[.int .i64 a1,.int .i64 a2]) (by simp) (i:=1) rfl
 have b0:=K1.out.c (g:=w.heap.size+1) (t:=117) (cs:=#[.int .i64 b1,.int .i64 b2]) (by simp) (i:=0) rfl
 have b1:=K1.out.c (g:=w.heap.size+1) (t:=117) (cs:=#[.int .i64 b1,.int .i64 b2]) (by simp) (i:=1) rfl
 go_wp2_with fail;refine (CF.out _).mono ?_;rintro e w9 ⟨rfl,hb1⟩;have K9:=Lib.hid (K1.out.below hb1);clear hb1 K1 a0 a1 b0 b1;have r0:=K9.out.c (g:=w.heap.size+1+1) (t:=117) (cs:=#[.int .i64 0,.int .i64 0]) (by simp) (i:=0) rfl
 have fr0:=K9.out.f (g:=w.heap.size+1+1) (t:=117) (cs:=#[.int .i64 0,.int .i64 0]) (by simp) 0
 have r1:=K9.out.c (g:=w.heap.size+1+1) (t:=117) (cs:=#[.int .i64 0,.int .i64 0]) (by simp) (i:=1) rfl
 have fr1:=K9.out.f (g:=w.heap.size+1+1) (t:=117) (cs:=#[.int .i64 0,.int .i64 0]) (by simp) 1
 have HB:=Lib.hid K9.out.1;go_wp2;refine bodyPost_ret (v:=.tuple #[.agg #[.int .i64 x,.int .i64 y],.int .i64 z]) (by simp [results,Tryz.results126,go_sem,r0,r1]) rfl ⟨rfl,?_⟩
 have hb:=HB.out;go_grown
theorem X6 (a1 a2 b1 b2:Int) (w:World) (ha:fxV a1 a2=true) (hb:fxV b1 b2=true) :
 Calls Tryz.prog 124 #[.agg #[.int .i64 a1,.int .i64 a2],.agg #[.int .i64 b1,.int .i64 b2]] w fun e w'=>e=.returned (opV (jJ a1 a2 b1 b2) (jO a1 a2 b1 b2))/\Below w.heap.size w w':=by
 obtain ⟨h1,h2,h3⟩:=iQ ha;obtain ⟨h4,h5,h6⟩:=iQ hb;have CB:=fun w=>zD a1 a2 b1 b2 w
 rw [ha,hb] at CB;replace CB:=Lib.hid CB;clear ha hb;have m1:=fA a1 b1 2147483648 2147483648 (by omega) (by omega)
 have m2:=fA a1 b2 2147483648 2147483648 (by omega) (by omega)
 have m3:=fA a2 b1 2147483648 2147483648 (by omega) (by omega)
 have m4:=fA a2 b2 2147483648 2147483648 (by omega) (by omega)
 obtain ⟨p1,p2⟩:=m1;obtain ⟨p3,p4⟩:=m2;obtain ⟨p5,p6⟩:=m3;obtain ⟨p7,p8⟩:=m4;have CF:=fun w=>Gu (jJ a1 a2 b1 b2) (jO a1 a2 b1 b2) w
 have C1:=fun w=>Df (mn4 a1 a2 b1 b2) 1073741824 w (by unfold mn4;omega) (by unfold mn4;omega) (by omega) (by omega)
 have C2:=fun w=>R6 (mx4 a1 a2 b1 b2) 1073741824 w (by unfold mx4;omega) (by unfold mx4;omega) (by omega) (by omega)
 rw [show mn4 a1 a2 b1 b2/1073741824=jJ a1 a2 b1 b2 from rfl] at C1
 rw [show -((-(mx4 a1 a2 b1 b2))/1073741824)=jO a1 a2 b1 b2 from rfl] at C2
 unfold mn4 at C1;unfold mx4 at C2;obtain ⟨x,y,z,hE⟩:=jX (jJ a1 a2 b1 b2) (jO a1 a2 b1 b2);rw [hE] at CF ⊢
 clear hE;replace CF:=Lib.hid CF;have K0:=Lib.hid ((((az w).new w.heap.size rfl 117 #[.int .i64 a1,.int .i64 a2]).new (w.heap.size+1) (by simp) 117 #[.int .i64 b1,.int .i64 b2]).new (w.heap.size+1+1) (by simp) 117 #[.int .i64 0,.int .i64 0])
 generalize jJ a1 a2 b1 b2=L at *
 generalize jO a1 a2 b1 b2=H at *
 replace C1:=Lib.hid C1;replace C2:=Lib.hid C2;go_enter Tryz.func124,Tryz.ntmps124;go_wp2_with fail;refine (CB.out _).mono ?_;rintro e w1 ⟨rfl,hb1⟩;have K1:=Lib.hid (K0.out.below hb1);clear hb1 K0 CB;have a0:=K1.out.c (g:=w.heap.size) (t:=117) (cs:=#[.int .i64 a1,.int .i64 a2]) (by simp) (i:=0) rfl
 have a1:=K1.out.c (g:=w.heap.size) (t:=117) (cs:=#[.int .i64 a1,.int .i64 a2]) (by simp) (i:=1) rfl
 have b0:=K1.out.c (g:=w.heap.size+1) (t:=117) (cs:=#[.int .i64 b1,.int .i64 b2]) (by simp) (i:=0) rfl
 have b1:=K1.out.c (g:=w.heap.size+1) (t:=117) (cs:=#[.int .i64 b1,.int .i64 b2]) (by simp) (i:=1) rfl
 go_wp2;go_quiet (fail);have K2:=Lib.hid (K1.out.drewN nq);clear K1 a0 a1 b0 b1 p1 p2 p3 p4 p5 p6 p7 p8;generalize a1*b1=P1 at *
 generalize a1*b2=P2 at *
 generalize a2*b1=P3 at *
 generalize a2*b2=P4 at *
 have RM:=fun w=>OE Tryz.prog w #[ 3,3,3,3] 3 P1 P2 P3 P4
 have RX:=fun w=>Nw Tryz.prog w #[ 3,3,3,3] 3 P1 P2 P3 P4
 generalize min (min (min P1 P2) P3) P4=M at *
 generalize max (max (max P1 P2) P3) P4=N at *
 go_wp2_with fail;refine (C1.out _).mono ?_;rintro e w' ⟨rfl,rfl⟩;go_wp2_with fail;refine (C2.out _).mono ?_;rintro e w' ⟨rfl,rfl⟩;go_wp2_with fail;refine (CF.out _).mono ?_;rintro e w9 ⟨rfl,hb1⟩;have K9:=Lib.hid (K2.out.below hb1);clear hb1 K2;have r0:=K9.out.c (g:=w.heap.size+1+1) (t:=117) (cs:=#[.int .i64 0,.int .i64 0]) (by simp) (i:=0) rfl
 have fr0:=K9.out.f (g:=w.heap.size+1+1) (t:=117) (cs:=#[.int .i64 0,.int .i64 0]) (by simp) 0
 have r1:=K9.out.c (g:=w.heap.size+1+1) (t:=117) (cs:=#[.int .i64 0,.int .i64 0]) (by simp) (i:=1) rfl
 have fr1:=K9.out.f (g:=w.heap.size+1+1) (t:=117) (cs:=#[.int .i64 0,.int .i64 0]) (by simp) 1
 have HB:=Lib.hid K9.out.1;go_wp2;refine bodyPost_ret (v:=.tuple #[.agg #[.int .i64 x,.int .i64 y],.int .i64 z]) (by simp [results,Tryz.results124,go_sem,r0,r1]) rfl ⟨rfl,?_⟩
 have hb:=HB.out;go_grown
end Go.Proofs.YtdbaccfgkacffaaGreat
namespace Go.Proofs.YtdbaccfgkacffaaGreat
open Go.RowKit Alm
theorem Bf (lo hi:Int) (w:World) (hl:lo<=hi) :
 Calls Tryz.prog 280 #[.int .i64 lo,.int .i64 hi] w fun e w'=>e=.returned (opV lo hi)/\Below w.heap.size w w':=by
 by_cases h:-2147483648<=lo/\lo<=hi/\hi<=2147483648
 . have eV:opV lo hi=.tuple #[.agg #[.int .i64 lo,.int .i64 hi],.int .i64 0]:=by unfold opV oP o5 nT;rw [if_pos h,if_pos h,if_pos h]
   rw [eV];clear eV;obtain ⟨h1,h2,h3⟩:=h;go_enter Tryz.func280,Tryz.ntmps280;go_wp2;refine bodyPost_ret (v:=.tuple #[.agg #[.int .i64 lo,.int .i64 hi],.int .i64 0]) (by simp [results,Tryz.results280,go_sem]) rfl ⟨rfl,by go_grown⟩
 . have eV:opV lo hi=.tuple #[.agg #[.int .i64 0,.int .i64 0],.int .i64 5]:=by unfold opV oP o5 nT;rw [if_neg h,if_neg h,if_neg h]
   rw [eV];clear eV
   by_cases h1:lo < -2147483648
   . go_enter Tryz.func280,Tryz.ntmps280;go_wp2;refine bodyPost_ret (v:=.tuple #[.agg #[.int .i64 0,.int .i64 0],.int .i64 5]) (by simp [results,Tryz.results280,go_sem]) rfl ⟨rfl,by go_grown⟩
   . have h2:2147483648<hi:=by omega
     clear h;go_enter Tryz.func280,Tryz.ntmps280;go_wp2;refine bodyPost_ret (v:=.tuple #[.agg #[.int .i64 0,.int .i64 0],.int .i64 5]) (by simp [results,Tryz.results280,go_sem]) rfl ⟨rfl,by go_grown⟩
theorem Rj (a b:Int) (w:World) (h1:-4611686018427387904<=a) (h2:a<=4611686018427387904) (hb:0<b) (hb2:b<=4611686018427387904) :
 Calls Tryz.prog 282 #[.int .i64 a,.int .i64 b] w fun e w'=>e=.returned (.int .i64 (-((-a)/b)))/\w=w':=by
 have C:=Lib.hid (fun w=>nC (-a) b w (by omega) (by omega) hb hb2)
 have q:=Ad (-a) b 4611686018427387904 hb (by omega) (by omega)
 obtain ⟨q1,q2⟩:=q;generalize (-a)/b=F at *
 go_enter Tryz.func282,Tryz.ntmps282;go_wp2_with fail;refine (C.out _).mono ?_;rintro e w' ⟨rfl,rfl⟩;go_wp2;go_ret;exact ⟨rfl,rfl⟩
theorem VN (a1 a2 b1 b2:Int) (w:World) (ha:fxV a1 a2=true) (hb:fxV b1 b2=true) :
 Calls Tryz.prog 288 #[.agg #[.int .i64 a1,.int .i64 a2],.agg #[.int .i64 b1,.int .i64 b2]] w fun e w'=>e=.returned (opV (a1+b1) (a2+b2))/\Below w.heap.size w w':=by
 obtain ⟨h1,h2,h3⟩:=iQ ha;obtain ⟨h4,h5,h6⟩:=iQ hb;clear ha hb;have CF:=fun w=>Bf (a1+b1) (a2+b2) w (by omega)
 obtain ⟨x,y,z,hE⟩:=jX (a1+b1) (a2+b2);rw [hE] at CF ⊢
 clear hE;replace CF:=Lib.hid CF;have K0:=Lib.hid ((((az w).new w.heap.size rfl 117 #[.int .i64 a1,.int .i64 a2]).new (w.heap.size+1) (by simp) 117 #[.int .i64 b1,.int .i64 b2]).new (w.heap.size+1+1) (by simp) 117 #[.int .i64 0,.int .i64 0])
 go_enter Tryz.func288,Tryz.ntmps288;go_wp2_with fail;refine (CF.out _).mono ?_;rintro e w9 ⟨rfl,hb1⟩;have K9:=Lib.hid (K0.out.below hb1);clear hb1 K0;have r0:=K9.out.c (g:=w.heap.size+1+1) (t:=117) (cs:=#[.int .i64 0,.int .i64 0]) (by simp) (i:=0) rfl
 have fr0:=K9.out.f (g:=w.heap.size+1+1) (t:=117) (cs:=#[.int .i64 0,.int .i64 0]) (by simp) 0
 have r1:=K9.out.c (g:=w.heap.size+1+1) (t:=117) (cs:=#[.int .i64 0,.int .i64 0]) (by simp) (i:=1) rfl
 have fr1:=K9.out.f (g:=w.heap.size+1+1) (t:=117) (cs:=#[.int .i64 0,.int .i64 0]) (by simp) 1
 have HB:=Lib.hid K9.out.1;go_wp2;refine bodyPost_ret (v:=.tuple #[.agg #[.int .i64 x,.int .i64 y],.int .i64 z]) (by simp [results,Tryz.results288,go_sem,r0,r1]) rfl ⟨rfl,?_⟩
 have hb:=HB.out;go_grown
theorem VQ (a1 a2 b1 b2:Int) (w:World) (ha:fxV a1 a2=true) (hb:fxV b1 b2=true) :
 Calls Tryz.prog 237 #[.agg #[.int .i64 a1,.int .i64 a2],.agg #[.int .i64 b1,.int .i64 b2]] w fun e w'=>e=.returned (opV (a1-b2) (a2-b1))/\Below w.heap.size w w':=by
 obtain ⟨h1,h2,h3⟩:=iQ ha;obtain ⟨h4,h5,h6⟩:=iQ hb;clear ha hb;have CF:=fun w=>Bf (a1-b2) (a2-b1) w (by omega)
 obtain ⟨x,y,z,hE⟩:=jX (a1-b2) (a2-b1);rw [hE] at CF ⊢
 clear hE;replace CF:=Lib.hid CF;have K0:=Lib.hid ((((az w).new w.heap.size rfl 117 #[.int .i64 a1,.int .i64 a2]).new (w.heap.size+1) (by simp) 117 #[.int .i64 b1,.int .i64 b2]).new (w.heap.size+1+1) (by simp) 117 #[.int .i64 0,.int .i64 0])
 go_enter Tryz.func237,Tryz.ntmps237;go_wp2_with fail;refine (CF.out _).mono ?_;rintro e w9 ⟨rfl,hb1⟩;have K9:=Lib.hid (K0.out.below hb1);clear hb1 K0;have r0:=K9.out.c (g:=w.heap.size+1+1) (t:=117) (cs:=#[.int .i64 0,.int .i64 0]) (by simp) (i:=0) rfl
 have fr0:=K9.out.f (g:=w.heap.size+1+1) (t:=117) (cs:=#[.int .i64 0,.int .i64 0]) (by simp) 0
 have r1:=K9.out.c (g:=w.heap.size+1+1) (t:=117) (cs:=#[.int .i64 0,.int .i64 0]) (by simp) (i:=1) rfl
 have fr1:=K9.out.f (g:=w.heap.size+1+1) (t:=117) (cs:=#[.int .i64 0,.int .i64 0]) (by simp) 1
 have HB:=Lib.hid K9.out.1;go_wp2;refine bodyPost_ret (v:=.tuple #[.agg #[.int .i64 x,.int .i64 y],.int .i64 z]) (by simp [results,Tryz.results237,go_sem,r0,r1]) rfl ⟨rfl,?_⟩
 have hb:=HB.out;go_grown
theorem Vi (a1 a2 b1 b2:Int) (w:World) (ha:fxV a1 a2=true) (hb:fxV b1 b2=true) :
 Calls Tryz.prog 214 #[.agg #[.int .i64 a1,.int .i64 a2],.agg #[.int .i64 b1,.int .i64 b2]] w fun e w'=>e=.returned (opV (jJ a1 a2 b1 b2) (jO a1 a2 b1 b2))/\Below w.heap.size w w':=by
 obtain ⟨h1,h2,h3⟩:=iQ ha;obtain ⟨h4,h5,h6⟩:=iQ hb;clear ha hb;have m1:=fA a1 b1 2147483648 2147483648 (by omega) (by omega)
 have m2:=fA a1 b2 2147483648 2147483648 (by omega) (by omega)
 have m3:=fA a2 b1 2147483648 2147483648 (by omega) (by omega)
 have m4:=fA a2 b2 2147483648 2147483648 (by omega) (by omega)
 obtain ⟨p1,p2⟩:=m1;obtain ⟨p3,p4⟩:=m2;obtain ⟨p5,p6⟩:=m3;obtain ⟨p7,p8⟩:=m4;have CF:=fun w=>Bf (jJ a1 a2 b1 b2) (jO a1 a2 b1 b2) w (Ib _ _ _ _)
 have C1:=fun w=>nC (mn4 a1 a2 b1 b2) 1073741824 w (by unfold mn4;omega) (by unfold mn4;omega) (by omega) (by omega)
 have C2:=fun w=>Rj (mx4 a1 a2 b1 b2) 1073741824 w (by unfold mx4;omega) (by unfold mx4;omega) (by omega) (by omega)
 rw [show mn4 a1 a2 b1 b2/1073741824=jJ a1 a2 b1 b2 from rfl] at C1
 rw [show -((-(mx4 a1 a2 b1 b2))/1073741824)=jO a1 a2 b1 b2 from rfl] at C2
 have en:mn4 a1 a2 b1 b2=min (a1*b1) (min (a1*b2) (min (a2*b1) (a2*b2))):=by unfold mn4;omega
 have ex:mx4 a1 a2 b1 b2=max (a1*b1) (max (a1*b2) (max (a2*b1) (a2*b2))):=by unfold mx4;omega
 rw [en] at C1;rw [ex] at C2;clear en ex;obtain ⟨x,y,z,hE⟩:=jX (jJ a1 a2 b1 b2) (jO a1 a2 b1 b2);rw [hE] at CF ⊢
 clear hE;replace CF:=Lib.hid CF;have K0:=Lib.hid ((((az w).new w.heap.size rfl 117 #[.int .i64 a1,.int .i64 a2]).new (w.heap.size+1) (by simp) 117 #[.int .i64 b1,.int .i64 b2]).new (w.heap.size+1+1) (by simp) 117 #[.int .i64 0,.int .i64 0])
 generalize jJ a1 a2 b1 b2=L at *
 generalize jO a1 a2 b1 b2=H at *
 replace C1:=Lib.hid C1;replace C2:=Lib.hid C2;have CL:=Lib.hid Rp;have CX:=Lib.hid ZK;go_enter Tryz.func214,Tryz.ntmps214;go_wp2;generalize (((w.alloc (.cells #[.int .i64 a1,.int .i64 a2] 117)).alloc (.cells #[.int .i64 b1,.int .i64 b2] 117)).alloc (.cells #[.int .i64 0,.int .i64 0] 117))=wq at *
 have u0:=K0.out.c (g:=w.heap.size) (t:=117) (cs:=#[.int .i64 a1,.int .i64 a2]) (by simp) (i:=0) rfl
 have u1:=K0.out.c (g:=w.heap.size) (t:=117) (cs:=#[.int .i64 a1,.int .i64 a2]) (by simp) (i:=1) rfl
 have v0:=K0.out.c (g:=w.heap.size+1) (t:=117) (cs:=#[.int .i64 b1,.int .i64 b2]) (by simp) (i:=0) rfl
 have v1:=K0.out.c (g:=w.heap.size+1) (t:=117) (cs:=#[.int .i64 b1,.int .i64 b2]) (by simp) (i:=1) rfl
 go_quiet (fail);have K2:=Lib.hid (K0.out.drewN nq);clear K0 u0 u1 v0 v1 p1 p2 p3 p4 p5 p6 p7 p8;generalize a1*b1=P1 at *
 generalize a1*b2=P2 at *
 generalize a2*b1=P3 at *
 generalize a2*b2=P4 at *
 go_wp2_with fail;refine (CL.out _ _ _).mono ?_;rintro e w' ⟨rfl,rfl⟩;go_wp2_with fail;refine (CL.out _ _ _).mono ?_;rintro e w' ⟨rfl,rfl⟩;go_wp2_with fail;refine (CL.out _ _ _).mono ?_;rintro e w' ⟨rfl,rfl⟩;go_wp2_with fail;refine (CX.out _ _ _).mono ?_;rintro e w' ⟨rfl,rfl⟩;go_wp2_with fail;refine (CX.out _ _ _).mono ?_;rintro e w' ⟨rfl,rfl⟩;go_wp2_with fail;refine (CX.out _ _ _).mono ?_;rintro e w' ⟨rfl,rfl⟩;go_wp2_with fail;refine (C1.out _).mono ?_;rintro e w' ⟨rfl,rfl⟩;go_wp2_with fail;refine (C2.out _).mono ?_;rintro e w' ⟨rfl,rfl⟩;go_wp2_with fail;refine (CF.out _).mono ?_;rintro e w9 ⟨rfl,hb1⟩;have K9:=Lib.hid (K2.out.below hb1);clear hb1 K2;have r0:=K9.out.c (g:=w.heap.size+1+1) (t:=117) (cs:=#[.int .i64 0,.int .i64 0]) (by simp) (i:=0) rfl
 have fr0:=K9.out.f (g:=w.heap.size+1+1) (t:=117) (cs:=#[.int .i64 0,.int .i64 0]) (by simp) 0
 have r1:=K9.out.c (g:=w.heap.size+1+1) (t:=117) (cs:=#[.int .i64 0,.int .i64 0]) (by simp) (i:=1) rfl
 have fr1:=K9.out.f (g:=w.heap.size+1+1) (t:=117) (cs:=#[.int .i64 0,.int .i64 0]) (by simp) 1
 have HB:=Lib.hid K9.out.1;go_wp2;refine bodyPost_ret (v:=.tuple #[.agg #[.int .i64 x,.int .i64 y],.int .i64 z]) (by simp [results,Tryz.results214,go_sem,r0,r1]) rfl ⟨rfl,?_⟩
 have hb:=HB.out;go_grown
end Go.Proofs.YtdbaccfgkacffaaGreat
namespace Alm
def rtF:Nat->Int->Int->Int
 | 0,k,_=>k
 | j+1,k,n=>if (k+2^j)*(k+2^j)<=n then rtF j (k+2^j) n else rtF j k n
def rtV (n:Int):Int:=rtF 32 0 n
theorem Nq (j:Nat) (k n:Int):rtF (j+1) k n=if (k+2^j)*(k+2^j)<=n then rtF j (k+2^j) n else rtF j k n:=rfl
theorem Zn (j:Nat) (k n:Int) (h0:0<=k) (h1:k*k<=n) (h2:n<(k+2^j)*(k+2^j)):0<=rtF j k n/\rtF j k n*rtF j k n<=n/\n<(rtF j k n+1)*(rtF j k n+1):=by
 induction j generalizing k with
 | zero=>simpa [rtF] using ⟨h0,h1,h2⟩
 | succ j ih =>
  rw [Nq];have hp:(0:Int)<2^j:=Int.pow_pos (by decide)
  have e:(2:Int)^(j+1)=2^j+2^j:=by rw [Int.pow_succ];omega
  rw [e] at h2;split
  . rename_i h
    exact ih (k+2^j) (by omega) h (by rw [show k+2^j+2^j=k+(2^j+2^j) by omega];exact h2)
  . rename_i h
    exact ih k h0 h1 (by omega)
theorem YR (n:Int) (h0:0<=n) (h1:n<=2305843009213693952):0<=rtV n/\rtV n*rtV n<=n/\n<(rtV n+1)*(rtV n+1) :=
 Zn 32 0 n (by omega) (by omega) (by simp;omega)
end Alm
namespace Go.Proofs.YtdbaccfgkacffaaGreat
open Go.RowKit Alm
end Go.Proofs.YtdbaccfgkacffaaGreat
namespace Alm
def sqL (a b:Int):Int:=(if a<=0/\0<=b then 0 else min (a*a) (b*b))/1073741824
def sqH (a b:Int):Int:=-((-(max (a*a) (b*b)))/1073741824)
def rtL (a b:Int):Int:=rtV (max 0 a*1073741824)
def rtH (a b:Int):Int:=if rtV (b*1073741824)*rtV (b*1073741824)<b*1073741824 then rtV (b*1073741824)+1 else rtV (b*1073741824)
end Alm
namespace Go.Proofs.YtdbaccfgkacffaaGreat
open Go.RowKit Alm
end Go.Proofs.YtdbaccfgkacffaaGreat
namespace Go.Proofs.YtdbaccfgkacffaaGreat
open Go.RowKit Alm
