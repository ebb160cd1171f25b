/- The contracts of the reference of package fixed: least, most, floor. -/
import Derived.Test.YtmldbeipmappnaaZWides
import Derived.Test.YtmldbeipmappnaaZKp
import Derived.Deep.Light
import Derived.BigRegion
set_option linter.unusedVariables false
set_option linter.unusedSimpArgs false
set_option maxRecDepth 100000
set_option maxHeartbeats 4000000
namespace Go.Proofs.Ytmldbeipmappnaa
open Go.RowKit Alm
theorem OW (P y B:Int) (hy:0<y) (h1:-B<=P) (h2:P<=B):-B<=P/y/\P/y<=B:=by
 have m:=Int.mul_le_mul_of_nonneg_left (show 1<=y by omega) (show 0<=B by omega)
 have e:-B*y=-(B*y):=Int.neg_mul _ _;exact ⟨Int.le_ediv_of_mul_le hy (by omega),Int.ediv_le_of_le_mul hy (by omega)⟩
theorem Le (a b:Int) (hb:0<b) (M:Int) (h1:-M<=a) (h2:a<=M):-M<=a.tdiv b/\a.tdiv b<=M:=by
 have hM:0<=M:=by omega
 have h:(a.tdiv b).natAbs=a.natAbs/b.natAbs:=Int.natAbs_tdiv a b;have h3:a.natAbs/b.natAbs<=a.natAbs:=Nat.div_le_self _ _;generalize a.natAbs/b.natAbs=q at *
 omega
end Go.Proofs.Ytmldbeipmappnaa
namespace Alm
theorem Cv (a b:Int) (hb:0<b):(a.tmod b≠0->a<0->a.tdiv b-1=a/b)/\(a.tmod b=0->a.tdiv b=a/b)/\(0<=a->a.tdiv b=a/b):=by
 have hs:=Int.mul_tdiv_add_tmod a b;have h2:=Int.tmod_lt_of_pos a hb;have hd:=Int.mul_ediv_add_emod a b;have e0:=Int.emod_nonneg a (show b≠0 by omega)
 have e1:=Int.emod_lt_of_pos a hb;refine ⟨fun h hn=>?_,fun h=>?_,fun h=>Int.tdiv_eq_ediv_of_nonneg h⟩
 . have h3:a.tmod b<=0:=by
    have h:=Int.neg_tmod (-a) b;rw [Int.neg_neg] at h;have:=Int.tmod_nonneg b (show 0<=-a by omega)
    omega
   have h4:-b<a.tmod b:=by
    have h:=Int.neg_tmod (-a) b;rw [Int.neg_neg] at h;have:=Int.tmod_lt_of_pos (-a) hb;omega
   symm
   rw [Int.ediv_eq_iff_of_pos hb];have:b*a.tdiv b=a.tdiv b*b:=Int.mul_comm _ _
   constructor<;>grind
 . rw [h,Int.add_zero] at hs;exact (Int.ediv_eq_of_eq_mul_right (by omega) hs.symm).symm
def nX (lo hi:Int):Int:=if -2147483648<=lo/\lo<=hi/\hi<=2147483648 then lo else 0
def ou (lo hi:Int):Int:=if -2147483648<=lo/\lo<=hi/\hi<=2147483648 then hi else 0
def lY (lo hi:Int):Int:=if -2147483648<=lo/\lo<=hi/\hi<=2147483648 then 0 else 5
def mn4 (a b c d:Int):Int:=min (min (min (a*c) (a*d)) (b*c)) (b*d)
def mx4 (a b c d:Int):Int:=max (max (max (a*c) (a*d)) (b*c)) (b*d)
def fI (a b c d:Int):Int:=mn4 a b c d/1073741824
def gH (a b c d:Int):Int:=-((-(mx4 a b c d))/1073741824)
theorem Mx (a b c d:Int):fI a b c d<=gH a b c d:=by
 have:mn4 a b c d<=mx4 a b c d:=by unfold mn4 mx4;omega
 unfold fI gH;generalize mn4 a b c d=x at *
 generalize mx4 a b c d=y at *
 omega
theorem jh (x y A B:Int) (hx:-A<=x/\x<=A) (hy:-B<=y/\y<=B):-(A*B)<=x*y/\x*y<=A*B:=by
 have k1:=Int.mul_nonneg (show 0<=A-x by omega) (show 0<=B+y by omega)
 have k2:=Int.mul_nonneg (show 0<=A+x by omega) (show 0<=B-y by omega)
 have k3:=Int.mul_nonneg (show 0<=A-x by omega) (show 0<=B-y by omega)
 have k4:=Int.mul_nonneg (show 0<=A+x by omega) (show 0<=B+y by omega)
 constructor<;>grind
end Alm
namespace Go.Proofs.Ytmldbeipmappnaa
open Go.RowKit Alm
def opV (L H:Int):Value:=.tuple #[.agg #[.int .i64 (nX L H),.int .i64 (ou L H)],.int .i64 (lY L H)]
theorem nG (a b:Int) (w:World) (h1:-4611686018427387904<=a) (h2:a<=4611686018427387904) (hb:0<b) (hb2:b<=4611686018427387904) :
 Calls Try.prog 160 #[.int .i64 a,.int .i64 b] w fun e w'=>e=.returned (.int .i64 (a/b))/\w=w':=by
 have hf:=Lib.hid (Cv a b hb);obtain ⟨t1,t2⟩:=Le a b hb 4611686018427387904 h1 h2;have hbz:¬ b=0:=by omega
 have hb0:0<=b:=by omega
 have hbn:decide (b<0)=false:=by simp;omega
 generalize hF:a/b=F at *
 have HF:=Lib.hid hF;clear hF
 by_cases ha:a<0
 . by_cases hm:a.tmod b=0
   . go_enter Try.func160,Try.ntmps160;go_wp2;go_ret;exact ⟨iD (hf.out.2.1 hm),rfl⟩
   . have HM:=Lib.hid hm;have hm2:(a.tmod b != 0)=true:=by simpa using hm
     go_enter Try.func160,Try.ntmps160;go_wp2;go_ret;exact ⟨iD (hf.out.1 HM.out ha),rfl⟩
 . have ha0:0<=a:=by omega
   go_enter Try.func160,Try.ntmps160;go_wp2
   all_goals
    go_ret;exact ⟨iD (by first|(have:=hf.out.2.2 ha0;omega)|(rw [HF.out])|exact HF.out),rfl⟩
theorem yD (a b:Int) (w:World) (h1:-4611686018427387904<=a) (h2:a<=4611686018427387904) (hb:0<b) (hb2:b<=4611686018427387904) :
 Calls Try.prog 161 #[.int .i64 a,.int .i64 b] w fun e w'=>e=.returned (.int .i64 (-((-a)/b)))/\w=w':=by
 have C:=Lib.hid (fun w=>nG (-a) b w (by omega) (by omega) hb hb2)
 have q:=OW (-a) b 4611686018427387904 hb (by omega) (by omega)
 obtain ⟨q1,q2⟩:=q;generalize (-a)/b=F at *
 go_enter Try.func161,Try.ntmps161;go_wp2_with fail;refine (C.out _).mono ?_;rintro e w' ⟨rfl,rfl⟩;go_wp2;go_ret;exact ⟨rfl,rfl⟩
theorem rC (lo hi:Int) (w:World) :
 Calls Try.prog 159 #[.int .i64 lo,.int .i64 hi] w fun e w'=>e=.returned (opV lo hi)/\Below w.heap.size w w':=by
 have C:=fun w=>dE lo hi w
 have K0:=Lib.hid (((bK w).new w.heap.size rfl 87 #[.int .i64 0,.int .i64 0]).new (w.heap.size+1) (by simp) 87 #[.int .i64 lo,.int .i64 hi])
 by_cases h:-2147483648<=lo/\lo<=hi/\hi<=2147483648
 . have hv:fxV lo hi=true:=by unfold fxV;simpa using h
   have eV:opV lo hi=.tuple #[.agg #[.int .i64 lo,.int .i64 hi],.int .i64 0]:=by unfold opV nX ou lY;rw [if_pos h,if_pos h,if_pos h]
   rw [hv] at C;rw [eV];replace C:=Lib.hid C;clear hv eV h;go_enter Try.func159,Try.ntmps159;go_wp2_with fail;refine (C.out _).mono ?_;rintro e w1 ⟨rfl,hb⟩;have K1:=Lib.hid (K0.out.below hb);clear hb K0;have a0:=K1.out.c (g:=w.heap.size) (t:=87) (cs:=#[.int .i64 0,.int .i64 0]) (by simp) (i:=0) rfl
   have a1:=K1.out.c (g:=w.heap.size) (t:=87) (cs:=#[.int .i64 0,.int .i64 0]) (by simp) (i:=1) rfl
   have f0:=K1.out.f (g:=w.heap.size) (t:=87) (cs:=#[.int .i64 0,.int .i64 0]) (by simp) 0
   have f1:=K1.out.f (g:=w.heap.size) (t:=87) (cs:=#[.int .i64 0,.int .i64 0]) (by simp) 1
   have b0:=K1.out.c (g:=w.heap.size+1) (t:=87) (cs:=#[.int .i64 lo,.int .i64 hi]) (by simp) (i:=0) rfl
   have b1:=K1.out.c (g:=w.heap.size+1) (t:=87) (cs:=#[.int .i64 lo,.int .i64 hi]) (by simp) (i:=1) rfl
   have HB:=Lib.hid K1.out.1;go_wp2;refine bodyPost_ret (v:=.tuple #[.agg #[.int .i64 lo,.int .i64 hi],.int .i64 0]) (by simp [results,Try.results159,go_sem,a0,a1]) rfl ⟨rfl,?_⟩
   have hb:=HB.out;go_grown
 . have hv:fxV lo hi=false:=by unfold fxV;simpa using h
   have eV:opV lo hi=.tuple #[.agg #[.int .i64 0,.int .i64 0],.int .i64 5]:=by unfold opV nX ou lY;rw [if_neg h,if_neg h,if_neg h]
   rw [hv] at C;rw [eV];replace C:=Lib.hid C;clear hv eV h;go_enter Try.func159,Try.ntmps159;go_wp2_with fail;refine (C.out _).mono ?_;rintro e w1 ⟨rfl,hb⟩;have K1:=Lib.hid (K0.out.below hb);clear hb K0;have a0:=K1.out.c (g:=w.heap.size) (t:=87) (cs:=#[.int .i64 0,.int .i64 0]) (by simp) (i:=0) rfl
   have a1:=K1.out.c (g:=w.heap.size) (t:=87) (cs:=#[.int .i64 0,.int .i64 0]) (by simp) (i:=1) rfl
   have f0:=K1.out.f (g:=w.heap.size) (t:=87) (cs:=#[.int .i64 0,.int .i64 0]) (by simp) 0
   have f1:=K1.out.f (g:=w.heap.size) (t:=87) (cs:=#[.int .i64 0,.int .i64 0]) (by simp) 1
   have HB:=Lib.hid K1.out.1;go_wp2;refine bodyPost_ret (v:=.tuple #[.agg #[.int .i64 0,.int .i64 0],.int .i64 5]) (by simp [results,Try.results159,go_sem,a0,a1]) rfl ⟨rfl,?_⟩
   have hb:=HB.out;go_grown
end Go.Proofs.Ytmldbeipmappnaa
namespace Go.Proofs.Ytmldbeipmappnaa
open Go.RowKit Alm
theorem kv (L H:Int):∃ x y z:Int,opV L H=.tuple #[.agg #[.int .i64 x,.int .i64 y],.int .i64 z]:=⟨_,_,_,rfl⟩
theorem Ht (P:Program) (w:World) (ts:Array TypeId) (t:TypeId) (x y z u:Int):(Builtin.min_ ts t #[.int .i64 x,.int .i64 y,.int .i64 z,.int .i64 u]).run P w=.ok (.int .i64 (min (min (min x y) z) u)) w:=by
 have e:min (min (min x y) z) u=(if u<(if z<(if y<x then y else x) then z else (if y<x then y else x)) then u else (if z<(if y<x then y else x) then z else (if y<x then y else x))):=by omega
 rw [e];simp [Builtin.min_,Builtin.min2,List.foldlM]
theorem J5 (P:Program) (w:World) (ts:Array TypeId) (t:TypeId) (x y z u:Int):(Builtin.max_ ts t #[.int .i64 x,.int .i64 y,.int .i64 z,.int .i64 u]).run P w=.ok (.int .i64 (max (max (max x y) z) u)) w:=by
 have e:max (max (max x y) z) u=(if (if (if x<y then y else x)<z then z else (if x<y then y else x))<u then u else (if (if x<y then y else x)<z then z else (if x<y then y else x))):=by omega
 rw [e];simp [Builtin.max_,Builtin.max2,List.foldlM]
theorem jN {lo hi:Int} (h:fxV lo hi=true):-2147483648<=lo/\lo<=hi/\hi<=2147483648:=by unfold fxV at h;simpa using h
theorem Rb (a1 a2 b1 b2:Int) (w:World) (ha:fxV a1 a2=true) (hb:fxV b1 b2=true) :
 Calls Try.prog 107 #[.agg #[.int .i64 a1,.int .i64 a2],.agg #[.int .i64 b1,.int .i64 b2]] w fun e w'=>e=.returned (opV (a1+b1) (a2+b2))/\Below w.heap.size w w':=by
 obtain ⟨h1,h2,h3⟩:=jN ha;obtain ⟨h4,h5,h6⟩:=jN hb;have CB:=fun w=>xD a1 a2 b1 b2 w
 rw [ha,hb] at CB;replace CB:=Lib.hid CB;clear ha hb;have CF:=fun w=>rC (a1+b1) (a2+b2) w
 obtain ⟨x,y,z,hE⟩:=kv (a1+b1) (a2+b2);rw [hE] at CF ⊢
 clear hE;replace CF:=Lib.hid CF;have K0:=Lib.hid ((((bK w).new w.heap.size rfl 87 #[.int .i64 a1,.int .i64 a2]).new (w.heap.size+1) (by simp) 87 #[.int .i64 b1,.int .i64 b2]).new (w.heap.size+1+1) (by simp) 87 #[.int .i64 0,.int .i64 0])
 go_enter Try.func107,Try.ntmps107;go_wp2_with fail;refine (CB.out _).mono ?_;rintro e w1 ⟨rfl,hb1⟩;have K1:=Lib.hid (K0.out.below hb1);clear hb1 K0 CB;have a0:=K1.out.c (g:=w.heap.size) (t:=87) (cs:=#[.int .i64 a1,.int .i64 a2]) (by simp) (i:=0) rfl
 have a1:=K1.out.c (g:=w.heap.size) (t:=87) (cs:=#[.int .i64 a1,.int .i64 a2]) (by simp) (i:=1) rfl
 have b0:=K1.out.c (g:=w.heap.size+1) (t:=87) (cs:=#[.int .i64 b1,.int .i64 b2]) (by simp) (i:=0) rfl
 have b1:=K1.out.c (g:=w.heap.size+1) (t:=87) (cs:=#[.int .i64 b1,.int .i64 b2]) (by simp) (i:=1) rfl
 go_wp2_with fail;refine (CF.out _).mono ?_;rintro e w9 ⟨rfl,hb1⟩;have K9:=Lib.hid (K1.out.below hb1);clear hb1 K1 a0 a1 b0 b1;have r0:=K9.out.c (g:=w.heap.size+1+1) (t:=87) (cs:=#[.int .i64 0,.int .i64 0]) (by simp) (i:=0) rfl
 have fr0:=K9.out.f (g:=w.heap.size+1+1) (t:=87) (cs:=#[.int .i64 0,.int .i64 0]) (by simp) 0
 have r1:=K9.out.c (g:=w.heap.size+1+1) (t:=87) (cs:=#[.int .i64 0,.int .i64 0]) (by simp) (i:=1) rfl
 have fr1:=K9.out.f (g:=w.heap.size+1+1) (t:=87) (cs:=#[.int .i64 0,.int .i64 0]) (by simp) 1
 have HB:=Lib.hid K9.out.1;go_wp2;refine bodyPost_ret (v:=.tuple #[.agg #[.int .i64 x,.int .i64 y],.int .i64 z]) (by simp [results,Try.results107,go_sem,r0,r1]) rfl ⟨rfl,?_⟩
 have hb:=HB.out;go_grown
theorem P8 (a1 a2 b1 b2:Int) (w:World) (ha:fxV a1 a2=true) (hb:fxV b1 b2=true) :
 Calls Try.prog 141 #[.agg #[.int .i64 a1,.int .i64 a2],.agg #[.int .i64 b1,.int .i64 b2]] w fun e w'=>e=.returned (opV (a1-b2) (a2-b1))/\Below w.heap.size w w':=by
 obtain ⟨h1,h2,h3⟩:=jN ha;obtain ⟨h4,h5,h6⟩:=jN hb;have CB:=fun w=>xD a1 a2 b1 b2 w
 rw [ha,hb] at CB;replace CB:=Lib.hid CB;clear ha hb;have CF:=fun w=>rC (a1-b2) (a2-b1) w
 obtain ⟨x,y,z,hE⟩:=kv (a1-b2) (a2-b1);rw [hE] at CF ⊢
 clear hE;replace CF:=Lib.hid CF;have K0:=Lib.hid ((((bK w).new w.heap.size rfl 87 #[.int .i64 a1,.int .i64 a2]).new (w.heap.size+1) (by simp) 87 #[.int .i64 b1,.int .i64 b2]).new (w.heap.size+1+1) (by simp) 87 #[.int .i64 0,.int .i64 0])
 go_enter Try.func141,Try.ntmps141;go_wp2_with fail;refine (CB.out _).mono ?_;rintro e w1 ⟨rfl,hb1⟩;have K1:=Lib.hid (K0.out.below hb1);clear hb1 K0 CB;have a0:=K1.out.c (g:=w.heap.size) (t:=87) (cs:=#[.int .i64 a1,.int .i64 a2]) (by simp) (i:=0) rfl
 have a1:=K1.out.c (g:=w.heap.size) (t:=87) (cs:=#[.int .i64 a1,.int .i64 a2]) (by simp) (i:=1) rfl
 have b0:=K1.out.c (g:=w.heap.size+1) (t:=87) (cs:=#[.int .i64 b1,.int .i64 b2]) (by simp) (i:=0) rfl
 have b1:=K1.out.c (g:=w.heap.size+1) (t:=87) (cs:=#[.int .i64 b1,.int .i64 b2]) (by simp) (i:=1) rfl
 go_wp2_with fail;refine (CF.out _).mono ?_;rintro e w9 ⟨rfl,hb1⟩;have K9:=Lib.hid (K1.out.below hb1);clear hb1 K1 a0 a1 b0 b1;have r0:=K9.out.c (g:=w.heap.size+1+1) (t:=87) (cs:=#[.int .i64 0,.int .i64 0]) (by simp) (i:=0) rfl
 have fr0:=K9.out.f (g:=w.heap.size+1+1) (t:=87) (cs:=#[.int .i64 0,.int .i64 0]) (by simp) 0
 have r1:=K9.out.c (g:=w.heap.size+1+1) (t:=87) (cs:=#[.int .i64 0,.int .i64 0]) (by simp) (i:=1) rfl
 have fr1:=K9.out.f (g:=w.heap.size+1+1) (t:=87) (cs:=#[.int .i64 0,.int .i64 0]) (by simp) 1
 have HB:=Lib.hid K9.out.1;go_wp2;refine bodyPost_ret (v:=.tuple #[.agg #[.int .i64 x,.int .i64 y],.int .i64 z]) (by simp [results,Try.results141,go_sem,r0,r1]) rfl ⟨rfl,?_⟩
 have hb:=HB.out;go_grown
theorem R7 (a1 a2 b1 b2:Int) (w:World) (ha:fxV a1 a2=true) (hb:fxV b1 b2=true) :
 Calls Try.prog 126 #[.agg #[.int .i64 a1,.int .i64 a2],.agg #[.int .i64 b1,.int .i64 b2]] w fun e w'=>e=.returned (opV (fI a1 a2 b1 b2) (gH a1 a2 b1 b2))/\Below w.heap.size w w':=by
 obtain ⟨h1,h2,h3⟩:=jN ha;obtain ⟨h4,h5,h6⟩:=jN hb;have CB:=fun w=>xD a1 a2 b1 b2 w
 rw [ha,hb] at CB;replace CB:=Lib.hid CB;clear ha hb;have m1:=jh a1 b1 2147483648 2147483648 (by omega) (by omega)
 have m2:=jh a1 b2 2147483648 2147483648 (by omega) (by omega)
 have m3:=jh a2 b1 2147483648 2147483648 (by omega) (by omega)
 have m4:=jh a2 b2 2147483648 2147483648 (by omega) (by omega)
 obtain ⟨p1,p2⟩:=m1;obtain ⟨p3,p4⟩:=m2;obtain ⟨p5,p6⟩:=m3;obtain ⟨p7,p8⟩:=m4;have CF:=fun w=>rC (fI a1 a2 b1 b2) (gH a1 a2 b1 b2) w
 have C1:=fun w=>nG (mn4 a1 a2 b1 b2) 1073741824 w (by unfold mn4;omega) (by unfold mn4;omega) (by omega) (by omega)
 have C2:=fun w=>yD (mx4 a1 a2 b1 b2) 1073741824 w (by unfold mx4;omega) (by unfold mx4;omega) (by omega) (by omega)
 rw [show mn4 a1 a2 b1 b2/1073741824=fI a1 a2 b1 b2 from rfl] at C1
 rw [show -((-(mx4 a1 a2 b1 b2))/1073741824)=gH a1 a2 b1 b2 from rfl] at C2
 unfold mn4 at C1;unfold mx4 at C2;obtain ⟨x,y,z,hE⟩:=kv (fI a1 a2 b1 b2) (gH a1 a2 b1 b2);rw [hE] at CF ⊢
 clear hE;replace CF:=Lib.hid CF;have K0:=Lib.hid ((((bK w).new w.heap.size rfl 87 #[.int .i64 a1,.int .i64 a2]).new (w.heap.size+1) (by simp) 87 #[.int .i64 b1,.int .i64 b2]).new (w.heap.size+1+1) (by simp) 87 #[.int .i64 0,.int .i64 0])
 generalize fI a1 a2 b1 b2=L at *
 generalize gH a1 a2 b1 b2=H at *
 replace C1:=Lib.hid C1;replace C2:=Lib.hid C2;go_enter Try.func126,Try.ntmps126;go_wp2_with fail;refine (CB.out _).mono ?_;rintro e w1 ⟨rfl,hb1⟩;have K1:=Lib.hid (K0.out.below hb1);clear hb1 K0 CB;have a0:=K1.out.c (g:=w.heap.size) (t:=87) (cs:=#[.int .i64 a1,.int .i64 a2]) (by simp) (i:=0) rfl
 have a1:=K1.out.c (g:=w.heap.size) (t:=87) (cs:=#[.int .i64 a1,.int .i64 a2]) (by simp) (i:=1) rfl
 have b0:=K1.out.c (g:=w.heap.size+1) (t:=87) (cs:=#[.int .i64 b1,.int .i64 b2]) (by simp) (i:=0) rfl
 have b1:=K1.out.c (g:=w.heap.size+1) (t:=87) (cs:=#[.int .i64 b1,.int .i64 b2]) (by simp) (i:=1) rfl
 go_wp2;go_quiet (fail);have K2:=Lib.hid (K1.out.drewN nq);clear K1 a0 a1 b0 b1 p1 p2 p3 p4 p5 p6 p7 p8;generalize a1*b1=P1 at *
 generalize a1*b2=P2 at *
 generalize a2*b1=P3 at *
 generalize a2*b2=P4 at *
 have RM:=fun w=>Ht Try.prog w #[ 3,3,3,3] 3 P1 P2 P3 P4
 have RX:=fun w=>J5 Try.prog w #[ 3,3,3,3] 3 P1 P2 P3 P4
 generalize min (min (min P1 P2) P3) P4=M at *
 generalize max (max (max P1 P2) P3) P4=N at *
 go_wp2_with fail;refine (C1.out _).mono ?_;rintro e w' ⟨rfl,rfl⟩;go_wp2_with fail;refine (C2.out _).mono ?_;rintro e w' ⟨rfl,rfl⟩;go_wp2_with fail;refine (CF.out _).mono ?_;rintro e w9 ⟨rfl,hb1⟩;have K9:=Lib.hid (K2.out.below hb1);clear hb1 K2;have r0:=K9.out.c (g:=w.heap.size+1+1) (t:=87) (cs:=#[.int .i64 0,.int .i64 0]) (by simp) (i:=0) rfl
 have fr0:=K9.out.f (g:=w.heap.size+1+1) (t:=87) (cs:=#[.int .i64 0,.int .i64 0]) (by simp) 0
 have r1:=K9.out.c (g:=w.heap.size+1+1) (t:=87) (cs:=#[.int .i64 0,.int .i64 0]) (by simp) (i:=1) rfl
 have fr1:=K9.out.f (g:=w.heap.size+1+1) (t:=87) (cs:=#[.int .i64 0,.int .i64 0]) (by simp) 1
 have HB:=Lib.hid K9.out.1;go_wp2;refine bodyPost_ret (v:=.tuple #[.agg #[.int .i64 x,.int .i64 y],.int .i64 z]) (by simp [results,Try.results126,go_sem,r0,r1]) rfl ⟨rfl,?_⟩
 have hb:=HB.out;go_grown
end Go.Proofs.Ytmldbeipmappnaa
namespace Go.Proofs.Ytmldbeipmappnaa
open Go.RowKit Alm
end Go.Proofs.Ytmldbeipmappnaa
namespace Alm
def rtF:Nat->Int->Int->Int
 | 0,k,_=>k
 | j+1,k,n=>if (k+2^j)*(k+2^j)<=n then rtF j (k+2^j) n else rtF j k n
def rtV (n:Int):Int:=rtF 32 0 n
theorem zR (j:Nat) (k n:Int):rtF (j+1) k n=if (k+2^j)*(k+2^j)<=n then rtF j (k+2^j) n else rtF j k n:=rfl
theorem QN (j:Nat) (k n:Int) (h0:0<=k) (h1:k*k<=n) (h2:n<(k+2^j)*(k+2^j)):0<=rtF j k n/\rtF j k n*rtF j k n<=n/\n<(rtF j k n+1)*(rtF j k n+1):=by
 induction j generalizing k with
 | zero=>simpa [rtF] using ⟨h0,h1,h2⟩
 | succ j ih =>
  rw [zR];have hp:(0:Int)<2^j:=Int.pow_pos (by decide)
  have e:(2:Int)^(j+1)=2^j+2^j:=by rw [Int.pow_succ];omega
  rw [e] at h2;split
  . rename_i h
    exact ih (k+2^j) (by omega) h (by rw [show k+2^j+2^j=k+(2^j+2^j) by omega];exact h2)
  . rename_i h
    exact ih k h0 h1 (by omega)
theorem R3 (n:Int) (h0:0<=n) (h1:n<=2305843009213693952):0<=rtV n/\rtV n*rtV n<=n/\n<(rtV n+1)*(rtV n+1) :=
 QN 32 0 n (by omega) (by omega) (by simp;omega)
def RtI (n k b:Int):Prop:=∃ j:Nat,j<=32/\b=(if j=0 then 0 else 2^(j-1))/\rtF j k n=rtV n/\0<=k/\k*k<=n/\(j=32->k=0)
theorem Oa (k M:Int) (hM:0<=M) (h0:0<=k) (h:k*k<=M*M):k<=M:=by
 apply Decidable.byContradiction;intro hn;have h1:(M+1)*(M+1)<=k*k:=Int.mul_le_mul (by omega) (by omega) (by omega) (by omega)
 have:(M+1)*(M+1)=M*M+2*M+1:=by grind
 omega
theorem Qo {n k b:Int} (h:RtI n k b) (hn:n<=2305843009213693952):0<=b/\b<=2147483648/\0<=k/\k<=1518500250/\0<=(k+b)*(k+b)/\(k+b)*(k+b)<=6737000000000000000:=by
 obtain ⟨j,hj,hb,_,h0,h1,h2⟩:=h;have hk:k<=1518500250:=Oa k 1518500250 (by omega) h0 (by omega)
 by_cases e:j=32
 . subst e;obtain rfl:=h2 rfl;simp at hb;subst hb;omega
 . have hb2:0<=b/\b<=1073741824:=by
    rw [hb];split
    . omega
    . have hp:(2:Int)^(j-1)<=2^30:=by
       have:=Nat.pow_le_pow_right (show 0<2 by omega) (show j-1<=30 by omega)
       exact_mod_cast this
      have hp0:(0:Int)<2^(j-1):=Int.pow_pos (by decide)
      omega
   have m:=Int.mul_le_mul (show k+b<=2592242074 by omega) (show k+b<=2592242074 by omega) (by omega) (by omega)
   have m0:=Int.mul_nonneg (show 0<=k+b by omega) (show 0<=k+b by omega)
   omega
theorem Hw {n k b:Int} (h:RtI n k b) (hb:0<b):((k+b)*(k+b)<=n->RtI n (k+b) (b/2))/\(n<(k+b)*(k+b)->2305843009213693952<4611686018427387904->RtI n k (b/2)):=by
 obtain ⟨j,hj,hb2,hr,h0,h1,h2⟩:=h;cases j with
 | zero=>simp at hb2;omega
 | succ j =>
  simp at hb2;subst hb2
  have e2:(2:Int)^j/2=if j=0 then 0 else 2^(j-1):=by
   cases j with
   | zero=>rfl
   | succ j=>simp [Int.pow_succ]
  rw [zR] at hr
  constructor
  . intro hc;rw [if_pos hc] at hr;exact ⟨j,by omega,e2,hr,by have:(0:Int)<2^j:=Int.pow_pos (by decide);omega,hc,by omega⟩
  . intro hc _;rw [if_neg (by omega)] at hr
    exact ⟨j,by omega,e2,hr,h0,h1,by omega⟩
theorem IJ {n k:Int} (h:RtI n k 0):k=rtV n:=by
 obtain ⟨j,hj,hb2,hr,h0,h1,h2⟩:=h;cases j with
 | zero=>exact hr
 | succ j=>simp at hb2;have:(0:Int)<2^j:=Int.pow_pos (by decide);omega
end Alm
namespace Go.Proofs.Ytmldbeipmappnaa
open Go.RowKit Alm
theorem Kl (n:Int) (w:World) (h0:0<=n) (h1:n<=2305843009213693952) :
 Calls Try.prog 162 #[.int .i64 n] w fun e w'=>e=.returned (.int .i64 (rtV n))/\w=w':=by
 have R0:Hid (RtI n 0 2147483648):=⟨32,by omega,by simp,rfl,by omega,by omega,fun _=>rfl⟩
 have H1:=Lib.hid h1;clear h1;go_enter Try.func162,Try.ntmps162;go_wp2;go_loop [3,4] (fun v3 v4=>∃ k b:Int,v3=.int .i64 k/\v4=.int .i64 b/\RtI n k b) (fun _ v4=>(intOf v4).toNat)
 case atStart=>exact ⟨0,2147483648,rfl,rfl,R0.out⟩
 case round =>
  obtain ⟨k,b,rfl,rfl,hI⟩:=hrel;obtain ⟨b1,b2,b3,b4,b5,b6⟩:=Qo hI H1.out;have HI:=Lib.hid hI;clear hI R0
  by_cases hb:0<b
  . have NX:=Lib.hid (Hw HI.out hb);clear HI
    by_cases hc:(k+b)*(k+b)<=n
    . go_wp2;go_light;exact ⟨⟨k+b,b/2,rfl,rfl,NX.out.1 hc⟩,by simp only [intOf];omega⟩
    . have hc2:n<(k+b)*(k+b):=by omega
      go_wp2;go_light;exact ⟨⟨k,b/2,rfl,rfl,NX.out.2 hc2 (by omega)⟩,by simp only [intOf];omega⟩
  . have hb0:b=0:=by omega
    subst hb0;have FIN:=Lib.hid (IJ HI.out);go_wp2;go_ret;exact ⟨iD FIN.out,rfl⟩
end Go.Proofs.Ytmldbeipmappnaa
namespace Alm
def sqL (a b:Int):Int:=(if a<=0/\0<=b then 0 else min (a*a) (b*b))/1073741824
def sqH (a b:Int):Int:=-((-(max (a*a) (b*b)))/1073741824)
def rtL (a b:Int):Int:=rtV (max 0 a*1073741824)
def rtH (a b:Int):Int:=if rtV (b*1073741824)*rtV (b*1073741824)<b*1073741824 then rtV (b*1073741824)+1 else rtV (b*1073741824)
end Alm
namespace Go.Proofs.Ytmldbeipmappnaa
open Go.RowKit Alm
theorem FD (a1 a2:Int) (w:World) (ha:fxV a1 a2=true) :
 Calls Try.prog 106 #[.agg #[.int .i64 a1,.int .i64 a2]] w fun e w'=>e=.returned (opV (sqL a1 a2) (sqH a1 a2))/\Below w.heap.size w w':=by
 obtain ⟨h1,h2,h3⟩:=jN ha;have CB:=fun w=>dE a1 a2 w
 rw [ha] at CB;replace CB:=Lib.hid CB;clear ha;obtain ⟨p1,p2⟩:=jh a1 a1 2147483648 2147483648 (by omega) (by omega)
 obtain ⟨p3,p4⟩:=jh a2 a2 2147483648 2147483648 (by omega) (by omega)
 have CF:=fun w=>rC (sqL a1 a2) (sqH a1 a2) w
 have C1:=fun w=>nG (if a1<=0/\0<=a2 then 0 else min (a1*a1) (a2*a2)) 1073741824 w (by split<;>omega) (by split<;>omega) (by omega) (by omega)
 have C2:=fun w=>yD (max (a1*a1) (a2*a2)) 1073741824 w (by omega) (by omega) (by omega) (by omega)
 rw [show (if a1<=0/\0<=a2 then 0 else min (a1*a1) (a2*a2))/1073741824=sqL a1 a2 from rfl] at C1
 rw [show -((-(max (a1*a1) (a2*a2)))/1073741824)=sqH a1 a2 from rfl] at C2
 obtain ⟨x,y,z,hE⟩:=kv (sqL a1 a2) (sqH a1 a2);rw [hE] at CF ⊢
 clear hE;generalize sqL a1 a2=L at *
 generalize sqH a1 a2=H at *
 replace CF:=Lib.hid CF;have K0:=Lib.hid (((bK w).new w.heap.size rfl 87 #[.int .i64 a1,.int .i64 a2]).new (w.heap.size+1) (by simp) 87 #[.int .i64 0,.int .i64 0])
 have em:min (a1*a1) (a2*a2)=if a2*a2<a1*a1 then a2*a2 else a1*a1:=by omega
 have ex:max (a1*a1) (a2*a2)=if a1*a1<a2*a2 then a2*a2 else a1*a1:=by omega
 rw [em] at C1;rw [ex] at C2;clear em ex;replace C2:=Lib.hid C2
 by_cases hz:a1<=0/\0<=a2
 . rw [if_pos hz] at C1;obtain ⟨z1,z2⟩:=hz;replace C1:=Lib.hid C1;go_enter Try.func106,Try.ntmps106;go_wp2_with fail;refine (CB.out _).mono ?_;rintro e w1 ⟨rfl,hb1⟩;have K1:=Lib.hid (K0.out.below hb1);clear hb1 K0 CB;have u0:=K1.out.c (g:=w.heap.size) (t:=87) (cs:=#[.int .i64 a1,.int .i64 a2]) (by simp) (i:=0) rfl
   have u1:=K1.out.c (g:=w.heap.size) (t:=87) (cs:=#[.int .i64 a1,.int .i64 a2]) (by simp) (i:=1) rfl
   go_wp2;go_quiet (fail);have K2:=Lib.hid (K1.out.drewN nq);clear K1 u0 u1 p1 p2 p3 p4;generalize a1*a1=P1 at *
   generalize a2*a2=P2 at *
   generalize (if P2<P1 then P2 else P1)=M at *
   generalize (if P1<P2 then P2 else P1)=N at *
   have u0:=K2.out.c (g:=w.heap.size) (t:=87) (cs:=#[.int .i64 a1,.int .i64 a2]) (by simp) (i:=0) rfl
   have u1:=K2.out.c (g:=w.heap.size) (t:=87) (cs:=#[.int .i64 a1,.int .i64 a2]) (by simp) (i:=1) rfl
   go_wp2_with fail;refine (C1.out _).mono ?_;rintro e w' ⟨rfl,rfl⟩;go_wp2_with fail;refine (C2.out _).mono ?_;rintro e w' ⟨rfl,rfl⟩;go_wp2_with fail;refine (CF.out _).mono ?_;rintro e w9 ⟨rfl,hb1⟩;have K9:=Lib.hid (K2.out.below hb1);clear hb1 K2 u0 u1;have r0:=K9.out.c (g:=w.heap.size+1) (t:=87) (cs:=#[.int .i64 0,.int .i64 0]) (by simp) (i:=0) rfl
   have fr0:=K9.out.f (g:=w.heap.size+1) (t:=87) (cs:=#[.int .i64 0,.int .i64 0]) (by simp) 0
   have r1:=K9.out.c (g:=w.heap.size+1) (t:=87) (cs:=#[.int .i64 0,.int .i64 0]) (by simp) (i:=1) rfl
   have fr1:=K9.out.f (g:=w.heap.size+1) (t:=87) (cs:=#[.int .i64 0,.int .i64 0]) (by simp) 1
   have HB:=Lib.hid K9.out.1;go_wp2;refine bodyPost_ret (v:=.tuple #[.agg #[.int .i64 x,.int .i64 y],.int .i64 z]) (by simp [results,Try.results106,go_sem,r0,r1]) rfl ⟨rfl,?_⟩
   have hb:=HB.out;go_grown
 . rw [if_neg hz] at C1
   by_cases hz2:0<a1
   . clear hz;replace C1:=Lib.hid C1;go_enter Try.func106,Try.ntmps106;go_wp2_with fail;refine (CB.out _).mono ?_;rintro e w1 ⟨rfl,hb1⟩;have K1:=Lib.hid (K0.out.below hb1);clear hb1 K0 CB;have u0:=K1.out.c (g:=w.heap.size) (t:=87) (cs:=#[.int .i64 a1,.int .i64 a2]) (by simp) (i:=0) rfl
     have u1:=K1.out.c (g:=w.heap.size) (t:=87) (cs:=#[.int .i64 a1,.int .i64 a2]) (by simp) (i:=1) rfl
     go_wp2;go_quiet (fail);have K2:=Lib.hid (K1.out.drewN nq);clear K1 u0 u1 p1 p2 p3 p4;generalize a1*a1=P1 at *
     generalize a2*a2=P2 at *
     generalize (if P2<P1 then P2 else P1)=M at *
     generalize (if P1<P2 then P2 else P1)=N at *
     have u0:=K2.out.c (g:=w.heap.size) (t:=87) (cs:=#[.int .i64 a1,.int .i64 a2]) (by simp) (i:=0) rfl
     have u1:=K2.out.c (g:=w.heap.size) (t:=87) (cs:=#[.int .i64 a1,.int .i64 a2]) (by simp) (i:=1) rfl
     go_wp2_with fail;refine (C1.out _).mono ?_;rintro e w' ⟨rfl,rfl⟩;go_wp2_with fail;refine (C2.out _).mono ?_;rintro e w' ⟨rfl,rfl⟩;go_wp2_with fail;refine (CF.out _).mono ?_;rintro e w9 ⟨rfl,hb1⟩;have K9:=Lib.hid (K2.out.below hb1);clear hb1 K2 u0 u1;have r0:=K9.out.c (g:=w.heap.size+1) (t:=87) (cs:=#[.int .i64 0,.int .i64 0]) (by simp) (i:=0) rfl
     have fr0:=K9.out.f (g:=w.heap.size+1) (t:=87) (cs:=#[.int .i64 0,.int .i64 0]) (by simp) 0
     have r1:=K9.out.c (g:=w.heap.size+1) (t:=87) (cs:=#[.int .i64 0,.int .i64 0]) (by simp) (i:=1) rfl
     have fr1:=K9.out.f (g:=w.heap.size+1) (t:=87) (cs:=#[.int .i64 0,.int .i64 0]) (by simp) 1
     have HB:=Lib.hid K9.out.1;go_wp2;refine bodyPost_ret (v:=.tuple #[.agg #[.int .i64 x,.int .i64 y],.int .i64 z]) (by simp [results,Try.results106,go_sem,r0,r1]) rfl ⟨rfl,?_⟩
     have hb:=HB.out;go_grown
   . have z1:a1<=0:=by omega
     have z2:a2<0:=by omega
     clear hz hz2;replace C1:=Lib.hid C1;go_enter Try.func106,Try.ntmps106;go_wp2_with fail;refine (CB.out _).mono ?_;rintro e w1 ⟨rfl,hb1⟩;have K1:=Lib.hid (K0.out.below hb1);clear hb1 K0 CB;have u0:=K1.out.c (g:=w.heap.size) (t:=87) (cs:=#[.int .i64 a1,.int .i64 a2]) (by simp) (i:=0) rfl
     have u1:=K1.out.c (g:=w.heap.size) (t:=87) (cs:=#[.int .i64 a1,.int .i64 a2]) (by simp) (i:=1) rfl
     go_wp2;go_quiet (fail);have K2:=Lib.hid (K1.out.drewN nq);clear K1 u0 u1 p1 p2 p3 p4;generalize a1*a1=P1 at *
     generalize a2*a2=P2 at *
     generalize (if P2<P1 then P2 else P1)=M at *
     generalize (if P1<P2 then P2 else P1)=N at *
     have u0:=K2.out.c (g:=w.heap.size) (t:=87) (cs:=#[.int .i64 a1,.int .i64 a2]) (by simp) (i:=0) rfl
     have u1:=K2.out.c (g:=w.heap.size) (t:=87) (cs:=#[.int .i64 a1,.int .i64 a2]) (by simp) (i:=1) rfl
     go_wp2_with fail;refine (C1.out _).mono ?_;rintro e w' ⟨rfl,rfl⟩;go_wp2_with fail;refine (C2.out _).mono ?_;rintro e w' ⟨rfl,rfl⟩;go_wp2_with fail;refine (CF.out _).mono ?_;rintro e w9 ⟨rfl,hb1⟩;have K9:=Lib.hid (K2.out.below hb1);clear hb1 K2 u0 u1;have r0:=K9.out.c (g:=w.heap.size+1) (t:=87) (cs:=#[.int .i64 0,.int .i64 0]) (by simp) (i:=0) rfl
     have fr0:=K9.out.f (g:=w.heap.size+1) (t:=87) (cs:=#[.int .i64 0,.int .i64 0]) (by simp) 0
     have r1:=K9.out.c (g:=w.heap.size+1) (t:=87) (cs:=#[.int .i64 0,.int .i64 0]) (by simp) (i:=1) rfl
     have fr1:=K9.out.f (g:=w.heap.size+1) (t:=87) (cs:=#[.int .i64 0,.int .i64 0]) (by simp) 1
     have HB:=Lib.hid K9.out.1;go_wp2;refine bodyPost_ret (v:=.tuple #[.agg #[.int .i64 x,.int .i64 y],.int .i64 z]) (by simp [results,Try.results106,go_sem,r0,r1]) rfl ⟨rfl,?_⟩
     have hb:=HB.out;go_grown
end Go.Proofs.Ytmldbeipmappnaa
namespace Go.Proofs.Ytmldbeipmappnaa
open Go.RowKit Alm
theorem IU (n:Int) (h0:0<=n) (h1:n<=2305843009213693952):0<=rtV n/\rtV n<=1518500250/\0<=rtV n*rtV n/\rtV n*rtV n<=2305843009213693952:=by
 have h:=R3 n h0 h1;have:=Oa (rtV n) 1518500250 (by omega) h.1 (by omega)
 have:=Int.mul_nonneg h.1 h.1;omega
theorem Lg (a1 a2:Int) (w:World) (ha:fxV a1 a2=true) (h0:0<=a2) :
 Calls Try.prog 108 #[.agg #[.int .i64 a1,.int .i64 a2]] w fun e w'=>e=.returned (opV (rtL a1 a2) (rtH a1 a2))/\Below w.heap.size w w':=by
 obtain ⟨h1,h2,h3⟩:=jN ha;have CB:=fun w=>dE a1 a2 w
 rw [ha] at CB;replace CB:=Lib.hid CB;clear ha;have CF:=fun w=>rC (rtL a1 a2) (rtH a1 a2) w
 obtain ⟨x,y,z,hE⟩:=kv (rtL a1 a2) (rtH a1 a2);rw [hE] at CF ⊢
 clear hE;have C2:=fun w=>Kl (a2*1073741824) w (by omega) (by omega)
 have C1:=fun w=>Kl (max 0 a1*1073741824) w (by omega) (by omega)
 obtain ⟨v1,v2,v3,v4⟩:=IU (a2*1073741824) (by omega) (by omega)
 have b1:=IU (max 0 a1*1073741824) (by omega) (by omega)
 unfold rtL rtH at CF;generalize rtV (a2*1073741824)=V at *
 generalize rtV (max 0 a1*1073741824)=U at *
 replace C2:=Lib.hid C2;have K0:=Lib.hid (((bK w).new w.heap.size rfl 87 #[.int .i64 a1,.int .i64 a2]).new (w.heap.size+1) (by simp) 87 #[.int .i64 0,.int .i64 0])
 clear b1
 by_cases hlt:V*V<a2*1073741824
 . rw [if_pos hlt] at CF
   by_cases hp:0<a1
   . rw [show max 0 a1=a1 by omega] at C1
     replace CF:=Lib.hid CF;replace C1:=Lib.hid C1;go_enter Try.func108,Try.ntmps108;go_wp2_with fail;refine (CB.out _).mono ?_;rintro e w1 ⟨rfl,hb1⟩;have K1:=Lib.hid (K0.out.below hb1);clear hb1 K0 CB;have u0:=K1.out.c (g:=w.heap.size) (t:=87) (cs:=#[.int .i64 a1,.int .i64 a2]) (by simp) (i:=0) rfl
     have u1:=K1.out.c (g:=w.heap.size) (t:=87) (cs:=#[.int .i64 a1,.int .i64 a2]) (by simp) (i:=1) rfl
     go_wp2_with fail;refine (C2.out _).mono ?_;rintro e w' ⟨rfl,rfl⟩;go_wp2_with fail;refine (C1.out _).mono ?_;rintro e w' ⟨rfl,rfl⟩;go_wp2_with fail;refine (CF.out _).mono ?_;rintro e w9 ⟨rfl,hb1⟩;have K9:=Lib.hid (K1.out.below hb1);clear hb1 K1 u0 u1;have r0:=K9.out.c (g:=w.heap.size+1) (t:=87) (cs:=#[.int .i64 0,.int .i64 0]) (by simp) (i:=0) rfl
     have fr0:=K9.out.f (g:=w.heap.size+1) (t:=87) (cs:=#[.int .i64 0,.int .i64 0]) (by simp) 0
     have r1:=K9.out.c (g:=w.heap.size+1) (t:=87) (cs:=#[.int .i64 0,.int .i64 0]) (by simp) (i:=1) rfl
     have fr1:=K9.out.f (g:=w.heap.size+1) (t:=87) (cs:=#[.int .i64 0,.int .i64 0]) (by simp) 1
     have HB:=Lib.hid K9.out.1;go_wp2;refine bodyPost_ret (v:=.tuple #[.agg #[.int .i64 x,.int .i64 y],.int .i64 z]) (by simp [results,Try.results108,go_sem,r0,r1]) rfl ⟨rfl,?_⟩
     have hb:=HB.out;go_grown
   . rw [show max 0 a1=0 by omega,Int.zero_mul] at C1
     replace CF:=Lib.hid CF;replace C1:=Lib.hid C1;go_enter Try.func108,Try.ntmps108;go_wp2_with fail;refine (CB.out _).mono ?_;rintro e w1 ⟨rfl,hb1⟩;have K1:=Lib.hid (K0.out.below hb1);clear hb1 K0 CB;have u0:=K1.out.c (g:=w.heap.size) (t:=87) (cs:=#[.int .i64 a1,.int .i64 a2]) (by simp) (i:=0) rfl
     have u1:=K1.out.c (g:=w.heap.size) (t:=87) (cs:=#[.int .i64 a1,.int .i64 a2]) (by simp) (i:=1) rfl
     go_wp2_with fail;refine (C2.out _).mono ?_;rintro e w' ⟨rfl,rfl⟩;go_wp2_with fail;refine (C1.out _).mono ?_;rintro e w' ⟨rfl,rfl⟩;go_wp2_with fail;refine (CF.out _).mono ?_;rintro e w9 ⟨rfl,hb1⟩;have K9:=Lib.hid (K1.out.below hb1);clear hb1 K1 u0 u1;have r0:=K9.out.c (g:=w.heap.size+1) (t:=87) (cs:=#[.int .i64 0,.int .i64 0]) (by simp) (i:=0) rfl
     have fr0:=K9.out.f (g:=w.heap.size+1) (t:=87) (cs:=#[.int .i64 0,.int .i64 0]) (by simp) 0
     have r1:=K9.out.c (g:=w.heap.size+1) (t:=87) (cs:=#[.int .i64 0,.int .i64 0]) (by simp) (i:=1) rfl
     have fr1:=K9.out.f (g:=w.heap.size+1) (t:=87) (cs:=#[.int .i64 0,.int .i64 0]) (by simp) 1
     have HB:=Lib.hid K9.out.1;go_wp2;refine bodyPost_ret (v:=.tuple #[.agg #[.int .i64 x,.int .i64 y],.int .i64 z]) (by simp [results,Try.results108,go_sem,r0,r1]) rfl ⟨rfl,?_⟩
     have hb:=HB.out;go_grown
 . rw [if_neg hlt] at CF
   by_cases hp:0<a1
   . rw [show max 0 a1=a1 by omega] at C1
     replace CF:=Lib.hid CF;replace C1:=Lib.hid C1;go_enter Try.func108,Try.ntmps108;go_wp2_with fail;refine (CB.out _).mono ?_;rintro e w1 ⟨rfl,hb1⟩;have K1:=Lib.hid (K0.out.below hb1);clear hb1 K0 CB;have u0:=K1.out.c (g:=w.heap.size) (t:=87) (cs:=#[.int .i64 a1,.int .i64 a2]) (by simp) (i:=0) rfl
     have u1:=K1.out.c (g:=w.heap.size) (t:=87) (cs:=#[.int .i64 a1,.int .i64 a2]) (by simp) (i:=1) rfl
     go_wp2_with fail;refine (C2.out _).mono ?_;rintro e w' ⟨rfl,rfl⟩;go_wp2_with fail;refine (C1.out _).mono ?_;rintro e w' ⟨rfl,rfl⟩;go_wp2_with fail;refine (CF.out _).mono ?_;rintro e w9 ⟨rfl,hb1⟩;have K9:=Lib.hid (K1.out.below hb1);clear hb1 K1 u0 u1;have r0:=K9.out.c (g:=w.heap.size+1) (t:=87) (cs:=#[.int .i64 0,.int .i64 0]) (by simp) (i:=0) rfl
     have fr0:=K9.out.f (g:=w.heap.size+1) (t:=87) (cs:=#[.int .i64 0,.int .i64 0]) (by simp) 0
     have r1:=K9.out.c (g:=w.heap.size+1) (t:=87) (cs:=#[.int .i64 0,.int .i64 0]) (by simp) (i:=1) rfl
     have fr1:=K9.out.f (g:=w.heap.size+1) (t:=87) (cs:=#[.int .i64 0,.int .i64 0]) (by simp) 1
     have HB:=Lib.hid K9.out.1;go_wp2;refine bodyPost_ret (v:=.tuple #[.agg #[.int .i64 x,.int .i64 y],.int .i64 z]) (by simp [results,Try.results108,go_sem,r0,r1]) rfl ⟨rfl,?_⟩
     have hb:=HB.out;go_grown
   . rw [show max 0 a1=0 by omega,Int.zero_mul] at C1
     replace CF:=Lib.hid CF;replace C1:=Lib.hid C1;go_enter Try.func108,Try.ntmps108;go_wp2_with fail;refine (CB.out _).mono ?_;rintro e w1 ⟨rfl,hb1⟩;have K1:=Lib.hid (K0.out.below hb1);clear hb1 K0 CB;have u0:=K1.out.c (g:=w.heap.size) (t:=87) (cs:=#[.int .i64 a1,.int .i64 a2]) (by simp) (i:=0) rfl
     have u1:=K1.out.c (g:=w.heap.size) (t:=87) (cs:=#[.int .i64 a1,.int .i64 a2]) (by simp) (i:=1) rfl
     go_wp2_with fail;refine (C2.out _).mono ?_;rintro e w' ⟨rfl,rfl⟩;go_wp2_with fail;refine (C1.out _).mono ?_;rintro e w' ⟨rfl,rfl⟩;go_wp2_with fail;refine (CF.out _).mono ?_;rintro e w9 ⟨rfl,hb1⟩;have K9:=Lib.hid (K1.out.below hb1);clear hb1 K1 u0 u1;have r0:=K9.out.c (g:=w.heap.size+1) (t:=87) (cs:=#[.int .i64 0,.int .i64 0]) (by simp) (i:=0) rfl
     have fr0:=K9.out.f (g:=w.heap.size+1) (t:=87) (cs:=#[.int .i64 0,.int .i64 0]) (by simp) 0
     have r1:=K9.out.c (g:=w.heap.size+1) (t:=87) (cs:=#[.int .i64 0,.int .i64 0]) (by simp) (i:=1) rfl
     have fr1:=K9.out.f (g:=w.heap.size+1) (t:=87) (cs:=#[.int .i64 0,.int .i64 0]) (by simp) 1
     have HB:=Lib.hid K9.out.1;go_wp2;refine bodyPost_ret (v:=.tuple #[.agg #[.int .i64 x,.int .i64 y],.int .i64 z]) (by simp [results,Try.results108,go_sem,r0,r1]) rfl ⟨rfl,?_⟩
     have hb:=HB.out;go_grown
