/- The contracts of Quotient of both sides, for a divisor that is not under 0 and a factor from 0 to 2^30. -/
import Derived.Test.YtbcnifkfaknnaaaGreatZSpE
set_option linter.unusedVariables false
set_option linter.unusedSimpArgs false
set_option maxRecDepth 100000
set_option maxHeartbeats 4000000
namespace Alm
end Alm
namespace Go.Proofs.YtbcnifkfaknnaaaGreat
open Go.RowKit Alm Sx
def EnP (x n d:Int):Prop:=(-2147483648<=x/\x<=2147483648)/\(-1073741824<=n/\n<=1073741824)/\(0<d/\d<=2147483648)
theorem O3 {x n d:Int} (h:EnP x n d):(-2305843009213693952<=qFl x n d/\qFl x n d<=2305843009213693952)/\(-2305843009213693952<=qCe x n d/\qCe x n d<=2305843009213693952)/\x.natAbs*n.natAbs<=1267650600228229401496703205376:=by
 obtain ⟨⟨x1,x2⟩,⟨n1,n2⟩,d1,d2⟩:=h;have e:(x.natAbs*n.natAbs:Nat)=(x*n).natAbs:=(Int.natAbs_mul x n).symm;have m:x.natAbs*n.natAbs<=2147483648*1073741824:=Nat.mul_le_mul (by omega) (by omega)
 rw [e] at m ⊢
 unfold qFl qCe;generalize x*n=p at *
 have b:-2305843009213693952<=p/\p<=2305843009213693952:=by omega
 have k1:p<=2305843009213693952*d:=by have:=Int.mul_le_mul_of_nonneg_left (show (1:Int)<=d by omega) (show (0:Int)<=2305843009213693952 by omega);omega
 have k2:-2305843009213693952*d<=p:=by have:=Int.mul_le_mul_of_nonneg_left (show (1:Int)<=d by omega) (show (0:Int)<=2305843009213693952 by omega);omega
 have a1:-2305843009213693952<=p/d:=Int.le_ediv_of_mul_le d1 k2;have a2:p/d<=2305843009213693952:=Int.ediv_le_of_le_mul d1 k1;have a3:-2305843009213693952<=-p/d:=Int.le_ediv_of_mul_le d1 (by omega)
 have a4:-p/d<=2305843009213693952:=Int.ediv_le_of_le_mul d1 (by omega)
 refine ⟨⟨a1,a2⟩,⟨by omega,by omega⟩,by omega⟩
def XG:Sx.Spec:=⟨39,60,[(false,[some .i64]),(false,[some .i64]),(false,[some .i64])],[(false,[some .i64]),(false,[some .i64]),(false,[some .i64])]⟩
def Zu (t:Tab):Nd->Option Rf:=fun _=>none
theorem aK (X:Cx):uM X Zu:=fun v t x r ht h=>by cases h
theorem aW {X:Cx} {v:Nat->Int} {ext:Ext} (he:uM X ext) {l:List Nd} (hs:gY X v l.reverse) {ps:List (Nat × Rf)} (hp:∀ q∈ps,v q.1=q.2.val v) {k j:Nat} (h:Rf.eq ((norm ext ps [] l).rep (.n k)) ((norm ext ps [] l).rep (.n j))=true):v k=v j:=by
 have a:=qR (tY he hs hp dz) (.n k);have b:=qR (tY he hs hp dz) (.n j);rw [Rf.eq_eq h] at a;exact a.symm.trans b
theorem Rq {n x y z:Int} (hx:x=b2i (decide (n>=(-1099511627776:Int)))) (hy:y=b2i (decide (n<=(1099511627776:Int)))) (hz:z=if x≠0 then y else (0:Int)):z=b2i (cK n):=by
 rw [hz,hx,hy];unfold cK
 by_cases h1:n>=(-1099511627776:Int)<;>by_cases h2:n<=(1099511627776:Int)<;>simp [b2i,h1,h2]<;>omega
theorem kF {a b x:Int} (h:x=if b<a then b else a):x=min a b:=by omega
theorem kC {a b x:Int} (h:x=if b>a then b else a):x=max a b:=by omega
end Go.Proofs.YtbcnifkfaknnaaaGreat
namespace Go.Proofs.YtbcnifkfaknnaaaGreat
open Go.RowKit Alm Sx
def wvV (h l:Int):Int:=h*1152921504606846976+l
def WvP (h l:Int):Prop:=WV h l (wvV h l)/\-4611686018427387904<=wvV h l/\wvV h l<=4611686018427387904
def sV:Nat->List Int->List Int
 | 120,[h,l]=>[1]
 | 121,[h,l]=>[(((wvV h l).natAbs/18446744073709551616:Nat):Int),(((wvV h l).natAbs%18446744073709551616:Nat):Int),b2i (decide (wvV h l<0))]
 | 122,[b]=>[((b.natAbs:Nat):Int)]
 | 123,[x,y,z]=>[dq x y z,dr x y z]
 | _,_=>[]
def Xa:Nat->List Int->Prop
 | 120,[h,l]=>WvP h l
 | 121,[h,l]=>WvP h l
 | 122,[b]=>I64 b
 | 123,[x,y,z]=>U64 x/\U64 y/\U64 z/\x<z
 | _,_=>False
def Wl (args:List Int):Cx:=⟨sV,Xa,args⟩
def VL:List Sx.Spec:=[⟨90,120,[(true,[some .i64,some .i64])],[(false,[none])]⟩,⟨91,121,[(true,[some .i64,some .i64])],[(true,[some .u64,some .u64,none])]⟩,⟨80,122,[(false,[some .i64])],[(false,[some .u64])]⟩,⟨78,123,[(false,[some .u64]),(false,[some .u64]),(false,[some .u64])],[(false,[some .u64]),(false,[some .u64])]⟩]
theorem OC (args:List Int):∀ s∈VL,bR Tryz.prog (Wl args) s:=by
 intro s hs;simp only [VL,List.mem_cons,List.not_mem_nil,or_false] at hs;rcases hs with rfl|rfl|rfl|rfl
 . refine ⟨ours _ _ _ Tryz.func90 rfl (by kernel_rfl),fun xs hp w=>?_⟩
   match xs,hp with
   | [h,l],hp=>exact uH h l _ w (show WvP h l from hp).1
 . refine ⟨ours _ _ _ Tryz.func91 rfl (by kernel_rfl),fun xs hp w=>?_⟩
   match xs,hp with
   | [h,l],hp =>
    refine (yR h l _ w (show WvP h l from hp).1).mono ?_
    rintro e w' ⟨he,hb⟩;refine ⟨?_,hb⟩;rw [he];show Ending.returned (.agg #[.int .u64 _,.int .u64 _,.bool (decide (wvV h l<0))])=Ending.returned (.agg #[.int .u64 _,.int .u64 _,Value.bool (decide (b2i (decide (wvV h l<0))≠0))]);rw [iZ];rfl
 . refine ⟨ours _ _ _ Tryz.func80 rfl (by kernel_rfl),fun xs hp w=>?_⟩
   match xs,hp with
   | [b],hp =>
    refine (Aq b w hp).mono ?_;rintro e w' ⟨he,hb⟩;exact ⟨he,by rw [<-hb];exact Below.refl _ _⟩
 . refine ⟨ours _ _ _ Tryz.func78 rfl (by kernel_rfl),fun xs hp w=>?_⟩
   match xs,hp with
   | [x,y,z],hp =>
    have hp':U64 x/\U64 y/\U64 z/\x<z:=hp;refine (eU x y z w hp'.1 hp'.2.1 hp'.2.2.1 hp'.2.2.2).mono ?_;rintro e w' ⟨he,n,rfl⟩;exact ⟨he,below_drewN (Below.refl _ _) _⟩
theorem ZJ {b:Int} (hb:-9223372036854775807<=b/\b<0):I64 b:=⟨by omega,by omega⟩
theorem Ta {V b:Int} (hV:-4611686018427387904<=V/\V<=4611686018427387904) (hb:-9223372036854775807<=b/\b<0):U64 0/\U64 ((V.natAbs:Nat):Int)/\U64 (-b)/\0 < -b:=⟨⟨by omega,by omega⟩,⟨by omega,by omega⟩,⟨by omega,by omega⟩,by omega⟩
theorem Da (a b:Int):b2i (a==b)=if a=b then 1 else 0:=by
 by_cases h:a=b<;>simp [h,b2i]
def Lb:List Nd:=[
 .arg 0,
 .arg 1,
 .arg 2,
 .arg 3,
 .app 120 0 [.n 0,.n 1],
 .ite (.n 4) (.c 0) (.c 1),
 .ite (.n 5) (.c 0) (.c 1),
 .bin .eql .i64 (.n 2) (.c 0),
 .ite (.n 7) (.c 0) (.c 1),
 .app 121 0 [.n 0,.n 1],
 .app 121 1 [.n 0,.n 1],
 .app 121 2 [.n 0,.n 1],
 .app 122 0 [.n 2],
 .bin .geq .u64 (.n 9) (.n 12),
 .ite (.n 13) (.c 0) (.c 1),
 .app 123 0 [.n 9,.n 10,.n 12],
 .app 123 1 [.n 9,.n 10,.n 12],
 .bin .lss .i64 (.n 2) (.c 0),
 .ite (.n 11) (.c 1) (.c 0),
 .bin .eql .i64 (.n 18) (.n 17),
 .ite (.n 19) (.c 0) (.c 1),
 .bin .gtr .u64 (.n 16) (.c 0),
 .ite (.n 3) (.c 1) (.c 0),
 .bin .eql .i64 (.n 22) (.n 20),
 .ite (.n 23) (.c 0) (.c 1),
 .ite (.n 21) (.n 24) (.c 0),
 .bin .add .u64 (.n 15) (.c 1),
 .bin .eql .u64 (.n 26) (.c 0),
 .ite (.n 27) (.c 0) (.c 1),
 .ite (.n 25) (.n 28) (.c 0),
 .ite (.n 25) (.n 27) (.c 0),
 .ite (.n 25) (.c 0) (.c 1),
 .ite (.n 29) (.c 1) (.n 31),
 .ite (.n 29) (.n 26) (.n 15),
 .bin .leq .u64 (.n 33) (.c 9223372036854775808),
 .ite (.n 20) (.n 34) (.c 0),
 .bin .sub .u64 (.c 0) (.n 33),
 .wrap .i64 (.n 36),
 .bin .lss .u64 (.n 33) (.c 9223372036854775808),
 .ite (.n 19) (.n 38) (.c 0),
 .wrap .i64 (.n 33),
 .ite (.n 39) (.c 0) (.c 1),
 .ite (.n 35) (.c 0) (.c 1),
 .ite (.n 42) (.n 41) (.c 0),
 .ite (.n 42) (.n 39) (.c 0),
 .ite (.n 35) (.c 1) (.n 44),
 .ite (.n 35) (.n 37) (.n 40),
 .ite (.n 45) (.c 1) (.n 43),
 .ite (.n 45) (.n 46) (.c 0),
 .ite (.n 45) (.c 0) (.c 5),
 .ite (.n 32) (.n 47) (.c 0),
 .ite (.n 30) (.c 1) (.n 50),
 .ite (.n 30) (.c 0) (.n 48),
 .ite (.n 30) (.c 5) (.n 49),
 .ite (.n 30) (.n 26) (.n 33),
 .ite (.n 14) (.n 51) (.c 0),
 .ite (.n 13) (.c 1) (.n 55),
 .ite (.n 13) (.c 0) (.n 52),
 .ite (.n 13) (.c 5) (.n 53),
 .ite (.n 8) (.n 56) (.c 0),
 .ite (.n 7) (.c 1) (.n 59),
 .ite (.n 7) (.c 0) (.n 57),
 .ite (.n 7) (.c 16) (.n 58),
 .ite (.n 6) (.n 60) (.c 0),
 .ite (.n 5) (.c 1) (.n 63),
 .ite (.n 5) (.c 0) (.n 61),
 .ite (.n 5) (.c 1) (.n 62)]
def Ua:List Vc:=[
 ⟨[],.pre 120 [.n 0,.n 1]⟩,
 ⟨[(.n 8,true),(.n 6,true)],.pre 121 [.n 0,.n 1]⟩,
 ⟨[(.n 8,true),(.n 6,true)],.pre 122 [.n 2]⟩,
 ⟨[(.n 14,true),(.n 8,true),(.n 6,true)],.pre 123 [.n 9,.n 10,.n 12]⟩]
theorem VJ:whole Tryz.prog VL 20 40 82 [(true,[some .i64,some .i64]),(false,[some .i64]),(false,[none])]=some (.tup [.c (.int .i64 (.n 65)),.c (.int .i64 (.n 66))],⟨Lb.reverse,Ua.reverse⟩):=by kernel_rfl
theorem SQ:wfN Lb.reverse=true:=by kernel_rfl
theorem WE (hi lo b u:Int) (w:World) (hv:WvP hi lo) (hb:-9223372036854775807<=b/\b<0) (hu:u=0∨u=1):Calls Tryz.prog 82 #[.agg #[.int .i64 hi,.int .i64 lo],.int .i64 b,.bool (decide (u≠0))] w fun e w'=>e=.returned (.tuple #[.int .i64 (quo (-wvV hi lo) (-b) (decide (u≠0))),.int .i64 0])/\Below w.heap.size w w':=by
 refine Sx.calls (X:=Wl [hi,lo,b,u]) jc (OC _) VJ SQ (fun v hs=>?_) w
 have e0:v 0=hi:=ag hs 0 rfl;have e1:v 1=lo:=ag hs 1 rfl;have e2:v 2=b:=ag hs 2 rfl;have e3:v 3=u:=ag hs 3 rfl;have e4:v 4=(sV 120 [v 0,v 1]).getD 0 0:=ag hs 4 rfl;have e5:v 5=if v 4≠0 then (0:Int) else (1:Int):=ag hs 5 rfl
 have e6:v 6=if v 5≠0 then (0:Int) else (1:Int):=ag hs 6 rfl
 have e7:v 7=b2i (v 2==(0:Int)):=ag hs 7 rfl;have e8:v 8=if v 7≠0 then (0:Int) else (1:Int):=ag hs 8 rfl
 have e9:v 9=(sV 121 [v 0,v 1]).getD 0 0:=ag hs 9 rfl;have e10:v 10=(sV 121 [v 0,v 1]).getD 1 0:=ag hs 10 rfl;have e11:v 11=(sV 121 [v 0,v 1]).getD 2 0:=ag hs 11 rfl;have e12:v 12=(sV 122 [v 2]).getD 0 0:=ag hs 12 rfl;have e13:v 13=b2i (decide (v 9>=v 12)):=ag hs 13 rfl;have e14:v 14=if v 13≠0 then (0:Int) else (1:Int):=ag hs 14 rfl
 have e15:v 15=(sV 123 [v 9,v 10,v 12]).getD 0 0:=ag hs 15 rfl;have e16:v 16=(sV 123 [v 9,v 10,v 12]).getD 1 0:=ag hs 16 rfl;have e17:v 17=b2i (decide (v 2<(0:Int))):=ag hs 17 rfl;have e18:v 18=if v 11≠0 then (1:Int) else (0:Int):=ag hs 18 rfl
 have e19:v 19=b2i (v 18==v 17):=ag hs 19 rfl;have e20:v 20=if v 19≠0 then (0:Int) else (1:Int):=ag hs 20 rfl
 have e21:v 21=b2i (decide (v 16>(0:Int))):=ag hs 21 rfl;have e22:v 22=if v 3≠0 then (1:Int) else (0:Int):=ag hs 22 rfl
 have e23:v 23=b2i (v 22==v 20):=ag hs 23 rfl;have e24:v 24=if v 23≠0 then (0:Int) else (1:Int):=ag hs 24 rfl
 have e25:v 25=if v 21≠0 then v 24 else (0:Int):=ag hs 25 rfl
 have e26:v 26=IntKind.u64.wrap (v 15+(1:Int)):=ag hs 26 rfl;have e27:v 27=b2i (v 26==(0:Int)):=ag hs 27 rfl;have e28:v 28=if v 27≠0 then (0:Int) else (1:Int):=ag hs 28 rfl
 have e29:v 29=if v 25≠0 then v 28 else (0:Int):=ag hs 29 rfl
 have e30:v 30=if v 25≠0 then v 27 else (0:Int):=ag hs 30 rfl
 have e31:v 31=if v 25≠0 then (0:Int) else (1:Int):=ag hs 31 rfl
 have e32:v 32=if v 29≠0 then (1:Int) else v 31:=ag hs 32 rfl
 have e33:v 33=if v 29≠0 then v 26 else v 15:=ag hs 33 rfl
 have e34:v 34=b2i (decide (v 33<=(9223372036854775808:Int))):=ag hs 34 rfl;have e35:v 35=if v 20≠0 then v 34 else (0:Int):=ag hs 35 rfl
 have e36:v 36=IntKind.u64.wrap ((0:Int)-v 33):=ag hs 36 rfl;have e37:v 37=IntKind.i64.wrap (v 36):=ag hs 37 rfl;have e38:v 38=b2i (decide (v 33<(9223372036854775808:Int))):=ag hs 38 rfl;have e39:v 39=if v 19≠0 then v 38 else (0:Int):=ag hs 39 rfl
 have e40:v 40=IntKind.i64.wrap (v 33):=ag hs 40 rfl;have e41:v 41=if v 39≠0 then (0:Int) else (1:Int):=ag hs 41 rfl
 have e42:v 42=if v 35≠0 then (0:Int) else (1:Int):=ag hs 42 rfl
 have e43:v 43=if v 42≠0 then v 41 else (0:Int):=ag hs 43 rfl
 have e44:v 44=if v 42≠0 then v 39 else (0:Int):=ag hs 44 rfl
 have e45:v 45=if v 35≠0 then (1:Int) else v 44:=ag hs 45 rfl
 have e46:v 46=if v 35≠0 then v 37 else v 40:=ag hs 46 rfl
 have e47:v 47=if v 45≠0 then (1:Int) else v 43:=ag hs 47 rfl
 have e48:v 48=if v 45≠0 then v 46 else (0:Int):=ag hs 48 rfl
 have e49:v 49=if v 45≠0 then (0:Int) else (5:Int):=ag hs 49 rfl
 have e50:v 50=if v 32≠0 then v 47 else (0:Int):=ag hs 50 rfl
 have e51:v 51=if v 30≠0 then (1:Int) else v 50:=ag hs 51 rfl
 have e52:v 52=if v 30≠0 then (0:Int) else v 48:=ag hs 52 rfl
 have e53:v 53=if v 30≠0 then (5:Int) else v 49:=ag hs 53 rfl
 have e54:v 54=if v 30≠0 then v 26 else v 33:=ag hs 54 rfl
 have e55:v 55=if v 14≠0 then v 51 else (0:Int):=ag hs 55 rfl
 have e56:v 56=if v 13≠0 then (1:Int) else v 55:=ag hs 56 rfl
 have e57:v 57=if v 13≠0 then (0:Int) else v 52:=ag hs 57 rfl
 have e58:v 58=if v 13≠0 then (5:Int) else v 53:=ag hs 58 rfl
 have e59:v 59=if v 8≠0 then v 56 else (0:Int):=ag hs 59 rfl
 have e60:v 60=if v 7≠0 then (1:Int) else v 59:=ag hs 60 rfl
 have e61:v 61=if v 7≠0 then (0:Int) else v 57:=ag hs 61 rfl
 have e62:v 62=if v 7≠0 then (16:Int) else v 58:=ag hs 62 rfl
 have e63:v 63=if v 6≠0 then v 60 else (0:Int):=ag hs 63 rfl
 have e64:v 64=if v 5≠0 then (1:Int) else v 63:=ag hs 64 rfl
 have e65:v 65=if v 5≠0 then (0:Int) else v 61:=ag hs 65 rfl
 have e66:v 66=if v 5≠0 then (1:Int) else v 62:=ag hs 66 rfl
 have P0:WvP (v 0) (v 1):=by rw [e0,e1];exact hv
 have V1:=hv.2
 have a9:v 9=0:=by
  have k:v 9=(((wvV (v 0) (v 1)).natAbs/18446744073709551616:Nat):Int):=e9;rw [k,e0,e1];omega
 have a10:v 10=(((wvV hi lo).natAbs:Nat):Int):=by
  have k:v 10=(((wvV (v 0) (v 1)).natAbs%18446744073709551616:Nat):Int):=e10;rw [k,e0,e1];omega
 have a11:v 11=b2i (decide (wvV hi lo<0)):=by rw [<-e0,<-e1];exact e11
 have a12:v 12=-b:=by
  have k:v 12=(((v 2).natAbs:Nat):Int):=e12;rw [k,e2];omega
 generalize wvV hi lo=V at *
 have a4:v 4=1:=e4;have a5:v 5=0:=by rw [e5,a4];rfl
 have a7:v 7=0:=by rw [e7,e2,Da,if_neg (by omega)]
 have a13:v 13=0:=by rw [e13,a9,a12,decide_eq_false (by omega)];rfl
 have a15:v 15=((V.natAbs:Nat):Int) / -b:=by
  have k:v 15=dq (v 9) (v 10) (v 12):=e15;rw [k,a9,a10,a12];unfold dq;rw [Int.zero_mul,Int.zero_add]
 have a16:v 16=((V.natAbs:Nat):Int) % -b:=by
  have k:v 16=dr (v 9) (v 10) (v 12):=e16;rw [k,a9,a10,a12];unfold dr;rw [Int.zero_mul,Int.zero_add]
 have q0:0<=((V.natAbs:Nat):Int) / -b:=Int.ediv_nonneg (by omega) (by omega)
 have q1:((V.natAbs:Nat):Int) / -b<=((V.natAbs:Nat):Int):=Int.ediv_le_self _ (by omega)
 have r0:0<=((V.natAbs:Nat):Int) % -b:=Int.emod_nonneg _ (by omega)
 have r1:((V.natAbs:Nat):Int) % -b < -b:=Int.emod_lt_of_pos _ (by omega)
 have qr:(((-V).natAbs:Nat):Int)=-b*(((V.natAbs:Nat):Int) / -b)+((V.natAbs:Nat):Int) % -b:=by
  rw [Int.natAbs_neg];exact (Int.mul_ediv_add_emod _ _).symm
 have QP:=xX (-V) (-b) (by omega) _ _ qr r0 r1
 have qz:V=0->((V.natAbs:Nat):Int) / -b=0/\((V.natAbs:Nat):Int) % -b=0:=fun z=>by subst z;exact ⟨Int.zero_ediv _,Int.zero_emod _⟩
 clear qr;generalize ((V.natAbs:Nat):Int) / -b=q at *
 generalize ((V.natAbs:Nat):Int) % -b=r at *
 have a17:v 17=1:=by rw [e17,e2,decide_eq_true (by omega)];rfl
 have a26:v 26=q+1:=by rw [e26,a15,Go.IntWalk.u64_in _ (by omega)]
 have a27:v 27=0:=by rw [e27,a26,Da,if_neg (by omega)]
 have a28:v 28=1:=by rw [e28,a27];rfl
 have a30:v 30=0:=by rw [e30,a27];split<;>rfl
 have a36:∀ z,v 33=z->0<=z->z<=4611686018427387905->v 37=-z:=by
  intro z hz z0 z1;rw [e37,e36,hz,IntKind.wrap_u64,IntKind.wrap_i64];omega
 have a40:∀ z,v 33=z->0<=z->z<=4611686018427387905->v 40=z:=by
  intro z hz z0 z1;rw [e40,hz,IntKind.wrap_i64];omega
 have fin:∀ z y,v 33=z->0<=z->z<=4611686018427387905->(V<0->z=y)->(¬ V<0->-z=y)->v 65=y/\v 66=0:=by
  intro z y hz z0 z1 y0 y1;have b36:=a36 z hz z0 z1;have b40:=a40 z hz z0 z1;have a34:v 34=1:=by rw [e34,hz,decide_eq_true (by omega)];rfl
  have a38:v 38=1:=by rw [e38,hz,decide_eq_true (by omega)];rfl
  have a32:v 32=1:=by
   rw [e32,e29,e31,a28];by_cases g:v 25=0<;>simp [g]
  by_cases hV:V<0
  . have a18:v 18=1:=by rw [e18,a11,decide_eq_true hV];rfl
    have a19:v 19=1:=by rw [e19,a18,a17];rfl
    have a20:v 20=0:=by rw [e20,a19];rfl
    have a35:v 35=0:=by rw [e35,a20];rfl
    have a39:v 39=1:=by rw [e39,a19,a38];rfl
    have a45:v 45=1:=by rw [e45,a35,e44,e42,a35,a39];rfl
    constructor
    . rw [e65,a5,e61,a7,e57,a13,e52,a30,e48,a45,e46,a35,b40,y0 hV];rfl
    . rw [e66,a5,e62,a7,e58,a13,e53,a30,e49,a45];rfl
  . have a18:v 18=0:=by rw [e18,a11,decide_eq_false hV];rfl
    have a19:v 19=0:=by rw [e19,a18,a17];rfl
    have a20:v 20=1:=by rw [e20,a19];rfl
    have a35:v 35=1:=by rw [e35,a20,a34];rfl
    have a45:v 45=1:=by rw [e45,a35];rfl
    constructor
    . rw [e65,a5,e61,a7,e57,a13,e52,a30,e48,a45,e46,a35,b36,y1 hV];rfl
    . rw [e66,a5,e62,a7,e58,a13,e53,a30,e49,a45];rfl
 have a33:v 33=if 0<r/\(u≠0↔V<0) then q+1 else q:=by
  have a21:v 21=if 0<r then 1 else 0:=by
   rw [e21,a16];by_cases g:0<r<;>simp [g,b2i]
  have a22:v 22=if u≠0 then 1 else 0:=by rw [e22,e3]
  have a20:v 20=if V<0 then 0 else 1:=by
   rw [e20,e19,e18,a11,a17,Da]
   by_cases g:V<0<;>simp [g,b2i]
  have a24:v 24=if (u≠0↔V<0) then 1 else 0:=by
   rw [e24,e23,a22,a20,Da]
   by_cases g:V<0<;>by_cases h:u=0<;>simp [g,h]
  rw [e33,e29,e25,a28,a26,a15,a21,a24]
  by_cases g:0<r<;>by_cases h:(u≠0↔V<0)<;>simp [g,h]
 have R:v 65=quo (-V) (-b) (decide (u≠0))/\v 66=0:=by
  rcases hu with rfl|rfl
  . rw [show decide ((0:Int)≠0)=false from rfl]
    by_cases hV:V<0
    . have k:=QP.2.2.2.1 (by omega)
      rw [if_neg (by simp [hV])] at a33
      exact fin q _ a33 q0 (by omega) (fun _=>k.symm) (fun z=>absurd hV z)
    . by_cases hz:V=0
      . have z:=qz hz;have k:=QP.2.2.2.1 (by omega)
        rw [if_neg (by omega)] at a33
        exact fin q _ a33 q0 (by omega) (fun g=>absurd g hV) (fun _=>by rw [k];omega)
      . by_cases hr:0<r
        . have k:=QP.1 (by omega) hr
          rw [if_pos ⟨hr,by simp [hV]⟩] at a33
          exact fin (q+1) _ a33 (by omega) (by omega) (fun g=>absurd g hV) (fun _=>k.symm)
        . have k:=QP.2.1 (by omega) hr
          rw [if_neg (by omega)] at a33
          exact fin q _ a33 q0 (by omega) (fun g=>absurd g hV) (fun _=>k.symm)
  . rw [show decide ((1:Int)≠0)=true from rfl]
    by_cases hV:V<0
    . by_cases hr:0<r
      . have k:=QP.2.2.2.2.1 (by omega) hr
        rw [if_pos ⟨hr,by simp [hV]⟩] at a33
        exact fin (q+1) _ a33 (by omega) (by omega) (fun _=>k.symm) (fun z=>absurd hV z)
      . have k:=QP.2.2.2.2.2 (by omega) hr
        rw [if_neg (by omega)] at a33
        exact fin q _ a33 q0 (by omega) (fun _=>k.symm) (fun z=>absurd hV z)
    . by_cases hz:V=0
      . have z:=qz hz;have k:=QP.2.2.2.2.2 (by omega) (by omega)
        rw [if_neg (by omega)] at a33
        exact fin q _ a33 q0 (by omega) (fun g=>absurd g hV) (fun _=>by rw [k];omega)
      . have k:=QP.2.2.1 (by omega)
        rw [if_neg (by simp [hV])] at a33
        exact fin q _ a33 q0 (by omega) (fun g=>absurd g hV) (fun _=>k.symm)
 refine ⟨gT ?_,?_⟩
 . exact aA (fun _=>P0) (aA (fun _=>P0) (aA (fun _=>by show I64 (v 2);rw [e2];exact ZJ hb) (aA (fun _=>by show U64 (v 9)/\U64 (v 10)/\U64 (v 12)/\v 9<v 12;rw [a9,a10,a12];exact Ta V1 hb) gM)))
 . intro x hx0;have hx':=gP (v:=v) (by rfl) hx0
   rw [hx'];show Value.tuple #[.int .i64 (v 65),.int .i64 (v 66)]=_;rw [R.1,R.2]
def qFs (x n d:Int):Int:=if d<0 then qFl (-x) n (-d) else qFl x n d
def qCs (x n d:Int):Int:=if d<0 then qCe (-x) n (-d) else qCe x n d
def sZ:Nat->List Int->List Int
 | 124,[x,n]=>[x*n/1152921504606846976,x*n%1152921504606846976,0]
 | 125,[h,l,b,u]=>[quo (-wvV h l) (-b) (decide (u≠0)),0]
 | _,_=>[]
def Xx:Nat->List Int->Prop
 | 124,[x,n]=>(-2147483648<=x/\x<=2147483648)/\(-1073741824<=n/\n<=1073741824)
 | 125,[h,l,b,u]=>WvP h l/\(-9223372036854775807<=b/\b<0)/\(u=0∨u=1)
 | _,_=>False
def Xc (args:List Int):Cx:=⟨sZ,Xx,args⟩
def Uw:List Sx.Spec:=[⟨67,124,[(false,[some .i64]),(false,[some .i64])],[(true,[some .i64,some .i64]),(false,[some .i64])]⟩,⟨82,125,[(true,[some .i64,some .i64]),(false,[some .i64]),(false,[none])],[(false,[some .i64]),(false,[some .i64])]⟩]
theorem Gn {x n:Int} (hx:-2147483648<=x/\x<=2147483648) (hn:-1073741824<=n/\n<=1073741824):x.natAbs*n.natAbs<=1267650600228229401496703205376/\-4611686018427387904<=x*n/\x*n<=4611686018427387904:=by
 have e:(x.natAbs*n.natAbs:Nat)=(x*n).natAbs:=(Int.natAbs_mul x n).symm;have m:x.natAbs*n.natAbs<=2147483648*1073741824:=Nat.mul_le_mul (by omega) (by omega)
 rw [e] at m ⊢
 generalize x*n=p at *
 omega
theorem P8 (args:List Int):∀ s∈Uw,bR Tryz.prog (Xc args) s:=by
 intro s hs;simp only [Uw,List.mem_cons,List.not_mem_nil,or_false] at hs;rcases hs with rfl|rfl
 . refine ⟨ours _ _ _ Tryz.func67 rfl (by kernel_rfl),fun xs hp w=>?_⟩
   match xs,hp with
   | [x,n],hp =>
    have hp':(-2147483648<=x/\x<=2147483648)/\(-1073741824<=n/\n<=1073741824):=hp;exact yj x n w ⟨by omega,by omega⟩ ⟨by omega,by omega⟩ (Gn hp'.1 hp'.2).1
 . refine ⟨ours _ _ _ Tryz.func82 rfl (by kernel_rfl),fun xs hp w=>?_⟩
   match xs,hp with
   | [h,l,b,u],hp =>
    have hp':WvP h l/\(-9223372036854775807<=b/\b<0)/\(u=0∨u=1):=hp;exact WE h l b u w hp'.1 hp'.2.1 hp'.2.2
def Kq:List Nd:=[
 .arg 0,
 .arg 1,
 .arg 2,
 .app 124 0 [.n 0,.n 1],
 .app 124 1 [.n 0,.n 1],
 .app 124 2 [.n 0,.n 1],
 .bin .neq .i64 (.n 5) (.c 0),
 .ite (.n 6) (.c 0) (.c 1),
 .app 125 0 [.n 3,.n 4,.n 2,.c 0],
 .app 125 1 [.n 3,.n 4,.n 2,.c 0],
 .bin .neq .i64 (.n 9) (.c 0),
 .ite (.n 10) (.c 0) (.c 1),
 .app 125 0 [.n 3,.n 4,.n 2,.c 1],
 .app 125 1 [.n 3,.n 4,.n 2,.c 1],
 .ite (.n 10) (.c 0) (.n 8),
 .ite (.n 10) (.c 0) (.n 12),
 .ite (.n 10) (.n 9) (.n 13),
 .ite (.n 6) (.c 0) (.n 14),
 .ite (.n 6) (.c 0) (.n 15),
 .ite (.n 6) (.n 5) (.n 16)]
def TD:List Vc:=[
 ⟨[],.pre 124 [.n 0,.n 1]⟩,
 ⟨[(.n 7,true)],.pre 125 [.n 3,.n 4,.n 2,.c 0]⟩,
 ⟨[(.n 11,true),(.n 7,true)],.pre 125 [.n 3,.n 4,.n 2,.c 1]⟩]
theorem Tm:whole Tryz.prog Uw 20 40 39 [(false,[some .i64]),(false,[some .i64]),(false,[some .i64])]=some (.tup [.c (.int .i64 (.n 17)),.c (.int .i64 (.n 18)),.c (.int .i64 (.n 19))],⟨Kq.reverse,TD.reverse⟩):=by kernel_rfl
theorem R7:wfN Kq.reverse=true:=by kernel_rfl
theorem OV (x n d:Int) (w:World) (hx:-2147483648<=x/\x<=2147483648) (hn:-1073741824<=n/\n<=1073741824) (hd:-2147483648<=d/\d<0):Calls Tryz.prog 39 #[.int .i64 x,.int .i64 n,.int .i64 d] w fun e w'=>e=.returned (.tuple #[.int .i64 (qFl (-x) n (-d)),.int .i64 (qCe (-x) n (-d)),.int .i64 0])/\Below w.heap.size w w':=by
 refine Sx.calls (X:=Xc [x,n,d]) jc (P8 _) Tm R7 (fun v hs=>?_) w
 have e0:v 0=x:=ag hs 0 rfl;have e1:v 1=n:=ag hs 1 rfl;have e2:v 2=d:=ag hs 2 rfl;have e3:v 3=(sZ 124 [v 0,v 1]).getD 0 0:=ag hs 3 rfl;have e4:v 4=(sZ 124 [v 0,v 1]).getD 1 0:=ag hs 4 rfl;have e5:v 5=(sZ 124 [v 0,v 1]).getD 2 0:=ag hs 5 rfl;have e6:v 6=b2i (v 5 != (0:Int)):=ag hs 6 rfl;have e7:v 7=if v 6≠0 then (0:Int) else (1:Int):=ag hs 7 rfl
 have e8:v 8=(sZ 125 [v 3,v 4,v 2,(0:Int)]).getD 0 0:=ag hs 8 rfl;have e9:v 9=(sZ 125 [v 3,v 4,v 2,(0:Int)]).getD 1 0:=ag hs 9 rfl;have e10:v 10=b2i (v 9 != (0:Int)):=ag hs 10 rfl;have e11:v 11=if v 10≠0 then (0:Int) else (1:Int):=ag hs 11 rfl
 have e12:v 12=(sZ 125 [v 3,v 4,v 2,(1:Int)]).getD 0 0:=ag hs 12 rfl;have e13:v 13=(sZ 125 [v 3,v 4,v 2,(1:Int)]).getD 1 0:=ag hs 13 rfl;have e14:v 14=if v 10≠0 then (0:Int) else v 8:=ag hs 14 rfl
 have e15:v 15=if v 10≠0 then (0:Int) else v 12:=ag hs 15 rfl
 have e16:v 16=if v 10≠0 then v 9 else v 13:=ag hs 16 rfl
 have e17:v 17=if v 6≠0 then (0:Int) else v 14:=ag hs 17 rfl
 have e18:v 18=if v 6≠0 then (0:Int) else v 15:=ag hs 18 rfl
 have e19:v 19=if v 6≠0 then v 5 else v 16:=ag hs 19 rfl
 have B:=Gn hx hn;have a3:v 3=x*n/1152921504606846976:=by rw [<-e0,<-e1];exact e3
 have a4:v 4=x*n%1152921504606846976:=by rw [<-e0,<-e1];exact e4
 have a5:v 5=0:=e5;have a6:v 6=0:=by rw [e6,a5];rfl
 have VV:wvV (v 3) (v 4)=x*n:=by
  rw [a3,a4];unfold wvV;omega
 have WP:WvP (v 3) (v 4):=by
  unfold WvP;rw [VV,a3,a4];exact ⟨Ap x n B.1,by omega,by omega⟩
 have a8:v 8=qFl (-x) n (-d):=by
  have k:v 8=quo (-wvV (v 3) (v 4)) (-v 2) false:=e8;rw [k,VV,e2];unfold quo qFl;rw [Int.neg_mul];rfl
 have a12:v 12=qCe (-x) n (-d):=by
  have k:v 12=quo (-wvV (v 3) (v 4)) (-v 2) true:=e12;rw [k,VV,e2];unfold quo qCe;rw [Int.neg_mul];rfl
 have a9:v 9=0:=e9;have a13:v 13=0:=e13;have a10:v 10=0:=by rw [e10,a9];rfl
 have a17:v 17=qFl (-x) n (-d):=by rw [e17,a6,e14,a10,a8];rfl
 have a18:v 18=qCe (-x) n (-d):=by rw [e18,a6,e15,a10,a12];rfl
 have a19:v 19=0:=by rw [e19,a6,e16,a10,a13];rfl
 refine ⟨gT ?_,?_⟩
 . exact aA (fun _=>by show (-2147483648<=v 0/\v 0<=2147483648)/\(-1073741824<=v 1/\v 1<=1073741824);rw [e0,e1];exact ⟨hx,hn⟩) (aA (fun _=>by show WvP (v 3) (v 4)/\(-9223372036854775807<=v 2/\v 2<0)/\((0:Int)=0∨(0:Int)=1);rw [e2];exact ⟨WP,⟨by omega,by omega⟩,.inl rfl⟩) (aA (fun _=>by show WvP (v 3) (v 4)/\(-9223372036854775807<=v 2/\v 2<0)/\((1:Int)=0∨(1:Int)=1);rw [e2];exact ⟨WP,⟨by omega,by omega⟩,.inr rfl⟩) gM))
 . intro y hy0;have hy':=gP (v:=v) (by rfl) hy0
   rw [hy'];show Value.tuple #[.int .i64 (v 17),.int .i64 (v 18),.int .i64 (v 19)]=_;rw [a17,a18,a19]
def qgL (a b c d n:Int):Int:=min (min (min (qFs a n c) (qFs a n d)) (qFs b n c)) (qFs b n d)
def qgH (a b c d n:Int):Int:=max (max (max (qCs a n c) (qCs a n d)) (qCs b n c)) (qCs b n d)
def qgO (a b c d n:Int):Prop:=cK (qgL a b c d n)=true/\cK (qgH a b c d n)=true
def qgV (a b c d n:Int):List Int:=if cK (qgL a b c d n)&&cK (qgH a b c d n) then [qgL a b c d n,qgH a b c d n,0] else [0,0,5]
def qgP (a b c d n:Int):Prop:=fxV a b=true/\fxV c d=true/\(0<c∨d<0)/\(-1073741824<=n/\n<=1073741824)
def EsP (x n d:Int):Prop:=(-2147483648<=x/\x<=2147483648)/\(-1073741824<=n/\n<=1073741824)/\((0<d/\d<=2147483648)∨(-2147483648<=d/\d<0))
def jK:Nat->List Int->List Int
 | 60,[x,n,d]=>[qFs x n d,qCs x n d,0]
 | 8,[a,b]=>[b2i (fxV a b)]
 | _,_=>[]
def Xn:Nat->List Int->Prop
 | 60,[x,n,d]=>EsP x n d
 | 8,[_,_]=>True
 | _,_=>False
def vU (args:List Int):Cx:=⟨jK,Xn,args⟩
def Tp:List Sx.Spec:=[XG,SH]
theorem Qq (args:List Int):∀ s∈Tp,bR Tryz.prog (vU args) s:=by
 intro s hs;simp only [Tp,List.mem_cons,List.not_mem_nil,or_false] at hs;rcases hs with rfl|rfl
 . refine ⟨ours _ _ _ Tryz.func39 rfl (by kernel_rfl),fun xs hp w=>?_⟩
   match xs,hp with
   | [x,n,d],hp =>
    have hp':EsP x n d:=hp;show Calls Tryz.prog 39 #[.int .i64 x,.int .i64 n,.int .i64 d] w fun e w'=>e=.returned (.tuple #[.int .i64 (qFs x n d),.int .i64 (qCs x n d),.int .i64 0])/\Below w.heap.size w w'
    unfold qFs qCs;rcases hp'.2.2 with h|h
    . have r:=O3 (show EnP x n d from ⟨hp'.1,hp'.2.1,h⟩)
      rw [if_neg (by omega),if_neg (by omega)]
      exact qB x n d w ⟨by have:=hp'.1;omega,by have:=hp'.1;omega⟩ ⟨by have:=hp'.2.1;omega,by have:=hp'.2.1;omega⟩ r.2.2 h.1 (by omega) ⟨by omega,by omega⟩ ⟨by omega,by omega⟩
    . rw [if_pos h.2,if_pos h.2];exact OV x n d w hp'.1 hp'.2.1 h
 . refine ⟨ours _ _ _ Tryz.func37 rfl (by kernel_rfl),fun xs hp w=>?_⟩
   match xs,hp with
   | [a,b],_ =>
    refine (jD a b w).mono ?_;rintro e w' ⟨he,hb⟩;exact ⟨by rw [he];exact congrArg Ending.returned (KV _).symm,hb⟩
def iU:List Nd:=[
 .arg 0,
 .arg 1,
 .arg 2,
 .arg 3,
 .arg 4,
 .app 8 0 [.n 0,.n 1],
 .app 8 0 [.n 2,.n 3],
 .ite (.n 5) (.n 6) (.c 0),
 .ite (.n 7) (.c 0) (.c 1),
 .bin .geq .i64 (.n 4) (.c (-1099511627776)),
 .bin .leq .i64 (.n 4) (.c 1099511627776),
 .ite (.n 9) (.n 10) (.c 0),
 .ite (.n 11) (.c 0) (.c 1),
 .bin .leq .i64 (.n 2) (.c 0),
 .bin .geq .i64 (.n 3) (.c 0),
 .ite (.n 13) (.n 14) (.c 0),
 .ite (.n 15) (.c 0) (.c 1),
 .ite (.n 11) (.n 16) (.c 0),
 .ite (.n 11) (.n 15) (.c 0),
 .ite (.n 12) (.c 1) (.n 18),
 .ite (.n 12) (.c 2) (.c 16),
 .ite (.n 8) (.c 0) (.c 1),
 .ite (.n 21) (.n 17) (.c 0),
 .ite (.n 21) (.n 19) (.c 0),
 .ite (.n 8) (.c 1) (.n 23),
 .ite (.n 8) (.c 1) (.n 20),
 .app 60 0 [.n 0,.n 4,.n 2],
 .app 60 1 [.n 0,.n 4,.n 2],
 .app 60 2 [.n 0,.n 4,.n 2],
 .bin .neq .i64 (.n 28) (.c 0),
 .ite (.n 29) (.c 0) (.c 1),
 .app 60 0 [.n 0,.n 4,.n 3],
 .app 60 1 [.n 0,.n 4,.n 3],
 .app 60 2 [.n 0,.n 4,.n 3],
 .bin .neq .i64 (.n 33) (.c 0),
 .ite (.n 34) (.c 0) (.c 1),
 .mn (.n 26) (.n 31),
 .mx (.n 27) (.n 32),
 .app 60 0 [.n 1,.n 4,.n 2],
 .app 60 1 [.n 1,.n 4,.n 2],
 .app 60 2 [.n 1,.n 4,.n 2],
 .bin .neq .i64 (.n 40) (.c 0),
 .ite (.n 41) (.c 0) (.c 1),
 .mn (.n 36) (.n 38),
 .mx (.n 37) (.n 39),
 .app 60 0 [.n 1,.n 4,.n 3],
 .app 60 1 [.n 1,.n 4,.n 3],
 .app 60 2 [.n 1,.n 4,.n 3],
 .bin .neq .i64 (.n 47) (.c 0),
 .ite (.n 48) (.c 0) (.c 1),
 .mn (.n 43) (.n 45),
 .mx (.n 44) (.n 46),
 .ite (.n 42) (.n 48) (.c 0),
 .ite (.n 42) (.n 49) (.c 0),
 .ite (.n 41) (.c 1) (.n 52),
 .ite (.n 41) (.n 36) (.n 43),
 .ite (.n 41) (.n 37) (.n 44),
 .ite (.n 41) (.c 2) (.c 3),
 .ite (.n 41) (.n 38) (.n 45),
 .ite (.n 41) (.n 39) (.n 46),
 .ite (.n 41) (.n 40) (.n 47),
 .ite (.n 41) (.n 2) (.n 3),
 .ite (.n 41) (.n 41) (.n 48),
 .ite (.n 41) (.c 1) (.c 2),
 .ite (.n 41) (.n 26) (.n 36),
 .ite (.n 41) (.n 31) (.n 38),
 .ite (.n 41) (.n 27) (.n 37),
 .ite (.n 41) (.n 32) (.n 39),
 .ite (.n 35) (.n 54) (.c 0),
 .ite (.n 35) (.n 53) (.c 0),
 .ite (.n 34) (.c 1) (.n 68),
 .ite (.n 34) (.n 26) (.n 55),
 .ite (.n 34) (.n 27) (.n 56),
 .ite (.n 34) (.c 1) (.n 57),
 .ite (.n 34) (.n 31) (.n 58),
 .ite (.n 34) (.n 32) (.n 59),
 .ite (.n 34) (.n 33) (.n 60),
 .ite (.n 34) (.n 0) (.n 1),
 .ite (.n 34) (.n 3) (.n 61),
 .ite (.n 34) (.n 34) (.n 62),
 .ite (.n 34) (.c 0) (.n 63),
 .ite (.n 34) (.n 26) (.n 64),
 .ite (.n 34) (.n 26) (.n 65),
 .ite (.n 34) (.n 27) (.n 66),
 .ite (.n 34) (.n 27) (.n 67),
 .ite (.n 30) (.n 70) (.c 0),
 .ite (.n 30) (.n 69) (.c 0),
 .ite (.n 29) (.c 1) (.n 85),
 .ite (.n 29) (.c 0) (.n 71),
 .ite (.n 29) (.c 0) (.n 72),
 .ite (.n 29) (.c 0) (.n 73),
 .ite (.n 29) (.n 26) (.n 74),
 .ite (.n 29) (.n 27) (.n 75),
 .ite (.n 29) (.n 28) (.n 76),
 .ite (.n 29) (.n 0) (.n 77),
 .ite (.n 29) (.n 2) (.n 78),
 .ite (.n 29) (.n 29) (.n 79),
 .bin .geq .i64 (.n 50) (.c (-1099511627776)),
 .bin .leq .i64 (.n 50) (.c 1099511627776),
 .ite (.n 97) (.n 98) (.c 0),
 .ite (.n 99) (.c 0) (.c 1),
 .bin .geq .i64 (.n 51) (.c (-1099511627776)),
 .bin .leq .i64 (.n 51) (.c 1099511627776),
 .ite (.n 101) (.n 102) (.c 0),
 .ite (.n 103) (.c 0) (.c 1),
 .ite (.n 100) (.c 1) (.n 104),
 .ite (.n 105) (.c 0) (.c 1),
 .ite (.n 105) (.c 0) (.n 50),
 .ite (.n 105) (.c 0) (.n 51),
 .ite (.n 105) (.c 5) (.c 0),
 .ite (.n 87) (.c 1) (.n 86),
 .ite (.n 87) (.c 0) (.n 107),
 .ite (.n 87) (.c 0) (.n 108),
 .ite (.n 87) (.c 5) (.n 109),
 .ite (.n 87) (.n 88) (.n 50),
 .ite (.n 87) (.n 89) (.n 51),
 .ite (.n 87) (.n 90) (.c 3),
 .ite (.n 87) (.n 91) (.n 45),
 .ite (.n 87) (.n 92) (.n 46),
 .ite (.n 87) (.n 93) (.n 47),
 .ite (.n 87) (.n 90) (.c 4),
 .ite (.n 87) (.n 94) (.n 1),
 .ite (.n 87) (.n 95) (.n 3),
 .ite (.n 87) (.n 96) (.n 48),
 .ite (.n 22) (.n 110) (.c 0),
 .ite (.n 24) (.c 1) (.n 124),
 .ite (.n 24) (.c 0) (.n 111),
 .ite (.n 24) (.c 0) (.n 112),
 .ite (.n 24) (.n 25) (.n 113)]
def Tk:List Vc:=[
 ⟨[],.pre 8 [.n 0,.n 1]⟩,
 ⟨[(.n 5,true)],.pre 8 [.n 2,.n 3]⟩,
 ⟨[(.n 22,true)],.pre 60 [.n 0,.n 4,.n 2]⟩,
 ⟨[(.n 30,true),(.n 22,true)],.pre 60 [.n 0,.n 4,.n 3]⟩,
 ⟨[(.n 35,true),(.n 30,true),(.n 22,true)],.pre 60 [.n 1,.n 4,.n 2]⟩,
 ⟨[(.n 42,true),(.n 35,true),(.n 30,true),(.n 22,true)],.pre 60 [.n 1,.n 4,.n 3]⟩]
theorem Vt:whole Tryz.prog Tp 20 40 51 [(true,[some .i64,some .i64]),(true,[some .i64,some .i64]),(false,[some .i64])]=some (.tup [.c (.int .i64 (.n 126)),.c (.int .i64 (.n 127)),.c (.int .i64 (.n 128))],⟨iU.reverse,Tk.reverse⟩):=by kernel_rfl
theorem Tg:wfN iU.reverse=true:=by kernel_rfl
theorem TJ (a b c d n:Int) (w:World) (hp0:qgP a b c d n):Calls Tryz.prog 51 #[.agg #[.int .i64 a,.int .i64 b],.agg #[.int .i64 c,.int .i64 d],.int .i64 n] w fun e w'=>e=.returned (.tuple #[.int .i64 ((qgV a b c d n).getD 0 0),.int .i64 ((qgV a b c d n).getD 1 0),.int .i64 ((qgV a b c d n).getD 2 0)])/\Below w.heap.size w w':=by
 refine Sx.calls (X:=vU [a,b,c,d,n]) jc (Qq _) Vt Tg (fun v hs=>?_) w
 obtain ⟨hab,hcd,c0,n0,n1⟩:=hp0;have ha:=(kG _ _).1 hab;have hc:=(kG _ _).1 hcd;have e0:v 0=a:=ag hs 0 rfl;have e1:v 1=b:=ag hs 1 rfl;have e2:v 2=c:=ag hs 2 rfl;have e3:v 3=d:=ag hs 3 rfl;have e4:v 4=n:=ag hs 4 rfl;have e5:v 5=b2i (fxV (v 0) (v 1)):=ag hs 5 rfl;have e6:v 6=b2i (fxV (v 2) (v 3)):=ag hs 6 rfl;have e9:v 9=b2i (decide (v 4>=(-1099511627776:Int))):=ag hs 9 rfl;have e10:v 10=b2i (decide (v 4<=(1099511627776:Int))):=ag hs 10 rfl;have e11:v 11=if v 9≠0 then v 10 else (0:Int):=ag hs 11 rfl
 have e13:v 13=b2i (decide (v 2<=(0:Int))):=ag hs 13 rfl;have e14:v 14=b2i (decide (v 3>=(0:Int))):=ag hs 14 rfl;have e15:v 15=if v 13≠0 then v 14 else (0:Int):=ag hs 15 rfl
 have e26:v 26=(jK 60 [v 0,v 4,v 2]).getD 0 0:=ag hs 26 rfl;have e27:v 27=(jK 60 [v 0,v 4,v 2]).getD 1 0:=ag hs 27 rfl;have e28:v 28=(jK 60 [v 0,v 4,v 2]).getD 2 0:=ag hs 28 rfl;have e31:v 31=(jK 60 [v 0,v 4,v 3]).getD 0 0:=ag hs 31 rfl;have e32:v 32=(jK 60 [v 0,v 4,v 3]).getD 1 0:=ag hs 32 rfl;have e33:v 33=(jK 60 [v 0,v 4,v 3]).getD 2 0:=ag hs 33 rfl;have e36:v 36=if v 31<v 26 then v 31 else v 26:=ag hs 36 rfl
 have e37:v 37=if v 32>v 27 then v 32 else v 27:=ag hs 37 rfl
 have e38:v 38=(jK 60 [v 1,v 4,v 2]).getD 0 0:=ag hs 38 rfl;have e39:v 39=(jK 60 [v 1,v 4,v 2]).getD 1 0:=ag hs 39 rfl;have e40:v 40=(jK 60 [v 1,v 4,v 2]).getD 2 0:=ag hs 40 rfl;have e43:v 43=if v 38<v 36 then v 38 else v 36:=ag hs 43 rfl
 have e44:v 44=if v 39>v 37 then v 39 else v 37:=ag hs 44 rfl
 have e45:v 45=(jK 60 [v 1,v 4,v 3]).getD 0 0:=ag hs 45 rfl;have e46:v 46=(jK 60 [v 1,v 4,v 3]).getD 1 0:=ag hs 46 rfl;have e47:v 47=(jK 60 [v 1,v 4,v 3]).getD 2 0:=ag hs 47 rfl;have e50:v 50=if v 45<v 43 then v 45 else v 43:=ag hs 50 rfl
 have e51:v 51=if v 46>v 44 then v 46 else v 44:=ag hs 51 rfl
 have e97:v 97=b2i (decide (v 50>=(-1099511627776:Int))):=ag hs 97 rfl;have e98:v 98=b2i (decide (v 50<=(1099511627776:Int))):=ag hs 98 rfl;have e99:v 99=if v 97≠0 then v 98 else (0:Int):=ag hs 99 rfl
 have e101:v 101=b2i (decide (v 51>=(-1099511627776:Int))):=ag hs 101 rfl;have e102:v 102=b2i (decide (v 51<=(1099511627776:Int))):=ag hs 102 rfl;have e103:v 103=if v 101≠0 then v 102 else (0:Int):=ag hs 103 rfl
 have A5:v 5=1:=by
  have k:v 5=b2i (fxV (v 0) (v 1)):=e5;rw [k,e0,e1,hab];rfl
 have A6:v 6=1:=by
  have k:v 6=b2i (fxV (v 2) (v 3)):=e6;rw [k,e2,e3,hcd];rfl
 have A9:v 9=1:=by rw [e9,e4,decide_eq_true (show n>=(-1099511627776:Int) by omega)];rfl
 have A10:v 10=1:=by rw [e10,e4,decide_eq_true (show n<=(1099511627776:Int) by omega)];rfl
 have A15:v 15=0:=by
  rw [e15,e13,e14,e2,e3];rcases c0 with h|h
  . rw [decide_eq_false (show ¬ c<=0 by omega)];rfl
  . rw [decide_eq_false (show ¬ d>=0 by omega)];simp [b2i]
 have D1:(0<c/\c<=2147483648)∨(-2147483648<=c/\c<0):=by omega
 have D2:(0<d/\d<=2147483648)∨(-2147483648<=d/\d<0):=by omega
 have P1:EsP (v 0) (v 4) (v 2):=by rw [e0,e4,e2];exact ⟨by omega,by omega,D1⟩
 have P2:EsP (v 0) (v 4) (v 3):=by rw [e0,e4,e3];exact ⟨by omega,by omega,D2⟩
 have P3:EsP (v 1) (v 4) (v 2):=by rw [e1,e4,e2];exact ⟨by omega,by omega,D1⟩
 have P4:EsP (v 1) (v 4) (v 3):=by rw [e1,e4,e3];exact ⟨by omega,by omega,D2⟩
 have E28:v 28=0:=e28;have E33:v 33=0:=e33;have E40:v 40=0:=e40;have E47:v 47=0:=e47;have f26:v 26=qFs a n c:=by rw [e26,e0,e4,e2];rfl
 have f31:v 31=qFs a n d:=by rw [e31,e0,e4,e3];rfl
 have f38:v 38=qFs b n c:=by rw [e38,e1,e4,e2];rfl
 have f45:v 45=qFs b n d:=by rw [e45,e1,e4,e3];rfl
 have f27:v 27=qCs a n c:=by rw [e27,e0,e4,e2];rfl
 have f32:v 32=qCs a n d:=by rw [e32,e0,e4,e3];rfl
 have f39:v 39=qCs b n c:=by rw [e39,e1,e4,e2];rfl
 have f46:v 46=qCs b n d:=by rw [e46,e1,e4,e3];rfl
 have L:v 50=qgL a b c d n:=by
  rw [kF e50,kF e43,kF e36,f26,f31,f38,f45];rfl
 have H:v 51=qgH a b c d n:=by
  rw [kC e51,kC e44,kC e37,f27,f32,f39,f46];rfl
 have B1:v 99=b2i (cK (qgL a b c d n)):=by rw [<-L];exact Rq e97 e98 e99
 have B2:v 103=b2i (cK (qgH a b c d n)):=by rw [<-H];exact Rq e101 e102 e103
 refine ⟨gT ?_,?_⟩
 . exact aA (fun _=>trivial) (aA (fun _=>trivial) (aA (fun _=>P1) (aA (fun _=>P2) (aA (fun _=>P3) (aA (fun _=>P4) (gM))))))
 . intro x hx0;have hx':=gP (v:=v) (by rfl) hx0
   rw [hx'];show Value.tuple #[.int .i64 (v 126),.int .i64 (v 127),.int .i64 (v 128)]=_;unfold qgV;cases h1:cK (qgL a b c d n)
   . have b1:v 99=0:=by rw [B1,h1];rfl
     have z126:v 126=0:=bP (X:=vU [a,b,c,d,n]) (v:=v) (l:=iU) (aK _) hs (k:=126) (r:=.c 0) (ps:=[(5,.c 1),(6,.c 1),(9,.c 1),(10,.c 1),(15,.c 0),(28,.c 0),(33,.c 0),(40,.c 0),(47,.c 0),(99,.c 0)]) (nz:=[]) (ae A5 (ae A6 (ae A9 (ae A10 (ae A15 (ae E28 (ae E33 (ae E40 (ae E47 (ae b1 aS)))))))))) dz (by kernel_rfl)
     have z127:v 127=0:=bP (X:=vU [a,b,c,d,n]) (v:=v) (l:=iU) (aK _) hs (k:=127) (r:=.c 0) (ps:=[(5,.c 1),(6,.c 1),(9,.c 1),(10,.c 1),(15,.c 0),(28,.c 0),(33,.c 0),(40,.c 0),(47,.c 0),(99,.c 0)]) (nz:=[]) (ae A5 (ae A6 (ae A9 (ae A10 (ae A15 (ae E28 (ae E33 (ae E40 (ae E47 (ae b1 aS)))))))))) dz (by kernel_rfl)
     have z128:v 128=5:=bP (X:=vU [a,b,c,d,n]) (v:=v) (l:=iU) (aK _) hs (k:=128) (r:=.c 5) (ps:=[(5,.c 1),(6,.c 1),(9,.c 1),(10,.c 1),(15,.c 0),(28,.c 0),(33,.c 0),(40,.c 0),(47,.c 0),(99,.c 0)]) (nz:=[]) (ae A5 (ae A6 (ae A9 (ae A10 (ae A15 (ae E28 (ae E33 (ae E40 (ae E47 (ae b1 aS)))))))))) dz (by kernel_rfl)
     rw [z126,z127,z128];rfl
   . cases h2:cK (qgH a b c d n)
     . have b1:v 99=1:=by rw [B1,h1];rfl
       have b2:v 103=0:=by rw [B2,h2];rfl
       have z126:v 126=0:=bP (X:=vU [a,b,c,d,n]) (v:=v) (l:=iU) (aK _) hs (k:=126) (r:=.c 0) (ps:=[(5,.c 1),(6,.c 1),(9,.c 1),(10,.c 1),(15,.c 0),(28,.c 0),(33,.c 0),(40,.c 0),(47,.c 0),(99,.c 1),(103,.c 0)]) (nz:=[]) (ae A5 (ae A6 (ae A9 (ae A10 (ae A15 (ae E28 (ae E33 (ae E40 (ae E47 (ae b1 (ae b2 aS))))))))))) dz (by kernel_rfl)
       have z127:v 127=0:=bP (X:=vU [a,b,c,d,n]) (v:=v) (l:=iU) (aK _) hs (k:=127) (r:=.c 0) (ps:=[(5,.c 1),(6,.c 1),(9,.c 1),(10,.c 1),(15,.c 0),(28,.c 0),(33,.c 0),(40,.c 0),(47,.c 0),(99,.c 1),(103,.c 0)]) (nz:=[]) (ae A5 (ae A6 (ae A9 (ae A10 (ae A15 (ae E28 (ae E33 (ae E40 (ae E47 (ae b1 (ae b2 aS))))))))))) dz (by kernel_rfl)
       have z128:v 128=5:=bP (X:=vU [a,b,c,d,n]) (v:=v) (l:=iU) (aK _) hs (k:=128) (r:=.c 5) (ps:=[(5,.c 1),(6,.c 1),(9,.c 1),(10,.c 1),(15,.c 0),(28,.c 0),(33,.c 0),(40,.c 0),(47,.c 0),(99,.c 1),(103,.c 0)]) (nz:=[]) (ae A5 (ae A6 (ae A9 (ae A10 (ae A15 (ae E28 (ae E33 (ae E40 (ae E47 (ae b1 (ae b2 aS))))))))))) dz (by kernel_rfl)
       rw [z126,z127,z128];rfl
     . have b1:v 99=1:=by rw [B1,h1];rfl
       have b2:v 103=1:=by rw [B2,h2];rfl
       have z126:v 126=v 50:=aW (X:=vU [a,b,c,d,n]) (v:=v) (l:=iU) (aK _) hs (k:=126) (j:=50) (ps:=[(5,.c 1),(6,.c 1),(9,.c 1),(10,.c 1),(15,.c 0),(28,.c 0),(33,.c 0),(40,.c 0),(47,.c 0),(99,.c 1),(103,.c 1)]) (ae A5 (ae A6 (ae A9 (ae A10 (ae A15 (ae E28 (ae E33 (ae E40 (ae E47 (ae b1 (ae b2 aS))))))))))) (by kernel_rfl)
       have z127:v 127=v 51:=aW (X:=vU [a,b,c,d,n]) (v:=v) (l:=iU) (aK _) hs (k:=127) (j:=51) (ps:=[(5,.c 1),(6,.c 1),(9,.c 1),(10,.c 1),(15,.c 0),(28,.c 0),(33,.c 0),(40,.c 0),(47,.c 0),(99,.c 1),(103,.c 1)]) (ae A5 (ae A6 (ae A9 (ae A10 (ae A15 (ae E28 (ae E33 (ae E40 (ae E47 (ae b1 (ae b2 aS))))))))))) (by kernel_rfl)
       have z128:v 128=0:=bP (X:=vU [a,b,c,d,n]) (v:=v) (l:=iU) (aK _) hs (k:=128) (r:=.c 0) (ps:=[(5,.c 1),(6,.c 1),(9,.c 1),(10,.c 1),(15,.c 0),(28,.c 0),(33,.c 0),(40,.c 0),(47,.c 0),(99,.c 1),(103,.c 1)]) (nz:=[]) (ae A5 (ae A6 (ae A9 (ae A10 (ae A15 (ae E28 (ae E33 (ae E40 (ae E47 (ae b1 (ae b2 aS))))))))))) dz (by kernel_rfl)
       rw [z126,z127,z128,L,H];rfl
