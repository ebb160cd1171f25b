/- The contracts of Quotient of both sides, for a divisor that is not under 0 and a factor from 0 to 2^30. -/
import Derived.Test.YtoniodlcogpdbaaGreatZSpE
set_option linter.unusedVariables false
set_option linter.unusedSimpArgs false
set_option maxRecDepth 100000
namespace Alm
theorem BQ {a b:Int} (ha:0<=a):a.tdiv b=a/b:=Int.tdiv_eq_ediv_of_nonneg ha
theorem I6 {a n c q m:Int} (ha:0<=a) (hn:0<=n) (hc:0<c) (hq:q=a/c) (hm:m=n/1048576) (h:4194304<m*q):4398046511104<a*n/c:=by
 have q0:0<=q:=by rw [hq];exact Int.ediv_nonneg ha (by omega)
 have m0:0<=m:=by omega
 have h1:q*c<=a:=by rw [hq];exact Int.ediv_mul_le a (by omega)
 have h2:m*1048576<=n:=by omega
 have h3:(q*c)*(m*1048576)<=a*n:=Int.mul_le_mul h1 h2 (by omega) ha
 have h4:(q*c)*(m*1048576)=(m*q*1048576)*c:=by grind
 rw [h4] at h3;have h5:=Int.le_ediv_of_mul_le hc h3;omega
end Alm
namespace Go.Proofs.YtoniodlcogpdbaaGreat
open Go.RowKit Alm Sx
def qoL (a b c d n:Int):Int:=min (min (min (qFl a n c) (qFl a n d)) (qFl b n c)) (qFl b n d)
def qoH (a b c d n:Int):Int:=max (max (max (qCe a n c) (qCe a n d)) (qCe b n c)) (qCe b n d)
def qoV (a b c d n:Int):List Int:=if c<=0 then [0,0,16] else if dz (qoL a b c d n)=true/\dz (qoH a b c d n)=true then [qoL a b c d n,qoH a b c d n,0] else [0,0,5]
def qoP (a b c d n:Int):Prop:=fxV a b=true/\fxV c d=true/\0<=c/\0<=n/\n<=1073741824
def EnP (x n d:Int):Prop:=(-2147483648<=x/\x<=2147483648)/\(-1073741824<=n/\n<=1073741824)/\(0<d/\d<=2147483648)
theorem nQ {x n d:Int} (h:EnP x n d):(-2305843009213693952<=qFl x n d/\qFl x n d<=2305843009213693952)/\(-2305843009213693952<=qCe x n d/\qCe x n d<=2305843009213693952)/\x.natAbs*n.natAbs<=1267650600228229401496703205376:=by
 obtain ⟨⟨x1,x2⟩,⟨n1,n2⟩,d1,d2⟩:=h;have e:(x.natAbs*n.natAbs:Nat)=(x*n).natAbs:=(Int.natAbs_mul x n).symm;have m:x.natAbs*n.natAbs<=2147483648*1073741824:=Nat.mul_le_mul (by omega) (by omega)
 rw [e] at m ⊢
 unfold qFl qCe;generalize x*n=p at *
 have b:-2305843009213693952<=p/\p<=2305843009213693952:=by omega
 have k1:p<=2305843009213693952*d:=by have:=Int.mul_le_mul_of_nonneg_left (show (1:Int)<=d by omega) (show (0:Int)<=2305843009213693952 by omega);omega
 have k2:-2305843009213693952*d<=p:=by have:=Int.mul_le_mul_of_nonneg_left (show (1:Int)<=d by omega) (show (0:Int)<=2305843009213693952 by omega);omega
 have a1:-2305843009213693952<=p/d:=Int.le_ediv_of_mul_le d1 k2;have a2:p/d<=2305843009213693952:=Int.ediv_le_of_le_mul d1 k1;have a3:-2305843009213693952<=-p/d:=Int.le_ediv_of_mul_le d1 (by omega)
 have a4:-p/d<=2305843009213693952:=Int.ediv_le_of_le_mul d1 (by omega)
 refine ⟨⟨a1,a2⟩,⟨by omega,by omega⟩,by omega⟩
def fP:Nat->List Int->List Int
 | 60,[x,n,d]=>[qFl x n d,qCe x n d,0]
 | 62,[x,n,d]=>[qFl x n d]
 | 8,[a,b]=>[b2i (fxV a b)]
 | _,_=>[]
def ach:Nat->List Int->Prop
 | 60,[x,n,d]=>EnP x n d
 | 62,[x,n,d]=>EnP x n d
 | 8,[_,_]=>True
 | _,_=>False
def eG (args:List Int):Cx:=⟨fP,ach,args⟩
def ac9:Sx.Spec:=⟨73,60,[(false,[some .i64]),(false,[some .i64]),(false,[some .i64])],[(false,[some .i64]),(false,[some .i64]),(false,[some .i64])]⟩
def Xy:Sx.Spec:=⟨106,62,[(false,[some .i64]),(false,[some .i64]),(false,[some .i64])],[(false,[some .i64])]⟩
def T9:List Sx.Spec:=[ac9,Xy,BC]
theorem J7 (args:List Int):∀ s∈T9,aR Tryz.prog (eG args) s:=by
 intro s hs;simp only [T9,List.mem_cons,List.not_mem_nil,or_false] at hs;rcases hs with rfl|rfl|rfl
 . refine ⟨ours _ _ _ Tryz.func73 rfl (by kernel_rfl),fun xs hp w=>?_⟩
   match xs,hp with
   | [x,n,d],hp =>
    have hp':EnP x n d:=hp;have r:=nQ hp'
    exact Nk x n d w ⟨by have:=hp'.1;omega,by have:=hp'.1;omega⟩ ⟨by have:=hp'.2.1;omega,by have:=hp'.2.1;omega⟩ r.2.2 hp'.2.2.1 (by have:=hp'.2.2.2;omega) ⟨by omega,by omega⟩ ⟨by omega,by omega⟩
 . refine ⟨ours _ _ _ Tryz.func106 rfl (by kernel_rfl),fun xs hp w=>?_⟩
   match xs,hp with
   | [x,n,d],hp =>
    have hp':EnP x n d:=hp;have r:=nQ hp'
    refine (VI x n d w hp'.1 ⟨by have:=hp'.2.1;omega,by have:=hp'.2.1;omega⟩ hp'.2.2 r.1).mono ?_
    rintro e w' ⟨he,hb⟩;exact ⟨he,by rw [<-hb];exact Below.refl _ _⟩
 . refine ⟨ours _ _ _ Tryz.func101 rfl (by kernel_rfl),fun xs hp w=>?_⟩
   match xs,hp with
   | [a,b],_ =>
    refine (fI a b w).mono ?_;rintro e w' ⟨he,hb⟩;exact ⟨by rw [he];exact congrArg Ending.returned (ni _).symm,hb⟩
def adv (t:Tab):Nd->Option Rf:=fun _=>none
theorem aX (X:Cx):jG X adv:=fun v t x r ht h=>by cases h
theorem iP {X:Cx} {v:Nat->Int} {ext:Ext} (he:jG X ext) {l:List Nd} (hs:gW X v l.reverse) {ps:List (Nat × Rf)} (hp:∀ q∈ps,v q.1=q.2.val v) {k j:Nat} (h:Rf.eq ((norm ext ps [] l).rep (.n k)) ((norm ext ps [] l).rep (.n j))=true):v k=v j:=by
 have a:=jP (jE he hs hp aA) (.n k);have b:=jP (jE he hs hp aA) (.n j);rw [Rf.eq_eq h] at a;exact a.symm.trans b
theorem Jw {n x y z:Int} (hx:x=b2i (decide (n>=(-1099511627776:Int)))) (hy:y=b2i (decide (n<=(1099511627776:Int)))) (hz:z=if x≠0 then y else (0:Int)):z=b2i (dz n):=by
 rw [hz,hx,hy];unfold dz
 by_cases h1:n>=(-1099511627776:Int)<;>by_cases h2:n<=(1099511627776:Int)<;>simp [b2i,h1,h2]<;>omega
theorem Gv {a b x:Int} (h:x=if b<a then b else a):x=min a b:=by omega
theorem Gg {a b x:Int} (h:x=if b>a then b else a):x=max a b:=by omega
def gm:List Nd:=[
 .arg 0,
 .arg 1,
 .arg 2,
 .arg 3,
 .arg 4,
 .app 8 0 [.n 0,.n 1],
 .app 8 0 [.n 2,.n 3],
 .ite (.n 5) (.n 6) (.c 0),
 .ite (.n 7) (.c 0) (.c 1),
 .bin .geq .i64 (.n 4) (.c (-1099511627776)),
 .bin .leq .i64 (.n 4) (.c 1099511627776),
 .ite (.n 9) (.n 10) (.c 0),
 .ite (.n 11) (.c 0) (.c 1),
 .bin .leq .i64 (.n 2) (.c 0),
 .bin .geq .i64 (.n 3) (.c 0),
 .ite (.n 13) (.n 14) (.c 0),
 .ite (.n 15) (.c 0) (.c 1),
 .ite (.n 11) (.n 16) (.c 0),
 .ite (.n 11) (.n 15) (.c 0),
 .ite (.n 12) (.c 1) (.n 18),
 .ite (.n 12) (.c 2) (.c 16),
 .ite (.n 8) (.c 0) (.c 1),
 .ite (.n 21) (.n 17) (.c 0),
 .ite (.n 21) (.n 19) (.c 0),
 .ite (.n 8) (.c 1) (.n 23),
 .ite (.n 8) (.c 1) (.n 20),
 .app 60 0 [.n 0,.n 4,.n 2],
 .app 60 1 [.n 0,.n 4,.n 2],
 .app 60 2 [.n 0,.n 4,.n 2],
 .bin .neq .i64 (.n 28) (.c 0),
 .ite (.n 29) (.c 0) (.c 1),
 .app 60 0 [.n 0,.n 4,.n 3],
 .app 60 1 [.n 0,.n 4,.n 3],
 .app 60 2 [.n 0,.n 4,.n 3],
 .bin .neq .i64 (.n 33) (.c 0),
 .ite (.n 34) (.c 0) (.c 1),
 .mn (.n 26) (.n 31),
 .mx (.n 27) (.n 32),
 .app 60 0 [.n 1,.n 4,.n 2],
 .app 60 1 [.n 1,.n 4,.n 2],
 .app 60 2 [.n 1,.n 4,.n 2],
 .bin .neq .i64 (.n 40) (.c 0),
 .ite (.n 41) (.c 0) (.c 1),
 .mn (.n 36) (.n 38),
 .mx (.n 37) (.n 39),
 .app 60 0 [.n 1,.n 4,.n 3],
 .app 60 1 [.n 1,.n 4,.n 3],
 .app 60 2 [.n 1,.n 4,.n 3],
 .bin .neq .i64 (.n 47) (.c 0),
 .ite (.n 48) (.c 0) (.c 1),
 .mn (.n 43) (.n 45),
 .mx (.n 44) (.n 46),
 .ite (.n 42) (.n 48) (.c 0),
 .ite (.n 42) (.n 49) (.c 0),
 .ite (.n 41) (.c 1) (.n 52),
 .ite (.n 41) (.n 36) (.n 43),
 .ite (.n 41) (.n 37) (.n 44),
 .ite (.n 41) (.c 2) (.c 3),
 .ite (.n 41) (.n 38) (.n 45),
 .ite (.n 41) (.n 39) (.n 46),
 .ite (.n 41) (.n 40) (.n 47),
 .ite (.n 41) (.n 2) (.n 3),
 .ite (.n 41) (.n 41) (.n 48),
 .ite (.n 41) (.c 1) (.c 2),
 .ite (.n 41) (.n 26) (.n 36),
 .ite (.n 41) (.n 31) (.n 38),
 .ite (.n 41) (.n 27) (.n 37),
 .ite (.n 41) (.n 32) (.n 39),
 .ite (.n 35) (.n 54) (.c 0),
 .ite (.n 35) (.n 53) (.c 0),
 .ite (.n 34) (.c 1) (.n 68),
 .ite (.n 34) (.n 26) (.n 55),
 .ite (.n 34) (.n 27) (.n 56),
 .ite (.n 34) (.c 1) (.n 57),
 .ite (.n 34) (.n 31) (.n 58),
 .ite (.n 34) (.n 32) (.n 59),
 .ite (.n 34) (.n 33) (.n 60),
 .ite (.n 34) (.n 0) (.n 1),
 .ite (.n 34) (.n 3) (.n 61),
 .ite (.n 34) (.n 34) (.n 62),
 .ite (.n 34) (.c 0) (.n 63),
 .ite (.n 34) (.n 26) (.n 64),
 .ite (.n 34) (.n 26) (.n 65),
 .ite (.n 34) (.n 27) (.n 66),
 .ite (.n 34) (.n 27) (.n 67),
 .ite (.n 30) (.n 70) (.c 0),
 .ite (.n 30) (.n 69) (.c 0),
 .ite (.n 29) (.c 1) (.n 85),
 .ite (.n 29) (.c 0) (.n 71),
 .ite (.n 29) (.c 0) (.n 72),
 .ite (.n 29) (.c 0) (.n 73),
 .ite (.n 29) (.n 26) (.n 74),
 .ite (.n 29) (.n 27) (.n 75),
 .ite (.n 29) (.n 28) (.n 76),
 .ite (.n 29) (.n 0) (.n 77),
 .ite (.n 29) (.n 2) (.n 78),
 .ite (.n 29) (.n 29) (.n 79),
 .bin .geq .i64 (.n 50) (.c (-1099511627776)),
 .bin .leq .i64 (.n 50) (.c 1099511627776),
 .ite (.n 97) (.n 98) (.c 0),
 .ite (.n 99) (.c 0) (.c 1),
 .bin .geq .i64 (.n 51) (.c (-1099511627776)),
 .bin .leq .i64 (.n 51) (.c 1099511627776),
 .ite (.n 101) (.n 102) (.c 0),
 .ite (.n 103) (.c 0) (.c 1),
 .ite (.n 100) (.c 1) (.n 104),
 .ite (.n 105) (.c 0) (.c 1),
 .ite (.n 105) (.c 0) (.n 50),
 .ite (.n 105) (.c 0) (.n 51),
 .ite (.n 105) (.c 5) (.c 0),
 .ite (.n 87) (.c 1) (.n 86),
 .ite (.n 87) (.c 0) (.n 107),
 .ite (.n 87) (.c 0) (.n 108),
 .ite (.n 87) (.c 5) (.n 109),
 .ite (.n 87) (.n 88) (.n 50),
 .ite (.n 87) (.n 89) (.n 51),
 .ite (.n 87) (.n 90) (.c 3),
 .ite (.n 87) (.n 91) (.n 45),
 .ite (.n 87) (.n 92) (.n 46),
 .ite (.n 87) (.n 93) (.n 47),
 .ite (.n 87) (.n 90) (.c 4),
 .ite (.n 87) (.n 94) (.n 1),
 .ite (.n 87) (.n 95) (.n 3),
 .ite (.n 87) (.n 96) (.n 48),
 .ite (.n 22) (.n 110) (.c 0),
 .ite (.n 24) (.c 1) (.n 124),
 .ite (.n 24) (.c 0) (.n 111),
 .ite (.n 24) (.c 0) (.n 112),
 .ite (.n 24) (.n 25) (.n 113)]
def Ze:List Vc:=[
 ⟨[],.pre 8 [.n 0,.n 1]⟩,
 ⟨[(.n 5,true)],.pre 8 [.n 2,.n 3]⟩,
 ⟨[(.n 22,true)],.pre 60 [.n 0,.n 4,.n 2]⟩,
 ⟨[(.n 30,true),(.n 22,true)],.pre 60 [.n 0,.n 4,.n 3]⟩,
 ⟨[(.n 35,true),(.n 30,true),(.n 22,true)],.pre 60 [.n 1,.n 4,.n 2]⟩,
 ⟨[(.n 42,true),(.n 35,true),(.n 30,true),(.n 22,true)],.pre 60 [.n 1,.n 4,.n 3]⟩]
theorem Zt:whole Tryz.prog T9 20 40 48 [(true,[some .i64,some .i64]),(true,[some .i64,some .i64]),(false,[some .i64])]=some (.tup [.c (.int .i64 (.n 126)),.c (.int .i64 (.n 127)),.c (.int .i64 (.n 128))],⟨gm.reverse,Ze.reverse⟩):=by kernel_rfl
theorem ZH:wfN gm.reverse=true:=by kernel_rfl
theorem UC (a b c d n:Int) (w:World) (hp0:qoP a b c d n):Calls Tryz.prog 48 #[.agg #[.int .i64 a,.int .i64 b],.agg #[.int .i64 c,.int .i64 d],.int .i64 n] w fun e w'=>e=.returned (.tuple #[.int .i64 ((qoV a b c d n).getD 0 0),.int .i64 ((qoV a b c d n).getD 1 0),.int .i64 ((qoV a b c d n).getD 2 0)])/\Below w.heap.size w w':=by
 refine Sx.calls (X:=eG [a,b,c,d,n]) dP (J7 _) Zt ZH (fun v hs=>?_) w
 obtain ⟨hab,hcd,c0,n0,n1⟩:=hp0;have ha:=(bS _ _).1 hab;have hc:=(bS _ _).1 hcd;have e0:v 0=a:=aa hs 0 rfl;have e1:v 1=b:=aa hs 1 rfl;have e2:v 2=c:=aa hs 2 rfl;have e3:v 3=d:=aa hs 3 rfl;have e4:v 4=n:=aa hs 4 rfl;have e5:v 5=b2i (fxV (v 0) (v 1)):=aa hs 5 rfl;have e6:v 6=b2i (fxV (v 2) (v 3)):=aa hs 6 rfl;have e9:v 9=b2i (decide (v 4>=(-1099511627776:Int))):=aa hs 9 rfl;have e10:v 10=b2i (decide (v 4<=(1099511627776:Int))):=aa hs 10 rfl;have e11:v 11=if v 9≠0 then v 10 else (0:Int):=aa hs 11 rfl
 have e13:v 13=b2i (decide (v 2<=(0:Int))):=aa hs 13 rfl;have e14:v 14=b2i (decide (v 3>=(0:Int))):=aa hs 14 rfl;have e26:v 26=(fP 60 [v 0,v 4,v 2]).getD 0 0:=aa hs 26 rfl;have e27:v 27=(fP 60 [v 0,v 4,v 2]).getD 1 0:=aa hs 27 rfl;have e28:v 28=(fP 60 [v 0,v 4,v 2]).getD 2 0:=aa hs 28 rfl;have e31:v 31=(fP 60 [v 0,v 4,v 3]).getD 0 0:=aa hs 31 rfl;have e32:v 32=(fP 60 [v 0,v 4,v 3]).getD 1 0:=aa hs 32 rfl;have e33:v 33=(fP 60 [v 0,v 4,v 3]).getD 2 0:=aa hs 33 rfl;have e36:v 36=if v 31<v 26 then v 31 else v 26:=aa hs 36 rfl
 have e37:v 37=if v 32>v 27 then v 32 else v 27:=aa hs 37 rfl
 have e38:v 38=(fP 60 [v 1,v 4,v 2]).getD 0 0:=aa hs 38 rfl;have e39:v 39=(fP 60 [v 1,v 4,v 2]).getD 1 0:=aa hs 39 rfl;have e40:v 40=(fP 60 [v 1,v 4,v 2]).getD 2 0:=aa hs 40 rfl;have e43:v 43=if v 38<v 36 then v 38 else v 36:=aa hs 43 rfl
 have e44:v 44=if v 39>v 37 then v 39 else v 37:=aa hs 44 rfl
 have e45:v 45=(fP 60 [v 1,v 4,v 3]).getD 0 0:=aa hs 45 rfl;have e46:v 46=(fP 60 [v 1,v 4,v 3]).getD 1 0:=aa hs 46 rfl;have e47:v 47=(fP 60 [v 1,v 4,v 3]).getD 2 0:=aa hs 47 rfl;have e50:v 50=if v 45<v 43 then v 45 else v 43:=aa hs 50 rfl
 have e51:v 51=if v 46>v 44 then v 46 else v 44:=aa hs 51 rfl
 have e97:v 97=b2i (decide (v 50>=(-1099511627776:Int))):=aa hs 97 rfl;have e98:v 98=b2i (decide (v 50<=(1099511627776:Int))):=aa hs 98 rfl;have e99:v 99=if v 97≠0 then v 98 else (0:Int):=aa hs 99 rfl
 have e101:v 101=b2i (decide (v 51>=(-1099511627776:Int))):=aa hs 101 rfl;have e102:v 102=b2i (decide (v 51<=(1099511627776:Int))):=aa hs 102 rfl;have e103:v 103=if v 101≠0 then v 102 else (0:Int):=aa hs 103 rfl
 have A5:v 5=1:=by rw [e5,e0,e1,hab];rfl
 have A6:v 6=1:=by rw [e6,e2,e3,hcd];rfl
 have A9:v 9=1:=by rw [e9,e4,decide_eq_true (show n>=(-1099511627776:Int) by omega)];rfl
 have A10:v 10=1:=by rw [e10,e4,decide_eq_true (show n<=(1099511627776:Int) by omega)];rfl
 by_cases hz:c<=0
 . have A13:v 13=1:=by rw [e13,e2,decide_eq_true hz];rfl
   have A14:v 14=1:=by rw [e14,e3,decide_eq_true (show d>=0 by omega)];rfl
   have z22:v 22=0:=ax (X:=eG [a,b,c,d,n]) (v:=v) (l:=gm) (aX _) hs (k:=22) (r:=.c 0) (ps:=[(5,.c 1),(6,.c 1),(9,.c 1),(10,.c 1),(13,.c 1),(14,.c 1)]) (nz:=[]) (ae A5 (ae A6 (ae A9 (ae A10 (ae A13 (ae A14 av)))))) aA (by kernel_rfl)
   have z126:v 126=0:=ax (X:=eG [a,b,c,d,n]) (v:=v) (l:=gm) (aX _) hs (k:=126) (r:=.c 0) (ps:=[(5,.c 1),(6,.c 1),(9,.c 1),(10,.c 1),(13,.c 1),(14,.c 1)]) (nz:=[]) (ae A5 (ae A6 (ae A9 (ae A10 (ae A13 (ae A14 av)))))) aA (by kernel_rfl)
   have z127:v 127=0:=ax (X:=eG [a,b,c,d,n]) (v:=v) (l:=gm) (aX _) hs (k:=127) (r:=.c 0) (ps:=[(5,.c 1),(6,.c 1),(9,.c 1),(10,.c 1),(13,.c 1),(14,.c 1)]) (nz:=[]) (ae A5 (ae A6 (ae A9 (ae A10 (ae A13 (ae A14 av)))))) aA (by kernel_rfl)
   have z128:v 128=16:=ax (X:=eG [a,b,c,d,n]) (v:=v) (l:=gm) (aX _) hs (k:=128) (r:=.c 16) (ps:=[(5,.c 1),(6,.c 1),(9,.c 1),(10,.c 1),(13,.c 1),(14,.c 1)]) (nz:=[]) (ae A5 (ae A6 (ae A9 (ae A10 (ae A13 (ae A14 av)))))) aA (by kernel_rfl)
   refine ⟨bB ?_,?_⟩
   . exact ag (fun _=>trivial) (ag (fun _=>trivial) (ag (fun hp=>absurd z22 (aj hp).1) (ag (fun hp=>absurd z22 (aj (aj hp).2).1) (ag (fun hp=>absurd z22 (aj (aj (aj hp).2).2).1) (ag (fun hp=>absurd z22 (aj (aj (aj (aj hp).2).2).2).1) (bu))))))
   . intro x hx0;have hx':=bM (v:=v) (by rfl) hx0
     rw [hx'];show Value.tuple #[.int .i64 (v 126),.int .i64 (v 127),.int .i64 (v 128)]=_;have V:qoV a b c d n=[0,0,16]:=if_pos hz;rw [z126,z127,z128,V];rfl
 . have A13:v 13=0:=by rw [e13,e2,decide_eq_false hz];rfl
   have P1:EnP (v 0) (v 4) (v 2):=by rw [e0,e4,e2];exact ⟨by omega,by omega,by omega⟩
   have P2:EnP (v 0) (v 4) (v 3):=by rw [e0,e4,e3];exact ⟨by omega,by omega,by omega⟩
   have P3:EnP (v 1) (v 4) (v 2):=by rw [e1,e4,e2];exact ⟨by omega,by omega,by omega⟩
   have P4:EnP (v 1) (v 4) (v 3):=by rw [e1,e4,e3];exact ⟨by omega,by omega,by omega⟩
   have E28:v 28=0:=e28;have E33:v 33=0:=e33;have E40:v 40=0:=e40;have E47:v 47=0:=e47;have f26:v 26=qFl a n c:=by rw [e26,e0,e4,e2];rfl
   have f31:v 31=qFl a n d:=by rw [e31,e0,e4,e3];rfl
   have f38:v 38=qFl b n c:=by rw [e38,e1,e4,e2];rfl
   have f45:v 45=qFl b n d:=by rw [e45,e1,e4,e3];rfl
   have f27:v 27=qCe a n c:=by rw [e27,e0,e4,e2];rfl
   have f32:v 32=qCe a n d:=by rw [e32,e0,e4,e3];rfl
   have f39:v 39=qCe b n c:=by rw [e39,e1,e4,e2];rfl
   have f46:v 46=qCe b n d:=by rw [e46,e1,e4,e3];rfl
   have L:v 50=qoL a b c d n:=by
    rw [Gv e50,Gv e43,Gv e36,f26,f31,f38,f45];rfl
   have H:v 51=qoH a b c d n:=by
    rw [Gg e51,Gg e44,Gg e37,f27,f32,f39,f46];rfl
   have B1:v 99=b2i (dz (qoL a b c d n)):=by rw [<-L];exact Jw e97 e98 e99
   have B2:v 103=b2i (dz (qoH a b c d n)):=by rw [<-H];exact Jw e101 e102 e103
   refine ⟨bB ?_,?_⟩
   . exact ag (fun _=>trivial) (ag (fun _=>trivial) (ag (fun _=>P1) (ag (fun _=>P2) (ag (fun _=>P3) (ag (fun _=>P4) (bu))))))
   . intro x hx0;have hx':=bM (v:=v) (by rfl) hx0
     rw [hx'];show Value.tuple #[.int .i64 (v 126),.int .i64 (v 127),.int .i64 (v 128)]=_;cases h1:dz (qoL a b c d n)
     . have b1:v 99=0:=by rw [B1,h1];rfl
       have z126:v 126=0:=ax (X:=eG [a,b,c,d,n]) (v:=v) (l:=gm) (aX _) hs (k:=126) (r:=.c 0) (ps:=[(5,.c 1),(6,.c 1),(9,.c 1),(10,.c 1),(13,.c 0),(28,.c 0),(33,.c 0),(40,.c 0),(47,.c 0),(99,.c 0)]) (nz:=[]) (ae A5 (ae A6 (ae A9 (ae A10 (ae A13 (ae E28 (ae E33 (ae E40 (ae E47 (ae b1 av)))))))))) aA (by kernel_rfl)
       have z127:v 127=0:=ax (X:=eG [a,b,c,d,n]) (v:=v) (l:=gm) (aX _) hs (k:=127) (r:=.c 0) (ps:=[(5,.c 1),(6,.c 1),(9,.c 1),(10,.c 1),(13,.c 0),(28,.c 0),(33,.c 0),(40,.c 0),(47,.c 0),(99,.c 0)]) (nz:=[]) (ae A5 (ae A6 (ae A9 (ae A10 (ae A13 (ae E28 (ae E33 (ae E40 (ae E47 (ae b1 av)))))))))) aA (by kernel_rfl)
       have z128:v 128=5:=ax (X:=eG [a,b,c,d,n]) (v:=v) (l:=gm) (aX _) hs (k:=128) (r:=.c 5) (ps:=[(5,.c 1),(6,.c 1),(9,.c 1),(10,.c 1),(13,.c 0),(28,.c 0),(33,.c 0),(40,.c 0),(47,.c 0),(99,.c 0)]) (nz:=[]) (ae A5 (ae A6 (ae A9 (ae A10 (ae A13 (ae E28 (ae E33 (ae E40 (ae E47 (ae b1 av)))))))))) aA (by kernel_rfl)
       have V:qoV a b c d n=[0,0,5]:=by
        unfold qoV;rw [if_neg hz,if_neg (fun q=>by rw [h1] at q;exact absurd q.1 (by decide))]
       rw [z126,z127,z128,V];rfl
     . cases h2:dz (qoH a b c d n)
       . have b1:v 99=1:=by rw [B1,h1];rfl
         have b2:v 103=0:=by rw [B2,h2];rfl
         have z126:v 126=0:=ax (X:=eG [a,b,c,d,n]) (v:=v) (l:=gm) (aX _) hs (k:=126) (r:=.c 0) (ps:=[(5,.c 1),(6,.c 1),(9,.c 1),(10,.c 1),(13,.c 0),(28,.c 0),(33,.c 0),(40,.c 0),(47,.c 0),(99,.c 1),(103,.c 0)]) (nz:=[]) (ae A5 (ae A6 (ae A9 (ae A10 (ae A13 (ae E28 (ae E33 (ae E40 (ae E47 (ae b1 (ae b2 av))))))))))) aA (by kernel_rfl)
         have z127:v 127=0:=ax (X:=eG [a,b,c,d,n]) (v:=v) (l:=gm) (aX _) hs (k:=127) (r:=.c 0) (ps:=[(5,.c 1),(6,.c 1),(9,.c 1),(10,.c 1),(13,.c 0),(28,.c 0),(33,.c 0),(40,.c 0),(47,.c 0),(99,.c 1),(103,.c 0)]) (nz:=[]) (ae A5 (ae A6 (ae A9 (ae A10 (ae A13 (ae E28 (ae E33 (ae E40 (ae E47 (ae b1 (ae b2 av))))))))))) aA (by kernel_rfl)
         have z128:v 128=5:=ax (X:=eG [a,b,c,d,n]) (v:=v) (l:=gm) (aX _) hs (k:=128) (r:=.c 5) (ps:=[(5,.c 1),(6,.c 1),(9,.c 1),(10,.c 1),(13,.c 0),(28,.c 0),(33,.c 0),(40,.c 0),(47,.c 0),(99,.c 1),(103,.c 0)]) (nz:=[]) (ae A5 (ae A6 (ae A9 (ae A10 (ae A13 (ae E28 (ae E33 (ae E40 (ae E47 (ae b1 (ae b2 av))))))))))) aA (by kernel_rfl)
         have V:qoV a b c d n=[0,0,5]:=by
          unfold qoV;rw [if_neg hz,if_neg (fun q=>by rw [h2] at q;exact absurd q.2 (by decide))]
         rw [z126,z127,z128,V];rfl
       . have b1:v 99=1:=by rw [B1,h1];rfl
         have b2:v 103=1:=by rw [B2,h2];rfl
         have z126:v 126=v 50:=iP (X:=eG [a,b,c,d,n]) (v:=v) (l:=gm) (aX _) hs (k:=126) (j:=50) (ps:=[(5,.c 1),(6,.c 1),(9,.c 1),(10,.c 1),(13,.c 0),(28,.c 0),(33,.c 0),(40,.c 0),(47,.c 0),(99,.c 1),(103,.c 1)]) (ae A5 (ae A6 (ae A9 (ae A10 (ae A13 (ae E28 (ae E33 (ae E40 (ae E47 (ae b1 (ae b2 av))))))))))) (by kernel_rfl)
         have z127:v 127=v 51:=iP (X:=eG [a,b,c,d,n]) (v:=v) (l:=gm) (aX _) hs (k:=127) (j:=51) (ps:=[(5,.c 1),(6,.c 1),(9,.c 1),(10,.c 1),(13,.c 0),(28,.c 0),(33,.c 0),(40,.c 0),(47,.c 0),(99,.c 1),(103,.c 1)]) (ae A5 (ae A6 (ae A9 (ae A10 (ae A13 (ae E28 (ae E33 (ae E40 (ae E47 (ae b1 (ae b2 av))))))))))) (by kernel_rfl)
         have z128:v 128=0:=ax (X:=eG [a,b,c,d,n]) (v:=v) (l:=gm) (aX _) hs (k:=128) (r:=.c 0) (ps:=[(5,.c 1),(6,.c 1),(9,.c 1),(10,.c 1),(13,.c 0),(28,.c 0),(33,.c 0),(40,.c 0),(47,.c 0),(99,.c 1),(103,.c 1)]) (nz:=[]) (ae A5 (ae A6 (ae A9 (ae A10 (ae A13 (ae E28 (ae E33 (ae E40 (ae E47 (ae b1 (ae b2 av))))))))))) aA (by kernel_rfl)
         have V:qoV a b c d n=[qoL a b c d n,qoH a b c d n,0]:=by
          unfold qoV;rw [if_neg hz,if_pos ⟨h1,h2⟩]
         rw [z126,z127,z128,V,L,H];rfl
