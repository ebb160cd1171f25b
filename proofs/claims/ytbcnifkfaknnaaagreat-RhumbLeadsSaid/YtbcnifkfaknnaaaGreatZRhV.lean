/- Package rhumb's root. -/
import Derived.Test.YtbcnifkfaknnaaaGreatZKp
import Derived.Laws.BitsLemmas
import Derived.WalkArith
import Derived.Deep.Light
import Derived.StillTailTactics
import Derived.Deep.RegionHeld3
import Derived.Test.YtbcnifkfaknnaaaGreatZRhM
import Derived.Test.YtbcnifkfaknnaaaGreatZLkV
set_option linter.unusedVariables false
set_option linter.unusedSimpArgs false
set_option maxRecDepth 100000
set_option maxHeartbeats 4000000
namespace Alm
def rtB:Nat->Nat->Nat->Nat
 | 0,_,r=>r
 | k+1,n,r=>if r+2^k<=3000000000/\(r+2^k)*(r+2^k)<=n then rtB k n (r+2^k) else rtB k n r
theorem Om (k:Nat):∀ n r:Nat,r*r<=n->(n<(r+2^k)*(r+2^k)∨r+2^k>3000000000)->n<3000000000*3000000000->rtB k n r*rtB k n r<=n/\n<(rtB k n r+1)*(rtB k n r+1):=by
 induction k with
 | zero =>
  intro n r h1 h2 h3;simp only [rtB];refine ⟨h1,?_⟩;rcases h2 with h|h
  . exact h
  . have h':3000000000<=r+1:=by rw [Nat.pow_zero] at h;omega
    exact Nat.lt_of_lt_of_le h3 (Nat.mul_le_mul h' h')
 | succ k ih =>
  intro n r h1 h2 h3;simp only [rtB];have e:r+2^k+2^k=r+2^(k+1):=by rw [Nat.pow_succ];omega
  split
  . rename_i c
    exact ih n (r+2^k) c.2 (by rw [e];exact h2) h3
  . rename_i c
    refine ih n r h1 ?_ h3
    by_cases c1:r+2^k<=3000000000
    . left
      rcases Nat.lt_or_ge n ((r+2^k)*(r+2^k)) with g|g
      . exact g
      . exact absurd ⟨c1,g⟩ c
    . right;omega
end Alm
namespace Go.Proofs.YtbcnifkfaknnaaaGreat
open Go.RowKit Alm
theorem w62 (n:Int) (h0:0<=n) (h1:n<2^62):IntKind.i64.wrap n=n:=Go.IntWalk.i64_in _ (by omega)
theorem Lf (n:Nat) (hn:n<=9000000000000000000) (w:World):Calls Tryz.prog 20 #[.int .i64 (n:Int)] w fun e w'=>e=.returned (.tuple #[.int .i64 ((rtB 32 n 0:Nat):Int),.bool (decide (rtB 32 n 0*rtB 32 n 0=n))])/\Below w.heap.size w w':=by
 go_enter Tryz.func20,Tryz.ntmps20;go_wp2_with fail;go_loopw [4,5] (fun q4 q5 wr=>∃ k r:Nat,q4=.int .i64 (r:Int)/\q5=.int .i64 ((2^k/2:Nat):Int)/\k<=32/\r%2^k=0/\r<=3000000000/\rtB k n r=rtB 32 n 0/\Below w.heap.size w wr) (fun _ q5 _=>(intOf q5).toNat)
 case atStart=>exact ⟨32,0,rfl,rfl,by omega,by omega,by omega,rfl,Below.refl _ _⟩
 case round =>
  obtain ⟨k,r,rfl,rfl,hk,hm,hr,he,hb⟩:=hrel;have HB:=Lib.hid hb;have HE:=Lib.hid he;clear hb he;cases k with
  | zero =>
   have ez:((2^0/2:Nat):Int)=0:=rfl;rw [ez]
   have hrr:IntKind.i64.wrap ((r:Int)*(r:Int))=(r:Int)*(r:Int):=Go.IntWalk.i64_in _ (by
    have a:(r:Int)<=3000000000:=by omega
    have b:=Int.mul_le_mul a a (by omega) (by omega)
    have c:=Int.mul_nonneg (show (0:Int)<=(r:Int) by omega) (show (0:Int)<=(r:Int) by omega)
    omega)
   have er:r=rtB 32 n 0:=HE.out;go_wp2
   first|go_ret|go_ret2
   refine ⟨?_,HB.out⟩;rw [<-er]
   have hw:wrap64 ((r:Int)*(r:Int))=(r:Int)*(r:Int):=by
    have a:(r:Int)<=3000000000:=by omega
    have b:=Int.mul_le_mul a a (by omega) (by omega)
    have c:=Int.mul_nonneg (show (0:Int)<=(r:Int) by omega) (show (0:Int)<=(r:Int) by omega)
    unfold wrap64;generalize (r:Int)*(r:Int)=z at *
    omega
   have:((r:Int)*(r:Int)==(n:Int))=decide (r*r=n):=by
    rw [Bool.eq_iff_iff];simp
    constructor
    . intro h;exact_mod_cast h
    . intro h;exact_mod_cast h
   simp [hw,this]
  | succ k =>
   have ez:((2^(k+1)/2:Nat):Int)=((2^k:Nat):Int):=by rw [Nat.pow_succ,Nat.mul_div_cancel _ (by omega)]
   rw [ez];have k31:2^k<=2^31:=Nat.pow_le_pow_right (by omega) (by omega)
   have kp:0<2^k:=Nat.two_pow_pos _;have hgt:(0:Int)<((2^k:Nat):Int):=by omega
   have hor:bits .or .i64 (r:Int) ((2^k:Nat):Int)=((r+2^k:Nat):Int):=by
    rw [bits_join .i64 62 (by decide) w62 (k+1) (r:Int) ((2^k:Nat):Int) (by omega) (by
     have:(2:Int)^(k+1)=((2^(k+1):Nat):Int):=by norm_cast
     rw [this];omega) (by omega) (by omega) (by
     have:(2:Int)^(k+1)=((2^(k+1):Nat):Int):=by norm_cast
     rw [this,Nat.pow_succ];omega) (by omega)]
    omega
   have hsh:Op.shift .shr .i64 ((2^k:Nat):Int) .u64 1=pure (.int .i64 ((2^k/2:Nat):Int)):=by
    rw [shift_shr .i64 .u64 _ 1 (by omega) (by decide)]
    have:((2^k:Nat):Int)/2^(1:Int).toNat=((2^k/2:Nat):Int):=by
     rw [show (2:Int)^(1:Int).toNat=2 from rfl];omega
    rw [this]
   have step:=HE.out;rw [show rtB (k+1) n r=(if r+2^k<=3000000000/\(r+2^k)*(r+2^k)<=n then rtB k n (r+2^k) else rtB k n r) from rfl] at step
   have hm2:r%2^k=0:=by
    have d:2^k ∣ 2^(k+1):=Nat.pow_dvd_pow 2 (by omega)
    exact Nat.mod_eq_zero_of_dvd (Nat.dvd_trans d (Nat.dvd_of_mod_eq_zero hm))
   have hs2:(r+2^k)%2^k=0:=by rw [Nat.add_mod_right];exact hm2
   have ms:(intOf (.int .i64 ((2^k/2:Nat):Int))).toNat<(intOf (.int .i64 ((2^k:Nat):Int))).toNat:=by simp only [intOf];omega
   have R1:Hid (∀ x:Nat,x%2^k=0->x<=3000000000->rtB k n x=rtB 32 n 0->(∃ k' r':Nat,Value.int .i64 (x:Int)=.int .i64 (r':Int)/\Value.int .i64 ((2^k/2:Nat):Int)=.int .i64 ((2^k'/2:Nat):Int)/\k'<=32/\r'%2^k'=0/\r'<=3000000000/\rtB k' n r'=rtB 32 n 0/\Below w.heap.size w wr)/\(intOf (.int .i64 ((2^k/2:Nat):Int))).toNat<(intOf (.int .i64 ((2^k:Nat):Int))).toNat):=Lib.hid (fun x a b c=>⟨⟨k,x,rfl,rfl,by omega,a,b,c,HB.out⟩,ms⟩)
   clear HB ms ez hm;generalize hx:r+2^k=x at *
   generalize hB:2^k=B at *
   by_cases c1:x<=3000000000
   . have c1':(x:Int)<=3000000000:=by omega
     have hrr:IntKind.i64.wrap ((x:Int)*(x:Int))=(x:Int)*(x:Int):=Go.IntWalk.i64_in _ (by
      have b:=Int.mul_le_mul c1' c1' (by omega) (by omega)
      have c:=Int.mul_nonneg (show (0:Int)<=(x:Int) by omega) (show (0:Int)<=(x:Int) by omega)
      omega)
     by_cases c2:x*x<=n
     . have c2':(x:Int)*(x:Int)<=(n:Int):=by exact_mod_cast c2
       rw [if_pos ⟨c1,c2⟩] at step;have S:=Lib.hid step;clear step HE hx;go_wp2;go_light;exact R1.out x hs2 c1 S.out
     . have c2':¬ (x:Int)*(x:Int)<=(n:Int):=by intro h;exact c2 (by exact_mod_cast h)
       rw [if_neg (fun h=>c2 h.2)] at step
       have S:=Lib.hid step;clear step HE hx;go_wp2;go_light;exact R1.out r hm2 hr S.out
   . have c1':¬ (x:Int)<=3000000000:=by omega
     rw [if_neg (fun h=>c1 h.1)] at step
     have S:=Lib.hid step;clear step HE hx;go_wp2;go_light;exact R1.out r hm2 hr S.out
end Go.Proofs.YtbcnifkfaknnaaaGreat
namespace Go.Proofs.YtbcnifkfaknnaaaGreat
open Go.RowKit Alm Sx
def kIv (f:Nat):Bool:=f==100 || f==101
def sU:Nat->List Int->List Int
 | 100,[a,b]=>[(meV (min a b) (max a b)).getD 0 0,(meV (min a b) (max a b)).getD 1 0,0]
 | 101,[n]=>[((rtB 32 n.toNat 0:Nat):Int),b2i (decide (rtB 32 n.toNat 0*rtB 32 n.toNat 0=n.toNat))]
 | _,_=>[]
def Ij:Nat->List Int->Prop
 | 100,[a,b]=>(-5340000<=a/\a<=5340000)/\(-5340000<=b/\b<=5340000)
 | 101,[n]=>0<=n/\n<=9000000000000000000
 | _,_=>False
def Pv (args:List Int):Cx:=(Cn args).plus kIv sU Ij
def Ow:Sx.Spec:=⟨17,100,[(false,[some .i64]),(false,[some .i64])],[(true,[some .i64,some .i64]),(false,[some .i64])]⟩
def M6:Sx.Spec:=⟨20,101,[(false,[some .i64])],[(false,[some .i64]),(false,[none])]⟩
theorem Jm (args:List Int):bR Tryz.prog (Pv args) Ow:=by
 refine iq rfl (ours _ _ _ Tryz.func17 rfl (by kernel_rfl)) fun xs hp w=>?_
 match xs,hp with
 | [a,b],hp=>exact VQ a b w hp.1 hp.2
theorem IJ (args:List Int):bR Tryz.prog (Pv args) M6:=by
 refine iq rfl (ours _ _ _ Tryz.func20 rfl (by kernel_rfl)) fun xs hp w=>?_
 match xs,hp with
 | [n],hp =>
  obtain ⟨m,rfl⟩:=Int.eq_ofNat_of_zero_le hp.1;have c:=Lf m (by have:=hp.2;omega) w
  refine c.mono ?_;rintro e w' ⟨he,hb⟩;refine ⟨?_,hb⟩;rw [he];show Ending.returned (.tuple #[.int .i64 ((rtB 32 m 0:Nat):Int),.bool (decide (rtB 32 m 0*rtB 32 m 0=m))])=Ending.returned (.tuple #[.int .i64 ((rtB 32 m 0:Nat):Int),Value.bool (decide (b2i (decide (rtB 32 m 0*rtB 32 m 0=m))≠0))]);rw [iZ]
def Y7:List Sx.Spec:=Ej++[Ow,M6]
theorem KZ:∀ s∈Ej,kIv s.id=false:=by
 intro s hs;simp only [Ej,List.mem_cons,List.not_mem_nil,or_false] at hs;rcases hs with rfl|rfl|rfl|rfl<;>rfl
theorem Qi (args:List Int):∀ s∈Y7,bR Tryz.prog (Pv args) s:=by
 intro s hs;rcases List.mem_append.1 hs with h|h
 . exact dR (KZ s h) (Ag args s h)
 . simp only [List.mem_cons,List.not_mem_nil,or_false] at h;rcases h with rfl|rfl
   . exact Jm args
   . exact IJ args
theorem Mi (a b:Int) (h0:-5340000<=a) (h:a<=b) (hb:b<=5340000):0<=(meV a b).getD 0 0/\(meV a b).getD 0 0<=(meV a b).getD 1 0/\(meV a b).getD 1 0<=1073741824:=by
 have q:=mZ a b;have qp:=Lg a b h0 h hb;unfold meV;split
 . rename_i y
   have f:=oq a b h0 hb y;show 0<=max (cqL a b) (fK a b)/\max (cqL a b) (fK a b)<=min (cqH a b) (min (fF a b) 1073741824)/\min (cqH a b) (min (fF a b) 1073741824)<=1073741824;omega
 . exact ⟨qp,q.2.1,q.2.2⟩
theorem RX (x n:Int) (x0:0<=x) (x1:x<=1073741824) (hn:-10800000<=n/\n<=10800000):-10800000<=qFl x n 1073741824/\qFl x n 1073741824<=qCe x n 1073741824/\qCe x n 1073741824<=10800000:=by
 have a:=Int.mul_le_mul_of_nonneg_left hn.2 x0;have b:=Int.mul_le_mul_of_nonneg_left hn.1 x0;unfold qFl qCe;generalize x*n=z at *
 omega
theorem R8 (l h n:Int) (l0:0<=l) (lh:l<=h) (h1:h<=1073741824) (hn:-10800000<=n/\n<=10800000):-10800000<=gH l h n/\gH l h n<=gU l h n/\gU l h n<=10800000:=by
 have a:=RX l n l0 (by omega) hn
 have b:=RX h n (by omega) h1 hn
 unfold gH gU;omega
def ivD (a1 b1:Int):Int:=sgt (b1-a1)
def ivL (a0 a1 b0 b1:Int):Int:=gH ((meV (min a0 b0) (max a0 b0)).getD 0 0) ((meV (min a0 b0) (max a0 b0)).getD 1 0) (ivD a1 b1)
def ivH (a0 a1 b0 b1:Int):Int:=gU ((meV (min a0 b0) (max a0 b0)).getD 0 0) ((meV (min a0 b0) (max a0 b0)).getD 1 0) (ivD a1 b1)
def aX (l h:Int):Int:=if l>0∨h<0 then min (max l (-l)) (max h (-h)) else 0
def aV (l h:Int):Int:=max (max (max l (-l)) h) (-h)
def rtF (n:Int):Int:=((rtB 32 n.toNat 0:Nat):Int)
def rtC (n:Int):Int:=if rtB 32 n.toNat 0*rtB 32 n.toNat 0=n.toNat then ((rtB 32 n.toNat 0:Nat):Int) else ((rtB 32 n.toNat 0:Nat):Int)+1
theorem Kh (n:Nat) (h:n<=9000000000000000):rtB 32 n 0*rtB 32 n 0<=n/\n<(rtB 32 n 0+1)*(rtB 32 n 0+1)/\rtB 32 n 0<=100000000:=by
 have s:=Om 32 n 0 (by omega) (.inr (by decide)) (by omega)
 refine ⟨s.1,s.2,?_⟩;rcases Nat.lt_or_ge 100000000 (rtB 32 n 0) with g|g
 . have:=Nat.mul_le_mul (show 100000001<=rtB 32 n 0 from g) (show 100000001<=rtB 32 n 0 from g)
   omega
 . exact g
theorem Ea (x:Int):-10800000<=sgt x/\sgt x<=10800000:=by unfold sgt;split<;>omega
theorem Ae (a0 a1 b0 b1:Int) (h0:-5340000<=a0/\a0<=5340000) (h2:-5340000<=b0/\b0<=5340000):-10800000<=ivL a0 a1 b0 b1/\ivL a0 a1 b0 b1<=ivH a0 a1 b0 b1/\ivH a0 a1 b0 b1<=10800000:=by
 have m:=Mi (min a0 b0) (max a0 b0) (by omega) (by omega) (by omega)
 exact R8 _ _ _ m.1 m.2.1 m.2.2 (Ea _)
def GL:List Nd:=[
 .arg 0,
 .arg 1,
 .arg 2,
 .arg 3,
 .bin .geq .i64 (.n 0) (.c (-5400000)),
 .bin .leq .i64 (.n 0) (.c 5400000),
 .ite (.n 4) (.n 5) (.c 0),
 .bin .geq .i64 (.n 1) (.c (-10800000)),
 .ite (.n 6) (.n 7) (.c 0),
 .bin .lss .i64 (.n 1) (.c 10800000),
 .ite (.n 8) (.n 9) (.c 0),
 .ite (.n 10) (.c 0) (.c 1),
 .bin .geq .i64 (.n 2) (.c (-5400000)),
 .bin .leq .i64 (.n 2) (.c 5400000),
 .ite (.n 12) (.n 13) (.c 0),
 .bin .geq .i64 (.n 3) (.c (-10800000)),
 .ite (.n 14) (.n 15) (.c 0),
 .bin .lss .i64 (.n 3) (.c 10800000),
 .ite (.n 16) (.n 17) (.c 0),
 .ite (.n 18) (.c 0) (.c 1),
 .ite (.n 11) (.c 1) (.n 19),
 .ite (.n 20) (.c 0) (.c 1),
 .bin .geq .i64 (.n 0) (.c (-5340000)),
 .bin .leq .i64 (.n 0) (.c 5340000),
 .ite (.n 22) (.n 23) (.c 0),
 .ite (.n 24) (.c 0) (.c 1),
 .bin .geq .i64 (.n 2) (.c (-5340000)),
 .bin .leq .i64 (.n 2) (.c 5340000),
 .ite (.n 26) (.n 27) (.c 0),
 .ite (.n 28) (.c 0) (.c 1),
 .ite (.n 25) (.c 1) (.n 29),
 .ite (.n 30) (.c 0) (.c 1),
 .bin .sub .i64 (.n 3) (.n 1),
 .bin .rem .i64 (.n 32) (.c 21600000),
 .bin .lss .i64 (.n 33) (.c 0),
 .bin .add .i64 (.n 33) (.c 21600000),
 .ite (.n 34) (.c 0) (.c 1),
 .ite (.n 34) (.n 35) (.n 33),
 .bin .geq .i64 (.n 37) (.c 10800000),
 .bin .sub .i64 (.n 37) (.c 21600000),
 .ite (.n 38) (.c 0) (.c 1),
 .ite (.n 38) (.n 39) (.n 37),
 .bin .sub .i64 (.n 2) (.n 0),
 .app 100 0 [.n 0,.n 2],
 .app 100 1 [.n 0,.n 2],
 .app 100 2 [.n 0,.n 2],
 .bin .neq .i64 (.n 45) (.c 0),
 .ite (.n 46) (.c 0) (.c 1),
 .app 9 0 [.n 43,.n 44,.n 41],
 .app 9 1 [.n 43,.n 44,.n 41],
 .app 9 2 [.n 43,.n 44,.n 41],
 .bin .neq .i64 (.n 50) (.c 0),
 .ite (.n 51) (.c 0) (.c 1),
 .bin .mul .i64 (.c 64) (.n 48),
 .bin .mul .i64 (.c 64) (.n 49),
 .bin .mul .i64 (.c 64) (.n 42),
 .app 7 0 [.n 53,.n 54,.n 55,.n 55],
 .app 7 1 [.n 53,.n 54,.n 55,.n 55],
 .app 7 2 [.n 53,.n 54,.n 55,.n 55],
 .bin .neq .i64 (.n 58) (.c 0),
 .ite (.n 59) (.c 0) (.c 1),
 .bin .sub .i64 (.c 0) (.n 48),
 .bin .sub .i64 (.c 0) (.n 49),
 .mx (.n 48) (.n 61),
 .mx (.n 63) (.n 49),
 .mx (.n 64) (.n 62),
 .bin .gtr .i64 (.n 48) (.c 0),
 .bin .lss .i64 (.n 49) (.c 0),
 .ite (.n 66) (.c 1) (.n 67),
 .mx (.n 49) (.n 62),
 .mn (.n 63) (.n 69),
 .ite (.n 68) (.c 0) (.c 1),
 .ite (.n 68) (.n 70) (.c 0),
 .bin .mul .i64 (.n 42) (.n 42),
 .bin .mul .i64 (.n 72) (.n 72),
 .bin .add .i64 (.n 73) (.n 74),
 .app 101 0 [.n 75],
 .app 101 1 [.n 75],
 .bin .mul .i64 (.n 65) (.n 65),
 .bin .add .i64 (.n 73) (.n 78),
 .app 101 0 [.n 79],
 .app 101 1 [.n 79],
 .ite (.n 81) (.c 0) (.c 1),
 .bin .add .i64 (.n 80) (.c 1),
 .ite (.n 82) (.c 0) (.c 1),
 .ite (.n 82) (.n 83) (.n 80),
 .ite (.n 59) (.n 58) (.c 0),
 .ite (.n 59) (.c 0) (.n 56),
 .ite (.n 59) (.c 0) (.n 57),
 .ite (.n 59) (.c 0) (.n 76),
 .ite (.n 59) (.c 0) (.n 85),
 .ite (.n 51) (.n 50) (.n 86),
 .ite (.n 51) (.n 50) (.n 58),
 .ite (.n 51) (.c 0) (.n 87),
 .ite (.n 51) (.c 0) (.n 88),
 .ite (.n 51) (.c 0) (.n 89),
 .ite (.n 51) (.c 0) (.n 90),
 .ite (.n 46) (.n 45) (.n 91),
 .ite (.n 46) (.n 45) (.n 92),
 .ite (.n 46) (.c 0) (.n 93),
 .ite (.n 46) (.c 0) (.n 94),
 .ite (.n 46) (.c 0) (.n 95),
 .ite (.n 46) (.c 0) (.n 96),
 .ite (.n 30) (.c 2) (.n 97),
 .ite (.n 30) (.c 0) (.n 99),
 .ite (.n 30) (.c 0) (.n 100),
 .ite (.n 30) (.c 0) (.n 101),
 .ite (.n 30) (.c 0) (.n 102),
 .ite (.n 20) (.c 1) (.n 103),
 .ite (.n 20) (.c 0) (.n 104),
 .ite (.n 20) (.c 0) (.n 105),
 .ite (.n 20) (.c 0) (.n 106),
 .ite (.n 20) (.c 0) (.n 107)]
def OU:List Vc:=[
 ⟨[(.n 31,true),(.n 21,true)],.pre 100 [.n 0,.n 2]⟩,
 ⟨[(.n 47,true),(.n 31,true),(.n 21,true)],.pre 9 [.n 43,.n 44,.n 41]⟩,
 ⟨[(.n 52,true),(.n 47,true),(.n 31,true),(.n 21,true)],.pre 7 [.n 53,.n 54,.n 55,.n 55]⟩,
 ⟨[(.n 60,true),(.n 52,true),(.n 47,true),(.n 31,true),(.n 21,true)],.pre 101 [.n 75]⟩,
 ⟨[(.n 60,true),(.n 52,true),(.n 47,true),(.n 31,true),(.n 21,true)],.pre 101 [.n 79]⟩]
theorem Q5:whole Tryz.prog Y7 20 40 6 [(true,[some .i64,some .i64]),(true,[some .i64,some .i64])]=some (.tup [.agg [.int .i64 (.n 109),.int .i64 (.n 110),.int .i64 (.n 111),.int .i64 (.n 112)],.c (.int .i64 (.n 108))],⟨GL.reverse,OU.reverse⟩):=by kernel_rfl
theorem OD:wfN GL.reverse=true:=by kernel_rfl
theorem YB (a0 a1 b0 b1:Int) (w:World) (h0:-5340000<=a0/\a0<=5340000) (h1:-10800000<=a1/\a1<10800000) (h2:-5340000<=b0/\b0<=5340000) (h3:-10800000<=b1/\b1<10800000):Calls Tryz.prog 6 #[.agg #[.int .i64 a0,.int .i64 a1],.agg #[.int .i64 b0,.int .i64 b1]] w fun e w'=>e=.returned (.tuple #[.agg #[.int .i64 (aT (64*ivL a0 a1 b0 b1) (64*ivH a0 a1 b0 b1) (64*(b0-a0)) (64*(b0-a0))),.int .i64 (bi (64*ivL a0 a1 b0 b1) (64*ivH a0 a1 b0 b1) (64*(b0-a0)) (64*(b0-a0))),.int .i64 (rtF ((b0-a0)*(b0-a0)+aX (ivL a0 a1 b0 b1) (ivH a0 a1 b0 b1)*aX (ivL a0 a1 b0 b1) (ivH a0 a1 b0 b1))),.int .i64 (rtC ((b0-a0)*(b0-a0)+aV (ivL a0 a1 b0 b1) (ivH a0 a1 b0 b1)*aV (ivL a0 a1 b0 b1) (ivH a0 a1 b0 b1)))],.int .i64 0])/\Below w.heap.size w w':=by
 refine Sx.calls (X:=Pv [a0,a1,b0,b1]) jc (Qi _) Q5 OD (fun v hs=>?_) w
 have e0:v 0=a0:=ag hs 0 rfl;have e1:v 1=a1:=ag hs 1 rfl;have e2:v 2=b0:=ag hs 2 rfl;have e3:v 3=b1:=ag hs 3 rfl;have e4:v 4=b2i (decide (v 0>=(-5400000:Int))):=ag hs 4 rfl;have e5:v 5=b2i (decide (v 0<=(5400000:Int))):=ag hs 5 rfl;have e6:v 6=if v 4≠0 then v 5 else (0:Int):=ag hs 6 rfl
 have e7:v 7=b2i (decide (v 1>=(-10800000:Int))):=ag hs 7 rfl;have e8:v 8=if v 6≠0 then v 7 else (0:Int):=ag hs 8 rfl
 have e9:v 9=b2i (decide (v 1<(10800000:Int))):=ag hs 9 rfl;have e10:v 10=if v 8≠0 then v 9 else (0:Int):=ag hs 10 rfl
 have e11:v 11=if v 10≠0 then (0:Int) else (1:Int):=ag hs 11 rfl
 have e12:v 12=b2i (decide (v 2>=(-5400000:Int))):=ag hs 12 rfl;have e13:v 13=b2i (decide (v 2<=(5400000:Int))):=ag hs 13 rfl;have e14:v 14=if v 12≠0 then v 13 else (0:Int):=ag hs 14 rfl
 have e15:v 15=b2i (decide (v 3>=(-10800000:Int))):=ag hs 15 rfl;have e16:v 16=if v 14≠0 then v 15 else (0:Int):=ag hs 16 rfl
 have e17:v 17=b2i (decide (v 3<(10800000:Int))):=ag hs 17 rfl;have e18:v 18=if v 16≠0 then v 17 else (0:Int):=ag hs 18 rfl
 have e19:v 19=if v 18≠0 then (0:Int) else (1:Int):=ag hs 19 rfl
 have e20:v 20=if v 11≠0 then (1:Int) else v 19:=ag hs 20 rfl
 have e21:v 21=if v 20≠0 then (0:Int) else (1:Int):=ag hs 21 rfl
 have e22:v 22=b2i (decide (v 0>=(-5340000:Int))):=ag hs 22 rfl;have e23:v 23=b2i (decide (v 0<=(5340000:Int))):=ag hs 23 rfl;have e24:v 24=if v 22≠0 then v 23 else (0:Int):=ag hs 24 rfl
 have e25:v 25=if v 24≠0 then (0:Int) else (1:Int):=ag hs 25 rfl
 have e26:v 26=b2i (decide (v 2>=(-5340000:Int))):=ag hs 26 rfl;have e27:v 27=b2i (decide (v 2<=(5340000:Int))):=ag hs 27 rfl;have e28:v 28=if v 26≠0 then v 27 else (0:Int):=ag hs 28 rfl
 have e29:v 29=if v 28≠0 then (0:Int) else (1:Int):=ag hs 29 rfl
 have e30:v 30=if v 25≠0 then (1:Int) else v 29:=ag hs 30 rfl
 have e31:v 31=if v 30≠0 then (0:Int) else (1:Int):=ag hs 31 rfl
 have e32:v 32=IntKind.i64.wrap (v 3-v 1):=ag hs 32 rfl;have e33:v 33=Int.tmod (v 32) ((21600000:Int)):=ag hs 33 rfl;have e34:v 34=b2i (decide (v 33<(0:Int))):=ag hs 34 rfl;have e35:v 35=IntKind.i64.wrap (v 33+(21600000:Int)):=ag hs 35 rfl;have e36:v 36=if v 34≠0 then (0:Int) else (1:Int):=ag hs 36 rfl
 have e37:v 37=if v 34≠0 then v 35 else v 33:=ag hs 37 rfl
 have e38:v 38=b2i (decide (v 37>=(10800000:Int))):=ag hs 38 rfl;have e39:v 39=IntKind.i64.wrap (v 37-(21600000:Int)):=ag hs 39 rfl;have e40:v 40=if v 38≠0 then (0:Int) else (1:Int):=ag hs 40 rfl
 have e41:v 41=if v 38≠0 then v 39 else v 37:=ag hs 41 rfl
 have e42:v 42=IntKind.i64.wrap (v 2-v 0):=ag hs 42 rfl;have e43:v 43=(sU 100 [v 0,v 2]).getD 0 0:=ag hs 43 rfl;have e44:v 44=(sU 100 [v 0,v 2]).getD 1 0:=ag hs 44 rfl;have e45:v 45=(sU 100 [v 0,v 2]).getD 2 0:=ag hs 45 rfl;have e46:v 46=b2i (v 45 != (0:Int)):=ag hs 46 rfl;have e47:v 47=if v 46≠0 then (0:Int) else (1:Int):=ag hs 47 rfl
 have e48:v 48=(fA 9 [v 43,v 44,v 41]).getD 0 0:=ag hs 48 rfl;have e49:v 49=(fA 9 [v 43,v 44,v 41]).getD 1 0:=ag hs 49 rfl;have e50:v 50=(fA 9 [v 43,v 44,v 41]).getD 2 0:=ag hs 50 rfl;have e51:v 51=b2i (v 50 != (0:Int)):=ag hs 51 rfl;have e52:v 52=if v 51≠0 then (0:Int) else (1:Int):=ag hs 52 rfl
 have e53:v 53=IntKind.i64.wrap ((64:Int)*v 48):=ag hs 53 rfl;have e54:v 54=IntKind.i64.wrap ((64:Int)*v 49):=ag hs 54 rfl;have e55:v 55=IntKind.i64.wrap ((64:Int)*v 42):=ag hs 55 rfl;have e56:v 56=(fA 7 [v 53,v 54,v 55,v 55]).getD 0 0:=ag hs 56 rfl;have e57:v 57=(fA 7 [v 53,v 54,v 55,v 55]).getD 1 0:=ag hs 57 rfl;have e58:v 58=(fA 7 [v 53,v 54,v 55,v 55]).getD 2 0:=ag hs 58 rfl;have e59:v 59=b2i (v 58 != (0:Int)):=ag hs 59 rfl;have e60:v 60=if v 59≠0 then (0:Int) else (1:Int):=ag hs 60 rfl
 have e61:v 61=IntKind.i64.wrap ((0:Int)-v 48):=ag hs 61 rfl;have e62:v 62=IntKind.i64.wrap ((0:Int)-v 49):=ag hs 62 rfl;have e63:v 63=if v 61>v 48 then v 61 else v 48:=ag hs 63 rfl
 have e64:v 64=if v 49>v 63 then v 49 else v 63:=ag hs 64 rfl
 have e65:v 65=if v 62>v 64 then v 62 else v 64:=ag hs 65 rfl
 have e66:v 66=b2i (decide (v 48>(0:Int))):=ag hs 66 rfl;have e67:v 67=b2i (decide (v 49<(0:Int))):=ag hs 67 rfl;have e68:v 68=if v 66≠0 then (1:Int) else v 67:=ag hs 68 rfl
 have e69:v 69=if v 62>v 49 then v 62 else v 49:=ag hs 69 rfl
 have e70:v 70=if v 69<v 63 then v 69 else v 63:=ag hs 70 rfl
 have e71:v 71=if v 68≠0 then (0:Int) else (1:Int):=ag hs 71 rfl
 have e72:v 72=if v 68≠0 then v 70 else (0:Int):=ag hs 72 rfl
 have e73:v 73=IntKind.i64.wrap (v 42*v 42):=ag hs 73 rfl;have e74:v 74=IntKind.i64.wrap (v 72*v 72):=ag hs 74 rfl;have e75:v 75=IntKind.i64.wrap (v 73+v 74):=ag hs 75 rfl;have e76:v 76=(sU 101 [v 75]).getD 0 0:=ag hs 76 rfl;have e77:v 77=(sU 101 [v 75]).getD 1 0:=ag hs 77 rfl;have e78:v 78=IntKind.i64.wrap (v 65*v 65):=ag hs 78 rfl;have e79:v 79=IntKind.i64.wrap (v 73+v 78):=ag hs 79 rfl;have e80:v 80=(sU 101 [v 79]).getD 0 0:=ag hs 80 rfl;have e81:v 81=(sU 101 [v 79]).getD 1 0:=ag hs 81 rfl;have e82:v 82=if v 81≠0 then (0:Int) else (1:Int):=ag hs 82 rfl
 have e83:v 83=IntKind.i64.wrap (v 80+(1:Int)):=ag hs 83 rfl;have e84:v 84=if v 82≠0 then (0:Int) else (1:Int):=ag hs 84 rfl
 have e85:v 85=if v 82≠0 then v 83 else v 80:=ag hs 85 rfl
 have e86:v 86=if v 59≠0 then v 58 else (0:Int):=ag hs 86 rfl
 have e87:v 87=if v 59≠0 then (0:Int) else v 56:=ag hs 87 rfl
 have e88:v 88=if v 59≠0 then (0:Int) else v 57:=ag hs 88 rfl
 have e89:v 89=if v 59≠0 then (0:Int) else v 76:=ag hs 89 rfl
 have e90:v 90=if v 59≠0 then (0:Int) else v 85:=ag hs 90 rfl
 have e91:v 91=if v 51≠0 then v 50 else v 86:=ag hs 91 rfl
 have e92:v 92=if v 51≠0 then v 50 else v 58:=ag hs 92 rfl
 have e93:v 93=if v 51≠0 then (0:Int) else v 87:=ag hs 93 rfl
 have e94:v 94=if v 51≠0 then (0:Int) else v 88:=ag hs 94 rfl
 have e95:v 95=if v 51≠0 then (0:Int) else v 89:=ag hs 95 rfl
 have e96:v 96=if v 51≠0 then (0:Int) else v 90:=ag hs 96 rfl
 have e97:v 97=if v 46≠0 then v 45 else v 91:=ag hs 97 rfl
 have e98:v 98=if v 46≠0 then v 45 else v 92:=ag hs 98 rfl
 have e99:v 99=if v 46≠0 then (0:Int) else v 93:=ag hs 99 rfl
 have Nh:v 100=if v 46≠0 then (0:Int) else v 94:=ag hs 100 rfl
 have e101:v 101=if v 46≠0 then (0:Int) else v 95:=ag hs 101 rfl
 have e102:v 102=if v 46≠0 then (0:Int) else v 96:=ag hs 102 rfl
 have e103:v 103=if v 30≠0 then (2:Int) else v 97:=ag hs 103 rfl
 have e104:v 104=if v 30≠0 then (0:Int) else v 99:=ag hs 104 rfl
 have e105:v 105=if v 30≠0 then (0:Int) else v 100:=ag hs 105 rfl
 have e106:v 106=if v 30≠0 then (0:Int) else v 101:=ag hs 106 rfl
 have e107:v 107=if v 30≠0 then (0:Int) else v 102:=ag hs 107 rfl
 have e108:v 108=if v 20≠0 then (1:Int) else v 103:=ag hs 108 rfl
 have e109:v 109=if v 20≠0 then (0:Int) else v 104:=ag hs 109 rfl
 have e110:v 110=if v 20≠0 then (0:Int) else v 105:=ag hs 110 rfl
 have e111:v 111=if v 20≠0 then (0:Int) else v 106:=ag hs 111 rfl
 have e112:v 112=if v 20≠0 then (0:Int) else v 107:=ag hs 112 rfl
 have B:=Ae a0 a1 b0 b1 h0 h2;have a10:v 10=1:=by rw [e10,e8,e6,e4,e5,e7,e9,e0,e1,decide_eq_true (by omega),decide_eq_true (by omega),decide_eq_true (by omega),decide_eq_true (by omega)];rfl
 have a18:v 18=1:=by rw [e18,e16,e14,e12,e13,e15,e17,e2,e3,decide_eq_true (by omega),decide_eq_true (by omega),decide_eq_true (by omega),decide_eq_true (by omega)];rfl
 have a20:v 20=0:=by rw [e20,e11,a10,e19,a18];rfl
 have a24:v 24=1:=by rw [e24,e22,e23,e0,decide_eq_true (by omega),decide_eq_true (by omega)];rfl
 have a28:v 28=1:=by rw [e28,e26,e27,e2,decide_eq_true (by omega),decide_eq_true (by omega)];rfl
 have a30:v 30=0:=by rw [e30,e25,a24,e29,a28];rfl
 have a32:v 32=b1-a1:=by rw [e32,e3,e1,Go.IntWalk.i64_in _ (by omega)]
 have a37:v 37=v 32%21600000:=wM (x:=v 32) (by omega) e33 e34 e35 e37
 have a41:v 41=ivD a1 b1:=by
  have k:=(Ce (x:=v 32) a37 e38 e39 e41).1;rw [k,a32];rfl
 have a42:v 42=b0-a0:=by rw [e42,e2,e0,Go.IntWalk.i64_in _ (by omega)]
 have P100:Ij 100 [v 0,v 2]:=by show (-5340000<=v 0/\v 0<=5340000)/\(-5340000<=v 2/\v 2<=5340000);omega
 have a43:v 43=(meV (min a0 b0) (max a0 b0)).getD 0 0:=by rw [<-e0,<-e2];exact e43
 have a44:v 44=(meV (min a0 b0) (max a0 b0)).getD 1 0:=by rw [<-e0,<-e2];exact e44
 have a45:v 45=0:=e45;have a46:v 46=0:=by rw [e46,a45];rfl
 have M:=Mi (min a0 b0) (max a0 b0) (by omega) (by omega) (by omega)
 have D:=Ea (b1-a1)
 have P9:fxV (v 43) (v 44)=true/\cK (v 41)=true:=by
  rw [a43,a44,a41];refine ⟨(kG _ _).2 (by omega),?_⟩
  unfold cK ivD;simp only [Bool.and_eq_true,decide_eq_true_eq];omega
 have a48:v 48=ivL a0 a1 b0 b1:=by
  have k:v 48=gH (v 43) (v 44) (v 41):=e48;rw [k,a43,a44,a41];rfl
 have a49:v 49=ivH a0 a1 b0 b1:=by
  have k:v 49=gU (v 43) (v 44) (v 41):=e49;rw [k,a43,a44,a41];rfl
 have a50:v 50=0:=e50;have a51:v 51=0:=by rw [e51,a50];rfl
 generalize hl:ivL a0 a1 b0 b1=l at *
 generalize hh:ivH a0 a1 b0 b1=u at *
 have a53:v 53=64*l:=by rw [e53,a48,Go.IntWalk.i64_in _ (by omega)]
 have a54:v 54=64*u:=by rw [e54,a49,Go.IntWalk.i64_in _ (by omega)]
 have a55:v 55=64*(b0-a0):=by rw [e55,a42,Go.IntWalk.i64_in _ (by omega)]
 have P7:fxV (v 53) (v 54)=true/\fxV (v 55) (v 55)=true:=by
  rw [a53,a54,a55];exact ⟨(kG _ _).2 (by omega),(kG _ _).2 (by omega)⟩
 have a56:v 56=aT (64*l) (64*u) (64*(b0-a0)) (64*(b0-a0)):=by rw [<-a53,<-a54,<-a55];exact e56
 have a57:v 57=bi (64*l) (64*u) (64*(b0-a0)) (64*(b0-a0)):=by rw [<-a53,<-a54,<-a55];exact e57
 have a58:v 58=0:=e58;have a59:v 59=0:=by rw [e59,a58];rfl
 have a61:v 61=-l:=by rw [e61,a48,Go.IntWalk.i64_in _ (by omega)];omega
 have a62:v 62=-u:=by rw [e62,a49,Go.IntWalk.i64_in _ (by omega)];omega
 have a63:v 63=max l (-l):=by rw [<-a61,<-a48];exact jO e63
 have a64:v 64=max (max l (-l)) u:=by rw [<-a63,<-a49];exact jO e64
 have a65:v 65=aV l u:=by unfold aV;rw [<-a64,<-a62];exact jO e65
 have a69:v 69=max u (-u):=by rw [<-a62,<-a49];exact jO e69
 have a70:v 70=min (max l (-l)) (max u (-u)):=by rw [<-a63,<-a69];exact BL e70
 have a72:v 72=aX l u:=by
  rw [e72,a70,e68,e66,e67,a48,a49];unfold aX
  by_cases q1:l>0
  . simp [q1,b2i]
  . by_cases q2:u<0<;>simp [q1,q2,b2i]
 have L0:0<=aX l u/\aX l u<=10800000:=by unfold aX;split<;>omega
 have M0:0<=aV l u/\aV l u<=10800000:=by unfold aV;omega
 have sq:∀ x:Int,-10800000<=x->x<=10800000->0<=x*x/\x*x<=116640000000000:=by
  intro x x0 x1;have k:=Int.mul_le_mul (show max x (-x)<=10800000 by omega) (show max x (-x)<=10800000 by omega) (by omega) (by omega)
  have e:max x (-x)*max x (-x)=x*x:=by
   rcases Int.le_total 0 x with g|g
   . rw [show max x (-x)=x by omega]
   . rw [show max x (-x)=-x by omega,Int.neg_mul_neg]
  have n:0<=max x (-x)*max x (-x):=Int.mul_nonneg (by omega) (by omega)
  omega
 have S1:=sq (b0-a0) (by omega) (by omega)
 have S2:=sq (aX l u) (by omega) (by omega)
 have S3:=sq (aV l u) (by omega) (by omega)
 have a73:v 73=(b0-a0)*(b0-a0):=by rw [e73,a42,Go.IntWalk.i64_in _ (by omega)]
 have a74:v 74=aX l u*aX l u:=by rw [e74,a72,Go.IntWalk.i64_in _ (by omega)]
 have a75:v 75=(b0-a0)*(b0-a0)+aX l u*aX l u:=by rw [e75,a73,a74,Go.IntWalk.i64_in _ (by omega)]
 have a78:v 78=aV l u*aV l u:=by rw [e78,a65,Go.IntWalk.i64_in _ (by omega)]
 have a79:v 79=(b0-a0)*(b0-a0)+aV l u*aV l u:=by rw [e79,a73,a78,Go.IntWalk.i64_in _ (by omega)]
 have P101a:Ij 101 [v 75]:=by show 0<=v 75/\v 75<=9000000000000000000;omega
 have P101b:Ij 101 [v 79]:=by show 0<=v 79/\v 79<=9000000000000000000;omega
 have a76:v 76=rtF (v 75):=e76;have a80:v 80=rtF (v 79):=e80;have a81:v 81=b2i (decide (rtB 32 (v 79).toNat 0*rtB 32 (v 79).toNat 0=(v 79).toNat)):=e81;have R:=Kh (v 79).toNat (by omega)
 have a85:v 85=rtC (v 79):=by
  have a83:v 83=rtF (v 79)+1:=by rw [e83,a80,Go.IntWalk.i64_in _ (by unfold rtF;omega)]
  rw [e85,e82,a83,a80,a81];unfold rtC rtF
  by_cases q:rtB 32 (v 79).toNat 0*rtB 32 (v 79).toNat 0=(v 79).toNat<;>simp [q,b2i]
 rw [a75] at a76;rw [a79] at a85;have a108:v 108=0:=by rw [e108,a20,e103,a30,e97,a46,e91,a51,e86,a59];rfl
 have a109:v 109=aT (64*l) (64*u) (64*(b0-a0)) (64*(b0-a0)):=by rw [e109,a20,e104,a30,e99,a46,e93,a51,e87,a59,<-a56];rfl
 have a110:v 110=bi (64*l) (64*u) (64*(b0-a0)) (64*(b0-a0)):=by rw [e110,a20,e105,a30,Nh,a46,e94,a51,e88,a59,<-a57];rfl
 have a111:v 111=rtF ((b0-a0)*(b0-a0)+aX l u*aX l u):=by rw [e111,a20,e106,a30,e101,a46,e95,a51,e89,a59,<-a76];rfl
 have a112:v 112=rtC ((b0-a0)*(b0-a0)+aV l u*aV l u):=by rw [e112,a20,e107,a30,e102,a46,e96,a51,e90,a59,<-a85];rfl
 refine ⟨gT ?_,?_⟩
 . exact aA (fun _=>P100) (aA (fun _=>P9) (aA (fun _=>P7) (aA (fun _=>P101a) (aA (fun _=>P101b) (gM)))))
 . intro x hx0;have hx':=gP (v:=v) (by rfl) hx0
   rw [hx'];show Value.tuple #[.agg #[.int .i64 (v 109),.int .i64 (v 110),.int .i64 (v 111),.int .i64 (v 112)],.int .i64 (v 108)]=_;rw [a108,a109,a110,a111,a112]
