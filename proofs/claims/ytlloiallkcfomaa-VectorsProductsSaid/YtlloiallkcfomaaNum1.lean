/- Plain numbers: powers of a rational point of the unit circle, and the Taylor polynomials that are near them. -/
namespace Alm

/-- tan (theta / 2) times 2^300, theta = pi / 10800000 -/
def tp : Int := 296274873071786043043638596174445290133440682168229591076874812683228118407787832338
/-- theta times 2^320 -/
def th : Int := 621333442612237862514429719835185485259647600872884162104361705958491964691833831490694480
def c1n : Int := 2^600 - tp*tp
def s1n : Int := 2^301 * tp
def dd : Int := 2^600 + tp*tp

theorem unit_int : c1n*c1n + s1n*s1n = dd*dd := by decide +kernel
theorem dd_pos : 0 < dd := by decide +kernel

/-! polynomials with integer coefficients -/
def ev : List Int → Int → Int
  | [], _ => 0
  | a :: l, n => a + n * ev l n

def addP : List Int → List Int → List Int
  | [], m => m
  | a :: l, [] => a :: l
  | a :: l, b :: m => (a + b) :: addP l m

theorem ev_addP (l m : List Int) (n : Int) : ev (addP l m) n = ev l n + ev m n := by
  induction l generalizing m with
  | nil => simp [addP, ev]
  | cons a l ih =>
    cases m with
    | nil => simp [addP, ev]
    | cons b m => simp only [addP, ev, ih]; grind

def smulP (c : Int) : List Int → List Int
  | [] => []
  | a :: l => c * a :: smulP c l

theorem ev_smulP (c : Int) (l : List Int) (n : Int) : ev (smulP c l) n = c * ev l n := by
  induction l with
  | nil => simp [smulP, ev]
  | cons a l ih => simp only [smulP, ev, ih]; grind

def shiftP : List Int → List Int
  | [] => []
  | a :: l => let r := shiftP l; addP (a :: r) r

theorem ev_shiftP (l : List Int) (n : Int) : ev (shiftP l) n = ev l (n + 1) := by
  induction l with
  | nil => simp [shiftP, ev]
  | cons a l ih => simp only [shiftP, ev_addP, ev, ih]; grind

def bndP : List Int → Int → Int
  | [], _ => 0
  | a :: l, m => (a.natAbs : Int) + m * bndP l m

theorem bndP_nonneg (l : List Int) (m : Int) (hm : 0 ≤ m) : 0 ≤ bndP l m := by
  induction l with
  | nil => simp [bndP]
  | cons a l ih =>
    have := Int.mul_nonneg hm ih
    simp only [bndP]; omega

theorem natAbs_mul_le (n m x y : Int) (h0 : 0 ≤ n) (h : n ≤ m) (hxy : (x.natAbs : Int) ≤ y) : ((n * x).natAbs : Int) ≤ m * y := by
  rw [Int.natAbs_mul, Int.natCast_mul]
  have h1 : (n.natAbs : Int) = n := by omega
  rw [h1]
  have a1 := Int.mul_le_mul_of_nonneg_right h (show (0:Int) ≤ (x.natAbs : Int) by omega)
  have a2 := Int.mul_le_mul_of_nonneg_left hxy (show 0 ≤ m by omega)
  omega

theorem ev_le (l : List Int) (n m : Int) (h0 : 0 ≤ n) (h : n ≤ m) : ((ev l n).natAbs : Int) ≤ bndP l m := by
  induction l with
  | nil => simp [ev, bndP]
  | cons a l ih =>
    have := natAbs_mul_le n m _ _ h0 h ih
    simp only [ev, bndP]; omega

/-! the coefficients theta^k / k! -/
def K320 : Int := 2^320

def coefs : Nat → Nat → Int → List Int
  | 0, _, _ => []
  | m + 1, k, a => a :: coefs m (k + 1) (a * th / (K320 * ((k + 1 : Nat) : Int)))

def fact : Nat → Nat
  | 0 => 1
  | n + 1 => (n + 1) * fact n

def L0 : Int := 2^(320*69) * (fact 69 : Nat)
def A0 : List Int := coefs 70 0 L0

def altP : List Int → List Int
  | [] => []
  | [a] => [a]
  | a :: _ :: l => a :: 0 :: smulP (-1) (altP l)

def alt : List Int → Int → Int
  | [], _ => 0
  | [a], _ => a
  | a :: _ :: l, y => a - y * alt l y

theorem ev_altP (l : List Int) (n : Int) : ev (altP l) n = alt l (n * n) := by
  induction l using altP.induct with
  | case1 => simp [altP, alt, ev]
  | case2 a => simp [altP, alt, ev]
  | case3 a b l ih => simp only [altP, alt, ev, ev_smulP, ih]; grind

def sP : List Int := 0 :: altP A0.tail
def cP : List Int := altP A0

def dS : List Int := addP (smulP dd (shiftP sP)) (smulP (-1) (addP (smulP c1n sP) (smulP s1n cP)))
def dC : List Int := addP (smulP dd (shiftP cP)) (addP (smulP (-c1n) cP) (smulP s1n sP))

def M0 : Int := 2700000

theorem dS_small : bndP dS M0 * 2^256 ≤ dd * L0 := by decide +kernel
theorem dC_small : bndP dC M0 * 2^256 ≤ dd * L0 := by decide +kernel
theorem mid_small : ((ev sP M0 - ev cP M0).natAbs : Int) * 2^256 ≤ L0 := by decide +kernel
theorem start : ev sP 0 = 0 ∧ ev cP 0 = L0 := by decide +kernel
theorem L0_pos : 0 < L0 := by decide +kernel

attribute [irreducible] K320 L0 A0 tp th c1n s1n dd sP cP
end Alm
