/- More known functions of the program: quotients, arccosines, altitudes and azimuths. -/
import Derived.Test.YtknhbpnclokciaaZCosP
import Derived.Test.YtknhbpnclokciaaZQoP
import Derived.Test.YtknhbpnclokciaaZSpC
import Derived.Test.YtknhbpnclokciaaZEv
set_option linter.unusedVariables false
set_option linter.unusedSimpArgs false
namespace Go.Proofs.Ytknhbpnclokciaa
open Go.RowKit Alm Sx
def kF (f:Nat):Bool:=f==12 || f==46 || f==50 || f==51 || f==52
def afm:Nat->List Int->List Int
 | 12,[a,b,c,d,n]=>[(qoV a b c d n).getD 0 0,(qoV a b c d n).getD 1 0,(qoV a b c d n).getD 2 0]
 | 46,[a,b]=>[o9 b,qK a,0]
 | 50,[a,b,c,d,e,f]=>vz a b c d e f
 | 51,[a,b,c,d,e,f]=>azV a b c d e f
 | 52,[a,b,c,d,e,f]=>[b2i (decide (vY a b c d e f))]
 | _,_=>[]
def afc:Nat->List Int->Prop
 | 12,[a,b,c,d,n]=>qoP a b c d n
 | 46,[a,b]=>fxV a b=true/\a<=1073741824/\-1073741824<=b
 | 50,[a,b,c,d,e,f]=>dI a b=true/\dI c d=true/\dI e f=true
 | 51,[a,b,c,d,e,f]=>dI a b=true/\dI c d=true/\dI e f=true
 | 52,[_,_,_,_,_,_]=>True
 | _,_=>False
def cxF (args:List Int):Cx:=(cxE args).plus kF afm afc
theorem afk (args:List Int):yI (cxF args):=nG (VO args) fun f h=>by
 unfold kF;rcases h with h|rfl
 . simp;omega
 . rfl
def KW:Nat->List Int->Bool
 | 12,[a,b,c,d,n]=>fxV a b&&(fxV c d&&decide (0<=c/\0<=n/\n<=1073741824))
 | 46,[a,b]=>fxV a b&&decide (a<=1073741824/\-1073741824<=b)
 | 50,[a,b,c,d,e,f]=>dI a b&&(dI c d&&dI e f)
 | 51,[a,b,c,d,e,f]=>dI a b&&(dI c d&&dI e f)
 | 52,[_,_,_,_,_,_]=>true
 | f,xs=>!kF f&&KD f xs
theorem LY (args:List Int) (f:Nat) (xs:List Int) (h:KW f xs=true):(cxF args).pre f xs:=by
 show if kF f=true then afc f xs else BX f xs
 unfold KW at h;split at h
 . simp only [Bool.and_eq_true] at h;exact ⟨h.1,h.2.1,of_decide_eq_true h.2.2⟩
 . simp only [Bool.and_eq_true] at h;exact ⟨h.1,of_decide_eq_true h.2⟩
 . simp only [Bool.and_eq_true] at h;exact h
 . simp only [Bool.and_eq_true] at h;exact h
 . trivial
 . simp only [Bool.and_eq_true,Bool.not_eq_true'] at h;rw [if_neg (by rw [h.1];decide)]
   exact Nr _ _ h.2
def afi (t:Tab):Nd->Option Rf
 | .app 46 2 [_,_]=>some (.c 0)
 | .app 50 2 [_,_,_,_,_,_]=>some (.c 0)
 | .app 51 2 [_,_,_,_,_,_]=>some (.c 0)
 | .app 20 0 []=>some (.c 1)
 | x=>Ot t x
theorem ma (args:List Int):nZ (cxF args) afi:=by
 intro v t x r ht h;unfold afi at h;split at h
 . cases h;rfl
 . cases h;exact (y5 _ _ _ _ _ _).2.2.symm
 . cases h;exact (u7 _ _ _ _ _ _).2.2.symm
 . cases h;rfl
 . exact Bf (afk args) v t x r ht h
def afl:Sx.Spec:=⟨48,12,[(true,[some .i64,some .i64]),(true,[some .i64,some .i64]),(false,[some .i64])],[(false,[some .i64]),(false,[some .i64]),(false,[some .i64])]⟩
def Us:Sx.Spec:=⟨42,46,[(true,[some .i64,some .i64])],[(true,[some .i64,some .i64]),(false,[some .i64])]⟩
def afb:Sx.Spec:=⟨33,50,[(true,[some .i64,some .i64,some .i64,some .i64,some .i64,some .i64])],[(true,[some .i64,some .i64]),(false,[some .i64])]⟩
def sAz:Sx.Spec:=⟨49,51,[(true,[some .i64,some .i64,some .i64,some .i64,some .i64,some .i64])],[(true,[some .i64,some .i64]),(false,[some .i64])]⟩
def afh:Sx.Spec:=⟨32,52,[(true,[some .i64,some .i64,some .i64,some .i64,some .i64,some .i64])],[(false,[none])]⟩
def FX:List Sx.Spec:=[afl,Us,afb,sAz,afh]
theorem zQ (args:List Int):∀ s∈FX,aQ Try.prog (cxF args) s:=by
 intro s hs;simp only [FX,List.mem_cons,List.not_mem_nil,or_false] at hs;rcases hs with rfl|rfl|rfl|rfl|rfl
 . refine dE rfl (ours _ _ _ Try.func48 rfl (by kernel_rfl)) fun xs hp w=>?_
   match xs,hp with
   | [a,b,c,d,n],hp=>exact TB a b c d n w hp
 . refine dE rfl (ours _ _ _ Try.func42 rfl (by kernel_rfl)) fun xs hp w=>?_
   match xs,hp with
   | [a,b],hp=>exact ZV a b w hp.1 hp.2.1 hp.2.2
 . refine dE rfl (ours _ _ _ Try.func33 rfl (by kernel_rfl)) fun xs hp w=>?_
   match xs,hp with
   | [a,b,c,d,m,n],hp=>exact Z6 a b c d m n w hp.1 hp.2.1 hp.2.2
 . refine dE rfl (ours _ _ _ Try.func49 rfl (by kernel_rfl)) fun xs hp w=>?_
   match xs,hp with
   | [a,b,c,d,m,n],hp=>exact afj a b c d m n w hp.1 hp.2.1 hp.2.2
 . refine dE rfl (ours _ _ _ Try.func32 rfl (by kernel_rfl)) fun xs hp w=>?_
   match xs,hp with
   | [a,b,c,d,m,n],hp=>exact PD a b c d m n w
