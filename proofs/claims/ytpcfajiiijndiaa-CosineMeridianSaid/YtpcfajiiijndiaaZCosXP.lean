/- More known functions of the program: quotients, arccosines, altitudes and azimuths. -/
import Derived.Test.YtpcfajiiijndiaaZCosP
import Derived.Test.YtpcfajiiijndiaaZQoP
import Derived.Test.YtpcfajiiijndiaaZSpC
import Derived.Test.YtpcfajiiijndiaaZEv
set_option linter.unusedVariables false
set_option linter.unusedSimpArgs false
namespace Go.Proofs.Ytpcfajiiijndiaa
open Go.RowKit Alm Sx
def kF (f:Nat):Bool:=f==12 || f==46 || f==50 || f==51 || f==52
def WI:Nat->List Int->List Int
 | 12,[a,b,c,d,n]=>[(qoV a b c d n).getD 0 0,(qoV a b c d n).getD 1 0,(qoV a b c d n).getD 2 0]
 | 46,[a,b]=>[La b,Ps a,0]
 | 50,[a,b,c,d,e,f]=>dV a b c d e f
 | 51,[a,b,c,d,e,f]=>azV a b c d e f
 | 52,[a,b,c,d,e,f]=>[b2i (decide (gV a b c d e f))]
 | _,_=>[]
def TU:Nat->List Int->Prop
 | 12,[a,b,c,d,n]=>qoP a b c d n
 | 46,[a,b]=>fxV a b=true/\a<=1073741824/\-1073741824<=b
 | 50,[a,b,c,d,e,f]=>bi a b=true/\bi c d=true/\bi e f=true
 | 51,[a,b,c,d,e,f]=>bi a b=true/\bi c d=true/\bi e f=true
 | 52,[_,_,_,_,_,_]=>True
 | _,_=>False
def cxF (args:List Int):Cx:=(cxE args).plus kF WI TU
theorem VH (args:List Int):uW (cxF args):=vJ (Ol args) fun f h=>by
 unfold kF;rcases h with h|rfl
 . simp;omega
 . rfl
def Ip:Nat->List Int->Bool
 | 12,[a,b,c,d,n]=>fxV a b&&(fxV c d&&decide (0<=c/\0<=n/\n<=1073741824))
 | 46,[a,b]=>fxV a b&&decide (a<=1073741824/\-1073741824<=b)
 | 50,[a,b,c,d,e,f]=>bi a b&&(bi c d&&bi e f)
 | 51,[a,b,c,d,e,f]=>bi a b&&(bi c d&&bi e f)
 | 52,[_,_,_,_,_,_]=>true
 | f,xs=>!kF f&&D9 f xs
theorem KI (args:List Int) (f:Nat) (xs:List Int) (h:Ip f xs=true):(cxF args).pre f xs:=by
 show if kF f=true then TU f xs else jm f xs
 unfold Ip at h;split at h
 . simp only [Bool.and_eq_true] at h;exact ⟨h.1,h.2.1,of_decide_eq_true h.2.2⟩
 . simp only [Bool.and_eq_true] at h;exact ⟨h.1,of_decide_eq_true h.2⟩
 . simp only [Bool.and_eq_true] at h;exact h
 . simp only [Bool.and_eq_true] at h;exact h
 . trivial
 . simp only [Bool.and_eq_true,Bool.not_eq_true'] at h;rw [if_neg (by rw [h.1];decide)]
   exact yP _ _ h.2
def Us (t:Tab):Nd->Option Rf
 | .app 46 2 [_,_]=>some (.c 0)
 | .app 50 2 [_,_,_,_,_,_]=>some (.c 0)
 | .app 51 2 [_,_,_,_,_,_]=>some (.c 0)
 | .app 20 0 []=>some (.c 1)
 | x=>Bq t x
theorem aP (args:List Int):iw (cxF args) Us:=by
 intro v t x r ht h;unfold Us at h;split at h
 . cases h;rfl
 . cases h;exact (eT _ _ _ _ _ _).2.2.symm
 . cases h;exact (gP _ _ _ _ _ _).2.2.symm
 . cases h;rfl
 . exact mH (VH args) v t x r ht h
def TJ:Sx.Spec:=⟨93,12,[(true,[some .i64,some .i64]),(true,[some .i64,some .i64]),(false,[some .i64])],[(false,[some .i64]),(false,[some .i64]),(false,[some .i64])]⟩
def KO:Sx.Spec:=⟨94,46,[(true,[some .i64,some .i64])],[(true,[some .i64,some .i64]),(false,[some .i64])]⟩
def TL:Sx.Spec:=⟨80,50,[(true,[some .i64,some .i64,some .i64,some .i64,some .i64,some .i64])],[(true,[some .i64,some .i64]),(false,[some .i64])]⟩
def sAz:Sx.Spec:=⟨95,51,[(true,[some .i64,some .i64,some .i64,some .i64,some .i64,some .i64])],[(true,[some .i64,some .i64]),(false,[some .i64])]⟩
def Vs:Sx.Spec:=⟨79,52,[(true,[some .i64,some .i64,some .i64,some .i64,some .i64,some .i64])],[(false,[none])]⟩
def GZ:List Sx.Spec:=[TJ,KO,TL,sAz,Vs]
theorem qM (args:List Int):∀ s∈GZ,aC Try.prog (cxF args) s:=by
 intro s hs;simp only [GZ,List.mem_cons,List.not_mem_nil,or_false] at hs;rcases hs with rfl|rfl|rfl|rfl|rfl
 . refine gB rfl (ours _ _ _ Try.func93 rfl (by kernel_rfl)) fun xs hp w=>?_
   match xs,hp with
   | [a,b,c,d,n],hp=>exact Na a b c d n w hp
 . refine gB rfl (ours _ _ _ Try.func94 rfl (by kernel_rfl)) fun xs hp w=>?_
   match xs,hp with
   | [a,b],hp=>exact Sd a b w hp.1 hp.2.1 hp.2.2
 . refine gB rfl (ours _ _ _ Try.func80 rfl (by kernel_rfl)) fun xs hp w=>?_
   match xs,hp with
   | [a,b,c,d,m,n],hp=>exact RG a b c d m n w hp.1 hp.2.1 hp.2.2
 . refine gB rfl (ours _ _ _ Try.func95 rfl (by kernel_rfl)) fun xs hp w=>?_
   match xs,hp with
   | [a,b,c,d,m,n],hp=>exact UF a b c d m n w hp.1 hp.2.1 hp.2.2
 . refine gB rfl (ours _ _ _ Try.func79 rfl (by kernel_rfl)) fun xs hp w=>?_
   match xs,hp with
   | [a,b,c,d,m,n],hp=>exact Nn a b c d m n w
