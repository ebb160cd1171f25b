/- More known functions of the program: quotients, arccosines, altitudes and azimuths. -/
import Derived.Test.YtmldbeipmappnaaZCosP
import Derived.Test.YtmldbeipmappnaaZQoP
import Derived.Test.YtmldbeipmappnaaZSpC
import Derived.Test.YtmldbeipmappnaaZEv
set_option linter.unusedVariables false
set_option linter.unusedSimpArgs false
namespace Go.Proofs.Ytmldbeipmappnaa
open Go.RowKit Alm Sx
def ah2 (f:Nat):Bool:=f==12 || f==46 || f==50 || f==51 || f==52
def ah1:Nat->List Int->List Int
 | 12,[a,b,c,d,n]=>[(qoV a b c d n).getD 0 0,(qoV a b c d n).getD 1 0,(qoV a b c d n).getD 2 0]
 | 46,[a,b]=>[jJ b,jc a,0]
 | 50,[a,b,c,d,e,f]=>eF a b c d e f
 | 51,[a,b,c,d,e,f]=>azV a b c d e f
 | 52,[a,b,c,d,e,f]=>[b2i (decide (acH a b c d e f))]
 | _,_=>[]
def ahJ:Nat->List Int->Prop
 | 12,[a,b,c,d,n]=>qoP a b c d n
 | 46,[a,b]=>fxV a b=true/\a<=1073741824/\-1073741824<=b
 | 50,[a,b,c,d,e,f]=>cu a b=true/\cu c d=true/\cu e f=true
 | 51,[a,b,c,d,e,f]=>cu a b=true/\cu c d=true/\cu e f=true
 | 52,[_,_,_,_,_,_]=>True
 | _,_=>False
def cxF (args:List Int):Cx:=(cxE args).plus ah2 ah1 ahJ
theorem af6 (args:List Int):om (cxF args):=jg (adk args) fun f h=>by
 unfold ah2;rcases h with h|rfl
 . simp;omega
 . rfl
def afp:Nat->List Int->Bool
 | 12,[a,b,c,d,n]=>fxV a b&&(fxV c d&&decide (0<=c/\0<=n/\n<=1073741824))
 | 46,[a,b]=>fxV a b&&decide (a<=1073741824/\-1073741824<=b)
 | 50,[a,b,c,d,e,f]=>cu a b&&(cu c d&&cu e f)
 | 51,[a,b,c,d,e,f]=>cu a b&&(cu c d&&cu e f)
 | 52,[_,_,_,_,_,_]=>true
 | f,xs=>!ah2 f&&MX f xs
theorem afc (args:List Int) (f:Nat) (xs:List Int) (h:afp f xs=true):(cxF args).pre f xs:=by
 show if ah2 f=true then ahJ f xs else lv f xs
 unfold afp at h;split at h
 . simp only [Bool.and_eq_true] at h;exact ⟨h.1,h.2.1,of_decide_eq_true h.2.2⟩
 . simp only [Bool.and_eq_true] at h;exact ⟨h.1,of_decide_eq_true h.2⟩
 . simp only [Bool.and_eq_true] at h;exact h
 . simp only [Bool.and_eq_true] at h;exact h
 . trivial
 . simp only [Bool.and_eq_true,Bool.not_eq_true'] at h;rw [if_neg (by rw [h.1];decide)]
   exact LX _ _ h.2
def ahS (t:Tab):Nd->Option Rf
 | .app 46 2 [_,_]=>some (.c 0)
 | .app 50 2 [_,_,_,_,_,_]=>some (.c 0)
 | .app 51 2 [_,_,_,_,_,_]=>some (.c 0)
 | .app 20 0 []=>some (.c 1)
 | x=>vE t x
theorem bS (args:List Int):gJ (cxF args) ahS:=by
 intro v t x r ht h;unfold ahS at h;split at h
 . cases h;rfl
 . cases h;exact (eB _ _ _ _ _ _).2.2.symm
 . cases h;exact (ng _ _ _ _ _ _).2.2.symm
 . cases h;rfl
 . exact iU (af6 args) v t x r ht h
def ahL:Sx.Spec:=⟨94,12,[(true,[some .i64,some .i64]),(true,[some .i64,some .i64]),(false,[some .i64])],[(false,[some .i64]),(false,[some .i64]),(false,[some .i64])]⟩
def Ik:Sx.Spec:=⟨69,46,[(true,[some .i64,some .i64])],[(true,[some .i64,some .i64]),(false,[some .i64])]⟩
def ahK:Sx.Spec:=⟨88,50,[(true,[some .i64,some .i64,some .i64,some .i64,some .i64,some .i64])],[(true,[some .i64,some .i64]),(false,[some .i64])]⟩
def sAz:Sx.Spec:=⟨181,51,[(true,[some .i64,some .i64,some .i64,some .i64,some .i64,some .i64])],[(true,[some .i64,some .i64]),(false,[some .i64])]⟩
def ah0:Sx.Spec:=⟨87,52,[(true,[some .i64,some .i64,some .i64,some .i64,some .i64,some .i64])],[(false,[none])]⟩
def afZ:List Sx.Spec:=[FP,Ut,mF]
theorem afY (args:List Int):∀ s∈afZ,aH Try.prog (cxE args) s:=by
 intro s hs;refine XD args s ?_;simp only [afZ,spE,List.mem_cons,List.not_mem_nil,or_false] at hs ⊢
 rcases hs with rfl|rfl|rfl<;>simp
def afi:List Sx.Spec:=[ahL,Ik,ahK,sAz,ah0]
theorem mf (args:List Int):∀ s∈afi,aH Try.prog (cxF args) s:=by
 intro s hs;simp only [afi,List.mem_cons,List.not_mem_nil,or_false] at hs;rcases hs with rfl|rfl|rfl|rfl|rfl
 . refine dV rfl (ours _ _ _ Try.func94 rfl (by kernel_rfl)) fun xs hp w=>?_
   match xs,hp with
   | [a,b,c,d,n],hp=>exact afQ a b c d n w hp
 . refine dV rfl (ours _ _ _ Try.func69 rfl (by kernel_rfl)) fun xs hp w=>?_
   match xs,hp with
   | [a,b],hp=>exact O0 a b w hp.1 hp.2.1 hp.2.2
 . refine dV rfl (ours _ _ _ Try.func88 rfl (by kernel_rfl)) fun xs hp w=>?_
   match xs,hp with
   | [a,b,c,d,m,n],hp=>exact ag3 a b c d m n w hp.1 hp.2.1 hp.2.2
 . refine dV rfl (ours _ _ _ Try.func181 rfl (by kernel_rfl)) fun xs hp w=>?_
   match xs,hp with
   | [a,b,c,d,m,n],hp=>exact ahP a b c d m n w hp.1 hp.2.1 hp.2.2
 . refine dV rfl (ours _ _ _ Try.func87 rfl (by kernel_rfl)) fun xs hp w=>?_
   match xs,hp with
   | [a,b,c,d,m,n],hp=>exact afJ a b c d m n w
def ahO:List Sx.Spec:=kF++afZ++afi
theorem LV:∀ s∈kF,(s.id≠9/\s.id≠10/\s.id≠11/\s.id≠36)/\ah2 s.id=false:=by
 intro s h;simp only [kF,List.mem_cons,List.not_mem_nil,or_false] at h;rcases h with rfl|rfl|rfl|rfl|rfl|rfl|rfl|rfl|rfl<;>exact ⟨by decide,rfl⟩
theorem afM (args:List Int):∀ s∈ahO,aH Try.prog (cxF args) s:=by
 intro s hs;rcases List.mem_append.1 hs with h|h
 . rcases List.mem_append.1 h with h|h
   . exact eT (LV s h).2 (adC (LV s h).1 (KH args s h))
   . refine eT ?_ (afY args s h);simp only [afZ,List.mem_cons,List.not_mem_nil,or_false] at h;rcases h with rfl|rfl|rfl<;>rfl
 . exact mf args s h
