/- The known functions of the symbolic runs of layer 43: quotients,arcsines. -/
import Derived.Test.YtfffpodaabdpfaaGreatSp
import Derived.Test.YtfffpodaabdpfaaGreatRIn
set_option linter.unusedVariables false
namespace Go.Proofs.YtfffpodaabdpfaaGreat
open Go.RowKit Alm Sx
def minI (a b:Int):Int:=if b < a then b else a
def maxI (a b:Int):Int:=if b > a then b else a
def cdiv (a b:Int):Int:=-((-a) / b)
def divL (a1 a2 b1 b2:Int):Int:=minI (minI (minI ((a1*1073741824) / b1) ((a1*1073741824) / b2)) ((a2*1073741824) / b1)) ((a2*1073741824) / b2)
def divH (a1 a2 b1 b2:Int):Int:=maxI (maxI (maxI (cdiv (a1*1073741824) b1) (cdiv (a1*1073741824) b2)) (cdiv (a2*1073741824) b1)) (cdiv (a2*1073741824) b2)
def semC:Nat→List Int→List Int
 | 30,[a,b]=>[a / b]
 | 31,[a,b]=>[cdiv a b]
 | 32,[a]=>[asinV a]
 | 8,[a,b]=>[b2i (fxV a b)]
 | _,_=>[]
def preC:Nat→List Int→Prop
 | 30,[a,b]=>(-4611686018427387904≤a∧a≤4611686018427387904)∧0 < b∧b≤4611686018427387904
 | 31,[a,b]=>(-4611686018427387904≤a∧a≤4611686018427387904)∧0 < b∧b≤4611686018427387904
 | 32,[_]=>True
 | 8,[_,_]=>True
 | _,_=>False
def cxC (args:List Int):Cx:=⟨semC,preC,args⟩
def sFloor:Sx.Spec:=⟨241,30,[(false,[some .i64]),(false,[some .i64])],[(false,[some .i64])]⟩
def sCeil:Sx.Spec:=⟨242,31,[(false,[some .i64]),(false,[some .i64])],[(false,[some .i64])]⟩
def sAsin:Sx.Spec:=⟨275,32,[(false,[some .i64])],[(false,[some .i64])]⟩
def spDiv:List Sx.Spec:=[sValid,sFloor,sCeil,sAsin]
theorem spDiv_ok (args:List Int):∀ s ∈ spDiv,SpecOK Tryz.prog (cxC args) s:=by
 intro s hs
 simp only [spDiv,List.mem_cons,List.not_mem_nil,or_false] at hs
 rcases hs with rfl | rfl | rfl | rfl
 · refine ⟨ours _ _ _ Tryz.func212 rfl (by kernel_rfl),fun xs hp w=>?_⟩
   match xs,hp with
   | [a,b],_ =>
    refine (c_fValid a b w).mono ?_
    rintro e w' ⟨he,hb⟩
    exact ⟨by rw [he];exact congrArg Ending.returned (bool_b2i _).symm,hb⟩
 · refine ⟨ours _ _ _ Tryz.func241 rfl (by kernel_rfl),fun xs hp w=>?_⟩
   match xs,hp with
   | [a,b],hp =>
    refine (c_ffloor a b w hp.1.1 hp.1.2 hp.2.1 hp.2.2).mono ?_
    rintro e w' ⟨he,hb⟩
    exact ⟨he,by rw [← hb];exact Below.refl _ _⟩
 · refine ⟨ours _ _ _ Tryz.func242 rfl (by kernel_rfl),fun xs hp w=>?_⟩
   match xs,hp with
   | [a,b],hp =>
    refine (c_fceil a b w hp.1.1 hp.1.2 hp.2.1 hp.2.2).mono ?_
    rintro e w' ⟨he,hb⟩
    exact ⟨he,by rw [← hb];exact Below.refl _ _⟩
 · refine ⟨ours _ _ _ Tryz.func275 rfl (by kernel_rfl),fun xs hp w=>?_⟩
   match xs,hp with
   | [a],hp=>exact c_asin a w
end Go.Proofs.YtfffpodaabdpfaaGreat
