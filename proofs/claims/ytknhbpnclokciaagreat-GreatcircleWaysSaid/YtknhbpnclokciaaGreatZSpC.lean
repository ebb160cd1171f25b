/- The known functions of the symbolic runs of layer 43: quotients, arcsines. -/
import Derived.Test.YtknhbpnclokciaaGreatZSp
import Derived.Test.YtknhbpnclokciaaGreatZRIn
set_option linter.unusedVariables false
set_option linter.unusedSimpArgs false
namespace Go.Proofs.YtknhbpnclokciaaGreat
open Go.RowKit Alm Sx
def aal (a b:Int):Int:=if b<a then b else a
def aag (a b:Int):Int:=if b>a then b else a
def aee (a b:Int):Int:=-((-a)/b)
def adu:Nat->List Int->List Int
 | 30,[a,b]=>[a/b]
 | 31,[a,b]=>[aee a b]
 | 32,[a]=>[dz a]
 | 8,[a,b]=>[b2i (fxV a b)]
 | _,_=>[]
def ad8:Nat->List Int->Prop
 | 30,[a,b]=>(-4611686018427387904<=a/\a<=4611686018427387904)/\0<b/\b<=4611686018427387904
 | 31,[a,b]=>(-4611686018427387904<=a/\a<=4611686018427387904)/\0<b/\b<=4611686018427387904
 | 32,[_]=>True
 | 8,[_,_]=>True
 | _,_=>False
def cxC (args:List Int):Cx:=⟨adu,ad8,args⟩
def ade:Sx.Spec:=⟨211,30,[(false,[some .i64]),(false,[some .i64])],[(false,[some .i64])]⟩
def adO:Sx.Spec:=⟨212,31,[(false,[some .i64]),(false,[some .i64])],[(false,[some .i64])]⟩
def adL:Sx.Spec:=⟨319,32,[(false,[some .i64])],[(false,[some .i64])]⟩
def abD:List Sx.Spec:=[Ny,ade,adO,adL]
theorem abf (args:List Int):∀ s∈abD,aQ Tryz.prog (cxC args) s:=by
 intro s hs;simp only [abD,List.mem_cons,List.not_mem_nil,or_false] at hs;rcases hs with rfl|rfl|rfl|rfl
 . refine ⟨ours _ _ _ Tryz.func207 rfl (by kernel_rfl),fun xs hp w=>?_⟩
   match xs,hp with
   | [a,b],_ =>
    refine (dI a b w).mono ?_;rintro e w' ⟨he,hb⟩;exact ⟨by rw [he];exact congrArg Ending.returned (jU _).symm,hb⟩
 . refine ⟨ours _ _ _ Tryz.func211 rfl (by kernel_rfl),fun xs hp w=>?_⟩
   match xs,hp with
   | [a,b],hp =>
    refine (tu a b w hp.1.1 hp.1.2 hp.2.1 hp.2.2).mono ?_;rintro e w' ⟨he,hb⟩;exact ⟨he,by rw [<-hb];exact Below.refl _ _⟩
 . refine ⟨ours _ _ _ Tryz.func212 rfl (by kernel_rfl),fun xs hp w=>?_⟩
   match xs,hp with
   | [a,b],hp =>
    refine (FW a b w hp.1.1 hp.1.2 hp.2.1 hp.2.2).mono ?_;rintro e w' ⟨he,hb⟩;exact ⟨he,by rw [<-hb];exact Below.refl _ _⟩
 . refine ⟨ours _ _ _ Tryz.func319 rfl (by kernel_rfl),fun xs hp w=>?_⟩
   match xs,hp with
   | [a],hp=>exact UC a w
