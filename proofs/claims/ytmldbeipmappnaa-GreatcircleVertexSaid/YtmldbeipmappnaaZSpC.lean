/- The known functions of the symbolic runs of layer 43: quotients, arcsines. -/
import Derived.Test.YtmldbeipmappnaaZSp
import Derived.Test.YtmldbeipmappnaaZSides
set_option linter.unusedVariables false
set_option linter.unusedSimpArgs false
namespace Go.Proofs.Ytmldbeipmappnaa
open Go.RowKit Alm Sx
def yn (a b:Int):Int:=if b<a then b else a
def rD (a b:Int):Int:=if b>a then b else a
def aeY (a b:Int):Int:=-((-a)/b)
def Ah:Nat->List Int->List Int
 | 30,[a,b]=>[a/b]
 | 31,[a,b]=>[aeY a b]
 | 32,[a]=>[bR a]
 | 8,[a,b]=>[b2i (fxV a b)]
 | _,_=>[]
def uG:Nat->List Int->Prop
 | 30,[a,b]=>(-4611686018427387904<=a/\a<=4611686018427387904)/\0<b/\b<=4611686018427387904
 | 31,[a,b]=>(-4611686018427387904<=a/\a<=4611686018427387904)/\0<b/\b<=4611686018427387904
 | 32,[_]=>True
 | 8,[_,_]=>True
 | _,_=>False
def cxC (args:List Int):Cx:=⟨Ah,uG,args⟩
def aad:Sx.Spec:=⟨160,30,[(false,[some .i64]),(false,[some .i64])],[(false,[some .i64])]⟩
def adN:Sx.Spec:=⟨161,31,[(false,[some .i64]),(false,[some .i64])],[(false,[some .i64])]⟩
def aem:Sx.Spec:=⟨134,32,[(false,[some .i64])],[(false,[some .i64])]⟩
def Mm:List Sx.Spec:=[rJ,aad,adN,aem]
theorem NF (args:List Int):∀ s∈Mm,aH Try.prog (cxC args) s:=by
 intro s hs;simp only [Mm,List.mem_cons,List.not_mem_nil,or_false] at hs;rcases hs with rfl|rfl|rfl|rfl
 . refine ⟨ours _ _ _ Try.func128 rfl (by kernel_rfl),fun xs hp w=>?_⟩
   match xs,hp with
   | [a,b],_ =>
    refine (ek a b w).mono ?_;rintro e w' ⟨he,hb⟩;exact ⟨by rw [he];exact congrArg Ending.returned (wZ _).symm,hb⟩
 . refine ⟨ours _ _ _ Try.func160 rfl (by kernel_rfl),fun xs hp w=>?_⟩
   match xs,hp with
   | [a,b],hp =>
    refine (qf a b w hp.1.1 hp.1.2 hp.2.1 hp.2.2).mono ?_;rintro e w' ⟨he,hb⟩;exact ⟨he,by rw [<-hb];exact Below.refl _ _⟩
 . refine ⟨ours _ _ _ Try.func161 rfl (by kernel_rfl),fun xs hp w=>?_⟩
   match xs,hp with
   | [a,b],hp =>
    refine (Ac a b w hp.1.1 hp.1.2 hp.2.1 hp.2.2).mono ?_;rintro e w' ⟨he,hb⟩;exact ⟨he,by rw [<-hb];exact Below.refl _ _⟩
 . refine ⟨ours _ _ _ Try.func134 rfl (by kernel_rfl),fun xs hp w=>?_⟩
   match xs,hp with
   | [a],hp=>exact MN a w
