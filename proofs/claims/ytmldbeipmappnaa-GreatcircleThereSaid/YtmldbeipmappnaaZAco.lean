/- The known functions of great circles: arcsines and arccosines; small lemmas on nodes. -/
import Derived.Test.YtmldbeipmappnaaZSpN
import Derived.Test.YtmldbeipmappnaaZMake
import Derived.Test.YtmldbeipmappnaaZAcos
import Derived.Test.YtmldbeipmappnaaZEv
set_option linter.unusedVariables false
set_option linter.unusedSimpArgs false
namespace Go.Proofs.Ytmldbeipmappnaa
open Go.RowKit Alm Sx
theorem aB {X:Cx} {v:Nat->Int} {ext:Ext} (he:gJ X ext) {l:List Nd} (hs:aA X v l.reverse) {ps:List (Nat × Rf)} (hp:∀ q∈ps,v q.1=q.2.val v) {k j:Nat} (h:Rf.eq ((norm ext ps [] l).rep (.n k)) ((norm ext ps [] l).rep (.n j))=true):v k=v j:=by
 have a:=jD (jy he hs hp az) (.n k);have b:=jD (jy he hs hp az) (.n j);rw [Rf.eq_eq h] at a;exact a.symm.trans b
theorem bb2 {p q:Prop} [Decidable p] [Decidable q]:(if b2i (decide p)≠0 then b2i (decide q) else 0)=b2i (decide (p/\q)):=by
 by_cases h1:p<;>by_cases h2:q<;>simp [b2i,h1,h2]
theorem jk {p:Prop} [Decidable p] {x y:Int}:(if b2i (decide p)≠0 then x else y)=if p then x else y:=by
 by_cases h:p<;>simp [b2i,h]
theorem uo (x y z:Int):[x,y,z].getD 0 0=x/\[x,y,z].getD 1 0=y/\[x,y,z].getD 2 0=z:=⟨rfl,rfl,rfl⟩
def ae2 (t:Tab):Nd->Option Rf:=fun _=>none
theorem Bf (X:Cx):gJ X ae2:=fun v t x r ht h=>by cases h
def kA (f:Nat):Bool:=f==36 || f==46
def oD:Nat->List Int->List Int
 | 36,[a,b]=>[if oG a b=0 then qw a else 0,if oG a b=0 then qV b else 0,oG a b]
 | 46,[a,b]=>[jJ b,jc a,0]
 | _,_=>[]
def aez:Nat->List Int->Prop
 | 36,[a,b]=>fxV a b=true
 | 46,[a,b]=>fxV a b=true/\a<=1073741824/\-1073741824<=b
 | _,_=>False
def cxA (args:List Int):Cx:=(cxB args).plus kA oD aez
theorem abv (args:List Int):om (cxB args):=⟨fun _ _ _=>rfl,fun _ _ _ h=>h⟩
theorem Ud (args:List Int):om (cxA args):=jg (abv args) fun f h=>by
 unfold kA;rcases h with h|rfl
 . simp;omega
 . rfl
def adJ (t:Tab):Nd->Option Rf
 | .app 46 2 [_,_]=>some (.c 0)
 | .app 20 0 []=>some (.c 1)
 | x=>vE t x
theorem Br (args:List Int):gJ (cxA args) adJ:=by
 intro v t x r ht h;unfold adJ at h;split at h
 . cases h;rfl
 . cases h;rfl
 . exact iU (Ud args) v t x r ht h
def mF:Sx.Spec:=⟨82,36,[(true,[some .i64,some .i64])],[(true,[some .i64,some .i64]),(false,[some .i64])]⟩
def qg:Sx.Spec:=mF
def Ik:Sx.Spec:=⟨69,46,[(true,[some .i64,some .i64])],[(true,[some .i64,some .i64]),(false,[some .i64])]⟩
def Tz:Sx.Spec:=Ik
theorem ol (args:List Int):aH Try.prog (cxA args) qg:=by
 refine dV rfl (ours _ _ _ Try.func82 rfl (by kernel_rfl)) fun xs hp w=>?_
 match xs,hp with
 | [a,b],hp=>exact BA a b w hp
def Ta:List Sx.Spec:=[mF,qg,Ik,Tz]
def Jm:List Sx.Spec:=kF++kL++lZ++lU++Ta
theorem RY (args:List Int):∀ s∈Ta,aH Try.prog (cxA args) s:=by
 intro s hs;simp only [Ta,List.mem_cons,List.not_mem_nil,or_false] at hs;rcases hs with rfl|rfl|rfl|rfl
 . refine dV rfl (ours _ _ _ Try.func82 rfl (by kernel_rfl)) fun xs hp w=>?_
   match xs,hp with
   | [a,b],hp=>exact BA a b w hp
 . exact ol args
 . refine dV rfl (ours _ _ _ Try.func69 rfl (by kernel_rfl)) fun xs hp w=>?_
   match xs,hp with
   | [a,b],hp=>exact O0 a b w hp.1 hp.2.1 hp.2.2
 . refine dV rfl (ours _ _ _ Try.func69 rfl (by kernel_rfl)) fun xs hp w=>?_
   match xs,hp with
   | [a,b],hp=>exact O0 a b w hp.1 hp.2.1 hp.2.2
theorem NH (k:Nat->Bool) (h:∀ f,f<=8∨f=36∨f=46->k f=false):∀ s∈Jm,k s.id=false:=by
 intro s hs;apply h;simp only [Jm,kF,kL,lZ,lU,Ta,List.mem_append,List.mem_cons,List.not_mem_nil,or_false] at hs;rcases hs with (((h|h)|h)|h)|h
 . rcases h with rfl|rfl|rfl|rfl|rfl|rfl|rfl|rfl|rfl<;>decide
 . rcases h with rfl|rfl|rfl|rfl<;>decide
 . rcases h with rfl|rfl<;>decide
 . rcases h with rfl|rfl|rfl<;>decide
 . rcases h with rfl|rfl|rfl|rfl<;>decide
theorem Iw (args:List Int):∀ s∈Jm,aH Try.prog (cxA args) s:=by
 intro s hs;rcases List.mem_append.1 hs with h|h
 . have q:kA s.id=false:=by
    simp only [kF,kL,lZ,lU,List.mem_append,List.mem_cons,List.not_mem_nil,or_false] at h;rcases h with ((h|h)|h)|h
    . rcases h with rfl|rfl|rfl|rfl|rfl|rfl|rfl|rfl|rfl<;>rfl
    . rcases h with rfl|rfl|rfl|rfl<;>rfl
    . rcases h with rfl|rfl<;>rfl
    . rcases h with rfl|rfl|rfl<;>rfl
   refine eT q ?_;rcases List.mem_append.1 h with h|h
   . rcases List.mem_append.1 h with h|h
     . exact zI args s h
     . exact zg args s h
   . exact zx args s h
 . exact RY args s h
