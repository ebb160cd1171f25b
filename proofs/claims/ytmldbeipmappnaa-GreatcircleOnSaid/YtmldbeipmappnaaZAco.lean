/- The known functions of great circles: arcsines and arccosines; small lemmas on nodes. -/
import Derived.Test.YtmldbeipmappnaaZSpN
import Derived.Test.YtmldbeipmappnaaZMake
import Derived.Test.YtmldbeipmappnaaZSpC
import Derived.Test.YtmldbeipmappnaaZEv
set_option linter.unusedVariables false
set_option linter.unusedSimpArgs false
namespace Go.Proofs.Ytmldbeipmappnaa
open Go.RowKit Alm Sx
theorem aA {X:Cx} {v:Nat->Int} {ext:Ext} (he:jJ X ext) {l:List Nd} (hs:gG X v l.reverse) {ps:List (Nat × Rf)} (hp:∀ q∈ps,v q.1=q.2.val v) {k j:Nat} (h:Rf.eq ((norm ext ps [] l).rep (.n k)) ((norm ext ps [] l).rep (.n j))=true):v k=v j:=by
 have a:=oN (qR he hs hp aJ) (.n k);have b:=oN (qR he hs hp aJ) (.n j);rw [Rf.eq_eq h] at a;exact a.symm.trans b
theorem bb2 {p q:Prop} [Decidable p] [Decidable q]:(if b2i (decide p)≠0 then b2i (decide q) else 0)=b2i (decide (p/\q)):=by
 by_cases h1:p<;>by_cases h2:q<;>simp [b2i,h1,h2]
theorem ko {p:Prop} [Decidable p] {x y:Int}:(if b2i (decide p)≠0 then x else y)=if p then x else y:=by
 by_cases h:p<;>simp [b2i,h]
theorem qZ (x y z:Int):[x,y,z].getD 0 0=x/\[x,y,z].getD 1 0=y/\[x,y,z].getD 2 0=z:=⟨rfl,rfl,rfl⟩
def VI (t:Tab):Nd->Option Rf:=fun _=>none
theorem yg (X:Cx):jJ X VI:=fun v t x r ht h=>by cases h
def kA (f:Nat):Bool:=f==36 || f==46
def iE:Nat->List Int->List Int
 | 36,[a,b]=>[if jO a b=0 then fo a else 0,if jO a b=0 then eF b else 0,jO a b]
 | 46,[a,b]=>[oP b,qH a,0]
 | _,_=>[]
def Wh:Nat->List Int->Prop
 | 36,[a,b]=>fxV a b=true
 | 46,[a,b]=>fxV a b=true/\a<=1073741824/\-1073741824<=b
 | _,_=>False
def cxA (args:List Int):Cx:=(cxB args).plus kA iE Wh
theorem Rv (args:List Int):xR (cxB args):=⟨fun _ _ _=>rfl,fun _ _ _ h=>h⟩
theorem Ob (args:List Int):xR (cxA args):=nZ (Rv args) fun f h=>by
 unfold kA;rcases h with h|rfl
 . simp;omega
 . rfl
def S9 (t:Tab):Nd->Option Rf
 | .app 46 2 [_,_]=>some (.c 0)
 | .app 20 0 []=>some (.c 1)
 | x=>IZ t x
theorem xe (args:List Int):jJ (cxA args) S9:=by
 intro v t x r ht h;unfold S9 at h;split at h
 . cases h;rfl
 . cases h;rfl
 . exact yf (Ob args) v t x r ht h
def ET:Sx.Spec:=⟨82,36,[(true,[some .i64,some .i64])],[(true,[some .i64,some .i64]),(false,[some .i64])]⟩
def El:Sx.Spec:=ET
def Eh:Sx.Spec:=⟨69,46,[(true,[some .i64,some .i64])],[(true,[some .i64,some .i64]),(false,[some .i64])]⟩
def Nu:Sx.Spec:=Eh
theorem AX (args:List Int):aL Try.prog (cxA args) El:=by
 refine dV rfl (ours _ _ _ Try.func82 rfl (by kernel_rfl)) fun xs hp w=>?_
 match xs,hp with
 | [a,b],hp=>exact EG a b w hp
def Ls:List Sx.Spec:=[ET,El,Eh,Nu]
def FO:List Sx.Spec:=og++oV++rA++sJ++Ls
theorem Ld (args:List Int):∀ s∈Ls,aL Try.prog (cxA args) s:=by
 intro s hs;simp only [Ls,List.mem_cons,List.not_mem_nil,or_false] at hs;rcases hs with rfl|rfl|rfl|rfl
 . refine dV rfl (ours _ _ _ Try.func82 rfl (by kernel_rfl)) fun xs hp w=>?_
   match xs,hp with
   | [a,b],hp=>exact EG a b w hp
 . exact AX args
 . refine dV rfl (ours _ _ _ Try.func69 rfl (by kernel_rfl)) fun xs hp w=>?_
   match xs,hp with
   | [a,b],hp=>exact Hq a b w hp.1 hp.2.1 hp.2.2
 . refine dV rfl (ours _ _ _ Try.func69 rfl (by kernel_rfl)) fun xs hp w=>?_
   match xs,hp with
   | [a,b],hp=>exact Hq a b w hp.1 hp.2.1 hp.2.2
theorem IQ (k:Nat->Bool) (h:∀ f,f<=8∨f=36∨f=46->k f=false):∀ s∈FO,k s.id=false:=by
 intro s hs;apply h;simp only [FO,og,oV,rA,sJ,Ls,List.mem_append,List.mem_cons,List.not_mem_nil,or_false] at hs;rcases hs with (((h|h)|h)|h)|h
 . rcases h with rfl|rfl|rfl|rfl|rfl|rfl|rfl|rfl|rfl<;>decide
 . rcases h with rfl|rfl|rfl|rfl<;>decide
 . rcases h with rfl|rfl<;>decide
 . rcases h with rfl|rfl|rfl<;>decide
 . rcases h with rfl|rfl|rfl|rfl<;>decide
theorem C9 (args:List Int):∀ s∈FO,aL Try.prog (cxA args) s:=by
 intro s hs;rcases List.mem_append.1 hs with h|h
 . have q:kA s.id=false:=by
    simp only [og,oV,rA,sJ,List.mem_append,List.mem_cons,List.not_mem_nil,or_false] at h;rcases h with ((h|h)|h)|h
    . rcases h with rfl|rfl|rfl|rfl|rfl|rfl|rfl|rfl|rfl<;>rfl
    . rcases h with rfl|rfl|rfl|rfl<;>rfl
    . rcases h with rfl|rfl<;>rfl
    . rcases h with rfl|rfl|rfl<;>rfl
   refine mM q ?_;rcases List.mem_append.1 h with h|h
   . rcases List.mem_append.1 h with h|h
     . exact Gr args s h
     . exact FT args s h
   . exact G7 args s h
 . exact Ld args s h
