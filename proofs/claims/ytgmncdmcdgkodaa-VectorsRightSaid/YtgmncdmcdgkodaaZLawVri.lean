/- The law VectorsRight. -/
import Derived.Test.YtgmncdmcdgkodaaZVrQ
import Derived.Test.YtgmncdmcdgkodaaZAwV
import Derived.Test.YtgmncdmcdgkodaaZEv
set_option linter.unusedVariables false
set_option linter.unusedSimpArgs false
set_option maxRecDepth 100000
set_option maxHeartbeats 8000000
namespace Go.Proofs.Ytgmncdmcdgkodaa
open Go.RowKit Alm Sx
def vcr (a0 a1 a2 a3 a4 a5 a6 a7 a8 a9 a10 a11:Int):List Int:=[(crX ((a2,a3):IV) ((a4,a5):IV) ((a8,a9):IV) ((a10,a11):IV)).1,(crX ((a2,a3):IV) ((a4,a5):IV) ((a8,a9):IV) ((a10,a11):IV)).2,(crX ((a4,a5):IV) ((a0,a1):IV) ((a10,a11):IV) ((a6,a7):IV)).1,(crX ((a4,a5):IV) ((a0,a1):IV) ((a10,a11):IV) ((a6,a7):IV)).2,(crX ((a0,a1):IV) ((a2,a3):IV) ((a6,a7):IV) ((a8,a9):IV)).1,(crX ((a0,a1):IV) ((a2,a3):IV) ((a6,a7):IV) ((a8,a9):IV)).2,0]
def vdo (a0 a1 a2 a3 a4 a5 a6 a7 a8 a9 a10 a11:Int):List Int:=[(dtI ((a0,a1):IV) ((a2,a3):IV) ((a4,a5):IV) ((a6,a7):IV) ((a8,a9):IV) ((a10,a11):IV)).1,(dtI ((a0,a1):IV) ((a2,a3):IV) ((a4,a5):IV) ((a6,a7):IV) ((a8,a9):IV) ((a10,a11):IV)).2,0]
def vbe (a0 a1 a2 a3 a4 a5 a6 a7 a8 a9 a10 a11:Int):List Int:=[aU (uR (smI (crX ((a2,a3):IV) ((a4,a5):IV) ((a8,a9):IV) ((a10,a11):IV)) (crX ((a4,a5):IV) ((a0,a1):IV) ((a10,a11):IV) ((a6,a7):IV)) (crX ((a0,a1):IV) ((a2,a3):IV) ((a6,a7):IV) ((a8,a9):IV)))).1 (uR (smI (crX ((a2,a3):IV) ((a4,a5):IV) ((a8,a9):IV) ((a10,a11):IV)) (crX ((a4,a5):IV) ((a0,a1):IV) ((a10,a11):IV) ((a6,a7):IV)) (crX ((a0,a1):IV) ((a2,a3):IV) ((a6,a7):IV) ((a8,a9):IV)))).2 (dtI ((a0,a1):IV) ((a2,a3):IV) ((a4,a5):IV) ((a6,a7):IV) ((a8,a9):IV) ((a10,a11):IV)).1 (dtI ((a0,a1):IV) ((a2,a3):IV) ((a4,a5):IV) ((a6,a7):IV) ((a8,a9):IV) ((a10,a11):IV)).2,bg (uR (smI (crX ((a2,a3):IV) ((a4,a5):IV) ((a8,a9):IV) ((a10,a11):IV)) (crX ((a4,a5):IV) ((a0,a1):IV) ((a10,a11):IV) ((a6,a7):IV)) (crX ((a0,a1):IV) ((a2,a3):IV) ((a6,a7):IV) ((a8,a9):IV)))).1 (uR (smI (crX ((a2,a3):IV) ((a4,a5):IV) ((a8,a9):IV) ((a10,a11):IV)) (crX ((a4,a5):IV) ((a0,a1):IV) ((a10,a11):IV) ((a6,a7):IV)) (crX ((a0,a1):IV) ((a2,a3):IV) ((a6,a7):IV) ((a8,a9):IV)))).2 (dtI ((a0,a1):IV) ((a2,a3):IV) ((a4,a5):IV) ((a6,a7):IV) ((a8,a9):IV) ((a10,a11):IV)).1 (dtI ((a0,a1):IV) ((a2,a3):IV) ((a4,a5):IV) ((a6,a7):IV) ((a8,a9):IV) ((a10,a11):IV)).2,0]
def pU (a0 a1 a2 a3 a4 a5 a6 a7 a8 a9 a10 a11:Int):Prop:=U (a0,a1)/\U (a2,a3)/\U (a4,a5)/\U (a6,a7)/\U (a8,a9)/\U (a10,a11)
def pDo (a0 a1 a2 a3 a4 a5 a6 a7 a8 a9 a10 a11:Int):Prop:=(fxV a0 a1=true/\fxV a2 a3=true/\fxV a4 a5=true/\fxV a6 a7=true/\fxV a8 a9=true/\fxV a10 a11=true)/\er0 ((a0,a1):IV) ((a6,a7):IV)=0/\er0 ((a2,a3):IV) ((a8,a9):IV)=0/\er1 (uM ((a0,a1):IV) ((a6,a7):IV)) (uM ((a2,a3):IV) ((a8,a9):IV))=0/\er0 ((a4,a5):IV) ((a10,a11):IV)=0/\er1 (dt2 ((a0,a1):IV) ((a2,a3):IV) ((a6,a7):IV) ((a8,a9):IV)) (uM ((a4,a5):IV) ((a10,a11):IV))=0
def pBe (a0 a1 a2 a3 a4 a5 a6 a7 a8 a9 a10 a11:Int):Prop:=pU a0 a1 a2 a3 a4 a5 a6 a7 a8 a9 a10 a11/\(er3 (crX ((a2,a3):IV) ((a4,a5):IV) ((a8,a9):IV) ((a10,a11):IV))=0/\er3 (crX ((a4,a5):IV) ((a0,a1):IV) ((a10,a11):IV) ((a6,a7):IV))=0/\er1 (uQ (crX ((a2,a3):IV) ((a4,a5):IV) ((a8,a9):IV) ((a10,a11):IV))) (uQ (crX ((a4,a5):IV) ((a0,a1):IV) ((a10,a11):IV) ((a6,a7):IV)))=0/\er3 (crX ((a0,a1):IV) ((a2,a3):IV) ((a6,a7):IV) ((a8,a9):IV))=0/\er1 (sm2 (crX ((a2,a3):IV) ((a4,a5):IV) ((a8,a9):IV) ((a10,a11):IV)) (crX ((a4,a5):IV) ((a0,a1):IV) ((a10,a11):IV) ((a6,a7):IV))) (uQ (crX ((a0,a1):IV) ((a2,a3):IV) ((a6,a7):IV) ((a8,a9):IV)))=0/\er4 (smI (crX ((a2,a3):IV) ((a4,a5):IV) ((a8,a9):IV) ((a10,a11):IV)) (crX ((a4,a5):IV) ((a0,a1):IV) ((a10,a11):IV) ((a6,a7):IV)) (crX ((a0,a1):IV) ((a2,a3):IV) ((a6,a7):IV) ((a8,a9):IV)))=0/\er1 (dt2 ((a0,a1):IV) ((a2,a3):IV) ((a6,a7):IV) ((a8,a9):IV)) (uM ((a4,a5):IV) ((a10,a11):IV))=0)/\bN (uR (smI (crX ((a2,a3):IV) ((a4,a5):IV) ((a8,a9):IV) ((a10,a11):IV)) (crX ((a4,a5):IV) ((a0,a1):IV) ((a10,a11):IV) ((a6,a7):IV)) (crX ((a0,a1):IV) ((a2,a3):IV) ((a6,a7):IV) ((a8,a9):IV)))).1 (uR (smI (crX ((a2,a3):IV) ((a4,a5):IV) ((a8,a9):IV) ((a10,a11):IV)) (crX ((a4,a5):IV) ((a0,a1):IV) ((a10,a11):IV) ((a6,a7):IV)) (crX ((a0,a1):IV) ((a2,a3):IV) ((a6,a7):IV) ((a8,a9):IV)))).2 (dtI ((a0,a1):IV) ((a2,a3):IV) ((a4,a5):IV) ((a6,a7):IV) ((a8,a9):IV) ((a10,a11):IV)).1 (dtI ((a0,a1):IV) ((a2,a3):IV) ((a4,a5):IV) ((a6,a7):IV) ((a8,a9):IV) ((a10,a11):IV)).2=false
def kVc (f:Nat):Bool:=f==101 || (f==102 || (f==103 || f==104))
def Nh:Nat->List Int->List Int
 | 101,[a,b,c,d]=>[(uM (uC a b) (uC c d)).1,(uM (uC a b) (uC c d)).2,(uM (uC a b) (uS c d)).1,(uM (uC a b) (uS c d)).2,(uS a b).1,(uS a b).2,0]
 | 102,[a0,a1,a2,a3,a4,a5,a6,a7,a8,a9,a10,a11]=>vcr a0 a1 a2 a3 a4 a5 a6 a7 a8 a9 a10 a11
 | 103,[a0,a1,a2,a3,a4,a5,a6,a7,a8,a9,a10,a11]=>vdo a0 a1 a2 a3 a4 a5 a6 a7 a8 a9 a10 a11
 | 104,[a0,a1,a2,a3,a4,a5,a6,a7,a8,a9,a10,a11]=>vbe a0 a1 a2 a3 a4 a5 a6 a7 a8 a9 a10 a11
 | _,_=>[]
def Ov:Nat->List Int->Prop
 | 101,[a,b,c,d]=>dA a b=true/\dA c d=true
 | 102,[a0,a1,a2,a3,a4,a5,a6,a7,a8,a9,a10,a11]=>pU a0 a1 a2 a3 a4 a5 a6 a7 a8 a9 a10 a11
 | 103,[a0,a1,a2,a3,a4,a5,a6,a7,a8,a9,a10,a11]=>pDo a0 a1 a2 a3 a4 a5 a6 a7 a8 a9 a10 a11
 | 104,[a0,a1,a2,a3,a4,a5,a6,a7,a8,a9,a10,a11]=>pBe a0 a1 a2 a3 a4 a5 a6 a7 a8 a9 a10 a11
 | _,_=>False
def aI (args:List Int):Cx:=(cxB args).plus kVc Nh Ov
theorem La (args:List Int):pO (aI args):=BA (EY args) fun f h=>by
 unfold kVc;rcases h with h|rfl
 . simp;omega
 . rfl
def Mo:Sx.Spec:=⟨29,101,[(true,[some .i64,some .i64]),(true,[some .i64,some .i64])],[(true,[some .i64,some .i64,some .i64,some .i64,some .i64,some .i64]),(false,[some .i64])]⟩
def MS:Sx.Spec:=⟨43,102,[(true,[some .i64,some .i64,some .i64,some .i64,some .i64,some .i64]),(true,[some .i64,some .i64,some .i64,some .i64,some .i64,some .i64])],[(true,[some .i64,some .i64,some .i64,some .i64,some .i64,some .i64]),(false,[some .i64])]⟩
def PG:Sx.Spec:=⟨45,103,[(true,[some .i64,some .i64,some .i64,some .i64,some .i64,some .i64]),(true,[some .i64,some .i64,some .i64,some .i64,some .i64,some .i64])],[(true,[some .i64,some .i64]),(false,[some .i64])]⟩
def OY:Sx.Spec:=⟨46,104,[(true,[some .i64,some .i64,some .i64,some .i64,some .i64,some .i64]),(true,[some .i64,some .i64,some .i64,some .i64,some .i64,some .i64])],[(true,[some .i64,some .i64]),(false,[some .i64])]⟩
theorem Gv (args:List Int):aY Try.prog (aI args) Mo:=by
 refine kP rfl (ours _ _ _ Try.func29 rfl (by kernel_rfl)) fun xs hp w=>?_
 match xs,hp with
 | [a,b,c,d],hp=>exact Mc a b c d w hp.1 hp.2
theorem Gr (args:List Int):aY Try.prog (aI args) MS:=by
 refine kP rfl (ours _ _ _ Try.func43 rfl (by kernel_rfl)) fun xs hp w=>?_
 match xs,hp with
 | [a0,a1,a2,a3,a4,a5,a6,a7,a8,a9,a10,a11],hp=>exact Mq a0 a1 a2 a3 a4 a5 a6 a7 a8 a9 a10 a11 w hp.1 hp.2.1 hp.2.2.1 hp.2.2.2.1 hp.2.2.2.2.1 hp.2.2.2.2.2
theorem GL (args:List Int):aY Try.prog (aI args) PG:=by
 refine kP rfl (ours _ _ _ Try.func45 rfl (by kernel_rfl)) fun xs hp w=>?_
 match xs,hp with
 | [a0,a1,a2,a3,a4,a5,a6,a7,a8,a9,a10,a11],hp=>exact Oj a0 a1 a2 a3 a4 a5 a6 a7 a8 a9 a10 a11 w hp.1.1 hp.1.2.1 hp.1.2.2.1 hp.1.2.2.2.1 hp.1.2.2.2.2.1 hp.1.2.2.2.2.2 hp.2.1 hp.2.2.1 hp.2.2.2.1 hp.2.2.2.2.1 hp.2.2.2.2.2
theorem Gu (args:List Int):aY Try.prog (aI args) OY:=by
 refine kP rfl (ours _ _ _ Try.func46 rfl (by kernel_rfl)) fun xs hp w=>?_
 match xs,hp with
 | [a0,a1,a2,a3,a4,a5,a6,a7,a8,a9,a10,a11],hp=>exact MV a0 a1 a2 a3 a4 a5 a6 a7 a8 a9 a10 a11 w hp.1.1 hp.1.2.1 hp.1.2.2.1 hp.1.2.2.2.1 hp.1.2.2.2.2.1 hp.1.2.2.2.2.2 hp.2.1.1 hp.2.1.2.1 hp.2.1.2.2.1 hp.2.1.2.2.2.1 hp.2.1.2.2.2.2.1 hp.2.1.2.2.2.2.2.1 hp.2.1.2.2.2.2.2.2 hp.2.2
def Iq:List Sx.Spec:=[LX,Mo,MS,PG,OY]
theorem FZ (args:List Int):∀ s∈Iq,aY Try.prog (aI args) s:=by
 intro s hs;simp only [Iq,List.mem_cons,List.not_mem_nil,or_false] at hs;rcases hs with rfl|rfl|rfl|rfl|rfl
 . exact ER rfl (Gb args)
 . exact Gv args
 . exact Gr args
 . exact GL args
 . exact Gu args
def G8 (t:Tab):Nd->Option Rf
 | .app 20 0 []=>some (.c 1)
 | x=>CX t x
theorem lQ (args:List Int):kH (aI args) G8:=by
 intro v t x r ht h;unfold G8 at h;split at h
 . cases h;rfl
 . exact za (La args) v t x r ht h
theorem zC (x:Int):-21600000<Int.tmod x 21600000/\Int.tmod x 21600000<21600000:=by
 have b1:=Int.tmod_lt_of_pos x (show (0:Int)<21600000 by omega)
 have b2:=Int.tmod_lt_of_pos (-x) (show (0:Int)<21600000 by omega)
 rw [Int.neg_tmod] at b2;omega
theorem Aw {p:IV} (h:U p):fxV p.1 p.2=true:=ma h
def ai:List Nd:=[
 .arg 0,
 .arg 1,
 .arg 2,
 .arg 3,
 .app 20 0 [],
 .ite (.n 4) (.c 0) (.c 1),
 .ite (.n 5) (.c 0) (.c 1),
 .wrap .i64 (.n 0),
 .bin .rem .i64 (.n 7) (.c 21600000),
 .wrap .i64 (.n 1),
 .bin .rem .i64 (.n 9) (.c 21600000),
 .app 101 0 [.n 8,.n 8,.n 10,.n 10],
 .app 101 1 [.n 8,.n 8,.n 10,.n 10],
 .app 101 2 [.n 8,.n 8,.n 10,.n 10],
 .app 101 3 [.n 8,.n 8,.n 10,.n 10],
 .app 101 4 [.n 8,.n 8,.n 10,.n 10],
 .app 101 5 [.n 8,.n 8,.n 10,.n 10],
 .app 101 6 [.n 8,.n 8,.n 10,.n 10],
 .bin .eql .i64 (.n 17) (.c 0),
 .wrap .i64 (.n 2),
 .bin .rem .i64 (.n 19) (.c 21600000),
 .wrap .i64 (.n 3),
 .bin .rem .i64 (.n 21) (.c 21600000),
 .app 101 0 [.n 20,.n 20,.n 22,.n 22],
 .app 101 1 [.n 20,.n 20,.n 22,.n 22],
 .app 101 2 [.n 20,.n 20,.n 22,.n 22],
 .app 101 3 [.n 20,.n 20,.n 22,.n 22],
 .app 101 4 [.n 20,.n 20,.n 22,.n 22],
 .app 101 5 [.n 20,.n 20,.n 22,.n 22],
 .app 101 6 [.n 20,.n 20,.n 22,.n 22],
 .bin .eql .i64 (.n 29) (.c 0),
 .ite (.n 18) (.c 0) (.c 1),
 .ite (.n 30) (.c 0) (.c 1),
 .ite (.n 31) (.c 1) (.n 32),
 .ite (.n 33) (.c 0) (.c 1),
 .app 102 0 [.n 11,.n 12,.n 13,.n 14,.n 15,.n 16,.n 23,.n 24,.n 25,.n 26,.n 27,.n 28],
 .app 102 1 [.n 11,.n 12,.n 13,.n 14,.n 15,.n 16,.n 23,.n 24,.n 25,.n 26,.n 27,.n 28],
 .app 102 2 [.n 11,.n 12,.n 13,.n 14,.n 15,.n 16,.n 23,.n 24,.n 25,.n 26,.n 27,.n 28],
 .app 102 3 [.n 11,.n 12,.n 13,.n 14,.n 15,.n 16,.n 23,.n 24,.n 25,.n 26,.n 27,.n 28],
 .app 102 4 [.n 11,.n 12,.n 13,.n 14,.n 15,.n 16,.n 23,.n 24,.n 25,.n 26,.n 27,.n 28],
 .app 102 5 [.n 11,.n 12,.n 13,.n 14,.n 15,.n 16,.n 23,.n 24,.n 25,.n 26,.n 27,.n 28],
 .app 102 6 [.n 11,.n 12,.n 13,.n 14,.n 15,.n 16,.n 23,.n 24,.n 25,.n 26,.n 27,.n 28],
 .app 102 0 [.n 23,.n 24,.n 25,.n 26,.n 27,.n 28,.n 11,.n 12,.n 13,.n 14,.n 15,.n 16],
 .app 102 1 [.n 23,.n 24,.n 25,.n 26,.n 27,.n 28,.n 11,.n 12,.n 13,.n 14,.n 15,.n 16],
 .app 102 2 [.n 23,.n 24,.n 25,.n 26,.n 27,.n 28,.n 11,.n 12,.n 13,.n 14,.n 15,.n 16],
 .app 102 3 [.n 23,.n 24,.n 25,.n 26,.n 27,.n 28,.n 11,.n 12,.n 13,.n 14,.n 15,.n 16],
 .app 102 4 [.n 23,.n 24,.n 25,.n 26,.n 27,.n 28,.n 11,.n 12,.n 13,.n 14,.n 15,.n 16],
 .app 102 5 [.n 23,.n 24,.n 25,.n 26,.n 27,.n 28,.n 11,.n 12,.n 13,.n 14,.n 15,.n 16],
 .app 102 6 [.n 23,.n 24,.n 25,.n 26,.n 27,.n 28,.n 11,.n 12,.n 13,.n 14,.n 15,.n 16],
 .bin .neq .i64 (.n 41) (.c 0),
 .bin .neq .i64 (.n 48) (.c 0),
 .ite (.n 49) (.c 1) (.n 50),
 .ite (.n 51) (.c 0) (.c 1),
 .bin .geq .i64 (.n 42) (.c (-2147483648)),
 .bin .leq .i64 (.n 42) (.n 43),
 .ite (.n 53) (.n 54) (.c 0),
 .bin .leq .i64 (.n 43) (.c 2147483648),
 .ite (.n 55) (.n 56) (.c 0),
 .ite (.n 57) (.c 0) (.c 1),
 .bin .sub .i64 (.c 0) (.n 43),
 .bin .sub .i64 (.c 0) (.n 42),
 .ite (.n 58) (.c 0) (.n 59),
 .ite (.n 58) (.c 0) (.n 60),
 .bin .geq .i64 (.n 44) (.c (-2147483648)),
 .bin .leq .i64 (.n 44) (.n 45),
 .ite (.n 63) (.n 64) (.c 0),
 .bin .leq .i64 (.n 45) (.c 2147483648),
 .ite (.n 65) (.n 66) (.c 0),
 .ite (.n 67) (.c 0) (.c 1),
 .bin .sub .i64 (.c 0) (.n 45),
 .bin .sub .i64 (.c 0) (.n 44),
 .ite (.n 68) (.c 0) (.n 69),
 .ite (.n 68) (.c 0) (.n 70),
 .bin .geq .i64 (.n 46) (.c (-2147483648)),
 .bin .leq .i64 (.n 46) (.n 47),
 .ite (.n 73) (.n 74) (.c 0),
 .bin .leq .i64 (.n 47) (.c 2147483648),
 .ite (.n 75) (.n 76) (.c 0),
 .ite (.n 77) (.c 0) (.c 1),
 .bin .sub .i64 (.c 0) (.n 47),
 .bin .sub .i64 (.c 0) (.n 46),
 .ite (.n 78) (.c 0) (.n 79),
 .ite (.n 78) (.c 0) (.n 80),
 .bin .eql .i64 (.n 35) (.n 61),
 .bin .eql .i64 (.n 36) (.n 62),
 .bin .eql .i64 (.n 37) (.n 71),
 .bin .eql .i64 (.n 38) (.n 72),
 .bin .eql .i64 (.n 39) (.n 81),
 .bin .eql .i64 (.n 40) (.n 82),
 .ite (.n 87) (.n 88) (.c 0),
 .ite (.n 86) (.n 89) (.c 0),
 .ite (.n 85) (.n 90) (.c 0),
 .ite (.n 84) (.n 91) (.c 0),
 .ite (.n 83) (.n 92) (.c 0),
 .ite (.n 93) (.c 0) (.c 1),
 .app 103 0 [.n 35,.n 36,.n 37,.n 38,.n 39,.n 40,.n 11,.n 12,.n 13,.n 14,.n 15,.n 16],
 .app 103 1 [.n 35,.n 36,.n 37,.n 38,.n 39,.n 40,.n 11,.n 12,.n 13,.n 14,.n 15,.n 16],
 .app 103 2 [.n 35,.n 36,.n 37,.n 38,.n 39,.n 40,.n 11,.n 12,.n 13,.n 14,.n 15,.n 16],
 .app 103 0 [.n 35,.n 36,.n 37,.n 38,.n 39,.n 40,.n 23,.n 24,.n 25,.n 26,.n 27,.n 28],
 .app 103 1 [.n 35,.n 36,.n 37,.n 38,.n 39,.n 40,.n 23,.n 24,.n 25,.n 26,.n 27,.n 28],
 .app 103 2 [.n 35,.n 36,.n 37,.n 38,.n 39,.n 40,.n 23,.n 24,.n 25,.n 26,.n 27,.n 28],
 .bin .neq .i64 (.n 97) (.c 0),
 .bin .neq .i64 (.n 100) (.c 0),
 .ite (.n 101) (.c 1) (.n 102),
 .bin .gtr .i64 (.n 95) (.c 0),
 .ite (.n 103) (.c 1) (.n 104),
 .bin .lss .i64 (.n 96) (.c 0),
 .ite (.n 105) (.c 1) (.n 106),
 .bin .gtr .i64 (.n 98) (.c 0),
 .ite (.n 107) (.c 1) (.n 108),
 .bin .lss .i64 (.n 99) (.c 0),
 .ite (.n 109) (.c 1) (.n 110),
 .ite (.n 111) (.c 0) (.c 1),
 .app 104 0 [.n 11,.n 12,.n 13,.n 14,.n 15,.n 16,.n 11,.n 12,.n 13,.n 14,.n 15,.n 16],
 .app 104 1 [.n 11,.n 12,.n 13,.n 14,.n 15,.n 16,.n 11,.n 12,.n 13,.n 14,.n 15,.n 16],
 .app 104 2 [.n 11,.n 12,.n 13,.n 14,.n 15,.n 16,.n 11,.n 12,.n 13,.n 14,.n 15,.n 16],
 .app 104 0 [.n 11,.n 12,.n 13,.n 14,.n 15,.n 16,.n 23,.n 24,.n 25,.n 26,.n 27,.n 28],
 .app 104 1 [.n 11,.n 12,.n 13,.n 14,.n 15,.n 16,.n 23,.n 24,.n 25,.n 26,.n 27,.n 28],
 .app 104 2 [.n 11,.n 12,.n 13,.n 14,.n 15,.n 16,.n 23,.n 24,.n 25,.n 26,.n 27,.n 28],
 .app 104 0 [.n 23,.n 24,.n 25,.n 26,.n 27,.n 28,.n 11,.n 12,.n 13,.n 14,.n 15,.n 16],
 .app 104 1 [.n 23,.n 24,.n 25,.n 26,.n 27,.n 28,.n 11,.n 12,.n 13,.n 14,.n 15,.n 16],
 .app 104 2 [.n 23,.n 24,.n 25,.n 26,.n 27,.n 28,.n 11,.n 12,.n 13,.n 14,.n 15,.n 16],
 .bin .eql .i64 (.n 115) (.c 0),
 .bin .eql .i64 (.n 113) (.c 0),
 .ite (.n 122) (.n 123) (.c 0),
 .bin .lss .i64 (.n 114) (.c 400),
 .ite (.n 124) (.n 125) (.c 0),
 .bin .eql .i64 (.n 118) (.c 0),
 .ite (.n 126) (.n 127) (.c 0),
 .bin .eql .i64 (.n 121) (.c 0),
 .ite (.n 128) (.n 129) (.c 0),
 .bin .eql .i64 (.n 116) (.n 119),
 .bin .eql .i64 (.n 117) (.n 120),
 .ite (.n 131) (.n 132) (.c 0),
 .ite (.n 130) (.n 133) (.c 0),
 .bin .geq .i64 (.n 116) (.c 0),
 .ite (.n 134) (.n 135) (.c 0),
 .bin .leq .i64 (.n 117) (.c 10800000),
 .ite (.n 136) (.n 137) (.c 0),
 .ite (.n 111) (.c 0) (.n 138),
 .ite (.n 94) (.c 0) (.n 139),
 .ite (.n 94) (.n 41) (.n 97),
 .ite (.n 94) (.n 48) (.n 100),
 .ite (.n 51) (.c 0) (.n 140),
 .ite (.n 51) (.n 41) (.n 141),
 .ite (.n 51) (.n 48) (.n 142),
 .ite (.n 33) (.c 0) (.n 143),
 .ite (.n 5) (.c 0) (.n 146)]
def E8:List Vc:=[
 ⟨[],.pre 20 []⟩,
 ⟨[(.n 6,true)],.pre 101 [.n 8,.n 8,.n 10,.n 10]⟩,
 ⟨[(.n 6,true)],.pre 101 [.n 20,.n 20,.n 22,.n 22]⟩,
 ⟨[(.n 34,true),(.n 6,true)],.pre 102 [.n 11,.n 12,.n 13,.n 14,.n 15,.n 16,.n 23,.n 24,.n 25,.n 26,.n 27,.n 28]⟩,
 ⟨[(.n 34,true),(.n 6,true)],.pre 102 [.n 23,.n 24,.n 25,.n 26,.n 27,.n 28,.n 11,.n 12,.n 13,.n 14,.n 15,.n 16]⟩,
 ⟨[(.n 93,true),(.n 52,true),(.n 34,true),(.n 6,true)],.pre 103 [.n 35,.n 36,.n 37,.n 38,.n 39,.n 40,.n 11,.n 12,.n 13,.n 14,.n 15,.n 16]⟩,
 ⟨[(.n 93,true),(.n 52,true),(.n 34,true),(.n 6,true)],.pre 103 [.n 35,.n 36,.n 37,.n 38,.n 39,.n 40,.n 23,.n 24,.n 25,.n 26,.n 27,.n 28]⟩,
 ⟨[(.n 112,true),(.n 93,true),(.n 52,true),(.n 34,true),(.n 6,true)],.pre 104 [.n 11,.n 12,.n 13,.n 14,.n 15,.n 16,.n 11,.n 12,.n 13,.n 14,.n 15,.n 16]⟩,
 ⟨[(.n 112,true),(.n 93,true),(.n 52,true),(.n 34,true),(.n 6,true)],.pre 104 [.n 11,.n 12,.n 13,.n 14,.n 15,.n 16,.n 23,.n 24,.n 25,.n 26,.n 27,.n 28]⟩,
 ⟨[(.n 112,true),(.n 93,true),(.n 52,true),(.n 34,true),(.n 6,true)],.pre 104 [.n 23,.n 24,.n 25,.n 26,.n 27,.n 28,.n 11,.n 12,.n 13,.n 14,.n 15,.n 16]⟩]
theorem Kt:whole Try.prog Iq 20 40 8 [(false,[some .i32]),(false,[some .i32]),(false,[some .i32]),(false,[some .i32])]=some (.p (.c (.bool (.n 147))),⟨ai.reverse,E8.reverse⟩):=by kernel_rfl
theorem Lg:wfN ai.reverse=true:=by kernel_rfl
theorem vl7 (x0 x1 x2 x3 x4 x5 x6:Int):[x0,x1,x2,x3,x4,x5,x6].getD 0 0=x0/\[x0,x1,x2,x3,x4,x5,x6].getD 1 0=x1/\[x0,x1,x2,x3,x4,x5,x6].getD 2 0=x2/\[x0,x1,x2,x3,x4,x5,x6].getD 3 0=x3/\[x0,x1,x2,x3,x4,x5,x6].getD 4 0=x4/\[x0,x1,x2,x3,x4,x5,x6].getD 5 0=x5/\[x0,x1,x2,x3,x4,x5,x6].getD 6 0=x6:=⟨rfl,rfl,rfl,rfl,rfl,rfl,rfl⟩
theorem Nv {ar:List Int} {v:Nat->Int} (hs:aC (aI ar) v ai.reverse):v 11=(uM (uC (v 8) (v 8)) (uC (v 10) (v 10))).1:=(show v 11=[(uM (uC (v 8) (v 8)) (uC (v 10) (v 10))).1,(uM (uC (v 8) (v 8)) (uC (v 10) (v 10))).2,(uM (uC (v 8) (v 8)) (uS (v 10) (v 10))).1,(uM (uC (v 8) (v 8)) (uS (v 10) (v 10))).2,(uS (v 8) (v 8)).1,(uS (v 8) (v 8)).2,0].getD 0 0 from ah hs 11 rfl).trans (vl7 _ _ _ _ _ _ _).1
theorem Oq {ar:List Int} {v:Nat->Int} (hs:aC (aI ar) v ai.reverse):v 12=(uM (uC (v 8) (v 8)) (uC (v 10) (v 10))).2:=(show v 12=[(uM (uC (v 8) (v 8)) (uC (v 10) (v 10))).1,(uM (uC (v 8) (v 8)) (uC (v 10) (v 10))).2,(uM (uC (v 8) (v 8)) (uS (v 10) (v 10))).1,(uM (uC (v 8) (v 8)) (uS (v 10) (v 10))).2,(uS (v 8) (v 8)).1,(uS (v 8) (v 8)).2,0].getD 1 0 from ah hs 12 rfl).trans (vl7 _ _ _ _ _ _ _).2.1
theorem Ny {ar:List Int} {v:Nat->Int} (hs:aC (aI ar) v ai.reverse):v 13=(uM (uC (v 8) (v 8)) (uS (v 10) (v 10))).1:=(show v 13=[(uM (uC (v 8) (v 8)) (uC (v 10) (v 10))).1,(uM (uC (v 8) (v 8)) (uC (v 10) (v 10))).2,(uM (uC (v 8) (v 8)) (uS (v 10) (v 10))).1,(uM (uC (v 8) (v 8)) (uS (v 10) (v 10))).2,(uS (v 8) (v 8)).1,(uS (v 8) (v 8)).2,0].getD 2 0 from ah hs 13 rfl).trans (vl7 _ _ _ _ _ _ _).2.2.1
theorem OL {ar:List Int} {v:Nat->Int} (hs:aC (aI ar) v ai.reverse):v 14=(uM (uC (v 8) (v 8)) (uS (v 10) (v 10))).2:=(show v 14=[(uM (uC (v 8) (v 8)) (uC (v 10) (v 10))).1,(uM (uC (v 8) (v 8)) (uC (v 10) (v 10))).2,(uM (uC (v 8) (v 8)) (uS (v 10) (v 10))).1,(uM (uC (v 8) (v 8)) (uS (v 10) (v 10))).2,(uS (v 8) (v 8)).1,(uS (v 8) (v 8)).2,0].getD 3 0 from ah hs 14 rfl).trans (vl7 _ _ _ _ _ _ _).2.2.2.1
theorem Pw {ar:List Int} {v:Nat->Int} (hs:aC (aI ar) v ai.reverse):v 15=(uS (v 8) (v 8)).1:=(show v 15=[(uM (uC (v 8) (v 8)) (uC (v 10) (v 10))).1,(uM (uC (v 8) (v 8)) (uC (v 10) (v 10))).2,(uM (uC (v 8) (v 8)) (uS (v 10) (v 10))).1,(uM (uC (v 8) (v 8)) (uS (v 10) (v 10))).2,(uS (v 8) (v 8)).1,(uS (v 8) (v 8)).2,0].getD 4 0 from ah hs 15 rfl).trans (vl7 _ _ _ _ _ _ _).2.2.2.2.1
theorem Nj {ar:List Int} {v:Nat->Int} (hs:aC (aI ar) v ai.reverse):v 16=(uS (v 8) (v 8)).2:=(show v 16=[(uM (uC (v 8) (v 8)) (uC (v 10) (v 10))).1,(uM (uC (v 8) (v 8)) (uC (v 10) (v 10))).2,(uM (uC (v 8) (v 8)) (uS (v 10) (v 10))).1,(uM (uC (v 8) (v 8)) (uS (v 10) (v 10))).2,(uS (v 8) (v 8)).1,(uS (v 8) (v 8)).2,0].getD 5 0 from ah hs 16 rfl).trans (vl7 _ _ _ _ _ _ _).2.2.2.2.2.1
theorem NE {ar:List Int} {v:Nat->Int} (hs:aC (aI ar) v ai.reverse):v 23=(uM (uC (v 20) (v 20)) (uC (v 22) (v 22))).1:=(show v 23=[(uM (uC (v 20) (v 20)) (uC (v 22) (v 22))).1,(uM (uC (v 20) (v 20)) (uC (v 22) (v 22))).2,(uM (uC (v 20) (v 20)) (uS (v 22) (v 22))).1,(uM (uC (v 20) (v 20)) (uS (v 22) (v 22))).2,(uS (v 20) (v 20)).1,(uS (v 20) (v 20)).2,0].getD 0 0 from ah hs 23 rfl).trans (vl7 _ _ _ _ _ _ _).1
theorem Ol {ar:List Int} {v:Nat->Int} (hs:aC (aI ar) v ai.reverse):v 24=(uM (uC (v 20) (v 20)) (uC (v 22) (v 22))).2:=(show v 24=[(uM (uC (v 20) (v 20)) (uC (v 22) (v 22))).1,(uM (uC (v 20) (v 20)) (uC (v 22) (v 22))).2,(uM (uC (v 20) (v 20)) (uS (v 22) (v 22))).1,(uM (uC (v 20) (v 20)) (uS (v 22) (v 22))).2,(uS (v 20) (v 20)).1,(uS (v 20) (v 20)).2,0].getD 1 0 from ah hs 24 rfl).trans (vl7 _ _ _ _ _ _ _).2.1
theorem Py {ar:List Int} {v:Nat->Int} (hs:aC (aI ar) v ai.reverse):v 25=(uM (uC (v 20) (v 20)) (uS (v 22) (v 22))).1:=(show v 25=[(uM (uC (v 20) (v 20)) (uC (v 22) (v 22))).1,(uM (uC (v 20) (v 20)) (uC (v 22) (v 22))).2,(uM (uC (v 20) (v 20)) (uS (v 22) (v 22))).1,(uM (uC (v 20) (v 20)) (uS (v 22) (v 22))).2,(uS (v 20) (v 20)).1,(uS (v 20) (v 20)).2,0].getD 2 0 from ah hs 25 rfl).trans (vl7 _ _ _ _ _ _ _).2.2.1
theorem NP {ar:List Int} {v:Nat->Int} (hs:aC (aI ar) v ai.reverse):v 26=(uM (uC (v 20) (v 20)) (uS (v 22) (v 22))).2:=(show v 26=[(uM (uC (v 20) (v 20)) (uC (v 22) (v 22))).1,(uM (uC (v 20) (v 20)) (uC (v 22) (v 22))).2,(uM (uC (v 20) (v 20)) (uS (v 22) (v 22))).1,(uM (uC (v 20) (v 20)) (uS (v 22) (v 22))).2,(uS (v 20) (v 20)).1,(uS (v 20) (v 20)).2,0].getD 3 0 from ah hs 26 rfl).trans (vl7 _ _ _ _ _ _ _).2.2.2.1
theorem LY {ar:List Int} {v:Nat->Int} (hs:aC (aI ar) v ai.reverse):v 27=(uS (v 20) (v 20)).1:=(show v 27=[(uM (uC (v 20) (v 20)) (uC (v 22) (v 22))).1,(uM (uC (v 20) (v 20)) (uC (v 22) (v 22))).2,(uM (uC (v 20) (v 20)) (uS (v 22) (v 22))).1,(uM (uC (v 20) (v 20)) (uS (v 22) (v 22))).2,(uS (v 20) (v 20)).1,(uS (v 20) (v 20)).2,0].getD 4 0 from ah hs 27 rfl).trans (vl7 _ _ _ _ _ _ _).2.2.2.2.1
theorem Nb {ar:List Int} {v:Nat->Int} (hs:aC (aI ar) v ai.reverse):v 28=(uS (v 20) (v 20)).2:=(show v 28=[(uM (uC (v 20) (v 20)) (uC (v 22) (v 22))).1,(uM (uC (v 20) (v 20)) (uC (v 22) (v 22))).2,(uM (uC (v 20) (v 20)) (uS (v 22) (v 22))).1,(uM (uC (v 20) (v 20)) (uS (v 22) (v 22))).2,(uS (v 20) (v 20)).1,(uS (v 20) (v 20)).2,0].getD 5 0 from ah hs 28 rfl).trans (vl7 _ _ _ _ _ _ _).2.2.2.2.2.1
theorem Nc {ar:List Int} {v:Nat->Int} (hs:aC (aI ar) v ai.reverse) (k53:v 53=1) (k54:v 54=1) (k56:v 56=1):v 58=0:=by
 refine dI (X:=aI ar) (v:=v) (l:=ai) (lQ _) hs (k:=58) (r:=.c 0) (ps:=[(53,.c 1),(54,.c 1),(56,.c 1)]) (nz:=[]) ?_ ek (by kernel_rfl)
 intro y hy;simp only [List.mem_cons,List.not_mem_nil,or_false] at hy;rcases hy with rfl|rfl|rfl<;>assumption
theorem Nf {ar:List Int} {v:Nat->Int} (hs:aC (aI ar) v ai.reverse) (k63:v 63=1) (k64:v 64=1) (k66:v 66=1):v 68=0:=by
 refine dI (X:=aI ar) (v:=v) (l:=ai) (lQ _) hs (k:=68) (r:=.c 0) (ps:=[(63,.c 1),(64,.c 1),(66,.c 1)]) (nz:=[]) ?_ ek (by kernel_rfl)
 intro y hy;simp only [List.mem_cons,List.not_mem_nil,or_false] at hy;rcases hy with rfl|rfl|rfl<;>assumption
theorem Oa {ar:List Int} {v:Nat->Int} (hs:aC (aI ar) v ai.reverse) (k73:v 73=1) (k74:v 74=1) (k76:v 76=1):v 78=0:=by
 refine dI (X:=aI ar) (v:=v) (l:=ai) (lQ _) hs (k:=78) (r:=.c 0) (ps:=[(73,.c 1),(74,.c 1),(76,.c 1)]) (nz:=[]) ?_ ek (by kernel_rfl)
 intro y hy;simp only [List.mem_cons,List.not_mem_nil,or_false] at hy;rcases hy with rfl|rfl|rfl<;>assumption
theorem Jj {ar:List Int} {v:Nat->Int} (hs:aC (aI ar) v ai.reverse) (k17:v 17=0) (k29:v 29=0) (k41:v 41=0) (k48:v 48=0) (k53:v 53=1) (k54:v 54=1) (k56:v 56=1) (k63:v 63=1) (k64:v 64=1) (k66:v 66=1) (k73:v 73=1) (k74:v 74=1) (k76:v 76=1) (k83:v 83=1) (k84:v 84=1) (k85:v 85=1) (k86:v 86=1) (k87:v 87=1) (k88:v 88=1) (k97:v 97=0) (k100:v 100=0) (k104:v 104=0) (k106:v 106=0) (k108:v 108=0) (k110:v 110=0) (k115:v 115=0) (k118:v 118=0) (k121:v 121=0) (k123:v 123=1) (k125:v 125=1) (k131:v 131=1) (k132:v 132=1) (k135:v 135=1) (k137:v 137=1):v 147=1:=by
 refine dI (X:=aI ar) (v:=v) (l:=ai) (lQ _) hs (k:=147) (r:=.c 1) (ps:=[(17,.c 0),(29,.c 0),(41,.c 0),(48,.c 0),(53,.c 1),(54,.c 1),(56,.c 1),(63,.c 1),(64,.c 1),(66,.c 1),(73,.c 1),(74,.c 1),(76,.c 1),(83,.c 1),(84,.c 1),(85,.c 1),(86,.c 1),(87,.c 1),(88,.c 1),(97,.c 0),(100,.c 0),(104,.c 0),(106,.c 0),(108,.c 0),(110,.c 0),(115,.c 0),(118,.c 0),(121,.c 0),(123,.c 1),(125,.c 1),(131,.c 1),(132,.c 1),(135,.c 1),(137,.c 1)]) (nz:=[]) ?_ ek (by kernel_rfl)
 intro y hy;simp only [List.mem_cons,List.not_mem_nil,or_false] at hy;rcases hy with rfl|rfl|rfl|rfl|rfl|rfl|rfl|rfl|rfl|rfl|rfl|rfl|rfl|rfl|rfl|rfl|rfl|rfl|rfl|rfl|rfl|rfl|rfl|rfl|rfl|rfl|rfl|rfl|rfl|rfl|rfl|rfl|rfl|rfl<;>assumption
theorem Qc {ar:List Int} {v:Nat->Int} (hs:aC (aI ar) v ai.reverse):v 8=Int.tmod (v 7) 21600000:=ah hs 8 rfl
theorem ME {ar:List Int} {v:Nat->Int} (hs:aC (aI ar) v ai.reverse):v 10=Int.tmod (v 9) 21600000:=ah hs 10 rfl
theorem OW {ar:List Int} {v:Nat->Int} (hs:aC (aI ar) v ai.reverse):v 20=Int.tmod (v 19) 21600000:=ah hs 20 rfl
theorem PX {ar:List Int} {v:Nat->Int} (hs:aC (aI ar) v ai.reverse):v 22=Int.tmod (v 21) 21600000:=ah hs 22 rfl
theorem NB {ar:List Int} {v:Nat->Int} (hs:aC (aI ar) v ai.reverse):v 17=0:=ah hs 17 rfl
theorem PY {ar:List Int} {v:Nat->Int} (hs:aC (aI ar) v ai.reverse):v 29=0:=ah hs 29 rfl
theorem NH {ar:List Int} {v:Nat->Int} (hs:aC (aI ar) v ai.reverse):v 41=0:=ah hs 41 rfl
theorem LA {ar:List Int} {v:Nat->Int} (hs:aC (aI ar) v ai.reverse):v 48=0:=ah hs 48 rfl
theorem PI {ar:List Int} {v:Nat->Int} (hs:aC (aI ar) v ai.reverse):v 97=0:=ah hs 97 rfl
theorem Kw {ar:List Int} {v:Nat->Int} (hs:aC (aI ar) v ai.reverse):v 100=0:=ah hs 100 rfl
theorem JJ {ar:List Int} {v:Nat->Int} (hs:aC (aI ar) v ai.reverse):v 115=0:=ah hs 115 rfl
theorem JI {ar:List Int} {v:Nat->Int} (hs:aC (aI ar) v ai.reverse):v 113=aU (uR (smI (crX ((v 13,v 14):IV) ((v 15,v 16):IV) ((v 13,v 14):IV) ((v 15,v 16):IV)) (crX ((v 15,v 16):IV) ((v 11,v 12):IV) ((v 15,v 16):IV) ((v 11,v 12):IV)) (crX ((v 11,v 12):IV) ((v 13,v 14):IV) ((v 11,v 12):IV) ((v 13,v 14):IV)))).1 (uR (smI (crX ((v 13,v 14):IV) ((v 15,v 16):IV) ((v 13,v 14):IV) ((v 15,v 16):IV)) (crX ((v 15,v 16):IV) ((v 11,v 12):IV) ((v 15,v 16):IV) ((v 11,v 12):IV)) (crX ((v 11,v 12):IV) ((v 13,v 14):IV) ((v 11,v 12):IV) ((v 13,v 14):IV)))).2 (dtI ((v 11,v 12):IV) ((v 13,v 14):IV) ((v 15,v 16):IV) ((v 11,v 12):IV) ((v 13,v 14):IV) ((v 15,v 16):IV)).1 (dtI ((v 11,v 12):IV) ((v 13,v 14):IV) ((v 15,v 16):IV) ((v 11,v 12):IV) ((v 13,v 14):IV) ((v 15,v 16):IV)).2:=ah hs 113 rfl
theorem IP {ar:List Int} {v:Nat->Int} (hs:aC (aI ar) v ai.reverse):v 114=bg (uR (smI (crX ((v 13,v 14):IV) ((v 15,v 16):IV) ((v 13,v 14):IV) ((v 15,v 16):IV)) (crX ((v 15,v 16):IV) ((v 11,v 12):IV) ((v 15,v 16):IV) ((v 11,v 12):IV)) (crX ((v 11,v 12):IV) ((v 13,v 14):IV) ((v 11,v 12):IV) ((v 13,v 14):IV)))).1 (uR (smI (crX ((v 13,v 14):IV) ((v 15,v 16):IV) ((v 13,v 14):IV) ((v 15,v 16):IV)) (crX ((v 15,v 16):IV) ((v 11,v 12):IV) ((v 15,v 16):IV) ((v 11,v 12):IV)) (crX ((v 11,v 12):IV) ((v 13,v 14):IV) ((v 11,v 12):IV) ((v 13,v 14):IV)))).2 (dtI ((v 11,v 12):IV) ((v 13,v 14):IV) ((v 15,v 16):IV) ((v 11,v 12):IV) ((v 13,v 14):IV) ((v 15,v 16):IV)).1 (dtI ((v 11,v 12):IV) ((v 13,v 14):IV) ((v 15,v 16):IV) ((v 11,v 12):IV) ((v 13,v 14):IV) ((v 15,v 16):IV)).2:=ah hs 114 rfl
theorem JX {ar:List Int} {v:Nat->Int} (hs:aC (aI ar) v ai.reverse):v 118=0:=ah hs 118 rfl
theorem I4 {ar:List Int} {v:Nat->Int} (hs:aC (aI ar) v ai.reverse):v 116=aU (uR (smI (crX ((v 13,v 14):IV) ((v 15,v 16):IV) ((v 25,v 26):IV) ((v 27,v 28):IV)) (crX ((v 15,v 16):IV) ((v 11,v 12):IV) ((v 27,v 28):IV) ((v 23,v 24):IV)) (crX ((v 11,v 12):IV) ((v 13,v 14):IV) ((v 23,v 24):IV) ((v 25,v 26):IV)))).1 (uR (smI (crX ((v 13,v 14):IV) ((v 15,v 16):IV) ((v 25,v 26):IV) ((v 27,v 28):IV)) (crX ((v 15,v 16):IV) ((v 11,v 12):IV) ((v 27,v 28):IV) ((v 23,v 24):IV)) (crX ((v 11,v 12):IV) ((v 13,v 14):IV) ((v 23,v 24):IV) ((v 25,v 26):IV)))).2 (dtI ((v 11,v 12):IV) ((v 13,v 14):IV) ((v 15,v 16):IV) ((v 23,v 24):IV) ((v 25,v 26):IV) ((v 27,v 28):IV)).1 (dtI ((v 11,v 12):IV) ((v 13,v 14):IV) ((v 15,v 16):IV) ((v 23,v 24):IV) ((v 25,v 26):IV) ((v 27,v 28):IV)).2:=ah hs 116 rfl
theorem Kq {ar:List Int} {v:Nat->Int} (hs:aC (aI ar) v ai.reverse):v 117=bg (uR (smI (crX ((v 13,v 14):IV) ((v 15,v 16):IV) ((v 25,v 26):IV) ((v 27,v 28):IV)) (crX ((v 15,v 16):IV) ((v 11,v 12):IV) ((v 27,v 28):IV) ((v 23,v 24):IV)) (crX ((v 11,v 12):IV) ((v 13,v 14):IV) ((v 23,v 24):IV) ((v 25,v 26):IV)))).1 (uR (smI (crX ((v 13,v 14):IV) ((v 15,v 16):IV) ((v 25,v 26):IV) ((v 27,v 28):IV)) (crX ((v 15,v 16):IV) ((v 11,v 12):IV) ((v 27,v 28):IV) ((v 23,v 24):IV)) (crX ((v 11,v 12):IV) ((v 13,v 14):IV) ((v 23,v 24):IV) ((v 25,v 26):IV)))).2 (dtI ((v 11,v 12):IV) ((v 13,v 14):IV) ((v 15,v 16):IV) ((v 23,v 24):IV) ((v 25,v 26):IV) ((v 27,v 28):IV)).1 (dtI ((v 11,v 12):IV) ((v 13,v 14):IV) ((v 15,v 16):IV) ((v 23,v 24):IV) ((v 25,v 26):IV) ((v 27,v 28):IV)).2:=ah hs 117 rfl
theorem JC {ar:List Int} {v:Nat->Int} (hs:aC (aI ar) v ai.reverse):v 121=0:=ah hs 121 rfl
theorem Jf {ar:List Int} {v:Nat->Int} (hs:aC (aI ar) v ai.reverse):v 119=aU (uR (smI (crX ((v 25,v 26):IV) ((v 27,v 28):IV) ((v 13,v 14):IV) ((v 15,v 16):IV)) (crX ((v 27,v 28):IV) ((v 23,v 24):IV) ((v 15,v 16):IV) ((v 11,v 12):IV)) (crX ((v 23,v 24):IV) ((v 25,v 26):IV) ((v 11,v 12):IV) ((v 13,v 14):IV)))).1 (uR (smI (crX ((v 25,v 26):IV) ((v 27,v 28):IV) ((v 13,v 14):IV) ((v 15,v 16):IV)) (crX ((v 27,v 28):IV) ((v 23,v 24):IV) ((v 15,v 16):IV) ((v 11,v 12):IV)) (crX ((v 23,v 24):IV) ((v 25,v 26):IV) ((v 11,v 12):IV) ((v 13,v 14):IV)))).2 (dtI ((v 23,v 24):IV) ((v 25,v 26):IV) ((v 27,v 28):IV) ((v 11,v 12):IV) ((v 13,v 14):IV) ((v 15,v 16):IV)).1 (dtI ((v 23,v 24):IV) ((v 25,v 26):IV) ((v 27,v 28):IV) ((v 11,v 12):IV) ((v 13,v 14):IV) ((v 15,v 16):IV)).2:=ah hs 119 rfl
theorem Ie {ar:List Int} {v:Nat->Int} (hs:aC (aI ar) v ai.reverse):v 120=bg (uR (smI (crX ((v 25,v 26):IV) ((v 27,v 28):IV) ((v 13,v 14):IV) ((v 15,v 16):IV)) (crX ((v 27,v 28):IV) ((v 23,v 24):IV) ((v 15,v 16):IV) ((v 11,v 12):IV)) (crX ((v 23,v 24):IV) ((v 25,v 26):IV) ((v 11,v 12):IV) ((v 13,v 14):IV)))).1 (uR (smI (crX ((v 25,v 26):IV) ((v 27,v 28):IV) ((v 13,v 14):IV) ((v 15,v 16):IV)) (crX ((v 27,v 28):IV) ((v 23,v 24):IV) ((v 15,v 16):IV) ((v 11,v 12):IV)) (crX ((v 23,v 24):IV) ((v 25,v 26):IV) ((v 11,v 12):IV) ((v 13,v 14):IV)))).2 (dtI ((v 23,v 24):IV) ((v 25,v 26):IV) ((v 27,v 28):IV) ((v 11,v 12):IV) ((v 13,v 14):IV) ((v 15,v 16):IV)).1 (dtI ((v 23,v 24):IV) ((v 25,v 26):IV) ((v 27,v 28):IV) ((v 11,v 12):IV) ((v 13,v 14):IV) ((v 15,v 16):IV)).2:=ah hs 120 rfl
theorem NL {ar:List Int} {v:Nat->Int} (hs:aC (aI ar) v ai.reverse):v 53=b2i (decide (v 42>=-2147483648)):=ah hs 53 rfl
theorem M7 {ar:List Int} {v:Nat->Int} (hs:aC (aI ar) v ai.reverse):v 54=b2i (decide (v 42<=v 43)):=ah hs 54 rfl
theorem OC {ar:List Int} {v:Nat->Int} (hs:aC (aI ar) v ai.reverse):v 56=b2i (decide (v 43<=2147483648)):=ah hs 56 rfl
theorem Mt {ar:List Int} {v:Nat->Int} (hs:aC (aI ar) v ai.reverse):v 59=IntKind.i64.wrap (0-v 43):=ah hs 59 rfl
theorem O8 {ar:List Int} {v:Nat->Int} (hs:aC (aI ar) v ai.reverse):v 60=IntKind.i64.wrap (0-v 42):=ah hs 60 rfl
theorem Pq {ar:List Int} {v:Nat->Int} (hs:aC (aI ar) v ai.reverse):v 61=if v 58≠0 then 0 else v 59:=ah hs 61 rfl
theorem O9 {ar:List Int} {v:Nat->Int} (hs:aC (aI ar) v ai.reverse):v 62=if v 58≠0 then 0 else v 60:=ah hs 62 rfl
theorem MZ {ar:List Int} {v:Nat->Int} (hs:aC (aI ar) v ai.reverse):v 63=b2i (decide (v 44>=-2147483648)):=ah hs 63 rfl
theorem O6 {ar:List Int} {v:Nat->Int} (hs:aC (aI ar) v ai.reverse):v 64=b2i (decide (v 44<=v 45)):=ah hs 64 rfl
theorem Nq {ar:List Int} {v:Nat->Int} (hs:aC (aI ar) v ai.reverse):v 66=b2i (decide (v 45<=2147483648)):=ah hs 66 rfl
theorem NA {ar:List Int} {v:Nat->Int} (hs:aC (aI ar) v ai.reverse):v 69=IntKind.i64.wrap (0-v 45):=ah hs 69 rfl
theorem Oi {ar:List Int} {v:Nat->Int} (hs:aC (aI ar) v ai.reverse):v 70=IntKind.i64.wrap (0-v 44):=ah hs 70 rfl
theorem MI {ar:List Int} {v:Nat->Int} (hs:aC (aI ar) v ai.reverse):v 71=if v 68≠0 then 0 else v 69:=ah hs 71 rfl
theorem Lv {ar:List Int} {v:Nat->Int} (hs:aC (aI ar) v ai.reverse):v 72=if v 68≠0 then 0 else v 70:=ah hs 72 rfl
theorem PE {ar:List Int} {v:Nat->Int} (hs:aC (aI ar) v ai.reverse):v 73=b2i (decide (v 46>=-2147483648)):=ah hs 73 rfl
theorem NW {ar:List Int} {v:Nat->Int} (hs:aC (aI ar) v ai.reverse):v 74=b2i (decide (v 46<=v 47)):=ah hs 74 rfl
theorem OE {ar:List Int} {v:Nat->Int} (hs:aC (aI ar) v ai.reverse):v 76=b2i (decide (v 47<=2147483648)):=ah hs 76 rfl
theorem PS {ar:List Int} {v:Nat->Int} (hs:aC (aI ar) v ai.reverse):v 79=IntKind.i64.wrap (0-v 47):=ah hs 79 rfl
theorem LQ {ar:List Int} {v:Nat->Int} (hs:aC (aI ar) v ai.reverse):v 80=IntKind.i64.wrap (0-v 46):=ah hs 80 rfl
theorem Ml {ar:List Int} {v:Nat->Int} (hs:aC (aI ar) v ai.reverse):v 81=if v 78≠0 then 0 else v 79:=ah hs 81 rfl
theorem Pz {ar:List Int} {v:Nat->Int} (hs:aC (aI ar) v ai.reverse):v 82=if v 78≠0 then 0 else v 80:=ah hs 82 rfl
theorem ML {ar:List Int} {v:Nat->Int} (hs:aC (aI ar) v ai.reverse):v 83=b2i (v 35==v 61):=ah hs 83 rfl
theorem OI {ar:List Int} {v:Nat->Int} (hs:aC (aI ar) v ai.reverse):v 84=b2i (v 36==v 62):=ah hs 84 rfl
theorem Nz {ar:List Int} {v:Nat->Int} (hs:aC (aI ar) v ai.reverse):v 85=b2i (v 37==v 71):=ah hs 85 rfl
theorem L8 {ar:List Int} {v:Nat->Int} (hs:aC (aI ar) v ai.reverse):v 86=b2i (v 38==v 72):=ah hs 86 rfl
theorem NR {ar:List Int} {v:Nat->Int} (hs:aC (aI ar) v ai.reverse):v 87=b2i (v 39==v 81):=ah hs 87 rfl
theorem MN {ar:List Int} {v:Nat->Int} (hs:aC (aI ar) v ai.reverse):v 88=b2i (v 40==v 82):=ah hs 88 rfl
theorem IB {ar:List Int} {v:Nat->Int} (hs:aC (aI ar) v ai.reverse):v 104=b2i (decide (v 95>0)):=ah hs 104 rfl
theorem Ka {ar:List Int} {v:Nat->Int} (hs:aC (aI ar) v ai.reverse):v 106=b2i (decide (v 96<0)):=ah hs 106 rfl
theorem KI {ar:List Int} {v:Nat->Int} (hs:aC (aI ar) v ai.reverse):v 108=b2i (decide (v 98>0)):=ah hs 108 rfl
theorem Im {ar:List Int} {v:Nat->Int} (hs:aC (aI ar) v ai.reverse):v 110=b2i (decide (v 99<0)):=ah hs 110 rfl
theorem Iu {ar:List Int} {v:Nat->Int} (hs:aC (aI ar) v ai.reverse):v 123=b2i (v 113==0):=ah hs 123 rfl
theorem Ip {ar:List Int} {v:Nat->Int} (hs:aC (aI ar) v ai.reverse):v 125=b2i (decide (v 114<400)):=ah hs 125 rfl
theorem Ir {ar:List Int} {v:Nat->Int} (hs:aC (aI ar) v ai.reverse):v 131=b2i (v 116==v 119):=ah hs 131 rfl
theorem IL {ar:List Int} {v:Nat->Int} (hs:aC (aI ar) v ai.reverse):v 132=b2i (v 117==v 120):=ah hs 132 rfl
theorem Ls {ar:List Int} {v:Nat->Int} (hs:aC (aI ar) v ai.reverse):v 135=b2i (decide (v 116>=0)):=ah hs 135 rfl
theorem Jk {ar:List Int} {v:Nat->Int} (hs:aC (aI ar) v ai.reverse):v 137=b2i (decide (v 117<=10800000)):=ah hs 137 rfl
theorem NJ {ar:List Int} {v:Nat->Int} (hs:aC (aI ar) v ai.reverse):((v 35,v 36):IV)=crX ((v 13,v 14):IV) ((v 15,v 16):IV) ((v 25,v 26):IV) ((v 27,v 28):IV):=fE (ah hs 35 rfl) (ah hs 36 rfl)
theorem LV {ar:List Int} {v:Nat->Int} (hs:aC (aI ar) v ai.reverse):((v 37,v 38):IV)=crX ((v 15,v 16):IV) ((v 11,v 12):IV) ((v 27,v 28):IV) ((v 23,v 24):IV):=fE (ah hs 37 rfl) (ah hs 38 rfl)
theorem Mv {ar:List Int} {v:Nat->Int} (hs:aC (aI ar) v ai.reverse):((v 39,v 40):IV)=crX ((v 11,v 12):IV) ((v 13,v 14):IV) ((v 23,v 24):IV) ((v 25,v 26):IV):=fE (ah hs 39 rfl) (ah hs 40 rfl)
theorem MR {ar:List Int} {v:Nat->Int} (hs:aC (aI ar) v ai.reverse):((v 42,v 43):IV)=crX ((v 25,v 26):IV) ((v 27,v 28):IV) ((v 13,v 14):IV) ((v 15,v 16):IV):=fE (ah hs 42 rfl) (ah hs 43 rfl)
theorem O0 {ar:List Int} {v:Nat->Int} (hs:aC (aI ar) v ai.reverse):((v 44,v 45):IV)=crX ((v 27,v 28):IV) ((v 23,v 24):IV) ((v 15,v 16):IV) ((v 11,v 12):IV):=fE (ah hs 44 rfl) (ah hs 45 rfl)
theorem M6 {ar:List Int} {v:Nat->Int} (hs:aC (aI ar) v ai.reverse):((v 46,v 47):IV)=crX ((v 23,v 24):IV) ((v 25,v 26):IV) ((v 11,v 12):IV) ((v 13,v 14):IV):=fE (ah hs 46 rfl) (ah hs 47 rfl)
theorem NU {ar:List Int} {v:Nat->Int} (hs:aC (aI ar) v ai.reverse):((v 95,v 96):IV)=dtI ((v 35,v 36):IV) ((v 37,v 38):IV) ((v 39,v 40):IV) ((v 11,v 12):IV) ((v 13,v 14):IV) ((v 15,v 16):IV):=fE (ah hs 95 rfl) (ah hs 96 rfl)
theorem LH {ar:List Int} {v:Nat->Int} (hs:aC (aI ar) v ai.reverse):((v 98,v 99):IV)=dtI ((v 35,v 36):IV) ((v 37,v 38):IV) ((v 39,v 40):IV) ((v 23,v 24):IV) ((v 25,v 26):IV) ((v 27,v 28):IV):=fE (ah hs 98 rfl) (ah hs 99 rfl)
theorem Il {ar:List Int} {v:Nat->Int} (A8:dA (v 8) (v 8)=true) (A10:dA (v 10) (v 10)=true) (A20:dA (v 20) (v 20)=true) (A22:dA (v 22) (v 22)=true) (U11:U ((v 11,v 12):IV)) (U13:U ((v 13,v 14):IV)) (U15:U ((v 15,v 16):IV)) (U23:U ((v 23,v 24):IV)) (U25:U ((v 25,v 26):IV)) (U27:U ((v 27,v 28):IV)) (CF:fxV (v 35) (v 36)=true/\fxV (v 37) (v 38)=true/\fxV (v 39) (v 40)=true) (D1:er0 ((v 35,v 36):IV) ((v 11,v 12):IV)=0/\er0 ((v 37,v 38):IV) ((v 13,v 14):IV)=0/\er1 (uM ((v 35,v 36):IV) ((v 11,v 12):IV)) (uM ((v 37,v 38):IV) ((v 13,v 14):IV))=0/\er0 ((v 39,v 40):IV) ((v 15,v 16):IV)=0/\er1 (dt2 ((v 35,v 36):IV) ((v 37,v 38):IV) ((v 11,v 12):IV) ((v 13,v 14):IV)) (uM ((v 39,v 40):IV) ((v 15,v 16):IV))=0) (D2:er0 ((v 35,v 36):IV) ((v 23,v 24):IV)=0/\er0 ((v 37,v 38):IV) ((v 25,v 26):IV)=0/\er1 (uM ((v 35,v 36):IV) ((v 23,v 24):IV)) (uM ((v 37,v 38):IV) ((v 25,v 26):IV))=0/\er0 ((v 39,v 40):IV) ((v 27,v 28):IV)=0/\er1 (dt2 ((v 35,v 36):IV) ((v 37,v 38):IV) ((v 23,v 24):IV) ((v 25,v 26):IV)) (uM ((v 39,v 40):IV) ((v 27,v 28):IV))=0) (B113:(er3 (crX ((v 13,v 14):IV) ((v 15,v 16):IV) ((v 13,v 14):IV) ((v 15,v 16):IV))=0/\er3 (crX ((v 15,v 16):IV) ((v 11,v 12):IV) ((v 15,v 16):IV) ((v 11,v 12):IV))=0/\er1 (uQ (crX ((v 13,v 14):IV) ((v 15,v 16):IV) ((v 13,v 14):IV) ((v 15,v 16):IV))) (uQ (crX ((v 15,v 16):IV) ((v 11,v 12):IV) ((v 15,v 16):IV) ((v 11,v 12):IV)))=0/\er3 (crX ((v 11,v 12):IV) ((v 13,v 14):IV) ((v 11,v 12):IV) ((v 13,v 14):IV))=0/\er1 (sm2 (crX ((v 13,v 14):IV) ((v 15,v 16):IV) ((v 13,v 14):IV) ((v 15,v 16):IV)) (crX ((v 15,v 16):IV) ((v 11,v 12):IV) ((v 15,v 16):IV) ((v 11,v 12):IV))) (uQ (crX ((v 11,v 12):IV) ((v 13,v 14):IV) ((v 11,v 12):IV) ((v 13,v 14):IV)))=0/\er4 (smI (crX ((v 13,v 14):IV) ((v 15,v 16):IV) ((v 13,v 14):IV) ((v 15,v 16):IV)) (crX ((v 15,v 16):IV) ((v 11,v 12):IV) ((v 15,v 16):IV) ((v 11,v 12):IV)) (crX ((v 11,v 12):IV) ((v 13,v 14):IV) ((v 11,v 12):IV) ((v 13,v 14):IV)))=0/\er1 (dt2 ((v 11,v 12):IV) ((v 13,v 14):IV) ((v 11,v 12):IV) ((v 13,v 14):IV)) (uM ((v 15,v 16):IV) ((v 15,v 16):IV))=0)/\bN (uR (smI (crX ((v 13,v 14):IV) ((v 15,v 16):IV) ((v 13,v 14):IV) ((v 15,v 16):IV)) (crX ((v 15,v 16):IV) ((v 11,v 12):IV) ((v 15,v 16):IV) ((v 11,v 12):IV)) (crX ((v 11,v 12):IV) ((v 13,v 14):IV) ((v 11,v 12):IV) ((v 13,v 14):IV)))).1 (uR (smI (crX ((v 13,v 14):IV) ((v 15,v 16):IV) ((v 13,v 14):IV) ((v 15,v 16):IV)) (crX ((v 15,v 16):IV) ((v 11,v 12):IV) ((v 15,v 16):IV) ((v 11,v 12):IV)) (crX ((v 11,v 12):IV) ((v 13,v 14):IV) ((v 11,v 12):IV) ((v 13,v 14):IV)))).2 (dtI ((v 11,v 12):IV) ((v 13,v 14):IV) ((v 15,v 16):IV) ((v 11,v 12):IV) ((v 13,v 14):IV) ((v 15,v 16):IV)).1 (dtI ((v 11,v 12):IV) ((v 13,v 14):IV) ((v 15,v 16):IV) ((v 11,v 12):IV) ((v 13,v 14):IV) ((v 15,v 16):IV)).2=false) (B116:(er3 (crX ((v 13,v 14):IV) ((v 15,v 16):IV) ((v 25,v 26):IV) ((v 27,v 28):IV))=0/\er3 (crX ((v 15,v 16):IV) ((v 11,v 12):IV) ((v 27,v 28):IV) ((v 23,v 24):IV))=0/\er1 (uQ (crX ((v 13,v 14):IV) ((v 15,v 16):IV) ((v 25,v 26):IV) ((v 27,v 28):IV))) (uQ (crX ((v 15,v 16):IV) ((v 11,v 12):IV) ((v 27,v 28):IV) ((v 23,v 24):IV)))=0/\er3 (crX ((v 11,v 12):IV) ((v 13,v 14):IV) ((v 23,v 24):IV) ((v 25,v 26):IV))=0/\er1 (sm2 (crX ((v 13,v 14):IV) ((v 15,v 16):IV) ((v 25,v 26):IV) ((v 27,v 28):IV)) (crX ((v 15,v 16):IV) ((v 11,v 12):IV) ((v 27,v 28):IV) ((v 23,v 24):IV))) (uQ (crX ((v 11,v 12):IV) ((v 13,v 14):IV) ((v 23,v 24):IV) ((v 25,v 26):IV)))=0/\er4 (smI (crX ((v 13,v 14):IV) ((v 15,v 16):IV) ((v 25,v 26):IV) ((v 27,v 28):IV)) (crX ((v 15,v 16):IV) ((v 11,v 12):IV) ((v 27,v 28):IV) ((v 23,v 24):IV)) (crX ((v 11,v 12):IV) ((v 13,v 14):IV) ((v 23,v 24):IV) ((v 25,v 26):IV)))=0/\er1 (dt2 ((v 11,v 12):IV) ((v 13,v 14):IV) ((v 23,v 24):IV) ((v 25,v 26):IV)) (uM ((v 15,v 16):IV) ((v 27,v 28):IV))=0)/\bN (uR (smI (crX ((v 13,v 14):IV) ((v 15,v 16):IV) ((v 25,v 26):IV) ((v 27,v 28):IV)) (crX ((v 15,v 16):IV) ((v 11,v 12):IV) ((v 27,v 28):IV) ((v 23,v 24):IV)) (crX ((v 11,v 12):IV) ((v 13,v 14):IV) ((v 23,v 24):IV) ((v 25,v 26):IV)))).1 (uR (smI (crX ((v 13,v 14):IV) ((v 15,v 16):IV) ((v 25,v 26):IV) ((v 27,v 28):IV)) (crX ((v 15,v 16):IV) ((v 11,v 12):IV) ((v 27,v 28):IV) ((v 23,v 24):IV)) (crX ((v 11,v 12):IV) ((v 13,v 14):IV) ((v 23,v 24):IV) ((v 25,v 26):IV)))).2 (dtI ((v 11,v 12):IV) ((v 13,v 14):IV) ((v 15,v 16):IV) ((v 23,v 24):IV) ((v 25,v 26):IV) ((v 27,v 28):IV)).1 (dtI ((v 11,v 12):IV) ((v 13,v 14):IV) ((v 15,v 16):IV) ((v 23,v 24):IV) ((v 25,v 26):IV) ((v 27,v 28):IV)).2=false) (B119:(er3 (crX ((v 25,v 26):IV) ((v 27,v 28):IV) ((v 13,v 14):IV) ((v 15,v 16):IV))=0/\er3 (crX ((v 27,v 28):IV) ((v 23,v 24):IV) ((v 15,v 16):IV) ((v 11,v 12):IV))=0/\er1 (uQ (crX ((v 25,v 26):IV) ((v 27,v 28):IV) ((v 13,v 14):IV) ((v 15,v 16):IV))) (uQ (crX ((v 27,v 28):IV) ((v 23,v 24):IV) ((v 15,v 16):IV) ((v 11,v 12):IV)))=0/\er3 (crX ((v 23,v 24):IV) ((v 25,v 26):IV) ((v 11,v 12):IV) ((v 13,v 14):IV))=0/\er1 (sm2 (crX ((v 25,v 26):IV) ((v 27,v 28):IV) ((v 13,v 14):IV) ((v 15,v 16):IV)) (crX ((v 27,v 28):IV) ((v 23,v 24):IV) ((v 15,v 16):IV) ((v 11,v 12):IV))) (uQ (crX ((v 23,v 24):IV) ((v 25,v 26):IV) ((v 11,v 12):IV) ((v 13,v 14):IV)))=0/\er4 (smI (crX ((v 25,v 26):IV) ((v 27,v 28):IV) ((v 13,v 14):IV) ((v 15,v 16):IV)) (crX ((v 27,v 28):IV) ((v 23,v 24):IV) ((v 15,v 16):IV) ((v 11,v 12):IV)) (crX ((v 23,v 24):IV) ((v 25,v 26):IV) ((v 11,v 12):IV) ((v 13,v 14):IV)))=0/\er1 (dt2 ((v 23,v 24):IV) ((v 25,v 26):IV) ((v 11,v 12):IV) ((v 13,v 14):IV)) (uM ((v 27,v 28):IV) ((v 15,v 16):IV))=0)/\bN (uR (smI (crX ((v 25,v 26):IV) ((v 27,v 28):IV) ((v 13,v 14):IV) ((v 15,v 16):IV)) (crX ((v 27,v 28):IV) ((v 23,v 24):IV) ((v 15,v 16):IV) ((v 11,v 12):IV)) (crX ((v 23,v 24):IV) ((v 25,v 26):IV) ((v 11,v 12):IV) ((v 13,v 14):IV)))).1 (uR (smI (crX ((v 25,v 26):IV) ((v 27,v 28):IV) ((v 13,v 14):IV) ((v 15,v 16):IV)) (crX ((v 27,v 28):IV) ((v 23,v 24):IV) ((v 15,v 16):IV) ((v 11,v 12):IV)) (crX ((v 23,v 24):IV) ((v 25,v 26):IV) ((v 11,v 12):IV) ((v 13,v 14):IV)))).2 (dtI ((v 23,v 24):IV) ((v 25,v 26):IV) ((v 27,v 28):IV) ((v 11,v 12):IV) ((v 13,v 14):IV) ((v 15,v 16):IV)).1 (dtI ((v 23,v 24):IV) ((v 25,v 26):IV) ((v 27,v 28):IV) ((v 11,v 12):IV) ((v 13,v 14):IV) ((v 15,v 16):IV)).2=false):∀ c∈E8,c.holds (aI ar) v :=
 dm (fun _=>trivial) (dm (fun _=>(⟨A8,A10⟩:dA (v 8) (v 8)=true/\dA (v 10) (v 10)=true)) (dm (fun _=>(⟨A20,A22⟩:dA (v 20) (v 20)=true/\dA (v 22) (v 22)=true)) (dm (fun _=>(⟨U11,U13,U15,U23,U25,U27⟩:pU (v 11) (v 12) (v 13) (v 14) (v 15) (v 16) (v 23) (v 24) (v 25) (v 26) (v 27) (v 28))) (dm (fun _=>(⟨U23,U25,U27,U11,U13,U15⟩:pU (v 23) (v 24) (v 25) (v 26) (v 27) (v 28) (v 11) (v 12) (v 13) (v 14) (v 15) (v 16))) (dm (fun _=>(⟨⟨CF.1,CF.2.1,CF.2.2,Aw U11,Aw U13,Aw U15⟩,D1⟩:pDo (v 35) (v 36) (v 37) (v 38) (v 39) (v 40) (v 11) (v 12) (v 13) (v 14) (v 15) (v 16))) (dm (fun _=>(⟨⟨CF.1,CF.2.1,CF.2.2,Aw U23,Aw U25,Aw U27⟩,D2⟩:pDo (v 35) (v 36) (v 37) (v 38) (v 39) (v 40) (v 23) (v 24) (v 25) (v 26) (v 27) (v 28))) (dm (fun _=>(⟨⟨U11,U13,U15,U11,U13,U15⟩,B113.1,B113.2⟩:pBe (v 11) (v 12) (v 13) (v 14) (v 15) (v 16) (v 11) (v 12) (v 13) (v 14) (v 15) (v 16))) (dm (fun _=>(⟨⟨U11,U13,U15,U23,U25,U27⟩,B116.1,B116.2⟩:pBe (v 11) (v 12) (v 13) (v 14) (v 15) (v 16) (v 23) (v 24) (v 25) (v 26) (v 27) (v 28))) (dm (fun _=>(⟨⟨U23,U25,U27,U11,U13,U15⟩,B119.1,B119.2⟩:pBe (v 23) (v 24) (v 25) (v 26) (v 27) (v 28) (v 11) (v 12) (v 13) (v 14) (v 15) (v 16))) (Gp))))))))))
theorem Da (a0 a1 a2 a3:Int) (w:World):Calls Try.prog 8 #[.int .i32 a0,.int .i32 a1,.int .i32 a2,.int .i32 a3] w fun e w'=>e=.returned (.bool true)/\Below w.heap.size w w':=by
 refine Sx.calls (X:=aI [a0,a1,a2,a3]) iI (FZ _) Kt Lg (fun v hs=>?_) w
 have b8:-21600000<v 8/\v 8<21600000:=by have h:v 8=Int.tmod (v 7) 21600000:=Qc hs;rw [h];exact zC _
 have A8:dA (v 8) (v 8)=true:=(eT _ _).2 (by omega)
 have b10:-21600000<v 10/\v 10<21600000:=by have h:v 10=Int.tmod (v 9) 21600000:=ME hs;rw [h];exact zC _
 have A10:dA (v 10) (v 10)=true:=(eT _ _).2 (by omega)
 have b20:-21600000<v 20/\v 20<21600000:=by have h:v 20=Int.tmod (v 19) 21600000:=OW hs;rw [h];exact zC _
 have A20:dA (v 20) (v 20)=true:=(eT _ _).2 (by omega)
 have b22:-21600000<v 22/\v 22<21600000:=by have h:v 22=Int.tmod (v 21) 21600000:=PX hs;rw [h];exact zC _
 have A22:dA (v 22) (v 22)=true:=(eT _ _).2 (by omega)
 have P11:((v 11,v 12):IV)=uM (uC (v 8) (v 8)) (uC (v 10) (v 10)):=fE (Nv hs) (Oq hs);have P13:((v 13,v 14):IV)=uM (uC (v 8) (v 8)) (uS (v 10) (v 10)):=fE (Ny hs) (OL hs);have P15:((v 15,v 16):IV)=uS (v 8) (v 8):=fE (Pw hs) (Nj hs);have V11:=Hd (v 8) (v 10);rw [<-P11,<-P13,<-P15] at V11;clear P11 P13 P15;have k17:v 17=0:=NB hs;have P23:((v 23,v 24):IV)=uM (uC (v 20) (v 20)) (uC (v 22) (v 22)):=fE (NE hs) (Ol hs);have P25:((v 25,v 26):IV)=uM (uC (v 20) (v 20)) (uS (v 22) (v 22)):=fE (Py hs) (NP hs);have P27:((v 27,v 28):IV)=uS (v 20) (v 20):=fE (LY hs) (Nb hs);have V23:=Hd (v 20) (v 22);rw [<-P23,<-P25,<-P27] at V23;clear P23 P25 P27;have k29:v 29=0:=PY hs;have P35:((v 35,v 36):IV)=crX ((v 13,v 14):IV) ((v 15,v 16):IV) ((v 25,v 26):IV) ((v 27,v 28):IV):=NJ hs;have P37:((v 37,v 38):IV)=crX ((v 15,v 16):IV) ((v 11,v 12):IV) ((v 27,v 28):IV) ((v 23,v 24):IV):=LV hs;have P39:((v 39,v 40):IV)=crX ((v 11,v 12):IV) ((v 13,v 14):IV) ((v 23,v 24):IV) ((v 25,v 26):IV):=Mv hs;have k41:v 41=0:=NH hs;have P42:((v 42,v 43):IV)=crX ((v 25,v 26):IV) ((v 27,v 28):IV) ((v 13,v 14):IV) ((v 15,v 16):IV):=MR hs;have P44:((v 44,v 45):IV)=crX ((v 27,v 28):IV) ((v 23,v 24):IV) ((v 15,v 16):IV) ((v 11,v 12):IV):=O0 hs;have P46:((v 46,v 47):IV)=crX ((v 23,v 24):IV) ((v 25,v 26):IV) ((v 11,v 12):IV) ((v 13,v 14):IV):=M6 hs;have k48:v 48=0:=LA hs;have CU:=(lu V11 V23).1;rw [<-P35,<-P37,<-P39] at CU;have ep:=bX;have CF:=CU.fx (by decide) (by grind)
 have D1:=mG CU V11.cu (by decide) (by decide) ⟨by grind,by grind⟩ ⟨by grind,by grind⟩
 have D2:=mG CU V23.cu (by decide) (by decide) ⟨by grind,by grind⟩ ⟨by grind,by grind⟩
 have RN:=DT V11 V23;rw [<-P35,<-P37,<-P39] at RN;have P95:((v 95,v 96):IV)=dtI ((v 35,v 36):IV) ((v 37,v 38):IV) ((v 39,v 40):IV) ((v 11,v 12):IV) ((v 13,v 14):IV) ((v 15,v 16):IV):=NU hs;have P98:((v 98,v 99):IV)=dtI ((v 35,v 36):IV) ((v 37,v 38):IV) ((v 39,v 40):IV) ((v 23,v 24):IV) ((v 25,v 26):IV) ((v 27,v 28):IV):=LH hs;rw [<-P95,<-P98] at RN;have k97:v 97=0:=PI hs;have k100:v 100=0:=Kw hs;have B113:=nW V11 V11;have k115:v 115=0:=JJ hs;have e113:v 113=aU (uR (smI (crX ((v 13,v 14):IV) ((v 15,v 16):IV) ((v 13,v 14):IV) ((v 15,v 16):IV)) (crX ((v 15,v 16):IV) ((v 11,v 12):IV) ((v 15,v 16):IV) ((v 11,v 12):IV)) (crX ((v 11,v 12):IV) ((v 13,v 14):IV) ((v 11,v 12):IV) ((v 13,v 14):IV)))).1 (uR (smI (crX ((v 13,v 14):IV) ((v 15,v 16):IV) ((v 13,v 14):IV) ((v 15,v 16):IV)) (crX ((v 15,v 16):IV) ((v 11,v 12):IV) ((v 15,v 16):IV) ((v 11,v 12):IV)) (crX ((v 11,v 12):IV) ((v 13,v 14):IV) ((v 11,v 12):IV) ((v 13,v 14):IV)))).2 (dtI ((v 11,v 12):IV) ((v 13,v 14):IV) ((v 15,v 16):IV) ((v 11,v 12):IV) ((v 13,v 14):IV) ((v 15,v 16):IV)).1 (dtI ((v 11,v 12):IV) ((v 13,v 14):IV) ((v 15,v 16):IV) ((v 11,v 12):IV) ((v 13,v 14):IV) ((v 15,v 16):IV)).2:=JI hs;have e114:v 114=bg (uR (smI (crX ((v 13,v 14):IV) ((v 15,v 16):IV) ((v 13,v 14):IV) ((v 15,v 16):IV)) (crX ((v 15,v 16):IV) ((v 11,v 12):IV) ((v 15,v 16):IV) ((v 11,v 12):IV)) (crX ((v 11,v 12):IV) ((v 13,v 14):IV) ((v 11,v 12):IV) ((v 13,v 14):IV)))).1 (uR (smI (crX ((v 13,v 14):IV) ((v 15,v 16):IV) ((v 13,v 14):IV) ((v 15,v 16):IV)) (crX ((v 15,v 16):IV) ((v 11,v 12):IV) ((v 15,v 16):IV) ((v 11,v 12):IV)) (crX ((v 11,v 12):IV) ((v 13,v 14):IV) ((v 11,v 12):IV) ((v 13,v 14):IV)))).2 (dtI ((v 11,v 12):IV) ((v 13,v 14):IV) ((v 15,v 16):IV) ((v 11,v 12):IV) ((v 13,v 14):IV) ((v 15,v 16):IV)).1 (dtI ((v 11,v 12):IV) ((v 13,v 14):IV) ((v 15,v 16):IV) ((v 11,v 12):IV) ((v 13,v 14):IV) ((v 15,v 16):IV)).2:=IP hs;have B116:=nW V11 V23;have k118:v 118=0:=JX hs;have e116:v 116=aU (uR (smI (crX ((v 13,v 14):IV) ((v 15,v 16):IV) ((v 25,v 26):IV) ((v 27,v 28):IV)) (crX ((v 15,v 16):IV) ((v 11,v 12):IV) ((v 27,v 28):IV) ((v 23,v 24):IV)) (crX ((v 11,v 12):IV) ((v 13,v 14):IV) ((v 23,v 24):IV) ((v 25,v 26):IV)))).1 (uR (smI (crX ((v 13,v 14):IV) ((v 15,v 16):IV) ((v 25,v 26):IV) ((v 27,v 28):IV)) (crX ((v 15,v 16):IV) ((v 11,v 12):IV) ((v 27,v 28):IV) ((v 23,v 24):IV)) (crX ((v 11,v 12):IV) ((v 13,v 14):IV) ((v 23,v 24):IV) ((v 25,v 26):IV)))).2 (dtI ((v 11,v 12):IV) ((v 13,v 14):IV) ((v 15,v 16):IV) ((v 23,v 24):IV) ((v 25,v 26):IV) ((v 27,v 28):IV)).1 (dtI ((v 11,v 12):IV) ((v 13,v 14):IV) ((v 15,v 16):IV) ((v 23,v 24):IV) ((v 25,v 26):IV) ((v 27,v 28):IV)).2:=I4 hs;have e117:v 117=bg (uR (smI (crX ((v 13,v 14):IV) ((v 15,v 16):IV) ((v 25,v 26):IV) ((v 27,v 28):IV)) (crX ((v 15,v 16):IV) ((v 11,v 12):IV) ((v 27,v 28):IV) ((v 23,v 24):IV)) (crX ((v 11,v 12):IV) ((v 13,v 14):IV) ((v 23,v 24):IV) ((v 25,v 26):IV)))).1 (uR (smI (crX ((v 13,v 14):IV) ((v 15,v 16):IV) ((v 25,v 26):IV) ((v 27,v 28):IV)) (crX ((v 15,v 16):IV) ((v 11,v 12):IV) ((v 27,v 28):IV) ((v 23,v 24):IV)) (crX ((v 11,v 12):IV) ((v 13,v 14):IV) ((v 23,v 24):IV) ((v 25,v 26):IV)))).2 (dtI ((v 11,v 12):IV) ((v 13,v 14):IV) ((v 15,v 16):IV) ((v 23,v 24):IV) ((v 25,v 26):IV) ((v 27,v 28):IV)).1 (dtI ((v 11,v 12):IV) ((v 13,v 14):IV) ((v 15,v 16):IV) ((v 23,v 24):IV) ((v 25,v 26):IV) ((v 27,v 28):IV)).2:=Kq hs;have B119:=nW V23 V11;have k121:v 121=0:=JC hs
 have e119:v 119=aU (uR (smI (crX ((v 25,v 26):IV) ((v 27,v 28):IV) ((v 13,v 14):IV) ((v 15,v 16):IV)) (crX ((v 27,v 28):IV) ((v 23,v 24):IV) ((v 15,v 16):IV) ((v 11,v 12):IV)) (crX ((v 23,v 24):IV) ((v 25,v 26):IV) ((v 11,v 12):IV) ((v 13,v 14):IV)))).1 (uR (smI (crX ((v 25,v 26):IV) ((v 27,v 28):IV) ((v 13,v 14):IV) ((v 15,v 16):IV)) (crX ((v 27,v 28):IV) ((v 23,v 24):IV) ((v 15,v 16):IV) ((v 11,v 12):IV)) (crX ((v 23,v 24):IV) ((v 25,v 26):IV) ((v 11,v 12):IV) ((v 13,v 14):IV)))).2 (dtI ((v 23,v 24):IV) ((v 25,v 26):IV) ((v 27,v 28):IV) ((v 11,v 12):IV) ((v 13,v 14):IV) ((v 15,v 16):IV)).1 (dtI ((v 23,v 24):IV) ((v 25,v 26):IV) ((v 27,v 28):IV) ((v 11,v 12):IV) ((v 13,v 14):IV) ((v 15,v 16):IV)).2:=Jf hs;have e120:v 120=bg (uR (smI (crX ((v 25,v 26):IV) ((v 27,v 28):IV) ((v 13,v 14):IV) ((v 15,v 16):IV)) (crX ((v 27,v 28):IV) ((v 23,v 24):IV) ((v 15,v 16):IV) ((v 11,v 12):IV)) (crX ((v 23,v 24):IV) ((v 25,v 26):IV) ((v 11,v 12):IV) ((v 13,v 14):IV)))).1 (uR (smI (crX ((v 25,v 26):IV) ((v 27,v 28):IV) ((v 13,v 14):IV) ((v 15,v 16):IV)) (crX ((v 27,v 28):IV) ((v 23,v 24):IV) ((v 15,v 16):IV) ((v 11,v 12):IV)) (crX ((v 23,v 24):IV) ((v 25,v 26):IV) ((v 11,v 12):IV) ((v 13,v 14):IV)))).2 (dtI ((v 23,v 24):IV) ((v 25,v 26):IV) ((v 27,v 28):IV) ((v 11,v 12):IV) ((v 13,v 14):IV) ((v 15,v 16):IV)).1 (dtI ((v 23,v 24):IV) ((v 25,v 26):IV) ((v 27,v 28):IV) ((v 11,v 12):IV) ((v 13,v 14):IV) ((v 15,v 16):IV)).2:=Ie hs;refine ⟨FT ?_,?_⟩
 . exact Il A8 A10 A20 A22 V11.ux V11.uy V11.uz V23.ux V23.uy V23.uz CF D1.1 D2.1 ⟨B113.1,B113.2.2.2⟩ ⟨B116.1,B116.2.2.2⟩ ⟨B119.1,B119.2.2.2⟩
 have ng:∀ p q:IV,p=uN q->p.1=-q.2/\p.2=-q.1:=fun p q h=>by rw [h];exact ⟨rfl,rfl⟩
 have n42:((v 42,v 43):IV)=uN ((v 35,v 36):IV):=by rw [P42,P35];exact mO V11.uy V11.uz V23.uy V23.uz
 have g42:=ng _ _ n42;have f42:fxV (v 42) (v 43)=true:=by have:=Db (uM ((v 25,v 26):IV) ((v 15,v 16):IV)) (uM ((v 27,v 28):IV) ((v 13,v 14):IV));have e:((v 42,v 43):IV)=uD (uM ((v 25,v 26):IV) ((v 15,v 16):IV)) (uM ((v 27,v 28):IV) ((v 13,v 14):IV)):=P42;rw [<-e] at this;exact this
 have x42:=(bM _ _).1 f42;have n44:((v 44,v 45):IV)=uN ((v 37,v 38):IV):=by rw [P44,P37];exact mO V11.uz V11.ux V23.uz V23.ux
 have g44:=ng _ _ n44;have f44:fxV (v 44) (v 45)=true:=by have:=Db (uM ((v 27,v 28):IV) ((v 11,v 12):IV)) (uM ((v 23,v 24):IV) ((v 15,v 16):IV));have e:((v 44,v 45):IV)=uD (uM ((v 27,v 28):IV) ((v 11,v 12):IV)) (uM ((v 23,v 24):IV) ((v 15,v 16):IV)):=P44;rw [<-e] at this;exact this
 have x44:=(bM _ _).1 f44;have n46:((v 46,v 47):IV)=uN ((v 39,v 40):IV):=by rw [P46,P39];exact mO V11.ux V11.uy V23.ux V23.uy
 have g46:=ng _ _ n46;have f46:fxV (v 46) (v 47)=true:=by have:=Db (uM ((v 23,v 24):IV) ((v 13,v 14):IV)) (uM ((v 25,v 26):IV) ((v 11,v 12):IV));have e:((v 46,v 47):IV)=uD (uM ((v 23,v 24):IV) ((v 13,v 14):IV)) (uM ((v 25,v 26):IV) ((v 11,v 12):IV)):=P46;rw [<-e] at this;exact this
 have x46:=(bM _ _).1 f46;simp only at g42 g44 g46;clear CU CF D1 D2 P35 P37 P39 P42 P44 P46 n42 n44 n46 ng;have k53:v 53=1:=by have h:v 53=b2i (decide (v 42>=-2147483648)):=NL hs;rw [h,decide_eq_true (by clear RN;omega)];rfl
 have k54:v 54=1:=by have h:v 54=b2i (decide (v 42<=v 43)):=M7 hs;rw [h,decide_eq_true (by clear RN;omega)];rfl
 have k56:v 56=1:=by have h:v 56=b2i (decide (v 43<=2147483648)):=OC hs;rw [h,decide_eq_true (by clear RN;omega)];rfl
 have w59:v 59=-(v 43):=by have h:v 59=IntKind.i64.wrap (0-v 43):=Mt hs;rw [h,Go.IntWalk.i64_in _ (by omega)];omega
 have w60:v 60=-(v 42):=by have h:v 60=IntKind.i64.wrap (0-v 42):=O8 hs;rw [h,Go.IntWalk.i64_in _ (by omega)];omega
 have y53:v 58=0:=Nc hs k53 k54 k56;have w61:v 61=v 59:=by have h:v 61=if v 58≠0 then 0 else v 59:=Pq hs;rw [h,y53];rfl
 have w62:v 62=v 60:=by have h:v 62=if v 58≠0 then 0 else v 60:=O9 hs;rw [h,y53];rfl
 have k63:v 63=1:=by have h:v 63=b2i (decide (v 44>=-2147483648)):=MZ hs;rw [h,decide_eq_true (by clear RN;omega)];rfl
 have k64:v 64=1:=by have h:v 64=b2i (decide (v 44<=v 45)):=O6 hs;rw [h,decide_eq_true (by clear RN;omega)];rfl
 have k66:v 66=1:=by have h:v 66=b2i (decide (v 45<=2147483648)):=Nq hs;rw [h,decide_eq_true (by clear RN;omega)];rfl
 have w69:v 69=-(v 45):=by have h:v 69=IntKind.i64.wrap (0-v 45):=NA hs;rw [h,Go.IntWalk.i64_in _ (by omega)];omega
 have w70:v 70=-(v 44):=by have h:v 70=IntKind.i64.wrap (0-v 44):=Oi hs;rw [h,Go.IntWalk.i64_in _ (by omega)];omega
 have y63:v 68=0:=Nf hs k63 k64 k66;have w71:v 71=v 69:=by have h:v 71=if v 68≠0 then 0 else v 69:=MI hs;rw [h,y63];rfl
 have w72:v 72=v 70:=by have h:v 72=if v 68≠0 then 0 else v 70:=Lv hs;rw [h,y63];rfl
 have k73:v 73=1:=by have h:v 73=b2i (decide (v 46>=-2147483648)):=PE hs;rw [h,decide_eq_true (by clear RN;omega)];rfl
 have k74:v 74=1:=by have h:v 74=b2i (decide (v 46<=v 47)):=NW hs;rw [h,decide_eq_true (by clear RN;omega)];rfl
 have k76:v 76=1:=by have h:v 76=b2i (decide (v 47<=2147483648)):=OE hs;rw [h,decide_eq_true (by clear RN;omega)];rfl
 have w79:v 79=-(v 47):=by have h:v 79=IntKind.i64.wrap (0-v 47):=PS hs;rw [h,Go.IntWalk.i64_in _ (by omega)];omega
 have w80:v 80=-(v 46):=by have h:v 80=IntKind.i64.wrap (0-v 46):=LQ hs;rw [h,Go.IntWalk.i64_in _ (by omega)];omega
 have y73:v 78=0:=Oa hs k73 k74 k76;have w81:v 81=v 79:=by have h:v 81=if v 78≠0 then 0 else v 79:=Ml hs;rw [h,y73];rfl
 have w82:v 82=v 80:=by have h:v 82=if v 78≠0 then 0 else v 80:=Pz hs;rw [h,y73];rfl
 have k83:v 83=1:=by have h:v 83=b2i (v 35==v 61):=ML hs;have g:v 35=v 61:=(by rw [w61,w59];clear RN;omega);rw [h,g,beq_self_eq_true];rfl
 have k84:v 84=1:=by have h:v 84=b2i (v 36==v 62):=OI hs;have g:v 36=v 62:=(by rw [w62,w60];clear RN;omega);rw [h,g,beq_self_eq_true];rfl
 have k85:v 85=1:=by have h:v 85=b2i (v 37==v 71):=Nz hs;have g:v 37=v 71:=(by rw [w71,w69];clear RN;omega);rw [h,g,beq_self_eq_true];rfl
 have k86:v 86=1:=by have h:v 86=b2i (v 38==v 72):=L8 hs;have g:v 38=v 72:=(by rw [w72,w70];clear RN;omega);rw [h,g,beq_self_eq_true];rfl
 have k87:v 87=1:=by have h:v 87=b2i (v 39==v 81):=NR hs;have g:v 39=v 81:=(by rw [w81,w79];clear RN;omega);rw [h,g,beq_self_eq_true];rfl
 have k88:v 88=1:=by have h:v 88=b2i (v 40==v 82):=MN hs;have g:v 40=v 82:=(by rw [w82,w80];clear RN;omega);rw [h,g,beq_self_eq_true];rfl
 have k104:v 104=0:=by have h:v 104=b2i (decide (v 95>0)):=IB hs;rw [h,decide_eq_false (by exact Int.not_lt.2 RN.1.1)];rfl
 have k106:v 106=0:=by have h:v 106=b2i (decide (v 96<0)):=Ka hs;rw [h,decide_eq_false (by exact Int.not_lt.2 RN.1.2)];rfl
 have k108:v 108=0:=by have h:v 108=b2i (decide (v 98>0)):=KI hs;rw [h,decide_eq_false (by exact Int.not_lt.2 RN.2.1)];rfl
 have k110:v 110=0:=by have h:v 110=b2i (decide (v 99<0)):=Im hs;rw [h,decide_eq_false (by exact Int.not_lt.2 RN.2.2)];rfl
 have SO:=FL V11;rw [<-e113,<-e114] at SO;have k123:v 123=1:=by have h:v 123=b2i (v 113==0):=Iu hs;rw [h,SO.1];rfl
 have k125:v 125=1:=by have h:v 125=b2i (decide (v 114<400)):=Ip hs;rw [h,decide_eq_true (by exact SO.2)];rfl
 have TB:=yL V11 V23;rw [TB.1,TB.2] at e119 e120;have k131:v 131=1:=by have h:v 131=b2i (v 116==v 119):=Ir hs;have g:v 116=v 119:=(by rw [e116,e119]);rw [h,g,beq_self_eq_true];rfl
 have k132:v 132=1:=by have h:v 132=b2i (v 117==v 120):=IL hs;have g:v 117=v 120:=(by rw [e117,e120]);rw [h,g,beq_self_eq_true];rfl
 have x1:=(bM _ _).1 (CJ (smI (crX ((v 13,v 14):IV) ((v 15,v 16):IV) ((v 25,v 26):IV) ((v 27,v 28):IV)) (crX ((v 15,v 16):IV) ((v 11,v 12):IV) ((v 27,v 28):IV) ((v 23,v 24):IV)) (crX ((v 11,v 12):IV) ((v 13,v 14):IV) ((v 23,v 24):IV) ((v 25,v 26):IV))));have x2:=(bM _ _).1 (rM (dt2 ((v 11,v 12):IV) ((v 13,v 14):IV) ((v 23,v 24):IV) ((v 25,v 26):IV)) (uM ((v 15,v 16):IV) ((v 27,v 28):IV)));have BU:=FY B116.2.2.1 x1.2.1 x2.2.1 x1.2.2 ⟨x2.1,x2.2.2⟩ B116.2.2.2;have BU2:0<=v 116/\v 117<=10800000:=by rw [e116,e117];exact BU
 have k135:v 135=1:=by have h:v 135=b2i (decide (v 116>=0)):=Ls hs;rw [h,decide_eq_true (by exact BU2.1)];rfl
 have k137:v 137=1:=by have h:v 137=b2i (decide (v 117<=10800000)):=Jk hs;rw [h,decide_eq_true (by exact BU2.2)];rfl
 intro x hx;have hx':x=.bool (decide (v 147≠0)):=hx;have hr:v 147=1:=Jj hs k17 k29 k41 k48 k53 k54 k56 k63 k64 k66 k73 k74 k76 k83 k84 k85 k86 k87 k88 k97 k100 k104 k106 k108 k110 k115 k118 k121 k123 k125 k131 k132 k135 k137;rw [hx',hr];rfl
