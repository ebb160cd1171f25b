/- The law: the opposite hour angle has the same altitude, and the azimuth on the other side. -/
import Derived.Test.YtdbaccfgkacffaaGreatZLkM
import Derived.Test.YtdbaccfgkacffaaGreatZLkP
set_option linter.unusedVariables false
set_option linter.unusedSimpArgs false
set_option maxRecDepth 100000
namespace Go.Proofs.YtdbaccfgkacffaaGreat
open Go.RowKit Alm Sx
theorem Zv (a b c d m n:Int) (h:(bK a b c d m n).getD 4 0≠0):(bK a b c d m n).getD 0 0=0/\(bK a b c d m n).getD 1 0=0/\(bK a b c d m n).getD 2 0=0/\(bK a b c d m n).getD 3 0=0:=by
 unfold bK at *
 split at h
 . rename_i hT
   rw [if_pos hT] at *
   unfold lkV at *
   split at h
   . rename_i q;rw [if_pos q];exact ⟨rfl,rfl,rfl,rfl⟩
   . rename_i q;rw [if_neg q]
     split at h
     . rename_i q;rw [if_pos q];exact ⟨rfl,rfl,rfl,rfl⟩
     . rename_i q;rw [if_neg q]
       split at h
       . rename_i q;rw [if_pos q]
         unfold lkF at *
         split at h
         . rename_i q;rw [if_pos q];exact ⟨rfl,rfl,rfl,rfl⟩
         . exact absurd rfl h
       . rename_i q;rw [if_neg q];exact ⟨rfl,rfl,rfl,rfl⟩
 . rename_i hT
   rw [if_neg hT];exact ⟨rfl,rfl,rfl,rfl⟩
theorem Zd {a b c d m n:Int} (h:(bK a b c d m n).getD 4 0=0):dI a b c d m n:=by
 by_cases hT:dI a b c d m n
 . exact hT
 . rw [show bK a b c d m n=[0,0,0,0,1] from if_neg hT] at h
   exact absurd h (by decide)
def spM:List Sx.Spec:=[vR,Df]
theorem Yj (args:List Int):∀ s∈spM,aO Tryz.prog (kG args) s:=by
 intro s hs;simp only [spM,List.mem_cons,List.not_mem_nil,or_false] at hs;rcases hs with rfl|rfl
 . exact tO args
 . exact wM args
def iQ:List Nd:=[.arg 0,.arg 1,.arg 2,.arg 3,.arg 4,.arg 5,.app 20 0 [],.ite 6 (.c 0) (.c 1),.ite 7 (.c 0) (.c 1),.app 97 0 [0,1,2,3,4,5],.app 97 1 [0,1,2,3,4,5],.app 97 2 [0,1,2,3,4,5],.app 97 3 [0,1,2,3,4,5],.app 97 4 [0,1,2,3,4,5],.bin .neq .i64 13 (.c 0),.bin .eql .i64 9 (.c 0),.bin .eql .i64 10 (.c 0),.bin .eql .i64 11 (.c 0),.bin .eql .i64 12 (.c 0),.ite 17 18 (.c 0),.ite 16 19 (.c 0),.ite 15 20 (.c 0),.ite 14 (.c 0) (.c 1),.bin .sub .i64 (.c 0) 5,.bin .sub .i64 (.c 0) 4,.app 97 0 [0,1,2,3,23,24],.app 97 1 [0,1,2,3,23,24],.app 97 2 [0,1,2,3,23,24],.app 97 3 [0,1,2,3,23,24],.app 97 4 [0,1,2,3,23,24],.bin .leq .i64 27 28,.bin .geq .i64 27 (.c (-1099511627776)),.bin .leq .i64 27 (.c 1099511627776),.ite 31 32 (.c 0),.ite 30 33 (.c 0),.bin .geq .i64 28 (.c (-1099511627776)),.bin .leq .i64 28 (.c 1099511627776),.ite 35 36 (.c 0),.ite 34 37 (.c 0),.ite 38 (.c 0) (.c 1),.bin .sub .i64 (.c 0) 28,.bin .sub .i64 (.c 0) 27,.bin .geq .i64 40 (.c (-1099511627776)),.bin .leq .i64 40 (.c 1099511627776),.ite 42 43 (.c 0),.ite 44 (.c 0) (.c 1),.bin .geq .i64 41 (.c (-1099511627776)),.bin .leq .i64 41 (.c 1099511627776),.ite 46 47 (.c 0),.ite 48 (.c 0) (.c 1),.ite 45 (.c 1) 49,.ite 50 (.c 0) (.c 1),.ite 50 (.c 5) (.c 0),.ite 50 (.c 0) 40,.ite 50 (.c 0) 41,.ite 39 (.c 1) 52,.ite 39 (.c 0) 53,.ite 39 (.c 0) 54,.bin .sub .i64 57 56,.bin .leq .i64 56 57,.bin .geq .i64 56 (.c (-1099511627776)),.bin .leq .i64 56 (.c 1099511627776),.ite 60 61 (.c 0),.ite 59 62 (.c 0),.bin .geq .i64 57 (.c (-1099511627776)),.bin .leq .i64 57 (.c 1099511627776),.ite 64 65 (.c 0),.ite 63 66 (.c 0),.ite 67 (.c 0) (.c 1),.bin .geq .i64 58 (.c 21600000),.bin .rem .i64 56 (.c 21600000),.bin .lss .i64 70 (.c 0),.bin .add .i64 70 (.c 21600000),.ite 71 (.c 0) (.c 1),.ite 71 72 70,.bin .add .i64 74 58,.ite 69 (.c 0) (.c 1),.ite 69 (.c 0) 74,.ite 69 (.c 21600000) 75,.ite 68 (.c 0) 77,.ite 68 (.c 0) 78,.bin .eql .i64 29 (.c 0),.bin .eql .i64 55 (.c 0),.ite 81 82 (.c 0),.bin .eql .i64 68 (.c 0),.ite 83 84 (.c 0),.bin .eql .i64 25 9,.bin .eql .i64 26 10,.ite 86 87 (.c 0),.ite 85 88 (.c 0),.bin .eql .i64 79 11,.bin .eql .i64 80 12,.ite 90 91 (.c 0),.bin .sub .i64 12 11,.bin .geq .i64 93 (.c 21600000),.bin .sub .i64 28 27,.bin .geq .i64 95 (.c 21600000),.ite 94 96 (.c 0),.ite 92 (.c 1) 97,.ite 89 98 (.c 0),.ite 14 21 99,.ite 7 (.c 0) 100]
def ZT:List Vc:=[⟨[],.pre 20 []⟩,⟨[(8,true)],.pre 97 [0,1,2,3,4,5]⟩,⟨[(22,true),(8,true)],.pre 97 [0,1,2,3,23,24]⟩]
theorem Y9:whole Tryz.prog spM 20 40 4 [(true,[some .i64,some .i64,some .i64,some .i64,some .i64,some .i64])]=some (.p (.c (.bool (.n 101))),⟨iQ.reverse,ZT.reverse⟩):=by kernel_rfl
theorem YF:wfN iQ.reverse=true:=by kernel_rfl
theorem abK {args:List Int} {v:Nat->Int} (hs:gF (kG args) v iQ.reverse) (h:v 13=0) (h29:v 29=0) (h25:v 25=v 9) (h26:v 26=v 10) (f:0<=v 27/\v 27<21600000/\v 27<=v 28/\v 28<=v 27+21600000) (g:0<=v 11/\v 11<21600000/\v 11<=v 12/\v 12<=v 11+21600000) (L:(trL (-v 28) (-v 27)=v 11/\trH (-v 28) (-v 27)=v 12)∨(v 12-v 11>=21600000/\v 28-v 27>=21600000)):v 101=1:=by
 have a38:v 38=b2i (aY (v 27) (v 28)):=jW (aa hs 30 rfl) (aa hs 31 rfl) (aa hs 32 rfl) (aa hs 33 rfl) (aa hs 34 rfl) (aa hs 35 rfl) (aa hs 36 rfl) (aa hs 37 rfl) (aa hs 38 rfl)
 have k38:v 38=1:=by
  rw [a38,(aL _ _).2 (by omega)];rfl
 have e40:v 40=-v 28:=by rw [show v 40=IntKind.i64.wrap ((0:Int)-v 28) from (aa hs 40 rfl),Go.IntWalk.i64_in _ (by omega)];omega
 have e41:v 41=-v 27:=by rw [show v 41=IntKind.i64.wrap ((0:Int)-v 27) from (aa hs 41 rfl),Go.IntWalk.i64_in _ (by omega)];omega
 have k44:v 44=1:=by rw [show v 44=if v 42≠0 then v 43 else (0:Int) from (aa hs 44 rfl),show v 42=b2i (decide (v 40>=(-1099511627776:Int))) from (aa hs 42 rfl),show v 43=b2i (decide (v 40<=(1099511627776:Int))) from (aa hs 43 rfl),decide_eq_true (by omega),decide_eq_true (by omega)];rfl
 have k48:v 48=1:=by rw [show v 48=if v 46≠0 then v 47 else (0:Int) from (aa hs 48 rfl),show v 46=b2i (decide (v 41>=(-1099511627776:Int))) from (aa hs 46 rfl),show v 47=b2i (decide (v 41<=(1099511627776:Int))) from (aa hs 47 rfl),decide_eq_true (by omega),decide_eq_true (by omega)];rfl
 have z56:v 56=v 40:=av (X:=kG args) (v:=v) (l:=iQ) (fT (lH _) rfl) hs (k:=56) (r:=.n 40) (ps:=[(38,.c 1),(44,.c 1),(48,.c 1)]) (nz:=[]) (ae k38 (ae k44 (ae k48 ax))) aA (by kernel_rfl)
 have z57:v 57=v 41:=av (X:=kG args) (v:=v) (l:=iQ) (fT (lH _) rfl) hs (k:=57) (r:=.n 41) (ps:=[(38,.c 1),(44,.c 1),(48,.c 1)]) (nz:=[]) (ae k38 (ae k44 (ae k48 ax))) aA (by kernel_rfl)
 have a67:v 67=b2i (aY (v 56) (v 57)):=jW (aa hs 59 rfl) (aa hs 60 rfl) (aa hs 61 rfl) (aa hs 62 rfl) (aa hs 63 rfl) (aa hs 64 rfl) (aa hs 65 rfl) (aa hs 66 rfl) (aa hs 67 rfl)
 have k67:v 67=1:=by
  rw [a67,(aL _ _).2 (by omega)];rfl
 have z74:v 74=v 56%21600000:=dJ (by omega) (aa hs 70 rfl) (aa hs 71 rfl) (aa hs 72 rfl) (aa hs 74 rfl)
 have e58:v 58=v 57-v 56:=by rw [show v 58=IntKind.i64.wrap (v 57-v 56) from (aa hs 58 rfl),Go.IntWalk.i64_in _ (by omega)]
 have e75:v 75=v 74+v 58:=by rw [show v 75=IntKind.i64.wrap (v 74+v 58) from (aa hs 75 rfl),Go.IntWalk.i64_in _ (by omega)]
 have k69:v 69=b2i (decide (v 58>=(21600000:Int))):=(aa hs 69 rfl);have e77:v 77=if v 69≠0 then (0:Int) else v 74:=(aa hs 77 rfl)
 have e78:v 78=if v 69≠0 then (21600000:Int) else v 75:=(aa hs 78 rfl)
 have y79:v 79=v 77:=av (X:=kG args) (v:=v) (l:=iQ) (fT (lH _) rfl) hs (k:=79) (r:=.n 77) (ps:=[(67,.c 1)]) (nz:=[]) (ae k67 ax) aA (by kernel_rfl)
 have y80:v 80=v 78:=av (X:=kG args) (v:=v) (l:=iQ) (fT (lH _) rfl) hs (k:=80) (r:=.n 78) (ps:=[(67,.c 1)]) (nz:=[]) (ae k67 ax) aA (by kernel_rfl)
 rcases L with ⟨l1,l2⟩|⟨l1,l2⟩
 . have t1:v 79=trL (-v 28) (-v 27):=by
    rw [y79,e77,k69]
    by_cases w:v 58>=21600000
    . rw [decide_eq_true w];exact (if_pos (show -v 27 - -v 28>=21600000 by omega)).symm
    . rw [decide_eq_false w,show trL (-v 28) (-v 27)=-v 28%21600000 from if_neg (show ¬ (-v 27 - -v 28>=21600000) by omega),<-e40,<-z56,<-z74]
      rfl
   have t2:v 80=trH (-v 28) (-v 27):=by
    rw [y80,e78,k69]
    by_cases w:v 58>=21600000
    . rw [decide_eq_true w];exact (if_pos (show -v 27 - -v 28>=21600000 by omega)).symm
    . rw [decide_eq_false w,show trH (-v 28) (-v 27)=-v 28%21600000+(-v 27 - -v 28) from if_neg (show ¬ (-v 27 - -v 28>=21600000) by omega),<-e40,<-e41,<-z56,<-z57,<-z74,<-e58,<-e75]
      rfl
   have y11:=t1.trans l1;have y12:=t2.trans l2;exact av (X:=kG args) (v:=v) (l:=iQ) (fT (lH _) rfl) hs (k:=101) (r:=.c 1) (ps:=[(13,.c 0),(25,.n 9),(26,.n 10),(29,.c 0),(38,.c 1),(44,.c 1),(48,.c 1),(67,.c 1),(79,.n 11),(80,.n 12)]) (nz:=[]) (ae h (ae h25 (ae h26 (ae h29 (ae k38 (ae k44 (ae k48 (ae k67 (ae y11 (ae y12 ax)))))))))) aA (by kernel_rfl)
 . have k94:v 94=1:=by rw [show v 94=b2i (decide (v 93>=(21600000:Int))) from (aa hs 94 rfl),show v 93=IntKind.i64.wrap (v 12-v 11) from (aa hs 93 rfl),Go.IntWalk.i64_in _ (by omega),decide_eq_true l1];rfl
   have k96:v 96=1:=by rw [show v 96=b2i (decide (v 95>=(21600000:Int))) from (aa hs 96 rfl),show v 95=IntKind.i64.wrap (v 28-v 27) from (aa hs 95 rfl),Go.IntWalk.i64_in _ (by omega),decide_eq_true l2];rfl
   have k97:v 97=1:=av (X:=kG args) (v:=v) (l:=iQ) (fT (lH _) rfl) hs (k:=97) (r:=.c 1) (ps:=[(94,.c 1),(96,.c 1)]) (nz:=[]) (ae k94 (ae k96 ax)) aA (by kernel_rfl)
   have k98:v 98=1:=by
    rw [show v 98=if v 92≠0 then (1:Int) else v 97 from (aa hs 98 rfl),k97];split<;>rfl
   exact av (X:=kG args) (v:=v) (l:=iQ) (fT (lH _) rfl) hs (k:=101) (r:=.c 1) (ps:=[(13,.c 0),(25,.n 9),(26,.n 10),(29,.c 0),(38,.c 1),(44,.c 1),(48,.c 1),(67,.c 1),(98,.c 1)]) (nz:=[]) (ae h (ae h25 (ae h26 (ae h29 (ae k38 (ae k44 (ae k48 (ae k67 (ae k98 ax))))))))) aA (by kernel_rfl)
theorem aam {args:List Int} {v:Nat->Int} (hs:gF (kG args) v iQ.reverse) (h:v 13≠0) (h9:v 9=0) (h10:v 10=0) (h11:v 11=0) (h12:v 12=0):v 101=1:=by
 have k14:v 14=1:=by rw [show v 14=b2i (v 13 != (0:Int)) from (aa hs 14 rfl),show (v 13 != 0)=true by simpa using h];rfl
 exact av (X:=kG args) (v:=v) (l:=iQ) (fT (lH _) rfl) hs (k:=101) (r:=.c 1) (ps:=[(9,.c 0),(10,.c 0),(11,.c 0),(12,.c 0),(14,.c 1)]) (nz:=[]) (ae h9 (ae h10 (ae h11 (ae h12 (ae k14 ax))))) aA (by kernel_rfl)
theorem R8 (a0 a1 a2 a3 a4 a5:Int) (w:World):Calls Tryz.prog 4 #[.agg #[.int .i64 a0,.int .i64 a1,.int .i64 a2,.int .i64 a3,.int .i64 a4,.int .i64 a5]] w fun e w'=>e=.returned (.bool true)/\Below w.heap.size w w':=by
 refine Sx.calls (X:=kG [a0,a1,a2,a3,a4,a5]) dN (Yj _) Y9 YF (fun v hs=>?_) w
 have P0:v 9=(bK (v 0) (v 1) (v 2) (v 3) (v 4) (v 5)).getD 0 0:=aa hs 9 rfl;have Q0:v 25=(bK (v 0) (v 1) (v 2) (v 3) (v 23) (v 24)).getD 0 0:=aa hs 25 rfl;have P1:v 10=(bK (v 0) (v 1) (v 2) (v 3) (v 4) (v 5)).getD 1 0:=aa hs 10 rfl;have Q1:v 26=(bK (v 0) (v 1) (v 2) (v 3) (v 23) (v 24)).getD 1 0:=aa hs 26 rfl;have P2:v 11=(bK (v 0) (v 1) (v 2) (v 3) (v 4) (v 5)).getD 2 0:=aa hs 11 rfl;have Q2:v 27=(bK (v 0) (v 1) (v 2) (v 3) (v 23) (v 24)).getD 2 0:=aa hs 27 rfl;have P3:v 12=(bK (v 0) (v 1) (v 2) (v 3) (v 4) (v 5)).getD 3 0:=aa hs 12 rfl;have Q3:v 28=(bK (v 0) (v 1) (v 2) (v 3) (v 23) (v 24)).getD 3 0:=aa hs 28 rfl;have P4:v 13=(bK (v 0) (v 1) (v 2) (v 3) (v 4) (v 5)).getD 4 0:=aa hs 13 rfl;have Q4:v 29=(bK (v 0) (v 1) (v 2) (v 3) (v 23) (v 24)).getD 4 0:=aa hs 29 rfl
 have Z:v 101=1:=by
  by_cases h:v 13=0
  . have h0:=P4.symm.trans h;have T:=(Zd h0).2.2;have e23:v 23=-v 5:=by rw [show v 23=IntKind.i64.wrap ((0:Int)-v 5) from aa hs 23 rfl,Go.IntWalk.i64_in _ (by omega)];omega
    have e24:v 24=-v 4:=by rw [show v 24=IntKind.i64.wrap ((0:Int)-v 4) from aa hs 24 rfl,Go.IntWalk.i64_in _ (by omega)];omega
    rw [e23,e24] at Q0 Q1 Q2 Q3 Q4;have M:=X5 (v 0) (v 1) (v 2) (v 3) (v 4) (v 5) h0;have F:=NK (v 0) (v 1) (v 2) (v 3) (-v 5) (-v 4) M.1;have G:=NK (v 0) (v 1) (v 2) (v 3) (v 4) (v 5) h0;rw [<-P0,<-P1,<-P2,<-P3,<-Q0,<-Q1,<-Q2,<-Q3,<-Q4] at M;rw [<-Q2,<-Q3] at F;rw [<-P2,<-P3] at G;exact abK hs h M.1 M.2.1 M.2.2.1 F G M.2.2.2
  . have h0:(bK (v 0) (v 1) (v 2) (v 3) (v 4) (v 5)).getD 4 0≠0:=fun q=>h (P4.trans q)
    have E:=Zv (v 0) (v 1) (v 2) (v 3) (v 4) (v 5) h0;exact aam hs h (P0.trans E.1) (P1.trans E.2.1) (P2.trans E.2.2.1) (P3.trans E.2.2.2)
 refine ⟨aT ?_,?_⟩
 . exact ag (fun _=>trivial) (ag (fun _=>trivial) (ag (fun _=>trivial) (aU)))
 . intro x hx0;have hx':=bG (v:=v) (by rfl) hx0
   rw [hx'];show Value.bool (decide (v 101≠0))=_;rw [Z];rfl
