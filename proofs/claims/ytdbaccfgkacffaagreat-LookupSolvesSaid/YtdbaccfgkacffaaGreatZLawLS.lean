/- The law on the solution by tables. -/
import Derived.Test.YtdbaccfgkacffaaGreatZLkX
import Derived.Test.YtdbaccfgkacffaaGreatZLkP
set_option linter.unusedVariables false
set_option linter.unusedSimpArgs false
set_option maxRecDepth 100000
namespace Go.Proofs.YtdbaccfgkacffaaGreat
open Go.RowKit Alm Sx
def kZ (f:Nat):Bool:=f==98
def ad3:Nat->List Int->List Int
 | 98,[a,b,c,d,m,n]=>[(lkV a b c d m n).getD 0 0,(lkV a b c d m n).getD 1 0,(lkV a b c d m n).getD 2 0,(lkV a b c d m n).getD 3 0,(lkV a b c d m n).getD 4 0]
 | _,_=>[]
def ad4:Nat->List Int->Prop
 | 98,[a,b,c,d,m,n]=>dI a b c d m n
 | _,_=>False
def cxZ (args:List Int):Cx:=(kG args).plus kZ ad3 ad4
theorem WO (args:List Int):uk (cxZ args):=jY (lH args) fun f h=>by
 unfold kZ;rcases h with h|rfl
 . simp;omega
 . rfl
def aaP:Sx.Spec:=⟨13,98,[(true,[some .i64,some .i64,some .i64,some .i64,some .i64,some .i64])],[(true,[some .i64,some .i64,some .i64,some .i64]),(false,[some .i64])]⟩
def spZ:List Sx.Spec:=[vR,Df,aaP,aau]
theorem Ye (args:List Int):∀ s∈spZ,aO Tryz.prog (cxZ args) s:=by
 intro s hs;simp only [spZ,List.mem_cons,List.not_mem_nil,or_false] at hs;rcases hs with rfl|rfl|rfl|rfl
 . exact dm rfl (tO args)
 . exact dm rfl (wM args)
 . refine dK rfl (ours _ _ _ Tryz.func13 rfl (by kernel_rfl)) fun xs hp w=>?_
   match xs,hp with
   | [a,b,c,d,m,n],hp=>exact Ve a b c d m n w hp
 . exact dm rfl (dm rfl (Js args _ (by simp [NL])))
def AJ:List Nd:=[.arg 0,.arg 1,.arg 2,.arg 3,.arg 4,.arg 5,.app 20 0 [],.ite 6 (.c 0) (.c 1),.ite 7 (.c 0) (.c 1),.app 97 0 [0,1,2,3,4,5],.app 97 1 [0,1,2,3,4,5],.app 97 2 [0,1,2,3,4,5],.app 97 3 [0,1,2,3,4,5],.app 97 4 [0,1,2,3,4,5],.app 52 0 [0,1,2,3,4,5],.ite 14 (.c 0) (.c 1),.bin .eql .i64 9 (.c 0),.bin .eql .i64 10 (.c 0),.bin .eql .i64 11 (.c 0),.bin .eql .i64 12 (.c 0),.ite 18 19 (.c 0),.ite 17 20 (.c 0),.ite 16 21 (.c 0),.bin .eql .i64 13 (.c 1),.ite 22 23 (.c 0),.ite 15 (.c 0) (.c 1),.app 98 0 [0,1,2,3,4,5],.app 98 1 [0,1,2,3,4,5],.app 98 2 [0,1,2,3,4,5],.app 98 3 [0,1,2,3,4,5],.app 98 4 [0,1,2,3,4,5],.bin .eql .i64 9 26,.bin .eql .i64 10 27,.bin .eql .i64 11 28,.bin .eql .i64 12 29,.ite 33 34 (.c 0),.ite 32 35 (.c 0),.ite 31 36 (.c 0),.bin .eql .i64 13 30,.ite 37 38 (.c 0),.ite 15 24 39,.ite 7 (.c 0) 40]
def YP:List Vc:=[⟨[],.pre 20 []⟩,⟨[(8,true)],.pre 97 [0,1,2,3,4,5]⟩,⟨[(8,true)],.pre 52 [0,1,2,3,4,5]⟩,⟨[(25,true),(8,true)],.pre 98 [0,1,2,3,4,5]⟩]
theorem Zm:whole Tryz.prog spZ 20 40 3 [(true,[some .i64,some .i64,some .i64,some .i64,some .i64,some .i64])]=some (.p (.c (.bool (.n 41))),⟨AJ.reverse,YP.reverse⟩):=by kernel_rfl
theorem WW:wfN AJ.reverse=true:=by kernel_rfl
theorem Uk (a0 a1 a2 a3 a4 a5:Int) (w:World):Calls Tryz.prog 3 #[.agg #[.int .i64 a0,.int .i64 a1,.int .i64 a2,.int .i64 a3,.int .i64 a4,.int .i64 a5]] w fun e w'=>e=.returned (.bool true)/\Below w.heap.size w w':=by
 refine Sx.calls (X:=cxZ [a0,a1,a2,a3,a4,a5]) dN (Ye _) Zm WW (fun v hs=>?_) w
 have w14:v 14=b2i (decide (dI (v 0) (v 1) (v 2) (v 3) (v 4) (v 5))):=aa hs 14 rfl;have P0:v 9=(bK (v 0) (v 1) (v 2) (v 3) (v 4) (v 5)).getD 0 0:=aa hs 9 rfl;have Q0:v 26=(lkV (v 0) (v 1) (v 2) (v 3) (v 4) (v 5)).getD 0 0:=aa hs 26 rfl;have P1:v 10=(bK (v 0) (v 1) (v 2) (v 3) (v 4) (v 5)).getD 1 0:=aa hs 10 rfl;have Q1:v 27=(lkV (v 0) (v 1) (v 2) (v 3) (v 4) (v 5)).getD 1 0:=aa hs 27 rfl;have P2:v 11=(bK (v 0) (v 1) (v 2) (v 3) (v 4) (v 5)).getD 2 0:=aa hs 11 rfl;have Q2:v 28=(lkV (v 0) (v 1) (v 2) (v 3) (v 4) (v 5)).getD 2 0:=aa hs 28 rfl;have P3:v 12=(bK (v 0) (v 1) (v 2) (v 3) (v 4) (v 5)).getD 3 0:=aa hs 12 rfl;have Q3:v 29=(lkV (v 0) (v 1) (v 2) (v 3) (v 4) (v 5)).getD 3 0:=aa hs 29 rfl;have P4:v 13=(bK (v 0) (v 1) (v 2) (v 3) (v 4) (v 5)).getD 4 0:=aa hs 13 rfl;have Q4:v 30=(lkV (v 0) (v 1) (v 2) (v 3) (v 4) (v 5)).getD 4 0:=aa hs 30 rfl
 have Z:v 41=1:=by
  by_cases hT:dI (v 0) (v 1) (v 2) (v 3) (v 4) (v 5)
  . rw [show bK (v 0) (v 1) (v 2) (v 3) (v 4) (v 5)=lkV (v 0) (v 1) (v 2) (v 3) (v 4) (v 5) from if_pos hT] at P0 P1 P2 P3 P4
    have k14:v 14=1:=by rw [w14,decide_eq_true hT];rfl
    have q0:v 26=v 9:=Q0.trans P0.symm;have q1:v 27=v 10:=Q1.trans P1.symm;have q2:v 28=v 11:=Q2.trans P2.symm;have q3:v 29=v 12:=Q3.trans P3.symm;have q4:v 30=v 13:=Q4.trans P4.symm;have z41:v 41=1:=av (X:=cxZ [a0,a1,a2,a3,a4,a5]) (v:=v) (l:=AJ) (fT (WO _) rfl) hs (k:=41) (r:=.c 1) (ps:=[(14,.c 1),(26,.n 9),(27,.n 10),(28,.n 11),(29,.n 12),(30,.n 13)]) (nz:=[]) (ae k14 (ae q0 (ae q1 (ae q2 (ae q3 (ae q4 ax)))))) aA (by kernel_rfl)
    exact z41
  . rw [show bK (v 0) (v 1) (v 2) (v 3) (v 4) (v 5)=[0,0,0,0,1] from if_neg hT] at P0 P1 P2 P3 P4
    have k14:v 14=0:=by rw [w14,decide_eq_false hT];rfl
    have z41:v 41=1:=av (X:=cxZ [a0,a1,a2,a3,a4,a5]) (v:=v) (l:=AJ) (fT (WO _) rfl) hs (k:=41) (r:=.c 1) (ps:=[(9,.c 0),(10,.c 0),(11,.c 0),(12,.c 0),(13,.c 1),(14,.c 0)]) (nz:=[]) (ae P0 (ae P1 (ae P2 (ae P3 (ae P4 (ae k14 ax)))))) aA (by kernel_rfl)
    exact z41
 refine ⟨aT ?_,?_⟩
 . exact ag (fun _=>trivial) (ag (fun _=>trivial) (ag (fun _=>trivial) (ag (fun hp=>(show dI (v 0) (v 1) (v 2) (v 3) (v 4) (v 5) by
    have h25:v 25≠0:=(aj hp).1;rw [show v 25=if v 15≠0 then (0:Int) else (1:Int) from aa hs 25 rfl,show v 15=if v 14≠0 then (0:Int) else (1:Int) from aa hs 15 rfl,w14] at h25
    by_cases hT:dI (v 0) (v 1) (v 2) (v 3) (v 4) (v 5)
    . exact hT
    . simp [hT,b2i] at h25)) (aU))))
 . intro x hx0;have hx':=bG (v:=v) (by rfl) hx0
   rw [hx'];show Value.bool (decide (v 41≠0))=_;rw [Z];rfl
