/- The law CurrentComposes: what is taken apart is put together. -/
import Derived.Test.YtgmncdmcdgkodaaZCoT
import Derived.Test.YtgmncdmcdgkodaaZTrn
set_option linter.unusedVariables false
set_option linter.unusedSimpArgs false
set_option maxRecDepth 100000
set_option maxHeartbeats 8000000
namespace Go.Proofs.Ytgmncdmcdgkodaa
open Go.RowKit Alm Sx
def Mm:List Sx.Spec:=[qw,yN,qO,LP]
theorem Jl (args:List Int):∀ s∈Mm,az Try.prog (dN args) s:=by
 intro s hs;simp only [Mm,List.mem_cons,List.not_mem_nil,or_false] at hs;rcases hs with rfl|rfl|rfl|rfl
 . exact oQ rfl (vV args _ (by simp [spD,spC]))
 . exact oQ rfl (vV args _ (by simp [spD,spC]))
 . exact oQ rfl (vV args _ (by simp [spD,spC]))
 . exact Fj args
theorem J6:paV 0 0 0 0=[0,0,0,0,0]:=by decide +kernel
theorem JV {a b l h:Int} (hM:MV a b l h) (C:List Int) (hC:C=coV ((paV a b l h).getD 0 0) ((paV a b l h).getD 1 0) ((paV a b l h).getD 2 0) ((paV a b l h).getD 3 0)):(mgV a b l h 0 0 0 0).getD 4 0=5∨(mgV a b l h 0 0 0 0).getD 4 0=0/\(mgV a b l h 0 0 0 0).getD 0 0=C.getD 0 0/\(mgV a b l h 0 0 0 0).getD 1 0=C.getD 1 0/\(mgV a b l h 0 0 0 0).getD 2 0=C.getD 2 0/\(mgV a b l h 0 0 0 0).getD 3 0=C.getD 3 0:=by
 have h0:MV 0 0 0 0:=by unfold MV;decide
 have e:coS (paV a b l h) (paV 0 0 0 0)=C:=by
  rw [hC,J6];unfold coS;rw [show ([0,0,0,0,0]:List Int).getD 0 0=0 from rfl,show ([0,0,0,0,0]:List Int).getD 1 0=0 from rfl,show ([0,0,0,0,0]:List Int).getD 2 0=0 from rfl,show ([0,0,0,0,0]:List Int).getD 3 0=0 from rfl]
  simp only [Int.add_zero]
 unfold mgV;rw [if_pos ⟨hM,h0⟩,e]
 by_cases q:0<=C.getD 2 0/\C.getD 2 0<=C.getD 3 0/\C.getD 3 0<=200000
 . right
   have j:=Sy q;exact ⟨j.2.2.2.2,j.1,j.2.1,j.2.2.1,j.2.2.2.1⟩
 . left
   unfold jnV;rw [if_neg q];rfl
def bu:List Nd:=[
 .arg 0,
 .arg 1,
 .arg 2,
 .arg 3,
 .app 20 0 [],
 .ite (.n 4) (.c 0) (.c 1),
 .ite (.n 5) (.c 0) (.c 1),
 .bin .leq .i64 (.n 0) (.n 1),
 .bin .geq .i64 (.n 0) (.c (-1099511627776)),
 .ite (.n 7) (.n 8) (.c 0),
 .bin .leq .i64 (.n 1) (.c 1099511627776),
 .ite (.n 9) (.n 10) (.c 0),
 .ite (.n 11) (.c 0) (.c 1),
 .bin .gtr .i64 (.n 2) (.n 3),
 .ite (.n 12) (.c 1) (.n 13),
 .bin .lss .i64 (.n 2) (.c 0),
 .ite (.n 14) (.c 1) (.n 15),
 .bin .gtr .i64 (.n 3) (.c 199998),
 .ite (.n 16) (.c 1) (.n 17),
 .ite (.n 18) (.c 0) (.c 1),
 .bin .leq .i64 (.n 0) (.c 1099511627776),
 .ite (.n 8) (.n 20) (.c 0),
 .ite (.n 7) (.n 21) (.c 0),
 .bin .geq .i64 (.n 1) (.c (-1099511627776)),
 .ite (.n 23) (.n 10) (.c 0),
 .ite (.n 22) (.n 24) (.c 0),
 .ite (.n 25) (.c 0) (.c 1),
 .bin .leq .i64 (.n 2) (.n 3),
 .bin .geq .i64 (.n 2) (.c (-1099511627776)),
 .bin .leq .i64 (.n 2) (.c 1099511627776),
 .ite (.n 28) (.n 29) (.c 0),
 .ite (.n 27) (.n 30) (.c 0),
 .bin .geq .i64 (.n 3) (.c (-1099511627776)),
 .bin .leq .i64 (.n 3) (.c 1099511627776),
 .ite (.n 32) (.n 33) (.c 0),
 .ite (.n 31) (.n 34) (.c 0),
 .bin .geq .i64 (.n 2) (.c 0),
 .ite (.n 35) (.n 36) (.c 0),
 .bin .leq .i64 (.n 3) (.c 400000),
 .ite (.n 37) (.n 38) (.c 0),
 .ite (.n 39) (.c 0) (.c 1),
 .ite (.n 26) (.c 1) (.n 40),
 .ite (.n 41) (.c 0) (.c 1),
 .app 37 0 [.n 0,.n 1,.n 2,.n 3],
 .app 37 1 [.n 0,.n 1,.n 2,.n 3],
 .app 37 2 [.n 0,.n 1,.n 2,.n 3],
 .app 37 3 [.n 0,.n 1,.n 2,.n 3],
 .app 37 4 [.n 0,.n 1,.n 2,.n 3],
 .bin .neq .i64 (.n 47) (.c 0),
 .ite (.n 48) (.c 0) (.c 1),
 .ite (.n 48) (.n 47) (.c 0),
 .ite (.n 48) (.c 0) (.n 45),
 .ite (.n 48) (.c 0) (.n 46),
 .ite (.n 48) (.c 0) (.n 43),
 .ite (.n 48) (.c 0) (.n 44),
 .ite (.n 41) (.c 1) (.n 50),
 .ite (.n 41) (.c 0) (.n 51),
 .ite (.n 41) (.c 0) (.n 52),
 .ite (.n 41) (.c 0) (.n 53),
 .ite (.n 41) (.c 0) (.n 54),
 .bin .leq .i64 (.n 58) (.n 59),
 .bin .geq .i64 (.n 58) (.c (-1099511627776)),
 .bin .leq .i64 (.n 58) (.c 1099511627776),
 .ite (.n 61) (.n 62) (.c 0),
 .ite (.n 60) (.n 63) (.c 0),
 .bin .geq .i64 (.n 59) (.c (-1099511627776)),
 .bin .leq .i64 (.n 59) (.c 1099511627776),
 .ite (.n 65) (.n 66) (.c 0),
 .ite (.n 64) (.n 67) (.c 0),
 .bin .geq .i64 (.n 58) (.c (-400000)),
 .ite (.n 68) (.n 69) (.c 0),
 .bin .leq .i64 (.n 59) (.c 400000),
 .ite (.n 70) (.n 71) (.c 0),
 .ite (.n 72) (.c 0) (.c 1),
 .bin .leq .i64 (.n 56) (.n 57),
 .bin .geq .i64 (.n 56) (.c (-1099511627776)),
 .bin .leq .i64 (.n 56) (.c 1099511627776),
 .ite (.n 75) (.n 76) (.c 0),
 .ite (.n 74) (.n 77) (.c 0),
 .bin .geq .i64 (.n 57) (.c (-1099511627776)),
 .bin .leq .i64 (.n 57) (.c 1099511627776),
 .ite (.n 79) (.n 80) (.c 0),
 .ite (.n 78) (.n 81) (.c 0),
 .bin .geq .i64 (.n 56) (.c (-400000)),
 .ite (.n 82) (.n 83) (.c 0),
 .bin .leq .i64 (.n 57) (.c 400000),
 .ite (.n 84) (.n 85) (.c 0),
 .ite (.n 86) (.c 0) (.c 1),
 .ite (.n 73) (.c 1) (.n 87),
 .ite (.n 88) (.c 0) (.c 1),
 .app 38 0 [.n 58,.n 59,.n 56,.n 57],
 .app 38 1 [.n 58,.n 59,.n 56,.n 57],
 .app 38 2 [.n 58,.n 59,.n 56,.n 57],
 .app 38 3 [.n 58,.n 59,.n 56,.n 57],
 .app 38 4 [.n 58,.n 59,.n 56,.n 57],
 .ite (.n 88) (.c 1) (.n 94),
 .ite (.n 88) (.c 0) (.n 92),
 .ite (.n 88) (.c 0) (.n 93),
 .ite (.n 88) (.c 0) (.n 90),
 .ite (.n 88) (.c 0) (.n 91),
 .bin .neq .i64 (.n 55) (.c 0),
 .bin .neq .i64 (.n 95) (.c 0),
 .ite (.n 100) (.c 1) (.n 101),
 .bin .leq .i64 (.n 98) (.n 99),
 .bin .geq .i64 (.n 98) (.c (-1099511627776)),
 .ite (.n 103) (.n 104) (.c 0),
 .bin .leq .i64 (.n 99) (.c 1099511627776),
 .ite (.n 105) (.n 106) (.c 0),
 .bin .sub .i64 (.n 99) (.n 98),
 .bin .geq .i64 (.n 108) (.c 21600000),
 .ite (.n 109) (.c 0) (.c 1),
 .bin .rem .i64 (.n 98) (.c 21600000),
 .bin .lss .i64 (.n 111) (.c 0),
 .bin .add .i64 (.n 111) (.c 21600000),
 .ite (.n 112) (.c 0) (.c 1),
 .ite (.n 112) (.n 113) (.n 111),
 .bin .add .i64 (.n 115) (.n 108),
 .ite (.n 109) (.c 0) (.n 115),
 .ite (.n 109) (.c 21600000) (.n 116),
 .bin .eql .i64 (.n 117) (.n 98),
 .bin .eql .i64 (.n 118) (.n 99),
 .ite (.n 119) (.n 120) (.c 0),
 .ite (.n 107) (.n 121) (.c 0),
 .ite (.n 122) (.c 0) (.c 1),
 .ite (.n 102) (.c 1) (.n 123),
 .bin .leq .i64 (.n 96) (.n 2),
 .bin .leq .i64 (.n 3) (.n 97),
 .ite (.n 125) (.n 126) (.c 0),
 .ite (.n 127) (.c 0) (.c 1),
 .ite (.n 124) (.c 1) (.n 128),
 .bin .sub .i64 (.n 1) (.n 0),
 .bin .geq .i64 (.n 130) (.c 21600000),
 .ite (.n 131) (.c 0) (.c 1),
 .bin .rem .i64 (.n 0) (.c 21600000),
 .bin .lss .i64 (.n 133) (.c 0),
 .bin .add .i64 (.n 133) (.c 21600000),
 .ite (.n 134) (.c 0) (.c 1),
 .ite (.n 134) (.n 135) (.n 133),
 .bin .add .i64 (.n 137) (.n 130),
 .ite (.n 131) (.c 0) (.n 137),
 .ite (.n 131) (.c 21600000) (.n 138),
 .bin .sub .i64 (.n 140) (.n 139),
 .bin .geq .i64 (.n 141) (.c 21600000),
 .ite (.n 142) (.c 0) (.c 1),
 .bin .add .i64 (.n 139) (.c (-21600000)),
 .bin .add .i64 (.n 140) (.c (-21600000)),
 .bin .leq .i64 (.n 98) (.n 144),
 .bin .leq .i64 (.n 145) (.n 99),
 .ite (.n 146) (.n 147) (.c 0),
 .ite (.n 148) (.c 0) (.c 1),
 .bin .add .i64 (.n 139) (.c 0),
 .bin .add .i64 (.n 140) (.c 0),
 .bin .leq .i64 (.n 98) (.n 150),
 .bin .leq .i64 (.n 151) (.n 99),
 .ite (.n 152) (.n 153) (.c 0),
 .ite (.n 154) (.c 0) (.c 1),
 .bin .add .i64 (.n 139) (.c 21600000),
 .bin .add .i64 (.n 140) (.c 21600000),
 .bin .leq .i64 (.n 98) (.n 156),
 .bin .leq .i64 (.n 157) (.n 99),
 .ite (.n 158) (.n 159) (.c 0),
 .ite (.n 160) (.c 0) (.c 1),
 .ite (.n 155) (.n 160) (.c 0),
 .ite (.n 155) (.n 161) (.c 0),
 .ite (.n 154) (.c 1) (.n 162),
 .ite (.n 154) (.c (-1)) (.c 0),
 .ite (.n 154) (.c 0) (.c 21600000),
 .ite (.n 154) (.n 150) (.n 156),
 .ite (.n 154) (.n 151) (.n 157),
 .ite (.n 154) (.n 154) (.n 160),
 .ite (.n 149) (.n 164) (.c 0),
 .ite (.n 149) (.n 163) (.c 0),
 .ite (.n 148) (.c 1) (.n 170),
 .ite (.n 148) (.c (-1)) (.n 155),
 .ite (.n 148) (.c (-21600000)) (.n 166),
 .ite (.n 148) (.n 144) (.n 167),
 .ite (.n 148) (.n 145) (.n 168),
 .ite (.n 148) (.n 148) (.n 169),
 .ite (.n 172) (.c 1) (.n 171),
 .ite (.n 172) (.n 173) (.c 2),
 .ite (.n 172) (.n 173) (.c 1),
 .ite (.n 172) (.n 174) (.c 21600000),
 .ite (.n 172) (.n 175) (.n 156),
 .ite (.n 172) (.n 176) (.n 157),
 .ite (.n 172) (.n 177) (.n 160),
 .ite (.n 143) (.n 178) (.c 0),
 .ite (.n 142) (.c 1) (.n 185),
 .ite (.n 142) (.c 0) (.n 172),
 .ite (.n 110) (.n 186) (.c 0),
 .ite (.n 109) (.c 1) (.n 188),
 .ite (.n 109) (.c 1) (.n 187),
 .ite (.n 109) (.n 0) (.n 139),
 .ite (.n 109) (.n 1) (.n 140),
 .ite (.n 190) (.c 0) (.c 1),
 .ite (.n 129) (.c 1) (.n 193),
 .ite (.n 194) (.c 0) (.c 1),
 .app 47 0 [.n 0,.n 1,.n 2,.n 3,.c 0,.c 0,.c 0,.c 0],
 .app 47 1 [.n 0,.n 1,.n 2,.n 3,.c 0,.c 0,.c 0,.c 0],
 .app 47 2 [.n 0,.n 1,.n 2,.n 3,.c 0,.c 0,.c 0,.c 0],
 .app 47 3 [.n 0,.n 1,.n 2,.n 3,.c 0,.c 0,.c 0,.c 0],
 .app 47 4 [.n 0,.n 1,.n 2,.n 3,.c 0,.c 0,.c 0,.c 0],
 .bin .neq .i64 (.n 200) (.c 0),
 .bin .eql .i64 (.n 200) (.c 5),
 .ite (.n 201) (.c 0) (.c 1),
 .bin .eql .i64 (.n 196) (.n 98),
 .bin .eql .i64 (.n 197) (.n 99),
 .bin .eql .i64 (.n 198) (.n 96),
 .bin .eql .i64 (.n 199) (.n 97),
 .ite (.n 206) (.n 207) (.c 0),
 .ite (.n 205) (.n 208) (.c 0),
 .ite (.n 204) (.n 209) (.c 0),
 .ite (.n 201) (.n 202) (.n 210),
 .ite (.n 194) (.c 0) (.n 211),
 .ite (.n 18) (.c 1) (.n 212),
 .ite (.n 5) (.c 0) (.n 213)]
def MJ:List Vc:=[
 ⟨[],.pre 20 []⟩,
 ⟨[(.n 42,true),(.n 19,true),(.n 6,true)],.pre 37 [.n 0,.n 1,.n 2,.n 3]⟩,
 ⟨[(.n 89,true),(.n 19,true),(.n 6,true)],.pre 38 [.n 58,.n 59,.n 56,.n 57]⟩,
 ⟨[(.n 195,true),(.n 19,true),(.n 6,true)],.pre 47 [.n 0,.n 1,.n 2,.n 3,.c 0,.c 0,.c 0,.c 0]⟩]
theorem Om:whole Try.prog Mm 20 40 9 [(true,[some .i64,some .i64]),(true,[some .i64,some .i64])]=some (.p (.c (.bool (.n 214))),⟨bu.reverse,MJ.reverse⟩):=by kernel_rfl
theorem OM:wfN bu.reverse=true:=by kernel_rfl
theorem IP (a0 a1 a2 a3:Int) (w:World):Calls Try.prog 9 #[.agg #[.int .i64 a0,.int .i64 a1],.agg #[.int .i64 a2,.int .i64 a3]] w fun e w'=>e=.returned (.bool true)/\Below w.heap.size w w':=by
 refine Sx.calls (X:=dN [a0,a1,a2,a3]) fB (Jl _) Om OM (fun v hs=>?_) w
 have e7:v 7=b2i (decide (v 0<=v 1)):=ag hs 7 rfl;have e8:v 8=b2i (decide (v 0>=-1099511627776)):=ag hs 8 rfl;have e10:v 10=b2i (decide (v 1<=1099511627776)):=ag hs 10 rfl;have e13:v 13=b2i (decide (v 2>v 3)):=ag hs 13 rfl;have e15:v 15=b2i (decide (v 2<0)):=ag hs 15 rfl;have e17:v 17=b2i (decide (v 3>199998)):=ag hs 17 rfl
 by_cases hq:v 0<=v 1
 rotate_left
 . have z19:v 19=0:=ay (X:=dN [a0,a1,a2,a3]) (v:=v) (l:=bu) (aT _) hs (k:=19) (r:=.c 0) (ps:=[(7,.c 0)]) (nz:=[]) (ah (by rw [e7,decide_eq_false hq];rfl) aA) aO (by kernel_rfl)
   have zr:v 214=1:=ay (X:=dN [a0,a1,a2,a3]) (v:=v) (l:=bu) (aT _) hs (k:=214) (r:=.c 1) (ps:=[(7,.c 0)]) (nz:=[]) (ah (by rw [e7,decide_eq_false hq];rfl) aA) aO (by kernel_rfl)
   refine ⟨bO ?_,?_⟩
   . exact ak (fun _=>trivial) (ak (fun hp=>absurd z19 ((aD (aD hp).2).1)) (ak (fun hp=>absurd z19 ((aD (aD hp).2).1)) (ak (fun _=>trivial) (bP))))
   . intro x hx;have hx':x=.bool (decide (v 214≠0)):=hx;rw [hx',zr];rfl
 have h7:=hq;have k7:v 7=1:=by rw [e7,decide_eq_true hq];rfl
 clear hq
 by_cases hq:v 0>=-1099511627776
 rotate_left
 . have z19:v 19=0:=ay (X:=dN [a0,a1,a2,a3]) (v:=v) (l:=bu) (aT _) hs (k:=19) (r:=.c 0) (ps:=[(8,.c 0)]) (nz:=[]) (ah (by rw [e8,decide_eq_false hq];rfl) aA) aO (by kernel_rfl)
   have zr:v 214=1:=ay (X:=dN [a0,a1,a2,a3]) (v:=v) (l:=bu) (aT _) hs (k:=214) (r:=.c 1) (ps:=[(8,.c 0)]) (nz:=[]) (ah (by rw [e8,decide_eq_false hq];rfl) aA) aO (by kernel_rfl)
   refine ⟨bO ?_,?_⟩
   . exact ak (fun _=>trivial) (ak (fun hp=>absurd z19 ((aD (aD hp).2).1)) (ak (fun hp=>absurd z19 ((aD (aD hp).2).1)) (ak (fun _=>trivial) (bP))))
   . intro x hx;have hx':x=.bool (decide (v 214≠0)):=hx;rw [hx',zr];rfl
 have h8:=hq;have k8:v 8=1:=by rw [e8,decide_eq_true hq];rfl
 clear hq
 by_cases hq:v 1<=1099511627776
 rotate_left
 . have z19:v 19=0:=ay (X:=dN [a0,a1,a2,a3]) (v:=v) (l:=bu) (aT _) hs (k:=19) (r:=.c 0) (ps:=[(10,.c 0)]) (nz:=[]) (ah (by rw [e10,decide_eq_false hq];rfl) aA) aO (by kernel_rfl)
   have zr:v 214=1:=ay (X:=dN [a0,a1,a2,a3]) (v:=v) (l:=bu) (aT _) hs (k:=214) (r:=.c 1) (ps:=[(10,.c 0)]) (nz:=[]) (ah (by rw [e10,decide_eq_false hq];rfl) aA) aO (by kernel_rfl)
   refine ⟨bO ?_,?_⟩
   . exact ak (fun _=>trivial) (ak (fun hp=>absurd z19 ((aD (aD hp).2).1)) (ak (fun hp=>absurd z19 ((aD (aD hp).2).1)) (ak (fun _=>trivial) (bP))))
   . intro x hx;have hx':x=.bool (decide (v 214≠0)):=hx;rw [hx',zr];rfl
 have h10:=hq;have k10:v 10=1:=by rw [e10,decide_eq_true hq];rfl
 clear hq
 by_cases hq:v 2>v 3
 . have z19:v 19=0:=ay (X:=dN [a0,a1,a2,a3]) (v:=v) (l:=bu) (aT _) hs (k:=19) (r:=.c 0) (ps:=[(13,.c 1)]) (nz:=[]) (ah (by rw [e13,decide_eq_true hq];rfl) aA) aO (by kernel_rfl)
   have zr:v 214=1:=ay (X:=dN [a0,a1,a2,a3]) (v:=v) (l:=bu) (aT _) hs (k:=214) (r:=.c 1) (ps:=[(13,.c 1)]) (nz:=[]) (ah (by rw [e13,decide_eq_true hq];rfl) aA) aO (by kernel_rfl)
   refine ⟨bO ?_,?_⟩
   . exact ak (fun _=>trivial) (ak (fun hp=>absurd z19 ((aD (aD hp).2).1)) (ak (fun hp=>absurd z19 ((aD (aD hp).2).1)) (ak (fun _=>trivial) (bP))))
   . intro x hx;have hx':x=.bool (decide (v 214≠0)):=hx;rw [hx',zr];rfl
 have h13:=hq;have k13:v 13=0:=by rw [e13,decide_eq_false hq];rfl
 clear hq
 by_cases hq:v 2<0
 . have z19:v 19=0:=ay (X:=dN [a0,a1,a2,a3]) (v:=v) (l:=bu) (aT _) hs (k:=19) (r:=.c 0) (ps:=[(15,.c 1)]) (nz:=[]) (ah (by rw [e15,decide_eq_true hq];rfl) aA) aO (by kernel_rfl)
   have zr:v 214=1:=ay (X:=dN [a0,a1,a2,a3]) (v:=v) (l:=bu) (aT _) hs (k:=214) (r:=.c 1) (ps:=[(15,.c 1)]) (nz:=[]) (ah (by rw [e15,decide_eq_true hq];rfl) aA) aO (by kernel_rfl)
   refine ⟨bO ?_,?_⟩
   . exact ak (fun _=>trivial) (ak (fun hp=>absurd z19 ((aD (aD hp).2).1)) (ak (fun hp=>absurd z19 ((aD (aD hp).2).1)) (ak (fun _=>trivial) (bP))))
   . intro x hx;have hx':x=.bool (decide (v 214≠0)):=hx;rw [hx',zr];rfl
 have h15:=hq;have k15:v 15=0:=by rw [e15,decide_eq_false hq];rfl
 clear hq
 by_cases hq:v 3>199998
 . have z19:v 19=0:=ay (X:=dN [a0,a1,a2,a3]) (v:=v) (l:=bu) (aT _) hs (k:=19) (r:=.c 0) (ps:=[(17,.c 1)]) (nz:=[]) (ah (by rw [e17,decide_eq_true hq];rfl) aA) aO (by kernel_rfl)
   have zr:v 214=1:=ay (X:=dN [a0,a1,a2,a3]) (v:=v) (l:=bu) (aT _) hs (k:=214) (r:=.c 1) (ps:=[(17,.c 1)]) (nz:=[]) (ah (by rw [e17,decide_eq_true hq];rfl) aA) aO (by kernel_rfl)
   refine ⟨bO ?_,?_⟩
   . exact ak (fun _=>trivial) (ak (fun hp=>absurd z19 ((aD (aD hp).2).1)) (ak (fun hp=>absurd z19 ((aD (aD hp).2).1)) (ak (fun _=>trivial) (bP))))
   . intro x hx;have hx':x=.bool (decide (v 214≠0)):=hx;rw [hx',zr];rfl
 have h17:=hq;have k17:v 17=0:=by rw [e17,decide_eq_false hq];rfl
 clear hq;have k20:v 20=1:=by have h:v 20=b2i (decide (v 0<=1099511627776)):=ag hs 20 rfl;rw [h,decide_eq_true (by omega)];rfl
 have k23:v 23=1:=by have h:v 23=b2i (decide (v 1>=-1099511627776)):=ag hs 23 rfl;rw [h,decide_eq_true (by omega)];rfl
 have k27:v 27=1:=by have h:v 27=b2i (decide (v 2<=v 3)):=ag hs 27 rfl;rw [h,decide_eq_true (by omega)];rfl
 have k28:v 28=1:=by have h:v 28=b2i (decide (v 2>=-1099511627776)):=ag hs 28 rfl;rw [h,decide_eq_true (by omega)];rfl
 have k29:v 29=1:=by have h:v 29=b2i (decide (v 2<=1099511627776)):=ag hs 29 rfl;rw [h,decide_eq_true (by omega)];rfl
 have k32:v 32=1:=by have h:v 32=b2i (decide (v 3>=-1099511627776)):=ag hs 32 rfl;rw [h,decide_eq_true (by omega)];rfl
 have k33:v 33=1:=by have h:v 33=b2i (decide (v 3<=1099511627776)):=ag hs 33 rfl;rw [h,decide_eq_true (by omega)];rfl
 have k36:v 36=1:=by have h:v 36=b2i (decide (v 2>=0)):=ag hs 36 rfl;rw [h,decide_eq_true (by omega)];rfl
 have k38:v 38=1:=by have h:v 38=b2i (decide (v 3<=400000)):=ag hs 38 rfl;rw [h,decide_eq_true (by omega)];rfl
 have k47:v 47=0:=ag hs 47 rfl;have z56:v 56=v 45:=(by refine aZ (X:=dN [a0,a1,a2,a3]) (v:=v) (l:=bu) (aT _) hs (k:=56) (j:=45) (ps:=[(7,.c 1),(8,.c 1),(10,.c 1),(13,.c 0),(15,.c 0),(17,.c 0),(20,.c 1),(23,.c 1),(27,.c 1),(28,.c 1),(29,.c 1),(32,.c 1),(33,.c 1),(36,.c 1),(38,.c 1),(47,.c 0)]) ?_ (by kernel_rfl);intro y hy;simp only [List.mem_cons,List.not_mem_nil,or_false] at hy;rcases hy with rfl|rfl|rfl|rfl|rfl|rfl|rfl|rfl|rfl|rfl|rfl|rfl|rfl|rfl|rfl|rfl<;>assumption)
 have z57:v 57=v 46:=(by refine aZ (X:=dN [a0,a1,a2,a3]) (v:=v) (l:=bu) (aT _) hs (k:=57) (j:=46) (ps:=[(7,.c 1),(8,.c 1),(10,.c 1),(13,.c 0),(15,.c 0),(17,.c 0),(20,.c 1),(23,.c 1),(27,.c 1),(28,.c 1),(29,.c 1),(32,.c 1),(33,.c 1),(36,.c 1),(38,.c 1),(47,.c 0)]) ?_ (by kernel_rfl);intro y hy;simp only [List.mem_cons,List.not_mem_nil,or_false] at hy;rcases hy with rfl|rfl|rfl|rfl|rfl|rfl|rfl|rfl|rfl|rfl|rfl|rfl|rfl|rfl|rfl|rfl<;>assumption)
 have z58:v 58=v 43:=(by refine aZ (X:=dN [a0,a1,a2,a3]) (v:=v) (l:=bu) (aT _) hs (k:=58) (j:=43) (ps:=[(7,.c 1),(8,.c 1),(10,.c 1),(13,.c 0),(15,.c 0),(17,.c 0),(20,.c 1),(23,.c 1),(27,.c 1),(28,.c 1),(29,.c 1),(32,.c 1),(33,.c 1),(36,.c 1),(38,.c 1),(47,.c 0)]) ?_ (by kernel_rfl);intro y hy;simp only [List.mem_cons,List.not_mem_nil,or_false] at hy;rcases hy with rfl|rfl|rfl|rfl|rfl|rfl|rfl|rfl|rfl|rfl|rfl|rfl|rfl|rfl|rfl|rfl<;>assumption)
 have z59:v 59=v 44:=(by refine aZ (X:=dN [a0,a1,a2,a3]) (v:=v) (l:=bu) (aT _) hs (k:=59) (j:=44) (ps:=[(7,.c 1),(8,.c 1),(10,.c 1),(13,.c 0),(15,.c 0),(17,.c 0),(20,.c 1),(23,.c 1),(27,.c 1),(28,.c 1),(29,.c 1),(32,.c 1),(33,.c 1),(36,.c 1),(38,.c 1),(47,.c 0)]) ?_ (by kernel_rfl);intro y hy;simp only [List.mem_cons,List.not_mem_nil,or_false] at hy;rcases hy with rfl|rfl|rfl|rfl|rfl|rfl|rfl|rfl|rfl|rfl|rfl|rfl|rfl|rfl|rfl|rfl<;>assumption)
 have hpd:=Ay (a:=v 0) (b:=v 1) (l:=v 2) (h:=v 3) (by omega) (by omega)
 have CH:=comp_holds (a:=v 0) (b:=v 1) (l:=v 2) (h:=v 3) (by omega) (by omega) (by omega) (by omega) _ _ rfl rfl
 have MG:=JV (a:=v 0) (b:=v 1) (l:=v 2) (h:=v 3) (by unfold MV;rw [gG];omega) _ rfl
 have p43:v 43=(paV (v 0) (v 1) (v 2) (v 3)).getD 0 0:=ag hs 43 rfl;have p44:v 44=(paV (v 0) (v 1) (v 2) (v 3)).getD 1 0:=ag hs 44 rfl;have p45:v 45=(paV (v 0) (v 1) (v 2) (v 3)).getD 2 0:=ag hs 45 rfl;have p46:v 46=(paV (v 0) (v 1) (v 2) (v 3)).getD 3 0:=ag hs 46 rfl;rw [<-p43,<-p44,<-p45,<-p46] at hpd CH MG;rw [<-z58,<-z59,<-z56,<-z57] at hpd CH MG;have c90:v 90=(coV (v 58) (v 59) (v 56) (v 57)).getD 0 0:=ag hs 90 rfl;have c91:v 91=(coV (v 58) (v 59) (v 56) (v 57)).getD 1 0:=ag hs 91 rfl;have c92:v 92=(coV (v 58) (v 59) (v 56) (v 57)).getD 2 0:=ag hs 92 rfl;have c93:v 93=(coV (v 58) (v 59) (v 56) (v 57)).getD 3 0:=ag hs 93 rfl;rw [<-c90,<-c91,<-c92,<-c93] at CH MG;have k94:v 94=0:=ag hs 94 rfl;have m196:v 196=(mgV (v 0) (v 1) (v 2) (v 3) 0 0 0 0).getD 0 0:=ag hs 196 rfl;have m197:v 197=(mgV (v 0) (v 1) (v 2) (v 3) 0 0 0 0).getD 1 0:=ag hs 197 rfl;have m198:v 198=(mgV (v 0) (v 1) (v 2) (v 3) 0 0 0 0).getD 2 0:=ag hs 198 rfl;have m199:v 199=(mgV (v 0) (v 1) (v 2) (v 3) 0 0 0 0).getD 3 0:=ag hs 199 rfl;have m200:v 200=(mgV (v 0) (v 1) (v 2) (v 3) 0 0 0 0).getD 4 0:=ag hs 200 rfl;rw [<-m196,<-m197,<-m198,<-m199,<-m200] at MG;have BD:(0<=v 90/\v 90<=21599999)/\v 90<=v 91/\v 91<=v 90+21600000:=by rw [c90,c91];have:=JI (4096*v 56) (4096*v 57) (4096*v 58) (4096*v 59);exact ⟨⟨this.1,this.2.1⟩,this.2.2⟩
 have C37:dL (v 0) (v 1)=true/\0<=v 2/\v 2<=v 3/\v 3<=400000:=⟨(gG _ _).2 (by omega),by omega,by omega,by omega⟩
 have C38:(-400000<=v 58/\v 58<=v 59/\v 59<=400000)/\(-400000<=v 56/\v 56<=v 57/\v 57<=400000):=⟨by omega,by omega⟩
 refine ⟨bO ?_,?_⟩
 . exact ak (fun _=>trivial) (ak (fun _=>C37) (ak (fun _=>C38) (ak (fun _=>trivial) (bP))))
 clear p43 p44 p45 p46 c90 c91 c92 c93 m196 m197 m198 m199 m200 z56 z57 z58 z59;have k60:v 60=1:=by have h:v 60=b2i (decide (v 58<=v 59)):=ag hs 60 rfl;rw [h,decide_eq_true (by omega)];rfl
 have k61:v 61=1:=by have h:v 61=b2i (decide (v 58>=-1099511627776)):=ag hs 61 rfl;rw [h,decide_eq_true (by omega)];rfl
 have k62:v 62=1:=by have h:v 62=b2i (decide (v 58<=1099511627776)):=ag hs 62 rfl;rw [h,decide_eq_true (by omega)];rfl
 have k65:v 65=1:=by have h:v 65=b2i (decide (v 59>=-1099511627776)):=ag hs 65 rfl;rw [h,decide_eq_true (by omega)];rfl
 have k66:v 66=1:=by have h:v 66=b2i (decide (v 59<=1099511627776)):=ag hs 66 rfl;rw [h,decide_eq_true (by omega)];rfl
 have k69:v 69=1:=by have h:v 69=b2i (decide (v 58>=-400000)):=ag hs 69 rfl;rw [h,decide_eq_true (by omega)];rfl
 have k71:v 71=1:=by have h:v 71=b2i (decide (v 59<=400000)):=ag hs 71 rfl;rw [h,decide_eq_true (by omega)];rfl
 have k74:v 74=1:=by have h:v 74=b2i (decide (v 56<=v 57)):=ag hs 74 rfl;rw [h,decide_eq_true (by omega)];rfl
 have k75:v 75=1:=by have h:v 75=b2i (decide (v 56>=-1099511627776)):=ag hs 75 rfl;rw [h,decide_eq_true (by omega)];rfl
 have k76:v 76=1:=by have h:v 76=b2i (decide (v 56<=1099511627776)):=ag hs 76 rfl;rw [h,decide_eq_true (by omega)];rfl
 have k79:v 79=1:=by have h:v 79=b2i (decide (v 57>=-1099511627776)):=ag hs 79 rfl;rw [h,decide_eq_true (by omega)];rfl
 have k80:v 80=1:=by have h:v 80=b2i (decide (v 57<=1099511627776)):=ag hs 80 rfl;rw [h,decide_eq_true (by omega)];rfl
 have k83:v 83=1:=by have h:v 83=b2i (decide (v 56>=-400000)):=ag hs 83 rfl;rw [h,decide_eq_true (by omega)];rfl
 have k85:v 85=1:=by have h:v 85=b2i (decide (v 57<=400000)):=ag hs 85 rfl;rw [h,decide_eq_true (by omega)];rfl
 have z96:v 96=v 92:=(by refine aZ (X:=dN [a0,a1,a2,a3]) (v:=v) (l:=bu) (aT _) hs (k:=96) (j:=92) (ps:=[(7,.c 1),(8,.c 1),(10,.c 1),(13,.c 0),(15,.c 0),(17,.c 0),(20,.c 1),(23,.c 1),(27,.c 1),(28,.c 1),(29,.c 1),(32,.c 1),(33,.c 1),(36,.c 1),(38,.c 1),(47,.c 0),(60,.c 1),(61,.c 1),(62,.c 1),(65,.c 1),(66,.c 1),(69,.c 1),(71,.c 1),(74,.c 1),(75,.c 1),(76,.c 1),(79,.c 1),(80,.c 1),(83,.c 1),(85,.c 1),(94,.c 0)]) ?_ (by kernel_rfl);intro y hy;simp only [List.mem_cons,List.not_mem_nil,or_false] at hy;rcases hy with rfl|rfl|rfl|rfl|rfl|rfl|rfl|rfl|rfl|rfl|rfl|rfl|rfl|rfl|rfl|rfl|rfl|rfl|rfl|rfl|rfl|rfl|rfl|rfl|rfl|rfl|rfl|rfl|rfl|rfl|rfl<;>assumption)
 have z97:v 97=v 93:=(by refine aZ (X:=dN [a0,a1,a2,a3]) (v:=v) (l:=bu) (aT _) hs (k:=97) (j:=93) (ps:=[(7,.c 1),(8,.c 1),(10,.c 1),(13,.c 0),(15,.c 0),(17,.c 0),(20,.c 1),(23,.c 1),(27,.c 1),(28,.c 1),(29,.c 1),(32,.c 1),(33,.c 1),(36,.c 1),(38,.c 1),(47,.c 0),(60,.c 1),(61,.c 1),(62,.c 1),(65,.c 1),(66,.c 1),(69,.c 1),(71,.c 1),(74,.c 1),(75,.c 1),(76,.c 1),(79,.c 1),(80,.c 1),(83,.c 1),(85,.c 1),(94,.c 0)]) ?_ (by kernel_rfl);intro y hy;simp only [List.mem_cons,List.not_mem_nil,or_false] at hy;rcases hy with rfl|rfl|rfl|rfl|rfl|rfl|rfl|rfl|rfl|rfl|rfl|rfl|rfl|rfl|rfl|rfl|rfl|rfl|rfl|rfl|rfl|rfl|rfl|rfl|rfl|rfl|rfl|rfl|rfl|rfl|rfl<;>assumption)
 have z98:v 98=v 90:=(by refine aZ (X:=dN [a0,a1,a2,a3]) (v:=v) (l:=bu) (aT _) hs (k:=98) (j:=90) (ps:=[(7,.c 1),(8,.c 1),(10,.c 1),(13,.c 0),(15,.c 0),(17,.c 0),(20,.c 1),(23,.c 1),(27,.c 1),(28,.c 1),(29,.c 1),(32,.c 1),(33,.c 1),(36,.c 1),(38,.c 1),(47,.c 0),(60,.c 1),(61,.c 1),(62,.c 1),(65,.c 1),(66,.c 1),(69,.c 1),(71,.c 1),(74,.c 1),(75,.c 1),(76,.c 1),(79,.c 1),(80,.c 1),(83,.c 1),(85,.c 1),(94,.c 0)]) ?_ (by kernel_rfl);intro y hy;simp only [List.mem_cons,List.not_mem_nil,or_false] at hy;rcases hy with rfl|rfl|rfl|rfl|rfl|rfl|rfl|rfl|rfl|rfl|rfl|rfl|rfl|rfl|rfl|rfl|rfl|rfl|rfl|rfl|rfl|rfl|rfl|rfl|rfl|rfl|rfl|rfl|rfl|rfl|rfl<;>assumption)
 have z99:v 99=v 91:=(by refine aZ (X:=dN [a0,a1,a2,a3]) (v:=v) (l:=bu) (aT _) hs (k:=99) (j:=91) (ps:=[(7,.c 1),(8,.c 1),(10,.c 1),(13,.c 0),(15,.c 0),(17,.c 0),(20,.c 1),(23,.c 1),(27,.c 1),(28,.c 1),(29,.c 1),(32,.c 1),(33,.c 1),(36,.c 1),(38,.c 1),(47,.c 0),(60,.c 1),(61,.c 1),(62,.c 1),(65,.c 1),(66,.c 1),(69,.c 1),(71,.c 1),(74,.c 1),(75,.c 1),(76,.c 1),(79,.c 1),(80,.c 1),(83,.c 1),(85,.c 1),(94,.c 0)]) ?_ (by kernel_rfl);intro y hy;simp only [List.mem_cons,List.not_mem_nil,or_false] at hy;rcases hy with rfl|rfl|rfl|rfl|rfl|rfl|rfl|rfl|rfl|rfl|rfl|rfl|rfl|rfl|rfl|rfl|rfl|rfl|rfl|rfl|rfl|rfl|rfl|rfl|rfl|rfl|rfl|rfl|rfl|rfl|rfl<;>assumption)
 rw [<-z98,<-z99,<-z96,<-z97] at CH MG;rw [<-z98,<-z99] at BD;clear z96 z97 z98 z99 hpd;have k103:v 103=1:=by have h:v 103=b2i (decide (v 98<=v 99)):=ag hs 103 rfl;rw [h,decide_eq_true (by omega)];rfl
 have k104:v 104=1:=by have h:v 104=b2i (decide (v 98>=-1099511627776)):=ag hs 104 rfl;rw [h,decide_eq_true (by omega)];rfl
 have k106:v 106=1:=by have h:v 106=b2i (decide (v 99<=1099511627776)):=ag hs 106 rfl;rw [h,decide_eq_true (by omega)];rfl
 obtain ⟨⟨S1,S2⟩,CW⟩:=CH;have k125:v 125=1:=by have h:v 125=b2i (decide (v 96<=v 2)):=ag hs 125 rfl;rw [h,decide_eq_true (by exact S1)];rfl
 have k126:v 126=1:=by have h:v 126=b2i (decide (v 3<=v 97)):=ag hs 126 rfl;rw [h,decide_eq_true (by exact S2)];rfl
 have tz:=xQ (X:=v 98) (Y:=v 99) (w:=v 108) (g:=v 109) (r:=v 111) (l:=v 112) (u:=v 113) (q:=v 115) (s:=v 116) (lo:=v 117) (hi:=v 118) (by omega) (ag hs 108 rfl) (ag hs 109 rfl) (ag hs 111 rfl) (ag hs 112 rfl) (ag hs 113 rfl) (ag hs 115 rfl) (ag hs 116 rfl) (ag hs 117 rfl) (ag hs 118 rfl)
 have WH:v 99-v 98>=21600000->v 98=0/\v 99=21600000:=fun h=>by rcases CW with c|c<;>omega
 have u117:v 117=v 98:=by rw [tz.1];split<;>(first|omega|(rename_i g;have:=WH (by omega);omega))
 have u118:v 118=v 99:=by rw [tz.2];split<;>(first|omega|(rename_i g;have:=WH (by omega);omega))
 clear tz;have k119:v 119=1:=by have h:v 119=b2i (v 117==v 98):=ag hs 119 rfl;have g:v 117=v 98:=(by rw [u117]);rw [h,g,beq_self_eq_true];rfl
 have k120:v 120=1:=by have h:v 120=b2i (v 118==v 99):=ag hs 120 rfl;have g:v 118=v 99:=(by rw [u118]);rw [h,g,beq_self_eq_true];rfl
 have e108:v 108=v 99-v 98:=by have h:v 108=IntKind.i64.wrap (v 99-v 98):=ag hs 108 rfl;rw [h,Go.IntWalk.i64_in _ (by omega)]
 have Z193:v 193=0:=by
  by_cases hw:v 99-v 98>=21600000
  . have k109:v 109=1:=by have h:v 109=b2i (decide (v 108>=21600000)):=ag hs 109 rfl;rw [h,e108,decide_eq_true hw];rfl
    exact ay (X:=dN [a0,a1,a2,a3]) (v:=v) (l:=bu) (aT _) hs (k:=193) (r:=.c 0) (ps:=[(109,.c 1)]) (nz:=[]) (ah k109 aA) aO (by kernel_rfl)
  . have k109:v 109=0:=by have h:v 109=b2i (decide (v 108>=21600000)):=ag hs 109 rfl;rw [h,e108,decide_eq_false hw];rfl
    have cw:v 99-v 98<=10800001/\(v 0-v 98)%21600000+(v 1-v 0)<=v 99-v 98:=by rcases CW with c|c<;>omega
    have nb:=Int.emod_nonneg (v 0-v 98) (show (21600000:Int)≠0 by decide)
    have tc:=xQ (X:=v 0) (Y:=v 1) (w:=v 130) (g:=v 131) (r:=v 133) (l:=v 134) (u:=v 135) (q:=v 137) (s:=v 138) (lo:=v 139) (hi:=v 140) (by omega) (ag hs 130 rfl) (ag hs 131 rfl) (ag hs 133 rfl) (ag hs 134 rfl) (ag hs 135 rfl) (ag hs 137 rfl) (ag hs 138 rfl) (ag hs 139 rfl) (ag hs 140 rfl)
    have u139:v 139=v 0%21600000:=by rw [tc.1,if_neg (by omega)]
    have u140:v 140=v 0%21600000+(v 1-v 0):=by rw [tc.2,if_neg (by omega)]
    clear tc;have wc:=DI (l:=v 139) (h:=v 140) (L:=v 98) (H:=v 99) (by omega) (by omega) (by unfold Wth;right;rw [u139,u140];omega) (by omega)
    have e141:v 141=v 140-v 139:=by have h:v 141=IntKind.i64.wrap (v 140-v 139):=ag hs 141 rfl;rw [h,Go.IntWalk.i64_in _ (by omega)]
    have k142:v 142=0:=by have h:v 142=b2i (decide (v 141>=21600000)):=ag hs 142 rfl;rw [h,e141,decide_eq_false (by omega)];rfl
    have e144:v 144=v 139+-21600000:=by have h:v 144=IntKind.i64.wrap (v 139+-21600000):=ag hs 144 rfl;rw [h,Go.IntWalk.i64_in _ (by omega)]
    have e150:v 150=v 139:=by have h:v 150=IntKind.i64.wrap (v 139+0):=ag hs 150 rfl;rw [h,Go.IntWalk.i64_in _ (by omega)];omega
    have e151:v 151=v 140:=by have h:v 151=IntKind.i64.wrap (v 140+0):=ag hs 151 rfl;rw [h,Go.IntWalk.i64_in _ (by omega)];omega
    have e156:v 156=v 139+21600000:=by have h:v 156=IntKind.i64.wrap (v 139+21600000):=ag hs 156 rfl;rw [h,Go.IntWalk.i64_in _ (by omega)]
    have e157:v 157=v 140+21600000:=by have h:v 157=IntKind.i64.wrap (v 140+21600000):=ag hs 157 rfl;rw [h,Go.IntWalk.i64_in _ (by omega)]
    have k146:v 146=0:=by have h:v 146=b2i (decide (v 98<=v 144)):=ag hs 146 rfl;rw [h,e144,decide_eq_false (by omega)];rfl
    rcases wc.2.2 with c|c
    . have k152:v 152=1:=by have h:v 152=b2i (decide (v 98<=v 150)):=ag hs 152 rfl;rw [h,e150,decide_eq_true (by omega)];rfl
      have k153:v 153=1:=by have h:v 153=b2i (decide (v 151<=v 99)):=ag hs 153 rfl;rw [h,e151,decide_eq_true (by omega)];rfl
      exact ay (X:=dN [a0,a1,a2,a3]) (v:=v) (l:=bu) (aT _) hs (k:=193) (r:=.c 0) (ps:=[(109,.c 0),(142,.c 0),(146,.c 0),(152,.c 1),(153,.c 1)]) (nz:=[]) (ah k109 (ah k142 (ah k146 (ah k152 (ah k153 aA))))) aO (by kernel_rfl)
    . have k152:v 152=0:=by have h:v 152=b2i (decide (v 98<=v 150)):=ag hs 152 rfl;rw [h,e150,decide_eq_false (by omega)];rfl
      have k158:v 158=1:=by have h:v 158=b2i (decide (v 98<=v 156)):=ag hs 158 rfl;rw [h,e156,decide_eq_true (by omega)];rfl
      have k159:v 159=1:=by have h:v 159=b2i (decide (v 157<=v 99)):=ag hs 159 rfl;rw [h,e157,decide_eq_true (by omega)];rfl
      exact ay (X:=dN [a0,a1,a2,a3]) (v:=v) (l:=bu) (aT _) hs (k:=193) (r:=.c 0) (ps:=[(109,.c 0),(142,.c 0),(146,.c 0),(152,.c 0),(158,.c 1),(159,.c 1)]) (nz:=[]) (ah k109 (ah k142 (ah k146 (ah k152 (ah k158 (ah k159 aA)))))) aO (by kernel_rfl)
 have Z194:v 194=0:=(by refine ay (X:=dN [a0,a1,a2,a3]) (v:=v) (l:=bu) (aT _) hs (k:=194) (r:=.c 0) (ps:=[(7,.c 1),(8,.c 1),(10,.c 1),(13,.c 0),(15,.c 0),(17,.c 0),(20,.c 1),(23,.c 1),(27,.c 1),(28,.c 1),(29,.c 1),(32,.c 1),(33,.c 1),(36,.c 1),(38,.c 1),(47,.c 0),(60,.c 1),(61,.c 1),(62,.c 1),(65,.c 1),(66,.c 1),(69,.c 1),(71,.c 1),(74,.c 1),(75,.c 1),(76,.c 1),(79,.c 1),(80,.c 1),(83,.c 1),(85,.c 1),(94,.c 0),(103,.c 1),(104,.c 1),(106,.c 1),(119,.c 1),(120,.c 1),(125,.c 1),(126,.c 1),(193,.c 0)]) (nz:=[]) ?_ aO (by kernel_rfl);intro y hy;simp only [List.mem_cons,List.not_mem_nil,or_false] at hy;rcases hy with rfl|rfl|rfl|rfl|rfl|rfl|rfl|rfl|rfl|rfl|rfl|rfl|rfl|rfl|rfl|rfl|rfl|rfl|rfl|rfl|rfl|rfl|rfl|rfl|rfl|rfl|rfl|rfl|rfl|rfl|rfl|rfl|rfl|rfl|rfl|rfl|rfl|rfl|rfl<;>assumption)
 intro x hx;have hx':x=.bool (decide (v 214≠0)):=hx
 suffices hr:v 214=1 by rw [hx',hr];rfl
 rcases MG with m5|⟨m0,g0,g1,g2,g3⟩
 . exact ay (X:=dN [a0,a1,a2,a3]) (v:=v) (l:=bu) (aT _) hs (k:=214) (r:=.c 1) (ps:=[(194,.c 0),(200,.c 5)]) (nz:=[]) (ah Z194 (ah m5 aA)) aO (by kernel_rfl)
 . have k204:v 204=1:=by have h:v 204=b2i (v 196==v 98):=ag hs 204 rfl;have g:v 196=v 98:=(by exact g0);rw [h,g,beq_self_eq_true];rfl
   have k205:v 205=1:=by have h:v 205=b2i (v 197==v 99):=ag hs 205 rfl;have g:v 197=v 99:=(by exact g1);rw [h,g,beq_self_eq_true];rfl
   have k206:v 206=1:=by have h:v 206=b2i (v 198==v 96):=ag hs 206 rfl;have g:v 198=v 96:=(by exact g2);rw [h,g,beq_self_eq_true];rfl
   have k207:v 207=1:=by have h:v 207=b2i (v 199==v 97):=ag hs 207 rfl;have g:v 199=v 97:=(by exact g3);rw [h,g,beq_self_eq_true];rfl
   exact ay (X:=dN [a0,a1,a2,a3]) (v:=v) (l:=bu) (aT _) hs (k:=214) (r:=.c 1) (ps:=[(194,.c 0),(200,.c 0),(204,.c 1),(205,.c 1),(206,.c 1),(207,.c 1)]) (nz:=[]) (ah Z194 (ah m0 (ah k204 (ah k205 (ah k206 (ah k207 aA)))))) aO (by kernel_rfl)
