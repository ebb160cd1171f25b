/- The law CosineParts: a part has its solution inside. -/
import Derived.Test.YtpcfajiiijndiaaZLawMi
import Derived.Test.YtpcfajiiijndiaaZInc
set_option linter.unusedVariables false
set_option linter.unusedSimpArgs false
set_option maxRecDepth 100000
set_option maxHeartbeats 8000000
namespace Go.Proofs.Ytpcfajiiijndiaa
open Go.RowKit Alm Sx
def fA:List Nd:=[
 .arg 0,
 .arg 1,
 .arg 2,
 .arg 3,
 .arg 4,
 .arg 5,
 .arg 6,
 .arg 7,
 .arg 8,
 .app 20 0 [],
 .ite (.n 9) (.c 0) (.c 1),
 .ite (.n 10) (.c 0) (.c 1),
 .app 52 0 [.n 0,.n 1,.n 2,.n 3,.n 4,.n 5],
 .ite (.n 12) (.c 0) (.c 1),
 .ite (.n 13) (.c 0) (.c 1),
 .wrap .i64 (.n 6),
 .bin .sub .i64 (.n 1) (.n 0),
 .bin .add .i64 (.n 16) (.c 1),
 .bin .rem .i64 (.n 15) (.n 17),
 .bin .add .i64 (.n 0) (.n 18),
 .wrap .i64 (.n 7),
 .bin .sub .i64 (.n 3) (.n 2),
 .bin .add .i64 (.n 21) (.c 1),
 .bin .rem .i64 (.n 20) (.n 22),
 .bin .add .i64 (.n 2) (.n 23),
 .wrap .i64 (.n 8),
 .bin .sub .i64 (.n 5) (.n 4),
 .bin .add .i64 (.n 26) (.c 1),
 .bin .rem .i64 (.n 25) (.n 27),
 .bin .add .i64 (.n 4) (.n 28),
 .app 50 0 [.n 0,.n 1,.n 2,.n 3,.n 4,.n 5],
 .app 50 1 [.n 0,.n 1,.n 2,.n 3,.n 4,.n 5],
 .app 50 2 [.n 0,.n 1,.n 2,.n 3,.n 4,.n 5],
 .ite (.n 13) (.c 1) (.n 32),
 .ite (.n 13) (.c 0) (.n 30),
 .ite (.n 13) (.c 0) (.n 31),
 .bin .neq .i64 (.n 33) (.c 0),
 .ite (.n 36) (.c 0) (.c 1),
 .app 51 0 [.n 0,.n 1,.n 2,.n 3,.n 4,.n 5],
 .app 51 1 [.n 0,.n 1,.n 2,.n 3,.n 4,.n 5],
 .app 51 2 [.n 0,.n 1,.n 2,.n 3,.n 4,.n 5],
 .ite (.n 13) (.c 1) (.n 40),
 .ite (.n 13) (.c 0) (.n 38),
 .ite (.n 13) (.c 0) (.n 39),
 .bin .neq .i64 (.n 41) (.c 0),
 .ite (.n 44) (.c 0) (.c 1),
 .ite (.n 44) (.n 41) (.c 0),
 .ite (.n 44) (.c 0) (.n 34),
 .ite (.n 44) (.c 0) (.n 35),
 .ite (.n 44) (.c 0) (.n 42),
 .ite (.n 44) (.c 0) (.n 43),
 .ite (.n 36) (.n 33) (.n 46),
 .ite (.n 36) (.n 33) (.n 41),
 .ite (.n 36) (.c 0) (.n 47),
 .ite (.n 36) (.c 0) (.n 48),
 .ite (.n 36) (.c 0) (.n 49),
 .ite (.n 36) (.c 0) (.n 50),
 .app 52 0 [.n 19,.n 19,.n 24,.n 24,.n 29,.n 29],
 .ite (.n 57) (.c 0) (.c 1),
 .ite (.n 58) (.c 0) (.c 1),
 .app 50 0 [.n 19,.n 19,.n 24,.n 24,.n 29,.n 29],
 .app 50 1 [.n 19,.n 19,.n 24,.n 24,.n 29,.n 29],
 .app 50 2 [.n 19,.n 19,.n 24,.n 24,.n 29,.n 29],
 .ite (.n 58) (.c 1) (.n 62),
 .ite (.n 58) (.c 0) (.n 60),
 .ite (.n 58) (.c 0) (.n 61),
 .bin .neq .i64 (.n 63) (.c 0),
 .ite (.n 66) (.c 0) (.c 1),
 .app 51 0 [.n 19,.n 19,.n 24,.n 24,.n 29,.n 29],
 .app 51 1 [.n 19,.n 19,.n 24,.n 24,.n 29,.n 29],
 .app 51 2 [.n 19,.n 19,.n 24,.n 24,.n 29,.n 29],
 .ite (.n 58) (.c 1) (.n 70),
 .ite (.n 58) (.c 0) (.n 68),
 .ite (.n 58) (.c 0) (.n 69),
 .bin .neq .i64 (.n 71) (.c 0),
 .ite (.n 74) (.c 0) (.c 1),
 .ite (.n 74) (.n 71) (.c 0),
 .ite (.n 74) (.c 0) (.n 64),
 .ite (.n 74) (.c 0) (.n 65),
 .ite (.n 74) (.c 0) (.n 72),
 .ite (.n 74) (.c 0) (.n 73),
 .ite (.n 66) (.n 63) (.n 76),
 .ite (.n 66) (.n 63) (.n 71),
 .ite (.n 66) (.c 0) (.n 77),
 .ite (.n 66) (.c 0) (.n 78),
 .ite (.n 66) (.c 0) (.n 79),
 .ite (.n 66) (.c 0) (.n 80),
 .bin .eql .i64 (.n 51) (.c 0),
 .bin .eql .i64 (.n 81) (.c 0),
 .ite (.n 87) (.n 88) (.c 0),
 .bin .leq .i64 (.n 53) (.n 54),
 .bin .geq .i64 (.n 53) (.c (-5400000)),
 .ite (.n 90) (.n 91) (.c 0),
 .bin .leq .i64 (.n 54) (.c 5400000),
 .ite (.n 92) (.n 93) (.c 0),
 .bin .leq .i64 (.n 55) (.n 56),
 .bin .geq .i64 (.n 55) (.c (-1099511627776)),
 .ite (.n 95) (.n 96) (.c 0),
 .bin .leq .i64 (.n 56) (.c 1099511627776),
 .ite (.n 97) (.n 98) (.c 0),
 .bin .sub .i64 (.n 56) (.n 55),
 .bin .geq .i64 (.n 100) (.c 21600000),
 .ite (.n 101) (.c 0) (.c 1),
 .bin .rem .i64 (.n 55) (.c 21600000),
 .bin .lss .i64 (.n 103) (.c 0),
 .bin .add .i64 (.n 103) (.c 21600000),
 .ite (.n 104) (.c 0) (.c 1),
 .ite (.n 104) (.n 105) (.n 103),
 .bin .add .i64 (.n 107) (.n 100),
 .ite (.n 101) (.c 0) (.n 107),
 .ite (.n 101) (.c 21600000) (.n 108),
 .bin .eql .i64 (.n 109) (.n 55),
 .bin .eql .i64 (.n 110) (.n 56),
 .ite (.n 111) (.n 112) (.c 0),
 .ite (.n 99) (.n 113) (.c 0),
 .ite (.n 94) (.n 114) (.c 0),
 .ite (.n 89) (.n 115) (.c 0),
 .bin .leq .i64 (.n 83) (.n 84),
 .bin .geq .i64 (.n 83) (.c (-5400000)),
 .ite (.n 117) (.n 118) (.c 0),
 .bin .leq .i64 (.n 84) (.c 5400000),
 .ite (.n 119) (.n 120) (.c 0),
 .bin .leq .i64 (.n 85) (.n 86),
 .bin .geq .i64 (.n 85) (.c (-1099511627776)),
 .ite (.n 122) (.n 123) (.c 0),
 .bin .leq .i64 (.n 86) (.c 1099511627776),
 .ite (.n 124) (.n 125) (.c 0),
 .bin .sub .i64 (.n 86) (.n 85),
 .bin .geq .i64 (.n 127) (.c 21600000),
 .ite (.n 128) (.c 0) (.c 1),
 .bin .rem .i64 (.n 85) (.c 21600000),
 .bin .lss .i64 (.n 130) (.c 0),
 .bin .add .i64 (.n 130) (.c 21600000),
 .ite (.n 131) (.c 0) (.c 1),
 .ite (.n 131) (.n 132) (.n 130),
 .bin .add .i64 (.n 134) (.n 127),
 .ite (.n 128) (.c 0) (.n 134),
 .ite (.n 128) (.c 21600000) (.n 135),
 .bin .eql .i64 (.n 136) (.n 85),
 .bin .eql .i64 (.n 137) (.n 86),
 .ite (.n 138) (.n 139) (.c 0),
 .ite (.n 126) (.n 140) (.c 0),
 .ite (.n 121) (.n 141) (.c 0),
 .ite (.n 116) (.n 142) (.c 0),
 .bin .leq .i64 (.n 53) (.n 83),
 .bin .leq .i64 (.n 84) (.n 54),
 .ite (.n 144) (.n 145) (.c 0),
 .ite (.n 143) (.n 146) (.c 0),
 .bin .sub .i64 (.n 137) (.n 136),
 .bin .geq .i64 (.n 148) (.c 21600000),
 .ite (.n 149) (.c 0) (.c 1),
 .bin .add .i64 (.n 136) (.c (-21600000)),
 .bin .add .i64 (.n 137) (.c (-21600000)),
 .bin .leq .i64 (.n 55) (.n 151),
 .bin .leq .i64 (.n 152) (.n 56),
 .ite (.n 153) (.n 154) (.c 0),
 .ite (.n 155) (.c 0) (.c 1),
 .bin .add .i64 (.n 136) (.c 0),
 .bin .add .i64 (.n 137) (.c 0),
 .bin .leq .i64 (.n 55) (.n 157),
 .bin .leq .i64 (.n 158) (.n 56),
 .ite (.n 159) (.n 160) (.c 0),
 .ite (.n 161) (.c 0) (.c 1),
 .bin .add .i64 (.n 136) (.c 21600000),
 .bin .add .i64 (.n 137) (.c 21600000),
 .bin .leq .i64 (.n 55) (.n 163),
 .bin .leq .i64 (.n 164) (.n 56),
 .ite (.n 165) (.n 166) (.c 0),
 .ite (.n 167) (.c 0) (.c 1),
 .ite (.n 162) (.n 167) (.c 0),
 .ite (.n 162) (.n 168) (.c 0),
 .ite (.n 161) (.c 1) (.n 169),
 .ite (.n 161) (.c (-1)) (.c 0),
 .ite (.n 161) (.c 0) (.c 21600000),
 .ite (.n 161) (.n 157) (.n 163),
 .ite (.n 161) (.n 158) (.n 164),
 .ite (.n 161) (.n 161) (.n 167),
 .ite (.n 156) (.n 171) (.c 0),
 .ite (.n 156) (.n 170) (.c 0),
 .ite (.n 155) (.c 1) (.n 177),
 .ite (.n 155) (.c (-1)) (.n 162),
 .ite (.n 155) (.c (-21600000)) (.n 173),
 .ite (.n 155) (.n 151) (.n 174),
 .ite (.n 155) (.n 152) (.n 175),
 .ite (.n 155) (.n 155) (.n 176),
 .ite (.n 179) (.c 1) (.n 178),
 .ite (.n 179) (.n 180) (.c 2),
 .ite (.n 179) (.n 180) (.c 1),
 .ite (.n 179) (.n 181) (.c 21600000),
 .ite (.n 179) (.n 182) (.n 163),
 .ite (.n 179) (.n 183) (.n 164),
 .ite (.n 179) (.n 184) (.n 167),
 .ite (.n 150) (.n 185) (.c 0),
 .ite (.n 149) (.c 1) (.n 192),
 .ite (.n 149) (.c 0) (.n 179),
 .ite (.n 102) (.n 193) (.c 0),
 .ite (.n 101) (.c 1) (.n 195),
 .ite (.n 101) (.c 1) (.n 194),
 .ite (.n 101) (.n 85) (.n 136),
 .ite (.n 101) (.n 86) (.n 137),
 .ite (.n 147) (.n 197) (.c 0),
 .ite (.n 13) (.c 1) (.n 200),
 .ite (.n 10) (.c 0) (.n 201)]
def QF:List Vc:=[
 ⟨[],.pre 20 []⟩,
 ⟨[(.n 11,true)],.pre 52 [.n 0,.n 1,.n 2,.n 3,.n 4,.n 5]⟩,
 ⟨[(.n 14,true),(.n 11,true)],.ne0 (.n 17)⟩,
 ⟨[(.n 14,true),(.n 11,true)],.ne0 (.n 22)⟩,
 ⟨[(.n 14,true),(.n 11,true)],.ne0 (.n 27)⟩,
 ⟨[(.n 14,true),(.n 11,true)],.pre 52 [.n 0,.n 1,.n 2,.n 3,.n 4,.n 5]⟩,
 ⟨[(.n 14,true),(.n 14,true),(.n 11,true)],.pre 50 [.n 0,.n 1,.n 2,.n 3,.n 4,.n 5]⟩,
 ⟨[(.n 37,true),(.n 14,true),(.n 11,true)],.pre 52 [.n 0,.n 1,.n 2,.n 3,.n 4,.n 5]⟩,
 ⟨[(.n 14,true),(.n 37,true),(.n 14,true),(.n 11,true)],.pre 51 [.n 0,.n 1,.n 2,.n 3,.n 4,.n 5]⟩,
 ⟨[(.n 14,true),(.n 11,true)],.pre 52 [.n 19,.n 19,.n 24,.n 24,.n 29,.n 29]⟩,
 ⟨[(.n 59,true),(.n 14,true),(.n 11,true)],.pre 50 [.n 19,.n 19,.n 24,.n 24,.n 29,.n 29]⟩,
 ⟨[(.n 67,true),(.n 14,true),(.n 11,true)],.pre 52 [.n 19,.n 19,.n 24,.n 24,.n 29,.n 29]⟩,
 ⟨[(.n 59,true),(.n 67,true),(.n 14,true),(.n 11,true)],.pre 51 [.n 19,.n 19,.n 24,.n 24,.n 29,.n 29]⟩]
theorem Tg:whole Try.prog KQ 20 40 3 [(true,[some .i64,some .i64,some .i64,some .i64,some .i64,some .i64]),(false,[some .u32]),(false,[some .u32]),(false,[some .u32])]=some (.p (.c (.bool (.n 202))),⟨fA.reverse,QF.reverse⟩):=by kernel_rfl
theorem Tj:wfN fA.reverse=true:=by kernel_rfl
theorem Hu (a0 a1 a2 a3 a4 a5 a6 a7 a8:Int) (w:World) (hu:(0<=a6/\a6<=4294967295)/\(0<=a7/\a7<=4294967295)/\(0<=a8/\a8<=4294967295)):Calls Try.prog 3 #[.agg #[.int .i64 a0,.int .i64 a1,.int .i64 a2,.int .i64 a3,.int .i64 a4,.int .i64 a5],.int .u32 a6,.int .u32 a7,.int .u32 a8] w fun e w'=>e=.returned (.bool true)/\Below w.heap.size w w':=by
 refine Sx.calls (X:=cxF [a0,a1,a2,a3,a4,a5,a6,a7,a8]) dN (Da _) Tg Tj (fun v hs=>?_) w
 have e6:v 6=a6:=ag hs 6 rfl;have e7:v 7=a7:=ag hs 7 rfl;have e8:v 8=a8:=ag hs 8 rfl;rw [<-e6,<-e7,<-e8] at hu;clear e6 e7 e8;have e12:v 12=b2i (decide (gV (v 0) (v 1) (v 2) (v 3) (v 4) (v 5))):=ag hs 12 rfl;have e13:v 13=if v 12≠0 then (0:Int) else (1:Int):=ag hs 13 rfl
 have e14:v 14=if v 13≠0 then (0:Int) else (1:Int):=ag hs 14 rfl
 have TT:v 12≠0->gV (v 0) (v 1) (v 2) (v 3) (v 4) (v 5):=by rw [e12,kJ,decide_eq_true_iff];exact id
 have PP:v 12≠0->(v 17≠0/\v 0<=v 19/\v 19<=v 1)/\(v 22≠0/\v 2<=v 24/\v 24<=v 3)/\(v 27≠0/\v 4<=v 29/\v 29<=v 5):=by
  intro h;have:=TT h;unfold gV at this;exact ⟨fO (by omega) hu.1 (ag hs 15 rfl) (ag hs 16 rfl) (ag hs 17 rfl) (ag hs 18 rfl) (ag hs 19 rfl),fO (by omega) hu.2.1 (ag hs 20 rfl) (ag hs 21 rfl) (ag hs 22 rfl) (ag hs 23 rfl) (ag hs 24 rfl),fO (by omega) hu.2.2 (ag hs 25 rfl) (ag hs 26 rfl) (ag hs 27 rfl) (ag hs 28 rfl) (ag hs 29 rfl)⟩
 have T:v 12≠0->(bi (v 0) (v 1)=true/\bi (v 2) (v 3)=true/\bi (v 4) (v 5)=true)/\(bi (v 19) (v 19)=true/\bi (v 24) (v 24)=true/\bi (v 29) (v 29)=true):=by
  intro h;have a:=TT h;have b:=PP h;unfold gV at a;rw [bu,bu,bu,bu,bu,bu];omega
 have W:v 14≠0->v 12≠0:=by
  rw [e14,e13];intro h q;rw [if_neg (by omega:¬ v 12≠0)] at h
  exact absurd h (by decide)
 have O:v 12=1∨v 12=0:=by
  rw [e12];cases decide (gV (v 0) (v 1) (v 2) (v 3) (v 4) (v 5))
  . exact .inr rfl
  . exact .inl rfl
 refine ⟨bC ?_,?_⟩
 . exact aj (fun _=>trivial) (aj (fun _=>trivial) (aj (fun hp=>(PP (W ((ak hp).1))).1.1) (aj (fun hp=>(PP (W ((ak hp).1))).2.1.1) (aj (fun hp=>(PP (W ((ak hp).1))).2.2.1) (aj (fun _=>trivial) (aj (fun hp=>⟨(T (W ((ak hp).1))).1.1,(T (W ((ak hp).1))).1.2.1,(T (W ((ak hp).1))).1.2.2⟩) (aj (fun _=>trivial) (aj (fun hp=>⟨(T (W ((ak hp).1))).1.1,(T (W ((ak hp).1))).1.2.1,(T (W ((ak hp).1))).1.2.2⟩) (aj (fun _=>trivial) (aj (fun hp=>⟨(T (W ((ak (ak hp).2).1))).2.1,(T (W ((ak (ak hp).2).1))).2.2.1,(T (W ((ak (ak hp).2).1))).2.2.2⟩) (aj (fun _=>trivial) (aj (fun hp=>⟨(T (W ((ak (ak (ak hp).2).2).1))).2.1,(T (W ((ak (ak (ak hp).2).2).1))).2.2.1,(T (W ((ak (ak (ak hp).2).2).1))).2.2.2⟩) (bz)))))))))))))
 . intro x hx;have hx':x=.bool (decide (v 202≠0)):=hx
   suffices hr:v 202=1 by rw [hx',hr];rfl
   rcases O with q|q
   . have nz:v 12≠0:=by rw [q];decide
     have tv:=TT nz;obtain ⟨⟨_,p1⟩,⟨_,p2⟩,⟨_,p3⟩⟩:=PP nz;clear T W TT PP e12 e13 e14 nz
     have q57:v 57=1:=by
      have h:v 57=b2i (decide (gV (v 19) (v 19) (v 24) (v 24) (v 29) (v 29))):=ag hs 57 rfl;rw [h,decide_eq_true (by unfold gV at *;omega)];rfl
     have z53:v 53=v 30:=bg (X:=cxF [a0,a1,a2,a3,a4,a5,a6,a7,a8]) (v:=v) (l:=fA) (aP _) hs (k:=53) (j:=30) (ps:=[(12,.c 1),(57,.c 1)]) (aa q (aa q57 ax)) (by kernel_rfl)
     have z54:v 54=v 31:=bg (X:=cxF [a0,a1,a2,a3,a4,a5,a6,a7,a8]) (v:=v) (l:=fA) (aP _) hs (k:=54) (j:=31) (ps:=[(12,.c 1),(57,.c 1)]) (aa q (aa q57 ax)) (by kernel_rfl)
     have z55:v 55=v 38:=bg (X:=cxF [a0,a1,a2,a3,a4,a5,a6,a7,a8]) (v:=v) (l:=fA) (aP _) hs (k:=55) (j:=38) (ps:=[(12,.c 1),(57,.c 1)]) (aa q (aa q57 ax)) (by kernel_rfl)
     have z56:v 56=v 39:=bg (X:=cxF [a0,a1,a2,a3,a4,a5,a6,a7,a8]) (v:=v) (l:=fA) (aP _) hs (k:=56) (j:=39) (ps:=[(12,.c 1),(57,.c 1)]) (aa q (aa q57 ax)) (by kernel_rfl)
     have z83:v 83=v 60:=bg (X:=cxF [a0,a1,a2,a3,a4,a5,a6,a7,a8]) (v:=v) (l:=fA) (aP _) hs (k:=83) (j:=60) (ps:=[(12,.c 1),(57,.c 1)]) (aa q (aa q57 ax)) (by kernel_rfl)
     have z84:v 84=v 61:=bg (X:=cxF [a0,a1,a2,a3,a4,a5,a6,a7,a8]) (v:=v) (l:=fA) (aP _) hs (k:=84) (j:=61) (ps:=[(12,.c 1),(57,.c 1)]) (aa q (aa q57 ax)) (by kernel_rfl)
     have z85:v 85=v 68:=bg (X:=cxF [a0,a1,a2,a3,a4,a5,a6,a7,a8]) (v:=v) (l:=fA) (aP _) hs (k:=85) (j:=68) (ps:=[(12,.c 1),(57,.c 1)]) (aa q (aa q57 ax)) (by kernel_rfl)
     have z86:v 86=v 69:=bg (X:=cxF [a0,a1,a2,a3,a4,a5,a6,a7,a8]) (v:=v) (l:=fA) (aP _) hs (k:=86) (j:=69) (ps:=[(12,.c 1),(57,.c 1)]) (aa q (aa q57 ax)) (by kernel_rfl)
     have l30:v 30=(dV (v 0) (v 1) (v 2) (v 3) (v 4) (v 5)).getD 0 0:=ag hs 30 rfl;have l31:v 31=(dV (v 0) (v 1) (v 2) (v 3) (v 4) (v 5)).getD 1 0:=ag hs 31 rfl;have l38:v 38=(azV (v 0) (v 1) (v 2) (v 3) (v 4) (v 5)).getD 0 0:=ag hs 38 rfl;have l39:v 39=(azV (v 0) (v 1) (v 2) (v 3) (v 4) (v 5)).getD 1 0:=ag hs 39 rfl;have l60:v 60=(dV (v 19) (v 19) (v 24) (v 24) (v 29) (v 29)).getD 0 0:=ag hs 60 rfl;have l61:v 61=(dV (v 19) (v 19) (v 24) (v 24) (v 29) (v 29)).getD 1 0:=ag hs 61 rfl;have l68:v 68=(azV (v 19) (v 19) (v 24) (v 24) (v 29) (v 29)).getD 0 0:=ag hs 68 rfl;have l69:v 69=(azV (v 19) (v 19) (v 24) (v 24) (v 29) (v 29)).getD 1 0:=ag hs 69 rfl;have tv':=tv;unfold gV at tv'
     have bA:=BP (v 0) (v 1) (v 2) (v 3) (v 4) (v 5);have bZ:=Iw (v 0) (v 1) (v 2) (v 3) (v 4) (v 5);have bB:=BP (v 19) (v 19) (v 24) (v 24) (v 29) (v 29);have bY:=Iw (v 19) (v 19) (v 24) (v 24) (v 29) (v 29);have IA:=JS (a:=v 0) (b:=v 1) (c:=v 2) (d:=v 3) (e:=v 4) (f:=v 5) (a':=v 19) (b':=v 19) (c':=v 24) (d':=v 24) (e':=v 29) (f':=v 29) ⟨p1.1,Int.le_refl _,p1.2⟩ ⟨p2.1,Int.le_refl _,p2.2⟩ ⟨p3.1,Int.le_refl _,p3.2⟩;have IZ:=Lp (a:=v 0) (b:=v 1) (c:=v 2) (d:=v 3) (e:=v 4) (f:=v 5) (a':=v 19) (b':=v 19) (c':=v 24) (d':=v 24) (e':=v 29) (f':=v 29) ⟨p1.1,Int.le_refl _,p1.2⟩ ⟨p2.1,Int.le_refl _,p2.2⟩ ⟨p3.1,Int.le_refl _,p3.2⟩;rw [<-l30,<-l31] at bA IA;rw [<-l38,<-l39] at bZ IZ;rw [<-l60,<-l61] at bB IA;rw [<-l68,<-l69] at bY IZ;clear l30 l31 l38 l39 l60 l61 l68 l69 tv tv' p1 p2 p3;have k90:v 90=1:=by have h:v 90=b2i (decide (v 53<=v 54)):=ag hs 90 rfl;rw [h,decide_eq_true (by rw [z53,z54];omega)];rfl
     have k91:v 91=1:=by have h:v 91=b2i (decide (v 53>=-5400000)):=ag hs 91 rfl;rw [h,decide_eq_true (by rw [z53];omega)];rfl
     have k93:v 93=1:=by have h:v 93=b2i (decide (v 54<=5400000)):=ag hs 93 rfl;rw [h,decide_eq_true (by rw [z54];omega)];rfl
     have k95:v 95=1:=by have h:v 95=b2i (decide (v 55<=v 56)):=ag hs 95 rfl;rw [h,decide_eq_true (by rw [z55,z56];omega)];rfl
     have k96:v 96=1:=by have h:v 96=b2i (decide (v 55>=-1099511627776)):=ag hs 96 rfl;rw [h,decide_eq_true (by rw [z55];omega)];rfl
     have k98:v 98=1:=by have h:v 98=b2i (decide (v 56<=1099511627776)):=ag hs 98 rfl;rw [h,decide_eq_true (by rw [z56];omega)];rfl
     have t90:=jT (X:=v 55) (Y:=v 56) (w:=v 100) (g:=v 101) (r:=v 103) (l:=v 104) (u:=v 105) (q:=v 107) (s:=v 108) (lo:=v 109) (hi:=v 110) (by rw [z55,z56];omega) (ag hs 100 rfl) (ag hs 101 rfl) (ag hs 103 rfl) (ag hs 104 rfl) (ag hs 105 rfl) (ag hs 107 rfl) (ag hs 108 rfl) (ag hs 109 rfl) (ag hs 110 rfl)
     rw [z55,z56] at t90;have u109:v 109=v 38:=by rw [t90.1];split<;>(first|omega|(rename_i g;have:=bZ.2 (by omega);omega))
     have u110:v 110=v 39:=by rw [t90.2];split<;>(first|omega|(rename_i g;have:=bZ.2 (by omega);omega))
     clear t90;have k111:v 111=1:=by have h:v 111=b2i (v 109==v 55):=ag hs 111 rfl;have g:v 109=v 55:=(by rw [u109,z55]);rw [h,g,beq_self_eq_true];rfl
     have k112:v 112=1:=by have h:v 112=b2i (v 110==v 56):=ag hs 112 rfl;have g:v 110=v 56:=(by rw [u110,z56]);rw [h,g,beq_self_eq_true];rfl
     have k117:v 117=1:=by have h:v 117=b2i (decide (v 83<=v 84)):=ag hs 117 rfl;rw [h,decide_eq_true (by rw [z83,z84];omega)];rfl
     have k118:v 118=1:=by have h:v 118=b2i (decide (v 83>=-5400000)):=ag hs 118 rfl;rw [h,decide_eq_true (by rw [z83];omega)];rfl
     have k120:v 120=1:=by have h:v 120=b2i (decide (v 84<=5400000)):=ag hs 120 rfl;rw [h,decide_eq_true (by rw [z84];omega)];rfl
     have k122:v 122=1:=by have h:v 122=b2i (decide (v 85<=v 86)):=ag hs 122 rfl;rw [h,decide_eq_true (by rw [z85,z86];omega)];rfl
     have k123:v 123=1:=by have h:v 123=b2i (decide (v 85>=-1099511627776)):=ag hs 123 rfl;rw [h,decide_eq_true (by rw [z85];omega)];rfl
     have k125:v 125=1:=by have h:v 125=b2i (decide (v 86<=1099511627776)):=ag hs 125 rfl;rw [h,decide_eq_true (by rw [z86];omega)];rfl
     have t117:=jT (X:=v 85) (Y:=v 86) (w:=v 127) (g:=v 128) (r:=v 130) (l:=v 131) (u:=v 132) (q:=v 134) (s:=v 135) (lo:=v 136) (hi:=v 137) (by rw [z85,z86];omega) (ag hs 127 rfl) (ag hs 128 rfl) (ag hs 130 rfl) (ag hs 131 rfl) (ag hs 132 rfl) (ag hs 134 rfl) (ag hs 135 rfl) (ag hs 136 rfl) (ag hs 137 rfl)
     rw [z85,z86] at t117;have u136:v 136=v 68:=by rw [t117.1];split<;>(first|omega|(rename_i g;have:=bY.2 (by omega);omega))
     have u137:v 137=v 69:=by rw [t117.2];split<;>(first|omega|(rename_i g;have:=bY.2 (by omega);omega))
     clear t117;have k138:v 138=1:=by have h:v 138=b2i (v 136==v 85):=ag hs 138 rfl;have g:v 136=v 85:=(by rw [u136,z85]);rw [h,g,beq_self_eq_true];rfl
     have k139:v 139=1:=by have h:v 139=b2i (v 137==v 86):=ag hs 139 rfl;have g:v 137=v 86:=(by rw [u137,z86]);rw [h,g,beq_self_eq_true];rfl
     have k144:v 144=1:=by have h:v 144=b2i (decide (v 53<=v 83)):=ag hs 144 rfl;rw [h,decide_eq_true (by rw [z53,z83];exact IA.1)];rfl
     have k145:v 145=1:=by have h:v 145=b2i (decide (v 84<=v 54)):=ag hs 145 rfl;rw [h,decide_eq_true (by rw [z84,z54];exact IA.2)];rfl
     have BV:v 100=v 39-v 38:=by have h:v 100=IntKind.i64.wrap (v 56-v 55):=ag hs 100 rfl;rw [h,z55,z56,Go.IntWalk.i64_in _ (by omega)]
     have e148:v 148=v 69-v 68:=by have h:v 148=IntKind.i64.wrap (v 137-v 136):=ag hs 148 rfl;rw [h,u137,u136,Go.IntWalk.i64_in _ (by omega)]
     have e151:v 151=v 68+-21600000:=by have h:v 151=IntKind.i64.wrap (v 136+-21600000):=ag hs 151 rfl;rw [h,u136,Go.IntWalk.i64_in _ (by omega)]
     have e157:v 157=v 68:=by have h:v 157=IntKind.i64.wrap (v 136+0):=ag hs 157 rfl;rw [h,u136,Go.IntWalk.i64_in _ (by omega)];omega
     have e158:v 158=v 69:=by have h:v 158=IntKind.i64.wrap (v 137+0):=ag hs 158 rfl;rw [h,u137,Go.IntWalk.i64_in _ (by omega)];omega
     have e163:v 163=v 68+21600000:=by have h:v 163=IntKind.i64.wrap (v 136+21600000):=ag hs 163 rfl;rw [h,u136,Go.IntWalk.i64_in _ (by omega)]
     have e164:v 164=v 69+21600000:=by have h:v 164=IntKind.i64.wrap (v 137+21600000):=ag hs 164 rfl;rw [h,u137,Go.IntWalk.i64_in _ (by omega)]
     by_cases hw:v 39-v 38>=21600000
     . have k101:v 101=1:=by have h:v 101=b2i (decide (v 100>=21600000)):=ag hs 101 rfl;rw [h,BV,decide_eq_true hw];rfl
       refine au (X:=cxF [a0,a1,a2,a3,a4,a5,a6,a7,a8]) (v:=v) (l:=fA) (aP _) hs (k:=202) (r:=.c 1) (ps:=[(12,.c 1),(57,.c 1),(90,.c 1),(91,.c 1),(93,.c 1),(95,.c 1),(96,.c 1),(98,.c 1),(101,.c 1),(111,.c 1),(112,.c 1),(117,.c 1),(118,.c 1),(120,.c 1),(122,.c 1),(123,.c 1),(125,.c 1),(138,.c 1),(139,.c 1),(144,.c 1),(145,.c 1)]) (nz:=[]) ?_ az (by kernel_rfl)
       intro y hy;simp only [List.mem_cons,List.not_mem_nil,or_false] at hy;rcases hy with rfl|rfl|rfl|rfl|rfl|rfl|rfl|rfl|rfl|rfl|rfl|rfl|rfl|rfl|rfl|rfl|rfl|rfl|rfl|rfl|rfl<;>assumption
     . have k101:v 101=0:=by have h:v 101=b2i (decide (v 100>=21600000)):=ag hs 101 rfl;rw [h,BV,decide_eq_false hw];rfl
       have c:=ow (by omega) (by omega) IZ (by omega)
       have k149:v 149=0:=by have h:v 149=b2i (decide (v 148>=21600000)):=ag hs 149 rfl;rw [h,e148,decide_eq_false (by omega)];rfl
       have k153:v 153=0:=by have h:v 153=b2i (decide (v 55<=v 151)):=ag hs 153 rfl;rw [h,z55,e151,decide_eq_false (by omega)];rfl
       rcases c.2.2 with c|c
       . have k159:v 159=1:=by have h:v 159=b2i (decide (v 55<=v 157)):=ag hs 159 rfl;rw [h,z55,e157,decide_eq_true (by omega)];rfl
         have k160:v 160=1:=by have h:v 160=b2i (decide (v 158<=v 56)):=ag hs 160 rfl;rw [h,z56,e158,decide_eq_true (by omega)];rfl
         refine au (X:=cxF [a0,a1,a2,a3,a4,a5,a6,a7,a8]) (v:=v) (l:=fA) (aP _) hs (k:=202) (r:=.c 1) (ps:=[(12,.c 1),(57,.c 1),(90,.c 1),(91,.c 1),(93,.c 1),(95,.c 1),(96,.c 1),(98,.c 1),(101,.c 0),(111,.c 1),(112,.c 1),(117,.c 1),(118,.c 1),(120,.c 1),(122,.c 1),(123,.c 1),(125,.c 1),(138,.c 1),(139,.c 1),(144,.c 1),(145,.c 1),(149,.c 0),(153,.c 0),(159,.c 1),(160,.c 1)]) (nz:=[]) ?_ az (by kernel_rfl)
         intro y hy;simp only [List.mem_cons,List.not_mem_nil,or_false] at hy;rcases hy with rfl|rfl|rfl|rfl|rfl|rfl|rfl|rfl|rfl|rfl|rfl|rfl|rfl|rfl|rfl|rfl|rfl|rfl|rfl|rfl|rfl|rfl|rfl|rfl|rfl<;>assumption
       . have k159:v 159=0:=by have h:v 159=b2i (decide (v 55<=v 157)):=ag hs 159 rfl;rw [h,z55,e157,decide_eq_false (by omega)];rfl
         have k165:v 165=1:=by have h:v 165=b2i (decide (v 55<=v 163)):=ag hs 165 rfl;rw [h,z55,e163,decide_eq_true (by omega)];rfl
         have k166:v 166=1:=by have h:v 166=b2i (decide (v 164<=v 56)):=ag hs 166 rfl;rw [h,z56,e164,decide_eq_true (by omega)];rfl
         refine au (X:=cxF [a0,a1,a2,a3,a4,a5,a6,a7,a8]) (v:=v) (l:=fA) (aP _) hs (k:=202) (r:=.c 1) (ps:=[(12,.c 1),(57,.c 1),(90,.c 1),(91,.c 1),(93,.c 1),(95,.c 1),(96,.c 1),(98,.c 1),(101,.c 0),(111,.c 1),(112,.c 1),(117,.c 1),(118,.c 1),(120,.c 1),(122,.c 1),(123,.c 1),(125,.c 1),(138,.c 1),(139,.c 1),(144,.c 1),(145,.c 1),(149,.c 0),(153,.c 0),(159,.c 0),(165,.c 1),(166,.c 1)]) (nz:=[]) ?_ az (by kernel_rfl)
         intro y hy;simp only [List.mem_cons,List.not_mem_nil,or_false] at hy;rcases hy with rfl|rfl|rfl|rfl|rfl|rfl|rfl|rfl|rfl|rfl|rfl|rfl|rfl|rfl|rfl|rfl|rfl|rfl|rfl|rfl|rfl|rfl|rfl|rfl|rfl|rfl<;>assumption
   . exact au (X:=cxF [a0,a1,a2,a3,a4,a5,a6,a7,a8]) (v:=v) (l:=fA) (aP _) hs (k:=202) (r:=.c 1) (ps:=[(12,.c 0)]) (nz:=[]) (aa q ax) az (by kernel_rfl)
