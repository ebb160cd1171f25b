/- The law CosineMeridian: altitude and azimuth on the meridian. -/
import Derived.Test.YtpcfajiiijndiaaZLawMi
import Derived.Test.YtpcfajiiijndiaaZInc
import Derived.Test.YtpcfajiiijndiaaZMer
set_option linter.unusedVariables false
set_option linter.unusedSimpArgs false
set_option maxRecDepth 100000
set_option maxHeartbeats 8000000
namespace Go.Proofs.Ytpcfajiiijndiaa
open Go.RowKit Alm Sx
theorem or0 {x y z:Int} (h:z=if x≠0 then (1:Int) else y) (hz:¬ z≠0) (hy:y=0∨y=1):x=0/\y=0:=by
 by_cases q:x≠0
 . rw [if_pos q] at h;omega
 . rw [if_neg q] at h;omega
theorem sH (p:Prop) [Decidable p]:b2i (decide p)=0∨b2i (decide p)=1:=by by_cases h:p<;>simp [b2i,h]
theorem Ls {a c x7 x8 x9 x10 x11 x12 x13:Int} (e7:x7=b2i (decide (a<(-5400000:Int)))) (e8:x8=b2i (decide (a>(5400000:Int)))) (e9:x9=if x7≠0 then (1:Int) else x8) (e10:x10=b2i (decide (c<(-5400000:Int)))) (e11:x11=if x9≠0 then (1:Int) else x10) (e12:x12=b2i (decide (c>(5400000:Int)))) (e13:x13=if x11≠0 then (1:Int) else x12) (h:¬ x13≠0):(-5400000<=a/\a<=5400000)/\(-5400000<=c/\c<=5400000):=by
 obtain ⟨h11,h12⟩:=or0 e13 h (e12 ▸ sH _);obtain ⟨h9,h10⟩:=or0 e11 (by omega) (e10 ▸ sH _)
 obtain ⟨h7,h8⟩:=or0 e9 (by omega) (e8 ▸ sH _)
 rw [h7] at e7;rw [h8] at e8;rw [h10] at e10;rw [h12] at e12
 have f:∀ (p:Prop) [Decidable p],(0:Int)=b2i (decide p)->¬ p:=by
  intro p _ h q;rw [decide_eq_true q] at h;cases h
 have:=f _ e7;have:=f _ e8;have:=f _ e10;have:=f _ e12;omega
theorem N8 {a b x14 x15 x16 x17 x18 x19:Int} (e14:x14=b2i (decide (a<=b))) (e15:x15=b2i (decide (a>=(-1099511627776:Int)))) (e16:x16=if x14≠0 then x15 else (0:Int)) (e17:x17=b2i (decide (b<=(1099511627776:Int)))) (e18:x18=if x16≠0 then x17 else (0:Int)) (e19:x19=if x18≠0 then (0:Int) else (1:Int)) (h:¬ x19≠0):-1099511627776<=a/\a<=b/\b<=1099511627776:=by
 have f1:x18≠0:=by
  intro q;rw [if_neg (by omega)] at e19
  omega
 rw [e18] at f1
 have f2:x16≠0:=by
  intro q;rw [if_neg (by omega)] at f1
  exact f1 rfl
 rw [if_pos f2,e17,kJ,decide_eq_true_iff] at f1;rw [e16] at f2
 have f3:x14≠0:=by
  intro q;rw [if_neg (by omega)] at f2
  exact f2 rfl
 rw [if_pos f3,e15,kJ,decide_eq_true_iff] at f2;rw [e14,kJ,decide_eq_true_iff] at f3;omega
def bI:List Nd:=[
 .arg 0,
 .arg 1,
 .arg 2,
 .arg 3,
 .app 20 0 [],
 .ite (.n 4) (.c 0) (.c 1),
 .ite (.n 5) (.c 0) (.c 1),
 .bin .lss .i64 (.n 0) (.c (-5400000)),
 .bin .gtr .i64 (.n 0) (.c 5400000),
 .ite (.n 7) (.c 1) (.n 8),
 .bin .lss .i64 (.n 1) (.c (-5400000)),
 .ite (.n 9) (.c 1) (.n 10),
 .bin .gtr .i64 (.n 1) (.c 5400000),
 .ite (.n 11) (.c 1) (.n 12),
 .bin .leq .i64 (.n 2) (.n 3),
 .bin .geq .i64 (.n 2) (.c (-1099511627776)),
 .ite (.n 14) (.n 15) (.c 0),
 .bin .leq .i64 (.n 3) (.c 1099511627776),
 .ite (.n 16) (.n 17) (.c 0),
 .ite (.n 18) (.c 0) (.c 1),
 .ite (.n 13) (.c 1) (.n 19),
 .ite (.n 20) (.c 0) (.c 1),
 .app 52 0 [.n 0,.n 0,.n 1,.n 1,.c 0,.c 0],
 .ite (.n 22) (.c 0) (.c 1),
 .ite (.n 23) (.c 0) (.c 1),
 .app 50 0 [.n 0,.n 0,.n 1,.n 1,.c 0,.c 0],
 .app 50 1 [.n 0,.n 0,.n 1,.n 1,.c 0,.c 0],
 .app 50 2 [.n 0,.n 0,.n 1,.n 1,.c 0,.c 0],
 .ite (.n 23) (.c 1) (.n 27),
 .ite (.n 23) (.c 0) (.n 25),
 .ite (.n 23) (.c 0) (.n 26),
 .bin .neq .i64 (.n 28) (.c 0),
 .ite (.n 31) (.c 0) (.c 1),
 .app 51 0 [.n 0,.n 0,.n 1,.n 1,.c 0,.c 0],
 .app 51 1 [.n 0,.n 0,.n 1,.n 1,.c 0,.c 0],
 .app 51 2 [.n 0,.n 0,.n 1,.n 1,.c 0,.c 0],
 .ite (.n 23) (.c 1) (.n 35),
 .ite (.n 23) (.c 0) (.n 33),
 .ite (.n 23) (.c 0) (.n 34),
 .bin .neq .i64 (.n 36) (.c 0),
 .ite (.n 39) (.c 0) (.c 1),
 .ite (.n 39) (.n 36) (.c 0),
 .ite (.n 39) (.c 0) (.n 29),
 .ite (.n 39) (.c 0) (.n 30),
 .ite (.n 39) (.c 0) (.n 37),
 .ite (.n 39) (.c 0) (.n 38),
 .ite (.n 31) (.n 28) (.n 41),
 .ite (.n 31) (.n 28) (.n 36),
 .ite (.n 31) (.c 0) (.n 42),
 .ite (.n 31) (.c 0) (.n 43),
 .ite (.n 31) (.c 0) (.n 44),
 .ite (.n 31) (.c 0) (.n 45),
 .app 52 0 [.n 0,.n 0,.n 1,.n 1,.c 10800000,.c 10800000],
 .ite (.n 52) (.c 0) (.c 1),
 .ite (.n 53) (.c 0) (.c 1),
 .app 50 0 [.n 0,.n 0,.n 1,.n 1,.c 10800000,.c 10800000],
 .app 50 1 [.n 0,.n 0,.n 1,.n 1,.c 10800000,.c 10800000],
 .app 50 2 [.n 0,.n 0,.n 1,.n 1,.c 10800000,.c 10800000],
 .ite (.n 53) (.c 1) (.n 57),
 .ite (.n 53) (.c 0) (.n 55),
 .ite (.n 53) (.c 0) (.n 56),
 .app 52 0 [.c 5400000,.c 5400000,.n 1,.n 1,.n 2,.n 3],
 .ite (.n 61) (.c 0) (.c 1),
 .ite (.n 62) (.c 0) (.c 1),
 .app 50 0 [.c 5400000,.c 5400000,.n 1,.n 1,.n 2,.n 3],
 .app 50 1 [.c 5400000,.c 5400000,.n 1,.n 1,.n 2,.n 3],
 .app 50 2 [.c 5400000,.c 5400000,.n 1,.n 1,.n 2,.n 3],
 .ite (.n 62) (.c 1) (.n 66),
 .ite (.n 62) (.c 0) (.n 64),
 .ite (.n 62) (.c 0) (.n 65),
 .bin .neq .i64 (.n 46) (.c 0),
 .bin .neq .i64 (.n 58) (.c 0),
 .ite (.n 70) (.c 1) (.n 71),
 .bin .neq .i64 (.n 67) (.c 0),
 .ite (.n 72) (.c 1) (.n 73),
 .bin .leq .i64 (.n 48) (.n 49),
 .bin .geq .i64 (.n 48) (.c (-5400000)),
 .ite (.n 75) (.n 76) (.c 0),
 .bin .leq .i64 (.n 49) (.c 5400000),
 .ite (.n 77) (.n 78) (.c 0),
 .bin .leq .i64 (.n 50) (.n 51),
 .bin .geq .i64 (.n 50) (.c (-1099511627776)),
 .ite (.n 80) (.n 81) (.c 0),
 .bin .leq .i64 (.n 51) (.c 1099511627776),
 .ite (.n 82) (.n 83) (.c 0),
 .bin .sub .i64 (.n 51) (.n 50),
 .bin .geq .i64 (.n 85) (.c 21600000),
 .ite (.n 86) (.c 0) (.c 1),
 .bin .rem .i64 (.n 50) (.c 21600000),
 .bin .lss .i64 (.n 88) (.c 0),
 .bin .add .i64 (.n 88) (.c 21600000),
 .ite (.n 89) (.c 0) (.c 1),
 .ite (.n 89) (.n 90) (.n 88),
 .bin .add .i64 (.n 92) (.n 85),
 .ite (.n 86) (.c 0) (.n 92),
 .ite (.n 86) (.c 21600000) (.n 93),
 .bin .eql .i64 (.n 94) (.n 50),
 .bin .eql .i64 (.n 95) (.n 51),
 .ite (.n 96) (.n 97) (.c 0),
 .ite (.n 84) (.n 98) (.c 0),
 .ite (.n 79) (.n 99) (.c 0),
 .ite (.n 100) (.c 0) (.c 1),
 .ite (.n 74) (.c 1) (.n 101),
 .ite (.n 102) (.c 0) (.c 1),
 .bin .sub .i64 (.n 0) (.n 1),
 .bin .add .i64 (.n 0) (.n 1),
 .bin .lss .i64 (.n 104) (.c 0),
 .bin .sub .i64 (.c 0) (.n 104),
 .ite (.n 106) (.c 0) (.c 1),
 .ite (.n 106) (.n 107) (.n 104),
 .bin .lss .i64 (.n 105) (.c 0),
 .bin .sub .i64 (.c 0) (.n 105),
 .ite (.n 110) (.c 0) (.c 1),
 .ite (.n 110) (.n 111) (.n 105),
 .bin .gtr .i64 (.n 0) (.n 1),
 .ite (.n 114) (.c 0) (.c 1),
 .ite (.n 114) (.c 10800000) (.c 0),
 .bin .sub .i64 (.c 5400000) (.n 109),
 .bin .leq .i64 (.n 48) (.n 117),
 .bin .leq .i64 (.n 117) (.n 49),
 .ite (.n 118) (.n 119) (.c 0),
 .bin .sub .i64 (.n 113) (.c 5400000),
 .bin .leq .i64 (.n 59) (.n 121),
 .bin .leq .i64 (.n 121) (.n 60),
 .ite (.n 122) (.n 123) (.c 0),
 .ite (.n 120) (.n 124) (.c 0),
 .bin .leq .i64 (.n 68) (.n 1),
 .bin .leq .i64 (.n 1) (.n 69),
 .ite (.n 126) (.n 127) (.c 0),
 .ite (.n 125) (.n 128) (.c 0),
 .bin .sub .i64 (.n 116) (.n 116),
 .bin .geq .i64 (.n 130) (.c 21600000),
 .ite (.n 131) (.c 0) (.c 1),
 .bin .rem .i64 (.n 116) (.c 21600000),
 .bin .lss .i64 (.n 133) (.c 0),
 .bin .add .i64 (.n 133) (.c 21600000),
 .ite (.n 134) (.c 0) (.c 1),
 .ite (.n 134) (.n 135) (.n 133),
 .bin .add .i64 (.n 137) (.n 130),
 .ite (.n 131) (.c 0) (.n 137),
 .ite (.n 131) (.c 21600000) (.n 138),
 .bin .sub .i64 (.n 140) (.n 139),
 .bin .geq .i64 (.n 141) (.c 21600000),
 .ite (.n 142) (.c 0) (.c 1),
 .bin .add .i64 (.n 139) (.c (-21600000)),
 .bin .add .i64 (.n 140) (.c (-21600000)),
 .bin .leq .i64 (.n 50) (.n 144),
 .bin .leq .i64 (.n 145) (.n 51),
 .ite (.n 146) (.n 147) (.c 0),
 .ite (.n 148) (.c 0) (.c 1),
 .bin .add .i64 (.n 139) (.c 0),
 .bin .add .i64 (.n 140) (.c 0),
 .bin .leq .i64 (.n 50) (.n 150),
 .bin .leq .i64 (.n 151) (.n 51),
 .ite (.n 152) (.n 153) (.c 0),
 .ite (.n 154) (.c 0) (.c 1),
 .bin .add .i64 (.n 139) (.c 21600000),
 .bin .add .i64 (.n 140) (.c 21600000),
 .bin .leq .i64 (.n 50) (.n 156),
 .bin .leq .i64 (.n 157) (.n 51),
 .ite (.n 158) (.n 159) (.c 0),
 .ite (.n 160) (.c 0) (.c 1),
 .ite (.n 155) (.n 160) (.c 0),
 .ite (.n 155) (.n 161) (.c 0),
 .ite (.n 154) (.c 1) (.n 162),
 .ite (.n 154) (.c (-1)) (.c 0),
 .ite (.n 154) (.c 0) (.c 21600000),
 .ite (.n 154) (.n 150) (.n 156),
 .ite (.n 154) (.n 151) (.n 157),
 .ite (.n 154) (.n 154) (.n 160),
 .ite (.n 149) (.n 164) (.c 0),
 .ite (.n 149) (.n 163) (.c 0),
 .ite (.n 148) (.c 1) (.n 170),
 .ite (.n 148) (.c (-1)) (.n 155),
 .ite (.n 148) (.c (-21600000)) (.n 166),
 .ite (.n 148) (.n 144) (.n 167),
 .ite (.n 148) (.n 145) (.n 168),
 .ite (.n 148) (.n 148) (.n 169),
 .ite (.n 172) (.c 1) (.n 171),
 .ite (.n 172) (.n 173) (.c 2),
 .ite (.n 172) (.n 173) (.c 1),
 .ite (.n 172) (.n 174) (.c 21600000),
 .ite (.n 172) (.n 175) (.n 156),
 .ite (.n 172) (.n 176) (.n 157),
 .ite (.n 172) (.n 177) (.n 160),
 .ite (.n 143) (.n 178) (.c 0),
 .ite (.n 142) (.c 1) (.n 185),
 .ite (.n 142) (.c 0) (.n 172),
 .ite (.n 87) (.n 186) (.c 0),
 .ite (.n 86) (.c 1) (.n 188),
 .ite (.n 86) (.c 1) (.n 187),
 .ite (.n 86) (.n 116) (.n 139),
 .ite (.n 86) (.n 116) (.n 140),
 .ite (.n 129) (.n 190) (.c 0),
 .ite (.n 102) (.c 0) (.n 193),
 .ite (.n 20) (.c 1) (.n 194),
 .ite (.n 5) (.c 0) (.n 195)]
def QN:List Vc:=[
 ⟨[],.pre 20 []⟩,
 ⟨[(.n 21,true),(.n 6,true)],.pre 52 [.n 0,.n 0,.n 1,.n 1,.c 0,.c 0]⟩,
 ⟨[(.n 24,true),(.n 21,true),(.n 6,true)],.pre 50 [.n 0,.n 0,.n 1,.n 1,.c 0,.c 0]⟩,
 ⟨[(.n 32,true),(.n 21,true),(.n 6,true)],.pre 52 [.n 0,.n 0,.n 1,.n 1,.c 0,.c 0]⟩,
 ⟨[(.n 24,true),(.n 32,true),(.n 21,true),(.n 6,true)],.pre 51 [.n 0,.n 0,.n 1,.n 1,.c 0,.c 0]⟩,
 ⟨[(.n 21,true),(.n 6,true)],.pre 52 [.n 0,.n 0,.n 1,.n 1,.c 10800000,.c 10800000]⟩,
 ⟨[(.n 54,true),(.n 21,true),(.n 6,true)],.pre 50 [.n 0,.n 0,.n 1,.n 1,.c 10800000,.c 10800000]⟩,
 ⟨[(.n 21,true),(.n 6,true)],.pre 52 [.c 5400000,.c 5400000,.n 1,.n 1,.n 2,.n 3]⟩,
 ⟨[(.n 63,true),(.n 21,true),(.n 6,true)],.pre 50 [.c 5400000,.c 5400000,.n 1,.n 1,.n 2,.n 3]⟩]
theorem Rk:whole Try.prog KQ 20 40 7 [(false,[some .i64]),(false,[some .i64]),(true,[some .i64,some .i64])]=some (.p (.c (.bool (.n 196))),⟨bI.reverse,QN.reverse⟩):=by kernel_rfl
theorem Rm:wfN bI.reverse=true:=by kernel_rfl
theorem Hm (a0 a1 a2 a3:Int) (w:World):Calls Try.prog 7 #[.int .i64 a0,.int .i64 a1,.agg #[.int .i64 a2,.int .i64 a3]] w fun e w'=>e=.returned (.bool true)/\Below w.heap.size w w':=by
 refine Sx.calls (X:=cxF [a0,a1,a2,a3]) dN (Da _) Rk Rm (fun v hs=>?_) w
 have e20:v 20=if v 13≠0 then (1:Int) else v 19:=ag hs 20 rfl
 have e21:v 21=if v 20≠0 then (0:Int) else (1:Int):=ag hs 21 rfl
 have D:¬ v 20≠0->((-5400000<=v 0/\v 0<=5400000)/\(-5400000<=v 1/\v 1<=5400000))/\(-1099511627776<=v 2/\v 2<=v 3/\v 3<=1099511627776):=by
  intro h;have e19:v 19=if v 18≠0 then (0:Int) else (1:Int):=ag hs 19 rfl
  obtain ⟨h1,h2⟩:=or0 e20 h (by rw [e19];by_cases q:v 18≠0<;>simp [q])
  exact ⟨Ls (ag hs 7 rfl) (ag hs 8 rfl) (ag hs 9 rfl) (ag hs 10 rfl) (ag hs 11 rfl) (ag hs 12 rfl) (ag hs 13 rfl) (by omega),N8 (ag hs 14 rfl) (ag hs 15 rfl) (ag hs 16 rfl) (ag hs 17 rfl) (ag hs 18 rfl) (ag hs 19 rfl) (by omega)⟩
 have e22:v 22=b2i (decide (gV (v 0) (v 0) (v 1) (v 1) 0 0)):=ag hs 22 rfl;have e52:v 52=b2i (decide (gV (v 0) (v 0) (v 1) (v 1) 10800000 10800000)):=ag hs 52 rfl;have e61:v 61=b2i (decide (gV 5400000 5400000 (v 1) (v 1) (v 2) (v 3))):=ag hs 61 rfl
 have TT:¬ v 20≠0->gV (v 0) (v 0) (v 1) (v 1) 0 0/\gV (v 0) (v 0) (v 1) (v 1) 10800000 10800000/\gV 5400000 5400000 (v 1) (v 1) (v 2) (v 3):=by
  intro h;have:=D h;unfold gV;omega
 have AR:¬ v 20≠0->bi (v 0) (v 0)=true/\bi (v 1) (v 1)=true/\bi (v 2) (v 3)=true:=by
  intro h;have:=D h;rw [bu,bu,bu];omega
 have W:v 21≠0->¬ v 20≠0:=by
  intro h q;rw [e21,if_pos q] at h;exact absurd h (by decide)
 have O:¬ v 20≠0∨v 20=1:=by
  by_cases q:v 20≠0
  . right
    rw [e20]
    by_cases c:v 13≠0
    . rw [if_pos c]
    . rw [if_neg c];rw [e20,if_neg c] at q;have e19:v 19=if v 18≠0 then (0:Int) else (1:Int):=ag hs 19 rfl
      rw [e19] at q ⊢
      by_cases c2:v 18≠0
      . rw [if_pos c2] at q;exact absurd rfl q
      . rw [if_neg c2]
  . exact .inl q
 refine ⟨bC ?_,?_⟩
 . exact aj (fun _=>trivial) (aj (fun _=>trivial) (aj (fun hp=>⟨(AR (W ((ak (ak hp).2).1))).1,(AR (W ((ak (ak hp).2).1))).2.1,rfl⟩) (aj (fun _=>trivial) (aj (fun hp=>⟨(AR (W ((ak (ak (ak hp).2).2).1))).1,(AR (W ((ak (ak (ak hp).2).2).1))).2.1,rfl⟩) (aj (fun _=>trivial) (aj (fun hp=>⟨(AR (W ((ak (ak hp).2).1))).1,(AR (W ((ak (ak hp).2).1))).2.1,rfl⟩) (aj (fun _=>trivial) (aj (fun hp=>⟨rfl,(AR (W ((ak (ak hp).2).1))).2.1,(AR (W ((ak (ak hp).2).1))).2.2⟩) (bz)))))))))
 . intro x hx;have hx':x=.bool (decide (v 196≠0)):=hx
   suffices hr:v 196=1 by rw [hx',hr];rfl
   rcases O with q|q
   . obtain ⟨⟨d0,d1⟩,d2⟩:=D q;obtain ⟨t1,t2,t3⟩:=TT q;have q20:v 20=0:=by omega
     have q22:v 22=1:=by rw [e22,decide_eq_true t1];rfl
     have q52:v 52=1:=by rw [e52,decide_eq_true t2];rfl
     have q61:v 61=1:=by rw [e61,decide_eq_true t3];rfl
     clear D TT AR W e20 e21 e22 e52 e61 q t1 t2 t3;have z48:v 48=v 25:=bg (X:=cxF [a0,a1,a2,a3]) (v:=v) (l:=bI) (aP _) hs (k:=48) (j:=25) (ps:=[(20,.c 0),(22,.c 1),(52,.c 1),(61,.c 1)]) (aa q20 (aa q22 (aa q52 (aa q61 ax)))) (by kernel_rfl)
     have z49:v 49=v 26:=bg (X:=cxF [a0,a1,a2,a3]) (v:=v) (l:=bI) (aP _) hs (k:=49) (j:=26) (ps:=[(20,.c 0),(22,.c 1),(52,.c 1),(61,.c 1)]) (aa q20 (aa q22 (aa q52 (aa q61 ax)))) (by kernel_rfl)
     have z50:v 50=v 33:=bg (X:=cxF [a0,a1,a2,a3]) (v:=v) (l:=bI) (aP _) hs (k:=50) (j:=33) (ps:=[(20,.c 0),(22,.c 1),(52,.c 1),(61,.c 1)]) (aa q20 (aa q22 (aa q52 (aa q61 ax)))) (by kernel_rfl)
     have z51:v 51=v 34:=bg (X:=cxF [a0,a1,a2,a3]) (v:=v) (l:=bI) (aP _) hs (k:=51) (j:=34) (ps:=[(20,.c 0),(22,.c 1),(52,.c 1),(61,.c 1)]) (aa q20 (aa q22 (aa q52 (aa q61 ax)))) (by kernel_rfl)
     have z59:v 59=v 55:=bg (X:=cxF [a0,a1,a2,a3]) (v:=v) (l:=bI) (aP _) hs (k:=59) (j:=55) (ps:=[(20,.c 0),(22,.c 1),(52,.c 1),(61,.c 1)]) (aa q20 (aa q22 (aa q52 (aa q61 ax)))) (by kernel_rfl)
     have z60:v 60=v 56:=bg (X:=cxF [a0,a1,a2,a3]) (v:=v) (l:=bI) (aP _) hs (k:=60) (j:=56) (ps:=[(20,.c 0),(22,.c 1),(52,.c 1),(61,.c 1)]) (aa q20 (aa q22 (aa q52 (aa q61 ax)))) (by kernel_rfl)
     have z68:v 68=v 64:=bg (X:=cxF [a0,a1,a2,a3]) (v:=v) (l:=bI) (aP _) hs (k:=68) (j:=64) (ps:=[(20,.c 0),(22,.c 1),(52,.c 1),(61,.c 1)]) (aa q20 (aa q22 (aa q52 (aa q61 ax)))) (by kernel_rfl)
     have z69:v 69=v 65:=bg (X:=cxF [a0,a1,a2,a3]) (v:=v) (l:=bI) (aP _) hs (k:=69) (j:=65) (ps:=[(20,.c 0),(22,.c 1),(52,.c 1),(61,.c 1)]) (aa q20 (aa q22 (aa q52 (aa q61 ax)))) (by kernel_rfl)
     have l25:v 25=(dV (v 0) (v 0) (v 1) (v 1) 0 0).getD 0 0:=ag hs 25 rfl;have l26:v 26=(dV (v 0) (v 0) (v 1) (v 1) 0 0).getD 1 0:=ag hs 26 rfl;have l33:v 33=(azV (v 0) (v 0) (v 1) (v 1) 0 0).getD 0 0:=ag hs 33 rfl;have l34:v 34=(azV (v 0) (v 0) (v 1) (v 1) 0 0).getD 1 0:=ag hs 34 rfl;have l55:v 55=(dV (v 0) (v 0) (v 1) (v 1) 10800000 10800000).getD 0 0:=ag hs 55 rfl;have l56:v 56=(dV (v 0) (v 0) (v 1) (v 1) 10800000 10800000).getD 1 0:=ag hs 56 rfl;have l64:v 64=(dV 5400000 5400000 (v 1) (v 1) (v 2) (v 3)).getD 0 0:=ag hs 64 rfl;have l65:v 65=(dV 5400000 5400000 (v 1) (v 1) (v 2) (v 3)).getD 1 0:=ag hs 65 rfl;have e104:v 104=v 0-v 1:=by have h:v 104=IntKind.i64.wrap (v 0-v 1):=ag hs 104 rfl;rw [h,Go.IntWalk.i64_in _ (by omega)]
     have e105:v 105=v 0+v 1:=by have h:v 105=IntKind.i64.wrap (v 0+v 1):=ag hs 105 rfl;rw [h,Go.IntWalk.i64_in _ (by omega)]
     have e107:v 107=v 1-v 0:=by have h:v 107=IntKind.i64.wrap (0-v 104):=ag hs 107 rfl;rw [h,e104,Go.IntWalk.i64_in _ (by omega)];omega
     have e111:v 111=-(v 0+v 1):=by have h:v 111=IntKind.i64.wrap (0-v 105):=ag hs 111 rfl;rw [h,e105,Go.IntWalk.i64_in _ (by omega)];omega
     have e109:v 109=if v 0-v 1<0 then v 1-v 0 else v 0-v 1:=by
      have h:v 109=if v 106≠0 then v 107 else v 104:=ag hs 109 rfl
      have g:v 106=b2i (decide (v 104<0)):=ag hs 106 rfl;rw [h,g,oZ,e104,e107]
     have e113:v 113=if v 0+v 1<0 then -(v 0+v 1) else v 0+v 1:=by
      have h:v 113=if v 110≠0 then v 111 else v 105:=ag hs 113 rfl
      have g:v 110=b2i (decide (v 105<0)):=ag hs 110 rfl;rw [h,g,oZ,e105,e111]
     have e116:v 116=if v 0>v 1 then 10800000 else 0:=by
      have h:v 116=if v 114≠0 then (10800000:Int) else (0:Int):=ag hs 116 rfl
      have g:v 114=b2i (decide (v 0>v 1)):=ag hs 114 rfl;rw [h,g,oZ]
     have e117:v 117=5400000-(if v 0-v 1<0 then v 1-v 0 else v 0-v 1):=by have h:v 117=IntKind.i64.wrap (5400000-v 109):=ag hs 117 rfl;rw [h,e109,Go.IntWalk.i64_in _ (by split<;>omega)]
     have e121:v 121=(if v 0+v 1<0 then -(v 0+v 1) else v 0+v 1)-5400000:=by have h:v 121=IntKind.i64.wrap (v 113-5400000):=ag hs 121 rfl;rw [h,e113,Go.IntWalk.i64_in _ (by split<;>omega)]
     have m1:=Pg (v 0) (v 1) (v 117) d0 d1 e117;have m2:=MB (v 0) (v 1) (v 121) d0 d1 e121;have m3:=Iq (v 1) (v 2) (v 3) d1;have m4:=PZ (v 0) (v 1) (v 116) d0 d1 e116;have bA:=BP (v 0) (v 0) (v 1) (v 1) 0 0;have bZ:=Iw (v 0) (v 0) (v 1) (v 1) 0 0;rw [<-l25,<-l26] at m1 bA;rw [<-l33,<-l34] at m4 bZ;rw [<-l55,<-l56] at m2;rw [<-l64,<-l65] at m3;have s116:v 116=10800000∨v 116=0:=by rw [e116];split<;>simp
     clear l25 l26 l33 l34 l55 l56 l64 l65 e104 e105 e107 e109 e111 e113 e117 e121;have k75:v 75=1:=by have h:v 75=b2i (decide (v 48<=v 49)):=ag hs 75 rfl;rw [h,decide_eq_true (by rw [z48,z49];omega)];rfl
     have k76:v 76=1:=by have h:v 76=b2i (decide (v 48>=-5400000)):=ag hs 76 rfl;rw [h,decide_eq_true (by rw [z48];omega)];rfl
     have k78:v 78=1:=by have h:v 78=b2i (decide (v 49<=5400000)):=ag hs 78 rfl;rw [h,decide_eq_true (by rw [z49];omega)];rfl
     have k80:v 80=1:=by have h:v 80=b2i (decide (v 50<=v 51)):=ag hs 80 rfl;rw [h,decide_eq_true (by rw [z50,z51];omega)];rfl
     have k81:v 81=1:=by have h:v 81=b2i (decide (v 50>=-1099511627776)):=ag hs 81 rfl;rw [h,decide_eq_true (by rw [z50];omega)];rfl
     have k83:v 83=1:=by have h:v 83=b2i (decide (v 51<=1099511627776)):=ag hs 83 rfl;rw [h,decide_eq_true (by rw [z51];omega)];rfl
     have t75:=jT (X:=v 50) (Y:=v 51) (w:=v 85) (g:=v 86) (r:=v 88) (l:=v 89) (u:=v 90) (q:=v 92) (s:=v 93) (lo:=v 94) (hi:=v 95) (by rw [z50,z51];omega) (ag hs 85 rfl) (ag hs 86 rfl) (ag hs 88 rfl) (ag hs 89 rfl) (ag hs 90 rfl) (ag hs 92 rfl) (ag hs 93 rfl) (ag hs 94 rfl) (ag hs 95 rfl)
     rw [z50,z51] at t75;have u94:v 94=v 33:=by rw [t75.1];split<;>(first|omega|(rename_i g;have:=bZ.2 (by omega);omega))
     have u95:v 95=v 34:=by rw [t75.2];split<;>(first|omega|(rename_i g;have:=bZ.2 (by omega);omega))
     clear t75;have k96:v 96=1:=by have h:v 96=b2i (v 94==v 50):=ag hs 96 rfl;have g:v 94=v 50:=(by rw [u94,z50]);rw [h,g,beq_self_eq_true];rfl
     have k97:v 97=1:=by have h:v 97=b2i (v 95==v 51):=ag hs 97 rfl;have g:v 95=v 51:=(by rw [u95,z51]);rw [h,g,beq_self_eq_true];rfl
     have k118:v 118=1:=by have h:v 118=b2i (decide (v 48<=v 117)):=ag hs 118 rfl;rw [h,decide_eq_true (by rw [z48];exact m1.1)];rfl
     have k119:v 119=1:=by have h:v 119=b2i (decide (v 117<=v 49)):=ag hs 119 rfl;rw [h,decide_eq_true (by rw [z49];exact m1.2)];rfl
     have k122:v 122=1:=by have h:v 122=b2i (decide (v 59<=v 121)):=ag hs 122 rfl;rw [h,decide_eq_true (by rw [z59];exact m2.1)];rfl
     have k123:v 123=1:=by have h:v 123=b2i (decide (v 121<=v 60)):=ag hs 123 rfl;rw [h,decide_eq_true (by rw [z60];exact m2.2)];rfl
     have k126:v 126=1:=by have h:v 126=b2i (decide (v 68<=v 1)):=ag hs 126 rfl;rw [h,decide_eq_true (by rw [z68];exact m3.1)];rfl
     have k127:v 127=1:=by have h:v 127=b2i (decide (v 1<=v 69)):=ag hs 127 rfl;rw [h,decide_eq_true (by rw [z69];exact m3.2)];rfl
     have e85:v 85=v 34-v 33:=by have h:v 85=IntKind.i64.wrap (v 51-v 50):=ag hs 85 rfl;rw [h,z50,z51,Go.IntWalk.i64_in _ (by omega)]
     by_cases hw:v 34-v 33>=21600000
     . have k86:v 86=1:=by have h:v 86=b2i (decide (v 85>=21600000)):=ag hs 86 rfl;rw [h,e85,decide_eq_true hw];rfl
       refine au (X:=cxF [a0,a1,a2,a3]) (v:=v) (l:=bI) (aP _) hs (k:=196) (r:=.c 1) (ps:=[(20,.c 0),(22,.c 1),(52,.c 1),(61,.c 1),(75,.c 1),(76,.c 1),(78,.c 1),(80,.c 1),(81,.c 1),(83,.c 1),(86,.c 1),(96,.c 1),(97,.c 1),(118,.c 1),(119,.c 1),(122,.c 1),(123,.c 1),(126,.c 1),(127,.c 1)]) (nz:=[]) ?_ az (by kernel_rfl)
       intro y hy;simp only [List.mem_cons,List.not_mem_nil,or_false] at hy;rcases hy with rfl|rfl|rfl|rfl|rfl|rfl|rfl|rfl|rfl|rfl|rfl|rfl|rfl|rfl|rfl|rfl|rfl|rfl|rfl<;>assumption
     . have k86:v 86=0:=by have h:v 86=b2i (decide (v 85>=21600000)):=ag hs 86 rfl;rw [h,e85,decide_eq_false hw];rfl
       have c:=ow (l:=v 116) (h:=v 116) (by omega) (by omega) m4 (by omega)
       rcases s116 with s|s
       . have n144:v 144=(-10800000):=au (X:=cxF [a0,a1,a2,a3]) (v:=v) (l:=bI) (aP _) hs (k:=144) (r:=.c (-10800000)) (ps:=[(116,.c 10800000)]) (nz:=[]) (aa s ax) az (by kernel_rfl)
         have n150:v 150=10800000:=au (X:=cxF [a0,a1,a2,a3]) (v:=v) (l:=bI) (aP _) hs (k:=150) (r:=.c 10800000) (ps:=[(116,.c 10800000)]) (nz:=[]) (aa s ax) az (by kernel_rfl)
         have n151:v 151=10800000:=au (X:=cxF [a0,a1,a2,a3]) (v:=v) (l:=bI) (aP _) hs (k:=151) (r:=.c 10800000) (ps:=[(116,.c 10800000)]) (nz:=[]) (aa s ax) az (by kernel_rfl)
         have n156:v 156=32400000:=au (X:=cxF [a0,a1,a2,a3]) (v:=v) (l:=bI) (aP _) hs (k:=156) (r:=.c 32400000) (ps:=[(116,.c 10800000)]) (nz:=[]) (aa s ax) az (by kernel_rfl)
         have n157:v 157=32400000:=au (X:=cxF [a0,a1,a2,a3]) (v:=v) (l:=bI) (aP _) hs (k:=157) (r:=.c 32400000) (ps:=[(116,.c 10800000)]) (nz:=[]) (aa s ax) az (by kernel_rfl)
         rw [s] at c;have k146:v 146=0:=by have h:v 146=b2i (decide (v 50<=v 144)):=ag hs 146 rfl;rw [h,z50,n144,decide_eq_false (by omega)];rfl
         rcases c.2.2 with c|c
         . have k152:v 152=1:=by have h:v 152=b2i (decide (v 50<=v 150)):=ag hs 152 rfl;rw [h,z50,n150,decide_eq_true (by omega)];rfl
           have k153:v 153=1:=by have h:v 153=b2i (decide (v 151<=v 51)):=ag hs 153 rfl;rw [h,z51,n151,decide_eq_true (by omega)];rfl
           refine au (X:=cxF [a0,a1,a2,a3]) (v:=v) (l:=bI) (aP _) hs (k:=196) (r:=.c 1) (ps:=[(20,.c 0),(22,.c 1),(52,.c 1),(61,.c 1),(75,.c 1),(76,.c 1),(78,.c 1),(80,.c 1),(81,.c 1),(83,.c 1),(86,.c 0),(96,.c 1),(97,.c 1),(116,.c 10800000),(118,.c 1),(119,.c 1),(122,.c 1),(123,.c 1),(126,.c 1),(127,.c 1),(146,.c 0),(152,.c 1),(153,.c 1)]) (nz:=[]) ?_ az (by kernel_rfl)
           intro y hy;simp only [List.mem_cons,List.not_mem_nil,or_false] at hy;rcases hy with rfl|rfl|rfl|rfl|rfl|rfl|rfl|rfl|rfl|rfl|rfl|rfl|rfl|rfl|rfl|rfl|rfl|rfl|rfl|rfl|rfl|rfl|rfl<;>assumption
         . have k152:v 152=0:=by have h:v 152=b2i (decide (v 50<=v 150)):=ag hs 152 rfl;rw [h,z50,n150,decide_eq_false (by omega)];rfl
           have k158:v 158=1:=by have h:v 158=b2i (decide (v 50<=v 156)):=ag hs 158 rfl;rw [h,z50,n156,decide_eq_true (by omega)];rfl
           have k159:v 159=1:=by have h:v 159=b2i (decide (v 157<=v 51)):=ag hs 159 rfl;rw [h,z51,n157,decide_eq_true (by omega)];rfl
           refine au (X:=cxF [a0,a1,a2,a3]) (v:=v) (l:=bI) (aP _) hs (k:=196) (r:=.c 1) (ps:=[(20,.c 0),(22,.c 1),(52,.c 1),(61,.c 1),(75,.c 1),(76,.c 1),(78,.c 1),(80,.c 1),(81,.c 1),(83,.c 1),(86,.c 0),(96,.c 1),(97,.c 1),(116,.c 10800000),(118,.c 1),(119,.c 1),(122,.c 1),(123,.c 1),(126,.c 1),(127,.c 1),(146,.c 0),(152,.c 0),(158,.c 1),(159,.c 1)]) (nz:=[]) ?_ az (by kernel_rfl)
           intro y hy;simp only [List.mem_cons,List.not_mem_nil,or_false] at hy;rcases hy with rfl|rfl|rfl|rfl|rfl|rfl|rfl|rfl|rfl|rfl|rfl|rfl|rfl|rfl|rfl|rfl|rfl|rfl|rfl|rfl|rfl|rfl|rfl|rfl<;>assumption
       . have n144:v 144=(-21600000):=au (X:=cxF [a0,a1,a2,a3]) (v:=v) (l:=bI) (aP _) hs (k:=144) (r:=.c (-21600000)) (ps:=[(116,.c 0)]) (nz:=[]) (aa s ax) az (by kernel_rfl)
         have n150:v 150=0:=au (X:=cxF [a0,a1,a2,a3]) (v:=v) (l:=bI) (aP _) hs (k:=150) (r:=.c 0) (ps:=[(116,.c 0)]) (nz:=[]) (aa s ax) az (by kernel_rfl)
         have n151:v 151=0:=au (X:=cxF [a0,a1,a2,a3]) (v:=v) (l:=bI) (aP _) hs (k:=151) (r:=.c 0) (ps:=[(116,.c 0)]) (nz:=[]) (aa s ax) az (by kernel_rfl)
         have n156:v 156=21600000:=au (X:=cxF [a0,a1,a2,a3]) (v:=v) (l:=bI) (aP _) hs (k:=156) (r:=.c 21600000) (ps:=[(116,.c 0)]) (nz:=[]) (aa s ax) az (by kernel_rfl)
         have n157:v 157=21600000:=au (X:=cxF [a0,a1,a2,a3]) (v:=v) (l:=bI) (aP _) hs (k:=157) (r:=.c 21600000) (ps:=[(116,.c 0)]) (nz:=[]) (aa s ax) az (by kernel_rfl)
         rw [s] at c;have k146:v 146=0:=by have h:v 146=b2i (decide (v 50<=v 144)):=ag hs 146 rfl;rw [h,z50,n144,decide_eq_false (by omega)];rfl
         rcases c.2.2 with c|c
         . have k152:v 152=1:=by have h:v 152=b2i (decide (v 50<=v 150)):=ag hs 152 rfl;rw [h,z50,n150,decide_eq_true (by omega)];rfl
           have k153:v 153=1:=by have h:v 153=b2i (decide (v 151<=v 51)):=ag hs 153 rfl;rw [h,z51,n151,decide_eq_true (by omega)];rfl
           refine au (X:=cxF [a0,a1,a2,a3]) (v:=v) (l:=bI) (aP _) hs (k:=196) (r:=.c 1) (ps:=[(20,.c 0),(22,.c 1),(52,.c 1),(61,.c 1),(75,.c 1),(76,.c 1),(78,.c 1),(80,.c 1),(81,.c 1),(83,.c 1),(86,.c 0),(96,.c 1),(97,.c 1),(116,.c 0),(118,.c 1),(119,.c 1),(122,.c 1),(123,.c 1),(126,.c 1),(127,.c 1),(146,.c 0),(152,.c 1),(153,.c 1)]) (nz:=[]) ?_ az (by kernel_rfl)
           intro y hy;simp only [List.mem_cons,List.not_mem_nil,or_false] at hy;rcases hy with rfl|rfl|rfl|rfl|rfl|rfl|rfl|rfl|rfl|rfl|rfl|rfl|rfl|rfl|rfl|rfl|rfl|rfl|rfl|rfl|rfl|rfl|rfl<;>assumption
         . have k152:v 152=0:=by have h:v 152=b2i (decide (v 50<=v 150)):=ag hs 152 rfl;rw [h,z50,n150,decide_eq_false (by omega)];rfl
           have k158:v 158=1:=by have h:v 158=b2i (decide (v 50<=v 156)):=ag hs 158 rfl;rw [h,z50,n156,decide_eq_true (by omega)];rfl
           have k159:v 159=1:=by have h:v 159=b2i (decide (v 157<=v 51)):=ag hs 159 rfl;rw [h,z51,n157,decide_eq_true (by omega)];rfl
           refine au (X:=cxF [a0,a1,a2,a3]) (v:=v) (l:=bI) (aP _) hs (k:=196) (r:=.c 1) (ps:=[(20,.c 0),(22,.c 1),(52,.c 1),(61,.c 1),(75,.c 1),(76,.c 1),(78,.c 1),(80,.c 1),(81,.c 1),(83,.c 1),(86,.c 0),(96,.c 1),(97,.c 1),(116,.c 0),(118,.c 1),(119,.c 1),(122,.c 1),(123,.c 1),(126,.c 1),(127,.c 1),(146,.c 0),(152,.c 0),(158,.c 1),(159,.c 1)]) (nz:=[]) ?_ az (by kernel_rfl)
           intro y hy;simp only [List.mem_cons,List.not_mem_nil,or_false] at hy;rcases hy with rfl|rfl|rfl|rfl|rfl|rfl|rfl|rfl|rfl|rfl|rfl|rfl|rfl|rfl|rfl|rfl|rfl|rfl|rfl|rfl|rfl|rfl|rfl|rfl<;>assumption
   . exact au (X:=cxF [a0,a1,a2,a3]) (v:=v) (l:=bI) (aP _) hs (k:=196) (r:=.c 1) (ps:=[(20,.c 1)]) (nz:=[]) (aa q ax) az (by kernel_rfl)
