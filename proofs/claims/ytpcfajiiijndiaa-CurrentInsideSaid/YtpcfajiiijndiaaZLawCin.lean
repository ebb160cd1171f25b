/- The law CurrentInside: a part has its result inside. -/
import Derived.Test.YtpcfajiiijndiaaZCurI
set_option linter.unusedVariables false
set_option linter.unusedSimpArgs false
set_option maxRecDepth 100000
set_option maxHeartbeats 8000000
namespace Go.Proofs.Ytpcfajiiijndiaa
open Go.RowKit Alm Sx
def kw:List Nd:=[
 .arg 0,
 .arg 1,
 .arg 2,
 .arg 3,
 .arg 4,
 .arg 5,
 .arg 6,
 .arg 7,
 .arg 8,
 .arg 9,
 .arg 10,
 .arg 11,
 .app 20 0 [],
 .ite (.n 12) (.c 0) (.c 1),
 .ite (.n 13) (.c 0) (.c 1),
 .app 42 0 [.n 0,.n 1,.n 2,.n 3],
 .ite (.n 15) (.c 0) (.c 1),
 .app 42 0 [.n 4,.n 5,.n 6,.n 7],
 .ite (.n 17) (.c 0) (.c 1),
 .ite (.n 16) (.c 1) (.n 18),
 .ite (.n 19) (.c 0) (.c 1),
 .app 47 0 [.n 0,.n 1,.n 2,.n 3,.n 4,.n 5,.n 6,.n 7],
 .app 47 1 [.n 0,.n 1,.n 2,.n 3,.n 4,.n 5,.n 6,.n 7],
 .app 47 2 [.n 0,.n 1,.n 2,.n 3,.n 4,.n 5,.n 6,.n 7],
 .app 47 3 [.n 0,.n 1,.n 2,.n 3,.n 4,.n 5,.n 6,.n 7],
 .app 47 4 [.n 0,.n 1,.n 2,.n 3,.n 4,.n 5,.n 6,.n 7],
 .wrap .i64 (.n 8),
 .bin .sub .i64 (.n 1) (.n 0),
 .bin .add .i64 (.n 27) (.c 1),
 .bin .rem .i64 (.n 26) (.n 28),
 .bin .add .i64 (.n 0) (.n 29),
 .wrap .i64 (.n 9),
 .bin .sub .i64 (.n 3) (.n 2),
 .bin .add .i64 (.n 32) (.c 1),
 .bin .rem .i64 (.n 31) (.n 33),
 .bin .add .i64 (.n 2) (.n 34),
 .wrap .i64 (.n 10),
 .bin .sub .i64 (.n 5) (.n 4),
 .bin .add .i64 (.n 37) (.c 1),
 .bin .rem .i64 (.n 36) (.n 38),
 .bin .add .i64 (.n 4) (.n 39),
 .wrap .i64 (.n 11),
 .bin .sub .i64 (.n 7) (.n 6),
 .bin .add .i64 (.n 42) (.c 1),
 .bin .rem .i64 (.n 41) (.n 43),
 .bin .add .i64 (.n 6) (.n 44),
 .app 47 0 [.n 30,.n 30,.n 35,.n 35,.n 40,.n 40,.n 45,.n 45],
 .app 47 1 [.n 30,.n 30,.n 35,.n 35,.n 40,.n 40,.n 45,.n 45],
 .app 47 2 [.n 30,.n 30,.n 35,.n 35,.n 40,.n 40,.n 45,.n 45],
 .app 47 3 [.n 30,.n 30,.n 35,.n 35,.n 40,.n 40,.n 45,.n 45],
 .app 47 4 [.n 30,.n 30,.n 35,.n 35,.n 40,.n 40,.n 45,.n 45],
 .bin .neq .i64 (.n 25) (.c 0),
 .bin .eql .i64 (.n 25) (.c 5),
 .ite (.n 51) (.c 0) (.c 1),
 .bin .eql .i64 (.n 50) (.c 0),
 .bin .leq .i64 (.n 21) (.n 22),
 .bin .geq .i64 (.n 21) (.c (-1099511627776)),
 .ite (.n 55) (.n 56) (.c 0),
 .bin .leq .i64 (.n 22) (.c 1099511627776),
 .ite (.n 57) (.n 58) (.c 0),
 .bin .sub .i64 (.n 22) (.n 21),
 .bin .geq .i64 (.n 60) (.c 21600000),
 .ite (.n 61) (.c 0) (.c 1),
 .bin .rem .i64 (.n 21) (.c 21600000),
 .bin .lss .i64 (.n 63) (.c 0),
 .bin .add .i64 (.n 63) (.c 21600000),
 .ite (.n 64) (.c 0) (.c 1),
 .ite (.n 64) (.n 65) (.n 63),
 .bin .add .i64 (.n 67) (.n 60),
 .ite (.n 61) (.c 0) (.n 67),
 .ite (.n 61) (.c 21600000) (.n 68),
 .bin .eql .i64 (.n 69) (.n 21),
 .bin .eql .i64 (.n 70) (.n 22),
 .ite (.n 71) (.n 72) (.c 0),
 .ite (.n 59) (.n 73) (.c 0),
 .ite (.n 54) (.n 74) (.c 0),
 .bin .leq .i64 (.n 23) (.n 48),
 .bin .leq .i64 (.n 49) (.n 24),
 .ite (.n 76) (.n 77) (.c 0),
 .ite (.n 75) (.n 78) (.c 0),
 .bin .sub .i64 (.n 47) (.n 46),
 .bin .geq .i64 (.n 80) (.c 21600000),
 .ite (.n 81) (.c 0) (.c 1),
 .bin .rem .i64 (.n 46) (.c 21600000),
 .bin .lss .i64 (.n 83) (.c 0),
 .bin .add .i64 (.n 83) (.c 21600000),
 .ite (.n 84) (.c 0) (.c 1),
 .ite (.n 84) (.n 85) (.n 83),
 .bin .add .i64 (.n 87) (.n 80),
 .ite (.n 81) (.c 0) (.n 87),
 .ite (.n 81) (.c 21600000) (.n 88),
 .bin .sub .i64 (.n 90) (.n 89),
 .bin .geq .i64 (.n 91) (.c 21600000),
 .ite (.n 92) (.c 0) (.c 1),
 .bin .add .i64 (.n 89) (.c (-21600000)),
 .bin .add .i64 (.n 90) (.c (-21600000)),
 .bin .leq .i64 (.n 21) (.n 94),
 .bin .leq .i64 (.n 95) (.n 22),
 .ite (.n 96) (.n 97) (.c 0),
 .ite (.n 98) (.c 0) (.c 1),
 .bin .add .i64 (.n 89) (.c 0),
 .bin .add .i64 (.n 90) (.c 0),
 .bin .leq .i64 (.n 21) (.n 100),
 .bin .leq .i64 (.n 101) (.n 22),
 .ite (.n 102) (.n 103) (.c 0),
 .ite (.n 104) (.c 0) (.c 1),
 .bin .add .i64 (.n 89) (.c 21600000),
 .bin .add .i64 (.n 90) (.c 21600000),
 .bin .leq .i64 (.n 21) (.n 106),
 .bin .leq .i64 (.n 107) (.n 22),
 .ite (.n 108) (.n 109) (.c 0),
 .ite (.n 110) (.c 0) (.c 1),
 .ite (.n 105) (.n 110) (.c 0),
 .ite (.n 105) (.n 111) (.c 0),
 .ite (.n 104) (.c 1) (.n 112),
 .ite (.n 104) (.c (-1)) (.c 0),
 .ite (.n 104) (.c 0) (.c 21600000),
 .ite (.n 104) (.n 100) (.n 106),
 .ite (.n 104) (.n 101) (.n 107),
 .ite (.n 104) (.n 104) (.n 110),
 .ite (.n 99) (.n 114) (.c 0),
 .ite (.n 99) (.n 113) (.c 0),
 .ite (.n 98) (.c 1) (.n 120),
 .ite (.n 98) (.c (-1)) (.n 105),
 .ite (.n 98) (.c (-21600000)) (.n 116),
 .ite (.n 98) (.n 94) (.n 117),
 .ite (.n 98) (.n 95) (.n 118),
 .ite (.n 98) (.n 98) (.n 119),
 .ite (.n 122) (.c 1) (.n 121),
 .ite (.n 122) (.n 123) (.c 2),
 .ite (.n 122) (.n 123) (.c 1),
 .ite (.n 122) (.n 124) (.c 21600000),
 .ite (.n 122) (.n 125) (.n 106),
 .ite (.n 122) (.n 126) (.n 107),
 .ite (.n 122) (.n 127) (.n 110),
 .ite (.n 93) (.n 128) (.c 0),
 .ite (.n 92) (.c 1) (.n 135),
 .ite (.n 92) (.c 0) (.n 122),
 .ite (.n 62) (.n 136) (.c 0),
 .ite (.n 61) (.c 1) (.n 138),
 .ite (.n 61) (.c 1) (.n 137),
 .ite (.n 61) (.n 46) (.n 89),
 .ite (.n 61) (.n 47) (.n 90),
 .ite (.n 79) (.n 140) (.c 0),
 .ite (.n 51) (.n 52) (.n 143),
 .ite (.n 19) (.c 1) (.n 144),
 .ite (.n 13) (.c 0) (.n 145)]
def R3:List Vc:=[
 ⟨[],.pre 20 []⟩,
 ⟨[(.n 14,true)],.pre 42 [.n 0,.n 1,.n 2,.n 3]⟩,
 ⟨[(.n 14,true),(.n 16,false)],.pre 42 [.n 4,.n 5,.n 6,.n 7]⟩,
 ⟨[(.n 20,true),(.n 14,true)],.pre 47 [.n 0,.n 1,.n 2,.n 3,.n 4,.n 5,.n 6,.n 7]⟩,
 ⟨[(.n 20,true),(.n 14,true)],.ne0 (.n 28)⟩,
 ⟨[(.n 20,true),(.n 14,true)],.ne0 (.n 33)⟩,
 ⟨[(.n 20,true),(.n 14,true)],.ne0 (.n 38)⟩,
 ⟨[(.n 20,true),(.n 14,true)],.ne0 (.n 43)⟩,
 ⟨[(.n 20,true),(.n 14,true)],.pre 47 [.n 30,.n 30,.n 35,.n 35,.n 40,.n 40,.n 45,.n 45]⟩]
theorem RZ:whole Try.prog RF 20 40 4 [(true,[some .i64,some .i64,some .i64,some .i64]),(true,[some .i64,some .i64,some .i64,some .i64]),(false,[some .u32]),(false,[some .u32]),(false,[some .u32]),(false,[some .u32])]=some (.p (.c (.bool (.n 146))),⟨kw.reverse,R3.reverse⟩):=by kernel_rfl
theorem PO:wfN kw.reverse=true:=by kernel_rfl
theorem Hd (a0 a1 a2 a3 a4 a5 a6 a7 a8 a9 a10 a11:Int) (w:World) (hu:(0<=a8/\a8<=4294967295)/\(0<=a9/\a9<=4294967295)/\(0<=a10/\a10<=4294967295)/\(0<=a11/\a11<=4294967295)):Calls Try.prog 4 #[.agg #[.int .i64 a0,.int .i64 a1,.int .i64 a2,.int .i64 a3],.agg #[.int .i64 a4,.int .i64 a5,.int .i64 a6,.int .i64 a7],.int .u32 a8,.int .u32 a9,.int .u32 a10,.int .u32 a11] w fun e w'=>e=.returned (.bool true)/\Below w.heap.size w w':=by
 refine Sx.calls (X:=qw [a0,a1,a2,a3,a4,a5,a6,a7,a8,a9,a10,a11]) dN (MN _) RZ PO (fun v hs=>?_) w
 have e8:v 8=a8:=ag hs 8 rfl;have e9:v 9=a9:=ag hs 9 rfl;have e10:v 10=a10:=ag hs 10 rfl;have e11:v 11=a11:=ag hs 11 rfl;rw [<-e8,<-e9,<-e10,<-e11] at hu;clear e8 e9 e10 e11;have e15:v 15=b2i (decide (MV (v 0) (v 1) (v 2) (v 3))):=ag hs 15 rfl;have e17:v 17=b2i (decide (MV (v 4) (v 5) (v 6) (v 7))):=ag hs 17 rfl;have e16:v 16=if v 15≠0 then (0:Int) else (1:Int):=ag hs 16 rfl
 have e18:v 18=if v 17≠0 then (0:Int) else (1:Int):=ag hs 18 rfl
 have e19:v 19=if v 16≠0 then (1:Int) else v 18:=ag hs 19 rfl
 have e20:v 20=if v 19≠0 then (0:Int) else (1:Int):=ag hs 20 rfl
 have H:v 20≠0->MV (v 0) (v 1) (v 2) (v 3)/\MV (v 4) (v 5) (v 6) (v 7):=by
  intro h;rw [e20,e19,e16,e18,e15,e17] at h
  by_cases h1:MV (v 0) (v 1) (v 2) (v 3)<;>by_cases h2:MV (v 4) (v 5) (v 6) (v 7)
  . exact ⟨h1,h2⟩
  . rw [decide_eq_true h1,decide_eq_false h2] at h;exact absurd (by decide) h
  . rw [decide_eq_false h1,decide_eq_true h2] at h;exact absurd (by decide) h
  . rw [decide_eq_false h1,decide_eq_false h2] at h;exact absurd (by decide) h
 have PP:MV (v 0) (v 1) (v 2) (v 3)->MV (v 4) (v 5) (v 6) (v 7)->((v 28≠0/\v 0<=v 30/\v 30<=v 1)/\(v 33≠0/\v 2<=v 35/\v 35<=v 3))/\((v 38≠0/\v 4<=v 40/\v 40<=v 5)/\(v 43≠0/\v 6<=v 45/\v 45<=v 7)):=by
  intro h1 h2;have x:=(bu _ _).1 h1.1;have y:=(bu _ _).1 h2.1;have z:=h1.2;have u:=h2.2
  exact ⟨⟨fO (by omega) hu.1 (ag hs 26 rfl) (ag hs 27 rfl) (ag hs 28 rfl) (ag hs 29 rfl) (ag hs 30 rfl),fO (by omega) hu.2.1 (ag hs 31 rfl) (ag hs 32 rfl) (ag hs 33 rfl) (ag hs 34 rfl) (ag hs 35 rfl)⟩,
   ⟨fO (by omega) hu.2.2.1 (ag hs 36 rfl) (ag hs 37 rfl) (ag hs 38 rfl) (ag hs 39 rfl) (ag hs 40 rfl),fO (by omega) hu.2.2.2 (ag hs 41 rfl) (ag hs 42 rfl) (ag hs 43 rfl) (ag hs 44 rfl) (ag hs 45 rfl)⟩⟩
 refine ⟨bC ?_,?_⟩
 . exact aj (fun _=>trivial) (aj (fun _=>trivial) (aj (fun _=>trivial) (aj (fun _=>trivial) (aj (fun hp=>(PP (H ((ak hp).1)).1 (H ((ak hp).1)).2).1.1.1) (aj (fun hp=>(PP (H ((ak hp).1)).1 (H ((ak hp).1)).2).1.2.1) (aj (fun hp=>(PP (H ((ak hp).1)).1 (H ((ak hp).1)).2).2.1.1) (aj (fun hp=>(PP (H ((ak hp).1)).1 (H ((ak hp).1)).2).2.2.1) (aj (fun _=>trivial) (bz)))))))))
 . intro x hx;have hx':x=.bool (decide (v 146≠0)):=hx
   suffices hr:v 146=1 by rw [hx',hr];rfl
   by_cases h1:MV (v 0) (v 1) (v 2) (v 3)
   . have q15:v 15=1:=by rw [e15,decide_eq_true h1];rfl
     by_cases h2:MV (v 4) (v 5) (v 6) (v 7)
     . have q17:v 17=1:=by rw [e17,decide_eq_true h2];rfl
       obtain ⟨⟨⟨_,p1⟩,⟨_,p2⟩⟩,⟨⟨_,p3⟩,⟨_,p4⟩⟩⟩:=PP h1 h2;have IN:=LH (a:=v 0) (b:=v 1) (c:=v 2) (d:=v 3) (e:=v 4) (f:=v 5) (g:=v 6) (h:=v 7) (a':=v 30) (b':=v 30) (c':=v 35) (d':=v 35) (e':=v 40) (f':=v 40) (g':=v 45) (h':=v 45) h1 h2 ⟨p1.1,Int.le_refl _,p1.2⟩ ⟨p2.1,Int.le_refl _,p2.2⟩ ⟨p3.1,Int.le_refl _,p3.2⟩ ⟨p4.1,Int.le_refl _,p4.2⟩;clear H PP e15 e16 e17 e18 e19 e20 p1 p2 p3 p4 h1 h2;have l21:v 21=(mgV (v 0) (v 1) (v 2) (v 3) (v 4) (v 5) (v 6) (v 7)).getD 0 0:=ag hs 21 rfl;have l22:v 22=(mgV (v 0) (v 1) (v 2) (v 3) (v 4) (v 5) (v 6) (v 7)).getD 1 0:=ag hs 22 rfl;have l23:v 23=(mgV (v 0) (v 1) (v 2) (v 3) (v 4) (v 5) (v 6) (v 7)).getD 2 0:=ag hs 23 rfl;have l24:v 24=(mgV (v 0) (v 1) (v 2) (v 3) (v 4) (v 5) (v 6) (v 7)).getD 3 0:=ag hs 24 rfl;have l25:v 25=(mgV (v 0) (v 1) (v 2) (v 3) (v 4) (v 5) (v 6) (v 7)).getD 4 0:=ag hs 25 rfl;have l46:v 46=(mgV (v 30) (v 30) (v 35) (v 35) (v 40) (v 40) (v 45) (v 45)).getD 0 0:=ag hs 46 rfl;have l47:v 47=(mgV (v 30) (v 30) (v 35) (v 35) (v 40) (v 40) (v 45) (v 45)).getD 1 0:=ag hs 47 rfl;have l48:v 48=(mgV (v 30) (v 30) (v 35) (v 35) (v 40) (v 40) (v 45) (v 45)).getD 2 0:=ag hs 48 rfl;have l49:v 49=(mgV (v 30) (v 30) (v 35) (v 35) (v 40) (v 40) (v 45) (v 45)).getD 3 0:=ag hs 49 rfl;have l50:v 50=(mgV (v 30) (v 30) (v 35) (v 35) (v 40) (v 40) (v 45) (v 45)).getD 4 0:=ag hs 50 rfl;rw [<-l21,<-l22,<-l23,<-l24,<-l25,<-l46,<-l47,<-l48,<-l49,<-l50] at IN;clear l21 l22 l23 l24 l25 l46 l47 l48 l49 l50;rcases IN with z5|⟨z0,y0,IA1,IA2,IZ,bZ,bZ2,bY,bY2⟩
       . exact au (X:=qw [a0,a1,a2,a3,a4,a5,a6,a7,a8,a9,a10,a11]) (v:=v) (l:=kw) (iV _) hs (k:=146) (r:=.c 1) (ps:=[(15,.c 1),(17,.c 1),(25,.c 5)]) (nz:=[]) (aa q15 (aa q17 (aa z5 ax))) az (by kernel_rfl)
       . have k55:v 55=1:=by have h:v 55=b2i (decide (v 21<=v 22)):=ag hs 55 rfl;rw [h,decide_eq_true (by omega)];rfl
         have k56:v 56=1:=by have h:v 56=b2i (decide (v 21>=-1099511627776)):=ag hs 56 rfl;rw [h,decide_eq_true (by omega)];rfl
         have k58:v 58=1:=by have h:v 58=b2i (decide (v 22<=1099511627776)):=ag hs 58 rfl;rw [h,decide_eq_true (by omega)];rfl
         have t60:=jT (X:=v 21) (Y:=v 22) (w:=v 60) (g:=v 61) (r:=v 63) (l:=v 64) (u:=v 65) (q:=v 67) (s:=v 68) (lo:=v 69) (hi:=v 70) (by omega) (ag hs 60 rfl) (ag hs 61 rfl) (ag hs 63 rfl) (ag hs 64 rfl) (ag hs 65 rfl) (ag hs 67 rfl) (ag hs 68 rfl) (ag hs 69 rfl) (ag hs 70 rfl)
         have u69:v 69=v 21:=by rw [t60.1];split<;>(first|omega|(rename_i g;have:=bZ2 (by omega);omega))
         have u70:v 70=v 22:=by rw [t60.2];split<;>(first|omega|(rename_i g;have:=bZ2 (by omega);omega))
         clear t60;have k71:v 71=1:=by have h:v 71=b2i (v 69==v 21):=ag hs 71 rfl;have g:v 69=v 21:=(by rw [u69]);rw [h,g,beq_self_eq_true];rfl
         have k72:v 72=1:=by have h:v 72=b2i (v 70==v 22):=ag hs 72 rfl;have g:v 70=v 22:=(by rw [u70]);rw [h,g,beq_self_eq_true];rfl
         have k76:v 76=1:=by have h:v 76=b2i (decide (v 23<=v 48)):=ag hs 76 rfl;rw [h,decide_eq_true (by exact IA1)];rfl
         have k77:v 77=1:=by have h:v 77=b2i (decide (v 49<=v 24)):=ag hs 77 rfl;rw [h,decide_eq_true (by exact IA2)];rfl
         have t80:=jT (X:=v 46) (Y:=v 47) (w:=v 80) (g:=v 81) (r:=v 83) (l:=v 84) (u:=v 85) (q:=v 87) (s:=v 88) (lo:=v 89) (hi:=v 90) (by omega) (ag hs 80 rfl) (ag hs 81 rfl) (ag hs 83 rfl) (ag hs 84 rfl) (ag hs 85 rfl) (ag hs 87 rfl) (ag hs 88 rfl) (ag hs 89 rfl) (ag hs 90 rfl)
         have u89:v 89=v 46:=by rw [t80.1];split<;>(first|omega|(rename_i g;have:=bY2 (by omega);omega))
         have u90:v 90=v 47:=by rw [t80.2];split<;>(first|omega|(rename_i g;have:=bY2 (by omega);omega))
         clear t80;have e60:v 60=v 22-v 21:=by have h:v 60=IntKind.i64.wrap (v 22-v 21):=ag hs 60 rfl;rw [h,Go.IntWalk.i64_in _ (by omega)]
         have e91:v 91=v 47-v 46:=by have h:v 91=IntKind.i64.wrap (v 90-v 89):=ag hs 91 rfl;rw [h,u89,u90,Go.IntWalk.i64_in _ (by omega)]
         have e94:v 94=v 46+-21600000:=by have h:v 94=IntKind.i64.wrap (v 89+-21600000):=ag hs 94 rfl;rw [h,u89,Go.IntWalk.i64_in _ (by omega)]
         have BV:v 100=v 46:=by have h:v 100=IntKind.i64.wrap (v 89+0):=ag hs 100 rfl;rw [h,u89,Go.IntWalk.i64_in _ (by omega)];omega
         have e101:v 101=v 47:=by have h:v 101=IntKind.i64.wrap (v 90+0):=ag hs 101 rfl;rw [h,u90,Go.IntWalk.i64_in _ (by omega)];omega
         have e106:v 106=v 46+21600000:=by have h:v 106=IntKind.i64.wrap (v 89+21600000):=ag hs 106 rfl;rw [h,u89,Go.IntWalk.i64_in _ (by omega)]
         have e107:v 107=v 47+21600000:=by have h:v 107=IntKind.i64.wrap (v 90+21600000):=ag hs 107 rfl;rw [h,u90,Go.IntWalk.i64_in _ (by omega)]
         by_cases hw:v 22-v 21>=21600000
         . have k61:v 61=1:=by have h:v 61=b2i (decide (v 60>=21600000)):=ag hs 61 rfl;rw [h,e60,decide_eq_true hw];rfl
           refine au (X:=qw [a0,a1,a2,a3,a4,a5,a6,a7,a8,a9,a10,a11]) (v:=v) (l:=kw) (iV _) hs (k:=146) (r:=.c 1) (ps:=[(15,.c 1),(17,.c 1),(25,.c 0),(50,.c 0),(55,.c 1),(56,.c 1),(58,.c 1),(61,.c 1),(71,.c 1),(72,.c 1),(76,.c 1),(77,.c 1)]) (nz:=[]) ?_ az (by kernel_rfl)
           intro y hy;simp only [List.mem_cons,List.not_mem_nil,or_false] at hy;rcases hy with rfl|rfl|rfl|rfl|rfl|rfl|rfl|rfl|rfl|rfl|rfl|rfl<;>assumption
         . have k61:v 61=0:=by have h:v 61=b2i (decide (v 60>=21600000)):=ag hs 61 rfl;rw [h,e60,decide_eq_false hw];rfl
           have c:=ow (by omega) (by omega) IZ (by omega)
           have k92:v 92=0:=by have h:v 92=b2i (decide (v 91>=21600000)):=ag hs 92 rfl;rw [h,e91,decide_eq_false (by omega)];rfl
           have k96:v 96=0:=by have h:v 96=b2i (decide (v 21<=v 94)):=ag hs 96 rfl;rw [h,e94,decide_eq_false (by omega)];rfl
           rcases c.2.2 with c|c
           . have k102:v 102=1:=by have h:v 102=b2i (decide (v 21<=v 100)):=ag hs 102 rfl;rw [h,BV,decide_eq_true (by omega)];rfl
             have k103:v 103=1:=by have h:v 103=b2i (decide (v 101<=v 22)):=ag hs 103 rfl;rw [h,e101,decide_eq_true (by omega)];rfl
             refine au (X:=qw [a0,a1,a2,a3,a4,a5,a6,a7,a8,a9,a10,a11]) (v:=v) (l:=kw) (iV _) hs (k:=146) (r:=.c 1) (ps:=[(15,.c 1),(17,.c 1),(25,.c 0),(50,.c 0),(55,.c 1),(56,.c 1),(58,.c 1),(61,.c 0),(71,.c 1),(72,.c 1),(76,.c 1),(77,.c 1),(92,.c 0),(96,.c 0),(102,.c 1),(103,.c 1)]) (nz:=[]) ?_ az (by kernel_rfl)
             intro y hy;simp only [List.mem_cons,List.not_mem_nil,or_false] at hy;rcases hy with rfl|rfl|rfl|rfl|rfl|rfl|rfl|rfl|rfl|rfl|rfl|rfl|rfl|rfl|rfl|rfl<;>assumption
           . have k102:v 102=0:=by have h:v 102=b2i (decide (v 21<=v 100)):=ag hs 102 rfl;rw [h,BV,decide_eq_false (by omega)];rfl
             have k108:v 108=1:=by have h:v 108=b2i (decide (v 21<=v 106)):=ag hs 108 rfl;rw [h,e106,decide_eq_true (by omega)];rfl
             have k109:v 109=1:=by have h:v 109=b2i (decide (v 107<=v 22)):=ag hs 109 rfl;rw [h,e107,decide_eq_true (by omega)];rfl
             refine au (X:=qw [a0,a1,a2,a3,a4,a5,a6,a7,a8,a9,a10,a11]) (v:=v) (l:=kw) (iV _) hs (k:=146) (r:=.c 1) (ps:=[(15,.c 1),(17,.c 1),(25,.c 0),(50,.c 0),(55,.c 1),(56,.c 1),(58,.c 1),(61,.c 0),(71,.c 1),(72,.c 1),(76,.c 1),(77,.c 1),(92,.c 0),(96,.c 0),(102,.c 0),(108,.c 1),(109,.c 1)]) (nz:=[]) ?_ az (by kernel_rfl)
             intro y hy;simp only [List.mem_cons,List.not_mem_nil,or_false] at hy;rcases hy with rfl|rfl|rfl|rfl|rfl|rfl|rfl|rfl|rfl|rfl|rfl|rfl|rfl|rfl|rfl|rfl|rfl<;>assumption
     . have q17:v 17=0:=by rw [e17,decide_eq_false h2];rfl
       exact au (X:=qw [a0,a1,a2,a3,a4,a5,a6,a7,a8,a9,a10,a11]) (v:=v) (l:=kw) (iV _) hs (k:=146) (r:=.c 1) (ps:=[(15,.c 1),(17,.c 0)]) (nz:=[]) (aa q15 (aa q17 ax)) az (by kernel_rfl)
   . have q15:v 15=0:=by rw [e15,decide_eq_false h1];rfl
     exact au (X:=qw [a0,a1,a2,a3,a4,a5,a6,a7,a8,a9,a10,a11]) (v:=v) (l:=kw) (iV _) hs (k:=146) (r:=.c 1) (ps:=[(15,.c 0)]) (nz:=[]) (aa q15 ax) az (by kernel_rfl)
