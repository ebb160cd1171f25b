/- The law on plane sailing: legs. -/
import Derived.Test.YtknhbpnclokciaaGreatZLgo
import Derived.Test.YtknhbpnclokciaaGreatZMidP
import Derived.Test.YtknhbpnclokciaaGreatZAwake44
set_option linter.unusedVariables false
set_option linter.unusedSimpArgs false
set_option maxRecDepth 100000
namespace Go.Proofs.YtknhbpnclokciaaGreat
open Go.RowKit Alm Sx
def jo (f g l h:Int):List Int:=if aH (iN f g l h) (iO f g l h)=true then [iN f g l h,iO f g l h,0] else [0,0,5]
def kPd (f:Nat):Bool:=f==95
def WA:Nat->List Int->List Int
 | 95,[f,g,l,h]=>[(jo f g l h).getD 0 0,(jo f g l h).getD 1 0,(jo f g l h).getD 2 0]
 | _,_=>[]
def XG:Nat->List Int->Prop
 | 95,[f,g,l,h]=>fxV f g=true/\aX l=true/\aX h=true
 | _,_=>False
def WF (args:List Int):Cx:=(cxE args).plus kPd WA XG
def Y4:Sx.Spec:=⟨113,95,[(true,[some .i64,some .i64]),(true,[some .i64,some .i64])],[(true,[some .i64,some .i64]),(false,[some .i64])]⟩
def Xp:List Sx.Spec:=kE++[Y4]
theorem P7 (args:List Int):∀ s∈Xp,aQ Tryz.prog (WF args) s:=by
 intro s hs;rcases List.mem_append.1 hs with h|h
 . have m:s∈Ak:=by unfold Ak;exact List.mem_append.2 (.inl (List.mem_append.2 (.inl (List.mem_append.2 (.inr h)))))
   have id:kPd s.id=false:=by
    simp only [kE,List.mem_cons,List.not_mem_nil,or_false] at h;rcases h with rfl|rfl<;>rfl
   exact uX id (Bq args s m)
 . simp only [List.mem_cons,List.not_mem_nil,or_false] at h;subst h;refine iM rfl (ours _ _ _ Tryz.func113 rfl (by kernel_rfl)) fun xs hp w=>?_
   match xs,hp with
   | [a,b,c,d],hp =>
    refine (yB a b c d w hp.1 hp.2.1 hp.2.2).mono ?_;rintro e w' ⟨he,hb⟩;refine ⟨?_,hb⟩;rw [he];show _=Ending.returned (Value.tuple #[.agg #[.int .i64 ((jo a b c d).getD 0 0),.int .i64 ((jo a b c d).getD 1 0)],.int .i64 ((jo a b c d).getD 2 0)]);unfold Cv jo;split<;>rfl
def Ff:List Nd:=[
 .arg 0,
 .arg 1,
 .arg 2,
 .arg 3,
 .app 6 0 [.n 0,.n 1],
 .app 6 1 [.n 0,.n 1],
 .app 95 0 [.n 4,.n 5,.n 2,.n 3],
 .app 95 1 [.n 4,.n 5,.n 2,.n 3],
 .app 95 2 [.n 4,.n 5,.n 2,.n 3],
 .app 5 0 [.n 0,.n 1],
 .app 5 1 [.n 0,.n 1],
 .app 95 0 [.n 9,.n 10,.n 2,.n 3],
 .app 95 1 [.n 9,.n 10,.n 2,.n 3],
 .app 95 2 [.n 9,.n 10,.n 2,.n 3],
 .bin .neq .i64 (.n 8) (.c 0),
 .bin .neq .i64 (.n 13) (.c 0),
 .ite (.n 14) (.c 1) (.n 15),
 .ite (.n 16) (.c 0) (.c 1),
 .ite (.n 16) (.c 5) (.c 0),
 .ite (.n 16) (.c 0) (.n 11),
 .ite (.n 16) (.c 0) (.n 12),
 .ite (.n 16) (.c 0) (.n 6),
 .ite (.n 16) (.c 0) (.n 7)]
def Qf:List Vc:=[
 ⟨[],.pre 6 [.n 0,.n 1]⟩,
 ⟨[],.pre 95 [.n 4,.n 5,.n 2,.n 3]⟩,
 ⟨[],.pre 5 [.n 0,.n 1]⟩,
 ⟨[],.pre 95 [.n 9,.n 10,.n 2,.n 3]⟩]
theorem Pg:whole Tryz.prog Xp 20 40 34 [(true,[some .i64,some .i64,some .i64,some .i64])]=some (.tup [.agg [.int .i64 (.n 21),.int .i64 (.n 22)],.agg [.int .i64 (.n 19),.int .i64 (.n 20)],.c (.int .i64 (.n 18))],⟨Ff.reverse,Qf.reverse⟩):=by kernel_rfl
theorem O9:wfN Ff.reverse=true:=by kernel_rfl
theorem Ke (cl ch dl dh:Int) (w:World) (hl:jI cl ch dl dh=true):Calls Tryz.prog 34 #[.agg #[.int .i64 cl,.int .i64 ch,.int .i64 dl,.int .i64 dh]] w fun e w'=>e=.returned (VY (iV cl ch dl dh))/\Below w.heap.size w w':=by
 refine Sx.calls (X:=WF [cl,ch,dl,dh]) il (P7 _) Pg O9 (fun v hs=>?_) w
 have e0:v 0=cl:=ae hs 0 rfl;have e1:v 1=ch:=ae hs 1 rfl;have e2:v 2=dl:=ae hs 2 rfl;have e3:v 3=dh:=ae hs 3 rfl
 have hp:aH cl ch=true/\aH dl dh=true:=by
  unfold jI at hl;simp only [Bool.and_eq_true] at hl;exact ⟨hl.1,hl.2.1⟩
 have w4:v 4=dw cl ch:=by rw [show v 4=(bA 6 [v 0,v 1]).getD 0 0 from ae hs 4 rfl,e0,e1];rfl
 have w5:v 5=cZ cl ch:=by rw [show v 5=(bA 6 [v 0,v 1]).getD 1 0 from ae hs 5 rfl,e0,e1];rfl
 have w9:v 9=dA cl ch:=by rw [show v 9=(bA 5 [v 0,v 1]).getD 0 0 from ae hs 9 rfl,e0,e1];rfl
 have w10:v 10=dB cl ch:=by rw [show v 10=(bA 5 [v 0,v 1]).getD 1 0 from ae hs 10 rfl,e0,e1];rfl
 have w6:v 6=(jo (dw cl ch) (cZ cl ch) dl dh).getD 0 0:=by rw [show v 6=(jo (v 4) (v 5) (v 2) (v 3)).getD 0 0 from ae hs 6 rfl,w4,w5,e2,e3]
 have w7:v 7=(jo (dw cl ch) (cZ cl ch) dl dh).getD 1 0:=by rw [show v 7=(jo (v 4) (v 5) (v 2) (v 3)).getD 1 0 from ae hs 7 rfl,w4,w5,e2,e3]
 have w8:v 8=(jo (dw cl ch) (cZ cl ch) dl dh).getD 2 0:=by rw [show v 8=(jo (v 4) (v 5) (v 2) (v 3)).getD 2 0 from ae hs 8 rfl,w4,w5,e2,e3]
 have w11:v 11=(jo (dA cl ch) (dB cl ch) dl dh).getD 0 0:=by rw [show v 11=(jo (v 9) (v 10) (v 2) (v 3)).getD 0 0 from ae hs 11 rfl,w9,w10,e2,e3]
 have w12:v 12=(jo (dA cl ch) (dB cl ch) dl dh).getD 1 0:=by rw [show v 12=(jo (v 9) (v 10) (v 2) (v 3)).getD 1 0 from ae hs 12 rfl,w9,w10,e2,e3]
 have w13:v 13=(jo (dA cl ch) (dB cl ch) dl dh).getD 2 0:=by rw [show v 13=(jo (v 9) (v 10) (v 2) (v 3)).getD 2 0 from ae hs 13 rfl,w9,w10,e2,e3]
 have f14:v 14=b2i (v 8 != (0:Int)):=ae hs 14 rfl;have f15:v 15=b2i (v 13 != (0:Int)):=ae hs 15 rfl;have f16:v 16=if v 14≠0 then (1:Int) else v 15:=ae hs 16 rfl
 have f18:v 18=if v 16≠0 then (5:Int) else (0:Int):=ae hs 18 rfl
 have f19:v 19=if v 16≠0 then (0:Int) else v 11:=ae hs 19 rfl
 have f20:v 20=if v 16≠0 then (0:Int) else v 12:=ae hs 20 rfl
 have f21:v 21=if v 16≠0 then (0:Int) else v 6:=ae hs 21 rfl
 have f22:v 22=if v 16≠0 then (0:Int) else v 7:=ae hs 22 rfl
 have Z:v 21=(iV cl ch dl dh).getD 0 0/\v 22=(iV cl ch dl dh).getD 1 0/\v 19=(iV cl ch dl dh).getD 2 0/\v 20=(iV cl ch dl dh).getD 3 0/\v 18=(iV cl ch dl dh).getD 4 0:=by
  unfold iV;unfold jo at w6 w7 w8 w11 w12 w13
  by_cases h1:aH (iN (dw cl ch) (cZ cl ch) dl dh) (iO (dw cl ch) (cZ cl ch) dl dh)=true
  . rw [if_pos h1] at w6 w7 w8;have k14:v 14=0:=by rw [f14,w8];rfl
    rw [if_neg (by omega)] at f16
    by_cases h2:aH (iN (dA cl ch) (dB cl ch) dl dh) (iO (dA cl ch) (dB cl ch) dl dh)=true
    . rw [if_pos h2] at w11 w12 w13;have k16:v 16=0:=by rw [f16,f15,w13];rfl
      rw [if_neg (by omega)] at f18 f19 f20 f21 f22
      rw [if_pos ⟨h1,h2⟩,f18,f19,f20,f21,f22,w6,w7,w11,w12];exact ⟨rfl,rfl,rfl,rfl,rfl⟩
    . rw [if_neg h2] at w13;have k16:v 16=1:=by rw [f16,f15,w13];rfl
      rw [if_pos (by omega)] at f18 f19 f20 f21 f22
      rw [if_neg (fun q=>h2 q.2),f18,f19,f20,f21,f22]
      exact ⟨rfl,rfl,rfl,rfl,rfl⟩
  . rw [if_neg h1] at w8;have k14:v 14=1:=by rw [f14,w8];rfl
    rw [if_pos (by omega)] at f16
    rw [if_pos (by omega)] at f18 f19 f20 f21 f22
    rw [if_neg (fun q=>h1 q.1),f18,f19,f20,f21,f22]
    exact ⟨rfl,rfl,rfl,rfl,rfl⟩
 refine ⟨dV ?_,?_⟩
 . exact aj (fun _=>(show aH (v 0) (v 1)=true by rw [e0,e1];exact hp.1)) (aj (fun _=>(show fxV (v 4) (v 5)=true/\aX (v 2)=true/\aX (v 3)=true by rw [w4,w5,e2,e3];exact ⟨wF _ _,(cK hp.2).1,(cK hp.2).2⟩)) (aj (fun _=>(show aH (v 0) (v 1)=true by rw [e0,e1];exact hp.1)) (aj (fun _=>(show fxV (v 9) (v 10)=true/\aX (v 2)=true/\aX (v 3)=true by rw [w9,w10,e2,e3];exact ⟨wF _ _,(cK hp.2).1,(cK hp.2).2⟩)) (dO))))
 . intro x hx0;have hx':=gG (v:=v) (by rfl) hx0
   rw [hx'];show Value.tuple #[.agg #[.int .i64 (v 21),.int .i64 (v 22)],.agg #[.int .i64 (v 19),.int .i64 (v 20)],.int .i64 (v 18)]=_;rw [Z.1,Z.2.1,Z.2.2.1,Z.2.2.2.1,Z.2.2.2.2];rfl
def kW (f:Nat):Bool:=f==91 || f==92 || f==93 || f==94
def Zb:Nat->List Int->List Int
 | 91,[a,b,c,d]=>[(lv a b c d).getD 0 0,(lv a b c d).getD 1 0,(lv a b c d).getD 2 0,(lv a b c d).getD 3 0,(lv a b c d).getD 4 0]
 | 92,[a,b,c,d]=>[(iV a b c d).getD 0 0,(iV a b c d).getD 1 0,(iV a b c d).getD 2 0,(iV a b c d).getD 3 0,(iV a b c d).getD 4 0]
 | 93,[a,b,c,d]=>[(iF a b c d).getD 0 0,(iF a b c d).getD 1 0,(iF a b c d).getD 2 0,(iF a b c d).getD 3 0,(iF a b c d).getD 4 0]
 | 94,[a,b,c,d]=>[(fV a b c d).getD 0 0,(fV a b c d).getD 1 0,(fV a b c d).getD 2 0,(fV a b c d).getD 3 0,(fV a b c d).getD 4 0]
 | _,_=>[]
def YI:Nat->List Int->Prop
 | 91,[_,_,_,_]=>True
 | 92,[a,b,c,d]=>jI a b c d=true
 | 93,[_,_,_,_]=>True
 | 94,[a,b,c,d]=>aH a b=true/\aH c d=true
 | _,_=>False
def cxW (args:List Int):Cx:=(cxE args).plus kW Zb YI
theorem WQ (args:List Int):Cf (cxW args):=wT (RS args) fun f h=>by
 unfold kW;rcases h with h|rfl
 . simp;omega
 . rfl
def YZ:Sx.Spec:=⟨29,91,[(true,[some .i64,some .i64,some .i64,some .i64])],[(true,[some .i64,some .i64]),(true,[some .i64,some .i64]),(false,[some .i64])]⟩
def YA:Sx.Spec:=⟨34,92,[(true,[some .i64,some .i64,some .i64,some .i64])],[(true,[some .i64,some .i64]),(true,[some .i64,some .i64]),(false,[some .i64])]⟩
def YO:Sx.Spec:=⟨30,93,[(true,[some .i64,some .i64]),(true,[some .i64,some .i64])],[(true,[some .i64,some .i64,some .i64,some .i64]),(false,[some .i64])]⟩
def YF:Sx.Spec:=⟨32,94,[(true,[some .i64,some .i64]),(true,[some .i64,some .i64])],[(true,[some .i64,some .i64,some .i64,some .i64]),(false,[some .i64])]⟩
def Md:Sx.Spec:=⟨28,20,[],[(false,[none])]⟩
def TJ:List Sx.Spec:=[Md,YZ,YA,YO,YF]
theorem PX (args:List Int):∀ s∈TJ,aQ Tryz.prog (cxW args) s:=by
 intro s hs;simp only [TJ,List.mem_cons,List.not_mem_nil,or_false] at hs;rcases hs with rfl|rfl|rfl|rfl|rfl
 . refine uX rfl ⟨ours _ _ _ Tryz.func28 rfl (by kernel_rfl),fun xs hp w=>?_⟩
   have hp':preB 20 xs:=hp;rw [YC hp'];exact JN w
 . refine iM rfl (ours _ _ _ Tryz.func29 rfl (by kernel_rfl)) fun xs hp w=>?_
   match xs,hp with
   | [a,b,c,d],hp=>exact Oa a b c d w
 . refine iM rfl (ours _ _ _ Tryz.func34 rfl (by kernel_rfl)) fun xs hp w=>?_
   match xs,hp with
   | [a,b,c,d],hp=>exact Ke a b c d w hp
 . refine iM rfl (ours _ _ _ Tryz.func30 rfl (by kernel_rfl)) fun xs hp w=>?_
   match xs,hp with
   | [a,b,c,d],hp=>exact Lp a b c d w
 . refine iM rfl (ours _ _ _ Tryz.func32 rfl (by kernel_rfl)) fun xs hp w=>?_
   match xs,hp with
   | [a,b,c,d],hp=>exact MG a b c d w hp.1 hp.2
def WP (t:Tab):Nd->Option Rf
 | .app 20 0 []=>some (.c 1)
 | x=>OP t x
theorem ru (args:List Int):qO (cxW args) WP:=by
 intro v t x r ht h;unfold WP at h;split at h
 . cases h;rfl
 . exact FU (WQ args) v t x r ht h
theorem kL {a b x1 x2 x3 x4 x5:Int} (e1:x1=b2i (decide (a<=b))) (e2:x2=b2i (decide (a>=(-1099511627776:Int)))) (e3:x3=if x1≠0 then x2 else (0:Int)) (e4:x4=b2i (decide (b<=(1099511627776:Int)))) (e5:x5=if x3≠0 then x4 else (0:Int)):x5=b2i (aH a b):=by
 rw [e5,e3,e1,e2,e4,O0]
theorem RH {p q:Bool} {x y z:Int} (hx:x=b2i p) (hy:y=b2i q) (hz:z=if x≠0 then y else (0:Int)):z=b2i (p&&q):=by
 rw [hz,hx,hy];cases p<;>cases q<;>rfl
def gB:List Nd:=[
 .arg 0,
 .arg 1,
 .arg 2,
 .arg 3,
 .arg 4,
 .arg 5,
 .arg 6,
 .arg 7,
 .app 20 0 [],
 .ite (.n 8) (.c 0) (.c 1),
 .ite (.n 9) (.c 0) (.c 1),
 .app 91 0 [.n 0,.n 1,.n 2,.n 3],
 .app 91 1 [.n 0,.n 1,.n 2,.n 3],
 .app 91 2 [.n 0,.n 1,.n 2,.n 3],
 .app 91 3 [.n 0,.n 1,.n 2,.n 3],
 .app 91 4 [.n 0,.n 1,.n 2,.n 3],
 .app 93 0 [.n 4,.n 5,.n 6,.n 7],
 .app 93 1 [.n 4,.n 5,.n 6,.n 7],
 .app 93 2 [.n 4,.n 5,.n 6,.n 7],
 .app 93 3 [.n 4,.n 5,.n 6,.n 7],
 .app 93 4 [.n 4,.n 5,.n 6,.n 7],
 .bin .leq .i64 (.n 4) (.n 5),
 .bin .geq .i64 (.n 4) (.c (-1099511627776)),
 .ite (.n 21) (.n 22) (.c 0),
 .bin .leq .i64 (.n 5) (.c 1099511627776),
 .ite (.n 23) (.n 24) (.c 0),
 .ite (.n 25) (.c 0) (.c 1),
 .bin .leq .i64 (.n 6) (.n 7),
 .bin .geq .i64 (.n 6) (.c (-1099511627776)),
 .ite (.n 27) (.n 28) (.c 0),
 .bin .leq .i64 (.n 7) (.c 1099511627776),
 .ite (.n 29) (.n 30) (.c 0),
 .ite (.n 31) (.c 0) (.c 1),
 .ite (.n 26) (.c 1) (.n 32),
 .bin .eql .i64 (.n 16) (.c 0),
 .bin .eql .i64 (.n 17) (.c 0),
 .bin .eql .i64 (.n 18) (.c 0),
 .bin .eql .i64 (.n 19) (.c 0),
 .ite (.n 36) (.n 37) (.c 0),
 .ite (.n 35) (.n 38) (.c 0),
 .ite (.n 34) (.n 39) (.c 0),
 .ite (.n 40) (.c 0) (.c 1),
 .bin .neq .i64 (.n 20) (.c 1),
 .ite (.n 41) (.c 1) (.n 42),
 .ite (.n 43) (.c 0) (.c 1),
 .app 94 0 [.n 4,.n 5,.n 6,.n 7],
 .app 94 1 [.n 4,.n 5,.n 6,.n 7],
 .app 94 2 [.n 4,.n 5,.n 6,.n 7],
 .app 94 3 [.n 4,.n 5,.n 6,.n 7],
 .app 94 4 [.n 4,.n 5,.n 6,.n 7],
 .bin .eql .i64 (.n 16) (.n 45),
 .bin .eql .i64 (.n 17) (.n 46),
 .bin .eql .i64 (.n 18) (.n 47),
 .bin .eql .i64 (.n 19) (.n 48),
 .ite (.n 52) (.n 53) (.c 0),
 .ite (.n 51) (.n 54) (.c 0),
 .ite (.n 50) (.n 55) (.c 0),
 .ite (.n 56) (.c 0) (.c 1),
 .bin .neq .i64 (.n 20) (.n 49),
 .ite (.n 57) (.c 1) (.n 58),
 .ite (.n 59) (.c 0) (.c 1),
 .ite (.n 33) (.n 44) (.c 0),
 .ite (.n 33) (.n 43) (.c 0),
 .ite (.n 33) (.c 0) (.c 1),
 .ite (.n 63) (.n 60) (.c 0),
 .ite (.n 63) (.n 59) (.c 0),
 .ite (.n 61) (.c 1) (.n 64),
 .ite (.n 62) (.c 1) (.n 65),
 .bin .leq .i64 (.n 0) (.n 1),
 .bin .geq .i64 (.n 0) (.c (-1099511627776)),
 .ite (.n 68) (.n 69) (.c 0),
 .bin .leq .i64 (.n 1) (.c 1099511627776),
 .ite (.n 70) (.n 71) (.c 0),
 .bin .leq .i64 (.n 2) (.n 3),
 .bin .geq .i64 (.n 2) (.c (-1099511627776)),
 .ite (.n 73) (.n 74) (.c 0),
 .bin .leq .i64 (.n 3) (.c 1099511627776),
 .ite (.n 75) (.n 76) (.c 0),
 .ite (.n 72) (.n 77) (.c 0),
 .bin .geq .i64 (.n 2) (.c 0),
 .ite (.n 78) (.n 79) (.c 0),
 .ite (.n 80) (.c 0) (.c 1),
 .bin .eql .i64 (.n 11) (.c 0),
 .bin .eql .i64 (.n 12) (.c 0),
 .ite (.n 82) (.n 83) (.c 0),
 .bin .eql .i64 (.n 13) (.c 0),
 .bin .eql .i64 (.n 14) (.c 0),
 .ite (.n 85) (.n 86) (.c 0),
 .ite (.n 84) (.n 87) (.c 0),
 .bin .eql .i64 (.n 15) (.c 1),
 .ite (.n 88) (.n 89) (.c 0),
 .app 92 0 [.n 0,.n 1,.n 2,.n 3],
 .app 92 1 [.n 0,.n 1,.n 2,.n 3],
 .app 92 2 [.n 0,.n 1,.n 2,.n 3],
 .app 92 3 [.n 0,.n 1,.n 2,.n 3],
 .app 92 4 [.n 0,.n 1,.n 2,.n 3],
 .bin .eql .i64 (.n 11) (.n 91),
 .bin .eql .i64 (.n 12) (.n 92),
 .ite (.n 96) (.n 97) (.c 0),
 .bin .eql .i64 (.n 13) (.n 93),
 .bin .eql .i64 (.n 14) (.n 94),
 .ite (.n 99) (.n 100) (.c 0),
 .ite (.n 98) (.n 101) (.c 0),
 .bin .eql .i64 (.n 15) (.n 95),
 .ite (.n 102) (.n 103) (.c 0),
 .ite (.n 81) (.n 90) (.n 104),
 .ite (.n 67) (.c 1) (.n 66),
 .ite (.n 67) (.c 0) (.n 105),
 .ite (.n 10) (.n 106) (.c 0),
 .ite (.n 9) (.c 1) (.n 108),
 .ite (.n 9) (.c 0) (.n 107)]
def Ql:List Vc:=[
 ⟨[],.pre 20 []⟩,
 ⟨[(.n 10,true)],.pre 91 [.n 0,.n 1,.n 2,.n 3]⟩,
 ⟨[(.n 10,true)],.pre 93 [.n 4,.n 5,.n 6,.n 7]⟩,
 ⟨[(.n 33,false),(.n 10,true)],.pre 94 [.n 4,.n 5,.n 6,.n 7]⟩,
 ⟨[(.n 80,true),(.n 66,true),(.n 10,true)],.pre 92 [.n 0,.n 1,.n 2,.n 3]⟩]
theorem Re:whole Tryz.prog TJ 20 40 8 [(true,[some .i64,some .i64,some .i64,some .i64]),(true,[some .i64,some .i64]),(true,[some .i64,some .i64])]=some (.p (.c (.bool (.n 110))),⟨gB.reverse,Ql.reverse⟩):=by kernel_rfl
theorem Qu:wfN gB.reverse=true:=by kernel_rfl
theorem Vy (cl ch dl dh a b c d:Int) {v:Nat->Int} (hs:fH (cxW [cl,ch,dl,dh,a,b,c,d]) v gB.reverse) (h25:v 25=1) (h31:v 31=1) (h45:v 45=v 16) (h46:v 46=v 17) (h47:v 47=v 18) (h48:v 48=v 19) (h49:v 49=v 20) (h80:v 80=1) (h91:v 91=v 11) (h92:v 92=v 12) (h93:v 93=v 13) (h94:v 94=v 14) (h95:v 95=v 15):v 110=1 :=
 aL (X:=cxW [cl,ch,dl,dh,a,b,c,d]) (v:=v) (l:=gB) (ru _) hs (k:=110) (r:=.c 1) (ps:=[(25,.c 1),(31,.c 1),(45,.n 16),(46,.n 17),(47,.n 18),(48,.n 19),(49,.n 20),(80,.c 1),(91,.n 11),(92,.n 12),(93,.n 13),(94,.n 14),(95,.n 15)]) (nz:=[]) (ah h25 (ah h31 (ah h45 (ah h46 (ah h47 (ah h48 (ah h49 (ah h80 (ah h91 (ah h92 (ah h93 (ah h94 (ah h95 aK))))))))))))) bB (by kernel_rfl)
theorem V7 (cl ch dl dh a b c d:Int) {v:Nat->Int} (hs:fH (cxW [cl,ch,dl,dh,a,b,c,d]) v gB.reverse) (h11:v 11=0) (h12:v 12=0) (h13:v 13=0) (h14:v 14=0) (h15:v 15=1) (h25:v 25=1) (h31:v 31=1) (h45:v 45=v 16) (h46:v 46=v 17) (h47:v 47=v 18) (h48:v 48=v 19) (h49:v 49=v 20) (h80:v 80=0):v 110=1 :=
 aL (X:=cxW [cl,ch,dl,dh,a,b,c,d]) (v:=v) (l:=gB) (ru _) hs (k:=110) (r:=.c 1) (ps:=[(11,.c 0),(12,.c 0),(13,.c 0),(14,.c 0),(15,.c 1),(25,.c 1),(31,.c 1),(45,.n 16),(46,.n 17),(47,.n 18),(48,.n 19),(49,.n 20),(80,.c 0)]) (nz:=[]) (ah h11 (ah h12 (ah h13 (ah h14 (ah h15 (ah h25 (ah h31 (ah h45 (ah h46 (ah h47 (ah h48 (ah h49 (ah h80 aK))))))))))))) bB (by kernel_rfl)
theorem Xn (cl ch dl dh a b c d:Int) {v:Nat->Int} (hs:fH (cxW [cl,ch,dl,dh,a,b,c,d]) v gB.reverse) (h16:v 16=0) (h17:v 17=0) (h18:v 18=0) (h19:v 19=0) (h20:v 20=1) (h33:v 33=1) (h80:v 80=1) (h91:v 91=v 11) (h92:v 92=v 12) (h93:v 93=v 13) (h94:v 94=v 14) (h95:v 95=v 15):v 110=1 :=
 aL (X:=cxW [cl,ch,dl,dh,a,b,c,d]) (v:=v) (l:=gB) (ru _) hs (k:=110) (r:=.c 1) (ps:=[(16,.c 0),(17,.c 0),(18,.c 0),(19,.c 0),(20,.c 1),(33,.c 1),(80,.c 1),(91,.n 11),(92,.n 12),(93,.n 13),(94,.n 14),(95,.n 15)]) (nz:=[]) (ah h16 (ah h17 (ah h18 (ah h19 (ah h20 (ah h33 (ah h80 (ah h91 (ah h92 (ah h93 (ah h94 (ah h95 aK)))))))))))) bB (by kernel_rfl)
theorem XJ (cl ch dl dh a b c d:Int) {v:Nat->Int} (hs:fH (cxW [cl,ch,dl,dh,a,b,c,d]) v gB.reverse) (h11:v 11=0) (h12:v 12=0) (h13:v 13=0) (h14:v 14=0) (h15:v 15=1) (h16:v 16=0) (h17:v 17=0) (h18:v 18=0) (h19:v 19=0) (h20:v 20=1) (h33:v 33=1) (h80:v 80=0):v 110=1 :=
 aL (X:=cxW [cl,ch,dl,dh,a,b,c,d]) (v:=v) (l:=gB) (ru _) hs (k:=110) (r:=.c 1) (ps:=[(11,.c 0),(12,.c 0),(13,.c 0),(14,.c 0),(15,.c 1),(16,.c 0),(17,.c 0),(18,.c 0),(19,.c 0),(20,.c 1),(33,.c 1),(80,.c 0)]) (nz:=[]) (ah h11 (ah h12 (ah h13 (ah h14 (ah h15 (ah h16 (ah h17 (ah h18 (ah h19 (ah h20 (ah h33 (ah h80 aK)))))))))))) bB (by kernel_rfl)
theorem QQ (cl ch dl dh a b c d:Int) (w:World):Calls Tryz.prog 8 #[.agg #[.int .i64 cl,.int .i64 ch,.int .i64 dl,.int .i64 dh],.agg #[.int .i64 a,.int .i64 b],.agg #[.int .i64 c,.int .i64 d]] w fun e w'=>e=.returned (.bool true)/\Below w.heap.size w w':=by
 refine Sx.calls (X:=cxW [cl,ch,dl,dh,a,b,c,d]) il (PX _) Re Qu (fun v hs=>?_) w
 have e0:v 0=cl:=ae hs 0 rfl;have e1:v 1=ch:=ae hs 1 rfl;have e2:v 2=dl:=ae hs 2 rfl;have e3:v 3=dh:=ae hs 3 rfl;have e4:v 4=a:=ae hs 4 rfl;have e5:v 5=b:=ae hs 5 rfl;have e6:v 6=c:=ae hs 6 rfl;have e7:v 7=d:=ae hs 7 rfl;have A25:v 25=b2i (aH (v 4) (v 5)):=kL (x1:=v 21) (x2:=v 22) (x3:=v 23) (x4:=v 24) (x5:=v 25) (ae hs 21 rfl) (ae hs 22 rfl) (ae hs 23 rfl) (ae hs 24 rfl) (ae hs 25 rfl);have A31:v 31=b2i (aH (v 6) (v 7)):=kL (x1:=v 27) (x2:=v 28) (x3:=v 29) (x4:=v 30) (x5:=v 31) (ae hs 27 rfl) (ae hs 28 rfl) (ae hs 29 rfl) (ae hs 30 rfl) (ae hs 31 rfl);have A72:v 72=b2i (aH (v 0) (v 1)):=kL (x1:=v 68) (x2:=v 69) (x3:=v 70) (x4:=v 71) (x5:=v 72) (ae hs 68 rfl) (ae hs 69 rfl) (ae hs 70 rfl) (ae hs 71 rfl) (ae hs 72 rfl);have A77:v 77=b2i (aH (v 2) (v 3)):=kL (x1:=v 73) (x2:=v 74) (x3:=v 75) (x4:=v 76) (x5:=v 77) (ae hs 73 rfl) (ae hs 74 rfl) (ae hs 75 rfl) (ae hs 76 rfl) (ae hs 77 rfl);have A79:v 79=b2i (decide (0<=v 2)):=ae hs 79 rfl
 have A80:v 80=b2i (jI (v 0) (v 1) (v 2) (v 3)):=by
  have:=RH (RH A72 A77 (ae hs 78 rfl)) A79 (ae hs 80 rfl);rw [this];unfold jI;rw [Bool.and_assoc]
 have A33:v 33=if v 26≠0 then (1:Int) else v 32:=ae hs 33 rfl
 have A26:v 26=if v 25≠0 then (0:Int) else (1:Int):=ae hs 26 rfl
 have A32:v 32=if v 31≠0 then (0:Int) else (1:Int):=ae hs 32 rfl
 have P0:v 11=(lv (v 0) (v 1) (v 2) (v 3)).getD 0 0:=ae hs 11 rfl;have Q0:v 91=(iV (v 0) (v 1) (v 2) (v 3)).getD 0 0:=ae hs 91 rfl;have L0:v 16=(iF (v 4) (v 5) (v 6) (v 7)).getD 0 0:=ae hs 16 rfl;have M0:v 45=(fV (v 4) (v 5) (v 6) (v 7)).getD 0 0:=ae hs 45 rfl;have P1:v 12=(lv (v 0) (v 1) (v 2) (v 3)).getD 1 0:=ae hs 12 rfl;have Q1:v 92=(iV (v 0) (v 1) (v 2) (v 3)).getD 1 0:=ae hs 92 rfl;have L1:v 17=(iF (v 4) (v 5) (v 6) (v 7)).getD 1 0:=ae hs 17 rfl;have M1:v 46=(fV (v 4) (v 5) (v 6) (v 7)).getD 1 0:=ae hs 46 rfl;have P2:v 13=(lv (v 0) (v 1) (v 2) (v 3)).getD 2 0:=ae hs 13 rfl;have Q2:v 93=(iV (v 0) (v 1) (v 2) (v 3)).getD 2 0:=ae hs 93 rfl;have L2:v 18=(iF (v 4) (v 5) (v 6) (v 7)).getD 2 0:=ae hs 18 rfl;have M2:v 47=(fV (v 4) (v 5) (v 6) (v 7)).getD 2 0:=ae hs 47 rfl;have P3:v 14=(lv (v 0) (v 1) (v 2) (v 3)).getD 3 0:=ae hs 14 rfl;have Q3:v 94=(iV (v 0) (v 1) (v 2) (v 3)).getD 3 0:=ae hs 94 rfl;have L3:v 19=(iF (v 4) (v 5) (v 6) (v 7)).getD 3 0:=ae hs 19 rfl;have M3:v 48=(fV (v 4) (v 5) (v 6) (v 7)).getD 3 0:=ae hs 48 rfl;have P4:v 15=(lv (v 0) (v 1) (v 2) (v 3)).getD 4 0:=ae hs 15 rfl;have Q4:v 95=(iV (v 0) (v 1) (v 2) (v 3)).getD 4 0:=ae hs 95 rfl;have L4:v 20=(iF (v 4) (v 5) (v 6) (v 7)).getD 4 0:=ae hs 20 rfl;have M4:v 49=(fV (v 4) (v 5) (v 6) (v 7)).getD 4 0:=ae hs 49 rfl
 have Z:v 110=1:=by
  by_cases ha:aH (v 4) (v 5)=true/\aH (v 6) (v 7)=true
  . rw [show iF (v 4) (v 5) (v 6) (v 7)=fV (v 4) (v 5) (v 6) (v 7) from if_pos ha] at L0 L1 L2 L3 L4
    rw [ha.1] at A25;rw [ha.2] at A31
    by_cases hl:jI (v 0) (v 1) (v 2) (v 3)=true
    . rw [show lv (v 0) (v 1) (v 2) (v 3)=iV (v 0) (v 1) (v 2) (v 3) from if_pos hl] at P0 P1 P2 P3 P4
      rw [hl] at A80;exact Vy cl ch dl dh a b c d hs A25 A31 (M0.trans L0.symm) (M1.trans L1.symm) (M2.trans L2.symm) (M3.trans L3.symm) (M4.trans L4.symm) A80 (Q0.trans P0.symm) (Q1.trans P1.symm) (Q2.trans P2.symm) (Q3.trans P3.symm) (Q4.trans P4.symm)
    . rw [show lv (v 0) (v 1) (v 2) (v 3)=[0,0,0,0,1] from if_neg hl] at P0 P1 P2 P3 P4
      rw [show jI (v 0) (v 1) (v 2) (v 3)=false by simpa using hl] at A80
      exact V7 cl ch dl dh a b c d hs P0 P1 P2 P3 P4 A25 A31 (M0.trans L0.symm) (M1.trans L1.symm) (M2.trans L2.symm) (M3.trans L3.symm) (M4.trans L4.symm) A80
  . rw [show iF (v 4) (v 5) (v 6) (v 7)=[0,0,0,0,1] from if_neg ha] at L0 L1 L2 L3 L4
    have k33:v 33=1:=by
     rw [A33,A26,A32,A25,A31];cases q1:aH (v 4) (v 5)<;>cases q2:aH (v 6) (v 7)<;>simp_all [b2i]
    by_cases hl:jI (v 0) (v 1) (v 2) (v 3)=true
    . rw [show lv (v 0) (v 1) (v 2) (v 3)=iV (v 0) (v 1) (v 2) (v 3) from if_pos hl] at P0 P1 P2 P3 P4
      rw [hl] at A80;exact Xn cl ch dl dh a b c d hs L0 L1 L2 L3 L4 k33 A80 (Q0.trans P0.symm) (Q1.trans P1.symm) (Q2.trans P2.symm) (Q3.trans P3.symm) (Q4.trans P4.symm)
    . rw [show lv (v 0) (v 1) (v 2) (v 3)=[0,0,0,0,1] from if_neg hl] at P0 P1 P2 P3 P4
      rw [show jI (v 0) (v 1) (v 2) (v 3)=false by simpa using hl] at A80
      exact XJ cl ch dl dh a b c d hs P0 P1 P2 P3 P4 L0 L1 L2 L3 L4 k33 A80
 refine ⟨dV ?_,?_⟩
 . exact aj (fun _=>trivial) (aj (fun _=>trivial) (aj (fun _=>trivial) (aj (fun hp=>(show aH (v 4) (v 5)=true/\aH (v 6) (v 7)=true by
    have h33:v 33=0:=(Lc hp).1;rw [A33,A26,A32,A25,A31] at h33;cases q1:aH (v 4) (v 5)<;>cases q2:aH (v 6) (v 7)<;>simp_all [b2i])) (aj (fun hp=>(show jI (v 0) (v 1) (v 2) (v 3)=true by
    have h80:v 80≠0:=(ax hp).1;rw [A80] at h80;cases q1:jI (v 0) (v 1) (v 2) (v 3)<;>simp_all [b2i])) (dO)))))
 . intro x hx0;have hx':=gG (v:=v) (by rfl) hx0
   rw [hx'];show Value.bool (decide (v 110≠0))=_;rw [Z];rfl
