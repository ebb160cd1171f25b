/- The law RhumbLeads: a rhumb line leads where it should. -/
import Derived.Test.YtbcnifkfaknnaaaGreatZRlY
set_option linter.unusedVariables false
set_option linter.unusedSimpArgs false
set_option maxRecDepth 100000
set_option maxHeartbeats 2000000
namespace Go.Proofs.YtbcnifkfaknnaaaGreat
open Go.RowKit Alm Sx
def kLd (f:Nat):Bool:=f==110
def yO:Nat->List Int->List Int
 | 110,[a,_,b,_,P,Q,g,h]=>[(rdV a b P Q g h).getD 0 0,(rdV a b P Q g h).getD 1 0,(rdV a b P Q g h).getD 2 0,(rdV a b P Q g h).getD 3 0,(rdV a b P Q g h).getD 4 0]
 | _,_=>[]
def RV:Nat->List Int->Prop
 | 110,[a,a1,b,b1,P,Q,g,h]=>a1=a/\b1=b/\Gp a b P Q g h
 | _,_=>False
def Yx (args:List Int):Cx:=(YY args).plus kLd yO RV
def Sq:Sx.Spec:=⟨8,110,[(true,[some .i64,some .i64,some .i64,some .i64]),(true,[some .i64,some .i64,some .i64,some .i64])],[(true,[some .i64,some .i64,some .i64,some .i64]),(false,[some .i64])]⟩
def UD:List Sx.Spec:=[MW,Sq,RI]
theorem Qn (args:List Int):∀ s∈UD,bR Tryz.prog (Yx args) s:=by
 intro s hs;simp only [UD,List.mem_cons,List.not_mem_nil,or_false] at hs;rcases hs with rfl|rfl|rfl
 . exact dR rfl (GV args _ (by simp [OG]))
 . refine iq rfl (ours _ _ _ Tryz.func8 rfl (by kernel_rfl)) fun xs hp w=>?_
   match xs,hp with
   | [a,a1,b,b1,P,Q,g,h],hp =>
    obtain ⟨ha,hb,hq⟩:=hp;subst ha hb;exact Yq a1 a1 b1 b1 P Q g h w rfl rfl hq
 . exact dR rfl (GV args _ (by simp [OG]))
theorem Jr (x y:Int) (h:x<=y):mW x y=-10800000/\qW x y=10800000∨y-x<21600000/\mW x y=sgt x/\qW x y=sgt x+(y-x)/\(-10800000<=sgt x/\sgt x<10800000)/\(sgt x-x)%21600000=0:=by
 unfold mW qW
 by_cases g:y-x>=21600000
 . rw [if_pos g,if_pos g];exact .inl ⟨rfl,rfl⟩
 . rw [if_neg g,if_neg g];refine .inr ⟨by omega,rfl,rfl,?_⟩
   unfold sgt;split<;>omega
theorem Qd (b d G0 G1:Int) (h0:G0<=ivD b d) (h1:ivD b d<=G1):mW (b+G0) (b+G1)=-10800000/\qW (b+G0) (b+G1)=10800000 ∨
 ((-10800000<=mW (b+G0) (b+G1)/\mW (b+G0) (b+G1)<10800000)/\mW (b+G0) (b+G1)<=qW (b+G0) (b+G1)/\qW (b+G0) (b+G1)-mW (b+G0) (b+G1)<21600000/\(d-mW (b+G0) (b+G1))%21600000<=qW (b+G0) (b+G1)-mW (b+G0) (b+G1)):=by
 rcases Jr (b+G0) (b+G1) (by omega) with f|f
 . exact .inl f
 . right
   rw [f.2.1,f.2.2.1]
   have s:(ivD b d-(d-b))%21600000=0:=by
    unfold ivD sgt;split<;>omega
   generalize ivD b d=D at *
   generalize sgt (b+G0)=z at *
   omega
def yH:List Nd:=[
 .arg 0,
 .arg 1,
 .arg 2,
 .arg 3,
 .app 20 0 [],
 .ite (.n 4) (.c 0) (.c 1),
 .ite (.n 5) (.c 0) (.c 1),
 .bin .geq .i64 (.n 0) (.c (-5400000)),
 .bin .leq .i64 (.n 0) (.c 5400000),
 .ite (.n 7) (.n 8) (.c 0),
 .bin .geq .i64 (.n 1) (.c (-10800000)),
 .ite (.n 9) (.n 10) (.c 0),
 .bin .lss .i64 (.n 1) (.c 10800000),
 .ite (.n 11) (.n 12) (.c 0),
 .ite (.n 13) (.c 0) (.c 1),
 .bin .lss .i64 (.n 0) (.c (-5340000)),
 .ite (.n 14) (.c 1) (.n 15),
 .bin .gtr .i64 (.n 0) (.c 5340000),
 .ite (.n 16) (.c 1) (.n 17),
 .bin .geq .i64 (.n 2) (.c (-5400000)),
 .bin .leq .i64 (.n 2) (.c 5400000),
 .ite (.n 19) (.n 20) (.c 0),
 .bin .geq .i64 (.n 3) (.c (-10800000)),
 .ite (.n 21) (.n 22) (.c 0),
 .bin .lss .i64 (.n 3) (.c 10800000),
 .ite (.n 23) (.n 24) (.c 0),
 .ite (.n 25) (.c 0) (.c 1),
 .bin .lss .i64 (.n 2) (.c (-5340000)),
 .ite (.n 26) (.c 1) (.n 27),
 .bin .gtr .i64 (.n 2) (.c 5340000),
 .ite (.n 28) (.c 1) (.n 29),
 .ite (.n 18) (.c 1) (.n 30),
 .ite (.n 31) (.c 0) (.c 1),
 .app 102 0 [.n 0,.n 1,.n 2,.n 3],
 .app 102 1 [.n 0,.n 1,.n 2,.n 3],
 .app 102 2 [.n 0,.n 1,.n 2,.n 3],
 .app 102 3 [.n 0,.n 1,.n 2,.n 3],
 .app 102 4 [.n 0,.n 1,.n 2,.n 3],
 .ite (.n 14) (.c 0) (.n 0),
 .ite (.n 14) (.c 0) (.n 1),
 .bin .neq .i64 (.n 37) (.c 0),
 .bin .neq .i64 (.n 14) (.c 0),
 .ite (.n 40) (.c 1) (.n 41),
 .ite (.n 42) (.c 0) (.c 1),
 .app 110 0 [.n 38,.n 38,.n 39,.n 39,.n 33,.n 34,.n 35,.n 36],
 .app 110 1 [.n 38,.n 38,.n 39,.n 39,.n 33,.n 34,.n 35,.n 36],
 .app 110 2 [.n 38,.n 38,.n 39,.n 39,.n 33,.n 34,.n 35,.n 36],
 .app 110 3 [.n 38,.n 38,.n 39,.n 39,.n 33,.n 34,.n 35,.n 36],
 .app 110 4 [.n 38,.n 38,.n 39,.n 39,.n 33,.n 34,.n 35,.n 36],
 .bin .neq .i64 (.n 48) (.c 0),
 .bin .eql .i64 (.n 48) (.c 25),
 .bin .gtr .i64 (.n 0) (.c 5339940),
 .bin .lss .i64 (.n 0) (.c (-5339940)),
 .ite (.n 51) (.c 1) (.n 52),
 .bin .gtr .i64 (.n 2) (.c 5339940),
 .ite (.n 53) (.c 1) (.n 54),
 .bin .lss .i64 (.n 2) (.c (-5339940)),
 .ite (.n 55) (.c 1) (.n 56),
 .ite (.n 50) (.n 57) (.c 0),
 .ite (.n 49) (.c 0) (.c 1),
 .bin .leq .i64 (.n 44) (.n 45),
 .bin .geq .i64 (.n 44) (.c (-5400000)),
 .ite (.n 60) (.n 61) (.c 0),
 .bin .leq .i64 (.n 45) (.c 5400000),
 .ite (.n 62) (.n 63) (.c 0),
 .bin .eql .i64 (.n 46) (.c (-10800000)),
 .bin .eql .i64 (.n 47) (.c 10800000),
 .ite (.n 65) (.n 66) (.c 0),
 .bin .geq .i64 (.n 46) (.c (-10800000)),
 .bin .lss .i64 (.n 46) (.c 10800000),
 .ite (.n 68) (.n 69) (.c 0),
 .bin .leq .i64 (.n 46) (.n 47),
 .ite (.n 70) (.n 71) (.c 0),
 .bin .sub .i64 (.n 47) (.n 46),
 .bin .lss .i64 (.n 73) (.c 21600000),
 .ite (.n 72) (.n 74) (.c 0),
 .ite (.n 67) (.c 1) (.n 75),
 .ite (.n 64) (.n 76) (.c 0),
 .ite (.n 77) (.c 0) (.c 1),
 .ite (.n 78) (.c 1) (.n 26),
 .ite (.n 79) (.c 0) (.c 1),
 .bin .lss .i64 (.n 2) (.n 44),
 .bin .gtr .i64 (.n 2) (.n 45),
 .ite (.n 81) (.c 1) (.n 82),
 .ite (.n 83) (.c 0) (.c 1),
 .bin .eql .i64 (.n 2) (.c 5400000),
 .bin .eql .i64 (.n 2) (.c (-5400000)),
 .ite (.n 85) (.c 1) (.n 86),
 .bin .sub .i64 (.n 3) (.n 46),
 .bin .rem .i64 (.n 88) (.c 21600000),
 .bin .lss .i64 (.n 89) (.c 0),
 .bin .add .i64 (.n 89) (.c 21600000),
 .ite (.n 90) (.c 0) (.c 1),
 .ite (.n 90) (.n 91) (.n 89),
 .bin .leq .i64 (.n 93) (.n 73),
 .ite (.n 67) (.c 1) (.n 94),
 .ite (.n 87) (.c 1) (.n 95),
 .ite (.n 83) (.c 0) (.n 96),
 .ite (.n 79) (.c 0) (.n 97),
 .bin .eql .i64 (.n 79) (.c 0),
 .ite (.n 99) (.n 98) (.c 0),
 .ite (.n 49) (.n 58) (.n 100),
 .ite (.n 42) (.c 0) (.n 101),
 .ite (.n 31) (.c 1) (.n 102),
 .ite (.n 5) (.c 0) (.n 103)]
def IG:List Vc:=[
 ⟨[],.pre 20 []⟩,
 ⟨[(.n 32,true),(.n 6,true)],.pre 102 [.n 0,.n 1,.n 2,.n 3]⟩,
 ⟨[(.n 43,true),(.n 32,true),(.n 6,true)],.pre 110 [.n 38,.n 38,.n 39,.n 39,.n 33,.n 34,.n 35,.n 36]⟩]
theorem Ji:whole Tryz.prog UD 20 40 3 [(true,[some .i64,some .i64]),(true,[some .i64,some .i64])]=some (.p (.c (.bool (.n 104))),⟨yH.reverse,IG.reverse⟩):=by kernel_rfl
theorem J6:wfN yH.reverse=true:=by kernel_rfl
theorem Ph (a b c d:Int) (w:World):Calls Tryz.prog 3 #[.agg #[.int .i64 a,.int .i64 b],.agg #[.int .i64 c,.int .i64 d]] w fun e w'=>e=.returned (.bool true)/\Below w.heap.size w w':=by
 refine Sx.calls (X:=Yx [a,b,c,d]) jc (Qn _) Ji J6 (fun v hs=>?_) w
 have e0:v 0=a:=ag hs 0 rfl;have e1:v 1=b:=ag hs 1 rfl;have e2:v 2=c:=ag hs 2 rfl;have e3:v 3=d:=ag hs 3 rfl;have e4:v 4=(wN 20 []).getD 0 0:=ag hs 4 rfl;have e5:v 5=if v 4≠0 then (0:Int) else (1:Int):=ag hs 5 rfl
 have e6:v 6=if v 5≠0 then (0:Int) else (1:Int):=ag hs 6 rfl
 have e7:v 7=b2i (decide (v 0>=(-5400000:Int))):=ag hs 7 rfl;have e8:v 8=b2i (decide (v 0<=(5400000:Int))):=ag hs 8 rfl;have e9:v 9=if v 7≠0 then v 8 else (0:Int):=ag hs 9 rfl
 have e10:v 10=b2i (decide (v 1>=(-10800000:Int))):=ag hs 10 rfl;have e11:v 11=if v 9≠0 then v 10 else (0:Int):=ag hs 11 rfl
 have e12:v 12=b2i (decide (v 1<(10800000:Int))):=ag hs 12 rfl;have e13:v 13=if v 11≠0 then v 12 else (0:Int):=ag hs 13 rfl
 have e14:v 14=if v 13≠0 then (0:Int) else (1:Int):=ag hs 14 rfl
 have e15:v 15=b2i (decide (v 0<(-5340000:Int))):=ag hs 15 rfl;have e16:v 16=if v 14≠0 then (1:Int) else v 15:=ag hs 16 rfl
 have e17:v 17=b2i (decide (v 0>(5340000:Int))):=ag hs 17 rfl;have e18:v 18=if v 16≠0 then (1:Int) else v 17:=ag hs 18 rfl
 have e19:v 19=b2i (decide (v 2>=(-5400000:Int))):=ag hs 19 rfl;have e20:v 20=b2i (decide (v 2<=(5400000:Int))):=ag hs 20 rfl;have e21:v 21=if v 19≠0 then v 20 else (0:Int):=ag hs 21 rfl
 have e22:v 22=b2i (decide (v 3>=(-10800000:Int))):=ag hs 22 rfl;have e23:v 23=if v 21≠0 then v 22 else (0:Int):=ag hs 23 rfl
 have e24:v 24=b2i (decide (v 3<(10800000:Int))):=ag hs 24 rfl;have e25:v 25=if v 23≠0 then v 24 else (0:Int):=ag hs 25 rfl
 have e26:v 26=if v 25≠0 then (0:Int) else (1:Int):=ag hs 26 rfl
 have e27:v 27=b2i (decide (v 2<(-5340000:Int))):=ag hs 27 rfl;have e28:v 28=if v 26≠0 then (1:Int) else v 27:=ag hs 28 rfl
 have e29:v 29=b2i (decide (v 2>(5340000:Int))):=ag hs 29 rfl;have e30:v 30=if v 28≠0 then (1:Int) else v 29:=ag hs 30 rfl
 have e31:v 31=if v 18≠0 then (1:Int) else v 30:=ag hs 31 rfl
 have e32:v 32=if v 31≠0 then (0:Int) else (1:Int):=ag hs 32 rfl
 have e33:v 33=(wN 102 [v 0,v 1,v 2,v 3]).getD 0 0:=ag hs 33 rfl;have e34:v 34=(wN 102 [v 0,v 1,v 2,v 3]).getD 1 0:=ag hs 34 rfl;have e35:v 35=(wN 102 [v 0,v 1,v 2,v 3]).getD 2 0:=ag hs 35 rfl;have e36:v 36=(wN 102 [v 0,v 1,v 2,v 3]).getD 3 0:=ag hs 36 rfl;have e37:v 37=(wN 102 [v 0,v 1,v 2,v 3]).getD 4 0:=ag hs 37 rfl;have e38:v 38=if v 14≠0 then (0:Int) else v 0:=ag hs 38 rfl
 have e39:v 39=if v 14≠0 then (0:Int) else v 1:=ag hs 39 rfl
 have e40:v 40=b2i (v 37 != (0:Int)):=ag hs 40 rfl;have e41:v 41=b2i (v 14 != (0:Int)):=ag hs 41 rfl;have e42:v 42=if v 40≠0 then (1:Int) else v 41:=ag hs 42 rfl
 have e43:v 43=if v 42≠0 then (0:Int) else (1:Int):=ag hs 43 rfl
 have e44:v 44=(yO 110 [v 38,v 38,v 39,v 39,v 33,v 34,v 35,v 36]).getD 0 0:=ag hs 44 rfl;have e45:v 45=(yO 110 [v 38,v 38,v 39,v 39,v 33,v 34,v 35,v 36]).getD 1 0:=ag hs 45 rfl;have e46:v 46=(yO 110 [v 38,v 38,v 39,v 39,v 33,v 34,v 35,v 36]).getD 2 0:=ag hs 46 rfl;have e47:v 47=(yO 110 [v 38,v 38,v 39,v 39,v 33,v 34,v 35,v 36]).getD 3 0:=ag hs 47 rfl;have e48:v 48=(yO 110 [v 38,v 38,v 39,v 39,v 33,v 34,v 35,v 36]).getD 4 0:=ag hs 48 rfl;have e49:v 49=b2i (v 48 != (0:Int)):=ag hs 49 rfl;have e50:v 50=b2i (v 48==(25:Int)):=ag hs 50 rfl;have e51:v 51=b2i (decide (v 0>(5339940:Int))):=ag hs 51 rfl;have e52:v 52=b2i (decide (v 0<(-5339940:Int))):=ag hs 52 rfl;have e53:v 53=if v 51≠0 then (1:Int) else v 52:=ag hs 53 rfl
 have e54:v 54=b2i (decide (v 2>(5339940:Int))):=ag hs 54 rfl;have e55:v 55=if v 53≠0 then (1:Int) else v 54:=ag hs 55 rfl
 have e56:v 56=b2i (decide (v 2<(-5339940:Int))):=ag hs 56 rfl;have e57:v 57=if v 55≠0 then (1:Int) else v 56:=ag hs 57 rfl
 have e58:v 58=if v 50≠0 then v 57 else (0:Int):=ag hs 58 rfl
 have e59:v 59=if v 49≠0 then (0:Int) else (1:Int):=ag hs 59 rfl
 have e60:v 60=b2i (decide (v 44<=v 45)):=ag hs 60 rfl;have e61:v 61=b2i (decide (v 44>=(-5400000:Int))):=ag hs 61 rfl;have e62:v 62=if v 60≠0 then v 61 else (0:Int):=ag hs 62 rfl
 have e63:v 63=b2i (decide (v 45<=(5400000:Int))):=ag hs 63 rfl;have e64:v 64=if v 62≠0 then v 63 else (0:Int):=ag hs 64 rfl
 have e65:v 65=b2i (v 46==(-10800000:Int)):=ag hs 65 rfl;have e66:v 66=b2i (v 47==(10800000:Int)):=ag hs 66 rfl;have e67:v 67=if v 65≠0 then v 66 else (0:Int):=ag hs 67 rfl
 have e68:v 68=b2i (decide (v 46>=(-10800000:Int))):=ag hs 68 rfl;have e69:v 69=b2i (decide (v 46<(10800000:Int))):=ag hs 69 rfl;have e70:v 70=if v 68≠0 then v 69 else (0:Int):=ag hs 70 rfl
 have e71:v 71=b2i (decide (v 46<=v 47)):=ag hs 71 rfl;have e72:v 72=if v 70≠0 then v 71 else (0:Int):=ag hs 72 rfl
 have e73:v 73=IntKind.i64.wrap (v 47-v 46):=ag hs 73 rfl;have e74:v 74=b2i (decide (v 73<(21600000:Int))):=ag hs 74 rfl;have e75:v 75=if v 72≠0 then v 74 else (0:Int):=ag hs 75 rfl
 have e76:v 76=if v 67≠0 then (1:Int) else v 75:=ag hs 76 rfl
 have e77:v 77=if v 64≠0 then v 76 else (0:Int):=ag hs 77 rfl
 have e78:v 78=if v 77≠0 then (0:Int) else (1:Int):=ag hs 78 rfl
 have e79:v 79=if v 78≠0 then (1:Int) else v 26:=ag hs 79 rfl
 have e80:v 80=if v 79≠0 then (0:Int) else (1:Int):=ag hs 80 rfl
 have e81:v 81=b2i (decide (v 2<v 44)):=ag hs 81 rfl;have e82:v 82=b2i (decide (v 2>v 45)):=ag hs 82 rfl;have e83:v 83=if v 81≠0 then (1:Int) else v 82:=ag hs 83 rfl
 have e84:v 84=if v 83≠0 then (0:Int) else (1:Int):=ag hs 84 rfl
 have e85:v 85=b2i (v 2==(5400000:Int)):=ag hs 85 rfl;have e86:v 86=b2i (v 2==(-5400000:Int)):=ag hs 86 rfl;have e87:v 87=if v 85≠0 then (1:Int) else v 86:=ag hs 87 rfl
 have e88:v 88=IntKind.i64.wrap (v 3-v 46):=ag hs 88 rfl;have e89:v 89=Int.tmod (v 88) ((21600000:Int)):=ag hs 89 rfl;have e90:v 90=b2i (decide (v 89<(0:Int))):=ag hs 90 rfl;have e91:v 91=IntKind.i64.wrap (v 89+(21600000:Int)):=ag hs 91 rfl;have e92:v 92=if v 90≠0 then (0:Int) else (1:Int):=ag hs 92 rfl
 have e93:v 93=if v 90≠0 then v 91 else v 89:=ag hs 93 rfl
 have e94:v 94=b2i (decide (v 93<=v 73)):=ag hs 94 rfl;have e95:v 95=if v 67≠0 then (1:Int) else v 94:=ag hs 95 rfl
 have e96:v 96=if v 87≠0 then (1:Int) else v 95:=ag hs 96 rfl
 have e97:v 97=if v 83≠0 then (0:Int) else v 96:=ag hs 97 rfl
 have e98:v 98=if v 79≠0 then (0:Int) else v 97:=ag hs 98 rfl
 have e99:v 99=b2i (v 79==(0:Int)):=ag hs 99 rfl;have Nh:v 100=if v 99≠0 then v 98 else (0:Int):=ag hs 100 rfl
 have e101:v 101=if v 49≠0 then v 58 else v 100:=ag hs 101 rfl
 have e102:v 102=if v 42≠0 then (0:Int) else v 101:=ag hs 102 rfl
 have e103:v 103=if v 31≠0 then (1:Int) else v 102:=ag hs 103 rfl
 have e104:v 104=if v 5≠0 then (0:Int) else v 103:=ag hs 104 rfl
 have a4:v 4=1:=e4;have a5:v 5=0:=by rw [e5,a4];rfl
 have a6:v 6=1:=by rw [e6,a5];rfl
 by_cases g:((-5340000<=a/\a<=5340000)/\(-10800000<=b/\b<10800000))/\((-5340000<=c/\c<=5340000)/\(-10800000<=d/\d<10800000))
 . obtain ⟨⟨g0,g1⟩,⟨g2,g3⟩⟩:=g;have a13:v 13=1:=by rw [e13,e11,e9,e7,e8,e10,e12,e0,e1,decide_eq_true (by omega),decide_eq_true (by omega),decide_eq_true (by omega),decide_eq_true (by omega)];rfl
   have a14:v 14=0:=by rw [e14,a13];rfl
   have a18:v 18=0:=by rw [e18,e16,a14,e15,e17,e0,decide_eq_false (by omega),decide_eq_false (by omega)];rfl
   have a25:v 25=1:=by rw [e25,e23,e21,e19,e20,e22,e24,e2,e3,decide_eq_true (by omega),decide_eq_true (by omega),decide_eq_true (by omega),decide_eq_true (by omega)];rfl
   have a26:v 26=0:=by rw [e26,a25];rfl
   have a30:v 30=0:=by rw [e30,e28,a26,e27,e29,e2,decide_eq_false (by omega),decide_eq_false (by omega)];rfl
   have a31:v 31=0:=by rw [e31,a18,a30];rfl
   have P1:Rw 102 [v 0,v 1,v 2,v 3]:=by show (-5340000<=v 0/\v 0<=5340000)/\(-10800000<=v 1/\v 1<10800000)/\(-5340000<=v 2/\v 2<=5340000)/\(-10800000<=v 3/\v 3<10800000);omega
   have a33:v 33=bcL a b c d:=by rw [<-e0,<-e1,<-e2,<-e3];exact e33
   have a34:v 34=bcH a b c d:=by rw [<-e0,<-e1,<-e2,<-e3];exact e34
   have a35:v 35=dsL a b c d:=by rw [<-e0,<-e1,<-e2,<-e3];exact e35
   have a36:v 36=dsH a b c d:=by rw [<-e0,<-e1,<-e2,<-e3];exact e36
   have a37:v 37=0:=e37;have a38:v 38=a:=by rw [e38,a14,e0];rfl
   have a39:v 39=b:=by rw [e39,a14,e1];rfl
   have a42:v 42=0:=by rw [e42,e40,a37,e41,a14];rfl
   have Z:=Dh a b c d g0 g1 g2
   have P2:RV 110 [v 38,v 38,v 39,v 39,v 33,v 34,v 35,v 36]:=by
    show v 38=v 38/\v 39=v 39/\Gp (v 38) (v 39) (v 33) (v 34) (v 35) (v 36);rw [a38,a39,a33,a34,a35,a36];exact ⟨rfl,rfl,Z.1⟩
   have a44:v 44=(rdV a b (bcL a b c d) (bcH a b c d) (dsL a b c d) (dsH a b c d)).getD 0 0:=by rw [<-a33,<-a34,<-a35,<-a36,<-a38,<-a39];exact e44
   have a45:v 45=(rdV a b (bcL a b c d) (bcH a b c d) (dsL a b c d) (dsH a b c d)).getD 1 0:=by rw [<-a33,<-a34,<-a35,<-a36,<-a38,<-a39];exact e45
   have a46:v 46=(rdV a b (bcL a b c d) (bcH a b c d) (dsL a b c d) (dsH a b c d)).getD 2 0:=by rw [<-a33,<-a34,<-a35,<-a36,<-a38,<-a39];exact e46
   have a47:v 47=(rdV a b (bcL a b c d) (bcH a b c d) (dsL a b c d) (dsH a b c d)).getD 3 0:=by rw [<-a33,<-a34,<-a35,<-a36,<-a38,<-a39];exact e47
   have a48:v 48=(rdV a b (bcL a b c d) (bcH a b c d) (dsL a b c d) (dsH a b c d)).getD 4 0:=by rw [<-a33,<-a34,<-a35,<-a36,<-a38,<-a39];exact e48
   have fin:v 101=1->v 104=1:=fun k=>by rw [e104,a5,e103,a31,e102,a42,k];rfl
   have F:v 101=1:=by
    clear fin;generalize bcL a b c d=P at *
    generalize bcH a b c d=Q at *
    generalize dsL a b c d=g at *
    generalize dsH a b c d=h at *
    obtain ⟨_,Z2,Z3⟩:=Z
    by_cases nr:cB a P Q g h
    . have hV:rdV a b P Q g h=[jd a P Q g h,je a P Q g h,mW (b+iW a P Q g h) (b+iY a P Q g h),qW (b+iW a P Q g h) (b+iY a P Q g h),0]:=if_pos nr;rw [hV] at a44 a45 a46 a47 a48;have k:=Z2 nr;have lh:=Qd b d _ _ k.2.1 k.2.2;unfold cB at nr;have b44:v 44=jd a P Q g h:=a44;have b45:v 45=je a P Q g h:=a45;have b46:v 46=mW (b+iW a P Q g h) (b+iY a P Q g h):=a46;have b47:v 47=qW (b+iW a P Q g h) (b+iY a P Q g h):=a47;have b48:v 48=0:=a48;clear a44 a45 a46 a47 a48 hV Z2 Z3;generalize jd a P Q g h=y0 at *
      generalize je a P Q g h=y1 at *
      generalize mW (b+iW a P Q g h) (b+iY a P Q g h)=l0 at *
      generalize qW (b+iW a P Q g h) (b+iY a P Q g h)=l1 at *
      have a49:v 49=0:=by rw [e49,b48];simp [b2i]
      have a64:v 64=1:=by rw [e64,e62,e60,e61,e63,b44,b45,decide_eq_true (by omega),decide_eq_true (by omega),decide_eq_true (by omega)];rfl
      have a83:v 83=0:=by rw [e83,e81,e82,e2,b44,b45,decide_eq_false (by omega),decide_eq_false (by omega)];rfl
      have tail:v 76=1->v 95=1->v 101=1:=by
       intro k1 k2;have a77:v 77=1:=by rw [e77,a64,k1];rfl
       have a79:v 79=0:=by rw [e79,e78,a77,a26];rfl
       have a96:v 96=1:=by rw [e96,k2];split<;>rfl
       rw [e101,a49,Nh,e99,a79,e98,a79,e97,a83,a96];rfl
      rcases lh with ⟨l2,l3⟩|lh
      . have a67:v 67=1:=by rw [e67,e65,e66,b46,b47,l2,l3];rfl
        exact tail (by rw [e76,a67];rfl) (by rw [e95,a67];rfl)
      . have a73:v 73=l1-l0:=by rw [e73,b46,b47,Go.IntWalk.i64_in _ (by omega)]
        have a88:v 88=d-l0:=by rw [e88,e3,b46,Go.IntWalk.i64_in _ (by omega)]
        have a93:v 93=v 88%21600000:=wM (x:=v 88) (by omega) e89 e90 e91 e93
        have a94:v 94=1:=by rw [e94,a93,a88,a73,decide_eq_true (by omega)];rfl
        have a75:v 75=1:=by rw [e75,e72,e70,e68,e69,e71,e74,a73,b46,b47,decide_eq_true (by omega),decide_eq_true (by omega),decide_eq_true (by omega),decide_eq_true (by omega)];rfl
        exact tail (by rw [e76,a75];split<;>rfl) (by rw [e95,a94];split<;>rfl)
    . have hV:rdV a b P Q g h=[0,0,0,0,25]:=if_neg nr;rw [hV] at a48;have b48:v 48=25:=a48;have k:=Z3 nr;have a49:v 49=1:=by rw [e49,b48];simp [b2i]
      have a50:v 50=1:=by rw [e50,b48];rfl
      have a57:v 57=1:=by
       rw [e57,e55,e53,e51,e52,e54,e56,e0,e2];rcases k with z|z|z|z
       . simp [z,b2i]
       . by_cases y:a>5339940<;>simp [z,y,b2i]
       . by_cases y:a>5339940<;>by_cases x:a < -5339940<;>simp [z,x,y,b2i]
       . by_cases y:a>5339940<;>by_cases x:a < -5339940<;>by_cases u:c>5339940<;>simp [z,x,y,u,b2i]
      rw [e101,a49,e58,a50,a57];rfl
   have a104:=fin F;refine ⟨gT ?_,?_⟩
   . exact aA (fun _=>trivial) (aA (fun _=>P1) (aA (fun _=>P2) (gM)))
   . intro x hx0;have hx':=gP (v:=v) (by rfl) hx0
     rw [hx'];show Value.bool (decide (v 104≠0))=_;rw [a104];rfl
 . have a31:v 31=1:=by
    by_cases p1:(-5340000<=a/\a<=5340000)/\(-10800000<=b/\b<10800000)
    . have a30:v 30=1:=by
       have k25:v 25=b2i (decide (((c>=-5400000/\c<=5400000)/\d>=-10800000)/\d<10800000)):=by rw [e25,e23,e21,e19,e20,e22,e24,e2,e3,rG,rG,rG]
       refine Gv (Q:=c < -5340000) (R:=c>5340000) ?_ k25 (by rw [e27,e2]) (by rw [e29,e2]) e26 e28 e30
       omega
      rw [e31,a30];split<;>rfl
    . have a18:v 18=1:=by
       have k13:v 13=b2i (decide (((a>=-5400000/\a<=5400000)/\b>=-10800000)/\b<10800000)):=by rw [e13,e11,e9,e7,e8,e10,e12,e0,e1,rG,rG,rG]
       refine Gv (Q:=a < -5340000) (R:=a>5340000) ?_ k13 (by rw [e15,e0]) (by rw [e17,e0]) e14 e16 e18
       omega
      rw [e31,a18];rfl
   have a32:v 32=0:=by rw [e32,a31];rfl
   have a104:v 104=1:=by rw [e104,a5,e103,a31];rfl
   refine ⟨gT ?_,?_⟩
   . exact aA (fun _=>trivial) (aA (fun hp=>absurd a32 (bE hp).1) (aA (fun hp=>absurd a32 (bE (bE hp).2).1) (gM)))
   . intro x hx0;have hx':=gP (v:=v) (by rfl) hx0
     rw [hx'];show Value.bool (decide (v 104≠0))=_;rw [a104];rfl
