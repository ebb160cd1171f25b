/- The contracts of AtLongitude of both sides. -/
import Derived.Test.YtmldbeipmappnaaZGc
set_option linter.unusedVariables false
set_option linter.unusedSimpArgs false
set_option maxRecDepth 100000
set_option maxHeartbeats 8000000
namespace Go.Proofs.Ytmldbeipmappnaa
open Go.RowKit Alm Sx
theorem IQ (xl xh yl yh:Int):∀ k:Nat,((aQ xl xh yl yh k).1=xl∨(aQ xl xh yl yh k).1=xh)/\((aQ xl xh yl yh k).2=yl∨(aQ xl xh yl yh k).2=yh)
 | 0=>⟨.inl rfl,.inl rfl⟩
 | k+1=>by
  unfold aQ;split
  . exact LD xl xh yl yh k
  . exact IQ xl xh yl yh k
theorem FK {yl yh xl xh:Int} (hy:-2147483648<=yl/\yl<=yh/\yh<=2147483648) (hx:0<xl/\xl<=xh/\xh<=2147483648):(aV yl yh xl xh<=5400000∨16200000<=aV yl yh xl xh):=by
 unfold aV;split
 . exact .inl (by decide)
 . obtain ⟨a,b⟩:=IQ xl xh yl yh 4;generalize (aQ xl xh yl yh 4).1=x at *
   generalize (aQ xl xh yl yh 4).2=y at *
   have hx0:0<x:=by omega
   have d:=(mW x y (by omega) (by omega) (by omega)).1
   unfold aU qT
   by_cases q:0<=y
   . rw [if_pos ⟨hx0,q⟩];exact .inl (by omega)
   . rw [if_neg (by omega),if_neg (by omega),if_neg (by omega)];exact .inr (by omega)
def uT (t:Prop) [Decidable t] (p:IV):IV:=if t then uN p else p
def atX (a c e:Int):IV:=uM (uM (uC a a) (uC c c)) (uS e e)
def atY (a c u v:Int):IV:=uA (uM (uM (uS a a) (uC c c)) (uS u u)) (uM (uM (uS c c) (uC a a)) (uS v v))
def atL (L H:Int):Int:=max (if L>10800000 then L-21600000 else L) (-5400000)
def atH (L H:Int):Int:=min (if L>10800000 then H-21600000 else H) 5400000
def atB (a b c d n:Int):Int × Int :=
 let X:=atX a c (sgd (d-b));let Y:=atY a c (sgd (IntKind.i64.wrap (d-n))) (sgd (IntKind.i64.wrap (n-b)))
 (aV (uT (X.2<0) Y).1 (uT (X.2<0) Y).2 (uT (X.2<0) X).1 (uT (X.2<0) X).2,bI (uT (X.2<0) Y).1 (uT (X.2<0) Y).2 (uT (X.2<0) X).1 (uT (X.2<0) X).2)
abbrev atN (a b c d:Int):Prop:=(atX a c (sgd (d-b))).1<=0/\(atX a c (sgd (d-b))).2>=0
def atV (a b c d n:Int):List Int:=if atN a b c d then [0,0,21] else [atL (atB a b c d n).1 (atB a b c d n).2,atH (atB a b c d n).1 (atB a b c d n).2,0]
theorem Ba {x m c u r g s z:Int} (hm:m=Int.tmod x 21600000) (hc:c=b2i (decide (m<0))) (hu:u=IntKind.i64.wrap (m+21600000)) (hr:r=if c≠0 then u else m) (hg:g=b2i (decide (r>=10800000))) (hs:s=IntKind.i64.wrap (r-21600000)) (hz:z=if g≠0 then s else r):z=sgd x:=by
 have b1:=Int.tmod_lt_of_pos x (show (0:Int)<21600000 by omega)
 have b2:=Int.tmod_lt_of_pos (-x) (show (0:Int)<21600000 by omega)
 rw [Int.neg_tmod] at b2;rw [Go.IntWalk.i64_in _ (by omega)] at hu
 have er:r=x%21600000:=by
  rw [hr,hc];rcases Int.le_total 0 x with h|h
  . have e:x.tmod 21600000=x%21600000:=Int.tmod_eq_emod_of_nonneg h;rw [decide_eq_false (by omega),if_neg (by decide),hm,e]
  . have e:(-x).tmod 21600000=(-x)%21600000:=Int.tmod_eq_emod_of_nonneg (by omega)
    rw [Int.neg_tmod] at e
    by_cases g:m<0
    . rw [decide_eq_true g,if_pos (by decide),hu];omega
    . rw [decide_eq_false g,if_neg (by decide)];omega
 rw [Go.IntWalk.i64_in _ (by omega)] at hs
 rw [hz,hg,jk,hs,er];rfl
theorem acV {p:IV} (h:fxV p.1 p.2=true):fxV (uN p).1 (uN p).2=true:=by
 rw [cZ] at *
 unfold uN;simp only;omega
theorem Ez {x:Int} {p:Prop} [Decidable p] (h:x=b2i (decide p)):(p/\x=1)∨(¬ p/\x=0):=by
 by_cases q:p
 . exact .inl ⟨q,by rw [h,decide_eq_true q];rfl⟩
 . exact .inr ⟨q,by rw [h,decide_eq_false q];rfl⟩
def aR:List Nd:=[
 .arg 0,
 .arg 1,
 .arg 2,
 .arg 3,
 .arg 4,
 .bin .geq .i64 (.n 0) (.c (-5400000)),
 .bin .leq .i64 (.n 0) (.c 5400000),
 .ite (.n 5) (.n 6) (.c 0),
 .bin .geq .i64 (.n 1) (.c (-10800000)),
 .ite (.n 7) (.n 8) (.c 0),
 .bin .lss .i64 (.n 1) (.c 10800000),
 .ite (.n 9) (.n 10) (.c 0),
 .ite (.n 11) (.c 0) (.c 1),
 .bin .geq .i64 (.n 2) (.c (-5400000)),
 .bin .leq .i64 (.n 2) (.c 5400000),
 .ite (.n 13) (.n 14) (.c 0),
 .bin .geq .i64 (.n 3) (.c (-10800000)),
 .ite (.n 15) (.n 16) (.c 0),
 .bin .lss .i64 (.n 3) (.c 10800000),
 .ite (.n 17) (.n 18) (.c 0),
 .ite (.n 19) (.c 0) (.c 1),
 .ite (.n 12) (.c 1) (.n 20),
 .bin .lss .i64 (.n 4) (.c (-10800000)),
 .bin .gtr .i64 (.n 4) (.c 10800000),
 .ite (.n 22) (.c 1) (.n 23),
 .ite (.n 24) (.c 0) (.c 1),
 .ite (.n 21) (.c 0) (.c 1),
 .ite (.n 26) (.n 25) (.c 0),
 .ite (.n 26) (.n 24) (.c 0),
 .ite (.n 21) (.c 1) (.n 28),
 .ite (.n 21) (.c 1) (.c 2),
 .bin .sub .i64 (.n 3) (.n 4),
 .bin .rem .i64 (.n 31) (.c 21600000),
 .bin .lss .i64 (.n 32) (.c 0),
 .bin .add .i64 (.n 32) (.c 21600000),
 .ite (.n 33) (.c 0) (.c 1),
 .ite (.n 33) (.n 34) (.n 32),
 .bin .geq .i64 (.n 36) (.c 10800000),
 .bin .sub .i64 (.n 36) (.c 21600000),
 .ite (.n 37) (.c 0) (.c 1),
 .ite (.n 37) (.n 38) (.n 36),
 .bin .sub .i64 (.n 4) (.n 1),
 .bin .rem .i64 (.n 41) (.c 21600000),
 .bin .lss .i64 (.n 42) (.c 0),
 .bin .add .i64 (.n 42) (.c 21600000),
 .ite (.n 43) (.c 0) (.c 1),
 .ite (.n 43) (.n 44) (.n 42),
 .bin .geq .i64 (.n 46) (.c 10800000),
 .bin .sub .i64 (.n 46) (.c 21600000),
 .ite (.n 47) (.c 0) (.c 1),
 .ite (.n 47) (.n 48) (.n 46),
 .bin .sub .i64 (.n 3) (.n 1),
 .bin .rem .i64 (.n 51) (.c 21600000),
 .bin .lss .i64 (.n 52) (.c 0),
 .bin .add .i64 (.n 52) (.c 21600000),
 .ite (.n 53) (.c 0) (.c 1),
 .ite (.n 53) (.n 54) (.n 52),
 .bin .geq .i64 (.n 56) (.c 10800000),
 .bin .sub .i64 (.n 56) (.c 21600000),
 .ite (.n 57) (.c 0) (.c 1),
 .ite (.n 57) (.n 58) (.n 56),
 .app 5 0 [.n 0,.n 0],
 .app 5 1 [.n 0,.n 0],
 .app 5 2 [.n 0,.n 0],
 .app 6 0 [.n 0,.n 0],
 .app 6 1 [.n 0,.n 0],
 .app 6 2 [.n 0,.n 0],
 .bin .eql .i64 (.n 63) (.c 0),
 .ite (.n 67) (.c 0) (.c 1),
 .ite (.n 67) (.n 66) (.n 63),
 .app 5 0 [.n 2,.n 2],
 .app 5 1 [.n 2,.n 2],
 .app 5 2 [.n 2,.n 2],
 .bin .eql .i64 (.n 69) (.c 0),
 .ite (.n 73) (.c 0) (.c 1),
 .ite (.n 73) (.n 72) (.n 69),
 .app 6 0 [.n 2,.n 2],
 .app 6 1 [.n 2,.n 2],
 .app 6 2 [.n 2,.n 2],
 .bin .eql .i64 (.n 75) (.c 0),
 .ite (.n 79) (.c 0) (.c 1),
 .ite (.n 79) (.n 78) (.n 75),
 .app 0 0 [.n 61,.n 62,.n 76,.n 77],
 .app 0 1 [.n 61,.n 62,.n 76,.n 77],
 .app 0 2 [.n 61,.n 62,.n 76,.n 77],
 .bin .eql .i64 (.n 81) (.c 0),
 .ite (.n 85) (.c 0) (.c 1),
 .ite (.n 85) (.n 84) (.n 81),
 .app 5 0 [.n 40,.n 40],
 .app 5 1 [.n 40,.n 40],
 .app 5 2 [.n 40,.n 40],
 .bin .eql .i64 (.n 87) (.c 0),
 .ite (.n 91) (.c 0) (.c 1),
 .ite (.n 91) (.n 90) (.n 87),
 .app 0 0 [.n 82,.n 83,.n 88,.n 89],
 .app 0 1 [.n 82,.n 83,.n 88,.n 89],
 .app 0 2 [.n 82,.n 83,.n 88,.n 89],
 .bin .eql .i64 (.n 93) (.c 0),
 .ite (.n 97) (.c 0) (.c 1),
 .ite (.n 97) (.n 96) (.n 93),
 .app 0 0 [.n 70,.n 71,.n 64,.n 65],
 .app 0 1 [.n 70,.n 71,.n 64,.n 65],
 .app 0 2 [.n 70,.n 71,.n 64,.n 65],
 .bin .eql .i64 (.n 99) (.c 0),
 .ite (.n 103) (.c 0) (.c 1),
 .ite (.n 103) (.n 102) (.n 99),
 .app 5 0 [.n 50,.n 50],
 .app 5 1 [.n 50,.n 50],
 .app 5 2 [.n 50,.n 50],
 .bin .eql .i64 (.n 105) (.c 0),
 .ite (.n 109) (.c 0) (.c 1),
 .ite (.n 109) (.n 108) (.n 105),
 .app 0 0 [.n 100,.n 101,.n 106,.n 107],
 .app 0 1 [.n 100,.n 101,.n 106,.n 107],
 .app 0 2 [.n 100,.n 101,.n 106,.n 107],
 .bin .eql .i64 (.n 111) (.c 0),
 .ite (.n 115) (.c 0) (.c 1),
 .ite (.n 115) (.n 114) (.n 111),
 .app 1 0 [.n 94,.n 95,.n 112,.n 113],
 .app 1 1 [.n 94,.n 95,.n 112,.n 113],
 .app 1 2 [.n 94,.n 95,.n 112,.n 113],
 .bin .eql .i64 (.n 117) (.c 0),
 .ite (.n 121) (.c 0) (.c 1),
 .ite (.n 121) (.n 120) (.n 117),
 .app 0 0 [.n 64,.n 65,.n 76,.n 77],
 .app 0 1 [.n 64,.n 65,.n 76,.n 77],
 .app 0 2 [.n 64,.n 65,.n 76,.n 77],
 .bin .eql .i64 (.n 123) (.c 0),
 .ite (.n 127) (.c 0) (.c 1),
 .ite (.n 127) (.n 126) (.n 123),
 .app 5 0 [.n 60,.n 60],
 .app 5 1 [.n 60,.n 60],
 .app 5 2 [.n 60,.n 60],
 .bin .eql .i64 (.n 129) (.c 0),
 .ite (.n 133) (.c 0) (.c 1),
 .ite (.n 133) (.n 132) (.n 129),
 .app 0 0 [.n 124,.n 125,.n 130,.n 131],
 .app 0 1 [.n 124,.n 125,.n 130,.n 131],
 .app 0 2 [.n 124,.n 125,.n 130,.n 131],
 .bin .eql .i64 (.n 135) (.c 0),
 .ite (.n 139) (.c 0) (.c 1),
 .ite (.n 139) (.n 138) (.n 135),
 .bin .neq .i64 (.n 141) (.c 0),
 .ite (.n 142) (.c 0) (.c 1),
 .bin .leq .i64 (.n 136) (.c 0),
 .bin .geq .i64 (.n 137) (.c 0),
 .ite (.n 144) (.n 145) (.c 0),
 .ite (.n 146) (.c 0) (.c 1),
 .bin .lss .i64 (.n 137) (.c 0),
 .app 8 0 [.n 118,.n 119],
 .ite (.n 149) (.c 0) (.c 1),
 .ite (.n 150) (.c 0) (.c 1),
 .bin .sub .i64 (.c 0) (.n 119),
 .bin .sub .i64 (.c 0) (.n 118),
 .ite (.n 150) (.c 0) (.n 152),
 .ite (.n 150) (.c 0) (.n 153),
 .bin .eql .i64 (.n 141) (.c 0),
 .ite (.n 156) (.c 0) (.c 1),
 .ite (.n 156) (.n 150) (.n 141),
 .app 8 0 [.n 136,.n 137],
 .ite (.n 159) (.c 0) (.c 1),
 .ite (.n 160) (.c 0) (.c 1),
 .bin .sub .i64 (.c 0) (.n 137),
 .bin .sub .i64 (.c 0) (.n 136),
 .ite (.n 160) (.c 0) (.n 162),
 .ite (.n 160) (.c 0) (.n 163),
 .bin .eql .i64 (.n 158) (.c 0),
 .ite (.n 166) (.c 0) (.c 1),
 .ite (.n 166) (.n 160) (.n 158),
 .ite (.n 148) (.c 0) (.c 1),
 .ite (.n 148) (.n 164) (.n 136),
 .ite (.n 148) (.n 165) (.n 137),
 .ite (.n 148) (.n 154) (.n 118),
 .ite (.n 148) (.n 155) (.n 119),
 .ite (.n 148) (.n 168) (.n 141),
 .app 7 0 [.n 172,.n 173,.n 170,.n 171],
 .app 7 1 [.n 172,.n 173,.n 170,.n 171],
 .app 7 2 [.n 172,.n 173,.n 170,.n 171],
 .bin .eql .i64 (.n 174) (.c 0),
 .ite (.n 178) (.c 0) (.c 1),
 .ite (.n 178) (.n 177) (.n 174),
 .bin .gtr .i64 (.n 175) (.c 10800000),
 .bin .sub .i64 (.n 175) (.c 21600000),
 .bin .sub .i64 (.n 176) (.c 21600000),
 .ite (.n 181) (.c 0) (.c 1),
 .ite (.n 181) (.n 182) (.n 175),
 .ite (.n 181) (.n 183) (.n 176),
 .bin .leq .i64 (.n 185) (.n 186),
 .bin .geq .i64 (.n 185) (.c (-1099511627776)),
 .bin .leq .i64 (.n 185) (.c 1099511627776),
 .ite (.n 188) (.n 189) (.c 0),
 .ite (.n 187) (.n 190) (.c 0),
 .bin .geq .i64 (.n 186) (.c (-1099511627776)),
 .bin .leq .i64 (.n 186) (.c 1099511627776),
 .ite (.n 192) (.n 193) (.c 0),
 .ite (.n 191) (.n 194) (.c 0),
 .ite (.n 195) (.c 0) (.c 1),
 .mx (.n 185) (.c (-5400000)),
 .mn (.n 186) (.c 5400000),
 .bin .gtr .i64 (.n 197) (.n 198),
 .ite (.n 199) (.c 0) (.c 1),
 .ite (.n 199) (.c 23) (.c 0),
 .ite (.n 199) (.c 0) (.n 197),
 .ite (.n 199) (.c 0) (.n 198),
 .ite (.n 196) (.c 1) (.n 201),
 .ite (.n 196) (.c 0) (.n 202),
 .ite (.n 196) (.c 0) (.n 203),
 .bin .eql .i64 (.n 180) (.c 0),
 .ite (.n 207) (.c 0) (.c 1),
 .ite (.n 207) (.n 204) (.n 180),
 .bin .neq .i64 (.n 209) (.c 0),
 .ite (.n 210) (.c 0) (.c 1),
 .ite (.n 210) (.n 209) (.c 0),
 .ite (.n 210) (.c 0) (.n 205),
 .ite (.n 210) (.c 0) (.n 206),
 .ite (.n 146) (.c 21) (.n 212),
 .ite (.n 146) (.n 136) (.n 170),
 .ite (.n 146) (.n 137) (.n 171),
 .ite (.n 146) (.n 118) (.n 172),
 .ite (.n 146) (.n 119) (.n 173),
 .ite (.n 146) (.n 141) (.n 209),
 .ite (.n 146) (.c 0) (.n 213),
 .ite (.n 146) (.c 0) (.n 214),
 .ite (.n 142) (.n 141) (.n 215),
 .ite (.n 142) (.n 136) (.n 216),
 .ite (.n 142) (.n 137) (.n 217),
 .ite (.n 142) (.n 118) (.n 218),
 .ite (.n 142) (.n 119) (.n 219),
 .ite (.n 142) (.n 141) (.n 220),
 .ite (.n 142) (.c 0) (.n 221),
 .ite (.n 142) (.c 0) (.n 222),
 .ite (.n 29) (.c 1) (.n 27),
 .ite (.n 29) (.n 30) (.n 223),
 .ite (.n 29) (.c 0) (.n 229),
 .ite (.n 29) (.c 0) (.n 230)]
def QP:List Vc:=[
 ⟨[(.n 27,true)],.pre 5 [.n 0,.n 0]⟩,
 ⟨[(.n 27,true)],.pre 6 [.n 0,.n 0]⟩,
 ⟨[(.n 27,true)],.pre 5 [.n 2,.n 2]⟩,
 ⟨[(.n 27,true)],.pre 6 [.n 2,.n 2]⟩,
 ⟨[(.n 27,true)],.pre 0 [.n 61,.n 62,.n 76,.n 77]⟩,
 ⟨[(.n 27,true)],.pre 5 [.n 40,.n 40]⟩,
 ⟨[(.n 27,true)],.pre 0 [.n 82,.n 83,.n 88,.n 89]⟩,
 ⟨[(.n 27,true)],.pre 0 [.n 70,.n 71,.n 64,.n 65]⟩,
 ⟨[(.n 27,true)],.pre 5 [.n 50,.n 50]⟩,
 ⟨[(.n 27,true)],.pre 0 [.n 100,.n 101,.n 106,.n 107]⟩,
 ⟨[(.n 27,true)],.pre 1 [.n 94,.n 95,.n 112,.n 113]⟩,
 ⟨[(.n 27,true)],.pre 0 [.n 64,.n 65,.n 76,.n 77]⟩,
 ⟨[(.n 27,true)],.pre 5 [.n 60,.n 60]⟩,
 ⟨[(.n 27,true)],.pre 0 [.n 124,.n 125,.n 130,.n 131]⟩,
 ⟨[(.n 148,true),(.n 147,true),(.n 143,true),(.n 27,true)],.pre 8 [.n 118,.n 119]⟩,
 ⟨[(.n 148,true),(.n 147,true),(.n 143,true),(.n 27,true)],.pre 8 [.n 136,.n 137]⟩,
 ⟨[(.n 147,true),(.n 143,true),(.n 27,true)],.pre 7 [.n 172,.n 173,.n 170,.n 171]⟩]
theorem Bh:whole Try.prog spM 20 40 22 [(true,[some .i64,some .i64]),(true,[some .i64,some .i64]),(false,[some .i64])]=some (.tup [.agg [.int .i64 (.n 233),.int .i64 (.n 234)],.c (.int .i64 (.n 232))],⟨aR.reverse,QP.reverse⟩):=by kernel_rfl
theorem Be:wfN aR.reverse=true:=by kernel_rfl
theorem aa8 (a b c d n:Int) (w:World) (h1:PtV a b) (h2:PtV c d) (h3:-10800000<=n/\n<=10800000):Calls Try.prog 22 #[.agg #[.int .i64 a,.int .i64 b],.agg #[.int .i64 c,.int .i64 d],.int .i64 n] w fun e w'=>e=.returned (.tuple #[.agg #[.int .i64 ((atV a b c d n).getD 0 0),.int .i64 ((atV a b c d n).getD 1 0)],.int .i64 ((atV a b c d n).getD 2 0)])/\Below w.heap.size w w':=by
 refine Sx.calls (X:=cxM [a,b,c,d,n]) dX (oJ _) Bh Be (fun v hs=>?_) w
 have e0:v 0=a:=ae hs 0 rfl;have e1:v 1=b:=ae hs 1 rfl;have e2:v 2=c:=ae hs 2 rfl;have e3:v 3=d:=ae hs 3 rfl;have e4:v 4=n:=ae hs 4 rfl;have e31:v 31=IntKind.i64.wrap (v 3-v 4):=ae hs 31 rfl;have w31:v 31=IntKind.i64.wrap (d-n):=by rw [e31,e3,e4]
 have s40:v 40=sgd (IntKind.i64.wrap (d-n)):=by
  rw [<-w31];exact Ba (x:=v 31) (m:=v 32) (c:=v 33) (u:=v 34) (r:=v 36) (g:=v 37) (s:=v 38) (z:=v 40) (ae hs 32 rfl) (ae hs 33 rfl) (ae hs 34 rfl) (ae hs 36 rfl) (ae hs 37 rfl) (ae hs 38 rfl) (ae hs 40 rfl)
 have sb40:=lV (IntKind.i64.wrap (d-n));have e41:v 41=IntKind.i64.wrap (v 4-v 1):=ae hs 41 rfl;have w41:v 41=IntKind.i64.wrap (n-b):=by rw [e41,e4,e1]
 have s50:v 50=sgd (IntKind.i64.wrap (n-b)):=by
  rw [<-w41];exact Ba (x:=v 41) (m:=v 42) (c:=v 43) (u:=v 44) (r:=v 46) (g:=v 47) (s:=v 48) (z:=v 50) (ae hs 42 rfl) (ae hs 43 rfl) (ae hs 44 rfl) (ae hs 46 rfl) (ae hs 47 rfl) (ae hs 48 rfl) (ae hs 50 rfl)
 have sb50:=lV (IntKind.i64.wrap (n-b));have e51:v 51=IntKind.i64.wrap (v 3-v 1):=ae hs 51 rfl;have w51:v 51=d-b:=by rw [e51,e3,e1,Go.IntWalk.i64_in _ (by omega)]
 have s60:v 60=sgd (d-b):=by
  rw [<-w51];exact Ba (x:=v 51) (m:=v 52) (c:=v 53) (u:=v 54) (r:=v 56) (g:=v 57) (s:=v 58) (z:=v 60) (ae hs 52 rfl) (ae hs 53 rfl) (ae hs 54 rfl) (ae hs 56 rfl) (ae hs 57 rfl) (ae hs 58 rfl) (ae hs 60 rfl)
 have sb60:=lV (d-b);have e61:v 61=(aC 5 [v 0,v 0]).getD 0 0:=ae hs 61 rfl;have e62:v 62=(aC 5 [v 0,v 0]).getD 1 0:=ae hs 62 rfl;have P61:((v 61,v 62):IV)=uS (v 0) (v 0):=by rw [e61,e62];rfl
 have U61:U (v 61,v 62):=by rw [P61];exact U_S _ _
 have e64:v 64=(aC 6 [v 0,v 0]).getD 0 0:=ae hs 64 rfl;have e65:v 65=(aC 6 [v 0,v 0]).getD 1 0:=ae hs 65 rfl;have P64:((v 64,v 65):IV)=uC (v 0) (v 0):=by rw [e64,e65];rfl
 have U64:U (v 64,v 65):=by rw [P64];exact U_C _ _
 have e70:v 70=(aC 5 [v 2,v 2]).getD 0 0:=ae hs 70 rfl;have e71:v 71=(aC 5 [v 2,v 2]).getD 1 0:=ae hs 71 rfl;have P70:((v 70,v 71):IV)=uS (v 2) (v 2):=by rw [e70,e71];rfl
 have U70:U (v 70,v 71):=by rw [P70];exact U_S _ _
 have e76:v 76=(aC 6 [v 2,v 2]).getD 0 0:=ae hs 76 rfl;have e77:v 77=(aC 6 [v 2,v 2]).getD 1 0:=ae hs 77 rfl;have P76:((v 76,v 77):IV)=uC (v 2) (v 2):=by rw [e76,e77];rfl
 have U76:U (v 76,v 77):=by rw [P76];exact U_C _ _
 have e88:v 88=(aC 5 [v 40,v 40]).getD 0 0:=ae hs 88 rfl;have e89:v 89=(aC 5 [v 40,v 40]).getD 1 0:=ae hs 89 rfl;have P88:((v 88,v 89):IV)=uS (v 40) (v 40):=by rw [e88,e89];rfl
 have U88:U (v 88,v 89):=by rw [P88];exact U_S _ _
 have e106:v 106=(aC 5 [v 50,v 50]).getD 0 0:=ae hs 106 rfl;have e107:v 107=(aC 5 [v 50,v 50]).getD 1 0:=ae hs 107 rfl;have P106:((v 106,v 107):IV)=uS (v 50) (v 50):=by rw [e106,e107];rfl
 have U106:U (v 106,v 107):=by rw [P106];exact U_S _ _
 have e130:v 130=(aC 5 [v 60,v 60]).getD 0 0:=ae hs 130 rfl;have e131:v 131=(aC 5 [v 60,v 60]).getD 1 0:=ae hs 131 rfl;have P130:((v 130,v 131):IV)=uS (v 60) (v 60):=by rw [e130,e131];rfl
 have U130:U (v 130,v 131):=by rw [P130];exact U_S _ _
 have e82:v 82=(aC 0 [v 61,v 62,v 76,v 77]).getD 0 0:=ae hs 82 rfl;have e83:v 83=(aC 0 [v 61,v 62,v 76,v 77]).getD 1 0:=ae hs 83 rfl;have P82:((v 82,v 83):IV)=uM (v 61,v 62) (v 76,v 77):=by rw [e82,e83];rfl
 have U82:U (v 82,v 83):=by rw [P82];exact (U_M U61 U76).2.2
 have e84:v 84=(aC 0 [v 61,v 62,v 76,v 77]).getD 2 0:=ae hs 84 rfl;have E84:v 84=0:=e84.trans (U_M U61 U76).2.1;have e94:v 94=(aC 0 [v 82,v 83,v 88,v 89]).getD 0 0:=ae hs 94 rfl;have e95:v 95=(aC 0 [v 82,v 83,v 88,v 89]).getD 1 0:=ae hs 95 rfl;have P94:((v 94,v 95):IV)=uM (v 82,v 83) (v 88,v 89):=by rw [e94,e95];rfl
 have U94:U (v 94,v 95):=by rw [P94];exact (U_M U82 U88).2.2
 have e96:v 96=(aC 0 [v 82,v 83,v 88,v 89]).getD 2 0:=ae hs 96 rfl;have E96:v 96=0:=e96.trans (U_M U82 U88).2.1;have Rc:v 100=(aC 0 [v 70,v 71,v 64,v 65]).getD 0 0:=ae hs 100 rfl;have e101:v 101=(aC 0 [v 70,v 71,v 64,v 65]).getD 1 0:=ae hs 101 rfl;have P100:((v 100,v 101):IV)=uM (v 70,v 71) (v 64,v 65):=by rw [Rc,e101];rfl
 have U100:U (v 100,v 101):=by rw [P100];exact (U_M U70 U64).2.2
 have e102:v 102=(aC 0 [v 70,v 71,v 64,v 65]).getD 2 0:=ae hs 102 rfl;have E102:v 102=0:=e102.trans (U_M U70 U64).2.1;have e112:v 112=(aC 0 [v 100,v 101,v 106,v 107]).getD 0 0:=ae hs 112 rfl;have e113:v 113=(aC 0 [v 100,v 101,v 106,v 107]).getD 1 0:=ae hs 113 rfl;have P112:((v 112,v 113):IV)=uM (v 100,v 101) (v 106,v 107):=by rw [e112,e113];rfl
 have U112:U (v 112,v 113):=by rw [P112];exact (U_M U100 U106).2.2
 have e114:v 114=(aC 0 [v 100,v 101,v 106,v 107]).getD 2 0:=ae hs 114 rfl;have E114:v 114=0:=e114.trans (U_M U100 U106).2.1;have e118:v 118=(aC 1 [v 94,v 95,v 112,v 113]).getD 0 0:=ae hs 118 rfl;have e119:v 119=(aC 1 [v 94,v 95,v 112,v 113]).getD 1 0:=ae hs 119 rfl;have P118:((v 118,v 119):IV)=uA (v 94,v 95) (v 112,v 113):=by rw [e118,e119];rfl
 have F118:fxV (v 118) (v 119)=true:=by have:=(U_A U94 U112).2.2;rw [<-P118] at this;exact this
 have e120:v 120=(aC 1 [v 94,v 95,v 112,v 113]).getD 2 0:=ae hs 120 rfl;have E120:v 120=0:=e120.trans (U_A U94 U112).2.1;have e124:v 124=(aC 0 [v 64,v 65,v 76,v 77]).getD 0 0:=ae hs 124 rfl;have e125:v 125=(aC 0 [v 64,v 65,v 76,v 77]).getD 1 0:=ae hs 125 rfl;have P124:((v 124,v 125):IV)=uM (v 64,v 65) (v 76,v 77):=by rw [e124,e125];rfl
 have U124:U (v 124,v 125):=by rw [P124];exact (U_M U64 U76).2.2
 have e126:v 126=(aC 0 [v 64,v 65,v 76,v 77]).getD 2 0:=ae hs 126 rfl;have E126:v 126=0:=e126.trans (U_M U64 U76).2.1;have e136:v 136=(aC 0 [v 124,v 125,v 130,v 131]).getD 0 0:=ae hs 136 rfl;have e137:v 137=(aC 0 [v 124,v 125,v 130,v 131]).getD 1 0:=ae hs 137 rfl;have P136:((v 136,v 137):IV)=uM (v 124,v 125) (v 130,v 131):=by rw [e136,e137];rfl
 have U136:U (v 136,v 137):=by rw [P136];exact (U_M U124 U130).2.2
 have e138:v 138=(aC 0 [v 124,v 125,v 130,v 131]).getD 2 0:=ae hs 138 rfl;have E138:v 138=0:=e138.trans (U_M U124 U130).2.1;have PX:((v 136,v 137):IV)=atX a c (sgd (d-b)):=by rw [P136,P124,P64,P76,P130,s60,e0,e2];rfl
 have PY:((v 118,v 119):IV)=atY a c (sgd (IntKind.i64.wrap (d-n))) (sgd (IntKind.i64.wrap (n-b))):=by rw [P118,P94,P112,P82,P100,P61,P76,P70,P64,P88,P106,s40,s50,e0,e2];rfl
 have x0:v 136=(atX a c (sgd (d-b))).1:=congrArg Prod.fst PX;have x1:v 137=(atX a c (sgd (d-b))).2:=congrArg Prod.snd PX;have ux:=U136;unfold U at ux;simp only at ux;have fy:=(cZ _ _).1 F118;clear e31 e41 e51 e61 e62 e64 e65 e70 e71 e76 e77 e82 e83 e84 e88 e89 e94 e95 e96 Rc e101 e102 e106 e107 e112 e113 e114 e118 e119 e120 e124 e125 e126 e130 e131 e136 e137 e138;clear w31 w41 w51;have e5:v 5=b2i (decide (v 0>=(-5400000:Int))):=ae hs 5 rfl;have e6:v 6=b2i (decide (v 0<=(5400000:Int))):=ae hs 6 rfl;have e7:v 7=if v 5≠0 then v 6 else (0:Int):=ae hs 7 rfl
 have e8:v 8=b2i (decide (v 1>=(-10800000:Int))):=ae hs 8 rfl;have e9:v 9=if v 7≠0 then v 8 else (0:Int):=ae hs 9 rfl
 have e10:v 10=b2i (decide (v 1<(10800000:Int))):=ae hs 10 rfl;have e11:v 11=if v 9≠0 then v 10 else (0:Int):=ae hs 11 rfl
 have e13:v 13=b2i (decide (v 2>=(-5400000:Int))):=ae hs 13 rfl;have e14:v 14=b2i (decide (v 2<=(5400000:Int))):=ae hs 14 rfl;have e15:v 15=if v 13≠0 then v 14 else (0:Int):=ae hs 15 rfl
 have e16:v 16=b2i (decide (v 3>=(-10800000:Int))):=ae hs 16 rfl;have e17:v 17=if v 15≠0 then v 16 else (0:Int):=ae hs 17 rfl
 have e18:v 18=b2i (decide (v 3<(10800000:Int))):=ae hs 18 rfl;have e19:v 19=if v 17≠0 then v 18 else (0:Int):=ae hs 19 rfl
 have e22:v 22=b2i (decide (v 4<(-10800000:Int))):=ae hs 22 rfl;have e23:v 23=b2i (decide (v 4>(10800000:Int))):=ae hs 23 rfl;have e144:v 144=b2i (decide (v 136<=(0:Int))):=ae hs 144 rfl;have e145:v 145=b2i (decide (v 137>=(0:Int))):=ae hs 145 rfl;have e146:v 146=if v 144≠0 then v 145 else (0:Int):=ae hs 146 rfl
 have e148:v 148=b2i (decide (v 137<(0:Int))):=ae hs 148 rfl;have e149:v 149=b2i (fxV (v 118) (v 119)):=ae hs 149 rfl;have e152:v 152=IntKind.i64.wrap ((0:Int)-v 119):=ae hs 152 rfl;have e153:v 153=IntKind.i64.wrap ((0:Int)-v 118):=ae hs 153 rfl;have e159:v 159=b2i (fxV (v 136) (v 137)):=ae hs 159 rfl;have e162:v 162=IntKind.i64.wrap ((0:Int)-v 137):=ae hs 162 rfl;have e163:v 163=IntKind.i64.wrap ((0:Int)-v 136):=ae hs 163 rfl;have e175:v 175=(aC 7 [v 172,v 173,v 170,v 171]).getD 0 0:=ae hs 175 rfl;have e176:v 176=(aC 7 [v 172,v 173,v 170,v 171]).getD 1 0:=ae hs 176 rfl;have e181:v 181=b2i (decide (v 175>(10800000:Int))):=ae hs 181 rfl;have e182:v 182=IntKind.i64.wrap (v 175-(21600000:Int)):=ae hs 182 rfl;have e183:v 183=IntKind.i64.wrap (v 176-(21600000:Int)):=ae hs 183 rfl;have e197:v 197=if (-5400000:Int)>v 185 then (-5400000:Int) else v 185:=ae hs 197 rfl
 have e198:v 198=if (5400000:Int)<v 186 then (5400000:Int) else v 186:=ae hs 198 rfl
 have e199:v 199=b2i (decide (v 197>v 198)):=ae hs 199 rfl;have e187:v 187=b2i (decide (v 185<=v 186)):=ae hs 187 rfl;have e188:v 188=b2i (decide (v 185>=(-1099511627776:Int))):=ae hs 188 rfl;have e189:v 189=b2i (decide (v 185<=(1099511627776:Int))):=ae hs 189 rfl;have e190:v 190=if v 188≠0 then v 189 else (0:Int):=ae hs 190 rfl
 have e191:v 191=if v 187≠0 then v 190 else (0:Int):=ae hs 191 rfl
 have e192:v 192=b2i (decide (v 186>=(-1099511627776:Int))):=ae hs 192 rfl;have e193:v 193=b2i (decide (v 186<=(1099511627776:Int))):=ae hs 193 rfl;have e194:v 194=if v 192≠0 then v 193 else (0:Int):=ae hs 194 rfl
 have e195:v 195=if v 191≠0 then v 194 else (0:Int):=ae hs 195 rfl
 have A11:v 11=1:=by rw [e11,e9,e7,e5,e6,e8,e10,bb2,bb2,bb2,e0,e1,decide_eq_true (by omega)];rfl
 have A19:v 19=1:=by rw [e19,e17,e15,e13,e14,e16,e18,bb2,bb2,bb2,e2,e3,decide_eq_true (by omega)];rfl
 have A22:v 22=0:=by rw [e22,e4,decide_eq_false (by omega)];rfl
 have A23:v 23=0:=by rw [e23,e4,decide_eq_false (by omega)];rfl
 have A149:v 149=1:=by rw [e149,F118];rfl
 have A159:v 159=1:=by rw [e159,show fxV (v 136) (v 137)=true from cz U136];rfl
 have Q146:v 146=b2i (decide (v 136<=0/\v 137>=0)):=by rw [e146,e144,e145,bb2]
 have w152:v 152=-v 119:=by rw [e152,Go.IntWalk.i64_in _ (by omega)];omega
 have w153:v 153=-v 118:=by rw [e153,Go.IntWalk.i64_in _ (by omega)];omega
 have w162:v 162=-v 137:=by rw [e162,Go.IntWalk.i64_in _ (by omega)];omega
 have w163:v 163=-v 136:=by rw [e163,Go.IntWalk.i64_in _ (by omega)];omega
 clear e1 e3 e4 e5 e6 e7 e8 e9 e10 e11 e13 e14 e15 e16 e17 e18 e19 e22 e23 e144 e145 e146 e149 e152 e153 e159 e162 e163;have SG:(v 137<0/\v 148=1)∨(¬ v 137<0/\v 148=0):=Ez e148
 have BX:(v 172,v 173,v 170,v 171)=((uT (v 137<0) (v 118,v 119)).1,(uT (v 137<0) (v 118,v 119)).2,(uT (v 137<0) (v 136,v 137)).1,(uT (v 137<0) (v 136,v 137)).2):=by
  rcases SG with ⟨g,u⟩|⟨g,u⟩
  . have z172:v 172=v 152:=aB (X:=cxM [a,b,c,d,n]) (v:=v) (l:=aR) (aF _) hs (k:=172) (j:=152) (ps:=[(11,.c 1),(19,.c 1),(22,.c 0),(23,.c 0),(84,.c 0),(96,.c 0),(102,.c 0),(114,.c 0),(120,.c 0),(126,.c 0),(138,.c 0),(148,.c 1),(149,.c 1),(159,.c 1)]) (aa A11 (aa A19 (aa A22 (aa A23 (aa E84 (aa E96 (aa E102 (aa E114 (aa E120 (aa E126 (aa E138 (aa u (aa A149 (aa A159 aj)))))))))))))) (by kernel_rfl)
    have z173:v 173=v 153:=aB (X:=cxM [a,b,c,d,n]) (v:=v) (l:=aR) (aF _) hs (k:=173) (j:=153) (ps:=[(11,.c 1),(19,.c 1),(22,.c 0),(23,.c 0),(84,.c 0),(96,.c 0),(102,.c 0),(114,.c 0),(120,.c 0),(126,.c 0),(138,.c 0),(148,.c 1),(149,.c 1),(159,.c 1)]) (aa A11 (aa A19 (aa A22 (aa A23 (aa E84 (aa E96 (aa E102 (aa E114 (aa E120 (aa E126 (aa E138 (aa u (aa A149 (aa A159 aj)))))))))))))) (by kernel_rfl)
    have z170:v 170=v 162:=aB (X:=cxM [a,b,c,d,n]) (v:=v) (l:=aR) (aF _) hs (k:=170) (j:=162) (ps:=[(11,.c 1),(19,.c 1),(22,.c 0),(23,.c 0),(84,.c 0),(96,.c 0),(102,.c 0),(114,.c 0),(120,.c 0),(126,.c 0),(138,.c 0),(148,.c 1),(149,.c 1),(159,.c 1)]) (aa A11 (aa A19 (aa A22 (aa A23 (aa E84 (aa E96 (aa E102 (aa E114 (aa E120 (aa E126 (aa E138 (aa u (aa A149 (aa A159 aj)))))))))))))) (by kernel_rfl)
    have z171:v 171=v 163:=aB (X:=cxM [a,b,c,d,n]) (v:=v) (l:=aR) (aF _) hs (k:=171) (j:=163) (ps:=[(11,.c 1),(19,.c 1),(22,.c 0),(23,.c 0),(84,.c 0),(96,.c 0),(102,.c 0),(114,.c 0),(120,.c 0),(126,.c 0),(138,.c 0),(148,.c 1),(149,.c 1),(159,.c 1)]) (aa A11 (aa A19 (aa A22 (aa A23 (aa E84 (aa E96 (aa E102 (aa E114 (aa E120 (aa E126 (aa E138 (aa u (aa A149 (aa A159 aj)))))))))))))) (by kernel_rfl)
    unfold uT;rw [if_pos g,if_pos g,z172,z173,z170,z171,w152,w153,w162,w163];rfl
  . have z172:v 172=v 118:=aB (X:=cxM [a,b,c,d,n]) (v:=v) (l:=aR) (aF _) hs (k:=172) (j:=118) (ps:=[(11,.c 1),(19,.c 1),(22,.c 0),(23,.c 0),(84,.c 0),(96,.c 0),(102,.c 0),(114,.c 0),(120,.c 0),(126,.c 0),(138,.c 0),(148,.c 0),(149,.c 1),(159,.c 1)]) (aa A11 (aa A19 (aa A22 (aa A23 (aa E84 (aa E96 (aa E102 (aa E114 (aa E120 (aa E126 (aa E138 (aa u (aa A149 (aa A159 aj)))))))))))))) (by kernel_rfl)
    have z173:v 173=v 119:=aB (X:=cxM [a,b,c,d,n]) (v:=v) (l:=aR) (aF _) hs (k:=173) (j:=119) (ps:=[(11,.c 1),(19,.c 1),(22,.c 0),(23,.c 0),(84,.c 0),(96,.c 0),(102,.c 0),(114,.c 0),(120,.c 0),(126,.c 0),(138,.c 0),(148,.c 0),(149,.c 1),(159,.c 1)]) (aa A11 (aa A19 (aa A22 (aa A23 (aa E84 (aa E96 (aa E102 (aa E114 (aa E120 (aa E126 (aa E138 (aa u (aa A149 (aa A159 aj)))))))))))))) (by kernel_rfl)
    have z170:v 170=v 136:=aB (X:=cxM [a,b,c,d,n]) (v:=v) (l:=aR) (aF _) hs (k:=170) (j:=136) (ps:=[(11,.c 1),(19,.c 1),(22,.c 0),(23,.c 0),(84,.c 0),(96,.c 0),(102,.c 0),(114,.c 0),(120,.c 0),(126,.c 0),(138,.c 0),(148,.c 0),(149,.c 1),(159,.c 1)]) (aa A11 (aa A19 (aa A22 (aa A23 (aa E84 (aa E96 (aa E102 (aa E114 (aa E120 (aa E126 (aa E138 (aa u (aa A149 (aa A159 aj)))))))))))))) (by kernel_rfl)
    have z171:v 171=v 137:=aB (X:=cxM [a,b,c,d,n]) (v:=v) (l:=aR) (aF _) hs (k:=171) (j:=137) (ps:=[(11,.c 1),(19,.c 1),(22,.c 0),(23,.c 0),(84,.c 0),(96,.c 0),(102,.c 0),(114,.c 0),(120,.c 0),(126,.c 0),(138,.c 0),(148,.c 0),(149,.c 1),(159,.c 1)]) (aa A11 (aa A19 (aa A22 (aa A23 (aa E84 (aa E96 (aa E102 (aa E114 (aa E120 (aa E126 (aa E138 (aa u (aa A149 (aa A159 aj)))))))))))))) (by kernel_rfl)
    unfold uT;rw [if_neg g,if_neg g,z172,z173,z170,z171]
 have b0:=congrArg Prod.fst BX;have b1:=congrArg (fun x:Int × Int × Int × Int=>x.2.1) BX
 have b2:=congrArg (fun x:Int × Int × Int × Int=>x.2.2.1) BX
 have b3:=congrArg (fun x:Int × Int × Int × Int=>x.2.2.2) BX
 simp only at b0 b1 b2 b3
 have FB:fxV (v 172) (v 173)=true:=by
  rw [b0,b1];unfold uT;split
  . exact acV F118
  . exact F118
 have GB:fxV (v 170) (v 171)=true:=by
  rw [b2,b3];unfold uT;split
  . exact acV (p:=(v 136,v 137)) (cz U136)
  . exact cz U136
 have B0:v 175=aV (v 172) (v 173) (v 170) (v 171):=e175;have B1:v 176=bI (v 172) (v 173) (v 170) (v 171):=e176;have BB:=iT (v 172) (v 173) (v 170) (v 171);rw [<-B0,<-B1] at BB;have W0:v 175=(atB a b c d n).1:=by rw [B0,b0,b1,b2,b3,PX,PY,x1];rfl
 have W1:v 176=(atB a b c d n).2:=by rw [B1,b0,b1,b2,b3,PX,PY,x1];rfl
 refine ⟨bO ?_,?_⟩
 . exact ag (fun _=>(show cu (v 0) (v 0)=true from dK (by rw [e0];omega))) (ag (fun _=>(show cu (v 0) (v 0)=true from dK (by rw [e0];omega))) (ag (fun _=>(show cu (v 2) (v 2)=true from dK (by rw [e2];omega))) (ag (fun _=>(show cu (v 2) (v 2)=true from dK (by rw [e2];omega))) (ag (fun _=>⟨cz U61,cz U76⟩) (ag (fun _=>(show cu (v 40) (v 40)=true from dK (by rw [s40];omega))) (ag (fun _=>⟨cz U82,cz U88⟩) (ag (fun _=>⟨cz U70,cz U64⟩) (ag (fun _=>(show cu (v 50) (v 50)=true from dK (by rw [s50];omega))) (ag (fun _=>⟨cz U100,cz U106⟩) (ag (fun _=>⟨cz U94,cz U112⟩) (ag (fun _=>⟨cz U64,cz U76⟩) (ag (fun _=>(show cu (v 60) (v 60)=true from dK (by rw [s60];omega))) (ag (fun _=>⟨cz U124,cz U130⟩) (ag (fun _=>trivial) (ag (fun _=>trivial) (ag (fun _=>⟨FB,GB⟩) (bN)))))))))))))))))
 . intro x hx0;have hx':=dL (v:=v) (by rfl) hx0
   rw [hx'];show Value.tuple #[.agg #[.int .i64 (v 233),.int .i64 (v 234)],.int .i64 (v 232)]=_;rcases Ez Q146 with ⟨g,u⟩|⟨g,u⟩
   . have z233:v 233=0:=ak (X:=cxM [a,b,c,d,n]) (v:=v) (l:=aR) (aF _) hs (k:=233) (r:=.c 0) (ps:=[(11,.c 1),(19,.c 1),(22,.c 0),(23,.c 0),(84,.c 0),(96,.c 0),(102,.c 0),(114,.c 0),(120,.c 0),(126,.c 0),(138,.c 0),(146,.c 1),(149,.c 1),(159,.c 1)]) (nz:=[]) (aa A11 (aa A19 (aa A22 (aa A23 (aa E84 (aa E96 (aa E102 (aa E114 (aa E120 (aa E126 (aa E138 (aa u (aa A149 (aa A159 aj)))))))))))))) az (by kernel_rfl)
     have z234:v 234=0:=ak (X:=cxM [a,b,c,d,n]) (v:=v) (l:=aR) (aF _) hs (k:=234) (r:=.c 0) (ps:=[(11,.c 1),(19,.c 1),(22,.c 0),(23,.c 0),(84,.c 0),(96,.c 0),(102,.c 0),(114,.c 0),(120,.c 0),(126,.c 0),(138,.c 0),(146,.c 1),(149,.c 1),(159,.c 1)]) (nz:=[]) (aa A11 (aa A19 (aa A22 (aa A23 (aa E84 (aa E96 (aa E102 (aa E114 (aa E120 (aa E126 (aa E138 (aa u (aa A149 (aa A159 aj)))))))))))))) az (by kernel_rfl)
     have z232:v 232=21:=ak (X:=cxM [a,b,c,d,n]) (v:=v) (l:=aR) (aF _) hs (k:=232) (r:=.c 21) (ps:=[(11,.c 1),(19,.c 1),(22,.c 0),(23,.c 0),(84,.c 0),(96,.c 0),(102,.c 0),(114,.c 0),(120,.c 0),(126,.c 0),(138,.c 0),(146,.c 1),(149,.c 1),(159,.c 1)]) (nz:=[]) (aa A11 (aa A19 (aa A22 (aa A23 (aa E84 (aa E96 (aa E102 (aa E114 (aa E120 (aa E126 (aa E138 (aa u (aa A149 (aa A159 aj)))))))))))))) az (by kernel_rfl)
     have V:atV a b c d n=[0,0,21]:=if_pos (by unfold atN;rw [<-x0,<-x1];exact g)
     rw [z232,z233,z234,V];rfl
   . have N:v 175<=5400000∨16200000<=v 175:=by
      rw [B0];have g1:=(cZ _ _).1 FB;have g2:=(cZ _ _).1 GB;refine FK g1 ⟨?_,g2.2⟩;rw [b2];unfold uT;split
      . show 0 < -v 137;omega
      . show 0<v 136;omega
     have w182:v 182=v 175-21600000:=by rw [e182,Go.IntWalk.i64_in _ (by omega)]
     have w183:v 183=v 176-21600000:=by rw [e183,Go.IntWalk.i64_in _ (by omega)]
     have V:atV a b c d n=[atL (v 175) (v 176),atH (v 175) (v 176),0]:=by
      rw [W0,W1];exact if_neg (by unfold atN;rw [<-x0,<-x1];exact g)
     rcases Ez e181 with ⟨g5,u5⟩|⟨g5,u5⟩
     . have z185:v 185=v 182:=aB (X:=cxM [a,b,c,d,n]) (v:=v) (l:=aR) (aF _) hs (k:=185) (j:=182) (ps:=[(11,.c 1),(19,.c 1),(22,.c 0),(23,.c 0),(84,.c 0),(96,.c 0),(102,.c 0),(114,.c 0),(120,.c 0),(126,.c 0),(138,.c 0),(146,.c 0),(149,.c 1),(159,.c 1),(181,.c 1)]) (aa A11 (aa A19 (aa A22 (aa A23 (aa E84 (aa E96 (aa E102 (aa E114 (aa E120 (aa E126 (aa E138 (aa u (aa A149 (aa A159 (aa u5 aj))))))))))))))) (by kernel_rfl)
       have z186:v 186=v 183:=aB (X:=cxM [a,b,c,d,n]) (v:=v) (l:=aR) (aF _) hs (k:=186) (j:=183) (ps:=[(11,.c 1),(19,.c 1),(22,.c 0),(23,.c 0),(84,.c 0),(96,.c 0),(102,.c 0),(114,.c 0),(120,.c 0),(126,.c 0),(138,.c 0),(146,.c 0),(149,.c 1),(159,.c 1),(181,.c 1)]) (aa A11 (aa A19 (aa A22 (aa A23 (aa E84 (aa E96 (aa E102 (aa E114 (aa E120 (aa E126 (aa E138 (aa u (aa A149 (aa A159 (aa u5 aj))))))))))))))) (by kernel_rfl)
       have l5:v 185=v 175-21600000:=z185.trans w182;have l6:v 186=v 176-21600000:=z186.trans w183;have A195:v 195=1:=by rw [e195,e191,e187,e190,e188,e189,e194,e192,e193,fE,(cK _ _).2 (by omega)];rfl
       have m7:v 197=atL (v 175) (v 176):=by rw [e197,l5];unfold atL;rw [if_pos g5];omega
       have m8:v 198=atH (v 175) (v 176):=by rw [e198,l6];unfold atH;rw [if_pos g5];omega
       have A199:v 199=0:=by
        have h7:v 197=max (v 185) (-5400000):=by rw [e197];omega
        have h8:v 198=min (v 186) 5400000:=by rw [e198];omega
        rw [e199,decide_eq_false (by omega)];rfl
       rcases SG with ⟨g9,u9⟩|⟨g9,u9⟩
       . have z233:v 233=v 197:=aB (X:=cxM [a,b,c,d,n]) (v:=v) (l:=aR) (aF _) hs (k:=233) (j:=197) (ps:=[(11,.c 1),(19,.c 1),(22,.c 0),(23,.c 0),(84,.c 0),(96,.c 0),(102,.c 0),(114,.c 0),(120,.c 0),(126,.c 0),(138,.c 0),(146,.c 0),(148,.c 1),(149,.c 1),(159,.c 1),(181,.c 1),(195,.c 1),(199,.c 0)]) (aa A11 (aa A19 (aa A22 (aa A23 (aa E84 (aa E96 (aa E102 (aa E114 (aa E120 (aa E126 (aa E138 (aa u (aa u9 (aa A149 (aa A159 (aa u5 (aa A195 (aa A199 aj)))))))))))))))))) (by kernel_rfl)
         have z234:v 234=v 198:=aB (X:=cxM [a,b,c,d,n]) (v:=v) (l:=aR) (aF _) hs (k:=234) (j:=198) (ps:=[(11,.c 1),(19,.c 1),(22,.c 0),(23,.c 0),(84,.c 0),(96,.c 0),(102,.c 0),(114,.c 0),(120,.c 0),(126,.c 0),(138,.c 0),(146,.c 0),(148,.c 1),(149,.c 1),(159,.c 1),(181,.c 1),(195,.c 1),(199,.c 0)]) (aa A11 (aa A19 (aa A22 (aa A23 (aa E84 (aa E96 (aa E102 (aa E114 (aa E120 (aa E126 (aa E138 (aa u (aa u9 (aa A149 (aa A159 (aa u5 (aa A195 (aa A199 aj)))))))))))))))))) (by kernel_rfl)
         have z232:v 232=0:=ak (X:=cxM [a,b,c,d,n]) (v:=v) (l:=aR) (aF _) hs (k:=232) (r:=.c 0) (ps:=[(11,.c 1),(19,.c 1),(22,.c 0),(23,.c 0),(84,.c 0),(96,.c 0),(102,.c 0),(114,.c 0),(120,.c 0),(126,.c 0),(138,.c 0),(146,.c 0),(148,.c 1),(149,.c 1),(159,.c 1),(181,.c 1),(195,.c 1),(199,.c 0)]) (nz:=[]) (aa A11 (aa A19 (aa A22 (aa A23 (aa E84 (aa E96 (aa E102 (aa E114 (aa E120 (aa E126 (aa E138 (aa u (aa u9 (aa A149 (aa A159 (aa u5 (aa A195 (aa A199 aj)))))))))))))))))) az (by kernel_rfl)
         rw [z232,z233,z234,V,m7,m8];rfl
       . have z233:v 233=v 197:=aB (X:=cxM [a,b,c,d,n]) (v:=v) (l:=aR) (aF _) hs (k:=233) (j:=197) (ps:=[(11,.c 1),(19,.c 1),(22,.c 0),(23,.c 0),(84,.c 0),(96,.c 0),(102,.c 0),(114,.c 0),(120,.c 0),(126,.c 0),(138,.c 0),(146,.c 0),(148,.c 0),(149,.c 1),(159,.c 1),(181,.c 1),(195,.c 1),(199,.c 0)]) (aa A11 (aa A19 (aa A22 (aa A23 (aa E84 (aa E96 (aa E102 (aa E114 (aa E120 (aa E126 (aa E138 (aa u (aa u9 (aa A149 (aa A159 (aa u5 (aa A195 (aa A199 aj)))))))))))))))))) (by kernel_rfl)
         have z234:v 234=v 198:=aB (X:=cxM [a,b,c,d,n]) (v:=v) (l:=aR) (aF _) hs (k:=234) (j:=198) (ps:=[(11,.c 1),(19,.c 1),(22,.c 0),(23,.c 0),(84,.c 0),(96,.c 0),(102,.c 0),(114,.c 0),(120,.c 0),(126,.c 0),(138,.c 0),(146,.c 0),(148,.c 0),(149,.c 1),(159,.c 1),(181,.c 1),(195,.c 1),(199,.c 0)]) (aa A11 (aa A19 (aa A22 (aa A23 (aa E84 (aa E96 (aa E102 (aa E114 (aa E120 (aa E126 (aa E138 (aa u (aa u9 (aa A149 (aa A159 (aa u5 (aa A195 (aa A199 aj)))))))))))))))))) (by kernel_rfl)
         have z232:v 232=0:=ak (X:=cxM [a,b,c,d,n]) (v:=v) (l:=aR) (aF _) hs (k:=232) (r:=.c 0) (ps:=[(11,.c 1),(19,.c 1),(22,.c 0),(23,.c 0),(84,.c 0),(96,.c 0),(102,.c 0),(114,.c 0),(120,.c 0),(126,.c 0),(138,.c 0),(146,.c 0),(148,.c 0),(149,.c 1),(159,.c 1),(181,.c 1),(195,.c 1),(199,.c 0)]) (nz:=[]) (aa A11 (aa A19 (aa A22 (aa A23 (aa E84 (aa E96 (aa E102 (aa E114 (aa E120 (aa E126 (aa E138 (aa u (aa u9 (aa A149 (aa A159 (aa u5 (aa A195 (aa A199 aj)))))))))))))))))) az (by kernel_rfl)
         rw [z232,z233,z234,V,m7,m8];rfl
     . have z185:v 185=v 175:=aB (X:=cxM [a,b,c,d,n]) (v:=v) (l:=aR) (aF _) hs (k:=185) (j:=175) (ps:=[(11,.c 1),(19,.c 1),(22,.c 0),(23,.c 0),(84,.c 0),(96,.c 0),(102,.c 0),(114,.c 0),(120,.c 0),(126,.c 0),(138,.c 0),(146,.c 0),(149,.c 1),(159,.c 1),(181,.c 0)]) (aa A11 (aa A19 (aa A22 (aa A23 (aa E84 (aa E96 (aa E102 (aa E114 (aa E120 (aa E126 (aa E138 (aa u (aa A149 (aa A159 (aa u5 aj))))))))))))))) (by kernel_rfl)
       have z186:v 186=v 176:=aB (X:=cxM [a,b,c,d,n]) (v:=v) (l:=aR) (aF _) hs (k:=186) (j:=176) (ps:=[(11,.c 1),(19,.c 1),(22,.c 0),(23,.c 0),(84,.c 0),(96,.c 0),(102,.c 0),(114,.c 0),(120,.c 0),(126,.c 0),(138,.c 0),(146,.c 0),(149,.c 1),(159,.c 1),(181,.c 0)]) (aa A11 (aa A19 (aa A22 (aa A23 (aa E84 (aa E96 (aa E102 (aa E114 (aa E120 (aa E126 (aa E138 (aa u (aa A149 (aa A159 (aa u5 aj))))))))))))))) (by kernel_rfl)
       have l5:v 185=v 175:=z185;have l6:v 186=v 176:=z186;have A195:v 195=1:=by rw [e195,e191,e187,e190,e188,e189,e194,e192,e193,fE,(cK _ _).2 (by omega)];rfl
       have m7:v 197=atL (v 175) (v 176):=by rw [e197,l5];unfold atL;rw [if_neg g5];omega
       have m8:v 198=atH (v 175) (v 176):=by rw [e198,l6];unfold atH;rw [if_neg g5];omega
       have A199:v 199=0:=by
        have h7:v 197=max (v 185) (-5400000):=by rw [e197];omega
        have h8:v 198=min (v 186) 5400000:=by rw [e198];omega
        rw [e199,decide_eq_false (by omega)];rfl
       rcases SG with ⟨g9,u9⟩|⟨g9,u9⟩
       . have z233:v 233=v 197:=aB (X:=cxM [a,b,c,d,n]) (v:=v) (l:=aR) (aF _) hs (k:=233) (j:=197) (ps:=[(11,.c 1),(19,.c 1),(22,.c 0),(23,.c 0),(84,.c 0),(96,.c 0),(102,.c 0),(114,.c 0),(120,.c 0),(126,.c 0),(138,.c 0),(146,.c 0),(148,.c 1),(149,.c 1),(159,.c 1),(181,.c 0),(195,.c 1),(199,.c 0)]) (aa A11 (aa A19 (aa A22 (aa A23 (aa E84 (aa E96 (aa E102 (aa E114 (aa E120 (aa E126 (aa E138 (aa u (aa u9 (aa A149 (aa A159 (aa u5 (aa A195 (aa A199 aj)))))))))))))))))) (by kernel_rfl)
         have z234:v 234=v 198:=aB (X:=cxM [a,b,c,d,n]) (v:=v) (l:=aR) (aF _) hs (k:=234) (j:=198) (ps:=[(11,.c 1),(19,.c 1),(22,.c 0),(23,.c 0),(84,.c 0),(96,.c 0),(102,.c 0),(114,.c 0),(120,.c 0),(126,.c 0),(138,.c 0),(146,.c 0),(148,.c 1),(149,.c 1),(159,.c 1),(181,.c 0),(195,.c 1),(199,.c 0)]) (aa A11 (aa A19 (aa A22 (aa A23 (aa E84 (aa E96 (aa E102 (aa E114 (aa E120 (aa E126 (aa E138 (aa u (aa u9 (aa A149 (aa A159 (aa u5 (aa A195 (aa A199 aj)))))))))))))))))) (by kernel_rfl)
         have z232:v 232=0:=ak (X:=cxM [a,b,c,d,n]) (v:=v) (l:=aR) (aF _) hs (k:=232) (r:=.c 0) (ps:=[(11,.c 1),(19,.c 1),(22,.c 0),(23,.c 0),(84,.c 0),(96,.c 0),(102,.c 0),(114,.c 0),(120,.c 0),(126,.c 0),(138,.c 0),(146,.c 0),(148,.c 1),(149,.c 1),(159,.c 1),(181,.c 0),(195,.c 1),(199,.c 0)]) (nz:=[]) (aa A11 (aa A19 (aa A22 (aa A23 (aa E84 (aa E96 (aa E102 (aa E114 (aa E120 (aa E126 (aa E138 (aa u (aa u9 (aa A149 (aa A159 (aa u5 (aa A195 (aa A199 aj)))))))))))))))))) az (by kernel_rfl)
         rw [z232,z233,z234,V,m7,m8];rfl
       . have z233:v 233=v 197:=aB (X:=cxM [a,b,c,d,n]) (v:=v) (l:=aR) (aF _) hs (k:=233) (j:=197) (ps:=[(11,.c 1),(19,.c 1),(22,.c 0),(23,.c 0),(84,.c 0),(96,.c 0),(102,.c 0),(114,.c 0),(120,.c 0),(126,.c 0),(138,.c 0),(146,.c 0),(148,.c 0),(149,.c 1),(159,.c 1),(181,.c 0),(195,.c 1),(199,.c 0)]) (aa A11 (aa A19 (aa A22 (aa A23 (aa E84 (aa E96 (aa E102 (aa E114 (aa E120 (aa E126 (aa E138 (aa u (aa u9 (aa A149 (aa A159 (aa u5 (aa A195 (aa A199 aj)))))))))))))))))) (by kernel_rfl)
         have z234:v 234=v 198:=aB (X:=cxM [a,b,c,d,n]) (v:=v) (l:=aR) (aF _) hs (k:=234) (j:=198) (ps:=[(11,.c 1),(19,.c 1),(22,.c 0),(23,.c 0),(84,.c 0),(96,.c 0),(102,.c 0),(114,.c 0),(120,.c 0),(126,.c 0),(138,.c 0),(146,.c 0),(148,.c 0),(149,.c 1),(159,.c 1),(181,.c 0),(195,.c 1),(199,.c 0)]) (aa A11 (aa A19 (aa A22 (aa A23 (aa E84 (aa E96 (aa E102 (aa E114 (aa E120 (aa E126 (aa E138 (aa u (aa u9 (aa A149 (aa A159 (aa u5 (aa A195 (aa A199 aj)))))))))))))))))) (by kernel_rfl)
         have z232:v 232=0:=ak (X:=cxM [a,b,c,d,n]) (v:=v) (l:=aR) (aF _) hs (k:=232) (r:=.c 0) (ps:=[(11,.c 1),(19,.c 1),(22,.c 0),(23,.c 0),(84,.c 0),(96,.c 0),(102,.c 0),(114,.c 0),(120,.c 0),(126,.c 0),(138,.c 0),(146,.c 0),(148,.c 0),(149,.c 1),(159,.c 1),(181,.c 0),(195,.c 1),(199,.c 0)]) (nz:=[]) (aa A11 (aa A19 (aa A22 (aa A23 (aa E84 (aa E96 (aa E102 (aa E114 (aa E120 (aa E126 (aa E138 (aa u (aa u9 (aa A149 (aa A159 (aa u5 (aa A195 (aa A199 aj)))))))))))))))))) az (by kernel_rfl)
         rw [z232,z233,z234,V,m7,m8];rfl
