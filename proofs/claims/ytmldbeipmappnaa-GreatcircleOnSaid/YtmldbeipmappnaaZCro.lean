/- The contracts of CrossTrack of both sides. -/
import Derived.Test.YtmldbeipmappnaaZVer
set_option linter.unusedVariables false
set_option linter.unusedSimpArgs false
set_option maxRecDepth 100000
set_option maxHeartbeats 8000000
namespace Go.Proofs.Ytmldbeipmappnaa
open Go.RowKit Alm Sx
def cN (a b c d m n:Int):IV:=uM (uS ((bY a b m n).getD 0 0) ((bY a b m n).getD 1 0)) (uS ((bA a b m n).getD 0 0-(bA a b c d).getD 1 0) ((bA a b m n).getD 1 0-(bA a b c d).getD 0 0))
def gW (a b c d m n:Int):List Int:=if PtV m n then (if PtV a b/\PtV c d then (if crA a b c d then [0,0,21] else [fo (cN a b c d m n).1,eF (cN a b c d m n).2,0]) else [0,0,1]) else [0,0,1]
theorem RU {p:IV} (h:U p):jO p.1 p.2=0:=if_pos (by unfold U at h;omega)
theorem AP (x y:Int) (h:jO x y=0):(iE 36 [x,y]).getD 0 0=fo x/\(iE 36 [x,y]).getD 1 0=eF y/\(iE 36 [x,y]).getD 2 0=0:=by
 obtain ⟨p,q,r⟩:=qZ (if jO x y=0 then fo x else 0) (if jO x y=0 then eF y else 0) (jO x y)
 exact ⟨p.trans (if_pos h),q.trans (if_pos h),r.trans h⟩
def bH:List Nd:=[
 .arg 0,
 .arg 1,
 .arg 2,
 .arg 3,
 .arg 4,
 .arg 5,
 .bin .geq .i64 (.n 4) (.c (-5400000)),
 .bin .leq .i64 (.n 4) (.c 5400000),
 .ite (.n 6) (.n 7) (.c 0),
 .bin .geq .i64 (.n 5) (.c (-10800000)),
 .ite (.n 8) (.n 9) (.c 0),
 .bin .lss .i64 (.n 5) (.c 10800000),
 .ite (.n 10) (.n 11) (.c 0),
 .ite (.n 12) (.c 0) (.c 1),
 .app 75 0 [.n 0,.n 1,.n 2,.n 3],
 .app 75 1 [.n 0,.n 1,.n 2,.n 3],
 .app 75 2 [.n 0,.n 1,.n 2,.n 3],
 .app 75 3 [.n 0,.n 1,.n 2,.n 3],
 .app 75 4 [.n 0,.n 1,.n 2,.n 3],
 .bin .neq .i64 (.n 18) (.c 0),
 .bin .eql .i64 (.n 14) (.c 0),
 .bin .eql .i64 (.n 15) (.c 21600000),
 .ite (.n 20) (.n 21) (.c 0),
 .ite (.n 22) (.c 0) (.c 1),
 .ite (.n 19) (.c 0) (.c 1),
 .ite (.n 24) (.n 23) (.c 0),
 .ite (.n 24) (.n 22) (.c 0),
 .ite (.n 19) (.c 1) (.n 26),
 .ite (.n 19) (.n 18) (.c 21),
 .ite (.n 27) (.c 1) (.n 25),
 .ite (.n 27) (.n 28) (.c 0),
 .ite (.n 27) (.c 0) (.n 14),
 .ite (.n 27) (.c 0) (.n 15),
 .bin .neq .i64 (.n 30) (.c 0),
 .ite (.n 33) (.c 0) (.c 1),
 .bin .sub .i64 (.n 5) (.n 1),
 .bin .rem .i64 (.n 35) (.c 21600000),
 .bin .lss .i64 (.n 36) (.c 0),
 .bin .add .i64 (.n 36) (.c 21600000),
 .ite (.n 37) (.c 0) (.c 1),
 .ite (.n 37) (.n 38) (.n 36),
 .bin .geq .i64 (.n 40) (.c 10800000),
 .bin .sub .i64 (.n 40) (.c 21600000),
 .ite (.n 41) (.c 0) (.c 1),
 .ite (.n 41) (.n 42) (.n 40),
 .app 5 0 [.n 44,.n 44],
 .app 5 1 [.n 44,.n 44],
 .app 5 2 [.n 44,.n 44],
 .app 6 0 [.n 4,.n 4],
 .app 6 1 [.n 4,.n 4],
 .app 6 2 [.n 4,.n 4],
 .bin .eql .i64 (.n 47) (.c 0),
 .ite (.n 51) (.c 0) (.c 1),
 .ite (.n 51) (.n 50) (.n 47),
 .app 0 0 [.n 45,.n 46,.n 48,.n 49],
 .app 0 1 [.n 45,.n 46,.n 48,.n 49],
 .app 0 2 [.n 45,.n 46,.n 48,.n 49],
 .bin .eql .i64 (.n 53) (.c 0),
 .ite (.n 57) (.c 0) (.c 1),
 .ite (.n 57) (.n 56) (.n 53),
 .app 6 0 [.n 0,.n 0],
 .app 6 1 [.n 0,.n 0],
 .app 6 2 [.n 0,.n 0],
 .bin .eql .i64 (.n 59) (.c 0),
 .ite (.n 63) (.c 0) (.c 1),
 .ite (.n 63) (.n 62) (.n 59),
 .app 5 0 [.n 4,.n 4],
 .app 5 1 [.n 4,.n 4],
 .app 5 2 [.n 4,.n 4],
 .bin .eql .i64 (.n 65) (.c 0),
 .ite (.n 69) (.c 0) (.c 1),
 .ite (.n 69) (.n 68) (.n 65),
 .app 0 0 [.n 60,.n 61,.n 66,.n 67],
 .app 0 1 [.n 60,.n 61,.n 66,.n 67],
 .app 0 2 [.n 60,.n 61,.n 66,.n 67],
 .bin .eql .i64 (.n 71) (.c 0),
 .ite (.n 75) (.c 0) (.c 1),
 .ite (.n 75) (.n 74) (.n 71),
 .app 5 0 [.n 0,.n 0],
 .app 5 1 [.n 0,.n 0],
 .app 5 2 [.n 0,.n 0],
 .bin .eql .i64 (.n 77) (.c 0),
 .ite (.n 81) (.c 0) (.c 1),
 .ite (.n 81) (.n 80) (.n 77),
 .bin .eql .i64 (.n 83) (.c 0),
 .ite (.n 84) (.c 0) (.c 1),
 .ite (.n 84) (.n 50) (.n 83),
 .app 0 0 [.n 78,.n 79,.n 48,.n 49],
 .app 0 1 [.n 78,.n 79,.n 48,.n 49],
 .app 0 2 [.n 78,.n 79,.n 48,.n 49],
 .bin .eql .i64 (.n 86) (.c 0),
 .ite (.n 90) (.c 0) (.c 1),
 .ite (.n 90) (.n 89) (.n 86),
 .app 6 0 [.n 44,.n 44],
 .app 6 1 [.n 44,.n 44],
 .app 6 2 [.n 44,.n 44],
 .bin .eql .i64 (.n 92) (.c 0),
 .ite (.n 96) (.c 0) (.c 1),
 .ite (.n 96) (.n 95) (.n 92),
 .app 0 0 [.n 87,.n 88,.n 93,.n 94],
 .app 0 1 [.n 87,.n 88,.n 93,.n 94],
 .app 0 2 [.n 87,.n 88,.n 93,.n 94],
 .bin .eql .i64 (.n 98) (.c 0),
 .ite (.n 102) (.c 0) (.c 1),
 .ite (.n 102) (.n 101) (.n 98),
 .app 2 0 [.n 72,.n 73,.n 99,.n 100],
 .app 2 1 [.n 72,.n 73,.n 99,.n 100],
 .app 2 2 [.n 72,.n 73,.n 99,.n 100],
 .bin .eql .i64 (.n 104) (.c 0),
 .ite (.n 108) (.c 0) (.c 1),
 .ite (.n 108) (.n 107) (.n 104),
 .app 7 0 [.n 54,.n 55,.n 105,.n 106],
 .app 7 1 [.n 54,.n 55,.n 105,.n 106],
 .app 7 2 [.n 54,.n 55,.n 105,.n 106],
 .bin .eql .i64 (.n 110) (.c 0),
 .ite (.n 114) (.c 0) (.c 1),
 .ite (.n 114) (.n 113) (.n 110),
 .bin .leq .i64 (.n 31) (.n 32),
 .bin .geq .i64 (.n 31) (.c (-1099511627776)),
 .bin .leq .i64 (.n 31) (.c 1099511627776),
 .ite (.n 118) (.n 119) (.c 0),
 .ite (.n 117) (.n 120) (.c 0),
 .bin .geq .i64 (.n 32) (.c (-1099511627776)),
 .bin .leq .i64 (.n 32) (.c 1099511627776),
 .ite (.n 122) (.n 123) (.c 0),
 .ite (.n 121) (.n 124) (.c 0),
 .ite (.n 125) (.c 0) (.c 1),
 .bin .sub .i64 (.c 0) (.n 32),
 .bin .sub .i64 (.c 0) (.n 31),
 .bin .geq .i64 (.n 127) (.c (-1099511627776)),
 .bin .leq .i64 (.n 127) (.c 1099511627776),
 .ite (.n 129) (.n 130) (.c 0),
 .ite (.n 131) (.c 0) (.c 1),
 .bin .geq .i64 (.n 128) (.c (-1099511627776)),
 .bin .leq .i64 (.n 128) (.c 1099511627776),
 .ite (.n 133) (.n 134) (.c 0),
 .ite (.n 135) (.c 0) (.c 1),
 .ite (.n 132) (.c 1) (.n 136),
 .ite (.n 137) (.c 0) (.c 1),
 .ite (.n 137) (.c 5) (.c 0),
 .ite (.n 137) (.c 0) (.n 127),
 .ite (.n 137) (.c 0) (.n 128),
 .ite (.n 126) (.c 1) (.n 139),
 .ite (.n 126) (.c 0) (.n 140),
 .ite (.n 126) (.c 0) (.n 141),
 .bin .neq .i64 (.n 142) (.c 0),
 .ite (.n 145) (.c 0) (.c 1),
 .bin .leq .i64 (.n 111) (.n 112),
 .bin .geq .i64 (.n 111) (.c (-1099511627776)),
 .bin .leq .i64 (.n 111) (.c 1099511627776),
 .ite (.n 148) (.n 149) (.c 0),
 .ite (.n 147) (.n 150) (.c 0),
 .bin .geq .i64 (.n 112) (.c (-1099511627776)),
 .bin .leq .i64 (.n 112) (.c 1099511627776),
 .ite (.n 152) (.n 153) (.c 0),
 .ite (.n 151) (.n 154) (.c 0),
 .ite (.n 155) (.c 0) (.c 1),
 .bin .leq .i64 (.n 143) (.n 144),
 .bin .geq .i64 (.n 143) (.c (-1099511627776)),
 .bin .leq .i64 (.n 143) (.c 1099511627776),
 .ite (.n 158) (.n 159) (.c 0),
 .ite (.n 157) (.n 160) (.c 0),
 .bin .geq .i64 (.n 144) (.c (-1099511627776)),
 .bin .leq .i64 (.n 144) (.c 1099511627776),
 .ite (.n 162) (.n 163) (.c 0),
 .ite (.n 161) (.n 164) (.c 0),
 .ite (.n 165) (.c 0) (.c 1),
 .ite (.n 156) (.c 1) (.n 166),
 .ite (.n 167) (.c 0) (.c 1),
 .bin .add .i64 (.n 111) (.n 143),
 .bin .add .i64 (.n 112) (.n 144),
 .bin .geq .i64 (.n 169) (.c (-1099511627776)),
 .bin .leq .i64 (.n 169) (.c 1099511627776),
 .ite (.n 171) (.n 172) (.c 0),
 .ite (.n 173) (.c 0) (.c 1),
 .bin .geq .i64 (.n 170) (.c (-1099511627776)),
 .bin .leq .i64 (.n 170) (.c 1099511627776),
 .ite (.n 175) (.n 176) (.c 0),
 .ite (.n 177) (.c 0) (.c 1),
 .ite (.n 174) (.c 1) (.n 178),
 .ite (.n 179) (.c 0) (.c 1),
 .ite (.n 179) (.c 5) (.c 0),
 .ite (.n 179) (.c 0) (.n 169),
 .ite (.n 179) (.c 0) (.n 170),
 .ite (.n 167) (.c 1) (.n 181),
 .ite (.n 167) (.c 0) (.n 182),
 .ite (.n 167) (.c 0) (.n 183),
 .ite (.n 145) (.n 142) (.n 184),
 .ite (.n 145) (.n 143) (.n 185),
 .ite (.n 145) (.n 144) (.n 186),
 .bin .eql .i64 (.n 116) (.c 0),
 .ite (.n 190) (.c 0) (.c 1),
 .ite (.n 190) (.n 187) (.n 116),
 .bin .eql .i64 (.n 192) (.c 0),
 .ite (.n 193) (.c 0) (.c 1),
 .ite (.n 193) (.n 62) (.n 192),
 .bin .eql .i64 (.n 195) (.c 0),
 .ite (.n 196) (.c 0) (.c 1),
 .ite (.n 196) (.n 50) (.n 195),
 .app 0 0 [.n 60,.n 61,.n 48,.n 49],
 .app 0 1 [.n 60,.n 61,.n 48,.n 49],
 .app 0 2 [.n 60,.n 61,.n 48,.n 49],
 .bin .eql .i64 (.n 198) (.c 0),
 .ite (.n 202) (.c 0) (.c 1),
 .ite (.n 202) (.n 201) (.n 198),
 .app 73 0 [.n 44,.n 44],
 .app 73 1 [.n 44,.n 44],
 .app 73 2 [.n 44,.n 44],
 .bin .eql .i64 (.n 204) (.c 0),
 .ite (.n 208) (.c 0) (.c 1),
 .ite (.n 208) (.n 207) (.n 204),
 .app 0 0 [.n 199,.n 200,.n 205,.n 206],
 .app 0 1 [.n 199,.n 200,.n 205,.n 206],
 .app 0 2 [.n 199,.n 200,.n 205,.n 206],
 .bin .eql .i64 (.n 210) (.c 0),
 .ite (.n 214) (.c 0) (.c 1),
 .ite (.n 214) (.n 213) (.n 210),
 .bin .sub .i64 (.n 4) (.n 0),
 .app 73 0 [.n 217,.n 217],
 .app 73 1 [.n 217,.n 217],
 .app 73 2 [.n 217,.n 217],
 .bin .eql .i64 (.n 216) (.c 0),
 .ite (.n 221) (.c 0) (.c 1),
 .ite (.n 221) (.n 220) (.n 216),
 .app 1 0 [.n 218,.n 219,.n 211,.n 212],
 .app 1 1 [.n 218,.n 219,.n 211,.n 212],
 .app 1 2 [.n 218,.n 219,.n 211,.n 212],
 .bin .eql .i64 (.n 223) (.c 0),
 .ite (.n 227) (.c 0) (.c 1),
 .ite (.n 227) (.n 226) (.n 223),
 .app 74 0 [.n 224,.n 225],
 .app 74 1 [.n 224,.n 225],
 .app 74 2 [.n 224,.n 225],
 .bin .eql .i64 (.n 229) (.c 0),
 .ite (.n 233) (.c 0) (.c 1),
 .ite (.n 233) (.n 232) (.n 229),
 .app 5 0 [.n 230,.n 231],
 .app 5 1 [.n 230,.n 231],
 .app 5 2 [.n 230,.n 231],
 .bin .eql .i64 (.n 235) (.c 0),
 .ite (.n 239) (.c 0) (.c 1),
 .ite (.n 239) (.n 238) (.n 235),
 .app 5 0 [.n 188,.n 189],
 .app 5 1 [.n 188,.n 189],
 .app 5 2 [.n 188,.n 189],
 .bin .eql .i64 (.n 241) (.c 0),
 .ite (.n 245) (.c 0) (.c 1),
 .ite (.n 245) (.n 244) (.n 241),
 .app 0 0 [.n 236,.n 237,.n 242,.n 243],
 .app 0 1 [.n 236,.n 237,.n 242,.n 243],
 .app 0 2 [.n 236,.n 237,.n 242,.n 243],
 .bin .eql .i64 (.n 247) (.c 0),
 .ite (.n 251) (.c 0) (.c 1),
 .ite (.n 251) (.n 250) (.n 247),
 .app 36 0 [.n 248,.n 249],
 .app 36 1 [.n 248,.n 249],
 .app 36 2 [.n 248,.n 249],
 .bin .eql .i64 (.n 253) (.c 0),
 .ite (.n 257) (.c 0) (.c 1),
 .ite (.n 257) (.n 256) (.n 253),
 .bin .neq .i64 (.n 259) (.c 0),
 .ite (.n 260) (.c 0) (.c 1),
 .ite (.n 260) (.n 259) (.c 0),
 .ite (.n 260) (.c 0) (.n 254),
 .ite (.n 260) (.c 0) (.n 255),
 .ite (.n 33) (.n 30) (.n 262),
 .ite (.n 33) (.c 0) (.n 263),
 .ite (.n 33) (.c 0) (.n 264),
 .ite (.n 13) (.c 1) (.n 265),
 .ite (.n 13) (.c 0) (.n 266),
 .ite (.n 13) (.c 0) (.n 267)]
def Lu:List Vc:=[
 ⟨[(.n 12,true)],.pre 75 [.n 0,.n 1,.n 2,.n 3]⟩,
 ⟨[(.n 34,true),(.n 12,true)],.pre 5 [.n 44,.n 44]⟩,
 ⟨[(.n 34,true),(.n 12,true)],.pre 6 [.n 4,.n 4]⟩,
 ⟨[(.n 34,true),(.n 12,true)],.pre 0 [.n 45,.n 46,.n 48,.n 49]⟩,
 ⟨[(.n 34,true),(.n 12,true)],.pre 6 [.n 0,.n 0]⟩,
 ⟨[(.n 34,true),(.n 12,true)],.pre 5 [.n 4,.n 4]⟩,
 ⟨[(.n 34,true),(.n 12,true)],.pre 0 [.n 60,.n 61,.n 66,.n 67]⟩,
 ⟨[(.n 34,true),(.n 12,true)],.pre 5 [.n 0,.n 0]⟩,
 ⟨[(.n 34,true),(.n 12,true)],.pre 6 [.n 4,.n 4]⟩,
 ⟨[(.n 34,true),(.n 12,true)],.pre 0 [.n 78,.n 79,.n 48,.n 49]⟩,
 ⟨[(.n 34,true),(.n 12,true)],.pre 6 [.n 44,.n 44]⟩,
 ⟨[(.n 34,true),(.n 12,true)],.pre 0 [.n 87,.n 88,.n 93,.n 94]⟩,
 ⟨[(.n 34,true),(.n 12,true)],.pre 2 [.n 72,.n 73,.n 99,.n 100]⟩,
 ⟨[(.n 34,true),(.n 12,true)],.pre 7 [.n 54,.n 55,.n 105,.n 106]⟩,
 ⟨[(.n 34,true),(.n 12,true)],.pre 6 [.n 0,.n 0]⟩,
 ⟨[(.n 34,true),(.n 12,true)],.pre 6 [.n 4,.n 4]⟩,
 ⟨[(.n 34,true),(.n 12,true)],.pre 0 [.n 60,.n 61,.n 48,.n 49]⟩,
 ⟨[(.n 34,true),(.n 12,true)],.pre 73 [.n 44,.n 44]⟩,
 ⟨[(.n 34,true),(.n 12,true)],.pre 0 [.n 199,.n 200,.n 205,.n 206]⟩,
 ⟨[(.n 34,true),(.n 12,true)],.pre 73 [.n 217,.n 217]⟩,
 ⟨[(.n 34,true),(.n 12,true)],.pre 1 [.n 218,.n 219,.n 211,.n 212]⟩,
 ⟨[(.n 34,true),(.n 12,true)],.pre 74 [.n 224,.n 225]⟩,
 ⟨[(.n 34,true),(.n 12,true)],.pre 5 [.n 230,.n 231]⟩,
 ⟨[(.n 34,true),(.n 12,true)],.pre 5 [.n 188,.n 189]⟩,
 ⟨[(.n 34,true),(.n 12,true)],.pre 0 [.n 236,.n 237,.n 242,.n 243]⟩,
 ⟨[(.n 34,true),(.n 12,true)],.pre 36 [.n 248,.n 249]⟩]
theorem Lv:whole Try.prog spV 20 40 23 [(true,[some .i64,some .i64]),(true,[some .i64,some .i64]),(true,[some .i64,some .i64])]=some (.tup [.agg [.int .i64 (.n 269),.int .i64 (.n 270)],.c (.int .i64 (.n 268))],⟨bH.reverse,Lu.reverse⟩):=by kernel_rfl
theorem KY:wfN bH.reverse=true:=by kernel_rfl
theorem lG (a b c d m n:Int) (w:World):Calls Try.prog 23 #[.agg #[.int .i64 a,.int .i64 b],.agg #[.int .i64 c,.int .i64 d],.agg #[.int .i64 m,.int .i64 n]] w fun e w'=>e=.returned (.tuple #[.agg #[.int .i64 ((gW a b c d m n).getD 0 0),.int .i64 ((gW a b c d m n).getD 1 0)],.int .i64 ((gW a b c d m n).getD 2 0)])/\Below w.heap.size w w':=by
 refine Sx.calls (X:=cxV [a,b,c,d,m,n]) fE (xN _) Lv KY (fun v hs=>?_) w
 have e0:v 0=a:=ag hs 0 rfl;have e1:v 1=b:=ag hs 1 rfl;have e2:v 2=c:=ag hs 2 rfl;have e3:v 3=d:=ag hs 3 rfl;have e4:v 4=m:=ag hs 4 rfl;have e5:v 5=n:=ag hs 5 rfl;have e14:v 14=(xP 75 [v 0,v 1,v 2,v 3]).getD 0 0:=ag hs 14 rfl;have e15:v 15=(xP 75 [v 0,v 1,v 2,v 3]).getD 1 0:=ag hs 15 rfl;have e18:v 18=(xP 75 [v 0,v 1,v 2,v 3]).getD 4 0:=ag hs 18 rfl;have e20:v 20=b2i (v 14==(0:Int)):=ag hs 20 rfl;have e21:v 21=b2i (v 15==(21600000:Int)):=ag hs 21 rfl;have e22:v 22=if v 20≠0 then v 21 else (0:Int):=ag hs 22 rfl
 have B1:v 12=b2i (decide (PtV (v 4) (v 5))):=ptB (x1:=v 6) (x2:=v 7) (x3:=v 9) (x4:=v 11) (y5:=0) (y7:=0) (y9:=0) (z6:=v 8) (z8:=v 10) (ag hs 6 rfl) (ag hs 7 rfl) (ag hs 9 rfl) (ag hs 11 rfl) (ag hs 8 rfl) (ag hs 10 rfl) (ag hs 12 rfl);rw [e4,e5] at B1;have iv:∀ k,(xP 75 [v 0,v 1,v 2,v 3]).getD k 0=[(invV a b c d).getD 0 0,(invV a b c d).getD 1 0,(invV a b c d).getD 2 0,(invV a b c d).getD 3 0,(invV a b c d).getD 4 0].getD k 0:=fun k=>by rw [e0,e1,e2,e3];rfl
 rcases iX B1 with ⟨g0,u0⟩|⟨g0,u0⟩
 rotate_left
 . have z12:v 12=0:=aC (X:=cxV [a,b,c,d,m,n]) (v:=v) (l:=bH) (av _) hs (k:=12) (r:=.c 0) (ps:=[(12,.c 0)]) (nz:=[]) (aa u0 au) aJ (by kernel_rfl)
   have z268:v 268=1:=aC (X:=cxV [a,b,c,d,m,n]) (v:=v) (l:=bH) (av _) hs (k:=268) (r:=.c 1) (ps:=[(12,.c 0)]) (nz:=[]) (aa u0 au) aJ (by kernel_rfl)
   have z269:v 269=0:=aC (X:=cxV [a,b,c,d,m,n]) (v:=v) (l:=bH) (av _) hs (k:=269) (r:=.c 0) (ps:=[(12,.c 0)]) (nz:=[]) (aa u0 au) aJ (by kernel_rfl)
   have z270:v 270=0:=aC (X:=cxV [a,b,c,d,m,n]) (v:=v) (l:=bH) (av _) hs (k:=270) (r:=.c 0) (ps:=[(12,.c 0)]) (nz:=[]) (aa u0 au) aJ (by kernel_rfl)
   refine ⟨cB ?_,?_⟩
   . exact af (fun hp=>absurd z12 (aj hp).1) (af (fun hp=>absurd z12 (aj (aj hp).2).1) (af (fun hp=>absurd z12 (aj (aj hp).2).1) (af (fun hp=>absurd z12 (aj (aj hp).2).1) (af (fun hp=>absurd z12 (aj (aj hp).2).1) (af (fun hp=>absurd z12 (aj (aj hp).2).1) (af (fun hp=>absurd z12 (aj (aj hp).2).1) (af (fun hp=>absurd z12 (aj (aj hp).2).1) (af (fun hp=>absurd z12 (aj (aj hp).2).1) (af (fun hp=>absurd z12 (aj (aj hp).2).1) (af (fun hp=>absurd z12 (aj (aj hp).2).1) (af (fun hp=>absurd z12 (aj (aj hp).2).1) (af (fun hp=>absurd z12 (aj (aj hp).2).1) (af (fun hp=>absurd z12 (aj (aj hp).2).1) (af (fun hp=>absurd z12 (aj (aj hp).2).1) (af (fun hp=>absurd z12 (aj (aj hp).2).1) (af (fun hp=>absurd z12 (aj (aj hp).2).1) (af (fun hp=>absurd z12 (aj (aj hp).2).1) (af (fun hp=>absurd z12 (aj (aj hp).2).1) (af (fun hp=>absurd z12 (aj (aj hp).2).1) (af (fun hp=>absurd z12 (aj (aj hp).2).1) (af (fun hp=>absurd z12 (aj (aj hp).2).1) (af (fun hp=>absurd z12 (aj (aj hp).2).1) (af (fun hp=>absurd z12 (aj (aj hp).2).1) (af (fun hp=>absurd z12 (aj (aj hp).2).1) (af (fun hp=>absurd z12 (aj (aj hp).2).1) (cz))))))))))))))))))))))))))
   . intro x hx0;have hx':=cu (v:=v) (by rfl) hx0
     rw [hx'];show Value.tuple #[.agg #[.int .i64 (v 269),.int .i64 (v 270)],.int .i64 (v 268)]=_;have V:gW a b c d m n=[0,0,1]:=if_neg g0;rw [z268,z269,z270,V];rfl
 by_cases g1:PtV a b/\PtV c d
 rotate_left
 . have IVq:invV a b c d=[0,0,0,0,1]:=if_neg g1;have E18:v 18=1:=e18.trans ((iv 4).trans (by rw [IVq];rfl))
   have z34:v 34=0:=aC (X:=cxV [a,b,c,d,m,n]) (v:=v) (l:=bH) (av _) hs (k:=34) (r:=.c 0) (ps:=[(12,.c 1),(18,.c 1)]) (nz:=[]) (aa u0 (aa E18 au)) aJ (by kernel_rfl)
   have z268:v 268=1:=aC (X:=cxV [a,b,c,d,m,n]) (v:=v) (l:=bH) (av _) hs (k:=268) (r:=.c 1) (ps:=[(12,.c 1),(18,.c 1)]) (nz:=[]) (aa u0 (aa E18 au)) aJ (by kernel_rfl)
   have z269:v 269=0:=aC (X:=cxV [a,b,c,d,m,n]) (v:=v) (l:=bH) (av _) hs (k:=269) (r:=.c 0) (ps:=[(12,.c 1),(18,.c 1)]) (nz:=[]) (aa u0 (aa E18 au)) aJ (by kernel_rfl)
   have z270:v 270=0:=aC (X:=cxV [a,b,c,d,m,n]) (v:=v) (l:=bH) (av _) hs (k:=270) (r:=.c 0) (ps:=[(12,.c 1),(18,.c 1)]) (nz:=[]) (aa u0 (aa E18 au)) aJ (by kernel_rfl)
   refine ⟨cB ?_,?_⟩
   . exact af (fun _=>trivial) (af (fun hp=>absurd z34 (aj hp).1) (af (fun hp=>absurd z34 (aj hp).1) (af (fun hp=>absurd z34 (aj hp).1) (af (fun hp=>absurd z34 (aj hp).1) (af (fun hp=>absurd z34 (aj hp).1) (af (fun hp=>absurd z34 (aj hp).1) (af (fun hp=>absurd z34 (aj hp).1) (af (fun hp=>absurd z34 (aj hp).1) (af (fun hp=>absurd z34 (aj hp).1) (af (fun hp=>absurd z34 (aj hp).1) (af (fun hp=>absurd z34 (aj hp).1) (af (fun hp=>absurd z34 (aj hp).1) (af (fun hp=>absurd z34 (aj hp).1) (af (fun hp=>absurd z34 (aj hp).1) (af (fun hp=>absurd z34 (aj hp).1) (af (fun hp=>absurd z34 (aj hp).1) (af (fun hp=>absurd z34 (aj hp).1) (af (fun hp=>absurd z34 (aj hp).1) (af (fun hp=>absurd z34 (aj hp).1) (af (fun hp=>absurd z34 (aj hp).1) (af (fun hp=>absurd z34 (aj hp).1) (af (fun hp=>absurd z34 (aj hp).1) (af (fun hp=>absurd z34 (aj hp).1) (af (fun hp=>absurd z34 (aj hp).1) (af (fun hp=>absurd z34 (aj hp).1) (cz))))))))))))))))))))))))))
   . intro x hx0;have hx':=cu (v:=v) (by rfl) hx0
     rw [hx'];show Value.tuple #[.agg #[.int .i64 (v 269),.int .i64 (v 270)],.int .i64 (v 268)]=_;have V:gW a b c d m n=[0,0,1]:=(if_pos g0).trans (if_neg g1);rw [z268,z269,z270,V];rfl
 obtain ⟨h1,h2⟩:=g1;have IVq:invV a b c d=[(bA a b c d).getD 0 0,(bA a b c d).getD 1 0,(bY a b c d).getD 0 0,(bY a b c d).getD 1 0,0]:=if_pos ⟨h1,h2⟩;have E18:v 18=0:=e18.trans ((iv 4).trans (by rw [IVq];rfl))
 have w14:v 14=(bA a b c d).getD 0 0:=e14.trans ((iv 0).trans (by rw [IVq];rfl))
 have w15:v 15=(bA a b c d).getD 1 0:=e15.trans ((iv 1).trans (by rw [IVq];rfl))
 have Q22:v 22=b2i (decide (crA a b c d)):=by
  rw [e22,e20,e21,show (v 14==(0:Int))=decide (v 14=0) from rfl,show (v 15==(21600000:Int))=decide (v 15=21600000) from rfl,bb2,w14,w15]
 rcases iX Q22 with ⟨g2,u2⟩|⟨g2,u2⟩
 . have z34:v 34=0:=aC (X:=cxV [a,b,c,d,m,n]) (v:=v) (l:=bH) (av _) hs (k:=34) (r:=.c 0) (ps:=[(12,.c 1),(18,.c 0),(22,.c 1)]) (nz:=[]) (aa u0 (aa E18 (aa u2 au))) aJ (by kernel_rfl)
   have z268:v 268=21:=aC (X:=cxV [a,b,c,d,m,n]) (v:=v) (l:=bH) (av _) hs (k:=268) (r:=.c 21) (ps:=[(12,.c 1),(18,.c 0),(22,.c 1)]) (nz:=[]) (aa u0 (aa E18 (aa u2 au))) aJ (by kernel_rfl)
   have z269:v 269=0:=aC (X:=cxV [a,b,c,d,m,n]) (v:=v) (l:=bH) (av _) hs (k:=269) (r:=.c 0) (ps:=[(12,.c 1),(18,.c 0),(22,.c 1)]) (nz:=[]) (aa u0 (aa E18 (aa u2 au))) aJ (by kernel_rfl)
   have z270:v 270=0:=aC (X:=cxV [a,b,c,d,m,n]) (v:=v) (l:=bH) (av _) hs (k:=270) (r:=.c 0) (ps:=[(12,.c 1),(18,.c 0),(22,.c 1)]) (nz:=[]) (aa u0 (aa E18 (aa u2 au))) aJ (by kernel_rfl)
   refine ⟨cB ?_,?_⟩
   . exact af (fun _=>trivial) (af (fun hp=>absurd z34 (aj hp).1) (af (fun hp=>absurd z34 (aj hp).1) (af (fun hp=>absurd z34 (aj hp).1) (af (fun hp=>absurd z34 (aj hp).1) (af (fun hp=>absurd z34 (aj hp).1) (af (fun hp=>absurd z34 (aj hp).1) (af (fun hp=>absurd z34 (aj hp).1) (af (fun hp=>absurd z34 (aj hp).1) (af (fun hp=>absurd z34 (aj hp).1) (af (fun hp=>absurd z34 (aj hp).1) (af (fun hp=>absurd z34 (aj hp).1) (af (fun hp=>absurd z34 (aj hp).1) (af (fun hp=>absurd z34 (aj hp).1) (af (fun hp=>absurd z34 (aj hp).1) (af (fun hp=>absurd z34 (aj hp).1) (af (fun hp=>absurd z34 (aj hp).1) (af (fun hp=>absurd z34 (aj hp).1) (af (fun hp=>absurd z34 (aj hp).1) (af (fun hp=>absurd z34 (aj hp).1) (af (fun hp=>absurd z34 (aj hp).1) (af (fun hp=>absurd z34 (aj hp).1) (af (fun hp=>absurd z34 (aj hp).1) (af (fun hp=>absurd z34 (aj hp).1) (af (fun hp=>absurd z34 (aj hp).1) (af (fun hp=>absurd z34 (aj hp).1) (cz))))))))))))))))))))))))))
   . intro x hx0;have hx':=cu (v:=v) (by rfl) hx0
     rw [hx'];show Value.tuple #[.agg #[.int .i64 (v 269),.int .i64 (v 270)],.int .i64 (v 268)]=_;have V:gW a b c d m n=[0,0,21]:=((if_pos g0).trans (if_pos ⟨h1,h2⟩)).trans (if_pos g2);rw [z268,z269,z270,V];rfl
 clear e14 e15 e18 e20 e21 e22;have z31:v 31=v 14:=aA (X:=cxV [a,b,c,d,m,n]) (v:=v) (l:=bH) (av _) hs (k:=31) (j:=14) (ps:=[(12,.c 1),(18,.c 0),(22,.c 0)]) (aa u0 (aa E18 (aa u2 au))) (by kernel_rfl)
 have z32:v 32=v 15:=aA (X:=cxV [a,b,c,d,m,n]) (v:=v) (l:=bH) (av _) hs (k:=32) (j:=15) (ps:=[(12,.c 1),(18,.c 0),(22,.c 0)]) (aa u0 (aa E18 (aa u2 au))) (by kernel_rfl)
 have w31:v 31=(bA a b c d).getD 0 0:=z31.trans w14;have w32:v 32=(bA a b c d).getD 1 0:=z32.trans w15;have CB:=oK a b c d;have KB:=oK a b m n;have e35:v 35=IntKind.i64.wrap (v 5-v 1):=ag hs 35 rfl;have w35:v 35=n-b:=by rw [e35,e5,e1,Go.IntWalk.i64_in _ (by omega)]
 have s44:v 44=sgd (n-b):=by
  rw [<-w35];exact nV (x:=v 35) (m:=v 36) (c:=v 37) (u:=v 38) (r:=v 40) (g:=v 41) (s:=v 42) (z:=v 44) (by omega) (ag hs 36 rfl) (ag hs 37 rfl) (ag hs 38 rfl) (ag hs 40 rfl) (ag hs 41 rfl) (ag hs 42 rfl) (ag hs 44 rfl)
 have sb:=uf (n-b);have e45:v 45=(aB 5 [v 44,v 44]).getD 0 0:=ag hs 45 rfl;have e46:v 46=(aB 5 [v 44,v 44]).getD 1 0:=ag hs 46 rfl;have P45:((v 45,v 46):IV)=uS (v 44) (v 44):=by rw [e45,e46];rfl
 have U45:U (v 45,v 46):=by rw [P45];exact U_S _ _
 have e48:v 48=(aB 6 [v 4,v 4]).getD 0 0:=ag hs 48 rfl;have e49:v 49=(aB 6 [v 4,v 4]).getD 1 0:=ag hs 49 rfl;have P48:((v 48,v 49):IV)=uC (v 4) (v 4):=by rw [e48,e49];rfl
 have U48:U (v 48,v 49):=by rw [P48];exact U_C _ _
 have e60:v 60=(aB 6 [v 0,v 0]).getD 0 0:=ag hs 60 rfl;have e61:v 61=(aB 6 [v 0,v 0]).getD 1 0:=ag hs 61 rfl;have P60:((v 60,v 61):IV)=uC (v 0) (v 0):=by rw [e60,e61];rfl
 have U60:U (v 60,v 61):=by rw [P60];exact U_C _ _
 have e66:v 66=(aB 5 [v 4,v 4]).getD 0 0:=ag hs 66 rfl;have e67:v 67=(aB 5 [v 4,v 4]).getD 1 0:=ag hs 67 rfl;have P66:((v 66,v 67):IV)=uS (v 4) (v 4):=by rw [e66,e67];rfl
 have U66:U (v 66,v 67):=by rw [P66];exact U_S _ _
 have e78:v 78=(aB 5 [v 0,v 0]).getD 0 0:=ag hs 78 rfl;have e79:v 79=(aB 5 [v 0,v 0]).getD 1 0:=ag hs 79 rfl;have P78:((v 78,v 79):IV)=uS (v 0) (v 0):=by rw [e78,e79];rfl
 have U78:U (v 78,v 79):=by rw [P78];exact U_S _ _
 have e93:v 93=(aB 6 [v 44,v 44]).getD 0 0:=ag hs 93 rfl;have e94:v 94=(aB 6 [v 44,v 44]).getD 1 0:=ag hs 94 rfl;have P93:((v 93,v 94):IV)=uC (v 44) (v 44):=by rw [e93,e94];rfl
 have U93:U (v 93,v 94):=by rw [P93];exact U_C _ _
 have e54:v 54=(aB 0 [v 45,v 46,v 48,v 49]).getD 0 0:=ag hs 54 rfl;have e55:v 55=(aB 0 [v 45,v 46,v 48,v 49]).getD 1 0:=ag hs 55 rfl;have P54:((v 54,v 55):IV)=uM (v 45,v 46) (v 48,v 49):=by rw [e54,e55];rfl
 have U54:U (v 54,v 55):=by rw [P54];exact (U_M U45 U48).2.2
 have e56:v 56=(aB 0 [v 45,v 46,v 48,v 49]).getD 2 0:=ag hs 56 rfl;have E56:v 56=0:=e56.trans (U_M U45 U48).2.1;have e72:v 72=(aB 0 [v 60,v 61,v 66,v 67]).getD 0 0:=ag hs 72 rfl;have e73:v 73=(aB 0 [v 60,v 61,v 66,v 67]).getD 1 0:=ag hs 73 rfl;have P72:((v 72,v 73):IV)=uM (v 60,v 61) (v 66,v 67):=by rw [e72,e73];rfl
 have U72:U (v 72,v 73):=by rw [P72];exact (U_M U60 U66).2.2
 have e74:v 74=(aB 0 [v 60,v 61,v 66,v 67]).getD 2 0:=ag hs 74 rfl;have E74:v 74=0:=e74.trans (U_M U60 U66).2.1;have e87:v 87=(aB 0 [v 78,v 79,v 48,v 49]).getD 0 0:=ag hs 87 rfl;have e88:v 88=(aB 0 [v 78,v 79,v 48,v 49]).getD 1 0:=ag hs 88 rfl;have P87:((v 87,v 88):IV)=uM (v 78,v 79) (v 48,v 49):=by rw [e87,e88];rfl
 have U87:U (v 87,v 88):=by rw [P87];exact (U_M U78 U48).2.2
 have e89:v 89=(aB 0 [v 78,v 79,v 48,v 49]).getD 2 0:=ag hs 89 rfl;have E89:v 89=0:=e89.trans (U_M U78 U48).2.1;have e99:v 99=(aB 0 [v 87,v 88,v 93,v 94]).getD 0 0:=ag hs 99 rfl;have MB:v 100=(aB 0 [v 87,v 88,v 93,v 94]).getD 1 0:=ag hs 100 rfl;have P99:((v 99,v 100):IV)=uM (v 87,v 88) (v 93,v 94):=by rw [e99,MB];rfl
 have U99:U (v 99,v 100):=by rw [P99];exact (U_M U87 U93).2.2
 have e101:v 101=(aB 0 [v 87,v 88,v 93,v 94]).getD 2 0:=ag hs 101 rfl;have E101:v 101=0:=e101.trans (U_M U87 U93).2.1;have e105:v 105=(aB 2 [v 72,v 73,v 99,v 100]).getD 0 0:=ag hs 105 rfl;have e106:v 106=(aB 2 [v 72,v 73,v 99,v 100]).getD 1 0:=ag hs 106 rfl;have P105:((v 105,v 106):IV)=uD (v 72,v 73) (v 99,v 100):=by rw [e105,e106];rfl
 have F105:fxV (v 105) (v 106)=true:=by have:=(U_D U72 U99).2.2;rw [<-P105] at this;exact this
 have e107:v 107=(aB 2 [v 72,v 73,v 99,v 100]).getD 2 0:=ag hs 107 rfl;have E107:v 107=0:=e107.trans (U_D U72 U99).2.1;have e111:v 111=(aB 7 [v 54,v 55,v 105,v 106]).getD 0 0:=ag hs 111 rfl;have e112:v 112=(aB 7 [v 54,v 55,v 105,v 106]).getD 1 0:=ag hs 112 rfl;have PY:((v 54,v 55):IV)=il m (sgd (n-b)):=by rw [P54,P45,P48,s44,e4];rfl
 have PX:((v 105,v 106):IV)=iL a m (sgd (n-b)):=by rw [P105,P72,P99,P87,P60,P66,P78,P48,P93,s44,e0,e4];rfl
 have y0:v 54=(il m (sgd (n-b))).1:=congrArg Prod.fst PY;have y1:v 55=(il m (sgd (n-b))).2:=congrArg Prod.snd PY;have x0:v 105=(iL a m (sgd (n-b))).1:=congrArg Prod.fst PX;have x1:v 106=(iL a m (sgd (n-b))).2:=congrArg Prod.snd PX;have B0:v 111=bz (v 54) (v 55) (v 105) (v 106):=e111;have B1':v 112=bJ (v 54) (v 55) (v 105) (v 106):=e112;have e217:v 217=IntKind.i64.wrap (v 4-v 0):=ag hs 217 rfl;have w217:v 217=m-a:=by rw [e217,e4,e0,Go.IntWalk.i64_in _ (by omega)]
 have e218:v 218=(lu 73 [v 217,v 217]).getD 0 0:=ag hs 218 rfl;have e219:v 219=(lu 73 [v 217,v 217]).getD 1 0:=ag hs 219 rfl;have P218:((v 218,v 219):IV)=uH (v 217):=by rw [e218,e219];rfl
 have U218:U (v 218,v 219):=by rw [P218];exact U_H _
 have e205:v 205=(lu 73 [v 44,v 44]).getD 0 0:=ag hs 205 rfl;have e206:v 206=(lu 73 [v 44,v 44]).getD 1 0:=ag hs 206 rfl;have P205:((v 205,v 206):IV)=uH (v 44):=by rw [e205,e206];rfl
 have U205:U (v 205,v 206):=by rw [P205];exact U_H _
 have e199:v 199=(aB 0 [v 60,v 61,v 48,v 49]).getD 0 0:=ag hs 199 rfl;have e200:v 200=(aB 0 [v 60,v 61,v 48,v 49]).getD 1 0:=ag hs 200 rfl;have P199:((v 199,v 200):IV)=uM (v 60,v 61) (v 48,v 49):=by rw [e199,e200];rfl
 have U199:U (v 199,v 200):=by rw [P199];exact (U_M U60 U48).2.2
 have e201:v 201=(aB 0 [v 60,v 61,v 48,v 49]).getD 2 0:=ag hs 201 rfl;have E201:v 201=0:=e201.trans (U_M U60 U48).2.1;have e211:v 211=(aB 0 [v 199,v 200,v 205,v 206]).getD 0 0:=ag hs 211 rfl;have e212:v 212=(aB 0 [v 199,v 200,v 205,v 206]).getD 1 0:=ag hs 212 rfl;have P211:((v 211,v 212):IV)=uM (v 199,v 200) (v 205,v 206):=by rw [e211,e212];rfl
 have U211:U (v 211,v 212):=by rw [P211];exact (U_M U199 U205).2.2
 have e213:v 213=(aB 0 [v 199,v 200,v 205,v 206]).getD 2 0:=ag hs 213 rfl;have E213:v 213=0:=e213.trans (U_M U199 U205).2.1;have e224:v 224=(aB 1 [v 218,v 219,v 211,v 212]).getD 0 0:=ag hs 224 rfl;have e225:v 225=(aB 1 [v 218,v 219,v 211,v 212]).getD 1 0:=ag hs 225 rfl;have P224:((v 224,v 225):IV)=uA (v 218,v 219) (v 211,v 212):=by rw [e224,e225];rfl
 have F224:fxV (v 224) (v 225)=true:=by have:=(U_A U218 U211).2.2;rw [<-P224] at this;exact this
 have e226:v 226=(aB 1 [v 218,v 219,v 211,v 212]).getD 2 0:=ag hs 226 rfl;have E226:v 226=0:=e226.trans (U_A U218 U211).2.1;have e230:v 230=(lu 74 [v 224,v 225]).getD 0 0:=ag hs 230 rfl;have e231:v 231=(lu 74 [v 224,v 225]).getD 1 0:=ag hs 231 rfl;have PD:((v 224,v 225):IV)=gI a m (sgd (n-b)):=by rw [P224,P211,P199,P218,P205,P60,P48,w217,s44,e0,e4];rfl
 have DM:=oG a m (sgd (n-b)) h1.1 g0.1;rw [<-PD] at DM;have A74:KU (v 224) (v 225):=⟨F224,DM.2,DM.1⟩;have d0:v 224=(gI a m (sgd (n-b))).1:=congrArg Prod.fst PD;have d1:v 225=(gI a m (sgd (n-b))).2:=congrArg Prod.snd PD;have D0:v 230=yu (v 224) (v 225):=e230.trans (ahV _ _).1;have D1:v 231=wU (v 224) (v 225):=e231.trans (ahV _ _).2;have DB:=su a b m n h1 g0;have r111:v 111=(bA a b m n).getD 0 0:=by rw [B0,(iV a b m n).1,y0,y1,x0,x1]
 have r112:v 112=(bA a b m n).getD 1 0:=by rw [B1',(iV a b m n).2.1,y0,y1,x0,x1]
 have r230:v 230=(bY a b m n).getD 0 0:=by rw [D0,(jc a b m n).1,d0,d1]
 have r231:v 231=(bY a b m n).getD 1 0:=by rw [D1,(jc a b m n).2.1,d0,d1]
 clear e35 e45 e46 e48 e49 e54 e55 e56 e60 e61 e66 e67 e72 e73 e74 e78 e79 e87 e88 e89 e93 e94 e99 MB e101 e105 e106 e107 e111 e112 e199 e200 e201 e205 e206 e211 e212 e213 e217 e218 e219 e224 e225 e226 e230 e231;have e117:v 117=b2i (decide (v 31<=v 32)):=ag hs 117 rfl;have e118:v 118=b2i (decide (v 31>=(-1099511627776:Int))):=ag hs 118 rfl;have e119:v 119=b2i (decide (v 31<=(1099511627776:Int))):=ag hs 119 rfl;have e120:v 120=if v 118≠0 then v 119 else (0:Int):=ag hs 120 rfl
 have e121:v 121=if v 117≠0 then v 120 else (0:Int):=ag hs 121 rfl
 have e122:v 122=b2i (decide (v 32>=(-1099511627776:Int))):=ag hs 122 rfl;have e123:v 123=b2i (decide (v 32<=(1099511627776:Int))):=ag hs 123 rfl;have e124:v 124=if v 122≠0 then v 123 else (0:Int):=ag hs 124 rfl
 have e125:v 125=if v 121≠0 then v 124 else (0:Int):=ag hs 125 rfl
 have e127:v 127=IntKind.i64.wrap ((0:Int)-v 32):=ag hs 127 rfl;have e128:v 128=IntKind.i64.wrap ((0:Int)-v 31):=ag hs 128 rfl;have e129:v 129=b2i (decide (v 127>=(-1099511627776:Int))):=ag hs 129 rfl;have e130:v 130=b2i (decide (v 127<=(1099511627776:Int))):=ag hs 130 rfl;have e131:v 131=if v 129≠0 then v 130 else (0:Int):=ag hs 131 rfl
 have e133:v 133=b2i (decide (v 128>=(-1099511627776:Int))):=ag hs 133 rfl;have e134:v 134=b2i (decide (v 128<=(1099511627776:Int))):=ag hs 134 rfl;have e135:v 135=if v 133≠0 then v 134 else (0:Int):=ag hs 135 rfl
 have e147:v 147=b2i (decide (v 111<=v 112)):=ag hs 147 rfl;have e148:v 148=b2i (decide (v 111>=(-1099511627776:Int))):=ag hs 148 rfl;have e149:v 149=b2i (decide (v 111<=(1099511627776:Int))):=ag hs 149 rfl;have e150:v 150=if v 148≠0 then v 149 else (0:Int):=ag hs 150 rfl
 have e151:v 151=if v 147≠0 then v 150 else (0:Int):=ag hs 151 rfl
 have e152:v 152=b2i (decide (v 112>=(-1099511627776:Int))):=ag hs 152 rfl;have e153:v 153=b2i (decide (v 112<=(1099511627776:Int))):=ag hs 153 rfl;have e154:v 154=if v 152≠0 then v 153 else (0:Int):=ag hs 154 rfl
 have e155:v 155=if v 151≠0 then v 154 else (0:Int):=ag hs 155 rfl
 have e157:v 157=b2i (decide (v 143<=v 144)):=ag hs 157 rfl;have e158:v 158=b2i (decide (v 143>=(-1099511627776:Int))):=ag hs 158 rfl;have e159:v 159=b2i (decide (v 143<=(1099511627776:Int))):=ag hs 159 rfl;have aZ:v 160=if v 158≠0 then v 159 else (0:Int):=ag hs 160 rfl
 have e161:v 161=if v 157≠0 then v 160 else (0:Int):=ag hs 161 rfl
 have e162:v 162=b2i (decide (v 144>=(-1099511627776:Int))):=ag hs 162 rfl;have e163:v 163=b2i (decide (v 144<=(1099511627776:Int))):=ag hs 163 rfl;have e164:v 164=if v 162≠0 then v 163 else (0:Int):=ag hs 164 rfl
 have e165:v 165=if v 161≠0 then v 164 else (0:Int):=ag hs 165 rfl
 have e169:v 169=IntKind.i64.wrap (v 111+v 143):=ag hs 169 rfl;have e170:v 170=IntKind.i64.wrap (v 112+v 144):=ag hs 170 rfl;have e171:v 171=b2i (decide (v 169>=(-1099511627776:Int))):=ag hs 171 rfl;have e172:v 172=b2i (decide (v 169<=(1099511627776:Int))):=ag hs 172 rfl;have e173:v 173=if v 171≠0 then v 172 else (0:Int):=ag hs 173 rfl
 have e175:v 175=b2i (decide (v 170>=(-1099511627776:Int))):=ag hs 175 rfl;have e176:v 176=b2i (decide (v 170<=(1099511627776:Int))):=ag hs 176 rfl;have e177:v 177=if v 175≠0 then v 176 else (0:Int):=ag hs 177 rfl
 have A125:v 125=1:=by rw [e125,e121,e117,e120,e118,e119,e124,e122,e123,kr,(cO _ _).2 (by omega)];rfl
 have w127:v 127=-v 32:=by rw [e127,Go.IntWalk.i64_in _ (by omega)];omega
 have w128:v 128=-v 31:=by rw [e128,Go.IntWalk.i64_in _ (by omega)];omega
 have A131:v 131=1:=by rw [e131,e129,e130,bb2,decide_eq_true (by omega)];rfl
 have A135:v 135=1:=by rw [e135,e133,e134,bb2,decide_eq_true (by omega)];rfl
 have A155:v 155=1:=by rw [e155,e151,e147,e150,e148,e149,e154,e152,e153,kr,(cO _ _).2 (by omega)];rfl
 have z143:v 143=v 127:=aA (X:=cxV [a,b,c,d,m,n]) (v:=v) (l:=bH) (av _) hs (k:=143) (j:=127) (ps:=[(12,.c 1),(18,.c 0),(22,.c 0),(56,.c 0),(74,.c 0),(89,.c 0),(101,.c 0),(107,.c 0),(125,.c 1),(131,.c 1),(135,.c 1),(155,.c 1),(201,.c 0),(213,.c 0),(226,.c 0)]) (aa u0 (aa E18 (aa u2 (aa E56 (aa E74 (aa E89 (aa E101 (aa E107 (aa A125 (aa A131 (aa A135 (aa A155 (aa E201 (aa E213 (aa E226 au))))))))))))))) (by kernel_rfl)
 have z144:v 144=v 128:=aA (X:=cxV [a,b,c,d,m,n]) (v:=v) (l:=bH) (av _) hs (k:=144) (j:=128) (ps:=[(12,.c 1),(18,.c 0),(22,.c 0),(56,.c 0),(74,.c 0),(89,.c 0),(101,.c 0),(107,.c 0),(125,.c 1),(131,.c 1),(135,.c 1),(155,.c 1),(201,.c 0),(213,.c 0),(226,.c 0)]) (aa u0 (aa E18 (aa u2 (aa E56 (aa E74 (aa E89 (aa E101 (aa E107 (aa A125 (aa A131 (aa A135 (aa A155 (aa E201 (aa E213 (aa E226 au))))))))))))))) (by kernel_rfl)
 have A165:v 165=1:=by rw [e165,e161,e157,aZ,e158,e159,e164,e162,e163,kr,(cO _ _).2 (by omega)];rfl
 have w169:v 169=v 111-v 32:=by rw [e169,Go.IntWalk.i64_in _ (by omega)];omega
 have w170:v 170=v 112-v 31:=by rw [e170,Go.IntWalk.i64_in _ (by omega)];omega
 have A173:v 173=1:=by rw [e173,e171,e172,bb2,decide_eq_true (by omega)];rfl
 have A177:v 177=1:=by rw [e177,e175,e176,bb2,decide_eq_true (by omega)];rfl
 have z188:v 188=v 169:=aA (X:=cxV [a,b,c,d,m,n]) (v:=v) (l:=bH) (av _) hs (k:=188) (j:=169) (ps:=[(12,.c 1),(18,.c 0),(22,.c 0),(56,.c 0),(74,.c 0),(89,.c 0),(101,.c 0),(107,.c 0),(125,.c 1),(131,.c 1),(135,.c 1),(155,.c 1),(165,.c 1),(173,.c 1),(177,.c 1),(201,.c 0),(213,.c 0),(226,.c 0)]) (aa u0 (aa E18 (aa u2 (aa E56 (aa E74 (aa E89 (aa E101 (aa E107 (aa A125 (aa A131 (aa A135 (aa A155 (aa A165 (aa A173 (aa A177 (aa E201 (aa E213 (aa E226 au)))))))))))))))))) (by kernel_rfl)
 have z189:v 189=v 170:=aA (X:=cxV [a,b,c,d,m,n]) (v:=v) (l:=bH) (av _) hs (k:=189) (j:=170) (ps:=[(12,.c 1),(18,.c 0),(22,.c 0),(56,.c 0),(74,.c 0),(89,.c 0),(101,.c 0),(107,.c 0),(125,.c 1),(131,.c 1),(135,.c 1),(155,.c 1),(165,.c 1),(173,.c 1),(177,.c 1),(201,.c 0),(213,.c 0),(226,.c 0)]) (aa u0 (aa E18 (aa u2 (aa E56 (aa E74 (aa E89 (aa E101 (aa E107 (aa A125 (aa A131 (aa A135 (aa A155 (aa A165 (aa A173 (aa A177 (aa E201 (aa E213 (aa E226 au)))))))))))))))))) (by kernel_rfl)
 clear e117 e118 e119 e120 e121 e122 e123 e124 e125 e127 e128 e129 e130 e131 e133 e134 e135 e147 e148 e149 e150 e151 e152 e153 e154 e155 e157 e158 e159 aZ e161 e162 e163 e164 e165 e169 e170 e171 e172 e173 e175 e176 e177;have e236:v 236=(aB 5 [v 230,v 231]).getD 0 0:=ag hs 236 rfl;have e237:v 237=(aB 5 [v 230,v 231]).getD 1 0:=ag hs 237 rfl;have P236:((v 236,v 237):IV)=uS (v 230) (v 231):=by rw [e236,e237];rfl
 have U236:U (v 236,v 237):=by rw [P236];exact U_S _ _
 have e242:v 242=(aB 5 [v 188,v 189]).getD 0 0:=ag hs 242 rfl;have e243:v 243=(aB 5 [v 188,v 189]).getD 1 0:=ag hs 243 rfl;have P242:((v 242,v 243):IV)=uS (v 188) (v 189):=by rw [e242,e243];rfl
 have U242:U (v 242,v 243):=by rw [P242];exact U_S _ _
 have e248:v 248=(aB 0 [v 236,v 237,v 242,v 243]).getD 0 0:=ag hs 248 rfl;have e249:v 249=(aB 0 [v 236,v 237,v 242,v 243]).getD 1 0:=ag hs 249 rfl;have P248:((v 248,v 249):IV)=uM (v 236,v 237) (v 242,v 243):=by rw [e248,e249];rfl
 have U248:U (v 248,v 249):=by rw [P248];exact (U_M U236 U242).2.2
 have e250:v 250=(aB 0 [v 236,v 237,v 242,v 243]).getD 2 0:=ag hs 250 rfl;have E250:v 250=0:=e250.trans (U_M U236 U242).2.1;have e254:v 254=(iE 36 [v 248,v 249]).getD 0 0:=ag hs 254 rfl;have e255:v 255=(iE 36 [v 248,v 249]).getD 1 0:=ag hs 255 rfl;have e256:v 256=(iE 36 [v 248,v 249]).getD 2 0:=ag hs 256 rfl;have PC:((v 248,v 249):IV)=cN a b c d m n:=by rw [P248,P236,P242,z188,z189,w169,w170,w31,w32,r111,r112,r230,r231];rfl
 have aE:=RU U248;have V0:v 254=fo (v 248):=e254.trans (AP _ _ aE).1;have V1:v 255=eF (v 249):=e255.trans (AP _ _ aE).2.1;have E256:v 256=0:=e256.trans (AP _ _ aE).2.2;have n0:v 248=(cN a b c d m n).1:=congrArg Prod.fst PC;have n1:v 249=(cN a b c d m n).2:=congrArg Prod.snd PC;have z268:v 268=0:=aC (X:=cxV [a,b,c,d,m,n]) (v:=v) (l:=bH) (av _) hs (k:=268) (r:=.c 0) (ps:=[(12,.c 1),(18,.c 0),(22,.c 0),(56,.c 0),(74,.c 0),(89,.c 0),(101,.c 0),(107,.c 0),(125,.c 1),(131,.c 1),(135,.c 1),(155,.c 1),(165,.c 1),(173,.c 1),(177,.c 1),(201,.c 0),(213,.c 0),(226,.c 0),(250,.c 0),(256,.c 0)]) (nz:=[]) (aa u0 (aa E18 (aa u2 (aa E56 (aa E74 (aa E89 (aa E101 (aa E107 (aa A125 (aa A131 (aa A135 (aa A155 (aa A165 (aa A173 (aa A177 (aa E201 (aa E213 (aa E226 (aa E250 (aa E256 au)))))))))))))))))))) aJ (by kernel_rfl)
 have z269:v 269=v 254:=aA (X:=cxV [a,b,c,d,m,n]) (v:=v) (l:=bH) (av _) hs (k:=269) (j:=254) (ps:=[(12,.c 1),(18,.c 0),(22,.c 0),(56,.c 0),(74,.c 0),(89,.c 0),(101,.c 0),(107,.c 0),(125,.c 1),(131,.c 1),(135,.c 1),(155,.c 1),(165,.c 1),(173,.c 1),(177,.c 1),(201,.c 0),(213,.c 0),(226,.c 0),(250,.c 0),(256,.c 0)]) (aa u0 (aa E18 (aa u2 (aa E56 (aa E74 (aa E89 (aa E101 (aa E107 (aa A125 (aa A131 (aa A135 (aa A155 (aa A165 (aa A173 (aa A177 (aa E201 (aa E213 (aa E226 (aa E250 (aa E256 au)))))))))))))))))))) (by kernel_rfl)
 have z270:v 270=v 255:=aA (X:=cxV [a,b,c,d,m,n]) (v:=v) (l:=bH) (av _) hs (k:=270) (j:=255) (ps:=[(12,.c 1),(18,.c 0),(22,.c 0),(56,.c 0),(74,.c 0),(89,.c 0),(101,.c 0),(107,.c 0),(125,.c 1),(131,.c 1),(135,.c 1),(155,.c 1),(165,.c 1),(173,.c 1),(177,.c 1),(201,.c 0),(213,.c 0),(226,.c 0),(250,.c 0),(256,.c 0)]) (aa u0 (aa E18 (aa u2 (aa E56 (aa E74 (aa E89 (aa E101 (aa E107 (aa A125 (aa A131 (aa A135 (aa A155 (aa A165 (aa A173 (aa A177 (aa E201 (aa E213 (aa E226 (aa E250 (aa E256 au)))))))))))))))))))) (by kernel_rfl)
 have q0:dA (v 0) (v 0)=true:=dw (by rw [e0];omega)
 have q4:dA (v 4) (v 4)=true:=dw (by rw [e4];omega)
 have q44:dA (v 44) (v 44)=true:=dw (by rw [s44];omega)
 have q217:dA (v 217) (v 217)=true:=dw (by rw [w217];omega)
 have q230:dA (v 230) (v 231)=true:=(cO _ _).2 (by omega)
 have q188:dA (v 188) (v 189)=true:=(cO _ _).2 (by rw [z188,z189,w169,w170];omega)
 refine ⟨cB ?_,?_⟩
 . exact af (fun _=>trivial) (af (fun _=>q44) (af (fun _=>q4) (af (fun _=>⟨bD U45,bD U48⟩) (af (fun _=>q0) (af (fun _=>q4) (af (fun _=>⟨bD U60,bD U66⟩) (af (fun _=>q0) (af (fun _=>q4) (af (fun _=>⟨bD U78,bD U48⟩) (af (fun _=>q44) (af (fun _=>⟨bD U87,bD U93⟩) (af (fun _=>⟨bD U72,bD U99⟩) (af (fun _=>⟨bD U54,F105⟩) (af (fun _=>q0) (af (fun _=>q4) (af (fun _=>⟨bD U60,bD U48⟩) (af (fun _=>q44) (af (fun _=>⟨bD U199,bD U205⟩) (af (fun _=>q217) (af (fun _=>⟨bD U218,bD U211⟩) (af (fun _=>A74) (af (fun _=>q230) (af (fun _=>q188) (af (fun _=>⟨bD U236,bD U242⟩) (af (fun _=>bD U248) (cz))))))))))))))))))))))))))
 . intro x hx0;have hx':=cu (v:=v) (by rfl) hx0
   rw [hx'];show Value.tuple #[.agg #[.int .i64 (v 269),.int .i64 (v 270)],.int .i64 (v 268)]=_;have V:gW a b c d m n=[fo (cN a b c d m n).1,eF (cN a b c d m n).2,0]:=((if_pos g0).trans (if_pos ⟨h1,h2⟩)).trans (if_neg g2);rw [z268,z269,z270,V,V0,V1,n0,n1];rfl
