/- The contract of the reference's Make, for quotients up to 1. -/
import Derived.Test.YtknhbpnclokciaaGreatZMakeD
import Derived.Test.YtknhbpnclokciaaGreatZSpE
import Derived.Test.YtknhbpnclokciaaGreatZPlus
set_option linter.unusedVariables false
set_option linter.unusedSimpArgs false
set_option maxRecDepth 100000
namespace Alm
open Go Sx Go.RowKit
theorem xA {n c w s z:Int} (hn:-1099511627776<=n/\n<=1099511627776) (ec:c=b2i (decide (n<0))) (ew:w=IntKind.u64.wrap n) (es:s=IntKind.u64.wrap (0-w)) (ez:z=if c≠0 then s else w):z=((n.natAbs:Nat):Int):=by
 by_cases q:n<0
 . rw [decide_eq_true q] at ec;rw [ez,ec,if_pos (by decide),es,ew]
   simp only [IntKind.wrap_u64];omega
 . rw [decide_eq_false q] at ec;rw [ez,ec,if_neg (by decide),ew]
   simp only [IntKind.wrap_u64];omega
def MkK (a b i:Nat) (m r:Int):Prop:=∃ m' r':Nat,m=m'/\r=r'/\MkI a b i m' r'
theorem aP {a b i:Nat} {m r B p s g x y z M R:Int} (hb:0<b/\b<=1099511627776) (hq:a<3*b) (eB:B=b) (h:MkK a b i m r) (hi:i<30) (ep:p=IntKind.i64.wrap (2*m)) (es:s=IntKind.u64.wrap (B-r)) (eg:g=b2i (decide (r>=s))) (ex:x=IntKind.u64.wrap (r-s)) (ey:y=IntKind.i64.wrap (p+1)) (ez:z=IntKind.u64.wrap (2*r)) (eM:M=if g≠0 then y else p) (eR:R=if g≠0 then x else z):MkK a b (i+1) M R:=by
 obtain ⟨m',r',rfl,rfl,hI⟩:=h;have bd:=MP hI hb.1 hq;have hr:=hI.2.2;rw [Go.IntWalk.i64_in _ (by omega)] at ep
 rw [ep,Go.IntWalk.i64_in _ (by omega)] at ey
 rw [eB] at es;simp only [IntKind.wrap_u64] at es ex ez;have s1:s=((b-r':Nat):Int):=by omega
 by_cases q:b-r'<=r'
 . rw [decide_eq_true (by omega)] at eg
   rw [eg,if_pos (by decide)] at eM eR
   exact ⟨2*m'+1,r'-(b-r'),by omega,by omega,Kr hI hi q⟩
 . rw [decide_eq_false (by omega)] at eg
   rw [eg,if_neg (by decide)] at eM eR
   exact ⟨2*m',2*r',by omega,by omega,QR hI hi q⟩
theorem Iz {a b:Nat} {A B q r m:Int} (hb:0<b/\b<=1099511627776) (ha:a<=b) (eA:A=a) (eB:B=b) (eq:q=IntKind.u64.wrap (Int.tdiv A B)) (er:r=Int.tmod A B) (em:m=IntKind.i64.wrap q):MkK a b 0 m r/\q<=1:=by
 have d:a/b<=1:=Nat.le_trans (Nat.div_le_div_right ha) (by rw [Nat.div_self hb.1];omega)
 have q1:q=((a/b:Nat):Int):=by
  rw [eq,eA,eB,Int.tdiv_eq_ediv_of_nonneg (by omega),<-Int.natCast_ediv]
  exact Go.Proofs.YtknhbpnclokciaaGreat.wrapN _ (Nat.lt_of_le_of_lt d (by decide))
 have r1:r=((a%b:Nat):Int):=by
  rw [er,eA,eB,Int.tmod_eq_emod_of_nonneg (by omega),<-Int.natCast_emod]
 refine ⟨⟨a/b,a%b,?_,r1,Hu a b hb.1⟩,?_⟩
 . rw [em,q1];generalize a/b=Q at d;exact Go.IntWalk.i64_in _ (by omega)
 . rw [q1];generalize a/b=Q at d;omega
end Alm
namespace Go.Proofs.YtknhbpnclokciaaGreat
open Go.RowKit Alm Sx
theorem PN {a b:Nat} {x d c9 c4 m r g u z e f n1 n2:Int} (hb:0<b/\b<=1099511627776) (ha:a<=b) (hd:d=b) (hx:-d<=x/\x<=d) (hxa:x.natAbs=a) (h:MkK a b 30 m r) (e4:c4=b2i (decide (x<0))) (e9:c9=0) (eg:g=b2i (decide (r>0))) (eu:u=IntKind.i64.wrap (m+1)) (ez:z=if g≠0 then u else m) (ee:e=b2i (c4==c9)) (ef:f=if e≠0 then (0:Int) else 1) (en1:n1=IntKind.i64.wrap (0-z)) (en2:n2=IntKind.i64.wrap (0-m)) :
 (-1073741824<=qFl x 1073741824 d/\qFl x 1073741824 d<=qCe x 1073741824 d/\qCe x 1073741824 d<=1073741824)/\((x<0/\f=1/\n1=qFl x 1073741824 d/\n2=qCe x 1073741824 d)∨(0<=x/\f=0/\m=qFl x 1073741824 d/\z=qCe x 1073741824 d)):=by
 obtain ⟨m',r',rfl,rfl,hI⟩:=h;have bd:=MP hI hb.1 (by omega)
 have E:=O6 hI x d hb.1 hd
 have bd2:m'<=1073741824/\(0<r'->m'+1<=1073741824):=by
  obtain ⟨h1,h2,h3⟩:=hI;have e:(2:Nat)^30=1073741824:=rfl;rw [e] at h2;have m1:=Nat.mul_le_mul_right 1073741824 ha;have k:m'*b<=1073741824*b:=by omega
  refine ⟨Nat.le_of_mul_le_mul_right k hb.1,fun hr=>?_⟩
  have k2:m'*b<1073741824*b:=by omega
  exact Nat.lt_of_mul_lt_mul_right k2
 rw [Go.IntWalk.i64_in _ (by omega)] at eu
 have z1:z=((m'+(if 0<r' then 1 else 0):Nat):Int):=by
  rw [ez,eg]
  by_cases q:0<r'
  . rw [decide_eq_true (by omega),if_pos (by decide),eu,if_pos q];omega
  . rw [decide_eq_false (by omega),if_neg (by decide),if_neg q];omega
 have z2:(m'+(if 0<r' then 1 else 0):Nat)<=1073741824:=by
  split
  . rename_i q;exact bd2.2 q
  . omega
 have z3:((m'+(if 0<r' then 1 else 0):Nat):Int)=(m':Int)+(if 0<r' then 1 else 0):=by split<;>simp
 have z4:(0:Int)<=(if 0<r' then 1 else 0):=by split<;>omega
 rw [<-z3] at E;rw [Go.IntWalk.i64_in _ (by omega)] at en1 en2
 by_cases q:x<0
 . obtain ⟨E1,E2⟩:=E.2 (by omega)
   rw [decide_eq_true q] at e4;have ef':f=1:=by rw [ef,ee,e4,e9];rfl
   exact ⟨by omega,.inl ⟨q,ef',by omega,by omega⟩⟩
 . obtain ⟨E1,E2⟩:=E.1 (by omega)
   rw [decide_eq_false q] at e4;have ef':f=0:=by rw [ef,ee,e4,e9];rfl
   exact ⟨by omega,.inr ⟨by omega,ef',by omega,by omega⟩⟩
def zF:List Nd:=[
 .arg 0,
 .arg 1,
 .bin .eql .i64 (.n 1) (.c 0),
 .ite (.n 2) (.c 0) (.c 1),
 .bin .lss .i64 (.n 0) (.c 0),
 .wrap .u64 (.n 0),
 .bin .sub .u64 (.c 0) (.n 5),
 .ite (.n 4) (.c 0) (.c 1),
 .ite (.n 4) (.n 6) (.n 5),
 .bin .lss .i64 (.n 1) (.c 0),
 .wrap .u64 (.n 1),
 .bin .sub .u64 (.c 0) (.n 10),
 .ite (.n 9) (.c 0) (.c 1),
 .ite (.n 9) (.n 11) (.n 10),
 .bin .quo .u64 (.n 8) (.n 13),
 .bin .gtr .u64 (.n 14) (.c 2),
 .bin .eql .u64 (.n 14) (.c 2),
 .bin .rem .u64 (.n 8) (.n 13),
 .bin .gtr .u64 (.n 17) (.c 0),
 .ite (.n 16) (.n 18) (.c 0),
 .ite (.n 15) (.c 1) (.n 19),
 .ite (.n 20) (.c 0) (.c 1),
 .wrap .i64 (.n 14),
 .bin .mul .i64 (.c 2) (.n 22),
 .bin .sub .u64 (.n 13) (.n 17),
 .bin .geq .u64 (.n 17) (.n 24),
 .bin .sub .u64 (.n 17) (.n 24),
 .bin .add .i64 (.n 23) (.c 1),
 .bin .mul .u64 (.c 2) (.n 17),
 .ite (.n 25) (.c 0) (.c 1),
 .ite (.n 25) (.n 27) (.n 23),
 .ite (.n 25) (.n 26) (.n 28),
 .bin .mul .i64 (.c 2) (.n 30),
 .bin .sub .u64 (.n 13) (.n 31),
 .bin .geq .u64 (.n 31) (.n 33),
 .bin .sub .u64 (.n 31) (.n 33),
 .bin .add .i64 (.n 32) (.c 1),
 .bin .mul .u64 (.c 2) (.n 31),
 .ite (.n 34) (.c 0) (.c 1),
 .ite (.n 34) (.n 36) (.n 32),
 .ite (.n 34) (.n 35) (.n 37),
 .bin .mul .i64 (.c 2) (.n 39),
 .bin .sub .u64 (.n 13) (.n 40),
 .bin .geq .u64 (.n 40) (.n 42),
 .bin .sub .u64 (.n 40) (.n 42),
 .bin .add .i64 (.n 41) (.c 1),
 .bin .mul .u64 (.c 2) (.n 40),
 .ite (.n 43) (.c 0) (.c 1),
 .ite (.n 43) (.n 45) (.n 41),
 .ite (.n 43) (.n 44) (.n 46),
 .bin .mul .i64 (.c 2) (.n 48),
 .bin .sub .u64 (.n 13) (.n 49),
 .bin .geq .u64 (.n 49) (.n 51),
 .bin .sub .u64 (.n 49) (.n 51),
 .bin .add .i64 (.n 50) (.c 1),
 .bin .mul .u64 (.c 2) (.n 49),
 .ite (.n 52) (.c 0) (.c 1),
 .ite (.n 52) (.n 54) (.n 50),
 .ite (.n 52) (.n 53) (.n 55),
 .bin .mul .i64 (.c 2) (.n 57),
 .bin .sub .u64 (.n 13) (.n 58),
 .bin .geq .u64 (.n 58) (.n 60),
 .bin .sub .u64 (.n 58) (.n 60),
 .bin .add .i64 (.n 59) (.c 1),
 .bin .mul .u64 (.c 2) (.n 58),
 .ite (.n 61) (.c 0) (.c 1),
 .ite (.n 61) (.n 63) (.n 59),
 .ite (.n 61) (.n 62) (.n 64),
 .bin .mul .i64 (.c 2) (.n 66),
 .bin .sub .u64 (.n 13) (.n 67),
 .bin .geq .u64 (.n 67) (.n 69),
 .bin .sub .u64 (.n 67) (.n 69),
 .bin .add .i64 (.n 68) (.c 1),
 .bin .mul .u64 (.c 2) (.n 67),
 .ite (.n 70) (.c 0) (.c 1),
 .ite (.n 70) (.n 72) (.n 68),
 .ite (.n 70) (.n 71) (.n 73),
 .bin .mul .i64 (.c 2) (.n 75),
 .bin .sub .u64 (.n 13) (.n 76),
 .bin .geq .u64 (.n 76) (.n 78),
 .bin .sub .u64 (.n 76) (.n 78),
 .bin .add .i64 (.n 77) (.c 1),
 .bin .mul .u64 (.c 2) (.n 76),
 .ite (.n 79) (.c 0) (.c 1),
 .ite (.n 79) (.n 81) (.n 77),
 .ite (.n 79) (.n 80) (.n 82),
 .bin .mul .i64 (.c 2) (.n 84),
 .bin .sub .u64 (.n 13) (.n 85),
 .bin .geq .u64 (.n 85) (.n 87),
 .bin .sub .u64 (.n 85) (.n 87),
 .bin .add .i64 (.n 86) (.c 1),
 .bin .mul .u64 (.c 2) (.n 85),
 .ite (.n 88) (.c 0) (.c 1),
 .ite (.n 88) (.n 90) (.n 86),
 .ite (.n 88) (.n 89) (.n 91),
 .bin .mul .i64 (.c 2) (.n 93),
 .bin .sub .u64 (.n 13) (.n 94),
 .bin .geq .u64 (.n 94) (.n 96),
 .bin .sub .u64 (.n 94) (.n 96),
 .bin .add .i64 (.n 95) (.c 1),
 .bin .mul .u64 (.c 2) (.n 94),
 .ite (.n 97) (.c 0) (.c 1),
 .ite (.n 97) (.n 99) (.n 95),
 .ite (.n 97) (.n 98) (.n 100),
 .bin .mul .i64 (.c 2) (.n 102),
 .bin .sub .u64 (.n 13) (.n 103),
 .bin .geq .u64 (.n 103) (.n 105),
 .bin .sub .u64 (.n 103) (.n 105),
 .bin .add .i64 (.n 104) (.c 1),
 .bin .mul .u64 (.c 2) (.n 103),
 .ite (.n 106) (.c 0) (.c 1),
 .ite (.n 106) (.n 108) (.n 104),
 .ite (.n 106) (.n 107) (.n 109),
 .bin .mul .i64 (.c 2) (.n 111),
 .bin .sub .u64 (.n 13) (.n 112),
 .bin .geq .u64 (.n 112) (.n 114),
 .bin .sub .u64 (.n 112) (.n 114),
 .bin .add .i64 (.n 113) (.c 1),
 .bin .mul .u64 (.c 2) (.n 112),
 .ite (.n 115) (.c 0) (.c 1),
 .ite (.n 115) (.n 117) (.n 113),
 .ite (.n 115) (.n 116) (.n 118),
 .bin .mul .i64 (.c 2) (.n 120),
 .bin .sub .u64 (.n 13) (.n 121),
 .bin .geq .u64 (.n 121) (.n 123),
 .bin .sub .u64 (.n 121) (.n 123),
 .bin .add .i64 (.n 122) (.c 1),
 .bin .mul .u64 (.c 2) (.n 121),
 .ite (.n 124) (.c 0) (.c 1),
 .ite (.n 124) (.n 126) (.n 122),
 .ite (.n 124) (.n 125) (.n 127),
 .bin .mul .i64 (.c 2) (.n 129),
 .bin .sub .u64 (.n 13) (.n 130),
 .bin .geq .u64 (.n 130) (.n 132),
 .bin .sub .u64 (.n 130) (.n 132),
 .bin .add .i64 (.n 131) (.c 1),
 .bin .mul .u64 (.c 2) (.n 130),
 .ite (.n 133) (.c 0) (.c 1),
 .ite (.n 133) (.n 135) (.n 131),
 .ite (.n 133) (.n 134) (.n 136),
 .bin .mul .i64 (.c 2) (.n 138),
 .bin .sub .u64 (.n 13) (.n 139),
 .bin .geq .u64 (.n 139) (.n 141),
 .bin .sub .u64 (.n 139) (.n 141),
 .bin .add .i64 (.n 140) (.c 1),
 .bin .mul .u64 (.c 2) (.n 139),
 .ite (.n 142) (.c 0) (.c 1),
 .ite (.n 142) (.n 144) (.n 140),
 .ite (.n 142) (.n 143) (.n 145),
 .bin .mul .i64 (.c 2) (.n 147),
 .bin .sub .u64 (.n 13) (.n 148),
 .bin .geq .u64 (.n 148) (.n 150),
 .bin .sub .u64 (.n 148) (.n 150),
 .bin .add .i64 (.n 149) (.c 1),
 .bin .mul .u64 (.c 2) (.n 148),
 .ite (.n 151) (.c 0) (.c 1),
 .ite (.n 151) (.n 153) (.n 149),
 .ite (.n 151) (.n 152) (.n 154),
 .bin .mul .i64 (.c 2) (.n 156),
 .bin .sub .u64 (.n 13) (.n 157),
 .bin .geq .u64 (.n 157) (.n 159),
 .bin .sub .u64 (.n 157) (.n 159),
 .bin .add .i64 (.n 158) (.c 1),
 .bin .mul .u64 (.c 2) (.n 157),
 .ite (.n 160) (.c 0) (.c 1),
 .ite (.n 160) (.n 162) (.n 158),
 .ite (.n 160) (.n 161) (.n 163),
 .bin .mul .i64 (.c 2) (.n 165),
 .bin .sub .u64 (.n 13) (.n 166),
 .bin .geq .u64 (.n 166) (.n 168),
 .bin .sub .u64 (.n 166) (.n 168),
 .bin .add .i64 (.n 167) (.c 1),
 .bin .mul .u64 (.c 2) (.n 166),
 .ite (.n 169) (.c 0) (.c 1),
 .ite (.n 169) (.n 171) (.n 167),
 .ite (.n 169) (.n 170) (.n 172),
 .bin .mul .i64 (.c 2) (.n 174),
 .bin .sub .u64 (.n 13) (.n 175),
 .bin .geq .u64 (.n 175) (.n 177),
 .bin .sub .u64 (.n 175) (.n 177),
 .bin .add .i64 (.n 176) (.c 1),
 .bin .mul .u64 (.c 2) (.n 175),
 .ite (.n 178) (.c 0) (.c 1),
 .ite (.n 178) (.n 180) (.n 176),
 .ite (.n 178) (.n 179) (.n 181),
 .bin .mul .i64 (.c 2) (.n 183),
 .bin .sub .u64 (.n 13) (.n 184),
 .bin .geq .u64 (.n 184) (.n 186),
 .bin .sub .u64 (.n 184) (.n 186),
 .bin .add .i64 (.n 185) (.c 1),
 .bin .mul .u64 (.c 2) (.n 184),
 .ite (.n 187) (.c 0) (.c 1),
 .ite (.n 187) (.n 189) (.n 185),
 .ite (.n 187) (.n 188) (.n 190),
 .bin .mul .i64 (.c 2) (.n 192),
 .bin .sub .u64 (.n 13) (.n 193),
 .bin .geq .u64 (.n 193) (.n 195),
 .bin .sub .u64 (.n 193) (.n 195),
 .bin .add .i64 (.n 194) (.c 1),
 .bin .mul .u64 (.c 2) (.n 193),
 .ite (.n 196) (.c 0) (.c 1),
 .ite (.n 196) (.n 198) (.n 194),
 .ite (.n 196) (.n 197) (.n 199),
 .bin .mul .i64 (.c 2) (.n 201),
 .bin .sub .u64 (.n 13) (.n 202),
 .bin .geq .u64 (.n 202) (.n 204),
 .bin .sub .u64 (.n 202) (.n 204),
 .bin .add .i64 (.n 203) (.c 1),
 .bin .mul .u64 (.c 2) (.n 202),
 .ite (.n 205) (.c 0) (.c 1),
 .ite (.n 205) (.n 207) (.n 203),
 .ite (.n 205) (.n 206) (.n 208),
 .bin .mul .i64 (.c 2) (.n 210),
 .bin .sub .u64 (.n 13) (.n 211),
 .bin .geq .u64 (.n 211) (.n 213),
 .bin .sub .u64 (.n 211) (.n 213),
 .bin .add .i64 (.n 212) (.c 1),
 .bin .mul .u64 (.c 2) (.n 211),
 .ite (.n 214) (.c 0) (.c 1),
 .ite (.n 214) (.n 216) (.n 212),
 .ite (.n 214) (.n 215) (.n 217),
 .bin .mul .i64 (.c 2) (.n 219),
 .bin .sub .u64 (.n 13) (.n 220),
 .bin .geq .u64 (.n 220) (.n 222),
 .bin .sub .u64 (.n 220) (.n 222),
 .bin .add .i64 (.n 221) (.c 1),
 .bin .mul .u64 (.c 2) (.n 220),
 .ite (.n 223) (.c 0) (.c 1),
 .ite (.n 223) (.n 225) (.n 221),
 .ite (.n 223) (.n 224) (.n 226),
 .bin .mul .i64 (.c 2) (.n 228),
 .bin .sub .u64 (.n 13) (.n 229),
 .bin .geq .u64 (.n 229) (.n 231),
 .bin .sub .u64 (.n 229) (.n 231),
 .bin .add .i64 (.n 230) (.c 1),
 .bin .mul .u64 (.c 2) (.n 229),
 .ite (.n 232) (.c 0) (.c 1),
 .ite (.n 232) (.n 234) (.n 230),
 .ite (.n 232) (.n 233) (.n 235),
 .bin .mul .i64 (.c 2) (.n 237),
 .bin .sub .u64 (.n 13) (.n 238),
 .bin .geq .u64 (.n 238) (.n 240),
 .bin .sub .u64 (.n 238) (.n 240),
 .bin .add .i64 (.n 239) (.c 1),
 .bin .mul .u64 (.c 2) (.n 238),
 .ite (.n 241) (.c 0) (.c 1),
 .ite (.n 241) (.n 243) (.n 239),
 .ite (.n 241) (.n 242) (.n 244),
 .bin .mul .i64 (.c 2) (.n 246),
 .bin .sub .u64 (.n 13) (.n 247),
 .bin .geq .u64 (.n 247) (.n 249),
 .bin .sub .u64 (.n 247) (.n 249),
 .bin .add .i64 (.n 248) (.c 1),
 .bin .mul .u64 (.c 2) (.n 247),
 .ite (.n 250) (.c 0) (.c 1),
 .ite (.n 250) (.n 252) (.n 248),
 .ite (.n 250) (.n 251) (.n 253),
 .bin .mul .i64 (.c 2) (.n 255),
 .bin .sub .u64 (.n 13) (.n 256),
 .bin .geq .u64 (.n 256) (.n 258),
 .bin .sub .u64 (.n 256) (.n 258),
 .bin .add .i64 (.n 257) (.c 1),
 .bin .mul .u64 (.c 2) (.n 256),
 .ite (.n 259) (.c 0) (.c 1),
 .ite (.n 259) (.n 261) (.n 257),
 .ite (.n 259) (.n 260) (.n 262),
 .bin .mul .i64 (.c 2) (.n 264),
 .bin .sub .u64 (.n 13) (.n 265),
 .bin .geq .u64 (.n 265) (.n 267),
 .bin .sub .u64 (.n 265) (.n 267),
 .bin .add .i64 (.n 266) (.c 1),
 .bin .mul .u64 (.c 2) (.n 265),
 .ite (.n 268) (.c 0) (.c 1),
 .ite (.n 268) (.n 270) (.n 266),
 .ite (.n 268) (.n 269) (.n 271),
 .bin .mul .i64 (.c 2) (.n 273),
 .bin .sub .u64 (.n 13) (.n 274),
 .bin .geq .u64 (.n 274) (.n 276),
 .bin .sub .u64 (.n 274) (.n 276),
 .bin .add .i64 (.n 275) (.c 1),
 .bin .mul .u64 (.c 2) (.n 274),
 .ite (.n 277) (.c 0) (.c 1),
 .ite (.n 277) (.n 279) (.n 275),
 .ite (.n 277) (.n 278) (.n 280),
 .bin .mul .i64 (.c 2) (.n 282),
 .bin .sub .u64 (.n 13) (.n 283),
 .bin .geq .u64 (.n 283) (.n 285),
 .bin .sub .u64 (.n 283) (.n 285),
 .bin .add .i64 (.n 284) (.c 1),
 .bin .mul .u64 (.c 2) (.n 283),
 .ite (.n 286) (.c 0) (.c 1),
 .ite (.n 286) (.n 288) (.n 284),
 .ite (.n 286) (.n 287) (.n 289),
 .bin .gtr .u64 (.n 292) (.c 0),
 .bin .add .i64 (.n 291) (.c 1),
 .ite (.n 293) (.c 0) (.c 1),
 .ite (.n 293) (.n 294) (.n 291),
 .bin .eql .i64 (.n 4) (.n 9),
 .ite (.n 297) (.c 0) (.c 1),
 .bin .sub .i64 (.c 0) (.n 296),
 .bin .sub .i64 (.c 0) (.n 291),
 .bin .lss .i64 (.n 299) (.c (-2147483648)),
 .bin .gtr .i64 (.n 300) (.c 2147483648),
 .ite (.n 301) (.c 1) (.n 302),
 .ite (.n 303) (.c 0) (.c 1),
 .ite (.n 303) (.c 5) (.c 0),
 .ite (.n 303) (.c 0) (.n 299),
 .ite (.n 303) (.c 0) (.n 300),
 .bin .lss .i64 (.n 291) (.c (-2147483648)),
 .bin .gtr .i64 (.n 296) (.c 2147483648),
 .ite (.n 308) (.c 1) (.n 309),
 .ite (.n 310) (.c 0) (.c 1),
 .ite (.n 310) (.c 5) (.c 0),
 .ite (.n 310) (.c 0) (.n 291),
 .ite (.n 310) (.c 0) (.n 296),
 .ite (.n 298) (.n 305) (.n 312),
 .ite (.n 298) (.n 306) (.n 313),
 .ite (.n 298) (.n 307) (.n 314),
 .ite (.n 20) (.c 5) (.n 315),
 .ite (.n 20) (.c 0) (.n 316),
 .ite (.n 20) (.c 0) (.n 317),
 .ite (.n 2) (.c 16) (.n 318),
 .ite (.n 2) (.c 0) (.n 319),
 .ite (.n 2) (.c 0) (.n 320)]
def NA:List Vc:=[
 ⟨[(.n 3,true)],.ne0 (.n 13)⟩,
 ⟨[(.n 3,true),(.n 15,false)],.ne0 (.n 13)⟩,
 ⟨[(.n 3,true),(.n 16,true),(.n 15,false)],.ne0 (.n 13)⟩,
 ⟨[(.n 21,true),(.n 3,true)],.ne0 (.n 13)⟩,
 ⟨[(.n 21,true),(.n 3,true)],.ne0 (.n 13)⟩]
theorem JY:whole Tryz.prog [] 40 40 217 [(false,[some .i64]),(false,[some .i64])]=some (.tup [.agg [.int .i64 (.n 322),.int .i64 (.n 323)],.c (.int .i64 (.n 321))],⟨zF.reverse,NA.reverse⟩):=by kernel_rfl
theorem Mk:wfN zF.reverse=true:=by kernel_rfl
theorem Ov (x d:Int) (w:World) (hd:0<d/\d<=1099511627776) (hx:-d<=x/\x<=d):Calls Tryz.prog 217 #[.int .i64 x,.int .i64 d] w fun e w'=>e=.returned (.tuple #[.agg #[.int .i64 (qFl x 1073741824 d),.int .i64 (qCe x 1073741824 d)],.int .i64 0])/\Below w.heap.size w w':=by
 refine Sx.calls (X:=cxE [x,d]) il (fun s hs=>by cases hs) JY Mk (fun v hs=>?_) w
 have e0:v 0=x:=ae hs 0 rfl;have e1:v 1=d:=ae hs 1 rfl;have hb:0<d.natAbs/\d.natAbs<=1099511627776:=by omega
 have ha:x.natAbs<=d.natAbs:=by omega
 have hq:x.natAbs<3*d.natAbs:=by omega
 have w8:v 8=((x.natAbs:Nat):Int):=by rw [<-e0];exact xA (n:=v 0) (c:=v 4) (w:=v 5) (s:=v 6) (z:=v 8) (by omega) (ae hs 4 rfl) (ae hs 5 rfl) (ae hs 6 rfl) (ae hs 8 rfl)
 have w13:v 13=((d.natAbs:Nat):Int):=by rw [<-e1];exact xA (n:=v 1) (c:=v 9) (w:=v 10) (s:=v 11) (z:=v 13) (by omega) (ae hs 9 rfl) (ae hs 10 rfl) (ae hs 11 rfl) (ae hs 13 rfl)
 have k2:v 2=0:=by rw [show v 2=b2i (v 1==(0:Int)) from ae hs 2 rfl,e1,show (d==(0:Int))=false from by simp;omega];rfl
 have k9:v 9=0:=by rw [show v 9=b2i (decide (v 1<(0:Int))) from ae hs 9 rfl,e1,decide_eq_false (by omega)];rfl
 obtain ⟨M0,q1⟩:=Iz (a:=x.natAbs) (b:=d.natAbs) (A:=v 8) (B:=v 13) (q:=v 14) (r:=v 17) (m:=v 22) hb ha w8 w13 (ae hs 14 rfl) (ae hs 17 rfl) (ae hs 22 rfl)
 have k20:v 20=0:=by
  rw [show v 20=if v 15≠0 then (1:Int) else v 19 from ae hs 20 rfl,show v 15=b2i (decide (v 14>(2:Int))) from ae hs 15 rfl,decide_eq_false (by omega),if_neg (by decide),show v 19=if v 16≠0 then v 18 else (0:Int) from ae hs 19 rfl,show v 16=b2i (v 14==(2:Int)) from ae hs 16 rfl,show (v 14==(2:Int))=false from by simp;omega,if_neg (by decide)]
 have M1:MkK x.natAbs d.natAbs 1 (v 30) (v 31):=aP (i:=0) (m:=v 22) (r:=v 17) (B:=v 13) (p:=v 23) (s:=v 24) (g:=v 25) (x:=v 26) (y:=v 27) (z:=v 28) (M:=v 30) (R:=v 31) hb hq w13 M0 (by decide) (ae hs 23 rfl) (ae hs 24 rfl) (ae hs 25 rfl) (ae hs 26 rfl) (ae hs 27 rfl) (ae hs 28 rfl) (ae hs 30 rfl) (ae hs 31 rfl)
 clear M0;have M2:MkK x.natAbs d.natAbs 2 (v 39) (v 40):=aP (i:=1) (m:=v 30) (r:=v 31) (B:=v 13) (p:=v 32) (s:=v 33) (g:=v 34) (x:=v 35) (y:=v 36) (z:=v 37) (M:=v 39) (R:=v 40) hb hq w13 M1 (by decide) (ae hs 32 rfl) (ae hs 33 rfl) (ae hs 34 rfl) (ae hs 35 rfl) (ae hs 36 rfl) (ae hs 37 rfl) (ae hs 39 rfl) (ae hs 40 rfl)
 clear M1;have M3:MkK x.natAbs d.natAbs 3 (v 48) (v 49):=aP (i:=2) (m:=v 39) (r:=v 40) (B:=v 13) (p:=v 41) (s:=v 42) (g:=v 43) (x:=v 44) (y:=v 45) (z:=v 46) (M:=v 48) (R:=v 49) hb hq w13 M2 (by decide) (ae hs 41 rfl) (ae hs 42 rfl) (ae hs 43 rfl) (ae hs 44 rfl) (ae hs 45 rfl) (ae hs 46 rfl) (ae hs 48 rfl) (ae hs 49 rfl)
 clear M2;have M4:MkK x.natAbs d.natAbs 4 (v 57) (v 58):=aP (i:=3) (m:=v 48) (r:=v 49) (B:=v 13) (p:=v 50) (s:=v 51) (g:=v 52) (x:=v 53) (y:=v 54) (z:=v 55) (M:=v 57) (R:=v 58) hb hq w13 M3 (by decide) (ae hs 50 rfl) (ae hs 51 rfl) (ae hs 52 rfl) (ae hs 53 rfl) (ae hs 54 rfl) (ae hs 55 rfl) (ae hs 57 rfl) (ae hs 58 rfl)
 clear M3;have M5:MkK x.natAbs d.natAbs 5 (v 66) (v 67):=aP (i:=4) (m:=v 57) (r:=v 58) (B:=v 13) (p:=v 59) (s:=v 60) (g:=v 61) (x:=v 62) (y:=v 63) (z:=v 64) (M:=v 66) (R:=v 67) hb hq w13 M4 (by decide) (ae hs 59 rfl) (ae hs 60 rfl) (ae hs 61 rfl) (ae hs 62 rfl) (ae hs 63 rfl) (ae hs 64 rfl) (ae hs 66 rfl) (ae hs 67 rfl)
 clear M4;have M6:MkK x.natAbs d.natAbs 6 (v 75) (v 76):=aP (i:=5) (m:=v 66) (r:=v 67) (B:=v 13) (p:=v 68) (s:=v 69) (g:=v 70) (x:=v 71) (y:=v 72) (z:=v 73) (M:=v 75) (R:=v 76) hb hq w13 M5 (by decide) (ae hs 68 rfl) (ae hs 69 rfl) (ae hs 70 rfl) (ae hs 71 rfl) (ae hs 72 rfl) (ae hs 73 rfl) (ae hs 75 rfl) (ae hs 76 rfl)
 clear M5;have M7:MkK x.natAbs d.natAbs 7 (v 84) (v 85):=aP (i:=6) (m:=v 75) (r:=v 76) (B:=v 13) (p:=v 77) (s:=v 78) (g:=v 79) (x:=v 80) (y:=v 81) (z:=v 82) (M:=v 84) (R:=v 85) hb hq w13 M6 (by decide) (ae hs 77 rfl) (ae hs 78 rfl) (ae hs 79 rfl) (ae hs 80 rfl) (ae hs 81 rfl) (ae hs 82 rfl) (ae hs 84 rfl) (ae hs 85 rfl)
 clear M6;have M8:MkK x.natAbs d.natAbs 8 (v 93) (v 94):=aP (i:=7) (m:=v 84) (r:=v 85) (B:=v 13) (p:=v 86) (s:=v 87) (g:=v 88) (x:=v 89) (y:=v 90) (z:=v 91) (M:=v 93) (R:=v 94) hb hq w13 M7 (by decide) (ae hs 86 rfl) (ae hs 87 rfl) (ae hs 88 rfl) (ae hs 89 rfl) (ae hs 90 rfl) (ae hs 91 rfl) (ae hs 93 rfl) (ae hs 94 rfl)
 clear M7;have M9:MkK x.natAbs d.natAbs 9 (v 102) (v 103):=aP (i:=8) (m:=v 93) (r:=v 94) (B:=v 13) (p:=v 95) (s:=v 96) (g:=v 97) (x:=v 98) (y:=v 99) (z:=v 100) (M:=v 102) (R:=v 103) hb hq w13 M8 (by decide) (ae hs 95 rfl) (ae hs 96 rfl) (ae hs 97 rfl) (ae hs 98 rfl) (ae hs 99 rfl) (ae hs 100 rfl) (ae hs 102 rfl) (ae hs 103 rfl)
 clear M8;have M10:MkK x.natAbs d.natAbs 10 (v 111) (v 112):=aP (i:=9) (m:=v 102) (r:=v 103) (B:=v 13) (p:=v 104) (s:=v 105) (g:=v 106) (x:=v 107) (y:=v 108) (z:=v 109) (M:=v 111) (R:=v 112) hb hq w13 M9 (by decide) (ae hs 104 rfl) (ae hs 105 rfl) (ae hs 106 rfl) (ae hs 107 rfl) (ae hs 108 rfl) (ae hs 109 rfl) (ae hs 111 rfl) (ae hs 112 rfl)
 clear M9;have M11:MkK x.natAbs d.natAbs 11 (v 120) (v 121):=aP (i:=10) (m:=v 111) (r:=v 112) (B:=v 13) (p:=v 113) (s:=v 114) (g:=v 115) (x:=v 116) (y:=v 117) (z:=v 118) (M:=v 120) (R:=v 121) hb hq w13 M10 (by decide) (ae hs 113 rfl) (ae hs 114 rfl) (ae hs 115 rfl) (ae hs 116 rfl) (ae hs 117 rfl) (ae hs 118 rfl) (ae hs 120 rfl) (ae hs 121 rfl)
 clear M10;have M12:MkK x.natAbs d.natAbs 12 (v 129) (v 130):=aP (i:=11) (m:=v 120) (r:=v 121) (B:=v 13) (p:=v 122) (s:=v 123) (g:=v 124) (x:=v 125) (y:=v 126) (z:=v 127) (M:=v 129) (R:=v 130) hb hq w13 M11 (by decide) (ae hs 122 rfl) (ae hs 123 rfl) (ae hs 124 rfl) (ae hs 125 rfl) (ae hs 126 rfl) (ae hs 127 rfl) (ae hs 129 rfl) (ae hs 130 rfl)
 clear M11;have M13:MkK x.natAbs d.natAbs 13 (v 138) (v 139):=aP (i:=12) (m:=v 129) (r:=v 130) (B:=v 13) (p:=v 131) (s:=v 132) (g:=v 133) (x:=v 134) (y:=v 135) (z:=v 136) (M:=v 138) (R:=v 139) hb hq w13 M12 (by decide) (ae hs 131 rfl) (ae hs 132 rfl) (ae hs 133 rfl) (ae hs 134 rfl) (ae hs 135 rfl) (ae hs 136 rfl) (ae hs 138 rfl) (ae hs 139 rfl)
 clear M12;have M14:MkK x.natAbs d.natAbs 14 (v 147) (v 148):=aP (i:=13) (m:=v 138) (r:=v 139) (B:=v 13) (p:=v 140) (s:=v 141) (g:=v 142) (x:=v 143) (y:=v 144) (z:=v 145) (M:=v 147) (R:=v 148) hb hq w13 M13 (by decide) (ae hs 140 rfl) (ae hs 141 rfl) (ae hs 142 rfl) (ae hs 143 rfl) (ae hs 144 rfl) (ae hs 145 rfl) (ae hs 147 rfl) (ae hs 148 rfl)
 clear M13;have M15:MkK x.natAbs d.natAbs 15 (v 156) (v 157):=aP (i:=14) (m:=v 147) (r:=v 148) (B:=v 13) (p:=v 149) (s:=v 150) (g:=v 151) (x:=v 152) (y:=v 153) (z:=v 154) (M:=v 156) (R:=v 157) hb hq w13 M14 (by decide) (ae hs 149 rfl) (ae hs 150 rfl) (ae hs 151 rfl) (ae hs 152 rfl) (ae hs 153 rfl) (ae hs 154 rfl) (ae hs 156 rfl) (ae hs 157 rfl)
 clear M14;have M16:MkK x.natAbs d.natAbs 16 (v 165) (v 166):=aP (i:=15) (m:=v 156) (r:=v 157) (B:=v 13) (p:=v 158) (s:=v 159) (g:=v 160) (x:=v 161) (y:=v 162) (z:=v 163) (M:=v 165) (R:=v 166) hb hq w13 M15 (by decide) (ae hs 158 rfl) (ae hs 159 rfl) (ae hs 160 rfl) (ae hs 161 rfl) (ae hs 162 rfl) (ae hs 163 rfl) (ae hs 165 rfl) (ae hs 166 rfl)
 clear M15;have M17:MkK x.natAbs d.natAbs 17 (v 174) (v 175):=aP (i:=16) (m:=v 165) (r:=v 166) (B:=v 13) (p:=v 167) (s:=v 168) (g:=v 169) (x:=v 170) (y:=v 171) (z:=v 172) (M:=v 174) (R:=v 175) hb hq w13 M16 (by decide) (ae hs 167 rfl) (ae hs 168 rfl) (ae hs 169 rfl) (ae hs 170 rfl) (ae hs 171 rfl) (ae hs 172 rfl) (ae hs 174 rfl) (ae hs 175 rfl)
 clear M16;have M18:MkK x.natAbs d.natAbs 18 (v 183) (v 184):=aP (i:=17) (m:=v 174) (r:=v 175) (B:=v 13) (p:=v 176) (s:=v 177) (g:=v 178) (x:=v 179) (y:=v 180) (z:=v 181) (M:=v 183) (R:=v 184) hb hq w13 M17 (by decide) (ae hs 176 rfl) (ae hs 177 rfl) (ae hs 178 rfl) (ae hs 179 rfl) (ae hs 180 rfl) (ae hs 181 rfl) (ae hs 183 rfl) (ae hs 184 rfl)
 clear M17;have M19:MkK x.natAbs d.natAbs 19 (v 192) (v 193):=aP (i:=18) (m:=v 183) (r:=v 184) (B:=v 13) (p:=v 185) (s:=v 186) (g:=v 187) (x:=v 188) (y:=v 189) (z:=v 190) (M:=v 192) (R:=v 193) hb hq w13 M18 (by decide) (ae hs 185 rfl) (ae hs 186 rfl) (ae hs 187 rfl) (ae hs 188 rfl) (ae hs 189 rfl) (ae hs 190 rfl) (ae hs 192 rfl) (ae hs 193 rfl)
 clear M18;have M20:MkK x.natAbs d.natAbs 20 (v 201) (v 202):=aP (i:=19) (m:=v 192) (r:=v 193) (B:=v 13) (p:=v 194) (s:=v 195) (g:=v 196) (x:=v 197) (y:=v 198) (z:=v 199) (M:=v 201) (R:=v 202) hb hq w13 M19 (by decide) (ae hs 194 rfl) (ae hs 195 rfl) (ae hs 196 rfl) (ae hs 197 rfl) (ae hs 198 rfl) (ae hs 199 rfl) (ae hs 201 rfl) (ae hs 202 rfl)
 clear M19;have M21:MkK x.natAbs d.natAbs 21 (v 210) (v 211):=aP (i:=20) (m:=v 201) (r:=v 202) (B:=v 13) (p:=v 203) (s:=v 204) (g:=v 205) (x:=v 206) (y:=v 207) (z:=v 208) (M:=v 210) (R:=v 211) hb hq w13 M20 (by decide) (ae hs 203 rfl) (ae hs 204 rfl) (ae hs 205 rfl) (ae hs 206 rfl) (ae hs 207 rfl) (ae hs 208 rfl) (ae hs 210 rfl) (ae hs 211 rfl)
 clear M20;have M22:MkK x.natAbs d.natAbs 22 (v 219) (v 220):=aP (i:=21) (m:=v 210) (r:=v 211) (B:=v 13) (p:=v 212) (s:=v 213) (g:=v 214) (x:=v 215) (y:=v 216) (z:=v 217) (M:=v 219) (R:=v 220) hb hq w13 M21 (by decide) (ae hs 212 rfl) (ae hs 213 rfl) (ae hs 214 rfl) (ae hs 215 rfl) (ae hs 216 rfl) (ae hs 217 rfl) (ae hs 219 rfl) (ae hs 220 rfl)
 clear M21;have M23:MkK x.natAbs d.natAbs 23 (v 228) (v 229):=aP (i:=22) (m:=v 219) (r:=v 220) (B:=v 13) (p:=v 221) (s:=v 222) (g:=v 223) (x:=v 224) (y:=v 225) (z:=v 226) (M:=v 228) (R:=v 229) hb hq w13 M22 (by decide) (ae hs 221 rfl) (ae hs 222 rfl) (ae hs 223 rfl) (ae hs 224 rfl) (ae hs 225 rfl) (ae hs 226 rfl) (ae hs 228 rfl) (ae hs 229 rfl)
 clear M22;have M24:MkK x.natAbs d.natAbs 24 (v 237) (v 238):=aP (i:=23) (m:=v 228) (r:=v 229) (B:=v 13) (p:=v 230) (s:=v 231) (g:=v 232) (x:=v 233) (y:=v 234) (z:=v 235) (M:=v 237) (R:=v 238) hb hq w13 M23 (by decide) (ae hs 230 rfl) (ae hs 231 rfl) (ae hs 232 rfl) (ae hs 233 rfl) (ae hs 234 rfl) (ae hs 235 rfl) (ae hs 237 rfl) (ae hs 238 rfl)
 clear M23;have M25:MkK x.natAbs d.natAbs 25 (v 246) (v 247):=aP (i:=24) (m:=v 237) (r:=v 238) (B:=v 13) (p:=v 239) (s:=v 240) (g:=v 241) (x:=v 242) (y:=v 243) (z:=v 244) (M:=v 246) (R:=v 247) hb hq w13 M24 (by decide) (ae hs 239 rfl) (ae hs 240 rfl) (ae hs 241 rfl) (ae hs 242 rfl) (ae hs 243 rfl) (ae hs 244 rfl) (ae hs 246 rfl) (ae hs 247 rfl)
 clear M24;have M26:MkK x.natAbs d.natAbs 26 (v 255) (v 256):=aP (i:=25) (m:=v 246) (r:=v 247) (B:=v 13) (p:=v 248) (s:=v 249) (g:=v 250) (x:=v 251) (y:=v 252) (z:=v 253) (M:=v 255) (R:=v 256) hb hq w13 M25 (by decide) (ae hs 248 rfl) (ae hs 249 rfl) (ae hs 250 rfl) (ae hs 251 rfl) (ae hs 252 rfl) (ae hs 253 rfl) (ae hs 255 rfl) (ae hs 256 rfl)
 clear M25;have M27:MkK x.natAbs d.natAbs 27 (v 264) (v 265):=aP (i:=26) (m:=v 255) (r:=v 256) (B:=v 13) (p:=v 257) (s:=v 258) (g:=v 259) (x:=v 260) (y:=v 261) (z:=v 262) (M:=v 264) (R:=v 265) hb hq w13 M26 (by decide) (ae hs 257 rfl) (ae hs 258 rfl) (ae hs 259 rfl) (ae hs 260 rfl) (ae hs 261 rfl) (ae hs 262 rfl) (ae hs 264 rfl) (ae hs 265 rfl)
 clear M26;have M28:MkK x.natAbs d.natAbs 28 (v 273) (v 274):=aP (i:=27) (m:=v 264) (r:=v 265) (B:=v 13) (p:=v 266) (s:=v 267) (g:=v 268) (x:=v 269) (y:=v 270) (z:=v 271) (M:=v 273) (R:=v 274) hb hq w13 M27 (by decide) (ae hs 266 rfl) (ae hs 267 rfl) (ae hs 268 rfl) (ae hs 269 rfl) (ae hs 270 rfl) (ae hs 271 rfl) (ae hs 273 rfl) (ae hs 274 rfl)
 clear M27;have M29:MkK x.natAbs d.natAbs 29 (v 282) (v 283):=aP (i:=28) (m:=v 273) (r:=v 274) (B:=v 13) (p:=v 275) (s:=v 276) (g:=v 277) (x:=v 278) (y:=v 279) (z:=v 280) (M:=v 282) (R:=v 283) hb hq w13 M28 (by decide) (ae hs 275 rfl) (ae hs 276 rfl) (ae hs 277 rfl) (ae hs 278 rfl) (ae hs 279 rfl) (ae hs 280 rfl) (ae hs 282 rfl) (ae hs 283 rfl)
 clear M28;have M30:MkK x.natAbs d.natAbs 30 (v 291) (v 292):=aP (i:=29) (m:=v 282) (r:=v 283) (B:=v 13) (p:=v 284) (s:=v 285) (g:=v 286) (x:=v 287) (y:=v 288) (z:=v 289) (M:=v 291) (R:=v 292) hb hq w13 M29 (by decide) (ae hs 284 rfl) (ae hs 285 rfl) (ae hs 286 rfl) (ae hs 287 rfl) (ae hs 288 rfl) (ae hs 289 rfl) (ae hs 291 rfl) (ae hs 292 rfl)
 clear M29;obtain ⟨BD,F⟩:=PN (a:=x.natAbs) (b:=d.natAbs) (x:=x) (d:=d) (c9:=v 9) (c4:=v 4) (m:=v 291) (r:=v 292) (g:=v 293) (u:=v 294) (z:=v 296) (e:=v 297) (f:=v 298) (n1:=v 299) (n2:=v 300) hb ha (by omega) hx rfl M30 (by rw [show v 4=b2i (decide (v 0<(0:Int))) from ae hs 4 rfl,e0]) k9 (ae hs 293 rfl) (ae hs 294 rfl) (ae hs 296 rfl) (ae hs 297 rfl) (ae hs 298 rfl) (ae hs 299 rfl) (ae hs 300 rfl)
 have Z:v 315=0/\v 316=qFl x 1073741824 d/\v 317=qCe x 1073741824 d:=by
  have f315:v 315=if v 298≠0 then v 305 else v 312:=ae hs 315 rfl
  have f316:v 316=if v 298≠0 then v 306 else v 313:=ae hs 316 rfl
  have f317:v 317=if v 298≠0 then v 307 else v 314:=ae hs 317 rfl
  rcases F with ⟨_,f1,f2,f3⟩|⟨_,f1,f2,f3⟩
  . have g:v 303=0:=by rw [show v 303=if v 301≠0 then (1:Int) else v 302 from ae hs 303 rfl,show v 301=b2i (decide (v 299<(-2147483648:Int))) from ae hs 301 rfl,decide_eq_false (by omega),if_neg (by decide),show v 302=b2i (decide (v 300>(2147483648:Int))) from ae hs 302 rfl,decide_eq_false (by omega)];rfl
    rw [if_pos (by omega)] at f315 f316 f317
    rw [f315,f316,f317,show v 305=if v 303≠0 then (5:Int) else (0:Int) from ae hs 305 rfl,show v 306=if v 303≠0 then (0:Int) else v 299 from ae hs 306 rfl,show v 307=if v 303≠0 then (0:Int) else v 300 from ae hs 307 rfl,if_neg (by omega),if_neg (by omega),if_neg (by omega)]
    exact ⟨rfl,f2,f3⟩
  . have g:v 310=0:=by rw [show v 310=if v 308≠0 then (1:Int) else v 309 from ae hs 310 rfl,show v 308=b2i (decide (v 291<(-2147483648:Int))) from ae hs 308 rfl,decide_eq_false (by omega),if_neg (by decide),show v 309=b2i (decide (v 296>(2147483648:Int))) from ae hs 309 rfl,decide_eq_false (by omega)];rfl
    rw [if_neg (by omega)] at f315 f316 f317
    rw [f315,f316,f317,show v 312=if v 310≠0 then (5:Int) else (0:Int) from ae hs 312 rfl,show v 313=if v 310≠0 then (0:Int) else v 291 from ae hs 313 rfl,show v 314=if v 310≠0 then (0:Int) else v 296 from ae hs 314 rfl,if_neg (by omega),if_neg (by omega),if_neg (by omega)]
    exact ⟨rfl,f2,f3⟩
 obtain ⟨Z0,Z1,Z2⟩:=Z;have z321:v 321=0:=by rw [show v 321=if v 2≠0 then (16:Int) else v 318 from ae hs 321 rfl,if_neg (by omega),show v 318=if v 20≠0 then (5:Int) else v 315 from ae hs 318 rfl,if_neg (by omega),Z0]
 have z322:v 322=qFl x 1073741824 d:=by rw [show v 322=if v 2≠0 then (0:Int) else v 319 from ae hs 322 rfl,if_neg (by omega),show v 319=if v 20≠0 then (0:Int) else v 316 from ae hs 319 rfl,if_neg (by omega),Z1]
 have z323:v 323=qCe x 1073741824 d:=by rw [show v 323=if v 2≠0 then (0:Int) else v 320 from ae hs 323 rfl,if_neg (by omega),show v 320=if v 20≠0 then (0:Int) else v 317 from ae hs 320 rfl,if_neg (by omega),Z2]
 refine ⟨dV ?_,?_⟩
 . exact aj (fun _=>(show v 13≠0 by rw [w13];omega)) (aj (fun _=>(show v 13≠0 by rw [w13];omega)) (aj (fun _=>(show v 13≠0 by rw [w13];omega)) (aj (fun _=>(show v 13≠0 by rw [w13];omega)) (aj (fun _=>(show v 13≠0 by rw [w13];omega)) (dO)))))
 . intro x hx0;have hx':=gG (v:=v) (by rfl) hx0
   rw [hx'];show Value.tuple #[.agg #[.int .i64 (v 322),.int .i64 (v 323)],.int .i64 (v 321)]=_;rw [z321,z322,z323]
theorem Kb {x d:Int} (hd:0<d/\d<=1099511627776) (hx:-d<=x/\x<=d):MkP x d/\-1073741824<=qFl x 1073741824 d/\qFl x 1073741824 d<=qCe x 1073741824 d/\qCe x 1073741824 d<=1073741824:=by
 have M:MkP x d:=⟨hd,by omega,.inr hx⟩
 refine ⟨M,?_,(RZ M).2.2.2,?_⟩
 . unfold qFl;exact (Int.le_ediv_iff_mul_le hd.1).2 (by omega)
 . unfold qCe;have:-1073741824<=-(x*1073741824)/d:=(Int.le_ediv_iff_mul_le hd.1).2 (by omega)
   omega
theorem Kn (x d:Int) (w:World) (hd:0<d/\d<=1099511627776) (hx:-d<=x/\x<=d):Calls Tryz.prog 206 #[.int .i64 x,.int .i64 d] w fun e w'=>e=.returned (.tuple #[.agg #[.int .i64 (qFl x 1073741824 d),.int .i64 (qCe x 1073741824 d)],.int .i64 0])/\Below w.heap.size w w':=by
 obtain ⟨M,b1,b2,b3⟩:=Kb hd hx;have:=Kc x d w M;unfold opV at this;have F:-2147483648<=qFl x 1073741824 d/\qFl x 1073741824 d<=qCe x 1073741824 d/\qCe x 1073741824 d<=2147483648:=by omega
 first
  | (rw [if_pos F] at this;exact this)
  | (unfold nO lu mK at this;rw [if_pos F,if_pos F,if_pos F] at this;exact this)
def kK (f:Nat):Bool:=f==96
def yV:Nat->List Int->List Int
 | 96,[x,d]=>[qFl x 1073741824 d,qCe x 1073741824 d,0]
 | _,_=>[]
def Zd:Nat->List Int->Prop
 | 96,[x,d]=>(0<d/\d<=1099511627776)/\-d<=x/\x<=d
 | _,_=>False
def cxK (args:List Int):Cx:=(cxE args).plus kK yV Zd
theorem X4 (args:List Int):Cf (cxK args):=wT (RS args) fun f h=>by
 unfold kK;rcases h with h|rfl
 . simp;omega
 . rfl
def Uv:Sx.Spec:=⟨206,96,[(false,[some .i64]),(false,[some .i64])],[(true,[some .i64,some .i64]),(false,[some .i64])]⟩
def Sg:Sx.Spec:=⟨217,96,[(false,[some .i64]),(false,[some .i64])],[(true,[some .i64,some .i64]),(false,[some .i64])]⟩
def R8:List Sx.Spec:=[Uv,Sg]
theorem QP (args:List Int):∀ s∈R8,aQ Tryz.prog (cxK args) s:=by
 intro s hs;simp only [R8,List.mem_cons,List.not_mem_nil,or_false] at hs;rcases hs with rfl|rfl
 . refine iM rfl (ours _ _ _ Tryz.func206 rfl (by kernel_rfl)) fun xs hp w=>?_
   match xs,hp with
   | [a,b],hp=>exact Kn a b w hp.1 hp.2
 . refine iM rfl (ours _ _ _ Tryz.func217 rfl (by kernel_rfl)) fun xs hp w=>?_
   match xs,hp with
   | [a,b],hp=>exact Ov a b w hp.1 hp.2
