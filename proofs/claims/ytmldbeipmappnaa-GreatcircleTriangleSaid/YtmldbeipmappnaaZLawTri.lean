/- The law GreatcircleTriangle: the triangle inequality holds for distances. -/
import Derived.Test.YtmldbeipmappnaaZGt
import Derived.Test.YtmldbeipmappnaaZTri
set_option linter.unusedVariables false
set_option linter.unusedSimpArgs false
set_option maxRecDepth 100000
set_option maxHeartbeats 8000000
namespace Go.Proofs.Ytmldbeipmappnaa
open Go.RowKit Alm Sx
def Xn:List Sx.Spec:=[AJ,qF]
theorem RU (args:List Int):∀ s∈Xn,aH Try.prog (cxT args) s:=by
 intro s hs;simp only [Xn,List.mem_cons,List.not_mem_nil,or_false] at hs;rcases hs with rfl|rfl
 . exact xD args
 . exact mE args
def aO:List Nd:=[
 .arg 0,
 .arg 1,
 .arg 2,
 .arg 3,
 .arg 4,
 .arg 5,
 .app 20 0 [],
 .ite (.n 6) (.c 0) (.c 1),
 .ite (.n 7) (.c 0) (.c 1),
 .app 75 0 [.n 0,.n 1,.n 2,.n 3],
 .app 75 1 [.n 0,.n 1,.n 2,.n 3],
 .app 75 2 [.n 0,.n 1,.n 2,.n 3],
 .app 75 3 [.n 0,.n 1,.n 2,.n 3],
 .app 75 4 [.n 0,.n 1,.n 2,.n 3],
 .app 75 0 [.n 2,.n 3,.n 4,.n 5],
 .app 75 1 [.n 2,.n 3,.n 4,.n 5],
 .app 75 2 [.n 2,.n 3,.n 4,.n 5],
 .app 75 3 [.n 2,.n 3,.n 4,.n 5],
 .app 75 4 [.n 2,.n 3,.n 4,.n 5],
 .app 75 0 [.n 0,.n 1,.n 4,.n 5],
 .app 75 1 [.n 0,.n 1,.n 4,.n 5],
 .app 75 2 [.n 0,.n 1,.n 4,.n 5],
 .app 75 3 [.n 0,.n 1,.n 4,.n 5],
 .app 75 4 [.n 0,.n 1,.n 4,.n 5],
 .bin .neq .i64 (.n 13) (.c 0),
 .bin .neq .i64 (.n 18) (.c 0),
 .ite (.n 24) (.c 1) (.n 25),
 .bin .neq .i64 (.n 23) (.c 0),
 .ite (.n 26) (.c 1) (.n 27),
 .bin .geq .i64 (.n 0) (.c (-5400000)),
 .bin .leq .i64 (.n 0) (.c 5400000),
 .ite (.n 29) (.n 30) (.c 0),
 .bin .geq .i64 (.n 1) (.c (-10800000)),
 .ite (.n 31) (.n 32) (.c 0),
 .bin .lss .i64 (.n 1) (.c 10800000),
 .ite (.n 33) (.n 34) (.c 0),
 .ite (.n 35) (.c 0) (.c 1),
 .bin .geq .i64 (.n 2) (.c (-5400000)),
 .bin .leq .i64 (.n 2) (.c 5400000),
 .ite (.n 37) (.n 38) (.c 0),
 .bin .geq .i64 (.n 3) (.c (-10800000)),
 .ite (.n 39) (.n 40) (.c 0),
 .bin .lss .i64 (.n 3) (.c 10800000),
 .ite (.n 41) (.n 42) (.c 0),
 .ite (.n 43) (.c 0) (.c 1),
 .bin .geq .i64 (.n 4) (.c (-5400000)),
 .bin .leq .i64 (.n 4) (.c 5400000),
 .ite (.n 45) (.n 46) (.c 0),
 .bin .geq .i64 (.n 5) (.c (-10800000)),
 .ite (.n 47) (.n 48) (.c 0),
 .bin .lss .i64 (.n 5) (.c 10800000),
 .ite (.n 49) (.n 50) (.c 0),
 .ite (.n 51) (.c 0) (.c 1),
 .ite (.n 43) (.n 52) (.c 0),
 .ite (.n 43) (.n 51) (.c 0),
 .ite (.n 44) (.c 1) (.n 53),
 .ite (.n 44) (.c 1) (.c 2),
 .ite (.n 44) (.n 2) (.n 4),
 .ite (.n 44) (.n 3) (.n 5),
 .ite (.n 44) (.n 43) (.n 51),
 .ite (.n 44) (.n 44) (.n 52),
 .ite (.n 35) (.n 55) (.c 0),
 .ite (.n 35) (.n 54) (.c 0),
 .ite (.n 36) (.c 1) (.n 61),
 .ite (.n 36) (.c 0) (.n 56),
 .ite (.n 36) (.n 0) (.n 57),
 .ite (.n 36) (.n 1) (.n 58),
 .ite (.n 36) (.n 35) (.n 59),
 .ite (.n 36) (.n 36) (.n 60),
 .ite (.n 63) (.c 1) (.n 62),
 .ite (.n 63) (.c 0) (.c 1),
 .ite (.n 63) (.n 64) (.c 3),
 .ite (.n 63) (.n 64) (.c 2),
 .ite (.n 63) (.n 65) (.n 4),
 .ite (.n 63) (.n 66) (.n 5),
 .ite (.n 63) (.n 67) (.n 51),
 .ite (.n 63) (.n 68) (.n 52),
 .ite (.n 28) (.c 0) (.c 1),
 .bin .sub .i64 (.n 0) (.n 2),
 .bin .sub .i64 (.n 2) (.n 0),
 .mx (.n 78) (.n 79),
 .bin .add .i64 (.n 12) (.n 17),
 .bin .leq .i64 (.n 21) (.n 81),
 .bin .geq .i64 (.n 11) (.c 0),
 .ite (.n 82) (.n 83) (.c 0),
 .bin .leq .i64 (.n 12) (.c 10800000),
 .ite (.n 84) (.n 85) (.c 0),
 .bin .geq .i64 (.n 12) (.n 80),
 .ite (.n 86) (.n 87) (.c 0),
 .bin .geq .i64 (.n 9) (.c 0),
 .ite (.n 88) (.n 89) (.c 0),
 .bin .lss .i64 (.n 9) (.c 21600000),
 .ite (.n 90) (.n 91) (.c 0),
 .bin .sub .i64 (.n 10) (.n 9),
 .bin .leq .i64 (.n 93) (.c 21600000),
 .ite (.n 92) (.n 94) (.c 0),
 .ite (.n 28) (.n 63) (.n 95),
 .ite (.n 7) (.c 0) (.n 96)]
def Ls:List Vc:=[
 ⟨[],.pre 20 []⟩,
 ⟨[(.n 8,true)],.pre 75 [.n 0,.n 1,.n 2,.n 3]⟩,
 ⟨[(.n 8,true)],.pre 75 [.n 2,.n 3,.n 4,.n 5]⟩,
 ⟨[(.n 8,true)],.pre 75 [.n 0,.n 1,.n 4,.n 5]⟩]
theorem Y5:whole Try.prog Xn 20 40 3 [(true,[some .i64,some .i64]),(true,[some .i64,some .i64]),(true,[some .i64,some .i64])]=some (.p (.c (.bool (.n 97))),⟨aO.reverse,Ls.reverse⟩):=by kernel_rfl
theorem YL:wfN aO.reverse=true:=by kernel_rfl
theorem UZ {ar:List Int} {v:Nat->Int} (hs:aA (cxT ar) v aO.reverse):v 29=b2i (decide (v 0>=(-5400000:Int))):=ae hs 29 rfl
theorem UN {ar:List Int} {v:Nat->Int} (hs:aA (cxT ar) v aO.reverse):v 30=b2i (decide (v 0<=(5400000:Int))):=ae hs 30 rfl
theorem Xm {ar:List Int} {v:Nat->Int} (hs:aA (cxT ar) v aO.reverse):v 32=b2i (decide (v 1>=(-10800000:Int))):=ae hs 32 rfl
theorem WM {ar:List Int} {v:Nat->Int} (hs:aA (cxT ar) v aO.reverse):v 34=b2i (decide (v 1<(10800000:Int))):=ae hs 34 rfl
theorem ZV {ar:List Int} {v:Nat->Int} (hs:aA (cxT ar) v aO.reverse):v 31=if v 29≠0 then v 30 else (0:Int):=ae hs 31 rfl
theorem YX {ar:List Int} {v:Nat->Int} (hs:aA (cxT ar) v aO.reverse):v 33=if v 31≠0 then v 32 else (0:Int):=ae hs 33 rfl
theorem Xu {ar:List Int} {v:Nat->Int} (hs:aA (cxT ar) v aO.reverse):v 35=if v 33≠0 then v 34 else (0:Int):=ae hs 35 rfl
theorem Z4 {ar:List Int} {v:Nat->Int} (hs:aA (cxT ar) v aO.reverse):v 37=b2i (decide (v 2>=(-5400000:Int))):=ae hs 37 rfl
theorem VM {ar:List Int} {v:Nat->Int} (hs:aA (cxT ar) v aO.reverse):v 38=b2i (decide (v 2<=(5400000:Int))):=ae hs 38 rfl
theorem We {ar:List Int} {v:Nat->Int} (hs:aA (cxT ar) v aO.reverse):v 40=b2i (decide (v 3>=(-10800000:Int))):=ae hs 40 rfl
theorem Zp {ar:List Int} {v:Nat->Int} (hs:aA (cxT ar) v aO.reverse):v 42=b2i (decide (v 3<(10800000:Int))):=ae hs 42 rfl
theorem aab {ar:List Int} {v:Nat->Int} (hs:aA (cxT ar) v aO.reverse):v 39=if v 37≠0 then v 38 else (0:Int):=ae hs 39 rfl
theorem Y9 {ar:List Int} {v:Nat->Int} (hs:aA (cxT ar) v aO.reverse):v 41=if v 39≠0 then v 40 else (0:Int):=ae hs 41 rfl
theorem Zw {ar:List Int} {v:Nat->Int} (hs:aA (cxT ar) v aO.reverse):v 43=if v 41≠0 then v 42 else (0:Int):=ae hs 43 rfl
theorem abj {ar:List Int} {v:Nat->Int} (hs:aA (cxT ar) v aO.reverse):v 45=b2i (decide (v 4>=(-5400000:Int))):=ae hs 45 rfl
theorem Vv {ar:List Int} {v:Nat->Int} (hs:aA (cxT ar) v aO.reverse):v 46=b2i (decide (v 4<=(5400000:Int))):=ae hs 46 rfl
theorem WJ {ar:List Int} {v:Nat->Int} (hs:aA (cxT ar) v aO.reverse):v 48=b2i (decide (v 5>=(-10800000:Int))):=ae hs 48 rfl
theorem Y7 {ar:List Int} {v:Nat->Int} (hs:aA (cxT ar) v aO.reverse):v 50=b2i (decide (v 5<(10800000:Int))):=ae hs 50 rfl
theorem ZL {ar:List Int} {v:Nat->Int} (hs:aA (cxT ar) v aO.reverse):v 47=if v 45≠0 then v 46 else (0:Int):=ae hs 47 rfl
theorem abd {ar:List Int} {v:Nat->Int} (hs:aA (cxT ar) v aO.reverse):v 49=if v 47≠0 then v 48 else (0:Int):=ae hs 49 rfl
theorem aah {ar:List Int} {v:Nat->Int} (hs:aA (cxT ar) v aO.reverse):v 51=if v 49≠0 then v 50 else (0:Int):=ae hs 51 rfl
theorem abM {ar:List Int} {v:Nat->Int} (hs:aA (cxT ar) v aO.reverse):v 9=(invV (v 0) (v 1) (v 2) (v 3)).getD 0 0:=ae hs 9 rfl
theorem Yp {ar:List Int} {v:Nat->Int} (hs:aA (cxT ar) v aO.reverse):v 10=(invV (v 0) (v 1) (v 2) (v 3)).getD 1 0:=ae hs 10 rfl
theorem WZ {ar:List Int} {v:Nat->Int} (hs:aA (cxT ar) v aO.reverse):v 11=(invV (v 0) (v 1) (v 2) (v 3)).getD 2 0:=ae hs 11 rfl
theorem Xj {ar:List Int} {v:Nat->Int} (hs:aA (cxT ar) v aO.reverse):v 12=(invV (v 0) (v 1) (v 2) (v 3)).getD 3 0:=ae hs 12 rfl
theorem Wl {ar:List Int} {v:Nat->Int} (hs:aA (cxT ar) v aO.reverse):v 13=(invV (v 0) (v 1) (v 2) (v 3)).getD 4 0:=ae hs 13 rfl
theorem Xw {ar:List Int} {v:Nat->Int} (hs:aA (cxT ar) v aO.reverse):v 14=(invV (v 2) (v 3) (v 4) (v 5)).getD 0 0:=ae hs 14 rfl
theorem aa2 {ar:List Int} {v:Nat->Int} (hs:aA (cxT ar) v aO.reverse):v 15=(invV (v 2) (v 3) (v 4) (v 5)).getD 1 0:=ae hs 15 rfl
theorem VX {ar:List Int} {v:Nat->Int} (hs:aA (cxT ar) v aO.reverse):v 16=(invV (v 2) (v 3) (v 4) (v 5)).getD 2 0:=ae hs 16 rfl
theorem abx {ar:List Int} {v:Nat->Int} (hs:aA (cxT ar) v aO.reverse):v 17=(invV (v 2) (v 3) (v 4) (v 5)).getD 3 0:=ae hs 17 rfl
theorem Zo {ar:List Int} {v:Nat->Int} (hs:aA (cxT ar) v aO.reverse):v 18=(invV (v 2) (v 3) (v 4) (v 5)).getD 4 0:=ae hs 18 rfl
theorem Y6 {ar:List Int} {v:Nat->Int} (hs:aA (cxT ar) v aO.reverse):v 19=(invV (v 0) (v 1) (v 4) (v 5)).getD 0 0:=ae hs 19 rfl
theorem aaD {ar:List Int} {v:Nat->Int} (hs:aA (cxT ar) v aO.reverse):v 20=(invV (v 0) (v 1) (v 4) (v 5)).getD 1 0:=ae hs 20 rfl
theorem YO {ar:List Int} {v:Nat->Int} (hs:aA (cxT ar) v aO.reverse):v 21=(invV (v 0) (v 1) (v 4) (v 5)).getD 2 0:=ae hs 21 rfl
theorem YN {ar:List Int} {v:Nat->Int} (hs:aA (cxT ar) v aO.reverse):v 22=(invV (v 0) (v 1) (v 4) (v 5)).getD 3 0:=ae hs 22 rfl
theorem Yr {ar:List Int} {v:Nat->Int} (hs:aA (cxT ar) v aO.reverse):v 23=(invV (v 0) (v 1) (v 4) (v 5)).getD 4 0:=ae hs 23 rfl
theorem aaj {ar:List Int} {v:Nat->Int}:∀ c∈Ls,c.holds (cxT ar) v :=
 ag (fun _=>trivial) (ag (fun _=>trivial) (ag (fun _=>trivial) (ag (fun _=>trivial) (bN))))
theorem MK {ar:List Int} {v:Nat->Int} (hs:aA (cxT ar) v aO.reverse) (k13:v 13=1) (k35:v 35=0):v 97=1:=by
 refine ak (X:=cxT ar) (v:=v) (l:=aO) (fF _) hs (k:=97) (r:=.c 1) (ps:=[(13,.c 1),(35,.c 0)]) (nz:=[]) ?_ az (by kernel_rfl)
 intro y hy;simp only [List.mem_cons,List.not_mem_nil,or_false] at hy;rcases hy with rfl|rfl<;>assumption
theorem Lt {ar:List Int} {v:Nat->Int} (hs:aA (cxT ar) v aO.reverse) (k13:v 13=1) (k35:v 35=1) (k43:v 43=0):v 97=1:=by
 refine ak (X:=cxT ar) (v:=v) (l:=aO) (fF _) hs (k:=97) (r:=.c 1) (ps:=[(13,.c 1),(35,.c 1),(43,.c 0)]) (nz:=[]) ?_ az (by kernel_rfl)
 intro y hy;simp only [List.mem_cons,List.not_mem_nil,or_false] at hy;rcases hy with rfl|rfl|rfl<;>assumption
theorem Nk {ar:List Int} {v:Nat->Int} (hs:aA (cxT ar) v aO.reverse) (k13:v 13=0) (k18:v 18=1) (k35:v 35=1) (k43:v 43=1) (k51:v 51=0):v 97=1:=by
 refine ak (X:=cxT ar) (v:=v) (l:=aO) (fF _) hs (k:=97) (r:=.c 1) (ps:=[(13,.c 0),(18,.c 1),(35,.c 1),(43,.c 1),(51,.c 0)]) (nz:=[]) ?_ az (by kernel_rfl)
 intro y hy;simp only [List.mem_cons,List.not_mem_nil,or_false] at hy;rcases hy with rfl|rfl|rfl|rfl|rfl<;>assumption
theorem aa5 {ar:List Int} {v:Nat->Int} (hs:aA (cxT ar) v aO.reverse):v 78=IntKind.i64.wrap (v 0-v 2):=ae hs 78 rfl
theorem aaa {ar:List Int} {v:Nat->Int} (hs:aA (cxT ar) v aO.reverse):v 79=IntKind.i64.wrap (v 2-v 0):=ae hs 79 rfl
theorem ZK {ar:List Int} {v:Nat->Int} (hs:aA (cxT ar) v aO.reverse):v 81=IntKind.i64.wrap (v 12+v 17):=ae hs 81 rfl
theorem ZW {ar:List Int} {v:Nat->Int} (hs:aA (cxT ar) v aO.reverse):v 93=IntKind.i64.wrap (v 10-v 9):=ae hs 93 rfl
theorem aax {ar:List Int} {v:Nat->Int} (hs:aA (cxT ar) v aO.reverse):v 80=if v 79>v 78 then v 79 else v 78:=ae hs 80 rfl
theorem aaY {ar:List Int} {v:Nat->Int} (hs:aA (cxT ar) v aO.reverse):v 82=b2i (decide (v 21<=v 81)):=ae hs 82 rfl
theorem YV {ar:List Int} {v:Nat->Int} (hs:aA (cxT ar) v aO.reverse):v 83=b2i (decide (v 11>=0)):=ae hs 83 rfl
theorem WA {ar:List Int} {v:Nat->Int} (hs:aA (cxT ar) v aO.reverse):v 85=b2i (decide (v 12<=10800000)):=ae hs 85 rfl
theorem Zh {ar:List Int} {v:Nat->Int} (hs:aA (cxT ar) v aO.reverse):v 87=b2i (decide (v 12>=v 80)):=ae hs 87 rfl
theorem ZJ {ar:List Int} {v:Nat->Int} (hs:aA (cxT ar) v aO.reverse):v 89=b2i (decide (v 9>=0)):=ae hs 89 rfl
theorem Zf {ar:List Int} {v:Nat->Int} (hs:aA (cxT ar) v aO.reverse):v 91=b2i (decide (v 9<21600000)):=ae hs 91 rfl
theorem Yf {ar:List Int} {v:Nat->Int} (hs:aA (cxT ar) v aO.reverse):v 94=b2i (decide (v 93<=21600000)):=ae hs 94 rfl
theorem M6 {ar:List Int} {v:Nat->Int} (hs:aA (cxT ar) v aO.reverse) (k13:v 13=0) (k18:v 18=0) (k23:v 23=0) (k82:v 82=1) (k83:v 83=1) (k85:v 85=1) (k87:v 87=1) (k89:v 89=1) (k91:v 91=1) (k94:v 94=1):v 97=1:=by
 refine ak (X:=cxT ar) (v:=v) (l:=aO) (fF _) hs (k:=97) (r:=.c 1) (ps:=[(13,.c 0),(18,.c 0),(23,.c 0),(82,.c 1),(83,.c 1),(85,.c 1),(87,.c 1),(89,.c 1),(91,.c 1),(94,.c 1)]) (nz:=[]) ?_ az (by kernel_rfl)
 intro y hy;simp only [List.mem_cons,List.not_mem_nil,or_false] at hy;rcases hy with rfl|rfl|rfl|rfl|rfl|rfl|rfl|rfl|rfl|rfl<;>assumption
theorem Pj (a0 a1 a2 a3 a4 a5:Int) (w:World):Calls Try.prog 3 #[.agg #[.int .i64 a0,.int .i64 a1],.agg #[.int .i64 a2,.int .i64 a3],.agg #[.int .i64 a4,.int .i64 a5]] w fun e w'=>e=.returned (.bool true)/\Below w.heap.size w w':=by
 refine Sx.calls (X:=cxT [a0,a1,a2,a3,a4,a5]) dX (RU _) Y5 YL (fun v hs=>?_) w
 have B1:v 35=b2i (decide (PtV (v 0) (v 1))):=ptB (y5:=0) (y7:=0) (y9:=0) (UZ hs) (UN hs) (Xm hs) (WM hs) (ZV hs) (YX hs) (Xu hs);have B2:v 43=b2i (decide (PtV (v 2) (v 3))):=ptB (y5:=0) (y7:=0) (y9:=0) (Z4 hs) (VM hs) (We hs) (Zp hs) (aab hs) (Y9 hs) (Zw hs);have B3:v 51=b2i (decide (PtV (v 4) (v 5))):=ptB (y5:=0) (y7:=0) (y9:=0) (abj hs) (Vv hs) (WJ hs) (Y7 hs) (ZL hs) (abd hs) (aah hs);have x9:v 9=(invV (v 0) (v 1) (v 2) (v 3)).getD 0 0:=(abM hs);have x10:v 10=(invV (v 0) (v 1) (v 2) (v 3)).getD 1 0:=(Yp hs);have x11:v 11=(invV (v 0) (v 1) (v 2) (v 3)).getD 2 0:=(WZ hs);have x12:v 12=(invV (v 0) (v 1) (v 2) (v 3)).getD 3 0:=(Xj hs);have x13:v 13=(invV (v 0) (v 1) (v 2) (v 3)).getD 4 0:=(Wl hs);have x14:v 14=(invV (v 2) (v 3) (v 4) (v 5)).getD 0 0:=(Xw hs);have x15:v 15=(invV (v 2) (v 3) (v 4) (v 5)).getD 1 0:=(aa2 hs);have x16:v 16=(invV (v 2) (v 3) (v 4) (v 5)).getD 2 0:=(VX hs);have x17:v 17=(invV (v 2) (v 3) (v 4) (v 5)).getD 3 0:=(abx hs);have x18:v 18=(invV (v 2) (v 3) (v 4) (v 5)).getD 4 0:=(Zo hs);have x19:v 19=(invV (v 0) (v 1) (v 4) (v 5)).getD 0 0:=(Y6 hs);have x20:v 20=(invV (v 0) (v 1) (v 4) (v 5)).getD 1 0:=(aaD hs);have x21:v 21=(invV (v 0) (v 1) (v 4) (v 5)).getD 2 0:=(YO hs);have x22:v 22=(invV (v 0) (v 1) (v 4) (v 5)).getD 3 0:=(YN hs);have x23:v 23=(invV (v 0) (v 1) (v 4) (v 5)).getD 4 0:=(Yr hs);refine ⟨bO (aaj),?_⟩
 have bad:∀ a b c d:Int,¬ (PtV a b/\PtV c d)->(invV a b c d).getD 4 0=1:=fun a b c d h=>by
  have e:invV a b c d=[0,0,0,0,1]:=if_neg h;rw [e];rfl
 have good:∀ a b c d:Int,PtV a b->PtV c d->(invV a b c d).getD 0 0=(aX a b c d).getD 0 0/\(invV a b c d).getD 1 0=(aX a b c d).getD 1 0/\(invV a b c d).getD 2 0=(aP a b c d).getD 0 0/\(invV a b c d).getD 3 0=(aP a b c d).getD 1 0/\(invV a b c d).getD 4 0=0:=fun a b c d h1 h2=>by
  have e:invV a b c d=[(aX a b c d).getD 0 0,(aX a b c d).getD 1 0,(aP a b c d).getD 0 0,(aP a b c d).getD 1 0,0]:=if_pos ⟨h1,h2⟩;rw [e];exact TP _ _ _ _ _
 by_cases h1:PtV (v 0) (v 1)
 rotate_left
 . have k35:v 35=0:=by rw [B1,decide_eq_false h1];rfl
   have k13:v 13=1:=by rw [x13];exact bad _ _ _ _ (fun q=>h1 q.1)
   intro x hx;have hx':x=.bool (decide (v 97≠0)):=hx;have hr:v 97=1:=(MK hs k13 k35);rw [hx',hr];rfl
 have k35:v 35=1:=by rw [B1,decide_eq_true h1];rfl
 by_cases h2:PtV (v 2) (v 3)
 rotate_left
 . have k43:v 43=0:=by rw [B2,decide_eq_false h2];rfl
   have k13:v 13=1:=by rw [x13];exact bad _ _ _ _ (fun q=>h2 q.2)
   intro x hx;have hx':x=.bool (decide (v 97≠0)):=hx;have hr:v 97=1:=(Lt hs k13 k35 k43);rw [hx',hr];rfl
 have k43:v 43=1:=by rw [B2,decide_eq_true h2];rfl
 have k13:v 13=0:=by rw [x13];exact (good _ _ _ _ h1 h2).2.2.2.2
 by_cases h3:PtV (v 4) (v 5)
 rotate_left
 . have k51:v 51=0:=by rw [B3,decide_eq_false h3];rfl
   have k18:v 18=1:=by rw [x18];exact bad _ _ _ _ (fun q=>h3 q.2)
   intro x hx;have hx':x=.bool (decide (v 97≠0)):=hx;have hr:v 97=1:=(Nk hs k13 k18 k35 k43 k51);rw [hx',hr];rfl
 have k18:v 18=0:=by rw [x18];exact (good _ _ _ _ h2 h3).2.2.2.2
 have k23:v 23=0:=by rw [x23];exact (good _ _ _ _ h1 h3).2.2.2.2
 have g1':=good _ _ _ _ h1 h2;have g2':=good _ _ _ _ h2 h3;have g3':=good _ _ _ _ h1 h3;have y9:=x9.trans g1'.1;have y10:=x10.trans g1'.2.1;have y11:=x11.trans g1'.2.2.1;have y12:=x12.trans g1'.2.2.2.1;have y17:=x17.trans g2'.2.2.2.1;have y21:=x21.trans g3'.2.2.1;have D1:=sF (v 0) (v 1) (v 2) (v 3) h1 h2;have D2:=sF (v 2) (v 3) (v 4) (v 5) h2 h3;have D3:=sF (v 0) (v 1) (v 4) (v 5) h1 h3;have T:=Am (v 0) (v 1) (v 2) (v 3) (v 4) (v 5) h1 h2 h3 ⟨by omega,D1.2.2⟩ ⟨by omega,D2.2.2⟩ ⟨D3.1,by omega⟩
 have E:=Oo (v 0) (v 1) (v 2) (v 3) h1 h2 ⟨by omega,D1.2.2⟩
 have C:=xO (v 0) (v 1) (v 2) (v 3);rw [<-y9,<-y10] at C;rw [<-y11,<-y12] at D1;rw [<-y12,<-y17,<-y21] at T;rw [<-y12] at E;rw [<-y17] at D2;unfold PtV at h1 h2;clear x9 x10 x11 x12 x13 x14 x15 x16 x17 x18 x19 x20 x21 x22 x23 g1' g2' g3' y9 y10 y11 y12 y17 y21 good bad B1 B2 B3 D3 h3;have w78:v 78=v 0-v 2:=by rw [(aa5 hs),Go.IntWalk.i64_in _ (by omega)]
 have w79:v 79=v 2-v 0:=by rw [(aaa hs),Go.IntWalk.i64_in _ (by omega)]
 have w81:v 81=v 12+v 17:=by rw [(ZK hs),Go.IntWalk.i64_in _ (by omega)]
 have w93:v 93=v 10-v 9:=by rw [(ZW hs),Go.IntWalk.i64_in _ (by omega)]
 have w80:v 80=if v 79>v 78 then v 79 else v 78:=(aax hs)
 have k82:v 82=1:=by rw [(aaY hs),decide_eq_true (by rw [w81];exact T)];rfl
 have k83:v 83=1:=by rw [(YV hs),decide_eq_true (by exact D1.1)];rfl
 have k85:v 85=1:=by rw [(WA hs),decide_eq_true (by exact D1.2.2)];rfl
 have k87:v 87=1:=by rw [(Zh hs),decide_eq_true (by rw [w80];split<;>omega)];rfl
 have k89:v 89=1:=by rw [(ZJ hs),decide_eq_true (by exact C.1)];rfl
 have k91:v 91=1:=by rw [(Zf hs),decide_eq_true (by omega)];rfl
 have k94:v 94=1:=by rw [(Yf hs),decide_eq_true (by rw [w93];omega)];rfl
 intro x hx;have hx':x=.bool (decide (v 97≠0)):=hx;have hr:v 97=1:=(M6 hs k13 k18 k23 k82 k83 k85 k87 k89 k91 k94);rw [hx',hr];rfl
