/- The law GreatcircleVertex: the vertex is at least as far north as both points. -/
import Derived.Test.YtmldbeipmappnaaZGt
import Derived.Test.YtmldbeipmappnaaZVeT
set_option linter.unusedVariables false
set_option linter.unusedSimpArgs false
set_option maxRecDepth 100000
set_option maxHeartbeats 8000000
namespace Go.Proofs.Ytmldbeipmappnaa
open Go.RowKit Alm Sx
def XA:List Sx.Spec:=[YQ,adf,qF]
theorem Q4 (args:List Int):∀ s∈XA,aH Try.prog (cxT args) s:=by
 intro s hs;simp only [XA,List.mem_cons,List.not_mem_nil,or_false] at hs;rcases hs with rfl|rfl|rfl
 . exact IU args
 . exact Ru args
 . exact mE args
theorem aaV (b L H:Int) (h:L<=H):((nH b L H).1=-10800000/\(nH b L H).2=10800000)∨(-10800000<=(nH b L H).1/\(nH b L H).1<10800000/\(nH b L H).1<=(nH b L H).2/\(nH b L H).2-(nH b L H).1<21600000):=by
 have s:=lV (b+L);unfold nH;split
 . exact .inl ⟨rfl,rfl⟩
 . exact .inr (by simp only;omega)
theorem aaS (a b c d:Int):((jH a b c d).1=-10800000/\(jH a b c d).2=10800000)∨(-10800000<=(jH a b c d).1/\(jH a b c d).1<10800000/\(jH a b c d).1<=(jH a b c d).2/\(jH a b c d).2-(jH a b c d).1<21600000):=by
 unfold jH;split
 . exact aaV _ _ _ (Ub _ _).2.2.1
 . exact .inl ⟨rfl,rfl⟩
theorem Ur:sgd 0=0:=by decide
theorem acu:sg 0=0:=by decide +kernel
theorem RN (a b c d n:Int) (h1:PtV a b) (h2:PtV c d) (hn:-10800000<=n/\n<=10800000):atW a b c d n=atV a b c d n:=(if_pos ⟨h1,h2⟩).trans (if_pos hn)
theorem Hw (a b c d n k:Int) (h1:PtV a b) (h2:PtV c d) (hk:(k=a/\n=b)∨(k=c/\n=d)):(atW a b c d n).getD 2 0=21∨((atW a b c d n).getD 2 0=0/\(atW a b c d n).getD 0 0<=k/\k<=(atW a b c d n).getD 1 0):=by
 have p1:=h1;have p2:=h2;unfold PtV at p1 p2;rw [RN a b c d n h1 h2 (by omega)]
 by_cases q:atN a b c d
 . left
   have:atV a b c d n=[0,0,21]:=if_pos q;rw [this];rfl
 . right
   have e:(atV a b c d n).getD 2 0=0:=by unfold atV;rw [if_neg q];exact (uo _ _ _).2.2
   refine ⟨e,at_holds a b c d n k _ _ h1 h2 rfl rfl ?_ q⟩;rcases hk with ⟨rfl,rfl⟩|⟨rfl,rfl⟩
   . exact .inl ⟨rfl,by rw [Go.IntWalk.i64_in _ (by omega)],by rw [Go.IntWalk.i64_in _ (by omega),Int.sub_self,Ur,acu]⟩
   . exact .inr ⟨rfl,by rw [Go.IntWalk.i64_in _ (by omega),Int.sub_self,Ur,acu],by rw [Go.IntWalk.i64_in _ (by omega)]⟩
def aY:List Nd:=[
 .arg 0,
 .arg 1,
 .arg 2,
 .arg 3,
 .app 20 0 [],
 .ite (.n 4) (.c 0) (.c 1),
 .ite (.n 5) (.c 0) (.c 1),
 .app 78 0 [.n 0,.n 1,.n 2,.n 3],
 .app 78 1 [.n 0,.n 1,.n 2,.n 3],
 .app 78 2 [.n 0,.n 1,.n 2,.n 3],
 .app 78 3 [.n 0,.n 1,.n 2,.n 3],
 .app 78 4 [.n 0,.n 1,.n 2,.n 3],
 .bin .neq .i64 (.n 11) (.c 0),
 .bin .eql .i64 (.n 7) (.c 0),
 .bin .eql .i64 (.n 8) (.c 0),
 .bin .eql .i64 (.n 9) (.c 0),
 .bin .eql .i64 (.n 10) (.c 0),
 .ite (.n 15) (.n 16) (.c 0),
 .ite (.n 14) (.n 17) (.c 0),
 .ite (.n 13) (.n 18) (.c 0),
 .ite (.n 12) (.c 0) (.c 1),
 .bin .leq .i64 (.n 7) (.n 8),
 .bin .geq .i64 (.n 7) (.c (-5400000)),
 .ite (.n 21) (.n 22) (.c 0),
 .bin .leq .i64 (.n 8) (.c 5400000),
 .ite (.n 23) (.n 24) (.c 0),
 .bin .eql .i64 (.n 9) (.c (-10800000)),
 .bin .eql .i64 (.n 10) (.c 10800000),
 .ite (.n 26) (.n 27) (.c 0),
 .bin .geq .i64 (.n 9) (.c (-10800000)),
 .bin .lss .i64 (.n 9) (.c 10800000),
 .ite (.n 29) (.n 30) (.c 0),
 .bin .leq .i64 (.n 9) (.n 10),
 .ite (.n 31) (.n 32) (.c 0),
 .bin .sub .i64 (.n 10) (.n 9),
 .bin .lss .i64 (.n 34) (.c 21600000),
 .ite (.n 33) (.n 35) (.c 0),
 .ite (.n 28) (.c 1) (.n 36),
 .ite (.n 25) (.n 37) (.c 0),
 .ite (.n 38) (.c 0) (.c 1),
 .mx (.n 0) (.n 2),
 .bin .lss .i64 (.n 8) (.n 40),
 .ite (.n 39) (.c 1) (.n 41),
 .bin .lss .i64 (.n 7) (.c 0),
 .ite (.n 42) (.c 1) (.n 43),
 .ite (.n 44) (.c 0) (.c 1),
 .app 79 0 [.n 0,.n 1,.n 2,.n 3,.n 1],
 .app 79 1 [.n 0,.n 1,.n 2,.n 3,.n 1],
 .app 79 2 [.n 0,.n 1,.n 2,.n 3,.n 1],
 .bin .eql .i64 (.n 48) (.c 0),
 .bin .lss .i64 (.n 0) (.n 46),
 .bin .gtr .i64 (.n 0) (.n 47),
 .ite (.n 50) (.c 1) (.n 51),
 .ite (.n 49) (.n 52) (.c 0),
 .bin .neq .i64 (.n 48) (.c 0),
 .bin .neq .i64 (.n 48) (.c 21),
 .ite (.n 54) (.n 55) (.c 0),
 .ite (.n 53) (.c 1) (.n 56),
 .ite (.n 57) (.c 0) (.c 1),
 .app 79 0 [.n 0,.n 1,.n 2,.n 3,.n 3],
 .app 79 1 [.n 0,.n 1,.n 2,.n 3,.n 3],
 .app 79 2 [.n 0,.n 1,.n 2,.n 3,.n 3],
 .bin .eql .i64 (.n 61) (.c 0),
 .bin .lss .i64 (.n 2) (.n 59),
 .bin .gtr .i64 (.n 2) (.n 60),
 .ite (.n 63) (.c 1) (.n 64),
 .ite (.n 62) (.n 65) (.c 0),
 .bin .neq .i64 (.n 61) (.c 0),
 .bin .neq .i64 (.n 61) (.c 21),
 .ite (.n 67) (.n 68) (.c 0),
 .ite (.n 66) (.c 1) (.n 69),
 .ite (.n 70) (.c 0) (.c 1),
 .ite (.n 58) (.n 70) (.c 0),
 .ite (.n 58) (.n 71) (.c 0),
 .ite (.n 57) (.c 1) (.n 72),
 .ite (.n 57) (.n 48) (.n 61),
 .ite (.n 57) (.n 0) (.n 2),
 .ite (.n 57) (.n 1) (.n 3),
 .ite (.n 57) (.n 46) (.n 59),
 .ite (.n 57) (.n 47) (.n 60),
 .ite (.n 57) (.n 49) (.n 62),
 .ite (.n 57) (.n 53) (.n 66),
 .ite (.n 57) (.n 57) (.n 70),
 .ite (.n 74) (.c 1) (.n 73),
 .ite (.n 74) (.c 0) (.c 1),
 .ite (.n 74) (.n 75) (.n 61),
 .ite (.n 74) (.n 58) (.c 2),
 .ite (.n 74) (.n 76) (.n 2),
 .ite (.n 74) (.n 77) (.n 3),
 .ite (.n 74) (.n 78) (.n 59),
 .ite (.n 74) (.n 79) (.n 60),
 .ite (.n 74) (.n 80) (.n 62),
 .ite (.n 74) (.n 81) (.n 66),
 .ite (.n 74) (.n 82) (.n 70),
 .ite (.n 45) (.n 83) (.c 0),
 .ite (.n 44) (.c 1) (.n 94),
 .ite (.n 44) (.c 0) (.n 84),
 .ite (.n 20) (.n 95) (.c 0),
 .ite (.n 12) (.c 1) (.n 97),
 .ite (.n 12) (.n 19) (.n 96),
 .ite (.n 6) (.n 98) (.c 0),
 .ite (.n 5) (.c 1) (.n 100),
 .ite (.n 5) (.c 0) (.n 99)]
def Nv:List Vc:=[
 ⟨[],.pre 20 []⟩,
 ⟨[(.n 6,true)],.pre 78 [.n 0,.n 1,.n 2,.n 3]⟩,
 ⟨[(.n 45,true),(.n 20,true),(.n 6,true)],.pre 79 [.n 0,.n 1,.n 2,.n 3,.n 1]⟩,
 ⟨[(.n 58,true),(.n 45,true),(.n 20,true),(.n 6,true)],.pre 79 [.n 0,.n 1,.n 2,.n 3,.n 3]⟩]
theorem VO:whole Try.prog XA 20 40 5 [(true,[some .i64,some .i64]),(true,[some .i64,some .i64])]=some (.p (.c (.bool (.n 102))),⟨aY.reverse,Nv.reverse⟩):=by kernel_rfl
theorem Zx:wfN aY.reverse=true:=by kernel_rfl
theorem acw {ar:List Int} {v:Nat->Int} (hs:aA (cxT ar) v aY.reverse):v 7=(gT (v 0) (v 1) (v 2) (v 3)).getD 0 0:=ae hs 7 rfl
theorem adT {ar:List Int} {v:Nat->Int} (hs:aA (cxT ar) v aY.reverse):v 8=(gT (v 0) (v 1) (v 2) (v 3)).getD 1 0:=ae hs 8 rfl
theorem abA {ar:List Int} {v:Nat->Int} (hs:aA (cxT ar) v aY.reverse):v 9=(gT (v 0) (v 1) (v 2) (v 3)).getD 2 0:=ae hs 9 rfl
theorem aaU {ar:List Int} {v:Nat->Int} (hs:aA (cxT ar) v aY.reverse):v 10=(gT (v 0) (v 1) (v 2) (v 3)).getD 3 0:=ae hs 10 rfl
theorem aaB {ar:List Int} {v:Nat->Int} (hs:aA (cxT ar) v aY.reverse):v 11=(gT (v 0) (v 1) (v 2) (v 3)).getD 4 0:=ae hs 11 rfl
theorem Vg {ar:List Int} {v:Nat->Int} (hs:aA (cxT ar) v aY.reverse):v 46=(atW (v 0) (v 1) (v 2) (v 3) (v 1)).getD 0 0:=ae hs 46 rfl
theorem VY {ar:List Int} {v:Nat->Int} (hs:aA (cxT ar) v aY.reverse):v 47=(atW (v 0) (v 1) (v 2) (v 3) (v 1)).getD 1 0:=ae hs 47 rfl
theorem Vt {ar:List Int} {v:Nat->Int} (hs:aA (cxT ar) v aY.reverse):v 48=(atW (v 0) (v 1) (v 2) (v 3) (v 1)).getD 2 0:=ae hs 48 rfl
theorem VA {ar:List Int} {v:Nat->Int} (hs:aA (cxT ar) v aY.reverse):v 59=(atW (v 0) (v 1) (v 2) (v 3) (v 3)).getD 0 0:=ae hs 59 rfl
theorem YE {ar:List Int} {v:Nat->Int} (hs:aA (cxT ar) v aY.reverse):v 60=(atW (v 0) (v 1) (v 2) (v 3) (v 3)).getD 1 0:=ae hs 60 rfl
theorem Xh {ar:List Int} {v:Nat->Int} (hs:aA (cxT ar) v aY.reverse):v 61=(atW (v 0) (v 1) (v 2) (v 3) (v 3)).getD 2 0:=ae hs 61 rfl
theorem ady {ar:List Int} {v:Nat->Int}:∀ c∈Nv,c.holds (cxT ar) v :=
 ag (fun _=>trivial) (ag (fun _=>trivial) (ag (fun _=>trivial) (ag (fun _=>trivial) (bN))))
theorem I6 {ar:List Int} {v:Nat->Int} (hs:aA (cxT ar) v aY.reverse) (k7:v 7=0) (k8:v 8=0) (k9:v 9=0) (k10:v 10=0) (k11:v 11=1):v 102=1:=by
 refine ak (X:=cxT ar) (v:=v) (l:=aY) (fF _) hs (k:=102) (r:=.c 1) (ps:=[(7,.c 0),(8,.c 0),(9,.c 0),(10,.c 0),(11,.c 1)]) (nz:=[]) ?_ az (by kernel_rfl)
 intro y hy;simp only [List.mem_cons,List.not_mem_nil,or_false] at hy;rcases hy with rfl|rfl|rfl|rfl|rfl<;>assumption
theorem JG {ar:List Int} {v:Nat->Int} (hs:aA (cxT ar) v aY.reverse) (k7:v 7=0) (k8:v 8=0) (k9:v 9=0) (k10:v 10=0) (k11:v 11=21):v 102=1:=by
 refine ak (X:=cxT ar) (v:=v) (l:=aY) (fF _) hs (k:=102) (r:=.c 1) (ps:=[(7,.c 0),(8,.c 0),(9,.c 0),(10,.c 0),(11,.c 21)]) (nz:=[]) ?_ az (by kernel_rfl)
 intro y hy;simp only [List.mem_cons,List.not_mem_nil,or_false] at hy;rcases hy with rfl|rfl|rfl|rfl|rfl<;>assumption
theorem abr {ar:List Int} {v:Nat->Int} (hs:aA (cxT ar) v aY.reverse):v 26=b2i (v 9 == -10800000):=ae hs 26 rfl
theorem Xi {ar:List Int} {v:Nat->Int} (hs:aA (cxT ar) v aY.reverse):v 27=b2i (v 10==10800000):=ae hs 27 rfl
theorem Nb {ar:List Int} {v:Nat->Int} (hs:aA (cxT ar) v aY.reverse) (k26:v 26=1) (k27:v 27=1):v 37=1:=by
 refine ak (X:=cxT ar) (v:=v) (l:=aY) (fF _) hs (k:=37) (r:=.c 1) (ps:=[(26,.c 1),(27,.c 1)]) (nz:=[]) ?_ az (by kernel_rfl)
 intro y hy;simp only [List.mem_cons,List.not_mem_nil,or_false] at hy;rcases hy with rfl|rfl<;>assumption
theorem Yu {ar:List Int} {v:Nat->Int} (hs:aA (cxT ar) v aY.reverse):v 29=b2i (decide (v 9>=-10800000)):=ae hs 29 rfl
theorem UO {ar:List Int} {v:Nat->Int} (hs:aA (cxT ar) v aY.reverse):v 30=b2i (decide (v 9<10800000)):=ae hs 30 rfl
theorem aai {ar:List Int} {v:Nat->Int} (hs:aA (cxT ar) v aY.reverse):v 32=b2i (decide (v 9<=v 10)):=ae hs 32 rfl
theorem XO {ar:List Int} {v:Nat->Int} (hs:aA (cxT ar) v aY.reverse):v 34=IntKind.i64.wrap (v 10-v 9):=ae hs 34 rfl
theorem WB {ar:List Int} {v:Nat->Int} (hs:aA (cxT ar) v aY.reverse):v 35=b2i (decide (v 34<21600000)):=ae hs 35 rfl
theorem OZ {ar:List Int} {v:Nat->Int} (hs:aA (cxT ar) v aY.reverse) (k29:v 29=1) (k30:v 30=1) (k32:v 32=1) (k35:v 35=1):v 36=1:=by
 refine ak (X:=cxT ar) (v:=v) (l:=aY) (fF _) hs (k:=36) (r:=.c 1) (ps:=[(29,.c 1),(30,.c 1),(32,.c 1),(35,.c 1)]) (nz:=[]) ?_ az (by kernel_rfl)
 intro y hy;simp only [List.mem_cons,List.not_mem_nil,or_false] at hy;rcases hy with rfl|rfl|rfl|rfl<;>assumption
theorem Yk {ar:List Int} {v:Nat->Int} (hs:aA (cxT ar) v aY.reverse):v 37=if v 28≠0 then 1 else v 36:=ae hs 37 rfl
theorem Ww {ar:List Int} {v:Nat->Int} (hs:aA (cxT ar) v aY.reverse):v 21=b2i (decide (v 7<=v 8)):=ae hs 21 rfl
theorem Zl {ar:List Int} {v:Nat->Int} (hs:aA (cxT ar) v aY.reverse):v 22=b2i (decide (v 7>=-5400000)):=ae hs 22 rfl
theorem aaF {ar:List Int} {v:Nat->Int} (hs:aA (cxT ar) v aY.reverse):v 24=b2i (decide (v 8<=5400000)):=ae hs 24 rfl
theorem V5 {ar:List Int} {v:Nat->Int} (hs:aA (cxT ar) v aY.reverse):v 40=if v 2>v 0 then v 2 else v 0:=ae hs 40 rfl
theorem YP {ar:List Int} {v:Nat->Int} (hs:aA (cxT ar) v aY.reverse):v 41=b2i (decide (v 8<v 40)):=ae hs 41 rfl
theorem WP {ar:List Int} {v:Nat->Int} (hs:aA (cxT ar) v aY.reverse):v 43=b2i (decide (v 7<0)):=ae hs 43 rfl
theorem MZ {ar:List Int} {v:Nat->Int} (hs:aA (cxT ar) v aY.reverse) (k48:v 48=21):v 57=0:=by
 refine ak (X:=cxT ar) (v:=v) (l:=aY) (fF _) hs (k:=57) (r:=.c 0) (ps:=[(48,.c 21)]) (nz:=[]) ?_ az (by kernel_rfl)
 intro y hy;simp only [List.mem_cons,List.not_mem_nil,or_false] at hy;rcases hy with rfl<;>assumption
theorem Z7 {ar:List Int} {v:Nat->Int} (hs:aA (cxT ar) v aY.reverse):v 50=b2i (decide (v 0<v 46)):=ae hs 50 rfl
theorem VR {ar:List Int} {v:Nat->Int} (hs:aA (cxT ar) v aY.reverse):v 51=b2i (decide (v 0>v 47)):=ae hs 51 rfl
theorem Ox {ar:List Int} {v:Nat->Int} (hs:aA (cxT ar) v aY.reverse) (k48:v 48=0) (k50:v 50=0) (k51:v 51=0):v 57=0:=by
 refine ak (X:=cxT ar) (v:=v) (l:=aY) (fF _) hs (k:=57) (r:=.c 0) (ps:=[(48,.c 0),(50,.c 0),(51,.c 0)]) (nz:=[]) ?_ az (by kernel_rfl)
 intro y hy;simp only [List.mem_cons,List.not_mem_nil,or_false] at hy;rcases hy with rfl|rfl|rfl<;>assumption
theorem OU {ar:List Int} {v:Nat->Int} (hs:aA (cxT ar) v aY.reverse) (k61:v 61=21):v 70=0:=by
 refine ak (X:=cxT ar) (v:=v) (l:=aY) (fF _) hs (k:=70) (r:=.c 0) (ps:=[(61,.c 21)]) (nz:=[]) ?_ az (by kernel_rfl)
 intro y hy;simp only [List.mem_cons,List.not_mem_nil,or_false] at hy;rcases hy with rfl<;>assumption
theorem Wm {ar:List Int} {v:Nat->Int} (hs:aA (cxT ar) v aY.reverse):v 63=b2i (decide (v 2<v 59)):=ae hs 63 rfl
theorem VK {ar:List Int} {v:Nat->Int} (hs:aA (cxT ar) v aY.reverse):v 64=b2i (decide (v 2>v 60)):=ae hs 64 rfl
theorem Oh {ar:List Int} {v:Nat->Int} (hs:aA (cxT ar) v aY.reverse) (k61:v 61=0) (k63:v 63=0) (k64:v 64=0):v 70=0:=by
 refine ak (X:=cxT ar) (v:=v) (l:=aY) (fF _) hs (k:=70) (r:=.c 0) (ps:=[(61,.c 0),(63,.c 0),(64,.c 0)]) (nz:=[]) ?_ az (by kernel_rfl)
 intro y hy;simp only [List.mem_cons,List.not_mem_nil,or_false] at hy;rcases hy with rfl|rfl|rfl<;>assumption
theorem Lh {ar:List Int} {v:Nat->Int} (hs:aA (cxT ar) v aY.reverse) (k11:v 11=0) (k21:v 21=1) (k22:v 22=1) (k24:v 24=1) (k37:v 37=1) (k41:v 41=0) (k43:v 43=0) (k57:v 57=0) (k70:v 70=0):v 102=1:=by
 refine ak (X:=cxT ar) (v:=v) (l:=aY) (fF _) hs (k:=102) (r:=.c 1) (ps:=[(11,.c 0),(21,.c 1),(22,.c 1),(24,.c 1),(37,.c 1),(41,.c 0),(43,.c 0),(57,.c 0),(70,.c 0)]) (nz:=[]) ?_ az (by kernel_rfl)
 intro y hy;simp only [List.mem_cons,List.not_mem_nil,or_false] at hy;rcases hy with rfl|rfl|rfl|rfl|rfl|rfl|rfl|rfl|rfl<;>assumption
theorem LZ (a0 a1 a2 a3:Int) (w:World):Calls Try.prog 5 #[.agg #[.int .i64 a0,.int .i64 a1],.agg #[.int .i64 a2,.int .i64 a3]] w fun e w'=>e=.returned (.bool true)/\Below w.heap.size w w':=by
 refine Sx.calls (X:=cxT [a0,a1,a2,a3]) dX (Q4 _) VO Zx (fun v hs=>?_) w
 have x7:v 7=(gT (v 0) (v 1) (v 2) (v 3)).getD 0 0:=(acw hs);have x8:v 8=(gT (v 0) (v 1) (v 2) (v 3)).getD 1 0:=(adT hs);have x9:v 9=(gT (v 0) (v 1) (v 2) (v 3)).getD 2 0:=(abA hs);have x10:v 10=(gT (v 0) (v 1) (v 2) (v 3)).getD 3 0:=(aaU hs);have x11:v 11=(gT (v 0) (v 1) (v 2) (v 3)).getD 4 0:=(aaB hs);have x46:v 46=(atW (v 0) (v 1) (v 2) (v 3) (v 1)).getD 0 0:=(Vg hs);have x47:v 47=(atW (v 0) (v 1) (v 2) (v 3) (v 1)).getD 1 0:=(VY hs);have x48:v 48=(atW (v 0) (v 1) (v 2) (v 3) (v 1)).getD 2 0:=(Vt hs);have x59:v 59=(atW (v 0) (v 1) (v 2) (v 3) (v 3)).getD 0 0:=(VA hs);have x60:v 60=(atW (v 0) (v 1) (v 2) (v 3) (v 3)).getD 1 0:=(YE hs);have x61:v 61=(atW (v 0) (v 1) (v 2) (v 3) (v 3)).getD 2 0:=(Xh hs);refine ⟨bO ady,?_⟩;have five:∀ a b c d e:Int,[a,b,c,d,e].getD 0 0=a/\[a,b,c,d,e].getD 1 0=b/\[a,b,c,d,e].getD 2 0=c/\[a,b,c,d,e].getD 3 0=d/\[a,b,c,d,e].getD 4 0=e:=fun _ _ _ _ _=>⟨rfl,rfl,rfl,rfl,rfl⟩
 by_cases hv:PtV (v 0) (v 1)/\PtV (v 2) (v 3)
 rotate_left
 . have W:gT (v 0) (v 1) (v 2) (v 3)=[0,0,0,0,1]:=if_neg hv;rw [W] at x7 x8 x9 x10 x11;have k7:v 7=0:=x7;have k8:v 8=0:=x8;have k9:v 9=0:=x9;have k10:v 10=0:=x10;have k11:v 11=1:=x11;intro x hx;have hx':x=.bool (decide (v 102≠0)):=hx;have hr:v 102=1:=(I6 hs k7 k8 k9 k10 k11);rw [hx',hr];rfl
 have h1:=hv.1;have h2:=hv.2;have W0:gT (v 0) (v 1) (v 2) (v 3)=nI (v 0) (v 1) (v 2) (v 3):=if_pos hv
 by_cases hc:crA (v 0) (v 1) (v 2) (v 3)
 . have W:nI (v 0) (v 1) (v 2) (v 3)=[0,0,0,0,21]:=if_pos hc;rw [W0,W] at x7 x8 x9 x10 x11;have k7:v 7=0:=x7;have k8:v 8=0:=x8;have k9:v 9=0:=x9;have k10:v 10=0:=x10;have k11:v 11=21:=x11;intro x hx;have hx':x=.bool (decide (v 102≠0)):=hx;have hr:v 102=1:=(JG hs k7 k8 k9 k10 k11);rw [hx',hr];rfl
 have W:nI (v 0) (v 1) (v 2) (v 3)=[jJ (vN (v 0) (v 1) (v 2) (v 3)).2,jc (vN (v 0) (v 1) (v 2) (v 3)).1,(jH (v 0) (v 1) (v 2) (v 3)).1,(jH (v 0) (v 1) (v 2) (v 3)).2,0]:=if_neg hc;rw [W0,W] at x7 x8 x9 x10 x11;have F:=five (jJ (vN (v 0) (v 1) (v 2) (v 3)).2) (jc (vN (v 0) (v 1) (v 2) (v 3)).1) (jH (v 0) (v 1) (v 2) (v 3)).1 (jH (v 0) (v 1) (v 2) (v 3)).2 0;have y7:=x7.trans F.1;have y8:=x8.trans F.2.1;have y9:=x9.trans F.2.2.1;have y10:=x10.trans F.2.2.2.1;have k11:v 11=0:=x11.trans F.2.2.2.2;have D:=sF (v 0) (v 1) (v 2) (v 3) h1 h2;have VN:=JQ (v 0) (v 1) (v 2) (v 3) h1 h2 D hc;have LV:=aaS (v 0) (v 1) (v 2) (v 3);have T1:=Hw (v 0) (v 1) (v 2) (v 3) (v 1) (v 0) h1 h2 (.inl ⟨rfl,rfl⟩);have T2:=Hw (v 0) (v 1) (v 2) (v 3) (v 3) (v 2) h1 h2 (.inr ⟨rfl,rfl⟩);rw [<-y7,<-y8] at VN;rw [<-y9,<-y10] at LV;rw [<-x46,<-x47,<-x48] at T1;rw [<-x59,<-x60,<-x61] at T2;clear x7 x8 x9 x10 x11 W W0 F y7 y8 y9 y10 D hc five x46 x47 x48 x59 x60 x61 h1 h2 hv
 have k37:v 37=1:=by
  rcases LV with q|q
  . have k26:v 26=1:=by rw [(abr hs),q.1];rfl
    have k27:v 27=1:=by rw [(Xi hs),q.2];rfl
    exact (Nb hs k26 k27)
  . have k29:v 29=1:=by rw [(Yu hs),decide_eq_true (by omega)];rfl
    have k30:v 30=1:=by rw [(UO hs),decide_eq_true (by omega)];rfl
    have k32:v 32=1:=by rw [(aai hs),decide_eq_true (by omega)];rfl
    have w34:v 34=v 10-v 9:=by rw [(XO hs),Go.IntWalk.i64_in _ (by omega)]
    have k35:v 35=1:=by rw [(WB hs),decide_eq_true (by rw [w34];omega)];rfl
    have k36:=(OZ hs k29 k30 k32 k35);rw [(Yk hs)];split
    . rfl
    . exact k36
 clear LV;have k21:v 21=1:=by rw [(Ww hs),decide_eq_true (by omega)];rfl
 have k22:v 22=1:=by rw [(Zl hs),decide_eq_true (by omega)];rfl
 have k24:v 24=1:=by rw [(aaF hs),decide_eq_true (by omega)];rfl
 have w40:v 40=if v 2>v 0 then v 2 else v 0:=(V5 hs)
 have k41:v 41=0:=by rw [(YP hs),decide_eq_false (by rw [w40];split<;>omega)];rfl
 have k43:v 43=0:=by rw [(WP hs),decide_eq_false (by omega)];rfl
 have k57:v 57=0:=by
  rcases T1 with q|q
  . have k48:v 48=21:=q;exact (MZ hs k48)
  . have k48:v 48=0:=q.1;have k50:v 50=0:=by rw [(Z7 hs),decide_eq_false (Int.not_lt.2 q.2.1)];rfl
    have k51:v 51=0:=by rw [(VR hs),decide_eq_false (Int.not_lt.2 q.2.2)];rfl
    exact (Ox hs k48 k50 k51)
 have k70:v 70=0:=by
  rcases T2 with q|q
  . have k61:v 61=21:=q;exact (OU hs k61)
  . have k61:v 61=0:=q.1;have k63:v 63=0:=by rw [(Wm hs),decide_eq_false (Int.not_lt.2 q.2.1)];rfl
    have k64:v 64=0:=by rw [(VK hs),decide_eq_false (Int.not_lt.2 q.2.2)];rfl
    exact (Oh hs k61 k63 k64)
 intro x hx;have hx':x=.bool (decide (v 102≠0)):=hx;have hr:v 102=1:=(Lh hs k11 k21 k22 k24 k37 k41 k43 k57 k70);rw [hx',hr];rfl
