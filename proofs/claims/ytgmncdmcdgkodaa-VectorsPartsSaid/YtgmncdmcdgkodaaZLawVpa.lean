/- The law VectorsParts. -/
import Derived.Test.YtgmncdmcdgkodaaZVpP
import Derived.Test.YtgmncdmcdgkodaaZVe3
import Derived.Test.YtgmncdmcdgkodaaZAwV
import Derived.Test.YtgmncdmcdgkodaaZEv
set_option linter.unusedVariables false
set_option linter.unusedSimpArgs false
set_option maxRecDepth 100000
set_option maxHeartbeats 8000000
namespace Go.Proofs.Ytgmncdmcdgkodaa
open Go.RowKit Alm Sx
def ofT (a0 a1 a2 a3:Int):List Int:=if dA a0 a1=true/\dA a2 a3=true then [(uM (uC a0 a1) (uC a2 a3)).1,(uM (uC a0 a1) (uC a2 a3)).2,(uM (uC a0 a1) (uS a2 a3)).1,(uM (uC a0 a1) (uS a2 a3)).2,(uS a0 a1).1,(uS a0 a1).2,0] else [0,0,0,0,0,0,1]
def loT (a0 a1 a2 a3 a4 a5 a6 a7 a8 a9:Int):List Int:=if dA a6 a7=true/\dA a8 a9=true then (if loF ((a0,a1):IV) ((a2,a3):IV) ((a4,a5):IV) a6 a7 a8 a9=0/\loG ((a0,a1):IV) ((a2,a3):IV) ((a4,a5):IV) a6 a7 a8 a9=0 then [(loE ((a0,a1):IV) ((a2,a3):IV) a8 a9).1,(loE ((a0,a1):IV) ((a2,a3):IV) a8 a9).2,(loN ((a0,a1):IV) ((a2,a3):IV) ((a4,a5):IV) a6 a7 a8 a9).1,(loN ((a0,a1):IV) ((a2,a3):IV) ((a4,a5):IV) a6 a7 a8 a9).2,(loU ((a0,a1):IV) ((a2,a3):IV) ((a4,a5):IV) a6 a7 a8 a9).1,(loU ((a0,a1):IV) ((a2,a3):IV) ((a4,a5):IV) a6 a7 a8 a9).2,0] else [0,0,0,0,0,0,5]) else [0,0,0,0,0,0,1]
def plT (a0 a1 a2 a3 a4 a5:Int):List Int:=if bN a4 a5 (hoI ((a0,a1):IV) ((a2,a3):IV)).1 (hoI ((a0,a1):IV) ((a2,a3):IV)).2=true then [0,0,0,0,21] else [slo (aU a4 a5 (hoI ((a0,a1):IV) ((a2,a3):IV)).1 (hoI ((a0,a1):IV) ((a2,a3):IV)).2),min (slo (aU a4 a5 (hoI ((a0,a1):IV) ((a2,a3):IV)).1 (hoI ((a0,a1):IV) ((a2,a3):IV)).2)+(bg a4 a5 (hoI ((a0,a1):IV) ((a2,a3):IV)).1 (hoI ((a0,a1):IV) ((a2,a3):IV)).2-aU a4 a5 (hoI ((a0,a1):IV) ((a2,a3):IV)).1 (hoI ((a0,a1):IV) ((a2,a3):IV)).2)) 5400000,(if bg a2 a3 a0 a1-aU a2 a3 a0 a1<21600000 then slo (aU a2 a3 a0 a1) else -10800000),(if bg a2 a3 a0 a1-aU a2 a3 a0 a1<21600000 then slo (aU a2 a3 a0 a1)+(bg a2 a3 a0 a1-aU a2 a3 a0 a1) else 10800000),0]
def kVp (f:Nat):Bool:=f==101 || (f==105 || f==106)
def Ut:Nat->List Int->List Int
 | 101,[a,b,c,d]=>[(ofT a b c d).getD 0 0,(ofT a b c d).getD 1 0,(ofT a b c d).getD 2 0,(ofT a b c d).getD 3 0,(ofT a b c d).getD 4 0,(ofT a b c d).getD 5 0,(ofT a b c d).getD 6 0]
 | 105,[a0,a1,a2,a3,a4,a5,a6,a7,a8,a9]=>[(loT a0 a1 a2 a3 a4 a5 a6 a7 a8 a9).getD 0 0,(loT a0 a1 a2 a3 a4 a5 a6 a7 a8 a9).getD 1 0,(loT a0 a1 a2 a3 a4 a5 a6 a7 a8 a9).getD 2 0,(loT a0 a1 a2 a3 a4 a5 a6 a7 a8 a9).getD 3 0,(loT a0 a1 a2 a3 a4 a5 a6 a7 a8 a9).getD 4 0,(loT a0 a1 a2 a3 a4 a5 a6 a7 a8 a9).getD 5 0,(loT a0 a1 a2 a3 a4 a5 a6 a7 a8 a9).getD 6 0]
 | 106,[a0,a1,a2,a3,a4,a5]=>[(plT a0 a1 a2 a3 a4 a5).getD 0 0,(plT a0 a1 a2 a3 a4 a5).getD 1 0,(plT a0 a1 a2 a3 a4 a5).getD 2 0,(plT a0 a1 a2 a3 a4 a5).getD 3 0,(plT a0 a1 a2 a3 a4 a5).getD 4 0]
 | _,_=>[]
def UQ:Nat->List Int->Prop
 | 101,[_,_,_,_]=>True
 | 105,[a0,a1,a2,a3,a4,a5,_,_,_,_]=>U (a0,a1)/\U (a2,a3)/\U (a4,a5)
 | 106,[a0,a1,a2,a3,a4,a5]=>U (a0,a1)/\U (a2,a3)/\U (a4,a5)
 | _,_=>False
def lh (args:List Int):Cx:=(cxB args).plus kVp Ut UQ
theorem TK (args:List Int):pO (lh args):=BA (EY args) fun f h=>by
 unfold kVp;rcases h with h|rfl
 . simp;omega
 . rfl
def Vr:Sx.Spec:=⟨29,101,[(true,[some .i64,some .i64]),(true,[some .i64,some .i64])],[(true,[some .i64,some .i64,some .i64,some .i64,some .i64,some .i64]),(false,[some .i64])]⟩
def Ux:Sx.Spec:=⟨31,105,[(true,[some .i64,some .i64,some .i64,some .i64,some .i64,some .i64]),(true,[some .i64,some .i64]),(true,[some .i64,some .i64])],[(true,[some .i64,some .i64,some .i64,some .i64,some .i64,some .i64]),(false,[some .i64])]⟩
def UU:Sx.Spec:=⟨32,106,[(true,[some .i64,some .i64,some .i64,some .i64,some .i64,some .i64])],[(true,[some .i64,some .i64,some .i64,some .i64]),(false,[some .i64])]⟩
theorem wl7 (x0 x1 x2 x3 x4 x5 x6:Int):[x0,x1,x2,x3,x4,x5,x6].getD 0 0=x0/\[x0,x1,x2,x3,x4,x5,x6].getD 1 0=x1/\[x0,x1,x2,x3,x4,x5,x6].getD 2 0=x2/\[x0,x1,x2,x3,x4,x5,x6].getD 3 0=x3/\[x0,x1,x2,x3,x4,x5,x6].getD 4 0=x4/\[x0,x1,x2,x3,x4,x5,x6].getD 5 0=x5/\[x0,x1,x2,x3,x4,x5,x6].getD 6 0=x6:=⟨rfl,rfl,rfl,rfl,rfl,rfl,rfl⟩
theorem wl5 (x0 x1 x2 x3 x4:Int):[x0,x1,x2,x3,x4].getD 0 0=x0/\[x0,x1,x2,x3,x4].getD 1 0=x1/\[x0,x1,x2,x3,x4].getD 2 0=x2/\[x0,x1,x2,x3,x4].getD 3 0=x3/\[x0,x1,x2,x3,x4].getD 4 0=x4:=⟨rfl,rfl,rfl,rfl,rfl⟩
theorem Vp (a b c d:Int) (w:World):Calls Try.prog 29 #[.agg #[.int .i64 a,.int .i64 b],.agg #[.int .i64 c,.int .i64 d]] w fun e w'=>e=.returned (.tuple #[.agg #[.int .i64 ((ofT a b c d).getD 0 0),.int .i64 ((ofT a b c d).getD 1 0),.int .i64 ((ofT a b c d).getD 2 0),.int .i64 ((ofT a b c d).getD 3 0),.int .i64 ((ofT a b c d).getD 4 0),.int .i64 ((ofT a b c d).getD 5 0)],.int .i64 ((ofT a b c d).getD 6 0)])/\Below w.heap.size w w':=by
 by_cases h:dA a b=true/\dA c d=true
 . unfold ofT;rw [if_pos h];rw [(wl7 _ _ _ _ _ _ _).1,(wl7 _ _ _ _ _ _ _).2.1,(wl7 _ _ _ _ _ _ _).2.2.1,(wl7 _ _ _ _ _ _ _).2.2.2.1,(wl7 _ _ _ _ _ _ _).2.2.2.2.1,(wl7 _ _ _ _ _ _ _).2.2.2.2.2.1,(wl7 _ _ _ _ _ _ _).2.2.2.2.2.2];exact Mc a b c d w h.1 h.2
 . unfold ofT;rw [if_neg h];rw [(wl7 _ _ _ _ _ _ _).1,(wl7 _ _ _ _ _ _ _).2.1,(wl7 _ _ _ _ _ _ _).2.2.1,(wl7 _ _ _ _ _ _ _).2.2.2.1,(wl7 _ _ _ _ _ _ _).2.2.2.2.1,(wl7 _ _ _ _ _ _ _).2.2.2.2.2.1,(wl7 _ _ _ _ _ _ _).2.2.2.2.2.2];exact QZ a b c d w h
theorem UT (a0 a1 a2 a3 a4 a5 a6 a7 a8 a9:Int) (w:World) (u:U (a0,a1)/\U (a2,a3)/\U (a4,a5)):Calls Try.prog 31 #[.agg #[.int .i64 a0,.int .i64 a1,.int .i64 a2,.int .i64 a3,.int .i64 a4,.int .i64 a5],.agg #[.int .i64 a6,.int .i64 a7],.agg #[.int .i64 a8,.int .i64 a9]] w fun e w'=>e=.returned (.tuple #[.agg #[.int .i64 ((loT a0 a1 a2 a3 a4 a5 a6 a7 a8 a9).getD 0 0),.int .i64 ((loT a0 a1 a2 a3 a4 a5 a6 a7 a8 a9).getD 1 0),.int .i64 ((loT a0 a1 a2 a3 a4 a5 a6 a7 a8 a9).getD 2 0),.int .i64 ((loT a0 a1 a2 a3 a4 a5 a6 a7 a8 a9).getD 3 0),.int .i64 ((loT a0 a1 a2 a3 a4 a5 a6 a7 a8 a9).getD 4 0),.int .i64 ((loT a0 a1 a2 a3 a4 a5 a6 a7 a8 a9).getD 5 0)],.int .i64 ((loT a0 a1 a2 a3 a4 a5 a6 a7 a8 a9).getD 6 0)])/\Below w.heap.size w w':=by
 by_cases h:dA a6 a7=true/\dA a8 a9=true
 . by_cases g:loF ((a0,a1):IV) ((a2,a3):IV) ((a4,a5):IV) a6 a7 a8 a9=0/\loG ((a0,a1):IV) ((a2,a3):IV) ((a4,a5):IV) a6 a7 a8 a9=0
   . unfold loT;rw [if_pos h,if_pos g];rw [(wl7 _ _ _ _ _ _ _).1,(wl7 _ _ _ _ _ _ _).2.1,(wl7 _ _ _ _ _ _ _).2.2.1,(wl7 _ _ _ _ _ _ _).2.2.2.1,(wl7 _ _ _ _ _ _ _).2.2.2.2.1,(wl7 _ _ _ _ _ _ _).2.2.2.2.2.1,(wl7 _ _ _ _ _ _ _).2.2.2.2.2.2];exact Vm a0 a1 a2 a3 a4 a5 a6 a7 a8 a9 w u.1 u.2.1 u.2.2 h.1 h.2 g.1 g.2
   . unfold loT;rw [if_pos h,if_neg g];rw [(wl7 _ _ _ _ _ _ _).1,(wl7 _ _ _ _ _ _ _).2.1,(wl7 _ _ _ _ _ _ _).2.2.1,(wl7 _ _ _ _ _ _ _).2.2.2.1,(wl7 _ _ _ _ _ _ _).2.2.2.2.1,(wl7 _ _ _ _ _ _ _).2.2.2.2.2.1,(wl7 _ _ _ _ _ _ _).2.2.2.2.2.2];exact QV a0 a1 a2 a3 a4 a5 a6 a7 a8 a9 w u.1 u.2.1 u.2.2 h.1 h.2 g
 . unfold loT;rw [if_neg h];rw [(wl7 _ _ _ _ _ _ _).1,(wl7 _ _ _ _ _ _ _).2.1,(wl7 _ _ _ _ _ _ _).2.2.1,(wl7 _ _ _ _ _ _ _).2.2.2.1,(wl7 _ _ _ _ _ _ _).2.2.2.2.1,(wl7 _ _ _ _ _ _ _).2.2.2.2.2.1,(wl7 _ _ _ _ _ _ _).2.2.2.2.2.2];exact QW a0 a1 a2 a3 a4 a5 a6 a7 a8 a9 w u.1 u.2.1 u.2.2 h
theorem Vn (a0 a1 a2 a3 a4 a5:Int) (w:World) (u:U (a0,a1)/\U (a2,a3)/\U (a4,a5)):Calls Try.prog 32 #[.agg #[.int .i64 a0,.int .i64 a1,.int .i64 a2,.int .i64 a3,.int .i64 a4,.int .i64 a5]] w fun e w'=>e=.returned (.tuple #[.agg #[.int .i64 ((plT a0 a1 a2 a3 a4 a5).getD 0 0),.int .i64 ((plT a0 a1 a2 a3 a4 a5).getD 1 0),.int .i64 ((plT a0 a1 a2 a3 a4 a5).getD 2 0),.int .i64 ((plT a0 a1 a2 a3 a4 a5).getD 3 0)],.int .i64 ((plT a0 a1 a2 a3 a4 a5).getD 4 0)])/\Below w.heap.size w w':=by
 by_cases h:bN a4 a5 (hoI ((a0,a1):IV) ((a2,a3):IV)).1 (hoI ((a0,a1):IV) ((a2,a3):IV)).2=true
 . unfold plT;rw [if_pos h];rw [(wl5 _ _ _ _ _).1,(wl5 _ _ _ _ _).2.1,(wl5 _ _ _ _ _).2.2.1,(wl5 _ _ _ _ _).2.2.2.1,(wl5 _ _ _ _ _).2.2.2.2];exact QQ a0 a1 a2 a3 a4 a5 w u.1 u.2.1 u.2.2 h
 . unfold plT;rw [if_neg h];rw [(wl5 _ _ _ _ _).1,(wl5 _ _ _ _ _).2.1,(wl5 _ _ _ _ _).2.2.1,(wl5 _ _ _ _ _).2.2.2.1,(wl5 _ _ _ _ _).2.2.2.2];exact UG a0 a1 a2 a3 a4 a5 w u.1 u.2.1 u.2.2 (by simpa using h)
theorem RS (args:List Int):aY Try.prog (lh args) Vr:=by
 refine kP rfl (ours _ _ _ Try.func29 rfl (by kernel_rfl)) fun xs hp w=>?_
 match xs,hp with
 | [a,b,c,d],hp=>exact Vp a b c d w
theorem RZ (args:List Int):aY Try.prog (lh args) Ux:=by
 refine kP rfl (ours _ _ _ Try.func31 rfl (by kernel_rfl)) fun xs hp w=>?_
 match xs,hp with
 | [a0,a1,a2,a3,a4,a5,a6,a7,a8,a9],hp=>exact UT a0 a1 a2 a3 a4 a5 a6 a7 a8 a9 w hp
theorem R8 (args:List Int):aY Try.prog (lh args) UU:=by
 refine kP rfl (ours _ _ _ Try.func32 rfl (by kernel_rfl)) fun xs hp w=>?_
 match xs,hp with
 | [a0,a1,a2,a3,a4,a5],hp=>exact Vn a0 a1 a2 a3 a4 a5 w hp
def Sz:List Sx.Spec:=[LX,Vr,Ux,UU]
theorem RU (args:List Int):∀ s∈Sz,aY Try.prog (lh args) s:=by
 intro s hs;simp only [Sz,List.mem_cons,List.not_mem_nil,or_false] at hs;rcases hs with rfl|rfl|rfl|rfl
 . exact ER rfl (Gb args)
 . exact RS args
 . exact RZ args
 . exact R8 args
def Sb (t:Tab):Nd->Option Rf
 | .app 20 0 []=>some (.c 1)
 | x=>CX t x
theorem pz (args:List Int):kH (lh args) Sb:=by
 intro v t x r ht h;unfold Sb at h;split at h
 . cases h;rfl
 . exact za (TK args) v t x r ht h
theorem Rl {a a2 b b2:Int} (y:b<=a/\a<=a2/\a2<=b2) (x:-2147483648<=b/\b<=b2/\b2<=2147483648):a>=-2147483648/\a<=a2/\a2<=2147483648/\b>=-2147483648/\b<=b2/\b2<=2147483648/\b<=a/\a2<=b2:=by omega
theorem RB {a b:Int} (x:-1073741824<=a/\a<=b/\b<=1073741824):-2147483648<=a/\a<=b/\b<=2147483648:=by omega
theorem Q5 {L H L' H':Int} (b:0<=L/\L<=21599999/\L<=H) (b':0<=L'/\L'<=21599999/\L'<=H') (r:-5400000<=slo L/\slo L<=5400000/\slo L+(H-L)<=5400001) (r':-5400000<=slo L'/\slo L'<=5400000) (hw:H-L<=10800001) (w:(L'-L)%21600000+(H'-L')<=H-L):slo L<=slo L'/\min (slo L'+(H'-L')) 5400000<=min (slo L+(H-L)) 5400000:=by
 unfold slo at *
 split at r<;>split at r'<;>(split;all_goals (try split))<;>omega
theorem P8 {l l':Int} (b:0<=l/\l<=21599999) (b':0<=l'/\l'<=21599999):(slo l'-slo l)%21600000=(l'-l)%21600000/\(-10800000<=slo l/\slo l<10800000):=by
 unfold slo;split<;>split<;>omega
theorem R3 {x r c u z:Int} (hx:-100000000<=x/\x<=100000000) (hr:r=Int.tmod x 21600000) (hc:c=b2i (decide (r<0))) (hu:u=IntKind.i64.wrap (r+21600000)) (hz:z=if c≠0 then u else r):z=x%21600000:=by
 have b1:=Int.tmod_lt_of_pos x (show (0:Int)<21600000 by omega)
 have b2:=Int.tmod_lt_of_pos (-x) (show (0:Int)<21600000 by omega)
 rw [Int.neg_tmod] at b2;rw [Go.IntWalk.i64_in _ (by omega)] at hu
 rw [hz,hc,uN,hu,hr];rw [Int.tmod_eq_emod] at *
 split<;>split<;>omega
theorem uz {a b:Int} {p:IV} (h1:a=p.1) (h2:b=p.2):((a,b):IV)=p:=Prod.ext h1 h2
def cu:List Nd:=[
 .arg 0,
 .arg 1,
 .arg 2,
 .arg 3,
 .arg 4,
 .arg 5,
 .arg 6,
 .arg 7,
 .arg 8,
 .arg 9,
 .app 20 0 [],
 .ite (.n 10) (.c 0) (.c 1),
 .ite (.n 11) (.c 0) (.c 1),
 .app 101 0 [.n 0,.n 1,.n 2,.n 3],
 .app 101 1 [.n 0,.n 1,.n 2,.n 3],
 .app 101 2 [.n 0,.n 1,.n 2,.n 3],
 .app 101 3 [.n 0,.n 1,.n 2,.n 3],
 .app 101 4 [.n 0,.n 1,.n 2,.n 3],
 .app 101 5 [.n 0,.n 1,.n 2,.n 3],
 .app 101 6 [.n 0,.n 1,.n 2,.n 3],
 .bin .neq .i64 (.n 19) (.c 0),
 .bin .eql .i64 (.n 13) (.c 0),
 .bin .eql .i64 (.n 14) (.c 0),
 .bin .eql .i64 (.n 15) (.c 0),
 .bin .eql .i64 (.n 16) (.c 0),
 .bin .eql .i64 (.n 17) (.c 0),
 .bin .eql .i64 (.n 18) (.c 0),
 .ite (.n 25) (.n 26) (.c 0),
 .ite (.n 24) (.n 27) (.c 0),
 .ite (.n 23) (.n 28) (.c 0),
 .ite (.n 22) (.n 29) (.c 0),
 .ite (.n 21) (.n 30) (.c 0),
 .ite (.n 20) (.c 0) (.c 1),
 .bin .gtr .i64 (.n 0) (.n 1),
 .bin .gtr .i64 (.n 2) (.n 3),
 .ite (.n 33) (.c 1) (.n 34),
 .ite (.n 35) (.c 0) (.c 1),
 .wrap .i64 (.n 8),
 .bin .sub .i64 (.n 1) (.n 0),
 .bin .add .i64 (.n 38) (.c 1),
 .bin .rem .i64 (.n 37) (.n 39),
 .bin .add .i64 (.n 0) (.n 40),
 .wrap .i64 (.n 9),
 .bin .sub .i64 (.n 3) (.n 2),
 .bin .add .i64 (.n 43) (.c 1),
 .bin .rem .i64 (.n 42) (.n 44),
 .bin .add .i64 (.n 2) (.n 45),
 .app 101 0 [.n 41,.n 1,.n 46,.n 46],
 .app 101 1 [.n 41,.n 1,.n 46,.n 46],
 .app 101 2 [.n 41,.n 1,.n 46,.n 46],
 .app 101 3 [.n 41,.n 1,.n 46,.n 46],
 .app 101 4 [.n 41,.n 1,.n 46,.n 46],
 .app 101 5 [.n 41,.n 1,.n 46,.n 46],
 .app 101 6 [.n 41,.n 1,.n 46,.n 46],
 .bin .neq .i64 (.n 53) (.c 0),
 .bin .geq .i64 (.n 47) (.c (-2147483648)),
 .bin .leq .i64 (.n 47) (.n 48),
 .ite (.n 55) (.n 56) (.c 0),
 .bin .leq .i64 (.n 48) (.c 2147483648),
 .ite (.n 57) (.n 58) (.c 0),
 .bin .geq .i64 (.n 13) (.c (-2147483648)),
 .bin .leq .i64 (.n 13) (.n 14),
 .ite (.n 60) (.n 61) (.c 0),
 .bin .leq .i64 (.n 14) (.c 2147483648),
 .ite (.n 62) (.n 63) (.c 0),
 .ite (.n 59) (.n 64) (.c 0),
 .bin .leq .i64 (.n 13) (.n 47),
 .ite (.n 65) (.n 66) (.c 0),
 .bin .leq .i64 (.n 48) (.n 14),
 .ite (.n 67) (.n 68) (.c 0),
 .bin .geq .i64 (.n 49) (.c (-2147483648)),
 .bin .leq .i64 (.n 49) (.n 50),
 .ite (.n 70) (.n 71) (.c 0),
 .bin .leq .i64 (.n 50) (.c 2147483648),
 .ite (.n 72) (.n 73) (.c 0),
 .bin .geq .i64 (.n 15) (.c (-2147483648)),
 .bin .leq .i64 (.n 15) (.n 16),
 .ite (.n 75) (.n 76) (.c 0),
 .bin .leq .i64 (.n 16) (.c 2147483648),
 .ite (.n 77) (.n 78) (.c 0),
 .ite (.n 74) (.n 79) (.c 0),
 .bin .leq .i64 (.n 15) (.n 49),
 .ite (.n 80) (.n 81) (.c 0),
 .bin .leq .i64 (.n 50) (.n 16),
 .ite (.n 82) (.n 83) (.c 0),
 .ite (.n 69) (.n 84) (.c 0),
 .bin .geq .i64 (.n 51) (.c (-2147483648)),
 .bin .leq .i64 (.n 51) (.n 52),
 .ite (.n 86) (.n 87) (.c 0),
 .bin .leq .i64 (.n 52) (.c 2147483648),
 .ite (.n 88) (.n 89) (.c 0),
 .bin .geq .i64 (.n 17) (.c (-2147483648)),
 .bin .leq .i64 (.n 17) (.n 18),
 .ite (.n 91) (.n 92) (.c 0),
 .bin .leq .i64 (.n 18) (.c 2147483648),
 .ite (.n 93) (.n 94) (.c 0),
 .ite (.n 90) (.n 95) (.c 0),
 .bin .leq .i64 (.n 17) (.n 51),
 .ite (.n 96) (.n 97) (.c 0),
 .bin .leq .i64 (.n 52) (.n 18),
 .ite (.n 98) (.n 99) (.c 0),
 .ite (.n 85) (.n 100) (.c 0),
 .ite (.n 101) (.c 0) (.c 1),
 .ite (.n 54) (.c 1) (.n 102),
 .ite (.n 103) (.c 0) (.c 1),
 .app 105 0 [.n 13,.n 14,.n 15,.n 16,.n 17,.n 18,.n 4,.n 5,.n 6,.n 7],
 .app 105 1 [.n 13,.n 14,.n 15,.n 16,.n 17,.n 18,.n 4,.n 5,.n 6,.n 7],
 .app 105 2 [.n 13,.n 14,.n 15,.n 16,.n 17,.n 18,.n 4,.n 5,.n 6,.n 7],
 .app 105 3 [.n 13,.n 14,.n 15,.n 16,.n 17,.n 18,.n 4,.n 5,.n 6,.n 7],
 .app 105 4 [.n 13,.n 14,.n 15,.n 16,.n 17,.n 18,.n 4,.n 5,.n 6,.n 7],
 .app 105 5 [.n 13,.n 14,.n 15,.n 16,.n 17,.n 18,.n 4,.n 5,.n 6,.n 7],
 .app 105 6 [.n 13,.n 14,.n 15,.n 16,.n 17,.n 18,.n 4,.n 5,.n 6,.n 7],
 .app 105 0 [.n 47,.n 48,.n 49,.n 50,.n 51,.n 52,.n 4,.n 5,.n 6,.n 7],
 .app 105 1 [.n 47,.n 48,.n 49,.n 50,.n 51,.n 52,.n 4,.n 5,.n 6,.n 7],
 .app 105 2 [.n 47,.n 48,.n 49,.n 50,.n 51,.n 52,.n 4,.n 5,.n 6,.n 7],
 .app 105 3 [.n 47,.n 48,.n 49,.n 50,.n 51,.n 52,.n 4,.n 5,.n 6,.n 7],
 .app 105 4 [.n 47,.n 48,.n 49,.n 50,.n 51,.n 52,.n 4,.n 5,.n 6,.n 7],
 .app 105 5 [.n 47,.n 48,.n 49,.n 50,.n 51,.n 52,.n 4,.n 5,.n 6,.n 7],
 .app 105 6 [.n 47,.n 48,.n 49,.n 50,.n 51,.n 52,.n 4,.n 5,.n 6,.n 7],
 .bin .eql .i64 (.n 111) (.c 0),
 .bin .neq .i64 (.n 118) (.c 0),
 .bin .geq .i64 (.n 112) (.c (-2147483648)),
 .bin .leq .i64 (.n 112) (.n 113),
 .ite (.n 121) (.n 122) (.c 0),
 .bin .leq .i64 (.n 113) (.c 2147483648),
 .ite (.n 123) (.n 124) (.c 0),
 .bin .geq .i64 (.n 105) (.c (-2147483648)),
 .bin .leq .i64 (.n 105) (.n 106),
 .ite (.n 126) (.n 127) (.c 0),
 .bin .leq .i64 (.n 106) (.c 2147483648),
 .ite (.n 128) (.n 129) (.c 0),
 .ite (.n 125) (.n 130) (.c 0),
 .bin .leq .i64 (.n 105) (.n 112),
 .ite (.n 131) (.n 132) (.c 0),
 .bin .leq .i64 (.n 113) (.n 106),
 .ite (.n 133) (.n 134) (.c 0),
 .bin .geq .i64 (.n 114) (.c (-2147483648)),
 .bin .leq .i64 (.n 114) (.n 115),
 .ite (.n 136) (.n 137) (.c 0),
 .bin .leq .i64 (.n 115) (.c 2147483648),
 .ite (.n 138) (.n 139) (.c 0),
 .bin .geq .i64 (.n 107) (.c (-2147483648)),
 .bin .leq .i64 (.n 107) (.n 108),
 .ite (.n 141) (.n 142) (.c 0),
 .bin .leq .i64 (.n 108) (.c 2147483648),
 .ite (.n 143) (.n 144) (.c 0),
 .ite (.n 140) (.n 145) (.c 0),
 .bin .leq .i64 (.n 107) (.n 114),
 .ite (.n 146) (.n 147) (.c 0),
 .bin .leq .i64 (.n 115) (.n 108),
 .ite (.n 148) (.n 149) (.c 0),
 .ite (.n 135) (.n 150) (.c 0),
 .bin .geq .i64 (.n 116) (.c (-2147483648)),
 .bin .leq .i64 (.n 116) (.n 117),
 .ite (.n 152) (.n 153) (.c 0),
 .bin .leq .i64 (.n 117) (.c 2147483648),
 .ite (.n 154) (.n 155) (.c 0),
 .bin .geq .i64 (.n 109) (.c (-2147483648)),
 .bin .leq .i64 (.n 109) (.n 110),
 .ite (.n 157) (.n 158) (.c 0),
 .bin .leq .i64 (.n 110) (.c 2147483648),
 .ite (.n 159) (.n 160) (.c 0),
 .ite (.n 156) (.n 161) (.c 0),
 .bin .leq .i64 (.n 109) (.n 116),
 .ite (.n 162) (.n 163) (.c 0),
 .bin .leq .i64 (.n 117) (.n 110),
 .ite (.n 164) (.n 165) (.c 0),
 .ite (.n 151) (.n 166) (.c 0),
 .ite (.n 167) (.c 0) (.c 1),
 .ite (.n 120) (.c 1) (.n 168),
 .ite (.n 119) (.n 169) (.c 0),
 .ite (.n 170) (.c 0) (.c 1),
 .app 106 0 [.n 13,.n 14,.n 15,.n 16,.n 17,.n 18],
 .app 106 1 [.n 13,.n 14,.n 15,.n 16,.n 17,.n 18],
 .app 106 2 [.n 13,.n 14,.n 15,.n 16,.n 17,.n 18],
 .app 106 3 [.n 13,.n 14,.n 15,.n 16,.n 17,.n 18],
 .app 106 4 [.n 13,.n 14,.n 15,.n 16,.n 17,.n 18],
 .app 106 0 [.n 47,.n 48,.n 49,.n 50,.n 51,.n 52],
 .app 106 1 [.n 47,.n 48,.n 49,.n 50,.n 51,.n 52],
 .app 106 2 [.n 47,.n 48,.n 49,.n 50,.n 51,.n 52],
 .app 106 3 [.n 47,.n 48,.n 49,.n 50,.n 51,.n 52],
 .app 106 4 [.n 47,.n 48,.n 49,.n 50,.n 51,.n 52],
 .bin .neq .i64 (.n 176) (.c 0),
 .bin .eql .i64 (.n 181) (.c 0),
 .bin .leq .i64 (.n 177) (.n 178),
 .bin .geq .i64 (.n 177) (.c (-5400000)),
 .ite (.n 184) (.n 185) (.c 0),
 .bin .leq .i64 (.n 178) (.c 5400000),
 .ite (.n 186) (.n 187) (.c 0),
 .bin .eql .i64 (.n 179) (.c (-10800000)),
 .bin .eql .i64 (.n 180) (.c 10800000),
 .ite (.n 189) (.n 190) (.c 0),
 .bin .geq .i64 (.n 179) (.c (-10800000)),
 .bin .lss .i64 (.n 179) (.c 10800000),
 .ite (.n 192) (.n 193) (.c 0),
 .bin .leq .i64 (.n 179) (.n 180),
 .ite (.n 194) (.n 195) (.c 0),
 .bin .sub .i64 (.n 180) (.n 179),
 .bin .lss .i64 (.n 197) (.c 21600000),
 .ite (.n 196) (.n 198) (.c 0),
 .ite (.n 191) (.c 1) (.n 199),
 .ite (.n 188) (.n 200) (.c 0),
 .bin .leq .i64 (.n 172) (.n 173),
 .bin .geq .i64 (.n 172) (.c (-5400000)),
 .ite (.n 202) (.n 203) (.c 0),
 .bin .leq .i64 (.n 173) (.c 5400000),
 .ite (.n 204) (.n 205) (.c 0),
 .bin .eql .i64 (.n 174) (.c (-10800000)),
 .bin .eql .i64 (.n 175) (.c 10800000),
 .ite (.n 207) (.n 208) (.c 0),
 .bin .geq .i64 (.n 174) (.c (-10800000)),
 .bin .lss .i64 (.n 174) (.c 10800000),
 .ite (.n 210) (.n 211) (.c 0),
 .bin .leq .i64 (.n 174) (.n 175),
 .ite (.n 212) (.n 213) (.c 0),
 .bin .sub .i64 (.n 175) (.n 174),
 .bin .lss .i64 (.n 215) (.c 21600000),
 .ite (.n 214) (.n 216) (.c 0),
 .ite (.n 209) (.c 1) (.n 217),
 .ite (.n 206) (.n 218) (.c 0),
 .ite (.n 201) (.n 219) (.c 0),
 .bin .geq .i64 (.n 177) (.n 172),
 .ite (.n 220) (.n 221) (.c 0),
 .bin .leq .i64 (.n 178) (.n 173),
 .ite (.n 222) (.n 223) (.c 0),
 .ite (.n 191) (.c 0) (.c 1),
 .ite (.n 209) (.c 0) (.c 1),
 .ite (.n 226) (.n 225) (.c 0),
 .ite (.n 226) (.n 191) (.c 0),
 .ite (.n 209) (.c 1) (.n 228),
 .bin .sub .i64 (.n 179) (.n 174),
 .bin .rem .i64 (.n 230) (.c 21600000),
 .bin .lss .i64 (.n 231) (.c 0),
 .bin .add .i64 (.n 231) (.c 21600000),
 .ite (.n 232) (.c 0) (.c 1),
 .ite (.n 232) (.n 233) (.n 231),
 .bin .add .i64 (.n 235) (.n 180),
 .bin .sub .i64 (.n 236) (.n 179),
 .bin .leq .i64 (.n 237) (.n 215),
 .ite (.n 229) (.c 1) (.n 227),
 .ite (.n 229) (.n 209) (.n 238),
 .ite (.n 224) (.n 240) (.c 0),
 .ite (.n 183) (.n 241) (.c 0),
 .ite (.n 182) (.c 1) (.n 242),
 .ite (.n 170) (.c 0) (.n 243),
 .ite (.n 170) (.n 111) (.n 176),
 .ite (.n 170) (.n 118) (.n 181),
 .ite (.n 103) (.c 0) (.n 244),
 .ite (.n 35) (.c 0) (.n 247),
 .ite (.n 20) (.n 31) (.n 248),
 .ite (.n 11) (.c 0) (.n 249)]
def Sk:List Vc:=[
 ⟨[],.pre 20 []⟩,
 ⟨[(.n 12,true)],.pre 101 [.n 0,.n 1,.n 2,.n 3]⟩,
 ⟨[(.n 36,true),(.n 32,true),(.n 12,true)],.ne0 (.n 39)⟩,
 ⟨[(.n 36,true),(.n 32,true),(.n 12,true)],.ne0 (.n 44)⟩,
 ⟨[(.n 36,true),(.n 32,true),(.n 12,true)],.pre 101 [.n 41,.n 1,.n 46,.n 46]⟩,
 ⟨[(.n 104,true),(.n 36,true),(.n 32,true),(.n 12,true)],.pre 105 [.n 13,.n 14,.n 15,.n 16,.n 17,.n 18,.n 4,.n 5,.n 6,.n 7]⟩,
 ⟨[(.n 104,true),(.n 36,true),(.n 32,true),(.n 12,true)],.pre 105 [.n 47,.n 48,.n 49,.n 50,.n 51,.n 52,.n 4,.n 5,.n 6,.n 7]⟩,
 ⟨[(.n 171,true),(.n 104,true),(.n 36,true),(.n 32,true),(.n 12,true)],.pre 106 [.n 13,.n 14,.n 15,.n 16,.n 17,.n 18]⟩,
 ⟨[(.n 171,true),(.n 104,true),(.n 36,true),(.n 32,true),(.n 12,true)],.pre 106 [.n 47,.n 48,.n 49,.n 50,.n 51,.n 52]⟩]
theorem TI:whole Try.prog Sz 20 40 6 [(true,[some .i64,some .i64]),(true,[some .i64,some .i64]),(true,[some .i64,some .i64]),(true,[some .i64,some .i64]),(false,[some .u32]),(false,[some .u32])]=some (.p (.c (.bool (.n 250))),⟨cu.reverse,Sk.reverse⟩):=by kernel_rfl
theorem SB:wfN cu.reverse=true:=by kernel_rfl
theorem Uu {ar:List Int} {v:Nat->Int} (hs:aC (lh ar) v cu.reverse):v 13=(ofT (v 0) (v 1) (v 2) (v 3)).getD 0 0:=ah hs 13 rfl
theorem UE {ar:List Int} {v:Nat->Int} (hs:aC (lh ar) v cu.reverse):v 14=(ofT (v 0) (v 1) (v 2) (v 3)).getD 1 0:=ah hs 14 rfl
theorem U6 {ar:List Int} {v:Nat->Int} (hs:aC (lh ar) v cu.reverse):v 15=(ofT (v 0) (v 1) (v 2) (v 3)).getD 2 0:=ah hs 15 rfl
theorem Vy {ar:List Int} {v:Nat->Int} (hs:aC (lh ar) v cu.reverse):v 16=(ofT (v 0) (v 1) (v 2) (v 3)).getD 3 0:=ah hs 16 rfl
theorem U8 {ar:List Int} {v:Nat->Int} (hs:aC (lh ar) v cu.reverse):v 17=(ofT (v 0) (v 1) (v 2) (v 3)).getD 4 0:=ah hs 17 rfl
theorem Uy {ar:List Int} {v:Nat->Int} (hs:aC (lh ar) v cu.reverse):v 18=(ofT (v 0) (v 1) (v 2) (v 3)).getD 5 0:=ah hs 18 rfl
theorem Vo {ar:List Int} {v:Nat->Int} (hs:aC (lh ar) v cu.reverse):v 19=(ofT (v 0) (v 1) (v 2) (v 3)).getD 6 0:=ah hs 19 rfl
theorem RV {ar:List Int} {v:Nat->Int} (hs:aC (lh ar) v cu.reverse) (k13:v 13=0) (k14:v 14=0) (k15:v 15=0) (k16:v 16=0) (k17:v 17=0) (k18:v 18=0) (k19:v 19=1):v 32=0:=by
 refine dI (X:=lh ar) (v:=v) (l:=cu) (pz _) hs (k:=32) (r:=.c 0) (ps:=[(13,.c 0),(14,.c 0),(15,.c 0),(16,.c 0),(17,.c 0),(18,.c 0),(19,.c 1)]) (nz:=[]) ?_ ek (by kernel_rfl)
 intro y hy;simp only [List.mem_cons,List.not_mem_nil,or_false] at hy;rcases hy with rfl|rfl|rfl|rfl|rfl|rfl|rfl<;>assumption
theorem RL {ar:List Int} {v:Nat->Int} (hs:aC (lh ar) v cu.reverse) (k13:v 13=0) (k14:v 14=0) (k15:v 15=0) (k16:v 16=0) (k17:v 17=0) (k18:v 18=0) (k19:v 19=1):v 250=1:=by
 refine dI (X:=lh ar) (v:=v) (l:=cu) (pz _) hs (k:=250) (r:=.c 1) (ps:=[(13,.c 0),(14,.c 0),(15,.c 0),(16,.c 0),(17,.c 0),(18,.c 0),(19,.c 1)]) (nz:=[]) ?_ ek (by kernel_rfl)
 intro y hy;simp only [List.mem_cons,List.not_mem_nil,or_false] at hy;rcases hy with rfl|rfl|rfl|rfl|rfl|rfl|rfl<;>assumption
theorem U9 {ar:List Int} {v:Nat->Int} (hs:aC (lh ar) v cu.reverse):v 33=b2i (decide (v 0>v 1)):=ah hs 33 rfl
theorem UF {ar:List Int} {v:Nat->Int} (hs:aC (lh ar) v cu.reverse):v 34=b2i (decide (v 2>v 3)):=ah hs 34 rfl
theorem Vv {ar:List Int} {v:Nat->Int} (hs:aC (lh ar) v cu.reverse):v 37=IntKind.i64.wrap (v 8):=ah hs 37 rfl
theorem VB {ar:List Int} {v:Nat->Int} (hs:aC (lh ar) v cu.reverse):v 38=IntKind.i64.wrap (v 1-v 0):=ah hs 38 rfl
theorem U5 {ar:List Int} {v:Nat->Int} (hs:aC (lh ar) v cu.reverse):v 39=IntKind.i64.wrap (v 38+1):=ah hs 39 rfl
theorem UI {ar:List Int} {v:Nat->Int} (hs:aC (lh ar) v cu.reverse):v 40=Int.tmod (v 37) (v 39):=ah hs 40 rfl
theorem VA {ar:List Int} {v:Nat->Int} (hs:aC (lh ar) v cu.reverse):v 41=IntKind.i64.wrap (v 0+v 40):=ah hs 41 rfl
theorem UV {ar:List Int} {v:Nat->Int} (hs:aC (lh ar) v cu.reverse):v 42=IntKind.i64.wrap (v 9):=ah hs 42 rfl
theorem Vq {ar:List Int} {v:Nat->Int} (hs:aC (lh ar) v cu.reverse):v 43=IntKind.i64.wrap (v 3-v 2):=ah hs 43 rfl
theorem UX {ar:List Int} {v:Nat->Int} (hs:aC (lh ar) v cu.reverse):v 44=IntKind.i64.wrap (v 43+1):=ah hs 44 rfl
theorem Vj {ar:List Int} {v:Nat->Int} (hs:aC (lh ar) v cu.reverse):v 45=Int.tmod (v 42) (v 44):=ah hs 45 rfl
theorem UY {ar:List Int} {v:Nat->Int} (hs:aC (lh ar) v cu.reverse):v 46=IntKind.i64.wrap (v 2+v 45):=ah hs 46 rfl
theorem Vf {ar:List Int} {v:Nat->Int} (hs:aC (lh ar) v cu.reverse):v 47=(ofT (v 41) (v 1) (v 46) (v 46)).getD 0 0:=ah hs 47 rfl
theorem Vt {ar:List Int} {v:Nat->Int} (hs:aC (lh ar) v cu.reverse):v 48=(ofT (v 41) (v 1) (v 46) (v 46)).getD 1 0:=ah hs 48 rfl
theorem UB {ar:List Int} {v:Nat->Int} (hs:aC (lh ar) v cu.reverse):v 49=(ofT (v 41) (v 1) (v 46) (v 46)).getD 2 0:=ah hs 49 rfl
theorem UH {ar:List Int} {v:Nat->Int} (hs:aC (lh ar) v cu.reverse):v 50=(ofT (v 41) (v 1) (v 46) (v 46)).getD 3 0:=ah hs 50 rfl
theorem UK {ar:List Int} {v:Nat->Int} (hs:aC (lh ar) v cu.reverse):v 51=(ofT (v 41) (v 1) (v 46) (v 46)).getD 4 0:=ah hs 51 rfl
theorem Uz {ar:List Int} {v:Nat->Int} (hs:aC (lh ar) v cu.reverse):v 52=(ofT (v 41) (v 1) (v 46) (v 46)).getD 5 0:=ah hs 52 rfl
theorem U7 {ar:List Int} {v:Nat->Int} (hs:aC (lh ar) v cu.reverse):v 53=(ofT (v 41) (v 1) (v 46) (v 46)).getD 6 0:=ah hs 53 rfl
theorem UZ {ar:List Int} {v:Nat->Int} (hs:aC (lh ar) v cu.reverse):v 55=b2i (decide (v 47>=-2147483648)):=ah hs 55 rfl
theorem Uq {ar:List Int} {v:Nat->Int} (hs:aC (lh ar) v cu.reverse):v 56=b2i (decide (v 47<=v 48)):=ah hs 56 rfl
theorem Vl {ar:List Int} {v:Nat->Int} (hs:aC (lh ar) v cu.reverse):v 58=b2i (decide (v 48<=2147483648)):=ah hs 58 rfl
theorem UW {ar:List Int} {v:Nat->Int} (hs:aC (lh ar) v cu.reverse):v 60=b2i (decide (v 13>=-2147483648)):=ah hs 60 rfl
theorem Ur {ar:List Int} {v:Nat->Int} (hs:aC (lh ar) v cu.reverse):v 61=b2i (decide (v 13<=v 14)):=ah hs 61 rfl
theorem UC {ar:List Int} {v:Nat->Int} (hs:aC (lh ar) v cu.reverse):v 63=b2i (decide (v 14<=2147483648)):=ah hs 63 rfl
theorem Vu {ar:List Int} {v:Nat->Int} (hs:aC (lh ar) v cu.reverse):v 66=b2i (decide (v 13<=v 47)):=ah hs 66 rfl
theorem UD {ar:List Int} {v:Nat->Int} (hs:aC (lh ar) v cu.reverse):v 68=b2i (decide (v 48<=v 14)):=ah hs 68 rfl
theorem Vi {ar:List Int} {v:Nat->Int} (hs:aC (lh ar) v cu.reverse):v 70=b2i (decide (v 49>=-2147483648)):=ah hs 70 rfl
theorem Vx {ar:List Int} {v:Nat->Int} (hs:aC (lh ar) v cu.reverse):v 71=b2i (decide (v 49<=v 50)):=ah hs 71 rfl
theorem UJ {ar:List Int} {v:Nat->Int} (hs:aC (lh ar) v cu.reverse):v 73=b2i (decide (v 50<=2147483648)):=ah hs 73 rfl
theorem UN {ar:List Int} {v:Nat->Int} (hs:aC (lh ar) v cu.reverse):v 75=b2i (decide (v 15>=-2147483648)):=ah hs 75 rfl
theorem UL {ar:List Int} {v:Nat->Int} (hs:aC (lh ar) v cu.reverse):v 76=b2i (decide (v 15<=v 16)):=ah hs 76 rfl
theorem Va {ar:List Int} {v:Nat->Int} (hs:aC (lh ar) v cu.reverse):v 78=b2i (decide (v 16<=2147483648)):=ah hs 78 rfl
theorem UM {ar:List Int} {v:Nat->Int} (hs:aC (lh ar) v cu.reverse):v 81=b2i (decide (v 15<=v 49)):=ah hs 81 rfl
theorem UO {ar:List Int} {v:Nat->Int} (hs:aC (lh ar) v cu.reverse):v 83=b2i (decide (v 50<=v 16)):=ah hs 83 rfl
theorem UR {ar:List Int} {v:Nat->Int} (hs:aC (lh ar) v cu.reverse):v 86=b2i (decide (v 51>=-2147483648)):=ah hs 86 rfl
theorem Vw {ar:List Int} {v:Nat->Int} (hs:aC (lh ar) v cu.reverse):v 87=b2i (decide (v 51<=v 52)):=ah hs 87 rfl
theorem Vb {ar:List Int} {v:Nat->Int} (hs:aC (lh ar) v cu.reverse):v 89=b2i (decide (v 52<=2147483648)):=ah hs 89 rfl
theorem Uw {ar:List Int} {v:Nat->Int} (hs:aC (lh ar) v cu.reverse):v 91=b2i (decide (v 17>=-2147483648)):=ah hs 91 rfl
theorem Us {ar:List Int} {v:Nat->Int} (hs:aC (lh ar) v cu.reverse):v 92=b2i (decide (v 17<=v 18)):=ah hs 92 rfl
theorem Ve {ar:List Int} {v:Nat->Int} (hs:aC (lh ar) v cu.reverse):v 94=b2i (decide (v 18<=2147483648)):=ah hs 94 rfl
theorem Vh {ar:List Int} {v:Nat->Int} (hs:aC (lh ar) v cu.reverse):v 97=b2i (decide (v 17<=v 51)):=ah hs 97 rfl
theorem Vd {ar:List Int} {v:Nat->Int} (hs:aC (lh ar) v cu.reverse):v 99=b2i (decide (v 52<=v 18)):=ah hs 99 rfl
theorem RH {ar:List Int} {v:Nat->Int} (hs:aC (lh ar) v cu.reverse) (k19:v 19=0) (k33:v 33=0) (k34:v 34=0) (k53:v 53=0) (k55:v 55=1) (k56:v 56=1) (k58:v 58=1) (k60:v 60=1) (k61:v 61=1) (k63:v 63=1) (k66:v 66=1) (k68:v 68=1) (k70:v 70=1) (k71:v 71=1) (k73:v 73=1) (k75:v 75=1) (k76:v 76=1) (k78:v 78=1) (k81:v 81=1) (k83:v 83=1) (k86:v 86=1) (k87:v 87=1) (k89:v 89=1) (k91:v 91=1) (k92:v 92=1) (k94:v 94=1) (k97:v 97=1) (k99:v 99=1):v 103=0:=by
 refine dI (X:=lh ar) (v:=v) (l:=cu) (pz _) hs (k:=103) (r:=.c 0) (ps:=[(19,.c 0),(33,.c 0),(34,.c 0),(53,.c 0),(55,.c 1),(56,.c 1),(58,.c 1),(60,.c 1),(61,.c 1),(63,.c 1),(66,.c 1),(68,.c 1),(70,.c 1),(71,.c 1),(73,.c 1),(75,.c 1),(76,.c 1),(78,.c 1),(81,.c 1),(83,.c 1),(86,.c 1),(87,.c 1),(89,.c 1),(91,.c 1),(92,.c 1),(94,.c 1),(97,.c 1),(99,.c 1)]) (nz:=[]) ?_ ek (by kernel_rfl)
 intro y hy;simp only [List.mem_cons,List.not_mem_nil,or_false] at hy;rcases hy with rfl|rfl|rfl|rfl|rfl|rfl|rfl|rfl|rfl|rfl|rfl|rfl|rfl|rfl|rfl|rfl|rfl|rfl|rfl|rfl|rfl|rfl|rfl|rfl|rfl|rfl|rfl|rfl<;>assumption
theorem Ty {ar:List Int} {v:Nat->Int} (hs:aC (lh ar) v cu.reverse):v 105=(loT (v 13) (v 14) (v 15) (v 16) (v 17) (v 18) (v 4) (v 5) (v 6) (v 7)).getD 0 0:=ah hs 105 rfl
theorem SH {ar:List Int} {v:Nat->Int} (hs:aC (lh ar) v cu.reverse):v 106=(loT (v 13) (v 14) (v 15) (v 16) (v 17) (v 18) (v 4) (v 5) (v 6) (v 7)).getD 1 0:=ah hs 106 rfl
theorem SG {ar:List Int} {v:Nat->Int} (hs:aC (lh ar) v cu.reverse):v 107=(loT (v 13) (v 14) (v 15) (v 16) (v 17) (v 18) (v 4) (v 5) (v 6) (v 7)).getD 2 0:=ah hs 107 rfl
theorem TV {ar:List Int} {v:Nat->Int} (hs:aC (lh ar) v cu.reverse):v 108=(loT (v 13) (v 14) (v 15) (v 16) (v 17) (v 18) (v 4) (v 5) (v 6) (v 7)).getD 3 0:=ah hs 108 rfl
theorem Ul {ar:List Int} {v:Nat->Int} (hs:aC (lh ar) v cu.reverse):v 109=(loT (v 13) (v 14) (v 15) (v 16) (v 17) (v 18) (v 4) (v 5) (v 6) (v 7)).getD 4 0:=ah hs 109 rfl
theorem Sy {ar:List Int} {v:Nat->Int} (hs:aC (lh ar) v cu.reverse):v 110=(loT (v 13) (v 14) (v 15) (v 16) (v 17) (v 18) (v 4) (v 5) (v 6) (v 7)).getD 5 0:=ah hs 110 rfl
theorem TY {ar:List Int} {v:Nat->Int} (hs:aC (lh ar) v cu.reverse):v 111=(loT (v 13) (v 14) (v 15) (v 16) (v 17) (v 18) (v 4) (v 5) (v 6) (v 7)).getD 6 0:=ah hs 111 rfl
theorem Td {ar:List Int} {v:Nat->Int} (hs:aC (lh ar) v cu.reverse):v 112=(loT (v 47) (v 48) (v 49) (v 50) (v 51) (v 52) (v 4) (v 5) (v 6) (v 7)).getD 0 0:=ah hs 112 rfl
theorem Uk {ar:List Int} {v:Nat->Int} (hs:aC (lh ar) v cu.reverse):v 113=(loT (v 47) (v 48) (v 49) (v 50) (v 51) (v 52) (v 4) (v 5) (v 6) (v 7)).getD 1 0:=ah hs 113 rfl
theorem Ta {ar:List Int} {v:Nat->Int} (hs:aC (lh ar) v cu.reverse):v 114=(loT (v 47) (v 48) (v 49) (v 50) (v 51) (v 52) (v 4) (v 5) (v 6) (v 7)).getD 2 0:=ah hs 114 rfl
theorem Tk {ar:List Int} {v:Nat->Int} (hs:aC (lh ar) v cu.reverse):v 115=(loT (v 47) (v 48) (v 49) (v 50) (v 51) (v 52) (v 4) (v 5) (v 6) (v 7)).getD 3 0:=ah hs 115 rfl
theorem TS {ar:List Int} {v:Nat->Int} (hs:aC (lh ar) v cu.reverse):v 116=(loT (v 47) (v 48) (v 49) (v 50) (v 51) (v 52) (v 4) (v 5) (v 6) (v 7)).getD 4 0:=ah hs 116 rfl
theorem TP {ar:List Int} {v:Nat->Int} (hs:aC (lh ar) v cu.reverse):v 117=(loT (v 47) (v 48) (v 49) (v 50) (v 51) (v 52) (v 4) (v 5) (v 6) (v 7)).getD 5 0:=ah hs 117 rfl
theorem SL {ar:List Int} {v:Nat->Int} (hs:aC (lh ar) v cu.reverse):v 118=(loT (v 47) (v 48) (v 49) (v 50) (v 51) (v 52) (v 4) (v 5) (v 6) (v 7)).getD 6 0:=ah hs 118 rfl
theorem Ug {ar:List Int} {v:Nat->Int} (hs:aC (lh ar) v cu.reverse):v 121=b2i (decide (v 112>=-2147483648)):=ah hs 121 rfl
theorem TA {ar:List Int} {v:Nat->Int} (hs:aC (lh ar) v cu.reverse):v 122=b2i (decide (v 112<=v 113)):=ah hs 122 rfl
theorem Su {ar:List Int} {v:Nat->Int} (hs:aC (lh ar) v cu.reverse):v 124=b2i (decide (v 113<=2147483648)):=ah hs 124 rfl
theorem Uc {ar:List Int} {v:Nat->Int} (hs:aC (lh ar) v cu.reverse):v 126=b2i (decide (v 105>=-2147483648)):=ah hs 126 rfl
theorem Tm {ar:List Int} {v:Nat->Int} (hs:aC (lh ar) v cu.reverse):v 127=b2i (decide (v 105<=v 106)):=ah hs 127 rfl
theorem Si {ar:List Int} {v:Nat->Int} (hs:aC (lh ar) v cu.reverse):v 129=b2i (decide (v 106<=2147483648)):=ah hs 129 rfl
theorem TE {ar:List Int} {v:Nat->Int} (hs:aC (lh ar) v cu.reverse):v 132=b2i (decide (v 105<=v 112)):=ah hs 132 rfl
theorem SF {ar:List Int} {v:Nat->Int} (hs:aC (lh ar) v cu.reverse):v 134=b2i (decide (v 113<=v 106)):=ah hs 134 rfl
theorem Uo {ar:List Int} {v:Nat->Int} (hs:aC (lh ar) v cu.reverse):v 136=b2i (decide (v 114>=-2147483648)):=ah hs 136 rfl
theorem Tx {ar:List Int} {v:Nat->Int} (hs:aC (lh ar) v cu.reverse):v 137=b2i (decide (v 114<=v 115)):=ah hs 137 rfl
theorem Tj {ar:List Int} {v:Nat->Int} (hs:aC (lh ar) v cu.reverse):v 139=b2i (decide (v 115<=2147483648)):=ah hs 139 rfl
theorem Uf {ar:List Int} {v:Nat->Int} (hs:aC (lh ar) v cu.reverse):v 141=b2i (decide (v 107>=-2147483648)):=ah hs 141 rfl
theorem TR {ar:List Int} {v:Nat->Int} (hs:aC (lh ar) v cu.reverse):v 142=b2i (decide (v 107<=v 108)):=ah hs 142 rfl
theorem TB {ar:List Int} {v:Nat->Int} (hs:aC (lh ar) v cu.reverse):v 144=b2i (decide (v 108<=2147483648)):=ah hs 144 rfl
theorem Tu {ar:List Int} {v:Nat->Int} (hs:aC (lh ar) v cu.reverse):v 147=b2i (decide (v 107<=v 114)):=ah hs 147 rfl
theorem TU {ar:List Int} {v:Nat->Int} (hs:aC (lh ar) v cu.reverse):v 149=b2i (decide (v 115<=v 108)):=ah hs 149 rfl
theorem TZ {ar:List Int} {v:Nat->Int} (hs:aC (lh ar) v cu.reverse):v 152=b2i (decide (v 116>=-2147483648)):=ah hs 152 rfl
theorem Un {ar:List Int} {v:Nat->Int} (hs:aC (lh ar) v cu.reverse):v 153=b2i (decide (v 116<=v 117)):=ah hs 153 rfl
theorem TD {ar:List Int} {v:Nat->Int} (hs:aC (lh ar) v cu.reverse):v 155=b2i (decide (v 117<=2147483648)):=ah hs 155 rfl
theorem TG {ar:List Int} {v:Nat->Int} (hs:aC (lh ar) v cu.reverse):v 157=b2i (decide (v 109>=-2147483648)):=ah hs 157 rfl
theorem Sr {ar:List Int} {v:Nat->Int} (hs:aC (lh ar) v cu.reverse):v 158=b2i (decide (v 109<=v 110)):=ah hs 158 rfl
theorem Tz {ar:List Int} {v:Nat->Int} (hs:aC (lh ar) v cu.reverse):v 160=b2i (decide (v 110<=2147483648)):=ah hs 160 rfl
theorem Tg {ar:List Int} {v:Nat->Int} (hs:aC (lh ar) v cu.reverse):v 163=b2i (decide (v 109<=v 116)):=ah hs 163 rfl
theorem Tq {ar:List Int} {v:Nat->Int} (hs:aC (lh ar) v cu.reverse):v 165=b2i (decide (v 117<=v 110)):=ah hs 165 rfl
theorem RJ {ar:List Int} {v:Nat->Int} (hs:aC (lh ar) v cu.reverse) (k111:v 111=0) (k118:v 118=0) (k121:v 121=1) (k122:v 122=1) (k124:v 124=1) (k126:v 126=1) (k127:v 127=1) (k129:v 129=1) (k132:v 132=1) (k134:v 134=1) (k136:v 136=1) (k137:v 137=1) (k139:v 139=1) (k141:v 141=1) (k142:v 142=1) (k144:v 144=1) (k147:v 147=1) (k149:v 149=1) (k152:v 152=1) (k153:v 153=1) (k155:v 155=1) (k157:v 157=1) (k158:v 158=1) (k160:v 160=1) (k163:v 163=1) (k165:v 165=1):v 170=0:=by
 refine dI (X:=lh ar) (v:=v) (l:=cu) (pz _) hs (k:=170) (r:=.c 0) (ps:=[(111,.c 0),(118,.c 0),(121,.c 1),(122,.c 1),(124,.c 1),(126,.c 1),(127,.c 1),(129,.c 1),(132,.c 1),(134,.c 1),(136,.c 1),(137,.c 1),(139,.c 1),(141,.c 1),(142,.c 1),(144,.c 1),(147,.c 1),(149,.c 1),(152,.c 1),(153,.c 1),(155,.c 1),(157,.c 1),(158,.c 1),(160,.c 1),(163,.c 1),(165,.c 1)]) (nz:=[]) ?_ ek (by kernel_rfl)
 intro y hy;simp only [List.mem_cons,List.not_mem_nil,or_false] at hy;rcases hy with rfl|rfl|rfl|rfl|rfl|rfl|rfl|rfl|rfl|rfl|rfl|rfl|rfl|rfl|rfl|rfl|rfl|rfl|rfl|rfl|rfl|rfl|rfl|rfl|rfl|rfl<;>assumption
theorem Rx {ar:List Int} {v:Nat->Int} (hs:aC (lh ar) v cu.reverse) (k111:v 111=5):v 170=0:=by
 refine dI (X:=lh ar) (v:=v) (l:=cu) (pz _) hs (k:=170) (r:=.c 0) (ps:=[(111,.c 5)]) (nz:=[]) ?_ ek (by kernel_rfl)
 intro y hy;simp only [List.mem_cons,List.not_mem_nil,or_false] at hy;rcases hy with rfl<;>assumption
theorem Rp {ar:List Int} {v:Nat->Int} (hs:aC (lh ar) v cu.reverse) (k111:v 111=1):v 170=0:=by
 refine dI (X:=lh ar) (v:=v) (l:=cu) (pz _) hs (k:=170) (r:=.c 0) (ps:=[(111,.c 1)]) (nz:=[]) ?_ ek (by kernel_rfl)
 intro y hy;simp only [List.mem_cons,List.not_mem_nil,or_false] at hy;rcases hy with rfl<;>assumption
theorem Sw {ar:List Int} {v:Nat->Int} (hs:aC (lh ar) v cu.reverse):v 172=(plT (v 13) (v 14) (v 15) (v 16) (v 17) (v 18)).getD 0 0:=ah hs 172 rfl
theorem TC {ar:List Int} {v:Nat->Int} (hs:aC (lh ar) v cu.reverse):v 173=(plT (v 13) (v 14) (v 15) (v 16) (v 17) (v 18)).getD 1 0:=ah hs 173 rfl
theorem Sv {ar:List Int} {v:Nat->Int} (hs:aC (lh ar) v cu.reverse):v 174=(plT (v 13) (v 14) (v 15) (v 16) (v 17) (v 18)).getD 2 0:=ah hs 174 rfl
theorem Tf {ar:List Int} {v:Nat->Int} (hs:aC (lh ar) v cu.reverse):v 175=(plT (v 13) (v 14) (v 15) (v 16) (v 17) (v 18)).getD 3 0:=ah hs 175 rfl
theorem Rt {ar:List Int} {v:Nat->Int} (hs:aC (lh ar) v cu.reverse):v 176=(plT (v 13) (v 14) (v 15) (v 16) (v 17) (v 18)).getD 4 0:=ah hs 176 rfl
theorem S9 {ar:List Int} {v:Nat->Int} (hs:aC (lh ar) v cu.reverse):v 177=(plT (v 47) (v 48) (v 49) (v 50) (v 51) (v 52)).getD 0 0:=ah hs 177 rfl
theorem SE {ar:List Int} {v:Nat->Int} (hs:aC (lh ar) v cu.reverse):v 178=(plT (v 47) (v 48) (v 49) (v 50) (v 51) (v 52)).getD 1 0:=ah hs 178 rfl
theorem TH {ar:List Int} {v:Nat->Int} (hs:aC (lh ar) v cu.reverse):v 179=(plT (v 47) (v 48) (v 49) (v 50) (v 51) (v 52)).getD 2 0:=ah hs 179 rfl
theorem Ub {ar:List Int} {v:Nat->Int} (hs:aC (lh ar) v cu.reverse):v 180=(plT (v 47) (v 48) (v 49) (v 50) (v 51) (v 52)).getD 3 0:=ah hs 180 rfl
theorem Tt {ar:List Int} {v:Nat->Int} (hs:aC (lh ar) v cu.reverse):v 181=(plT (v 47) (v 48) (v 49) (v 50) (v 51) (v 52)).getD 4 0:=ah hs 181 rfl
theorem Rv {ar:List Int} {v:Nat->Int} (hs:aC (lh ar) v cu.reverse) (k19:v 19=0) (k33:v 33=0) (k34:v 34=0) (k103:v 103=0) (k170:v 170=0) (k176:v 176=21):v 250=1:=by
 refine dI (X:=lh ar) (v:=v) (l:=cu) (pz _) hs (k:=250) (r:=.c 1) (ps:=[(19,.c 0),(33,.c 0),(34,.c 0),(103,.c 0),(170,.c 0),(176,.c 21)]) (nz:=[]) ?_ ek (by kernel_rfl)
 intro y hy;simp only [List.mem_cons,List.not_mem_nil,or_false] at hy;rcases hy with rfl|rfl|rfl|rfl|rfl|rfl<;>assumption
theorem SA {ar:List Int} {v:Nat->Int} (hs:aC (lh ar) v cu.reverse):v 184=b2i (decide (v 177<=v 178)):=ah hs 184 rfl
theorem Ue {ar:List Int} {v:Nat->Int} (hs:aC (lh ar) v cu.reverse):v 185=b2i (decide (v 177>=-5400000)):=ah hs 185 rfl
theorem TT {ar:List Int} {v:Nat->Int} (hs:aC (lh ar) v cu.reverse):v 187=b2i (decide (v 178<=5400000)):=ah hs 187 rfl
theorem Ti {ar:List Int} {v:Nat->Int} (hs:aC (lh ar) v cu.reverse):v 202=b2i (decide (v 172<=v 173)):=ah hs 202 rfl
theorem TF {ar:List Int} {v:Nat->Int} (hs:aC (lh ar) v cu.reverse):v 203=b2i (decide (v 172>=-5400000)):=ah hs 203 rfl
theorem Tn {ar:List Int} {v:Nat->Int} (hs:aC (lh ar) v cu.reverse):v 205=b2i (decide (v 173<=5400000)):=ah hs 205 rfl
theorem Uh {ar:List Int} {v:Nat->Int} (hs:aC (lh ar) v cu.reverse):v 221=b2i (decide (v 177>=v 172)):=ah hs 221 rfl
theorem Sj {ar:List Int} {v:Nat->Int} (hs:aC (lh ar) v cu.reverse):v 223=b2i (decide (v 178<=v 173)):=ah hs 223 rfl
theorem QG {ar:List Int} {v:Nat->Int} (hs:aC (lh ar) v cu.reverse):v 189=b2i (v 179 == -10800000):=ah hs 189 rfl
theorem QH {ar:List Int} {v:Nat->Int} (hs:aC (lh ar) v cu.reverse):v 190=b2i (v 180==10800000):=ah hs 190 rfl
theorem RN {ar:List Int} {v:Nat->Int} (hs:aC (lh ar) v cu.reverse):v 192=b2i (decide (v 179>=-10800000)):=ah hs 192 rfl
theorem Ro {ar:List Int} {v:Nat->Int} (hs:aC (lh ar) v cu.reverse):v 193=b2i (decide (v 179<10800000)):=ah hs 193 rfl
theorem RO {ar:List Int} {v:Nat->Int} (hs:aC (lh ar) v cu.reverse):v 195=b2i (decide (v 179<=v 180)):=ah hs 195 rfl
theorem Ru {ar:List Int} {v:Nat->Int} (hs:aC (lh ar) v cu.reverse):v 197=IntKind.i64.wrap (v 180-v 179):=ah hs 197 rfl
theorem RG {ar:List Int} {v:Nat->Int} (hs:aC (lh ar) v cu.reverse):v 198=b2i (decide (v 197<21600000)):=ah hs 198 rfl
theorem Rm {ar:List Int} {v:Nat->Int} (hs:aC (lh ar) v cu.reverse) (k189:v 189=0) (k190:v 190=0) (k192:v 192=1) (k193:v 193=1) (k195:v 195=1) (k198:v 198=1):v 200=1:=by
 refine dI (X:=lh ar) (v:=v) (l:=cu) (pz _) hs (k:=200) (r:=.c 1) (ps:=[(189,.c 0),(190,.c 0),(192,.c 1),(193,.c 1),(195,.c 1),(198,.c 1)]) (nz:=[]) ?_ ek (by kernel_rfl)
 intro y hy;simp only [List.mem_cons,List.not_mem_nil,or_false] at hy;rcases hy with rfl|rfl|rfl|rfl|rfl|rfl<;>assumption
theorem Ry {ar:List Int} {v:Nat->Int} (hs:aC (lh ar) v cu.reverse) (k189:v 189=0) (k190:v 190=1) (k192:v 192=1) (k193:v 193=1) (k195:v 195=1) (k198:v 198=1):v 200=1:=by
 refine dI (X:=lh ar) (v:=v) (l:=cu) (pz _) hs (k:=200) (r:=.c 1) (ps:=[(189,.c 0),(190,.c 1),(192,.c 1),(193,.c 1),(195,.c 1),(198,.c 1)]) (nz:=[]) ?_ ek (by kernel_rfl)
 intro y hy;simp only [List.mem_cons,List.not_mem_nil,or_false] at hy;rcases hy with rfl|rfl|rfl|rfl|rfl|rfl<;>assumption
theorem QX {ar:List Int} {v:Nat->Int} (hs:aC (lh ar) v cu.reverse) (k189:v 189=1) (k190:v 190=0) (k192:v 192=1) (k193:v 193=1) (k195:v 195=1) (k198:v 198=1):v 200=1:=by
 refine dI (X:=lh ar) (v:=v) (l:=cu) (pz _) hs (k:=200) (r:=.c 1) (ps:=[(189,.c 1),(190,.c 0),(192,.c 1),(193,.c 1),(195,.c 1),(198,.c 1)]) (nz:=[]) ?_ ek (by kernel_rfl)
 intro y hy;simp only [List.mem_cons,List.not_mem_nil,or_false] at hy;rcases hy with rfl|rfl|rfl|rfl|rfl|rfl<;>assumption
theorem Rk {ar:List Int} {v:Nat->Int} (hs:aC (lh ar) v cu.reverse) (k189:v 189=1) (k190:v 190=1) (k192:v 192=1) (k193:v 193=1) (k195:v 195=1) (k198:v 198=1):v 200=1:=by
 refine dI (X:=lh ar) (v:=v) (l:=cu) (pz _) hs (k:=200) (r:=.c 1) (ps:=[(189,.c 1),(190,.c 1),(192,.c 1),(193,.c 1),(195,.c 1),(198,.c 1)]) (nz:=[]) ?_ ek (by kernel_rfl)
 intro y hy;simp only [List.mem_cons,List.not_mem_nil,or_false] at hy;rcases hy with rfl|rfl|rfl|rfl|rfl|rfl<;>assumption
theorem QR {ar:List Int} {v:Nat->Int} (hs:aC (lh ar) v cu.reverse):v 207=b2i (v 174 == -10800000):=ah hs 207 rfl
theorem QN {ar:List Int} {v:Nat->Int} (hs:aC (lh ar) v cu.reverse):v 208=b2i (v 175==10800000):=ah hs 208 rfl
theorem T9 {ar:List Int} {v:Nat->Int} (hs:aC (lh ar) v cu.reverse):v 210=b2i (decide (v 174>=-10800000)):=ah hs 210 rfl
theorem Tp {ar:List Int} {v:Nat->Int} (hs:aC (lh ar) v cu.reverse):v 211=b2i (decide (v 174<10800000)):=ah hs 211 rfl
theorem Tv {ar:List Int} {v:Nat->Int} (hs:aC (lh ar) v cu.reverse):v 213=b2i (decide (v 174<=v 175)):=ah hs 213 rfl
theorem Rn {ar:List Int} {v:Nat->Int} (hs:aC (lh ar) v cu.reverse):v 215=IntKind.i64.wrap (v 175-v 174):=ah hs 215 rfl
theorem TM {ar:List Int} {v:Nat->Int} (hs:aC (lh ar) v cu.reverse):v 216=b2i (decide (v 215<21600000)):=ah hs 216 rfl
theorem Re {ar:List Int} {v:Nat->Int} (hs:aC (lh ar) v cu.reverse) (k207:v 207=0) (k208:v 208=0) (k210:v 210=1) (k211:v 211=1) (k213:v 213=1) (k216:v 216=1):v 218=1:=by
 refine dI (X:=lh ar) (v:=v) (l:=cu) (pz _) hs (k:=218) (r:=.c 1) (ps:=[(207,.c 0),(208,.c 0),(210,.c 1),(211,.c 1),(213,.c 1),(216,.c 1)]) (nz:=[]) ?_ ek (by kernel_rfl)
 intro y hy;simp only [List.mem_cons,List.not_mem_nil,or_false] at hy;rcases hy with rfl|rfl|rfl|rfl|rfl|rfl<;>assumption
theorem Q6 {ar:List Int} {v:Nat->Int} (hs:aC (lh ar) v cu.reverse) (k207:v 207=0) (k208:v 208=1) (k210:v 210=1) (k211:v 211=1) (k213:v 213=1) (k216:v 216=1):v 218=1:=by
 refine dI (X:=lh ar) (v:=v) (l:=cu) (pz _) hs (k:=218) (r:=.c 1) (ps:=[(207,.c 0),(208,.c 1),(210,.c 1),(211,.c 1),(213,.c 1),(216,.c 1)]) (nz:=[]) ?_ ek (by kernel_rfl)
 intro y hy;simp only [List.mem_cons,List.not_mem_nil,or_false] at hy;rcases hy with rfl|rfl|rfl|rfl|rfl|rfl<;>assumption
theorem Q9 {ar:List Int} {v:Nat->Int} (hs:aC (lh ar) v cu.reverse) (k207:v 207=1) (k208:v 208=0) (k210:v 210=1) (k211:v 211=1) (k213:v 213=1) (k216:v 216=1):v 218=1:=by
 refine dI (X:=lh ar) (v:=v) (l:=cu) (pz _) hs (k:=218) (r:=.c 1) (ps:=[(207,.c 1),(208,.c 0),(210,.c 1),(211,.c 1),(213,.c 1),(216,.c 1)]) (nz:=[]) ?_ ek (by kernel_rfl)
 intro y hy;simp only [List.mem_cons,List.not_mem_nil,or_false] at hy;rcases hy with rfl|rfl|rfl|rfl|rfl|rfl<;>assumption
theorem Ri {ar:List Int} {v:Nat->Int} (hs:aC (lh ar) v cu.reverse) (k207:v 207=1) (k208:v 208=1) (k210:v 210=1) (k211:v 211=1) (k213:v 213=1) (k216:v 216=1):v 218=1:=by
 refine dI (X:=lh ar) (v:=v) (l:=cu) (pz _) hs (k:=218) (r:=.c 1) (ps:=[(207,.c 1),(208,.c 1),(210,.c 1),(211,.c 1),(213,.c 1),(216,.c 1)]) (nz:=[]) ?_ ek (by kernel_rfl)
 intro y hy;simp only [List.mem_cons,List.not_mem_nil,or_false] at hy;rcases hy with rfl|rfl|rfl|rfl|rfl|rfl<;>assumption
theorem TN {ar:List Int} {v:Nat->Int} (hs:aC (lh ar) v cu.reverse):v 191=if v 189≠0 then v 190 else 0:=ah hs 191 rfl
theorem TW {ar:List Int} {v:Nat->Int} (hs:aC (lh ar) v cu.reverse):v 209=if v 207≠0 then v 208 else 0:=ah hs 209 rfl
theorem Ud {ar:List Int} {v:Nat->Int} (hs:aC (lh ar) v cu.reverse):v 230=IntKind.i64.wrap (v 179-v 174):=ah hs 230 rfl
theorem SK {ar:List Int} {v:Nat->Int} (hs:aC (lh ar) v cu.reverse):v 231=Int.tmod (v 230) 21600000:=ah hs 231 rfl
theorem SN {ar:List Int} {v:Nat->Int} (hs:aC (lh ar) v cu.reverse):v 232=b2i (decide (v 231<0)):=ah hs 232 rfl
theorem Ui {ar:List Int} {v:Nat->Int} (hs:aC (lh ar) v cu.reverse):v 233=IntKind.i64.wrap (v 231+21600000):=ah hs 233 rfl
theorem SQ {ar:List Int} {v:Nat->Int} (hs:aC (lh ar) v cu.reverse):v 235=if v 232≠0 then v 233 else v 231:=ah hs 235 rfl
theorem Ua {ar:List Int} {v:Nat->Int} (hs:aC (lh ar) v cu.reverse):v 236=IntKind.i64.wrap (v 235+v 180):=ah hs 236 rfl
theorem Tw {ar:List Int} {v:Nat->Int} (hs:aC (lh ar) v cu.reverse):v 237=IntKind.i64.wrap (v 236-v 179):=ah hs 237 rfl
theorem SS {ar:List Int} {v:Nat->Int} (hs:aC (lh ar) v cu.reverse):v 238=b2i (decide (v 237<=v 215)):=ah hs 238 rfl
theorem Rc {ar:List Int} {v:Nat->Int} (hs:aC (lh ar) v cu.reverse) (k19:v 19=0) (k33:v 33=0) (k34:v 34=0) (k103:v 103=0) (k170:v 170=0) (k176:v 176=0) (k181:v 181=0) (k184:v 184=1) (k185:v 185=1) (k187:v 187=1) (k191:v 191=0) (k200:v 200=1) (k202:v 202=1) (k203:v 203=1) (k205:v 205=1) (k209:v 209=0) (k218:v 218=1) (k221:v 221=1) (k223:v 223=1) (k238:v 238=1):v 250=1:=by
 refine dI (X:=lh ar) (v:=v) (l:=cu) (pz _) hs (k:=250) (r:=.c 1) (ps:=[(19,.c 0),(33,.c 0),(34,.c 0),(103,.c 0),(170,.c 0),(176,.c 0),(181,.c 0),(184,.c 1),(185,.c 1),(187,.c 1),(191,.c 0),(200,.c 1),(202,.c 1),(203,.c 1),(205,.c 1),(209,.c 0),(218,.c 1),(221,.c 1),(223,.c 1),(238,.c 1)]) (nz:=[]) ?_ ek (by kernel_rfl)
 intro y hy;simp only [List.mem_cons,List.not_mem_nil,or_false] at hy;rcases hy with rfl|rfl|rfl|rfl|rfl|rfl|rfl|rfl|rfl|rfl|rfl|rfl|rfl|rfl|rfl|rfl|rfl|rfl|rfl|rfl<;>assumption
theorem Ra {ar:List Int} {v:Nat->Int} (hs:aC (lh ar) v cu.reverse) (k189:v 189=0) (k190:v 190=0) (k192:v 192=1) (k193:v 193=1) (k195:v 195=1) (k198:v 198=1):v 200=1:=by
 refine dI (X:=lh ar) (v:=v) (l:=cu) (pz _) hs (k:=200) (r:=.c 1) (ps:=[(189,.c 0),(190,.c 0),(192,.c 1),(193,.c 1),(195,.c 1),(198,.c 1)]) (nz:=[]) ?_ ek (by kernel_rfl)
 intro y hy;simp only [List.mem_cons,List.not_mem_nil,or_false] at hy;rcases hy with rfl|rfl|rfl|rfl|rfl|rfl<;>assumption
theorem Q7 {ar:List Int} {v:Nat->Int} (hs:aC (lh ar) v cu.reverse) (k189:v 189=0) (k190:v 190=1) (k192:v 192=1) (k193:v 193=1) (k195:v 195=1) (k198:v 198=1):v 200=1:=by
 refine dI (X:=lh ar) (v:=v) (l:=cu) (pz _) hs (k:=200) (r:=.c 1) (ps:=[(189,.c 0),(190,.c 1),(192,.c 1),(193,.c 1),(195,.c 1),(198,.c 1)]) (nz:=[]) ?_ ek (by kernel_rfl)
 intro y hy;simp only [List.mem_cons,List.not_mem_nil,or_false] at hy;rcases hy with rfl|rfl|rfl|rfl|rfl|rfl<;>assumption
theorem Rj {ar:List Int} {v:Nat->Int} (hs:aC (lh ar) v cu.reverse) (k189:v 189=1) (k190:v 190=0) (k192:v 192=1) (k193:v 193=1) (k195:v 195=1) (k198:v 198=1):v 200=1:=by
 refine dI (X:=lh ar) (v:=v) (l:=cu) (pz _) hs (k:=200) (r:=.c 1) (ps:=[(189,.c 1),(190,.c 0),(192,.c 1),(193,.c 1),(195,.c 1),(198,.c 1)]) (nz:=[]) ?_ ek (by kernel_rfl)
 intro y hy;simp only [List.mem_cons,List.not_mem_nil,or_false] at hy;rcases hy with rfl|rfl|rfl|rfl|rfl|rfl<;>assumption
theorem Q4 {ar:List Int} {v:Nat->Int} (hs:aC (lh ar) v cu.reverse) (k189:v 189=1) (k190:v 190=1) (k192:v 192=1) (k193:v 193=1) (k195:v 195=1) (k198:v 198=1):v 200=1:=by
 refine dI (X:=lh ar) (v:=v) (l:=cu) (pz _) hs (k:=200) (r:=.c 1) (ps:=[(189,.c 1),(190,.c 1),(192,.c 1),(193,.c 1),(195,.c 1),(198,.c 1)]) (nz:=[]) ?_ ek (by kernel_rfl)
 intro y hy;simp only [List.mem_cons,List.not_mem_nil,or_false] at hy;rcases hy with rfl|rfl|rfl|rfl|rfl|rfl<;>assumption
theorem Q3 {ar:List Int} {v:Nat->Int} (hs:aC (lh ar) v cu.reverse) (k19:v 19=0) (k33:v 33=0) (k34:v 34=0) (k103:v 103=0) (k170:v 170=0) (k176:v 176=0) (k181:v 181=0) (k184:v 184=1) (k185:v 185=1) (k187:v 187=1) (k200:v 200=1) (k202:v 202=1) (k203:v 203=1) (k205:v 205=1) (k207:v 207=1) (k208:v 208=1) (k221:v 221=1) (k223:v 223=1):v 250=1:=by
 refine dI (X:=lh ar) (v:=v) (l:=cu) (pz _) hs (k:=250) (r:=.c 1) (ps:=[(19,.c 0),(33,.c 0),(34,.c 0),(103,.c 0),(170,.c 0),(176,.c 0),(181,.c 0),(184,.c 1),(185,.c 1),(187,.c 1),(200,.c 1),(202,.c 1),(203,.c 1),(205,.c 1),(207,.c 1),(208,.c 1),(221,.c 1),(223,.c 1)]) (nz:=[]) ?_ ek (by kernel_rfl)
 intro y hy;simp only [List.mem_cons,List.not_mem_nil,or_false] at hy;rcases hy with rfl|rfl|rfl|rfl|rfl|rfl|rfl|rfl|rfl|rfl|rfl|rfl|rfl|rfl|rfl|rfl|rfl|rfl<;>assumption
theorem Q8 {ar:List Int} {v:Nat->Int} (hs:aC (lh ar) v cu.reverse) (k19:v 19=0) (k33:v 33=0) (k34:v 34=0) (k103:v 103=0) (k170:v 170=0) (k176:v 176=0) (k181:v 181=0) (k184:v 184=1) (k185:v 185=1) (k187:v 187=1) (k189:v 189=1) (k190:v 190=1) (k202:v 202=1) (k203:v 203=1) (k205:v 205=1) (k207:v 207=1) (k208:v 208=1) (k221:v 221=1) (k223:v 223=1):v 250=1:=by
 refine dI (X:=lh ar) (v:=v) (l:=cu) (pz _) hs (k:=250) (r:=.c 1) (ps:=[(19,.c 0),(33,.c 0),(34,.c 0),(103,.c 0),(170,.c 0),(176,.c 0),(181,.c 0),(184,.c 1),(185,.c 1),(187,.c 1),(189,.c 1),(190,.c 1),(202,.c 1),(203,.c 1),(205,.c 1),(207,.c 1),(208,.c 1),(221,.c 1),(223,.c 1)]) (nz:=[]) ?_ ek (by kernel_rfl)
 intro y hy;simp only [List.mem_cons,List.not_mem_nil,or_false] at hy;rcases hy with rfl|rfl|rfl|rfl|rfl|rfl|rfl|rfl|rfl|rfl|rfl|rfl|rfl|rfl|rfl|rfl|rfl|rfl|rfl<;>assumption
theorem RI (a0 a1 a2 a3 a4 a5 a6 a7 a8 a9:Int) (w:World) (hu:(0<=a8/\a8<=4294967295)/\(0<=a9/\a9<=4294967295)):Calls Try.prog 6 #[.agg #[.int .i64 a0,.int .i64 a1],.agg #[.int .i64 a2,.int .i64 a3],.agg #[.int .i64 a4,.int .i64 a5],.agg #[.int .i64 a6,.int .i64 a7],.int .u32 a8,.int .u32 a9] w fun e w'=>e=.returned (.bool true)/\Below w.heap.size w w':=by
 refine Sx.calls (X:=lh [a0,a1,a2,a3,a4,a5,a6,a7,a8,a9]) iI (RU _) TI SB (fun v hs=>?_) w
 have a8e:v 8=a8:=ah hs 8 rfl;have a9e:v 9=a9:=ah hs 9 rfl;rw [<-a8e,<-a9e] at hu;clear a8e a9e;have e13:=(Uu hs);have e14:=(UE hs);have e15:=(U6 hs);have e16:=(Vy hs);have e17:=(U8 hs);have e18:=(Uy hs);have e19:=(Vo hs)
 by_cases hv:dA (v 0) (v 1)=true/\dA (v 2) (v 3)=true
 rotate_left
 . have O:ofT (v 0) (v 1) (v 2) (v 3)=[0,0,0,0,0,0,1]:=if_neg hv;rw [O] at e13 e14 e15 e16 e17 e18 e19;have k13:v 13=0:=e13;have k14:v 14=0:=e14;have k15:v 15=0:=e15;have k16:v 16=0:=e16;have k17:v 17=0:=e17;have k18:v 18=0:=e18;have k19:v 19=1:=e19;have z32:v 32=0:=(RV hs k13 k14 k15 k16 k17 k18 k19);have zr:v 250=1:=(RL hs k13 k14 k15 k16 k17 k18 k19);refine ⟨FT ?_,?_⟩
   . exact dm (fun _=>trivial) (dm (fun _=>trivial) (dm (fun hp=>absurd z32 ((pU (pU hp).2).1)) (dm (fun hp=>absurd z32 ((pU (pU hp).2).1)) (dm (fun hp=>absurd z32 ((pU (pU hp).2).1)) (dm (fun hp=>absurd z32 ((pU (pU (pU hp).2).2).1)) (dm (fun hp=>absurd z32 ((pU (pU (pU hp).2).2).1)) (dm (fun hp=>absurd z32 ((pU (pU (pU (pU hp).2).2).2).1)) (dm (fun hp=>absurd z32 ((pU (pU (pU (pU hp).2).2).2).1)) (Gp)))))))))
   . intro x hx;have hx':x=.bool (decide (v 250≠0)):=hx;rw [hx',zr];rfl
 have q0:=(eT _ _).1 hv.1;have q2:=(eT _ _).1 hv.2;have O13:ofT (v 0) (v 1) (v 2) (v 3)=[(uM (uC (v 0) (v 1)) (uC (v 2) (v 3))).1,(uM (uC (v 0) (v 1)) (uC (v 2) (v 3))).2,(uM (uC (v 0) (v 1)) (uS (v 2) (v 3))).1,(uM (uC (v 0) (v 1)) (uS (v 2) (v 3))).2,(uS (v 0) (v 1)).1,(uS (v 0) (v 1)).2,0]:=if_pos hv;rw [O13] at e13 e14 e15 e16 e17 e18 e19;have P13:((v 13,v 14):IV)=uM (uC (v 0) (v 1)) (uC (v 2) (v 3)):=uz (e13.trans (wl7 _ _ _ _ _ _ _).1) (e14.trans (wl7 _ _ _ _ _ _ _).2.1);have P15:((v 15,v 16):IV)=uM (uC (v 0) (v 1)) (uS (v 2) (v 3)):=uz (e15.trans (wl7 _ _ _ _ _ _ _).2.2.1) (e16.trans (wl7 _ _ _ _ _ _ _).2.2.2.1);have P17:((v 17,v 18):IV)=uS (v 0) (v 1):=uz (e17.trans (wl7 _ _ _ _ _ _ _).2.2.2.2.1) (e18.trans (wl7 _ _ _ _ _ _ _).2.2.2.2.2.1);have k19:v 19=0:=e19;clear O13 e13 e14 e15 e16 e17 e18 e19;have U13:U ((v 13,v 14):IV):=by rw [P13];exact (U_M (U_C _ _) (U_C _ _)).2.2
 have U15:U ((v 15,v 16):IV):=by rw [P15];exact (U_M (U_C _ _) (U_S _ _)).2.2
 have U17:U ((v 17,v 18):IV):=by rw [P17];exact U_S _ _
 have k33:v 33=0:=by rw [(U9 hs),decide_eq_false (by omega)];rfl
 have k34:v 34=0:=by rw [(UF hs),decide_eq_false (by omega)];rfl
 have N41:=QD (a:=v 0) (b:=v 1) (n:=v 8) (x:=v 37) (y:=v 38) (z:=v 39) (r:=v 40) (q:=v 41) (by omega) hu.1 (Vv hs) (VB hs) (U5 hs) (UI hs) (VA hs)
 have N46:=QD (a:=v 2) (b:=v 3) (n:=v 9) (x:=v 42) (y:=v 43) (z:=v 44) (r:=v 45) (q:=v 46) (by omega) hu.2 (UV hs) (Vq hs) (UX hs) (Vj hs) (UY hs)
 have hv2:dA (v 41) (v 1)=true/\dA (v 46) (v 46)=true:=⟨(eT _ _).2 (by omega),(eT _ _).2 (by omega)⟩
 have e47:=(Vf hs);have e48:=(Vt hs);have e49:=(UB hs);have e50:=(UH hs);have e51:=(UK hs);have e52:=(Uz hs);have e53:=(U7 hs);have O47:ofT (v 41) (v 1) (v 46) (v 46)=[(uM (uC (v 41) (v 1)) (uC (v 46) (v 46))).1,(uM (uC (v 41) (v 1)) (uC (v 46) (v 46))).2,(uM (uC (v 41) (v 1)) (uS (v 46) (v 46))).1,(uM (uC (v 41) (v 1)) (uS (v 46) (v 46))).2,(uS (v 41) (v 1)).1,(uS (v 41) (v 1)).2,0]:=if_pos hv2;rw [O47] at e47 e48 e49 e50 e51 e52 e53;have P47:((v 47,v 48):IV)=uM (uC (v 41) (v 1)) (uC (v 46) (v 46)):=uz (e47.trans (wl7 _ _ _ _ _ _ _).1) (e48.trans (wl7 _ _ _ _ _ _ _).2.1);have P49:((v 49,v 50):IV)=uM (uC (v 41) (v 1)) (uS (v 46) (v 46)):=uz (e49.trans (wl7 _ _ _ _ _ _ _).2.2.1) (e50.trans (wl7 _ _ _ _ _ _ _).2.2.2.1);have P51:((v 51,v 52):IV)=uS (v 41) (v 1):=uz (e51.trans (wl7 _ _ _ _ _ _ _).2.2.2.2.1) (e52.trans (wl7 _ _ _ _ _ _ _).2.2.2.2.2.1);have k53:v 53=0:=e53;clear O47 e47 e48 e49 e50 e51 e52 e53;have U47:U ((v 47,v 48):IV):=by rw [P47];exact (U_M (U_C _ _) (U_C _ _)).2.2
 have U49:U ((v 49,v 50):IV):=by rw [P49];exact (U_M (U_C _ _) (U_S _ _)).2.2
 have U51:U ((v 51,v 52):IV):=by rw [P51];exact U_S _ _
 have T47:VH ((v 47,v 48):IV) ((v 13,v 14):IV):=by rw [P47,P13];exact QK (U_C _ _) (U_C _ _) (U_C _ _) (U_C _ _) (Sq ⟨N41.2.1,N41.2.2,Int.le_refl _⟩) (Sq ⟨N46.2.1,Int.le_refl _,N46.2.2⟩)
 have T49:VH ((v 49,v 50):IV) ((v 15,v 16):IV):=by rw [P49,P15];exact QK (U_C _ _) (U_S _ _) (U_C _ _) (U_S _ _) (Sq ⟨N41.2.1,N41.2.2,Int.le_refl _⟩) (Tc ⟨N46.2.1,Int.le_refl _,N46.2.2⟩)
 have T51:VH ((v 51,v 52):IV) ((v 17,v 18):IV):=by rw [P51,P17];exact Tc ⟨N41.2.1,N41.2.2,Int.le_refl _⟩
 clear P13 P15 P17 P47 P49 P51 hu;refine ⟨FT ?_,?_⟩
 . exact dm (fun _=>trivial) (dm (fun _=>trivial) (dm (fun _=>N41.1) (dm (fun _=>N46.1) (dm (fun _=>trivial) (dm (fun _=>(⟨U13,U15,U17⟩:U ((v 13,v 14):IV)/\U ((v 15,v 16):IV)/\U ((v 17,v 18):IV))) (dm (fun _=>(⟨U47,U49,U51⟩:U ((v 47,v 48):IV)/\U ((v 49,v 50):IV)/\U ((v 51,v 52):IV))) (dm (fun _=>(⟨U13,U15,U17⟩:U ((v 13,v 14):IV)/\U ((v 15,v 16):IV)/\U ((v 17,v 18):IV))) (dm (fun _=>(⟨U47,U49,U51⟩:U ((v 47,v 48):IV)/\U ((v 49,v 50):IV)/\U ((v 51,v 52):IV))) (Gp)))))))))
 have n13:-1073741824<=v 13/\v 13<=v 14/\v 14<=1073741824:=U13;have n15:-1073741824<=v 15/\v 15<=v 16/\v 16<=1073741824:=U15;have n17:-1073741824<=v 17/\v 17<=v 18/\v 18<=1073741824:=U17;have n47:-1073741824<=v 47/\v 47<=v 48/\v 48<=1073741824:=U47;have n49:-1073741824<=v 49/\v 49<=v 50/\v 50<=1073741824:=U49;have n51:-1073741824<=v 51/\v 51<=v 52/\v 52<=1073741824:=U51;have t47:v 13<=v 47/\v 47<=v 48/\v 48<=v 14:=T47;have t49:v 15<=v 49/\v 49<=v 50/\v 50<=v 16:=T49;have t51:v 17<=v 51/\v 51<=v 52/\v 52<=v 18:=T51;have I55:=Rl t47 (RB n13);have k55:v 55=1:=by rw [(UZ hs),decide_eq_true (I55.1)];rfl
 have k56:v 56=1:=by rw [(Uq hs),decide_eq_true (I55.2.1)];rfl
 have k58:v 58=1:=by rw [(Vl hs),decide_eq_true (I55.2.2.1)];rfl
 have k60:v 60=1:=by rw [(UW hs),decide_eq_true (I55.2.2.2.1)];rfl
 have k61:v 61=1:=by rw [(Ur hs),decide_eq_true (I55.2.2.2.2.1)];rfl
 have k63:v 63=1:=by rw [(UC hs),decide_eq_true (I55.2.2.2.2.2.1)];rfl
 have k66:v 66=1:=by rw [(Vu hs),decide_eq_true (I55.2.2.2.2.2.2.1)];rfl
 have k68:v 68=1:=by rw [(UD hs),decide_eq_true (I55.2.2.2.2.2.2.2)];rfl
 have I70:=Rl t49 (RB n15);have k70:v 70=1:=by rw [(Vi hs),decide_eq_true (I70.1)];rfl
 have k71:v 71=1:=by rw [(Vx hs),decide_eq_true (I70.2.1)];rfl
 have k73:v 73=1:=by rw [(UJ hs),decide_eq_true (I70.2.2.1)];rfl
 have k75:v 75=1:=by rw [(UN hs),decide_eq_true (I70.2.2.2.1)];rfl
 have k76:v 76=1:=by rw [(UL hs),decide_eq_true (I70.2.2.2.2.1)];rfl
 have k78:v 78=1:=by rw [(Va hs),decide_eq_true (I70.2.2.2.2.2.1)];rfl
 have k81:v 81=1:=by rw [(UM hs),decide_eq_true (I70.2.2.2.2.2.2.1)];rfl
 have k83:v 83=1:=by rw [(UO hs),decide_eq_true (I70.2.2.2.2.2.2.2)];rfl
 have I86:=Rl t51 (RB n17);have k86:v 86=1:=by rw [(UR hs),decide_eq_true (I86.1)];rfl
 have k87:v 87=1:=by rw [(Vw hs),decide_eq_true (I86.2.1)];rfl
 have k89:v 89=1:=by rw [(Vb hs),decide_eq_true (I86.2.2.1)];rfl
 have k91:v 91=1:=by rw [(Uw hs),decide_eq_true (I86.2.2.2.1)];rfl
 have k92:v 92=1:=by rw [(Us hs),decide_eq_true (I86.2.2.2.2.1)];rfl
 have k94:v 94=1:=by rw [(Ve hs),decide_eq_true (I86.2.2.2.2.2.1)];rfl
 have k97:v 97=1:=by rw [(Vh hs),decide_eq_true (I86.2.2.2.2.2.2.1)];rfl
 have k99:v 99=1:=by rw [(Vd hs),decide_eq_true (I86.2.2.2.2.2.2.2)];rfl
 have k103:v 103=0:=(RH hs k19 k33 k34 k53 k55 k56 k58 k60 k61 k63 k66 k68 k70 k71 k73 k75 k76 k78 k81 k83 k86 k87 k89 k91 k92 k94 k97 k99);have e105:=(Ty hs);have e106:=(SH hs);have e107:=(SG hs);have e108:=(TV hs);have e109:=(Ul hs);have e110:=(Sy hs);have e111:=(TY hs);have e112:=(Td hs);have e113:=(Uk hs);have e114:=(Ta hs);have e115:=(Tk hs);have e116:=(TS hs);have e117:=(TP hs);have e118:=(SL hs)
 have k170:v 170=0:=by
  by_cases ha:dA (v 4) (v 5)=true/\dA (v 6) (v 7)=true
  . have q4:=(eT _ _).1 ha.1;have q6:=(eT _ _).1 ha.2
    by_cases hg:loF ((v 13,v 14):IV) ((v 15,v 16):IV) ((v 17,v 18):IV) (v 4) (v 5) (v 6) (v 7)=0/\loG ((v 13,v 14):IV) ((v 15,v 16):IV) ((v 17,v 18):IV) (v 4) (v 5) (v 6) (v 7)=0
    . have LP:=R6 U13 U15 U17 U47 U49 U51 T47 T49 T51 q4.2.1 q6.2.1 hg.1 hg.2;have O105:loT (v 13) (v 14) (v 15) (v 16) (v 17) (v 18) (v 4) (v 5) (v 6) (v 7)=[(loE ((v 13,v 14):IV) ((v 15,v 16):IV) (v 6) (v 7)).1,(loE ((v 13,v 14):IV) ((v 15,v 16):IV) (v 6) (v 7)).2,(loN ((v 13,v 14):IV) ((v 15,v 16):IV) ((v 17,v 18):IV) (v 4) (v 5) (v 6) (v 7)).1,(loN ((v 13,v 14):IV) ((v 15,v 16):IV) ((v 17,v 18):IV) (v 4) (v 5) (v 6) (v 7)).2,(loU ((v 13,v 14):IV) ((v 15,v 16):IV) ((v 17,v 18):IV) (v 4) (v 5) (v 6) (v 7)).1,(loU ((v 13,v 14):IV) ((v 15,v 16):IV) ((v 17,v 18):IV) (v 4) (v 5) (v 6) (v 7)).2,0]:=(if_pos ha).trans (if_pos hg);rw [O105] at e105 e106 e107 e108 e109 e110 e111;have P105:((v 105,v 106):IV)=loE ((v 13,v 14):IV) ((v 15,v 16):IV) (v 6) (v 7):=uz (e105.trans (wl7 _ _ _ _ _ _ _).1) (e106.trans (wl7 _ _ _ _ _ _ _).2.1);have P107:((v 107,v 108):IV)=loN ((v 13,v 14):IV) ((v 15,v 16):IV) ((v 17,v 18):IV) (v 4) (v 5) (v 6) (v 7):=uz (e107.trans (wl7 _ _ _ _ _ _ _).2.2.1) (e108.trans (wl7 _ _ _ _ _ _ _).2.2.2.1);have P109:((v 109,v 110):IV)=loU ((v 13,v 14):IV) ((v 15,v 16):IV) ((v 17,v 18):IV) (v 4) (v 5) (v 6) (v 7):=uz (e109.trans (wl7 _ _ _ _ _ _ _).2.2.2.2.1) (e110.trans (wl7 _ _ _ _ _ _ _).2.2.2.2.2.1);have k111:v 111=0:=e111;have O112:loT (v 47) (v 48) (v 49) (v 50) (v 51) (v 52) (v 4) (v 5) (v 6) (v 7)=[(loE ((v 47,v 48):IV) ((v 49,v 50):IV) (v 6) (v 7)).1,(loE ((v 47,v 48):IV) ((v 49,v 50):IV) (v 6) (v 7)).2,(loN ((v 47,v 48):IV) ((v 49,v 50):IV) ((v 51,v 52):IV) (v 4) (v 5) (v 6) (v 7)).1,(loN ((v 47,v 48):IV) ((v 49,v 50):IV) ((v 51,v 52):IV) (v 4) (v 5) (v 6) (v 7)).2,(loU ((v 47,v 48):IV) ((v 49,v 50):IV) ((v 51,v 52):IV) (v 4) (v 5) (v 6) (v 7)).1,(loU ((v 47,v 48):IV) ((v 49,v 50):IV) ((v 51,v 52):IV) (v 4) (v 5) (v 6) (v 7)).2,0]:=(if_pos ha).trans (if_pos ⟨LP.1,LP.2.1⟩);rw [O112] at e112 e113 e114 e115 e116 e117 e118;have P112:((v 112,v 113):IV)=loE ((v 47,v 48):IV) ((v 49,v 50):IV) (v 6) (v 7):=uz (e112.trans (wl7 _ _ _ _ _ _ _).1) (e113.trans (wl7 _ _ _ _ _ _ _).2.1);have P114:((v 114,v 115):IV)=loN ((v 47,v 48):IV) ((v 49,v 50):IV) ((v 51,v 52):IV) (v 4) (v 5) (v 6) (v 7):=uz (e114.trans (wl7 _ _ _ _ _ _ _).2.2.1) (e115.trans (wl7 _ _ _ _ _ _ _).2.2.2.1);have P116:((v 116,v 117):IV)=loU ((v 47,v 48):IV) ((v 49,v 50):IV) ((v 51,v 52):IV) (v 4) (v 5) (v 6) (v 7):=uz (e116.trans (wl7 _ _ _ _ _ _ _).2.2.2.2.1) (e117.trans (wl7 _ _ _ _ _ _ _).2.2.2.2.2.1);have k118:v 118=0:=e118;have F105:fxV (v 105) (v 106)=true:=by have:=Db (uM ((v 15,v 16):IV) (uC (v 6) (v 7))) (uM ((v 13,v 14):IV) (uS (v 6) (v 7)));have e:((v 105,v 106):IV)=uD (uM ((v 15,v 16):IV) (uC (v 6) (v 7))) (uM ((v 13,v 14):IV) (uS (v 6) (v 7))):=P105;rw [<-e] at this;exact this
      have F107:fxV (v 107) (v 108)=true:=by have:=Db (uM ((v 17,v 18):IV) (uC (v 4) (v 5))) (uM (loH ((v 13,v 14):IV) ((v 15,v 16):IV) (v 6) (v 7)) (uS (v 4) (v 5)));have e:((v 107,v 108):IV)=uD (uM ((v 17,v 18):IV) (uC (v 4) (v 5))) (uM (loH ((v 13,v 14):IV) ((v 15,v 16):IV) (v 6) (v 7)) (uS (v 4) (v 5))):=P107;rw [<-e] at this;exact this
      have F109:fxV (v 109) (v 110)=true:=by have:=rM (uM ((v 17,v 18):IV) (uS (v 4) (v 5))) (uM (loH ((v 13,v 14):IV) ((v 15,v 16):IV) (v 6) (v 7)) (uC (v 4) (v 5)));have e:((v 109,v 110):IV)=uA (uM ((v 17,v 18):IV) (uS (v 4) (v 5))) (uM (loH ((v 13,v 14):IV) ((v 15,v 16):IV) (v 6) (v 7)) (uC (v 4) (v 5))):=P109;rw [<-e] at this;exact this
      have x1:=(bM _ _).1 F105;have x2:=(bM _ _).1 F107;have x3:=(bM _ _).1 F109;have l1:=LP.2.2.1;have l2:=LP.2.2.2.1;have l3:=LP.2.2.2.2;rw [<-P105,<-P112] at l1;rw [<-P107,<-P114] at l2;rw [<-P109,<-P116] at l3;have y1:v 105<=v 112/\v 112<=v 113/\v 113<=v 106:=l1;have y2:v 107<=v 114/\v 114<=v 115/\v 115<=v 108:=l2;have y3:v 109<=v 116/\v 116<=v 117/\v 117<=v 110:=l3;have I121:=Rl y1 x1;have k121:v 121=1:=by rw [(Ug hs),decide_eq_true (I121.1)];rfl
      have k122:v 122=1:=by rw [(TA hs),decide_eq_true (I121.2.1)];rfl
      have k124:v 124=1:=by rw [(Su hs),decide_eq_true (I121.2.2.1)];rfl
      have k126:v 126=1:=by rw [(Uc hs),decide_eq_true (I121.2.2.2.1)];rfl
      have k127:v 127=1:=by rw [(Tm hs),decide_eq_true (I121.2.2.2.2.1)];rfl
      have k129:v 129=1:=by rw [(Si hs),decide_eq_true (I121.2.2.2.2.2.1)];rfl
      have k132:v 132=1:=by rw [(TE hs),decide_eq_true (I121.2.2.2.2.2.2.1)];rfl
      have k134:v 134=1:=by rw [(SF hs),decide_eq_true (I121.2.2.2.2.2.2.2)];rfl
      have I136:=Rl y2 x2;have k136:v 136=1:=by rw [(Uo hs),decide_eq_true (I136.1)];rfl
      have k137:v 137=1:=by rw [(Tx hs),decide_eq_true (I136.2.1)];rfl
      have k139:v 139=1:=by rw [(Tj hs),decide_eq_true (I136.2.2.1)];rfl
      have k141:v 141=1:=by rw [(Uf hs),decide_eq_true (I136.2.2.2.1)];rfl
      have k142:v 142=1:=by rw [(TR hs),decide_eq_true (I136.2.2.2.2.1)];rfl
      have k144:v 144=1:=by rw [(TB hs),decide_eq_true (I136.2.2.2.2.2.1)];rfl
      have k147:v 147=1:=by rw [(Tu hs),decide_eq_true (I136.2.2.2.2.2.2.1)];rfl
      have k149:v 149=1:=by rw [(TU hs),decide_eq_true (I136.2.2.2.2.2.2.2)];rfl
      have I152:=Rl y3 x3;have k152:v 152=1:=by rw [(TZ hs),decide_eq_true (I152.1)];rfl
      have k153:v 153=1:=by rw [(Un hs),decide_eq_true (I152.2.1)];rfl
      have k155:v 155=1:=by rw [(TD hs),decide_eq_true (I152.2.2.1)];rfl
      have k157:v 157=1:=by rw [(TG hs),decide_eq_true (I152.2.2.2.1)];rfl
      have k158:v 158=1:=by rw [(Sr hs),decide_eq_true (I152.2.2.2.2.1)];rfl
      have k160:v 160=1:=by rw [(Tz hs),decide_eq_true (I152.2.2.2.2.2.1)];rfl
      have k163:v 163=1:=by rw [(Tg hs),decide_eq_true (I152.2.2.2.2.2.2.1)];rfl
      have k165:v 165=1:=by rw [(Tq hs),decide_eq_true (I152.2.2.2.2.2.2.2)];rfl
      exact (RJ hs k111 k118 k121 k122 k124 k126 k127 k129 k132 k134 k136 k137 k139 k141 k142 k144 k147 k149 k152 k153 k155 k157 k158 k160 k163 k165)
    . have O:loT (v 13) (v 14) (v 15) (v 16) (v 17) (v 18) (v 4) (v 5) (v 6) (v 7)=[0,0,0,0,0,0,5]:=(if_pos ha).trans (if_neg hg);have k111:v 111=5:=by rw [e111,O];rfl
      exact (Rx hs k111)
  . have O:loT (v 13) (v 14) (v 15) (v 16) (v 17) (v 18) (v 4) (v 5) (v 6) (v 7)=[0,0,0,0,0,0,1]:=if_neg ha;have k111:v 111=1:=by rw [e111,O];rfl
    exact (Rp hs k111)
 clear e105 e106 e107 e108 e109 e110 e111 e112 e113 e114 e115 e116 e117 e118;intro x hx;have hx':x=.bool (decide (v 250≠0)):=hx
 suffices hr:v 250=1 by rw [hx',hr];rfl
 have HP:=Vs U13 U15 U47 U49 T47 T49;have h0:=(Rb U13 U15).2;have h0':=(Rb U47 U49).2;have hf:=(bM _ _).1 (CJ (sm2 ((v 13,v 14):IV) ((v 15,v 16):IV)));have hf':=(bM _ _).1 (CJ (sm2 ((v 47,v 48):IV) ((v 49,v 50):IV)));have hh:(hoI ((v 13,v 14):IV) ((v 15,v 16):IV)).1<=(hoI ((v 13,v 14):IV) ((v 15,v 16):IV)).2/\(hoI ((v 13,v 14):IV) ((v 15,v 16):IV)).2<=2147483648:=⟨hf.2.1,hf.2.2⟩;have hh':(hoI ((v 47,v 48):IV) ((v 49,v 50):IV)).1<=(hoI ((v 47,v 48):IV) ((v 49,v 50):IV)).2/\(hoI ((v 47,v 48):IV) ((v 49,v 50):IV)).2<=2147483648:=⟨hf'.2.1,hf'.2.2⟩;clear hf hf'
 cases ho:bN (v 17) (v 18) (hoI ((v 13,v 14):IV) ((v 15,v 16):IV)).1 (hoI ((v 13,v 14):IV) ((v 15,v 16):IV)).2
 rotate_left
 . have O:plT (v 13) (v 14) (v 15) (v 16) (v 17) (v 18)=[0,0,0,0,21]:=if_pos ho;have k176:v 176=21:=by rw [(Rt hs),O];rfl
   exact (Rv hs k19 k33 k34 k103 k170 k176)
 have hb:(hoI ((v 13,v 14):IV) ((v 15,v 16):IV)).1<=(hoI ((v 47,v 48):IV) ((v 49,v 50):IV)).1/\(hoI ((v 47,v 48):IV) ((v 49,v 50):IV)).1<=(hoI ((v 47,v 48):IV) ((v 49,v 50):IV)).2/\(hoI ((v 47,v 48):IV) ((v 49,v 50):IV)).2<=(hoI ((v 13,v 14):IV) ((v 15,v 16):IV)).2:=HP;have hn:¬ (v 13=v 13+1):=by omega
 have ho':bN (v 51) (v 52) (hoI ((v 47,v 48):IV) ((v 49,v 50):IV)).1 (hoI ((v 47,v 48):IV) ((v 49,v 50):IV)).2=false:=by
  have h1:=of_decide_eq_false ho;unfold bN;rw [decide_eq_false_iff_not];omega
 have BR:=F8 (by omega) hh.1 (by omega) ⟨h0,hh.2⟩ ho
 have BR':=F8 (by omega) hh'.1 (by omega) ⟨h0',hh'.2⟩ ho'
 have BH:=AA (by omega) hh.1 (by omega) (by omega) ho
 have B1:=FP (v 17) (v 18) (hoI ((v 13,v 14):IV) ((v 15,v 16):IV)).1 (hoI ((v 13,v 14):IV) ((v 15,v 16):IV)).2;have B1':=FP (v 51) (v 52) (hoI ((v 47,v 48):IV) ((v 49,v 50):IV)).1 (hoI ((v 47,v 48):IV) ((v 49,v 50):IV)).2;have W1:=Al (yl:=v 17) (yh:=v 18) (xl:=(hoI ((v 13,v 14):IV) ((v 15,v 16):IV)).1) (xh:=(hoI ((v 13,v 14):IV) ((v 15,v 16):IV)).2) (yl':=v 51) (yh':=v 52) (xl':=(hoI ((v 47,v 48):IV) ((v 49,v 50):IV)).1) (xh':=(hoI ((v 47,v 48):IV) ((v 49,v 50):IV)).2) t51 hb (by omega) (by omega)
 have B2:=FP (v 15) (v 16) (v 13) (v 14);have B2':=FP (v 49) (v 50) (v 47) (v 48);have W2:=Al (yl:=v 15) (yh:=v 16) (xl:=v 13) (xh:=v 14) (yl':=v 49) (yh':=v 50) (xl':=v 47) (xh':=v 48) t49 t47 (by omega) (by omega)
 have e172:=(Sw hs);have e173:=(TC hs);have e174:=(Sv hs);have e175:=(Tf hs);have e176:=(Rt hs);have e177:=(S9 hs);have e178:=(SE hs);have e179:=(TH hs);have e180:=(Ub hs);have e181:=(Tt hs);have O1:plT (v 13) (v 14) (v 15) (v 16) (v 17) (v 18)=_:=if_neg (by rw [ho];simp)
 have O2:plT (v 47) (v 48) (v 49) (v 50) (v 51) (v 52)=_:=if_neg (by rw [ho'];simp)
 rw [O1] at e172 e173 e174 e175 e176;rw [O2] at e177 e178 e179 e180 e181;clear O1 O2 HP hb h0 h0' hh hh' ho ho' hn;have k176:v 176=0:=e176;have k181:v 181=0:=e181;replace e172:=e172.trans (wl5 _ _ _ _ _).1;replace e173:=e173.trans (wl5 _ _ _ _ _).2.1;replace e174:=e174.trans (wl5 _ _ _ _ _).2.2.1;replace e175:=e175.trans (wl5 _ _ _ _ _).2.2.2.1;replace e177:=e177.trans (wl5 _ _ _ _ _).1;replace e178:=e178.trans (wl5 _ _ _ _ _).2.1;replace e179:=e179.trans (wl5 _ _ _ _ _).2.2.1;replace e180:=e180.trans (wl5 _ _ _ _ _).2.2.2.1
 try simp only at *
 generalize aU (v 17) (v 18) (hoI ((v 13,v 14):IV) ((v 15,v 16):IV)).1 (hoI ((v 13,v 14):IV) ((v 15,v 16):IV)).2=L at *
 generalize bg (v 17) (v 18) (hoI ((v 13,v 14):IV) ((v 15,v 16):IV)).1 (hoI ((v 13,v 14):IV) ((v 15,v 16):IV)).2=H at *
 generalize aU (v 51) (v 52) (hoI ((v 47,v 48):IV) ((v 49,v 50):IV)).1 (hoI ((v 47,v 48):IV) ((v 49,v 50):IV)).2=L' at *
 generalize bg (v 51) (v 52) (hoI ((v 47,v 48):IV) ((v 49,v 50):IV)).1 (hoI ((v 47,v 48):IV) ((v 49,v 50):IV)).2=H' at *
 generalize aU (v 15) (v 16) (v 13) (v 14)=l at *
 generalize bg (v 15) (v 16) (v 13) (v 14)=h at *
 generalize aU (v 49) (v 50) (v 47) (v 48)=l' at *
 generalize bg (v 49) (v 50) (v 47) (v 48)=h' at *
 clear n13 n15 n17 n47 n49 n51 t47 t49 t51 T47 T49 T51 U13 U15 U17 U47 U49 U51 q0 q2 N41 N46 hv hv2;have PL:=Q5 (L:=L) (H:=H) (L':=L') (H':=H') (by omega) (by omega) BR ⟨BR'.1,BR'.2.1⟩ BH (by rcases W1 with q|q;omega;exact q)
 have PN:=P8 (l:=l) (l':=l') (by omega) (by omega)
 have PN':=P8 (l:=l') (l':=l') (by omega) (by omega)
 clear W1;have k184:v 184=1:=by rw [(SA hs),decide_eq_true (by clear W2 PN e174 e175 e179 e180;rw [e177,e178];omega)];rfl
 have k185:v 185=1:=by rw [(Ue hs),decide_eq_true (by clear W2 PN e174 e175 e179 e180;rw [e177];omega)];rfl
 have k187:v 187=1:=by rw [(TT hs),decide_eq_true (by clear W2 PN e174 e175 e179 e180;rw [e178];omega)];rfl
 have k202:v 202=1:=by rw [(Ti hs),decide_eq_true (by clear W2 PN e174 e175 e179 e180;rw [e172,e173];omega)];rfl
 have k203:v 203=1:=by rw [(TF hs),decide_eq_true (by clear W2 PN e174 e175 e179 e180;rw [e172];omega)];rfl
 have k205:v 205=1:=by rw [(Tn hs),decide_eq_true (by clear W2 PN e174 e175 e179 e180;rw [e173];omega)];rfl
 have k221:v 221=1:=by rw [(Uh hs),decide_eq_true (by rw [e177,e172];exact PL.1)];rfl
 have k223:v 223=1:=by rw [(Sj hs),decide_eq_true (by rw [e178,e173];exact PL.2)];rfl
 clear e172 e173 e177 e178 PL BR BR' BH B1 B1'
 by_cases hw:h-l<21600000
 . rw [if_pos hw] at e174 e175;have wl:(l'-l)%21600000+(h'-l')<=h-l:=by rcases W2 with q|q;omega;exact q
   have nn:=Int.emod_nonneg (l'-l) (show (21600000:Int)≠0 by decide)
   rw [if_pos (by omega)] at e179 e180
   have d1:v 175-v 174=h-l:=by omega
   have d2:v 180-v 179=h'-l':=by omega
   have r1:-10800000<=v 174/\v 174<10800000:=by omega
   have r2:-10800000<=v 179/\v 179<10800000:=by omega
   have wm:(v 179-v 174)%21600000=(l'-l)%21600000:=by rw [e179,e174];exact PN.1
   clear e174 e175 e179 e180 PN PN' W2
   have k200:v 200=1:=by
    have c0:v 189=0∨v 189=1:=by rw [(QG hs)];cases (v 179 == -10800000)<;>simp [b2i]
    have c1:v 190=0∨v 190=1:=by rw [(QH hs)];cases (v 180==10800000)<;>simp [b2i]
    have k192:v 192=1:=by rw [(RN hs),decide_eq_true (by omega)];rfl
    have k193:v 193=1:=by rw [(Ro hs),decide_eq_true (by omega)];rfl
    have k195:v 195=1:=by rw [(RO hs),decide_eq_true (by omega)];rfl
    have w197:v 197=v 180-v 179:=by rw [(Ru hs),Go.IntWalk.i64_in _ (by omega)]
    have k198:v 198=1:=by rw [(RG hs),w197,decide_eq_true (by omega)];rfl
    rcases c0 with k189|k189<;>rcases c1 with k190|k190
    . exact (Rm hs k189 k190 k192 k193 k195 k198)
    . exact (Ry hs k189 k190 k192 k193 k195 k198)
    . exact (QX hs k189 k190 k192 k193 k195 k198)
    . exact (Rk hs k189 k190 k192 k193 k195 k198)
   have k218:v 218=1:=by
    have c0:v 207=0∨v 207=1:=by rw [(QR hs)];cases (v 174 == -10800000)<;>simp [b2i]
    have c1:v 208=0∨v 208=1:=by rw [(QN hs)];cases (v 175==10800000)<;>simp [b2i]
    have k210:v 210=1:=by rw [(T9 hs),decide_eq_true (by omega)];rfl
    have k211:v 211=1:=by rw [(Tp hs),decide_eq_true (by omega)];rfl
    have k213:v 213=1:=by rw [(Tv hs),decide_eq_true (by omega)];rfl
    have w215:v 215=v 175-v 174:=by rw [(Rn hs),Go.IntWalk.i64_in _ (by omega)]
    have k216:v 216=1:=by rw [(TM hs),w215,decide_eq_true (by omega)];rfl
    rcases c0 with k207|k207<;>rcases c1 with k208|k208
    . exact (Re hs k207 k208 k210 k211 k213 k216)
    . exact (Q6 hs k207 k208 k210 k211 k213 k216)
    . exact (Q9 hs k207 k208 k210 k211 k213 k216)
    . exact (Ri hs k207 k208 k210 k211 k213 k216)
   have z191:v 191=0:=by
    have e:=(TN hs);have e1:=(QG hs);have e2:=(QH hs);rw [e,e1,e2]
    by_cases q:v 179=-10800000
    . have:(v 180==10800000)=false:=by simp;omega
      rw [this];simp [b2i]
    . have:(v 179 == -10800000)=false:=by simpa using q
      rw [this];simp [b2i]
   have z209:v 209=0:=by
    have e:=(TW hs);have e1:=(QR hs);have e2:=(QN hs);rw [e,e1,e2]
    by_cases q:v 174=-10800000
    . have:(v 175==10800000)=false:=by simp;omega
      rw [this];simp [b2i]
    . have:(v 174 == -10800000)=false:=by simpa using q
      rw [this];simp [b2i]
   have k191:=z191;have k209:=z209;have w230:v 230=v 179-v 174:=by rw [(Ud hs),Go.IntWalk.i64_in _ (by omega)]
   have w235:=R3 (x:=v 230) (r:=v 231) (c:=v 232) (u:=v 233) (z:=v 235) (by omega) (SK hs) (SN hs) (Ui hs) (SQ hs)
   rw [w230,wm] at w235;have w236:v 236=v 235+v 180:=by rw [(Ua hs),Go.IntWalk.i64_in _ (by omega)]
   have w237:v 237=v 236-v 179:=by rw [(Tw hs),Go.IntWalk.i64_in _ (by omega)]
   have w215:v 215=v 175-v 174:=by rw [(Rn hs),Go.IntWalk.i64_in _ (by omega)]
   have k238:v 238=1:=by rw [(SS hs),decide_eq_true (by omega)];rfl
   exact (Rc hs k19 k33 k34 k103 k170 k176 k181 k184 k185 k187 k191 k200 k202 k203 k205 k209 k218 k221 k223 k238)
 . rw [if_neg hw] at e174 e175;have k207:v 207=1:=by rw [(QR hs),e174];rfl
   have k208:v 208=1:=by rw [(QN hs),e175];rfl
   by_cases hw':h'-l'<21600000
   . rw [if_pos hw'] at e179 e180;have d2:v 180-v 179=h'-l':=by omega
     have r2:-10800000<=v 179/\v 179<10800000:=by omega
     clear e174 e175 e179 e180 PN PN' W2
     have k200:v 200=1:=by
      have c0:v 189=0∨v 189=1:=by rw [(QG hs)];cases (v 179 == -10800000)<;>simp [b2i]
      have c1:v 190=0∨v 190=1:=by rw [(QH hs)];cases (v 180==10800000)<;>simp [b2i]
      have k192:v 192=1:=by rw [(RN hs),decide_eq_true (by omega)];rfl
      have k193:v 193=1:=by rw [(Ro hs),decide_eq_true (by omega)];rfl
      have k195:v 195=1:=by rw [(RO hs),decide_eq_true (by omega)];rfl
      have w197:v 197=v 180-v 179:=by rw [(Ru hs),Go.IntWalk.i64_in _ (by omega)]
      have k198:v 198=1:=by rw [(RG hs),w197,decide_eq_true (by omega)];rfl
      rcases c0 with k189|k189<;>rcases c1 with k190|k190
      . exact (Ra hs k189 k190 k192 k193 k195 k198)
      . exact (Q7 hs k189 k190 k192 k193 k195 k198)
      . exact (Rj hs k189 k190 k192 k193 k195 k198)
      . exact (Q4 hs k189 k190 k192 k193 k195 k198)
     exact (Q3 hs k19 k33 k34 k103 k170 k176 k181 k184 k185 k187 k200 k202 k203 k205 k207 k208 k221 k223)
   . rw [if_neg hw'] at e179 e180;have k189:v 189=1:=by rw [(QG hs),e179];rfl
     have k190:v 190=1:=by rw [(QH hs),e180];rfl
     exact (Q8 hs k19 k33 k34 k103 k170 k176 k181 k184 k185 k187 k189 k190 k202 k203 k205 k207 k208 k221 k223)
