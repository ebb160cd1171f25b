/- The law VectorsTurned. -/
import Derived.Test.YtbdlccacamalpaaZVtR
import Derived.Test.YtbdlccacamalpaaZAwV
import Derived.Test.YtbdlccacamalpaaZEv
set_option linter.unusedVariables false
set_option linter.unusedSimpArgs false
set_option maxRecDepth 100000
set_option maxHeartbeats 8000000
namespace Go.Proofs.Ytbdlccacamalpaa
open Go.RowKit Alm Sx
def vtO (a0 a1 a2 a3:Int):List Int:=[(uM (uC a0 a1) (uC a2 a3)).1,(uM (uC a0 a1) (uC a2 a3)).2,(uM (uC a0 a1) (uS a2 a3)).1,(uM (uC a0 a1) (uS a2 a3)).2,(uS a0 a1).1,(uS a0 a1).2,0]
def vtR (a0 a1 a2 a3 a4 a5 a6 a7:Int):List Int:=[(roX ((a0,a1):IV) ((a2,a3):IV) a6 a7).1,(roX ((a0,a1):IV) ((a2,a3):IV) a6 a7).2,(roY ((a0,a1):IV) ((a2,a3):IV) a6 a7).1,(roY ((a0,a1):IV) ((a2,a3):IV) a6 a7).2,a4,a5,0]
def vtB (a0 a1 a2 a3 a4 a5 a6 a7 a8 a9 a10 a11:Int):List Int:=[btL ((a0,a1):IV) ((a2,a3):IV) ((a4,a5):IV) ((a6,a7):IV) ((a8,a9):IV) ((a10,a11):IV),btH ((a0,a1):IV) ((a2,a3):IV) ((a4,a5):IV) ((a6,a7):IV) ((a8,a9):IV) ((a10,a11):IV),0]
def vqR (a0 a1 a2 a3 a4 a5 a6 a7:Int):Prop:=(U ((a0,a1):IV)/\U ((a2,a3):IV)/\U ((a4,a5):IV))/\dW a6 a7=true
def vqB (a0 a1 a2 a3 a4 a5 a6 a7 a8 a9 a10 a11:Int):Prop:=∃ x y z x' y' z':Rat,VK ((a0,a1):IV) ((a2,a3):IV) ((a4,a5):IV) x y z/\VK ((a6,a7):IV) ((a8,a9):IV) ((a10,a11):IV) x' y' z'
def kVt (f:Nat):Bool:=f==101 || (f==104 || f==107)
def Vf:Nat->List Int->List Int
 | 101,[a,b,c,d]=>vtO a b c d
 | 104,[a0,a1,a2,a3,a4,a5,a6,a7,a8,a9,a10,a11]=>vtB a0 a1 a2 a3 a4 a5 a6 a7 a8 a9 a10 a11
 | 107,[a0,a1,a2,a3,a4,a5,a6,a7]=>vtR a0 a1 a2 a3 a4 a5 a6 a7
 | _,_=>[]
def Vr:Nat->List Int->Prop
 | 101,[a,b,c,d]=>dW a b=true/\dW c d=true
 | 104,[a0,a1,a2,a3,a4,a5,a6,a7,a8,a9,a10,a11]=>vqB a0 a1 a2 a3 a4 a5 a6 a7 a8 a9 a10 a11
 | 107,[a0,a1,a2,a3,a4,a5,a6,a7]=>vqR a0 a1 a2 a3 a4 a5 a6 a7
 | _,_=>False
def ax (args:List Int):Cx:=(cxB args).plus kVt Vf Vr
theorem Uc (args:List Int):rH (ax args):=BV (Ei args) fun f h=>by
 unfold kVt;rcases h with h|rfl
 . simp;omega
 . rfl
def U5:Sx.Spec:=⟨9,101,[(true,[some .i64,some .i64]),(true,[some .i64,some .i64])],[(true,[some .i64,some .i64,some .i64,some .i64,some .i64,some .i64]),(false,[some .i64])]⟩
def UZ:Sx.Spec:=⟨8,104,[(true,[some .i64,some .i64,some .i64,some .i64,some .i64,some .i64]),(true,[some .i64,some .i64,some .i64,some .i64,some .i64,some .i64])],[(true,[some .i64,some .i64]),(false,[some .i64])]⟩
def Vt:Sx.Spec:=⟨7,107,[(true,[some .i64,some .i64,some .i64,some .i64,some .i64,some .i64]),(true,[some .i64,some .i64])],[(true,[some .i64,some .i64,some .i64,some .i64,some .i64,some .i64]),(false,[some .i64])]⟩
theorem Tz (args:List Int):bB Try.prog (ax args) U5:=by
 refine ll rfl (ours _ _ _ Try.func9 rfl (by kernel_rfl)) fun xs hp w=>?_
 match xs,hp with
 | [a,b,c,d],hp=>exact Rh a b c d w hp.1 hp.2
theorem Tv (args:List Int):bB Try.prog (ax args) Vt:=by
 refine ll rfl (ours _ _ _ Try.func7 rfl (by kernel_rfl)) fun xs hp w=>?_
 match xs,hp with
 | [a0,a1,a2,a3,a4,a5,a6,a7],hp=>exact UB a0 a1 a2 a3 a4 a5 a6 a7 w hp.1.1 hp.1.2.1 hp.1.2.2 hp.2
theorem Tw (a0 a1 a2 a3 a4 a5 a6 a7 a8 a9 a10 a11:Int) (w:World) (h:vqB a0 a1 a2 a3 a4 a5 a6 a7 a8 a9 a10 a11):Calls Try.prog 8 #[.agg #[.int .i64 a0,.int .i64 a1,.int .i64 a2,.int .i64 a3,.int .i64 a4,.int .i64 a5],.agg #[.int .i64 a6,.int .i64 a7,.int .i64 a8,.int .i64 a9,.int .i64 a10,.int .i64 a11]] w fun e w'=>e=.returned (.tuple #[.agg #[.int .i64 (btL ((a0,a1):IV) ((a2,a3):IV) ((a4,a5):IV) ((a6,a7):IV) ((a8,a9):IV) ((a10,a11):IV)),.int .i64 (btH ((a0,a1):IV) ((a2,a3):IV) ((a4,a5):IV) ((a6,a7):IV) ((a8,a9):IV) ((a10,a11):IV))],.int .i64 0])/\Below w.heap.size w w':=by
 obtain ⟨x,y,z,x',y',z',A,B⟩:=h;have e:=bC;have FA:=A.1.fx (by decide) (by grind)
 have FB:=B.1.fx (by decide) (by grind)
 have hf:0<=100*ee/\100*ee<=100*ee:=by constructor<;>grind
 have W:=Tg A.1 B.1 A.2 B.2 (by decide) (by decide) hf hf (S:=btS ((a0,a1):IV) ((a2,a3):IV) ((a4,a5):IV) ((a6,a7):IV) ((a8,a9):IV) ((a10,a11):IV)) (D:=dtI ((a0,a1):IV) ((a2,a3):IV) ((a4,a5):IV) ((a6,a7):IV) ((a8,a9):IV) ((a10,a11):IV)) (R:=uR (btS ((a0,a1):IV) ((a2,a3):IV) ((a4,a5):IV) ((a6,a7):IV) ((a8,a9):IV) ((a10,a11):IV))) rfl rfl rfl rfl
 have C:=(Sr A.1 B.1 A.2 B.2 (by decide) (by decide) hf hf).1
 exact Vb a0 a1 a2 a3 a4 a5 a6 a7 a8 a9 a10 a11 w FA.1 FA.2.1 FA.2.2 FB.1 FB.2.1 FB.2.2 C.1.1 C.1.2.1 C.1.2.2 C.2.1.1 C.2.1.2.1 C.2.1.2.2 C.2.2.1 C.2.2.2.1 C.2.2.2.2 W.2.1.1 W.2.1.2.1 W.2.1.2.2.1 W.2.1.2.2.2.1 W.2.1.2.2.2.2 W.1.1 W.1.2.1 W.1.2.2.1 W.1.2.2.2.1 W.1.2.2.2.2.1 W.1.2.2.2.2.2 W.2.2.2.2.1
theorem Tx (args:List Int):bB Try.prog (ax args) UZ:=by
 refine ll rfl (ours _ _ _ Try.func8 rfl (by kernel_rfl)) fun xs hp w=>?_
 match xs,hp with
 | [a0,a1,a2,a3,a4,a5,a6,a7,a8,a9,a10,a11],hp=>exact Tw a0 a1 a2 a3 a4 a5 a6 a7 a8 a9 a10 a11 w hp
def Um:List Sx.Spec:=[Rc,U5,UZ,Vt]
theorem Ty (args:List Int):∀ s∈Um,bB Try.prog (ax args) s:=by
 intro s hs;simp only [Um,List.mem_cons,List.not_mem_nil,or_false] at hs;rcases hs with rfl|rfl|rfl|rfl
 . exact Fy rfl (GD args)
 . exact Tz args
 . exact Tx args
 . exact Tv args
def TF (t:Tab):Nd->Option Rf
 | .app 20 0 []=>some (.c 1)
 | x=>EO t x
theorem Tf (args:List Int):lJ (ax args) TF:=by
 intro v t x r ht h;unfold TF at h;split at h
 . cases h;rfl
 . exact Am (Uc args) v t x r ht h
theorem tl7 (x0 x1 x2 x3 x4 x5 x6:Int):[x0,x1,x2,x3,x4,x5,x6].getD 0 0=x0/\[x0,x1,x2,x3,x4,x5,x6].getD 1 0=x1/\[x0,x1,x2,x3,x4,x5,x6].getD 2 0=x2/\[x0,x1,x2,x3,x4,x5,x6].getD 3 0=x3/\[x0,x1,x2,x3,x4,x5,x6].getD 4 0=x4/\[x0,x1,x2,x3,x4,x5,x6].getD 5 0=x5/\[x0,x1,x2,x3,x4,x5,x6].getD 6 0=x6:=⟨rfl,rfl,rfl,rfl,rfl,rfl,rfl⟩
theorem tl3 (x0 x1 x2:Int):[x0,x1,x2].getD 0 0=x0/\[x0,x1,x2].getD 1 0=x1/\[x0,x1,x2].getD 2 0=x2:=⟨rfl,rfl,rfl⟩
theorem nS {a b:Int} {p:IV} (h1:a=p.1) (h2:b=p.2):((a,b):IV)=p:=Prod.ext h1 h2
theorem Sn (x:Int):-21600000<Int.tmod x 21600000/\Int.tmod x 21600000<21600000:=by
 have b1:=Int.tmod_lt_of_pos x (show (0:Int)<21600000 by omega)
 have b2:=Int.tmod_lt_of_pos (-x) (show (0:Int)<21600000 by omega)
 rw [Int.neg_tmod] at b2;omega
theorem Tq {q:Prop} [Decidable q]:(b2i (decide q)≠0)↔q:=by
 by_cases h:q<;>simp [h,b2i]
theorem Tu {x y d r c u z q n:Int} (hx:-21600000<x/\x<21600000) (hy:-21600000<y/\y<21600000) (hd:d=IntKind.i64.wrap (x-y)) (hr:r=Int.tmod d 21600000) (hc:c=b2i (decide (r<0))) (hu:u=IntKind.i64.wrap (0-r)) (hz:z=if c≠0 then u else r) (hq:q=IntKind.i64.wrap (21600000-z)) (hn:n=if q<z then q else z):(0<=n/\n<=10800000)/\(n%21600000=(x-y)%21600000∨n%21600000=(-(x-y))%21600000):=by
 rw [Go.IntWalk.i64_in _ (by omega)] at hd
 have b:=Sn d;rw [<-hr] at b;rw [Go.IntWalk.i64_in _ (by omega)] at hu
 rw [Int.tmod_eq_emod] at hr
 have k:(r<0/\z=-r)∨(0<=r/\z=r):=by
  rw [hc] at hz
  by_cases h:r<0
  . left;rw [if_pos (Tq.2 h)] at hz;omega
  . right;rw [if_neg (fun g=>h (Tq.1 g))] at hz;omega
 rw [Go.IntWalk.i64_in _ (by omega)] at hq
 subst hd;clear hz hc hu;split at hr<;>split at hn<;>omega
theorem SE (a0 a1 a2 a3:Int):(vtO a0 a1 a2 a3).getD 0 0=(uM (uC a0 a1) (uC a2 a3)).1:=(tl7 _ _ _ _ _ _ _).1
theorem SH (a0 a1 a2 a3:Int):(vtO a0 a1 a2 a3).getD 1 0=(uM (uC a0 a1) (uC a2 a3)).2:=(tl7 _ _ _ _ _ _ _).2.1
theorem Sy (a0 a1 a2 a3:Int):(vtO a0 a1 a2 a3).getD 2 0=(uM (uC a0 a1) (uS a2 a3)).1:=(tl7 _ _ _ _ _ _ _).2.2.1
theorem SB (a0 a1 a2 a3:Int):(vtO a0 a1 a2 a3).getD 3 0=(uM (uC a0 a1) (uS a2 a3)).2:=(tl7 _ _ _ _ _ _ _).2.2.2.1
theorem SG (a0 a1 a2 a3:Int):(vtO a0 a1 a2 a3).getD 4 0=(uS a0 a1).1:=(tl7 _ _ _ _ _ _ _).2.2.2.2.1
theorem SF (a0 a1 a2 a3:Int):(vtO a0 a1 a2 a3).getD 5 0=(uS a0 a1).2:=(tl7 _ _ _ _ _ _ _).2.2.2.2.2.1
theorem Sz (a0 a1 a2 a3:Int):(vtO a0 a1 a2 a3).getD 6 0=0:=(tl7 _ _ _ _ _ _ _).2.2.2.2.2.2
theorem TG (a0 a1 a2 a3 a4 a5 a6 a7:Int):(vtR a0 a1 a2 a3 a4 a5 a6 a7).getD 0 0=(roX ((a0,a1):IV) ((a2,a3):IV) a6 a7).1:=(tl7 _ _ _ _ _ _ _).1
theorem TK (a0 a1 a2 a3 a4 a5 a6 a7:Int):(vtR a0 a1 a2 a3 a4 a5 a6 a7).getD 1 0=(roX ((a0,a1):IV) ((a2,a3):IV) a6 a7).2:=(tl7 _ _ _ _ _ _ _).2.1
theorem TN (a0 a1 a2 a3 a4 a5 a6 a7:Int):(vtR a0 a1 a2 a3 a4 a5 a6 a7).getD 2 0=(roY ((a0,a1):IV) ((a2,a3):IV) a6 a7).1:=(tl7 _ _ _ _ _ _ _).2.2.1
theorem TL (a0 a1 a2 a3 a4 a5 a6 a7:Int):(vtR a0 a1 a2 a3 a4 a5 a6 a7).getD 3 0=(roY ((a0,a1):IV) ((a2,a3):IV) a6 a7).2:=(tl7 _ _ _ _ _ _ _).2.2.2.1
theorem TP (a0 a1 a2 a3 a4 a5 a6 a7:Int):(vtR a0 a1 a2 a3 a4 a5 a6 a7).getD 4 0=a4:=(tl7 _ _ _ _ _ _ _).2.2.2.2.1
theorem TC (a0 a1 a2 a3 a4 a5 a6 a7:Int):(vtR a0 a1 a2 a3 a4 a5 a6 a7).getD 5 0=a5:=(tl7 _ _ _ _ _ _ _).2.2.2.2.2.1
theorem TI (a0 a1 a2 a3 a4 a5 a6 a7:Int):(vtR a0 a1 a2 a3 a4 a5 a6 a7).getD 6 0=0:=(tl7 _ _ _ _ _ _ _).2.2.2.2.2.2
theorem S9 (a0 a1 a2 a3 a4 a5 a6 a7 a8 a9 a10 a11:Int):(vtB a0 a1 a2 a3 a4 a5 a6 a7 a8 a9 a10 a11).getD 0 0=btL ((a0,a1):IV) ((a2,a3):IV) ((a4,a5):IV) ((a6,a7):IV) ((a8,a9):IV) ((a10,a11):IV):=(tl3 _ _ _).1
theorem Tp (a0 a1 a2 a3 a4 a5 a6 a7 a8 a9 a10 a11:Int):(vtB a0 a1 a2 a3 a4 a5 a6 a7 a8 a9 a10 a11).getD 1 0=btH ((a0,a1):IV) ((a2,a3):IV) ((a4,a5):IV) ((a6,a7):IV) ((a8,a9):IV) ((a10,a11):IV):=(tl3 _ _ _).2.1
theorem Tk (a0 a1 a2 a3 a4 a5 a6 a7 a8 a9 a10 a11:Int):(vtB a0 a1 a2 a3 a4 a5 a6 a7 a8 a9 a10 a11).getD 2 0=0:=(tl3 _ _ _).2.2
def af:List Nd:=[
 .arg 0,
 .arg 1,
 .arg 2,
 .arg 3,
 .arg 4,
 .app 20 0 [],
 .ite (.n 5) (.c 0) (.c 1),
 .ite (.n 6) (.c 0) (.c 1),
 .wrap .i64 (.n 0),
 .bin .rem .i64 (.n 8) (.c 21600000),
 .wrap .i64 (.n 1),
 .bin .rem .i64 (.n 10) (.c 21600000),
 .app 101 0 [.n 9,.n 9,.n 11,.n 11],
 .app 101 1 [.n 9,.n 9,.n 11,.n 11],
 .app 101 2 [.n 9,.n 9,.n 11,.n 11],
 .app 101 3 [.n 9,.n 9,.n 11,.n 11],
 .app 101 4 [.n 9,.n 9,.n 11,.n 11],
 .app 101 5 [.n 9,.n 9,.n 11,.n 11],
 .app 101 6 [.n 9,.n 9,.n 11,.n 11],
 .bin .eql .i64 (.n 18) (.c 0),
 .wrap .i64 (.n 2),
 .bin .rem .i64 (.n 20) (.c 21600000),
 .wrap .i64 (.n 3),
 .bin .rem .i64 (.n 22) (.c 21600000),
 .app 101 0 [.n 21,.n 21,.n 23,.n 23],
 .app 101 1 [.n 21,.n 21,.n 23,.n 23],
 .app 101 2 [.n 21,.n 21,.n 23,.n 23],
 .app 101 3 [.n 21,.n 21,.n 23,.n 23],
 .app 101 4 [.n 21,.n 21,.n 23,.n 23],
 .app 101 5 [.n 21,.n 21,.n 23,.n 23],
 .app 101 6 [.n 21,.n 21,.n 23,.n 23],
 .bin .eql .i64 (.n 30) (.c 0),
 .wrap .i64 (.n 4),
 .bin .rem .i64 (.n 32) (.c 21600000),
 .app 107 0 [.n 12,.n 13,.n 14,.n 15,.n 16,.n 17,.n 33,.n 33],
 .app 107 1 [.n 12,.n 13,.n 14,.n 15,.n 16,.n 17,.n 33,.n 33],
 .app 107 2 [.n 12,.n 13,.n 14,.n 15,.n 16,.n 17,.n 33,.n 33],
 .app 107 3 [.n 12,.n 13,.n 14,.n 15,.n 16,.n 17,.n 33,.n 33],
 .app 107 4 [.n 12,.n 13,.n 14,.n 15,.n 16,.n 17,.n 33,.n 33],
 .app 107 5 [.n 12,.n 13,.n 14,.n 15,.n 16,.n 17,.n 33,.n 33],
 .app 107 6 [.n 12,.n 13,.n 14,.n 15,.n 16,.n 17,.n 33,.n 33],
 .app 107 0 [.n 24,.n 25,.n 26,.n 27,.n 28,.n 29,.n 33,.n 33],
 .app 107 1 [.n 24,.n 25,.n 26,.n 27,.n 28,.n 29,.n 33,.n 33],
 .app 107 2 [.n 24,.n 25,.n 26,.n 27,.n 28,.n 29,.n 33,.n 33],
 .app 107 3 [.n 24,.n 25,.n 26,.n 27,.n 28,.n 29,.n 33,.n 33],
 .app 107 4 [.n 24,.n 25,.n 26,.n 27,.n 28,.n 29,.n 33,.n 33],
 .app 107 5 [.n 24,.n 25,.n 26,.n 27,.n 28,.n 29,.n 33,.n 33],
 .app 107 6 [.n 24,.n 25,.n 26,.n 27,.n 28,.n 29,.n 33,.n 33],
 .ite (.n 19) (.c 0) (.c 1),
 .ite (.n 31) (.c 0) (.c 1),
 .ite (.n 48) (.c 1) (.n 49),
 .bin .neq .i64 (.n 40) (.c 0),
 .ite (.n 50) (.c 1) (.n 51),
 .bin .neq .i64 (.n 47) (.c 0),
 .ite (.n 52) (.c 1) (.n 53),
 .ite (.n 54) (.c 0) (.c 1),
 .app 104 0 [.n 12,.n 13,.n 14,.n 15,.n 16,.n 17,.n 24,.n 25,.n 26,.n 27,.n 28,.n 29],
 .app 104 1 [.n 12,.n 13,.n 14,.n 15,.n 16,.n 17,.n 24,.n 25,.n 26,.n 27,.n 28,.n 29],
 .app 104 2 [.n 12,.n 13,.n 14,.n 15,.n 16,.n 17,.n 24,.n 25,.n 26,.n 27,.n 28,.n 29],
 .app 104 0 [.n 34,.n 35,.n 36,.n 37,.n 38,.n 39,.n 41,.n 42,.n 43,.n 44,.n 45,.n 46],
 .app 104 1 [.n 34,.n 35,.n 36,.n 37,.n 38,.n 39,.n 41,.n 42,.n 43,.n 44,.n 45,.n 46],
 .app 104 2 [.n 34,.n 35,.n 36,.n 37,.n 38,.n 39,.n 41,.n 42,.n 43,.n 44,.n 45,.n 46],
 .bin .neq .i64 (.n 58) (.c 0),
 .bin .neq .i64 (.n 61) (.c 0),
 .ite (.n 62) (.c 1) (.n 63),
 .bin .gtr .i64 (.n 56) (.n 60),
 .ite (.n 64) (.c 1) (.n 65),
 .bin .gtr .i64 (.n 59) (.n 57),
 .ite (.n 66) (.c 1) (.n 67),
 .ite (.n 68) (.c 0) (.c 1),
 .bin .add .i64 (.n 11) (.n 33),
 .app 101 0 [.n 9,.n 9,.n 70,.n 70],
 .app 101 1 [.n 9,.n 9,.n 70,.n 70],
 .app 101 2 [.n 9,.n 9,.n 70,.n 70],
 .app 101 3 [.n 9,.n 9,.n 70,.n 70],
 .app 101 4 [.n 9,.n 9,.n 70,.n 70],
 .app 101 5 [.n 9,.n 9,.n 70,.n 70],
 .app 101 6 [.n 9,.n 9,.n 70,.n 70],
 .bin .neq .i64 (.n 77) (.c 0),
 .bin .leq .i64 (.n 71) (.n 35),
 .bin .leq .i64 (.n 34) (.n 72),
 .ite (.n 79) (.n 80) (.c 0),
 .ite (.n 81) (.c 0) (.c 1),
 .ite (.n 78) (.c 1) (.n 82),
 .bin .leq .i64 (.n 73) (.n 37),
 .bin .leq .i64 (.n 36) (.n 74),
 .ite (.n 84) (.n 85) (.c 0),
 .ite (.n 86) (.c 0) (.c 1),
 .ite (.n 83) (.c 1) (.n 87),
 .bin .leq .i64 (.n 75) (.n 39),
 .bin .leq .i64 (.n 38) (.n 76),
 .ite (.n 89) (.n 90) (.c 0),
 .ite (.n 91) (.c 0) (.c 1),
 .ite (.n 88) (.c 1) (.n 92),
 .ite (.n 93) (.c 0) (.c 1),
 .app 101 0 [.n 21,.n 21,.n 11,.n 11],
 .app 101 1 [.n 21,.n 21,.n 11,.n 11],
 .app 101 2 [.n 21,.n 21,.n 11,.n 11],
 .app 101 3 [.n 21,.n 21,.n 11,.n 11],
 .app 101 4 [.n 21,.n 21,.n 11,.n 11],
 .app 101 5 [.n 21,.n 21,.n 11,.n 11],
 .app 101 6 [.n 21,.n 21,.n 11,.n 11],
 .bin .eql .i64 (.n 101) (.c 0),
 .app 104 0 [.n 12,.n 13,.n 14,.n 15,.n 16,.n 17,.n 95,.n 96,.n 97,.n 98,.n 99,.n 100],
 .app 104 1 [.n 12,.n 13,.n 14,.n 15,.n 16,.n 17,.n 95,.n 96,.n 97,.n 98,.n 99,.n 100],
 .app 104 2 [.n 12,.n 13,.n 14,.n 15,.n 16,.n 17,.n 95,.n 96,.n 97,.n 98,.n 99,.n 100],
 .bin .sub .i64 (.n 9) (.n 21),
 .bin .rem .i64 (.n 106) (.c 21600000),
 .bin .lss .i64 (.n 107) (.c 0),
 .bin .sub .i64 (.c 0) (.n 107),
 .ite (.n 108) (.c 0) (.c 1),
 .ite (.n 108) (.n 109) (.n 107),
 .bin .sub .i64 (.c 21600000) (.n 111),
 .mn (.n 111) (.n 112),
 .bin .eql .i64 (.n 105) (.c 0),
 .ite (.n 102) (.n 114) (.c 0),
 .bin .leq .i64 (.n 103) (.n 113),
 .ite (.n 115) (.n 116) (.c 0),
 .bin .leq .i64 (.n 113) (.n 104),
 .ite (.n 117) (.n 118) (.c 0),
 .ite (.n 93) (.c 0) (.n 119),
 .ite (.n 68) (.c 0) (.n 120),
 .ite (.n 54) (.c 0) (.n 121),
 .ite (.n 6) (.c 0) (.n 122)]
def Ta:List Vc:=[
 ⟨[],.pre 20 []⟩,
 ⟨[(.n 7,true)],.pre 101 [.n 9,.n 9,.n 11,.n 11]⟩,
 ⟨[(.n 7,true)],.pre 101 [.n 21,.n 21,.n 23,.n 23]⟩,
 ⟨[(.n 7,true)],.pre 107 [.n 12,.n 13,.n 14,.n 15,.n 16,.n 17,.n 33,.n 33]⟩,
 ⟨[(.n 7,true)],.pre 107 [.n 24,.n 25,.n 26,.n 27,.n 28,.n 29,.n 33,.n 33]⟩,
 ⟨[(.n 55,true),(.n 7,true)],.pre 104 [.n 12,.n 13,.n 14,.n 15,.n 16,.n 17,.n 24,.n 25,.n 26,.n 27,.n 28,.n 29]⟩,
 ⟨[(.n 55,true),(.n 7,true)],.pre 104 [.n 34,.n 35,.n 36,.n 37,.n 38,.n 39,.n 41,.n 42,.n 43,.n 44,.n 45,.n 46]⟩,
 ⟨[(.n 69,true),(.n 55,true),(.n 7,true)],.pre 101 [.n 9,.n 9,.n 70,.n 70]⟩,
 ⟨[(.n 94,true),(.n 69,true),(.n 55,true),(.n 7,true)],.pre 101 [.n 21,.n 21,.n 11,.n 11]⟩,
 ⟨[(.n 94,true),(.n 69,true),(.n 55,true),(.n 7,true)],.pre 104 [.n 12,.n 13,.n 14,.n 15,.n 16,.n 17,.n 95,.n 96,.n 97,.n 98,.n 99,.n 100]⟩]
theorem Uo:whole Try.prog Um 20 40 3 [(false,[some .i32]),(false,[some .i32]),(false,[some .i32]),(false,[some .i32]),(false,[some .i32])]=some (.p (.c (.bool (.n 123))),⟨af.reverse,Ta.reverse⟩):=by kernel_rfl
theorem Uq:wfN af.reverse=true:=by kernel_rfl
theorem VJ {ar:List Int} {v:Nat->Int} (hs:aI (ax ar) v af.reverse):v 9=Int.tmod (v 8) 21600000:=aj hs 9 rfl
theorem UT {ar:List Int} {v:Nat->Int} (hs:aI (ax ar) v af.reverse):v 11=Int.tmod (v 10) 21600000:=aj hs 11 rfl
theorem Vi {ar:List Int} {v:Nat->Int} (hs:aI (ax ar) v af.reverse):v 21=Int.tmod (v 20) 21600000:=aj hs 21 rfl
theorem Ve {ar:List Int} {v:Nat->Int} (hs:aI (ax ar) v af.reverse):v 23=Int.tmod (v 22) 21600000:=aj hs 23 rfl
theorem Vh {ar:List Int} {v:Nat->Int} (hs:aI (ax ar) v af.reverse):v 33=Int.tmod (v 32) 21600000:=aj hs 33 rfl
theorem Uy {ar:List Int} {v:Nat->Int} (hs:aI (ax ar) v af.reverse):v 70=IntKind.i64.wrap (v 11+v 33):=aj hs 70 rfl
theorem VC {ar:List Int} {v:Nat->Int} (hs:aI (ax ar) v af.reverse):v 12=(uM (uC (v 9) (v 9)) (uC (v 11) (v 11))).1:=(show v 12=(vtO (v 9) (v 9) (v 11) (v 11)).getD 0 0 from aj hs 12 rfl).trans (SE _ _ _ _)
theorem Vj {ar:List Int} {v:Nat->Int} (hs:aI (ax ar) v af.reverse):v 13=(uM (uC (v 9) (v 9)) (uC (v 11) (v 11))).2:=(show v 13=(vtO (v 9) (v 9) (v 11) (v 11)).getD 1 0 from aj hs 13 rfl).trans (SH _ _ _ _)
theorem UC {ar:List Int} {v:Nat->Int} (hs:aI (ax ar) v af.reverse):v 14=(uM (uC (v 9) (v 9)) (uS (v 11) (v 11))).1:=(show v 14=(vtO (v 9) (v 9) (v 11) (v 11)).getD 2 0 from aj hs 14 rfl).trans (Sy _ _ _ _)
theorem Vq {ar:List Int} {v:Nat->Int} (hs:aI (ax ar) v af.reverse):v 15=(uM (uC (v 9) (v 9)) (uS (v 11) (v 11))).2:=(show v 15=(vtO (v 9) (v 9) (v 11) (v 11)).getD 3 0 from aj hs 15 rfl).trans (SB _ _ _ _)
theorem TH {ar:List Int} {v:Nat->Int} (hs:aI (ax ar) v af.reverse):v 16=(uS (v 9) (v 9)).1:=(show v 16=(vtO (v 9) (v 9) (v 11) (v 11)).getD 4 0 from aj hs 16 rfl).trans (SG _ _ _ _)
theorem TT {ar:List Int} {v:Nat->Int} (hs:aI (ax ar) v af.reverse):v 17=(uS (v 9) (v 9)).2:=(show v 17=(vtO (v 9) (v 9) (v 11) (v 11)).getD 5 0 from aj hs 17 rfl).trans (SF _ _ _ _)
theorem VD {ar:List Int} {v:Nat->Int} (hs:aI (ax ar) v af.reverse):v 18=0:=(show v 18=(vtO (v 9) (v 9) (v 11) (v 11)).getD 6 0 from aj hs 18 rfl).trans (Sz _ _ _ _)
theorem VI {ar:List Int} {v:Nat->Int} (hs:aI (ax ar) v af.reverse):v 24=(uM (uC (v 21) (v 21)) (uC (v 23) (v 23))).1:=(show v 24=(vtO (v 21) (v 21) (v 23) (v 23)).getD 0 0 from aj hs 24 rfl).trans (SE _ _ _ _)
theorem UV {ar:List Int} {v:Nat->Int} (hs:aI (ax ar) v af.reverse):v 25=(uM (uC (v 21) (v 21)) (uC (v 23) (v 23))).2:=(show v 25=(vtO (v 21) (v 21) (v 23) (v 23)).getD 1 0 from aj hs 25 rfl).trans (SH _ _ _ _)
theorem VA {ar:List Int} {v:Nat->Int} (hs:aI (ax ar) v af.reverse):v 26=(uM (uC (v 21) (v 21)) (uS (v 23) (v 23))).1:=(show v 26=(vtO (v 21) (v 21) (v 23) (v 23)).getD 2 0 from aj hs 26 rfl).trans (Sy _ _ _ _)
theorem UF {ar:List Int} {v:Nat->Int} (hs:aI (ax ar) v af.reverse):v 27=(uM (uC (v 21) (v 21)) (uS (v 23) (v 23))).2:=(show v 27=(vtO (v 21) (v 21) (v 23) (v 23)).getD 3 0 from aj hs 27 rfl).trans (SB _ _ _ _)
theorem UM {ar:List Int} {v:Nat->Int} (hs:aI (ax ar) v af.reverse):v 28=(uS (v 21) (v 21)).1:=(show v 28=(vtO (v 21) (v 21) (v 23) (v 23)).getD 4 0 from aj hs 28 rfl).trans (SG _ _ _ _)
theorem VB {ar:List Int} {v:Nat->Int} (hs:aI (ax ar) v af.reverse):v 29=(uS (v 21) (v 21)).2:=(show v 29=(vtO (v 21) (v 21) (v 23) (v 23)).getD 5 0 from aj hs 29 rfl).trans (SF _ _ _ _)
theorem Vd {ar:List Int} {v:Nat->Int} (hs:aI (ax ar) v af.reverse):v 30=0:=(show v 30=(vtO (v 21) (v 21) (v 23) (v 23)).getD 6 0 from aj hs 30 rfl).trans (Sz _ _ _ _)
theorem Vy {ar:List Int} {v:Nat->Int} (hs:aI (ax ar) v af.reverse):v 71=(uM (uC (v 9) (v 9)) (uC (v 70) (v 70))).1:=(show v 71=(vtO (v 9) (v 9) (v 70) (v 70)).getD 0 0 from aj hs 71 rfl).trans (SE _ _ _ _)
theorem UE {ar:List Int} {v:Nat->Int} (hs:aI (ax ar) v af.reverse):v 72=(uM (uC (v 9) (v 9)) (uC (v 70) (v 70))).2:=(show v 72=(vtO (v 9) (v 9) (v 70) (v 70)).getD 1 0 from aj hs 72 rfl).trans (SH _ _ _ _)
theorem UX {ar:List Int} {v:Nat->Int} (hs:aI (ax ar) v af.reverse):v 73=(uM (uC (v 9) (v 9)) (uS (v 70) (v 70))).1:=(show v 73=(vtO (v 9) (v 9) (v 70) (v 70)).getD 2 0 from aj hs 73 rfl).trans (Sy _ _ _ _)
theorem UN {ar:List Int} {v:Nat->Int} (hs:aI (ax ar) v af.reverse):v 74=(uM (uC (v 9) (v 9)) (uS (v 70) (v 70))).2:=(show v 74=(vtO (v 9) (v 9) (v 70) (v 70)).getD 3 0 from aj hs 74 rfl).trans (SB _ _ _ _)
theorem TE {ar:List Int} {v:Nat->Int} (hs:aI (ax ar) v af.reverse):v 75=(uS (v 9) (v 9)).1:=(show v 75=(vtO (v 9) (v 9) (v 70) (v 70)).getD 4 0 from aj hs 75 rfl).trans (SG _ _ _ _)
theorem TR {ar:List Int} {v:Nat->Int} (hs:aI (ax ar) v af.reverse):v 76=(uS (v 9) (v 9)).2:=(show v 76=(vtO (v 9) (v 9) (v 70) (v 70)).getD 5 0 from aj hs 76 rfl).trans (SF _ _ _ _)
theorem U6 {ar:List Int} {v:Nat->Int} (hs:aI (ax ar) v af.reverse):v 77=0:=(show v 77=(vtO (v 9) (v 9) (v 70) (v 70)).getD 6 0 from aj hs 77 rfl).trans (Sz _ _ _ _)
theorem Vm {ar:List Int} {v:Nat->Int} (hs:aI (ax ar) v af.reverse):v 95=(uM (uC (v 21) (v 21)) (uC (v 11) (v 11))).1:=(show v 95=(vtO (v 21) (v 21) (v 11) (v 11)).getD 0 0 from aj hs 95 rfl).trans (SE _ _ _ _)
theorem UU {ar:List Int} {v:Nat->Int} (hs:aI (ax ar) v af.reverse):v 96=(uM (uC (v 21) (v 21)) (uC (v 11) (v 11))).2:=(show v 96=(vtO (v 21) (v 21) (v 11) (v 11)).getD 1 0 from aj hs 96 rfl).trans (SH _ _ _ _)
theorem Vl {ar:List Int} {v:Nat->Int} (hs:aI (ax ar) v af.reverse):v 97=(uM (uC (v 21) (v 21)) (uS (v 11) (v 11))).1:=(show v 97=(vtO (v 21) (v 21) (v 11) (v 11)).getD 2 0 from aj hs 97 rfl).trans (Sy _ _ _ _)
theorem UJ {ar:List Int} {v:Nat->Int} (hs:aI (ax ar) v af.reverse):v 98=(uM (uC (v 21) (v 21)) (uS (v 11) (v 11))).2:=(show v 98=(vtO (v 21) (v 21) (v 11) (v 11)).getD 3 0 from aj hs 98 rfl).trans (SB _ _ _ _)
theorem Uz {ar:List Int} {v:Nat->Int} (hs:aI (ax ar) v af.reverse):v 99=(uS (v 21) (v 21)).1:=(show v 99=(vtO (v 21) (v 21) (v 11) (v 11)).getD 4 0 from aj hs 99 rfl).trans (SG _ _ _ _)
theorem Ul {ar:List Int} {v:Nat->Int} (hs:aI (ax ar) v af.reverse):v 100=(uS (v 21) (v 21)).2:=(show v 100=(vtO (v 21) (v 21) (v 11) (v 11)).getD 5 0 from aj hs 100 rfl).trans (SF _ _ _ _)
theorem Ui {ar:List Int} {v:Nat->Int} (hs:aI (ax ar) v af.reverse):v 101=0:=(show v 101=(vtO (v 21) (v 21) (v 11) (v 11)).getD 6 0 from aj hs 101 rfl).trans (Sz _ _ _ _)
theorem VF {ar:List Int} {v:Nat->Int} (hs:aI (ax ar) v af.reverse):v 34=(roX ((v 12,v 13):IV) ((v 14,v 15):IV) (v 33) (v 33)).1:=(show v 34=(vtR (v 12) (v 13) (v 14) (v 15) (v 16) (v 17) (v 33) (v 33)).getD 0 0 from aj hs 34 rfl).trans (TG _ _ _ _ _ _ _ _)
theorem U7 {ar:List Int} {v:Nat->Int} (hs:aI (ax ar) v af.reverse):v 35=(roX ((v 12,v 13):IV) ((v 14,v 15):IV) (v 33) (v 33)).2:=(show v 35=(vtR (v 12) (v 13) (v 14) (v 15) (v 16) (v 17) (v 33) (v 33)).getD 1 0 from aj hs 35 rfl).trans (TK _ _ _ _ _ _ _ _)
theorem Vs {ar:List Int} {v:Nat->Int} (hs:aI (ax ar) v af.reverse):v 36=(roY ((v 12,v 13):IV) ((v 14,v 15):IV) (v 33) (v 33)).1:=(show v 36=(vtR (v 12) (v 13) (v 14) (v 15) (v 16) (v 17) (v 33) (v 33)).getD 2 0 from aj hs 36 rfl).trans (TN _ _ _ _ _ _ _ _)
theorem U9 {ar:List Int} {v:Nat->Int} (hs:aI (ax ar) v af.reverse):v 37=(roY ((v 12,v 13):IV) ((v 14,v 15):IV) (v 33) (v 33)).2:=(show v 37=(vtR (v 12) (v 13) (v 14) (v 15) (v 16) (v 17) (v 33) (v 33)).getD 3 0 from aj hs 37 rfl).trans (TL _ _ _ _ _ _ _ _)
theorem Vp {ar:List Int} {v:Nat->Int} (hs:aI (ax ar) v af.reverse):v 38=(v 16):=(show v 38=(vtR (v 12) (v 13) (v 14) (v 15) (v 16) (v 17) (v 33) (v 33)).getD 4 0 from aj hs 38 rfl).trans (TP _ _ _ _ _ _ _ _)
theorem VG {ar:List Int} {v:Nat->Int} (hs:aI (ax ar) v af.reverse):v 39=(v 17):=(show v 39=(vtR (v 12) (v 13) (v 14) (v 15) (v 16) (v 17) (v 33) (v 33)).getD 5 0 from aj hs 39 rfl).trans (TC _ _ _ _ _ _ _ _)
theorem Vg {ar:List Int} {v:Nat->Int} (hs:aI (ax ar) v af.reverse):v 40=0:=(show v 40=(vtR (v 12) (v 13) (v 14) (v 15) (v 16) (v 17) (v 33) (v 33)).getD 6 0 from aj hs 40 rfl).trans (TI _ _ _ _ _ _ _ _)
theorem Vv {ar:List Int} {v:Nat->Int} (hs:aI (ax ar) v af.reverse):v 41=(roX ((v 24,v 25):IV) ((v 26,v 27):IV) (v 33) (v 33)).1:=(show v 41=(vtR (v 24) (v 25) (v 26) (v 27) (v 28) (v 29) (v 33) (v 33)).getD 0 0 from aj hs 41 rfl).trans (TG _ _ _ _ _ _ _ _)
theorem UR {ar:List Int} {v:Nat->Int} (hs:aI (ax ar) v af.reverse):v 42=(roX ((v 24,v 25):IV) ((v 26,v 27):IV) (v 33) (v 33)).2:=(show v 42=(vtR (v 24) (v 25) (v 26) (v 27) (v 28) (v 29) (v 33) (v 33)).getD 1 0 from aj hs 42 rfl).trans (TK _ _ _ _ _ _ _ _)
theorem Va {ar:List Int} {v:Nat->Int} (hs:aI (ax ar) v af.reverse):v 43=(roY ((v 24,v 25):IV) ((v 26,v 27):IV) (v 33) (v 33)).1:=(show v 43=(vtR (v 24) (v 25) (v 26) (v 27) (v 28) (v 29) (v 33) (v 33)).getD 2 0 from aj hs 43 rfl).trans (TN _ _ _ _ _ _ _ _)
theorem Vn {ar:List Int} {v:Nat->Int} (hs:aI (ax ar) v af.reverse):v 44=(roY ((v 24,v 25):IV) ((v 26,v 27):IV) (v 33) (v 33)).2:=(show v 44=(vtR (v 24) (v 25) (v 26) (v 27) (v 28) (v 29) (v 33) (v 33)).getD 3 0 from aj hs 44 rfl).trans (TL _ _ _ _ _ _ _ _)
theorem UH {ar:List Int} {v:Nat->Int} (hs:aI (ax ar) v af.reverse):v 45=(v 28):=(show v 45=(vtR (v 24) (v 25) (v 26) (v 27) (v 28) (v 29) (v 33) (v 33)).getD 4 0 from aj hs 45 rfl).trans (TP _ _ _ _ _ _ _ _)
theorem U8 {ar:List Int} {v:Nat->Int} (hs:aI (ax ar) v af.reverse):v 46=(v 29):=(show v 46=(vtR (v 24) (v 25) (v 26) (v 27) (v 28) (v 29) (v 33) (v 33)).getD 5 0 from aj hs 46 rfl).trans (TC _ _ _ _ _ _ _ _)
theorem UW {ar:List Int} {v:Nat->Int} (hs:aI (ax ar) v af.reverse):v 47=0:=(show v 47=(vtR (v 24) (v 25) (v 26) (v 27) (v 28) (v 29) (v 33) (v 33)).getD 6 0 from aj hs 47 rfl).trans (TI _ _ _ _ _ _ _ _)
theorem UL {ar:List Int} {v:Nat->Int} (hs:aI (ax ar) v af.reverse):v 56=btL ((v 12,v 13):IV) ((v 14,v 15):IV) ((v 16,v 17):IV) ((v 24,v 25):IV) ((v 26,v 27):IV) ((v 28,v 29):IV):=(show v 56=(vtB (v 12) (v 13) (v 14) (v 15) (v 16) (v 17) (v 24) (v 25) (v 26) (v 27) (v 28) (v 29)).getD 0 0 from aj hs 56 rfl).trans (S9 _ _ _ _ _ _ _ _ _ _ _ _)
theorem Vo {ar:List Int} {v:Nat->Int} (hs:aI (ax ar) v af.reverse):v 57=btH ((v 12,v 13):IV) ((v 14,v 15):IV) ((v 16,v 17):IV) ((v 24,v 25):IV) ((v 26,v 27):IV) ((v 28,v 29):IV):=(show v 57=(vtB (v 12) (v 13) (v 14) (v 15) (v 16) (v 17) (v 24) (v 25) (v 26) (v 27) (v 28) (v 29)).getD 1 0 from aj hs 57 rfl).trans (Tp _ _ _ _ _ _ _ _ _ _ _ _)
theorem Vx {ar:List Int} {v:Nat->Int} (hs:aI (ax ar) v af.reverse):v 58=0:=(show v 58=(vtB (v 12) (v 13) (v 14) (v 15) (v 16) (v 17) (v 24) (v 25) (v 26) (v 27) (v 28) (v 29)).getD 2 0 from aj hs 58 rfl).trans (Tk _ _ _ _ _ _ _ _ _ _ _ _)
theorem UK {ar:List Int} {v:Nat->Int} (hs:aI (ax ar) v af.reverse):v 59=btL ((v 34,v 35):IV) ((v 36,v 37):IV) ((v 38,v 39):IV) ((v 41,v 42):IV) ((v 43,v 44):IV) ((v 45,v 46):IV):=(show v 59=(vtB (v 34) (v 35) (v 36) (v 37) (v 38) (v 39) (v 41) (v 42) (v 43) (v 44) (v 45) (v 46)).getD 0 0 from aj hs 59 rfl).trans (S9 _ _ _ _ _ _ _ _ _ _ _ _)
theorem UY {ar:List Int} {v:Nat->Int} (hs:aI (ax ar) v af.reverse):v 60=btH ((v 34,v 35):IV) ((v 36,v 37):IV) ((v 38,v 39):IV) ((v 41,v 42):IV) ((v 43,v 44):IV) ((v 45,v 46):IV):=(show v 60=(vtB (v 34) (v 35) (v 36) (v 37) (v 38) (v 39) (v 41) (v 42) (v 43) (v 44) (v 45) (v 46)).getD 1 0 from aj hs 60 rfl).trans (Tp _ _ _ _ _ _ _ _ _ _ _ _)
theorem UQ {ar:List Int} {v:Nat->Int} (hs:aI (ax ar) v af.reverse):v 61=0:=(show v 61=(vtB (v 34) (v 35) (v 36) (v 37) (v 38) (v 39) (v 41) (v 42) (v 43) (v 44) (v 45) (v 46)).getD 2 0 from aj hs 61 rfl).trans (Tk _ _ _ _ _ _ _ _ _ _ _ _)
theorem Uu {ar:List Int} {v:Nat->Int} (hs:aI (ax ar) v af.reverse):v 103=btL ((v 12,v 13):IV) ((v 14,v 15):IV) ((v 16,v 17):IV) ((v 95,v 96):IV) ((v 97,v 98):IV) ((v 99,v 100):IV):=(show v 103=(vtB (v 12) (v 13) (v 14) (v 15) (v 16) (v 17) (v 95) (v 96) (v 97) (v 98) (v 99) (v 100)).getD 0 0 from aj hs 103 rfl).trans (S9 _ _ _ _ _ _ _ _ _ _ _ _)
theorem Ux {ar:List Int} {v:Nat->Int} (hs:aI (ax ar) v af.reverse):v 104=btH ((v 12,v 13):IV) ((v 14,v 15):IV) ((v 16,v 17):IV) ((v 95,v 96):IV) ((v 97,v 98):IV) ((v 99,v 100):IV):=(show v 104=(vtB (v 12) (v 13) (v 14) (v 15) (v 16) (v 17) (v 95) (v 96) (v 97) (v 98) (v 99) (v 100)).getD 1 0 from aj hs 104 rfl).trans (Tp _ _ _ _ _ _ _ _ _ _ _ _)
theorem Uv {ar:List Int} {v:Nat->Int} (hs:aI (ax ar) v af.reverse):v 105=0:=(show v 105=(vtB (v 12) (v 13) (v 14) (v 15) (v 16) (v 17) (v 95) (v 96) (v 97) (v 98) (v 99) (v 100)).getD 2 0 from aj hs 105 rfl).trans (Tk _ _ _ _ _ _ _ _ _ _ _ _)
theorem Ua {ar:List Int} {v:Nat->Int} (hs:aI (ax ar) v af.reverse):v 106=IntKind.i64.wrap (v 9-v 21):=aj hs 106 rfl
theorem Ur {ar:List Int} {v:Nat->Int} (hs:aI (ax ar) v af.reverse):v 107=Int.tmod (v 106) 21600000:=aj hs 107 rfl
theorem Uk {ar:List Int} {v:Nat->Int} (hs:aI (ax ar) v af.reverse):v 108=b2i (decide (v 107<0)):=aj hs 108 rfl
theorem TW {ar:List Int} {v:Nat->Int} (hs:aI (ax ar) v af.reverse):v 109=IntKind.i64.wrap (0-v 107):=aj hs 109 rfl
theorem Ue {ar:List Int} {v:Nat->Int} (hs:aI (ax ar) v af.reverse):v 111=if v 108≠0 then v 109 else v 107:=aj hs 111 rfl
theorem TZ {ar:List Int} {v:Nat->Int} (hs:aI (ax ar) v af.reverse):v 112=IntKind.i64.wrap (21600000-v 111):=aj hs 112 rfl
theorem T9 {ar:List Int} {v:Nat->Int} (hs:aI (ax ar) v af.reverse):v 113=if v 112<v 111 then v 112 else v 111:=aj hs 113 rfl
theorem Ub {ar:List Int} {v:Nat->Int} (A9:dW (v 9) (v 9)=true) (A11:dW (v 11) (v 11)=true) (A21:dW (v 21) (v 21)=true) (A23:dW (v 23) (v 23)=true) (A70:dW (v 70) (v 70)=true) (Q1:vqR (v 12) (v 13) (v 14) (v 15) (v 16) (v 17) (v 33) (v 33)) (Q2:vqR (v 24) (v 25) (v 26) (v 27) (v 28) (v 29) (v 33) (v 33)) (B1:vqB (v 12) (v 13) (v 14) (v 15) (v 16) (v 17) (v 24) (v 25) (v 26) (v 27) (v 28) (v 29)) (B2:vqB (v 34) (v 35) (v 36) (v 37) (v 38) (v 39) (v 41) (v 42) (v 43) (v 44) (v 45) (v 46)) (B3:vqB (v 12) (v 13) (v 14) (v 15) (v 16) (v 17) (v 95) (v 96) (v 97) (v 98) (v 99) (v 100)):∀ c∈Ta,c.holds (ax ar) v :=
 dE (fun _=>trivial) (dE (fun _=>⟨A9,A11⟩) (dE (fun _=>⟨A21,A23⟩) (dE (fun _=>Q1) (dE (fun _=>Q2) (dE (fun _=>B1) (dE (fun _=>B2) (dE (fun _=>⟨A9,A70⟩) (dE (fun _=>⟨A21,A11⟩) (dE (fun _=>B3) (AA))))))))))
theorem UA {ar:List Int} {v:Nat->Int} (hs:aI (ax ar) v af.reverse):v 65=b2i (decide (v 56>v 60)):=aj hs 65 rfl
theorem UD {ar:List Int} {v:Nat->Int} (hs:aI (ax ar) v af.reverse):v 67=b2i (decide (v 59>v 57)):=aj hs 67 rfl
theorem UG {ar:List Int} {v:Nat->Int} (hs:aI (ax ar) v af.reverse):v 79=b2i (decide (v 71<=v 35)):=aj hs 79 rfl
theorem Vu {ar:List Int} {v:Nat->Int} (hs:aI (ax ar) v af.reverse):v 80=b2i (decide (v 34<=v 72)):=aj hs 80 rfl
theorem UO {ar:List Int} {v:Nat->Int} (hs:aI (ax ar) v af.reverse):v 84=b2i (decide (v 73<=v 37)):=aj hs 84 rfl
theorem VH {ar:List Int} {v:Nat->Int} (hs:aI (ax ar) v af.reverse):v 85=b2i (decide (v 36<=v 74)):=aj hs 85 rfl
theorem Vz {ar:List Int} {v:Nat->Int} (hs:aI (ax ar) v af.reverse):v 89=b2i (decide (v 75<=v 39)):=aj hs 89 rfl
theorem UI {ar:List Int} {v:Nat->Int} (hs:aI (ax ar) v af.reverse):v 90=b2i (decide (v 38<=v 76)):=aj hs 90 rfl
theorem Ud {ar:List Int} {v:Nat->Int} (hs:aI (ax ar) v af.reverse):v 116=b2i (decide (v 103<=v 113)):=aj hs 116 rfl
theorem Us {ar:List Int} {v:Nat->Int} (hs:aI (ax ar) v af.reverse):v 118=b2i (decide (v 113<=v 104)):=aj hs 118 rfl
theorem Td {ar:List Int} {v:Nat->Int} (hs:aI (ax ar) v af.reverse) (k18:v 18=0) (k30:v 30=0) (k40:v 40=0) (k47:v 47=0) (k58:v 58=0) (k61:v 61=0) (k65:v 65=0) (k67:v 67=0) (k77:v 77=0) (k79:v 79=1) (k80:v 80=1) (k84:v 84=1) (k85:v 85=1) (k89:v 89=1) (k90:v 90=1) (k101:v 101=0) (k105:v 105=0) (k116:v 116=1) (k118:v 118=1):v 123=1:=by
 refine bv (X:=ax ar) (v:=v) (l:=af) (Tf _) hs (k:=123) (r:=.c 1) (ps:=[(18,.c 0),(30,.c 0),(40,.c 0),(47,.c 0),(58,.c 0),(61,.c 0),(65,.c 0),(67,.c 0),(77,.c 0),(79,.c 1),(80,.c 1),(84,.c 1),(85,.c 1),(89,.c 1),(90,.c 1),(101,.c 0),(105,.c 0),(116,.c 1),(118,.c 1)]) (nz:=[]) ?_ bM (by kernel_rfl)
 intro y hy;simp only [List.mem_cons,List.not_mem_nil,or_false] at hy;rcases hy with rfl|rfl|rfl|rfl|rfl|rfl|rfl|rfl|rfl|rfl|rfl|rfl|rfl|rfl|rfl|rfl|rfl|rfl|rfl<;>assumption
theorem Tm (a0 a1 a2 a3 a4:Int) (w:World):Calls Try.prog 3 #[.int .i32 a0,.int .i32 a1,.int .i32 a2,.int .i32 a3,.int .i32 a4] w fun e w'=>e=.returned (.bool true)/\Below w.heap.size w w':=by
 refine Sx.calls (X:=ax [a0,a1,a2,a3,a4]) iJ (Ty _) Uo Uq (fun v hs=>?_) w
 have b9:-21600000<v 9/\v 9<21600000:=by rw [(VJ hs)];exact Sn _
 have A9:dW (v 9) (v 9)=true:=(fw _ _).2 (by omega)
 have b11:-21600000<v 11/\v 11<21600000:=by rw [(UT hs)];exact Sn _
 have A11:dW (v 11) (v 11)=true:=(fw _ _).2 (by omega)
 have b21:-21600000<v 21/\v 21<21600000:=by rw [(Vi hs)];exact Sn _
 have A21:dW (v 21) (v 21)=true:=(fw _ _).2 (by omega)
 have b23:-21600000<v 23/\v 23<21600000:=by rw [(Ve hs)];exact Sn _
 have A23:dW (v 23) (v 23)=true:=(fw _ _).2 (by omega)
 have b33:-21600000<v 33/\v 33<21600000:=by rw [(Vh hs)];exact Sn _
 have A33:dW (v 33) (v 33)=true:=(fw _ _).2 (by omega)
 have e70:v 70=v 11+v 33:=by rw [(Uy hs),Go.IntWalk.i64_in _ (by omega)]
 have A70:dW (v 70) (v 70)=true:=(fw _ _).2 (by omega)
 have P12:((v 12,v 13):IV)=uM (uC (v 9) (v 9)) (uC (v 11) (v 11)):=nS (VC hs) (Vj hs);have P14:((v 14,v 15):IV)=uM (uC (v 9) (v 9)) (uS (v 11) (v 11)):=nS (UC hs) (Vq hs);have P16:((v 16,v 17):IV)=uS (v 9) (v 9):=nS (TH hs) (TT hs);have k18:v 18=0:=VD hs;have V12:=zU (v 9) (v 11);have P24:((v 24,v 25):IV)=uM (uC (v 21) (v 21)) (uC (v 23) (v 23)):=nS (VI hs) (UV hs);have P26:((v 26,v 27):IV)=uM (uC (v 21) (v 21)) (uS (v 23) (v 23)):=nS (VA hs) (UF hs);have P28:((v 28,v 29):IV)=uS (v 21) (v 21):=nS (UM hs) (VB hs);have k30:v 30=0:=Vd hs;have V24:=zU (v 21) (v 23);have P71:((v 71,v 72):IV)=uM (uC (v 9) (v 9)) (uC (v 70) (v 70)):=nS (Vy hs) (UE hs);have P73:((v 73,v 74):IV)=uM (uC (v 9) (v 9)) (uS (v 70) (v 70)):=nS (UX hs) (UN hs);have P75:((v 75,v 76):IV)=uS (v 9) (v 9):=nS (TE hs) (TR hs);have k77:v 77=0:=U6 hs;have V71:=zU (v 9) (v 70);have P95:((v 95,v 96):IV)=uM (uC (v 21) (v 21)) (uC (v 11) (v 11)):=nS (Vm hs) (UU hs);have P97:((v 97,v 98):IV)=uM (uC (v 21) (v 21)) (uS (v 11) (v 11)):=nS (Vl hs) (UJ hs);have P99:((v 99,v 100):IV)=uS (v 21) (v 21):=nS (Uz hs) (Ul hs);have k101:v 101=0:=Ui hs;have V95:=zU (v 21) (v 11);have TM:=SK (v 9) (v 11) (v 33);rw [<-P12,<-P14,<-P16] at V12;rw [<-P24,<-P26,<-P28] at V24;rw [<-P95,<-P97,<-P99] at V95;have P34:((v 34,v 35):IV)=roX ((v 12,v 13):IV) ((v 14,v 15):IV) (v 33) (v 33):=nS (VF hs) (U7 hs);have P36:((v 36,v 37):IV)=roY ((v 12,v 13):IV) ((v 14,v 15):IV) (v 33) (v 33):=nS (Vs hs) (U9 hs);have e38:v 38=v 16:=Vp hs;have e39:v 39=v 17:=VG hs;have k40:v 40=0:=Vg hs;have P38:((v 38,v 39):IV)=((v 16,v 17):IV):=by rw [e38,e39]
 have Q34:=Ti V12 (v 33);rw [<-P34,<-P36,<-P38] at Q34;have R34:VK ((v 34,v 35):IV) ((v 36,v 37):IV) ((v 38,v 39):IV) _ _ _:=Q34;have P41:((v 41,v 42):IV)=roX ((v 24,v 25):IV) ((v 26,v 27):IV) (v 33) (v 33):=nS (Vv hs) (UR hs);have P43:((v 43,v 44):IV)=roY ((v 24,v 25):IV) ((v 26,v 27):IV) (v 33) (v 33):=nS (Va hs) (Vn hs);have e45:v 45=v 28:=UH hs;have e46:v 46=v 29:=U8 hs;have k47:v 47=0:=UW hs;have P45:((v 45,v 46):IV)=((v 28,v 29):IV):=by rw [e45,e46]
 have Q41:=Ti V24 (v 33);rw [<-P41,<-P43,<-P45] at Q41;have R41:VK ((v 41,v 42):IV) ((v 43,v 44):IV) ((v 45,v 46):IV) _ _ _:=Q41;rw [<-P12,<-P14,<-e70,<-P71,<-P73,<-P34,<-P36] at TM;have e56:v 56=btL ((v 12,v 13):IV) ((v 14,v 15):IV) ((v 16,v 17):IV) ((v 24,v 25):IV) ((v 26,v 27):IV) ((v 28,v 29):IV):=UL hs;have e57:v 57=btH ((v 12,v 13):IV) ((v 14,v 15):IV) ((v 16,v 17):IV) ((v 24,v 25):IV) ((v 26,v 27):IV) ((v 28,v 29):IV):=Vo hs;have k58:v 58=0:=Vx hs;have e59:v 59=btL ((v 34,v 35):IV) ((v 36,v 37):IV) ((v 38,v 39):IV) ((v 41,v 42):IV) ((v 43,v 44):IV) ((v 45,v 46):IV):=UK hs;have e60:v 60=btH ((v 34,v 35):IV) ((v 36,v 37):IV) ((v 38,v 39):IV) ((v 41,v 42):IV) ((v 43,v 44):IV) ((v 45,v 46):IV):=UY hs;have k61:v 61=0:=UQ hs;have e103:v 103=btL ((v 12,v 13):IV) ((v 14,v 15):IV) ((v 16,v 17):IV) ((v 95,v 96):IV) ((v 97,v 98):IV) ((v 99,v 100):IV):=Uu hs;have e104:v 104=btH ((v 12,v 13):IV) ((v 14,v 15):IV) ((v 16,v 17):IV) ((v 95,v 96):IV) ((v 97,v 98):IV) ((v 99,v 100):IV):=Ux hs;have k105:v 105=0:=Uv hs;have SA:=Tt V12.cw V24.cw R34 R41 (TU (v 33));rw [<-e56,<-e57,<-e59,<-e60] at SA;have DF:=Tu b9 b21 (Ua hs) (Ur hs) (Uk hs) (TW hs) (Ue hs) (TZ hs) (T9 hs);have BD:=TA (v 9) (v 11) (v 21) (v 113) DF.1 DF.2 V12 V95;rw [<-e103,<-e104] at BD;have u16:v 16<=v 17:=V12.uz.2.1;have e75:v 75=v 16:=(TE hs).trans (TH hs).symm;have e76:v 76=v 17:=(TR hs).trans (TT hs).symm;have B1:vqB (v 12) (v 13) (v 14) (v 15) (v 16) (v 17) (v 24) (v 25) (v 26) (v 27) (v 28) (v 29):=⟨_,_,_,_,_,_,V12.cw,V24.cw⟩;have B2:vqB (v 34) (v 35) (v 36) (v 37) (v 38) (v 39) (v 41) (v 42) (v 43) (v 44) (v 45) (v 46):=⟨_,_,_,_,_,_,R34,R41⟩;have B3:vqB (v 12) (v 13) (v 14) (v 15) (v 16) (v 17) (v 95) (v 96) (v 97) (v 98) (v 99) (v 100):=⟨_,_,_,_,_,_,V12.cw,V95.cw⟩;have Q1:vqR (v 12) (v 13) (v 14) (v 15) (v 16) (v 17) (v 33) (v 33):=⟨⟨V12.ux,V12.uy,V12.uz⟩,A33⟩;have Q2:vqR (v 24) (v 25) (v 26) (v 27) (v 28) (v 29) (v 33) (v 33):=⟨⟨V24.ux,V24.uy,V24.uz⟩,A33⟩;refine ⟨Ag ?_,?_⟩
 . exact Ub A9 A11 A21 A23 A70 Q1 Q2 B1 B2 B3
 clear Q1 Q2 B1 B2 B3 V12 V24 V71 V95 R34 R41 DF;clear Q34 Q41 P38 P45 P12 P14 P16 P24 P26 P28 P71 P73 P75 P95 P97 P99 P34 P36 P41 P43 e56 e57 e59 e60 e103 e104;have k65:v 65=0:=by rw [(UA hs),decide_eq_false (by exact Int.not_lt.2 SA.1)];rfl
 have k67:v 67=0:=by rw [(UD hs),decide_eq_false (by exact Int.not_lt.2 SA.2)];rfl
 have k79:v 79=1:=by rw [(UG hs),decide_eq_true (by exact TM.1.1)];rfl
 have k80:v 80=1:=by rw [(Vu hs),decide_eq_true (by exact TM.1.2)];rfl
 have k84:v 84=1:=by rw [(UO hs),decide_eq_true (by exact TM.2.1)];rfl
 have k85:v 85=1:=by rw [(VH hs),decide_eq_true (by exact TM.2.2)];rfl
 have k89:v 89=1:=by rw [(Vz hs),decide_eq_true (by rw [e75,e39];exact u16)];rfl
 have k90:v 90=1:=by rw [(UI hs),decide_eq_true (by rw [e76,e38];exact u16)];rfl
 have k116:v 116=1:=by rw [(Ud hs),decide_eq_true (by exact BD.1)];rfl
 have k118:v 118=1:=by rw [(Us hs),decide_eq_true (by exact BD.2)];rfl
 intro x hx;have hx':x=.bool (decide (v 123≠0)):=hx;have hr:v 123=1:=(Td hs k18 k30 k40 k47 k58 k61 k65 k67 k77 k79 k80 k84 k85 k89 k90 k101 k105 k116 k118);rw [hx',hr];rfl
