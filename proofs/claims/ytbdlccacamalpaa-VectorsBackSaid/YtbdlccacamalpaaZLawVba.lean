/- The law VectorsBack. -/
import Derived.Test.YtbdlccacamalpaaZVbP
import Derived.Test.YtbdlccacamalpaaZVe3
import Derived.Test.YtbdlccacamalpaaZAwV
import Derived.Test.YtbdlccacamalpaaZEv
set_option linter.unusedVariables false
set_option linter.unusedSimpArgs false
set_option maxRecDepth 100000
set_option maxHeartbeats 8000000
namespace Go.Proofs.Ytbdlccacamalpaa
open Go.RowKit Alm Sx
def vbO (a b c d:Int):List Int:=[(uM (uC a b) (uC c d)).1,(uM (uC a b) (uC c d)).2,(uM (uC a b) (uS c d)).1,(uM (uC a b) (uS c d)).2,(uS a b).1,(uS a b).2,0]
def vbD (a0 a1 a2 a3 a4 a5 a6 a7 a8 a9 a10 a11:Int):List Int:=[(dtI ((a0,a1):IV) ((a2,a3):IV) ((a4,a5):IV) ((a6,a7):IV) ((a8,a9):IV) ((a10,a11):IV)).1,(dtI ((a0,a1):IV) ((a2,a3):IV) ((a4,a5):IV) ((a6,a7):IV) ((a8,a9):IV) ((a10,a11):IV)).2,0]
def vbL (a0 a1 a2 a3 a4 a5 a6 a7 a8 a9:Int):List Int:=[(loE ((a0,a1):IV) ((a2,a3):IV) a8 a9).1,(loE ((a0,a1):IV) ((a2,a3):IV) a8 a9).2,(loN ((a0,a1):IV) ((a2,a3):IV) ((a4,a5):IV) a6 a7 a8 a9).1,(loN ((a0,a1):IV) ((a2,a3):IV) ((a4,a5):IV) a6 a7 a8 a9).2,(loU ((a0,a1):IV) ((a2,a3):IV) ((a4,a5):IV) a6 a7 a8 a9).1,(loU ((a0,a1):IV) ((a2,a3):IV) ((a4,a5):IV) a6 a7 a8 a9).2,0]
def vbW (a0 a1 a2 a3 a4 a5:Int):List Int:=[slo (ay a4 a5 (hoI ((a0,a1):IV) ((a2,a3):IV)).1 (hoI ((a0,a1):IV) ((a2,a3):IV)).2),min (slo (ay a4 a5 (hoI ((a0,a1):IV) ((a2,a3):IV)).1 (hoI ((a0,a1):IV) ((a2,a3):IV)).2)+(aU a4 a5 (hoI ((a0,a1):IV) ((a2,a3):IV)).1 (hoI ((a0,a1):IV) ((a2,a3):IV)).2-ay a4 a5 (hoI ((a0,a1):IV) ((a2,a3):IV)).1 (hoI ((a0,a1):IV) ((a2,a3):IV)).2)) 5400000,(if aU a2 a3 a0 a1-ay a2 a3 a0 a1<21600000 then slo (ay a2 a3 a0 a1) else -10800000),(if aU a2 a3 a0 a1-ay a2 a3 a0 a1<21600000 then slo (ay a2 a3 a0 a1)+(aU a2 a3 a0 a1-ay a2 a3 a0 a1) else 10800000),0]
def vqD (a0 a1 a2 a3 a4 a5 a6 a7 a8 a9 a10 a11:Int):Prop:=(fxV a0 a1=true/\fxV a2 a3=true/\fxV a4 a5=true/\fxV a6 a7=true/\fxV a8 a9=true/\fxV a10 a11=true)/\er0 ((a0,a1):IV) ((a6,a7):IV)=0/\er0 ((a2,a3):IV) ((a8,a9):IV)=0/\er1 (uM ((a0,a1):IV) ((a6,a7):IV)) (uM ((a2,a3):IV) ((a8,a9):IV))=0/\er0 ((a4,a5):IV) ((a10,a11):IV)=0/\er1 (dt2 ((a0,a1):IV) ((a2,a3):IV) ((a6,a7):IV) ((a8,a9):IV)) (uM ((a4,a5):IV) ((a10,a11):IV))=0
def vqL (a0 a1 a2 a3 a4 a5 a6 a7 a8 a9:Int):Prop:=(U (a0,a1)/\U (a2,a3)/\U (a4,a5))/\(dW a6 a7=true/\dW a8 a9=true)/\(loF ((a0,a1):IV) ((a2,a3):IV) ((a4,a5):IV) a6 a7 a8 a9=0/\loG ((a0,a1):IV) ((a2,a3):IV) ((a4,a5):IV) a6 a7 a8 a9=0)
def vqW (a0 a1 a2 a3 a4 a5:Int):Prop:=(U (a0,a1)/\U (a2,a3)/\U (a4,a5))/\bY a4 a5 (hoI ((a0,a1):IV) ((a2,a3):IV)).1 (hoI ((a0,a1):IV) ((a2,a3):IV)).2=false
def kVb (f:Nat):Bool:=f==101 || (f==103 || (f==105 || f==106))
def PZ:Nat->List Int->List Int
 | 101,[a,b,c,d]=>vbO a b c d
 | 103,[a0,a1,a2,a3,a4,a5,a6,a7,a8,a9,a10,a11]=>vbD a0 a1 a2 a3 a4 a5 a6 a7 a8 a9 a10 a11
 | 105,[a0,a1,a2,a3,a4,a5,a6,a7,a8,a9]=>vbL a0 a1 a2 a3 a4 a5 a6 a7 a8 a9
 | 106,[a0,a1,a2,a3,a4,a5]=>vbW a0 a1 a2 a3 a4 a5
 | _,_=>[]
def Ql:Nat->List Int->Prop
 | 101,[a,b,c,d]=>dW a b=true/\dW c d=true
 | 103,[a0,a1,a2,a3,a4,a5,a6,a7,a8,a9,a10,a11]=>vqD a0 a1 a2 a3 a4 a5 a6 a7 a8 a9 a10 a11
 | 105,[a0,a1,a2,a3,a4,a5,a6,a7,a8,a9]=>vqL a0 a1 a2 a3 a4 a5 a6 a7 a8 a9
 | 106,[a0,a1,a2,a3,a4,a5]=>vqW a0 a1 a2 a3 a4 a5
 | _,_=>False
def aO (args:List Int):Cx:=(cxB args).plus kVb PZ Ql
theorem Kb (args:List Int):rH (aO args):=BV (Ei args) fun f h=>by
 unfold kVb;rcases h with h|rfl
 . simp;omega
 . rfl
def Oq:Sx.Spec:=⟨9,101,[(true,[some .i64,some .i64]),(true,[some .i64,some .i64])],[(true,[some .i64,some .i64,some .i64,some .i64,some .i64,some .i64]),(false,[some .i64])]⟩
def Ra:Sx.Spec:=⟨13,103,[(true,[some .i64,some .i64,some .i64,some .i64,some .i64,some .i64]),(true,[some .i64,some .i64,some .i64,some .i64,some .i64,some .i64])],[(true,[some .i64,some .i64]),(false,[some .i64])]⟩
def QR:Sx.Spec:=⟨14,105,[(true,[some .i64,some .i64,some .i64,some .i64,some .i64,some .i64]),(true,[some .i64,some .i64]),(true,[some .i64,some .i64])],[(true,[some .i64,some .i64,some .i64,some .i64,some .i64,some .i64]),(false,[some .i64])]⟩
def OV:Sx.Spec:=⟨12,106,[(true,[some .i64,some .i64,some .i64,some .i64,some .i64,some .i64])],[(true,[some .i64,some .i64,some .i64,some .i64]),(false,[some .i64])]⟩
theorem IU (args:List Int):bB Try.prog (aO args) Oq:=by
 refine ll rfl (ours _ _ _ Try.func9 rfl (by kernel_rfl)) fun xs hp w=>?_
 match xs,hp with
 | [a,b,c,d],hp=>exact Rh a b c d w hp.1 hp.2
theorem Gv (args:List Int):bB Try.prog (aO args) Ra:=by
 refine ll rfl (ours _ _ _ Try.func13 rfl (by kernel_rfl)) fun xs hp w=>?_
 match xs,hp with
 | [a0,a1,a2,a3,a4,a5,a6,a7,a8,a9,a10,a11],hp=>exact O7 a0 a1 a2 a3 a4 a5 a6 a7 a8 a9 a10 a11 w hp.1.1 hp.1.2.1 hp.1.2.2.1 hp.1.2.2.2.1 hp.1.2.2.2.2.1 hp.1.2.2.2.2.2 hp.2.1 hp.2.2.1 hp.2.2.2.1 hp.2.2.2.2.1 hp.2.2.2.2.2
theorem GN (args:List Int):bB Try.prog (aO args) QR:=by
 refine ll rfl (ours _ _ _ Try.func14 rfl (by kernel_rfl)) fun xs hp w=>?_
 match xs,hp with
 | [a0,a1,a2,a3,a4,a5,a6,a7,a8,a9],hp=>exact NK a0 a1 a2 a3 a4 a5 a6 a7 a8 a9 w hp.1.1 hp.1.2.1 hp.1.2.2 hp.2.1.1 hp.2.1.2 hp.2.2.1 hp.2.2.2
theorem IA (args:List Int):bB Try.prog (aO args) OV:=by
 refine ll rfl (ours _ _ _ Try.func12 rfl (by kernel_rfl)) fun xs hp w=>?_
 match xs,hp with
 | [a0,a1,a2,a3,a4,a5],hp=>exact Rt a0 a1 a2 a3 a4 a5 w hp.1.1 hp.1.2.1 hp.1.2.2 hp.2
def Mx:List Sx.Spec:=[Rc,Oq,Ra,QR,OV]
theorem Ie (args:List Int):∀ s∈Mx,bB Try.prog (aO args) s:=by
 intro s hs;simp only [Mx,List.mem_cons,List.not_mem_nil,or_false] at hs;rcases hs with rfl|rfl|rfl|rfl|rfl
 . exact Fy rfl (GD args)
 . exact IU args
 . exact Gv args
 . exact GN args
 . exact IA args
def Jo (t:Tab):Nd->Option Rf
 | .app 20 0 []=>some (.c 1)
 | x=>EO t x
theorem dF (args:List Int):lJ (aO args) Jo:=by
 intro v t x r ht h;unfold Jo at h;split at h
 . cases h;rfl
 . exact Am (Kb args) v t x r ht h
theorem wl7 (x0 x1 x2 x3 x4 x5 x6:Int):[x0,x1,x2,x3,x4,x5,x6].getD 0 0=x0/\[x0,x1,x2,x3,x4,x5,x6].getD 1 0=x1/\[x0,x1,x2,x3,x4,x5,x6].getD 2 0=x2/\[x0,x1,x2,x3,x4,x5,x6].getD 3 0=x3/\[x0,x1,x2,x3,x4,x5,x6].getD 4 0=x4/\[x0,x1,x2,x3,x4,x5,x6].getD 5 0=x5/\[x0,x1,x2,x3,x4,x5,x6].getD 6 0=x6:=⟨rfl,rfl,rfl,rfl,rfl,rfl,rfl⟩
theorem wl5 (x0 x1 x2 x3 x4:Int):[x0,x1,x2,x3,x4].getD 0 0=x0/\[x0,x1,x2,x3,x4].getD 1 0=x1/\[x0,x1,x2,x3,x4].getD 2 0=x2/\[x0,x1,x2,x3,x4].getD 3 0=x3/\[x0,x1,x2,x3,x4].getD 4 0=x4:=⟨rfl,rfl,rfl,rfl,rfl⟩
theorem wl3 (x0 x1 x2:Int):[x0,x1,x2].getD 0 0=x0/\[x0,x1,x2].getD 1 0=x1/\[x0,x1,x2].getD 2 0=x2:=⟨rfl,rfl,rfl⟩
theorem CG {p:IV} (h:U p):fxV p.1 p.2=true:=za h
theorem pV {a b:Int} {p:IV} (h1:a=p.1) (h2:b=p.2):((a,b):IV)=p:=Prod.ext h1 h2
theorem BU {l l':Int} (b:0<=l/\l<=21599999) (b':0<=l'/\l'<=21599999):(slo l'-slo l)%21600000=(l'-l)%21600000/\(-10800000<=slo l/\slo l<10800000):=by
 unfold slo;split<;>split<;>omega
theorem Gz {x r c u z:Int} (hx:-100000000<=x/\x<=100000000) (hr:r=Int.tmod x 21600000) (hc:c=b2i (decide (r<0))) (hu:u=IntKind.i64.wrap (r+21600000)) (hz:z=if c≠0 then u else r):z=x%21600000:=by
 have b1:=Int.tmod_lt_of_pos x (show (0:Int)<21600000 by omega)
 have b2:=Int.tmod_lt_of_pos (-x) (show (0:Int)<21600000 by omega)
 rw [Int.neg_tmod] at b2;rw [Go.IntWalk.i64_in _ (by omega)] at hu
 rw [hz,hc,jR,hu,hr];rw [Int.tmod_eq_emod] at *
 split<;>split<;>omega
theorem PW (a0 a1 a2 a3:Int):(vbO a0 a1 a2 a3).getD 0 0=(uM (uC a0 a1) (uC a2 a3)).1:=(wl7 _ _ _ _ _ _ _).1
theorem O5 (a0 a1 a2 a3:Int):(vbO a0 a1 a2 a3).getD 1 0=(uM (uC a0 a1) (uC a2 a3)).2:=(wl7 _ _ _ _ _ _ _).2.1
theorem NB (a0 a1 a2 a3:Int):(vbO a0 a1 a2 a3).getD 2 0=(uM (uC a0 a1) (uS a2 a3)).1:=(wl7 _ _ _ _ _ _ _).2.2.1
theorem P7 (a0 a1 a2 a3:Int):(vbO a0 a1 a2 a3).getD 3 0=(uM (uC a0 a1) (uS a2 a3)).2:=(wl7 _ _ _ _ _ _ _).2.2.2.1
theorem NR (a0 a1 a2 a3:Int):(vbO a0 a1 a2 a3).getD 4 0=(uS a0 a1).1:=(wl7 _ _ _ _ _ _ _).2.2.2.2.1
theorem Qg (a0 a1 a2 a3:Int):(vbO a0 a1 a2 a3).getD 5 0=(uS a0 a1).2:=(wl7 _ _ _ _ _ _ _).2.2.2.2.2.1
theorem Pq (a0 a1 a2 a3:Int):(vbO a0 a1 a2 a3).getD 6 0=0:=(wl7 _ _ _ _ _ _ _).2.2.2.2.2.2
theorem P5 (a0 a1 a2 a3 a4 a5 a6 a7 a8 a9 a10 a11:Int):(vbD a0 a1 a2 a3 a4 a5 a6 a7 a8 a9 a10 a11).getD 0 0=(dtI ((a0,a1):IV) ((a2,a3):IV) ((a4,a5):IV) ((a6,a7):IV) ((a8,a9):IV) ((a10,a11):IV)).1:=(wl3 _ _ _).1
theorem Oz (a0 a1 a2 a3 a4 a5 a6 a7 a8 a9 a10 a11:Int):(vbD a0 a1 a2 a3 a4 a5 a6 a7 a8 a9 a10 a11).getD 1 0=(dtI ((a0,a1):IV) ((a2,a3):IV) ((a4,a5):IV) ((a6,a7):IV) ((a8,a9):IV) ((a10,a11):IV)).2:=(wl3 _ _ _).2.1
theorem Ry (a0 a1 a2 a3 a4 a5 a6 a7 a8 a9 a10 a11:Int):(vbD a0 a1 a2 a3 a4 a5 a6 a7 a8 a9 a10 a11).getD 2 0=0:=(wl3 _ _ _).2.2
theorem Qh (a0 a1 a2 a3 a4 a5 a6 a7 a8 a9:Int):(vbL a0 a1 a2 a3 a4 a5 a6 a7 a8 a9).getD 0 0=(loE ((a0,a1):IV) ((a2,a3):IV) a8 a9).1:=(wl7 _ _ _ _ _ _ _).1
theorem NS (a0 a1 a2 a3 a4 a5 a6 a7 a8 a9:Int):(vbL a0 a1 a2 a3 a4 a5 a6 a7 a8 a9).getD 1 0=(loE ((a0,a1):IV) ((a2,a3):IV) a8 a9).2:=(wl7 _ _ _ _ _ _ _).2.1
theorem Po (a0 a1 a2 a3 a4 a5 a6 a7 a8 a9:Int):(vbL a0 a1 a2 a3 a4 a5 a6 a7 a8 a9).getD 2 0=(loN ((a0,a1):IV) ((a2,a3):IV) ((a4,a5):IV) a6 a7 a8 a9).1:=(wl7 _ _ _ _ _ _ _).2.2.1
theorem Nu (a0 a1 a2 a3 a4 a5 a6 a7 a8 a9:Int):(vbL a0 a1 a2 a3 a4 a5 a6 a7 a8 a9).getD 3 0=(loN ((a0,a1):IV) ((a2,a3):IV) ((a4,a5):IV) a6 a7 a8 a9).2:=(wl7 _ _ _ _ _ _ _).2.2.2.1
theorem M8 (a0 a1 a2 a3 a4 a5 a6 a7 a8 a9:Int):(vbL a0 a1 a2 a3 a4 a5 a6 a7 a8 a9).getD 4 0=(loU ((a0,a1):IV) ((a2,a3):IV) ((a4,a5):IV) a6 a7 a8 a9).1:=(wl7 _ _ _ _ _ _ _).2.2.2.2.1
theorem Oj (a0 a1 a2 a3 a4 a5 a6 a7 a8 a9:Int):(vbL a0 a1 a2 a3 a4 a5 a6 a7 a8 a9).getD 5 0=(loU ((a0,a1):IV) ((a2,a3):IV) ((a4,a5):IV) a6 a7 a8 a9).2:=(wl7 _ _ _ _ _ _ _).2.2.2.2.2.1
theorem O4 (a0 a1 a2 a3 a4 a5 a6 a7 a8 a9:Int):(vbL a0 a1 a2 a3 a4 a5 a6 a7 a8 a9).getD 6 0=0:=(wl7 _ _ _ _ _ _ _).2.2.2.2.2.2
theorem Nl (a0 a1 a2 a3 a4 a5:Int):(vbW a0 a1 a2 a3 a4 a5).getD 0 0=slo (ay a4 a5 (hoI ((a0,a1):IV) ((a2,a3):IV)).1 (hoI ((a0,a1):IV) ((a2,a3):IV)).2):=(wl5 _ _ _ _ _).1
theorem PI (a0 a1 a2 a3 a4 a5:Int):(vbW a0 a1 a2 a3 a4 a5).getD 1 0=min (slo (ay a4 a5 (hoI ((a0,a1):IV) ((a2,a3):IV)).1 (hoI ((a0,a1):IV) ((a2,a3):IV)).2)+(aU a4 a5 (hoI ((a0,a1):IV) ((a2,a3):IV)).1 (hoI ((a0,a1):IV) ((a2,a3):IV)).2-ay a4 a5 (hoI ((a0,a1):IV) ((a2,a3):IV)).1 (hoI ((a0,a1):IV) ((a2,a3):IV)).2)) 5400000:=(wl5 _ _ _ _ _).2.1
theorem Qy (a0 a1 a2 a3 a4 a5:Int):(vbW a0 a1 a2 a3 a4 a5).getD 2 0=(if aU a2 a3 a0 a1-ay a2 a3 a0 a1<21600000 then slo (ay a2 a3 a0 a1) else -10800000):=(wl5 _ _ _ _ _).2.2.1
theorem Ot (a0 a1 a2 a3 a4 a5:Int):(vbW a0 a1 a2 a3 a4 a5).getD 3 0=(if aU a2 a3 a0 a1-ay a2 a3 a0 a1<21600000 then slo (ay a2 a3 a0 a1)+(aU a2 a3 a0 a1-ay a2 a3 a0 a1) else 10800000):=(wl5 _ _ _ _ _).2.2.2.1
theorem Qp (a0 a1 a2 a3 a4 a5:Int):(vbW a0 a1 a2 a3 a4 a5).getD 4 0=0:=(wl5 _ _ _ _ _).2.2.2.2
theorem Ig {x l:Int} (b:0<=l/\l<=21599999):(x-slo l)%21600000=(x-l)%21600000:=by
 unfold slo;split<;>omega
def ak:List Nd:=[
 .arg 0,
 .arg 1,
 .app 20 0 [],
 .ite (.n 2) (.c 0) (.c 1),
 .ite (.n 3) (.c 0) (.c 1),
 .bin .geq .i64 (.n 0) (.c (-5400000)),
 .bin .leq .i64 (.n 0) (.c 5400000),
 .ite (.n 5) (.n 6) (.c 0),
 .bin .geq .i64 (.n 1) (.c (-10800000)),
 .ite (.n 7) (.n 8) (.c 0),
 .bin .lss .i64 (.n 1) (.c 10800000),
 .ite (.n 9) (.n 10) (.c 0),
 .ite (.n 11) (.c 0) (.c 1),
 .app 101 0 [.n 0,.n 0,.n 1,.n 1],
 .app 101 1 [.n 0,.n 0,.n 1,.n 1],
 .app 101 2 [.n 0,.n 0,.n 1,.n 1],
 .app 101 3 [.n 0,.n 0,.n 1,.n 1],
 .app 101 4 [.n 0,.n 0,.n 1,.n 1],
 .app 101 5 [.n 0,.n 0,.n 1,.n 1],
 .app 101 6 [.n 0,.n 0,.n 1,.n 1],
 .app 106 0 [.n 13,.n 14,.n 15,.n 16,.n 17,.n 18],
 .app 106 1 [.n 13,.n 14,.n 15,.n 16,.n 17,.n 18],
 .app 106 2 [.n 13,.n 14,.n 15,.n 16,.n 17,.n 18],
 .app 106 3 [.n 13,.n 14,.n 15,.n 16,.n 17,.n 18],
 .app 106 4 [.n 13,.n 14,.n 15,.n 16,.n 17,.n 18],
 .app 103 0 [.n 13,.n 14,.n 15,.n 16,.n 17,.n 18,.n 13,.n 14,.n 15,.n 16,.n 17,.n 18],
 .app 103 1 [.n 13,.n 14,.n 15,.n 16,.n 17,.n 18,.n 13,.n 14,.n 15,.n 16,.n 17,.n 18],
 .app 103 2 [.n 13,.n 14,.n 15,.n 16,.n 17,.n 18,.n 13,.n 14,.n 15,.n 16,.n 17,.n 18],
 .app 105 0 [.n 13,.n 14,.n 15,.n 16,.n 17,.n 18,.n 0,.n 0,.n 1,.n 1],
 .app 105 1 [.n 13,.n 14,.n 15,.n 16,.n 17,.n 18,.n 0,.n 0,.n 1,.n 1],
 .app 105 2 [.n 13,.n 14,.n 15,.n 16,.n 17,.n 18,.n 0,.n 0,.n 1,.n 1],
 .app 105 3 [.n 13,.n 14,.n 15,.n 16,.n 17,.n 18,.n 0,.n 0,.n 1,.n 1],
 .app 105 4 [.n 13,.n 14,.n 15,.n 16,.n 17,.n 18,.n 0,.n 0,.n 1,.n 1],
 .app 105 5 [.n 13,.n 14,.n 15,.n 16,.n 17,.n 18,.n 0,.n 0,.n 1,.n 1],
 .app 105 6 [.n 13,.n 14,.n 15,.n 16,.n 17,.n 18,.n 0,.n 0,.n 1,.n 1],
 .bin .neq .i64 (.n 19) (.c 0),
 .bin .neq .i64 (.n 24) (.c 0),
 .ite (.n 35) (.c 1) (.n 36),
 .bin .neq .i64 (.n 27) (.c 0),
 .ite (.n 37) (.c 1) (.n 38),
 .bin .neq .i64 (.n 34) (.c 0),
 .ite (.n 39) (.c 1) (.n 40),
 .bin .leq .i64 (.n 20) (.n 21),
 .bin .geq .i64 (.n 20) (.c (-5400000)),
 .ite (.n 42) (.n 43) (.c 0),
 .bin .leq .i64 (.n 21) (.c 5400000),
 .ite (.n 44) (.n 45) (.c 0),
 .bin .eql .i64 (.n 22) (.c (-10800000)),
 .bin .eql .i64 (.n 23) (.c 10800000),
 .ite (.n 47) (.n 48) (.c 0),
 .bin .geq .i64 (.n 22) (.c (-10800000)),
 .bin .lss .i64 (.n 22) (.c 10800000),
 .ite (.n 50) (.n 51) (.c 0),
 .bin .leq .i64 (.n 22) (.n 23),
 .ite (.n 52) (.n 53) (.c 0),
 .bin .sub .i64 (.n 23) (.n 22),
 .bin .lss .i64 (.n 55) (.c 21600000),
 .ite (.n 54) (.n 56) (.c 0),
 .ite (.n 49) (.c 1) (.n 57),
 .ite (.n 46) (.n 58) (.c 0),
 .ite (.n 59) (.c 0) (.c 1),
 .ite (.n 41) (.c 1) (.n 60),
 .ite (.n 61) (.c 0) (.c 1),
 .ite (.n 60) (.c 1) (.n 12),
 .ite (.n 63) (.c 0) (.c 1),
 .bin .lss .i64 (.n 0) (.n 20),
 .bin .gtr .i64 (.n 0) (.n 21),
 .ite (.n 65) (.c 1) (.n 66),
 .ite (.n 67) (.c 0) (.c 1),
 .bin .eql .i64 (.n 0) (.c 5400000),
 .bin .eql .i64 (.n 0) (.c (-5400000)),
 .ite (.n 69) (.c 1) (.n 70),
 .bin .sub .i64 (.n 1) (.n 22),
 .bin .rem .i64 (.n 72) (.c 21600000),
 .bin .lss .i64 (.n 73) (.c 0),
 .bin .add .i64 (.n 73) (.c 21600000),
 .ite (.n 74) (.c 0) (.c 1),
 .ite (.n 74) (.n 75) (.n 73),
 .bin .leq .i64 (.n 77) (.n 55),
 .ite (.n 49) (.c 1) (.n 78),
 .ite (.n 71) (.c 1) (.n 79),
 .ite (.n 67) (.c 0) (.n 80),
 .ite (.n 63) (.c 0) (.n 81),
 .bin .eql .i64 (.n 63) (.c 0),
 .ite (.n 83) (.n 82) (.c 0),
 .bin .leq .i64 (.n 25) (.c 1073741824),
 .ite (.n 84) (.n 85) (.c 0),
 .bin .leq .i64 (.c 1073741824) (.n 26),
 .ite (.n 86) (.n 87) (.c 0),
 .bin .sub .i64 (.n 26) (.n 25),
 .bin .lss .i64 (.n 89) (.c 40),
 .ite (.n 88) (.n 90) (.c 0),
 .bin .geq .i64 (.n 28) (.c (-2147483648)),
 .bin .leq .i64 (.n 28) (.n 29),
 .ite (.n 92) (.n 93) (.c 0),
 .bin .leq .i64 (.n 29) (.c 2147483648),
 .ite (.n 94) (.n 95) (.c 0),
 .bin .leq .i64 (.n 28) (.c 0),
 .ite (.n 96) (.n 97) (.c 0),
 .bin .leq .i64 (.c 0) (.n 29),
 .ite (.n 98) (.n 99) (.c 0),
 .bin .geq .i64 (.n 30) (.c (-2147483648)),
 .bin .leq .i64 (.n 30) (.n 31),
 .ite (.n 101) (.n 102) (.c 0),
 .bin .leq .i64 (.n 31) (.c 2147483648),
 .ite (.n 103) (.n 104) (.c 0),
 .bin .leq .i64 (.n 30) (.c 0),
 .ite (.n 105) (.n 106) (.c 0),
 .bin .leq .i64 (.c 0) (.n 31),
 .ite (.n 107) (.n 108) (.c 0),
 .ite (.n 100) (.n 109) (.c 0),
 .bin .geq .i64 (.n 32) (.c (-2147483648)),
 .bin .leq .i64 (.n 32) (.n 33),
 .ite (.n 111) (.n 112) (.c 0),
 .bin .leq .i64 (.n 33) (.c 2147483648),
 .ite (.n 113) (.n 114) (.c 0),
 .bin .leq .i64 (.n 32) (.c 1073741824),
 .ite (.n 115) (.n 116) (.c 0),
 .bin .leq .i64 (.c 1073741824) (.n 33),
 .ite (.n 117) (.n 118) (.c 0),
 .ite (.n 110) (.n 119) (.c 0),
 .ite (.n 91) (.n 120) (.c 0),
 .ite (.n 61) (.c 0) (.n 121),
 .ite (.n 12) (.c 1) (.n 122),
 .ite (.n 3) (.c 0) (.n 123)]
def ED:List Vc:=[
 ⟨[],.pre 20 []⟩,
 ⟨[(.n 11,true),(.n 4,true)],.pre 101 [.n 0,.n 0,.n 1,.n 1]⟩,
 ⟨[(.n 11,true),(.n 4,true)],.pre 106 [.n 13,.n 14,.n 15,.n 16,.n 17,.n 18]⟩,
 ⟨[(.n 11,true),(.n 4,true)],.pre 103 [.n 13,.n 14,.n 15,.n 16,.n 17,.n 18,.n 13,.n 14,.n 15,.n 16,.n 17,.n 18]⟩,
 ⟨[(.n 11,true),(.n 4,true)],.pre 105 [.n 13,.n 14,.n 15,.n 16,.n 17,.n 18,.n 0,.n 0,.n 1,.n 1]⟩]
theorem Jv:whole Try.prog Mx 20 40 4 [(true,[some .i64,some .i64])]=some (.p (.c (.bool (.n 124))),⟨ak.reverse,ED.reverse⟩):=by kernel_rfl
theorem Jy:wfN ak.reverse=true:=by kernel_rfl
theorem KP {ar:List Int} {v:Nat->Int} (hs:aI (aO ar) v ak.reverse):v 5=b2i (decide (v 0>=-5400000)):=aj hs 5 rfl
theorem Hl {ar:List Int} {v:Nat->Int} (hs:aI (aO ar) v ak.reverse) (k5:v 5=0):v 11=0:=by
 refine bv (X:=aO ar) (v:=v) (l:=ak) (dF _) hs (k:=11) (r:=.c 0) (ps:=[(5,.c 0)]) (nz:=[]) ?_ bM (by kernel_rfl)
 intro y hy;simp only [List.mem_cons,List.not_mem_nil,or_false] at hy;rcases hy with rfl<;>assumption
theorem KX {ar:List Int} {v:Nat->Int} (hs:aI (aO ar) v ak.reverse):v 6=b2i (decide (v 0<=5400000)):=aj hs 6 rfl
theorem Gr {ar:List Int} {v:Nat->Int} (hs:aI (aO ar) v ak.reverse) (k5:v 5=1) (k6:v 6=0):v 11=0:=by
 refine bv (X:=aO ar) (v:=v) (l:=ak) (dF _) hs (k:=11) (r:=.c 0) (ps:=[(5,.c 1),(6,.c 0)]) (nz:=[]) ?_ bM (by kernel_rfl)
 intro y hy;simp only [List.mem_cons,List.not_mem_nil,or_false] at hy;rcases hy with rfl|rfl<;>assumption
theorem Kg {ar:List Int} {v:Nat->Int} (hs:aI (aO ar) v ak.reverse):v 8=b2i (decide (v 1>=-10800000)):=aj hs 8 rfl
theorem G9 {ar:List Int} {v:Nat->Int} (hs:aI (aO ar) v ak.reverse) (k5:v 5=1) (k6:v 6=1) (k8:v 8=0):v 11=0:=by
 refine bv (X:=aO ar) (v:=v) (l:=ak) (dF _) hs (k:=11) (r:=.c 0) (ps:=[(5,.c 1),(6,.c 1),(8,.c 0)]) (nz:=[]) ?_ bM (by kernel_rfl)
 intro y hy;simp only [List.mem_cons,List.not_mem_nil,or_false] at hy;rcases hy with rfl|rfl|rfl<;>assumption
theorem EI {ar:List Int} {v:Nat->Int} (hs:aI (aO ar) v ak.reverse):v 10=b2i (decide (v 1<10800000)):=aj hs 10 rfl
theorem IE {ar:List Int} {v:Nat->Int} (hs:aI (aO ar) v ak.reverse) (k5:v 5=1) (k6:v 6=1) (k8:v 8=1) (k10:v 10=0):v 11=0:=by
 refine bv (X:=aO ar) (v:=v) (l:=ak) (dF _) hs (k:=11) (r:=.c 0) (ps:=[(5,.c 1),(6,.c 1),(8,.c 1),(10,.c 0)]) (nz:=[]) ?_ bM (by kernel_rfl)
 intro y hy;simp only [List.mem_cons,List.not_mem_nil,or_false] at hy;rcases hy with rfl|rfl|rfl|rfl<;>assumption
theorem DR {ar:List Int} {v:Nat->Int} (hs:aI (aO ar) v ak.reverse) (k11:v 11=0):v 124=1:=by
 refine bv (X:=aO ar) (v:=v) (l:=ak) (dF _) hs (k:=124) (r:=.c 1) (ps:=[(11,.c 0)]) (nz:=[]) ?_ bM (by kernel_rfl)
 intro y hy;simp only [List.mem_cons,List.not_mem_nil,or_false] at hy;rcases hy with rfl<;>assumption
theorem QZ {ar:List Int} {v:Nat->Int} (hs:aI (aO ar) v ak.reverse):v 13=(uM (uC (v 0) (v 0)) (uC (v 1) (v 1))).1:=(show v 13=(vbO (v 0) (v 0) (v 1) (v 1)).getD 0 0 from aj hs 13 rfl).trans (PW _ _ _ _)
theorem QP {ar:List Int} {v:Nat->Int} (hs:aI (aO ar) v ak.reverse):v 14=(uM (uC (v 0) (v 0)) (uC (v 1) (v 1))).2:=(show v 14=(vbO (v 0) (v 0) (v 1) (v 1)).getD 1 0 from aj hs 14 rfl).trans (O5 _ _ _ _)
theorem NY {ar:List Int} {v:Nat->Int} (hs:aI (aO ar) v ak.reverse):v 15=(uM (uC (v 0) (v 0)) (uS (v 1) (v 1))).1:=(show v 15=(vbO (v 0) (v 0) (v 1) (v 1)).getD 2 0 from aj hs 15 rfl).trans (NB _ _ _ _)
theorem Ng {ar:List Int} {v:Nat->Int} (hs:aI (aO ar) v ak.reverse):v 16=(uM (uC (v 0) (v 0)) (uS (v 1) (v 1))).2:=(show v 16=(vbO (v 0) (v 0) (v 1) (v 1)).getD 3 0 from aj hs 16 rfl).trans (P7 _ _ _ _)
theorem Qd {ar:List Int} {v:Nat->Int} (hs:aI (aO ar) v ak.reverse):v 17=(uS (v 0) (v 0)).1:=(show v 17=(vbO (v 0) (v 0) (v 1) (v 1)).getD 4 0 from aj hs 17 rfl).trans (NR _ _ _ _)
theorem Qq {ar:List Int} {v:Nat->Int} (hs:aI (aO ar) v ak.reverse):v 18=(uS (v 0) (v 0)).2:=(show v 18=(vbO (v 0) (v 0) (v 1) (v 1)).getD 5 0 from aj hs 18 rfl).trans (Qg _ _ _ _)
theorem QK {ar:List Int} {v:Nat->Int} (hs:aI (aO ar) v ak.reverse):v 19=0:=(show v 19=(vbO (v 0) (v 0) (v 1) (v 1)).getD 6 0 from aj hs 19 rfl).trans (Pq _ _ _ _)
theorem Pw {ar:List Int} {v:Nat->Int} (hs:aI (aO ar) v ak.reverse):v 24=0:=(show v 24=(vbW (v 13) (v 14) (v 15) (v 16) (v 17) (v 18)).getD 4 0 from aj hs 24 rfl).trans (Qp _ _ _ _ _ _)
theorem QI {ar:List Int} {v:Nat->Int} (hs:aI (aO ar) v ak.reverse):v 27=0:=(show v 27=(vbD (v 13) (v 14) (v 15) (v 16) (v 17) (v 18) (v 13) (v 14) (v 15) (v 16) (v 17) (v 18)).getD 2 0 from aj hs 27 rfl).trans (Ry _ _ _ _ _ _ _ _ _ _ _ _)
theorem QF {ar:List Int} {v:Nat->Int} (hs:aI (aO ar) v ak.reverse):v 34=0:=(show v 34=(vbL (v 13) (v 14) (v 15) (v 16) (v 17) (v 18) (v 0) (v 0) (v 1) (v 1)).getD 6 0 from aj hs 34 rfl).trans (O4 _ _ _ _ _ _ _ _ _ _)
theorem Qt {ar:List Int} {v:Nat->Int} (hs:aI (aO ar) v ak.reverse):v 25=(dtI ((v 13,v 14):IV) ((v 15,v 16):IV) ((v 17,v 18):IV) ((v 13,v 14):IV) ((v 15,v 16):IV) ((v 17,v 18):IV)).1:=(show v 25=(vbD (v 13) (v 14) (v 15) (v 16) (v 17) (v 18) (v 13) (v 14) (v 15) (v 16) (v 17) (v 18)).getD 0 0 from aj hs 25 rfl).trans (P5 _ _ _ _ _ _ _ _ _ _ _ _)
theorem NE {ar:List Int} {v:Nat->Int} (hs:aI (aO ar) v ak.reverse):v 26=(dtI ((v 13,v 14):IV) ((v 15,v 16):IV) ((v 17,v 18):IV) ((v 13,v 14):IV) ((v 15,v 16):IV) ((v 17,v 18):IV)).2:=(show v 26=(vbD (v 13) (v 14) (v 15) (v 16) (v 17) (v 18) (v 13) (v 14) (v 15) (v 16) (v 17) (v 18)).getD 1 0 from aj hs 26 rfl).trans (Oz _ _ _ _ _ _ _ _ _ _ _ _)
theorem Qn {ar:List Int} {v:Nat->Int} (hs:aI (aO ar) v ak.reverse):v 28=(loE ((v 13,v 14):IV) ((v 15,v 16):IV) (v 1) (v 1)).1:=(show v 28=(vbL (v 13) (v 14) (v 15) (v 16) (v 17) (v 18) (v 0) (v 0) (v 1) (v 1)).getD 0 0 from aj hs 28 rfl).trans (Qh _ _ _ _ _ _ _ _ _ _)
theorem O3 {ar:List Int} {v:Nat->Int} (hs:aI (aO ar) v ak.reverse):v 29=(loE ((v 13,v 14):IV) ((v 15,v 16):IV) (v 1) (v 1)).2:=(show v 29=(vbL (v 13) (v 14) (v 15) (v 16) (v 17) (v 18) (v 0) (v 0) (v 1) (v 1)).getD 1 0 from aj hs 29 rfl).trans (NS _ _ _ _ _ _ _ _ _ _)
theorem QE {ar:List Int} {v:Nat->Int} (hs:aI (aO ar) v ak.reverse):v 30=(loN ((v 13,v 14):IV) ((v 15,v 16):IV) ((v 17,v 18):IV) (v 0) (v 0) (v 1) (v 1)).1:=(show v 30=(vbL (v 13) (v 14) (v 15) (v 16) (v 17) (v 18) (v 0) (v 0) (v 1) (v 1)).getD 2 0 from aj hs 30 rfl).trans (Po _ _ _ _ _ _ _ _ _ _)
theorem Rb {ar:List Int} {v:Nat->Int} (hs:aI (aO ar) v ak.reverse):v 31=(loN ((v 13,v 14):IV) ((v 15,v 16):IV) ((v 17,v 18):IV) (v 0) (v 0) (v 1) (v 1)).2:=(show v 31=(vbL (v 13) (v 14) (v 15) (v 16) (v 17) (v 18) (v 0) (v 0) (v 1) (v 1)).getD 3 0 from aj hs 31 rfl).trans (Nu _ _ _ _ _ _ _ _ _ _)
theorem Qi {ar:List Int} {v:Nat->Int} (hs:aI (aO ar) v ak.reverse):v 32=(loU ((v 13,v 14):IV) ((v 15,v 16):IV) ((v 17,v 18):IV) (v 0) (v 0) (v 1) (v 1)).1:=(show v 32=(vbL (v 13) (v 14) (v 15) (v 16) (v 17) (v 18) (v 0) (v 0) (v 1) (v 1)).getD 4 0 from aj hs 32 rfl).trans (M8 _ _ _ _ _ _ _ _ _ _)
theorem Rx {ar:List Int} {v:Nat->Int} (hs:aI (aO ar) v ak.reverse):v 33=(loU ((v 13,v 14):IV) ((v 15,v 16):IV) ((v 17,v 18):IV) (v 0) (v 0) (v 1) (v 1)).2:=(show v 33=(vbL (v 13) (v 14) (v 15) (v 16) (v 17) (v 18) (v 0) (v 0) (v 1) (v 1)).getD 5 0 from aj hs 33 rfl).trans (Oj _ _ _ _ _ _ _ _ _ _)
theorem Ob {ar:List Int} {v:Nat->Int} (hs:aI (aO ar) v ak.reverse):v 20=slo (ay (v 17) (v 18) (hoI ((v 13,v 14):IV) ((v 15,v 16):IV)).1 (hoI ((v 13,v 14):IV) ((v 15,v 16):IV)).2):=(show v 20=(vbW (v 13) (v 14) (v 15) (v 16) (v 17) (v 18)).getD 0 0 from aj hs 20 rfl).trans (Nl _ _ _ _ _ _)
theorem Rp {ar:List Int} {v:Nat->Int} (hs:aI (aO ar) v ak.reverse):v 21=min (slo (ay (v 17) (v 18) (hoI ((v 13,v 14):IV) ((v 15,v 16):IV)).1 (hoI ((v 13,v 14):IV) ((v 15,v 16):IV)).2)+(aU (v 17) (v 18) (hoI ((v 13,v 14):IV) ((v 15,v 16):IV)).1 (hoI ((v 13,v 14):IV) ((v 15,v 16):IV)).2-ay (v 17) (v 18) (hoI ((v 13,v 14):IV) ((v 15,v 16):IV)).1 (hoI ((v 13,v 14):IV) ((v 15,v 16):IV)).2)) 5400000:=(show v 21=(vbW (v 13) (v 14) (v 15) (v 16) (v 17) (v 18)).getD 1 0 from aj hs 21 rfl).trans (PI _ _ _ _ _ _)
theorem Nt {ar:List Int} {v:Nat->Int} (hs:aI (aO ar) v ak.reverse):v 22=(if aU (v 15) (v 16) (v 13) (v 14)-ay (v 15) (v 16) (v 13) (v 14)<21600000 then slo (ay (v 15) (v 16) (v 13) (v 14)) else -10800000):=(show v 22=(vbW (v 13) (v 14) (v 15) (v 16) (v 17) (v 18)).getD 2 0 from aj hs 22 rfl).trans (Qy _ _ _ _ _ _)
theorem NZ {ar:List Int} {v:Nat->Int} (hs:aI (aO ar) v ak.reverse):v 23=(if aU (v 15) (v 16) (v 13) (v 14)-ay (v 15) (v 16) (v 13) (v 14)<21600000 then slo (ay (v 15) (v 16) (v 13) (v 14))+(aU (v 15) (v 16) (v 13) (v 14)-ay (v 15) (v 16) (v 13) (v 14)) else 10800000):=(show v 23=(vbW (v 13) (v 14) (v 15) (v 16) (v 17) (v 18)).getD 3 0 from aj hs 23 rfl).trans (Ot _ _ _ _ _ _)
theorem PX {ar:List Int} {v:Nat->Int} (hs:aI (aO ar) v ak.reverse):v 42=b2i (decide (v 20<=v 21)):=aj hs 42 rfl
theorem Np {ar:List Int} {v:Nat->Int} (hs:aI (aO ar) v ak.reverse):v 43=b2i (decide (v 20>=-5400000)):=aj hs 43 rfl
theorem Q5 {ar:List Int} {v:Nat->Int} (hs:aI (aO ar) v ak.reverse):v 45=b2i (decide (v 21<=5400000)):=aj hs 45 rfl
theorem Nf {ar:List Int} {v:Nat->Int} (hs:aI (aO ar) v ak.reverse):v 65=b2i (decide (v 0<v 20)):=aj hs 65 rfl
theorem OO {ar:List Int} {v:Nat->Int} (hs:aI (aO ar) v ak.reverse):v 66=b2i (decide (v 0>v 21)):=aj hs 66 rfl
theorem O0 {ar:List Int} {v:Nat->Int} (hs:aI (aO ar) v ak.reverse):v 49=if v 47≠0 then v 48 else 0:=aj hs 49 rfl
theorem Jn {ar:List Int} {v:Nat->Int} (hs:aI (aO ar) v ak.reverse):v 47=b2i (v 22 == -10800000):=aj hs 47 rfl
theorem Jg {ar:List Int} {v:Nat->Int} (hs:aI (aO ar) v ak.reverse):v 48=b2i (v 23==10800000):=aj hs 48 rfl
theorem Om {ar:List Int} {v:Nat->Int} (hs:aI (aO ar) v ak.reverse):v 55=IntKind.i64.wrap (v 23-v 22):=aj hs 55 rfl
theorem OC {ar:List Int} {v:Nat->Int} (hs:aI (aO ar) v ak.reverse):v 72=IntKind.i64.wrap (v 1-v 22):=aj hs 72 rfl
theorem QJ {ar:List Int} {v:Nat->Int} (hs:aI (aO ar) v ak.reverse):v 73=Int.tmod (v 72) 21600000:=aj hs 73 rfl
theorem Pp {ar:List Int} {v:Nat->Int} (hs:aI (aO ar) v ak.reverse):v 74=b2i (decide (v 73<0)):=aj hs 74 rfl
theorem NN {ar:List Int} {v:Nat->Int} (hs:aI (aO ar) v ak.reverse):v 75=IntKind.i64.wrap (v 73+21600000):=aj hs 75 rfl
theorem Qu {ar:List Int} {v:Nat->Int} (hs:aI (aO ar) v ak.reverse):v 77=if v 74≠0 then v 75 else v 73:=aj hs 77 rfl
theorem OG {ar:List Int} {v:Nat->Int} (hs:aI (aO ar) v ak.reverse):v 50=b2i (decide (v 22>=-10800000)):=aj hs 50 rfl
theorem OW {ar:List Int} {v:Nat->Int} (hs:aI (aO ar) v ak.reverse):v 51=b2i (decide (v 22<10800000)):=aj hs 51 rfl
theorem Q7 {ar:List Int} {v:Nat->Int} (hs:aI (aO ar) v ak.reverse):v 53=b2i (decide (v 22<=v 23)):=aj hs 53 rfl
theorem Pe {ar:List Int} {v:Nat->Int} (hs:aI (aO ar) v ak.reverse):v 56=b2i (decide (v 55<21600000)):=aj hs 56 rfl
theorem Qa {ar:List Int} {v:Nat->Int} (hs:aI (aO ar) v ak.reverse):v 78=b2i (decide (v 77<=v 55)):=aj hs 78 rfl
theorem I1 {ar:List Int} {v:Nat->Int} (hs:aI (aO ar) v ak.reverse) (k49:v 49=0) (k50:v 50=1) (k51:v 51=1) (k53:v 53=1) (k56:v 56=1):v 58=1:=by
 refine bv (X:=aO ar) (v:=v) (l:=ak) (dF _) hs (k:=58) (r:=.c 1) (ps:=[(49,.c 0),(50,.c 1),(51,.c 1),(53,.c 1),(56,.c 1)]) (nz:=[]) ?_ bM (by kernel_rfl)
 intro y hy;simp only [List.mem_cons,List.not_mem_nil,or_false] at hy;rcases hy with rfl|rfl|rfl|rfl|rfl<;>assumption
theorem Hz {ar:List Int} {v:Nat->Int} (hs:aI (aO ar) v ak.reverse) (k49:v 49=0) (k78:v 78=1):v 79=1:=by
 refine bv (X:=aO ar) (v:=v) (l:=ak) (dF _) hs (k:=79) (r:=.c 1) (ps:=[(49,.c 0),(78,.c 1)]) (nz:=[]) ?_ bM (by kernel_rfl)
 intro y hy;simp only [List.mem_cons,List.not_mem_nil,or_false] at hy;rcases hy with rfl|rfl<;>assumption
theorem IG {ar:List Int} {v:Nat->Int} (hs:aI (aO ar) v ak.reverse) (k47:v 47=1) (k48:v 48=1):v 58=1:=by
 refine bv (X:=aO ar) (v:=v) (l:=ak) (dF _) hs (k:=58) (r:=.c 1) (ps:=[(47,.c 1),(48,.c 1)]) (nz:=[]) ?_ bM (by kernel_rfl)
 intro y hy;simp only [List.mem_cons,List.not_mem_nil,or_false] at hy;rcases hy with rfl|rfl<;>assumption
theorem GJ {ar:List Int} {v:Nat->Int} (hs:aI (aO ar) v ak.reverse) (k47:v 47=1) (k48:v 48=1):v 79=1:=by
 refine bv (X:=aO ar) (v:=v) (l:=ak) (dF _) hs (k:=79) (r:=.c 1) (ps:=[(47,.c 1),(48,.c 1)]) (nz:=[]) ?_ bM (by kernel_rfl)
 intro y hy;simp only [List.mem_cons,List.not_mem_nil,or_false] at hy;rcases hy with rfl|rfl<;>assumption
theorem Nv {ar:List Int} {v:Nat->Int} (hs:aI (aO ar) v ak.reverse):v 80=if v 71≠0 then 1 else v 79:=aj hs 80 rfl
theorem Pg {ar:List Int} {v:Nat->Int} (hs:aI (aO ar) v ak.reverse):v 85=b2i (decide (v 25<=1073741824)):=aj hs 85 rfl
theorem QV {ar:List Int} {v:Nat->Int} (hs:aI (aO ar) v ak.reverse):v 87=b2i (decide (1073741824<=v 26)):=aj hs 87 rfl
theorem Qs {ar:List Int} {v:Nat->Int} (hs:aI (aO ar) v ak.reverse):v 89=IntKind.i64.wrap (v 26-v 25):=aj hs 89 rfl
theorem NL {ar:List Int} {v:Nat->Int} (hs:aI (aO ar) v ak.reverse):v 90=b2i (decide (v 89<40)):=aj hs 90 rfl
theorem QU {ar:List Int} {v:Nat->Int} (hs:aI (aO ar) v ak.reverse):v 92=b2i (decide (v 28>=-2147483648)):=aj hs 92 rfl
theorem PD {ar:List Int} {v:Nat->Int} (hs:aI (aO ar) v ak.reverse):v 93=b2i (decide (v 28<=v 29)):=aj hs 93 rfl
theorem PV {ar:List Int} {v:Nat->Int} (hs:aI (aO ar) v ak.reverse):v 95=b2i (decide (v 29<=2147483648)):=aj hs 95 rfl
theorem Pt {ar:List Int} {v:Nat->Int} (hs:aI (aO ar) v ak.reverse):v 97=b2i (decide (v 28<=0)):=aj hs 97 rfl
theorem RB {ar:List Int} {v:Nat->Int} (hs:aI (aO ar) v ak.reverse):v 99=b2i (decide (0<=v 29)):=aj hs 99 rfl
theorem Ml {ar:List Int} {v:Nat->Int} (hs:aI (aO ar) v ak.reverse):v 101=b2i (decide (v 30>=-2147483648)):=aj hs 101 rfl
theorem KE {ar:List Int} {v:Nat->Int} (hs:aI (aO ar) v ak.reverse):v 102=b2i (decide (v 30<=v 31)):=aj hs 102 rfl
theorem MJ {ar:List Int} {v:Nat->Int} (hs:aI (aO ar) v ak.reverse):v 104=b2i (decide (v 31<=2147483648)):=aj hs 104 rfl
theorem MS {ar:List Int} {v:Nat->Int} (hs:aI (aO ar) v ak.reverse):v 106=b2i (decide (v 30<=0)):=aj hs 106 rfl
theorem JO {ar:List Int} {v:Nat->Int} (hs:aI (aO ar) v ak.reverse):v 108=b2i (decide (0<=v 31)):=aj hs 108 rfl
theorem Ma {ar:List Int} {v:Nat->Int} (hs:aI (aO ar) v ak.reverse):v 111=b2i (decide (v 32>=-2147483648)):=aj hs 111 rfl
theorem Mq {ar:List Int} {v:Nat->Int} (hs:aI (aO ar) v ak.reverse):v 112=b2i (decide (v 32<=v 33)):=aj hs 112 rfl
theorem MR {ar:List Int} {v:Nat->Int} (hs:aI (aO ar) v ak.reverse):v 114=b2i (decide (v 33<=2147483648)):=aj hs 114 rfl
theorem MC {ar:List Int} {v:Nat->Int} (hs:aI (aO ar) v ak.reverse):v 116=b2i (decide (v 32<=1073741824)):=aj hs 116 rfl
theorem J4 {ar:List Int} {v:Nat->Int} (hs:aI (aO ar) v ak.reverse):v 118=b2i (decide (1073741824<=v 33)):=aj hs 118 rfl
theorem CU {ar:List Int} {v:Nat->Int} (hs:aI (aO ar) v ak.reverse) (k5:v 5=1) (k6:v 6=1) (k8:v 8=1) (k10:v 10=1) (k19:v 19=0) (k24:v 24=0) (k27:v 27=0) (k34:v 34=0) (k42:v 42=1) (k43:v 43=1) (k45:v 45=1) (k58:v 58=1) (k65:v 65=0) (k66:v 66=0) (k80:v 80=1) (k85:v 85=1) (k87:v 87=1) (k90:v 90=1) (k92:v 92=1) (k93:v 93=1) (k95:v 95=1) (k97:v 97=1) (k99:v 99=1) (k101:v 101=1) (k102:v 102=1) (k104:v 104=1) (k106:v 106=1) (k108:v 108=1) (k111:v 111=1) (k112:v 112=1) (k114:v 114=1) (k116:v 116=1) (k118:v 118=1):v 124=1:=by
 refine bv (X:=aO ar) (v:=v) (l:=ak) (dF _) hs (k:=124) (r:=.c 1) (ps:=[(5,.c 1),(6,.c 1),(8,.c 1),(10,.c 1),(19,.c 0),(24,.c 0),(27,.c 0),(34,.c 0),(42,.c 1),(43,.c 1),(45,.c 1),(58,.c 1),(65,.c 0),(66,.c 0),(80,.c 1),(85,.c 1),(87,.c 1),(90,.c 1),(92,.c 1),(93,.c 1),(95,.c 1),(97,.c 1),(99,.c 1),(101,.c 1),(102,.c 1),(104,.c 1),(106,.c 1),(108,.c 1),(111,.c 1),(112,.c 1),(114,.c 1),(116,.c 1),(118,.c 1)]) (nz:=[]) ?_ bM (by kernel_rfl)
 intro y hy;simp only [List.mem_cons,List.not_mem_nil,or_false] at hy;rcases hy with rfl|rfl|rfl|rfl|rfl|rfl|rfl|rfl|rfl|rfl|rfl|rfl|rfl|rfl|rfl|rfl|rfl|rfl|rfl|rfl|rfl|rfl|rfl|rfl|rfl|rfl|rfl|rfl|rfl|rfl|rfl|rfl|rfl<;>assumption
theorem KN {ar:List Int} {v:Nat->Int} (U13:U ((v 13,v 14):IV)) (U15:U ((v 15,v 16):IV)) (U17:U ((v 17,v 18):IV)) (A0:dW (v 0) (v 0)=true) (A1:dW (v 1) (v 1)=true) (G:er0 ((v 13,v 14):IV) ((v 13,v 14):IV)=0/\er0 ((v 15,v 16):IV) ((v 15,v 16):IV)=0/\er1 (uM ((v 13,v 14):IV) ((v 13,v 14):IV)) (uM ((v 15,v 16):IV) ((v 15,v 16):IV))=0/\er0 ((v 17,v 18):IV) ((v 17,v 18):IV)=0/\er1 (dt2 ((v 13,v 14):IV) ((v 15,v 16):IV) ((v 13,v 14):IV) ((v 15,v 16):IV)) (uM ((v 17,v 18):IV) ((v 17,v 18):IV))=0) (ho:bY (v 17) (v 18) (hoI ((v 13,v 14):IV) ((v 15,v 16):IV)).1 (hoI ((v 13,v 14):IV) ((v 15,v 16):IV)).2=false) (g0:loF ((v 13,v 14):IV) ((v 15,v 16):IV) ((v 17,v 18):IV) (v 0) (v 0) (v 1) (v 1)=0) (g1:loG ((v 13,v 14):IV) ((v 15,v 16):IV) ((v 17,v 18):IV) (v 0) (v 0) (v 1) (v 1)=0):∀ c∈ED,c.holds (aO ar) v :=
 dE (fun _=>trivial) (dE (fun _=>⟨A0,A1⟩) (dE (fun _=>(⟨⟨U13,U15,U17⟩,ho⟩:vqW (v 13) (v 14) (v 15) (v 16) (v 17) (v 18))) (dE (fun _=>(⟨⟨CG U13,CG U15,CG U17,CG U13,CG U15,CG U17⟩,G⟩:vqD (v 13) (v 14) (v 15) (v 16) (v 17) (v 18) (v 13) (v 14) (v 15) (v 16) (v 17) (v 18))) (dE (fun _=>(⟨⟨U13,U15,U17⟩,⟨A0,A1⟩,g0,g1⟩:vqL (v 13) (v 14) (v 15) (v 16) (v 17) (v 18) (v 0) (v 0) (v 1) (v 1))) (AA)))))
theorem Eg (a0 a1:Int) (w:World):Calls Try.prog 4 #[.agg #[.int .i64 a0,.int .i64 a1]] w fun e w'=>e=.returned (.bool true)/\Below w.heap.size w w':=by
 refine Sx.calls (X:=aO [a0,a1]) iJ (Ie _) Jv Jy (fun v hs=>?_) w
 have hv:v 11=0∨((-5400000<=v 0/\v 0<=5400000)/\(-10800000<=v 1/\v 1<10800000)):=by
  by_cases c0:v 0>=-5400000
  rotate_left
  . left
    have k5:v 5=0:=by rw [(KP hs),decide_eq_false c0];rfl
    exact (Hl hs k5)
  have k5:v 5=1:=by rw [(KP hs),decide_eq_true c0];rfl
  by_cases c1:v 0<=5400000
  rotate_left
  . left
    have k6:v 6=0:=by rw [(KX hs),decide_eq_false c1];rfl
    exact (Gr hs k5 k6)
  have k6:v 6=1:=by rw [(KX hs),decide_eq_true c1];rfl
  by_cases c2:v 1>=-10800000
  rotate_left
  . left
    have k8:v 8=0:=by rw [(Kg hs),decide_eq_false c2];rfl
    exact (G9 hs k5 k6 k8)
  have k8:v 8=1:=by rw [(Kg hs),decide_eq_true c2];rfl
  by_cases c3:v 1<10800000
  rotate_left
  . left
    have k10:v 10=0:=by rw [(EI hs),decide_eq_false c3];rfl
    exact (IE hs k5 k6 k8 k10)
  have k10:v 10=1:=by rw [(EI hs),decide_eq_true c3];rfl
  exact Or.inr ⟨⟨c0,c1⟩,c2,c3⟩
 rcases hv with k11|q
 . have zr:v 124=1:=(DR hs k11);refine ⟨Ag ?_,?_⟩
   . exact dE (fun _=>trivial) (dE (fun hp=>absurd k11 ((ou hp).1)) (dE (fun hp=>absurd k11 ((ou hp).1)) (dE (fun hp=>absurd k11 ((ou hp).1)) (dE (fun hp=>absurd k11 ((ou hp).1)) (AA)))))
   . intro x hx;have hx':x=.bool (decide (v 124≠0)):=hx;rw [hx',zr];rfl
 have A0:dW (v 0) (v 0)=true:=(fw _ _).2 (by omega)
 have A1:dW (v 1) (v 1)=true:=(fw _ _).2 (by omega)
 have P13:((v 13,v 14):IV)=uM (uC (v 0) (v 0)) (uC (v 1) (v 1)):=pV (QZ hs) (QP hs);have P15:((v 15,v 16):IV)=uM (uC (v 0) (v 0)) (uS (v 1) (v 1)):=pV (NY hs) (Ng hs);have P17:((v 17,v 18):IV)=uS (v 0) (v 0):=pV (Qd hs) (Qq hs);have k19:v 19=0:=QK hs;have k24:v 24=0:=Pw hs;have k27:v 27=0:=QI hs;have k34:v 34=0:=QF hs;have P25:((v 25,v 26):IV)=dtI ((v 13,v 14):IV) ((v 15,v 16):IV) ((v 17,v 18):IV) ((v 13,v 14):IV) ((v 15,v 16):IV) ((v 17,v 18):IV):=pV (Qt hs) (NE hs);have P28:((v 28,v 29):IV)=loE ((v 13,v 14):IV) ((v 15,v 16):IV) (v 1) (v 1):=pV (Qn hs) (O3 hs);have P30:((v 30,v 31):IV)=loN ((v 13,v 14):IV) ((v 15,v 16):IV) ((v 17,v 18):IV) (v 0) (v 0) (v 1) (v 1):=pV (QE hs) (Rb hs);have P32:((v 32,v 33):IV)=loU ((v 13,v 14):IV) ((v 15,v 16):IV) ((v 17,v 18):IV) (v 0) (v 0) (v 1) (v 1):=pV (Qi hs) (Rx hs);have A:=zU (v 0) (v 1);rw [<-P13,<-P15,<-P17] at A;have ep:=bC;have G:=(E9 A.cu A.cu (by decide) (by decide) ⟨by grind,by grind⟩ ⟨by grind,by grind⟩).1
 have BD:=EJ A;rw [<-P25] at BD;have BD2:v 25<=1073741824/\1073741824<=v 26/\v 26-v 25<40:=BD;have fS:fxV (hoI ((v 13,v 14):IV) ((v 15,v 16):IV)).1 (hoI ((v 13,v 14):IV) ((v 15,v 16):IV)).2=true:=Jd (sm2 ((v 13,v 14):IV) ((v 15,v 16):IV));have nS:0<=(hoI ((v 13,v 14):IV) ((v 15,v 16):IV)).1:=(JY A.ux A.uy).2;have BL:=Gc (v 0) (v 1) q.1 (hoI ((v 13,v 14):IV) ((v 15,v 16):IV)) (by rw [P13,P15]) fS nS
 rw [<-P17] at BL;have ho:bY (v 17) (v 18) (hoI ((v 13,v 14):IV) ((v 15,v 16):IV)).1 (hoI ((v 13,v 14):IV) ((v 15,v 16):IV)).2=false:=BL.1;have BL2:slo (ay (v 17) (v 18) (hoI ((v 13,v 14):IV) ((v 15,v 16):IV)).1 (hoI ((v 13,v 14):IV) ((v 15,v 16):IV)).2)<=v 0/\v 0<=min (slo (ay (v 17) (v 18) (hoI ((v 13,v 14):IV) ((v 15,v 16):IV)).1 (hoI ((v 13,v 14):IV) ((v 15,v 16):IV)).2)+(aU (v 17) (v 18) (hoI ((v 13,v 14):IV) ((v 15,v 16):IV)).1 (hoI ((v 13,v 14):IV) ((v 15,v 16):IV)).2-ay (v 17) (v 18) (hoI ((v 13,v 14):IV) ((v 15,v 16):IV)).1 (hoI ((v 13,v 14):IV) ((v 15,v 16):IV)).2)) 5400000:=BL.2;have BO:=yB (v 0) (v 1) ((v 13,v 14):IV) ((v 15,v 16):IV) ((v 17,v 18):IV) P13 P15 P17;rw [<-P28,<-P30,<-P32] at BO;have BO1:v 28<=0/\0<=v 29:=BO.2.2.1;have BO2:v 30<=0/\0<=v 31:=BO.2.2.2.1;have BO3:v 32<=1073741824/\1073741824<=v 33:=BO.2.2.2.2;have LN:=FZ (v 0) (v 1) q.1;rw [<-P13,<-P15] at LN;have LN2:bY (v 15) (v 16) (v 13) (v 14)=false->(v 1-ay (v 15) (v 16) (v 13) (v 14))%21600000<=aU (v 15) (v 16) (v 13) (v 14)-ay (v 15) (v 16) (v 13) (v 14):=LN;have u17:-1073741824<=v 17/\v 17<=v 18/\v 18<=1073741824:=A.uz;have fb:=(bT _ _).1 fS;have BR:=qR u17.2.1 fb.2.1 ⟨by omega,by omega⟩ ⟨nS,fb.2.2⟩ ho
 have F28:fxV (v 28) (v 29)=true:=by have:=En (uM ((v 15,v 16):IV) (uC (v 1) (v 1))) (uM ((v 13,v 14):IV) (uS (v 1) (v 1)));have e:((v 28,v 29):IV)=uD (uM ((v 15,v 16):IV) (uC (v 1) (v 1))) (uM ((v 13,v 14):IV) (uS (v 1) (v 1))):=P28;rw [<-e] at this;exact this
 have F30:fxV (v 30) (v 31)=true:=by have:=En (uM ((v 17,v 18):IV) (uC (v 0) (v 0))) (uM (loH ((v 13,v 14):IV) ((v 15,v 16):IV) (v 1) (v 1)) (uS (v 0) (v 0)));have e:((v 30,v 31):IV)=uD (uM ((v 17,v 18):IV) (uC (v 0) (v 0))) (uM (loH ((v 13,v 14):IV) ((v 15,v 16):IV) (v 1) (v 1)) (uS (v 0) (v 0))):=P30;rw [<-e] at this;exact this
 have F32:fxV (v 32) (v 33)=true:=by have:=oO (uM ((v 17,v 18):IV) (uS (v 0) (v 0))) (uM (loH ((v 13,v 14):IV) ((v 15,v 16):IV) (v 1) (v 1)) (uC (v 0) (v 0)));have e:((v 32,v 33):IV)=uA (uM ((v 17,v 18):IV) (uS (v 0) (v 0))) (uM (loH ((v 13,v 14):IV) ((v 15,v 16):IV) (v 1) (v 1)) (uC (v 0) (v 0))):=P32;rw [<-e] at this;exact this
 have x1:=(bT _ _).1 F28;have x2:=(bT _ _).1 F30;have x3:=(bT _ _).1 F32;refine ⟨Ag ?_,?_⟩
 . exact KN A.ux A.uy A.uz A0 A1 G ho BO.1 BO.2.1
 clear G BD LN BO BL A F28 F30 F32 fS P13 P15 P17 P25 P28 P30 P32 A0 A1 ep nS fb u17 ho;have B1:=lc (v 17) (v 18) (hoI ((v 13,v 14):IV) ((v 15,v 16):IV)).1 (hoI ((v 13,v 14):IV) ((v 15,v 16):IV)).2;have B2:=lc (v 15) (v 16) (v 13) (v 14);have e20:=Ob hs;have e21:=Rp hs;have e22:=Nt hs;have e23:=NZ hs
 have HO:bY (v 15) (v 16) (v 13) (v 14)=true->aU (v 15) (v 16) (v 13) (v 14)-ay (v 15) (v 16) (v 13) (v 14)=21600000:=by
  intro h;unfold aU;unfold ay;rw [if_pos h,if_pos h];rfl
 generalize ay (v 17) (v 18) (hoI ((v 13,v 14):IV) ((v 15,v 16):IV)).1 (hoI ((v 13,v 14):IV) ((v 15,v 16):IV)).2=L at *
 generalize aU (v 17) (v 18) (hoI ((v 13,v 14):IV) ((v 15,v 16):IV)).1 (hoI ((v 13,v 14):IV) ((v 15,v 16):IV)).2=H at *
 generalize ay (v 15) (v 16) (v 13) (v 14)=l at *
 generalize aU (v 15) (v 16) (v 13) (v 14)=h at *
 have k42:v 42=1:=by rw [(PX hs),decide_eq_true (by clear LN2 HO e22 e23 B2 x1 x2 x3 BO1 BO2 BO3 BD2;rw [e20,e21];omega)];rfl
 have k43:v 43=1:=by rw [(Np hs),decide_eq_true (by clear LN2 HO e22 e23 B2 x1 x2 x3 BO1 BO2 BO3 BD2;rw [e20];omega)];rfl
 have k45:v 45=1:=by rw [(Q5 hs),decide_eq_true (by clear LN2 HO e22 e23 B2 x1 x2 x3 BO1 BO2 BO3 BD2;rw [e21];omega)];rfl
 have k65:v 65=0:=by rw [(Nf hs),decide_eq_false (by clear LN2 HO e22 e23 B2 x1 x2 x3 BO1 BO2 BO3 BD2;rw [e20];omega)];rfl
 have k66:v 66=0:=by rw [(OO hs),decide_eq_false (by clear LN2 HO e22 e23 B2 x1 x2 x3 BO1 BO2 BO3 BD2;rw [e21];omega)];rfl
 clear e20 e21 BR BL2 B1
 have KL:v 58=1/\v 79=1:=by
  by_cases hw:h-l<21600000
  . rw [if_pos hw] at e22 e23
    have hB:bY (v 15) (v 16) (v 13) (v 14)=false:=by
     cases hb:bY (v 15) (v 16) (v 13) (v 14)
     . rfl
     . have:=HO hb;omega
    have W:=LN2 hB;have r1:=(BU (l:=l) (l':=l) (by omega) (by omega)).2
    have sm:=Ig (x:=v 1) (l:=l) (by omega)
    rw [<-e22] at r1 sm;have d1:v 23-v 22=h-l:=by omega
    clear LN2 HO hB x1 x2 x3 BO1 BO2 BO3 BD2
    have k49:v 49=0:=by
     have e:=(O0 hs);have e1:=(Jn hs);have e2:=(Jg hs);rw [e,e1,e2]
     by_cases q:v 22=-10800000
     . have:(v 23==10800000)=false:=by simp;omega
       rw [this];simp [b2i]
     . have:(v 22 == -10800000)=false:=by simpa using q
       rw [this];simp [b2i]
    have w55:v 55=v 23-v 22:=by rw [(Om hs),Go.IntWalk.i64_in _ (by omega)]
    have w72:v 72=v 1-v 22:=by rw [(OC hs),Go.IntWalk.i64_in _ (by omega)]
    have w77:=Gz (x:=v 72) (r:=v 73) (c:=v 74) (u:=v 75) (z:=v 77) (by omega) (QJ hs) (Pp hs) (NN hs) (Qu hs)
    rw [w72,sm] at w77;have k50:v 50=1:=by rw [(OG hs),decide_eq_true (by omega)];rfl
    have k51:v 51=1:=by rw [(OW hs),decide_eq_true (by omega)];rfl
    have k53:v 53=1:=by rw [(Q7 hs),decide_eq_true (by omega)];rfl
    have k56:v 56=1:=by rw [(Pe hs),decide_eq_true (by omega)];rfl
    have k78:v 78=1:=by rw [(Qa hs),decide_eq_true (by rw [w77,w55,d1];exact W)];rfl
    exact ⟨(I1 hs k49 k50 k51 k53 k56),(Hz hs k49 k78)⟩
  . rw [if_neg hw] at e22 e23;have k47:v 47=1:=by rw [(Jn hs),e22];rfl
    have k48:v 48=1:=by rw [(Jg hs),e23];rfl
    exact ⟨(IG hs k47 k48),(GJ hs k47 k48)⟩
 obtain ⟨k58,k79⟩:=KL;clear LN2 HO e22 e23 B2
 have k80:v 80=1:=by
  rw [(Nv hs)];split
  . rfl
  . exact k79
 have k5:v 5=1:=by rw [(KP hs),decide_eq_true (by omega)];rfl
 have k6:v 6=1:=by rw [(KX hs),decide_eq_true (by omega)];rfl
 have k8:v 8=1:=by rw [(Kg hs),decide_eq_true (by omega)];rfl
 have k10:v 10=1:=by rw [(EI hs),decide_eq_true (by omega)];rfl
 have k85:v 85=1:=by rw [(Pg hs),decide_eq_true (by omega)];rfl
 have k87:v 87=1:=by rw [(QV hs),decide_eq_true (by omega)];rfl
 have w89:v 89=v 26-v 25:=by rw [(Qs hs),Go.IntWalk.i64_in _ (by omega)]
 have k90:v 90=1:=by rw [(NL hs),decide_eq_true (by omega)];rfl
 have k92:v 92=1:=by rw [(QU hs),decide_eq_true (by omega)];rfl
 have k93:v 93=1:=by rw [(PD hs),decide_eq_true (by omega)];rfl
 have k95:v 95=1:=by rw [(PV hs),decide_eq_true (by omega)];rfl
 have k97:v 97=1:=by rw [(Pt hs),decide_eq_true (by omega)];rfl
 have k99:v 99=1:=by rw [(RB hs),decide_eq_true (by omega)];rfl
 have k101:v 101=1:=by rw [(Ml hs),decide_eq_true (by omega)];rfl
 have k102:v 102=1:=by rw [(KE hs),decide_eq_true (by omega)];rfl
 have k104:v 104=1:=by rw [(MJ hs),decide_eq_true (by omega)];rfl
 have k106:v 106=1:=by rw [(MS hs),decide_eq_true (by omega)];rfl
 have k108:v 108=1:=by rw [(JO hs),decide_eq_true (by omega)];rfl
 have k111:v 111=1:=by rw [(Ma hs),decide_eq_true (by omega)];rfl
 have k112:v 112=1:=by rw [(Mq hs),decide_eq_true (by omega)];rfl
 have k114:v 114=1:=by rw [(MR hs),decide_eq_true (by omega)];rfl
 have k116:v 116=1:=by rw [(MC hs),decide_eq_true (by omega)];rfl
 have k118:v 118=1:=by rw [(J4 hs),decide_eq_true (by omega)];rfl
 intro x hx;have hx':x=.bool (decide (v 124≠0)):=hx;have hr:v 124=1:=(CU hs k5 k6 k8 k10 k19 k24 k27 k34 k42 k43 k45 k58 k65 k66 k80 k85 k87 k90 k92 k93 k95 k97 k99 k101 k102 k104 k106 k108 k111 k112 k114 k116 k118);rw [hx',hr];rfl
