/- The law GreatcircleThere: sailing the course and the distance to a point leads there. -/
import Derived.Test.YtmldbeipmappnaaZGt
import Derived.Test.YtmldbeipmappnaaZThr
set_option linter.unusedVariables false
set_option linter.unusedSimpArgs false
set_option maxRecDepth 100000
set_option maxHeartbeats 8000000
namespace Go.Proofs.Ytmldbeipmappnaa
open Go.RowKit Alm Sx
def NV (a b c d k j g h:Int):Prop:=(-5400000<=a/\a<=b/\b<=5400000)/\NC c d/\cu k j=true/\(0<=g/\g<=h/\h<=21600000)
def nK (a b c d k j g h:Int):List Int:=[(fO a b c d k j g h).getD 0 0,(fO a b c d k j g h).getD 1 0,(fO a b c d k j g h).getD 2 0,(fO a b c d k j g h).getD 3 0,0]
def kTh (f:Nat):Bool:=f==84
def adR:Nat->List Int->List Int
 | 84,[a,b,c,d,k,j,g,h]=>nK a b c d k j g h
 | _,_=>[]
def adP:Nat->List Int->Prop
 | 84,[a,b,c,d,k,j,g,h]=>NV a b c d k j g h
 | _,_=>False
def dh (args:List Int):Cx:=(cxT args).plus kTh adR adP
theorem Vh (args:List Int):om (dh args):=jg (Uy args) fun f h=>by
 unfold kTh;rcases h with h|rfl
 . simp;omega
 . rfl
def Lm:Sx.Spec:=⟨16,84,[(true,[some .i64,some .i64,some .i64,some .i64]),(true,[some .i64,some .i64,some .i64,some .i64])],[(true,[some .i64,some .i64,some .i64,some .i64]),(false,[some .i64])]⟩
theorem Jc (args:List Int):aH Try.prog (dh args) Lm:=by
 refine dV rfl (ours _ _ _ Try.func16 rfl (by kernel_rfl)) fun xs hp w=>?_
 match xs,hp with
 | [a,b,c,d,k,j,g,h],hp=>exact Zj a b c d k j g h w hp.1 hp.2.1 hp.2.2.1 hp.2.2.2
def Zc:List Sx.Spec:=[AJ,Lm,qF]
theorem Rt (args:List Int):∀ s∈Zc,aH Try.prog (dh args) s:=by
 intro s hs;simp only [Zc,List.mem_cons,List.not_mem_nil,or_false] at hs;rcases hs with rfl|rfl|rfl
 . exact eT rfl (xD args)
 . exact Jc args
 . exact eT rfl (mE args)
def TR (t:Tab):Nd->Option Rf
 | .app 20 0 []=>some (.c 1)
 | x=>vE t x
theorem xm (args:List Int):gJ (dh args) TR:=by
 intro v t x r ht h;unfold TR at h;split at h
 . cases h;rfl
 . exact iU (Vh args) v t x r ht h
theorem Di (x y z u w:Int):[x,y,z,u,w].getD 0 0=x/\[x,y,z,u,w].getD 1 0=y/\[x,y,z,u,w].getD 2 0=z/\[x,y,z,u,w].getD 3 0=u/\[x,y,z,u,w].getD 4 0=w:=⟨rfl,rfl,rfl,rfl,rfl⟩
theorem UG {x r c u z:Int} (hx:-100000000<=x/\x<=100000000) (hr:r=Int.tmod x 21600000) (hc:c=b2i (decide (r<0))) (hu:u=IntKind.i64.wrap (r+21600000)) (hz:z=if c≠0 then u else r):z=x%21600000:=by
 have b1:=Int.tmod_lt_of_pos x (show (0:Int)<21600000 by omega)
 have b2:=Int.tmod_lt_of_pos (-x) (show (0:Int)<21600000 by omega)
 rw [Int.neg_tmod] at b2;rw [Go.IntWalk.i64_in _ (by omega)] at hu
 rw [hz,hc,jk,hu,hr];rw [Int.tmod_eq_emod] at *
 split<;>split<;>omega
theorem LY (a b c d k j g h:Int):(nK a b c d k j g h).getD 0 0=(fO a b c d k j g h).getD 0 0:=(Di _ _ _ _ _).1
theorem Nt (a b c d k j g h:Int):(nK a b c d k j g h).getD 1 0=(fO a b c d k j g h).getD 1 0:=(Di _ _ _ _ _).2.1
theorem Oz (a b c d k j g h:Int):(nK a b c d k j g h).getD 2 0=(fO a b c d k j g h).getD 2 0:=(Di _ _ _ _ _).2.2.1
theorem Lu (a b c d k j g h:Int):(nK a b c d k j g h).getD 3 0=(fO a b c d k j g h).getD 3 0:=(Di _ _ _ _ _).2.2.2.1
theorem M4 (a b c d k j g h:Int):(nK a b c d k j g h).getD 4 0=0:=(Di _ _ _ _ _).2.2.2.2
def bi:List Nd:=[
 .arg 0,
 .arg 1,
 .arg 2,
 .arg 3,
 .app 20 0 [],
 .ite (.n 4) (.c 0) (.c 1),
 .ite (.n 5) (.c 0) (.c 1),
 .app 75 0 [.n 0,.n 1,.n 2,.n 3],
 .app 75 1 [.n 0,.n 1,.n 2,.n 3],
 .app 75 2 [.n 0,.n 1,.n 2,.n 3],
 .app 75 3 [.n 0,.n 1,.n 2,.n 3],
 .app 75 4 [.n 0,.n 1,.n 2,.n 3],
 .app 75 0 [.n 2,.n 3,.n 0,.n 1],
 .app 75 1 [.n 2,.n 3,.n 0,.n 1],
 .app 75 2 [.n 2,.n 3,.n 0,.n 1],
 .app 75 3 [.n 2,.n 3,.n 0,.n 1],
 .app 75 4 [.n 2,.n 3,.n 0,.n 1],
 .bin .neq .i64 (.n 11) (.c 0),
 .bin .neq .i64 (.n 16) (.c 0),
 .ite (.n 17) (.c 1) (.n 18),
 .bin .eql .i64 (.n 11) (.n 16),
 .ite (.n 19) (.c 0) (.c 1),
 .app 84 0 [.n 0,.n 0,.n 1,.n 1,.n 7,.n 8,.n 9,.n 10],
 .app 84 1 [.n 0,.n 0,.n 1,.n 1,.n 7,.n 8,.n 9,.n 10],
 .app 84 2 [.n 0,.n 0,.n 1,.n 1,.n 7,.n 8,.n 9,.n 10],
 .app 84 3 [.n 0,.n 0,.n 1,.n 1,.n 7,.n 8,.n 9,.n 10],
 .app 84 4 [.n 0,.n 0,.n 1,.n 1,.n 7,.n 8,.n 9,.n 10],
 .app 84 0 [.n 2,.n 2,.n 3,.n 3,.n 12,.n 13,.n 14,.n 15],
 .app 84 1 [.n 2,.n 2,.n 3,.n 3,.n 12,.n 13,.n 14,.n 15],
 .app 84 2 [.n 2,.n 2,.n 3,.n 3,.n 12,.n 13,.n 14,.n 15],
 .app 84 3 [.n 2,.n 2,.n 3,.n 3,.n 12,.n 13,.n 14,.n 15],
 .app 84 4 [.n 2,.n 2,.n 3,.n 3,.n 12,.n 13,.n 14,.n 15],
 .bin .eql .i64 (.n 9) (.n 14),
 .bin .eql .i64 (.n 10) (.n 15),
 .ite (.n 32) (.n 33) (.c 0),
 .bin .eql .i64 (.n 26) (.c 0),
 .ite (.n 34) (.n 35) (.c 0),
 .bin .lss .i64 (.n 2) (.n 22),
 .bin .gtr .i64 (.n 2) (.n 23),
 .ite (.n 37) (.c 1) (.n 38),
 .ite (.n 39) (.c 0) (.c 1),
 .bin .eql .i64 (.n 2) (.c (-5400000)),
 .bin .eql .i64 (.n 2) (.c 5400000),
 .ite (.n 41) (.c 1) (.n 42),
 .bin .sub .i64 (.n 3) (.n 24),
 .bin .rem .i64 (.n 44) (.c 21600000),
 .bin .lss .i64 (.n 45) (.c 0),
 .bin .add .i64 (.n 45) (.c 21600000),
 .ite (.n 46) (.c 0) (.c 1),
 .ite (.n 46) (.n 47) (.n 45),
 .bin .sub .i64 (.n 25) (.n 24),
 .bin .leq .i64 (.n 49) (.n 50),
 .ite (.n 43) (.c 1) (.n 51),
 .ite (.n 39) (.c 0) (.n 52),
 .ite (.n 36) (.n 53) (.c 0),
 .bin .eql .i64 (.n 31) (.c 0),
 .ite (.n 54) (.n 55) (.c 0),
 .bin .lss .i64 (.n 0) (.n 27),
 .bin .gtr .i64 (.n 0) (.n 28),
 .ite (.n 57) (.c 1) (.n 58),
 .ite (.n 59) (.c 0) (.c 1),
 .bin .eql .i64 (.n 0) (.c (-5400000)),
 .bin .eql .i64 (.n 0) (.c 5400000),
 .ite (.n 61) (.c 1) (.n 62),
 .bin .sub .i64 (.n 1) (.n 29),
 .bin .rem .i64 (.n 64) (.c 21600000),
 .bin .lss .i64 (.n 65) (.c 0),
 .bin .add .i64 (.n 65) (.c 21600000),
 .ite (.n 66) (.c 0) (.c 1),
 .ite (.n 66) (.n 67) (.n 65),
 .bin .sub .i64 (.n 30) (.n 29),
 .bin .leq .i64 (.n 69) (.n 70),
 .ite (.n 63) (.c 1) (.n 71),
 .ite (.n 59) (.c 0) (.n 72),
 .ite (.n 56) (.n 73) (.c 0),
 .ite (.n 19) (.n 20) (.n 74),
 .ite (.n 5) (.c 0) (.n 75)]
def EA:List Vc:=[
 ⟨[],.pre 20 []⟩,
 ⟨[(.n 6,true)],.pre 75 [.n 0,.n 1,.n 2,.n 3]⟩,
 ⟨[(.n 6,true)],.pre 75 [.n 2,.n 3,.n 0,.n 1]⟩,
 ⟨[(.n 21,true),(.n 6,true)],.pre 84 [.n 0,.n 0,.n 1,.n 1,.n 7,.n 8,.n 9,.n 10]⟩,
 ⟨[(.n 21,true),(.n 6,true)],.pre 84 [.n 2,.n 2,.n 3,.n 3,.n 12,.n 13,.n 14,.n 15]⟩]
theorem Xp:whole Try.prog Zc 20 40 4 [(true,[some .i64,some .i64]),(true,[some .i64,some .i64])]=some (.p (.c (.bool (.n 76))),⟨bi.reverse,EA.reverse⟩):=by kernel_rfl
theorem Zr:wfN bi.reverse=true:=by kernel_rfl
theorem abY {ar:List Int} {v:Nat->Int} (hs:aA (dh ar) v bi.reverse):v 7=(invV (v 0) (v 1) (v 2) (v 3)).getD 0 0:=ae hs 7 rfl
theorem abS {ar:List Int} {v:Nat->Int} (hs:aA (dh ar) v bi.reverse):v 8=(invV (v 0) (v 1) (v 2) (v 3)).getD 1 0:=ae hs 8 rfl
theorem acz {ar:List Int} {v:Nat->Int} (hs:aA (dh ar) v bi.reverse):v 9=(invV (v 0) (v 1) (v 2) (v 3)).getD 2 0:=ae hs 9 rfl
theorem WX {ar:List Int} {v:Nat->Int} (hs:aA (dh ar) v bi.reverse):v 10=(invV (v 0) (v 1) (v 2) (v 3)).getD 3 0:=ae hs 10 rfl
theorem YM {ar:List Int} {v:Nat->Int} (hs:aA (dh ar) v bi.reverse):v 11=(invV (v 0) (v 1) (v 2) (v 3)).getD 4 0:=ae hs 11 rfl
theorem abk {ar:List Int} {v:Nat->Int} (hs:aA (dh ar) v bi.reverse):v 12=(invV (v 2) (v 3) (v 0) (v 1)).getD 0 0:=ae hs 12 rfl
theorem Vu {ar:List Int} {v:Nat->Int} (hs:aA (dh ar) v bi.reverse):v 13=(invV (v 2) (v 3) (v 0) (v 1)).getD 1 0:=ae hs 13 rfl
theorem Xz {ar:List Int} {v:Nat->Int} (hs:aA (dh ar) v bi.reverse):v 14=(invV (v 2) (v 3) (v 0) (v 1)).getD 2 0:=ae hs 14 rfl
theorem abh {ar:List Int} {v:Nat->Int} (hs:aA (dh ar) v bi.reverse):v 15=(invV (v 2) (v 3) (v 0) (v 1)).getD 3 0:=ae hs 15 rfl
theorem Vz {ar:List Int} {v:Nat->Int} (hs:aA (dh ar) v bi.reverse):v 16=(invV (v 2) (v 3) (v 0) (v 1)).getD 4 0:=ae hs 16 rfl
theorem OW {ar:List Int} {v:Nat->Int} (hs:aA (dh ar) v bi.reverse) (k11:v 11=1) (k16:v 16=1):v 21=0:=by
 refine ak (X:=dh ar) (v:=v) (l:=bi) (xm _) hs (k:=21) (r:=.c 0) (ps:=[(11,.c 1),(16,.c 1)]) (nz:=[]) ?_ az (by kernel_rfl)
 intro y hy;simp only [List.mem_cons,List.not_mem_nil,or_false] at hy;rcases hy with rfl|rfl<;>assumption
theorem S9 {ar:List Int} {v:Nat->Int} (k21:v 21=0):∀ c∈EA,c.holds (dh ar) v :=
 ag (fun _=>trivial) (ag (fun _=>trivial) (ag (fun _=>trivial) (ag (fun hp=>absurd k21 ((au hp).1)) (ag (fun hp=>absurd k21 ((au hp).1)) (bN)))))
theorem OA {ar:List Int} {v:Nat->Int} (hs:aA (dh ar) v bi.reverse) (k11:v 11=1) (k16:v 16=1):v 76=1:=by
 refine ak (X:=dh ar) (v:=v) (l:=bi) (xm _) hs (k:=76) (r:=.c 1) (ps:=[(11,.c 1),(16,.c 1)]) (nz:=[]) ?_ az (by kernel_rfl)
 intro y hy;simp only [List.mem_cons,List.not_mem_nil,or_false] at hy;rcases hy with rfl|rfl<;>assumption
theorem aa4 {ar:List Int} {v:Nat->Int} (hs:aA (dh ar) v bi.reverse):v 22=(fO (v 0) (v 0) (v 1) (v 1) (v 7) (v 8) (v 9) (v 10)).getD 0 0:=(show v 22=(nK (v 0) (v 0) (v 1) (v 1) (v 7) (v 8) (v 9) (v 10)).getD 0 0 from ae hs 22 rfl).trans (LY _ _ _ _ _ _ _ _)
theorem Wt {ar:List Int} {v:Nat->Int} (hs:aA (dh ar) v bi.reverse):v 23=(fO (v 0) (v 0) (v 1) (v 1) (v 7) (v 8) (v 9) (v 10)).getD 1 0:=(show v 23=(nK (v 0) (v 0) (v 1) (v 1) (v 7) (v 8) (v 9) (v 10)).getD 1 0 from ae hs 23 rfl).trans (Nt _ _ _ _ _ _ _ _)
theorem YS {ar:List Int} {v:Nat->Int} (hs:aA (dh ar) v bi.reverse):v 24=(fO (v 0) (v 0) (v 1) (v 1) (v 7) (v 8) (v 9) (v 10)).getD 2 0:=(show v 24=(nK (v 0) (v 0) (v 1) (v 1) (v 7) (v 8) (v 9) (v 10)).getD 2 0 from ae hs 24 rfl).trans (Oz _ _ _ _ _ _ _ _)
theorem UX {ar:List Int} {v:Nat->Int} (hs:aA (dh ar) v bi.reverse):v 25=(fO (v 0) (v 0) (v 1) (v 1) (v 7) (v 8) (v 9) (v 10)).getD 3 0:=(show v 25=(nK (v 0) (v 0) (v 1) (v 1) (v 7) (v 8) (v 9) (v 10)).getD 3 0 from ae hs 25 rfl).trans (Lu _ _ _ _ _ _ _ _)
theorem aaW {ar:List Int} {v:Nat->Int} (hs:aA (dh ar) v bi.reverse):v 26=0:=(show v 26=(nK (v 0) (v 0) (v 1) (v 1) (v 7) (v 8) (v 9) (v 10)).getD 4 0 from ae hs 26 rfl).trans (M4 _ _ _ _ _ _ _ _)
theorem Wi {ar:List Int} {v:Nat->Int} (hs:aA (dh ar) v bi.reverse):v 27=(fO (v 2) (v 2) (v 3) (v 3) (v 12) (v 13) (v 14) (v 15)).getD 0 0:=(show v 27=(nK (v 2) (v 2) (v 3) (v 3) (v 12) (v 13) (v 14) (v 15)).getD 0 0 from ae hs 27 rfl).trans (LY _ _ _ _ _ _ _ _)
theorem aac {ar:List Int} {v:Nat->Int} (hs:aA (dh ar) v bi.reverse):v 28=(fO (v 2) (v 2) (v 3) (v 3) (v 12) (v 13) (v 14) (v 15)).getD 1 0:=(show v 28=(nK (v 2) (v 2) (v 3) (v 3) (v 12) (v 13) (v 14) (v 15)).getD 1 0 from ae hs 28 rfl).trans (Nt _ _ _ _ _ _ _ _)
theorem aan {ar:List Int} {v:Nat->Int} (hs:aA (dh ar) v bi.reverse):v 29=(fO (v 2) (v 2) (v 3) (v 3) (v 12) (v 13) (v 14) (v 15)).getD 2 0:=(show v 29=(nK (v 2) (v 2) (v 3) (v 3) (v 12) (v 13) (v 14) (v 15)).getD 2 0 from ae hs 29 rfl).trans (Oz _ _ _ _ _ _ _ _)
theorem YC {ar:List Int} {v:Nat->Int} (hs:aA (dh ar) v bi.reverse):v 30=(fO (v 2) (v 2) (v 3) (v 3) (v 12) (v 13) (v 14) (v 15)).getD 3 0:=(show v 30=(nK (v 2) (v 2) (v 3) (v 3) (v 12) (v 13) (v 14) (v 15)).getD 3 0 from ae hs 30 rfl).trans (Lu _ _ _ _ _ _ _ _)
theorem XE {ar:List Int} {v:Nat->Int} (hs:aA (dh ar) v bi.reverse):v 31=0:=(show v 31=(nK (v 2) (v 2) (v 3) (v 3) (v 12) (v 13) (v 14) (v 15)).getD 4 0 from ae hs 31 rfl).trans (M4 _ _ _ _ _ _ _ _)
theorem Rx {ar:List Int} {v:Nat->Int} (Q1:NV (v 0) (v 0) (v 1) (v 1) (v 7) (v 8) (v 9) (v 10)) (Q2:NV (v 2) (v 2) (v 3) (v 3) (v 12) (v 13) (v 14) (v 15)):∀ c∈EA,c.holds (dh ar) v :=
 ag (fun _=>trivial) (ag (fun _=>trivial) (ag (fun _=>trivial) (ag (fun _=>Q1) (ag (fun _=>Q2) (bN)))))
theorem Va {ar:List Int} {v:Nat->Int} (hs:aA (dh ar) v bi.reverse):v 32=b2i (v 9==v 14):=ae hs 32 rfl
theorem VD {ar:List Int} {v:Nat->Int} (hs:aA (dh ar) v bi.reverse):v 33=b2i (v 10==v 15):=ae hs 33 rfl
theorem VP {ar:List Int} {v:Nat->Int} (hs:aA (dh ar) v bi.reverse):v 37=b2i (decide (v 2<v 22)):=ae hs 37 rfl
theorem WN {ar:List Int} {v:Nat->Int} (hs:aA (dh ar) v bi.reverse):v 38=b2i (decide (v 2>v 23)):=ae hs 38 rfl
theorem YJ {ar:List Int} {v:Nat->Int} (hs:aA (dh ar) v bi.reverse):v 57=b2i (decide (v 0<v 27)):=ae hs 57 rfl
theorem Zt {ar:List Int} {v:Nat->Int} (hs:aA (dh ar) v bi.reverse):v 58=b2i (decide (v 0>v 28)):=ae hs 58 rfl
theorem Xg {ar:List Int} {v:Nat->Int} (hs:aA (dh ar) v bi.reverse):v 44=IntKind.i64.wrap (v 3-v 24):=ae hs 44 rfl
theorem WO {ar:List Int} {v:Nat->Int} (hs:aA (dh ar) v bi.reverse):v 50=IntKind.i64.wrap (v 25-v 24):=ae hs 50 rfl
theorem WU {ar:List Int} {v:Nat->Int} (hs:aA (dh ar) v bi.reverse):v 45=Int.tmod (v 44) 21600000:=ae hs 45 rfl
theorem VI {ar:List Int} {v:Nat->Int} (hs:aA (dh ar) v bi.reverse):v 46=b2i (decide (v 45<0)):=ae hs 46 rfl
theorem Wx {ar:List Int} {v:Nat->Int} (hs:aA (dh ar) v bi.reverse):v 47=IntKind.i64.wrap (v 45+21600000):=ae hs 47 rfl
theorem UU {ar:List Int} {v:Nat->Int} (hs:aA (dh ar) v bi.reverse):v 49=if v 46≠0 then v 47 else v 45:=ae hs 49 rfl
theorem YH {ar:List Int} {v:Nat->Int} (hs:aA (dh ar) v bi.reverse):v 51=b2i (decide (v 49<=v 50)):=ae hs 51 rfl
theorem WR {ar:List Int} {v:Nat->Int} (hs:aA (dh ar) v bi.reverse):v 64=IntKind.i64.wrap (v 1-v 29):=ae hs 64 rfl
theorem Yv {ar:List Int} {v:Nat->Int} (hs:aA (dh ar) v bi.reverse):v 70=IntKind.i64.wrap (v 30-v 29):=ae hs 70 rfl
theorem XK {ar:List Int} {v:Nat->Int} (hs:aA (dh ar) v bi.reverse):v 65=Int.tmod (v 64) 21600000:=ae hs 65 rfl
theorem Wu {ar:List Int} {v:Nat->Int} (hs:aA (dh ar) v bi.reverse):v 66=b2i (decide (v 65<0)):=ae hs 66 rfl
theorem aaI {ar:List Int} {v:Nat->Int} (hs:aA (dh ar) v bi.reverse):v 67=IntKind.i64.wrap (v 65+21600000):=ae hs 67 rfl
theorem VW {ar:List Int} {v:Nat->Int} (hs:aA (dh ar) v bi.reverse):v 69=if v 66≠0 then v 67 else v 65:=ae hs 69 rfl
theorem VH {ar:List Int} {v:Nat->Int} (hs:aA (dh ar) v bi.reverse):v 71=b2i (decide (v 69<=v 70)):=ae hs 71 rfl
theorem MG {ar:List Int} {v:Nat->Int} (hs:aA (dh ar) v bi.reverse) (k11:v 11=0) (k16:v 16=0) (k26:v 26=0) (k31:v 31=0) (k32:v 32=1) (k33:v 33=1) (k37:v 37=0) (k38:v 38=0) (k51:v 51=1) (k57:v 57=0) (k58:v 58=0) (k71:v 71=1):v 76=1:=by
 refine ak (X:=dh ar) (v:=v) (l:=bi) (xm _) hs (k:=76) (r:=.c 1) (ps:=[(11,.c 0),(16,.c 0),(26,.c 0),(31,.c 0),(32,.c 1),(33,.c 1),(37,.c 0),(38,.c 0),(51,.c 1),(57,.c 0),(58,.c 0),(71,.c 1)]) (nz:=[]) ?_ az (by kernel_rfl)
 intro y hy;simp only [List.mem_cons,List.not_mem_nil,or_false] at hy;rcases hy with rfl|rfl|rfl|rfl|rfl|rfl|rfl|rfl|rfl|rfl|rfl|rfl<;>assumption
theorem MU (a0 a1 a2 a3:Int) (w:World):Calls Try.prog 4 #[.agg #[.int .i64 a0,.int .i64 a1],.agg #[.int .i64 a2,.int .i64 a3]] w fun e w'=>e=.returned (.bool true)/\Below w.heap.size w w':=by
 refine Sx.calls (X:=dh [a0,a1,a2,a3]) dX (Rt _) Xp Zr (fun v hs=>?_) w
 have x7:v 7=(invV (v 0) (v 1) (v 2) (v 3)).getD 0 0:=(abY hs);have x8:v 8=(invV (v 0) (v 1) (v 2) (v 3)).getD 1 0:=(abS hs);have x9:v 9=(invV (v 0) (v 1) (v 2) (v 3)).getD 2 0:=(acz hs);have x10:v 10=(invV (v 0) (v 1) (v 2) (v 3)).getD 3 0:=(WX hs);have x11:v 11=(invV (v 0) (v 1) (v 2) (v 3)).getD 4 0:=(YM hs);have x12:v 12=(invV (v 2) (v 3) (v 0) (v 1)).getD 0 0:=(abk hs);have x13:v 13=(invV (v 2) (v 3) (v 0) (v 1)).getD 1 0:=(Vu hs);have x14:v 14=(invV (v 2) (v 3) (v 0) (v 1)).getD 2 0:=(Xz hs);have x15:v 15=(invV (v 2) (v 3) (v 0) (v 1)).getD 3 0:=(abh hs);have x16:v 16=(invV (v 2) (v 3) (v 0) (v 1)).getD 4 0:=(Vz hs)
 have bad:∀ a b c d:Int,¬ (PtV a b/\PtV c d)->(invV a b c d).getD 4 0=1:=fun a b c d h=>by
  have e:invV a b c d=[0,0,0,0,1]:=if_neg h;rw [e];rfl
 have good:∀ a b c d:Int,PtV a b->PtV c d->(invV a b c d).getD 0 0=(aX a b c d).getD 0 0/\(invV a b c d).getD 1 0=(aX a b c d).getD 1 0/\(invV a b c d).getD 2 0=(aP a b c d).getD 0 0/\(invV a b c d).getD 3 0=(aP a b c d).getD 1 0/\(invV a b c d).getD 4 0=0:=fun a b c d h1 h2=>by
  have e:invV a b c d=[(aX a b c d).getD 0 0,(aX a b c d).getD 1 0,(aP a b c d).getD 0 0,(aP a b c d).getD 1 0,0]:=if_pos ⟨h1,h2⟩;rw [e];exact TP _ _ _ _ _
 by_cases hv:PtV (v 0) (v 1)/\PtV (v 2) (v 3)
 rotate_left
 . have k11:v 11=1:=by rw [x11];exact bad _ _ _ _ hv
   have k16:v 16=1:=by rw [x16];exact bad _ _ _ _ (fun q=>hv ⟨q.2,q.1⟩)
   have k21:v 21=0:=(OW hs k11 k16);refine ⟨bO (S9 k21),?_⟩;intro x hx;have hx':x=.bool (decide (v 76≠0)):=hx;have hr:v 76=1:=(OA hs k11 k16);rw [hx',hr];rfl
 have h1:=hv.1;have h2:=hv.2;have k11:v 11=0:=by rw [x11];exact (good _ _ _ _ h1 h2).2.2.2.2
 have k16:v 16=0:=by rw [x16];exact (good _ _ _ _ h2 h1).2.2.2.2
 have y7:=x7.trans (good _ _ _ _ h1 h2).1;have y8:=x8.trans (good _ _ _ _ h1 h2).2.1;have y9:=x9.trans (good _ _ _ _ h1 h2).2.2.1;have y10:=x10.trans (good _ _ _ _ h1 h2).2.2.2.1;have y12:=x12.trans (good _ _ _ _ h2 h1).1;have y13:=x13.trans (good _ _ _ _ h2 h1).2.1;have y14:=x14.trans (good _ _ _ _ h2 h1).2.2.1;have y15:=x15.trans (good _ _ _ _ h2 h1).2.2.2.1;have D1:=sF (v 0) (v 1) (v 2) (v 3) h1 h2;have D2:=sF (v 2) (v 3) (v 0) (v 1) h2 h1;have C1:=xO (v 0) (v 1) (v 2) (v 3);have C2:=xO (v 2) (v 3) (v 0) (v 1);have H1:=there_holds (v 0) (v 1) (v 2) (v 3) h1 h2 D1 _ rfl;have H2:=there_holds (v 2) (v 3) (v 0) (v 1) h2 h1 D2 _ rfl;have Y:=Sk (v 0) (v 1) (v 2) (v 3);have e9:v 9=v 14:=by rw [y9,y14,Y]
 have e10:v 10=v 15:=by rw [y10,y15,Y]
 have z22:v 22=(fO (v 0) (v 0) (v 1) (v 1) (v 7) (v 8) (v 9) (v 10)).getD 0 0:=aa4 hs;have z23:v 23=(fO (v 0) (v 0) (v 1) (v 1) (v 7) (v 8) (v 9) (v 10)).getD 1 0:=Wt hs;have z24:v 24=(fO (v 0) (v 0) (v 1) (v 1) (v 7) (v 8) (v 9) (v 10)).getD 2 0:=YS hs;have z25:v 25=(fO (v 0) (v 0) (v 1) (v 1) (v 7) (v 8) (v 9) (v 10)).getD 3 0:=UX hs;have k26:v 26=0:=aaW hs;have z27:v 27=(fO (v 2) (v 2) (v 3) (v 3) (v 12) (v 13) (v 14) (v 15)).getD 0 0:=Wi hs;have z28:v 28=(fO (v 2) (v 2) (v 3) (v 3) (v 12) (v 13) (v 14) (v 15)).getD 1 0:=aac hs;have z29:v 29=(fO (v 2) (v 2) (v 3) (v 3) (v 12) (v 13) (v 14) (v 15)).getD 2 0:=aan hs;have z30:v 30=(fO (v 2) (v 2) (v 3) (v 3) (v 12) (v 13) (v 14) (v 15)).getD 3 0:=YC hs;have k31:v 31=0:=XE hs;rw [<-y7,<-y8,<-y9,<-y10,<-z22,<-z23,<-z24,<-z25] at H1;rw [<-y12,<-y13,<-y14,<-y15,<-z27,<-z28,<-z29,<-z30] at H2;rw [<-y9,<-y10] at D1;rw [<-y14,<-y15] at D2;rw [<-y7,<-y8] at C1;rw [<-y12,<-y13] at C2;clear x7 x8 x9 x10 x11 x12 x13 x14 x15 x16 y7 y8 y9 y10 y12 y13 y14 y15 z22 z23 z24 z25 z27 z28 z29 z30 good bad Y hv;unfold PtV at h1 h2;have Q1:NV (v 0) (v 0) (v 1) (v 1) (v 7) (v 8) (v 9) (v 10):=⟨⟨by omega,by omega,by omega⟩,.inr ⟨by omega,by omega,by omega,by omega⟩,(cK _ _).2 (by omega),by omega⟩
 have Q2:NV (v 2) (v 2) (v 3) (v 3) (v 12) (v 13) (v 14) (v 15):=⟨⟨by omega,by omega,by omega⟩,.inr ⟨by omega,by omega,by omega,by omega⟩,(cK _ _).2 (by omega),by omega⟩
 refine ⟨bO (Rx Q1 Q2),?_⟩;clear Q1 Q2 C1 C2 D1 D2;have k32:v 32=1:=by rw [(Va hs),show v 9=v 14 from (by exact e9),beq_self_eq_true];rfl
 have k33:v 33=1:=by rw [(VD hs),show v 10=v 15 from (by exact e10),beq_self_eq_true];rfl
 have k37:v 37=0:=by rw [(VP hs),decide_eq_false (by exact Int.not_lt.2 H1.1.1)];rfl
 have k38:v 38=0:=by rw [(WN hs),decide_eq_false (by exact Int.not_lt.2 H1.1.2)];rfl
 have k57:v 57=0:=by rw [(YJ hs),decide_eq_false (by exact Int.not_lt.2 H2.1.1)];rfl
 have k58:v 58=0:=by rw [(Zt hs),decide_eq_false (by exact Int.not_lt.2 H2.1.2)];rfl
 have k51:v 51=1:=by
  have hh:=H1.2;have b2:=h2;clear H1 H2 h1 h2 e9 e10;have bd:-10800000<=v 24/\v 24<=10800000/\v 24<=v 25/\v 25<=32400000:=by omega
  have w44:v 44=v 3-v 24:=by rw [(Xg hs),Go.IntWalk.i64_in _ (by omega)]
  have w50:v 50=v 25-v 24:=by rw [(WO hs),Go.IntWalk.i64_in _ (by omega)]
  have w49:=UG (x:=v 44) (r:=v 45) (c:=v 46) (u:=v 47) (z:=v 49) (by omega) (WU hs) (VI hs) (Wx hs) (UU hs)
  rw [(YH hs),decide_eq_true (by rw [w49,w50,w44];omega)];rfl
 have k71:v 71=1:=by
  have hh:=H2.2;have b2:=h1;clear H1 H2 h1 h2 e9 e10;have bd:-10800000<=v 29/\v 29<=10800000/\v 29<=v 30/\v 30<=32400000:=by omega
  have w64:v 64=v 1-v 29:=by rw [(WR hs),Go.IntWalk.i64_in _ (by omega)]
  have w70:v 70=v 30-v 29:=by rw [(Yv hs),Go.IntWalk.i64_in _ (by omega)]
  have w69:=UG (x:=v 64) (r:=v 65) (c:=v 66) (u:=v 67) (z:=v 69) (by omega) (XK hs) (Wu hs) (aaI hs) (VW hs)
  rw [(VH hs),decide_eq_true (by rw [w69,w70,w64];omega)];rfl
 intro x hx;have hx':x=.bool (decide (v 76≠0)):=hx;have hr:v 76=1:=(MG hs k11 k16 k26 k31 k32 k33 k37 k38 k51 k57 k58 k71);rw [hx',hr];rfl
