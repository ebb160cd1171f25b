/- The law RhumbBack: the way back. -/
import Derived.Test.YtcfpmdndgbpfpaaZRhV
import Derived.Test.YtcfpmdndgbpfpaaZRhW
import Derived.Test.YtcfpmdndgbpfpaaZMir
set_option linter.unusedVariables false
set_option linter.unusedSimpArgs false
set_option maxRecDepth 100000
set_option maxHeartbeats 1000000
namespace Go.Proofs.Ytcfpmdndgbpfpaa
open Go.RowKit Alm Sx
def kLv (f:Nat):Bool:=f==102 || f==20
def bcL (a0 a1 b0 b1:Int):Int:=bv (64*ivL a0 a1 b0 b1) (64*ivH a0 a1 b0 b1) (64*(b0-a0)) (64*(b0-a0))
def bcH (a0 a1 b0 b1:Int):Int:=bT (64*ivL a0 a1 b0 b1) (64*ivH a0 a1 b0 b1) (64*(b0-a0)) (64*(b0-a0))
def dsL (a0 a1 b0 b1:Int):Int:=rtF ((b0-a0)*(b0-a0)+cz (ivL a0 a1 b0 b1) (ivH a0 a1 b0 b1)*cz (ivL a0 a1 b0 b1) (ivH a0 a1 b0 b1))
def dsH (a0 a1 b0 b1:Int):Int:=rtC ((b0-a0)*(b0-a0)+dW (ivL a0 a1 b0 b1) (ivH a0 a1 b0 b1)*dW (ivL a0 a1 b0 b1) (ivH a0 a1 b0 b1))
def iQ:Nat->List Int->List Int
 | 102,[a,b,c,d]=>[bcL a b c d,bcH a b c d,dsL a b c d,dsH a b c d,0]
 | 20,[]=>[1]
 | _,_=>[]
def Jy:Nat->List Int->Prop
 | 102,[a,b,c,d]=>(-5340000<=a/\a<=5340000)/\(-10800000<=b/\b<10800000)/\(-5340000<=c/\c<=5340000)/\(-10800000<=d/\d<10800000)
 | 20,[]=>True
 | _,_=>False
def Rw (args:List Int):Cx:=(cxE args).plus kLv iQ Jy
def Oc:Sx.Spec:=⟨13,102,[(true,[some .i64,some .i64]),(true,[some .i64,some .i64])],[(true,[some .i64,some .i64,some .i64,some .i64]),(false,[some .i64])]⟩
def Pb:List Sx.Spec:=[Oc,SH]
theorem LK (args:List Int):∀ s∈Pb,bE Try.prog (Rw args) s:=by
 intro s hs;simp only [Pb,List.mem_cons,List.not_mem_nil,or_false] at hs;rcases hs with rfl|rfl
 . refine gW rfl (ours _ _ _ Try.func13 rfl (by kernel_rfl)) fun xs hp w=>?_
   match xs,hp with
   | [a,b,c,d],hp=>exact Tj a b c d w hp.1 hp.2.1 hp.2.2.1 hp.2.2.2
 . refine gW rfl (ours _ _ _ Try.func6 rfl (by kernel_rfl)) fun xs hp w=>?_
   match xs,hp with
   | [],hp=>exact Ey w
theorem nR {p q:Prop} [Decidable p] [Decidable q]:(if b2i (decide p)≠0 then b2i (decide q) else 0)=b2i (decide (p/\q)):=by
 by_cases h1:p<;>by_cases h2:q<;>simp [b2i,h1,h2]
theorem CK {x13 x14 x15 x16 x17 x18:Int} {P Q R:Prop} [Decidable P] [Decidable Q] [Decidable R] (h:¬ P∨Q∨R) (e13:x13=b2i (decide P)) (e15:x15=b2i (decide Q)) (e17:x17=b2i (decide R)) (e14:x14=if x13≠0 then 0 else 1) (e16:x16=if x14≠0 then 1 else x15) (e18:x18=if x16≠0 then 1 else x17):x18=1:=by
 rw [e18,e16,e14,e13,e15,e17]
 by_cases p:P<;>by_cases q:Q<;>by_cases r:R<;>simp [p,q,r,b2i] at h ⊢
theorem Qm (l h n:Int):pY l h (-n)=-rV l h n/\rV l h (-n)=-pY l h n:=by
 have f:∀ x:Int,qFl x (-n) 1073741824=-qCe x n 1073741824/\qCe x (-n) 1073741824=-qFl x n 1073741824:=by
  intro x;unfold qFl qCe;rw [Int.mul_neg];generalize x*n=z
  constructor<;>omega
 have a:=f l;have b:=f h;unfold pY rV;rw [a.1,a.2,b.1,b.2];omega
theorem NF (x y:Int) (hx:-10800000<=x/\x<10800000) (hy:-10800000<=y/\y<10800000) (h1:x-y≠10800000) (h2:y-x≠10800000):sgt (x-y)=-sgt (y-x):=by
 unfold sgt;split<;>split<;>omega
theorem BH (a0 a1 b0 b1:Int) (h1:-10800000<=a1/\a1<10800000) (h3:-10800000<=b1/\b1<10800000) (n1:a1-b1≠10800000) (n2:b1-a1≠10800000):ivL b0 b1 a0 a1=-ivH a0 a1 b0 b1/\ivH b0 b1 a0 a1=-ivL a0 a1 b0 b1:=by
 unfold ivL ivH ivD;rw [NF a1 b1 h1 h3 n1 n2,show min b0 a0=min a0 b0 by omega,show max b0 a0=max a0 b0 by omega]
 exact Qm _ _ _
theorem ym (l u:Int):cz (-u) (-l)=cz l u/\dW (-u) (-l)=dW l u:=by
 unfold cz dW
 constructor
 . split<;>split<;>omega
 . omega
theorem KM (a0 a1 b0 b1:Int) (h1:-10800000<=a1/\a1<10800000) (h3:-10800000<=b1/\b1<10800000) (n1:a1-b1≠10800000) (n2:b1-a1≠10800000):dsL b0 b1 a0 a1=dsL a0 a1 b0 b1/\dsH b0 b1 a0 a1=dsH a0 a1 b0 b1:=by
 have i:=BH a0 a1 b0 b1 h1 h3 n1 n2;unfold dsL dsH;rw [i.1,i.2,(ym _ _).1,(ym _ _).2,show a0-b0=-(b0-a0) by omega,Int.neg_mul_neg]
 exact ⟨rfl,rfl⟩
theorem JX (a0 a1 b0 b1:Int) (h0:-5340000<=a0/\a0<=5340000) (h1:-10800000<=a1/\a1<10800000) (h2:-5340000<=b0/\b0<=5340000) (h3:-10800000<=b1/\b1<10800000) (n1:a1-b1≠10800000) (n2:b1-a1≠10800000) :
 (bcH a0 a1 b0 b1-bcL a0 a1 b0 b1>=21600000->bcL b0 b1 a0 a1=0/\bcH b0 b1 a0 a1=21600000)/\(¬ bcH a0 a1 b0 b1-bcL a0 a1 b0 b1>=21600000->bcL b0 b1 a0 a1=(bcL a0 a1 b0 b1+10800000)%21600000/\bcH b0 b1 a0 a1=(bcL a0 a1 b0 b1+10800000)%21600000+(bcH a0 a1 b0 b1-bcL a0 a1 b0 b1)):=by
 have i:=BH a0 a1 b0 b1 h1 h3 n1 n2;have B:=Ib a0 a1 b0 b1 h0 h2;unfold bcL bcH;rw [i.1,i.2];generalize ivL a0 a1 b0 b1=l at *
 generalize ivH a0 a1 b0 b1=u at *
 rw [show 64*-u=-(64*u) by omega,show 64*-l=-(64*l) by omega,show 64*(a0-b0)=-(64*(b0-a0)) by omega]
 have r:=zO (yl:=64*l) (yh:=64*u) (xl:=64*(b0-a0)) (xh:=64*(b0-a0)) (by omega) (by omega) (by omega) (by omega)
 cases ho:dI (64*l) (64*u) (64*(b0-a0)) (64*(b0-a0))
 . rw [ho,if_neg (by decide)] at r
   have s:=Ei (yl:=64*l) (yh:=64*u) (xl:=64*(b0-a0)) (xh:=64*(b0-a0)) (by omega) (by omega) (by omega) (by omega) ho
   exact ⟨fun h=>absurd h (by omega),fun _=>⟨r.1,by rw [r.2,r.1]⟩⟩
 . rw [ho,if_pos rfl] at r
   have ho2:dI (-(64*u)) (-(64*l)) (-(64*(b0-a0))) (-(64*(b0-a0)))=true:=by
    unfold dI at ho ⊢
    simp only [decide_eq_true_eq] at ho ⊢
    omega
   have r2:=zO (yl:=-(64*u)) (yh:=-(64*l)) (xl:=-(64*(b0-a0))) (xh:=-(64*(b0-a0))) (by omega) (by omega) (by omega) (by omega)
   rw [ho2,if_pos rfl,Int.neg_neg,Int.neg_neg,Int.neg_neg] at r2;exact ⟨fun _=>r,fun h=>absurd (show _>=_ by rw [r2.1,r2.2];decide) h⟩
def yD:List Nd:=[
 .arg 0,
 .arg 1,
 .arg 2,
 .arg 3,
 .app 20 0 [],
 .ite (.n 4) (.c 0) (.c 1),
 .ite (.n 5) (.c 0) (.c 1),
 .bin .geq .i64 (.n 0) (.c (-5400000)),
 .bin .leq .i64 (.n 0) (.c 5400000),
 .ite (.n 7) (.n 8) (.c 0),
 .bin .geq .i64 (.n 1) (.c (-10800000)),
 .ite (.n 9) (.n 10) (.c 0),
 .bin .lss .i64 (.n 1) (.c 10800000),
 .ite (.n 11) (.n 12) (.c 0),
 .ite (.n 13) (.c 0) (.c 1),
 .bin .lss .i64 (.n 0) (.c (-5340000)),
 .ite (.n 14) (.c 1) (.n 15),
 .bin .gtr .i64 (.n 0) (.c 5340000),
 .ite (.n 16) (.c 1) (.n 17),
 .bin .geq .i64 (.n 2) (.c (-5400000)),
 .bin .leq .i64 (.n 2) (.c 5400000),
 .ite (.n 19) (.n 20) (.c 0),
 .bin .geq .i64 (.n 3) (.c (-10800000)),
 .ite (.n 21) (.n 22) (.c 0),
 .bin .lss .i64 (.n 3) (.c 10800000),
 .ite (.n 23) (.n 24) (.c 0),
 .ite (.n 25) (.c 0) (.c 1),
 .bin .lss .i64 (.n 2) (.c (-5340000)),
 .ite (.n 26) (.c 1) (.n 27),
 .bin .gtr .i64 (.n 2) (.c 5340000),
 .ite (.n 28) (.c 1) (.n 29),
 .ite (.n 18) (.c 1) (.n 30),
 .bin .sub .i64 (.n 1) (.n 3),
 .bin .eql .i64 (.n 32) (.c 10800000),
 .ite (.n 31) (.c 1) (.n 33),
 .bin .sub .i64 (.n 3) (.n 1),
 .bin .eql .i64 (.n 35) (.c 10800000),
 .ite (.n 34) (.c 1) (.n 36),
 .ite (.n 37) (.c 0) (.c 1),
 .app 102 0 [.n 0,.n 1,.n 2,.n 3],
 .app 102 1 [.n 0,.n 1,.n 2,.n 3],
 .app 102 2 [.n 0,.n 1,.n 2,.n 3],
 .app 102 3 [.n 0,.n 1,.n 2,.n 3],
 .app 102 4 [.n 0,.n 1,.n 2,.n 3],
 .app 102 0 [.n 2,.n 3,.n 0,.n 1],
 .app 102 1 [.n 2,.n 3,.n 0,.n 1],
 .app 102 2 [.n 2,.n 3,.n 0,.n 1],
 .app 102 3 [.n 2,.n 3,.n 0,.n 1],
 .app 102 4 [.n 2,.n 3,.n 0,.n 1],
 .bin .neq .i64 (.n 43) (.c 0),
 .bin .neq .i64 (.n 48) (.c 0),
 .ite (.n 49) (.c 1) (.n 50),
 .bin .leq .i64 (.n 39) (.n 40),
 .bin .geq .i64 (.n 39) (.c (-1099511627776)),
 .ite (.n 52) (.n 53) (.c 0),
 .bin .leq .i64 (.n 40) (.c 1099511627776),
 .ite (.n 54) (.n 55) (.c 0),
 .ite (.n 56) (.c 0) (.c 1),
 .ite (.n 51) (.c 1) (.n 57),
 .bin .gtr .i64 (.n 40) (.c 43200000),
 .ite (.n 58) (.c 1) (.n 59),
 .ite (.n 60) (.c 0) (.c 1),
 .bin .add .i64 (.n 39) (.c 10800000),
 .bin .add .i64 (.n 40) (.c 10800000),
 .bin .sub .i64 (.n 63) (.n 62),
 .bin .leq .i64 (.n 62) (.n 63),
 .bin .geq .i64 (.n 62) (.c (-1099511627776)),
 .bin .leq .i64 (.n 62) (.c 1099511627776),
 .ite (.n 66) (.n 67) (.c 0),
 .ite (.n 65) (.n 68) (.c 0),
 .bin .geq .i64 (.n 63) (.c (-1099511627776)),
 .bin .leq .i64 (.n 63) (.c 1099511627776),
 .ite (.n 70) (.n 71) (.c 0),
 .ite (.n 69) (.n 72) (.c 0),
 .ite (.n 73) (.c 0) (.c 1),
 .bin .geq .i64 (.n 64) (.c 21600000),
 .bin .rem .i64 (.n 62) (.c 21600000),
 .bin .lss .i64 (.n 76) (.c 0),
 .bin .add .i64 (.n 76) (.c 21600000),
 .ite (.n 77) (.c 0) (.c 1),
 .ite (.n 77) (.n 78) (.n 76),
 .bin .add .i64 (.n 80) (.n 64),
 .ite (.n 75) (.c 0) (.c 1),
 .ite (.n 75) (.c 0) (.n 80),
 .ite (.n 75) (.c 21600000) (.n 81),
 .ite (.n 74) (.c 0) (.n 83),
 .ite (.n 74) (.c 0) (.n 84),
 .bin .eql .i64 (.n 74) (.c 0),
 .bin .eql .i64 (.n 44) (.n 85),
 .bin .eql .i64 (.n 45) (.n 86),
 .ite (.n 88) (.n 89) (.c 0),
 .ite (.n 87) (.n 90) (.c 0),
 .bin .eql .i64 (.n 46) (.n 41),
 .bin .eql .i64 (.n 47) (.n 42),
 .ite (.n 92) (.n 93) (.c 0),
 .ite (.n 91) (.n 94) (.c 0),
 .ite (.n 60) (.c 0) (.n 95),
 .ite (.n 37) (.c 1) (.n 96),
 .ite (.n 5) (.c 0) (.n 97)]
def FY:List Vc:=[
 ⟨[],.pre 20 []⟩,
 ⟨[(.n 38,true),(.n 6,true)],.pre 102 [.n 0,.n 1,.n 2,.n 3]⟩,
 ⟨[(.n 38,true),(.n 6,true)],.pre 102 [.n 2,.n 3,.n 0,.n 1]⟩]
theorem IA:whole Try.prog Pb 20 40 5 [(true,[some .i64,some .i64]),(true,[some .i64,some .i64])]=some (.p (.c (.bool (.n 98))),⟨yD.reverse,FY.reverse⟩):=by kernel_rfl
theorem Gb:wfN yD.reverse=true:=by kernel_rfl
theorem J2 (a b c d:Int) (w:World):Calls Try.prog 5 #[.agg #[.int .i64 a,.int .i64 b],.agg #[.int .i64 c,.int .i64 d]] w fun e w'=>e=.returned (.bool true)/\Below w.heap.size w w':=by
 refine Sx.calls (X:=Rw [a,b,c,d]) iY (LK _) IA Gb (fun v hs=>?_) w
 have e0:v 0=a:=ai hs 0 rfl;have e1:v 1=b:=ai hs 1 rfl;have e2:v 2=c:=ai hs 2 rfl;have e3:v 3=d:=ai hs 3 rfl;have e4:v 4=(iQ 20 []).getD 0 0:=ai hs 4 rfl;have e5:v 5=if v 4≠0 then (0:Int) else (1:Int):=ai hs 5 rfl
 have e6:v 6=if v 5≠0 then (0:Int) else (1:Int):=ai hs 6 rfl
 have e7:v 7=b2i (decide (v 0>=(-5400000:Int))):=ai hs 7 rfl;have e8:v 8=b2i (decide (v 0<=(5400000:Int))):=ai hs 8 rfl;have e9:v 9=if v 7≠0 then v 8 else (0:Int):=ai hs 9 rfl
 have e10:v 10=b2i (decide (v 1>=(-10800000:Int))):=ai hs 10 rfl;have e11:v 11=if v 9≠0 then v 10 else (0:Int):=ai hs 11 rfl
 have e12:v 12=b2i (decide (v 1<(10800000:Int))):=ai hs 12 rfl;have e13:v 13=if v 11≠0 then v 12 else (0:Int):=ai hs 13 rfl
 have e14:v 14=if v 13≠0 then (0:Int) else (1:Int):=ai hs 14 rfl
 have e15:v 15=b2i (decide (v 0<(-5340000:Int))):=ai hs 15 rfl;have e16:v 16=if v 14≠0 then (1:Int) else v 15:=ai hs 16 rfl
 have e17:v 17=b2i (decide (v 0>(5340000:Int))):=ai hs 17 rfl;have e18:v 18=if v 16≠0 then (1:Int) else v 17:=ai hs 18 rfl
 have e19:v 19=b2i (decide (v 2>=(-5400000:Int))):=ai hs 19 rfl;have e20:v 20=b2i (decide (v 2<=(5400000:Int))):=ai hs 20 rfl;have e21:v 21=if v 19≠0 then v 20 else (0:Int):=ai hs 21 rfl
 have e22:v 22=b2i (decide (v 3>=(-10800000:Int))):=ai hs 22 rfl;have e23:v 23=if v 21≠0 then v 22 else (0:Int):=ai hs 23 rfl
 have e24:v 24=b2i (decide (v 3<(10800000:Int))):=ai hs 24 rfl;have e25:v 25=if v 23≠0 then v 24 else (0:Int):=ai hs 25 rfl
 have e26:v 26=if v 25≠0 then (0:Int) else (1:Int):=ai hs 26 rfl
 have e27:v 27=b2i (decide (v 2<(-5340000:Int))):=ai hs 27 rfl;have e28:v 28=if v 26≠0 then (1:Int) else v 27:=ai hs 28 rfl
 have e29:v 29=b2i (decide (v 2>(5340000:Int))):=ai hs 29 rfl;have e30:v 30=if v 28≠0 then (1:Int) else v 29:=ai hs 30 rfl
 have e31:v 31=if v 18≠0 then (1:Int) else v 30:=ai hs 31 rfl
 have e32:v 32=IntKind.i64.wrap (v 1-v 3):=ai hs 32 rfl;have e33:v 33=b2i (v 32==(10800000:Int)):=ai hs 33 rfl;have e34:v 34=if v 31≠0 then (1:Int) else v 33:=ai hs 34 rfl
 have e35:v 35=IntKind.i64.wrap (v 3-v 1):=ai hs 35 rfl;have e36:v 36=b2i (v 35==(10800000:Int)):=ai hs 36 rfl;have e37:v 37=if v 34≠0 then (1:Int) else v 36:=ai hs 37 rfl
 have e38:v 38=if v 37≠0 then (0:Int) else (1:Int):=ai hs 38 rfl
 have e39:v 39=(iQ 102 [v 0,v 1,v 2,v 3]).getD 0 0:=ai hs 39 rfl;have e40:v 40=(iQ 102 [v 0,v 1,v 2,v 3]).getD 1 0:=ai hs 40 rfl;have e41:v 41=(iQ 102 [v 0,v 1,v 2,v 3]).getD 2 0:=ai hs 41 rfl;have e42:v 42=(iQ 102 [v 0,v 1,v 2,v 3]).getD 3 0:=ai hs 42 rfl;have e43:v 43=(iQ 102 [v 0,v 1,v 2,v 3]).getD 4 0:=ai hs 43 rfl;have e44:v 44=(iQ 102 [v 2,v 3,v 0,v 1]).getD 0 0:=ai hs 44 rfl;have e45:v 45=(iQ 102 [v 2,v 3,v 0,v 1]).getD 1 0:=ai hs 45 rfl;have e46:v 46=(iQ 102 [v 2,v 3,v 0,v 1]).getD 2 0:=ai hs 46 rfl;have e47:v 47=(iQ 102 [v 2,v 3,v 0,v 1]).getD 3 0:=ai hs 47 rfl;have e48:v 48=(iQ 102 [v 2,v 3,v 0,v 1]).getD 4 0:=ai hs 48 rfl;have e49:v 49=b2i (v 43 != (0:Int)):=ai hs 49 rfl;have e50:v 50=b2i (v 48 != (0:Int)):=ai hs 50 rfl;have e51:v 51=if v 49≠0 then (1:Int) else v 50:=ai hs 51 rfl
 have e52:v 52=b2i (decide (v 39<=v 40)):=ai hs 52 rfl;have e53:v 53=b2i (decide (v 39>=(-1099511627776:Int))):=ai hs 53 rfl;have e54:v 54=if v 52≠0 then v 53 else (0:Int):=ai hs 54 rfl
 have e55:v 55=b2i (decide (v 40<=(1099511627776:Int))):=ai hs 55 rfl;have e56:v 56=if v 54≠0 then v 55 else (0:Int):=ai hs 56 rfl
 have e57:v 57=if v 56≠0 then (0:Int) else (1:Int):=ai hs 57 rfl
 have e58:v 58=if v 51≠0 then (1:Int) else v 57:=ai hs 58 rfl
 have e59:v 59=b2i (decide (v 40>(43200000:Int))):=ai hs 59 rfl;have e60:v 60=if v 58≠0 then (1:Int) else v 59:=ai hs 60 rfl
 have e61:v 61=if v 60≠0 then (0:Int) else (1:Int):=ai hs 61 rfl
 have e62:v 62=IntKind.i64.wrap (v 39+(10800000:Int)):=ai hs 62 rfl;have e63:v 63=IntKind.i64.wrap (v 40+(10800000:Int)):=ai hs 63 rfl;have e64:v 64=IntKind.i64.wrap (v 63-v 62):=ai hs 64 rfl;have e65:v 65=b2i (decide (v 62<=v 63)):=ai hs 65 rfl;have e66:v 66=b2i (decide (v 62>=(-1099511627776:Int))):=ai hs 66 rfl;have e67:v 67=b2i (decide (v 62<=(1099511627776:Int))):=ai hs 67 rfl;have e68:v 68=if v 66≠0 then v 67 else (0:Int):=ai hs 68 rfl
 have e69:v 69=if v 65≠0 then v 68 else (0:Int):=ai hs 69 rfl
 have e70:v 70=b2i (decide (v 63>=(-1099511627776:Int))):=ai hs 70 rfl;have e71:v 71=b2i (decide (v 63<=(1099511627776:Int))):=ai hs 71 rfl;have e72:v 72=if v 70≠0 then v 71 else (0:Int):=ai hs 72 rfl
 have e73:v 73=if v 69≠0 then v 72 else (0:Int):=ai hs 73 rfl
 have e74:v 74=if v 73≠0 then (0:Int) else (1:Int):=ai hs 74 rfl
 have e75:v 75=b2i (decide (v 64>=(21600000:Int))):=ai hs 75 rfl;have e76:v 76=Int.tmod (v 62) ((21600000:Int)):=ai hs 76 rfl;have e77:v 77=b2i (decide (v 76<(0:Int))):=ai hs 77 rfl;have e78:v 78=IntKind.i64.wrap (v 76+(21600000:Int)):=ai hs 78 rfl;have e79:v 79=if v 77≠0 then (0:Int) else (1:Int):=ai hs 79 rfl
 have e80:v 80=if v 77≠0 then v 78 else v 76:=ai hs 80 rfl
 have e81:v 81=IntKind.i64.wrap (v 80+v 64):=ai hs 81 rfl;have e82:v 82=if v 75≠0 then (0:Int) else (1:Int):=ai hs 82 rfl
 have e83:v 83=if v 75≠0 then (0:Int) else v 80:=ai hs 83 rfl
 have e84:v 84=if v 75≠0 then (21600000:Int) else v 81:=ai hs 84 rfl
 have e85:v 85=if v 74≠0 then (0:Int) else v 83:=ai hs 85 rfl
 have e86:v 86=if v 74≠0 then (0:Int) else v 84:=ai hs 86 rfl
 have e87:v 87=b2i (v 74==(0:Int)):=ai hs 87 rfl;have e88:v 88=b2i (v 44==v 85):=ai hs 88 rfl;have e89:v 89=b2i (v 45==v 86):=ai hs 89 rfl;have e90:v 90=if v 88≠0 then v 89 else (0:Int):=ai hs 90 rfl
 have e91:v 91=if v 87≠0 then v 90 else (0:Int):=ai hs 91 rfl
 have e92:v 92=b2i (v 46==v 41):=ai hs 92 rfl;have e93:v 93=b2i (v 47==v 42):=ai hs 93 rfl;have e94:v 94=if v 92≠0 then v 93 else (0:Int):=ai hs 94 rfl
 have e95:v 95=if v 91≠0 then v 94 else (0:Int):=ai hs 95 rfl
 have e96:v 96=if v 60≠0 then (0:Int) else v 95:=ai hs 96 rfl
 have e97:v 97=if v 37≠0 then (1:Int) else v 96:=ai hs 97 rfl
 have e98:v 98=if v 5≠0 then (0:Int) else v 97:=ai hs 98 rfl
 have a4:v 4=1:=e4;have a5:v 5=0:=by rw [e5,a4];rfl
 have a6:v 6=1:=by rw [e6,a5];rfl
 by_cases g:((-5340000<=a/\a<=5340000)/\(-10800000<=b/\b<10800000))/\((-5340000<=c/\c<=5340000)/\(-10800000<=d/\d<10800000))/\b-d≠10800000/\d-b≠10800000
 . obtain ⟨⟨g0,g1⟩,⟨g2,g3⟩,n1,n2⟩:=g;have a13:v 13=1:=by rw [e13,e11,e9,e7,e8,e10,e12,e0,e1,decide_eq_true (by omega),decide_eq_true (by omega),decide_eq_true (by omega),decide_eq_true (by omega)];rfl
   have a18:v 18=0:=by rw [e18,e16,e14,a13,e15,e17,e0,decide_eq_false (by omega),decide_eq_false (by omega)];rfl
   have a25:v 25=1:=by rw [e25,e23,e21,e19,e20,e22,e24,e2,e3,decide_eq_true (by omega),decide_eq_true (by omega),decide_eq_true (by omega),decide_eq_true (by omega)];rfl
   have a30:v 30=0:=by rw [e30,e28,e26,a25,e27,e29,e2,decide_eq_false (by omega),decide_eq_false (by omega)];rfl
   have a32:v 32=b-d:=by rw [e32,e1,e3,Go.IntWalk.i64_in _ (by omega)]
   have a35:v 35=d-b:=by rw [e35,e1,e3,Go.IntWalk.i64_in _ (by omega)]
   have a37:v 37=0:=by
    have k1:(v 32==10800000)=false:=by rw [a32];simpa using n1
    have k2:(v 35==10800000)=false:=by rw [a35];simpa using n2
    rw [e37,e34,e31,a18,a30,e33,k1,e36,k2];rfl
   have P1:Jy 102 [v 0,v 1,v 2,v 3]:=by show (-5340000<=v 0/\v 0<=5340000)/\(-10800000<=v 1/\v 1<10800000)/\(-5340000<=v 2/\v 2<=5340000)/\(-10800000<=v 3/\v 3<10800000);omega
   have P2:Jy 102 [v 2,v 3,v 0,v 1]:=by show (-5340000<=v 2/\v 2<=5340000)/\(-10800000<=v 3/\v 3<10800000)/\(-5340000<=v 0/\v 0<=5340000)/\(-10800000<=v 1/\v 1<10800000);omega
   have a39:v 39=bcL a b c d:=by rw [<-e0,<-e1,<-e2,<-e3];exact e39
   have a40:v 40=bcH a b c d:=by rw [<-e0,<-e1,<-e2,<-e3];exact e40
   have a41:v 41=dsL a b c d:=by rw [<-e0,<-e1,<-e2,<-e3];exact e41
   have a42:v 42=dsH a b c d:=by rw [<-e0,<-e1,<-e2,<-e3];exact e42
   have a43:v 43=0:=e43;have a44:v 44=bcL c d a b:=by rw [<-e0,<-e1,<-e2,<-e3];exact e44
   have a45:v 45=bcH c d a b:=by rw [<-e0,<-e1,<-e2,<-e3];exact e45
   have a46:v 46=dsL c d a b:=by rw [<-e0,<-e1,<-e2,<-e3];exact e46
   have a47:v 47=dsH c d a b:=by rw [<-e0,<-e1,<-e2,<-e3];exact e47
   have a48:v 48=0:=e48;have DB:=KM a b c d g1 g3 n1 n2;have BB:=JX a b c d g0 g1 g2 g3 n1 n2;have bd:=JU (64*ivL a b c d) (64*ivH a b c d) (64*(c-a)) (64*(c-a));have bd':0<=bcL a b c d/\bcL a b c d<=21599999/\bcL a b c d<=bcH a b c d/\bcH a b c d<=bcL a b c d+21600000:=bd;clear bd;generalize bcL a b c d=L at *
   generalize bcH a b c d=H at *
   have a60:v 60=0:=by
    rw [e60,e58,e51,e49,a43,e50,a48,e57,e56,e54,e52,e53,e55,e59,a39,a40,decide_eq_true (by omega),decide_eq_true (by omega),decide_eq_true (by omega),decide_eq_false (by omega)];rfl
   have a62:v 62=L+10800000:=by rw [e62,a39,Go.IntWalk.i64_in _ (by omega)]
   have a63:v 63=H+10800000:=by rw [e63,a40,Go.IntWalk.i64_in _ (by omega)]
   have a64:v 64=H-L:=by rw [e64,a62,a63,Go.IntWalk.i64_in _ (by omega)];omega
   have a74:v 74=0:=by
    rw [e74,e73,e69,e65,e68,e66,e67,e72,e70,e71,a62,a63,decide_eq_true (by omega),decide_eq_true (by omega),decide_eq_true (by omega),decide_eq_true (by omega),decide_eq_true (by omega)];rfl
   have a80:v 80=(L+10800000)%21600000:=by rw [<-a62];exact yH (x:=v 62) (by omega) e76 e77 e78 e80
   have m1:=Int.emod_nonneg (L+10800000) (show (21600000:Int)≠0 by decide)
   have m2:=Int.emod_lt_of_pos (L+10800000) (show (0:Int)<21600000 by decide)
   have a81:v 81=(L+10800000)%21600000+(H-L):=by rw [e81,a80,a64,Go.IntWalk.i64_in _ (by omega)]
   have a90:v 90=1:=by
    have h85:v 44=v 85/\v 45=v 86:=by
     rw [e85,e86,a74,e83,e84,e75,a64,a80,a81,a44,a45]
     by_cases w:H-L>=21600000
     . have k:=BB.1 w;simp [w,k.1,k.2,b2i]
     . have k:=BB.2 w;simp [w,k.1,k.2,b2i]
    rw [e90,e88,e89,h85.1,h85.2];simp [b2i]
   have a94:v 94=1:=by rw [e94,e92,e93,a46,a47,a41,a42,DB.1,DB.2];simp [b2i]
   have a91:v 91=1:=by rw [e91,e87,a74,a90];rfl
   have a98:v 98=1:=by rw [e98,a5,e97,a37,e96,a60,e95,a91,a94];rfl
   refine ⟨jN ?_,?_⟩
   . exact aL (fun _=>trivial) (aL (fun _=>P1) (aL (fun _=>P2) (jV)))
   . intro x hx0;have hx':=jK (v:=v) (by rfl) hx0
     rw [hx'];show Value.bool (decide (v 98≠0))=_;rw [a98];rfl
 . have a37:v 37=1:=by
    by_cases p1:(-5340000<=a/\a<=5340000)/\(-10800000<=b/\b<10800000)
    . by_cases p2:(-5340000<=c/\c<=5340000)/\(-10800000<=d/\d<10800000)
      . have a32:v 32=b-d:=by rw [e32,e1,e3,Go.IntWalk.i64_in _ (by omega)]
        have a35:v 35=d-b:=by rw [e35,e1,e3,Go.IntWalk.i64_in _ (by omega)]
        rw [e37,e34,e33,e36,a32,a35]
        by_cases z1:b-d=10800000
        . by_cases z:v 31≠0<;>simp [z,z1,b2i]
        . have z2:d-b=10800000:=by omega
          by_cases z:v 31≠0<;>by_cases z3:b-d=10800000<;>simp [z,z3,z2,b2i]
      . have a30:v 30=1:=by
         have k25:v 25=b2i (decide (((c>=-5400000/\c<=5400000)/\d>=-10800000)/\d<10800000)):=by rw [e25,e23,e21,e19,e20,e22,e24,e2,e3,nR,nR,nR]
         refine CK (Q:=c < -5340000) (R:=c>5340000) ?_ k25 (by rw [e27,e2]) (by rw [e29,e2]) e26 e28 e30
         omega
        have a31:v 31=1:=by rw [e31,a30];split<;>rfl
        rw [e37,e34,a31];rfl
    . have a18:v 18=1:=by
       have k13:v 13=b2i (decide (((a>=-5400000/\a<=5400000)/\b>=-10800000)/\b<10800000)):=by rw [e13,e11,e9,e7,e8,e10,e12,e0,e1,nR,nR,nR]
       refine CK (Q:=a < -5340000) (R:=a>5340000) ?_ k13 (by rw [e15,e0]) (by rw [e17,e0]) e14 e16 e18
       omega
      have a31:v 31=1:=by rw [e31,a18];rfl
      rw [e37,e34,a31];rfl
   have a38:v 38=0:=by rw [e38,a37];rfl
   have a98:v 98=1:=by rw [e98,a5,e97,a37];rfl
   refine ⟨jN ?_,?_⟩
   . exact aL (fun _=>trivial) (aL (fun hp=>absurd a38 (jQ hp).1) (aL (fun hp=>absurd a38 (jQ hp).1) (jV)))
   . intro x hx0;have hx':=jK (v:=v) (by rfl) hx0
     rw [hx'];show Value.bool (decide (v 98≠0))=_;rw [a98];rfl
