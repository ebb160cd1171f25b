/- The enclosure of the cosine over an arc of latitudes, against exact cosines. -/
import Derived.Test.YtbcnifkfaknnaaaGreatZRhK
import Derived.Test.YtbcnifkfaknnaaaGreatZUAdd
import Derived.Test.YtbcnifkfaknnaaaGreatZBin
import Derived.Test.YtbcnifkfaknnaaaGreatZRhP
set_option linter.unusedVariables false
set_option linter.unusedSimpArgs false
set_option maxRecDepth 100000
namespace Go.Proofs.YtbcnifkfaknnaaaGreat
open Go.RowKit Alm Sx
theorem BV (n:Int):dF n n=bLo n/\dH n n=bHi n:=by
 unfold dF dH
 constructor
 . by_cases h:bK n n 16200000=true
   . rw [if_pos h];unfold bK aj at h;have e:=(mY n 16200000 (by have:=of_decide_eq_true h;omega)).1
     rw [e];decide +kernel
   . rw [if_neg h];omega
 . by_cases h:bK n n 5400000=true
   . rw [if_pos h];unfold bK aj at h;have e:=(mY n 5400000 (by have:=of_decide_eq_true h;omega)).2
     rw [e];decide +kernel
   . rw [if_neg h];omega
theorem Py (x:Int) (h0:0<=x) (h1:x<=5400000):bLo (x+5400000)=bLo (5400000-x)/\bHi (x+5400000)=bHi (5400000-x):=by
 by_cases z:x=0
 . subst z;exact ⟨rfl,rfl⟩
 . have w1:aj (x+5400000)=x+5400000:=by unfold aj;omega
   have w2:aj (5400000-x)=5400000-x:=by unfold aj;omega
   have f:aI (x+5400000)=aI (5400000-x):=by unfold aI;rw [w1,w2];simp only [];split<;>split<;>(first|omega|(split<;>omega)|(split<;>split<;>omega))
   have s:bu (x+5400000)=bu (5400000-x):=by unfold bu;rw [w1,w2];simp;omega
   unfold bLo bHi;rw [f,s];exact ⟨rfl,rfl⟩
def mR:Rat:=1073741824*(11*ee)
theorem jH:0<=mR/\mR<=1/1000000000000:=by unfold mR ee;constructor<;>decide +kernel
theorem QY (L H:Int) (c z e u:Rat) (h1:(L:Rat)*u-2*e<=c) (h2:c<=(H:Rat)*u+2*e) (k1:-(9*e)<=c-z) (k2:c-z<=9*e) (hu:1073741824*u=1):(L:Rat)<=1073741824*z+1073741824*(11*e)/\1073741824*z<=(H:Rat)+1073741824*(11*e):=by
 have a:(L:Rat)=1073741824*((L:Rat)*u):=by rw [show 1073741824*((L:Rat)*u)=(L:Rat)*(1073741824*u) by grind,hu];grind
 have b:(H:Rat)=1073741824*((H:Rat)*u):=by rw [show 1073741824*((H:Rat)*u)=(H:Rat)*(1073741824*u) by grind,hu];grind
 constructor
 . rw [a];grind
 . rw [b];grind
theorem CK:1073741824*u30=1:=by unfold u30;decide +kernel
theorem VA (n:Nat) (h:n<=5340000):(bLo ((n:Int)+5400000):Rat)<=1073741824*zc n+mR/\1073741824*zc n<=(bHi ((n:Int)+5400000):Rat)+mR:=by
 have c:=RA (n:Int);have z:=(gz (n:Int)).2;have w:(aj (n:Int)).toNat=n:=by unfold aj;omega
 rw [w] at z;exact QY _ _ _ _ _ _ c.1 c.2 z.1 z.2 CK
theorem oh (a b x:Int) (h0:-5340000<=a) (hb:b<=5340000) (hx:a<=x) (hx2:x<=b):(dF (a+5400000) (b+5400000):Rat)<=1073741824*zcI x+mR/\1073741824*zcI x<=(dH (a+5400000) (b+5400000):Rat)+mR:=by
 have p:=uq (a+5400000) (b+5400000) (x+5400000) (x+5400000) (by omega) (by omega) (by omega)
 have e:=BV (x+5400000);rw [e.1,e.2] at p
 have k:(bLo (x+5400000):Rat)<=1073741824*zcI x+mR/\1073741824*zcI x<=(bHi (x+5400000):Rat)+mR:=by
  have c:=VA x.natAbs (by omega)
  unfold zcI
  by_cases s:0<=x
  . rw [show ((x.natAbs:Nat):Int)=x by omega] at c;exact c
  . have f:=Py (-x) (by omega) (by omega)
    rw [show ((x.natAbs:Nat):Int)=-x by omega,f.1,f.2,show 5400000 - -x=x+5400000 by omega] at c
    exact c
 exact ⟨Rat.le_trans (aJ p.1) k.1,Rat.le_trans k.2 (by have:=aJ p.2;grind)⟩
end Go.Proofs.YtbcnifkfaknnaaaGreat
namespace Go.Proofs.YtbcnifkfaknnaaaGreat
open Go.RowKit Alm Sx
theorem Bp {x m q r c s z:Int} (hx:-100000000000000000<=x/\x<=100000000000000000) (hm:1<=m/\m<=1000000000000) (eq:q=IntKind.i64.wrap (Int.tdiv x m)) (er:r=Int.tmod x m) (ec:c=b2i (decide (r<0))) (es:s=IntKind.i64.wrap (q-1)) (ez:z=if c≠0 then s else q):z=x/m:=by
 have b1:(-100000000000000000:Int)<=x/m:=(Int.le_ediv_iff_mul_le (by omega)).2 (by omega)
 have b2:x/m<100000000000000001:=(Int.ediv_lt_iff_lt_mul (by omega)).2 (by omega)
 rw [Int.tdiv_eq_ediv] at eq;rw [Int.tmod_eq_emod] at er;have m1:=Int.emod_nonneg x (show m≠0 by omega)
 have m2:=Int.emod_lt_of_pos x (show 0<m by omega)
 have sm:Int.sign m=1:=Int.sign_eq_one_of_pos (by omega)
 have na:((Int.natAbs m:Nat):Int)=m:=Int.natAbs_of_nonneg (by omega)
 rw [ez,ec]
 by_cases P:0<=x∨m ∣ x
 . rw [if_pos P,Int.add_zero,Go.IntWalk.i64_in _ (by omega)] at eq
   rw [if_pos P] at er;rw [decide_eq_false (by omega),eq];rfl
 . rw [if_neg P,sm,Go.IntWalk.i64_in _ (by omega)] at eq
   rw [if_neg P] at er;rw [Go.IntWalk.i64_in _ (by omega)] at es
   rw [decide_eq_true (by omega),es,eq]
   show x/m+1-1=_;omega
theorem BL {x y z:Int} (h:z=if y<x then y else x):z=min x y:=by split at h<;>omega
def cqL (a b:Int):Int:=dF (a+5400000) (b+5400000)
def cqH (a b:Int):Int:=dH (a+5400000) (b+5400000)
def fK (a b:Int):Int:=(b-a)*1073741824/(prH b-prL a)
def fF (a b:Int):Int:=-(-(b-a)*1073741824/(prL b-prH a))
def meP (a b:Int):Prop:=a<b/\0<prL b-prH a
instance (a b:Int):Decidable (meP a b):=by unfold meP;infer_instance
def meV (a b:Int):List Int:=if meP a b then [max (cqL a b) (fK a b),min (cqH a b) (min (fF a b) 1073741824),0] else [cqL a b,cqH a b,0]
theorem mZ (a b:Int):-1073741824<=cqL a b/\cqL a b<=cqH a b/\cqH a b<=1073741824:=iX _ _
theorem Lg (a b:Int) (h0:-5340000<=a) (h:a<=b) (hb:b<=5340000):0<=cqL a b:=by
 have pos:∀ x:Int,-5340000<=x->x<=5340000->0<=bLo (x+5400000):=by
  intro x x0 x1;have c:=(oh x x x x0 x1 (Int.le_refl x) (Int.le_refl x)).2;rw [(BV (x+5400000)).2] at c;have z:=(Alm.sc_bd x.natAbs (by omega)).1
  have z':5/1000<=zcI x:=z;have t:=jH;have b:=jA (x+5400000)
  have k:((1:Int):Rat)<=(bHi (x+5400000):Rat):=by
   have e:((1:Int):Rat)=1:=rfl;rw [e];clear z b;generalize (bHi (x+5400000):Rat)=B at *
   generalize zcI x=Z at *
   generalize mR=T at *
   grind
  have k2:1<=bHi (x+5400000):=Rat.intCast_le_intCast.1 k;omega
 have pa:=pos a h0 (by omega)
 have pb:=pos b (by omega) hb
 unfold cqL dF;cases m:bK (a+5400000) (b+5400000) 16200000
 . simp only [Bool.false_eq_true,if_false];omega
 . exfalso;unfold bK aj at m;have:=of_decide_eq_true m;omega
theorem oq (a b:Int) (h0:-5340000<=a) (hb:b<=5340000) (h:meP a b):0<=fK a b/\fK a b<=1073741824/\fK a b<=fF a b/\fK a b<=cqH a b/\cqL a b<=fF a b/\fF a b<=100000000000000000:=by
 obtain ⟨h1,h2⟩:=h;have A:=nZ a (b-a) h0 (by omega) (by omega)
 rw [show a+(b-a)=b by omega] at A
 have B1:=iH a (by omega);have B2:=iH b (by omega)
 have hH:b-a<=prH b-prL a:=by omega
 have hLH:prL b-prH a<=prH b-prL a:=by omega
 have l0:0<=fK a b:=Int.ediv_nonneg (Int.mul_nonneg (by omega) (by decide)) (by omega)
 have lm:fK a b*(prH b-prL a)<=(b-a)*1073741824:=Int.ediv_mul_le _ (by omega)
 have hm:(b-a)*1073741824<=fF a b*(prL b-prH a):=by
  have k:=Int.ediv_mul_le (-(b-a)*1073741824) (show prL b-prH a≠0 by omega)
  unfold fF;rw [Int.neg_mul];have e:-(b-a)*1073741824=-((b-a)*1073741824):=Int.neg_mul _ _;omega
 have m:=JJ a b h0 h1 hb (cqL a b) (cqH a b) (fK a b) (fF a b) mR jH.1 jH.2 (fun x x0 x1=>oh a b x h0 hb x0 x1) (Lg a b h0 (by omega) hb) h2 lm l0 hm
 refine ⟨l0,?_,?_,m.1,m.2,?_⟩
 . refine Int.ediv_le_of_le_mul (by omega) ?_
   have:=Int.mul_le_mul_of_nonneg_left hH (show (0:Int)<=1073741824 by decide)
   omega
 . have k:fK a b*(prL b-prH a)<=fF a b*(prL b-prH a):=by
    have:=Int.mul_le_mul_of_nonneg_left hLH l0;omega
   exact Int.le_of_mul_le_mul_right k h2
 . have k:(-100000000000000000:Int)<=-(b-a)*1073741824/(prL b-prH a):=(Int.le_ediv_iff_mul_le h2).2 (by
    have:-100000000000000000*(prL b-prH a)<=-100000000000000000:=by omega
    omega)
   unfold fF;omega
def DW:List Nd:=[
 .arg 0,
 .arg 1,
 .mn (.n 0) (.n 1),
 .mx (.n 0) (.n 1),
 .app 6 0 [.n 2,.n 3],
 .app 6 1 [.n 2,.n 3],
 .app 6 2 [.n 2,.n 3],
 .bin .neq .i64 (.n 6) (.c 0),
 .ite (.n 7) (.c 0) (.c 1),
 .bin .sub .i64 (.n 1) (.n 0),
 .app 99 0 [.n 1],
 .app 99 1 [.n 1],
 .app 99 2 [.n 1],
 .app 99 0 [.n 0],
 .app 99 1 [.n 0],
 .app 99 2 [.n 0],
 .bin .sub .i64 (.n 10) (.n 14),
 .bin .sub .i64 (.n 11) (.n 13),
 .bin .lss .i64 (.n 17) (.c 0),
 .bin .sub .i64 (.c 0) (.n 9),
 .bin .sub .i64 (.c 0) (.n 17),
 .bin .sub .i64 (.c 0) (.n 16),
 .ite (.n 18) (.c 0) (.c 1),
 .ite (.n 18) (.n 19) (.n 9),
 .ite (.n 18) (.n 20) (.n 16),
 .ite (.n 18) (.n 21) (.n 17),
 .bin .eql .i64 (.n 23) (.c 0),
 .bin .leq .i64 (.n 24) (.c 0),
 .ite (.n 26) (.c 1) (.n 27),
 .ite (.n 28) (.c 0) (.c 1),
 .bin .mul .i64 (.n 23) (.c 1073741824),
 .bin .quo .i64 (.n 30) (.n 25),
 .bin .rem .i64 (.n 30) (.n 25),
 .bin .lss .i64 (.n 32) (.c 0),
 .bin .sub .i64 (.n 31) (.c 1),
 .ite (.n 33) (.c 0) (.c 1),
 .ite (.n 33) (.n 34) (.n 31),
 .bin .sub .i64 (.c 0) (.n 23),
 .bin .mul .i64 (.n 37) (.c 1073741824),
 .bin .quo .i64 (.n 38) (.n 24),
 .bin .rem .i64 (.n 38) (.n 24),
 .bin .lss .i64 (.n 40) (.c 0),
 .bin .sub .i64 (.n 39) (.c 1),
 .ite (.n 41) (.c 0) (.c 1),
 .ite (.n 41) (.n 42) (.n 39),
 .bin .sub .i64 (.c 0) (.n 44),
 .mn (.n 45) (.c 1073741824),
 .bin .geq .i64 (.n 4) (.c (-2147483648)),
 .bin .leq .i64 (.n 4) (.n 5),
 .ite (.n 47) (.n 48) (.c 0),
 .bin .leq .i64 (.n 5) (.c 2147483648),
 .ite (.n 49) (.n 50) (.c 0),
 .bin .geq .i64 (.n 36) (.c (-2147483648)),
 .bin .leq .i64 (.n 36) (.n 46),
 .ite (.n 52) (.n 53) (.c 0),
 .bin .leq .i64 (.n 46) (.c 2147483648),
 .ite (.n 54) (.n 55) (.c 0),
 .ite (.n 51) (.n 56) (.c 0),
 .ite (.n 57) (.c 0) (.c 1),
 .mx (.n 4) (.n 36),
 .mn (.n 5) (.n 46),
 .bin .gtr .i64 (.n 59) (.n 60),
 .ite (.n 61) (.c 0) (.c 1),
 .ite (.n 61) (.c 23) (.c 0),
 .ite (.n 61) (.c 0) (.n 59),
 .ite (.n 61) (.c 0) (.n 60),
 .ite (.n 58) (.c 1) (.n 63),
 .ite (.n 58) (.c 0) (.n 64),
 .ite (.n 58) (.c 0) (.n 65),
 .ite (.n 28) (.c 0) (.n 66),
 .ite (.n 28) (.n 4) (.n 67),
 .ite (.n 28) (.n 5) (.n 68),
 .ite (.n 7) (.n 6) (.n 69),
 .ite (.n 7) (.c 0) (.n 70),
 .ite (.n 7) (.c 0) (.n 71)]
def Kl:List Vc:=[
 ⟨[],.pre 6 [.n 2,.n 3]⟩,
 ⟨[(.n 8,true)],.pre 99 [.n 1]⟩,
 ⟨[(.n 8,true)],.pre 99 [.n 1]⟩,
 ⟨[(.n 8,true)],.pre 99 [.n 0]⟩,
 ⟨[(.n 8,true)],.pre 99 [.n 0]⟩,
 ⟨[(.n 29,true),(.n 8,true)],.ne0 (.n 25)⟩,
 ⟨[(.n 29,true),(.n 8,true)],.ne0 (.n 25)⟩,
 ⟨[(.n 29,true),(.n 8,true)],.ne0 (.n 24)⟩,
 ⟨[(.n 29,true),(.n 8,true)],.ne0 (.n 24)⟩]
theorem Mr:whole Tryz.prog Ej 20 40 17 [(false,[some .i64]),(false,[some .i64])]=some (.tup [.agg [.int .i64 (.n 73),.int .i64 (.n 74)],.c (.int .i64 (.n 72))],⟨DW.reverse,Kl.reverse⟩):=by kernel_rfl
theorem Nw:wfN DW.reverse=true:=by kernel_rfl
theorem JS {n L H qL qH lo hi v30 v31 v32 v33 v34 v36 v37 v38 v39 v40 v41 v42 v44 v45 v46 v47 v48 v49 v50 v51 v52 v53 v54 v55 v56 v57 v58 v59 v60 v61 v63 v64 v65 v66 v67 v68:Int}
 (n0:1<=n) (n1:n<=20000000) (L0:1<=L) (L1:L<=1000000000) (H0:1<=H) (H1:H<=1000000000) (hq:-1073741824<=qL/\qL<=qH/\qH<=1073741824) (elo:lo=n*1073741824/H) (ehi:hi=-(-n*1073741824/L))
 (f:0<=lo/\lo<=1073741824/\lo<=hi/\lo<=qH/\qL<=hi/\hi<=100000000000000000)
 (e30:v30=IntKind.i64.wrap (n*1073741824)) (e31:v31=IntKind.i64.wrap (Int.tdiv v30 H)) (e32:v32=Int.tmod v30 H) (e33:v33=b2i (decide (v32<0))) (e34:v34=IntKind.i64.wrap (v31-1)) (e36:v36=if v33≠0 then v34 else v31)
 (e37:v37=IntKind.i64.wrap (0-n)) (e38:v38=IntKind.i64.wrap (v37*1073741824)) (e39:v39=IntKind.i64.wrap (Int.tdiv v38 L)) (e40:v40=Int.tmod v38 L) (e41:v41=b2i (decide (v40<0))) (e42:v42=IntKind.i64.wrap (v39-1)) (e44:v44=if v41≠0 then v42 else v39) (e45:v45=IntKind.i64.wrap (0-v44)) (e46:v46=if 1073741824<v45 then 1073741824 else v45)
 (e47:v47=b2i (decide (qL>=-2147483648))) (e48:v48=b2i (decide (qL<=qH))) (e49:v49=if v47≠0 then v48 else 0) (e50:v50=b2i (decide (qH<=2147483648))) (e51:v51=if v49≠0 then v50 else 0)
 (e52:v52=b2i (decide (v36>=-2147483648))) (e53:v53=b2i (decide (v36<=v46))) (e54:v54=if v52≠0 then v53 else 0) (e55:v55=b2i (decide (v46<=2147483648))) (e56:v56=if v54≠0 then v55 else 0) (e57:v57=if v51≠0 then v56 else 0) (e58:v58=if v57≠0 then 0 else 1)
 (e59:v59=if v36>qL then v36 else qL) (e60:v60=if v46<qH then v46 else qH) (e61:v61=b2i (decide (v59>v60))) (e63:v63=if v61≠0 then 23 else 0) (e64:v64=if v61≠0 then 0 else v59) (e65:v65=if v61≠0 then 0 else v60) (e66:v66=if v58≠0 then 1 else v63) (e67:v67=if v58≠0 then 0 else v64) (e68:v68=if v58≠0 then 0 else v65) :
 v66=0/\v67=max qL lo/\v68=min qH (min hi 1073741824):=by
 rw [Go.IntWalk.i64_in _ (by omega)] at e30 e37
 have a36:v36=lo:=by rw [elo,<-e30];exact Bp (by omega) (by omega) e31 e32 e33 e34 e36
 rw [e37,Go.IntWalk.i64_in _ (by omega),show (0-n)*1073741824=-n*1073741824 by omega] at e38
 have a44:v44=-n*1073741824/L:=by rw [<-e38];exact Bp (by omega) (by omega) e39 e40 e41 e42 e44
 have a45:v45=hi:=by rw [e45,a44,Go.IntWalk.i64_in _ (by omega)];omega
 have a46:v46=min hi 1073741824:=by rw [e46,a45];split<;>omega
 have a51:v51=1:=by rw [e51,e49,e47,e48,e50,decide_eq_true (by omega),decide_eq_true (by omega),decide_eq_true (by omega)];rfl
 have a56:v56=1:=by rw [e56,e54,e52,e53,e55,a36,a46,decide_eq_true (by omega),decide_eq_true (by omega),decide_eq_true (by omega)];rfl
 have a58:v58=0:=by rw [e58,e57,a51,a56];rfl
 have a59:v59=max qL lo:=by rw [e59,a36];split<;>omega
 have a60:v60=min qH (min hi 1073741824):=by rw [e60,a46];split<;>omega
 have a61:v61=0:=by rw [e61,a59,a60,decide_eq_false (by omega)];rfl
 refine ⟨?_,?_,?_⟩
 . rw [e66,a58,e63,a61];rfl
 . rw [e67,a58,e64,a61];exact a59
 . rw [e68,a58,e65,a61];exact a60
theorem VQ (a b:Int) (w:World) (ha:-5340000<=a/\a<=5340000) (hb:-5340000<=b/\b<=5340000):Calls Tryz.prog 17 #[.int .i64 a,.int .i64 b] w fun e w'=>e=.returned (.tuple #[.agg #[.int .i64 ((meV (min a b) (max a b)).getD 0 0),.int .i64 ((meV (min a b) (max a b)).getD 1 0)],.int .i64 0])/\Below w.heap.size w w':=by
 refine Sx.calls (X:=Cn [a,b]) jc (Ag _) Mr Nw (fun v hs=>?_) w
 have e0:v 0=a:=ag hs 0 rfl;have e1:v 1=b:=ag hs 1 rfl;have e2:v 2=if v 1<v 0 then v 1 else v 0:=ag hs 2 rfl
 have e3:v 3=if v 1>v 0 then v 1 else v 0:=ag hs 3 rfl
 have e4:v 4=(fA 6 [v 2,v 3]).getD 0 0:=ag hs 4 rfl;have e5:v 5=(fA 6 [v 2,v 3]).getD 1 0:=ag hs 5 rfl;have e6:v 6=(fA 6 [v 2,v 3]).getD 2 0:=ag hs 6 rfl;have e7:v 7=b2i (v 6 != (0:Int)):=ag hs 7 rfl;have e8:v 8=if v 7≠0 then (0:Int) else (1:Int):=ag hs 8 rfl
 have e9:v 9=IntKind.i64.wrap (v 1-v 0):=ag hs 9 rfl;have e10:v 10=(fP 99 [v 1]).getD 0 0:=ag hs 10 rfl;have e11:v 11=(fP 99 [v 1]).getD 1 0:=ag hs 11 rfl;have e12:v 12=(fP 99 [v 1]).getD 2 0:=ag hs 12 rfl;have e13:v 13=(fP 99 [v 0]).getD 0 0:=ag hs 13 rfl;have e14:v 14=(fP 99 [v 0]).getD 1 0:=ag hs 14 rfl;have e15:v 15=(fP 99 [v 0]).getD 2 0:=ag hs 15 rfl;have e16:v 16=IntKind.i64.wrap (v 10-v 14):=ag hs 16 rfl;have e17:v 17=IntKind.i64.wrap (v 11-v 13):=ag hs 17 rfl;have e18:v 18=b2i (decide (v 17<(0:Int))):=ag hs 18 rfl;have e19:v 19=IntKind.i64.wrap ((0:Int)-v 9):=ag hs 19 rfl;have e20:v 20=IntKind.i64.wrap ((0:Int)-v 17):=ag hs 20 rfl;have e21:v 21=IntKind.i64.wrap ((0:Int)-v 16):=ag hs 21 rfl;have e22:v 22=if v 18≠0 then (0:Int) else (1:Int):=ag hs 22 rfl
 have e23:v 23=if v 18≠0 then v 19 else v 9:=ag hs 23 rfl
 have e24:v 24=if v 18≠0 then v 20 else v 16:=ag hs 24 rfl
 have e25:v 25=if v 18≠0 then v 21 else v 17:=ag hs 25 rfl
 have e26:v 26=b2i (v 23==(0:Int)):=ag hs 26 rfl;have e27:v 27=b2i (decide (v 24<=(0:Int))):=ag hs 27 rfl;have e28:v 28=if v 26≠0 then (1:Int) else v 27:=ag hs 28 rfl
 have e29:v 29=if v 28≠0 then (0:Int) else (1:Int):=ag hs 29 rfl
 have e30:v 30=IntKind.i64.wrap (v 23*(1073741824:Int)):=ag hs 30 rfl;have e31:v 31=IntKind.i64.wrap (Int.tdiv (v 30) (v 25)):=ag hs 31 rfl;have e32:v 32=Int.tmod (v 30) (v 25):=ag hs 32 rfl;have e33:v 33=b2i (decide (v 32<(0:Int))):=ag hs 33 rfl;have e34:v 34=IntKind.i64.wrap (v 31-(1:Int)):=ag hs 34 rfl;have e35:v 35=if v 33≠0 then (0:Int) else (1:Int):=ag hs 35 rfl
 have e36:v 36=if v 33≠0 then v 34 else v 31:=ag hs 36 rfl
 have e37:v 37=IntKind.i64.wrap ((0:Int)-v 23):=ag hs 37 rfl;have e38:v 38=IntKind.i64.wrap (v 37*(1073741824:Int)):=ag hs 38 rfl;have e39:v 39=IntKind.i64.wrap (Int.tdiv (v 38) (v 24)):=ag hs 39 rfl;have e40:v 40=Int.tmod (v 38) (v 24):=ag hs 40 rfl;have e41:v 41=b2i (decide (v 40<(0:Int))):=ag hs 41 rfl;have e42:v 42=IntKind.i64.wrap (v 39-(1:Int)):=ag hs 42 rfl;have e43:v 43=if v 41≠0 then (0:Int) else (1:Int):=ag hs 43 rfl
 have e44:v 44=if v 41≠0 then v 42 else v 39:=ag hs 44 rfl
 have e45:v 45=IntKind.i64.wrap ((0:Int)-v 44):=ag hs 45 rfl;have e46:v 46=if (1073741824:Int)<v 45 then (1073741824:Int) else v 45:=ag hs 46 rfl
 have e47:v 47=b2i (decide (v 4>=(-2147483648:Int))):=ag hs 47 rfl;have e48:v 48=b2i (decide (v 4<=v 5)):=ag hs 48 rfl;have e49:v 49=if v 47≠0 then v 48 else (0:Int):=ag hs 49 rfl
 have e50:v 50=b2i (decide (v 5<=(2147483648:Int))):=ag hs 50 rfl;have e51:v 51=if v 49≠0 then v 50 else (0:Int):=ag hs 51 rfl
 have e52:v 52=b2i (decide (v 36>=(-2147483648:Int))):=ag hs 52 rfl;have e53:v 53=b2i (decide (v 36<=v 46)):=ag hs 53 rfl;have e54:v 54=if v 52≠0 then v 53 else (0:Int):=ag hs 54 rfl
 have e55:v 55=b2i (decide (v 46<=(2147483648:Int))):=ag hs 55 rfl;have e56:v 56=if v 54≠0 then v 55 else (0:Int):=ag hs 56 rfl
 have e57:v 57=if v 51≠0 then v 56 else (0:Int):=ag hs 57 rfl
 have e58:v 58=if v 57≠0 then (0:Int) else (1:Int):=ag hs 58 rfl
 have e59:v 59=if v 36>v 4 then v 36 else v 4:=ag hs 59 rfl
 have e60:v 60=if v 46<v 5 then v 46 else v 5:=ag hs 60 rfl
 have e61:v 61=b2i (decide (v 59>v 60)):=ag hs 61 rfl;have e62:v 62=if v 61≠0 then (0:Int) else (1:Int):=ag hs 62 rfl
 have e63:v 63=if v 61≠0 then (23:Int) else (0:Int):=ag hs 63 rfl
 have e64:v 64=if v 61≠0 then (0:Int) else v 59:=ag hs 64 rfl
 have e65:v 65=if v 61≠0 then (0:Int) else v 60:=ag hs 65 rfl
 have e66:v 66=if v 58≠0 then (1:Int) else v 63:=ag hs 66 rfl
 have e67:v 67=if v 58≠0 then (0:Int) else v 64:=ag hs 67 rfl
 have e68:v 68=if v 58≠0 then (0:Int) else v 65:=ag hs 68 rfl
 have e69:v 69=if v 28≠0 then (0:Int) else v 66:=ag hs 69 rfl
 have e70:v 70=if v 28≠0 then v 4 else v 67:=ag hs 70 rfl
 have e71:v 71=if v 28≠0 then v 5 else v 68:=ag hs 71 rfl
 have e72:v 72=if v 7≠0 then v 6 else v 69:=ag hs 72 rfl
 have e73:v 73=if v 7≠0 then (0:Int) else v 70:=ag hs 73 rfl
 have e74:v 74=if v 7≠0 then (0:Int) else v 71:=ag hs 74 rfl
 have a2:v 2=min a b:=by rw [<-e0,<-e1];exact BL e2
 have a3:v 3=max a b:=by rw [<-e0,<-e1];exact jO e3
 have P6:kL (v 2) (v 3)=true:=by rw [a2,a3];exact (uW _ _).2 (by omega)
 have PA:Gy 99 [v 0]:=by show -5340000<=v 0/\v 0<=5340000;omega
 have PB:Gy 99 [v 1]:=by show -5340000<=v 1/\v 1<=5340000;omega
 have a4:v 4=cqL (min a b) (max a b):=by rw [<-a2,<-a3];exact e4
 have a5:v 5=cqH (min a b) (max a b):=by rw [<-a2,<-a3];exact e5
 have a6:v 6=0:=e6;have a7:v 7=0:=by rw [e7,a6];rfl
 have a10:v 10=prL b:=by rw [<-e1];exact e10
 have a11:v 11=prH b:=by rw [<-e1];exact e11
 have a13:v 13=prL a:=by rw [<-e0];exact e13
 have a14:v 14=prH a:=by rw [<-e0];exact e14
 have A1:=iH a ha;have B1:=iH b hb;have a9:v 9=b-a:=by rw [e9,e0,e1,Go.IntWalk.i64_in _ (by omega)]
 have a16:v 16=prL b-prH a:=by rw [e16,a10,a14,Go.IntWalk.i64_in _ (by omega)]
 have a17:v 17=prH b-prL a:=by rw [e17,a11,a13,Go.IntWalk.i64_in _ (by omega)]
 have a19:v 19=a-b:=by rw [e19,a9,Go.IntWalk.i64_in _ (by omega)];omega
 have a20:v 20=prL a-prH b:=by rw [e20,a17,Go.IntWalk.i64_in _ (by omega)];omega
 have a21:v 21=prH a-prL b:=by rw [e21,a16,Go.IntWalk.i64_in _ (by omega)];omega
 have T:(v 28=1/\¬ meP (min a b) (max a b))∨(v 28=0/\meP (min a b) (max a b)/\v 23=max a b-min a b/\v 24=prL (max a b)-prH (min a b)/\v 25=prH (max a b)-prL (min a b)):=by
  unfold meP;rcases Int.lt_trichotomy a b with g|g|g
  . rw [show min a b=a by omega,show max a b=b by omega]
    have AS:=nZ a (b-a) ha.1 (by omega) (by omega)
    rw [show a+(b-a)=b by omega] at AS
    have a18:v 18=0:=by rw [e18,a17,decide_eq_false (by omega)];rfl
    have a23:v 23=b-a:=by rw [e23,a18,a9];rfl
    have a24:v 24=prL b-prH a:=by rw [e24,a18,a16];rfl
    have a25:v 25=prH b-prL a:=by rw [e25,a18,a17];rfl
    have a26:v 26=0:=by
     have:(v 23==0)=false:=by rw [a23];simp;omega
     rw [e26,this];rfl
    by_cases l:prL b-prH a<=0
    . exact .inl ⟨by rw [e28,a26,e27,a24,decide_eq_true l];rfl,by omega⟩
    . exact .inr ⟨by rw [e28,a26,e27,a24,decide_eq_false l];rfl,⟨g,by omega⟩,a23,a24,a25⟩
  . subst g
    left
    have a18:v 18=0:=by rw [e18,a17,decide_eq_false (by omega)];rfl
    have a23:v 23=0:=by rw [e23,a18,a9];simp
    refine ⟨?_,by omega⟩
    rw [e28,e26,a23];rfl
  . rw [show min a b=b by omega,show max a b=a by omega]
    have AS:=nZ b (a-b) hb.1 (by omega) (by omega)
    rw [show b+(a-b)=a by omega] at AS
    by_cases z:prH b-prL a<0
    . have a18:v 18=1:=by rw [e18,a17,decide_eq_true z];rfl
      have a23:v 23=a-b:=by rw [e23,a18,a19];rfl
      have a24:v 24=prL a-prH b:=by rw [e24,a18,a20];rfl
      have a25:v 25=prH a-prL b:=by rw [e25,a18,a21];rfl
      have a26:v 26=0:=by
       have:(v 23==0)=false:=by rw [a23];simp;omega
       rw [e26,this];rfl
      exact .inr ⟨by rw [e28,a26,e27,a24,decide_eq_false (by omega)];rfl,⟨g,by omega⟩,a23,a24,a25⟩
    . have a18:v 18=0:=by rw [e18,a17,decide_eq_false z];rfl
      have a23:v 23=b-a:=by rw [e23,a18,a9];rfl
      have a24:v 24=prL b-prH a:=by rw [e24,a18,a16];rfl
      have a26:v 26=0:=by
       have:(v 23==0)=false:=by rw [a23];simp;omega
       rw [e26,this];rfl
      exact .inl ⟨by rw [e28,a26,e27,a24,decide_eq_true (by omega)];rfl,by omega⟩
 have a8:v 8=1:=by rw [e8,a7];rfl
 rcases T with ⟨a28,nP⟩|⟨a28,yP,a23,a24,a25⟩
 . have a29:v 29=0:=by rw [e29,a28];rfl
   have mv:meV (min a b) (max a b)=[cqL (min a b) (max a b),cqH (min a b) (max a b),0]:=if_neg nP;have a72:v 72=0:=by rw [e72,a7,e69,a28];rfl
   have a73:v 73=cqL (min a b) (max a b):=by rw [e73,a7,e70,a28];exact a4
   have a74:v 74=cqH (min a b) (max a b):=by rw [e74,a7,e71,a28];exact a5
   refine ⟨gT ?_,?_⟩
   . exact aA (fun _=>P6) (aA (fun _=>PB) (aA (fun _=>PB) (aA (fun _=>PA) (aA (fun _=>PA) (aA (fun hp=>absurd a29 (bE hp).1) (aA (fun hp=>absurd a29 (bE hp).1) (aA (fun hp=>absurd a29 (bE hp).1) (aA (fun hp=>absurd a29 (bE hp).1) (gM)))))))))
   . intro x hx0;have hx':=gP (v:=v) (by rfl) hx0
     rw [hx'];show Value.tuple #[.agg #[.int .i64 (v 73),.int .i64 (v 74)],.int .i64 (v 72)]=_;rw [a72,a73,a74,mv];rfl
 . have hab:-5340000<=min a b/\max a b<=5340000:=by omega
   have F:=oq (min a b) (max a b) hab.1 hab.2 yP;have Q:=mZ (min a b) (max a b);have C1:=iH (min a b) (by omega);have C2:=iH (max a b) (by omega)
   have AS:=nZ (min a b) (max a b-min a b) hab.1 (by omega) (by omega)
   rw [show min a b+(max a b-min a b)=max a b by omega] at AS
   have M:=yP;unfold meP at M
   have tl:=JS (n:=v 23) (L:=v 24) (H:=v 25) (qL:=v 4) (qH:=v 5) (lo:=fK (min a b) (max a b)) (hi:=fF (min a b) (max a b)) (by omega) (by omega) (by omega) (by omega) (by omega) (by omega) (by rw [a4,a5];exact Q) (by rw [a23,a25];rfl) (by rw [a23,a24];rfl) (by rw [a4,a5];exact F)
    e30 e31 e32 e33 e34 e36 e37 e38 e39 e40 e41 e42 e44 e45 e46 e47 e48 e49 e50 e51 e52 e53 e54 e55 e56 e57 e58 e59 e60 e61 e63 e64 e65 e66 e67 e68
   have mv:meV (min a b) (max a b)=[max (cqL (min a b) (max a b)) (fK (min a b) (max a b)),min (cqH (min a b) (max a b)) (min (fF (min a b) (max a b)) 1073741824),0]:=if_pos yP;have a72:v 72=0:=by rw [e72,a7,e69,a28,tl.1];rfl
   have a73:v 73=max (cqL (min a b) (max a b)) (fK (min a b) (max a b)):=by rw [e73,a7,e70,a28,tl.2.1,a4];rfl
   have a74:v 74=min (cqH (min a b) (max a b)) (min (fF (min a b) (max a b)) 1073741824):=by rw [e74,a7,e71,a28,tl.2.2,a5];rfl
   have n25:v 25≠0:=by omega
   have n24:v 24≠0:=by omega
   refine ⟨gT ?_,?_⟩
   . exact aA (fun _=>P6) (aA (fun _=>PB) (aA (fun _=>PB) (aA (fun _=>PA) (aA (fun _=>PA) (aA (fun _=>n25) (aA (fun _=>n25) (aA (fun _=>n24) (aA (fun _=>n24) (gM)))))))))
   . intro x hx0;have hx':=gP (v:=v) (by rfl) hx0
     rw [hx'];show Value.tuple #[.agg #[.int .i64 (v 73),.int .i64 (v 74)],.int .i64 (v 72)]=_;rw [a72,a73,a74,mv];rfl
