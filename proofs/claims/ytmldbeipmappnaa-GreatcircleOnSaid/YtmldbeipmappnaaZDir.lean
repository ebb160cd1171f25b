/- The contracts of Direct of both sides. -/
import Derived.Test.YtmldbeipmappnaaZGc
import Derived.Test.YtmldbeipmappnaaZDct
set_option linter.unusedVariables false
set_option linter.unusedSimpArgs false
set_option maxRecDepth 100000
set_option maxHeartbeats 8000000
namespace Go.Proofs.Ytmldbeipmappnaa
open Go.RowKit Alm Sx
theorem MS {p:IV} (h:U p):jO p.1 p.2=0:=if_pos (by unfold U at h;omega)
theorem xG (x y:Int) (h:jO x y=0):(iE 36 [x,y]).getD 0 0=fo x/\(iE 36 [x,y]).getD 1 0=eF y/\(iE 36 [x,y]).getD 2 0=0:=by
 obtain ⟨p,q,r⟩:=qZ (if jO x y=0 then fo x else 0) (if jO x y=0 then eF y else 0) (jO x y)
 exact ⟨p.trans (if_pos h),q.trans (if_pos h),r.trans h⟩
def qF (l h:Int):Int × Int:=if h-l>=21600000 then (-10800000,10800000) else (sgd l,sgd l+(h-l))
theorem FR {p q n1 n2 w g m c u r g2 sb z x y lo hi:Int} (hp:-100000000<=p/\p<=100000000) (hq:-100000000<=q/\q<=100000000) (hw:0<=q-p) (e1:n1=p) (e2:n2=q) (ew:w=IntKind.i64.wrap (n2-n1)) (eg:g=b2i (decide (w>=21600000))) (em:m=Int.tmod n1 21600000) (ec:c=b2i (decide (m<0))) (eu:u=IntKind.i64.wrap (m+21600000)) (er:r=if c≠0 then u else m) (eg2:g2=b2i (decide (r>=10800000))) (es:sb=IntKind.i64.wrap (r-21600000)) (ez:z=if g2≠0 then sb else r) (ex:x=IntKind.i64.wrap (z+n2)) (ey:y=IntKind.i64.wrap (x-n1)) (elo:lo=if g≠0 then (-10800000:Int) else z) (ehi:hi=if g≠0 then (10800000:Int) else y):lo=(qF p q).1/\hi=(qF p q).2:=by
 rw [Go.IntWalk.i64_in _ (by omega)] at ew
 have S:=nV (x:=n1) (by omega) em ec eu er eg2 es ez
 have sb:=uf n1;rw [Go.IntWalk.i64_in _ (by omega)] at ex
 rw [Go.IntWalk.i64_in _ (by omega)] at ey
 unfold qF;rw [elo,ehi,eg,ko,ko]
 by_cases q':q-p>=21600000
 . simp [if_pos (show w>=21600000 by omega),if_pos q']
 . simp only [if_neg (show ¬ w>=21600000 by omega),if_neg q']
   refine ⟨by rw [S,e1],?_⟩
   show y=sgd p+(q-p);rw [<-e1,<-S];omega
def Fh (c d:Int):Prop:=(c=-10800000/\d=10800000)∨(-10800000<=c/\c<10800000/\c<=d/\d-c<21600000)
theorem Qx (l h:Int) (hw:l<=h):Fh (qF l h).1 (qF l h).2:=by
 unfold qF;have:=uf l;split
 . exact .inl ⟨rfl,rfl⟩
 . exact .inr (by simp only;omega)
theorem Kn {a b c d x8 x9 x10 x11 x12 x13 x14 x15 x16 x17 x18 x19 x20 x21 x22 x23 x24 x25:Int} (h1:-5400000<=a/\a<=b/\b<=5400000) (h2:Fh c d) (e8:x8=b2i (decide (a<=b))) (e9:x9=b2i (decide (a>=(-5400000:Int)))) (e10:x10=if x8≠0 then x9 else (0:Int)) (e11:x11=b2i (decide (b<=(5400000:Int)))) (e12:x12=if x10≠0 then x11 else (0:Int)) (e13:x13=b2i (c==(-10800000:Int))) (e14:x14=b2i (d==(10800000:Int))) (e15:x15=if x13≠0 then x14 else (0:Int)) (e16:x16=b2i (decide (c>=(-10800000:Int)))) (e17:x17=b2i (decide (c<(10800000:Int)))) (e18:x18=if x16≠0 then x17 else (0:Int)) (e19:x19=b2i (decide (c<=d))) (e20:x20=if x18≠0 then x19 else (0:Int)) (e21:x21=IntKind.i64.wrap (d-c)) (e22:x22=b2i (decide (x21<(21600000:Int)))) (e23:x23=if x20≠0 then x22 else (0:Int)) (e24:x24=if x15≠0 then (1:Int) else x23) (e25:x25=if x12≠0 then x24 else (0:Int)):x25=1:=by
 have A12:x12=1:=by rw [e12,e10,e8,e9,e11,bb2,bb2,decide_eq_true (by omega)];rfl
 have A24:x24=1:=by
  rw [e24];unfold Fh at h2;rcases h2 with g|g
  . have A15:x15=1:=by rw [e15,e13,e14,g.1,g.2];rfl
    rw [if_pos (by omega)]
  . split
    . rfl
    . rw [Go.IntWalk.i64_in _ (by omega)] at e21
      rw [e23,e20,e18,e16,e17,e19,e22,bb2,bb2,bb2,decide_eq_true (by omega)];rfl
 rw [e25,if_pos (by omega),A24]
theorem JH {a b x27 x28 x29 x30 x31 x32 x33 x34 x35:Int} (h:dA a b=true) (e27:x27=b2i (decide (a<=b))) (e28:x28=b2i (decide (a>=(-1099511627776:Int)))) (e29:x29=b2i (decide (a<=(1099511627776:Int)))) (e30:x30=if x28≠0 then x29 else (0:Int)) (e31:x31=if x27≠0 then x30 else (0:Int)) (e32:x32=b2i (decide (b>=(-1099511627776:Int)))) (e33:x33=b2i (decide (b<=(1099511627776:Int)))) (e34:x34=if x32≠0 then x33 else (0:Int)) (e35:x35=if x31≠0 then x34 else (0:Int)):x35=1:=by
 rw [e35,e31,e27,e30,e28,e29,e34,e32,e33,kr,h];rfl
theorem mxD (x:Int):(if (-1073741824:Int)>x then (-1073741824:Int) else x)=max x (-1073741824):=by split<;>omega
theorem mnD (x:Int):(if (1073741824:Int)<x then (1073741824:Int) else x)=min x 1073741824:=by split<;>omega
def drS (a b g h e f:Int):IV:=(max (yc a b g h e f).1 (-1073741824),min (yc a b g h e f).2 1073741824)
def drY (a b g h e f:Int):IV:=uM (uM (uS e f) (uS g h)) (uC a b)
def drX (a b g h e f:Int):IV:=uD (uC g h) (uM (uS a b) (drS a b g h e f))
theorem Ke (a b g h e f:Int):U (drS a b g h e f):=by
 have m:=G6 a b g h e f;have u:=((ek _ _).1 (U_A (U_M (U_S a b) (U_C g h)).2.2 (U_M (U_M (U_C a b) (U_S g h)).2.2 (U_C e f)).2.2).2.2).2.1;have u':(yc a b g h e f).1<=(yc a b g h e f).2:=u;unfold U drS;simp only;omega
def lC (a b g h e f:Int):Int:=bz (drY a b g h e f).1 (drY a b g h e f).2 (drX a b g h e f).1 (drX a b g h e f).2
def oM (a b g h e f:Int):Int:=bJ (drY a b g h e f).1 (drY a b g h e f).2 (drX a b g h e f).1 (drX a b g h e f).2
def nS (a b c d e f g h:Int):List Int:=[fo (drS a b g h e f).1,eF (drS a b g h e f).2,(qF (c+lC a b g h e f) (d+oM a b g h e f)).1,(qF (c+lC a b g h e f) (d+oM a b g h e f)).2,0]
theorem Lt (a b c d e f g h:Int):(nS a b c d e f g h).getD 0 0=fo (drS a b g h e f).1/\(nS a b c d e f g h).getD 1 0=eF (drS a b g h e f).2/\(nS a b c d e f g h).getD 2 0=(qF (c+lC a b g h e f) (d+oM a b g h e f)).1/\(nS a b c d e f g h).getD 3 0=(qF (c+lC a b g h e f) (d+oM a b g h e f)).2:=⟨rfl,rfl,rfl,rfl⟩
def gX:List Nd:=[
 .arg 0,
 .arg 1,
 .arg 2,
 .arg 3,
 .arg 4,
 .arg 5,
 .arg 6,
 .arg 7,
 .bin .leq .i64 (.n 0) (.n 1),
 .bin .geq .i64 (.n 0) (.c (-5400000)),
 .ite (.n 8) (.n 9) (.c 0),
 .bin .leq .i64 (.n 1) (.c 5400000),
 .ite (.n 10) (.n 11) (.c 0),
 .bin .eql .i64 (.n 2) (.c (-10800000)),
 .bin .eql .i64 (.n 3) (.c 10800000),
 .ite (.n 13) (.n 14) (.c 0),
 .bin .geq .i64 (.n 2) (.c (-10800000)),
 .bin .lss .i64 (.n 2) (.c 10800000),
 .ite (.n 16) (.n 17) (.c 0),
 .bin .leq .i64 (.n 2) (.n 3),
 .ite (.n 18) (.n 19) (.c 0),
 .bin .sub .i64 (.n 3) (.n 2),
 .bin .lss .i64 (.n 21) (.c 21600000),
 .ite (.n 20) (.n 22) (.c 0),
 .ite (.n 15) (.c 1) (.n 23),
 .ite (.n 12) (.n 24) (.c 0),
 .ite (.n 25) (.c 0) (.c 1),
 .bin .leq .i64 (.n 4) (.n 5),
 .bin .geq .i64 (.n 4) (.c (-1099511627776)),
 .bin .leq .i64 (.n 4) (.c 1099511627776),
 .ite (.n 28) (.n 29) (.c 0),
 .ite (.n 27) (.n 30) (.c 0),
 .bin .geq .i64 (.n 5) (.c (-1099511627776)),
 .bin .leq .i64 (.n 5) (.c 1099511627776),
 .ite (.n 32) (.n 33) (.c 0),
 .ite (.n 31) (.n 34) (.c 0),
 .ite (.n 35) (.c 0) (.c 1),
 .ite (.n 26) (.c 1) (.n 36),
 .bin .lss .i64 (.n 6) (.c 0),
 .ite (.n 37) (.c 1) (.n 38),
 .bin .gtr .i64 (.n 6) (.n 7),
 .ite (.n 39) (.c 1) (.n 40),
 .bin .gtr .i64 (.n 7) (.c 21600000),
 .ite (.n 41) (.c 1) (.n 42),
 .ite (.n 43) (.c 0) (.c 1),
 .app 5 0 [.n 0,.n 1],
 .app 5 1 [.n 0,.n 1],
 .app 5 2 [.n 0,.n 1],
 .app 6 0 [.n 0,.n 1],
 .app 6 1 [.n 0,.n 1],
 .app 6 2 [.n 0,.n 1],
 .bin .eql .i64 (.n 47) (.c 0),
 .ite (.n 51) (.c 0) (.c 1),
 .ite (.n 51) (.n 50) (.n 47),
 .app 5 0 [.n 6,.n 7],
 .app 5 1 [.n 6,.n 7],
 .app 5 2 [.n 6,.n 7],
 .bin .eql .i64 (.n 53) (.c 0),
 .ite (.n 57) (.c 0) (.c 1),
 .ite (.n 57) (.n 56) (.n 53),
 .app 6 0 [.n 6,.n 7],
 .app 6 1 [.n 6,.n 7],
 .app 6 2 [.n 6,.n 7],
 .bin .eql .i64 (.n 59) (.c 0),
 .ite (.n 63) (.c 0) (.c 1),
 .ite (.n 63) (.n 62) (.n 59),
 .app 0 0 [.n 45,.n 46,.n 60,.n 61],
 .app 0 1 [.n 45,.n 46,.n 60,.n 61],
 .app 0 2 [.n 45,.n 46,.n 60,.n 61],
 .bin .eql .i64 (.n 65) (.c 0),
 .ite (.n 69) (.c 0) (.c 1),
 .ite (.n 69) (.n 68) (.n 65),
 .app 0 0 [.n 48,.n 49,.n 54,.n 55],
 .app 0 1 [.n 48,.n 49,.n 54,.n 55],
 .app 0 2 [.n 48,.n 49,.n 54,.n 55],
 .bin .eql .i64 (.n 71) (.c 0),
 .ite (.n 75) (.c 0) (.c 1),
 .ite (.n 75) (.n 74) (.n 71),
 .app 6 0 [.n 4,.n 5],
 .app 6 1 [.n 4,.n 5],
 .app 6 2 [.n 4,.n 5],
 .bin .eql .i64 (.n 77) (.c 0),
 .ite (.n 81) (.c 0) (.c 1),
 .ite (.n 81) (.n 80) (.n 77),
 .app 0 0 [.n 72,.n 73,.n 78,.n 79],
 .app 0 1 [.n 72,.n 73,.n 78,.n 79],
 .app 0 2 [.n 72,.n 73,.n 78,.n 79],
 .bin .eql .i64 (.n 83) (.c 0),
 .ite (.n 87) (.c 0) (.c 1),
 .ite (.n 87) (.n 86) (.n 83),
 .app 1 0 [.n 66,.n 67,.n 84,.n 85],
 .app 1 1 [.n 66,.n 67,.n 84,.n 85],
 .app 1 2 [.n 66,.n 67,.n 84,.n 85],
 .bin .eql .i64 (.n 89) (.c 0),
 .ite (.n 93) (.c 0) (.c 1),
 .ite (.n 93) (.n 92) (.n 89),
 .app 8 0 [.n 90,.n 91],
 .app 8 0 [.c (-1073741824),.c 1073741824],
 .ite (.n 96) (.n 97) (.c 0),
 .ite (.n 98) (.c 0) (.c 1),
 .ite (.n 99) (.c 0) (.c 1),
 .mx (.n 90) (.c (-1073741824)),
 .mn (.n 91) (.c 1073741824),
 .bin .gtr .i64 (.n 101) (.n 102),
 .ite (.n 103) (.c 0) (.c 1),
 .ite (.n 103) (.c 23) (.c 0),
 .ite (.n 103) (.c 0) (.n 101),
 .ite (.n 103) (.c 0) (.n 102),
 .ite (.n 99) (.c 1) (.n 105),
 .ite (.n 99) (.c 0) (.n 106),
 .ite (.n 99) (.c 0) (.n 107),
 .bin .eql .i64 (.n 95) (.c 0),
 .ite (.n 111) (.c 0) (.c 1),
 .ite (.n 111) (.n 108) (.n 95),
 .app 36 0 [.n 109,.n 110],
 .app 36 1 [.n 109,.n 110],
 .app 36 2 [.n 109,.n 110],
 .bin .eql .i64 (.n 113) (.c 0),
 .ite (.n 117) (.c 0) (.c 1),
 .ite (.n 117) (.n 116) (.n 113),
 .app 5 0 [.n 4,.n 5],
 .app 5 1 [.n 4,.n 5],
 .app 5 2 [.n 4,.n 5],
 .bin .eql .i64 (.n 119) (.c 0),
 .ite (.n 123) (.c 0) (.c 1),
 .ite (.n 123) (.n 122) (.n 119),
 .app 0 0 [.n 120,.n 121,.n 54,.n 55],
 .app 0 1 [.n 120,.n 121,.n 54,.n 55],
 .app 0 2 [.n 120,.n 121,.n 54,.n 55],
 .bin .eql .i64 (.n 125) (.c 0),
 .ite (.n 129) (.c 0) (.c 1),
 .ite (.n 129) (.n 128) (.n 125),
 .app 0 0 [.n 126,.n 127,.n 48,.n 49],
 .app 0 1 [.n 126,.n 127,.n 48,.n 49],
 .app 0 2 [.n 126,.n 127,.n 48,.n 49],
 .bin .eql .i64 (.n 131) (.c 0),
 .ite (.n 135) (.c 0) (.c 1),
 .ite (.n 135) (.n 134) (.n 131),
 .app 0 0 [.n 45,.n 46,.n 109,.n 110],
 .app 0 1 [.n 45,.n 46,.n 109,.n 110],
 .app 0 2 [.n 45,.n 46,.n 109,.n 110],
 .bin .eql .i64 (.n 137) (.c 0),
 .ite (.n 141) (.c 0) (.c 1),
 .ite (.n 141) (.n 140) (.n 137),
 .app 2 0 [.n 60,.n 61,.n 138,.n 139],
 .app 2 1 [.n 60,.n 61,.n 138,.n 139],
 .app 2 2 [.n 60,.n 61,.n 138,.n 139],
 .bin .eql .i64 (.n 143) (.c 0),
 .ite (.n 147) (.c 0) (.c 1),
 .ite (.n 147) (.n 146) (.n 143),
 .app 7 0 [.n 132,.n 133,.n 144,.n 145],
 .app 7 1 [.n 132,.n 133,.n 144,.n 145],
 .app 7 2 [.n 132,.n 133,.n 144,.n 145],
 .bin .eql .i64 (.n 149) (.c 0),
 .ite (.n 153) (.c 0) (.c 1),
 .ite (.n 153) (.n 152) (.n 149),
 .bin .add .i64 (.n 2) (.n 150),
 .bin .add .i64 (.n 3) (.n 151),
 .bin .sub .i64 (.n 157) (.n 156),
 .bin .geq .i64 (.n 158) (.c 21600000),
 .ite (.n 159) (.c 0) (.c 1),
 .bin .rem .i64 (.n 156) (.c 21600000),
 .bin .lss .i64 (.n 161) (.c 0),
 .bin .add .i64 (.n 161) (.c 21600000),
 .ite (.n 162) (.c 0) (.c 1),
 .ite (.n 162) (.n 163) (.n 161),
 .bin .geq .i64 (.n 165) (.c 10800000),
 .bin .sub .i64 (.n 165) (.c 21600000),
 .ite (.n 166) (.c 0) (.c 1),
 .ite (.n 166) (.n 167) (.n 165),
 .bin .add .i64 (.n 169) (.n 157),
 .bin .sub .i64 (.n 170) (.n 156),
 .ite (.n 159) (.c (-10800000)) (.n 169),
 .ite (.n 159) (.c 10800000) (.n 171),
 .bin .neq .i64 (.n 155) (.c 0),
 .ite (.n 174) (.c 0) (.c 1),
 .ite (.n 174) (.n 155) (.c 0),
 .ite (.n 174) (.c 0) (.n 114),
 .ite (.n 174) (.c 0) (.n 115),
 .ite (.n 174) (.c 0) (.n 172),
 .ite (.n 174) (.c 0) (.n 173),
 .ite (.n 43) (.c 1) (.n 176),
 .ite (.n 43) (.c 0) (.n 177),
 .ite (.n 43) (.c 0) (.n 178),
 .ite (.n 43) (.c 0) (.n 179),
 .ite (.n 43) (.c 0) (.n 180)]
def NM:List Vc:=[
 ⟨[(.n 44,true)],.pre 5 [.n 0,.n 1]⟩,
 ⟨[(.n 44,true)],.pre 6 [.n 0,.n 1]⟩,
 ⟨[(.n 44,true)],.pre 5 [.n 6,.n 7]⟩,
 ⟨[(.n 44,true)],.pre 6 [.n 6,.n 7]⟩,
 ⟨[(.n 44,true)],.pre 0 [.n 45,.n 46,.n 60,.n 61]⟩,
 ⟨[(.n 44,true)],.pre 0 [.n 48,.n 49,.n 54,.n 55]⟩,
 ⟨[(.n 44,true)],.pre 6 [.n 4,.n 5]⟩,
 ⟨[(.n 44,true)],.pre 0 [.n 72,.n 73,.n 78,.n 79]⟩,
 ⟨[(.n 44,true)],.pre 1 [.n 66,.n 67,.n 84,.n 85]⟩,
 ⟨[(.n 44,true)],.pre 8 [.n 90,.n 91]⟩,
 ⟨[(.n 44,true),(.n 96,true)],.pre 8 [.c (-1073741824),.c 1073741824]⟩,
 ⟨[(.n 44,true)],.pre 36 [.n 109,.n 110]⟩,
 ⟨[(.n 44,true)],.pre 5 [.n 4,.n 5]⟩,
 ⟨[(.n 44,true)],.pre 0 [.n 120,.n 121,.n 54,.n 55]⟩,
 ⟨[(.n 44,true)],.pre 0 [.n 126,.n 127,.n 48,.n 49]⟩,
 ⟨[(.n 44,true)],.pre 0 [.n 45,.n 46,.n 109,.n 110]⟩,
 ⟨[(.n 44,true)],.pre 2 [.n 60,.n 61,.n 138,.n 139]⟩,
 ⟨[(.n 44,true)],.pre 7 [.n 132,.n 133,.n 144,.n 145]⟩]
theorem Mg:whole Try.prog spM 20 40 16 [(true,[some .i64,some .i64,some .i64,some .i64]),(true,[some .i64,some .i64,some .i64,some .i64])]=some (.tup [.agg [.int .i64 (.n 182),.int .i64 (.n 183),.int .i64 (.n 184),.int .i64 (.n 185)],.c (.int .i64 (.n 181))],⟨gX.reverse,NM.reverse⟩):=by kernel_rfl
theorem Mc:wfN gX.reverse=true:=by kernel_rfl
theorem RG (a b c d k j g h:Int) (w:World) (h1:-5400000<=a/\a<=b/\b<=5400000) (h2:Fh c d) (h3:dA k j=true) (h4:0<=g/\g<=h/\h<=21600000):Calls Try.prog 16 #[.agg #[.int .i64 a,.int .i64 b,.int .i64 c,.int .i64 d],.agg #[.int .i64 k,.int .i64 j,.int .i64 g,.int .i64 h]] w fun e w'=>e=.returned (.tuple #[.agg #[.int .i64 ((nS a b c d k j g h).getD 0 0),.int .i64 ((nS a b c d k j g h).getD 1 0),.int .i64 ((nS a b c d k j g h).getD 2 0),.int .i64 ((nS a b c d k j g h).getD 3 0)],.int .i64 0])/\Below w.heap.size w w':=by
 refine Sx.calls (X:=cxM [a,b,c,d,k,j,g,h]) fE (lD _) Mg Mc (fun v hs=>?_) w
 have e0:v 0=a:=ag hs 0 rfl;have e1:v 1=b:=ag hs 1 rfl;have e2:v 2=c:=ag hs 2 rfl;have e3:v 3=d:=ag hs 3 rfl;have e4:v 4=k:=ag hs 4 rfl;have e5:v 5=j:=ag hs 5 rfl;have e6:v 6=g:=ag hs 6 rfl;have e7:v 7=h:=ag hs 7 rfl;have e45:v 45=(aB 5 [v 0,v 1]).getD 0 0:=ag hs 45 rfl;have e46:v 46=(aB 5 [v 0,v 1]).getD 1 0:=ag hs 46 rfl;have P45:((v 45,v 46):IV)=uS (v 0) (v 1):=by rw [e45,e46];rfl
 have U45:U (v 45,v 46):=by rw [P45];exact U_S _ _
 have e48:v 48=(aB 6 [v 0,v 1]).getD 0 0:=ag hs 48 rfl;have e49:v 49=(aB 6 [v 0,v 1]).getD 1 0:=ag hs 49 rfl;have P48:((v 48,v 49):IV)=uC (v 0) (v 1):=by rw [e48,e49];rfl
 have U48:U (v 48,v 49):=by rw [P48];exact U_C _ _
 have e54:v 54=(aB 5 [v 6,v 7]).getD 0 0:=ag hs 54 rfl;have e55:v 55=(aB 5 [v 6,v 7]).getD 1 0:=ag hs 55 rfl;have P54:((v 54,v 55):IV)=uS (v 6) (v 7):=by rw [e54,e55];rfl
 have U54:U (v 54,v 55):=by rw [P54];exact U_S _ _
 have e60:v 60=(aB 6 [v 6,v 7]).getD 0 0:=ag hs 60 rfl;have e61:v 61=(aB 6 [v 6,v 7]).getD 1 0:=ag hs 61 rfl;have P60:((v 60,v 61):IV)=uC (v 6) (v 7):=by rw [e60,e61];rfl
 have U60:U (v 60,v 61):=by rw [P60];exact U_C _ _
 have e66:v 66=(aB 0 [v 45,v 46,v 60,v 61]).getD 0 0:=ag hs 66 rfl;have e67:v 67=(aB 0 [v 45,v 46,v 60,v 61]).getD 1 0:=ag hs 67 rfl;have P66:((v 66,v 67):IV)=uM (v 45,v 46) (v 60,v 61):=by rw [e66,e67];rfl
 have U66:U (v 66,v 67):=by rw [P66];exact (U_M U45 U60).2.2
 have e68:v 68=(aB 0 [v 45,v 46,v 60,v 61]).getD 2 0:=ag hs 68 rfl;have E68:v 68=0:=e68.trans (U_M U45 U60).2.1;have e72:v 72=(aB 0 [v 48,v 49,v 54,v 55]).getD 0 0:=ag hs 72 rfl;have e73:v 73=(aB 0 [v 48,v 49,v 54,v 55]).getD 1 0:=ag hs 73 rfl;have P72:((v 72,v 73):IV)=uM (v 48,v 49) (v 54,v 55):=by rw [e72,e73];rfl
 have U72:U (v 72,v 73):=by rw [P72];exact (U_M U48 U54).2.2
 have e74:v 74=(aB 0 [v 48,v 49,v 54,v 55]).getD 2 0:=ag hs 74 rfl;have E74:v 74=0:=e74.trans (U_M U48 U54).2.1;have e78:v 78=(aB 6 [v 4,v 5]).getD 0 0:=ag hs 78 rfl;have e79:v 79=(aB 6 [v 4,v 5]).getD 1 0:=ag hs 79 rfl;have P78:((v 78,v 79):IV)=uC (v 4) (v 5):=by rw [e78,e79];rfl
 have U78:U (v 78,v 79):=by rw [P78];exact U_C _ _
 have e84:v 84=(aB 0 [v 72,v 73,v 78,v 79]).getD 0 0:=ag hs 84 rfl;have e85:v 85=(aB 0 [v 72,v 73,v 78,v 79]).getD 1 0:=ag hs 85 rfl;have P84:((v 84,v 85):IV)=uM (v 72,v 73) (v 78,v 79):=by rw [e84,e85];rfl
 have U84:U (v 84,v 85):=by rw [P84];exact (U_M U72 U78).2.2
 have e86:v 86=(aB 0 [v 72,v 73,v 78,v 79]).getD 2 0:=ag hs 86 rfl;have E86:v 86=0:=e86.trans (U_M U72 U78).2.1;have e90:v 90=(aB 1 [v 66,v 67,v 84,v 85]).getD 0 0:=ag hs 90 rfl;have e91:v 91=(aB 1 [v 66,v 67,v 84,v 85]).getD 1 0:=ag hs 91 rfl;have P90:((v 90,v 91):IV)=uA (v 66,v 67) (v 84,v 85):=by rw [e90,e91];rfl
 have F90:fxV (v 90) (v 91)=true:=by have:=(U_A U66 U84).2.2;rw [<-P90] at this;exact this
 have e92:v 92=(aB 1 [v 66,v 67,v 84,v 85]).getD 2 0:=ag hs 92 rfl;have E92:v 92=0:=e92.trans (U_A U66 U84).2.1;have PS:((v 90,v 91):IV)=yc a b g h k j:=by rw [P90,P66,P84,P72,P45,P48,P54,P60,P78,e0,e1,e4,e5,e6,e7];rfl
 have s0:v 90=(yc a b g h k j).1:=congrArg Prod.fst PS;have s1:v 91=(yc a b g h k j).2:=congrArg Prod.snd PS;have e38:v 38=b2i (decide (v 6<(0:Int))):=ag hs 38 rfl;have e40:v 40=b2i (decide (v 6>v 7)):=ag hs 40 rfl;have e42:v 42=b2i (decide (v 7>(21600000:Int))):=ag hs 42 rfl;have e96:v 96=b2i (fxV (v 90) (v 91)):=ag hs 96 rfl;have e97:v 97=b2i (fxV ((-1073741824:Int)) ((1073741824:Int))):=ag hs 97 rfl;have e101:v 101=if (-1073741824:Int)>v 90 then (-1073741824:Int) else v 90:=ag hs 101 rfl
 have e102:v 102=if (1073741824:Int)<v 91 then (1073741824:Int) else v 91:=ag hs 102 rfl
 have e103:v 103=b2i (decide (v 101>v 102)):=ag hs 103 rfl;have A25:v 25=1:=Kn (a:=v 0) (b:=v 1) (c:=v 2) (d:=v 3) (x8:=v 8) (x9:=v 9) (x10:=v 10) (x11:=v 11) (x12:=v 12) (x13:=v 13) (x14:=v 14) (x15:=v 15) (x16:=v 16) (x17:=v 17) (x18:=v 18) (x19:=v 19) (x20:=v 20) (x21:=v 21) (x22:=v 22) (x23:=v 23) (x24:=v 24) (x25:=v 25) (by rw [e0,e1];exact h1) (by rw [e2,e3];exact h2) (ag hs 8 rfl) (ag hs 9 rfl) (ag hs 10 rfl) (ag hs 11 rfl) (ag hs 12 rfl) (ag hs 13 rfl) (ag hs 14 rfl) (ag hs 15 rfl) (ag hs 16 rfl) (ag hs 17 rfl) (ag hs 18 rfl) (ag hs 19 rfl) (ag hs 20 rfl) (ag hs 21 rfl) (ag hs 22 rfl) (ag hs 23 rfl) (ag hs 24 rfl) (ag hs 25 rfl)
 have A35:v 35=1:=JH (a:=v 4) (b:=v 5) (x27:=v 27) (x28:=v 28) (x29:=v 29) (x30:=v 30) (x31:=v 31) (x32:=v 32) (x33:=v 33) (x34:=v 34) (x35:=v 35) (by rw [e4,e5];exact h3) (ag hs 27 rfl) (ag hs 28 rfl) (ag hs 29 rfl) (ag hs 30 rfl) (ag hs 31 rfl) (ag hs 32 rfl) (ag hs 33 rfl) (ag hs 34 rfl) (ag hs 35 rfl)
 have A38:v 38=0:=by rw [e38,e6,decide_eq_false (by omega)];rfl
 have A40:v 40=0:=by rw [e40,e6,e7,decide_eq_false (by omega)];rfl
 have A42:v 42=0:=by rw [e42,e7,decide_eq_false (by omega)];rfl
 have A96:v 96=1:=by rw [e96,F90];rfl
 have A97:v 97=1:=by rw [e97];rfl
 have u0:=Ke a b g h k j;have q1:v 101=(drS a b g h k j).1:=by rw [e101,s0];exact mxD _
 have q2:v 102=(drS a b g h k j).2:=by rw [e102,s1];exact mnD _
 have A103:v 103=0:=by rw [e103,q1,q2,decide_eq_false (by unfold U at u0;omega)];rfl
 clear e38 e40 e42 e45 e46 e48 e49 e54 e55 e60 e61 e72 e73 e74 e78 e79 e84 e85 e86 e90 e91 e92 e96 e97 e101 e102 e103;have z109:v 109=v 101:=aA (X:=cxM [a,b,c,d,k,j,g,h]) (v:=v) (l:=gX) (bv _) hs (k:=109) (j:=101) (ps:=[(25,.c 1),(35,.c 1),(38,.c 0),(40,.c 0),(42,.c 0),(96,.c 1),(97,.c 1),(103,.c 0)]) (aa A25 (aa A35 (aa A38 (aa A40 (aa A42 (aa A96 (aa A97 (aa A103 au)))))))) (by kernel_rfl)
 have z110:v 110=v 102:=aA (X:=cxM [a,b,c,d,k,j,g,h]) (v:=v) (l:=gX) (bv _) hs (k:=110) (j:=102) (ps:=[(25,.c 1),(35,.c 1),(38,.c 0),(40,.c 0),(42,.c 0),(96,.c 1),(97,.c 1),(103,.c 0)]) (aa A25 (aa A35 (aa A38 (aa A40 (aa A42 (aa A96 (aa A97 (aa A103 au)))))))) (by kernel_rfl)
 have d0:v 109=(drS a b g h k j).1:=z109.trans q1;have d1:v 110=(drS a b g h k j).2:=z110.trans q2;have W0:v 109=(drS a b g h k j).1:=d0;have W1:v 110=(drS a b g h k j).2:=d1;have PQ:((v 109,v 110):IV)=drS a b g h k j:=by rw [W0,W1]
 have U109:U (v 109,v 110):=by rw [PQ];exact Ke _ _ _ _ _ _
 have aE:=MS U109;have e114:v 114=(iE 36 [v 109,v 110]).getD 0 0:=ag hs 114 rfl;have e115:v 115=(iE 36 [v 109,v 110]).getD 1 0:=ag hs 115 rfl;have V0:v 114=fo (v 109):=e114.trans (xG _ _ aE).1;have V1:v 115=eF (v 110):=e115.trans (xG _ _ aE).2.1;have e116:v 116=(iE 36 [v 109,v 110]).getD 2 0:=ag hs 116 rfl;have E116:v 116=0:=e116.trans (xG _ _ aE).2.2;have e120:v 120=(aB 5 [v 4,v 5]).getD 0 0:=ag hs 120 rfl;have e121:v 121=(aB 5 [v 4,v 5]).getD 1 0:=ag hs 121 rfl;have P120:((v 120,v 121):IV)=uS (v 4) (v 5):=by rw [e120,e121];rfl
 have U120:U (v 120,v 121):=by rw [P120];exact U_S _ _
 have e126:v 126=(aB 0 [v 120,v 121,v 54,v 55]).getD 0 0:=ag hs 126 rfl;have e127:v 127=(aB 0 [v 120,v 121,v 54,v 55]).getD 1 0:=ag hs 127 rfl;have P126:((v 126,v 127):IV)=uM (v 120,v 121) (v 54,v 55):=by rw [e126,e127];rfl
 have U126:U (v 126,v 127):=by rw [P126];exact (U_M U120 U54).2.2
 have e128:v 128=(aB 0 [v 120,v 121,v 54,v 55]).getD 2 0:=ag hs 128 rfl;have E128:v 128=0:=e128.trans (U_M U120 U54).2.1;have e132:v 132=(aB 0 [v 126,v 127,v 48,v 49]).getD 0 0:=ag hs 132 rfl;have e133:v 133=(aB 0 [v 126,v 127,v 48,v 49]).getD 1 0:=ag hs 133 rfl;have P132:((v 132,v 133):IV)=uM (v 126,v 127) (v 48,v 49):=by rw [e132,e133];rfl
 have U132:U (v 132,v 133):=by rw [P132];exact (U_M U126 U48).2.2
 have e134:v 134=(aB 0 [v 126,v 127,v 48,v 49]).getD 2 0:=ag hs 134 rfl;have E134:v 134=0:=e134.trans (U_M U126 U48).2.1;have e138:v 138=(aB 0 [v 45,v 46,v 109,v 110]).getD 0 0:=ag hs 138 rfl;have e139:v 139=(aB 0 [v 45,v 46,v 109,v 110]).getD 1 0:=ag hs 139 rfl;have P138:((v 138,v 139):IV)=uM (v 45,v 46) (v 109,v 110):=by rw [e138,e139];rfl
 have U138:U (v 138,v 139):=by rw [P138];exact (U_M U45 U109).2.2
 have e140:v 140=(aB 0 [v 45,v 46,v 109,v 110]).getD 2 0:=ag hs 140 rfl;have E140:v 140=0:=e140.trans (U_M U45 U109).2.1;have e144:v 144=(aB 2 [v 60,v 61,v 138,v 139]).getD 0 0:=ag hs 144 rfl;have e145:v 145=(aB 2 [v 60,v 61,v 138,v 139]).getD 1 0:=ag hs 145 rfl;have P144:((v 144,v 145):IV)=uD (v 60,v 61) (v 138,v 139):=by rw [e144,e145];rfl
 have F144:fxV (v 144) (v 145)=true:=by have:=(U_D U60 U138).2.2;rw [<-P144] at this;exact this
 have e146:v 146=(aB 2 [v 60,v 61,v 138,v 139]).getD 2 0:=ag hs 146 rfl;have E146:v 146=0:=e146.trans (U_D U60 U138).2.1;have e150:v 150=(aB 7 [v 132,v 133,v 144,v 145]).getD 0 0:=ag hs 150 rfl;have e151:v 151=(aB 7 [v 132,v 133,v 144,v 145]).getD 1 0:=ag hs 151 rfl;have PY:((v 132,v 133):IV)=drY a b g h k j:=by rw [P132,P126,P120,P54,P48,e0,e1,e4,e5,e6,e7];rfl
 have PX:((v 144,v 145):IV)=drX a b g h k j:=by rw [P144,P138,PQ,P60,P45,e0,e1,e6,e7];rfl
 have y0:v 132=(drY a b g h k j).1:=congrArg Prod.fst PY;have y1:v 133=(drY a b g h k j).2:=congrArg Prod.snd PY;have x0:v 144=(drX a b g h k j).1:=congrArg Prod.fst PX;have x1:v 145=(drX a b g h k j).2:=congrArg Prod.snd PX;have B0:v 150=lC a b g h k j:=by rw [e150];show bz (v 132) (v 133) (v 144) (v 145)=_;rw [y0,y1,x0,x1];rfl
 have B1:v 151=oM a b g h k j:=by rw [e151];show bJ (v 132) (v 133) (v 144) (v 145)=_;rw [y0,y1,x0,x1];rfl
 have BB:=mP (drY a b g h k j).1 (drY a b g h k j).2 (drX a b g h k j).1 (drX a b g h k j).2;have BB':0<=lC a b g h k j/\lC a b g h k j<=21599999/\lC a b g h k j<=oM a b g h k j/\oM a b g h k j<=lC a b g h k j+21600000:=BB;have e156:v 156=IntKind.i64.wrap (v 2+v 150):=ag hs 156 rfl;have e157:v 157=IntKind.i64.wrap (v 3+v 151):=ag hs 157 rfl;have hl:-10800000<=c/\c<=d/\d<=32400000:=by unfold Fh at h2;omega
 have l1:v 156=c+lC a b g h k j:=by rw [e156,e2,B0,Go.IntWalk.i64_in _ (by omega)]
 have l2:v 157=d+oM a b g h k j:=by rw [e157,e3,B1,Go.IntWalk.i64_in _ (by omega)]
 have LO:=FR (p:=c+lC a b g h k j) (q:=d+oM a b g h k j) (n1:=v 156) (n2:=v 157) (w:=v 158) (g:=v 159) (m:=v 161) (c:=v 162) (u:=v 163) (r:=v 165) (g2:=v 166) (sb:=v 167) (z:=v 169) (x:=v 170) (y:=v 171) (lo:=v 172) (hi:=v 173) (by omega) (by omega) (by omega) l1 l2 (ag hs 158 rfl) (ag hs 159 rfl) (ag hs 161 rfl) (ag hs 162 rfl) (ag hs 163 rfl) (ag hs 165 rfl) (ag hs 166 rfl) (ag hs 167 rfl) (ag hs 169 rfl) (ag hs 170 rfl) (ag hs 171 rfl) (ag hs 172 rfl) (ag hs 173 rfl)
 have wA0:dA (v 0) (v 1)=true:=(cO _ _).2 (by rw [e0,e1];omega)
 have wA4:dA (v 4) (v 5)=true:=by rw [e4,e5];exact h3
 have wA6:dA (v 6) (v 7)=true:=(cO _ _).2 (by rw [e6,e7];omega)
 have z181:v 181=0:=aC (X:=cxM [a,b,c,d,k,j,g,h]) (v:=v) (l:=gX) (bv _) hs (k:=181) (r:=.c 0) (ps:=[(25,.c 1),(35,.c 1),(38,.c 0),(40,.c 0),(42,.c 0),(68,.c 0),(74,.c 0),(86,.c 0),(92,.c 0),(96,.c 1),(97,.c 1),(103,.c 0),(116,.c 0),(128,.c 0),(134,.c 0),(140,.c 0),(146,.c 0)]) (nz:=[]) (aa A25 (aa A35 (aa A38 (aa A40 (aa A42 (aa E68 (aa E74 (aa E86 (aa E92 (aa A96 (aa A97 (aa A103 (aa E116 (aa E128 (aa E134 (aa E140 (aa E146 au))))))))))))))))) aJ (by kernel_rfl)
 have z182:v 182=v 114:=aA (X:=cxM [a,b,c,d,k,j,g,h]) (v:=v) (l:=gX) (bv _) hs (k:=182) (j:=114) (ps:=[(25,.c 1),(35,.c 1),(38,.c 0),(40,.c 0),(42,.c 0),(68,.c 0),(74,.c 0),(86,.c 0),(92,.c 0),(96,.c 1),(97,.c 1),(103,.c 0),(116,.c 0),(128,.c 0),(134,.c 0),(140,.c 0),(146,.c 0)]) (aa A25 (aa A35 (aa A38 (aa A40 (aa A42 (aa E68 (aa E74 (aa E86 (aa E92 (aa A96 (aa A97 (aa A103 (aa E116 (aa E128 (aa E134 (aa E140 (aa E146 au))))))))))))))))) (by kernel_rfl)
 have z183:v 183=v 115:=aA (X:=cxM [a,b,c,d,k,j,g,h]) (v:=v) (l:=gX) (bv _) hs (k:=183) (j:=115) (ps:=[(25,.c 1),(35,.c 1),(38,.c 0),(40,.c 0),(42,.c 0),(68,.c 0),(74,.c 0),(86,.c 0),(92,.c 0),(96,.c 1),(97,.c 1),(103,.c 0),(116,.c 0),(128,.c 0),(134,.c 0),(140,.c 0),(146,.c 0)]) (aa A25 (aa A35 (aa A38 (aa A40 (aa A42 (aa E68 (aa E74 (aa E86 (aa E92 (aa A96 (aa A97 (aa A103 (aa E116 (aa E128 (aa E134 (aa E140 (aa E146 au))))))))))))))))) (by kernel_rfl)
 have z184:v 184=v 172:=aA (X:=cxM [a,b,c,d,k,j,g,h]) (v:=v) (l:=gX) (bv _) hs (k:=184) (j:=172) (ps:=[(25,.c 1),(35,.c 1),(38,.c 0),(40,.c 0),(42,.c 0),(68,.c 0),(74,.c 0),(86,.c 0),(92,.c 0),(96,.c 1),(97,.c 1),(103,.c 0),(116,.c 0),(128,.c 0),(134,.c 0),(140,.c 0),(146,.c 0)]) (aa A25 (aa A35 (aa A38 (aa A40 (aa A42 (aa E68 (aa E74 (aa E86 (aa E92 (aa A96 (aa A97 (aa A103 (aa E116 (aa E128 (aa E134 (aa E140 (aa E146 au))))))))))))))))) (by kernel_rfl)
 have z185:v 185=v 173:=aA (X:=cxM [a,b,c,d,k,j,g,h]) (v:=v) (l:=gX) (bv _) hs (k:=185) (j:=173) (ps:=[(25,.c 1),(35,.c 1),(38,.c 0),(40,.c 0),(42,.c 0),(68,.c 0),(74,.c 0),(86,.c 0),(92,.c 0),(96,.c 1),(97,.c 1),(103,.c 0),(116,.c 0),(128,.c 0),(134,.c 0),(140,.c 0),(146,.c 0)]) (aa A25 (aa A35 (aa A38 (aa A40 (aa A42 (aa E68 (aa E74 (aa E86 (aa E92 (aa A96 (aa A97 (aa A103 (aa E116 (aa E128 (aa E134 (aa E140 (aa E146 au))))))))))))))))) (by kernel_rfl)
 refine ⟨cB ?_,?_⟩
 . exact af (fun _=>wA0) (af (fun _=>wA0) (af (fun _=>wA6) (af (fun _=>wA6) (af (fun _=>⟨bD U45,bD U60⟩) (af (fun _=>⟨bD U48,bD U54⟩) (af (fun _=>wA4) (af (fun _=>⟨bD U72,bD U78⟩) (af (fun _=>⟨bD U66,bD U84⟩) (af (fun _=>trivial) (af (fun _=>trivial) (af (fun _=>bD U109) (af (fun _=>wA4) (af (fun _=>⟨bD U120,bD U54⟩) (af (fun _=>⟨bD U126,bD U48⟩) (af (fun _=>⟨bD U45,bD U109⟩) (af (fun _=>⟨bD U60,bD U138⟩) (af (fun _=>⟨bD U132,F144⟩) (cz))))))))))))))))))
 . intro x hx0;have hx':=cu (v:=v) (by rfl) hx0
   rw [hx'];show Value.tuple #[.agg #[.int .i64 (v 182),.int .i64 (v 183),.int .i64 (v 184),.int .i64 (v 185)],.int .i64 (v 181)]=_;rw [z181,z182,z183,z184,z185,V0,V1,W0,W1,LO.1,LO.2];rfl
