/- Plain: points of a track have a cross-track distance that holds 0; to the right of the equator is south. -/
import Derived.Test.YtmldbeipmappnaaZThr
import Derived.Test.YtmldbeipmappnaaZAt
import Derived.Test.YtmldbeipmappnaaZWay
import Derived.Deep.RegionHeld3
set_option linter.unusedVariables false
set_option linter.unusedSimpArgs false
set_option maxRecDepth 100000
set_option maxHeartbeats 4000000
namespace Go.Proofs.Ytmldbeipmappnaa
open Go.RowKit Alm Sx
theorem xz:0<=gap/\370*ee<gap/\0<=ee/\(2*(2*ee+td)+(2*ee+(8*tin+ee)))+80*ee<=gap/\2*ee<=1/4000000000/\0<=td/\0<=tin/\2*ee+(8*tin+ee)<=1:=by unfold gap ee td tin;decide +kernel
theorem wD:sg 0=0/\cg 0=1:=by decide +kernel
theorem ED {p q:IV} (hp:U p) (hq:U q) (h:(p.1<=0/\0<=p.2)∨(q.1<=0/\0<=q.2)):(uM p q).1<=0/\0<=(uM p q).2:=by
 rw [(U_M hp hq).1]
 have k:mn4 p.1 p.2 q.1 q.2<=0/\0<=mx4 p.1 p.2 q.1 q.2:=by
  rcases h with h|h
  . have:=Ib h.1 h.2 (Int.le_refl q.1) hq.2.1;rw [Int.zero_mul] at this;exact this
  . have:=Ib (Int.le_refl p.1) hp.2.1 h.1 h.2;rw [Int.mul_zero] at this;exact this
 show fI p.1 p.2 q.1 q.2<=0/\0<=gH p.1 p.2 q.1 q.2;unfold fI gH;omega
theorem Ew {L H:Int} (h1:L<=0) (h2:0<=H):(uS L H).1<=0/\0<=(uS L H).2:=by
 have e:=zt L H 0 h1 h2;rw [wD.1] at e;have g:=xz;have us:1/2000000000<=u30:=by rw [dB];decide +kernel
 unfold InE at e
 constructor
 . refine Int.not_lt.1 fun hh=>?_
   have c:=kS (show (1:Int)<=(uS L H).1 from hh)
   have:(uS L H).1=dJ L H:=rfl;rw [this,show ((1:Int):Rat)=1 from rfl,Rat.one_mul] at c
   grind
 . refine Int.not_lt.1 fun hh=>?_
   have c:=kS (show (uS L H).2<=(-1:Int) by omega)
   have:(uS L H).2=dN L H:=rfl;rw [this,show ((-1:Int):Rat)=-1 from rfl] at c
   grind
theorem Lc (a b:Int) (h:PtV a b):(bY a b a b).getD 0 0=0:=by
 have B:=su a b a b h h;refine Classical.byContradiction fun hh=>?_
 have f:=tL 0 ((bY a b a b).getD 0 0) (by omega) (by omega) (by omega)
 have x:=(zk a b a b).1;have E:=ui a b a b;have z:sgd (b-b)=0:=by rw [Int.sub_self];decide +kernel
 rw [z,wD.2,Rat.mul_one] at E;rw [wD.2] at f;have u:=bX a;have g:=xz;unfold Nr at E;clear B hh z;generalize (bY a b a b).getD 0 0=n at *
 grind
theorem J9 {p:IV} (h:p.1<=0/\0<=p.2):fo p.1<=0/\0<=eF p.2:=by
 have g:=xz;have s:=wD.1;have l:=kS h.1;have r:=kS h.2;rw [show ((0:Int):Rat)=0 from rfl,Rat.zero_mul] at l r
 exact ⟨EI (by omega) (by omega) (by rw [s];grind),DR (by omega) (by omega) (by rw [s];grind)⟩
theorem NH (a b c d:Int) (h1:PtV a b) (h2:PtV c d):(fo (cN a b c d a b).1<=0/\0<=eF (cN a b c d a b).2)/\(fo (cN a b c d c d).1<=0/\0<=eF (cN a b c d c d).2):=by
 have B:=su a b a b h1 h1;have K:=oK a b c d
 constructor
 . refine J9 (ED (U_S _ _) (U_S _ _) (.inl (Ew ?_ ?_)))
   . rw [Lc a b h1];omega
   . omega
 . exact J9 (ED (U_S _ _) (U_S _ _) (.inr (Ew (by omega) (by omega))))
theorem QR:(bA 0 0 0 5400000).getD 0 0=5400000/\(bA 0 0 0 5400000).getD 1 0=5400000:=by decide +kernel
theorem Mw (lat lon:Int) (h:PtV lat lon):fo (cN 0 0 0 5400000 lat lon).1<=-lat/\-lat<=eF (cN 0 0 0 5400000 lat lon).2:=by
 have h0:PtV 0 0:=by unfold PtV;omega
 have B:=su 0 0 lat lon h0 h;obtain ⟨r,cc,ss,r0,r1,e1,e2,_,_,K,D,_⟩:=Nw 0 0 lat lon h0 h B;have g:=xz;rw [wD.1,wD.2,Rat.one_mul,Rat.zero_mul,Rat.zero_mul,show sg lat-0=sg lat by grind] at e1
 have S:=D.sin
 have C:InE (uS ((bA 0 0 lat lon).getD 0 0-5400000) ((bA 0 0 lat lon).getD 1 0-5400000)).1 (uS ((bA 0 0 lat lon).getD 0 0-5400000) ((bA 0 0 lat lon).getD 1 0-5400000)).2 (-cc) (2*ee+(8*tin+ee)):=by
  obtain ⟨k,m,hk,hm,_,b⟩:=K
  have q:∀ n:Int,Nr (sg (n-5400000)) (-cg n) ee:=fun n=>by
   have:=(eG (n-5400000)).2;rw [show n-5400000+5400000=n by omega] at this
   unfold Nr at *;constructor<;>grind
  refine I1 (a:=sg (k-5400000)) (b:=sg (m-5400000)) ?_ (zt _ _ _ (by omega) (by omega)) (zt _ _ _ (by omega) (by omega))
  have qk:=q k;have qm:=q m;clear hk hm S e1 e2 D q;unfold Bt Nr at *
  rcases b with b|b
  . right;constructor<;>grind
  . left;constructor<;>grind
 have eN:cN 0 0 0 5400000 lat lon=uM (uS ((bY 0 0 lat lon).getD 0 0) ((bY 0 0 lat lon).getD 1 0)) (uS ((bA 0 0 lat lon).getD 0 0-5400000) ((bA 0 0 lat lon).getD 1 0-5400000)):=by
  unfold cN;rw [QR.1,QR.2]
 rw [eN];clear eN;have P:=Qk (U_S _ _) (U_S _ _) S C (by grind) (by grind) (by grind)
 have n:=Jo lat;clear S C K D e2;generalize uM (uS ((bY 0 0 lat lon).getD 0 0) ((bY 0 0 lat lon).getD 1 0)) (uS ((bA 0 0 lat lon).getD 0 0-5400000) ((bA 0 0 lat lon).getD 1 0-5400000))=p at *
 have e:r*-cc=-sg lat:=by rw [e1];grind
 rw [e] at P;unfold InE Nr at *
 have hl:-5400000<=-lat/\-lat<=5400000:=by unfold PtV at h;omega
 clear e1 e B;refine ⟨EI hl.1 hl.2 ?_,DR hl.1 hl.2 ?_⟩
 . generalize (p.1:Rat)*u30=A at *
   grind
 . generalize (p.2:Rat)*u30=A at *
   grind
end Go.Proofs.Ytmldbeipmappnaa
namespace Go.Proofs.Ytmldbeipmappnaa
open Go.RowKit Alm Sx
theorem Qn (args:List Int):∀ s∈([]:List Sx.Spec),aL Try.prog (cxT args) s:=fun s hs=>by cases hs
theorem tT {p q:Prop} [Decidable p] [Decidable q]:(if b2i (decide p)≠0 then b2i (decide q) else 0)=b2i (decide (p/\q)):=by
 by_cases h1:p<;>by_cases h2:q<;>simp [b2i,h1,h2]
theorem Tm {p q:Prop} [Decidable p] [Decidable q]:(if b2i (decide p)≠0 then 1 else b2i (decide q))=b2i (decide (p∨q)):=by
 by_cases h1:p<;>by_cases h2:q<;>simp [b2i,h1,h2]
def onV (a b c d:Int):Bool:=decide (((a<=b/\a>=-5400000)/\b<=5400000)/\((c=-10800000/\d=10800000)∨((((c>=-10800000/\c<10800000)/\c<=d)/\IntKind.i64.wrap (d-c)<21600000))))
def Ep:List Nd:=[
 .arg 0,
 .arg 1,
 .arg 2,
 .arg 3,
 .bin .leq .i64 (.n 0) (.n 1),
 .bin .geq .i64 (.n 0) (.c (-5400000)),
 .ite (.n 4) (.n 5) (.c 0),
 .bin .leq .i64 (.n 1) (.c 5400000),
 .ite (.n 6) (.n 7) (.c 0),
 .bin .eql .i64 (.n 2) (.c (-10800000)),
 .bin .eql .i64 (.n 3) (.c 10800000),
 .ite (.n 9) (.n 10) (.c 0),
 .bin .geq .i64 (.n 2) (.c (-10800000)),
 .bin .lss .i64 (.n 2) (.c 10800000),
 .ite (.n 12) (.n 13) (.c 0),
 .bin .leq .i64 (.n 2) (.n 3),
 .ite (.n 14) (.n 15) (.c 0),
 .bin .sub .i64 (.n 3) (.n 2),
 .bin .lss .i64 (.n 17) (.c 21600000),
 .ite (.n 16) (.n 18) (.c 0),
 .ite (.n 11) (.c 1) (.n 19),
 .ite (.n 8) (.n 20) (.c 0)]
def Ma:List Vc:=[
 ]
theorem Mr:whole Try.prog ([]:List Sx.Spec) 20 40 21 [(true,[some .i64,some .i64,some .i64,some .i64])]=some (.p (.c (.bool (.n 21))),⟨Ep.reverse,Ma.reverse⟩):=by kernel_rfl
theorem Lf:wfN Ep.reverse=true:=by kernel_rfl
theorem SK (a b c d:Int) (w:World):Calls Try.prog 21 #[.agg #[.int .i64 a,.int .i64 b,.int .i64 c,.int .i64 d]] w fun e w'=>e=.returned (.bool (onV a b c d))/\Below w.heap.size w w':=by
 refine Sx.calls (X:=cxT [a,b,c,d]) fE (Qn _) Mr Lf (fun v hs=>?_) w
 have e0:v 0=a:=ag hs 0 rfl;have e1:v 1=b:=ag hs 1 rfl;have e2:v 2=c:=ag hs 2 rfl;have e3:v 3=d:=ag hs 3 rfl;have e4:v 4=b2i (decide (v 0<=v 1)):=ag hs 4 rfl;have e5:v 5=b2i (decide (v 0>=(-5400000:Int))):=ag hs 5 rfl;have e6:v 6=if v 4≠0 then v 5 else (0:Int):=ag hs 6 rfl
 have e7:v 7=b2i (decide (v 1<=(5400000:Int))):=ag hs 7 rfl;have e8:v 8=if v 6≠0 then v 7 else (0:Int):=ag hs 8 rfl
 have e9:v 9=b2i (v 2==(-10800000:Int)):=ag hs 9 rfl;have e10:v 10=b2i (v 3==(10800000:Int)):=ag hs 10 rfl;have e11:v 11=if v 9≠0 then v 10 else (0:Int):=ag hs 11 rfl
 have e12:v 12=b2i (decide (v 2>=(-10800000:Int))):=ag hs 12 rfl;have e13:v 13=b2i (decide (v 2<(10800000:Int))):=ag hs 13 rfl;have e14:v 14=if v 12≠0 then v 13 else (0:Int):=ag hs 14 rfl
 have e15:v 15=b2i (decide (v 2<=v 3)):=ag hs 15 rfl;have e16:v 16=if v 14≠0 then v 15 else (0:Int):=ag hs 16 rfl
 have e17:v 17=IntKind.i64.wrap (v 3-v 2):=ag hs 17 rfl;have e18:v 18=b2i (decide (v 17<(21600000:Int))):=ag hs 18 rfl;have e19:v 19=if v 16≠0 then v 18 else (0:Int):=ag hs 19 rfl
 have e20:v 20=if v 11≠0 then (1:Int) else v 19:=ag hs 20 rfl
 have e21:v 21=if v 8≠0 then v 20 else (0:Int):=ag hs 21 rfl
 have q9:v 9=b2i (decide (v 2=-10800000)):=by rw [e9];congr 1
 have q10:v 10=b2i (decide (v 3=10800000)):=by rw [e10];congr 1
 have q:v 21=b2i (onV (v 0) (v 1) (v 2) (v 3)):=by
  rw [e21,e8,e6,e4,e5,e7,e20,e11,q9,q10,e19,e16,e14,e12,e13,e15,e18,e17,tT,tT,tT,tT,tT,tT,Tm,tT];rfl
 rw [e0,e1,e2,e3] at q;refine ⟨cB ?_,?_⟩
 . exact cz
 . intro x hx0;have hx':=cu (v:=v) (by rfl) hx0
   rw [hx'];show Value.bool (decide (v 21≠0))=_;rw [q,iH]
theorem Nc (a b c d n lat lon x0 x1 y0 y1:Int) (w:World) (CX:Hid (∀ w:World,Calls Try.prog 23 #[.agg #[.int .i64 a,.int .i64 b],.agg #[.int .i64 c,.int .i64 d],.agg #[.int .i64 a,.int .i64 b]] w fun e w'=>e=.returned (.tuple #[.agg #[.int .i64 x0,.int .i64 x1],.int .i64 1])/\Below w.heap.size w w')) (CY:Hid (∀ w:World,Calls Try.prog 23 #[.agg #[.int .i64 a,.int .i64 b],.agg #[.int .i64 c,.int .i64 d],.agg #[.int .i64 c,.int .i64 d]] w fun e w'=>e=.returned (.tuple #[.agg #[.int .i64 y0,.int .i64 y1],.int .i64 1])/\Below w.heap.size w w')):Calls Try.prog 6 #[.agg #[.int .i64 a,.int .i64 b],.agg #[.int .i64 c,.int .i64 d],.int .u8 n,.int .i64 lat,.int .i64 lon] w fun e w'=>e=.returned (.bool true)/\Below w.heap.size w w':=by
 have K0:=Lib.hid (((bK w).new w.heap.size rfl 23 #[.int .i64 a,.int .i64 b]).new (w.heap.size+1) (by simp) 23 #[.int .i64 c,.int .i64 d])
 go_enter Try.func6,Try.ntmps6;go_wp2_with fail;refine (pF _).mono ?_;rintro e w1 ⟨rfl,hb⟩;have K1:=Lib.hid (K0.out.below hb);clear hb K0;have a0:=K1.out.c (g:=w.heap.size) (t:=23) (cs:=#[.int .i64 a,.int .i64 b]) (by simp) (i:=0) rfl;have a1:=K1.out.c (g:=w.heap.size) (t:=23) (cs:=#[.int .i64 a,.int .i64 b]) (by simp) (i:=1) rfl;have c0:=K1.out.c (g:=w.heap.size+1) (t:=23) (cs:=#[.int .i64 c,.int .i64 d]) (by simp) (i:=0) rfl;have c1:=K1.out.c (g:=w.heap.size+1) (t:=23) (cs:=#[.int .i64 c,.int .i64 d]) (by simp) (i:=1) rfl
 go_wp2_with fail;refine (CX.out _).mono ?_;rintro e w2 ⟨rfl,hb⟩;have K2:=Lib.hid ((K1.out.below hb).new w2.heap.size rfl 26 #[.int .i64 x0,.int .i64 x1]);clear hb K1 a0 a1 c0 c1;have a0:=K2.out.c (g:=w.heap.size) (t:=23) (cs:=#[.int .i64 a,.int .i64 b]) (by simp) (i:=0) rfl;have a1:=K2.out.c (g:=w.heap.size) (t:=23) (cs:=#[.int .i64 a,.int .i64 b]) (by simp) (i:=1) rfl;have c0:=K2.out.c (g:=w.heap.size+1) (t:=23) (cs:=#[.int .i64 c,.int .i64 d]) (by simp) (i:=0) rfl;have c1:=K2.out.c (g:=w.heap.size+1) (t:=23) (cs:=#[.int .i64 c,.int .i64 d]) (by simp) (i:=1) rfl
 go_wp2_with fail;refine (CY.out _).mono ?_;rintro e w3 ⟨rfl,hb⟩;have K3:=Lib.hid ((K2.out.below hb).new w3.heap.size rfl 26 #[.int .i64 y0,.int .i64 y1]);clear hb K2 a0 a1 c0 c1;go_wp2;go_ret;exact ⟨by first|rfl|simp,K3.out.1⟩
theorem I9 (a b c d n lat lon x0 x1 y0 y1:Int) (w:World) (CX:Hid (∀ w:World,Calls Try.prog 23 #[.agg #[.int .i64 a,.int .i64 b],.agg #[.int .i64 c,.int .i64 d],.agg #[.int .i64 a,.int .i64 b]] w fun e w'=>e=.returned (.tuple #[.agg #[.int .i64 x0,.int .i64 x1],.int .i64 21])/\Below w.heap.size w w')) (CY:Hid (∀ w:World,Calls Try.prog 23 #[.agg #[.int .i64 a,.int .i64 b],.agg #[.int .i64 c,.int .i64 d],.agg #[.int .i64 c,.int .i64 d]] w fun e w'=>e=.returned (.tuple #[.agg #[.int .i64 y0,.int .i64 y1],.int .i64 21])/\Below w.heap.size w w')):Calls Try.prog 6 #[.agg #[.int .i64 a,.int .i64 b],.agg #[.int .i64 c,.int .i64 d],.int .u8 n,.int .i64 lat,.int .i64 lon] w fun e w'=>e=.returned (.bool true)/\Below w.heap.size w w':=by
 have K0:=Lib.hid (((bK w).new w.heap.size rfl 23 #[.int .i64 a,.int .i64 b]).new (w.heap.size+1) (by simp) 23 #[.int .i64 c,.int .i64 d])
 go_enter Try.func6,Try.ntmps6;go_wp2_with fail;refine (pF _).mono ?_;rintro e w1 ⟨rfl,hb⟩;have K1:=Lib.hid (K0.out.below hb);clear hb K0;have a0:=K1.out.c (g:=w.heap.size) (t:=23) (cs:=#[.int .i64 a,.int .i64 b]) (by simp) (i:=0) rfl;have a1:=K1.out.c (g:=w.heap.size) (t:=23) (cs:=#[.int .i64 a,.int .i64 b]) (by simp) (i:=1) rfl;have c0:=K1.out.c (g:=w.heap.size+1) (t:=23) (cs:=#[.int .i64 c,.int .i64 d]) (by simp) (i:=0) rfl;have c1:=K1.out.c (g:=w.heap.size+1) (t:=23) (cs:=#[.int .i64 c,.int .i64 d]) (by simp) (i:=1) rfl
 go_wp2_with fail;refine (CX.out _).mono ?_;rintro e w2 ⟨rfl,hb⟩;have K2:=Lib.hid ((K1.out.below hb).new w2.heap.size rfl 26 #[.int .i64 x0,.int .i64 x1]);clear hb K1 a0 a1 c0 c1;have a0:=K2.out.c (g:=w.heap.size) (t:=23) (cs:=#[.int .i64 a,.int .i64 b]) (by simp) (i:=0) rfl;have a1:=K2.out.c (g:=w.heap.size) (t:=23) (cs:=#[.int .i64 a,.int .i64 b]) (by simp) (i:=1) rfl;have c0:=K2.out.c (g:=w.heap.size+1) (t:=23) (cs:=#[.int .i64 c,.int .i64 d]) (by simp) (i:=0) rfl;have c1:=K2.out.c (g:=w.heap.size+1) (t:=23) (cs:=#[.int .i64 c,.int .i64 d]) (by simp) (i:=1) rfl
 go_wp2_with fail;refine (CY.out _).mono ?_;rintro e w3 ⟨rfl,hb⟩;have K3:=Lib.hid ((K2.out.below hb).new w3.heap.size rfl 26 #[.int .i64 y0,.int .i64 y1]);clear hb K2 a0 a1 c0 c1;go_wp2;go_ret;exact ⟨by first|rfl|simp,K3.out.1⟩
theorem Mi (a b c d n lat lon x0 x1 y0 y1 z0 z1:Int) (L:Cs) (w:World) (hx:x0<=0/\0<=x1) (hy:y0<=0/\0<=y1) (n0:0<=n) (n1:n<=255) (hm:1+n%5=(L.length:Int)) (hm1:1<=L.length) (hm5:L.length<=5)
 (hv:∀ x y z t:Int,[x,y,z,t]∈L->onV x y z t=true) (hp:(lat < -5400000∨(¬ lat < -5400000/\lat>5400000)∨((¬ lat < -5400000/\¬ lat>5400000)/\lon < -10800000)∨(((¬ lat < -5400000/\¬ lat>5400000)/\¬ lon < -10800000)/\lon>=10800000))∨((((¬ lat < -5400000/\¬ lat>5400000)/\¬ lon < -10800000)/\¬ lon>=10800000)/\-lat>=z0/\-lat<=z1))
 (CX:Hid (∀ w:World,Calls Try.prog 23 #[.agg #[.int .i64 a,.int .i64 b],.agg #[.int .i64 c,.int .i64 d],.agg #[.int .i64 a,.int .i64 b]] w fun e w'=>e=.returned (.tuple #[.agg #[.int .i64 x0,.int .i64 x1],.int .i64 0])/\Below w.heap.size w w')) (CY:Hid (∀ w:World,Calls Try.prog 23 #[.agg #[.int .i64 a,.int .i64 b],.agg #[.int .i64 c,.int .i64 d],.agg #[.int .i64 c,.int .i64 d]] w fun e w'=>e=.returned (.tuple #[.agg #[.int .i64 y0,.int .i64 y1],.int .i64 0])/\Below w.heap.size w w'))
 (CW:Hid (∀ w:World,Calls Try.prog 24 #[.agg #[.int .i64 a,.int .i64 b],.agg #[.int .i64 c,.int .i64 d],.int .i64 (L.length:Int)] w fun e w'=>(∃ u,e=.returned (.tuple #[u,.int .i64 0])/\fe 4 35 w.heap.size w' u L)/\Below w.heap.size w w'))
 (CZ:Hid ((((¬ lat < -5400000/\¬ lat>5400000)/\¬ lon < -10800000)/\¬ lon>=10800000)->∀ w:World,Calls Try.prog 23 #[.agg #[.int .i64 0,.int .i64 0],.agg #[.int .i64 0,.int .i64 5400000],.agg #[.int .i64 lat,.int .i64 lon]] w fun e w'=>e=.returned (.tuple #[.agg #[.int .i64 z0,.int .i64 z1],.int .i64 0])/\Below w.heap.size w w')):Calls Try.prog 6 #[.agg #[.int .i64 a,.int .i64 b],.agg #[.int .i64 c,.int .i64 d],.int .u8 n,.int .i64 lat,.int .i64 lon] w fun e w'=>e=.returned (.bool true)/\Below w.heap.size w w':=by
 have K0:=Lib.hid (((bK w).new w.heap.size rfl 23 #[.int .i64 a,.int .i64 b]).new (w.heap.size+1) (by simp) 23 #[.int .i64 c,.int .i64 d])
 have gx0:¬ x0>0:=by omega
 have gx1:¬ x1<0:=by omega
 have gy0:¬ y0>0:=by omega
 have gy1:¬ y1<0:=by omega
 have HP:=Lib.hid hp;clear hp hx hy;have HV:=Lib.hid hv;clear hv;go_enter Try.func6,Try.ntmps6;go_wp2_with fail;refine (pF _).mono ?_;rintro e w1 ⟨rfl,hb⟩;have K1:=Lib.hid (K0.out.below hb);clear hb K0;have a0:=K1.out.c (g:=w.heap.size) (t:=23) (cs:=#[.int .i64 a,.int .i64 b]) (by simp) (i:=0) rfl;have a1:=K1.out.c (g:=w.heap.size) (t:=23) (cs:=#[.int .i64 a,.int .i64 b]) (by simp) (i:=1) rfl;have c0:=K1.out.c (g:=w.heap.size+1) (t:=23) (cs:=#[.int .i64 c,.int .i64 d]) (by simp) (i:=0) rfl;have c1:=K1.out.c (g:=w.heap.size+1) (t:=23) (cs:=#[.int .i64 c,.int .i64 d]) (by simp) (i:=1) rfl
 go_wp2_with fail;refine (CX.out _).mono ?_;rintro e w2 ⟨rfl,hb⟩;have K2:=Lib.hid ((K1.out.below hb).new w2.heap.size rfl 26 #[.int .i64 x0,.int .i64 x1]);clear hb K1 a0 a1 c0 c1;have a0:=K2.out.c (g:=w.heap.size) (t:=23) (cs:=#[.int .i64 a,.int .i64 b]) (by simp) (i:=0) rfl;have a1:=K2.out.c (g:=w.heap.size) (t:=23) (cs:=#[.int .i64 a,.int .i64 b]) (by simp) (i:=1) rfl;have c0:=K2.out.c (g:=w.heap.size+1) (t:=23) (cs:=#[.int .i64 c,.int .i64 d]) (by simp) (i:=0) rfl;have c1:=K2.out.c (g:=w.heap.size+1) (t:=23) (cs:=#[.int .i64 c,.int .i64 d]) (by simp) (i:=1) rfl
 go_wp2_with fail;refine (CY.out _).mono ?_;rintro e w3 ⟨rfl,hb⟩;have K3:=Lib.hid ((K2.out.below hb).new w3.heap.size rfl 26 #[.int .i64 y0,.int .i64 y1]);clear hb K2 a0 a1 c0 c1;have a0:=K3.out.c (g:=w.heap.size) (t:=23) (cs:=#[.int .i64 a,.int .i64 b]) (by simp) (i:=0) rfl;have a1:=K3.out.c (g:=w.heap.size) (t:=23) (cs:=#[.int .i64 a,.int .i64 b]) (by simp) (i:=1) rfl;have c0:=K3.out.c (g:=w.heap.size+1) (t:=23) (cs:=#[.int .i64 c,.int .i64 d]) (by simp) (i:=0) rfl;have c1:=K3.out.c (g:=w.heap.size+1) (t:=23) (cs:=#[.int .i64 c,.int .i64 d]) (by simp) (i:=1) rfl;have p0:=K3.out.c (g:=w2.heap.size) (t:=26) (cs:=#[.int .i64 x0,.int .i64 x1]) (by simp) (i:=0) rfl;have p1:=K3.out.c (g:=w2.heap.size) (t:=26) (cs:=#[.int .i64 x0,.int .i64 x1]) (by simp) (i:=1) rfl;have q0:=K3.out.c (g:=w3.heap.size) (t:=26) (cs:=#[.int .i64 y0,.int .i64 y1]) (by simp) (i:=0) rfl;have q1:=K3.out.c (g:=w3.heap.size) (t:=26) (cs:=#[.int .i64 y0,.int .i64 y1]) (by simp) (i:=1) rfl
 go_wp2_with fail;refine (CW.out _).mono ?_;rintro e w4 ⟨⟨u,rfl,O⟩,hb⟩;obtain ⟨ad1,cap1,rfl,_,_,_,S1⟩:=O.out (by decide)
 obtain ⟨g,rfl,_,R1,_⟩:=S1 (by intro h;rw [h] at hm1;simp at hm1)
 have RR:=Lib.hid R1;clear O S1 R1;have K4:=Lib.hid (K3.out.below hb);clear hb K3 a0 a1 c0 c1 p0 p1 q0 q1 gx0 gx1 gy0 gy1 CX CY CW;have HB4:=Lib.hid K4.out.1;clear K4;go_wp2;go_loopw [86] (fun v wr=>∃ i:Nat,v=.int .i64 (i:Int)/\i<=L.length/\Below w4.heap.size w4 wr) (fun v _=>((L.length:Int)-intOf v).toNat)
 case atStart=>exact ⟨0,rfl,by omega,Below.refl _ _⟩
 case round =>
  obtain ⟨i,rfl,hi,hb⟩:=hrel;have HB:=Lib.hid hb;clear hb
  by_cases hl:i<L.length
  . obtain ⟨x,y,z,t,hx,c0,c1,c2,c3⟩:=(RR.out.below HB.out RR.out.lt).at4 i hl;rw [Nat.zero_add] at c0 c1 c2 c3
    have C:Hid (∀ w,Calls Try.prog 21 #[.agg #[.int .i64 x,.int .i64 y,.int .i64 z,.int .i64 t]] w fun e w'=>e=.returned (.bool true)/\Below w.heap.size w w'):=Lib.hid (fun w=>by
     have:=SK x y z t w;rw [HV.out x y z t (hx ▸ List.getElem_mem hl)] at this;exact this)
    clear hx;have hl':(i:Int)<(L.length:Int):=by omega
    have KP:=Lib.hid ((bK wr).new wr.heap.size rfl 35 #[.int .i64 x,.int .i64 y,.int .i64 z,.int .i64 t]);have p0:=KP.out.c (g:=wr.heap.size) (t:=35) (cs:=#[.int .i64 x,.int .i64 y,.int .i64 z,.int .i64 t]) (by simp) (i:=0) rfl;have p1:=KP.out.c (g:=wr.heap.size) (t:=35) (cs:=#[.int .i64 x,.int .i64 y,.int .i64 z,.int .i64 t]) (by simp) (i:=1) rfl;have p2:=KP.out.c (g:=wr.heap.size) (t:=35) (cs:=#[.int .i64 x,.int .i64 y,.int .i64 z,.int .i64 t]) (by simp) (i:=2) rfl;have p3:=KP.out.c (g:=wr.heap.size) (t:=35) (cs:=#[.int .i64 x,.int .i64 y,.int .i64 z,.int .i64 t]) (by simp) (i:=3) rfl
    go_wp2_with fail;refine (C.out _).mono ?_;rintro e w5 ⟨rfl,hb1⟩;have HB1:Hid (Below w4.heap.size w4 w5):=HB.out.trans ((KP.out.below hb1).1.mono HB.out.size);clear hb1 c0 c1 c2 c3 HB C KP p0 p1 p2 p3;go_wp2;go_light;exact ⟨⟨i+1,by rw [show ((i+1:Nat):Int)=(i:Int)+1 by omega],by omega,HB1.out⟩,by simp only [intOf];omega⟩
  . have hl':¬ (i:Int)<(L.length:Int):=by omega
    have HBW:Hid (Below w.heap.size w wr):=HB4.out.trans (HB.out.mono HB4.out.size);clear RR HV HB HB4;have hp:=HP.out;clear HP
    by_cases q1:lat < -5400000
    . clear CZ hp;go_wp2;go_ret;exact ⟨by first|rfl|simp,HBW.out⟩
    by_cases q2:lat>5400000
    . clear CZ hp;go_wp2;go_ret;exact ⟨by first|rfl|simp,HBW.out⟩
    by_cases q3:lon < -10800000
    . clear CZ hp;go_wp2;go_ret;exact ⟨by first|rfl|simp,HBW.out⟩
    by_cases q4:lon>=10800000
    . clear CZ hp;go_wp2;go_ret;exact ⟨by first|rfl|simp,HBW.out⟩
    have h5:-lat>=z0:=by omega
    have h6:-lat<=z1:=by omega
    have CZ':=Lib.hid (CZ.out (by omega))
    clear CZ hp;go_wp2_with fail;refine (CZ'.out _).mono ?_;rintro e w6 ⟨rfl,hb1⟩;have KZ:=Lib.hid ((bK w6).new w6.heap.size rfl 26 #[.int .i64 z0,.int .i64 z1]);have HBZ:Hid (Below w.heap.size w w6):=HBW.out.trans (hb1.mono HBW.out.size);have p0:=KZ.out.c (g:=w6.heap.size) (t:=26) (cs:=#[.int .i64 z0,.int .i64 z1]) (by simp) (i:=0) rfl;have p1:=KZ.out.c (g:=w6.heap.size) (t:=26) (cs:=#[.int .i64 z0,.int .i64 z1]) (by simp) (i:=1) rfl
    clear hb1 CZ' HBW;go_wp2;go_ret;exact ⟨by first|rfl|(simp;omega)|simp,HBZ.out.trans (KZ.out.1.mono HBZ.out.size)⟩
theorem M7 (n:Int) (h0:-5400000<=n) (h1:n<=5400000):bHi (-n)=-bLo n:=by
 rcases Int.lt_trichotomy n 0 with h|h|h
 . obtain ⟨a,b⟩:=gZ n h0 h;obtain ⟨a',b'⟩:=fM (-n) (by omega) (by omega)
   unfold bHi bLo;rw [a,b,a',b'];simp
 . subst h;decide
 . obtain ⟨a,b⟩:=fM n (by omega) h1
   obtain ⟨a',b'⟩:=gZ (-n) (by omega) (by omega)
   unfold bHi bLo;rw [a,b,a',b'];simp
theorem Kq (lo hi:Int) (h:lo<=hi):bC lo<=-bC (-hi):=by
 obtain ⟨a0,a1,a2,_⟩:=bW lo;obtain ⟨b0,b1,b2,_⟩:=bW (-hi)
 by_cases hh:bC lo<=-bC (-hi)
 . exact hh
 . have m:=yA (-bC (-hi)) (bC lo) (by omega) (by omega) (by omega)
   have n:=M7 (-bC (-hi)) (by omega) (by omega)
   rw [Int.neg_neg] at n;omega
theorem N8 {p:IV} (h:U p):-5400000<=fo p.1/\fo p.1<=eF p.2/\eF p.2<=5400000:=by
 have r1:=bW (max p.1 (-1073741824));have r2:=bW (-(min p.2 1073741824));have o:=Kq (max p.1 (-1073741824)) (min p.2 1073741824) (by unfold U at h;omega)
 unfold fo eF;generalize bC (max p.1 (-1073741824))=x at *
 generalize bC (-(min p.2 1073741824))=y at *
 omega
theorem Mj (a b c e f g h:Int):onV ((nS a b c c e f g h).getD 0 0) ((nS a b c c e f g h).getD 1 0) ((nS a b c c e f g h).getD 2 0) ((nS a b c c e f g h).getD 3 0)=true:=by
 obtain ⟨v0,v1,v2,v3⟩:=Lt a b c c e f g h;have A:=N8 (Ke a b g h e f);have BB:=mP (drY a b g h e f).1 (drY a b g h e f).2 (drX a b g h e f).1 (drX a b g h e f).2;have BB':lC a b g h e f<=oM a b g h e f:=BB.2.2.1;have LV:=Qx (c+lC a b g h e f) (c+oM a b g h e f) (by omega)
 rw [v0,v1,v2,v3];clear v0 v1 v2 v3 BB BB'
 generalize fo (drS a b g h e f).1=x at *
 generalize eF (drS a b g h e f).2=y at *
 generalize (qF (c+lC a b g h e f) (c+oM a b g h e f)).1=z at *
 generalize (qF (c+lC a b g h e f) (c+oM a b g h e f)).2=t at *
 unfold Fh at LV;unfold onV;refine decide_eq_true ⟨by omega,?_⟩
 rcases LV with l|l
 . exact .inl l
 . right;rw [Go.IntWalk.i64_in _ (by omega)];omega
theorem LQ (a b c d m:Int):∀ (i:Nat) (x y z t:Int),[x,y,z,t]∈wyA a b c d m i->onV x y z t=true:=by
 intro i
 induction i with
 | zero=>intro x y z t h;unfold wyA at h;cases h
 | succ i ih =>
  intro x y z t h;unfold wyA at h;rcases List.mem_append.1 h with h|h
  . exact ih x y z t h
  . have e:[x,y,z,t]=wyI a b c d m ((i+1:Nat):Int):=by simpa using h
    unfold wyI wyD at e
    injection e with e0 e;injection e with e1 e;injection e with e2 e;injection e with e3 e
    rw [e0,e1,e2,e3];exact Mj _ _ _ _ _ _ _
theorem MU (a b c d n lat lon:Int) (w:World) (hn:0<=n/\n<=255):Calls Try.prog 6 #[.agg #[.int .i64 a,.int .i64 b],.agg #[.int .i64 c,.int .i64 d],.int .u8 n,.int .i64 lat,.int .i64 lon] w fun e w'=>e=.returned (.bool true)/\Below w.heap.size w w':=by
 have n0:=hn.1;have n1:=hn.2
 by_cases hv:PtV a b/\PtV c d
 rotate_left
 . have e1:gW a b c d a b=[0,0,1]:=by unfold gW;rw [if_neg hv];split<;>rfl
   have e2:gW a b c d c d=[0,0,1]:=by unfold gW;rw [if_neg hv];split<;>rfl
   exact Nc a b c d n lat lon 0 0 0 0 w (Lib.hid fun w=>by have:=lG a b c d a b w;rw [e1] at this;exact this) (Lib.hid fun w=>by have:=lG a b c d c d w;rw [e2] at this;exact this)
 by_cases hc:crA a b c d
 . have e1:gW a b c d a b=[0,0,21]:=by unfold gW;rw [if_pos hv.1,if_pos hv,if_pos hc]
   have e2:gW a b c d c d=[0,0,21]:=by unfold gW;rw [if_pos hv.2,if_pos hv,if_pos hc]
   exact I9 a b c d n lat lon 0 0 0 0 w (Lib.hid fun w=>by have:=lG a b c d a b w;rw [e1] at this;exact this) (Lib.hid fun w=>by have:=lG a b c d c d w;rw [e2] at this;exact this)
 have e1:gW a b c d a b=[fo (cN a b c d a b).1,eF (cN a b c d a b).2,0]:=by unfold gW;rw [if_pos hv.1,if_pos hv,if_neg hc]
 have e2:gW a b c d c d=[fo (cN a b c d c d).1,eF (cN a b c d c d).2,0]:=by unfold gW;rw [if_pos hv.2,if_pos hv,if_neg hc]
 have E:=NH a b c d hv.1 hv.2;have hl:((wyA a b c d (1+n%5+1) (1+n%5).toNat).length:Int)=1+n%5:=by rw [xK];omega
 have q:¬ crA 0 0 0 5400000:=by rw [crA,QR.1];omega
 have h0:PtV 0 0:=by unfold PtV;omega
 have h9:PtV 0 5400000:=by unfold PtV;omega
 have e3:PtV lat lon->gW 0 0 0 5400000 lat lon=[fo (cN 0 0 0 5400000 lat lon).1,eF (cN 0 0 0 5400000 lat lon).2,0]:=fun h=>by unfold gW;rw [if_pos h,if_pos ⟨h0,h9⟩,if_neg q]
 have P:(((¬ lat < -5400000/\¬ lat>5400000)/\¬ lon < -10800000)/\¬ lon>=10800000)->PtV lat lon:=fun h=>by unfold PtV;omega
 refine Mi a b c d n lat lon (fo (cN a b c d a b).1) (eF (cN a b c d a b).2) (fo (cN a b c d c d).1) (eF (cN a b c d c d).2) (fo (cN 0 0 0 5400000 lat lon).1) (eF (cN 0 0 0 5400000 lat lon).2) (wyA a b c d (1+n%5+1) (1+n%5).toNat) w E.1 E.2 n0 n1 hl.symm (by omega) (by omega) (LQ a b c d _ _) ?_
  (Lib.hid fun w=>by have:=lG a b c d a b w;rw [e1] at this;exact this) (Lib.hid fun w=>by have:=lG a b c d c d w;rw [e2] at this;exact this)
  (Lib.hid fun w=>by rw [hl];exact Q4 a b c d (1+n%5) w hv.1 hv.2 (by omega) hc)
  (Lib.hid fun h w=>by have:=lG 0 0 0 5400000 lat lon w;rw [e3 (P h)] at this;exact this)
 by_cases hp:PtV lat lon
 . right
   have:=Mw lat lon hp;unfold PtV at hp;exact ⟨⟨⟨⟨by omega,by omega⟩,by omega⟩,by omega⟩,this.1,this.2⟩
 . left
   unfold PtV at hp;omega
