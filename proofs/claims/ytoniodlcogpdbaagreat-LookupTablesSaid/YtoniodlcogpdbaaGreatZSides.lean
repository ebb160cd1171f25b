/- The reference's quick look at the side of a point. -/
import Derived.Test.YtoniodlcogpdbaaGreatZBigs
import Derived.Test.YtoniodlcogpdbaaGreatZDirs
import Derived.Test.YtoniodlcogpdbaaGreatZRefA
import Derived.Test.YtoniodlcogpdbaaGreatZSp
import Derived.Deep.QuietTactic
import Derived.BigQuiet
import Derived.Deep.DeepCutAuto
import Derived.Deep.RegionHeld3
set_option linter.unusedVariables false
set_option linter.unusedSimpArgs false
set_option maxRecDepth 100000
set_option maxHeartbeats 8000000
namespace Alm
def tS (k:Nat):Rat:=if k<=2700000 then zs k else zc (5400000-k)
def tC (k:Nat):Rat:=if k<=2700000 then zc k else zs (5400000-k)
theorem Oe (x y:Int) (k:Nat):frm x y k=(x:Rat)*tS k-y*tC k:=by unfold frm tS tC;split<;>rfl
end Alm
namespace Go.Proofs.YtoniodlcogpdbaaGreat
open Go.RowKit Alm Sx
theorem fw (x:Nat) (s A B:Int) (hx:(x:Int)<=A) (hs:0<=s/\s<=B):0<=(x:Int)*s/\(x:Int)*s<=A*B:=by
 have h1:=Int.mul_le_mul_of_nonneg_right hx hs.1;have h2:=Int.mul_le_mul_of_nonneg_left hs.2 (show 0<=A by omega)
 exact ⟨Int.mul_nonneg (by omega) hs.1,by omega⟩
theorem JA:bQ<=e62:=by unfold bQ aO e62;decide +kernel
theorem Re (r:Nat) (h:r<=2700000):-(120*e62)<=(ji r:Rat)*e62-zs r/\(ji r:Rat)*e62-zs r<=120*e62:=by
 have a:=zg r h;have b:=(near r h).1;have c:=JA;have d:=Pv;grind
theorem QQ (r:Nat) (h:r<=2700000):-(120*e62)<=(jf r:Rat)*e62-zc r/\(jf r:Rat)*e62-zc r<=120*e62:=by
 have a:=Ae r h;have b:=(near r h).2;have c:=JA;have d:=Pv;grind
theorem vw (n:Nat) (h:n<5400000):(-(120*e62)<=(qVm n:Rat)*e62-tS n/\(qVm n:Rat)*e62-tS n<=120*e62)/\0<=qVm n/\qVm n<=4611686018427387904:=by
 unfold qVm tS;simp only [];have e0:(n:Int)/5400000=0:=by omega
 have e1:(n:Int)%5400000=n:=by omega
 rw [e0,e1,if_neg (by omega)]
 by_cases hg:n<=2700000
 . rw [if_neg (by omega),if_neg (by omega),if_pos hg,Int.toNat_natCast]
   exact ⟨Re n hg,(Go.Proofs.YtoniodlcogpdbaaGreat.q_bd n hg).1⟩
 . rw [if_pos (by omega),if_neg (by omega),if_neg hg,show (5400000-(n:Int)).toNat=5400000-n by omega]
   exact ⟨QQ _ (by omega),(Go.Proofs.YtoniodlcogpdbaaGreat.q_bd (5400000-n) (by omega)).2⟩
theorem vI (n:Nat) (h:n<5400000):(-(120*e62)<=(qVm ((n:Int)+5400000):Rat)*e62-tC n/\(qVm ((n:Int)+5400000):Rat)*e62-tC n<=120*e62)/\0<=qVm ((n:Int)+5400000)/\qVm ((n:Int)+5400000)<=4611686018427387904:=by
 unfold qVm tC;simp only [];have e0:((n:Int)+5400000)/5400000=1:=by omega
 have e1:((n:Int)+5400000)%5400000=n:=by omega
 rw [e0,e1,if_neg (by omega)]
 by_cases hg:n<=2700000
 . rw [if_neg (by omega),if_pos (by omega),if_pos hg,Int.toNat_natCast]
   exact ⟨QQ n hg,(Go.Proofs.YtoniodlcogpdbaaGreat.q_bd n hg).2⟩
 . rw [if_pos (by omega),if_pos (by omega),if_neg hg,show (5400000-(n:Int)).toNat=5400000-n by omega]
   exact ⟨Re _ (by omega),(Go.Proofs.YtoniodlcogpdbaaGreat.q_bd (5400000-n) (by omega)).1⟩
theorem Sn:(4611686018427387904:Rat)*e62=1:=by unfold e62;decide +kernel
theorem H6 (n x y S C:Nat) (hn:n<5400000) (hS:(S:Int)=qVm n/4) (hC:(C:Int)=qVm ((n:Int)+5400000)/4) :
 (((x:Int)+y)*65<(x:Int)*S-y*C->0<frm x y n)/\((x:Int)*S-y*C < -(((x:Int)+y)*65)->frm x y n<0):=by
 obtain ⟨⟨a1,a2⟩,a3,a4⟩:=vw n hn;obtain ⟨⟨b1,b2⟩,b3,b4⟩:=vI n hn;rw [Oe];have ep:=Pv;have s1:((4*S:Int):Rat)<=(qVm n:Rat):=Rat.intCast_le_intCast.2 (by omega)
 have s2:(qVm n:Rat)<=((4*S+3:Int):Rat):=Rat.intCast_le_intCast.2 (by omega)
 have c1:((4*C:Int):Rat)<=(qVm ((n:Int)+5400000):Rat):=Rat.intCast_le_intCast.2 (by omega)
 have c2:(qVm ((n:Int)+5400000):Rat)<=((4*C+3:Int):Rat):=Rat.intCast_le_intCast.2 (by omega)
 rw [Rat.intCast_mul] at s1 c1;rw [Rat.intCast_add,Rat.intCast_mul] at s2 c2;have k4:((4:Int):Rat)=4:=rfl;have k3:((3:Int):Rat)=3:=rfl;rw [k4] at s1 c1;rw [k4,k3] at s2 c2;have hx0:(0:Rat)<=((x:Int):Rat):=by rw [Rat.intCast_natCast];exact aD x
 have hy0:(0:Rat)<=((y:Int):Rat):=by rw [Rat.intCast_natCast];exact aD y
 clear a3 a4 b3 b4 hS hC;generalize (qVm n:Rat)=q at *
 generalize (qVm ((n:Int)+5400000):Rat)=r at *
 have m1:=Rat.mul_le_mul_of_nonneg_right s1 (Rat.le_of_lt ep);have m2:=Rat.mul_le_mul_of_nonneg_right s2 (Rat.le_of_lt ep);have m3:=Rat.mul_le_mul_of_nonneg_right c1 (Rat.le_of_lt ep);have m4:=Rat.mul_le_mul_of_nonneg_right c2 (Rat.le_of_lt ep);have u1:-(120*e62)<=4*((S:Int):Rat)*e62+3*e62-tS n:=by grind
 have u2:4*((S:Int):Rat)*e62-tS n<=120*e62:=by grind
 have v1:-(120*e62)<=4*((C:Int):Rat)*e62+3*e62-tC n:=by grind
 have v2:4*((C:Int):Rat)*e62-tC n<=120*e62:=by grind
 clear m1 m2 m3 m4 a1 a2 b1 b2 s1 s2 c1 c2
 have key:∀ X Y s c:Rat,0<=X->0<=Y->-(120*e62)<=4*s*e62+3*e62-tS n->4*s*e62-tS n<=120*e62->-(120*e62)<=4*c*e62+3*e62-tC n->4*c*e62-tC n<=120*e62 ->
  ((X+Y)*65<X*s-Y*c->0<X*tS n-Y*tC n)/\(X*s-Y*c < -((X+Y)*65)->X*tS n-Y*tC n<0):=by
  intro X Y s c hX hY u1 u2 v1 v2;have p1:=Rat.mul_nonneg hX (show 0<=4*s*e62+3*e62-tS n+120*e62 by grind)
  have p2:=Rat.mul_nonneg hX (show 0<=120*e62-(4*s*e62-tS n) by grind)
  have p3:=Rat.mul_nonneg hY (show 0<=4*c*e62+3*e62-tC n+120*e62 by grind)
  have p4:=Rat.mul_nonneg hY (show 0<=120*e62-(4*c*e62-tC n) by grind)
  have q1:=Rat.mul_nonneg hX (Rat.le_of_lt ep);have q2:=Rat.mul_nonneg hY (Rat.le_of_lt ep)
  constructor
  . intro h;have t:=Rat.mul_pos (show 0<X*s-Y*c-(X+Y)*65 by grind) ep
    grind
  . intro h;have t:=Rat.mul_pos (show 0 < -((X+Y)*65)-(X*s-Y*c) by grind) ep
    grind
 obtain ⟨k1,k2⟩:=key ((x:Int):Rat) ((y:Int):Rat) ((S:Int):Rat) ((C:Int):Rat) hx0 hy0 u1 u2 v1 v2;have k65:((65:Int):Rat)=65:=rfl
 constructor
 . intro h;apply k1;have:=Rat.intCast_lt_intCast.2 h;rw [Rat.intCast_sub,Rat.intCast_mul,Rat.intCast_mul,Rat.intCast_mul,Rat.intCast_add,k65] at this;exact this
 . intro h;apply k2;have:=Rat.intCast_lt_intCast.2 h;rw [Rat.intCast_sub,Rat.intCast_mul,Rat.intCast_mul,Rat.intCast_neg,Rat.intCast_mul,Rat.intCast_add,k65] at this;exact this
theorem WT (a:Int) (h0:0<=a) (h1:a<=4611686018427387904):bR .and .i64 a 1073741823=a%1073741824:=by
 show IntKind.i64.wrap ((BitVec.ofInt 64 a &&& BitVec.ofInt 64 1073741823).toNat:Int)=_;have e1:(BitVec.ofInt 64 1073741823).toNat=2^30-1:=by decide
 rw [BitVec.toNat_and,e1,Nat.and_two_pow_sub_one_eq_mod,BitVec.toNat_ofInt,IntKind.wrap_i64];omega
theorem Kj (a:Int):bR .shr .i64 a 30=a/1073741824:=by
 show a.fdiv (2^(min (30:Int).toNat 64))=_;rw [show (2:Int)^(min (30:Int).toNat 64)=1073741824 from by decide,Int.fdiv_eq_ediv_of_nonneg _ (by omega)]
theorem acl (a:Int):bR .shr .i64 a 2=a/4:=by
 show a.fdiv (2^(min (2:Int).toNat 64))=_;rw [show (2:Int)^(min (2:Int).toNat 64)=4 from by decide,Int.fdiv_eq_ediv_of_nonneg _ (by omega)]
def Rn:Nat->List Int->List Int
 | 40,[a]=>[qVm (au a)]
 | _,_=>[]
theorem Jv (a:Int):(Rn 40 [a]).getD 0 0=qVm (au a):=by simp only [Rn,List.getD_cons_zero]
def cxQ (args:List Int):Cx:=⟨Rn,fun f xs=>f=40/\xs.length=1,args⟩
def OM:Sx.Spec:=⟨125,40,[(false,[some .i64])],[(false,[some .i64])]⟩
theorem MM (args:List Int):∀ s∈[OM],aR Tryz.prog (cxQ args) s:=by
 intro s hs;rw [List.mem_singleton.1 hs];refine ⟨ours _ _ _ Tryz.func125 rfl (by kernel_rfl),fun xs hp w=>?_⟩
 match xs,hp with
 | [a],_ =>
  refine (JL a w).mono ?_;rintro e w' ⟨he,hb⟩;exact ⟨he,by rw [<-hb];exact Below.refl _ _⟩
 | [],hp=>exact absurd hp.2 (by simp)
 | _::_::_,hp=>exact absurd hp.2 (by simp)
def W9:List Nd:=[
 .arg 0,
 .arg 1,
 .arg 2,
 .app 40 0 [.n 0],
 .bin .shr .i64 (.n 3) (.c 2),
 .bin .add .i64 (.n 0) (.c 5400000),
 .app 40 0 [.n 5],
 .bin .shr .i64 (.n 6) (.c 2),
 .bin .shr .i64 (.n 4) (.c 30),
 .bin .mul .i64 (.n 1) (.n 8),
 .bin .shr .i64 (.n 7) (.c 30),
 .bin .mul .i64 (.n 2) (.n 10),
 .bin .sub .i64 (.n 9) (.n 11),
 .bin .and .i64 (.n 4) (.c 1073741823),
 .bin .mul .i64 (.n 1) (.n 13),
 .bin .and .i64 (.n 7) (.c 1073741823),
 .bin .mul .i64 (.n 2) (.n 15),
 .bin .sub .i64 (.n 14) (.n 16),
 .bin .shr .i64 (.n 17) (.c 30),
 .bin .add .i64 (.n 12) (.n 18),
 .bin .sub .i64 (.c 0) (.n 1),
 .mx (.n 1) (.n 20),
 .bin .sub .i64 (.c 0) (.n 2),
 .mx (.n 2) (.n 22),
 .bin .add .i64 (.n 21) (.n 23),
 .bin .mul .i64 (.n 24) (.c 65),
 .bin .shr .i64 (.n 25) (.c 30),
 .bin .add .i64 (.n 26) (.c 2),
 .bin .gtr .i64 (.n 19) (.n 27),
 .ite (.n 28) (.c 0) (.c 1),
 .bin .sub .i64 (.c 0) (.n 27),
 .bin .lss .i64 (.n 19) (.n 30),
 .ite (.n 31) (.c 0) (.c 1),
 .ite (.n 31) (.c (-1)) (.c 0),
 .ite (.n 28) (.c 1) (.n 33)]
def aaU:List Vc:=[
 ⟨[],.pre 40 [.n 0]⟩,
 ⟨[],.pre 40 [.n 5]⟩]
theorem ac6:whole Tryz.prog [OM] 20 30 164 [(false,[some .i64]),(false,[some .i64]),(false,[some .i64])]=some (.p (.c (.int .i64 (.n 34))),⟨W9.reverse,aaU.reverse⟩):=by kernel_rfl
theorem ac5:wfN W9.reverse=true:=by kernel_rfl
def qsT (n x y:Nat):Int:=((x:Int)*(qVm n/4)-y*(qVm ((n:Int)+5400000)/4))/1073741824
theorem WM (q:Int) (h0:0<=q) (h1:q<=4611686018427387904):0<=q/4/\q/4<=1152921504606846976:=by omega
def qsM (x y:Nat):Int:=((x:Int)+y)*65/1073741824+2
def qsV (n x y:Nat):Int:=if qsM x y<qsT n x y then 1 else if qsT n x y < -qsM x y then -1 else 0
theorem UK (a b c d:Int):a-b+(c-d)/1073741824=(a*1073741824+c-(b*1073741824+d))/1073741824:=by omega
theorem DN (x S:Int):x*S=x*(S/1073741824)*1073741824+x*(S%1073741824):=by
 have h:=Int.mul_ediv_add_emod S 1073741824;have:x*S=x*(1073741824*(S/1073741824)+S%1073741824):=by rw [h]
 rw [this];grind
theorem EG (n x y:Nat) (w:World) (hn:n<5400000) (hx:x<=2147483648) (hy:y<=2147483648) :
 Calls Tryz.prog 164 #[.int .i64 (n:Int),.int .i64 (x:Int),.int .i64 (y:Int)] w fun e w'=>e=.returned (.int .i64 (qsV n x y))/\Below w.heap.size w w':=by
 refine Sx.calls (X:=cxQ [(n:Int),(x:Int),(y:Int)]) dP (MM _) ac6 ac5 (fun v hs=>?_) w
 have e0:Hid (v 0=(n:Int)):=aa hs 0 rfl;have e1:Hid (v 1=(x:Int)):=aa hs 1 rfl;have e2:Hid (v 2=(y:Int)):=aa hs 2 rfl;have e3:Hid (v 3=(Rn 40 [v 0]).getD 0 0):=aa hs 3 rfl;have e4:Hid (v 4=bR .shr .i64 (v 3) ((2:Int))):=aa hs 4 rfl;have e5:Hid (v 5=IntKind.i64.wrap (v 0+(5400000:Int))):=aa hs 5 rfl;have e6:Hid (v 6=(Rn 40 [v 5]).getD 0 0):=aa hs 6 rfl;have e7:Hid (v 7=bR .shr .i64 (v 6) ((2:Int))):=aa hs 7 rfl;have e8:Hid (v 8=bR .shr .i64 (v 4) ((30:Int))):=aa hs 8 rfl;have e9:Hid (v 9=IntKind.i64.wrap (v 1*v 8)):=aa hs 9 rfl;have e10:Hid (v 10=bR .shr .i64 (v 7) ((30:Int))):=aa hs 10 rfl;have e11:Hid (v 11=IntKind.i64.wrap (v 2*v 10)):=aa hs 11 rfl;have e12:Hid (v 12=IntKind.i64.wrap (v 9-v 11)):=aa hs 12 rfl;have e13:Hid (v 13=bR .and .i64 (v 4) ((1073741823:Int))):=aa hs 13 rfl;have e14:Hid (v 14=IntKind.i64.wrap (v 1*v 13)):=aa hs 14 rfl;have e15:Hid (v 15=bR .and .i64 (v 7) ((1073741823:Int))):=aa hs 15 rfl;have e16:Hid (v 16=IntKind.i64.wrap (v 2*v 15)):=aa hs 16 rfl;have e17:Hid (v 17=IntKind.i64.wrap (v 14-v 16)):=aa hs 17 rfl;have e18:Hid (v 18=bR .shr .i64 (v 17) ((30:Int))):=aa hs 18 rfl;have e19:Hid (v 19=IntKind.i64.wrap (v 12+v 18)):=aa hs 19 rfl;have e20:Hid (v 20=IntKind.i64.wrap ((0:Int)-v 1)):=aa hs 20 rfl;have e21:Hid (v 21=if v 20>v 1 then v 20 else v 1):=aa hs 21 rfl
 have e22:Hid (v 22=IntKind.i64.wrap ((0:Int)-v 2)):=aa hs 22 rfl;have e23:Hid (v 23=if v 22>v 2 then v 22 else v 2):=aa hs 23 rfl
 have e24:Hid (v 24=IntKind.i64.wrap (v 21+v 23)):=aa hs 24 rfl;have e25:Hid (v 25=IntKind.i64.wrap (v 24*(65:Int))):=aa hs 25 rfl;have e26:Hid (v 26=bR .shr .i64 (v 25) ((30:Int))):=aa hs 26 rfl;have e27:Hid (v 27=IntKind.i64.wrap (v 26+(2:Int))):=aa hs 27 rfl;have e28:Hid (v 28=b2i (decide (v 19>v 27))):=aa hs 28 rfl;have e29:Hid (v 29=if v 28≠0 then (0:Int) else (1:Int)):=aa hs 29 rfl
 have e30:Hid (v 30=IntKind.i64.wrap ((0:Int)-v 27)):=aa hs 30 rfl;have e31:Hid (v 31=b2i (decide (v 19<v 30))):=aa hs 31 rfl;have e32:Hid (v 32=if v 31≠0 then (0:Int) else (1:Int)):=aa hs 32 rfl
 have e33:Hid (v 33=if v 31≠0 then (-1:Int) else (0:Int)):=aa hs 33 rfl
 have e34:Hid (v 34=if v 28≠0 then (1:Int) else v 33):=aa hs 34 rfl
 obtain ⟨_,qb1,qb2⟩:=vw n hn;obtain ⟨_,rb1,rb2⟩:=vI n hn;have w0:au (n:Int)=n:=by unfold au;omega
 have w5:au ((n:Int)+5400000)=(n:Int)+5400000:=by unfold au;omega
 have A3:Hid (v 3=qVm n):=by show _=_;rw [e3.out,e0.out];rw [Jv,w0]
 have A5:Hid (v 5=(n:Int)+5400000):=by show _=_;rw [e5.out,e0.out];exact IntWalk.i64_in _ (by omega)
 have A6:Hid (v 6=qVm ((n:Int)+5400000)):=by show _=_;rw [e6.out,A5.out];rw [Jv,w5]
 have hS1:0<=qVm n/4/\qVm n/4<=1152921504606846976:=WM _ qb1 qb2;have hC1:0<=qVm ((n:Int)+5400000)/4/\qVm ((n:Int)+5400000)/4<=1152921504606846976:=WM _ rb1 rb2;have A4:Hid (v 4=qVm n/4):=by show _=_;rw [e4.out,A3.out,acl]
 have A7:Hid (v 7=qVm ((n:Int)+5400000)/4):=by show _=_;rw [e7.out,A6.out,acl]
 unfold qsV qsT;clear qb1 qb2 rb1 rb2 w0 w5 e3 e6 A3 A6;generalize qVm n/4=S at *
 generalize qVm ((n:Int)+5400000)/4=C at *
 have A8:Hid (v 8=S/1073741824):=by show _=_;rw [e8.out,A4.out,Kj]
 have A10:Hid (v 10=C/1073741824):=by show _=_;rw [e10.out,A7.out,Kj]
 have A13:Hid (v 13=S%1073741824):=by show _=_;rw [e13.out,A4.out];exact WT _ hS1.1 (by omega)
 have A15:Hid (v 15=C%1073741824):=by show _=_;rw [e15.out,A7.out];exact WT _ hC1.1 (by omega)
 have b1:=fw x (S/1073741824) 2147483648 1073741824 (by omega) (by omega)
 have b2:=fw y (C/1073741824) 2147483648 1073741824 (by omega) (by omega)
 have b3:=fw x (S%1073741824) 2147483648 1073741824 (by omega) (by omega)
 have b4:=fw y (C%1073741824) 2147483648 1073741824 (by omega) (by omega)
 have A9:Hid (v 9=(x:Int)*(S/1073741824)):=by show _=_;rw [e9.out,e1.out,A8.out];exact IntWalk.i64_in _ (by omega)
 have A11:Hid (v 11=(y:Int)*(C/1073741824)):=by show _=_;rw [e11.out,e2.out,A10.out];exact IntWalk.i64_in _ (by omega)
 have A14:Hid (v 14=(x:Int)*(S%1073741824)):=by show _=_;rw [e14.out,e1.out,A13.out];exact IntWalk.i64_in _ (by omega)
 have A16:Hid (v 16=(y:Int)*(C%1073741824)):=by show _=_;rw [e16.out,e2.out,A15.out];exact IntWalk.i64_in _ (by omega)
 have A12:Hid (v 12=(x:Int)*(S/1073741824)-(y:Int)*(C/1073741824)):=by show _=_;rw [e12.out,A9.out,A11.out];exact IntWalk.i64_in _ (by omega)
 have A17:Hid (v 17=(x:Int)*(S%1073741824)-(y:Int)*(C%1073741824)):=by show _=_;rw [e17.out,A14.out,A16.out];exact IntWalk.i64_in _ (by omega)
 have A18:Hid (v 18=((x:Int)*(S%1073741824)-(y:Int)*(C%1073741824))/1073741824):=by show _=_;rw [e18.out,A17.out,Kj]
 have A19:Hid (v 19=((x:Int)*S-y*C)/1073741824):=by
  show _=_;have hw:v 19=(x:Int)*(S/1073741824)-(y:Int)*(C/1073741824)+((x:Int)*(S%1073741824)-(y:Int)*(C%1073741824))/1073741824:=by rw [e19.out,A12.out,A18.out];exact IntWalk.i64_in _ (by omega)
  rw [hw,DN (x:Int) S,DN (y:Int) C];exact UK _ _ _ _
 have A20:Hid (v 20=-(x:Int)):=by show _=_;rw [e20.out,e1.out,IntWalk.i64_in _ (by omega)];omega
 have A21:Hid (v 21=(x:Int)):=by show _=_;rw [e21.out,A20.out,e1.out];split<;>omega
 have A22:Hid (v 22=-(y:Int)):=by show _=_;rw [e22.out,e2.out,IntWalk.i64_in _ (by omega)];omega
 have A23:Hid (v 23=(y:Int)):=by show _=_;rw [e23.out,A22.out,e2.out];split<;>omega
 have A24:Hid (v 24=(x:Int)+y):=by show _=_;rw [e24.out,A21.out,A23.out];exact IntWalk.i64_in _ (by omega)
 have A25:Hid (v 25=((x:Int)+y)*65):=by show _=_;rw [e25.out,A24.out];exact IntWalk.i64_in _ (by omega)
 have A26:Hid (v 26=((x:Int)+y)*65/1073741824):=by show _=_;rw [e26.out,A25.out,Kj]
 have A27:Hid (v 27=qsM x y):=by show _=_;rw [e27.out,A26.out];exact IntWalk.i64_in _ (by omega)
 have hM:0<=qsM x y/\qsM x y<=1000:=by unfold qsM;omega
 have A30:Hid (v 30=-qsM x y):=by show _=_;rw [e30.out,A27.out,IntWalk.i64_in _ (by omega)];omega
 have R:v 34=if qsM x y<((x:Int)*S-y*C)/1073741824 then 1 else if ((x:Int)*S-y*C)/1073741824 < -qsM x y then -1 else 0:=by
  rw [e34.out,e33.out,e31.out,e28.out,A19.out,A27.out,A30.out];generalize ((x:Int)*S-y*C)/1073741824=T;generalize qsM x y=M
  by_cases h1:M<T
  . rw [if_pos h1,decide_eq_true (show T>M from h1)];rfl
  . rw [if_neg h1,decide_eq_false (show ¬ T>M from h1)]
    by_cases h2:T < -M
    . rw [if_pos h2,decide_eq_true h2];rfl
    . rw [if_neg h2,decide_eq_false h2];rfl
 refine ⟨bB ?_,?_⟩
 . refine ag ?_ (ag ?_ (bu))
   . exact fun _=>⟨rfl,rfl⟩
   . exact fun _=>⟨rfl,rfl⟩
 . intro z hz;have hz':z=.int .i64 (v 34):=hz;rw [hz',R]
theorem XK (n x y:Nat) (hn:n<5400000):qsV n x y=0∨(qsV n x y=1/\0<frm x y n)∨(qsV n x y=-1/\frm x y n<0):=by
 obtain ⟨_,qb1,qb2⟩:=vw n hn;obtain ⟨_,rb1,rb2⟩:=vI n hn;have h:=H6 n x y (qVm n/4).toNat (qVm ((n:Int)+5400000)/4).toNat hn (Int.toNat_of_nonneg (by omega)) (Int.toNat_of_nonneg (by omega))
 rw [Int.toNat_of_nonneg (by omega),Int.toNat_of_nonneg (by omega)] at h
 unfold qsV qsT qsM;generalize (x:Int)*(qVm n/4)-y*(qVm ((n:Int)+5400000)/4)=F at *
 generalize ((x:Int)+y)*65=M at *
 by_cases h1:M/1073741824+2<F/1073741824
 . rw [if_pos h1];exact .inr (.inl ⟨rfl,h.1 (by omega)⟩)
 . rw [if_neg h1]
   by_cases h2:F/1073741824 < -(M/1073741824+2)
   . rw [if_pos h2];exact .inr (.inr ⟨rfl,h.2 (by omega)⟩)
   . rw [if_neg h2];exact .inl rfl
end Go.Proofs.YtoniodlcogpdbaaGreat
namespace Go.Proofs.YtoniodlcogpdbaaGreat
open Go.RowKit Alm
def du (k:Nat):Rat:=1/((BB^k:Nat):Rat)
theorem adx:IsU (BB^3) (du 3):=by unfold IsU du;refine ⟨by decide +kernel,by decide +kernel,by decide +kernel,by decide +kernel,by unfold QA;decide +kernel,by unfold bQ aO;decide +kernel⟩
theorem aa3:IsU (BB^4) (du 4):=by unfold IsU du;refine ⟨by decide +kernel,by decide +kernel,by decide +kernel,by decide +kernel,by unfold QA;decide +kernel,by unfold bQ aO;decide +kernel⟩
theorem Um:pq 3 (du 3):=by unfold pq du ak;constructor<;>decide +kernel
theorem Ty:pq 4 (du 4):=by unfold pq du ak;constructor<;>decide +kernel
theorem sK (k:Nat) (h:k=3∨k=4):IsU (BB^k) (du k):=by rcases h with rfl|rfl;exact adx;exact aa3
theorem nU (k:Nat) (h:k=3∨k=4):pq k (du k):=by rcases h with rfl|rfl;exact Um;exact Ty
theorem ll (z:Int) (s d e:Rat) (hd:0<d) (hs:0<=s) (h1:-(e*d)<=(z:Rat)*d-s) (h2:(z:Rat)*d-s<=e*d) (he:0<=e):-(e*d)<=((z.toNat:Nat):Rat)*d-s/\((z.toNat:Nat):Rat)*d-s<=e*d:=by
 by_cases h:0<=z
 . have e1:((z.toNat:Nat):Rat)=(z:Rat):=by rw [<-Rat.intCast_natCast,Int.toNat_of_nonneg h]
   rw [e1];exact ⟨h1,h2⟩
 . have e1:z.toNat=0:=Int.toNat_of_nonpos (by omega)
   have hz:(z:Rat)<=0:=Rat.intCast_le_intCast.2 (show z<=0 by omega)
   have m:=Rat.mul_nonneg (show 0<=-(z:Rat) by grind) (Rat.le_of_lt hd)
   rw [e1];have e2:((0:Nat):Rat)=0:=rfl;rw [e2];have m2:=Rat.mul_nonneg he (Rat.le_of_lt hd)
   constructor<;>grind
theorem rT (k n:Nat) (hk:k=3∨k=4) (hn:n<5400000):-(220*du k)<=(bK k n:Rat)*du k-tS n/\(bK k n:Rat)*du k-tS n<=220*du k:=by
 have HU:=sK k hk;have HP:=nU k hk;unfold bK tS;rw [show n%5400000=n by omega,show n/5400000=0 by omega]
 by_cases hg:2700000<n
 . rw [if_pos hg,if_neg (by omega)]
   have a:=OQ (BB^k) (du k) HU (piU k) HP (5400000-n) (by omega)
   have z:=eT (5400000-n) (by omega)
   exact ll _ _ _ _ HU.2.1 (by grind) a.1 a.2 (by decide)
 . rw [if_neg hg,if_pos (by omega)]
   have a:=QX (BB^k) (du k) HU (piU k) HP n (by omega)
   exact ll _ _ _ _ HU.2.1 (pz n (by omega)) a.1 a.2 (by decide)
theorem rU (k n:Nat) (hk:k=3∨k=4) (hn:n<5400000):-(220*du k)<=(bK k (n+5400000):Rat)*du k-tC n/\(bK k (n+5400000):Rat)*du k-tC n<=220*du k:=by
 have HU:=sK k hk;have HP:=nU k hk;unfold bK tC;rw [show (n+5400000)%5400000=n by omega,show (n+5400000)/5400000=1 by omega]
 by_cases hg:2700000<n
 . rw [if_pos hg,if_neg (by omega)]
   have a:=QX (BB^k) (du k) HU (piU k) HP (5400000-n) (by omega)
   exact ll _ _ _ _ HU.2.1 (pz (5400000-n) (by omega)) a.1 a.2 (by decide)
 . rw [if_neg hg,if_pos (by omega)]
   have a:=OQ (BB^k) (du k) HU (piU k) HP n (by omega)
   have z:=eT n (by omega)
   exact ll _ _ _ _ HU.2.1 (by grind) a.1 a.2 (by decide)
theorem Dw (k n x y:Nat) (hk:k=3∨k=4) (hn:n<5400000) (hx:x<=2147483648) (hy:y<=2147483648) :
 (1024*4294967296<(x:Int)*bK k n-y*bK k (n+5400000)->0<frm x y n)/\((x:Int)*bK k n-y*bK k (n+5400000) < -(1024*4294967296)->frm x y n<0):=by
 have a:=rT k n hk hn;have b:=rU k n hk hn;have dp:0<du k:=(sK k hk).2.1;have bx:=mO (x:=(x:Int)) (by omega) (by omega)
 have by':=mO (x:=(y:Int)) (by omega) (by omega)
 rw [Oe]
 have cast:(((x:Int)*bK k n-y*bK k (n+5400000):Int):Rat)=((x:Int):Rat)*(bK k n:Rat)-((y:Int):Rat)*(bK k (n+5400000):Rat):=by
  rw [Rat.intCast_sub,Rat.intCast_mul,Rat.intCast_mul,Rat.intCast_natCast (n:=bK k n),Rat.intCast_natCast (n:=bK k (n+5400000))]
 generalize (x:Int)*(bK k n:Int)-(y:Int)*(bK k (n+5400000):Int)=F at *
 generalize (bK k n:Rat)=S at *
 generalize (bK k (n+5400000):Rat)=C at *
 generalize ((x:Int):Rat)=X at *
 generalize ((y:Int):Rat)=Y at *
 generalize du k=d at *
 have m1:=aB X (S*d-tS n) 2147483648 (220*d) (by grind) bx.2 a.1 a.2
 have m2:=aB Y (C*d-tC n) 2147483648 (220*d) (by grind) by'.2 b.1 b.2
 have e:(X*S-Y*C)*d=X*(S*d-tS n)-Y*(C*d-tC n)+(X*tS n-Y*tC n):=by grind
 constructor
 . intro h;have k1:((4398046511104:Int):Rat)<(F:Rat):=Rat.intCast_lt_intCast.2 (by omega)
   rw [cast] at k1;have k2:((4398046511104:Int):Rat)=4398046511104:=rfl;rw [k2] at k1;have t:=Rat.mul_pos (show 0<X*S-Y*C-4398046511104 by grind) dp
   generalize X*(S*d-tS n)=P at *
   generalize Y*(C*d-tC n)=Q at *
   generalize X*tS n-Y*tC n=R at *
   generalize X*S-Y*C=G at *
   grind
 . intro h;have k1:(F:Rat)<((-4398046511104:Int):Rat):=Rat.intCast_lt_intCast.2 (by omega)
   rw [cast] at k1;have k2:((-4398046511104:Int):Rat)=-4398046511104:=rfl;rw [k2] at k1;have t:=Rat.mul_pos (show 0 < -4398046511104-(X*S-Y*C) by grind) dp
   generalize X*(S*d-tS n)=P at *
   generalize Y*(C*d-tC n)=Q at *
   generalize X*tS n-Y*tC n=R at *
   generalize X*S-Y*C=G at *
   grind
theorem Ve:4398046511104*du 4+4294967296*(220*du 4)<e62:=by unfold du e62;decide +kernel
theorem QM (n x y:Nat) (h0:0<n) (h1:n<5400000) (h2:n≠2700000) (hn:¬ (x=0/\y=0)) (hx:x<=2147483648) (hy:y<=2147483648) :
 1024*4294967296<(x:Int)*bK 4 n-y*bK 4 (n+5400000)∨(x:Int)*bK 4 n-y*bK 4 (n+5400000) < -(1024*4294967296):=by
 have gap:=Jo x y n h0 h1 h2 (by omega) (by omega) (by omega)
 have a:=rT 4 n (.inr rfl) h1;have b:=rU 4 n (.inr rfl) h1;have dp:0<du 4:=aa3.2.1;have q:=Ve;have bx:=mO (x:=(x:Int)) (by omega) (by omega)
 have by':=mO (x:=(y:Int)) (by omega) (by omega)
 rw [Oe] at gap
 have cast:(((x:Int)*bK 4 n-y*bK 4 (n+5400000):Int):Rat)=((x:Int):Rat)*(bK 4 n:Rat)-((y:Int):Rat)*(bK 4 (n+5400000):Rat):=by
  rw [Rat.intCast_sub,Rat.intCast_mul,Rat.intCast_mul,Rat.intCast_natCast (n:=bK 4 n),Rat.intCast_natCast (n:=bK 4 (n+5400000))]
 have dec:(4398046511104:Rat)<(((x:Int)*bK 4 n-y*bK 4 (n+5400000):Int):Rat)∨(((x:Int)*bK 4 n-y*bK 4 (n+5400000):Int):Rat) < -4398046511104:=by
  rw [cast];clear cast h0 h1 h2 hn hx hy;generalize (bK 4 n:Rat)=S at *
  generalize (bK 4 (n+5400000):Rat)=C at *
  generalize ((x:Int):Rat)=X at *
  generalize ((y:Int):Rat)=Y at *
  generalize du 4=d at *
  have m1:=aB X (S*d-tS n) 2147483648 (220*d) (by grind) bx.2 a.1 a.2
  have m2:=aB Y (C*d-tC n) 2147483648 (220*d) (by grind) by'.2 b.1 b.2
  have e:(X*S-Y*C)*d=X*(S*d-tS n)-Y*(C*d-tC n)+(X*tS n-Y*tC n):=by grind
  generalize X*(S*d-tS n)=P at *
  generalize Y*(C*d-tC n)=Q at *
  generalize X*tS n-Y*tC n=R at *
  generalize X*S-Y*C=G at *
  rcases gap with g|g
  . left
    refine Rat.not_le.1 fun hh=>?_
    have:=Rat.mul_nonneg (show 0<=4398046511104-G by grind) (Rat.le_of_lt dp)
    grind
  . right
    refine Rat.not_le.1 fun hh=>?_
    have:=Rat.mul_nonneg (show 0<=G+4398046511104 by grind) (Rat.le_of_lt dp)
    grind
 rcases dec with h|h
 . left
   have:((4398046511104:Int):Rat)<(((x:Int)*bK 4 n-y*bK 4 (n+5400000):Int):Rat):=h;have:=Rat.intCast_lt_intCast.1 this;omega
 . right
   have:(((x:Int)*bK 4 n-y*bK 4 (n+5400000):Int):Rat)<((-4398046511104:Int):Rat):=h;have:=Rat.intCast_lt_intCast.1 this;omega
end Go.Proofs.YtoniodlcogpdbaaGreat
namespace Go.Proofs.YtoniodlcogpdbaaGreat
open Go.RowKit Alm
def sgn (d:Int):Int:=if d<0 then -1 else if 0<d then 1 else 0
theorem Cy (d:Int) (w:World):Calls Tryz.prog 163 #[.int .i64 d] w fun e w'=>e=.returned (.int .i64 (sgn d))/\w=w':=by
 unfold sgn;rcases Int.lt_trichotomy d 0 with h|h|h
 . rw [if_pos h];go_enter Tryz.func163,Tryz.ntmps163;go_wp2;go_ret;exact ⟨rfl,rfl⟩
 . subst h;go_enter Tryz.func163,Tryz.ntmps163;go_wp2;go_ret;exact ⟨rfl,rfl⟩
 . have h2:¬ d<0:=by omega
   rw [if_neg h2,if_pos h];go_enter Tryz.func163,Tryz.ntmps163;go_wp2;go_ret;exact ⟨rfl,rfl⟩
theorem XD (x y:Int) (w:World) (hx:0<=x) (hx2:x<=2147483648) (hy:0<=y) (hy2:y<=2147483648) :
 Calls Tryz.prog 137 #[.int .i64 0,.int .i64 x,.int .i64 y] w fun e w'=>e=.returned (.int .i64 (sgn (-y)))/\Below w.heap.size w w':=by
 have C0:=Lib.hid Cy;have hB:=Lib.hid (Below.refl w.heap.size w);go_enter Tryz.func137,Tryz.ntmps137;go_wp2;go_quiet (fail);go_wp2_with fail;refine (C0.out _ _).mono ?_;rintro e w1 ⟨rfl,rfl⟩;go_wp2;go_ret;exact ⟨rfl,below_drewN (hB.out.alloc (Nat.le_refl _) _) _⟩
theorem Og (x y:Int) (w:World) (hx:0<=x) (hx2:x<=2147483648) (hy:0<=y) (hy2:y<=2147483648) :
 Calls Tryz.prog 137 #[.int .i64 2700000,.int .i64 x,.int .i64 y] w fun e w'=>e=.returned (.int .i64 (sgn (x-y)))/\Below w.heap.size w w':=by
 have C0:=Lib.hid Cy;have hB:=Lib.hid (Below.refl w.heap.size w);go_enter Tryz.func137,Tryz.ntmps137;go_wp2;go_quiet (fail);go_wp2_with fail;refine (C0.out _ _).mono ?_;rintro e w1 ⟨rfl,rfl⟩;go_wp2;go_ret;exact ⟨rfl,below_drewN (hB.out.alloc (Nat.le_refl _) _) _⟩
theorem Qo (x y:Int) (w:World) (hx:0<=x) (hx2:x<=2147483648) (hy:0<=y) (hy2:y<=2147483648) :
 Calls Tryz.prog 137 #[.int .i64 5400000,.int .i64 x,.int .i64 y] w fun e w'=>e=.returned (.int .i64 (sgn (x)))/\Below w.heap.size w w':=by
 have C0:=Lib.hid Cy;have hB:=Lib.hid (Below.refl w.heap.size w);go_enter Tryz.func137,Tryz.ntmps137;go_wp2;go_quiet (fail);go_wp2_with fail;refine (C0.out _ _).mono ?_;rintro e w1 ⟨rfl,rfl⟩;go_wp2;go_ret;exact ⟨rfl,below_drewN (hB.out.alloc (Nat.le_refl _) _) _⟩
def FL (n x y:Nat) (w:World) (e:Ending) (w':World):Prop:=∃ t:Int,e=.returned (.int .i64 t)/\((t=1/\0<frm x y n)∨(t=-1/\frm x y n<0))/\Below w.heap.size w w'
theorem GN (N X Y:Nat) (n m x y t:Int) (w:World) (ht:n.tmod 21600000=m) (h0:0<=m) (h1:m<21600000) (hm:m%2700000≠0) (hx:0<x) (hx2:x<=2147483648) (hy:0<=y) (hy2:y<=2147483648) (t0:t≠0)
 (P:Hid ((t=1/\0<frm X Y N)∨(t=-1/\frm X Y N<0)))
 (CQ:Hid (∀ w,Calls Tryz.prog 164 #[.int .i64 m,.int .i64 x,.int .i64 y] w fun e w'=>e=.returned (.int .i64 t)/\Below w.heap.size w w')) :
 Calls Tryz.prog 137 #[.int .i64 n,.int .i64 x,.int .i64 y] w (FL N X Y w):=by
 have hx1:(x==0)=false:=by simp;omega
 have ht1:(t != 0)=true:=by simpa using t0
 go_enter Tryz.func137,Tryz.ntmps137;go_wp2_with fail;refine (CQ.out _).mono ?_;rintro e w1 ⟨rfl,hb⟩;have HB:=Lib.hid hb;clear hb;go_wp2;go_ret;exact ⟨t,rfl,P.out,HB.out⟩
end Go.Proofs.YtoniodlcogpdbaaGreat
namespace Go.Proofs.YtoniodlcogpdbaaGreat
open Go.RowKit Alm
def abk (X Y:Nat) (w:World) (e:Ending) (w':World):Prop:=∃ (N:Nat) (neg:Bool),lV N neg w e w'/\N<BB^40/\((neg=false/\(N:Int)=X-Y)∨(neg=true/\0<N/\(N:Int)=Y-X))
theorem TD (X Y:Nat) (va vb:Value) (w:World) (hX:BN w va X) (hY:BN w vb Y) (lX:X<BB^40) (lY:Y<BB^40) :
 Calls Tryz.prog 131 #[.agg #[va,.bool false],.agg #[vb,.bool (decide (Y≠0))]] w (abk X Y w):=by
 by_cases h:Y=0
 . subst h;rw [show (decide ((0:Nat)≠0))=false from rfl]
   exact (Ib X 0 va vb w hX hY lX lY).mono fun e w' he=>⟨_,_,he,by rw [Nat.add_zero];exact lX,.inl ⟨rfl,by omega⟩⟩
 . rw [show (decide (Y≠0))=true from decide_eq_true h]
   by_cases hl:Y<=X
   . exact (NB X Y va vb w hX hY lX lY hl).mono fun e w' he=>⟨_,_,he,by omega,.inl ⟨rfl,by omega⟩⟩
   . exact (NA X Y va vb w hX hY lX lY (by omega)).mono fun e w' he=>⟨_,_,he,by omega,.inr ⟨rfl,by omega,by omega⟩⟩
theorem pX {w0 w3:World} {v:Value} {N:Nat} {l:List (Nat × TypeId × Array Value)} (b:Bool) (hK:KS w0 w3 l) (hB:BN w3 v N) :
 KS w0 (w3.alloc (.cells #[v,.bool b] 145)) ((w3.heap.size,145,#[v,.bool b])::l)/\BN (w3.alloc (.cells #[v,.bool b] 145)) v N/\Below w3.heap.size w3 (w3.alloc (.cells #[v,.bool b] 145)):=by
 have hBel:Below w3.heap.size w3 (w3.alloc (.cells #[v,.bool b] 145)):=(Below.refl _ _).alloc (Nat.le_refl _) _;exact ⟨hK.new w3.heap.size rfl _ _,hB.below hBel,hBel⟩
theorem vP {w0 wp:World} {v:Value} {N g:Nat} (b:Bool) (hK:KS w0 wp [(g,145,#[.slice none 0 0,.bool false])]) (hg:w0.heap.size<=g) (hB:BN wp v N) :
 KS w0 ((wp.setCell ⟨g,0,none⟩ v).setCell ⟨g,1,none⟩ (.bool b)) [(g,145,#[v,.bool b])]/\BN ((wp.setCell ⟨g,0,none⟩ v).setCell ⟨g,1,none⟩ (.bool b)) v N :=
 ⟨(hK.set hg (by simp) 0 v).set hg (by simp) 1 (.bool b),jH hB (hK.2 _ (List.mem_cons_self ..)) v (.bool b)⟩
theorem Dk {B:Nat} {w0 w1 w2:World} (h:Below B w0 w1) (hb:Below w1.heap.size w1 w2) (hs:B<=w1.heap.size):Below B w0 w2:=h.trans (hb.mono hs)
theorem Ra {w wx:World} {g h:Nat} {u v:Value} (hK:KS w wx [(h,145,#[v,.bool false]),(g,145,#[u,.bool false])]) :
 wx.cell? ⟨g,0,none⟩=some u/\wx.cell? ⟨g,1,none⟩=some (.bool false)/\wx.cell? ⟨h,0,none⟩=some v/\wx.cell? ⟨h,1,none⟩=some (.bool false) :=
 ⟨hK.c (g:=g) (t:=145) (cs:=#[u,.bool false]) (by simp) (i:=0) rfl,hK.c (g:=g) (t:=145) (cs:=#[u,.bool false]) (by simp) (i:=1) rfl,hK.c (g:=h) (t:=145) (cs:=#[v,.bool false]) (by simp) (i:=0) rfl,hK.c (g:=h) (t:=145) (cs:=#[v,.bool false]) (by simp) (i:=1) rfl⟩
def adT (w:World) (X Y S C:Nat) (s:Value) (wx:World):Prop:=∃ (g N:Nat) (neg:Bool) (v:Value),s=.pointer (some ⟨g,0,none⟩)/\KS w wx [(g,145,#[v,.bool neg])]/\BN wx v N/\N<BB^40/\((neg=false/\(N:Int)=((X*S:Nat):Int)-((Y*C:Nat):Int))∨(neg=true/\0<N/\(N:Int)=((Y*C:Nat):Int)-((X*S:Nat):Int)))
def aaY (N X Y:Nat) (m k:Int) (S C:Nat):Prop:=S<BB^5/\C<BB^5 /\
 (∀ w,Calls Tryz.prog 127 #[.int .i64 m,.int .i64 k] w (lV S false w)) /\
 (∀ w,Calls Tryz.prog 127 #[.int .i64 (m+5400000),.int .i64 k] w (lV C false w)) /\
 (1024*4294967296<(X:Int)*S-Y*C->0<frm X Y N)/\((X:Int)*S-Y*C < -(1024*4294967296)->frm X Y N<0) /\
 (k=4->1024*4294967296<(X:Int)*S-Y*C∨(X:Int)*S-Y*C < -(1024*4294967296))
theorem BB5:(2147483648:Nat)<BB^5/\BB^5<=BB^20/\BB^5*BB^5<BB^40/\1024<BB^20/\4294967296<BB^20/\1024*4294967296<BB^20:=by decide +kernel
theorem C9 (N X Y:Nat) (n m x y:Int) (w:World) (ht:n.tmod 21600000=m) (h0:0<=m) (h1:m<5400000) (hm:m%2700000≠0) (hx:0<x) (hx2:x<=2147483648) (hy:0<=y) (hy2:y<=2147483648) (lX:X<=2147483648) (lY:Y<=2147483648)
 (CQ:Hid (∀ w,Calls Tryz.prog 164 #[.int .i64 m,.int .i64 x,.int .i64 y] w fun e w'=>e=.returned (.int .i64 0)/\Below w.heap.size w w'))
 (CX:Hid (∀ w,Calls Tryz.prog 128 #[.int .i64 x] w (lV X false w)))
 (CY:Hid (∀ w,Calls Tryz.prog 128 #[.int .i64 y] w (lV Y false w)))
 (DK:Hid (∀ k:Int,(k=3∨k=4)->∃ S C:Nat,aaY N X Y m k S C)) :
 Calls Tryz.prog 137 #[.int .i64 n,.int .i64 x,.int .i64 y] w (FL N X Y w):=by
 have CE1:Hid (∀ w,Calls Tryz.prog 128 #[.int .i64 1024] w (lV 1024 false w)):=fun w=>qE 1024 w (by omega)
 have CE2:Hid (∀ w,Calls Tryz.prog 128 #[.int .i64 4294967296] w (lV 4294967296 false w)):=fun w=>qE 4294967296 w (by omega)
 have LXY:Hid (X<BB^20/\Y<BB^20):=by
  show _/\_;have:=BB5;omega
 have PXY:Hid (∀ S:Nat,S<BB^5->S<BB^20/\X*S<BB^40/\Y*S<BB^40):=by
  intro S hS;have b:=BB5;have m1:=Nat.mul_le_mul (show X<=BB^5 by omega) (Nat.le_of_lt hS)
  have m2:=Nat.mul_le_mul (show Y<=BB^5 by omega) (Nat.le_of_lt hS)
  omega
 clear lX lY;have hx1:(x==0)=false:=by simp;omega
 have hxd:decide (x=0)=false:=by simp;omega
 have hB0:=Lib.hid (Below.refl w.heap.size w);go_enter Tryz.func137,Tryz.ntmps137;go_wp2_with fail;refine (CQ.out _).mono ?_;rintro e w1 ⟨rfl,hb⟩;have HB:=Lib.hid hb;clear hb CQ;go_wp2;go_loopw [11] (fun v11 wr=>∃ k:Int,v11=.int .i64 k/\3<=k/\k<=4/\KS w wr []) (fun v11 _=>(13-intOf v11).toNat)
 case atStart=>exact ⟨3,rfl,by omega,by omega,HB.out,by simp⟩
 case round =>
  clear HB hB0;obtain ⟨k,rfl,k3,k4,hK⟩:=hrel;have K0:=Lib.hid hK;clear hK;obtain ⟨S,C,hD⟩:=DK.out k (by omega)
  obtain ⟨lS,lC,CN,CN2,D1,D2,D3⟩:=hD;replace CN:=Lib.hid CN;replace CN2:=Lib.hid CN2;have DD:=Lib.hid (And.intro D1 (And.intro D2 D3));have PS:=Lib.hid (PXY.out S lS);have PC:=Lib.hid (PXY.out C lC);clear D1 D2 D3 lS lC DK PXY;go_wp2_with fail;refine (CX.out _).mono ?_;rintro e w1 ⟨v1,rfl,b1,hb1⟩;have B1:=Lib.hid b1;have K1:=Lib.hid (K0.out.below hb1);clear b1 hb1 K0;go_wp2_with fail;refine (CN.out _).mono ?_;rintro e w2 ⟨v2,rfl,b2,hb2⟩;have B2:=Lib.hid b2;have K2:=Lib.hid (K1.out.below hb2);have CM:=Lib.hid (Ie X S v1 v2 w2 (B1.out.below hb2) b2 LXY.out.1 PS.out.1);clear b2 hb2 K1 B1 B2;go_wp2_with fail;refine (CM.out).mono ?_;rintro e w3 ⟨v3,rfl,b3,hb3⟩;have K3:=Lib.hid (K2.out.below hb3);have NN:=pX false K3.out b3;obtain ⟨A3,l3,c3,rfl,_⟩:=b3;obtain ⟨K4,B4,hb4⟩:=NN;replace K4:=Lib.hid K4;replace B4:=Lib.hid B4;clear hb3 K2 K3 CM hb4;go_wp2_with fail;generalize (w3.alloc (.cells #[.slice A3 l3.length c3,.bool false] 145))=w4 at *
  generalize w3.heap.size=g12 at *
  refine (CY.out _).mono ?_;rintro e w5 ⟨v5,rfl,b5,hb5⟩;have B5:=Lib.hid b5;have K5:=Lib.hid (K4.out.below hb5);replace B4:=Lib.hid (B4.out.below hb5);clear b5 hb5 K4;go_wp2_with fail;refine (CN2.out _).mono ?_;rintro e w6 ⟨v6,rfl,b6,hb6⟩;have K6:=Lib.hid (K5.out.below hb6);replace B4:=Lib.hid (B4.out.below hb6);have CM:=Lib.hid (Ie Y C v5 v6 w6 (B5.out.below hb6) b6 LXY.out.2 PC.out.1);clear b6 hb6 K5 B5;go_wp2_with fail;refine (CM.out).mono ?_;rintro e w7 ⟨v7,rfl,b7,hb7⟩;have K7:=Lib.hid (K6.out.below hb7);replace B4:=Lib.hid (B4.out.below hb7);have NN:=pX false K7.out b7;obtain ⟨A7,l7,c7,rfl,_⟩:=b7;obtain ⟨K8,B8,hb8⟩:=NN;replace K8:=Lib.hid K8;replace B8:=Lib.hid B8;replace B4:=Lib.hid (B4.out.below hb8);clear hb7 K6 K7 CM hb8;go_upto_region 19 with (fail)
  generalize (w7.alloc (.cells #[.slice A7 l7.length c7,.bool false] 145))=w8 at *
  generalize w7.heap.size=g13 at *
  have KB:Hid (∀ wx,Below w8.heap.size w8 wx->KS w wx [(g13,145,#[.slice A7 l7.length c7,.bool false]),(g12,145,#[.slice A3 l3.length c3,.bool false])]/\BN wx (.slice A7 l7.length c7) (Y*C)/\BN wx (.slice A3 l3.length c3) (X*S)) :=
   fun wx h=>⟨K8.out.below h,B8.out.below h,B4.out.below h⟩
  have CMN:Hid (∀ wx,BN wx (.slice A7 l7.length c7) (Y*C)->Calls Tryz.prog 132 #[.agg #[.slice A7 l7.length c7,.bool false]] wx (lV (Y*C) (decide (Y*C≠0)) wx)):=fun wx h=>Qt (Y*C) _ wx h PC.out.2.2
  have CPL:Hid (∀ wx vb,BN wx (.slice A3 l3.length c3) (X*S)->BN wx vb (Y*C)->Calls Tryz.prog 131 #[.agg #[.slice A3 l3.length c3,.bool false],.agg #[vb,.bool (decide (Y*C≠0))]] wx (abk (X*S) (Y*C) wx)):=fun wx vb h h'=>TD (X*S) (Y*C) _ vb wx h h' PS.out.2.1 PC.out.2.2
  generalize decide (Y*C≠0)=yn at *
  clear K8 B8 B4;have Z8:=KB.out w8 (Below.refl _ _);have HD8:Hid (∀ o,Below w8.heap.size w8 (w8.alloc o).drew):=fun o=>((Below.refl _ _).alloc (Nat.le_refl _) o).drew
  have HS8:Hid (w.heap.size<=w8.heap.size):=Z8.1.1.size;have KZ:Hid (KS w (w8.alloc (.cells #[.slice none 0 0,.bool false] 145)).drew [(w8.heap.size,145,#[.slice none 0 0,.bool false])]):=((Z8.1.sub (l':=[]) (by simp)).new w8.heap.size rfl 145 #[.slice none 0 0,.bool false]).drew
  have KW:Hid (KS w w8.drew []):=Z8.1.drew.sub (by simp)
  have za0:=Z8.1.c (g:=g12) (t:=145) (cs:=#[.slice A3 l3.length c3,.bool false]) (by simp) (i:=0) rfl;have za1:=Z8.1.c (g:=g12) (t:=145) (cs:=#[.slice A3 l3.length c3,.bool false]) (by simp) (i:=1) rfl;have zb0:=Z8.1.c (g:=g13) (t:=145) (cs:=#[.slice A7 l7.length c7,.bool false]) (by simp) (i:=0) rfl;have zb1:=Z8.1.c (g:=g13) (t:=145) (cs:=#[.slice A7 l7.length c7,.bool false]) (by simp) (i:=1) rfl
  clear Z8;go_cut [14] (fun s wx=>adT w X Y S C s wx)
  case first =>
   go_region_held3 (fun w'=>w'.cell? ⟨g12,0,none⟩=some (.slice A3 l3.length c3)/\w'.cell? ⟨g12,1,none⟩=some (.bool false)/\w'.cell? ⟨g13,0,none⟩=some (.slice A7 l7.length c7)/\w'.cell? ⟨g13,1,none⟩=some (.bool false))
    (first
     | (refine ⟨?_,?_,?_,?_⟩<;>assumption)
     | (refine Ra (KB.out _ ?_).1;first
      | exact HD8.out _
      | exact HP.out.alloc HP.out.size _
      | exact HM.out.alloc HM.out.size _
      | exact (HP.out.setCell (by (first|exact Nat.le_refl _|exact HM.out.size|exact HP.out.size)) _).setCell (by (first|exact Nat.le_refl _|exact HM.out.size|exact HP.out.size)) _
      | exact ((HP.out.alloc HP.out.size _).setCell (by (first|exact Nat.le_refl _|exact HM.out.size|exact HP.out.size)) _).setCell (by (first|exact Nat.le_refl _|exact HM.out.size|exact HP.out.size)) _))
    (first
    | ((go_at_call 132;with_reducible refine (CMN.out _ (KB.out _ (by (first|exact (Below.refl _ _).drew|exact HD8.out _))).2.1).mono ?_);rintro e wm ⟨vm,rfl,bm,hbm⟩;have HM:Hid (Below w8.heap.size w8 wm):=Dk (by (first|exact (Below.refl _ _).drew|exact HD8.out _)) hbm (by first|exact Nat.le_refl _|(simp;try omega));have BM:=Lib.hid bm;(try (have hq:Below (w8.alloc (.cells #[.slice none 0 0,.bool false] 145)).drew.heap.size (w8.alloc (.cells #[.slice none 0 0,.bool false] 145)).drew wm:=(by with_reducible assumption);have KN:Hid (KS w wm [(w8.heap.size,145,#[.slice none 0 0,.bool false])]):=KZ.out.below hq;clear hq));have HBM:=Lib.hid hbm;clear bm hbm za0 za1 zb0 zb1;obtain ⟨za0,za1,zb0,zb1⟩:=Ra (KB.out wm HM.out).1)
    | ((go_at_call 131;with_reducible refine (CPL.out _ _ (KB.out _ (by (first|exact HM.out|exact HM.out.alloc HM.out.size _))).2.2 (by first|exact BM.out|exact BM.out.below ((Below.refl _ _).alloc (Nat.le_refl _) _))).mono ?_);rintro e wp ⟨N',neg,⟨vp,rfl,bp,hbp⟩,hN,hrel⟩;have HP:Hid (Below w8.heap.size w8 wp):=Dk (by (first|exact HM.out|exact HM.out.alloc HM.out.size _)) hbp (by first|exact HM.out.size|(have:=HM.out.size;simp;omega));have BP:=Lib.hid bp;have HBP:=Lib.hid hbp;have HREL:=Lib.hid (And.intro hN hrel);obtain ⟨Ap,lp,cp,rfl,_⟩:=bp;(try (have KN2:Hid (KS w wp [(w8.heap.size,145,#[.slice none 0 0,.bool false])]):=KN.out.below hbp;have r0:=KN2.out.c (g:=w8.heap.size) (t:=145) (cs:=#[.slice none 0 0,.bool false]) (by simp) (i:=0) rfl;have fr0:=KN2.out.f (g:=w8.heap.size) (t:=145) (cs:=#[.slice none 0 0,.bool false]) (by simp) 0;have r1:=KN2.out.c (g:=w8.heap.size) (t:=145) (cs:=#[.slice none 0 0,.bool false]) (by simp) (i:=1) rfl;have fr1:=KN2.out.f (g:=w8.heap.size) (t:=145) (cs:=#[.slice none 0 0,.bool false]) (by simp) 1));(try (have hq:Below (wm.alloc (.cells #[.slice none 0 0,.bool false] 145)).heap.size (wm.alloc (.cells #[.slice none 0 0,.bool false] 145)) wp:=(by with_reducible assumption);have KN2:Hid (KS w wp [(wm.heap.size,145,#[.slice none 0 0,.bool false])]):=(((KB.out wm HM.out).1.sub (l':=[]) (by simp)).new wm.heap.size rfl 145 #[.slice none 0 0,.bool false]).below hq;clear hq;have r0:=KN2.out.c (g:=wm.heap.size) (t:=145) (cs:=#[.slice none 0 0,.bool false]) (by simp) (i:=0) rfl;have fr0:=KN2.out.f (g:=wm.heap.size) (t:=145) (cs:=#[.slice none 0 0,.bool false]) (by simp) 0;have r1:=KN2.out.c (g:=wm.heap.size) (t:=145) (cs:=#[.slice none 0 0,.bool false]) (by simp) (i:=1) rfl;have fr1:=KN2.out.f (g:=wm.heap.size) (t:=145) (cs:=#[.slice none 0 0,.bool false]) (by simp) 1));clear hbp hN hrel za0 za1 zb0 zb1;obtain ⟨za0,za1,zb0,zb1⟩:=Ra (KB.out wp HP.out).1))
   all_goals
    go_wp2_with fail;go_meet;have KP:=(KB.out wp HP.out).1.sub (l':=[]) (by simp)
    have hm:=HM.out.size;have h8:=HS8.out
    first
     | exact ⟨wp.heap.size,N',neg,_,rfl,(pX neg KP BP.out).1,(pX neg KP BP.out).2.1,HREL.out.1,HREL.out.2⟩
     | exact ⟨w8.heap.size,N',neg,_,rfl,(vP neg KN2.out (by omega) BP.out).1,(vP neg KN2.out (by omega) BP.out).2,HREL.out.1,HREL.out.2⟩
     | exact ⟨wm.heap.size,N',neg,_,rfl,(vP neg KN2.out (by omega) BP.out).1,(vP neg KN2.out (by omega) BP.out).2,HREL.out.1,HREL.out.2⟩
  case rest =>
   obtain ⟨g14,D,neg,vd',rfl,hK,hBD,hD,hrel⟩:=hcut;have KD:=Lib.hid hK;have BD:=Lib.hid hBD;have LD:=Lib.hid hD;have RD':=Lib.hid hrel;clear hK hBD hD hrel za0 za1 zb0 zb1 KB CMN CPL KW;go_wp2_with fail;refine (CE1.out _).mono ?_;rintro e w9 ⟨v9,rfl,b9,hb9⟩;have B9:=Lib.hid b9;replace KD:=Lib.hid (KD.out.below hb9);replace BD:=Lib.hid (BD.out.below hb9);clear b9 hb9;go_wp2_with fail;refine (CE2.out _).mono ?_;rintro e w10 ⟨v10,rfl,b10,hb10⟩;replace KD:=Lib.hid (KD.out.below hb10);replace BD:=Lib.hid (BD.out.below hb10);have CM:=Lib.hid (Ie 1024 4294967296 v9 v10 w10 (B9.out.below hb10) b10 BB5.2.2.2.1 BB5.2.2.2.2.1);clear b10 hb10 B9;go_wp2_with fail;refine (CM.out).mono ?_;rintro e w11 ⟨v11,rfl,b11,hb11⟩;replace KD:=Lib.hid (KD.out.below hb11);replace BD:=Lib.hid (BD.out.below hb11);have NN:=pX false KD.out b11;obtain ⟨AE,lE,cE,rfl,hE1,hE2,hE3,hE4,hE5⟩:=bz b11 (k:=20) (by have:=BB5;omega)
   obtain ⟨AD,lD,cD,rfl,hD1,hD2,hD3,hD4,hD5⟩:=bz BD.out (k:=40) LD.out;obtain ⟨K12,B12,hb12⟩:=NN;have CO:=Bv AD AE lD lE cD cE (w11.alloc (.cells #[.slice AE lE.length cE,.bool false] 145)) (hD5.below hb12) (hE5.below hb12) hD3 hE3 (by omega) (by omega)
   rw [hD4,hE4] at CO;replace CO:=Lib.hid CO;replace K12:=Lib.hid K12;clear hb11 KD BD CM hb12 B12 hE1 hE2 hE3 hE4 hE5 hD1 hD2 hD3 hD4 hD5;have d0:=K12.out.c (g:=g14) (t:=145) (cs:=#[.slice AD lD.length cD,.bool neg]) (by simp) (i:=0) rfl
   have d1:=K12.out.c (g:=g14) (t:=145) (cs:=#[.slice AD lD.length cD,.bool neg]) (by simp) (i:=1) rfl
   have q0:=K12.out.c (g:=w11.heap.size) (t:=145) (cs:=#[.slice AE lE.length cE,.bool false]) (by simp) (i:=0) rfl
   go_wp2_with fail;generalize (w11.alloc (.cells #[.slice AE lE.length cE,.bool false] 145))=w12 at *
   generalize w11.heap.size=g15 at *
   refine (CO.out).mono ?_;rintro e w13 ⟨rfl,hb13⟩;have K13:=Lib.hid (K12.out.below hb13);clear d0 d1 q0 K12 CO hb13;have d1:=K13.out.c (g:=g14) (t:=145) (cs:=#[.slice AD lD.length cD,.bool neg]) (by simp) (i:=1) rfl
   have OV:Hid ((0<qO D (1024*4294967296))↔1024*4294967296<D):=by
    show _↔_;unfold qO;rcases Nat.lt_trichotomy D (1024*4294967296) with q|q|q
    . rw [if_pos q];omega
    . rw [if_neg (by omega),if_neg (by omega)];omega
    . rw [if_neg (by omega),if_pos q];omega
   have XS:Hid (((X*S:Nat):Int)=(X:Int)*S/\((Y*C:Nat):Int)=(Y:Int)*C):=⟨Int.natCast_mul _ _,Int.natCast_mul _ _⟩;generalize qO D (1024*4294967296)=o at *
   have HB13:=Lib.hid K13.out.1
   by_cases ho:0<o
   . have big:=OV.out.1 ho;have R:=RD'.out;have dd:=DD.out;rw [XS.out.1,XS.out.2] at R;clear OV XS K13 DD RD'
     cases neg
     . have P:Hid (FL N X Y w (.returned (.int .i64 1)) w13):=by
        refine ⟨1,rfl,.inl ⟨rfl,dd.1 ?_⟩,HB13.out⟩;rcases R with ⟨_,e⟩|⟨e,_⟩
        . omega
        . cases e
       clear dd R big;go_wp2;go_ret;exact P.out
     . have P:Hid (FL N X Y w (.returned (.int .i64 (-1))) w13):=by
        refine ⟨-1,rfl,.inr ⟨rfl,dd.2.1 ?_⟩,HB13.out⟩;rcases R with ⟨e,_⟩|⟨_,_,e⟩
        . cases e
        . omega
       clear dd R big;go_wp2;go_ret;exact P.out
   . have hk:k=3:=by
      refine Decidable.byContradiction fun hk=>?_
      have d4:=DD.out.2.2 (by omega)
      have R:=RD'.out;rw [XS.out.1,XS.out.2] at R;have small:=(not_congr OV.out).1 ho;rcases R with ⟨_,e⟩|⟨_,_,e⟩<;>omega
     clear OV XS DD RD'
     go_wp2;go_light;exact ⟨⟨4,rfl,by omega,by omega,K13.out.sub (by simp)⟩,by simp only [intOf];omega⟩
theorem adj (k:Nat) (h:k=3∨k=4):4<=((BB^5:Nat):Rat)*du k/\220*du k<=1:=by
 rcases h with rfl|rfl<;>(unfold du;constructor<;>decide +kernel)
theorem M9:120*e62<=1:=by unfold e62;decide +kernel
theorem Jz (k z:Nat) (s:Rat) (hk:k=3∨k=4) (h:(z:Rat)*du k-s<=220*du k) (hs:s<=2):z<BB^5:=by
 refine Nat.not_le.1 fun hh=>?_
 have c:((BB^5:Nat):Rat)<=(z:Rat):=by
  have:=Rat.intCast_le_intCast.2 (show ((BB^5:Nat):Int)<=(z:Int) by omega)
  rwa [Rat.intCast_natCast,Rat.intCast_natCast] at this
 have dp:0<=du k:=Rat.le_of_lt (sK k hk).2.1;have m:=Rat.mul_le_mul_of_nonneg_right c dp;have b:=adj k hk;generalize ((BB^5:Nat):Rat)*du k=P at *
 generalize (z:Rat)*du k=Q at *
 generalize du k=d at *
 clear c;grind
theorem aar (n:Nat) (h:n<5400000):tS n<=2/\tC n<=2:=by
 have a:=vw n h;have b:=vI n h;obtain ⟨⟨a1,a2⟩,a3,a4⟩:=a;obtain ⟨⟨b1,b2⟩,b3,b4⟩:=b;have ep:=Rat.le_of_lt Pv;have c1:(qVm n:Rat)<=((4611686018427387904:Int):Rat):=Rat.intCast_le_intCast.2 a4;have c2:(qVm ((n:Int)+5400000):Rat)<=((4611686018427387904:Int):Rat):=Rat.intCast_le_intCast.2 b4;have m1:=Rat.mul_le_mul_of_nonneg_right c1 ep;have m2:=Rat.mul_le_mul_of_nonneg_right c2 ep;have k:((4611686018427387904:Int):Rat)*e62=1:=Sn;have s:=M9;rw [k] at m1 m2;clear a3 a4 b3 b4 c1 c2 k h ep;generalize (qVm n:Rat)*e62=P at *
 generalize (qVm ((n:Int)+5400000):Rat)*e62=Q at *
 generalize tS n=u at *
 generalize tC n=v at *
 generalize e62=e at *
 constructor<;>grind
theorem Od (n X Y:Nat) (h0:0<n) (h1:n<5400000) (h2:n≠2700000) (hX0:0<X) (hX:X<=2147483648) (hY:Y<=2147483648) (k:Nat) (hk:k=3∨k=4):aaY n X Y (n:Int) (k:Int) (bK k n) (bK k (n+5400000)):=by
 have t:=aar n h1;have a:=rT k n hk h1;have b:=rU k n hk h1;have ds:=Dw k n X Y hk h1 hX hY;refine ⟨Jz k _ _ hk a.2 t.1,Jz k _ _ hk b.2 t.2,fun w=>Oa k n (du k) (sK k hk) (nU k hk) w (by omega) (by omega),fun w=>?_,ds.1,ds.2,fun h4=>?_⟩
 . have:=Oa k (n+5400000) (du k) (sK k hk) (nU k hk) w (by omega) (by omega)
   rwa [show ((n+5400000:Nat):Int)=(n:Int)+5400000 by omega] at this
 . have e:k=4:=by omega
   subst e;exact QM n X Y h0 h1 h2 (by omega) hX hY
theorem OT (x y:Int) (n:Nat) (h:n≠2700000):past x y n↔0<frm x y n:=by
 unfold past;rw [if_neg h]
theorem XT (x y:Int) (n:Nat) (w:World) (hx:0<x/\x<=2147483648) (hy:0<=y/\y<=2147483648) (hn:n<=5400000) :
 Calls Tryz.prog 137 #[.int .i64 (n:Int),.int .i64 x,.int .i64 y] w fun e w'=>∃ t:Int,e=.returned (.int .i64 t)/\(0<t↔past x y n)/\(t=0↔(n=0/\y=0)∨(n=2700000/\x=y))/\Below w.heap.size w w':=by
 by_cases e0:n=0
 . subst e0;refine (XD x y w (by omega) hx.2 hy.1 hy.2).mono ?_
   rintro e w' ⟨rfl,hb⟩;have p:=sU x y hy.1;refine ⟨_,rfl,⟨fun h=>absurd h ?_,fun h=>absurd h p⟩,?_,hb⟩
   . unfold sgn;split<;>(try split)<;>omega
   . unfold sgn;constructor
     . intro h;left;refine ⟨rfl,?_⟩;split at h<;>(try split at h)<;>omega
     . rintro (⟨_,h⟩|⟨h,_⟩)
       . subst h;rfl
       . omega
 . by_cases e1:n=2700000
   . subst e1;refine (Og x y w (by omega) hx.2 hy.1 hy.2).mono ?_
     rintro e w' ⟨rfl,hb⟩;refine ⟨_,rfl,?_,?_,hb⟩
     . unfold past;rw [if_pos rfl];unfold sgn;split<;>(try split)<;>omega
     . unfold sgn;constructor
       . intro h;right;refine ⟨rfl,?_⟩;split at h<;>(try split at h)<;>omega
       . rintro (⟨h,_⟩|⟨_,h⟩)
         . omega
         . subst h;rw [Int.sub_self];rfl
   . by_cases e2:n=5400000
     . subst e2;refine (Qo x y w (by omega) hx.2 hy.1 hy.2).mono ?_
       rintro e w' ⟨rfl,hb⟩;have p:=wJ x y hx.1;have s:sgn x=1:=by unfold sgn;rw [if_neg (by omega),if_pos hx.1]
       rw [s];exact ⟨1,rfl,⟨fun _=>p,fun _=>by omega⟩,⟨fun h=>by omega,fun h=>by omega⟩,hb⟩
     . obtain ⟨X,rfl⟩:=Int.eq_ofNat_of_zero_le (show 0<=x by omega)
       obtain ⟨Y,rfl⟩:=Int.eq_ofNat_of_zero_le hy.1;have ht:((n:Int)).tmod 21600000=(n:Int):=by rw [Int.tmod_eq_emod_of_nonneg (by omega)];omega
       have hm:(n:Int)%2700000≠0:=by omega
       have fin:∀ e w',FL n X Y w e w'->∃ t:Int,e=.returned (.int .i64 t)/\(0<t↔past (X:Int) (Y:Int) n)/\(t=0↔(n=0/\(Y:Int)=0)∨(n=2700000/\(X:Int)=(Y:Int)))/\Below w.heap.size w w':=by
        rintro e w' ⟨t,he,ht2,hb⟩;refine ⟨t,he,?_,?_,hb⟩
        . rw [OT _ _ _ e1];rcases ht2 with ⟨a,b⟩|⟨a,b⟩
          . exact ⟨fun _=>b,fun _=>by omega⟩
          . exact ⟨fun _=>by omega,fun q=>by grind⟩
        . constructor
          . intro h;rcases ht2 with ⟨a,b⟩|⟨a,b⟩<;>omega
          . intro h;omega
       have CQ:=fun w=>EG n X Y w (by omega) (by omega) (by omega)
       have qi:=XK n X Y (by omega)
       by_cases q:qsV n X Y=0
       . rw [q] at CQ;refine (C9 n X Y n n X Y w ht (by omega) (by omega) hm (by omega) (by omega) (by omega) (by omega) (by omega) (by omega) CQ (fun w=>qE X w (by omega)) (fun w=>qE Y w (by omega)) ?_).mono fin
         intro k hk;rcases hk with rfl|rfl
         . exact ⟨_,_,Od n X Y (by omega) (by omega) e1 (by omega) (by omega) (by omega) 3 (.inl rfl)⟩
         . exact ⟨_,_,Od n X Y (by omega) (by omega) e1 (by omega) (by omega) (by omega) 4 (.inr rfl)⟩
       . refine (GN n X Y n n X Y (qsV n X Y) w ht (by omega) (by omega) hm (by omega) (by omega) (by omega) (by omega) q ?_ CQ).mono fin
         exact qi.resolve_left q
