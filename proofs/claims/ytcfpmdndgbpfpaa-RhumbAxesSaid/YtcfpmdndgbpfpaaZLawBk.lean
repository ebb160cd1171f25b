/- The law RhumbBack: the way back. -/
import Derived.Test.YtcfpmdndgbpfpaaZRhV
import Derived.Test.YtcfpmdndgbpfpaaZRhW
import Derived.Test.YtcfpmdndgbpfpaaZMir
set_option linter.unusedVariables false
set_option linter.unusedSimpArgs false
set_option maxRecDepth 100000
set_option maxHeartbeats 1000000
namespace Go.Proofs.Ytcfpmdndgbpfpaa
open Go.RowKit Alm Sx
def kLv (f:Nat):Bool:=f==102 || f==20
def bcL (a0 a1 b0 b1:Int):Int:=bv (64*ivL a0 a1 b0 b1) (64*ivH a0 a1 b0 b1) (64*(b0-a0)) (64*(b0-a0))
def bcH (a0 a1 b0 b1:Int):Int:=bT (64*ivL a0 a1 b0 b1) (64*ivH a0 a1 b0 b1) (64*(b0-a0)) (64*(b0-a0))
def dsL (a0 a1 b0 b1:Int):Int:=rtF ((b0-a0)*(b0-a0)+cz (ivL a0 a1 b0 b1) (ivH a0 a1 b0 b1)*cz (ivL a0 a1 b0 b1) (ivH a0 a1 b0 b1))
def dsH (a0 a1 b0 b1:Int):Int:=rtC ((b0-a0)*(b0-a0)+dW (ivL a0 a1 b0 b1) (ivH a0 a1 b0 b1)*dW (ivL a0 a1 b0 b1) (ivH a0 a1 b0 b1))
def iQ:Nat->List Int->List Int
 | 102,[a,b,c,d]=>[bcL a b c d,bcH a b c d,dsL a b c d,dsH a b c d,0]
 | 20,[]=>[1]
 | _,_=>[]
def Jy:Nat->List Int->Prop
 | 102,[a,b,c,d]=>(-5340000<=a/\a<=5340000)/\(-10800000<=b/\b<10800000)/\(-5340000<=c/\c<=5340000)/\(-10800000<=d/\d<10800000)
 | 20,[]=>True
 | _,_=>False
def Rw (args:List Int):Cx:=(cxE args).plus kLv iQ Jy
def Oc:Sx.Spec:=⟨13,102,[(true,[some .i64,some .i64]),(true,[some .i64,some .i64])],[(true,[some .i64,some .i64,some .i64,some .i64]),(false,[some .i64])]⟩
def Pb:List Sx.Spec:=[Oc,SH]
theorem LK (args:List Int):∀ s∈Pb,bE Try.prog (Rw args) s:=by
 intro s hs;simp only [Pb,List.mem_cons,List.not_mem_nil,or_false] at hs;rcases hs with rfl|rfl
 . refine gW rfl (ours _ _ _ Try.func13 rfl (by kernel_rfl)) fun xs hp w=>?_
   match xs,hp with
   | [a,b,c,d],hp=>exact Tj a b c d w hp.1 hp.2.1 hp.2.2.1 hp.2.2.2
 . refine gW rfl (ours _ _ _ Try.func6 rfl (by kernel_rfl)) fun xs hp w=>?_
   match xs,hp with
   | [],hp=>exact Ey w
theorem nR {p q:Prop} [Decidable p] [Decidable q]:(if b2i (decide p)≠0 then b2i (decide q) else 0)=b2i (decide (p/\q)):=by
 by_cases h1:p<;>by_cases h2:q<;>simp [b2i,h1,h2]
theorem CK {x13 x14 x15 x16 x17 x18:Int} {P Q R:Prop} [Decidable P] [Decidable Q] [Decidable R] (h:¬ P∨Q∨R) (e13:x13=b2i (decide P)) (e15:x15=b2i (decide Q)) (e17:x17=b2i (decide R)) (e14:x14=if x13≠0 then 0 else 1) (e16:x16=if x14≠0 then 1 else x15) (e18:x18=if x16≠0 then 1 else x17):x18=1:=by
 rw [e18,e16,e14,e13,e15,e17]
 by_cases p:P<;>by_cases q:Q<;>by_cases r:R<;>simp [p,q,r,b2i] at h ⊢
end Go.Proofs.Ytcfpmdndgbpfpaa
namespace Go.Proofs.Ytcfpmdndgbpfpaa
open Go.RowKit Alm Sx
theorem UK (x y:Int) (h0:¬ (x=0/\y=0)) (ha:x=0∨y=0) (hx:-2147483648<=x/\x<=2147483648) (hy:-2147483648<=y/\y<=2147483648):bV x y=qT x y/\gT x y=true:=by
 have d:=gH x y h0 hx hy;have q0:qY x y=0:=by unfold qY;(repeat' split)<;>omega
 have qx:=Alm.wY x y 2147483648 h0 hx hy;rw [q0] at d;have l0:=Uz (qX x y) ⟨qx.1,qx.2.1⟩ _ d;refine ⟨?_,by unfold gT;rw [l0,q0];rfl⟩
 unfold bV;rw [l0];have t:=Df x y
 (repeat' split)<;>omega
theorem Hr (x y:Int) (h0:¬ (x=0/\y=0)) (ha:x=0∨y=0) (hx:-2147483648<=x/\x<=2147483648) (hy:-2147483648<=y/\y<=2147483648):bv y y x x=qT x y/\bT y y x x=qT x y:=by
 have eo:dI y y x x=false:=by unfold dI;simp only [decide_eq_false_iff_not];omega
 have f:=fD x x y y 4;have l:=gy x x y y 4;have f1:(aB x x y y 4).1=x:=by omega
 have f2:(aB x x y y 4).2=y:=by omega
 have l1:(aD x x y y 4).1=x:=by omega
 have l2:(aD x x y y 4).2=y:=by omega
 have a:=UK x y h0 ha hx hy;unfold bT bv;rw [eo,f1,f2,l1,l2,a.1,a.2];unfold upE;simp only [Bool.false_eq_true,if_false,if_true];refine ⟨trivial,?_⟩;rw [if_neg (by omega)];omega
theorem UC:bv 0 0 0 0=0/\bT 0 0 0 0=21600000:=by
 unfold bT bv;have eo:dI 0 0 0 0=true:=by decide
 rw [eo];exact ⟨rfl,rfl⟩
theorem UT (n:Nat) (h:n<=9000000000000000) (r:Nat) (h1:r*r<=n) (h2:n<(r+1)*(r+1)):rtB 32 n 0=r:=by
 have s:=Sv n h
 have u1:rtB 32 n 0<=r:=by
  rcases Nat.lt_or_ge r (rtB 32 n 0) with g|g
  . have:=Nat.mul_le_mul (show r+1<=rtB 32 n 0 from g) (show r+1<=rtB 32 n 0 from g);omega
  . exact g
 have u2:r<=rtB 32 n 0:=by
  rcases Nat.lt_or_ge (rtB 32 n 0) r with g|g
  . have:=Nat.mul_le_mul (show rtB 32 n 0+1<=r from g) (show rtB 32 n 0+1<=r from g);omega
  . exact g
 omega
def abI (x:Int):Int:=if x<0 then -x else x
theorem eH (x:Int):abI x*abI x=x*x/\0<=abI x:=by
 unfold abI;split
 . exact ⟨Int.neg_mul_neg x x,by omega⟩
 . exact ⟨rfl,by omega⟩
theorem bY (x:Int) (h:-20000000<=x/\x<=20000000):0<=x*x/\x*x<=400000000000000:=by
 have a:=eH x;have b:abI x<=20000000:=by unfold abI;split<;>omega
 have c:=Int.mul_le_mul b b a.2 (by omega)
 have d:=Int.mul_nonneg a.2 a.2;omega
theorem UJ (x:Int) (h:-20000000<=x/\x<=20000000):rtF (x*x)=abI x/\rtC (x*x)=abI x:=by
 have a:=eH x;have s:=bY x h;obtain ⟨m,hm⟩:=Int.eq_ofNat_of_zero_le a.2
 have e:(x*x).toNat=m*m:=by
  rw [<-a.1,hm];rw [show ((m:Int)*(m:Int))=((m*m:Nat):Int) by norm_cast]
  rfl
 have r:=UT (m*m) (by omega) m (Nat.le_refl _) (by have:(m+1)*(m+1)=m*m+2*m+1:=by grind
                                                   omega)
 unfold rtF rtC;rw [e,r,hm,if_pos rfl];exact ⟨rfl,rfl⟩
theorem UR (d x:Int) (hd:-20000000<=d/\d<=20000000) (hx:-20000000<=x/\x<=20000000):abI d<=rtF (d*d+x*x):=by
 have a:=eH d;have s1:=bY d hd;have s2:=bY x hx;have r:=Sv (d*d+x*x).toNat (by omega)
 unfold rtF;generalize rtB 32 (d*d+x*x).toNat 0=q at *
 have k:abI d*abI d<((q:Int)+1)*((q:Int)+1):=by
  have:(((d*d+x*x).toNat:Nat):Int)<(((q+1)*(q+1):Nat):Int):=by exact_mod_cast r.2.1
  have e:(((q+1)*(q+1):Nat):Int)=((q:Int)+1)*((q:Int)+1):=by norm_cast
  rw [e] at this;omega
 by_cases g:(q:Int)<abI d
 . have:=Int.mul_le_mul (show (q:Int)+1<=abI d from g) (show (q:Int)+1<=abI d from g) (by omega) a.2
   omega
 . omega
theorem UM (A B:Int) (hA:0<=A) (h:A<=B) (hB:B<=9000000000000000):rtF A<=rtC B:=by
 have r:=Sv A.toNat (by omega)
 have t:=Sv B.toNat (by omega)
 unfold rtF rtC;generalize rtB 32 A.toNat 0=q at *
 generalize rtB 32 B.toNat 0=u at *
 have ab:A.toNat<=B.toNat:=by omega
 split
 . rename_i e
   rcases Nat.lt_or_ge u q with g|g
   . have:=Nat.mul_le_mul (show u+1<=q from g) (show u+1<=q from g);omega
   . omega
 . rcases Nat.lt_or_ge (u+1) q with g|g
   . have:=Nat.mul_le_mul (show u+1<=q by omega) (show u+1<=q by omega);omega
   . omega
theorem UO (d m D:Int) (hd:-20000000<=d/\d<=20000000) (m0:0<=m) (hm:m<=abI D) (hD:-20000000<=D/\D<=20000000):rtC (d*d+m*m)<=abI d+abI D:=by
 have a:=eH d;have b:=eH D;have bd:abI D<=20000000:=by unfold abI;split<;>omega
 have s1:=bY d hd;have s2:=bY m (by omega)
 have r:=Sv (d*d+m*m).toNat (by omega)
 obtain ⟨S,hS⟩:=Int.eq_ofNat_of_zero_le (show 0<=abI d+abI D by omega)
 have mm:=Int.mul_le_mul hm hm m0 b.2;have cross:=Int.mul_nonneg a.2 b.2
 have tot:d*d+m*m<=(abI d+abI D)*(abI d+abI D):=by
  have:(abI d+abI D)*(abI d+abI D)=abI d*abI d+2*(abI d*abI D)+abI D*abI D:=by grind
  omega
 rw [hS] at tot ⊢
 have tn:(d*d+m*m).toNat<=S*S:=by
  have:((S:Int)*(S:Int))=((S*S:Nat):Int):=by norm_cast
  omega
 unfold rtC;generalize (d*d+m*m).toNat=n at *
 generalize rtB 32 n 0=q at *
 split
 . rcases Nat.lt_or_ge S q with g|g
   . have:=Nat.mul_le_mul (show S+1<=q from g) (show S+1<=q from g)
     have e:(S+1)*(S+1)=S*S+2*S+1:=by grind
     omega
   . omega
 . rename_i ne
   rcases Nat.lt_or_ge q S with g|g
   . omega
   . have:=Nat.mul_le_mul g g;omega
theorem UQ (x n:Int) (x0:0<=x) (x1:x<=1073741824):-abI n<=qFl x n 1073741824/\qCe x n 1073741824<=abI n:=by
 have k:n<=abI n/\-abI n<=n:=by unfold abI;split<;>omega
 have a0:=(eH n).2;have a:=Int.mul_le_mul_of_nonneg_left k.1 x0;have b:=Int.mul_le_mul_of_nonneg_left k.2 x0;have c:=Int.mul_le_mul_of_nonneg_right x1 a0;rw [Int.mul_neg] at b;unfold qFl qCe;generalize x*n=z at *
 generalize x*abI n=w at *
 omega
theorem UG (a0 a1 b0 b1:Int) (h0:-5340000<=a0/\a0<=5340000) (h2:-5340000<=b0/\b0<=5340000):dW (ivL a0 a1 b0 b1) (ivH a0 a1 b0 b1)<=abI (ivD a1 b1):=by
 have m:=Mm (min a0 b0) (max a0 b0) (by omega) (by omega) (by omega)
 have B:=Ib a0 a1 b0 b1 h0 h2;have p:=UQ ((meV (min a0 b0) (max a0 b0)).getD 0 0) (ivD a1 b1) m.1 (by omega)
 have q:=UQ ((meV (min a0 b0) (max a0 b0)).getD 1 0) (ivD a1 b1) (by omega) m.2.2
 have l:-abI (ivD a1 b1)<=ivL a0 a1 b0 b1:=by unfold ivL pY;omega
 have u:ivH a0 a1 b0 b1<=abI (ivD a1 b1):=by unfold ivH rV;omega
 unfold dW;omega
theorem ry (l u:Int) (h:l<=u):0<=cz l u/\cz l u<=dW l u:=by unfold cz dW;split<;>omega
theorem UU (a0 a1 b0 b1:Int) (h0:-5340000<=a0/\a0<=5340000) (h2:-5340000<=b0/\b0<=5340000):abI (b0-a0)<=dsL a0 a1 b0 b1/\dsL a0 a1 b0 b1<=dsH a0 a1 b0 b1/\dsH a0 a1 b0 b1<=abI (b0-a0)+abI (ivD a1 b1):=by
 have B:=Ib a0 a1 b0 b1 h0 h2;have D:=G5 (b1-a1);have M:=UG a0 a1 b0 b1 h0 h2;have L:=ry (ivL a0 a1 b0 b1) (ivH a0 a1 b0 b1) B.2.1;have ad:abI (ivD a1 b1)<=10800000:=by unfold abI ivD;split<;>omega
 unfold dsL dsH;generalize cz (ivL a0 a1 b0 b1) (ivH a0 a1 b0 b1)=x at *
 generalize dW (ivL a0 a1 b0 b1) (ivH a0 a1 b0 b1)=y at *
 have s1:=bY (b0-a0) (by omega)
 have s2:=bY x (by omega)
 have s3:=bY y (by omega)
 have xy:=Int.mul_le_mul L.2 L.2 L.1 (by omega)
 exact ⟨UR _ _ (by omega) (by omega),UM _ _ (by omega) (by omega) (by omega),UO _ _ (ivD a1 b1) (by omega) (by omega) M (by unfold ivD;omega)⟩
theorem UF (l h:Int):pY l h 0=0/\rV l h 0=0:=by
 unfold pY rV qFl qCe;rw [Int.mul_zero,Int.mul_zero];decide
theorem UL (a0 a1 b0:Int):ivL a0 a1 b0 a1=0/\ivH a0 a1 b0 a1=0:=by
 unfold ivL ivH ivD;rw [Int.sub_self,show sgt 0=0 by decide]
 exact UF _ _
def crL (n p m:Int):Int:=if n>0 then p else if n<0 then m else 0
def crH (n p m:Int):Int:=if n>0 then p else if n<0 then m else 21600000
theorem UH (a0 a1 b0:Int) (h0:-5340000<=a0/\a0<=5340000) (h2:-5340000<=b0/\b0<=5340000):bcL a0 a1 b0 a1=crL (b0-a0) 0 10800000/\bcH a0 a1 b0 a1=crH (b0-a0) 0 10800000/\dsL a0 a1 b0 a1=abI (b0-a0)/\dsH a0 a1 b0 a1=abI (b0-a0):=by
 have i:=UL a0 a1 b0;unfold bcL bcH dsL dsH;rw [i.1,i.2,show cz 0 0=0 by decide,show dW 0 0=0 by decide,show (64:Int)*0=0 from rfl,show (0:Int)*0=0 from rfl,Int.add_zero]
 have r:=UJ (b0-a0) (by omega)
 rw [r.1,r.2];have hd:-20000000<=b0-a0/\b0-a0<=20000000:=by omega
 generalize b0-a0=d at *
 unfold crL crH
 by_cases z:d=0
 . subst z;have o:=UC;rw [show (64:Int)*0=0 from rfl,o.1,o.2];exact ⟨rfl,rfl,rfl,rfl⟩
 . have b:=Hr (64*d) 0 (by omega) (.inr rfl) (by omega) (by omega)
   rw [b.1,b.2];unfold qT;refine ⟨?_,?_,rfl,rfl⟩<;>(repeat' split)<;>omega
theorem UI:meV (min 0 0) (max 0 0)=[1073741824,1073741824,0]:=by decide +kernel
theorem UB (n:Int):pY 1073741824 1073741824 n=n/\rV 1073741824 1073741824 n=n:=by
 unfold pY rV qFl qCe;omega
theorem UN (a1 b1:Int):bcL 0 a1 0 b1=crL (ivD a1 b1) 5400000 16200000/\bcH 0 a1 0 b1=crH (ivD a1 b1) 5400000 16200000/\dsL 0 a1 0 b1=abI (ivD a1 b1)/\dsH 0 a1 0 b1=abI (ivD a1 b1):=by
 have D:=G5 (b1-a1);have hl:ivL 0 a1 0 b1=ivD a1 b1:=by unfold ivL;rw [UI];exact (UB _).1
 have hh:ivH 0 a1 0 b1=ivD a1 b1:=by unfold ivH;rw [UI];exact (UB _).2
 have D':-10800000<=ivD a1 b1/\ivD a1 b1<=10800000:=D;unfold bcL bcH dsL dsH;rw [hl,hh];generalize ivD a1 b1=d at *
 have ls:cz d d*cz d d=d*d/\dW d d*dW d d=d*d:=by
  have e1:cz d d=abI d:=by unfold cz abI;(repeat' split)<;>omega
  have e2:dW d d=abI d:=by unfold dW abI;split<;>omega
  rw [e1,e2];exact ⟨(eH d).1,(eH d).1⟩
 rw [ls.1,ls.2,show (0:Int)-0=0 from rfl,show (0:Int)*0=0 from rfl,show (64:Int)*0=0 from rfl,Int.zero_add]
 have r:=UJ d (by omega)
 rw [r.1,r.2];unfold crL crH
 by_cases z:d=0
 . subst z;have o:=UC;rw [show (64:Int)*0=0 from rfl,o.1,o.2];exact ⟨rfl,rfl,rfl,rfl⟩
 . have b:=Hr 0 (64*d) (by omega) (.inl rfl) (by omega) (by omega)
   rw [b.1,b.2];unfold qT;refine ⟨?_,?_,rfl,rfl⟩<;>(repeat' split)<;>omega
theorem Ux {n a b c d e f g h x y P M:Int} (ea:a=b2i (decide (n<0))) (eb:b=if a≠0 then 0 else 1) (ec:c=b2i (decide (n>0))) (ed:d=if c≠0 then 0 else 1) (ee':e=if d≠0 then b else 0) (ef:f=if d≠0 then a else 0) (eg:g=if c≠0 then 1 else f) (eh:h=if c≠0 then P else M) (ex:x=if g≠0 then h else 0) (ey:y=if g≠0 then h else 21600000):x=crL n P M/\y=crH n P M:=by
 unfold crL crH;rw [ex,ey,eg,eh,ef,ed,ec,ea]
 by_cases p:n>0
 . simp [p,b2i]
 . by_cases q:n<0<;>simp [p,q,b2i]
theorem Hq {n a s z:Int} (hn:-1000000000<=n/\n<=1000000000) (ea:a=b2i (decide (n<0))) (es:s=IntKind.i64.wrap (0-n)) (ez:z=if a≠0 then s else n):z=abI n:=by
 rw [Go.IntWalk.i64_in _ (by omega)] at es
 unfold abI;rw [ez,es,ea]
 by_cases p:n<0<;>simp [p,b2i]
def ll:List Nd:=[
 .arg 0,
 .arg 1,
 .arg 2,
 .arg 3,
 .app 20 0 [],
 .ite (.n 4) (.c 0) (.c 1),
 .ite (.n 5) (.c 0) (.c 1),
 .bin .geq .i64 (.n 0) (.c (-5400000)),
 .bin .leq .i64 (.n 0) (.c 5400000),
 .ite (.n 7) (.n 8) (.c 0),
 .bin .geq .i64 (.n 1) (.c (-10800000)),
 .ite (.n 9) (.n 10) (.c 0),
 .bin .lss .i64 (.n 1) (.c 10800000),
 .ite (.n 11) (.n 12) (.c 0),
 .ite (.n 13) (.c 0) (.c 1),
 .bin .lss .i64 (.n 0) (.c (-5340000)),
 .ite (.n 14) (.c 1) (.n 15),
 .bin .gtr .i64 (.n 0) (.c 5340000),
 .ite (.n 16) (.c 1) (.n 17),
 .bin .geq .i64 (.n 2) (.c (-5400000)),
 .bin .leq .i64 (.n 2) (.c 5400000),
 .ite (.n 19) (.n 20) (.c 0),
 .bin .geq .i64 (.n 3) (.c (-10800000)),
 .ite (.n 21) (.n 22) (.c 0),
 .bin .lss .i64 (.n 3) (.c 10800000),
 .ite (.n 23) (.n 24) (.c 0),
 .ite (.n 25) (.c 0) (.c 1),
 .bin .lss .i64 (.n 2) (.c (-5340000)),
 .ite (.n 26) (.c 1) (.n 27),
 .bin .gtr .i64 (.n 2) (.c 5340000),
 .ite (.n 28) (.c 1) (.n 29),
 .ite (.n 18) (.c 1) (.n 30),
 .ite (.n 31) (.c 0) (.c 1),
 .bin .sub .i64 (.n 2) (.n 0),
 .bin .sub .i64 (.n 3) (.n 1),
 .bin .rem .i64 (.n 34) (.c 21600000),
 .bin .lss .i64 (.n 35) (.c 0),
 .bin .add .i64 (.n 35) (.c 21600000),
 .ite (.n 36) (.c 0) (.c 1),
 .ite (.n 36) (.n 37) (.n 35),
 .bin .geq .i64 (.n 39) (.c 10800000),
 .bin .sub .i64 (.n 39) (.c 21600000),
 .ite (.n 40) (.c 0) (.c 1),
 .ite (.n 40) (.n 41) (.n 39),
 .bin .lss .i64 (.n 43) (.c (-10800000)),
 .bin .geq .i64 (.n 43) (.c 10800000),
 .ite (.n 44) (.c 1) (.n 45),
 .ite (.n 46) (.c 0) (.c 1),
 .app 102 0 [.n 0,.n 1,.n 2,.n 3],
 .app 102 1 [.n 0,.n 1,.n 2,.n 3],
 .app 102 2 [.n 0,.n 1,.n 2,.n 3],
 .app 102 3 [.n 0,.n 1,.n 2,.n 3],
 .app 102 4 [.n 0,.n 1,.n 2,.n 3],
 .app 102 0 [.n 0,.n 1,.n 2,.n 1],
 .app 102 1 [.n 0,.n 1,.n 2,.n 1],
 .app 102 2 [.n 0,.n 1,.n 2,.n 1],
 .app 102 3 [.n 0,.n 1,.n 2,.n 1],
 .app 102 4 [.n 0,.n 1,.n 2,.n 1],
 .app 102 0 [.c 0,.n 1,.c 0,.n 3],
 .app 102 1 [.c 0,.n 1,.c 0,.n 3],
 .app 102 2 [.c 0,.n 1,.c 0,.n 3],
 .app 102 3 [.c 0,.n 1,.c 0,.n 3],
 .app 102 4 [.c 0,.n 1,.c 0,.n 3],
 .bin .neq .i64 (.n 52) (.c 0),
 .bin .neq .i64 (.n 57) (.c 0),
 .ite (.n 63) (.c 1) (.n 64),
 .bin .neq .i64 (.n 62) (.c 0),
 .ite (.n 65) (.c 1) (.n 66),
 .ite (.n 67) (.c 0) (.c 1),
 .bin .lss .i64 (.n 33) (.c 0),
 .bin .sub .i64 (.c 0) (.n 33),
 .ite (.n 69) (.c 0) (.c 1),
 .ite (.n 69) (.n 70) (.n 33),
 .bin .lss .i64 (.n 50) (.n 72),
 .bin .gtr .i64 (.n 50) (.n 51),
 .ite (.n 73) (.c 1) (.n 74),
 .bin .lss .i64 (.n 43) (.c 0),
 .bin .sub .i64 (.c 0) (.n 43),
 .ite (.n 76) (.c 0) (.c 1),
 .ite (.n 76) (.n 77) (.n 43),
 .bin .add .i64 (.n 72) (.n 79),
 .bin .add .i64 (.n 80) (.c 2),
 .bin .gtr .i64 (.n 51) (.n 81),
 .ite (.n 75) (.c 1) (.n 82),
 .ite (.n 83) (.c 0) (.c 1),
 .bin .gtr .i64 (.n 33) (.c 0),
 .ite (.n 85) (.c 0) (.c 1),
 .ite (.n 86) (.n 71) (.c 0),
 .ite (.n 86) (.n 69) (.c 0),
 .ite (.n 85) (.c 1) (.n 88),
 .ite (.n 85) (.c 0) (.c 10800000),
 .ite (.n 89) (.c 1) (.n 87),
 .ite (.n 89) (.n 90) (.c 0),
 .ite (.n 89) (.n 90) (.c 21600000),
 .bin .eql .i64 (.n 53) (.n 92),
 .bin .eql .i64 (.n 54) (.n 93),
 .bin .eql .i64 (.n 55) (.n 72),
 .bin .eql .i64 (.n 56) (.n 72),
 .ite (.n 96) (.n 97) (.c 0),
 .ite (.n 95) (.n 98) (.c 0),
 .ite (.n 94) (.n 99) (.c 0),
 .bin .gtr .i64 (.n 43) (.c 0),
 .ite (.n 101) (.c 0) (.c 1),
 .ite (.n 102) (.n 78) (.c 0),
 .ite (.n 102) (.n 76) (.c 0),
 .ite (.n 101) (.c 1) (.n 104),
 .ite (.n 101) (.c 5400000) (.c 16200000),
 .ite (.n 105) (.c 1) (.n 103),
 .ite (.n 105) (.n 106) (.c 0),
 .ite (.n 105) (.n 106) (.c 21600000),
 .bin .eql .i64 (.n 58) (.n 108),
 .bin .eql .i64 (.n 59) (.n 109),
 .bin .eql .i64 (.n 60) (.n 79),
 .bin .eql .i64 (.n 61) (.n 79),
 .ite (.n 112) (.n 113) (.c 0),
 .ite (.n 111) (.n 114) (.c 0),
 .ite (.n 110) (.n 115) (.c 0),
 .ite (.n 100) (.n 116) (.c 0),
 .ite (.n 83) (.c 0) (.n 117),
 .ite (.n 67) (.c 0) (.n 118),
 .ite (.n 46) (.c 0) (.n 119),
 .ite (.n 31) (.c 1) (.n 120),
 .ite (.n 5) (.c 0) (.n 121)]
def UA:List Vc:=[
 ⟨[],.pre 20 []⟩,
 ⟨[(.n 47,true),(.n 32,true),(.n 6,true)],.pre 102 [.n 0,.n 1,.n 2,.n 3]⟩,
 ⟨[(.n 47,true),(.n 32,true),(.n 6,true)],.pre 102 [.n 0,.n 1,.n 2,.n 1]⟩,
 ⟨[(.n 47,true),(.n 32,true),(.n 6,true)],.pre 102 [.c 0,.n 1,.c 0,.n 3]⟩]
theorem Uy:whole Try.prog Pb 20 40 4 [(true,[some .i64,some .i64]),(true,[some .i64,some .i64])]=some (.p (.c (.bool (.n 122))),⟨ll.reverse,UA.reverse⟩):=by kernel_rfl
theorem UD:wfN ll.reverse=true:=by kernel_rfl
theorem UE (a b c d:Int) (w:World):Calls Try.prog 4 #[.agg #[.int .i64 a,.int .i64 b],.agg #[.int .i64 c,.int .i64 d]] w fun e w'=>e=.returned (.bool true)/\Below w.heap.size w w':=by
 refine Sx.calls (X:=Rw [a,b,c,d]) iY (LK _) Uy UD (fun v hs=>?_) w
 have e0:v 0=a:=ai hs 0 rfl;have e1:v 1=b:=ai hs 1 rfl;have e2:v 2=c:=ai hs 2 rfl;have e3:v 3=d:=ai hs 3 rfl;have e4:v 4=(iQ 20 []).getD 0 0:=ai hs 4 rfl;have e5:v 5=if v 4≠0 then (0:Int) else (1:Int):=ai hs 5 rfl
 have e6:v 6=if v 5≠0 then (0:Int) else (1:Int):=ai hs 6 rfl
 have e7:v 7=b2i (decide (v 0>=(-5400000:Int))):=ai hs 7 rfl;have e8:v 8=b2i (decide (v 0<=(5400000:Int))):=ai hs 8 rfl;have e9:v 9=if v 7≠0 then v 8 else (0:Int):=ai hs 9 rfl
 have e10:v 10=b2i (decide (v 1>=(-10800000:Int))):=ai hs 10 rfl;have e11:v 11=if v 9≠0 then v 10 else (0:Int):=ai hs 11 rfl
 have e12:v 12=b2i (decide (v 1<(10800000:Int))):=ai hs 12 rfl;have e13:v 13=if v 11≠0 then v 12 else (0:Int):=ai hs 13 rfl
 have e14:v 14=if v 13≠0 then (0:Int) else (1:Int):=ai hs 14 rfl
 have e15:v 15=b2i (decide (v 0<(-5340000:Int))):=ai hs 15 rfl;have e16:v 16=if v 14≠0 then (1:Int) else v 15:=ai hs 16 rfl
 have e17:v 17=b2i (decide (v 0>(5340000:Int))):=ai hs 17 rfl;have e18:v 18=if v 16≠0 then (1:Int) else v 17:=ai hs 18 rfl
 have e19:v 19=b2i (decide (v 2>=(-5400000:Int))):=ai hs 19 rfl;have e20:v 20=b2i (decide (v 2<=(5400000:Int))):=ai hs 20 rfl;have e21:v 21=if v 19≠0 then v 20 else (0:Int):=ai hs 21 rfl
 have e22:v 22=b2i (decide (v 3>=(-10800000:Int))):=ai hs 22 rfl;have e23:v 23=if v 21≠0 then v 22 else (0:Int):=ai hs 23 rfl
 have e24:v 24=b2i (decide (v 3<(10800000:Int))):=ai hs 24 rfl;have e25:v 25=if v 23≠0 then v 24 else (0:Int):=ai hs 25 rfl
 have e26:v 26=if v 25≠0 then (0:Int) else (1:Int):=ai hs 26 rfl
 have e27:v 27=b2i (decide (v 2<(-5340000:Int))):=ai hs 27 rfl;have e28:v 28=if v 26≠0 then (1:Int) else v 27:=ai hs 28 rfl
 have e29:v 29=b2i (decide (v 2>(5340000:Int))):=ai hs 29 rfl;have e30:v 30=if v 28≠0 then (1:Int) else v 29:=ai hs 30 rfl
 have e31:v 31=if v 18≠0 then (1:Int) else v 30:=ai hs 31 rfl
 have e32:v 32=if v 31≠0 then (0:Int) else (1:Int):=ai hs 32 rfl
 have e33:v 33=IntKind.i64.wrap (v 2-v 0):=ai hs 33 rfl;have e34:v 34=IntKind.i64.wrap (v 3-v 1):=ai hs 34 rfl;have e35:v 35=Int.tmod (v 34) ((21600000:Int)):=ai hs 35 rfl;have e36:v 36=b2i (decide (v 35<(0:Int))):=ai hs 36 rfl;have e37:v 37=IntKind.i64.wrap (v 35+(21600000:Int)):=ai hs 37 rfl;have e38:v 38=if v 36≠0 then (0:Int) else (1:Int):=ai hs 38 rfl
 have e39:v 39=if v 36≠0 then v 37 else v 35:=ai hs 39 rfl
 have e40:v 40=b2i (decide (v 39>=(10800000:Int))):=ai hs 40 rfl;have e41:v 41=IntKind.i64.wrap (v 39-(21600000:Int)):=ai hs 41 rfl;have e42:v 42=if v 40≠0 then (0:Int) else (1:Int):=ai hs 42 rfl
 have e43:v 43=if v 40≠0 then v 41 else v 39:=ai hs 43 rfl
 have e44:v 44=b2i (decide (v 43<(-10800000:Int))):=ai hs 44 rfl;have e45:v 45=b2i (decide (v 43>=(10800000:Int))):=ai hs 45 rfl;have e46:v 46=if v 44≠0 then (1:Int) else v 45:=ai hs 46 rfl
 have e47:v 47=if v 46≠0 then (0:Int) else (1:Int):=ai hs 47 rfl
 have e48:v 48=(iQ 102 [v 0,v 1,v 2,v 3]).getD 0 0:=ai hs 48 rfl;have e49:v 49=(iQ 102 [v 0,v 1,v 2,v 3]).getD 1 0:=ai hs 49 rfl;have e50:v 50=(iQ 102 [v 0,v 1,v 2,v 3]).getD 2 0:=ai hs 50 rfl;have e51:v 51=(iQ 102 [v 0,v 1,v 2,v 3]).getD 3 0:=ai hs 51 rfl;have e52:v 52=(iQ 102 [v 0,v 1,v 2,v 3]).getD 4 0:=ai hs 52 rfl;have e53:v 53=(iQ 102 [v 0,v 1,v 2,v 1]).getD 0 0:=ai hs 53 rfl;have e54:v 54=(iQ 102 [v 0,v 1,v 2,v 1]).getD 1 0:=ai hs 54 rfl;have e55:v 55=(iQ 102 [v 0,v 1,v 2,v 1]).getD 2 0:=ai hs 55 rfl;have e56:v 56=(iQ 102 [v 0,v 1,v 2,v 1]).getD 3 0:=ai hs 56 rfl;have e57:v 57=(iQ 102 [v 0,v 1,v 2,v 1]).getD 4 0:=ai hs 57 rfl;have e58:v 58=(iQ 102 [(0:Int),v 1,(0:Int),v 3]).getD 0 0:=ai hs 58 rfl;have e59:v 59=(iQ 102 [(0:Int),v 1,(0:Int),v 3]).getD 1 0:=ai hs 59 rfl;have e60:v 60=(iQ 102 [(0:Int),v 1,(0:Int),v 3]).getD 2 0:=ai hs 60 rfl;have e61:v 61=(iQ 102 [(0:Int),v 1,(0:Int),v 3]).getD 3 0:=ai hs 61 rfl;have e62:v 62=(iQ 102 [(0:Int),v 1,(0:Int),v 3]).getD 4 0:=ai hs 62 rfl;have e63:v 63=b2i (v 52 != (0:Int)):=ai hs 63 rfl;have e64:v 64=b2i (v 57 != (0:Int)):=ai hs 64 rfl;have e65:v 65=if v 63≠0 then (1:Int) else v 64:=ai hs 65 rfl
 have e66:v 66=b2i (v 62 != (0:Int)):=ai hs 66 rfl;have e67:v 67=if v 65≠0 then (1:Int) else v 66:=ai hs 67 rfl
 have e68:v 68=if v 67≠0 then (0:Int) else (1:Int):=ai hs 68 rfl
 have e69:v 69=b2i (decide (v 33<(0:Int))):=ai hs 69 rfl;have e70:v 70=IntKind.i64.wrap ((0:Int)-v 33):=ai hs 70 rfl;have e71:v 71=if v 69≠0 then (0:Int) else (1:Int):=ai hs 71 rfl
 have e72:v 72=if v 69≠0 then v 70 else v 33:=ai hs 72 rfl
 have e73:v 73=b2i (decide (v 50<v 72)):=ai hs 73 rfl;have e74:v 74=b2i (decide (v 50>v 51)):=ai hs 74 rfl;have e75:v 75=if v 73≠0 then (1:Int) else v 74:=ai hs 75 rfl
 have e76:v 76=b2i (decide (v 43<(0:Int))):=ai hs 76 rfl;have e77:v 77=IntKind.i64.wrap ((0:Int)-v 43):=ai hs 77 rfl;have e78:v 78=if v 76≠0 then (0:Int) else (1:Int):=ai hs 78 rfl
 have e79:v 79=if v 76≠0 then v 77 else v 43:=ai hs 79 rfl
 have e80:v 80=IntKind.i64.wrap (v 72+v 79):=ai hs 80 rfl;have e81:v 81=IntKind.i64.wrap (v 80+(2:Int)):=ai hs 81 rfl;have e82:v 82=b2i (decide (v 51>v 81)):=ai hs 82 rfl;have e83:v 83=if v 75≠0 then (1:Int) else v 82:=ai hs 83 rfl
 have e84:v 84=if v 83≠0 then (0:Int) else (1:Int):=ai hs 84 rfl
 have e85:v 85=b2i (decide (v 33>(0:Int))):=ai hs 85 rfl;have e86:v 86=if v 85≠0 then (0:Int) else (1:Int):=ai hs 86 rfl
 have e87:v 87=if v 86≠0 then v 71 else (0:Int):=ai hs 87 rfl
 have e88:v 88=if v 86≠0 then v 69 else (0:Int):=ai hs 88 rfl
 have e89:v 89=if v 85≠0 then (1:Int) else v 88:=ai hs 89 rfl
 have e90:v 90=if v 85≠0 then (0:Int) else (10800000:Int):=ai hs 90 rfl
 have e91:v 91=if v 89≠0 then (1:Int) else v 87:=ai hs 91 rfl
 have e92:v 92=if v 89≠0 then v 90 else (0:Int):=ai hs 92 rfl
 have e93:v 93=if v 89≠0 then v 90 else (21600000:Int):=ai hs 93 rfl
 have e94:v 94=b2i (v 53==v 92):=ai hs 94 rfl;have e95:v 95=b2i (v 54==v 93):=ai hs 95 rfl;have e96:v 96=b2i (v 55==v 72):=ai hs 96 rfl;have e97:v 97=b2i (v 56==v 72):=ai hs 97 rfl;have e98:v 98=if v 96≠0 then v 97 else (0:Int):=ai hs 98 rfl
 have e99:v 99=if v 95≠0 then v 98 else (0:Int):=ai hs 99 rfl
 have Oo:v 100=if v 94≠0 then v 99 else (0:Int):=ai hs 100 rfl
 have e101:v 101=b2i (decide (v 43>(0:Int))):=ai hs 101 rfl;have e102:v 102=if v 101≠0 then (0:Int) else (1:Int):=ai hs 102 rfl
 have e103:v 103=if v 102≠0 then v 78 else (0:Int):=ai hs 103 rfl
 have e104:v 104=if v 102≠0 then v 76 else (0:Int):=ai hs 104 rfl
 have e105:v 105=if v 101≠0 then (1:Int) else v 104:=ai hs 105 rfl
 have e106:v 106=if v 101≠0 then (5400000:Int) else (16200000:Int):=ai hs 106 rfl
 have e107:v 107=if v 105≠0 then (1:Int) else v 103:=ai hs 107 rfl
 have e108:v 108=if v 105≠0 then v 106 else (0:Int):=ai hs 108 rfl
 have e109:v 109=if v 105≠0 then v 106 else (21600000:Int):=ai hs 109 rfl
 have e110:v 110=b2i (v 58==v 108):=ai hs 110 rfl;have e111:v 111=b2i (v 59==v 109):=ai hs 111 rfl;have e112:v 112=b2i (v 60==v 79):=ai hs 112 rfl;have e113:v 113=b2i (v 61==v 79):=ai hs 113 rfl;have e114:v 114=if v 112≠0 then v 113 else (0:Int):=ai hs 114 rfl
 have e115:v 115=if v 111≠0 then v 114 else (0:Int):=ai hs 115 rfl
 have e116:v 116=if v 110≠0 then v 115 else (0:Int):=ai hs 116 rfl
 have e117:v 117=if v 100≠0 then v 116 else (0:Int):=ai hs 117 rfl
 have e118:v 118=if v 83≠0 then (0:Int) else v 117:=ai hs 118 rfl
 have e119:v 119=if v 67≠0 then (0:Int) else v 118:=ai hs 119 rfl
 have e120:v 120=if v 46≠0 then (0:Int) else v 119:=ai hs 120 rfl
 have e121:v 121=if v 31≠0 then (1:Int) else v 120:=ai hs 121 rfl
 have e122:v 122=if v 5≠0 then (0:Int) else v 121:=ai hs 122 rfl
 have a4:v 4=1:=e4;have a5:v 5=0:=by rw [e5,a4];rfl
 by_cases g:((-5340000<=a/\a<=5340000)/\(-10800000<=b/\b<10800000))/\((-5340000<=c/\c<=5340000)/\(-10800000<=d/\d<10800000))
 . obtain ⟨⟨g0,g1⟩,⟨g2,g3⟩⟩:=g;have a13:v 13=1:=by rw [e13,e11,e9,e7,e8,e10,e12,e0,e1,decide_eq_true (by omega),decide_eq_true (by omega),decide_eq_true (by omega),decide_eq_true (by omega)];rfl
   have a18:v 18=0:=by rw [e18,e16,e14,a13,e15,e17,e0,decide_eq_false (by omega),decide_eq_false (by omega)];rfl
   have a25:v 25=1:=by rw [e25,e23,e21,e19,e20,e22,e24,e2,e3,decide_eq_true (by omega),decide_eq_true (by omega),decide_eq_true (by omega),decide_eq_true (by omega)];rfl
   have a30:v 30=0:=by rw [e30,e28,e26,a25,e27,e29,e2,decide_eq_false (by omega),decide_eq_false (by omega)];rfl
   have a31:v 31=0:=by rw [e31,a18,a30];rfl
   have a33:v 33=c-a:=by rw [e33,e2,e0,Go.IntWalk.i64_in _ (by omega)]
   have a34:v 34=d-b:=by rw [e34,e3,e1,Go.IntWalk.i64_in _ (by omega)]
   have a39:v 39=v 34%21600000:=yH (x:=v 34) (by omega) e35 e36 e37 e39
   have a43:v 43=ivD b d:=by
    have k:=(GI (x:=v 34) a39 e40 e41 e43).1;rw [k,a34];rfl
   have D:-10800000<=ivD b d/\ivD b d<10800000:=by unfold ivD sgt;split<;>omega
   have a46:v 46=0:=by rw [e46,e44,e45,a43,decide_eq_false (by omega),decide_eq_false (by omega)];rfl
   have P1:Jy 102 [v 0,v 1,v 2,v 3]:=by show (-5340000<=v 0/\v 0<=5340000)/\(-10800000<=v 1/\v 1<10800000)/\(-5340000<=v 2/\v 2<=5340000)/\(-10800000<=v 3/\v 3<10800000);omega
   have P2:Jy 102 [v 0,v 1,v 2,v 1]:=by show (-5340000<=v 0/\v 0<=5340000)/\(-10800000<=v 1/\v 1<10800000)/\(-5340000<=v 2/\v 2<=5340000)/\(-10800000<=v 1/\v 1<10800000);omega
   have P3:Jy 102 [0,v 1,0,v 3]:=by show (-5340000<=(0:Int)/\(0:Int)<=5340000)/\(-10800000<=v 1/\v 1<10800000)/\(-5340000<=(0:Int)/\(0:Int)<=5340000)/\(-10800000<=v 3/\v 3<10800000);omega
   have B:=UU a b c d g0 g2;have Ma:=UH a b c g0 g2;have Ea:=UN b d;have a50:v 50=dsL a b c d:=by rw [<-e0,<-e1,<-e2,<-e3];exact e50
   have a51:v 51=dsH a b c d:=by rw [<-e0,<-e1,<-e2,<-e3];exact e51
   have a53:v 53=crL (c-a) 0 10800000:=by rw [<-Ma.1,<-e0,<-e1,<-e2];exact e53
   have a54:v 54=crH (c-a) 0 10800000:=by rw [<-Ma.2.1,<-e0,<-e1,<-e2];exact e54
   have a55:v 55=abI (c-a):=by rw [<-Ma.2.2.1,<-e0,<-e1,<-e2];exact e55
   have a56:v 56=abI (c-a):=by rw [<-Ma.2.2.2,<-e0,<-e1,<-e2];exact e56
   have a58:v 58=crL (ivD b d) 5400000 16200000:=by rw [<-Ea.1,<-e1,<-e3];exact e58
   have a59:v 59=crH (ivD b d) 5400000 16200000:=by rw [<-Ea.2.1,<-e1,<-e3];exact e59
   have a60:v 60=abI (ivD b d):=by rw [<-Ea.2.2.1,<-e1,<-e3];exact e60
   have a61:v 61=abI (ivD b d):=by rw [<-Ea.2.2.2,<-e1,<-e3];exact e61
   have a67:v 67=0:=by
    have x52:v 52=0:=e52;have x57:v 57=0:=e57;have x62:v 62=0:=e62;rw [e67,e65,e63,e64,e66,x52,x57,x62];rfl
   have a72:v 72=abI (c-a):=by rw [<-a33];exact Hq (n:=v 33) (by omega) e69 e70 e72
   have a79:v 79=abI (ivD b d):=by rw [<-a43];exact Hq (n:=v 43) (by omega) e76 e77 e79
   have ab1:0<=abI (c-a)/\abI (c-a)<=20000000:=by unfold abI;split<;>omega
   have ab2:0<=abI (ivD b d)/\abI (ivD b d)<=20000000:=by unfold abI;split<;>omega
   have a80:v 80=abI (c-a)+abI (ivD b d):=by rw [e80,a72,a79,Go.IntWalk.i64_in _ (by omega)]
   have a81:v 81=abI (c-a)+abI (ivD b d)+2:=by rw [e81,a80,Go.IntWalk.i64_in _ (by omega)]
   have a83:v 83=0:=by rw [e83,e75,e73,e74,e82,a50,a51,a72,a81,decide_eq_false (by omega),decide_eq_false (by omega),decide_eq_false (by omega)];rfl
   have c1:=Ux (n:=v 33) (P:=0) (M:=10800000) e69 e71 e85 e86 e87 e88 e89 e90 e92 e93;have c2:=Ux (n:=v 43) (P:=5400000) (M:=16200000) e76 e78 e101 e102 e103 e104 e105 e106 e108 e109;rw [a33] at c1;rw [a43] at c2;have a100:v 100=1:=by rw [Oo,e99,e98,e94,e95,e96,e97,c1.1,c1.2,a53,a54,a55,a56,a72];simp [b2i]
   have a116:v 116=1:=by rw [e116,e115,e114,e110,e111,e112,e113,c2.1,c2.2,a58,a59,a60,a61,a79];simp [b2i]
   have a122:v 122=1:=by rw [e122,a5,e121,a31,e120,a46,e119,a67,e118,a83,e117,a100,a116];rfl
   refine ⟨jN ?_,?_⟩
   . exact aL (fun _=>trivial) (aL (fun _=>P1) (aL (fun _=>P2) (aL (fun _=>P3) (jV))))
   . intro x hx0;have hx':=jK (v:=v) (by rfl) hx0
     rw [hx'];show Value.bool (decide (v 122≠0))=_;rw [a122];rfl
 . have a31:v 31=1:=by
    by_cases p1:(-5340000<=a/\a<=5340000)/\(-10800000<=b/\b<10800000)
    . have k25:v 25=b2i (decide (((c>=-5400000/\c<=5400000)/\d>=-10800000)/\d<10800000)):=by rw [e25,e23,e21,e19,e20,e22,e24,e2,e3,nR,nR,nR]
      have a30:v 30=1:=by
       refine CK (Q:=c < -5340000) (R:=c>5340000) ?_ k25 (by rw [e27,e2]) (by rw [e29,e2]) e26 e28 e30
       omega
      rw [e31,a30];split<;>rfl
    . have k13:v 13=b2i (decide (((a>=-5400000/\a<=5400000)/\b>=-10800000)/\b<10800000)):=by rw [e13,e11,e9,e7,e8,e10,e12,e0,e1,nR,nR,nR]
      have a18:v 18=1:=by
       refine CK (Q:=a < -5340000) (R:=a>5340000) ?_ k13 (by rw [e15,e0]) (by rw [e17,e0]) e14 e16 e18
       omega
      rw [e31,a18];rfl
   have a32:v 32=0:=by rw [e32,a31];rfl
   have a122:v 122=1:=by rw [e122,a5,e121,a31];rfl
   refine ⟨jN ?_,?_⟩
   . exact aL (fun _=>trivial) (aL (fun hp=>absurd a32 (jQ (jQ hp).2).1) (aL (fun hp=>absurd a32 (jQ (jQ hp).2).1) (aL (fun hp=>absurd a32 (jQ (jQ hp).2).1) (jV))))
   . intro x hx0;have hx':=jK (v:=v) (by rfl) hx0
     rw [hx'];show Value.bool (decide (v 122≠0))=_;rw [a122];rfl
