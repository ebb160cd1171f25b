/- Plain: components hold the true ones, and what is composed of true components holds course and size. -/
import Derived.Test.YtmldbeipmappnaaZCurI
import Derived.Test.YtmldbeipmappnaaZTr2
set_option linter.unusedVariables false
set_option linter.unusedSimpArgs false
namespace Go.Proofs.Ytmldbeipmappnaa
open Go.RowKit Alm Sx
theorem ve {lo hi n:Int} {x e:Rat} (h:InE lo hi x e) (h0:0<=n):(dM lo hi n:Rat)-n*e<=n*x/\(n:Rat)*x<=(dI lo hi n:Rat)+n*e:=by
 unfold InE at h;have n0:(0:Rat)<=n:=Rat.intCast_le_intCast.2 h0
 have a:dM lo hi n*1073741824<=lo*n:=by
  unfold dM qFl;have:=Int.ediv_mul_le (lo*n) (b:=1073741824) (by decide)
  omega
 have b:hi*n<=dI lo hi n*1073741824:=by
  unfold dI qCe;have:=Int.ediv_mul_le (-(hi*n)) (b:=1073741824) (by decide)
  omega
 have a':((dM lo hi n*1073741824:Int):Rat)<=((lo*n:Int):Rat):=Rat.intCast_le_intCast.2 a;have b':((hi*n:Int):Rat)<=((dI lo hi n*1073741824:Int):Rat):=Rat.intCast_le_intCast.2 b;rw [Rat.intCast_mul,Rat.intCast_mul,show ((1073741824:Int):Rat)=1073741824 from rfl] at a' b'
 have u:=fe;have up:=dU;clear a b h0;generalize (dM lo hi n:Rat)=P at *
 generalize (dI lo hi n:Rat)=Q at *
 generalize (lo:Rat)=lo at *
 generalize (hi:Rat)=hi at *
 generalize (n:Rat)=n at *
 have k1:=Rat.mul_nonneg n0 (show 0<=x-lo*u30+e by grind)
 have k2:=Rat.mul_nonneg n0 (show 0<=hi*u30+e-x by grind)
 have k3:=Rat.mul_nonneg (show 0<=lo*n-P*1073741824 by grind) (Rat.le_of_lt up)
 have k4:=Rat.mul_nonneg (show 0<=Q*1073741824-hi*n by grind) (Rat.le_of_lt up)
 have e1:P*1073741824*u30=P:=by rw [Rat.mul_assoc,u,Rat.mul_one]
 have e2:Q*1073741824*u30=Q:=by rw [Rat.mul_assoc,u,Rat.mul_one]
 constructor<;>grind
theorem vk (x:Int):mnV x x=x/\mxV x x=x:=by unfold mnV mxV;constructor<;>split<;>rfl
theorem Hm {a b l h c v:Int} (hc:a<=c/\c<=b) (h0:0<=l) (hv:l<=v/\v<=h) (hh:h<=400000) :
 (((paV a b l h).getD 0 0:Rat)-1000000*ee<=v*cg c/\(v:Rat)*cg c<=((paV a b l h).getD 1 0:Rat)+1000000*ee)/\(((paV a b l h).getD 2 0:Rat)-1000000*ee<=v*sg c/\(v:Rat)*sg c<=((paV a b l h).getD 3 0:Rat)+1000000*ee):=by
 obtain ⟨⟨P0,P1⟩,⟨P2,P3⟩⟩:=Tw (a':=c) (b':=c) (l':=v) (h':=v) ⟨hc.1,Int.le_refl _,hc.2⟩ h0 ⟨hv.1,Int.le_refl _,hv.2⟩;have e:(paV c c v v).getD 0 0=dM (bU (c+5400000) (c+5400000)) (bW (c+5400000) (c+5400000)) v/\(paV c c v v).getD 1 0=dI (bU (c+5400000) (c+5400000)) (bW (c+5400000) (c+5400000)) v/\(paV c c v v).getD 2 0=dM (bU c c) (bW c c) v/\(paV c c v v).getD 3 0=dI (bU c c) (bW c c) v:=⟨(vk _).1,(vk _).2,(vk _).1,(vk _).2⟩;rw [e.1] at P0;rw [e.2.1] at P1;rw [e.2.2.1] at P2;rw [e.2.2.2] at P3;have sc:=ve (lM c c c (.inl rfl)) (show 0<=v by omega)
 have ss:=ve (CG c c c (.inl rfl)) (show 0<=v by omega)
 have v4:(v:Rat)<=400000:=Rat.intCast_le_intCast.2 (show v<=400000 by omega)
 have ep:=bz;have k:=Rat.mul_nonneg (show 0<=400000-(v:Rat) by grind) (Rat.le_of_lt ep)
 have c0:(((paV a b l h).getD 0 0:Int):Rat)<=_:=Rat.intCast_le_intCast.2 P0;have c1:_<=(((paV a b l h).getD 1 0:Int):Rat):=Rat.intCast_le_intCast.2 P1;have c2:(((paV a b l h).getD 2 0:Int):Rat)<=_:=Rat.intCast_le_intCast.2 P2;have c3:_<=(((paV a b l h).getD 3 0:Int):Rat):=Rat.intCast_le_intCast.2 P3;clear P0 P1 P2 P3 e hc h0 hv hh;refine ⟨⟨?_,?_⟩,⟨?_,?_⟩⟩<;>grind
theorem Uq {m X e:Rat} (h0:0<=m) (h4:m<=400000) (hX:X<=400000) (hX2:-400000<=X) (he:0<=e) (h:m<=X+e):m*m<=X*X+1000000*e:=by
 by_cases k:m<=X
 . have:=Rat.mul_nonneg (show 0<=X-m by grind) (show 0<=X+m by grind);grind
 . have a:=Rat.mul_nonneg (show 0<=e-(m-X) by grind) (show 0<=800000-(m+X) by grind)
   have b:=Rat.mul_nonneg he (show 0<=800000+(m+X) by grind)
   by_cases q:0<=m+X
   . have c:=Rat.mul_nonneg (show 0<=e-(m-X) by grind) q
     have d:=Rat.mul_nonneg he (show 0<=800000-(m+X) by grind)
     grind
   . have c:=Rat.mul_nonneg (show 0<=m-X by grind) (show 0<=-(m+X) by grind)
     grind
theorem ade {M X e:Rat} (h0:0<=M) (h4:M<=400000) (hX:X<=400000) (hX2:-400000<=X) (he:0<=e) (h:X-e<=M) (h':-X-e<=M):X*X-1000000*e<=M*M:=by
 have core:∀ Y:Rat,0<=Y->Y<=400000->Y-e<=M->Y*Y-1000000*e<=M*M:=fun Y y0 y4 hy=>by
  by_cases k:Y<=M
  . have:=Rat.mul_nonneg (show 0<=M-Y by grind) (show 0<=Y+M by grind);grind
  . have a:=Rat.mul_nonneg (show 0<=e-(Y-M) by grind) (show 0<=Y+M by grind)
    have b:=Rat.mul_nonneg he (show 0<=800000-(Y+M) by grind)
    grind
 by_cases q:0<=X
 . exact core X q hX h
 . have:=core (-X) (by grind) (by grind) h'
   grind
theorem Xq {n v:Int} (h0:0<=n) (h1:n<=2305843009213693952) (hv:0<=v) (h:n<=v*v):rtV n<=v:=by
 obtain ⟨a,b,_⟩:=su n h0 h1;refine Int.not_lt.1 fun hh=>?_
 have:=Int.mul_le_mul (show v+1<=rtV n by omega) (show v+1<=rtV n by omega) (by omega) a
 have e:(v+1)*(v+1)=v*v+2*v+1:=by grind
 omega
theorem Xy {n v:Int} (h0:0<=n) (h1:n<=2305843009213693952) (hv:0<=v) (h:v*v<=n):v<=rtU n:=by
 obtain ⟨a,b,_⟩:=Ma n h0 h1;refine Int.not_lt.1 fun hh=>?_
 have:=Int.mul_le_mul (show rtU n<=v-1 by omega) (show rtU n<=v-1 by omega) a (by omega)
 have e:(v-1)*(v-1)=v*v-2*v+1:=by grind
 omega
theorem sH {n0 n1:Int} {X e:Rat} (b1:-400000<=n0/\n0<=n1/\n1<=400000) (hX:X<=400000) (hX2:-400000<=X) (he:0<=e) (p1:(n0:Rat)-e<=X) (p2:X<=(n1:Rat)+e) :
 ((bM n0 n1*bM n0 n1:Int):Rat)<=X*X+1000000*e/\X*X-1000000*e<=((bG n0 n1*bG n0 n1:Int):Rat):=by
 have l:=kJ b1;have m:=kG b1;have l0:(0:Rat)<=bM n0 n1:=Rat.intCast_le_intCast.2 l.1;have l4:(bM n0 n1:Rat)<=400000:=Rat.intCast_le_intCast.2 l.2;have m0:(0:Rat)<=bG n0 n1:=Rat.intCast_le_intCast.2 m.1;have m4:(bG n0 n1:Rat)<=400000:=Rat.intCast_le_intCast.2 m.2;rw [Rat.intCast_mul,Rat.intCast_mul]
 constructor
 . have c:bM n0 n1=0∨bM n0 n1=n0∨bM n0 n1=-n1:=by unfold bM;omega
   rcases c with c|c|c
   . rw [c,show ((0:Int):Rat)=0 from rfl]
     have:=bT X;clear l m b1 c;grind
   . rw [c] at l0 l4 ⊢
     exact Uq l0 l4 hX hX2 he (by clear l m b1 c;grind)
   . rw [c] at l0 l4 ⊢
     rw [Rat.intCast_neg] at l0 l4 ⊢
     have:=Uq (X:=-X) l0 l4 (by grind) (by grind) he (by clear l m b1 c;grind)
     clear l m b1 c;grind
 . have c1:n1<=bG n0 n1:=by unfold bG;omega
   have c2:-n0<=bG n0 n1:=by unfold bG;omega
   have d1:(n1:Rat)<=bG n0 n1:=Rat.intCast_le_intCast.2 c1;have d2:((-n0:Int):Rat)<=bG n0 n1:=Rat.intCast_le_intCast.2 c2;rw [Rat.intCast_neg] at d2;clear l m b1 c1 c2;exact ade m0 m4 hX hX2 he (by grind) (by grind)
