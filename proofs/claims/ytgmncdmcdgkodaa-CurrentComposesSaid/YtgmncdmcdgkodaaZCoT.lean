/- Plain: components hold the true ones, and what is composed of true components holds course and size. -/
import Derived.Test.YtgmncdmcdgkodaaZCurI
import Derived.Test.YtgmncdmcdgkodaaZTr2
set_option linter.unusedVariables false
set_option linter.unusedSimpArgs false
namespace Go.Proofs.Ytgmncdmcdgkodaa
open Go.RowKit Alm Sx
theorem Cs {lo hi n:Int} {x e:Rat} (h:InE lo hi x e) (h0:0<=n):(dm lo hi n:Rat)-n*e<=n*x/\(n:Rat)*x<=(cZ lo hi n:Rat)+n*e:=by
 unfold InE at h;have n0:(0:Rat)<=n:=Rat.intCast_le_intCast.2 h0
 have a:dm lo hi n*1073741824<=lo*n:=by
  unfold dm qFl;have:=Int.ediv_mul_le (lo*n) (b:=1073741824) (by decide)
  omega
 have b:hi*n<=cZ lo hi n*1073741824:=by
  unfold cZ qCe;have:=Int.ediv_mul_le (-(hi*n)) (b:=1073741824) (by decide)
  omega
 have a':((dm lo hi n*1073741824:Int):Rat)<=((lo*n:Int):Rat):=Rat.intCast_le_intCast.2 a;have b':((hi*n:Int):Rat)<=((cZ lo hi n*1073741824:Int):Rat):=Rat.intCast_le_intCast.2 b;rw [Rat.intCast_mul,Rat.intCast_mul,show ((1073741824:Int):Rat)=1073741824 from rfl] at a' b'
 have u:=I8;have up:=Jk;clear a b h0;generalize (dm lo hi n:Rat)=P at *
 generalize (cZ lo hi n:Rat)=Q at *
 generalize (lo:Rat)=lo at *
 generalize (hi:Rat)=hi at *
 generalize (n:Rat)=n at *
 have k1:=Rat.mul_nonneg n0 (show 0<=x-lo*u30+e by grind)
 have k2:=Rat.mul_nonneg n0 (show 0<=hi*u30+e-x by grind)
 have k3:=Rat.mul_nonneg (show 0<=lo*n-P*1073741824 by grind) (Rat.le_of_lt up)
 have k4:=Rat.mul_nonneg (show 0<=Q*1073741824-hi*n by grind) (Rat.le_of_lt up)
 have e1:P*1073741824*u30=P:=by rw [Rat.mul_assoc,u,Rat.mul_one]
 have e2:Q*1073741824*u30=Q:=by rw [Rat.mul_assoc,u,Rat.mul_one]
 constructor<;>grind
theorem oD (x:Int):mnV x x=x/\mxV x x=x:=by unfold mnV mxV;constructor<;>split<;>rfl
theorem JX {a b l h c v:Int} (hc:a<=c/\c<=b) (h0:0<=l) (hv:l<=v/\v<=h) (hh:h<=400000) :
 (((paV a b l h).getD 0 0:Rat)-1000000*ee<=v*cg c/\(v:Rat)*cg c<=((paV a b l h).getD 1 0:Rat)+1000000*ee)/\(((paV a b l h).getD 2 0:Rat)-1000000*ee<=v*sg c/\(v:Rat)*sg c<=((paV a b l h).getD 3 0:Rat)+1000000*ee):=by
 obtain ⟨⟨P0,P1⟩,⟨P2,P3⟩⟩:=JB (a':=c) (b':=c) (l':=v) (h':=v) ⟨hc.1,Int.le_refl _,hc.2⟩ h0 ⟨hv.1,Int.le_refl _,hv.2⟩;have e:(paV c c v v).getD 0 0=dm (bv (c+5400000) (c+5400000)) (bz (c+5400000) (c+5400000)) v/\(paV c c v v).getD 1 0=cZ (bv (c+5400000) (c+5400000)) (bz (c+5400000) (c+5400000)) v/\(paV c c v v).getD 2 0=dm (bv c c) (bz c c) v/\(paV c c v v).getD 3 0=cZ (bv c c) (bz c c) v:=⟨(oD _).1,(oD _).2,(oD _).1,(oD _).2⟩;rw [e.1] at P0;rw [e.2.1] at P1;rw [e.2.2.1] at P2;rw [e.2.2.2] at P3;have sc:=Cs (Tq c c c (.inl rfl)) (show 0<=v by omega)
 have ss:=Cs (Ql c c c (.inl rfl)) (show 0<=v by omega)
 have v4:(v:Rat)<=400000:=Rat.intCast_le_intCast.2 (show v<=400000 by omega)
 have ep:=bM;have k:=Rat.mul_nonneg (show 0<=400000-(v:Rat) by grind) (Rat.le_of_lt ep)
 have c0:(((paV a b l h).getD 0 0:Int):Rat)<=_:=Rat.intCast_le_intCast.2 P0;have c1:_<=(((paV a b l h).getD 1 0:Int):Rat):=Rat.intCast_le_intCast.2 P1;have c2:(((paV a b l h).getD 2 0:Int):Rat)<=_:=Rat.intCast_le_intCast.2 P2;have c3:_<=(((paV a b l h).getD 3 0:Int):Rat):=Rat.intCast_le_intCast.2 P3;clear P0 P1 P2 P3 e hc h0 hv hh;refine ⟨⟨?_,?_⟩,⟨?_,?_⟩⟩<;>grind
theorem Lg {m X e:Rat} (h0:0<=m) (h4:m<=400000) (hX:X<=400000) (hX2:-400000<=X) (he:0<=e) (h:m<=X+e):m*m<=X*X+1000000*e:=by
 by_cases k:m<=X
 . have:=Rat.mul_nonneg (show 0<=X-m by grind) (show 0<=X+m by grind);grind
 . have a:=Rat.mul_nonneg (show 0<=e-(m-X) by grind) (show 0<=800000-(m+X) by grind)
   have b:=Rat.mul_nonneg he (show 0<=800000+(m+X) by grind)
   by_cases q:0<=m+X
   . have c:=Rat.mul_nonneg (show 0<=e-(m-X) by grind) q
     have d:=Rat.mul_nonneg he (show 0<=800000-(m+X) by grind)
     grind
   . have c:=Rat.mul_nonneg (show 0<=m-X by grind) (show 0<=-(m+X) by grind)
     grind
theorem Sv {M X e:Rat} (h0:0<=M) (h4:M<=400000) (hX:X<=400000) (hX2:-400000<=X) (he:0<=e) (h:X-e<=M) (h':-X-e<=M):X*X-1000000*e<=M*M:=by
 have core:∀ Y:Rat,0<=Y->Y<=400000->Y-e<=M->Y*Y-1000000*e<=M*M:=fun Y y0 y4 hy=>by
  by_cases k:Y<=M
  . have:=Rat.mul_nonneg (show 0<=M-Y by grind) (show 0<=Y+M by grind);grind
  . have a:=Rat.mul_nonneg (show 0<=e-(Y-M) by grind) (show 0<=Y+M by grind)
    have b:=Rat.mul_nonneg he (show 0<=800000-(Y+M) by grind)
    grind
 by_cases q:0<=X
 . exact core X q hX h
 . have:=core (-X) (by grind) (by grind) h'
   grind
theorem L6 {n v:Int} (h0:0<=n) (h1:n<=2305843009213693952) (hv:0<=v) (h:n<=v*v):rtV n<=v:=by
 obtain ⟨a,b,_⟩:=pV n h0 h1;refine Int.not_lt.1 fun hh=>?_
 have:=Int.mul_le_mul (show v+1<=rtV n by omega) (show v+1<=rtV n by omega) (by omega) a
 have e:(v+1)*(v+1)=v*v+2*v+1:=by grind
 omega
theorem Mg {n v:Int} (h0:0<=n) (h1:n<=2305843009213693952) (hv:0<=v) (h:v*v<=n):v<=rtU n:=by
 obtain ⟨a,b,_⟩:=Oi n h0 h1;refine Int.not_lt.1 fun hh=>?_
 have:=Int.mul_le_mul (show rtU n<=v-1 by omega) (show rtU n<=v-1 by omega) a (by omega)
 have e:(v-1)*(v-1)=v*v-2*v+1:=by grind
 omega
theorem uQ {n0 n1:Int} {X e:Rat} (b1:-400000<=n0/\n0<=n1/\n1<=400000) (hX:X<=400000) (hX2:-400000<=X) (he:0<=e) (p1:(n0:Rat)-e<=X) (p2:X<=(n1:Rat)+e) :
 ((dA n0 n1*dA n0 n1:Int):Rat)<=X*X+1000000*e/\X*X-1000000*e<=((dh n0 n1*dh n0 n1:Int):Rat):=by
 have l:=lZ b1;have m:=lT b1;have l0:(0:Rat)<=dA n0 n1:=Rat.intCast_le_intCast.2 l.1;have l4:(dA n0 n1:Rat)<=400000:=Rat.intCast_le_intCast.2 l.2;have m0:(0:Rat)<=dh n0 n1:=Rat.intCast_le_intCast.2 m.1;have m4:(dh n0 n1:Rat)<=400000:=Rat.intCast_le_intCast.2 m.2;rw [Rat.intCast_mul,Rat.intCast_mul]
 constructor
 . have c:dA n0 n1=0∨dA n0 n1=n0∨dA n0 n1=-n1:=by unfold dA;omega
   rcases c with c|c|c
   . rw [c,show ((0:Int):Rat)=0 from rfl]
     have:=IA X;clear l m b1 c;grind
   . rw [c] at l0 l4 ⊢
     exact Lg l0 l4 hX hX2 he (by clear l m b1 c;grind)
   . rw [c] at l0 l4 ⊢
     rw [Rat.intCast_neg] at l0 l4 ⊢
     have:=Lg (X:=-X) l0 l4 (by grind) (by grind) he (by clear l m b1 c;grind)
     clear l m b1 c;grind
 . have c1:n1<=dh n0 n1:=by unfold dh;omega
   have c2:-n0<=dh n0 n1:=by unfold dh;omega
   have d1:(n1:Rat)<=dh n0 n1:=Rat.intCast_le_intCast.2 c1;have d2:((-n0:Int):Rat)<=dh n0 n1:=Rat.intCast_le_intCast.2 c2;rw [Rat.intCast_neg] at d2;clear l m b1 c1 c2;exact Sv m0 m4 hX hX2 he (by grind) (by grind)
theorem Tz:4000000000000*ee<=1/1000/\4096*(1000000*ee)<=1/40000000:=by unfold ee;decide +kernel
theorem Jh {n0 n1 x0 x1 c v:Int} (b1:-400000<=n0/\n0<=n1/\n1<=400000) (b2:-400000<=x0/\x0<=x1/\x1<=400000) (hv:0<=v/\v<=400000)
 (p1:(n0:Rat)-1000000*ee<=v*cg c) (p2:(v:Rat)*cg c<=(n1:Rat)+1000000*ee) (q1:(x0:Rat)-1000000*ee<=v*sg c) (q2:(v:Rat)*sg c<=(x1:Rat)+1000000*ee) :
 ((coV n0 n1 x0 x1).getD 2 0<=v/\v<=(coV n0 n1 x0 x1).getD 3 0)/\(ic (4096*x0) (4096*x1) (4096*n0) (4096*n1)=false->(c-(coV n0 n1 x0 x1).getD 0 0)%21600000<=(coV n0 n1 x0 x1).getD 1 0-(coV n0 n1 x0 x1).getD 0 0):=by
 have ep:=bM;obtain ⟨e1,e2⟩:=Tz;obtain ⟨oc,os⟩:=g1 c;have v0:(0:Rat)<=v:=Rat.intCast_le_intCast.2 hv.1;have v4:(v:Rat)<=400000:=Rat.intCast_le_intCast.2 hv.2;have n1':=o1m oc (show -(400000:Rat)<=v by grind) v4
 have n2':=o1m os (show -(400000:Rat)<=v by grind) v4
 rw [Rat.mul_comm] at n1' n2'
 refine ⟨⟨?_,?_⟩,fun ho=>?_⟩
 . have a:=(uQ b1 n1'.2 n1'.1 (show 0<=1000000*ee by grind) p1 p2).1
   have b:=(uQ b2 n2'.2 n2'.1 (show 0<=1000000*ee by grind) q1 q2).1
   have u:=congrArg (·*((v:Rat)*v)) (pI c)
   have s:((dA n0 n1*dA n0 n1+dA x0 x1*dA x0 x1:Int):Rat)<((v*v+1:Int):Rat):=by
    rw [Rat.intCast_add,Rat.intCast_add,Rat.intCast_mul v v,show ((1:Int):Rat)=1 from rfl]
    clear p1 p2 q1 q2 b1 b2 hv n1' n2' oc os;generalize ((dA n0 n1*dA n0 n1:Int):Rat)=A at *
    generalize ((dA x0 x1*dA x0 x1:Int):Rat)=B at *
    grind
   have s':=Rat.intCast_lt_intCast.1 s;have l1:=lZ b1;have l2:=lZ b2;have k1:=xP l1.1 l1.2;have k2:=xP l2.1 l2.2;exact L6 (by omega) (by omega) hv.1 (by omega)
 . have a:=(uQ b1 n1'.2 n1'.1 (show 0<=1000000*ee by grind) p1 p2).2
   have b:=(uQ b2 n2'.2 n2'.1 (show 0<=1000000*ee by grind) q1 q2).2
   have u:=congrArg (·*((v:Rat)*v)) (pI c)
   have s:((v*v-1:Int):Rat)<((dh n0 n1*dh n0 n1+dh x0 x1*dh x0 x1:Int):Rat):=by
    rw [Rat.intCast_add,Rat.intCast_sub,Rat.intCast_mul v v,show ((1:Int):Rat)=1 from rfl]
    clear p1 p2 q1 q2 b1 b2 hv n1' n2' oc os;generalize ((dh n0 n1*dh n0 n1:Int):Rat)=A at *
    generalize ((dh x0 x1*dh x0 x1:Int):Rat)=B at *
    grind
   have s':=Rat.intCast_lt_intCast.1 s;have l1:=lT b1;have l2:=lT b2;have k1:=xP l1.1 l1.2;have k2:=xP l2.1 l2.2;exact Mg (by omega) (by omega) hv.1 (by omega)
 . have z:∀ n:Int,((4096*n:Int):Rat)=4096*(n:Rat):=fun n=>by rw [Rat.intCast_mul];rfl
   refine bear_holds (yl:=4096*x0) (yh:=4096*x1) (xl:=4096*n0) (xh:=4096*n1) (c:=c) (r:=4096*v) (by omega) (by omega) (by omega) (by omega) ho (by grind) ?_ ?_ ?_ ?_
   all_goals
    rw [z];clear hv b1 b2 z ho oc os n1' n2'
    grind
theorem comp_holds {a b l h:Int} (hab:a<=b) (h0:0<=l) (hlh:l<=h) (hh:h<=200000) (N C:List Int) (hN:N=paV a b l h) (hC:C=coV (N.getD 0 0) (N.getD 1 0) (N.getD 2 0) (N.getD 3 0)) :
 (C.getD 2 0<=l/\h<=C.getD 3 0)/\((C.getD 0 0=0/\C.getD 1 0=21600000)∨(C.getD 1 0-C.getD 0 0<=10800001/\(a-C.getD 0 0)%21600000+(b-a)<=C.getD 1 0-C.getD 0 0)):=by
 obtain ⟨B1,B2⟩:=Ay (a:=a) (b:=b) h0 hlh;have T:=fun c v (hc:a<=c/\c<=b) (hv:l<=v/\v<=h)=>JX hc h0 hv (by omega)
 rw [<-hN] at B1 B2 T;have K:=fun c v (hc:a<=c/\c<=b) (hv:l<=v/\v<=h)=>Jh (c:=c) (v:=v) (n0:=N.getD 0 0) (n1:=N.getD 1 0) (x0:=N.getD 2 0) (x1:=N.getD 3 0) (by omega) (by omega) (by omega) (T c v hc hv).1.1 (T c v hc hv).1.2 (T c v hc hv).2.1 (T c v hc hv).2.2
 rw [<-hC] at K;refine ⟨⟨(K a l (by omega) (by omega)).1.1,(K a h (by omega) (by omega)).1.2⟩,?_⟩
 cases ho:ic (4096*N.getD 2 0) (4096*N.getD 3 0) (4096*N.getD 0 0) (4096*N.getD 1 0)
 . right
   have w:C.getD 1 0-C.getD 0 0<=10800001:=by
    rw [hC];exact Ea (by omega) (by omega) (by omega) (by omega) ho
   refine ⟨w,?_⟩;have s:=tK (L:=C.getD 0 0) (H:=C.getD 1 0) (a:=a) (by omega) (b-a).toNat (fun c h1 h2=>(K c h (by omega) (by omega)).2 ho)
   have:((b-a).toNat:Int)=b-a:=Int.toNat_of_nonneg (by omega)
   omega
 . left
   rw [hC];exact ⟨by show bT _ _ _ _=0;unfold bT;rw [ho];rfl,by show dE _ _ _ _=21600000;unfold dE;rw [ho];rfl⟩
