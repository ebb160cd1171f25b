/- Plain: the mean cosine of two latitudes as a number; how narrow its enclosure is. -/
import Derived.Test.YtbcnifkfaknnaaaGreatZRhM
import Derived.Test.YtbcnifkfaknnaaaGreatZRhV
import Derived.Test.YtbcnifkfaknnaaaGreatZRd
import Derived.Test.YtbcnifkfaknnaaaGreatZMir
set_option linter.unusedVariables false
set_option linter.unusedSimpArgs false
set_option maxHeartbeats 2000000
namespace Go.Proofs.YtbcnifkfaknnaaaGreat
open Alm Sx
theorem DY (a b:Int) (h0:-5340000<=a) (h:a<=b) (hb:b<=5340000):5368000<=cqL a b:=by
 have pos:∀ x:Int,-5340000<=x->x<=5340000->5368000<=bLo (x+5400000):=by
  intro x x0 x1;have c:=(oh x x x x0 x1 (Int.le_refl x) (Int.le_refl x)).2;rw [(BV (x+5400000)).2] at c;have z:=(Alm.sc_bd x.natAbs (by omega)).1
  have z':5/1000<=zcI x:=z;have t:=jH;have b:=jA (x+5400000)
  have k:((5368600:Int):Rat)<=(bHi (x+5400000):Rat):=by
   have e:((5368600:Int):Rat)=5368600:=rfl;rw [e];clear z b;generalize (bHi (x+5400000):Rat)=B at *
   generalize zcI x=Z at *
   generalize mR=T at *
   grind
  have k2:5368600<=bHi (x+5400000):=Rat.intCast_le_intCast.1 k;omega
 have pa:=pos a h0 (by omega)
 have pb:=pos b (by omega) hb
 unfold cqL dF;cases m:bK (a+5400000) (b+5400000) 16200000
 . simp only [Bool.false_eq_true,if_false];omega
 . exfalso;unfold bK aj at m;have:=of_decide_eq_true m;omega
theorem ZX {De C n P g q tol k:Rat} (De0:0<De) (ek:k*De=n*P) (h:De*C<=n*P*(1-g)) (eC:1073741824*C=q-tol) (g1:tol<=1073741824*(5/1000)*g) (g0:0<=g) (k5:5/1000<=k):q<=1073741824*k:=by
 have a:De*C<=De*(k*(1-g)):=by
  rw [show De*(k*(1-g))=k*De*(1-g) by grind,ek];exact h
 have b:=Rat.le_of_mul_le_mul_left a De0;have c:=Rat.mul_nonneg (show 0<=k-5/1000 by grind) g0
 grind
theorem ZM {De C n P g q tol k:Rat} (De0:0<De) (ek:k*De=n*P) (h:n*P*(1+g)<=De*C) (eC:1073741824*C=q+tol) (g1:tol<=1073741824*(5/1000)*g) (g0:0<=g) (k5:5/1000<=k):1073741824*k<=q:=by
 have a:De*(k*(1+g))<=De*C:=by
  rw [show De*(k*(1+g))=k*De*(1+g) by grind,ek];exact h
 have b:=Rat.le_of_mul_le_mul_left a De0;have c:=Rat.mul_nonneg (show 0<=k-5/1000 by grind) g0
 grind
theorem ZW {De n P lo mh k:Rat} (De0:0<De) (P0:0<P) (ek:k*De=n*P) (h1:lo*mh<=n*1073741824) (h2:De<=mh*P) (l0:0<=lo):lo<=1073741824*k:=by
 have a1:=Rat.mul_nonneg l0 (show 0<=mh*P-De by grind)
 have a2:=Rat.mul_nonneg (show 0<=n*1073741824-lo*mh by grind) (Rat.le_of_lt P0)
 have a:De*lo<=De*(1073741824*k):=by grind
 exact Rat.le_of_mul_le_mul_left a De0
theorem ZL {De n P hi ml k:Rat} (De0:0<De) (P0:0<P) (ek:k*De=n*P) (h1:n*1073741824<=hi*ml) (h2:ml*P<=De) (l0:0<=hi):1073741824*k<=hi:=by
 have a1:=Rat.mul_nonneg l0 (show 0<=De-ml*P by grind)
 have a2:=Rat.mul_nonneg (show 0<=hi*ml-n*1073741824 by grind) (Rat.le_of_lt P0)
 have a:De*(1073741824*k)<=De*hi:=by grind
 exact Rat.le_of_mul_le_mul_left a De0
theorem Yz:mR<=1073741824*(5/1000)*gm:=Rat.le_trans jH.2 (by unfold gm;decide +kernel)
theorem Cj:(0:Rat)<(PiA:Rat):=by exact_mod_cast AU
theorem VT (q:Rat):∃ C:Rat,1073741824*C=q:=⟨q/1073741824,by rw [Rat.mul_comm];exact Rat.div_mul_cancel (by decide)⟩
theorem GM (a b:Int) (h0:-5340000<=a) (h:a<b) (hb:b<=5340000):∃ k:Rat,5/1000<=k/\(cqL a b:Rat)<=1073741824*k/\1073741824*k<=(cqH a b:Rat)/\k*(amN b-amN a)=((b:Rat)-a)*PiA/\(meP a b->(fK a b:Rat)<=1073741824*k/\1073741824*k<=(fF a b:Rat)):=by
 have P0:=Cj;have ca:5/1000<=zcI a:=(Alm.sc_bd a.natAbs (by omega)).1
 have cb:5/1000<=zcI b:=(Alm.sc_bd b.natAbs (by omega)).1
 have gn:=vI
 have n0:(0:Rat)<(b:Rat)-a:=by
  have:((a:Int):Rat)<((b:Int):Rat):=by exact_mod_cast h
  grind
 have g0:0<=gm:=by clear ca cb;grind
 have g1:gm<=1:=by clear ca cb;grind
 have nP:=Rat.mul_pos n0 P0;have L5:=KP a b h0 (Int.le_of_lt h) hb (5/1000) ca cb
 have De0:0<amN b-amN a:=by
  have u:=M7 a b h0 (Int.le_of_lt h) hb 1 (fun x x0 x1=>(Alm.sc_bd x.natAbs (by omega)).2.1)
  have w:=Rat.mul_nonneg (Rat.le_of_lt nP) g0;clear ca cb gn L5;grind
 obtain ⟨k,ek⟩:∃ k:Rat,k*(amN b-amN a)=((b:Rat)-a)*PiA:=⟨((b:Rat)-a)*PiA/(amN b-amN a),Rat.div_mul_cancel (by intro z;rw [z] at De0;exact absurd De0 (by decide))⟩
 have k5:5/1000<=k:=by
  have w:=Rat.mul_nonneg (Rat.le_of_lt nP) g0;have z:=L5.1;rw [<-ek] at z w;generalize amN b-amN a=De at *
  refine Rat.le_of_mul_le_mul_left (c:=De) ?_ De0;clear ca cb gn ek nP L5;grind
 have tr:=jH;refine ⟨k,k5,?_,?_,ek,?_⟩
 . obtain ⟨C,eC⟩:=VT ((cqL a b:Rat)-mR)
   have q1:∀ x:Int,a<=x->x<=b->C<=zcI x:=fun x x0 x1=>by
    have z:=(oh a b x h0 hb x0 x1).1;refine Rat.le_of_mul_le_mul_left (c:=1073741824) ?_ (by decide)
    rw [eC];have z':(cqL a b:Rat)<=1073741824*zcI x+mR:=z;clear z ca cb gn L5 ek nP;grind
   exact ZX De0 ek (KP a b h0 (Int.le_of_lt h) hb C (q1 a (Int.le_refl a) (Int.le_of_lt h)) (q1 b (Int.le_of_lt h) (Int.le_refl b))).1 eC Yz g0 k5
 . obtain ⟨C,eC⟩:=VT ((cqH a b:Rat)+mR)
   have q1:∀ x:Int,a<=x->x<=b->zcI x<=C:=fun x x0 x1=>by
    have z:=(oh a b x h0 hb x0 x1).2;refine Rat.le_of_mul_le_mul_left (c:=1073741824) ?_ (by decide)
    rw [eC];exact z
   exact ZM De0 ek (M7 a b h0 (Int.le_of_lt h) hb C q1) eC Yz g0 k5
 . intro mp;have A:=nZ a (b-a) h0 (by omega) (by omega)
   rw [show a+(b-a)=b by omega] at A
   have B1:=iH a (by omega);have B2:=iH b (by omega)
   have pa:=xY a (by omega)
   have pb:=xY b (by omega)
   have mf:=oq a b h0 hb mp;have l0:=mf.1;have lm:fK a b*(prH b-prL a)<=(b-a)*1073741824:=Int.ediv_mul_le _ (by omega)
   have hm:(b-a)*1073741824<=fF a b*(prL b-prH a):=by
    have k:=Int.ediv_mul_le (-(b-a)*1073741824) (show prL b-prH a≠0 by have:=mp.2;omega)
    unfold fF;rw [Int.neg_mul];have e:-(b-a)*1073741824=-((b-a)*1073741824):=Int.neg_mul _ _;omega
   have r1:((fK a b*(prH b-prL a):Int):Rat)<=(((b-a)*1073741824:Int):Rat):=aJ lm;have r2:(((b-a)*1073741824:Int):Rat)<=((fF a b*(prL b-prH a):Int):Rat):=aJ hm;have eR:((1073741824:Int):Rat)=1073741824:=rfl;rw [Rat.intCast_mul,Rat.intCast_mul,Rat.intCast_sub,Rat.intCast_sub,eR] at r1 r2;have l0':(0:Rat)<=(fK a b:Rat):=by exact_mod_cast l0
   have h0':(0:Rat)<=(fF a b:Rat):=by exact_mod_cast (show 0<=fF a b by omega)
   have d1:amN b-amN a<=((prH b:Rat)-prL a)*PiA:=by
    clear r1 r2 ca cb gn L5 ek nP lm hm mf;grind
   have d2:((prL b:Rat)-prH a)*PiA<=amN b-amN a:=by
    clear r1 r2 ca cb gn L5 ek nP lm hm mf;grind
   exact ⟨ZW De0 P0 ek r1 d1 l0',ZL De0 P0 ek r2 d2 h0'⟩
structure Rk (a b:Int) (k M:Rat):Prop where
 k4:4/1000<=k
 k1:k<=1
 q0:(cqL (min a b) (max a b):Rat)<=1073741824*k
 q1:1073741824*k<=(cqH (min a b) (max a b):Rat)
 m0:((meV (min a b) (max a b)).getD 0 0:Rat)<=1073741824*k
 m1:1073741824*k<=((meV (min a b) (max a b)).getD 1 0:Rat)
 kM:k*M=(b:Rat)-a
 p0:(prL b:Rat)-prH a<=M
 p1:M<=(prH b:Rat)-prL a
theorem Pi {k:Rat} {q:Int} (h:1073741824*k<=(q:Rat)) (hq:q<=1073741824):k<=1:=by
 have:(q:Rat)<=((1073741824:Int):Rat):=aJ hq;have e:((1073741824:Int):Rat)=1073741824:=rfl;rw [e] at this;grind
theorem En {a b:Int} {k:Rat} (q0:(cqL a b:Rat)<=1073741824*k) (q1:1073741824*k<=(cqH a b:Rat)) (hm:meP a b->(fK a b:Rat)<=1073741824*k/\1073741824*k<=(fF a b:Rat)):((meV a b).getD 0 0:Rat)<=1073741824*k/\1073741824*k<=((meV a b).getD 1 0:Rat):=by
 have k1:=Pi q1 (mZ a b).2.2;unfold meV;split
 . rename_i mp
   have m:=hm mp;show ((max (cqL a b) (fK a b):Int):Rat)<=_/\_<=((min (cqH a b) (min (fF a b) 1073741824):Int):Rat)
   constructor
   . rcases Int.le_total (cqL a b) (fK a b) with z|z
     . rw [Int.max_eq_right z];exact m.1
     . rw [Int.max_eq_left z];exact q0
   . have e:((1073741824:Int):Rat)=1073741824:=rfl;rcases Int.le_total (fF a b) 1073741824 with z|z
     . rw [Int.min_eq_left z];rcases Int.le_total (cqH a b) (fF a b) with y|y
       . rw [Int.min_eq_left y];exact q1
       . rw [Int.min_eq_right y];exact m.2
     . rw [Int.min_eq_right z,Int.min_eq_left (mZ a b).2.2];exact q1
 . exact ⟨q0,q1⟩
theorem Ve (a b:Int) (ha:-5340000<=a/\a<=5340000) (hb:-5340000<=b/\b<=5340000):∃ k M:Rat,Rk a b k M:=by
 have P0:=Cj;have pa:=xY a ha;have pb:=xY b hb;have byP:∀ z:Rat,∃ M:Rat,M*PiA=z:=fun z=>⟨z/PiA,Rat.div_mul_cancel (by intro y;rw [y] at P0;exact absurd P0 (by decide))⟩
 have cut:∀ {x y:Rat},x*(PiA:Rat)<=y*PiA->x<=y:=fun {x y} z=>by
  refine Rat.le_of_mul_le_mul_left (c:=(PiA:Rat)) ?_ P0;rw [Rat.mul_comm _ x,Rat.mul_comm _ y];exact z
 rcases Int.lt_trichotomy a b with h|h|h
 . obtain ⟨k,k5,q0,q1,ek,hm⟩:=GM a b ha.1 h hb.2;obtain ⟨M,eM⟩:=byP (amN b-amN a);have v:=En q0 q1 hm;refine ⟨k,M,?_⟩;have e1:min a b=a:=by omega
   have e2:max a b=b:=by omega
   refine ⟨by clear pa pb v q0 q1 ek eM;grind,Pi q1 (mZ a b).2.2,by rw [e1,e2];exact q0,by rw [e1,e2];exact q1,by rw [e1,e2];exact v.1,by rw [e1,e2];exact v.2,?_,cut ?_,cut ?_⟩
   . have:(k*M)*PiA=((b:Rat)-a)*PiA:=by rw [<-ek,<-eM,Rat.mul_assoc]
     exact Rat.le_antisymm (cut (by rw [this];exact Rat.le_refl)) (cut (by rw [this];exact Rat.le_refl))
   . rw [eM];clear v q0 q1 ek hm byP cut;grind
   . rw [eM];clear v q0 q1 ek hm byP cut;grind
 . subst h;have cl:=DY a a ha.1 (Int.le_refl a) ha.2;have cb:=mZ a a;obtain ⟨k,ek⟩:=VT (cqL a a:Rat);have e1:min a a=a:=by omega
   have e2:max a a=a:=by omega
   have q0:(cqL a a:Rat)<=1073741824*k:=by rw [ek];exact Rat.le_refl
   have q1:1073741824*k<=(cqH a a:Rat):=by rw [ek];exact aJ cb.2.1
   have v:=En q0 q1 (fun m=>absurd m.1 (by omega))
   have b1:=iH a ha;have z1:(prL a:Rat)<=(prH a:Rat):=aJ b1.2.1;refine ⟨k,0,?_⟩;refine ⟨?_,Pi q1 (mZ a a).2.2,by rw [e1,e2];exact q0,by rw [e1,e2];exact q1,by rw [e1,e2];exact v.1,by rw [e1,e2];exact v.2,?_,?_,?_⟩
   . have c:((5368000:Int):Rat)<=(cqL a a:Rat):=aJ cl;have e:((5368000:Int):Rat)=5368000:=rfl;rw [e] at c;clear v q0 q1 pa pb z1;grind
   . grind
   . grind
   . grind
 . obtain ⟨k,k5,q0,q1,ek,hm⟩:=GM b a hb.1 h ha.2;obtain ⟨M,eM⟩:=byP (amN b-amN a);have v:=En q0 q1 hm;refine ⟨k,M,?_⟩;have e1:min a b=b:=by omega
   have e2:max a b=a:=by omega
   refine ⟨by clear pa pb v q0 q1 ek eM;grind,Pi q1 (mZ b a).2.2,by rw [e1,e2];exact q0,by rw [e1,e2];exact q1,by rw [e1,e2];exact v.1,by rw [e1,e2];exact v.2,?_,cut ?_,cut ?_⟩
   . have:(k*M)*PiA=((b:Rat)-a)*PiA:=by
      rw [Rat.mul_assoc,eM];clear pa pb v q0 q1 hm eM byP cut;grind
     exact Rat.le_antisymm (cut (by rw [this];exact Rat.le_refl)) (cut (by rw [this];exact Rat.le_refl))
   . rw [eM];clear v q0 q1 ek hm byP cut;grind
   . rw [eM];clear v q0 q1 ek hm byP cut;grind
end Go.Proofs.YtbcnifkfaknnaaaGreat
namespace Go.Proofs.YtbcnifkfaknnaaaGreat
open Alm Sx
theorem MK (L H:Int) (h:L<=H):∃ k:Int,(k=L∨k=H∨k%21600000=0)/\(L<=k/\k<=H)/\(dH (L+5400000) (H+5400000):Rat)<=1073741824*cg k+2:=by
 have e:=dm;have ev:1073741824*(2*ee)<=1/1000:=by unfold ee;decide +kernel
 have u:=CK
 have one:∀ k:Int,(bHi (k+5400000):Rat)<=1073741824*cg k+2:=by
  intro k;have c:=(KX k k k (.inl rfl)).1;rw [(BV (k+5400000)).1] at c;have b:=(jA (k+5400000)).2.2.2;have b':(bHi (k+5400000):Rat)<=((bLo (k+5400000)+1:Int):Rat):=aJ b;rw [Rat.intCast_add] at b'
  have o:((1:Int):Rat)=1:=rfl;rw [o] at b'
  have x:(bLo (k+5400000):Rat)*u30*1073741824=(bLo (k+5400000):Rat):=by
   rw [Rat.mul_assoc,Rat.mul_comm u30,u,Rat.mul_one]
  generalize (bLo (k+5400000):Rat)=A at *
  generalize (bHi (k+5400000):Rat)=B at *
  generalize cg k=C at *
  clear u;grind
 unfold dH;cases m:bK (L+5400000) (H+5400000) 5400000
 . simp only [Bool.false_eq_true,if_false];rcases Int.le_total (bHi (L+5400000)) (bHi (H+5400000)) with z|z
   . exact ⟨H,.inr (.inl rfl),⟨h,Int.le_refl H⟩,by rw [Int.max_eq_right z];exact one H⟩
   . exact ⟨L,.inl rfl,⟨Int.le_refl L,h⟩,by rw [Int.max_eq_left z];exact one L⟩
 . simp only [if_true];unfold bK aj at m;have m':=of_decide_eq_true m;refine ⟨L+(5400000-(L+5400000))%21600000,.inr (.inr (by omega)),⟨by omega,by omega⟩,?_⟩
   have g:=(kT (m:=L+(5400000-(L+5400000))%21600000) (n:=0) (by omega)).2
   rw [g];have z:=one 0
   have b:(bHi (0+5400000):Rat)=((1073741824:Int):Rat):=by
    have:bHi (0+5400000)=1073741824:=by decide +kernel
    rw [this]
   rw [b] at z;exact z
theorem Q6 {c s c' s' X Y e M:Rat} (h1:Nr s' (c*s1+s*c1) e) (h2:Nr c' (c*c1-s*s1) e) (hX:-M<=X/\X<=M) (hY:-M<=Y/\Y<=M) (he:0<=e):Nr (c'*Y-s'*X) (c1*(c*Y-s*X)-s1*(c*X+s*Y)) (2*(e*M))/\Nr (c'*X+s'*Y) (c1*(c*X+s*Y)+s1*(c*Y-s*X)) (2*(e*M)):=by
 unfold Nr at *
 have key:∀ p q E A:Rat,-E<=p->p<=E->-A<=q->q<=A->0<=E->-(E*A)<=p*q/\p*q<=E*A:=by
  intro p q E A p0 p1 q0 q1 E0;have a:=Rat.mul_nonneg (show 0<=E-p by grind) (show 0<=A+q by grind)
  have b:=Rat.mul_nonneg (show 0<=E+p by grind) (show 0<=A-q by grind)
  have c:=Rat.mul_nonneg (show 0<=E-p by grind) (show 0<=A-q by grind)
  have d:=Rat.mul_nonneg (show 0<=E+p by grind) (show 0<=A+q by grind)
  constructor<;>grind
 have k1:=key (c'-(c*c1-s*s1)) Y e M (by grind) (by grind) hY.1 hY.2 he
 have k2:=key (s'-(c*s1+s*c1)) X e M (by grind) (by grind) hX.1 hX.2 he
 have k3:=key (c'-(c*c1-s*s1)) X e M (by grind) (by grind) hX.1 hX.2 he
 have k4:=key (s'-(c*s1+s*c1)) Y e M (by grind) (by grind) hY.1 hY.2 he
 constructor<;>constructor<;>grind
theorem ja {x b:Rat} (h:x*x<=b*b) (hb:0<=b):x<=b:=by
 refine Rat.not_lt.1 fun k=>?_
 have a:=Rat.mul_pos (show 0<x-b by grind) (show 0<x+b by grind)
 grind
theorem Li {c s X Y:Rat} (u:c*c+s*s=1):(c*X+s*Y)*(c*X+s*Y)+(c*Y-s*X)*(c*Y-s*X)=X*X+Y*Y:=by
 have:(c*X+s*Y)*(c*X+s*Y)+(c*Y-s*X)*(c*Y-s*X)=(c*c+s*s)*(X*X+Y*Y):=by grind
 rw [this,u];grind
theorem Nc {a d S C a' d' t:Rat} (hS:0<S/\S<=3/10000000) (hC:99/100<=C/\C<=1) (hC2:1-C<=1/1000000) (ht:0<=t/\t<=1/1000) (a0:-t<=a) (d0:0<=d) (d1:d<=979200000) (hd:1/2<=d) (n1:Nr a' (C*a-S*d) t) (n2:Nr d' (C*d+S*a) t) (a1:a'<=t):(-300<=a/\a<=300)/\(-300<=a'/\a'<=300)/\0<=d':=by
 unfold Nr at *
 have p1:=Rat.mul_nonneg (Rat.le_of_lt hS.1) (show 0<=979200000-d by grind)
 have p2:=Rat.mul_nonneg (show 0<=C by grind) (show 0<=a+t by grind)
 have p3:=Rat.mul_nonneg (show 0<=1-C by grind) (show 0<=t by grind)
 have p4:=Rat.mul_nonneg (show 0<=3/10000000-S by grind) (show (0:Rat)<=979200000 by decide)
 have p5:99/100*a<=294:=by
  by_cases an:0<=a
  . have:=Rat.mul_nonneg (show 0<=C-99/100 by grind) an
    grind
  . grind
 have p6:a<=299:=by grind
 have q1:=Rat.mul_nonneg (show 0<=C-99/100 by grind) d0
 have q2:=Rat.mul_nonneg (Rat.le_of_lt hS.1) (show 0<=a+t by grind)
 have q3:=Rat.mul_nonneg (show 0<=3/10000000-S by grind) ht.1
 refine ⟨⟨by grind,by grind⟩,⟨by grind,by grind⟩,by grind⟩
theorem RQ {X:Int} (h:-979200000<=X/\X<=979200000):(-979200000:Rat)<=X/\(X:Rat)<=979200000:=by
 have a:=aJ h.1;have b:=aJ h.2;rw [show ((-979200000:Int):Rat)=-979200000 from rfl] at a
 rw [show ((979200000:Int):Rat)=979200000 from rfl] at b
 exact ⟨a,b⟩
theorem edge (X Y k:Int) (h:¬ (X=0/\Y=0)) (hx:-979200000<=X/\X<=979200000) (hy:-979200000<=Y/\Y<=979200000) (hB:(X:Rat)*X+Y*Y<=979200000*979200000) (hk:(k-aG X Y)%21600000=0∨(k-aG X Y)%21600000=1) :
 (-300<=cg k*Y-sg k*X/\cg k*Y-sg k*X<=300)/\0<=cg k*X+sg k*Y:=by
 have i1:bU X:=by unfold bU;omega
 have i2:bU Y:=by unfold bU;omega
 have F:=mq X Y h i1 i2;have bq:=Alm.q_bd X Y 2147483648 h i1 i2;have M:=yu X Y h bq.1 bq.2.2.1;have R:=AC (aG X Y);have c1b:=zV;have c1d:=lL;have s1b:=uj;have ep:=dm;have hX:(-979200000:Rat)<=X/\(X:Rat)<=979200000:=RQ hx;have hY:(-979200000:Rat)<=Y/\(Y:Rat)<=979200000:=RQ hy
 have mm:MM X Y<=4294967296:=by
  unfold MM;have a:(qX X Y:Rat)<=((2147483648:Int):Rat):=aJ bq.2.1;have b:(qY X Y:Rat)<=((2147483648:Int):Rat):=aJ bq.2.2.2;have e:((2147483648:Int):Rat)=2147483648:=rfl;rw [e] at a b;grind
 have e1:8*ee*4294967296<=1/1000:=by unfold ee;decide +kernel
 have e2:2*(150*ee*979200000)<=1/1000:=by unfold ee;decide +kernel
 have e3:8*ee*MM X Y<=1/1000:=by
  have:=Rat.mul_nonneg (show 0<=8*ee by grind) (show 0<=4294967296-MM X Y by grind)
  grind
 have ro:=Q6 R.1 R.2 hX hY (show 0<=150*ee by grind)
 have dq:=Li (c:=cg (aG X Y)) (s:=sg (aG X Y)) (X:=(X:Rat)) (Y:=(Y:Rat)) (by have:=jw (aG X Y);grind)
 have d1:cg (aG X Y)*X+sg (aG X Y)*Y<=979200000:=by
  refine ja ?_ (by decide)
  have sqn:0<=(cg (aG X Y)*Y-sg (aG X Y)*X)*(cg (aG X Y)*Y-sg (aG X Y)*X):=by
   generalize cg (aG X Y)*Y-sg (aG X Y)*X=z
   by_cases zz:0<=z
   . exact Rat.mul_nonneg zz zz
   . have:=Rat.mul_nonneg (show 0<=-z by grind) (show 0<=-z by grind)
     grind
  clear F ro M R bq;grind
 have A:=Nc (a:=cg (aG X Y)*Y-sg (aG X Y)*X) (d:=cg (aG X Y)*X+sg (aG X Y)*Y) (S:=s1) (C:=c1) (a':=cg (aG X Y+1)*Y-sg (aG X Y+1)*X) (d':=cg (aG X Y+1)*X+sg (aG X Y+1)*Y) (t:=1/1000) s1b c1b (by clear F ro M R bq dq;grind) (by constructor<;>decide +kernel) (by have:=F.1;clear ro R bq dq;grind) (by have:=F.2.2.2;clear ro R bq dq;grind) d1 (by have:=F.2.2.2;clear ro R bq dq;grind) (by have:=ro.1;unfold Nr at *;clear F ro M R bq dq;grind) (by have:=ro.2;unfold Nr at *;clear F ro M R bq dq;grind) (by have:=F.2.1;clear ro R bq dq;grind)
 rcases hk with z|z
 . have g:=kT (m:=k) (n:=aG X Y) (by omega)
   rw [g.1,g.2];exact ⟨A.1,by have:=F.2.2.2;clear ro R bq dq;grind⟩
 . have g:=kT (m:=k) (n:=aG X Y+1) (by omega)
   rw [g.1,g.2];exact A.2
theorem JC (l u n k:Int) (hl:-10800000<=l) (lu:l<=u) (hu:u<=10800000) (hn:-10800000<=n/\n<=10800000) (hc:¬ (0<=n/\l<=0/\0<=u))
 (hk:k=aT (64*l) (64*u) (64*n) (64*n)∨k=bi (64*l) (64*u) (64*n) (64*n)∨k%21600000=0) (hr:aT (64*l) (64*u) (64*n) (64*n)<=k/\k<=bi (64*l) (64*u) (64*n) (64*n)) :
 ∃ y:Int,(y=l∨y=u)/\¬ (n=0/\y=0)/\((k-aG (64*n) (64*y))%21600000=0∨(k-aG (64*n) (64*y))%21600000=1):=by
 have eo:dX (64*l) (64*u) (64*n) (64*n)=false:=by
  unfold dX;exact decide_eq_false (by omega)
 obtain ⟨f1,f2,g1,g2,fi,li,nf,nl,c1,c2,cfl,eL,eH⟩:=wC (yl:=64*l) (yh:=64*u) (xl:=64*n) (xh:=64*n) (by omega) (by omega) eo
 clear c1 c2;have ef1:f1=64*n:=by omega
 have eg1:g1=64*n:=by omega
 subst ef1 eg1
 obtain ⟨yf,yf1,rfl⟩:∃ y,(y=l∨y=u)/\f2=64*y:=by
  rcases fi.2 with z|z
  . exact ⟨l,.inl rfl,z⟩
  . exact ⟨u,.inr rfl,z⟩
 obtain ⟨yl,yl1,rfl⟩:∃ y,(y=l∨y=u)/\g2=64*y:=by
  rcases li.2 with z|z
  . exact ⟨l,.inl rfl,z⟩
  . exact ⟨u,.inr rfl,z⟩
 rw [eL] at hk hr;rw [eH] at hk hr;have gb:=Mj nf nl cfl (by unfold bU;omega) (by unfold bU;omega) (by unfold bU;omega) (by unfold bU;omega)
 have sf:=rz _ _ nf (by unfold bU;omega) (by unfold bU;omega)
 have sl:=rz _ _ nl (by unfold bU;omega) (by unfold bU;omega)
 have gp1:=gb.2.1;clear gb eL eH cfl eo fi li;unfold gp at *
 generalize hA:aG (64*n) (64*yf)=A at *
 generalize hB:aG (64*n) (64*yl)=B at *
 by_cases k1:k=A
 . exact ⟨yf,yf1,by omega,.inl (by rw [hA];omega)⟩
 . by_cases k2:k=A+(B-A)%21600000+(if fG (64*n) (64*yl)=true then 0 else 1)
   . refine ⟨yl,yl1,by omega,?_⟩
     rw [hB];clear sf sl hc hk hr;split at k2<;>omega
   . exfalso
     have k3:k%21600000=0:=by
      rcases hk with z|z|z
      . exact absurd z k1
      . exact absurd z k2
      . exact z
     have e1:(if fG (64*n) (64*yl)=true then (0:Int) else 1)<=1:=by split<;>omega
     generalize (if fG (64*n) (64*yl)=true then (0:Int) else 1)=e at *
     have:k=21600000/\B=A+(B-A)%21600000-21600000:=by clear hc yf1 yl1 nf nl;omega
     rcases Int.lt_trichotomy n 0 with z|z|z
     . have a:=sf.2.2.1 (by omega);have b:=sl.2.2.1 (by omega);omega
     . rcases Int.lt_or_le 0 l with y|y
       . have a:=sf.2.2.2.1 (by omega);have b:=sl.2.2.2.1 (by omega);omega
       . have a:=sf.2.2.2.2 (by omega);have b:=sl.2.2.2.2 (by omega);omega
     . have a0:=sf.2.1 (by omega);have b0:=sl.2.1 (by omega)
       rcases Int.lt_or_le 0 l with y|y
       . have a:=sf.2.2.2.1 (by omega);have b:=sl.2.2.2.1 (by omega);omega
       . have a:=sf.2.2.2.2 (by omega);have b:=sl.2.2.2.2 (by omega);omega
theorem isq (x:Int):0<=x*x:=by
 rcases Int.le_total 0 x with h|h
 . exact Int.mul_nonneg h h
 . have:=Int.mul_nonneg (show 0<=-x by omega) (show 0<=-x by omega)
   rw [Int.neg_mul_neg] at this;exact this
theorem nR {x y:Int} (h:x*x<=y*y) (hy:0<=y):x<=y:=by
 rcases Int.lt_or_le y x with k|k
 . have a:=Int.mul_le_mul (show y+1<=x from k) (show y+1<=x from k) (by omega) (by omega)
   rw [Int.mul_add,Int.add_mul] at a;omega
 . exact k
theorem OE {t W v m n:Int} (ht:0<=t) (hW:0<=W) (hv:0<=v) (hm:0<=m) (mv:m<=v+W) (h:(t+1+W)*(t+1+W)<=n*n+m*m):t*t<=n*n+v*v:=by
 rcases Int.lt_or_le (n*n+v*v) (t*t) with k|k
 . exfalso;have nn:=isq n;have vt:v<=t:=nR (by omega) ht
   have a:=Int.mul_le_mul mv mv hm (by omega)
   have b:=Int.mul_le_mul_of_nonneg_right vt hW;have e1:(v+W)*(v+W)=v*v+2*(v*W)+W*W:=by grind
   have e2:(t+1+W)*(t+1+W)=t*t+2*(t*W)+W*W+2*t+2*W+1:=by grind
   rw [e1] at a;rw [e2] at h;omega
 . exact k
theorem Nt (N:Int) (h0:0<=N) (h:N<=9000000000000000):0<=rtC N/\N<=rtC N*rtC N/\(rtC N=0∨(rtC N-1)*(rtC N-1)<=N):=by
 obtain ⟨m,rfl⟩:=Int.eq_ofNat_of_zero_le h0;have b:=Kh m (by omega)
 unfold rtC;rw [Int.toNat_natCast];generalize rtB 32 m 0=r at *
 split
 . rename_i z
   refine ⟨by omega,by rw [<-z];exact Int.le_of_eq (by push_cast;rfl),?_⟩
   rcases Nat.eq_zero_or_pos r with y|y
   . left;omega
   . right
     have e:((r:Int)-1)*((r:Int)-1)=(r:Int)*r-2*r+1:=by grind
     rw [e];have:((r*r:Nat):Int)=(m:Int):=by rw [z]
     rw [Int.natCast_mul] at this;omega
 . refine ⟨by omega,?_,.inr ?_⟩
   . have:((m:Nat):Int)<(((r+1)*(r+1):Nat):Int):=by exact_mod_cast b.2.1
     rw [Int.natCast_mul,Int.natCast_add] at this;exact Int.le_of_lt this
   . rw [show ((r:Int)+1-1)=r by omega]
     have:((r*r:Nat):Int)<=((m:Nat):Int):=by exact_mod_cast b.1
     rw [Int.natCast_mul] at this;exact this
theorem U7 (N:Int) (h0:0<=N) (h:N<=9000000000000000):0<=rtF N/\rtF N*rtF N<=N:=by
 obtain ⟨m,rfl⟩:=Int.eq_ofNat_of_zero_le h0;have b:=Kh m (by omega)
 unfold rtF;rw [Int.toNat_natCast];generalize rtB 32 m 0=r at *
 refine ⟨by omega,?_⟩
 have:((r*r:Nat):Int)<=((m:Nat):Int):=by exact_mod_cast b.1
 rw [Int.natCast_mul] at this;exact this
theorem QV {c n y dot cr S r N e:Rat} (c0:0<=c) (hS:c*S=n*dot+y*cr) (r0:0<r) (r1:r*r<=S) (r2:S<=(1+e)*(r*r)) (e0:0<=e) (e1:e<=1/1000000000) (hd:0<=dot) (hd2:dot*dot<=S) (hy:y*y<=S) (hcr:-(47/10)<=cr/\cr<=47/10) (hN:n<=N) (N0:0<=N) (N1:N<=11000000):c*r<=N+48/10:=by
 have up:∀ z:Rat,z*z<=S->z<=(1+e)*r:=by
  intro z hz;refine ja ?_ (Rat.mul_nonneg (by grind) (Rat.le_of_lt r0))
  have a:=Rat.mul_nonneg e0 (Rat.mul_nonneg (show 0<=1+e by grind) (Rat.le_of_lt (Rat.mul_pos r0 r0)))
  have e2:(1+e)*r*((1+e)*r)=(1+e)*(r*r)+e*((1+e)*(r*r)):=by grind
  rw [e2];grind
 have d1:=up dot hd2;have y1:=up y hy;have y2:=up (-y) (by rw [show -y*-y=y*y by grind];exact hy)
 have k1:n*dot<=N*((1+e)*r):=by
  have a:=Rat.mul_nonneg (show 0<=N-n by grind) hd
  have b:=Rat.mul_nonneg N0 (show 0<=(1+e)*r-dot by grind)
  grind
 have k2:y*cr<=47/10*((1+e)*r):=by
  generalize (1+e)*r=z at *
  have a:=Rat.mul_nonneg (show 0<=z-y by grind) (show 0<=47/10+cr by grind)
  have b:=Rat.mul_nonneg (show 0<=z+y by grind) (show 0<=47/10-cr by grind)
  grind
 have k3:c*(r*r)<=c*S:=by
  have:=Rat.mul_nonneg c0 (show 0<=S-r*r by grind)
  grind
 have k4:r*(c*r)<=r*((1+e)*(N+47/10)):=by grind
 have k5:=Rat.le_of_mul_le_mul_left k4 r0;have k6:=Rat.mul_nonneg (show 0<=1/1000000000-e by grind) (show 0<=N+47/10 by grind)
 grind
theorem Z0 {c t r S N e:Rat} (c0:0<=c) (c1:c<=1) (h:c*r<=N+48/10) (r0:0<r) (r2:S<=(1+e)*(r*r)) (e0:0<=e) (e1:e<=1/1000000000) (ht:t*t<=S) (N0:0<=N) (N1:N<=11000000):c*t<=N+49/10:=by
 have up:t<=(1+e)*r:=by
  refine ja ?_ (Rat.mul_nonneg (by grind) (Rat.le_of_lt r0))
  have a:=Rat.mul_nonneg e0 (Rat.mul_nonneg (show 0<=1+e by grind) (Rat.le_of_lt (Rat.mul_pos r0 r0)))
  have e2:(1+e)*r*((1+e)*r)=(1+e)*(r*r)+e*((1+e)*(r*r)):=by grind
  rw [e2];grind
 have a:=Rat.mul_nonneg c0 (show 0<=(1+e)*r-t by grind)
 have b:=Rat.mul_nonneg (show 0<=1+e by grind) (show 0<=N+48/10-c*r by grind)
 have k6:=Rat.mul_nonneg (show 0<=1/1000000000-e by grind) (show 0<=N+48/10 by grind)
 grind
end Go.Proofs.YtbcnifkfaknnaaaGreat
namespace Go.Proofs.YtbcnifkfaknnaaaGreat
open Alm Sx
theorem Ki (k:Int):cg k-cg (k+1)<=1/1000000/\cg (k+1)-cg k<=1/1000000:=by
 have r:=(AC k).2;have o:=g1 k;have c:=zV;have c2:=lL;have s:=uj;have e:150*ee<=1/10000000:=by unfold ee;decide +kernel
 unfold Nr O1 at *
 obtain ⟨⟨o1,o2⟩,o3,o4⟩:=o;have a:=Rat.mul_nonneg (show 0<=1-c1 by grind) (show 0<=1-cg k by grind)
 have b:=Rat.mul_nonneg (show 0<=1-c1 by grind) (show 0<=1+cg k by grind)
 have d:=Rat.mul_nonneg (Rat.le_of_lt s.1) (show 0<=1-sg k by grind)
 have f:=Rat.mul_nonneg (Rat.le_of_lt s.1) (show 0<=1+sg k by grind)
 constructor<;>grind
theorem Qv (a b:Int) (h0:-5340000<=a) (h:a<=b) (h1:b<=a+1) (hb:b<=5340000):cqH a b<=cqL a b+5000:=by
 obtain ⟨k,_,kr,kc⟩:=MK a b h
 have lo:∃ m:Int,(a<=m/\m<=b)/\1073741824*cg m<=(cqL a b:Rat)+2:=by
  have one:∀ m:Int,1073741824*cg m<=(bLo (m+5400000):Rat)+2:=by
   intro m;have c:=(KX m m m (.inl rfl)).2;rw [(BV (m+5400000)).2] at c;have b:=(jA (m+5400000)).2.2.2;have b':(bHi (m+5400000):Rat)<=((bLo (m+5400000)+1:Int):Rat):=aJ b;rw [Rat.intCast_add] at b'
   have o:((1:Int):Rat)=1:=rfl;rw [o] at b'
   have ev:1073741824*(2*ee)<=1/1000:=by unfold ee;decide +kernel
   have x:(bHi (m+5400000):Rat)*u30*1073741824=(bHi (m+5400000):Rat):=by
    rw [Rat.mul_assoc,Rat.mul_comm u30,CK,Rat.mul_one]
   generalize (bLo (m+5400000):Rat)=A at *
   generalize (bHi (m+5400000):Rat)=B at *
   generalize cg m=C at *
   clear kc;grind
  unfold cqL dF;cases m:bK (a+5400000) (b+5400000) 16200000
  . simp only [Bool.false_eq_true,if_false];rcases Int.le_total (bLo (a+5400000)) (bLo (b+5400000)) with z|z
    . exact ⟨a,by omega,by rw [Int.min_eq_left z];exact one a⟩
    . exact ⟨b,by omega,by rw [Int.min_eq_right z];exact one b⟩
  . exfalso;unfold bK aj at m;have:=of_decide_eq_true m;omega
 obtain ⟨m,mr,mc⟩:=lo
 have st:cg k<=cg m+1/1000000:=by
  by_cases e:k=m
  . rw [e];grind
  . have s:=Ki a;have hk:k=a/\m=a+1∨k=a+1/\m=a:=by omega
    rcases hk with ⟨rfl,rfl⟩|⟨rfl,rfl⟩<;>grind
 have kc':(cqH a b:Rat)<=1073741824*cg k+2:=kc
 have fin:(cqH a b:Rat)<=((cqL a b+5000:Int):Rat):=by
  rw [Rat.intCast_add,show ((5000:Int):Rat)=5000 from rfl]
  clear kc;grind
 exact Rat.intCast_le_intCast.1 fin
theorem TN {n Ml Mh u v:Int} (n0:0<=n) (l1:1<=Ml) (lh:Mh<=Ml+2) (lh0:Ml<=Mh) (nl:n<=Ml+1) (v0:0<=v) (vu:v<=u) (hu:u*Ml<=n*1073741824+Ml-1) (hv:n*1073741824<=v*Mh+Mh-1):u<=3*v+2/\n*(u-v)<=2*n+4*v:=by
 have a:=Int.mul_le_mul_of_nonneg_left lh v0;rw [Int.mul_add] at a
 have k:(u-v)*Ml<=2*Ml+2*v:=by
  rw [Int.sub_mul];omega
 have k1:u-v<=2+2*v:=by
  rcases Int.lt_or_le (2+2*v) (u-v) with z|z
  . exfalso;have b:=Int.mul_le_mul_of_nonneg_right (show 3+2*v<=u-v by omega) (show 0<=Ml by omega)
    rw [Int.add_mul] at b;have c:=Int.mul_le_mul_of_nonneg_left l1 (show 0<=2*v by omega)
    omega
  . exact z
 refine ⟨by omega,?_⟩
 rcases Int.le_total (u-v) 2 with z|z
 . have b:=Int.mul_le_mul_of_nonneg_left z n0;omega
 . have b:=Int.mul_le_mul_of_nonneg_right (show n<=2*Ml by omega) (show 0<=u-v-2 by omega)
   have e1:n*(u-v-2)=n*(u-v)-2*n:=by grind
   have e2:2*Ml*(u-v-2)=2*((u-v)*Ml)-4*Ml:=by grind
   rw [e1,e2] at b;omega
theorem OY (a b:Int) (h0:-5340000<=a) (h:a<=b) (hb:b<=5340000):(meV a b).getD 1 0<=4*(meV a b).getD 0 0/\(b-a)*((meV a b).getD 1 0-(meV a b).getD 0 0)<=9*(meV a b).getD 0 0/\5368000<=(meV a b).getD 0 0:=by
 have cl:=DY a b h0 h hb;have A:=nZ a (b-a) h0 (by omega) (by omega)
 rw [show a+(b-a)=b by omega] at A
 have B1:=iH a (by omega);have B2:=iH b (by omega)
 unfold meV;split
 . rename_i mp
   have mf:=oq a b h0 hb mp;have ml:0<prL b-prH a:=mp.2
   have lm:(b-a)*1073741824<=fK a b*(prH b-prL a)+(prH b-prL a)-1:=by
    have k:=Int.lt_ediv_add_one_mul_self ((b-a)*1073741824) (show 0<prH b-prL a by omega)
    have k':(b-a)*1073741824<(fK a b+1)*(prH b-prL a):=k;rw [Int.add_mul] at k'
    omega
   have hm:fF a b*(prL b-prH a)<=(b-a)*1073741824+(prL b-prH a)-1:=by
    have k:=Int.lt_ediv_add_one_mul_self (-(b-a)*1073741824) (show 0<prL b-prH a from mp.2)
    have e:-(b-a)*1073741824=-((b-a)*1073741824):=Int.neg_mul _ _;unfold fF;rw [Int.neg_mul];rw [Int.add_mul] at k;omega
   have w:=TN (n:=b-a) (Ml:=prL b-prH a) (Mh:=prH b-prL a) (u:=fF a b) (v:=fK a b) (by omega) (by have ml:0<prL b-prH a:=mp.2;omega) (by omega) (by omega) (by omega) mf.1 mf.2.2.1 hm lm
   show min (cqH a b) (min (fF a b) 1073741824)<=4*max (cqL a b) (fK a b)/\(b-a)*(min (cqH a b) (min (fF a b) 1073741824)-max (cqL a b) (fK a b))<=9*max (cqL a b) (fK a b)/\5368000<=max (cqL a b) (fK a b);refine ⟨by omega,?_,by omega⟩
   have k:=Int.mul_le_mul_of_nonneg_left (show min (cqH a b) (min (fF a b) 1073741824)-max (cqL a b) (fK a b)<=fF a b-fK a b by omega) (show 0<=b-a by omega)
   omega
 . rename_i mp
   have n1:b<=a+1:=by
    unfold meP at mp;omega
   have s:=Qv a b h0 h n1 hb;show cqH a b<=4*cqL a b/\(b-a)*(cqH a b-cqL a b)<=9*cqL a b/\5368000<=cqL a b;refine ⟨by omega,?_,cl⟩
   have k:=Int.mul_le_mul_of_nonneg_right (show b-a<=1 by omega) (show 0<=cqH a b-cqL a b by have:=mZ a b;omega)
   omega
theorem VD {N R p q l u:Int} (N0:0<=N) (R0:0<R) (hl:R*l<=p) (hl2:p<=R*l+R-1) (hu:R*u<=q+R-1) (q4:q<=4*p) (nq:N*(q-p)<=9*p):u-l<=3*l+5/\N*(u-l)<=9*(l+1)+2*N:=by
 constructor
 . have:R*(u-l)<=R*(3*l+5):=by
    rw [Int.mul_sub,Int.mul_add,<-Int.mul_assoc,Int.mul_comm R 3,Int.mul_assoc];omega
   exact Int.le_of_mul_le_mul_left this R0
 . have a:=Int.mul_le_mul_of_nonneg_left (show R*(u-l)<=(q-p)+2*R by rw [Int.mul_sub];omega) N0
   have:R*(N*(u-l))<=R*(9*(l+1)+2*N):=by
    have e1:N*(R*(u-l))=R*(N*(u-l)):=by grind
    have e2:N*((q-p)+2*R)=N*(q-p)+2*(N*R):=by grind
    have e3:R*(9*(l+1)+2*N)=9*(R*l)+9*R+2*(N*R):=by grind
    rw [e1,e2] at a;rw [e3];omega
   exact Int.le_of_mul_le_mul_left this R0
def Wd (l u N:Int):Prop:=u-l<=3*aX l u+5/\N*(u-l)<=9*(aX l u+1)+2*N
theorem RN (l h D N:Int) (l0:0<=l) (lh:l<=h) (h4:h<=4*l) (N0:0<=N) (nq:N*(h-l)<=9*l) (D0:0<=D):Wd (gH l h D) (gU l h D) N:=by
 have q4:=Int.mul_le_mul_of_nonneg_right h4 D0;have q1:=Int.mul_le_mul_of_nonneg_right lh D0;have q0:=Int.mul_nonneg l0 D0;have n2:=Int.mul_le_mul_of_nonneg_right nq D0;have e1:N*(h-l)*D=N*(h*D-l*D):=by grind
 rw [e1,Int.mul_assoc] at n2;rw [Int.mul_assoc] at q4
 have key:gH l h D=l*D/1073741824/\gU l h D=-(-(h*D)/1073741824):=by
  unfold gH gU qFl qCe;omega
 have k:=VD (N:=N) (R:=1073741824) (p:=l*D) (q:=h*D) (l:=gH l h D) (u:=gU l h D) N0 (by decide) (by omega) (by omega) (by omega) q4 n2
 have lv:aX (gH l h D) (gU l h D)=gH l h D:=by
  unfold aX;split<;>omega
 unfold Wd;rw [lv];exact k
theorem RH (l u N:Int):Wd (-u) (-l) N↔Wd l u N:=by
 unfold Wd;have e:aX (-u) (-l)=aX l u:=by unfold aX;split<;>split<;>omega
 rw [e,show -l - -u=u-l by omega]
theorem Me (l h n:Int):gH l h (-n)=-gU l h n/\gU l h (-n)=-gH l h n:=by
 have f:∀ x:Int,qFl x (-n) 1073741824=-qCe x n 1073741824/\qCe x (-n) 1073741824=-qFl x n 1073741824:=by
  intro x;unfold qFl qCe;rw [Int.mul_neg];generalize x*n=z
  constructor<;>omega
 have a:=f l;have b:=f h;unfold gH gU;rw [a.1,a.2,b.1,b.2];omega
theorem Qr (a0 a1 b0 b1:Int) (h0:-5340000<=a0/\a0<=5340000) (h2:-5340000<=b0/\b0<=5340000):Wd (ivL a0 a1 b0 b1) (ivH a0 a1 b0 b1) (max a0 b0-min a0 b0):=by
 have w:=OY (min a0 b0) (max a0 b0) (by omega) (by omega) (by omega)
 have m:=Mi (min a0 b0) (max a0 b0) (by omega) (by omega) (by omega)
 unfold ivL ivH;rcases Int.le_total 0 (ivD a1 b1) with d|d
 . exact RN _ _ _ _ m.1 m.2.1 w.1 (by omega) w.2.1 d
 . have k:=RN _ _ (-ivD a1 b1) _ m.1 m.2.1 w.1 (show 0<=max a0 b0-min a0 b0 by omega) w.2.1 (by omega)
   rw [(Me _ _ _).1,(Me _ _ _).2] at k;exact (RH _ _ _).1 k
theorem Ey {c C t W N h R:Rat} (hC:C<=R*c+2) (eR:R=1073741824) (c0:0<=c) (ct:c*t<=N+49/10) (t11:11<=t) (eh:h=t+W+2) (N0:0<=N) (hN:N*(W+2)<=13*t+79) (hW:W<=3*t+11) (W0:0<=W) (h0:0<=h) (h1:h<=22000000):C*h<=R*(N+47):=by
 have a:=Rat.mul_nonneg (show 0<=N+49/10-c*t by grind) (show 0<=W+2 by grind)
 have b:t*(c*(W+2))<=t*41:=by grind
 have b2:=Rat.le_of_mul_le_mul_left b (show 0<t by grind)
 have d:=Rat.mul_nonneg (show 0<=R*c+2-C by grind) h0
 have e:c*h<=N+46:=by rw [eh];grind
 have f:=Rat.mul_nonneg (show 0<=N+46-c*h by grind) (show 0<=R by rw [eR];decide)
 have g:(R*c+2)*h=R*(c*h)+2*h:=by grind
 subst eR;grind
theorem jL {x b:Int} (h:-b<=x/\x<=b):x*x<=b*b:=by
 have k:=Int.mul_le_mul (show max x (-x)<=b by omega) (show max x (-x)<=b by omega) (by omega) (by omega)
 rcases Int.le_total 0 x with g|g
 . rw [show max x (-x)=x by omega] at k;exact k
 . rw [show max x (-x)=-x by omega,Int.neg_mul_neg] at k;exact k
theorem zk (l u n:Int) (hl:-10800000<=l) (lu:l<=u) (hu:u<=10800000) (hn:-10680000<=n/\n<=10680000) (w:Wd l u (max n (-n))) (d:Int) (d0:0<=d) (dh:d<=rtC (n*n+aV l u*aV l u)) :
 dH (aT (64*l) (64*u) (64*n) (64*n)+5400000) (bi (64*l) (64*u) (64*n) (64*n)+5400000)*d<=1073741824*(max n 0+59):=by
 have C1:=(iX (aT (64*l) (64*u) (64*n) (64*n)+5400000) (bi (64*l) (64*u) (64*n) (64*n)+5400000)).2.2;have bb:=Aa (64*l) (64*u) (64*n) (64*n);have ea:=MK (aT (64*l) (64*u) (64*n) (64*n)) (bi (64*l) (64*u) (64*n) (64*n)) (by omega)
 have ed:=JC l u n;generalize dH (aT (64*l) (64*u) (64*n) (64*n)+5400000) (bi (64*l) (64*u) (64*n) (64*n)+5400000)=C at *
 generalize aT (64*l) (64*u) (64*n) (64*n)=L at *
 generalize bi (64*l) (64*u) (64*n) (64*n)=H at *
 have m0:0<=aV l u/\aV l u<=10800000/\l<=aV l u/\-l<=aV l u/\u<=aV l u/\-u<=aV l u:=by unfold aV;omega
 have n2:=jL (x:=n) (b:=10680000) (by omega)
 have m2:=jL (x:=aV l u) (b:=10800000) (by omega)
 have nn:=isq n;have mm:=isq (aV l u);have hb:=Nt (n*n+aV l u*aV l u) (by omega) (by omega)
 generalize rtC (n*n+aV l u*aV l u)=h at *
 have mh:aV l u<=h:=nR (by omega) hb.1
 have nh:max n (-n)<=h:=nR (by
  have e:max n (-n)*max n (-n)=n*n:=by
   rcases Int.le_total 0 n with g|g
   . rw [show max n (-n)=n by omega]
   . rw [show max n (-n)=-n by omega,Int.neg_mul_neg]
  omega) hb.1
 have h22:h<=22000000:=by
  rcases hb.2.2 with z|z
  . omega
  . have:h-1<=21500000:=nR (by omega) (by omega)
    omega
 have Ch:C<=0∨C*d<=C*h:=by
  rcases Int.le_total C 0 with z|z
  . exact .inl z
  . exact .inr (Int.mul_le_mul_of_nonneg_left dh z)
 rcases Ch with z|z
 . have:=Int.mul_le_mul_of_nonneg_right z d0;omega
 refine Int.le_trans z ?_;clear z dh d0
 have big:∀ b:Int,h<=b->b<=max n 0+59->C*h<=1073741824*(max n 0+59):=by
  intro b b0 b1;have:=Int.mul_le_mul_of_nonneg_right C1 hb.1;omega
 have mm':=m0
 by_cases hc:0<=n/\l<=0/\0<=u
 . have lv:aX l u=0:=by unfold aX;rw [if_neg (by omega)]
   have W5:=w.1;rw [lv] at W5;have m5:aV l u<=5:=by unfold aV;omega
   have:h<=n+6:=by
    rcases hb.2.2 with z|z
    . omega
    . have e:(h-1)*(h-1)<=(n+aV l u)*(n+aV l u):=by
       have:(n+aV l u)*(n+aV l u)=n*n+aV l u*aV l u+2*(n*aV l u):=by grind
       have:=Int.mul_nonneg hc.1 m0.1;omega
      have:=nR e (by omega)
      omega
   exact big _ this (by omega)
 obtain ⟨k,k1,k2,k3⟩:=ea;obtain ⟨y,y1,y2,y3⟩:=ed k hl lu hu (by omega) hc k1 k2
 clear ed;have W1:=w.1;have W2:=w.2
 have lm:l<=0/\0<=u/\aX l u=0∨aV l u=aX l u+(u-l)/\¬ (l<=0/\0<=u):=by
  unfold aX aV;split<;>omega
 have l0:0<=aX l u:=by unfold aX;split<;>omega
 have ym:aV l u<=max y (-y)+(u-l):=by unfold aV;omega
 generalize aX l u=e at *
 generalize aV l u=m at *
 by_cases t11:h-(u-l)-2<11
 . exact big 53 (by omega) (by omega)
 obtain ⟨t,et⟩:∃ t,t=h-(u-l)-2:=⟨_,rfl⟩;have le2:e<=t+2:=by omega
 have ln:max n (-n)<=t+13:=by
  rcases Int.lt_or_le e (max n (-n)) with q|q
  . have W11:u-l<=11:=by
     rcases Int.lt_or_le 11 (u-l) with p|p
     . have:=Int.mul_le_mul_of_nonneg_left (show 12<=u-l from p) (show 0<=max n (-n) by omega)
       omega
     . exact p
    omega
  . omega
 have tt:t*t<=n*n+max y (-y)*max y (-y):=by
  refine OE (t:=t) (W:=u-l) (v:=max y (-y)) (m:=m) (n:=n) (by omega) (by omega) (by omega) m0.1 ym ?_
  rcases hb.2.2 with q|q
  . omega
  . rw [show t+1+(u-l)=h-1 by omega];exact q
 have yy:max y (-y)*max y (-y)=y*y:=by
  rcases Int.le_total 0 y with g|g
  . rw [show max y (-y)=y by omega]
  . rw [show max y (-y)=-y by omega,Int.neg_mul_neg]
 rw [yy] at tt;have y10:-10800000<=y/\y<=10800000:=by omega
 have ys:=jL (x:=y) (b:=10800000) (by omega)
 have S1:1<=n*n+y*y:=by
  have a:=isq y
  have p:∀ x:Int,x≠0->1<=x*x:=by
   intro x hx;rcases Int.lt_or_le x 0 with g|g
   . have:=Int.mul_le_mul (show 1<=-x by omega) (show 1<=-x by omega) (by omega) (by omega)
     rw [Int.neg_mul_neg] at this;omega
   . have:=Int.mul_le_mul (show 1<=x by omega) (show 1<=x by omega) (by omega) (by omega)
     omega
  by_cases q:n=0
  . have:=p y (by omega);omega
  . have:=p n q;omega
 have E:=edge (64*n) (64*y) k (by omega) (by omega) (by omega) (by
  have q:(((64*n)*(64*n)+(64*y)*(64*y):Int):Rat)<=((979200000*979200000:Int):Rat):=aJ (by
   have e1:(64*n)*(64*n)=4096*(n*n):=by grind
   have e2:(64*y)*(64*y)=4096*(y*y):=by grind
   omega)
  rw [Rat.intCast_add,Rat.intCast_mul (64*n) (64*n),Rat.intCast_mul (64*y) (64*y),Rat.intCast_mul 979200000] at q;exact q) y3
 have c64:((64:Int):Rat)=64:=rfl;rw [Rat.intCast_mul,Rat.intCast_mul,c64] at E;have u1:=Ff k
 have fin:(C:Rat)*(h:Rat)<=1073741824*(((max n 0:Int):Rat)+47):=by
  have hh0:(0:Rat)<=(h:Rat):=by have:=aJ hb.1;exact this
  have hh1:(h:Rat)<=22000000:=by have:=aJ h22;rw [show ((22000000:Int):Rat)=22000000 from rfl] at this;exact this
  have N0:(0:Rat)<=((max n 0:Int):Rat):=by have:=aJ (show 0<=max n 0 by omega);exact this
  have N1:((max n 0:Int):Rat)<=11000000:=by have:=aJ (show max n 0<=11000000 by omega);rw [show ((11000000:Int):Rat)=11000000 from rfl] at this;exact this
  have Nn:(n:Rat)<=((max n 0:Int):Rat):=aJ (by omega)
  by_cases c0:0<=cg k
  . have SR:((n*n+y*y:Int):Rat)=(n:Rat)*n+(y:Rat)*y:=by rw [Rat.intCast_add,Rat.intCast_mul,Rat.intCast_mul]
    have S1':(1:Rat)<=(n:Rat)*n+(y:Rat)*y:=by rw [<-SR];have:=aJ S1;exact this
    have tt':(t:Rat)*t<=(n:Rat)*n+(y:Rat)*y:=by rw [<-SR,<-Rat.intCast_mul];exact aJ tt
    have dq:=Li (c:=cg k) (s:=sg k) (X:=(n:Rat)) (Y:=(y:Rat)) u1
    have sqr:∀ z:Rat,0<=z*z:=by
     intro z
     by_cases zz:0<=z
     . exact Rat.mul_nonneg zz zz
     . have:=Rat.mul_nonneg (show 0<=-z by grind) (show 0<=-z by grind)
       grind
    have eS:cg k*((n:Rat)*n+(y:Rat)*y)=n*(cg k*n+sg k*y)+y*(cg k*y-sg k*n):=by grind
    have q1:=sqr (cg k*y-sg k*n);have q2:=sqr (n:Rat);have hd:0<=cg k*n+sg k*y:=by have:=E.2;clear dq eS;grind
    have hcr:-(47/10)<=cg k*y-sg k*n/\cg k*y-sg k*n<=47/10:=by have a:=E.1.1;have b:=E.1.2;clear dq eS;constructor<;>grind
    generalize (n:Rat)*n+(y:Rat)*y=SS at *
    obtain ⟨r,r0,r1,r2⟩:=Rv SS (by grind)
    have me:mil*(1+4/mil)=mil+4:=by
     have:=Rat.div_mul_cancel (a:=(4:Rat)) (b:=mil) (by have:=ul;intro z;rw [z] at this;exact absurd this (by decide))
     grind
    have r2':SS<=(1+4/mil)*(r*r):=by
     refine Rat.le_of_mul_le_mul_left (c:=mil) ?_ (by have:=ul;grind)
     rw [<-Rat.mul_assoc,me];exact r2
    have em:0<=4/mil/\4/mil<=1/1000000000:=by unfold mil;constructor<;>decide +kernel
    have k4:=QV (c:=cg k) (n:=(n:Rat)) (y:=(y:Rat)) (dot:=cg k*n+sg k*y) (cr:=cg k*y-sg k*n) (N:=((max n 0:Int):Rat)) c0 eS r0 r1 r2' em.1 em.2 hd (by clear eS E;grind) (by
     have:=sqr (n:Rat)
     have e3:(y:Rat)*y<=SS:=by
      have:((y*y:Int):Rat)<=((n*n+y*y:Int):Rat):=aJ (by omega)
      rw [SR,Rat.intCast_mul] at this;exact this
     exact e3) hcr Nn N0 N1
    have k5:=Z0 c0 (by have:=(g1 k).1.2;exact this) k4 r0 r2' em.1 em.2 tt' N0 N1
    have W2':max n 0*((u-l)+2)<=13*t+79:=by
     have a:=Int.mul_le_mul_of_nonneg_right (show max n 0<=max n (-n) by omega) (show 0<=(u-l)+2 by omega)
     rw [Int.mul_add (max n (-n))] at a;omega
    have W2r:((max n 0:Int):Rat)*(((u-l:Int):Rat)+2)<=13*(t:Rat)+79:=by
     have:=aJ W2'
     rw [Rat.intCast_mul,Rat.intCast_add,Rat.intCast_add,Rat.intCast_mul] at this;exact this
    have W1r:((u-l:Int):Rat)<=3*(t:Rat)+11:=by
     have:=aJ (show u-l<=3*t+11 by omega)
     rw [Rat.intCast_add,Rat.intCast_mul] at this;exact this
    have W0r:(0:Rat)<=((u-l:Int):Rat):=by have:=aJ (show 0<=u-l by omega);exact this
    have tr:(11:Rat)<=(t:Rat):=by have:=aJ (show 11<=t by omega);exact this
    have ehr:(h:Rat)=(t:Rat)+((u-l:Int):Rat)+2:=by
     rw [show h=t+(u-l)+2 by omega,Rat.intCast_add,Rat.intCast_add];rfl
    exact Ey (c:=cg k) (t:=(t:Rat)) k3 rfl c0 k5 tr ehr N0 W2r W1r W0r hh0 hh1
  . have C2:(C:Rat)<=2:=by clear E u1;grind
    have a:=Rat.mul_nonneg (show 0<=2-(C:Rat) by grind) hh0
    clear E u1;grind
 have fin2:((C*h:Int):Rat)<=((1073741824*(max n 0+47):Int):Rat):=by
  rw [Rat.intCast_mul,Rat.intCast_mul,Rat.intCast_add];exact fin
 have:=Rat.intCast_le_intCast.1 fin2;omega
