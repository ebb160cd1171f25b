/- The contracts of Vertex of both sides. -/
import Derived.Test.YtknhbpnclokciaaGreatZGc
set_option linter.unusedVariables false
set_option linter.unusedSimpArgs false
set_option maxRecDepth 100000
namespace Alm
open Go.Proofs.YtknhbpnclokciaaGreat in
theorem abI {px py qx qy:Int} (np:¬ (px=0/\py=0)) (nq:¬ (qx=0/\qy=0)) (hc:0<=crs px py qx qy) (hpx:-2147483648<=px/\px<=2147483648) (hpy:-2147483648<=py/\py<=2147483648) (hqx:-2147483648<=qx/\qx<=2147483648) (hqy:-2147483648<=qy/\qy<=2147483648):¬ (fq px py=0/\fq qx qy=21599999):=by
 rintro ⟨h1,h2⟩;have d1:=(nK px py np hpx hpy).1;have d2:=(nK qx qy nq hqx hqy).1;unfold fq at h1 h2
 have p1:0<px/\0<=py:=by
  refine Classical.byContradiction fun g=>?_
  have:qT px py≠0:=by
   unfold qT;rw [if_neg g];split
   . decide
   . split<;>decide
  have:0<=qT px py:=by unfold qT;split<;>(try split)<;>(try split)<;>decide
  omega
 have q1:0<=qx/\qy<0:=by
  have t:qT qx qy=16200000:=by
   unfold qT at *
   split at h2
   . omega
   . split at h2
     . omega
     . split at h2
       . omega
       . rename_i a b c
         rw [if_neg a,if_neg b,if_neg c]
  unfold qT at t;split at t
  . exact absurd t (by decide)
  . split at t
    . exact absurd t (by decide)
    . split at t
      . exact absurd t (by decide)
      . omega
 unfold crs at hc;have m1:=Int.mul_nonneg (show 0<=py by omega) q1.1
 have m2:=Int.mul_pos p1.1 (show 0 < -qy by omega)
 have e:px*-qy=-(px*qy):=by grind
 omega
open Go.Proofs.YtknhbpnclokciaaGreat in
theorem abE {yl yh xl xh:Int} (hy:yl<=yh) (hx:xl<=xh) (hy2:-2147483648<=yl/\yh<=2147483648) (hx2:-2147483648<=xl/\xh<=2147483648) :
 eD yl yh xl xh-dP yl yh xl xh>=21600000↔dP yl yh xl xh=0/\eD yl yh xl xh=21600000:=by
 by_cases ho:xl<=0/\0<=xh/\yl<=0/\0<=yh
 . have eo:ic yl yh xl xh=true:=by unfold ic;simp only [decide_eq_true_eq];exact ho
   unfold eD dP;rw [if_pos eo,if_pos eo];omega
 . obtain ⟨u,v,H⟩:=Ce hy hx ho;obtain ⟨j,hj,lj⟩:=Qj xl xh yl yh 3;have fl:=Aw H 4 j (by omega)
   have fi:=kD xl xh yl yh 4;have li:=rP xl xh yl yh 4;have eo:ic yl yh xl xh=false:=by unfold ic;simp only [decide_eq_false_iff_not];exact ho
   have bnd:∀ p:Int,(p=xl∨p=xh)->-2147483648<=p/\p<=2147483648:=fun p h=>by omega
   have bnd2:∀ p:Int,(p=yl∨p=yh)->-2147483648<=p/\p<=2147483648:=fun p h=>by omega
   have nz:∀ px py:Int,(px=xl∨px=xh)->(py=yl∨py=yh)->¬ (px=0/\py=0):=by
    rintro px py h k ⟨rfl,rfl⟩;have:=H 0 0 h k;omega
   have g:=OD (nz _ _ fi.1 fi.2) (nz _ _ li.1 li.2) (by rw [lj];exact fl) (bnd _ fi.1) (bnd2 _ fi.2) (bnd _ li.1) (bnd2 _ li.2)
   have cr:0<=crs (aD xl xh yl yh 4).1 (aD xl xh yl yh 4).2 (aS xl xh yl yh 4).1 (aS xl xh yl yh 4).2:=by rw [lj];exact fl
   have k2:=abI (nz _ _ fi.1 fi.2) (nz _ _ li.1 li.2) cr (bnd _ fi.1) (bnd2 _ fi.2) (bnd _ li.1) (bnd2 _ li.2);have b1:=qW (aD xl xh yl yh 4).1 (aD xl xh yl yh 4).2;have b2:=qW (aS xl xh yl yh 4).1 (aS xl xh yl yh 4).2;have eL:dP yl yh xl xh=fq (aD xl xh yl yh 4).1 (aD xl xh yl yh 4).2:=by unfold dP;rw [eo];rfl
   have eH:eD yl yh xl xh=upE (dP yl yh xl xh) (fq (aS xl xh yl yh 4).1 (aS xl xh yl yh 4).2) (fZ (aS xl xh yl yh 4).1 (aS xl xh yl yh 4).2):=by unfold eD;rw [eo];rfl
   rw [eH,eL];generalize fq (aD xl xh yl yh 4).1 (aD xl xh yl yh 4).2=f at *
   generalize fq (aS xl xh yl yh 4).1 (aS xl xh yl yh 4).2=l at *
   generalize fZ (aS xl xh yl yh 4).1 (aS xl xh yl yh 4).2=e at *
   unfold upE
   constructor
   . intro h;exfalso
     revert h
     cases e<;>simp<;>split<;>omega
   . omega
end Alm
namespace Go.Proofs.YtknhbpnclokciaaGreat
open Go.RowKit Alm Sx
theorem acD (n:Int) (h0:-5400000<=n) (h1:n<=5400000):bHi (-n)=-bLo n:=by
 rcases Int.lt_trichotomy n 0 with h|h|h
 . obtain ⟨a,b⟩:=GX n h0 h;obtain ⟨a',b'⟩:=IC (-n) (by omega) (by omega)
   unfold bHi bLo;rw [a,b,a',b'];simp
 . subst h;decide
 . obtain ⟨a,b⟩:=IC n (by omega) h1
   obtain ⟨a',b'⟩:=GX (-n) (by omega) (by omega)
   unfold bHi bLo;rw [a,b,a',b'];simp
theorem abL (lo hi:Int) (h:lo<=hi):dz lo<=-dz (-hi):=by
 obtain ⟨a0,a1,a2,_⟩:=sU lo;obtain ⟨b0,b1,b2,_⟩:=sU (-hi)
 by_cases hh:dz lo<=-dz (-hi)
 . exact hh
 . have m:=TI (-dz (-hi)) (dz lo) (by omega) (by omega) (by omega)
   have n:=acD (-dz (-hi)) (by omega) (by omega)
   rw [Int.neg_neg] at n;omega
theorem aak (a b c d:Int):0<=(M4 a b c d).getD 0 0/\(M4 a b c d).getD 0 0<=21599999/\(M4 a b c d).getD 0 0<=(M4 a b c d).getD 1 0/\(M4 a b c d).getD 1 0<=(M4 a b c d).getD 0 0+21600000:=by
 rw [(TP a b c d).1,(TP a b c d).2.1];exact aah _ _ _ _
theorem aaN (a b c d:Int):(M4 a b c d).getD 1 0-(M4 a b c d).getD 0 0>=21600000↔(M4 a b c d).getD 0 0=0/\(M4 a b c d).getD 1 0=21600000:=by
 rw [(TP a b c d).1,(TP a b c d).2.1];have ey:=(U_M (U_S (sgd (d-b)) (sgd (d-b))) (U_C c c)).2.2;have um:=(U_M (U_S a a) (U_C c c)).2.2;have ex:=(dQ _ _).1 (U_D (U_M (U_C a a) (U_S c c)).2.2 (U_M um (U_C (sgd (d-b)) (sgd (d-b)))).2.2).2.2;have ey':=(dQ _ _).1 (dh ey);exact abE ey'.2.1 ex.2.1 ⟨ey'.1,ey'.2.2⟩ ⟨ex.1,ex.2.2⟩
theorem abw (a b c d:Int) (h1:PtV a b) (h2:PtV c d):0<=(M8 a b c d).getD 0 0/\(M8 a b c d).getD 0 0<=(M8 a b c d).getD 1 0/\(M8 a b c d).getD 1 0<=10800000:=by
 rw [(Zl a b c d).1,(Zl a b c d).2.1];have m:=ZH a c (sgd (d-b)) h1.1 h2.1
 have le:(WV a c (sgd (d-b))).1<=(WV a c (sgd (d-b))).2:=by
  have um:=(U_M (U_C a a) (U_C c c)).2.2;exact ((dQ _ _).1 (U_A (U_H (c-a)) (U_M um (U_H (sgd (d-b)))).2.2).2.2).2.1
 generalize (WV a c (sgd (d-b))).1=x at *
 generalize (WV a c (sgd (d-b))).2=y at *
 unfold aao aaf ZW ZX;have e1:aal (1073741824-2*max x 0) 1073741824=1073741824-2*max x 0:=by unfold aal;split<;>omega
 have e2:aag (1073741824-2*min y 1073741824) (-1073741824)=1073741824-2*min y 1073741824:=by unfold aag;split<;>omega
 rw [e1,e2];have r1:=sU (-(1073741824-2*max x 0));have r2:=sU (1073741824-2*min y 1073741824);have oo:=abL (1073741824-2*min y 1073741824) (1073741824-2*max x 0) (by omega)
 generalize dz (-(1073741824-2*max x 0))=p at *
 generalize dz (1073741824-2*min y 1073741824)=q at *
 omega
theorem ptB {x1 x2 x3 x4 y5 y7 y9 z6 z8 z10 a b:Int} (h4:x1=b2i (decide (a>=(-5400000:Int)))) (h5:x2=b2i (decide (a<=(5400000:Int)))) (h7:x3=b2i (decide (b>=(-10800000:Int)))) (h9:x4=b2i (decide (b<(10800000:Int)))) (h6:z6=if x1≠0 then x2 else (0:Int)) (h8:z8=if z6≠0 then x3 else (0:Int)) (h10:z10=if z8≠0 then x4 else (0:Int)):z10=b2i (decide (PtV a b)):=by
 rw [h10,h8,h6,h4,h5,h7,h9,bb2,bb2,bb2];exact congrArg b2i (decide_eq_decide.2 (by omega))
theorem acs (a b c d:Int) (w:World) (h:¬ (PtV a b/\PtV c d)):Calls Tryz.prog 117 #[.agg #[.int .i64 a,.int .i64 b],.agg #[.int .i64 c,.int .i64 d]] w fun e w'=>e=.returned (.tuple #[.agg #[.int .i64 0,.int .i64 0,.int .i64 0,.int .i64 0],.int .i64 1])/\Below w.heap.size w w':=by
 refine Sx.calls (X:=cxM [a,b,c,d]) il (PO _) aaY aaK (fun v hs=>?_) w
 have B1:v 10=b2i (decide (PtV (v 0) (v 1))):=ptB (x1:=v 4) (x2:=v 5) (x3:=v 7) (x4:=v 9) (y5:=0) (y7:=0) (y9:=0) (z6:=v 6) (z8:=v 8) (ae hs 4 rfl) (ae hs 5 rfl) (ae hs 7 rfl) (ae hs 9 rfl) (ae hs 6 rfl) (ae hs 8 rfl) (ae hs 10 rfl);have B2:v 18=b2i (decide (PtV (v 2) (v 3))):=ptB (x1:=v 12) (x2:=v 13) (x3:=v 15) (x4:=v 17) (y5:=0) (y7:=0) (y9:=0) (z6:=v 14) (z8:=v 16) (ae hs 12 rfl) (ae hs 13 rfl) (ae hs 15 rfl) (ae hs 17 rfl) (ae hs 14 rfl) (ae hs 16 rfl) (ae hs 18 rfl);have e0:v 0=a:=ae hs 0 rfl;have e1:v 1=b:=ae hs 1 rfl;have e2:v 2=c:=ae hs 2 rfl;have e3:v 3=d:=ae hs 3 rfl;rw [e0,e1] at B1;rw [e2,e3] at B2
 have C:v 10=0∨(v 10=1/\v 18=0):=by
  by_cases p:PtV a b
  . refine .inr ⟨by rw [B1,decide_eq_true p];rfl,?_⟩
    rw [B2,decide_eq_false (fun q=>h ⟨p,q⟩)];rfl
  . exact .inl (by rw [B1,decide_eq_false p];rfl)
 have Z:v 21=0/\v 154=1/\v 155=0/\v 156=0/\v 157=0/\v 158=0:=by
  rcases C with u|⟨u,u2⟩
  . exact ⟨aL (X:=cxM [a,b,c,d]) (v:=v) (l:=H5) (eB _) hs (k:=21) (r:=.c 0) (ps:=[(10,.c 0)]) (nz:=[]) (ah u aK) bB (by kernel_rfl),aL (X:=cxM [a,b,c,d]) (v:=v) (l:=H5) (eB _) hs (k:=154) (r:=.c 1) (ps:=[(10,.c 0)]) (nz:=[]) (ah u aK) bB (by kernel_rfl),aL (X:=cxM [a,b,c,d]) (v:=v) (l:=H5) (eB _) hs (k:=155) (r:=.c 0) (ps:=[(10,.c 0)]) (nz:=[]) (ah u aK) bB (by kernel_rfl),aL (X:=cxM [a,b,c,d]) (v:=v) (l:=H5) (eB _) hs (k:=156) (r:=.c 0) (ps:=[(10,.c 0)]) (nz:=[]) (ah u aK) bB (by kernel_rfl),aL (X:=cxM [a,b,c,d]) (v:=v) (l:=H5) (eB _) hs (k:=157) (r:=.c 0) (ps:=[(10,.c 0)]) (nz:=[]) (ah u aK) bB (by kernel_rfl),aL (X:=cxM [a,b,c,d]) (v:=v) (l:=H5) (eB _) hs (k:=158) (r:=.c 0) (ps:=[(10,.c 0)]) (nz:=[]) (ah u aK) bB (by kernel_rfl)⟩
  . exact ⟨aL (X:=cxM [a,b,c,d]) (v:=v) (l:=H5) (eB _) hs (k:=21) (r:=.c 0) (ps:=[(10,.c 1),(18,.c 0)]) (nz:=[]) (ah u (ah u2 aK)) bB (by kernel_rfl),aL (X:=cxM [a,b,c,d]) (v:=v) (l:=H5) (eB _) hs (k:=154) (r:=.c 1) (ps:=[(10,.c 1),(18,.c 0)]) (nz:=[]) (ah u (ah u2 aK)) bB (by kernel_rfl),aL (X:=cxM [a,b,c,d]) (v:=v) (l:=H5) (eB _) hs (k:=155) (r:=.c 0) (ps:=[(10,.c 1),(18,.c 0)]) (nz:=[]) (ah u (ah u2 aK)) bB (by kernel_rfl),aL (X:=cxM [a,b,c,d]) (v:=v) (l:=H5) (eB _) hs (k:=156) (r:=.c 0) (ps:=[(10,.c 1),(18,.c 0)]) (nz:=[]) (ah u (ah u2 aK)) bB (by kernel_rfl),aL (X:=cxM [a,b,c,d]) (v:=v) (l:=H5) (eB _) hs (k:=157) (r:=.c 0) (ps:=[(10,.c 1),(18,.c 0)]) (nz:=[]) (ah u (ah u2 aK)) bB (by kernel_rfl),aL (X:=cxM [a,b,c,d]) (v:=v) (l:=H5) (eB _) hs (k:=158) (r:=.c 0) (ps:=[(10,.c 1),(18,.c 0)]) (nz:=[]) (ah u (ah u2 aK)) bB (by kernel_rfl)⟩
 refine ⟨dV ?_,?_⟩
 . exact aj (fun hp=>absurd Z.1 (ax hp).1) (aj (fun hp=>absurd Z.1 (ax hp).1) (aj (fun hp=>absurd Z.1 (ax hp).1) (aj (fun hp=>absurd Z.1 (ax hp).1) (aj (fun hp=>absurd Z.1 (ax hp).1) (aj (fun hp=>absurd Z.1 (ax hp).1) (aj (fun hp=>absurd Z.1 (ax hp).1) (aj (fun hp=>absurd Z.1 (ax hp).1) (aj (fun hp=>absurd Z.1 (ax hp).1) (aj (fun hp=>absurd Z.1 (ax hp).1) (aj (fun hp=>absurd Z.1 (ax hp).1) (aj (fun hp=>absurd Z.1 (ax hp).1) (aj (fun hp=>absurd Z.1 (ax hp).1) (aj (fun hp=>absurd Z.1 (ax hp).1) (aj (fun hp=>absurd Z.1 (ax hp).1) (aj (fun hp=>absurd Z.1 (ax hp).1) (aj (fun hp=>absurd Z.1 (ax hp).1) (aj (fun hp=>absurd Z.1 (ax hp).1) (aj (fun hp=>absurd Z.1 (ax hp).1) (aj (fun hp=>absurd Z.1 (ax hp).1) (aj (fun hp=>absurd Z.1 (ax hp).1) (dO)))))))))))))))))))))
 . intro x hx0;have hx':=gG (v:=v) (by rfl) hx0
   rw [hx'];show Value.tuple #[.agg #[.int .i64 (v 155),.int .i64 (v 156),.int .i64 (v 157),.int .i64 (v 158)],.int .i64 (v 154)]=_;obtain ⟨_,z1,z2,z3,z4,z5⟩:=Z;rw [z1,z2,z3,z4,z5]
