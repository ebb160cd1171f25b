/- The contracts of Vertex of both sides. -/
import Derived.Test.YtfffpodaabdpfaaGreatGc
set_option linter.unusedVariables false
set_option linter.unusedSimpArgs false
namespace Alm
open Go.Proofs.YtfffpodaabdpfaaGreat in
theorem no_round {px py qx qy:Int} (np:¬ (px=0∧py=0)) (nq:¬ (qx=0∧qy=0)) (hc:0≤crs px py qx qy) (hpx:-2147483648≤px∧px≤2147483648) (hpy:-2147483648≤py∧py≤2147483648) (hqx:-2147483648≤qx∧qx≤2147483648) (hqy:-2147483648≤qy∧qy≤2147483648):¬ (angV px py=0∧angV qx qy=21599999):=by
 rintro ⟨h1,h2⟩
 have d1:=(angL_is px py np hpx hpy).1
 have d2:=(angL_is qx qy nq hqx hqy).1
 unfold angV at h1 h2
 have p1:0 < px∧0≤py:=by
  refine Classical.byContradiction fun g=>?_
  have:qT px py≠0:=by
   unfold qT
   rw [if_neg g]
   split
   · decide
   · split<;>decide
  have:0≤qT px py:=by unfold qT;split<;>(try split)<;>(try split)<;>decide
  omega
 have q1:0≤qx∧qy < 0:=by
  have t:qT qx qy=16200000:=by
   unfold qT at *
   split at h2
   · omega
   · split at h2
     · omega
     · split at h2
       · omega
       · rename_i a b c
         rw [if_neg a,if_neg b,if_neg c]
  unfold qT at t
  split at t
  · exact absurd t (by decide)
  · split at t
    · exact absurd t (by decide)
    · split at t
      · exact absurd t (by decide)
      · omega
 unfold crs at hc
 have m1:=Int.mul_nonneg (show 0≤py by omega) q1.1
 have m2:=Int.mul_pos p1.1 (show 0 < -qy by omega)
 have e:px*-qy=-(px*qy):=by grind
 omega
open Go.Proofs.YtfffpodaabdpfaaGreat in
theorem bear_all {yl yh xl xh:Int} (hy:yl≤yh) (hx:xl≤xh) (hy2:-2147483648≤yl∧yh≤2147483648) (hx2:-2147483648≤xl∧xh≤2147483648) :
 bearH yl yh xl xh - bearL yl yh xl xh≥21600000↔bearL yl yh xl xh=0∧bearH yl yh xl xh=21600000:=by
 by_cases ho:xl≤0∧0≤xh∧yl≤0∧0≤yh
 · have eo:origB yl yh xl xh=true:=by unfold origB;simp only [decide_eq_true_eq];exact ho
   unfold bearH bearL
   rw [if_pos eo,if_pos eo]
   omega
 · obtain ⟨u,v,H⟩:=half_box hy hx ho
   obtain ⟨j,hj,lj⟩:=last_is xl xh yl yh 3
   have fl:=first_least H 4 j (by omega)
   have fi:=first_in xl xh yl yh 4
   have li:=last_in xl xh yl yh 4
   have eo:origB yl yh xl xh=false:=by unfold origB;simp only [decide_eq_false_iff_not];exact ho
   have bnd:∀ p:Int,(p=xl∨p=xh)→-2147483648≤p∧p≤2147483648:=fun p h=>by omega
   have bnd2:∀ p:Int,(p=yl∨p=yh)→-2147483648≤p∧p≤2147483648:=fun p h=>by omega
   have nz:∀ px py:Int,(px=xl∨px=xh)→(py=yl∨py=yh)→¬ (px=0∧py=0):=by
    rintro px py h k ⟨rfl,rfl⟩
    have:=H 0 0 h k
    omega
   have g:=ang_gap (nz _ _ fi.1 fi.2) (nz _ _ li.1 li.2) (by rw [lj];exact fl) (bnd _ fi.1) (bnd2 _ fi.2) (bnd _ li.1) (bnd2 _ li.2)
   have cr:0≤crs (firstC xl xh yl yh 4).1 (firstC xl xh yl yh 4).2 (lastC xl xh yl yh 4).1 (lastC xl xh yl yh 4).2:=by rw [lj];exact fl
   have k2:=no_round (nz _ _ fi.1 fi.2) (nz _ _ li.1 li.2) cr (bnd _ fi.1) (bnd2 _ fi.2) (bnd _ li.1) (bnd2 _ li.2)
   have b1:=angV_bd (firstC xl xh yl yh 4).1 (firstC xl xh yl yh 4).2
   have b2:=angV_bd (lastC xl xh yl yh 4).1 (lastC xl xh yl yh 4).2
   have eL:bearL yl yh xl xh=angV (firstC xl xh yl yh 4).1 (firstC xl xh yl yh 4).2:=by unfold bearL;rw [eo];rfl
   have eH:bearH yl yh xl xh=upE (bearL yl yh xl xh) (angV (lastC xl xh yl yh 4).1 (lastC xl xh yl yh 4).2) (angE (lastC xl xh yl yh 4).1 (lastC xl xh yl yh 4).2):=by unfold bearH;rw [eo];rfl
   rw [eH,eL]
   generalize angV (firstC xl xh yl yh 4).1 (firstC xl xh yl yh 4).2=f at *
   generalize angV (lastC xl xh yl yh 4).1 (lastC xl xh yl yh 4).2=l at *
   generalize angE (lastC xl xh yl yh 4).1 (lastC xl xh yl yh 4).2=e at *
   unfold upE
   constructor
   · intro h
     exfalso
     revert h
     cases e<;>simp<;>split<;>omega
   · omega
end Alm
namespace Go.Proofs.YtfffpodaabdpfaaGreat
open Go.RowKit Alm Sx
theorem gc_bneg (n:Int) (h0:-5400000≤n) (h1:n≤5400000):bHi (-n)=-bLo n:=by
 rcases Int.lt_trichotomy n 0 with h | h | h
 · obtain ⟨a,b⟩:=foldQ_neg n h0 h
   obtain ⟨a',b'⟩:=foldQ_pos (-n) (by omega) (by omega)
   unfold bHi bLo
   rw [a,b,a',b'];simp
 · subst h;decide
 · obtain ⟨a,b⟩:=foldQ_pos n (by omega) h1
   obtain ⟨a',b'⟩:=foldQ_neg (-n) (by omega) (by omega)
   unfold bHi bLo
   rw [a,b,a',b'];simp
theorem gc_order (lo hi:Int) (h:lo≤hi):asinV lo≤-asinV (-hi):=by
 obtain ⟨a0,a1,a2,_⟩:=asinV_is lo
 obtain ⟨b0,b1,b2,_⟩:=asinV_is (-hi)
 by_cases hh:asinV lo≤-asinV (-hi)
 · exact hh
 · have m:=b_mono (-asinV (-hi)) (asinV lo) (by omega) (by omega) (by omega)
   have n:=gc_bneg (-asinV (-hi)) (by omega) (by omega)
   rw [Int.neg_neg] at n
   omega
def invV (a b c d:Int):List Int:=if PtV a b∧PtV c d then [(crsV a b c d).getD 0 0,(crsV a b c d).getD 1 0,(dstV a b c d).getD 0 0,(dstV a b c d).getD 1 0,0] else [0,0,0,0,1]
theorem crs_bd (a b c d:Int):0≤(crsV a b c d).getD 0 0∧(crsV a b c d).getD 0 0≤21599999∧(crsV a b c d).getD 0 0≤(crsV a b c d).getD 1 0∧(crsV a b c d).getD 1 0≤(crsV a b c d).getD 0 0+21600000:=by
 rw [(crsV_at a b c d).1,(crsV_at a b c d).2.1]
 exact bear_bd _ _ _ _
theorem crs_all (a b c d:Int):(crsV a b c d).getD 1 0 - (crsV a b c d).getD 0 0≥21600000↔(crsV a b c d).getD 0 0=0∧(crsV a b c d).getD 1 0=21600000:=by
 rw [(crsV_at a b c d).1,(crsV_at a b c d).2.1]
 have ey:=(U_M (U_S (sgd (d - b)) (sgd (d - b))) (U_C c c)).2.2
 have um:=(U_M (U_S a a) (U_C c c)).2.2
 have ex:=(fxV_iff _ _).1 (U_D (U_M (U_C a a) (U_S c c)).2.2 (U_M um (U_C (sgd (d - b)) (sgd (d - b)))).2.2).2.2
 have ey':=(fxV_iff _ _).1 (U_fx ey)
 exact bear_all ey'.2.1 ex.2.1 ⟨ey'.1,ey'.2.2⟩ ⟨ex.1,ex.2.2⟩
theorem dst_bd (a b c d:Int) (h1:PtV a b) (h2:PtV c d):0≤(dstV a b c d).getD 0 0∧(dstV a b c d).getD 0 0≤(dstV a b c d).getD 1 0∧(dstV a b c d).getD 1 0≤10800000:=by
 rw [(dstV_at a b c d).1,(dstV_at a b c d).2.1]
 have m:=dst_meets a c (sgd (d - b)) h1.1 h2.1
 have le:(dstI a c (sgd (d - b))).1≤(dstI a c (sgd (d - b))).2:=by
  have um:=(U_M (U_C a a) (U_C c c)).2.2
  exact ((fxV_iff _ _).1 (U_A (U_H (c - a)) (U_M um (U_H (sgd (d - b)))).2.2).2.2).2.1
 generalize (dstI a c (sgd (d - b))).1=x at *
 generalize (dstI a c (sgd (d - b))).2=y at *
 unfold ahvL ahvH acoL acoH
 have e1:minI (1073741824 - 2*max x 0) 1073741824=1073741824 - 2*max x 0:=by unfold minI;split<;>omega
 have e2:maxI (1073741824 - 2*min y 1073741824) (-1073741824)=1073741824 - 2*min y 1073741824:=by unfold maxI;split<;>omega
 rw [e1,e2]
 have r1:=asinV_is (-(1073741824 - 2*max x 0))
 have r2:=asinV_is (1073741824 - 2*min y 1073741824)
 have oo:=gc_order (1073741824 - 2*min y 1073741824) (1073741824 - 2*max x 0) (by omega)
 generalize asinV (-(1073741824 - 2*max x 0))=p at *
 generalize asinV (1073741824 - 2*min y 1073741824)=q at *
 omega
theorem ptB {x1 x2 x3 x4 y5 y7 y9 z6 z8 z10 a b:Int} (h4:x1=b2i (decide (a≥(-5400000:Int)))) (h5:x2=b2i (decide (a≤(5400000:Int)))) (h7:x3=b2i (decide (b≥(-10800000:Int)))) (h9:x4=b2i (decide (b < (10800000:Int)))) (h6:z6=if x1≠0 then x2 else (0:Int)) (h8:z8=if z6≠0 then x3 else (0:Int)) (h10:z10=if z8≠0 then x4 else (0:Int)):z10=b2i (decide (PtV a b)):=by
 rw [h10,h8,h6,h4,h5,h7,h9,bb2,bb2,bb2]
 exact congrArg b2i (decide_eq_decide.2 (by omega))
set_option maxRecDepth 100000 in
theorem c_pInvN (a b c d:Int) (w:World) (h:¬ (PtV a b∧PtV c d)):Calls Tryz.prog 128 #[.agg #[.int .i64 a,.int .i64 b],.agg #[.int .i64 c,.int .i64 d]] w fun e w'=>e=.returned (.tuple #[.agg #[.int .i64 0,.int .i64 0,.int .i64 0,.int .i64 0],.int .i64 1])∧Below w.heap.size w w':=by
 refine Sx.calls (X:=cxM [a,b,c,d]) hmix (spM_ok _) wh_pInv wf_pInv (fun v hs=>?_) w
 have B1:v 10=b2i (decide (PtV (v 0) (v 1))):=ptB (x1:=v 4) (x2:=v 5) (x3:=v 7) (x4:=v 9) (y5:=0) (y7:=0) (y9:=0) (z6:=v 6) (z8:=v 8) (satF hs 4 rfl) (satF hs 5 rfl) (satF hs 7 rfl) (satF hs 9 rfl) (satF hs 6 rfl) (satF hs 8 rfl) (satF hs 10 rfl)
 have B2:v 18=b2i (decide (PtV (v 2) (v 3))):=ptB (x1:=v 12) (x2:=v 13) (x3:=v 15) (x4:=v 17) (y5:=0) (y7:=0) (y9:=0) (z6:=v 14) (z8:=v 16) (satF hs 12 rfl) (satF hs 13 rfl) (satF hs 15 rfl) (satF hs 17 rfl) (satF hs 14 rfl) (satF hs 16 rfl) (satF hs 18 rfl)
 have e0:v 0=a:=satF hs 0 rfl
 have e1:v 1=b:=satF hs 1 rfl
 have e2:v 2=c:=satF hs 2 rfl
 have e3:v 3=d:=satF hs 3 rfl
 rw [e0,e1] at B1
 rw [e2,e3] at B2
 have C:v 10=0∨(v 10=1∧v 18=0):=by
  by_cases p:PtV a b
  · refine .inr ⟨by rw [B1,decide_eq_true p];rfl,?_⟩
    rw [B2,decide_eq_false (fun q=>h ⟨p,q⟩)];rfl
  · exact .inl (by rw [B1,decide_eq_false p];rfl)
 have Z:v 21=0∧v 154=1∧v 155=0∧v 156=0∧v 157=0∧v 158=0:=by
  rcases C with u | ⟨u,u2⟩
  · exact ⟨norm_val (X:=cxM [a,b,c,d]) (v:=v) (l:=nd_pInv) (extM_ok _) hs (k:=21) (r:=.c 0) (ps:=[(10,.c 0)]) (nz:=[]) (ps_cons u ps_nil) nz_nil (by kernel_rfl),norm_val (X:=cxM [a,b,c,d]) (v:=v) (l:=nd_pInv) (extM_ok _) hs (k:=154) (r:=.c 1) (ps:=[(10,.c 0)]) (nz:=[]) (ps_cons u ps_nil) nz_nil (by kernel_rfl),norm_val (X:=cxM [a,b,c,d]) (v:=v) (l:=nd_pInv) (extM_ok _) hs (k:=155) (r:=.c 0) (ps:=[(10,.c 0)]) (nz:=[]) (ps_cons u ps_nil) nz_nil (by kernel_rfl),norm_val (X:=cxM [a,b,c,d]) (v:=v) (l:=nd_pInv) (extM_ok _) hs (k:=156) (r:=.c 0) (ps:=[(10,.c 0)]) (nz:=[]) (ps_cons u ps_nil) nz_nil (by kernel_rfl),norm_val (X:=cxM [a,b,c,d]) (v:=v) (l:=nd_pInv) (extM_ok _) hs (k:=157) (r:=.c 0) (ps:=[(10,.c 0)]) (nz:=[]) (ps_cons u ps_nil) nz_nil (by kernel_rfl),norm_val (X:=cxM [a,b,c,d]) (v:=v) (l:=nd_pInv) (extM_ok _) hs (k:=158) (r:=.c 0) (ps:=[(10,.c 0)]) (nz:=[]) (ps_cons u ps_nil) nz_nil (by kernel_rfl)⟩
  · exact ⟨norm_val (X:=cxM [a,b,c,d]) (v:=v) (l:=nd_pInv) (extM_ok _) hs (k:=21) (r:=.c 0) (ps:=[(10,.c 1),(18,.c 0)]) (nz:=[]) (ps_cons u (ps_cons u2 ps_nil)) nz_nil (by kernel_rfl),norm_val (X:=cxM [a,b,c,d]) (v:=v) (l:=nd_pInv) (extM_ok _) hs (k:=154) (r:=.c 1) (ps:=[(10,.c 1),(18,.c 0)]) (nz:=[]) (ps_cons u (ps_cons u2 ps_nil)) nz_nil (by kernel_rfl),norm_val (X:=cxM [a,b,c,d]) (v:=v) (l:=nd_pInv) (extM_ok _) hs (k:=155) (r:=.c 0) (ps:=[(10,.c 1),(18,.c 0)]) (nz:=[]) (ps_cons u (ps_cons u2 ps_nil)) nz_nil (by kernel_rfl),norm_val (X:=cxM [a,b,c,d]) (v:=v) (l:=nd_pInv) (extM_ok _) hs (k:=156) (r:=.c 0) (ps:=[(10,.c 1),(18,.c 0)]) (nz:=[]) (ps_cons u (ps_cons u2 ps_nil)) nz_nil (by kernel_rfl),norm_val (X:=cxM [a,b,c,d]) (v:=v) (l:=nd_pInv) (extM_ok _) hs (k:=157) (r:=.c 0) (ps:=[(10,.c 1),(18,.c 0)]) (nz:=[]) (ps_cons u (ps_cons u2 ps_nil)) nz_nil (by kernel_rfl),norm_val (X:=cxM [a,b,c,d]) (v:=v) (l:=nd_pInv) (extM_ok _) hs (k:=158) (r:=.c 0) (ps:=[(10,.c 1),(18,.c 0)]) (nz:=[]) (ps_cons u (ps_cons u2 ps_nil)) nz_nil (by kernel_rfl)⟩
 refine ⟨vcs_rev ?_,?_⟩
 · exact vcs_cons (fun hp=>absurd Z.1 (pt_true hp).1) (vcs_cons (fun hp=>absurd Z.1 (pt_true hp).1) (vcs_cons (fun hp=>absurd Z.1 (pt_true hp).1) (vcs_cons (fun hp=>absurd Z.1 (pt_true hp).1) (vcs_cons (fun hp=>absurd Z.1 (pt_true hp).1) (vcs_cons (fun hp=>absurd Z.1 (pt_true hp).1) (vcs_cons (fun hp=>absurd Z.1 (pt_true hp).1) (vcs_cons (fun hp=>absurd Z.1 (pt_true hp).1) (vcs_cons (fun hp=>absurd Z.1 (pt_true hp).1) (vcs_cons (fun hp=>absurd Z.1 (pt_true hp).1) (vcs_cons (fun hp=>absurd Z.1 (pt_true hp).1) (vcs_cons (fun hp=>absurd Z.1 (pt_true hp).1) (vcs_cons (fun hp=>absurd Z.1 (pt_true hp).1) (vcs_cons (fun hp=>absurd Z.1 (pt_true hp).1) (vcs_cons (fun hp=>absurd Z.1 (pt_true hp).1) (vcs_cons (fun hp=>absurd Z.1 (pt_true hp).1) (vcs_cons (fun hp=>absurd Z.1 (pt_true hp).1) (vcs_cons (fun hp=>absurd Z.1 (pt_true hp).1) (vcs_cons (fun hp=>absurd Z.1 (pt_true hp).1) (vcs_cons (fun hp=>absurd Z.1 (pt_true hp).1) (vcs_cons (fun hp=>absurd Z.1 (pt_true hp).1) (vcs_nil)))))))))))))))))))))
 · intro x hx0
   have hx':=valV_of (v:=v) (by rfl) hx0
   rw [hx']
   show Value.tuple #[.agg #[.int .i64 (v 155),.int .i64 (v 156),.int .i64 (v 157),.int .i64 (v 158)],.int .i64 (v 154)]=_
   obtain ⟨_,z1,z2,z3,z4,z5⟩:=Z
   rw [z1,z2,z3,z4,z5]
def kV (f:Nat):Bool:=f == 75 || f == 76 || f == 77
def semV:Nat→List Int→List Int
 | 75,[a,b,c,d]=>[(invV a b c d).getD 0 0,(invV a b c d).getD 1 0,(invV a b c d).getD 2 0,(invV a b c d).getD 3 0,(invV a b c d).getD 4 0]
 | 76,[a,b,c,d]=>crsV a b c d
 | 77,[a,b,c,d]=>dstV a b c d
 | _,_=>[]
def preV:Nat→List Int→Prop
 | 75,[_,_,_,_]=>True
 | 76,[a,b,c,d]=>PtV a b∧PtV c d
 | 77,[a,b,c,d]=>PtV a b∧PtV c d
 | _,_=>False
def cxV (args:List Int):Cx:=(cxM args).plus kV semV preV
theorem likeV (args:List Int):Like (cxV args):=like_plus (likeM args) fun f h=>by
 unfold kV
 rcases h with h | rfl
 · simp;omega
 · rfl
def sInv:Sx.Spec:=⟨128,75,[(true,[some .i64,some .i64]),(true,[some .i64,some .i64])],[(true,[some .i64,some .i64,some .i64,some .i64]),(false,[some .i64])]⟩
def rCour:Sx.Spec:=⟨45,76,[(true,[some .i64,some .i64]),(true,[some .i64,some .i64])],[(true,[some .i64,some .i64])]⟩
def rDist:Sx.Spec:=⟨159,77,[(true,[some .i64,some .i64]),(true,[some .i64,some .i64])],[(true,[some .i64,some .i64])]⟩
theorem spM_kV:∀ s ∈ spM,kV s.id=false:=by
 intro s hs
 rcases List.mem_append.1 hs with h | h
 · exact spAc_k kV (fun f h=>by unfold kV;simp;omega) s h
 · simp only [List.mem_cons,List.not_mem_nil,or_false] at h
   rcases h with rfl | rfl | rfl | rfl<;>rfl
def spV:List Sx.Spec:=spM ++ [sInv,rCour,rDist]
theorem spV_ok (args:List Int):∀ s ∈ spV,SpecOK Tryz.prog (cxV args) s:=by
 intro s hs
 rcases List.mem_append.1 hs with h | h
 · exact plus_old (spM_kV s h) (spM_ok args s h)
 · simp only [List.mem_cons,List.not_mem_nil,or_false] at h
   rcases h with rfl | rfl | rfl
   · refine plus_new rfl (ours _ _ _ Tryz.func128 rfl (by kernel_rfl)) fun xs hp w=>?_
     match xs,hp with
     | [a,b,c,d],hp =>
      by_cases q:PtV a b∧PtV c d
      · have V:invV a b c d=[(crsV a b c d).getD 0 0,(crsV a b c d).getD 1 0,(dstV a b c d).getD 0 0,(dstV a b c d).getD 1 0,0]:=if_pos q
        refine (c_pInv a b c d w q.1 q.2).mono ?_
        rintro e w' ⟨he,hb⟩
        refine ⟨?_,hb⟩
        rw [he]
        show _=Ending.returned (Value.tuple #[.agg #[.int .i64 ((invV a b c d).getD 0 0),.int .i64 ((invV a b c d).getD 1 0),.int .i64 ((invV a b c d).getD 2 0),.int .i64 ((invV a b c d).getD 3 0)],.int .i64 ((invV a b c d).getD 4 0)])
        rw [V];rfl
      · have V:invV a b c d=[0,0,0,0,1]:=if_neg q
        refine (c_pInvN a b c d w q).mono ?_
        rintro e w' ⟨he,hb⟩
        refine ⟨?_,hb⟩
        rw [he]
        show _=Ending.returned (Value.tuple #[.agg #[.int .i64 ((invV a b c d).getD 0 0),.int .i64 ((invV a b c d).getD 1 0),.int .i64 ((invV a b c d).getD 2 0),.int .i64 ((invV a b c d).getD 3 0)],.int .i64 ((invV a b c d).getD 4 0)])
        rw [V];rfl
   · refine plus_new rfl (ours _ _ _ Tryz.func45 rfl (by kernel_rfl)) fun xs hp w=>?_
     match xs,hp with
     | [a,b,c,d],hp=>exact c_rCou a b c d w hp.1 hp.2
   · refine plus_new rfl (ours _ _ _ Tryz.func159 rfl (by kernel_rfl)) fun xs hp w=>?_
     match xs,hp with
     | [a,b,c,d],hp=>exact c_rDis a b c d w hp.1 hp.2
def extV (t:Tab):Nd→Option Rf
 | .app 73 2 [_,_]=>some (.c 0)
 | .app 74 2 [_,_]=>some (.c 0)
 | .app 46 2 [_,_]=>some (.c 0)
 | .app 20 0 []=>some (.c 1)
 | x=>extB t x
theorem extV_ok (args:List Int):ExtOK (cxV args) extV:=by
 intro v t x r ht h
 unfold extV at h
 split at h
 · cases h;rfl
 · cases h;rfl
 · cases h;rfl
 · cases h;rfl
 · exact extX_ok (likeV args) v t x r ht h
end Go.Proofs.YtfffpodaabdpfaaGreat
