/- The known functions of the solution by tables. -/
import Derived.Test.YtdbaccfgkacffaaGreatZCosX
import Derived.Test.YtdbaccfgkacffaaGreatZSgn
set_option linter.unusedVariables false
set_option linter.unusedSimpArgs false
set_option maxRecDepth 100000
namespace Go.Proofs.YtdbaccfgkacffaaGreat
open Go.RowKit Alm Sx
def Tw:List Sx.Spec:=[aau,abI,ac9,ac5,sAz,rAz,acV,adw]
theorem SN (args:List Int):∀ s∈Tw,aT Tryz.prog (cxF args) s:=by
 intro s hs;simp only [Tw,List.mem_cons,List.not_mem_nil,or_false] at hs;rcases hs with rfl|rfl|rfl|rfl|rfl|rfl|rfl|rfl
 . refine dJ rfl (ours _ _ _ Tryz.func127 rfl (by kernel_rfl)) fun xs hp w=>?_
   match xs,hp with
   | [a,b,c,d,n],hp=>exact VH a b c d n w hp
 . refine dJ rfl (ours _ _ _ Tryz.func139 rfl (by kernel_rfl)) fun xs hp w=>?_
   match xs,hp with
   | [a,b,c,d,n],hp=>exact Su a b c d n w hp
 . refine dJ rfl (ours _ _ _ Tryz.func199 rfl (by kernel_rfl)) fun xs hp w=>?_
   match xs,hp with
   | [a,b,c,d,m,n],hp=>exact YF a b c d m n w hp.1 hp.2.1 hp.2.2
 . refine dJ rfl (ours _ _ _ Tryz.func212 rfl (by kernel_rfl)) fun xs hp w=>?_
   match xs,hp with
   | [a,b,c,d,m,n],hp=>exact Xr a b c d m n w hp.1 hp.2.1 hp.2.2
 . refine dJ rfl (ours _ _ _ Tryz.func200 rfl (by kernel_rfl)) fun xs hp w=>?_
   match xs,hp with
   | [a,b,c,d,m,n],hp=>exact abw a b c d m n w hp.1 hp.2.1 hp.2.2
 . refine dJ rfl (ours _ _ _ Tryz.func213 rfl (by kernel_rfl)) fun xs hp w=>?_
   match xs,hp with
   | [a,b,c,d,m,n],hp=>exact abh a b c d m n w hp.1 hp.2.1 hp.2.2
 . refine dJ rfl (ours _ _ _ Tryz.func43 rfl (by kernel_rfl)) fun xs hp w=>?_
   match xs,hp with
   | [a,b,c,d,m,n],hp=>exact UC a b c d m n w
 . refine dJ rfl (ours _ _ _ Tryz.func12 rfl (by kernel_rfl)) fun xs hp w=>?_
   match xs,hp with
   | [a,b,c,d,m,n],hp=>exact Un a b c d m n w
def Si:List Sx.Spec:=[YD,YT,Xp,Zr,Yb,Ye,Qb,Pe]
theorem Tt (args:List Int):∀ s∈Si,aT Tryz.prog (cxF args) s:=by
 intro s hs;simp only [Si,List.mem_cons,List.not_mem_nil,or_false] at hs;rcases hs with rfl|rfl|rfl|rfl|rfl|rfl|rfl|rfl
 . exact fI rfl (iW (by decide) (H9 args))
 . exact fI rfl (iW (by decide) (Ig args))
 . exact fI rfl (iW (by decide) (IC args))
 . exact fI rfl (iW (by decide) (IG args))
 . exact fI rfl (iW (by decide) (Ja args))
 . exact fI rfl (iW (by decide) (Jf args))
 . exact fI rfl (iW (by decide) (Dm args))
 . exact fI rfl (iW (by decide) (DU args))
def spQ:List Sx.Spec:=Si++Tw
theorem vE (args:List Int):∀ s∈spQ,aT Tryz.prog (cxF args) s:=by
 intro s hs;rcases List.mem_append.1 hs with h|h
 . exact Tt args s h
 . exact SN args s h
end Go.Proofs.YtdbaccfgkacffaaGreat
namespace Go.Proofs.YtdbaccfgkacffaaGreat
open Go.RowKit Alm Sx
theorem SH (lo hi:Int) (h:lo<=hi):bU lo<=-bU (-hi):=by
 obtain ⟨a0,a1,a2,_⟩:=jw lo;obtain ⟨b0,b1,b2,_⟩:=jw (-hi)
 by_cases hh:bU lo<=-bU (-hi)
 . exact hh
 . have m:=OT (-bU (-hi)) (bU lo) (by omega) (by omega) (by omega)
   have n:=(adi (-bU (-hi))).2;rw [Int.neg_neg] at n;omega
theorem Td (a b c d e f:Int):-5400000<=(jr a b c d e f).getD 0 0/\(jr a b c d e f).getD 0 0<=(jr a b c d e f).getD 1 0/\(jr a b c d e f).getD 1 0<=5400000:=by
 rw [(jD a b c d e f).1,(jD a b c d e f).2.1];have m:=rq a b c d e f;have le:=((cz _ _).1 (U_A (U_M (U_S a b) (U_S c d)).2.2 (U_M (U_M (U_C a b) (U_C c d)).2.2 (U_C e f)).2.2).2.2).2.1;unfold Bq xz;have x:=jw (max (mE a b c d e f).1 (-1073741824));have y:=jw (-(min (mE a b c d e f).2 1073741824));have z:=SH (max (mE a b c d e f).1 (-1073741824)) (min (mE a b c d e f).2 1073741824) (by unfold mE at *;omega)
 omega
theorem Yu (a b c d e f:Int):0<=(azV a b c d e f).getD 0 0/\(azV a b c d e f).getD 0 0<=21599999/\(azV a b c d e f).getD 0 0<=(azV a b c d e f).getD 1 0/\(azV a b c d e f).getD 1 0<=(azV a b c d e f).getD 0 0+21600000:=by
 rw [(mr a b c d e f).1,(mr a b c d e f).2.1];exact Wl _ _ _ _
def slV (a b c d m n:Int):List Int:=[(jr a b c d m n).getD 0 0,(jr a b c d m n).getD 1 0,(azV a b c d m n).getD 0 0,(azV a b c d m n).getD 1 0]
theorem PP (a b c d m n:Int):(-5400000<=(slV a b c d m n).getD 0 0/\(slV a b c d m n).getD 0 0<=(slV a b c d m n).getD 1 0/\(slV a b c d m n).getD 1 0<=5400000)/\(0<=(slV a b c d m n).getD 2 0/\(slV a b c d m n).getD 2 0<=21599999/\(slV a b c d m n).getD 2 0<=(slV a b c d m n).getD 3 0/\(slV a b c d m n).getD 3 0<=(slV a b c d m n).getD 2 0+21600000):=⟨Td a b c d m n,Yu a b c d m n⟩
theorem Em {a b c d m n:Int} (h:gy a b c d m n):bf a b=true/\bf c d=true/\bf m n=true:=by
 obtain ⟨h1,h2,h3⟩:=h;exact ⟨(aV _ _).2 (by omega),(aV _ _).2 (by omega),(aV _ _).2 h3⟩
theorem dE {X:Cx} {v:Nat->Int} {ext:Ext} (he:jA X ext) {l:List Nd} (hs:gV X v l.reverse) {ps:List (Nat × Rf)} (hp:∀ q∈ps,v q.1=q.2.val v) {k j:Nat} (h:Rf.eq ((norm ext ps [] l).rep (.n k)) ((norm ext ps [] l).rep (.n j))=true):v k=v j:=by
 have a:=jL (jE he hs hp aA) (.n k);have b:=jL (jE he hs hp aA) (.n j);rw [Rf.eq_eq h] at a;exact a.symm.trans b
def jv:List Nd:=[.arg 0,.arg 1,.arg 2,.arg 3,.arg 4,.arg 5,.app 52 0 [0,1,2,3,4,5],.ite 6 (.c 0) (.c 1),.ite 7 (.c 0) (.c 1),.app 50 0 [0,1,2,3,4,5],.app 50 1 [0,1,2,3,4,5],.app 50 2 [0,1,2,3,4,5],.ite 7 (.c 1) 11,.ite 7 (.c 0) 9,.ite 7 (.c 0) 10,.bin .neq .i64 12 (.c 0),.ite 15 (.c 0) (.c 1),.app 51 0 [0,1,2,3,4,5],.app 51 1 [0,1,2,3,4,5],.app 51 2 [0,1,2,3,4,5],.ite 7 (.c 1) 19,.ite 7 (.c 0) 17,.ite 7 (.c 0) 18,.bin .neq .i64 20 (.c 0),.ite 23 (.c 0) (.c 1),.ite 23 20 (.c 0),.ite 23 (.c 0) 13,.ite 23 (.c 0) 14,.ite 23 (.c 0) 21,.ite 23 (.c 0) 22,.ite 15 12 25,.ite 15 12 20,.ite 15 (.c 0) 26,.ite 15 (.c 0) 27,.ite 15 (.c 0) 28,.ite 15 (.c 0) 29]
def NU:List Vc:=[⟨[],.pre 52 [0,1,2,3,4,5]⟩,⟨[(8,true)],.pre 50 [0,1,2,3,4,5]⟩,⟨[(16,true)],.pre 52 [0,1,2,3,4,5]⟩,⟨[(8,true),(16,true)],.pre 51 [0,1,2,3,4,5]⟩]
theorem Qf:whole Tryz.prog spQ 20 40 47 [(true,[some .i64,some .i64,some .i64,some .i64,some .i64,some .i64])]=some (.tup [.agg [.int .i64 (.n 32),.int .i64 (.n 33),.int .i64 (.n 34),.int .i64 (.n 35)],.c (.int .i64 (.n 30))],⟨jv.reverse,NU.reverse⟩):=by kernel_rfl
theorem NB:wfN jv.reverse=true:=by kernel_rfl
theorem PH (a b c d m n:Int) (w:World) (h:gy a b c d m n):Calls Tryz.prog 47 #[.agg #[.int .i64 a,.int .i64 b,.int .i64 c,.int .i64 d,.int .i64 m,.int .i64 n]] w fun e w'=>e=.returned (.tuple #[.agg #[.int .i64 ((slV a b c d m n).getD 0 0),.int .i64 ((slV a b c d m n).getD 1 0),.int .i64 ((slV a b c d m n).getD 2 0),.int .i64 ((slV a b c d m n).getD 3 0)],.int .i64 0])/\Below w.heap.size w w':=by
 refine Sx.calls (X:=cxF [a,b,c,d,m,n]) dG (vE _) Qf NB (fun v hs=>?_) w
 have e0:v 0=a:=aa hs 0 rfl;have e1:v 1=b:=aa hs 1 rfl;have e2:v 2=c:=aa hs 2 rfl;have e3:v 3=d:=aa hs 3 rfl;have e4:v 4=m:=aa hs 4 rfl;have e5:v 5=n:=aa hs 5 rfl;have hv:gy (v 0) (v 1) (v 2) (v 3) (v 4) (v 5):=by rw [e0,e1,e2,e3,e4,e5];exact h
 have ha:=Em hv;have k6:v 6=1:=by rw [show v 6=b2i (decide (gy (v 0) (v 1) (v 2) (v 3) (v 4) (v 5))) from aa hs 6 rfl,decide_eq_true hv];rfl
 have z32:v 32=v 9:=dE (X:=cxF [a,b,c,d,m,n]) (v:=v) (l:=jv) (pK _) hs (k:=32) (j:=9) (ps:=[(6,.c 1)]) (ae k6 av) (by kernel_rfl)
 have z33:v 33=v 10:=dE (X:=cxF [a,b,c,d,m,n]) (v:=v) (l:=jv) (pK _) hs (k:=33) (j:=10) (ps:=[(6,.c 1)]) (ae k6 av) (by kernel_rfl)
 have z34:v 34=v 17:=dE (X:=cxF [a,b,c,d,m,n]) (v:=v) (l:=jv) (pK _) hs (k:=34) (j:=17) (ps:=[(6,.c 1)]) (ae k6 av) (by kernel_rfl)
 have z35:v 35=v 18:=dE (X:=cxF [a,b,c,d,m,n]) (v:=v) (l:=jv) (pK _) hs (k:=35) (j:=18) (ps:=[(6,.c 1)]) (ae k6 av) (by kernel_rfl)
 have z30:v 30=0:=ax (X:=cxF [a,b,c,d,m,n]) (v:=v) (l:=jv) (pK _) hs (k:=30) (r:=.c 0) (ps:=[(6,.c 1)]) (nz:=[]) (ae k6 av) aA (by kernel_rfl)
 have w9:v 9=(jr a b c d m n).getD 0 0:=by rw [show v 9=(jr (v 0) (v 1) (v 2) (v 3) (v 4) (v 5)).getD 0 0 from aa hs 9 rfl,e0,e1,e2,e3,e4,e5]
 have w10:v 10=(jr a b c d m n).getD 1 0:=by rw [show v 10=(jr (v 0) (v 1) (v 2) (v 3) (v 4) (v 5)).getD 1 0 from aa hs 10 rfl,e0,e1,e2,e3,e4,e5]
 have w17:v 17=(azV a b c d m n).getD 0 0:=by rw [show v 17=(azV (v 0) (v 1) (v 2) (v 3) (v 4) (v 5)).getD 0 0 from aa hs 17 rfl,e0,e1,e2,e3,e4,e5]
 have w18:v 18=(azV a b c d m n).getD 1 0:=by rw [show v 18=(azV (v 0) (v 1) (v 2) (v 3) (v 4) (v 5)).getD 1 0 from aa hs 18 rfl,e0,e1,e2,e3,e4,e5]
 refine ⟨aS ?_,?_⟩
 . exact ag (fun _=>trivial) (ag (fun _=>ha) (ag (fun _=>trivial) (ag (fun _=>ha) (aR))))
 . intro x hx0;have hx':=bE (v:=v) (by rfl) hx0
   rw [hx'];show Value.tuple #[.agg #[.int .i64 (v 32),.int .i64 (v 33),.int .i64 (v 34),.int .i64 (v 35)],.int .i64 (v 30)]=_;rw [z32,z33,z34,z35,z30,w9,w10,w17,w18];rfl
def EO:List Nd:=[.arg 0,.arg 1,.arg 2,.arg 3,.arg 4,.arg 5,.app 50 0 [0,1,2,3,4,5],.app 50 1 [0,1,2,3,4,5],.app 51 0 [0,1,2,3,4,5],.app 51 1 [0,1,2,3,4,5]]
def Oe:List Vc:=[⟨[],.pre 50 [0,1,2,3,4,5]⟩,⟨[],.pre 51 [0,1,2,3,4,5]⟩]
theorem Q4:whole Tryz.prog spQ 20 40 132 [(true,[some .i64,some .i64,some .i64,some .i64,some .i64,some .i64])]=some (.p (.agg [.int .i64 (.n 6),.int .i64 (.n 7),.int .i64 (.n 8),.int .i64 (.n 9)]),⟨EO.reverse,Oe.reverse⟩):=by kernel_rfl
theorem PQ:wfN EO.reverse=true:=by kernel_rfl
theorem Qr (a b c d m n:Int) (w:World) (h:gy a b c d m n):Calls Tryz.prog 132 #[.agg #[.int .i64 a,.int .i64 b,.int .i64 c,.int .i64 d,.int .i64 m,.int .i64 n]] w fun e w'=>e=.returned (.agg #[.int .i64 ((slV a b c d m n).getD 0 0),.int .i64 ((slV a b c d m n).getD 1 0),.int .i64 ((slV a b c d m n).getD 2 0),.int .i64 ((slV a b c d m n).getD 3 0)])/\Below w.heap.size w w':=by
 refine Sx.calls (X:=cxF [a,b,c,d,m,n]) dG (vE _) Q4 PQ (fun v hs=>?_) w
 have e0:v 0=a:=aa hs 0 rfl;have e1:v 1=b:=aa hs 1 rfl;have e2:v 2=c:=aa hs 2 rfl;have e3:v 3=d:=aa hs 3 rfl;have e4:v 4=m:=aa hs 4 rfl;have e5:v 5=n:=aa hs 5 rfl;have hv:gy (v 0) (v 1) (v 2) (v 3) (v 4) (v 5):=by rw [e0,e1,e2,e3,e4,e5];exact h
 have ha:=Em hv;have w6:v 6=(jr a b c d m n).getD 0 0:=by rw [show v 6=(jr (v 0) (v 1) (v 2) (v 3) (v 4) (v 5)).getD 0 0 from aa hs 6 rfl,e0,e1,e2,e3,e4,e5]
 have w7:v 7=(jr a b c d m n).getD 1 0:=by rw [show v 7=(jr (v 0) (v 1) (v 2) (v 3) (v 4) (v 5)).getD 1 0 from aa hs 7 rfl,e0,e1,e2,e3,e4,e5]
 have w8:v 8=(azV a b c d m n).getD 0 0:=by rw [show v 8=(azV (v 0) (v 1) (v 2) (v 3) (v 4) (v 5)).getD 0 0 from aa hs 8 rfl,e0,e1,e2,e3,e4,e5]
 have w9:v 9=(azV a b c d m n).getD 1 0:=by rw [show v 9=(azV (v 0) (v 1) (v 2) (v 3) (v 4) (v 5)).getD 1 0 from aa hs 9 rfl,e0,e1,e2,e3,e4,e5]
 refine ⟨aS ?_,?_⟩
 . exact ag (fun _=>ha) (ag (fun _=>ha) (aR))
 . intro x hx0;have hx':=bE (v:=v) (by rfl) hx0
   rw [hx'];show Value.agg #[.int .i64 (v 6),.int .i64 (v 7),.int .i64 (v 8),.int .i64 (v 9)]=_;rw [w6,w7,w8,w9];rfl
def kS (f:Nat):Bool:=f==53
def iO:Nat->List Int->List Int
 | 53,[a,b,c,d,m,n]=>[(slV a b c d m n).getD 0 0,(slV a b c d m n).getD 1 0,(slV a b c d m n).getD 2 0,(slV a b c d m n).getD 3 0,0]
 | _,_=>[]
def ady:Nat->List Int->Prop
 | 53,[a,b,c,d,m,n]=>gy a b c d m n
 | _,_=>False
def cxS (args:List Int):Cx:=(cxF args).plus kS iO ady
theorem WA (args:List Int):AA (cxS args):=rT (WP args) fun f h=>by
 unfold kS;rcases h with h|rfl
 . simp;omega
 . rfl
def GY:Sx.Spec:=⟨47,53,[(true,[some .i64,some .i64,some .i64,some .i64,some .i64,some .i64])],[(true,[some .i64,some .i64,some .i64,some .i64]),(false,[some .i64])]⟩
def QZ:Sx.Spec:=⟨132,53,[(true,[some .i64,some .i64,some .i64,some .i64,some .i64,some .i64])],[(true,[some .i64,some .i64,some .i64,some .i64])]⟩
theorem yF (args:List Int):aT Tryz.prog (cxS args) GY :=
 dJ rfl (ours _ _ _ Tryz.func47 rfl (by kernel_rfl)) fun xs hp w =>
  match xs,hp with
  | [a,b,c,d,m,n],hp=>PH a b c d m n w hp
theorem Kj (args:List Int):aT Tryz.prog (cxS args) QZ :=
 dJ rfl (ours _ _ _ Tryz.func132 rfl (by kernel_rfl)) fun xs hp w =>
  match xs,hp with
  | [a,b,c,d,m,n],hp=>Qr a b c d m n w hp
def spS:List Sx.Spec:=spQ++[GY,QZ]
theorem Yx:∀ s∈spQ,kS s.id=false:=by
 intro s h;simp only [spQ,Si,Tw,List.mem_append,List.mem_cons,List.not_mem_nil,or_false] at h;rcases h with h|h
 . rcases h with rfl|rfl|rfl|rfl|rfl|rfl|rfl|rfl<;>rfl
 . rcases h with rfl|rfl|rfl|rfl|rfl|rfl|rfl|rfl<;>rfl
theorem Yz (args:List Int):∀ s∈spS,aT Tryz.prog (cxS args) s:=by
 intro s hs;rcases List.mem_append.1 hs with h|h
 . exact fI (Yx s h) (vE args s h)
 . simp only [List.mem_cons,List.not_mem_nil,or_false] at h;rcases h with rfl|rfl
   . exact yF args
   . exact Kj args
def ab2 (t:Tab):Nd->Option Rf
 | .app 53 4 [_,_,_,_,_,_]=>some (.c 0)
 | x=>Lc t x
theorem il (args:List Int):jA (cxS args) ab2:=by
 intro v t x r ht h;unfold ab2 at h;split at h
 . cases h;rfl
 . exact uF (WA args) v t x r ht h
