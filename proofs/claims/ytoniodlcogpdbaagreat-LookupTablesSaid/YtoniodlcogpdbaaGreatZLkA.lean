/- The known functions of the solution by tables. -/
import Derived.Test.YtoniodlcogpdbaaGreatZCosX
import Derived.Test.YtoniodlcogpdbaaGreatZSgn
set_option linter.unusedVariables false
set_option linter.unusedSimpArgs false
set_option maxRecDepth 100000
namespace Go.Proofs.YtoniodlcogpdbaaGreat
open Go.RowKit Alm Sx
def UX:List Sx.Spec:=[abC,aaJ,adS,adH,sAz,rAz,adN]
theorem VA (args:List Int):∀ s∈UX,aR Tryz.prog (cxF args) s:=by
 intro s hs;simp only [UX,List.mem_cons,List.not_mem_nil,or_false] at hs;rcases hs with rfl|rfl|rfl|rfl|rfl|rfl|rfl
 . refine dM rfl (ours _ _ _ Tryz.func48 rfl (by kernel_rfl)) fun xs hp w=>?_
   match xs,hp with
   | [a,b,c,d,n],hp=>exact UC a b c d n w hp
 . refine dM rfl (ours _ _ _ Tryz.func52 rfl (by kernel_rfl)) fun xs hp w=>?_
   match xs,hp with
   | [a,b,c,d,n],hp=>exact VQ a b c d n w hp
 . refine dM rfl (ours _ _ _ Tryz.func94 rfl (by kernel_rfl)) fun xs hp w=>?_
   match xs,hp with
   | [a,b,c,d,m,n],hp=>exact YP a b c d m n w hp.1 hp.2.1 hp.2.2
 . refine dM rfl (ours _ _ _ Tryz.func25 rfl (by kernel_rfl)) fun xs hp w=>?_
   match xs,hp with
   | [a,b,c,d,m,n],hp=>exact Yl a b c d m n w hp.1 hp.2.1 hp.2.2
 . refine dM rfl (ours _ _ _ Tryz.func95 rfl (by kernel_rfl)) fun xs hp w=>?_
   match xs,hp with
   | [a,b,c,d,m,n],hp=>exact acP a b c d m n w hp.1 hp.2.1 hp.2.2
 . refine dM rfl (ours _ _ _ Tryz.func26 rfl (by kernel_rfl)) fun xs hp w=>?_
   match xs,hp with
   | [a,b,c,d,m,n],hp=>exact aaO a b c d m n w hp.1 hp.2.1 hp.2.2
 . refine dM rfl (ours _ _ _ Tryz.func27 rfl (by kernel_rfl)) fun xs hp w=>?_
   match xs,hp with
   | [a,b,c,d,m,n],hp=>exact Wl a b c d m n w
def TF:List Sx.Spec:=[XZ,X5,YY,ZU,XX,Y6,QY,OD]
theorem Vq (args:List Int):∀ s∈TF,aR Tryz.prog (cxF args) s:=by
 intro s hs;simp only [TF,List.mem_cons,List.not_mem_nil,or_false] at hs;rcases hs with rfl|rfl|rfl|rfl|rfl|rfl|rfl|rfl
 . exact fO rfl (iY (by decide) (Kt args))
 . exact fO rfl (iY (by decide) (JI args))
 . exact fO rfl (iY (by decide) (IJ args))
 . exact fO rfl (iY (by decide) (J6 args))
 . exact fO rfl (iY (by decide) (JZ args))
 . exact fO rfl (iY (by decide) (I1 args))
 . exact fO rfl (iY (by decide) (DT args))
 . exact fO rfl (iY (by decide) (FZ args))
def spQ:List Sx.Spec:=TF++UX
theorem AZ (args:List Int):∀ s∈spQ,aR Tryz.prog (cxF args) s:=by
 intro s hs;rcases List.mem_append.1 hs with h|h
 . exact Vq args s h
 . exact VA args s h
end Go.Proofs.YtoniodlcogpdbaaGreat
namespace Go.Proofs.YtoniodlcogpdbaaGreat
open Go.RowKit Alm Sx
theorem VD (lo hi:Int) (h:lo<=hi):bU lo<=-bU (-hi):=by
 obtain ⟨a0,a1,a2,_⟩:=jw lo;obtain ⟨b0,b1,b2,_⟩:=jw (-hi)
 by_cases hh:bU lo<=-bU (-hi)
 . exact hh
 . have m:=GA (-bU (-hi)) (bU lo) (by omega) (by omega) (by omega)
   have n:=(adl (-bU (-hi))).2;rw [Int.neg_neg] at n;omega
theorem Wu (a b c d e f:Int):-5400000<=(jy a b c d e f).getD 0 0/\(jy a b c d e f).getD 0 0<=(jy a b c d e f).getD 1 0/\(jy a b c d e f).getD 1 0<=5400000:=by
 rw [(jD a b c d e f).1,(jD a b c d e f).2.1];have m:=uh a b c d e f;have le:=((bS _ _).1 (U_A (U_M (U_S a b) (U_S c d)).2.2 (U_M (U_M (U_C a b) (U_C c d)).2.2 (U_C e f)).2.2).2.2).2.1;unfold Br vT;have x:=jw (max (mQ a b c d e f).1 (-1073741824));have y:=jw (-(min (mQ a b c d e f).2 1073741824));have z:=VD (max (mQ a b c d e f).1 (-1073741824)) (min (mQ a b c d e f).2 1073741824) (by unfold mQ at *;omega)
 omega
theorem Xr (a b c d e f:Int):0<=(azV a b c d e f).getD 0 0/\(azV a b c d e f).getD 0 0<=21599999/\(azV a b c d e f).getD 0 0<=(azV a b c d e f).getD 1 0/\(azV a b c d e f).getD 1 0<=(azV a b c d e f).getD 0 0+21600000:=by
 rw [(ng a b c d e f).1,(ng a b c d e f).2.1];exact SA _ _ _ _
def slV (a b c d m n:Int):List Int:=[(jy a b c d m n).getD 0 0,(jy a b c d m n).getD 1 0,(azV a b c d m n).getD 0 0,(azV a b c d m n).getD 1 0]
theorem C8 (a b c d m n:Int):(-5400000<=(slV a b c d m n).getD 0 0/\(slV a b c d m n).getD 0 0<=(slV a b c d m n).getD 1 0/\(slV a b c d m n).getD 1 0<=5400000)/\(0<=(slV a b c d m n).getD 2 0/\(slV a b c d m n).getD 2 0<=21599999/\(slV a b c d m n).getD 2 0<=(slV a b c d m n).getD 3 0/\(slV a b c d m n).getD 3 0<=(slV a b c d m n).getD 2 0+21600000):=⟨Wu a b c d m n,Xr a b c d m n⟩
theorem FQ {a b c d m n:Int} (h:fB a b c d m n):aQ a b=true/\aQ c d=true/\aQ m n=true:=by
 obtain ⟨h1,h2,h3⟩:=h;exact ⟨(aJ _ _).2 (by omega),(aJ _ _).2 (by omega),(aJ _ _).2 h3⟩
theorem dB {X:Cx} {v:Nat->Int} {ext:Ext} (he:jG X ext) {l:List Nd} (hs:gW X v l.reverse) {ps:List (Nat × Rf)} (hp:∀ q∈ps,v q.1=q.2.val v) {k j:Nat} (h:Rf.eq ((norm ext ps [] l).rep (.n k)) ((norm ext ps [] l).rep (.n j))=true):v k=v j:=by
 have a:=jP (jE he hs hp aA) (.n k);have b:=jP (jE he hs hp aA) (.n j);rw [Rf.eq_eq h] at a;exact a.symm.trans b
def jr:List Nd:=[
 .arg 0,
 .arg 1,
 .arg 2,
 .arg 3,
 .arg 4,
 .arg 5,
 .app 52 0 [.n 0,.n 1,.n 2,.n 3,.n 4,.n 5],
 .ite (.n 6) (.c 0) (.c 1),
 .ite (.n 7) (.c 0) (.c 1),
 .app 50 0 [.n 0,.n 1,.n 2,.n 3,.n 4,.n 5],
 .app 50 1 [.n 0,.n 1,.n 2,.n 3,.n 4,.n 5],
 .app 50 2 [.n 0,.n 1,.n 2,.n 3,.n 4,.n 5],
 .ite (.n 7) (.c 1) (.n 11),
 .ite (.n 7) (.c 0) (.n 9),
 .ite (.n 7) (.c 0) (.n 10),
 .bin .neq .i64 (.n 12) (.c 0),
 .ite (.n 15) (.c 0) (.c 1),
 .app 51 0 [.n 0,.n 1,.n 2,.n 3,.n 4,.n 5],
 .app 51 1 [.n 0,.n 1,.n 2,.n 3,.n 4,.n 5],
 .app 51 2 [.n 0,.n 1,.n 2,.n 3,.n 4,.n 5],
 .ite (.n 7) (.c 1) (.n 19),
 .ite (.n 7) (.c 0) (.n 17),
 .ite (.n 7) (.c 0) (.n 18),
 .bin .neq .i64 (.n 20) (.c 0),
 .ite (.n 23) (.c 0) (.c 1),
 .ite (.n 23) (.n 20) (.c 0),
 .ite (.n 23) (.c 0) (.n 13),
 .ite (.n 23) (.c 0) (.n 14),
 .ite (.n 23) (.c 0) (.n 21),
 .ite (.n 23) (.c 0) (.n 22),
 .ite (.n 15) (.n 12) (.n 25),
 .ite (.n 15) (.n 12) (.n 20),
 .ite (.n 15) (.c 0) (.n 26),
 .ite (.n 15) (.c 0) (.n 27),
 .ite (.n 15) (.c 0) (.n 28),
 .ite (.n 15) (.c 0) (.n 29)]
def Qv:List Vc:=[
 ⟨[],.pre 52 [.n 0,.n 1,.n 2,.n 3,.n 4,.n 5]⟩,
 ⟨[(.n 8,true)],.pre 50 [.n 0,.n 1,.n 2,.n 3,.n 4,.n 5]⟩,
 ⟨[(.n 16,true)],.pre 52 [.n 0,.n 1,.n 2,.n 3,.n 4,.n 5]⟩,
 ⟨[(.n 8,true),(.n 16,true)],.pre 51 [.n 0,.n 1,.n 2,.n 3,.n 4,.n 5]⟩]
theorem NU:whole Tryz.prog spQ 20 40 30 [(true,[some .i64,some .i64,some .i64,some .i64,some .i64,some .i64])]=some (.tup [.agg [.int .i64 (.n 32),.int .i64 (.n 33),.int .i64 (.n 34),.int .i64 (.n 35)],.c (.int .i64 (.n 30))],⟨jr.reverse,Qv.reverse⟩):=by kernel_rfl
theorem Rv:wfN jr.reverse=true:=by kernel_rfl
theorem Pe (a b c d m n:Int) (w:World) (h:fB a b c d m n):Calls Tryz.prog 30 #[.agg #[.int .i64 a,.int .i64 b,.int .i64 c,.int .i64 d,.int .i64 m,.int .i64 n]] w fun e w'=>e=.returned (.tuple #[.agg #[.int .i64 ((slV a b c d m n).getD 0 0),.int .i64 ((slV a b c d m n).getD 1 0),.int .i64 ((slV a b c d m n).getD 2 0),.int .i64 ((slV a b c d m n).getD 3 0)],.int .i64 0])/\Below w.heap.size w w':=by
 refine Sx.calls (X:=cxF [a,b,c,d,m,n]) dP (AZ _) NU Rv (fun v hs=>?_) w
 have e0:v 0=a:=aa hs 0 rfl;have e1:v 1=b:=aa hs 1 rfl;have e2:v 2=c:=aa hs 2 rfl;have e3:v 3=d:=aa hs 3 rfl;have e4:v 4=m:=aa hs 4 rfl;have e5:v 5=n:=aa hs 5 rfl;have hv:fB (v 0) (v 1) (v 2) (v 3) (v 4) (v 5):=by rw [e0,e1,e2,e3,e4,e5];exact h
 have ha:=FQ hv;have k6:v 6=1:=by rw [show v 6=b2i (decide (fB (v 0) (v 1) (v 2) (v 3) (v 4) (v 5))) from aa hs 6 rfl,decide_eq_true hv];rfl
 have z32:v 32=v 9:=dB (X:=cxF [a,b,c,d,m,n]) (v:=v) (l:=jr) (pU _) hs (k:=32) (j:=9) (ps:=[(6,.c 1)]) (ae k6 av) (by kernel_rfl)
 have z33:v 33=v 10:=dB (X:=cxF [a,b,c,d,m,n]) (v:=v) (l:=jr) (pU _) hs (k:=33) (j:=10) (ps:=[(6,.c 1)]) (ae k6 av) (by kernel_rfl)
 have z34:v 34=v 17:=dB (X:=cxF [a,b,c,d,m,n]) (v:=v) (l:=jr) (pU _) hs (k:=34) (j:=17) (ps:=[(6,.c 1)]) (ae k6 av) (by kernel_rfl)
 have z35:v 35=v 18:=dB (X:=cxF [a,b,c,d,m,n]) (v:=v) (l:=jr) (pU _) hs (k:=35) (j:=18) (ps:=[(6,.c 1)]) (ae k6 av) (by kernel_rfl)
 have z30:v 30=0:=ax (X:=cxF [a,b,c,d,m,n]) (v:=v) (l:=jr) (pU _) hs (k:=30) (r:=.c 0) (ps:=[(6,.c 1)]) (nz:=[]) (ae k6 av) aA (by kernel_rfl)
 have w9:v 9=(jy a b c d m n).getD 0 0:=by rw [show v 9=(jy (v 0) (v 1) (v 2) (v 3) (v 4) (v 5)).getD 0 0 from aa hs 9 rfl,e0,e1,e2,e3,e4,e5]
 have w10:v 10=(jy a b c d m n).getD 1 0:=by rw [show v 10=(jy (v 0) (v 1) (v 2) (v 3) (v 4) (v 5)).getD 1 0 from aa hs 10 rfl,e0,e1,e2,e3,e4,e5]
 have w17:v 17=(azV a b c d m n).getD 0 0:=by rw [show v 17=(azV (v 0) (v 1) (v 2) (v 3) (v 4) (v 5)).getD 0 0 from aa hs 17 rfl,e0,e1,e2,e3,e4,e5]
 have w18:v 18=(azV a b c d m n).getD 1 0:=by rw [show v 18=(azV (v 0) (v 1) (v 2) (v 3) (v 4) (v 5)).getD 1 0 from aa hs 18 rfl,e0,e1,e2,e3,e4,e5]
 refine ⟨bB ?_,?_⟩
 . exact ag (fun _=>trivial) (ag (fun _=>ha) (ag (fun _=>trivial) (ag (fun _=>ha) (bu))))
 . intro x hx0;have hx':=bM (v:=v) (by rfl) hx0
   rw [hx'];show Value.tuple #[.agg #[.int .i64 (v 32),.int .i64 (v 33),.int .i64 (v 34),.int .i64 (v 35)],.int .i64 (v 30)]=_;rw [z32,z33,z34,z35,z30,w9,w10,w17,w18];rfl
def DC:List Nd:=[
 .arg 0,
 .arg 1,
 .arg 2,
 .arg 3,
 .arg 4,
 .arg 5,
 .app 50 0 [.n 0,.n 1,.n 2,.n 3,.n 4,.n 5],
 .app 50 1 [.n 0,.n 1,.n 2,.n 3,.n 4,.n 5],
 .app 51 0 [.n 0,.n 1,.n 2,.n 3,.n 4,.n 5],
 .app 51 1 [.n 0,.n 1,.n 2,.n 3,.n 4,.n 5]]
def O7:List Vc:=[
 ⟨[],.pre 50 [.n 0,.n 1,.n 2,.n 3,.n 4,.n 5]⟩,
 ⟨[],.pre 51 [.n 0,.n 1,.n 2,.n 3,.n 4,.n 5]⟩]
theorem RI:whole Tryz.prog spQ 20 40 9 [(true,[some .i64,some .i64,some .i64,some .i64,some .i64,some .i64])]=some (.p (.agg [.int .i64 (.n 6),.int .i64 (.n 7),.int .i64 (.n 8),.int .i64 (.n 9)]),⟨DC.reverse,O7.reverse⟩):=by kernel_rfl
theorem NQ:wfN DC.reverse=true:=by kernel_rfl
theorem ES (a b c d m n:Int) (w:World) (h:fB a b c d m n):Calls Tryz.prog 9 #[.agg #[.int .i64 a,.int .i64 b,.int .i64 c,.int .i64 d,.int .i64 m,.int .i64 n]] w fun e w'=>e=.returned (.agg #[.int .i64 ((slV a b c d m n).getD 0 0),.int .i64 ((slV a b c d m n).getD 1 0),.int .i64 ((slV a b c d m n).getD 2 0),.int .i64 ((slV a b c d m n).getD 3 0)])/\Below w.heap.size w w':=by
 refine Sx.calls (X:=cxF [a,b,c,d,m,n]) dP (AZ _) RI NQ (fun v hs=>?_) w
 have e0:v 0=a:=aa hs 0 rfl;have e1:v 1=b:=aa hs 1 rfl;have e2:v 2=c:=aa hs 2 rfl;have e3:v 3=d:=aa hs 3 rfl;have e4:v 4=m:=aa hs 4 rfl;have e5:v 5=n:=aa hs 5 rfl;have hv:fB (v 0) (v 1) (v 2) (v 3) (v 4) (v 5):=by rw [e0,e1,e2,e3,e4,e5];exact h
 have ha:=FQ hv;have w6:v 6=(jy a b c d m n).getD 0 0:=by rw [show v 6=(jy (v 0) (v 1) (v 2) (v 3) (v 4) (v 5)).getD 0 0 from aa hs 6 rfl,e0,e1,e2,e3,e4,e5]
 have w7:v 7=(jy a b c d m n).getD 1 0:=by rw [show v 7=(jy (v 0) (v 1) (v 2) (v 3) (v 4) (v 5)).getD 1 0 from aa hs 7 rfl,e0,e1,e2,e3,e4,e5]
 have w8:v 8=(azV a b c d m n).getD 0 0:=by rw [show v 8=(azV (v 0) (v 1) (v 2) (v 3) (v 4) (v 5)).getD 0 0 from aa hs 8 rfl,e0,e1,e2,e3,e4,e5]
 have w9:v 9=(azV a b c d m n).getD 1 0:=by rw [show v 9=(azV (v 0) (v 1) (v 2) (v 3) (v 4) (v 5)).getD 1 0 from aa hs 9 rfl,e0,e1,e2,e3,e4,e5]
 refine ⟨bB ?_,?_⟩
 . exact ag (fun _=>ha) (ag (fun _=>ha) (bu))
 . intro x hx0;have hx':=bM (v:=v) (by rfl) hx0
   rw [hx'];show Value.agg #[.int .i64 (v 6),.int .i64 (v 7),.int .i64 (v 8),.int .i64 (v 9)]=_;rw [w6,w7,w8,w9];rfl
def kS (f:Nat):Bool:=f==53
def fD:Nat->List Int->List Int
 | 53,[a,b,c,d,m,n]=>[(slV a b c d m n).getD 0 0,(slV a b c d m n).getD 1 0,(slV a b c d m n).getD 2 0,(slV a b c d m n).getD 3 0,0]
 | _,_=>[]
def adF:Nat->List Int->Prop
 | 53,[a,b,c,d,m,n]=>fB a b c d m n
 | _,_=>False
def cxS (args:List Int):Cx:=(cxF args).plus kS fD adF
theorem WQ (args:List Int):Cq (cxS args):=ui (Ww args) fun f h=>by
 unfold kS;rcases h with h|rfl
 . simp;omega
 . rfl
def Ip:Sx.Spec:=⟨30,53,[(true,[some .i64,some .i64,some .i64,some .i64,some .i64,some .i64])],[(true,[some .i64,some .i64,some .i64,some .i64]),(false,[some .i64])]⟩
def RJ:Sx.Spec:=⟨9,53,[(true,[some .i64,some .i64,some .i64,some .i64,some .i64,some .i64])],[(true,[some .i64,some .i64,some .i64,some .i64])]⟩
theorem zO (args:List Int):aR Tryz.prog (cxS args) Ip :=
 dM rfl (ours _ _ _ Tryz.func30 rfl (by kernel_rfl)) fun xs hp w =>
  match xs,hp with
  | [a,b,c,d,m,n],hp=>Pe a b c d m n w hp
theorem Lf (args:List Int):aR Tryz.prog (cxS args) RJ :=
 dM rfl (ours _ _ _ Tryz.func9 rfl (by kernel_rfl)) fun xs hp w =>
  match xs,hp with
  | [a,b,c,d,m,n],hp=>ES a b c d m n w hp
def spS:List Sx.Spec:=spQ++[Ip,RJ]
theorem Xz:∀ s∈spQ,kS s.id=false:=by
 intro s h;simp only [spQ,TF,UX,List.mem_append,List.mem_cons,List.not_mem_nil,or_false] at h;rcases h with h|h
 . rcases h with rfl|rfl|rfl|rfl|rfl|rfl|rfl|rfl<;>rfl
 . rcases h with rfl|rfl|rfl|rfl|rfl|rfl|rfl<;>rfl
theorem Q3 (args:List Int):∀ s∈spS,aR Tryz.prog (cxS args) s:=by
 intro s hs;rcases List.mem_append.1 hs with h|h
 . exact fO (Xz s h) (AZ args s h)
 . simp only [List.mem_cons,List.not_mem_nil,or_false] at h;rcases h with rfl|rfl
   . exact zO args
   . exact Lf args
def acj (t:Tab):Nd->Option Rf
 | .app 53 4 [_,_,_,_,_,_]=>some (.c 0)
 | x=>Nb t x
theorem iD (args:List Int):jG (cxS args) acj:=by
 intro v t x r ht h;unfold acj at h;split at h
 . cases h;rfl
 . exact vB (WQ args) v t x r ht h
