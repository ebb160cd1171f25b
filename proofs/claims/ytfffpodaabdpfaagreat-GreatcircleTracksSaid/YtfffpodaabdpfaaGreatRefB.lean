/- The contract of the reference's Exact. -/
import Derived.Test.YtfffpodaabdpfaaGreatRefA
set_option linter.unusedVariables false
set_option linter.unusedSimpArgs false
namespace Go.Proofs.YtfffpodaabdpfaaGreat
open Go.RowKit Alm
theorem exact_not (n m:Int) (neg:Bool) (w:World) (ht:n.tmod 21600000=if neg then m - 21600000 else m) (h0:0≤m) (h1:m < 21600000) (hm:m % 1800000≠0) :
 Calls Tryz.prog 385 #[.int .i64 n] w fun e w'=>e=.returned (.tuple #[.int .i64 0,.bool false])∧Below w.heap.size w w':=by
 have hb:(m % 1800000 == 0)=false:=by simpa using hm
 have hb2:(m % 1800000 != 0)=true:=by simpa using hm
 cases neg
 all_goals
  simp only [if_true,if_false,Bool.false_eq_true] at ht
  go_enter Tryz.func385,Tryz.ntmps385
  go_wp2
  go_ret2
  exact ⟨rfl,by go_grown⟩
set_option maxHeartbeats 1000000 in
theorem exact_0 (n:Int) (w:World) (ht:n.tmod 21600000=0∨n.tmod 21600000=(-21600000)) :
 Calls Tryz.prog 385 #[.int .i64 n] w fun e w'=>e=.returned (.tuple #[.int .i64 0,.bool true])∧Below w.heap.size w w':=by
 rcases ht with ht | ht
 all_goals
  go_enter Tryz.func385,Tryz.ntmps385
  go_wp2
  go_ret2
  exact ⟨rfl,by go_grown⟩
set_option maxHeartbeats 1000000 in
theorem exact_1 (n:Int) (w:World) (ht:n.tmod 21600000=1800000∨n.tmod 21600000=(-19800000)) :
 Calls Tryz.prog 385 #[.int .i64 n] w fun e w'=>e=.returned (.tuple #[.int .i64 536870912,.bool true])∧Below w.heap.size w w':=by
 rcases ht with ht | ht
 all_goals
  go_enter Tryz.func385,Tryz.ntmps385
  go_wp2
  go_ret2
  exact ⟨rfl,by go_grown⟩
set_option maxHeartbeats 1000000 in
theorem exact_2 (n:Int) (w:World) (ht:n.tmod 21600000=3600000∨n.tmod 21600000=(-18000000)) :
 Calls Tryz.prog 385 #[.int .i64 n] w fun e w'=>e=.returned (.tuple #[.int .i64 0,.bool false])∧Below w.heap.size w w':=by
 rcases ht with ht | ht
 all_goals
  go_enter Tryz.func385,Tryz.ntmps385
  go_wp2
  go_ret2
  exact ⟨rfl,by go_grown⟩
set_option maxHeartbeats 1000000 in
theorem exact_3 (n:Int) (w:World) (ht:n.tmod 21600000=5400000∨n.tmod 21600000=(-16200000)) :
 Calls Tryz.prog 385 #[.int .i64 n] w fun e w'=>e=.returned (.tuple #[.int .i64 1073741824,.bool true])∧Below w.heap.size w w':=by
 rcases ht with ht | ht
 all_goals
  go_enter Tryz.func385,Tryz.ntmps385
  go_wp2
  go_ret2
  exact ⟨rfl,by go_grown⟩
set_option maxHeartbeats 1000000 in
theorem exact_4 (n:Int) (w:World) (ht:n.tmod 21600000=7200000∨n.tmod 21600000=(-14400000)) :
 Calls Tryz.prog 385 #[.int .i64 n] w fun e w'=>e=.returned (.tuple #[.int .i64 0,.bool false])∧Below w.heap.size w w':=by
 rcases ht with ht | ht
 all_goals
  go_enter Tryz.func385,Tryz.ntmps385
  go_wp2
  go_ret2
  exact ⟨rfl,by go_grown⟩
set_option maxHeartbeats 1000000 in
theorem exact_5 (n:Int) (w:World) (ht:n.tmod 21600000=9000000∨n.tmod 21600000=(-12600000)) :
 Calls Tryz.prog 385 #[.int .i64 n] w fun e w'=>e=.returned (.tuple #[.int .i64 536870912,.bool true])∧Below w.heap.size w w':=by
 rcases ht with ht | ht
 all_goals
  go_enter Tryz.func385,Tryz.ntmps385
  go_wp2
  go_ret2
  exact ⟨rfl,by go_grown⟩
set_option maxHeartbeats 1000000 in
theorem exact_6 (n:Int) (w:World) (ht:n.tmod 21600000=10800000∨n.tmod 21600000=(-10800000)) :
 Calls Tryz.prog 385 #[.int .i64 n] w fun e w'=>e=.returned (.tuple #[.int .i64 0,.bool true])∧Below w.heap.size w w':=by
 rcases ht with ht | ht
 all_goals
  go_enter Tryz.func385,Tryz.ntmps385
  go_wp2
  go_ret2
  exact ⟨rfl,by go_grown⟩
set_option maxHeartbeats 1000000 in
theorem exact_7 (n:Int) (w:World) (ht:n.tmod 21600000=12600000∨n.tmod 21600000=(-9000000)) :
 Calls Tryz.prog 385 #[.int .i64 n] w fun e w'=>e=.returned (.tuple #[.int .i64 (-536870912),.bool true])∧Below w.heap.size w w':=by
 rcases ht with ht | ht
 all_goals
  go_enter Tryz.func385,Tryz.ntmps385
  go_wp2
  go_ret2
  exact ⟨rfl,by go_grown⟩
set_option maxHeartbeats 1000000 in
theorem exact_8 (n:Int) (w:World) (ht:n.tmod 21600000=14400000∨n.tmod 21600000=(-7200000)) :
 Calls Tryz.prog 385 #[.int .i64 n] w fun e w'=>e=.returned (.tuple #[.int .i64 0,.bool false])∧Below w.heap.size w w':=by
 rcases ht with ht | ht
 all_goals
  go_enter Tryz.func385,Tryz.ntmps385
  go_wp2
  go_ret2
  exact ⟨rfl,by go_grown⟩
set_option maxHeartbeats 1000000 in
theorem exact_9 (n:Int) (w:World) (ht:n.tmod 21600000=16200000∨n.tmod 21600000=(-5400000)) :
 Calls Tryz.prog 385 #[.int .i64 n] w fun e w'=>e=.returned (.tuple #[.int .i64 (-1073741824),.bool true])∧Below w.heap.size w w':=by
 rcases ht with ht | ht
 all_goals
  go_enter Tryz.func385,Tryz.ntmps385
  go_wp2
  go_ret2
  exact ⟨rfl,by go_grown⟩
set_option maxHeartbeats 1000000 in
theorem exact_10 (n:Int) (w:World) (ht:n.tmod 21600000=18000000∨n.tmod 21600000=(-3600000)) :
 Calls Tryz.prog 385 #[.int .i64 n] w fun e w'=>e=.returned (.tuple #[.int .i64 0,.bool false])∧Below w.heap.size w w':=by
 rcases ht with ht | ht
 all_goals
  go_enter Tryz.func385,Tryz.ntmps385
  go_wp2
  go_ret2
  exact ⟨rfl,by go_grown⟩
set_option maxHeartbeats 1000000 in
theorem exact_11 (n:Int) (w:World) (ht:n.tmod 21600000=19800000∨n.tmod 21600000=(-1800000)) :
 Calls Tryz.prog 385 #[.int .i64 n] w fun e w'=>e=.returned (.tuple #[.int .i64 (-536870912),.bool true])∧Below w.heap.size w w':=by
 rcases ht with ht | ht
 all_goals
  go_enter Tryz.func385,Tryz.ntmps385
  go_wp2
  go_ret2
  exact ⟨rfl,by go_grown⟩
theorem turn_of (n c:Int) (h:wrapTurn n=c):n.tmod 21600000=c∨n.tmod 21600000=c - 21600000:=by
 obtain ⟨h1,h2,h3,h4⟩:=tmod_turn n
 subst h
 by_cases h:0≤n.tmod 21600000
 · exact .inl (h1 h)
 · exact .inr (h2 (by omega))
theorem fold_of (n c:Int) (h:wrapTurn n=c):foldQ n=(if 5400000 < (if 10800000 < c then c - 10800000 else c) then 10800000 - (if 10800000 < c then c - 10800000 else c) else (if 10800000 < c then c - 10800000 else c))∧south n=decide (10800000 < c):=by
 subst h;exact ⟨rfl,rfl⟩
theorem bLo_of (n c:Int) (h:wrapTurn n=c):bLo n=if decide (10800000 < c) then -(sinV (if 5400000 < (if 10800000 < c then c - 10800000 else c) then 10800000 - (if 10800000 < c then c - 10800000 else c) else (if 10800000 < c then c - 10800000 else c))+if sinE (if 5400000 < (if 10800000 < c then c - 10800000 else c) then 10800000 - (if 10800000 < c then c - 10800000 else c) else (if 10800000 < c then c - 10800000 else c)) then 0 else 1) else sinV (if 5400000 < (if 10800000 < c then c - 10800000 else c) then 10800000 - (if 10800000 < c then c - 10800000 else c) else (if 10800000 < c then c - 10800000 else c)):=by
 subst h;rfl
def exR (n:Int):Value:=if sinE (foldQ n) then .tuple #[.int .i64 (bLo n),.bool true] else .tuple #[.int .i64 0,.bool false]
theorem c_Exact (n:Int) (w:World) :
 Calls Tryz.prog 385 #[.int .i64 n] w fun e w'=>e=.returned (exR n)∧Below w.heap.size w w':=by
 obtain ⟨h1,h2,h3,h4⟩:=tmod_turn n
 by_cases hm:wrapTurn n % 1800000=0
 · have hk:wrapTurn n=0∨wrapTurn n=1800000∨wrapTurn n=3600000∨wrapTurn n=5400000∨wrapTurn n=7200000∨wrapTurn n=9000000∨wrapTurn n=10800000∨wrapTurn n=12600000∨wrapTurn n=14400000∨wrapTurn n=16200000∨wrapTurn n=18000000∨wrapTurn n=19800000:=by omega
   unfold exR
   rcases hk with h | h | h | h | h | h | h | h | h | h | h | h
   · rw [(fold_of n _ h).1,bLo_of n _ h];exact exact_0 n w (turn_of n _ h)
   · rw [(fold_of n _ h).1,bLo_of n _ h];exact exact_1 n w (turn_of n _ h)
   · rw [(fold_of n _ h).1,bLo_of n _ h];exact exact_2 n w (turn_of n _ h)
   · rw [(fold_of n _ h).1,bLo_of n _ h];exact exact_3 n w (turn_of n _ h)
   · rw [(fold_of n _ h).1,bLo_of n _ h];exact exact_4 n w (turn_of n _ h)
   · rw [(fold_of n _ h).1,bLo_of n _ h];exact exact_5 n w (turn_of n _ h)
   · rw [(fold_of n _ h).1,bLo_of n _ h];exact exact_6 n w (turn_of n _ h)
   · rw [(fold_of n _ h).1,bLo_of n _ h];exact exact_7 n w (turn_of n _ h)
   · rw [(fold_of n _ h).1,bLo_of n _ h];exact exact_8 n w (turn_of n _ h)
   · rw [(fold_of n _ h).1,bLo_of n _ h];exact exact_9 n w (turn_of n _ h)
   · rw [(fold_of n _ h).1,bLo_of n _ h];exact exact_10 n w (turn_of n _ h)
   · rw [(fold_of n _ h).1,bLo_of n _ h];exact exact_11 n w (turn_of n _ h)
 · have e:exR n=.tuple #[.int .i64 0,.bool false]:=by
    have hf:sinE (foldQ n)=false:=by
     rw [(fold_of n _ rfl).1]
     unfold sinE
     generalize wrapTurn n=c at *
     split<;>split<;>simp<;>omega
    unfold exR;rw [hf];rfl
   rw [e]
   by_cases h:0≤n.tmod 21600000
   · exact exact_not n (wrapTurn n) false w (by rw [h1 h];rfl) h3 h4 hm
   · exact exact_not n (wrapTurn n) true w (by rw [h2 (by omega)];rfl) h3 h4 hm
end Go.Proofs.YtfffpodaabdpfaaGreat
set_option linter.unusedVariables false
set_option linter.unusedSimpArgs false
namespace Go.Proofs.YtfffpodaabdpfaaGreat
open Go.RowKit Alm
theorem sv_sin (r:Int) (h0:0 < r) (h1:r≤2700000) (h2:r≠1800000):sinV r*4294967296+500≤qSin r.toNat∧qSin r.toNat+500≤(sinV r+1)*4294967296:=by
 have e:sinV r=((sinW r.toNat / 2^226:Nat):Int):=by
  unfold sinV;rw [if_neg (by omega),if_neg h2,if_neg (by omega)]
  unfold sinFl;rw [if_pos (by omega)]
 rw [e]
 exact qSin_fl r.toNat (by omega) (by omega) (by omega)
theorem sv_cos (r:Int) (h0:0 < r) (h1:r≤2700000):sinV (5400000 - r)*4294967296+500≤qCos r.toNat∧qCos r.toNat+500≤(sinV (5400000 - r)+1)*4294967296:=by
 have e:sinV (5400000 - r)=((cosW r.toNat % W / 2^226:Nat):Int):=by
  unfold sinV;rw [if_neg (by omega),if_neg (by omega),if_neg (by omega)]
  unfold sinFl
  by_cases h:r=2700000
  · subst h
    rw [if_pos (by omega)]
    have a:=sinW_fl 2700000 (by omega) 759250124 fl_s45
    have b:=cosW_fl 2700000 (by omega) 759250124 fl_c45
    show ((sinW 2700000 / 2^226:Nat):Int)=((cosW 2700000 % W / 2^226:Nat):Int)
    rw [a,b]
  · rw [if_neg (by omega),show 5400000 - (5400000 - r).toNat=r.toNat by omega]
 rw [e]
 exact qCos_fl r.toNat (by omega) (by omega)
theorem qV_fl (n:Int) (hE:sinE (foldQ n)=false):bLo n*4294967296+500≤qVm (wrapTurn n)∧qVm (wrapTurn n)+500≤(bLo n+1)*4294967296∧bHi n=bLo n+1:=by
 have hf:=(fold_of n _ rfl).1
 have hs:=(fold_of n _ rfl).2
 have hw:=(tmod_turn n).2.2
 have hne:foldQ n≠0∧foldQ n≠1800000∧foldQ n≠5400000:=by unfold sinE at hE;simp at hE;exact ⟨hE.1.1,hE.1.2,hE.2⟩
 have e1:bLo n=if south n then -(sinV (foldQ n)+1) else sinV (foldQ n):=by unfold bLo;rw [hE];rfl
 have e2:bHi n=if south n then -(sinV (foldQ n)) else sinV (foldQ n)+1:=by unfold bHi;rw [hE];rfl
 rw [e1,e2,hs]
 clear e1 e2 hs hE
 generalize foldQ n=f at *
 generalize wrapTurn n=m at *
 have hq:m / 5400000=0∨m / 5400000=1∨m / 5400000=2∨m / 5400000=3:=by omega
 have hm:m=m / 5400000*5400000+m % 5400000:=by omega
 have hr:0≤m % 5400000∧m % 5400000 < 5400000:=by omega
 have hv:qVm m=(let r:=m % 5400000
  let v:=if 2700000 < r then (if m / 5400000 % 2=1 then qSin (5400000 - r).toNat else qCos (5400000 - r).toNat) else (if m / 5400000 % 2=1 then qCos r.toNat else qSin r.toNat)
  if 2≤m / 5400000 then -v else v):=rfl
 rw [hv];clear hv
 generalize m % 5400000=r at *
 simp only []
 rcases hq with h | h | h | h
 · rw [h] at hm ⊢
   simp only [show ¬ (10800000 < m) by omega,if_false,decide_false,Bool.false_eq_true,show ¬ (2≤(0:Int)) by omega,show ¬ ((0:Int) % 2=1) by omega] at hf ⊢
   have hfr:f=r:=by split at hf<;>omega
   subst hfr
   by_cases hlt:2700000 < f
   · simp only [hlt,if_true]
     have:=sv_cos (5400000 - f) (by omega) (by omega)
     rw [show 5400000 - (5400000 - f)=f by omega] at this
     first | omega | exact ⟨by omega,by omega,trivial⟩
   · simp only [hlt,if_false]
     have:=sv_sin f (by omega) (by omega) hne.2.1
     first | omega | exact ⟨by omega,by omega,trivial⟩
 · rw [h] at hm ⊢
   simp only [show ¬ (10800000 < m) by omega,if_false,decide_false,Bool.false_eq_true,show ¬ (2≤(1:Int)) by omega,show ((1:Int) % 2=1) by omega,if_true] at hf ⊢
   have hfr:f=5400000 - r:=by split at hf<;>omega
   subst hfr
   by_cases hlt:2700000 < r
   · simp only [hlt,if_true]
     have:=sv_sin (5400000 - r) (by omega) (by omega) hne.2.1
     first | omega | exact ⟨by omega,by omega,trivial⟩
   · simp only [hlt,if_false]
     have:=sv_cos r (by omega) (by omega)
     first | omega | exact ⟨by omega,by omega,trivial⟩
 · rw [h] at hm ⊢
   by_cases hr0:r=0
   · exfalso
     simp only [show ¬ (10800000 < m) by omega,if_false] at hf
     split at hf<;>omega
   simp only [show (10800000 < m) by omega,if_true,decide_true,show (2≤(2:Int)) by omega,show ¬ ((2:Int) % 2=1) by omega,if_false] at hf ⊢
   have hfr:f=r:=by split at hf<;>omega
   subst hfr
   by_cases hlt:2700000 < f
   · simp only [hlt,if_true]
     have:=sv_cos (5400000 - f) (by omega) (by omega)
     rw [show 5400000 - (5400000 - f)=f by omega] at this
     first | omega | exact ⟨by omega,by omega,trivial⟩
   · simp only [hlt,if_false]
     have:=sv_sin f (by omega) (by omega) hne.2.1
     first | omega | exact ⟨by omega,by omega,trivial⟩
 · rw [h] at hm ⊢
   simp only [show (10800000 < m) by omega,if_true,decide_true,show (2≤(3:Int)) by omega,show ((3:Int) % 2=1) by omega] at hf ⊢
   have hfr:f=5400000 - r:=by split at hf<;>omega
   subst hfr
   by_cases hlt:2700000 < r
   · simp only [hlt,if_true]
     have:=sv_sin (5400000 - r) (by omega) (by omega) hne.2.1
     first | omega | exact ⟨by omega,by omega,trivial⟩
   · simp only [hlt,if_false]
     have:=sv_cos r (by omega) (by omega)
     first | omega | exact ⟨by omega,by omega,trivial⟩
theorem bE_eq (n:Int) (hE:sinE (foldQ n)=true):bHi n=bLo n:=by
 unfold bHi bLo;rw [hE];simp
set_option maxRecDepth 100000 in
set_option maxHeartbeats 1000000 in
theorem c_rFloor (n:Int) (w:World) :
 Calls Tryz.prog 361 #[.int .i64 n] w fun e w'=>e=.returned (.tuple #[.int .i64 (bLo n),.bool (sinE (foldQ n))])∧Below w.heap.size w w':=by
 have C1:=fun w=>c_Exact n w
 have C2:=Lib.hid (fun w=>c_Quick n w)
 unfold exR at C1
 cases hE:sinE (foldQ n)
 · obtain ⟨h1,h2,h3⟩:=qV_fl n hE
   rw [hE] at C1
   simp only [Bool.false_eq_true,if_false] at C1
   replace C1:=Lib.hid C1
   have bb:=bnd_bd n
   generalize qVm (wrapTurn n)=V at *
   have d1:(V - 256) / 4294967296=bLo n:=by omega
   have d2:(V+256) / 4294967296=bLo n:=by omega
   have d3:V / 4294967296=bLo n:=by omega
   have v1:-4611686018427387904 - 4294967296≤V:=by omega
   have v2:V≤4611686018427387904+4294967296:=by omega
   clear h1 h2 h3 hE bb
   generalize bLo n=L at *
   have K0:=Lib.hid (ks_start w)
   go_enter Tryz.func361,Tryz.ntmps361
   go_wp2_with fail
   refine (C1.out _).mono ?_
   rintro e w1 ⟨rfl,hb1⟩
   have K1:=Lib.hid (K0.out.below hb1);clear hb1 K0
   go_wp2_with fail
   refine (C2.out _).mono ?_
   rintro e w' ⟨rfl,rfl⟩
   go_wp2
   go_ret2
   exact ⟨rfl,K1.out.1⟩
 · rw [hE] at C1
   simp only [if_true] at C1
   replace C1:=Lib.hid C1
   clear hE
   generalize bLo n=L at *
   have K0:=Lib.hid (ks_start w)
   go_enter Tryz.func361,Tryz.ntmps361
   go_wp2_with fail
   refine (C1.out _).mono ?_
   rintro e w1 ⟨rfl,hb1⟩
   have K1:=Lib.hid (K0.out.below hb1);clear hb1 K0
   go_wp2
   go_ret2
   exact ⟨rfl,K1.out.1⟩
end Go.Proofs.YtfffpodaabdpfaaGreat
