/- The contract of the reference's Exact. -/
import Derived.Test.YtdbaccfgkacffaaGreatZRefA
set_option linter.unusedVariables false
set_option linter.unusedSimpArgs false
set_option maxRecDepth 100000
set_option maxHeartbeats 1000000
namespace Go.Proofs.YtdbaccfgkacffaaGreat
open Go.RowKit Alm
theorem zf (n m:Int) (neg:Bool) (w:World) (ht:n.tmod 21600000=if neg then m-21600000 else m) (h0:0<=m) (h1:m<21600000) (hm:m%1800000≠0) :
 Calls Tryz.prog 316 #[.int .i64 n] w fun e w'=>e=.returned (.tuple #[.int .i64 0,.bool false])/\Below w.heap.size w w':=by
 have hb:(m%1800000==0)=false:=by simpa using hm
 have hb2:(m%1800000 != 0)=true:=by simpa using hm
 cases neg
 all_goals
  simp only [if_true,if_false,Bool.false_eq_true] at ht;go_enter Tryz.func316,Tryz.ntmps316;go_wp2;go_ret2;exact ⟨rfl,by go_grown⟩
theorem VI (n:Int) (w:World) (ht:n.tmod 21600000=0∨n.tmod 21600000=(-21600000)) :
 Calls Tryz.prog 316 #[.int .i64 n] w fun e w'=>e=.returned (.tuple #[.int .i64 0,.bool true])/\Below w.heap.size w w':=by
 rcases ht with ht|ht
 all_goals
  go_enter Tryz.func316,Tryz.ntmps316;go_wp2;go_ret2;exact ⟨rfl,by go_grown⟩
theorem VR (n:Int) (w:World) (ht:n.tmod 21600000=1800000∨n.tmod 21600000=(-19800000)) :
 Calls Tryz.prog 316 #[.int .i64 n] w fun e w'=>e=.returned (.tuple #[.int .i64 536870912,.bool true])/\Below w.heap.size w w':=by
 rcases ht with ht|ht
 all_goals
  go_enter Tryz.func316,Tryz.ntmps316;go_wp2;go_ret2;exact ⟨rfl,by go_grown⟩
theorem Rn (n:Int) (w:World) (ht:n.tmod 21600000=3600000∨n.tmod 21600000=(-18000000)) :
 Calls Tryz.prog 316 #[.int .i64 n] w fun e w'=>e=.returned (.tuple #[.int .i64 0,.bool false])/\Below w.heap.size w w':=by
 rcases ht with ht|ht
 all_goals
  go_enter Tryz.func316,Tryz.ntmps316;go_wp2;go_ret2;exact ⟨rfl,by go_grown⟩
theorem Tz (n:Int) (w:World) (ht:n.tmod 21600000=5400000∨n.tmod 21600000=(-16200000)) :
 Calls Tryz.prog 316 #[.int .i64 n] w fun e w'=>e=.returned (.tuple #[.int .i64 1073741824,.bool true])/\Below w.heap.size w w':=by
 rcases ht with ht|ht
 all_goals
  go_enter Tryz.func316,Tryz.ntmps316;go_wp2;go_ret2;exact ⟨rfl,by go_grown⟩
theorem RA (n:Int) (w:World) (ht:n.tmod 21600000=7200000∨n.tmod 21600000=(-14400000)) :
 Calls Tryz.prog 316 #[.int .i64 n] w fun e w'=>e=.returned (.tuple #[.int .i64 0,.bool false])/\Below w.heap.size w w':=by
 rcases ht with ht|ht
 all_goals
  go_enter Tryz.func316,Tryz.ntmps316;go_wp2;go_ret2;exact ⟨rfl,by go_grown⟩
theorem Tp (n:Int) (w:World) (ht:n.tmod 21600000=9000000∨n.tmod 21600000=(-12600000)) :
 Calls Tryz.prog 316 #[.int .i64 n] w fun e w'=>e=.returned (.tuple #[.int .i64 536870912,.bool true])/\Below w.heap.size w w':=by
 rcases ht with ht|ht
 all_goals
  go_enter Tryz.func316,Tryz.ntmps316;go_wp2;go_ret2;exact ⟨rfl,by go_grown⟩
theorem Tu (n:Int) (w:World) (ht:n.tmod 21600000=10800000∨n.tmod 21600000=(-10800000)) :
 Calls Tryz.prog 316 #[.int .i64 n] w fun e w'=>e=.returned (.tuple #[.int .i64 0,.bool true])/\Below w.heap.size w w':=by
 rcases ht with ht|ht
 all_goals
  go_enter Tryz.func316,Tryz.ntmps316;go_wp2;go_ret2;exact ⟨rfl,by go_grown⟩
theorem UJ (n:Int) (w:World) (ht:n.tmod 21600000=12600000∨n.tmod 21600000=(-9000000)) :
 Calls Tryz.prog 316 #[.int .i64 n] w fun e w'=>e=.returned (.tuple #[.int .i64 (-536870912),.bool true])/\Below w.heap.size w w':=by
 rcases ht with ht|ht
 all_goals
  go_enter Tryz.func316,Tryz.ntmps316;go_wp2;go_ret2;exact ⟨rfl,by go_grown⟩
theorem Uv (n:Int) (w:World) (ht:n.tmod 21600000=14400000∨n.tmod 21600000=(-7200000)) :
 Calls Tryz.prog 316 #[.int .i64 n] w fun e w'=>e=.returned (.tuple #[.int .i64 0,.bool false])/\Below w.heap.size w w':=by
 rcases ht with ht|ht
 all_goals
  go_enter Tryz.func316,Tryz.ntmps316;go_wp2;go_ret2;exact ⟨rfl,by go_grown⟩
theorem Vy (n:Int) (w:World) (ht:n.tmod 21600000=16200000∨n.tmod 21600000=(-5400000)) :
 Calls Tryz.prog 316 #[.int .i64 n] w fun e w'=>e=.returned (.tuple #[.int .i64 (-1073741824),.bool true])/\Below w.heap.size w w':=by
 rcases ht with ht|ht
 all_goals
  go_enter Tryz.func316,Tryz.ntmps316;go_wp2;go_ret2;exact ⟨rfl,by go_grown⟩
theorem Nt (n:Int) (w:World) (ht:n.tmod 21600000=18000000∨n.tmod 21600000=(-3600000)) :
 Calls Tryz.prog 316 #[.int .i64 n] w fun e w'=>e=.returned (.tuple #[.int .i64 0,.bool false])/\Below w.heap.size w w':=by
 rcases ht with ht|ht
 all_goals
  go_enter Tryz.func316,Tryz.ntmps316;go_wp2;go_ret2;exact ⟨rfl,by go_grown⟩
theorem Qn (n:Int) (w:World) (ht:n.tmod 21600000=19800000∨n.tmod 21600000=(-1800000)) :
 Calls Tryz.prog 316 #[.int .i64 n] w fun e w'=>e=.returned (.tuple #[.int .i64 (-536870912),.bool true])/\Below w.heap.size w w':=by
 rcases ht with ht|ht
 all_goals
  go_enter Tryz.func316,Tryz.ntmps316;go_wp2;go_ret2;exact ⟨rfl,by go_grown⟩
theorem fU (n c:Int) (h:au n=c):n.tmod 21600000=c∨n.tmod 21600000=c-21600000:=by
 obtain ⟨h1,h2,h3,h4⟩:=ko n;subst h
 by_cases h:0<=n.tmod 21600000
 . exact .inl (h1 h)
 . exact .inr (h2 (by omega))
theorem dU (n c:Int) (h:au n=c):aJ n=(if 5400000<(if 10800000<c then c-10800000 else c) then 10800000-(if 10800000<c then c-10800000 else c) else (if 10800000<c then c-10800000 else c))/\dM n=decide (10800000<c):=by
 subst h;exact ⟨rfl,rfl⟩
theorem iU (n c:Int) (h:au n=c):bLo n=if decide (10800000<c) then -(cK (if 5400000<(if 10800000<c then c-10800000 else c) then 10800000-(if 10800000<c then c-10800000 else c) else (if 10800000<c then c-10800000 else c))+if dO (if 5400000<(if 10800000<c then c-10800000 else c) then 10800000-(if 10800000<c then c-10800000 else c) else (if 10800000<c then c-10800000 else c)) then 0 else 1) else cK (if 5400000<(if 10800000<c then c-10800000 else c) then 10800000-(if 10800000<c then c-10800000 else c) else (if 10800000<c then c-10800000 else c)):=by
 subst h;rfl
def exR (n:Int):Value:=if dO (aJ n) then .tuple #[.int .i64 (bLo n),.bool true] else .tuple #[.int .i64 0,.bool false]
theorem UF (n:Int) (w:World) :
 Calls Tryz.prog 316 #[.int .i64 n] w fun e w'=>e=.returned (exR n)/\Below w.heap.size w w':=by
 obtain ⟨h1,h2,h3,h4⟩:=ko n
 by_cases hm:au n%1800000=0
 . have hk:au n=0∨au n=1800000∨au n=3600000∨au n=5400000∨au n=7200000∨au n=9000000∨au n=10800000∨au n=12600000∨au n=14400000∨au n=16200000∨au n=18000000∨au n=19800000:=by omega
   unfold exR;rcases hk with h|h|h|h|h|h|h|h|h|h|h|h
   . rw [(dU n _ h).1,iU n _ h];exact VI n w (fU n _ h)
   . rw [(dU n _ h).1,iU n _ h];exact VR n w (fU n _ h)
   . rw [(dU n _ h).1,iU n _ h];exact Rn n w (fU n _ h)
   . rw [(dU n _ h).1,iU n _ h];exact Tz n w (fU n _ h)
   . rw [(dU n _ h).1,iU n _ h];exact RA n w (fU n _ h)
   . rw [(dU n _ h).1,iU n _ h];exact Tp n w (fU n _ h)
   . rw [(dU n _ h).1,iU n _ h];exact Tu n w (fU n _ h)
   . rw [(dU n _ h).1,iU n _ h];exact UJ n w (fU n _ h)
   . rw [(dU n _ h).1,iU n _ h];exact Uv n w (fU n _ h)
   . rw [(dU n _ h).1,iU n _ h];exact Vy n w (fU n _ h)
   . rw [(dU n _ h).1,iU n _ h];exact Nt n w (fU n _ h)
   . rw [(dU n _ h).1,iU n _ h];exact Qn n w (fU n _ h)
 . have e:exR n=.tuple #[.int .i64 0,.bool false]:=by
    have hf:dO (aJ n)=false:=by
     rw [(dU n _ rfl).1];unfold dO;generalize au n=c at *
     split<;>split<;>simp<;>omega
    unfold exR;rw [hf];rfl
   rw [e]
   by_cases h:0<=n.tmod 21600000
   . exact zf n (au n) false w (by rw [h1 h];rfl) h3 h4 hm
   . exact zf n (au n) true w (by rw [h2 (by omega)];rfl) h3 h4 hm
end Go.Proofs.YtdbaccfgkacffaaGreat
namespace Go.Proofs.YtdbaccfgkacffaaGreat
open Go.RowKit Alm
theorem AC (r:Int) (h0:0<r) (h1:r<=2700000) (h2:r≠1800000):cK r*4294967296+500<=jf r.toNat/\jf r.toNat+500<=(cK r+1)*4294967296:=by
 have e:cK r=((jR r.toNat/2^226:Nat):Int):=by
  unfold cK;rw [if_neg (by omega),if_neg h2,if_neg (by omega)]
  unfold kZ;rw [if_pos (by omega)]
 rw [e];exact Ur r.toNat (by omega) (by omega) (by omega)
theorem Am (r:Int) (h0:0<r) (h1:r<=2700000):cK (5400000-r)*4294967296+500<=jb r.toNat/\jb r.toNat+500<=(cK (5400000-r)+1)*4294967296:=by
 have e:cK (5400000-r)=((jk r.toNat%W/2^226:Nat):Int):=by
  unfold cK;rw [if_neg (by omega),if_neg (by omega),if_neg (by omega)]
  unfold kZ
  by_cases h:r=2700000
  . subst h;rw [if_pos (by omega)]
    have a:=Af 2700000 (by omega) 759250124 Fe
    have b:=zG 2700000 (by omega) 759250124 zI
    show ((jR 2700000/2^226:Nat):Int)=((jk 2700000%W/2^226:Nat):Int);rw [a,b]
  . rw [if_neg (by omega),show 5400000-(5400000-r).toNat=r.toNat by omega]
 rw [e];exact VV r.toNat (by omega) (by omega)
theorem Pw (n:Int) (hE:dO (aJ n)=false):bLo n*4294967296+500<=qVm (au n)/\qVm (au n)+500<=(bLo n+1)*4294967296/\bHi n=bLo n+1:=by
 have hf:=(dU n _ rfl).1;have hs:=(dU n _ rfl).2;have hw:=(ko n).2.2;have hne:aJ n≠0/\aJ n≠1800000/\aJ n≠5400000:=by unfold dO at hE;simp at hE;exact ⟨hE.1.1,hE.1.2,hE.2⟩
 have e1:bLo n=if dM n then -(cK (aJ n)+1) else cK (aJ n):=by unfold bLo;rw [hE];rfl
 have e2:bHi n=if dM n then -(cK (aJ n)) else cK (aJ n)+1:=by unfold bHi;rw [hE];rfl
 rw [e1,e2,hs];clear e1 e2 hs hE;generalize aJ n=f at *
 generalize au n=m at *
 have hq:m/5400000=0∨m/5400000=1∨m/5400000=2∨m/5400000=3:=by omega
 have hm:m=m/5400000*5400000+m%5400000:=by omega
 have hr:0<=m%5400000/\m%5400000<5400000:=by omega
 have hv:qVm m=(let r:=m%5400000
  let v:=if 2700000<r then (if m/5400000%2=1 then jf (5400000-r).toNat else jb (5400000-r).toNat) else (if m/5400000%2=1 then jb r.toNat else jf r.toNat)
  if 2<=m/5400000 then -v else v):=rfl
 rw [hv];clear hv;generalize m%5400000=r at *
 simp only [];rcases hq with h|h|h|h
 . rw [h] at hm ⊢
   simp only [show ¬ (10800000<m) by omega,if_false,decide_false,Bool.false_eq_true,show ¬ (2<=(0:Int)) by omega,show ¬ ((0:Int)%2=1) by omega] at hf ⊢
   have hfr:f=r:=by split at hf<;>omega
   subst hfr
   by_cases hlt:2700000<f
   . simp only [hlt,if_true];have:=Am (5400000-f) (by omega) (by omega)
     rw [show 5400000-(5400000-f)=f by omega] at this
     first|omega|exact ⟨by omega,by omega,trivial⟩
   . simp only [hlt,if_false];have:=AC f (by omega) (by omega) hne.2.1
     first|omega|exact ⟨by omega,by omega,trivial⟩
 . rw [h] at hm ⊢
   simp only [show ¬ (10800000<m) by omega,if_false,decide_false,Bool.false_eq_true,show ¬ (2<=(1:Int)) by omega,show ((1:Int)%2=1) by omega,if_true] at hf ⊢
   have hfr:f=5400000-r:=by split at hf<;>omega
   subst hfr
   by_cases hlt:2700000<r
   . simp only [hlt,if_true];have:=AC (5400000-r) (by omega) (by omega) hne.2.1
     first|omega|exact ⟨by omega,by omega,trivial⟩
   . simp only [hlt,if_false];have:=Am r (by omega) (by omega)
     first|omega|exact ⟨by omega,by omega,trivial⟩
 . rw [h] at hm ⊢
   by_cases hr0:r=0
   . exfalso;simp only [show ¬ (10800000<m) by omega,if_false] at hf
     split at hf<;>omega
   simp only [show (10800000<m) by omega,if_true,decide_true,show (2<=(2:Int)) by omega,show ¬ ((2:Int)%2=1) by omega,if_false] at hf ⊢
   have hfr:f=r:=by split at hf<;>omega
   subst hfr
   by_cases hlt:2700000<f
   . simp only [hlt,if_true];have:=Am (5400000-f) (by omega) (by omega)
     rw [show 5400000-(5400000-f)=f by omega] at this
     first|omega|exact ⟨by omega,by omega,trivial⟩
   . simp only [hlt,if_false];have:=AC f (by omega) (by omega) hne.2.1
     first|omega|exact ⟨by omega,by omega,trivial⟩
 . rw [h] at hm ⊢
   simp only [show (10800000<m) by omega,if_true,decide_true,show (2<=(3:Int)) by omega,show ((3:Int)%2=1) by omega] at hf ⊢
   have hfr:f=5400000-r:=by split at hf<;>omega
   subst hfr
   by_cases hlt:2700000<r
   . simp only [hlt,if_true];have:=AC (5400000-r) (by omega) (by omega) hne.2.1
     first|omega|exact ⟨by omega,by omega,trivial⟩
   . simp only [hlt,if_false];have:=Am r (by omega) (by omega)
     first|omega|exact ⟨by omega,by omega,trivial⟩
theorem Wp (n:Int) (hE:dO (aJ n)=true):bHi n=bLo n:=by
 unfold bHi bLo;rw [hE];simp
theorem Bz (n:Int) (w:World) :
 Calls Tryz.prog 293 #[.int .i64 n] w fun e w'=>e=.returned (.tuple #[.int .i64 (bLo n),.bool (dO (aJ n))])/\Below w.heap.size w w':=by
 have C1:=fun w=>UF n w
 have C2:=Lib.hid (fun w=>JP n w)
 unfold exR at C1;cases hE:dO (aJ n)
 . obtain ⟨h1,h2,h3⟩:=Pw n hE;rw [hE] at C1;simp only [Bool.false_eq_true,if_false] at C1;replace C1:=Lib.hid C1;have bb:=jQ n;generalize qVm (au n)=V at *
   have d1:(V-256)/4294967296=bLo n:=by omega
   have d2:(V+256)/4294967296=bLo n:=by omega
   have d3:V/4294967296=bLo n:=by omega
   have v1:-4611686018427387904-4294967296<=V:=by omega
   have v2:V<=4611686018427387904+4294967296:=by omega
   clear h1 h2 h3 hE bb;generalize bLo n=L at *
   have K0:=Lib.hid (az w);go_enter Tryz.func293,Tryz.ntmps293;go_wp2_with fail;refine (C1.out _).mono ?_;rintro e w1 ⟨rfl,hb1⟩;have K1:=Lib.hid (K0.out.below hb1);clear hb1 K0;go_wp2_with fail;refine (C2.out _).mono ?_;rintro e w' ⟨rfl,rfl⟩;go_wp2;go_ret2;exact ⟨rfl,K1.out.1⟩
 . rw [hE] at C1;simp only [if_true] at C1;replace C1:=Lib.hid C1;clear hE;generalize bLo n=L at *
   have K0:=Lib.hid (az w);go_enter Tryz.func293,Tryz.ntmps293;go_wp2_with fail;refine (C1.out _).mono ?_;rintro e w1 ⟨rfl,hb1⟩;have K1:=Lib.hid (K0.out.below hb1);clear hb1 K0;go_wp2;go_ret2;exact ⟨rfl,K1.out.1⟩
