/- The contract of the reference's Exact. -/
import Derived.Test.YtknhbpnclokciaaGreatZRefA
set_option linter.unusedVariables false
set_option linter.unusedSimpArgs false
set_option maxRecDepth 100000
set_option maxHeartbeats 1000000
namespace Go.Proofs.YtknhbpnclokciaaGreat
open Go.RowKit Alm
theorem wK (n m:Int) (neg:Bool) (w:World) (ht:n.tmod 21600000=if neg then m-21600000 else m) (h0:0<=m) (h1:m<21600000) (hm:m%1800000≠0) :
 Calls Tryz.prog 371 #[.int .i64 n] w fun e w'=>e=.returned (.tuple #[.int .i64 0,.bool false])/\Below w.heap.size w w':=by
 have hb:(m%1800000==0)=false:=by simpa using hm
 have hb2:(m%1800000 != 0)=true:=by simpa using hm
 cases neg
 all_goals
  simp only [if_true,if_false,Bool.false_eq_true] at ht;go_enter Tryz.func371,Tryz.ntmps371;go_wp2;go_ret2;exact ⟨rfl,by go_grown⟩
theorem Ou (n:Int) (w:World) (ht:n.tmod 21600000=0∨n.tmod 21600000=(-21600000)) :
 Calls Tryz.prog 371 #[.int .i64 n] w fun e w'=>e=.returned (.tuple #[.int .i64 0,.bool true])/\Below w.heap.size w w':=by
 rcases ht with ht|ht
 all_goals
  go_enter Tryz.func371,Tryz.ntmps371;go_wp2;go_ret2;exact ⟨rfl,by go_grown⟩
theorem Pt (n:Int) (w:World) (ht:n.tmod 21600000=1800000∨n.tmod 21600000=(-19800000)) :
 Calls Tryz.prog 371 #[.int .i64 n] w fun e w'=>e=.returned (.tuple #[.int .i64 536870912,.bool true])/\Below w.heap.size w w':=by
 rcases ht with ht|ht
 all_goals
  go_enter Tryz.func371,Tryz.ntmps371;go_wp2;go_ret2;exact ⟨rfl,by go_grown⟩
theorem Rc (n:Int) (w:World) (ht:n.tmod 21600000=3600000∨n.tmod 21600000=(-18000000)) :
 Calls Tryz.prog 371 #[.int .i64 n] w fun e w'=>e=.returned (.tuple #[.int .i64 0,.bool false])/\Below w.heap.size w w':=by
 rcases ht with ht|ht
 all_goals
  go_enter Tryz.func371,Tryz.ntmps371;go_wp2;go_ret2;exact ⟨rfl,by go_grown⟩
theorem Pf (n:Int) (w:World) (ht:n.tmod 21600000=5400000∨n.tmod 21600000=(-16200000)) :
 Calls Tryz.prog 371 #[.int .i64 n] w fun e w'=>e=.returned (.tuple #[.int .i64 1073741824,.bool true])/\Below w.heap.size w w':=by
 rcases ht with ht|ht
 all_goals
  go_enter Tryz.func371,Tryz.ntmps371;go_wp2;go_ret2;exact ⟨rfl,by go_grown⟩
theorem O4 (n:Int) (w:World) (ht:n.tmod 21600000=7200000∨n.tmod 21600000=(-14400000)) :
 Calls Tryz.prog 371 #[.int .i64 n] w fun e w'=>e=.returned (.tuple #[.int .i64 0,.bool false])/\Below w.heap.size w w':=by
 rcases ht with ht|ht
 all_goals
  go_enter Tryz.func371,Tryz.ntmps371;go_wp2;go_ret2;exact ⟨rfl,by go_grown⟩
theorem PG (n:Int) (w:World) (ht:n.tmod 21600000=9000000∨n.tmod 21600000=(-12600000)) :
 Calls Tryz.prog 371 #[.int .i64 n] w fun e w'=>e=.returned (.tuple #[.int .i64 536870912,.bool true])/\Below w.heap.size w w':=by
 rcases ht with ht|ht
 all_goals
  go_enter Tryz.func371,Tryz.ntmps371;go_wp2;go_ret2;exact ⟨rfl,by go_grown⟩
theorem Pe (n:Int) (w:World) (ht:n.tmod 21600000=10800000∨n.tmod 21600000=(-10800000)) :
 Calls Tryz.prog 371 #[.int .i64 n] w fun e w'=>e=.returned (.tuple #[.int .i64 0,.bool true])/\Below w.heap.size w w':=by
 rcases ht with ht|ht
 all_goals
  go_enter Tryz.func371,Tryz.ntmps371;go_wp2;go_ret2;exact ⟨rfl,by go_grown⟩
theorem QD (n:Int) (w:World) (ht:n.tmod 21600000=12600000∨n.tmod 21600000=(-9000000)) :
 Calls Tryz.prog 371 #[.int .i64 n] w fun e w'=>e=.returned (.tuple #[.int .i64 (-536870912),.bool true])/\Below w.heap.size w w':=by
 rcases ht with ht|ht
 all_goals
  go_enter Tryz.func371,Tryz.ntmps371;go_wp2;go_ret2;exact ⟨rfl,by go_grown⟩
theorem O1 (n:Int) (w:World) (ht:n.tmod 21600000=14400000∨n.tmod 21600000=(-7200000)) :
 Calls Tryz.prog 371 #[.int .i64 n] w fun e w'=>e=.returned (.tuple #[.int .i64 0,.bool false])/\Below w.heap.size w w':=by
 rcases ht with ht|ht
 all_goals
  go_enter Tryz.func371,Tryz.ntmps371;go_wp2;go_ret2;exact ⟨rfl,by go_grown⟩
theorem PM (n:Int) (w:World) (ht:n.tmod 21600000=16200000∨n.tmod 21600000=(-5400000)) :
 Calls Tryz.prog 371 #[.int .i64 n] w fun e w'=>e=.returned (.tuple #[.int .i64 (-1073741824),.bool true])/\Below w.heap.size w w':=by
 rcases ht with ht|ht
 all_goals
  go_enter Tryz.func371,Tryz.ntmps371;go_wp2;go_ret2;exact ⟨rfl,by go_grown⟩
theorem Mo (n:Int) (w:World) (ht:n.tmod 21600000=18000000∨n.tmod 21600000=(-3600000)) :
 Calls Tryz.prog 371 #[.int .i64 n] w fun e w'=>e=.returned (.tuple #[.int .i64 0,.bool false])/\Below w.heap.size w w':=by
 rcases ht with ht|ht
 all_goals
  go_enter Tryz.func371,Tryz.ntmps371;go_wp2;go_ret2;exact ⟨rfl,by go_grown⟩
theorem NV (n:Int) (w:World) (ht:n.tmod 21600000=19800000∨n.tmod 21600000=(-1800000)) :
 Calls Tryz.prog 371 #[.int .i64 n] w fun e w'=>e=.returned (.tuple #[.int .i64 (-536870912),.bool true])/\Below w.heap.size w w':=by
 rcases ht with ht|ht
 all_goals
  go_enter Tryz.func371,Tryz.ntmps371;go_wp2;go_ret2;exact ⟨rfl,by go_grown⟩
theorem eY (n c:Int) (h:ak n=c):n.tmod 21600000=c∨n.tmod 21600000=c-21600000:=by
 obtain ⟨h1,h2,h3,h4⟩:=je n;subst h
 by_cases h:0<=n.tmod 21600000
 . exact .inl (h1 h)
 . exact .inr (h2 (by omega))
theorem dF (n c:Int) (h:ak n=c):bC n=(if 5400000<(if 10800000<c then c-10800000 else c) then 10800000-(if 10800000<c then c-10800000 else c) else (if 10800000<c then c-10800000 else c))/\jg n=decide (10800000<c):=by
 subst h;exact ⟨rfl,rfl⟩
theorem gW (n c:Int) (h:ak n=c):bLo n=if decide (10800000<c) then -(bV (if 5400000<(if 10800000<c then c-10800000 else c) then 10800000-(if 10800000<c then c-10800000 else c) else (if 10800000<c then c-10800000 else c))+if dx (if 5400000<(if 10800000<c then c-10800000 else c) then 10800000-(if 10800000<c then c-10800000 else c) else (if 10800000<c then c-10800000 else c)) then 0 else 1) else bV (if 5400000<(if 10800000<c then c-10800000 else c) then 10800000-(if 10800000<c then c-10800000 else c) else (if 10800000<c then c-10800000 else c)):=by
 subst h;rfl
def exR (n:Int):Value:=if dx (bC n) then .tuple #[.int .i64 (bLo n),.bool true] else .tuple #[.int .i64 0,.bool false]
theorem OG (n:Int) (w:World) :
 Calls Tryz.prog 371 #[.int .i64 n] w fun e w'=>e=.returned (exR n)/\Below w.heap.size w w':=by
 obtain ⟨h1,h2,h3,h4⟩:=je n
 by_cases hm:ak n%1800000=0
 . have hk:ak n=0∨ak n=1800000∨ak n=3600000∨ak n=5400000∨ak n=7200000∨ak n=9000000∨ak n=10800000∨ak n=12600000∨ak n=14400000∨ak n=16200000∨ak n=18000000∨ak n=19800000:=by omega
   unfold exR;rcases hk with h|h|h|h|h|h|h|h|h|h|h|h
   . rw [(dF n _ h).1,gW n _ h];exact Ou n w (eY n _ h)
   . rw [(dF n _ h).1,gW n _ h];exact Pt n w (eY n _ h)
   . rw [(dF n _ h).1,gW n _ h];exact Rc n w (eY n _ h)
   . rw [(dF n _ h).1,gW n _ h];exact Pf n w (eY n _ h)
   . rw [(dF n _ h).1,gW n _ h];exact O4 n w (eY n _ h)
   . rw [(dF n _ h).1,gW n _ h];exact PG n w (eY n _ h)
   . rw [(dF n _ h).1,gW n _ h];exact Pe n w (eY n _ h)
   . rw [(dF n _ h).1,gW n _ h];exact QD n w (eY n _ h)
   . rw [(dF n _ h).1,gW n _ h];exact O1 n w (eY n _ h)
   . rw [(dF n _ h).1,gW n _ h];exact PM n w (eY n _ h)
   . rw [(dF n _ h).1,gW n _ h];exact Mo n w (eY n _ h)
   . rw [(dF n _ h).1,gW n _ h];exact NV n w (eY n _ h)
 . have e:exR n=.tuple #[.int .i64 0,.bool false]:=by
    have hf:dx (bC n)=false:=by
     rw [(dF n _ rfl).1];unfold dx;generalize ak n=c at *
     split<;>split<;>simp<;>omega
    unfold exR;rw [hf];rfl
   rw [e]
   by_cases h:0<=n.tmod 21600000
   . exact wK n (ak n) false w (by rw [h1 h];rfl) h3 h4 hm
   . exact wK n (ak n) true w (by rw [h2 (by omega)];rfl) h3 h4 hm
end Go.Proofs.YtknhbpnclokciaaGreat
namespace Go.Proofs.YtknhbpnclokciaaGreat
open Go.RowKit Alm
theorem xR (r:Int) (h0:0<r) (h1:r<=2700000) (h2:r≠1800000):bV r*4294967296+500<=iw r.toNat/\iw r.toNat+500<=(bV r+1)*4294967296:=by
 have e:bV r=((jm r.toNat/2^226:Nat):Int):=by
  unfold bV;rw [if_neg (by omega),if_neg h2,if_neg (by omega)]
  unfold iL;rw [if_pos (by omega)]
 rw [e];exact Ot r.toNat (by omega) (by omega) (by omega)
theorem yE (r:Int) (h0:0<r) (h1:r<=2700000):bV (5400000-r)*4294967296+500<=ik r.toNat/\ik r.toNat+500<=(bV (5400000-r)+1)*4294967296:=by
 have e:bV (5400000-r)=((iB r.toNat%W/2^226:Nat):Int):=by
  unfold bV;rw [if_neg (by omega),if_neg (by omega),if_neg (by omega)]
  unfold iL
  by_cases h:r=2700000
  . subst h;rw [if_pos (by omega)]
    have a:=yM 2700000 (by omega) 759250124 D7
    have b:=qV 2700000 (by omega) 759250124 yR
    show ((jm 2700000/2^226:Nat):Int)=((iB 2700000%W/2^226:Nat):Int);rw [a,b]
  . rw [if_neg (by omega),show 5400000-(5400000-r).toNat=r.toNat by omega]
 rw [e];exact OA r.toNat (by omega) (by omega)
theorem MH (n:Int) (hE:dx (bC n)=false):bLo n*4294967296+500<=qVm (ak n)/\qVm (ak n)+500<=(bLo n+1)*4294967296/\bHi n=bLo n+1:=by
 have hf:=(dF n _ rfl).1;have hs:=(dF n _ rfl).2;have hw:=(je n).2.2;have hne:bC n≠0/\bC n≠1800000/\bC n≠5400000:=by unfold dx at hE;simp at hE;exact ⟨hE.1.1,hE.1.2,hE.2⟩
 have e1:bLo n=if jg n then -(bV (bC n)+1) else bV (bC n):=by unfold bLo;rw [hE];rfl
 have e2:bHi n=if jg n then -(bV (bC n)) else bV (bC n)+1:=by unfold bHi;rw [hE];rfl
 rw [e1,e2,hs];clear e1 e2 hs hE;generalize bC n=f at *
 generalize ak n=m at *
 have hq:m/5400000=0∨m/5400000=1∨m/5400000=2∨m/5400000=3:=by omega
 have hm:m=m/5400000*5400000+m%5400000:=by omega
 have hr:0<=m%5400000/\m%5400000<5400000:=by omega
 have hv:qVm m=(let r:=m%5400000
  let v:=if 2700000<r then (if m/5400000%2=1 then iw (5400000-r).toNat else ik (5400000-r).toNat) else (if m/5400000%2=1 then ik r.toNat else iw r.toNat)
  if 2<=m/5400000 then -v else v):=rfl
 rw [hv];clear hv;generalize m%5400000=r at *
 simp only [];rcases hq with h|h|h|h
 . rw [h] at hm ⊢
   simp only [show ¬ (10800000<m) by omega,if_false,decide_false,Bool.false_eq_true,show ¬ (2<=(0:Int)) by omega,show ¬ ((0:Int)%2=1) by omega] at hf ⊢
   have hfr:f=r:=by split at hf<;>omega
   subst hfr
   by_cases hlt:2700000<f
   . simp only [hlt,if_true];have:=yE (5400000-f) (by omega) (by omega)
     rw [show 5400000-(5400000-f)=f by omega] at this
     first|omega|exact ⟨by omega,by omega,trivial⟩
   . simp only [hlt,if_false];have:=xR f (by omega) (by omega) hne.2.1
     first|omega|exact ⟨by omega,by omega,trivial⟩
 . rw [h] at hm ⊢
   simp only [show ¬ (10800000<m) by omega,if_false,decide_false,Bool.false_eq_true,show ¬ (2<=(1:Int)) by omega,show ((1:Int)%2=1) by omega,if_true] at hf ⊢
   have hfr:f=5400000-r:=by split at hf<;>omega
   subst hfr
   by_cases hlt:2700000<r
   . simp only [hlt,if_true];have:=xR (5400000-r) (by omega) (by omega) hne.2.1
     first|omega|exact ⟨by omega,by omega,trivial⟩
   . simp only [hlt,if_false];have:=yE r (by omega) (by omega)
     first|omega|exact ⟨by omega,by omega,trivial⟩
 . rw [h] at hm ⊢
   by_cases hr0:r=0
   . exfalso;simp only [show ¬ (10800000<m) by omega,if_false] at hf
     split at hf<;>omega
   simp only [show (10800000<m) by omega,if_true,decide_true,show (2<=(2:Int)) by omega,show ¬ ((2:Int)%2=1) by omega,if_false] at hf ⊢
   have hfr:f=r:=by split at hf<;>omega
   subst hfr
   by_cases hlt:2700000<f
   . simp only [hlt,if_true];have:=yE (5400000-f) (by omega) (by omega)
     rw [show 5400000-(5400000-f)=f by omega] at this
     first|omega|exact ⟨by omega,by omega,trivial⟩
   . simp only [hlt,if_false];have:=xR f (by omega) (by omega) hne.2.1
     first|omega|exact ⟨by omega,by omega,trivial⟩
 . rw [h] at hm ⊢
   simp only [show (10800000<m) by omega,if_true,decide_true,show (2<=(3:Int)) by omega,show ((3:Int)%2=1) by omega] at hf ⊢
   have hfr:f=5400000-r:=by split at hf<;>omega
   subst hfr
   by_cases hlt:2700000<r
   . simp only [hlt,if_true];have:=xR (5400000-r) (by omega) (by omega) hne.2.1
     first|omega|exact ⟨by omega,by omega,trivial⟩
   . simp only [hlt,if_false];have:=yE r (by omega) (by omega)
     first|omega|exact ⟨by omega,by omega,trivial⟩
theorem RJ (n:Int) (hE:dx (bC n)=true):bHi n=bLo n:=by
 unfold bHi bLo;rw [hE];simp
theorem zt (n:Int) (w:World) :
 Calls Tryz.prog 340 #[.int .i64 n] w fun e w'=>e=.returned (.tuple #[.int .i64 (bLo n),.bool (dx (bC n))])/\Below w.heap.size w w':=by
 have C1:=fun w=>OG n w
 have C2:=Lib.hid (fun w=>Gp n w)
 unfold exR at C1;cases hE:dx (bC n)
 . obtain ⟨h1,h2,h3⟩:=MH n hE;rw [hE] at C1;simp only [Bool.false_eq_true,if_false] at C1;replace C1:=Lib.hid C1;have bb:=jR n;generalize qVm (ak n)=V at *
   have d1:(V-256)/4294967296=bLo n:=by omega
   have d2:(V+256)/4294967296=bLo n:=by omega
   have d3:V/4294967296=bLo n:=by omega
   have v1:-4611686018427387904-4294967296<=V:=by omega
   have v2:V<=4611686018427387904+4294967296:=by omega
   clear h1 h2 h3 hE bb;generalize bLo n=L at *
   have K0:=Lib.hid (av w);go_enter Tryz.func340,Tryz.ntmps340;go_wp2_with fail;refine (C1.out _).mono ?_;rintro e w1 ⟨rfl,hb1⟩;have K1:=Lib.hid (K0.out.below hb1);clear hb1 K0;go_wp2_with fail;refine (C2.out _).mono ?_;rintro e w' ⟨rfl,rfl⟩;go_wp2;go_ret2;exact ⟨rfl,K1.out.1⟩
 . rw [hE] at C1;simp only [if_true] at C1;replace C1:=Lib.hid C1;clear hE;generalize bLo n=L at *
   have K0:=Lib.hid (av w);go_enter Tryz.func340,Tryz.ntmps340;go_wp2_with fail;refine (C1.out _).mono ?_;rintro e w1 ⟨rfl,hb1⟩;have K1:=Lib.hid (K0.out.below hb1);clear hb1 K0;go_wp2;go_ret2;exact ⟨rfl,K1.out.1⟩
