/- The contracts of the reference's Scale and Product. -/
import Derived.Test.YtknhbpnclokciaaGreatZRef1
set_option linter.unusedVariables false
set_option linter.unusedSimpArgs false
set_option maxRecDepth 100000
set_option maxHeartbeats 2000000
namespace Go.Proofs.YtknhbpnclokciaaGreat
open Go.RowKit Alm
theorem tO {P:Program} {f:FuncId} {args:Array Value} {w:World} {a n:Nat} {v:Value}
 (h:Calls P f args (w.drewN (a+n)) fun e w'=>e=.returned v/\w'=w.drewN (a+n)) :
 Calls P f args (w.drewN (a+n)) fun e w''=>e=.returned v/\∃ m,w''=w.drewN (a+m) :=
 h.mono fun _ _ ⟨he,hm⟩=>⟨he,n,hm⟩
def TP (x n y:Int):Prop:=(-2147483648<=x/\x<=2147483648)/\(-1099511627776<=n/\n<=1099511627776)/\(0<y/\y<=2147483648)/\(-2305843009213693952<=qFl x n y/\qFl x n y<=2305843009213693952)
theorem MS (x n y:Int) (w:World) (h:TP x n y) :
 Calls Tryz.prog 322 #[.int .i64 x,.int .i64 n,.int .i64 y] w fun e w'=>e=.returned (.int .i64 (qFl x n y))/\w=w':=Qt x n y w h.1 h.2.1 h.2.2.1 h.2.2.2
theorem Im (a1 a2 b1 b2 n:Int) (w:World) (h1:TP a1 n b1) (h2:TP a1 n b2) (h3:TP a2 n b1) (h4:TP a2 n b2) (h5:TP a1 (-n) b1) (h6:TP a1 (-n) b2) (h7:TP a2 (-n) b1) (h8:TP a2 (-n) b2) :
 Calls Tryz.prog 284 #[.agg #[.int .i64 a1,.int .i64 a2],.agg #[.int .i64 b1,.int .i64 b2],.int .i64 n] w fun e w' =>
  e=.returned (.tuple #[.int .i64 (min (min (qFl a1 n b1) (qFl a1 n b2)) (min (qFl a2 n b1) (qFl a2 n b2))),.int .i64 (-(min (min (qFl a1 (-n) b1) (qFl a1 (-n) b2)) (min (qFl a2 (-n) b1) (qFl a2 (-n) b2))))])/\Below w.heap.size w w':=by
 have n1:=h1.2.1.1;have n2:=h1.2.1.2;have r5:=h5.2.2.2;have r6:=h6.2.2.2;have r7:=h7.2.2.2;have r8:=h8.2.2.2;have CT:=Lib.hid MS;have CL:=Lib.hid xK;have hm:-2305843009213693952<=min (min (qFl a1 (-n) b1) (qFl a1 (-n) b2)) (min (qFl a2 (-n) b1) (qFl a2 (-n) b2))/\min (min (qFl a1 (-n) b1) (qFl a1 (-n) b2)) (min (qFl a2 (-n) b1) (qFl a2 (-n) b2))<=2305843009213693952:=by omega
 obtain ⟨hm1,hm2⟩:=hm;clear r5 r6 r7 r8;go_enter Tryz.func284,Tryz.ntmps284;go_wp2
 go_quiet ((first
  | (go_at_call 322;exact Calls.quiet_of_same (iJ (CT.out _ _ _ _ (by assumption))))
  | (go_at_call 279;exact Calls.quiet_of_same (iJ (CL.out _ _ _)))))
 go_wp2
 go_quiet ((first
  | (go_at_call 322;exact tO (iJ (CT.out _ _ _ _ (by assumption))))
  | (go_at_call 279;exact tO (iJ (CL.out _ _ _)))))
 go_wp2;go_ret2;exact ⟨MR (by go_light;omega) (by go_light;omega),below_drewN (by go_grown) _⟩
theorem GD (x n d:Int):qFl x (-n) d=-qCe x n d:=by unfold qFl qCe;rw [Int.mul_neg,Int.neg_neg]
theorem Je {n:Int} (h:aX n=true):aX (-n)=true:=by unfold aX at *;simp at *;omega
theorem ze (lo hi n:Int) (hv:fxV lo hi=true) (hn:aX n=true):∀ x,x=lo∨x=hi->TP x n 1073741824:=by
 intro x hx;have h:=KU lo hi n hv hn x hx;have h1:=(dQ lo hi).1 hv;have h2:-1099511627776<=n/\n<=1099511627776:=by unfold aX at hn;simpa using hn
 exact ⟨by rcases hx with rfl|rfl<;>omega,h2,by omega,by omega⟩
theorem pK (lo hi n:Int) (w:World) (hv:fxV lo hi=true) (hn:aX n=true) :
 Calls Tryz.prog 172 #[.agg #[.int .i64 lo,.int .i64 hi],.int .i64 n] w fun e w'=>e=.returned (.tuple #[.int .i64 (eG lo hi n),.int .i64 (d9 lo hi n),.int .i64 0])/\Below w.heap.size w w':=by
 have p:=ze lo hi n hv hn;have q:=ze lo hi (-n) hv (Je hn);have C1:=fun w=>Im lo hi 1073741824 1073741824 n w (p lo (.inl rfl)) (p lo (.inl rfl)) (p hi (.inr rfl)) (p hi (.inr rfl)) (q lo (.inl rfl)) (q lo (.inl rfl)) (q hi (.inr rfl)) (q hi (.inr rfl))
 have e1:min (min (qFl lo n 1073741824) (qFl lo n 1073741824)) (min (qFl hi n 1073741824) (qFl hi n 1073741824))=eG lo hi n:=by unfold eG;omega
 have e2:-(min (min (qFl lo (-n) 1073741824) (qFl lo (-n) 1073741824)) (min (qFl hi (-n) 1073741824) (qFl hi (-n) 1073741824)))=d9 lo hi n:=by
  unfold d9;rw [GD,GD];omega
 rw [e1,e2] at C1;have C0:=fun w=>Hw n w
 rw [hn] at C0;replace C0:=Lib.hid C0;replace C1:=Lib.hid C1;clear e1 e2 p q hv hn;generalize eG lo hi n=x at *
 generalize d9 lo hi n=y at *
 have K0:=Lib.hid ((av w).new w.heap.size rfl 82 #[.int .i64 lo,.int .i64 hi]);go_enter Tryz.func172,Tryz.ntmps172;go_wp2_with fail;refine (C0.out _).mono ?_;rintro e w' ⟨rfl,rfl⟩;go_wp2_with fail;refine (C1.out _).mono ?_;rintro e w1 ⟨rfl,hb1⟩;have K1:=Lib.hid (K0.out.below hb1);clear hb1;go_wp2;go_ret3;exact ⟨rfl,K1.out.1⟩
