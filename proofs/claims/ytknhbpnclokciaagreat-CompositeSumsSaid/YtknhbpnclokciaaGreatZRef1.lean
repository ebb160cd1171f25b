/- The contracts of the reference's functions on integers and intervals. -/
import Derived.Test.YtknhbpnclokciaaGreatZVecs
import Derived.Test.YtknhbpnclokciaaGreatZFixed2
import Derived.Test.YtknhbpnclokciaaGreatZKp
set_option linter.unusedVariables false
set_option linter.unusedSimpArgs false
set_option maxRecDepth 100000
set_option maxHeartbeats 2000000
namespace Go.Proofs.YtknhbpnclokciaaGreat
open Go.RowKit Alm
theorem LQ (n:Int) (w:World) :
 Calls Tryz.prog 283 #[.int .i64 n] w fun e w'=>e=.returned (.bool (gT n))/\w=w':=by
 go_enter Tryz.func283,Tryz.ntmps283;go_wp2
 all_goals
  go_ret;exact ⟨fC (by unfold gT;rw [Bool.eq_iff_iff];simp<;>omega),rfl⟩
theorem Lv (x n y:Int) (hy:0<y) (low high:Int) (h:n=high*1048576+low):x*high/y*1048576+((x*high-x*high/y*y)*1048576+x*low)/y=qFl x n y:=by
 unfold qFl;have h1:=Int.mul_ediv_add_emod (x*high) y
 have e:x*n=y*(x*high/y*1048576)+((x*high-x*high/y*y)*1048576+x*low):=by
  subst h;generalize x*high/y=q at *
  generalize x*high%y=r at *
  grind
 rw [e,Int.add_comm (y*_),Int.add_mul_ediv_left _ _ (by omega)]
 omega
theorem Pv (x n y:Int) (hx:-2147483648<=x/\x<=2147483648) (hn:-1099511627776<=n/\n<=1099511627776) (hy:0<y/\y<=2147483648) :
 ∃ low high:Int,n.tmod 1048576=low/\(n-low).tdiv 1048576=high/\n=high*1048576+low/\-1048576<=low/\low<=1048576/\-1048576<=high/\high<=1048576/\-2251799813685248<=x*high/\x*high<=2251799813685248 /\
  -2251799813685248<=x*low/\x*low<=2251799813685248/\0<=x*high-x*high/y*y/\x*high-x*high/y*y<y:=by
 have h1:=Int.mul_tdiv_add_tmod n 1048576;have t:=vO n 1048576 (by omega) 1099511627776 hn.1 hn.2
 have hlow:-1048576<n.tmod 1048576/\n.tmod 1048576<1048576:=by
  have h2:=Int.tmod_lt_of_pos n (show (0:Int)<1048576 by omega)
  refine ⟨?_,h2⟩
  by_cases ha:0<=n
  . have:=Int.tmod_nonneg 1048576 ha;omega
  . have h:=Int.neg_tmod (-n) 1048576;rw [Int.neg_neg] at h;have:=Int.tmod_lt_of_pos (-n) (show (0:Int)<1048576 by omega)
    omega
 have hhi:(n-n.tmod 1048576).tdiv 1048576=n.tdiv 1048576:=by
  have:n-n.tmod 1048576=n.tdiv 1048576*1048576:=by omega
  rw [this,Int.mul_tdiv_cancel _ (by omega)]
 have mb:∀ u:Int,-1048576<=u->u<=1048576->-2251799813685248<=x*u/\x*u<=2251799813685248:=by
  intro u h1 h2;have e:=Int.natAbs_mul x u;have:x.natAbs*u.natAbs<=2147483648*1048576:=Nat.mul_le_mul (by omega) (by omega)
  omega
 have hh:-1048576<=n.tdiv 1048576/\n.tdiv 1048576<=1048576:=by omega
 refine ⟨_,_,rfl,rfl,?_,by omega,by omega,?_⟩
 . rw [hhi];omega
 . rw [hhi];have a:=mb _ hh.1 hh.2;have b:=mb (n.tmod 1048576) (by omega) (by omega)
   generalize x*n.tdiv 1048576=P at *
   have g1:=Int.mul_ediv_add_emod P y;have g2:=Int.emod_nonneg P (show y≠0 by omega)
   have g3:=Int.emod_lt_of_pos P hy.1;have e:y*(P/y)=P/y*y:=Int.mul_comm _ _;exact ⟨hh.1,hh.2,a.1,a.2,b.1,b.2,by omega,by omega⟩
theorem Xl (x n y:Int) (w:World) (hx:-2147483648<=x/\x<=2147483648) (hn:-1099511627776<=n/\n<=1099511627776) (hy:0<y/\y<=2147483648) (hq:-2305843009213693952<=qFl x n y/\qFl x n y<=2305843009213693952) :
 Calls Tryz.prog 322 #[.int .i64 x,.int .i64 n,.int .i64 y] w fun e w'=>e=.returned (.int .i64 (qFl x n y))/\w=w':=by
 obtain ⟨low,high,hl,hh,e,l1,l2,h1,h2,p1,p2,m1,m2,r1,r2⟩:=Pv x n y hx hn hy;have tv:=Lv x n y hy.1 low high e;have C1:=fun w=>j6 (x*high) y w (by omega) (by omega) hy.1 (by omega)
 have C2:=fun w=>j6 ((x*high-x*high/y*y)*1048576+x*low) y w (by omega) (by omega) hy.1 (by omega)
 have q2':=AU ((x*high-x*high/y*y)*1048576+x*low) y 4503599627370496 hy.1 (by omega) (by omega)
 have q1:=AU (x*high) y 2251799813685248 hy.1 (by omega) (by omega)
 have q1':-2305843009213693952-4503599627370496<=x*high/y*1048576/\x*high/y*1048576<=2305843009213693952+4503599627370496:=by omega
 have q1y:-2251799813685248-2147483648<=x*high/y*y/\x*high/y*y<=2251799813685248+2147483648:=by omega
 generalize qFl x n y=F at *
 have TV:=Lib.hid tv;have C1:=Lib.hid C1;have C2:=Lib.hid C2;
 obtain ⟨u1,u2⟩:=q1y;obtain ⟨u3,u4⟩:=q1';obtain ⟨u5,u6⟩:=q1;obtain ⟨u7,u8⟩:=q2'
 obtain ⟨x1,x2⟩:=hx;obtain ⟨n1,n2⟩:=hn;obtain ⟨y1,y2⟩:=hy;have d1:-2199023255552<=n-low:=by omega
 have d2:n-low<=2199023255552:=by omega
 clear tv e;go_enter Tryz.func322,Tryz.ntmps322;go_wp2_with fail;refine (C1.out _).mono ?_;rintro e w' ⟨rfl,rfl⟩;go_wp2_with fail;refine (C2.out _).mono ?_;rintro e w' ⟨rfl,rfl⟩;go_wp2;go_ret;exact ⟨bN TV.out,rfl⟩
end Go.Proofs.YtknhbpnclokciaaGreat
namespace Go.Proofs.YtknhbpnclokciaaGreat
open Go.RowKit Alm
theorem xZ {P:Program} {f:FuncId} {args:Array Value} {w:World} {a n:Nat} {v:Value}
 (h:Calls P f args (w.drewN (a+n)) fun e w'=>e=.returned v/\w'=w.drewN (a+n)) :
 Calls P f args (w.drewN (a+n)) fun e w''=>e=.returned v/\∃ m,w''=w.drewN (a+m) :=
 h.mono fun _ _ ⟨he,hm⟩=>⟨he,n,hm⟩
def TP (x n y:Int):Prop:=(-2147483648<=x/\x<=2147483648)/\(-1099511627776<=n/\n<=1099511627776)/\(0<y/\y<=2147483648)/\(-2305843009213693952<=qFl x n y/\qFl x n y<=2305843009213693952)
theorem Tn (x n y:Int) (w:World) (h:TP x n y) :
 Calls Tryz.prog 322 #[.int .i64 x,.int .i64 n,.int .i64 y] w fun e w'=>e=.returned (.int .i64 (qFl x n y))/\w=w':=Xl x n y w h.1 h.2.1 h.2.2.1 h.2.2.2
theorem Ms (a1 a2 b1 b2 n:Int) (w:World) (h1:TP a1 n b1) (h2:TP a1 n b2) (h3:TP a2 n b1) (h4:TP a2 n b2) (h5:TP a1 (-n) b1) (h6:TP a1 (-n) b2) (h7:TP a2 (-n) b1) (h8:TP a2 (-n) b2) :
 Calls Tryz.prog 284 #[.agg #[.int .i64 a1,.int .i64 a2],.agg #[.int .i64 b1,.int .i64 b2],.int .i64 n] w fun e w' =>
  e=.returned (.tuple #[.int .i64 (min (min (qFl a1 n b1) (qFl a1 n b2)) (min (qFl a2 n b1) (qFl a2 n b2))),.int .i64 (-(min (min (qFl a1 (-n) b1) (qFl a1 (-n) b2)) (min (qFl a2 (-n) b1) (qFl a2 (-n) b2))))])/\Below w.heap.size w w':=by
 have n1:=h1.2.1.1;have n2:=h1.2.1.2;have r5:=h5.2.2.2;have r6:=h6.2.2.2;have r7:=h7.2.2.2;have r8:=h8.2.2.2;have CT:=Lib.hid Tn;have CL:=Lib.hid Kq;have hm:-2305843009213693952<=min (min (qFl a1 (-n) b1) (qFl a1 (-n) b2)) (min (qFl a2 (-n) b1) (qFl a2 (-n) b2))/\min (min (qFl a1 (-n) b1) (qFl a1 (-n) b2)) (min (qFl a2 (-n) b1) (qFl a2 (-n) b2))<=2305843009213693952:=by omega
 obtain ⟨hm1,hm2⟩:=hm;clear r5 r6 r7 r8;go_enter Tryz.func284,Tryz.ntmps284;go_wp2
 go_quiet ((first
  | (go_at_call 322;exact Calls.quiet_of_same (fu (CT.out _ _ _ _ (by assumption))))
  | (go_at_call 279;exact Calls.quiet_of_same (fu (CL.out _ _ _)))))
 go_wp2
 go_quiet ((first
  | (go_at_call 322;exact xZ (fu (CT.out _ _ _ _ (by assumption))))
  | (go_at_call 279;exact xZ (fu (CL.out _ _ _)))))
 go_wp2;go_ret2;exact ⟨Rz (by go_light;omega) (by go_light;omega),below_drewN (by go_grown) _⟩
theorem J7 (x n d:Int):qFl x (-n) d=-qCe x n d:=by unfold qFl qCe;rw [Int.mul_neg,Int.neg_neg]
theorem Lp {n:Int} (h:gT n=true):gT (-n)=true:=by unfold gT at *;simp at *;omega
theorem FN (lo hi n:Int) (hv:fxV lo hi=true) (hn:gT n=true):∀ x,x=lo∨x=hi->TP x n 1073741824:=by
 intro x hx;have h:=Px lo hi n hv hn x hx;have h1:=(bO lo hi).1 hv;have h2:-1099511627776<=n/\n<=1099511627776:=by unfold gT at hn;simpa using hn
 exact ⟨by rcases hx with rfl|rfl<;>omega,h2,by omega,by omega⟩
theorem KY (lo hi n:Int) (w:World) (hv:fxV lo hi=true) (hn:gT n=true) :
 Calls Tryz.prog 172 #[.agg #[.int .i64 lo,.int .i64 hi],.int .i64 n] w fun e w'=>e=.returned (.tuple #[.int .i64 (sD lo hi n),.int .i64 (rZ lo hi n),.int .i64 0])/\Below w.heap.size w w':=by
 have p:=FN lo hi n hv hn;have q:=FN lo hi (-n) hv (Lp hn);have C1:=fun w=>Ms lo hi 1073741824 1073741824 n w (p lo (.inl rfl)) (p lo (.inl rfl)) (p hi (.inr rfl)) (p hi (.inr rfl)) (q lo (.inl rfl)) (q lo (.inl rfl)) (q hi (.inr rfl)) (q hi (.inr rfl))
 have e1:min (min (qFl lo n 1073741824) (qFl lo n 1073741824)) (min (qFl hi n 1073741824) (qFl hi n 1073741824))=sD lo hi n:=by unfold sD;omega
 have e2:-(min (min (qFl lo (-n) 1073741824) (qFl lo (-n) 1073741824)) (min (qFl hi (-n) 1073741824) (qFl hi (-n) 1073741824)))=rZ lo hi n:=by
  unfold rZ;rw [J7,J7];omega
 rw [e1,e2] at C1;have C0:=fun w=>LQ n w
 rw [hn] at C0;replace C0:=Lib.hid C0;replace C1:=Lib.hid C1;clear e1 e2 p q hv hn;generalize sD lo hi n=x at *
 generalize rZ lo hi n=y at *
 have K0:=Lib.hid ((av w).new w.heap.size rfl 82 #[.int .i64 lo,.int .i64 hi]);go_enter Tryz.func172,Tryz.ntmps172;go_wp2_with fail;refine (C0.out _).mono ?_;rintro e w' ⟨rfl,rfl⟩;go_wp2_with fail;refine (C1.out _).mono ?_;rintro e w1 ⟨rfl,hb1⟩;have K1:=Lib.hid (K0.out.below hb1);clear hb1;go_wp2;go_ret3;exact ⟨rfl,K1.out.1⟩
