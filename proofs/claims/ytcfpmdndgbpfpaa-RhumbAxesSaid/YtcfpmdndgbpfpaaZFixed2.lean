/- The contracts of package fixed: Scale, Quotient. -/
import Derived.Test.YtcfpmdndgbpfpaaZWidesB
import Derived.Test.YtcfpmdndgbpfpaaZWides
import Derived.Test.YtcfpmdndgbpfpaaZKp
set_option linter.unusedVariables false
set_option linter.unusedSimpArgs false
set_option maxRecDepth 100000
namespace Go.Proofs.Ytcfpmdndgbpfpaa
open Go.RowKit Alm
theorem PZ (x n d B:Int) (hd:1<=d) (hB:(x.natAbs*n.natAbs:Nat)<=B):-B<=qFl x n d/\qFl x n d<=B/\-B<=qCe x n d/\qCe x n d<=B/\qFl x n d<=qCe x n d/\qCe x n d<=qFl x n d+1:=by
 have e:=Int.natAbs_mul x n;have h1:-B<=x*n/\x*n<=B:=by omega
 unfold qFl qCe;generalize x*n=P at *
 have key:∀ P:Int,-B<=P->P<=B->-B<=P/d/\P/d<=B:=by
  intro P h1 h2
  constructor
  . apply Int.le_ediv_of_mul_le (by omega)
    have:B*1<=B*d:=Int.mul_le_mul_of_nonneg_left hd (by omega)
    have:-B*d=-(B*d):=by grind
    omega
  . apply Int.ediv_le_of_le_mul (by omega)
    have:B*1<=B*d:=Int.mul_le_mul_of_nonneg_left hd (by omega)
    omega
 have a:=key P h1.1 h1.2;have b:=key (-P) (by omega) (by omega)
 have f1:=Int.mul_ediv_add_emod P d;have f2:=Int.emod_nonneg P (show d≠0 by omega)
 have f3:=Int.emod_lt_of_pos P (show 0<d by omega)
 have k:-((-P)/d)=P/d∨-((-P)/d)=P/d+1:=by
  generalize hq:P/d=q at *
  by_cases hr:P%d=0
  . left
    have e2:-P=d*(-q)+0:=by grind
    rw [e2,gu d _ _ (by omega) (by omega) (by omega)];omega
  . right
    have e2:-P=d*(-(q+1))+(d-P%d):=by grind
    rw [e2,gu d _ _ (by omega) (by omega) (by omega)];omega
 omega
def pY (lo hi n:Int):Int:=min (qFl lo n 1073741824) (qFl hi n 1073741824)
def rV (lo hi n:Int):Int:=max (qCe lo n 1073741824) (qCe hi n 1073741824)
theorem sc_bd (lo hi n:Int) (hv:fxV lo hi=true) (hn:jm n=true):∀ x,x=lo∨x=hi->I64 x/\x.natAbs*n.natAbs<=2361183241434822606848/\-2361183241434822606848<=qFl x n 1073741824/\-4398046511104<=qFl x n 1073741824/\qFl x n 1073741824<=qCe x n 1073741824/\qCe x n 1073741824<=4398046511104:=by
 have h1:=(oM lo hi).1 hv;have h2:-1099511627776<=n/\n<=1099511627776:=by unfold jm at hn;simpa using hn
 intro x hx;have hxb:x.natAbs<=2147483648:=by rcases hx with rfl|rfl<;>omega
 have hP:x.natAbs*n.natAbs<=2147483648*1099511627776:=Nat.mul_le_mul hxb (by omega)
 have hq:=PZ x n 1073741824 2361183241434822606848 (by omega) (by omega)
 have e:=Int.natAbs_mul x n;refine ⟨⟨by omega,by omega⟩,by omega,hq.1,?_,hq.2.2.2.2.1,?_⟩
 . unfold qFl;generalize x*n=P at *;omega
 . unfold qCe;generalize x*n=P at *;omega
theorem KN (lo hi n:Int) (w:World) (hv:fxV lo hi=true) (hn:jm n=true) :
 Calls Try.prog 23 #[.agg #[.int .i64 lo,.int .i64 hi],.int .i64 n] w fun e w'=>e=.returned (.tuple #[.int .i64 (pY lo hi n),.int .i64 (rV lo hi n),.int .i64 0])/\Below w.heap.size w w':=by
 have bl:=sc_bd lo hi n hv hn lo (.inl rfl);have bh:=sc_bd lo hi n hv hn hi (.inr rfl);have h2:-1099511627776<=n/\n<=1099511627776:=by unfold jm at hn;simpa using hn
 have C0:=fun w=>jB lo hi w
 rw [hv] at C0;have C1:=fun w=>Gj n w
 rw [hn] at C1;have C2:=Lib.hid (fun w=>ug lo n 1073741824 w bl.1 ⟨by omega,by omega⟩ (by omega) (by omega) (by omega) ⟨by omega,by omega⟩ ⟨by omega,by omega⟩)
 have C3:=Lib.hid (fun w=>ug hi n 1073741824 w bh.1 ⟨by omega,by omega⟩ (by omega) (by omega) (by omega) ⟨by omega,by omega⟩ ⟨by omega,by omega⟩)
 have C0:=Lib.hid C0;have C1:=Lib.hid C1;have e1:pY lo hi n=min (qFl lo n 1073741824) (qFl hi n 1073741824):=rfl;have e2:rV lo hi n=max (qCe lo n 1073741824) (qCe hi n 1073741824):=rfl;rw [e1,e2];clear hv hn bl bh h2 e1 e2;generalize qFl lo n 1073741824=a at *
 generalize qFl hi n 1073741824=c at *
 generalize qCe lo n 1073741824=b at *
 generalize qCe hi n 1073741824=d at *
 have PA:=Lib.hid (IZ w 42 #[.int .i64 lo,.int .i64 hi]);go_enter Try.func23,Try.ntmps23;go_wp2_with fail;refine (C0.out _).mono ?_;rintro e w1 ⟨rfl,hb1⟩;have H1:=Lib.hid hb1;clear hb1;have PA1:=Lib.hid (PA.out.below H1.out (by simp))
 have HB1:Hid (Below w.heap.size w w1):=((Below.refl _ _).alloc (Nat.le_refl _) _).trans (H1.out.mono (by simp))
 have S1:=Lib.hid (show w.heap.size<w1.heap.size by have:=H1.out.size;simp at this;omega)
 have p0:=PA1.out.cell 0;have p1:=PA1.out.cell 1;clear PA H1;go_wp2_with fail;refine (C1.out _).mono ?_;rintro e w' ⟨rfl,rfl⟩;go_wp2_with fail;refine (C2.out _).mono ?_;rintro e w2 ⟨rfl,hb1⟩;have H2:=Lib.hid hb1;clear hb1 p0 p1;have PA2:=Lib.hid (PA1.out.below H2.out S1.out);have HB2:Hid (Below w.heap.size w w2):=HB1.out.trans (H2.out.mono (by have:=S1.out;omega))
 have p0:=PA2.out.cell 0;have p1:=PA2.out.cell 1;have S2:=Lib.hid (show w.heap.size<w2.heap.size by have:=H2.out.size;have:=S1.out;omega)
 clear PA1 H2 HB1;go_wp2_with fail;refine (C3.out _).mono ?_;rintro e w3 ⟨rfl,hb1⟩;have H3:=Lib.hid hb1;clear hb1 p0 p1;have HB3:Hid (Below w.heap.size w w3):=HB2.out.trans (H3.out.mono (by have:=S2.out;omega))
 go_wp2
 all_goals
  go_ret3;refine ⟨?_,HB3.out⟩
  first|rfl|(simp;omega)
