/- The contracts of the reference's functions on integers and intervals. -/
import Derived.Test.YtoniodlcogpdbaaGreatZVecs
import Derived.Test.YtoniodlcogpdbaaGreatZFixed2
import Derived.Test.YtoniodlcogpdbaaGreatZKp
set_option linter.unusedVariables false
set_option linter.unusedSimpArgs false
set_option maxRecDepth 100000
namespace Go.Proofs.YtoniodlcogpdbaaGreat
open Go.RowKit Alm
theorem Lb (x n y:Int) (hy:0<y) (low high:Int) (h:n=high*1048576+low):x*high/y*1048576+((x*high-x*high/y*y)*1048576+x*low)/y=qFl x n y:=by
 unfold qFl;have h1:=Int.mul_ediv_add_emod (x*high) y
 have e:x*n=y*(x*high/y*1048576)+((x*high-x*high/y*y)*1048576+x*low):=by
  subst h;generalize x*high/y=q at *
  generalize x*high%y=r at *
  grind
 rw [e,Int.add_comm (y*_),Int.add_mul_ediv_left _ _ (by omega)]
 omega
theorem Pq (x n y:Int) (hx:-2147483648<=x/\x<=2147483648) (hn:-1099511627776<=n/\n<=1099511627776) (hy:0<y/\y<=2147483648) :
 ∃ low high:Int,n.tmod 1048576=low/\(n-low).tdiv 1048576=high/\n=high*1048576+low/\-1048576<=low/\low<=1048576/\-1048576<=high/\high<=1048576/\-2251799813685248<=x*high/\x*high<=2251799813685248 /\
  -2251799813685248<=x*low/\x*low<=2251799813685248/\0<=x*high-x*high/y*y/\x*high-x*high/y*y<y:=by
 have h1:=Int.mul_tdiv_add_tmod n 1048576;have t:=Ck n 1048576 (by omega) 1099511627776 hn.1 hn.2
 have hlow:-1048576<n.tmod 1048576/\n.tmod 1048576<1048576:=by
  have h2:=Int.tmod_lt_of_pos n (show (0:Int)<1048576 by omega)
  refine ⟨?_,h2⟩
  by_cases ha:0<=n
  . have:=Int.tmod_nonneg 1048576 ha;omega
  . have h:=Int.neg_tmod (-n) 1048576;rw [Int.neg_neg] at h;have:=Int.tmod_lt_of_pos (-n) (show (0:Int)<1048576 by omega)
    omega
 have hhi:(n-n.tmod 1048576).tdiv 1048576=n.tdiv 1048576:=by
  have:n-n.tmod 1048576=n.tdiv 1048576*1048576:=by omega
  rw [this,Int.mul_tdiv_cancel _ (by omega)]
 have mb:∀ u:Int,-1048576<=u->u<=1048576->-2251799813685248<=x*u/\x*u<=2251799813685248:=by
  intro u h1 h2;have e:=Int.natAbs_mul x u;have:x.natAbs*u.natAbs<=2147483648*1048576:=Nat.mul_le_mul (by omega) (by omega)
  omega
 have hh:-1048576<=n.tdiv 1048576/\n.tdiv 1048576<=1048576:=by omega
 refine ⟨_,_,rfl,rfl,?_,by omega,by omega,?_⟩
 . rw [hhi];omega
 . rw [hhi];have a:=mb _ hh.1 hh.2;have b:=mb (n.tmod 1048576) (by omega) (by omega)
   generalize x*n.tdiv 1048576=P at *
   have g1:=Int.mul_ediv_add_emod P y;have g2:=Int.emod_nonneg P (show y≠0 by omega)
   have g3:=Int.emod_lt_of_pos P hy.1;have e:y*(P/y)=P/y*y:=Int.mul_comm _ _;exact ⟨hh.1,hh.2,a.1,a.2,b.1,b.2,by omega,by omega⟩
theorem VI (x n y:Int) (w:World) (hx:-2147483648<=x/\x<=2147483648) (hn:-1099511627776<=n/\n<=1099511627776) (hy:0<y/\y<=2147483648) (hq:-2305843009213693952<=qFl x n y/\qFl x n y<=2305843009213693952) :
 Calls Tryz.prog 106 #[.int .i64 x,.int .i64 n,.int .i64 y] w fun e w'=>e=.returned (.int .i64 (qFl x n y))/\w=w':=by
 obtain ⟨low,high,hl,hh,e,l1,l2,h1,h2,p1,p2,m1,m2,r1,r2⟩:=Pq x n y hx hn hy;have tv:=Lb x n y hy.1 low high e;have C1:=fun w=>nR (x*high) y w (by omega) (by omega) hy.1 (by omega)
 have C2:=fun w=>nR ((x*high-x*high/y*y)*1048576+x*low) y w (by omega) (by omega) hy.1 (by omega)
 have q2':=AJ ((x*high-x*high/y*y)*1048576+x*low) y 4503599627370496 hy.1 (by omega) (by omega)
 have q1:=AJ (x*high) y 2251799813685248 hy.1 (by omega) (by omega)
 have q1':-2305843009213693952-4503599627370496<=x*high/y*1048576/\x*high/y*1048576<=2305843009213693952+4503599627370496:=by omega
 have q1y:-2251799813685248-2147483648<=x*high/y*y/\x*high/y*y<=2251799813685248+2147483648:=by omega
 generalize qFl x n y=F at *
 have TV:=Lib.hid tv;have C1:=Lib.hid C1;have C2:=Lib.hid C2;
 obtain ⟨u1,u2⟩:=q1y;obtain ⟨u3,u4⟩:=q1';obtain ⟨u5,u6⟩:=q1;obtain ⟨u7,u8⟩:=q2'
 obtain ⟨x1,x2⟩:=hx;obtain ⟨n1,n2⟩:=hn;obtain ⟨y1,y2⟩:=hy;have d1:-2199023255552<=n-low:=by omega
 have d2:n-low<=2199023255552:=by omega
 clear tv e;go_enter Tryz.func106,Tryz.ntmps106;go_wp2_with fail;refine (C1.out _).mono ?_;rintro e w' ⟨rfl,rfl⟩;go_wp2_with fail;refine (C2.out _).mono ?_;rintro e w' ⟨rfl,rfl⟩;go_wp2;go_ret;exact ⟨cu TV.out,rfl⟩
end Go.Proofs.YtoniodlcogpdbaaGreat
namespace Go.Proofs.YtoniodlcogpdbaaGreat
open Go.RowKit Alm
theorem vL (x n d:Int):qFl x (-n) d=-qCe x n d:=by unfold qFl qCe;rw [Int.mul_neg,Int.neg_neg]
