/- The contracts of package fixed's Make and of the reference's, for positive divisors. -/
import Derived.Test.YtpcfajiiijndiaaZWidesB
import Derived.Test.YtpcfajiiijndiaaZVecs
import Derived.Deep.Light
set_option linter.unusedVariables false
set_option linter.unusedSimpArgs false
set_option maxRecDepth 100000
namespace Alm
def MkP (x d:Int):Prop:=(0<d/\d<=1099511627776)/\(-1099511627776<=x/\x<=1099511627776)/\((-4294967296<=x/\x<=4294967296)∨(-d<=x/\x<=d))
end Alm
namespace Go.Proofs.Ytpcfajiiijndiaa
open Go.RowKit Alm
theorem UZ {x d:Int} (h:MkP x d):In64 (qFl x 1073741824 d)/\In64 (qCe x 1073741824 d)/\x.natAbs*(1073741824:Int).natAbs<=1267650600228229401496703205376/\qFl x 1073741824 d<=qCe x 1073741824 d:=by
 obtain ⟨hd,hx,hq⟩:=h;unfold qFl qCe In64
 have key:-4611686018427387904<=x*1073741824/d/\-4611686018427387904<=-(x*1073741824)/d:=by
  rcases hq with q|q
  . constructor
    . exact Int.le_ediv_of_mul_le hd.1 (by have:=Int.mul_le_mul_of_nonneg_left (show (1:Int)<=d by omega) (show (0:Int)<=4611686018427387904 by omega);omega)
    . exact Int.le_ediv_of_mul_le hd.1 (by have:=Int.mul_le_mul_of_nonneg_left (show (1:Int)<=d by omega) (show (0:Int)<=4611686018427387904 by omega);omega)
  . constructor
    . exact Int.le_ediv_of_mul_le hd.1 (by omega)
    . exact Int.le_ediv_of_mul_le hd.1 (by omega)
 have key2:x*1073741824/d<=-(-(x*1073741824)/d):=by
  have a1:=Int.mul_ediv_add_emod (x*1073741824) d;have a2:=Int.mul_ediv_add_emod (-(x*1073741824)) d;have b1:=Int.emod_nonneg (x*1073741824) (show d≠0 by omega)
  have b2:=Int.emod_nonneg (-(x*1073741824)) (show d≠0 by omega)
  refine Int.not_lt.1 fun hh=>?_
  have m:=Int.mul_le_mul_of_nonneg_left (show -(-(x*1073741824)/d)+1<=x*1073741824/d by omega) (show 0<=d by omega)
  have e:d*(-(-(x*1073741824)/d)+1)=-(d*(-(x*1073741824)/d))+d:=by grind
  omega
 have key3:x*1073741824/d<=4611686018427387904:=by omega
 have key4:-(-(x*1073741824)/d)<=4611686018427387904:=by omega
 refine ⟨⟨by omega,by omega⟩,⟨by omega,by omega⟩,?_,key2⟩
 have:x.natAbs<=1099511627776:=by omega
 have:=Nat.mul_le_mul_right 1073741824 this;show x.natAbs*1073741824<=_;omega
theorem Qz (x d:Int) (w:World) (h:MkP x d) :
 Calls Try.prog 149 #[.int .i64 x,.int .i64 d] w fun e w'=>e=.returned (opV (qFl x 1073741824 d) (qCe x 1073741824 d))/\Below w.heap.size w w':=by
 obtain ⟨b1,b2,b3,_⟩:=UZ h;have hd:=h.1;have hx:=h.2.1;have CE:=Lib.hid (fun w=>kU x 1073741824 d w ⟨by omega,by omega⟩ ⟨by omega,by omega⟩ b3 hd.1 (by omega) b1 b2)
 have CF:=Lib.hid (fun w=>pz (qFl x 1073741824 d) (qCe x 1073741824 d) w)
 obtain ⟨p,q,z,hE⟩:=iY (qFl x 1073741824 d) (qCe x 1073741824 d);rw [hE] at CF ⊢
 clear b1 b2 b3 hx h hE;obtain ⟨hd,_⟩:=hd;generalize qFl x 1073741824 d=L at *
 generalize qCe x 1073741824 d=H at *
 have K0:=Lib.hid ((dD w).new w.heap.size rfl 50 #[.int .i64 0,.int .i64 0]);have hd0:(d==0)=false:=by simp;omega
 have hdd:decide (d=0)=false:=by simp;omega
 go_enter Try.func149,Try.ntmps149;go_wp2_with fail;refine (CE.out _).mono ?_;rintro e w1 ⟨rfl,hb⟩;have K1:=Lib.hid (K0.out.below hb);clear hb K0;go_wp2_with fail;refine (CF.out _).mono ?_;rintro e w2 ⟨rfl,hb⟩;have K2:=Lib.hid (K1.out.below hb);clear hb K1;have q0:=K2.out.c (g:=w.heap.size) (t:=50) (cs:=#[.int .i64 0,.int .i64 0]) (by simp) (i:=0) rfl
 have q1:=K2.out.c (g:=w.heap.size) (t:=50) (cs:=#[.int .i64 0,.int .i64 0]) (by simp) (i:=1) rfl
 have g0:=K2.out.f (g:=w.heap.size) (t:=50) (cs:=#[.int .i64 0,.int .i64 0]) (by simp) 0
 have g1:=K2.out.f (g:=w.heap.size) (t:=50) (cs:=#[.int .i64 0,.int .i64 0]) (by simp) 1
 go_wp2;refine bodyPost_ret (by simp [results,Try.results149,go_sem,q0,q1];try rfl) rfl ⟨rfl,by have:=K2.out.1;go_light;go_grown⟩
