/- Package rhumb's root. -/
import Derived.Test.YtcfpmdndgbpfpaaZKp
import Derived.Laws.BitsLemmas
import Derived.WalkArith
import Derived.Deep.Light
import Derived.StillTailTactics
import Derived.Deep.RegionHeld3
set_option linter.unusedVariables false
set_option linter.unusedSimpArgs false
set_option maxRecDepth 100000
set_option maxHeartbeats 4000000
namespace Alm
def rtB:Nat->Nat->Nat->Nat
 | 0,_,r=>r
 | k+1,n,r=>if r+2^k<=3000000000/\(r+2^k)*(r+2^k)<=n then rtB k n (r+2^k) else rtB k n r
theorem IG (k:Nat):∀ n r:Nat,r*r<=n->(n<(r+2^k)*(r+2^k)∨r+2^k>3000000000)->n<3000000000*3000000000->rtB k n r*rtB k n r<=n/\n<(rtB k n r+1)*(rtB k n r+1):=by
 induction k with
 | zero =>
  intro n r h1 h2 h3;simp only [rtB];refine ⟨h1,?_⟩;rcases h2 with h|h
  . exact h
  . have h':3000000000<=r+1:=by rw [Nat.pow_zero] at h;omega
    exact Nat.lt_of_lt_of_le h3 (Nat.mul_le_mul h' h')
 | succ k ih =>
  intro n r h1 h2 h3;simp only [rtB];have e:r+2^k+2^k=r+2^(k+1):=by rw [Nat.pow_succ];omega
  split
  . rename_i c
    exact ih n (r+2^k) c.2 (by rw [e];exact h2) h3
  . rename_i c
    refine ih n r h1 ?_ h3
    by_cases c1:r+2^k<=3000000000
    . left
      rcases Nat.lt_or_ge n ((r+2^k)*(r+2^k)) with g|g
      . exact g
      . exact absurd ⟨c1,g⟩ c
    . right;omega
end Alm
namespace Go.Proofs.Ytcfpmdndgbpfpaa
open Go.RowKit Alm
theorem w62 (n:Int) (h0:0<=n) (h1:n<2^62):IntKind.i64.wrap n=n:=Go.IntWalk.i64_in _ (by omega)
theorem GX (n:Nat) (hn:n<=9000000000000000000) (w:World):Calls Try.prog 25 #[.int .i64 (n:Int)] w fun e w'=>e=.returned (.tuple #[.int .i64 ((rtB 32 n 0:Nat):Int),.bool (decide (rtB 32 n 0*rtB 32 n 0=n))])/\Below w.heap.size w w':=by
 go_enter Try.func25,Try.ntmps25;go_wp2_with fail;go_loopw [4,5] (fun q4 q5 wr=>∃ k r:Nat,q4=.int .i64 (r:Int)/\q5=.int .i64 ((2^k/2:Nat):Int)/\k<=32/\r%2^k=0/\r<=3000000000/\rtB k n r=rtB 32 n 0/\Below w.heap.size w wr) (fun _ q5 _=>(intOf q5).toNat)
 case atStart=>exact ⟨32,0,rfl,rfl,by omega,by omega,by omega,rfl,Below.refl _ _⟩
 case round =>
  obtain ⟨k,r,rfl,rfl,hk,hm,hr,he,hb⟩:=hrel;have HB:=Lib.hid hb;have HE:=Lib.hid he;clear hb he;cases k with
  | zero =>
   have ez:((2^0/2:Nat):Int)=0:=rfl;rw [ez]
   have hrr:IntKind.i64.wrap ((r:Int)*(r:Int))=(r:Int)*(r:Int):=Go.IntWalk.i64_in _ (by
    have a:(r:Int)<=3000000000:=by omega
    have b:=Int.mul_le_mul a a (by omega) (by omega)
    have c:=Int.mul_nonneg (show (0:Int)<=(r:Int) by omega) (show (0:Int)<=(r:Int) by omega)
    omega)
   have er:r=rtB 32 n 0:=HE.out;go_wp2
   first|go_ret|go_ret2
   refine ⟨?_,HB.out⟩;rw [<-er]
   have hw:wrap64 ((r:Int)*(r:Int))=(r:Int)*(r:Int):=by
    have a:(r:Int)<=3000000000:=by omega
    have b:=Int.mul_le_mul a a (by omega) (by omega)
    have c:=Int.mul_nonneg (show (0:Int)<=(r:Int) by omega) (show (0:Int)<=(r:Int) by omega)
    unfold wrap64;generalize (r:Int)*(r:Int)=z at *
    omega
   have:((r:Int)*(r:Int)==(n:Int))=decide (r*r=n):=by
    rw [Bool.eq_iff_iff];simp
    constructor
    . intro h;exact_mod_cast h
    . intro h;exact_mod_cast h
   simp [hw,this]
  | succ k =>
   have ez:((2^(k+1)/2:Nat):Int)=((2^k:Nat):Int):=by rw [Nat.pow_succ,Nat.mul_div_cancel _ (by omega)]
   rw [ez];have k31:2^k<=2^31:=Nat.pow_le_pow_right (by omega) (by omega)
   have kp:0<2^k:=Nat.two_pow_pos _;have hgt:(0:Int)<((2^k:Nat):Int):=by omega
   have hor:bits .or .i64 (r:Int) ((2^k:Nat):Int)=((r+2^k:Nat):Int):=by
    rw [bits_join .i64 62 (by decide) w62 (k+1) (r:Int) ((2^k:Nat):Int) (by omega) (by
     have:(2:Int)^(k+1)=((2^(k+1):Nat):Int):=by norm_cast
     rw [this];omega) (by omega) (by omega) (by
     have:(2:Int)^(k+1)=((2^(k+1):Nat):Int):=by norm_cast
     rw [this,Nat.pow_succ];omega) (by omega)]
    omega
   have hsh:Op.shift .shr .i64 ((2^k:Nat):Int) .u64 1=pure (.int .i64 ((2^k/2:Nat):Int)):=by
    rw [shift_shr .i64 .u64 _ 1 (by omega) (by decide)]
    have:((2^k:Nat):Int)/2^(1:Int).toNat=((2^k/2:Nat):Int):=by
     rw [show (2:Int)^(1:Int).toNat=2 from rfl];omega
    rw [this]
   have step:=HE.out;rw [show rtB (k+1) n r=(if r+2^k<=3000000000/\(r+2^k)*(r+2^k)<=n then rtB k n (r+2^k) else rtB k n r) from rfl] at step
   have hm2:r%2^k=0:=by
    have d:2^k ∣ 2^(k+1):=Nat.pow_dvd_pow 2 (by omega)
    exact Nat.mod_eq_zero_of_dvd (Nat.dvd_trans d (Nat.dvd_of_mod_eq_zero hm))
   have hs2:(r+2^k)%2^k=0:=by rw [Nat.add_mod_right];exact hm2
   have ms:(intOf (.int .i64 ((2^k/2:Nat):Int))).toNat<(intOf (.int .i64 ((2^k:Nat):Int))).toNat:=by simp only [intOf];omega
   have R1:Hid (∀ x:Nat,x%2^k=0->x<=3000000000->rtB k n x=rtB 32 n 0->(∃ k' r':Nat,Value.int .i64 (x:Int)=.int .i64 (r':Int)/\Value.int .i64 ((2^k/2:Nat):Int)=.int .i64 ((2^k'/2:Nat):Int)/\k'<=32/\r'%2^k'=0/\r'<=3000000000/\rtB k' n r'=rtB 32 n 0/\Below w.heap.size w wr)/\(intOf (.int .i64 ((2^k/2:Nat):Int))).toNat<(intOf (.int .i64 ((2^k:Nat):Int))).toNat):=Lib.hid (fun x a b c=>⟨⟨k,x,rfl,rfl,by omega,a,b,c,HB.out⟩,ms⟩)
   clear HB ms ez hm;generalize hx:r+2^k=x at *
   generalize hB:2^k=B at *
   by_cases c1:x<=3000000000
   . have c1':(x:Int)<=3000000000:=by omega
     have hrr:IntKind.i64.wrap ((x:Int)*(x:Int))=(x:Int)*(x:Int):=Go.IntWalk.i64_in _ (by
      have b:=Int.mul_le_mul c1' c1' (by omega) (by omega)
      have c:=Int.mul_nonneg (show (0:Int)<=(x:Int) by omega) (show (0:Int)<=(x:Int) by omega)
      omega)
     by_cases c2:x*x<=n
     . have c2':(x:Int)*(x:Int)<=(n:Int):=by exact_mod_cast c2
       rw [if_pos ⟨c1,c2⟩] at step;have S:=Lib.hid step;clear step HE hx;go_wp2;go_light;exact R1.out x hs2 c1 S.out
     . have c2':¬ (x:Int)*(x:Int)<=(n:Int):=by intro h;exact c2 (by exact_mod_cast h)
       rw [if_neg (fun h=>c2 h.2)] at step
       have S:=Lib.hid step;clear step HE hx;go_wp2;go_light;exact R1.out r hm2 hr S.out
   . have c1':¬ (x:Int)<=3000000000:=by omega
     rw [if_neg (fun h=>c1 h.1)] at step
     have S:=Lib.hid step;clear step HE hx;go_wp2;go_light;exact R1.out r hm2 hr S.out
