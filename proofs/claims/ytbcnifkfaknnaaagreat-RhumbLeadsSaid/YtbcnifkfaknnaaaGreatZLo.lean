/- The contracts of math/bits that the program needs. -/
import Derived.Test.YtbcnifkfaknnaaaGreatProg
import Derived.WalkKit
import Derived.WalkLawsBesides
import Derived.WalkSpells
import Derived.Handy
import Derived.BigRegion
import Derived.BigQuiet
import Derived.Deep.QuietTactic
import Derived.Lib.Hide
import Derived.Lib.Mul64
import Derived.Laws.Bits64b
import Derived.Laws.Externs
import Derived.Outline
import Derived.Test.YtbcnifkfaknnaaaGreatZNums
set_option linter.unusedVariables false
set_option linter.unusedSimpArgs false
set_option maxRecDepth 100000
set_option maxHeartbeats 4000000
namespace Go.Proofs.YtbcnifkfaknnaaaGreat
open Go.RowKit
def U64 (x:Int):Prop:=0<=x/\x<18446744073709551616
def Bit (x:Int):Prop:=0<=x/\x<=1
def sb (x y c:Int):Int:=(x+18446744073709551616-y-c)%18446744073709551616
def sbc (x y c:Int):Int:=if x<y+c then 1 else 0
def ad (x y c:Int):Int:=(x+y+c)%18446744073709551616
def adc (x y c:Int):Int:=(x+y+c)/18446744073709551616
def mh (x y:Int):Int:=x*y/18446744073709551616
def ml (x y:Int):Int:=x*y%18446744073709551616
theorem cu (x y c:Int) (hx:U64 x) (hy:U64 y) (hc:Bit c):U64 (sb x y c)/\Bit (sbc x y c)/\sb x y c=x-y-c+18446744073709551616*sbc x y c:=by
 unfold U64 Bit sb sbc at *;split<;>omega
theorem bB (x y c:Int) (hx:U64 x) (hy:U64 y) (hc:Bit c):U64 (ad x y c)/\Bit (adc x y c)/\ad x y c=x+y+c-18446744073709551616*adc x y c:=by
 unfold U64 Bit ad adc at *;omega
theorem dV (x y:Int) (hx:U64 x) (hy:U64 y):U64 (mh x y)/\U64 (ml x y)/\ml x y=x*y-18446744073709551616*mh x y/\mh x y<=18446744073709551614:=by
 unfold U64 mh ml at *
 have h0:0<=x*y:=Int.mul_nonneg hx.1 hy.1;have h1:x*y<=18446744073709551615*18446744073709551615:=Int.mul_le_mul (by omega) (by omega) (by omega) (by omega)
 generalize x*y=p at *
 omega
def NS:Array Value->Sem Value:=fun args=>do
 let (x, y, b) ← Extern.MathBitsCarry.three "Sub64" args
 pure (Extern.MathBitsCarry.pair ((x+Extern.MathBitsCarry.m64-y-b)%Extern.MathBitsCarry.m64) (if x<y+b then 1 else 0))
theorem Fe {P:Program} (x y b:Nat) (hb:b<=1) (w:World) :
 (NS #[.int .u64 x,.int .u64 y,.int .u64 b]).run P w =
  .ok (.tuple #[.int .u64 (((x+18446744073709551616-y-b)%18446744073709551616:Nat):Int),.int .u64 ((if x<y+b then 1 else 0:Nat):Int)]) w:=by
 have:b=0∨b=1:=by omega
 rcases this with rfl|rfl<;>rfl
theorem dN (x y b:Int) (hx:U64 x) (hy:U64 y) (hb:Bit b) (w:World) :
 (callFunc 77 #[.int .u64 x,.int .u64 y,.int .u64 b]).run Tryz.prog w =
  .ok (.value (.tuple #[.int .u64 (sb x y b),.int .u64 (sbc x y b)])) w:=by
 unfold U64 Bit at *
 obtain ⟨X,rfl⟩:=Int.eq_ofNat_of_zero_le hx.1;obtain ⟨Y,rfl⟩:=Int.eq_ofNat_of_zero_le hy.1;obtain ⟨B,rfl⟩:=Int.eq_ofNat_of_zero_le hb.1;rw [run_callFunc_extern Tryz.func77 (by kernel_rfl) (by kernel_rfl) (by kernel_rfl) (e:=NS) (by kernel_rfl),Fe X Y B (by omega)]
 have e1:(((X+18446744073709551616-Y-B)%18446744073709551616:Nat):Int)=sb X Y B:=by unfold sb;omega
 have e2:((if X<Y+B then 1 else 0:Nat):Int)=sbc X Y B:=by unfold sbc;split<;>split<;>omega
 rw [e1,e2];rfl
theorem aZ (x y b:Int) (hx:U64 x) (hy:U64 y) (hb:Bit b) (w:World) :
 (callFunc 76 #[.int .u64 x,.int .u64 y,.int .u64 b]).run Tryz.prog w =
  .ok (.value (.tuple #[.int .u64 (ad x y b),.int .u64 (adc x y b)])) w:=by
 unfold U64 Bit at *
 rw [run_callFunc_extern Tryz.func76 (by kernel_rfl) (by kernel_rfl) (by kernel_rfl) (e:=add64Entry) (by kernel_rfl),run_add64 x y b hx.1 hy.1 hb.1 hb.2]
 rfl
theorem maskN (a:Nat) (ha:a<18446744073709551616):bits .and .u64 (a:Int) 4294967295=((a%4294967296:Nat):Int):=by
 have h:=bits_and_u64_nat a 4294967295 ha (by omega)
 have e:a &&& 4294967295=a%4294967296:=Nat.and_two_pow_sub_one_eq_mod a 32;rw [e] at h;exact h
theorem divN (a:Nat):(a:Int)/4294967296=((a/4294967296:Nat):Int):=by omega
theorem Wi (a b:Nat):(a:Int)*(b:Int)=((a*b:Nat):Int):=(Int.natCast_mul a b).symm
theorem YQ (a b:Nat):(a:Int)+(b:Int)=((a+b:Nat):Int):=(Int.natCast_add a b).symm
theorem wrapN (a:Nat) (ha:a<18446744073709551616):IntKind.u64.wrap (a:Int)=(a:Int):=by rw [IntKind.wrap_u64];omega
theorem wrapM (a:Nat):IntKind.u64.wrap (a:Int)=((a%18446744073709551616:Nat):Int):=by rw [IntKind.wrap_u64];omega
theorem II (x y:Nat) (hx:x<18446744073709551616) (hy:y<18446744073709551616) (w:World) :
 Calls Tryz.prog 79 #[.int .u64 x,.int .u64 y] w fun e w'=>e=.returned (.tuple #[.int .u64 ((x*y/18446744073709551616:Nat):Int),.int .u64 ((x*y%18446744073709551616:Nat):Int)])/\w=w':=by
 obtain ⟨bd,bt,bw,hhi⟩:=Lib.mul64_hi x y hx hy;have ba:=Lib.half_mul_le (a:=x/4294967296) (b:=y/4294967296) (by omega) (by omega)
 have bb:=Lib.half_mul_le (a:=x/4294967296) (b:=y%4294967296) (by omega) (by omega)
 have bc:=Lib.half_mul_le (a:=x%4294967296) (b:=y/4294967296) (by omega) (by omega)
 have ba':x/4294967296*(y/4294967296)<18446744073709551616:=by omega
 have bb':x/4294967296*(y%4294967296)<18446744073709551616:=by omega
 have bc':x%4294967296*(y/4294967296)<18446744073709551616:=by omega
 have bh1:x/4294967296*(y/4294967296)+(x/4294967296*(y%4294967296)+x%4294967296*(y%4294967296)/4294967296)/4294967296<18446744073709551616:=by omega
 have bh:x/4294967296*(y/4294967296)+(x/4294967296*(y%4294967296)+x%4294967296*(y%4294967296)/4294967296)/4294967296+((x/4294967296*(y%4294967296)+x%4294967296*(y%4294967296)/4294967296)%4294967296+x%4294967296*(y/4294967296))/4294967296<18446744073709551616:=by omega
 go_enter Tryz.func79,Tryz.ntmps79;go_wp2;simp only [maskN x hx,maskN y hy,divN,Wi,YQ,wrapN _ bd,wrapN _ bb',wrapN _ bt,maskN _ bt,wrapN _ bc',wrapN _ bw,wrapN _ ba',wrapN _ bh1,wrapN _ bh,wrapM (x*y)];rw [hhi];go_ret2;exact ⟨rfl,rfl⟩
theorem dQ (x y:Int) (hx:U64 x) (hy:U64 y) (w:World) :
 Calls Tryz.prog 79 #[.int .u64 x,.int .u64 y] w fun e w'=>e=.returned (.tuple #[.int .u64 (mh x y),.int .u64 (ml x y)])/\w=w':=by
 unfold U64 at *
 obtain ⟨X,rfl⟩:=Int.eq_ofNat_of_zero_le hx.1;obtain ⟨Y,rfl⟩:=Int.eq_ofNat_of_zero_le hy.1;have h:=II X Y (by omega) (by omega) w
 have e1:((X*Y/18446744073709551616:Nat):Int)=mh X Y:=by unfold mh;rw [<-Int.natCast_mul];omega
 have e2:((X*Y%18446744073709551616:Nat):Int)=ml X Y:=by unfold ml;rw [<-Int.natCast_mul];omega
 rw [e1,e2] at h;exact h
theorem oQ {k:IntKind} {a b:Int} (h:a=b):Ending.returned (.int k a)=.returned (.int k b):=by rw [h]
theorem fT (t:ByteArray) (f:Nat->Nat) (hsz:t.size=256) (h:∀ k:Fin 256,(t[k.1]!).toNat=f k.1) (k:Nat) (hk:k<t.size):t[k].toNat=f k:=by
 have:=h ⟨k,by omega⟩
 simp only at this;rw [<-this,getElem!_pos t k hk]
def fH (k:Nat):Nat:=if k=0 then 0 else Nat.log2 k+1
theorem wI (k:Nat) (hk:k<256):fH k<=8/\k<2^(fH k)/\(0<k->2^(fH k)<=2*k):=by
 unfold fH;split
 . subst k;simp
 . rename_i h0
   refine ⟨?_,Nat.lt_log2_self,fun _=>?_⟩
   . have:=(Nat.log2_lt h0 (k:=8)).2 (by omega);omega
   . have:=Nat.log2_self_le h0;rw [Nat.pow_succ];omega
def kI (x:Int) (n:Nat):Prop:=n<=64/\x<2^n/\(0<x->(2^n:Int)<=2*x)
theorem JF (x:Int) (c k:Nat) (hx:0<=x) (hc:c<=56) (h1:(k:Int)*2^c<=x) (h2:x<((k:Int)+1)*2^c) (hk:k<256) (h0:0<k∨c=0):kI x (c+fH k):=by
 obtain ⟨f1,f2,f3⟩:=wI k hk;have e:(2:Int)^(c+fH k)=2^(fH k)*2^c:=by rw [Int.pow_add,Int.mul_comm]
 have hp:(0:Int)<2^c:=Int.pow_pos (by decide)
 have g2:(k:Int)+1<=2^(fH k):=by exact_mod_cast f2
 refine ⟨by omega,?_,fun hx0=>?_⟩
 . rw [e];have:=Int.mul_le_mul_of_nonneg_right g2 (show (0:Int)<=2^c by omega)
   omega
 . rw [e];rcases Nat.eq_zero_or_pos k with hk0|hk0
   . subst hk0;rcases h0 with h0|h0
     . omega
     . subst h0;simp at h2;omega
   . have g3:(2:Int)^(fH k)<=2*k:=by exact_mod_cast f3 hk0
     have:=Int.mul_le_mul_of_nonneg_right g3 (show (0:Int)<=2^c by omega)
     rw [Int.mul_assoc] at this;omega
theorem Q8 (x:Int) (w:World) (hx:U64 x) :
 Calls Tryz.prog 100 #[.int .u64 x] w fun e w'=>(∃ n:Nat,e=.returned (.int .i64 n)/\kI x n)/\w=w':=by
 obtain ⟨hx0,hx1⟩:=hx;have hP:∀ (e:Ending),(∃ (n:Int) (c k:Nat),e=.returned (.int .i64 n)/\n=((c+fH k:Nat):Int)/\c<=56/\(k:Int)*2^c<=x/\x<((k:Int)+1)*2^c/\k<256/\(0<k∨c=0))->(∃ n:Nat,e=.returned (.int .i64 n)/\kI x n):=by
  rintro e ⟨n,c,k,rfl,rfl,h1,h2,h3,h4,h5⟩;exact ⟨_,rfl,JF x c k hx0 h1 h2 h3 h4 h5⟩
 have hw:∀ (c k:Nat),c<=56->k<256->wrap64 ((c:Int)+wrap64 ((fH k:Nat):Int))=((c+fH k:Nat):Int):=by
  intro c k hc hk;have:=(wI k hk).1;simp only [wrap64];omega
 have HP:=Lib.hid hP;clear hP;have HW:=Lib.hid hw;clear hw;go_enter Tryz.func100,Tryz.ntmps100;go_wp2
 all_goals go_ret
 all_goals refine ⟨HP.out _ ?_,rfl⟩
 . refine ⟨_,56,(x/4294967296/65536/256).toNat,rfl,?_⟩;rw [fT _ fH (by decide +kernel) (by decide +kernel)]
   have hk:(x/4294967296/65536/256).toNat<256:=by omega
   have hw:=HW.out 56 _ (by decide) hk
   exact ⟨by first|exact hw|(rw [<-hw];simp),by omega,by omega,by omega,hk,by omega⟩
 . refine ⟨_,48,(x/4294967296/65536).toNat,rfl,?_⟩;rw [fT _ fH (by decide +kernel) (by decide +kernel)]
   have hk:(x/4294967296/65536).toNat<256:=by omega
   have hw:=HW.out 48 _ (by decide) hk
   exact ⟨by first|exact hw|(rw [<-hw];simp),by omega,by omega,by omega,hk,by omega⟩
 . refine ⟨_,40,(x/4294967296/256).toNat,rfl,?_⟩;rw [fT _ fH (by decide +kernel) (by decide +kernel)]
   have hk:(x/4294967296/256).toNat<256:=by omega
   have hw:=HW.out 40 _ (by decide) hk
   exact ⟨by first|exact hw|(rw [<-hw];simp),by omega,by omega,by omega,hk,by omega⟩
 . refine ⟨_,32,(x/4294967296).toNat,rfl,?_⟩;rw [fT _ fH (by decide +kernel) (by decide +kernel)]
   have hk:(x/4294967296).toNat<256:=by omega
   have hw:=HW.out 32 _ (by decide) hk
   exact ⟨by first|exact hw|(rw [<-hw];simp),by omega,by omega,by omega,hk,by omega⟩
 . refine ⟨_,24,(x/65536/256).toNat,rfl,?_⟩;rw [fT _ fH (by decide +kernel) (by decide +kernel)]
   have hk:(x/65536/256).toNat<256:=by omega
   have hw:=HW.out 24 _ (by decide) hk
   exact ⟨by first|exact hw|(rw [<-hw];simp),by omega,by omega,by omega,hk,by omega⟩
 . refine ⟨_,16,(x/65536).toNat,rfl,?_⟩;rw [fT _ fH (by decide +kernel) (by decide +kernel)]
   have hk:(x/65536).toNat<256:=by omega
   have hw:=HW.out 16 _ (by decide) hk
   exact ⟨by first|exact hw|(rw [<-hw];simp),by omega,by omega,by omega,hk,by omega⟩
 . refine ⟨_,8,(x/256).toNat,rfl,?_⟩;rw [fT _ fH (by decide +kernel) (by decide +kernel)]
   have hk:(x/256).toNat<256:=by omega
   have hw:=HW.out 8 _ (by decide) hk
   exact ⟨by first|exact hw|(rw [<-hw];simp),by omega,by omega,by omega,hk,by omega⟩
 . refine ⟨_,0,(x).toNat,rfl,?_⟩;rw [fT _ fH (by decide +kernel) (by decide +kernel)]
   have hk:(x).toNat<256:=by omega
   have hw:=HW.out 0 _ (by decide) hk
   exact ⟨by first|exact hw|(rw [<-hw];simp),by omega,by omega,by omega,hk,by omega⟩
theorem jv (n:Nat) (h:n<=64):(2:Int)^n*2^(64-n)=18446744073709551616:=by
 rw [<-Int.pow_add,show n+(64-n)=64 from by omega];rfl
end Go.Proofs.YtbcnifkfaknnaaaGreat
namespace Alm
def upd (o:Nat->Int) (i:Nat) (v:Int):Nat->Int:=fun k=>if k=i then v else o k
def wt:Nat->Int
 | 0=>2135987035920910082395021706169552114602704522356652769947041607822219725780640550022962086936576|1=>2^256|2=>2^192|3=>2^128|4=>2^64|5=>1|_=>0
def V6 (o:Nat->Int):Int:=o 0*wt 0+o 1*wt 1+o 2*wt 2+o 3*wt 3+o 4*wt 4+o 5*wt 5
theorem Ms (o:Nat->Int) (p:Nat) (v:Int) (hp:p<=5):V6 (upd o p v)=V6 o+(v-o p)*wt p:=by
 have:p=0∨p=1∨p=2∨p=3∨p=4∨p=5:=by omega
 rcases this with rfl|rfl|rfl|rfl|rfl|rfl<;>simp only [V6,upd]<;>simp (decide:=true) only [if_true,if_false]<;>grind
theorem Gu (p:Nat) (hp:p<5):wt p=18446744073709551616*wt (p+1):=by
 have:p=0∨p=1∨p=2∨p=3∨p=4:=by omega
 rcases this with rfl|rfl|rfl|rfl|rfl<;>rfl
def pf (a b:Nat->Int) (i j:Nat):Int:=if i+j<=4 then a i*b j*wt (i+j+1) else 0
def rp (a b:Nat->Int) (i:Nat):Nat->Int
 | 0=>0
 | m+1=>rp a b i m+pf a b i (3-m)
def tot (a b:Nat->Int):Nat->Int
 | 0=>0
 | n+1=>tot a b n+rp a b (3-n) 4
def LU (x:Int):Prop:=0<=x/\x<18446744073709551616
theorem J8 (p:Nat):0<=wt p:=by
 unfold wt;split<;>decide
theorem I9 (a b:Nat->Int) (ha:∀ k,k<4->LU (a k)) (hb:∀ k,k<4->LU (b k)) (i j:Nat) (hi:i<4) (hj:j<4):0<=pf a b i j:=by
 unfold pf;split
 . exact Int.mul_nonneg (Int.mul_nonneg (ha i hi).1 (hb j hj).1) (J8 _)
 . omega
theorem Iy (a b:Nat->Int) (ha:∀ k,k<4->LU (a k)) (hb:∀ k,k<4->LU (b k)) (i m:Nat) (hi:i<4):0<=rp a b i m:=by
 induction m with
 | zero=>simp [rp]
 | succ m ih=>simp only [rp];have:=I9 a b ha hb i (3-m) hi (by omega);omega
theorem gX (a b:Nat->Int) (ha:∀ k,k<4->LU (a k)) (hb:∀ k,k<4->LU (b k)) (n:Nat):tot a b n<=tot a b (n+1):=by
 have:=Iy a b ha hb (3-n) 4 (by omega)
 simp only [tot];omega
def V4 (a:Nat->Int):Int:=a 0*2^192+a 1*2^128+a 2*2^64+a 3
def rest (a b:Nat->Int):Int:=2^64*(a 2*b 3+a 3*b 2)+a 3*b 3
theorem DI (a b:Nat->Int):tot a b 4*2^128+rest a b=V4 a*V4 b:=by
 simp [tot,rp,pf,wt,V4,rest];grind
theorem SA (a b:Nat->Int) (ha:∀ k,k<4->LU (a k)) (hb:∀ k,k<4->LU (b k)) (n:Nat) (hn:n<=4):tot a b n<39402006196394479212279040100143613805079739270465446667948293404245721771497210611414266254884915640806627990306816:=by
 have m0:=gX a b ha hb 0;have m1:=gX a b ha hb 1;have m2:=gX a b ha hb 2;have m3:=gX a b ha hb 3;have h4:tot a b 4<39402006196394479212279040100143613805079739270465446667948293404245721771497210611414266254884915640806627990306816:=by
  have hf:=DI a b;have hr:0<=rest a b:=by
   have:=Int.mul_nonneg (ha 2 (by omega)).1 (hb 3 (by omega)).1
   have:=Int.mul_nonneg (ha 3 (by omega)).1 (hb 2 (by omega)).1
   have:=Int.mul_nonneg (ha 3 (by omega)).1 (hb 3 (by omega)).1
   unfold rest;omega
  have va:0<=V4 a/\V4 a<2^256:=by
   have:=ha 0 (by omega);have:=ha 1 (by omega);have:=ha 2 (by omega);have:=ha 3 (by omega)
   unfold LU V4 at *;omega
  have vb:0<=V4 b/\V4 b<2^256:=by
   have:=hb 0 (by omega);have:=hb 1 (by omega);have:=hb 2 (by omega);have:=hb 3 (by omega)
   unfold LU V4 at *;omega
  have hm:V4 a*V4 b<=(2^256-1)*(2^256-1):=Int.mul_le_mul (by omega) (by omega) vb.1 (by omega)
  generalize V4 a*V4 b=p at *
  generalize rest a b=r at *
  generalize tot a b 4=t at *
  omega
 have:n=0∨n=1∨n=2∨n=3∨n=4:=by omega
 simp only [Nat.reduceAdd] at *
 rcases this with rfl|rfl|rfl|rfl|rfl<;>omega
theorem M4 (a b o:Nat->Int) (n i j:Nat) (c hi lo s1 c1 s2 c2:Int) (hj:i+j<=4) (hi3:i<=3) (hj3:j<=3)
 (e0:lo=a i*b j-18446744073709551616*hi) (e1:s1=o (i+j+1)+lo-18446744073709551616*c1) (e2:s2=s1+c-18446744073709551616*c2)
 (h:V6 o+c*wt (i+j+1)=tot a b n+rp a b i (3-j)) :
 V6 (upd o (i+j+1) s2)+(hi+c1+c2)*wt (i+j)=tot a b n+rp a b i (3-j+1):=by
 rw [Ms o _ _ (by omega),Gu (i+j) (by omega)]
 simp only [rp];have e3:3-(3-j)=j:=by omega
 have e4:pf a b i j=a i*b j*wt (i+j+1):=by unfold pf;rw [if_pos hj]
 rw [e3,e4];generalize wt (i+j+1)=w at *
 generalize V6 o=v at *
 generalize rp a b i (3-j)=r at *
 generalize tot a b n=t at *
 generalize a i*b j=p at *
 subst e2 e1 e0;grind
theorem rC (x y op c hi lo s1 c1 s2 c2:Int) (hx:LU x) (hy:LU y) (ho:LU op) (hc:LU c) (hs:LU s2)
 (e0:lo=x*y-18446744073709551616*hi) (e1:s1=op+lo-18446744073709551616*c1) (e2:s2=s1+c-18446744073709551616*c2):hi+c1+c2<18446744073709551616:=by
 unfold LU at *
 have hm:x*y<=18446744073709551615*18446744073709551615:=Int.mul_le_mul (by omega) (by omega) hy.1 (by omega)
 generalize x*y=p at *
 omega
theorem Oq (a b o:Nat->Int) (n i j:Nat) (c:Int) (hj:¬ i+j<=4) (hj3:j<=3)
 (h:V6 o+c*wt (i+j+1)=tot a b n+rp a b i (3-j)) (hc:c=0) :
 V6 o+c*wt (i+j)=tot a b n+rp a b i (3-j+1):=by
 simp only [rp];have e3:3-(3-j)=j:=by omega
 have e4:pf a b i j=0:=by unfold pf;rw [if_neg hj]
 rw [e3,e4];subst hc;omega
theorem UA (o:Nat->Int) (k:Nat) (c s c' t:Int) (hk:k<=3) (e:s=o k+c-18446744073709551616*c') (h:V6 o+c*wt k=t) :
 V6 (upd o k s)+c'*(18446744073709551616*wt k)=t:=by
 rw [Ms o k s (by omega)]
 subst e;grind
theorem PS (k:Nat) (hk:k<=3) (h0:0<k):18446744073709551616*wt k=wt (k-1):=by
 have:=Gu (k-1) (by omega)
 rw [show k-1+1=k by omega] at this;omega
theorem Js (o:Nat->Int) (ho:∀ k,k<6->LU (o k)):0<=V6 o:=by
 have h0:=ho 0 (by omega);have h1:=ho 1 (by omega);have h2:=ho 2 (by omega);have h3:=ho 3 (by omega);have h4:=ho 4 (by omega);have h5:=ho 5 (by omega)
 simp only [LU,V6,wt] at *;omega
theorem Q9 (o:Nat->Int) (ho:∀ k,k<6->LU (o k)) (c t:Int) (ht:t<39402006196394479212279040100143613805079739270465446667948293404245721771497210611414266254884915640806627990306816) (hc:0<=c) (h:V6 o+c*(18446744073709551616*wt 0)=t):c=0:=by
 have:=Js o ho;simp only [wt] at h;omega
theorem X7 (o:Nat->Int) (ho:∀ k,k<6->LU (o k)):V4 o=V6 o/2^128:=by
 have h0:=ho 0 (by omega);have h1:=ho 1 (by omega);have h2:=ho 2 (by omega);have h3:=ho 3 (by omega);have h4:=ho 4 (by omega);have h5:=ho 5 (by omega)
 simp only [LU,V6,V4,wt] at *;omega
end Alm
namespace Go.Proofs.YtbcnifkfaknnaaaGreat
open Go.RowKit
theorem A7 {P:Program} {f:FuncId} {args:Array Value} {w:World} {A:Ending->Prop} (h:Calls P f args w fun e w'=>A e/\w=w'):Calls P f args w fun e w'=>A e/\w'=w :=
 h.mono fun e w' ⟨h1,h2⟩=>⟨h1,h2.symm⟩
def Row (wr:World) (b n:Nat) (o:Nat->Int):Prop:=∀ k,k<n->wr.cell? ⟨b,k,none⟩=some (.int .u64 (o k))/\wr.frozen? ⟨b,k,none⟩=false/\U64 (o k)
def tT (o:Nat->Int) (i:Nat) (v:Int):Nat->Int:=fun k=>if k=i then v else o k
theorem Row.drewN {wr:World} {b n:Nat} {o:Nat->Int} (h:Row wr b n o) (k:Nat):Row (wr.drewN k) b n o:=fun i hi=>h i hi
theorem Row.drew {wr:World} {b n:Nat} {o:Nat->Int} (h:Row wr b n o):Row wr.drew b n o:=fun i hi=>h i hi
theorem Row.below {wr wx:World} {b n B:Nat} {o:Nat->Int} (h:Row wr b n o) (hb:Below B wr wx) (hB:b<B):Row wx b n o:=fun i hi=>by
 obtain ⟨h1,h2,h3⟩:=h i hi;exact ⟨(hb.cell (p:=⟨b,i,none⟩) hB).trans h1,(hb.frozen (p:=⟨b,i,none⟩) hB).trans h2,h3⟩
theorem Row.other {wr:World} {b n:Nat} {o:Nat->Int} (h:Row wr b n o) {b' i:Nat} (v:Value) (hb:b'≠b):Row (wr.setCell ⟨b',i,none⟩ v) b n o:=fun k hk=>by
 obtain ⟨h1,h2,h3⟩:=h k hk;refine ⟨?_,?_,h3⟩
 . rw [World.cell?_setCell_other _ _ _ _ (by intro e;injection e with e1;exact hb e1)];exact h1
 . rw [World.frozen?_setCell];exact h2
theorem Row.set {wr:World} {b n:Nat} {o:Nat->Int} (h:Row wr b n o) {i:Nat} (v:Int) (hi:i<n) (hv:U64 v):Row (wr.setCell ⟨b,i,none⟩ (.int .u64 v)) b n (tT o i v):=fun k hk=>by
 obtain ⟨h1,h2,h3⟩:=h k hk;refine ⟨?_,?_,?_⟩
 . by_cases e:k=i
   . subst e;rw [World.cell?_setCell_same _ _ _ h1];simp [tT]
   . rw [World.cell?_setCell_other _ _ _ _ (by intro e2;injection e2 with e3 e4;exact e e4.symm),h1];simp [tT,e]
 . rw [World.frozen?_setCell];exact h2
 . by_cases e:k=i
   . subst e;simpa [tT] using hv
   . simpa [tT,e] using h3
theorem Row.alloc {wr:World} {b n:Nat} {o:Nat->Int} (h:Row wr b n o) (hb:b<wr.heap.size) (x:Obj):Row (wr.alloc x) b n o :=
 h.below (B:=b+1) ((Below.refl _ _).alloc (by omega) x) (by omega)
end Go.Proofs.YtbcnifkfaknnaaaGreat
namespace Go.Proofs.YtbcnifkfaknnaaaGreat
open Go.RowKit
structure P2 (w:World) (b:Nat) (x y:Value):Prop where
 c0:w.cell? ⟨b,0,none⟩=some x
 c1:w.cell? ⟨b,1,none⟩=some y
 f0:w.frozen? ⟨b,0,none⟩=false
 f1:w.frozen? ⟨b,1,none⟩=false
theorem P2.below {w wx:World} {b B:Nat} {x y:Value} (h:P2 w b x y) (hb:Below B w wx) (hB:b<B):P2 wx b x y :=
 ⟨(hb.cell (p:=⟨b,0,none⟩) hB).trans h.c0,(hb.cell (p:=⟨b,1,none⟩) hB).trans h.c1,(hb.frozen (p:=⟨b,0,none⟩) hB).trans h.f0,(hb.frozen (p:=⟨b,1,none⟩) hB).trans h.f1⟩
theorem P2.drew {w:World} {b:Nat} {x y:Value} (h:P2 w b x y):P2 w.drew b x y:=⟨h.c0,h.c1,h.f0,h.f1⟩
theorem P2.drewN {w:World} {b:Nat} {x y:Value} (h:P2 w b x y) (n:Nat):P2 (w.drewN n) b x y:=⟨h.c0,h.c1,h.f0,h.f1⟩
theorem dO (w:World) (x y:Value) (T:TypeId):P2 (w.alloc (.cells #[x,y] T)) w.heap.size x y :=
 ⟨by simp [go_sem],by simp [go_sem],by simp [go_sem],by simp [go_sem]⟩
theorem P2.alloc {w:World} {b:Nat} {x y:Value} (h:P2 w b x y) (hb:b<w.heap.size) (o:Obj):P2 (w.alloc o) b x y :=
 h.below (B:=b+1) ((Below.refl _ _).alloc (by omega) o) (by omega)
theorem P2.other {w:World} {b b' i:Nat} {x y:Value} (h:P2 w b x y) (v:Value) (hb:b'≠b):P2 (w.setCell ⟨b',i,none⟩ v) b x y:=by
 have e:∀ k,(w.setCell ⟨b',i,none⟩ v).cell? ⟨b,k,none⟩=w.cell? ⟨b,k,none⟩:=fun k =>
  World.cell?_setCell_other _ _ _ _ (by intro e;injection e with e1;exact hb e1)
 exact ⟨(e 0).trans h.c0,(e 1).trans h.c1,by rw [World.frozen?_setCell];exact h.f0,by rw [World.frozen?_setCell];exact h.f1⟩
end Go.Proofs.YtbcnifkfaknnaaaGreat
namespace Alm
def iC (Y U u1 q r:Int):Prop :=
 q*(Y/4294967296)+r=U/\0<=r/\r<4294967296/\(U*4294967296+u1)/Y<=q/\0<=q/\q<=4294967298
structure nM (Y U u1:Int):Prop where
 a1:9223372036854775808<=Y
 a2:Y<18446744073709551616
 a3:0<=U
 a4:U<Y
 a5:0<=u1
 a6:u1<4294967296
theorem nY (Y U u1:Int) (h:nM Y U u1):iC Y U u1 (U/(Y/4294967296)) (U-U/(Y/4294967296)*(Y/4294967296)):=by
 unfold iC;obtain ⟨h1,h2,h3,h4,h5,h6⟩:=h;have hd:0<Y/4294967296:=by omega
 have hd2:2147483648<=Y/4294967296:=by omega
 have e:=Int.mul_ediv_add_emod U (Y/4294967296);have m1:=Int.emod_nonneg U (show Y/4294967296≠0 by omega)
 have m2:=Int.emod_lt_of_pos U hd;have q0:0<=U/(Y/4294967296):=Int.ediv_nonneg h3 (by omega)
 have hy:Y/4294967296*4294967296<=Y:=by omega
 have hy3:Y<(Y/4294967296+1)*4294967296:=by omega
 generalize Y/4294967296=d at *
 generalize U/d=q at *
 generalize U%d=m at *
 have e2:q*d=d*q:=Int.mul_comm _ _;refine ⟨by omega,by omega,by omega,?_,q0,?_⟩
 ·
  have:(U*4294967296+u1)/Y<q+1:=by
   apply Int.ediv_lt_of_lt_mul (by omega)
   have k1:(q+1)*(d*4294967296)<=(q+1)*Y:=Int.mul_le_mul_of_nonneg_left hy (by omega)
   have k2:(q+1)*(d*4294967296)=(d*q+d)*4294967296:=by grind
   omega
  omega
 ·
  by_cases hc:q<=4294967298
  . exact hc
  . exfalso;have k:d*4294967299<=d*q:=Int.mul_le_mul_of_nonneg_left (by omega) (by omega)
    omega
theorem wV (T Y q:Int) (hY:0<Y) (h1:q*Y<=T) (h2:T/Y<=q):q=T/Y:=by
 have:q<=T/Y:=(Int.le_ediv_iff_mul_le hY).2 h1;omega
theorem nV (Y q:Int):q*Y=q*(Y/4294967296)*4294967296+q*(Y%4294967296):=by
 have e:Y=Y/4294967296*4294967296+Y%4294967296:=by omega
 have:q*Y=q*(Y/4294967296*4294967296+Y%4294967296):=by rw [<-e]
 rw [this];grind
theorem IQ (Y U u1 q r:Int) (h:nM Y U u1) (i:iC Y U u1 q r) (h2:q*(Y%4294967296)<=4294967296*r+u1):q=(U*4294967296+u1)/Y:=by
 obtain ⟨h1,h2',h3,h4,h5,h6⟩:=h;obtain ⟨a,b,c,d,e,f⟩:=i;apply wV _ _ _ (by omega) _ d
 rw [nV Y q];generalize q*(Y/4294967296)=p at *
 generalize q*(Y%4294967296)=s at *
 omega
theorem oH (Y U u1 q r:Int) (h:nM Y U u1) (i:iC Y U u1 q r) (ht:4294967296<=q∨4294967296*r+u1<q*(Y%4294967296)):(U*4294967296+u1)/Y<=q-1/\1<=q:=by
 obtain ⟨h1,h2',h3,h4,h5,h6⟩:=h;obtain ⟨a,b,c,d,e,f⟩:=i;have lt:(U*4294967296+u1)/Y<q:=by
  apply Int.ediv_lt_of_lt_mul (by omega)
  rcases ht with ht|ht
  . have:Y*4294967296<=Y*q:=Int.mul_le_mul_of_nonneg_left ht (by omega)
    have e2:q*Y=Y*q:=Int.mul_comm _ _;omega
  . rw [nV Y q];generalize q*(Y/4294967296)=p at *
    generalize q*(Y%4294967296)=s at *
    omega
 have:0<=(U*4294967296+u1)/Y:=Int.ediv_nonneg (by omega) (by omega)
 omega
theorem I8 (Y U u1 q r:Int) (h:nM Y U u1) (i:iC Y U u1 q r) (ht:4294967296<=q∨4294967296*r+u1<q*(Y%4294967296)) (hr:r+Y/4294967296<4294967296):iC Y U u1 (q-1) (r+Y/4294967296):=by
 have b:=oH Y U u1 q r h i ht;obtain ⟨h1,h2',h3,h4,h5,h6⟩:=h;obtain ⟨a1,a2,a3,a4,a5,a6⟩:=i;refine ⟨?_,by omega,hr,b.1,by omega,by omega⟩
 have:(q-1)*(Y/4294967296)=q*(Y/4294967296)-Y/4294967296:=by grind
 omega
theorem FJ (Y U u1 q r:Int) (h:nM Y U u1) (i:iC Y U u1 q r) (ht:4294967296<=q∨4294967296*r+u1<q*(Y%4294967296)) (hr:4294967296<=r+Y/4294967296):q-1=(U*4294967296+u1)/Y:=by
 have b:=oH Y U u1 q r h i ht;obtain ⟨h1,h2',h3,h4,h5,h6⟩:=h;obtain ⟨a1,a2,a3,a4,a5,a6⟩:=i;apply wV _ _ _ (by omega) _ b.1
 rw [nV Y (q-1)];have e1:(q-1)*(Y/4294967296)=q*(Y/4294967296)-Y/4294967296:=by grind
 have m:Y%4294967296<=4294967295:=by omega
 have m0:0<=Y%4294967296:=by omega
 have k:(q-1)*(Y%4294967296)<=4294967297*4294967295:=Int.mul_le_mul (by omega) m m0 (by omega)
 rw [e1];generalize q*(Y/4294967296)=p at *
 generalize (q-1)*(Y%4294967296)=s at *
 omega
theorem Dx (Y U u1:Int) (h:nM Y U u1):0<=(U*4294967296+u1)/Y/\(U*4294967296+u1)/Y<4294967296 /\
 0<=(U*4294967296+u1)%Y/\(U*4294967296+u1)%Y<Y/\(U*4294967296+u1)/Y*Y=U*4294967296+u1-(U*4294967296+u1)%Y:=by
 obtain ⟨h1,h2',h3,h4,h5,h6⟩:=h;have e:=Int.mul_ediv_add_emod (U*4294967296+u1) Y;refine ⟨Int.ediv_nonneg (by omega) (by omega),?_,Int.emod_nonneg _ (by omega),Int.emod_lt_of_pos _ (by omega),?_⟩
 . apply Int.ediv_lt_of_lt_mul (by omega);omega
 . rw [Int.mul_comm];omega
theorem Cs (x y z P R Y U L:Int) (hP:0<P) (hR:0<R) (hPR:P*R=18446744073709551616) (hz:0<z) (hx:0<=x) (hxz:x<z) (hy:0<=y) (hy2:y<18446744073709551616)
 (hY:Y=z*P) (hU:U=x*P+y/R) (hL:L=y*P%18446744073709551616) (V W:Int)
 (hV:V=(U*4294967296+L/4294967296)%Y) (hW:W=(V*4294967296+L%4294967296)%Y) :
 (U*4294967296+L/4294967296)/Y*4294967296+(V*4294967296+L%4294967296)/Y=(x*18446744073709551616+y)/z /\
 W/P=(x*18446744073709551616+y)%z:=by
 have hYp:0<Y:=by rw [hY];exact Int.mul_pos hz hP
 have e1:=Int.mul_ediv_add_emod (U*4294967296+L/4294967296) Y;have e2:=Int.mul_ediv_add_emod (V*4294967296+L%4294967296) Y;have hW1:=Int.emod_nonneg (V*4294967296+L%4294967296) (show Y≠0 by omega)
 have hW2:=Int.emod_lt_of_pos (V*4294967296+L%4294967296) hYp;have e3:y*P/18446744073709551616=y/R:=by
  rw [<-hPR,Int.mul_comm y P];exact Int.mul_ediv_mul_of_pos _ _ hP
 have e4:=Int.mul_ediv_add_emod (y*P) 18446744073709551616;rw [e3] at e4;have hN:(U*4294967296+L/4294967296)*4294967296+L%4294967296=(x*18446744073709551616+y)*P:=by
  have:(x*18446744073709551616+y)*P=x*P*18446744073709551616+y*P:=by grind
  rw [this,hU];generalize x*P=a at *
  generalize y*P=b at *
  generalize y/R=c at *
  omega
 rw [<-hV] at e1;rw [<-hW] at e2 hW1 hW2;generalize (U*4294967296+L/4294967296)/Y=Q1 at *
 generalize (V*4294967296+L%4294967296)/Y=Q0 at *
 have hA:=Int.mul_ediv_add_emod (x*18446744073709551616+y) z;have ha1:=Int.emod_nonneg (x*18446744073709551616+y) (show z≠0 by omega)
 have ha2:=Int.emod_lt_of_pos (x*18446744073709551616+y) hz;generalize (x*18446744073709551616+y)/z=Q at *
 generalize (x*18446744073709551616+y)%z=R' at *
 have k1:(Q1*4294967296+Q0)*Y+W=Q*Y+R'*P:=by
  have t1:(Q1*4294967296+Q0)*Y+W=Y*Q1*4294967296+(Y*Q0+W):=by grind
  have t2:Q*Y+R'*P=(z*Q+R')*P:=by rw [hY];grind
  rw [t1,t2,e2,hA,<-hN];omega
 have r1:R'*P<Y:=by rw [hY];exact Int.mul_lt_mul_of_pos_right ha2 hP
 have r0:0<=R'*P:=Int.mul_nonneg ha1 (by omega)
 have q1:((Q1*4294967296+Q0)*Y+W)/Y=Q1*4294967296+Q0:=by
  rw [Int.add_comm,Int.add_mul_ediv_right _ _ (by omega),Int.ediv_eq_zero_of_lt hW1 hW2];omega
 have q2:(Q*Y+R'*P)/Y=Q:=by
  rw [Int.add_comm,Int.add_mul_ediv_right _ _ (by omega),Int.ediv_eq_zero_of_lt r0 r1];omega
 have hq:Q1*4294967296+Q0=Q:=by rw [<-q1,k1,q2]
 refine ⟨hq,?_⟩;rw [hq] at k1;have:W=R'*P:=by omega
 rw [this,Int.mul_ediv_cancel _ (by omega)]
end Alm
namespace Go.Proofs.YtbcnifkfaknnaaaGreat
open Go.RowKit Alm
theorem Sn {k k':IntKind} {a b c d:Int} (h:a=b) (h':c=d):Ending.returned (.tuple #[.int k a,.int k' c])=.returned (.tuple #[.int k b,.int k' d]):=by rw [h,h']
def Tc (Y U u1:Int) (a b:Value):Prop:=∃ q r:Int,a=.int .u64 q/\b=.int .u64 r/\iC Y U u1 q r
theorem yQ {Y U u1 q r:Int} (h:nM Y U u1) (i:iC Y U u1 q r) (ht:4294967296<=q∨IntKind.u64.wrap (IntKind.u64.wrap (4294967296*r)+u1)<IntKind.u64.wrap (q*(Y%4294967296))) :
 4294967296<=q∨4294967296*r+u1<q*(Y%4294967296):=by
 by_cases hq:4294967296<=q
 . exact Or.inl hq
 . right
   obtain ⟨h1,h2,h3,h4,h5,h6⟩:=h;obtain ⟨a,b,c,d,e,f⟩:=i;have m:q*(Y%4294967296)<=4294967295*4294967295:=Int.mul_le_mul (by omega) (by omega) (by omega) (by omega)
   have m0:0<=q*(Y%4294967296):=Int.mul_nonneg e (by omega)
   rcases ht with ht|ht
   . omega
   . simp only [IntKind.wrap_u64] at ht;generalize q*(Y%4294967296)=p at *
     omega
theorem uO {Y U u1 q r:Int} (h:nM Y U u1) (i:iC Y U u1 q r) (ht:q<4294967296/\IntKind.u64.wrap (q*(Y%4294967296))<=IntKind.u64.wrap (IntKind.u64.wrap (4294967296*r)+u1)) :
 q=(U*4294967296+u1)/Y:=by
 apply IQ Y U u1 q r h i;obtain ⟨h1,h2,h3,h4,h5,h6⟩:=h;obtain ⟨a,b,c,d,e,f⟩:=i;have m:q*(Y%4294967296)<=4294967295*4294967295:=Int.mul_le_mul (by omega) (by omega) (by omega) (by omega)
 have m0:0<=q*(Y%4294967296):=Int.mul_nonneg e (by omega)
 obtain ⟨_,ht⟩:=ht;simp only [IntKind.wrap_u64] at ht;generalize q*(Y%4294967296)=p at *
 omega
theorem xL {Y U u1 q r:Int} (h:nM Y U u1) (i:iC Y U u1 q r) (ht:4294967296<=q∨IntKind.u64.wrap (IntKind.u64.wrap (4294967296*r)+u1)<IntKind.u64.wrap (q*(Y%4294967296)))
 (hr:IntKind.u64.wrap (r+Y/4294967296)<4294967296) :
 Tc Y U u1 (.int .u64 (IntKind.u64.wrap (q-1))) (.int .u64 (IntKind.u64.wrap (r+Y/4294967296)))/\(intOf (.int .u64 (IntKind.u64.wrap (q-1)))).toNat<(intOf (.int .u64 q)).toNat:=by
 have c:=yQ h i ht;have b:=oH Y U u1 q r h i c;have hb:=h;have ib:=i;obtain ⟨h1,h2,h3,h4,h5,h6⟩:=hb;obtain ⟨a1,a2,a3,a4,a5,a6⟩:=ib;have e1:IntKind.u64.wrap (q-1)=q-1:=by simp only [IntKind.wrap_u64];omega
 have e2:IntKind.u64.wrap (r+Y/4294967296)=r+Y/4294967296:=by simp only [IntKind.wrap_u64];omega
 rw [e2] at hr;refine ⟨⟨_,_,rfl,rfl,?_⟩,?_⟩
 . rw [e1,e2];exact I8 Y U u1 q r h i c hr
 . rw [e1];simp only [intOf];omega
theorem vK {Y U u1 q r:Int} (h:nM Y U u1) (i:iC Y U u1 q r) (ht:4294967296<=q∨IntKind.u64.wrap (IntKind.u64.wrap (4294967296*r)+u1)<IntKind.u64.wrap (q*(Y%4294967296)))
 (hr:4294967296<=IntKind.u64.wrap (r+Y/4294967296)):IntKind.u64.wrap (q-1)=(U*4294967296+u1)/Y:=by
 have c:=yQ h i ht;have b:=oH Y U u1 q r h i c;have hb:=h;have ib:=i;obtain ⟨h1,h2,h3,h4,h5,h6⟩:=hb;obtain ⟨a1,a2,a3,a4,a5,a6⟩:=ib;have e1:IntKind.u64.wrap (q-1)=q-1:=by simp only [IntKind.wrap_u64];omega
 have e2:IntKind.u64.wrap (r+Y/4294967296)=r+Y/4294967296:=by simp only [IntKind.wrap_u64];omega
 rw [e2] at hr;rw [e1];exact FJ Y U u1 q r h i c hr
theorem Ep (x y z:Int) (w:World) (hxz:x<z) (s:Nat) (hs:s<=63) (Y U L q r Q1 V q2 r2 Q0 A B:Int)
 (e0:(z==0)=false) (e1:(x==0)=false)
 (hlz:Hid (Calls Tryz.prog 88 #[.int .u64 z] w fun e w'=>e=.returned (.int .i64 (s:Nat))/\w=w'))
 (hY:IntKind.u64.wrap (z*2^s)=Y) (hY0:(Y/4294967296==0)=false) (hYh:0<Y/4294967296)
 (h2:bits BinOp.and IntKind.u64 Y 4294967295=Y%4294967296) (h3:bits BinOp.or IntKind.u64 (IntKind.u64.wrap (x*2^s)) (y/2^(64-s))=U)
 (h4:IntKind.u64.wrap (y*2^s)=L) (h5:bits BinOp.and IntKind.u64 L 4294967295=L%4294967296)
 (h6:IntKind.u64.wrap (U.tdiv (Y/4294967296))=q) (h7:IntKind.u64.wrap (U-IntKind.u64.wrap (q*(Y/4294967296)))=r)
 (hn1:Hid (nM Y U (L/4294967296))) (hi1:Hid (iC Y U (L/4294967296) q r)) (hQ1:Hid ((U*4294967296+L/4294967296)/Y=Q1))
 (h8:IntKind.u64.wrap (IntKind.u64.wrap (IntKind.u64.wrap (U*4294967296)+L/4294967296)-IntKind.u64.wrap (Q1*Y))=V)
 (h9:IntKind.u64.wrap (V.tdiv (Y/4294967296))=q2) (h10:IntKind.u64.wrap (V-IntKind.u64.wrap (q2*(Y/4294967296)))=r2)
 (hn2:Hid (nM Y V (L%4294967296))) (hi2:Hid (iC Y V (L%4294967296) q2 r2)) (hQ2:Hid ((V*4294967296+L%4294967296)/Y=Q0))
 (h11:IntKind.u64.wrap (IntKind.u64.wrap (Q1*4294967296)+Q0)=A)
 (h12:IntKind.u64.wrap (IntKind.u64.wrap (IntKind.u64.wrap (V*4294967296)+L%4294967296)-IntKind.u64.wrap (Q0*Y))/2^s=B) :
  Calls Tryz.prog 78 #[.int .u64 x,.int .u64 y,.int .u64 z] w fun e w'=>e=.returned (.tuple #[.int .u64 A,.int .u64 B])/\w=w':=by
 go_enter Tryz.func78,Tryz.ntmps78;go_wp2_with (go_at_call 88;refine (Hid.out hlz).mono ?_;rintro e w' ⟨rfl,rfl⟩);go_loop [15,16] (fun a b=>Tc Y U (L/4294967296) a b) (fun a _=>(intOf a).toNat)
 case atStart=>exact ⟨_,_,rfl,rfl,hi1.out⟩
 case round =>
  obtain ⟨qa,ra,rfl,rfl,hinv⟩:=hrel;have HI:=Lib.hid hinv;clear hinv;go_wp2
  all_goals try exact xL hn1.out HI.out (by first|assumption|exact Or.inl (by omega)) (by assumption)
  all_goals first
   | (have hq:=(vK hn1.out HI.out (by first|assumption|exact Or.inl (by assumption)) (by assumption)).trans hQ1.out;rw [hq];clear hq)
   | (have hq:=(uO hn1.out HI.out (by assumption)).trans hQ1.out;subst hq)
  all_goals
   clear HI;go_wp2;simp only [h8,h9,h10];go_loop [18,16] (fun a b=>Tc Y V (L%4294967296) a b) (fun a _=>(intOf a).toNat)
   case atStart=>exact ⟨_,_,rfl,rfl,hi2.out⟩
   case round =>
    obtain ⟨qb,rb,rfl,rfl,hinv⟩:=hrel;have HJ:=Lib.hid hinv;clear hinv;go_wp2
    all_goals try exact xL hn2.out HJ.out (by first|assumption|exact Or.inl (by omega)) (by assumption)
    all_goals first
     | (have hq:=(vK hn2.out HJ.out (by first|assumption|exact Or.inl (by assumption)) (by assumption)).trans hQ2.out;rw [hq];clear hq)
     | (have hq:=(uO hn2.out HJ.out (by assumption)).trans hQ2.out;subst hq)
    all_goals
     clear HJ;go_wp2;simp only [h11,h12];go_ret2;exact ⟨rfl,rfl⟩
def dq (x y z:Int):Int:=(x*18446744073709551616+y)/z
def dr (x y z:Int):Int:=(x*18446744073709551616+y)%z
theorem DV (a b s:Nat) (hs:s<=63) (ha:a*2^s<18446744073709551616) (hb:b<2^s):bits .or .u64 ((a*2^s:Nat):Int) (b:Int)=((a*2^s+b:Nat):Int):=by
 have hb2:b<18446744073709551616:=by
  have:2^s<=2^63:=Nat.pow_le_pow_right (by decide) hs
  omega
 rw [bits_or_u64_nat _ _ ha hb2,Nat.mul_comm,<-Nat.two_pow_add_eq_or_of_lt hb,Nat.mul_comm]
theorem mask32 (x:Int) (hx:U64 x):bits BinOp.and IntKind.u64 x 4294967295=x%4294967296:=by
 obtain ⟨X,rfl⟩:=Int.eq_ofNat_of_zero_le hx.1;rw [maskN X (by have:=hx.2;omega)];omega
theorem w64 (x:Int) (hx:U64 x):IntKind.u64.wrap x=x:=by
 unfold U64 at hx;rw [IntKind.wrap_u64];omega
theorem Ll (x y z:Int) (s:Nat) (hs:s<=63) (hx:U64 x) (hy:U64 y) (hxz:x<z) (hz2:z*2^s<18446744073709551616) :
 bits BinOp.or IntKind.u64 (IntKind.u64.wrap (x*2^s)) (y/2^(64-s))=x*2^s+y/2^(64-s):=by
 obtain ⟨X,rfl⟩:=Int.eq_ofNat_of_zero_le hx.1;obtain ⟨Y,rfl⟩:=Int.eq_ofNat_of_zero_le hy.1;have hp:(0:Int)<2^s:=Int.pow_pos (by decide)
 have h1:(X:Int)*2^s<z*2^s:=Int.mul_lt_mul_of_pos_right hxz hp;have h0:0<=(X:Int)*2^s:=Int.mul_nonneg (by omega) (by omega)
 rw [w64 _ ⟨h0,by omega⟩]
 have e1:(X:Int)*2^s=((X*2^s:Nat):Int):=by norm_cast
 have e2:(Y:Int)/2^(64-s)=((Y/2^(64-s):Nat):Int):=by norm_cast
 rw [e1,e2];have hlt:Y/2^(64-s)<2^s:=by
  apply Nat.div_lt_of_lt_mul;have:(2:Nat)^(64-s)*2^s=18446744073709551616:=by rw [<-Nat.pow_add,show 64-s+s=64 from by omega]
  have:=hy.2;omega
 rw [DV X _ s hs (by omega) hlt,Int.natCast_add]
theorem Fh (y z:Int) (w:World) (hy0:0<=y) (hy1:y<=18446744073709551615) (hz0:0<z) (hz1:z<=18446744073709551615) :
 Calls Tryz.prog 78 #[.int .u64 0,.int .u64 y,.int .u64 z] w fun e w'=>e=.returned (.tuple #[.int .u64 (y/z),.int .u64 (y%z)])/\∃ n,w'=w.drewN n:=by
 have e0:(z==0)=false:=by simp;omega
 have e1:¬ z=0:=by omega
 have q1:IntKind.u64.wrap (y.tdiv z)=y/z:=by
  rw [Int.tdiv_eq_ediv_of_nonneg hy0];have:=Int.ediv_nonneg hy0 (show 0<=z by omega)
  have:=Int.ediv_le_self z hy0;apply w64;unfold U64;omega
 have q2:IntKind.u64.wrap (y.tmod z)=y%z:=by
  rw [Int.tmod_eq_emod_of_nonneg hy0];have:=Int.emod_nonneg y (show z≠0 by omega)
  have:=Int.emod_lt_of_pos y hz0;apply w64;unfold U64;omega
 have Q1:=Lib.hid q1;clear q1;have Q2:=Lib.hid q2;clear q2;go_enter Tryz.func78,Tryz.ntmps78;go_wp2;go_quiet (fail);go_wp2;go_ret2;refine ⟨?_,_,rfl⟩;refine Sn ?_ ?_
 . first|exact Q1.out|rfl
 . first|exact Q2.out|rfl
theorem oF (x:Int) (m n:Nat) (hx:0<x) (h1:kI x m) (h2:kI x n):m<=n:=by
 obtain ⟨a1,a2,a3⟩:=h1;obtain ⟨b1,b2,b3⟩:=h2;have a3:=a3 hx
 by_cases hc:m<=n
 . exact hc
 . exfalso;have:(2:Int)^(n+1)<=2^m:=by
    have:=Nat.pow_le_pow_right (show 0<2 by decide) (show n+1<=m by omega)
    exact_mod_cast this
   rw [Int.pow_succ] at this;omega
noncomputable def lz (x:Int):Nat:=64-Classical.epsilon (fun n=>kI x n)
theorem R5 (x:Int) (hx:0<x) (n:Nat) (h:kI x n):lz x=64-n:=by
 have e:kI x (Classical.epsilon (fun n=>kI x n)):=Classical.epsilon_spec (p:=fun n=>kI x n) ⟨n,h⟩
 have:=oF x _ _ hx e h;have:=oF x _ _ hx h e;unfold lz;omega
theorem Nf (x:Int) (w:World) (hx:U64 x) (h0:0<x) :
 Calls Tryz.prog 88 #[.int .u64 x] w fun e w'=>(e=.returned (.int .i64 (lz x))/\(lz x<=63/\9223372036854775808<=x*2^(lz x)/\x*2^(lz x)<18446744073709551616))/\w=w':=by
 have key:∀ n:Nat,kI x n->wrap64 (64-(n:Int))=(lz x:Int)/\(lz x<=63/\9223372036854775808<=x*2^(lz x)/\x*2^(lz x)<18446744073709551616):=by
  rintro n hn;rw [R5 x h0 n hn];obtain ⟨h1,h2,h3⟩:=hn;have h3:=h3 h0;have e:=jv n h1;have hp:(0:Int)<2^(64-n):=Int.pow_pos (by decide)
  have g1:=Int.mul_lt_mul_of_pos_right h2 hp;have g2:=Int.mul_le_mul_of_nonneg_right h3 (Int.le_of_lt hp);rw [e] at g1 g2;rw [Int.mul_assoc] at g2;have hn:n≠0:=by intro h;subst h;simp at h2;omega
  exact ⟨by simp only [wrap64];omega,by omega,by omega,by omega⟩
 have K:=Lib.hid key;clear key;go_enter Tryz.func88,Tryz.ntmps88;go_wp2_with fail;refine (Q8 x w hx).mono ?_;rintro e w' ⟨⟨n,rfl,hn⟩,rfl⟩;have hs:=K.out n hn;have HS:=Lib.hid hs;clear hs;go_wp2;go_ret;exact ⟨⟨oQ HS.out.1,HS.out.2⟩,rfl⟩
theorem Vp (x:Int) (hx:U64 x) (h0:0<x):∃ n,kI x n:=by
 obtain ⟨X,rfl⟩:=Int.eq_ofNat_of_zero_le hx.1;have hX:X≠0:=by omega
 have h1:X<2^(Nat.log2 X+1):=Nat.lt_log2_self;have h2:=Nat.log2_self_le hX;have h3:Nat.log2 X<64:=(Nat.log2_lt hX).2 (by have:=hx.2;omega)
 refine ⟨Nat.log2 X+1,by omega,by exact_mod_cast h1,fun _=>?_⟩
 have:2^(Nat.log2 X+1)<=2*X:=by rw [Nat.pow_succ];omega
 exact_mod_cast this
theorem Qm (x:Int) (hx:U64 x) (h0:0<x):lz x<=63/\9223372036854775808<=x*2^(lz x)/\x*2^(lz x)<18446744073709551616:=by
 obtain ⟨n,hn⟩:=Vp x hx h0;rw [R5 x h0 n hn];obtain ⟨h1,h2,h3⟩:=hn;have h3:=h3 h0;have e:=jv n h1;have hp:(0:Int)<2^(64-n):=Int.pow_pos (by decide)
 have g1:=Int.mul_lt_mul_of_pos_right h2 hp;have g2:=Int.mul_le_mul_of_nonneg_right h3 (Int.le_of_lt hp);rw [e] at g1 g2;rw [Int.mul_assoc] at g2;have hn:n≠0:=by intro h;subst h;simp at h2;omega
 exact ⟨by omega,by omega,by omega⟩
theorem eU (x y z:Int) (w:World) (hx:U64 x) (hy:U64 y) (hz:U64 z) (h:x<z) :
 Calls Tryz.prog 78 #[.int .u64 x,.int .u64 y,.int .u64 z] w fun e w'=>e=.returned (.tuple #[.int .u64 (dq x y z),.int .u64 (dr x y z)])/\∃ n,w'=w.drewN n:=by
 by_cases hx0:x=0
 . subst hx0;have e1:dq 0 y z=y/z:=by unfold dq;simp
   have e2:dr 0 y z=y%z:=by unfold dr;simp
   rw [e1,e2];unfold U64 at *
   exact Fh y z w hy.1 (by omega) (by omega) (by omega)
 . have hz0:0<z:=by unfold U64 at *;omega
   obtain ⟨s1,s2,s3⟩:=Qm z hz hz0;have hor:=Ll x y z (lz z) s1 hx hy h s3;have hlz:Calls Tryz.prog 88 #[.int .u64 z] w fun e w'=>e=.returned (.int .i64 (lz z:Nat))/\w=w' :=
    (Nf z w hz hz0).mono (fun e w' ⟨⟨h1,_⟩,h2⟩=>⟨h1,h2⟩)
   generalize lz z=s at *
   have hP:(0:Int)<2^s:=Int.pow_pos (by decide)
   have hR:(0:Int)<2^(64-s):=Int.pow_pos (by decide)
   have hPR:(2:Int)^s*2^(64-s)=18446744073709551616:=jv s (by omega)
   have b:=Cs x y z (2^s) (2^(64-s)) (z*2^s) (x*2^s+y/2^(64-s)) (y*2^s%18446744073709551616) hP hR hPR hz0 hx.1 h hy.1 hy.2 rfl rfl rfl _ _ rfl rfl;have hU:x*2^s+y/2^(64-s)<z*2^s:=by
    have h1:(x+1)*2^s<=z*2^s:=Int.mul_le_mul_of_nonneg_right (by omega) (by omega)
    have h2:y/2^(64-s)<2^s:=Int.ediv_lt_of_lt_mul hR (by have:=hy.2;omega)
    have h3:(x+1)*2^s=x*2^s+2^s:=by grind
    omega
   have hU0:0<=x*2^s+y/2^(64-s):=by
    have:=Int.mul_nonneg hx.1 (show (0:Int)<=2^s by omega)
    have:=Int.ediv_nonneg hy.1 (show (0:Int)<=2^(64-s) by omega)
    omega
   have hL:IntKind.u64.wrap (y*2^s)=y*2^s%18446744073709551616:=by rw [IntKind.wrap_u64]
   have hY:IntKind.u64.wrap (z*2^s)=z*2^s:=w64 _ ⟨by omega,s3⟩
   generalize hYv:z*2^s=Y at *
   generalize hUv:x*2^s+y/2^(64-s)=U at *
   generalize hLv:y*2^s%18446744073709551616=L at *
   have hL2:U64 L:=by rw [<-hLv];unfold U64;omega
   have n1:nM Y U (L/4294967296):=⟨s2,s3,hU0,hU,by unfold U64 at hL2;omega,by unfold U64 at hL2;omega⟩
   have d1:=Dx Y U _ n1;have n2:nM Y ((U*4294967296+L/4294967296)%Y) (L%4294967296):=⟨s2,s3,d1.2.2.1,d1.2.2.2.1,by omega,by omega⟩
   have d2:=Dx Y _ _ n2;have tq:∀ V u1:Int,nM Y V u1->IntKind.u64.wrap (V.tdiv (Y/4294967296))=V/(Y/4294967296) /\
    IntKind.u64.wrap (V-IntKind.u64.wrap (V/(Y/4294967296)*(Y/4294967296)))=V-V/(Y/4294967296)*(Y/4294967296):=by
    intro V u1 hn;have i:=nY Y V u1 hn;obtain ⟨a1,a2,a3,a4,a5,a6⟩:=hn;obtain ⟨i1,i2,i3,i4,i5,i6⟩:=i;rw [Int.tdiv_eq_ediv_of_nonneg a3];generalize V/(Y/4294967296)=q at *
    have hq:0<=q*(Y/4294967296):=Int.mul_nonneg i5 (by omega)
    generalize q*(Y/4294967296)=p at *
    exact ⟨w64 _ (by unfold U64;omega),by rw [w64 p (by unfold U64;omega)];exact w64 _ (by unfold U64;omega)⟩
   refine (Ep x y z w h s s1 Y U L (U/(Y/4294967296)) (U-U/(Y/4294967296)*(Y/4294967296)) ((U*4294967296+L/4294967296)/Y)
    ((U*4294967296+L/4294967296)%Y) _ _ _ (dq x y z) (dr x y z) (by simp;omega) (by simpa using hx0) hlz
    (by rw [hYv];exact hY) (by simp;omega) (by omega) (mask32 Y ⟨by omega,s3⟩) hor hL (mask32 L hL2)
    (tq U _ n1).1 (tq U _ n1).2 n1 (nY _ _ _ n1) rfl ?_ (tq _ _ n2).1 (tq _ _ n2).2 n2 (nY _ _ _ n2) rfl ?_ ?_).mono (fun e w' ⟨h1,h2⟩=>⟨h1,0,h2.symm⟩)
   . obtain ⟨_,_,m1,m2,m3⟩:=d1;rw [m3];generalize (U*4294967296+L/4294967296)%Y=V at *
     simp only [IntKind.wrap_u64];omega
   . obtain ⟨p1,p2,_,_,_⟩:=d1;obtain ⟨r1,r2,_,_,_⟩:=d2;have b1:=b.1;unfold dq;rw [<-b1];generalize (U*4294967296+L/4294967296)/Y=q1 at *
     generalize ((U*4294967296+L/4294967296)%Y*4294967296+L%4294967296)/Y=q0 at *
     simp only [IntKind.wrap_u64];omega
   . obtain ⟨_,_,m1,m2,m3⟩:=d2;have b2:=b.2;unfold dr;rw [<-b2,m3];generalize (U*4294967296+L/4294967296)%Y=V at *
     generalize (V*4294967296+L%4294967296)%Y=X at *
     congr 1
     simp only [IntKind.wrap_u64];omega
end Go.Proofs.YtbcnifkfaknnaaaGreat
namespace Go.Proofs.YtbcnifkfaknnaaaGreat
open Go.RowKit Alm
structure vZ (a b:Nat->Int) (w wr:World) (o:Nat->Int):Prop where
 below:Below w.heap.size w wr
 ra:Row wr w.heap.size 4 a
 rb:Row wr (w.heap.size+1) 4 b
 rr:Row wr (w.heap.size+1+1) 4 (fun _=>0)
 ro:Row wr (w.heap.size+1+1+1) 6 o
def NM (a b:Nat->Int) (w:World) (v:Value) (wr:World):Prop :=
 ∃ (z:Int) (o:Nat->Int),v=.int .i64 z/\-1<=z/\z<=3/\vZ a b w wr o/\V6 o=tot a b (3-z).toNat
def Oe (a b:Nat->Int) (w:World) (i:Nat) (v7 v8:Value) (wr:World):Prop :=
 ∃ (c z:Int) (o:Nat->Int),v7=.int .u64 c/\v8=.int .i64 z/\-1<=z/\z<=3/\U64 c/\(5<=z+i->c=0)/\vZ a b w wr o/\V6 o+c*wt (z+1+i).toNat=tot a b (3-i)+rp a b i (3-z).toNat
def NF (a b:Nat->Int) (w:World) (i:Nat) (v7 v13:Value) (wr:World):Prop :=
 ∃ (c z:Int) (o:Nat->Int),v7=.int .u64 c/\v13=.int .i64 z/\-1<=z/\z<=i/\U64 c/\vZ a b w wr o/\V6 o+c*(if z=-1 then 18446744073709551616*wt 0 else wt z.toNat)=tot a b (3-i+1)
theorem Row.LU {wr:World} {b n:Nat} {o:Nat->Int} (h:Row wr b n o):∀ k,k<n->Alm.LU (o k):=fun k hk=>(h k hk).2.2
theorem vZ.set {a b:Nat->Int} {w wr:World} {o:Nat->Int} (h:vZ a b w wr o) (q p:Nat) (v:Int) (hp:p<6) (hv:U64 v) :
 vZ a b w ((wr.drewN q).setCell ⟨w.heap.size+1+1+1,p,none⟩ (.int .u64 v)) (upd o p v) :=
 ⟨(below_drewN h.below q).setCell (by show w.heap.size<=w.heap.size+1+1+1;omega) _,(h.ra.drewN q).other _ (by omega),(h.rb.drewN q).other _ (by omega),(h.rr.drewN q).other _ (by omega),(h.ro.drewN q).set v hp hv⟩
theorem EE {a b:Nat->Int} {w wr:World} {i j:Nat} {c:Int} {o:Nat->Int} (hi:i<=3) (hj:(j:Int)<=3) (hij:4<(i:Int)+j) (hR:vZ a b w wr o) (hc:U64 c) (hc0:5<=(j:Int)+i->c=0)
 (hV:V6 o+c*wt ((j:Int)+1+i).toNat=tot a b (3-i)+rp a b i (3-(j:Int)).toNat) :
 Oe a b w i (.int .u64 c) (.int .i64 ((j:Int)-1)) wr/\(intOf (.int .i64 ((j:Int)-1))+1).toNat<(intOf (.int .i64 (j:Int))+1).toNat:=by
 have hz:c=0:=hc0 (by omega)
 refine ⟨⟨c,(j:Int)-1,o,rfl,rfl,by omega,by omega,hc,fun _=>hz,hR,?_⟩,by simp only [intOf];omega⟩
 have e1:((j:Int)+1+i).toNat=i+j+1:=by omega
 have e2:(3-(j:Int)).toNat=3-j:=by omega
 have e3:((j:Int)-1+1+i).toNat=i+j:=by omega
 have e4:(3-((j:Int)-1)).toNat=3-j+1:=by omega
 rw [e1,e2] at hV;rw [e3,e4];exact Oq a b o (3-i) i j c (by omega) (by omega) hV hz
theorem Ew {a b:Nat->Int} {w wr:World} {i j q:Nat} {c hi lo s1 c1 s2 c2:Int} {o:Nat->Int} (hi3:i<=3) (hj:(j:Int)<=3) (hij:i+j<=4) (hR:vZ a b w wr o)
 (hV:V6 o+c*wt ((j:Int)+1+i).toNat=tot a b (3-i)+rp a b i (3-(j:Int)).toNat)
 (fm:U64 hi/\U64 lo/\lo=a i*b j-18446744073709551616*hi/\hi<=18446744073709551614)
 (f1:U64 s1/\Bit c1/\s1=o (i+j+1)+lo+0-18446744073709551616*c1)
 (f2:U64 s2/\Bit c2/\s2=s1+c+0-18446744073709551616*c2) (hcar:hi+c1+c2<18446744073709551616) :
 Oe a b w i (.int .u64 (hi+c1+c2)) (.int .i64 ((j:Int)-1)) ((wr.drewN q).setCell ⟨w.heap.size+1+1+1,i+j+1,none⟩ (.int .u64 s2)) /\
  (intOf (.int .i64 ((j:Int)-1))+1).toNat<(intOf (.int .i64 (j:Int))+1).toNat:=by
 refine ⟨⟨_,(j:Int)-1,_,rfl,rfl,by omega,by omega,?_,fun h=>by omega,hR.set q (i+j+1) s2 (by omega) f2.1,?_⟩,by simp only [intOf];omega⟩
 . unfold U64 Bit at *;omega
 have e1:((j:Int)+1+i).toNat=i+j+1:=by omega
 have e2:(3-(j:Int)).toNat=3-j:=by omega
 have e3:((j:Int)-1+1+i).toNat=i+j:=by omega
 have e4:(3-((j:Int)-1)).toNat=3-j+1:=by omega
 rw [e1,e2] at hV;rw [e3,e4];exact M4 a b o (3-i) i j c hi lo s1 c1 s2 c2 hij hi3 (by omega) fm.2.2.1 (by rw [f1.2.2];omega) (by rw [f2.2.2];omega) hV
theorem DT {a b:Nat->Int} {w wr:World} {i:Nat} {c j:Int} {o:Nat->Int} (hi3:i<=3) (hj:¬ 0<=j) (hj1:-1<=j) (hR:vZ a b w wr o) (hc:U64 c)
 (hV:V6 o+c*wt (j+1+i).toNat=tot a b (3-i)+rp a b i (3-j).toNat):NF a b w i (.int .u64 c) (.int .i64 (i:Int)) wr:=by
 have hj':j=-1:=by omega
 subst hj'
 refine ⟨c,i,o,rfl,rfl,by omega,by omega,hc,hR,?_⟩
 have e1:(-1+1+(i:Int)).toNat=i:=by omega
 have e2:(3-(-1:Int)).toNat=4:=by omega
 rw [e1,e2] at hV;rw [if_neg (by omega),Int.toNat_natCast,hV]
 simp only [tot];rw [show 3-(3-i)=i by omega]
theorem Fu {a b:Nat->Int} {w wr:World} {i k q:Nat} {c s c':Int} {o:Nat->Int} (hi3:i<=3) (hk:(k:Int)<=i) (hR:vZ a b w wr o)
 (hV:V6 o+c*(if (k:Int)=-1 then 18446744073709551616*wt 0 else wt (k:Int).toNat)=tot a b (3-i+1))
 (f:U64 s/\Bit c'/\s=o k+c+0-18446744073709551616*c') :
 NF a b w i (.int .u64 c') (.int .i64 ((k:Int)-1)) ((wr.drewN q).setCell ⟨w.heap.size+1+1+1,k,none⟩ (.int .u64 s)) /\
  (intOf (.int .i64 ((k:Int)-1))+1).toNat<(intOf (.int .i64 (k:Int))+1).toNat:=by
 refine ⟨⟨_,(k:Int)-1,_,rfl,rfl,by omega,by omega,?_,hR.set q k s (by omega) f.1,?_⟩,by simp only [intOf];omega⟩
 . unfold U64 Bit at *;omega
 rw [if_neg (by omega),Int.toNat_natCast] at hV
 have:=UA o k c s c' _ (by omega) (by rw [f.2.2];omega) hV
 by_cases h0:k=0
 . subst h0;rw [if_pos (by omega)];exact this
 . rw [if_neg (by omega),show ((k:Int)-1).toNat=k-1 by omega,<-PS k (by omega) (by omega)];exact this
theorem sI {a b:Nat->Int} {w wr:World} {i:Nat} {c k:Int} {o:Nat->Int} (ha:∀ k,k<4->U64 (a k)) (hb:∀ k,k<4->U64 (b k)) (hi3:i<=3) (hR:vZ a b w wr o) (hc:U64 c) (hk:-1<=k)
 (hend:c=0∨¬ 0<=k)
 (hV:V6 o+c*(if k=-1 then 18446744073709551616*wt 0 else wt k.toNat)=tot a b (3-i+1)) :
 NM a b w (.int .i64 ((i:Int)-1)) wr/\(intOf (.int .i64 ((i:Int)-1))+1).toNat<(intOf (.int .i64 (i:Int))+1).toNat:=by
 have h0:c=0:=by
  rcases hend with h|h
  . exact h
  . rw [if_pos (by omega)] at hV
    exact Q9 o hR.ro.LU c _ (SA a b ha hb _ (by omega)) hc.1 hV
 refine ⟨⟨(i:Int)-1,o,rfl,by omega,by omega,hR,?_⟩,by simp only [intOf];omega⟩
 subst h0;rw [show (3-((i:Int)-1)).toNat=3-i+1 by omega];omega
theorem Ja (a b:Nat->Int) (w:World) (ha:∀ k,k<4->U64 (a k)) (hb:∀ k,k<4->U64 (b k)) :
 Calls Tryz.prog 98 #[.agg #[.int .u64 (a 0),.int .u64 (a 1),.int .u64 (a 2),.int .u64 (a 3)],.agg #[.int .u64 (b 0),.int .u64 (b 1),.int .u64 (b 2),.int .u64 (b 3)]] w fun e w'=>∃ r:Nat->Int,e=.returned (.agg #[.int .u64 (r 0),.int .u64 (r 1),.int .u64 (r 2),.int .u64 (r 3)])/\(∀ k,k<4->U64 (r k))/\V4 r=tot a b 4/2^128/\Below w.heap.size w w':=by
 have Ha:=Lib.hid ha;have Hb:=Lib.hid hb;clear ha hb;go_enter Tryz.func98,Tryz.ntmps98;go_wp2;go_loopw [6] (fun v wr=>NM a b w v wr) (fun v _=>(intOf v+1).toNat)
 case atStart =>
  refine ⟨3,fun _=>0,rfl,by omega,by omega,⟨by go_grown,?_,?_,?_,?_⟩,by simp [V6,tot]⟩
  . intro k hk;have ha:=Ha.out k hk;have:k=0∨k=1∨k=2∨k=3:=by omega
    rcases this with rfl|rfl|rfl|rfl<;>exact ⟨by simp [go_sem],by simp [go_sem],ha⟩
  . intro k hk;have hb:=Hb.out k hk;have:k=0∨k=1∨k=2∨k=3:=by omega
    rcases this with rfl|rfl|rfl|rfl<;>exact ⟨by simp [go_sem],by simp [go_sem],hb⟩
  . intro k hk;have:k=0∨k=1∨k=2∨k=3:=by omega
    rcases this with rfl|rfl|rfl|rfl<;>exact ⟨by simp [go_sem],by simp [go_sem],⟨by decide,by decide⟩⟩
  . intro k hk;have:k=0∨k=1∨k=2∨k=3∨k=4∨k=5:=by omega
    rcases this with rfl|rfl|rfl|rfl|rfl|rfl<;>exact ⟨by simp [go_sem],by simp [go_sem],⟨by decide,by decide⟩⟩
 case round =>
  obtain ⟨z,o,rfl,hz1,hz2,hR,hV⟩:=hrel;have HR:=Lib.hid hR;have HV:=Lib.hid hV;clear hR hV
  by_cases hz:0<=z
  . obtain ⟨i,rfl⟩:=Int.eq_ofNat_of_zero_le hz;go_wp2;go_loopw [7,8] (fun v7 v8 wi=>Oe a b w i v7 v8 wi) (fun _ v8 _=>(intOf v8+1).toNat)
    case atStart=>exact ⟨0,3,o,rfl,rfl,by omega,by omega,by unfold U64;omega,fun _=>rfl,HR.out,by rw [HV.out];simp [rp]⟩
    case round =>
     obtain ⟨c,j,o2,rfl,rfl,hj1,hj2,hc,hc0,hR2,hV2⟩:=hrel;have HC:=Lib.hid hc;have HC0:=Lib.hid hc0;have HR2:=Lib.hid hR2;have HV2:=Lib.hid hV2;clear hc hc0 hR2 hV2
     by_cases hj:0<=j
     . obtain ⟨j,rfl⟩:=Int.eq_ofNat_of_zero_le hj
       by_cases hij:4<(i:Int)+j
       . have fin:=EE (by omega) hj2 hij HR2.out HC.out HC0.out HV2.out
         have FIN:=Lib.hid fin;clear fin;go_wp2;exact FIN.out
       . have hij':i+j<=4:=by omega
         have hA:=HR2.out.ra i (by omega)
         have hB:=HR2.out.rb j (by omega)
         have hO:=HR2.out.ro (i+j+1) (by omega)
         have hOL:Hid (U64 (o2 (i+j+1))):=hO.2.2;obtain ⟨hO1,hO2,_⟩:=hO;have hA1:=hA.1;have hB1:=hB.1;have fm:=dV (a i) (b j) hA.2.2 hB.2.2;have cm:=fun w=>A7 (dQ (a i) (b j) hA.2.2 hB.2.2 w)
         clear hA hB;generalize mh (a i) (b j)=hi at *
         generalize ml (a i) (b j)=lo at *
         have f1:=bB (o2 (i+j+1)) lo 0 hOL fm.2.1 (by unfold Bit;omega)
         have r1:=aZ (o2 (i+j+1)) lo 0 hOL fm.2.1 (by unfold Bit;omega)
         generalize ad (o2 (i+j+1)) lo 0=s1 at *
         generalize adc (o2 (i+j+1)) lo 0=c1 at *
         have f2:=bB s1 c 0 f1.1 HC.out (by unfold Bit;omega)
         have r2:=aZ s1 c 0 f1.1 HC.out (by unfold Bit;omega)
         generalize ad s1 c 0=s2 at *
         generalize adc s1 c 0=c2 at *
         have hcar:hi+c1+c2<18446744073709551616:=by
          apply rC (a i) (b j) (o2 (i+j+1)) c hi lo s1 c1 s2 c2 (Ha.out i (by omega)) (Hb.out j (by omega)) hOL.out HC.out f2.1 fm.2.2.1 (by rw [f1.2.2];omega) (by rw [f2.2.2];omega)
         have FM:=Lib.hid fm;have F1:=Lib.hid f1;have F2:=Lib.hid f2;have b1:0<=hi:=fm.1.1;have b2:0<=c1:=f1.2.1.1;have b3:0<=c2:=f2.2.1.1;have CM:=Lib.hid cm;clear fm f1 f2 cm;go_wp2;go_quiet ((go_at_call 79;exact Calls.quiet_of_same (CM.out _)));have fin:=fun q=>Ew (q:=q) (by omega) hj2 hij' HR2.out HV2.out FM.out F1.out F2.out hcar
         have FIN:=Lib.hid fin;clear fin;go_wp2;exact FIN.out _
     . have st:=DT (by omega) hj hj1 HR2.out HC.out HV2.out
       have ST:=Lib.hid st;clear st;go_wp2;go_loopw [7,13] (fun v7 v13 wu=>NF a b w i v7 v13 wu) (fun _ v13 _=>(intOf v13+1).toNat)
       case atStart=>exact ST.out
       case round =>
        obtain ⟨c,k,o3,rfl,rfl,hk1,hk2,hc,hR3,hV3⟩:=hrel;have HC3:=Lib.hid hc;have HR3:=Lib.hid hR3;have HV3:=Lib.hid hV3;have hc0:=hc.1;clear hc hR3 hV3
        by_cases hk:0<=k
        . obtain ⟨k,rfl⟩:=Int.eq_ofNat_of_zero_le hk
          by_cases hcc:0<c
          . have hO:=HR3.out.ro k (by omega)
            have hOL:Hid (U64 (o3 k)):=hO.2.2;obtain ⟨hO1,hO2,_⟩:=hO;have f1:=bB (o3 k) c 0 hOL HC3.out (by unfold Bit;omega)
            have r1:=aZ (o3 k) c 0 hOL HC3.out (by unfold Bit;omega)
            generalize ad (o3 k) c 0=s1 at *
            generalize adc (o3 k) c 0=c1 at *
            have F1:=Lib.hid f1;clear f1;have fin:=fun q=>Fu (q:=q) (by omega) hk2 HR3.out HV3.out F1.out
            have FIN:=Lib.hid fin;clear fin;go_wp2;exact FIN.out 0
          . have fin:=sI Ha.out Hb.out (by omega) HR3.out HC3.out hk1 (Or.inl (by omega)) HV3.out
            have FIN:=Lib.hid fin;clear fin;go_wp2;exact FIN.out
        . have fin:=sI Ha.out Hb.out (by omega) HR3.out HC3.out hk1 (Or.inr hk) HV3.out
          have FIN:=Lib.hid fin;clear fin;go_wp2;exact FIN.out
  . have hz':z=-1:=by omega
    subst hz'
    have x0:=(HR.out.ro 0 (by omega)).1;have x1:=(HR.out.ro 1 (by omega)).1;have x2:=(HR.out.ro 2 (by omega)).1;have x3:=(HR.out.ro 3 (by omega)).1
    have y0:=HR.out.rr 0 (by omega);have y1:=HR.out.rr 1 (by omega);have y2:=HR.out.rr 2 (by omega);have y3:=HR.out.rr 3 (by omega)
    obtain ⟨y0,z0,_⟩:=y0;obtain ⟨y1,z1,_⟩:=y1;obtain ⟨y2,z2,_⟩:=y2;obtain ⟨y3,z3,_⟩:=y3;have hat:∀ (x:Addr) (w:World),(Instr.arrayAt 120 (.slice (some x) 4 6)).run Tryz.prog w=.ok (.pointer (some x)) w:=fun _ _=>by kernel_rfl
    go_wp2;refine bodyPost_ret (v:=.agg #[.int .u64 (o 0),.int .u64 (o 1),.int .u64 (o 2),.int .u64 (o 3)]) (by simp [results,Tryz.results98,go_sem,y0,y1,y2,y3]) rfl ⟨o,rfl,fun k hk=>(HR.out.ro k (by omega)).2.2,?_,?_⟩
    . rw [X7 o HR.out.ro.LU,HV.out];rfl
    . have hb:=HR.out.below;go_grown
end Go.Proofs.YtbcnifkfaknnaaaGreat
namespace Alm
def nl (A k:Nat):Int:=((A/2^(64*(3-k))%2^64:Nat):Int)
theorem aD (A k:Nat):LU (nl A k):=by
 unfold LU nl;have:A/2^(64*(3-k))%2^64<2^64:=Nat.mod_lt _ (by decide)
 omega
theorem jo (A:Nat):nl A 0=((A/6277101735386680763835789423207666416102355444464034512896%18446744073709551616:Nat):Int)/\nl A 1=((A/340282366920938463463374607431768211456%18446744073709551616:Nat):Int) /\
 nl A 2=((A/18446744073709551616%18446744073709551616:Nat):Int)/\nl A 3=((A%18446744073709551616:Nat):Int):=by
 refine ⟨rfl,rfl,rfl,?_⟩;simp [nl]
theorem eX (A:Nat) (h:A<W):V4 (nl A)=(A:Int):=by
 obtain ⟨h0,h1,h2,h3⟩:=jo A;unfold V4;rw [h0,h1,h2,h3];have h:A<115792089237316195423570985008687907853269984665640564039457584007913129639936:=by
  have:W=115792089237316195423570985008687907853269984665640564039457584007913129639936:=by unfold W;decide +kernel
  omega
 omega
theorem vJ (r:Nat->Int) (hr:∀ k,k<4->LU (r k)) (A:Nat) (h:V4 r=(A:Int)):r 0=nl A 0/\r 1=nl A 1/\r 2=nl A 2/\r 3=nl A 3:=by
 obtain ⟨h0,h1,h2,h3⟩:=jo A;have a0:=hr 0 (by omega);have a1:=hr 1 (by omega);have a2:=hr 2 (by omega);have a3:=hr 3 (by omega)
 rw [h0,h1,h2,h3];unfold V4 LU at *
 omega
theorem N7 (A B:Nat) (hA:A<W) (hB:B<W):tot (nl A) (nl B) 4/2^128=(mulN A B:Int):=by
 have hf:=DI (nl A) (nl B);rw [eX A hA,eX B hB] at hf;have hr:rest (nl A) (nl B)=((2^64*((A/2^64%2^64)*(B%2^64)+(A%2^64)*(B/2^64%2^64))+(A%2^64)*(B%2^64):Nat):Int):=by
  obtain ⟨_,_,h2,h3⟩:=jo A;obtain ⟨_,_,g2,g3⟩:=jo B;unfold rest;rw [h2,h3,g2,g3]
  norm_cast
 have hlt:=F8 (A/2^64%2^64) (A%2^64) (B/2^64%2^64) (B%2^64) (Nat.mod_lt _ (by decide)) (Nat.mod_lt _ (by decide)) (Nat.mod_lt _ (by decide)) (Nat.mod_lt _ (by decide))
 have hW:W=115792089237316195423570985008687907853269984665640564039457584007913129639936:=by unfold W;decide +kernel
 have hle:0<=tot (nl A) (nl B) 4:=by
  have m0:=gX (nl A) (nl B) (fun k _=>aD A k) (fun k _=>aD B k) 0
  have m1:=gX (nl A) (nl B) (fun k _=>aD A k) (fun k _=>aD B k) 1
  have m2:=gX (nl A) (nl B) (fun k _=>aD A k) (fun k _=>aD B k) 2
  have m3:=gX (nl A) (nl B) (fun k _=>aD A k) (fun k _=>aD B k) 3
  have:tot (nl A) (nl B) 0=0:=rfl;simp only [Nat.reduceAdd] at *
  omega
 have hm:mulN A B=(A*B-(2^64*((A/2^64%2^64)*(B%2^64)+(A%2^64)*(B/2^64%2^64))+(A%2^64)*(B%2^64)))/W:=by unfold mulN;rfl
 rw [hr] at hf;rw [hm,hW];generalize 2^64*((A/2^64%2^64)*(B%2^64)+(A%2^64)*(B/2^64%2^64))+(A%2^64)*(B%2^64)=R at *
 generalize tot (nl A) (nl B) 4=t at *
 have e:(A:Int)*B=((A*B:Nat):Int):=by norm_cast
 rw [e] at hf;generalize A*B=P at *
 omega
theorem jJ (A B:Nat) (hA:A<W) (hB:B<W):mulN A B<W:=by
 have:=iM A B hA (by omega);omega
