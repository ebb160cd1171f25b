/- The reference's quick look at the side of a point. -/
import Derived.Test.YtgmncdmcdgkodaaZBigs
import Derived.Test.YtgmncdmcdgkodaaZDirs
import Derived.Test.YtgmncdmcdgkodaaZRefA
import Derived.Test.YtgmncdmcdgkodaaZSp
import Derived.Deep.QuietTactic
import Derived.BigQuiet
import Derived.Deep.DeepCutAuto
import Derived.Deep.RegionHeld3
import Derived.Test.YtgmncdmcdgkodaaZKp
import Derived.Deep.Light
import Derived.Test.YtgmncdmcdgkodaaZTrigs
import Derived.Test.YtgmncdmcdgkodaaZVecs
import Derived.Test.YtgmncdmcdgkodaaZSxL
import Derived.IntWalk
set_option linter.unusedVariables false
set_option linter.unusedSimpArgs false
set_option maxRecDepth 100000
set_option maxHeartbeats 8000000
namespace Alm
def tS (k:Nat):Rat:=if k<=2700000 then zs k else zc (5400000-k)
def tC (k:Nat):Rat:=if k<=2700000 then zc k else zs (5400000-k)
end Alm
namespace Go.Proofs.Ytgmncdmcdgkodaa
open Go.RowKit Alm Sx
theorem iq (x:Nat) (s A B:Int) (hx:(x:Int)<=A) (hs:0<=s/\s<=B):0<=(x:Int)*s/\(x:Int)*s<=A*B:=by
 have h1:=Int.mul_le_mul_of_nonneg_right hx hs.1;have h2:=Int.mul_le_mul_of_nonneg_left hs.2 (show 0<=A by omega)
 exact ⟨Int.mul_nonneg (by omega) hs.1,by omega⟩
end Go.Proofs.Ytgmncdmcdgkodaa
namespace Go.Proofs.Ytgmncdmcdgkodaa
open Go.RowKit Alm
end Go.Proofs.Ytgmncdmcdgkodaa
namespace Go.Proofs.Ytgmncdmcdgkodaa
open Go.RowKit Alm
end Go.Proofs.Ytgmncdmcdgkodaa
namespace Go.Proofs.Ytgmncdmcdgkodaa
open Go.RowKit Alm
end Go.Proofs.Ytgmncdmcdgkodaa
namespace Alm
end Alm
namespace Go.Proofs.Ytgmncdmcdgkodaa
open Go.RowKit Alm
end Go.Proofs.Ytgmncdmcdgkodaa
namespace Alm
end Alm
namespace Go.Proofs.Ytgmncdmcdgkodaa
open Go.RowKit Alm
end Go.Proofs.Ytgmncdmcdgkodaa
namespace Go.Proofs.Ytgmncdmcdgkodaa
open Go.RowKit Alm
theorem uJ (n v:Int):gQ n v<=0↔bHi n<=v:=by
 have h:=jg n;unfold gQ
 (repeat' split)<;>omega
def nL (v:Int):Nat->Int->Int->Int
 | 0,lo,_=>lo
 | f+1,lo,hi=>if 1<hi-lo then (if gQ ((lo+hi)/2) v<=0 then nL v f ((lo+hi)/2) hi else nL v f lo ((lo+hi)/2)) else lo
theorem qH (v:Int) (f:Nat) (lo hi:Int):nL v (f+1) lo hi=if 1<hi-lo then (if gQ ((lo+hi)/2) v<=0 then nL v f ((lo+hi)/2) hi else nL v f lo ((lo+hi)/2)) else lo:=rfl
theorem EC (v:Int) (f:Nat) (lo hi:Int) (h:¬ 1<hi-lo):nL v f lo hi=lo:=by
 cases f with
 | zero=>rfl
 | succ f=>rw [qH,if_neg h]
def fT (v:Int):Int:=nL v 24 (-5400000) 5400001
def AsI (v lo hi:Int):Prop:=-5400000<=lo/\lo<hi/\hi<=5400001/\(lo=-5400000∨bHi lo<=v)/\(hi=5400001∨v<bHi hi)/\∃ f:Nat,hi-lo<=2^f/\nL v f lo hi=fT v
theorem uf (v:Int):AsI v (-5400000) 5400001:=⟨by omega,by omega,by omega,.inl rfl,.inl rfl,24,by omega,rfl⟩
theorem xe {v lo hi:Int} (h:AsI v lo hi) (h1:1<hi-lo):if gQ ((lo+hi)/2) v<=0 then AsI v ((lo+hi)/2) hi else AsI v lo ((lo+hi)/2):=by
 obtain ⟨a,b,c,d,d',f,hf,he⟩:=h;cases f with
 | zero=>simp at hf;omega
 | succ f =>
  rw [Int.pow_succ] at hf;rw [qH,if_pos h1] at he
  by_cases hr:gQ ((lo+hi)/2) v<=0
  . rw [if_pos hr] at he ⊢
    exact ⟨by omega,by omega,c,.inr ((uJ _ _).1 hr),d',f,by omega,he⟩
  . rw [if_neg hr] at he ⊢
    exact ⟨a,by omega,by omega,d,.inr (by have:=(uJ ((lo+hi)/2) v);omega),f,by omega,he⟩
theorem qE {v lo hi:Int} (h:AsI v lo hi) (h1:¬ 1<hi-lo):fT v=lo:=by
 obtain ⟨a,b,c,d,d',f,hf,he⟩:=h;rw [<-he];exact EC v f lo hi h1
theorem nH (v:Int):∀ (f:Nat) (lo hi:Int),AsI v lo hi->hi-lo<=2^f->∃ hi',AsI v (fT v) hi'/\hi'=fT v+1
 | 0,lo,hi,h,hf=>by
  simp at hf;have e:=qE h (by omega)
  rw [e];have:=h.2.1;exact ⟨hi,h,by omega⟩
 | f+1,lo,hi,h,hf=>by
  by_cases h1:1<hi-lo
  . have nx:=xe h h1;rw [Int.pow_succ] at hf;split at nx
    . exact nH v f _ _ nx (by omega)
    . exact nH v f _ _ nx (by omega)
  . have e:=qE h h1;rw [e];have:=h.2.1;exact ⟨hi,h,by omega⟩
theorem IK (v:Int):-5400000<=fT v/\fT v<=5400000/\(fT v=-5400000∨bHi (fT v)<=v)/\(fT v=5400000∨v<bHi (fT v+1)):=by
 obtain ⟨hi,⟨a,b,c,d,d',_⟩,rfl⟩:=nH v 24 _ _ (uf v) (by omega)
 exact ⟨a,by omega,d,by rcases d' with h|h;exact .inl (by omega);exact .inr h⟩
theorem MK (v:Int) (w:World) :
 Calls Try.prog 150 #[.int .i64 v] w fun e w'=>e=.returned (.int .i64 (fT v))/\Below w.heap.size w w':=by
 have K0:Hid (KS w w []):=cB w;go_enter Try.func150,Try.ntmps150;go_wp2;go_loopw [3,4] (fun v3 v4 wr=>∃ lo hi:Int,v3=.int .i64 lo/\v4=.int .i64 hi/\AsI v lo hi/\KS w wr []) (fun v3 v4 _=>(intOf v4-intOf v3).toNat)
 case atStart=>exact ⟨-5400000,5400001,rfl,rfl,uf v,K0.out⟩
 case round =>
  obtain ⟨lo,hi,rfl,rfl,hI,hK⟩:=hrel;have HI:=Lib.hid hI;have HK2:=Lib.hid hK;clear hI hK K0;have b0:-5400000<=lo:=HI.out.1;have b1:lo<hi:=HI.out.2.1;have b2:hi<=5400001:=HI.out.2.2.1
  by_cases hgo:1<hi-lo
  . have NX:=Lib.hid (xe HI.out hgo);have hm1:Hid (lo<(lo+hi)/2/\(lo+hi)/2<hi):=⟨by omega,by omega⟩
    have CR:=Lib.hid (fun w=>Ku ((lo+hi)/2) v w ⟨by omega,by omega⟩)
    have q0:-5400000<=(lo+hi)/2:=by omega
    have q1:(lo+hi)/2<=5400001:=by omega
    clear HI;go_wp2_with fail;refine (CR.out _).mono ?_;rintro e w1 ⟨rfl,hb⟩;have HK3:Hid (KS w w1 []):=HK2.out.below hb;clear hb HK2 CR
    by_cases hr:gQ ((lo+hi)/2) v<=0
    . have NY:Hid (AsI v ((lo+hi)/2) hi):=by have:=NX.out;rw [if_pos hr] at this;exact this
      clear NX;go_wp2;go_light;exact ⟨⟨(lo+hi)/2,hi,rfl,rfl,NY.out,HK3.out⟩,by simp only [intOf];have:=hm1.out;omega⟩
    . have NY:Hid (AsI v lo ((lo+hi)/2)):=by have:=NX.out;rw [if_neg hr] at this;exact this
      clear NX;go_wp2;go_light;exact ⟨⟨lo,(lo+hi)/2,rfl,rfl,NY.out,HK3.out⟩,by simp only [intOf];have:=hm1.out;omega⟩
  . have hA:=qE HI.out hgo;have HB:=Lib.hid HK2.out.1;clear HI HK2;go_wp2;go_ret;exact ⟨by first|rfl|(rw [hA];rfl),HB.out⟩
end Go.Proofs.Ytgmncdmcdgkodaa
namespace Go.Proofs.Ytgmncdmcdgkodaa
open Go.RowKit Alm
end Go.Proofs.Ytgmncdmcdgkodaa
namespace Alm
theorem Ob (n r:Int) (h0:0<=n) (h1:n<=2305843009213693952) (hr:0<=r) (a:r*r<=n) (b:n<(r+1)*(r+1)):r=rtV n:=by
 obtain ⟨c,d,e⟩:=pV n h0 h1;rcases Int.lt_trichotomy r (rtV n) with h|h|h
 . have:=Int.mul_le_mul (show r+1<=rtV n by omega) (show r+1<=rtV n by omega) (by omega) (by omega)
   omega
 . exact h
 . have:=Int.mul_le_mul (show rtV n+1<=r by omega) (show rtV n+1<=r by omega) (by omega) (by omega)
   omega
def zt (n lo hi:Int):Prop:=0<=lo/\lo<hi/\hi<=2147483648/\lo*lo<=n/\n<hi*hi
theorem Dl {n lo hi:Int} (h:zt n lo hi) (h1:1<hi-lo):(0<=(lo+hi)/2*((lo+hi)/2)/\(lo+hi)/2*((lo+hi)/2)<=4611686018427387904)/\((lo+hi)/2*((lo+hi)/2)<=n->zt n ((lo+hi)/2) hi)/\(¬ (lo+hi)/2*((lo+hi)/2)<=n->zt n lo ((lo+hi)/2)):=by
 obtain ⟨a,b,c,d,e⟩:=h;have m0:=Int.mul_nonneg (show 0<=(lo+hi)/2 by omega) (show 0<=(lo+hi)/2 by omega)
 have m1:=Int.mul_le_mul (show (lo+hi)/2<=2147483648 by omega) (show (lo+hi)/2<=2147483648 by omega) (by omega) (by omega)
 exact ⟨⟨m0,by omega⟩,fun q=>⟨by omega,by omega,c,q,e⟩,fun q=>⟨a,by omega,by omega,d,by omega⟩⟩
theorem DD {n lo hi:Int} (h:zt n lo hi) (h0:0<=n) (hn:n<=2305843009213693952) (h1:¬ 1<hi-lo):lo=rtV n:=by
 obtain ⟨a,b,c,d,e⟩:=h;have:hi=lo+1:=by omega
 subst this;exact Ob n lo h0 hn a d e
end Alm
namespace Go.Proofs.Ytgmncdmcdgkodaa
open Go.RowKit Alm
end Go.Proofs.Ytgmncdmcdgkodaa
namespace Go.Proofs.Ytgmncdmcdgkodaa
open Go.RowKit Alm Sx
def Im:Nat->List Int->List Int
 | 8,[a,b]=>[b2i (fxV a b)]
 | 35,[v]=>[fT v]
 | 41,[n]=>[rtV n]
 | 50,[x,y]=>[aI x y,b2i (iW x y)]
 | _,_=>[]
def Nj:Nat->List Int->Prop
 | 8,[_,_]=>True
 | 35,[v]=>-1073741824<=v/\v<=1073741824
 | 41,[n]=>0<=n/\n<=2305843009213693952
 | 50,[x,y]=>(-2147483648<=x/\x<=2147483648)/\(-2147483648<=y/\y<=2147483648)/\¬ (x=0/\y=0)
 | _,_=>False
def cxR (args:List Int):Cx:=⟨Im,Nj,args⟩
theorem Tu {f:Nat} {xs:List Int} (h:f=35∨f=41) (hp:Nj f xs):∃ a,xs=[a]:=by
 rcases h with rfl|rfl <;>
 . match xs,hp with
   | [a],hp=>exact ⟨a,rfl⟩
theorem Tm {f:Nat} {xs:List Int} (h:f=8∨f=50) (hp:Nj f xs):∃ a b,xs=[a,b]:=by
 rcases h with rfl|rfl <;>
 . match xs,hp with
   | [a,b],hp=>exact ⟨a,b,rfl⟩
end Go.Proofs.Ytgmncdmcdgkodaa
namespace Go.Proofs.Ytgmncdmcdgkodaa
open Go.RowKit Alm Sx
end Go.Proofs.Ytgmncdmcdgkodaa
namespace Go.Proofs.Ytgmncdmcdgkodaa
open Go.RowKit Alm Sx
theorem BI (n:Int):(Im 35 [n]).getD 0 0=fT n:=by simp only [Im,List.getD_cons_zero]
def PN (a:Int):Int:=fT (max a (-1073741824))
def JL (b:Int):Int:=-fT (-(min b 1073741824))
def Ah (a b:Int):Int:=if a<=1073741824/\-1073741824<=b then 0 else 2
def Rt (a b:Int):Value:=.tuple #[.agg #[.int .i64 (if Ah a b=0 then PN a else 0),.int .i64 (if Ah a b=0 then JL b else 0)],.int .i64 (Ah a b)]
