/- The reference's quick look at the side of a point. -/
import Derived.Test.YtmldbeipmappnaaZBigs
import Derived.Test.YtmldbeipmappnaaZDirs
import Derived.Test.YtmldbeipmappnaaZRefA
import Derived.Test.YtmldbeipmappnaaZSp
import Derived.Deep.QuietTactic
import Derived.BigQuiet
import Derived.Deep.DeepCutAuto
import Derived.Deep.RegionHeld3
import Derived.Test.YtmldbeipmappnaaZKp
import Derived.Deep.Light
import Derived.Test.YtmldbeipmappnaaZTrigs
import Derived.Test.YtmldbeipmappnaaZVecs
import Derived.Test.YtmldbeipmappnaaZSxL
import Derived.IntWalk
set_option linter.unusedVariables false
set_option linter.unusedSimpArgs false
set_option maxRecDepth 100000
set_option maxHeartbeats 8000000
namespace Alm
def tS (k:Nat):Rat:=if k<=2700000 then zs k else zc (5400000-k)
def tC (k:Nat):Rat:=if k<=2700000 then zc k else zs (5400000-k)
end Alm
namespace Go.Proofs.Ytmldbeipmappnaa
open Go.RowKit Alm Sx
theorem jh (x:Nat) (s A B:Int) (hx:(x:Int)<=A) (hs:0<=s/\s<=B):0<=(x:Int)*s/\(x:Int)*s<=A*B:=by
 have h1:=Int.mul_le_mul_of_nonneg_right hx hs.1;have h2:=Int.mul_le_mul_of_nonneg_left hs.2 (show 0<=A by omega)
 exact ⟨Int.mul_nonneg (by omega) hs.1,by omega⟩
end Go.Proofs.Ytmldbeipmappnaa
namespace Go.Proofs.Ytmldbeipmappnaa
open Go.RowKit Alm
def du (k:Nat):Rat:=1/((BB^k:Nat):Rat)
end Go.Proofs.Ytmldbeipmappnaa
namespace Go.Proofs.Ytmldbeipmappnaa
open Go.RowKit Alm
end Go.Proofs.Ytmldbeipmappnaa
namespace Go.Proofs.Ytmldbeipmappnaa
open Go.RowKit Alm
end Go.Proofs.Ytmldbeipmappnaa
namespace Alm
end Alm
namespace Go.Proofs.Ytmldbeipmappnaa
open Go.RowKit Alm
end Go.Proofs.Ytmldbeipmappnaa
namespace Alm
end Alm
namespace Go.Proofs.Ytmldbeipmappnaa
open Go.RowKit Alm
end Go.Proofs.Ytmldbeipmappnaa
namespace Go.Proofs.Ytmldbeipmappnaa
open Go.RowKit Alm
theorem vw (n v:Int):iF n v<=0↔bHi n<=v:=by
 have h:=jY n;unfold iF
 (repeat' split)<;>omega
def qd (v:Int):Nat->Int->Int->Int
 | 0,lo,_=>lo
 | f+1,lo,hi=>if 1<hi-lo then (if iF ((lo+hi)/2) v<=0 then qd v f ((lo+hi)/2) hi else qd v f lo ((lo+hi)/2)) else lo
theorem tX (v:Int) (f:Nat) (lo hi:Int):qd v (f+1) lo hi=if 1<hi-lo then (if iF ((lo+hi)/2) v<=0 then qd v f ((lo+hi)/2) hi else qd v f lo ((lo+hi)/2)) else lo:=rfl
theorem Gn (v:Int) (f:Nat) (lo hi:Int) (h:¬ 1<hi-lo):qd v f lo hi=lo:=by
 cases f with
 | zero=>rfl
 | succ f=>rw [tX,if_neg h]
def bC (v:Int):Int:=qd v 24 (-5400000) 5400001
def AsI (v lo hi:Int):Prop:=-5400000<=lo/\lo<hi/\hi<=5400001/\(lo=-5400000∨bHi lo<=v)/\(hi=5400001∨v<bHi hi)/\∃ f:Nat,hi-lo<=2^f/\qd v f lo hi=bC v
theorem vL (v:Int):AsI v (-5400000) 5400001:=⟨by omega,by omega,by omega,.inl rfl,.inl rfl,24,by omega,rfl⟩
theorem zY {v lo hi:Int} (h:AsI v lo hi) (h1:1<hi-lo):if iF ((lo+hi)/2) v<=0 then AsI v ((lo+hi)/2) hi else AsI v lo ((lo+hi)/2):=by
 obtain ⟨a,b,c,d,d',f,hf,he⟩:=h;cases f with
 | zero=>simp at hf;omega
 | succ f =>
  rw [Int.pow_succ] at hf;rw [tX,if_pos h1] at he
  by_cases hr:iF ((lo+hi)/2) v<=0
  . rw [if_pos hr] at he ⊢
    exact ⟨by omega,by omega,c,.inr ((vw _ _).1 hr),d',f,by omega,he⟩
  . rw [if_neg hr] at he ⊢
    exact ⟨a,by omega,by omega,d,.inr (by have:=(vw ((lo+hi)/2) v);omega),f,by omega,he⟩
theorem sH {v lo hi:Int} (h:AsI v lo hi) (h1:¬ 1<hi-lo):bC v=lo:=by
 obtain ⟨a,b,c,d,d',f,hf,he⟩:=h;rw [<-he];exact Gn v f lo hi h1
theorem nY (v:Int):∀ (f:Nat) (lo hi:Int),AsI v lo hi->hi-lo<=2^f->∃ hi',AsI v (bC v) hi'/\hi'=bC v+1
 | 0,lo,hi,h,hf=>by
  simp at hf;have e:=sH h (by omega)
  rw [e];have:=h.2.1;exact ⟨hi,h,by omega⟩
 | f+1,lo,hi,h,hf=>by
  by_cases h1:1<hi-lo
  . have nx:=zY h h1;rw [Int.pow_succ] at hf;split at nx
    . exact nY v f _ _ nx (by omega)
    . exact nY v f _ _ nx (by omega)
  . have e:=sH h h1;rw [e];have:=h.2.1;exact ⟨hi,h,by omega⟩
theorem bW (v:Int):-5400000<=bC v/\bC v<=5400000/\(bC v=-5400000∨bHi (bC v)<=v)/\(bC v=5400000∨v<bHi (bC v+1)):=by
 obtain ⟨hi,⟨a,b,c,d,d',_⟩,rfl⟩:=nY v 24 _ _ (vL v) (by omega)
 exact ⟨a,by omega,d,by rcases d' with h|h;exact .inl (by omega);exact .inr h⟩
theorem IL (v:Int) (w:World) :
 Calls Try.prog 134 #[.int .i64 v] w fun e w'=>e=.returned (.int .i64 (bC v))/\Below w.heap.size w w':=by
 have K0:Hid (KS w w []):=bK w;go_enter Try.func134,Try.ntmps134;go_wp2;go_loopw [3,4] (fun v3 v4 wr=>∃ lo hi:Int,v3=.int .i64 lo/\v4=.int .i64 hi/\AsI v lo hi/\KS w wr []) (fun v3 v4 _=>(intOf v4-intOf v3).toNat)
 case atStart=>exact ⟨-5400000,5400001,rfl,rfl,vL v,K0.out⟩
 case round =>
  obtain ⟨lo,hi,rfl,rfl,hI,hK⟩:=hrel;have HI:=Lib.hid hI;have HK2:=Lib.hid hK;clear hI hK K0;have b0:-5400000<=lo:=HI.out.1;have b1:lo<hi:=HI.out.2.1;have b2:hi<=5400001:=HI.out.2.2.1
  by_cases hgo:1<hi-lo
  . have NX:=Lib.hid (zY HI.out hgo);have hm1:Hid (lo<(lo+hi)/2/\(lo+hi)/2<hi):=⟨by omega,by omega⟩
    have CR:=Lib.hid (fun w=>KT ((lo+hi)/2) v w ⟨by omega,by omega⟩)
    have q0:-5400000<=(lo+hi)/2:=by omega
    have q1:(lo+hi)/2<=5400001:=by omega
    clear HI;go_wp2_with fail;refine (CR.out _).mono ?_;rintro e w1 ⟨rfl,hb⟩;have HK3:Hid (KS w w1 []):=HK2.out.below hb;clear hb HK2 CR
    by_cases hr:iF ((lo+hi)/2) v<=0
    . have NY:Hid (AsI v ((lo+hi)/2) hi):=by have:=NX.out;rw [if_pos hr] at this;exact this
      clear NX;go_wp2;go_light;exact ⟨⟨(lo+hi)/2,hi,rfl,rfl,NY.out,HK3.out⟩,by simp only [intOf];have:=hm1.out;omega⟩
    . have NY:Hid (AsI v lo ((lo+hi)/2)):=by have:=NX.out;rw [if_neg hr] at this;exact this
      clear NX;go_wp2;go_light;exact ⟨⟨lo,(lo+hi)/2,rfl,rfl,NY.out,HK3.out⟩,by simp only [intOf];have:=hm1.out;omega⟩
  . have hA:=sH HI.out hgo;have HB:=Lib.hid HK2.out.1;clear HI HK2;go_wp2;go_ret;exact ⟨by first|rfl|(rw [hA];rfl),HB.out⟩
end Go.Proofs.Ytmldbeipmappnaa
namespace Go.Proofs.Ytmldbeipmappnaa
open Go.RowKit Alm
end Go.Proofs.Ytmldbeipmappnaa
namespace Alm
end Alm
namespace Go.Proofs.Ytmldbeipmappnaa
open Go.RowKit Alm
end Go.Proofs.Ytmldbeipmappnaa
namespace Go.Proofs.Ytmldbeipmappnaa
open Go.RowKit Alm Sx
def Ii:Nat->List Int->List Int
 | 8,[a,b]=>[b2i (fxV a b)]
 | 35,[v]=>[bC v]
 | 41,[n]=>[rtV n]
 | 50,[x,y]=>[aM x y,b2i (ji x y)]
 | _,_=>[]
def OQ:Nat->List Int->Prop
 | 8,[_,_]=>True
 | 35,[v]=>-1073741824<=v/\v<=1073741824
 | 41,[n]=>0<=n/\n<=2305843009213693952
 | 50,[x,y]=>(-2147483648<=x/\x<=2147483648)/\(-2147483648<=y/\y<=2147483648)/\¬ (x=0/\y=0)
 | _,_=>False
def cxR (args:List Int):Cx:=⟨Ii,OQ,args⟩
theorem TF {f:Nat} {xs:List Int} (h:f=35∨f=41) (hp:OQ f xs):∃ a,xs=[a]:=by
 rcases h with rfl|rfl <;>
 . match xs,hp with
   | [a],hp=>exact ⟨a,rfl⟩
theorem SQ {f:Nat} {xs:List Int} (h:f=8∨f=50) (hp:OQ f xs):∃ a b,xs=[a,b]:=by
 rcases h with rfl|rfl <;>
 . match xs,hp with
   | [a,b],hp=>exact ⟨a,b,rfl⟩
end Go.Proofs.Ytmldbeipmappnaa
namespace Go.Proofs.Ytmldbeipmappnaa
open Go.RowKit Alm Sx
end Go.Proofs.Ytmldbeipmappnaa
namespace Go.Proofs.Ytmldbeipmappnaa
open Go.RowKit Alm Sx
theorem EW (n:Int):(Ii 35 [n]).getD 0 0=bC n:=by simp only [Ii,List.getD_cons_zero]
def fo (a:Int):Int:=bC (max a (-1073741824))
def eF (b:Int):Int:=-bC (-(min b 1073741824))
def jO (a b:Int):Int:=if a<=1073741824/\-1073741824<=b then 0 else 2
def Uo (a b:Int):Value:=.tuple #[.agg #[.int .i64 (if jO a b=0 then fo a else 0),.int .i64 (if jO a b=0 then eF b else 0)],.int .i64 (jO a b)]
