/- The walks of the reference's rough sine, and of the searches that only guess. -/
import Derived.Test.YtknhbpnclokciaaZKp
import Derived.Deep.Light
import Derived.BigQuiet
import Derived.Deep.QuietTactic
import Derived.Test.YtknhbpnclokciaaZSides
import Derived.Test.YtknhbpnclokciaaZTrigs
import Derived.Test.YtknhbpnclokciaaZDirs
import Derived.Test.YtknhbpnclokciaaZRefA
import Derived.Test.YtknhbpnclokciaaZVecs
import Derived.Test.YtknhbpnclokciaaZSp
import Derived.Test.YtknhbpnclokciaaZSxL
import Derived.IntWalk
set_option linter.unusedVariables false
set_option linter.unusedSimpArgs false
set_option maxRecDepth 100000
set_option maxHeartbeats 8000000
namespace Alm
end Alm
namespace Go.Proofs.Ytknhbpnclokciaa
open Go.RowKit Alm
end Go.Proofs.Ytknhbpnclokciaa
namespace Alm
end Alm
namespace Go.Proofs.Ytknhbpnclokciaa
open Go.RowKit Alm
end Go.Proofs.Ytknhbpnclokciaa
namespace Go.Proofs.Ytknhbpnclokciaa
open Go.RowKit Alm
theorem zO (n v:Int):jW n v<=0↔bHi n<=v:=by
 have h:=gm n;unfold jW
 (repeat' split)<;>omega
def uo (v:Int):Nat->Int->Int->Int
 | 0,lo,_=>lo
 | f+1,lo,hi=>if 1<hi-lo then (if jW ((lo+hi)/2) v<=0 then uo v f ((lo+hi)/2) hi else uo v f lo ((lo+hi)/2)) else lo
theorem xL (v:Int) (f:Nat) (lo hi:Int):uo v (f+1) lo hi=if 1<hi-lo then (if jW ((lo+hi)/2) v<=0 then uo v f ((lo+hi)/2) hi else uo v f lo ((lo+hi)/2)) else lo:=rfl
theorem M7 (v:Int) (f:Nat) (lo hi:Int) (h:¬ 1<hi-lo):uo v f lo hi=lo:=by
 cases f with
 | zero=>rfl
 | succ f=>rw [xL,if_neg h]
def bE (v:Int):Int:=uo v 24 (-5400000) 5400001
def AsI (v lo hi:Int):Prop:=-5400000<=lo/\lo<hi/\hi<=5400001/\(lo=-5400000∨bHi lo<=v)/\(hi=5400001∨v<bHi hi)/\∃ f:Nat,hi-lo<=2^f/\uo v f lo hi=bE v
theorem zM (v:Int):AsI v (-5400000) 5400001:=⟨by omega,by omega,by omega,.inl rfl,.inl rfl,24,by omega,rfl⟩
theorem FZ {v lo hi:Int} (h:AsI v lo hi) (h1:1<hi-lo):if jW ((lo+hi)/2) v<=0 then AsI v ((lo+hi)/2) hi else AsI v lo ((lo+hi)/2):=by
 obtain ⟨a,b,c,d,d',f,hf,he⟩:=h;cases f with
 | zero=>simp at hf;omega
 | succ f =>
  rw [Int.pow_succ] at hf;rw [xL,if_pos h1] at he
  by_cases hr:jW ((lo+hi)/2) v<=0
  . rw [if_pos hr] at he ⊢
    exact ⟨by omega,by omega,c,.inr ((zO _ _).1 hr),d',f,by omega,he⟩
  . rw [if_neg hr] at he ⊢
    exact ⟨a,by omega,by omega,d,.inr (by have:=(zO ((lo+hi)/2) v);omega),f,by omega,he⟩
theorem yB {v lo hi:Int} (h:AsI v lo hi) (h1:¬ 1<hi-lo):bE v=lo:=by
 obtain ⟨a,b,c,d,d',f,hf,he⟩:=h;rw [<-he];exact M7 v f lo hi h1
theorem sI (v:Int):∀ (f:Nat) (lo hi:Int),AsI v lo hi->hi-lo<=2^f->∃ hi',AsI v (bE v) hi'/\hi'=bE v+1
 | 0,lo,hi,h,hf=>by
  simp at hf;have e:=yB h (by omega)
  rw [e];have:=h.2.1;exact ⟨hi,h,by omega⟩
 | f+1,lo,hi,h,hf=>by
  by_cases h1:1<hi-lo
  . have nx:=FZ h h1;rw [Int.pow_succ] at hf;split at nx
    . exact sI v f _ _ nx (by omega)
    . exact sI v f _ _ nx (by omega)
  . have e:=yB h h1;rw [e];have:=h.2.1;exact ⟨hi,h,by omega⟩
theorem dR (v:Int):-5400000<=bE v/\bE v<=5400000/\(bE v=-5400000∨bHi (bE v)<=v)/\(bE v=5400000∨v<bHi (bE v+1)):=by
 obtain ⟨hi,⟨a,b,c,d,d',_⟩,rfl⟩:=sI v 24 _ _ (zM v) (by omega)
 exact ⟨a,by omega,d,by rcases d' with h|h;exact .inl (by omega);exact .inr h⟩
theorem Sj (v:Int) (w:World) :
 Calls Try.prog 74 #[.int .i64 v] w fun e w'=>e=.returned (.int .i64 (bE v))/\Below w.heap.size w w':=by
 have K0:Hid (KS w w []):=av w;go_enter Try.func74,Try.ntmps74;go_wp2;go_loopw [3,4] (fun v3 v4 wr=>∃ lo hi:Int,v3=.int .i64 lo/\v4=.int .i64 hi/\AsI v lo hi/\KS w wr []) (fun v3 v4 _=>(intOf v4-intOf v3).toNat)
 case atStart=>exact ⟨-5400000,5400001,rfl,rfl,zM v,K0.out⟩
 case round =>
  obtain ⟨lo,hi,rfl,rfl,hI,hK⟩:=hrel;have HI:=Lib.hid hI;have HK2:=Lib.hid hK;clear hI hK K0;have b0:-5400000<=lo:=HI.out.1;have b1:lo<hi:=HI.out.2.1;have b2:hi<=5400001:=HI.out.2.2.1
  by_cases hgo:1<hi-lo
  . have NX:=Lib.hid (FZ HI.out hgo);have hm1:Hid (lo<(lo+hi)/2/\(lo+hi)/2<hi):=⟨by omega,by omega⟩
    have CR:=Lib.hid (fun w=>WK ((lo+hi)/2) v w ⟨by omega,by omega⟩)
    have q0:-5400000<=(lo+hi)/2:=by omega
    have q1:(lo+hi)/2<=5400001:=by omega
    clear HI;go_wp2_with fail;refine (CR.out _).mono ?_;rintro e w1 ⟨rfl,hb⟩;have HK3:Hid (KS w w1 []):=HK2.out.below hb;clear hb HK2 CR
    by_cases hr:jW ((lo+hi)/2) v<=0
    . have NY:Hid (AsI v ((lo+hi)/2) hi):=by have:=NX.out;rw [if_pos hr] at this;exact this
      clear NX;go_wp2;go_light;exact ⟨⟨(lo+hi)/2,hi,rfl,rfl,NY.out,HK3.out⟩,by simp only [intOf];have:=hm1.out;omega⟩
    . have NY:Hid (AsI v lo ((lo+hi)/2)):=by have:=NX.out;rw [if_neg hr] at this;exact this
      clear NX;go_wp2;go_light;exact ⟨⟨lo,(lo+hi)/2,rfl,rfl,NY.out,HK3.out⟩,by simp only [intOf];have:=hm1.out;omega⟩
  . have hA:=yB HI.out hgo;have HB:=Lib.hid HK2.out.1;clear HI HK2;go_wp2;go_ret;exact ⟨by first|rfl|(rw [hA];rfl),HB.out⟩
end Go.Proofs.Ytknhbpnclokciaa
namespace Go.Proofs.Ytknhbpnclokciaa
open Go.RowKit Alm
end Go.Proofs.Ytknhbpnclokciaa
namespace Alm
end Alm
namespace Go.Proofs.Ytknhbpnclokciaa
open Go.RowKit Alm
end Go.Proofs.Ytknhbpnclokciaa
namespace Go.Proofs.Ytknhbpnclokciaa
open Go.RowKit Alm Sx
def oM:Nat->List Int->List Int
 | 8,[a,b]=>[b2i (fxV a b)]
 | 35,[v]=>[bE v]
 | 41,[n]=>[rtV n]
 | 50,[x,y]=>[fU x y,b2i (iw x y)]
 | _,_=>[]
def Zd:Nat->List Int->Prop
 | 8,[_,_]=>True
 | 35,[v]=>-1073741824<=v/\v<=1073741824
 | 41,[n]=>0<=n/\n<=2305843009213693952
 | 50,[x,y]=>(-2147483648<=x/\x<=2147483648)/\(-2147483648<=y/\y<=2147483648)/\¬ (x=0/\y=0)
 | _,_=>False
def cxR (args:List Int):Cx:=⟨oM,Zd,args⟩
theorem Pz {f:Nat} {xs:List Int} (h:f=35∨f=41) (hp:Zd f xs):∃ a,xs=[a]:=by
 rcases h with rfl|rfl <;>
 . match xs,hp with
   | [a],hp=>exact ⟨a,rfl⟩
theorem S9 {f:Nat} {xs:List Int} (h:f=8∨f=50) (hp:Zd f xs):∃ a b,xs=[a,b]:=by
 rcases h with rfl|rfl <;>
 . match xs,hp with
   | [a,b],hp=>exact ⟨a,b,rfl⟩
end Go.Proofs.Ytknhbpnclokciaa
namespace Go.Proofs.Ytknhbpnclokciaa
open Go.RowKit Alm Sx
end Go.Proofs.Ytknhbpnclokciaa
namespace Go.Proofs.Ytknhbpnclokciaa
open Go.RowKit Alm Sx
theorem vG (n:Int):(oM 35 [n]).getD 0 0=bE n:=by simp only [oM,List.getD_cons_zero]
def Ru (a:Int):Int:=bE (max a (-1073741824))
def Gu (b:Int):Int:=-bE (-(min b 1073741824))
def Ch (a b:Int):Int:=if a<=1073741824/\-1073741824<=b then 0 else 2
def Xh (a b:Int):Value:=.tuple #[.agg #[.int .i64 (if Ch a b=0 then Ru a else 0),.int .i64 (if Ch a b=0 then Gu b else 0)],.int .i64 (Ch a b)]
