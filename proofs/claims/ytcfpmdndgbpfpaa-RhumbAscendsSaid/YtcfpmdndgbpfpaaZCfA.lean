/- Plain numbers: Euclid's steps on the cosine and the sine of an angle, times 2^160: where they stop shows that no point of small coordinates lies near the angle's ray. -/
import Derived.Test.YtcfpmdndgbpfpaaZNums
set_option linter.unusedVariables false
set_option linter.unusedSimpArgs false
namespace Alm
def IC:Nat:=1461501637330902918203684832716283019655932542976
def qJ:Nat:=6277101735386680763835789423207666416102355444464034512896
def qc1:Nat:=1461501637330841085028993473485354317854231948077
def qs1:Nat:=425133593245199460169970897845407932666872
noncomputable def eu (f:Nat):Nat->Nat->Bool :=
 @Nat.rec (fun _=>Nat->Nat->Bool) (fun _ _=>false)
  (fun _ ih p q=>@Bool.rec (fun _=>Bool)
   (@Nat.rec (fun _=>Bool) false (fun r _=>ih q r) (Nat.mod (Nat.succ p) (Nat.succ q)))
   (Nat.ble 1267650600228229401496703205376 q) (Nat.ble q 42535295865117307932921825928971026431)) f
def stp (t:Nat):Nat:=((t%qJ)*qc1-(t/qJ)*qs1)/IC+qJ*(((t/qJ)*qc1+(t%qJ)*qs1)/IC)
noncomputable def stpB (t:Nat):Nat :=
 @Nat.rec (fun _=>Nat) 0 (fun p _=>@Nat.rec (fun _=>Nat) 0 (fun q _=>@Bool.rec (fun _=>Nat) 0
  (Nat.add (Nat.div (Nat.sub (Nat.mul (Nat.succ p) 1461501637330841085028993473485354317854231948077) (Nat.mul (Nat.succ q) 425133593245199460169970897845407932666872)) 1461501637330902918203684832716283019655932542976)
   (Nat.mul 6277101735386680763835789423207666416102355444464034512896 (Nat.div (Nat.add (Nat.mul (Nat.succ q) 1461501637330841085028993473485354317854231948077) (Nat.mul (Nat.succ p) 425133593245199460169970897845407932666872)) 1461501637330902918203684832716283019655932542976)))
  (eu 200 p q)) (Nat.div t 6277101735386680763835789423207666416102355444464034512896)) (Nat.mod t 6277101735386680763835789423207666416102355444464034512896)
noncomputable def it (k:Nat):Nat->Nat:=@Nat.rec (fun _=>Nat->Nat) stpB (fun _ ih t=>@Nat.rec (fun _=>Nat) 0 (fun v _=>ih (Nat.succ v)) (ih t)) k
def Ic (t:Nat):Prop:=0<t%qJ/\0<t/qJ/\eu 200 (t%qJ-1) (t/qJ-1)=true
section
variable (G:Nat->Prop) (f:Nat->Nat)
def FJ:Nat->Nat->Nat->Prop
 | 0,t,v=>v=t
 | n+1,t,v=>G t/\FJ n (f t) v
end
def Walk (n t v:Nat):Prop:=FJ Ic stp n t v
attribute [irreducible] Walk stp
def Chk (k t v:Nat):Prop:=Nat.beq (it k t) v=true
noncomputable instance chkDec (k t v:Nat):Decidable (Chk k t v):=inferInstanceAs (Decidable (Nat.beq (it k t) v=true))
attribute [irreducible] it stpB eu
