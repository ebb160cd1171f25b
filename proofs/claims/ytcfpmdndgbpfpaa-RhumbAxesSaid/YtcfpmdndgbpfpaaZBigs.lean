/- Plain numbers: lists of digits of 28 bits. -/
import Derived.Test.YtcfpmdndgbpfpaaZNums
import Derived.Test.YtcfpmdndgbpfpaaZKp
import Derived.Deep.AppendLies
import Derived.Deep.Light
import Derived.Lib.SliceRun
import Derived.Deep.QuietTactic
import Derived.BigQuiet
import Derived.Laws.MakeOwn
import Derived.IntWalk
import Derived.Laws.NewBlocks
import Derived.Deep.RegionHeld3
import Derived.Test.YtcfpmdndgbpfpaaZArcLo
set_option linter.unusedVariables false
set_option linter.unusedSimpArgs false
namespace Alm
def BB:Nat:=268435456
def vd:List Nat->Nat
 | []=>0
 | d::l=>d+BB*vd l
def Dg (l:List Nat):Prop:=∀ d∈l,d<BB
def Tr (l:List Nat):Prop:=Dg l/\(l.length=0∨BB^(l.length-1)<=vd l)
end Alm
namespace Go.Proofs.Ytcfpmdndgbpfpaa
open Go.RowKit Alm
def RD (w:World) (A:Option Addr) (l:List Nat):Prop:=0<l.length->∃ b off,A=some ⟨b,off,none⟩/\b<w.heap.size/\∀ i (h:i<l.length),w.cell? ⟨b,off+i,none⟩=some (.int .i64 (l[i]:Int))
theorem RD.below {w w':World} {A:Option Addr} {l:List Nat} (h:RD w A l) (hb:Below w.heap.size w w'):RD w' A l:=fun h0=>by
 obtain ⟨b,off,e,hlt,hc⟩:=h h0;exact ⟨b,off,e,Nat.lt_of_lt_of_le hlt hb.size,fun i hi=>(hb.cell (p:=⟨b,off+i,none⟩) hlt).trans (hc i hi)⟩
theorem RD.nil (w:World) (A:Option Addr):RD w A []:=fun h=>absurd h (by simp)
theorem RD.take {w:World} {A:Option Addr} {l:List Nat} (h:RD w A l) (n:Nat):RD w A (l.take n):=fun h0=>by
 rw [List.length_take] at h0;obtain ⟨b,off,e,hlt,hc⟩:=h (by omega)
 refine ⟨b,off,e,hlt,fun i hi=>?_⟩
 rw [List.length_take] at hi;rw [List.getElem_take];exact hc i (by omega)
theorem RD.drop {w:World} {b off:Nat} {l:List Nat} (h:RD w (some ⟨b,off,none⟩) l) (n:Nat):RD w (some ⟨b,off+n,none⟩) (l.drop n):=fun h0=>by
 rw [List.length_drop] at h0;obtain ⟨b',off',e,hlt,hc⟩:=h (by omega)
 injection e with e
 injection e with e1 e2
 subst e1;subst e2;refine ⟨b,off+n,rfl,hlt,fun i hi=>?_⟩
 rw [List.length_drop] at hi;rw [List.getElem_drop,Nat.add_assoc];exact hc (n+i) (by omega)
def BN (w:World) (v:Value) (N:Nat):Prop:=∃ A l c,v=.slice A l.length c/\l.length<=c/\Tr l/\vd l=N/\RD w A l
theorem BN.below {w w':World} {v:Value} {N:Nat} (h:BN w v N) (hb:Below w.heap.size w w'):BN w' v N:=by
 obtain ⟨A,l,c,h1,h2,h3,h4,h5⟩:=h;exact ⟨A,l,c,h1,h2,h3,h4,h5.below hb⟩
end Go.Proofs.Ytcfpmdndgbpfpaa
namespace Go.Proofs.Ytcfpmdndgbpfpaa
open Go.RowKit Alm
end Go.Proofs.Ytcfpmdndgbpfpaa
namespace Go.Proofs.Ytcfpmdndgbpfpaa
open Go.RowKit Alm
end Go.Proofs.Ytcfpmdndgbpfpaa
namespace Go.Proofs.Ytcfpmdndgbpfpaa
open Go.RowKit Alm
end Go.Proofs.Ytcfpmdndgbpfpaa
namespace Go.Proofs.Ytcfpmdndgbpfpaa
open Go.RowKit Alm
end Go.Proofs.Ytcfpmdndgbpfpaa
namespace Go.Proofs.Ytcfpmdndgbpfpaa
open Go.RowKit Alm
end Go.Proofs.Ytcfpmdndgbpfpaa
namespace Go.Proofs.Ytcfpmdndgbpfpaa
open Go.RowKit Alm
end Go.Proofs.Ytcfpmdndgbpfpaa
namespace Alm
end Alm
namespace Alm
end Alm
namespace Go.Proofs.Ytcfpmdndgbpfpaa
open Go.RowKit Alm
end Go.Proofs.Ytcfpmdndgbpfpaa
namespace Go.Proofs.Ytcfpmdndgbpfpaa
open Go.RowKit Alm
