/- What of Wides only some laws need. -/
import Derived.Test.YtbdlccacamalpaaZWides
set_option linter.unusedVariables false
set_option linter.unusedSimpArgs false
namespace Go.Proofs.Ytbdlccacamalpaa
open Go.RowKit Alm
structure WV (hi lo V:Int):Prop where
 h0:0<=lo
 h1:lo<1152921504606846976
 hv:V=hi*1152921504606846976+lo
 v0:-1267650600228229401496703205376<=V
 v1:V<=1267650600228229401496703205376
theorem WV.hi {hi lo V:Int} (h:WV hi lo V):-1099511627776<=hi/\hi<=1099511627776:=by
 obtain ⟨a,b,c,d,e⟩:=h;omega
end Go.Proofs.Ytbdlccacamalpaa
namespace Go.Proofs.Ytbdlccacamalpaa
open Go.RowKit Alm
end Go.Proofs.Ytbdlccacamalpaa
namespace Go.Proofs.Ytbdlccacamalpaa
open Go.RowKit Alm
end Go.Proofs.Ytbdlccacamalpaa
namespace Go.Proofs.Ytbdlccacamalpaa
open Go.RowKit Alm
theorem N9 (lo hi:Int):fxV (gu lo hi) (gq lo hi)=true:=by
 have h:=DT lo hi;rw [bT];omega
