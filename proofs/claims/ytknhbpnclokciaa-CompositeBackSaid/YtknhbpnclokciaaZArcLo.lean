/- Plain numbers: the sine and the cosine of package arctrig, with 192 binary digits behind the point. -/
import Derived.Test.YtknhbpnclokciaaZNums
import Derived.Test.YtknhbpnclokciaaZLo
import Derived.Laws.StructEq
set_option linter.unusedVariables false
set_option linter.unusedSimpArgs false
namespace Alm
def QA:Nat:=2^192
def PiA:Nat:=3*2^192+0x243F6A8885A308D313198A2E03707344A4093822299F31D0
def dh (A B:Nat):Nat:=A*B/QA
def ic (n:Nat):Nat:=n*PiA/10800000
def jc:Nat->Nat->Nat->Nat->Int
 | 0,T,_,_=>T
 | m+1,T,Y,j=>T-jc m (dh T Y/((j+1)*(j+2))) Y (j+2)
def sqA (n:Nat):Nat:=dh (ic n) (ic n)
def uW:Nat->Nat
 | 0=>QA
 | i+1=>uW i/((2*i+1)*(2*i+2))
attribute [irreducible] jc dh ic QA PiA uW
end Alm
namespace Alm
def w8:Nat->Int
 | 0=>726838724295606890549323807888004534353641360687318060281490199180639288113397923326191050713763565560762521606266177933534601628614656|1=>39402006196394479212279040100143613805079739270465446667948293404245721771497210611414266254884915640806627990306816|2=>2135987035920910082395021706169552114602704522356652769947041607822219725780640550022962086936576|3=>2^256|4=>2^192|5=>2^128|6=>2^64|7=>1|_=>0
def h4:Nat->Int
 | 0=>2^192|1=>2^128|2=>2^64|3=>1|_=>0
end Alm
namespace Go.Proofs.Ytknhbpnclokciaa
open Go.RowKit Alm
structure yj (a b:Nat->Int) (w wr:World) (o:Nat->Int):Prop where
 below:Below w.heap.size w wr
 ra:Row wr w.heap.size 4 a
 rb:Row wr (w.heap.size+1) 4 b
 rr:Row wr (w.heap.size+1+1) 4 (fun _=>0)
 ro:Row wr (w.heap.size+1+1+1) 8 o
theorem yj.set {a b:Nat->Int} {w wr:World} {o:Nat->Int} (h:yj a b w wr o) (q p:Nat) (v:Int) (hp:p<8) (hv:U64 v) :
 yj a b w ((wr.drewN q).setCell ⟨w.heap.size+1+1+1,p,none⟩ (.int .u64 v)) (upd o p v) :=
 ⟨(below_drewN h.below q).setCell (by show w.heap.size<=w.heap.size+1+1+1;omega) _,(h.ra.drewN q).other _ (by omega),(h.rb.drewN q).other _ (by omega),(h.rr.drewN q).other _ (by omega),(h.ro.drewN q).set v hp hv⟩
end Go.Proofs.Ytknhbpnclokciaa
namespace Go.Proofs.Ytknhbpnclokciaa
open Go.RowKit
