/- The closed facts of the program that every statement asks, each one apart: together they are more than the kernel may hold. -/
import Derived.Test.YtgmncdmcdgkodaaGreatRows
import Derived.JoinedOf
import Derived.WalkKit
import Derived.ProofKit
import Derived.OpenShut
import Derived.ChangeOld
import Derived.Below
import Derived.Lib.SmallJoins
import Derived.Deep.Slices
import Derived.WideKeyArgs
import Derived.Test.YtgmncdmcdgkodaaGreatZSumM
import Derived.Test.YtgmncdmcdgkodaaGreatZFrame
set_option linter.unusedVariables false
set_option linter.unusedSimpArgs false
set_option maxRecDepth 1000000
namespace Go.Proofs.YtgmncdmcdgkodaaGreat
open Go
end Go.Proofs.YtgmncdmcdgkodaaGreat
namespace Go.Proofs.YtgmncdmcdgkodaaGreat
open Go.ChangeShapes Go.WideShapes Go.ChangeAt Go.RowKit Go.Joins Go.Deep Go.WideElems Alm
def lvF (l:ag):List Value:=[.int .i64 l.cl,.int .i64 l.ch,.int .i64 l.dl,.int .i64 l.dh]
theorem four {α:Type} (l:List α) (h:l.length=4):∃ a b c d,l=[a,b,c,d]:=by
 match l,h with
 | [a,b,c,d],_=>exact ⟨a,b,c,d,rfl⟩
theorem BQ:Tryz.prog.cellsOf 23=2:=by kernel_rfl
theorem vF:Tryz.prog.cellsOf 35=4:=by kernel_rfl
theorem Aw:Tryz.prog.cellsOf 3=1:=by kernel_rfl
theorem Fq:Tryz.prog.readableRec 28=true:=by kernel_rfl
theorem Iw:28<Tryz.prog.types.size:=of_decide_eq_true (by kernel_rfl)
theorem laid:laidOutB Tryz.prog=true:=by kernel_rfl
section
variable {H:Type} {enc:TypeId × Value->H} {w:World} {base:Nat} {spare:Nat->Bool} {held:Bool}
theorem vE {n:Nat} {c0 c1:Value} {x:DataW H × List MemPlace} (h:DataW.trod enc Tryz.prog w base spare held n 23 [c0,c1]=some x):∃ a b:Int,c0=.int .i64 a/\c1=.int .i64 b:=by
 obtain ⟨y0,y1,m,_,_,h0,h1⟩:=trod_struct2 Tryz.underlying23 h;simp [Aw] at h0 h1;obtain ⟨a,e0,_,_⟩:=DataW.trod_int Tryz.underlying3 h0;obtain ⟨b,e1,_,_⟩:=DataW.trod_int Tryz.underlying3 h1;simp at e0 e1;exact ⟨a,b,e0,e1⟩
theorem Bt {n:Nat} {cs:List Value} {x:DataW H × List MemPlace} (h:DataW.trod enc Tryz.prog w base spare held n 35 cs=some x):∃ l:ag,cs=lvF l:=by
 obtain ⟨y0,y1,m,_,hl,h0,h1⟩:=trod_struct2 Tryz.underlying35 h;rw [vF] at hl;obtain ⟨c0,c1,c2,c3,rfl⟩:=four cs hl;simp [BQ] at h0 h1;obtain ⟨a,b,rfl,rfl⟩:=vE h0;obtain ⟨c,d,rfl,rfl⟩:=vE h1;exact ⟨⟨a,b,c,d⟩,rfl⟩
def FZ (w:World) (a:Addr) (l:ag):Prop:=w.cell? (a.add 0)=(lvF l)[0]?/\w.cell? (a.add 1)=(lvF l)[1]?/\w.cell? (a.add 2)=(lvF l)[2]?/\w.cell? (a.add 3)=(lvF l)[3]?
theorem pV {n:Nat} {v:Value} {x:DataW H × List MemPlace} (h:DataW.trod enc Tryz.prog w base spare held n 28 [v]=some x) :
 ∃ (a:Option Addr) (cap:Nat) (L:List ag),v=.slice a L.length cap/\L.length<=cap/\cap<=maxLen/\bG w a L/\(a=none->L.length=0/\cap=0):=by
 rcases open_slice Tryz.underlying28 h with ⟨h0,_⟩|⟨a,len,cap,m,n,D,Pl,h0,hb,hl,hm,hmm,hx,hi⟩
 . simp at h0;exact ⟨none,0,[],h0,Nat.le_refl _,Nat.zero_le _,.inl rfl,fun _=>⟨rfl,rfl⟩⟩
 . simp at h0;rw [vF] at hi;have hle:len<=m:=by rw [hmm];split<;>omega
   have hone:∀ i,i<len->∃ l:ag,FZ w (a.add (i*4)) l:=by
    intro i hil;obtain ⟨cs',hc,ht⟩:=hi i (by omega)
    obtain ⟨l,rfl⟩:=Bt ht;obtain ⟨_,_,hcell⟩:=World.cells?_some hc;have k0:=hcell 0 (by omega);have k1:=hcell 1 (by omega);have k2:=hcell 2 (by omega);have k3:=hcell 3 (by omega)
    exact ⟨l,k0,k1,k2,k3⟩
   haveI:Inhabited ag:=⟨⟨0,0,0,0⟩⟩
   obtain ⟨f,hf⟩:=choose_lt hone;refine ⟨some a,cap,(List.range len).map f,by simpa using h0,by simpa using hl,hm,?_,by simp⟩
   by_cases h00:len=0
   . subst h00;exact .inl rfl
   . obtain ⟨b,off,spot⟩:=a;have c0:=(hf 0 (by omega)).1
     have hspot:spot=none:=by simpa [Addr.add] using World.cell?_spot c0
     subst hspot;refine .inr ⟨b,off,rfl,?_,fun i hi'=>?_⟩
     . have:=World.cells?_block (hi 0 (by omega)).choose_spec.1 (by omega)
       simpa [Addr.add] using this
     . simp only [List.length_map,List.length_range] at hi'
       obtain ⟨q0,q1,q2,q3⟩:=hf i hi'
       simp only [List.getElem_map,List.getElem_range];simp only [Addr.add_lit] at q0 q1 q2 q3;exact ⟨by simpa [lvF] using q0,by simpa [lvF] using q1,by simpa [lvF] using q2,by simpa [lvF] using q3⟩
end
