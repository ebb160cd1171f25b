/- Small laws on memory: blocks that are known whole. -/
import Derived.Test.YtbcnifkfaknnaaaGreatZLo
import Derived.Laws.Rows
import Derived.Laws.OwnMore
import Derived.Deep.Draws
import Derived.Test.YtbcnifkfaknnaaaGreatZNums
import Derived.Deep.AppendLies
import Derived.Deep.Light
import Derived.Lib.SliceRun
import Derived.Deep.QuietTactic
import Derived.BigQuiet
import Derived.Laws.MakeOwn
import Derived.IntWalk
import Derived.Laws.NewBlocks
import Derived.Deep.RegionHeld3
import Derived.Test.YtbcnifkfaknnaaaGreatZArcLo
set_option linter.unusedVariables false
set_option linter.unusedSimpArgs false
namespace Go.Proofs.YtbcnifkfaknnaaaGreat
open Go.RowKit
def BK (w:World) (g:Nat) (t:TypeId) (cs:Array Value):Prop:=w.heap[g]? = some (.cells cs t (0,0))
theorem BK.lt {w:World} {g:Nat} {t:TypeId} {cs:Array Value} (h:BK w g t cs):g<w.heap.size:=by
 apply Decidable.byContradiction;intro hn;have h2:w.heap[g]? = none:=Array.getElem?_eq_none (by omega)
 unfold BK at h;rw [h2] at h;cases h
theorem BK.cell {w:World} {g:Nat} {t:TypeId} {cs:Array Value} (h:BK w g t cs) (i:Nat):w.cell? ⟨g,i,none⟩=cs[i]?:=cell_of_row w g i cs t (0,0) h
theorem BK.frozen {w:World} {g:Nat} {t:TypeId} {cs:Array Value} (h:BK w g t cs) (i:Nat):w.frozen? ⟨g,i,none⟩=false:=by
 unfold BK at h;simp [World.frozen?,h]
theorem MC (w:World) (t:TypeId) (cs:Array Value):BK (w.alloc (.cells cs t)) w.heap.size t cs:=heap_alloc_new w _
theorem Yu (w:World) (n:Nat) (t:TypeId) (cs:Array Value) (h:w.heap.size=n):BK (w.alloc (.cells cs t)) n t cs:=by subst h;exact MC w t cs
theorem BK.drew {w:World} {g:Nat} {t:TypeId} {cs:Array Value} (h:BK w g t cs):BK w.drew g t cs:=h
theorem BK.drewN {w:World} {g:Nat} {t:TypeId} {cs:Array Value} (h:BK w g t cs) (n:Nat):BK (w.drewN n) g t cs:=h
theorem BK.alloc {w:World} {g:Nat} {t:TypeId} {cs:Array Value} (h:BK w g t cs) (o:Obj):BK (w.alloc o) g t cs:=(Below.heap_alloc w o g h.lt).trans h
theorem BK.set {w:World} {g:Nat} {t:TypeId} {cs:Array Value} (h:BK w g t cs) (i:Nat) (u:Value):BK (w.setCell ⟨g,i,none⟩ u) g t (cs.setIfInBounds i u):=by
 unfold BK at h ⊢
 simp [World.setCell,Array.getElem?_modify,h]
theorem BK.far {w:World} {g:Nat} {t:TypeId} {cs:Array Value} (h:BK w g t cs) {p:Addr} (hp:g≠p.block) (u:Value):BK (w.setCell p u) g t cs:=(Below.heap_setCell w p u g hp).trans h
theorem BK.below {w w':World} {g:Nat} {t:TypeId} {cs:Array Value} {B:Nat} (h:BK w g t cs) (hb:Below B w w') (hg:g<B):BK w' g t cs:=(hb.block g hg).trans h
theorem Gc (w:World) (p:Addr) (u:Value):(w.setCell p u).heap.size=w.heap.size:=by simp [World.setCell]
theorem le2 (n:Nat):n<=n+1+1:=by omega
end Go.Proofs.YtbcnifkfaknnaaaGreat
namespace Go.Proofs.YtbcnifkfaknnaaaGreat
open Go.RowKit
def KS (w wr:World) (l:List (Nat × TypeId × Array Value)):Prop:=Below w.heap.size w wr/\∀ p∈l,BK wr p.1 p.2.1 p.2.2
theorem fB (w:World):KS w w []:=⟨Below.refl _ _,by simp⟩
theorem KS.below {w wr wx:World} {l:List (Nat × TypeId × Array Value)} (h:KS w wr l) (hb:Below wr.heap.size wr wx):KS w wx l :=
 ⟨h.1.trans (hb.mono h.1.size),fun p hp=>(h.2 p hp).below hb (h.2 p hp).lt⟩
theorem KS.alloc {w wr:World} {l:List (Nat × TypeId × Array Value)} (h:KS w wr l) (o:Obj):KS w (wr.alloc o) l :=
 ⟨h.1.alloc h.1.size o,fun p hp=>(h.2 p hp).alloc o⟩
theorem KS.new {w wr:World} {l:List (Nat × TypeId × Array Value)} (h:KS w wr l) (n:Nat) (hn:wr.heap.size=n) (t:TypeId) (cs:Array Value):KS w (wr.alloc (.cells cs t)) ((n,t,cs)::l) :=
 ⟨h.1.alloc h.1.size _,fun p hp=>by
  rcases List.mem_cons.1 hp with rfl|hp
  . exact Yu wr n t cs hn
  . exact (h.2 p hp).alloc _⟩
theorem KS.drew {w wr:World} {l:List (Nat × TypeId × Array Value)} (h:KS w wr l):KS w wr.drew l:=⟨h.1.drew,fun p hp=>(h.2 p hp).drew⟩
theorem KS.drewN {w wr:World} {l:List (Nat × TypeId × Array Value)} (h:KS w wr l) (k:Nat):KS w (wr.drewN k) l:=⟨below_drewN h.1 k,fun p hp=>(h.2 p hp).drewN k⟩
theorem KS.set {w wr:World} {l:List (Nat × TypeId × Array Value)} {n:Nat} {t:TypeId} {cs:Array Value} (h:KS w wr ((n,t,cs)::l)) (hn:w.heap.size<=n) (hd:∀ p∈l,p.1≠n) (i:Nat) (u:Value) :
 KS w (wr.setCell ⟨n,i,none⟩ u) ((n,t,cs.setIfInBounds i u)::l) :=
 ⟨h.1.setCell hn u,fun p hp=>by
  rcases List.mem_cons.1 hp with rfl|hp
  . exact (h.2 _ (List.mem_cons_self ..)).set i u
  . exact (h.2 p (List.mem_cons_of_mem _ hp)).far (by exact hd p hp) u⟩
theorem KS.sub {w wr:World} {l l':List (Nat × TypeId × Array Value)} (h:KS w wr l) (hl:∀ p∈l',p∈l):KS w wr l':=⟨h.1,fun p hp=>h.2 p (hl p hp)⟩
theorem KS.c {w wr:World} {l:List (Nat × TypeId × Array Value)} {g:Nat} {t:TypeId} {cs:Array Value} (h:KS w wr l) (hm:(g,t,cs)∈l) {i:Nat} {v:Value} (hi:cs[i]? = some v):wr.cell? ⟨g,i,none⟩=some v :=
 ((h.2 _ hm).cell i).trans hi
theorem KS.f {w wr:World} {l:List (Nat × TypeId × Array Value)} {g:Nat} {t:TypeId} {cs:Array Value} (h:KS w wr l) (hm:(g,t,cs)∈l) (i:Nat):wr.frozen? ⟨g,i,none⟩=false:=(h.2 _ hm).frozen i
theorem KS.lt {w wr:World} {l:List (Nat × TypeId × Array Value)} {g:Nat} {t:TypeId} {cs:Array Value} (h:KS w wr l) (hm:(g,t,cs)∈l):g<wr.heap.size:=(h.2 _ hm).lt
theorem cell_far (w:World) (g b i j:Nat) (u:Value) (h:g≠b):(w.setCell ⟨g,i,none⟩ u).cell? ⟨b,j,none⟩=w.cell? ⟨b,j,none⟩ :=
 World.cell?_setCell_other _ _ _ _ (by intro e;injection e with e1;exact h e1)
end Go.Proofs.YtbcnifkfaknnaaaGreat
namespace Alm
def BB:Nat:=268435456
def vd:List Nat->Nat
 | []=>0
 | d::l=>d+BB*vd l
def Dg (l:List Nat):Prop:=∀ d∈l,d<BB
def Tr (l:List Nat):Prop:=Dg l/\(l.length=0∨BB^(l.length-1)<=vd l)
end Alm
namespace Go.Proofs.YtbcnifkfaknnaaaGreat
open Go.RowKit Alm
def RD (w:World) (A:Option Addr) (l:List Nat):Prop:=0<l.length->∃ b off,A=some ⟨b,off,none⟩/\b<w.heap.size/\∀ i (h:i<l.length),w.cell? ⟨b,off+i,none⟩=some (.int .i64 (l[i]:Int))
theorem RD.below {w w':World} {A:Option Addr} {l:List Nat} (h:RD w A l) (hb:Below w.heap.size w w'):RD w' A l:=fun h0=>by
 obtain ⟨b,off,e,hlt,hc⟩:=h h0;exact ⟨b,off,e,Nat.lt_of_lt_of_le hlt hb.size,fun i hi=>(hb.cell (p:=⟨b,off+i,none⟩) hlt).trans (hc i hi)⟩
theorem RD.nil (w:World) (A:Option Addr):RD w A []:=fun h=>absurd h (by simp)
theorem RD.take {w:World} {A:Option Addr} {l:List Nat} (h:RD w A l) (n:Nat):RD w A (l.take n):=fun h0=>by
 rw [List.length_take] at h0;obtain ⟨b,off,e,hlt,hc⟩:=h (by omega)
 refine ⟨b,off,e,hlt,fun i hi=>?_⟩
 rw [List.length_take] at hi;rw [List.getElem_take];exact hc i (by omega)
theorem RD.drop {w:World} {b off:Nat} {l:List Nat} (h:RD w (some ⟨b,off,none⟩) l) (n:Nat):RD w (some ⟨b,off+n,none⟩) (l.drop n):=fun h0=>by
 rw [List.length_drop] at h0;obtain ⟨b',off',e,hlt,hc⟩:=h (by omega)
 injection e with e
 injection e with e1 e2
 subst e1;subst e2;refine ⟨b,off+n,rfl,hlt,fun i hi=>?_⟩
 rw [List.length_drop] at hi;rw [List.getElem_drop,Nat.add_assoc];exact hc (n+i) (by omega)
def BN (w:World) (v:Value) (N:Nat):Prop:=∃ A l c,v=.slice A l.length c/\l.length<=c/\Tr l/\vd l=N/\RD w A l
theorem BN.below {w w':World} {v:Value} {N:Nat} (h:BN w v N) (hb:Below w.heap.size w w'):BN w' v N:=by
 obtain ⟨A,l,c,h1,h2,h3,h4,h5⟩:=h;exact ⟨A,l,c,h1,h2,h3,h4,h5.below hb⟩
end Go.Proofs.YtbcnifkfaknnaaaGreat
namespace Go.Proofs.YtbcnifkfaknnaaaGreat
open Go.RowKit Alm
end Go.Proofs.YtbcnifkfaknnaaaGreat
namespace Go.Proofs.YtbcnifkfaknnaaaGreat
open Go.RowKit Alm
end Go.Proofs.YtbcnifkfaknnaaaGreat
namespace Go.Proofs.YtbcnifkfaknnaaaGreat
open Go.RowKit Alm
end Go.Proofs.YtbcnifkfaknnaaaGreat
namespace Go.Proofs.YtbcnifkfaknnaaaGreat
open Go.RowKit Alm
end Go.Proofs.YtbcnifkfaknnaaaGreat
namespace Go.Proofs.YtbcnifkfaknnaaaGreat
open Go.RowKit Alm
end Go.Proofs.YtbcnifkfaknnaaaGreat
namespace Go.Proofs.YtbcnifkfaknnaaaGreat
open Go.RowKit Alm
end Go.Proofs.YtbcnifkfaknnaaaGreat
namespace Alm
end Alm
namespace Alm
end Alm
namespace Go.Proofs.YtbcnifkfaknnaaaGreat
open Go.RowKit Alm
end Go.Proofs.YtbcnifkfaknnaaaGreat
namespace Go.Proofs.YtbcnifkfaknnaaaGreat
open Go.RowKit Alm
