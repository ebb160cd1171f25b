/- The contract of slices.Reverse over few points. -/
import Derived.Test.YtknhbpnclokciaaZRwP
set_option linter.unusedVariables false
set_option linter.unusedSimpArgs false
set_option maxRecDepth 100000
set_option maxHeartbeats 8000000
namespace Go.Proofs.Ytknhbpnclokciaa
open Go.RowKit Alm Sx
def rvS (M:Cs) (i j:Nat):Cs:=(M.set i (M.getD j [])).set j (M.getD i [])
def rv (L:Cs):Nat->Cs
 | 0=>L
 | k+1=>rvS (rv L k) k (L.length-1-k)
theorem aN (L:Cs):∀ k,(rv L k).length=L.length
 | 0=>rfl
 | k+1=>by show (rvS (rv L k) k (L.length-1-k)).length=_;unfold rvS;rw [List.length_set,List.length_set];exact aN L k
theorem lY (L:Cs) (h:L.length<=4):rv L (L.length/2)=L.reverse:=by
 match L,h with
 | [],_=>rfl
 | [a],_=>rw [show ([a]:Cs).length/2=0 from by simp];rfl
 | [a,b],_=>rw [show ([a,b]:Cs).length/2=1 from by simp];rfl
 | [a,b,c],_=>rw [show ([a,b,c]:Cs).length/2=1 from by simp];rfl
 | [a,b,c,d],_=>rw [show ([a,b,c,d]:Cs).length/2=2 from by simp];rfl
structure RvI (B:Nat) (w wr:World) (g cap:Nat) (L:Cs) (i j:Nat):Prop where
 below:Below B w wr
 blk:kC wr g 23 cap (rv L i)
 sum:i+j+1=L.length
 le:i<=j+1
theorem lQ {B:Nat} {w wr:World} {g cap:Nat} {L:Cs} {i j:Nat} (hB:B<=g) (h:RvI B w wr g cap L i j) (hij:i<j) {x y z t:Int} (hx:(rv L i)[i]'(by have:=h.sum;rw [aN];omega)=[x,y]) (hz:(rv L i)[j]'(by have:=h.sum;rw [aN];omega)=[z,t]) :
 RvI B w ((((wr.setCell ⟨g,i*2,none⟩ (.int .i64 z)).setCell ⟨g,i*2+1,none⟩ (.int .i64 t)).setCell ⟨g,j*2,none⟩ (.int .i64 x)).setCell ⟨g,j*2+1,none⟩ (.int .i64 y)) g cap L (i+1) (j-1):=by
 have hs:=h.sum;have hl:=aN L i;refine ⟨(((h.below.setCell (p:=⟨g,i*2,none⟩) hB _).setCell (p:=⟨g,i*2+1,none⟩) hB _).setCell (p:=⟨g,j*2,none⟩) hB _).setCell (p:=⟨g,j*2+1,none⟩) hB _,?_,by omega,by omega⟩
 have b1:=h.blk.set i (by omega) z t
 have b2:=b1.set j (by rw [List.length_set];omega) x y
 have e:rv L (i+1)=((rv L i).set i [z,t]).set j [x,y]:=by
  show rvS (rv L i) i (L.length-1-i)=_;unfold rvS;rw [show L.length-1-i=j by omega,List.getD_eq_getElem?_getD,List.getD_eq_getElem?_getD,List.getElem?_eq_getElem (by omega),List.getElem?_eq_getElem (by omega),hx,hz]
  rfl
 rw [e];exact b2
theorem ow {B:Nat} {w wr:World} {g cap:Nat} {L:Cs} {i j:Nat} (hB:B<=g) (h:RvI B w wr g cap L i j) (hij:i<j) {x y z t:Int} (hx:(rv L i)[i]'(by have:=h.sum;rw [aN];omega)=[x,y]) (hz:(rv L i)[j]'(by have:=h.sum;rw [aN];omega)=[z,t]) :
 RvI B w ((((wr.setCell ⟨g,j*2,none⟩ (.int .i64 x)).setCell ⟨g,j*2+1,none⟩ (.int .i64 y)).setCell ⟨g,i*2,none⟩ (.int .i64 z)).setCell ⟨g,i*2+1,none⟩ (.int .i64 t)) g cap L (i+1) (j-1):=by
 have hs:=h.sum;have hl:=aN L i;refine ⟨(((h.below.setCell (p:=⟨g,j*2,none⟩) hB _).setCell (p:=⟨g,j*2+1,none⟩) hB _).setCell (p:=⟨g,i*2,none⟩) hB _).setCell (p:=⟨g,i*2+1,none⟩) hB _,?_,by omega,by omega⟩
 have b1:=h.blk.set j (by omega) x y
 have b2:=b1.set i (by rw [List.length_set];omega) z t
 have e:rv L (i+1)=((rv L i).set i [z,t]).set j [x,y]:=by
  show rvS (rv L i) i (L.length-1-i)=_;unfold rvS;rw [show L.length-1-i=j by omega,List.getD_eq_getElem?_getD,List.getD_eq_getElem?_getD,List.getElem?_eq_getElem (by omega),List.getElem?_eq_getElem (by omega),hx,hz]
  rfl
 rw [e,List.set_comm _ _ (show i≠j by omega)];exact b2
theorem RvI.dr {B:Nat} {w wr:World} {g cap:Nat} {L:Cs} {i j:Nat} (h:RvI B w wr g cap L i j):RvI B w wr.drew g cap L i j:=⟨h.below.drew,h.blk.drew,h.sum,h.le⟩
theorem eH (B:Nat) (v:Value) (L:Cs) (w:World) (h:bJ 2 23 B w v L) (h1:1<=L.length) (h4:L.length<=4) :
 Calls Try.prog 9 #[v] w fun e w'=>e=.returned (.tuple #[])/\bJ 2 23 B w' v L.reverse/\Below B w w':=by
 obtain ⟨a,cap,rfl,hlc,hcm,_,hg⟩:=h.out (by decide)
 obtain ⟨g,rfl,hB,_,_⟩:=hg (by intro e;rw [e] at h1;simp at h1)
 have R0:Hid (RvI B w w g cap L 0 (L.length-1)):=Lib.hid ⟨Below.refl _ _,h.blk.2,by omega,by omega⟩
 have hw0:IntKind.i64.wrap ((L.length:Int)-1)=((L.length-1:Nat):Int):=by rw [Go.IntWalk.i64_in _ (by omega)];omega
 clear h hg;go_enter Try.func9,Try.ntmps9;go_wp2;go_loopw [2,3] (fun v2 v3 wr=>∃ i j:Nat,v2=.int .i64 (i:Int)/\v3=.int .i64 (j:Int)/\RvI B w wr g cap L i j) (fun v2 v3 _=>(intOf v3+1-intOf v2).toNat)
 case atStart=>exact ⟨0,L.length-1,rfl,by first|rfl|(rw [hw0])|(congr 1;omega),R0.out⟩
 case round =>
  obtain ⟨i,j,rfl,rfl,hR⟩:=hrel;clear R0 hw0;have hs:=hR.sum;have hle:=hR.le;have hl:=aN L i
  by_cases hij:i<j
  . obtain ⟨x,y,hx,c0,c1⟩:=hR.blk.row.1.at2 i (by omega)
    obtain ⟨z,t,hz,d0,d1⟩:=hR.blk.row.1.at2 j (by omega)
    rw [Nat.zero_add] at c0 c1 d0 d1;have f0:=hR.blk.row.2 (i*2);have f1:=hR.blk.row.2 (i*2+1);have f2:=hR.blk.row.2 (j*2);have f3:=hR.blk.row.2 (j*2+1);have RS:=Lib.hid (lQ hB hR hij hx hz);have RS2:=Lib.hid (ow hB hR hij hx hz);have hij':(i:Int)<(j:Int):=by omega
    have hi':(i:Int)<(L.length:Int):=by omega
    have hj':(j:Int)<(L.length:Int):=by omega
    have hwj:IntKind.i64.wrap ((j:Int)-1)=((j-1:Nat):Int):=by rw [Go.IntWalk.i64_in _ (by omega)];omega
    clear hR hx hz hle hl;go_wp2_with fail;go_region
    all_goals
     go_wp2;go_light;refine ⟨⟨i+1,j-1,by rw [show ((i+1:Nat):Int)=(i:Int)+1 by omega],by first|(rw [hwj])|(rw [show ((j-1:Nat):Int)=(j:Int)-1 by omega]),?_⟩,by simp only [intOf];omega⟩
     first
      | exact RS.out
      | exact RS.out.dr
      | exact RS2.out
      | exact RS2.out.dr
  . have hij':¬ (i:Int)<(j:Int):=by omega
    have e:i=L.length/2:=by omega
    have O:=hR.blk.own hB L.length (by omega)
    rw [List.take_of_length_le (by omega),e,lY L h4] at O
    have HO:=Lib.hid O;have HB:=Lib.hid hR.below;clear hR O e hl hle hs;go_wp2
    first
     | exact bodyPost_ret (results_none rfl _ _ _) rfl ⟨rfl,HO.out,HB.out⟩
     | (go_end0;exact ⟨rfl,HO.out,HB.out⟩)
