/- The law on the legs of composite sailing. -/
import Derived.Test.YtknhbpnclokciaaGreatZRwL
import Derived.Test.YtknhbpnclokciaaGreatZComX
set_option linter.unusedVariables false
set_option linter.unusedSimpArgs false
set_option maxRecDepth 100000
set_option maxHeartbeats 8000000
namespace Go.Proofs.YtknhbpnclokciaaGreat
open Go.RowKit Alm Sx
theorem UG (a:Option Addr) (cap:Nat) (L:Cs) (l:Int) (w:World) (hL:SlI 2 w a L):Calls Tryz.prog 4 #[.slice a L.length cap,.int .i64 l] w fun e w'=>e=.returned (.bool true)/\Below w.heap.size w w':=by
 have HL:=Lib.hid hL;clear hL
 by_cases h1:L.length>100
 . have g1:(L.length:Int)>100:=by omega
   have g2:(L.length:Int)>6:=by omega
   have g3:¬ (L.length:Int)<=60:=by omega
   go_enter Tryz.func4,Tryz.ntmps4;go_wp2_with fail;refine (gF _).mono ?_;rintro e w1 ⟨rfl,hb⟩;have HB:=Lib.hid hb;clear hb HL;go_wp2;go_ret;exact ⟨rfl,HB.out⟩
 . have g1:¬ (L.length:Int)>100:=by omega
   by_cases h2:L.length>6/\L.length<=60
   . have g2:(L.length:Int)>6:=by omega
     have g3:(L.length:Int)<=60:=by omega
     go_enter Tryz.func4,Tryz.ntmps4;go_wp2_with fail;refine (gF _).mono ?_;rintro e w1 ⟨rfl,hb⟩;have HB:=Lib.hid hb;clear hb HL;go_wp2;go_ret;exact ⟨rfl,HB.out⟩
   . have CP:=Lib.hid (fun w hS=>BR a cap L l w hS (by omega))
     have CR:=Lib.hid (fun w hS=>KO a cap L l w hS (by omega))
     have hR:(gL l L).length<=100:=by
      unfold gL;split
      . simp
      . rw [kN];omega
     have h3:¬ (L.length:Int)>6∨¬ (L.length:Int)<=60:=by omega
     generalize gL l L=R at *
     generalize gM l L=E at *
     rcases h3 with g2|g3
     all_goals
      go_enter Tryz.func4,Tryz.ntmps4;go_wp2_with fail;refine (gF _).mono ?_;rintro e w1 ⟨rfl,hb⟩;have HB:=Lib.hid hb;have H1:=Lib.hid (HL.out.below hb);clear hb HL;go_wp2_with fail;refine (CP.out _ H1.out).mono ?_;rintro e w2 ⟨⟨u,rfl,O⟩,hb⟩;obtain ⟨ad1,cap1,rfl,_,_,S1,_⟩:=O.out (by decide)
      have HB2:Hid (Below w.heap.size w w2):=Lib.hid (HB.out.trans (hb.mono HB.out.size));have H2:=Lib.hid (H1.out.below hb);have T1:=Lib.hid S1;clear hb HB H1 O S1 CP;go_wp2_with fail;refine (CR.out _ H2.out).mono ?_;rintro e w3 ⟨⟨u,rfl,O⟩,hb⟩;obtain ⟨ad2,cap2,rfl,_,_,S2,_⟩:=O.out (by decide)
      have HB3:Hid (Below w.heap.size w w3):=Lib.hid (HB2.out.trans (hb.mono HB2.out.size))
      have CE:Hid (Calls Tryz.prog 20 #[.slice ad1 R.length cap1,.slice ad2 R.length cap2] w3 fun e w'=>e=.returned (.bool true)/\Below w3.heap.size w3 w'):=Lib.hid (by
       have:=Qs ad1 ad2 cap1 cap2 R R w3 (T1.out.below hb) S2 (by omega) (by omega)
       rw [decide_eq_true rfl] at this;exact this)
      clear hb HB2 H2 T1 O S2 CR;go_wp2_with fail;refine CE.out.mono ?_;rintro e w4 ⟨rfl,hb⟩;have HB4:Hid (Below w.heap.size w w4):=Lib.hid (HB3.out.trans (hb.mono HB3.out.size));clear hb HB3 CE;go_wp2;go_ret;exact ⟨by first|rfl|simp,HB4.out⟩
