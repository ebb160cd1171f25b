/- Reckoning: which legs are right; the error number of a passage. -/
import Derived.Test.YtgmncdmcdgkodaaGreatZSumM
set_option linter.unusedVariables false
set_option linter.unusedSimpArgs false
set_option maxRecDepth 100000
set_option maxHeartbeats 2000000
namespace Go.Proofs.YtgmncdmcdgkodaaGreat
open Go.RowKit Alm
def ag.rgt (l:ag):Bool:=aC l.cl l.ch&&decide (0<=l.dl/\l.dl<=l.dh/\l.dh<=21600000)
theorem Ed (l:ag) (w:World) :
 Calls Tryz.prog 47 #[.agg #[.int .i64 l.cl,.int .i64 l.ch,.int .i64 l.dl,.int .i64 l.dh]] w fun e w'=>e=.returned (.bool (!l.rgt))/\Below w.heap.size w w':=by
 have C1:=Lib.hid (fun w=>bX l.cl l.ch w)
 have e1:(!l.rgt)=(!(aC l.cl l.ch) || (decide (l.dl<0) || (decide (l.dl>l.dh) || decide (l.dh>21600000)))):=by unfold ag.rgt;rw [Bool.eq_iff_iff];simp;try omega
 rw [e1];clear e1;obtain ⟨cl,ch,dl,dh⟩:=l;simp only [] at *
 generalize aC cl ch=U at *
 have PA:=Lib.hid (gB w 35 #[.int .i64 cl,.int .i64 ch,.int .i64 dl,.int .i64 dh]);go_enter Tryz.func47,Tryz.ntmps47;go_wp2_with fail;refine (C1.out _).mono ?_;rintro e w1 ⟨rfl,hb1⟩;have H1:=Lib.hid hb1;clear hb1;have PA1:=Lib.hid (PA.out.below H1.out (by go_light;simp))
 have HB1:Hid (Below w.heap.size w w1):=((Below.refl _ _).alloc (Nat.le_refl _) _).trans (H1.out.mono (by go_light;simp))
 have p2:=PA1.out.cell 2;have p3:=PA1.out.cell 3;simp at p2 p3;clear PA C1;cases U
 . go_wp2
   all_goals
    go_ret;exact ⟨rfl,HB1.out⟩
 . go_wp2
   all_goals
    go_ret;exact ⟨bV (by first|(simp<;>omega)|(simp_all<;>omega)|(rw [Bool.eq_iff_iff];simp;done)|(rw [Bool.eq_iff_iff];simp;omega)|rfl),HB1.out⟩
theorem Ex (a:Option Addr) (cap:Nat) (L:List ag) (w:World) (hL:bG w a L) (hn:L.length<=100) :
 Calls Tryz.prog 67 #[.slice a L.length cap,.func (.func 47) #[] #[]] w fun e w'=>(∃ r:Int,e=.returned (.int .i64 r)/\-1<=r/\(0<=r↔L.all ag.rgt=false))/\Below w.heap.size w w':=by
 have HL:=Lib.hid hL;clear hL;go_enter Tryz.func67,Tryz.ntmps67;go_wp2;go_loopw [8] (fun v wr=>∃ i:Nat,v=.int .i64 (i:Int)/\i<=L.length/\(∀ j (h:j<L.length),j<i->L[j].rgt=true)/\Below w.heap.size w wr) (fun v _=>((L.length:Int)-intOf v).toNat)
 case atStart =>
  exact ⟨0,rfl,by omega,fun j h hj=>by omega,Below.refl _ _⟩
 case round =>
  obtain ⟨i,rfl,hi,hs,hb⟩:=hrel;have HB:=Lib.hid hb;clear hb
  by_cases hl:i<L.length
  . have hLw:=HL.out.below HB.out;rcases hLw with h0|⟨b,off,rfl,hR⟩
    . rw [h0] at hl;simp at hl
    . obtain ⟨c0,c1,c2,c3⟩:=hR.2 i hl;have hS:=Lib.hid hs;clear hs;have C:=Lib.hid (fun w=>Ed L[i] w)
      have hl':(i:Int)<(L.length:Int):=by omega
      have FIN:Hid (L[i].rgt=true->∀ j (h:j<L.length),j<i+1->L[j].rgt=true):=by
       intro h j hj hji
       by_cases e:j<i
       . exact hS.out j hj e
       . obtain rfl:j=i:=by omega
         exact h
      have FIN2:Hid (L[i].rgt=false->L.all ag.rgt=false):=by
       intro h;cases hA:L.all ag.rgt
       . rfl
       . rw [List.all_eq_true] at hA;have:=hA _ (List.getElem_mem hl);rw [h] at this;cases this
      cases hsm:L[i].rgt
      . rw [hsm] at C FIN2;go_wp2_with fail;refine (C.out _).mono ?_;rintro e w1 ⟨rfl,hb1⟩;have HB1:Hid (Below w.heap.size w w1):=HB.out.trans (hb1.mono HB.out.size);clear hb1 c0 c1 c2 c3 hR HL HB C FIN hS;go_wp2;go_ret;exact ⟨⟨_,rfl,by omega,by first|(have:=FIN2.out trivial;simp only [this];simp;done)|exact ⟨fun _=>⟨L[i],List.getElem_mem hl,hsm⟩,fun _=>by omega⟩⟩,HB1.out⟩
      . rw [hsm] at C FIN;go_wp2_with fail;refine (C.out _).mono ?_;rintro e w1 ⟨rfl,hb1⟩;have HB1:Hid (Below w.heap.size w w1):=HB.out.trans (hb1.mono HB.out.size);clear hb1 c0 c1 c2 c3 hR HL HB C FIN2 hS;go_wp2;go_light;exact ⟨⟨i+1,by rw [show ((i+1:Nat):Int)=(i:Int)+1 by omega],by omega,FIN.out trivial,HB1.out⟩,by simp only [intOf];omega⟩
  . have hl':¬ (i:Int)<(L.length:Int):=by omega
    have hA:L.all ag.rgt=true:=by
     rw [List.all_eq_true];intro x hx;obtain ⟨j,hj,rfl⟩:=List.getElem_of_mem hx;exact hs j hj (by omega)
    have HA:=Lib.hid hA;clear hs hl hi hA;go_wp2;go_ret;exact ⟨⟨_,rfl,by omega,by first|(rw [HA.out];simp)|exact ⟨fun h=>by omega,fun ⟨x,hx,h⟩=>by have:=List.all_eq_true.1 HA.out x hx;rw [h] at this;cases this⟩⟩,HB.out⟩
theorem Ei (a:Option Addr) (cap:Nat) (L:List ag) (w:World) (hL:bG w a L) (hn:L.length<=100) :
 Calls Tryz.prog 46 #[.slice a L.length cap,.func (.func 47) #[] #[]] w fun e w'=>e=.returned (.bool (!L.all ag.rgt))/\Below w.heap.size w w':=by
 have C:=Lib.hid (Ex a cap L w hL hn);clear hL;go_enter Tryz.func46,Tryz.ntmps46;go_wp2_with fail;refine C.out.mono ?_;rintro e w1 ⟨⟨r,rfl,hr0,hr⟩,hb⟩;have HB:=Lib.hid hb;clear hb
 by_cases h:0<=r
 . have h1:=Lib.hid (hr.1 h);clear hr C;go_wp2;go_ret;exact ⟨by rw [h1.out];rfl,HB.out⟩
 . have h1:Hid (L.all ag.rgt=true):=by
    cases hA:L.all ag.rgt
    . exact absurd (hr.2 hA) h
    . exact Lib.hid rfl
   clear hr C;have hd:decide (0<=r)=false:=by simpa using h
   go_wp2;go_ret;exact ⟨by rw [h1.out];first|rfl|(show Ending.returned (.bool (decide (0<=r)))=_;rw [hd];rfl),HB.out⟩
def eH (L:List ag):Int:=if L.all ag.rgt=false then 1 else if 60<L.length then 4 else 0
theorem gH (a:Option Addr) (cap:Nat) (L:List ag) (w:World) (hL:bG w a L) (hn:L.length<=100) :
 Calls Tryz.prog 27 #[.slice a L.length cap] w fun e w'=>e=.returned (.int .i64 (eH L))/\Below w.heap.size w w':=by
 have C:=Lib.hid (Ei a cap L w hL hn);have e:eH L=if (!L.all ag.rgt)=true then 1 else if 60<L.length then 4 else 0:=by unfold eH;cases L.all ag.rgt<;>simp
 rw [e];clear e hL;generalize L.all ag.rgt=U at *
 go_enter Tryz.func27,Tryz.ntmps27;go_wp2_with fail;refine C.out.mono ?_;rintro e w1 ⟨rfl,hb⟩;have HB:=Lib.hid hb;clear hb C;cases U
 . go_wp2;go_ret;exact ⟨rfl,HB.out⟩
 . by_cases h:60<L.length
   . have h':(60:Int)<(L.length:Int):=by omega
     go_wp2;go_ret;exact ⟨by simp [h],HB.out⟩
   . have h':¬ (60:Int)<(L.length:Int):=by omega
     go_wp2;go_ret;exact ⟨by simp [h],HB.out⟩
