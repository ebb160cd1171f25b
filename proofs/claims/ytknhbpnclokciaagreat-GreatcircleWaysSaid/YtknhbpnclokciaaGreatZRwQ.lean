/- What the model knows of slices of plc; the contract of Equal. -/
import Derived.Test.YtknhbpnclokciaaGreatZRw
import Derived.Deep.QuietTactic
import Derived.BigQuiet
import Derived.Deep.Light
set_option linter.unusedVariables false
set_option linter.unusedSimpArgs false
set_option maxRecDepth 100000
set_option maxHeartbeats 4000000
namespace Go.Proofs.YtknhbpnclokciaaGreat
open Go.RowKit Sx
theorem abx:aaS Tryz.prog 69 76 4 32:=abC Tryz.underlying69 (by kernel_rfl) (by decide) (by decide)
theorem adi (a b:List Int) (ha:a.length=4) (hb:b.length=4) (w:World):(binOp .eql 76 (.agg ⟨a.map (Value.int .i64)⟩) (.agg ⟨b.map (Value.int .i64)⟩)).run Tryz.prog w=.ok (.bool (decide (a=b))) w/\(binOp .neq 76 (.agg ⟨a.map (Value.int .i64)⟩) (.agg ⟨b.map (Value.int .i64)⟩)).run Tryz.prog w=.ok (.bool (!decide (a=b))) w :=
 abt (by kernel_rfl) (by kernel_rfl) a b ha hb w
theorem abH (a b:Option Addr) (c1 c2:Nat) (L M:aej) (w:World) (hL:SlI 4 w a L) (hM:SlI 4 w b M) (hn:L.length<=1000) (hm:M.length<=1000) :
 Calls Tryz.prog 40 #[.slice a L.length c1,.slice b M.length c2] w fun e w'=>e=.returned (.bool (decide (L=M)))/\Below w.heap.size w w':=by
 have HL:=Lib.hid hL;have HM:=Lib.hid hM;clear hL hM
 by_cases hlen:L.length=M.length
 . rw [<-hlen];go_enter Tryz.func40,Tryz.ntmps40;go_wp2;go_loopw [13] (fun v wr=>∃ i:Nat,v=.int .i64 (i:Int)/\i<=L.length/\(∀ j,j<i->L[j]? = M[j]?)/\Below w.heap.size w wr) (fun v _=>((L.length:Int)-intOf v).toNat)
   case atStart =>
    exact ⟨0,rfl,by omega,fun j hj=>by omega,Below.refl _ _⟩
   case round =>
    obtain ⟨i,rfl,hi,hs,hb⟩:=hrel;have HB:=Lib.hid hb;clear hb
    by_cases hl:i<L.length
    . rcases HL.out.below HB.out with h0|⟨p,off,rfl,hR⟩
      . rw [h0] at hl;simp at hl
      . rcases HM.out.below HB.out with h0|⟨q,off2,rfl,hR2⟩
        . have hl3:=hl;rw [hlen,h0] at hl3;simp at hl3
        . obtain ⟨x,y,z,t,hx,c0,c1,c2,c3⟩:=hR.at4 i hl;obtain ⟨u,v,p,q,hu,d0,d1,d2,d3⟩:=hR2.at4 i (by omega)
          have hl':(i:Int)<(L.length:Int):=by omega
          have him:i<M.length:=by omega
          have FIN:Hid (L[i]=M[i]->∀ j,j<i+1->L[j]? = M[j]?):=by
           intro h j hji
           by_cases e:j<i
           . exact hs j e
           . obtain rfl:j=i:=by omega
             rw [List.getElem?_eq_getElem hl,List.getElem?_eq_getElem him,h]
          have FIN2:Hid (L[i]≠M[i]->decide (L=M)=false):=by
           intro h;refine decide_eq_false fun e=>h ?_
           subst e;rfl
          clear hs;rw [hx,hu] at FIN FIN2;clear hR hR2 HL HM;have E:=fun w=>(adi [x,y,z,t] [u,v,p,q] rfl rfl w).2
          by_cases he:[x,y,z,t]=[u,v,p,q]
          . have E2:∀ w,(binOp .neq 76 (.agg #[.int .i64 x,.int .i64 y,.int .i64 z,.int .i64 t]) (.agg #[.int .i64 u,.int .i64 v,.int .i64 p,.int .i64 q])).run Tryz.prog w=.ok (.bool false) w:=fun w=>by
             have:=E w;rw [decide_eq_true he] at this;exact this
            clear E;go_wp2_with fail;go_quiet (fail);go_wp2;go_light;exact ⟨⟨i+1,by rw [show ((i+1:Nat):Int)=(i:Int)+1 by omega],by omega,FIN.out he,below_drewN HB.out _⟩,by simp only [intOf];omega⟩
          . have E2:∀ w,(binOp .neq 76 (.agg #[.int .i64 x,.int .i64 y,.int .i64 z,.int .i64 t]) (.agg #[.int .i64 u,.int .i64 v,.int .i64 p,.int .i64 q])).run Tryz.prog w=.ok (.bool true) w:=fun w=>by
             have:=E w;rw [decide_eq_false he] at this;exact this
            clear E;have R:=Lib.hid (FIN2.out he);clear he;go_wp2_with fail;go_quiet (fail);go_wp2;go_ret;exact ⟨by rw [R.out];first|done|rfl,below_drewN HB.out _⟩
    . have hl':¬ (i:Int)<(L.length:Int):=by omega
      have R:Hid (decide (L=M)=true):=decide_eq_true (List.ext_getElem? fun j=>by
       by_cases h:j<i
       . exact hs j h
       . rw [List.getElem?_eq_none (by omega),List.getElem?_eq_none (by omega)])
      clear hs;go_wp2;go_ret;exact ⟨by rw [R.out];first|done|rfl,HB.out⟩
 . have R:Hid (decide (L=M)=false):=decide_eq_false fun e=>hlen (by rw [e])
   have hlen':¬ (L.length:Int)=(M.length:Int):=by omega
   go_enter Tryz.func40,Tryz.ntmps40;go_wp2;go_ret;exact ⟨by rw [R.out];first|done|rfl,by go_grown⟩
