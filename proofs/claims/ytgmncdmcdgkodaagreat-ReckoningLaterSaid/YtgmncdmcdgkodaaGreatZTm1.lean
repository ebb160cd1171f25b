/- Reckoning: the reference's small functions of the times of arrival; its Right and Given. -/
import Derived.Test.YtgmncdmcdgkodaaGreatZRk6
import Derived.Test.YtgmncdmcdgkodaaGreatZRef1
set_option linter.unusedVariables false
set_option linter.unusedSimpArgs false
set_option maxRecDepth 100000
set_option maxHeartbeats 2000000
namespace Go.Proofs.YtgmncdmcdgkodaaGreat
open Go.RowKit Alm Sx
end Go.Proofs.YtgmncdmcdgkodaaGreat
namespace Go.Proofs.YtgmncdmcdgkodaaGreat
open Go.RowKit Alm Sx
def spB (al ah:Int):Bool:=decide (0<=al/\al<=ah/\ah<=200000)
def agB (al ah fl fh:Int) (L:List ag):Int:=if spB al ah=false then 1 else if tmB fl fh=false then 1 else eH L
theorem FP (L:List ag):eH L=0∨eH L=1∨eH L=4:=by
 unfold eH;split
 . exact .inr (.inl rfl)
 . split
   . exact .inr (.inr rfl)
   . exact .inl rfl
theorem Gv {L:List ag} (h:eH L=0):(∀ l∈L,l.rgt=true)/\L.length<=60:=by
 unfold eH at h;split at h
 . cases h
 . rename_i q
   split at h
   . cases h
   . exact ⟨List.all_eq_true.1 (by cases hA:L.all ag.rgt<;>simp_all),by omega⟩
theorem yH (a:Option Addr) (cap:Nat) (L:List ag) (al ah fl fh:Int) (w:World) (hL:bG w a L) (hn:L.length<=100) (hb:agB al ah fl fh L≠0) :
 Calls Tryz.prog 8 #[.slice a L.length cap,.agg #[.int .i64 al,.int .i64 ah],.agg #[.int .i64 fl,.int .i64 fh]] w fun e w'=>e=.returned (.tuple #[.slice none 0 0,.int .i64 (agB al ah fl fh L)])/\Below w.heap.size w w':=by
 have HL:=Lib.hid hL;clear hL;have CS:=Lib.hid (fun w=>pq al ah w)
 have CT:=Lib.hid (fun w=>ma fl fh w)
 have CG:Hid (∀ wr:World,Below w.heap.size w wr->Calls Tryz.prog 27 #[.slice a L.length cap] wr fun e w'=>e=.returned (.int .i64 (eH L))/\Below wr.heap.size wr w'):=Lib.hid (fun wr hb=>gH a cap L wr (HL.out.below hb) hn)
 have K0:=Lib.hid (((au w).new w.heap.size rfl 23 #[.int .i64 al,.int .i64 ah]).new (w.heap.size+1) (by simp) 26 #[.int .i64 fl,.int .i64 fh])
 have GB:=Lib.hid (FP L);change Hid (∀ w,Calls _ _ _ w fun e w'=>e=.returned (.bool (spB al ah))/\Below w.heap.size w w') at CS
 unfold agB at *
 generalize spB al ah=x at *
 generalize tmB fl fh=y at *
 generalize eH L=g at *
 go_enter Tryz.func8,Tryz.ntmps8;go_wp2_with fail;refine (CS.out _).mono ?_;rintro e w1 ⟨rfl,hb1⟩;have K1:=Lib.hid (K0.out.below hb1);clear hb1 K0 CS;have t0:=K1.out.c (g:=w.heap.size+1) (t:=26) (cs:=#[.int .i64 fl,.int .i64 fh]) (by simp) (i:=0) (v:=.int .i64 fl) rfl
 have t1:=K1.out.c (g:=w.heap.size+1) (t:=26) (cs:=#[.int .i64 fl,.int .i64 fh]) (by simp) (i:=1) (v:=.int .i64 fh) rfl
 cases x
 . go_wp2;refine bodyPost_ret (by simp [results,Tryz.results8,go_sem];try rfl) rfl ⟨by first|rfl|(simp;done)|(simp;rfl),K1.out.1⟩
 . go_wp2_with fail;refine (CT.out _).mono ?_;rintro e w2 ⟨rfl,hb2⟩;have K2:=Lib.hid (K1.out.below hb2);clear hb2 K1 CT t0 t1;cases y
   . go_wp2;refine bodyPost_ret (by simp [results,Tryz.results8,go_sem];try rfl) rfl ⟨by first|rfl|(simp;done)|(simp;rfl),K2.out.1⟩
   . simp only [if_neg,Bool.true_eq_false,if_false,Bool.false_eq_true,reduceCtorEq,↓reduceIte] at hb ⊢
     go_wp2_with fail;refine (CG.out _ K2.out.1).mono ?_;rintro e w3 ⟨rfl,hb3⟩;have K3:=Lib.hid (K2.out.below hb3);clear hb3 K2 CG;rcases GB.out with h|h|h
     . exact absurd h hb
     . subst h;go_wp2;refine bodyPost_ret (by simp [results,Tryz.results8,go_sem];try rfl) rfl ⟨by first|rfl|(simp;done)|(simp;rfl),K3.out.1⟩
     . subst h;go_wp2;refine bodyPost_ret (by simp [results,Tryz.results8,go_sem];try rfl) rfl ⟨by first|rfl|(simp;done)|(simp;rfl),K3.out.1⟩
theorem nk (a:Option Addr) (cap:Nat) (L:List ag) (ah fl fh:Int) (w:World) (hL:bG w a L) (hn:L.length<=100) (hb:agB 0 ah fl fh L=0) :
 Calls Tryz.prog 8 #[.slice a L.length cap,.agg #[.int .i64 0,.int .i64 ah],.agg #[.int .i64 fl,.int .i64 fh]] w fun e w'=>e=.returned (.tuple #[.slice none 0 0,.int .i64 16])/\Below w.heap.size w w':=by
 have HL:=Lib.hid hL;clear hL
 have hx:spB 0 ah=true/\tmB fl fh=true/\eH L=0:=by
  unfold agB at hb;cases h1:spB 0 ah
  . rw [h1] at hb;simp at hb
  . cases h2:tmB fl fh
    . rw [h1,h2] at hb;simp at hb
    . rw [h1,h2] at hb;simp at hb;exact ⟨rfl,rfl,hb⟩
 have CS:Hid (∀ w,Calls Tryz.prog 25 #[.agg #[.int .i64 0,.int .i64 ah]] w fun e w'=>e=.returned (.bool true)/\Below w.heap.size w w'):=Lib.hid (fun w=>by have:=pq 0 ah w;rw [show decide ((0:Int)<=0/\0<=ah/\ah<=200000)=true from hx.1] at this;exact this)
 have CT:=Lib.hid (fun w=>ma fl fh w)
 rw [hx.2.1] at CT;have CG:Hid (∀ wr:World,Below w.heap.size w wr->Calls Tryz.prog 27 #[.slice a L.length cap] wr fun e w'=>e=.returned (.int .i64 0)/\Below wr.heap.size wr w'):=Lib.hid (fun wr hb=>by have:=gH a cap L wr (HL.out.below hb) hn;rw [hx.2.2] at this;exact this)
 clear hb hx;have K0:=Lib.hid (((au w).new w.heap.size rfl 23 #[.int .i64 0,.int .i64 ah]).new (w.heap.size+1) (by simp) 26 #[.int .i64 fl,.int .i64 fh])
 go_enter Tryz.func8,Tryz.ntmps8;go_wp2_with fail;refine (CS.out _).mono ?_;rintro e w1 ⟨rfl,hb1⟩;have K1:=Lib.hid (K0.out.below hb1);clear hb1 K0 CS;have t0:=K1.out.c (g:=w.heap.size+1) (t:=26) (cs:=#[.int .i64 fl,.int .i64 fh]) (by simp) (i:=0) (v:=.int .i64 fl) rfl
 have t1:=K1.out.c (g:=w.heap.size+1) (t:=26) (cs:=#[.int .i64 fl,.int .i64 fh]) (by simp) (i:=1) (v:=.int .i64 fh) rfl
 go_wp2_with fail;refine (CT.out _).mono ?_;rintro e w2 ⟨rfl,hb2⟩;have K2:=Lib.hid (K1.out.below hb2);clear hb2 K1 CT t0 t1;go_wp2_with fail;refine (CG.out _ K2.out.1).mono ?_;rintro e w3 ⟨rfl,hb3⟩;have K3:=Lib.hid (K2.out.below hb3);clear hb3 K2 CG;have s0:=K3.out.c (g:=w.heap.size) (t:=23) (cs:=#[.int .i64 0,.int .i64 ah]) (by simp) (i:=0) (v:=.int .i64 0) rfl
 go_wp2;refine bodyPost_ret (by simp [results,Tryz.results8,go_sem];try rfl) rfl ⟨rfl,K3.out.1⟩
