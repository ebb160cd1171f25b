/- The law CurrentFinds: currents are found again. -/
import Derived.Test.YtmldbeipmappnaaZCfT
import Derived.Test.YtmldbeipmappnaaZTrn
set_option linter.unusedVariables false
set_option linter.unusedSimpArgs false
set_option maxRecDepth 100000
set_option maxHeartbeats 8000000
namespace Go.Proofs.Ytmldbeipmappnaa
open Go.RowKit Alm Sx
theorem aa6 {a b l h p q u w:Int} (h1:MV a b l h) (h2:MV p q u w) (M F:List Int) (hM:M=mgV a b l h p q u w) (hF:F=foV a b l h (M.getD 0 0) (M.getD 1 0) (M.getD 2 0) (M.getD 3 0)) :
 M=[0,0,0,0,5]∨(M.getD 4 0=0/\(F=[0,0,0,0,5]∨(F.getD 4 0=0/\(0<=F.getD 0 0/\F.getD 0 0<=21599999/\F.getD 0 0<=F.getD 1 0/\F.getD 1 0<=F.getD 0 0+21600000)/\(F.getD 2 0<=u/\w<=F.getD 3 0)/\((F.getD 0 0=0/\F.getD 1 0=21600000)∨(F.getD 1 0-F.getD 0 0<=10800001/\(p-F.getD 0 0)%21600000+(q-p)<=F.getD 1 0-F.getD 0 0))))):=by
 have e1:mgV a b l h p q u w=jnV (coS (paV a b l h) (paV p q u w)):=if_pos ⟨h1,h2⟩;rw [e1] at hM;have B1:=xX (a:=a) (b:=b) h1.2.1 h1.2.2.1;have B2:=xX (a:=p) (b:=q) h2.2.1 h2.2.2.1;have v1:=h1.2;have v2:=h2.2
 by_cases c:0<=(coS (paV a b l h) (paV p q u w)).getD 2 0/\(coS (paV a b l h) (paV p q u w)).getD 2 0<=(coS (paV a b l h) (paV p q u w)).getD 3 0/\(coS (paV a b l h) (paV p q u w)).getD 3 0<=200000
 . right
   obtain ⟨j0,j1,j2,j3,j4⟩:=TW c;rw [<-hM] at j0 j1 j2 j3 j4;refine ⟨j4,?_⟩;rw [j0,j1,j2,j3] at hF;have bb:=iT (4096*((paV a b l h).getD 2 0+(paV p q u w).getD 2 0)) (4096*((paV a b l h).getD 3 0+(paV p q u w).getD 3 0)) (4096*((paV a b l h).getD 0 0+(paV p q u w).getD 0 0)) (4096*((paV a b l h).getD 1 0+(paV p q u w).getD 1 0))
   have mv:MV ((coS (paV a b l h) (paV p q u w)).getD 0 0) ((coS (paV a b l h) (paV p q u w)).getD 1 0) ((coS (paV a b l h) (paV p q u w)).getD 2 0) ((coS (paV a b l h) (paV p q u w)).getD 3 0):=by
    refine ⟨(cK _ _).2 ?_,c.1,c.2.1,c.2.2⟩;have z0:(coS (paV a b l h) (paV p q u w)).getD 0 0=aV (4096*((paV a b l h).getD 2 0+(paV p q u w).getD 2 0)) (4096*((paV a b l h).getD 3 0+(paV p q u w).getD 3 0)) (4096*((paV a b l h).getD 0 0+(paV p q u w).getD 0 0)) (4096*((paV a b l h).getD 1 0+(paV p q u w).getD 1 0)):=rfl;have z1:(coS (paV a b l h) (paV p q u w)).getD 1 0=bI (4096*((paV a b l h).getD 2 0+(paV p q u w).getD 2 0)) (4096*((paV a b l h).getD 3 0+(paV p q u w).getD 3 0)) (4096*((paV a b l h).getD 0 0+(paV p q u w).getD 0 0)) (4096*((paV a b l h).getD 1 0+(paV p q u w).getD 1 0)):=rfl;rw [z0,z1];omega
   have e2:foV a b l h ((coS (paV a b l h) (paV p q u w)).getD 0 0) ((coS (paV a b l h) (paV p q u w)).getD 1 0) ((coS (paV a b l h) (paV p q u w)).getD 2 0) ((coS (paV a b l h) (paV p q u w)).getD 3 0)=jnV (coD (paV ((coS (paV a b l h) (paV p q u w)).getD 0 0) ((coS (paV a b l h) (paV p q u w)).getD 1 0) ((coS (paV a b l h) (paV p q u w)).getD 2 0) ((coS (paV a b l h) (paV p q u w)).getD 3 0)) (paV a b l h)):=if_pos ⟨mv,h1⟩;rw [e2] at hF;have B3:=xX (a:=(coS (paV a b l h) (paV p q u w)).getD 0 0) (b:=(coS (paV a b l h) (paV p q u w)).getD 1 0) mv.2.1 mv.2.2.1;have v3:=mv.2;clear e2 bb j0 j1 j2 j3 j4 mv;generalize hS:coS (paV a b l h) (paV p q u w)=S at *
   by_cases k:0<=(coD (paV (S.getD 0 0) (S.getD 1 0) (S.getD 2 0) (S.getD 3 0)) (paV a b l h)).getD 2 0/\(coD (paV (S.getD 0 0) (S.getD 1 0) (S.getD 2 0) (S.getD 3 0)) (paV a b l h)).getD 2 0<=(coD (paV (S.getD 0 0) (S.getD 1 0) (S.getD 2 0) (S.getD 3 0)) (paV a b l h)).getD 3 0/\(coD (paV (S.getD 0 0) (S.getD 1 0) (S.getD 2 0) (S.getD 3 0)) (paV a b l h)).getD 3 0<=200000
   . right
     obtain ⟨j0,j1,j2,j3,j4⟩:=TW k;rw [<-hF] at j0 j1 j2 j3 j4;have H:=Cr h1 h2 S (coD (paV (S.getD 0 0) (S.getD 1 0) (S.getD 2 0) (S.getD 3 0)) (paV a b l h)) hS.symm rfl c.1 c.2.1 c.2.2 ⟨by omega,by omega⟩ ⟨by omega,by omega⟩
     have bb:=iT (4096*((paV (S.getD 0 0) (S.getD 1 0) (S.getD 2 0) (S.getD 3 0)).getD 2 0-(paV a b l h).getD 3 0)) (4096*((paV (S.getD 0 0) (S.getD 1 0) (S.getD 2 0) (S.getD 3 0)).getD 3 0-(paV a b l h).getD 2 0)) (4096*((paV (S.getD 0 0) (S.getD 1 0) (S.getD 2 0) (S.getD 3 0)).getD 0 0-(paV a b l h).getD 1 0)) (4096*((paV (S.getD 0 0) (S.getD 1 0) (S.getD 2 0) (S.getD 3 0)).getD 1 0-(paV a b l h).getD 0 0));rw [j0,j1,j2,j3];exact ⟨j4,bb,H.1,H.2⟩
   . left
     rw [hF];unfold jnV;rw [if_neg k]
 . left
   rw [hM];unfold jnV;rw [if_neg c]
def aG:List Nd:=[
 .arg 0,
 .arg 1,
 .arg 2,
 .arg 3,
 .arg 4,
 .arg 5,
 .arg 6,
 .arg 7,
 .app 20 0 [],
 .ite (.n 8) (.c 0) (.c 1),
 .ite (.n 9) (.c 0) (.c 1),
 .app 42 0 [.n 0,.n 1,.n 2,.n 3],
 .ite (.n 11) (.c 0) (.c 1),
 .app 42 0 [.n 4,.n 5,.n 6,.n 7],
 .ite (.n 13) (.c 0) (.c 1),
 .ite (.n 12) (.c 1) (.n 14),
 .ite (.n 15) (.c 0) (.c 1),
 .app 47 0 [.n 0,.n 1,.n 2,.n 3,.n 4,.n 5,.n 6,.n 7],
 .app 47 1 [.n 0,.n 1,.n 2,.n 3,.n 4,.n 5,.n 6,.n 7],
 .app 47 2 [.n 0,.n 1,.n 2,.n 3,.n 4,.n 5,.n 6,.n 7],
 .app 47 3 [.n 0,.n 1,.n 2,.n 3,.n 4,.n 5,.n 6,.n 7],
 .app 47 4 [.n 0,.n 1,.n 2,.n 3,.n 4,.n 5,.n 6,.n 7],
 .bin .neq .i64 (.n 21) (.c 0),
 .bin .eql .i64 (.n 21) (.c 5),
 .bin .eql .i64 (.n 17) (.c 0),
 .bin .eql .i64 (.n 18) (.c 0),
 .bin .eql .i64 (.n 19) (.c 0),
 .bin .eql .i64 (.n 20) (.c 0),
 .ite (.n 26) (.n 27) (.c 0),
 .ite (.n 25) (.n 28) (.c 0),
 .ite (.n 24) (.n 29) (.c 0),
 .ite (.n 23) (.n 30) (.c 0),
 .ite (.n 22) (.c 0) (.c 1),
 .app 48 0 [.n 0,.n 1,.n 2,.n 3,.n 17,.n 18,.n 19,.n 20],
 .app 48 1 [.n 0,.n 1,.n 2,.n 3,.n 17,.n 18,.n 19,.n 20],
 .app 48 2 [.n 0,.n 1,.n 2,.n 3,.n 17,.n 18,.n 19,.n 20],
 .app 48 3 [.n 0,.n 1,.n 2,.n 3,.n 17,.n 18,.n 19,.n 20],
 .app 48 4 [.n 0,.n 1,.n 2,.n 3,.n 17,.n 18,.n 19,.n 20],
 .bin .neq .i64 (.n 37) (.c 0),
 .bin .eql .i64 (.n 37) (.c 5),
 .bin .eql .i64 (.n 33) (.c 0),
 .bin .eql .i64 (.n 34) (.c 0),
 .bin .eql .i64 (.n 35) (.c 0),
 .bin .eql .i64 (.n 36) (.c 0),
 .ite (.n 42) (.n 43) (.c 0),
 .ite (.n 41) (.n 44) (.c 0),
 .ite (.n 40) (.n 45) (.c 0),
 .ite (.n 39) (.n 46) (.c 0),
 .ite (.n 38) (.c 0) (.c 1),
 .bin .leq .i64 (.n 33) (.n 34),
 .bin .geq .i64 (.n 33) (.c (-1099511627776)),
 .ite (.n 49) (.n 50) (.c 0),
 .bin .leq .i64 (.n 34) (.c 1099511627776),
 .ite (.n 51) (.n 52) (.c 0),
 .bin .sub .i64 (.n 34) (.n 33),
 .bin .geq .i64 (.n 54) (.c 21600000),
 .ite (.n 55) (.c 0) (.c 1),
 .bin .rem .i64 (.n 33) (.c 21600000),
 .bin .lss .i64 (.n 57) (.c 0),
 .bin .add .i64 (.n 57) (.c 21600000),
 .ite (.n 58) (.c 0) (.c 1),
 .ite (.n 58) (.n 59) (.n 57),
 .bin .add .i64 (.n 61) (.n 54),
 .ite (.n 55) (.c 0) (.n 61),
 .ite (.n 55) (.c 21600000) (.n 62),
 .bin .eql .i64 (.n 63) (.n 33),
 .bin .eql .i64 (.n 64) (.n 34),
 .ite (.n 65) (.n 66) (.c 0),
 .ite (.n 53) (.n 67) (.c 0),
 .bin .leq .i64 (.n 35) (.n 6),
 .bin .leq .i64 (.n 7) (.n 36),
 .ite (.n 69) (.n 70) (.c 0),
 .ite (.n 68) (.n 71) (.c 0),
 .bin .sub .i64 (.n 5) (.n 4),
 .bin .geq .i64 (.n 73) (.c 21600000),
 .ite (.n 74) (.c 0) (.c 1),
 .bin .rem .i64 (.n 4) (.c 21600000),
 .bin .lss .i64 (.n 76) (.c 0),
 .bin .add .i64 (.n 76) (.c 21600000),
 .ite (.n 77) (.c 0) (.c 1),
 .ite (.n 77) (.n 78) (.n 76),
 .bin .add .i64 (.n 80) (.n 73),
 .ite (.n 74) (.c 0) (.n 80),
 .ite (.n 74) (.c 21600000) (.n 81),
 .bin .sub .i64 (.n 83) (.n 82),
 .bin .geq .i64 (.n 84) (.c 21600000),
 .ite (.n 85) (.c 0) (.c 1),
 .bin .add .i64 (.n 82) (.c (-21600000)),
 .bin .add .i64 (.n 83) (.c (-21600000)),
 .bin .leq .i64 (.n 33) (.n 87),
 .bin .leq .i64 (.n 88) (.n 34),
 .ite (.n 89) (.n 90) (.c 0),
 .ite (.n 91) (.c 0) (.c 1),
 .bin .add .i64 (.n 82) (.c 0),
 .bin .add .i64 (.n 83) (.c 0),
 .bin .leq .i64 (.n 33) (.n 93),
 .bin .leq .i64 (.n 94) (.n 34),
 .ite (.n 95) (.n 96) (.c 0),
 .ite (.n 97) (.c 0) (.c 1),
 .bin .add .i64 (.n 82) (.c 21600000),
 .bin .add .i64 (.n 83) (.c 21600000),
 .bin .leq .i64 (.n 33) (.n 99),
 .bin .leq .i64 (.n 100) (.n 34),
 .ite (.n 101) (.n 102) (.c 0),
 .ite (.n 103) (.c 0) (.c 1),
 .ite (.n 98) (.n 103) (.c 0),
 .ite (.n 98) (.n 104) (.c 0),
 .ite (.n 97) (.c 1) (.n 105),
 .ite (.n 97) (.c (-1)) (.c 0),
 .ite (.n 97) (.c 0) (.c 21600000),
 .ite (.n 97) (.n 93) (.n 99),
 .ite (.n 97) (.n 94) (.n 100),
 .ite (.n 97) (.n 97) (.n 103),
 .ite (.n 92) (.n 107) (.c 0),
 .ite (.n 92) (.n 106) (.c 0),
 .ite (.n 91) (.c 1) (.n 113),
 .ite (.n 91) (.c (-1)) (.n 98),
 .ite (.n 91) (.c (-21600000)) (.n 109),
 .ite (.n 91) (.n 87) (.n 110),
 .ite (.n 91) (.n 88) (.n 111),
 .ite (.n 91) (.n 91) (.n 112),
 .ite (.n 115) (.c 1) (.n 114),
 .ite (.n 115) (.n 116) (.c 2),
 .ite (.n 115) (.n 116) (.c 1),
 .ite (.n 115) (.n 117) (.c 21600000),
 .ite (.n 115) (.n 118) (.n 99),
 .ite (.n 115) (.n 119) (.n 100),
 .ite (.n 115) (.n 120) (.n 103),
 .ite (.n 86) (.n 121) (.c 0),
 .ite (.n 85) (.c 1) (.n 128),
 .ite (.n 85) (.c 0) (.n 115),
 .ite (.n 56) (.n 129) (.c 0),
 .ite (.n 55) (.c 1) (.n 131),
 .ite (.n 55) (.c 1) (.n 130),
 .ite (.n 55) (.n 4) (.n 82),
 .ite (.n 55) (.n 5) (.n 83),
 .ite (.n 72) (.n 133) (.c 0),
 .ite (.n 38) (.n 47) (.n 136),
 .ite (.n 22) (.n 31) (.n 137),
 .ite (.n 15) (.c 1) (.n 138),
 .ite (.n 9) (.c 0) (.n 139)]
def Gx:List Vc:=[
 ⟨[],.pre 20 []⟩,
 ⟨[(.n 10,true)],.pre 42 [.n 0,.n 1,.n 2,.n 3]⟩,
 ⟨[(.n 10,true),(.n 12,false)],.pre 42 [.n 4,.n 5,.n 6,.n 7]⟩,
 ⟨[(.n 16,true),(.n 10,true)],.pre 47 [.n 0,.n 1,.n 2,.n 3,.n 4,.n 5,.n 6,.n 7]⟩,
 ⟨[(.n 32,true),(.n 16,true),(.n 10,true)],.pre 48 [.n 0,.n 1,.n 2,.n 3,.n 17,.n 18,.n 19,.n 20]⟩]
theorem QQ:whole Try.prog aaE 20 40 8 [(true,[some .i64,some .i64,some .i64,some .i64]),(true,[some .i64,some .i64,some .i64,some .i64])]=some (.p (.c (.bool (.n 140))),⟨aG.reverse,Gx.reverse⟩):=by kernel_rfl
theorem QD:wfN aG.reverse=true:=by kernel_rfl
theorem Vs {ar:List Int} {v:Nat->Int} (hs:aA (bQ ar) v aG.reverse):v 11=b2i (decide (MV (v 0) (v 1) (v 2) (v 3))):=ae hs 11 rfl
theorem Vm {ar:List Int} {v:Nat->Int} (hs:aA (bQ ar) v aG.reverse):v 13=b2i (decide (MV (v 4) (v 5) (v 6) (v 7))):=ae hs 13 rfl
theorem VS {ar:List Int} {v:Nat->Int} (hs:aA (bQ ar) v aG.reverse):v 17=(mgV (v 0) (v 1) (v 2) (v 3) (v 4) (v 5) (v 6) (v 7)).getD 0 0:=ae hs 17 rfl
theorem ZF {ar:List Int} {v:Nat->Int} (hs:aA (bQ ar) v aG.reverse):v 18=(mgV (v 0) (v 1) (v 2) (v 3) (v 4) (v 5) (v 6) (v 7)).getD 1 0:=ae hs 18 rfl
theorem WT {ar:List Int} {v:Nat->Int} (hs:aA (bQ ar) v aG.reverse):v 19=(mgV (v 0) (v 1) (v 2) (v 3) (v 4) (v 5) (v 6) (v 7)).getD 2 0:=ae hs 19 rfl
theorem aam {ar:List Int} {v:Nat->Int} (hs:aA (bQ ar) v aG.reverse):v 20=(mgV (v 0) (v 1) (v 2) (v 3) (v 4) (v 5) (v 6) (v 7)).getD 3 0:=ae hs 20 rfl
theorem XN {ar:List Int} {v:Nat->Int} (hs:aA (bQ ar) v aG.reverse):v 21=(mgV (v 0) (v 1) (v 2) (v 3) (v 4) (v 5) (v 6) (v 7)).getD 4 0:=ae hs 21 rfl
theorem Vp {ar:List Int} {v:Nat->Int} (hs:aA (bQ ar) v aG.reverse):v 33=(foV (v 0) (v 1) (v 2) (v 3) (v 17) (v 18) (v 19) (v 20)).getD 0 0:=ae hs 33 rfl
theorem WE {ar:List Int} {v:Nat->Int} (hs:aA (bQ ar) v aG.reverse):v 34=(foV (v 0) (v 1) (v 2) (v 3) (v 17) (v 18) (v 19) (v 20)).getD 1 0:=ae hs 34 rfl
theorem XP {ar:List Int} {v:Nat->Int} (hs:aA (bQ ar) v aG.reverse):v 35=(foV (v 0) (v 1) (v 2) (v 3) (v 17) (v 18) (v 19) (v 20)).getD 2 0:=ae hs 35 rfl
theorem abe {ar:List Int} {v:Nat->Int} (hs:aA (bQ ar) v aG.reverse):v 36=(foV (v 0) (v 1) (v 2) (v 3) (v 17) (v 18) (v 19) (v 20)).getD 3 0:=ae hs 36 rfl
theorem Yh {ar:List Int} {v:Nat->Int} (hs:aA (bQ ar) v aG.reverse):v 37=(foV (v 0) (v 1) (v 2) (v 3) (v 17) (v 18) (v 19) (v 20)).getD 4 0:=ae hs 37 rfl
theorem adY {ar:List Int} {v:Nat->Int}:∀ c∈Gx,c.holds (bQ ar) v :=
 ag (fun _=>trivial) (ag (fun _=>trivial) (ag (fun _=>trivial) (ag (fun _=>trivial) (ag (fun _=>trivial) (bN)))))
theorem I4 {ar:List Int} {v:Nat->Int} (hs:aA (bQ ar) v aG.reverse) (k11:v 11=0):v 140=1:=by
 refine ak (X:=bQ ar) (v:=v) (l:=aG) (jh _) hs (k:=140) (r:=.c 1) (ps:=[(11,.c 0)]) (nz:=[]) ?_ az (by kernel_rfl)
 intro y hy;simp only [List.mem_cons,List.not_mem_nil,or_false] at hy;rcases hy with rfl<;>assumption
theorem KP {ar:List Int} {v:Nat->Int} (hs:aA (bQ ar) v aG.reverse) (k11:v 11=1) (k13:v 13=0):v 140=1:=by
 refine ak (X:=bQ ar) (v:=v) (l:=aG) (jh _) hs (k:=140) (r:=.c 1) (ps:=[(11,.c 1),(13,.c 0)]) (nz:=[]) ?_ az (by kernel_rfl)
 intro y hy;simp only [List.mem_cons,List.not_mem_nil,or_false] at hy;rcases hy with rfl|rfl<;>assumption
theorem KI {ar:List Int} {v:Nat->Int} (hs:aA (bQ ar) v aG.reverse) (k11:v 11=1) (k13:v 13=1) (k17:v 17=0) (k18:v 18=0) (k19:v 19=0) (k20:v 20=0) (k21:v 21=5):v 140=1:=by
 refine ak (X:=bQ ar) (v:=v) (l:=aG) (jh _) hs (k:=140) (r:=.c 1) (ps:=[(11,.c 1),(13,.c 1),(17,.c 0),(18,.c 0),(19,.c 0),(20,.c 0),(21,.c 5)]) (nz:=[]) ?_ az (by kernel_rfl)
 intro y hy;simp only [List.mem_cons,List.not_mem_nil,or_false] at hy;rcases hy with rfl|rfl|rfl|rfl|rfl|rfl|rfl<;>assumption
theorem KQ {ar:List Int} {v:Nat->Int} (hs:aA (bQ ar) v aG.reverse) (k11:v 11=1) (k13:v 13=1) (k21:v 21=0) (k33:v 33=0) (k34:v 34=0) (k35:v 35=0) (k36:v 36=0) (k37:v 37=5):v 140=1:=by
 refine ak (X:=bQ ar) (v:=v) (l:=aG) (jh _) hs (k:=140) (r:=.c 1) (ps:=[(11,.c 1),(13,.c 1),(21,.c 0),(33,.c 0),(34,.c 0),(35,.c 0),(36,.c 0),(37,.c 5)]) (nz:=[]) ?_ az (by kernel_rfl)
 intro y hy;simp only [List.mem_cons,List.not_mem_nil,or_false] at hy;rcases hy with rfl|rfl|rfl|rfl|rfl|rfl|rfl|rfl<;>assumption
theorem VT {ar:List Int} {v:Nat->Int} (hs:aA (bQ ar) v aG.reverse):v 49=b2i (decide (v 33<=v 34)):=ae hs 49 rfl
theorem VQ {ar:List Int} {v:Nat->Int} (hs:aA (bQ ar) v aG.reverse):v 50=b2i (decide (v 33>=-1099511627776)):=ae hs 50 rfl
theorem Vo {ar:List Int} {v:Nat->Int} (hs:aA (bQ ar) v aG.reverse):v 52=b2i (decide (v 34<=1099511627776)):=ae hs 52 rfl
theorem NI {ar:List Int} {v:Nat->Int} (hs:aA (bQ ar) v aG.reverse):v 54=IntKind.i64.wrap (v 34-v 33):=ae hs 54 rfl
theorem Ey {ar:List Int} {v:Nat->Int} (hs:aA (bQ ar) v aG.reverse):v 55=b2i (decide (v 54>=(21600000:Int))):=ae hs 55 rfl
theorem Wo {ar:List Int} {v:Nat->Int} (hs:aA (bQ ar) v aG.reverse):v 57=Int.tmod (v 33) ((21600000:Int)):=ae hs 57 rfl
theorem UV {ar:List Int} {v:Nat->Int} (hs:aA (bQ ar) v aG.reverse):v 58=b2i (decide (v 57<(0:Int))):=ae hs 58 rfl
theorem Zm {ar:List Int} {v:Nat->Int} (hs:aA (bQ ar) v aG.reverse):v 59=IntKind.i64.wrap (v 57+(21600000:Int)):=ae hs 59 rfl
theorem aak {ar:List Int} {v:Nat->Int} (hs:aA (bQ ar) v aG.reverse):v 61=if v 58≠0 then v 59 else v 57:=ae hs 61 rfl
theorem X5 {ar:List Int} {v:Nat->Int} (hs:aA (bQ ar) v aG.reverse):v 62=IntKind.i64.wrap (v 61+v 54):=ae hs 62 rfl
theorem Xa {ar:List Int} {v:Nat->Int} (hs:aA (bQ ar) v aG.reverse):v 63=if v 55≠0 then (0:Int) else v 61:=ae hs 63 rfl
theorem Zq {ar:List Int} {v:Nat->Int} (hs:aA (bQ ar) v aG.reverse):v 64=if v 55≠0 then (21600000:Int) else v 62:=ae hs 64 rfl
theorem WI {ar:List Int} {v:Nat->Int} (hs:aA (bQ ar) v aG.reverse):v 65=b2i (v 63==v 33):=ae hs 65 rfl
theorem aaQ {ar:List Int} {v:Nat->Int} (hs:aA (bQ ar) v aG.reverse):v 66=b2i (v 64==v 34):=ae hs 66 rfl
theorem Yc {ar:List Int} {v:Nat->Int} (hs:aA (bQ ar) v aG.reverse):v 69=b2i (decide (v 35<=v 6)):=ae hs 69 rfl
theorem Xc {ar:List Int} {v:Nat->Int} (hs:aA (bQ ar) v aG.reverse):v 70=b2i (decide (v 7<=v 36)):=ae hs 70 rfl
theorem JF {ar:List Int} {v:Nat->Int} (hs:aA (bQ ar) v aG.reverse) (k11:v 11=1) (k13:v 13=1) (k21:v 21=0) (k37:v 37=0) (k49:v 49=1) (k50:v 50=1) (k52:v 52=1) (k55:v 55=1) (k65:v 65=1) (k66:v 66=1) (k69:v 69=1) (k70:v 70=1):v 140=1:=by
 refine ak (X:=bQ ar) (v:=v) (l:=aG) (jh _) hs (k:=140) (r:=.c 1) (ps:=[(11,.c 1),(13,.c 1),(21,.c 0),(37,.c 0),(49,.c 1),(50,.c 1),(52,.c 1),(55,.c 1),(65,.c 1),(66,.c 1),(69,.c 1),(70,.c 1)]) (nz:=[]) ?_ az (by kernel_rfl)
 intro y hy;simp only [List.mem_cons,List.not_mem_nil,or_false] at hy;rcases hy with rfl|rfl|rfl|rfl|rfl|rfl|rfl|rfl|rfl|rfl|rfl|rfl<;>assumption
theorem WG {ar:List Int} {v:Nat->Int} (hs:aA (bQ ar) v aG.reverse):v 73=IntKind.i64.wrap (v 5-v 4):=ae hs 73 rfl
theorem ZH {ar:List Int} {v:Nat->Int} (hs:aA (bQ ar) v aG.reverse):v 74=b2i (decide (v 73>=(21600000:Int))):=ae hs 74 rfl
theorem Wj {ar:List Int} {v:Nat->Int} (hs:aA (bQ ar) v aG.reverse):v 76=Int.tmod (v 4) ((21600000:Int)):=ae hs 76 rfl
theorem WS {ar:List Int} {v:Nat->Int} (hs:aA (bQ ar) v aG.reverse):v 77=b2i (decide (v 76<(0:Int))):=ae hs 77 rfl
theorem Vb {ar:List Int} {v:Nat->Int} (hs:aA (bQ ar) v aG.reverse):v 78=IntKind.i64.wrap (v 76+(21600000:Int)):=ae hs 78 rfl
theorem ZX {ar:List Int} {v:Nat->Int} (hs:aA (bQ ar) v aG.reverse):v 80=if v 77≠0 then v 78 else v 76:=ae hs 80 rfl
theorem X6 {ar:List Int} {v:Nat->Int} (hs:aA (bQ ar) v aG.reverse):v 81=IntKind.i64.wrap (v 80+v 73):=ae hs 81 rfl
theorem UW {ar:List Int} {v:Nat->Int} (hs:aA (bQ ar) v aG.reverse):v 82=if v 74≠0 then (0:Int) else v 80:=ae hs 82 rfl
theorem YR {ar:List Int} {v:Nat->Int} (hs:aA (bQ ar) v aG.reverse):v 83=if v 74≠0 then (21600000:Int) else v 81:=ae hs 83 rfl
theorem Xr {ar:List Int} {v:Nat->Int} (hs:aA (bQ ar) v aG.reverse):v 84=IntKind.i64.wrap (v 83-v 82):=ae hs 84 rfl
theorem abz {ar:List Int} {v:Nat->Int} (hs:aA (bQ ar) v aG.reverse):v 87=IntKind.i64.wrap (v 82+-21600000):=ae hs 87 rfl
theorem Yt {ar:List Int} {v:Nat->Int} (hs:aA (bQ ar) v aG.reverse):v 93=IntKind.i64.wrap (v 82+0):=ae hs 93 rfl
theorem YY {ar:List Int} {v:Nat->Int} (hs:aA (bQ ar) v aG.reverse):v 94=IntKind.i64.wrap (v 83+0):=ae hs 94 rfl
theorem Yz {ar:List Int} {v:Nat->Int} (hs:aA (bQ ar) v aG.reverse):v 99=IntKind.i64.wrap (v 82+21600000):=ae hs 99 rfl
theorem SB {ar:List Int} {v:Nat->Int} (hs:aA (bQ ar) v aG.reverse):v 100=IntKind.i64.wrap (v 83+21600000):=ae hs 100 rfl
theorem VV {ar:List Int} {v:Nat->Int} (hs:aA (bQ ar) v aG.reverse):v 85=b2i (decide (v 84>=21600000)):=ae hs 85 rfl
theorem aaC {ar:List Int} {v:Nat->Int} (hs:aA (bQ ar) v aG.reverse):v 89=b2i (decide (v 33<=v 87)):=ae hs 89 rfl
theorem Og {ar:List Int} {v:Nat->Int} (hs:aA (bQ ar) v aG.reverse):v 95=b2i (decide (v 33<=v 93)):=ae hs 95 rfl
theorem aaL {ar:List Int} {v:Nat->Int} (hs:aA (bQ ar) v aG.reverse):v 96=b2i (decide (v 94<=v 34)):=ae hs 96 rfl
theorem KG {ar:List Int} {v:Nat->Int} (hs:aA (bQ ar) v aG.reverse) (k11:v 11=1) (k13:v 13=1) (k21:v 21=0) (k37:v 37=0) (k49:v 49=1) (k50:v 50=1) (k52:v 52=1) (k55:v 55=0) (k65:v 65=1) (k66:v 66=1) (k69:v 69=1) (k70:v 70=1) (k85:v 85=0) (k89:v 89=0) (k95:v 95=1) (k96:v 96=1):v 140=1:=by
 refine ak (X:=bQ ar) (v:=v) (l:=aG) (jh _) hs (k:=140) (r:=.c 1) (ps:=[(11,.c 1),(13,.c 1),(21,.c 0),(37,.c 0),(49,.c 1),(50,.c 1),(52,.c 1),(55,.c 0),(65,.c 1),(66,.c 1),(69,.c 1),(70,.c 1),(85,.c 0),(89,.c 0),(95,.c 1),(96,.c 1)]) (nz:=[]) ?_ az (by kernel_rfl)
 intro y hy;simp only [List.mem_cons,List.not_mem_nil,or_false] at hy;rcases hy with rfl|rfl|rfl|rfl|rfl|rfl|rfl|rfl|rfl|rfl|rfl|rfl|rfl|rfl|rfl|rfl<;>assumption
theorem TH {ar:List Int} {v:Nat->Int} (hs:aA (bQ ar) v aG.reverse):v 101=b2i (decide (v 33<=v 99)):=ae hs 101 rfl
theorem Tf {ar:List Int} {v:Nat->Int} (hs:aA (bQ ar) v aG.reverse):v 102=b2i (decide (v 100<=v 34)):=ae hs 102 rfl
theorem JV {ar:List Int} {v:Nat->Int} (hs:aA (bQ ar) v aG.reverse) (k11:v 11=1) (k13:v 13=1) (k21:v 21=0) (k37:v 37=0) (k49:v 49=1) (k50:v 50=1) (k52:v 52=1) (k55:v 55=0) (k65:v 65=1) (k66:v 66=1) (k69:v 69=1) (k70:v 70=1) (k85:v 85=0) (k89:v 89=0) (k95:v 95=0) (k101:v 101=1) (k102:v 102=1):v 140=1:=by
 refine ak (X:=bQ ar) (v:=v) (l:=aG) (jh _) hs (k:=140) (r:=.c 1) (ps:=[(11,.c 1),(13,.c 1),(21,.c 0),(37,.c 0),(49,.c 1),(50,.c 1),(52,.c 1),(55,.c 0),(65,.c 1),(66,.c 1),(69,.c 1),(70,.c 1),(85,.c 0),(89,.c 0),(95,.c 0),(101,.c 1),(102,.c 1)]) (nz:=[]) ?_ az (by kernel_rfl)
 intro y hy;simp only [List.mem_cons,List.not_mem_nil,or_false] at hy;rcases hy with rfl|rfl|rfl|rfl|rfl|rfl|rfl|rfl|rfl|rfl|rfl|rfl|rfl|rfl|rfl|rfl|rfl<;>assumption
theorem MW (a0 a1 a2 a3 a4 a5 a6 a7:Int) (w:World):Calls Try.prog 8 #[.agg #[.int .i64 a0,.int .i64 a1,.int .i64 a2,.int .i64 a3],.agg #[.int .i64 a4,.int .i64 a5,.int .i64 a6,.int .i64 a7]] w fun e w'=>e=.returned (.bool true)/\Below w.heap.size w w':=by
 refine Sx.calls (X:=bQ [a0,a1,a2,a3,a4,a5,a6,a7]) dX (SS _) QQ QD (fun v hs=>?_) w
 have e11:v 11=b2i (decide (MV (v 0) (v 1) (v 2) (v 3))):=(Vs hs);have e13:v 13=b2i (decide (MV (v 4) (v 5) (v 6) (v 7))):=(Vm hs);have x17:v 17=(mgV (v 0) (v 1) (v 2) (v 3) (v 4) (v 5) (v 6) (v 7)).getD 0 0:=(VS hs);have x18:v 18=(mgV (v 0) (v 1) (v 2) (v 3) (v 4) (v 5) (v 6) (v 7)).getD 1 0:=(ZF hs);have x19:v 19=(mgV (v 0) (v 1) (v 2) (v 3) (v 4) (v 5) (v 6) (v 7)).getD 2 0:=(WT hs);have x20:v 20=(mgV (v 0) (v 1) (v 2) (v 3) (v 4) (v 5) (v 6) (v 7)).getD 3 0:=(aam hs);have x21:v 21=(mgV (v 0) (v 1) (v 2) (v 3) (v 4) (v 5) (v 6) (v 7)).getD 4 0:=(XN hs);have x33:v 33=(foV (v 0) (v 1) (v 2) (v 3) (v 17) (v 18) (v 19) (v 20)).getD 0 0:=(Vp hs);have x34:v 34=(foV (v 0) (v 1) (v 2) (v 3) (v 17) (v 18) (v 19) (v 20)).getD 1 0:=(WE hs);have x35:v 35=(foV (v 0) (v 1) (v 2) (v 3) (v 17) (v 18) (v 19) (v 20)).getD 2 0:=(XP hs);have x36:v 36=(foV (v 0) (v 1) (v 2) (v 3) (v 17) (v 18) (v 19) (v 20)).getD 3 0:=(abe hs);have x37:v 37=(foV (v 0) (v 1) (v 2) (v 3) (v 17) (v 18) (v 19) (v 20)).getD 4 0:=(Yh hs);refine ⟨bO adY,?_⟩
 by_cases h1:MV (v 0) (v 1) (v 2) (v 3)
 rotate_left
 . have k11:v 11=0:=by rw [e11,decide_eq_false h1];rfl
   intro x hx;have hx':x=.bool (decide (v 140≠0)):=hx;have hr:v 140=1:=(I4 hs k11);rw [hx',hr];rfl
 have k11:v 11=1:=by rw [e11,decide_eq_true h1];rfl
 by_cases h2:MV (v 4) (v 5) (v 6) (v 7)
 rotate_left
 . have k13:v 13=0:=by rw [e13,decide_eq_false h2];rfl
   intro x hx;have hx':x=.bool (decide (v 140≠0)):=hx;have hr:v 140=1:=(KP hs k11 k13);rw [hx',hr];rfl
 have k13:v 13=1:=by rw [e13,decide_eq_true h2];rfl
 rw [x17,x18,x19,x20] at x33 x34 x35 x36 x37;have CL:=aa6 h1 h2 (mgV (v 0) (v 1) (v 2) (v 3) (v 4) (v 5) (v 6) (v 7)) (foV (v 0) (v 1) (v 2) (v 3) ((mgV (v 0) (v 1) (v 2) (v 3) (v 4) (v 5) (v 6) (v 7)).getD 0 0) ((mgV (v 0) (v 1) (v 2) (v 3) (v 4) (v 5) (v 6) (v 7)).getD 1 0) ((mgV (v 0) (v 1) (v 2) (v 3) (v 4) (v 5) (v 6) (v 7)).getD 2 0) ((mgV (v 0) (v 1) (v 2) (v 3) (v 4) (v 5) (v 6) (v 7)).getD 3 0)) rfl rfl;have vd:=(cK _ _).1 h2.1;have vr:=h2.2;generalize foV (v 0) (v 1) (v 2) (v 3) ((mgV (v 0) (v 1) (v 2) (v 3) (v 4) (v 5) (v 6) (v 7)).getD 0 0) ((mgV (v 0) (v 1) (v 2) (v 3) (v 4) (v 5) (v 6) (v 7)).getD 1 0) ((mgV (v 0) (v 1) (v 2) (v 3) (v 4) (v 5) (v 6) (v 7)).getD 2 0) ((mgV (v 0) (v 1) (v 2) (v 3) (v 4) (v 5) (v 6) (v 7)).getD 3 0)=FF at *
 generalize mgV (v 0) (v 1) (v 2) (v 3) (v 4) (v 5) (v 6) (v 7)=MM at *
 clear e11 e13 h1 h2;rcases CL with m5|⟨m0,CL⟩
 . rw [m5] at x17 x18 x19 x20 x21;have k17:v 17=0:=x17;have k18:v 18=0:=x18;have k19:v 19=0:=x19;have k20:v 20=0:=x20;have k21:v 21=5:=x21;intro x hx;have hx':x=.bool (decide (v 140≠0)):=hx;have hr:v 140=1:=(KI hs k11 k13 k17 k18 k19 k20 k21);rw [hx',hr];rfl
 have k21:v 21=0:=x21.trans m0;rcases CL with f5|⟨f0,BD,RT,CW⟩
 . rw [f5] at x33 x34 x35 x36 x37;have k33:v 33=0:=x33;have k34:v 34=0:=x34;have k35:v 35=0:=x35;have k36:v 36=0:=x36;have k37:v 37=5:=x37;intro x hx;have hx':x=.bool (decide (v 140≠0)):=hx;have hr:v 140=1:=(KQ hs k11 k13 k21 k33 k34 k35 k36 k37);rw [hx',hr];rfl
 have k37:v 37=0:=x37.trans f0;rw [<-x33,<-x34] at BD;rw [<-x35,<-x36] at RT;rw [<-x33,<-x34] at CW;clear x17 x18 x19 x20 x21 x33 x34 x35 x36 x37 m0 f0;have k49:v 49=1:=by rw [(VT hs),decide_eq_true (by omega)];rfl
 have k50:v 50=1:=by rw [(VQ hs),decide_eq_true (by omega)];rfl
 have k52:v 52=1:=by rw [(Vo hs),decide_eq_true (by omega)];rfl
 have tz:=Cj (X:=v 33) (Y:=v 34) (w:=v 54) (g:=v 55) (r:=v 57) (l:=v 58) (u:=v 59) (q:=v 61) (s:=v 62) (lo:=v 63) (hi:=v 64) (by omega) (NI hs) (Ey hs) (Wo hs) (UV hs) (Zm hs) (aak hs) (X5 hs) (Xa hs) (Zq hs)
 have WH:v 34-v 33>=21600000->v 33=0/\v 34=21600000:=fun h=>by rcases CW with c|c<;>omega
 have u63:v 63=v 33:=by rw [tz.1];split<;>(first|omega|(rename_i g;have:=WH (by omega);omega))
 have u64:v 64=v 34:=by rw [tz.2];split<;>(first|omega|(rename_i g;have:=WH (by omega);omega))
 clear tz;have k65:v 65=1:=by rw [(WI hs),show v 63=v 33 from (by exact u63),beq_self_eq_true];rfl
 have k66:v 66=1:=by rw [(aaQ hs),show v 64=v 34 from (by exact u64),beq_self_eq_true];rfl
 have k69:v 69=1:=by rw [(Yc hs),decide_eq_true (by exact RT.1)];rfl
 have k70:v 70=1:=by rw [(Xc hs),decide_eq_true (by exact RT.2)];rfl
 have e54:v 54=v 34-v 33:=by rw [(NI hs),Go.IntWalk.i64_in _ (by omega)]
 by_cases hw:v 34-v 33>=21600000
 . have k55:v 55=1:=by rw [(Ey hs),e54,decide_eq_true hw];rfl
   intro x hx;have hx':x=.bool (decide (v 140≠0)):=hx;have hr:v 140=1:=(JF hs k11 k13 k21 k37 k49 k50 k52 k55 k65 k66 k69 k70);rw [hx',hr];rfl
 have k55:v 55=0:=by rw [(Ey hs),e54,decide_eq_false hw];rfl
 have cw:v 34-v 33<=10800001/\(v 4-v 33)%21600000+(v 5-v 4)<=v 34-v 33:=by rcases CW with c|c<;>omega
 have nb:=Int.emod_nonneg (v 4-v 33) (show (21600000:Int)≠0 by decide)
 have tc:=Cj (X:=v 4) (Y:=v 5) (w:=v 73) (g:=v 74) (r:=v 76) (l:=v 77) (u:=v 78) (q:=v 80) (s:=v 81) (lo:=v 82) (hi:=v 83) (by omega) (WG hs) (ZH hs) (Wj hs) (WS hs) (Vb hs) (ZX hs) (X6 hs) (UW hs) (YR hs)
 have u82:v 82=v 4%21600000:=by rw [tc.1,if_neg (by omega)]
 have u83:v 83=v 4%21600000+(v 5-v 4):=by rw [tc.2,if_neg (by omega)]
 clear tc;have wc:=J4 (l:=v 82) (h:=v 83) (L:=v 33) (H:=v 34) (by omega) (by omega) (by unfold Wth;right;rw [u82,u83];omega) (by omega)
 have w84:v 84=v 83-v 82:=by rw [(Xr hs),Go.IntWalk.i64_in _ (by omega)]
 have w87:v 87=v 82+-21600000:=by rw [(abz hs),Go.IntWalk.i64_in _ (by omega)]
 have w93:v 93=v 82:=by rw [(Yt hs),Go.IntWalk.i64_in _ (by omega)];omega
 have w94:v 94=v 83:=by rw [(YY hs),Go.IntWalk.i64_in _ (by omega)];omega
 have w99:v 99=v 82+21600000:=by rw [(Yz hs),Go.IntWalk.i64_in _ (by omega)]
 have w100:v 100=v 83+21600000:=by rw [(SB hs),Go.IntWalk.i64_in _ (by omega)]
 have k85:v 85=0:=by rw [(VV hs),decide_eq_false (by rw [w84];omega)];rfl
 have k89:v 89=0:=by rw [(aaC hs),decide_eq_false (by rw [w87];omega)];rfl
 rcases wc.2.2 with c|c
 . have k95:v 95=1:=by rw [(Og hs),decide_eq_true (by rw [w93];omega)];rfl
   have k96:v 96=1:=by rw [(aaL hs),decide_eq_true (by rw [w94];omega)];rfl
   intro x hx;have hx':x=.bool (decide (v 140≠0)):=hx;have hr:v 140=1:=(KG hs k11 k13 k21 k37 k49 k50 k52 k55 k65 k66 k69 k70 k85 k89 k95 k96);rw [hx',hr];rfl
 . have k95:v 95=0:=by rw [(Og hs),decide_eq_false (by rw [w93];omega)];rfl
   have k101:v 101=1:=by rw [(TH hs),decide_eq_true (by rw [w99];omega)];rfl
   have k102:v 102=1:=by rw [(Tf hs),decide_eq_true (by rw [w100];omega)];rfl
   intro x hx;have hx':x=.bool (decide (v 140≠0)):=hx;have hr:v 140=1:=(JV hs k11 k13 k21 k37 k49 k50 k52 k55 k65 k66 k69 k70 k85 k89 k95 k101 k102);rw [hx',hr];rfl
