/- The law CosineBack: hour angles are found again. -/
import Derived.Test.YtmldbeipmappnaaZHra
import Derived.Test.YtmldbeipmappnaaZCos
import Derived.Test.YtmldbeipmappnaaZIsoA
set_option linter.unusedVariables false
set_option linter.unusedSimpArgs false
set_option maxRecDepth 100000
set_option maxHeartbeats 8000000
namespace Go.Proofs.Ytmldbeipmappnaa
open Go.RowKit Alm Sx
def haL (a b c d e f:Int):List Int:=[(haV a b c d e f).getD 0 0,(haV a b c d e f).getD 1 0,(haV a b c d e f).getD 2 0]
def haP (a b c d e f:Int):Prop:=(-5400000<=a/\a<=b/\b<=5400000)/\(-5400000<=c/\c<=d/\d<=5400000)/\(-5400000<=e/\e<=f/\f<=5400000)
def kHb (f:Nat):Bool:=f==53
def ahV:Nat->List Int->List Int
 | 53,[a,b,c,d,e,f]=>haL a b c d e f
 | _,_=>[]
def ahT:Nat->List Int->Prop
 | 53,[a,b,c,d,e,f]=>haP a b c d e f
 | _,_=>False
def bf (args:List Int):Cx:=(cxF args).plus kHb ahV ahT
theorem agP (args:List Int):om (bf args):=jg (af6 args) fun f h=>by
 unfold kHb;rcases h with h|rfl
 . simp;omega
 . rfl
def sHA:Sx.Spec:=⟨30,53,[(true,[some .i64,some .i64]),(true,[some .i64,some .i64]),(true,[some .i64,some .i64])],[(true,[some .i64,some .i64]),(false,[some .i64])]⟩
theorem age (args:List Int):aH Try.prog (bf args) sHA:=by
 refine dV rfl (ours _ _ _ Try.func30 rfl (by kernel_rfl)) fun xs hp w=>?_
 match xs,hp with
 | [a,b,c,d,e,f],hp=>exact ahU a b c d e f w hp.1 hp.2.1 hp.2.2
def ahI:List Sx.Spec:=[uX,ahK,sHA]
theorem afy (args:List Int):∀ s∈ahI,aH Try.prog (bf args) s:=by
 intro s hs;simp only [ahI,List.mem_cons,List.not_mem_nil,or_false] at hs;rcases hs with rfl|rfl|rfl
 . exact eT rfl (rq args)
 . exact eT rfl (mf args _ (by simp [afi]))
 . exact age args
def af5 (t:Tab):Nd->Option Rf
 | .app 50 2 [_,_,_,_,_,_]=>some (.c 0)
 | .app 20 0 []=>some (.c 1)
 | x=>vE t x
theorem bF (args:List Int):gJ (bf args) af5:=by
 intro v t x r ht h;unfold af5 at h;split at h
 . cases h;exact (eB _ _ _ _ _ _).2.2.symm
 . cases h;rfl
 . exact iU (agP args) v t x r ht h
theorem agJ {lo hi:Int} (h:lo<=hi) (h1:lo<=1073741824) (h2:-1073741824<=hi):-5400000<=qw lo/\qw lo<=qV hi/\qV hi<=5400000:=by
 unfold qw qV;have k:max lo (-1073741824)<=min hi 1073741824:=by omega
 generalize max lo (-1073741824)=p at *
 generalize min hi 1073741824=q at *
 obtain ⟨a0,a1,a2,_⟩:=dE p;obtain ⟨b0,b1,b2,_⟩:=dE (-q);refine ⟨a0,?_,by omega⟩
 by_cases hh:bR p<=-bR (-q)
 . exact hh
 . have m:=EJ (-bR (-q)) (bR p) (by omega) (by omega) (by omega)
   have n:=(ack (bR (-q))).1;omega
theorem afG (a b c d e f:Int):-5400000<=(eF a b c d e f).getD 0 0/\(eF a b c d e f).getD 0 0<=(eF a b c d e f).getD 1 0/\(eF a b c d e f).getD 1 0<=5400000:=by
 obtain ⟨v0,v1,_⟩:=eB a b c d e f;rw [v0,v1];have m:=Le a b c d e f;have u:=(cZ _ _).1 (U_A (U_M (U_S a b) (U_S c d)).2.2 (U_M (U_M (U_C a b) (U_C c d)).2.2 (U_C e f)).2.2).2.2;exact agJ u.2.1 m.1 m.2
theorem sM {y z:Int} (h:-1073741824<=y/\y<=z/\z<=1073741824):0<=jJ z/\jc y<=10800000:=by
 unfold jJ jc;have a:=(dE (-(yn z 1073741824))).1;have b:=(dE (rD y (-1073741824))).1;omega
theorem agw {x r c u z g s q n m w:Int} (hr:r=Int.tmod x 21600000) (hc:c=b2i (decide (r<0))) (hu:u=IntKind.i64.wrap (r+21600000)) (hz:z=if c≠0 then u else r) (hg:g=b2i (decide (z>=10800000))) (hs:s=IntKind.i64.wrap (z-21600000)) (hq:q=if g≠0 then s else z) (hn:n=b2i (decide (q<0))) (hm:m=IntKind.i64.wrap (0-q)) (hw:w=if n≠0 then m else q):0<=w/\w<=10800000:=by
 have b1:=Int.tmod_lt_of_pos x (show (0:Int)<21600000 by omega)
 have b2:=Int.tmod_lt_of_pos (-x) (show (0:Int)<21600000 by omega)
 rw [Int.neg_tmod] at b2;rw [<-hr] at b1 b2;have ite:∀ (P:Prop) [Decidable P] (x y:Int),(if b2i (decide P)≠0 then x else y)=if P then x else y:=fun P _ x y=>by by_cases h:P<;>simp [b2i,h]
 rw [Go.IntWalk.i64_in _ (by omega)] at hu
 have z1:0<=z/\z<21600000:=by rw [hz,hc,ite];split<;>omega
 rw [Go.IntWalk.i64_in _ (by omega)] at hs
 have q1:-10800000<=q/\q<10800000:=by rw [hq,hg,ite];split<;>omega
 rw [Go.IntWalk.i64_in _ (by omega)] at hm
 rw [hw,hn,ite];split<;>omega
theorem ahf (l d t:Int) (hl:-5400000<=l/\l<=5400000) (hd:-5400000<=d/\d<=5400000) (ht:0<=t/\t<=10800000) (H:List Int) (eH:H=eF l l d d t t) (X:List Int) (eX:X=haV l l d d (H.getD 0 0) (H.getD 1 0)) :
 X=[0,0,21]∨X=[0,0,24]∨(X.getD 2 0=0/\0<=X.getD 0 0/\X.getD 0 0<=t/\t<=X.getD 1 0/\X.getD 1 0<=10800000/\(eF l l d d (X.getD 0 0) (X.getD 1 0)).getD 0 0<=H.getD 0 0/\H.getD 1 0<=(eF l l d d (X.getD 0 0) (X.getD 1 0)).getD 1 0):=by
 by_cases c1:(haD l l d d).1<=0
 . left;rw [eX];exact ry c1
 . have HA:=vN l d t hl hd ht _ _ rfl rfl (by omega)
   rw [<-eH] at HA;have eQ:qoL (haN l l d d (H.getD 0 0) (H.getD 1 0)).1 (haN l l d d (H.getD 0 0) (H.getD 1 0)).2 (haD l l d d).1 (haD l l d d).2 1073741824=haQ l l d d (H.getD 0 0) (H.getD 1 0):=rfl;have eR:qoH (haN l l d d (H.getD 0 0) (H.getD 1 0)).1 (haN l l d d (H.getD 0 0) (H.getD 1 0)).2 (haD l l d d).1 (haD l l d d).2 1073741824=haR l l d d (H.getD 0 0) (H.getD 1 0):=rfl;rw [eQ,eR] at HA
   by_cases c2:jP (haQ l l d d (H.getD 0 0) (H.getD 1 0))=true/\jP (haR l l d d (H.getD 0 0) (H.getD 1 0))=true
   . right;right
     have W:=afl (a4:=H.getD 0 0) (a5:=H.getD 1 0) c1 c2 (by omega)
     rw [<-eX] at W;have g:=uo (jJ (min (haR l l d d (H.getD 0 0) (H.getD 1 0)) 1073741824)) (jc (max (haQ l l d d (H.getD 0 0) (H.getD 1 0)) (-1073741824))) 0;rw [<-W] at g;have r:=sM (y:=max (haQ l l d d (H.getD 0 0) (H.getD 1 0)) (-1073741824)) (z:=max (haQ l l d d (H.getD 0 0) (H.getD 1 0)) (-1073741824)) (by omega)
     have r2:=sM (y:=min (haR l l d d (H.getD 0 0) (H.getD 1 0)) 1073741824) (z:=min (haR l l d d (H.getD 0 0) (H.getD 1 0)) 1073741824) (by omega)
     have b:X.getD 0 0<=t/\t<=X.getD 1 0:=by rw [g.1,g.2.1];exact HA.2
     have A:=aft (a:=l) (b:=l) (c:=d) (d:=d) (e:=X.getD 0 0) (f:=X.getD 1 0) (a':=l) (b':=l) (c':=d) (d':=d) (e':=t) (f':=t) ⟨Int.le_refl _,Int.le_refl _,Int.le_refl _⟩ ⟨Int.le_refl _,Int.le_refl _,Int.le_refl _⟩ ⟨b.1,Int.le_refl _,b.2⟩;rw [<-eH] at A;exact ⟨g.2.2,by rw [g.1];exact r2.1,b.1,b.2,by rw [g.2.1];exact r.2,A.1,A.2⟩
   . right;left;rw [eX];exact uH c1 c2
def ay:List Nd:=[
 .arg 0,
 .arg 1,
 .arg 2,
 .app 20 0 [],
 .ite (.n 3) (.c 0) (.c 1),
 .ite (.n 4) (.c 0) (.c 1),
 .bin .lss .i64 (.n 0) (.c (-5400000)),
 .bin .gtr .i64 (.n 0) (.c 5400000),
 .ite (.n 6) (.c 1) (.n 7),
 .bin .lss .i64 (.n 1) (.c (-5400000)),
 .ite (.n 8) (.c 1) (.n 9),
 .bin .gtr .i64 (.n 1) (.c 5400000),
 .ite (.n 10) (.c 1) (.n 11),
 .ite (.n 12) (.c 0) (.c 1),
 .bin .rem .i64 (.n 2) (.c 21600000),
 .bin .lss .i64 (.n 14) (.c 0),
 .bin .add .i64 (.n 14) (.c 21600000),
 .ite (.n 15) (.c 0) (.c 1),
 .ite (.n 15) (.n 16) (.n 14),
 .bin .geq .i64 (.n 18) (.c 10800000),
 .bin .sub .i64 (.n 18) (.c 21600000),
 .ite (.n 19) (.c 0) (.c 1),
 .ite (.n 19) (.n 20) (.n 18),
 .bin .lss .i64 (.n 22) (.c 0),
 .bin .sub .i64 (.c 0) (.n 22),
 .ite (.n 23) (.c 0) (.c 1),
 .ite (.n 23) (.n 24) (.n 22),
 .bin .gtr .i64 (.n 26) (.c 10800000),
 .ite (.n 27) (.c 0) (.c 1),
 .bin .geq .i64 (.n 0) (.c (-1099511627776)),
 .bin .leq .i64 (.n 0) (.c 1099511627776),
 .ite (.n 29) (.n 30) (.c 0),
 .ite (.n 31) (.n 31) (.c 0),
 .bin .geq .i64 (.n 0) (.c (-5400000)),
 .ite (.n 32) (.n 33) (.c 0),
 .bin .leq .i64 (.n 0) (.c 5400000),
 .ite (.n 34) (.n 35) (.c 0),
 .bin .geq .i64 (.n 1) (.c (-1099511627776)),
 .bin .leq .i64 (.n 1) (.c 1099511627776),
 .ite (.n 37) (.n 38) (.c 0),
 .ite (.n 39) (.n 39) (.c 0),
 .bin .geq .i64 (.n 1) (.c (-5400000)),
 .ite (.n 40) (.n 41) (.c 0),
 .bin .leq .i64 (.n 1) (.c 5400000),
 .ite (.n 42) (.n 43) (.c 0),
 .ite (.n 36) (.n 44) (.c 0),
 .bin .geq .i64 (.n 26) (.c (-1099511627776)),
 .bin .leq .i64 (.n 26) (.c 1099511627776),
 .ite (.n 46) (.n 47) (.c 0),
 .ite (.n 48) (.n 48) (.c 0),
 .ite (.n 45) (.n 49) (.c 0),
 .ite (.n 50) (.c 0) (.c 1),
 .app 50 0 [.n 0,.n 0,.n 1,.n 1,.n 26,.n 26],
 .app 50 1 [.n 0,.n 0,.n 1,.n 1,.n 26,.n 26],
 .app 50 2 [.n 0,.n 0,.n 1,.n 1,.n 26,.n 26],
 .ite (.n 51) (.c 1) (.n 54),
 .ite (.n 51) (.c 0) (.n 52),
 .ite (.n 51) (.c 0) (.n 53),
 .bin .neq .i64 (.n 55) (.c 0),
 .bin .leq .i64 (.n 56) (.n 57),
 .bin .geq .i64 (.n 56) (.c (-5400000)),
 .ite (.n 59) (.n 60) (.c 0),
 .bin .leq .i64 (.n 57) (.c 5400000),
 .ite (.n 61) (.n 62) (.c 0),
 .ite (.n 63) (.c 0) (.c 1),
 .ite (.n 58) (.c 1) (.n 64),
 .ite (.n 65) (.c 0) (.c 1),
 .app 53 0 [.n 0,.n 0,.n 1,.n 1,.n 56,.n 57],
 .app 53 1 [.n 0,.n 0,.n 1,.n 1,.n 56,.n 57],
 .app 53 2 [.n 0,.n 0,.n 1,.n 1,.n 56,.n 57],
 .bin .neq .i64 (.n 69) (.c 0),
 .bin .eql .i64 (.n 69) (.c 21),
 .bin .eql .i64 (.n 69) (.c 24),
 .ite (.n 71) (.c 1) (.n 72),
 .bin .eql .i64 (.n 67) (.c 0),
 .bin .eql .i64 (.n 68) (.c 0),
 .ite (.n 74) (.n 75) (.c 0),
 .ite (.n 73) (.n 76) (.c 0),
 .ite (.n 70) (.c 0) (.c 1),
 .bin .leq .i64 (.n 67) (.n 68),
 .bin .geq .i64 (.n 67) (.c (-1099511627776)),
 .ite (.n 79) (.n 80) (.c 0),
 .bin .leq .i64 (.n 68) (.c 1099511627776),
 .ite (.n 81) (.n 82) (.c 0),
 .ite (.n 83) (.c 0) (.c 1),
 .bin .leq .i64 (.n 67) (.c 1099511627776),
 .ite (.n 80) (.n 85) (.c 0),
 .ite (.n 79) (.n 86) (.c 0),
 .bin .geq .i64 (.n 68) (.c (-1099511627776)),
 .ite (.n 88) (.n 82) (.c 0),
 .ite (.n 87) (.n 89) (.c 0),
 .ite (.n 45) (.n 90) (.c 0),
 .ite (.n 91) (.c 0) (.c 1),
 .app 50 0 [.n 0,.n 0,.n 1,.n 1,.n 67,.n 68],
 .app 50 1 [.n 0,.n 0,.n 1,.n 1,.n 67,.n 68],
 .app 50 2 [.n 0,.n 0,.n 1,.n 1,.n 67,.n 68],
 .ite (.n 92) (.c 1) (.n 95),
 .ite (.n 92) (.c 0) (.n 93),
 .ite (.n 92) (.c 0) (.n 94),
 .bin .leq .i64 (.n 67) (.n 26),
 .bin .leq .i64 (.n 26) (.n 68),
 .ite (.n 99) (.n 100) (.c 0),
 .bin .geq .i64 (.n 67) (.c 0),
 .ite (.n 101) (.n 102) (.c 0),
 .bin .leq .i64 (.n 68) (.c 10800000),
 .ite (.n 103) (.n 104) (.c 0),
 .bin .eql .i64 (.n 96) (.c 0),
 .ite (.n 105) (.n 106) (.c 0),
 .bin .leq .i64 (.n 97) (.n 56),
 .bin .leq .i64 (.n 57) (.n 98),
 .ite (.n 108) (.n 109) (.c 0),
 .ite (.n 107) (.n 110) (.c 0),
 .ite (.n 84) (.c 0) (.n 111),
 .ite (.n 70) (.n 77) (.n 112),
 .ite (.n 65) (.c 0) (.n 113),
 .ite (.n 27) (.c 0) (.n 114),
 .ite (.n 12) (.c 1) (.n 115),
 .ite (.n 4) (.c 0) (.n 116)]
def nk:List Vc:=[
 ⟨[],.pre 20 []⟩,
 ⟨[(.n 50,true),(.n 28,true),(.n 13,true),(.n 5,true)],.pre 50 [.n 0,.n 0,.n 1,.n 1,.n 26,.n 26]⟩,
 ⟨[(.n 66,true),(.n 28,true),(.n 13,true),(.n 5,true)],.pre 53 [.n 0,.n 0,.n 1,.n 1,.n 56,.n 57]⟩,
 ⟨[(.n 91,true),(.n 83,true),(.n 78,true),(.n 66,true),(.n 28,true),(.n 13,true),(.n 5,true)],.pre 50 [.n 0,.n 0,.n 1,.n 1,.n 67,.n 68]⟩]
theorem agU:whole Try.prog ahI 20 40 7 [(false,[some .i64]),(false,[some .i64]),(false,[some .i64])]=some (.p (.c (.bool (.n 117))),⟨ay.reverse,nk.reverse⟩):=by kernel_rfl
theorem agk:wfN ay.reverse=true:=by kernel_rfl
theorem pM {ar:List Int} {v:Nat->Int} (k13:v 13=0):∀ c∈nk,c.holds (bf ar) v :=
 ag (fun _=>trivial) (ag (fun hp=>absurd k13 ((au (au (au hp).2).2).1)) (ag (fun hp=>absurd k13 ((au (au (au hp).2).2).1)) (ag (fun hp=>absurd k13 ((au (au (au (au (au (au hp).2).2).2).2).2).1)) (bN))))
theorem af3 {ar:List Int} {v:Nat->Int} (hs:aA (bf ar) v ay.reverse):v 6=b2i (decide (v 0 < -5400000)):=ae hs 6 rfl
theorem aff {ar:List Int} {v:Nat->Int} (hs:aA (bf ar) v ay.reverse) (k6:v 6=1):v 13=0:=by
 refine ak (X:=bf ar) (v:=v) (l:=ay) (bF _) hs (k:=13) (r:=.c 0) (ps:=[(6,.c 1)]) (nz:=[]) ?_ az (by kernel_rfl)
 intro y hy;simp only [List.mem_cons,List.not_mem_nil,or_false] at hy;rcases hy with rfl<;>assumption
theorem ae9 {ar:List Int} {v:Nat->Int} (hs:aA (bf ar) v ay.reverse) (k6:v 6=1):v 117=1:=by
 refine ak (X:=bf ar) (v:=v) (l:=ay) (bF _) hs (k:=117) (r:=.c 1) (ps:=[(6,.c 1)]) (nz:=[]) ?_ az (by kernel_rfl)
 intro y hy;simp only [List.mem_cons,List.not_mem_nil,or_false] at hy;rcases hy with rfl<;>assumption
theorem af4 {ar:List Int} {v:Nat->Int} (hs:aA (bf ar) v ay.reverse):v 7=b2i (decide (v 0>5400000)):=ae hs 7 rfl
theorem afq {ar:List Int} {v:Nat->Int} (hs:aA (bf ar) v ay.reverse) (k6:v 6=0) (k7:v 7=1):v 13=0:=by
 refine ak (X:=bf ar) (v:=v) (l:=ay) (bF _) hs (k:=13) (r:=.c 0) (ps:=[(6,.c 0),(7,.c 1)]) (nz:=[]) ?_ az (by kernel_rfl)
 intro y hy;simp only [List.mem_cons,List.not_mem_nil,or_false] at hy;rcases hy with rfl|rfl<;>assumption
theorem Rn {ar:List Int} {v:Nat->Int} (hs:aA (bf ar) v ay.reverse) (k6:v 6=0) (k7:v 7=1):v 117=1:=by
 refine ak (X:=bf ar) (v:=v) (l:=ay) (bF _) hs (k:=117) (r:=.c 1) (ps:=[(6,.c 0),(7,.c 1)]) (nz:=[]) ?_ az (by kernel_rfl)
 intro y hy;simp only [List.mem_cons,List.not_mem_nil,or_false] at hy;rcases hy with rfl|rfl<;>assumption
theorem af2 {ar:List Int} {v:Nat->Int} (hs:aA (bf ar) v ay.reverse):v 9=b2i (decide (v 1 < -5400000)):=ae hs 9 rfl
theorem afm {ar:List Int} {v:Nat->Int} (hs:aA (bf ar) v ay.reverse) (k6:v 6=0) (k7:v 7=0) (k9:v 9=1):v 13=0:=by
 refine ak (X:=bf ar) (v:=v) (l:=ay) (bF _) hs (k:=13) (r:=.c 0) (ps:=[(6,.c 0),(7,.c 0),(9,.c 1)]) (nz:=[]) ?_ az (by kernel_rfl)
 intro y hy;simp only [List.mem_cons,List.not_mem_nil,or_false] at hy;rcases hy with rfl|rfl|rfl<;>assumption
theorem ae8 {ar:List Int} {v:Nat->Int} (hs:aA (bf ar) v ay.reverse) (k6:v 6=0) (k7:v 7=0) (k9:v 9=1):v 117=1:=by
 refine ak (X:=bf ar) (v:=v) (l:=ay) (bF _) hs (k:=117) (r:=.c 1) (ps:=[(6,.c 0),(7,.c 0),(9,.c 1)]) (nz:=[]) ?_ az (by kernel_rfl)
 intro y hy;simp only [List.mem_cons,List.not_mem_nil,or_false] at hy;rcases hy with rfl|rfl|rfl<;>assumption
theorem afo {ar:List Int} {v:Nat->Int} (hs:aA (bf ar) v ay.reverse):v 11=b2i (decide (v 1>5400000)):=ae hs 11 rfl
theorem afk {ar:List Int} {v:Nat->Int} (hs:aA (bf ar) v ay.reverse) (k6:v 6=0) (k7:v 7=0) (k9:v 9=0) (k11:v 11=1):v 13=0:=by
 refine ak (X:=bf ar) (v:=v) (l:=ay) (bF _) hs (k:=13) (r:=.c 0) (ps:=[(6,.c 0),(7,.c 0),(9,.c 0),(11,.c 1)]) (nz:=[]) ?_ az (by kernel_rfl)
 intro y hy;simp only [List.mem_cons,List.not_mem_nil,or_false] at hy;rcases hy with rfl|rfl|rfl|rfl<;>assumption
theorem Yd {ar:List Int} {v:Nat->Int} (hs:aA (bf ar) v ay.reverse) (k6:v 6=0) (k7:v 7=0) (k9:v 9=0) (k11:v 11=1):v 117=1:=by
 refine ak (X:=bf ar) (v:=v) (l:=ay) (bF _) hs (k:=117) (r:=.c 1) (ps:=[(6,.c 0),(7,.c 0),(9,.c 0),(11,.c 1)]) (nz:=[]) ?_ az (by kernel_rfl)
 intro y hy;simp only [List.mem_cons,List.not_mem_nil,or_false] at hy;rcases hy with rfl|rfl|rfl|rfl<;>assumption
theorem agx {ar:List Int} {v:Nat->Int} (hs:aA (bf ar) v ay.reverse):v 14=Int.tmod (v 2) ((21600000:Int)):=ae hs 14 rfl
theorem agB {ar:List Int} {v:Nat->Int} (hs:aA (bf ar) v ay.reverse):v 15=b2i (decide (v 14<(0:Int))):=ae hs 15 rfl
theorem ahg {ar:List Int} {v:Nat->Int} (hs:aA (bf ar) v ay.reverse):v 16=IntKind.i64.wrap (v 14+(21600000:Int)):=ae hs 16 rfl
theorem ag5 {ar:List Int} {v:Nat->Int} (hs:aA (bf ar) v ay.reverse):v 18=if v 15≠0 then v 16 else v 14:=ae hs 18 rfl
theorem ags {ar:List Int} {v:Nat->Int} (hs:aA (bf ar) v ay.reverse):v 19=b2i (decide (v 18>=(10800000:Int))):=ae hs 19 rfl
theorem ahx {ar:List Int} {v:Nat->Int} (hs:aA (bf ar) v ay.reverse):v 20=IntKind.i64.wrap (v 18-(21600000:Int)):=ae hs 20 rfl
theorem ahp {ar:List Int} {v:Nat->Int} (hs:aA (bf ar) v ay.reverse):v 22=if v 19≠0 then v 20 else v 18:=ae hs 22 rfl
theorem agZ {ar:List Int} {v:Nat->Int} (hs:aA (bf ar) v ay.reverse):v 23=b2i (decide (v 22<(0:Int))):=ae hs 23 rfl
theorem af9 {ar:List Int} {v:Nat->Int} (hs:aA (bf ar) v ay.reverse):v 24=IntKind.i64.wrap ((0:Int)-v 22):=ae hs 24 rfl
theorem agC {ar:List Int} {v:Nat->Int} (hs:aA (bf ar) v ay.reverse):v 26=if v 23≠0 then v 24 else v 22:=ae hs 26 rfl
theorem ahz {ar:List Int} {v:Nat->Int} (hs:aA (bf ar) v ay.reverse):v 27=b2i (decide (v 26>10800000)):=ae hs 27 rfl
theorem aht {ar:List Int} {v:Nat->Int} (hs:aA (bf ar) v ay.reverse):v 29=b2i (decide (v 0>=-1099511627776)):=ae hs 29 rfl
theorem ahb {ar:List Int} {v:Nat->Int} (hs:aA (bf ar) v ay.reverse):v 30=b2i (decide (v 0<=1099511627776)):=ae hs 30 rfl
theorem agm {ar:List Int} {v:Nat->Int} (hs:aA (bf ar) v ay.reverse):v 33=b2i (decide (v 0>=-5400000)):=ae hs 33 rfl
theorem agM {ar:List Int} {v:Nat->Int} (hs:aA (bf ar) v ay.reverse):v 35=b2i (decide (v 0<=5400000)):=ae hs 35 rfl
theorem ahw {ar:List Int} {v:Nat->Int} (hs:aA (bf ar) v ay.reverse):v 37=b2i (decide (v 1>=-1099511627776)):=ae hs 37 rfl
theorem agT {ar:List Int} {v:Nat->Int} (hs:aA (bf ar) v ay.reverse):v 38=b2i (decide (v 1<=1099511627776)):=ae hs 38 rfl
theorem ahD {ar:List Int} {v:Nat->Int} (hs:aA (bf ar) v ay.reverse):v 41=b2i (decide (v 1>=-5400000)):=ae hs 41 rfl
theorem agl {ar:List Int} {v:Nat->Int} (hs:aA (bf ar) v ay.reverse):v 43=b2i (decide (v 1<=5400000)):=ae hs 43 rfl
theorem agi {ar:List Int} {v:Nat->Int} (hs:aA (bf ar) v ay.reverse):v 46=b2i (decide (v 26>=-1099511627776)):=ae hs 46 rfl
theorem agc {ar:List Int} {v:Nat->Int} (hs:aA (bf ar) v ay.reverse):v 47=b2i (decide (v 26<=1099511627776)):=ae hs 47 rfl
theorem ahB {ar:List Int} {v:Nat->Int} (hs:aA (bf ar) v ay.reverse):v 52=(eF (v 0) (v 0) (v 1) (v 1) (v 26) (v 26)).getD 0 0:=ae hs 52 rfl
theorem agy {ar:List Int} {v:Nat->Int} (hs:aA (bf ar) v ay.reverse):v 53=(eF (v 0) (v 0) (v 1) (v 1) (v 26) (v 26)).getD 1 0:=ae hs 53 rfl
theorem afj {ar:List Int} {v:Nat->Int} (hs:aA (bf ar) v ay.reverse) (k6:v 6=0) (k7:v 7=0) (k9:v 9=0) (k11:v 11=0) (k27:v 27=0) (k29:v 29=1) (k30:v 30=1) (k33:v 33=1) (k35:v 35=1) (k37:v 37=1) (k38:v 38=1) (k41:v 41=1) (k43:v 43=1) (k46:v 46=1) (k47:v 47=1):v 56=v 52:=by
 refine aB (X:=bf ar) (v:=v) (l:=ay) (bF _) hs (k:=56) (j:=52) (ps:=[(6,.c 0),(7,.c 0),(9,.c 0),(11,.c 0),(27,.c 0),(29,.c 1),(30,.c 1),(33,.c 1),(35,.c 1),(37,.c 1),(38,.c 1),(41,.c 1),(43,.c 1),(46,.c 1),(47,.c 1)]) ?_ (by kernel_rfl)
 intro y hy;simp only [List.mem_cons,List.not_mem_nil,or_false] at hy;rcases hy with rfl|rfl|rfl|rfl|rfl|rfl|rfl|rfl|rfl|rfl|rfl|rfl|rfl|rfl|rfl<;>assumption
theorem PD {ar:List Int} {v:Nat->Int} (hs:aA (bf ar) v ay.reverse) (k6:v 6=0) (k7:v 7=0) (k9:v 9=0) (k11:v 11=0) (k27:v 27=0) (k29:v 29=1) (k30:v 30=1) (k33:v 33=1) (k35:v 35=1) (k37:v 37=1) (k38:v 38=1) (k41:v 41=1) (k43:v 43=1) (k46:v 46=1) (k47:v 47=1):v 57=v 53:=by
 refine aB (X:=bf ar) (v:=v) (l:=ay) (bF _) hs (k:=57) (j:=53) (ps:=[(6,.c 0),(7,.c 0),(9,.c 0),(11,.c 0),(27,.c 0),(29,.c 1),(30,.c 1),(33,.c 1),(35,.c 1),(37,.c 1),(38,.c 1),(41,.c 1),(43,.c 1),(46,.c 1),(47,.c 1)]) ?_ (by kernel_rfl)
 intro y hy;simp only [List.mem_cons,List.not_mem_nil,or_false] at hy;rcases hy with rfl|rfl|rfl|rfl|rfl|rfl|rfl|rfl|rfl|rfl|rfl|rfl|rfl|rfl|rfl<;>assumption
theorem agF {ar:List Int} {v:Nat->Int} (hs:aA (bf ar) v ay.reverse):v 67=(haV (v 0) (v 0) (v 1) (v 1) (v 56) (v 57)).getD 0 0:=(show v 67=(haL (v 0) (v 0) (v 1) (v 1) (v 56) (v 57)).getD 0 0 from ae hs 67 rfl).trans (uo _ _ _).1
theorem agY {ar:List Int} {v:Nat->Int} (hs:aA (bf ar) v ay.reverse):v 68=(haV (v 0) (v 0) (v 1) (v 1) (v 56) (v 57)).getD 1 0:=(show v 68=(haL (v 0) (v 0) (v 1) (v 1) (v 56) (v 57)).getD 1 0 from ae hs 68 rfl).trans (uo _ _ _).2.1
theorem ag9 {ar:List Int} {v:Nat->Int} (hs:aA (bf ar) v ay.reverse):v 69=(haV (v 0) (v 0) (v 1) (v 1) (v 56) (v 57)).getD 2 0:=(show v 69=(haL (v 0) (v 0) (v 1) (v 1) (v 56) (v 57)).getD 2 0 from ae hs 69 rfl).trans (uo _ _ _).2.2
theorem ahy {ar:List Int} {v:Nat->Int} (hs:aA (bf ar) v ay.reverse):v 59=b2i (decide (v 56<=v 57)):=ae hs 59 rfl
theorem aha {ar:List Int} {v:Nat->Int} (hs:aA (bf ar) v ay.reverse):v 60=b2i (decide (v 56>=-5400000)):=ae hs 60 rfl
theorem agn {ar:List Int} {v:Nat->Int} (hs:aA (bf ar) v ay.reverse):v 62=b2i (decide (v 57<=5400000)):=ae hs 62 rfl
theorem afu {ar:List Int} {v:Nat->Int} (Q50:cu (v 0) (v 0)=true/\cu (v 1) (v 1)=true/\cu (v 26) (v 26)=true) (Q53:haP (v 0) (v 0) (v 1) (v 1) (v 56) (v 57)) (k78:v 78=0):∀ c∈nk,c.holds (bf ar) v :=
 ag (fun _=>trivial) (ag (fun _=>Q50) (ag (fun _=>Q53) (ag (fun hp=>absurd k78 ((au (au (au hp).2).2).1)) (bN))))
theorem agW {ar:List Int} {v:Nat->Int} (Q50:cu (v 0) (v 0)=true/\cu (v 1) (v 1)=true/\cu (v 26) (v 26)=true) (Q53:haP (v 0) (v 0) (v 1) (v 1) (v 56) (v 57)) (Q67:cu (v 67) (v 68)=true):∀ c∈nk,c.holds (bf ar) v :=
 ag (fun _=>trivial) (ag (fun _=>Q50) (ag (fun _=>Q53) (ag (fun _=>⟨Q50.1,Q50.2.1,Q67⟩) (bN))))
theorem SG {ar:List Int} {v:Nat->Int} (hs:aA (bf ar) v ay.reverse) (k6:v 6=0) (k7:v 7=0) (k9:v 9=0) (k11:v 11=0) (k27:v 27=0) (k29:v 29=1) (k30:v 30=1) (k33:v 33=1) (k35:v 35=1) (k37:v 37=1) (k38:v 38=1) (k41:v 41=1) (k43:v 43=1) (k46:v 46=1) (k47:v 47=1) (k59:v 59=1) (k60:v 60=1) (k62:v 62=1) (k69:v 69=21):v 78=0:=by
 refine ak (X:=bf ar) (v:=v) (l:=ay) (bF _) hs (k:=78) (r:=.c 0) (ps:=[(6,.c 0),(7,.c 0),(9,.c 0),(11,.c 0),(27,.c 0),(29,.c 1),(30,.c 1),(33,.c 1),(35,.c 1),(37,.c 1),(38,.c 1),(41,.c 1),(43,.c 1),(46,.c 1),(47,.c 1),(59,.c 1),(60,.c 1),(62,.c 1),(69,.c 21)]) (nz:=[]) ?_ az (by kernel_rfl)
 intro y hy;simp only [List.mem_cons,List.not_mem_nil,or_false] at hy;rcases hy with rfl|rfl|rfl|rfl|rfl|rfl|rfl|rfl|rfl|rfl|rfl|rfl|rfl|rfl|rfl|rfl|rfl|rfl|rfl<;>assumption
theorem vS {ar:List Int} {v:Nat->Int} (hs:aA (bf ar) v ay.reverse) (k6:v 6=0) (k7:v 7=0) (k9:v 9=0) (k11:v 11=0) (k27:v 27=0) (k29:v 29=1) (k30:v 30=1) (k33:v 33=1) (k35:v 35=1) (k37:v 37=1) (k38:v 38=1) (k41:v 41=1) (k43:v 43=1) (k46:v 46=1) (k47:v 47=1) (k59:v 59=1) (k60:v 60=1) (k62:v 62=1) (k67:v 67=0) (k68:v 68=0) (k69:v 69=21):v 117=1:=by
 refine ak (X:=bf ar) (v:=v) (l:=ay) (bF _) hs (k:=117) (r:=.c 1) (ps:=[(6,.c 0),(7,.c 0),(9,.c 0),(11,.c 0),(27,.c 0),(29,.c 1),(30,.c 1),(33,.c 1),(35,.c 1),(37,.c 1),(38,.c 1),(41,.c 1),(43,.c 1),(46,.c 1),(47,.c 1),(59,.c 1),(60,.c 1),(62,.c 1),(67,.c 0),(68,.c 0),(69,.c 21)]) (nz:=[]) ?_ az (by kernel_rfl)
 intro y hy;simp only [List.mem_cons,List.not_mem_nil,or_false] at hy;rcases hy with rfl|rfl|rfl|rfl|rfl|rfl|rfl|rfl|rfl|rfl|rfl|rfl|rfl|rfl|rfl|rfl|rfl|rfl|rfl|rfl|rfl<;>assumption
theorem SH {ar:List Int} {v:Nat->Int} (hs:aA (bf ar) v ay.reverse) (k6:v 6=0) (k7:v 7=0) (k9:v 9=0) (k11:v 11=0) (k27:v 27=0) (k29:v 29=1) (k30:v 30=1) (k33:v 33=1) (k35:v 35=1) (k37:v 37=1) (k38:v 38=1) (k41:v 41=1) (k43:v 43=1) (k46:v 46=1) (k47:v 47=1) (k59:v 59=1) (k60:v 60=1) (k62:v 62=1) (k69:v 69=24):v 78=0:=by
 refine ak (X:=bf ar) (v:=v) (l:=ay) (bF _) hs (k:=78) (r:=.c 0) (ps:=[(6,.c 0),(7,.c 0),(9,.c 0),(11,.c 0),(27,.c 0),(29,.c 1),(30,.c 1),(33,.c 1),(35,.c 1),(37,.c 1),(38,.c 1),(41,.c 1),(43,.c 1),(46,.c 1),(47,.c 1),(59,.c 1),(60,.c 1),(62,.c 1),(69,.c 24)]) (nz:=[]) ?_ az (by kernel_rfl)
 intro y hy;simp only [List.mem_cons,List.not_mem_nil,or_false] at hy;rcases hy with rfl|rfl|rfl|rfl|rfl|rfl|rfl|rfl|rfl|rfl|rfl|rfl|rfl|rfl|rfl|rfl|rfl|rfl|rfl<;>assumption
theorem BX {ar:List Int} {v:Nat->Int} (hs:aA (bf ar) v ay.reverse) (k6:v 6=0) (k7:v 7=0) (k9:v 9=0) (k11:v 11=0) (k27:v 27=0) (k29:v 29=1) (k30:v 30=1) (k33:v 33=1) (k35:v 35=1) (k37:v 37=1) (k38:v 38=1) (k41:v 41=1) (k43:v 43=1) (k46:v 46=1) (k47:v 47=1) (k59:v 59=1) (k60:v 60=1) (k62:v 62=1) (k67:v 67=0) (k68:v 68=0) (k69:v 69=24):v 117=1:=by
 refine ak (X:=bf ar) (v:=v) (l:=ay) (bF _) hs (k:=117) (r:=.c 1) (ps:=[(6,.c 0),(7,.c 0),(9,.c 0),(11,.c 0),(27,.c 0),(29,.c 1),(30,.c 1),(33,.c 1),(35,.c 1),(37,.c 1),(38,.c 1),(41,.c 1),(43,.c 1),(46,.c 1),(47,.c 1),(59,.c 1),(60,.c 1),(62,.c 1),(67,.c 0),(68,.c 0),(69,.c 24)]) (nz:=[]) ?_ az (by kernel_rfl)
 intro y hy;simp only [List.mem_cons,List.not_mem_nil,or_false] at hy;rcases hy with rfl|rfl|rfl|rfl|rfl|rfl|rfl|rfl|rfl|rfl|rfl|rfl|rfl|rfl|rfl|rfl|rfl|rfl|rfl|rfl|rfl<;>assumption
theorem agR {ar:List Int} {v:Nat->Int} (hs:aA (bf ar) v ay.reverse):v 79=b2i (decide (v 67<=v 68)):=ae hs 79 rfl
theorem ahi {ar:List Int} {v:Nat->Int} (hs:aA (bf ar) v ay.reverse):v 80=b2i (decide (v 67>=-1099511627776)):=ae hs 80 rfl
theorem agH {ar:List Int} {v:Nat->Int} (hs:aA (bf ar) v ay.reverse):v 82=b2i (decide (v 68<=1099511627776)):=ae hs 82 rfl
theorem agO {ar:List Int} {v:Nat->Int} (hs:aA (bf ar) v ay.reverse):v 85=b2i (decide (v 67<=1099511627776)):=ae hs 85 rfl
theorem agQ {ar:List Int} {v:Nat->Int} (hs:aA (bf ar) v ay.reverse):v 88=b2i (decide (v 68>=-1099511627776)):=ae hs 88 rfl
theorem ahd {ar:List Int} {v:Nat->Int} (hs:aA (bf ar) v ay.reverse):v 93=(eF (v 0) (v 0) (v 1) (v 1) (v 67) (v 68)).getD 0 0:=ae hs 93 rfl
theorem agb {ar:List Int} {v:Nat->Int} (hs:aA (bf ar) v ay.reverse):v 94=(eF (v 0) (v 0) (v 1) (v 1) (v 67) (v 68)).getD 1 0:=ae hs 94 rfl
theorem afa {ar:List Int} {v:Nat->Int} (hs:aA (bf ar) v ay.reverse) (k6:v 6=0) (k7:v 7=0) (k9:v 9=0) (k11:v 11=0) (k27:v 27=0) (k29:v 29=1) (k30:v 30=1) (k33:v 33=1) (k35:v 35=1) (k37:v 37=1) (k38:v 38=1) (k41:v 41=1) (k43:v 43=1) (k46:v 46=1) (k47:v 47=1) (k59:v 59=1) (k60:v 60=1) (k62:v 62=1) (k69:v 69=0) (k79:v 79=1) (k80:v 80=1) (k82:v 82=1) (k85:v 85=1) (k88:v 88=1):v 97=v 93:=by
 refine aB (X:=bf ar) (v:=v) (l:=ay) (bF _) hs (k:=97) (j:=93) (ps:=[(6,.c 0),(7,.c 0),(9,.c 0),(11,.c 0),(27,.c 0),(29,.c 1),(30,.c 1),(33,.c 1),(35,.c 1),(37,.c 1),(38,.c 1),(41,.c 1),(43,.c 1),(46,.c 1),(47,.c 1),(59,.c 1),(60,.c 1),(62,.c 1),(69,.c 0),(79,.c 1),(80,.c 1),(82,.c 1),(85,.c 1),(88,.c 1)]) ?_ (by kernel_rfl)
 intro y hy;simp only [List.mem_cons,List.not_mem_nil,or_false] at hy;rcases hy with rfl|rfl|rfl|rfl|rfl|rfl|rfl|rfl|rfl|rfl|rfl|rfl|rfl|rfl|rfl|rfl|rfl|rfl|rfl|rfl|rfl|rfl|rfl|rfl<;>assumption
theorem VN {ar:List Int} {v:Nat->Int} (hs:aA (bf ar) v ay.reverse) (k6:v 6=0) (k7:v 7=0) (k9:v 9=0) (k11:v 11=0) (k27:v 27=0) (k29:v 29=1) (k30:v 30=1) (k33:v 33=1) (k35:v 35=1) (k37:v 37=1) (k38:v 38=1) (k41:v 41=1) (k43:v 43=1) (k46:v 46=1) (k47:v 47=1) (k59:v 59=1) (k60:v 60=1) (k62:v 62=1) (k69:v 69=0) (k79:v 79=1) (k80:v 80=1) (k82:v 82=1) (k85:v 85=1) (k88:v 88=1):v 98=v 94:=by
 refine aB (X:=bf ar) (v:=v) (l:=ay) (bF _) hs (k:=98) (j:=94) (ps:=[(6,.c 0),(7,.c 0),(9,.c 0),(11,.c 0),(27,.c 0),(29,.c 1),(30,.c 1),(33,.c 1),(35,.c 1),(37,.c 1),(38,.c 1),(41,.c 1),(43,.c 1),(46,.c 1),(47,.c 1),(59,.c 1),(60,.c 1),(62,.c 1),(69,.c 0),(79,.c 1),(80,.c 1),(82,.c 1),(85,.c 1),(88,.c 1)]) ?_ (by kernel_rfl)
 intro y hy;simp only [List.mem_cons,List.not_mem_nil,or_false] at hy;rcases hy with rfl|rfl|rfl|rfl|rfl|rfl|rfl|rfl|rfl|rfl|rfl|rfl|rfl|rfl|rfl|rfl|rfl|rfl|rfl|rfl|rfl|rfl|rfl|rfl<;>assumption
theorem ag1 {ar:List Int} {v:Nat->Int} (hs:aA (bf ar) v ay.reverse):v 99=b2i (decide (v 67<=v 26)):=ae hs 99 rfl
theorem afD {ar:List Int} {v:Nat->Int} (hs:aA (bf ar) v ay.reverse):v 100=b2i (decide (v 26<=v 68)):=ae hs 100 rfl
theorem afF {ar:List Int} {v:Nat->Int} (hs:aA (bf ar) v ay.reverse):v 102=b2i (decide (v 67>=0)):=ae hs 102 rfl
theorem afW {ar:List Int} {v:Nat->Int} (hs:aA (bf ar) v ay.reverse):v 104=b2i (decide (v 68<=10800000)):=ae hs 104 rfl
theorem afS {ar:List Int} {v:Nat->Int} (hs:aA (bf ar) v ay.reverse):v 108=b2i (decide (v 97<=v 56)):=ae hs 108 rfl
theorem afX {ar:List Int} {v:Nat->Int} (hs:aA (bf ar) v ay.reverse):v 109=b2i (decide (v 57<=v 98)):=ae hs 109 rfl
theorem uY {ar:List Int} {v:Nat->Int} (hs:aA (bf ar) v ay.reverse) (k6:v 6=0) (k7:v 7=0) (k9:v 9=0) (k11:v 11=0) (k27:v 27=0) (k29:v 29=1) (k30:v 30=1) (k33:v 33=1) (k35:v 35=1) (k37:v 37=1) (k38:v 38=1) (k41:v 41=1) (k43:v 43=1) (k46:v 46=1) (k47:v 47=1) (k59:v 59=1) (k60:v 60=1) (k62:v 62=1) (k69:v 69=0) (k79:v 79=1) (k80:v 80=1) (k82:v 82=1) (k85:v 85=1) (k88:v 88=1) (k99:v 99=1) (k100:v 100=1) (k102:v 102=1) (k104:v 104=1) (k108:v 108=1) (k109:v 109=1):v 117=1:=by
 refine ak (X:=bf ar) (v:=v) (l:=ay) (bF _) hs (k:=117) (r:=.c 1) (ps:=[(6,.c 0),(7,.c 0),(9,.c 0),(11,.c 0),(27,.c 0),(29,.c 1),(30,.c 1),(33,.c 1),(35,.c 1),(37,.c 1),(38,.c 1),(41,.c 1),(43,.c 1),(46,.c 1),(47,.c 1),(59,.c 1),(60,.c 1),(62,.c 1),(69,.c 0),(79,.c 1),(80,.c 1),(82,.c 1),(85,.c 1),(88,.c 1),(99,.c 1),(100,.c 1),(102,.c 1),(104,.c 1),(108,.c 1),(109,.c 1)]) (nz:=[]) ?_ az (by kernel_rfl)
 intro y hy;simp only [List.mem_cons,List.not_mem_nil,or_false] at hy;rcases hy with rfl|rfl|rfl|rfl|rfl|rfl|rfl|rfl|rfl|rfl|rfl|rfl|rfl|rfl|rfl|rfl|rfl|rfl|rfl|rfl|rfl|rfl|rfl|rfl|rfl|rfl|rfl|rfl|rfl|rfl<;>assumption
theorem afg (a0 a1 a2:Int) (w:World):Calls Try.prog 7 #[.int .i64 a0,.int .i64 a1,.int .i64 a2] w fun e w'=>e=.returned (.bool true)/\Below w.heap.size w w':=by
 refine Sx.calls (X:=bf [a0,a1,a2]) dX (afy _) agU agk (fun v hs=>?_) w
 by_cases q6:v 0 < -5400000
 . have k6:v 6=1:=by rw [(af3 hs),decide_eq_true q6];rfl
   have k13:v 13=0:=(aff hs k6);refine ⟨bO (pM k13),?_⟩;intro x hx;have hx':x=.bool (decide (v 117≠0)):=hx;have hr:v 117=1:=(ae9 hs k6);rw [hx',hr];rfl
 have k6:v 6=0:=by rw [(af3 hs),decide_eq_false q6];rfl
 by_cases q7:v 0>5400000
 . have k7:v 7=1:=by rw [(af4 hs),decide_eq_true q7];rfl
   have k13:v 13=0:=(afq hs k6 k7);refine ⟨bO (pM k13),?_⟩;intro x hx;have hx':x=.bool (decide (v 117≠0)):=hx;have hr:v 117=1:=(Rn hs k6 k7);rw [hx',hr];rfl
 have k7:v 7=0:=by rw [(af4 hs),decide_eq_false q7];rfl
 by_cases q9:v 1 < -5400000
 . have k9:v 9=1:=by rw [(af2 hs),decide_eq_true q9];rfl
   have k13:v 13=0:=(afm hs k6 k7 k9);refine ⟨bO (pM k13),?_⟩;intro x hx;have hx':x=.bool (decide (v 117≠0)):=hx;have hr:v 117=1:=(ae8 hs k6 k7 k9);rw [hx',hr];rfl
 have k9:v 9=0:=by rw [(af2 hs),decide_eq_false q9];rfl
 by_cases q11:v 1>5400000
 . have k11:v 11=1:=by rw [(afo hs),decide_eq_true q11];rfl
   have k13:v 13=0:=(afk hs k6 k7 k9 k11);refine ⟨bO (pM k13),?_⟩;intro x hx;have hx':x=.bool (decide (v 117≠0)):=hx;have hr:v 117=1:=(Yd hs k6 k7 k9 k11);rw [hx',hr];rfl
 have k11:v 11=0:=by rw [(afo hs),decide_eq_false q11];rfl
 have hl:-5400000<=v 0/\v 0<=5400000:=by omega
 have hd:-5400000<=v 1/\v 1<=5400000:=by omega
 clear q6 q7 q9 q11;have ht:=agw (agx hs) (agB hs) (ahg hs) (ag5 hs) (ags hs) (ahx hs) (ahp hs) (agZ hs) (af9 hs) (agC hs);have k27:v 27=0:=by rw [(ahz hs),decide_eq_false (by omega)];rfl
 have k29:v 29=1:=by rw [(aht hs),decide_eq_true (by omega)];rfl
 have k30:v 30=1:=by rw [(ahb hs),decide_eq_true (by omega)];rfl
 have k33:v 33=1:=by rw [(agm hs),decide_eq_true (by omega)];rfl
 have k35:v 35=1:=by rw [(agM hs),decide_eq_true (by omega)];rfl
 have k37:v 37=1:=by rw [(ahw hs),decide_eq_true (by omega)];rfl
 have k38:v 38=1:=by rw [(agT hs),decide_eq_true (by omega)];rfl
 have k41:v 41=1:=by rw [(ahD hs),decide_eq_true (by omega)];rfl
 have k43:v 43=1:=by rw [(agl hs),decide_eq_true (by omega)];rfl
 have k46:v 46=1:=by rw [(agi hs),decide_eq_true (by omega)];rfl
 have k47:v 47=1:=by rw [(agc hs),decide_eq_true (by omega)];rfl
 have x52:v 52=(eF (v 0) (v 0) (v 1) (v 1) (v 26) (v 26)).getD 0 0:=(ahB hs);have x53:v 53=(eF (v 0) (v 0) (v 1) (v 1) (v 26) (v 26)).getD 1 0:=(agy hs);have e56:v 56=v 52:=(afj hs k6 k7 k9 k11 k27 k29 k30 k33 k35 k37 k38 k41 k43 k46 k47);have e57:v 57=v 53:=(PD hs k6 k7 k9 k11 k27 k29 k30 k33 k35 k37 k38 k41 k43 k46 k47);have AR:=afG (v 0) (v 0) (v 1) (v 1) (v 26) (v 26);have HB:=ahf (v 0) (v 1) (v 26) hl hd ht _ rfl _ rfl;rw [<-x52,<-x53,<-e56,<-e57] at AR HB;clear x52 x53 e56 e57;have x67:v 67=(haV (v 0) (v 0) (v 1) (v 1) (v 56) (v 57)).getD 0 0:=agF hs;have x68:v 68=(haV (v 0) (v 0) (v 1) (v 1) (v 56) (v 57)).getD 1 0:=agY hs;have x69:v 69=(haV (v 0) (v 0) (v 1) (v 1) (v 56) (v 57)).getD 2 0:=ag9 hs;have k59:v 59=1:=by rw [(ahy hs),decide_eq_true (by omega)];rfl
 have k60:v 60=1:=by rw [(aha hs),decide_eq_true (by omega)];rfl
 have k62:v 62=1:=by rw [(agn hs),decide_eq_true (by omega)];rfl
 have Q50:cu (v 0) (v 0)=true/\cu (v 1) (v 1)=true/\cu (v 26) (v 26)=true:=⟨(cK _ _).2 (by omega),(cK _ _).2 (by omega),(cK _ _).2 (by omega)⟩
 have Q53:haP (v 0) (v 0) (v 1) (v 1) (v 56) (v 57):=⟨⟨hl.1,Int.le_refl _,hl.2⟩,⟨hd.1,Int.le_refl _,hd.2⟩,AR⟩;rcases HB with h|h|⟨k69,b0,b1,b2,b3,b4,b5⟩
 . rw [h] at x67 x68 x69;have k67:v 67=0:=x67;have k68:v 68=0:=x68;have k69:v 69=21:=x69;have k78:v 78=0:=(SG hs k6 k7 k9 k11 k27 k29 k30 k33 k35 k37 k38 k41 k43 k46 k47 k59 k60 k62 k69);refine ⟨bO (afu Q50 Q53 k78),?_⟩;intro x hx;have hx':x=.bool (decide (v 117≠0)):=hx;have hr:v 117=1:=(vS hs k6 k7 k9 k11 k27 k29 k30 k33 k35 k37 k38 k41 k43 k46 k47 k59 k60 k62 k67 k68 k69);rw [hx',hr];rfl
 . rw [h] at x67 x68 x69;have k67:v 67=0:=x67;have k68:v 68=0:=x68;have k69:v 69=24:=x69;have k78:v 78=0:=(SH hs k6 k7 k9 k11 k27 k29 k30 k33 k35 k37 k38 k41 k43 k46 k47 k59 k60 k62 k69);refine ⟨bO (afu Q50 Q53 k78),?_⟩;intro x hx;have hx':x=.bool (decide (v 117≠0)):=hx;have hr:v 117=1:=(BX hs k6 k7 k9 k11 k27 k29 k30 k33 k35 k37 k38 k41 k43 k46 k47 k59 k60 k62 k67 k68 k69);rw [hx',hr];rfl
 . replace k69:v 69=0:=x69.trans k69;rw [<-x67] at b0 b1;rw [<-x68] at b2 b3;rw [<-x67,<-x68] at b4 b5;clear x67 x68 x69;have k79:v 79=1:=by rw [(agR hs),decide_eq_true (by omega)];rfl
   have k80:v 80=1:=by rw [(ahi hs),decide_eq_true (by omega)];rfl
   have k82:v 82=1:=by rw [(agH hs),decide_eq_true (by omega)];rfl
   have k85:v 85=1:=by rw [(agO hs),decide_eq_true (by omega)];rfl
   have k88:v 88=1:=by rw [(agQ hs),decide_eq_true (by omega)];rfl
   have Q67:cu (v 67) (v 68)=true:=(cK _ _).2 (by omega)
   refine ⟨bO (agW Q50 Q53 Q67),?_⟩;have x93:v 93=(eF (v 0) (v 0) (v 1) (v 1) (v 67) (v 68)).getD 0 0:=(ahd hs);have x94:v 94=(eF (v 0) (v 0) (v 1) (v 1) (v 67) (v 68)).getD 1 0:=(agb hs);have e97:v 97=v 93:=(afa hs k6 k7 k9 k11 k27 k29 k30 k33 k35 k37 k38 k41 k43 k46 k47 k59 k60 k62 k69 k79 k80 k82 k85 k88);have e98:v 98=v 94:=(VN hs k6 k7 k9 k11 k27 k29 k30 k33 k35 k37 k38 k41 k43 k46 k47 k59 k60 k62 k69 k79 k80 k82 k85 k88);rw [<-x93,<-e97] at b4;rw [<-x94,<-e98] at b5;clear x93 x94 e97 e98 Q50 Q53 Q67;have k99:v 99=1:=by rw [(ag1 hs),decide_eq_true (by exact b1)];rfl
   have k100:v 100=1:=by rw [(afD hs),decide_eq_true (by exact b2)];rfl
   have k102:v 102=1:=by rw [(afF hs),decide_eq_true (by exact b0)];rfl
   have k104:v 104=1:=by rw [(afW hs),decide_eq_true (by exact b3)];rfl
   have k108:v 108=1:=by rw [(afS hs),decide_eq_true (by exact b4)];rfl
   have k109:v 109=1:=by rw [(afX hs),decide_eq_true (by exact b5)];rfl
   intro x hx;have hx':x=.bool (decide (v 117≠0)):=hx;have hr:v 117=1:=(uY hs k6 k7 k9 k11 k27 k29 k30 k33 k35 k37 k38 k41 k43 k46 k47 k59 k60 k62 k69 k79 k80 k82 k85 k88 k99 k100 k102 k104 k108 k109);rw [hx',hr];rfl
