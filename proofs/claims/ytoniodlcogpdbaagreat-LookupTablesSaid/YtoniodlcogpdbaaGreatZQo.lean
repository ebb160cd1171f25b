/- The contract of the reference's Quotient, for a divisor that is not under 0 and a factor from 0 to 2^30. -/
import Derived.Test.YtoniodlcogpdbaaGreatZQoP
set_option linter.unusedVariables false
set_option linter.unusedSimpArgs false
set_option maxRecDepth 100000
namespace Go.Proofs.YtoniodlcogpdbaaGreat
open Go.RowKit Alm Sx
theorem gT {p:Prop} [Decidable p] {x y:Int}:(if b2i (decide p)≠0 then x else y)=if p then x else y:=by
 by_cases h:p<;>simp [b2i,h]
theorem IR (p q:Bool):∃ r,(if b2i p≠0 then (1:Int) else b2i q)=b2i r:=by
 cases p
 . exact ⟨q,rfl⟩
 . exact ⟨true,rfl⟩
theorem PE (x n d:Int) (hd:0<d):qFl x n d<=qCe x n d:=by
 unfold qFl qCe;have:=Int.mul_ediv_add_emod (x*n) d;have:=Int.mul_ediv_add_emod (-(x*n)) d;have:=Int.emod_nonneg (x*n) (show d≠0 by omega)
 have:=Int.emod_nonneg (-(x*n)) (show d≠0 by omega)
 refine Int.not_lt.1 fun hh=>?_
 have m:=Int.mul_le_mul_of_nonneg_left (show -(-(x*n)/d)+1<=x*n/d by omega) (show 0<=d by omega)
 have e:d*(-(-(x*n)/d)+1)=-(d*(-(x*n)/d))+d:=by grind
 omega
def dG:List Nd:=[
 .arg 0,
 .arg 1,
 .arg 2,
 .arg 3,
 .arg 4,
 .bin .geq .i64 (.n 4) (.c (-1099511627776)),
 .bin .leq .i64 (.n 4) (.c 1099511627776),
 .ite (.n 5) (.n 6) (.c 0),
 .ite (.n 7) (.c 0) (.c 1),
 .bin .leq .i64 (.n 2) (.c 0),
 .bin .geq .i64 (.n 3) (.c 0),
 .ite (.n 9) (.n 10) (.c 0),
 .ite (.n 11) (.c 0) (.c 1),
 .bin .lss .i64 (.n 2) (.c 0),
 .bin .sub .i64 (.c 0) (.n 1),
 .bin .sub .i64 (.c 0) (.n 0),
 .bin .sub .i64 (.c 0) (.n 3),
 .bin .sub .i64 (.c 0) (.n 2),
 .ite (.n 13) (.c 0) (.c 1),
 .ite (.n 13) (.n 16) (.n 2),
 .ite (.n 13) (.n 17) (.n 3),
 .ite (.n 13) (.n 14) (.n 0),
 .ite (.n 13) (.n 15) (.n 1),
 .bin .lss .i64 (.n 21) (.c 0),
 .bin .sub .i64 (.c 0) (.n 21),
 .ite (.n 23) (.c 0) (.c 1),
 .ite (.n 23) (.n 24) (.n 21),
 .bin .lss .i64 (.n 4) (.c 0),
 .bin .sub .i64 (.c 0) (.n 4),
 .ite (.n 27) (.c 0) (.c 1),
 .ite (.n 27) (.n 28) (.n 4),
 .bin .quo .i64 (.n 26) (.n 19),
 .bin .geq .i64 (.n 31) (.c 2),
 .bin .quo .i64 (.n 30) (.c 1048576),
 .bin .mul .i64 (.n 33) (.n 31),
 .bin .gtr .i64 (.n 34) (.c 4194304),
 .ite (.n 32) (.n 35) (.c 0),
 .bin .lss .i64 (.n 22) (.c 0),
 .bin .sub .i64 (.c 0) (.n 22),
 .ite (.n 37) (.c 0) (.c 1),
 .ite (.n 37) (.n 38) (.n 22),
 .bin .quo .i64 (.n 40) (.n 19),
 .bin .geq .i64 (.n 41) (.c 2),
 .bin .mul .i64 (.n 33) (.n 41),
 .bin .gtr .i64 (.n 43) (.c 4194304),
 .ite (.n 42) (.n 44) (.c 0),
 .ite (.n 36) (.c 1) (.n 45),
 .ite (.n 46) (.c 0) (.c 1),
 .app 62 0 [.n 21,.n 4,.n 19],
 .app 62 0 [.n 21,.n 4,.n 20],
 .bin .lss .i64 (.n 49) (.n 48),
 .ite (.n 50) (.c 0) (.c 1),
 .ite (.n 50) (.n 49) (.n 48),
 .app 62 0 [.n 22,.n 4,.n 19],
 .app 62 0 [.n 22,.n 4,.n 20],
 .bin .lss .i64 (.n 54) (.n 53),
 .ite (.n 55) (.c 0) (.c 1),
 .ite (.n 55) (.n 54) (.n 53),
 .bin .lss .i64 (.n 57) (.n 52),
 .ite (.n 58) (.c 0) (.c 1),
 .ite (.n 58) (.n 57) (.n 52),
 .app 62 0 [.n 21,.n 28,.n 19],
 .app 62 0 [.n 21,.n 28,.n 20],
 .bin .lss .i64 (.n 62) (.n 61),
 .ite (.n 63) (.c 0) (.c 1),
 .ite (.n 63) (.n 62) (.n 61),
 .app 62 0 [.n 22,.n 28,.n 19],
 .app 62 0 [.n 22,.n 28,.n 20],
 .bin .lss .i64 (.n 67) (.n 66),
 .ite (.n 68) (.c 0) (.c 1),
 .ite (.n 68) (.n 67) (.n 66),
 .bin .lss .i64 (.n 70) (.n 65),
 .ite (.n 71) (.c 0) (.c 1),
 .ite (.n 71) (.n 70) (.n 65),
 .bin .sub .i64 (.c 0) (.n 73),
 .bin .geq .i64 (.n 60) (.c (-1099511627776)),
 .bin .leq .i64 (.n 60) (.c 1099511627776),
 .ite (.n 75) (.n 76) (.c 0),
 .ite (.n 77) (.c 0) (.c 1),
 .bin .geq .i64 (.n 74) (.c (-1099511627776)),
 .bin .leq .i64 (.n 74) (.c 1099511627776),
 .ite (.n 79) (.n 80) (.c 0),
 .ite (.n 81) (.c 0) (.c 1),
 .ite (.n 78) (.c 1) (.n 82),
 .ite (.n 83) (.c 0) (.c 1),
 .ite (.n 83) (.c 0) (.n 60),
 .ite (.n 83) (.c 0) (.n 74),
 .ite (.n 83) (.c 5) (.c 0),
 .ite (.n 46) (.c 0) (.n 85),
 .ite (.n 46) (.c 0) (.n 86),
 .ite (.n 46) (.c 5) (.n 87),
 .ite (.n 11) (.c 0) (.n 88),
 .ite (.n 11) (.c 0) (.n 89),
 .ite (.n 11) (.c 16) (.n 90),
 .ite (.n 11) (.n 2) (.n 19),
 .ite (.n 11) (.n 3) (.n 20),
 .ite (.n 11) (.n 0) (.n 21),
 .ite (.n 11) (.n 1) (.n 22),
 .ite (.n 8) (.c 0) (.n 91),
 .ite (.n 8) (.c 0) (.n 92),
 .ite (.n 8) (.c 2) (.n 93),
 .ite (.n 8) (.n 2) (.n 94),
 .ite (.n 8) (.n 3) (.n 95),
 .ite (.n 8) (.n 0) (.n 96),
 .ite (.n 8) (.n 1) (.n 97)]
def YS:List Vc:=[
 ⟨[(.n 12,true),(.n 7,true)],.ne0 (.n 19)⟩,
 ⟨[(.n 12,true),(.n 7,true),(.n 32,true)],.ne0 (.n 19)⟩,
 ⟨[(.n 12,true),(.n 7,true),(.n 36,false)],.ne0 (.n 19)⟩,
 ⟨[(.n 12,true),(.n 7,true),(.n 36,false),(.n 42,true)],.ne0 (.n 19)⟩,
 ⟨[(.n 47,true),(.n 12,true),(.n 7,true)],.pre 62 [.n 21,.n 4,.n 19]⟩,
 ⟨[(.n 47,true),(.n 12,true),(.n 7,true)],.pre 62 [.n 21,.n 4,.n 20]⟩,
 ⟨[(.n 47,true),(.n 12,true),(.n 7,true)],.pre 62 [.n 22,.n 4,.n 19]⟩,
 ⟨[(.n 47,true),(.n 12,true),(.n 7,true)],.pre 62 [.n 22,.n 4,.n 20]⟩,
 ⟨[(.n 47,true),(.n 12,true),(.n 7,true)],.pre 62 [.n 21,.n 28,.n 19]⟩,
 ⟨[(.n 47,true),(.n 12,true),(.n 7,true)],.pre 62 [.n 21,.n 28,.n 20]⟩,
 ⟨[(.n 47,true),(.n 12,true),(.n 7,true)],.pre 62 [.n 22,.n 28,.n 19]⟩,
 ⟨[(.n 47,true),(.n 12,true),(.n 7,true)],.pre 62 [.n 22,.n 28,.n 20]⟩]
theorem XV:whole Tryz.prog T9 20 40 52 [(true,[some .i64,some .i64]),(true,[some .i64,some .i64]),(false,[some .i64])]=some (.tup [.c (.int .i64 (.n 98)),.c (.int .i64 (.n 99)),.c (.int .i64 (.n 100))],⟨dG.reverse,YS.reverse⟩):=by kernel_rfl
theorem Yc:wfN dG.reverse=true:=by kernel_rfl
theorem VQ (a b c d n:Int) (w:World) (hp0:qoP a b c d n):Calls Tryz.prog 52 #[.agg #[.int .i64 a,.int .i64 b],.agg #[.int .i64 c,.int .i64 d],.int .i64 n] w fun e w'=>e=.returned (.tuple #[.int .i64 ((qoV a b c d n).getD 0 0),.int .i64 ((qoV a b c d n).getD 1 0),.int .i64 ((qoV a b c d n).getD 2 0)])/\Below w.heap.size w w':=by
 refine Sx.calls (X:=eG [a,b,c,d,n]) dP (J7 _) XV Yc (fun v hs=>?_) w
 obtain ⟨hab,hcd,c0,n0,n1⟩:=hp0;have ha:=(bS _ _).1 hab;have hc:=(bS _ _).1 hcd;have e0:v 0=a:=aa hs 0 rfl;have e1:v 1=b:=aa hs 1 rfl;have e2:v 2=c:=aa hs 2 rfl;have e3:v 3=d:=aa hs 3 rfl;have e4:v 4=n:=aa hs 4 rfl;have e5:v 5=b2i (decide (v 4>=(-1099511627776:Int))):=aa hs 5 rfl;have e6:v 6=b2i (decide (v 4<=(1099511627776:Int))):=aa hs 6 rfl;have e9:v 9=b2i (decide (v 2<=(0:Int))):=aa hs 9 rfl;have e10:v 10=b2i (decide (v 3>=(0:Int))):=aa hs 10 rfl;have e13:v 13=b2i (decide (v 2<(0:Int))):=aa hs 13 rfl;have e23:v 23=b2i (decide (v 21<(0:Int))):=aa hs 23 rfl;have e24:v 24=IntKind.i64.wrap ((0:Int)-v 21):=aa hs 24 rfl;have e26:v 26=if v 23≠0 then v 24 else v 21:=aa hs 26 rfl
 have e27:v 27=b2i (decide (v 4<(0:Int))):=aa hs 27 rfl;have e28:v 28=IntKind.i64.wrap ((0:Int)-v 4):=aa hs 28 rfl;have e30:v 30=if v 27≠0 then v 28 else v 4:=aa hs 30 rfl
 have e31:v 31=IntKind.i64.wrap (Int.tdiv (v 26) (v 19)):=aa hs 31 rfl;have e32:v 32=b2i (decide (v 31>=(2:Int))):=aa hs 32 rfl;have e33:v 33=IntKind.i64.wrap (Int.tdiv (v 30) ((1048576:Int))):=aa hs 33 rfl;have e34:v 34=IntKind.i64.wrap (v 33*v 31):=aa hs 34 rfl;have e35:v 35=b2i (decide (v 34>(4194304:Int))):=aa hs 35 rfl;have e36:v 36=if v 32≠0 then v 35 else (0:Int):=aa hs 36 rfl
 have e37:v 37=b2i (decide (v 22<(0:Int))):=aa hs 37 rfl;have e38:v 38=IntKind.i64.wrap ((0:Int)-v 22):=aa hs 38 rfl;have e40:v 40=if v 37≠0 then v 38 else v 22:=aa hs 40 rfl
 have e41:v 41=IntKind.i64.wrap (Int.tdiv (v 40) (v 19)):=aa hs 41 rfl;have e42:v 42=b2i (decide (v 41>=(2:Int))):=aa hs 42 rfl;have e43:v 43=IntKind.i64.wrap (v 33*v 41):=aa hs 43 rfl;have e44:v 44=b2i (decide (v 43>(4194304:Int))):=aa hs 44 rfl;have e45:v 45=if v 42≠0 then v 44 else (0:Int):=aa hs 45 rfl
 have e46:v 46=if v 36≠0 then (1:Int) else v 45:=aa hs 46 rfl
 have e48:v 48=(fP 62 [v 21,v 4,v 19]).getD 0 0:=aa hs 48 rfl;have e49:v 49=(fP 62 [v 21,v 4,v 20]).getD 0 0:=aa hs 49 rfl;have e50:v 50=b2i (decide (v 49<v 48)):=aa hs 50 rfl;have e52:v 52=if v 50≠0 then v 49 else v 48:=aa hs 52 rfl
 have e53:v 53=(fP 62 [v 22,v 4,v 19]).getD 0 0:=aa hs 53 rfl;have e54:v 54=(fP 62 [v 22,v 4,v 20]).getD 0 0:=aa hs 54 rfl;have e55:v 55=b2i (decide (v 54<v 53)):=aa hs 55 rfl;have e57:v 57=if v 55≠0 then v 54 else v 53:=aa hs 57 rfl
 have e58:v 58=b2i (decide (v 57<v 52)):=aa hs 58 rfl;have e60:v 60=if v 58≠0 then v 57 else v 52:=aa hs 60 rfl
 have e61:v 61=(fP 62 [v 21,v 28,v 19]).getD 0 0:=aa hs 61 rfl;have e62:v 62=(fP 62 [v 21,v 28,v 20]).getD 0 0:=aa hs 62 rfl;have e63:v 63=b2i (decide (v 62<v 61)):=aa hs 63 rfl;have e65:v 65=if v 63≠0 then v 62 else v 61:=aa hs 65 rfl
 have e66:v 66=(fP 62 [v 22,v 28,v 19]).getD 0 0:=aa hs 66 rfl;have e67:v 67=(fP 62 [v 22,v 28,v 20]).getD 0 0:=aa hs 67 rfl;have e68:v 68=b2i (decide (v 67<v 66)):=aa hs 68 rfl;have e70:v 70=if v 68≠0 then v 67 else v 66:=aa hs 70 rfl
 have e71:v 71=b2i (decide (v 70<v 65)):=aa hs 71 rfl;have e73:v 73=if v 71≠0 then v 70 else v 65:=aa hs 73 rfl
 have e74:v 74=IntKind.i64.wrap ((0:Int)-v 73):=aa hs 74 rfl;have e75:v 75=b2i (decide (v 60>=(-1099511627776:Int))):=aa hs 75 rfl;have e76:v 76=b2i (decide (v 60<=(1099511627776:Int))):=aa hs 76 rfl;have e77:v 77=if v 75≠0 then v 76 else (0:Int):=aa hs 77 rfl
 have e79:v 79=b2i (decide (v 74>=(-1099511627776:Int))):=aa hs 79 rfl;have e80:v 80=b2i (decide (v 74<=(1099511627776:Int))):=aa hs 80 rfl;have e81:v 81=if v 79≠0 then v 80 else (0:Int):=aa hs 81 rfl
 have A5:v 5=1:=by rw [e5,e4,decide_eq_true (show n>=(-1099511627776:Int) by omega)];rfl
 have A6:v 6=1:=by rw [e6,e4,decide_eq_true (show n<=(1099511627776:Int) by omega)];rfl
 have A13:v 13=0:=by rw [e13,e2,decide_eq_false (show ¬ c<0 by omega)];rfl
 by_cases hz:c<=0
 . have A9:v 9=1:=by rw [e9,e2,decide_eq_true hz];rfl
   have A10:v 10=1:=by rw [e10,e3,decide_eq_true (show d>=0 by omega)];rfl
   have z12:v 12=0:=ax (X:=eG [a,b,c,d,n]) (v:=v) (l:=dG) (aX _) hs (k:=12) (r:=.c 0) (ps:=[(5,.c 1),(6,.c 1),(9,.c 1),(10,.c 1),(13,.c 0)]) (nz:=[]) (ae A5 (ae A6 (ae A9 (ae A10 (ae A13 av))))) aA (by kernel_rfl)
   have z98:v 98=0:=ax (X:=eG [a,b,c,d,n]) (v:=v) (l:=dG) (aX _) hs (k:=98) (r:=.c 0) (ps:=[(5,.c 1),(6,.c 1),(9,.c 1),(10,.c 1),(13,.c 0)]) (nz:=[]) (ae A5 (ae A6 (ae A9 (ae A10 (ae A13 av))))) aA (by kernel_rfl)
   have z99:v 99=0:=ax (X:=eG [a,b,c,d,n]) (v:=v) (l:=dG) (aX _) hs (k:=99) (r:=.c 0) (ps:=[(5,.c 1),(6,.c 1),(9,.c 1),(10,.c 1),(13,.c 0)]) (nz:=[]) (ae A5 (ae A6 (ae A9 (ae A10 (ae A13 av))))) aA (by kernel_rfl)
   have z100:v 100=16:=ax (X:=eG [a,b,c,d,n]) (v:=v) (l:=dG) (aX _) hs (k:=100) (r:=.c 16) (ps:=[(5,.c 1),(6,.c 1),(9,.c 1),(10,.c 1),(13,.c 0)]) (nz:=[]) (ae A5 (ae A6 (ae A9 (ae A10 (ae A13 av))))) aA (by kernel_rfl)
   refine ⟨bB ?_,?_⟩
   . exact ag (fun hp=>absurd z12 (aj hp).1) (ag (fun hp=>absurd z12 (aj hp).1) (ag (fun hp=>absurd z12 (aj hp).1) (ag (fun hp=>absurd z12 (aj hp).1) (ag (fun hp=>absurd z12 (aj (aj hp).2).1) (ag (fun hp=>absurd z12 (aj (aj hp).2).1) (ag (fun hp=>absurd z12 (aj (aj hp).2).1) (ag (fun hp=>absurd z12 (aj (aj hp).2).1) (ag (fun hp=>absurd z12 (aj (aj hp).2).1) (ag (fun hp=>absurd z12 (aj (aj hp).2).1) (ag (fun hp=>absurd z12 (aj (aj hp).2).1) (ag (fun hp=>absurd z12 (aj (aj hp).2).1) (bu))))))))))))
   . intro x hx0;have hx':=bM (v:=v) (by rfl) hx0
     rw [hx'];show Value.tuple #[.int .i64 (v 98),.int .i64 (v 99),.int .i64 (v 100)]=_;have V:qoV a b c d n=[0,0,16]:=if_pos hz;rw [z98,z99,z100,V];rfl
 . have A9:v 9=0:=by rw [e9,e2,decide_eq_false hz];rfl
   have z19:v 19=v 2:=iP (X:=eG [a,b,c,d,n]) (v:=v) (l:=dG) (aX _) hs (k:=19) (j:=2) (ps:=[(5,.c 1),(6,.c 1),(9,.c 0),(13,.c 0)]) (ae A5 (ae A6 (ae A9 (ae A13 av)))) (by kernel_rfl)
   have z20:v 20=v 3:=iP (X:=eG [a,b,c,d,n]) (v:=v) (l:=dG) (aX _) hs (k:=20) (j:=3) (ps:=[(5,.c 1),(6,.c 1),(9,.c 0),(13,.c 0)]) (ae A5 (ae A6 (ae A9 (ae A13 av)))) (by kernel_rfl)
   have z21:v 21=v 0:=iP (X:=eG [a,b,c,d,n]) (v:=v) (l:=dG) (aX _) hs (k:=21) (j:=0) (ps:=[(5,.c 1),(6,.c 1),(9,.c 0),(13,.c 0)]) (ae A5 (ae A6 (ae A9 (ae A13 av)))) (by kernel_rfl)
   have z22:v 22=v 1:=iP (X:=eG [a,b,c,d,n]) (v:=v) (l:=dG) (aX _) hs (k:=22) (j:=1) (ps:=[(5,.c 1),(6,.c 1),(9,.c 0),(13,.c 0)]) (ae A5 (ae A6 (ae A9 (ae A13 av)))) (by kernel_rfl)
   have w19:v 19=c:=z19.trans e2;have w20:v 20=d:=z20.trans e3;have w21:v 21=a:=z21.trans e0;have w22:v 22=b:=z22.trans e1;have w28:v 28=-n:=by rw [e28,e4,Go.IntWalk.i64_in _ (by omega)];omega
   have P1:EnP (v 21) (v 4) (v 19):=by rw [w21,e4,w19];exact ⟨by omega,by omega,by omega⟩
   have P2:EnP (v 21) (v 4) (v 20):=by rw [w21,e4,w20];exact ⟨by omega,by omega,by omega⟩
   have P3:EnP (v 22) (v 4) (v 19):=by rw [w22,e4,w19];exact ⟨by omega,by omega,by omega⟩
   have P4:EnP (v 22) (v 4) (v 20):=by rw [w22,e4,w20];exact ⟨by omega,by omega,by omega⟩
   have P5:EnP (v 21) (v 28) (v 19):=by rw [w21,w28,w19];exact ⟨by omega,by omega,by omega⟩
   have P6:EnP (v 21) (v 28) (v 20):=by rw [w21,w28,w20];exact ⟨by omega,by omega,by omega⟩
   have P7:EnP (v 22) (v 28) (v 19):=by rw [w22,w28,w19];exact ⟨by omega,by omega,by omega⟩
   have P8:EnP (v 22) (v 28) (v 20):=by rw [w22,w28,w20];exact ⟨by omega,by omega,by omega⟩
   have R1:=nQ (x:=a) (n:=n) (d:=c) (by rw [<-w21,<-e4,<-w19];exact P1)
   have R2:=nQ (x:=a) (n:=n) (d:=d) (by rw [<-w21,<-e4,<-w20];exact P2)
   have R3:=nQ (x:=b) (n:=n) (d:=c) (by rw [<-w22,<-e4,<-w19];exact P3)
   have R4:=nQ (x:=b) (n:=n) (d:=d) (by rw [<-w22,<-e4,<-w20];exact P4)
   have f48:v 48=qFl a n c:=by rw [e48,w21,e4,w19];rfl
   have f49:v 49=qFl a n d:=by rw [e49,w21,e4,w20];rfl
   have f53:v 53=qFl b n c:=by rw [e53,w22,e4,w19];rfl
   have f54:v 54=qFl b n d:=by rw [e54,w22,e4,w20];rfl
   have f61:v 61=-qCe a n c:=by rw [e61,w21,w28,w19];exact vL _ _ _
   have f62:v 62=-qCe a n d:=by rw [e62,w21,w28,w20];exact vL _ _ _
   have f66:v 66=-qCe b n c:=by rw [e66,w22,w28,w19];exact vL _ _ _
   have f67:v 67=-qCe b n d:=by rw [e67,w22,w28,w20];exact vL _ _ _
   have L:v 60=qoL a b c d n:=by
    rw [e60,e58,gT,e57,e55,gT,e52,e50,gT,f48,f49,f53,f54];unfold qoL;generalize qFl a n c=x1;generalize qFl a n d=x2;generalize qFl b n c=x3;generalize qFl b n d=x4
    (repeat' split)<;>omega
   have H0:v 73=-qoH a b c d n:=by
    rw [e73,e71,gT,e70,e68,gT,e65,e63,gT,f61,f62,f66,f67];unfold qoH;generalize qCe a n c=x1;generalize qCe a n d=x2;generalize qCe b n c=x3;generalize qCe b n d=x4
    (repeat' split)<;>omega
   have HR:-2305843009213693952<=qoH a b c d n/\qoH a b c d n<=2305843009213693952:=by unfold qoH;omega
   have H:v 74=qoH a b c d n:=by rw [e74,H0,Go.IntWalk.i64_in _ (by omega)];omega
   have B1:v 77=b2i (dz (qoL a b c d n)):=by rw [<-L];exact Jw e75 e76 e77
   have B2:v 81=b2i (dz (qoH a b c d n)):=by rw [<-H];exact Jw e79 e80 e81
   have w26:v 26=if a<0 then -a else a:=by
    rw [e26,e23,gT,e24,w21];split
    . rw [Go.IntWalk.i64_in _ (by omega)];omega
    . rfl
   have w40:v 40=if b<0 then -b else b:=by
    rw [e40,e37,gT,e38,w22];split
    . rw [Go.IntWalk.i64_in _ (by omega)];omega
    . rfl
   have w30:v 30=n:=by rw [e30,e27,gT,e4,if_neg (by omega)]
   have n26:0<=v 26/\v 26<=2147483648:=by rw [w26];split<;>omega
   have n40:0<=v 40/\v 40<=2147483648:=by rw [w40];split<;>omega
   have q26:0<=v 26/c/\v 26/c<=2147483648:=⟨Int.ediv_nonneg n26.1 (by omega),Int.le_trans (Int.ediv_le_self _ n26.1) n26.2⟩
   have q40:0<=v 40/c/\v 40/c<=2147483648:=⟨Int.ediv_nonneg n40.1 (by omega),Int.le_trans (Int.ediv_le_self _ n40.1) n40.2⟩
   have w31:v 31=v 26/c:=by rw [e31,w19,BQ n26.1,Go.IntWalk.i64_in _ (by omega)]
   have w41:v 41=v 40/c:=by rw [e41,w19,BQ n40.1,Go.IntWalk.i64_in _ (by omega)]
   have w33:v 33=n/1048576:=by rw [e33,w30,BQ n0,Go.IntWalk.i64_in _ (by omega)]
   have m33:0<=n/1048576/\n/1048576<=1024:=by omega
   have w34:v 34=n/1048576*(v 26/c):=by
    have p1:=Int.mul_nonneg m33.1 q26.1;have p2:=Int.mul_le_mul m33.2 q26.2 q26.1 (by omega)
    rw [e34,w33,w31,Go.IntWalk.i64_in _ (by omega)]
   have w43:v 43=n/1048576*(v 40/c):=by
    have p1:=Int.mul_nonneg m33.1 q40.1;have p2:=Int.mul_le_mul m33.2 q40.2 q40.1 (by omega)
    rw [e43,w33,w41,Go.IntWalk.i64_in _ (by omega)]
   have BIG1:v 36≠0->dz (qoL a b c d n)=true/\dz (qoH a b c d n)=true->False:=by
    intro h36 ⟨k1,k2⟩
    have h35:4194304<v 34:=by
     rw [e36] at h36
     by_cases g:v 32≠0
     . rw [if_pos g,e35,vN] at h36;simpa using h36
     . rw [if_neg g] at h36;exact absurd rfl h36
    rw [w34] at h35;have bg:=I6 n26.1 n0 (show 0<c by omega) rfl rfl h35
    have l1:qoL a b c d n<=qFl a n c:=by unfold qoL;omega
    have l2:qCe a n c<=qoH a b c d n:=by unfold qoH;omega
    unfold dz at k1 k2;simp only [decide_eq_true_eq] at k1 k2;rw [w26] at bg;have le:=PE a n c (by omega)
    unfold qFl qCe at *
    by_cases s:a<0
    . rw [if_pos s,Int.neg_mul] at bg;omega
    . rw [if_neg s] at bg;omega
   have BIG2:v 45≠0->dz (qoL a b c d n)=true/\dz (qoH a b c d n)=true->False:=by
    intro h45 ⟨k1,k2⟩
    have h44:4194304<v 43:=by
     rw [e45] at h45
     by_cases g:v 42≠0
     . rw [if_pos g,e44,vN] at h45;simpa using h45
     . rw [if_neg g] at h45;exact absurd rfl h45
    rw [w43] at h44;have bg:=I6 n40.1 n0 (show 0<c by omega) rfl rfl h44
    have l1:qoL a b c d n<=qFl b n c:=by unfold qoL;omega
    have l2:qCe b n c<=qoH a b c d n:=by unfold qoH;omega
    unfold dz at k1 k2;simp only [decide_eq_true_eq] at k1 k2;rw [w40] at bg;have le:=PE b n c (by omega)
    unfold qFl qCe at *
    by_cases s:b<0
    . rw [if_pos s,Int.neg_mul] at bg;omega
    . rw [if_neg s] at bg;omega
   refine ⟨bB ?_,?_⟩
   . exact ag (fun _=>(show v 19≠0 by rw [w19];omega)) (ag (fun _=>(show v 19≠0 by rw [w19];omega)) (ag (fun _=>(show v 19≠0 by rw [w19];omega)) (ag (fun _=>(show v 19≠0 by rw [w19];omega)) (ag (fun _=>P1) (ag (fun _=>P2) (ag (fun _=>P3) (ag (fun _=>P4) (ag (fun _=>P5) (ag (fun _=>P6) (ag (fun _=>P7) (ag (fun _=>P8) (bu))))))))))))
   . intro x hx0;have hx':=bM (v:=v) (by rfl) hx0
     rw [hx'];show Value.tuple #[.int .i64 (v 98),.int .i64 (v 99),.int .i64 (v 100)]=_
     by_cases hk:dz (qoL a b c d n)=true/\dz (qoH a b c d n)=true
     . have b1:v 77=1:=by rw [B1,hk.1];rfl
       have b2:v 81=1:=by rw [B2,hk.2];rfl
       have b3:v 36=0:=Classical.byContradiction fun q=>BIG1 q hk
       have b4:v 45=0:=Classical.byContradiction fun q=>BIG2 q hk
       have z98:v 98=v 60:=iP (X:=eG [a,b,c,d,n]) (v:=v) (l:=dG) (aX _) hs (k:=98) (j:=60) (ps:=[(5,.c 1),(6,.c 1),(9,.c 0),(13,.c 0),(36,.c 0),(45,.c 0),(77,.c 1),(81,.c 1)]) (ae A5 (ae A6 (ae A9 (ae A13 (ae b3 (ae b4 (ae b1 (ae b2 av)))))))) (by kernel_rfl)
       have z99:v 99=v 74:=iP (X:=eG [a,b,c,d,n]) (v:=v) (l:=dG) (aX _) hs (k:=99) (j:=74) (ps:=[(5,.c 1),(6,.c 1),(9,.c 0),(13,.c 0),(36,.c 0),(45,.c 0),(77,.c 1),(81,.c 1)]) (ae A5 (ae A6 (ae A9 (ae A13 (ae b3 (ae b4 (ae b1 (ae b2 av)))))))) (by kernel_rfl)
       have z100:v 100=0:=ax (X:=eG [a,b,c,d,n]) (v:=v) (l:=dG) (aX _) hs (k:=100) (r:=.c 0) (ps:=[(5,.c 1),(6,.c 1),(9,.c 0),(13,.c 0),(36,.c 0),(45,.c 0),(77,.c 1),(81,.c 1)]) (nz:=[]) (ae A5 (ae A6 (ae A9 (ae A13 (ae b3 (ae b4 (ae b1 (ae b2 av)))))))) aA (by kernel_rfl)
       have V:qoV a b c d n=[qoL a b c d n,qoH a b c d n,0]:=by
        unfold qoV;rw [if_neg hz,if_pos hk]
       rw [z98,z99,z100,V,L,H];rfl
     . have V:qoV a b c d n=[0,0,5]:=by
        unfold qoV;rw [if_neg hz,if_neg hk]
       rw [V]
       have B46:∃ q,v 46=b2i q:=by
        rw [e46,e36,e45,e35,e44]
        by_cases g1:v 32≠0<;>by_cases g2:v 42≠0<;>simp only [g1,g2,if_true,if_false,ne_eq,not_true_eq_false,not_false_eq_true]
        all_goals first
         | exact ⟨_,rfl⟩
         | exact ⟨false,rfl⟩
         | exact IR _ _
         | exact IR _ false
       obtain ⟨q,h46⟩:=B46;cases q
       . have b5:v 46=0:=h46;cases h1:dz (qoL a b c d n)
         . have b1:v 77=0:=by rw [B1,h1];rfl
           have z98:v 98=0:=ax (X:=eG [a,b,c,d,n]) (v:=v) (l:=dG) (aX _) hs (k:=98) (r:=.c 0) (ps:=[(5,.c 1),(6,.c 1),(9,.c 0),(13,.c 0),(46,.c 0),(77,.c 0)]) (nz:=[]) (ae A5 (ae A6 (ae A9 (ae A13 (ae b5 (ae b1 av)))))) aA (by kernel_rfl)
           have z99:v 99=0:=ax (X:=eG [a,b,c,d,n]) (v:=v) (l:=dG) (aX _) hs (k:=99) (r:=.c 0) (ps:=[(5,.c 1),(6,.c 1),(9,.c 0),(13,.c 0),(46,.c 0),(77,.c 0)]) (nz:=[]) (ae A5 (ae A6 (ae A9 (ae A13 (ae b5 (ae b1 av)))))) aA (by kernel_rfl)
           have z100:v 100=5:=ax (X:=eG [a,b,c,d,n]) (v:=v) (l:=dG) (aX _) hs (k:=100) (r:=.c 5) (ps:=[(5,.c 1),(6,.c 1),(9,.c 0),(13,.c 0),(46,.c 0),(77,.c 0)]) (nz:=[]) (ae A5 (ae A6 (ae A9 (ae A13 (ae b5 (ae b1 av)))))) aA (by kernel_rfl)
           rw [z98,z99,z100];rfl
         . have h2:dz (qoH a b c d n)=false:=by
            cases h2:dz (qoH a b c d n)
            . rfl
            . exact absurd ⟨h1,h2⟩ hk
           have b1:v 77=1:=by rw [B1,h1];rfl
           have b2:v 81=0:=by rw [B2,h2];rfl
           have z98:v 98=0:=ax (X:=eG [a,b,c,d,n]) (v:=v) (l:=dG) (aX _) hs (k:=98) (r:=.c 0) (ps:=[(5,.c 1),(6,.c 1),(9,.c 0),(13,.c 0),(46,.c 0),(77,.c 1),(81,.c 0)]) (nz:=[]) (ae A5 (ae A6 (ae A9 (ae A13 (ae b5 (ae b1 (ae b2 av))))))) aA (by kernel_rfl)
           have z99:v 99=0:=ax (X:=eG [a,b,c,d,n]) (v:=v) (l:=dG) (aX _) hs (k:=99) (r:=.c 0) (ps:=[(5,.c 1),(6,.c 1),(9,.c 0),(13,.c 0),(46,.c 0),(77,.c 1),(81,.c 0)]) (nz:=[]) (ae A5 (ae A6 (ae A9 (ae A13 (ae b5 (ae b1 (ae b2 av))))))) aA (by kernel_rfl)
           have z100:v 100=5:=ax (X:=eG [a,b,c,d,n]) (v:=v) (l:=dG) (aX _) hs (k:=100) (r:=.c 5) (ps:=[(5,.c 1),(6,.c 1),(9,.c 0),(13,.c 0),(46,.c 0),(77,.c 1),(81,.c 0)]) (nz:=[]) (ae A5 (ae A6 (ae A9 (ae A13 (ae b5 (ae b1 (ae b2 av))))))) aA (by kernel_rfl)
           rw [z98,z99,z100];rfl
       . have b5:v 46=1:=h46;have z98:v 98=0:=ax (X:=eG [a,b,c,d,n]) (v:=v) (l:=dG) (aX _) hs (k:=98) (r:=.c 0) (ps:=[(5,.c 1),(6,.c 1),(9,.c 0),(13,.c 0),(46,.c 1)]) (nz:=[]) (ae A5 (ae A6 (ae A9 (ae A13 (ae b5 av))))) aA (by kernel_rfl)
         have z99:v 99=0:=ax (X:=eG [a,b,c,d,n]) (v:=v) (l:=dG) (aX _) hs (k:=99) (r:=.c 0) (ps:=[(5,.c 1),(6,.c 1),(9,.c 0),(13,.c 0),(46,.c 1)]) (nz:=[]) (ae A5 (ae A6 (ae A9 (ae A13 (ae b5 av))))) aA (by kernel_rfl)
         have z100:v 100=5:=ax (X:=eG [a,b,c,d,n]) (v:=v) (l:=dG) (aX _) hs (k:=100) (r:=.c 5) (ps:=[(5,.c 1),(6,.c 1),(9,.c 0),(13,.c 0),(46,.c 1)]) (nz:=[]) (ae A5 (ae A6 (ae A9 (ae A13 (ae b5 av))))) aA (by kernel_rfl)
         rw [z98,z99,z100];rfl
