/- The contracts of current.MadeGood and current.Found. -/
import Derived.Test.YtmldbeipmappnaaZCur2
import Derived.Test.YtmldbeipmappnaaZEv
set_option linter.unusedVariables false
set_option linter.unusedSimpArgs false
set_option maxRecDepth 100000
namespace Go.Proofs.Ytmldbeipmappnaa
open Go.RowKit Alm Sx
def coS (p q:List Int):List Int:=coV (p.getD 0 0+q.getD 0 0) (p.getD 1 0+q.getD 1 0) (p.getD 2 0+q.getD 2 0) (p.getD 3 0+q.getD 3 0)
def coD (p q:List Int):List Int:=coV (p.getD 0 0-q.getD 1 0) (p.getD 1 0-q.getD 0 0) (p.getD 2 0-q.getD 3 0) (p.getD 3 0-q.getD 2 0)
def jnV (s:List Int):List Int:=if 0<=s.getD 2 0/\s.getD 2 0<=s.getD 3 0/\s.getD 3 0<=200000 then [s.getD 0 0,s.getD 1 0,s.getD 2 0,s.getD 3 0,0] else [0,0,0,0,5]
def mgV (a b c d e f g h:Int):List Int:=if MV a b c d/\MV e f g h then jnV (coS (paV a b c d) (paV e f g h)) else [0,0,0,0,1]
def foV (a b c d e f g h:Int):List Int:=if MV e f g h/\MV a b c d then jnV (coD (paV e f g h) (paV a b c d)) else [0,0,0,0,1]
theorem AO (a b c d e:Int):[a,b,c,d,e].getD 0 0=a/\[a,b,c,d,e].getD 1 0=b/\[a,b,c,d,e].getD 2 0=c/\[a,b,c,d,e].getD 3 0=d/\[a,b,c,d,e].getD 4 0=e:=⟨rfl,rfl,rfl,rfl,rfl⟩
def dw:List Nd:=[
 .arg 0,
 .arg 1,
 .arg 2,
 .arg 3,
 .arg 4,
 .arg 5,
 .arg 6,
 .arg 7,
 .app 42 0 [.n 0,.n 1,.n 2,.n 3],
 .ite (.n 8) (.c 0) (.c 1),
 .app 42 0 [.n 4,.n 5,.n 6,.n 7],
 .ite (.n 10) (.c 0) (.c 1),
 .ite (.n 9) (.c 1) (.n 11),
 .ite (.n 12) (.c 0) (.c 1),
 .app 37 0 [.n 0,.n 1,.n 2,.n 3],
 .app 37 1 [.n 0,.n 1,.n 2,.n 3],
 .app 37 2 [.n 0,.n 1,.n 2,.n 3],
 .app 37 3 [.n 0,.n 1,.n 2,.n 3],
 .app 37 4 [.n 0,.n 1,.n 2,.n 3],
 .bin .neq .i64 (.n 18) (.c 0),
 .ite (.n 19) (.c 0) (.c 1),
 .app 37 0 [.n 4,.n 5,.n 6,.n 7],
 .app 37 1 [.n 4,.n 5,.n 6,.n 7],
 .app 37 2 [.n 4,.n 5,.n 6,.n 7],
 .app 37 3 [.n 4,.n 5,.n 6,.n 7],
 .app 37 4 [.n 4,.n 5,.n 6,.n 7],
 .bin .neq .i64 (.n 25) (.c 0),
 .ite (.n 26) (.c 0) (.c 1),
 .app 44 0 [.n 14,.n 15,.n 21,.n 22],
 .app 44 1 [.n 14,.n 15,.n 21,.n 22],
 .app 44 2 [.n 14,.n 15,.n 21,.n 22],
 .bin .neq .i64 (.n 30) (.c 0),
 .ite (.n 31) (.c 0) (.c 1),
 .app 44 0 [.n 16,.n 17,.n 23,.n 24],
 .app 44 1 [.n 16,.n 17,.n 23,.n 24],
 .app 44 2 [.n 16,.n 17,.n 23,.n 24],
 .bin .neq .i64 (.n 35) (.c 0),
 .ite (.n 36) (.c 0) (.c 1),
 .app 38 0 [.n 28,.n 29,.n 33,.n 34],
 .app 38 1 [.n 28,.n 29,.n 33,.n 34],
 .app 38 2 [.n 28,.n 29,.n 33,.n 34],
 .app 38 3 [.n 28,.n 29,.n 33,.n 34],
 .app 38 4 [.n 28,.n 29,.n 33,.n 34],
 .bin .neq .i64 (.n 42) (.c 0),
 .app 43 0 [.n 40,.n 41],
 .ite (.n 44) (.c 0) (.c 1),
 .ite (.n 43) (.c 1) (.n 45),
 .mx (.n 42) (.c 5),
 .ite (.n 46) (.c 0) (.c 1),
 .ite (.n 46) (.n 47) (.c 0),
 .ite (.n 46) (.c 0) (.n 40),
 .ite (.n 46) (.c 0) (.n 41),
 .ite (.n 46) (.c 0) (.n 38),
 .ite (.n 46) (.c 0) (.n 39),
 .ite (.n 36) (.n 35) (.n 49),
 .ite (.n 36) (.n 35) (.n 42),
 .ite (.n 36) (.c 0) (.n 50),
 .ite (.n 36) (.c 0) (.n 51),
 .ite (.n 36) (.c 0) (.n 52),
 .ite (.n 36) (.c 0) (.n 53),
 .ite (.n 31) (.n 30) (.n 54),
 .ite (.n 31) (.n 30) (.n 55),
 .ite (.n 31) (.c 0) (.n 56),
 .ite (.n 31) (.c 0) (.n 57),
 .ite (.n 31) (.c 0) (.n 58),
 .ite (.n 31) (.c 0) (.n 59),
 .ite (.n 26) (.n 25) (.n 60),
 .ite (.n 26) (.n 25) (.n 61),
 .ite (.n 26) (.c 0) (.n 62),
 .ite (.n 26) (.c 0) (.n 63),
 .ite (.n 26) (.c 0) (.n 64),
 .ite (.n 26) (.c 0) (.n 65),
 .ite (.n 19) (.n 18) (.n 66),
 .ite (.n 19) (.n 18) (.n 67),
 .ite (.n 19) (.c 0) (.n 68),
 .ite (.n 19) (.c 0) (.n 69),
 .ite (.n 19) (.c 0) (.n 70),
 .ite (.n 19) (.c 0) (.n 71),
 .ite (.n 12) (.c 1) (.n 72),
 .ite (.n 12) (.c 0) (.n 74),
 .ite (.n 12) (.c 0) (.n 75),
 .ite (.n 12) (.c 0) (.n 76),
 .ite (.n 12) (.c 0) (.n 77),
 .bin .neq .i64 (.n 78) (.c 0),
 .ite (.n 83) (.c 0) (.c 1),
 .ite (.n 83) (.n 78) (.c 0),
 .ite (.n 83) (.c 0) (.n 81),
 .ite (.n 83) (.c 0) (.n 82),
 .ite (.n 83) (.c 0) (.n 79),
 .ite (.n 83) (.c 0) (.n 80)]
def YA:List Vc:=[
 ⟨[],.pre 42 [.n 0,.n 1,.n 2,.n 3]⟩,
 ⟨[(.n 9,false)],.pre 42 [.n 4,.n 5,.n 6,.n 7]⟩,
 ⟨[(.n 13,true)],.pre 37 [.n 0,.n 1,.n 2,.n 3]⟩,
 ⟨[(.n 20,true),(.n 13,true)],.pre 37 [.n 4,.n 5,.n 6,.n 7]⟩,
 ⟨[(.n 27,true),(.n 20,true),(.n 13,true)],.pre 44 [.n 14,.n 15,.n 21,.n 22]⟩,
 ⟨[(.n 32,true),(.n 27,true),(.n 20,true),(.n 13,true)],.pre 44 [.n 16,.n 17,.n 23,.n 24]⟩,
 ⟨[(.n 37,true),(.n 32,true),(.n 27,true),(.n 20,true),(.n 13,true)],.pre 38 [.n 28,.n 29,.n 33,.n 34]⟩,
 ⟨[(.n 37,true),(.n 32,true),(.n 27,true),(.n 20,true),(.n 13,true),(.n 43,false)],.pre 43 [.n 40,.n 41]⟩]
theorem XI:whole Try.prog spD 20 40 36 [(true,[some .i64,some .i64,some .i64,some .i64]),(true,[some .i64,some .i64,some .i64,some .i64])]=some (.tup [.agg [.int .i64 (.n 86),.int .i64 (.n 87),.int .i64 (.n 88),.int .i64 (.n 89)],.c (.int .i64 (.n 85))],⟨dw.reverse,YA.reverse⟩):=by kernel_rfl
theorem U4:wfN dw.reverse=true:=by kernel_rfl
theorem UR {ar:List Int} {v:Nat->Int} (hs:aA (cxD ar) v dw.reverse) (P8:v 8=0):v 85=1/\v 86=0/\v 87=0/\v 88=0/\v 89=0 :=
 ⟨ak (X:=cxD ar) (v:=v) (l:=dw) (aW _) hs (k:=85) (r:=.c 1) (ps:=[(8,.c 0)]) (nz:=[]) (aa P8 aj) az (by kernel_rfl),
  ak (X:=cxD ar) (v:=v) (l:=dw) (aW _) hs (k:=86) (r:=.c 0) (ps:=[(8,.c 0)]) (nz:=[]) (aa P8 aj) az (by kernel_rfl),
  ak (X:=cxD ar) (v:=v) (l:=dw) (aW _) hs (k:=87) (r:=.c 0) (ps:=[(8,.c 0)]) (nz:=[]) (aa P8 aj) az (by kernel_rfl),
  ak (X:=cxD ar) (v:=v) (l:=dw) (aW _) hs (k:=88) (r:=.c 0) (ps:=[(8,.c 0)]) (nz:=[]) (aa P8 aj) az (by kernel_rfl),
  ak (X:=cxD ar) (v:=v) (l:=dw) (aW _) hs (k:=89) (r:=.c 0) (ps:=[(8,.c 0)]) (nz:=[]) (aa P8 aj) az (by kernel_rfl)⟩
theorem XY {ar:List Int} {v:Nat->Int} (hs:aA (cxD ar) v dw.reverse) (P8:v 8=1) (P10:v 10=0):v 85=1/\v 86=0/\v 87=0/\v 88=0/\v 89=0 :=
 ⟨ak (X:=cxD ar) (v:=v) (l:=dw) (aW _) hs (k:=85) (r:=.c 1) (ps:=[(8,.c 1),(10,.c 0)]) (nz:=[]) (aa P8 (aa P10 aj)) az (by kernel_rfl),
  ak (X:=cxD ar) (v:=v) (l:=dw) (aW _) hs (k:=86) (r:=.c 0) (ps:=[(8,.c 1),(10,.c 0)]) (nz:=[]) (aa P8 (aa P10 aj)) az (by kernel_rfl),
  ak (X:=cxD ar) (v:=v) (l:=dw) (aW _) hs (k:=87) (r:=.c 0) (ps:=[(8,.c 1),(10,.c 0)]) (nz:=[]) (aa P8 (aa P10 aj)) az (by kernel_rfl),
  ak (X:=cxD ar) (v:=v) (l:=dw) (aW _) hs (k:=88) (r:=.c 0) (ps:=[(8,.c 1),(10,.c 0)]) (nz:=[]) (aa P8 (aa P10 aj)) az (by kernel_rfl),
  ak (X:=cxD ar) (v:=v) (l:=dw) (aW _) hs (k:=89) (r:=.c 0) (ps:=[(8,.c 1),(10,.c 0)]) (nz:=[]) (aa P8 (aa P10 aj)) az (by kernel_rfl)⟩
theorem ZY {ar:List Int} {v:Nat->Int} (hs:aA (cxD ar) v dw.reverse) (P8:v 8=1) (P10:v 10=1) (P44:v 44=0):v 85=5/\v 86=0/\v 87=0/\v 88=0/\v 89=0 :=
 ⟨ak (X:=cxD ar) (v:=v) (l:=dw) (aW _) hs (k:=85) (r:=.c 5) (ps:=[(8,.c 1),(10,.c 1),(44,.c 0)]) (nz:=[]) (aa P8 (aa P10 (aa P44 aj))) az (by kernel_rfl),
  ak (X:=cxD ar) (v:=v) (l:=dw) (aW _) hs (k:=86) (r:=.c 0) (ps:=[(8,.c 1),(10,.c 1),(44,.c 0)]) (nz:=[]) (aa P8 (aa P10 (aa P44 aj))) az (by kernel_rfl),
  ak (X:=cxD ar) (v:=v) (l:=dw) (aW _) hs (k:=87) (r:=.c 0) (ps:=[(8,.c 1),(10,.c 1),(44,.c 0)]) (nz:=[]) (aa P8 (aa P10 (aa P44 aj))) az (by kernel_rfl),
  ak (X:=cxD ar) (v:=v) (l:=dw) (aW _) hs (k:=88) (r:=.c 0) (ps:=[(8,.c 1),(10,.c 1),(44,.c 0)]) (nz:=[]) (aa P8 (aa P10 (aa P44 aj))) az (by kernel_rfl),
  ak (X:=cxD ar) (v:=v) (l:=dw) (aW _) hs (k:=89) (r:=.c 0) (ps:=[(8,.c 1),(10,.c 1),(44,.c 0)]) (nz:=[]) (aa P8 (aa P10 (aa P44 aj))) az (by kernel_rfl)⟩
theorem Z5 {ar:List Int} {v:Nat->Int} (hs:aA (cxD ar) v dw.reverse) (P8:v 8=1) (P10:v 10=1) (P44:v 44=1):v 85=0/\v 86=v 38/\v 87=v 39/\v 88=v 40/\v 89=v 41 :=
 ⟨ak (X:=cxD ar) (v:=v) (l:=dw) (aW _) hs (k:=85) (r:=.c 0) (ps:=[(8,.c 1),(10,.c 1),(44,.c 1)]) (nz:=[]) (aa P8 (aa P10 (aa P44 aj))) az (by kernel_rfl),
  cB (X:=cxD ar) (v:=v) (l:=dw) (aW _) hs (k:=86) (j:=38) (ps:=[(8,.c 1),(10,.c 1),(44,.c 1)]) (aa P8 (aa P10 (aa P44 aj))) (by kernel_rfl),
  cB (X:=cxD ar) (v:=v) (l:=dw) (aW _) hs (k:=87) (j:=39) (ps:=[(8,.c 1),(10,.c 1),(44,.c 1)]) (aa P8 (aa P10 (aa P44 aj))) (by kernel_rfl),
  cB (X:=cxD ar) (v:=v) (l:=dw) (aW _) hs (k:=88) (j:=40) (ps:=[(8,.c 1),(10,.c 1),(44,.c 1)]) (aa P8 (aa P10 (aa P44 aj))) (by kernel_rfl),
  cB (X:=cxD ar) (v:=v) (l:=dw) (aW _) hs (k:=89) (j:=41) (ps:=[(8,.c 1),(10,.c 1),(44,.c 1)]) (aa P8 (aa P10 (aa P44 aj))) (by kernel_rfl)⟩
theorem QY (a b c d p q g h:Int) (w:World):Calls Try.prog 36 #[.agg #[.int .i64 a,.int .i64 b,.int .i64 c,.int .i64 d],.agg #[.int .i64 p,.int .i64 q,.int .i64 g,.int .i64 h]] w fun e w'=>e=.returned (.tuple #[.agg #[.int .i64 ((mgV a b c d p q g h).getD 0 0),.int .i64 ((mgV a b c d p q g h).getD 1 0),.int .i64 ((mgV a b c d p q g h).getD 2 0),.int .i64 ((mgV a b c d p q g h).getD 3 0)],.int .i64 ((mgV a b c d p q g h).getD 4 0)])/\Below w.heap.size w w':=by
 refine Sx.calls (X:=cxD [a,b,c,d,p,q,g,h]) dX (xg _) XI U4 (fun v hs=>?_) w
 have e8:v 8=b2i (decide (MV (v 0) (v 1) (v 2) (v 3))):=ae hs 8 rfl;have e10:v 10=b2i (decide (MV (v 4) (v 5) (v 6) (v 7))):=ae hs 10 rfl;have e9:v 9=if v 8≠0 then (0:Int) else (1:Int):=ae hs 9 rfl
 have e11:v 11=if v 10≠0 then (0:Int) else (1:Int):=ae hs 11 rfl
 have e12:v 12=if v 9≠0 then (1:Int) else v 11:=ae hs 12 rfl
 have e13:v 13=if v 12≠0 then (0:Int) else (1:Int):=ae hs 13 rfl
 have H:v 13≠0->MV (v 0) (v 1) (v 2) (v 3)/\MV (v 4) (v 5) (v 6) (v 7):=by
  intro h;rw [e13,e12,e9,e11,e8,e10] at h
  by_cases h1:MV (v 0) (v 1) (v 2) (v 3)<;>by_cases h2:MV (v 4) (v 5) (v 6) (v 7)
  . exact ⟨h1,h2⟩
  . rw [decide_eq_true h1,decide_eq_false h2] at h;exact absurd (by decide) h
  . rw [decide_eq_false h1,decide_eq_true h2] at h;exact absurd (by decide) h
  . rw [decide_eq_false h1,decide_eq_false h2] at h;exact absurd (by decide) h
 have e14:v 14=(paV (v 0) (v 1) (v 2) (v 3)).getD 0 0:=ae hs 14 rfl;have e15:v 15=(paV (v 0) (v 1) (v 2) (v 3)).getD 1 0:=ae hs 15 rfl;have e16:v 16=(paV (v 0) (v 1) (v 2) (v 3)).getD 2 0:=ae hs 16 rfl;have e17:v 17=(paV (v 0) (v 1) (v 2) (v 3)).getD 3 0:=ae hs 17 rfl;have e21:v 21=(paV (v 4) (v 5) (v 6) (v 7)).getD 0 0:=ae hs 21 rfl;have e22:v 22=(paV (v 4) (v 5) (v 6) (v 7)).getD 1 0:=ae hs 22 rfl;have e23:v 23=(paV (v 4) (v 5) (v 6) (v 7)).getD 2 0:=ae hs 23 rfl;have e24:v 24=(paV (v 4) (v 5) (v 6) (v 7)).getD 3 0:=ae hs 24 rfl
 have BX:MV (v 0) (v 1) (v 2) (v 3)->(-200000<=v 14/\v 14<=v 15/\v 15<=200000)/\(-200000<=v 16/\v 16<=v 17/\v 17<=200000):=by
  intro q
  have t:(-(v 3)<=v 14/\v 14<=v 15/\v 15<=v 3)/\(-(v 3)<=v 16/\v 16<=v 17/\v 17<=v 3):=by
   rw [e14,e15,e16,e17];exact xX q.2.1 q.2.2.1
  omega
 have BY:MV (v 4) (v 5) (v 6) (v 7)->(-200000<=v 21/\v 21<=v 22/\v 22<=200000)/\(-200000<=v 23/\v 23<=v 24/\v 24<=200000):=by
  intro q
  have t:(-(v 7)<=v 21/\v 21<=v 22/\v 22<=v 7)/\(-(v 7)<=v 23/\v 23<=v 24/\v 24<=v 7):=by
   rw [e21,e22,e23,e24];exact xX q.2.1 q.2.2.1
  omega
 have P37:∀ {a b l h:Int},MV a b l h->lD 37 [a,b,l,h]:=fun q=>⟨q.1,q.2.1,q.2.2.1,by have:=q.2.2.2;omega⟩
 have e28:v 28=v 14+v 21:=ae hs 28 rfl;have e29:v 29=v 15+v 22:=ae hs 29 rfl;have e33:v 33=v 16+v 23:=ae hs 33 rfl;have e34:v 34=v 17+v 24:=ae hs 34 rfl
 have P38:MV (v 0) (v 1) (v 2) (v 3)/\MV (v 4) (v 5) (v 6) (v 7)->lD 38 [v 28,v 29,v 33,v 34]:=by
  intro q;have x:=BX q.1;have y:=BY q.2;refine ⟨?_,?_⟩<;>(first|rw [e28,e29]|rw [e33,e34])<;>omega
 have Fa:MV (v 0) (v 1) (v 2) (v 3)/\MV (v 4) (v 5) (v 6) (v 7)->lD 44 [v 14,v 15,v 21,v 22]:=fun q=>by
  have x:=BX q.1;have y:=BY q.2;exact ⟨by omega,by omega⟩
 have Fb:MV (v 0) (v 1) (v 2) (v 3)/\MV (v 4) (v 5) (v 6) (v 7)->lD 44 [v 16,v 17,v 23,v 24]:=fun q=>by
  have x:=BX q.1;have y:=BY q.2;exact ⟨by omega,by omega⟩
 refine ⟨bO ?_,?_⟩
 . exact ag (fun _=>trivial) (ag (fun _=>trivial) (ag (fun hp=>P37 (H ((au hp).1)).1) (ag (fun hp=>P37 (H ((au (au hp).2).1)).2) (ag (fun hp=>Fa (H ((au (au (au hp).2).2).1))) (ag (fun hp=>Fb (H ((au (au (au (au hp).2).2).2).1))) (ag (fun hp=>P38 (H ((au (au (au (au (au hp).2).2).2).2).1))) (ag (fun _=>trivial) (bN))))))))
 . intro x hx0;have hx':=dL (v:=v) (by rfl) hx0
   rw [hx'];show Value.tuple #[.agg #[.int .i64 (v 86),.int .i64 (v 87),.int .i64 (v 88),.int .i64 (v 89)],.int .i64 (v 85)]=_
   have R:v 86=(mgV (v 0) (v 1) (v 2) (v 3) (v 4) (v 5) (v 6) (v 7)).getD 0 0/\v 87=(mgV (v 0) (v 1) (v 2) (v 3) (v 4) (v 5) (v 6) (v 7)).getD 1 0/\v 88=(mgV (v 0) (v 1) (v 2) (v 3) (v 4) (v 5) (v 6) (v 7)).getD 2 0/\v 89=(mgV (v 0) (v 1) (v 2) (v 3) (v 4) (v 5) (v 6) (v 7)).getD 3 0/\v 85=(mgV (v 0) (v 1) (v 2) (v 3) (v 4) (v 5) (v 6) (v 7)).getD 4 0:=by
    by_cases h1:MV (v 0) (v 1) (v 2) (v 3)
    . have q8:v 8=1:=by rw [e8,decide_eq_true h1];rfl
      by_cases h2:MV (v 4) (v 5) (v 6) (v 7)
      . have q10:v 10=1:=by rw [e10,decide_eq_true h2];rfl
        have V0:mgV (v 0) (v 1) (v 2) (v 3) (v 4) (v 5) (v 6) (v 7)=jnV (coS (paV (v 0) (v 1) (v 2) (v 3)) (paV (v 4) (v 5) (v 6) (v 7))):=if_pos ⟨h1,h2⟩
        have c38:∀ i,(coV (v 28) (v 29) (v 33) (v 34)).getD i 0=(coS (paV (v 0) (v 1) (v 2) (v 3)) (paV (v 4) (v 5) (v 6) (v 7))).getD i 0:=fun i=>by
         rw [e28,e29,e33,e34,e14,e15,e16,e17,e21,e22,e23,e24];rfl
        have s38:v 38=(coV (v 28) (v 29) (v 33) (v 34)).getD 0 0:=ae hs 38 rfl;have s39:v 39=(coV (v 28) (v 29) (v 33) (v 34)).getD 1 0:=ae hs 39 rfl;have s40:v 40=(coV (v 28) (v 29) (v 33) (v 34)).getD 2 0:=ae hs 40 rfl;have s41:v 41=(coV (v 28) (v 29) (v 33) (v 34)).getD 3 0:=ae hs 41 rfl;rw [c38] at s38 s39 s40 s41;have e44:v 44=b2i (decide (0<=v 40/\v 40<=v 41/\v 41<=200000)):=ae hs 44 rfl;rw [s40,s41] at e44;rw [V0];generalize coS (paV (v 0) (v 1) (v 2) (v 3)) (paV (v 4) (v 5) (v 6) (v 7))=s at *
        unfold jnV
        by_cases h3:0<=s.getD 2 0/\s.getD 2 0<=s.getD 3 0/\s.getD 3 0<=200000
        . rw [if_pos h3];rw [decide_eq_true h3] at e44;obtain ⟨r4,r0,r1,r2,r3⟩:=Z5 hs q8 q10 e44;have F:=AO (s.getD 0 0) (s.getD 1 0) (s.getD 2 0) (s.getD 3 0) 0;rw [F.1,F.2.1,F.2.2.1,F.2.2.2.1,F.2.2.2.2];exact ⟨r0.trans s38,r1.trans s39,r2.trans s40,r3.trans s41,r4⟩
        . rw [if_neg h3];rw [decide_eq_false h3] at e44;obtain ⟨r4,r0,r1,r2,r3⟩:=ZY hs q8 q10 e44;exact ⟨r0,r1,r2,r3,r4⟩
      . have q10:v 10=0:=by rw [e10,decide_eq_false h2];rfl
        have V0:mgV (v 0) (v 1) (v 2) (v 3) (v 4) (v 5) (v 6) (v 7)=[0,0,0,0,1]:=if_neg fun q=>h2 q.2
        rw [V0];obtain ⟨r4,r0,r1,r2,r3⟩:=XY hs q8 q10;exact ⟨r0,r1,r2,r3,r4⟩
    . have q8:v 8=0:=by rw [e8,decide_eq_false h1];rfl
      have V0:mgV (v 0) (v 1) (v 2) (v 3) (v 4) (v 5) (v 6) (v 7)=[0,0,0,0,1]:=if_neg fun q=>h1 q.1
      rw [V0];obtain ⟨r4,r0,r1,r2,r3⟩:=UR hs q8;exact ⟨r0,r1,r2,r3,r4⟩
   have a0:v 0=a:=ae hs 0 rfl;have a1:v 1=b:=ae hs 1 rfl;have a2:v 2=c:=ae hs 2 rfl;have a3:v 3=d:=ae hs 3 rfl;have a4:v 4=p:=ae hs 4 rfl;have a5:v 5=q:=ae hs 5 rfl;have a6:v 6=g:=ae hs 6 rfl;have a7:v 7=h:=ae hs 7 rfl;rw [a0,a1,a2,a3,a4,a5,a6,a7] at R;rw [R.1,R.2.1,R.2.2.1,R.2.2.2.1,R.2.2.2.2]
def dm:List Nd:=[
 .arg 0,
 .arg 1,
 .arg 2,
 .arg 3,
 .arg 4,
 .arg 5,
 .arg 6,
 .arg 7,
 .app 42 0 [.n 4,.n 5,.n 6,.n 7],
 .ite (.n 8) (.c 0) (.c 1),
 .app 42 0 [.n 0,.n 1,.n 2,.n 3],
 .ite (.n 10) (.c 0) (.c 1),
 .ite (.n 9) (.c 1) (.n 11),
 .ite (.n 12) (.c 0) (.c 1),
 .app 37 0 [.n 4,.n 5,.n 6,.n 7],
 .app 37 1 [.n 4,.n 5,.n 6,.n 7],
 .app 37 2 [.n 4,.n 5,.n 6,.n 7],
 .app 37 3 [.n 4,.n 5,.n 6,.n 7],
 .app 37 4 [.n 4,.n 5,.n 6,.n 7],
 .bin .neq .i64 (.n 18) (.c 0),
 .ite (.n 19) (.c 0) (.c 1),
 .app 37 0 [.n 0,.n 1,.n 2,.n 3],
 .app 37 1 [.n 0,.n 1,.n 2,.n 3],
 .app 37 2 [.n 0,.n 1,.n 2,.n 3],
 .app 37 3 [.n 0,.n 1,.n 2,.n 3],
 .app 37 4 [.n 0,.n 1,.n 2,.n 3],
 .bin .neq .i64 (.n 25) (.c 0),
 .ite (.n 26) (.c 0) (.c 1),
 .app 45 0 [.n 14,.n 15,.n 21,.n 22],
 .app 45 1 [.n 14,.n 15,.n 21,.n 22],
 .app 45 2 [.n 14,.n 15,.n 21,.n 22],
 .bin .neq .i64 (.n 30) (.c 0),
 .ite (.n 31) (.c 0) (.c 1),
 .app 45 0 [.n 16,.n 17,.n 23,.n 24],
 .app 45 1 [.n 16,.n 17,.n 23,.n 24],
 .app 45 2 [.n 16,.n 17,.n 23,.n 24],
 .bin .neq .i64 (.n 35) (.c 0),
 .ite (.n 36) (.c 0) (.c 1),
 .app 38 0 [.n 28,.n 29,.n 33,.n 34],
 .app 38 1 [.n 28,.n 29,.n 33,.n 34],
 .app 38 2 [.n 28,.n 29,.n 33,.n 34],
 .app 38 3 [.n 28,.n 29,.n 33,.n 34],
 .app 38 4 [.n 28,.n 29,.n 33,.n 34],
 .bin .neq .i64 (.n 42) (.c 0),
 .app 43 0 [.n 40,.n 41],
 .ite (.n 44) (.c 0) (.c 1),
 .ite (.n 43) (.c 1) (.n 45),
 .mx (.n 42) (.c 5),
 .ite (.n 46) (.c 0) (.c 1),
 .ite (.n 46) (.n 47) (.c 0),
 .ite (.n 46) (.c 0) (.n 40),
 .ite (.n 46) (.c 0) (.n 41),
 .ite (.n 46) (.c 0) (.n 38),
 .ite (.n 46) (.c 0) (.n 39),
 .ite (.n 36) (.n 35) (.n 49),
 .ite (.n 36) (.n 35) (.n 42),
 .ite (.n 36) (.c 0) (.n 50),
 .ite (.n 36) (.c 0) (.n 51),
 .ite (.n 36) (.c 0) (.n 52),
 .ite (.n 36) (.c 0) (.n 53),
 .ite (.n 31) (.n 30) (.n 54),
 .ite (.n 31) (.n 30) (.n 55),
 .ite (.n 31) (.c 0) (.n 56),
 .ite (.n 31) (.c 0) (.n 57),
 .ite (.n 31) (.c 0) (.n 58),
 .ite (.n 31) (.c 0) (.n 59),
 .ite (.n 26) (.n 25) (.n 60),
 .ite (.n 26) (.n 25) (.n 61),
 .ite (.n 26) (.c 0) (.n 62),
 .ite (.n 26) (.c 0) (.n 63),
 .ite (.n 26) (.c 0) (.n 64),
 .ite (.n 26) (.c 0) (.n 65),
 .ite (.n 19) (.n 18) (.n 66),
 .ite (.n 19) (.n 18) (.n 67),
 .ite (.n 19) (.c 0) (.n 68),
 .ite (.n 19) (.c 0) (.n 69),
 .ite (.n 19) (.c 0) (.n 70),
 .ite (.n 19) (.c 0) (.n 71),
 .ite (.n 12) (.c 1) (.n 72),
 .ite (.n 12) (.c 0) (.n 74),
 .ite (.n 12) (.c 0) (.n 75),
 .ite (.n 12) (.c 0) (.n 76),
 .ite (.n 12) (.c 0) (.n 77),
 .bin .neq .i64 (.n 78) (.c 0),
 .ite (.n 83) (.c 0) (.c 1),
 .ite (.n 83) (.n 78) (.c 0),
 .ite (.n 83) (.c 0) (.n 81),
 .ite (.n 83) (.c 0) (.n 82),
 .ite (.n 83) (.c 0) (.n 79),
 .ite (.n 83) (.c 0) (.n 80)]
def ZZ:List Vc:=[
 ⟨[],.pre 42 [.n 4,.n 5,.n 6,.n 7]⟩,
 ⟨[(.n 9,false)],.pre 42 [.n 0,.n 1,.n 2,.n 3]⟩,
 ⟨[(.n 13,true)],.pre 37 [.n 4,.n 5,.n 6,.n 7]⟩,
 ⟨[(.n 20,true),(.n 13,true)],.pre 37 [.n 0,.n 1,.n 2,.n 3]⟩,
 ⟨[(.n 27,true),(.n 20,true),(.n 13,true)],.pre 45 [.n 14,.n 15,.n 21,.n 22]⟩,
 ⟨[(.n 32,true),(.n 27,true),(.n 20,true),(.n 13,true)],.pre 45 [.n 16,.n 17,.n 23,.n 24]⟩,
 ⟨[(.n 37,true),(.n 32,true),(.n 27,true),(.n 20,true),(.n 13,true)],.pre 38 [.n 28,.n 29,.n 33,.n 34]⟩,
 ⟨[(.n 37,true),(.n 32,true),(.n 27,true),(.n 20,true),(.n 13,true),(.n 43,false)],.pre 43 [.n 40,.n 41]⟩]
theorem XJ:whole Try.prog spD 20 40 37 [(true,[some .i64,some .i64,some .i64,some .i64]),(true,[some .i64,some .i64,some .i64,some .i64])]=some (.tup [.agg [.int .i64 (.n 86),.int .i64 (.n 87),.int .i64 (.n 88),.int .i64 (.n 89)],.c (.int .i64 (.n 85))],⟨dm.reverse,ZZ.reverse⟩):=by kernel_rfl
theorem Zk:wfN dm.reverse=true:=by kernel_rfl
theorem Zv {ar:List Int} {v:Nat->Int} (hs:aA (cxD ar) v dm.reverse) (P8:v 8=0):v 85=1/\v 86=0/\v 87=0/\v 88=0/\v 89=0 :=
 ⟨ak (X:=cxD ar) (v:=v) (l:=dm) (aW _) hs (k:=85) (r:=.c 1) (ps:=[(8,.c 0)]) (nz:=[]) (aa P8 aj) az (by kernel_rfl),
  ak (X:=cxD ar) (v:=v) (l:=dm) (aW _) hs (k:=86) (r:=.c 0) (ps:=[(8,.c 0)]) (nz:=[]) (aa P8 aj) az (by kernel_rfl),
  ak (X:=cxD ar) (v:=v) (l:=dm) (aW _) hs (k:=87) (r:=.c 0) (ps:=[(8,.c 0)]) (nz:=[]) (aa P8 aj) az (by kernel_rfl),
  ak (X:=cxD ar) (v:=v) (l:=dm) (aW _) hs (k:=88) (r:=.c 0) (ps:=[(8,.c 0)]) (nz:=[]) (aa P8 aj) az (by kernel_rfl),
  ak (X:=cxD ar) (v:=v) (l:=dm) (aW _) hs (k:=89) (r:=.c 0) (ps:=[(8,.c 0)]) (nz:=[]) (aa P8 aj) az (by kernel_rfl)⟩
theorem XC {ar:List Int} {v:Nat->Int} (hs:aA (cxD ar) v dm.reverse) (P8:v 8=1) (P10:v 10=0):v 85=1/\v 86=0/\v 87=0/\v 88=0/\v 89=0 :=
 ⟨ak (X:=cxD ar) (v:=v) (l:=dm) (aW _) hs (k:=85) (r:=.c 1) (ps:=[(8,.c 1),(10,.c 0)]) (nz:=[]) (aa P8 (aa P10 aj)) az (by kernel_rfl),
  ak (X:=cxD ar) (v:=v) (l:=dm) (aW _) hs (k:=86) (r:=.c 0) (ps:=[(8,.c 1),(10,.c 0)]) (nz:=[]) (aa P8 (aa P10 aj)) az (by kernel_rfl),
  ak (X:=cxD ar) (v:=v) (l:=dm) (aW _) hs (k:=87) (r:=.c 0) (ps:=[(8,.c 1),(10,.c 0)]) (nz:=[]) (aa P8 (aa P10 aj)) az (by kernel_rfl),
  ak (X:=cxD ar) (v:=v) (l:=dm) (aW _) hs (k:=88) (r:=.c 0) (ps:=[(8,.c 1),(10,.c 0)]) (nz:=[]) (aa P8 (aa P10 aj)) az (by kernel_rfl),
  ak (X:=cxD ar) (v:=v) (l:=dm) (aW _) hs (k:=89) (r:=.c 0) (ps:=[(8,.c 1),(10,.c 0)]) (nz:=[]) (aa P8 (aa P10 aj)) az (by kernel_rfl)⟩
theorem Xf {ar:List Int} {v:Nat->Int} (hs:aA (cxD ar) v dm.reverse) (P8:v 8=1) (P10:v 10=1) (P44:v 44=0):v 85=5/\v 86=0/\v 87=0/\v 88=0/\v 89=0 :=
 ⟨ak (X:=cxD ar) (v:=v) (l:=dm) (aW _) hs (k:=85) (r:=.c 5) (ps:=[(8,.c 1),(10,.c 1),(44,.c 0)]) (nz:=[]) (aa P8 (aa P10 (aa P44 aj))) az (by kernel_rfl),
  ak (X:=cxD ar) (v:=v) (l:=dm) (aW _) hs (k:=86) (r:=.c 0) (ps:=[(8,.c 1),(10,.c 1),(44,.c 0)]) (nz:=[]) (aa P8 (aa P10 (aa P44 aj))) az (by kernel_rfl),
  ak (X:=cxD ar) (v:=v) (l:=dm) (aW _) hs (k:=87) (r:=.c 0) (ps:=[(8,.c 1),(10,.c 1),(44,.c 0)]) (nz:=[]) (aa P8 (aa P10 (aa P44 aj))) az (by kernel_rfl),
  ak (X:=cxD ar) (v:=v) (l:=dm) (aW _) hs (k:=88) (r:=.c 0) (ps:=[(8,.c 1),(10,.c 1),(44,.c 0)]) (nz:=[]) (aa P8 (aa P10 (aa P44 aj))) az (by kernel_rfl),
  ak (X:=cxD ar) (v:=v) (l:=dm) (aW _) hs (k:=89) (r:=.c 0) (ps:=[(8,.c 1),(10,.c 1),(44,.c 0)]) (nz:=[]) (aa P8 (aa P10 (aa P44 aj))) az (by kernel_rfl)⟩
theorem WW {ar:List Int} {v:Nat->Int} (hs:aA (cxD ar) v dm.reverse) (P8:v 8=1) (P10:v 10=1) (P44:v 44=1):v 85=0/\v 86=v 38/\v 87=v 39/\v 88=v 40/\v 89=v 41 :=
 ⟨ak (X:=cxD ar) (v:=v) (l:=dm) (aW _) hs (k:=85) (r:=.c 0) (ps:=[(8,.c 1),(10,.c 1),(44,.c 1)]) (nz:=[]) (aa P8 (aa P10 (aa P44 aj))) az (by kernel_rfl),
  cB (X:=cxD ar) (v:=v) (l:=dm) (aW _) hs (k:=86) (j:=38) (ps:=[(8,.c 1),(10,.c 1),(44,.c 1)]) (aa P8 (aa P10 (aa P44 aj))) (by kernel_rfl),
  cB (X:=cxD ar) (v:=v) (l:=dm) (aW _) hs (k:=87) (j:=39) (ps:=[(8,.c 1),(10,.c 1),(44,.c 1)]) (aa P8 (aa P10 (aa P44 aj))) (by kernel_rfl),
  cB (X:=cxD ar) (v:=v) (l:=dm) (aW _) hs (k:=88) (j:=40) (ps:=[(8,.c 1),(10,.c 1),(44,.c 1)]) (aa P8 (aa P10 (aa P44 aj))) (by kernel_rfl),
  cB (X:=cxD ar) (v:=v) (l:=dm) (aW _) hs (k:=89) (j:=41) (ps:=[(8,.c 1),(10,.c 1),(44,.c 1)]) (aa P8 (aa P10 (aa P44 aj))) (by kernel_rfl)⟩
theorem Ll (a b c d p q g h:Int) (w:World):Calls Try.prog 37 #[.agg #[.int .i64 a,.int .i64 b,.int .i64 c,.int .i64 d],.agg #[.int .i64 p,.int .i64 q,.int .i64 g,.int .i64 h]] w fun e w'=>e=.returned (.tuple #[.agg #[.int .i64 ((foV a b c d p q g h).getD 0 0),.int .i64 ((foV a b c d p q g h).getD 1 0),.int .i64 ((foV a b c d p q g h).getD 2 0),.int .i64 ((foV a b c d p q g h).getD 3 0)],.int .i64 ((foV a b c d p q g h).getD 4 0)])/\Below w.heap.size w w':=by
 refine Sx.calls (X:=cxD [a,b,c,d,p,q,g,h]) dX (xg _) XJ Zk (fun v hs=>?_) w
 have e8:v 8=b2i (decide (MV (v 4) (v 5) (v 6) (v 7))):=ae hs 8 rfl;have e10:v 10=b2i (decide (MV (v 0) (v 1) (v 2) (v 3))):=ae hs 10 rfl;have e9:v 9=if v 8≠0 then (0:Int) else (1:Int):=ae hs 9 rfl
 have e11:v 11=if v 10≠0 then (0:Int) else (1:Int):=ae hs 11 rfl
 have e12:v 12=if v 9≠0 then (1:Int) else v 11:=ae hs 12 rfl
 have e13:v 13=if v 12≠0 then (0:Int) else (1:Int):=ae hs 13 rfl
 have H:v 13≠0->MV (v 4) (v 5) (v 6) (v 7)/\MV (v 0) (v 1) (v 2) (v 3):=by
  intro h;rw [e13,e12,e9,e11,e8,e10] at h
  by_cases h1:MV (v 4) (v 5) (v 6) (v 7)<;>by_cases h2:MV (v 0) (v 1) (v 2) (v 3)
  . exact ⟨h1,h2⟩
  . rw [decide_eq_true h1,decide_eq_false h2] at h;exact absurd (by decide) h
  . rw [decide_eq_false h1,decide_eq_true h2] at h;exact absurd (by decide) h
  . rw [decide_eq_false h1,decide_eq_false h2] at h;exact absurd (by decide) h
 have e14:v 14=(paV (v 4) (v 5) (v 6) (v 7)).getD 0 0:=ae hs 14 rfl;have e15:v 15=(paV (v 4) (v 5) (v 6) (v 7)).getD 1 0:=ae hs 15 rfl;have e16:v 16=(paV (v 4) (v 5) (v 6) (v 7)).getD 2 0:=ae hs 16 rfl;have e17:v 17=(paV (v 4) (v 5) (v 6) (v 7)).getD 3 0:=ae hs 17 rfl;have e21:v 21=(paV (v 0) (v 1) (v 2) (v 3)).getD 0 0:=ae hs 21 rfl;have e22:v 22=(paV (v 0) (v 1) (v 2) (v 3)).getD 1 0:=ae hs 22 rfl;have e23:v 23=(paV (v 0) (v 1) (v 2) (v 3)).getD 2 0:=ae hs 23 rfl;have e24:v 24=(paV (v 0) (v 1) (v 2) (v 3)).getD 3 0:=ae hs 24 rfl
 have BX:MV (v 4) (v 5) (v 6) (v 7)->(-200000<=v 14/\v 14<=v 15/\v 15<=200000)/\(-200000<=v 16/\v 16<=v 17/\v 17<=200000):=by
  intro q
  have t:(-(v 7)<=v 14/\v 14<=v 15/\v 15<=v 7)/\(-(v 7)<=v 16/\v 16<=v 17/\v 17<=v 7):=by
   rw [e14,e15,e16,e17];exact xX q.2.1 q.2.2.1
  omega
 have BY:MV (v 0) (v 1) (v 2) (v 3)->(-200000<=v 21/\v 21<=v 22/\v 22<=200000)/\(-200000<=v 23/\v 23<=v 24/\v 24<=200000):=by
  intro q
  have t:(-(v 3)<=v 21/\v 21<=v 22/\v 22<=v 3)/\(-(v 3)<=v 23/\v 23<=v 24/\v 24<=v 3):=by
   rw [e21,e22,e23,e24];exact xX q.2.1 q.2.2.1
  omega
 have P37:∀ {a b l h:Int},MV a b l h->lD 37 [a,b,l,h]:=fun q=>⟨q.1,q.2.1,q.2.2.1,by have:=q.2.2.2;omega⟩
 have e28:v 28=v 14-v 22:=ae hs 28 rfl;have e29:v 29=v 15-v 21:=ae hs 29 rfl;have e33:v 33=v 16-v 24:=ae hs 33 rfl;have e34:v 34=v 17-v 23:=ae hs 34 rfl
 have P38:MV (v 4) (v 5) (v 6) (v 7)/\MV (v 0) (v 1) (v 2) (v 3)->lD 38 [v 28,v 29,v 33,v 34]:=by
  intro q;have x:=BX q.1;have y:=BY q.2;refine ⟨?_,?_⟩<;>(first|rw [e28,e29]|rw [e33,e34])<;>omega
 have Fa:MV (v 4) (v 5) (v 6) (v 7)/\MV (v 0) (v 1) (v 2) (v 3)->lD 45 [v 14,v 15,v 21,v 22]:=fun q=>by
  have x:=BX q.1;have y:=BY q.2;exact ⟨by omega,by omega⟩
 have Fb:MV (v 4) (v 5) (v 6) (v 7)/\MV (v 0) (v 1) (v 2) (v 3)->lD 45 [v 16,v 17,v 23,v 24]:=fun q=>by
  have x:=BX q.1;have y:=BY q.2;exact ⟨by omega,by omega⟩
 refine ⟨bO ?_,?_⟩
 . exact ag (fun _=>trivial) (ag (fun _=>trivial) (ag (fun hp=>P37 (H ((au hp).1)).1) (ag (fun hp=>P37 (H ((au (au hp).2).1)).2) (ag (fun hp=>Fa (H ((au (au (au hp).2).2).1))) (ag (fun hp=>Fb (H ((au (au (au (au hp).2).2).2).1))) (ag (fun hp=>P38 (H ((au (au (au (au (au hp).2).2).2).2).1))) (ag (fun _=>trivial) (bN))))))))
 . intro x hx0;have hx':=dL (v:=v) (by rfl) hx0
   rw [hx'];show Value.tuple #[.agg #[.int .i64 (v 86),.int .i64 (v 87),.int .i64 (v 88),.int .i64 (v 89)],.int .i64 (v 85)]=_
   have R:v 86=(foV (v 0) (v 1) (v 2) (v 3) (v 4) (v 5) (v 6) (v 7)).getD 0 0/\v 87=(foV (v 0) (v 1) (v 2) (v 3) (v 4) (v 5) (v 6) (v 7)).getD 1 0/\v 88=(foV (v 0) (v 1) (v 2) (v 3) (v 4) (v 5) (v 6) (v 7)).getD 2 0/\v 89=(foV (v 0) (v 1) (v 2) (v 3) (v 4) (v 5) (v 6) (v 7)).getD 3 0/\v 85=(foV (v 0) (v 1) (v 2) (v 3) (v 4) (v 5) (v 6) (v 7)).getD 4 0:=by
    by_cases h1:MV (v 4) (v 5) (v 6) (v 7)
    . have q8:v 8=1:=by rw [e8,decide_eq_true h1];rfl
      by_cases h2:MV (v 0) (v 1) (v 2) (v 3)
      . have q10:v 10=1:=by rw [e10,decide_eq_true h2];rfl
        have V0:foV (v 0) (v 1) (v 2) (v 3) (v 4) (v 5) (v 6) (v 7)=jnV (coD (paV (v 4) (v 5) (v 6) (v 7)) (paV (v 0) (v 1) (v 2) (v 3))):=if_pos ⟨h1,h2⟩
        have c38:∀ i,(coV (v 28) (v 29) (v 33) (v 34)).getD i 0=(coD (paV (v 4) (v 5) (v 6) (v 7)) (paV (v 0) (v 1) (v 2) (v 3))).getD i 0:=fun i=>by
         rw [e28,e29,e33,e34,e14,e15,e16,e17,e21,e22,e23,e24];rfl
        have s38:v 38=(coV (v 28) (v 29) (v 33) (v 34)).getD 0 0:=ae hs 38 rfl;have s39:v 39=(coV (v 28) (v 29) (v 33) (v 34)).getD 1 0:=ae hs 39 rfl;have s40:v 40=(coV (v 28) (v 29) (v 33) (v 34)).getD 2 0:=ae hs 40 rfl;have s41:v 41=(coV (v 28) (v 29) (v 33) (v 34)).getD 3 0:=ae hs 41 rfl;rw [c38] at s38 s39 s40 s41;have e44:v 44=b2i (decide (0<=v 40/\v 40<=v 41/\v 41<=200000)):=ae hs 44 rfl;rw [s40,s41] at e44;rw [V0];generalize coD (paV (v 4) (v 5) (v 6) (v 7)) (paV (v 0) (v 1) (v 2) (v 3))=s at *
        unfold jnV
        by_cases h3:0<=s.getD 2 0/\s.getD 2 0<=s.getD 3 0/\s.getD 3 0<=200000
        . rw [if_pos h3];rw [decide_eq_true h3] at e44;obtain ⟨r4,r0,r1,r2,r3⟩:=WW hs q8 q10 e44;have F:=AO (s.getD 0 0) (s.getD 1 0) (s.getD 2 0) (s.getD 3 0) 0;rw [F.1,F.2.1,F.2.2.1,F.2.2.2.1,F.2.2.2.2];exact ⟨r0.trans s38,r1.trans s39,r2.trans s40,r3.trans s41,r4⟩
        . rw [if_neg h3];rw [decide_eq_false h3] at e44;obtain ⟨r4,r0,r1,r2,r3⟩:=Xf hs q8 q10 e44;exact ⟨r0,r1,r2,r3,r4⟩
      . have q10:v 10=0:=by rw [e10,decide_eq_false h2];rfl
        have V0:foV (v 0) (v 1) (v 2) (v 3) (v 4) (v 5) (v 6) (v 7)=[0,0,0,0,1]:=if_neg fun q=>h2 q.2
        rw [V0];obtain ⟨r4,r0,r1,r2,r3⟩:=XC hs q8 q10;exact ⟨r0,r1,r2,r3,r4⟩
    . have q8:v 8=0:=by rw [e8,decide_eq_false h1];rfl
      have V0:foV (v 0) (v 1) (v 2) (v 3) (v 4) (v 5) (v 6) (v 7)=[0,0,0,0,1]:=if_neg fun q=>h1 q.1
      rw [V0];obtain ⟨r4,r0,r1,r2,r3⟩:=Zv hs q8;exact ⟨r0,r1,r2,r3,r4⟩
   have a0:v 0=a:=ae hs 0 rfl;have a1:v 1=b:=ae hs 1 rfl;have a2:v 2=c:=ae hs 2 rfl;have a3:v 3=d:=ae hs 3 rfl;have a4:v 4=p:=ae hs 4 rfl;have a5:v 5=q:=ae hs 5 rfl;have a6:v 6=g:=ae hs 6 rfl;have a7:v 7=h:=ae hs 7 rfl;rw [a0,a1,a2,a3,a4,a5,a6,a7] at R;rw [R.1,R.2.1,R.2.2.1,R.2.2.2.1,R.2.2.2.2]
def kMg (f:Nat):Bool:=f==47 || f==48
def adA:Nat->List Int->List Int
 | 47,[a,b,c,d,e,f,g,h]=>[(mgV a b c d e f g h).getD 0 0,(mgV a b c d e f g h).getD 1 0,(mgV a b c d e f g h).getD 2 0,(mgV a b c d e f g h).getD 3 0,(mgV a b c d e f g h).getD 4 0]
 | 48,[a,b,c,d,e,f,g,h]=>[(foV a b c d e f g h).getD 0 0,(foV a b c d e f g h).getD 1 0,(foV a b c d e f g h).getD 2 0,(foV a b c d e f g h).getD 3 0,(foV a b c d e f g h).getD 4 0]
 | _,_=>[]
def ab9:Nat->List Int->Prop
 | 47,[_,_,_,_,_,_,_,_]=>True
 | 48,[_,_,_,_,_,_,_,_]=>True
 | _,_=>False
def bQ (args:List Int):Cx:=(cxD args).plus kMg adA ab9
theorem WQ (args:List Int):om (bQ args):=jg (UB args) fun f h=>by
 unfold kMg;rcases h with h|rfl
 . simp;omega
 . rfl
def Ul:Sx.Spec:=⟨36,47,[(true,[some .i64,some .i64,some .i64,some .i64]),(true,[some .i64,some .i64,some .i64,some .i64])],[(true,[some .i64,some .i64,some .i64,some .i64]),(false,[some .i64])]⟩
def Mx:Sx.Spec:=⟨37,48,[(true,[some .i64,some .i64,some .i64,some .i64]),(true,[some .i64,some .i64,some .i64,some .i64])],[(true,[some .i64,some .i64,some .i64,some .i64]),(false,[some .i64])]⟩
theorem Ow (args:List Int):aH Try.prog (bQ args) Ul:=by
 refine dV rfl (ours _ _ _ Try.func36 rfl (by kernel_rfl)) fun xs hp w=>?_
 match xs,hp with
 | [a,b,c,d,e,f,g,h],hp=>exact QY a b c d e f g h w
theorem I8 (args:List Int):aH Try.prog (bQ args) Mx:=by
 refine dV rfl (ours _ _ _ Try.func37 rfl (by kernel_rfl)) fun xs hp w=>?_
 match xs,hp with
 | [a,b,c,d,e,f,g,h],hp=>exact Ll a b c d e f g h w
def aaE:List Sx.Spec:=[xW,BF,GK,Ul,Mx]
theorem SS (args:List Int):∀ s∈aaE,aH Try.prog (bQ args) s:=by
 intro s hs;simp only [aaE,List.mem_cons,List.not_mem_nil,or_false] at hs;rcases hs with rfl|rfl|rfl|rfl|rfl
 . exact eT rfl (xg args _ (by simp [spD,spC]))
 . exact eT rfl (xg args _ (by simp [spD,Qw]))
 . exact eT rfl (xg args _ (by simp [spD,Qw]))
 . exact Ow args
 . exact I8 args
def Ug (t:Tab):Nd->Option Rf
 | .app 20 0 []=>some (.c 1)
 | x=>vE t x
theorem jh (args:List Int):gJ (bQ args) Ug:=by
 intro v t x r ht h;unfold Ug at h;split at h
 . cases h;rfl
 . exact iU (WQ args) v t x r ht h
