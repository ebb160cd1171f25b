/- The known functions of the law GreatcircleTracks, and its example. -/
import Derived.Test.YtmldbeipmappnaaZAt
import Derived.Test.YtmldbeipmappnaaZCro
set_option linter.unusedVariables false
set_option linter.unusedSimpArgs false
set_option maxRecDepth 100000
namespace Go.Proofs.Ytmldbeipmappnaa
open Go.RowKit Alm Sx
theorem TP (x y z u w:Int):[x,y,z,u,w].getD 0 0=x/\[x,y,z,u,w].getD 1 0=y/\[x,y,z,u,w].getD 2 0=z/\[x,y,z,u,w].getD 3 0=u/\[x,y,z,u,w].getD 4 0=w:=⟨rfl,rfl,rfl,rfl,rfl⟩
theorem RI (a b c d:Int) (w:World) (h:¬ (PtV a b/\PtV c d)):Calls Try.prog 19 #[.agg #[.int .i64 a,.int .i64 b],.agg #[.int .i64 c,.int .i64 d]] w fun e w'=>e=.returned (.tuple #[.agg #[.int .i64 0,.int .i64 0,.int .i64 0,.int .i64 0],.int .i64 1])/\Below w.heap.size w w':=by
 refine Sx.calls (X:=cxV [a,b,c,d]) dX (Ee _) GG Hu (fun v hs=>?_) w
 have e0:v 0=a:=ae hs 0 rfl;have e1:v 1=b:=ae hs 1 rfl;have e2:v 2=c:=ae hs 2 rfl;have e3:v 3=d:=ae hs 3 rfl;have e8:v 8=(Lj 75 [v 0,v 1,v 2,v 3]).getD 4 0:=ae hs 8 rfl;have IVq:invV (v 0) (v 1) (v 2) (v 3)=[0,0,0,0,1]:=by rw [e0,e1,e2,e3];exact if_neg h
 have E8:v 8=1:=e8.trans (by show (invV (v 0) (v 1) (v 2) (v 3)).getD 4 0=_;rw [IVq];rfl)
 have z24:v 24=0:=ak (X:=cxV [a,b,c,d]) (v:=v) (l:=aK) (aM _) hs (k:=24) (r:=.c 0) (ps:=[(8,.c 1)]) (nz:=[]) (aa E8 aj) az (by kernel_rfl)
 have z143:v 143=1:=ak (X:=cxV [a,b,c,d]) (v:=v) (l:=aK) (aM _) hs (k:=143) (r:=.c 1) (ps:=[(8,.c 1)]) (nz:=[]) (aa E8 aj) az (by kernel_rfl)
 have z144:v 144=0:=ak (X:=cxV [a,b,c,d]) (v:=v) (l:=aK) (aM _) hs (k:=144) (r:=.c 0) (ps:=[(8,.c 1)]) (nz:=[]) (aa E8 aj) az (by kernel_rfl)
 have z145:v 145=0:=ak (X:=cxV [a,b,c,d]) (v:=v) (l:=aK) (aM _) hs (k:=145) (r:=.c 0) (ps:=[(8,.c 1)]) (nz:=[]) (aa E8 aj) az (by kernel_rfl)
 have z146:v 146=0:=ak (X:=cxV [a,b,c,d]) (v:=v) (l:=aK) (aM _) hs (k:=146) (r:=.c 0) (ps:=[(8,.c 1)]) (nz:=[]) (aa E8 aj) az (by kernel_rfl)
 have z147:v 147=0:=ak (X:=cxV [a,b,c,d]) (v:=v) (l:=aK) (aM _) hs (k:=147) (r:=.c 0) (ps:=[(8,.c 1)]) (nz:=[]) (aa E8 aj) az (by kernel_rfl)
 refine ⟨bO ?_,?_⟩
 . exact ag (fun _=>trivial) (ag (fun hp=>absurd z24 (au hp).1) (ag (fun hp=>absurd z24 (au hp).1) (ag (fun hp=>absurd z24 (au hp).1) (ag (fun hp=>absurd z24 (au hp).1) (ag (fun hp=>absurd z24 (au hp).1) (ag (fun hp=>absurd z24 (au hp).1) (ag (fun hp=>absurd z24 (au hp).1) (ag (fun hp=>absurd z24 (au (au hp).2).1) (ag (fun hp=>absurd z24 (au (au hp).2).1) (ag (fun hp=>absurd z24 (au (au hp).2).1) (bN)))))))))))
 . intro x hx0;have hx':=dL (v:=v) (by rfl) hx0
   rw [hx'];show Value.tuple #[.agg #[.int .i64 (v 144),.int .i64 (v 145),.int .i64 (v 146),.int .i64 (v 147)],.int .i64 (v 143)]=_;rw [z143,z144,z145,z146,z147]
theorem Ti (a b c d n:Int) (w:World) (h:¬ (PtV a b/\PtV c d)):Calls Try.prog 22 #[.agg #[.int .i64 a,.int .i64 b],.agg #[.int .i64 c,.int .i64 d],.int .i64 n] w fun e w'=>e=.returned (.tuple #[.agg #[.int .i64 0,.int .i64 0],.int .i64 1])/\Below w.heap.size w w':=by
 refine Sx.calls (X:=cxM [a,b,c,d,n]) dX (oJ _) Bh Be (fun v hs=>?_) w
 have e0:v 0=a:=ae hs 0 rfl;have e1:v 1=b:=ae hs 1 rfl;have e2:v 2=c:=ae hs 2 rfl;have e3:v 3=d:=ae hs 3 rfl;have e4:v 4=n:=ae hs 4 rfl;have B1:v 11=b2i (decide (PtV (v 0) (v 1))):=ptB (x1:=v 5) (x2:=v 6) (x3:=v 8) (x4:=v 10) (y5:=0) (y7:=0) (y9:=0) (z6:=v 7) (z8:=v 9) (ae hs 5 rfl) (ae hs 6 rfl) (ae hs 8 rfl) (ae hs 10 rfl) (ae hs 7 rfl) (ae hs 9 rfl) (ae hs 11 rfl);have B2:v 19=b2i (decide (PtV (v 2) (v 3))):=ptB (x1:=v 13) (x2:=v 14) (x3:=v 16) (x4:=v 18) (y5:=0) (y7:=0) (y9:=0) (z6:=v 15) (z8:=v 17) (ae hs 13 rfl) (ae hs 14 rfl) (ae hs 16 rfl) (ae hs 18 rfl) (ae hs 15 rfl) (ae hs 17 rfl) (ae hs 19 rfl);have B3:v 22=b2i (decide (v 4<(-10800000:Int))):=(ae hs 22 rfl);have B4:v 23=b2i (decide (v 4>(10800000:Int))):=(ae hs 23 rfl);rw [e0,e1] at B1;rw [e2,e3] at B2;rw [e4] at B3 B4
 have C:v 11=0∨(v 11=1/\v 19=0):=by
  by_cases p:PtV a b
  . refine .inr ⟨by rw [B1,decide_eq_true p];rfl,?_⟩
    rw [B2,decide_eq_false (fun q=>h ⟨p,q⟩)];rfl
  . exact .inl (by rw [B1,decide_eq_false p];rfl)
 have Z:v 27=0/\v 232=1/\v 233=0/\v 234=0:=by
  rcases C with u|⟨u,u2⟩
  . exact ⟨ak (X:=cxM [a,b,c,d,n]) (v:=v) (l:=aR) (aF _) hs (k:=27) (r:=.c 0) (ps:=[(11,.c 0)]) (nz:=[]) (aa u aj) az (by kernel_rfl),ak (X:=cxM [a,b,c,d,n]) (v:=v) (l:=aR) (aF _) hs (k:=232) (r:=.c 1) (ps:=[(11,.c 0)]) (nz:=[]) (aa u aj) az (by kernel_rfl),ak (X:=cxM [a,b,c,d,n]) (v:=v) (l:=aR) (aF _) hs (k:=233) (r:=.c 0) (ps:=[(11,.c 0)]) (nz:=[]) (aa u aj) az (by kernel_rfl),ak (X:=cxM [a,b,c,d,n]) (v:=v) (l:=aR) (aF _) hs (k:=234) (r:=.c 0) (ps:=[(11,.c 0)]) (nz:=[]) (aa u aj) az (by kernel_rfl)⟩
  . exact ⟨ak (X:=cxM [a,b,c,d,n]) (v:=v) (l:=aR) (aF _) hs (k:=27) (r:=.c 0) (ps:=[(11,.c 1),(19,.c 0)]) (nz:=[]) (aa u (aa u2 aj)) az (by kernel_rfl),ak (X:=cxM [a,b,c,d,n]) (v:=v) (l:=aR) (aF _) hs (k:=232) (r:=.c 1) (ps:=[(11,.c 1),(19,.c 0)]) (nz:=[]) (aa u (aa u2 aj)) az (by kernel_rfl),ak (X:=cxM [a,b,c,d,n]) (v:=v) (l:=aR) (aF _) hs (k:=233) (r:=.c 0) (ps:=[(11,.c 1),(19,.c 0)]) (nz:=[]) (aa u (aa u2 aj)) az (by kernel_rfl),ak (X:=cxM [a,b,c,d,n]) (v:=v) (l:=aR) (aF _) hs (k:=234) (r:=.c 0) (ps:=[(11,.c 1),(19,.c 0)]) (nz:=[]) (aa u (aa u2 aj)) az (by kernel_rfl)⟩
 refine ⟨bO ?_,?_⟩
 . exact ag (fun hp=>absurd Z.1 (au hp).1) (ag (fun hp=>absurd Z.1 (au hp).1) (ag (fun hp=>absurd Z.1 (au hp).1) (ag (fun hp=>absurd Z.1 (au hp).1) (ag (fun hp=>absurd Z.1 (au hp).1) (ag (fun hp=>absurd Z.1 (au hp).1) (ag (fun hp=>absurd Z.1 (au hp).1) (ag (fun hp=>absurd Z.1 (au hp).1) (ag (fun hp=>absurd Z.1 (au hp).1) (ag (fun hp=>absurd Z.1 (au hp).1) (ag (fun hp=>absurd Z.1 (au hp).1) (ag (fun hp=>absurd Z.1 (au hp).1) (ag (fun hp=>absurd Z.1 (au hp).1) (ag (fun hp=>absurd Z.1 (au hp).1) (ag (fun hp=>absurd Z.1 (au (au (au (au hp).2).2).2).1) (ag (fun hp=>absurd Z.1 (au (au (au (au hp).2).2).2).1) (ag (fun hp=>absurd Z.1 (au (au (au hp).2).2).1) (bN)))))))))))))))))
 . intro x hx0;have hx':=dL (v:=v) (by rfl) hx0
   rw [hx'];show Value.tuple #[.agg #[.int .i64 (v 233),.int .i64 (v 234)],.int .i64 (v 232)]=_;obtain ⟨_,z1,z2,z3⟩:=Z;rw [z1,z2,z3]
theorem QN (a b c d n:Int) (w:World) (h1:PtV a b) (h2:PtV c d) (h:¬ (-10800000<=n/\n<=10800000)):Calls Try.prog 22 #[.agg #[.int .i64 a,.int .i64 b],.agg #[.int .i64 c,.int .i64 d],.int .i64 n] w fun e w'=>e=.returned (.tuple #[.agg #[.int .i64 0,.int .i64 0],.int .i64 2])/\Below w.heap.size w w':=by
 refine Sx.calls (X:=cxM [a,b,c,d,n]) dX (oJ _) Bh Be (fun v hs=>?_) w
 have e0:v 0=a:=ae hs 0 rfl;have e1:v 1=b:=ae hs 1 rfl;have e2:v 2=c:=ae hs 2 rfl;have e3:v 3=d:=ae hs 3 rfl;have e4:v 4=n:=ae hs 4 rfl;have B1:v 11=b2i (decide (PtV (v 0) (v 1))):=ptB (x1:=v 5) (x2:=v 6) (x3:=v 8) (x4:=v 10) (y5:=0) (y7:=0) (y9:=0) (z6:=v 7) (z8:=v 9) (ae hs 5 rfl) (ae hs 6 rfl) (ae hs 8 rfl) (ae hs 10 rfl) (ae hs 7 rfl) (ae hs 9 rfl) (ae hs 11 rfl);have B2:v 19=b2i (decide (PtV (v 2) (v 3))):=ptB (x1:=v 13) (x2:=v 14) (x3:=v 16) (x4:=v 18) (y5:=0) (y7:=0) (y9:=0) (z6:=v 15) (z8:=v 17) (ae hs 13 rfl) (ae hs 14 rfl) (ae hs 16 rfl) (ae hs 18 rfl) (ae hs 15 rfl) (ae hs 17 rfl) (ae hs 19 rfl);have B3:v 22=b2i (decide (v 4<(-10800000:Int))):=(ae hs 22 rfl);have B4:v 23=b2i (decide (v 4>(10800000:Int))):=(ae hs 23 rfl);rw [e0,e1] at B1;rw [e2,e3] at B2;rw [e4] at B3 B4;have u1:v 11=1:=by rw [B1,decide_eq_true h1];rfl
 have u2:v 19=1:=by rw [B2,decide_eq_true h2];rfl
 have C:v 22=1∨(v 22=0/\v 23=1):=by
  by_cases p:n < -10800000
  . exact .inl (by rw [B3,decide_eq_true p];rfl)
  . exact .inr ⟨by rw [B3,decide_eq_false p];rfl,by rw [B4,decide_eq_true (by omega)];rfl⟩
 have Z:v 27=0/\v 232=2/\v 233=0/\v 234=0:=by
  rcases C with u|⟨u,u3⟩
  . exact ⟨ak (X:=cxM [a,b,c,d,n]) (v:=v) (l:=aR) (aF _) hs (k:=27) (r:=.c 0) (ps:=[(11,.c 1),(19,.c 1),(22,.c 1)]) (nz:=[]) (aa u1 (aa u2 (aa u aj))) az (by kernel_rfl),ak (X:=cxM [a,b,c,d,n]) (v:=v) (l:=aR) (aF _) hs (k:=232) (r:=.c 2) (ps:=[(11,.c 1),(19,.c 1),(22,.c 1)]) (nz:=[]) (aa u1 (aa u2 (aa u aj))) az (by kernel_rfl),ak (X:=cxM [a,b,c,d,n]) (v:=v) (l:=aR) (aF _) hs (k:=233) (r:=.c 0) (ps:=[(11,.c 1),(19,.c 1),(22,.c 1)]) (nz:=[]) (aa u1 (aa u2 (aa u aj))) az (by kernel_rfl),ak (X:=cxM [a,b,c,d,n]) (v:=v) (l:=aR) (aF _) hs (k:=234) (r:=.c 0) (ps:=[(11,.c 1),(19,.c 1),(22,.c 1)]) (nz:=[]) (aa u1 (aa u2 (aa u aj))) az (by kernel_rfl)⟩
  . exact ⟨ak (X:=cxM [a,b,c,d,n]) (v:=v) (l:=aR) (aF _) hs (k:=27) (r:=.c 0) (ps:=[(11,.c 1),(19,.c 1),(22,.c 0),(23,.c 1)]) (nz:=[]) (aa u1 (aa u2 (aa u (aa u3 aj)))) az (by kernel_rfl),ak (X:=cxM [a,b,c,d,n]) (v:=v) (l:=aR) (aF _) hs (k:=232) (r:=.c 2) (ps:=[(11,.c 1),(19,.c 1),(22,.c 0),(23,.c 1)]) (nz:=[]) (aa u1 (aa u2 (aa u (aa u3 aj)))) az (by kernel_rfl),ak (X:=cxM [a,b,c,d,n]) (v:=v) (l:=aR) (aF _) hs (k:=233) (r:=.c 0) (ps:=[(11,.c 1),(19,.c 1),(22,.c 0),(23,.c 1)]) (nz:=[]) (aa u1 (aa u2 (aa u (aa u3 aj)))) az (by kernel_rfl),ak (X:=cxM [a,b,c,d,n]) (v:=v) (l:=aR) (aF _) hs (k:=234) (r:=.c 0) (ps:=[(11,.c 1),(19,.c 1),(22,.c 0),(23,.c 1)]) (nz:=[]) (aa u1 (aa u2 (aa u (aa u3 aj)))) az (by kernel_rfl)⟩
 refine ⟨bO ?_,?_⟩
 . exact ag (fun hp=>absurd Z.1 (au hp).1) (ag (fun hp=>absurd Z.1 (au hp).1) (ag (fun hp=>absurd Z.1 (au hp).1) (ag (fun hp=>absurd Z.1 (au hp).1) (ag (fun hp=>absurd Z.1 (au hp).1) (ag (fun hp=>absurd Z.1 (au hp).1) (ag (fun hp=>absurd Z.1 (au hp).1) (ag (fun hp=>absurd Z.1 (au hp).1) (ag (fun hp=>absurd Z.1 (au hp).1) (ag (fun hp=>absurd Z.1 (au hp).1) (ag (fun hp=>absurd Z.1 (au hp).1) (ag (fun hp=>absurd Z.1 (au hp).1) (ag (fun hp=>absurd Z.1 (au hp).1) (ag (fun hp=>absurd Z.1 (au hp).1) (ag (fun hp=>absurd Z.1 (au (au (au (au hp).2).2).2).1) (ag (fun hp=>absurd Z.1 (au (au (au (au hp).2).2).2).1) (ag (fun hp=>absurd Z.1 (au (au (au hp).2).2).1) (bN)))))))))))))))))
 . intro x hx0;have hx':=dL (v:=v) (by rfl) hx0
   rw [hx'];show Value.tuple #[.agg #[.int .i64 (v 233),.int .i64 (v 234)],.int .i64 (v 232)]=_;obtain ⟨_,z1,z2,z3⟩:=Z;rw [z1,z2,z3]
def gT (a b c d:Int):List Int:=if PtV a b/\PtV c d then nI a b c d else [0,0,0,0,1]
def atW (a b c d n:Int):List Int:=if PtV a b/\PtV c d then (if -10800000<=n/\n<=10800000 then atV a b c d n else [0,0,2]) else [0,0,1]
def kT (f:Nat):Bool:=f==78 || f==79 || f==80 || f==81 || f==82 || f==83
def aeR:Nat->List Int->List Int
 | 78,[a,b,c,d]=>[(gT a b c d).getD 0 0,(gT a b c d).getD 1 0,(gT a b c d).getD 2 0,(gT a b c d).getD 3 0,(gT a b c d).getD 4 0]
 | 79,[a,b,c,d,n]=>[(atW a b c d n).getD 0 0,(atW a b c d n).getD 1 0,(atW a b c d n).getD 2 0]
 | 80,[a,b,c,d,n]=>[(atV a b c d n).getD 0 0,(atV a b c d n).getD 1 0,b2i (decide (¬ atN a b c d))]
 | 81,[a,b,c,d,m,n]=>[(VF a b c d m n).getD 0 0,(VF a b c d m n).getD 1 0,(VF a b c d m n).getD 2 0]
 | 82,[a,b,c,d]=>[(nI a b c d).getD 0 0,(nI a b c d).getD 1 0,(nI a b c d).getD 2 0,(nI a b c d).getD 3 0]
 | 83,[a,b,c,d,m,n]=>[qw (cN a b c d m n).1,qV (cN a b c d m n).2]
 | _,_=>[]
def aeL:Nat->List Int->Prop
 | 78,[_,_,_,_]=>True
 | 79,[_,_,_,_,_]=>True
 | 80,[a,b,c,d,_]=>PtV a b/\PtV c d
 | 81,[_,_,_,_,_,_]=>True
 | 82,[a,b,c,d]=>(PtV a b/\PtV c d)/\¬ crA a b c d
 | 83,[a,b,c,d,m,n]=>(PtV a b/\PtV c d)/\PtV m n
 | _,_=>False
def cxT (args:List Int):Cx:=(cxV args).plus kT aeR aeL
theorem Uy (args:List Int):om (cxT args):=jg (Uc args) fun f h=>by
 unfold kT;rcases h with h|rfl
 . simp;omega
 . rfl
def YQ:Sx.Spec:=⟨19,78,[(true,[some .i64,some .i64]),(true,[some .i64,some .i64])],[(true,[some .i64,some .i64,some .i64,some .i64]),(false,[some .i64])]⟩
def adf:Sx.Spec:=⟨22,79,[(true,[some .i64,some .i64]),(true,[some .i64,some .i64]),(false,[some .i64])],[(true,[some .i64,some .i64]),(false,[some .i64])]⟩
theorem IU (args:List Int):aH Try.prog (cxT args) YQ:=by
 refine dV rfl (ours _ _ _ Try.func19 rfl (by kernel_rfl)) fun xs hp w=>?_
 match xs,hp with
 | [a,b,c,d],hp =>
  by_cases q:PtV a b/\PtV c d
  . have V:gT a b c d=nI a b c d:=if_pos q;refine (XQ a b c d w q.1 q.2).mono ?_;rintro e w' ⟨he,hb⟩;refine ⟨?_,hb⟩;rw [he];show _=Ending.returned (Value.tuple #[.agg #[.int .i64 ((gT a b c d).getD 0 0),.int .i64 ((gT a b c d).getD 1 0),.int .i64 ((gT a b c d).getD 2 0),.int .i64 ((gT a b c d).getD 3 0)],.int .i64 ((gT a b c d).getD 4 0)]);rw [V]
  . have V:gT a b c d=[0,0,0,0,1]:=if_neg q;refine (RI a b c d w q).mono ?_;rintro e w' ⟨he,hb⟩;refine ⟨?_,hb⟩;rw [he];show _=Ending.returned (Value.tuple #[.agg #[.int .i64 ((gT a b c d).getD 0 0),.int .i64 ((gT a b c d).getD 1 0),.int .i64 ((gT a b c d).getD 2 0),.int .i64 ((gT a b c d).getD 3 0)],.int .i64 ((gT a b c d).getD 4 0)]);rw [V];rfl
theorem Ru (args:List Int):aH Try.prog (cxT args) adf:=by
 refine dV rfl (ours _ _ _ Try.func22 rfl (by kernel_rfl)) fun xs hp w=>?_
 match xs,hp with
 | [a,b,c,d,n],hp =>
  have SH:∀ (e:Ending) (l:List Int),atW a b c d n=l->e=Ending.returned (Value.tuple #[.agg #[.int .i64 (l.getD 0 0),.int .i64 (l.getD 1 0)],.int .i64 (l.getD 2 0)])->e=Ending.returned (Value.tuple #[.agg #[.int .i64 ((atW a b c d n).getD 0 0),.int .i64 ((atW a b c d n).getD 1 0)],.int .i64 ((atW a b c d n).getD 2 0)]):=by
   rintro e l rfl h;exact h
  by_cases q:PtV a b/\PtV c d
  . by_cases q2:-10800000<=n/\n<=10800000
    . refine (aa8 a b c d n w q.1 q.2 q2).mono ?_;rintro e w' ⟨he,hb⟩;exact ⟨SH e _ ((if_pos q).trans (if_pos q2)) he,hb⟩
    . refine (QN a b c d n w q.1 q.2 q2).mono ?_;rintro e w' ⟨he,hb⟩;exact ⟨SH e _ ((if_pos q).trans (if_neg q2)) he,hb⟩
  . refine (Ti a b c d n w q).mono ?_;rintro e w' ⟨he,hb⟩;exact ⟨SH e _ (if_neg q) he,hb⟩
def aej (t:Tab):Nd->Option Rf
 | .app 20 0 []=>some (.c 1)
 | x=>vE t x
theorem fF (args:List Int):gJ (cxT args) aej:=by
 intro v t x r ht h;unfold aej at h;split at h
 . cases h;rfl
 . exact iU (Uy args) v t x r ht h
def MJ:Nat->List Int->Bool
 | 75,[_,_,_,_]=>true
 | 78,[_,_,_,_]=>true
 | _,_=>false
theorem Oe (args:List Int) (f:Nat) (xs:List Int) (h:MJ f xs=true):(cxT args).pre f xs:=by
 unfold MJ at h;split at h
 . trivial
 . trivial
 . cases h
theorem xD (args:List Int):aH Try.prog (cxT args) AJ:=eT rfl (Ee args AJ (List.mem_append_right _ (by simp)))
def YF:List Sx.Spec:=[AJ,YQ]
theorem Ri (args:List Int):∀ s∈YF,aH Try.prog (cxT args) s:=by
 intro s hs;simp only [YF,List.mem_cons,List.not_mem_nil,or_false] at hs;rcases hs with rfl|rfl
 . exact xD args
 . exact IU args
def Ak:List Nd:=[
 .app 75 0 [.c 0,.c 0,.c 0,.c 3600000],
 .app 75 1 [.c 0,.c 0,.c 0,.c 3600000],
 .app 75 2 [.c 0,.c 0,.c 0,.c 3600000],
 .app 75 3 [.c 0,.c 0,.c 0,.c 3600000],
 .app 75 4 [.c 0,.c 0,.c 0,.c 3600000],
 .app 75 0 [.c 0,.c 0,.c 1800000,.c 5400000],
 .app 75 1 [.c 0,.c 0,.c 1800000,.c 5400000],
 .app 75 2 [.c 0,.c 0,.c 1800000,.c 5400000],
 .app 75 3 [.c 0,.c 0,.c 1800000,.c 5400000],
 .app 75 4 [.c 0,.c 0,.c 1800000,.c 5400000],
 .app 78 0 [.c 0,.c 0,.c 1800000,.c 5400000],
 .app 78 1 [.c 0,.c 0,.c 1800000,.c 5400000],
 .app 78 2 [.c 0,.c 0,.c 1800000,.c 5400000],
 .app 78 3 [.c 0,.c 0,.c 1800000,.c 5400000],
 .app 78 4 [.c 0,.c 0,.c 1800000,.c 5400000],
 .bin .eql .i64 (.n 4) (.c 0),
 .bin .eql .i64 (.n 0) (.c 5400000),
 .bin .eql .i64 (.n 1) (.c 5400000),
 .bin .eql .i64 (.n 2) (.c 3600000),
 .bin .eql .i64 (.n 3) (.c 3600000),
 .ite (.n 18) (.n 19) (.c 0),
 .ite (.n 17) (.n 20) (.c 0),
 .ite (.n 16) (.n 21) (.c 0),
 .ite (.n 15) (.n 22) (.c 0),
 .bin .eql .i64 (.n 9) (.c 0),
 .ite (.n 23) (.n 24) (.c 0),
 .bin .leq .i64 (.n 7) (.c 5400000),
 .ite (.n 25) (.n 26) (.c 0),
 .bin .geq .i64 (.n 8) (.c 5400000),
 .ite (.n 27) (.n 28) (.c 0),
 .bin .sub .i64 (.n 8) (.n 7),
 .bin .leq .i64 (.n 30) (.c 4),
 .ite (.n 29) (.n 31) (.c 0),
 .bin .eql .i64 (.n 14) (.c 0),
 .ite (.n 32) (.n 33) (.c 0),
 .bin .lss .i64 (.c 1800000) (.n 10),
 .bin .gtr .i64 (.c 1800000) (.n 11),
 .ite (.n 35) (.c 1) (.n 36),
 .ite (.n 37) (.c 0) (.c 1),
 .bin .sub .i64 (.c 5400000) (.n 12),
 .bin .rem .i64 (.n 39) (.c 21600000),
 .bin .lss .i64 (.n 40) (.c 0),
 .bin .add .i64 (.n 40) (.c 21600000),
 .ite (.n 41) (.c 0) (.c 1),
 .ite (.n 41) (.n 42) (.n 40),
 .bin .sub .i64 (.n 13) (.n 12),
 .bin .leq .i64 (.n 44) (.n 45),
 .ite (.n 37) (.c 0) (.n 46),
 .ite (.n 34) (.n 47) (.c 0)]
def Gu:List Vc:=[
 ⟨[],.pre 75 [.c 0,.c 0,.c 0,.c 3600000]⟩,
 ⟨[],.pre 75 [.c 0,.c 0,.c 1800000,.c 5400000]⟩,
 ⟨[],.pre 78 [.c 0,.c 0,.c 1800000,.c 5400000]⟩]
theorem Qf:whole Try.prog YF 20 40 13 []=some (.p (.c (.bool (.n 48))),⟨Ak.reverse,Gu.reverse⟩):=by kernel_rfl
theorem QH:wfN Ak.reverse=true:=by kernel_rfl
theorem I5 (w:World):Calls Try.prog 13 #[] w fun e w'=>e=.returned (.bool true)/\Below w.heap.size w w':=by
 refine Sx.calls (X:=cxT []) dX (Ri _) Qf QH (fun v hs=>?_) w
 have h:=G7 (X:=cxT []) (v:=v) (nd:=Ak) hs (pre:=MJ) (Oe []) (vs:=Gu.reverse) (k:=48) (z:=1) (by kernel_rfl)
 refine ⟨h.2,fun x hx=>?_⟩
 have hx':x=.bool (decide (v 48≠0)):=hx;rw [hx',h.1];rfl
def qF:Sx.Spec:=⟨13,20,[],[(false,[none])]⟩
theorem mE (args:List Int):aH Try.prog (cxT args) qF:=by
 refine eT rfl (eT rfl (eT rfl (eT rfl ⟨ours _ _ _ Try.func13 rfl (by kernel_rfl),fun xs hp w=>?_⟩)))
 have hp':preB 20 xs:=hp;rw [abQ hp'];exact I5 w
