/- The contracts of Vertex of both sides. -/
import Derived.Test.YtmldbeipmappnaaZGc
set_option linter.unusedVariables false
set_option linter.unusedSimpArgs false
set_option maxRecDepth 100000
namespace Alm
end Alm
namespace Go.Proofs.Ytmldbeipmappnaa
open Go.RowKit Alm Sx
theorem LF (n:Int) (h0:-5400000<=n) (h1:n<=5400000):bHi (-n)=-bLo n:=by
 rcases Int.lt_trichotomy n 0 with h|h|h
 . obtain ⟨a,b⟩:=gZ n h0 h;obtain ⟨a',b'⟩:=fM (-n) (by omega) (by omega)
   unfold bHi bLo;rw [a,b,a',b'];simp
 . subst h;decide
 . obtain ⟨a,b⟩:=fM n (by omega) h1
   obtain ⟨a',b'⟩:=gZ (-n) (by omega) (by omega)
   unfold bHi bLo;rw [a,b,a',b'];simp
theorem Ja (lo hi:Int) (h:lo<=hi):bC lo<=-bC (-hi):=by
 obtain ⟨a0,a1,a2,_⟩:=bW lo;obtain ⟨b0,b1,b2,_⟩:=bW (-hi)
 by_cases hh:bC lo<=-bC (-hi)
 . exact hh
 . have m:=yA (-bC (-hi)) (bC lo) (by omega) (by omega) (by omega)
   have n:=LF (-bC (-hi)) (by omega) (by omega)
   rw [Int.neg_neg] at n;omega
def invV (a b c d:Int):List Int:=if PtV a b/\PtV c d then [(bA a b c d).getD 0 0,(bA a b c d).getD 1 0,(bY a b c d).getD 0 0,(bY a b c d).getD 1 0,0] else [0,0,0,0,1]
theorem oK (a b c d:Int):0<=(bA a b c d).getD 0 0/\(bA a b c d).getD 0 0<=21599999/\(bA a b c d).getD 0 0<=(bA a b c d).getD 1 0/\(bA a b c d).getD 1 0<=(bA a b c d).getD 0 0+21600000:=by
 rw [(iV a b c d).1,(iV a b c d).2.1];exact mP _ _ _ _
theorem su (a b c d:Int) (h1:PtV a b) (h2:PtV c d):0<=(bY a b c d).getD 0 0/\(bY a b c d).getD 0 0<=(bY a b c d).getD 1 0/\(bY a b c d).getD 1 0<=10800000:=by
 rw [(jc a b c d).1,(jc a b c d).2.1];have m:=oG a c (sgd (d-b)) h1.1 h2.1
 have le:(gI a c (sgd (d-b))).1<=(gI a c (sgd (d-b))).2:=by
  have um:=(U_M (U_C a a) (U_C c c)).2.2;exact ((ek _ _).1 (U_A (U_H (c-a)) (U_M um (U_H (sgd (d-b)))).2.2).2.2).2.1
 generalize (gI a c (sgd (d-b))).1=x at *
 generalize (gI a c (sgd (d-b))).2=y at *
 unfold yu wU oP qH;have e1:yU (1073741824-2*max x 0) 1073741824=1073741824-2*max x 0:=by unfold yU;split<;>omega
 have e2:Ad (1073741824-2*min y 1073741824) (-1073741824)=1073741824-2*min y 1073741824:=by unfold Ad;split<;>omega
 rw [e1,e2];have r1:=bW (-(1073741824-2*max x 0));have r2:=bW (1073741824-2*min y 1073741824);have oo:=Ja (1073741824-2*min y 1073741824) (1073741824-2*max x 0) (by omega)
 generalize bC (-(1073741824-2*max x 0))=p at *
 generalize bC (1073741824-2*min y 1073741824)=q at *
 omega
theorem ptB {x1 x2 x3 x4 y5 y7 y9 z6 z8 z10 a b:Int} (h4:x1=b2i (decide (a>=(-5400000:Int)))) (h5:x2=b2i (decide (a<=(5400000:Int)))) (h7:x3=b2i (decide (b>=(-10800000:Int)))) (h9:x4=b2i (decide (b<(10800000:Int)))) (h6:z6=if x1≠0 then x2 else (0:Int)) (h8:z8=if z6≠0 then x3 else (0:Int)) (h10:z10=if z8≠0 then x4 else (0:Int)):z10=b2i (decide (PtV a b)):=by
 rw [h10,h8,h6,h4,h5,h7,h9,bb2,bb2,bb2];exact congrArg b2i (decide_eq_decide.2 (by omega))
theorem M4 (a b c d:Int) (w:World) (h:¬ (PtV a b/\PtV c d)):Calls Try.prog 14 #[.agg #[.int .i64 a,.int .i64 b],.agg #[.int .i64 c,.int .i64 d]] w fun e w'=>e=.returned (.tuple #[.agg #[.int .i64 0,.int .i64 0,.int .i64 0,.int .i64 0],.int .i64 1])/\Below w.heap.size w w':=by
 refine Sx.calls (X:=cxM [a,b,c,d]) fE (lD _) Em Dw (fun v hs=>?_) w
 have B1:v 10=b2i (decide (PtV (v 0) (v 1))):=ptB (x1:=v 4) (x2:=v 5) (x3:=v 7) (x4:=v 9) (y5:=0) (y7:=0) (y9:=0) (z6:=v 6) (z8:=v 8) (ag hs 4 rfl) (ag hs 5 rfl) (ag hs 7 rfl) (ag hs 9 rfl) (ag hs 6 rfl) (ag hs 8 rfl) (ag hs 10 rfl);have B2:v 18=b2i (decide (PtV (v 2) (v 3))):=ptB (x1:=v 12) (x2:=v 13) (x3:=v 15) (x4:=v 17) (y5:=0) (y7:=0) (y9:=0) (z6:=v 14) (z8:=v 16) (ag hs 12 rfl) (ag hs 13 rfl) (ag hs 15 rfl) (ag hs 17 rfl) (ag hs 14 rfl) (ag hs 16 rfl) (ag hs 18 rfl);have e0:v 0=a:=ag hs 0 rfl;have e1:v 1=b:=ag hs 1 rfl;have e2:v 2=c:=ag hs 2 rfl;have e3:v 3=d:=ag hs 3 rfl;rw [e0,e1] at B1;rw [e2,e3] at B2
 have C:v 10=0∨(v 10=1/\v 18=0):=by
  by_cases p:PtV a b
  . refine .inr ⟨by rw [B1,decide_eq_true p];rfl,?_⟩
    rw [B2,decide_eq_false (fun q=>h ⟨p,q⟩)];rfl
  . exact .inl (by rw [B1,decide_eq_false p];rfl)
 have Z:v 21=0/\v 154=1/\v 155=0/\v 156=0/\v 157=0/\v 158=0:=by
  rcases C with u|⟨u,u2⟩
  . exact ⟨aC (X:=cxM [a,b,c,d]) (v:=v) (l:=bT) (bv _) hs (k:=21) (r:=.c 0) (ps:=[(10,.c 0)]) (nz:=[]) (aa u au) aJ (by kernel_rfl),aC (X:=cxM [a,b,c,d]) (v:=v) (l:=bT) (bv _) hs (k:=154) (r:=.c 1) (ps:=[(10,.c 0)]) (nz:=[]) (aa u au) aJ (by kernel_rfl),aC (X:=cxM [a,b,c,d]) (v:=v) (l:=bT) (bv _) hs (k:=155) (r:=.c 0) (ps:=[(10,.c 0)]) (nz:=[]) (aa u au) aJ (by kernel_rfl),aC (X:=cxM [a,b,c,d]) (v:=v) (l:=bT) (bv _) hs (k:=156) (r:=.c 0) (ps:=[(10,.c 0)]) (nz:=[]) (aa u au) aJ (by kernel_rfl),aC (X:=cxM [a,b,c,d]) (v:=v) (l:=bT) (bv _) hs (k:=157) (r:=.c 0) (ps:=[(10,.c 0)]) (nz:=[]) (aa u au) aJ (by kernel_rfl),aC (X:=cxM [a,b,c,d]) (v:=v) (l:=bT) (bv _) hs (k:=158) (r:=.c 0) (ps:=[(10,.c 0)]) (nz:=[]) (aa u au) aJ (by kernel_rfl)⟩
  . exact ⟨aC (X:=cxM [a,b,c,d]) (v:=v) (l:=bT) (bv _) hs (k:=21) (r:=.c 0) (ps:=[(10,.c 1),(18,.c 0)]) (nz:=[]) (aa u (aa u2 au)) aJ (by kernel_rfl),aC (X:=cxM [a,b,c,d]) (v:=v) (l:=bT) (bv _) hs (k:=154) (r:=.c 1) (ps:=[(10,.c 1),(18,.c 0)]) (nz:=[]) (aa u (aa u2 au)) aJ (by kernel_rfl),aC (X:=cxM [a,b,c,d]) (v:=v) (l:=bT) (bv _) hs (k:=155) (r:=.c 0) (ps:=[(10,.c 1),(18,.c 0)]) (nz:=[]) (aa u (aa u2 au)) aJ (by kernel_rfl),aC (X:=cxM [a,b,c,d]) (v:=v) (l:=bT) (bv _) hs (k:=156) (r:=.c 0) (ps:=[(10,.c 1),(18,.c 0)]) (nz:=[]) (aa u (aa u2 au)) aJ (by kernel_rfl),aC (X:=cxM [a,b,c,d]) (v:=v) (l:=bT) (bv _) hs (k:=157) (r:=.c 0) (ps:=[(10,.c 1),(18,.c 0)]) (nz:=[]) (aa u (aa u2 au)) aJ (by kernel_rfl),aC (X:=cxM [a,b,c,d]) (v:=v) (l:=bT) (bv _) hs (k:=158) (r:=.c 0) (ps:=[(10,.c 1),(18,.c 0)]) (nz:=[]) (aa u (aa u2 au)) aJ (by kernel_rfl)⟩
 refine ⟨cB ?_,?_⟩
 . exact af (fun hp=>absurd Z.1 (aj hp).1) (af (fun hp=>absurd Z.1 (aj hp).1) (af (fun hp=>absurd Z.1 (aj hp).1) (af (fun hp=>absurd Z.1 (aj hp).1) (af (fun hp=>absurd Z.1 (aj hp).1) (af (fun hp=>absurd Z.1 (aj hp).1) (af (fun hp=>absurd Z.1 (aj hp).1) (af (fun hp=>absurd Z.1 (aj hp).1) (af (fun hp=>absurd Z.1 (aj hp).1) (af (fun hp=>absurd Z.1 (aj hp).1) (af (fun hp=>absurd Z.1 (aj hp).1) (af (fun hp=>absurd Z.1 (aj hp).1) (af (fun hp=>absurd Z.1 (aj hp).1) (af (fun hp=>absurd Z.1 (aj hp).1) (af (fun hp=>absurd Z.1 (aj hp).1) (af (fun hp=>absurd Z.1 (aj hp).1) (af (fun hp=>absurd Z.1 (aj hp).1) (af (fun hp=>absurd Z.1 (aj hp).1) (af (fun hp=>absurd Z.1 (aj hp).1) (af (fun hp=>absurd Z.1 (aj hp).1) (af (fun hp=>absurd Z.1 (aj hp).1) (cz)))))))))))))))))))))
 . intro x hx0;have hx':=cu (v:=v) (by rfl) hx0
   rw [hx'];show Value.tuple #[.agg #[.int .i64 (v 155),.int .i64 (v 156),.int .i64 (v 157),.int .i64 (v 158)],.int .i64 (v 154)]=_;obtain ⟨_,z1,z2,z3,z4,z5⟩:=Z;rw [z1,z2,z3,z4,z5]
def kV (f:Nat):Bool:=f==75 || f==76 || f==77
def xP:Nat->List Int->List Int
 | 75,[a,b,c,d]=>[(invV a b c d).getD 0 0,(invV a b c d).getD 1 0,(invV a b c d).getD 2 0,(invV a b c d).getD 3 0,(invV a b c d).getD 4 0]
 | 76,[a,b,c,d]=>bA a b c d
 | 77,[a,b,c,d]=>bY a b c d
 | _,_=>[]
def VZ:Nat->List Int->Prop
 | 75,[_,_,_,_]=>True
 | 76,[a,b,c,d]=>PtV a b/\PtV c d
 | 77,[a,b,c,d]=>PtV a b/\PtV c d
 | _,_=>False
def cxV (args:List Int):Cx:=(cxM args).plus kV xP VZ
theorem UC (args:List Int):xR (cxV args):=nZ (OD args) fun f h=>by
 unfold kV;rcases h with h|rfl
 . simp;omega
 . rfl
def BI:Sx.Spec:=⟨14,75,[(true,[some .i64,some .i64]),(true,[some .i64,some .i64])],[(true,[some .i64,some .i64,some .i64,some .i64]),(false,[some .i64])]⟩
def Oo:Sx.Spec:=BI
def OB:Sx.Spec:=BI
theorem Qb:∀ s∈spM,kV s.id=false:=by
 intro s hs;rcases List.mem_append.1 hs with h|h
 . exact IQ kV (fun f h=>by unfold kV;simp;omega) s h
 . simp only [List.mem_cons,List.not_mem_nil,or_false] at h;rcases h with rfl|rfl|rfl|rfl<;>rfl
theorem xC (args:List Int):aL Try.prog (cxV args) BI:=by
 refine dV rfl (ours _ _ _ Try.func14 rfl (by kernel_rfl)) fun xs hp w=>?_
 match xs,hp with
 | [a,b,c,d],hp =>
  by_cases q:PtV a b/\PtV c d
  . have V:invV a b c d=[(bA a b c d).getD 0 0,(bA a b c d).getD 1 0,(bY a b c d).getD 0 0,(bY a b c d).getD 1 0,0]:=if_pos q;refine (JV a b c d w q.1 q.2).mono ?_;rintro e w' ⟨he,hb⟩;refine ⟨?_,hb⟩;rw [he];show _=Ending.returned (Value.tuple #[.agg #[.int .i64 ((invV a b c d).getD 0 0),.int .i64 ((invV a b c d).getD 1 0),.int .i64 ((invV a b c d).getD 2 0),.int .i64 ((invV a b c d).getD 3 0)],.int .i64 ((invV a b c d).getD 4 0)]);rw [V];rfl
  . have V:invV a b c d=[0,0,0,0,1]:=if_neg q;refine (M4 a b c d w q).mono ?_;rintro e w' ⟨he,hb⟩;refine ⟨?_,hb⟩;rw [he];show _=Ending.returned (Value.tuple #[.agg #[.int .i64 ((invV a b c d).getD 0 0),.int .i64 ((invV a b c d).getD 1 0),.int .i64 ((invV a b c d).getD 2 0),.int .i64 ((invV a b c d).getD 3 0)],.int .i64 ((invV a b c d).getD 4 0)]);rw [V];rfl
theorem Ig (args:List Int):aL Try.prog (cxV args) Oo:=xC args
theorem H8 (args:List Int):aL Try.prog (cxV args) OB:=xC args
def spV:List Sx.Spec:=spM++[BI,Oo,OB]
theorem xN (args:List Int):∀ s∈spV,aL Try.prog (cxV args) s:=by
 intro s hs;rcases List.mem_append.1 hs with h|h
 . exact mM (Qb s h) (lD args s h)
 . simp only [List.mem_cons,List.not_mem_nil,or_false] at h;rcases h with rfl|rfl|rfl
   . exact xC args
   . exact Ig args
   . exact H8 args
def Sy (t:Tab):Nd->Option Rf
 | .app 73 2 [_,_]=>some (.c 0)
 | .app 74 2 [_,_]=>some (.c 0)
 | .app 46 2 [_,_]=>some (.c 0)
 | .app 20 0 []=>some (.c 1)
 | x=>IZ t x
theorem av (args:List Int):jJ (cxV args) Sy:=by
 intro v t x r ht h;unfold Sy at h;split at h
 . cases h;rfl
 . cases h;rfl
 . cases h;rfl
 . cases h;rfl
 . exact yf (UC args) v t x r ht h
