/- The known functions of the law GreatcircleTracks,and its example. -/
import Derived.Test.YtfffpodaabdpfaaGreatAt
import Derived.Test.YtfffpodaabdpfaaGreatCro
set_option linter.unusedVariables false
set_option linter.unusedSimpArgs false
namespace Go.Proofs.YtfffpodaabdpfaaGreat
open Go.RowKit Alm Sx
theorem getD5 (x y z u w:Int):[x,y,z,u,w].getD 0 0=x∧[x,y,z,u,w].getD 1 0=y∧[x,y,z,u,w].getD 2 0=z∧[x,y,z,u,w].getD 3 0=u∧[x,y,z,u,w].getD 4 0=w:=⟨rfl,rfl,rfl,rfl,rfl⟩
set_option maxRecDepth 100000 in
theorem c_pVerN (a b c d:Int) (w:World) (h:¬ (PtV a b∧PtV c d)):Calls Tryz.prog 39 #[.agg #[.int .i64 a,.int .i64 b],.agg #[.int .i64 c,.int .i64 d]] w fun e w'=>e=.returned (.tuple #[.agg #[.int .i64 0,.int .i64 0,.int .i64 0,.int .i64 0],.int .i64 1])∧Below w.heap.size w w':=by
 refine Sx.calls (X:=cxV [a,b,c,d]) hmix (spV_ok _) wh_pVer wf_pVer (fun v hs=>?_) w
 have e0:v 0=a:=satF hs 0 rfl
 have e1:v 1=b:=satF hs 1 rfl
 have e2:v 2=c:=satF hs 2 rfl
 have e3:v 3=d:=satF hs 3 rfl
 have e8:v 8=(semV 75 [v 0,v 1,v 2,v 3]).getD 4 0:=satF hs 8 rfl
 have IVq:invV (v 0) (v 1) (v 2) (v 3)=[0,0,0,0,1]:=by rw [e0,e1,e2,e3];exact if_neg h
 have E8:v 8=1:=e8.trans (by show (invV (v 0) (v 1) (v 2) (v 3)).getD 4 0=_;rw [IVq];rfl)
 have z24:v 24=0:=norm_val (X:=cxV [a,b,c,d]) (v:=v) (l:=nd_pVer) (extV_ok _) hs (k:=24) (r:=.c 0) (ps:=[(8,.c 1)]) (nz:=[]) (ps_cons E8 ps_nil) nz_nil (by kernel_rfl)
 have z143:v 143=1:=norm_val (X:=cxV [a,b,c,d]) (v:=v) (l:=nd_pVer) (extV_ok _) hs (k:=143) (r:=.c 1) (ps:=[(8,.c 1)]) (nz:=[]) (ps_cons E8 ps_nil) nz_nil (by kernel_rfl)
 have z144:v 144=0:=norm_val (X:=cxV [a,b,c,d]) (v:=v) (l:=nd_pVer) (extV_ok _) hs (k:=144) (r:=.c 0) (ps:=[(8,.c 1)]) (nz:=[]) (ps_cons E8 ps_nil) nz_nil (by kernel_rfl)
 have z145:v 145=0:=norm_val (X:=cxV [a,b,c,d]) (v:=v) (l:=nd_pVer) (extV_ok _) hs (k:=145) (r:=.c 0) (ps:=[(8,.c 1)]) (nz:=[]) (ps_cons E8 ps_nil) nz_nil (by kernel_rfl)
 have z146:v 146=0:=norm_val (X:=cxV [a,b,c,d]) (v:=v) (l:=nd_pVer) (extV_ok _) hs (k:=146) (r:=.c 0) (ps:=[(8,.c 1)]) (nz:=[]) (ps_cons E8 ps_nil) nz_nil (by kernel_rfl)
 have z147:v 147=0:=norm_val (X:=cxV [a,b,c,d]) (v:=v) (l:=nd_pVer) (extV_ok _) hs (k:=147) (r:=.c 0) (ps:=[(8,.c 1)]) (nz:=[]) (ps_cons E8 ps_nil) nz_nil (by kernel_rfl)
 refine ⟨vcs_rev ?_,?_⟩
 · exact vcs_cons (fun _=>trivial) (vcs_cons (fun hp=>absurd z24 (pt_true hp).1) (vcs_cons (fun hp=>absurd z24 (pt_true hp).1) (vcs_cons (fun hp=>absurd z24 (pt_true hp).1) (vcs_cons (fun hp=>absurd z24 (pt_true hp).1) (vcs_cons (fun hp=>absurd z24 (pt_true hp).1) (vcs_cons (fun hp=>absurd z24 (pt_true hp).1) (vcs_cons (fun hp=>absurd z24 (pt_true hp).1) (vcs_cons (fun hp=>absurd z24 (pt_true (pt_true hp).2).1) (vcs_cons (fun hp=>absurd z24 (pt_true (pt_true hp).2).1) (vcs_cons (fun hp=>absurd z24 (pt_true (pt_true hp).2).1) (vcs_nil)))))))))))
 · intro x hx0
   have hx':=valV_of (v:=v) (by rfl) hx0
   rw [hx']
   show Value.tuple #[.agg #[.int .i64 (v 144),.int .i64 (v 145),.int .i64 (v 146),.int .i64 (v 147)],.int .i64 (v 143)]=_
   rw [z143,z144,z145,z146,z147]
set_option maxRecDepth 100000 in
theorem c_pAtlN (a b c d n:Int) (w:World) (h:¬ (PtV a b∧PtV c d)):Calls Tryz.prog 40 #[.agg #[.int .i64 a,.int .i64 b],.agg #[.int .i64 c,.int .i64 d],.int .i64 n] w fun e w'=>e=.returned (.tuple #[.agg #[.int .i64 0,.int .i64 0],.int .i64 1])∧Below w.heap.size w w':=by
 refine Sx.calls (X:=cxM [a,b,c,d,n]) hmix (spM_ok _) wh_pAtl wf_pAtl (fun v hs=>?_) w
 have e0:v 0=a:=satF hs 0 rfl
 have e1:v 1=b:=satF hs 1 rfl
 have e2:v 2=c:=satF hs 2 rfl
 have e3:v 3=d:=satF hs 3 rfl
 have e4:v 4=n:=satF hs 4 rfl
 have B1:v 11=b2i (decide (PtV (v 0) (v 1))):=ptB (x1:=v 5) (x2:=v 6) (x3:=v 8) (x4:=v 10) (y5:=0) (y7:=0) (y9:=0) (z6:=v 7) (z8:=v 9) (satF hs 5 rfl) (satF hs 6 rfl) (satF hs 8 rfl) (satF hs 10 rfl) (satF hs 7 rfl) (satF hs 9 rfl) (satF hs 11 rfl)
 have B2:v 19=b2i (decide (PtV (v 2) (v 3))):=ptB (x1:=v 13) (x2:=v 14) (x3:=v 16) (x4:=v 18) (y5:=0) (y7:=0) (y9:=0) (z6:=v 15) (z8:=v 17) (satF hs 13 rfl) (satF hs 14 rfl) (satF hs 16 rfl) (satF hs 18 rfl) (satF hs 15 rfl) (satF hs 17 rfl) (satF hs 19 rfl)
 have B3:v 22=b2i (decide (v 4 < (-10800000:Int))):=(satF hs 22 rfl)
 have B4:v 23=b2i (decide (v 4 > (10800000:Int))):=(satF hs 23 rfl)
 rw [e0,e1] at B1
 rw [e2,e3] at B2
 rw [e4] at B3 B4
 have C:v 11=0∨(v 11=1∧v 19=0):=by
  by_cases p:PtV a b
  · refine .inr ⟨by rw [B1,decide_eq_true p];rfl,?_⟩
    rw [B2,decide_eq_false (fun q=>h ⟨p,q⟩)];rfl
  · exact .inl (by rw [B1,decide_eq_false p];rfl)
 have Z:v 27=0∧v 232=1∧v 233=0∧v 234=0:=by
  rcases C with u | ⟨u,u2⟩
  · exact ⟨norm_val (X:=cxM [a,b,c,d,n]) (v:=v) (l:=nd_pAtl) (extM_ok _) hs (k:=27) (r:=.c 0) (ps:=[(11,.c 0)]) (nz:=[]) (ps_cons u ps_nil) nz_nil (by kernel_rfl),norm_val (X:=cxM [a,b,c,d,n]) (v:=v) (l:=nd_pAtl) (extM_ok _) hs (k:=232) (r:=.c 1) (ps:=[(11,.c 0)]) (nz:=[]) (ps_cons u ps_nil) nz_nil (by kernel_rfl),norm_val (X:=cxM [a,b,c,d,n]) (v:=v) (l:=nd_pAtl) (extM_ok _) hs (k:=233) (r:=.c 0) (ps:=[(11,.c 0)]) (nz:=[]) (ps_cons u ps_nil) nz_nil (by kernel_rfl),norm_val (X:=cxM [a,b,c,d,n]) (v:=v) (l:=nd_pAtl) (extM_ok _) hs (k:=234) (r:=.c 0) (ps:=[(11,.c 0)]) (nz:=[]) (ps_cons u ps_nil) nz_nil (by kernel_rfl)⟩
  · exact ⟨norm_val (X:=cxM [a,b,c,d,n]) (v:=v) (l:=nd_pAtl) (extM_ok _) hs (k:=27) (r:=.c 0) (ps:=[(11,.c 1),(19,.c 0)]) (nz:=[]) (ps_cons u (ps_cons u2 ps_nil)) nz_nil (by kernel_rfl),norm_val (X:=cxM [a,b,c,d,n]) (v:=v) (l:=nd_pAtl) (extM_ok _) hs (k:=232) (r:=.c 1) (ps:=[(11,.c 1),(19,.c 0)]) (nz:=[]) (ps_cons u (ps_cons u2 ps_nil)) nz_nil (by kernel_rfl),norm_val (X:=cxM [a,b,c,d,n]) (v:=v) (l:=nd_pAtl) (extM_ok _) hs (k:=233) (r:=.c 0) (ps:=[(11,.c 1),(19,.c 0)]) (nz:=[]) (ps_cons u (ps_cons u2 ps_nil)) nz_nil (by kernel_rfl),norm_val (X:=cxM [a,b,c,d,n]) (v:=v) (l:=nd_pAtl) (extM_ok _) hs (k:=234) (r:=.c 0) (ps:=[(11,.c 1),(19,.c 0)]) (nz:=[]) (ps_cons u (ps_cons u2 ps_nil)) nz_nil (by kernel_rfl)⟩
 refine ⟨vcs_rev ?_,?_⟩
 · exact vcs_cons (fun hp=>absurd Z.1 (pt_true hp).1) (vcs_cons (fun hp=>absurd Z.1 (pt_true hp).1) (vcs_cons (fun hp=>absurd Z.1 (pt_true hp).1) (vcs_cons (fun hp=>absurd Z.1 (pt_true hp).1) (vcs_cons (fun hp=>absurd Z.1 (pt_true hp).1) (vcs_cons (fun hp=>absurd Z.1 (pt_true hp).1) (vcs_cons (fun hp=>absurd Z.1 (pt_true hp).1) (vcs_cons (fun hp=>absurd Z.1 (pt_true hp).1) (vcs_cons (fun hp=>absurd Z.1 (pt_true hp).1) (vcs_cons (fun hp=>absurd Z.1 (pt_true hp).1) (vcs_cons (fun hp=>absurd Z.1 (pt_true hp).1) (vcs_cons (fun hp=>absurd Z.1 (pt_true hp).1) (vcs_cons (fun hp=>absurd Z.1 (pt_true hp).1) (vcs_cons (fun hp=>absurd Z.1 (pt_true hp).1) (vcs_cons (fun hp=>absurd Z.1 (pt_true (pt_true (pt_true (pt_true hp).2).2).2).1) (vcs_cons (fun hp=>absurd Z.1 (pt_true (pt_true (pt_true (pt_true hp).2).2).2).1) (vcs_cons (fun hp=>absurd Z.1 (pt_true (pt_true (pt_true hp).2).2).1) (vcs_nil)))))))))))))))))
 · intro x hx0
   have hx':=valV_of (v:=v) (by rfl) hx0
   rw [hx']
   show Value.tuple #[.agg #[.int .i64 (v 233),.int .i64 (v 234)],.int .i64 (v 232)]=_
   obtain ⟨_,z1,z2,z3⟩:=Z
   rw [z1,z2,z3]
set_option maxRecDepth 100000 in
theorem c_pAtlR (a b c d n:Int) (w:World) (h1:PtV a b) (h2:PtV c d) (h:¬ (-10800000≤n∧n≤10800000)):Calls Tryz.prog 40 #[.agg #[.int .i64 a,.int .i64 b],.agg #[.int .i64 c,.int .i64 d],.int .i64 n] w fun e w'=>e=.returned (.tuple #[.agg #[.int .i64 0,.int .i64 0],.int .i64 2])∧Below w.heap.size w w':=by
 refine Sx.calls (X:=cxM [a,b,c,d,n]) hmix (spM_ok _) wh_pAtl wf_pAtl (fun v hs=>?_) w
 have e0:v 0=a:=satF hs 0 rfl
 have e1:v 1=b:=satF hs 1 rfl
 have e2:v 2=c:=satF hs 2 rfl
 have e3:v 3=d:=satF hs 3 rfl
 have e4:v 4=n:=satF hs 4 rfl
 have B1:v 11=b2i (decide (PtV (v 0) (v 1))):=ptB (x1:=v 5) (x2:=v 6) (x3:=v 8) (x4:=v 10) (y5:=0) (y7:=0) (y9:=0) (z6:=v 7) (z8:=v 9) (satF hs 5 rfl) (satF hs 6 rfl) (satF hs 8 rfl) (satF hs 10 rfl) (satF hs 7 rfl) (satF hs 9 rfl) (satF hs 11 rfl)
 have B2:v 19=b2i (decide (PtV (v 2) (v 3))):=ptB (x1:=v 13) (x2:=v 14) (x3:=v 16) (x4:=v 18) (y5:=0) (y7:=0) (y9:=0) (z6:=v 15) (z8:=v 17) (satF hs 13 rfl) (satF hs 14 rfl) (satF hs 16 rfl) (satF hs 18 rfl) (satF hs 15 rfl) (satF hs 17 rfl) (satF hs 19 rfl)
 have B3:v 22=b2i (decide (v 4 < (-10800000:Int))):=(satF hs 22 rfl)
 have B4:v 23=b2i (decide (v 4 > (10800000:Int))):=(satF hs 23 rfl)
 rw [e0,e1] at B1
 rw [e2,e3] at B2
 rw [e4] at B3 B4
 have u1:v 11=1:=by rw [B1,decide_eq_true h1];rfl
 have u2:v 19=1:=by rw [B2,decide_eq_true h2];rfl
 have C:v 22=1∨(v 22=0∧v 23=1):=by
  by_cases p:n < -10800000
  · exact .inl (by rw [B3,decide_eq_true p];rfl)
  · exact .inr ⟨by rw [B3,decide_eq_false p];rfl,by rw [B4,decide_eq_true (by omega)];rfl⟩
 have Z:v 27=0∧v 232=2∧v 233=0∧v 234=0:=by
  rcases C with u | ⟨u,u3⟩
  · exact ⟨norm_val (X:=cxM [a,b,c,d,n]) (v:=v) (l:=nd_pAtl) (extM_ok _) hs (k:=27) (r:=.c 0) (ps:=[(11,.c 1),(19,.c 1),(22,.c 1)]) (nz:=[]) (ps_cons u1 (ps_cons u2 (ps_cons u ps_nil))) nz_nil (by kernel_rfl),norm_val (X:=cxM [a,b,c,d,n]) (v:=v) (l:=nd_pAtl) (extM_ok _) hs (k:=232) (r:=.c 2) (ps:=[(11,.c 1),(19,.c 1),(22,.c 1)]) (nz:=[]) (ps_cons u1 (ps_cons u2 (ps_cons u ps_nil))) nz_nil (by kernel_rfl),norm_val (X:=cxM [a,b,c,d,n]) (v:=v) (l:=nd_pAtl) (extM_ok _) hs (k:=233) (r:=.c 0) (ps:=[(11,.c 1),(19,.c 1),(22,.c 1)]) (nz:=[]) (ps_cons u1 (ps_cons u2 (ps_cons u ps_nil))) nz_nil (by kernel_rfl),norm_val (X:=cxM [a,b,c,d,n]) (v:=v) (l:=nd_pAtl) (extM_ok _) hs (k:=234) (r:=.c 0) (ps:=[(11,.c 1),(19,.c 1),(22,.c 1)]) (nz:=[]) (ps_cons u1 (ps_cons u2 (ps_cons u ps_nil))) nz_nil (by kernel_rfl)⟩
  · exact ⟨norm_val (X:=cxM [a,b,c,d,n]) (v:=v) (l:=nd_pAtl) (extM_ok _) hs (k:=27) (r:=.c 0) (ps:=[(11,.c 1),(19,.c 1),(22,.c 0),(23,.c 1)]) (nz:=[]) (ps_cons u1 (ps_cons u2 (ps_cons u (ps_cons u3 ps_nil)))) nz_nil (by kernel_rfl),norm_val (X:=cxM [a,b,c,d,n]) (v:=v) (l:=nd_pAtl) (extM_ok _) hs (k:=232) (r:=.c 2) (ps:=[(11,.c 1),(19,.c 1),(22,.c 0),(23,.c 1)]) (nz:=[]) (ps_cons u1 (ps_cons u2 (ps_cons u (ps_cons u3 ps_nil)))) nz_nil (by kernel_rfl),norm_val (X:=cxM [a,b,c,d,n]) (v:=v) (l:=nd_pAtl) (extM_ok _) hs (k:=233) (r:=.c 0) (ps:=[(11,.c 1),(19,.c 1),(22,.c 0),(23,.c 1)]) (nz:=[]) (ps_cons u1 (ps_cons u2 (ps_cons u (ps_cons u3 ps_nil)))) nz_nil (by kernel_rfl),norm_val (X:=cxM [a,b,c,d,n]) (v:=v) (l:=nd_pAtl) (extM_ok _) hs (k:=234) (r:=.c 0) (ps:=[(11,.c 1),(19,.c 1),(22,.c 0),(23,.c 1)]) (nz:=[]) (ps_cons u1 (ps_cons u2 (ps_cons u (ps_cons u3 ps_nil)))) nz_nil (by kernel_rfl)⟩
 refine ⟨vcs_rev ?_,?_⟩
 · exact vcs_cons (fun hp=>absurd Z.1 (pt_true hp).1) (vcs_cons (fun hp=>absurd Z.1 (pt_true hp).1) (vcs_cons (fun hp=>absurd Z.1 (pt_true hp).1) (vcs_cons (fun hp=>absurd Z.1 (pt_true hp).1) (vcs_cons (fun hp=>absurd Z.1 (pt_true hp).1) (vcs_cons (fun hp=>absurd Z.1 (pt_true hp).1) (vcs_cons (fun hp=>absurd Z.1 (pt_true hp).1) (vcs_cons (fun hp=>absurd Z.1 (pt_true hp).1) (vcs_cons (fun hp=>absurd Z.1 (pt_true hp).1) (vcs_cons (fun hp=>absurd Z.1 (pt_true hp).1) (vcs_cons (fun hp=>absurd Z.1 (pt_true hp).1) (vcs_cons (fun hp=>absurd Z.1 (pt_true hp).1) (vcs_cons (fun hp=>absurd Z.1 (pt_true hp).1) (vcs_cons (fun hp=>absurd Z.1 (pt_true hp).1) (vcs_cons (fun hp=>absurd Z.1 (pt_true (pt_true (pt_true (pt_true hp).2).2).2).1) (vcs_cons (fun hp=>absurd Z.1 (pt_true (pt_true (pt_true (pt_true hp).2).2).2).1) (vcs_cons (fun hp=>absurd Z.1 (pt_true (pt_true (pt_true hp).2).2).1) (vcs_nil)))))))))))))))))
 · intro x hx0
   have hx':=valV_of (v:=v) (by rfl) hx0
   rw [hx']
   show Value.tuple #[.agg #[.int .i64 (v 233),.int .i64 (v 234)],.int .i64 (v 232)]=_
   obtain ⟨_,z1,z2,z3⟩:=Z
   rw [z1,z2,z3]
def verW (a b c d:Int):List Int:=if PtV a b∧PtV c d then verV a b c d else [0,0,0,0,1]
def atW (a b c d n:Int):List Int:=if PtV a b∧PtV c d then (if -10800000≤n∧n≤10800000 then atV a b c d n else [0,0,2]) else [0,0,1]
def kT (f:Nat):Bool:=f == 78 || f == 79 || f == 80 || f == 81 || f == 82 || f == 83
def semT:Nat→List Int→List Int
 | 78,[a,b,c,d]=>[(verW a b c d).getD 0 0,(verW a b c d).getD 1 0,(verW a b c d).getD 2 0,(verW a b c d).getD 3 0,(verW a b c d).getD 4 0]
 | 79,[a,b,c,d,n]=>[(atW a b c d n).getD 0 0,(atW a b c d n).getD 1 0,(atW a b c d n).getD 2 0]
 | 80,[a,b,c,d,n]=>[(atV a b c d n).getD 0 0,(atV a b c d n).getD 1 0,b2i (decide (¬ atN a b c d))]
 | 81,[a,b,c,d,m,n]=>[(croV a b c d m n).getD 0 0,(croV a b c d m n).getD 1 0,(croV a b c d m n).getD 2 0]
 | 82,[a,b,c,d]=>[(verV a b c d).getD 0 0,(verV a b c d).getD 1 0,(verV a b c d).getD 2 0,(verV a b c d).getD 3 0]
 | 83,[a,b,c,d,m,n]=>[asnL (cN a b c d m n).1,asnH (cN a b c d m n).2]
 | _,_=>[]
def preT:Nat→List Int→Prop
 | 78,[_,_,_,_]=>True
 | 79,[_,_,_,_,_]=>True
 | 80,[a,b,c,d,_]=>PtV a b∧PtV c d
 | 81,[_,_,_,_,_,_]=>True
 | 82,[a,b,c,d]=>(PtV a b∧PtV c d)∧¬ crA a b c d
 | 83,[a,b,c,d,m,n]=>(PtV a b∧PtV c d)∧PtV m n
 | _,_=>False
def cxT (args:List Int):Cx:=(cxV args).plus kT semT preT
theorem likeT (args:List Int):Like (cxT args):=like_plus (likeV args) fun f h=>by
 unfold kT
 rcases h with h | rfl
 · simp;omega
 · rfl
def sVer:Sx.Spec:=⟨39,78,[(true,[some .i64,some .i64]),(true,[some .i64,some .i64])],[(true,[some .i64,some .i64,some .i64,some .i64]),(false,[some .i64])]⟩
def rVer:Sx.Spec:=⟨46,82,[(true,[some .i64,some .i64]),(true,[some .i64,some .i64])],[(true,[some .i64,some .i64,some .i64,some .i64])]⟩
def sAtl:Sx.Spec:=⟨40,79,[(true,[some .i64,some .i64]),(true,[some .i64,some .i64]),(false,[some .i64])],[(true,[some .i64,some .i64]),(false,[some .i64])]⟩
def rAtl:Sx.Spec:=⟨47,80,[(true,[some .i64,some .i64]),(true,[some .i64,some .i64]),(false,[some .i64])],[(true,[some .i64,some .i64]),(false,[none])]⟩
def sCro:Sx.Spec:=⟨41,81,[(true,[some .i64,some .i64]),(true,[some .i64,some .i64]),(true,[some .i64,some .i64])],[(true,[some .i64,some .i64]),(false,[some .i64])]⟩
def rCro:Sx.Spec:=⟨48,83,[(true,[some .i64,some .i64]),(true,[some .i64,some .i64]),(true,[some .i64,some .i64])],[(true,[some .i64,some .i64])]⟩
set_option maxRecDepth 100000 in
theorem sVer_ok (args:List Int):SpecOK Tryz.prog (cxT args) sVer:=by
 refine plus_new rfl (ours _ _ _ Tryz.func39 rfl (by kernel_rfl)) fun xs hp w=>?_
 match xs,hp with
 | [a,b,c,d],hp =>
  by_cases q:PtV a b∧PtV c d
  · have V:verW a b c d=verV a b c d:=if_pos q
    refine (c_pVer a b c d w q.1 q.2).mono ?_
    rintro e w' ⟨he,hb⟩
    refine ⟨?_,hb⟩
    rw [he]
    show _=Ending.returned (Value.tuple #[.agg #[.int .i64 ((verW a b c d).getD 0 0),.int .i64 ((verW a b c d).getD 1 0),.int .i64 ((verW a b c d).getD 2 0),.int .i64 ((verW a b c d).getD 3 0)],.int .i64 ((verW a b c d).getD 4 0)])
    rw [V]
  · have V:verW a b c d=[0,0,0,0,1]:=if_neg q
    refine (c_pVerN a b c d w q).mono ?_
    rintro e w' ⟨he,hb⟩
    refine ⟨?_,hb⟩
    rw [he]
    show _=Ending.returned (Value.tuple #[.agg #[.int .i64 ((verW a b c d).getD 0 0),.int .i64 ((verW a b c d).getD 1 0),.int .i64 ((verW a b c d).getD 2 0),.int .i64 ((verW a b c d).getD 3 0)],.int .i64 ((verW a b c d).getD 4 0)])
    rw [V];rfl
set_option maxRecDepth 100000 in
theorem rVer_ok (args:List Int):SpecOK Tryz.prog (cxT args) rVer:=by
 refine plus_new rfl (ours _ _ _ Tryz.func46 rfl (by kernel_rfl)) fun xs hp w=>?_
 match xs,hp with
 | [a,b,c,d],hp =>
  exact c_rVer a b c d w hp.1.1 hp.1.2 hp.2
set_option maxRecDepth 100000 in
theorem sAtl_ok (args:List Int):SpecOK Tryz.prog (cxT args) sAtl:=by
 refine plus_new rfl (ours _ _ _ Tryz.func40 rfl (by kernel_rfl)) fun xs hp w=>?_
 match xs,hp with
 | [a,b,c,d,n],hp =>
  have SH:∀ (e:Ending) (l:List Int),atW a b c d n=l→e=Ending.returned (Value.tuple #[.agg #[.int .i64 (l.getD 0 0),.int .i64 (l.getD 1 0)],.int .i64 (l.getD 2 0)])→e=Ending.returned (Value.tuple #[.agg #[.int .i64 ((atW a b c d n).getD 0 0),.int .i64 ((atW a b c d n).getD 1 0)],.int .i64 ((atW a b c d n).getD 2 0)]):=by
   rintro e l rfl h
   exact h
  by_cases q:PtV a b∧PtV c d
  · by_cases q2:-10800000≤n∧n≤10800000
    · refine (c_pAtl a b c d n w q.1 q.2 q2).mono ?_
      rintro e w' ⟨he,hb⟩
      exact ⟨SH e _ ((if_pos q).trans (if_pos q2)) he,hb⟩
    · refine (c_pAtlR a b c d n w q.1 q.2 q2).mono ?_
      rintro e w' ⟨he,hb⟩
      exact ⟨SH e _ ((if_pos q).trans (if_neg q2)) he,hb⟩
  · refine (c_pAtlN a b c d n w q).mono ?_
    rintro e w' ⟨he,hb⟩
    exact ⟨SH e _ (if_neg q) he,hb⟩
set_option maxRecDepth 100000 in
theorem rAtl_ok (args:List Int):SpecOK Tryz.prog (cxT args) rAtl:=by
 refine plus_new rfl (ours _ _ _ Tryz.func47 rfl (by kernel_rfl)) fun xs hp w=>?_
 match xs,hp with
 | [a,b,c,d,n],hp =>
  exact c_rAtl a b c d n w hp.1 hp.2
set_option maxRecDepth 100000 in
theorem sCro_ok (args:List Int):SpecOK Tryz.prog (cxT args) sCro:=by
 refine plus_new rfl (ours _ _ _ Tryz.func41 rfl (by kernel_rfl)) fun xs hp w=>?_
 match xs,hp with
 | [a,b,c,d,m,n],hp =>
  exact c_pCro a b c d m n w
set_option maxRecDepth 100000 in
theorem rCro_ok (args:List Int):SpecOK Tryz.prog (cxT args) rCro:=by
 refine plus_new rfl (ours _ _ _ Tryz.func48 rfl (by kernel_rfl)) fun xs hp w=>?_
 match xs,hp with
 | [a,b,c,d,m,n],hp =>
  exact c_rCro a b c d m n w hp.1.1 hp.1.2 hp.2
def extT (t:Tab):Nd→Option Rf
 | .app 20 0 []=>some (.c 1)
 | x=>extB t x
theorem extT_ok (args:List Int):ExtOK (cxT args) extT:=by
 intro v t x r ht h
 unfold extT at h
 split at h
 · cases h;rfl
 · exact extX_ok (likeT args) v t x r ht h
def preTb:Nat→List Int→Bool
 | 75,[_,_,_,_]=>true
 | 78,[_,_,_,_]=>true
 | _,_=>false
theorem preTb_ok (args:List Int) (f:Nat) (xs:List Int) (h:preTb f xs=true):(cxT args).pre f xs:=by
 unfold preTb at h
 split at h
 · trivial
 · trivial
 · cases h
theorem sInvT_ok (args:List Int):SpecOK Tryz.prog (cxT args) sInv:=plus_old rfl (spV_ok args sInv (List.mem_append_right _ (by simp)))
theorem rCourT_ok (args:List Int):SpecOK Tryz.prog (cxT args) rCour:=plus_old rfl (spV_ok args rCour (List.mem_append_right _ (by simp)))
def spAw:List Sx.Spec:=[sInv,sVer]
theorem spAw_ok (args:List Int):∀ s ∈ spAw,SpecOK Tryz.prog (cxT args) s:=by
 intro s hs
 simp only [spAw,List.mem_cons,List.not_mem_nil,or_false] at hs
 rcases hs with rfl | rfl
 · exact sInvT_ok args
 · exact sVer_ok args
def nd_aw42:List Nd:=[
 .app 75 0 [.c 0,.c 0,.c 0,.c 3600000],
 .app 75 1 [.c 0,.c 0,.c 0,.c 3600000],
 .app 75 2 [.c 0,.c 0,.c 0,.c 3600000],
 .app 75 3 [.c 0,.c 0,.c 0,.c 3600000],
 .app 75 4 [.c 0,.c 0,.c 0,.c 3600000],
 .app 75 0 [.c 0,.c 0,.c 1800000,.c 5400000],
 .app 75 1 [.c 0,.c 0,.c 1800000,.c 5400000],
 .app 75 2 [.c 0,.c 0,.c 1800000,.c 5400000],
 .app 75 3 [.c 0,.c 0,.c 1800000,.c 5400000],
 .app 75 4 [.c 0,.c 0,.c 1800000,.c 5400000],
 .app 78 0 [.c 0,.c 0,.c 1800000,.c 5400000],
 .app 78 1 [.c 0,.c 0,.c 1800000,.c 5400000],
 .app 78 2 [.c 0,.c 0,.c 1800000,.c 5400000],
 .app 78 3 [.c 0,.c 0,.c 1800000,.c 5400000],
 .app 78 4 [.c 0,.c 0,.c 1800000,.c 5400000],
 .bin .eql .i64 (.n 4) (.c 0),
 .bin .eql .i64 (.n 0) (.c 5400000),
 .bin .eql .i64 (.n 1) (.c 5400000),
 .bin .eql .i64 (.n 2) (.c 3600000),
 .bin .eql .i64 (.n 3) (.c 3600000),
 .ite (.n 18) (.n 19) (.c 0),
 .ite (.n 17) (.n 20) (.c 0),
 .ite (.n 16) (.n 21) (.c 0),
 .ite (.n 15) (.n 22) (.c 0),
 .bin .eql .i64 (.n 9) (.c 0),
 .ite (.n 23) (.n 24) (.c 0),
 .bin .leq .i64 (.n 7) (.c 5400000),
 .ite (.n 25) (.n 26) (.c 0),
 .bin .geq .i64 (.n 8) (.c 5400000),
 .ite (.n 27) (.n 28) (.c 0),
 .bin .sub .i64 (.n 8) (.n 7),
 .bin .leq .i64 (.n 30) (.c 4),
 .ite (.n 29) (.n 31) (.c 0),
 .bin .eql .i64 (.n 14) (.c 0),
 .ite (.n 32) (.n 33) (.c 0),
 .bin .lss .i64 (.c 1800000) (.n 10),
 .bin .gtr .i64 (.c 1800000) (.n 11),
 .ite (.n 35) (.c 1) (.n 36),
 .ite (.n 37) (.c 0) (.c 1),
 .bin .sub .i64 (.c 5400000) (.n 12),
 .bin .rem .i64 (.n 39) (.c 21600000),
 .bin .lss .i64 (.n 40) (.c 0),
 .bin .add .i64 (.n 40) (.c 21600000),
 .ite (.n 41) (.c 0) (.c 1),
 .ite (.n 41) (.n 42) (.n 40),
 .bin .sub .i64 (.n 13) (.n 12),
 .bin .leq .i64 (.n 44) (.n 45),
 .ite (.n 37) (.c 0) (.n 46),
 .ite (.n 34) (.n 47) (.c 0)]
def vc_aw42:List Vc:=[
 ⟨[],.pre 75 [.c 0,.c 0,.c 0,.c 3600000]⟩,
 ⟨[],.pre 75 [.c 0,.c 0,.c 1800000,.c 5400000]⟩,
 ⟨[],.pre 78 [.c 0,.c 0,.c 1800000,.c 5400000]⟩]
theorem wh_aw42:whole Tryz.prog spAw 20 40 38 []=some (.p (.c (.bool (.n 48))),⟨nd_aw42.reverse,vc_aw42.reverse⟩):=by kernel_rfl
theorem wf_aw42:wfN nd_aw42.reverse=true:=by kernel_rfl
set_option maxRecDepth 100000 in
theorem c_awake42 (w:World):Calls Tryz.prog 38 #[] w fun e w'=>e=.returned (.bool true)∧Below w.heap.size w w':=by
 refine Sx.calls (X:=cxT []) hmix (spAw_ok _) wh_aw42 wf_aw42 (fun v hs=>?_) w
 have h:=evOK_ok (X:=cxT []) (v:=v) (nd:=nd_aw42) hs (pre:=preTb) (preTb_ok []) (vs:=vc_aw42.reverse) (k:=48) (z:=1) (by kernel_rfl)
 refine ⟨h.2,fun x hx=>?_⟩
 have hx':x=.bool (decide (v 48≠0)):=hx
 rw [hx',h.1];rfl
def sAwake42:Sx.Spec:=⟨38,20,[],[(false,[none])]⟩
theorem sAwake42_ok (args:List Int):SpecOK Tryz.prog (cxT args) sAwake42:=by
 refine plus_old rfl (plus_old rfl (plus_old rfl (plus_old rfl ⟨ours _ _ _ Tryz.func38 rfl (by kernel_rfl),fun xs hp w=>?_⟩)))
 have hp':preB 20 xs:=hp
 rw [pre0 hp']
 exact c_awake42 w
def spGT:List Sx.Spec:=[rCour,sVer,rVer,sAtl,rAtl,sCro,rCro,sAwake42]
theorem spGT_ok (args:List Int):∀ s ∈ spGT,SpecOK Tryz.prog (cxT args) s:=by
 intro s hs
 simp only [spGT,List.mem_cons,List.not_mem_nil,or_false] at hs
 rcases hs with rfl | rfl | rfl | rfl | rfl | rfl | rfl | rfl
 · exact rCourT_ok args
 · exact sVer_ok args
 · exact rVer_ok args
 · exact sAtl_ok args
 · exact rAtl_ok args
 · exact sCro_ok args
 · exact rCro_ok args
 · exact sAwake42_ok args
end Go.Proofs.YtfffpodaabdpfaaGreat
