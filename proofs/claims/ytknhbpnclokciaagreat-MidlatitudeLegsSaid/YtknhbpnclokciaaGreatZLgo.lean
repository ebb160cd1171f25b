/- The contracts of LegOf of both sides: the leg of a difference of latitude and a departure. -/
import Derived.Test.YtknhbpnclokciaaGreatZRMake
set_option linter.unusedVariables false
set_option linter.unusedSimpArgs false
set_option maxRecDepth 100000
namespace Go.Proofs.YtknhbpnclokciaaGreat
open Go.RowKit Alm Sx
theorem Dm (a b:Int):(if b>a then b else a)=max a b:=by split<;>omega
theorem ut {c x y:Int} {z:Int} (ec:c=b2i (decide (x<y))) (ez:z=if c≠0 then y else x):z=max x y:=by
 by_cases q:x<y
 . rw [decide_eq_true q] at ec;rw [ez,ec,if_pos (by decide)];omega
 . rw [decide_eq_false q] at ec;rw [ez,ec,if_neg (by decide)];omega
theorem mY {c x y z:Int} (hx:-1099511627776<=x/\x<=1099511627776) (ec:c=b2i (decide (x<0))) (ey:y=IntKind.i64.wrap (0-x)) (ez:z=if c≠0 then y else x):z=max x (-x):=by
 rw [Go.IntWalk.i64_in _ (by omega)] at ey
 by_cases q:x<0
 . rw [decide_eq_true q] at ec;rw [ez,ec,if_pos (by decide)];omega
 . rw [decide_eq_false q] at ec;rw [ez,ec,if_neg (by decide)];omega
def lvM (a b c d:Int):Int:=max (max (max b (-a)) d) (-c)
def lvX (a m:Int):Int:=qFl a 1073741824 m
def lvY (b m:Int):Int:=qCe b 1073741824 m
def lvR (xl xh yl yh:Int) (i:Nat):Int:=(bA 4 [(bA 1 [(bA 3 [xl,xh]).getD 0 0,(bA 3 [xl,xh]).getD 1 0,(bA 3 [yl,yh]).getD 0 0,(bA 3 [yl,yh]).getD 1 0]).getD 0 0,(bA 1 [(bA 3 [xl,xh]).getD 0 0,(bA 3 [xl,xh]).getD 1 0,(bA 3 [yl,yh]).getD 0 0,(bA 3 [yl,yh]).getD 1 0]).getD 1 0]).getD i 0
def lvP (xl xh yl yh m:Int):List Int:=if d9 (lvR xl xh yl yh 0) (lvR xl xh yl yh 1) m>1099511627776 then [0,0,0,0,5] else [dP yl yh xl xh,eD yl yh xl xh,eG (lvR xl xh yl yh 0) (lvR xl xh yl yh 1) m,d9 (lvR xl xh yl yh 0) (lvR xl xh yl yh 1) m,0]
def fV (a b c d:Int):List Int:=if lvM a b c d=0 then [0,21600000,0,0,0] else lvP (lvX a (lvM a b c d)) (lvY b (lvM a b c d)) (lvX c (lvM a b c d)) (lvY d (lvM a b c d)) (lvM a b c d)
def iF (a b c d:Int):List Int:=if aH a b=true/\aH c d=true then fV a b c d else [0,0,0,0,1]
theorem Xa {a b c d:Int} (h1:aH a b=true) (h2:aH c d=true):0<=lvM a b c d/\lvM a b c d<=1099511627776/\(-lvM a b c d<=a/\a<=b/\b<=lvM a b c d)/\(-lvM a b c d<=c/\c<=d/\d<=lvM a b c d):=by
 have:=(eF _ _).1 h1;have:=(eF _ _).1 h2;unfold lvM;omega
theorem E9 {a b m:Int} (hm:0<m) (h:-m<=a/\a<=b/\b<=m):fxV (lvX a m) (lvY b m)=true:=by
 rw [dQ];unfold lvX lvY qFl qCe;have h1:-1073741824<=a*1073741824/m:=(Int.le_ediv_iff_mul_le hm).2 (by omega)
 have h2:-1073741824<=-(b*1073741824)/m:=(Int.le_ediv_iff_mul_le hm).2 (by omega)
 have k1:a*1073741824/m*m<=a*1073741824:=Int.ediv_mul_le _ (by omega)
 have k2:-(b*1073741824)/m*m<=-(b*1073741824):=Int.ediv_mul_le _ (by omega)
 refine ⟨by omega,?_,by omega⟩
 refine Int.not_lt.1 fun hh=>?_
 have m1:=Int.mul_le_mul_of_nonneg_right (show -(-(b*1073741824)/m)+1<=a*1073741824/m by omega) (show 0<=m by omega)
 rw [Int.add_mul,Int.neg_mul] at m1;omega
theorem Gg (p q:Int):fxV ((bA 3 [p,q]).getD 0 0) ((bA 3 [p,q]).getD 1 0)=true/\0<=(bA 3 [p,q]).getD 1 0:=by
 refine ⟨(Gy _ _).2.2,?_⟩;show 0<=lu (sqL p q) (sqH p q);unfold lu;split
 . unfold sqH;have h1:0<=p*p:=by rcases Int.le_total 0 p with h|h;exact Int.mul_nonneg h h;exact Int.mul_nonneg_of_nonpos_of_nonpos h h
   generalize p*p=P at *
   generalize q*q=R at *
   omega
 . omega
theorem RY {p q r s:Int} (hq:0<=q) (hs:0<=s):fxV ((bA 1 [p,q,r,s]).getD 0 0) ((bA 1 [p,q,r,s]).getD 1 0)=true/\0<=(bA 1 [p,q,r,s]).getD 1 0:=by
 refine ⟨(Gy _ _).2.2,?_⟩;show 0<=lu (p+r) (q+s);unfold lu;split<;>omega
theorem Qn {n k:Int} (h0:0<=n) (h:n<=k) (h1:k<=2305843009213693952):0<=rtV n/\rtV n<=rtV k/\rtV k<=1518500249:=by
 obtain ⟨a0,a1,a2⟩:=mQ n h0 (by omega)
 obtain ⟨b0,b1,b2⟩:=mQ k (by omega) h1
 refine ⟨a0,Int.not_lt.1 fun hh=>?_,Int.not_lt.1 fun hh=>?_⟩
 . have:=Int.mul_le_mul (show rtV k+1<=rtV n by omega) (show rtV k+1<=rtV n by omega) (by omega) a0
   omega
 . have:=Int.mul_le_mul (show (1518500250:Int)<=rtV k by omega) (show (1518500250:Int)<=rtV k by omega) (by omega) b0
   omega
theorem Ro {p q:Int} (h:fxV p q=true) (hq:0<=q):(bA 4 [p,q]).getD 2 0=0/\fxV ((bA 4 [p,q]).getD 0 0) ((bA 4 [p,q]).getD 1 0)=true/\0<=(bA 4 [p,q]).getD 0 0:=by
 have hv:=(dQ _ _).1 h;obtain ⟨a0,a1,a2⟩:=Qn (n:=max 0 p*1073741824) (k:=q*1073741824) (by omega) (by omega) (by omega)
 have L:rtL p q=rtV (max 0 p*1073741824):=rfl;have H:rtV (q*1073741824)<=rtH p q/\rtH p q<=rtV (q*1073741824)+1:=by unfold rtH;split<;>omega
 have F:-2147483648<=rtL p q/\rtL p q<=rtH p q/\rtH p q<=2147483648:=by omega
 refine ⟨?_,(Gy _ _).2.2,?_⟩
 . show mK (rtL p q) (rtH p q)=0;unfold mK;exact if_pos F
 . show 0<=nO (rtL p q) (rtH p q);unfold nO;split<;>omega
theorem VW {r s m:Int} (h:0<=r/\r<=s) (hm:0<m):0<=eG r s m/\eG r s m<=d9 r s m:=by
 unfold eG d9 qFl qCe;have h1:=Int.mul_nonneg h.1 (Int.le_of_lt hm);have h2:=Int.mul_le_mul_of_nonneg_right h.2 (Int.le_of_lt hm);generalize r*m=P at *
 generalize s*m=R at *
 omega
theorem bQ {X:Cx} {v:Nat->Int} {ext:Ext} (he:qO X ext) {l:List Nd} (hs:fH X v l.reverse) {ps:List (Nat × Rf)} (hp:∀ q∈ps,v q.1=q.2.val v) {k j:Nat} (h:Rf.eq ((norm ext ps [] l).rep (.n k)) ((norm ext ps [] l).rep (.n j))=true):v k=v j:=by
 have a:=uw (xX he hs hp bB) (.n k);have b:=uw (xX he hs hp bB) (.n j);rw [Rf.eq_eq h] at a;exact a.symm.trans b
theorem wZ {a b x27 x28 x29 x30 x31 x32 x33 x34 x35:Int} (e27:x27=b2i (decide (a<=b))) (e28:x28=b2i (decide (a>=(-1099511627776:Int)))) (e29:x29=b2i (decide (a<=(1099511627776:Int)))) (e30:x30=if x28≠0 then x29 else (0:Int)) (e31:x31=if x27≠0 then x30 else (0:Int)) (e32:x32=b2i (decide (b>=(-1099511627776:Int)))) (e33:x33=b2i (decide (b<=(1099511627776:Int)))) (e34:x34=if x32≠0 then x33 else (0:Int)) (e35:x35=if x31≠0 then x34 else (0:Int)):x35=b2i (aH a b):=by
 rw [e35,e31,e27,e30,e28,e29,e34,e32,e33,Lm]
def spL:List Sx.Spec:=(lL++l6++kE++oN++[KT,MO])++R8
theorem LX (args:List Int):∀ s∈spL,aQ Tryz.prog (cxK args) s:=by
 intro s hs;rcases List.mem_append.1 hs with h|h
 . have m:s∈Ak:=by
    unfold Ak;rcases List.mem_append.1 h with h|h
    . exact List.mem_append.2 (.inl h)
    . refine List.mem_append.2 (.inr ?_);simp only [List.mem_cons,List.not_mem_nil,or_false] at h;rcases h with rfl|rfl<;>simp [spE]
   have id:kK s.id=false:=by
    simp only [lL,l6,kE,oN,List.mem_append,List.mem_cons,List.not_mem_nil,or_false] at h;rcases h with (((h|h)|h)|h)|h
    . rcases h with rfl|rfl|rfl|rfl|rfl|rfl|rfl|rfl|rfl<;>rfl
    . rcases h with rfl|rfl|rfl|rfl<;>rfl
    . rcases h with rfl|rfl<;>rfl
    . rcases h with rfl|rfl|rfl<;>rfl
    . rcases h with rfl|rfl<;>rfl
   exact uX id (Bq args s m)
 . exact QP args s h
theorem aF (args:List Int):qO (cxK args) Wh:=by
 intro v t x r ht h;unfold Wh at h;split at h
 . cases h;rfl
 . exact FU (X4 args) v t x r ht h
def bJ:List Nd:=[
 .arg 0,
 .arg 1,
 .arg 2,
 .arg 3,
 .bin .leq .i64 (.n 0) (.n 1),
 .bin .geq .i64 (.n 0) (.c (-1099511627776)),
 .bin .leq .i64 (.n 0) (.c 1099511627776),
 .ite (.n 5) (.n 6) (.c 0),
 .ite (.n 4) (.n 7) (.c 0),
 .bin .geq .i64 (.n 1) (.c (-1099511627776)),
 .bin .leq .i64 (.n 1) (.c 1099511627776),
 .ite (.n 9) (.n 10) (.c 0),
 .ite (.n 8) (.n 11) (.c 0),
 .ite (.n 12) (.c 0) (.c 1),
 .bin .leq .i64 (.n 2) (.n 3),
 .bin .geq .i64 (.n 2) (.c (-1099511627776)),
 .bin .leq .i64 (.n 2) (.c 1099511627776),
 .ite (.n 15) (.n 16) (.c 0),
 .ite (.n 14) (.n 17) (.c 0),
 .bin .geq .i64 (.n 3) (.c (-1099511627776)),
 .bin .leq .i64 (.n 3) (.c 1099511627776),
 .ite (.n 19) (.n 20) (.c 0),
 .ite (.n 18) (.n 21) (.c 0),
 .ite (.n 22) (.c 0) (.c 1),
 .ite (.n 13) (.c 1) (.n 23),
 .ite (.n 24) (.c 0) (.c 1),
 .bin .sub .i64 (.c 0) (.n 0),
 .bin .sub .i64 (.c 0) (.n 2),
 .mx (.n 1) (.n 26),
 .mx (.n 28) (.n 3),
 .mx (.n 29) (.n 27),
 .bin .eql .i64 (.n 30) (.c 0),
 .ite (.n 31) (.c 0) (.c 1),
 .app 96 0 [.n 0,.n 30],
 .app 96 1 [.n 0,.n 30],
 .app 96 2 [.n 0,.n 30],
 .app 96 0 [.n 1,.n 30],
 .app 96 1 [.n 1,.n 30],
 .app 96 2 [.n 1,.n 30],
 .app 96 0 [.n 2,.n 30],
 .app 96 1 [.n 2,.n 30],
 .app 96 2 [.n 2,.n 30],
 .app 96 0 [.n 3,.n 30],
 .app 96 1 [.n 3,.n 30],
 .app 96 2 [.n 3,.n 30],
 .app 7 0 [.n 39,.n 43,.n 33,.n 37],
 .app 7 1 [.n 39,.n 43,.n 33,.n 37],
 .app 7 2 [.n 39,.n 43,.n 33,.n 37],
 .bin .neq .i64 (.n 47) (.c 0),
 .ite (.n 48) (.c 0) (.c 1),
 .app 3 0 [.n 33,.n 37],
 .app 3 1 [.n 33,.n 37],
 .app 3 2 [.n 33,.n 37],
 .app 3 0 [.n 39,.n 43],
 .app 3 1 [.n 39,.n 43],
 .app 3 2 [.n 39,.n 43],
 .app 1 0 [.n 50,.n 51,.n 53,.n 54],
 .app 1 1 [.n 50,.n 51,.n 53,.n 54],
 .app 1 2 [.n 50,.n 51,.n 53,.n 54],
 .app 4 0 [.n 56,.n 57],
 .app 4 1 [.n 56,.n 57],
 .app 4 2 [.n 56,.n 57],
 .bin .neq .i64 (.n 61) (.c 0),
 .ite (.n 62) (.c 0) (.c 1),
 .app 9 0 [.n 59,.n 60,.n 30],
 .app 9 1 [.n 59,.n 60,.n 30],
 .app 9 2 [.n 59,.n 60,.n 30],
 .bin .neq .i64 (.n 66) (.c 0),
 .bin .gtr .i64 (.n 65) (.c 1099511627776),
 .ite (.n 67) (.c 1) (.n 68),
 .ite (.n 69) (.c 0) (.c 1),
 .ite (.n 69) (.c 5) (.c 0),
 .ite (.n 69) (.c 0) (.n 45),
 .ite (.n 69) (.c 0) (.n 46),
 .ite (.n 69) (.c 0) (.n 64),
 .ite (.n 69) (.c 0) (.n 65),
 .ite (.n 62) (.n 61) (.n 71),
 .ite (.n 62) (.n 61) (.n 66),
 .ite (.n 62) (.c 0) (.n 72),
 .ite (.n 62) (.c 0) (.n 73),
 .ite (.n 62) (.c 0) (.n 74),
 .ite (.n 62) (.c 0) (.n 75),
 .ite (.n 48) (.n 47) (.n 76),
 .ite (.n 48) (.n 47) (.n 77),
 .ite (.n 48) (.c 0) (.n 78),
 .ite (.n 48) (.c 0) (.n 79),
 .ite (.n 48) (.c 0) (.n 80),
 .ite (.n 48) (.c 0) (.n 81),
 .ite (.n 31) (.c 0) (.n 82),
 .ite (.n 31) (.c 0) (.n 84),
 .ite (.n 31) (.c 21600000) (.n 85),
 .ite (.n 31) (.c 0) (.n 86),
 .ite (.n 31) (.c 0) (.n 87),
 .ite (.n 24) (.c 1) (.n 88),
 .ite (.n 24) (.c 0) (.n 89),
 .ite (.n 24) (.c 0) (.n 90),
 .ite (.n 24) (.c 0) (.n 91),
 .ite (.n 24) (.c 0) (.n 92)]
def Gh:List Vc:=[
 ⟨[(.n 32,true),(.n 25,true)],.pre 96 [.n 0,.n 30]⟩,
 ⟨[(.n 32,true),(.n 25,true)],.pre 96 [.n 1,.n 30]⟩,
 ⟨[(.n 32,true),(.n 25,true)],.pre 96 [.n 2,.n 30]⟩,
 ⟨[(.n 32,true),(.n 25,true)],.pre 96 [.n 3,.n 30]⟩,
 ⟨[(.n 32,true),(.n 25,true)],.pre 7 [.n 39,.n 43,.n 33,.n 37]⟩,
 ⟨[(.n 49,true),(.n 32,true),(.n 25,true)],.pre 3 [.n 33,.n 37]⟩,
 ⟨[(.n 49,true),(.n 32,true),(.n 25,true)],.pre 3 [.n 39,.n 43]⟩,
 ⟨[(.n 49,true),(.n 32,true),(.n 25,true)],.pre 1 [.n 50,.n 51,.n 53,.n 54]⟩,
 ⟨[(.n 49,true),(.n 32,true),(.n 25,true)],.pre 4 [.n 56,.n 57]⟩,
 ⟨[(.n 63,true),(.n 49,true),(.n 32,true),(.n 25,true)],.pre 9 [.n 59,.n 60,.n 30]⟩]
theorem Ow:whole Tryz.prog spL 20 40 30 [(true,[some .i64,some .i64]),(true,[some .i64,some .i64])]=some (.tup [.agg [.int .i64 (.n 94),.int .i64 (.n 95),.int .i64 (.n 96),.int .i64 (.n 97)],.c (.int .i64 (.n 93))],⟨bJ.reverse,Gh.reverse⟩):=by kernel_rfl
theorem P5:wfN bJ.reverse=true:=by kernel_rfl
theorem Lp (a b c d:Int) (w:World):Calls Tryz.prog 30 #[.agg #[.int .i64 a,.int .i64 b],.agg #[.int .i64 c,.int .i64 d]] w fun e w'=>e=.returned (.tuple #[.agg #[.int .i64 ((iF a b c d).getD 0 0),.int .i64 ((iF a b c d).getD 1 0),.int .i64 ((iF a b c d).getD 2 0),.int .i64 ((iF a b c d).getD 3 0)],.int .i64 ((iF a b c d).getD 4 0)])/\Below w.heap.size w w':=by
 refine Sx.calls (X:=cxK [a,b,c,d]) il (LX _) Ow P5 (fun v hs=>?_) w
 have e0:v 0=a:=ae hs 0 rfl;have e1:v 1=b:=ae hs 1 rfl;have e2:v 2=c:=ae hs 2 rfl;have e3:v 3=d:=ae hs 3 rfl;have V1:v 12=b2i (aH (v 0) (v 1)):=wZ (x27:=v 4) (x28:=v 5) (x29:=v 6) (x30:=v 7) (x31:=v 8) (x32:=v 9) (x33:=v 10) (x34:=v 11) (x35:=v 12) (ae hs 4 rfl) (ae hs 5 rfl) (ae hs 6 rfl) (ae hs 7 rfl) (ae hs 8 rfl) (ae hs 9 rfl) (ae hs 10 rfl) (ae hs 11 rfl) (ae hs 12 rfl);have V2:v 22=b2i (aH (v 2) (v 3)):=wZ (x27:=v 14) (x28:=v 15) (x29:=v 16) (x30:=v 17) (x31:=v 18) (x32:=v 19) (x33:=v 20) (x34:=v 21) (x35:=v 22) (ae hs 14 rfl) (ae hs 15 rfl) (ae hs 16 rfl) (ae hs 17 rfl) (ae hs 18 rfl) (ae hs 19 rfl) (ae hs 20 rfl) (ae hs 21 rfl) (ae hs 22 rfl);rw [e0,e1] at V1;rw [e2,e3] at V2
 suffices Z:(∀ q∈Gh.reverse,q.holds (cxK [a,b,c,d]) v)/\v 93=(iF a b c d).getD 4 0/\v 94=(iF a b c d).getD 0 0/\v 95=(iF a b c d).getD 1 0/\v 96=(iF a b c d).getD 2 0/\v 97=(iF a b c d).getD 3 0 by
  refine ⟨Z.1,?_⟩;intro x hx0;have hx':=gG (v:=v) (by rfl) hx0
  rw [hx'];show Value.tuple #[.agg #[.int .i64 (v 94),.int .i64 (v 95),.int .i64 (v 96),.int .i64 (v 97)],.int .i64 (v 93)]=_;rw [Z.2.1,Z.2.2.1,Z.2.2.2.1,Z.2.2.2.2.1,Z.2.2.2.2.2]
 by_cases hv:aH a b=true/\aH c d=true
 . rw [show iF a b c d=fV a b c d from if_pos hv]
   obtain ⟨h1,h2⟩:=hv;obtain ⟨m0,m1,ma,mc⟩:=Xa h1 h2;rw [h1] at V1;rw [h2] at V2;have k12:v 12=1:=V1;have k22:v 22=1:=V2;have w26:v 26=-a:=by rw [show v 26=IntKind.i64.wrap ((0:Int)-v 0) from ae hs 26 rfl,e0,Go.IntWalk.i64_in _ (by omega)];omega
   have w27:v 27=-c:=by rw [show v 27=IntKind.i64.wrap ((0:Int)-v 2) from ae hs 27 rfl,e2,Go.IntWalk.i64_in _ (by omega)];omega
   have w30:v 30=lvM a b c d:=by
    rw [show v 30=if v 27>v 29 then v 27 else v 29 from ae hs 30 rfl,show v 29=if v 3>v 28 then v 3 else v 28 from ae hs 29 rfl,show v 28=if v 26>v 1 then v 26 else v 1 from ae hs 28 rfl,Dm,Dm,Dm,e1,e3,w26,w27];rfl
   have w31:v 31=b2i (v 30==(0:Int)):=ae hs 31 rfl
   by_cases hm:lvM a b c d=0
   . have k31:v 31=1:=by rw [w31,w30,hm];rfl
     have k32:v 32=0:=by rw [show v 32=if v 31≠0 then (0:Int) else (1:Int) from ae hs 32 rfl,if_pos (by omega)]
     rw [show fV a b c d=[0,21600000,0,0,0] from if_pos hm]
     have z93:v 93=0:=aL (X:=cxK [a,b,c,d]) (v:=v) (l:=bJ) (aF _) hs (k:=93) (r:=.c 0) (ps:=[(12,.c 1),(22,.c 1),(31,.c 1)]) (nz:=[]) (ah k12 (ah k22 (ah k31 aK))) bB (by kernel_rfl)
     have z94:v 94=0:=aL (X:=cxK [a,b,c,d]) (v:=v) (l:=bJ) (aF _) hs (k:=94) (r:=.c 0) (ps:=[(12,.c 1),(22,.c 1),(31,.c 1)]) (nz:=[]) (ah k12 (ah k22 (ah k31 aK))) bB (by kernel_rfl)
     have z95:v 95=21600000:=aL (X:=cxK [a,b,c,d]) (v:=v) (l:=bJ) (aF _) hs (k:=95) (r:=.c 21600000) (ps:=[(12,.c 1),(22,.c 1),(31,.c 1)]) (nz:=[]) (ah k12 (ah k22 (ah k31 aK))) bB (by kernel_rfl)
     have z96:v 96=0:=aL (X:=cxK [a,b,c,d]) (v:=v) (l:=bJ) (aF _) hs (k:=96) (r:=.c 0) (ps:=[(12,.c 1),(22,.c 1),(31,.c 1)]) (nz:=[]) (ah k12 (ah k22 (ah k31 aK))) bB (by kernel_rfl)
     have z97:v 97=0:=aL (X:=cxK [a,b,c,d]) (v:=v) (l:=bJ) (aF _) hs (k:=97) (r:=.c 0) (ps:=[(12,.c 1),(22,.c 1),(31,.c 1)]) (nz:=[]) (ah k12 (ah k22 (ah k31 aK))) bB (by kernel_rfl)
     exact ⟨dV (aj (fun hp=>absurd k32 (ax hp).1) (aj (fun hp=>absurd k32 (ax hp).1) (aj (fun hp=>absurd k32 (ax hp).1) (aj (fun hp=>absurd k32 (ax hp).1) (aj (fun hp=>absurd k32 (ax hp).1) (aj (fun hp=>absurd k32 (ax (ax hp).2).1) (aj (fun hp=>absurd k32 (ax (ax hp).2).1) (aj (fun hp=>absurd k32 (ax (ax hp).2).1) (aj (fun hp=>absurd k32 (ax (ax hp).2).1) (aj (fun hp=>absurd k32 (ax (ax (ax hp).2).2).1) (dO))))))))))),z93,z94,z95,z96,z97⟩
   . have M:0<lvM a b c d:=by omega
     have L:fV a b c d=lvP (lvX a (lvM a b c d)) (lvY b (lvM a b c d)) (lvX c (lvM a b c d)) (lvY d (lvM a b c d)) (lvM a b c d):=if_neg hm;rw [L];have k31:v 31=0:=by rw [w31,w30,show (lvM a b c d==(0:Int))=false from by simp;omega];rfl
     have X1:=E9 M ma;have X2:=E9 M mc;have w33:v 33=lvX a (lvM a b c d):=by rw [show v 33=(yV 96 [v 0,v 30]).getD 0 0 from ae hs 33 rfl,e0,w30];rfl
     have w37:v 37=lvY b (lvM a b c d):=by rw [show v 37=(yV 96 [v 1,v 30]).getD 1 0 from ae hs 37 rfl,e1,w30];rfl
     have w39:v 39=lvX c (lvM a b c d):=by rw [show v 39=(yV 96 [v 2,v 30]).getD 0 0 from ae hs 39 rfl,e2,w30];rfl
     have w43:v 43=lvY d (lvM a b c d):=by rw [show v 43=(yV 96 [v 3,v 30]).getD 1 0 from ae hs 43 rfl,e3,w30];rfl
     generalize lvM a b c d=m at *
     generalize lvX a m=xl at *
     generalize lvY b m=xh at *
     generalize lvX c m=yl at *
     generalize lvY d m=yh at *
     have w50:v 50=(bA 3 [xl,xh]).getD 0 0:=by rw [show v 50=(bA 3 [v 33,v 37]).getD 0 0 from ae hs 50 rfl,w33,w37]
     have w51:v 51=(bA 3 [xl,xh]).getD 1 0:=by rw [show v 51=(bA 3 [v 33,v 37]).getD 1 0 from ae hs 51 rfl,w33,w37]
     have w53:v 53=(bA 3 [yl,yh]).getD 0 0:=by rw [show v 53=(bA 3 [v 39,v 43]).getD 0 0 from ae hs 53 rfl,w39,w43]
     have w54:v 54=(bA 3 [yl,yh]).getD 1 0:=by rw [show v 54=(bA 3 [v 39,v 43]).getD 1 0 from ae hs 54 rfl,w39,w43]
     have f56:v 56=(bA 1 [v 50,v 51,v 53,v 54]).getD 0 0:=ae hs 56 rfl;have f57:v 57=(bA 1 [v 50,v 51,v 53,v 54]).getD 1 0:=ae hs 57 rfl;have S1:=Gg xl xh;have S2:=Gg yl yh;have AD:=RY (p:=v 50) (q:=v 51) (r:=v 53) (s:=v 54) (by rw [w51];exact S1.2) (by rw [w54];exact S2.2)
     rw [<-f56,<-f57] at AD;have RT:=Ro AD.1 AD.2;have f59:v 59=(bA 4 [v 56,v 57]).getD 0 0:=ae hs 59 rfl;have f60:v 60=(bA 4 [v 56,v 57]).getD 1 0:=ae hs 60 rfl;have f61:v 61=(bA 4 [v 56,v 57]).getD 2 0:=ae hs 61 rfl;rw [<-f59,<-f60,<-f61] at RT;have w59:v 59=lvR xl xh yl yh 0:=by rw [f59,f56,f57,w50,w51,w53,w54];rfl
     have w60:v 60=lvR xl xh yl yh 1:=by rw [f60,f56,f57,w50,w51,w53,w54];rfl
     have k61:=RT.1;have w64:v 64=eG (lvR xl xh yl yh 0) (lvR xl xh yl yh 1) m:=by rw [show v 64=(Cu 9 [v 59,v 60,v 30]).getD 0 0 from ae hs 64 rfl,w59,w60,w30];rfl
     have w65:v 65=d9 (lvR xl xh yl yh 0) (lvR xl xh yl yh 1) m:=by rw [show v 65=(Cu 9 [v 59,v 60,v 30]).getD 1 0 from ae hs 65 rfl,w59,w60,w30];rfl
     have w45:v 45=dP yl yh xl xh:=by rw [show v 45=(bA 7 [v 39,v 43,v 33,v 37]).getD 0 0 from ae hs 45 rfl,w39,w43,w33,w37];rfl
     have w46:v 46=eD yl yh xl xh:=by rw [show v 46=(bA 7 [v 39,v 43,v 33,v 37]).getD 1 0 from ae hs 46 rfl,w39,w43,w33,w37];rfl
     have w68:v 68=b2i (decide (v 65>(1099511627776:Int))):=ae hs 68 rfl;refine ⟨dV (aj (fun _=>(show (0<v 30/\v 30<=1099511627776)/\-v 30<=v 0/\v 0<=v 30 by rw [w30,e0];omega)) (aj (fun _=>(show (0<v 30/\v 30<=1099511627776)/\-v 30<=v 1/\v 1<=v 30 by rw [w30,e1];omega)) (aj (fun _=>(show (0<v 30/\v 30<=1099511627776)/\-v 30<=v 2/\v 2<=v 30 by rw [w30,e2];omega)) (aj (fun _=>(show (0<v 30/\v 30<=1099511627776)/\-v 30<=v 3/\v 3<=v 30 by rw [w30,e3];omega)) (aj (fun _=>(show fxV (v 39) (v 43)=true/\fxV (v 33) (v 37)=true by rw [w39,w43,w33,w37];exact ⟨X2,X1⟩)) (aj (fun _=>(show fxV (v 33) (v 37)=true by rw [w33,w37];exact X1)) (aj (fun _=>(show fxV (v 39) (v 43)=true by rw [w39,w43];exact X2)) (aj (fun _=>(show fxV (v 50) (v 51)=true/\fxV (v 53) (v 54)=true by rw [w50,w51,w53,w54];exact ⟨S1.1,S2.1⟩)) (aj (fun _=>(show fxV (v 56) (v 57)=true/\0<=v 57 from AD)) (aj (fun _=>(show fxV (v 59) (v 60)=true/\aX (v 30)=true from ⟨RT.2.1,by rw [w30];unfold aX;simp;omega⟩)) (dO))))))))))),?_⟩
     by_cases hb:d9 (lvR xl xh yl yh 0) (lvR xl xh yl yh 1) m>1099511627776
     . rw [show lvP xl xh yl yh m=[0,0,0,0,5] from if_pos hb]
       have k68:v 68=1:=by rw [w68,w65,decide_eq_true hb];rfl
       have z93:v 93=5:=aL (X:=cxK [a,b,c,d]) (v:=v) (l:=bJ) (aF _) hs (k:=93) (r:=.c 5) (ps:=[(12,.c 1),(22,.c 1),(31,.c 0),(61,.c 0),(68,.c 1)]) (nz:=[]) (ah k12 (ah k22 (ah k31 (ah k61 (ah k68 aK))))) bB (by kernel_rfl)
       have z94:v 94=0:=aL (X:=cxK [a,b,c,d]) (v:=v) (l:=bJ) (aF _) hs (k:=94) (r:=.c 0) (ps:=[(12,.c 1),(22,.c 1),(31,.c 0),(61,.c 0),(68,.c 1)]) (nz:=[]) (ah k12 (ah k22 (ah k31 (ah k61 (ah k68 aK))))) bB (by kernel_rfl)
       have z95:v 95=0:=aL (X:=cxK [a,b,c,d]) (v:=v) (l:=bJ) (aF _) hs (k:=95) (r:=.c 0) (ps:=[(12,.c 1),(22,.c 1),(31,.c 0),(61,.c 0),(68,.c 1)]) (nz:=[]) (ah k12 (ah k22 (ah k31 (ah k61 (ah k68 aK))))) bB (by kernel_rfl)
       have z96:v 96=0:=aL (X:=cxK [a,b,c,d]) (v:=v) (l:=bJ) (aF _) hs (k:=96) (r:=.c 0) (ps:=[(12,.c 1),(22,.c 1),(31,.c 0),(61,.c 0),(68,.c 1)]) (nz:=[]) (ah k12 (ah k22 (ah k31 (ah k61 (ah k68 aK))))) bB (by kernel_rfl)
       have z97:v 97=0:=aL (X:=cxK [a,b,c,d]) (v:=v) (l:=bJ) (aF _) hs (k:=97) (r:=.c 0) (ps:=[(12,.c 1),(22,.c 1),(31,.c 0),(61,.c 0),(68,.c 1)]) (nz:=[]) (ah k12 (ah k22 (ah k31 (ah k61 (ah k68 aK))))) bB (by kernel_rfl)
       exact ⟨z93,z94,z95,z96,z97⟩
     . rw [show lvP xl xh yl yh m=[dP yl yh xl xh,eD yl yh xl xh,eG (lvR xl xh yl yh 0) (lvR xl xh yl yh 1) m,d9 (lvR xl xh yl yh 0) (lvR xl xh yl yh 1) m,0] from if_neg hb]
       have k68:v 68=0:=by rw [w68,w65,decide_eq_false hb];rfl
       have z93:v 93=0:=aL (X:=cxK [a,b,c,d]) (v:=v) (l:=bJ) (aF _) hs (k:=93) (r:=.c 0) (ps:=[(12,.c 1),(22,.c 1),(31,.c 0),(61,.c 0),(68,.c 0)]) (nz:=[]) (ah k12 (ah k22 (ah k31 (ah k61 (ah k68 aK))))) bB (by kernel_rfl)
       have z94:v 94=v 45:=bQ (X:=cxK [a,b,c,d]) (v:=v) (l:=bJ) (aF _) hs (k:=94) (j:=45) (ps:=[(12,.c 1),(22,.c 1),(31,.c 0),(61,.c 0),(68,.c 0)]) (ah k12 (ah k22 (ah k31 (ah k61 (ah k68 aK))))) (by kernel_rfl)
       have z95:v 95=v 46:=bQ (X:=cxK [a,b,c,d]) (v:=v) (l:=bJ) (aF _) hs (k:=95) (j:=46) (ps:=[(12,.c 1),(22,.c 1),(31,.c 0),(61,.c 0),(68,.c 0)]) (ah k12 (ah k22 (ah k31 (ah k61 (ah k68 aK))))) (by kernel_rfl)
       have z96:v 96=v 64:=bQ (X:=cxK [a,b,c,d]) (v:=v) (l:=bJ) (aF _) hs (k:=96) (j:=64) (ps:=[(12,.c 1),(22,.c 1),(31,.c 0),(61,.c 0),(68,.c 0)]) (ah k12 (ah k22 (ah k31 (ah k61 (ah k68 aK))))) (by kernel_rfl)
       have z97:v 97=v 65:=bQ (X:=cxK [a,b,c,d]) (v:=v) (l:=bJ) (aF _) hs (k:=97) (j:=65) (ps:=[(12,.c 1),(22,.c 1),(31,.c 0),(61,.c 0),(68,.c 0)]) (ah k12 (ah k22 (ah k31 (ah k61 (ah k68 aK))))) (by kernel_rfl)
       exact ⟨z93,z94.trans w45,z95.trans w46,z96.trans w64,z97.trans w65⟩
 . rw [show iF a b c d=[0,0,0,0,1] from if_neg hv]
   have k24:v 24=1:=by
    rw [show v 24=if v 13≠0 then (1:Int) else v 23 from ae hs 24 rfl,show v 13=if v 12≠0 then (0:Int) else (1:Int) from ae hs 13 rfl,show v 23=if v 22≠0 then (0:Int) else (1:Int) from ae hs 23 rfl,V1,V2]
    cases q1:aH a b<;>cases q2:aH c d<;>simp_all [b2i]
   have k25:v 25=0:=by rw [show v 25=if v 24≠0 then (0:Int) else (1:Int) from ae hs 25 rfl,if_pos (by omega)]
   have z93:v 93=1:=aL (X:=cxK [a,b,c,d]) (v:=v) (l:=bJ) (aF _) hs (k:=93) (r:=.c 1) (ps:=[(24,.c 1)]) (nz:=[]) (ah k24 aK) bB (by kernel_rfl)
   have z94:v 94=0:=aL (X:=cxK [a,b,c,d]) (v:=v) (l:=bJ) (aF _) hs (k:=94) (r:=.c 0) (ps:=[(24,.c 1)]) (nz:=[]) (ah k24 aK) bB (by kernel_rfl)
   have z95:v 95=0:=aL (X:=cxK [a,b,c,d]) (v:=v) (l:=bJ) (aF _) hs (k:=95) (r:=.c 0) (ps:=[(24,.c 1)]) (nz:=[]) (ah k24 aK) bB (by kernel_rfl)
   have z96:v 96=0:=aL (X:=cxK [a,b,c,d]) (v:=v) (l:=bJ) (aF _) hs (k:=96) (r:=.c 0) (ps:=[(24,.c 1)]) (nz:=[]) (ah k24 aK) bB (by kernel_rfl)
   have z97:v 97=0:=aL (X:=cxK [a,b,c,d]) (v:=v) (l:=bJ) (aF _) hs (k:=97) (r:=.c 0) (ps:=[(24,.c 1)]) (nz:=[]) (ah k24 aK) bB (by kernel_rfl)
   exact ⟨dV (aj (fun hp=>absurd k25 (ax (ax hp).2).1) (aj (fun hp=>absurd k25 (ax (ax hp).2).1) (aj (fun hp=>absurd k25 (ax (ax hp).2).1) (aj (fun hp=>absurd k25 (ax (ax hp).2).1) (aj (fun hp=>absurd k25 (ax (ax hp).2).1) (aj (fun hp=>absurd k25 (ax (ax (ax hp).2).2).1) (aj (fun hp=>absurd k25 (ax (ax (ax hp).2).2).1) (aj (fun hp=>absurd k25 (ax (ax (ax hp).2).2).1) (aj (fun hp=>absurd k25 (ax (ax (ax hp).2).2).1) (aj (fun hp=>absurd k25 (ax (ax (ax (ax hp).2).2).2).1) (dO))))))))))),z93,z94,z95,z96,z97⟩
def bD:List Nd:=[
 .arg 0,
 .arg 1,
 .arg 2,
 .arg 3,
 .bin .lss .i64 (.n 0) (.c 0),
 .bin .sub .i64 (.c 0) (.n 0),
 .ite (.n 4) (.c 0) (.c 1),
 .ite (.n 4) (.n 5) (.n 0),
 .bin .lss .i64 (.n 1) (.c 0),
 .bin .sub .i64 (.c 0) (.n 1),
 .ite (.n 8) (.c 0) (.c 1),
 .ite (.n 8) (.n 9) (.n 1),
 .bin .lss .i64 (.n 7) (.n 11),
 .ite (.n 12) (.c 0) (.c 1),
 .ite (.n 12) (.n 11) (.n 7),
 .bin .lss .i64 (.n 2) (.c 0),
 .bin .sub .i64 (.c 0) (.n 2),
 .ite (.n 15) (.c 0) (.c 1),
 .ite (.n 15) (.n 16) (.n 2),
 .bin .lss .i64 (.n 3) (.c 0),
 .bin .sub .i64 (.c 0) (.n 3),
 .ite (.n 19) (.c 0) (.c 1),
 .ite (.n 19) (.n 20) (.n 3),
 .bin .lss .i64 (.n 18) (.n 22),
 .ite (.n 23) (.c 0) (.c 1),
 .ite (.n 23) (.n 22) (.n 18),
 .bin .lss .i64 (.n 14) (.n 25),
 .ite (.n 26) (.c 0) (.c 1),
 .ite (.n 26) (.n 25) (.n 14),
 .bin .eql .i64 (.n 28) (.c 0),
 .ite (.n 29) (.c 0) (.c 1),
 .app 96 0 [.n 0,.n 28],
 .app 96 1 [.n 0,.n 28],
 .app 96 2 [.n 0,.n 28],
 .app 96 0 [.n 1,.n 28],
 .app 96 1 [.n 1,.n 28],
 .app 96 2 [.n 1,.n 28],
 .app 96 0 [.n 2,.n 28],
 .app 96 1 [.n 2,.n 28],
 .app 96 2 [.n 2,.n 28],
 .app 96 0 [.n 3,.n 28],
 .app 96 1 [.n 3,.n 28],
 .app 96 2 [.n 3,.n 28],
 .app 3 0 [.n 31,.n 35],
 .app 3 1 [.n 31,.n 35],
 .app 3 2 [.n 31,.n 35],
 .bin .neq .i64 (.n 45) (.c 0),
 .ite (.n 46) (.c 0) (.c 1),
 .ite (.n 46) (.c 0) (.n 43),
 .ite (.n 46) (.c 0) (.n 44),
 .app 3 0 [.n 37,.n 41],
 .app 3 1 [.n 37,.n 41],
 .app 3 2 [.n 37,.n 41],
 .bin .eql .i64 (.n 45) (.c 0),
 .ite (.n 53) (.c 0) (.c 1),
 .ite (.n 53) (.n 52) (.n 45),
 .bin .neq .i64 (.n 52) (.c 0),
 .ite (.n 56) (.c 0) (.c 1),
 .ite (.n 56) (.c 0) (.n 50),
 .ite (.n 56) (.c 0) (.n 51),
 .app 1 0 [.n 48,.n 49,.n 58,.n 59],
 .app 1 1 [.n 48,.n 49,.n 58,.n 59],
 .app 1 2 [.n 48,.n 49,.n 58,.n 59],
 .bin .eql .i64 (.n 55) (.c 0),
 .ite (.n 63) (.c 0) (.c 1),
 .ite (.n 63) (.n 62) (.n 55),
 .bin .neq .i64 (.n 62) (.c 0),
 .ite (.n 66) (.c 0) (.c 1),
 .ite (.n 66) (.c 0) (.n 60),
 .ite (.n 66) (.c 0) (.n 61),
 .app 4 0 [.n 68,.n 69],
 .app 4 1 [.n 68,.n 69],
 .app 4 2 [.n 68,.n 69],
 .bin .eql .i64 (.n 65) (.c 0),
 .ite (.n 73) (.c 0) (.c 1),
 .ite (.n 73) (.n 72) (.n 65),
 .bin .neq .i64 (.n 72) (.c 0),
 .ite (.n 76) (.c 0) (.c 1),
 .ite (.n 76) (.c 0) (.n 70),
 .ite (.n 76) (.c 0) (.n 71),
 .app 9 0 [.n 78,.n 79,.n 28],
 .app 9 1 [.n 78,.n 79,.n 28],
 .app 9 2 [.n 78,.n 79,.n 28],
 .bin .leq .i64 (.n 80) (.n 81),
 .bin .geq .i64 (.n 80) (.c (-1099511627776)),
 .ite (.n 83) (.n 84) (.c 0),
 .bin .leq .i64 (.n 81) (.c 1099511627776),
 .ite (.n 85) (.n 86) (.c 0),
 .ite (.n 87) (.c 0) (.c 1),
 .ite (.n 88) (.c 5) (.c 0),
 .ite (.n 88) (.c 0) (.n 80),
 .ite (.n 88) (.c 0) (.n 81),
 .bin .neq .i64 (.n 89) (.c 0),
 .ite (.n 92) (.c 0) (.c 1),
 .app 7 0 [.n 37,.n 41,.n 31,.n 35],
 .app 7 1 [.n 37,.n 41,.n 31,.n 35],
 .app 7 2 [.n 37,.n 41,.n 31,.n 35],
 .ite (.n 92) (.n 89) (.c 0),
 .ite (.n 92) (.c 0) (.n 94),
 .ite (.n 92) (.c 0) (.n 95),
 .ite (.n 92) (.c 0) (.n 90),
 .ite (.n 92) (.c 0) (.n 91),
 .ite (.n 29) (.c 0) (.n 97),
 .ite (.n 29) (.c 0) (.n 98),
 .ite (.n 29) (.c 21600000) (.n 99),
 .ite (.n 29) (.c 0) (.n 100),
 .ite (.n 29) (.c 0) (.n 101)]
def EU:List Vc:=[
 ⟨[(.n 30,true)],.pre 96 [.n 0,.n 28]⟩,
 ⟨[(.n 30,true)],.pre 96 [.n 1,.n 28]⟩,
 ⟨[(.n 30,true)],.pre 96 [.n 2,.n 28]⟩,
 ⟨[(.n 30,true)],.pre 96 [.n 3,.n 28]⟩,
 ⟨[(.n 30,true)],.pre 3 [.n 31,.n 35]⟩,
 ⟨[(.n 30,true)],.pre 3 [.n 37,.n 41]⟩,
 ⟨[(.n 30,true)],.pre 1 [.n 48,.n 49,.n 58,.n 59]⟩,
 ⟨[(.n 30,true)],.pre 4 [.n 68,.n 69]⟩,
 ⟨[(.n 30,true)],.pre 9 [.n 78,.n 79,.n 28]⟩,
 ⟨[(.n 30,true)],.pre 9 [.n 78,.n 79,.n 28]⟩,
 ⟨[(.n 93,true),(.n 30,true)],.pre 7 [.n 37,.n 41,.n 31,.n 35]⟩]
theorem OH:whole Tryz.prog spL 20 40 32 [(true,[some .i64,some .i64]),(true,[some .i64,some .i64])]=some (.tup [.agg [.int .i64 (.n 103),.int .i64 (.n 104),.int .i64 (.n 105),.int .i64 (.n 106)],.c (.int .i64 (.n 102))],⟨bD.reverse,EU.reverse⟩):=by kernel_rfl
theorem QN:wfN bD.reverse=true:=by kernel_rfl
theorem MG (a b c d:Int) (w:World) (h1:aH a b=true) (h2:aH c d=true):Calls Tryz.prog 32 #[.agg #[.int .i64 a,.int .i64 b],.agg #[.int .i64 c,.int .i64 d]] w fun e w'=>e=.returned (.tuple #[.agg #[.int .i64 ((fV a b c d).getD 0 0),.int .i64 ((fV a b c d).getD 1 0),.int .i64 ((fV a b c d).getD 2 0),.int .i64 ((fV a b c d).getD 3 0)],.int .i64 ((fV a b c d).getD 4 0)])/\Below w.heap.size w w':=by
 refine Sx.calls (X:=cxK [a,b,c,d]) il (LX _) OH QN (fun v hs=>?_) w
 have e0:v 0=a:=ae hs 0 rfl;have e1:v 1=b:=ae hs 1 rfl;have e2:v 2=c:=ae hs 2 rfl;have e3:v 3=d:=ae hs 3 rfl;obtain ⟨m0,m1,ma,mc⟩:=Xa h1 h2;have w7:v 7=max a (-a):=by rw [<-e0];exact mY (x:=v 0) (c:=v 4) (y:=v 5) (z:=v 7) (by omega) (ae hs 4 rfl) (ae hs 5 rfl) (ae hs 7 rfl)
 have w11:v 11=max b (-b):=by rw [<-e1];exact mY (x:=v 1) (c:=v 8) (y:=v 9) (z:=v 11) (by omega) (ae hs 8 rfl) (ae hs 9 rfl) (ae hs 11 rfl)
 have w18:v 18=max c (-c):=by rw [<-e2];exact mY (x:=v 2) (c:=v 15) (y:=v 16) (z:=v 18) (by omega) (ae hs 15 rfl) (ae hs 16 rfl) (ae hs 18 rfl)
 have w22:v 22=max d (-d):=by rw [<-e3];exact mY (x:=v 3) (c:=v 19) (y:=v 20) (z:=v 22) (by omega) (ae hs 19 rfl) (ae hs 20 rfl) (ae hs 22 rfl)
 have w14:v 14=max (v 7) (v 11):=ut (c:=v 12) (z:=v 14) (ae hs 12 rfl) (ae hs 14 rfl);have w25:v 25=max (v 18) (v 22):=ut (c:=v 23) (z:=v 25) (ae hs 23 rfl) (ae hs 25 rfl)
 have w28:v 28=lvM a b c d:=by
  rw [show v 28=max (v 14) (v 25) from ut (c:=v 26) (z:=v 28) (ae hs 26 rfl) (ae hs 28 rfl),w14,w25,w7,w11,w18,w22]
  unfold lvM;omega
 have w29:v 29=b2i (v 28==(0:Int)):=ae hs 29 rfl
 suffices Z:(∀ q∈EU.reverse,q.holds (cxK [a,b,c,d]) v)/\v 102=(fV a b c d).getD 4 0/\v 103=(fV a b c d).getD 0 0/\v 104=(fV a b c d).getD 1 0/\v 105=(fV a b c d).getD 2 0/\v 106=(fV a b c d).getD 3 0 by
  refine ⟨Z.1,?_⟩;intro x hx0;have hx':=gG (v:=v) (by rfl) hx0
  rw [hx'];show Value.tuple #[.agg #[.int .i64 (v 103),.int .i64 (v 104),.int .i64 (v 105),.int .i64 (v 106)],.int .i64 (v 102)]=_;rw [Z.2.1,Z.2.2.1,Z.2.2.2.1,Z.2.2.2.2.1,Z.2.2.2.2.2]
 by_cases hm:lvM a b c d=0
 . have k29:v 29=1:=by rw [w29,w28,hm];rfl
   have k30:v 30=0:=by rw [show v 30=if v 29≠0 then (0:Int) else (1:Int) from ae hs 30 rfl,if_pos (by omega)]
   rw [show fV a b c d=[0,21600000,0,0,0] from if_pos hm]
   have z102:v 102=0:=aL (X:=cxK [a,b,c,d]) (v:=v) (l:=bD) (aF _) hs (k:=102) (r:=.c 0) (ps:=[(29,.c 1)]) (nz:=[]) (ah k29 aK) bB (by kernel_rfl)
   have z103:v 103=0:=aL (X:=cxK [a,b,c,d]) (v:=v) (l:=bD) (aF _) hs (k:=103) (r:=.c 0) (ps:=[(29,.c 1)]) (nz:=[]) (ah k29 aK) bB (by kernel_rfl)
   have z104:v 104=21600000:=aL (X:=cxK [a,b,c,d]) (v:=v) (l:=bD) (aF _) hs (k:=104) (r:=.c 21600000) (ps:=[(29,.c 1)]) (nz:=[]) (ah k29 aK) bB (by kernel_rfl)
   have z105:v 105=0:=aL (X:=cxK [a,b,c,d]) (v:=v) (l:=bD) (aF _) hs (k:=105) (r:=.c 0) (ps:=[(29,.c 1)]) (nz:=[]) (ah k29 aK) bB (by kernel_rfl)
   have z106:v 106=0:=aL (X:=cxK [a,b,c,d]) (v:=v) (l:=bD) (aF _) hs (k:=106) (r:=.c 0) (ps:=[(29,.c 1)]) (nz:=[]) (ah k29 aK) bB (by kernel_rfl)
   exact ⟨dV (aj (fun hp=>absurd k30 (ax hp).1) (aj (fun hp=>absurd k30 (ax hp).1) (aj (fun hp=>absurd k30 (ax hp).1) (aj (fun hp=>absurd k30 (ax hp).1) (aj (fun hp=>absurd k30 (ax hp).1) (aj (fun hp=>absurd k30 (ax hp).1) (aj (fun hp=>absurd k30 (ax hp).1) (aj (fun hp=>absurd k30 (ax hp).1) (aj (fun hp=>absurd k30 (ax hp).1) (aj (fun hp=>absurd k30 (ax hp).1) (aj (fun hp=>absurd k30 (ax (ax hp).2).1) (dO)))))))))))),z102,z103,z104,z105,z106⟩
 . have M:0<lvM a b c d:=by omega
   have L:fV a b c d=lvP (lvX a (lvM a b c d)) (lvY b (lvM a b c d)) (lvX c (lvM a b c d)) (lvY d (lvM a b c d)) (lvM a b c d):=if_neg hm;rw [L];have k29:v 29=0:=by rw [w29,w28,show (lvM a b c d==(0:Int))=false from by simp;omega];rfl
   have X1:=E9 M ma;have X2:=E9 M mc;have w31:v 31=lvX a (lvM a b c d):=by rw [show v 31=(yV 96 [v 0,v 28]).getD 0 0 from ae hs 31 rfl,e0,w28];rfl
   have w35:v 35=lvY b (lvM a b c d):=by rw [show v 35=(yV 96 [v 1,v 28]).getD 1 0 from ae hs 35 rfl,e1,w28];rfl
   have w37:v 37=lvX c (lvM a b c d):=by rw [show v 37=(yV 96 [v 2,v 28]).getD 0 0 from ae hs 37 rfl,e2,w28];rfl
   have w41:v 41=lvY d (lvM a b c d):=by rw [show v 41=(yV 96 [v 3,v 28]).getD 1 0 from ae hs 41 rfl,e3,w28];rfl
   generalize lvM a b c d=m at *
   generalize lvX a m=xl at *
   generalize lvY b m=xh at *
   generalize lvX c m=yl at *
   generalize lvY d m=yh at *
   have z48:v 48=v 43:=bQ (X:=cxK [a,b,c,d]) (v:=v) (l:=bD) (aF _) hs (k:=48) (j:=43) (ps:=[]) aK (by kernel_rfl)
   have z49:v 49=v 44:=bQ (X:=cxK [a,b,c,d]) (v:=v) (l:=bD) (aF _) hs (k:=49) (j:=44) (ps:=[]) aK (by kernel_rfl)
   have z58:v 58=v 50:=bQ (X:=cxK [a,b,c,d]) (v:=v) (l:=bD) (aF _) hs (k:=58) (j:=50) (ps:=[]) aK (by kernel_rfl)
   have z59:v 59=v 51:=bQ (X:=cxK [a,b,c,d]) (v:=v) (l:=bD) (aF _) hs (k:=59) (j:=51) (ps:=[]) aK (by kernel_rfl)
   have z68:v 68=v 60:=bQ (X:=cxK [a,b,c,d]) (v:=v) (l:=bD) (aF _) hs (k:=68) (j:=60) (ps:=[]) aK (by kernel_rfl)
   have z69:v 69=v 61:=bQ (X:=cxK [a,b,c,d]) (v:=v) (l:=bD) (aF _) hs (k:=69) (j:=61) (ps:=[]) aK (by kernel_rfl)
   have z78:v 78=v 70:=bQ (X:=cxK [a,b,c,d]) (v:=v) (l:=bD) (aF _) hs (k:=78) (j:=70) (ps:=[]) aK (by kernel_rfl)
   have z79:v 79=v 71:=bQ (X:=cxK [a,b,c,d]) (v:=v) (l:=bD) (aF _) hs (k:=79) (j:=71) (ps:=[]) aK (by kernel_rfl)
   have w43:v 43=(bA 3 [xl,xh]).getD 0 0:=by rw [show v 43=(bA 3 [v 31,v 35]).getD 0 0 from ae hs 43 rfl,w31,w35]
   have w44:v 44=(bA 3 [xl,xh]).getD 1 0:=by rw [show v 44=(bA 3 [v 31,v 35]).getD 1 0 from ae hs 44 rfl,w31,w35]
   have w50:v 50=(bA 3 [yl,yh]).getD 0 0:=by rw [show v 50=(bA 3 [v 37,v 41]).getD 0 0 from ae hs 50 rfl,w37,w41]
   have w51:v 51=(bA 3 [yl,yh]).getD 1 0:=by rw [show v 51=(bA 3 [v 37,v 41]).getD 1 0 from ae hs 51 rfl,w37,w41]
   have f60:v 60=(bA 1 [v 48,v 49,v 58,v 59]).getD 0 0:=ae hs 60 rfl;have f61:v 61=(bA 1 [v 48,v 49,v 58,v 59]).getD 1 0:=ae hs 61 rfl;have S1:=Gg xl xh;have S2:=Gg yl yh;have AD:=RY (p:=v 48) (q:=v 49) (r:=v 58) (s:=v 59) (by rw [z49,w44];exact S1.2) (by rw [z59,w51];exact S2.2)
   rw [<-f60,<-f61,<-z68,<-z69] at AD;have RT:=Ro AD.1 AD.2;have f70:v 70=(bA 4 [v 68,v 69]).getD 0 0:=ae hs 70 rfl;have f71:v 71=(bA 4 [v 68,v 69]).getD 1 0:=ae hs 71 rfl;rw [<-f70,<-f71,<-z78,<-z79] at RT;have w78:v 78=lvR xl xh yl yh 0:=by rw [z78,f70,z68,z69,f60,f61,z48,z49,z58,z59,w43,w44,w50,w51];rfl
   have w79:v 79=lvR xl xh yl yh 1:=by rw [z79,f71,z68,z69,f60,f61,z48,z49,z58,z59,w43,w44,w50,w51];rfl
   have w80:v 80=eG (lvR xl xh yl yh 0) (lvR xl xh yl yh 1) m:=by rw [show v 80=(Cu 9 [v 78,v 79,v 28]).getD 0 0 from ae hs 80 rfl,w78,w79,w28];rfl
   have w81:v 81=d9 (lvR xl xh yl yh 0) (lvR xl xh yl yh 1) m:=by rw [show v 81=(Cu 9 [v 78,v 79,v 28]).getD 1 0 from ae hs 81 rfl,w78,w79,w28];rfl
   have SC:=VW (r:=v 78) (s:=v 79) ⟨RT.2.2,((dQ _ _).1 RT.2.1).2.1⟩ M;rw [w78,w79,<-w80,<-w81] at SC;have w94:v 94=dP yl yh xl xh:=by rw [show v 94=(bA 7 [v 37,v 41,v 31,v 35]).getD 0 0 from ae hs 94 rfl,w37,w41,w31,w35];rfl
   have w95:v 95=eD yl yh xl xh:=by rw [show v 95=(bA 7 [v 37,v 41,v 31,v 35]).getD 1 0 from ae hs 95 rfl,w37,w41,w31,w35];rfl
   have k83:v 83=1:=by rw [show v 83=b2i (decide (v 80<=v 81)) from ae hs 83 rfl,decide_eq_true SC.2];rfl
   have k84:v 84=1:=by rw [show v 84=b2i (decide (v 80>=(-1099511627776:Int))) from ae hs 84 rfl,decide_eq_true (by omega)];rfl
   have w86:v 86=b2i (decide (v 81<=(1099511627776:Int))):=ae hs 86 rfl;refine ⟨dV (aj (fun _=>(show (0<v 28/\v 28<=1099511627776)/\-v 28<=v 0/\v 0<=v 28 by rw [w28,e0];omega)) (aj (fun _=>(show (0<v 28/\v 28<=1099511627776)/\-v 28<=v 1/\v 1<=v 28 by rw [w28,e1];omega)) (aj (fun _=>(show (0<v 28/\v 28<=1099511627776)/\-v 28<=v 2/\v 2<=v 28 by rw [w28,e2];omega)) (aj (fun _=>(show (0<v 28/\v 28<=1099511627776)/\-v 28<=v 3/\v 3<=v 28 by rw [w28,e3];omega)) (aj (fun _=>(show fxV (v 31) (v 35)=true by rw [w31,w35];exact X1)) (aj (fun _=>(show fxV (v 37) (v 41)=true by rw [w37,w41];exact X2)) (aj (fun _=>(show fxV (v 48) (v 49)=true/\fxV (v 58) (v 59)=true by rw [z48,z49,z58,z59,w43,w44,w50,w51];exact ⟨S1.1,S2.1⟩)) (aj (fun _=>(show fxV (v 68) (v 69)=true/\0<=v 69 from AD)) (aj (fun _=>(show fxV (v 78) (v 79)=true/\aX (v 28)=true from ⟨RT.2.1,by rw [w28];unfold aX;simp;omega⟩)) (aj (fun _=>(show fxV (v 78) (v 79)=true/\aX (v 28)=true from ⟨RT.2.1,by rw [w28];unfold aX;simp;omega⟩)) (aj (fun _=>(show fxV (v 37) (v 41)=true/\fxV (v 31) (v 35)=true by rw [w37,w41,w31,w35];exact ⟨X2,X1⟩)) (dO)))))))))))),?_⟩
   by_cases hb:d9 (lvR xl xh yl yh 0) (lvR xl xh yl yh 1) m>1099511627776
   . rw [show lvP xl xh yl yh m=[0,0,0,0,5] from if_pos hb]
     have k86:v 86=0:=by rw [w86,w81,decide_eq_false (by omega)];rfl
     have z102:v 102=5:=aL (X:=cxK [a,b,c,d]) (v:=v) (l:=bD) (aF _) hs (k:=102) (r:=.c 5) (ps:=[(29,.c 0),(83,.c 1),(84,.c 1),(86,.c 0)]) (nz:=[]) (ah k29 (ah k83 (ah k84 (ah k86 aK)))) bB (by kernel_rfl)
     have z103:v 103=0:=aL (X:=cxK [a,b,c,d]) (v:=v) (l:=bD) (aF _) hs (k:=103) (r:=.c 0) (ps:=[(29,.c 0),(83,.c 1),(84,.c 1),(86,.c 0)]) (nz:=[]) (ah k29 (ah k83 (ah k84 (ah k86 aK)))) bB (by kernel_rfl)
     have z104:v 104=0:=aL (X:=cxK [a,b,c,d]) (v:=v) (l:=bD) (aF _) hs (k:=104) (r:=.c 0) (ps:=[(29,.c 0),(83,.c 1),(84,.c 1),(86,.c 0)]) (nz:=[]) (ah k29 (ah k83 (ah k84 (ah k86 aK)))) bB (by kernel_rfl)
     have z105:v 105=0:=aL (X:=cxK [a,b,c,d]) (v:=v) (l:=bD) (aF _) hs (k:=105) (r:=.c 0) (ps:=[(29,.c 0),(83,.c 1),(84,.c 1),(86,.c 0)]) (nz:=[]) (ah k29 (ah k83 (ah k84 (ah k86 aK)))) bB (by kernel_rfl)
     have z106:v 106=0:=aL (X:=cxK [a,b,c,d]) (v:=v) (l:=bD) (aF _) hs (k:=106) (r:=.c 0) (ps:=[(29,.c 0),(83,.c 1),(84,.c 1),(86,.c 0)]) (nz:=[]) (ah k29 (ah k83 (ah k84 (ah k86 aK)))) bB (by kernel_rfl)
     exact ⟨z102,z103,z104,z105,z106⟩
   . rw [show lvP xl xh yl yh m=[dP yl yh xl xh,eD yl yh xl xh,eG (lvR xl xh yl yh 0) (lvR xl xh yl yh 1) m,d9 (lvR xl xh yl yh 0) (lvR xl xh yl yh 1) m,0] from if_neg hb]
     have k86:v 86=1:=by rw [w86,w81,decide_eq_true (by omega)];rfl
     have z102:v 102=0:=aL (X:=cxK [a,b,c,d]) (v:=v) (l:=bD) (aF _) hs (k:=102) (r:=.c 0) (ps:=[(29,.c 0),(83,.c 1),(84,.c 1),(86,.c 1)]) (nz:=[]) (ah k29 (ah k83 (ah k84 (ah k86 aK)))) bB (by kernel_rfl)
     have z103:v 103=v 94:=bQ (X:=cxK [a,b,c,d]) (v:=v) (l:=bD) (aF _) hs (k:=103) (j:=94) (ps:=[(29,.c 0),(83,.c 1),(84,.c 1),(86,.c 1)]) (ah k29 (ah k83 (ah k84 (ah k86 aK)))) (by kernel_rfl)
     have z104:v 104=v 95:=bQ (X:=cxK [a,b,c,d]) (v:=v) (l:=bD) (aF _) hs (k:=104) (j:=95) (ps:=[(29,.c 0),(83,.c 1),(84,.c 1),(86,.c 1)]) (ah k29 (ah k83 (ah k84 (ah k86 aK)))) (by kernel_rfl)
     have z105:v 105=v 80:=bQ (X:=cxK [a,b,c,d]) (v:=v) (l:=bD) (aF _) hs (k:=105) (j:=80) (ps:=[(29,.c 0),(83,.c 1),(84,.c 1),(86,.c 1)]) (ah k29 (ah k83 (ah k84 (ah k86 aK)))) (by kernel_rfl)
     have z106:v 106=v 81:=bQ (X:=cxK [a,b,c,d]) (v:=v) (l:=bD) (aF _) hs (k:=106) (j:=81) (ps:=[(29,.c 0),(83,.c 1),(84,.c 1),(86,.c 1)]) (ah k29 (ah k83 (ah k84 (ah k86 aK)))) (by kernel_rfl)
     exact ⟨z102,z103.trans w94,z104.trans w95,z105.trans w80,z106.trans w81⟩
