/- The contracts of LegOf of both sides: the leg of a difference of latitude and a departure. -/
import Derived.Test.YtmldbeipmappnaaZRMake
set_option linter.unusedVariables false
set_option linter.unusedSimpArgs false
set_option maxRecDepth 100000
namespace Go.Proofs.Ytmldbeipmappnaa
open Go.RowKit Alm Sx
theorem aiV (a b:Int):(if b>a then b else a)=max a b:=by split<;>omega
def lvM (a b c d:Int):Int:=max (max (max b (-a)) d) (-c)
def lvX (a m:Int):Int:=qFl a 1073741824 m
def lvY (b m:Int):Int:=qCe b 1073741824 m
def lvR (xl xh yl yh:Int) (i:Nat):Int:=(aC 4 [(aC 1 [(aC 3 [xl,xh]).getD 0 0,(aC 3 [xl,xh]).getD 1 0,(aC 3 [yl,yh]).getD 0 0,(aC 3 [yl,yh]).getD 1 0]).getD 0 0,(aC 1 [(aC 3 [xl,xh]).getD 0 0,(aC 3 [xl,xh]).getD 1 0,(aC 3 [yl,yh]).getD 0 0,(aC 3 [yl,yh]).getD 1 0]).getD 1 0]).getD i 0
def lvP (xl xh yl yh m:Int):List Int:=if dI (lvR xl xh yl yh 0) (lvR xl xh yl yh 1) m>1099511627776 then [0,0,0,0,5] else [aV yl yh xl xh,bI yl yh xl xh,dM (lvR xl xh yl yh 0) (lvR xl xh yl yh 1) m,dI (lvR xl xh yl yh 0) (lvR xl xh yl yh 1) m,0]
def aiI (a b c d:Int):List Int:=if lvM a b c d=0 then [0,21600000,0,0,0] else lvP (lvX a (lvM a b c d)) (lvY b (lvM a b c d)) (lvX c (lvM a b c d)) (lvY d (lvM a b c d)) (lvM a b c d)
def aig (a b c d:Int):List Int:=if cu a b=true/\cu c d=true then aiI a b c d else [0,0,0,0,1]
theorem ala {a b c d:Int} (h1:cu a b=true) (h2:cu c d=true):0<=lvM a b c d/\lvM a b c d<=1099511627776/\(-lvM a b c d<=a/\a<=b/\b<=lvM a b c d)/\(-lvM a b c d<=c/\c<=d/\d<=lvM a b c d):=by
 have:=(cK _ _).1 h1;have:=(cK _ _).1 h2;unfold lvM;omega
theorem aju {a b m:Int} (hm:0<m) (h:-m<=a/\a<=b/\b<=m):fxV (lvX a m) (lvY b m)=true:=by
 rw [cZ];unfold lvX lvY qFl qCe;have h1:-1073741824<=a*1073741824/m:=(Int.le_ediv_iff_mul_le hm).2 (by omega)
 have h2:-1073741824<=-(b*1073741824)/m:=(Int.le_ediv_iff_mul_le hm).2 (by omega)
 have k1:a*1073741824/m*m<=a*1073741824:=Int.ediv_mul_le _ (by omega)
 have k2:-(b*1073741824)/m*m<=-(b*1073741824):=Int.ediv_mul_le _ (by omega)
 refine ⟨by omega,?_,by omega⟩
 refine Int.not_lt.1 fun hh=>?_
 have m1:=Int.mul_le_mul_of_nonneg_right (show -(-(b*1073741824)/m)+1<=a*1073741824/m by omega) (show 0<=m by omega)
 rw [Int.add_mul,Int.neg_mul] at m1;omega
theorem ajN (p q:Int):fxV ((aC 3 [p,q]).getD 0 0) ((aC 3 [p,q]).getD 1 0)=true/\0<=(aC 3 [p,q]).getD 1 0:=by
 refine ⟨(abD _ _).2.2,?_⟩;show 0<=tF (sqL p q) (sqH p q);unfold tF;split
 . unfold sqH;have h1:0<=p*p:=by rcases Int.le_total 0 p with h|h;exact Int.mul_nonneg h h;exact Int.mul_nonneg_of_nonpos_of_nonpos h h
   generalize p*p=P at *
   generalize q*q=R at *
   omega
 . omega
theorem ak7 {p q r s:Int} (hq:0<=q) (hs:0<=s):fxV ((aC 1 [p,q,r,s]).getD 0 0) ((aC 1 [p,q,r,s]).getD 1 0)=true/\0<=(aC 1 [p,q,r,s]).getD 1 0:=by
 refine ⟨(abD _ _).2.2,?_⟩;show 0<=tF (p+r) (q+s);unfold tF;split<;>omega
theorem aiF {n k:Int} (h0:0<=n) (h:n<=k) (h1:k<=2305843009213693952):0<=rtV n/\rtV n<=rtV k/\rtV k<=1518500249:=by
 obtain ⟨a0,a1,a2⟩:=su n h0 (by omega)
 obtain ⟨b0,b1,b2⟩:=su k (by omega) h1
 refine ⟨a0,Int.not_lt.1 fun hh=>?_,Int.not_lt.1 fun hh=>?_⟩
 . have:=Int.mul_le_mul (show rtV k+1<=rtV n by omega) (show rtV k+1<=rtV n by omega) (by omega) a0
   omega
 . have:=Int.mul_le_mul (show (1518500250:Int)<=rtV k by omega) (show (1518500250:Int)<=rtV k by omega) (by omega) b0
   omega
theorem ak0 {p q:Int} (h:fxV p q=true) (hq:0<=q):(aC 4 [p,q]).getD 2 0=0/\fxV ((aC 4 [p,q]).getD 0 0) ((aC 4 [p,q]).getD 1 0)=true/\0<=(aC 4 [p,q]).getD 0 0:=by
 have hv:=(cZ _ _).1 h;obtain ⟨a0,a1,a2⟩:=aiF (n:=max 0 p*1073741824) (k:=q*1073741824) (by omega) (by omega) (by omega)
 have L:rtL p q=rtV (max 0 p*1073741824):=rfl;have H:rtV (q*1073741824)<=rtH p q/\rtH p q<=rtV (q*1073741824)+1:=by unfold rtH;split<;>omega
 have F:-2147483648<=rtL p q/\rtL p q<=rtH p q/\rtH p q<=2147483648:=by omega
 refine ⟨?_,(abD _ _).2.2,?_⟩
 . show oZ (rtL p q) (rtH p q)=0;unfold oZ;exact if_pos F
 . show 0<=rP (rtL p q) (rtH p q);unfold rP;split<;>omega
theorem akY {r s m:Int} (h:0<=r/\r<=s) (hm:0<m):0<=dM r s m/\dM r s m<=dI r s m:=by
 unfold dM dI qFl qCe;have h1:=Int.mul_nonneg h.1 (Int.le_of_lt hm);have h2:=Int.mul_le_mul_of_nonneg_right h.2 (Int.le_of_lt hm);generalize r*m=P at *
 generalize s*m=R at *
 omega
theorem aim {X:Cx} {v:Nat->Int} {ext:Ext} (he:gJ X ext) {l:List Nd} (hs:aA X v l.reverse) {ps:List (Nat × Rf)} (hp:∀ q∈ps,v q.1=q.2.val v) {k j:Nat} (h:Rf.eq ((norm ext ps [] l).rep (.n k)) ((norm ext ps [] l).rep (.n j))=true):v k=v j:=by
 have a:=jD (jy he hs hp az) (.n k);have b:=jD (jy he hs hp az) (.n j);rw [Rf.eq_eq h] at a;exact a.symm.trans b
theorem aiA {a b x27 x28 x29 x30 x31 x32 x33 x34 x35:Int} (e27:x27=b2i (decide (a<=b))) (e28:x28=b2i (decide (a>=(-1099511627776:Int)))) (e29:x29=b2i (decide (a<=(1099511627776:Int)))) (e30:x30=if x28≠0 then x29 else (0:Int)) (e31:x31=if x27≠0 then x30 else (0:Int)) (e32:x32=b2i (decide (b>=(-1099511627776:Int)))) (e33:x33=b2i (decide (b<=(1099511627776:Int)))) (e34:x34=if x32≠0 then x33 else (0:Int)) (e35:x35=if x31≠0 then x34 else (0:Int)):x35=b2i (cu a b):=by
 rw [e35,e31,e27,e30,e28,e29,e34,e32,e33,fE]
theorem ah9 (args:List Int):gJ (cxK args) abK:=by
 intro v t x r ht h;unfold abK at h;split at h
 . cases h;rfl
 . exact iU (akU args) v t x r ht h
def akl:List Sx.Spec:=[IW,XB,Ue,OC,FP,akL]
theorem ajB (args:List Int):∀ s∈akl,aH Try.prog (cxK args) s:=by
 intro s hs;simp only [akl,List.mem_cons,List.not_mem_nil,or_false] at hs;rcases hs with rfl|rfl|rfl|rfl|rfl|rfl
 . exact eT rfl (adC (by decide) (EY args))
 . exact eT rfl (adC (by decide) (Gp args))
 . exact eT rfl (adC (by decide) (LA args))
 . exact eT rfl (adC (by decide) (BZ args))
 . exact eT rfl (yz args)
 . refine dV rfl (ours _ _ _ Try.func158 rfl (by kernel_rfl)) fun xs hp w=>?_
   match xs,hp with
   | [a,b],hp=>exact ajm a b w hp.1 hp.2
def ah8:List Nd:=[
 .arg 0,
 .arg 1,
 .arg 2,
 .arg 3,
 .bin .leq .i64 (.n 0) (.n 1),
 .bin .geq .i64 (.n 0) (.c (-1099511627776)),
 .bin .leq .i64 (.n 0) (.c 1099511627776),
 .ite (.n 5) (.n 6) (.c 0),
 .ite (.n 4) (.n 7) (.c 0),
 .bin .geq .i64 (.n 1) (.c (-1099511627776)),
 .bin .leq .i64 (.n 1) (.c 1099511627776),
 .ite (.n 9) (.n 10) (.c 0),
 .ite (.n 8) (.n 11) (.c 0),
 .ite (.n 12) (.c 0) (.c 1),
 .bin .leq .i64 (.n 2) (.n 3),
 .bin .geq .i64 (.n 2) (.c (-1099511627776)),
 .bin .leq .i64 (.n 2) (.c 1099511627776),
 .ite (.n 15) (.n 16) (.c 0),
 .ite (.n 14) (.n 17) (.c 0),
 .bin .geq .i64 (.n 3) (.c (-1099511627776)),
 .bin .leq .i64 (.n 3) (.c 1099511627776),
 .ite (.n 19) (.n 20) (.c 0),
 .ite (.n 18) (.n 21) (.c 0),
 .ite (.n 22) (.c 0) (.c 1),
 .ite (.n 13) (.c 1) (.n 23),
 .ite (.n 24) (.c 0) (.c 1),
 .bin .sub .i64 (.c 0) (.n 0),
 .bin .sub .i64 (.c 0) (.n 2),
 .mx (.n 1) (.n 26),
 .mx (.n 28) (.n 3),
 .mx (.n 29) (.n 27),
 .bin .eql .i64 (.n 30) (.c 0),
 .ite (.n 31) (.c 0) (.c 1),
 .app 96 0 [.n 0,.n 30],
 .app 96 1 [.n 0,.n 30],
 .app 96 2 [.n 0,.n 30],
 .app 96 0 [.n 1,.n 30],
 .app 96 1 [.n 1,.n 30],
 .app 96 2 [.n 1,.n 30],
 .app 96 0 [.n 2,.n 30],
 .app 96 1 [.n 2,.n 30],
 .app 96 2 [.n 2,.n 30],
 .app 96 0 [.n 3,.n 30],
 .app 96 1 [.n 3,.n 30],
 .app 96 2 [.n 3,.n 30],
 .app 7 0 [.n 39,.n 43,.n 33,.n 37],
 .app 7 1 [.n 39,.n 43,.n 33,.n 37],
 .app 7 2 [.n 39,.n 43,.n 33,.n 37],
 .bin .neq .i64 (.n 47) (.c 0),
 .ite (.n 48) (.c 0) (.c 1),
 .app 3 0 [.n 33,.n 37],
 .app 3 1 [.n 33,.n 37],
 .app 3 2 [.n 33,.n 37],
 .app 3 0 [.n 39,.n 43],
 .app 3 1 [.n 39,.n 43],
 .app 3 2 [.n 39,.n 43],
 .app 1 0 [.n 50,.n 51,.n 53,.n 54],
 .app 1 1 [.n 50,.n 51,.n 53,.n 54],
 .app 1 2 [.n 50,.n 51,.n 53,.n 54],
 .app 4 0 [.n 56,.n 57],
 .app 4 1 [.n 56,.n 57],
 .app 4 2 [.n 56,.n 57],
 .bin .neq .i64 (.n 61) (.c 0),
 .ite (.n 62) (.c 0) (.c 1),
 .app 9 0 [.n 59,.n 60,.n 30],
 .app 9 1 [.n 59,.n 60,.n 30],
 .app 9 2 [.n 59,.n 60,.n 30],
 .bin .neq .i64 (.n 66) (.c 0),
 .bin .gtr .i64 (.n 65) (.c 1099511627776),
 .ite (.n 67) (.c 1) (.n 68),
 .ite (.n 69) (.c 0) (.c 1),
 .ite (.n 69) (.c 5) (.c 0),
 .ite (.n 69) (.c 0) (.n 45),
 .ite (.n 69) (.c 0) (.n 46),
 .ite (.n 69) (.c 0) (.n 64),
 .ite (.n 69) (.c 0) (.n 65),
 .ite (.n 62) (.n 61) (.n 71),
 .ite (.n 62) (.n 61) (.n 66),
 .ite (.n 62) (.c 0) (.n 72),
 .ite (.n 62) (.c 0) (.n 73),
 .ite (.n 62) (.c 0) (.n 74),
 .ite (.n 62) (.c 0) (.n 75),
 .ite (.n 48) (.n 47) (.n 76),
 .ite (.n 48) (.n 47) (.n 77),
 .ite (.n 48) (.c 0) (.n 78),
 .ite (.n 48) (.c 0) (.n 79),
 .ite (.n 48) (.c 0) (.n 80),
 .ite (.n 48) (.c 0) (.n 81),
 .ite (.n 31) (.c 0) (.n 82),
 .ite (.n 31) (.c 0) (.n 84),
 .ite (.n 31) (.c 21600000) (.n 85),
 .ite (.n 31) (.c 0) (.n 86),
 .ite (.n 31) (.c 0) (.n 87),
 .ite (.n 24) (.c 1) (.n 88),
 .ite (.n 24) (.c 0) (.n 89),
 .ite (.n 24) (.c 0) (.n 90),
 .ite (.n 24) (.c 0) (.n 91),
 .ite (.n 24) (.c 0) (.n 92)]
def ai1:List Vc:=[
 ⟨[(.n 32,true),(.n 25,true)],.pre 96 [.n 0,.n 30]⟩,
 ⟨[(.n 32,true),(.n 25,true)],.pre 96 [.n 1,.n 30]⟩,
 ⟨[(.n 32,true),(.n 25,true)],.pre 96 [.n 2,.n 30]⟩,
 ⟨[(.n 32,true),(.n 25,true)],.pre 96 [.n 3,.n 30]⟩,
 ⟨[(.n 32,true),(.n 25,true)],.pre 7 [.n 39,.n 43,.n 33,.n 37]⟩,
 ⟨[(.n 49,true),(.n 32,true),(.n 25,true)],.pre 3 [.n 33,.n 37]⟩,
 ⟨[(.n 49,true),(.n 32,true),(.n 25,true)],.pre 3 [.n 39,.n 43]⟩,
 ⟨[(.n 49,true),(.n 32,true),(.n 25,true)],.pre 1 [.n 50,.n 51,.n 53,.n 54]⟩,
 ⟨[(.n 49,true),(.n 32,true),(.n 25,true)],.pre 4 [.n 56,.n 57]⟩,
 ⟨[(.n 63,true),(.n 49,true),(.n 32,true),(.n 25,true)],.pre 9 [.n 59,.n 60,.n 30]⟩]
theorem ajD:whole Try.prog akl 20 40 43 [(true,[some .i64,some .i64]),(true,[some .i64,some .i64])]=some (.tup [.agg [.int .i64 (.n 94),.int .i64 (.n 95),.int .i64 (.n 96),.int .i64 (.n 97)],.c (.int .i64 (.n 93))],⟨ah8.reverse,ai1.reverse⟩):=by kernel_rfl
theorem ajE:wfN ah8.reverse=true:=by kernel_rfl
theorem ajb (a b c d:Int) (w:World):Calls Try.prog 43 #[.agg #[.int .i64 a,.int .i64 b],.agg #[.int .i64 c,.int .i64 d]] w fun e w'=>e=.returned (.tuple #[.agg #[.int .i64 ((aig a b c d).getD 0 0),.int .i64 ((aig a b c d).getD 1 0),.int .i64 ((aig a b c d).getD 2 0),.int .i64 ((aig a b c d).getD 3 0)],.int .i64 ((aig a b c d).getD 4 0)])/\Below w.heap.size w w':=by
 refine Sx.calls (X:=cxK [a,b,c,d]) dX (ajB _) ajD ajE (fun v hs=>?_) w
 have e0:v 0=a:=ae hs 0 rfl;have e1:v 1=b:=ae hs 1 rfl;have e2:v 2=c:=ae hs 2 rfl;have e3:v 3=d:=ae hs 3 rfl;have V1:v 12=b2i (cu (v 0) (v 1)):=aiA (x27:=v 4) (x28:=v 5) (x29:=v 6) (x30:=v 7) (x31:=v 8) (x32:=v 9) (x33:=v 10) (x34:=v 11) (x35:=v 12) (ae hs 4 rfl) (ae hs 5 rfl) (ae hs 6 rfl) (ae hs 7 rfl) (ae hs 8 rfl) (ae hs 9 rfl) (ae hs 10 rfl) (ae hs 11 rfl) (ae hs 12 rfl);have V2:v 22=b2i (cu (v 2) (v 3)):=aiA (x27:=v 14) (x28:=v 15) (x29:=v 16) (x30:=v 17) (x31:=v 18) (x32:=v 19) (x33:=v 20) (x34:=v 21) (x35:=v 22) (ae hs 14 rfl) (ae hs 15 rfl) (ae hs 16 rfl) (ae hs 17 rfl) (ae hs 18 rfl) (ae hs 19 rfl) (ae hs 20 rfl) (ae hs 21 rfl) (ae hs 22 rfl);rw [e0,e1] at V1;rw [e2,e3] at V2
 suffices Z:(∀ q∈ai1.reverse,q.holds (cxK [a,b,c,d]) v)/\v 93=(aig a b c d).getD 4 0/\v 94=(aig a b c d).getD 0 0/\v 95=(aig a b c d).getD 1 0/\v 96=(aig a b c d).getD 2 0/\v 97=(aig a b c d).getD 3 0 by
  refine ⟨Z.1,?_⟩;intro x hx0;have hx':=dL (v:=v) (by rfl) hx0
  rw [hx'];show Value.tuple #[.agg #[.int .i64 (v 94),.int .i64 (v 95),.int .i64 (v 96),.int .i64 (v 97)],.int .i64 (v 93)]=_;rw [Z.2.1,Z.2.2.1,Z.2.2.2.1,Z.2.2.2.2.1,Z.2.2.2.2.2]
 by_cases hv:cu a b=true/\cu c d=true
 . rw [show aig a b c d=aiI a b c d from if_pos hv]
   obtain ⟨h1,h2⟩:=hv;obtain ⟨m0,m1,ma,mc⟩:=ala h1 h2;rw [h1] at V1;rw [h2] at V2;have k12:v 12=1:=V1;have k22:v 22=1:=V2;have w26:v 26=-a:=by rw [show v 26=IntKind.i64.wrap ((0:Int)-v 0) from ae hs 26 rfl,e0,Go.IntWalk.i64_in _ (by omega)];omega
   have w27:v 27=-c:=by rw [show v 27=IntKind.i64.wrap ((0:Int)-v 2) from ae hs 27 rfl,e2,Go.IntWalk.i64_in _ (by omega)];omega
   have w30:v 30=lvM a b c d:=by
    rw [show v 30=if v 27>v 29 then v 27 else v 29 from ae hs 30 rfl,show v 29=if v 3>v 28 then v 3 else v 28 from ae hs 29 rfl,show v 28=if v 26>v 1 then v 26 else v 1 from ae hs 28 rfl,aiV,aiV,aiV,e1,e3,w26,w27];rfl
   have w31:v 31=b2i (v 30==(0:Int)):=ae hs 31 rfl
   by_cases hm:lvM a b c d=0
   . have k31:v 31=1:=by rw [w31,w30,hm];rfl
     have k32:v 32=0:=by rw [show v 32=if v 31≠0 then (0:Int) else (1:Int) from ae hs 32 rfl,if_pos (by omega)]
     rw [show aiI a b c d=[0,21600000,0,0,0] from if_pos hm]
     have z93:v 93=0:=ak (X:=cxK [a,b,c,d]) (v:=v) (l:=ah8) (ah9 _) hs (k:=93) (r:=.c 0) (ps:=[(12,.c 1),(22,.c 1),(31,.c 1)]) (nz:=[]) (aa k12 (aa k22 (aa k31 aj))) az (by kernel_rfl)
     have z94:v 94=0:=ak (X:=cxK [a,b,c,d]) (v:=v) (l:=ah8) (ah9 _) hs (k:=94) (r:=.c 0) (ps:=[(12,.c 1),(22,.c 1),(31,.c 1)]) (nz:=[]) (aa k12 (aa k22 (aa k31 aj))) az (by kernel_rfl)
     have z95:v 95=21600000:=ak (X:=cxK [a,b,c,d]) (v:=v) (l:=ah8) (ah9 _) hs (k:=95) (r:=.c 21600000) (ps:=[(12,.c 1),(22,.c 1),(31,.c 1)]) (nz:=[]) (aa k12 (aa k22 (aa k31 aj))) az (by kernel_rfl)
     have z96:v 96=0:=ak (X:=cxK [a,b,c,d]) (v:=v) (l:=ah8) (ah9 _) hs (k:=96) (r:=.c 0) (ps:=[(12,.c 1),(22,.c 1),(31,.c 1)]) (nz:=[]) (aa k12 (aa k22 (aa k31 aj))) az (by kernel_rfl)
     have z97:v 97=0:=ak (X:=cxK [a,b,c,d]) (v:=v) (l:=ah8) (ah9 _) hs (k:=97) (r:=.c 0) (ps:=[(12,.c 1),(22,.c 1),(31,.c 1)]) (nz:=[]) (aa k12 (aa k22 (aa k31 aj))) az (by kernel_rfl)
     exact ⟨bO (ag (fun hp=>absurd k32 (au hp).1) (ag (fun hp=>absurd k32 (au hp).1) (ag (fun hp=>absurd k32 (au hp).1) (ag (fun hp=>absurd k32 (au hp).1) (ag (fun hp=>absurd k32 (au hp).1) (ag (fun hp=>absurd k32 (au (au hp).2).1) (ag (fun hp=>absurd k32 (au (au hp).2).1) (ag (fun hp=>absurd k32 (au (au hp).2).1) (ag (fun hp=>absurd k32 (au (au hp).2).1) (ag (fun hp=>absurd k32 (au (au (au hp).2).2).1) (bN))))))))))),z93,z94,z95,z96,z97⟩
   . have M:0<lvM a b c d:=by omega
     have L:aiI a b c d=lvP (lvX a (lvM a b c d)) (lvY b (lvM a b c d)) (lvX c (lvM a b c d)) (lvY d (lvM a b c d)) (lvM a b c d):=if_neg hm;rw [L];have k31:v 31=0:=by rw [w31,w30,show (lvM a b c d==(0:Int))=false from by simp;omega];rfl
     have X1:=aju M ma;have X2:=aju M mc;have w33:v 33=lvX a (lvM a b c d):=by rw [show v 33=(ajg 96 [v 0,v 30]).getD 0 0 from ae hs 33 rfl,e0,w30];rfl
     have w37:v 37=lvY b (lvM a b c d):=by rw [show v 37=(ajg 96 [v 1,v 30]).getD 1 0 from ae hs 37 rfl,e1,w30];rfl
     have w39:v 39=lvX c (lvM a b c d):=by rw [show v 39=(ajg 96 [v 2,v 30]).getD 0 0 from ae hs 39 rfl,e2,w30];rfl
     have w43:v 43=lvY d (lvM a b c d):=by rw [show v 43=(ajg 96 [v 3,v 30]).getD 1 0 from ae hs 43 rfl,e3,w30];rfl
     generalize lvM a b c d=m at *
     generalize lvX a m=xl at *
     generalize lvY b m=xh at *
     generalize lvX c m=yl at *
     generalize lvY d m=yh at *
     have w50:v 50=(aC 3 [xl,xh]).getD 0 0:=by rw [show v 50=(aC 3 [v 33,v 37]).getD 0 0 from ae hs 50 rfl,w33,w37]
     have w51:v 51=(aC 3 [xl,xh]).getD 1 0:=by rw [show v 51=(aC 3 [v 33,v 37]).getD 1 0 from ae hs 51 rfl,w33,w37]
     have w53:v 53=(aC 3 [yl,yh]).getD 0 0:=by rw [show v 53=(aC 3 [v 39,v 43]).getD 0 0 from ae hs 53 rfl,w39,w43]
     have w54:v 54=(aC 3 [yl,yh]).getD 1 0:=by rw [show v 54=(aC 3 [v 39,v 43]).getD 1 0 from ae hs 54 rfl,w39,w43]
     have f56:v 56=(aC 1 [v 50,v 51,v 53,v 54]).getD 0 0:=ae hs 56 rfl;have f57:v 57=(aC 1 [v 50,v 51,v 53,v 54]).getD 1 0:=ae hs 57 rfl;have S1:=ajN xl xh;have S2:=ajN yl yh;have AD:=ak7 (p:=v 50) (q:=v 51) (r:=v 53) (s:=v 54) (by rw [w51];exact S1.2) (by rw [w54];exact S2.2)
     rw [<-f56,<-f57] at AD;have RT:=ak0 AD.1 AD.2;have f59:v 59=(aC 4 [v 56,v 57]).getD 0 0:=ae hs 59 rfl;have f60:v 60=(aC 4 [v 56,v 57]).getD 1 0:=ae hs 60 rfl;have f61:v 61=(aC 4 [v 56,v 57]).getD 2 0:=ae hs 61 rfl;rw [<-f59,<-f60,<-f61] at RT;have w59:v 59=lvR xl xh yl yh 0:=by rw [f59,f56,f57,w50,w51,w53,w54];rfl
     have w60:v 60=lvR xl xh yl yh 1:=by rw [f60,f56,f57,w50,w51,w53,w54];rfl
     have k61:=RT.1;have w64:v 64=dM (lvR xl xh yl yh 0) (lvR xl xh yl yh 1) m:=by rw [show v 64=(jE 9 [v 59,v 60,v 30]).getD 0 0 from ae hs 64 rfl,w59,w60,w30];rfl
     have w65:v 65=dI (lvR xl xh yl yh 0) (lvR xl xh yl yh 1) m:=by rw [show v 65=(jE 9 [v 59,v 60,v 30]).getD 1 0 from ae hs 65 rfl,w59,w60,w30];rfl
     have w45:v 45=aV yl yh xl xh:=by rw [show v 45=(aC 7 [v 39,v 43,v 33,v 37]).getD 0 0 from ae hs 45 rfl,w39,w43,w33,w37];rfl
     have w46:v 46=bI yl yh xl xh:=by rw [show v 46=(aC 7 [v 39,v 43,v 33,v 37]).getD 1 0 from ae hs 46 rfl,w39,w43,w33,w37];rfl
     have w68:v 68=b2i (decide (v 65>(1099511627776:Int))):=ae hs 68 rfl;refine ⟨bO (ag (fun _=>(show (0<v 30/\v 30<=1099511627776)/\-v 30<=v 0/\v 0<=v 30 by rw [w30,e0];omega)) (ag (fun _=>(show (0<v 30/\v 30<=1099511627776)/\-v 30<=v 1/\v 1<=v 30 by rw [w30,e1];omega)) (ag (fun _=>(show (0<v 30/\v 30<=1099511627776)/\-v 30<=v 2/\v 2<=v 30 by rw [w30,e2];omega)) (ag (fun _=>(show (0<v 30/\v 30<=1099511627776)/\-v 30<=v 3/\v 3<=v 30 by rw [w30,e3];omega)) (ag (fun _=>(show fxV (v 39) (v 43)=true/\fxV (v 33) (v 37)=true by rw [w39,w43,w33,w37];exact ⟨X2,X1⟩)) (ag (fun _=>(show fxV (v 33) (v 37)=true by rw [w33,w37];exact X1)) (ag (fun _=>(show fxV (v 39) (v 43)=true by rw [w39,w43];exact X2)) (ag (fun _=>(show fxV (v 50) (v 51)=true/\fxV (v 53) (v 54)=true by rw [w50,w51,w53,w54];exact ⟨S1.1,S2.1⟩)) (ag (fun _=>(show fxV (v 56) (v 57)=true/\0<=v 57 from AD)) (ag (fun _=>(show fxV (v 59) (v 60)=true/\jP (v 30)=true from ⟨RT.2.1,by rw [w30];unfold jP;simp;omega⟩)) (bN))))))))))),?_⟩
     by_cases hb:dI (lvR xl xh yl yh 0) (lvR xl xh yl yh 1) m>1099511627776
     . rw [show lvP xl xh yl yh m=[0,0,0,0,5] from if_pos hb]
       have k68:v 68=1:=by rw [w68,w65,decide_eq_true hb];rfl
       have z93:v 93=5:=ak (X:=cxK [a,b,c,d]) (v:=v) (l:=ah8) (ah9 _) hs (k:=93) (r:=.c 5) (ps:=[(12,.c 1),(22,.c 1),(31,.c 0),(61,.c 0),(68,.c 1)]) (nz:=[]) (aa k12 (aa k22 (aa k31 (aa k61 (aa k68 aj))))) az (by kernel_rfl)
       have z94:v 94=0:=ak (X:=cxK [a,b,c,d]) (v:=v) (l:=ah8) (ah9 _) hs (k:=94) (r:=.c 0) (ps:=[(12,.c 1),(22,.c 1),(31,.c 0),(61,.c 0),(68,.c 1)]) (nz:=[]) (aa k12 (aa k22 (aa k31 (aa k61 (aa k68 aj))))) az (by kernel_rfl)
       have z95:v 95=0:=ak (X:=cxK [a,b,c,d]) (v:=v) (l:=ah8) (ah9 _) hs (k:=95) (r:=.c 0) (ps:=[(12,.c 1),(22,.c 1),(31,.c 0),(61,.c 0),(68,.c 1)]) (nz:=[]) (aa k12 (aa k22 (aa k31 (aa k61 (aa k68 aj))))) az (by kernel_rfl)
       have z96:v 96=0:=ak (X:=cxK [a,b,c,d]) (v:=v) (l:=ah8) (ah9 _) hs (k:=96) (r:=.c 0) (ps:=[(12,.c 1),(22,.c 1),(31,.c 0),(61,.c 0),(68,.c 1)]) (nz:=[]) (aa k12 (aa k22 (aa k31 (aa k61 (aa k68 aj))))) az (by kernel_rfl)
       have z97:v 97=0:=ak (X:=cxK [a,b,c,d]) (v:=v) (l:=ah8) (ah9 _) hs (k:=97) (r:=.c 0) (ps:=[(12,.c 1),(22,.c 1),(31,.c 0),(61,.c 0),(68,.c 1)]) (nz:=[]) (aa k12 (aa k22 (aa k31 (aa k61 (aa k68 aj))))) az (by kernel_rfl)
       exact ⟨z93,z94,z95,z96,z97⟩
     . rw [show lvP xl xh yl yh m=[aV yl yh xl xh,bI yl yh xl xh,dM (lvR xl xh yl yh 0) (lvR xl xh yl yh 1) m,dI (lvR xl xh yl yh 0) (lvR xl xh yl yh 1) m,0] from if_neg hb]
       have k68:v 68=0:=by rw [w68,w65,decide_eq_false hb];rfl
       have z93:v 93=0:=ak (X:=cxK [a,b,c,d]) (v:=v) (l:=ah8) (ah9 _) hs (k:=93) (r:=.c 0) (ps:=[(12,.c 1),(22,.c 1),(31,.c 0),(61,.c 0),(68,.c 0)]) (nz:=[]) (aa k12 (aa k22 (aa k31 (aa k61 (aa k68 aj))))) az (by kernel_rfl)
       have z94:v 94=v 45:=aim (X:=cxK [a,b,c,d]) (v:=v) (l:=ah8) (ah9 _) hs (k:=94) (j:=45) (ps:=[(12,.c 1),(22,.c 1),(31,.c 0),(61,.c 0),(68,.c 0)]) (aa k12 (aa k22 (aa k31 (aa k61 (aa k68 aj))))) (by kernel_rfl)
       have z95:v 95=v 46:=aim (X:=cxK [a,b,c,d]) (v:=v) (l:=ah8) (ah9 _) hs (k:=95) (j:=46) (ps:=[(12,.c 1),(22,.c 1),(31,.c 0),(61,.c 0),(68,.c 0)]) (aa k12 (aa k22 (aa k31 (aa k61 (aa k68 aj))))) (by kernel_rfl)
       have z96:v 96=v 64:=aim (X:=cxK [a,b,c,d]) (v:=v) (l:=ah8) (ah9 _) hs (k:=96) (j:=64) (ps:=[(12,.c 1),(22,.c 1),(31,.c 0),(61,.c 0),(68,.c 0)]) (aa k12 (aa k22 (aa k31 (aa k61 (aa k68 aj))))) (by kernel_rfl)
       have z97:v 97=v 65:=aim (X:=cxK [a,b,c,d]) (v:=v) (l:=ah8) (ah9 _) hs (k:=97) (j:=65) (ps:=[(12,.c 1),(22,.c 1),(31,.c 0),(61,.c 0),(68,.c 0)]) (aa k12 (aa k22 (aa k31 (aa k61 (aa k68 aj))))) (by kernel_rfl)
       exact ⟨z93,z94.trans w45,z95.trans w46,z96.trans w64,z97.trans w65⟩
 . rw [show aig a b c d=[0,0,0,0,1] from if_neg hv]
   have k24:v 24=1:=by
    rw [show v 24=if v 13≠0 then (1:Int) else v 23 from ae hs 24 rfl,show v 13=if v 12≠0 then (0:Int) else (1:Int) from ae hs 13 rfl,show v 23=if v 22≠0 then (0:Int) else (1:Int) from ae hs 23 rfl,V1,V2]
    cases q1:cu a b<;>cases q2:cu c d<;>simp_all [b2i]
   have k25:v 25=0:=by rw [show v 25=if v 24≠0 then (0:Int) else (1:Int) from ae hs 25 rfl,if_pos (by omega)]
   have z93:v 93=1:=ak (X:=cxK [a,b,c,d]) (v:=v) (l:=ah8) (ah9 _) hs (k:=93) (r:=.c 1) (ps:=[(24,.c 1)]) (nz:=[]) (aa k24 aj) az (by kernel_rfl)
   have z94:v 94=0:=ak (X:=cxK [a,b,c,d]) (v:=v) (l:=ah8) (ah9 _) hs (k:=94) (r:=.c 0) (ps:=[(24,.c 1)]) (nz:=[]) (aa k24 aj) az (by kernel_rfl)
   have z95:v 95=0:=ak (X:=cxK [a,b,c,d]) (v:=v) (l:=ah8) (ah9 _) hs (k:=95) (r:=.c 0) (ps:=[(24,.c 1)]) (nz:=[]) (aa k24 aj) az (by kernel_rfl)
   have z96:v 96=0:=ak (X:=cxK [a,b,c,d]) (v:=v) (l:=ah8) (ah9 _) hs (k:=96) (r:=.c 0) (ps:=[(24,.c 1)]) (nz:=[]) (aa k24 aj) az (by kernel_rfl)
   have z97:v 97=0:=ak (X:=cxK [a,b,c,d]) (v:=v) (l:=ah8) (ah9 _) hs (k:=97) (r:=.c 0) (ps:=[(24,.c 1)]) (nz:=[]) (aa k24 aj) az (by kernel_rfl)
   exact ⟨bO (ag (fun hp=>absurd k25 (au (au hp).2).1) (ag (fun hp=>absurd k25 (au (au hp).2).1) (ag (fun hp=>absurd k25 (au (au hp).2).1) (ag (fun hp=>absurd k25 (au (au hp).2).1) (ag (fun hp=>absurd k25 (au (au hp).2).1) (ag (fun hp=>absurd k25 (au (au (au hp).2).2).1) (ag (fun hp=>absurd k25 (au (au (au hp).2).2).1) (ag (fun hp=>absurd k25 (au (au (au hp).2).2).1) (ag (fun hp=>absurd k25 (au (au (au hp).2).2).1) (ag (fun hp=>absurd k25 (au (au (au (au hp).2).2).2).1) (bN))))))))))),z93,z94,z95,z96,z97⟩
