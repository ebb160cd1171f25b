/- The program's solution by tables, as a function of numbers. -/
import Derived.Test.YtoniodlcogpdbaaGreatZLkV
import Derived.Test.YtoniodlcogpdbaaGreatZEv
set_option linter.unusedVariables false
set_option linter.unusedSimpArgs false
set_option maxRecDepth 100000
set_option maxHeartbeats 8000000
namespace Go.Proofs.YtoniodlcogpdbaaGreat
open Go.RowKit Alm Sx
theorem Vd (a b c d n:Int):(qoV a b c d n).getD 0 0<=(qoV a b c d n).getD 1 0/\((qoV a b c d n).getD 2 0=0∨(qoV a b c d n).getD 2 0=5∨(qoV a b c d n).getD 2 0=16):=by
 unfold qoV;split
 . exact ⟨Int.le_refl _,.inr (.inr rfl)⟩
 . split
   . refine ⟨?_,.inl rfl⟩;have:=PE a n c (by omega)
     show qoL a b c d n<=qoH a b c d n;unfold qoL qoH;omega
   . exact ⟨Int.le_refl _,.inr (.inl rfl)⟩
theorem abK (a b h0 h1 z0 z1 k0 k1 y0 y1:Int):0<=wrZ (wQ a b h0 h1 z0 z1 0) (wQ a b h0 h1 z0 z1 1) (wQ a b h0 h1 z0 z1 2) (wQ a b k0 k1 y0 y1 0) (wQ a b k0 k1 y0 y1 1) (wQ a b k0 k1 y0 y1 2):=by
 have q:wQ a b h0 h1 z0 z1 0<=wQ a b h0 h1 z0 z1 1:=(Vd _ _ _ _ _).1;unfold wrZ wrT;split
 . omega
 . split<;>omega
theorem vo {a b a2 b2 u:Int} (ha:a<=a2) (hb:b<=b2) (hu:0<=u/\u<=60000):atF a b u<=atC a2 b2 u:=by
 unfold atF atC;have m1:=Int.mul_le_mul_of_nonneg_right ha (show 0<=60000-u by omega)
 have m2:=Int.mul_le_mul_of_nonneg_right hb hu.1;generalize a*(60000-u)=A at *
 generalize b*u=B at *
 generalize a2*(60000-u)=C at *
 generalize b2*u=D at *
 omega
theorem uT {a b u B:Int} (ha:-B<=a/\a<=B) (hb:-B<=b/\b<=B) (hu:0<=u/\u<=60000):-B<=atF a b u/\atF a b u<=B/\-B<=atC a b u/\atC a b u<=B:=by
 unfold atF atC;have a1:=Int.mul_le_mul_of_nonneg_right ha.1 (show 0<=60000-u by omega)
 have a2:=Int.mul_le_mul_of_nonneg_right ha.2 (show 0<=60000-u by omega)
 have b1:=Int.mul_le_mul_of_nonneg_right hb.1 hu.1;have b2:=Int.mul_le_mul_of_nonneg_right hb.2 hu.1;have e:B*(60000-u)+B*u=B*60000:=by grind
 rw [Int.neg_mul] at a1 b1;generalize a*(60000-u)=A at *
 generalize b*u=D at *
 generalize B*(60000-u)=X at *
 generalize B*u=Y at *
 omega
def Ls (a0 a1 a2 a3:Int):Prop:=(-5400000<=a0/\a0<=a1/\a1<=5400000)/\(0<=a2/\a2<=21599999/\a2<=a3/\a3<=a2+21600000)
theorem Qu (x:Int):-10800000<=sgt x/\sgt x<=10800000:=by unfold sgt;split<;>omega
theorem JY {l h:Int} (k:l<=h):0<=trL l h/\trL l h<=trH l h/\trH l h<=43200000:=by unfold trL trH;split<;>omega
theorem xG {a0 a1 a2 a3 b0 b1 b2 b3 f g u v:Int} (ha:Ls a0 a1 a2 a3) (hb:Ls b0 b1 b2 b3) (hf:0<=f/\f<=60000) (hg:0<=g/\g<=10800000) (hu:0<=u/\u<=60000) (hv:0<=v/\v<=60000) :
 hrP a0 a1 a2 a3 b0 b1 b2 b3 f g u v/\(hrQ ((hrV a0 a1 a2 a3 b0 b1 b2 b3 f g u v).getD 0 0)/\hrQ ((hrV a0 a1 a2 a3 b0 b1 b2 b3 f g u v).getD 1 0)/\hrQ ((hrV a0 a1 a2 a3 b0 b1 b2 b3 f g u v).getD 2 0)/\hrQ ((hrV a0 a1 a2 a3 b0 b1 b2 b3 f g u v).getD 3 0))/\(hrV a0 a1 a2 a3 b0 b1 b2 b3 f g u v).getD 0 0<=(hrV a0 a1 a2 a3 b0 b1 b2 b3 f g u v).getD 1 0:=by
 obtain ⟨ha1,ha2⟩:=ha;obtain ⟨hb1,hb2⟩:=hb;have x1:=uT (a:=a0) (b:=b0) (B:=5400000) (by omega) (by omega) hu
 have x2:=uT (a:=a0) (b:=b0) (B:=5400000) (by omega) (by omega) hv
 have x3:=uT (a:=a1) (b:=b1) (B:=5400000) (by omega) (by omega) hu
 have x4:=uT (a:=a1) (b:=b1) (B:=5400000) (by omega) (by omega) hv
 have x5:=vo (a:=a0) (b:=b0) (a2:=a1) (b2:=b1) (by omega) (by omega) hu
 have sg:=Qu (b2-a2);have x6:=vo (a:=a2) (b:=a2+sgt (b2-a2)) (a2:=a3) (b2:=a2+sgt (b2-a2)+b3-b2) (by omega) (by omega) hu
 have HL:hrL a2 b2 u v g<=hrH a2 a3 b2 b3 u v g:=by
  unfold hrL hrH ovL ovH;generalize atF a2 (a2+sgt (b2-a2)) u=P1 at *
  generalize atF a2 (a2+sgt (b2-a2)) v=P2 at *
  generalize atC a3 (a2+sgt (b2-a2)+b3-b2) u=P3 at *
  generalize atC a3 (a2+sgt (b2-a2)+b3-b2) v=P4 at *
  omega
 have T:=JY HL;refine ⟨⟨⟨⟨by omega,by omega⟩,⟨by omega,by omega⟩,⟨by omega,by omega⟩,⟨by omega,by omega⟩⟩,⟨⟨by omega,by omega⟩,⟨by omega,by omega⟩,⟨by omega,by omega⟩,⟨by omega,by omega⟩⟩,⟨⟨by omega,by omega⟩,⟨by omega,by omega⟩⟩,hu,hv⟩,⟨?_,?_,?_,?_⟩,?_⟩
 . show hrQ (ovL a0 b0 u v f);unfold hrQ ovL;omega
 . show hrQ (ovH a1 b1 u v f);unfold hrQ ovH;omega
 . show hrQ (if hrB a2 a3 b2 b3 then trL (hrL a2 b2 u v g) (hrH a2 a3 b2 b3 u v g) else 0);unfold hrQ;split<;>omega
 . show hrQ (if hrB a2 a3 b2 b3 then trH (hrL a2 b2 u v g) (hrH a2 a3 b2 b3 u v g) else 21600000);unfold hrQ;split<;>omega
 . show ovL a0 b0 u v f<=ovH a1 b1 u v f;unfold ovL ovH;omega
def lkI (a b D K:Int) (j:Nat):Int:=(slV a b D D K K).getD j 0
def lkR (a b D n K0 K1 u0 u1:Int) (j:Nat):Int:=(hrV (lkI a b D K0 0) (lkI a b D K0 1) (lkI a b D K0 2) (lkI a b D K0 3) (lkI a b D K1 0) (lkI a b D K1 1) (lkI a b D K1 2) (lkI a b D K1 3) ((wrV a b D D n).getD 0 0) ((wrV a b D D n).getD 1 0) u0 u1).getD j 0
def lkC (a b J K u0 u1 v0 v1:Int):List Int:=dcV (lkR a b (J*60000) K (K*60000) ((K+1)*60000) u0 u1 0) (lkR a b (J*60000) K (K*60000) ((K+1)*60000) u0 u1 1) (lkR a b (J*60000) K (K*60000) ((K+1)*60000) u0 u1 2) (lkR a b (J*60000) K (K*60000) ((K+1)*60000) u0 u1 3) (lkR a b ((J+1)*60000) K (K*60000) ((K+1)*60000) u0 u1 0) (lkR a b ((J+1)*60000) K (K*60000) ((K+1)*60000) u0 u1 1) (lkR a b ((J+1)*60000) K (K*60000) ((K+1)*60000) u0 u1 2) (lkR a b ((J+1)*60000) K (K*60000) ((K+1)*60000) u0 u1 3) v0 v1
theorem gI (a b D K:Int):Ls (lkI a b D K 0) (lkI a b D K 1) (lkI a b D K 2) (lkI a b D K 3):=C8 a b D D K K
theorem ky (a b D n:Int):(0<=(wrV a b D D n).getD 0 0/\(wrV a b D D n).getD 0 0<=60000)/\(0<=(wrV a b D D n).getD 1 0/\(wrV a b D D n).getD 1 0<=10800000):=⟨ac3 (zF _ _ _ _) (zF _ _ _ _),abK _ _ _ _ _ _ _ _ _ _,acN⟩
theorem O4 (a b J K:Int) {u0 u1 v0 v1:Int} (hu:0<=u0/\u0<=60000) (hu1:0<=u1/\u1<=60000) (hv:0<=v0/\v0<=60000) (hv1:0<=v1/\v1<=60000) (D1 D2:Int):dcP (lkR a b D1 K (K*60000) ((K+1)*60000) u0 u1 0) (lkR a b D1 K (K*60000) ((K+1)*60000) u0 u1 1) (lkR a b D1 K (K*60000) ((K+1)*60000) u0 u1 2) (lkR a b D1 K (K*60000) ((K+1)*60000) u0 u1 3) (lkR a b D2 K (K*60000) ((K+1)*60000) u0 u1 0) (lkR a b D2 K (K*60000) ((K+1)*60000) u0 u1 1) (lkR a b D2 K (K*60000) ((K+1)*60000) u0 u1 2) (lkR a b D2 K (K*60000) ((K+1)*60000) u0 u1 3) v0 v1 :=
 ⟨(xG (gI a b D1 (K*60000)) (gI a b D1 ((K+1)*60000)) (ky a b D1 K).1 (ky a b D1 K).2 hu hu1).2.1,(xG (gI a b D2 (K*60000)) (gI a b D2 ((K+1)*60000)) (ky a b D2 K).1 (ky a b D2 K).2 hu hu1).2.1,(xG (gI a b D1 (K*60000)) (gI a b D1 ((K+1)*60000)) (ky a b D1 K).1 (ky a b D1 K).2 hu hu1).2.2,(xG (gI a b D2 (K*60000)) (gI a b D2 ((K+1)*60000)) (ky a b D2 K).1 (ky a b D2 K).2 hu hu1).2.2,hv,hv1⟩
theorem WF {a0 a1 a2 a3 b0 b1 b2 b3 u v:Int} (h:dcP a0 a1 a2 a3 b0 b1 b2 b3 u v):(-1000000000<=(dcV a0 a1 a2 a3 b0 b1 b2 b3 u v).getD 2 0/\(dcV a0 a1 a2 a3 b0 b1 b2 b3 u v).getD 2 0<=1000000000)/\(-1000000000<=(dcV a0 a1 a2 a3 b0 b1 b2 b3 u v).getD 3 0/\(dcV a0 a1 a2 a3 b0 b1 b2 b3 u v).getD 3 0<=1000000000):=by
 obtain ⟨⟨h0,h1,h2,h3⟩,⟨k0,k1,k2,k3⟩,_⟩:=h;unfold hrQ at h0 h1 h2 h3 k0 k1 k2 k3;unfold dcV;split
 . exact ⟨by decide,by decide⟩
 . show (-1000000000<=dcL a2 a3 b2 b3/\dcL a2 a3 b2 b3<=1000000000)/\(-1000000000<=dcH a2 a3 b2 b3/\dcH a2 a3 b2 b3<=1000000000);have W:-500000000<=dcW a2 a3 b2 b3/\dcW a2 a3 b2 b3<=500000000:=by unfold dcW cvW;split<;>omega
   unfold dcL dcH trL trH;generalize dcW a2 a3 b2 b3=w at *
   generalize dcF a2 a3 b2 b3=f at *
   constructor<;>(split;omega;split;split<;>omega;omega)
def lkF (l:List Int) (mi:Prop) [Decidable mi]:List Int:=if l.getD 4 0≠0 then [0,0,0,0,l.getD 4 0] else [l.getD 0 0,l.getD 1 0,if mi then trL (-(l.getD 3 0)) (-(l.getD 2 0)) else l.getD 2 0,if mi then trH (-(l.getD 3 0)) (-(l.getD 2 0)) else l.getD 3 0,0]
def lkJ (c:Int):Int:=min (c/60000) 89
def yE (c d:Int):Prop:=-90<=lkJ c/\0<=c-lkJ c*60000/\d-lkJ c*60000<=60000
def lkM (e f:Int):Prop:=trH e f>10800000
instance (e f:Int):Decidable (lkM e f):=by unfold lkM;infer_instance
def ol (e f:Int):Int:=if lkM e f then 21600000-trH e f else trL e f
def qC (e f:Int):Int:=if lkM e f then 21600000-trL e f else trH e f
def EU (e f:Int):Prop:=lkM e f/\(trL e f<10800000∨trH e f>21600000)
instance (e f:Int):Decidable (EU e f):=by unfold EU;infer_instance
def lkK (e f:Int):Int:=min (ol e f/60000) 179
def yG (e f:Int):Prop:=0<=lkK e f/\0<=ol e f-lkK e f*60000/\qC e f-lkK e f*60000<=60000
instance (c d:Int):Decidable (yE c d):=by unfold yE;infer_instance
instance (c d:Int):Decidable (yG c d):=by unfold yG;infer_instance
def lkV (a b c d e f:Int):List Int :=
 if a≠b∨Int.tmod a 60000≠0 then [0,0,0,0,2] else if EU e f then [0,0,0,0,24] else if yE c d/\yG e f then lkF (lkC a b (lkJ c) (lkK e f) (ol e f-lkK e f*60000) (qC e f-lkK e f*60000) (c-lkJ c*60000) (d-lkJ c*60000)) (lkM e f) else [0,0,0,0,24]
def fo (a b c d e f:Int):List Int:=if fB a b c d e f then lkV a b c d e f else [0,0,0,0,1]
def kL (f:Nat):Bool:=f==64 || f==65 || f==66
def lU:Nat->List Int->List Int
 | 64,[a,b,c,d,n]=>[(wrV a b c d n).getD 0 0,(wrV a b c d n).getD 1 0,0]
 | 65,[a0,a1,a2,a3,b0,b1,b2,b3,f,g,u,v]=>hrV a0 a1 a2 a3 b0 b1 b2 b3 f g u v
 | 66,[a0,a1,a2,a3,b0,b1,b2,b3,u,v]=>[(dcV a0 a1 a2 a3 b0 b1 b2 b3 u v).getD 0 0,(dcV a0 a1 a2 a3 b0 b1 b2 b3 u v).getD 1 0,(dcV a0 a1 a2 a3 b0 b1 b2 b3 u v).getD 2 0,(dcV a0 a1 a2 a3 b0 b1 b2 b3 u v).getD 3 0,(dcV a0 a1 a2 a3 b0 b1 b2 b3 u v).getD 4 0]
 | _,_=>[]
def adJ:Nat->List Int->Prop
 | 64,[a,b,c,d,n]=>(-5400000<=a/\a<=b/\b<=5400000)/\(-5400000<=c/\c<=d/\d<=5400000)/\(0<=n/\n<=179)
 | 65,[a0,a1,a2,a3,b0,b1,b2,b3,f,g,u,v]=>hrP a0 a1 a2 a3 b0 b1 b2 b3 f g u v
 | 66,[a0,a1,a2,a3,b0,b1,b2,b3,u,v]=>dcP a0 a1 a2 a3 b0 b1 b2 b3 u v
 | _,_=>False
def cxL (args:List Int):Cx:=(cxS args).plus kL lU adJ
theorem acY (args:List Int):Cq (cxL args):=ui (WQ args) fun f h=>by
 unfold kL;rcases h with h|rfl
 . simp;omega
 . rfl
def ab9:Sx.Spec:=⟨31,64,[(true,[some .i64,some .i64]),(true,[some .i64,some .i64]),(false,[some .i64])],[(true,[some .i64,some .i64]),(false,[some .i64])]⟩
def ace:Sx.Spec:=⟨17,65,[(true,[some .i64,some .i64,some .i64,some .i64]),(true,[some .i64,some .i64,some .i64,some .i64]),(true,[some .i64,some .i64]),(true,[some .i64,some .i64])],[(true,[some .i64,some .i64,some .i64,some .i64])]⟩
def aay:Sx.Spec:=⟨18,66,[(true,[some .i64,some .i64,some .i64,some .i64]),(true,[some .i64,some .i64,some .i64,some .i64]),(true,[some .i64,some .i64])],[(true,[some .i64,some .i64,some .i64,some .i64]),(false,[some .i64])]⟩
def Yx:List Sx.Spec:=[Ip,ab9,ace,aay]
theorem UG (args:List Int):∀ s∈Yx,aR Tryz.prog (cxL args) s:=by
 intro s hs;simp only [Yx,List.mem_cons,List.not_mem_nil,or_false] at hs;rcases hs with rfl|rfl|rfl|rfl
 . exact fO rfl (zO args)
 . refine dM rfl (ours _ _ _ Tryz.func31 rfl (by kernel_rfl)) fun xs hp w=>?_
   match xs,hp with
   | [a,b,c,d,n],hp=>exact Q6 a b c d n w hp.1 hp.2.1 hp.2.2
 . refine dM rfl (ours _ _ _ Tryz.func17 rfl (by kernel_rfl)) fun xs hp w=>?_
   match xs,hp with
   | [a0,a1,a2,a3,b0,b1,b2,b3,f,g,u,v],hp=>exact AU a0 a1 a2 a3 b0 b1 b2 b3 f g u v w hp
 . refine dM rfl (ours _ _ _ Tryz.func18 rfl (by kernel_rfl)) fun xs hp w=>?_
   match xs,hp with
   | [a0,a1,a2,a3,b0,b1,b2,b3,u,v],hp=>exact Qp a0 a1 a2 a3 b0 b1 b2 b3 u v w hp
def aaW (t:Tab):Nd->Option Rf
 | .app 53 4 [_,_,_,_,_,_]=>some (.c 0)
 | .app 64 2 [_,_,_,_,_]=>some (.c 0)
 | x=>Nb t x
theorem bF (args:List Int):jG (cxL args) aaW:=by
 intro v t x r ht h;unfold aaW at h;split at h
 . cases h;rfl
 . cases h;rfl
 . exact vB (acY args) v t x r ht h
theorem Bw {q r a b e:Int} {P Q R:Prop} [Decidable P] [Decidable Q] [Decidable R] [Decidable (P/\Q/\R)] (hx:a=b2i (decide P)) (hy:b=b2i (decide Q)) (hz:e=b2i (decide R)) (hq:q=if a≠0 then b else (0:Int)) (hr:r=if q≠0 then e else (0:Int)):r=b2i (decide (P/\Q/\R)):=by
 rw [hr,hq,hx,hy,hz]
 by_cases p1:P<;>by_cases p2:Q<;>by_cases p3:R<;>simp [p1,p2,p3,b2i]
theorem yN {x a b y c z d:Int} (hx:x=b2i (aQ a b)) (hy:y=b2i (decide (a>=(-5400000:Int)))) (hc:c=if x≠0 then y else (0:Int)) (hz:z=b2i (decide (b<=(5400000:Int)))) (hd:d=if c≠0 then z else (0:Int)):d=b2i (decide (-5400000<=a/\a<=b/\b<=5400000)):=by
 rw [hd,hc,hx,hy,hz];cases q:aQ a b
 . have:¬ (-5400000<=a/\a<=b/\b<=5400000):=fun h=>by
    rw [(aJ a b).2 (by omega)] at q;cases q
   rw [decide_eq_false this];rfl
 . have h:=(aJ a b).1 q
   by_cases p1:a>=-5400000<;>by_cases p2:b<=5400000<;>simp [p1,p2,b2i]<;>omega
theorem kE {a b x27 x28 x29 x30 x31 x32 x33 x34 x35:Int} (e27:x27=b2i (decide (a<=b))) (e28:x28=b2i (decide (a>=(-1099511627776:Int)))) (e29:x29=b2i (decide (a<=(1099511627776:Int)))) (e30:x30=if x28≠0 then x29 else (0:Int)) (e31:x31=if x27≠0 then x30 else (0:Int)) (e32:x32=b2i (decide (b>=(-1099511627776:Int)))) (e33:x33=b2i (decide (b<=(1099511627776:Int)))) (e34:x34=if x32≠0 then x33 else (0:Int)) (e35:x35=if x31≠0 then x34 else (0:Int)):x35=b2i (aQ a b):=by
 rw [e35,e31,e27,e30,e28,e29,e34,e32,e33,RL]
theorem MX {x y z q r a b c d e f:Int} (hx:x=b2i (decide (-5400000<=a/\a<=b/\b<=5400000))) (hy:y=b2i (decide (-5400000<=c/\c<=d/\d<=5400000))) (hz:z=b2i (aQ e f)) (hq:q=if x≠0 then y else (0:Int)) (hr:r=if q≠0 then z else (0:Int)):r=b2i (decide (fB a b c d e f)):=by
 have h:(decide (fB a b c d e f))=(decide (-5400000<=a/\a<=b/\b<=5400000)&&(decide (-5400000<=c/\c<=d/\d<=5400000)&&aQ e f)):=by
  unfold fB aQ;rw [Bool.eq_iff_iff];simp only [Bool.and_eq_true,decide_eq_true_eq];exact decide_eq_true_iff
 rw [h,hr,hq,hx,hy,hz];cases decide (-5400000<=a/\a<=b/\b<=5400000)<;>cases decide (-5400000<=c/\c<=d/\d<=5400000)<;>cases aQ e f<;>rfl
def bL:List Nd:=[
 .arg 0,
 .arg 1,
 .arg 2,
 .arg 3,
 .arg 4,
 .arg 5,
 .bin .leq .i64 (.n 0) (.n 1),
 .bin .geq .i64 (.n 0) (.c (-1099511627776)),
 .bin .leq .i64 (.n 0) (.c 1099511627776),
 .ite (.n 7) (.n 8) (.c 0),
 .ite (.n 6) (.n 9) (.c 0),
 .bin .geq .i64 (.n 1) (.c (-1099511627776)),
 .bin .leq .i64 (.n 1) (.c 1099511627776),
 .ite (.n 11) (.n 12) (.c 0),
 .ite (.n 10) (.n 13) (.c 0),
 .bin .geq .i64 (.n 0) (.c (-5400000)),
 .ite (.n 14) (.n 15) (.c 0),
 .bin .leq .i64 (.n 1) (.c 5400000),
 .ite (.n 16) (.n 17) (.c 0),
 .bin .leq .i64 (.n 2) (.n 3),
 .bin .geq .i64 (.n 2) (.c (-1099511627776)),
 .bin .leq .i64 (.n 2) (.c 1099511627776),
 .ite (.n 20) (.n 21) (.c 0),
 .ite (.n 19) (.n 22) (.c 0),
 .bin .geq .i64 (.n 3) (.c (-1099511627776)),
 .bin .leq .i64 (.n 3) (.c 1099511627776),
 .ite (.n 24) (.n 25) (.c 0),
 .ite (.n 23) (.n 26) (.c 0),
 .bin .geq .i64 (.n 2) (.c (-5400000)),
 .ite (.n 27) (.n 28) (.c 0),
 .bin .leq .i64 (.n 3) (.c 5400000),
 .ite (.n 29) (.n 30) (.c 0),
 .ite (.n 18) (.n 31) (.c 0),
 .bin .leq .i64 (.n 4) (.n 5),
 .bin .geq .i64 (.n 4) (.c (-1099511627776)),
 .bin .leq .i64 (.n 4) (.c 1099511627776),
 .ite (.n 34) (.n 35) (.c 0),
 .ite (.n 33) (.n 36) (.c 0),
 .bin .geq .i64 (.n 5) (.c (-1099511627776)),
 .bin .leq .i64 (.n 5) (.c 1099511627776),
 .ite (.n 38) (.n 39) (.c 0),
 .ite (.n 37) (.n 40) (.c 0),
 .ite (.n 32) (.n 41) (.c 0),
 .ite (.n 42) (.c 0) (.c 1),
 .bin .neq .i64 (.n 0) (.n 1),
 .bin .rem .i64 (.n 0) (.c 60000),
 .bin .neq .i64 (.n 45) (.c 0),
 .ite (.n 44) (.c 1) (.n 46),
 .ite (.n 47) (.c 0) (.c 1),
 .bin .quo .i64 (.n 2) (.c 60000),
 .bin .rem .i64 (.n 2) (.c 60000),
 .bin .lss .i64 (.n 50) (.c 0),
 .bin .sub .i64 (.n 49) (.c 1),
 .ite (.n 51) (.c 0) (.c 1),
 .ite (.n 51) (.n 52) (.n 49),
 .mn (.n 54) (.c 89),
 .bin .mul .i64 (.n 55) (.c 60000),
 .bin .sub .i64 (.n 2) (.n 56),
 .bin .sub .i64 (.n 3) (.n 56),
 .bin .geq .i64 (.n 55) (.c (-90)),
 .bin .geq .i64 (.n 57) (.c 0),
 .ite (.n 59) (.n 60) (.c 0),
 .bin .leq .i64 (.n 58) (.c 60000),
 .ite (.n 61) (.n 62) (.c 0),
 .bin .sub .i64 (.n 5) (.n 4),
 .bin .geq .i64 (.n 64) (.c 21600000),
 .ite (.n 65) (.c 0) (.c 1),
 .bin .rem .i64 (.n 4) (.c 21600000),
 .bin .lss .i64 (.n 67) (.c 0),
 .bin .add .i64 (.n 67) (.c 21600000),
 .ite (.n 68) (.c 0) (.c 1),
 .ite (.n 68) (.n 69) (.n 67),
 .bin .add .i64 (.n 71) (.n 5),
 .bin .sub .i64 (.n 72) (.n 4),
 .ite (.n 65) (.c 0) (.n 71),
 .ite (.n 65) (.c 21600000) (.n 73),
 .bin .gtr .i64 (.n 75) (.c 10800000),
 .bin .lss .i64 (.n 74) (.c 10800000),
 .bin .gtr .i64 (.n 75) (.c 21600000),
 .ite (.n 77) (.c 1) (.n 78),
 .ite (.n 79) (.c 0) (.c 1),
 .bin .sub .i64 (.c 21600000) (.n 75),
 .bin .sub .i64 (.c 21600000) (.n 74),
 .ite (.n 76) (.n 80) (.c 0),
 .ite (.n 76) (.n 79) (.c 0),
 .ite (.n 76) (.c 0) (.c 1),
 .ite (.n 83) (.c 1) (.n 85),
 .ite (.n 83) (.n 81) (.n 74),
 .ite (.n 83) (.n 82) (.n 75),
 .bin .quo .i64 (.n 87) (.c 60000),
 .bin .rem .i64 (.n 87) (.c 60000),
 .bin .lss .i64 (.n 90) (.c 0),
 .bin .sub .i64 (.n 89) (.c 1),
 .ite (.n 91) (.c 0) (.c 1),
 .ite (.n 91) (.n 92) (.n 89),
 .mn (.n 94) (.c 179),
 .bin .mul .i64 (.n 95) (.c 60000),
 .bin .sub .i64 (.n 87) (.n 96),
 .bin .sub .i64 (.n 88) (.n 96),
 .bin .geq .i64 (.n 95) (.c 0),
 .bin .geq .i64 (.n 97) (.c 0),
 .ite (.n 99) (.n 100) (.c 0),
 .bin .leq .i64 (.n 98) (.c 60000),
 .ite (.n 101) (.n 102) (.c 0),
 .ite (.n 63) (.c 0) (.c 1),
 .ite (.n 103) (.c 0) (.c 1),
 .ite (.n 104) (.c 1) (.n 105),
 .ite (.n 106) (.c 0) (.c 1),
 .bin .add .i64 (.n 55) (.c 0),
 .bin .mul .i64 (.n 108) (.c 60000),
 .bin .add .i64 (.n 95) (.c 0),
 .bin .mul .i64 (.n 110) (.c 60000),
 .app 53 0 [.n 0,.n 1,.n 109,.n 109,.n 111,.n 111],
 .app 53 1 [.n 0,.n 1,.n 109,.n 109,.n 111,.n 111],
 .app 53 2 [.n 0,.n 1,.n 109,.n 109,.n 111,.n 111],
 .app 53 3 [.n 0,.n 1,.n 109,.n 109,.n 111,.n 111],
 .app 53 4 [.n 0,.n 1,.n 109,.n 109,.n 111,.n 111],
 .bin .neq .i64 (.n 116) (.c 0),
 .ite (.n 117) (.c 0) (.c 1),
 .bin .add .i64 (.n 95) (.c 1),
 .bin .mul .i64 (.n 119) (.c 60000),
 .app 53 0 [.n 0,.n 1,.n 109,.n 109,.n 120,.n 120],
 .app 53 1 [.n 0,.n 1,.n 109,.n 109,.n 120,.n 120],
 .app 53 2 [.n 0,.n 1,.n 109,.n 109,.n 120,.n 120],
 .app 53 3 [.n 0,.n 1,.n 109,.n 109,.n 120,.n 120],
 .app 53 4 [.n 0,.n 1,.n 109,.n 109,.n 120,.n 120],
 .bin .neq .i64 (.n 125) (.c 0),
 .ite (.n 126) (.c 0) (.c 1),
 .ite (.n 118) (.n 126) (.c 0),
 .ite (.n 118) (.n 127) (.c 0),
 .ite (.n 117) (.c 1) (.n 128),
 .ite (.n 117) (.n 116) (.n 125),
 .ite (.n 117) (.n 112) (.n 121),
 .ite (.n 117) (.n 113) (.n 122),
 .ite (.n 117) (.n 114) (.n 123),
 .ite (.n 117) (.n 115) (.n 124),
 .ite (.n 117) (.n 110) (.n 119),
 .ite (.n 117) (.n 111) (.n 120),
 .ite (.n 117) (.n 117) (.n 126),
 .ite (.n 117) (.c 0) (.n 112),
 .ite (.n 117) (.c 0) (.n 113),
 .ite (.n 117) (.c 0) (.n 114),
 .ite (.n 117) (.c 0) (.n 115),
 .app 64 0 [.n 0,.n 1,.n 109,.n 109,.n 95],
 .app 64 1 [.n 0,.n 1,.n 109,.n 109,.n 95],
 .app 64 2 [.n 0,.n 1,.n 109,.n 109,.n 95],
 .bin .neq .i64 (.n 145) (.c 0),
 .ite (.n 146) (.c 0) (.c 1),
 .app 65 0 [.n 112,.n 113,.n 114,.n 115,.n 121,.n 122,.n 123,.n 124,.n 143,.n 144,.n 97,.n 98],
 .app 65 1 [.n 112,.n 113,.n 114,.n 115,.n 121,.n 122,.n 123,.n 124,.n 143,.n 144,.n 97,.n 98],
 .app 65 2 [.n 112,.n 113,.n 114,.n 115,.n 121,.n 122,.n 123,.n 124,.n 143,.n 144,.n 97,.n 98],
 .app 65 3 [.n 112,.n 113,.n 114,.n 115,.n 121,.n 122,.n 123,.n 124,.n 143,.n 144,.n 97,.n 98],
 .ite (.n 129) (.n 147) (.c 0),
 .ite (.n 129) (.n 146) (.c 0),
 .ite (.n 130) (.c 1) (.n 153),
 .ite (.n 130) (.n 131) (.n 145),
 .ite (.n 130) (.n 118) (.c 1),
 .ite (.n 130) (.n 131) (.n 125),
 .ite (.n 130) (.n 118) (.c 2),
 .ite (.n 130) (.n 132) (.n 121),
 .ite (.n 130) (.n 133) (.n 122),
 .ite (.n 130) (.n 134) (.n 123),
 .ite (.n 130) (.n 135) (.n 124),
 .ite (.n 130) (.n 136) (.n 119),
 .ite (.n 130) (.n 137) (.n 120),
 .ite (.n 130) (.n 138) (.n 126),
 .ite (.n 130) (.n 139) (.n 112),
 .ite (.n 130) (.n 140) (.n 113),
 .ite (.n 130) (.n 141) (.n 114),
 .ite (.n 130) (.n 142) (.n 115),
 .ite (.n 130) (.c 0) (.n 121),
 .ite (.n 130) (.c 0) (.n 122),
 .ite (.n 130) (.c 0) (.n 123),
 .ite (.n 130) (.c 0) (.n 124),
 .bin .add .i64 (.n 55) (.c 1),
 .bin .mul .i64 (.n 174) (.c 60000),
 .app 53 0 [.n 0,.n 1,.n 175,.n 175,.n 111,.n 111],
 .app 53 1 [.n 0,.n 1,.n 175,.n 175,.n 111,.n 111],
 .app 53 2 [.n 0,.n 1,.n 175,.n 175,.n 111,.n 111],
 .app 53 3 [.n 0,.n 1,.n 175,.n 175,.n 111,.n 111],
 .app 53 4 [.n 0,.n 1,.n 175,.n 175,.n 111,.n 111],
 .bin .neq .i64 (.n 180) (.c 0),
 .ite (.n 181) (.c 0) (.c 1),
 .app 53 0 [.n 0,.n 1,.n 175,.n 175,.n 120,.n 120],
 .app 53 1 [.n 0,.n 1,.n 175,.n 175,.n 120,.n 120],
 .app 53 2 [.n 0,.n 1,.n 175,.n 175,.n 120,.n 120],
 .app 53 3 [.n 0,.n 1,.n 175,.n 175,.n 120,.n 120],
 .app 53 4 [.n 0,.n 1,.n 175,.n 175,.n 120,.n 120],
 .bin .neq .i64 (.n 187) (.c 0),
 .ite (.n 188) (.c 0) (.c 1),
 .ite (.n 182) (.n 188) (.c 0),
 .ite (.n 182) (.n 189) (.c 0),
 .ite (.n 181) (.c 1) (.n 190),
 .ite (.n 181) (.n 180) (.n 187),
 .ite (.n 181) (.n 176) (.n 183),
 .ite (.n 181) (.n 177) (.n 184),
 .ite (.n 181) (.n 178) (.n 185),
 .ite (.n 181) (.n 179) (.n 186),
 .ite (.n 181) (.n 110) (.n 119),
 .ite (.n 181) (.n 111) (.n 120),
 .ite (.n 181) (.n 181) (.n 188),
 .ite (.n 181) (.n 121) (.n 176),
 .ite (.n 181) (.n 122) (.n 177),
 .ite (.n 181) (.n 123) (.n 178),
 .ite (.n 181) (.n 124) (.n 179),
 .ite (.n 181) (.c 2) (.c 1),
 .ite (.n 181) (.c 0) (.n 176),
 .ite (.n 181) (.c 0) (.n 177),
 .ite (.n 181) (.c 0) (.n 178),
 .ite (.n 181) (.c 0) (.n 179),
 .app 64 0 [.n 0,.n 1,.n 175,.n 175,.n 95],
 .app 64 1 [.n 0,.n 1,.n 175,.n 175,.n 95],
 .app 64 2 [.n 0,.n 1,.n 175,.n 175,.n 95],
 .bin .neq .i64 (.n 212) (.c 0),
 .ite (.n 213) (.c 0) (.c 1),
 .app 65 0 [.n 176,.n 177,.n 178,.n 179,.n 183,.n 184,.n 185,.n 186,.n 210,.n 211,.n 97,.n 98],
 .app 65 1 [.n 176,.n 177,.n 178,.n 179,.n 183,.n 184,.n 185,.n 186,.n 210,.n 211,.n 97,.n 98],
 .app 65 2 [.n 176,.n 177,.n 178,.n 179,.n 183,.n 184,.n 185,.n 186,.n 210,.n 211,.n 97,.n 98],
 .app 65 3 [.n 176,.n 177,.n 178,.n 179,.n 183,.n 184,.n 185,.n 186,.n 210,.n 211,.n 97,.n 98],
 .ite (.n 191) (.n 214) (.c 0),
 .ite (.n 191) (.n 213) (.c 0),
 .ite (.n 192) (.c 1) (.n 220),
 .ite (.n 192) (.n 193) (.n 212),
 .ite (.n 192) (.n 182) (.c 1),
 .ite (.n 192) (.n 193) (.n 187),
 .ite (.n 192) (.n 145) (.n 212),
 .ite (.n 192) (.n 182) (.c 2),
 .ite (.n 192) (.n 194) (.n 183),
 .ite (.n 192) (.n 195) (.n 184),
 .ite (.n 192) (.n 196) (.n 185),
 .ite (.n 192) (.n 197) (.n 186),
 .ite (.n 192) (.n 198) (.n 119),
 .ite (.n 192) (.n 199) (.n 120),
 .ite (.n 192) (.n 200) (.n 188),
 .ite (.n 192) (.n 181) (.c 1),
 .ite (.n 192) (.n 201) (.n 183),
 .ite (.n 192) (.n 202) (.n 184),
 .ite (.n 192) (.n 203) (.n 185),
 .ite (.n 192) (.n 204) (.n 186),
 .ite (.n 192) (.n 205) (.c 2),
 .ite (.n 192) (.n 143) (.n 210),
 .ite (.n 192) (.n 144) (.n 211),
 .ite (.n 192) (.n 109) (.n 175),
 .ite (.n 192) (.n 146) (.n 213),
 .ite (.n 192) (.n 206) (.n 176),
 .ite (.n 192) (.n 207) (.n 177),
 .ite (.n 192) (.n 208) (.n 178),
 .ite (.n 192) (.n 209) (.n 179),
 .ite (.n 192) (.c 0) (.n 183),
 .ite (.n 192) (.c 0) (.n 184),
 .ite (.n 192) (.c 0) (.n 185),
 .ite (.n 192) (.c 0) (.n 186),
 .ite (.n 152) (.n 221) (.c 0),
 .ite (.n 152) (.n 219) (.c 0),
 .ite (.n 154) (.c 1) (.n 252),
 .ite (.n 154) (.n 155) (.n 222),
 .ite (.n 154) (.c 0) (.c 1),
 .ite (.n 154) (.n 156) (.n 223),
 .ite (.n 154) (.n 157) (.n 224),
 .ite (.n 154) (.n 108) (.n 174),
 .ite (.n 154) (.n 109) (.n 175),
 .ite (.n 154) (.n 158) (.n 226),
 .ite (.n 154) (.n 130) (.n 192),
 .ite (.n 154) (.n 159) (.n 227),
 .ite (.n 154) (.n 160) (.n 228),
 .ite (.n 154) (.n 161) (.n 229),
 .ite (.n 154) (.n 162) (.n 230),
 .ite (.n 154) (.n 163) (.n 231),
 .ite (.n 154) (.n 164) (.n 232),
 .ite (.n 154) (.n 165) (.n 233),
 .ite (.n 154) (.n 166) (.n 112),
 .ite (.n 154) (.n 167) (.n 113),
 .ite (.n 154) (.n 168) (.n 114),
 .ite (.n 154) (.n 169) (.n 115),
 .ite (.n 154) (.n 170) (.n 121),
 .ite (.n 154) (.n 171) (.n 122),
 .ite (.n 154) (.n 172) (.n 123),
 .ite (.n 154) (.n 173) (.n 124),
 .ite (.n 154) (.c 0) (.n 148),
 .ite (.n 154) (.c 0) (.n 149),
 .ite (.n 154) (.c 0) (.n 150),
 .ite (.n 154) (.c 0) (.n 151),
 .app 66 0 [.n 148,.n 149,.n 150,.n 151,.n 215,.n 216,.n 217,.n 218,.n 57,.n 58],
 .app 66 1 [.n 148,.n 149,.n 150,.n 151,.n 215,.n 216,.n 217,.n 218,.n 57,.n 58],
 .app 66 2 [.n 148,.n 149,.n 150,.n 151,.n 215,.n 216,.n 217,.n 218,.n 57,.n 58],
 .app 66 3 [.n 148,.n 149,.n 150,.n 151,.n 215,.n 216,.n 217,.n 218,.n 57,.n 58],
 .app 66 4 [.n 148,.n 149,.n 150,.n 151,.n 215,.n 216,.n 217,.n 218,.n 57,.n 58],
 .bin .neq .i64 (.n 286) (.c 0),
 .ite (.n 287) (.c 0) (.c 1),
 .bin .sub .i64 (.c 0) (.n 285),
 .bin .sub .i64 (.c 0) (.n 284),
 .bin .sub .i64 (.n 290) (.n 289),
 .bin .geq .i64 (.n 291) (.c 21600000),
 .ite (.n 292) (.c 0) (.c 1),
 .bin .rem .i64 (.n 289) (.c 21600000),
 .bin .lss .i64 (.n 294) (.c 0),
 .bin .add .i64 (.n 294) (.c 21600000),
 .ite (.n 295) (.c 0) (.c 1),
 .ite (.n 295) (.n 296) (.n 294),
 .bin .add .i64 (.n 298) (.n 290),
 .bin .sub .i64 (.n 299) (.n 289),
 .ite (.n 292) (.c 0) (.n 298),
 .ite (.n 292) (.c 21600000) (.n 300),
 .ite (.n 76) (.n 301) (.n 284),
 .ite (.n 76) (.n 302) (.n 285),
 .ite (.n 287) (.n 286) (.c 0),
 .ite (.n 287) (.n 284) (.n 303),
 .ite (.n 287) (.n 285) (.n 304),
 .ite (.n 287) (.c 0) (.n 282),
 .ite (.n 287) (.c 0) (.n 283),
 .ite (.n 287) (.c 0) (.n 303),
 .ite (.n 287) (.c 0) (.n 304),
 .ite (.n 254) (.c 1) (.n 253),
 .ite (.n 254) (.n 255) (.n 305),
 .ite (.n 254) (.n 256) (.c 1),
 .ite (.n 254) (.n 257) (.c 1),
 .ite (.n 254) (.n 258) (.n 187),
 .ite (.n 254) (.n 256) (.c 2),
 .ite (.n 254) (.n 259) (.n 174),
 .ite (.n 254) (.n 260) (.n 175),
 .ite (.n 254) (.n 261) (.c 2),
 .ite (.n 254) (.n 262) (.c 0),
 .ite (.n 254) (.n 263) (.n 183),
 .ite (.n 254) (.n 264) (.n 184),
 .ite (.n 254) (.n 265) (.n 185),
 .ite (.n 254) (.n 266) (.n 186),
 .ite (.n 254) (.n 267) (.n 119),
 .ite (.n 254) (.n 268) (.n 120),
 .ite (.n 254) (.n 269) (.n 188),
 .ite (.n 254) (.n 270) (.n 112),
 .ite (.n 254) (.n 271) (.n 113),
 .ite (.n 254) (.n 272) (.n 114),
 .ite (.n 254) (.n 273) (.n 115),
 .ite (.n 254) (.n 274) (.n 121),
 .ite (.n 254) (.n 275) (.n 122),
 .ite (.n 254) (.n 276) (.n 123),
 .ite (.n 254) (.n 277) (.n 124),
 .ite (.n 254) (.n 278) (.n 148),
 .ite (.n 254) (.n 279) (.n 149),
 .ite (.n 254) (.n 280) (.n 150),
 .ite (.n 254) (.n 281) (.n 151),
 .ite (.n 254) (.c 0) (.n 215),
 .ite (.n 254) (.c 0) (.n 216),
 .ite (.n 254) (.c 0) (.n 217),
 .ite (.n 254) (.c 0) (.n 218),
 .ite (.n 254) (.c 0) (.n 308),
 .ite (.n 254) (.c 0) (.n 309),
 .ite (.n 254) (.c 0) (.n 310),
 .ite (.n 254) (.c 0) (.n 311),
 .ite (.n 107) (.n 312) (.c 0),
 .ite (.n 106) (.c 1) (.n 349),
 .ite (.n 106) (.c 24) (.n 313),
 .ite (.n 106) (.c 0) (.n 345),
 .ite (.n 106) (.c 0) (.n 346),
 .ite (.n 106) (.c 0) (.n 347),
 .ite (.n 106) (.c 0) (.n 348),
 .ite (.n 86) (.n 350) (.c 0),
 .ite (.n 84) (.c 1) (.n 356),
 .ite (.n 84) (.c 24) (.n 351),
 .ite (.n 84) (.n 74) (.n 87),
 .ite (.n 84) (.n 75) (.n 88),
 .ite (.n 84) (.c 0) (.n 352),
 .ite (.n 84) (.c 0) (.n 353),
 .ite (.n 84) (.c 0) (.n 354),
 .ite (.n 84) (.c 0) (.n 355),
 .ite (.n 48) (.n 357) (.c 0),
 .ite (.n 47) (.c 1) (.n 365),
 .ite (.n 47) (.c 2) (.n 358),
 .ite (.n 47) (.c 0) (.n 361),
 .ite (.n 47) (.c 0) (.n 362),
 .ite (.n 47) (.c 0) (.n 363),
 .ite (.n 47) (.c 0) (.n 364),
 .ite (.n 42) (.n 366) (.c 0),
 .ite (.n 43) (.c 1) (.n 372),
 .ite (.n 43) (.c 1) (.n 367),
 .ite (.n 43) (.c 0) (.n 368),
 .ite (.n 43) (.c 0) (.n 369),
 .ite (.n 43) (.c 0) (.n 370),
 .ite (.n 43) (.c 0) (.n 371)]
def Om:List Vc:=[
 ⟨[(.n 107,true),(.n 86,true),(.n 48,true),(.n 42,true)],.pre 53 [.n 0,.n 1,.n 109,.n 109,.n 111,.n 111]⟩,
 ⟨[(.n 118,true),(.n 107,true),(.n 86,true),(.n 48,true),(.n 42,true)],.pre 53 [.n 0,.n 1,.n 109,.n 109,.n 120,.n 120]⟩,
 ⟨[(.n 129,true),(.n 107,true),(.n 86,true),(.n 48,true),(.n 42,true)],.pre 64 [.n 0,.n 1,.n 109,.n 109,.n 95]⟩,
 ⟨[(.n 147,true),(.n 129,true),(.n 107,true),(.n 86,true),(.n 48,true),(.n 42,true)],.pre 65 [.n 112,.n 113,.n 114,.n 115,.n 121,.n 122,.n 123,.n 124,.n 143,.n 144,.n 97,.n 98]⟩,
 ⟨[(.n 152,true),(.n 107,true),(.n 86,true),(.n 48,true),(.n 42,true)],.pre 53 [.n 0,.n 1,.n 175,.n 175,.n 111,.n 111]⟩,
 ⟨[(.n 182,true),(.n 152,true),(.n 107,true),(.n 86,true),(.n 48,true),(.n 42,true)],.pre 53 [.n 0,.n 1,.n 175,.n 175,.n 120,.n 120]⟩,
 ⟨[(.n 191,true),(.n 152,true),(.n 107,true),(.n 86,true),(.n 48,true),(.n 42,true)],.pre 64 [.n 0,.n 1,.n 175,.n 175,.n 95]⟩,
 ⟨[(.n 214,true),(.n 191,true),(.n 152,true),(.n 107,true),(.n 86,true),(.n 48,true),(.n 42,true)],.pre 65 [.n 176,.n 177,.n 178,.n 179,.n 183,.n 184,.n 185,.n 186,.n 210,.n 211,.n 97,.n 98]⟩,
 ⟨[(.n 253,true),(.n 107,true),(.n 86,true),(.n 48,true),(.n 42,true)],.pre 66 [.n 148,.n 149,.n 150,.n 151,.n 215,.n 216,.n 217,.n 218,.n 57,.n 58]⟩]
theorem YK:whole Tryz.prog Yx 20 40 10 [(true,[some .i64,some .i64,some .i64,some .i64,some .i64,some .i64])]=some (.tup [.agg [.int .i64 (.n 375),.int .i64 (.n 376),.int .i64 (.n 377),.int .i64 (.n 378)],.c (.int .i64 (.n 374))],⟨bL.reverse,Om.reverse⟩):=by kernel_rfl
theorem YZ:wfN bL.reverse=true:=by kernel_rfl
theorem JO (a b c d m n:Int) (w:World):Calls Tryz.prog 10 #[.agg #[.int .i64 a,.int .i64 b,.int .i64 c,.int .i64 d,.int .i64 m,.int .i64 n]] w fun e w'=>e=.returned (.tuple #[.agg #[.int .i64 ((fo a b c d m n).getD 0 0),.int .i64 ((fo a b c d m n).getD 1 0),.int .i64 ((fo a b c d m n).getD 2 0),.int .i64 ((fo a b c d m n).getD 3 0)],.int .i64 ((fo a b c d m n).getD 4 0)])/\Below w.heap.size w w':=by
 refine Sx.calls (X:=cxL [a,b,c,d,m,n]) dP (UG _) YK YZ (fun v hs=>?_) w
 have e0:v 0=a:=aa hs 0 rfl;have e1:v 1=b:=aa hs 1 rfl;have e2:v 2=c:=aa hs 2 rfl;have e3:v 3=d:=aa hs 3 rfl;have e4:v 4=m:=aa hs 4 rfl;have e5:v 5=n:=aa hs 5 rfl
 suffices Z:(∀ q∈Om.reverse,q.holds (cxL [a,b,c,d,m,n]) v)/\v 375=(fo a b c d m n).getD 0 0/\v 376=(fo a b c d m n).getD 1 0/\v 377=(fo a b c d m n).getD 2 0/\v 378=(fo a b c d m n).getD 3 0/\v 374=(fo a b c d m n).getD 4 0 by
  refine ⟨Z.1,?_⟩;intro x hx0;have hx':=bM (v:=v) (by rfl) hx0
  rw [hx'];show Value.tuple #[.agg #[.int .i64 (v 375),.int .i64 (v 376),.int .i64 (v 377),.int .i64 (v 378)],.int .i64 (v 374)]=_;rw [Z.2.1,Z.2.2.1,Z.2.2.2.1,Z.2.2.2.2.1,Z.2.2.2.2.2]
 have V42:v 42=b2i (decide (fB (v 0) (v 1) (v 2) (v 3) (v 4) (v 5))):=MX (yN (kE (aa hs 6 rfl) (aa hs 7 rfl) (aa hs 8 rfl) (aa hs 9 rfl) (aa hs 10 rfl) (aa hs 11 rfl) (aa hs 12 rfl) (aa hs 13 rfl) (aa hs 14 rfl)) (aa hs 15 rfl) (aa hs 16 rfl) (aa hs 17 rfl) (aa hs 18 rfl)) (yN (kE (aa hs 19 rfl) (aa hs 20 rfl) (aa hs 21 rfl) (aa hs 22 rfl) (aa hs 23 rfl) (aa hs 24 rfl) (aa hs 25 rfl) (aa hs 26 rfl) (aa hs 27 rfl)) (aa hs 28 rfl) (aa hs 29 rfl) (aa hs 30 rfl) (aa hs 31 rfl)) (kE (aa hs 33 rfl) (aa hs 34 rfl) (aa hs 35 rfl) (aa hs 36 rfl) (aa hs 37 rfl) (aa hs 38 rfl) (aa hs 39 rfl) (aa hs 40 rfl) (aa hs 41 rfl)) (aa hs 32 rfl) (aa hs 42 rfl);rw [e0,e1,e2,e3,e4,e5] at V42
 by_cases hT:fB a b c d m n
 . rw [show fo a b c d m n=lkV a b c d m n from if_pos hT]
   rw [decide_eq_true hT] at V42;have k42:v 42=1:=V42;obtain ⟨⟨ha0,ha1,ha2⟩,⟨hc0,hc1,hc2⟩,⟨hm0,hm1,hm2⟩⟩:=hT;have w44:v 44=b2i (a != b):=by rw [show v 44=b2i (v 0 != v 1) from aa hs 44 rfl,e0,e1]
   have w46:v 46=b2i (Int.tmod a 60000 != 0):=by rw [show v 46=b2i (v 45 != (0:Int)) from aa hs 46 rfl,show v 45=Int.tmod (v 0) 60000 from aa hs 45 rfl,e0]
   have w47:v 47=b2i (decide (a≠b∨Int.tmod a 60000≠0)):=by
    rw [show v 47=if v 44≠0 then (1:Int) else v 46 from aa hs 47 rfl,w44,w46]
    by_cases q1:a=b<;>by_cases q2:Int.tmod a 60000=0<;>simp [q1,q2,b2i]
   unfold lkV
   by_cases hP:a≠b∨Int.tmod a 60000≠0
   . rw [if_pos hP];have k47:v 47=1:=by rw [w47,decide_eq_true hP];rfl
     have k48:v 48=0:=by rw [show v 48=if v 47≠0 then (0:Int) else (1:Int) from aa hs 48 rfl,if_pos (by omega)]
     have z375:v 375=0:=ax (X:=cxL [a,b,c,d,m,n]) (v:=v) (l:=bL) (bF _) hs (k:=375) (r:=.c 0) (ps:=[(42,.c 1),(47,.c 1)]) (nz:=[]) (ae k42 (ae k47 av)) aA (by kernel_rfl)
     have z376:v 376=0:=ax (X:=cxL [a,b,c,d,m,n]) (v:=v) (l:=bL) (bF _) hs (k:=376) (r:=.c 0) (ps:=[(42,.c 1),(47,.c 1)]) (nz:=[]) (ae k42 (ae k47 av)) aA (by kernel_rfl)
     have z377:v 377=0:=ax (X:=cxL [a,b,c,d,m,n]) (v:=v) (l:=bL) (bF _) hs (k:=377) (r:=.c 0) (ps:=[(42,.c 1),(47,.c 1)]) (nz:=[]) (ae k42 (ae k47 av)) aA (by kernel_rfl)
     have z378:v 378=0:=ax (X:=cxL [a,b,c,d,m,n]) (v:=v) (l:=bL) (bF _) hs (k:=378) (r:=.c 0) (ps:=[(42,.c 1),(47,.c 1)]) (nz:=[]) (ae k42 (ae k47 av)) aA (by kernel_rfl)
     have z374:v 374=2:=ax (X:=cxL [a,b,c,d,m,n]) (v:=v) (l:=bL) (bF _) hs (k:=374) (r:=.c 2) (ps:=[(42,.c 1),(47,.c 1)]) (nz:=[]) (ae k42 (ae k47 av)) aA (by kernel_rfl)
     exact ⟨bB (ag (fun hp=>absurd k48 (aj (aj (aj hp).2).2).1) (ag (fun hp=>absurd k48 (aj (aj (aj (aj hp).2).2).2).1) (ag (fun hp=>absurd k48 (aj (aj (aj (aj hp).2).2).2).1) (ag (fun hp=>absurd k48 (aj (aj (aj (aj (aj hp).2).2).2).2).1) (ag (fun hp=>absurd k48 (aj (aj (aj (aj hp).2).2).2).1) (ag (fun hp=>absurd k48 (aj (aj (aj (aj (aj hp).2).2).2).2).1) (ag (fun hp=>absurd k48 (aj (aj (aj (aj (aj hp).2).2).2).2).1) (ag (fun hp=>absurd k48 (aj (aj (aj (aj (aj (aj hp).2).2).2).2).2).1) (ag (fun hp=>absurd k48 (aj (aj (aj (aj hp).2).2).2).1) (bu)))))))))),z375,z376,z377,z378,z374⟩
   . rw [if_neg hP];have k47:v 47=0:=by rw [w47,decide_eq_false hP];rfl
     have w65:v 65=b2i (decide (n-m>=21600000)):=by rw [show v 65=b2i (decide (v 64>=(21600000:Int))) from aa hs 65 rfl,show v 64=IntKind.i64.wrap (v 5-v 4) from aa hs 64 rfl,e4,e5,Go.IntWalk.i64_in _ (by omega)]
     have w71:v 71=m%21600000:=by rw [<-e4];exact gN (x:=v 4) (r:=v 67) (c:=v 68) (s:=v 69) (by omega) (aa hs 67 rfl) (aa hs 68 rfl) (aa hs 69 rfl) (aa hs 71 rfl)
     have w73:v 73=m%21600000+(n-m):=by
      have q:v 72=m%21600000+n:=by rw [show v 72=IntKind.i64.wrap (v 71+v 5) from aa hs 72 rfl,w71,e5,Go.IntWalk.i64_in _ (by omega)]
      rw [show v 73=IntKind.i64.wrap (v 72-v 4) from aa hs 73 rfl,q,e4,Go.IntWalk.i64_in _ (by omega)];omega
     have w74:v 74=trL m n:=by
      have q:v 74=if n-m>=21600000 then 0 else v 71:=kif w65 (aa hs 74 rfl)
      rw [q,w71];rfl
     have w75:v 75=trH m n:=by
      have q:v 75=if n-m>=21600000 then 21600000 else v 73:=kif w65 (aa hs 75 rfl)
      rw [q,w73];rfl
     have TB:=JY hm1;have w76:v 76=b2i (decide (lkM m n)):=by rw [show v 76=b2i (decide (v 75>(10800000:Int))) from aa hs 76 rfl,w75];rfl
     have w79:v 79=b2i (decide (trL m n<10800000∨trH m n>21600000)):=by
      rw [show v 79=if v 77≠0 then (1:Int) else v 78 from aa hs 79 rfl,show v 77=b2i (decide (v 74<(10800000:Int))) from aa hs 77 rfl,show v 78=b2i (decide (v 75>(21600000:Int))) from aa hs 78 rfl,w74,w75]
      by_cases q1:trL m n<10800000<;>by_cases q2:trH m n>21600000<;>simp [q1,q2,b2i]
     have w84:v 84=b2i (decide (EU m n)):=by
      rw [show v 84=if v 76≠0 then v 79 else (0:Int) from aa hs 84 rfl,w76,w79]
      unfold EU
      by_cases q1:lkM m n<;>by_cases q2:(trL m n<10800000∨trH m n>21600000)<;>simp [q1,q2,b2i]
     have f83:v 83=if v 76≠0 then v 80 else (0:Int):=aa hs 83 rfl
     have f80:v 80=if v 79≠0 then (0:Int) else (1:Int):=aa hs 80 rfl
     have f85:v 85=if v 76≠0 then (0:Int) else (1:Int):=aa hs 85 rfl
     have f86:v 86=if v 83≠0 then (1:Int) else v 85:=aa hs 86 rfl
     by_cases hN:EU m n
     . rw [if_pos hN];have k84:v 84=1:=by rw [w84,decide_eq_true hN];rfl
       have k86:v 86=0:=by
        rw [f86,f83,f80,f85,w76,w79,decide_eq_true hN.1,decide_eq_true hN.2];rfl
       have z375:v 375=0:=ax (X:=cxL [a,b,c,d,m,n]) (v:=v) (l:=bL) (bF _) hs (k:=375) (r:=.c 0) (ps:=[(42,.c 1),(47,.c 0),(84,.c 1)]) (nz:=[]) (ae k42 (ae k47 (ae k84 av))) aA (by kernel_rfl)
       have z376:v 376=0:=ax (X:=cxL [a,b,c,d,m,n]) (v:=v) (l:=bL) (bF _) hs (k:=376) (r:=.c 0) (ps:=[(42,.c 1),(47,.c 0),(84,.c 1)]) (nz:=[]) (ae k42 (ae k47 (ae k84 av))) aA (by kernel_rfl)
       have z377:v 377=0:=ax (X:=cxL [a,b,c,d,m,n]) (v:=v) (l:=bL) (bF _) hs (k:=377) (r:=.c 0) (ps:=[(42,.c 1),(47,.c 0),(84,.c 1)]) (nz:=[]) (ae k42 (ae k47 (ae k84 av))) aA (by kernel_rfl)
       have z378:v 378=0:=ax (X:=cxL [a,b,c,d,m,n]) (v:=v) (l:=bL) (bF _) hs (k:=378) (r:=.c 0) (ps:=[(42,.c 1),(47,.c 0),(84,.c 1)]) (nz:=[]) (ae k42 (ae k47 (ae k84 av))) aA (by kernel_rfl)
       have z374:v 374=24:=ax (X:=cxL [a,b,c,d,m,n]) (v:=v) (l:=bL) (bF _) hs (k:=374) (r:=.c 24) (ps:=[(42,.c 1),(47,.c 0),(84,.c 1)]) (nz:=[]) (ae k42 (ae k47 (ae k84 av))) aA (by kernel_rfl)
       exact ⟨bB (ag (fun hp=>absurd k86 (aj (aj hp).2).1) (ag (fun hp=>absurd k86 (aj (aj (aj hp).2).2).1) (ag (fun hp=>absurd k86 (aj (aj (aj hp).2).2).1) (ag (fun hp=>absurd k86 (aj (aj (aj (aj hp).2).2).2).1) (ag (fun hp=>absurd k86 (aj (aj (aj hp).2).2).1) (ag (fun hp=>absurd k86 (aj (aj (aj (aj hp).2).2).2).1) (ag (fun hp=>absurd k86 (aj (aj (aj (aj hp).2).2).2).1) (ag (fun hp=>absurd k86 (aj (aj (aj (aj (aj hp).2).2).2).2).1) (ag (fun hp=>absurd k86 (aj (aj (aj hp).2).2).1) (bu)))))))))),z375,z376,z377,z378,z374⟩
     . rw [if_neg hN];have k84:v 84=0:=by rw [w84,decide_eq_false hN];rfl
       have w83:v 83=b2i (decide (lkM m n)):=by
        rw [f83,f80,w76,w79];unfold EU at hN
        by_cases q1:lkM m n
        . have q2:¬ (trL m n<10800000∨trH m n>21600000):=fun h=>hN ⟨q1,h⟩
          simp [q1,q2,b2i]
        . simp [q1,b2i]
       have w81:v 81=21600000-trH m n:=by rw [show v 81=IntKind.i64.wrap ((21600000:Int)-v 75) from aa hs 81 rfl,w75,Go.IntWalk.i64_in _ (by omega)]
       have w82:v 82=21600000-trL m n:=by rw [show v 82=IntKind.i64.wrap ((21600000:Int)-v 74) from aa hs 82 rfl,w74,Go.IntWalk.i64_in _ (by omega)]
       have w87:v 87=ol m n:=by
        have q:v 87=if lkM m n then v 81 else v 74:=kif w83 (aa hs 87 rfl)
        rw [q,w81,w74];rfl
       have w88:v 88=qC m n:=by
        have q:v 88=if lkM m n then v 82 else v 75:=kif w83 (aa hs 88 rfl)
        rw [q,w82,w75];rfl
       have MB:(-50000000<=ol m n/\ol m n<=50000000)/\(-50000000<=qC m n/\qC m n<=50000000)/\ol m n<=qC m n:=by
        unfold ol qC;split<;>omega
       have w54:v 54=c/60000:=by rw [<-e2];exact fK (x:=v 2) (m:=60000) (q:=v 49) (r:=v 50) (c:=v 51) (s:=v 52) (z:=v 54) (by omega) (by omega) (aa hs 49 rfl) (aa hs 50 rfl) (aa hs 51 rfl) (aa hs 52 rfl) (aa hs 54 rfl)
       have w55:v 55=lkJ c:=by
        have q:v 55=min (v 54) 89:=iI (aa hs 55 rfl);rw [q,w54];rfl
       have JB:-91<=lkJ c/\lkJ c<=89:=by unfold lkJ;omega
       have w56:v 56=lkJ c*60000:=by rw [show v 56=IntKind.i64.wrap (v 55*(60000:Int)) from aa hs 56 rfl,w55,Go.IntWalk.i64_in _ (by omega)]
       have w57:v 57=c-lkJ c*60000:=by rw [show v 57=IntKind.i64.wrap (v 2-v 56) from aa hs 57 rfl,w56,e2,Go.IntWalk.i64_in _ (by omega)]
       have w58:v 58=d-lkJ c*60000:=by rw [show v 58=IntKind.i64.wrap (v 3-v 56) from aa hs 58 rfl,w56,e3,Go.IntWalk.i64_in _ (by omega)]
       have w63:v 63=b2i (decide (yE c d)):=Eq.trans (Bw (P:=-90<=lkJ c) (Q:=0<=c-lkJ c*60000) (R:=d-lkJ c*60000<=60000) (a:=v 59) (b:=v 60) (e:=v 62) (q:=v 61) (r:=v 63) (by rw [show v 59=b2i (decide (v 55>=(-90:Int))) from aa hs 59 rfl,w55]) (by rw [show v 60=b2i (decide (v 57>=(0:Int))) from aa hs 60 rfl,w57]) (by rw [show v 62=b2i (decide (v 58<=(60000:Int))) from aa hs 62 rfl,w58]) (aa hs 61 rfl) (aa hs 63 rfl)) (congrArg b2i (decide_eq_decide.2 Iff.rfl))
       have w94:v 94=ol m n/60000:=by rw [<-w87];exact fK (x:=v 87) (m:=60000) (q:=v 89) (r:=v 90) (c:=v 91) (s:=v 92) (z:=v 94) (by omega) (by omega) (aa hs 89 rfl) (aa hs 90 rfl) (aa hs 91 rfl) (aa hs 92 rfl) (aa hs 94 rfl)
       have w95:v 95=lkK m n:=by
        have q:v 95=min (v 94) 179:=iI (aa hs 95 rfl);rw [q,w94];rfl
       have KB:-1000<=lkK m n/\lkK m n<=179:=by unfold lkK;omega
       have w96:v 96=lkK m n*60000:=by rw [show v 96=IntKind.i64.wrap (v 95*(60000:Int)) from aa hs 96 rfl,w95,Go.IntWalk.i64_in _ (by omega)]
       have w97:v 97=ol m n-lkK m n*60000:=by rw [show v 97=IntKind.i64.wrap (v 87-v 96) from aa hs 97 rfl,w87,w96,Go.IntWalk.i64_in _ (by omega)]
       have w98:v 98=qC m n-lkK m n*60000:=by rw [show v 98=IntKind.i64.wrap (v 88-v 96) from aa hs 98 rfl,w88,w96,Go.IntWalk.i64_in _ (by omega)]
       have w103:v 103=b2i (decide (yG m n)):=Eq.trans (Bw (P:=0<=lkK m n) (Q:=0<=ol m n-lkK m n*60000) (R:=qC m n-lkK m n*60000<=60000) (a:=v 99) (b:=v 100) (e:=v 102) (q:=v 101) (r:=v 103) (by rw [show v 99=b2i (decide (v 95>=(0:Int))) from aa hs 99 rfl,w95]) (by rw [show v 100=b2i (decide (v 97>=(0:Int))) from aa hs 100 rfl,w97]) (by rw [show v 102=b2i (decide (v 98<=(60000:Int))) from aa hs 102 rfl,w98]) (aa hs 101 rfl) (aa hs 103 rfl)) (congrArg b2i (decide_eq_decide.2 Iff.rfl))
       have w106:v 106=b2i (decide (¬ (yE c d/\yG m n))):=by
        rw [show v 106=if v 104≠0 then (1:Int) else v 105 from aa hs 106 rfl,show v 104=if v 63≠0 then (0:Int) else (1:Int) from aa hs 104 rfl,show v 105=if v 103≠0 then (0:Int) else (1:Int) from aa hs 105 rfl,w63,w103]
        by_cases q1:yE c d<;>by_cases q2:yG m n<;>simp [q1,q2,b2i]
       by_cases hO:yE c d/\yG m n
       . rw [if_pos hO];have k106:v 106=0:=by rw [w106,decide_eq_false (fun h=>h hO)];rfl
         obtain ⟨⟨j1,j2,j3⟩,⟨k1,k2,k3⟩⟩:=hO;generalize hJ:lkJ c=J at *
         generalize hK:lkK m n=K at *
         generalize hM0:ol m n=M0 at *
         generalize hM1:qC m n=M1 at *
         have w109:v 109=(J+0)*60000:=by have q:v 108=J+0:=(by rw [show v 108=IntKind.i64.wrap (v 55+(0:Int)) from aa hs 108 rfl,w55,Go.IntWalk.i64_in _ (by omega)]);rw [show v 109=IntKind.i64.wrap (v 108*(60000:Int)) from aa hs 109 rfl,q,Go.IntWalk.i64_in _ (by omega)]
         have w175:v 175=(J+1)*60000:=by have q:v 174=J+1:=(by rw [show v 174=IntKind.i64.wrap (v 55+(1:Int)) from aa hs 174 rfl,w55,Go.IntWalk.i64_in _ (by omega)]);rw [show v 175=IntKind.i64.wrap (v 174*(60000:Int)) from aa hs 175 rfl,q,Go.IntWalk.i64_in _ (by omega)]
         have w111:v 111=(K+0)*60000:=by have q:v 110=K+0:=(by rw [show v 110=IntKind.i64.wrap (v 95+(0:Int)) from aa hs 110 rfl,w95,Go.IntWalk.i64_in _ (by omega)]);rw [show v 111=IntKind.i64.wrap (v 110*(60000:Int)) from aa hs 111 rfl,q,Go.IntWalk.i64_in _ (by omega)]
         have w120:v 120=(K+1)*60000:=by have q:v 119=K+1:=(by rw [show v 119=IntKind.i64.wrap (v 95+(1:Int)) from aa hs 119 rfl,w95,Go.IntWalk.i64_in _ (by omega)]);rw [show v 120=IntKind.i64.wrap (v 119*(60000:Int)) from aa hs 120 rfl,q,Go.IntWalk.i64_in _ (by omega)]
         rw [Int.add_zero] at w109 w111;have w112:v 112=lkI a b (J*60000) (K*60000) 0:=by rw [show v 112=(fD 53 [v 0,v 1,v 109,v 109,v 111,v 111]).getD 0 0 from aa hs 112 rfl,e0,e1,w109,w111];rfl
         have w113:v 113=lkI a b (J*60000) (K*60000) 1:=by rw [show v 113=(fD 53 [v 0,v 1,v 109,v 109,v 111,v 111]).getD 1 0 from aa hs 113 rfl,e0,e1,w109,w111];rfl
         have w114:v 114=lkI a b (J*60000) (K*60000) 2:=by rw [show v 114=(fD 53 [v 0,v 1,v 109,v 109,v 111,v 111]).getD 2 0 from aa hs 114 rfl,e0,e1,w109,w111];rfl
         have w115:v 115=lkI a b (J*60000) (K*60000) 3:=by rw [show v 115=(fD 53 [v 0,v 1,v 109,v 109,v 111,v 111]).getD 3 0 from aa hs 115 rfl,e0,e1,w109,w111];rfl
         have w121:v 121=lkI a b (J*60000) ((K+1)*60000) 0:=by rw [show v 121=(fD 53 [v 0,v 1,v 109,v 109,v 120,v 120]).getD 0 0 from aa hs 121 rfl,e0,e1,w109,w120];rfl
         have w122:v 122=lkI a b (J*60000) ((K+1)*60000) 1:=by rw [show v 122=(fD 53 [v 0,v 1,v 109,v 109,v 120,v 120]).getD 1 0 from aa hs 122 rfl,e0,e1,w109,w120];rfl
         have w123:v 123=lkI a b (J*60000) ((K+1)*60000) 2:=by rw [show v 123=(fD 53 [v 0,v 1,v 109,v 109,v 120,v 120]).getD 2 0 from aa hs 123 rfl,e0,e1,w109,w120];rfl
         have w124:v 124=lkI a b (J*60000) ((K+1)*60000) 3:=by rw [show v 124=(fD 53 [v 0,v 1,v 109,v 109,v 120,v 120]).getD 3 0 from aa hs 124 rfl,e0,e1,w109,w120];rfl
         have w176:v 176=lkI a b ((J+1)*60000) (K*60000) 0:=by rw [show v 176=(fD 53 [v 0,v 1,v 175,v 175,v 111,v 111]).getD 0 0 from aa hs 176 rfl,e0,e1,w175,w111];rfl
         have w177:v 177=lkI a b ((J+1)*60000) (K*60000) 1:=by rw [show v 177=(fD 53 [v 0,v 1,v 175,v 175,v 111,v 111]).getD 1 0 from aa hs 177 rfl,e0,e1,w175,w111];rfl
         have w178:v 178=lkI a b ((J+1)*60000) (K*60000) 2:=by rw [show v 178=(fD 53 [v 0,v 1,v 175,v 175,v 111,v 111]).getD 2 0 from aa hs 178 rfl,e0,e1,w175,w111];rfl
         have w179:v 179=lkI a b ((J+1)*60000) (K*60000) 3:=by rw [show v 179=(fD 53 [v 0,v 1,v 175,v 175,v 111,v 111]).getD 3 0 from aa hs 179 rfl,e0,e1,w175,w111];rfl
         have w183:v 183=lkI a b ((J+1)*60000) ((K+1)*60000) 0:=by rw [show v 183=(fD 53 [v 0,v 1,v 175,v 175,v 120,v 120]).getD 0 0 from aa hs 183 rfl,e0,e1,w175,w120];rfl
         have w184:v 184=lkI a b ((J+1)*60000) ((K+1)*60000) 1:=by rw [show v 184=(fD 53 [v 0,v 1,v 175,v 175,v 120,v 120]).getD 1 0 from aa hs 184 rfl,e0,e1,w175,w120];rfl
         have w185:v 185=lkI a b ((J+1)*60000) ((K+1)*60000) 2:=by rw [show v 185=(fD 53 [v 0,v 1,v 175,v 175,v 120,v 120]).getD 2 0 from aa hs 185 rfl,e0,e1,w175,w120];rfl
         have w186:v 186=lkI a b ((J+1)*60000) ((K+1)*60000) 3:=by rw [show v 186=(fD 53 [v 0,v 1,v 175,v 175,v 120,v 120]).getD 3 0 from aa hs 186 rfl,e0,e1,w175,w120];rfl
         have w143:v 143=(wrV a b (J*60000) (J*60000) K).getD 0 0:=by rw [show v 143=(lU 64 [v 0,v 1,v 109,v 109,v 95]).getD 0 0 from aa hs 143 rfl,e0,e1,w109,w95];rfl
         have w144:v 144=(wrV a b (J*60000) (J*60000) K).getD 1 0:=by rw [show v 144=(lU 64 [v 0,v 1,v 109,v 109,v 95]).getD 1 0 from aa hs 144 rfl,e0,e1,w109,w95];rfl
         have w210:v 210=(wrV a b ((J+1)*60000) ((J+1)*60000) K).getD 0 0:=by rw [show v 210=(lU 64 [v 0,v 1,v 175,v 175,v 95]).getD 0 0 from aa hs 210 rfl,e0,e1,w175,w95];rfl
         have w211:v 211=(wrV a b ((J+1)*60000) ((J+1)*60000) K).getD 1 0:=by rw [show v 211=(lU 64 [v 0,v 1,v 175,v 175,v 95]).getD 1 0 from aa hs 211 rfl,e0,e1,w175,w95];rfl
         have w148:v 148=lkR a b (J*60000) K (K*60000) ((K+1)*60000) (M0-K*60000) (M1-K*60000) 0:=by rw [show v 148=(lU 65 [v 112,v 113,v 114,v 115,v 121,v 122,v 123,v 124,v 143,v 144,v 97,v 98]).getD 0 0 from aa hs 148 rfl,w112,w113,w114,w115,w121,w122,w123,w124,w143,w144,w97,w98];rfl
         have w149:v 149=lkR a b (J*60000) K (K*60000) ((K+1)*60000) (M0-K*60000) (M1-K*60000) 1:=by rw [show v 149=(lU 65 [v 112,v 113,v 114,v 115,v 121,v 122,v 123,v 124,v 143,v 144,v 97,v 98]).getD 1 0 from aa hs 149 rfl,w112,w113,w114,w115,w121,w122,w123,w124,w143,w144,w97,w98];rfl
         have w150:v 150=lkR a b (J*60000) K (K*60000) ((K+1)*60000) (M0-K*60000) (M1-K*60000) 2:=by rw [show v 150=(lU 65 [v 112,v 113,v 114,v 115,v 121,v 122,v 123,v 124,v 143,v 144,v 97,v 98]).getD 2 0 from aa hs 150 rfl,w112,w113,w114,w115,w121,w122,w123,w124,w143,w144,w97,w98];rfl
         have w151:v 151=lkR a b (J*60000) K (K*60000) ((K+1)*60000) (M0-K*60000) (M1-K*60000) 3:=by rw [show v 151=(lU 65 [v 112,v 113,v 114,v 115,v 121,v 122,v 123,v 124,v 143,v 144,v 97,v 98]).getD 3 0 from aa hs 151 rfl,w112,w113,w114,w115,w121,w122,w123,w124,w143,w144,w97,w98];rfl
         have w215:v 215=lkR a b ((J+1)*60000) K (K*60000) ((K+1)*60000) (M0-K*60000) (M1-K*60000) 0:=by rw [show v 215=(lU 65 [v 176,v 177,v 178,v 179,v 183,v 184,v 185,v 186,v 210,v 211,v 97,v 98]).getD 0 0 from aa hs 215 rfl,w176,w177,w178,w179,w183,w184,w185,w186,w210,w211,w97,w98];rfl
         have w216:v 216=lkR a b ((J+1)*60000) K (K*60000) ((K+1)*60000) (M0-K*60000) (M1-K*60000) 1:=by rw [show v 216=(lU 65 [v 176,v 177,v 178,v 179,v 183,v 184,v 185,v 186,v 210,v 211,v 97,v 98]).getD 1 0 from aa hs 216 rfl,w176,w177,w178,w179,w183,w184,w185,w186,w210,w211,w97,w98];rfl
         have w217:v 217=lkR a b ((J+1)*60000) K (K*60000) ((K+1)*60000) (M0-K*60000) (M1-K*60000) 2:=by rw [show v 217=(lU 65 [v 176,v 177,v 178,v 179,v 183,v 184,v 185,v 186,v 210,v 211,v 97,v 98]).getD 2 0 from aa hs 217 rfl,w176,w177,w178,w179,w183,w184,w185,w186,w210,w211,w97,w98];rfl
         have w218:v 218=lkR a b ((J+1)*60000) K (K*60000) ((K+1)*60000) (M0-K*60000) (M1-K*60000) 3:=by rw [show v 218=(lU 65 [v 176,v 177,v 178,v 179,v 183,v 184,v 185,v 186,v 210,v 211,v 97,v 98]).getD 3 0 from aa hs 218 rfl,w176,w177,w178,w179,w183,w184,w185,w186,w210,w211,w97,w98];rfl
         have w282:v 282=(lkC a b J K (M0-K*60000) (M1-K*60000) (c-J*60000) (d-J*60000)).getD 0 0:=by rw [show v 282=(lU 66 [v 148,v 149,v 150,v 151,v 215,v 216,v 217,v 218,v 57,v 58]).getD 0 0 from aa hs 282 rfl,w148,w149,w150,w151,w215,w216,w217,w218,w57,w58];rfl
         have w283:v 283=(lkC a b J K (M0-K*60000) (M1-K*60000) (c-J*60000) (d-J*60000)).getD 1 0:=by rw [show v 283=(lU 66 [v 148,v 149,v 150,v 151,v 215,v 216,v 217,v 218,v 57,v 58]).getD 1 0 from aa hs 283 rfl,w148,w149,w150,w151,w215,w216,w217,w218,w57,w58];rfl
         have w284:v 284=(lkC a b J K (M0-K*60000) (M1-K*60000) (c-J*60000) (d-J*60000)).getD 2 0:=by rw [show v 284=(lU 66 [v 148,v 149,v 150,v 151,v 215,v 216,v 217,v 218,v 57,v 58]).getD 2 0 from aa hs 284 rfl,w148,w149,w150,w151,w215,w216,w217,w218,w57,w58];rfl
         have w285:v 285=(lkC a b J K (M0-K*60000) (M1-K*60000) (c-J*60000) (d-J*60000)).getD 3 0:=by rw [show v 285=(lU 66 [v 148,v 149,v 150,v 151,v 215,v 216,v 217,v 218,v 57,v 58]).getD 3 0 from aa hs 285 rfl,w148,w149,w150,w151,w215,w216,w217,w218,w57,w58];rfl
         have w286:v 286=(lkC a b J K (M0-K*60000) (M1-K*60000) (c-J*60000) (d-J*60000)).getD 4 0:=by rw [show v 286=(lU 66 [v 148,v 149,v 150,v 151,v 215,v 216,v 217,v 218,v 57,v 58]).getD 4 0 from aa hs 286 rfl,w148,w149,w150,w151,w215,w216,w217,w218,w57,w58];rfl
         refine ⟨bB (ag (fun _=>(show fB (v 0) (v 1) (v 109) (v 109) (v 111) (v 111) by rw [e0,e1,w109,w111];exact ⟨⟨ha0,ha1,ha2⟩,⟨by omega,by omega,by omega⟩,⟨by omega,by omega,by omega⟩⟩)) (ag (fun _=>(show fB (v 0) (v 1) (v 109) (v 109) (v 120) (v 120) by rw [e0,e1,w109,w120];exact ⟨⟨ha0,ha1,ha2⟩,⟨by omega,by omega,by omega⟩,⟨by omega,by omega,by omega⟩⟩)) (ag (fun _=>(show (-5400000<=v 0/\v 0<=v 1/\v 1<=5400000)/\(-5400000<=v 109/\v 109<=v 109/\v 109<=5400000)/\(0<=v 95/\v 95<=179) by rw [e0,e1,w109,w95];exact ⟨⟨ha0,ha1,ha2⟩,⟨by omega,by omega,by omega⟩,⟨by omega,by omega⟩⟩)) (ag (fun _=>(show hrP (v 112) (v 113) (v 114) (v 115) (v 121) (v 122) (v 123) (v 124) (v 143) (v 144) (v 97) (v 98) by rw [w112,w113,w114,w115,w121,w122,w123,w124,w143,w144,w97,w98];exact (xG (gI _ _ _ _) (gI _ _ _ _) (ky _ _ _ _).1 (ky _ _ _ _).2 (by omega) (by omega)).1)) (ag (fun _=>(show fB (v 0) (v 1) (v 175) (v 175) (v 111) (v 111) by rw [e0,e1,w175,w111];exact ⟨⟨ha0,ha1,ha2⟩,⟨by omega,by omega,by omega⟩,⟨by omega,by omega,by omega⟩⟩)) (ag (fun _=>(show fB (v 0) (v 1) (v 175) (v 175) (v 120) (v 120) by rw [e0,e1,w175,w120];exact ⟨⟨ha0,ha1,ha2⟩,⟨by omega,by omega,by omega⟩,⟨by omega,by omega,by omega⟩⟩)) (ag (fun _=>(show (-5400000<=v 0/\v 0<=v 1/\v 1<=5400000)/\(-5400000<=v 175/\v 175<=v 175/\v 175<=5400000)/\(0<=v 95/\v 95<=179) by rw [e0,e1,w175,w95];exact ⟨⟨ha0,ha1,ha2⟩,⟨by omega,by omega,by omega⟩,⟨by omega,by omega⟩⟩)) (ag (fun _=>(show hrP (v 176) (v 177) (v 178) (v 179) (v 183) (v 184) (v 185) (v 186) (v 210) (v 211) (v 97) (v 98) by rw [w176,w177,w178,w179,w183,w184,w185,w186,w210,w211,w97,w98];exact (xG (gI _ _ _ _) (gI _ _ _ _) (ky _ _ _ _).1 (ky _ _ _ _).2 (by omega) (by omega)).1)) (ag (fun _=>(show dcP (v 148) (v 149) (v 150) (v 151) (v 215) (v 216) (v 217) (v 218) (v 57) (v 58) by rw [w148,w149,w150,w151,w215,w216,w217,w218,w57,w58];exact O4 a b J K (by omega) (by omega) (by omega) (by omega) _ _)) (bu)))))))))),?_⟩
         have OB:(-1000000000<=(lkC a b J K (M0-K*60000) (M1-K*60000) (c-J*60000) (d-J*60000)).getD 2 0/\(lkC a b J K (M0-K*60000) (M1-K*60000) (c-J*60000) (d-J*60000)).getD 2 0<=1000000000)/\(-1000000000<=(lkC a b J K (M0-K*60000) (M1-K*60000) (c-J*60000) (d-J*60000)).getD 3 0/\(lkC a b J K (M0-K*60000) (M1-K*60000) (c-J*60000) (d-J*60000)).getD 3 0<=1000000000):=WF (O4 a b J K (by omega) (by omega) (by omega) (by omega) _ _)
         generalize lkC a b J K (M0-K*60000) (M1-K*60000) (c-J*60000) (d-J*60000)=O at *
         unfold lkF
         by_cases hE:O.getD 4 0≠0
         . rw [if_pos hE];have k287:v 287=1:=by rw [show v 287=b2i (v 286 != (0:Int)) from aa hs 287 rfl,w286,show (O.getD 4 0 != (0:Int))=true from bne_iff_ne.2 hE];rfl
           have z375:v 375=0:=ax (X:=cxL [a,b,c,d,m,n]) (v:=v) (l:=bL) (bF _) hs (k:=375) (r:=.c 0) (ps:=[(42,.c 1),(47,.c 0),(84,.c 0),(106,.c 0),(287,.c 1)]) (nz:=[]) (ae k42 (ae k47 (ae k84 (ae k106 (ae k287 av))))) aA (by kernel_rfl)
           have z376:v 376=0:=ax (X:=cxL [a,b,c,d,m,n]) (v:=v) (l:=bL) (bF _) hs (k:=376) (r:=.c 0) (ps:=[(42,.c 1),(47,.c 0),(84,.c 0),(106,.c 0),(287,.c 1)]) (nz:=[]) (ae k42 (ae k47 (ae k84 (ae k106 (ae k287 av))))) aA (by kernel_rfl)
           have z377:v 377=0:=ax (X:=cxL [a,b,c,d,m,n]) (v:=v) (l:=bL) (bF _) hs (k:=377) (r:=.c 0) (ps:=[(42,.c 1),(47,.c 0),(84,.c 0),(106,.c 0),(287,.c 1)]) (nz:=[]) (ae k42 (ae k47 (ae k84 (ae k106 (ae k287 av))))) aA (by kernel_rfl)
           have z378:v 378=0:=ax (X:=cxL [a,b,c,d,m,n]) (v:=v) (l:=bL) (bF _) hs (k:=378) (r:=.c 0) (ps:=[(42,.c 1),(47,.c 0),(84,.c 0),(106,.c 0),(287,.c 1)]) (nz:=[]) (ae k42 (ae k47 (ae k84 (ae k106 (ae k287 av))))) aA (by kernel_rfl)
           have z374:v 374=v 286:=dB (X:=cxL [a,b,c,d,m,n]) (v:=v) (l:=bL) (bF _) hs (k:=374) (j:=286) (ps:=[(42,.c 1),(47,.c 0),(84,.c 0),(106,.c 0),(287,.c 1)]) (ae k42 (ae k47 (ae k84 (ae k106 (ae k287 av))))) (by kernel_rfl)
           exact ⟨z375,z376,z377,z378,z374.trans w286⟩
         . rw [if_neg hE];have k287:v 287=0:=by rw [show v 287=b2i (v 286 != (0:Int)) from aa hs 287 rfl,w286,Decidable.not_not.1 hE];rfl
           have z375:v 375=v 282:=dB (X:=cxL [a,b,c,d,m,n]) (v:=v) (l:=bL) (bF _) hs (k:=375) (j:=282) (ps:=[(42,.c 1),(47,.c 0),(84,.c 0),(106,.c 0),(287,.c 0)]) (ae k42 (ae k47 (ae k84 (ae k106 (ae k287 av))))) (by kernel_rfl)
           have z376:v 376=v 283:=dB (X:=cxL [a,b,c,d,m,n]) (v:=v) (l:=bL) (bF _) hs (k:=376) (j:=283) (ps:=[(42,.c 1),(47,.c 0),(84,.c 0),(106,.c 0),(287,.c 0)]) (ae k42 (ae k47 (ae k84 (ae k106 (ae k287 av))))) (by kernel_rfl)
           have z377:v 377=v 303:=dB (X:=cxL [a,b,c,d,m,n]) (v:=v) (l:=bL) (bF _) hs (k:=377) (j:=303) (ps:=[(42,.c 1),(47,.c 0),(84,.c 0),(106,.c 0),(287,.c 0)]) (ae k42 (ae k47 (ae k84 (ae k106 (ae k287 av))))) (by kernel_rfl)
           have z378:v 378=v 304:=dB (X:=cxL [a,b,c,d,m,n]) (v:=v) (l:=bL) (bF _) hs (k:=378) (j:=304) (ps:=[(42,.c 1),(47,.c 0),(84,.c 0),(106,.c 0),(287,.c 0)]) (ae k42 (ae k47 (ae k84 (ae k106 (ae k287 av))))) (by kernel_rfl)
           have z374:v 374=0:=ax (X:=cxL [a,b,c,d,m,n]) (v:=v) (l:=bL) (bF _) hs (k:=374) (r:=.c 0) (ps:=[(42,.c 1),(47,.c 0),(84,.c 0),(106,.c 0),(287,.c 0)]) (nz:=[]) (ae k42 (ae k47 (ae k84 (ae k106 (ae k287 av))))) aA (by kernel_rfl)
           have w289:v 289=-(O.getD 3 0):=by rw [show v 289=IntKind.i64.wrap ((0:Int)-v 285) from aa hs 289 rfl,w285,Go.IntWalk.i64_in _ (by omega)];omega
           have w290:v 290=-(O.getD 2 0):=by rw [show v 290=IntKind.i64.wrap ((0:Int)-v 284) from aa hs 290 rfl,w284,Go.IntWalk.i64_in _ (by omega)];omega
           generalize O.getD 2 0=O2 at *
           generalize O.getD 3 0=O3 at *
           have w292:v 292=b2i (decide (-O2 - -O3>=21600000)):=by rw [show v 292=b2i (decide (v 291>=(21600000:Int))) from aa hs 292 rfl,show v 291=IntKind.i64.wrap (v 290-v 289) from aa hs 291 rfl,w290,w289,Go.IntWalk.i64_in _ (by omega)]
           have w298:v 298=-O3%21600000:=by rw [<-w289];exact gN (x:=v 289) (r:=v 294) (c:=v 295) (s:=v 296) (by omega) (aa hs 294 rfl) (aa hs 295 rfl) (aa hs 296 rfl) (aa hs 298 rfl)
           have w300:v 300=-O3%21600000+(-O2 - -O3):=by
            have q:v 299=v 298+v 290:=by rw [show v 299=IntKind.i64.wrap (v 298+v 290) from aa hs 299 rfl,Go.IntWalk.i64_in _ (by omega)]
            rw [show v 300=IntKind.i64.wrap (v 299-v 289) from aa hs 300 rfl,Go.IntWalk.i64_in _ (by omega)];omega
           have w301:v 301=trL (-O3) (-O2):=by
            have q:v 301=if -O2 - -O3>=21600000 then 0 else v 298:=kif w292 (aa hs 301 rfl)
            rw [q,w298];rfl
           have w302:v 302=trH (-O3) (-O2):=by
            have q:v 302=if -O2 - -O3>=21600000 then 21600000 else v 300:=kif w292 (aa hs 302 rfl)
            rw [q,w300];rfl
           have w303:v 303=if lkM m n then trL (-O3) (-O2) else O2:=by
            have q:v 303=if lkM m n then v 301 else v 284:=kif w76 (aa hs 303 rfl)
            rw [q,w301,w284]
           have w304:v 304=if lkM m n then trH (-O3) (-O2) else O3:=by
            have q:v 304=if lkM m n then v 302 else v 285:=kif w76 (aa hs 304 rfl)
            rw [q,w302,w285]
           exact ⟨z375.trans w282,z376.trans w283,z377.trans w303,z378.trans w304,z374⟩
       . rw [if_neg hO];have k106:v 106=1:=by rw [w106,decide_eq_true hO];rfl
         have k107:v 107=0:=by rw [show v 107=if v 106≠0 then (0:Int) else (1:Int) from aa hs 107 rfl,if_pos (by omega)]
         have z375:v 375=0:=ax (X:=cxL [a,b,c,d,m,n]) (v:=v) (l:=bL) (bF _) hs (k:=375) (r:=.c 0) (ps:=[(42,.c 1),(47,.c 0),(84,.c 0),(106,.c 1)]) (nz:=[]) (ae k42 (ae k47 (ae k84 (ae k106 av)))) aA (by kernel_rfl)
         have z376:v 376=0:=ax (X:=cxL [a,b,c,d,m,n]) (v:=v) (l:=bL) (bF _) hs (k:=376) (r:=.c 0) (ps:=[(42,.c 1),(47,.c 0),(84,.c 0),(106,.c 1)]) (nz:=[]) (ae k42 (ae k47 (ae k84 (ae k106 av)))) aA (by kernel_rfl)
         have z377:v 377=0:=ax (X:=cxL [a,b,c,d,m,n]) (v:=v) (l:=bL) (bF _) hs (k:=377) (r:=.c 0) (ps:=[(42,.c 1),(47,.c 0),(84,.c 0),(106,.c 1)]) (nz:=[]) (ae k42 (ae k47 (ae k84 (ae k106 av)))) aA (by kernel_rfl)
         have z378:v 378=0:=ax (X:=cxL [a,b,c,d,m,n]) (v:=v) (l:=bL) (bF _) hs (k:=378) (r:=.c 0) (ps:=[(42,.c 1),(47,.c 0),(84,.c 0),(106,.c 1)]) (nz:=[]) (ae k42 (ae k47 (ae k84 (ae k106 av)))) aA (by kernel_rfl)
         have z374:v 374=24:=ax (X:=cxL [a,b,c,d,m,n]) (v:=v) (l:=bL) (bF _) hs (k:=374) (r:=.c 24) (ps:=[(42,.c 1),(47,.c 0),(84,.c 0),(106,.c 1)]) (nz:=[]) (ae k42 (ae k47 (ae k84 (ae k106 av)))) aA (by kernel_rfl)
         exact ⟨bB (ag (fun hp=>absurd k107 (aj hp).1) (ag (fun hp=>absurd k107 (aj (aj hp).2).1) (ag (fun hp=>absurd k107 (aj (aj hp).2).1) (ag (fun hp=>absurd k107 (aj (aj (aj hp).2).2).1) (ag (fun hp=>absurd k107 (aj (aj hp).2).1) (ag (fun hp=>absurd k107 (aj (aj (aj hp).2).2).1) (ag (fun hp=>absurd k107 (aj (aj (aj hp).2).2).1) (ag (fun hp=>absurd k107 (aj (aj (aj (aj hp).2).2).2).1) (ag (fun hp=>absurd k107 (aj (aj hp).2).1) (bu)))))))))),z375,z376,z377,z378,z374⟩
 . rw [show fo a b c d m n=[0,0,0,0,1] from if_neg hT]
   rw [decide_eq_false hT] at V42;have k42:v 42=0:=V42;have z375:v 375=0:=ax (X:=cxL [a,b,c,d,m,n]) (v:=v) (l:=bL) (bF _) hs (k:=375) (r:=.c 0) (ps:=[(42,.c 0)]) (nz:=[]) (ae k42 av) aA (by kernel_rfl)
   have z376:v 376=0:=ax (X:=cxL [a,b,c,d,m,n]) (v:=v) (l:=bL) (bF _) hs (k:=376) (r:=.c 0) (ps:=[(42,.c 0)]) (nz:=[]) (ae k42 av) aA (by kernel_rfl)
   have z377:v 377=0:=ax (X:=cxL [a,b,c,d,m,n]) (v:=v) (l:=bL) (bF _) hs (k:=377) (r:=.c 0) (ps:=[(42,.c 0)]) (nz:=[]) (ae k42 av) aA (by kernel_rfl)
   have z378:v 378=0:=ax (X:=cxL [a,b,c,d,m,n]) (v:=v) (l:=bL) (bF _) hs (k:=378) (r:=.c 0) (ps:=[(42,.c 0)]) (nz:=[]) (ae k42 av) aA (by kernel_rfl)
   have z374:v 374=1:=ax (X:=cxL [a,b,c,d,m,n]) (v:=v) (l:=bL) (bF _) hs (k:=374) (r:=.c 1) (ps:=[(42,.c 0)]) (nz:=[]) (ae k42 av) aA (by kernel_rfl)
   exact ⟨bB (ag (fun hp=>absurd k42 (aj (aj (aj (aj hp).2).2).2).1) (ag (fun hp=>absurd k42 (aj (aj (aj (aj (aj hp).2).2).2).2).1) (ag (fun hp=>absurd k42 (aj (aj (aj (aj (aj hp).2).2).2).2).1) (ag (fun hp=>absurd k42 (aj (aj (aj (aj (aj (aj hp).2).2).2).2).2).1) (ag (fun hp=>absurd k42 (aj (aj (aj (aj (aj hp).2).2).2).2).1) (ag (fun hp=>absurd k42 (aj (aj (aj (aj (aj (aj hp).2).2).2).2).2).1) (ag (fun hp=>absurd k42 (aj (aj (aj (aj (aj (aj hp).2).2).2).2).2).1) (ag (fun hp=>absurd k42 (aj (aj (aj (aj (aj (aj (aj hp).2).2).2).2).2).2).1) (ag (fun hp=>absurd k42 (aj (aj (aj (aj (aj hp).2).2).2).2).1) (bu)))))))))),z375,z376,z377,z378,z374⟩
end Go.Proofs.YtoniodlcogpdbaaGreat
namespace Go.Proofs.YtoniodlcogpdbaaGreat
open Go.RowKit Alm Sx
def k97 (f:Nat):Bool:=f==97
def acp:Nat->List Int->List Int
 | 97,[a,b,c,d,m,n]=>[(fo a b c d m n).getD 0 0,(fo a b c d m n).getD 1 0,(fo a b c d m n).getD 2 0,(fo a b c d m n).getD 3 0,(fo a b c d m n).getD 4 0]
 | _,_=>[]
def acz:Nat->List Int->Prop
 | 97,[_,_,_,_,_,_]=>True
 | _,_=>False
def Py (args:List Int):Cx:=(cxF args).plus k97 acp acz
def Q9:Sx.Spec:=⟨10,97,[(true,[some .i64,some .i64,some .i64,some .i64,some .i64,some .i64])],[(true,[some .i64,some .i64,some .i64,some .i64]),(false,[some .i64])]⟩
theorem N7 (args:List Int):aR Tryz.prog (Py args) Q9:=by
 refine dM rfl (ours _ _ _ Tryz.func10 rfl (by kernel_rfl)) fun xs hp w=>?_
 match xs,hp with
 | [a,b,c,d,m,n],hp=>exact JO a b c d m n w
def Hy:Nat->List Int->Bool
 | 97,[_,_,_,_,_,_]=>true
 | _,_=>false
theorem L6 (args:List Int) (f:Nat) (xs:List Int) (h:Hy f xs=true):(Py args).pre f xs:=by
 unfold Hy at h;split at h
 . exact trivial
 . cases h
theorem Tg (args:List Int):∀ s∈[Q9],aR Tryz.prog (Py args) s:=by
 intro s hs;rcases List.mem_cons.1 hs with rfl|h
 . exact N7 args
 . cases h
def Ao:List Nd:=[
 .app 97 0 [.c 0,.c 0,.c 0,.c 0,.c 3600000,.c 3600000],
 .app 97 1 [.c 0,.c 0,.c 0,.c 0,.c 3600000,.c 3600000],
 .app 97 2 [.c 0,.c 0,.c 0,.c 0,.c 3600000,.c 3600000],
 .app 97 3 [.c 0,.c 0,.c 0,.c 0,.c 3600000,.c 3600000],
 .app 97 4 [.c 0,.c 0,.c 0,.c 0,.c 3600000,.c 3600000],
 .bin .eql .i64 (.n 4) (.c 0),
 .bin .leq .i64 (.n 0) (.c 1800000),
 .ite (.n 5) (.n 6) (.c 0),
 .bin .leq .i64 (.c 1800000) (.n 1),
 .ite (.n 7) (.n 8) (.c 0),
 .bin .sub .i64 (.n 1) (.n 0),
 .bin .lss .i64 (.n 10) (.c 2000),
 .ite (.n 9) (.n 11) (.c 0),
 .bin .leq .i64 (.n 2) (.c 16200000),
 .ite (.n 12) (.n 13) (.c 0),
 .bin .leq .i64 (.c 16200000) (.n 3),
 .ite (.n 14) (.n 15) (.c 0)]
def J3:List Vc:=[
 ⟨[],.pre 97 [.c 0,.c 0,.c 0,.c 0,.c 3600000,.c 3600000]⟩]
theorem SH:whole Tryz.prog [Q9] 20 40 4 []=some (.p (.c (.bool (.n 16))),⟨Ao.reverse,J3.reverse⟩):=by kernel_rfl
theorem TJ:wfN Ao.reverse=true:=by kernel_rfl
theorem nL (w:World):Calls Tryz.prog 4 #[] w fun e w'=>e=.returned (.bool true)/\Below w.heap.size w w':=by
 refine Sx.calls (X:=Py []) dP (Tg _) SH TJ (fun v hs=>?_) w
 have h:=UW (X:=Py []) (v:=v) (nd:=Ao) hs (pre:=Hy) (L6 []) (vs:=J3.reverse) (k:=16) (z:=1) (by kernel_rfl)
 refine ⟨h.2,fun x hx=>?_⟩
 have hx':x=.bool (decide (v 16≠0)):=hx;rw [hx',h.1];rfl
