/- Plain: a solution by tables off greater errors holds that off lesser ones (for LookupTables). -/
import Derived.Test.YtoniodlcogpdbaaGreatZLkP
import Derived.Test.YtoniodlcogpdbaaGreatZColG
import Derived.Test.YtoniodlcogpdbaaGreatZBin
import Derived.Test.YtoniodlcogpdbaaGreatZLawTk
set_option linter.unusedVariables false
set_option linter.unusedSimpArgs false
set_option maxRecDepth 100000
set_option maxHeartbeats 1000000
namespace Go.Proofs.YtoniodlcogpdbaaGreat
open Go.RowKit Alm Sx
def Inn (a b c d:Int):Prop:=d-c>=21600000∨(a-c)%21600000+(b-a)<=d-c
theorem Jr {x y s:Int}:((x-s)%21600000-(y-s)%21600000)%21600000=(x-y)%21600000:=by omega
theorem QW {p q:Int} (hp:0<=p/\p<21600000) (hq:0<=q/\q<21600000):(p-q)%21600000=if q<=p then p-q else p-q+21600000:=by
 split<;>omega
theorem R5 {a b c d s w:Int} (h1:0<=b-a) (h2:0<=d-c) (hw:w<10800000) (A:(a-s)%21600000+(b-a)<=w) (B:(c-s)%21600000+(d-c)<=w) :
 (cvW c d a b<cvW a b c d->(c-s)%21600000+cvW c d a b<=w)/\(¬ cvW c d a b<cvW a b c d->(a-s)%21600000+cvW a b c d<=w):=by
 have m1:=Int.emod_nonneg (a-s) (show (21600000:Int)≠0 by decide)
 have m2:=Int.emod_nonneg (c-s) (show (21600000:Int)≠0 by decide)
 have e1:=Jr (x:=c) (y:=a) (s:=s);have e2:=Jr (x:=a) (y:=c) (s:=s);generalize (a-s)%21600000=p at *
 generalize (c-s)%21600000=q at *
 rw [QW ⟨m2,by omega⟩ ⟨m1,by omega⟩] at e1
 rw [QW ⟨m1,by omega⟩ ⟨m2,by omega⟩] at e2
 unfold cvW;rw [<-e1,<-e2];clear e1 e2;split<;>split<;>omega
theorem Inn.trans {a b c d e f:Int} (h1:Inn a b c d) (h2:Inn c d e f):Inn a b e f:=by
 unfold Inn at *
 rcases h2 with h|h
 . exact .inl h
 . rcases h1 with g|g
   . left;have:=Int.emod_nonneg (c-e) (show (21600000:Int)≠0 by decide);omega
   . right
     have m1:=Int.emod_nonneg (c-e) (show (21600000:Int)≠0 by decide)
     have m2:=Int.emod_nonneg (a-c) (show (21600000:Int)≠0 by decide)
     have:(a-e)%21600000<=(a-c)%21600000+(c-e)%21600000:=by omega
     omega
theorem WL {a b c d:Int} (hi:Inn a b c d):Inn (trL a b) (trH a b) (trL c d) (trH c d):=by
 unfold Inn at *
 unfold trL trH
 by_cases q:d-c>=21600000
 . rw [if_pos q,if_pos q];left;omega
 . rw [if_neg q,if_neg q];have g:(a-c)%21600000+(b-a)<=d-c:=by omega
   have m:=Int.emod_nonneg (a-c) (show (21600000:Int)≠0 by decide)
   rw [if_neg (by omega),if_neg (by omega)]
   right
   have:(a%21600000-c%21600000)%21600000=(a-c)%21600000:=by omega
   omega
theorem Tq {a b c d:Int} (h:0<=b-a) (h1:c<=a) (h2:b<=d):Inn a b c d:=by
 unfold Inn
 by_cases q:d-c>=21600000
 . exact .inl q
 . right;rw [Int.emod_eq_of_lt (by omega) (by omega)];omega
theorem OI {a b c d u:Int} (h1:a<=c) (h2:b<=d) (hu:0<=u/\u<=60000):atF a b u<=atF c d u/\atC a b u<=atC c d u:=by
 have k1:=Int.mul_le_mul_of_nonneg_right h1 (show 0<=60000-u by omega)
 have k2:=Int.mul_le_mul_of_nonneg_right h2 hu.1;unfold atF atC;generalize a*(60000-u)=A at *
 generalize c*(60000-u)=C at *
 generalize b*u=B at *
 generalize d*u=D at *
 omega
theorem aav (a b u:Int):atF a b u<=atC a b u:=by
 unfold atF atC;generalize a*(60000-u)+b*u=A;omega
theorem yZ {a b c d u v e f:Int} (h1:c<=a) (h2:d<=b) (hu:0<=u/\u<=60000) (hv:0<=v/\v<=60000) (he:e<=f):ovL c d u v f<=ovL a b u v e/\ovH c d u v e<=ovH a b u v f:=by
 have x:=OI h1 h2 hu;have y:=OI h1 h2 hv;unfold ovL ovH;omega
theorem WW {a b c d u v e f:Int} (h1:a<=c) (h2:b<=d) (hu:0<=u/\u<=60000) (he:0<=e) (hf:0<=f):ovL a b u v e<=ovH c d u v f:=by
 have x:=OI h1 h2 hu;have y:=aav c d u;unfold ovL ovH;omega
theorem ZR {a2 a3 b2 b3 u v g k:Int} (ha:a2<=a3) (hb:b2<=b3) (hu:0<=u/\u<=60000) (hv:0<=v/\v<=60000) (hg:0<=g/\g<=k) :
 Inn (trL (hrL a2 b2 u v g) (hrH a2 a3 b2 b3 u v g)) (trH (hrL a2 b2 u v g) (hrH a2 a3 b2 b3 u v g)) (trL (hrL a2 b2 u v k) (hrH a2 a3 b2 b3 u v k)) (trH (hrL a2 b2 u v k) (hrH a2 a3 b2 b3 u v k)):=by
 refine WL (Tq ?_ ?_ ?_)
 . have:=WW (a:=a2) (b:=a2+sgt (b2-a2)) (c:=a3) (d:=a2+sgt (b2-a2)+b3-b2) (u:=u) (v:=v) (e:=g) (f:=g) ha (by omega) hu hg.1 hg.1
   unfold hrL hrH;omega
 . exact (yZ (Int.le_refl a2) (Int.le_refl (a2+sgt (b2-a2))) hu hv hg.2).1
 . exact (yZ (Int.le_refl a3) (Int.le_refl (a2+sgt (b2-a2)+b3-b2)) hu hv hg.2).2
theorem ZV (a b c d:Int):(a-dcF a b c d)%21600000+(b-a)<=dcW a b c d/\(c-dcF a b c d)%21600000+(d-c)<=dcW a b c d:=by
 have e1:(a-a)%21600000=0:=by rw [Int.sub_self];decide
 have e2:(c-c)%21600000=0:=by rw [Int.sub_self];decide
 unfold dcF dcW;split
 . rw [e2];unfold cvW;omega
 . rw [e1];unfold cvW;omega
theorem Xx {a b c d e f g h:Int} (h1:a<=b) (h2:c<=d) (h3:e<=f) (h4:g<=h) (A:Inn a b e f) (C:Inn c d g h):Inn (dcL a b c d) (dcH a b c d) (dcL e f g h) (dcH e f g h):=by
 by_cases B':dcB e f g h
 . unfold dcL dcH;rw [if_pos B',if_pos B'];left;omega
 have L':dcL e f g h=if dcW e f g h<10800000 then trL (dcF e f g h) (dcF e f g h+dcW e f g h) else 0:=if_neg B'
 have H':dcH e f g h=if dcW e f g h<10800000 then trH (dcF e f g h) (dcF e f g h+dcW e f g h) else 21600000:=if_neg B'
 rw [L',H'];clear L' H'
 by_cases W':dcW e f g h<10800000
 rotate_left
 . rw [if_neg W',if_neg W'];left;omega
 rw [if_pos W',if_pos W'];have ow:=ZV e f g h
 have wide:∀ x y z t:Int,Inn x y z t->¬ t-z>=21600000->(z-dcF e f g h)%21600000+(t-z)<=dcW e f g h->(x-dcF e f g h)%21600000+(y-x)<=dcW e f g h:=fun x y z t i nz k=>by
  unfold Inn at i;have m:=Int.emod_nonneg (x-z) (show (21600000:Int)≠0 by decide)
  have m2:=Int.emod_nonneg (z-dcF e f g h) (show (21600000:Int)≠0 by decide)
  have:(x-dcF e f g h)%21600000<=(x-z)%21600000+(z-dcF e f g h)%21600000:=by omega
  omega
 unfold dcB at B'
 have kA:=wide a b e f A (by omega) ow.1
 have kC:=wide c d g h C (by omega) ow.2
 have nB:¬ dcB a b c d:=by
  have m:=Int.emod_nonneg (a-dcF e f g h) (show (21600000:Int)≠0 by decide)
  have m2:=Int.emod_nonneg (c-dcF e f g h) (show (21600000:Int)≠0 by decide)
  unfold dcB;omega
 have hu:=R5 (a:=a) (b:=b) (c:=c) (d:=d) (s:=dcF e f g h) (w:=dcW e f g h) (by omega) (by omega) W' kA kC
 have key:(dcF a b c d-dcF e f g h)%21600000+dcW a b c d<=dcW e f g h:=by
  by_cases q:cvW c d a b<cvW a b c d
  . have x:dcF a b c d=c:=if_pos q;have y:dcW a b c d=cvW c d a b:=if_pos q;rw [x,y];exact hu.1 q
  . have x:dcF a b c d=a:=if_neg q;have y:dcW a b c d=cvW a b c d:=if_neg q;rw [x,y];exact hu.2 q
 have L:dcL a b c d=if dcW a b c d<10800000 then trL (dcF a b c d) (dcF a b c d+dcW a b c d) else 0:=if_neg nB
 have H:dcH a b c d=if dcW a b c d<10800000 then trH (dcF a b c d) (dcF a b c d+dcW a b c d) else 21600000:=if_neg nB
 have m:=Int.emod_nonneg (dcF a b c d-dcF e f g h) (show (21600000:Int)≠0 by decide)
 rw [L,H,if_pos (by omega),if_pos (by omega)]
 refine WL (.inr ?_);omega
theorem XW {a b c d e f g h:Int} (h1:e<=a) (h2:b<=f) (h3:g<=c) (h4:d<=h):dcM a b c d<=dcM e f g h:=by
 unfold dcM;omega
theorem WR (n:Int):bC n n=bLo n/\bI n n=bHi n:=by
 unfold bC bI
 constructor
 . by_cases h:dD n n 16200000=true
   . rw [if_pos h];unfold dD au at h;have e:=(Xd n 16200000 (by have:=of_decide_eq_true h;omega)).1
     rw [e];decide +kernel
   . rw [if_neg h];omega
 . by_cases h:dD n n 5400000=true
   . rw [if_pos h];unfold dD au at h;have e:=(Xd n 5400000 (by have:=of_decide_eq_true h;omega)).2
     rw [e];decide +kernel
   . rw [if_neg h];omega
theorem Km {m n:Int} (h0:-5400000<=m) (h:m<=n) (h1:n<=5400000):bLo m<=bLo n/\bHi m<=bHi n:=by
 by_cases e:m=n
 . subst e;exact ⟨Int.le_refl _,Int.le_refl _⟩
 . have a:=GA m n h0 (by omega) h1
   have b:=gP m;have c:=gP n;omega
theorem Uh (x:Int) (h0:0<=x) (h1:x<=5400000):bLo (x+5400000)=bLo (5400000-x)/\bHi (x+5400000)=bHi (5400000-x):=by
 by_cases z:x=0
 . subst z;exact ⟨rfl,rfl⟩
 . have w1:au (x+5400000)=x+5400000:=by unfold au;omega
   have w2:au (5400000-x)=5400000-x:=by unfold au;omega
   have f:aI (x+5400000)=aI (5400000-x):=by unfold aI;rw [w1,w2];simp only [];split<;>split<;>(first|omega|(split<;>omega)|(split<;>split<;>omega))
   have s:dm (x+5400000)=dm (5400000-x):=by unfold dm;rw [w1,w2];simp;omega
   unfold bLo bHi;rw [f,s];exact ⟨rfl,rfl⟩
theorem ww {x y d e:Int} (h0:0<=x) (h:x<=y) (he:0<e) (hd:e<=d):qCe x 131 d<=qCe y 131 e:=by
 unfold qCe;have k:=Int.mul_ediv_self_le (x:=-(y*131)) (k:=e) (by omega)
 have q0:-(y*131)/e<=0:=Int.ediv_le_of_le_mul he (by omega)
 generalize -(y*131)/e=Q at *
 have m:=Int.mul_le_mul_of_nonneg_left hd (show 0<=-Q by omega)
 rw [Int.neg_mul,Int.neg_mul,Int.mul_comm Q e] at m;have:Q<=-(x*131)/d:=(Int.le_ediv_iff_mul_le (by omega)).2 (by omega)
 omega
theorem Y5:0<bLo 300000:=by decide +kernel
theorem Zh {m n:Int} (h0:0<=m) (h:m<=n) (h1:n<=5100000):0<=(dcQ m).getD 1 0/\(dcQ m).getD 1 0<=(dcQ n).getD 1 0:=by
 have val:∀ k:Int,0<=k->k<=5100000->(dcQ k).getD 1 0=qCe (bHi k) 131 (bLo (5400000-k))/\0<=bHi k/\0<bLo (5400000-k):=fun k k0 k1=>by
  have z:=(Km (m:=0) (n:=k) (by omega) k0 (by omega))
  have c:=(Km (m:=300000) (n:=5400000-k) (by omega) (by omega) (by omega)).1
  have s0:bLo 0=0/\bHi 0=0:=by decide +kernel
  have tc:=Y5;have b:=gP k;have b':=gP (5400000-k);have f:=Uh k k0 (by omega)
  have e1:=WR k;have e2:=WR (k+5400000);rw [f.1,f.2] at e2;have q1:=uO (x:=bLo k) (d:=bLo (5400000-k)) (by omega) (by omega)
  have q2:=uO (x:=bLo k) (d:=bHi (5400000-k)) (by omega) (by omega)
  have q3:=uO (x:=bHi k) (d:=bLo (5400000-k)) (by omega) (by omega)
  have q4:=uO (x:=bHi k) (d:=bHi (5400000-k)) (by omega) (by omega)
  have f1:dz (qoL (bLo k) (bHi k) (bLo (5400000-k)) (bHi (5400000-k)) 131)=true:=by
   unfold dz qoL;simp only [Bool.and_eq_true,decide_eq_true_eq];omega
  have f2:dz (qoH (bLo k) (bHi k) (bLo (5400000-k)) (bHi (5400000-k)) 131)=true:=by
   unfold dz qoH;simp only [Bool.and_eq_true,decide_eq_true_eq];omega
  have r1:=ww (x:=bLo k) (y:=bHi k) (d:=bLo (5400000-k)) (e:=bLo (5400000-k)) (by omega) (by omega) (by omega) (by omega)
  have r2:=ww (x:=bLo k) (y:=bHi k) (d:=bHi (5400000-k)) (e:=bLo (5400000-k)) (by omega) (by omega) (by omega) (by omega)
  have r3:=ww (x:=bHi k) (y:=bHi k) (d:=bHi (5400000-k)) (e:=bLo (5400000-k)) (by omega) (by omega) (by omega) (by omega)
  have top:qoH (bLo k) (bHi k) (bLo (5400000-k)) (bHi (5400000-k)) 131=qCe (bHi k) 131 (bLo (5400000-k)):=by unfold qoH;omega
  refine ⟨?_,by omega,by omega⟩
  unfold dcQ qoV;rw [e1.1,e1.2,e2.1,e2.2,if_neg (show ¬ bLo (5400000-k)<=0 by omega),if_pos ⟨f1,f2⟩]
  exact top
 have a:=val m h0 (by omega);have b:=val n (by omega) h1
 rw [a.1,b.1];have x:=(Km (m:=m) (n:=n) (by omega) h (by omega)).2
 have y:=(Km (m:=5400000-n) (n:=5400000-m) (by omega) (by omega) (by omega)).1
 refine ⟨?_,ww a.2.1 x b.2.2 y⟩;have:=ww (x:=0) (y:=bHi m) (d:=bLo (5400000-m)) (e:=bLo (5400000-m)) (by omega) a.2.1 a.2.2 (by omega)
 have z:qCe 0 131 (bLo (5400000-m))=0:=by unfold qCe;simp
 omega
theorem Xo {a0 a1 a2 a3 b0 b1 b2 b3 c0 c1 c2 c3 d0 d1 d2 d3 u v:Int} (w0:a0<=a1) (h1:c0<=a0) (h2:a1<=c1) (h3:d0<=b0) (h4:b1<=d1) (w1:a2<=a3) (w2:b2<=b3) (w3:c2<=c3) (w4:d2<=d3) (A:Inn a2 a3 c2 c3) (B:Inn b2 b3 d2 d3) (hu:0<=u/\u<=60000) (hv:0<=v/\v<=60000) :
 (dcV c0 c1 c2 c3 d0 d1 d2 d3 u v).getD 4 0=24∨((dcV c0 c1 c2 c3 d0 d1 d2 d3 u v).getD 4 0=0/\(dcV a0 a1 a2 a3 b0 b1 b2 b3 u v).getD 4 0=0/\(dcV c0 c1 c2 c3 d0 d1 d2 d3 u v).getD 0 0<=(dcV a0 a1 a2 a3 b0 b1 b2 b3 u v).getD 0 0/\(dcV a0 a1 a2 a3 b0 b1 b2 b3 u v).getD 1 0<=(dcV c0 c1 c2 c3 d0 d1 d2 d3 u v).getD 1 0/\Inn ((dcV a0 a1 a2 a3 b0 b1 b2 b3 u v).getD 2 0) ((dcV a0 a1 a2 a3 b0 b1 b2 b3 u v).getD 3 0) ((dcV c0 c1 c2 c3 d0 d1 d2 d3 u v).getD 2 0) ((dcV c0 c1 c2 c3 d0 d1 d2 d3 u v).getD 3 0)):=by
 have m:=XW h1 h2 h3 h4;have m0:0<=dcM a0 a1 b0 b1:=by unfold dcM;omega
 by_cases q:dcM c0 c1 d0 d1>5100000
 . left;unfold dcV;rw [if_pos q];rfl
 right
 have e1:dcV c0 c1 c2 c3 d0 d1 d2 d3 u v=[ovL c0 d0 u v ((dcQ (dcM c0 c1 d0 d1)).getD 1 0),ovH c1 d1 u v ((dcQ (dcM c0 c1 d0 d1)).getD 1 0),dcL c2 c3 d2 d3,dcH c2 c3 d2 d3,0]:=if_neg q;have e2:dcV a0 a1 a2 a3 b0 b1 b2 b3 u v=[ovL a0 b0 u v ((dcQ (dcM a0 a1 b0 b1)).getD 1 0),ovH a1 b1 u v ((dcQ (dcM a0 a1 b0 b1)).getD 1 0),dcL a2 a3 b2 b3,dcH a2 a3 b2 b3,0]:=if_neg (by omega)
 have k:=Zh m0 m (by omega)
 rw [e1,e2];exact ⟨rfl,rfl,(yZ h1 h3 hu hv k.2).1,(yZ h2 h4 hu hv k.2).2,Xx w1 w2 w3 w4 A B⟩
theorem YL {a0 a1 a2 a3 b0 b1 b2 b3 u v f g k l:Int} (ha:a2<=a3) (hb:b2<=b3) (hu:0<=u/\u<=60000) (hv:0<=v/\v<=60000) (hf:f<=k) (hg:0<=g/\g<=l) :
 (hrV a0 a1 a2 a3 b0 b1 b2 b3 k l u v).getD 0 0<=(hrV a0 a1 a2 a3 b0 b1 b2 b3 f g u v).getD 0 0/\(hrV a0 a1 a2 a3 b0 b1 b2 b3 f g u v).getD 1 0<=(hrV a0 a1 a2 a3 b0 b1 b2 b3 k l u v).getD 1 0/\Inn ((hrV a0 a1 a2 a3 b0 b1 b2 b3 f g u v).getD 2 0) ((hrV a0 a1 a2 a3 b0 b1 b2 b3 f g u v).getD 3 0) ((hrV a0 a1 a2 a3 b0 b1 b2 b3 k l u v).getD 2 0) ((hrV a0 a1 a2 a3 b0 b1 b2 b3 k l u v).getD 3 0):=by
 refine ⟨(yZ (Int.le_refl a0) (Int.le_refl b0) hu hv hf).1,(yZ (Int.le_refl a1) (Int.le_refl b1) hu hv hf).2,?_⟩;show Inn (if hrB a2 a3 b2 b3 then trL (hrL a2 b2 u v g) (hrH a2 a3 b2 b3 u v g) else 0) (if hrB a2 a3 b2 b3 then trH (hrL a2 b2 u v g) (hrH a2 a3 b2 b3 u v g) else 21600000) (if hrB a2 a3 b2 b3 then trL (hrL a2 b2 u v l) (hrH a2 a3 b2 b3 u v l) else 0) (if hrB a2 a3 b2 b3 then trH (hrL a2 b2 u v l) (hrH a2 a3 b2 b3 u v l) else 21600000)
 by_cases q:hrB a2 a3 b2 b3
 . rw [if_pos q,if_pos q,if_pos q,if_pos q];exact ZR ha hb hu hv hg
 . rw [if_neg q,if_neg q,if_neg q,if_neg q];left;omega
theorem PU {a0 a1 a2 a3 b0 b1 b2 b3 u v f g:Int} (ha:a2<=a3) (hb:b2<=b3) (hu:0<=u/\u<=60000) (hg:0<=g):(hrV a0 a1 a2 a3 b0 b1 b2 b3 f g u v).getD 2 0<=(hrV a0 a1 a2 a3 b0 b1 b2 b3 f g u v).getD 3 0:=by
 show (if hrB a2 a3 b2 b3 then trL (hrL a2 b2 u v g) (hrH a2 a3 b2 b3 u v g) else 0)<=(if hrB a2 a3 b2 b3 then trH (hrL a2 b2 u v g) (hrH a2 a3 b2 b3 u v g) else 21600000)
 by_cases q:hrB a2 a3 b2 b3
 . rw [if_pos q,if_pos q];have:=WW (a:=a2) (b:=a2+sgt (b2-a2)) (c:=a3) (d:=a2+sgt (b2-a2)+b3-b2) (u:=u) (v:=v) (e:=g) (f:=g) ha (by omega) hu hg hg
   have h:hrL a2 b2 u v g<=hrH a2 a3 b2 b3 u v g:=this;unfold trL trH;split<;>omega
 . rw [if_neg q,if_neg q];omega
def TbQ (la de eh ez K:Int) (H Z:Cs) (n:Nat):Prop :=
 (wrV (la*60000) (la*60000) (de*60000) (de*60000) K).getD 0 0<=eh/\(wrV (la*60000) (la*60000) (de*60000) (de*60000) K).getD 1 0<=ez /\
 (ro H n 0=lkI (la*60000) (la*60000) (de*60000) (K*60000) 0/\ro H n 1=lkI (la*60000) (la*60000) (de*60000) (K*60000) 1/\ro Z n 0=lkI (la*60000) (la*60000) (de*60000) (K*60000) 2/\ro Z n 1=lkI (la*60000) (la*60000) (de*60000) (K*60000) 3) /\
 (ro H (n+1) 0=lkI (la*60000) (la*60000) (de*60000) ((K+1)*60000) 0/\ro H (n+1) 1=lkI (la*60000) (la*60000) (de*60000) ((K+1)*60000) 1/\ro Z (n+1) 0=lkI (la*60000) (la*60000) (de*60000) ((K+1)*60000) 2/\ro Z (n+1) 1=lkI (la*60000) (la*60000) (de*60000) ((K+1)*60000) 3)
theorem Qh {la de eh ez l0 l1:Int} {H Z:Cs} (h:TbQ la de eh ez (frK l0) H Z (frN l0)) (hu:0<=l0-frK l0*60000/\l0-frK l0*60000<=60000) (hv:0<=l1-frK l0*60000/\l1-frK l0*60000<=60000) :
 (frE H Z eh ez l0 l1 0<=lkR (la*60000) (la*60000) (de*60000) (frK l0) (frK l0*60000) ((frK l0+1)*60000) (l0-frK l0*60000) (l1-frK l0*60000) 0/\lkR (la*60000) (la*60000) (de*60000) (frK l0) (frK l0*60000) ((frK l0+1)*60000) (l0-frK l0*60000) (l1-frK l0*60000) 1<=frE H Z eh ez l0 l1 1/\Inn (lkR (la*60000) (la*60000) (de*60000) (frK l0) (frK l0*60000) ((frK l0+1)*60000) (l0-frK l0*60000) (l1-frK l0*60000) 2) (lkR (la*60000) (la*60000) (de*60000) (frK l0) (frK l0*60000) ((frK l0+1)*60000) (l0-frK l0*60000) (l1-frK l0*60000) 3) (frE H Z eh ez l0 l1 2) (frE H Z eh ez l0 l1 3)) /\
 (lkR (la*60000) (la*60000) (de*60000) (frK l0) (frK l0*60000) ((frK l0+1)*60000) (l0-frK l0*60000) (l1-frK l0*60000) 0<=lkR (la*60000) (la*60000) (de*60000) (frK l0) (frK l0*60000) ((frK l0+1)*60000) (l0-frK l0*60000) (l1-frK l0*60000) 1/\lkR (la*60000) (la*60000) (de*60000) (frK l0) (frK l0*60000) ((frK l0+1)*60000) (l0-frK l0*60000) (l1-frK l0*60000) 2<=lkR (la*60000) (la*60000) (de*60000) (frK l0) (frK l0*60000) ((frK l0+1)*60000) (l0-frK l0*60000) (l1-frK l0*60000) 3/\frE H Z eh ez l0 l1 2<=frE H Z eh ez l0 l1 3):=by
 obtain ⟨he,hz,⟨a0,a1,a2,a3⟩,b0,b1,b2,b3⟩:=h;have ea:=gI (la*60000) (la*60000) (de*60000) (frK l0*60000);have eb:=gI (la*60000) (la*60000) (de*60000) ((frK l0+1)*60000);have ew:=ky (la*60000) (la*60000) (de*60000) (frK l0);unfold frE lkR;rw [a0,a1,a2,a3,b0,b1,b2,b3];exact ⟨YL ea.2.2.2.1 eb.2.2.2.1 hu hv he ⟨ew.2.1,hz⟩,(xG ea eb ew.1 ew.2 hu hv).2.2,PU ea.2.2.2.1 eb.2.2.2.1 hu ew.2.1,PU ea.2.2.2.1 eb.2.2.2.1 hu (by omega)⟩
theorem LW {la de eh ez la2 de2 eh2 ez2 d0 d1 l0 l1:Int} {H Z I Y:Cs} (h0:(frV la de eh ez la2 de2 eh2 ez2 d0 d1 l0 l1 H Z I Y).getD 4 0=0) :
 ((-90<=la/\la<=90)/\(-90<=de/\de<=89)/\la2=la/\de2=de+1/\0<=l0/\l0<=l1/\l1<=10800000/\H.length=181/\Z.length=181/\I.length=181/\Y.length=181) /\
 (d0≠de2*60000->TbQ la de eh ez (frK l0) H Z (frN l0)->TbQ la (de+1) eh2 ez2 (frK l0) I Y (frN l0) ->
  (fo (la*60000) (la*60000) d0 d1 l0 l1).getD 4 0=0/\(frV la de eh ez la2 de2 eh2 ez2 d0 d1 l0 l1 H Z I Y).getD 0 0<=(fo (la*60000) (la*60000) d0 d1 l0 l1).getD 0 0/\(fo (la*60000) (la*60000) d0 d1 l0 l1).getD 1 0<=(frV la de eh ez la2 de2 eh2 ez2 d0 d1 l0 l1 H Z I Y).getD 1 0/\Inn ((fo (la*60000) (la*60000) d0 d1 l0 l1).getD 2 0) ((fo (la*60000) (la*60000) d0 d1 l0 l1).getD 3 0) ((frV la de eh ez la2 de2 eh2 ez2 d0 d1 l0 l1 H Z I Y).getD 2 0) ((frV la de eh ez la2 de2 eh2 ez2 d0 d1 l0 l1 H Z I Y).getD 3 0)):=by
 unfold frV at h0 ⊢
 by_cases c1:(vS la de eh ez H Z&&vS la2 de2 eh2 ez2 I Y&&aQ d0 d1&&aQ l0 l1)=false
 . rw [if_pos c1] at h0;cases h0
 rw [if_neg c1] at h0 ⊢
 by_cases c2:la≠la2∨de2≠de+1
 . rw [if_pos c2] at h0;cases h0
 rw [if_neg c2] at h0 ⊢
 by_cases c3:¬ (de*60000<=d0/\d1<=de2*60000/\0<=l0/\l1<=10800000)
 . rw [if_pos c3] at h0;cases h0
 rw [if_neg c3] at h0 ⊢
 by_cases c4:¬ l1-frK l0*60000<=60000
 . rw [if_pos c4] at h0;cases h0
 rw [if_neg c4] at h0 ⊢
 rw [Bool.not_eq_false] at c1;simp only [Bool.and_eq_true] at c1;obtain ⟨⟨⟨v1,v2⟩,v3⟩,v4⟩:=c1;have o1:=nD v1;have o2:=nD v2;have v3:=(aJ _ _).1 v3;have v4:=(aJ _ _).1 v4;refine ⟨⟨o1.1,by omega,by omega,by omega,by omega,by omega,by omega,o1.2.2.1,o1.2.2.2.1,o2.2.2.1,o2.2.2.2.1⟩,fun nd q1 q2=>?_⟩
 obtain ⟨k1,k2⟩:la2=la/\de2=de+1:=by omega
 subst k1;subst k2;have w:l1-l0<21600000:=by omega
 have tL:trL l0 l1=l0:=by unfold trL;omega
 have tH:trH l0 l1=l1:=by unfold trH;omega
 have nM:¬ lkM l0 l1:=by unfold lkM;omega
 have nS:¬ EU l0 l1:=fun h=>nM h.1
 have m0:ol l0 l1=l0:=(if_neg nM).trans tL;have m1:qC l0 l1=l1:=(if_neg nM).trans tH;have mk:lkK l0 l1=frK l0:=by unfold lkK frK;rw [m0]
 have jj:lkJ d0=de:=by unfold lkJ;omega
 have kb:0<=frK l0/\frK l0<=179/\0<=l0-frK l0*60000:=by unfold frK;omega
 have oJ:yE d0 d1:=by unfold yE;rw [jj];omega
 have oK:yG l0 l1:=by unfold yG;rw [mk,m0,m1];omega
 have tv:fB (la2*60000) (la2*60000) d0 d1 l0 l1:=by unfold fB;omega
 have tm:¬ (la2*60000≠la2*60000∨Int.tmod (la2*60000) 60000≠0):=by
  rw [Int.mul_tmod_left];omega
 have e:fo (la2*60000) (la2*60000) d0 d1 l0 l1=lkF (lkC (la2*60000) (la2*60000) de (frK l0) (l0-frK l0*60000) (l1-frK l0*60000) (d0-de*60000) (d1-de*60000)) (lkM l0 l1):=by
  unfold fo;rw [if_pos tv];unfold lkV;rw [if_neg tm,if_neg nS,if_pos ⟨oJ,oK⟩,jj,mk,m0,m1]
 rw [e];have x1:=Qh (l1:=l1) q1 (by omega) (by omega)
 have x2:=Qh (l1:=l1) q2 (by omega) (by omega)
 have r:=Xo (u:=d0-de*60000) (v:=d1-de*60000) x1.2.1 x1.1.1 x1.1.2.1 x2.1.1 x2.1.2.1 x1.2.2.1 x2.2.2.1 x1.2.2.2 x2.2.2.2 x1.1.2.2 x2.1.2.2 (by omega) (by omega)
 rcases r with r|⟨r0,r1,r2,r3,r4⟩
 . rw [r] at h0;omega
 . have f:lkF (lkC (la2*60000) (la2*60000) de (frK l0) (l0-frK l0*60000) (l1-frK l0*60000) (d0-de*60000) (d1-de*60000)) (lkM l0 l1)=[(lkC (la2*60000) (la2*60000) de (frK l0) (l0-frK l0*60000) (l1-frK l0*60000) (d0-de*60000) (d1-de*60000)).getD 0 0,(lkC (la2*60000) (la2*60000) de (frK l0) (l0-frK l0*60000) (l1-frK l0*60000) (d0-de*60000) (d1-de*60000)).getD 1 0,(lkC (la2*60000) (la2*60000) de (frK l0) (l0-frK l0*60000) (l1-frK l0*60000) (d0-de*60000) (d1-de*60000)).getD 2 0,(lkC (la2*60000) (la2*60000) de (frK l0) (l0-frK l0*60000) (l1-frK l0*60000) (d0-de*60000) (d1-de*60000)).getD 3 0,0]:=by
    unfold lkF;rw [if_neg (show ¬ (lkC (la2*60000) (la2*60000) de (frK l0) (l0-frK l0*60000) (l1-frK l0*60000) (d0-de*60000) (d1-de*60000)).getD 4 0≠0 from fun h=>h r1),if_neg nM,if_neg nM]
   rw [f];exact ⟨rfl,r2,r3,r4⟩
end Go.Proofs.YtoniodlcogpdbaaGreat
namespace Go.Proofs.YtoniodlcogpdbaaGreat
open Go.RowKit Alm Sx
def JJ:List Nd:=[
 .arg 0,
 .bin .mul .i64 (.n 0) (.c 60000)]
def R6:List Vc:=[
 ]
theorem Ua:whole Tryz.prog [] 20 40 7 [(false,[some .i64])]=some (.p (.agg [.int .i64 (.n 1),.int .i64 (.n 1)]),⟨JJ.reverse,R6.reverse⟩):=by kernel_rfl
theorem Wm:wfN JJ.reverse=true:=by kernel_rfl
theorem Ct (a:Int) (w:World) (h:-1000000<=a/\a<=1000000):Calls Tryz.prog 7 #[.int .i64 a] w fun e w'=>e=.returned (.agg #[.int .i64 (a*60000),.int .i64 (a*60000)])/\Below w.heap.size w w':=by
 refine Sx.calls (X:=cxS [a]) dP (fun s hs=>by cases hs) Ua Wm (fun v hs=>?_) w
 have e0:v 0=a:=aa hs 0 rfl;have w1:v 1=a*60000:=by rw [show v 1=IntKind.i64.wrap (v 0*(60000:Int)) from aa hs 1 rfl,e0,Go.IntWalk.i64_in _ (by omega)]
 refine ⟨bB ?_,?_⟩
 . exact bu
 . intro x hx0;have hx':=bM (v:=v) (by rfl) hx0
   rw [hx'];show Value.agg #[.int .i64 (v 1),.int .i64 (v 1)]=_;rw [w1]
def UT (a b c d e f g h:Int):Bool:=decide (¬ (a<e∨b>f)/\(h-g>=21600000∨(c-g)%21600000+d-c<=h-g))
def JE:List Nd:=[
 .arg 0,
 .arg 1,
 .arg 2,
 .arg 3,
 .arg 4,
 .arg 5,
 .arg 6,
 .arg 7,
 .bin .lss .i64 (.n 0) (.n 4),
 .bin .gtr .i64 (.n 1) (.n 5),
 .ite (.n 8) (.c 1) (.n 9),
 .ite (.n 10) (.c 0) (.c 1),
 .bin .sub .i64 (.n 7) (.n 6),
 .bin .geq .i64 (.n 12) (.c 21600000),
 .bin .sub .i64 (.n 2) (.n 6),
 .bin .rem .i64 (.n 14) (.c 21600000),
 .bin .lss .i64 (.n 15) (.c 0),
 .bin .add .i64 (.n 15) (.c 21600000),
 .ite (.n 16) (.c 0) (.c 1),
 .ite (.n 16) (.n 17) (.n 15),
 .bin .add .i64 (.n 19) (.n 3),
 .bin .sub .i64 (.n 20) (.n 2),
 .bin .leq .i64 (.n 21) (.n 12),
 .ite (.n 13) (.c 1) (.n 22),
 .ite (.n 10) (.c 0) (.n 23)]
def VN:List Vc:=[
 ]
theorem Sj:whole Tryz.prog [] 20 40 11 [(true,[some .i64,some .i64,some .i64,some .i64]),(true,[some .i64,some .i64,some .i64,some .i64])]=some (.p (.c (.bool (.n 24))),⟨JE.reverse,VN.reverse⟩):=by kernel_rfl
theorem Ug:wfN JE.reverse=true:=by kernel_rfl
theorem ZJ (a b c d y f g h:Int) (w:World) (hc:-10000000000<=c/\c<=10000000000) (hd:-10000000000<=d/\d<=10000000000) (hg:-10000000000<=g/\g<=10000000000) (hh:-10000000000<=h/\h<=10000000000):Calls Tryz.prog 11 #[.agg #[.int .i64 a,.int .i64 b,.int .i64 c,.int .i64 d],.agg #[.int .i64 y,.int .i64 f,.int .i64 g,.int .i64 h]] w fun e w'=>e=.returned (.bool (UT a b c d y f g h))/\Below w.heap.size w w':=by
 refine Sx.calls (X:=cxS [a,b,c,d,y,f,g,h]) dP (fun s hs=>by cases hs) Sj Ug (fun v hs=>?_) w
 have e0:v 0=a:=aa hs 0 rfl;have e1:v 1=b:=aa hs 1 rfl;have e2:v 2=c:=aa hs 2 rfl;have e3:v 3=d:=aa hs 3 rfl;have e4:v 4=y:=aa hs 4 rfl;have e5:v 5=f:=aa hs 5 rfl;have e6:v 6=g:=aa hs 6 rfl;have e7:v 7=h:=aa hs 7 rfl;have w8:v 8=b2i (decide (a<y)):=by rw [show v 8=b2i (decide (v 0<v 4)) from aa hs 8 rfl,e0,e4]
 have w9:v 9=b2i (decide (b>f)):=by rw [show v 9=b2i (decide (v 1>v 5)) from aa hs 9 rfl,e1,e5]
 have w10:v 10=if v 8≠0 then (1:Int) else v 9:=aa hs 10 rfl
 have w12:v 12=h-g:=by rw [show v 12=IntKind.i64.wrap (v 7-v 6) from aa hs 12 rfl,e7,e6,Go.IntWalk.i64_in _ (by omega)]
 have w13:v 13=b2i (decide (h-g>=21600000)):=by rw [show v 13=b2i (decide (v 12>=(21600000:Int))) from aa hs 13 rfl,w12]
 have w14:v 14=c-g:=by rw [show v 14=IntKind.i64.wrap (v 2-v 6) from aa hs 14 rfl,e2,e6,Go.IntWalk.i64_in _ (by omega)]
 have w19:v 19=(c-g)%21600000:=by rw [<-w14];exact gN (x:=v 14) (r:=v 15) (c:=v 16) (s:=v 17) (by omega) (aa hs 15 rfl) (aa hs 16 rfl) (aa hs 17 rfl) (aa hs 19 rfl)
 have m1:=Int.emod_nonneg (c-g) (show (21600000:Int)≠0 by decide)
 have m2:=Int.emod_lt_of_pos (c-g) (show (0:Int)<21600000 by decide)
 have w20:v 20=(c-g)%21600000+d:=by rw [show v 20=IntKind.i64.wrap (v 19+v 3) from aa hs 20 rfl,w19,e3,Go.IntWalk.i64_in _ (by omega)]
 have w21:v 21=(c-g)%21600000+d-c:=by rw [show v 21=IntKind.i64.wrap (v 20-v 2) from aa hs 21 rfl,w20,e2,Go.IntWalk.i64_in _ (by omega)]
 have w22:v 22=b2i (decide ((c-g)%21600000+d-c<=h-g)):=by rw [show v 22=b2i (decide (v 21<=v 12)) from aa hs 22 rfl,w21,w12]
 have w23:v 23=if v 13≠0 then (1:Int) else v 22:=aa hs 23 rfl
 have w24:v 24=if v 10≠0 then (0:Int) else v 23:=aa hs 24 rfl
 have wz:decide (v 24≠0)=UT a b c d y f g h:=by
  unfold UT;rw [w24,w23,w10,w8,w9,w13,w22];clear w24 w23 w10 w8 w9 w13 w22 w21 w20 w19 w14 w12
  by_cases q1:a<y<;>by_cases q2:b>f<;>by_cases q3:h-g>=21600000<;>by_cases q4:(c-g)%21600000+d-c<=h-g<;>simp [q1,q2,q3,q4,b2i]
 refine ⟨bB ?_,?_⟩
 . exact bu
 . intro x hx0;have hx':=bM (v:=v) (by rfl) hx0
   rw [hx'];show Value.bool (decide (v 24≠0))=_;rw [wz]
def t2 {α:Type} (a b:α):Nat->α
 | 0=>a
 | _+1=>b
theorem Uc (la de eh ez la2 de2 eh2 ez2 d0 d1 l0 l1:Int) (H Z I Y:Cs) (h:(frV la de eh ez la2 de2 eh2 ez2 d0 d1 l0 l1 H Z I Y).getD 4 0≠0):(frV la de eh ez la2 de2 eh2 ez2 d0 d1 l0 l1 H Z I Y).getD 0 0=0/\(frV la de eh ez la2 de2 eh2 ez2 d0 d1 l0 l1 H Z I Y).getD 1 0=0/\(frV la de eh ez la2 de2 eh2 ez2 d0 d1 l0 l1 H Z I Y).getD 2 0=0/\(frV la de eh ez la2 de2 eh2 ez2 d0 d1 l0 l1 H Z I Y).getD 3 0=0:=by
 unfold frV at h ⊢
 split
 . exact ⟨rfl,rfl,rfl,rfl⟩
 . rename_i c1;rw [if_neg c1] at h
   split
   . exact ⟨rfl,rfl,rfl,rfl⟩
   . rename_i c2;rw [if_neg c2] at h
     split
     . exact ⟨rfl,rfl,rfl,rfl⟩
     . rename_i c3;rw [if_neg c3] at h
       split
       . exact ⟨rfl,rfl,rfl,rfl⟩
       . rename_i c4;rw [if_neg c4] at h
         unfold dcV at h ⊢
         split
         . exact ⟨rfl,rfl,rfl,rfl⟩
         . rename_i c5;rw [if_neg c5] at h
           exact absurd rfl h
theorem ZQ {a0 a1 a2 a3 b0 b1 b2 b3 u v:Int} (h2:hrQ a2) (h3:hrQ a3) (k2:hrQ b2) (k3:hrQ b3):(-1000000000<=(dcV a0 a1 a2 a3 b0 b1 b2 b3 u v).getD 2 0/\(dcV a0 a1 a2 a3 b0 b1 b2 b3 u v).getD 2 0<=1000000000)/\(-1000000000<=(dcV a0 a1 a2 a3 b0 b1 b2 b3 u v).getD 3 0/\(dcV a0 a1 a2 a3 b0 b1 b2 b3 u v).getD 3 0<=1000000000):=by
 unfold hrQ at h2 h3 k2 k3;unfold dcV;split
 . exact ⟨by decide,by decide⟩
 . show (-1000000000<=dcL a2 a3 b2 b3/\dcL a2 a3 b2 b3<=1000000000)/\(-1000000000<=dcH a2 a3 b2 b3/\dcH a2 a3 b2 b3<=1000000000);have W:-500000000<=dcW a2 a3 b2 b3/\dcW a2 a3 b2 b3<=500000000:=by unfold dcW cvW;split<;>omega
   unfold dcL dcH trL trH;generalize dcW a2 a3 b2 b3=w at *
   generalize dcF a2 a3 b2 b3=f at *
   constructor<;>(split;omega;split;split<;>omega;omega)
theorem XR (l:List Int) (mi:Prop) [Decidable mi] (h2:-1000000000<=l.getD 2 0/\l.getD 2 0<=1000000000) (h3:-1000000000<=l.getD 3 0/\l.getD 3 0<=1000000000):(-10000000000<=(lkF l mi).getD 2 0/\(lkF l mi).getD 2 0<=10000000000)/\(-10000000000<=(lkF l mi).getD 3 0/\(lkF l mi).getD 3 0<=10000000000):=by
 unfold lkF;split
 . show (-10000000000<=(0:Int)/\(0:Int)<=10000000000)/\(-10000000000<=(0:Int)/\(0:Int)<=10000000000);decide
 . show (-10000000000<=(if mi then trL (-(l.getD 3 0)) (-(l.getD 2 0)) else l.getD 2 0)/\(if mi then trL (-(l.getD 3 0)) (-(l.getD 2 0)) else l.getD 2 0)<=10000000000)/\(-10000000000<=(if mi then trH (-(l.getD 3 0)) (-(l.getD 2 0)) else l.getD 3 0)/\(if mi then trH (-(l.getD 3 0)) (-(l.getD 2 0)) else l.getD 3 0)<=10000000000)
   generalize l.getD 2 0=x at *
   generalize l.getD 3 0=y at *
   unfold trL trH
   constructor<;>(split;split<;>omega;omega)
theorem ab5 (a c d m n:Int):(-10000000000<=(fo a a c d m n).getD 2 0/\(fo a a c d m n).getD 2 0<=10000000000)/\(-10000000000<=(fo a a c d m n).getD 3 0/\(fo a a c d m n).getD 3 0<=10000000000):=by
 unfold fo;split
 rotate_left
 . exact ⟨by decide,by decide⟩
 rename_i h
 unfold lkV;split
 . exact ⟨by decide,by decide⟩
 split
 . exact ⟨by decide,by decide⟩
 split
 . rename_i oo
   have oJ:=oo.1;have oK:=oo.2;unfold yE at oJ;unfold yG at oK
   have mm:ol m n<=qC m n:=by
    unfold ol qC;have:=h.2.2;have t:=JY (l:=m) (h:=n) (by omega)
    split<;>omega
   have cc:=h.2.1;have B:=WF (O4 a a (lkJ c) (lkK m n) (u0:=ol m n-lkK m n*60000) (u1:=qC m n-lkK m n*60000) (v0:=c-lkJ c*60000) (v1:=d-lkJ c*60000) (by omega) (by omega) (by omega) (by omega) (lkJ c*60000) ((lkJ c+1)*60000))
   exact XR _ _ B.1 B.2
 . exact ⟨by decide,by decide⟩
theorem acZ (la de eh ez la2 de2 eh2 ez2 d0 d1 l0 l1:Int) (H Z I Y:Cs):(-10000000000<=(frV la de eh ez la2 de2 eh2 ez2 d0 d1 l0 l1 H Z I Y).getD 2 0/\(frV la de eh ez la2 de2 eh2 ez2 d0 d1 l0 l1 H Z I Y).getD 2 0<=10000000000)/\(-10000000000<=(frV la de eh ez la2 de2 eh2 ez2 d0 d1 l0 l1 H Z I Y).getD 3 0/\(frV la de eh ez la2 de2 eh2 ez2 d0 d1 l0 l1 H Z I Y).getD 3 0<=10000000000):=by
 unfold frV;split
 . exact ⟨by decide,by decide⟩
 rename_i c1
 split
 . exact ⟨by decide,by decide⟩
 split
 . exact ⟨by decide,by decide⟩
 rename_i c3
 split
 . exact ⟨by decide,by decide⟩
 rename_i c4
 rw [Bool.not_eq_false] at c1;simp only [Bool.and_eq_true] at c1;obtain ⟨⟨⟨v1,v2⟩,v3⟩,v4⟩:=c1;have o1:=nD v1;have o2:=nD v2;have a4:=(aJ _ _).1 v4;have kN:((frN l0:Nat):Int)=frK l0:=by unfold frN frK;omega
 have kb:0<=frK l0/\frK l0<=179/\0<=l0-frK l0*60000:=by unfold frK;omega
 have q1:=Cc (u:=l0-frK l0*60000) (v:=l1-frK l0*60000) (mD o1.2.2.2.2.2.2.1 o1.2.2.2.2.2.2.2 (frN l0) (by omega) (by omega)) (mD o1.2.2.2.2.2.2.1 o1.2.2.2.2.2.2.2 (frN l0+1) (by omega) (by omega)) o1.2.2.2.2.1 o1.2.2.2.2.2.1 (by omega) (by omega)
 have q2:=Cc (u:=l0-frK l0*60000) (v:=l1-frK l0*60000) (mD o2.2.2.2.2.2.2.1 o2.2.2.2.2.2.2.2 (frN l0) (by omega) (by omega)) (mD o2.2.2.2.2.2.2.1 o2.2.2.2.2.2.2.2 (frN l0+1) (by omega) (by omega)) o2.2.2.2.2.1 o2.2.2.2.2.2.1 (by omega) (by omega)
 have B:=ZQ (u:=d0-de*60000) (v:=d1-de*60000) (a0:=frE H Z eh ez l0 l1 0) (a1:=frE H Z eh ez l0 l1 1) (b0:=frE I Y eh2 ez2 l0 l1 0) (b1:=frE I Y eh2 ez2 l0 l1 1) q1.2.1.2.2.1 q1.2.1.2.2.2 q2.2.1.2.2.1 q2.2.1.2.2.2;exact ⟨⟨Int.le_trans (by decide) B.1.1,Int.le_trans B.1.2 (by decide)⟩,⟨Int.le_trans (by decide) B.2.1,Int.le_trans B.2.2 (by decide)⟩⟩
theorem WZ {la:Int} {De Eh Ez xh xz:Nat->Int} {Hs Zs:Nat->Cs} {X Y S:Nat->Nat->Nat->Int} {k:Nat} {K:Int} (i:Nat) (hK:(k:Int)=K)
 (ex:xh i=(wrV (la*60000) (la*60000) (De i*60000) (De i*60000) K).getD 0 0) (ez:xz i=(wrV (la*60000) (la*60000) (De i*60000) (De i*60000) K).getD 1 0)
 (eX:∀ j n,X i j n=ro (Hs i) (k+j) n) (eY:∀ j n,Y i j n=ro (Zs i) (k+j) n) (eS:∀ j n,S i j n=(slV (la*60000) (la*60000) (De i*60000) (De i*60000) (((k:Int)+(j:Int))*60000) (((k:Int)+(j:Int))*60000)).getD n 0)
 (h:TbG Eh Ez xh xz X Y S i):TbQ la (De i) (Eh i) (Ez i) K (Hs i) (Zs i) k:=by
 obtain ⟨h1,h2,h3⟩:=h;have j0:=h3 0 (by omega);have j1:=h3 1 (by omega)
 unfold TbE at j0 j1;rw [eX,eX,eY,eY,eS,eS,eS,eS] at j0 j1;rw [show ((k:Int)+((0:Nat):Int))*60000=K*60000 by rw [hK];omega,show k+0=k from rfl] at j0
 rw [show ((k:Int)+((1:Nat):Int))*60000=(K+1)*60000 by rw [hK];omega] at j1
 rw [ex] at h1;rw [ez] at h2;exact ⟨h1,h2,j0,j1⟩
theorem UD (la de eh ez la2 de2 eh2 ez2 d0 d1 l0 l1:Int) (aH aZ bH bZ:Option Addr) (cH cZ dH dZ:Nat) (H Z I Y:Cs) (w:World) (hH:SlI 2 w aH H) (hZ:SlI 2 w aZ Z) (hI:SlI 2 w bH I) (hY:SlI 2 w bZ Y) :
 Calls Tryz.prog 3 #[.agg #[.int .i64 la,.int .i64 de,.slice aH H.length cH,.slice aZ Z.length cZ,.int .i64 eh,.int .i64 ez],.agg #[.int .i64 la2,.int .i64 de2,.slice bH I.length dH,.slice bZ Y.length dZ,.int .i64 eh2,.int .i64 ez2],.agg #[.int .i64 d0,.int .i64 d1],.agg #[.int .i64 l0,.int .i64 l1]] w fun e w'=>e=.returned (.bool true)/\Below w.heap.size w w':=by
 have N:∀ m n:Nat,(decide (m>200) || decide (n>200))=false->m<=200/\n<=200:=by
  intro m n h;simp at h;exact h
 have CF:=fun (p:(decide (H.length>200) || decide (Z.length>200))=false) (q:(decide (I.length>200) || decide (Y.length>200))=false) (wx:World) (hb:Below w.heap.size w wx)=>Ta la de eh ez la2 de2 eh2 ez2 d0 d1 l0 l1 aH aZ bH bZ cH cZ dH dZ H Z I Y wx (hH.below hb) (hZ.below hb) (hI.below hb) (hY.below hb) (N _ _ p).1 (N _ _ p).2 (N _ _ q).1 (N _ _ q).2
 by_cases p:(decide (H.length>200) || decide (Z.length>200))=true
 . exact xO la de eh ez la2 de2 eh2 ez2 d0 d1 l0 l1 aH aZ bH bZ H.length cH Z.length cZ I.length dH Y.length dZ _ _ 1 w (.inl p) (Lib.hid (fun w=>nL w)) (Lib.hid (fun w=>jB la de eh ez aH aZ H.length cH Z.length cZ w)) (Lib.hid (fun w=>jB la2 de2 eh2 ez2 bH bZ I.length dH Y.length dZ w)) (Lib.hid (fun q=>by rw [p] at q;cases q))
 by_cases q:(decide (I.length>200) || decide (Y.length>200))=true
 . exact xO la de eh ez la2 de2 eh2 ez2 d0 d1 l0 l1 aH aZ bH bZ H.length cH Z.length cZ I.length dH Y.length dZ _ _ 1 w (.inr (.inl q)) (Lib.hid (fun w=>nL w)) (Lib.hid (fun w=>jB la de eh ez aH aZ H.length cH Z.length cZ w)) (Lib.hid (fun w=>jB la2 de2 eh2 ez2 bH bZ I.length dH Y.length dZ w)) (Lib.hid (fun _ r=>by rw [q] at r;cases r))
 rw [Bool.not_eq_true] at p q
 by_cases h0:(frV la de eh ez la2 de2 eh2 ez2 d0 d1 l0 l1 H Z I Y).getD 4 0=0
 rotate_left
 . obtain ⟨z0,z1,z2,z3⟩:=Uc la de eh ez la2 de2 eh2 ez2 d0 d1 l0 l1 H Z I Y h0
   exact xO la de eh ez la2 de2 eh2 ez2 d0 d1 l0 l1 aH aZ bH bZ H.length cH Z.length cZ I.length dH Y.length dZ _ _ ((frV la de eh ez la2 de2 eh2 ez2 d0 d1 l0 l1 H Z I Y).getD 4 0) w (.inr (.inr h0)) (Lib.hid (fun w=>nL w)) (Lib.hid (fun w=>jB la de eh ez aH aZ H.length cH Z.length cZ w)) (Lib.hid (fun w=>jB la2 de2 eh2 ez2 bH bZ I.length dH Y.length dZ w)) (Lib.hid (fun p q wx hb=>by
    have:=CF p q wx hb;rw [z0,z1,z2,z3] at this;exact this))
 have TI:=LW h0;obtain ⟨⟨t1,t2',t3,t4,t5,t6,t7,t8,t9,t10,t11⟩,TC⟩:=TI;subst t3;subst t4;have CF:=CF p q;have P0:=fun w=>jB la2 de eh ez aH aZ H.length cH Z.length cZ w
 have Q0:=fun w=>jB la2 (de+1) eh2 ez2 bH bZ I.length dH Y.length dZ w
 rw [p] at P0;rw [q] at Q0;rw [h0] at CF;have lH:=hH.len;have lZ:=hZ.len;have lI:=hI.len;have lY:=hY.len;rcases hH with g|⟨b1,o1,rfl,R1⟩
 . rw [g] at t8;cases t8
 rcases hZ with g|⟨b2,o2,rfl,R2⟩
 . rw [g] at t9;cases t9
 rcases hI with g|⟨b3,o3,rfl,R3⟩
 . rw [g] at t10;cases t10
 rcases hY with g|⟨b4,o4,rfl,R4⟩
 . rw [g] at t11;cases t11
 rw [t8,t9,t10,t11] at CF;rw [t8,t9] at P0;rw [t10,t11] at Q0;rw [t8,t9,t10,t11];have kN:((frN l0:Nat):Int)=frK l0:=by unfold frN frK;omega
 have kb:0<=frK l0/\frK l0<=179:=by unfold frK;omega
 have F:=acZ la2 de eh ez la2 (de+1) eh2 ez2 d0 d1 l0 l1 H Z I Y;have L:=ab5 (la2*60000) d0 d1 l0 l1
 have bde:∀ i,i<2->-90<=t2 de (de+1) i/\t2 de (de+1) i<=90:=by
  intro i hi;obtain rfl|rfl:i=0∨i=1:=by omega
  . show -90<=de/\de<=90;omega
  . show -90<=de+1/\de+1<=90;omega
 have RH:∀ i,i<2->jQ 2 w (t2 b1 b3 i) (t2 o1 o3 i) (t2 H I i):=by
  intro i hi;obtain rfl|rfl:i=0∨i=1:=by omega
  . exact R1
  . exact R3
 have RZ:∀ i,i<2->jQ 2 w (t2 b2 b4 i) (t2 o2 o4 i) (t2 Z Y i):=by
  intro i hi;obtain rfl|rfl:i=0∨i=1:=by omega
  . exact R2
  . exact R4
 have LH:∀ i,i<2->(t2 H I i).length=181/\(t2 Z Y i).length=181:=by
  intro i hi;obtain rfl|rfl:i=0∨i=1:=by omega
  . exact ⟨t8,t9⟩
  . exact ⟨t10,t11⟩
 refine UQ la2 d0 d1 l0 l1 ((frV la2 de eh ez la2 (de+1) eh2 ez2 d0 d1 l0 l1 H Z I Y).getD 0 0) ((frV la2 de eh ez la2 (de+1) eh2 ez2 d0 d1 l0 l1 H Z I Y).getD 1 0) ((frV la2 de eh ez la2 (de+1) eh2 ez2 d0 d1 l0 l1 H Z I Y).getD 2 0) ((frV la2 de eh ez la2 (de+1) eh2 ez2 d0 d1 l0 l1 H Z I Y).getD 3 0) ((fo (la2*60000) (la2*60000) d0 d1 l0 l1).getD 0 0) ((fo (la2*60000) (la2*60000) d0 d1 l0 l1).getD 1 0) ((fo (la2*60000) (la2*60000) d0 d1 l0 l1).getD 2 0) ((fo (la2*60000) (la2*60000) d0 d1 l0 l1).getD 3 0) ((fo (la2*60000) (la2*60000) d0 d1 l0 l1).getD 4 0) (t2 de (de+1)) (t2 eh eh2) (t2 ez ez2)
  (fun i=>(wrV (la2*60000) (la2*60000) (t2 de (de+1) i*60000) (t2 de (de+1) i*60000) (frK l0)).getD 0 0) (fun i=>(wrV (la2*60000) (la2*60000) (t2 de (de+1) i*60000) (t2 de (de+1) i*60000) (frK l0)).getD 1 0)
  (t2 b1 b3) (t2 o1 o3) (t2 cH dH) (t2 b2 b4) (t2 o2 o4) (t2 cZ dZ) (frN l0) (t2 H I) (t2 Z Y) (fun i j n=>ro (t2 H I i) (frN l0+j) n) (fun i j n=>ro (t2 Z Y i) (frN l0+j) n)
  (fun i j n=>(slV (la2*60000) (la2*60000) (t2 de (de+1) i*60000) (t2 de (de+1) i*60000) (((frN l0:Nat):Int)*60000+(j:Int)*60000) (((frN l0:Nat):Int)*60000+(j:Int)*60000)).getD n 0) _ w (by omega) (by omega) (Lib.hid kN) (bde 1 (by omega)) (Lib.hid RH) (Lib.hid RZ) (Lib.hid LH) (Lib.hid ?_) (Lib.hid ?_) (Lib.hid (fun w=>nL w)) (Lib.hid P0) (Lib.hid Q0) (Lib.hid CF) (Lib.hid (fun w=>Ct la2 w (by omega))) (Lib.hid (fun i hi w=>Ct _ w (by have:=bde i hi;omega))) (Lib.hid (fun j hj w=>Ct _ w (by omega))) (Lib.hid (fun i hi w=>?_)) (Lib.hid (fun i hi j hj w=>?_)) (Lib.hid (fun w=>JO _ _ _ _ _ _ w)) (Lib.hid (fun w=>ZJ _ _ _ _ _ _ _ _ w L.1 L.2 F.1 F.2))
 . intro i hi j hj;have l1':=(LH i hi).1;have l2':=(LH i hi).2;rw [List.getElem?_eq_getElem (by omega),List.getElem?_eq_getElem (by omega)]
   have a1:=jL (RH i hi).len (frN l0+j) (by omega)
   have a2:=jL (RZ i hi).len (frN l0+j) (by omega)
   exact ⟨congrArg some a1,congrArg some a2⟩
 . intro g1 g2;have u1:=WZ (la:=la2) (Hs:=t2 H I) (Zs:=t2 Z Y) (K:=frK l0) 0 kN rfl rfl (fun _ _=>rfl) (fun _ _=>rfl) (fun j n=>by simp only [Int.add_mul]) g1
   have u2:=WZ (la:=la2) (Hs:=t2 H I) (Zs:=t2 Z Y) (K:=frK l0) 1 kN rfl rfl (fun _ _=>rfl) (fun _ _=>rfl) (fun j n=>by simp only [Int.add_mul]) g2
   by_cases nd:d0=(de+1)*60000
   . exact .inr (.inl nd)
   . obtain ⟨f1,f2,f3,f4⟩:=TC nd u1 u2;refine .inr (.inr ⟨f1,?_⟩);unfold UT;refine decide_eq_true ⟨by omega,?_⟩
     unfold Inn at f4;omega
 . have b:=bde i hi;have:=LC (la2*60000) (la2*60000) (t2 de (de+1) i*60000) (t2 de (de+1) i*60000) (frK l0) w (by omega) (by omega) (by omega)
   rw [kN];exact this
 . have b:=bde i hi;have e:(((frN l0:Nat):Int)+(j:Int))*60000=((frN l0:Nat):Int)*60000+(j:Int)*60000:=by omega
   rw [e];exact ES _ _ _ _ _ _ w (by unfold fB;omega)
