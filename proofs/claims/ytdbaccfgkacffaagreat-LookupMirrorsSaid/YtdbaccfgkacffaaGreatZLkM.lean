/- Plain numbers: the solution by tables with the opposite hour angle. -/
import Derived.Test.YtdbaccfgkacffaaGreatZLkP
import Derived.Test.YtdbaccfgkacffaaGreatZCosM
set_option linter.unusedVariables false
set_option linter.unusedSimpArgs false
namespace Go.Proofs.YtdbaccfgkacffaaGreat
open Go.RowKit Alm Sx
def smF (l h:Int):Prop:=(l+h)%21600000=0
theorem adW (a b c d:Int):smF ((slV a b c d 0 0).getD 2 0) ((slV a b c d 0 0).getD 3 0):=by
 show smF ((azV a b c d 0 0).getD 0 0) ((azV a b c d 0 0).getD 1 0);have h:=(NS a b c d 0 0 (by omega)).1
 rw [Int.neg_zero] at h;unfold smF;generalize (azV a b c d 0 0).getD 0 0=x at *
 generalize (azV a b c d 0 0).getD 1 0=y at *
 omega
theorem Uo (a b c d:Int):azV a b c d (-10800000) (-10800000)=azV a b c d 10800000 10800000:=by
 have s:uS (-10800000) (-10800000)=uS 10800000 10800000:=by kernel_rfl
 have c:uC (-10800000) (-10800000)=uC 10800000 10800000:=by kernel_rfl
 unfold azV azY azX;rw [s,c]
theorem adL (a b c d:Int):smF ((slV a b c d 10800000 10800000).getD 2 0) ((slV a b c d 10800000 10800000).getD 3 0):=by
 show smF ((azV a b c d 10800000 10800000).getD 0 0) ((azV a b c d 10800000 10800000).getD 1 0);have h:=(NS a b c d 10800000 10800000 (by omega)).1
 rw [Uo] at h;unfold smF;generalize (azV a b c d 10800000 10800000).getD 0 0=x at *
 generalize (azV a b c d 10800000 10800000).getD 1 0=y at *
 omega
theorem ac5 (a b:Int):atF a b 0=a:=by unfold atF;omega
theorem abP (a b:Int):atC a b 0=a:=by unfold atC;omega
theorem adq (a b:Int):atF a b 60000=b:=by unfold atF;omega
theorem adm (a b:Int):atC a b 60000=b:=by unfold atC;omega
theorem He:smF 0 21600000:=by unfold smF;decide
theorem Wp {l h:Int} (k:smF l h):smF (trL l h) (trH l h):=by
 unfold smF trL trH at *
 split<;>omega
theorem U4 (x:Int):∃ k:Int,sgt x=x+21600000*k:=by
 unfold sgt;split
 . exact ⟨-(x/21600000)-1,by omega⟩
 . exact ⟨-(x/21600000),by omega⟩
theorem Hy (a0 a1 a2 a3 b0 b1 b2 b3 f g u v:Int):0<=(hrV a0 a1 a2 a3 b0 b1 b2 b3 f g u v).getD 2 0/\(hrV a0 a1 a2 a3 b0 b1 b2 b3 f g u v).getD 2 0<21600000:=by
 show 0<=(if hrB a2 a3 b2 b3 then trL (hrL a2 b2 u v g) (hrH a2 a3 b2 b3 u v g) else 0)/\(if hrB a2 a3 b2 b3 then trL (hrL a2 b2 u v g) (hrH a2 a3 b2 b3 u v g) else 0)<21600000
 unfold trL;split
 . split<;>omega
 . omega
theorem adg (a0 a1 a2 a3 b0 b1 b2 b3 f g u:Int) (h:(u=0/\smF a2 a3)∨(u=60000/\smF b2 b3)):smF ((hrV a0 a1 a2 a3 b0 b1 b2 b3 f g u u).getD 2 0) ((hrV a0 a1 a2 a3 b0 b1 b2 b3 f g u u).getD 3 0):=by
 show smF (if hrB a2 a3 b2 b3 then trL (hrL a2 b2 u u g) (hrH a2 a3 b2 b3 u u g) else 0) (if hrB a2 a3 b2 b3 then trH (hrL a2 b2 u u g) (hrH a2 a3 b2 b3 u u g) else 21600000)
 by_cases q:hrB a2 a3 b2 b3
 . rw [if_pos q,if_pos q];apply Wp;unfold hrL hrH ovL ovH smF at *
   rcases h with ⟨rfl,h⟩|⟨rfl,h⟩
   . rw [ac5,abP];omega
   . rw [adq,adm];obtain ⟨k,e⟩:=U4 (b2-a2);rw [e];omega
 . rw [if_neg q,if_neg q];exact He
theorem aa0 {a2 a3 b2 b3:Int} (ha:a2<=a3) (hb:b2<=b3):0<=dcW a2 a3 b2 b3:=by
 unfold dcW cvW;split<;>omega
theorem SH {a2 a3 b2 b3:Int} (ha:a2<=a3) (hb:b2<=b3):0<=dcL a2 a3 b2 b3/\dcL a2 a3 b2 b3<21600000/\dcL a2 a3 b2 b3<=dcH a2 a3 b2 b3/\dcH a2 a3 b2 b3<=dcL a2 a3 b2 b3+21600000:=by
 have W:=aa0 ha hb;unfold dcL dcH trL trH;generalize dcW a2 a3 b2 b3=w at *
 generalize dcF a2 a3 b2 b3=f at *
 split
 . omega
 . split
   . split<;>omega
   . omega
theorem XT {a2 a3 b2 b3:Int} (ha:0<=a2/\a2<21600000/\a2<=a3/\a3-a2<21600000) (hb:0<=b2/\b2<21600000/\b2<=b3/\b3-b2<21600000) (sa:smF a2 a3) (sb:smF b2 b3) (hw:dcW a2 a3 b2 b3<10800000):smF (dcF a2 a3 b2 b3) (dcF a2 a3 b2 b3+dcW a2 a3 b2 b3):=by
 unfold smF at *
 have xa:a2+a3=0∨a2+a3=21600000∨a2+a3=43200000:=by omega
 have xb:b2+b3=0∨b2+b3=21600000∨b2+b3=43200000:=by omega
 clear sa sb;have m1:(b2-a2)%21600000=if b2<a2 then b2-a2+21600000 else b2-a2:=by split<;>omega
 have m2:(a2-b2)%21600000=if a2<b2 then a2-b2+21600000 else a2-b2:=by split<;>omega
 unfold dcW cvW at hw;unfold dcF dcW cvW;rw [m1,m2] at *
 clear m1 m2;rcases xa with xa|xa|xa<;>rcases xb with xb|xb|xb<;>(split at hw<;>split<;>omega)
theorem acY {a2 a3 b2 b3:Int} (ha:0<=a2/\a2<21600000/\a2<=a3) (hb:0<=b2/\b2<21600000/\b2<=b3) (sa:smF a2 a3) (sb:smF b2 b3):smF (dcL a2 a3 b2 b3) (dcH a2 a3 b2 b3):=by
 unfold dcL dcH
 by_cases q:dcB a2 a3 b2 b3
 . rw [if_pos q,if_pos q];exact He
 . rw [if_neg q,if_neg q]
   by_cases hw:dcW a2 a3 b2 b3<10800000
   . rw [if_pos hw,if_pos hw];unfold dcB at q;exact Wp (XT (by omega) (by omega) sa sb hw)
   . rw [if_neg hw,if_neg hw];exact He
theorem Bj (m n:Int):dP m n=if trH m n>10800000 then 21600000-trH m n else trL m n:=by
 by_cases q:trH m n>10800000
 . rw [if_pos q];exact if_pos q
 . rw [if_neg q];exact if_neg q
theorem Bt (m n:Int):gJ m n=if trH m n>10800000 then 21600000-trL m n else trH m n:=by
 by_cases q:trH m n>10800000
 . rw [if_pos q];exact if_pos q
 . rw [if_neg q];exact if_neg q
theorem RH {m n:Int} (h:m<=n) (hs:¬ jT m n):dP (-n) (-m)=dP m n/\gJ (-n) (-m)=gJ m n/\¬ jT (-n) (-m)/\((lkM m n/\¬ lkM (-n) (-m))∨(¬ lkM m n/\lkM (-n) (-m))∨(¬ lkM m n/\¬ lkM (-n) (-m)/\gJ m n=dP m n/\(dP m n=0∨dP m n=10800000))):=by
 have hx:trH m n=if n-m>=21600000 then 21600000 else m%21600000+(n-m):=rfl
 have hy:trL m n=if n-m>=21600000 then 0 else m%21600000:=rfl
 have hz:trH (-n) (-m)=if n-m>=21600000 then 21600000 else -n%21600000+(n-m):=by
  unfold trH;rw [show -m - -n=n-m by omega]
 have hu:trL (-n) (-m)=if n-m>=21600000 then 0 else -n%21600000:=by
  unfold trL;rw [show -m - -n=n-m by omega]
 rw [Bj,Bj,Bt,Bt];have hs':¬ (trH m n>10800000/\(trL m n<10800000∨trH m n>21600000)):=hs;show _/\_/\¬ (trH (-n) (-m)>10800000/\(trL (-n) (-m)<10800000∨trH (-n) (-m)>21600000))/\((trH m n>10800000/\¬ trH (-n) (-m)>10800000)∨(¬ trH m n>10800000/\trH (-n) (-m)>10800000)∨(¬ trH m n>10800000/\¬ trH (-n) (-m)>10800000/\_/\_));clear hs;generalize trH m n=H at *
 generalize trL m n=L at *
 generalize trH (-n) (-m)=H2 at *
 generalize trL (-n) (-m)=L2 at *
 by_cases w:n-m>=21600000
 . rw [if_pos w] at hx hy;omega
 . rw [if_neg w] at hx hy hz hu
   by_cases p:H>10800000
   . rw [if_pos p,if_pos p];have p2:¬ H2>10800000:=by omega
     rw [if_neg p2,if_neg p2];refine ⟨by omega,by omega,by omega,.inl ⟨p,p2⟩⟩
   . rw [if_neg p,if_neg p]
     by_cases p2:H2>10800000
     . rw [if_pos p2,if_pos p2];refine ⟨by omega,by omega,by omega,.inr (.inl ⟨p,p2⟩)⟩
     . rw [if_neg p2,if_neg p2];refine ⟨by omega,by omega,by omega,.inr (.inr ⟨p,p2,by omega,by omega⟩)⟩
theorem PE {a0 a1 a2 a3 b0 b1 b2 b3 u v:Int} (h:(dcV a0 a1 a2 a3 b0 b1 b2 b3 u v).getD 4 0=0):(dcV a0 a1 a2 a3 b0 b1 b2 b3 u v).getD 2 0=dcL a2 a3 b2 b3/\(dcV a0 a1 a2 a3 b0 b1 b2 b3 u v).getD 3 0=dcH a2 a3 b2 b3:=by
 unfold dcV at *
 by_cases q:dcM a0 a1 b0 b1>5100000
 . rw [if_pos q] at h;exact absurd h (by decide)
 . rw [if_neg q];exact ⟨rfl,rfl⟩
theorem aaC {a0 a1 a2 a3 b0 b1 b2 b3 f g u v:Int} (ha:QW a0 a1 a2 a3) (hb:QW b0 b1 b2 b3) (hg:0<=g) (hu:0<=u/\u<=60000) (hv:0<=v/\v<=60000):(hrV a0 a1 a2 a3 b0 b1 b2 b3 f g u v).getD 2 0<=(hrV a0 a1 a2 a3 b0 b1 b2 b3 f g u v).getD 3 0:=by
 obtain ⟨ha1,ha2⟩:=ha;obtain ⟨hb1,hb2⟩:=hb;have x6:=Bh (a:=a2) (b:=a2+sgt (b2-a2)) (a2:=a3) (b2:=a2+sgt (b2-a2)+b3-b2) (by omega) (by omega) hu
 have HL:hrL a2 b2 u v g<=hrH a2 a3 b2 b3 u v g:=by
  unfold hrL hrH ovL ovH;generalize atF a2 (a2+sgt (b2-a2)) u=P1 at *
  generalize atF a2 (a2+sgt (b2-a2)) v=P2 at *
  generalize atC a3 (a2+sgt (b2-a2)+b3-b2) u=P3 at *
  generalize atC a3 (a2+sgt (b2-a2)+b3-b2) v=P4 at *
  omega
 have T:=xE HL;show (if hrB a2 a3 b2 b3 then trL (hrL a2 b2 u v g) (hrH a2 a3 b2 b3 u v g) else 0)<=(if hrB a2 a3 b2 b3 then trH (hrL a2 b2 u v g) (hrH a2 a3 b2 b3 u v g) else 21600000)
 split<;>omega
theorem zw (a b D n K0 K1 u v:Int) (hu:0<=u/\u<=60000) (hv:0<=v/\v<=60000):0<=lkR a b D n K0 K1 u v 2/\lkR a b D n K0 K1 u v 2<21600000/\lkR a b D n K0 K1 u v 2<=lkR a b D n K0 K1 u v 3:=by
 refine ⟨(Hy _ _ _ _ _ _ _ _ _ _ _ _).1,(Hy _ _ _ _ _ _ _ _ _ _ _ _).2,?_⟩;exact aaC (fD a b D K0) (fD a b D K1) (jy a b D n).2.1 hu hv
theorem EE (a b J K:Int) {u0 u1 v0 v1:Int} (hu:0<=u0/\u0<=60000) (hu1:0<=u1/\u1<=60000) (h:(lkC a b J K u0 u1 v0 v1).getD 4 0=0):0<=(lkC a b J K u0 u1 v0 v1).getD 2 0/\(lkC a b J K u0 u1 v0 v1).getD 2 0<21600000/\(lkC a b J K u0 u1 v0 v1).getD 2 0<=(lkC a b J K u0 u1 v0 v1).getD 3 0/\(lkC a b J K u0 u1 v0 v1).getD 3 0<=(lkC a b J K u0 u1 v0 v1).getD 2 0+21600000:=by
 unfold lkC at *
 obtain ⟨e2,e3⟩:=PE h;rw [e2,e3];exact SH (zw _ _ _ _ _ _ _ _ hu hu1).2.2 (zw _ _ _ _ _ _ _ _ hu hu1).2.2
theorem QE (a b D n K u:Int) (h:(u=0/\K=0)∨(u=60000/\K=179)):smF (lkR a b D n (K*60000) ((K+1)*60000) u u 2) (lkR a b D n (K*60000) ((K+1)*60000) u u 3):=by
 unfold lkR;apply adg;unfold lkI;rcases h with ⟨rfl,rfl⟩|⟨rfl,rfl⟩
 . left
   rw [show (0:Int)*60000=0 from rfl]
   exact ⟨rfl,adW _ _ _ _⟩
 . right
   rw [show ((179:Int)+1)*60000=10800000 from rfl]
   exact ⟨rfl,adL _ _ _ _⟩
theorem XD (a b J K:Int) {u v0 v1:Int} (hu:(u=0/\K=0)∨(u=60000/\K=179)) (h:(lkC a b J K u u v0 v1).getD 4 0=0):smF ((lkC a b J K u u v0 v1).getD 2 0) ((lkC a b J K u u v0 v1).getD 3 0):=by
 unfold lkC at *
 obtain ⟨e2,e3⟩:=PE h;rw [e2,e3];have b:0<=u/\u<=60000:=by omega
 exact acY (zw _ _ _ _ _ _ _ _ b b) (zw _ _ _ _ _ _ _ _ b b) (QE _ _ _ _ _ _ hu) (QE _ _ _ _ _ _ hu)
theorem Wh (l:List Int) (p q:Prop) [Decidable p] [Decidable q] (h:(lkF l p).getD 4 0=0) (form:l.getD 4 0=0->0<=l.getD 2 0/\l.getD 2 0<21600000/\l.getD 2 0<=l.getD 3 0/\l.getD 3 0<=l.getD 2 0+21600000) (hc:(p/\¬ q)∨(¬ p/\q)∨(¬ p/\¬ q/\(l.getD 4 0=0->smF (l.getD 2 0) (l.getD 3 0)))) :
 (lkF l q).getD 4 0=0/\(lkF l q).getD 0 0=(lkF l p).getD 0 0/\(lkF l q).getD 1 0=(lkF l p).getD 1 0/\((trL (-(lkF l q).getD 3 0) (-(lkF l q).getD 2 0)=(lkF l p).getD 2 0/\trH (-(lkF l q).getD 3 0) (-(lkF l q).getD 2 0)=(lkF l p).getD 3 0)∨((lkF l p).getD 3 0-(lkF l p).getD 2 0>=21600000/\(lkF l q).getD 3 0-(lkF l q).getD 2 0>=21600000)):=by
 by_cases z:l.getD 4 0=0
 . have f:=form z
   have e:∀ (r:Prop) [Decidable r],lkF l r=[l.getD 0 0,l.getD 1 0,if r then trL (-(l.getD 3 0)) (-(l.getD 2 0)) else l.getD 2 0,if r then trH (-(l.getD 3 0)) (-(l.getD 2 0)) else l.getD 3 0,0]:=fun r _=>by
    unfold lkF;rw [if_neg (by rw [z];decide)]
   rw [e p,e q];refine ⟨rfl,rfl,rfl,?_⟩;show (trL (-(if q then trH (-(l.getD 3 0)) (-(l.getD 2 0)) else l.getD 3 0)) (-(if q then trL (-(l.getD 3 0)) (-(l.getD 2 0)) else l.getD 2 0))=(if p then trL (-(l.getD 3 0)) (-(l.getD 2 0)) else l.getD 2 0)/\trH (-(if q then trH (-(l.getD 3 0)) (-(l.getD 2 0)) else l.getD 3 0)) (-(if q then trL (-(l.getD 3 0)) (-(l.getD 2 0)) else l.getD 2 0))=(if p then trH (-(l.getD 3 0)) (-(l.getD 2 0)) else l.getD 3 0))∨((if p then trH (-(l.getD 3 0)) (-(l.getD 2 0)) else l.getD 3 0)-(if p then trL (-(l.getD 3 0)) (-(l.getD 2 0)) else l.getD 2 0)>=21600000/\(if q then trH (-(l.getD 3 0)) (-(l.getD 2 0)) else l.getD 3 0)-(if q then trL (-(l.getD 3 0)) (-(l.getD 2 0)) else l.getD 2 0)>=21600000)
   have s:p∨q∨smF (l.getD 2 0) (l.getD 3 0):=by
    rcases hc with c|c|c
    . exact .inl c.1
    . exact .inr (.inl c.2)
    . exact .inr (.inr (c.2.2 z))
   generalize l.getD 2 0=x at *
   generalize l.getD 3 0=y at *
   rcases hc with ⟨hp,hq⟩|⟨hp,hq⟩|⟨hp,hq,_⟩
   . rw [if_pos hp,if_pos hp,if_neg hq,if_neg hq];exact .inl ⟨rfl,rfl⟩
   . rw [if_neg hp,if_neg hp,if_pos hq,if_pos hq]
     by_cases w:y-x>=21600000
     . right
       have w2:-x - -y>=21600000:=by omega
       refine ⟨w,?_⟩;unfold trL trH;rw [if_pos w2,if_pos w2];omega
     . left
       have w2:¬ -x - -y>=21600000:=by omega
       have e1:trL (-y) (-x)=-y%21600000:=if_neg w2;have e2:trH (-y) (-x)=-y%21600000+(-x - -y):=if_neg w2;rw [e1,e2];have w3:¬ -(-y%21600000) - -(-y%21600000+(-x - -y))>=21600000:=by omega
       unfold trL trH;rw [if_neg w3,if_neg w3];omega
   . rw [if_neg hp,if_neg hp,if_neg hq,if_neg hq];have s3:=(s.resolve_left hp).resolve_left hq;unfold smF at s3
     by_cases w:y-x>=21600000
     . exact .inr ⟨w,w⟩
     . left
       have w2:¬ -x - -y>=21600000:=by omega
       unfold trL trH;rw [if_neg w2,if_neg w2];omega
 . unfold lkF at h;rw [if_pos z] at h;exact absurd h z
theorem Nv {m n:Int} (h:m<=n):0<=dP m n/\dP m n<=gJ m n∨jT m n:=by
 have t:=xE h;rw [Bj,Bt];show _∨(trH m n>10800000/\(trL m n<10800000∨trH m n>21600000));generalize trH m n=H at *
 generalize trL m n=L at *
 by_cases q:H>10800000
 . rw [if_pos q,if_pos q];omega
 . rw [if_neg q,if_neg q];omega
theorem X5 (a b c d m n:Int) (h:(bK a b c d m n).getD 4 0=0) :
 (bK a b c d (-n) (-m)).getD 4 0=0/\(bK a b c d (-n) (-m)).getD 0 0=(bK a b c d m n).getD 0 0/\(bK a b c d (-n) (-m)).getD 1 0=(bK a b c d m n).getD 1 0/\((trL (-(bK a b c d (-n) (-m)).getD 3 0) (-(bK a b c d (-n) (-m)).getD 2 0)=(bK a b c d m n).getD 2 0/\trH (-(bK a b c d (-n) (-m)).getD 3 0) (-(bK a b c d (-n) (-m)).getD 2 0)=(bK a b c d m n).getD 3 0)∨((bK a b c d m n).getD 3 0-(bK a b c d m n).getD 2 0>=21600000/\(bK a b c d (-n) (-m)).getD 3 0-(bK a b c d (-n) (-m)).getD 2 0>=21600000)):=by
 by_cases hT:dI a b c d m n
 . have hT2:dI a b c d (-n) (-m):=by
    unfold dI at *;exact ⟨hT.1,hT.2.1,by omega⟩
   have hmn:m<=n:=hT.2.2.2.1;rw [show bK a b c d m n=lkV a b c d m n from if_pos hT] at *
   rw [show bK a b c d (-n) (-m)=lkV a b c d (-n) (-m) from if_pos hT2]
   by_cases h1:a≠b∨Int.tmod a 60000≠0
   . unfold lkV at h;rw [if_pos h1] at h;exact absurd h (by decide)
   . by_cases h2:jT m n
     . unfold lkV at h;rw [if_neg h1,if_pos h2] at h;exact absurd h (by decide)
     . by_cases h3:pY c d/\l8 m n
       . obtain ⟨f0,f1,f2,f3⟩:=RH hmn h2;have fK:lkK (-n) (-m)=lkK m n:=by unfold lkK;rw [f0]
         have fO:pY c d/\l8 (-n) (-m):=⟨h3.1,by have:=h3.2;unfold l8 at *;rw [fK,f0,f1];exact this⟩
         have e1:lkV a b c d m n=lkF (lkC a b (lkJ c) (lkK m n) (dP m n-lkK m n*60000) (gJ m n-lkK m n*60000) (c-lkJ c*60000) (d-lkJ c*60000)) (lkM m n):=by
          unfold lkV;rw [if_neg h1,if_neg h2,if_pos h3]
         have e2:lkV a b c d (-n) (-m)=lkF (lkC a b (lkJ c) (lkK m n) (dP m n-lkK m n*60000) (gJ m n-lkK m n*60000) (c-lkJ c*60000) (d-lkJ c*60000)) (lkM (-n) (-m)):=by
          unfold lkV;rw [if_neg h1,if_neg f2,if_pos fO,fK,f0,f1]
         have o:=(Nv hmn).resolve_right h2;have k:=h3.2;unfold l8 at k;rw [e1] at h ⊢
         rw [e2];clear e1 e2;refine Wh _ _ _ h (EE _ _ _ _ (by omega) (by omega)) ?_
         rcases f3 with g|g|⟨g1,g2,g3,g4⟩
         . exact .inl g
         . exact .inr (.inl g)
         . refine .inr (.inr ⟨g1,g2,?_⟩);rw [g3]
           have kk:(dP m n-lkK m n*60000=0/\lkK m n=0)∨(dP m n-lkK m n*60000=60000/\lkK m n=179):=by
            unfold lkK;rcases g4 with g4|g4<;>rw [g4]<;>decide
           exact XD _ _ _ _ kk
       . unfold lkV at h;rw [if_neg h1,if_neg h2,if_neg h3] at h;exact absurd h (by decide)
 . rw [show bK a b c d m n=[0,0,0,0,1] from if_neg hT] at h
   exact absurd h (by decide)
theorem VC (l:List Int) (p:Prop) [Decidable p] (h:(lkF l p).getD 4 0=0) (form:l.getD 4 0=0->0<=l.getD 2 0/\l.getD 2 0<21600000/\l.getD 2 0<=l.getD 3 0/\l.getD 3 0<=l.getD 2 0+21600000):0<=(lkF l p).getD 2 0/\(lkF l p).getD 2 0<21600000/\(lkF l p).getD 2 0<=(lkF l p).getD 3 0/\(lkF l p).getD 3 0<=(lkF l p).getD 2 0+21600000:=by
 by_cases z:l.getD 4 0=0
 . have f:=form z
   have e:lkF l p=[l.getD 0 0,l.getD 1 0,if p then trL (-(l.getD 3 0)) (-(l.getD 2 0)) else l.getD 2 0,if p then trH (-(l.getD 3 0)) (-(l.getD 2 0)) else l.getD 3 0,0]:=by
    unfold lkF;rw [if_neg (by rw [z];decide)]
   rw [e];show 0<=(if p then trL (-(l.getD 3 0)) (-(l.getD 2 0)) else l.getD 2 0)/\(if p then trL (-(l.getD 3 0)) (-(l.getD 2 0)) else l.getD 2 0)<21600000/\(if p then trL (-(l.getD 3 0)) (-(l.getD 2 0)) else l.getD 2 0)<=(if p then trH (-(l.getD 3 0)) (-(l.getD 2 0)) else l.getD 3 0)/\(if p then trH (-(l.getD 3 0)) (-(l.getD 2 0)) else l.getD 3 0)<=(if p then trL (-(l.getD 3 0)) (-(l.getD 2 0)) else l.getD 2 0)+21600000
   by_cases hp:p
   . rw [if_pos hp,if_pos hp];unfold trL trH;split<;>omega
   . rw [if_neg hp,if_neg hp];exact f
 . unfold lkF at h;rw [if_pos z] at h;exact absurd h z
theorem NK (a b c d m n:Int) (h:(bK a b c d m n).getD 4 0=0):0<=(bK a b c d m n).getD 2 0/\(bK a b c d m n).getD 2 0<21600000/\(bK a b c d m n).getD 2 0<=(bK a b c d m n).getD 3 0/\(bK a b c d m n).getD 3 0<=(bK a b c d m n).getD 2 0+21600000:=by
 by_cases hT:dI a b c d m n
 . have hmn:m<=n:=hT.2.2.2.1;rw [show bK a b c d m n=lkV a b c d m n from if_pos hT] at *
   by_cases h1:a≠b∨Int.tmod a 60000≠0
   . unfold lkV at h;rw [if_pos h1] at h;exact absurd h (by decide)
   . by_cases h2:jT m n
     . unfold lkV at h;rw [if_neg h1,if_pos h2] at h;exact absurd h (by decide)
     . by_cases h3:pY c d/\l8 m n
       . have e1:lkV a b c d m n=lkF (lkC a b (lkJ c) (lkK m n) (dP m n-lkK m n*60000) (gJ m n-lkK m n*60000) (c-lkJ c*60000) (d-lkJ c*60000)) (lkM m n):=by
          unfold lkV;rw [if_neg h1,if_neg h2,if_pos h3]
         have o:=(Nv hmn).resolve_right h2;have k:=h3.2;unfold l8 at k;rw [e1] at h ⊢
         clear e1;exact VC _ _ h (EE _ _ _ _ (by omega) (by omega))
       . unfold lkV at h;rw [if_neg h1,if_neg h2,if_neg h3] at h;exact absurd h (by decide)
 . rw [show bK a b c d m n=[0,0,0,0,1] from if_neg hT] at h
   exact absurd h (by decide)
