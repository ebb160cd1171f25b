/- Plain numbers: the plan the other way round, the plan on the other hemisphere. -/
import Derived.Test.YtknhbpnclokciaaZComN
set_option linter.unusedVariables false
set_option linter.unusedSimpArgs false
namespace Go.Proofs.Ytknhbpnclokciaa
open Go.RowKit Alm Sx
theorem bn (a b c d:Int):gI (-b) (-a) c d=-iq a b c d:=by
 unfold gI iq mn4 mx4;rw [Int.neg_mul,Int.neg_mul,Int.neg_mul,Int.neg_mul,Int.neg_neg];generalize a*c=x1;generalize a*d=x2;generalize b*c=x3;generalize b*d=x4;have:min (min (min (-x3) (-x4)) (-x1)) (-x2)=-(max (max (max x1 x2) x3) x4):=by omega
 rw [this]
theorem lh (a b c d:Int):iq (-b) (-a) c d=-gI a b c d:=by
 have h:=bn (-b) (-a) c d;rw [Int.neg_neg,Int.neg_neg] at h;omega
theorem oo (a:Int) (h0:-5400000<a) (h1:a<5400000):uS (-a) (-a)=(-bHi a,-bLo a):=by
 have p:=Jt a (by omega) (by omega)
 have q:=Jt (-a) (by omega) (by omega)
 rw [Int.neg_neg] at q;have r:bLo (-a)=-bHi a:=by omega
 rw [XH (-a) (by omega) (by omega),r,p]
theorem gz (a l:Int) (h0:-l<a) (h1:a<l) (hl:l<=5399999):(eZ (-a) l).1=-(eZ a l).2/\(eZ (-a) l).2=-(eZ a l).1:=by
 unfold eZ;rw [(U_M (U_S (-a) (-a)) (U_C l l)).1,(U_M (U_S a a) (U_C l l)).1,oo a (by omega) (by omega),XH a (by omega) (by omega)]
 exact ⟨bn _ _ _ _,lh _ _ _ _⟩
theorem l7 (a:Int) (h0:-5400000<a) (h1:a<5400000):uC (-a) (-a)=uC a a:=by
 obtain ⟨A,hA,hA0⟩:∃ A:Int,(A=a∨A=-a)/\0<=A:=by
  rcases Int.le_total 0 a with h|h
  . exact ⟨a,.inl rfl,h⟩
  . exact ⟨-a,.inr rfl,by omega⟩
 rw [Xr a (by omega) (by omega) A hA hA0,Xr (-a) (by omega) (by omega) A (by omega) hA0]
theorem eQ (a l:Int) (h0:-l<a) (h1:a<l) (hl:l<=5399999):eG (-a) l=eG a l:=by
 unfold eG;rw [l7 a (by omega) (by omega)]
theorem bv (a b c d:Int):il (-b) (-a) c d=-iQ a b c d:=by
 unfold il iQ jJ;simp only [Int.neg_mul];generalize -(a*1073741824)/c=x1;generalize -(a*1073741824)/d=x2;generalize -(b*1073741824)/c=x3;generalize -(b*1073741824)/d=x4;have mi:∀ a b:Int,lI a b=min a b:=fun a b=>by unfold lI;split<;>omega
 have ma:∀ a b:Int,lL a b=max a b:=fun a b=>by unfold lL;split<;>omega
 rw [mi,mi,mi,ma,ma,ma];omega
theorem kW (a b c d:Int):iQ (-b) (-a) c d=-il a b c d:=by
 have h:=bv (-b) (-a) c d;rw [Int.neg_neg,Int.neg_neg] at h;omega
theorem lq (x:Int):o9 (-x)=10800000-qK x:=by
 unfold o9 qK;have:-(lI (-x) 1073741824)=lL x (-1073741824):=by unfold lI lL;split<;>split<;>omega
 rw [this];omega
theorem lC (x:Int):qK (-x)=10800000-o9 x:=by
 unfold o9 qK;have:lL (-x) (-1073741824)=-(lI x 1073741824):=by unfold lI lL;split<;>split<;>omega
 rw [this];omega
theorem bX (a l:Int) (h:-l<=a/\a<=l) (hl:1<=l/\l<5400000):gp (-a) l=10800000-gu a l/\gu (-a) l=10800000-gp a l:=by
 unfold gp gu
 by_cases e1:a=l
 . have q1:¬ (-a=l):=by omega
   have q2:-a=-l:=by omega
   simp only [if_neg q1,if_pos q2,if_pos e1];omega
 . by_cases e2:a=-l
   . have q1:-a=l:=by omega
     simp only [if_pos q1,if_neg e1,if_pos e2];omega
   . have q1:¬ (-a=l):=by omega
     have q2:¬ (-a=-l):=by omega
     simp only [if_neg q1,if_neg q2,if_neg e1,if_neg e2];have n:=gz a l (by omega) (by omega) (by omega)
     rw [eQ a l (by omega) (by omega) (by omega),n.1,n.2,kW,bv]
     exact ⟨lq _,lC _⟩
theorem gq (a l:Int) (h:-l<=a/\a<=l) (hl:1<=l/\l<5400000):gp a l<=gu a l:=by
 unfold gp gu
 by_cases e1:a=l
 . simp only [if_pos e1];omega
 . by_cases e2:a=-l
   . simp only [if_neg e1,if_pos e2];omega
   . simp only [if_neg e1,if_neg e2];obtain ⟨_,_,_,f,x1,x2⟩:=Rw a l (by omega) (by omega) (by omega)
     have f:=((bO _ _).1 f).2.1;generalize il (eZ a l).1 (eZ a l).2 (eG a l).1 (eG a l).2=L at *
     generalize iQ (eZ a l).1 (eZ a l).2 (eG a l).1 (eG a l).2=H at *
     unfold o9 qK;have:=Ox (lL L (-1073741824)) (lI H 1073741824) (by unfold lI lL;split<;>split<;>omega)
     omega
theorem dd2 (p q:List Int):dd [p,q]=[p]++(if q=p then [] else [q]):=by
 by_cases h1:q=p<;>simp_all [dd,ddA]
theorem dd4 (p q r s:List Int):dd [p,q,r,s]=[p]++(if q=p then [] else [q])++(if r=q then [] else [r])++(if s=r then [] else [s]):=by
 by_cases h1:q=p<;>by_cases h2:r=q<;>by_cases h3:s=r<;>simp_all [dd,ddA]
theorem lF (p q:List Int):dd [q,p]=(dd [p,q]).reverse:=by
 rw [dd2,dd2];simp only [show (p=q)=(q=p) from propext eq_comm]
 by_cases h1:q=p<;>simp_all
theorem bY (p q r s:List Int):dd [s,r,q,p]=(dd [p,q,r,s]).reverse:=by
 rw [dd4,dd4];simp only [show (p=q)=(q=p) from propext eq_comm,show (q=r)=(r=q) from propext eq_comm,show (r=s)=(s=r) from propext eq_comm]
 by_cases h1:q=p<;>by_cases h2:r=q<;>by_cases h3:s=r<;>simp_all
def ngP (x:List Int):List Int:=[-(x.getD 0 0),x.getD 1 0]
theorem lT (a b:Int):ngP [a,b]=[-a,b]:=rfl
theorem lX (a b c d:Int):(([-a,b]:List Int)=[-c,d])=([a,b]=[c,d]):=by
 apply propext;simp only [List.cons.injEq,and_true];omega
theorem l5 (a b c d:Int):dd [[-a,b],[-c,d]]=(dd [[a,b],[c,d]]).map ngP:=by
 rw [dd2,dd2];simp only [lX]
 by_cases h1:[c,d]=[a,b]<;>simp [h1,ngP]
theorem kM (a b c d e f g h:Int):dd [[-a,b],[-c,d],[-e,f],[-g,h]]=(dd [[a,b],[c,d],[e,f],[g,h]]).map ngP:=by
 rw [dd4,dd4];simp only [lX]
 have k:∀ (P:Prop) [Decidable P] (u v:Int),(if P then [] else [[-u,v]]:Cs)=(if P then [] else [[u,v]]:Cs).map ngP:=by
  intro P _ u v;split<;>rfl
 rw [k,k,k];simp only [List.map_append,List.map_cons,List.map_nil,lT]
theorem lD (n:Int) (h:sgd n≠-10800000):sgd (-n)=-(sgd n):=by
 unfold sgd at *
 split at h<;>split<;>omega
theorem bD (a b c d l:Int) (h:sgd (d-b)≠-10800000):aF c d a b l=(aF a b c d l).reverse:=by
 have e:=lD (d-b) h;rw [show -(d-b)=b-d by omega] at e
 have x:=Bb a l;have y:=Bb c l;unfold aF nY nW;rw [e];generalize sgd (d-b)=q at *
 have m:max (-q) (-(-q))=max q (-q):=by omega
 rw [m,Int.add_comm (gu c l) (gu a l),Int.add_comm (10800000-gp c l) (10800000-gp a l)]
 have W:∀ (u:Int),q≠0->(if decide (-q<0)=true then -u else u)=-(if decide (q<0)=true then -u else u):=by
  intro u hq
  by_cases g:q<0
  . rw [decide_eq_true g,decide_eq_false (by omega)];simp
  . rw [decide_eq_false g,decide_eq_true (by omega)];simp
 by_cases p1:gu a l+gu c l<max q (-q)
 . rw [if_pos p1,if_pos p1,W _ (by omega),W _ (by omega),<-bY,Int.sub_neg,<-Int.sub_eq_add_neg]
 . rw [if_neg p1,if_neg p1]
   by_cases p2:(10800000-gp a l)+(10800000-gp c l)<max q (-q)
   . rw [if_pos p2,if_pos p2,W _ (by omega),W _ (by omega),<-bY,Int.sub_neg,<-Int.sub_eq_add_neg]
   . rw [if_neg p2,if_neg p2,<-lF]
theorem eP (a b c d l:Int) (h1:-l<=a/\a<=l) (h2:-l<=c/\c<=l) (hl:1<=l/\l<5400000):aF (-a) b (-c) d l=(aF a b c d l).map ngP:=by
 have x:=bX a l h1 hl;have y:=bX c l h2 hl;have xb:=Bb a l;have yb:=Bb c l;have xl:=gq a l h1 hl;have yl:=gq c l h2 hl;have s:=jb (d-b);have hD:max (sgd (d-b)) (-(sgd (d-b)))<=10800000:=by omega
 unfold aF nY nW;rw [x.1,x.2,y.1,y.2];generalize decide (sgd (d-b)<0)=q at *
 generalize max (sgd (d-b)) (-(sgd (d-b)))=D at *
 clear x y s;generalize gp a l=X1 at *
 generalize gu a l=X2 at *
 generalize gp c l=Y1 at *
 generalize gu c l=Y2 at *
 by_cases p1:X2+Y2<D
 . rw [if_pos p1,if_neg (show ¬ (10800000-X1+(10800000-Y1)<D) by omega),if_pos (show 10800000-(10800000-X2)+(10800000-(10800000-Y2))<D by omega),show 10800000-(10800000-X1)+(10800000-(10800000-X2))=X1+X2 by omega,show 10800000-(10800000-Y1)+(10800000-(10800000-Y2))=Y1+Y2 by omega]
   exact kM _ _ _ _ _ _ _ _
 . rw [if_neg p1]
   by_cases p2:10800000-X1+(10800000-Y1)<D
   . rw [if_pos p2,if_pos p2];have:=kM a b (-l) (sgd (b+if q=true then -((10800000-X2+(10800000-X1))/2) else (10800000-X2+(10800000-X1))/2)) (-l) (sgd (d-if q=true then -((10800000-Y2+(10800000-Y1))/2) else (10800000-Y2+(10800000-Y1))/2)) c d
     rw [Int.neg_neg] at this;exact this
   . rw [if_neg p2,if_neg p2,if_neg (show ¬ (10800000-(10800000-X2)+(10800000-(10800000-Y2))<D) by omega)]
     exact l5 _ _ _ _
