/- Plain numbers: lists of digits of 28 bits. -/
import Derived.Test.YtoniodlcogpdbaaGreatZNums
import Derived.Test.YtoniodlcogpdbaaGreatZKp
import Derived.Deep.AppendLies
import Derived.Deep.Light
import Derived.Lib.SliceRun
import Derived.Deep.QuietTactic
import Derived.BigQuiet
import Derived.Laws.MakeOwn
import Derived.IntWalk
import Derived.Laws.NewBlocks
import Derived.Deep.RegionHeld3
import Derived.Test.YtoniodlcogpdbaaGreatZArcLo
set_option linter.unusedVariables false
set_option linter.unusedSimpArgs false
set_option maxRecDepth 100000
set_option maxHeartbeats 8000000
namespace Alm
def BB:Nat:=268435456
theorem aU:BB=268435456:=rfl
theorem pJ (n:Nat):0<BB^n:=Nat.pow_pos (by rw [aU];omega)
def vd:List Nat->Nat
 | []=>0
 | d::l=>d+BB*vd l
def Dg (l:List Nat):Prop:=∀ d∈l,d<BB
def Tr (l:List Nat):Prop:=Dg l/\(l.length=0∨BB^(l.length-1)<=vd l)
theorem sF:∀ (l m:List Nat),vd (l++m)=vd l+BB^l.length*vd m
 | [],m=>by simp [vd]
 | d::l,m=>by
  simp only [List.cons_append,vd,List.length_cons];rw [sF l m,Nat.pow_succ];grind
theorem YJ (d:Nat):vd [d]=d:=by simp [vd]
theorem kU (l:List Nat) (d:Nat):vd (l++[d])=vd l+BB^l.length*d:=by rw [sF,YJ]
theorem qJ:∀ {l:List Nat},Dg l->vd l<BB^l.length
 | [],_=>by simp [vd]
 | d::l,h=>by
  have h1:=qJ (l:=l) (fun x hx=>h x (List.mem_cons_of_mem _ hx))
  have h2:=h d (List.mem_cons_self ..);simp only [vd,List.length_cons,Nat.pow_succ];have:BB*(vd l+1)<=BB*BB^l.length:=Nat.mul_le_mul_left _ h1;have e:BB*(vd l+1)=BB*vd l+BB:=by grind
  have e2:BB*BB^l.length=BB^l.length*BB:=Nat.mul_comm _ _;omega
theorem Cv:Dg []:=by intro d hd;cases hd
theorem qZ {l:List Nat} {d:Nat} (h:Dg l) (hd:d<BB):Dg (l++[d]):=by
 intro x hx;rcases List.mem_append.1 hx with hx|hx
 . exact h x hx
 . rw [List.mem_singleton.1 hx];exact hd
theorem pW {l:List Nat} (h:Dg l) (n:Nat):Dg (l.take n):=fun x hx=>h x (List.mem_of_mem_take hx)
theorem KO {l:List Nat} (h:Dg l) (n:Nat):Dg (l.drop n):=fun x hx=>h x (List.mem_of_mem_drop hx)
theorem Yf {l:List Nat} (h:Dg l) {i:Nat} (hi:i<l.length):l[i]<BB:=h _ (List.getElem_mem hi)
theorem Bj {l:List Nat} (h:Dg l) {i x:Nat} (hx:x<BB):Dg (l.set i x):=by
 intro y hy;rcases List.mem_or_eq_of_mem_set hy with h1|h1
 . exact h y h1
 . rw [h1];exact hx
theorem Gs {l:List Nat} {i:Nat} (hi:i<l.length):l.take (i+1)=l.take i++[l[i]]:=by
 rw [List.take_succ_eq_append_getElem hi]
theorem jg {l:List Nat} {i:Nat} (hi:i<l.length):vd (l.take (i+1))=vd (l.take i)+BB^i*l[i]:=by
 rw [Gs hi,kU,List.length_take,Nat.min_eq_left (by omega)]
theorem bO {l:List Nat} {i:Nat} (hi:l.length<=i):vd (l.take i)=vd l:=by rw [List.take_of_length_le hi]
theorem qM (l:List Nat) (n:Nat) (hn:n<=l.length):vd l=vd (l.take n)+BB^n*vd (l.drop n):=by
 have:=sF (l.take n) (l.drop n);rw [List.take_append_drop,List.length_take,Nat.min_eq_left hn] at this;exact this
theorem fA {l:List Nat} {i:Nat} (hi:i<l.length):vd (l.drop i)=l[i]+BB*vd (l.drop (i+1)):=by
 rw [List.drop_eq_getElem_cons hi];rfl
theorem mf {l:List Nat}:vd (l.drop l.length)=0:=by rw [List.drop_length];rfl
theorem Aq:∀ (l:List Nat) (j x:Nat) (hj:j<l.length),vd (l.set j x)+BB^j*l[j]=vd l+BB^j*x
 | d::l,0,x,_=>by simp [vd];omega
 | d::l,j+1,x,hj=>by
  have h:=Aq l j x (by simpa using hj)
  simp only [List.set_cons_succ,vd,List.getElem_cons_succ,Nat.pow_succ];have e1:BB^j*BB*l[j]'(by simpa using hj)=BB*(BB^j*l[j]'(by simpa using hj)):=by grind
  have e2:BB^j*BB*x=BB*(BB^j*x):=by grind
  rw [e1,e2];have:BB*(vd (l.set j x)+BB^j*l[j]'(by simpa using hj))=BB*(vd l+BB^j*x):=by rw [h]
  rw [Nat.mul_add,Nat.mul_add] at this;omega
theorem Dq (n:Nat):vd (List.replicate n 0)=0:=by
 induction n with
 | zero=>rfl
 | succ n ih=>simp only [List.replicate_succ,vd,ih];rfl
theorem wU (n:Nat):Dg (List.replicate n 0):=by
 intro d hd;rw [(List.mem_replicate.1 hd).2];rw [aU];omega
theorem wK:Tr []:=⟨Cv,.inl rfl⟩
theorem Cj {l:List Nat} (h:Tr l):l.length=0↔vd l=0:=by
 constructor
 . intro e;rw [List.eq_nil_of_length_eq_zero e];rfl
 . intro e;rcases h.2 with k|k
   . exact k
   . have:=pJ (l.length-1);omega
theorem Pw {l:List Nat} (h:Tr l) {n:Nat} (hv:vd l<BB^n):l.length<=n:=by
 rcases h.2 with k|k
 . omega
 . rcases Nat.lt_or_ge n l.length with q|q
   . have:BB^n<=BB^(l.length-1):=Nat.pow_le_pow_right (by rw [aU];omega) (by omega)
     omega
   . exact q
theorem Ai {a b:List Nat} (ha:Tr a) (hb:Tr b) (h:vd b<=vd a):b.length<=a.length:=Pw hb (by have:=qJ ha.1;omega)
def zK (l:List Nat) (n:Nat):Prop:=n<=l.length/\vd (l.take n)=vd l
theorem EW (l:List Nat):zK l l.length:=⟨Nat.le_refl _,bO (Nat.le_refl _)⟩
theorem F6 {l:List Nat} {n:Nat} (h:zK l (n+1)) (hn:n<l.length) (hz:l[n]=0):zK l n:=by
 refine ⟨by omega,?_⟩
 have:=h.2;rw [jg hn,hz] at this;omega
theorem zZ {l:List Nat} (hd:Dg l) {n:Nat} (h:zK l n) (hz:n=0∨∃ h:n-1<l.length,l[n-1]≠0):Tr (l.take n)/\vd (l.take n)=vd l/\(l.take n).length=n:=by
 have hl:(l.take n).length=n:=by rw [List.length_take,Nat.min_eq_left h.1]
 refine ⟨⟨pW hd n,?_⟩,h.2,hl⟩;rcases hz with hz|⟨hz,hnz⟩
 . left;rw [hl];exact hz
 . right
   by_cases n0:n=0
   . subst n0;simp at hl ⊢
     have:vd l=vd (l.take 0):=h.2.symm;simp [vd] at this;exfalso;have h2:=qM l 1 (by omega)
     have h3:=jg (l:=l) (i:=0) (by omega)
     simp [vd] at h3;rw [h3] at h2;have:l[0]≠0:=hnz;omega
   . rw [hl];obtain ⟨m,rfl⟩:∃ m,n=m+1:=⟨n-1,by omega⟩
     simp only [Nat.add_sub_cancel] at hz hnz ⊢
     rw [jg hz];have:BB^m*1<=BB^m*l[m]:=Nat.mul_le_mul_left _ (by omega)
     omega
def Pj (a b o:List Nat) (i c:Nat):Prop:=o.length=i/\Dg o/\c<=1/\vd o+BB^i*c=vd (a.take i)+vd (b.take i)/\(i<=max a.length b.length∨(i=max a.length b.length+1/\BB^(i-1)<=vd o+BB^i*c))
theorem IA (a b:List Nat):Pj a b [] 0 0:=⟨rfl,Cv,by omega,by simp [vd],.inl (by omega)⟩
def dgt (l:List Nat) (i:Nat):Nat:=if h:i<l.length then l[i] else 0
theorem eU {l:List Nat} (h:Dg l) (i:Nat):dgt l i<BB:=by
 unfold dgt;split
 . exact Yf h _
 . rw [aU];omega
theorem dN (l:List Nat) (i:Nat):vd (l.take (i+1))=vd (l.take i)+BB^i*dgt l i:=by
 unfold dgt;split
 . rename_i h;exact jg h
 . rename_i h;rw [List.take_of_length_le (by omega),List.take_of_length_le (by omega)];simp
theorem M8 {a b o:List Nat} {i c:Nat} (ha:Dg a) (hb:Dg b) (h:Pj a b o i c) (hg:i<a.length∨i<b.length∨0<c) :
 Pj a b (o++[(c+dgt a i+dgt b i)%BB]) (i+1) ((c+dgt a i+dgt b i)/BB)/\c+dgt a i+dgt b i<2*BB:=by
 obtain ⟨h1,h2,h3,h4,h5⟩:=h;have la:=eU ha i;have lb:=eU hb i;have hB:0<BB:=by rw [aU];omega
 have hd:=Nat.div_add_mod (c+dgt a i+dgt b i) BB;have hm:=Nat.mod_lt (c+dgt a i+dgt b i) hB;have hv:vd (o++[(c+dgt a i+dgt b i)%BB])+BB^(i+1)*((c+dgt a i+dgt b i)/BB)=vd (a.take (i+1))+vd (b.take (i+1)):=by
  rw [kU,h1,Nat.pow_succ,dN,dN];have e:BB^i*((c+dgt a i+dgt b i)%BB)+BB^i*BB*((c+dgt a i+dgt b i)/BB)=BB^i*(c+dgt a i+dgt b i):=by
   have g:∀ r q s:Nat,BB*q+r=s->BB^i*r+BB^i*BB*q=BB^i*s:=by intro r q s h;rw [<-h];grind
   exact g _ _ _ hd
  have e2:BB^i*(c+dgt a i+dgt b i)=BB^i*c+BB^i*dgt a i+BB^i*dgt b i:=by rw [Nat.mul_add,Nat.mul_add]
  omega
 refine ⟨⟨by rw [List.length_append,h1];rfl,qZ h2 hm,?_,hv,?_⟩,by omega⟩
 . have:(c+dgt a i+dgt b i)/BB<2:=Nat.div_lt_of_lt_mul (by omega)
   omega
 . rcases h5 with h5|⟨h5,h6⟩
   . by_cases hi:i<max a.length b.length
     . left;omega
     . right
       refine ⟨by omega,?_⟩
       rw [hv,bO (by omega),bO (by omega),<-bO (l:=a) (i:=i) (by omega),<-bO (l:=b) (i:=i) (by omega),<-h4]
       have hc:1<=c:=by omega
       have:BB^i*1<=BB^i*c:=Nat.mul_le_mul_left _ hc;simp only [Nat.add_sub_cancel];omega
   . exfalso;have hi:max a.length b.length<=i:=by omega
     have e:=h4;rw [bO (by omega),bO (by omega)] at e
     have va:=qJ ha;have vb:=qJ hb;have pa:BB^a.length<=BB^(i-1):=Nat.pow_le_pow_right hB (by omega)
     have pb:BB^b.length<=BB^(i-1):=Nat.pow_le_pow_right hB (by omega)
     have hc:1<=c:=by omega
     have:BB^i*1<=BB^i*c:=Nat.mul_le_mul_left _ hc;have q:BB^i=BB^(i-1)*BB:=by rw [<-Nat.pow_succ];congr 1;omega
     have:BB^(i-1)*2<=BB^(i-1)*BB:=Nat.mul_le_mul_left _ (by rw [aU];omega)
     omega
theorem NV {a b o:List Nat} {i:Nat} (ha:Tr a) (hb:Tr b) (h:Pj a b o i 0) (hi:a.length<=i/\b.length<=i):Tr o/\vd o=vd a+vd b:=by
 obtain ⟨h1,h2,h3,h4,h5⟩:=h;rw [bO hi.1,bO hi.2] at h4;simp at h4;refine ⟨⟨h2,?_⟩,h4⟩
 by_cases i0:i=0
 . left;omega
 . right
   rw [h1];rcases h5 with h5|⟨h5,h6⟩
   . have hm:i=a.length∨i=b.length:=by omega
     rcases hm with e|e
     . rcases ha.2 with k|k
       . omega
       . rw [<-e] at k;omega
     . rcases hb.2 with k|k
       . omega
       . rw [<-e] at k;omega
   . simpa using h6
theorem gK {l:List Nat} {i:Nat} (h:i<l.length):dgt l i=l[i]:=by unfold dgt;rw [dif_pos h]
theorem og {l:List Nat} {i:Nat} (h:l.length<=i):dgt l i=0:=by unfold dgt;rw [dif_neg (by omega)]
theorem Kl {l:List Nat} {i j x:Nat} (h:i≠j):dgt (l.set i x) j=dgt l j:=by
 unfold dgt
 by_cases hj:j<l.length
 . rw [dif_pos hj,dif_pos (by rw [List.length_set];exact hj),List.getElem_set_ne h]
 . rw [dif_neg hj,dif_neg (by rw [List.length_set];exact hj)]
def OL (a b o:List Nat) (i:Nat):Prop:=o.length=a.length+b.length/\Dg o/\i<=a.length/\vd o=vd (a.take i)*vd b/\∀ j,i+b.length<=j->dgt o j=0
def PM (a b o:List Nat) (i k c:Nat):Prop:=o.length=a.length+b.length/\Dg o/\i<a.length/\k<=b.length/\c<BB/\vd o+BB^(i+k)*c=vd (a.take i)*vd b+BB^i*(dgt a i*vd (b.take k))/\∀ j,i+b.length<=j->dgt o j=0
theorem IE (a b:List Nat):OL a b (List.replicate (a.length+b.length) 0) 0 :=
 ⟨by simp,wU _,by omega,by rw [Dq];simp [vd],fun j _=>by unfold dgt;split<;>simp⟩
theorem F7 {a b o:List Nat} {i:Nat} (h:OL a b o i) (hi:i<a.length):PM a b o i 0 0:=by
 obtain ⟨h1,h2,h3,h4,h5⟩:=h;exact ⟨h1,h2,hi,by omega,by rw [aU];omega,by rw [h4];simp [vd],h5⟩
theorem Lt {a b o:List Nat} {i k c:Nat} (ha:Dg a) (hb:Dg b) (h:PM a b o i k c) (hk:k<b.length) :
 dgt o (i+k)+dgt a i*dgt b k+c<BB*BB/\PM a b (o.set (i+k) ((dgt o (i+k)+dgt a i*dgt b k+c)%BB)) i (k+1) ((dgt o (i+k)+dgt a i*dgt b k+c)/BB):=by
 obtain ⟨h1,h2,h3,h4,h5,h6,h7⟩:=h;have la:=eU ha i;have lb:=eU hb k;have lo:=eU h2 (i+k);have hB:0<BB:=by rw [aU];omega
 have hm:dgt a i*dgt b k<=(BB-1)*(BB-1):=Nat.mul_le_mul (by omega) (by omega)
 have hq:(BB-1)*(BB-1)+2*BB=BB*BB+1:=by rw [aU]
 have hlt:dgt o (i+k)+dgt a i*dgt b k+c<BB*BB:=by omega
 refine ⟨hlt,by rw [List.length_set];exact h1,Bj h2 (Nat.mod_lt _ hB),h3,by omega,Nat.div_lt_of_lt_mul hlt,?_,fun j hj=>?_⟩
 . have hs:=Aq o (i+k) ((dgt o (i+k)+dgt a i*dgt b k+c)%BB) (by omega)
   rw [<-gK (l:=o) (by omega)] at hs
   have hd:=Nat.div_add_mod (dgt o (i+k)+dgt a i*dgt b k+c) BB;generalize (dgt o (i+k)+dgt a i*dgt b k+c)%BB=r at *
   generalize (dgt o (i+k)+dgt a i*dgt b k+c)/BB=q at *
   rw [dN];have e1:BB^(i+(k+1))*q+BB^(i+k)*r=BB^(i+k)*(dgt o (i+k)+dgt a i*dgt b k+c):=by rw [<-hd,show i+(k+1)=i+k+1 by omega,Nat.pow_succ];grind
   have e2:BB^(i+k)*(dgt o (i+k)+dgt a i*dgt b k+c)=BB^(i+k)*dgt o (i+k)+BB^(i+k)*(dgt a i*dgt b k)+BB^(i+k)*c:=by rw [Nat.mul_add,Nat.mul_add]
   have e3:BB^i*(dgt a i*(vd (b.take k)+BB^k*dgt b k))=BB^i*(dgt a i*vd (b.take k))+BB^(i+k)*(dgt a i*dgt b k):=by rw [Nat.pow_add];grind
   rw [e3];omega
 . rw [Kl (by omega)];exact h7 j hj
theorem Qm {a b o:List Nat} {i c:Nat} (h:PM a b o i b.length c):OL a b (o.set (i+b.length) c) (i+1):=by
 obtain ⟨h1,h2,h3,h4,h5,h6,h7⟩:=h;refine ⟨by rw [List.length_set];exact h1,Bj h2 h5,by omega,?_,fun j hj=>?_⟩
 . have hs:=Aq o (i+b.length) c (by omega)
   rw [<-gK (l:=o) (by omega),h7 _ (Nat.le_refl _)] at hs
   rw [dN,Nat.add_mul];rw [bO (Nat.le_refl _)] at h6;have:BB^i*(dgt a i*vd b)=BB^i*dgt a i*vd b:=by grind
   omega
 . rw [Kl (by omega)];exact h7 j (by omega)
theorem QH {a b o:List Nat} (h:OL a b o a.length):Dg o/\vd o=vd a*vd b:=by
 obtain ⟨h1,h2,h3,h4,h5⟩:=h;rw [bO (Nat.le_refl _)] at h4;exact ⟨h2,h4⟩
def Em (a:List Nat) (d:Nat) (o:List Nat) (n r:Nat):Prop:=o.length=a.length/\Dg o/\n<=a.length/\r<d/\vd (a.drop n)=vd (o.drop n)*d+r
theorem Eo (a:List Nat) (d:Nat) (hd:0<d):Em a d (List.replicate a.length 0) a.length 0 :=
 ⟨by simp,wU _,Nat.le_refl _,hd,by rw [mf,List.drop_eq_nil_of_le (by simp)];simp [vd]⟩
theorem GH {a:List Nat} {d:Nat} {o:List Nat} {n r:Nat} (ha:Dg a) (h:Em a d o (n+1) r):r*BB+dgt a n<d*BB/\Em a d (o.set n ((r*BB+dgt a n)/d)) n ((r*BB+dgt a n)%d):=by
 obtain ⟨h1,h2,h3,h4,h5⟩:=h;have la:=eU ha n;have hlt:r*BB+dgt a n<d*BB:=by
  have:(r+1)*BB<=d*BB:=Nat.mul_le_mul_right _ h4;rw [Nat.add_mul] at this;omega
 have hq:(r*BB+dgt a n)/d<BB:=Nat.div_lt_of_lt_mul hlt;refine ⟨hlt,by rw [List.length_set];exact h1,Bj h2 hq,by omega,Nat.mod_lt _ (by omega),?_⟩
 have hd:=Nat.div_add_mod (r*BB+dgt a n) d;generalize (r*BB+dgt a n)/d=q at *
 generalize (r*BB+dgt a n)%d=m at *
 have hn:n<(o.set n q).length:=by rw [List.length_set];omega
 rw [fA (l:=a) (by omega),fA hn,List.getElem_set_self,<-gK (l:=a) (by omega),h5]
 have e:(o.set n q).drop (n+1)=o.drop (n+1):=List.drop_set_of_lt (by omega)
 rw [e];have e2:BB*(vd (o.drop (n+1))*d+r)=BB*vd (o.drop (n+1))*d+r*BB:=by grind
 have e3:(q+BB*vd (o.drop (n+1)))*d=d*q+BB*vd (o.drop (n+1))*d:=by grind
 omega
theorem NC {a:List Nat} {d:Nat} {o:List Nat} {r:Nat} (h:Em a d o 0 r):Dg o/\vd o=vd a/d:=by
 obtain ⟨h1,h2,h3,h4,h5⟩:=h;simp only [List.drop_zero] at h5;refine ⟨h2,?_⟩;rw [h5,Nat.mul_comm,Nat.mul_add_div (by omega),Nat.div_eq_of_lt h4,Nat.add_zero]
def Gp (a b o:List Nat) (i w:Nat):Prop:=o.length=i/\Dg o/\w<=1/\i<=a.length/\vd o+vd (b.take i)=vd (a.take i)+BB^i*w-BB^i*w+BB^i*w-vd (b.take i)+vd (b.take i)/\vd o+vd (b.take i)+0=vd (a.take i)+BB^i*w
theorem Hl (a b:List Nat):Gp a b [] 0 0:=⟨rfl,Cv,by omega,by omega,by simp [vd],by simp [vd]⟩
theorem DU {a b o:List Nat} {i w:Nat} (ha:Dg a) (hb:Dg b) (h:Gp a b o i w) (hi:i<a.length) (hl:dgt a i<w+dgt b i):dgt a i+BB-w-dgt b i<BB/\Gp a b (o++[dgt a i+BB-w-dgt b i]) (i+1) 1:=by
 obtain ⟨h1,h2,h3,h4,h5,h6⟩:=h;have la:=eU ha i;have lb:=eU hb i;have key:vd (o++[dgt a i+BB-w-dgt b i])+vd (b.take (i+1))=vd (a.take (i+1))+BB^(i+1)*1:=by
  rw [kU,h1,dN,dN,Nat.pow_succ];obtain ⟨x,hx⟩:∃ x,x=dgt a i+BB-w-dgt b i:=⟨_,rfl⟩;have e:BB^i*x+BB^i*w+BB^i*dgt b i=BB^i*dgt a i+BB^i*BB:=by rw [<-Nat.mul_add,<-Nat.mul_add,<-Nat.mul_add];congr 1;omega
  rw [<-hx];omega
 exact ⟨by omega,by rw [List.length_append,h1];rfl,qZ h2 (by omega),by omega,by omega,by omega,by omega⟩
theorem yV {a b o:List Nat} {i w:Nat} (ha:Dg a) (hb:Dg b) (h:Gp a b o i w) (hi:i<a.length) (hl:w+dgt b i<=dgt a i):Gp a b (o++[dgt a i-w-dgt b i]) (i+1) 0:=by
 obtain ⟨h1,h2,h3,h4,h5,h6⟩:=h;have la:=eU ha i;have key:vd (o++[dgt a i-w-dgt b i])+vd (b.take (i+1))=vd (a.take (i+1))+BB^(i+1)*0:=by
  rw [kU,h1,dN,dN];obtain ⟨x,hx⟩:∃ x,x=dgt a i-w-dgt b i:=⟨_,rfl⟩;have e:BB^i*x+BB^i*w+BB^i*dgt b i=BB^i*dgt a i:=by rw [<-Nat.mul_add,<-Nat.mul_add];congr 1;omega
  rw [<-hx];omega
 exact ⟨by rw [List.length_append,h1];rfl,qZ h2 (by omega),by omega,by omega,by omega,by omega⟩
theorem QK {a b o:List Nat} {w:Nat} (h:Gp a b o a.length w) (hl:b.length<=a.length) (hv:vd b<=vd a):Dg o/\vd o=vd a-vd b:=by
 obtain ⟨h1,h2,h3,h4,h5,h6⟩:=h;rw [bO (Nat.le_refl _),bO hl] at h6;have:=qJ h2;rw [h1] at this;refine ⟨h2,?_⟩;rcases Nat.lt_or_ge 0 w with q|q
 . have:BB^a.length*1<=BB^a.length*w:=Nat.mul_le_mul_left _ q;omega
 . have:w=0:=by omega
   subst this;omega
def qO (x y:Nat):Int:=if x<y then -1 else if y<x then 1 else 0
def Fx (a b:List Nat) (n:Nat):Prop:=n<=a.length/\n<=b.length/\vd (a.drop n)=vd (b.drop n)
theorem F9 {a b:List Nat} (h:a.length=b.length):Fx a b a.length:=⟨Nat.le_refl _,by omega,by rw [mf,h,mf]⟩
theorem Ja {a b:List Nat} {n:Nat} (ha:Dg a) (h:Fx a b (n+1)) (hl:dgt a n<dgt b n):vd a<vd b:=by
 obtain ⟨h1,h2,h3⟩:=h;rw [qM a n (by omega),qM b n (by omega),fA (l:=a) (by omega),fA (l:=b) (by omega),<-gK (l:=a) (by omega),<-gK (l:=b) (by omega),h3]
 have:=qJ (pW ha n);rw [List.length_take,Nat.min_eq_left (by omega)] at this
 have e:BB^n*(dgt a n+1+BB*vd (b.drop (n+1)))<=BB^n*(dgt b n+BB*vd (b.drop (n+1))):=Nat.mul_le_mul_left _ (by omega)
 have e2:BB^n*(dgt a n+1+BB*vd (b.drop (n+1)))=BB^n*(dgt a n+BB*vd (b.drop (n+1)))+BB^n:=by grind
 omega
theorem NG {a b:List Nat} {n:Nat} (h:Fx a b n):Fx b a n:=⟨h.2.1,h.1,h.2.2.symm⟩
theorem M6 {a b:List Nat} {n:Nat} (h:Fx a b (n+1)) (he:dgt a n=dgt b n):Fx a b n:=by
 obtain ⟨h1,h2,h3⟩:=h;refine ⟨by omega,by omega,?_⟩
 rw [fA (l:=a) (by omega),fA (l:=b) (by omega),<-gK (l:=a) (by omega),<-gK (l:=b) (by omega),h3,he]
theorem Q8 {a b:List Nat} (h:Fx a b 0):vd a=vd b:=by simpa using h.2.2
theorem Kc {a b:List Nat} (ha:Tr a) (hb:Tr b) (h:a.length<b.length):vd a<vd b:=by
 rcases Nat.lt_or_ge (vd a) (vd b) with q|q
 . exact q
 . have:=Ai ha hb q;omega
def OfI (N:Nat) (o:List Nat) (n:Nat):Prop:=Dg o/\vd o+BB^o.length*n=N/\(o.length=0∨BB^(o.length-1)<=N)
theorem Lr (N:Nat):OfI N [] N:=⟨Cv,by simp [vd],.inl rfl⟩
theorem Ox {N n:Nat} {o:List Nat} (h:OfI N o n) (hn:0<n):OfI N (o++[n%BB]) (n/BB):=by
 obtain ⟨h1,h2,h3⟩:=h;have hB:0<BB:=by rw [aU];omega
 refine ⟨qZ h1 (Nat.mod_lt _ hB),?_,.inr ?_⟩
 . rw [kU,List.length_append,List.length_singleton,Nat.pow_succ];have hd:=Nat.div_add_mod n BB;have g:BB^o.length*(n%BB)+BB^o.length*BB*(n/BB)=BB^o.length*n:=by
    have g:∀ r q s p:Nat,BB*q+r=s->p*r+p*BB*q=p*s:=by intro r q s p h;rw [<-h];grind
    exact g _ _ _ _ hd
   omega
 . rw [List.length_append,List.length_singleton,Nat.add_sub_cancel];have:BB^o.length*1<=BB^o.length*n:=Nat.mul_le_mul_left _ hn;omega
theorem VC {N:Nat} {o:List Nat} (h:OfI N o 0):Tr o/\vd o=N:=by
 obtain ⟨h1,h2,h3⟩:=h;have e:vd o=N:=by omega
 exact ⟨⟨h1,by rw [e];exact h3⟩,e⟩
theorem Vl {N n:Nat} {o:List Nat} (h:OfI N o n) {k:Nat} (hN:N<BB^k):o.length<=k:=by
 rcases h.2.2 with q|q
 . omega
 . rcases Nat.lt_or_ge k o.length with r|r
   . have:BB^k<=BB^(o.length-1):=Nat.pow_le_pow_right (by rw [aU];omega) (by omega)
     omega
   . exact r
theorem VS {l:List Nat} (h:Tr l) {k:Nat} (hk:k<l.length):Tr (l.drop k)/\vd (l.drop k)=vd l/BB^k:=by
 have hs:=qM l k (by omega)
 have hl:=qJ (pW h.1 k);rw [List.length_take,Nat.min_eq_left (by omega)] at hl
 have e:vd (l.drop k)=vd l/BB^k:=by rw [hs,Nat.add_comm,Nat.mul_add_div (pJ k),Nat.div_eq_of_lt hl,Nat.add_zero]
 refine ⟨⟨KO h.1 k,.inr ?_⟩,e⟩;rcases h.2 with q|q
 . omega
 . rw [e,List.length_drop,Nat.le_div_iff_mul_le (pJ k),<-Nat.pow_add];rw [show l.length-k-1+k=l.length-1 by omega];exact q
theorem Ma {l:List Nat} (h:Tr l) {k:Nat} (hk:l.length<=k):vd l/BB^k=0:=by
 apply Nat.div_eq_of_lt;have:=qJ h.1;have:BB^l.length<=BB^k:=Nat.pow_le_pow_right (by rw [aU];omega) hk
 omega
end Alm
namespace Go.Proofs.YtoniodlcogpdbaaGreat
open Go.RowKit Alm
def DL (l:List Nat):List Value:=l.map fun d:Nat=>Value.int .i64 (d:Int)
theorem ug (l:List Nat):(DL l).length=l.length:=by simp [DL]
theorem ZO (l:List Nat):∀ u∈DL l,u.oneCell'=true:=by
 intro u hu;obtain ⟨d,_,rfl⟩:=List.mem_map.1 hu;rfl
theorem ZB {l:List Nat} {j:Nat} {u:Value} (h:(DL l)[j]? = some u):∃ hj:j<l.length,u=.int .i64 (l[j]:Int):=by
 have hj:j<l.length:=by
  rcases Nat.lt_or_ge j l.length with q|q
  . exact q
  . rw [List.getElem?_eq_none (by rw [ug];exact q)] at h;cases h
 refine ⟨hj,?_⟩;unfold DL at h;rw [List.getElem?_map,List.getElem?_eq_getElem hj] at h
 simpa using h.symm
def RD (w:World) (A:Option Addr) (l:List Nat):Prop:=0<l.length->∃ b off,A=some ⟨b,off,none⟩/\b<w.heap.size/\∀ i (h:i<l.length),w.cell? ⟨b,off+i,none⟩=some (.int .i64 (l[i]:Int))
theorem RD.below {w w':World} {A:Option Addr} {l:List Nat} (h:RD w A l) (hb:Below w.heap.size w w'):RD w' A l:=fun h0=>by
 obtain ⟨b,off,e,hlt,hc⟩:=h h0;exact ⟨b,off,e,Nat.lt_of_lt_of_le hlt hb.size,fun i hi=>(hb.cell (p:=⟨b,off+i,none⟩) hlt).trans (hc i hi)⟩
theorem RD.nil (w:World) (A:Option Addr):RD w A []:=fun h=>absurd h (by simp)
theorem RD.take {w:World} {A:Option Addr} {l:List Nat} (h:RD w A l) (n:Nat):RD w A (l.take n):=fun h0=>by
 rw [List.length_take] at h0;obtain ⟨b,off,e,hlt,hc⟩:=h (by omega)
 refine ⟨b,off,e,hlt,fun i hi=>?_⟩
 rw [List.length_take] at hi;rw [List.getElem_take];exact hc i (by omega)
theorem RD.drop {w:World} {b off:Nat} {l:List Nat} (h:RD w (some ⟨b,off,none⟩) l) (n:Nat):RD w (some ⟨b,off+n,none⟩) (l.drop n):=fun h0=>by
 rw [List.length_drop] at h0;obtain ⟨b',off',e,hlt,hc⟩:=h (by omega)
 injection e with e
 injection e with e1 e2
 subst e1;subst e2;refine ⟨b,off+n,rfl,hlt,fun i hi=>?_⟩
 rw [List.length_drop] at hi;rw [List.getElem_drop,Nat.add_assoc];exact hc (n+i) (by omega)
def BN (w:World) (v:Value) (N:Nat):Prop:=∃ A l c,v=.slice A l.length c/\l.length<=c/\Tr l/\vd l=N/\RD w A l
theorem BN.below {w w':World} {v:Value} {N:Nat} (h:BN w v N) (hb:Below w.heap.size w w'):BN w' v N:=by
 obtain ⟨A,l,c,h1,h2,h3,h4,h5⟩:=h;exact ⟨A,l,c,h1,h2,h3,h4,h5.below hb⟩
def uY (N:Nat) (w:World) (e:Ending) (w':World):Prop:=∃ v,e=.returned v/\BN w' v N/\Below w.heap.size w w'
theorem uj {w:World} {base n g cap:Nat} {e:TypeId} {l:List Nat} (h:w.ownsRow base e 1 (.slice (some ⟨g,0,none⟩) n cap) n (DL l)) (h0:0<n):n=l.length/\n<=cap/\base<=g/\RD w (some ⟨g,0,none⟩) l:=by
 obtain ⟨hl,h|⟨g',cap',cur,hv,hb,hg,hc,hm,hs,ht⟩⟩:=h
 . omega
 . injection hv with e1 e2 e3
   obtain rfl:g=g':=by injection e1 with e1;injection e1
   have hgl:g<w.heap.size:=by
    rcases Nat.lt_or_ge g w.heap.size with hlt|hge
    . exact hlt
    . rw [Array.getElem?_eq_none hge] at hg;cases hg
   rw [ug,Nat.mul_one] at hl;refine ⟨hl.symm,by omega,hb,fun _=>⟨g,0,rfl,hgl,fun i hi=>?_⟩⟩
   rw [cell_of_row w g (0+i) cur e (0,0) hg];have hd:(DL l)[i]? = some (.int .i64 (l[i]:Int)):=by unfold DL;rw [List.getElem?_map,List.getElem?_eq_getElem hi];rfl
   rw [<-ht,List.getElem?_take_of_lt (by omega)] at hd
   rw [Nat.zero_add]
   simpa using hd
theorem xw:∃ (i:TypeInfo) (z:Value),Tryz.prog.info? 3=some i/\i.zero=some z/\i.size=1/\i.bytes=8/\z.cells.size=1:=by
 have h1:((Tryz.prog.info? 3).bind fun i=>i.zero.map fun z=>(i.size,i.bytes,z.cells.size))=some (1,8,1):=by kernel_rfl
 cases hi:Tryz.prog.info? 3 with
 | none=>rw [hi] at h1;simp at h1
 | some i =>
  rw [hi] at h1;cases hz:i.zero with
  | none=>simp [hz] at h1
  | some z =>
   simp [hz] at h1;exact ⟨i,z,rfl,hz,h1.1,h1.2.1,h1.2.2⟩
theorem FW (t ty e:TypeId) (i:TypeInfo) (ht:Tryz.prog.underlying t=some (.slice e)) (hi:Tryz.prog.info? e=some i) (ad:Addr) (A:Option Addr) (c c':Nat) (w:World) :
 (Builtin.append_ #[t,t] ty #[.slice (some ad) 0 c',.slice A 0 c]).run Tryz.prog w=.ok (.slice (some ad) 0 c') w:=by
 cases A<;>simp [Builtin.append_,run_underlying ht,sizeOf,typeInfo,hi,Builtin.lenOf,Builtin.firstCells,loadCells,loadCellsFrom,storeCells]
theorem oL {ops:Array Oper} {rest:List Oper} {o:Oper} {a:Act} {w:World} {Q:Exit->Act->World->Prop} (hgd:o.guard=none) (s x:Operand) (t e:TypeId) (i:TypeInfo)
 (ho:o.op=.call { callee:=.builtin .append,args:=#[s,x],argTypes:=#[t,t] }) (ht:Tryz.prog.underlying t=some (.slice e)) (hi:Tryz.prog.info? e=some i)
 (ad:Addr) (A:Option Addr) (c c':Nat) (hs:a.eval s=.slice (some ad) 0 c') (hx:a.eval x=.slice A 0 c)
 (h:wpList Tryz.prog ops Q rest (a.put o.dst (.slice (some ad) 0 c')) w):wpList Tryz.prog ops Q (o::rest) a w :=
 wpList_plain hgd fun _ hK=>by
  unfold Oper.wp execOp;simp only [ho,resolve,invoke,builtin,Sem.run_bind,Sem.run_pure,Result.andThen_ok,List.map_toArray,List.map_cons,List.map_nil,hs,hx,FW t o.type e i ht hi ad A c c' w];exact hK _ _ h
theorem Gw (A:Option Addr) (l:List Nat) (c:Nat) (w:World) (hR:RD w A l) (hd:Dg l) (hc:l.length<=c) (hn:l.length<=100) :
 Calls Tryz.prog 172 #[.slice A l.length c] w (uY (vd l) w):=by
 obtain ⟨i,z,hi,hz,hs,hb,hzs⟩:=xw;have HR:=Lib.hid hR;have HD:=Lib.hid hd;clear hR hd;have K0:=Lib.hid (az w);go_enter Tryz.func172,Tryz.ntmps172;go_wp2;go_loopw [3] (fun v wr=>∃ n:Nat,v=.int .i64 (n:Int)/\zK l n/\KS w wr []) (fun v _=>(intOf v).toNat)
 case atStart=>exact ⟨l.length,rfl,EW l,K0.out⟩
 case round =>
  obtain ⟨n,rfl,hT,hK⟩:=hrel;have HT:=Lib.hid hT;have K1:=Lib.hid hK;clear hT hK K0;have hnl:n<=l.length:=HT.out.1
  by_cases hn0:0<n
  . have hRw:=HR.out.below K1.out.1;obtain ⟨b,off,rfl,hlt,hcell⟩:=hRw (by omega)
    have cc:=hcell (n-1) (by omega)
    have hnn:(0:Int)<(n:Int):=by omega
    by_cases hz0:l[n-1]=0
    . rw [hz0] at cc;have NX:Hid (zK l (n-1)):=F6 (by rw [show n-1+1=n by omega];exact HT.out) (by omega) hz0
      have en:((n:Int)-1).toNat=n-1:=by omega
      clear HT hz0 hcell hRw HR HD;go_wp2;go_light;exact ⟨⟨n-1,by rw [show ((n-1:Nat):Int)=(n:Int)-1 by omega],NX.out,K1.out⟩,by simp only [intOf];omega⟩
    . have hzb:((l[n-1]:Int)==0)=false:=by simpa using hz0
      have hzc:decide ((l[n-1]:Int)=0)=false:=by simpa using hz0
      obtain ⟨f1,f2,f3⟩:=zZ HD.out HT.out (.inr ⟨by omega,hz0⟩)
      have F:=Lib.hid (And.intro f1 (And.intro f2 f3));have RT:=Lib.hid (hRw.take n);have hcl:n<=c:=by omega
      have hcl':(n:Int)<=(c:Int):=by omega
      have CC:=Lib.hid hcell;clear f1 f2 f3 HT hz0 hRw HR HD hcell;go_wp2_with (at_builtin;refine wpList_append_lies _ rfl _ _ 143 rfl wr.heap.size 3 i z 1 8 Tryz.underlying143 hi hz hs hb hzs (by omega) _ _ _ rfl (World.ownsRow_made wr #[] 0 (Nat.le_refl _) (Nat.zero_le _) (by simp)) ⟨b,off,none⟩ n c (DL (l.take n)) rfl ?qc1 ?qc2 ?qc3 ?qc7 ?qc4 ?qc5 ?qc6 _ rfl ?_)
      case qc1=>rw [ug,F.out.2.2,Nat.mul_one]
      case qc2 =>
       intro j u hj;obtain ⟨hj1,rfl⟩:=ZB hj;rw [Addr.add_lit,List.getElem_take];rw [List.length_take] at hj1;exact Lib.cell?_alloc_some _ (CC.out j (by omega))
      case qc3=>exact ZO _
      case qc7=>exact hn0
      case qc4=>simp [maxLen];omega
      case qc5=>omega
      case qc6=>simp
      intro g cp w1 hown hgrow hat hlt2;have OW:=Lib.hid hown;have HB:Hid (Below w.heap.size w w1):=K1.out.1.trans (((((Below.refl _ wr).alloc (Nat.le_refl _) _).grown hgrow (by simp) (by intro k hk;simp [Value.ownBlock] at hk;omega))).mono K1.out.1.size)
      clear hown hgrow hat;go_wp2;go_ret;have ow:=OW.out;obtain ⟨r1,r2,r3,r4⟩:=uj ow hn0;exact ⟨_,by first|rfl|simp,⟨_,l.take n,cp,by rw [F.out.2.2];rfl,by rw [F.out.2.2];exact r2,F.out.1,F.out.2.1,r4⟩,HB.out⟩
  . have hn1:n=0:=by omega
    subst hn1;obtain ⟨f1,f2,f3⟩:=zZ HD.out HT.out (.inl rfl);have F:Hid (vd l=0):=by have:=f2;simp [vd] at this;exact this.symm
    have HB:Hid (Below w.heap.size w (wr.alloc (.cells #[] 3))):=K1.out.1.alloc K1.out.1.size _;clear f1 f2 f3 HT HR HD K1 hn0;go_wp2_with (at_builtin;refine oL rfl _ _ 143 3 i rfl Tryz.underlying143 hi _ A c _ rfl rfl ?_)
    go_ret;exact ⟨_,by first|rfl|simp,⟨_,[],_,rfl,Nat.zero_le _,wK,by rw [F.out];rfl,RD.nil _ _⟩,HB.out⟩
end Go.Proofs.YtoniodlcogpdbaaGreat
namespace Go.Proofs.YtoniodlcogpdbaaGreat
open Go.RowKit Alm
theorem GX {w:World} {base:Nat} {e:TypeId} {v:Value} {l:List Nat} (h:w.ownsRow base e 1 v l.length (DL l)) (ht:Tr l):BN w v (vd l):=by
 rcases h.2 with ⟨rfl,h0⟩|⟨g,cap,cur,rfl,hb,hg,hc,hm,hs,hk⟩
 . have:l=[]:=List.eq_nil_of_length_eq_zero h0;subst this;exact ⟨none,[],0,rfl,Nat.le_refl _,wK,rfl,RD.nil _ _⟩
 . by_cases h0:0<l.length
   . obtain ⟨_,r2,_,r4⟩:=uj h h0;exact ⟨_,l,cap,rfl,r2,ht,rfl,r4⟩
   . have:l=[]:=List.eq_nil_of_length_eq_zero (by omega)
     subst this;exact ⟨_,[],cap,rfl,Nat.zero_le _,wK,rfl,RD.nil _ _⟩
theorem Wi (l:List Nat) (d:Nat):DL (l++[d])=DL l++[.int .i64 (d:Int)]:=by simp [DL]
theorem Rh {w:World} {base:Nat} {e:TypeId} {v:Value} {l:List Nat} {d:Nat} (h:w.ownsRow base e 1 v (l.length+1) (DL l++[.int .i64 (d:Int)])):w.ownsRow base e 1 v (l++[d]).length (DL (l++[d])):=by
 rw [Wi,List.length_append];exact h
theorem aV {ops:Array Oper} {rest:List Oper} {op:Oper} {a:Act} {Q:Exit->Act->World->Prop} (hgd:op.guard=none) (s x:Operand)
 (ho:op.op=.call { callee:=.builtin .append,args:=#[s,x],argTypes:=#[ 143,143] })
 (wr:World) (base:Nat) (v:Value) (l:List Nat) (d:Int) (D:Nat) (hd:d=(D:Int)) (hs:a.eval s=v) (hx:a.eval x=.slice (some ⟨wr.heap.size,0,none⟩) 1 1)
 (hO:wr.ownsRow base 3 1 v l.length (DL l)) (hl:l.length<=200) (hb:base<=wr.heap.size)
 (h:∀ g cap w',Hid (w'.ownsRow base 3 1 (.slice (some ⟨g,0,none⟩) (l.length+1) cap) (l++[D]).length (DL (l++[D])))->Hid (Below base wr w')->wpList Tryz.prog ops Q rest (a.put op.dst (.slice (some ⟨g,0,none⟩) (l.length+1) cap)) w') :
 wpList Tryz.prog ops Q (op::rest) a (wr.alloc (.cells #[.int .i64 d] 3)):=by
 subst hd;obtain ⟨i0,z,hi,hz,hsz,hby,hzs⟩:=xw;refine wpList_append_lies _ hgd s x 143 ho base 3 i0 z 1 8 Tryz.underlying143 hi hz hsz hby hzs (by omega) v l.length (DL l) hs (hO.alloc _) ⟨wr.heap.size,0,none⟩ 1 1 [.int .i64 (D:Int)] hx rfl ?_ ?_ (by omega) (by simp [maxLen];omega) (by omega) (by simp;omega) _ rfl ?_
 . intro j u hj;cases j with
   | zero=>simp at hj;subst hj;simp [go_sem]
   | succ j=>simp at hj
 . intro u hu;rw [List.mem_singleton.1 hu];rfl
 . intro g cp w1 hown hgrow hat hlt2;exact h g cp w1 (Rh hown) ((((Below.refl _ wr).mono hb).alloc hb _).grown hgrow (by simp;omega) (fun k hk=>(hO.lt k hk).1))
theorem jv {w:World} {A:Option Addr} {l:List Nat} (h:RD w A l) {i:Nat} (hi:i<l.length):∃ b off,A=some ⟨b,off,none⟩/\b<w.heap.size/\w.cell? ⟨b,off+i,none⟩=some (.int .i64 (dgt l i:Int)):=by
 obtain ⟨b,off,e,hlt,hc⟩:=h (by omega)
 exact ⟨b,off,e,hlt,by rw [gK hi];exact hc i hi⟩
theorem QP (A B:Option Addr) (la lb:List Nat) (ca cb:Nat) (w:World) (hA:RD w A la) (hB:RD w B lb) (ta:Tr la) (tb:Tr lb) (na:la.length<=60) (nb:lb.length<=60) :
 Calls Tryz.prog 160 #[.slice A la.length ca,.slice B lb.length cb] w (uY (vd la+vd lb) w):=by
 obtain ⟨i0,z,hi,hz,hs,hb,hzs⟩:=xw;have HA:=Lib.hid hA;have HB:=Lib.hid hB;have TA:=Lib.hid ta;have TB:=Lib.hid tb;clear hA hB ta tb;have K0:=Lib.hid (az w);go_enter Tryz.func160,Tryz.ntmps160;go_wp2;go_loopw [5,6,7] (fun v5 v6 v7 wr=>∃ (o:List Nat) (i c:Nat),v6=.int .i64 (c:Int)/\v7=.int .i64 (i:Int)/\Pj la lb o i c/\wr.ownsRow w.heap.size 3 1 v5 o.length (DL o)/\KS w wr []) (fun _ _ v7 _=>(200-intOf v7).toNat)
 case atStart=>exact ⟨[],0,0,rfl,rfl,IA la lb,World.ownsRow_nil _ _ _ _,K0.out⟩
 case round =>
  obtain ⟨o,i,c,rfl,rfl,hS,hO,hK⟩:=hrel;have HS:=Lib.hid hS;have HO:=Lib.hid hO;have K1:=Lib.hid hK;clear hS hO hK K0;have hc1:(c:Int)<=1:=by have:=HS.out.2.2.1;omega
  have hol:o.length=i:=HS.out.1;have hi100:i<=61:=by have:=HS.out.2.2.2.2;omega
  have ED:Hid (dgt la i<268435456/\dgt lb i<268435456):=⟨eU TA.out.1 i,eU TB.out.1 i⟩;have HAw:=HA.out.below K1.out.1;have HBw:=HB.out.below K1.out.1
  by_cases hgo:i<la.length∨i<lb.length∨0<c
  . obtain ⟨NX,nlt⟩:=M8 TA.out.1 TB.out.1 HS.out hgo;obtain ⟨x,hx⟩:∃ x:Nat,x=c+dgt la i+dgt lb i:=⟨_,rfl⟩;rw [<-hx] at NX nlt;have NX:=Lib.hid NX;have HX:=Lib.hid hx;clear hx HS
    by_cases ha:i<la.length
    . obtain ⟨b1,o1,rfl,h1,c1⟩:=jv HAw ha
      by_cases hb':i<lb.length
      . obtain ⟨b2,o2,rfl,h2,c2⟩:=jv HBw hb'
        have ex:Hid ((x:Int)=(c:Int)+(dgt la i:Int)+(dgt lb i:Int)):=by have:=HX.out;show (x:Int)=_;omega
        have ta:(i:Int)<(la.length:Int):=by omega
        have tb:(i:Int)<(lb.length:Int):=by omega
        have d1:(dgt la i:Int)<268435456:=by have:=ED.out.1;omega
        have d2:(dgt lb i:Int)<268435456:=by have:=ED.out.2;omega
        have HOL:=Lib.hid hol;clear HA HB TA TB HX ED HAw HBw hol hgo nlt ha hb'
        go_wp2_with (at_builtin;refine aV rfl _ _ rfl wr w.heap.size _ o (((c:Int)+(dgt la i:Int)+(dgt lb i:Int))%268435456) (x%BB) (by have:=ex.out;rw [aU];omega) rfl rfl HO.out (by have:=HOL.out;omega) K1.out.1.size ?_;intro g cp w1 OW HW)
        have K2:Hid (KS w w1 []):=⟨K1.out.1.trans HW.out,by simp⟩
        clear HW HO K1;go_wp2;go_light;exact ⟨⟨o++[x%BB],i+1,x/BB,by rw [show ((x/BB:Nat):Int)=((c:Int)+(dgt la i:Int)+(dgt lb i:Int))/268435456 by have:=ex.out;rw [aU];omega],by rw [show ((i+1:Nat):Int)=(i:Int)+1 by omega],NX.out,OW.out,K2.out⟩,by simp only [intOf];omega⟩
      . skip
        have zb:dgt lb i=0:=og (by omega)
        have ex:Hid ((x:Int)=(c:Int)+(dgt la i:Int)):=by have:=HX.out;rw [zb] at this;show (x:Int)=_;omega
        clear zb;have ta:(i:Int)<(la.length:Int):=by omega
        have tb:¬ (i:Int)<(lb.length:Int):=by omega
        have d1:(dgt la i:Int)<268435456:=by have:=ED.out.1;omega
        have d2:(dgt lb i:Int)<268435456:=by have:=ED.out.2;omega
        have HOL:=Lib.hid hol;clear HA HB TA TB HX ED HAw HBw hol hgo nlt ha hb'
        go_wp2_with (at_builtin;refine aV rfl _ _ rfl wr w.heap.size _ o (((c:Int)+(dgt la i:Int))%268435456) (x%BB) (by have:=ex.out;rw [aU];omega) rfl rfl HO.out (by have:=HOL.out;omega) K1.out.1.size ?_;intro g cp w1 OW HW)
        have K2:Hid (KS w w1 []):=⟨K1.out.1.trans HW.out,by simp⟩
        clear HW HO K1;go_wp2;go_light;exact ⟨⟨o++[x%BB],i+1,x/BB,by rw [show ((x/BB:Nat):Int)=((c:Int)+(dgt la i:Int))/268435456 by have:=ex.out;rw [aU];omega],by rw [show ((i+1:Nat):Int)=(i:Int)+1 by omega],NX.out,OW.out,K2.out⟩,by simp only [intOf];omega⟩
    . by_cases hb':i<lb.length
      . obtain ⟨b2,o2,rfl,h2,c2⟩:=jv HBw hb'
        have za:dgt la i=0:=og (by omega)
        have ex:Hid ((x:Int)=(c:Int)+(dgt lb i:Int)):=by have:=HX.out;rw [za] at this;show (x:Int)=_;omega
        clear za;have ta:¬ (i:Int)<(la.length:Int):=by omega
        have tb:(i:Int)<(lb.length:Int):=by omega
        have d1:(dgt la i:Int)<268435456:=by have:=ED.out.1;omega
        have d2:(dgt lb i:Int)<268435456:=by have:=ED.out.2;omega
        have HOL:=Lib.hid hol;clear HA HB TA TB HX ED HAw HBw hol hgo nlt ha hb'
        go_wp2_with (at_builtin;refine aV rfl _ _ rfl wr w.heap.size _ o (((c:Int)+(dgt lb i:Int))%268435456) (x%BB) (by have:=ex.out;rw [aU];omega) rfl rfl HO.out (by have:=HOL.out;omega) K1.out.1.size ?_;intro g cp w1 OW HW)
        have K2:Hid (KS w w1 []):=⟨K1.out.1.trans HW.out,by simp⟩
        clear HW HO K1;go_wp2;go_light;exact ⟨⟨o++[x%BB],i+1,x/BB,by rw [show ((x/BB:Nat):Int)=((c:Int)+(dgt lb i:Int))/268435456 by have:=ex.out;rw [aU];omega],by rw [show ((i+1:Nat):Int)=(i:Int)+1 by omega],NX.out,OW.out,K2.out⟩,by simp only [intOf];omega⟩
      . skip
        obtain rfl:c=1:=by have:(c:Int)<=1:=hc1;omega
        clear hc1;have za:dgt la i=0:=og (by omega)
        have zb:dgt lb i=0:=og (by omega)
        have ex:Hid ((x:Int)=(1:Int)):=by have:=HX.out;rw [za] at this;rw [zb] at this;show (x:Int)=_;omega
        clear za;clear zb;have ta:¬ (i:Int)<(la.length:Int):=by omega
        have tb:¬ (i:Int)<(lb.length:Int):=by omega
        have d1:(dgt la i:Int)<268435456:=by have:=ED.out.1;omega
        have d2:(dgt lb i:Int)<268435456:=by have:=ED.out.2;omega
        have HOL:=Lib.hid hol;clear HA HB TA TB HX ED HAw HBw hol hgo nlt ha hb'
        go_wp2_with (at_builtin;refine aV rfl _ _ rfl wr w.heap.size _ o (1) (x%BB) (by have:=ex.out;rw [aU];omega) rfl rfl HO.out (by have:=HOL.out;omega) K1.out.1.size ?_;intro g cp w1 OW HW)
        have K2:Hid (KS w w1 []):=⟨K1.out.1.trans HW.out,by simp⟩
        clear HW HO K1;go_wp2;go_light;exact ⟨⟨o++[x%BB],i+1,x/BB,by rw [show ((x/BB:Nat):Int)=0 by have:=ex.out;rw [aU];omega],by rw [show ((i+1:Nat):Int)=(i:Int)+1 by omega],NX.out,OW.out,K2.out⟩,by simp only [intOf];omega⟩
  . have hc0:c=0:=by omega
    subst hc0;have ta:¬ (i:Int)<(la.length:Int):=by omega
    have tb:¬ (i:Int)<(lb.length:Int):=by omega
    obtain ⟨f1,f2⟩:=NV TA.out TB.out HS.out (by omega)
    have BNX:=Lib.hid (GX HO.out f1);have F:=Lib.hid f2;clear f1 f2 HS HO HA HB TA TB HAw HBw ED hgo hol;go_wp2;go_ret;exact ⟨_,rfl,by rw [<-F.out];exact BNX.out,K1.out.1⟩
end Go.Proofs.YtoniodlcogpdbaaGreat
namespace Go.Proofs.YtoniodlcogpdbaaGreat
open Go.RowKit Alm
theorem EE {w:World} {base:Nat} {e:TypeId} {v:Value} {l:List Nat} (h:w.ownsRow base e 1 v l.length (DL l)):∃ A c,v=.slice A l.length c/\l.length<=c/\RD w A l:=by
 rcases h.2 with ⟨rfl,h0⟩|⟨g,cap,cur,rfl,hb,hg,hc,hm,hs,hk⟩
 . have:l=[]:=List.eq_nil_of_length_eq_zero h0;subst this;exact ⟨none,0,rfl,Nat.le_refl _,RD.nil _ _⟩
 . by_cases h0:0<l.length
   . obtain ⟨_,r2,_,r4⟩:=uj h h0;exact ⟨_,cap,rfl,r2,r4⟩
   . have:l=[]:=List.eq_nil_of_length_eq_zero (by omega)
     subst this;exact ⟨_,cap,rfl,Nat.zero_le _,RD.nil _ _⟩
theorem Gt (A B:Option Addr) (la lb:List Nat) (ca cb:Nat) (w:World) (hA:RD w A la) (hB:RD w B lb) (ta:Tr la) (tb:Tr lb) (na:la.length<=60) (nb:lb.length<=60) (hv:vd lb<=vd la) :
 Calls Tryz.prog 162 #[.slice A la.length ca,.slice B lb.length cb] w (uY (vd la-vd lb) w):=by
 have HA:=Lib.hid hA;have HB:=Lib.hid hB;have TA:=Lib.hid ta;have TB:=Lib.hid tb;have HV:=Lib.hid hv;clear hA hB ta tb hv;have K0:=Lib.hid (az w);go_enter Tryz.func162,Tryz.ntmps162;go_wp2;go_loopw [5,6,7] (fun v5 v6 v7 wr=>∃ (o:List Nat) (i c:Nat),v6=.int .i64 (c:Int)/\v7=.int .i64 (i:Int)/\Gp la lb o i c/\wr.ownsRow w.heap.size 3 1 v5 o.length (DL o)/\KS w wr []) (fun _ _ v7 _=>(200-intOf v7).toNat)
 case atStart=>exact ⟨[],0,0,rfl,rfl,Hl la lb,World.ownsRow_nil _ _ _ _,K0.out⟩
 case round =>
  obtain ⟨o,i,c,rfl,rfl,hS,hO,hK⟩:=hrel;have HS:=Lib.hid hS;have HO:=Lib.hid hO;have K1:=Lib.hid hK;clear hS hO hK K0;have hc1:(c:Int)<=1:=by have:=HS.out.2.2.1;omega
  have HOL:Hid (o.length=i):=HS.out.1;have hi100:i<=60:=by have:=HS.out.2.2.2.1;omega
  have d1:(dgt la i:Int)<268435456:=by have:=eU TA.out.1 i;rw [aU] at this;omega
  have d2:(dgt lb i:Int)<268435456:=by have:=eU TB.out.1 i;rw [aU] at this;omega
  have HAw:=HA.out.below K1.out.1;have HBw:=HB.out.below K1.out.1
  by_cases ha:i<la.length
  . obtain ⟨b1,o1,rfl,h1,c1⟩:=jv HAw ha;have ta:(i:Int)<(la.length:Int):=by omega
    by_cases hb':i<lb.length
    . obtain ⟨b2,o2,rfl,h2,c2⟩:=jv HBw hb'
      by_cases hl:dgt la i<c+dgt lb i
      . skip
        obtain ⟨_,NX⟩:=DU TA.out.1 TB.out.1 HS.out ha hl;have ex0:(dgt la i:Int)-(c:Int)-(dgt lb i:Int)+268435456=(((dgt la i+BB-c-dgt lb i):Nat):Int):=by rw [aU];omega
        have ex:=Lib.hid ex0;clear ex0;have tl:(dgt la i:Int)-(c:Int)-(dgt lb i:Int)<0:=by omega
        have tb:(i:Int)<(lb.length:Int):=by omega
        have NX:=Lib.hid NX;clear HS HAw HBw ha hb' hl HA HB TA TB HV;go_wp2_with (at_builtin;refine aV rfl _ _ rfl wr w.heap.size _ o ((dgt la i:Int)-(c:Int)-(dgt lb i:Int)+268435456) (dgt la i+BB-c-dgt lb i) ex.out rfl rfl HO.out (by have:=HOL.out;omega) K1.out.1.size ?_;intro g cp w1 OW HW)
        have K2:Hid (KS w w1 []):=⟨K1.out.1.trans HW.out,by simp⟩
        clear HW HO K1;go_wp2;go_light;exact ⟨⟨o++[(dgt la i+BB-c-dgt lb i)],i+1,1,rfl,by rw [show ((i+1:Nat):Int)=(i:Int)+1 by omega],NX.out,OW.out,K2.out⟩,by simp only [intOf];omega⟩
      . skip
        have NX:=yV TA.out.1 TB.out.1 HS.out ha (by omega)
        have ex0:(dgt la i:Int)-(c:Int)-(dgt lb i:Int)=(((dgt la i-c-dgt lb i):Nat):Int):=by omega
        have ex:=Lib.hid ex0;clear ex0;have tl:¬ (dgt la i:Int)-(c:Int)-(dgt lb i:Int)<0:=by omega
        have tb:(i:Int)<(lb.length:Int):=by omega
        have NX:=Lib.hid NX;clear HS HAw HBw ha hb' hl HA HB TA TB HV;go_wp2_with (at_builtin;refine aV rfl _ _ rfl wr w.heap.size _ o ((dgt la i:Int)-(c:Int)-(dgt lb i:Int)) (dgt la i-c-dgt lb i) ex.out rfl rfl HO.out (by have:=HOL.out;omega) K1.out.1.size ?_;intro g cp w1 OW HW)
        have K2:Hid (KS w w1 []):=⟨K1.out.1.trans HW.out,by simp⟩
        clear HW HO K1;go_wp2;go_light;exact ⟨⟨o++[(dgt la i-c-dgt lb i)],i+1,0,rfl,by rw [show ((i+1:Nat):Int)=(i:Int)+1 by omega],NX.out,OW.out,K2.out⟩,by simp only [intOf];omega⟩
    . by_cases hl:dgt la i<c+dgt lb i
      . skip
        obtain ⟨_,NX⟩:=DU TA.out.1 TB.out.1 HS.out ha hl;have zb:dgt lb i=0:=og (by omega)
        have ex0:(dgt la i:Int)-(c:Int)+268435456=(((dgt la i+BB-c-dgt lb i):Nat):Int):=by have:=zb;rw [aU];omega
        have ex:=Lib.hid ex0;clear ex0;have tl:(dgt la i:Int)-(c:Int)<0:=by have:=zb;omega
        have tb:¬ (i:Int)<(lb.length:Int):=by omega
        have NX:=Lib.hid NX;clear zb;clear HS HAw HBw ha hb' hl HA HB TA TB HV;go_wp2_with (at_builtin;refine aV rfl _ _ rfl wr w.heap.size _ o ((dgt la i:Int)-(c:Int)+268435456) (dgt la i+BB-c-dgt lb i) ex.out rfl rfl HO.out (by have:=HOL.out;omega) K1.out.1.size ?_;intro g cp w1 OW HW)
        have K2:Hid (KS w w1 []):=⟨K1.out.1.trans HW.out,by simp⟩
        clear HW HO K1;go_wp2;go_light;exact ⟨⟨o++[(dgt la i+BB-c-dgt lb i)],i+1,1,rfl,by rw [show ((i+1:Nat):Int)=(i:Int)+1 by omega],NX.out,OW.out,K2.out⟩,by simp only [intOf];omega⟩
      . skip
        have NX:=yV TA.out.1 TB.out.1 HS.out ha (by omega)
        have zb:dgt lb i=0:=og (by omega)
        have ex0:(dgt la i:Int)-(c:Int)=(((dgt la i-c-dgt lb i):Nat):Int):=by have:=zb;omega
        have ex:=Lib.hid ex0;clear ex0;have tl:¬ (dgt la i:Int)-(c:Int)<0:=by have:=zb;omega
        have tb:¬ (i:Int)<(lb.length:Int):=by omega
        have NX:=Lib.hid NX;clear zb;clear HS HAw HBw ha hb' hl HA HB TA TB HV;go_wp2_with (at_builtin;refine aV rfl _ _ rfl wr w.heap.size _ o ((dgt la i:Int)-(c:Int)) (dgt la i-c-dgt lb i) ex.out rfl rfl HO.out (by have:=HOL.out;omega) K1.out.1.size ?_;intro g cp w1 OW HW)
        have K2:Hid (KS w w1 []):=⟨K1.out.1.trans HW.out,by simp⟩
        clear HW HO K1;go_wp2;go_light;exact ⟨⟨o++[(dgt la i-c-dgt lb i)],i+1,0,rfl,by rw [show ((i+1:Nat):Int)=(i:Int)+1 by omega],NX.out,OW.out,K2.out⟩,by simp only [intOf];omega⟩
  . have hi2:i=la.length:=by have:=HS.out.2.2.2.1;omega
    have ta:¬ (i:Int)<(la.length:Int):=by omega
    obtain ⟨f1,f2⟩:=QK (hi2 ▸ HS.out) (Ai TA.out TB.out HV.out) HV.out;obtain ⟨AO,co,rfl,hco,hro⟩:=EE HO.out;have F:=Lib.hid f2;have CT:=Lib.hid (Gw AO o co wr hro f1 hco (by have:=HOL.out;omega))
    clear f1 f2 hro hco HS HO HA HB TA TB HV HAw HBw ha hi2 d1 d2;go_wp2_with fail;refine CT.out.mono ?_;rintro e w1 ⟨v,rfl,hbn,hb1⟩;have BNX:=Lib.hid hbn;have K2:Hid (Below w.heap.size w w1):=K1.out.1.trans (hb1.mono K1.out.1.size);clear hbn hb1 CT K1;go_wp2;go_ret;exact ⟨_,rfl,by rw [<-F.out];exact BNX.out,K2.out⟩
theorem J5 {x y:Nat} (h:x<y):qO x y=-1:=by unfold qO;rw [if_pos h]
theorem Jm {x y:Nat} (h:y<x):qO x y=1:=by unfold qO;rw [if_neg (by omega),if_pos h]
theorem Tf {x y:Nat} (h:x=y):qO x y=0:=by unfold qO;rw [if_neg (by omega),if_neg (by omega)]
theorem Bv (A B:Option Addr) (la lb:List Nat) (ca cb:Nat) (w:World) (hA:RD w A la) (hB:RD w B lb) (ta:Tr la) (tb:Tr lb) (na:la.length<=60) (nb:lb.length<=60) :
 Calls Tryz.prog 161 #[.slice A la.length ca,.slice B lb.length cb] w fun e w'=>e=.returned (.int .i64 (qO (vd la) (vd lb)))/\Below w.heap.size w w':=by
 have K0:=Lib.hid (Below.refl w.heap.size w);rcases Nat.lt_trichotomy la.length lb.length with hl|hl|hl
 . have V:=Lib.hid (J5 (Kc ta tb hl));have t1:(la.length:Int)<(lb.length:Int):=by omega
   have t2:((la.length:Int) != (lb.length:Int))=true:=by simp;omega
   have t3:¬ la.length=lb.length:=by omega
   clear hA hB ta tb na nb;go_enter Tryz.func161,Tryz.ntmps161;go_wp2;go_ret;exact ⟨by rw [V.out];rfl,K0.out⟩
 . have HA:=Lib.hid hA;have HB:=Lib.hid hB;have TA:=Lib.hid ta;have TB:=Lib.hid tb;have HL:=Lib.hid hl;have t2:((la.length:Int) != (lb.length:Int))=false:=by simp [hl]
   have t3:¬ (la.length:Int)<(lb.length:Int):=by omega
   have KW:=Lib.hid (az w);clear hA hB ta tb hl;go_enter Tryz.func161,Tryz.ntmps161;go_wp2;go_loopw [5] (fun v5 wr=>∃ n:Nat,v5=.int .i64 ((n:Int)-1)/\Fx la lb n/\KS w wr []) (fun v5 _=>(intOf v5+1).toNat)
   case atStart=>exact ⟨la.length,rfl,F9 HL.out,KW.out⟩
   case round =>
    obtain ⟨n,rfl,hO,hK⟩:=hrel;have HO:=Lib.hid hO;have K1:=Lib.hid hK;clear hO hK K0 KW;have hnl:n<=la.length:=HO.out.1;have hnl2:n<=lb.length:=HO.out.2.1;cases n with
    | zero =>
     have V:=Lib.hid (Tf (Q8 HO.out));clear HO HA HB TA TB;go_wp2;go_ret;exact ⟨by rw [V.out];rfl,K1.out.1⟩
    | succ n =>
     rw [show ((n+1:Nat):Int)-1=(n:Int) by omega]
     have HAw:=HA.out.below K1.out.1;have HBw:=HB.out.below K1.out.1;obtain ⟨b1,o1,rfl,h1,c1⟩:=jv HAw (i:=n) (by omega)
     obtain ⟨b2,o2,rfl,h2,c2⟩:=jv HBw (i:=n) (by omega)
     have i1:(n:Int)<(la.length:Int):=by omega
     have i2:(n:Int)<(lb.length:Int):=by omega
     rcases Nat.lt_trichotomy (dgt la n) (dgt lb n) with q|q|q
     . have V:=Lib.hid (J5 (Ja TA.out.1 HO.out q));have q1:(dgt la n:Int)<(dgt lb n:Int):=by omega
       clear HO HA HB TA TB HAw HBw q;go_wp2;go_quiet (fail);go_wp2;go_ret;exact ⟨by rw [V.out];rfl,by first|exact below_drewN K1.out.1 _|exact below_drewN (below_drewN K1.out.1 _) _⟩
     . have NX:=Lib.hid (M6 HO.out q);have q1:¬ (dgt la n:Int)<(dgt lb n:Int):=by omega
       have q2:¬ (dgt lb n:Int)<(dgt la n:Int):=by omega
       clear HO HA HB TA TB HAw HBw q;go_wp2;go_quiet (fail);go_wp2;go_quiet (fail);go_wp2;go_light;exact ⟨⟨n,rfl,NX.out,K1.out.drewN _⟩,by simp only [intOf];omega⟩
     . have V:=Lib.hid (Jm (Ja TB.out.1 (NG HO.out) q));have q1:¬ (dgt la n:Int)<(dgt lb n:Int):=by omega
       have q2:(dgt lb n:Int)<(dgt la n:Int):=by omega
       clear HO HA HB TA TB HAw HBw q;go_wp2;go_quiet (fail);go_wp2;go_quiet (fail);go_wp2;go_ret;exact ⟨by rw [V.out];rfl,by first|exact below_drewN K1.out.1 _|exact below_drewN (below_drewN K1.out.1 _) _⟩
 . have V:=Lib.hid (Jm (Kc tb ta hl));have t1:¬ (la.length:Int)<(lb.length:Int):=by omega
   have t2:((la.length:Int) != (lb.length:Int))=true:=by simp;omega
   have t3:¬ la.length=lb.length:=by omega
   clear hA hB ta tb na nb;go_enter Tryz.func161,Tryz.ntmps161;go_wp2;go_ret;exact ⟨by rw [V.out];rfl,K0.out⟩
end Go.Proofs.YtoniodlcogpdbaaGreat
namespace Go.Proofs.YtoniodlcogpdbaaGreat
open Go.RowKit Alm
def zs0 (n:Nat):List Nat:=List.replicate n 0
theorem MP (n:Nat):madeCells #[.int .i64 0] n=⟨DL (zs0 n)⟩:=by
 apply Array.ext'
 unfold madeCells DL zs0;simp;apply List.ext_getElem
 . simp
 . intro i h1 h2;simp [Nat.mod_one]
theorem uE {o:List Nat} {i:Nat} (h:i<o.length):(⟨DL o⟩:Array Value)[i]? = some (.int .i64 (dgt o i:Int)):=by
 rw [gK h];simp [DL,h]
theorem Cz (o:List Nat) (i x:Nat):(⟨DL o⟩:Array Value).setIfInBounds i (.int .i64 (x:Int))=⟨DL (o.set i x)⟩:=by
 apply Array.ext'
 simp [DL,List.map_set]
theorem MZ:∃ i:TypeInfo,Tryz.prog.info? 3=some i/\i.zero=some (.int .i64 0)/\i.size=1/\i.bytes=8:=by
 have h1:(Tryz.prog.info? 3).map (fun i=>(i.zero,i.size,i.bytes))=some (some (.int .i64 0),1,8):=by kernel_rfl
 cases hi:Tryz.prog.info? 3 with
 | none=>rw [hi] at h1;simp at h1
 | some i =>
  rw [hi] at h1;simp at h1;exact ⟨i,rfl,h1.1,h1.2.1,h1.2.2⟩
theorem tN (n:Nat) (hn:n<=1000) (w:World):(Instr.makeSlice 143 (.int .i64 (n:Int)) (.int .i64 (n:Int))).run Tryz.prog w=.ok (.slice (some ⟨w.heap.size,0,none⟩) n n) (w.alloc (.cells ⟨DL (zs0 n)⟩ 3)):=by
 obtain ⟨i,hi,hz,hs,hb⟩:=MZ;have h:=run_makeSlice (P:=Tryz.prog) w 143 3 i (.int .i64 0) Tryz.underlying143 hi hz .i64 .i64 (n:Int) (n:Int) (by omega) (Int.le_refl _) (by rw [hs,Int.toNat_natCast];omega) (by rw [hb];omega) (by omega)
 rw [h,Int.toNat_natCast,hs,Nat.mul_one];have:(Value.int IntKind.i64 0).cells=#[.int .i64 0]:=rfl;rw [this,MP]
theorem Gd (A:Option Addr) (la:List Nat) (ca d:Nat) (w:World) (hA:RD w A la) (ta:Tr la) (na:la.length<=60) (d0:0<d) (d1:d<=268435456) :
 Calls Tryz.prog 173 #[.slice A la.length ca,.int .i64 (d:Int)] w (uY (vd la/d) w):=by
 have HA:=Lib.hid hA;have TA:=Lib.hid ta;have MK:=tN la.length (by omega)
 clear hA ta;go_enter Tryz.func173,Tryz.ntmps173;have K0:=Lib.hid ((az w).new w.heap.size rfl 3 ⟨DL (zs0 la.length)⟩);go_wp2;go_loopw [6,7] (fun v6 v7 wr=>∃ (o:List Nat) (n r:Nat),v6=.int .i64 (r:Int)/\v7=.int .i64 ((n:Int)-1)/\Em la d o n r/\KS w wr [(w.heap.size,3,⟨DL o⟩)]) (fun _ v7 _=>(intOf v7+1).toNat)
 case atStart=>exact ⟨zs0 la.length,la.length,0,rfl,rfl,Eo la d d0,K0.out⟩
 case round =>
  obtain ⟨o,n,r,rfl,rfl,hP,hK⟩:=hrel;have HP:=Lib.hid hP;have K1:=Lib.hid hK;clear hP hK K0 MK;have hnl:n<=la.length:=HP.out.2.2.1;have hol:o.length=la.length:=HP.out.1;have hr1:(r:Int)<(d:Int):=by have:=HP.out.2.2.2.1;omega
  have hd0:(0:Int)<(d:Int):=by omega
  have hd1:(d:Int)<=268435456:=by omega
  cases n with
  | zero =>
   obtain ⟨f1,f2⟩:=NC HP.out;have RO:RD wr (some ⟨w.heap.size,0,none⟩) o:=fun _=>⟨w.heap.size,0,rfl,K1.out.lt (g:=w.heap.size) (t:=3) (cs:=⟨DL o⟩) (by simp),fun i hi=>by
    rw [Nat.zero_add,<-gK hi];exact K1.out.c (g:=w.heap.size) (t:=3) (cs:=⟨DL o⟩) (by simp) (i:=i) (uE hi)⟩
   have CT:=Gw (some ⟨w.heap.size,0,none⟩) o la.length wr RO f1 (by omega) (by omega)
   rw [hol] at CT;replace CT:=Lib.hid CT;have F:=Lib.hid f2;clear f1 f2 RO HP hol hnl hr1 HA TA;go_wp2_with fail;refine CT.out.mono ?_;rintro e w1 ⟨v,rfl,hbn,hb1⟩;have BNX:=Lib.hid hbn;have K2:Hid (Below w.heap.size w w1):=K1.out.1.trans (hb1.mono K1.out.1.size);clear hbn hb1 CT K1;go_wp2;go_ret;exact ⟨_,rfl,by rw [<-F.out];exact BNX.out,K2.out⟩
  | succ n =>
   rw [show ((n+1:Nat):Int)-1=(n:Int) by omega]
   obtain ⟨xl,NX⟩:=GH TA.out.1 HP.out;have HAw:=HA.out.below K1.out.1;obtain ⟨b1,o1,rfl,h1,c1⟩:=jv HAw (i:=n) (by omega)
   have i1:(n:Int)<(la.length:Int):=by omega
   have d2:(dgt la n:Int)<268435456:=by have:=eU TA.out.1 n;rw [aU] at this;omega
   have cc:=K1.out.c (g:=w.heap.size) (t:=3) (cs:=⟨DL o⟩) (by simp) (i:=n) (uE (by omega))
   have ff:=K1.out.f (g:=w.heap.size) (t:=3) (cs:=⟨DL o⟩) (by simp) n
   have NX:=Lib.hid NX;clear HP HAw HA TA xl;have q1:Hid ((((r*BB+dgt la n)/d:Nat):Int)=((r:Int)*268435456+(dgt la n:Int))/(d:Int)):=by
    show _=_;rw [aU,Int.natCast_ediv,Int.natCast_add,Int.natCast_mul];rfl
   have q2:Hid ((((r*BB+dgt la n)%d:Nat):Int)=((r:Int)*268435456+(dgt la n:Int))%(d:Int)):=by
    show _=_;rw [aU,Int.natCast_emod,Int.natCast_add,Int.natCast_mul];rfl
   go_wp2;go_light;refine ⟨⟨o.set n ((r*BB+dgt la n)/d),n,(r*BB+dgt la n)%d,by rw [q2.out],rfl,NX.out,?_⟩,by simp only [intOf];omega⟩
   have S:=K1.out.set (Nat.le_refl _) (by simp) n (.int .i64 (((r:Int)*268435456+(dgt la n:Int))/(d:Int)))
   rw [<-q1.out,Cz] at S;rw [<-q1.out];exact S
theorem rC (A B:Option Addr) (la lb:List Nat) (ca cb:Nat) (w:World) (hA:RD w A la) (hB:RD w B lb) (ta:Tr la) (tb:Tr lb) (na:la.length<=40) (nb:lb.length<=40) :
 Calls Tryz.prog 157 #[.slice A la.length ca,.slice B lb.length cb] w (uY (vd la*vd lb) w):=by
 have HA:=Lib.hid hA;have TA:=Lib.hid ta;have HB:=Lib.hid hB;have TB:=Lib.hid tb;have MK:=tN (la.length+lb.length) (by omega)
 rw [show ((la.length+lb.length:Nat):Int)=(la.length:Int)+(lb.length:Int) by omega] at MK
 have K0:=Lib.hid ((az w).new w.heap.size rfl 3 ⟨DL (zs0 (la.length+lb.length))⟩);clear hA ta hB tb;go_enter Tryz.func157,Tryz.ntmps157;go_wp2;go_loopw [6] (fun v6 wr=>∃ (o:List Nat) (i:Nat),v6=.int .i64 (i:Int)/\OL la lb o i/\KS w wr [(w.heap.size,3,⟨DL o⟩)]) (fun v6 _=>((la.length:Int)-intOf v6).toNat)
 case atStart=>exact ⟨zs0 (la.length+lb.length),0,rfl,IE la lb,K0.out⟩
 case round =>
  obtain ⟨o,i,rfl,hT,hK⟩:=hrel;have HT:=Lib.hid hT;have K1:=Lib.hid hK;clear hT hK K0 MK;have hol:o.length=la.length+lb.length:=HT.out.1;obtain ⟨wo,rfl⟩:∃ wo:World,wo=wr:=⟨_,rfl⟩
  by_cases hi:i<la.length
  . have hi':(i:Int)<(la.length:Int):=by omega
    have T0:=Lib.hid (F7 HT.out hi);clear HT;have HOL:=Lib.hid hol;clear hol;go_wp2;go_loopw [7,8] (fun v7 v8 wr=>∃ (o:List Nat) (k c:Nat),v7=.int .i64 (c:Int)/\v8=.int .i64 (k:Int)/\PM la lb o i k c/\KS w wr [(w.heap.size,3,⟨DL o⟩)]) (fun _ v8 _=>((lb.length:Int)-intOf v8).toNat)
    case atStart=>exact ⟨o,0,0,rfl,rfl,T0.out,K1.out⟩
    case round =>
     obtain ⟨o2,k,c,rfl,rfl,hT,hK⟩:=hrel;have HT:=Lib.hid hT;have K2:=Lib.hid hK;clear hT hK K1 T0;have hol2:o2.length=la.length+lb.length:=HT.out.1;have hkl:k<=lb.length:=HT.out.2.2.2.1;have hc:(c:Int)<268435456:=by have:=HT.out.2.2.2.2.1;rw [aU] at this;omega
     by_cases hk:k<lb.length
     . obtain ⟨lt,NX⟩:=Lt TA.out.1 TB.out.1 HT.out hk;have HAw:=HA.out.below K2.out.1;have HBw:=HB.out.below K2.out.1;obtain ⟨b1,o1,rfl,h1,c1⟩:=jv HAw hi;obtain ⟨b2,off2,rfl,h2,c2⟩:=jv HBw hk;have hk':(k:Int)<(lb.length:Int):=by omega
       have c3:=K2.out.c (g:=w.heap.size) (t:=3) (cs:=⟨DL o2⟩) (by simp) (i:=i+k) (uE (by omega))
       have ff:=K2.out.f (g:=w.heap.size) (t:=3) (cs:=⟨DL o2⟩) (by simp) (i+k)
       have d1:(dgt la i:Int)<268435456:=by have:=eU TA.out.1 i;rw [aU] at this;omega
       have d2:(dgt lb k:Int)<268435456:=by have:=eU TB.out.1 k;rw [aU] at this;omega
       have d3:(dgt o2 (i+k):Int)<268435456:=by have:=eU HT.out.2.1 (i+k);rw [aU] at this;omega
       obtain ⟨x,hx⟩:∃ x:Nat,x=dgt o2 (i+k)+dgt la i*dgt lb k+c:=⟨_,rfl⟩;rw [<-hx] at NX lt;rw [aU] at lt;have e1:((dgt la i*dgt lb k:Nat):Int)=(dgt la i:Int)*(dgt lb k:Int):=by rw [Int.natCast_mul]
       have NX:=Lib.hid NX;obtain ⟨P,hP⟩:∃ P:Int,P=(dgt la i:Int)*(dgt lb k:Int):=⟨_,rfl⟩;have p1:0<=P:=by rw [hP,<-e1];omega
       have p2:P<72057594037927936:=by rw [hP,<-e1];omega
       have EX:Hid ((x:Int)=(dgt o2 (i+k):Int)+(dgt la i:Int)*(dgt lb k:Int)+(c:Int)):=by
        show _=_;rw [<-e1,hx];omega
       rw [hP] at p1 p2;have w1:IntKind.i64.wrap ((i:Int)+(k:Int))=(i:Int)+(k:Int):=IntWalk.i64_in _ (by omega)
       have w2:IntKind.i64.wrap ((dgt la i:Int)*(dgt lb k:Int))=(dgt la i:Int)*(dgt lb k:Int):=IntWalk.i64_in _ (by omega)
       have w3:IntKind.i64.wrap ((dgt o2 (i+k):Int)+(dgt la i:Int)*(dgt lb k:Int))=(dgt o2 (i+k):Int)+(dgt la i:Int)*(dgt lb k:Int):=IntWalk.i64_in _ (by omega)
       have w4:IntKind.i64.wrap ((dgt o2 (i+k):Int)+(dgt la i:Int)*(dgt lb k:Int)+(c:Int))=(dgt o2 (i+k):Int)+(dgt la i:Int)*(dgt lb k:Int)+(c:Int):=IntWalk.i64_in _ (by omega)
       have tn:((i:Int)+(k:Int)).toNat=i+k:=by omega
       have tl:(i:Int)+(k:Int)<(la.length:Int)+(lb.length:Int):=by omega
       have tl2:((i:Int)+(k:Int))<((la.length+lb.length:Nat):Int):=by omega
       have tg:(0:Int)<=(i:Int)+(k:Int):=by omega
       clear HT HAw HBw HA HB TA TB hP hx e1 lt;go_wp2;go_quiet (fail);clear w1 w2 w3 w4;have q1:Hid (((x%BB:Nat):Int)=((dgt o2 (i+k):Int)+(dgt la i:Int)*(dgt lb k:Int)+(c:Int))%268435456):=by
        have:=EX.out;show _=_;rw [<-this,aU];omega
       have q2:Hid (((x/BB:Nat):Int)=((dgt o2 (i+k):Int)+(dgt la i:Int)*(dgt lb k:Int)+(c:Int))/268435456):=by
        have:=EX.out;show _=_;rw [<-this,aU];omega
       go_wp2;go_light;refine ⟨⟨o2.set (i+k) (x%BB),k+1,x/BB,by rw [q2.out],by rw [show ((k+1:Nat):Int)=(k:Int)+1 by omega],NX.out,?_⟩,by simp only [intOf];omega⟩
       have S:=(K2.out.drewN nq).set (Nat.le_refl _) (by simp) (i+k) (.int .i64 (((dgt o2 (i+k):Int)+(dgt la i:Int)*(dgt lb k:Int)+(c:Int))%268435456))
       rw [<-q1.out,Cz] at S;rw [<-q1.out];exact S
     . have hk2:k=lb.length:=by omega
       subst hk2;have NX:=Lib.hid (Qm HT.out);have hk':¬ (lb.length:Int)<(lb.length:Int):=by omega
       have c3:=K2.out.c (g:=w.heap.size) (t:=3) (cs:=⟨DL o2⟩) (by simp) (i:=i+lb.length) (uE (by omega))
       have ff:=K2.out.f (g:=w.heap.size) (t:=3) (cs:=⟨DL o2⟩) (by simp) (i+lb.length)
       have tn:((i:Int)+(lb.length:Int)).toNat=i+lb.length:=by omega
       have tl2:((i:Int)+(lb.length:Int))<((la.length+lb.length:Nat):Int):=by omega
       have tl3:((i:Int)+(lb.length:Int))<(la.length:Int)+(lb.length:Int):=by omega
       clear HT hk hkl HA HB TA TB;go_wp2;go_light;refine ⟨⟨o2.set (i+lb.length) c,i+1,by rw [show ((i+1:Nat):Int)=(i:Int)+1 by omega],NX.out,?_⟩,by simp only [intOf];omega⟩
       have S:=K2.out.set (Nat.le_refl _) (by simp) (i+lb.length) (.int .i64 (c:Int))
       rw [Cz] at S;exact S
  . have hi2:i=la.length:=by have:=HT.out.2.2.1;omega
    subst hi2;obtain ⟨f1,f2⟩:=QH HT.out;have RO:RD wo (some ⟨w.heap.size,0,none⟩) o:=fun _=>⟨w.heap.size,0,rfl,K1.out.lt (g:=w.heap.size) (t:=3) (cs:=⟨DL o⟩) (by simp),fun i hi=>by
     rw [Nat.zero_add,<-gK hi];exact K1.out.c (g:=w.heap.size) (t:=3) (cs:=⟨DL o⟩) (by simp) (i:=i) (uE hi)⟩
    have CT:=Gw (some ⟨w.heap.size,0,none⟩) o (la.length+lb.length) wo RO f1 (by omega) (by omega)
    rw [hol] at CT;replace CT:=Lib.hid CT;have F:=Lib.hid f2;have hi':¬ (la.length:Int)<(la.length:Int):=by omega
    clear f1 f2 RO HT hol HA HB TA TB hi;go_wp2_with fail;refine CT.out.mono ?_;rintro e w1 ⟨v,rfl,hbn,hb1⟩;have BNX:=Lib.hid hbn;have K2:Hid (Below w.heap.size w w1):=K1.out.1.trans (hb1.mono K1.out.1.size);clear hbn hb1 CT K1;go_wp2;go_ret;exact ⟨_,rfl,by rw [<-F.out];exact BNX.out,K2.out⟩
end Go.Proofs.YtoniodlcogpdbaaGreat
namespace Go.Proofs.YtoniodlcogpdbaaGreat
open Go.RowKit Alm
theorem Gr (A:Option Addr) (la:List Nat) (ca k:Nat) (w:World) (hA:RD w A la) (ta:Tr la) (na:la.length<=60) (hca:la.length<=ca) (hk:k<=60) :
 Calls Tryz.prog 175 #[.slice A la.length ca,.int .i64 (k:Int)] w (uY (vd la/BB^k) w):=by
 have K0:=Lib.hid (Below.refl w.heap.size w)
 by_cases h:la.length<=k
 . have F:=Lib.hid (Ma ta h);have h':(la.length:Int)<=(k:Int):=by omega
   clear hA ta hca na;go_enter Tryz.func175,Tryz.ntmps175;go_wp2;go_ret;exact ⟨_,rfl,⟨none,[],0,rfl,Nat.le_refl _,wK,by rw [F.out];rfl,RD.nil _ _⟩,K0.out⟩
 . obtain ⟨b,off,rfl,hlt,hc⟩:=hA (by omega)
   obtain ⟨f1,f2⟩:=VS ta (k:=k) (by omega)
   have RX:=Lib.hid ((show RD w (some ⟨b,off,none⟩) la from hA).drop k)
   have F1:=Lib.hid f1;have F2:=Lib.hid f2;have h':¬ (la.length:Int)<=(k:Int):=by omega
   have h2:(k:Int)<=(la.length:Int):=by omega
   have h3:(la.length:Int)<=(ca:Int):=by omega
   have h4:k<la.length:=by omega
   have h5:¬ ca=k:=by omega
   clear hA ta f1 f2 hc;go_enter Tryz.func175,Tryz.ntmps175;go_wp2;go_ret;exact ⟨_,rfl,⟨some ⟨b,off+k,none⟩,la.drop k,ca-k,by rw [List.length_drop];rfl,by rw [List.length_drop];omega,F1.out,F2.out,RX.out⟩,K0.out⟩
theorem X7 (k:Nat) (w:World) (hk:k<=60) :
 Calls Tryz.prog 129 #[.int .i64 (k:Int)] w (uY (BB^k) w):=by
 have MK:=tN (k+1) (by omega)
 rw [show ((k+1:Nat):Int)=(k:Int)+1 by omega] at MK
 have K0:=Lib.hid ((az w).new w.heap.size rfl 3 ⟨DL (zs0 (k+1))⟩);have zl:(zs0 (k+1)).length=k+1:=by simp [zs0]
 have c3:=K0.out.c (g:=w.heap.size) (t:=3) (cs:=⟨DL (zs0 (k+1))⟩) (by simp) (i:=k) (uE (by omega))
 have ff:=K0.out.f (g:=w.heap.size) (t:=3) (cs:=⟨DL (zs0 (k+1))⟩) (by simp) k
 have tl:(k:Int)<((k+1:Nat):Int):=by omega
 have ZL:=Lib.hid zl;clear zl;go_enter Tryz.func129,Tryz.ntmps129;have vz:=Aq (zs0 (k+1)) k 1 (by rw [ZL.out];omega)
 have gz:(zs0 (k+1))[k]'(by rw [ZL.out];omega)=0:=by simp [zs0]
 rw [gz,show vd (zs0 (k+1))=0 from Dq _] at vz
 have VZ:Hid (vd ((zs0 (k+1)).set k 1)=BB^k):=by show _=_;omega
 have S:=Lib.hid (K0.out.set (Nat.le_refl _) (by simp) k (.int .i64 ((1:Nat):Int)))
 clear vz gz;go_wp2;go_ret;have s:=S.out;rw [Cz] at s;have hl:((zs0 (k+1)).set k 1).length=k+1:=by rw [List.length_set,ZL.out]
 have hd:Dg ((zs0 (k+1)).set k 1):=Bj (wU _) (by rw [aU];omega)
 have e:(w.alloc (.cells ((DL (zs0 (k+1))).set k (.int .i64 1)).toArray 3))=(w.alloc (.cells ⟨DL (zs0 (k+1))⟩ 3)).setCell ⟨w.heap.size,k,none⟩ (.int .i64 ((1:Nat):Int)):=by
  rw [World.setCell_alloc_at _ _ _ _ _ rfl]
  congr 1
  congr 1
  apply Array.ext'
  simp
 rw [e];refine ⟨_,rfl,⟨some ⟨w.heap.size,0,none⟩,(zs0 (k+1)).set k 1,k+1,by rw [hl];rfl,by rw [hl];omega,⟨hd,.inr (by rw [hl,VZ.out];exact Nat.le_refl _)⟩,VZ.out,fun _=>⟨w.heap.size,0,rfl,s.lt (g:=w.heap.size) (t:=3) (cs:=⟨DL ((zs0 (k+1)).set k 1)⟩) (by simp),fun i hi=>?_⟩⟩,s.1⟩
 rw [Nat.zero_add,<-gK hi];exact s.c (g:=w.heap.size) (t:=3) (cs:=⟨DL ((zs0 (k+1)).set k 1)⟩) (by simp) (i:=i) (uE hi)
def piL:List Nat:=[0x243f6a8,0x885a308,0xd313198,0xa2e0370,0x7344a40,0x9382229,0x9f31d00,0x82efa98,0xec4e6c8,0x9452821,0xe638d01,0x377be54]
theorem nV:piL.length=12:=rfl
theorem Ow:Dg piL:=by
 intro d hd;simp only [piL,List.mem_cons,List.not_mem_nil,or_false] at hd;rw [aU];omega
theorem aci (w:World) :
 Calls Tryz.prog 181 #[] w fun e w'=>∃ g,e=.returned (.slice (some ⟨g,0,none⟩) 12 12)/\RD w' (some ⟨g,0,none⟩) piL/\Below w.heap.size w w':=by
 have K0:=Lib.hid ((az w).new w.heap.size rfl 3 ⟨DL piL⟩);go_enter Tryz.func181,Tryz.ntmps181;go_wp2;go_ret;refine ⟨w.heap.size,rfl,?_,K0.out.1⟩;intro _;refine ⟨w.heap.size,0,rfl,K0.out.lt (g:=w.heap.size) (t:=3) (cs:=⟨DL piL⟩) (by simp),fun i hi=>?_⟩
 rw [Nat.zero_add,<-gK hi];exact K0.out.c (g:=w.heap.size) (t:=3) (cs:=⟨DL piL⟩) (by simp) (i:=i) (uE hi)
def piU (k:Nat):Nat:=vd ((piL.take k).reverse)+BB^k*3
def PiI (k:Nat) (o:List Nat) (n:Nat):Prop:=n<=k/\o=((piL.take k).drop n).reverse
theorem Nv (k:Nat) (hk:k<=12):PiI k [] k:=⟨Nat.le_refl _,by rw [List.drop_eq_nil_of_le (by rw [List.length_take,nV];omega)];rfl⟩
theorem Qz {k:Nat} {o:List Nat} {n:Nat} (hk:k<=12) (h:PiI k o (n+1)):PiI k (o++[dgt piL n]) n:=by
 obtain ⟨h1,rfl⟩:=h;refine ⟨by omega,?_⟩
 have hn:n<(piL.take k).length:=by rw [List.length_take,nV];omega
 rw [List.drop_eq_getElem_cons hn,List.reverse_cons,List.getElem_take,gK (by rw [nV];omega)]
theorem Ke {k:Nat} {o:List Nat} {n:Nat} (hk:k<=12) (h:PiI k o n):o.length=k-n/\Dg o:=by
 obtain ⟨h1,rfl⟩:=h;refine ⟨by rw [List.length_reverse,List.length_drop,List.length_take,nV];omega,?_⟩
 intro d hd;exact KO (pW Ow k) n d (List.mem_reverse.1 hd)
theorem Va {k:Nat} {o:List Nat} (hk:k<=12) (h:PiI k o 0):Tr (o++[3])/\vd (o++[3])=piU k:=by
 obtain ⟨hl,hd⟩:=Ke hk h;obtain ⟨h1,rfl⟩:=h;rw [List.drop_zero] at *
 refine ⟨⟨qZ hd (by rw [aU];omega),.inr ?_⟩,?_⟩
 . rw [kU,List.length_append,hl];simp;omega
 . rw [kU,hl];rfl
theorem adA (k:Nat) (w:World) (hk:k<=12) :
 Calls Tryz.prog 174 #[.int .i64 (k:Int)] w (uY (piU k) w):=by
 have C0:=Lib.hid (aci w);go_enter Tryz.func174,Tryz.ntmps174;go_wp2_with fail;refine C0.out.mono ?_;rintro e w0 ⟨g,rfl,hR,hb0⟩;have HR:=Lib.hid hR;have K0:Hid (Below w.heap.size w w0):=hb0;clear hR hb0 C0;go_wp2;go_loopw [4,5] (fun v4 v5 wr=>∃ (o:List Nat) (n:Nat),v5=.int .i64 ((n:Int)-1)/\PiI k o n/\wr.ownsRow w0.heap.size 3 1 v4 o.length (DL o)/\KS w0 wr []) (fun _ v5 _=>(intOf v5+1).toNat)
 case atStart=>exact ⟨[],k,rfl,Nv k hk,World.ownsRow_nil _ _ _ _,az w0⟩
 case round =>
  obtain ⟨o,n,rfl,hP,hO,hK⟩:=hrel;have HP:=Lib.hid hP;have HO:=Lib.hid hO;have K1:=Lib.hid hK;clear hP hO hK;have hnk:n<=k:=HP.out.1;have HOL:Hid (o.length=k-n):=(Ke hk HP.out).1;cases n with
  | zero =>
   have E:=Lib.hid (Va hk HP.out);have t1:¬ (0:Int)<=((0:Nat):Int)-1:=by omega
   clear HP HR;go_wp2_with (at_builtin;refine aV rfl (.tmp 20) (.tmp 21) rfl wr w0.heap.size _ o 3 3 rfl rfl rfl HO.out (by have:=HOL.out;omega) K1.out.1.size ?_;intro g2 cp w1 OW HW)
   go_ret;exact ⟨_,rfl,by rw [<-E.out.2];exact GX (by simpa using OW.out) E.out.1,K0.out.trans ((K1.out.1.trans HW.out).mono K0.out.size)⟩
  | succ n =>
   rw [show ((n+1:Nat):Int)-1=(n:Int) by omega]
   have NX:=Lib.hid (Qz hk HP.out);have HRw:=HR.out.below K1.out.1;obtain ⟨b1,o1,e1,h1,c1⟩:=jv HRw (i:=n) (by rw [nV];omega)
   injection e1 with e1
   injection e1 with e2 e3
   subst e2;subst e3;rw [Nat.zero_add] at c1;have t2:(n:Int)<12:=by omega
   clear HP HRw;go_wp2_with (at_builtin;refine aV rfl (.tmp 13) (.tmp 18) rfl wr w0.heap.size _ o (dgt piL n:Int) (dgt piL n) rfl rfl rfl HO.out (by have:=HOL.out;omega) K1.out.1.size ?_;intro g2 cp w1 OW HW)
   have K2:Hid (KS w0 w1 []):=⟨K1.out.1.trans HW.out,by simp⟩
   clear HW K1 HO c1;go_wp2;go_light;exact ⟨⟨o++[dgt piL n],n,rfl,NX.out,by simpa using OW.out,K2.out⟩,by simp only [intOf];omega⟩
end Go.Proofs.YtoniodlcogpdbaaGreat
namespace Go.Proofs.YtoniodlcogpdbaaGreat
open Go.RowKit Alm
def lV (N:Nat) (neg:Bool) (w:World) (e:Ending) (w':World):Prop:=∃ v,e=.returned (.agg #[v,.bool neg])/\BN w' v N/\Below w.heap.size w w'
theorem KS.below2 {w wr wx:World} {l:List (Nat × TypeId × Array Value)} {B:Nat} (h:KS w wr l) (hb:Below B wr wx) (hB:w.heap.size<=B) (hl:∀ p∈l,p.1<B):KS w wx l :=
 ⟨h.1.trans (hb.mono hB),fun p hp=>(h.2 p hp).below hb (hl p hp)⟩
theorem Aj {w:World} {base n:Nat} {e:TypeId} {v:Value} {xs:List Value} (h:w.ownsRow base e 1 v n xs) {p:Addr} (hp:p.block<base) (u:Value):(w.setCell p u).ownsRow base e 1 v n xs:=by
 obtain ⟨h1,h|⟨g,cap,cur,hv,hb,hg,h2⟩⟩:=h
 . exact ⟨h1,.inl h⟩
 . exact ⟨h1,.inr ⟨g,cap,cur,hv,hb,(Below.heap_setCell w p u g (by omega)).trans hg,h2⟩⟩
theorem vO (A:Option Addr) (l:List Nat) (c:Nat) (neg:Bool) (w:World) (hl:l.length<=100) :
 Calls Tryz.prog 156 #[.agg #[.slice A l.length c,.bool neg]] w fun e w'=>e=.returned (.agg #[.slice A l.length c,.bool (neg&&decide (l.length≠0))])/\Below w.heap.size w w':=by
 have K0:=Lib.hid (az w)
 by_cases h:l.length=0
 . have V:Hid ((neg&&decide (l.length≠0))=false):=by show _=_;rw [h];simp
   rw [V.out];have h1:((l.length:Int)==0)=true:=by rw [h];rfl
   have h2:decide ((l.length:Int)=0)=true:=by rw [h];rfl
   clear h;go_enter Tryz.func156,Tryz.ntmps156;go_wp2;refine bodyPost_ret (by simp [results,Tryz.results156,go_sem];try rfl) rfl ⟨rfl,by go_light;go_grown⟩
 . have V:Hid ((neg&&decide (l.length≠0))=neg):=by show _=_;rw [decide_eq_true h];simp
   rw [V.out];have h1:((l.length:Int)==0)=false:=by simp [h]
   have h2:decide ((l.length:Int)=0)=false:=by simp [h]
   clear h;go_enter Tryz.func156,Tryz.ntmps156;go_wp2;refine bodyPost_ret (by simp [results,Tryz.results156,go_sem];try rfl) rfl ⟨rfl,by go_light;go_grown⟩
theorem qE (N:Nat) (w:World) (hN:N<4611686018427387904) :
 Calls Tryz.prog 128 #[.int .i64 (N:Int)] w (lV N false w):=by
 have K0:=Lib.hid (((az w).new w.heap.size rfl 145 #[.slice none 0 0,.bool false]).new (w.heap.size+1) (by simp) 145 #[.slice none 0 0,.bool false])
 have hNlen:∀ o n,OfI N o n->o.length<=3:=fun o n h=>Vl h (k:=3) (by rw [aU];omega)
 have HNL:=Lib.hid hNlen;have HN:=Lib.hid hN;clear hNlen hN;go_enter Tryz.func128,Tryz.ntmps128;go_wp2;go_loopw [0,4] (fun v0 v4 wr=>∃ (o:List Nat) (n:Nat) (v:Value),v0=.int .i64 (n:Int)/\n<=N/\OfI N o n/\wr.ownsRow (w.heap.size+2) 3 1 v o.length (DL o)/\KS w wr [(w.heap.size+1,145,#[v,.bool false]),(w.heap.size,145,#[.slice none 0 0,.bool false])]/\w.heap.size+2<=wr.heap.size) (fun v0 _ _=>(intOf v0).toNat)
 case atStart=>exact ⟨[],N,_,rfl,Nat.le_refl _,Lr N,World.ownsRow_nil _ _ _ _,K0.out,by simp⟩
 case round =>
  obtain ⟨o,n,v,rfl,hnN,hI,hO,hK,hsz⟩:=hrel;have HI:=Lib.hid hI;have HO:=Lib.hid hO;have K1:=Lib.hid hK;have HSZ:=Lib.hid hsz;clear hI hO hK K0 hsz;have c0:=K1.out.c (g:=w.heap.size+1) (t:=145) (cs:=#[v,.bool false]) (by simp) (i:=0) rfl
  have c1:=K1.out.c (g:=w.heap.size+1) (t:=145) (cs:=#[v,.bool false]) (by simp) (i:=1) rfl
  have f0:=K1.out.f (g:=w.heap.size+1) (t:=145) (cs:=#[v,.bool false]) (by simp) 0
  have f1:=K1.out.f (g:=w.heap.size+1) (t:=145) (cs:=#[v,.bool false]) (by simp) 1
  have d0:=K1.out.c (g:=w.heap.size) (t:=145) (cs:=#[.slice none 0 0,.bool false]) (by simp) (i:=0) rfl
  have d1:=K1.out.c (g:=w.heap.size) (t:=145) (cs:=#[.slice none 0 0,.bool false]) (by simp) (i:=1) rfl
  have e0:=K1.out.f (g:=w.heap.size) (t:=145) (cs:=#[.slice none 0 0,.bool false]) (by simp) 0
  have e1:=K1.out.f (g:=w.heap.size) (t:=145) (cs:=#[.slice none 0 0,.bool false]) (by simp) 1
  by_cases hn:0<n
  . have NX:=Lib.hid (Ox HI.out hn);have h1:((n:Int) != 0)=true:=by simp;omega
    have h2:¬ (n:Int)%268435456<0:=by omega
    have h3:0<=(n:Int)%268435456/\(n:Int)%268435456<268435456:=by omega
    have HOL:Hid (o.length<=3):=HNL.out _ _ HI.out;have h4:(n:Int)/268435456<=17179869184:=by have:=HN.out;omega
    have hn':(0:Int)<(n:Int):=by omega
    go_wp2_with (at_builtin;refine aV rfl (.tmp 17) (.tmp 19) rfl wr (w.heap.size+2) _ o ((n:Int)%268435456) (n%BB) (by show _=((n%268435456:Nat):Int);exact (Int.natCast_emod n 268435456).symm) rfl rfl HO.out (by have:=HOL.out;omega) HSZ.out ?_;intro g cp w1 OW HW;have K2:Hid (KS w w1 [(w.heap.size+1,145,#[v,.bool false]),(w.heap.size,145,#[.slice none 0 0,.bool false])]):=K1.out.below2 HW.out (by omega) (by simp);have HS2:Hid (w.heap.size+2<=w1.heap.size):=Nat.le_trans HSZ.out HW.out.size;clear c0 c1 f0 f1 d0 d1 e0 e1 HW K1 HO HSZ;have c0:=K2.out.c (g:=w.heap.size+1) (t:=145) (cs:=#[v,.bool false]) (by simp) (i:=0) rfl;have f0:=K2.out.f (g:=w.heap.size+1) (t:=145) (cs:=#[v,.bool false]) (by simp) 0)
    go_light;refine ⟨⟨o++[n%BB],n/BB,_,by rw [show ((n/BB:Nat):Int)=(n:Int)/268435456 by rw [aU];omega],Nat.le_trans (Nat.div_le_self _ _) hnN,NX.out,Aj OW.out (by simp) _,(K2.out.set (by omega) (by simp) 0 _),by simpa using HS2.out⟩,by simp only [intOf];omega⟩
  . have n0:n=0:=by omega
    subst n0;obtain ⟨f1',f2'⟩:=VC HI.out;have h1:(((0:Nat):Int) != 0)=false:=rfl;have F:=Lib.hid f2'
    obtain ⟨AO,co,rfl,_,_⟩:=EE HO.out;have BNX:Hid (BN ((wr.setCell ⟨w.heap.size,0,none⟩ (.slice AO o.length co)).setCell ⟨w.heap.size,1,none⟩ (.bool false)) (.slice AO o.length co) N):=by
     rw [<-f2'];exact GX (Aj (Aj HO.out (by simp) _) (by simp) _) f1'
    clear f1' f2' HI HO HNL F;go_wp2;have hB:=(K1.out.1.setCell (p:=⟨w.heap.size,0,none⟩) (Nat.le_refl _) (.slice AO o.length co)).setCell (p:=⟨w.heap.size,1,none⟩) (Nat.le_refl _) (.bool false);refine bodyPost_ret (by simp [results,Tryz.results128,go_sem,c0,c1,d0,d1];try rfl) rfl ⟨_,rfl,BNX.out,hB⟩
end Go.Proofs.YtoniodlcogpdbaaGreat
namespace Go.Proofs.YtoniodlcogpdbaaGreat
open Go.RowKit Alm
theorem bz {w:World} {v:Value} {N:Nat} (h:BN w v N) {k:Nat} (hN:N<BB^k):∃ A l c,v=.slice A l.length c/\l.length<=c/\l.length<=k/\Tr l/\vd l=N/\RD w A l:=by
 obtain ⟨A,l,c,h1,h2,h3,h4,h5⟩:=h;exact ⟨A,l,c,h1,h2,Pw h3 (by rw [h4];exact hN),h3,h4,h5⟩
theorem Jy {w:World} {A:Option Addr} {l:List Nat} {c:Nat} (h1:l.length<=c) (h2:Tr l) (h3:RD w A l):BN w (.slice A l.length c) (vd l):=⟨A,l,c,rfl,h1,h2,rfl,h3⟩
theorem jH {w:World} {v:Value} {N g:Nat} {t:TypeId} (h:BN w v N) (hk:BK w g t #[.slice none 0 0,.bool false]) (u:Value) (x:Value) :
 BN ((w.setCell ⟨g,0,none⟩ u).setCell ⟨g,1,none⟩ x) v N:=by
 obtain ⟨A,l,c,h1,h2,h3,h4,h5⟩:=h;refine ⟨A,l,c,h1,h2,h3,h4,fun h0=>?_⟩
 obtain ⟨b,off,e,hlt,hc⟩:=h5 h0;refine ⟨b,off,e,by simpa [World.setCell] using hlt,fun i hi=>?_⟩
 have hb:g≠b:=by
  rintro rfl;have h6:=hc i hi;rw [hk.cell] at h6;have h7:off+i=0∨off+i=1∨2<=off+i:=by omega
  rcases h7 with q|q|q
  . rw [q] at h6;simp at h6
  . rw [q] at h6;simp at h6
  . rw [Array.getElem?_eq_none (by simpa using q)] at h6;cases h6
 rw [cell_far _ _ _ _ _ _ hb,cell_far _ _ _ _ _ _ hb];exact hc i hi
theorem Wz {l:List Nat} (h:Tr l):decide (l.length≠0)=decide (vd l≠0):=by
 have:=Cj h;exact decide_eq_decide.2 (by rw [Ne,Ne,this])
theorem Ie (X Y:Nat) (va vb:Value) (w:World) (hX:BN w va X) (hY:BN w vb Y) (lX:X<BB^20) (lY:Y<BB^20) :
 Calls Tryz.prog 126 #[.agg #[va,.bool false],.agg #[vb,.bool false]] w (lV (X*Y) false w):=by
 obtain ⟨A,la,ca,rfl,h1,h2,h3,h4,h5⟩:=bz hX lX;obtain ⟨B,lb,cb,rfl,k1,k2,k3,k4,k5⟩:=bz hY lY;have LP:Hid (X*Y<BB^40):=by
  show _<_;rw [show (40:Nat)=20+20 from rfl,Nat.pow_add]
  exact Nat.mul_lt_mul'' lX lY
 have CT:=Lib.hid (fun (wx:World) (l:List (Nat × TypeId × Array Value)) (hk:KS w wx l)=>rC A B la lb ca cb wx (h5.below hk.1) (k5.below hk.1) h3 k3 (by omega) (by omega))
 rw [h4,k4] at CT;clear hX hY lX lY h1 h2 h3 h4 h5 k1 k2 k3 k4 k5;have K1:=Lib.hid ((((az w).new w.heap.size rfl 145 #[.slice A la.length ca,.bool false]).new (w.heap.size+1) (by simp) 145 #[.slice B lb.length cb,.bool false]).new (w.heap.size+1+1) (by simp) 145 #[.slice none 0 0,.bool false])
 go_enter Tryz.func126,Tryz.ntmps126;go_wp2;generalize (((w.alloc (.cells #[.slice A la.length ca,.bool false] 145)).alloc (.cells #[.slice B lb.length cb,.bool false] 145)).alloc (.cells #[.slice none 0 0,.bool false] 145))=w1 at *
 replace K1:=Lib.hid K1.out.drew;have ac0:=K1.out.c (g:=w.heap.size) (t:=145) (cs:=#[.slice A la.length ca,.bool false]) (by simp) (i:=0) rfl
 have ac1:=K1.out.c (g:=w.heap.size) (t:=145) (cs:=#[.slice A la.length ca,.bool false]) (by simp) (i:=1) rfl
 have dc0:=K1.out.c (g:=w.heap.size+1) (t:=145) (cs:=#[.slice B lb.length cb,.bool false]) (by simp) (i:=0) rfl
 have dc1:=K1.out.c (g:=w.heap.size+1) (t:=145) (cs:=#[.slice B lb.length cb,.bool false]) (by simp) (i:=1) rfl
 go_region_held3 (fun w'=>w'.cell? ⟨w.heap.size,0,none⟩=some (.slice A la.length ca)/\w'.cell? ⟨w.heap.size,1,none⟩=some (.bool false)/\w'.cell? ⟨w.heap.size+1,0,none⟩=some (.slice B lb.length cb)/\w'.cell? ⟨w.heap.size+1,1,none⟩=some (.bool false))
  (first|(refine ⟨?_,?_,?_,?_⟩<;>assumption)|(refine ⟨?_,?_,?_,?_⟩<;>(rw [cell_far,cell_far]<;>first|assumption|omega)))
  (first
   | ((go_at_call 157;with_reducible refine (CT.out _ _ K1.out).mono ?_);rintro e w2 ⟨v,rfl,hbn,hb⟩;replace K1:=Lib.hid (K1.out.below hb);obtain ⟨AO,lo,co,rfl,hO1,hO2,hO3,hO4,hO5⟩:=bz hbn LP.out;have BO:=Lib.hid (Jy hO1 hO3 hO5);have VO:=Lib.hid hO4;have LO:=Lib.hid hO2;have TO:=Lib.hid hO3;clear hbn hO1 hO2 hO3 hO4 hO5;clear hb ac0 ac1 dc0 dc1;have ac0:=K1.out.c (g:=w.heap.size) (t:=145) (cs:=#[.slice A la.length ca,.bool false]) (by simp) (i:=0) rfl;have ac1:=K1.out.c (g:=w.heap.size) (t:=145) (cs:=#[.slice A la.length ca,.bool false]) (by simp) (i:=1) rfl;have dc0:=K1.out.c (g:=w.heap.size+1) (t:=145) (cs:=#[.slice B lb.length cb,.bool false]) (by simp) (i:=0) rfl;have dc1:=K1.out.c (g:=w.heap.size+1) (t:=145) (cs:=#[.slice B lb.length cb,.bool false]) (by simp) (i:=1) rfl)
   | ((go_at_call 156;with_reducible refine (vO AO lo co false _ (by have:=LO.out;omega)).mono ?_);rintro e w3 ⟨rfl,hb⟩;have B3:=Lib.hid (BO.out.below hb);replace K1:=Lib.hid (K1.out.below hb);clear hb ac0 ac1 dc0 dc1;have ac0:=K1.out.c (g:=w.heap.size) (t:=145) (cs:=#[.slice A la.length ca,.bool false]) (by simp) (i:=0) rfl;have ac1:=K1.out.c (g:=w.heap.size) (t:=145) (cs:=#[.slice A la.length ca,.bool false]) (by simp) (i:=1) rfl;have dc0:=K1.out.c (g:=w.heap.size+1) (t:=145) (cs:=#[.slice B lb.length cb,.bool false]) (by simp) (i:=0) rfl;have dc1:=K1.out.c (g:=w.heap.size+1) (t:=145) (cs:=#[.slice B lb.length cb,.bool false]) (by simp) (i:=1) rfl;have r0:=K1.out.c (g:=w.heap.size+1+1) (t:=145) (cs:=#[.slice none 0 0,.bool false]) (by simp) (i:=0) rfl;have fr0:=K1.out.f (g:=w.heap.size+1+1) (t:=145) (cs:=#[.slice none 0 0,.bool false]) (by simp) 0;have r1:=K1.out.c (g:=w.heap.size+1+1) (t:=145) (cs:=#[.slice none 0 0,.bool false]) (by simp) (i:=1) rfl;have fr1:=K1.out.f (g:=w.heap.size+1+1) (t:=145) (cs:=#[.slice none 0 0,.bool false]) (by simp) 1))
 all_goals
  go_wp2;have F3:=jH B3.out (K1.out.2 (w.heap.size+1+1,145,#[.slice none 0 0,.bool false]) (by simp)) (.slice AO lo.length co) (.bool false)
  have hB:=(K1.out.1.setCell (p:=⟨w.heap.size+1+1,0,none⟩) (by simp;omega) (.slice AO lo.length co)).setCell (p:=⟨w.heap.size+1+1,1,none⟩) (by simp;omega) (.bool false)
  refine bodyPost_ret (v:=.agg #[.slice AO lo.length co,.bool false]) (by simp [results,Tryz.results126,go_sem,r0,r1];try rfl) rfl ⟨_,rfl,by rw [<-VO.out];exact F3,hB⟩
theorem Qt (Y:Nat) (vb:Value) (w:World) (hY:BN w vb Y) (lY:Y<BB^40) :
 Calls Tryz.prog 132 #[.agg #[vb,.bool false]] w (lV Y (decide (Y≠0)) w):=by
 obtain ⟨B,lb,cb,rfl,k1,k2,k3,k4,k5⟩:=bz hY lY;have HY:=Lib.hid hY;have E:=Lib.hid (Wz k3);rw [k4] at E;have K1:=Lib.hid (((az w).new w.heap.size rfl 145 #[.slice B lb.length cb,.bool false]).new (w.heap.size+1) (by simp) 145 #[.slice none 0 0,.bool false])
 clear hY lY k1 k3 k4 k5;go_enter Tryz.func132,Tryz.ntmps132;go_wp2_with fail;refine (vO B lb cb true _ (by omega)).mono ?_
 rintro e w3 ⟨rfl,hb⟩;replace K1:=Lib.hid (K1.out.below hb);clear hb;have r0:=K1.out.c (g:=w.heap.size+1) (t:=145) (cs:=#[.slice none 0 0,.bool false]) (by simp) (i:=0) rfl
 have r1:=K1.out.c (g:=w.heap.size+1) (t:=145) (cs:=#[.slice none 0 0,.bool false]) (by simp) (i:=1) rfl
 have fr0:=K1.out.f (g:=w.heap.size+1) (t:=145) (cs:=#[.slice none 0 0,.bool false]) (by simp) 0
 have fr1:=K1.out.f (g:=w.heap.size+1) (t:=145) (cs:=#[.slice none 0 0,.bool false]) (by simp) 1
 have B3:=Lib.hid (HY.out.below K1.out.1);rw [Bool.true_and,E.out];generalize decide (Y≠0)=bn at *
 go_wp2;have F3:=jH B3.out (K1.out.2 (w.heap.size+1,145,#[.slice none 0 0,.bool false]) (by simp)) (.slice B lb.length cb) (.bool bn)
 have hB:=(K1.out.1.setCell (p:=⟨w.heap.size+1,0,none⟩) (by simp) (.slice B lb.length cb)).setCell (p:=⟨w.heap.size+1,1,none⟩) (by simp) (.bool bn)
 refine bodyPost_ret (v:=.agg #[.slice B lb.length cb,.bool bn]) (by simp [results,Tryz.results132,go_sem,r0,r1];try rfl) rfl ⟨_,rfl,F3,hB⟩
theorem Ib (X Y:Nat) (va vb:Value) (w:World) (hX:BN w va X) (hY:BN w vb Y) (lX:X<BB^40) (lY:Y<BB^40) :
 Calls Tryz.prog 131 #[.agg #[va,.bool false],.agg #[vb,.bool false]] w (lV (X+Y) false w):=by
 obtain ⟨A,la,ca,rfl,h1,h2,h3,h4,h5⟩:=bz hX lX;obtain ⟨B,lb,cb,rfl,k1,k2,k3,k4,k5⟩:=bz hY lY;have LP:Hid (X+Y<BB^41):=by
  show _<_;rw [Nat.pow_succ,aU] at *
  omega
 have CT:=Lib.hid (fun (wx:World) (l:List (Nat × TypeId × Array Value)) (hk:KS w wx l)=>QP A B la lb ca cb wx (h5.below hk.1) (k5.below hk.1) h3 k3 (by omega) (by omega))
 rw [h4,k4] at CT;clear hX hY lX lY h1 h2 h3 h4 h5 k1 k2 k3 k4 k5;have K1:=Lib.hid ((((az w).new w.heap.size rfl 145 #[.slice A la.length ca,.bool false]).new (w.heap.size+1) (by simp) 145 #[.slice B lb.length cb,.bool false]).new (w.heap.size+1+1) (by simp) 145 #[.slice none 0 0,.bool false])
 go_enter Tryz.func131,Tryz.ntmps131;go_wp2;generalize (((w.alloc (.cells #[.slice A la.length ca,.bool false] 145)).alloc (.cells #[.slice B lb.length cb,.bool false] 145)).alloc (.cells #[.slice none 0 0,.bool false] 145))=w1 at *
 have ac0:=K1.out.c (g:=w.heap.size) (t:=145) (cs:=#[.slice A la.length ca,.bool false]) (by simp) (i:=0) rfl
 have ac1:=K1.out.c (g:=w.heap.size) (t:=145) (cs:=#[.slice A la.length ca,.bool false]) (by simp) (i:=1) rfl
 have dc0:=K1.out.c (g:=w.heap.size+1) (t:=145) (cs:=#[.slice B lb.length cb,.bool false]) (by simp) (i:=0) rfl
 have dc1:=K1.out.c (g:=w.heap.size+1) (t:=145) (cs:=#[.slice B lb.length cb,.bool false]) (by simp) (i:=1) rfl
 go_wp2;clear ac0 ac1 dc0 dc1;replace K1:=Lib.hid K1.out.drew;have ac0:=K1.out.c (g:=w.heap.size) (t:=145) (cs:=#[.slice A la.length ca,.bool false]) (by simp) (i:=0) rfl
 have ac1:=K1.out.c (g:=w.heap.size) (t:=145) (cs:=#[.slice A la.length ca,.bool false]) (by simp) (i:=1) rfl
 have dc0:=K1.out.c (g:=w.heap.size+1) (t:=145) (cs:=#[.slice B lb.length cb,.bool false]) (by simp) (i:=0) rfl
 have dc1:=K1.out.c (g:=w.heap.size+1) (t:=145) (cs:=#[.slice B lb.length cb,.bool false]) (by simp) (i:=1) rfl
 go_region_held3 (fun w'=>w'.cell? ⟨w.heap.size,0,none⟩=some (.slice A la.length ca)/\w'.cell? ⟨w.heap.size,1,none⟩=some (.bool false)/\w'.cell? ⟨w.heap.size+1,0,none⟩=some (.slice B lb.length cb)/\w'.cell? ⟨w.heap.size+1,1,none⟩=some (.bool false))
  (first|(refine ⟨?_,?_,?_,?_⟩<;>assumption)|(refine ⟨?_,?_,?_,?_⟩<;>(rw [cell_far,cell_far]<;>first|assumption|omega)))
  (first
   | ((go_at_call 160;with_reducible refine (CT.out _ _ K1.out).mono ?_);rintro e w3 ⟨v,rfl,hbn,hb⟩;replace K1:=Lib.hid (K1.out.below hb);obtain ⟨AO,lo,co,rfl,hO1,hO2,hO3,hO4,hO5⟩:=bz hbn LP.out;have B3:=Lib.hid (Jy hO1 hO3 hO5);have VO:=Lib.hid hO4;have LO:=Lib.hid hO2;have TO:=Lib.hid hO3;clear hbn hO1 hO2 hO3 hO4 hO5;clear hb ac0 ac1 dc0 dc1;have ac0:=K1.out.c (g:=w.heap.size) (t:=145) (cs:=#[.slice A la.length ca,.bool false]) (by simp) (i:=0) rfl;have ac1:=K1.out.c (g:=w.heap.size) (t:=145) (cs:=#[.slice A la.length ca,.bool false]) (by simp) (i:=1) rfl;have dc0:=K1.out.c (g:=w.heap.size+1) (t:=145) (cs:=#[.slice B lb.length cb,.bool false]) (by simp) (i:=0) rfl;have dc1:=K1.out.c (g:=w.heap.size+1) (t:=145) (cs:=#[.slice B lb.length cb,.bool false]) (by simp) (i:=1) rfl;have r0:=K1.out.c (g:=w.heap.size+1+1) (t:=145) (cs:=#[.slice none 0 0,.bool false]) (by simp) (i:=0) rfl;have fr0:=K1.out.f (g:=w.heap.size+1+1) (t:=145) (cs:=#[.slice none 0 0,.bool false]) (by simp) 0;have r1:=K1.out.c (g:=w.heap.size+1+1) (t:=145) (cs:=#[.slice none 0 0,.bool false]) (by simp) (i:=1) rfl;have fr1:=K1.out.f (g:=w.heap.size+1+1) (t:=145) (cs:=#[.slice none 0 0,.bool false]) (by simp) 1))
 all_goals
  go_wp2;have F3:=jH B3.out (K1.out.2 (w.heap.size+1+1,145,#[.slice none 0 0,.bool false]) (by simp)) (.slice AO lo.length co) (.bool false)
  have hB:=(K1.out.1.setCell (p:=⟨w.heap.size+1+1,0,none⟩) (by simp;omega) (.slice AO lo.length co)).setCell (p:=⟨w.heap.size+1+1,1,none⟩) (by simp;omega) (.bool false)
  refine bodyPost_ret (v:=.agg #[.slice AO lo.length co,.bool false]) (by simp [results,Tryz.results131,go_sem,r0,r1];try rfl) rfl ⟨_,rfl,by rw [<-VO.out];exact F3,hB⟩
theorem NB (X Y:Nat) (va vb:Value) (w:World) (hX:BN w va X) (hY:BN w vb Y) (lX:X<BB^40) (lY:Y<BB^40) (hle:Y<=X) :
 Calls Tryz.prog 131 #[.agg #[va,.bool false],.agg #[vb,.bool true]] w (lV (X-Y) false w):=by
 obtain ⟨A,la,ca,rfl,h1,h2,h3,h4,h5⟩:=bz hX lX;obtain ⟨B,lb,cb,rfl,k1,k2,k3,k4,k5⟩:=bz hY lY;have LP:Hid (X-Y<BB^40):=by show _<_;omega
 have CT:=Lib.hid (fun (wx:World) (l:List (Nat × TypeId × Array Value)) (hk:KS w wx l)=>Gt A B la lb ca cb wx (h5.below hk.1) (k5.below hk.1) h3 k3 (by omega) (by omega) (by rw [h4,k4];exact hle))
 have CO:=Lib.hid (fun (wx:World) (l:List (Nat × TypeId × Array Value)) (hk:KS w wx l)=>Bv A B la lb ca cb wx (h5.below hk.1) (k5.below hk.1) h3 k3 (by omega) (by omega))
 rw [h4,k4] at CT CO;have OV:Hid (0<=qO X Y):=by show 0<=_;unfold qO;(repeat' split)<;>omega
 have HLE:=Lib.hid hle;clear hX hY lX lY h1 h2 h3 h4 h5 k1 k2 k3 k4 k5 hle;have K1:=Lib.hid ((((az w).new w.heap.size rfl 145 #[.slice A la.length ca,.bool false]).new (w.heap.size+1) (by simp) 145 #[.slice B lb.length cb,.bool true]).new (w.heap.size+1+1) (by simp) 145 #[.slice none 0 0,.bool false])
 go_enter Tryz.func131,Tryz.ntmps131;go_wp2_with fail;generalize (((w.alloc (.cells #[.slice A la.length ca,.bool false] 145)).alloc (.cells #[.slice B lb.length cb,.bool true] 145)).alloc (.cells #[.slice none 0 0,.bool false] 145))=w1 at *
 refine (CO.out _ _ K1.out).mono ?_;rintro e w4 ⟨rfl,hb⟩;replace K1:=Lib.hid (K1.out.below hb);clear hb;have ac0:=K1.out.c (g:=w.heap.size) (t:=145) (cs:=#[.slice A la.length ca,.bool false]) (by simp) (i:=0) rfl
 have ac1:=K1.out.c (g:=w.heap.size) (t:=145) (cs:=#[.slice A la.length ca,.bool false]) (by simp) (i:=1) rfl
 have dc0:=K1.out.c (g:=w.heap.size+1) (t:=145) (cs:=#[.slice B lb.length cb,.bool true]) (by simp) (i:=0) rfl
 have dc1:=K1.out.c (g:=w.heap.size+1) (t:=145) (cs:=#[.slice B lb.length cb,.bool true]) (by simp) (i:=1) rfl
 have ov:=OV.out;go_wp2;clear ac0 ac1 dc0 dc1;replace K1:=Lib.hid K1.out.drew;have ac0:=K1.out.c (g:=w.heap.size) (t:=145) (cs:=#[.slice A la.length ca,.bool false]) (by simp) (i:=0) rfl
 have ac1:=K1.out.c (g:=w.heap.size) (t:=145) (cs:=#[.slice A la.length ca,.bool false]) (by simp) (i:=1) rfl
 have dc0:=K1.out.c (g:=w.heap.size+1) (t:=145) (cs:=#[.slice B lb.length cb,.bool true]) (by simp) (i:=0) rfl
 have dc1:=K1.out.c (g:=w.heap.size+1) (t:=145) (cs:=#[.slice B lb.length cb,.bool true]) (by simp) (i:=1) rfl
 go_region_held3 (fun w'=>w'.cell? ⟨w.heap.size,0,none⟩=some (.slice A la.length ca)/\w'.cell? ⟨w.heap.size,1,none⟩=some (.bool false)/\w'.cell? ⟨w.heap.size+1,0,none⟩=some (.slice B lb.length cb)/\w'.cell? ⟨w.heap.size+1,1,none⟩=some (.bool true))
  (first|(refine ⟨?_,?_,?_,?_⟩<;>assumption)|(refine ⟨?_,?_,?_,?_⟩<;>(rw [cell_far,cell_far]<;>first|assumption|omega)))
  (first
   | ((go_at_call 162;with_reducible refine (CT.out _ _ K1.out).mono ?_);rintro e w2 ⟨v,rfl,hbn,hb⟩;replace K1:=Lib.hid (K1.out.below hb);obtain ⟨AO,lo,co,rfl,hO1,hO2,hO3,hO4,hO5⟩:=bz hbn LP.out;have BO:=Lib.hid (Jy hO1 hO3 hO5);have VO:=Lib.hid hO4;have LO:=Lib.hid hO2;have TO:=Lib.hid hO3;clear hbn hO1 hO2 hO3 hO4 hO5;clear hb ac0 ac1 dc0 dc1;have ac0:=K1.out.c (g:=w.heap.size) (t:=145) (cs:=#[.slice A la.length ca,.bool false]) (by simp) (i:=0) rfl;have ac1:=K1.out.c (g:=w.heap.size) (t:=145) (cs:=#[.slice A la.length ca,.bool false]) (by simp) (i:=1) rfl;have dc0:=K1.out.c (g:=w.heap.size+1) (t:=145) (cs:=#[.slice B lb.length cb,.bool true]) (by simp) (i:=0) rfl;have dc1:=K1.out.c (g:=w.heap.size+1) (t:=145) (cs:=#[.slice B lb.length cb,.bool true]) (by simp) (i:=1) rfl)
   | ((go_at_call 156;with_reducible refine (vO AO lo co false _ (by have:=LO.out;omega)).mono ?_);rintro e w3 ⟨rfl,hb⟩;have B3:=Lib.hid (BO.out.below hb);replace K1:=Lib.hid (K1.out.below hb);clear hb ac0 ac1 dc0 dc1;have ac0:=K1.out.c (g:=w.heap.size) (t:=145) (cs:=#[.slice A la.length ca,.bool false]) (by simp) (i:=0) rfl;have ac1:=K1.out.c (g:=w.heap.size) (t:=145) (cs:=#[.slice A la.length ca,.bool false]) (by simp) (i:=1) rfl;have dc0:=K1.out.c (g:=w.heap.size+1) (t:=145) (cs:=#[.slice B lb.length cb,.bool true]) (by simp) (i:=0) rfl;have dc1:=K1.out.c (g:=w.heap.size+1) (t:=145) (cs:=#[.slice B lb.length cb,.bool true]) (by simp) (i:=1) rfl;have r0:=K1.out.c (g:=w.heap.size+1+1) (t:=145) (cs:=#[.slice none 0 0,.bool false]) (by simp) (i:=0) rfl;have fr0:=K1.out.f (g:=w.heap.size+1+1) (t:=145) (cs:=#[.slice none 0 0,.bool false]) (by simp) 0;have r1:=K1.out.c (g:=w.heap.size+1+1) (t:=145) (cs:=#[.slice none 0 0,.bool false]) (by simp) (i:=1) rfl;have fr1:=K1.out.f (g:=w.heap.size+1+1) (t:=145) (cs:=#[.slice none 0 0,.bool false]) (by simp) 1))
 all_goals
  go_wp2;have F3:=jH B3.out (K1.out.2 (w.heap.size+1+1,145,#[.slice none 0 0,.bool false]) (by simp)) (.slice AO lo.length co) (.bool false)
  have hB:=(K1.out.1.setCell (p:=⟨w.heap.size+1+1,0,none⟩) (by simp;omega) (.slice AO lo.length co)).setCell (p:=⟨w.heap.size+1+1,1,none⟩) (by simp;omega) (.bool false)
  refine bodyPost_ret (v:=.agg #[.slice AO lo.length co,.bool false]) (by simp [results,Tryz.results131,go_sem,r0,r1];try rfl) rfl ⟨_,rfl,by rw [<-VO.out];exact F3,hB⟩
theorem NA (X Y:Nat) (va vb:Value) (w:World) (hX:BN w va X) (hY:BN w vb Y) (lX:X<BB^40) (lY:Y<BB^40) (hle:X<Y) :
 Calls Tryz.prog 131 #[.agg #[va,.bool false],.agg #[vb,.bool true]] w (lV (Y-X) true w):=by
 obtain ⟨A,la,ca,rfl,h1,h2,h3,h4,h5⟩:=bz hX lX;obtain ⟨B,lb,cb,rfl,k1,k2,k3,k4,k5⟩:=bz hY lY;have LP:Hid (Y-X<BB^40):=by show _<_;omega
 have CT:=Lib.hid (fun (wx:World) (l:List (Nat × TypeId × Array Value)) (hk:KS w wx l)=>Gt B A lb la cb ca wx (k5.below hk.1) (h5.below hk.1) k3 h3 (by omega) (by omega) (by rw [h4,k4];omega))
 have CO:=Lib.hid (fun (wx:World) (l:List (Nat × TypeId × Array Value)) (hk:KS w wx l)=>Bv A B la lb ca cb wx (h5.below hk.1) (k5.below hk.1) h3 k3 (by omega) (by omega))
 rw [h4,k4] at CT CO;have OV:Hid (qO X Y=-1):=by show _=_;unfold qO;(repeat' split)<;>omega
 have HLE:=Lib.hid hle;clear hX hY lX lY h1 h2 h3 h4 h5 k1 k2 k3 k4 k5 hle;have K1:=Lib.hid ((((az w).new w.heap.size rfl 145 #[.slice A la.length ca,.bool false]).new (w.heap.size+1) (by simp) 145 #[.slice B lb.length cb,.bool true]).new (w.heap.size+1+1) (by simp) 145 #[.slice none 0 0,.bool false])
 go_enter Tryz.func131,Tryz.ntmps131;go_wp2_with fail;generalize (((w.alloc (.cells #[.slice A la.length ca,.bool false] 145)).alloc (.cells #[.slice B lb.length cb,.bool true] 145)).alloc (.cells #[.slice none 0 0,.bool false] 145))=w1 at *
 refine (CO.out _ _ K1.out).mono ?_;rintro e w4 ⟨rfl,hb⟩;replace K1:=Lib.hid (K1.out.below hb);clear hb;have ac0:=K1.out.c (g:=w.heap.size) (t:=145) (cs:=#[.slice A la.length ca,.bool false]) (by simp) (i:=0) rfl
 have ac1:=K1.out.c (g:=w.heap.size) (t:=145) (cs:=#[.slice A la.length ca,.bool false]) (by simp) (i:=1) rfl
 have dc0:=K1.out.c (g:=w.heap.size+1) (t:=145) (cs:=#[.slice B lb.length cb,.bool true]) (by simp) (i:=0) rfl
 have dc1:=K1.out.c (g:=w.heap.size+1) (t:=145) (cs:=#[.slice B lb.length cb,.bool true]) (by simp) (i:=1) rfl
 rw [OV.out];go_wp2;clear ac0 ac1 dc0 dc1;replace K1:=Lib.hid K1.out.drew;have ac0:=K1.out.c (g:=w.heap.size) (t:=145) (cs:=#[.slice A la.length ca,.bool false]) (by simp) (i:=0) rfl
 have ac1:=K1.out.c (g:=w.heap.size) (t:=145) (cs:=#[.slice A la.length ca,.bool false]) (by simp) (i:=1) rfl
 have dc0:=K1.out.c (g:=w.heap.size+1) (t:=145) (cs:=#[.slice B lb.length cb,.bool true]) (by simp) (i:=0) rfl
 have dc1:=K1.out.c (g:=w.heap.size+1) (t:=145) (cs:=#[.slice B lb.length cb,.bool true]) (by simp) (i:=1) rfl
 go_region_held3 (fun w'=>w'.cell? ⟨w.heap.size,0,none⟩=some (.slice A la.length ca)/\w'.cell? ⟨w.heap.size,1,none⟩=some (.bool false)/\w'.cell? ⟨w.heap.size+1,0,none⟩=some (.slice B lb.length cb)/\w'.cell? ⟨w.heap.size+1,1,none⟩=some (.bool true))
  (first|(refine ⟨?_,?_,?_,?_⟩<;>assumption)|(refine ⟨?_,?_,?_,?_⟩<;>(rw [cell_far,cell_far]<;>first|assumption|omega)))
  (first
   | ((go_at_call 162;with_reducible refine (CT.out _ _ K1.out).mono ?_);rintro e w2 ⟨v,rfl,hbn,hb⟩;replace K1:=Lib.hid (K1.out.below hb);obtain ⟨AO,lo,co,rfl,hO1,hO2,hO3,hO4,hO5⟩:=bz hbn LP.out;have BO:=Lib.hid (Jy hO1 hO3 hO5);have VO:=Lib.hid hO4;have LO:=Lib.hid hO2;have TO:=Lib.hid hO3;clear hbn hO1 hO2 hO3 hO4 hO5;clear hb ac0 ac1 dc0 dc1;have ac0:=K1.out.c (g:=w.heap.size) (t:=145) (cs:=#[.slice A la.length ca,.bool false]) (by simp) (i:=0) rfl;have ac1:=K1.out.c (g:=w.heap.size) (t:=145) (cs:=#[.slice A la.length ca,.bool false]) (by simp) (i:=1) rfl;have dc0:=K1.out.c (g:=w.heap.size+1) (t:=145) (cs:=#[.slice B lb.length cb,.bool true]) (by simp) (i:=0) rfl;have dc1:=K1.out.c (g:=w.heap.size+1) (t:=145) (cs:=#[.slice B lb.length cb,.bool true]) (by simp) (i:=1) rfl)
   | ((go_at_call 156;with_reducible refine (vO AO lo co true _ (by have:=LO.out;omega)).mono ?_);rintro e w3 ⟨he,hb⟩;have EN:(true&&decide (lo.length≠0))=true:=(by rw [Wz TO.out,VO.out];have:=HLE.out;simp;omega);rw [EN] at he;subst he;have B3:=Lib.hid (BO.out.below hb);replace K1:=Lib.hid (K1.out.below hb);clear hb ac0 ac1 dc0 dc1;have ac0:=K1.out.c (g:=w.heap.size) (t:=145) (cs:=#[.slice A la.length ca,.bool false]) (by simp) (i:=0) rfl;have ac1:=K1.out.c (g:=w.heap.size) (t:=145) (cs:=#[.slice A la.length ca,.bool false]) (by simp) (i:=1) rfl;have dc0:=K1.out.c (g:=w.heap.size+1) (t:=145) (cs:=#[.slice B lb.length cb,.bool true]) (by simp) (i:=0) rfl;have dc1:=K1.out.c (g:=w.heap.size+1) (t:=145) (cs:=#[.slice B lb.length cb,.bool true]) (by simp) (i:=1) rfl;have r0:=K1.out.c (g:=w.heap.size+1+1) (t:=145) (cs:=#[.slice none 0 0,.bool false]) (by simp) (i:=0) rfl;have fr0:=K1.out.f (g:=w.heap.size+1+1) (t:=145) (cs:=#[.slice none 0 0,.bool false]) (by simp) 0;have r1:=K1.out.c (g:=w.heap.size+1+1) (t:=145) (cs:=#[.slice none 0 0,.bool false]) (by simp) (i:=1) rfl;have fr1:=K1.out.f (g:=w.heap.size+1+1) (t:=145) (cs:=#[.slice none 0 0,.bool false]) (by simp) 1))
 all_goals
  go_wp2;have F3:=jH B3.out (K1.out.2 (w.heap.size+1+1,145,#[.slice none 0 0,.bool false]) (by simp)) (.slice AO lo.length co) (.bool true)
  have hB:=(K1.out.1.setCell (p:=⟨w.heap.size+1+1,0,none⟩) (by simp;omega) (.slice AO lo.length co)).setCell (p:=⟨w.heap.size+1+1,1,none⟩) (by simp;omega) (.bool true)
  refine bodyPost_ret (v:=.agg #[.slice AO lo.length co,.bool true]) (by simp [results,Tryz.results131,go_sem,r0,r1];try rfl) rfl ⟨_,rfl,by rw [<-VO.out];exact F3,hB⟩
end Go.Proofs.YtoniodlcogpdbaaGreat
namespace Alm
def IsU (U:Nat) (d:Rat):Prop:=0<U/\0<d/\(U:Rat)*d=1/\d<=1/100/\U<=QA/\bQ<=d
def dX (U A B:Nat):Nat:=A*B/U
def jZ (Pi n:Nat):Nat:=n*Pi/10800000
def jh (U:Nat):Nat->Nat->Nat->Nat->Int
 | 0,T,_,_=>T
 | m+1,T,Y,j=>T-jh U m (dX U T Y/((j+1)*(j+2))) Y (j+2)
theorem L9 (U:Nat) (d:Rat) (HU:IsU U d) (m Y j:Nat):jh U m 0 Y j=0:=by
 induction m generalizing j with
 | zero=>rfl
 | succ m ih =>
  have e:dX U 0 Y/((j+1)*(j+2))=0:=by unfold dX;simp
  simp only [jh,e,ih];rfl
theorem DR (U:Nat) (d:Rat) (HU:IsU U d) (A B:Nat):(dX U A B:Rat)*d<=(A*d)*(B*d)/\(A*d)*(B*d)<=(dX U A B:Rat)*d+d:=by
 have h:=jT (A*B) U HU.1;rw [Rat.natCast_mul] at h;unfold dX;have hw:=HU.2.2.1;have hd:=HU.2.1;generalize ((A*B/U:Nat):Rat)=m at *
 generalize (U:Rat)=w at *
 have hdd:0<=d*d:=bG d;have k1:=Rat.mul_le_mul_of_nonneg_right h.1 hdd;have k2:=Rat.mul_le_mul_of_nonneg_right h.2 hdd;have e1:m*w*(d*d)=m*d*(w*d):=by grind
 have e3:(m*w+w)*(d*d)=(m*d+d)*(w*d):=by grind
 rw [e1,hw] at k1;rw [e3,hw] at k2
 constructor<;>grind
theorem Ia (U:Nat) (d:Rat) (HU:IsU U d) (T Y D:Nat) (y z:Rat) (hD:2<=D) (hT:(T:Rat)*d<=1) (h0:0<=y) (h1:y<=1) (hz:y/(D:Rat)=z)
 (e1:-(8*d)<=Y*d-y) (e2:Y*d-y<=8*d) :
 -(6*d)<=((dX U T Y/D:Nat):Rat)*d-T*d*z/\((dX U T Y/D:Nat):Rat)*d-T*d*z<=6*d:=by
 have hm:=DR U d HU T Y;have hq:=jT (dX U T Y) D (by omega)
 have q:=iB y D hD h0 h1;rw [hz] at q;have hDr:(2:Rat)<=(D:Rat):=by exact_mod_cast hD
 have hd:=HU.2.1;have hT0:=aD T;generalize ((dX U T Y/D:Nat):Rat)=u at *
 generalize (dX U T Y:Rat)=M at *
 generalize (D:Rat)=D at *
 have t0:0<=(T:Rat)*d:=Rat.mul_nonneg hT0 (by grind)
 generalize (T:Rat)*d=t at *
 obtain ⟨q1,q2,q3⟩:=q;have k1:=Rat.mul_le_mul_of_nonneg_right hq.1 (show 0<=d by grind)
 have k2:=Rat.mul_le_mul_of_nonneg_right hq.2 (show 0<=d by grind)
 have m1:=aB t (Y*d-y) 1 (8*d) (by grind) hT e1 e2
 generalize (Y:Rat)*d=Yd at *
 have a1:(u*d-t*z)*D<=8*d:=by
  have:t*z*D=t*y:=by rw [<-q3];grind
  grind
 have a2:-(9*d)-D*d<=(u*d-t*z)*D:=by
  have:t*z*D=t*y:=by rw [<-q3];grind
  grind
 constructor
 . rcases Rat.le_total (a:=-(6*d)) (b:=u*d-t*z) with h|h
   . exact h
   . have:=Rat.mul_nonneg (show 0<=-(6*d)-(u*d-t*z) by grind) (show 0<=D-2 by grind)
     have:=Rat.mul_nonneg (show 0<=d by grind) (show 0<=D-2 by grind)
     grind
 . rcases Rat.le_total (a:=u*d-t*z) (b:=6*d) with h|h
   . exact h
   . have:=Rat.mul_nonneg (show 0<=(u*d-t*z)-6*d by grind) (show 0<=D-2 by grind)
     have:=Rat.mul_nonneg (show 0<=d by grind) (show 0<=D-2 by grind)
     grind
theorem EC (U:Nat) (d:Rat) (HU:IsU U d) (T Y D:Nat) (hY:Y<=U) (hD:0<D):dX U T Y/D<=T/D:=by
 apply Nat.div_le_div_right;unfold dX;apply Nat.div_le_of_le_mul;rw [Nat.mul_comm U];exact Nat.mul_le_mul_left _ hY
theorem yU (U:Nat) (d:Rat) (HU:IsU U d) (m T Y j:Nat) (y:Rat) (hT:T<=U) (hY:Y<=U) (h0:0<=y) (h1:y<=1)
 (e1:-(8*d)<=Y*d-y) (e2:Y*d-y<=8*d) :
 -((m:Rat)*(6*d))<=(jh U m T Y j:Rat)*d-T*d*hr m j y/\(jh U m T Y j:Rat)*d-T*d*hr m j y<=(m:Rat)*(6*d):=by
 have hd:=HU.2.1
 induction m generalizing T j with
 | zero=>simp only [jh,hr];rw [Rat.intCast_natCast];constructor<;>grind
 | succ m ih =>
  have hD:2<=(j+1)*(j+2):=by have:=Nat.mul_le_mul (show 1<=j+1 by omega) (show 2<=j+2 by omega);omega
  have hle:dX U T Y/((j+1)*(j+2))<=T:=Nat.le_trans (EC U d HU T Y _ hY (by omega)) (Nat.div_le_self _ _)
  have i:=ih (dX U T Y/((j+1)*(j+2))) (j+2) (by omega)
  have hT1:(T:Rat)*d<=1:=by
   have:=Rat.mul_le_mul_of_nonneg_right (bT _ _ hT) (show 0<=d by grind)
   have:=HU.2.2.1;grind
  have n:=Ia U d HU T Y ((j+1)*(j+2)) y _ hD hT1 h0 h1 rfl e1 e2;have hb:=ou m (j+2) y h0 h1;simp only [jh,hr];rw [Rat.intCast_sub,Rat.intCast_natCast];have em:((m+1:Nat):Rat)=(m:Rat)+1:=by norm_cast
  rw [em];generalize (jh U m (dX U T Y/((j+1)*(j+2))) Y (j+2):Rat)=S at *
  generalize ((dX U T Y/((j+1)*(j+2)):Nat):Rat)=u at *
  generalize y/(((j+1)*(j+2):Nat):Rat)=z at *
  generalize hr m (j+2) y=H at *
  generalize (m:Rat)=mm at *
  generalize (T:Rat)=t at *
  have t1:=aB (u*d-t*d*z) H (6*d) 1 n.1 n.2 (by grind) (by grind)
  constructor<;>grind
theorem zx (U:Nat) (d:Rat) (HU:IsU U d) (Pi:Nat) (HP:-d<=(Pi:Rat)*d-ak*10800000/\(Pi:Rat)*d-ak*10800000<=d) (n:Nat) (h:n<=2700000):-(2*d)<=(jZ Pi n:Rat)*d-n*ak/\(jZ Pi n:Rat)*d-n*ak<=2*d:=by
 have q:=jT (n*Pi) 10800000 (by omega)
 have hp:=HP;have hd:=HU.2.1;have hn:(n:Rat)<=2700000:=by exact_mod_cast h
 have hn0:=aD n;unfold jZ;rw [Rat.natCast_mul] at q;have e:((10800000:Nat):Rat)=10800000:=rfl;rw [e] at q;generalize ((n*Pi/10800000:Nat):Rat)=r at *
 generalize (Pi:Rat)=P at *
 have k1:=Rat.mul_le_mul_of_nonneg_right q.1 (show 0<=d by grind)
 have k2:=Rat.mul_le_mul_of_nonneg_right q.2 (show 0<=d by grind)
 have t:=aB (n:Rat) (P*d-ak*10800000) 2700000 d (by grind) hn hp.1 hp.2
 constructor<;>grind
theorem Bu (U:Nat) (d:Rat) (HU:IsU U d) (Pi:Nat) (HP:-d<=(Pi:Rat)*d-ak*10800000/\(Pi:Rat)*d-ak*10800000<=d) (n:Nat) (h:n<=2700000):jZ Pi n<U:=by
 have:n*Pi<=2700000*Pi:=Nat.mul_le_mul_right _ h;have h2:2700000*Pi<10800000*U:=by
  have hw:=HU.2.2.1;have hd:=HU.2.1;have hd1:=HU.2.2.2.1;have ht:=gL;have:((2700000*Pi:Nat):Rat)<((10800000*U:Nat):Rat):=by
   rw [Rat.natCast_mul,Rat.natCast_mul];have e1:((2700000:Nat):Rat)=2700000:=rfl;have e2:((10800000:Nat):Rat)=10800000:=rfl;rw [e1,e2];refine Rat.not_le.1 fun hh=>?_
   have k:=Rat.mul_le_mul_of_nonneg_right hh (Rat.le_of_lt hd);have e3:10800000*(U:Rat)*d=10800000*((U:Rat)*d):=by grind
   have e4:2700000*(Pi:Rat)*d=2700000*((Pi:Rat)*d):=by grind
   rw [e3,e4,hw] at k;clear hh h;grind
  exact_mod_cast this
 unfold jZ;apply Nat.div_lt_of_lt_mul;omega
def sqU (U Pi n:Nat):Nat:=dX U (jZ Pi n) (jZ Pi n)
def GL (U Pi n:Nat):Int:=jh U 34 (jZ Pi n) (sqU U Pi n) 1
def Gm (U Pi n:Nat):Int:=jh U 34 U (sqU U Pi n) 0
theorem Un (U:Nat) (d:Rat) (HU:IsU U d) (A B:Nat) (hA:A<U) (hB:B<=U):dX U A B<U:=by
 have:dX U A B<=A:=by
  unfold dX;apply Nat.div_le_of_le_mul;rw [Nat.mul_comm U];exact Nat.mul_le_mul_left _ hB
 omega
theorem wY (U:Nat) (d:Rat) (HU:IsU U d) (Pi:Nat) (HP:-d<=(Pi:Rat)*d-ak*10800000/\(Pi:Rat)*d-ak*10800000<=d) (n:Nat) (h:n<=2700000):sqU U Pi n<U/\0<=(n*ak)*(n*ak)/\(n*ak)*(n*ak)<=1 /\
 -(8*d)<=(sqU U Pi n:Rat)*d-(n*ak)*(n*ak)/\(sqU U Pi n:Rat)*d-(n*ak)*(n*ak)<=8*d:=by
 have hr:=zx U d HU Pi HP n h;have hl:=Bu U d HU Pi HP n h;have hm:=DR U d HU (jZ Pi n) (jZ Pi n);have hlt:=Un U d HU (jZ Pi n) (jZ Pi n) hl (by omega)
 have hd:=HU.2.1;have hn:(n:Rat)<=2700000:=by exact_mod_cast h
 have hn0:=aD n;have ht:=gL;have x1:(n:Rat)*ak<=4/5:=by
  have:=Rat.mul_le_mul_of_nonneg_right hn (show 0<=ak by grind);grind
 have x0:0<=(n:Rat)*ak:=Rat.mul_nonneg hn0 (by grind)
 have hd1:d<=1/100:=HU.2.2.2.1;unfold sqU;generalize (dX U (jZ Pi n) (jZ Pi n):Rat)=M at *
 generalize (jZ Pi n:Rat)=X at *
 generalize (n:Rat)*ak=x at *
 have t:=aB (X*d-x) (X*d+x) (2*d) 2 hr.1 hr.2 (by grind) (by grind)
 have t2:=aB x x (4/5) (4/5) (by grind) x1 (by grind) x1
 refine ⟨hlt,bG _,by grind,by grind,by grind⟩
theorem Nz (U:Nat) (d:Rat) (HU:IsU U d) (Pi:Nat) (HP:-d<=(Pi:Rat)*d-ak*10800000/\(Pi:Rat)*d-ak*10800000<=d) (n:Nat) (h:n<=2700000):-(210*d)<=(GL U Pi n:Rat)*d-ps n/\(GL U Pi n:Rat)*d-ps n<=210*d:=by
 obtain ⟨hY,y0,y1,e1,e2⟩:=wY U d HU Pi HP n h;have hl:=yU U d HU 34 (jZ Pi n) (sqU U Pi n) 1 _ (Nat.le_of_lt (Bu U d HU Pi HP n h)) (Nat.le_of_lt hY) y0 y1 e1 e2;have hb:=ou 34 1 _ y0 y1;have hrr:=zx U d HU Pi HP n h;unfold GL;rw [Aa];have e34:((34:Nat):Rat)=34:=rfl;rw [e34] at hl;have hd:=HU.2.1;generalize hr 34 1 ((n*ak)*(n*ak))=H at *
 generalize (jh U 34 (jZ Pi n) (sqU U Pi n) 1:Rat)=M at *
 generalize (jZ Pi n:Rat)=X at *
 generalize (n:Rat)*ak=x at *
 have t1:=aB (X*d-x) H (2*d) 1 hrr.1 hrr.2 (by grind) (by grind)
 constructor<;>grind
theorem Ms (U:Nat) (d:Rat) (HU:IsU U d) (Pi:Nat) (HP:-d<=(Pi:Rat)*d-ak*10800000/\(Pi:Rat)*d-ak*10800000<=d) (n:Nat) (h:n<=2700000):-(210*d)<=(Gm U Pi n:Rat)*d-pc n/\(Gm U Pi n:Rat)*d-pc n<=210*d:=by
 obtain ⟨hY,y0,y1,e1,e2⟩:=wY U d HU Pi HP n h;have hl:=yU U d HU 34 U (sqU U Pi n) 0 _ (Nat.le_refl _) (Nat.le_of_lt hY) y0 y1 e1 e2;have hw:=HU.2.2.1;unfold Gm;rw [zV];have e34:((34:Nat):Rat)=34:=rfl;rw [e34] at hl;rw [hw] at hl;have hd:=HU.2.1;generalize hr 34 0 ((n*ak)*(n*ak))=H at *
 generalize (jh U 34 U (sqU U Pi n) 0:Rat)=M at *
 constructor<;>grind
theorem QX (U:Nat) (d:Rat) (HU:IsU U d) (Pi:Nat) (HP:-d<=(Pi:Rat)*d-ak*10800000/\(Pi:Rat)*d-ak*10800000<=d) (n:Nat) (h:n<=2700000):-(220*d)<=(GL U Pi n:Rat)*d-zs n/\(GL U Pi n:Rat)*d-zs n<=220*d:=by
 have a:=Nz U d HU Pi HP n h;have b:=(near n h).1;have c:bQ<=d:=HU.2.2.2.2.2;have d:=HU.2.1;grind
theorem OQ (U:Nat) (d:Rat) (HU:IsU U d) (Pi:Nat) (HP:-d<=(Pi:Rat)*d-ak*10800000/\(Pi:Rat)*d-ak*10800000<=d) (n:Nat) (h:n<=2700000):-(220*d)<=(Gm U Pi n:Rat)*d-zc n/\(Gm U Pi n:Rat)*d-zc n<=220*d:=by
 have a:=Ms U d HU Pi HP n h;have b:=(near n h).2;have c:bQ<=d:=HU.2.2.2.2.2;have d:=HU.2.1;grind
def zW (U:Nat) (R:Int) (F Y s T n:Nat) (mi:Bool):Prop :=
 ∃ m,m<=34/\T<=uX (34-m)/\2*(34-m)<=n/\n<=2*(34-m)+1/\T<=U/\F<=U /\
  (if mi then R=s+(jh U m T Y n-T)/\T<=s/\s<=F else R=s-(jh U m T Y n-T)/\s+T<=F)
theorem DZ (U:Nat) (d:Rat) (HU:IsU U d) (F Y n:Nat) (hF:F<=U) (hn:n<=1):zW U (jh U 34 F Y n) F Y F F n true :=
 ⟨34,by omega,(by have e:uX 0=QA:=(by unfold uX;rfl);show F<=uX 0;rw [e];exact Nat.le_trans hF HU.2.2.2.2.1),by omega,by omega,hF,hF,by simp;omega⟩
theorem Gj (U:Nat) (d:Rat) (HU:IsU U d) {R:Int} {F Y s n:Nat} {mi:Bool} (h:zW U R F Y s 0 n mi):R=s:=by
 obtain ⟨m,_,_,_,_,_,_,h⟩:=h;rw [L9 U d HU] at h;cases mi<;>simp at h<;>omega
theorem xS (U:Nat) (d:Rat) (HU:IsU U d) {R:Int} {F Y s T n:Nat} {mi:Bool} (hY:Y<=U) (h:zW U R F Y s T n mi) (hT:0<T) :
 n<=67/\dX U T Y/((n+1)*(n+2))<T/\(if mi then dX U T Y/((n+1)*(n+2))<=s/\zW U R F Y (s-dX U T Y/((n+1)*(n+2))) (dX U T Y/((n+1)*(n+2))) (n+2) false
  else s+dX U T Y/((n+1)*(n+2))<=U/\zW U R F Y (s+dX U T Y/((n+1)*(n+2))) (dX U T Y/((n+1)*(n+2))) (n+2) true):=by
 obtain ⟨m,hm,hb,hn1,hn2,hTQ,hF,h⟩:=h;cases m with
 | zero=>simp only [Nat.sub_zero] at hb;rw [FK] at hb;omega
 | succ m =>
  have hD:2<=(n+1)*(n+2):=by have:=Nat.mul_le_mul (show 1<=n+1 by omega) (show 2<=n+2 by omega);omega
  have hle:=EC U d HU T Y ((n+1)*(n+2)) hY (by omega)
  have h2:T/((n+1)*(n+2))<=T/2:=Nat.div_le_div_left hD (by omega)
  have hbn:dX U T Y/((n+1)*(n+2))<=uX (34-m):=by
   have e:34-m=(34-(m+1))+1:=by omega
   rw [e];simp only [uX];refine Nat.le_trans hle ?_;refine Nat.le_trans (Nat.div_le_div_right hb) ?_;exact Nat.div_le_div_left (Nat.mul_le_mul (by omega) (by omega)) (Nat.mul_pos (by omega) (by omega))
  have es:jh U (m+1) T Y n=T-jh U m (dX U T Y/((n+1)*(n+2))) Y (n+2):=by simp only [jh]
  rw [es] at h;generalize dX U T Y/((n+1)*(n+2))=U at *
  refine ⟨by omega,by omega,?_⟩
  cases mi
  . simp only [Bool.false_eq_true,if_false] at h ⊢
    refine ⟨by omega,m,by omega,hbn,by omega,by omega,by omega,hF,?_⟩
    simp only [if_true];omega
  . simp only [if_true] at h ⊢
    refine ⟨by omega,m,by omega,hbn,by omega,by omega,by omega,hF,?_⟩
    simp only [Bool.false_eq_true,if_false];omega
end Alm
namespace Alm
def DV (U:Nat) (R:Int) (F Y P M T n0 i:Nat):Prop:=∃ s,zW U R F Y s T (n0+2*i) (i%2==0)/\(if i%2==0 then s+M=P+T else s+M+T=P)/\P+M<=i*U
theorem Iw (U:Nat) (d:Rat) (HU:IsU U d) (F Y n0:Nat) (hF:F<=U) (h:n0<=1):DV U (jh U 34 F Y n0) F Y 0 0 F n0 0 :=
 ⟨F,DZ U d HU F Y n0 hF h,by simp,by omega⟩
theorem M7 (U:Nat) (d:Rat) (HU:IsU U d) {R:Int} {F Y P M n0 i:Nat} (h:DV U R F Y P M 0 n0 i):M<=P/\R=((P-M:Nat):Int):=by
 obtain ⟨s,h1,h2,_⟩:=h;have e:=Gj U d HU h1;split at h2<;>exact ⟨by omega,by omega⟩
theorem Cf {U:Nat} {R:Int} {F Y P M T n0 i:Nat} (h:DV U R F Y P M T n0 i):i<=34/\T<=U/\P<=35*U/\M<=35*U:=by
 obtain ⟨s,⟨m,h1,h2,h3,h4,h5,_⟩,_,h7⟩:=h;have hi:i<=34:=by omega
 have:i*U<=35*U:=Nat.mul_le_mul_right _ (by omega)
 exact ⟨hi,h5,by omega,by omega⟩
theorem MQ (U:Nat) (d:Rat) (HU:IsU U d) {R:Int} {F Y P M T n0 i:Nat} (hY:Y<=U) (h:DV U R F Y P M T n0 i) (hT:0<T) (he:i%2=0) :
 n0+2*i<=67/\T*Y/U/((n0+2*i+1)*(n0+2*i+2))<T/\DV U R F Y (P+T) M (T*Y/U/((n0+2*i+1)*(n0+2*i+2))) n0 (i+1):=by
 have hb:=Cf h;obtain ⟨s,h1,h2,h3⟩:=h;have e1:(i%2==0)=true:=by rw [he];rfl
 have e2:((i+1)%2==0)=false:=by rw [beq_eq_false_iff_ne];omega
 rw [e1] at h1 h2;obtain ⟨a,b,c⟩:=xS U d HU hY h1 hT;rw [if_pos rfl] at c h2;refine ⟨a,b,s-dX U T Y/((n0+2*i+1)*(n0+2*i+2)),?_,?_,?_⟩
 . rw [e2,show n0+2*(i+1)=n0+2*i+2 by omega];exact c.2
 . rw [e2,if_neg (by simp)]
   have:=c.1;show s-dX U T Y/_+M+dX U T Y/_=_;omega
 . rw [Nat.add_mul];omega
theorem QO (U:Nat) (d:Rat) (HU:IsU U d) {R:Int} {F Y P M T n0 i:Nat} (hY:Y<=U) (h:DV U R F Y P M T n0 i) (hT:0<T) (he:i%2≠0) :
 n0+2*i<=67/\T*Y/U/((n0+2*i+1)*(n0+2*i+2))<T/\DV U R F Y P (M+T) (T*Y/U/((n0+2*i+1)*(n0+2*i+2))) n0 (i+1):=by
 have hb:=Cf h;obtain ⟨s,h1,h2,h3⟩:=h;have e1:(i%2==0)=false:=by rw [beq_eq_false_iff_ne];omega
 have e2:((i+1)%2==0)=true:=by rw [beq_iff_eq];omega
 rw [e1] at h1 h2;obtain ⟨a,b,c⟩:=xS U d HU hY h1 hT;rw [if_neg (by simp)] at c h2
 refine ⟨a,b,s+dX U T Y/((n0+2*i+1)*(n0+2*i+2)),?_,?_,?_⟩
 . rw [e2,show n0+2*(i+1)=n0+2*i+2 by omega];exact c.2
 . rw [e2,if_pos rfl];show s+dX U T Y/_+(M+T)=P+dX U T Y/_;omega
 . rw [Nat.add_mul];omega
end Alm
namespace Go.Proofs.YtoniodlcogpdbaaGreat
open Go.RowKit Alm
theorem Fe (k F Y n0:Nat) (d:Rat) (HU:IsU (BB^k) d) (vF vY:Value) (w:World) (hF:BN w vF F) (hY:BN w vY Y) (lF:F<=BB^k) (lY:Y<=BB^k) (hk:k<=12) (hn:n0<=1) :
 Calls Tryz.prog 176 #[vF,vY,.int .i64 ((n0:Int)+1),.int .i64 (k:Int)] w (uY (jh (BB^k) 34 F Y n0).toNat w):=by
 have LB:Hid (35*BB^k<BB^(k+1)/\BB^k<BB^(k+1)):=by
  show _/\_;have:=pJ k;rw [Nat.pow_succ,aU] at *
  omega
 have ST:=Lib.hid (Iw (BB^k) d HU F Y n0 lF hn);have hY':=Lib.hid hY;have hF':=Lib.hid hF;have LY:=Lib.hid lY;have HUU:=Lib.hid HU;have B0:Hid (BN w (.slice none 0 0) 0):=⟨none,[],0,rfl,Nat.le_refl _,wK,rfl,RD.nil _ _⟩;have K0:=Lib.hid (az w);clear hF hY lF lY HU;go_enter Tryz.func176,Tryz.ntmps176;go_wp2;go_loopw [2,9,10,11,12] (fun v2 v9 v10 v11 v12 wr=>∃ (P M T i:Nat),v2=.int .i64 ((n0+2*i+1:Nat):Int)/\v12=.int .i64 (i:Int)/\BN wr v9 P/\BN wr v10 M/\BN wr v11 T/\DV (BB^k) (jh (BB^k) 34 F Y n0) F Y P M T n0 i/\KS w wr []) (fun _ _ _ _ v12 _=>(40-intOf v12).toNat)
 case atStart=>exact ⟨0,0,F,0,by simp,rfl,B0.out,B0.out,hF'.out,ST.out,K0.out⟩
 case round =>
  obtain ⟨P,M,T,i,rfl,rfl,hP,hM,hT,hS,hK⟩:=hrel;have HP:=Lib.hid hP;have HM:=Lib.hid hM;have HS:=Lib.hid hS;have K1:=Lib.hid hK;have BD:=Lib.hid (Cf hS);have hi34:i<=34:=BD.out.1;obtain ⟨AT,lT,cT,rfl,t1,t2,t3,t4,t5⟩:=bz hT (k:=k+1) (by have:=BD.out.2.1;have:=LB.out.2;omega)
  clear hP hM hS hK hT K0 ST B0 hF'
  by_cases hT0:0<T
  . have hl0:0<lT.length:=by
     rcases Nat.eq_zero_or_pos lT.length with q|q
     . have:=(Cj t3).1 q;omega
     . exact q
    have hl0':(0:Int)<(lT.length:Int):=by omega
    by_cases he:i%2=0
    . skip
      obtain ⟨g1,g2,NX⟩:=MQ (BB^k) d HUU.out LY.out HS.out hT0 he;have NX:=Lib.hid NX;have t1':((i:Int)%2==0)=true:=by rw [beq_iff_eq];omega
      obtain ⟨AQ,lQ,cQ,rfl,p1,p2,p3,p4,p5⟩:=bz HP.out (k:=k+1) (by have:=BD.out.2.2.1;have:=LB.out.1;omega)
      have CS:=Lib.hid (QP AQ AT lQ lT cQ cT wr p5 t5 p3 t3 (by omega) (by omega))
      rw [p4,t4] at CS;obtain ⟨x,hx⟩:∃ x:Nat,x=n0+2*i+1:=⟨_,rfl⟩;have x68:x<=68:=by omega
      rw [<-hx];have HX:=Lib.hid hx;have TT:=Lib.hid (show RD wr AT lT/\Tr lT/\vd lT=T/\lT.length<=k+1 from ⟨t5,t3,t4,t2⟩)
      clear hx g2 p1 p3 p4 p5 t1 t3 t4 t5 HS HP he;go_wp2_with fail;refine CS.out.mono ?_;rintro e w1 ⟨v1,rfl,bv1,hb1⟩;have BV:=Lib.hid bv1;have HM1:=Lib.hid (HM.out.below hb1);have K2:=Lib.hid (K1.out.below hb1);have TT1:=Lib.hid (show RD w1 AT lT/\Tr lT/\vd lT=T/\lT.length<=k+1 from ⟨TT.out.1.below hb1,TT.out.2⟩)
      clear bv1 hb1 CS HM K1 TT;have hY1:=hY'.out.below K2.out.1;obtain ⟨AY,lY,cY,rfl,y1,y2,y3,y4,y5⟩:=bz hY1 (k:=k+1) (by have:=LY.out;have:=LB.out.2;omega)
      have CT:=Lib.hid (rC AT AY lT lY cT cY w1 TT1.out.1 y5 TT1.out.2.1 y3 (by have:=TT1.out.2.2.2;omega) (by omega))
      rw [TT1.out.2.2.1,y4] at CT;clear hY1 y1 y2 y3 y4 y5 TT1;go_wp2_with fail;refine CT.out.mono ?_;rintro e w2 ⟨v2,rfl,bv2,hb2⟩;have LP:T*Y<BB^(2*k+2):=by
       have a1:=BD.out.2.1;have a2:=LY.out;have a3:=LB.out.2;rw [show 2*k+2=(k+1)+(k+1) by omega,Nat.pow_add]
       exact Nat.mul_lt_mul'' (by omega) (by omega)
      obtain ⟨A2,l2,c2,rfl,z1,z2,z3,z4,z5⟩:=bz bv2 LP;have CD:=Lib.hid (Gr A2 l2 c2 k w2 z5 z3 (by omega) z1 (by omega))
      rw [z4] at CD;have BV2:=Lib.hid (BV.out.below hb2);have HM2:=Lib.hid (HM1.out.below hb2);have K3:=Lib.hid (K2.out.below hb2);clear bv2 hb2 LP z1 z2 z3 z4 z5 CT BV HM1 K2;go_wp2_with fail;refine CD.out.mono ?_;rintro e w3 ⟨v3,rfl,bv3,hb3⟩;have LD:T*Y/BB^k<BB^(k+2):=by
       have a1:=BD.out.2.1;have a2:=LY.out;have a3:=LB.out.2;have a4:=pJ k;have:T*Y/BB^k<=T:=by
        apply Nat.div_le_of_le_mul;rw [Nat.mul_comm (BB^k)];exact Nat.mul_le_mul_left _ a2
       have:BB^(k+1)<=BB^(k+2):=Nat.pow_le_pow_right (by rw [aU];omega) (by omega)
       omega
      obtain ⟨A3,l3,c3,rfl,z1,z2,z3,z4,z5⟩:=bz bv3 LD;have pe:((x*(x+1):Nat):Int)=(x:Int)*((x:Int)+1):=by rw [Int.natCast_mul];rfl
      have pb:x*(x+1)<=68*69:=Nat.mul_le_mul x68 (by omega)
      have p0:0<x*(x+1):=Nat.mul_pos (by have:=HX.out;omega) (by omega)
      have CP:=Gd A3 l3 c3 (x*(x+1)) w3 z5 z3 (by omega) p0 (by omega)
      rw [z4,pe] at CP;replace CP:=Lib.hid CP;have q1:0<=(x:Int)*((x:Int)+1):=by rw [<-pe];omega
      have q2:(x:Int)*((x:Int)+1)<=4692:=by rw [<-pe];omega
      have BV3:=Lib.hid (BV2.out.below hb3);have HM3:=Lib.hid (HM2.out.below hb3);have K4:=Lib.hid (K3.out.below hb3);clear bv3 hb3 LD z1 z2 z3 z4 z5 CD BV2 HM2 K3 pe pb p0;go_wp2_with fail;refine CP.out.mono ?_;rintro e w4 ⟨v4,rfl,bv4,hb4⟩;have BT4:=Lib.hid bv4;have BV4:=Lib.hid (BV3.out.below hb4);have HM4:=Lib.hid (HM3.out.below hb4);have K5:=Lib.hid (K4.out.below hb4);clear bv4 hb4 CP BV3 HM3 K4 q1 q2;go_wp2;go_light;refine ⟨⟨P+T,M,T*Y/BB^k/(x*(x+1)),i+1,by rw [show ((n0+2*(i+1)+1:Nat):Int)=(x:Int)+2 by have:=HX.out;omega],by rw [show ((i+1:Nat):Int)=(i:Int)+1 by omega],BV4.out,HM4.out,BT4.out,?_,K5.out⟩,by simp only [intOf];omega⟩
      have nx:=NX.out;rw [show n0+2*i+2=x+1 by have:=HX.out;omega,show n0+2*i+1=x from HX.out.symm] at nx
      exact nx
    . skip
      obtain ⟨g1,g2,NX⟩:=QO (BB^k) d HUU.out LY.out HS.out hT0 he;have NX:=Lib.hid NX;have t1':((i:Int)%2==0)=false:=by rw [beq_eq_false_iff_ne];omega
      obtain ⟨AQ,lQ,cQ,rfl,p1,p2,p3,p4,p5⟩:=bz HM.out (k:=k+1) (by have:=BD.out.2.2.2;have:=LB.out.1;omega)
      have CS:=Lib.hid (QP AQ AT lQ lT cQ cT wr p5 t5 p3 t3 (by omega) (by omega))
      rw [p4,t4] at CS;obtain ⟨x,hx⟩:∃ x:Nat,x=n0+2*i+1:=⟨_,rfl⟩;have x68:x<=68:=by omega
      rw [<-hx];have HX:=Lib.hid hx;have TT:=Lib.hid (show RD wr AT lT/\Tr lT/\vd lT=T/\lT.length<=k+1 from ⟨t5,t3,t4,t2⟩)
      clear hx g2 p1 p3 p4 p5 t1 t3 t4 t5 HS HM he;go_wp2_with fail;refine CS.out.mono ?_;rintro e w1 ⟨v1,rfl,bv1,hb1⟩;have BV:=Lib.hid bv1;have HP1:=Lib.hid (HP.out.below hb1);have K2:=Lib.hid (K1.out.below hb1);have TT1:=Lib.hid (show RD w1 AT lT/\Tr lT/\vd lT=T/\lT.length<=k+1 from ⟨TT.out.1.below hb1,TT.out.2⟩)
      clear bv1 hb1 CS HP K1 TT;have hY1:=hY'.out.below K2.out.1;obtain ⟨AY,lY,cY,rfl,y1,y2,y3,y4,y5⟩:=bz hY1 (k:=k+1) (by have:=LY.out;have:=LB.out.2;omega)
      have CT:=Lib.hid (rC AT AY lT lY cT cY w1 TT1.out.1 y5 TT1.out.2.1 y3 (by have:=TT1.out.2.2.2;omega) (by omega))
      rw [TT1.out.2.2.1,y4] at CT;clear hY1 y1 y2 y3 y4 y5 TT1;go_wp2_with fail;refine CT.out.mono ?_;rintro e w2 ⟨v2,rfl,bv2,hb2⟩;have LP:T*Y<BB^(2*k+2):=by
       have a1:=BD.out.2.1;have a2:=LY.out;have a3:=LB.out.2;rw [show 2*k+2=(k+1)+(k+1) by omega,Nat.pow_add]
       exact Nat.mul_lt_mul'' (by omega) (by omega)
      obtain ⟨A2,l2,c2,rfl,z1,z2,z3,z4,z5⟩:=bz bv2 LP;have CD:=Lib.hid (Gr A2 l2 c2 k w2 z5 z3 (by omega) z1 (by omega))
      rw [z4] at CD;have BV2:=Lib.hid (BV.out.below hb2);have HP2:=Lib.hid (HP1.out.below hb2);have K3:=Lib.hid (K2.out.below hb2);clear bv2 hb2 LP z1 z2 z3 z4 z5 CT BV HP1 K2;go_wp2_with fail;refine CD.out.mono ?_;rintro e w3 ⟨v3,rfl,bv3,hb3⟩;have LD:T*Y/BB^k<BB^(k+2):=by
       have a1:=BD.out.2.1;have a2:=LY.out;have a3:=LB.out.2;have a4:=pJ k;have:T*Y/BB^k<=T:=by
        apply Nat.div_le_of_le_mul;rw [Nat.mul_comm (BB^k)];exact Nat.mul_le_mul_left _ a2
       have:BB^(k+1)<=BB^(k+2):=Nat.pow_le_pow_right (by rw [aU];omega) (by omega)
       omega
      obtain ⟨A3,l3,c3,rfl,z1,z2,z3,z4,z5⟩:=bz bv3 LD;have pe:((x*(x+1):Nat):Int)=(x:Int)*((x:Int)+1):=by rw [Int.natCast_mul];rfl
      have pb:x*(x+1)<=68*69:=Nat.mul_le_mul x68 (by omega)
      have p0:0<x*(x+1):=Nat.mul_pos (by have:=HX.out;omega) (by omega)
      have CP:=Gd A3 l3 c3 (x*(x+1)) w3 z5 z3 (by omega) p0 (by omega)
      rw [z4,pe] at CP;replace CP:=Lib.hid CP;have q1:0<=(x:Int)*((x:Int)+1):=by rw [<-pe];omega
      have q2:(x:Int)*((x:Int)+1)<=4692:=by rw [<-pe];omega
      have BV3:=Lib.hid (BV2.out.below hb3);have HP3:=Lib.hid (HP2.out.below hb3);have K4:=Lib.hid (K3.out.below hb3);clear bv3 hb3 LD z1 z2 z3 z4 z5 CD BV2 HP2 K3 pe pb p0;go_wp2_with fail;refine CP.out.mono ?_;rintro e w4 ⟨v4,rfl,bv4,hb4⟩;have BT4:=Lib.hid bv4;have BV4:=Lib.hid (BV3.out.below hb4);have HP4:=Lib.hid (HP3.out.below hb4);have K5:=Lib.hid (K4.out.below hb4);clear bv4 hb4 CP BV3 HP3 K4 q1 q2;go_wp2;go_light;refine ⟨⟨P,M+T,T*Y/BB^k/(x*(x+1)),i+1,by rw [show ((n0+2*(i+1)+1:Nat):Int)=(x:Int)+2 by have:=HX.out;omega],by rw [show ((i+1:Nat):Int)=(i:Int)+1 by omega],HP4.out,BV4.out,BT4.out,?_,K5.out⟩,by simp only [intOf];omega⟩
      have nx:=NX.out;rw [show n0+2*i+2=x+1 by have:=HX.out;omega,show n0+2*i+1=x from HX.out.symm] at nx
      exact nx
  . have hl0:lT.length=0:=(Cj t3).2 (by omega)
    have hT0':T=0:=by omega
    subst hT0'
    obtain ⟨e1,e2⟩:=M7 (BB^k) d HUU.out HS.out;have EX:Hid ((jh (BB^k) 34 F Y n0).toNat=P-M):=by show _=_;rw [e2];exact Int.toNat_natCast _
    obtain ⟨AP,lP,cP,rfl,p1,p2,p3,p4,p5⟩:=bz HP.out (k:=k+1) (by have:=BD.out.2.2.1;have:=LB.out.1;omega)
    obtain ⟨AM,lM,cM,rfl,m1,m2,m3,m4,m5⟩:=bz HM.out (k:=k+1) (by have:=BD.out.2.2.2;have:=LB.out.1;omega)
    have CL:=Lib.hid (Gt AP AM lP lM cP cM wr p5 m5 p3 m3 (by omega) (by omega) (by rw [p4,m4];exact e1))
    rw [p4,m4] at CL;have hl0':¬ (0:Int)<(lT.length:Int):=by omega
    clear e1 e2 p1 p3 p4 p5 m1 m3 m4 m5 t1 t3 t4 t5 HS HP HM hT0 hl0;go_wp2_with fail;refine CL.out.mono ?_;rintro e w1 ⟨v,rfl,hbn,hb1⟩;have BNX:=Lib.hid hbn;have K2:Hid (Below w.heap.size w w1):=K1.out.1.trans (hb1.mono K1.out.1.size);clear hbn hb1 CL K1;go_wp2;go_ret;exact ⟨_,rfl,by rw [EX.out];exact BNX.out,K2.out⟩
end Go.Proofs.YtoniodlcogpdbaaGreat
namespace Go.Proofs.YtoniodlcogpdbaaGreat
open Go.RowKit Alm
def pq (k:Nat) (d:Rat):Prop:=-d<=(piU k:Rat)*d-ak*10800000/\(piU k:Rat)*d-ak*10800000<=d
def pE (k r:Nat) (cos:Bool):Nat:=if cos then (Gm (BB^k) (piU k) r).toNat else (GL (BB^k) (piU k) r).toNat
def bK (k n:Nat):Nat:=if 2700000<n%5400000 then pE k (5400000-n%5400000) (!(n/5400000%2==1)) else pE k (n%5400000) (n/5400000%2==1)
theorem Lx (A:Option Addr) (n c:Nat) (b:Bool) (w:World):(Instr.field 145 (.agg #[.slice A n c,.bool b]) 0).run Tryz.prog w=.ok (.slice A n c) w:=by kernel_rfl
theorem II (k r:Nat) (cos:Bool) (d:Rat) (HU:IsU (BB^k) d) (HP:pq k d) (w:World) (hk:k<=4) (hr:r<=2700000) :
 Calls Tryz.prog 158 #[.int .i64 (r:Int),.bool cos,.int .i64 (k:Int)] w (uY (pE k r cos) w):=by
 have LB:Hid (35*BB^k<BB^(k+1)/\BB^k<BB^(k+1)):=by
  show _/\_;have:=pJ k;rw [Nat.pow_succ,aU] at *
  omega
 obtain ⟨X,hX⟩:∃ X:Nat,X=jZ (piU k) r:=⟨_,rfl⟩;obtain ⟨S,hS⟩:∃ S:Nat,S=sqU (BB^k) (piU k) r:=⟨_,rfl⟩;have hX2:piU k*r/10800000=X:=by rw [hX];unfold jZ;rw [Nat.mul_comm]
 have hS2:X*X/BB^k=S:=by rw [hS,hX];rfl
 have lX:X<BB^k:=by rw [hX];exact Bu (BB^k) d HU (piU k) HP r hr
 have lS:S<BB^k:=by rw [hS];exact (wY (BB^k) d HU (piU k) HP r hr).1
 have EV:Hid (pE k r cos=if cos then (jh (BB^k) 34 (BB^k) S 0).toNat else (jh (BB^k) 34 X S 1).toNat):=by
  show _=_;unfold pE Gm GL;rw [<-hX,<-hS]
 have lP:piU k<BB^(k+1):=by
  have h1:vd ((piL.take k).reverse)<BB^k:=by
   have:=qJ (l:=(piL.take k).reverse) (fun x hx=>pW Ow k x (List.mem_reverse.1 hx))
   rwa [List.length_reverse,List.length_take,nV,Nat.min_eq_left (by omega)] at this
  unfold piU;have:=LB.out.1;omega
 have CP:=Lib.hid (adA k w (by omega))
 have FX:=Lib.hid (And.intro hX2 (And.intro hS2 (And.intro lX (And.intro lS lP))));have HUU:=Lib.hid HU;clear hX hS hX2 hS2 lX lS lP HU HP;go_enter Tryz.func158,Tryz.ntmps158;go_wp2_with fail;refine CP.out.mono ?_;rintro e w1 ⟨v1,rfl,bv1,hb1⟩;have K1:Hid (Below w.heap.size w w1):=hb1;have B1:=Lib.hid bv1;have CO:=Lib.hid (qE r w1 (by omega))
 clear bv1 hb1 CP;go_wp2_with fail;refine CO.out.mono ?_;rintro e w2 ⟨v2,rfl,bv2,hb2⟩;obtain ⟨A1,l1,c1,rfl,x1,x2,x3,x4,x5⟩:=bz (B1.out.below hb2) (k:=k+1) FX.out.2.2.2.2;obtain ⟨A2,l2,c2,rfl,y1,y2,y3,y4,y5⟩:=bz bv2 (k:=1) (by rw [Nat.pow_one,aU];omega)
 have CT:=rC A1 A2 l1 l2 c1 c2 w2 x5 y5 x3 y3 (by omega) (by omega)
 rw [x4,y4] at CT;replace CT:=Lib.hid CT;have K2:Hid (Below w.heap.size w w2):=K1.out.trans (hb2.mono K1.out.size);clear bv2 hb2 CO x1 x2 x3 x4 x5 y1 y2 y3 y4 y5 B1 K1;have NF:=Lx A2 l2.length c2 false;go_wp2_with fail;refine CT.out.mono ?_;rintro e w3 ⟨v3,rfl,bv3,hb3⟩;obtain ⟨A3,l3,c3,rfl,x1,x2,x3,x4,x5⟩:=bz bv3 (k:=k+2) (by
  have a:=FX.out.2.2.2.2;have:piU k*r<BB^(k+1)*BB:=Nat.mul_lt_mul'' a (by rw [aU];omega)
  rwa [<-Nat.pow_succ] at this)
 have CQ:=Gd A3 l3 c3 10800000 w3 x5 x3 (by omega) (by omega) (by omega)
 rw [x4,FX.out.1,show ((10800000:Nat):Int)=10800000 from rfl] at CQ
 replace CQ:=Lib.hid CQ;have K3:Hid (Below w.heap.size w w3):=K2.out.trans (hb3.mono K2.out.size);clear bv3 hb3 CT x1 x2 x3 x4 x5 K2;go_wp2_with fail;refine CQ.out.mono ?_;rintro e w4 ⟨v4,rfl,bv4,hb4⟩;obtain ⟨A4,l4,c4,rfl,x1,x2,x3,x4,x5⟩:=bz bv4 (k:=k) FX.out.2.2.1;have B4:=Lib.hid bv4;have CT:=rC A4 A4 l4 l4 c4 c4 w4 x5 x5 x3 x3 (by omega) (by omega)
 rw [x4] at CT;replace CT:=Lib.hid CT;have K4:Hid (Below w.heap.size w w4):=K3.out.trans (hb4.mono K3.out.size);clear bv4 hb4 CQ x1 x3 x4 x5 K3;go_wp2_with fail;refine CT.out.mono ?_;rintro e w5 ⟨v5,rfl,bv5,hb5⟩;obtain ⟨A5,l5,c5,rfl,x1,x2',x3,x4,x5⟩:=bz bv5 (k:=k+k) (by rw [Nat.pow_add];exact Nat.mul_lt_mul'' FX.out.2.2.1 FX.out.2.2.1)
 have CD:=Gr A5 l5 c5 k w5 x5 x3 (by omega) x1 (by omega)
 rw [x4,FX.out.2.1] at CD;replace CD:=Lib.hid CD;have K5:Hid (Below w.heap.size w w5):=K4.out.trans (hb5.mono K4.out.size);have B5:=Lib.hid (B4.out.below hb5);clear bv5 hb5 CT x1 x2' x3 x4 x5 K4 B4 x2;go_wp2_with fail;refine CD.out.mono ?_;rintro e w6 ⟨v6,rfl,bv6,hb6⟩;have K6:Hid (Below w.heap.size w w6):=K5.out.trans (hb6.mono K5.out.size);have B6:=Lib.hid (B5.out.below hb6);have BS:=Lib.hid bv6;clear bv6 hb6 CD K5 B5;cases cos
 . rw [if_neg (by simp)] at EV
   have CS:=Fe k X S 1 d HUU.out _ v6 w6 B6.out BS.out (Nat.le_of_lt FX.out.2.2.1) (Nat.le_of_lt FX.out.2.2.2.1) (by omega) (by omega)
   rw [<-EV.out,show ((1:Nat):Int)+1=2 from rfl] at CS
   replace CS:=Lib.hid CS;clear B6 BS FX HUU EV;go_wp2_with fail;refine CS.out.mono ?_;rintro e w7 ⟨v7,rfl,bv7,hb7⟩;have BX:=Lib.hid bv7;have K7:Hid (Below w.heap.size w w7):=K6.out.trans (hb7.mono K6.out.size);clear bv7 hb7 CS K6;go_wp2;go_ret;exact ⟨_,rfl,BX.out,K7.out⟩
 . rw [if_pos rfl] at EV;have CU:=Lib.hid (X7 k w6 (by omega))
   go_wp2_with fail;refine CU.out.mono ?_;rintro e w7 ⟨v7,rfl,bv7,hb7⟩;have CS:=Fe k (BB^k) S 0 d HUU.out v7 v6 w7 bv7 (BS.out.below hb7) (Nat.le_refl _) (Nat.le_of_lt FX.out.2.2.2.1) (by omega) (by omega)
   rw [<-EV.out,show ((0:Nat):Int)+1=1 from rfl] at CS
   replace CS:=Lib.hid CS;have K7:Hid (Below w.heap.size w w7):=K6.out.trans (hb7.mono K6.out.size);clear B6 BS FX HUU EV bv7 hb7 K6 CU;go_wp2_with fail;refine CS.out.mono ?_;rintro e w8 ⟨v8,rfl,bv8,hb8⟩;have BX:=Lib.hid bv8;have K8:Hid (Below w.heap.size w w8):=K7.out.trans (hb8.mono K7.out.size);clear bv8 hb8 CS K7;go_wp2;go_ret;exact ⟨_,rfl,BX.out,K8.out⟩
theorem Rc (k:Nat) (n m r0 q:Int) (c0:Bool) (V:Nat) (w:World) (ht:n.tmod 21600000=m) (h0:0<=m) (h1:m<21600000) (hq:m/5400000=q) (hr:m%5400000=r0) (hc:(q=0/\c0=false)∨(q=1/\c0=true)) (hg:¬ 2700000<r0)
 (CS:Hid (∀ w,Calls Tryz.prog 158 #[.int .i64 r0,.bool c0,.int .i64 (k:Int)] w (uY V w))) :
 Calls Tryz.prog 127 #[.int .i64 n,.int .i64 (k:Int)] w (lV V false w):=by
 have K1:=Lib.hid ((az w).new w.heap.size rfl 145 #[.slice none 0 0,.bool false]);have hr0:0<=r0/\r0<5400000:=by omega
 obtain ⟨r1,r2⟩:=hr0;rcases hc with ⟨rfl,rfl⟩|⟨rfl,rfl⟩
 all_goals
  go_enter Tryz.func127,Tryz.ntmps127;go_wp2_with fail;refine (CS.out _).mono ?_;rintro e w1 ⟨v,rfl,bv,hb⟩;replace K1:=Lib.hid (K1.out.below hb);have B1:=Lib.hid bv;obtain ⟨A,l,c,rfl,_⟩:=bv;clear hb;have s0:=K1.out.c (g:=w.heap.size) (t:=145) (cs:=#[.slice none 0 0,.bool false]) (by simp) (i:=0) rfl
  have s1:=K1.out.c (g:=w.heap.size) (t:=145) (cs:=#[.slice none 0 0,.bool false]) (by simp) (i:=1) rfl
  have f0:=K1.out.f (g:=w.heap.size) (t:=145) (cs:=#[.slice none 0 0,.bool false]) (by simp) 0
  have f1:=K1.out.f (g:=w.heap.size) (t:=145) (cs:=#[.slice none 0 0,.bool false]) (by simp) 1
  go_wp2;have F3:=jH B1.out (K1.out.2 (w.heap.size,145,#[.slice none 0 0,.bool false]) (by simp)) (.slice A l.length c) (.bool false)
  have hB:=(K1.out.1.setCell (p:=⟨w.heap.size,0,none⟩) (by simp) (.slice A l.length c)).setCell (p:=⟨w.heap.size,1,none⟩) (by simp) (.bool false)
  refine bodyPost_ret (v:=.agg #[.slice A l.length c,.bool false]) (by simp [results,Tryz.results127,go_sem,s0,s1];try rfl) rfl ⟨_,rfl,F3,hB⟩
theorem Mw (k:Nat) (n m r0 q:Int) (c0:Bool) (V:Nat) (w:World) (ht:n.tmod 21600000=m) (h0:0<=m) (h1:m<21600000) (hq:m/5400000=q) (hr:m%5400000=r0) (hc:(q=0/\c0=true)∨(q=1/\c0=false)) (hg:2700000<r0)
 (CS:Hid (∀ w,Calls Tryz.prog 158 #[.int .i64 (5400000-r0),.bool c0,.int .i64 (k:Int)] w (uY V w))) :
 Calls Tryz.prog 127 #[.int .i64 n,.int .i64 (k:Int)] w (lV V false w):=by
 have K1:=Lib.hid ((az w).new w.heap.size rfl 145 #[.slice none 0 0,.bool false]);have hr0:0<=r0/\r0<5400000:=by omega
 obtain ⟨r1,r2⟩:=hr0;rcases hc with ⟨rfl,rfl⟩|⟨rfl,rfl⟩
 all_goals
  go_enter Tryz.func127,Tryz.ntmps127;go_wp2_with fail;refine (CS.out _).mono ?_;rintro e w1 ⟨v,rfl,bv,hb⟩;replace K1:=Lib.hid (K1.out.below hb);have B1:=Lib.hid bv;obtain ⟨A,l,c,rfl,_⟩:=bv;clear hb;have s0:=K1.out.c (g:=w.heap.size) (t:=145) (cs:=#[.slice none 0 0,.bool false]) (by simp) (i:=0) rfl
  have s1:=K1.out.c (g:=w.heap.size) (t:=145) (cs:=#[.slice none 0 0,.bool false]) (by simp) (i:=1) rfl
  have f0:=K1.out.f (g:=w.heap.size) (t:=145) (cs:=#[.slice none 0 0,.bool false]) (by simp) 0
  have f1:=K1.out.f (g:=w.heap.size) (t:=145) (cs:=#[.slice none 0 0,.bool false]) (by simp) 1
  go_wp2;have F3:=jH B1.out (K1.out.2 (w.heap.size,145,#[.slice none 0 0,.bool false]) (by simp)) (.slice A l.length c) (.bool false)
  have hB:=(K1.out.1.setCell (p:=⟨w.heap.size,0,none⟩) (by simp) (.slice A l.length c)).setCell (p:=⟨w.heap.size,1,none⟩) (by simp) (.bool false)
  refine bodyPost_ret (v:=.agg #[.slice A l.length c,.bool false]) (by simp [results,Tryz.results127,go_sem,s0,s1];try rfl) rfl ⟨_,rfl,F3,hB⟩
theorem Oa (k n:Nat) (d:Rat) (HU:IsU (BB^k) d) (HP:pq k d) (w:World) (hk:k<=4) (hn:n<10800000) :
 Calls Tryz.prog 127 #[.int .i64 (n:Int),.int .i64 (k:Int)] w (lV (bK k n) false w):=by
 have ht:((n:Int)).tmod 21600000=(n:Int):=by
  rw [Int.tmod_eq_emod_of_nonneg (by omega)]
  omega
 have hq:n/5400000=0∨n/5400000=1:=by omega
 by_cases hg:2700000<n%5400000
 . have e:bK k n=pE k (5400000-n%5400000) (!(n/5400000%2==1)):=by unfold bK;rw [if_pos hg]
   rw [e];have CS:=Lib.hid (fun w=>II k (5400000-n%5400000) (!(n/5400000%2==1)) d HU HP w hk (by omega))
   rw [show ((5400000-n%5400000:Nat):Int)=5400000-((n:Int)%5400000) by omega] at CS
   exact Mw k n n ((n:Int)%5400000) ((n:Int)/5400000) _ _ w ht (by omega) (by omega) rfl rfl (by
    rcases hq with q|q
    . left;exact ⟨by omega,by rw [q];rfl⟩
    . right;exact ⟨by omega,by rw [q];rfl⟩) (by omega) CS
 . have e:bK k n=pE k (n%5400000) (n/5400000%2==1):=by unfold bK;rw [if_neg hg]
   rw [e];have CS:=Lib.hid (fun w=>II k (n%5400000) (n/5400000%2==1) d HU HP w hk (by omega))
   rw [show ((n%5400000:Nat):Int)=(n:Int)%5400000 by omega] at CS
   exact Rc k n n ((n:Int)%5400000) ((n:Int)/5400000) _ _ w ht (by omega) (by omega) rfl rfl (by
    rcases hq with q|q
    . left;exact ⟨by omega,by rw [q];rfl⟩
    . right;exact ⟨by omega,by rw [q];rfl⟩) (by omega) CS
