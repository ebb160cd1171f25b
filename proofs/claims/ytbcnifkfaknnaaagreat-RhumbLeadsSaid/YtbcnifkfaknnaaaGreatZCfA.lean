/- Plain numbers: Euclid's steps on the cosine and the sine of an angle, times 2^160: where they stop shows that no point of small coordinates lies near the angle's ray. -/
import Derived.Test.YtbcnifkfaknnaaaGreatZNums
set_option linter.unusedVariables false
set_option linter.unusedSimpArgs false
namespace Alm
def iI:Nat:=1461501637330902918203684832716283019655932542976
def dJ:Nat:=6277101735386680763835789423207666416102355444464034512896
def qc1:Nat:=1461501637330841085028993473485354317854231948077
def qs1:Nat:=425133593245199460169970897845407932666872
noncomputable def eu (f:Nat):Nat->Nat->Bool :=
 @Nat.rec (fun _=>Nat->Nat->Bool) (fun _ _=>false)
  (fun _ ih p q=>@Bool.rec (fun _=>Bool)
   (@Nat.rec (fun _=>Bool) false (fun r _=>ih q r) (Nat.mod (Nat.succ p) (Nat.succ q)))
   (Nat.ble 1267650600228229401496703205376 q) (Nat.ble q 42535295865117307932921825928971026431)) f
theorem O8 (f p q:Nat):eu (f+1) p q=if q<=42535295865117307932921825928971026431 then decide (1267650600228229401496703205376<=q) else (match (p+1)%(q+1) with|0=>false|r+1=>eu f q r):=by
 have e:eu (f+1) p q=@Bool.rec (fun _=>Bool) (@Nat.rec (fun _=>Bool) false (fun r _=>eu f q r) ((p+1)%(q+1))) (Nat.ble 1267650600228229401496703205376 q) (Nat.ble q 42535295865117307932921825928971026431):=rfl
 rw [e];cases h:Nat.ble q 42535295865117307932921825928971026431
 . rw [if_neg (by intro hh;rw [Nat.ble_eq_true_of_le hh] at h;cases h)]
   cases (p+1)%(q+1)<;>rfl
 . rw [if_pos (Nat.le_of_ble_eq_true h)];show Nat.ble _ q=_;cases k:Nat.ble 1267650600228229401496703205376 q
   . exact (decide_eq_false (by intro hh;rw [Nat.ble_eq_true_of_le hh] at k;cases k)).symm
   . exact (decide_eq_true (Nat.le_of_ble_eq_true k)).symm
def Red (a b:Nat):Prop:=∃ x y al be ga de:Nat,a=al*x+be*y/\b=ga*x+de*y/\((al:Int)*de-be*ga=1∨(al:Int)*de-be*ga=-1)/\42535295865117307932921825928971026432<=x/\1267650600228229401496703205376<=y/\y<=42535295865117307932921825928971026432
theorem LF:∀ (f p q:Nat),42535295865117307932921825928971026432<=p+1->eu f p q=true->Red (p+1) (q+1)
 | 0,p,q,_,h=>by cases h
 | f+1,p,q,hp,h=>by
  rw [O8] at h;split at h
  . rename_i hq
    have h:=of_decide_eq_true h;exact ⟨p+1,q+1,1,0,0,1,by omega,by omega,.inl (by omega),hp,by omega,by omega⟩
  . rename_i hq
    have hd:=Nat.div_add_mod (p+1) (q+1);cases hr:(p+1)%(q+1) with
    | zero=>rw [hr] at h;cases h
    | succ r =>
     rw [hr] at h hd;obtain ⟨x,y,al,be,ga,de,h1,h2,h3,h4,h5,h6⟩:=LF f q r (by omega) h
     generalize (p+1)/(q+1)=u at hd;refine ⟨x,y,u*al+ga,u*be+de,al,be,?_,h1,?_,h4,h5,h6⟩
     . rw [<-hd,h2,h1];grind
     . rcases h3 with h3|h3
       . right;push_cast;grind
       . left;push_cast;grind
theorem ND (a b:Nat) (h:Red a b) (ha:730750818665451459101842416358141509827966271488<=a) (X Y:Int) (h0:¬ (X=0/\Y=0)) (hX:-4294967296<=X/\X<=4294967296) :
 1267650600228229401496703205376<=X*b-Y*a∨X*b-Y*a<=-1267650600228229401496703205376:=by
 obtain ⟨x,y,al,be,ga,de,h1,h2,h3,h4,h5,h6⟩:=h;obtain ⟨U,hU⟩:∃ U:Int,U=X*ga-Y*al:=⟨_,rfl⟩;obtain ⟨V,hV⟩:∃ V:Int,V=X*de-Y*be:=⟨_,rfl⟩;obtain ⟨F,hF⟩:∃ F:Int,F=X*b-Y*a:=⟨_,rfl⟩;have e1:(a:Int)=al*x+be*y:=by exact_mod_cast h1
 have e2:(b:Int)=ga*x+de*y:=by exact_mod_cast h2
 have f1:F=U*x+V*y:=by rw [hF,hU,hV,e1,e2];grind
 have f2:X*y=U*a-al*F∨-(X*y)=U*a-al*F:=by
  rcases h3 with h3|h3
  . right
    have:-(X*y)=-(X*y)*((al:Int)*de-be*ga):=by rw [h3];grind
    rw [this,e1,f1,hU,hV];grind
  . left
    have:X*y=-(X*y)*((al:Int)*de-be*ga):=by rw [h3];grind
    rw [this,e1,f1,hU,hV];grind
 rw [<-hF]
 by_cases hU0:U=0
 . have hV0:V≠0:=by
    intro hv;have g1:U*be-V*al=0:=by rw [hU0,hv];grind
    have g2:U*de-V*ga=0:=by rw [hU0,hv];grind
    have k1:U*be-V*al=-(X*((al:Int)*de-be*ga)):=by rw [hU,hV];grind
    have k2:U*de-V*ga=-(Y*((al:Int)*de-be*ga)):=by rw [hU,hV];grind
    rcases h3 with h3|h3<;>rw [h3] at k1 k2<;>omega
   rw [hU0] at f1;have hy:(0:Int)<y:=by omega
   rcases Int.lt_or_gt_of_ne hV0 with hv|hv
   . right
     have:(-V-1)*(y:Int)>=0:=Int.mul_nonneg (by omega) (by omega)
     have:(-V-1)*(y:Int)=-(V*y)-y:=by grind
     omega
   . left
     have:(V-1)*(y:Int)>=0:=Int.mul_nonneg (by omega) (by omega)
     have:(V-1)*(y:Int)=V*y-y:=by grind
     omega
 . rcases Int.lt_or_le F 1267650600228229401496703205376 with c1|c1
   . rcases Int.lt_or_le (-1267650600228229401496703205376) F with c2|c2
     . exfalso;have m1:(0:Int)<=be*y:=Int.mul_nonneg (by omega) (by omega)
       have m2:(al:Int)*42535295865117307932921825928971026432<=al*x:=Int.mul_le_mul_of_nonneg_left (by omega) (by omega)
       have m3:(al:Int)*F<=al*1267650600228229401496703205376:=Int.mul_le_mul_of_nonneg_left (by omega) (by omega)
       have m4:(al:Int)*(-1267650600228229401496703205376)<=al*F:=Int.mul_le_mul_of_nonneg_left (by omega) (by omega)
       have m5:X*y<=4294967296*y:=Int.mul_le_mul_of_nonneg_right (by omega) (by omega)
       have m6:(-4294967296)*y<=X*y:=Int.mul_le_mul_of_nonneg_right (by omega) (by omega)
       rcases Int.lt_or_gt_of_ne hU0 with hu|hu
       . have m7:(-U-1)*(a:Int)>=0:=Int.mul_nonneg (by omega) (by omega)
         have m8:(-U-1)*(a:Int)=-(U*a)-a:=by grind
         generalize (al:Int)*x=p1 at *
         generalize (be:Int)*y=p2 at *
         generalize (al:Int)*F=p3 at *
         generalize U*(a:Int)=p4 at *
         generalize X*(y:Int)=p5 at *
         clear hU hV hF f1 e2 h1 h2 h3;omega
       . have m7:(U-1)*(a:Int)>=0:=Int.mul_nonneg (by omega) (by omega)
         have m8:(U-1)*(a:Int)=U*a-a:=by grind
         generalize (al:Int)*x=p1 at *
         generalize (be:Int)*y=p2 at *
         generalize (al:Int)*F=p3 at *
         generalize U*(a:Int)=p4 at *
         generalize X*(y:Int)=p5 at *
         clear hU hV hF f1 e2 h1 h2 h3;omega
     . right;exact c2
   . left;exact c1
def stp (t:Nat):Nat:=((t%dJ)*qc1-(t/dJ)*qs1)/iI+dJ*(((t/dJ)*qc1+(t%dJ)*qs1)/iI)
noncomputable def stpB (t:Nat):Nat :=
 @Nat.rec (fun _=>Nat) 0 (fun p _=>@Nat.rec (fun _=>Nat) 0 (fun q _=>@Bool.rec (fun _=>Nat) 0
  (Nat.add (Nat.div (Nat.sub (Nat.mul (Nat.succ p) 1461501637330841085028993473485354317854231948077) (Nat.mul (Nat.succ q) 425133593245199460169970897845407932666872)) 1461501637330902918203684832716283019655932542976)
   (Nat.mul 6277101735386680763835789423207666416102355444464034512896 (Nat.div (Nat.add (Nat.mul (Nat.succ q) 1461501637330841085028993473485354317854231948077) (Nat.mul (Nat.succ p) 425133593245199460169970897845407932666872)) 1461501637330902918203684832716283019655932542976)))
  (eu 200 p q)) (Nat.div t 6277101735386680763835789423207666416102355444464034512896)) (Nat.mod t 6277101735386680763835789423207666416102355444464034512896)
noncomputable def it (k:Nat):Nat->Nat:=@Nat.rec (fun _=>Nat->Nat) stpB (fun _ ih t=>@Nat.rec (fun _=>Nat) 0 (fun v _=>ih (Nat.succ v)) (ih t)) k
theorem Qf (k t:Nat):it (k+1) t=match it k t with|0=>0|v+1=>it k (v+1):=by
 have e:it (k+1) t=@Nat.rec (fun _=>Nat) 0 (fun v _=>it k (v+1)) (it k t):=rfl
 rw [e];cases it k t<;>rfl
def sW (t:Nat):Prop:=0<t%dJ/\0<t/dJ/\eu 200 (t%dJ-1) (t/dJ-1)=true
theorem G6 {f:Nat->Nat} (c:Nat) (h:@Nat.rec (fun _=>Nat) 0 (fun p _=>f p) c≠0):∃ p,c=p+1/\@Nat.rec (fun _=>Nat) 0 (fun p _=>f p) c=f p:=by
 cases c with
 | zero=>exact absurd rfl h
 | succ p=>exact ⟨p,rfl,rfl⟩
theorem Nu {x:Nat} (b:Bool) (h:@Bool.rec (fun _=>Nat) 0 x b≠0):b=true/\@Bool.rec (fun _=>Nat) 0 x b=x:=by
 cases b with
 | false=>exact absurd rfl h
 | true=>exact ⟨rfl,rfl⟩
def Oy (p q:Nat):Nat:=((p+1)*qc1-(q+1)*qs1)/iI+dJ*(((q+1)*qc1+(p+1)*qs1)/iI)
theorem OJ (t:Nat):stpB t=@Nat.rec (fun _=>Nat) 0 (fun p _=>@Nat.rec (fun _=>Nat) 0 (fun q _=>@Bool.rec (fun _=>Nat) 0 (Oy p q) (eu 200 p q)) (t/dJ)) (t%dJ):=rfl
theorem JP (t:Nat) (h:stpB t≠0):sW t/\stpB t=stp t:=by
 rw [OJ] at h ⊢
 unfold sW stp;generalize eu 200=E at *
 generalize t%dJ=c at *
 generalize t/dJ=s at *
 obtain ⟨p,rfl,e1⟩:=G6 (f:=fun p=>@Nat.rec (fun _=>Nat) 0 (fun q _=>@Bool.rec (fun _=>Nat) 0 (Oy p q) (E p q)) s) c h
 rw [e1] at h ⊢
 obtain ⟨q,rfl,e2⟩:=G6 (f:=fun q=>@Bool.rec (fun _=>Nat) 0 (Oy p q) (E p q)) s h
 rw [e2] at h ⊢
 obtain ⟨e3,e4⟩:=Nu (x:=Oy p q) (E p q) h;rw [e4];exact ⟨⟨by omega,by omega,e3⟩,rfl⟩
section
variable (G:Nat->Prop) (f:Nat->Nat)
def wX:Nat->Nat->Nat->Prop
 | 0,t,v=>v=t
 | n+1,t,v=>G t/\wX n (f t) v
def Bq:Nat->Nat->Nat
 | 0,t=>t
 | n+1,t=>Bq n (f t)
theorem wE:∀ (n t:Nat),Bq f (n+1) t=f (Bq f n t)
 | 0,_=>rfl
 | n+1,t=>wE n (f t)
theorem Jl {t:Nat} (g:G t):wX G f 1 t (f t):=⟨g,rfl⟩
theorem Jb {t u v:Nat} {m n:Nat} (h:wX G f m t u) (k:wX G f n u v):wX G f (n+m) t v:=by
 induction m generalizing t with
 | zero=>have h:u=t:=h;subst h;exact k
 | succ m ih=>exact ⟨h.1,ih h.2⟩
theorem ES {n t v:Nat} (h:wX G f n t v):∀ j,j<n->G (Bq f j t):=by
 induction n generalizing t with
 | zero=>intro j hj;omega
 | succ n ih =>
  intro j hj;cases j with
  | zero=>exact h.1
  | succ j=>exact ih h.2 j (by omega)
end
def Walk (n t v:Nat):Prop:=wX sW stp n t v
theorem ai {t u v:Nat} {m n:Nat} (h:Walk m t u) (k:Walk n u v):Walk (n+m) t v:=Jb sW stp h k
theorem iP {m n t v:Nat} (e:m=n) (h:Walk m t v):Walk n t v:=e ▸ h
theorem KW {t u:Nat} (g:sW t) (e:u=stp t):Walk 1 t u:=e ▸ Jl sW stp g
attribute [irreducible] Walk stp
theorem Ak:∀ (k t:Nat),it k t≠0->Walk (2^k) t (it k t)
 | 0,t,h=>by
  obtain ⟨g,e⟩:=JP t h;exact KW g e
 | k+1,t,h=>by
  rw [Qf] at h ⊢
  cases hv:it k t with
  | zero=>rw [hv] at h;exact absurd rfl h
  | succ v =>
   rw [hv] at h;have a:=Ak k t (by omega)
   have b:=Ak k (v+1) h;rw [hv] at a;have c:=ai a b;exact iP (by rw [Nat.pow_succ];omega) c
theorem UJ (k t v:Nat) (hv:0<v) (h:Nat.beq (it k t) v=true):Walk (2^k) t v:=by
 have e:=Nat.eq_of_beq_eq_true h;have:=Ak k t (by omega)
 rw [e] at this;exact this
def Chk (k t v:Nat):Prop:=Nat.beq (it k t) v=true
noncomputable instance chkDec (k t v:Nat):Decidable (Chk k t v):=inferInstanceAs (Decidable (Nat.beq (it k t) v=true))
theorem ah (k t v:Nat) (hv:Nat.ble 1 v=true) (h:Chk k t v):Walk (2^k) t v:=UJ k t v (Nat.le_of_ble_eq_true hv) h
def FN (n t:Nat):Nat:=Bq stp n t
theorem Iu (n t:Nat):FN (n+1) t=stp (FN n t):=wE stp n t
theorem Kb {n t v:Nat} (h:Walk n t v):∀ j,j<n->sW (FN j t):=by
 unfold Walk at h;exact ES sW stp h
attribute [irreducible] it stpB eu
