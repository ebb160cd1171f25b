/- What of SpN only some laws need. -/
import Derived.Test.YtgmncdmcdgkodaaZWidesB
import Derived.Test.YtgmncdmcdgkodaaZSpN
set_option linter.unusedVariables false
set_option linter.unusedSimpArgs false
namespace Go.Proofs.Ytgmncdmcdgkodaa
open Go.RowKit Alm Sx
end Go.Proofs.Ytgmncdmcdgkodaa
namespace Go.Proofs.Ytgmncdmcdgkodaa
open Go.RowKit Alm Sx
theorem DN (a b:Int):0<=(ak 3 [a,b]).getD 1 0:=by
 show 0<=dY (sqL a b) (sqH a b);unfold dY;split
 . rename_i h
   have:0<=sqL a b:=by
    unfold sqL;split
    . decide
    . have h1:0<=a*a:=by
       rcases Int.le_total 0 a with q|q
       . exact Int.mul_nonneg q q
       . have:=Int.mul_nonneg (show 0<=-a by omega) (show 0<=-a by omega);rwa [Int.neg_mul_neg] at this
      have h2:0<=b*b:=by
       rcases Int.le_total 0 b with q|q
       . exact Int.mul_nonneg q q
       . have:=Int.mul_nonneg (show 0<=-b by omega) (show 0<=-b by omega);rwa [Int.neg_mul_neg] at this
      omega
   omega
 . exact Int.le_refl _
theorem Ev {a b c d:Int} (hb:0<=b) (hd:0<=d):0<=(ak 1 [a,b,c,d]).getD 1 0:=by
 show 0<=dY (a+c) (b+d);unfold dY;split<;>omega
theorem Du (a b:Int):0<=(ak 4 [a,b]).getD 0 0:=by
 show 0<=fB (rtL a b) (rtH a b);unfold fB;split
 . rename_i h
   unfold rtL at *
   by_cases q:max 0 a*1073741824<=2305843009213693952
   . exact (ko _ (by omega) q).1
   . have z:∀ (j:Nat) (k n:Int),0<=k->0<=rtF j k n:=by
      intro j
      induction j with
      | zero=>intro k n hk;exact hk
      | succ j ih =>
       intro k n hk;rw [oF];have hp:(0:Int)<2^j:=Int.pow_pos (by decide)
       split
       . exact ih _ _ (by omega)
       . exact ih _ _ hk
     exact z 32 0 _ (Int.le_refl _)
 . exact Int.le_refl _
end Go.Proofs.Ytgmncdmcdgkodaa
namespace Go.Proofs.Ytgmncdmcdgkodaa
open Go.RowKit Alm Sx
theorem fxG {f:Nat} (hf:f<=6) (xs:List Int):fxV ((ak f xs).getD 0 0) ((ak f xs).getD 1 0)=true:=by
 unfold ak;split
 all_goals first
  | exact (qf _ _).2.2
  | exact Mf _ _
  | omega
  | rfl
theorem EY (args:List Int):pO (cxB args):=⟨fun _ _ _=>rfl,fun _ _ _ h=>h⟩
theorem bi (args:List Int):kH (cxB args) CX:=za (EY args)
def AQ (a b:Rf):List (Rf × Rf)->Bool
 | []=>false
 | (x,y)::l=>(Rf.eq x a&&Rf.eq y b) || AQ a b l
theorem oH {a b:Rf}:∀ {l:List (Rf × Rf)},AQ a b l=true->(a,b)∈l
 | (x,y)::l,h=>by
  simp only [AQ,Bool.or_eq_true,Bool.and_eq_true] at h;rcases h with ⟨h,k⟩|h
  . rw [Rf.eq_eq h,Rf.eq_eq k];exact List.mem_cons_self ..
  . exact List.mem_cons_of_mem _ (oH h)
def fZ (t:Tab) (av:List (Rf × Rf)):Nat->Rf->Rf->Bool
 | _,.c x,.c y=>fxV x y
 | 0,_,_=>false
 | n+1,a,b=>AQ a b av || (match iL a t with
  | some (.app f 0 xs)=>(match iL b t with
   | some (.app g 1 ys)=>Nat.beq f g&&(Nat.ble f 6&&kM xs ys)
   | _=>false)
  | some (.ite c p x)=>(match iL b t with
   | some (.ite d q y)=>Rf.eq c d&&(fZ t av n p q&&fZ t av n x y)
   | _=>false)
  | _=>false)
theorem jI {X:Cx} (L:pO X) {v:Nat->Int} {t:Tab} (ht:gD X v t) {av:List (Rf × Rf)} (ha:∀ p∈av,fxV (p.1.val v) (p.2.val v)=true):∀ (n:Nat) (a b:Rf),fZ t av n a b=true->fxV (a.val v) (b.val v)=true:=by
 intro n
 induction n with
 | zero =>
  intro a b h;cases a<;>cases b<;>simp only [fZ] at h
  . exact h
  all_goals cases h
 | succ n ih =>
  intro a b h
  have key:(AQ a b av || (match iL a t with
   | some (.app f 0 xs)=>(match iL b t with
    | some (.app g 1 ys)=>Nat.beq f g&&(Nat.ble f 6&&kM xs ys)
    | _=>false)
   | some (.ite c p x)=>(match iL b t with
    | some (.ite d q y)=>Rf.eq c d&&(fZ t av n p q&&fZ t av n x y)
    | _=>false)
   | _=>false))=true->fxV (a.val v) (b.val v)=true:=by
   intro h;rw [Bool.or_eq_true] at h;rcases h with h|h
   . exact ha _ (oH h)
   . split at h
     . rename_i f xs hd
       split at h
       . rename_i g ys hb
         simp only [Bool.and_eq_true] at h;obtain ⟨h1,h2,h3⟩:=h;have hfg:=Nat.eq_of_beq_eq_true h1;subst hfg;have hxy:=lv h3;subst hxy;have hf6:=Nat.le_of_ble_eq_true h2;have e1:a.val v=(ak f (xs.map (Rf.val v))).getD 0 0:=L.at (by omega) (bA ht hd)
         have e2:b.val v=(ak f (xs.map (Rf.val v))).getD 1 0:=L.at (by omega) (bA ht hb)
         rw [e1,e2];exact fxG (Nat.le_of_ble_eq_true h2) _
       . cases h
     . rename_i c p x hd
       split at h
       . rename_i d q y hb
         simp only [Bool.and_eq_true] at h;obtain ⟨h1,h2,h3⟩:=h;have e1:a.val v=if c.val v≠0 then p.val v else x.val v:=bA ht hd
         have e2:b.val v=if d.val v≠0 then q.val v else y.val v:=bA ht hb
         rw [e1,e2,<-Rf.eq_eq h1];split
         . exact ih _ _ h2
         . exact ih _ _ h3
       . cases h
     . cases h
  cases a<;>cases b<;>simp only [fZ] at h
  . exact h
  all_goals exact key h
def tT (t:Tab):Nat->Rf->Bool
 | _,.c z=>decide (0<=z)
 | 0,_=>false
 | n+1,a=>match iL a t with
  | some (.app 3 1 _)=>true
  | some (.app 4 0 _)=>true
  | some (.app 1 1 [_,b,_,d])=>tT t n b&&tT t n d
  | some (.ite _ p x)=>tT t n p&&tT t n x
  | _=>false
theorem MU (xs:List Int):0<=(ak 3 xs).getD 1 0:=by
 match xs with
 | [a,b]=>exact DN a b
 | []=>exact Int.le_refl _
 | [_]=>exact Int.le_refl _
 | _::_::_::_=>exact Int.le_refl _
theorem Na (xs:List Int):0<=(ak 4 xs).getD 0 0:=by
 match xs with
 | [a,b]=>exact Du a b
 | []=>exact Int.le_refl _
 | [_]=>exact Int.le_refl _
 | _::_::_::_=>exact Int.le_refl _
theorem Gi {X:Cx} (L:pO X) {v:Nat->Int} {t:Tab} (ht:gD X v t):∀ (n:Nat) (a:Rf),tT t n a=true->0<=a.val v:=by
 intro n
 induction n with
 | zero =>
  intro a h;cases a<;>simp only [tT] at h
  . exact of_decide_eq_true h
  . cases h
 | succ n ih =>
  intro a h;cases a with
  | c z=>simp only [tT] at h;exact of_decide_eq_true h
  | n i =>
   simp only [tT] at h;split at h
   . rename_i xs hd
     have e:(Rf.n i).val v=(ak 3 (xs.map (Rf.val v))).getD 1 0:=L.at (by omega) (bA ht hd)
     rw [e];exact MU _
   . rename_i xs hd
     have e:(Rf.n i).val v=(ak 4 (xs.map (Rf.val v))).getD 0 0:=L.at (by omega) (bA ht hd)
     rw [e];exact Na _
   . rename_i a b c d hd
     simp only [Bool.and_eq_true] at h;have e:(Rf.n i).val v=(ak 1 [a.val v,b.val v,c.val v,d.val v]).getD 1 0:=L.at (by omega) (bA ht hd)
     rw [e];exact Ev (ih _ h.1) (ih _ h.2)
   . rename_i c p x hd
     simp only [Bool.and_eq_true] at h;have e:(Rf.n i).val v=if c.val v≠0 then p.val v else x.val v:=bA ht hd
     rw [e];split
     . exact ih _ h.1
     . exact ih _ h.2
   . cases h
abbrev xz:=(Rf × Bool) × (Rf × Rf)
def uW (r:Rf) (b:Bool):Path->Bool
 | []=>false
 | (x,c)::l=>(Rf.eq x r&&(b==c)) || uW r b l
theorem qO {r:Rf} {b:Bool}:∀ {p:Path},uW r b p=true->(r,b)∈p
 | (x,c)::l,h=>by
  simp only [uW,Bool.or_eq_true,Bool.and_eq_true] at h;rcases h with ⟨h,k⟩|h
  . rw [Rf.eq_eq h,eq_of_beq k];exact List.mem_cons_self ..
  . exact List.mem_cons_of_mem _ (qO h)
def gq (p:Path):List xz->List (Rf × Rf)
 | []=>[]
 | e::l=>if uW e.1.1 e.1.2 p then e.2::gq p l else gq p l
theorem gG {p:Path} {q:Rf × Rf}:∀ {fs:List xz},q∈gq p fs->∃ e∈fs,e.2=q/\e.1∈p
 | e::l,h=>by
  simp only [gq] at h;split at h
  . rename_i hp
    rcases List.mem_cons.1 h with rfl|h
    . exact ⟨e,List.mem_cons_self ..,rfl,qO hp⟩
    . obtain ⟨e',a,b⟩:=gG h;exact ⟨e',List.mem_cons_of_mem _ a,b⟩
  . obtain ⟨e',a,b⟩:=gG h;exact ⟨e',List.mem_cons_of_mem _ a,b⟩
def CQ (t:Tab) (av ar:List (Rf × Rf)) (f:Nat):List Rf->Bool
 | [a,b,c,d]=>(Nat.beq f 0 || (Nat.beq f 1 || (Nat.beq f 2 || Nat.beq f 7)))&&(fZ t av 20 a b&&fZ t av 20 c d)
 | [a,b]=>if Nat.beq f 8 then true else if Nat.beq f 3 then fZ t av 20 a b else if Nat.beq f 4 then fZ t av 20 a b&&tT t 20 b else (Nat.beq f 5 || Nat.beq f 6)&&AQ a b ar
 | []=>Nat.beq f 20
 | _=>false
theorem EI {X:Cx} (L:pO X) {v:Nat->Int} {t:Tab} (ht:gD X v t) {av ar:List (Rf × Rf)} (ha:∀ p∈av,fxV (p.1.val v) (p.2.val v)=true) (hr:∀ p∈ar,dA (p.1.val v) (p.2.val v)=true) {f:Nat} {xs:List Rf} (h:CQ t av ar f xs=true):X.pre f (xs.map (Rf.val v)):=by
 unfold CQ at h;split at h
 . rename_i a b c d
   simp only [Bool.and_eq_true,Bool.or_eq_true] at h;obtain ⟨hf,h1,h2⟩:=h;have p1:=jI L ht ha _ _ _ h1;have p2:=jI L ht ha _ _ _ h2;rcases hf with q|q|q|q<;>(have:=Nat.eq_of_beq_eq_true q;subst this;exact L.pre _ _ (by omega) ⟨p1,p2⟩)
 . rename_i a b
   split at h
   . rename_i q;have:=Nat.eq_of_beq_eq_true q;subst this;exact L.pre _ _ (by omega) trivial
   . split at h
     . rename_i q;have:=Nat.eq_of_beq_eq_true q;subst this;exact L.pre _ _ (by omega) (jI L ht ha _ _ _ h)
     . split at h
       . rename_i q;have:=Nat.eq_of_beq_eq_true q;subst this
         simp only [Bool.and_eq_true] at h;exact L.pre _ _ (by omega) ⟨jI L ht ha _ _ _ h.1,Gi L ht _ _ h.2⟩
       . simp only [Bool.and_eq_true,Bool.or_eq_true] at h;have p:=hr _ (oH h.2);rcases h.1 with q|q<;>(have:=Nat.eq_of_beq_eq_true q;subst this;exact L.pre _ _ (by omega) p)
 . have:=Nat.eq_of_beq_eq_true h;subst this;exact L.pre _ _ (by omega) trivial
 . cases h
def JU (n:Nat):List Nat->Bool
 | []=>false
 | x::l=>Nat.beq x n || JU n l
def P9 (s:Ns) (fs rs:List xz) (sk:List Nat) (c:Vc):Bool:=match c.k with
 | .pre f xs=>JU f sk || CQ s.tab (gq c.path fs) (gq c.path rs) f (xs.map s.rep)
 | _=>false
def zo (s:Ns) (fs rs:List xz) (sk:List Nat):List Vc->Bool
 | []=>true
 | c::l=>P9 s fs rs sk c&&zo s fs rs sk l
def Lc (nd:List Nd) (fs rs:List xz) (l:List Vc):Bool:=zo (norm CX [] [] nd) fs rs [] l
theorem wL {X:Cx} (L:pO X) {v:Nat->Int} {s:Ns} (h:rC X v s) {fs rs:List xz} {sk:List Nat}
 (hf:∀ e∈fs,decide (e.1.1.val v≠0)=e.1.2->fxV (e.2.1.val v) (e.2.2.val v)=true) (hr:∀ e∈rs,decide (e.1.1.val v≠0)=e.1.2->dA (e.2.1.val v) (e.2.2.val v)=true):∀ (l:List Vc),(∀ c∈l,∀ f xs,c.k=.pre f xs->JU f sk=true->c.holds X v)->zo s fs rs sk l=true->∀ c∈l,c.holds X v
 | [],_,_=>fun c hc=>by cases hc
 | c::l,hk,ha=>by
  simp only [zo,Bool.and_eq_true] at ha;intro d hd;rcases List.mem_cons.1 hd with rfl|hd
  . have h1:=ha.1;have hkd:=hk d (List.mem_cons_self ..);obtain ⟨path,k⟩:=d;unfold P9 at h1;split at h1
    . rename_i f xs hk
      simp only at hk;subst hk;rw [Bool.or_eq_true] at h1;rcases h1 with h1|h1
      . exact hkd f xs rfl h1
      . intro hp
        have q:=EI L h.2.2 (av:=gq path fs) (ar:=gq path rs) (fun p hp'=>by
         obtain ⟨e,a,b,c⟩:=gG hp'
         rw [<-b];exact hf e a (hp _ c)) (fun p hp'=>by
         obtain ⟨e,a,b,c⟩:=gG hp'
         rw [<-b];exact hr e a (hp _ c)) h1
        rw [List.map_map] at q;have e:xs.map (Rf.val v ∘ s.rep)=xs.map (Rf.val v):=List.map_congr_left fun r _=>jR h r
        rw [e] at q;exact q
    . cases h1
  . exact wL L h hf hr l (fun c hc=>hk c (List.mem_cons_of_mem _ hc)) ha.2 d hd
theorem jA {args:List Int} {v:Nat->Int} {nd:List Nd} (hs:aC (cxB args) v nd.reverse) {fs rs:List xz} {l:List Vc}
 (hf:∀ e∈fs,decide (e.1.1.val v≠0)=e.1.2->fxV (e.2.1.val v) (e.2.2.val v)=true) (hr:∀ e∈rs,decide (e.1.1.val v≠0)=e.1.2->dA (e.2.1.val v) (e.2.2.val v)=true) (h:Lc nd fs rs l=true):∀ c∈l,c.holds (cxB args) v :=
 wL (EY args) (kS (bi args) hs bI ek) hf hr l (fun _ _ _ _ _ q=>by cases q) h
