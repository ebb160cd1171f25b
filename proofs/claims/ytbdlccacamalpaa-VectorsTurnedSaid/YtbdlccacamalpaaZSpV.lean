/- What of SpN only some laws need. -/
import Derived.Test.YtbdlccacamalpaaZWidesB
import Derived.Test.YtbdlccacamalpaaZSpN
set_option linter.unusedVariables false
set_option linter.unusedSimpArgs false
namespace Go.Proofs.Ytbdlccacamalpaa
open Go.RowKit Alm Sx
end Go.Proofs.Ytbdlccacamalpaa
namespace Go.Proofs.Ytbdlccacamalpaa
open Go.RowKit Alm Sx
theorem ET (a b:Int):0<=(az 3 [a,b]).getD 1 0:=by
 show 0<=fJ (sqL a b) (sqH a b);unfold fJ;split
 . rename_i h
   have:0<=sqL a b:=by
    unfold sqL;split
    . decide
    . have h1:0<=a*a:=by
       rcases Int.le_total 0 a with q|q
       . exact Int.mul_nonneg q q
       . have:=Int.mul_nonneg (show 0<=-a by omega) (show 0<=-a by omega);rwa [Int.neg_mul_neg] at this
      have h2:0<=b*b:=by
       rcases Int.le_total 0 b with q|q
       . exact Int.mul_nonneg q q
       . have:=Int.mul_nonneg (show 0<=-b by omega) (show 0<=-b by omega);rwa [Int.neg_mul_neg] at this
      omega
   omega
 . exact Int.le_refl _
theorem DN {a b c d:Int} (hb:0<=b) (hd:0<=d):0<=(az 1 [a,b,c,d]).getD 1 0:=by
 show 0<=fJ (a+c) (b+d);unfold fJ;split<;>omega
theorem Ef (a b:Int):0<=(az 4 [a,b]).getD 0 0:=by
 show 0<=fU (rtL a b) (rtH a b);unfold fU;split
 . rename_i h
   unfold rtL at *
   by_cases q:max 0 a*1073741824<=2305843009213693952
   . exact (gV _ (by omega) q).1
   . have z:∀ (j:Nat) (k n:Int),0<=k->0<=rtF j k n:=by
      intro j
      induction j with
      | zero=>intro k n hk;exact hk
      | succ j ih =>
       intro k n hk;rw [qJ];have hp:(0:Int)<2^j:=Int.pow_pos (by decide)
       split
       . exact ih _ _ (by omega)
       . exact ih _ _ hk
     exact z 32 0 _ (Int.le_refl _)
 . exact Int.le_refl _
end Go.Proofs.Ytbdlccacamalpaa
namespace Go.Proofs.Ytbdlccacamalpaa
open Go.RowKit Alm Sx
theorem fxG {f:Nat} (hf:f<=6) (xs:List Int):fxV ((az f xs).getD 0 0) ((az f xs).getD 1 0)=true:=by
 unfold az;split
 all_goals first
  | exact (rD _ _).2.2
  | exact N9 _ _
  | omega
  | rfl
theorem Ei (args:List Int):rH (cxB args):=⟨fun _ _ _=>rfl,fun _ _ _ h=>h⟩
theorem bg (args:List Int):lJ (cxB args) EO:=Am (Ei args)
def BX (a b:Rf):List (Rf × Rf)->Bool
 | []=>false
 | (x,y)::l=>(Rf.eq x a&&Rf.eq y b) || BX a b l
theorem qL {a b:Rf}:∀ {l:List (Rf × Rf)},BX a b l=true->(a,b)∈l
 | (x,y)::l,h=>by
  simp only [BX,Bool.or_eq_true,Bool.and_eq_true] at h;rcases h with ⟨h,k⟩|h
  . rw [Rf.eq_eq h,Rf.eq_eq k];exact List.mem_cons_self ..
  . exact List.mem_cons_of_mem _ (qL h)
def gF (t:Tab) (av:List (Rf × Rf)):Nat->Rf->Rf->Bool
 | _,.c x,.c y=>fxV x y
 | 0,_,_=>false
 | n+1,a,b=>BX a b av || (match iW a t with
  | some (.app f 0 xs)=>(match iW b t with
   | some (.app g 1 ys)=>Nat.beq f g&&(Nat.ble f 6&&lX xs ys)
   | _=>false)
  | some (.ite c p x)=>(match iW b t with
   | some (.ite d q y)=>Rf.eq c d&&(gF t av n p q&&gF t av n x y)
   | _=>false)
  | _=>false)
theorem jM {X:Cx} (L:rH X) {v:Nat->Int} {t:Tab} (ht:gM X v t) {av:List (Rf × Rf)} (ha:∀ p∈av,fxV (p.1.val v) (p.2.val v)=true):∀ (n:Nat) (a b:Rf),gF t av n a b=true->fxV (a.val v) (b.val v)=true:=by
 intro n
 induction n with
 | zero =>
  intro a b h;cases a<;>cases b<;>simp only [gF] at h
  . exact h
  all_goals cases h
 | succ n ih =>
  intro a b h
  have key:(BX a b av || (match iW a t with
   | some (.app f 0 xs)=>(match iW b t with
    | some (.app g 1 ys)=>Nat.beq f g&&(Nat.ble f 6&&lX xs ys)
    | _=>false)
   | some (.ite c p x)=>(match iW b t with
    | some (.ite d q y)=>Rf.eq c d&&(gF t av n p q&&gF t av n x y)
    | _=>false)
   | _=>false))=true->fxV (a.val v) (b.val v)=true:=by
   intro h;rw [Bool.or_eq_true] at h;rcases h with h|h
   . exact ha _ (qL h)
   . split at h
     . rename_i f xs hd
       split at h
       . rename_i g ys hb
         simp only [Bool.and_eq_true] at h;obtain ⟨h1,h2,h3⟩:=h;have hfg:=Nat.eq_of_beq_eq_true h1;subst hfg;have hxy:=kZ h3;subst hxy;have hf6:=Nat.le_of_ble_eq_true h2;have e1:a.val v=(az f (xs.map (Rf.val v))).getD 0 0:=L.at (by omega) (bK ht hd)
         have e2:b.val v=(az f (xs.map (Rf.val v))).getD 1 0:=L.at (by omega) (bK ht hb)
         rw [e1,e2];exact fxG (Nat.le_of_ble_eq_true h2) _
       . cases h
     . rename_i c p x hd
       split at h
       . rename_i d q y hb
         simp only [Bool.and_eq_true] at h;obtain ⟨h1,h2,h3⟩:=h;have e1:a.val v=if c.val v≠0 then p.val v else x.val v:=bK ht hd
         have e2:b.val v=if d.val v≠0 then q.val v else y.val v:=bK ht hb
         rw [e1,e2,<-Rf.eq_eq h1];split
         . exact ih _ _ h2
         . exact ih _ _ h3
       . cases h
     . cases h
  cases a<;>cases b<;>simp only [gF] at h
  . exact h
  all_goals exact key h
def vK (t:Tab):Nat->Rf->Bool
 | _,.c z=>decide (0<=z)
 | 0,_=>false
 | n+1,a=>match iW a t with
  | some (.app 3 1 _)=>true
  | some (.app 4 0 _)=>true
  | some (.app 1 1 [_,b,_,d])=>vK t n b&&vK t n d
  | some (.ite _ p x)=>vK t n p&&vK t n x
  | _=>false
theorem NV (xs:List Int):0<=(az 3 xs).getD 1 0:=by
 match xs with
 | [a,b]=>exact ET a b
 | []=>exact Int.le_refl _
 | [_]=>exact Int.le_refl _
 | _::_::_::_=>exact Int.le_refl _
theorem OJ (xs:List Int):0<=(az 4 xs).getD 0 0:=by
 match xs with
 | [a,b]=>exact Ef a b
 | []=>exact Int.le_refl _
 | [_]=>exact Int.le_refl _
 | _::_::_::_=>exact Int.le_refl _
theorem Hq {X:Cx} (L:rH X) {v:Nat->Int} {t:Tab} (ht:gM X v t):∀ (n:Nat) (a:Rf),vK t n a=true->0<=a.val v:=by
 intro n
 induction n with
 | zero =>
  intro a h;cases a<;>simp only [vK] at h
  . exact of_decide_eq_true h
  . cases h
 | succ n ih =>
  intro a h;cases a with
  | c z=>simp only [vK] at h;exact of_decide_eq_true h
  | n i =>
   simp only [vK] at h;split at h
   . rename_i xs hd
     have e:(Rf.n i).val v=(az 3 (xs.map (Rf.val v))).getD 1 0:=L.at (by omega) (bK ht hd)
     rw [e];exact NV _
   . rename_i xs hd
     have e:(Rf.n i).val v=(az 4 (xs.map (Rf.val v))).getD 0 0:=L.at (by omega) (bK ht hd)
     rw [e];exact OJ _
   . rename_i a b c d hd
     simp only [Bool.and_eq_true] at h;have e:(Rf.n i).val v=(az 1 [a.val v,b.val v,c.val v,d.val v]).getD 1 0:=L.at (by omega) (bK ht hd)
     rw [e];exact DN (ih _ h.1) (ih _ h.2)
   . rename_i c p x hd
     simp only [Bool.and_eq_true] at h;have e:(Rf.n i).val v=if c.val v≠0 then p.val v else x.val v:=bK ht hd
     rw [e];split
     . exact ih _ h.1
     . exact ih _ h.2
   . cases h
abbrev yH:=(Rf × Bool) × (Rf × Rf)
def uH (r:Rf) (b:Bool):Path->Bool
 | []=>false
 | (x,c)::l=>(Rf.eq x r&&(b==c)) || uH r b l
theorem oN {r:Rf} {b:Bool}:∀ {p:Path},uH r b p=true->(r,b)∈p
 | (x,c)::l,h=>by
  simp only [uH,Bool.or_eq_true,Bool.and_eq_true] at h;rcases h with ⟨h,k⟩|h
  . rw [Rf.eq_eq h,eq_of_beq k];exact List.mem_cons_self ..
  . exact List.mem_cons_of_mem _ (oN h)
def gN (p:Path):List yH->List (Rf × Rf)
 | []=>[]
 | e::l=>if uH e.1.1 e.1.2 p then e.2::gN p l else gN p l
theorem gK {p:Path} {q:Rf × Rf}:∀ {fs:List yH},q∈gN p fs->∃ e∈fs,e.2=q/\e.1∈p
 | e::l,h=>by
  simp only [gN] at h;split at h
  . rename_i hp
    rcases List.mem_cons.1 h with rfl|h
    . exact ⟨e,List.mem_cons_self ..,rfl,oN hp⟩
    . obtain ⟨e',a,b⟩:=gK h;exact ⟨e',List.mem_cons_of_mem _ a,b⟩
  . obtain ⟨e',a,b⟩:=gK h;exact ⟨e',List.mem_cons_of_mem _ a,b⟩
def DK (t:Tab) (av ar:List (Rf × Rf)) (f:Nat):List Rf->Bool
 | [a,b,c,d]=>(Nat.beq f 0 || (Nat.beq f 1 || (Nat.beq f 2 || Nat.beq f 7)))&&(gF t av 20 a b&&gF t av 20 c d)
 | [a,b]=>if Nat.beq f 8 then true else if Nat.beq f 3 then gF t av 20 a b else if Nat.beq f 4 then gF t av 20 a b&&vK t 20 b else (Nat.beq f 5 || Nat.beq f 6)&&BX a b ar
 | []=>Nat.beq f 20
 | _=>false
theorem DI {X:Cx} (L:rH X) {v:Nat->Int} {t:Tab} (ht:gM X v t) {av ar:List (Rf × Rf)} (ha:∀ p∈av,fxV (p.1.val v) (p.2.val v)=true) (hr:∀ p∈ar,dW (p.1.val v) (p.2.val v)=true) {f:Nat} {xs:List Rf} (h:DK t av ar f xs=true):X.pre f (xs.map (Rf.val v)):=by
 unfold DK at h;split at h
 . rename_i a b c d
   simp only [Bool.and_eq_true,Bool.or_eq_true] at h;obtain ⟨hf,h1,h2⟩:=h;have p1:=jM L ht ha _ _ _ h1;have p2:=jM L ht ha _ _ _ h2;rcases hf with q|q|q|q<;>(have:=Nat.eq_of_beq_eq_true q;subst this;exact L.pre _ _ (by omega) ⟨p1,p2⟩)
 . rename_i a b
   split at h
   . rename_i q;have:=Nat.eq_of_beq_eq_true q;subst this;exact L.pre _ _ (by omega) trivial
   . split at h
     . rename_i q;have:=Nat.eq_of_beq_eq_true q;subst this;exact L.pre _ _ (by omega) (jM L ht ha _ _ _ h)
     . split at h
       . rename_i q;have:=Nat.eq_of_beq_eq_true q;subst this
         simp only [Bool.and_eq_true] at h;exact L.pre _ _ (by omega) ⟨jM L ht ha _ _ _ h.1,Hq L ht _ _ h.2⟩
       . simp only [Bool.and_eq_true,Bool.or_eq_true] at h;have p:=hr _ (qL h.2);rcases h.1 with q|q<;>(have:=Nat.eq_of_beq_eq_true q;subst this;exact L.pre _ _ (by omega) p)
 . have:=Nat.eq_of_beq_eq_true h;subst this;exact L.pre _ _ (by omega) trivial
 . cases h
def Kv (n:Nat):List Nat->Bool
 | []=>false
 | x::l=>Nat.beq x n || Kv n l
def OY (s:Ns) (fs rs:List yH) (sk:List Nat) (c:Vc):Bool:=match c.k with
 | .pre f xs=>Kv f sk || DK s.tab (gN c.path fs) (gN c.path rs) f (xs.map s.rep)
 | _=>false
def Ay (s:Ns) (fs rs:List yH) (sk:List Nat):List Vc->Bool
 | []=>true
 | c::l=>OY s fs rs sk c&&Ay s fs rs sk l
def MP (nd:List Nd) (fs rs:List yH) (l:List Vc):Bool:=Ay (norm EO [] [] nd) fs rs [] l
theorem xP {X:Cx} (L:rH X) {v:Nat->Int} {s:Ns} (h:rY X v s) {fs rs:List yH} {sk:List Nat}
 (hf:∀ e∈fs,decide (e.1.1.val v≠0)=e.1.2->fxV (e.2.1.val v) (e.2.2.val v)=true) (hr:∀ e∈rs,decide (e.1.1.val v≠0)=e.1.2->dW (e.2.1.val v) (e.2.2.val v)=true):∀ (l:List Vc),(∀ c∈l,∀ f xs,c.k=.pre f xs->Kv f sk=true->c.holds X v)->Ay s fs rs sk l=true->∀ c∈l,c.holds X v
 | [],_,_=>fun c hc=>by cases hc
 | c::l,hk,ha=>by
  simp only [Ay,Bool.and_eq_true] at ha;intro d hd;rcases List.mem_cons.1 hd with rfl|hd
  . have h1:=ha.1;have hkd:=hk d (List.mem_cons_self ..);obtain ⟨path,k⟩:=d;unfold OY at h1;split at h1
    . rename_i f xs hk
      simp only at hk;subst hk;rw [Bool.or_eq_true] at h1;rcases h1 with h1|h1
      . exact hkd f xs rfl h1
      . intro hp
        have q:=DI L h.2.2 (av:=gN path fs) (ar:=gN path rs) (fun p hp'=>by
         obtain ⟨e,a,b,c⟩:=gK hp'
         rw [<-b];exact hf e a (hp _ c)) (fun p hp'=>by
         obtain ⟨e,a,b,c⟩:=gK hp'
         rw [<-b];exact hr e a (hp _ c)) h1
        rw [List.map_map] at q;have e:xs.map (Rf.val v ∘ s.rep)=xs.map (Rf.val v):=List.map_congr_left fun r _=>kE h r
        rw [e] at q;exact q
    . cases h1
  . exact xP L h hf hr l (fun c hc=>hk c (List.mem_cons_of_mem _ hc)) ha.2 d hd
theorem jF {args:List Int} {v:Nat->Int} {nd:List Nd} (hs:aI (cxB args) v nd.reverse) {fs rs:List yH} {l:List Vc}
 (hf:∀ e∈fs,decide (e.1.1.val v≠0)=e.1.2->fxV (e.2.1.val v) (e.2.2.val v)=true) (hr:∀ e∈rs,decide (e.1.1.val v≠0)=e.1.2->dW (e.2.1.val v) (e.2.2.val v)=true) (h:MP nd fs rs l=true):∀ c∈l,c.holds (cxB args) v :=
 xP (Ei args) (lg (bg args) hs bA bM) hf hr l (fun _ _ _ _ _ q=>by cases q) h
