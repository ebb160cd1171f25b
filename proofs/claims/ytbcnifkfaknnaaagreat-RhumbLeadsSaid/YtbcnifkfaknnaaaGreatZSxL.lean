/- A symbolic run of Go code without dynamic loops: one operation of a region. -/
import Derived.Test.YtbcnifkfaknnaaaGreatZSxA
import Derived.LoopN
import Derived.Scope
set_option linter.unusedVariables false
set_option linter.unusedSimpArgs false
namespace Sx
open Go Go.RowKit
section
variable {P:Program} {X:Cx} {v:Nat->Int}
def bA (v:Nat->Int) (ρ:Nat->Option Nat) (x:Sl) (y:Value):Prop:=(PT v x.cond->aR v ρ x.v y)/\(¬ PT v x.cond->y=undef)
theorem bA.mono {ρ ρ':Nat->Option Nat} {x:Sl} {y:Value} (hm:∀ b n,ρ b=some n->ρ' b=some n) (h:bA v ρ x y):bA v ρ' x y :=
 ⟨fun hp=>aR.mono (fun b _ n=>hm b n) (h.1 hp),h.2⟩
theorem bA.top (ρ:Nat->Option Nat) (y:Value):bA v ρ ⟨[],.top⟩ y:=⟨fun _=>trivial,fun h=>absurd (fun x hx=>by cases hx) h⟩
theorem qC {s:List Sl} {t:Nat} (h:s.length<=t):bO s t=⟨[],.top⟩:=by
 unfold bO;rw [List.getD_eq_getElem?_getD,List.getElem?_eq_none h];rfl
theorem PT.nil:PT v []:=fun x hx=>by cases hx
theorem PT.append {p q:Path}:PT v (p++q)↔PT v p/\PT v q:=by
 unfold PT
 constructor
 . intro h;exact ⟨fun x hx=>h x (List.mem_append_left _ hx),fun x hx=>h x (List.mem_append_right _ hx)⟩
 . intro h x hx;rcases List.mem_append.1 hx with h1|h1
   . exact h.1 x h1
   . exact h.2 x h1
theorem PT.cons {p:Path} {r:Rf} {b:Bool}:PT v ((r,b)::p)↔decide (r.val v≠0)=b/\PT v p:=by
 unfold PT
 constructor
 . intro h;exact ⟨h _ (List.mem_cons_self ..),fun x hx=>h x (List.mem_cons_of_mem _ hx)⟩
 . intro h x hx;rcases List.mem_cons.1 hx with rfl|h1
   . exact h.1
   . exact h.2 x h1
theorem cZ {ρ:Nat->Option Nat} {s:List Sl} {A:Path} {a:Act} (hA:PT v A) {x:Operand} {sv:SV} (h:gI s A x=some sv) (hr:∀ t,x=.tmp t->bA v ρ (bO s t) (a.tmps.getD t undef)):aR v ρ sv (a.eval x):=by
 cases x with
 | tmp t =>
  simp only [gI] at h;split at h
  . rename_i hc
    cases h;refine (hr t rfl).1 fun x hx=>hA x ?_
    have:=List.all_eq_true.1 hc x hx;exact List.contains_iff_mem.1 this
  . cases h
 | const c=>exact LH h
 | global g=>cases h
 | func f=>cases h;exact ⟨[],.nil,rfl⟩
theorem gJ {t:Nat}:∀ {l:List Operand},Operand.tmp t∈l->t∈tmpsOf l
 | .tmp u::l,h=>by
  rcases List.mem_cons.1 h with h|h
  . cases h;exact List.mem_cons_self ..
  . exact List.mem_cons_of_mem _ (gJ h)
 | .const _::l,h=>by
  rcases List.mem_cons.1 h with h|h
  . cases h
  . show t∈tmpsOf l;exact gJ h
 | .global _::l,h=>by
  rcases List.mem_cons.1 h with h|h
  . cases h
  . show t∈tmpsOf l;exact gJ h
 | .func _::l,h=>by
  rcases List.mem_cons.1 h with h|h
  . cases h
  . show t∈tmpsOf l;exact gJ h
theorem gV {a:Act} {d:Option Tmp} {y:Value} {t:Nat} (h:t ∉ d.toList):(a.put d y).tmps.getD t undef=a.tmps.getD t undef:=by
 cases d with
 | none=>rfl
 | some d =>
  have hne:d≠t:=fun e=>h (by simp [e])
  simp [Act.put,Array.getD_eq_getD_getElem?,Array.getElem?_setIfInBounds_ne hne]
theorem lH {a:Act} {d:Option Tmp} {y:Value}:(a.put d y).tmps.size=a.tmps.size:=by
 cases d<;>simp [Act.put]
theorem put_defers {a:Act} {d:Option Tmp} {y:Value}:(a.put d y).defers=a.defers:=by
 cases d<;>rfl
theorem il {s:List Sl} {d:Option Nat} {x:Sl}:(setSlot s d x).length=s.length:=by cases d<;>simp [setSlot]
theorem kg {s:List Sl} {d:Option Nat} {x:Sl} {t:Nat} (h:t ∉ d.toList):bO (setSlot s d x) t=bO s t:=by
 cases d with
 | none=>rfl
 | some d =>
  have hne:d≠t:=fun e=>h (by simp [e])
  simp [setSlot,bO,List.getD_eq_getElem?_getD,List.getElem?_set_ne hne]
theorem ik {ρ:Nat->Option Nat} {s:List Sl} {a:Act} {d:Option Nat} {x:Sl} {y:Value} (hs:a.tmps.size=s.length) (h:bA v ρ x y) {t:Nat} (ht:t∈d.toList):bA v ρ (bO (setSlot s d x) t) ((a.put d y).tmps.getD t undef):=by
 cases d with
 | none=>cases ht
 | some d =>
  have:t=d:=by simpa using ht
  subst this
  by_cases hlt:t<s.length
  . have e1:bO (setSlot s (some t) x) t=x:=by simp [setSlot,bO,List.getD_eq_getElem?_getD,hlt]
    have e2:(a.put (some t) y).tmps.getD t undef=y:=by simp [Act.put,Array.getD_eq_getD_getElem?,hs,hlt]
    rw [e1,e2];exact h
  . rw [qC (by rw [il];omega)]
    exact bA.top _ _
structure nA (P:Program) (v:Nat->Int) (A:Nat->Prop) (ops:Array Oper) (base:Nat) (i:Nat) (s s':St) (f:Fp):Prop where
 len:s'.slots.length=s.slots.length
 slot:∀ t,t ∉ f.ws->bO s'.slots t=bO s.slots t
 mem:∀ b,b ∉ f.wb->aM b s'.mem=aM b s.mem
 run:∀ (ρ:Nat->Option Nat) (a:Act) (w:World) (Q:Exit->Act->World->Prop) (K:Act->World->Prop),
  a.tmps.size=s.slots.length->(∀ t∈f.rs,bA v ρ (bO s.slots t) (a.tmps.getD t undef)) ->
  (∀ b∈f.rb,∀ k,aM b s.mem=some k->gy v ρ A w k)->Inv ρ w->ρ (base+i)=none->(∀ b,base+ops.size<=b->ρ b=none)->(∀ n,w.heap.size<=n->A n) ->
  (∀ (ρ':Nat->Option Nat) (a':Act) (w':World),a'.tmps.size=a.tmps.size->a'.defers=a.defers->(∀ t,t ∉ f.ws->a'.tmps.getD t undef=a.tmps.getD t undef) ->
   (∀ t∈f.ws,bA v ρ' (bO s'.slots t) (a'.tmps.getD t undef))->(∀ b n,ρ b=some n->ρ' b=some n)->(∀ b,b≠base+i->ρ' b=ρ b)->Inv ρ' w' ->
   (∀ b∈f.wb,∀ k,aM b s'.mem=some k->gy v ρ' A w' k)->(∀ b∈f.wb,∀ n,ρ b=some n->A n)->Grow (fun m=>∃ b∈f.wb,ρ b=some m) w w'->K a' w') ->
  wpOp P ops Q i K a w
theorem lG {ops:Array Oper} {s:List Sl} {o:Oper} {A:Path} {live:Bool} (h:guardOf ops s o=some (A,live)) {ρ:Nat->Option Nat} {a:Act} (hs:a.tmps.size=s.length)
 (hr:∀ t∈(match o.guard with|some (j,_)=>((ops[j]?).bind (·.dst)).toList|none=>[]),bA v ρ (bO s t) (a.tmps.getD t undef)) :
 (PT v A->Region.wanted o (yielded ops a.tmps)=true/\live=true)/\(¬ PT v A->Region.wanted o (yielded ops a.tmps)=false):=by
 unfold guardOf at h;cases hg:o.guard with
 | none =>
  rw [hg] at h;cases h;exact ⟨fun _=>⟨by simp [Region.wanted,hg],rfl⟩,fun h=>absurd PT.nil h⟩
 | some gw =>
  obtain ⟨j,want⟩:=gw;rw [hg] at h hr;simp only at h hr;cases hd:(ops[j]?).bind (·.dst) with
  | none=>rw [hd] at h;cases h
  | some d =>
   rw [hd] at h hr;simp only at h;have hsl:=hr d (by simp)
   have hy:∀ y,a.tmps.getD d undef=y->d<s.length->yielded ops a.tmps j=match y with|.bool b=>some b|_=>none:=fun y hy hlt=>by
    unfold yielded;rw [hd];have hlt':d<a.tmps.size:=by rw [hs];exact hlt
    simp only [Option.bind_some,Array.getElem?_eq_getElem hlt'];have:a.tmps[d]=y:=by rw [<-hy];simp [Array.getD_eq_getD_getElem?,Array.getElem?_eq_getElem hlt']
    rw [this];cases y<;>rfl
   have hlt:∀ c sv,bO s d=⟨c,.p sv⟩->d<s.length:=fun c sv e=>by
    apply Decidable.byContradiction;intro hn;rw [qC (Nat.le_of_not_lt hn)] at e;cases e
   have wan:Region.wanted o (yielded ops a.tmps)=(yielded ops a.tmps j==some want):=by simp [Region.wanted,hg]
   split at h
   . rename_i c z hsd
     rw [hsd] at hsl;have hl:=hlt _ _ hsd;have run1:PT v c->yielded ops a.tmps j=some (decide (z≠0)):=fun hc=>by
      rw [hy _ (hsl.1 hc) hl];rfl
     have run2:¬ PT v c->yielded ops a.tmps j=none:=fun hc=>by rw [hy _ (hsl.2 hc) hl];rfl
     split at h
     . rename_i hz
       cases h;refine ⟨fun hA=>⟨?_,rfl⟩,fun hA=>?_⟩
       . rw [wan,run1 hA,hz];simp
       . rw [wan,run2 hA];simp
     . rename_i hz
       cases h;refine ⟨fun hA=>absurd (PT.cons.1 hA).1 hz,fun hA=>?_⟩
       rw [wan]
       by_cases hc:PT v c
       . rw [run1 hc]
         simpa using hz
       . rw [run2 hc];simp
   . rename_i c r hnc hsd
     rw [hsd] at hsl;have hl:=hlt _ _ hsd;have run1:PT v c->yielded ops a.tmps j=some (decide (r.val v≠0)):=fun hc=>by
      rw [hy _ (hsl.1 hc) hl]
     have run2:¬ PT v c->yielded ops a.tmps j=none:=fun hc=>by rw [hy _ (hsl.2 hc) hl];rfl
     cases h;refine ⟨fun hA=>⟨?_,rfl⟩,fun hA=>?_⟩
     . rw [PT.cons] at hA;rw [wan,run1 hA.2,hA.1];simp
     . rw [PT.cons] at hA;rw [wan]
       by_cases hc:PT v c
       . rw [run1 hc];have:¬ decide (r.val v≠0)=want:=fun e=>hA ⟨e,hc⟩
         simpa using this
       . rw [run2 hc];simp
   . cases h
theorem uJ {s:List Sl} {A:Path} {c x y:Operand} {o:Oper} (ho:o.op=.pick c x y):af X v (vG s A c x y) fun sv =>
 PT v A->∀ (ρ:Nat->Option Nat) (a:Act) (w:World),(∀ t,Operand.tmp t∈[c,x,y]->bA v ρ (bO s t) (a.tmps.getD t undef))->∃ z,(execOp a.eval o).run P w=.ok (.value z) w/\aR v ρ sv z:=by
 have hrun:∀ (a:Act) (w:World) (b:Bool),a.eval c=.bool b->(execOp a.eval o).run P w=.ok (.value (if b then a.eval x else a.eval y)) w:=fun a w b hb=>by
  unfold execOp;simp only [ho,hb];simp [asBool]
 unfold vG;refine af.bind af.opt fun p hp=>?_
 split
 . rename_i z
   refine af.ite (fun hz=>?_) (fun hz=>?_)
   . refine af.imp af.opt fun sv hsv hA ρ a w hr=>?_
     have hb:a.eval c=.bool (decide (z≠0)):=cZ hA hp fun t ht=>hr t (by simp [ht])
     refine ⟨_,hrun a w _ hb,?_⟩;simp only [hz,decide_true,if_true,ne_eq,not_false_eq_true];exact cZ (PT.cons.2 ⟨(decide_eq_true hz:decide ((Rf.c z).val v≠0)=true),hA⟩) hsv fun t ht=>hr t (by simp [ht])
   . refine af.imp af.opt fun sv hsv hA ρ a w hr=>?_
     have hb:a.eval c=.bool (decide (z≠0)):=cZ hA hp fun t ht=>hr t (by simp [ht])
     refine ⟨_,hrun a w _ hb,?_⟩;have hz':z=0:=by simpa using hz
     simp only [hz',ne_eq,not_true_eq_false,decide_false,Bool.false_eq_true,if_false];exact cZ (PT.cons.2 ⟨(by simp [fu,hz']:decide ((Rf.c z).val v≠0)=false),hA⟩) hsv fun t ht=>hr t (by simp [ht])
 . rename_i r hnr
   refine af.bind af.opt fun y1 hy1=>af.bind af.opt fun z1 hz1=>?_
   have main:∀ (A1:PT v A) (ρ:Nat->Option Nat) (a:Act) (w:World),(∀ t,Operand.tmp t∈[c,x,y]->bA v ρ (bO s t) (a.tmps.getD t undef)) ->
    (execOp a.eval o).run P w=.ok (.value (if decide (r.val v≠0) then a.eval x else a.eval y)) w/\(r.val v≠0->aR v ρ y1 (a.eval x))/\(r.val v=0->aR v ρ z1 (a.eval y)):=by
    intro hA ρ a w hr;have hb:a.eval c=.bool (decide (r.val v≠0)):=cZ hA hp fun t ht=>hr t (by simp [ht])
    exact ⟨hrun a w _ hb,fun h=>cZ (PT.cons.2 ⟨by simpa using h,hA⟩) hy1 fun t ht=>hr t (by simp [ht]),fun h=>cZ (PT.cons.2 ⟨by simp [h],hA⟩) hz1 fun t ht=>hr t (by simp [ht])⟩
   split
   . rename_i y2 z2
     refine af.bind (af.mkIte _ _ _) fun u hu=>af.pure fun hA ρ a w hr=>?_
     obtain ⟨h1,h2,h3⟩:=main hA ρ a w hr;refine ⟨_,h1,?_⟩;simp only [aR,bC,aO];rw [hu]
     by_cases h0:r.val v=0
     . have:=h3 h0;simp only [aR,bC,aO] at this;simp [h0,this]
     . have:=h2 h0;simp only [aR,bC,aO] at this;simp [h0,this]
   . rename_i k y2 j z2
     refine af.ite (fun hk=>?_) (fun _=>af.fail)
     subst hk;refine af.bind (af.mkIte _ _ _) fun u hu=>af.pure fun hA ρ a w hr=>?_
     obtain ⟨h1,h2,h3⟩:=main hA ρ a w hr;refine ⟨_,h1,?_⟩;simp only [aR,bC,aO];rw [hu]
     by_cases h0:r.val v=0
     . have:=h3 h0;simp only [aR,bC,aO] at this;simp [h0,this]
     . have:=h2 h0;simp only [aR,bC,aO] at this;simp [h0,this]
   . exact af.fail
 . exact af.fail
theorem IU {op:Op} {c x y:Operand} (h:EZ op=some (c,x,y)):op=.pick c x y:=by
 cases op<;>simp only [EZ,reduceCtorEq] at h
 cases h;rfl
theorem fV.weak {ρ:Nat->Option Nat} {A:Nat->Prop} {w:World} {m:List Bk} (h:∀ b k,aM b m=some k->gy v ρ A w k):fV v ρ (fun _=>True) w m:=fun b k hk=>by
 obtain ⟨n,ys,h1,_,h3⟩:=h b k hk;exact ⟨n,ys,h1,trivial,h3⟩
theorem xg {specs:List Spec} {rec:iG} (hs:∀ s∈specs,bR P X s) (hc:jZ P X v rec) (A0:Nat->Prop) (path:Path) (ops:Array Oper) (base i:Nat) (o:Oper) (hi:ops[i]? = some o) (s:St) :
 af X v (zA P specs rec path ops base i o s) fun r=>PT v path->nA P v A0 ops base i s r.1 r.2:=by
 have hin:i<ops.size:=by
  rcases Nat.lt_or_ge i ops.size with h|h
  . exact h
  . rw [Array.getElem?_eq_none h] at hi;cases hi
 unfold zA;refine af.bind af.opt fun g hg=>?_
 obtain ⟨A,live⟩:=g;simp only;have idle:∀ (m:List Bk) (sv:SV) (f:Fp),(∀ t∈(match o.guard with|some (j,_)=>((ops[j]?).bind (·.dst)).toList|none=>[]),t∈f.rs)->f.ws=o.dst.toList->∀ (ρ:Nat->Option Nat) (a:Act) (w:World) (Q:Exit->Act->World->Prop) (K:Act->World->Prop),
  a.tmps.size=s.slots.length->(∀ t∈f.rs,bA v ρ (bO s.slots t) (a.tmps.getD t undef))->¬ PT v A->K (a.put o.dst undef) w->wpOp P ops Q i K a w:=by
  intro m sv f hf1 hf2 ρ a w Q K hsz hr hA hK;unfold wpOp;rw [hi];have:=(lG hg hsz fun t ht=>hr t (hf1 t ht)).2 hA
  simp only [this,Bool.false_eq_true,if_false];exact hK
 have live1:∀ (f:Fp),(∀ t∈(match o.guard with|some (j,_)=>((ops[j]?).bind (·.dst)).toList|none=>[]),t∈f.rs)->∀ (ρ:Nat->Option Nat) (a:Act) (w:World) (Q:Exit->Act->World->Prop) (K:Act->World->Prop),
  a.tmps.size=s.slots.length->(∀ t∈f.rs,bA v ρ (bO s.slots t) (a.tmps.getD t undef))->PT v A->o.wp P a w K Q->wpOp P ops Q i K a w:=by
  intro f hf1 ρ a w Q K hsz hr hA hK;unfold wpOp;rw [hi];have:=((lG hg hsz fun t ht=>hr t (hf1 t ht)).1 hA).1
  simp only [this,if_true];exact Or.inl hK
 refine af.ite (fun hlive=>?_) (fun hlive=>?_)
 . split
   . rename_i c x y hpk
     have ho:=IU hpk;refine af.bind (uJ (P:=P) ho) fun sv hsv=>af.pure fun hp=>?_
     refine ⟨il,fun t ht=>kg ht,fun b _=>rfl,fun ρ a w Q K hsz hr hb hinv hn hfr hA0 hK=>?_⟩
     by_cases hA:PT v A
     . refine live1 _ (fun t ht=>List.mem_append_right _ ht) ρ a w Q K hsz hr hA ?_
       obtain ⟨z,h1,h2⟩:=hsv hA ρ a w fun t ht=>hr t (List.mem_append_left _ (gJ (by simpa [ho,Op.operands] using ht)))
       refine Does.value (R:=fun x w'=>x=z/\w'=w) h1 ⟨rfl,rfl⟩ K Q ?_
       rintro x w' ⟨rfl,rfl⟩;exact hK ρ _ _ lH put_defers (fun t ht=>gV ht) (fun t ht=>ik hsz ⟨fun _=>h2,fun h=>absurd hA h⟩ ht) (fun _ _ h=>h) (fun _ _=>rfl) hinv (fun b hb=>by cases hb) (fun b hb=>by cases hb) (Grow.refl _ _)
     . refine idle [] sv _ (fun t ht=>List.mem_append_right _ ht) rfl ρ a w Q K hsz hr hA ?_
       exact hK ρ _ _ lH put_defers (fun t ht=>gV ht) (fun t ht=>ik hsz ⟨fun h=>absurd h hA,fun _=>rfl⟩ ht) (fun _ _ h=>h) (fun _ _=>rfl) hinv (fun b hb=>by cases hb) (fun b hb=>by cases hb) (Grow.refl _ _)
   . refine af.ite (fun _=>af.fail) (fun heff=>?_)
     refine af.bind (zL hs hc (path++A) o _ _ (base+i) (base+ops.size)) fun r hr0=>?_
     obtain ⟨sv,m⟩:=r;simp only;have main:∀ (sm:List Bk) (rs:List Nat),(∀ t∈tmpsOf o.op.operands.toList++(match o.guard with|some (j,_)=>((ops[j]?).bind (·.dst)).toList|none=>[]),t∈rs)->(∀ b,b∈m.map (·.b)->aM b sm=aM b m)->PT v path->PT v A->∀ (ρ:Nat->Option Nat) (a:Act) (w:World) (Q:Exit->Act->World->Prop) (K:Act->World->Prop),
      a.tmps.size=s.slots.length->(∀ t∈rs,bA v ρ (bO s.slots t) (a.tmps.getD t undef)) ->
      (∀ b∈touched o (gI s.slots A),∀ k,aM b s.mem=some k->gy v ρ A0 w k)->Inv ρ w->ρ (base+i)=none->(∀ b,base+ops.size<=b->ρ b=none)->(∀ n,w.heap.size<=n->A0 n) ->
      (∀ (ρ':Nat->Option Nat) (a':Act) (w':World),a'.tmps.size=a.tmps.size->a'.defers=a.defers->(∀ t,t ∉ o.dst.toList->a'.tmps.getD t undef=a.tmps.getD t undef) ->
       (∀ t∈o.dst.toList,bA v ρ' (bO (setSlot s.slots o.dst ⟨A,sv⟩) t) (a'.tmps.getD t undef))->(∀ b n,ρ b=some n->ρ' b=some n)->(∀ b,b≠base+i->ρ' b=ρ b)->Inv ρ' w' ->
       (∀ b∈m.map (·.b),∀ k,aM b sm=some k->gy v ρ' A0 w' k)->(∀ b∈m.map (·.b),∀ n,ρ b=some n->A0 n)->Grow (fun x=>∃ b∈m.map (·.b),ρ b=some x) w w'->K a' w') ->
      wpOp P ops Q i K a w:=by
      intro sm rs hrs hsm hp hA ρ a w Q K hsz hr hb hinv hn hfr hA0 hK;refine live1 ⟨rs,[],[],[]⟩ (fun t ht=>hrs t (List.mem_append_right _ ht)) ρ a w Q K hsz hr hA ?_
      have hsub:∀ b k,aM b (dZ (touched o (gI s.slots A)) s.mem)=some k->gy v ρ A0 w k:=fun b k hk=>by
       obtain ⟨h1,h2⟩:=cO hk;exact hb b h2 k h1
      have hD:=hr0 (PT.append.2 ⟨hp,hA⟩) ρ a w (fun x hx sv hsv=>cZ hA hsv fun t ht=>hr t (hrs t (List.mem_append_left _ (gJ (by rw [<-ht];exact hx))))) hinv hn (by omega) hfr (fV.weak hsub)
      refine hD K Q ?_;rintro x w' ⟨ρ',hR⟩;have hallow:∀ b∈m.map (·.b),∀ n,ρ b=some n->A0 n:=by
       intro b hbm n hbn;obtain ⟨k,hkm,rfl⟩:=List.mem_map.1 hbm;rcases hR.names k hkm with h|⟨k',hk'⟩
       . rw [h,hn] at hbn;cases hbn
       . obtain ⟨n',ys,h1,h2,_⟩:=hsub _ _ hk'
         rw [dI hk',hbn] at h1;cases h1;exact h2
      refine hK ρ' _ _ lH put_defers (fun t ht=>gV ht) (fun t ht=>ik hsz ⟨fun _=>hR.val,fun h=>absurd hA h⟩ ht) hR.ext hR.only hR.inv ?_ hallow ?_
      . intro b hbm k hk;rw [hsm b hbm] at hk;obtain ⟨n,ys,h1,h2,h3⟩:=hR.mem b k hk;refine ⟨n,ys,h1,?_,h3⟩;rcases h2 with ⟨b',k',h4,h5⟩|h2
        . obtain ⟨n',_,h6,h7,_⟩:=hsub _ _ h4;rw [dI h4,h5] at h6;cases h6;exact h7
        . exact hA0 n h2
      . refine ⟨hR.grow.os,hR.grow.tape,hR.grow.output,hR.grow.size,fun n hn1 hn2=>hR.grow.block n hn1 ?_⟩
        rintro ⟨b,k,h1,h2⟩;exact hn2 ⟨b,List.mem_map.2 ⟨k,jY h1,dI h1⟩,h2⟩
     refine af.ite (fun hAe=>?_) (fun hAe=>?_)
     . have hA:PT v A:=by
        have:A=[]:=List.isEmpty_iff.1 hAe;rw [this];exact PT.nil
       refine af.pure fun hp=>⟨il,fun t ht=>kg ht,fun b hb=>?_,fun ρ a w Q K hsz hr hb hinv hn hfr hA0 hK=>?_⟩
       . show aM b (mO s.mem m)=_;rw [lC,rW hb]
       . refine main (mO s.mem m) _ (fun t ht=>ht) (fun b hb=>?_) hp hA ρ a w Q K hsz hr hb hinv hn hfr hA0 hK
         rw [lC];obtain ⟨k,hk,rfl⟩:=List.mem_map.1 hb;obtain ⟨k',hk'⟩:=bH hk;rw [hk']
     . refine af.ite (fun hm=>?_) (fun _=>af.fail)
       refine af.pure fun hp=>⟨il,fun t ht=>kg ht,fun b hb=>rfl,fun ρ a w Q K hsz hr hb hinv hn hfr hA0 hK=>?_⟩
       have hmem:∀ b,b∈m.map (·.b)->aM b s.mem=aM b m:=fun b hbm=>by
        rcases hm with rfl|rfl
        . obtain ⟨k,hk,rfl⟩:=List.mem_map.1 hbm;obtain ⟨k',hk'⟩:=bH hk;rw [hk',(cO hk').1]
        . cases hbm
       by_cases hA:PT v A
       . exact main s.mem _ (fun t ht=>ht) hmem hp hA ρ a w Q K hsz hr hb hinv hn hfr hA0 hK
       . refine idle [] sv _ (fun t ht=>List.mem_append_right _ ht) rfl ρ a w Q K hsz hr hA ?_
         have hsub:∀ b∈m.map (·.b),∀ k,aM b s.mem=some k->gy v ρ A0 w k:=fun b hbm k hk=>by
          rcases hm with rfl|rfl
          . obtain ⟨k0,hk0,rfl⟩:=List.mem_map.1 hbm;obtain ⟨k',hk'⟩:=bH hk0;exact hb _ (cO hk').2 k hk
          . cases hbm
         refine hK ρ _ _ lH put_defers (fun t ht=>gV ht) (fun t ht=>ik hsz ⟨fun h=>absurd h hA,fun _=>rfl⟩ ht) (fun _ _ h=>h) (fun _ _=>rfl) hinv hsub ?_ (Grow.refl _ _)
         intro b hbm n hbn;rcases hm with rfl|rfl
         . obtain ⟨k0,hk0,rfl⟩:=List.mem_map.1 hbm;obtain ⟨k',hk'⟩:=bH hk0;obtain ⟨n',ys,h1,h2,_⟩:=hsub _ hbm _ (cO hk').1;rw [dI hk',hbn] at h1;cases h1;exact h2
         . cases hbm
 . refine af.pure fun hp=>⟨il,fun t ht=>kg ht,fun b _=>rfl,fun ρ a w Q K hsz hr hb hinv hn hfr hA0 hK=>?_⟩
   have hA:¬ PT v A:=fun hA=>by
    have:=(lG hg hsz fun t ht=>hr t (List.mem_append_right _ ht)).1 hA
    exact hlive this.2
   refine idle [] .top _ (fun t ht=>List.mem_append_right _ ht) rfl ρ a w Q K hsz hr hA ?_
   exact hK ρ _ _ lH put_defers (fun t ht=>gV ht) (fun t ht=>ik hsz ⟨fun h=>absurd h hA,fun _=>rfl⟩ ht) (fun _ _ h=>h) (fun _ _=>rfl) hinv (fun b hb=>by cases hb) (fun b hb=>by cases hb) (Grow.refl _ _)
end
end Sx
namespace Sx
open Go Go.RowKit
section
variable {P:Program} {X:Cx} {v:Nat->Int}
theorem gy.carry {ρ ρ':Nat->Option Nat} {A:Nat->Prop} {w w':World} {k:Bk} {bs:List Nat} (h:gy v ρ A w k) (hi:Inv ρ w) (hm:∀ b n,ρ b=some n->ρ' b=some n) (hk:k.b ∉ bs) (g:Grow (fun m=>∃ b∈bs,ρ b=some m) w w'):gy v ρ' A w' k:=by
 obtain ⟨n,ys,h1,h2,h3,h4⟩:=h;refine ⟨n,ys,hm _ _ h1,h2,?_,oZ (fun b _ n hb=>hm b n hb) h4⟩
 rw [g.block n (hi.lt _ _ h1)]
 . exact h3
 . rintro ⟨b,hb,hb'⟩;exact hk (hi.inj _ _ _ h1 hb' ▸ hb)
structure iC (v:Nat->Int) (A F:Nat->Prop) (wS:World) (ρ0:Nat->Option Nat) (base n:Nat) (σ:Nat->St) (fp:Nat->Fp) (L:Nat->Prop) (ρ:Nat->Option Nat) (a:Act) (w:World):Prop where
 sz:a.tmps.size=(σ 0).slots.length
 df:a.defers=[]
 slot:∀ t m,m<=n->(∀ i,i<n->t∈(fp i).ws->(i<m↔L i))->bA v ρ (bO (σ m).slots t) (a.tmps.getD t undef)
 mem:∀ b m k,m<=n->(∀ i,i<n->b∈(fp i).wb->(i<m↔L i))->aM b (σ m).mem=some k->gy v ρ A w k
 inv:Inv ρ w
 fresh:∀ i,i<n->¬ L i->ρ (base+i)=none
 new:∀ b,base+n<=b->ρ b=none
 old:∀ b,b<base->ρ b=ρ0 b
 grow:Grow F wS w
theorem mP {xs ys:List Nat} {x:Nat} (h:x∈xs) (k:x∈ys):meets xs ys=true :=
 List.any_eq_true.2 ⟨x,h,List.contains_iff_mem.2 k⟩
theorem CW {a b:Fp} {t:Nat} (h:t∈a.ws) (k:t∈b.rs):clash a b=true:=by simp [clash,mP h k]
theorem BJ {a b:Fp} {t:Nat} (h:t∈a.ws) (k:t∈b.ws):clash a b=true:=by simp [clash,mP h k]
theorem Cv {a b:Fp} {t:Nat} (h:t∈a.wb) (k:t∈b.rb):clash a b=true:=by simp [clash,mP h k]
theorem Cu {a b:Fp} {t:Nat} (h:t∈a.wb) (k:t∈b.wb):clash a b=true:=by simp [clash,mP h k]
theorem gG (xs ys:List Nat):meets xs ys=meets ys xs:=by
 rw [Bool.eq_iff_iff];simp only [meets,List.any_eq_true,List.contains_iff_mem];exact ⟨fun ⟨x,h,k⟩=>⟨x,k,h⟩,fun ⟨x,h,k⟩=>⟨x,k,h⟩⟩
theorem Ec (a b:Fp):clash a b=clash b a:=by
 unfold clash;rw [gG a.ws b.rs,gG a.ws b.ws,gG a.rs b.ws,gG a.wb b.rb,gG a.wb b.wb,gG a.rb b.wb];cases meets b.rs a.ws<;>cases meets b.ws a.ws<;>cases meets b.ws a.rs<;>cases meets b.rb a.wb<;>cases meets b.wb a.wb<;>cases meets b.wb a.rb<;>rfl
section
variable {A F:Nat->Prop} {wS:World} {ρ0:Nat->Option Nat} {ops:Array Oper} {base:Nat} {σ:Nat->St} {fp:Nat->Fp}
theorem og (hst:∀ j,j<ops.size->nA P v A ops base j (σ j) (σ (j+1)) (fp j)) (t:Nat):∀ (c p:Nat),p+c<=ops.size->(∀ i,p<=i->i<p+c->t ∉ (fp i).ws)->bO (σ (p+c)).slots t=bO (σ p).slots t
 | 0,p,_,_=>rfl
 | c+1,p,hle,h=>by
  rw [show p+(c+1)=p+c+1 by omega,(hst (p+c) (by omega)).slot t (h _ (by omega) (by omega))]
  exact og hst t c p (by omega) fun i h1 h2=>h i h1 (by omega)
theorem qD (hst:∀ j,j<ops.size->nA P v A ops base j (σ j) (σ (j+1)) (fp j)) (b:Nat):∀ (c p:Nat),p+c<=ops.size->(∀ i,p<=i->i<p+c->b ∉ (fp i).wb)->aM b (σ (p+c)).mem=aM b (σ p).mem
 | 0,p,_,_=>rfl
 | c+1,p,hle,h=>by
  rw [show p+(c+1)=p+c+1 by omega,(hst (p+c) (by omega)).mem b (h _ (by omega) (by omega))]
  exact qD hst b c p (by omega) fun i h1 h2=>h i h1 (by omega)
theorem qJ (hst:∀ j,j<ops.size->nA P v A ops base j (σ j) (σ (j+1)) (fp j)):∀ j,j<=ops.size->(σ j).slots.length=(σ 0).slots.length
 | 0,_=>rfl
 | j+1,h=>by rw [(hst j (by omega)).len,qJ hst j (by omega)]
theorem iC.step (hst:∀ j,j<ops.size->nA P v A ops base j (σ j) (σ (j+1)) (fp j)) (hA:∀ n,A n->F n∨wS.heap.size<=n) (hA':∀ n,wS.heap.size<=n->A n) {L:Nat->Prop} {ρ:Nat->Option Nat} {a:Act} {w:World} {Q:Exit->Act->World->Prop} {K:Act->World->Prop} {j:Nat} (hj:j<ops.size) (hLj:¬ L j)
 (hcl:∀ i,i<ops.size->i≠j->clash (fp i) (fp j)=true->(i<j↔L i)) (h:iC v A F wS ρ0 base ops.size σ fp L ρ a w)
 (hK:∀ (ρ':Nat->Option Nat) (a':Act) (w':World),iC v A F wS ρ0 base ops.size σ fp (fun i=>L i∨i=j) ρ' a' w'->K a' w'):wpOp P ops Q j K a w:=by
 have S:=hst j hj;refine S.run ρ a w Q K (by rw [h.sz,qJ hst j (by omega)]) ?_ ?_ h.inv (h.fresh j hj hLj) h.new (fun n hn=>hA' n (Nat.le_trans h.grow.size hn)) ?_
 . intro t ht;refine h.slot t j (by omega) fun i hi hw=>?_
   by_cases hij:i=j
   . subst hij;simp [hLj]
   . exact hcl i hi hij (CW hw ht)
 . intro b hb k hk;refine h.mem b j k (by omega) (fun i hi hw=>?_) hk
   by_cases hij:i=j
   . subst hij;simp [hLj]
   . exact hcl i hi hij (Cv hw hb)
 . intro ρ' a' w' hsz hdf htm htw hext honly hinv' hbw hal hg;refine hK ρ' a' w' ⟨by rw [hsz,h.sz],by rw [hdf,h.df],?_,?_,hinv',?_,?_,?_,?_⟩
   . intro t m hm hT
     by_cases htj:t∈(fp j).ws
     . have hjm:j<m:=(hT j hj htj).2 (Or.inr rfl);have e:bO (σ m).slots t=bO (σ (j+1)).slots t:=by
        have:=og hst t (m-(j+1)) (j+1) (by omega) fun i h1 h2 hw=>by
         have hij:i≠j:=by omega
         rcases (hT i (by omega) hw).1 (by omega) with hL|hL
         . have:=(hcl i (by omega) hij (BJ hw htj)).2 hL;omega
         . exact hij hL
        rw [show j+1+(m-(j+1))=m by omega] at this
        exact this
       rw [e];exact htw t htj
     . rw [htm t htj];refine bA.mono hext (h.slot t m hm fun i hi hw=>?_)
       rw [hT i hi hw]
       constructor
       . rintro (h1|rfl)
         . exact h1
         . exact absurd hw htj
       . exact Or.inl
   . intro b m k hm hT hk
     by_cases hbj:b∈(fp j).wb
     . have hjm:j<m:=(hT j hj hbj).2 (Or.inr rfl);have e:aM b (σ m).mem=aM b (σ (j+1)).mem:=by
        have:=qD hst b (m-(j+1)) (j+1) (by omega) fun i h1 h2 hw=>by
         have hij:i≠j:=by omega
         rcases (hT i (by omega) hw).1 (by omega) with hL|hL
         . have:=(hcl i (by omega) hij (Cu hw hbj)).2 hL;omega
         . exact hij hL
        rw [show j+1+(m-(j+1))=m by omega] at this
        exact this
       rw [e] at hk;exact hbw b hbj k hk
     . refine gy.carry (h.mem b m k hm (fun i hi hw=>?_) hk) h.inv hext (by rw [dI hk];exact hbj) hg
       rw [hT i hi hw]
       constructor
       . rintro (h1|rfl)
         . exact h1
         . exact absurd hw hbj
       . exact Or.inl
   . intro i hi hL;rw [honly]
     . exact h.fresh i hi fun hL'=>hL (Or.inl hL')
     . intro e;exact hL (Or.inr (by omega))
   . intro b hb;rw [honly b (by omega)];exact h.new b hb
   . intro b hb;rw [honly b (by omega)];exact h.old b hb
   . refine h.grow.trans hg ?_;rintro n ⟨b,hb,hbn⟩;exact hA n (hal b hb n hbn)
theorem Hy (hst:∀ j,j<ops.size->nA P v A ops base j (σ j) (σ (j+1)) (fp j)) (hA:∀ n,A n->F n∨wS.heap.size<=n) (hA':∀ n,wS.heap.size<=n->A n) {Q:Exit->Act->World->Prop}
 (hQ:∀ (ρ':Nat->Option Nat) (a':Act) (w':World),iC v A F wS ρ0 base ops.size σ fp (fun i=>i<ops.size) ρ' a' w'->Q .normal a' w') :
 ∀ (k j:Nat) (ρ:Nat->Option Nat) (a:Act) (w:World),j+k=ops.size->iC v A F wS ρ0 base ops.size σ fp (fun i=>i<j) ρ a w->wpOps P ops Q (List.range' j k) a w
 | 0,j,ρ,a,w,hjk,h=>by
  have:j=ops.size:=by omega
  subst this
  simpa [wpOps] using hQ ρ a w h
 | k+1,j,ρ,a,w,hjk,h=>by
  rw [List.range'_succ,wpOps_cons];refine h.step hst hA hA' (by omega) (by omega) (fun i _ hij _=>by omega) fun ρ' a' w' h'=>?_
  refine Hy hst hA hA' hQ k (j+1) ρ' a' w' (by omega) ?_
  have e:(fun i=>i<j∨i=j)=fun i=>i<j+1:=by funext i;apply propext;omega
  rw [e] at h';exact h'
end
theorem yG (acc:List Nat) (i:Nat):∀ (l:List Edge) (m:Nat),(l.foldl (fun m (e:Edge)=>if Region.binds .any e then m ||| 2^e.on ||| acc.getD e.on 0 else m) m).testBit i=true ->
 m.testBit i=true∨∃ e∈l,Region.binds .any e=true/\(e.on=i∨(acc.getD e.on 0).testBit i=true)
 | [],m,h=>Or.inl h
 | e::l,m,h=>by
  simp only [List.foldl_cons] at h;rcases yG acc i l _ h with h|⟨e',h1,h2,h3⟩
  . split at h
    . rename_i hb
      rw [Nat.testBit_or,Nat.testBit_or,Nat.testBit_two_pow] at h;simp only [Bool.or_eq_true,decide_eq_true_eq] at h;rcases h with (h|h)|h
      . exact Or.inl h
      . exact Or.inr ⟨e,List.mem_cons_self ..,hb,Or.inl h⟩
      . exact Or.inr ⟨e,List.mem_cons_self ..,hb,Or.inr h⟩
    . exact Or.inl h
  . exact Or.inr ⟨e',List.mem_cons_of_mem _ h1,h2,h3⟩
theorem uQ:∀ (l:List Oper) (acc:List Nat) (j:Nat),j<acc.length->(vH l acc).getD j 0=acc.getD j 0
 | [],acc,j,_=>rfl
 | o::l,acc,j,h=>by
  rw [vH,uQ l _ j (by simp;omega)]
  simp [List.getD_eq_getElem?_getD,List.getElem?_append_left h]
theorem yZ:∀ (l:List Oper) (acc:List Nat) (p:Nat) (o:Oper),l[p]? = some o->∀ i,((vH l acc).getD (acc.length+p) 0).testBit i=true ->
 ∃ e∈o.after.toList,Region.binds .any e=true/\(e.on=i∨((vH l acc).getD e.on 0).testBit i=true)
 | [],acc,p,o,h,i,_=>by simp at h
 | o'::l,acc,0,o,h,i,hb=>by
  simp at h;subst h;rw [vH] at hb;rw [uQ l _ _ (by simp)] at hb
  simp only [Nat.add_zero,List.getD_eq_getElem?_getD,List.getElem?_append_right (Nat.le_refl _),Nat.sub_self,List.getElem?_cons_zero,Option.getD_some] at hb;rcases yG acc i _ 0 hb with h|⟨e,h1,h2,h3⟩
  . simp at h
  . refine ⟨e,h1,h2,h3.imp id fun h=>?_⟩
    by_cases hlt:e.on<acc.length
    . rw [vH,uQ l _ _ (by simp;omega)]
      rw [show (acc++_).getD e.on 0=acc.getD e.on 0 by simp [List.getD_eq_getElem?_getD,List.getElem?_append_left hlt]]
      exact h
    . rw [List.getD_eq_getElem?_getD,List.getElem?_eq_none (by omega)] at h
      simp at h
 | o'::l,acc,p+1,o,h,i,hb=>by
  simp at h;rw [vH] at hb ⊢
  exact yZ l _ p o h i (by simpa [Nat.add_assoc,Nat.add_comm 1 p] using hb)
theorem uY {ops:Array Oper} {L:Nat->Prop} (hcl:∀ i o,ops[i]? = some o->L i->∀ e∈o.after.toList,Region.binds .any e=true->L e.on) (hed:mF ops=true) :
 ∀ (j i:Nat),j<ops.size->(∀ o,ops[j]? = some o->∀ e∈o.after.toList,Region.binds .any e=true->L e.on)->((vH ops.toList []).getD j 0).testBit i=true->L i:=by
 intro j
 induction j using Nat.strongRecOn with
 | _ j ih =>
  intro i hj hdir hb;have ho:ops.toList[j]? = some ops[j]:=by simp [hj]
  obtain ⟨e,h1,h2,h3⟩:=yZ ops.toList [] j ops[j] ho i (by simpa using hb)
  have hLe:=hdir ops[j] (by simp [hj]) e h1 h2
  rcases h3 with rfl|h3
  . exact hLe
  . have hlt:e.on<j:=by
     unfold mF at hed;rw [List.all_eq_true] at hed;have:=hed (ops[j],j) (by
      rw [List.mem_zipIdx_iff_getElem?];simp [ho])
     simp only [List.all_eq_true] at this;have:=this e h1
     simpa [h2] using this
    exact ih e.on hlt i (by omega) (fun o ho'=>hcl e.on o ho' hLe) h3
end
end Sx
namespace Sx
open Go Go.RowKit
section
variable {P:Program} {X:Cx} {v:Nat->Int}
section
variable {A F:Nat->Prop} {wS:World} {ρ0:Nat->Option Nat} {ops:Array Oper} {base:Nat} {σ:Nat->St} {fp:Nat->Fp}
def LL (listed:Array Bool) (i:Nat):Prop:=listed.getD i false=true
theorem D9 {listed:Array Bool} (hsz:listed.size=ops.size) (hed:mF ops=true) (h:Region.ready .any ops listed=[]):∀ i,i<ops.size->LL listed i:=by
 intro i
 induction i using Nat.strongRecOn with
 | _ i ih =>
  intro hi;apply Classical.byContradiction;intro hn;have hf:listed.getD i true=false:=by
   have hlt:i<listed.size:=by omega
   simp only [LL,Array.getD_eq_getD_getElem?,Array.getElem?_eq_getElem hlt,Option.getD_some] at hn ⊢
   simpa using hn
  have:i∈Region.ready .any ops listed:=mem_ready.2 ⟨hf,ops[i],by simp [hi],fun e he hb=>by
   have hlt:e.on<i:=by
    have hed':=hed;unfold mF at hed'
    rw [List.all_eq_true] at hed'
    have:=hed' (ops[i],i) (by
     rw [List.mem_zipIdx_iff_getElem?];simp [hi])
    simp only [List.all_eq_true] at this;have:=this e (by simpa using he)
    simpa [hb] using this
   exact ih e.on hlt (by omega)⟩
  rw [h] at this;cases this
theorem QU (hst:∀ j,j<ops.size->nA P v A ops base j (σ j) (σ (j+1)) (fp j)) (hA:∀ n,A n->F n∨wS.heap.size<=n) (hA':∀ n,wS.heap.size<=n->A n) {Q:Exit->Act->World->Prop} (hed:mF ops=true)
 (hord:∀ i j,i<ops.size->j<ops.size->i<j->clash (fp i) (fp j)=true->((vH ops.toList []).getD j 0).testBit i=true)
 (hQ:∀ (ρ':Nat->Option Nat) (a':Act) (w':World),iC v A F wS ρ0 base ops.size σ fp (fun i=>i<ops.size) ρ' a' w'->Q .normal a' w') :
 ∀ (fuel:Nat) (listed:Array Bool) (ρ:Nat->Option Nat) (a:Act) (w:World),listed.size=ops.size->listed.toList.count false=fuel ->
  (∀ i o,ops[i]? = some o->LL listed i->∀ e∈o.after.toList,Region.binds .any e=true->LL listed e.on) ->
  iC v A F wS ρ0 base ops.size σ fp (LL listed) ρ a w->wpAny P .any ops Q fuel listed a w:=by
 have fin:∀ (listed:Array Bool) (ρ:Nat->Option Nat) (a:Act) (w:World),(∀ i,i<ops.size->LL listed i)->iC v A F wS ρ0 base ops.size σ fp (LL listed) ρ a w->Q .normal a w:=by
  intro listed ρ a w hall h;refine hQ ρ a w ⟨h.sz,h.df,fun t m hm hT=>h.slot t m hm fun i hi hw=>?_,fun b m k hm hT hk=>h.mem b m k hm (fun i hi hw=>?_) hk,h.inv,fun i hi hn=>absurd hi hn,h.new,h.old,h.grow⟩
  . rw [hT i hi hw];simp [hi,hall i hi]
  . rw [hT i hi hw];simp [hi,hall i hi]
 intro fuel
 induction fuel with
 | zero =>
  intro listed ρ a w hsz hc hcl h;have hall:∀ i,i<ops.size->LL listed i:=fun i hi=>by
   have hlt:i<listed.size:=by omega
   have h1:listed[i]∈listed.toList:=by simp
   unfold LL;rw [Array.getD_eq_getD_getElem?,Array.getElem?_eq_getElem hlt,Option.getD_some];cases hb:listed[i] with
   | true=>rfl
   | false =>
    rw [hb] at h1;exact absurd h1 (List.count_eq_zero.1 hc)
  refine ⟨?_,fin listed ρ a w hall h⟩;cases hr:Region.ready .any ops listed with
  | nil=>rfl
  | cons j l =>
   have hj:j∈Region.ready .any ops listed:=by rw [hr];exact List.mem_cons_self ..
   obtain ⟨h1,o,ho,_⟩:=mem_ready.1 hj;have hlt:j<ops.size:=by
    rcases Nat.lt_or_ge j ops.size with h|h
    . exact h
    . rw [Array.getElem?_eq_none h] at ho;cases ho
   have:=hall j hlt;have hlt2:j<listed.size:=by omega
   simp only [LL,Array.getD_eq_getD_getElem?,Array.getElem?_eq_getElem hlt2,Option.getD_some] at h1 this;rw [h1] at this;cases this
 | succ fuel ih =>
  intro listed ρ a w hsz hc hcl h;refine ⟨fun hr=>fin listed ρ a w (D9 hsz hed hr) h,fun j hj=>?_⟩
  obtain ⟨h1,o,ho,hall⟩:=mem_ready.1 hj;have hlt:j<ops.size:=by
   rcases Nat.lt_or_ge j ops.size with h|h
   . exact h
   . rw [Array.getElem?_eq_none h] at ho;cases ho
  have hlt2:j<listed.size:=by omega
  have hLj:¬ LL listed j:=by
   simp only [LL,Array.getD_eq_getD_getElem?,Array.getElem?_eq_getElem hlt2,Option.getD_some] at h1 ⊢
   rw [h1];simp
  have hdir:∀ o',ops[j]? = some o'->∀ e∈o'.after.toList,Region.binds .any e=true->LL listed e.on:=fun o' ho' e he hb=>by
   rw [ho] at ho';cases ho'
   exact hall e (by simpa using he) hb
  refine h.step hst hA hA' hlt hLj (fun i hi hij hc=>?_) fun ρ' a' w' h'=>?_
  . rcases Nat.lt_or_gt_of_ne hij with hlt'|hgt
    . exact ⟨fun _=>uY hcl hed j i hlt hdir (hord i j hi hlt hlt' hc),fun _=>hlt'⟩
    . refine ⟨fun h=>absurd h (by omega),fun hL=>absurd ?_ hLj⟩
      rw [Ec] at hc;exact uY hcl hed i j hi (fun o' ho'=>hcl i o' ho' hL) (hord j i hlt hi hgt hc)
  . have eL:(fun i=>LL listed i∨i=j)=LL (listed.setIfInBounds j true):=by
     funext i
     apply propext;unfold LL
     by_cases hij:i=j
     . subst hij;simp [Array.getD_eq_getD_getElem?,hlt2]
     . simp only [hij,or_false,Array.getD_eq_getD_getElem?,Array.getElem?_setIfInBounds_ne (Ne.symm hij)]
    rw [eL] at h'
    refine ih _ ρ' a' w' (by simp [hsz]) ?_ ?_ h'
    . rw [Array.toList_setIfInBounds,List.count_set (by simpa using hlt2)]
      have:listed.toList[j]'(by simpa using hlt2)=false:=by
       simp only [Array.getD_eq_getD_getElem?,Array.getElem?_eq_getElem hlt2,Option.getD_some] at h1
       simpa using h1
      rw [this,hc];simp
    . intro i o' ho' hL e he hb;rw [<-eL] at hL ⊢
      rcases hL with hL|rfl
      . exact Or.inl (hcl i o' ho' hL e he hb)
      . exact Or.inl (hdir o' ho' e he hb)
end
structure Rel (v:Nat->Int) (A F:Nat->Prop) (wS:World) (ρ0:Nat->Option Nat) (nb0:Nat) (s:St) (ρ:Nat->Option Nat) (a:Act) (w:World):Prop where
 sz:a.tmps.size=s.slots.length
 df:a.defers=[]
 slot:∀ t,bA v ρ (bO s.slots t) (a.tmps.getD t undef)
 mem:fV v ρ A w s.mem
 inv:Inv ρ w
 new:∀ b,s.nb<=b->ρ b=none
 old:∀ b,b<nb0->ρ b=ρ0 b
 le:nb0<=s.nb
 grow:Grow F wS w
theorem pO {specs:List Spec} {rec:iG} (hs:∀ s∈specs,bR P X s) (hc:jZ P X v rec) (A:Nat->Prop) (path:Path) (ops:Array Oper) (base:Nat):∀ (l:List Oper) (i:Nat) (s:St),(∀ j,l[j]? = ops[i+j]?∨l.length<=j) ->
 af X v (Af P specs rec path ops base i l s) fun r=>PT v path->r.2.length=l.length/\∃ σ:Nat->St,σ 0=s/\σ l.length=r.1/\∀ j,j<l.length->nA P v A ops base (i+j) (σ j) (σ (j+1)) (r.2.getD j ⟨[],[],[],[]⟩)
 | [],i,s,_=>af.pure fun _=>⟨rfl,fun _=>s,rfl,rfl,fun j hj=>absurd hj (by simp)⟩
 | o::l,i,s,h=>by
  have hi:ops[i]? = some o:=by
   rcases h 0 with h|h
   . simpa using h.symm
   . simp at h
  unfold Af;refine af.bind (xg hs hc A path ops base i o hi s) fun r hr=>?_
  obtain ⟨s1,f⟩:=r;refine af.bind (pO hs hc A path ops base l (i+1) s1 fun j=>?_) fun r hr2=>?_
  . rcases h (j+1) with h|h
    . left;simpa [Nat.add_assoc,Nat.add_comm 1 j] using h
    . right;simpa using h
  . obtain ⟨s2,fs⟩:=r;refine af.pure fun hp=>?_
    obtain ⟨h1,σ,h2,h3,h4⟩:=hr2 hp;refine ⟨by simp [h1],fun j=>match j with|0=>s|j+1=>σ j,rfl,h3,fun j hj=>?_⟩
    cases j with
    | zero=>simp only [Nat.add_zero];rw [h2];exact hr hp
    | succ j =>
     have:=h4 j (by simpa using hj)
     rw [show i+(j+1)=i+1+j by omega]
     simpa using this
theorem AX {an:List Nat} {fs:List Fp} (h:zt an fs=true) {i j:Nat} {f g:Fp} (hi:fs[i]? = some f) (hj:fs[j]? = some g) (hlt:i<j) (hc:clash f g=true):(an.getD j 0).testBit i=true:=by
 unfold zt at h;rw [List.all_eq_true] at h;have h1:=h (g,j) (by rw [List.mem_zipIdx_iff_getElem?];exact hj)
 simp only at h1;rw [List.all_eq_true] at h1;have h2:=h1 (f,i) (by rw [List.mem_zipIdx_iff_getElem?];exact hi)
 simpa [hlt,hc] using h2
theorem rT {specs:List Spec} {rec:iG} (hs:∀ s∈specs,bR P X s) (hc:jZ P X v rec) (jc:P.follows .mixedOrders=true) {A F:Nat->Prop} {wS:World} {ρ0:Nat->Option Nat} {nb0:Nat} (hA:∀ n,A n->F n∨wS.heap.size<=n) (hA':∀ n,wS.heap.size<=n->A n) (path:Path) (id:Nat) (ops:Array Oper) (draw:Bool) (s:St) :
 af X v (nH P specs rec path ops draw s) fun s'=>PT v path->∀ (ρ:Nat->Option Nat) (a:Act) (w:World),Rel v A F wS ρ0 nb0 s ρ a w ->
  (Code.region id ops draw).wp P (fun e a' w'=>e=.normal/\∃ ρ',Rel v A F wS ρ0 nb0 s' ρ' a' w') a w:=by
 unfold nH;refine af.bind (pO hs hc A path ops s.nb ops.toList 0 s fun j=>?_) fun r hr=>?_
 . left;simp
 obtain ⟨s1,fs⟩:=r;simp only;have key:∀ (hp:PT v path) (ρ:Nat->Option Nat) (a:Act) (w:World),Rel v A F wS ρ0 nb0 s ρ a w->∃ σ:Nat->St,σ 0=s/\σ ops.size=s1/\fs.length=ops.size/\(∀ j,j<ops.size->nA P v A ops s.nb j (σ j) (σ (j+1)) (fs.getD j ⟨[],[],[],[]⟩)) /\
  (∀ w',w'.heap=w.heap->w'.os=w.os->w'.tape=w.tape->w'.output=w.output->iC v A F wS ρ s.nb ops.size σ (fun j=>fs.getD j ⟨[],[],[],[]⟩) (fun _=>False) ρ a w') /\
  ∀ (ρ':Nat->Option Nat) (a':Act) (w':World),iC v A F wS ρ s.nb ops.size σ (fun j=>fs.getD j ⟨[],[],[],[]⟩) (fun i=>i<ops.size) ρ' a' w'->Rel v A F wS ρ0 nb0 ⟨s1.slots,s1.mem,s.nb+ops.size⟩ ρ' a' w':=by
  intro hp ρ a w hR;obtain ⟨h1,σ,h2,h3,h4⟩:=hr hp;simp only [Array.length_toList] at h1 h3 h4;have h4':∀ j,j<ops.size->nA P v A ops s.nb j (σ j) (σ (j+1)) (fs.getD j ⟨[],[],[],[]⟩):=fun j hj=>by simpa using h4 j hj
  refine ⟨σ,h2,h3,h1,h4',?_,?_⟩
  . intro w' hw1 hw2 hw3 hw4;refine ⟨by rw [h2];exact hR.sz,hR.df,?_,?_,⟨hR.inv.inj,fun b n hb=>by rw [hw1];exact hR.inv.lt b n hb⟩,fun i _ _=>hR.new _ (by omega),fun b hb=>hR.new b (by omega),fun b hb=>rfl,?_⟩
    . intro t m hm hT;have e:=og h4' t m 0 (by omega) fun i (_:0<=i) (hi:i<0+m) hw=>(hT i (by omega) hw).1 (by omega)
      rw [Nat.zero_add] at e;rw [e,h2];exact hR.slot t
    . intro b m k hm hT hk;have e:=qD h4' b m 0 (by omega) fun i (_:0<=i) (hi:i<0+m) hw=>(hT i (by omega) hw).1 (by omega)
      rw [Nat.zero_add] at e;rw [e,h2] at hk;obtain ⟨n,ys,q1,q2,q3,q4⟩:=hR.mem b k hk;exact ⟨n,ys,q1,q2,by rw [hw1];exact q3,q4⟩
    . exact ⟨by rw [hw2];exact hR.grow.os,by rw [hw3];exact hR.grow.tape,by rw [hw4];exact hR.grow.output,by rw [hw1];exact hR.grow.size,fun n hn hf=>by rw [hw1];exact hR.grow.block n hn hf⟩
  . intro ρ' a' w' hD;refine ⟨?_,hD.df,fun t=>?_,fun b k hk=>?_,hD.inv,hD.new,fun b hb=>?_,?_,hD.grow⟩
    . rw [hD.sz,<-qJ h4' ops.size (Nat.le_refl _),h3]
    . rw [<-h3];exact hD.slot t ops.size (Nat.le_refl _) fun i hi _=>Iff.rfl
    . rw [<-h3] at hk;exact hD.mem b ops.size k (Nat.le_refl _) (fun i hi _=>Iff.rfl) hk
    . have:=hR.le;rw [hD.old b (by omega)];exact hR.old b hb
    . have:=hR.le;show nb0<=s.nb+ops.size;omega
 cases draw with
 | false =>
  simp only [Bool.false_eq_true,if_false];refine af.pure fun hp ρ a w hR=>wp_region ?_
  obtain ⟨σ,h2,h3,h1,h4,h5,h6⟩:=key hp ρ a w hR;rw [List.range_eq_range'];refine Hy h4 hA hA' (fun ρ' a' w' hD=>⟨rfl,ρ',h6 ρ' a' w' hD⟩) ops.size 0 ρ a w (by omega) ?_
  have e:(fun i:Nat=>i<0)=fun _:Nat=>False:=by funext i;simp
  rw [e];exact h5 w rfl rfl rfl rfl
 | true =>
  simp only [if_true];refine af.ite (fun ho=>?_) (fun _=>af.fail)
  simp only [Bool.and_eq_true] at ho;refine af.pure fun hp ρ a w hR=>wp_region_any jc ?_
  obtain ⟨σ,h2,h3,h1,h4,h5,h6⟩:=key hp ρ a w hR;refine QU h4 hA hA' ho.1 (fun i j hi hj hlt hcl=>?_) (fun ρ' a' w' hD=>⟨rfl,ρ',h6 ρ' a' w' hD⟩) ops.size _ ρ a _ (by simp) (by simp [List.count_replicate]) ?_ ?_
  . have gi:fs[i]? = some (fs.getD i ⟨[],[],[],[]⟩):=by
     rw [List.getD_eq_getElem?_getD,List.getElem?_eq_getElem (by omega)];rfl
    have gj:fs[j]? = some (fs.getD j ⟨[],[],[],[]⟩):=by
     rw [List.getD_eq_getElem?_getD,List.getElem?_eq_getElem (by omega)];rfl
    exact AX ho.2 gi gj hlt hcl
  . intro i o hi hL;unfold LL at hL;rw [Array.getD_eq_getD_getElem?] at hL
    by_cases hlt:i<ops.size
    . simp [hlt] at hL
    . simp [hlt] at hL
  . have e:LL (Array.replicate ops.size false)=fun _:Nat=>False:=by
     funext i
     apply propext;unfold LL;rw [Array.getD_eq_getD_getElem?]
     by_cases hlt:i<ops.size<;>simp [hlt]
    rw [e];exact h5 _ rfl rfl rfl rfl
end
end Sx
namespace Sx
open Go Go.RowKit
section
variable {P:Program} {X:Cx} {v:Nat->Int}
theorem rX (q:Rf) (x y:SC):af X v (Gj q x y) fun z=>∀ (ρ:Nat->Option Nat) (u:Value),(q.val v≠0->aO v ρ x u->aO v ρ z u)/\(q.val v=0->aO v ρ y u->aO v ρ z u):=by
 have top:∀ x y:SC,af X v (M.pure SC.top) fun z=>∀ (ρ:Nat->Option Nat) (u:Value),(q.val v≠0->aO v ρ x u->aO v ρ z u)/\(q.val v=0->aO v ρ y u->aO v ρ z u):=fun x y =>
  af.pure fun ρ u=>⟨fun _ h=>aO.one h,fun _ h=>aO.one h⟩
 unfold Gj;refine af.ite (fun he=>?_) (fun _=>?_)
 . rw [<-SC.eq_eq he];exact af.pure fun ρ u=>⟨fun _ h=>h,fun _ h=>h⟩
 . split
   . rename_i k a j b
     refine af.ite (fun hk=>?_) (fun _=>top _ _)
     subst hk;refine af.bind (af.mkIte _ _ _) fun r hr=>af.pure fun ρ u=>⟨fun h0 h=>?_,fun h0 h=>?_⟩
     . simp only [aO] at h ⊢;rw [hr,if_pos h0];exact h
     . simp only [aO] at h ⊢;rw [hr,if_neg (by simp [h0])];exact h
   . refine af.bind (af.mkIte _ _ _) fun r hr=>af.pure fun ρ u=>⟨fun h0 h=>?_,fun h0 h=>?_⟩
     . simp only [aO] at h ⊢;rw [hr,if_pos h0];exact h
     . simp only [aO] at h ⊢;rw [hr,if_neg (by simp [h0])];exact h
   . exact top _ _
theorem kw (q:Rf):∀ (xs ys:List SC),xs.length=ys.length->af X v (zw q xs ys) fun zs=>∀ (ρ:Nat->Option Nat) (us:List Value),(q.val v≠0->bJ (aO v ρ) xs us->bJ (aO v ρ) zs us)/\(q.val v=0->bJ (aO v ρ) ys us->bJ (aO v ρ) zs us)
 | [],[],_=>af.pure fun ρ us=>⟨fun _ h=>h,fun _ h=>h⟩
 | x::xs,y::ys,h=>by
  refine af.bind (rX q x y) fun a ha=>af.bind (kw q xs ys (by simpa using h)) fun l hl=>af.pure fun ρ us=>⟨fun h0 h=>?_,fun h0 h=>?_⟩
  . cases h with
    | cons h1 h2=>exact .cons ((ha ρ _).1 h0 h1) ((hl ρ _).1 h0 h2)
  . cases h with
    | cons h1 h2=>exact .cons ((ha ρ _).2 h0 h1) ((hl ρ _).2 h0 h2)
 | [],_::_,h=>by cases h
 | _::_,[],h=>by cases h
theorem sK (q:Rf) (x y:SP):af X v (GD q x y) fun z=>∀ z',z=some z'->∀ (ρ:Nat->Option Nat) (u:Value),(q.val v≠0->bC v ρ x u->bC v ρ z' u)/\(q.val v=0->bC v ρ y u->bC v ρ z' u):=by
 unfold GD;split
 . refine af.bind (rX _ _ _) fun r hr=>af.pure fun z' hz ρ u=>?_
   cases hz;exact hr ρ u
 . refine af.ite (fun hl=>?_) (fun _=>af.pure fun z' hz=>by cases hz)
   refine af.bind (kw _ _ _ hl) fun r hr=>af.pure fun z' hz ρ u=>?_
   cases hz;refine ⟨fun h0 h=>?_,fun h0 h=>?_⟩
   . obtain ⟨us,h1,h2⟩:=h;exact ⟨us,h1,(hr ρ us).1 h0 h2⟩
   . obtain ⟨us,h1,h2⟩:=h;exact ⟨us,h1,(hr ρ us).2 h0 h2⟩
 . exact af.pure fun z' hz=>by cases hz
theorem oU (q:Rf):∀ (xs ys:List SP),af X v (Ez q xs ys) fun zs=>∀ zs',zs=some zs'->∀ (ρ:Nat->Option Nat) (us:List Value),(q.val v≠0->bJ (bC v ρ) xs us->bJ (bC v ρ) zs' us)/\(q.val v=0->bJ (bC v ρ) ys us->bJ (bC v ρ) zs' us)
 | [],[]=>af.pure fun zs' hz ρ us=>by cases hz;exact ⟨fun _ h=>h,fun _ h=>h⟩
 | x::xs,y::ys=>by
  refine af.bind (sK q x y) fun a ha=>af.bind (oU q xs ys) fun l hl=>?_
  split
  . rename_i a l
    refine af.pure fun zs' hz ρ us=>?_
    cases hz;refine ⟨fun h0 h=>?_,fun h0 h=>?_⟩
    . cases h with
      | cons h1 h2=>exact .cons ((ha _ rfl ρ _).1 h0 h1) ((hl _ rfl ρ _).1 h0 h2)
    . cases h with
      | cons h1 h2=>exact .cons ((ha _ rfl ρ _).2 h0 h1) ((hl _ rfl ρ _).2 h0 h2)
  . exact af.pure fun z' hz=>by cases hz
 | [],_::_=>af.pure fun z' hz=>by cases hz
 | _::_,[]=>af.pure fun z' hz=>by cases hz
theorem Db (q:Rf) (x y:SV):af X v (NJ q x y) fun z=>∀ (ρ:Nat->Option Nat) (u:Value),(q.val v≠0->aR v ρ x u->aR v ρ z u)/\(q.val v=0->aR v ρ y u->aR v ρ z u):=by
 have top:∀ x y:SV,af X v (M.pure SV.top) fun z=>∀ (ρ:Nat->Option Nat) (u:Value),(q.val v≠0->aR v ρ x u->aR v ρ z u)/\(q.val v=0->aR v ρ y u->aR v ρ z u):=fun x y =>
  af.pure fun ρ u=>⟨fun _ _=>trivial,fun _ _=>trivial⟩
 unfold NJ;refine af.ite (fun he=>?_) (fun _=>?_)
 . rw [<-SV.eq_eq he];exact af.pure fun ρ u=>⟨fun _ h=>h,fun _ h=>h⟩
 . split
   . refine af.bind (sK _ _ _) fun r hr=>?_
     split
     . exact af.pure fun ρ u=>hr _ rfl ρ u
     . exact top _ _
   . refine af.bind (oU _ _ _) fun r hr=>?_
     split
     . rename_i l
       refine af.pure fun ρ u=>⟨fun h0 h=>?_,fun h0 h=>?_⟩
       . obtain ⟨us,h1,h2⟩:=h;exact ⟨us,h1,(hr _ rfl ρ us).1 h0 h2⟩
       . obtain ⟨us,h1,h2⟩:=h;exact ⟨us,h1,(hr _ rfl ρ us).2 h0 h2⟩
     . exact top _ _
   . exact top _ _
theorem Dv (q:Rf) (x y:Sl):af X v (NV q x y) fun z=>∀ (ρ:Nat->Option Nat) (u:Value),(q.val v≠0->bA v ρ x u->bA v ρ z u)/\(q.val v=0->bA v ρ y u->bA v ρ z u):=by
 unfold NV;refine af.ite (fun he=>?_) (fun _=>?_)
 . rw [<-Sl.eq_eq he];exact af.pure fun ρ u=>⟨fun _ h=>h,fun _ h=>h⟩
 . split
   . refine af.bind (Db _ _ _) fun r hr=>af.pure fun ρ u=>⟨fun h0 h=>⟨fun _=>(hr ρ u).1 h0 (h.1 PT.nil),fun h=>absurd PT.nil h⟩,fun h0 h=>⟨fun _=>(hr ρ u).2 h0 (h.1 PT.nil),fun h=>absurd PT.nil h⟩⟩
   . exact af.pure fun ρ u=>⟨fun _ _=>bA.top _ _,fun _ _=>bA.top _ _⟩
theorem qh (q:Rf):∀ (xs ys:List Sl),xs.length=ys.length->af X v (EU q xs ys) fun zs=>zs.length=xs.length/\∀ (ρ:Nat->Option Nat) (t:Nat) (u:Value),(q.val v≠0->bA v ρ (bO xs t) u->bA v ρ (bO zs t) u)/\(q.val v=0->bA v ρ (bO ys t) u->bA v ρ (bO zs t) u)
 | [],[],_=>af.pure ⟨rfl,fun ρ t u=>⟨fun _ h=>h,fun _ h=>h⟩⟩
 | x::xs,y::ys,h=>by
  refine af.bind (Dv q x y) fun a ha=>af.bind (qh q xs ys (by simpa using h)) fun l hl=>af.pure ⟨by simp [hl.1],fun ρ t u=>?_⟩
  cases t with
  | zero=>exact ha ρ u
  | succ t=>exact hl.2 ρ t u
 | [],_::_,h=>by cases h
 | _::_,[],h=>by cases h
theorem qm (q:Rf):∀ (xs ys:List Bk),af X v (Es q xs ys) fun zs=>∀ (ρ:Nat->Option Nat) (A:Nat->Prop) (w:World),(q.val v≠0->∀ b k,aM b zs=some k->(∀ x∈xs,gy v ρ A w x)->gy v ρ A w k)/\(q.val v=0->fV v ρ A w ys->fV v ρ A w zs)
 | [],ys=>af.pure fun ρ A w=>⟨fun _ b k h=>(by cases h),fun _ _ b k h=>(by cases h)⟩
 | x::xs,ys=>by
  refine af.bind (qm q xs ys) fun l hl=>?_
  have skip:af X v (M.pure l) fun zs=>∀ (ρ:Nat->Option Nat) (A:Nat->Prop) (w:World),(q.val v≠0->∀ b k,aM b zs=some k->(∀ y∈x::xs,gy v ρ A w y)->gy v ρ A w k)/\(q.val v=0->fV v ρ A w ys->fV v ρ A w zs) :=
   af.pure fun ρ A w=>⟨fun h0 b k hk h=>(hl ρ A w).1 h0 b k hk fun y hy=>h y (List.mem_cons_of_mem _ hy),(hl ρ A w).2⟩
  split
  . rename_i y hy
    refine af.ite (fun hc=>?_) (fun _=>skip)
    refine af.bind (kw q x.cs y.cs hc.2) fun cs hcs=>af.pure fun ρ A w=>⟨fun h0 b k hk h=>?_,fun h0 h b k hk=>?_⟩
    . simp only [aM] at hk;split at hk
      . cases hk;obtain ⟨n,us,h1,h2,h3,h4⟩:=h x (List.mem_cons_self ..);exact ⟨n,us,h1,h2,h3,(hcs ρ us).1 h0 h4⟩
      . exact (hl ρ A w).1 h0 b k hk fun y hy=>h y (List.mem_cons_of_mem _ hy)
    . simp only [aM] at hk;split at hk
      . rename_i hb
        cases hk;obtain ⟨n,us,h1,h2,h3,h4⟩:=h _ _ hy;refine ⟨n,us,by rw [dI hy] at h1;exact h1,h2,?_,(hcs ρ us).2 h0 h4⟩
        rw [hc.1];exact h3
      . exact (hl ρ A w).2 h0 h b k hk
  . exact skip
theorem qd {v:Nat->Int} {ρ:Nat->Option Nat} {A:Nat->Prop} {w:World}:∀ {m:List Bk},ow m=true->fV v ρ A w m->∀ x∈m,gy v ρ A w x
 | y::l,hn,h,x,hx=>by
  simp only [ow,Bool.and_eq_true] at hn;rcases List.mem_cons.1 hx with rfl|hx
  . exact h x.b x (by simp only [aM,if_true])
  . refine qd hn.2 (fun b k hk=>h b k ?_) x hx
    simp only [aM];rw [if_neg]
    . exact hk
    . rintro rfl;rw [hk] at hn;simp at hn
theorem CG (q:Rf) (x y:St):af X v (NR q x y) fun z=>∀ (A F:Nat->Prop) (wS:World) (ρ0:Nat->Option Nat) (nb0:Nat) (ρ:Nat->Option Nat) (a:Act) (w:World),
 (q.val v≠0->Rel v A F wS ρ0 nb0 x ρ a w->Rel v A F wS ρ0 nb0 z ρ a w)/\(q.val v=0->Rel v A F wS ρ0 nb0 y ρ a w->Rel v A F wS ρ0 nb0 z ρ a w):=by
 unfold NR;refine af.ite (fun hc=>?_) (fun _=>af.fail)
 refine af.bind (qh q _ _ hc.1) fun sl hsl=>af.bind (qm q _ _) fun m hm=>af.pure fun A F wS ρ0 nb0 ρ a w=>⟨fun h0 h=>?_,fun h0 h=>?_⟩
 . exact ⟨by rw [h.sz];exact hsl.1.symm,h.df,fun t=>(hsl.2 ρ t _).1 h0 (h.slot t),fun b k hk=>(hm ρ A w).1 h0 b k hk (qd hc.2 h.mem),h.inv,fun b hb=>h.new b (Nat.le_trans (Nat.le_max_left _ _) hb),h.old,Nat.le_trans h.le (Nat.le_max_left _ _),h.grow⟩
 . exact ⟨by rw [h.sz,<-hc.1];exact hsl.1.symm,h.df,fun t=>(hsl.2 ρ t _).2 h0 (h.slot t),(hm ρ A w).2 h0 h.mem,h.inv,fun b hb=>h.new b (Nat.le_trans (Nat.le_max_right _ _) hb),h.old,Nat.le_trans h.le (Nat.le_max_right _ _),h.grow⟩
end
section
variable {P:Program} {X:Cx} {v:Nat->Int} (v) (A F:Nat->Prop) (wS:World) (ρ0:Nat->Option Nat) (nb0:Nat)
def hot (o:Option (Rf × St)) (a:Act) (w:World):Prop:=∃ p s,o=some (p,s)/\p.val v≠0/\∃ ρ,Rel v A F wS ρ0 nb0 s ρ a w
def cold (o:Option (Rf × St)):Prop:=∀ p s,o=some (p,s)->p.val v=0
def eY (l:List (Nat × Rf × St)):Prop:=∀ x∈l,x.2.1.val v=0
def BU (id:Nat) (l:List (Nat × Rf × St)) (a:Act) (w:World):Prop:=∃ l1 l2 p s,l=l1++(id,p,s)::l2/\p.val v≠0/\(∃ ρ,Rel v A F wS ρ0 nb0 s ρ a w)/\eY v l1/\eY v l2
def Ends (o:Out):Exit->Act->World->Prop
 | .normal,a,w=>hot v A F wS ρ0 nb0 o.norm a w/\cold v o.ret/\eY v o.exits
 | .ret,a,w=>cold v o.norm/\hot v A F wS ρ0 nb0 o.ret a w/\eY v o.exits
 | .exit id,a,w=>cold v o.norm/\cold v o.ret/\BU v A F wS ρ0 nb0 id o.exits a w
 | _,_,_=>False
def JV (o:Out):Prop:=cold v o.norm/\cold v o.ret/\eY v o.exits
end
section
variable {P:Program} {X:Cx} {v:Nat->Int} {A F:Nat->Prop} {wS:World} {ρ0:Nat->Option Nat} {nb0:Nat}
theorem dB:cold v none:=fun p s h=>by cases h
theorem eF:eY v []:=fun x h=>by cases h
theorem jh (x y:Option (Rf × St)):af X v (xH x y) fun z=>(cold v x->cold v y->cold v z)/\∀ (A F:Nat->Prop) (wS:World) (ρ0:Nat->Option Nat) (nb0:Nat) a w,
 (hot v A F wS ρ0 nb0 x a w->cold v y->hot v A F wS ρ0 nb0 z a w)/\(cold v x->hot v A F wS ρ0 nb0 y a w->hot v A F wS ρ0 nb0 z a w):=by
 unfold xH;split
 . exact af.pure ⟨fun _ h=>h,fun A F wS ρ0 nb0 a w=>⟨fun h=>(by obtain ⟨_,_,h,_⟩:=h;cases h),fun _ h=>h⟩⟩
 . exact af.pure ⟨fun h _=>h,fun A F wS ρ0 nb0 a w=>⟨fun h _=>h,fun _ h=>by obtain ⟨_,_,h,_⟩:=h;cases h⟩⟩
 . rename_i p x q y
   refine af.bind (af.orR p q) fun r hr=>af.bind (CG p x y) fun z hz=>af.pure ⟨fun h k=>?_,fun A F wS ρ0 nb0 a w=>⟨fun h k=>?_,fun h k=>?_⟩⟩
   . intro p' s' he;cases he;have h1:=h _ _ rfl;have h2:=k _ _ rfl;apply Decidable.byContradiction;intro h3;rcases hr.1 h3 with h4|h4
     . exact h4 h1
     . exact h4 h2
   . obtain ⟨_,_,he,h1,ρ,h2⟩:=h;cases he;exact ⟨r,z,rfl,hr.2 (Or.inl h1),ρ,(hz A F wS ρ0 nb0 ρ a w).1 h1 h2⟩
   . obtain ⟨_,_,he,h1,ρ,h2⟩:=k;cases he;exact ⟨r,z,rfl,hr.2 (Or.inr h1),ρ,(hz A F wS ρ0 nb0 ρ a w).2 (h _ _ rfl) h2⟩
theorem oI (c:Rf) (x:Option (Rf × St)):af X v (zR c x) fun z=>(c.val v=0->cold v z)/\(cold v x->cold v z)/\∀ (A F:Nat->Prop) (wS:World) (ρ0:Nat->Option Nat) (nb0:Nat) a w,c.val v≠0->hot v A F wS ρ0 nb0 x a w->hot v A F wS ρ0 nb0 z a w:=by
 unfold zR;split
 . exact af.pure ⟨fun _=>dB,fun _=>dB,fun A F wS ρ0 nb0 a w _ h=>h⟩
 . rename_i p x
   refine af.bind (af.andR c p) fun r hr=>?_
   have gen:af X v (M.pure (some (r,x))) fun z=>(c.val v=0->cold v z)/\(cold v (some (p,x))->cold v z)/\∀ (A F:Nat->Prop) (wS:World) (ρ0:Nat->Option Nat) (nb0:Nat) a w,c.val v≠0->hot v A F wS ρ0 nb0 (some (p,x)) a w->hot v A F wS ρ0 nb0 z a w:=by
    refine af.pure ⟨fun h p' s' he=>?_,fun h p' s' he=>?_,fun A F wS ρ0 nb0 a w h k=>?_⟩
    . cases he;apply Decidable.byContradiction;intro h3;exact (hr.1 h3).1 h
    . cases he;apply Decidable.byContradiction;intro h3;exact (hr.1 h3).2 (h _ _ rfl)
    . obtain ⟨_,_,he,h1,ρ,h2⟩:=k;cases he;exact ⟨_,_,rfl,hr.2 ⟨h,h1⟩,ρ,h2⟩
   split
   . rename_i z
     refine af.ite (fun h0=>?_) (fun _=>gen)
     refine af.pure ⟨fun _=>dB,fun _=>dB,fun A F wS ρ0 nb0 a w h k=>?_⟩
     obtain ⟨_,_,he,h1,ρ,h2⟩:=k;cases he;have:=hr.2 ⟨h,h1⟩;exact absurd h0 this
   . exact gen
theorem oK (c:Rf):∀ (l:List (Nat × Rf × St)),af X v (Fv c l) fun z=>(c.val v=0->eY v z)/\(eY v l->eY v z)/\∀ (A F:Nat->Prop) (wS:World) (ρ0:Nat->Option Nat) (nb0:Nat) id a w,c.val v≠0->BU v A F wS ρ0 nb0 id l a w->BU v A F wS ρ0 nb0 id z a w
 | []=>af.pure ⟨fun _=>eF,fun _=>eF,fun A F wS ρ0 nb0 id a w _ h=>h⟩
 | (i,p,x)::l=>by
  refine af.bind (af.andR c p) fun r hr=>af.bind (oK c l) fun m hm=>?_
  obtain ⟨hm1,hm2,hm3⟩:=hm;have gen:af X v (M.pure ((i,r,x)::m)) fun z=>(c.val v=0->eY v z)/\(eY v ((i,p,x)::l)->eY v z)/\∀ (A F:Nat->Prop) (wS:World) (ρ0:Nat->Option Nat) (nb0:Nat) id a w,c.val v≠0->BU v A F wS ρ0 nb0 id ((i,p,x)::l) a w->BU v A F wS ρ0 nb0 id z a w:=by
   refine af.pure ⟨fun h y hy=>?_,fun h y hy=>?_,fun A F wS ρ0 nb0 id a w h k=>?_⟩
   . rcases List.mem_cons.1 hy with rfl|hy
     . apply Decidable.byContradiction;intro h3;exact (hr.1 h3).1 h
     . exact hm1 h y hy
   . rcases List.mem_cons.1 hy with rfl|hy
     . apply Decidable.byContradiction;intro h3;exact (hr.1 h3).2 (h (i,p,x) (List.mem_cons_self ..))
     . exact hm2 (fun y hy=>h y (List.mem_cons_of_mem _ hy)) y hy
   . obtain ⟨l1,l2,q,s,he,h1,h2,h3,h4⟩:=k;cases l1 with
     | nil =>
      simp only [List.nil_append,List.cons.injEq,Prod.mk.injEq] at he;obtain ⟨⟨rfl,rfl,rfl⟩,rfl⟩:=he;exact ⟨[],m,r,x,rfl,hr.2 ⟨h,h1⟩,h2,eF,hm2 h4⟩
     | cons y l1 =>
      simp only [List.cons_append,List.cons.injEq] at he;obtain ⟨rfl,rfl⟩:=he;obtain ⟨k1,k2,q',s',e,e1,e2,e3,e4⟩:=hm3 A F wS ρ0 nb0 id a w h ⟨l1,l2,q,s,rfl,h1,h2,fun y hy=>h3 y (List.mem_cons_of_mem _ hy),h4⟩
      refine ⟨(i,r,x)::k1,k2,q',s',by rw [e];rfl,e1,e2,fun y hy=>?_,e4⟩
      rcases List.mem_cons.1 hy with rfl|hy
      . apply Decidable.byContradiction;intro h5;exact (hr.1 h5).2 (h3 (i,p,x) (List.mem_cons_self ..))
      . exact e3 y hy
  split
  . rename_i z
    refine af.ite (fun h0=>?_) (fun _=>gen)
    refine af.pure ⟨hm1,fun h=>hm2 fun y hy=>h y (List.mem_cons_of_mem _ hy),fun A F wS ρ0 nb0 id a w h k=>?_⟩
    obtain ⟨l1,l2,q,s,he,h1,h2,h3,h4⟩:=k;cases l1 with
    | nil =>
     simp only [List.nil_append,List.cons.injEq,Prod.mk.injEq] at he;obtain ⟨⟨rfl,rfl,rfl⟩,rfl⟩:=he;exact absurd h0 (hr.2 ⟨h,h1⟩)
    | cons y l1 =>
     simp only [List.cons_append,List.cons.injEq] at he;obtain ⟨rfl,rfl⟩:=he;exact hm3 A F wS ρ0 nb0 id a w h ⟨l1,l2,q,s,rfl,h1,h2,fun y hy=>h3 y (List.mem_cons_of_mem _ hy),h4⟩
  . exact gen
theorem lD (c:Rf) (o:Out):af X v (under c o) fun z=>(c.val v=0->JV v z)/\∀ (A F:Nat->Prop) (wS:World) (ρ0:Nat->Option Nat) (nb0:Nat) e a w,c.val v≠0->Ends v A F wS ρ0 nb0 o e a w->Ends v A F wS ρ0 nb0 z e a w:=by
 unfold under;refine af.bind (oI c o.norm) fun n hn=>af.bind (oI c o.ret) fun r hr=>af.bind (oK c o.exits) fun x hx=>af.pure ⟨fun h=>⟨hn.1 h,hr.1 h,hx.1 h⟩,fun A F wS ρ0 nb0 e a w h k=>?_⟩
 cases e with
 | normal=>exact ⟨hn.2.2 _ _ _ _ _ a w h k.1,hr.2.1 k.2.1,hx.2.1 k.2.2⟩
 | ret=>exact ⟨hn.2.1 k.1,hr.2.2 _ _ _ _ _ a w h k.2.1,hx.2.1 k.2.2⟩
 | exit id=>exact ⟨hn.2.1 k.1,hr.2.1 k.2.1,hx.2.2 _ _ _ _ _ id a w h k.2.2⟩
 | goto l=>exact k.elim
 | panic ch=>exact k.elim
 | outgrown=>exact k.elim
theorem dW {l m:List (Nat × Rf × St)} (h:eY v l) (k:eY v m):eY v (l++m):=fun x hx=>by
 rcases List.mem_append.1 hx with h1|h1
 . exact h x h1
 . exact k x h1
theorem ve (x y:Out):af X v (join x y) fun z=>(JV v x->JV v y->JV v z)/\∀ (A F:Nat->Prop) (wS:World) (ρ0:Nat->Option Nat) (nb0:Nat) e a w,
 (Ends v A F wS ρ0 nb0 x e a w->JV v y->Ends v A F wS ρ0 nb0 z e a w)/\(JV v x->Ends v A F wS ρ0 nb0 y e a w->Ends v A F wS ρ0 nb0 z e a w):=by
 unfold join;refine af.bind (jh x.norm y.norm) fun n hn=>af.bind (jh x.ret y.ret) fun r hr=>af.pure ⟨fun h k=>⟨hn.1 h.1 k.1,hr.1 h.2.1 k.2.1,dW h.2.2 k.2.2⟩,fun A F wS ρ0 nb0 e a w=>⟨fun h k=>?_,fun h k=>?_⟩⟩
 . cases e with
   | normal=>exact ⟨(hn.2 _ _ _ _ _ a w).1 h.1 k.1,hr.1 h.2.1 k.2.1,dW h.2.2 k.2.2⟩
   | ret=>exact ⟨hn.1 h.1 k.1,(hr.2 _ _ _ _ _ a w).1 h.2.1 k.2.1,dW h.2.2 k.2.2⟩
   | exit id =>
    refine ⟨hn.1 h.1 k.1,hr.1 h.2.1 k.2.1,?_⟩;obtain ⟨l1,l2,p,s,e,e1,e2,e3,e4⟩:=h.2.2;exact ⟨l1,l2++y.exits,p,s,by show x.exits++y.exits=_;rw [e];simp,e1,e2,e3,dW e4 k.2.2⟩
   | goto l=>exact h.elim
   | panic ch=>exact h.elim
   | outgrown=>exact h.elim
 . cases e with
   | normal=>exact ⟨(hn.2 _ _ _ _ _ a w).2 h.1 k.1,hr.1 h.2.1 k.2.1,dW h.2.2 k.2.2⟩
   | ret=>exact ⟨hn.1 h.1 k.1,(hr.2 _ _ _ _ _ a w).2 h.2.1 k.2.1,dW h.2.2 k.2.2⟩
   | exit id =>
    refine ⟨hn.1 h.1 k.1,hr.1 h.2.1 k.2.1,?_⟩;obtain ⟨l1,l2,p,s,e,e1,e2,e3,e4⟩:=k.2.2;exact ⟨x.exits++l1,l2,p,s,by show x.exits++y.exits=_;rw [e];simp,e1,e2,dW h.2.2 e3,e4⟩
   | goto l=>exact k.elim
   | panic ch=>exact k.elim
   | outgrown=>exact k.elim
theorem kD (id:Nat):∀ (l:List (Nat × Rf × St)) (n:Option (Rf × St)),af X v (vk id n l) fun z=>(eY v l->eY v z.2)/\(cold v n->eY v l->cold v z.1)/\∀ (A F:Nat->Prop) (wS:World) (ρ0:Nat->Option Nat) (nb0:Nat) a w,
 (hot v A F wS ρ0 nb0 n a w->eY v l->hot v A F wS ρ0 nb0 z.1 a w) /\
 (cold v n->BU v A F wS ρ0 nb0 id l a w->hot v A F wS ρ0 nb0 z.1 a w/\eY v z.2) /\
 (∀ j,j≠id->cold v n->BU v A F wS ρ0 nb0 j l a w->cold v z.1/\BU v A F wS ρ0 nb0 j z.2 a w)
 | [],n=>af.pure ⟨fun h=>h,fun h _=>h,fun A F wS ρ0 nb0 a w=>⟨fun h _=>h,fun _ h=>(by obtain ⟨l1,l2,p,s,e,_⟩:=h;simp at e),fun j _ _ h=>(by obtain ⟨l1,l2,p,s,e,_⟩:=h;simp at e)⟩⟩
 | (i,p,s)::l,n=>by
  unfold vk;refine af.ite (fun hi=>?_) (fun hi=>?_)
  . subst hi;refine af.bind (jh n (some (p,s))) fun n' hn=>af.imp (kD i l n') fun z hz=>?_
    obtain ⟨hz1,hz2,hz3⟩:=hz;have hc1:eY v ((i,p,s)::l)->cold v (some (p,s))/\eY v l:=fun h=>⟨fun p' s' he=>by cases he;exact h (i,p,s) (List.mem_cons_self ..),fun y hy=>h y (List.mem_cons_of_mem _ hy)⟩
    refine ⟨fun h=>hz1 (hc1 h).2,fun h k=>hz2 (hn.1 h (hc1 k).1) (hc1 k).2,fun A F wS ρ0 nb0 a w=>⟨fun h k=>(hz3 _ _ _ _ _ a w).1 ((hn.2 _ _ _ _ _ a w).1 h (hc1 k).1) (hc1 k).2,fun h k=>?_,fun j hj h k=>?_⟩⟩
    . obtain ⟨l1,l2,q,s',e,e1,e2,e3,e4⟩:=k;cases l1 with
      | nil =>
       simp only [List.nil_append,List.cons.injEq,Prod.mk.injEq] at e;obtain ⟨⟨_,rfl,rfl⟩,rfl⟩:=e;exact ⟨(hz3 _ _ _ _ _ a w).1 ((hn.2 _ _ _ _ _ a w).2 h ⟨_,_,rfl,e1,e2⟩) e4,hz1 e4⟩
      | cons y l1 =>
       simp only [List.cons_append,List.cons.injEq] at e;obtain ⟨rfl,rfl⟩:=e;have c1:cold v (some (p,s)):=fun p' s' he=>by cases he;exact e3 (i,p,s) (List.mem_cons_self ..)
       exact (hz3 _ _ _ _ _ a w).2.1 (hn.1 h c1) ⟨l1,l2,q,s',rfl,e1,e2,fun y hy=>e3 y (List.mem_cons_of_mem _ hy),e4⟩
    . obtain ⟨l1,l2,q,s',e,e1,e2,e3,e4⟩:=k;cases l1 with
      | nil =>
       simp only [List.nil_append,List.cons.injEq,Prod.mk.injEq] at e;exact absurd e.1.1.symm hj
      | cons y l1 =>
       simp only [List.cons_append,List.cons.injEq] at e;obtain ⟨rfl,rfl⟩:=e;have c1:cold v (some (p,s)):=fun p' s' he=>by cases he;exact e3 (i,p,s) (List.mem_cons_self ..)
       exact (hz3 _ _ _ _ _ a w).2.2 j hj (hn.1 h c1) ⟨l1,l2,q,s',rfl,e1,e2,fun y hy=>e3 y (List.mem_cons_of_mem _ hy),e4⟩
  . refine af.bind (kD id l n) fun z hz=>?_
    obtain ⟨z1,z2⟩:=z;obtain ⟨hz1,hz2,hz3⟩:=hz;have hc1:eY v ((i,p,s)::l)->eY v l:=fun h y hy=>h y (List.mem_cons_of_mem _ hy)
    refine af.pure ⟨fun h y hy=>?_,fun h k=>hz2 h (hc1 k),fun A F wS ρ0 nb0 a w=>⟨fun h k=>(hz3 _ _ _ _ _ a w).1 h (hc1 k),fun h k=>?_,fun j hj h k=>?_⟩⟩
    . rcases List.mem_cons.1 hy with rfl|hy
      . exact h _ (List.mem_cons_self ..)
      . exact hz1 (hc1 h) y hy
    . obtain ⟨l1,l2,q,s',e,e1,e2,e3,e4⟩:=k;cases l1 with
      | nil =>
       simp only [List.nil_append,List.cons.injEq,Prod.mk.injEq] at e;exact absurd e.1.1 hi
      | cons y l1 =>
       simp only [List.cons_append,List.cons.injEq] at e;obtain ⟨rfl,rfl⟩:=e;obtain ⟨k1,k2⟩:=(hz3 _ _ _ _ _ a w).2.1 h ⟨l1,l2,q,s',rfl,e1,e2,fun y hy=>e3 y (List.mem_cons_of_mem _ hy),e4⟩
       refine ⟨k1,fun y hy=>?_⟩
       rcases List.mem_cons.1 hy with rfl|hy
       . exact e3 (i,p,s) (List.mem_cons_self ..)
       . exact k2 y hy
    . obtain ⟨l1,l2,q,s',e,e1,e2,e3,e4⟩:=k;cases l1 with
      | nil =>
       simp only [List.nil_append,List.cons.injEq,Prod.mk.injEq] at e;obtain ⟨⟨rfl,rfl,rfl⟩,rfl⟩:=e;exact ⟨hz2 h e4,[],z2,p,s,rfl,e1,e2,eF,hz1 e4⟩
      | cons y l1 =>
       simp only [List.cons_append,List.cons.injEq] at e;obtain ⟨rfl,rfl⟩:=e;obtain ⟨k1,m1,m2,q',s2,k3,k4,k5,k6,k7⟩:=(hz3 _ _ _ _ _ a w).2.2 j hj h ⟨l1,l2,q,s',rfl,e1,e2,fun y hy=>e3 y (List.mem_cons_of_mem _ hy),e4⟩
       refine ⟨k1,(i,p,s)::m1,m2,q',s2,by show (i,p,s)::z2=_;rw [show z2=_ from k3];rfl,k4,k5,fun y hy=>?_,k7⟩
       rcases List.mem_cons.1 hy with rfl|hy
       . exact e3 (i,p,s) (List.mem_cons_self ..)
       . exact k6 y hy
end
end Sx
namespace Sx
open Go Go.RowKit
section
variable {P:Program} {X:Cx} {v:Nat->Int}
theorem af.all {α:Type} {β:Sort _} {m:M α} {R:β->α->Prop} (h:∀ x,af X v m (R x)):af X v m fun a=>∀ x,R x a:=fun b a b' hr g x=>h x b a b' hr g
variable {A F:Nat->Prop} {wS:World} {ρ0:Nat->Option Nat} {nb0:Nat}
theorem sO (path:Path) (o:Out) (k:Path->St->M Out) (Next:(Exit->Act->World->Prop)->Act->World->Prop) (hmono:∀ (Q Q':Exit->Act->World->Prop),(∀ e a w,Q e a w->Q' e a w)->∀ a w,Next Q a w->Next Q' a w)
 (hk:∀ path' s,af X v (k path' s) fun o2=>PT v path'->∀ ρ a w,Rel v A F wS ρ0 nb0 s ρ a w->Next (Ends v A F wS ρ0 nb0 o2) a w) :
 af X v (H6 path o k) fun z=>PT v path->(∀ e a w,e≠.normal->Ends v A F wS ρ0 nb0 o e a w->Ends v A F wS ρ0 nb0 z e a w)/\∀ a w,Ends v A F wS ρ0 nb0 o .normal a w->Next (Ends v A F wS ρ0 nb0 z) a w:=by
 unfold H6;split
 . rename_i hn
   refine af.pure fun hp=>⟨fun e a w _ h=>h,fun a w h=>?_⟩
   obtain ⟨_,_,h1,_⟩:=h.1;rw [hn] at h1;cases h1
 . rename_i p s hn
   refine af.bind (hk _ _) fun b hb=>af.bind (lD p b) fun b' hb'=>af.imp (ve _ _) fun z hz hp=>⟨fun e a w he h=>?_,fun a w h=>?_⟩
   . have hcold:p.val v=0/\Ends v A F wS ρ0 nb0 ⟨none,o.ret,o.exits⟩ e a w:=by
      cases e with
      | normal=>exact absurd rfl he
      | ret=>exact ⟨h.1 p s hn,dB,h.2⟩
      | exit id=>exact ⟨h.1 p s hn,dB,h.2⟩
      | goto l=>exact h.elim
      | panic ch=>exact h.elim
      | outgrown=>exact h.elim
     exact (hz.2 A F wS ρ0 nb0 e a w).1 hcold.2 (hb'.1 hcold.1)
   . obtain ⟨⟨_,_,h1,h2,ρ,h3⟩,h4,h5⟩:=h;rw [hn] at h1;cases h1;have hp':PT v (pathOf path p):=by
      unfold pathOf;split
      . exact hp
      . exact PT.cons.2 ⟨by simpa using h2,hp⟩
     refine hmono _ _ (fun e a w hE=>?_) a w (hb hp' ρ a w h3)
     exact (hz.2 A F wS ρ0 nb0 e a w).2 ⟨dB,h4,h5⟩ (hb'.2 A F wS ρ0 nb0 e a w h2 hE)
theorem tK {c:Code} {Q Q':Exit->Act->World->Prop} (h:∀ e a w,Q e a w->Q' e a w):∀ (n:Nat) (a:Act) (w:World),Code.rounds P c Q n a w->Code.rounds P c Q' n a w
 | 0,a,w,hh=>hh.elim
 | n+1,a,w,hh=>by
  rw [rounds_succ] at hh ⊢
  refine Code.wp_mono (fun e a w q=>?_) hh
  cases e with
  | normal=>exact tK h n a w q
  | ret=>exact h _ _ _ q
  | exit id=>exact h _ _ _ q
  | goto l=>exact h _ _ _ q
  | panic ch=>exact h _ _ _ q
  | outgrown=>exact h _ _ _ q
theorem Fj {specs:List Spec} {rec:iG} (hs:∀ s∈specs,bR P X s) (hc:jZ P X v rec) (jc:P.follows .mixedOrders=true) (hA:∀ n,A n->F n∨wS.heap.size<=n) (hA':∀ n,wS.heap.size<=n->A n) (rounds:Nat) :
 ∀ (c:Code) (path:Path) (s:St),af X v (exec P specs rec rounds c path s) fun o=>PT v path->∀ ρ a w,Rel v A F wS ρ0 nb0 s ρ a w->c.wp P (Ends v A F wS ρ0 nb0 o) a w:=by
 have one:∀ (s:St) (ρ:Nat->Option Nat) (a:Act) (w:World),Rel v A F wS ρ0 nb0 s ρ a w->hot v A F wS ρ0 nb0 (some (.c 1,s)) a w:=fun s ρ a w h=>⟨_,_,rfl,by simp [fu],ρ,h⟩
 intro c
 induction c with
 | skip=>intro path s;exact af.pure fun _ ρ a w h=>wp_skip ⟨one s ρ a w h,dB,eF⟩
 | region id ops draw =>
  intro path s;unfold exec;refine af.bind (rT hs hc jc hA hA' path id ops draw s) fun s' hs'=>af.pure fun hp ρ a w h=>Code.wp_mono (fun e a w ⟨he,ρ',h'⟩=>?_) (hs' hp ρ a w h)
  subst he;exact ⟨one s' ρ' a w h',dB,eF⟩
 | seq x y ihx ihy =>
  intro path s;unfold exec;refine af.bind (ihx path s) fun o ho=>af.imp (sO path o _ (fun Q a w=>y.wp P Q a w) (fun Q Q' h a w hw=>Code.wp_mono h hw) ihy) fun z hz hp ρ a w h=>wp_seq ?_
  refine Code.wp_mono (fun e a w hE=>?_) (ho hp ρ a w h)
  cases e with
  | normal=>exact (hz hp).2 a w hE
  | ret=>exact (hz hp).1 _ a w (by simp) hE
  | exit id=>exact (hz hp).1 _ a w (by simp) hE
  | goto l=>exact hE.elim
  | panic ch=>exact hE.elim
  | outgrown=>exact hE.elim
 | cond c x y ihx ihy =>
  intro path s;unfold exec;refine af.bind af.opt fun p hpv=>?_
  split
  . rename_i z
    have hev:∀ ρ a w,Rel v A F wS ρ0 nb0 s ρ a w->a.eval c=.bool (decide (z≠0)):=fun ρ a w h=>cZ (v:=v) (ρ:=ρ) PT.nil hpv fun t _=>h.slot t
    refine af.ite (fun hz=>?_) (fun hz=>?_)
    . refine af.imp (ihx path s) fun o ho hp ρ a w h=>wp_cond (hev ρ a w h) ?_
      simp only [hz,ne_eq,not_false_eq_true,decide_true,if_true];exact ho hp ρ a w h
    . refine af.imp (ihy path s) fun o ho hp ρ a w h=>wp_cond (hev ρ a w h) ?_
      have hz':z=0:=by simpa using hz
      simp only [hz',ne_eq,not_true_eq_false,decide_false,Bool.false_eq_true,if_false];exact ho hp ρ a w h
  . rename_i r hnr
    have hev:∀ ρ a w,Rel v A F wS ρ0 nb0 s ρ a w->a.eval c=.bool (decide (r.val v≠0)):=fun ρ a w h=>cZ (v:=v) (ρ:=ρ) PT.nil hpv fun t _=>h.slot t
    refine af.bind (ihx _ s) fun ox hox=>af.bind (ihy _ s) fun oy hoy=>af.bind (lD r ox) fun ux hux=>af.bind (af.notR r) fun r' hr'=>af.bind (lD r' oy) fun uy huy=>af.imp (ve ux uy) fun z hz hp ρ a w h=>wp_cond (hev ρ a w h) ?_
    by_cases h0:r.val v=0
    . have h0':r'.val v≠0:=hr'.2 h0;simp only [h0,ne_eq,not_true_eq_false,decide_false,Bool.false_eq_true,if_false];refine Code.wp_mono (fun e a w hE=>?_) (hoy (PT.cons.2 ⟨by simp [h0],hp⟩) ρ a w h)
      exact (hz.2 A F wS ρ0 nb0 e a w).2 (hux.1 h0) (huy.2 A F wS ρ0 nb0 e a w h0' hE)
    . have h0':r'.val v=0:=by
       apply Decidable.byContradiction;intro h1;exact h0 (hr'.1 h1)
      simp only [h0,ne_eq,not_false_eq_true,decide_true,if_true];refine Code.wp_mono (fun e a w hE=>?_) (hox (PT.cons.2 ⟨by simp [h0],hp⟩) ρ a w h)
      exact (hz.2 A F wS ρ0 nb0 e a w).1 (hux.2 A F wS ρ0 nb0 e a w h0 hE) (huy.1 h0')
  . exact af.fail
 | block id c ih =>
  intro path s;unfold exec;refine af.bind (ih path s) fun o ho=>af.bind (kD id o.exits o.norm) fun z hz=>?_
  obtain ⟨n,l⟩:=z;obtain ⟨hz1,hz2,hz3⟩:=hz;refine af.pure fun hp ρ a w h=>wp_block (Code.wp_mono (fun e a w hE=>?_) (ho hp ρ a w h))
  cases e with
  | normal=>exact ⟨(hz3 A F wS ρ0 nb0 a w).1 hE.1 hE.2.2,hE.2.1,hz1 hE.2.2⟩
  | ret=>exact ⟨hz2 hE.1 hE.2.2,hE.2.1,hz1 hE.2.2⟩
  | exit j =>
   by_cases hj:j=id
   . subst hj;obtain ⟨k1,k2⟩:=(hz3 A F wS ρ0 nb0 a w).2.1 hE.1 hE.2.2;simp only [Exit.inBlock,if_true];exact ⟨k1,hE.2.1,k2⟩
   . obtain ⟨k1,k2⟩:=(hz3 A F wS ρ0 nb0 a w).2.2 j hj hE.1 hE.2.2;simp only [Exit.inBlock,hj,if_false];exact ⟨k1,hE.2.1,k2⟩
  | goto l=>exact hE.elim
  | panic ch=>exact hE.elim
  | outgrown=>exact hE.elim
 | loop c ih =>
  intro path s;unfold exec;have key:∀ (n:Nat) (path:Path) (s:St),af X v (GJ (exec P specs rec rounds c) n path s) fun o=>PT v path->∀ ρ a w,Rel v A F wS ρ0 nb0 s ρ a w->Code.rounds P c (Ends v A F wS ρ0 nb0 o) n a w:=by
   intro n
   induction n with
   | zero=>intro path s;exact af.fail
   | succ n ihn =>
    intro path s;unfold GJ;refine af.bind (ih path s) fun o ho=>af.imp (sO path o _ (fun Q a w=>Code.rounds P c Q n a w) (fun Q Q' h a w hw=>tK h n a w hw) ihn) fun z hz hp ρ a w h=>?_
    rw [rounds_succ];refine Code.wp_mono (fun e a w hE=>?_) (ho hp ρ a w h)
    cases e with
    | normal=>exact (hz hp).2 a w hE
    | ret=>exact (hz hp).1 _ a w (by simp) hE
    | exit id=>exact (hz hp).1 _ a w (by simp) hE
    | goto l=>exact hE.elim
    | panic ch=>exact hE.elim
    | outgrown=>exact hE.elim
  exact af.imp (key rounds path s) fun o ho hp ρ a w h=>wp_loop_rounds rounds (ho hp ρ a w h)
 | rangeFunc f ps x y ihx ihy=>intro path s;exact af.fail
 | exit id =>
  intro path s;exact af.pure fun hp ρ a w h=>wp_exit ⟨dB,dB,[],[],_,_,rfl,by simp [fu],⟨ρ,h⟩,eF,eF⟩
 | scope c ih =>
  intro path s;unfold exec;exact af.imp (ih path s) fun o ho hp ρ a w h=>wp_scope_straight (Code.wp_mono (fun e a w hE=>by cases e<;>exact hE) (ho hp ρ a w h))
 | label l=>intro path s;exact af.pure fun _ ρ a w h=>wp_label ⟨one s ρ a w h,dB,eF⟩
 | goto l=>intro path s;exact af.fail
 | ret=>intro path s;exact af.pure fun _ ρ a w h=>wp_ret ⟨dB,one s ρ a w h,eF⟩
 | refuse why=>intro path s;exact af.fail
end
end Sx
namespace Sx
open Go Go.RowKit
section
variable {P:Program} {X:Cx} {v:Nat->Int}
theorem nK {n:Nat}:∀ {l:List Nat},below n l=true->∀ b∈l,b<n
 | x::l,h,b,hb=>by
  simp only [below,Bool.and_eq_true,decide_eq_true_eq] at h;rcases List.mem_cons.1 hb with rfl|hb
  . exact h.1
  . exact nK h.2 b hb
theorem IZ {A F:Nat->Prop} {wS:World} {ρ0:Nat->Option Nat} {nb0:Nat} {s:St} {ρ:Nat->Option Nat} {a:Act} {w:World} (h:Rel v A F wS ρ0 nb0 s ρ a w) {r:ResultVar} {x:SP} (hx:H5 P s r=some x) :
 ∃ y,(match r with|.tmp t=>pure (a.tmps.getD t undef)|.cell c t=>do loadVar t (← asAddr (a.tmps.getD c undef)):Sem Value).run P w=.ok y w/\bC v ρ x y:=by
 cases r with
 | tmp t =>
  simp only [H5] at hx;split at hx
  . rename_i x' he
    cases hx;exact ⟨_,rfl,cZ (v:=v) (a:=a) PT.nil he fun t' _=>h.slot t'⟩
  . cases hx
 | cell c t =>
  simp only [H5] at hx;split at hx
  . rename_i b o he
    have h1:aR v ρ (.p (.c (.ptr b o))) (a.tmps.getD c undef):=cZ (v:=v) (a:=a) PT.nil he fun t' _=>h.slot t'
    obtain ⟨n,hn,hp⟩:=h1;unfold qj at hx;split at hx
    . rename_i k hk
      obtain ⟨n',ys,q1,_,q3,q4⟩:=h.mem b k hk;rw [dI hk,hn] at q1;cases q1;obtain ⟨y,h5,h6⟩:=oD (P:=P) q3 q4 hx;refine ⟨y,?_,h6⟩;simp only [hp,asAddr,Sem.run_bind,Sem.run_pure,Result.andThen_ok];exact h5
    . cases hx
  . cases hx
theorem uP {A F:Nat->Prop} {wS:World} {ρ0:Nat->Option Nat} {nb0:Nat} {s:St} {ρ:Nat->Option Nat} {a:Act} {w:World} (h:Rel v A F wS ρ0 nb0 s ρ a w):∀ {l:List ResultVar} {xs:List SP},Az P s l=some xs ->
 ∃ ys:List Value,(l.mapM fun r=>(match r with|.tmp t=>pure (a.tmps.getD t undef)|.cell c t=>do loadVar t (← asAddr (a.tmps.getD c undef)):Sem Value)).run P w=.ok ys w/\bJ (bC v ρ) xs ys
 | [],xs,hx=>by cases hx;exact ⟨[],by simp,.nil⟩
 | r::l,xs,hx=>by
  simp only [Az] at hx;split at hx
  . rename_i y m h1 h2
    cases hx;obtain ⟨z,h3,h4⟩:=IZ h h1;obtain ⟨zs,h5,h6⟩:=uP h h2;refine ⟨z::zs,?_,.cons h4 h6⟩;rw [List.mapM_cons,Sem.run_bind,h3,Result.andThen_ok,Sem.run_bind,h5,Result.andThen_ok];rfl
  . cases hx
theorem vD {specs:List Spec} {rec:iG} (hs:∀ s∈specs,bR P X s) (hc:jZ P X v rec) (jc:P.follows .mixedOrders=true) (rounds:Nat):jZ P X v (vR P specs rec rounds):=by
 intro f args path mem nb;unfold vR;split
 . exact af.fail
 . rename_i fn hf
   split
   . exact af.fail
   . rename_i c hb
     refine af.ite (fun _=>af.fail) (fun hname=>?_)
     have hname' : (fn.name == "runtime.NumGoroutine") = false := by simpa using hname
     refine af.bind (af.all fun A=>af.all fun F=>af.all fun wS=>af.all fun ρ0=>af.all fun nb0=>af.all fun (hA:∀ n,A n->F n∨wS.heap.size<=n)=>af.all fun (hA':∀ n,wS.heap.size<=n->A n)=>Fj (A:=A) (F:=F) (wS:=wS) (ρ0:=ρ0) (nb0:=nb0) hs hc jc hA hA' rounds c path _) fun o ho=>?_
     refine af.ite (fun hex=>?_) (fun _=>af.fail)
     have hex':o.exits=[]:=List.isEmpty_iff.1 hex;refine af.bind (jh o.ret o.norm) fun r hr=>?_
     cases r with
     | none=>exact af.fail
     | some q =>
      obtain ⟨p,s⟩:=q;refine af.bind af.opt fun vs hvs=>?_
      simp only;have main:∀ (sv:SV),(below nb (SV.blocks.spsBlocks vs)&&((dZ (mem.map (·.b)) s.mem).all fun k=>below nb (dA k.cs))&&decide ((dZ (mem.map (·.b)) s.mem).map (·.b)=mem.map (·.b)))=true ->
       (∀ (ρ:Nat->Option Nat) (ys:List Value),bJ (bC v ρ) vs ys->aR v ρ sv (if h:(⟨ys⟩:Array Value).size=1 then (⟨ys⟩:Array Value)[0] else .tuple ⟨ys⟩)) ->
       af X v (M.pure (sv,dZ (mem.map (·.b)) s.mem)) fun r=>PT v path->∀ (ρ:Nat->Option Nat) (w:World) (xs:List Value),bJ (aR v ρ) args xs->Inv ρ w->(∀ b,nb<=b->ρ b=none)->fV v ρ (fun _=>True) w mem ->
        Bf P f/\Calls P f ⟨xs⟩ w fun e w'=>∃ x,e=.returned x/\∀ nm,Res v ρ ρ nm mem r.2 w w' r.1 x:=by
       intro sv hck hsv;simp only [Bool.and_eq_true,decide_eq_true_eq] at hck;obtain ⟨⟨hck1,hck2⟩,hck3⟩:=hck;refine af.pure fun hp ρ w xs hx hi hn hmem=>⟨⟨fn,c,hf,hb,hname'⟩,?_⟩
       have hlen:=hx.length;have hR:Rel v (fun n=>(∃ b k,aM b mem=some k/\ρ b=some n)∨w.heap.size<=n) (fun n=>∃ b k,aM b mem=some k/\ρ b=some n) w ρ nb
        ⟨args.map (fun v=>(⟨[],v⟩:Sl))++List.replicate (fn.ntmps-args.length) ⟨[],.tup []⟩,mem,nb⟩ ρ { tmps:=⟨xs⟩++Array.replicate (fn.ntmps-(⟨xs⟩:Array Value).size) undef,defers:=[] } w:=by
        refine ⟨by simp [hlen],rfl,fun t=>?_,fun b k hk=>?_,hi,hn,fun _ _=>rfl,Nat.le_refl _,Grow.refl _ _⟩
        . have gen:∀ (as:List SV) (ys:List Value) (m:Nat),bJ (aR v ρ) as ys->∀ t,bA v ρ (bO (as.map (fun v=>(⟨[],v⟩:Sl))++List.replicate m ⟨[],.tup []⟩) t) ((ys++List.replicate m undef).getD t undef):=by
           intro as ys m h
           induction h with
           | nil =>
            intro t
            by_cases ht:t<m
            . have e1:bO (List.map (fun v=>(⟨[],v⟩:Sl)) []++List.replicate m ⟨[],.tup []⟩) t=⟨[],.tup []⟩:=by
               simp [bO,List.getD_eq_getElem?_getD,ht]
              have e2:(([]:List Value)++List.replicate m undef).getD t undef=undef:=by
               simp [List.getD_eq_getElem?_getD,ht]
              rw [e1,e2];exact ⟨fun _=>⟨[],rfl,.nil⟩,fun h=>absurd PT.nil h⟩
            . rw [qC (by simp;omega)]
              exact bA.top _ _
           | cons h1 h2 ih =>
            intro t;cases t with
            | zero=>exact ⟨fun _=>h1,fun h=>absurd PT.nil h⟩
            | succ t=>exact ih t
          have:=gen args xs (fn.ntmps-args.length) hx t;have e:((⟨xs⟩:Array Value)++Array.replicate (fn.ntmps-(⟨xs⟩:Array Value).size) undef).getD t undef=(xs++List.replicate (fn.ntmps-args.length) undef).getD t undef:=by
           rw [hlen];rw [Array.getD_eq_getD_getElem?,<-Array.getElem?_toList,List.getD_eq_getElem?_getD];simp
          rw [e];exact this
        . obtain ⟨n,ys,q1,_,q3⟩:=hmem b k hk;exact ⟨n,ys,q1,Or.inl ⟨b,k,hk,by rw [<-dI hk];exact q1⟩,q3⟩
       refine calls_of_wp hf hb (Code.wp_mono (fun e a w' hE=>?_) (ho _ _ _ _ _ (fun n h=>h) (fun n h=>Or.inr h) hp ρ _ w hR))
       have fin:∀ (a:Act) (w':World),hot v (fun n=>(∃ b k,aM b mem=some k/\ρ b=some n)∨w.heap.size<=n) (fun n=>∃ b k,aM b mem=some k/\ρ b=some n) w ρ nb (some (p,s)) a w'->a.defers=[]/\∃ x,(results fn a.tmps).run P w'=.ok x w'/\∃ y,Ending.returned x=.returned y/\∀ nm,Res v ρ ρ nm mem (dZ (mem.map (·.b)) s.mem) w w' sv y:=by
        intro a w' hh;obtain ⟨_,_,he,_,ρ',hR'⟩:=hh;cases he;obtain ⟨ys,h1,h2⟩:=uP (P:=P) hR' hvs;refine ⟨hR'.df,(if h:(⟨ys⟩:Array Value).size=1 then (⟨ys⟩:Array Value)[0] else .tuple ⟨ys⟩),?_,_,rfl,fun nm=>?_⟩
        . unfold results;rw [Sem.run_bind,Array.mapM_eq_mapM_toList];simp only [Sem.run_map];have e1:∀ (g g':ResultVar->Sem Value),(∀ r,g r=g' r)->(fn.results.toList.mapM g).run P w'=(fn.results.toList.mapM g').run P w':=fun g g' h=>by rw [funext h]
          rw [e1 _ _ ?_,h1]
          . rfl
          . intro r;cases r<;>rfl
        . have back:∀ b,b<nb->∀ n,ρ' b=some n->ρ b=some n:=fun b hb n h=>by rw [<-hR'.old b hb];exact h
          refine ⟨fun _ _ h=>h,fun _ _=>rfl,hi.grow hR'.grow.size,?_,fun k hk=>?_,fun b k hk=>?_,?_⟩
          . refine hsv ρ ys (Cw (fun b hb n h=>back b (nK hck1 b hb) n h) h2)
          . have:k.b∈mem.map (·.b):=by rw [<-hck3];exact List.mem_map.2 ⟨k,hk,rfl⟩
            obtain ⟨k0,hk0,e0⟩:=List.mem_map.1 this;rw [<-e0];exact Or.inr (bH hk0)
          . obtain ⟨g1,g2⟩:=cO hk;obtain ⟨n,us,q1,q2,q3,q4⟩:=hR'.mem b k g1;obtain ⟨k0,hk0,e0⟩:=List.mem_map.1 g2;obtain ⟨k1,hk1⟩:=bH hk0;rw [e0] at hk1;obtain ⟨n1,_,q5,_⟩:=hmem b k1 hk1;rw [dI hk1] at q5;have hlt:b<nb:=by
             rcases Nat.lt_or_ge b nb with h|h
             . exact h
             . rw [hn b h] at q5;cases q5
            have hkb:=dI hk;refine ⟨n,us,back _ (by rw [hkb];exact hlt) n q1,q2,q3,?_⟩
            have hall:=List.all_eq_true.1 hck2 k (jY hk);exact oZ (fun b' hb' n' h=>back b' (nK hall b' hb') n' h) q4
          . refine ⟨hR'.grow.os,hR'.grow.tape,hR'.grow.output,hR'.grow.size,fun n hn1 hn2=>hR'.grow.block n hn1 ?_⟩
            rintro ⟨b,k,g1,g2⟩;have:b∈(dZ (mem.map (·.b)) s.mem).map (·.b):=by rw [hck3];exact List.mem_map.2 ⟨k,jY g1,dI g1⟩
            obtain ⟨k0,hk0,e0⟩:=List.mem_map.1 this;obtain ⟨k1,hk1⟩:=bH hk0;rw [e0] at hk1;exact hn2 ⟨b,k1,hk1,g2⟩
       cases e with
       | normal=>exact fin a w' ((hr.2 _ _ _ _ _ a w').2 hE.2.1 hE.1)
       | ret=>exact fin a w' ((hr.2 _ _ _ _ _ a w').1 hE.2.1 hE.1)
       | exit id =>
        obtain ⟨l1,l2,_,_,e,_⟩:=hE.2.2;rw [hex'] at e;simp at e
       | goto l=>exact hE.elim
       | panic ch=>exact hE.elim
       | outgrown=>exact hE.elim
      refine af.ite (fun hck=>?_) (fun _=>af.fail)
      split
      . rename_i x
        refine main _ hck fun ρ ys h=>?_
        cases h with
        | cons h1 h2=>cases h2;exact h1
      . rename_i hne
        refine main _ hck fun ρ ys h=>?_
        rw [dif_neg]
        . exact ⟨ys,rfl,h⟩
        . intro hsz;have:=h.length;have hsz':ys.length=1:=hsz;rw [hsz'] at this;obtain ⟨x,hx⟩:=List.length_eq_one_iff.1 this;exact hne x hx
theorem tF {specs:List Spec} (hs:∀ s∈specs,bR P X s) (jc:P.follows .mixedOrders=true) (rounds:Nat):∀ n,jZ P X v (GN P specs rounds n)
 | 0=>fun _ _ _ _ _=>af.fail
 | n+1=>vD hs (tF hs jc rounds n) jc rounds
theorem sJ:∀ (h:Sh) (i:Nat),af X v (Nz i h) fun cs=>∀ ρ,bJ (aO v ρ) cs (iK h (X.args.drop i))
 | [],i=>af.pure fun _=>.nil
 | k::h,i=>by
  refine af.bind (af.mk _) fun r hr=>af.bind (sJ h (i+1)) fun cs hcs=>af.pure fun ρ=>?_
  have e:r.val v=(X.args.drop i).headD 0:=by rw [hr,vO];rfl
  have ht:(X.args.drop i).tail=X.args.drop (i+1):=by rw [List.tail_drop]
  cases k with
  | some k=>simp only [iK];rw [ht];exact .cons (by simp only [aO];rw [e]) (hcs ρ)
  | none=>simp only [iK];rw [ht];exact .cons (by simp only [aO];rw [e]) (hcs ρ)
theorem pG:∀ (hs:List (Bool × Sh)) (i:Nat),af X v (Al i hs) fun xs=>∀ ρ,bJ (aR v ρ) xs (mkVals hs (X.args.drop i))
 | [],i=>af.pure fun _=>.nil
 | (g,h)::hs,i=>by
  refine af.bind (sJ h i) fun cs hcs=>af.bind (pG hs (i+h.length)) fun ps hps=>?_
  have hd:(X.args.drop i).drop h.length=X.args.drop (i+h.length):=by rw [List.drop_drop]
  cases g with
  | true=>exact af.pure fun ρ=>by simp only [mkVals];rw [hd];exact .cons ⟨_,rfl,hcs ρ⟩ (hps ρ)
  | false =>
   simp only [Bool.false_eq_true,if_false];split
   . rename_i x
     refine af.pure fun ρ=>?_
     simp only [mkVals];rw [hd];refine .cons ?_ (hps ρ);have h1:=hcs ρ;generalize iK h (X.args.drop i)=ys at h1;cases h1 with
     | cons h1 h2=>exact h1
   . exact af.fail
theorem Ct {specs:List Spec} (hs:∀ s∈specs,bR P X s) (jc:P.follows .mixedOrders=true) {rounds depth f:Nat} {sh:List (Bool × Sh)} {sv:SV} {b:Bd} (h:whole P specs rounds depth f sh=some (sv,b)) (g:Good X v b) (w:World) :
 Calls P f ⟨mkVals sh X.args⟩ w fun e w'=>∃ x,e=.returned x/\aR v (fun _=>none) sv x/\Below w.heap.size w w':=by
 unfold whole at h;have S:af X v (M.bind (Al 0 sh) fun args=>GN P specs rounds depth f args [] [] 0) fun r=>Calls P f ⟨mkVals sh X.args⟩ w fun e w'=>∃ x,e=.returned x/\aR v (fun _=>none) r.1 x/\Below w.heap.size w w':=by
  refine af.bind (pG sh 0) fun args ha=>af.imp (tF hs jc rounds depth f args [] [] 0) fun r hr=>?_
  have:=(hr PT.nil (fun _=>none) w _ (by simpa using ha (fun _=>none)) ⟨fun _ _ _ h=>(by cases h),fun _ _ h=>(by cases h)⟩ (fun _ _=>rfl) (fun _ _ h=>by cases h)).2
  refine this.mono ?_;rintro e w' ⟨x,he,hR⟩;have R:=hR 0;refine ⟨x,he,R.val,Grow.below ⟨R.grow.os,R.grow.tape,R.grow.output,R.grow.size,fun n hn _=>R.grow.block n hn ?_⟩⟩
  rintro ⟨_,_,_,h⟩;cases h
 split at h
 . rename_i r m b' hrun
   cases h;exact S _ _ _ hrun g
 . cases h
def Rf.lt (n:Nat):Rf->Bool
 | .c _=>true
 | .n i=>Nat.blt i n
def FX (n:Nat):List Rf->Bool
 | []=>true
 | x::l=>Rf.lt n x&&FX n l
def Nd.lt (n:Nat):Nd->Bool
 | .arg _=>true
 | .bin _ _ a b=>a.lt n&&b.lt n
 | .wrap _ a=>a.lt n
 | .ite c a b=>c.lt n&&(a.lt n&&b.lt n)
 | .mn a b=>a.lt n&&b.lt n
 | .mx a b=>a.lt n&&b.lt n
 | .app _ _ xs=>FX n xs
def wfN:List Nd->Bool
 | []=>true
 | x::l=>x.lt l.length&&wfN l
theorem Rf.val_congr {v v':Nat->Int} {n:Nat} (h:∀ i,i<n->v i=v' i) {r:Rf} (hr:r.lt n=true):r.val v=r.val v':=by
 cases r with
 | c z=>rfl
 | n i=>exact h i (by simp [Rf.lt,Nat.blt] at hr;omega)
theorem yC {v v':Nat->Int} {n:Nat} (h:∀ i,i<n->v i=v' i):∀ {l:List Rf},FX n l=true->l.map (Rf.val v)=l.map (Rf.val v')
 | [],_=>rfl
 | x::l,hl=>by
  simp only [FX,Bool.and_eq_true] at hl;simp only [List.map_cons];rw [Rf.val_congr h hl.1,yC h hl.2]
theorem Nd.val_congr {v v':Nat->Int} {n:Nat} (h:∀ i,i<n->v i=v' i) {x:Nd} (hx:x.lt n=true):x.val X v=x.val X v':=by
 cases x<;>simp only [Nd.lt,Bool.and_eq_true] at hx<;>simp only [Nd.val]
 . rw [Rf.val_congr h hx.1,Rf.val_congr h hx.2]
 . rw [Rf.val_congr h hx]
 . rw [Rf.val_congr h hx.1,Rf.val_congr h hx.2.1,Rf.val_congr h hx.2.2]
 . rw [Rf.val_congr h hx.1,Rf.val_congr h hx.2]
 . rw [Rf.val_congr h hx.1,Rf.val_congr h hx.2]
 . rw [yC h hx]
theorem gY.congr {v v':Nat->Int}:∀ {l:List Nd},wfN l=true->(∀ i,i<l.length->v i=v' i)->gY X v l->gY X v' l
 | [],_,_,_=>trivial
 | x::l,hw,h,hs=>by
  simp only [wfN,Bool.and_eq_true] at hw;refine ⟨?_,gY.congr hw.2 (fun i hi=>h i (by simp;omega)) hs.2⟩
  rw [<-h l.length (by simp),hs.1]
  exact Nd.val_congr (fun i hi=>h i (by simp;omega)) hw.1
theorem uX:∀ (l:List Nd),wfN l=true->∃ v,gY X v l
 | [],_=>⟨fun _=>0,trivial⟩
 | x::l,hw=>by
  have hw':=hw;simp only [wfN,Bool.and_eq_true] at hw'
  obtain ⟨v,hv⟩:=uX l hw'.2;refine ⟨fun i=>if i=l.length then x.val X v else v i,?_,?_⟩
  . simp only [if_true];exact Nd.val_congr (fun i hi=>by rw [if_neg (by omega)]) hw'.1
  . exact gY.congr hw'.2 (fun i hi=>by rw [if_neg (by omega)]) hv
end
theorem calls {P:Program} {X:Cx} {specs:List Spec} (jc:P.follows .mixedOrders=true) (hs:∀ s∈specs,bR P X s) {rounds depth f:Nat} {sh:List (Bool × Sh)} {sv:SV} {nodes:List Nd} {vcs:List Vc} (h:whole P specs rounds depth f sh=some (sv,⟨nodes,vcs⟩)) (hw:wfN nodes=true) {R:Value}
 (H:∀ v,gY X v nodes->(∀ c∈vcs,c.holds X v)/\∀ x,aR v (fun _=>none) sv x->x=R) (w:World) :
 Calls P f ⟨mkVals sh X.args⟩ w fun e w'=>e=.returned R/\Below w.heap.size w w':=by
 obtain ⟨v,hv⟩:=uX (X:=X) nodes hw;obtain ⟨h1,h2⟩:=H v hv;refine (Ct hs jc h ⟨hv,h1⟩ w).mono ?_;rintro e w' ⟨x,he,hx,hb⟩;exact ⟨by rw [he,h2 x hx],hb⟩
end Sx
namespace Sx
open Go Go.RowKit
section
variable {X:Cx} {v:Nat->Int}
theorem BX:∀ (l m:List Nd),gY X v (l.reverse++m)->∀ i nd,l[i]? = some nd->v (m.length+i)=nd.val X v
 | [],m,_,i,nd,h=>by simp at h
 | x::l,m,hs,i,nd,h=>by
  have hs':gY X v (l.reverse++(x::m)):=by simpa using hs
  cases i with
  | zero =>
   simp at h;subst h;exact (gY.drop (l:=l.reverse) hs').1
  | succ i =>
   have:=BX l (x::m) hs' i nd (by simpa using h)
   rw [<-this]
   congr 1
   simp;omega
theorem ag {l:List Nd} (h:gY X v l.reverse) (i:Nat) {nd:Nd} (hi:l[i]? = some nd):v i=nd.val X v:=by
 have:=BX (X:=X) (v:=v) l [] (by simpa using h) i nd hi
 simpa using this
theorem gT {l:List Vc} (h:∀ c∈l,c.holds X v):∀ c∈l.reverse,c.holds X v:=fun c hc=>h c (by simpa using hc)
theorem gM:∀ c∈([]:List Vc),c.holds X v:=fun c hc=>by cases hc
theorem aA {c:Vc} {l:List Vc} (h:c.holds X v) (t:∀ c∈l,c.holds X v):∀ d∈c::l,d.holds X v:=fun d hd=>by
 rcases List.mem_cons.1 hd with rfl|hd
 . exact h
 . exact t d hd
theorem bE {r:Rf} {p:Path} (h:PT v ((r,true)::p)):r.val v≠0/\PT v p:=by
 have:=PT.cons.1 h;exact ⟨by simpa using this.1,this.2⟩
end
end Sx
namespace Sx
open Go Go.RowKit
variable {v:Nat->Int} {ρ:Nat->Option Nat}
def plC:SC->Bool
 | .int _ _=>true
 | .bool _=>true
 | _=>false
def Qe (v:Nat->Int):SC->Value
 | .int k r=>.int k (r.val v)
 | .bool r=>.bool (decide (r.val v≠0))
 | _=>undef
theorem Gl {x:SC} {y:Value} (h:plC x=true) (r:aO v ρ x y):y=Qe v x:=by
 cases x with
 | int k r'=>exact r
 | bool r'=>exact r
 | _=>simp [plC] at h
theorem Ck:∀ {xs:List SC} {ys:List Value},xs.all plC=true->bJ (aO v ρ) xs ys->ys=xs.map (Qe v)
 | [],_,_,.nil=>rfl
 | x::xs,_,h,.cons r rs=>by
  simp only [List.all_cons,Bool.and_eq_true] at h;rw [List.map_cons,Gl h.1 r,Ck h.2 rs]
def plP:SP->Bool
 | .c x=>plC x
 | .agg xs=>xs.all plC
def Oz (v:Nat->Int):SP->Value
 | .c x=>Qe v x
 | .agg xs=>.agg ⟨xs.map (Qe v)⟩
theorem FW {x:SP} {y:Value} (h:plP x=true) (r:bC v ρ x y):y=Oz v x:=by
 cases x with
 | c x=>exact Gl h r
 | agg xs =>
  obtain ⟨ys,rfl,rs⟩:=r;rw [Ck h rs];rfl
theorem BI:∀ {xs:List SP} {ys:List Value},xs.all plP=true->bJ (bC v ρ) xs ys->ys=xs.map (Oz v)
 | [],_,_,.nil=>rfl
 | x::xs,_,h,.cons r rs=>by
  simp only [List.all_cons,Bool.and_eq_true] at h;rw [List.map_cons,FW h.1 r,BI h.2 rs]
def plV:SV->Bool
 | .top=>false
 | .p x=>plP x
 | .tup xs=>xs.all plP
def ZF (v:Nat->Int):SV->Value
 | .top=>undef
 | .p x=>Oz v x
 | .tup xs=>.tuple ⟨xs.map (Oz v)⟩
theorem gP {x:SV} {y:Value} (h:plV x=true) (r:aR v ρ x y):y=ZF v x:=by
 cases x with
 | top=>cases h
 | p x=>exact FW h r
 | tup xs =>
  obtain ⟨ys,rfl,rs⟩:=r;rw [BI h rs];rfl
end Sx
namespace Sx
open Go Go.RowKit
def Rf.le:Rf->Rf->Bool
 | .c _,_=>true
 | .n _,.c _=>false
 | .n i,.n j=>Nat.ble i j
def JQ (r:Rf):List Rf->Bool
 | []=>false
 | x::l=>Rf.eq x r || JQ r l
theorem pU {r:Rf}:∀ {l:List Rf},JQ r l=true->r∈l
 | x::l,h=>by
  simp only [JQ,Bool.or_eq_true] at h;rcases h with h|h
  . rw [Rf.eq_eq h];exact List.mem_cons_self ..
  . exact List.mem_cons_of_mem _ (pU h)
def sG (f:Rf->Rf):Nd->Nd
 | .arg i=>.arg i
 | .bin op k a b=>.bin op k (f a) (f b)
 | .wrap k a=>.wrap k (f a)
 | .ite c a b=>.ite (f c) (f a) (f b)
 | .mn a b=>.mn (f a) (f b)
 | .mx a b=>.mx (f a) (f b)
 | .app g i xs=>.app g i (xs.map f)
def hR:Rf->Nat
 | .c (.ofNat z)=>Nat.mul 4 z
 | .c (.negSucc z)=>Nat.add (Nat.mul 4 z) 2
 | .n i=>Nat.add (Nat.mul 2 i) 1
def hRs:List Rf->Nat
 | []=>0
 | x::l=>Nat.add (hR x) (Nat.mul 4099 (hRs l))
def hN:Nd->Nat
 | .arg i=>Nat.mul 16 i
 | .bin op _ a b=>Nat.add (Nat.mul 16 (Nat.add (Kc op) (Nat.mul 32 (Nat.add (hR a) (Nat.mul 4099 (hR b)))))) 1
 | .wrap _ a=>Nat.add (Nat.mul 16 (hR a)) 2
 | .ite c a b=>Nat.add (Nat.mul 16 (Nat.add (hR c) (Nat.mul 4099 (Nat.add (hR a) (Nat.mul 4099 (hR b)))))) 3
 | .mn a b=>Nat.add (Nat.mul 16 (Nat.add (hR a) (Nat.mul 4099 (hR b)))) 4
 | .mx a b=>Nat.add (Nat.mul 16 (Nat.add (hR a) (Nat.mul 4099 (hR b)))) 5
 | .app f i xs=>Nat.add (Nat.mul 16 (Nat.add (Nat.add i (Nat.mul 8 f)) (Nat.mul 512 (hRs xs)))) 6
structure Te where
 h:Nat
 j:Nat
 q:Rf
 x:Nd
abbrev Tab:=List Te
def BO (i:Nat):Tab->Option Nd
 | []=>none
 | ⟨_,j,q,x⟩::l=>bif Nat.beq j i then (bif Rf.eq q (.n i) then some x else BO i l) else BO i l
def RG (r:Rf) (t:Tab):Option Nd:=match r with
 | .n i=>BO i t
 | .c _=>none
def Cm (k:Nat) (x:Nd):Tab->Option Rf
 | []=>none
 | ⟨h,_,q,y⟩::l=>bif Nat.beq h k then (bif Nd.eq y x then some q else Cm k x l) else Cm k x l
def xO (x:Nd) (t:Tab):Option Rf:=Cm (hN x) x t
def mxN (a b:Rf):Nd:=if Rf.le a b then .mx a b else .mx b a
def mnN (a b:Rf):Nd:=if Rf.le a b then .mn a b else .mn b a
inductive Rs where
 | rf (r:Rf)
 | nd (x:Nd)
def wW (t:Tab) (nz:List Rf):Nat->Rf->Rf->Rf->Rs
 | _,.c z,a,b=>.rf (if ieq z 0 then b else a)
 | 0,c,a,b=>.nd (.ite c a b)
 | f+1,c,a,b =>
  if Rf.eq a b then .rf a
  else if JQ c nz then .rf a
  else match RG c t with
   | some (.ite d (.c (.ofNat 0)) (.c (.ofNat 1)))=>wW t nz f d b a
   | some (.bin .neq k p q) =>
    if Rf.eq a (.c 1)&&Rf.eq b (.c 0) then .rf c
    else if Rf.eq a p&&Rf.eq b q then .rf p
    else if Rf.eq a q&&Rf.eq b p then .rf q
    else match xO (.bin .eql k p q) t with
     | some c2=>if Rf.le c2 c then wW t nz f c2 b a else .nd (.ite c a b)
     | none=>.nd (.ite c a b)
   | some (.bin .eql k p q) =>
    if Rf.eq a (.c 1)&&Rf.eq b (.c 0) then .rf c
    else if Rf.eq a p&&Rf.eq b q then .rf q
    else if Rf.eq a q&&Rf.eq b p then .rf p
    else match xO (.bin .neq k p q) t with
     | some c2=>if Rf.le c2 c then wW t nz f c2 b a else .nd (.ite c a b)
     | none=>.nd (.ite c a b)
   | some (.bin .lss k p q) =>
    if Rf.eq a (.c 1)&&Rf.eq b (.c 0) then .rf c
    else if Rf.eq a q&&Rf.eq b p then .nd (mxN p q)
    else if Rf.eq a p&&Rf.eq b q then .nd (mnN p q)
    else match xO (.bin .leq k q p) t with
     | some c2=>if Rf.le c2 c then wW t nz f c2 b a else .nd (.ite c a b)
     | none=>.nd (.ite c a b)
   | some (.bin .leq k p q) =>
    if Rf.eq a (.c 1)&&Rf.eq b (.c 0) then .rf c
    else if Rf.eq a q&&Rf.eq b p then .nd (mxN p q)
    else if Rf.eq a p&&Rf.eq b q then .nd (mnN p q)
    else match xO (.bin .lss k q p) t with
     | some c2=>if Rf.le c2 c then wW t nz f c2 b a else .nd (.ite c a b)
     | none=>.nd (.ite c a b)
   | _=>.nd (.ite c a b)
def UW (nz:List Rf) (op:BinOp) (k:IntKind):Rf->Rf->Rs
 | .c x,.c y=>.rf (.c (dK op k x y))
 | a,b=>match op with
  | .eql=>if Rf.eq a b then .rf (.c 1) else if Rf.eq b (.c 0)&&JQ a nz then .rf (.c 0) else .nd (.bin .eql k a b)
  | .neq=>if Rf.eq a b then .rf (.c 0) else if Rf.eq b (.c 0)&&JQ a nz then .rf (.c 1) else .nd (.bin .neq k a b)
  | .lss=>if Rf.eq a b then .rf (.c 0) else .nd (.bin .lss k a b)
  | .leq=>if Rf.eq a b then .rf (.c 1) else .nd (.bin .leq k a b)
  | .gtr=>if Rf.eq a b then .rf (.c 0) else .nd (.bin .lss k b a)
  | .geq=>if Rf.eq a b then .rf (.c 1) else .nd (.bin .leq k b a)
  | op=>.nd (.bin op k a b)
def mnR:Rf->Rf->Rs
 | .c x,.c y=>.rf (.c (if y<x then y else x))
 | a,b=>if Rf.eq a b then .rf a else .nd (mnN a b)
def mxR:Rf->Rf->Rs
 | .c x,.c y=>.rf (.c (if y>x then y else x))
 | a,b=>if Rf.eq a b then .rf a else .nd (mxN a b)
def O0 (t:Tab) (nz:List Rf):Nd->Rs
 | .bin op k a b=>UW nz op k a b
 | .ite c a b=>wW t nz 6 c a b
 | .wrap k (.c x)=>.rf (.c (k.wrap x))
 | .mn a b=>mnR a b
 | .mx a b=>mxR a b
 | x=>.nd x
abbrev Ext:=Tab->Nd->Option Rf
structure Ns where
 n:Nat
 reps:List Rf
 tab:Tab
def Ns.rep (s:Ns):Rf->Rf
 | .c z=>.c z
 | .n i=>if Nat.blt i s.n then (match s.reps[s.n-1-i]? with|some r=>r|none=>.n i) else .n i
def Gg (n:Nat):List (Nat × Rf)->Option Rf
 | []=>none
 | (i,r)::l=>if Nat.beq i n then some r else Gg n l
def Tn (s:Ns) (x:Nd):Ns:=match xO x s.tab with
 | some r=>⟨s.n+1,r::s.reps,s.tab⟩
 | none=>⟨s.n+1,.n s.n::s.reps,⟨hN x,s.n,.n s.n,x⟩::s.tab⟩
def Dj (ext:Ext) (ps:List (Nat × Rf)) (nz:List Rf) (s:Ns) (x0:Nd):Ns :=
 match Gg s.n ps with
 | some (.c z)=>match O0 s.tab nz (sG s.rep x0) with
  | .rf _=>⟨s.n+1,.c z::s.reps,s.tab⟩
  | .nd x=>⟨s.n+1,.c z::s.reps,⟨hN x,0,.c z,x⟩::s.tab⟩
 | some (.n j)=>⟨s.n+1,s.rep (.n j)::s.reps,s.tab⟩
 | none=>match ext s.tab (sG s.rep x0) with
  | some r=>⟨s.n+1,r::s.reps,s.tab⟩
  | none=>match O0 s.tab nz (sG s.rep x0) with
   | .rf r=>⟨s.n+1,r::s.reps,s.tab⟩
   | .nd x=>Tn s x
def runN (ext:Ext) (ps:List (Nat × Rf)) (nz:List Rf):Ns->List Nd->Ns
 | s,[]=>s
 | s,x::l=>runN ext ps nz (Dj ext ps nz s x) l
def norm (ext:Ext) (ps:List (Nat × Rf)) (nz:List Rf) (l:List Nd):Ns:=runN ext ps nz ⟨0,[],[]⟩ l
section
variable {X:Cx} {v:Nat->Int}
def lW (X:Cx) (v:Nat->Int) (t:Tab):Prop:=∀ e∈t,e.q.val v=e.x.val X v
theorem wo {i:Nat}:∀ {t:Tab} {x:Nd},lW X v t->BO i t=some x->(Rf.n i).val v=x.val X v
 | ⟨h,j,q,y⟩::l,x,ht,hd=>by
  have hl:lW X v l:=fun e he=>ht e (List.mem_cons_of_mem _ he)
  simp only [BO] at hd;cases h1:Nat.beq j i<;>rw [h1] at hd
  . exact wo hl hd
  . cases h2:Rf.eq q (.n i)<;>rw [h2] at hd
    . exact wo hl hd
    . have e:y=x:=Option.some.inj hd;rw [<-Rf.eq_eq h2,<-e];exact ht ⟨h,j,q,y⟩ (List.mem_cons_self ..)
theorem lJ {r:Rf} {t:Tab} {x:Nd} (ht:lW X v t) (h:RG r t=some x):r.val v=x.val X v:=by
 cases r with
 | c z=>cases h
 | n i=>exact wo ht h
theorem vQ {k:Nat} {x:Nd}:∀ {t:Tab} {r:Rf},lW X v t->Cm k x t=some r->r.val v=x.val X v
 | ⟨h,j,q,y⟩::l,r,ht,hd=>by
  have hl:lW X v l:=fun e he=>ht e (List.mem_cons_of_mem _ he)
  simp only [Cm] at hd;cases h1:Nat.beq h k<;>rw [h1] at hd
  . exact vQ hl hd
  . cases h2:Nd.eq y x<;>rw [h2] at hd
    . exact vQ hl hd
    . have e:q=r:=Option.some.inj hd;rw [<-Nd.eq_eq h2,<-e];exact ht ⟨h,j,q,y⟩ (List.mem_cons_self ..)
theorem lI {x:Nd} {t:Tab} {r:Rf} (ht:lW X v t) (h:xO x t=some r):r.val v=x.val X v:=vQ ht h
def Rs.val (X:Cx) (v:Nat->Int):Rs->Int
 | .rf r=>r.val v
 | .nd x=>x.val X v
theorem AR (a b:Rf):(mxN a b).val X v=if b.val v>a.val v then b.val v else a.val v:=by
 unfold mxN;split
 . rfl
 . simp only [Nd.val];split<;>split<;>omega
theorem zJ (a b:Rf):(mnN a b).val X v=if b.val v<a.val v then b.val v else a.val v:=by
 unfold mnN;split
 . rfl
 . simp only [Nd.val];split<;>split<;>omega
theorem lT {p:Prop} [Decidable p] {x y:Int}:(if b2i (decide p)≠0 then x else y)=if p then x else y:=by by_cases h:p<;>simp [b2i,h]
theorem lw {b:Bool} {x y:Int}:(if b2i b≠0 then x else y)=if b then x else y:=by cases b<;>rfl
theorem xK (z:Int) (a b:Rf):(Rs.rf (if ieq z 0 then b else a)).val X v=if (Rf.c z).val v≠0 then a.val v else b.val v:=by
 by_cases h:ieq z 0=true
 . have e:=zu h;subst e;rfl
 . have hz:z≠0:=fun q=>h (by rw [q];exact Km 0)
   have e1:(if ieq z 0=true then b else a)=a:=if_neg h
   have e2:(if z≠0 then a.val v else b.val v)=a.val v:=if_pos hz
   show (if ieq z 0=true then b else a).val v=if z≠0 then a.val v else b.val v
   rw [e1,e2]
theorem pz (b:Bool):b2i b=if b2i b≠0 then (1:Int) else 0:=by cases b<;>rfl
theorem OZ {t:Tab} {nz:List Rf} (ht:lW X v t) (hz:∀ r∈nz,r.val v≠0):∀ (f:Nat) (c a b:Rf),(wW t nz f c a b).val X v=if c.val v≠0 then a.val v else b.val v:=by
 intro f
 induction f with
 | zero =>
  intro c a b;cases c with
  | c z =>
   simp only [wW];exact xK z a b
  | n i=>simp only [wW,Rs.val,Nd.val]
 | succ f ih =>
  intro c a b;cases c with
  | c z =>
   simp only [wW];exact xK z a b
  | n i =>
   simp only [wW];split
   . rename_i h;rw [Rf.eq_eq h];simp only [Rs.val];split<;>rfl
   . split
     . rename_i h;rw [if_pos (hz _ (pU h))];simp only [Rs.val]
     . split
       . rename_i d hd
         have e:(Rf.n i).val v=if d.val v≠0 then (0:Int) else 1:=lJ ht hd
         rw [ih,e];generalize d.val v=z
         by_cases q:z=0
         . subst q;rfl
         . rw [if_pos q,if_pos q];rfl
       . rename_i k p q hd
         have e:=lJ ht hd;simp only [Nd.val,dK] at e;split
         . rename_i h
           simp only [Bool.and_eq_true] at h;rw [Rf.eq_eq h.1,Rf.eq_eq h.2];show (Rf.n i).val v=if (Rf.n i).val v≠0 then (1:Int) else 0
           rw [e];exact pz _
         . split
           . rename_i h
             simp only [Bool.and_eq_true] at h;rw [Rf.eq_eq h.1,Rf.eq_eq h.2,e,lw];simp only [Rs.val]
             by_cases s:p.val v=q.val v<;>simp [s]
           . split
             . rename_i h
               simp only [Bool.and_eq_true] at h;rw [Rf.eq_eq h.1,Rf.eq_eq h.2,e,lw];simp only [Rs.val]
               by_cases s:p.val v=q.val v<;>simp [s]
             . split
               . rename_i c2 h2
                 split
                 . have e2:=lI ht h2;simp only [Nd.val,dK] at e2;rw [ih,e,e2,lw,lw]
                   by_cases s:p.val v=q.val v<;>simp [s]
                 . simp only [Rs.val,Nd.val]
               . simp only [Rs.val,Nd.val]
       . rename_i k p q hd
         have e:=lJ ht hd;simp only [Nd.val,dK] at e;split
         . rename_i h
           simp only [Bool.and_eq_true] at h;rw [Rf.eq_eq h.1,Rf.eq_eq h.2];show (Rf.n i).val v=if (Rf.n i).val v≠0 then (1:Int) else 0
           rw [e];exact pz _
         . split
           . rename_i h
             simp only [Bool.and_eq_true] at h;rw [Rf.eq_eq h.1,Rf.eq_eq h.2,e,lw];simp only [Rs.val]
             by_cases s:p.val v=q.val v<;>simp [s]
           . split
             . rename_i h
               simp only [Bool.and_eq_true] at h;rw [Rf.eq_eq h.1,Rf.eq_eq h.2,e,lw];simp only [Rs.val]
               by_cases s:p.val v=q.val v<;>simp [s]
             . split
               . rename_i c2 h2
                 split
                 . have e2:=lI ht h2;simp only [Nd.val,dK] at e2;rw [ih,e,e2,lw,lw]
                   by_cases s:p.val v=q.val v<;>simp [s]
                 . simp only [Rs.val,Nd.val]
               . simp only [Rs.val,Nd.val]
       . rename_i k p q hd
         have e:=lJ ht hd;simp only [Nd.val,dK] at e;split
         . rename_i h
           simp only [Bool.and_eq_true] at h;rw [Rf.eq_eq h.1,Rf.eq_eq h.2];show (Rf.n i).val v=if (Rf.n i).val v≠0 then (1:Int) else 0
           rw [e];exact pz _
         . split
           . rename_i h
             simp only [Bool.and_eq_true] at h;rw [Rf.eq_eq h.1,Rf.eq_eq h.2,e,lT];simp only [Rs.val];rw [AR]
           . split
             . rename_i h
               simp only [Bool.and_eq_true] at h;rw [Rf.eq_eq h.1,Rf.eq_eq h.2,e,lT];simp only [Rs.val];rw [zJ];split<;>split<;>omega
             . split
               . rename_i c2 h2
                 split
                 . have e2:=lI ht h2;simp only [Nd.val,dK] at e2;rw [ih,e,e2,lT,lT];split<;>split<;>first|rfl|omega
                 . simp only [Rs.val,Nd.val]
               . simp only [Rs.val,Nd.val]
       . rename_i k p q hd
         have e:=lJ ht hd;simp only [Nd.val,dK] at e;split
         . rename_i h
           simp only [Bool.and_eq_true] at h;rw [Rf.eq_eq h.1,Rf.eq_eq h.2];show (Rf.n i).val v=if (Rf.n i).val v≠0 then (1:Int) else 0
           rw [e];exact pz _
         . split
           . rename_i h
             simp only [Bool.and_eq_true] at h;rw [Rf.eq_eq h.1,Rf.eq_eq h.2,e,lT];simp only [Rs.val];rw [AR];split<;>split<;>omega
           . split
             . rename_i h
               simp only [Bool.and_eq_true] at h;rw [Rf.eq_eq h.1,Rf.eq_eq h.2,e,lT];simp only [Rs.val];rw [zJ];split<;>split<;>omega
             . split
               . rename_i c2 h2
                 split
                 . have e2:=lI ht h2;simp only [Nd.val,dK] at e2;rw [ih,e,e2,lT,lT];split<;>split<;>first|rfl|omega
                 . simp only [Rs.val,Nd.val]
               . simp only [Rs.val,Nd.val]
       . simp only [Rs.val,Nd.val]
theorem OI {nz:List Rf} (hz:∀ r∈nz,r.val v≠0) (op:BinOp) (k:IntKind) (a b:Rf):(UW nz op k a b).val X v=dK op k (a.val v) (b.val v):=by
 unfold UW;split
 . rfl
 . split
   . split
     . rename_i h;rw [Rf.eq_eq h];simp [Rs.val,Rf.val,dK,b2i]
     . split
       . rename_i h
         simp only [Bool.and_eq_true] at h;have:=hz _ (pU h.2);have e:(a.val v==0)=false:=by simpa using this
         rw [Rf.eq_eq h.1];show (0:Int)=b2i (a.val v==0);rw [e];rfl
       . rfl
   . split
     . rename_i h;rw [Rf.eq_eq h];simp [Rs.val,Rf.val,dK,b2i]
     . split
       . rename_i h
         simp only [Bool.and_eq_true] at h;have:=hz _ (pU h.2);have e:(a.val v != 0)=true:=by simpa using this
         rw [Rf.eq_eq h.1];show (1:Int)=b2i (a.val v != 0);rw [e];rfl
       . rfl
   . split
     . rename_i h;rw [Rf.eq_eq h];simp [Rs.val,Rf.val,dK,b2i]
     . rfl
   . split
     . rename_i h;rw [Rf.eq_eq h];simp [Rs.val,Rf.val,dK,b2i]
     . rfl
   . split
     . rename_i h;rw [Rf.eq_eq h];simp [Rs.val,Rf.val,dK,b2i]
     . rfl
   . split
     . rename_i h;rw [Rf.eq_eq h];simp [Rs.val,Rf.val,dK,b2i]
     . rfl
   . rfl
theorem Gx {t:Tab} {nz:List Rf} (ht:lW X v t) (hz:∀ r∈nz,r.val v≠0) (x:Nd):(O0 t nz x).val X v=x.val X v:=by
 unfold O0;split
 . exact OI hz _ _ _ _
 . exact OZ ht hz _ _ _ _
 . rfl
 . rename_i a b
   unfold mnR;split
   . rfl
   . split
     . rename_i h;rw [Rf.eq_eq h];simp [Rs.val,Nd.val]
     . exact zJ _ _
 . rename_i a b
   unfold mxR;split
   . rfl
   . split
     . rename_i h;rw [Rf.eq_eq h];simp [Rs.val,Nd.val]
     . exact AR _ _
 . rfl
theorem LQ {f:Rf->Rf} (h:∀ r,(f r).val v=r.val v) (x:Nd):(sG f x).val X v=x.val X v:=by
 cases x<;>simp only [sG,Nd.val,h]
 congr 2
 rw [List.map_map];exact List.map_congr_left fun r _=>h r
def uM (X:Cx) (ext:Ext):Prop:=∀ (v:Nat->Int) (t:Tab) (x:Nd) (r:Rf),lW X v t->ext t x=some r->r.val v=x.val X v
def zC (X:Cx) (v:Nat->Int) (s:Ns):Prop:=s.reps.length=s.n/\(∀ (i:Nat) (r:Rf),i<s.n->s.reps[s.n-1-i]? = some r->r.val v=v i)/\lW X v s.tab
theorem qR {s:Ns} (h:zC X v s) (r:Rf):(s.rep r).val v=r.val v:=by
 cases r with
 | c z=>rfl
 | n i =>
  simp only [Ns.rep];split
  . rename_i hb
    have hi:i<s.n:=by simpa using hb
    split
    . rename_i r hr;exact h.2.1 i r hi hr
    . rfl
  . rfl
theorem kz {s:Ns} (h:zC X v s) {r:Rf} (hr:r.val v=v s.n) {t:Tab} (ht:lW X v t):zC X v ⟨s.n+1,r::s.reps,t⟩:=by
 refine ⟨by simp [h.1],fun i q hi hq=>?_,ht⟩
 simp only at hi hq
 by_cases e:i=s.n
 . subst e;rw [show s.n+1-1-s.n=0 by omega] at hq
   simp at hq;rw [<-hq];exact hr
 . rw [show s.n+1-1-i=(s.n-1-i)+1 by omega,List.getElem?_cons_succ] at hq
   exact h.2.1 i q (by omega) hq
theorem rO {n:Nat}:∀ {ps:List (Nat × Rf)} {r:Rf},Gg n ps=some r->(n,r)∈ps
 | (i,q)::l,r,h=>by
  simp only [Gg] at h;split at h
  . rename_i hb
    cases h;rw [Nat.eq_of_beq_eq_true hb];exact List.mem_cons_self ..
  . exact List.mem_cons_of_mem _ (rO h)
theorem MV {ext:Ext} (he:uM X ext) {ps:List (Nat × Rf)} (hp:∀ p∈ps,v p.1=p.2.val v) {nz:List Rf} (hz:∀ r∈nz,r.val v≠0) {s:Ns} (h:zC X v s) {x:Nd} (hx:v s.n=x.val X v):zC X v (Dj ext ps nz s x):=by
 have hm:(sG s.rep x).val X v=v s.n:=by rw [LQ (qR h),hx]
 unfold Dj;split
 . rename_i z hl
   have e:=hp _ (rO hl);have g:=Gx h.2.2 hz (sG s.rep x);split
   . exact kz h e.symm h.2.2
   . rename_i y hr
     rw [hr] at g;exact kz h e.symm fun q hq=>by
      rcases List.mem_cons.1 hq with rfl|hq
      . exact (e.symm.trans hm.symm).trans g.symm
      . exact h.2.2 q hq
 . rename_i j hl
   have e:=hp _ (rO hl);exact kz h ((qR h _).trans e.symm) h.2.2
 . split
   . rename_i r hr
     exact kz h ((he v s.tab _ r h.2.2 hr).trans hm) h.2.2
   . have g:=Gx h.2.2 hz (sG s.rep x);split
     . rename_i r hr
       rw [hr] at g;exact kz h (g.trans hm) h.2.2
     . rename_i y hr
       rw [hr] at g;unfold Tn;split
       . rename_i r hf
         exact kz h ((lI h.2.2 hf).trans (g.trans hm)) h.2.2
       . exact kz h rfl fun q hq=>by
          rcases List.mem_cons.1 hq with rfl|hq
          . exact (g.trans hm).symm
          . exact h.2.2 q hq
theorem QM (ext:Ext) (ps:List (Nat × Rf)) (nz:List Rf) (s:Ns) (x:Nd):(Dj ext ps nz s x).n=s.n+1:=by
 unfold Dj Tn
 repeat' split
 all_goals rfl
theorem Ie {ext:Ext} (he:uM X ext) {ps:List (Nat × Rf)} (hp:∀ p∈ps,v p.1=p.2.val v) {nz:List Rf} (hz:∀ r∈nz,r.val v≠0):∀ (l:List Nd) (s:Ns),zC X v s->(∀ i nd,l[i]? = some nd->v (s.n+i)=nd.val X v)->zC X v (runN ext ps nz s l)
 | [],s,h,_=>h
 | x::l,s,h,hl=>by
  refine Ie he hp hz l _ (MV he hp hz h (by simpa using hl 0 x rfl)) fun i nd hi=>?_
  rw [QM,show s.n+1+i=s.n+(i+1) by omega]
  exact hl (i+1) nd (by simpa using hi)
theorem tY {ext:Ext} (he:uM X ext) {l:List Nd} (hs:gY X v l.reverse) {ps:List (Nat × Rf)} (hp:∀ p∈ps,v p.1=p.2.val v) {nz:List Rf} (hz:∀ r∈nz,r.val v≠0):zC X v (norm ext ps nz l) :=
 Ie he hp hz l ⟨0,[],[]⟩ ⟨rfl,fun i r hi=>absurd hi (Nat.not_lt_zero i),fun e he=>by cases he⟩ (fun i nd hi=>by simpa using ag hs i hi)
theorem bP {ext:Ext} (he:uM X ext) {l:List Nd} (hs:gY X v l.reverse) {ps:List (Nat × Rf)} (hp:∀ p∈ps,v p.1=p.2.val v) {nz:List Rf} (hz:∀ r∈nz,r.val v≠0) {k:Nat} {r:Rf} (h:Rf.eq ((norm ext ps nz l).rep (.n k)) r=true):v k=r.val v:=by
 have:=qR (tY he hs hp hz) (.n k);rw [Rf.eq_eq h] at this;exact this.symm
theorem aS:∀ p∈([]:List (Nat × Rf)),v p.1=p.2.val v:=fun p hp=>by cases hp
theorem ae {k:Nat} {r:Rf} {l:List (Nat × Rf)} (h:v k=r.val v) (t:∀ p∈l,v p.1=p.2.val v):∀ p∈(k,r)::l,v p.1=p.2.val v:=fun p hp=>by
 rcases List.mem_cons.1 hp with rfl|hp
 . exact h
 . exact t p hp
theorem dz:∀ r∈([]:List Rf),r.val v≠0:=fun p hp=>by cases hp
end
