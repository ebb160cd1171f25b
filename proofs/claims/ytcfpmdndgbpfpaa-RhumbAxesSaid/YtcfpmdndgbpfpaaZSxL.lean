/- A symbolic run of Go code without dynamic loops: one operation of a region. -/
import Derived.Test.YtcfpmdndgbpfpaaZSxA
import Derived.LoopN
import Derived.Scope
set_option linter.unusedVariables false
set_option linter.unusedSimpArgs false
namespace Sx
open Go Go.RowKit
section
variable {P:Program} {X:Cx} {v:Nat->Int}
def aQ (v:Nat->Int) (ρ:Nat->Option Nat) (x:Sl) (y:Value):Prop:=(PT v x.cond->aG v ρ x.v y)/\(¬ PT v x.cond->y=undef)
theorem aQ.mono {ρ ρ':Nat->Option Nat} {x:Sl} {y:Value} (hm:∀ b n,ρ b=some n->ρ' b=some n) (h:aQ v ρ x y):aQ v ρ' x y :=
 ⟨fun hp=>aG.mono (fun b _ n=>hm b n) (h.1 hp),h.2⟩
theorem aQ.top (ρ:Nat->Option Nat) (y:Value):aQ v ρ ⟨[],.top⟩ y:=⟨fun _=>trivial,fun h=>absurd (fun x hx=>by cases hx) h⟩
theorem nH {s:List Sl} {t:Nat} (h:s.length<=t):bf s t=⟨[],.top⟩:=by
 unfold bf;rw [List.getD_eq_getElem?_getD,List.getElem?_eq_none h];rfl
theorem PT.nil:PT v []:=fun x hx=>by cases hx
theorem PT.append {p q:Path}:PT v (p++q)↔PT v p/\PT v q:=by
 unfold PT
 constructor
 . intro h;exact ⟨fun x hx=>h x (List.mem_append_left _ hx),fun x hx=>h x (List.mem_append_right _ hx)⟩
 . intro h x hx;rcases List.mem_append.1 hx with h1|h1
   . exact h.1 x h1
   . exact h.2 x h1
theorem PT.cons {p:Path} {r:Rf} {b:Bool}:PT v ((r,b)::p)↔decide (r.val v≠0)=b/\PT v p:=by
 unfold PT
 constructor
 . intro h;exact ⟨h _ (List.mem_cons_self ..),fun x hx=>h x (List.mem_cons_of_mem _ hx)⟩
 . intro h x hx;rcases List.mem_cons.1 hx with rfl|h1
   . exact h.1
   . exact h.2 x h1
theorem bD {ρ:Nat->Option Nat} {s:List Sl} {A:Path} {a:Act} (hA:PT v A) {x:Operand} {sv:SV} (h:eX s A x=some sv) (hr:∀ t,x=.tmp t->aQ v ρ (bf s t) (a.tmps.getD t undef)):aG v ρ sv (a.eval x):=by
 cases x with
 | tmp t =>
  simp only [eX] at h;split at h
  . rename_i hc
    cases h;refine (hr t rfl).1 fun x hx=>hA x ?_
    have:=List.all_eq_true.1 hc x hx;exact List.contains_iff_mem.1 this
  . cases h
 | const c=>exact GM h
 | global g=>cases h
 | func f=>cases h;exact ⟨[],.nil,rfl⟩
theorem eB {t:Nat}:∀ {l:List Operand},Operand.tmp t∈l->t∈tmpsOf l
 | .tmp u::l,h=>by
  rcases List.mem_cons.1 h with h|h
  . cases h;exact List.mem_cons_self ..
  . exact List.mem_cons_of_mem _ (eB h)
 | .const _::l,h=>by
  rcases List.mem_cons.1 h with h|h
  . cases h
  . show t∈tmpsOf l;exact eB h
 | .global _::l,h=>by
  rcases List.mem_cons.1 h with h|h
  . cases h
  . show t∈tmpsOf l;exact eB h
 | .func _::l,h=>by
  rcases List.mem_cons.1 h with h|h
  . cases h
  . show t∈tmpsOf l;exact eB h
theorem fw {a:Act} {d:Option Tmp} {y:Value} {t:Nat} (h:t ∉ d.toList):(a.put d y).tmps.getD t undef=a.tmps.getD t undef:=by
 cases d with
 | none=>rfl
 | some d =>
  have hne:d≠t:=fun e=>h (by simp [e])
  simp [Act.put,Array.getD_eq_getD_getElem?,Array.getElem?_setIfInBounds_ne hne]
theorem ji {a:Act} {d:Option Tmp} {y:Value}:(a.put d y).tmps.size=a.tmps.size:=by
 cases d<;>simp [Act.put]
theorem put_defers {a:Act} {d:Option Tmp} {y:Value}:(a.put d y).defers=a.defers:=by
 cases d<;>rfl
theorem fo {s:List Sl} {d:Option Nat} {x:Sl}:(setSlot s d x).length=s.length:=by cases d<;>simp [setSlot]
theorem iL {s:List Sl} {d:Option Nat} {x:Sl} {t:Nat} (h:t ∉ d.toList):bf (setSlot s d x) t=bf s t:=by
 cases d with
 | none=>rfl
 | some d =>
  have hne:d≠t:=fun e=>h (by simp [e])
  simp [setSlot,bf,List.getD_eq_getElem?_getD,List.getElem?_set_ne hne]
theorem fA {ρ:Nat->Option Nat} {s:List Sl} {a:Act} {d:Option Nat} {x:Sl} {y:Value} (hs:a.tmps.size=s.length) (h:aQ v ρ x y) {t:Nat} (ht:t∈d.toList):aQ v ρ (bf (setSlot s d x) t) ((a.put d y).tmps.getD t undef):=by
 cases d with
 | none=>cases ht
 | some d =>
  have:t=d:=by simpa using ht
  subst this
  by_cases hlt:t<s.length
  . have e1:bf (setSlot s (some t) x) t=x:=by simp [setSlot,bf,List.getD_eq_getElem?_getD,hlt]
    have e2:(a.put (some t) y).tmps.getD t undef=y:=by simp [Act.put,Array.getD_eq_getD_getElem?,hs,hlt]
    rw [e1,e2];exact h
  . rw [nH (by rw [fo];omega)]
    exact aQ.top _ _
structure ko (P:Program) (v:Nat->Int) (A:Nat->Prop) (ops:Array Oper) (base:Nat) (i:Nat) (s s':St) (f:Fp):Prop where
 len:s'.slots.length=s.slots.length
 slot:∀ t,t ∉ f.ws->bf s'.slots t=bf s.slots t
 mem:∀ b,b ∉ f.wb->aC b s'.mem=aC b s.mem
 run:∀ (ρ:Nat->Option Nat) (a:Act) (w:World) (Q:Exit->Act->World->Prop) (K:Act->World->Prop),
  a.tmps.size=s.slots.length->(∀ t∈f.rs,aQ v ρ (bf s.slots t) (a.tmps.getD t undef)) ->
  (∀ b∈f.rb,∀ k,aC b s.mem=some k->ed v ρ A w k)->Inv ρ w->ρ (base+i)=none->(∀ b,base+ops.size<=b->ρ b=none)->(∀ n,w.heap.size<=n->A n) ->
  (∀ (ρ':Nat->Option Nat) (a':Act) (w':World),a'.tmps.size=a.tmps.size->a'.defers=a.defers->(∀ t,t ∉ f.ws->a'.tmps.getD t undef=a.tmps.getD t undef) ->
   (∀ t∈f.ws,aQ v ρ' (bf s'.slots t) (a'.tmps.getD t undef))->(∀ b n,ρ b=some n->ρ' b=some n)->(∀ b,b≠base+i->ρ' b=ρ b)->Inv ρ' w' ->
   (∀ b∈f.wb,∀ k,aC b s'.mem=some k->ed v ρ' A w' k)->(∀ b∈f.wb,∀ n,ρ b=some n->A n)->Grow (fun m=>∃ b∈f.wb,ρ b=some m) w w'->K a' w') ->
  wpOp P ops Q i K a w
theorem jf {ops:Array Oper} {s:List Sl} {o:Oper} {A:Path} {live:Bool} (h:guardOf ops s o=some (A,live)) {ρ:Nat->Option Nat} {a:Act} (hs:a.tmps.size=s.length)
 (hr:∀ t∈(match o.guard with|some (j,_)=>((ops[j]?).bind (·.dst)).toList|none=>[]),aQ v ρ (bf s t) (a.tmps.getD t undef)) :
 (PT v A->Region.wanted o (yielded ops a.tmps)=true/\live=true)/\(¬ PT v A->Region.wanted o (yielded ops a.tmps)=false):=by
 unfold guardOf at h;cases hg:o.guard with
 | none =>
  rw [hg] at h;cases h;exact ⟨fun _=>⟨by simp [Region.wanted,hg],rfl⟩,fun h=>absurd PT.nil h⟩
 | some gw =>
  obtain ⟨j,want⟩:=gw;rw [hg] at h hr;simp only at h hr;cases hd:(ops[j]?).bind (·.dst) with
  | none=>rw [hd] at h;cases h
  | some d =>
   rw [hd] at h hr;simp only at h;have hsl:=hr d (by simp)
   have hy:∀ y,a.tmps.getD d undef=y->d<s.length->yielded ops a.tmps j=match y with|.bool b=>some b|_=>none:=fun y hy hlt=>by
    unfold yielded;rw [hd];have hlt':d<a.tmps.size:=by rw [hs];exact hlt
    simp only [Option.bind_some,Array.getElem?_eq_getElem hlt'];have:a.tmps[d]=y:=by rw [<-hy];simp [Array.getD_eq_getD_getElem?,Array.getElem?_eq_getElem hlt']
    rw [this];cases y<;>rfl
   have hlt:∀ c sv,bf s d=⟨c,.p sv⟩->d<s.length:=fun c sv e=>by
    apply Decidable.byContradiction;intro hn;rw [nH (Nat.le_of_not_lt hn)] at e;cases e
   have wan:Region.wanted o (yielded ops a.tmps)=(yielded ops a.tmps j==some want):=by simp [Region.wanted,hg]
   split at h
   . rename_i c z hsd
     rw [hsd] at hsl;have hl:=hlt _ _ hsd;have run1:PT v c->yielded ops a.tmps j=some (decide (z≠0)):=fun hc=>by
      rw [hy _ (hsl.1 hc) hl];rfl
     have run2:¬ PT v c->yielded ops a.tmps j=none:=fun hc=>by rw [hy _ (hsl.2 hc) hl];rfl
     split at h
     . rename_i hz
       cases h;refine ⟨fun hA=>⟨?_,rfl⟩,fun hA=>?_⟩
       . rw [wan,run1 hA,hz];simp
       . rw [wan,run2 hA];simp
     . rename_i hz
       cases h;refine ⟨fun hA=>absurd (PT.cons.1 hA).1 hz,fun hA=>?_⟩
       rw [wan]
       by_cases hc:PT v c
       . rw [run1 hc]
         simpa using hz
       . rw [run2 hc];simp
   . rename_i c r hnc hsd
     rw [hsd] at hsl;have hl:=hlt _ _ hsd;have run1:PT v c->yielded ops a.tmps j=some (decide (r.val v≠0)):=fun hc=>by
      rw [hy _ (hsl.1 hc) hl]
     have run2:¬ PT v c->yielded ops a.tmps j=none:=fun hc=>by rw [hy _ (hsl.2 hc) hl];rfl
     cases h;refine ⟨fun hA=>⟨?_,rfl⟩,fun hA=>?_⟩
     . rw [PT.cons] at hA;rw [wan,run1 hA.2,hA.1];simp
     . rw [PT.cons] at hA;rw [wan]
       by_cases hc:PT v c
       . rw [run1 hc];have:¬ decide (r.val v≠0)=want:=fun e=>hA ⟨e,hc⟩
         simpa using this
       . rw [run2 hc];simp
   . cases h
theorem qI {s:List Sl} {A:Path} {c x y:Operand} {o:Oper} (ho:o.op=.pick c x y):ae X v (pU s A c x y) fun sv =>
 PT v A->∀ (ρ:Nat->Option Nat) (a:Act) (w:World),(∀ t,Operand.tmp t∈[c,x,y]->aQ v ρ (bf s t) (a.tmps.getD t undef))->∃ z,(execOp a.eval o).run P w=.ok (.value z) w/\aG v ρ sv z:=by
 have hrun:∀ (a:Act) (w:World) (b:Bool),a.eval c=.bool b->(execOp a.eval o).run P w=.ok (.value (if b then a.eval x else a.eval y)) w:=fun a w b hb=>by
  unfold execOp;simp only [ho,hb];simp [asBool]
 unfold pU;refine ae.bind ae.opt fun p hp=>?_
 split
 . rename_i z
   refine ae.ite (fun hz=>?_) (fun hz=>?_)
   . refine ae.imp ae.opt fun sv hsv hA ρ a w hr=>?_
     have hb:a.eval c=.bool (decide (z≠0)):=bD hA hp fun t ht=>hr t (by simp [ht])
     refine ⟨_,hrun a w _ hb,?_⟩;simp only [hz,decide_true,if_true,ne_eq,not_false_eq_true];exact bD (PT.cons.2 ⟨(decide_eq_true hz:decide ((Rf.c z).val v≠0)=true),hA⟩) hsv fun t ht=>hr t (by simp [ht])
   . refine ae.imp ae.opt fun sv hsv hA ρ a w hr=>?_
     have hb:a.eval c=.bool (decide (z≠0)):=bD hA hp fun t ht=>hr t (by simp [ht])
     refine ⟨_,hrun a w _ hb,?_⟩;have hz':z=0:=by simpa using hz
     simp only [hz',ne_eq,not_true_eq_false,decide_false,Bool.false_eq_true,if_false];exact bD (PT.cons.2 ⟨(by simp [dF,hz']:decide ((Rf.c z).val v≠0)=false),hA⟩) hsv fun t ht=>hr t (by simp [ht])
 . rename_i r hnr
   refine ae.bind ae.opt fun y1 hy1=>ae.bind ae.opt fun z1 hz1=>?_
   have main:∀ (A1:PT v A) (ρ:Nat->Option Nat) (a:Act) (w:World),(∀ t,Operand.tmp t∈[c,x,y]->aQ v ρ (bf s t) (a.tmps.getD t undef)) ->
    (execOp a.eval o).run P w=.ok (.value (if decide (r.val v≠0) then a.eval x else a.eval y)) w/\(r.val v≠0->aG v ρ y1 (a.eval x))/\(r.val v=0->aG v ρ z1 (a.eval y)):=by
    intro hA ρ a w hr;have hb:a.eval c=.bool (decide (r.val v≠0)):=bD hA hp fun t ht=>hr t (by simp [ht])
    exact ⟨hrun a w _ hb,fun h=>bD (PT.cons.2 ⟨by simpa using h,hA⟩) hy1 fun t ht=>hr t (by simp [ht]),fun h=>bD (PT.cons.2 ⟨by simp [h],hA⟩) hz1 fun t ht=>hr t (by simp [ht])⟩
   split
   . rename_i y2 z2
     refine ae.bind (ae.mkIte _ _ _) fun u hu=>ae.pure fun hA ρ a w hr=>?_
     obtain ⟨h1,h2,h3⟩:=main hA ρ a w hr;refine ⟨_,h1,?_⟩;simp only [aG,aS,aF];rw [hu]
     by_cases h0:r.val v=0
     . have:=h3 h0;simp only [aG,aS,aF] at this;simp [h0,this]
     . have:=h2 h0;simp only [aG,aS,aF] at this;simp [h0,this]
   . rename_i k y2 j z2
     refine ae.ite (fun hk=>?_) (fun _=>ae.fail)
     subst hk;refine ae.bind (ae.mkIte _ _ _) fun u hu=>ae.pure fun hA ρ a w hr=>?_
     obtain ⟨h1,h2,h3⟩:=main hA ρ a w hr;refine ⟨_,h1,?_⟩;simp only [aG,aS,aF];rw [hu]
     by_cases h0:r.val v=0
     . have:=h3 h0;simp only [aG,aS,aF] at this;simp [h0,this]
     . have:=h2 h0;simp only [aG,aS,aF] at this;simp [h0,this]
   . exact ae.fail
 . exact ae.fail
theorem Fg {op:Op} {c x y:Operand} (h:Az op=some (c,x,y)):op=.pick c x y:=by
 cases op<;>simp only [Az,reduceCtorEq] at h
 cases h;rfl
theorem dY.weak {ρ:Nat->Option Nat} {A:Nat->Prop} {w:World} {m:List Bk} (h:∀ b k,aC b m=some k->ed v ρ A w k):dY v ρ (fun _=>True) w m:=fun b k hk=>by
 obtain ⟨n,ys,h1,_,h3⟩:=h b k hk;exact ⟨n,ys,h1,trivial,h3⟩
theorem sW {specs:List Spec} {rec:fO} (hs:∀ s∈specs,bE P X s) (hc:iI P X v rec) (A0:Nat->Prop) (path:Path) (ops:Array Oper) (base i:Nat) (o:Oper) (hi:ops[i]? = some o) (s:St) :
 ae X v (vG P specs rec path ops base i o s) fun r=>PT v path->ko P v A0 ops base i s r.1 r.2:=by
 have hin:i<ops.size:=by
  rcases Nat.lt_or_ge i ops.size with h|h
  . exact h
  . rw [Array.getElem?_eq_none h] at hi;cases hi
 unfold vG;refine ae.bind ae.opt fun g hg=>?_
 obtain ⟨A,live⟩:=g;simp only;have idle:∀ (m:List Bk) (sv:SV) (f:Fp),(∀ t∈(match o.guard with|some (j,_)=>((ops[j]?).bind (·.dst)).toList|none=>[]),t∈f.rs)->f.ws=o.dst.toList->∀ (ρ:Nat->Option Nat) (a:Act) (w:World) (Q:Exit->Act->World->Prop) (K:Act->World->Prop),
  a.tmps.size=s.slots.length->(∀ t∈f.rs,aQ v ρ (bf s.slots t) (a.tmps.getD t undef))->¬ PT v A->K (a.put o.dst undef) w->wpOp P ops Q i K a w:=by
  intro m sv f hf1 hf2 ρ a w Q K hsz hr hA hK;unfold wpOp;rw [hi];have:=(jf hg hsz fun t ht=>hr t (hf1 t ht)).2 hA
  simp only [this,Bool.false_eq_true,if_false];exact hK
 have live1:∀ (f:Fp),(∀ t∈(match o.guard with|some (j,_)=>((ops[j]?).bind (·.dst)).toList|none=>[]),t∈f.rs)->∀ (ρ:Nat->Option Nat) (a:Act) (w:World) (Q:Exit->Act->World->Prop) (K:Act->World->Prop),
  a.tmps.size=s.slots.length->(∀ t∈f.rs,aQ v ρ (bf s.slots t) (a.tmps.getD t undef))->PT v A->o.wp P a w K Q->wpOp P ops Q i K a w:=by
  intro f hf1 ρ a w Q K hsz hr hA hK;unfold wpOp;rw [hi];have:=((jf hg hsz fun t ht=>hr t (hf1 t ht)).1 hA).1
  simp only [this,if_true];exact Or.inl hK
 refine ae.ite (fun hlive=>?_) (fun hlive=>?_)
 . split
   . rename_i c x y hpk
     have ho:=Fg hpk;refine ae.bind (qI (P:=P) ho) fun sv hsv=>ae.pure fun hp=>?_
     refine ⟨fo,fun t ht=>iL ht,fun b _=>rfl,fun ρ a w Q K hsz hr hb hinv hn hfr hA0 hK=>?_⟩
     by_cases hA:PT v A
     . refine live1 _ (fun t ht=>List.mem_append_right _ ht) ρ a w Q K hsz hr hA ?_
       obtain ⟨z,h1,h2⟩:=hsv hA ρ a w fun t ht=>hr t (List.mem_append_left _ (eB (by simpa [ho,Op.operands] using ht)))
       refine Does.value (R:=fun x w'=>x=z/\w'=w) h1 ⟨rfl,rfl⟩ K Q ?_
       rintro x w' ⟨rfl,rfl⟩;exact hK ρ _ _ ji put_defers (fun t ht=>fw ht) (fun t ht=>fA hsz ⟨fun _=>h2,fun h=>absurd hA h⟩ ht) (fun _ _ h=>h) (fun _ _=>rfl) hinv (fun b hb=>by cases hb) (fun b hb=>by cases hb) (Grow.refl _ _)
     . refine idle [] sv _ (fun t ht=>List.mem_append_right _ ht) rfl ρ a w Q K hsz hr hA ?_
       exact hK ρ _ _ ji put_defers (fun t ht=>fw ht) (fun t ht=>fA hsz ⟨fun h=>absurd h hA,fun _=>rfl⟩ ht) (fun _ _ h=>h) (fun _ _=>rfl) hinv (fun b hb=>by cases hb) (fun b hb=>by cases hb) (Grow.refl _ _)
   . refine ae.ite (fun _=>ae.fail) (fun heff=>?_)
     refine ae.bind (vJ hs hc (path++A) o _ _ (base+i) (base+ops.size)) fun r hr0=>?_
     obtain ⟨sv,m⟩:=r;simp only;have main:∀ (sm:List Bk) (rs:List Nat),(∀ t∈tmpsOf o.op.operands.toList++(match o.guard with|some (j,_)=>((ops[j]?).bind (·.dst)).toList|none=>[]),t∈rs)->(∀ b,b∈m.map (·.b)->aC b sm=aC b m)->PT v path->PT v A->∀ (ρ:Nat->Option Nat) (a:Act) (w:World) (Q:Exit->Act->World->Prop) (K:Act->World->Prop),
      a.tmps.size=s.slots.length->(∀ t∈rs,aQ v ρ (bf s.slots t) (a.tmps.getD t undef)) ->
      (∀ b∈touched o (eX s.slots A),∀ k,aC b s.mem=some k->ed v ρ A0 w k)->Inv ρ w->ρ (base+i)=none->(∀ b,base+ops.size<=b->ρ b=none)->(∀ n,w.heap.size<=n->A0 n) ->
      (∀ (ρ':Nat->Option Nat) (a':Act) (w':World),a'.tmps.size=a.tmps.size->a'.defers=a.defers->(∀ t,t ∉ o.dst.toList->a'.tmps.getD t undef=a.tmps.getD t undef) ->
       (∀ t∈o.dst.toList,aQ v ρ' (bf (setSlot s.slots o.dst ⟨A,sv⟩) t) (a'.tmps.getD t undef))->(∀ b n,ρ b=some n->ρ' b=some n)->(∀ b,b≠base+i->ρ' b=ρ b)->Inv ρ' w' ->
       (∀ b∈m.map (·.b),∀ k,aC b sm=some k->ed v ρ' A0 w' k)->(∀ b∈m.map (·.b),∀ n,ρ b=some n->A0 n)->Grow (fun x=>∃ b∈m.map (·.b),ρ b=some x) w w'->K a' w') ->
      wpOp P ops Q i K a w:=by
      intro sm rs hrs hsm hp hA ρ a w Q K hsz hr hb hinv hn hfr hA0 hK;refine live1 ⟨rs,[],[],[]⟩ (fun t ht=>hrs t (List.mem_append_right _ ht)) ρ a w Q K hsz hr hA ?_
      have hsub:∀ b k,aC b (cK (touched o (eX s.slots A)) s.mem)=some k->ed v ρ A0 w k:=fun b k hk=>by
       obtain ⟨h1,h2⟩:=bF hk;exact hb b h2 k h1
      have hD:=hr0 (PT.append.2 ⟨hp,hA⟩) ρ a w (fun x hx sv hsv=>bD hA hsv fun t ht=>hr t (hrs t (List.mem_append_left _ (eB (by rw [<-ht];exact hx))))) hinv hn (by omega) hfr (dY.weak hsub)
      refine hD K Q ?_;rintro x w' ⟨ρ',hR⟩;have hallow:∀ b∈m.map (·.b),∀ n,ρ b=some n->A0 n:=by
       intro b hbm n hbn;obtain ⟨k,hkm,rfl⟩:=List.mem_map.1 hbm;rcases hR.names k hkm with h|⟨k',hk'⟩
       . rw [h,hn] at hbn;cases hbn
       . obtain ⟨n',ys,h1,h2,_⟩:=hsub _ _ hk'
         rw [bK hk',hbn] at h1;cases h1;exact h2
      refine hK ρ' _ _ ji put_defers (fun t ht=>fw ht) (fun t ht=>fA hsz ⟨fun _=>hR.val,fun h=>absurd hA h⟩ ht) hR.ext hR.only hR.inv ?_ hallow ?_
      . intro b hbm k hk;rw [hsm b hbm] at hk;obtain ⟨n,ys,h1,h2,h3⟩:=hR.mem b k hk;refine ⟨n,ys,h1,?_,h3⟩;rcases h2 with ⟨b',k',h4,h5⟩|h2
        . obtain ⟨n',_,h6,h7,_⟩:=hsub _ _ h4;rw [bK h4,h5] at h6;cases h6;exact h7
        . exact hA0 n h2
      . refine ⟨hR.grow.os,hR.grow.tape,hR.grow.output,hR.grow.size,fun n hn1 hn2=>hR.grow.block n hn1 ?_⟩
        rintro ⟨b,k,h1,h2⟩;exact hn2 ⟨b,List.mem_map.2 ⟨k,iC h1,bK h1⟩,h2⟩
     refine ae.ite (fun hAe=>?_) (fun hAe=>?_)
     . have hA:PT v A:=by
        have:A=[]:=List.isEmpty_iff.1 hAe;rw [this];exact PT.nil
       refine ae.pure fun hp=>⟨fo,fun t ht=>iL ht,fun b hb=>?_,fun ρ a w Q K hsz hr hb hinv hn hfr hA0 hK=>?_⟩
       . show aC b (jS s.mem m)=_;rw [jg,om hb]
       . refine main (jS s.mem m) _ (fun t ht=>ht) (fun b hb=>?_) hp hA ρ a w Q K hsz hr hb hinv hn hfr hA0 hK
         rw [jg];obtain ⟨k,hk,rfl⟩:=List.mem_map.1 hb;obtain ⟨k',hk'⟩:=aV hk;rw [hk']
     . refine ae.ite (fun hm=>?_) (fun _=>ae.fail)
       refine ae.pure fun hp=>⟨fo,fun t ht=>iL ht,fun b hb=>rfl,fun ρ a w Q K hsz hr hb hinv hn hfr hA0 hK=>?_⟩
       have hmem:∀ b,b∈m.map (·.b)->aC b s.mem=aC b m:=fun b hbm=>by
        rcases hm with rfl|rfl
        . obtain ⟨k,hk,rfl⟩:=List.mem_map.1 hbm;obtain ⟨k',hk'⟩:=aV hk;rw [hk',(bF hk').1]
        . cases hbm
       by_cases hA:PT v A
       . exact main s.mem _ (fun t ht=>ht) hmem hp hA ρ a w Q K hsz hr hb hinv hn hfr hA0 hK
       . refine idle [] sv _ (fun t ht=>List.mem_append_right _ ht) rfl ρ a w Q K hsz hr hA ?_
         have hsub:∀ b∈m.map (·.b),∀ k,aC b s.mem=some k->ed v ρ A0 w k:=fun b hbm k hk=>by
          rcases hm with rfl|rfl
          . obtain ⟨k0,hk0,rfl⟩:=List.mem_map.1 hbm;obtain ⟨k',hk'⟩:=aV hk0;exact hb _ (bF hk').2 k hk
          . cases hbm
         refine hK ρ _ _ ji put_defers (fun t ht=>fw ht) (fun t ht=>fA hsz ⟨fun h=>absurd h hA,fun _=>rfl⟩ ht) (fun _ _ h=>h) (fun _ _=>rfl) hinv hsub ?_ (Grow.refl _ _)
         intro b hbm n hbn;rcases hm with rfl|rfl
         . obtain ⟨k0,hk0,rfl⟩:=List.mem_map.1 hbm;obtain ⟨k',hk'⟩:=aV hk0;obtain ⟨n',ys,h1,h2,_⟩:=hsub _ hbm _ (bF hk').1;rw [bK hk',hbn] at h1;cases h1;exact h2
         . cases hbm
 . refine ae.pure fun hp=>⟨fo,fun t ht=>iL ht,fun b _=>rfl,fun ρ a w Q K hsz hr hb hinv hn hfr hA0 hK=>?_⟩
   have hA:¬ PT v A:=fun hA=>by
    have:=(jf hg hsz fun t ht=>hr t (List.mem_append_right _ ht)).1 hA
    exact hlive this.2
   refine idle [] .top _ (fun t ht=>List.mem_append_right _ ht) rfl ρ a w Q K hsz hr hA ?_
   exact hK ρ _ _ ji put_defers (fun t ht=>fw ht) (fun t ht=>fA hsz ⟨fun h=>absurd h hA,fun _=>rfl⟩ ht) (fun _ _ h=>h) (fun _ _=>rfl) hinv (fun b hb=>by cases hb) (fun b hb=>by cases hb) (Grow.refl _ _)
end
end Sx
namespace Sx
open Go Go.RowKit
section
variable {P:Program} {X:Cx} {v:Nat->Int}
theorem ed.carry {ρ ρ':Nat->Option Nat} {A:Nat->Prop} {w w':World} {k:Bk} {bs:List Nat} (h:ed v ρ A w k) (hi:Inv ρ w) (hm:∀ b n,ρ b=some n->ρ' b=some n) (hk:k.b ∉ bs) (g:Grow (fun m=>∃ b∈bs,ρ b=some m) w w'):ed v ρ' A w' k:=by
 obtain ⟨n,ys,h1,h2,h3,h4⟩:=h;refine ⟨n,ys,hm _ _ h1,h2,?_,lu (fun b _ n hb=>hm b n hb) h4⟩
 rw [g.block n (hi.lt _ _ h1)]
 . exact h3
 . rintro ⟨b,hb,hb'⟩;exact hk (hi.inj _ _ _ h1 hb' ▸ hb)
structure fM (v:Nat->Int) (A F:Nat->Prop) (wS:World) (ρ0:Nat->Option Nat) (base n:Nat) (σ:Nat->St) (fp:Nat->Fp) (L:Nat->Prop) (ρ:Nat->Option Nat) (a:Act) (w:World):Prop where
 sz:a.tmps.size=(σ 0).slots.length
 df:a.defers=[]
 slot:∀ t m,m<=n->(∀ i,i<n->t∈(fp i).ws->(i<m↔L i))->aQ v ρ (bf (σ m).slots t) (a.tmps.getD t undef)
 mem:∀ b m k,m<=n->(∀ i,i<n->b∈(fp i).wb->(i<m↔L i))->aC b (σ m).mem=some k->ed v ρ A w k
 inv:Inv ρ w
 fresh:∀ i,i<n->¬ L i->ρ (base+i)=none
 new:∀ b,base+n<=b->ρ b=none
 old:∀ b,b<base->ρ b=ρ0 b
 grow:Grow F wS w
theorem jH {xs ys:List Nat} {x:Nat} (h:x∈xs) (k:x∈ys):meets xs ys=true :=
 List.any_eq_true.2 ⟨x,h,List.contains_iff_mem.2 k⟩
theorem xP {a b:Fp} {t:Nat} (h:t∈a.ws) (k:t∈b.rs):clash a b=true:=by simp [clash,jH h k]
theorem xA {a b:Fp} {t:Nat} (h:t∈a.ws) (k:t∈b.ws):clash a b=true:=by simp [clash,jH h k]
theorem zR {a b:Fp} {t:Nat} (h:t∈a.wb) (k:t∈b.rb):clash a b=true:=by simp [clash,jH h k]
theorem yJ {a b:Fp} {t:Nat} (h:t∈a.wb) (k:t∈b.wb):clash a b=true:=by simp [clash,jH h k]
theorem eT (xs ys:List Nat):meets xs ys=meets ys xs:=by
 rw [Bool.eq_iff_iff];simp only [meets,List.any_eq_true,List.contains_iff_mem];exact ⟨fun ⟨x,h,k⟩=>⟨x,k,h⟩,fun ⟨x,h,k⟩=>⟨x,k,h⟩⟩
theorem A9 (a b:Fp):clash a b=clash b a:=by
 unfold clash;rw [eT a.ws b.rs,eT a.ws b.ws,eT a.rs b.ws,eT a.wb b.rb,eT a.wb b.wb,eT a.rb b.wb];cases meets b.rs a.ws<;>cases meets b.ws a.ws<;>cases meets b.ws a.rs<;>cases meets b.rb a.wb<;>cases meets b.wb a.wb<;>cases meets b.wb a.rb<;>rfl
section
variable {A F:Nat->Prop} {wS:World} {ρ0:Nat->Option Nat} {ops:Array Oper} {base:Nat} {σ:Nat->St} {fp:Nat->Fp}
theorem kE (hst:∀ j,j<ops.size->ko P v A ops base j (σ j) (σ (j+1)) (fp j)) (t:Nat):∀ (c p:Nat),p+c<=ops.size->(∀ i,p<=i->i<p+c->t ∉ (fp i).ws)->bf (σ (p+c)).slots t=bf (σ p).slots t
 | 0,p,_,_=>rfl
 | c+1,p,hle,h=>by
  rw [show p+(c+1)=p+c+1 by omega,(hst (p+c) (by omega)).slot t (h _ (by omega) (by omega))]
  exact kE hst t c p (by omega) fun i h1 h2=>h i h1 (by omega)
theorem nk (hst:∀ j,j<ops.size->ko P v A ops base j (σ j) (σ (j+1)) (fp j)) (b:Nat):∀ (c p:Nat),p+c<=ops.size->(∀ i,p<=i->i<p+c->b ∉ (fp i).wb)->aC b (σ (p+c)).mem=aC b (σ p).mem
 | 0,p,_,_=>rfl
 | c+1,p,hle,h=>by
  rw [show p+(c+1)=p+c+1 by omega,(hst (p+c) (by omega)).mem b (h _ (by omega) (by omega))]
  exact nk hst b c p (by omega) fun i h1 h2=>h i h1 (by omega)
theorem mW (hst:∀ j,j<ops.size->ko P v A ops base j (σ j) (σ (j+1)) (fp j)):∀ j,j<=ops.size->(σ j).slots.length=(σ 0).slots.length
 | 0,_=>rfl
 | j+1,h=>by rw [(hst j (by omega)).len,mW hst j (by omega)]
theorem fM.step (hst:∀ j,j<ops.size->ko P v A ops base j (σ j) (σ (j+1)) (fp j)) (hA:∀ n,A n->F n∨wS.heap.size<=n) (hA':∀ n,wS.heap.size<=n->A n) {L:Nat->Prop} {ρ:Nat->Option Nat} {a:Act} {w:World} {Q:Exit->Act->World->Prop} {K:Act->World->Prop} {j:Nat} (hj:j<ops.size) (hLj:¬ L j)
 (hcl:∀ i,i<ops.size->i≠j->clash (fp i) (fp j)=true->(i<j↔L i)) (h:fM v A F wS ρ0 base ops.size σ fp L ρ a w)
 (hK:∀ (ρ':Nat->Option Nat) (a':Act) (w':World),fM v A F wS ρ0 base ops.size σ fp (fun i=>L i∨i=j) ρ' a' w'->K a' w'):wpOp P ops Q j K a w:=by
 have S:=hst j hj;refine S.run ρ a w Q K (by rw [h.sz,mW hst j (by omega)]) ?_ ?_ h.inv (h.fresh j hj hLj) h.new (fun n hn=>hA' n (Nat.le_trans h.grow.size hn)) ?_
 . intro t ht;refine h.slot t j (by omega) fun i hi hw=>?_
   by_cases hij:i=j
   . subst hij;simp [hLj]
   . exact hcl i hi hij (xP hw ht)
 . intro b hb k hk;refine h.mem b j k (by omega) (fun i hi hw=>?_) hk
   by_cases hij:i=j
   . subst hij;simp [hLj]
   . exact hcl i hi hij (zR hw hb)
 . intro ρ' a' w' hsz hdf htm htw hext honly hinv' hbw hal hg;refine hK ρ' a' w' ⟨by rw [hsz,h.sz],by rw [hdf,h.df],?_,?_,hinv',?_,?_,?_,?_⟩
   . intro t m hm hT
     by_cases htj:t∈(fp j).ws
     . have hjm:j<m:=(hT j hj htj).2 (Or.inr rfl);have e:bf (σ m).slots t=bf (σ (j+1)).slots t:=by
        have:=kE hst t (m-(j+1)) (j+1) (by omega) fun i h1 h2 hw=>by
         have hij:i≠j:=by omega
         rcases (hT i (by omega) hw).1 (by omega) with hL|hL
         . have:=(hcl i (by omega) hij (xA hw htj)).2 hL;omega
         . exact hij hL
        rw [show j+1+(m-(j+1))=m by omega] at this
        exact this
       rw [e];exact htw t htj
     . rw [htm t htj];refine aQ.mono hext (h.slot t m hm fun i hi hw=>?_)
       rw [hT i hi hw]
       constructor
       . rintro (h1|rfl)
         . exact h1
         . exact absurd hw htj
       . exact Or.inl
   . intro b m k hm hT hk
     by_cases hbj:b∈(fp j).wb
     . have hjm:j<m:=(hT j hj hbj).2 (Or.inr rfl);have e:aC b (σ m).mem=aC b (σ (j+1)).mem:=by
        have:=nk hst b (m-(j+1)) (j+1) (by omega) fun i h1 h2 hw=>by
         have hij:i≠j:=by omega
         rcases (hT i (by omega) hw).1 (by omega) with hL|hL
         . have:=(hcl i (by omega) hij (yJ hw hbj)).2 hL;omega
         . exact hij hL
        rw [show j+1+(m-(j+1))=m by omega] at this
        exact this
       rw [e] at hk;exact hbw b hbj k hk
     . refine ed.carry (h.mem b m k hm (fun i hi hw=>?_) hk) h.inv hext (by rw [bK hk];exact hbj) hg
       rw [hT i hi hw]
       constructor
       . rintro (h1|rfl)
         . exact h1
         . exact absurd hw hbj
       . exact Or.inl
   . intro i hi hL;rw [honly]
     . exact h.fresh i hi fun hL'=>hL (Or.inl hL')
     . intro e;exact hL (Or.inr (by omega))
   . intro b hb;rw [honly b (by omega)];exact h.new b hb
   . intro b hb;rw [honly b (by omega)];exact h.old b hb
   . refine h.grow.trans hg ?_;rintro n ⟨b,hb,hbn⟩;exact hA n (hal b hb n hbn)
theorem Cf (hst:∀ j,j<ops.size->ko P v A ops base j (σ j) (σ (j+1)) (fp j)) (hA:∀ n,A n->F n∨wS.heap.size<=n) (hA':∀ n,wS.heap.size<=n->A n) {Q:Exit->Act->World->Prop}
 (hQ:∀ (ρ':Nat->Option Nat) (a':Act) (w':World),fM v A F wS ρ0 base ops.size σ fp (fun i=>i<ops.size) ρ' a' w'->Q .normal a' w') :
 ∀ (k j:Nat) (ρ:Nat->Option Nat) (a:Act) (w:World),j+k=ops.size->fM v A F wS ρ0 base ops.size σ fp (fun i=>i<j) ρ a w->wpOps P ops Q (List.range' j k) a w
 | 0,j,ρ,a,w,hjk,h=>by
  have:j=ops.size:=by omega
  subst this
  simpa [wpOps] using hQ ρ a w h
 | k+1,j,ρ,a,w,hjk,h=>by
  rw [List.range'_succ,wpOps_cons];refine h.step hst hA hA' (by omega) (by omega) (fun i _ hij _=>by omega) fun ρ' a' w' h'=>?_
  refine Cf hst hA hA' hQ k (j+1) ρ' a' w' (by omega) ?_
  have e:(fun i=>i<j∨i=j)=fun i=>i<j+1:=by funext i;apply propext;omega
  rw [e] at h';exact h'
end
theorem uE (acc:List Nat) (i:Nat):∀ (l:List Edge) (m:Nat),(l.foldl (fun m (e:Edge)=>if Region.binds .any e then m ||| 2^e.on ||| acc.getD e.on 0 else m) m).testBit i=true ->
 m.testBit i=true∨∃ e∈l,Region.binds .any e=true/\(e.on=i∨(acc.getD e.on 0).testBit i=true)
 | [],m,h=>Or.inl h
 | e::l,m,h=>by
  simp only [List.foldl_cons] at h;rcases uE acc i l _ h with h|⟨e',h1,h2,h3⟩
  . split at h
    . rename_i hb
      rw [Nat.testBit_or,Nat.testBit_or,Nat.testBit_two_pow] at h;simp only [Bool.or_eq_true,decide_eq_true_eq] at h;rcases h with (h|h)|h
      . exact Or.inl h
      . exact Or.inr ⟨e,List.mem_cons_self ..,hb,Or.inl h⟩
      . exact Or.inr ⟨e,List.mem_cons_self ..,hb,Or.inr h⟩
    . exact Or.inl h
  . exact Or.inr ⟨e',List.mem_cons_of_mem _ h1,h2,h3⟩
theorem sI:∀ (l:List Oper) (acc:List Nat) (j:Nat),j<acc.length->(qM l acc).getD j 0=acc.getD j 0
 | [],acc,j,_=>rfl
 | o::l,acc,j,h=>by
  rw [qM,sI l _ j (by simp;omega)]
  simp [List.getD_eq_getElem?_getD,List.getElem?_append_left h]
theorem tQ:∀ (l:List Oper) (acc:List Nat) (p:Nat) (o:Oper),l[p]? = some o->∀ i,((qM l acc).getD (acc.length+p) 0).testBit i=true ->
 ∃ e∈o.after.toList,Region.binds .any e=true/\(e.on=i∨((qM l acc).getD e.on 0).testBit i=true)
 | [],acc,p,o,h,i,_=>by simp at h
 | o'::l,acc,0,o,h,i,hb=>by
  simp at h;subst h;rw [qM] at hb;rw [sI l _ _ (by simp)] at hb
  simp only [Nat.add_zero,List.getD_eq_getElem?_getD,List.getElem?_append_right (Nat.le_refl _),Nat.sub_self,List.getElem?_cons_zero,Option.getD_some] at hb;rcases uE acc i _ 0 hb with h|⟨e,h1,h2,h3⟩
  . simp at h
  . refine ⟨e,h1,h2,h3.imp id fun h=>?_⟩
    by_cases hlt:e.on<acc.length
    . rw [qM,sI l _ _ (by simp;omega)]
      rw [show (acc++_).getD e.on 0=acc.getD e.on 0 by simp [List.getD_eq_getElem?_getD,List.getElem?_append_left hlt]]
      exact h
    . rw [List.getD_eq_getElem?_getD,List.getElem?_eq_none (by omega)] at h
      simp at h
 | o'::l,acc,p+1,o,h,i,hb=>by
  simp at h;rw [qM] at hb ⊢
  exact tQ l _ p o h i (by simpa [Nat.add_assoc,Nat.add_comm 1 p] using hb)
theorem rX {ops:Array Oper} {L:Nat->Prop} (hcl:∀ i o,ops[i]? = some o->L i->∀ e∈o.after.toList,Region.binds .any e=true->L e.on) (hed:jU ops=true) :
 ∀ (j i:Nat),j<ops.size->(∀ o,ops[j]? = some o->∀ e∈o.after.toList,Region.binds .any e=true->L e.on)->((qM ops.toList []).getD j 0).testBit i=true->L i:=by
 intro j
 induction j using Nat.strongRecOn with
 | _ j ih =>
  intro i hj hdir hb;have ho:ops.toList[j]? = some ops[j]:=by simp [hj]
  obtain ⟨e,h1,h2,h3⟩:=tQ ops.toList [] j ops[j] ho i (by simpa using hb)
  have hLe:=hdir ops[j] (by simp [hj]) e h1 h2
  rcases h3 with rfl|h3
  . exact hLe
  . have hlt:e.on<j:=by
     unfold jU at hed;rw [List.all_eq_true] at hed;have:=hed (ops[j],j) (by
      rw [List.mem_zipIdx_iff_getElem?];simp [ho])
     simp only [List.all_eq_true] at this;have:=this e h1
     simpa [h2] using this
    exact ih e.on hlt i (by omega) (fun o ho'=>hcl e.on o ho' hLe) h3
end
end Sx
namespace Sx
open Go Go.RowKit
section
variable {P:Program} {X:Cx} {v:Nat->Int}
section
variable {A F:Nat->Prop} {wS:World} {ρ0:Nat->Option Nat} {ops:Array Oper} {base:Nat} {σ:Nat->St} {fp:Nat->Fp}
def LL (listed:Array Bool) (i:Nat):Prop:=listed.getD i false=true
theorem zU {listed:Array Bool} (hsz:listed.size=ops.size) (hed:jU ops=true) (h:Region.ready .any ops listed=[]):∀ i,i<ops.size->LL listed i:=by
 intro i
 induction i using Nat.strongRecOn with
 | _ i ih =>
  intro hi;apply Classical.byContradiction;intro hn;have hf:listed.getD i true=false:=by
   have hlt:i<listed.size:=by omega
   simp only [LL,Array.getD_eq_getD_getElem?,Array.getElem?_eq_getElem hlt,Option.getD_some] at hn ⊢
   simpa using hn
  have:i∈Region.ready .any ops listed:=mem_ready.2 ⟨hf,ops[i],by simp [hi],fun e he hb=>by
   have hlt:e.on<i:=by
    have hed':=hed;unfold jU at hed'
    rw [List.all_eq_true] at hed'
    have:=hed' (ops[i],i) (by
     rw [List.mem_zipIdx_iff_getElem?];simp [hi])
    simp only [List.all_eq_true] at this;have:=this e (by simpa using he)
    simpa [hb] using this
   exact ih e.on hlt (by omega)⟩
  rw [h] at this;cases this
theorem KY (hst:∀ j,j<ops.size->ko P v A ops base j (σ j) (σ (j+1)) (fp j)) (hA:∀ n,A n->F n∨wS.heap.size<=n) (hA':∀ n,wS.heap.size<=n->A n) {Q:Exit->Act->World->Prop} (hed:jU ops=true)
 (hord:∀ i j,i<ops.size->j<ops.size->i<j->clash (fp i) (fp j)=true->((qM ops.toList []).getD j 0).testBit i=true)
 (hQ:∀ (ρ':Nat->Option Nat) (a':Act) (w':World),fM v A F wS ρ0 base ops.size σ fp (fun i=>i<ops.size) ρ' a' w'->Q .normal a' w') :
 ∀ (fuel:Nat) (listed:Array Bool) (ρ:Nat->Option Nat) (a:Act) (w:World),listed.size=ops.size->listed.toList.count false=fuel ->
  (∀ i o,ops[i]? = some o->LL listed i->∀ e∈o.after.toList,Region.binds .any e=true->LL listed e.on) ->
  fM v A F wS ρ0 base ops.size σ fp (LL listed) ρ a w->wpAny P .any ops Q fuel listed a w:=by
 have fin:∀ (listed:Array Bool) (ρ:Nat->Option Nat) (a:Act) (w:World),(∀ i,i<ops.size->LL listed i)->fM v A F wS ρ0 base ops.size σ fp (LL listed) ρ a w->Q .normal a w:=by
  intro listed ρ a w hall h;refine hQ ρ a w ⟨h.sz,h.df,fun t m hm hT=>h.slot t m hm fun i hi hw=>?_,fun b m k hm hT hk=>h.mem b m k hm (fun i hi hw=>?_) hk,h.inv,fun i hi hn=>absurd hi hn,h.new,h.old,h.grow⟩
  . rw [hT i hi hw];simp [hi,hall i hi]
  . rw [hT i hi hw];simp [hi,hall i hi]
 intro fuel
 induction fuel with
 | zero =>
  intro listed ρ a w hsz hc hcl h;have hall:∀ i,i<ops.size->LL listed i:=fun i hi=>by
   have hlt:i<listed.size:=by omega
   have h1:listed[i]∈listed.toList:=by simp
   unfold LL;rw [Array.getD_eq_getD_getElem?,Array.getElem?_eq_getElem hlt,Option.getD_some];cases hb:listed[i] with
   | true=>rfl
   | false =>
    rw [hb] at h1;exact absurd h1 (List.count_eq_zero.1 hc)
  refine ⟨?_,fin listed ρ a w hall h⟩;cases hr:Region.ready .any ops listed with
  | nil=>rfl
  | cons j l =>
   have hj:j∈Region.ready .any ops listed:=by rw [hr];exact List.mem_cons_self ..
   obtain ⟨h1,o,ho,_⟩:=mem_ready.1 hj;have hlt:j<ops.size:=by
    rcases Nat.lt_or_ge j ops.size with h|h
    . exact h
    . rw [Array.getElem?_eq_none h] at ho;cases ho
   have:=hall j hlt;have hlt2:j<listed.size:=by omega
   simp only [LL,Array.getD_eq_getD_getElem?,Array.getElem?_eq_getElem hlt2,Option.getD_some] at h1 this;rw [h1] at this;cases this
 | succ fuel ih =>
  intro listed ρ a w hsz hc hcl h;refine ⟨fun hr=>fin listed ρ a w (zU hsz hed hr) h,fun j hj=>?_⟩
  obtain ⟨h1,o,ho,hall⟩:=mem_ready.1 hj;have hlt:j<ops.size:=by
   rcases Nat.lt_or_ge j ops.size with h|h
   . exact h
   . rw [Array.getElem?_eq_none h] at ho;cases ho
  have hlt2:j<listed.size:=by omega
  have hLj:¬ LL listed j:=by
   simp only [LL,Array.getD_eq_getD_getElem?,Array.getElem?_eq_getElem hlt2,Option.getD_some] at h1 ⊢
   rw [h1];simp
  have hdir:∀ o',ops[j]? = some o'->∀ e∈o'.after.toList,Region.binds .any e=true->LL listed e.on:=fun o' ho' e he hb=>by
   rw [ho] at ho';cases ho'
   exact hall e (by simpa using he) hb
  refine h.step hst hA hA' hlt hLj (fun i hi hij hc=>?_) fun ρ' a' w' h'=>?_
  . rcases Nat.lt_or_gt_of_ne hij with hlt'|hgt
    . exact ⟨fun _=>rX hcl hed j i hlt hdir (hord i j hi hlt hlt' hc),fun _=>hlt'⟩
    . refine ⟨fun h=>absurd h (by omega),fun hL=>absurd ?_ hLj⟩
      rw [A9] at hc;exact rX hcl hed i j hi (fun o' ho'=>hcl i o' ho' hL) (hord j i hlt hi hgt hc)
  . have eL:(fun i=>LL listed i∨i=j)=LL (listed.setIfInBounds j true):=by
     funext i
     apply propext;unfold LL
     by_cases hij:i=j
     . subst hij;simp [Array.getD_eq_getD_getElem?,hlt2]
     . simp only [hij,or_false,Array.getD_eq_getD_getElem?,Array.getElem?_setIfInBounds_ne (Ne.symm hij)]
    rw [eL] at h'
    refine ih _ ρ' a' w' (by simp [hsz]) ?_ ?_ h'
    . rw [Array.toList_setIfInBounds,List.count_set (by simpa using hlt2)]
      have:listed.toList[j]'(by simpa using hlt2)=false:=by
       simp only [Array.getD_eq_getD_getElem?,Array.getElem?_eq_getElem hlt2,Option.getD_some] at h1
       simpa using h1
      rw [this,hc];simp
    . intro i o' ho' hL e he hb;rw [<-eL] at hL ⊢
      rcases hL with hL|rfl
      . exact Or.inl (hcl i o' ho' hL e he hb)
      . exact Or.inl (hdir o' ho' e he hb)
end
structure Rel (v:Nat->Int) (A F:Nat->Prop) (wS:World) (ρ0:Nat->Option Nat) (nb0:Nat) (s:St) (ρ:Nat->Option Nat) (a:Act) (w:World):Prop where
 sz:a.tmps.size=s.slots.length
 df:a.defers=[]
 slot:∀ t,aQ v ρ (bf s.slots t) (a.tmps.getD t undef)
 mem:dY v ρ A w s.mem
 inv:Inv ρ w
 new:∀ b,s.nb<=b->ρ b=none
 old:∀ b,b<nb0->ρ b=ρ0 b
 le:nb0<=s.nb
 grow:Grow F wS w
theorem lv {specs:List Spec} {rec:fO} (hs:∀ s∈specs,bE P X s) (hc:iI P X v rec) (A:Nat->Prop) (path:Path) (ops:Array Oper) (base:Nat):∀ (l:List Oper) (i:Nat) (s:St),(∀ j,l[j]? = ops[i+j]?∨l.length<=j) ->
 ae X v (wM P specs rec path ops base i l s) fun r=>PT v path->r.2.length=l.length/\∃ σ:Nat->St,σ 0=s/\σ l.length=r.1/\∀ j,j<l.length->ko P v A ops base (i+j) (σ j) (σ (j+1)) (r.2.getD j ⟨[],[],[],[]⟩)
 | [],i,s,_=>ae.pure fun _=>⟨rfl,fun _=>s,rfl,rfl,fun j hj=>absurd hj (by simp)⟩
 | o::l,i,s,h=>by
  have hi:ops[i]? = some o:=by
   rcases h 0 with h|h
   . simpa using h.symm
   . simp at h
  unfold wM;refine ae.bind (sW hs hc A path ops base i o hi s) fun r hr=>?_
  obtain ⟨s1,f⟩:=r;refine ae.bind (lv hs hc A path ops base l (i+1) s1 fun j=>?_) fun r hr2=>?_
  . rcases h (j+1) with h|h
    . left;simpa [Nat.add_assoc,Nat.add_comm 1 j] using h
    . right;simpa using h
  . obtain ⟨s2,fs⟩:=r;refine ae.pure fun hp=>?_
    obtain ⟨h1,σ,h2,h3,h4⟩:=hr2 hp;refine ⟨by simp [h1],fun j=>match j with|0=>s|j+1=>σ j,rfl,h3,fun j hj=>?_⟩
    cases j with
    | zero=>simp only [Nat.add_zero];rw [h2];exact hr hp
    | succ j =>
     have:=h4 j (by simpa using hj)
     rw [show i+(j+1)=i+1+j by omega]
     simpa using this
theorem wC {an:List Nat} {fs:List Fp} (h:wD an fs=true) {i j:Nat} {f g:Fp} (hi:fs[i]? = some f) (hj:fs[j]? = some g) (hlt:i<j) (hc:clash f g=true):(an.getD j 0).testBit i=true:=by
 unfold wD at h;rw [List.all_eq_true] at h;have h1:=h (g,j) (by rw [List.mem_zipIdx_iff_getElem?];exact hj)
 simp only at h1;rw [List.all_eq_true] at h1;have h2:=h1 (f,i) (by rw [List.mem_zipIdx_iff_getElem?];exact hi)
 simpa [hlt,hc] using h2
theorem nI {specs:List Spec} {rec:fO} (hs:∀ s∈specs,bE P X s) (hc:iI P X v rec) (iY:P.follows .mixedOrders=true) {A F:Nat->Prop} {wS:World} {ρ0:Nat->Option Nat} {nb0:Nat} (hA:∀ n,A n->F n∨wS.heap.size<=n) (hA':∀ n,wS.heap.size<=n->A n) (path:Path) (id:Nat) (ops:Array Oper) (draw:Bool) (s:St) :
 ae X v (kK P specs rec path ops draw s) fun s'=>PT v path->∀ (ρ:Nat->Option Nat) (a:Act) (w:World),Rel v A F wS ρ0 nb0 s ρ a w ->
  (Code.region id ops draw).wp P (fun e a' w'=>e=.normal/\∃ ρ',Rel v A F wS ρ0 nb0 s' ρ' a' w') a w:=by
 unfold kK;refine ae.bind (lv hs hc A path ops s.nb ops.toList 0 s fun j=>?_) fun r hr=>?_
 . left;simp
 obtain ⟨s1,fs⟩:=r;simp only;have key:∀ (hp:PT v path) (ρ:Nat->Option Nat) (a:Act) (w:World),Rel v A F wS ρ0 nb0 s ρ a w->∃ σ:Nat->St,σ 0=s/\σ ops.size=s1/\fs.length=ops.size/\(∀ j,j<ops.size->ko P v A ops s.nb j (σ j) (σ (j+1)) (fs.getD j ⟨[],[],[],[]⟩)) /\
  (∀ w',w'.heap=w.heap->w'.os=w.os->w'.tape=w.tape->w'.output=w.output->fM v A F wS ρ s.nb ops.size σ (fun j=>fs.getD j ⟨[],[],[],[]⟩) (fun _=>False) ρ a w') /\
  ∀ (ρ':Nat->Option Nat) (a':Act) (w':World),fM v A F wS ρ s.nb ops.size σ (fun j=>fs.getD j ⟨[],[],[],[]⟩) (fun i=>i<ops.size) ρ' a' w'->Rel v A F wS ρ0 nb0 ⟨s1.slots,s1.mem,s.nb+ops.size⟩ ρ' a' w':=by
  intro hp ρ a w hR;obtain ⟨h1,σ,h2,h3,h4⟩:=hr hp;simp only [Array.length_toList] at h1 h3 h4;have h4':∀ j,j<ops.size->ko P v A ops s.nb j (σ j) (σ (j+1)) (fs.getD j ⟨[],[],[],[]⟩):=fun j hj=>by simpa using h4 j hj
  refine ⟨σ,h2,h3,h1,h4',?_,?_⟩
  . intro w' hw1 hw2 hw3 hw4;refine ⟨by rw [h2];exact hR.sz,hR.df,?_,?_,⟨hR.inv.inj,fun b n hb=>by rw [hw1];exact hR.inv.lt b n hb⟩,fun i _ _=>hR.new _ (by omega),fun b hb=>hR.new b (by omega),fun b hb=>rfl,?_⟩
    . intro t m hm hT;have e:=kE h4' t m 0 (by omega) fun i (_:0<=i) (hi:i<0+m) hw=>(hT i (by omega) hw).1 (by omega)
      rw [Nat.zero_add] at e;rw [e,h2];exact hR.slot t
    . intro b m k hm hT hk;have e:=nk h4' b m 0 (by omega) fun i (_:0<=i) (hi:i<0+m) hw=>(hT i (by omega) hw).1 (by omega)
      rw [Nat.zero_add] at e;rw [e,h2] at hk;obtain ⟨n,ys,q1,q2,q3,q4⟩:=hR.mem b k hk;exact ⟨n,ys,q1,q2,by rw [hw1];exact q3,q4⟩
    . exact ⟨by rw [hw2];exact hR.grow.os,by rw [hw3];exact hR.grow.tape,by rw [hw4];exact hR.grow.output,by rw [hw1];exact hR.grow.size,fun n hn hf=>by rw [hw1];exact hR.grow.block n hn hf⟩
  . intro ρ' a' w' hD;refine ⟨?_,hD.df,fun t=>?_,fun b k hk=>?_,hD.inv,hD.new,fun b hb=>?_,?_,hD.grow⟩
    . rw [hD.sz,<-mW h4' ops.size (Nat.le_refl _),h3]
    . rw [<-h3];exact hD.slot t ops.size (Nat.le_refl _) fun i hi _=>Iff.rfl
    . rw [<-h3] at hk;exact hD.mem b ops.size k (Nat.le_refl _) (fun i hi _=>Iff.rfl) hk
    . have:=hR.le;rw [hD.old b (by omega)];exact hR.old b hb
    . have:=hR.le;show nb0<=s.nb+ops.size;omega
 cases draw with
 | false =>
  simp only [Bool.false_eq_true,if_false];refine ae.pure fun hp ρ a w hR=>wp_region ?_
  obtain ⟨σ,h2,h3,h1,h4,h5,h6⟩:=key hp ρ a w hR;rw [List.range_eq_range'];refine Cf h4 hA hA' (fun ρ' a' w' hD=>⟨rfl,ρ',h6 ρ' a' w' hD⟩) ops.size 0 ρ a w (by omega) ?_
  have e:(fun i:Nat=>i<0)=fun _:Nat=>False:=by funext i;simp
  rw [e];exact h5 w rfl rfl rfl rfl
 | true =>
  simp only [if_true];refine ae.ite (fun ho=>?_) (fun _=>ae.fail)
  simp only [Bool.and_eq_true] at ho;refine ae.pure fun hp ρ a w hR=>wp_region_any iY ?_
  obtain ⟨σ,h2,h3,h1,h4,h5,h6⟩:=key hp ρ a w hR;refine KY h4 hA hA' ho.1 (fun i j hi hj hlt hcl=>?_) (fun ρ' a' w' hD=>⟨rfl,ρ',h6 ρ' a' w' hD⟩) ops.size _ ρ a _ (by simp) (by simp [List.count_replicate]) ?_ ?_
  . have gi:fs[i]? = some (fs.getD i ⟨[],[],[],[]⟩):=by
     rw [List.getD_eq_getElem?_getD,List.getElem?_eq_getElem (by omega)];rfl
    have gj:fs[j]? = some (fs.getD j ⟨[],[],[],[]⟩):=by
     rw [List.getD_eq_getElem?_getD,List.getElem?_eq_getElem (by omega)];rfl
    exact wC ho.2 gi gj hlt hcl
  . intro i o hi hL;unfold LL at hL;rw [Array.getD_eq_getD_getElem?] at hL
    by_cases hlt:i<ops.size
    . simp [hlt] at hL
    . simp [hlt] at hL
  . have e:LL (Array.replicate ops.size false)=fun _:Nat=>False:=by
     funext i
     apply propext;unfold LL;rw [Array.getD_eq_getD_getElem?]
     by_cases hlt:i<ops.size<;>simp [hlt]
    rw [e];exact h5 _ rfl rfl rfl rfl
end
end Sx
namespace Sx
open Go Go.RowKit
section
variable {P:Program} {X:Cx} {v:Nat->Int}
theorem ou (q:Rf) (x y:SC):ae X v (Da q x y) fun z=>∀ (ρ:Nat->Option Nat) (u:Value),(q.val v≠0->aF v ρ x u->aF v ρ z u)/\(q.val v=0->aF v ρ y u->aF v ρ z u):=by
 have top:∀ x y:SC,ae X v (M.pure SC.top) fun z=>∀ (ρ:Nat->Option Nat) (u:Value),(q.val v≠0->aF v ρ x u->aF v ρ z u)/\(q.val v=0->aF v ρ y u->aF v ρ z u):=fun x y =>
  ae.pure fun ρ u=>⟨fun _ h=>aF.one h,fun _ h=>aF.one h⟩
 unfold Da;refine ae.ite (fun he=>?_) (fun _=>?_)
 . rw [<-SC.eq_eq he];exact ae.pure fun ρ u=>⟨fun _ h=>h,fun _ h=>h⟩
 . split
   . rename_i k a j b
     refine ae.ite (fun hk=>?_) (fun _=>top _ _)
     subst hk;refine ae.bind (ae.mkIte _ _ _) fun r hr=>ae.pure fun ρ u=>⟨fun h0 h=>?_,fun h0 h=>?_⟩
     . simp only [aF] at h ⊢;rw [hr,if_pos h0];exact h
     . simp only [aF] at h ⊢;rw [hr,if_neg (by simp [h0])];exact h
   . refine ae.bind (ae.mkIte _ _ _) fun r hr=>ae.pure fun ρ u=>⟨fun h0 h=>?_,fun h0 h=>?_⟩
     . simp only [aF] at h ⊢;rw [hr,if_pos h0];exact h
     . simp only [aF] at h ⊢;rw [hr,if_neg (by simp [h0])];exact h
   . exact top _ _
theorem iE (q:Rf):∀ (xs ys:List SC),xs.length=ys.length->ae X v (wP q xs ys) fun zs=>∀ (ρ:Nat->Option Nat) (us:List Value),(q.val v≠0->aX (aF v ρ) xs us->aX (aF v ρ) zs us)/\(q.val v=0->aX (aF v ρ) ys us->aX (aF v ρ) zs us)
 | [],[],_=>ae.pure fun ρ us=>⟨fun _ h=>h,fun _ h=>h⟩
 | x::xs,y::ys,h=>by
  refine ae.bind (ou q x y) fun a ha=>ae.bind (iE q xs ys (by simpa using h)) fun l hl=>ae.pure fun ρ us=>⟨fun h0 h=>?_,fun h0 h=>?_⟩
  . cases h with
    | cons h1 h2=>exact .cons ((ha ρ _).1 h0 h1) ((hl ρ _).1 h0 h2)
  . cases h with
    | cons h1 h2=>exact .cons ((ha ρ _).2 h0 h1) ((hl ρ _).2 h0 h2)
 | [],_::_,h=>by cases h
 | _::_,[],h=>by cases h
theorem oh (q:Rf) (x y:SP):ae X v (BC q x y) fun z=>∀ z',z=some z'->∀ (ρ:Nat->Option Nat) (u:Value),(q.val v≠0->aS v ρ x u->aS v ρ z' u)/\(q.val v=0->aS v ρ y u->aS v ρ z' u):=by
 unfold BC;split
 . refine ae.bind (ou _ _ _) fun r hr=>ae.pure fun z' hz ρ u=>?_
   cases hz;exact hr ρ u
 . refine ae.ite (fun hl=>?_) (fun _=>ae.pure fun z' hz=>by cases hz)
   refine ae.bind (iE _ _ _ hl) fun r hr=>ae.pure fun z' hz ρ u=>?_
   cases hz;refine ⟨fun h0 h=>?_,fun h0 h=>?_⟩
   . obtain ⟨us,h1,h2⟩:=h;exact ⟨us,h1,(hr ρ us).1 h0 h2⟩
   . obtain ⟨us,h1,h2⟩:=h;exact ⟨us,h1,(hr ρ us).2 h0 h2⟩
 . exact ae.pure fun z' hz=>by cases hz
theorem lI (q:Rf):∀ (xs ys:List SP),ae X v (AC q xs ys) fun zs=>∀ zs',zs=some zs'->∀ (ρ:Nat->Option Nat) (us:List Value),(q.val v≠0->aX (aS v ρ) xs us->aX (aS v ρ) zs' us)/\(q.val v=0->aX (aS v ρ) ys us->aX (aS v ρ) zs' us)
 | [],[]=>ae.pure fun zs' hz ρ us=>by cases hz;exact ⟨fun _ h=>h,fun _ h=>h⟩
 | x::xs,y::ys=>by
  refine ae.bind (oh q x y) fun a ha=>ae.bind (lI q xs ys) fun l hl=>?_
  split
  . rename_i a l
    refine ae.pure fun zs' hz ρ us=>?_
    cases hz;refine ⟨fun h0 h=>?_,fun h0 h=>?_⟩
    . cases h with
      | cons h1 h2=>exact .cons ((ha _ rfl ρ _).1 h0 h1) ((hl _ rfl ρ _).1 h0 h2)
    . cases h with
      | cons h1 h2=>exact .cons ((ha _ rfl ρ _).2 h0 h1) ((hl _ rfl ρ _).2 h0 h2)
  . exact ae.pure fun z' hz=>by cases hz
 | [],_::_=>ae.pure fun z' hz=>by cases hz
 | _::_,[]=>ae.pure fun z' hz=>by cases hz
theorem wU (q:Rf) (x y:SV):ae X v (Hy q x y) fun z=>∀ (ρ:Nat->Option Nat) (u:Value),(q.val v≠0->aG v ρ x u->aG v ρ z u)/\(q.val v=0->aG v ρ y u->aG v ρ z u):=by
 have top:∀ x y:SV,ae X v (M.pure SV.top) fun z=>∀ (ρ:Nat->Option Nat) (u:Value),(q.val v≠0->aG v ρ x u->aG v ρ z u)/\(q.val v=0->aG v ρ y u->aG v ρ z u):=fun x y =>
  ae.pure fun ρ u=>⟨fun _ _=>trivial,fun _ _=>trivial⟩
 unfold Hy;refine ae.ite (fun he=>?_) (fun _=>?_)
 . rw [<-SV.eq_eq he];exact ae.pure fun ρ u=>⟨fun _ h=>h,fun _ h=>h⟩
 . split
   . refine ae.bind (oh _ _ _) fun r hr=>?_
     split
     . exact ae.pure fun ρ u=>hr _ rfl ρ u
     . exact top _ _
   . refine ae.bind (lI _ _ _) fun r hr=>?_
     split
     . rename_i l
       refine ae.pure fun ρ u=>⟨fun h0 h=>?_,fun h0 h=>?_⟩
       . obtain ⟨us,h1,h2⟩:=h;exact ⟨us,h1,(hr _ rfl ρ us).1 h0 h2⟩
       . obtain ⟨us,h1,h2⟩:=h;exact ⟨us,h1,(hr _ rfl ρ us).2 h0 h2⟩
     . exact top _ _
   . exact top _ _
theorem yZ (q:Rf) (x y:Sl):ae X v (GZ q x y) fun z=>∀ (ρ:Nat->Option Nat) (u:Value),(q.val v≠0->aQ v ρ x u->aQ v ρ z u)/\(q.val v=0->aQ v ρ y u->aQ v ρ z u):=by
 unfold GZ;refine ae.ite (fun he=>?_) (fun _=>?_)
 . rw [<-Sl.eq_eq he];exact ae.pure fun ρ u=>⟨fun _ h=>h,fun _ h=>h⟩
 . split
   . refine ae.bind (wU _ _ _) fun r hr=>ae.pure fun ρ u=>⟨fun h0 h=>⟨fun _=>(hr ρ u).1 h0 (h.1 PT.nil),fun h=>absurd PT.nil h⟩,fun h0 h=>⟨fun _=>(hr ρ u).2 h0 (h.1 PT.nil),fun h=>absurd PT.nil h⟩⟩
   . exact ae.pure fun ρ u=>⟨fun _ _=>aQ.top _ _,fun _ _=>aQ.top _ _⟩
theorem mF (q:Rf):∀ (xs ys:List Sl),xs.length=ys.length->ae X v (Ba q xs ys) fun zs=>zs.length=xs.length/\∀ (ρ:Nat->Option Nat) (t:Nat) (u:Value),(q.val v≠0->aQ v ρ (bf xs t) u->aQ v ρ (bf zs t) u)/\(q.val v=0->aQ v ρ (bf ys t) u->aQ v ρ (bf zs t) u)
 | [],[],_=>ae.pure ⟨rfl,fun ρ t u=>⟨fun _ h=>h,fun _ h=>h⟩⟩
 | x::xs,y::ys,h=>by
  refine ae.bind (yZ q x y) fun a ha=>ae.bind (mF q xs ys (by simpa using h)) fun l hl=>ae.pure ⟨by simp [hl.1],fun ρ t u=>?_⟩
  cases t with
  | zero=>exact ha ρ u
  | succ t=>exact hl.2 ρ t u
 | [],_::_,h=>by cases h
 | _::_,[],h=>by cases h
theorem lL (q:Rf):∀ (xs ys:List Bk),ae X v (Ah q xs ys) fun zs=>∀ (ρ:Nat->Option Nat) (A:Nat->Prop) (w:World),(q.val v≠0->∀ b k,aC b zs=some k->(∀ x∈xs,ed v ρ A w x)->ed v ρ A w k)/\(q.val v=0->dY v ρ A w ys->dY v ρ A w zs)
 | [],ys=>ae.pure fun ρ A w=>⟨fun _ b k h=>(by cases h),fun _ _ b k h=>(by cases h)⟩
 | x::xs,ys=>by
  refine ae.bind (lL q xs ys) fun l hl=>?_
  have skip:ae X v (M.pure l) fun zs=>∀ (ρ:Nat->Option Nat) (A:Nat->Prop) (w:World),(q.val v≠0->∀ b k,aC b zs=some k->(∀ y∈x::xs,ed v ρ A w y)->ed v ρ A w k)/\(q.val v=0->dY v ρ A w ys->dY v ρ A w zs) :=
   ae.pure fun ρ A w=>⟨fun h0 b k hk h=>(hl ρ A w).1 h0 b k hk fun y hy=>h y (List.mem_cons_of_mem _ hy),(hl ρ A w).2⟩
  split
  . rename_i y hy
    refine ae.ite (fun hc=>?_) (fun _=>skip)
    refine ae.bind (iE q x.cs y.cs hc.2) fun cs hcs=>ae.pure fun ρ A w=>⟨fun h0 b k hk h=>?_,fun h0 h b k hk=>?_⟩
    . simp only [aC] at hk;split at hk
      . cases hk;obtain ⟨n,us,h1,h2,h3,h4⟩:=h x (List.mem_cons_self ..);exact ⟨n,us,h1,h2,h3,(hcs ρ us).1 h0 h4⟩
      . exact (hl ρ A w).1 h0 b k hk fun y hy=>h y (List.mem_cons_of_mem _ hy)
    . simp only [aC] at hk;split at hk
      . rename_i hb
        cases hk;obtain ⟨n,us,h1,h2,h3,h4⟩:=h _ _ hy;refine ⟨n,us,by rw [bK hy] at h1;exact h1,h2,?_,(hcs ρ us).2 h0 h4⟩
        rw [hc.1];exact h3
      . exact (hl ρ A w).2 h0 h b k hk
  . exact skip
theorem lH {v:Nat->Int} {ρ:Nat->Option Nat} {A:Nat->Prop} {w:World}:∀ {m:List Bk},mQ m=true->dY v ρ A w m->∀ x∈m,ed v ρ A w x
 | y::l,hn,h,x,hx=>by
  simp only [mQ,Bool.and_eq_true] at hn;rcases List.mem_cons.1 hx with rfl|hx
  . exact h x.b x (by simp only [aC,if_true])
  . refine lH hn.2 (fun b k hk=>h b k ?_) x hx
    simp only [aC];rw [if_neg]
    . exact hk
    . rintro rfl;rw [hk] at hn;simp at hn
theorem xz (q:Rf) (x y:St):ae X v (Gy q x y) fun z=>∀ (A F:Nat->Prop) (wS:World) (ρ0:Nat->Option Nat) (nb0:Nat) (ρ:Nat->Option Nat) (a:Act) (w:World),
 (q.val v≠0->Rel v A F wS ρ0 nb0 x ρ a w->Rel v A F wS ρ0 nb0 z ρ a w)/\(q.val v=0->Rel v A F wS ρ0 nb0 y ρ a w->Rel v A F wS ρ0 nb0 z ρ a w):=by
 unfold Gy;refine ae.ite (fun hc=>?_) (fun _=>ae.fail)
 refine ae.bind (mF q _ _ hc.1) fun sl hsl=>ae.bind (lL q _ _) fun m hm=>ae.pure fun A F wS ρ0 nb0 ρ a w=>⟨fun h0 h=>?_,fun h0 h=>?_⟩
 . exact ⟨by rw [h.sz];exact hsl.1.symm,h.df,fun t=>(hsl.2 ρ t _).1 h0 (h.slot t),fun b k hk=>(hm ρ A w).1 h0 b k hk (lH hc.2 h.mem),h.inv,fun b hb=>h.new b (Nat.le_trans (Nat.le_max_left _ _) hb),h.old,Nat.le_trans h.le (Nat.le_max_left _ _),h.grow⟩
 . exact ⟨by rw [h.sz,<-hc.1];exact hsl.1.symm,h.df,fun t=>(hsl.2 ρ t _).2 h0 (h.slot t),(hm ρ A w).2 h0 h.mem,h.inv,fun b hb=>h.new b (Nat.le_trans (Nat.le_max_right _ _) hb),h.old,Nat.le_trans h.le (Nat.le_max_right _ _),h.grow⟩
end
section
variable {P:Program} {X:Cx} {v:Nat->Int} (v) (A F:Nat->Prop) (wS:World) (ρ0:Nat->Option Nat) (nb0:Nat)
def hot (o:Option (Rf × St)) (a:Act) (w:World):Prop:=∃ p s,o=some (p,s)/\p.val v≠0/\∃ ρ,Rel v A F wS ρ0 nb0 s ρ a w
def cold (o:Option (Rf × St)):Prop:=∀ p s,o=some (p,s)->p.val v=0
def dz (l:List (Nat × Rf × St)):Prop:=∀ x∈l,x.2.1.val v=0
def yn (id:Nat) (l:List (Nat × Rf × St)) (a:Act) (w:World):Prop:=∃ l1 l2 p s,l=l1++(id,p,s)::l2/\p.val v≠0/\(∃ ρ,Rel v A F wS ρ0 nb0 s ρ a w)/\dz v l1/\dz v l2
def Ends (o:Out):Exit->Act->World->Prop
 | .normal,a,w=>hot v A F wS ρ0 nb0 o.norm a w/\cold v o.ret/\dz v o.exits
 | .ret,a,w=>cold v o.norm/\hot v A F wS ρ0 nb0 o.ret a w/\dz v o.exits
 | .exit id,a,w=>cold v o.norm/\cold v o.ret/\yn v A F wS ρ0 nb0 id o.exits a w
 | _,_,_=>False
def EX (o:Out):Prop:=cold v o.norm/\cold v o.ret/\dz v o.exits
end
section
variable {P:Program} {X:Cx} {v:Nat->Int} {A F:Nat->Prop} {wS:World} {ρ0:Nat->Option Nat} {nb0:Nat}
theorem bJ:cold v none:=fun p s h=>by cases h
theorem dh:dz v []:=fun x h=>by cases h
theorem gG (x y:Option (Rf × St)):ae X v (uq x y) fun z=>(cold v x->cold v y->cold v z)/\∀ (A F:Nat->Prop) (wS:World) (ρ0:Nat->Option Nat) (nb0:Nat) a w,
 (hot v A F wS ρ0 nb0 x a w->cold v y->hot v A F wS ρ0 nb0 z a w)/\(cold v x->hot v A F wS ρ0 nb0 y a w->hot v A F wS ρ0 nb0 z a w):=by
 unfold uq;split
 . exact ae.pure ⟨fun _ h=>h,fun A F wS ρ0 nb0 a w=>⟨fun h=>(by obtain ⟨_,_,h,_⟩:=h;cases h),fun _ h=>h⟩⟩
 . exact ae.pure ⟨fun h _=>h,fun A F wS ρ0 nb0 a w=>⟨fun h _=>h,fun _ h=>by obtain ⟨_,_,h,_⟩:=h;cases h⟩⟩
 . rename_i p x q y
   refine ae.bind (ae.orR p q) fun r hr=>ae.bind (xz p x y) fun z hz=>ae.pure ⟨fun h k=>?_,fun A F wS ρ0 nb0 a w=>⟨fun h k=>?_,fun h k=>?_⟩⟩
   . intro p' s' he;cases he;have h1:=h _ _ rfl;have h2:=k _ _ rfl;apply Decidable.byContradiction;intro h3;rcases hr.1 h3 with h4|h4
     . exact h4 h1
     . exact h4 h2
   . obtain ⟨_,_,he,h1,ρ,h2⟩:=h;cases he;exact ⟨r,z,rfl,hr.2 (Or.inl h1),ρ,(hz A F wS ρ0 nb0 ρ a w).1 h1 h2⟩
   . obtain ⟨_,_,he,h1,ρ,h2⟩:=k;cases he;exact ⟨r,z,rfl,hr.2 (Or.inr h1),ρ,(hz A F wS ρ0 nb0 ρ a w).2 (h _ _ rfl) h2⟩
theorem lD (c:Rf) (x:Option (Rf × St)):ae X v (vF c x) fun z=>(c.val v=0->cold v z)/\(cold v x->cold v z)/\∀ (A F:Nat->Prop) (wS:World) (ρ0:Nat->Option Nat) (nb0:Nat) a w,c.val v≠0->hot v A F wS ρ0 nb0 x a w->hot v A F wS ρ0 nb0 z a w:=by
 unfold vF;split
 . exact ae.pure ⟨fun _=>bJ,fun _=>bJ,fun A F wS ρ0 nb0 a w _ h=>h⟩
 . rename_i p x
   refine ae.bind (ae.andR c p) fun r hr=>?_
   have gen:ae X v (M.pure (some (r,x))) fun z=>(c.val v=0->cold v z)/\(cold v (some (p,x))->cold v z)/\∀ (A F:Nat->Prop) (wS:World) (ρ0:Nat->Option Nat) (nb0:Nat) a w,c.val v≠0->hot v A F wS ρ0 nb0 (some (p,x)) a w->hot v A F wS ρ0 nb0 z a w:=by
    refine ae.pure ⟨fun h p' s' he=>?_,fun h p' s' he=>?_,fun A F wS ρ0 nb0 a w h k=>?_⟩
    . cases he;apply Decidable.byContradiction;intro h3;exact (hr.1 h3).1 h
    . cases he;apply Decidable.byContradiction;intro h3;exact (hr.1 h3).2 (h _ _ rfl)
    . obtain ⟨_,_,he,h1,ρ,h2⟩:=k;cases he;exact ⟨_,_,rfl,hr.2 ⟨h,h1⟩,ρ,h2⟩
   split
   . rename_i z
     refine ae.ite (fun h0=>?_) (fun _=>gen)
     refine ae.pure ⟨fun _=>bJ,fun _=>bJ,fun A F wS ρ0 nb0 a w h k=>?_⟩
     obtain ⟨_,_,he,h1,ρ,h2⟩:=k;cases he;have:=hr.2 ⟨h,h1⟩;exact absurd h0 this
   . exact gen
theorem lQ (c:Rf):∀ (l:List (Nat × Rf × St)),ae X v (zY c l) fun z=>(c.val v=0->dz v z)/\(dz v l->dz v z)/\∀ (A F:Nat->Prop) (wS:World) (ρ0:Nat->Option Nat) (nb0:Nat) id a w,c.val v≠0->yn v A F wS ρ0 nb0 id l a w->yn v A F wS ρ0 nb0 id z a w
 | []=>ae.pure ⟨fun _=>dh,fun _=>dh,fun A F wS ρ0 nb0 id a w _ h=>h⟩
 | (i,p,x)::l=>by
  refine ae.bind (ae.andR c p) fun r hr=>ae.bind (lQ c l) fun m hm=>?_
  obtain ⟨hm1,hm2,hm3⟩:=hm;have gen:ae X v (M.pure ((i,r,x)::m)) fun z=>(c.val v=0->dz v z)/\(dz v ((i,p,x)::l)->dz v z)/\∀ (A F:Nat->Prop) (wS:World) (ρ0:Nat->Option Nat) (nb0:Nat) id a w,c.val v≠0->yn v A F wS ρ0 nb0 id ((i,p,x)::l) a w->yn v A F wS ρ0 nb0 id z a w:=by
   refine ae.pure ⟨fun h y hy=>?_,fun h y hy=>?_,fun A F wS ρ0 nb0 id a w h k=>?_⟩
   . rcases List.mem_cons.1 hy with rfl|hy
     . apply Decidable.byContradiction;intro h3;exact (hr.1 h3).1 h
     . exact hm1 h y hy
   . rcases List.mem_cons.1 hy with rfl|hy
     . apply Decidable.byContradiction;intro h3;exact (hr.1 h3).2 (h (i,p,x) (List.mem_cons_self ..))
     . exact hm2 (fun y hy=>h y (List.mem_cons_of_mem _ hy)) y hy
   . obtain ⟨l1,l2,q,s,he,h1,h2,h3,h4⟩:=k;cases l1 with
     | nil =>
      simp only [List.nil_append,List.cons.injEq,Prod.mk.injEq] at he;obtain ⟨⟨rfl,rfl,rfl⟩,rfl⟩:=he;exact ⟨[],m,r,x,rfl,hr.2 ⟨h,h1⟩,h2,dh,hm2 h4⟩
     | cons y l1 =>
      simp only [List.cons_append,List.cons.injEq] at he;obtain ⟨rfl,rfl⟩:=he;obtain ⟨k1,k2,q',s',e,e1,e2,e3,e4⟩:=hm3 A F wS ρ0 nb0 id a w h ⟨l1,l2,q,s,rfl,h1,h2,fun y hy=>h3 y (List.mem_cons_of_mem _ hy),h4⟩
      refine ⟨(i,r,x)::k1,k2,q',s',by rw [e];rfl,e1,e2,fun y hy=>?_,e4⟩
      rcases List.mem_cons.1 hy with rfl|hy
      . apply Decidable.byContradiction;intro h5;exact (hr.1 h5).2 (h3 (i,p,x) (List.mem_cons_self ..))
      . exact e3 y hy
  split
  . rename_i z
    refine ae.ite (fun h0=>?_) (fun _=>gen)
    refine ae.pure ⟨hm1,fun h=>hm2 fun y hy=>h y (List.mem_cons_of_mem _ hy),fun A F wS ρ0 nb0 id a w h k=>?_⟩
    obtain ⟨l1,l2,q,s,he,h1,h2,h3,h4⟩:=k;cases l1 with
    | nil =>
     simp only [List.nil_append,List.cons.injEq,Prod.mk.injEq] at he;obtain ⟨⟨rfl,rfl,rfl⟩,rfl⟩:=he;exact absurd h0 (hr.2 ⟨h,h1⟩)
    | cons y l1 =>
     simp only [List.cons_append,List.cons.injEq] at he;obtain ⟨rfl,rfl⟩:=he;exact hm3 A F wS ρ0 nb0 id a w h ⟨l1,l2,q,s,rfl,h1,h2,fun y hy=>h3 y (List.mem_cons_of_mem _ hy),h4⟩
  . exact gen
theorem jd (c:Rf) (o:Out):ae X v (under c o) fun z=>(c.val v=0->EX v z)/\∀ (A F:Nat->Prop) (wS:World) (ρ0:Nat->Option Nat) (nb0:Nat) e a w,c.val v≠0->Ends v A F wS ρ0 nb0 o e a w->Ends v A F wS ρ0 nb0 z e a w:=by
 unfold under;refine ae.bind (lD c o.norm) fun n hn=>ae.bind (lD c o.ret) fun r hr=>ae.bind (lQ c o.exits) fun x hx=>ae.pure ⟨fun h=>⟨hn.1 h,hr.1 h,hx.1 h⟩,fun A F wS ρ0 nb0 e a w h k=>?_⟩
 cases e with
 | normal=>exact ⟨hn.2.2 _ _ _ _ _ a w h k.1,hr.2.1 k.2.1,hx.2.1 k.2.2⟩
 | ret=>exact ⟨hn.2.1 k.1,hr.2.2 _ _ _ _ _ a w h k.2.1,hx.2.1 k.2.2⟩
 | exit id=>exact ⟨hn.2.1 k.1,hr.2.1 k.2.1,hx.2.2 _ _ _ _ _ id a w h k.2.2⟩
 | goto l=>exact k.elim
 | panic ch=>exact k.elim
 | outgrown=>exact k.elim
theorem cB {l m:List (Nat × Rf × St)} (h:dz v l) (k:dz v m):dz v (l++m):=fun x hx=>by
 rcases List.mem_append.1 hx with h1|h1
 . exact h x h1
 . exact k x h1
theorem qZ (x y:Out):ae X v (join x y) fun z=>(EX v x->EX v y->EX v z)/\∀ (A F:Nat->Prop) (wS:World) (ρ0:Nat->Option Nat) (nb0:Nat) e a w,
 (Ends v A F wS ρ0 nb0 x e a w->EX v y->Ends v A F wS ρ0 nb0 z e a w)/\(EX v x->Ends v A F wS ρ0 nb0 y e a w->Ends v A F wS ρ0 nb0 z e a w):=by
 unfold join;refine ae.bind (gG x.norm y.norm) fun n hn=>ae.bind (gG x.ret y.ret) fun r hr=>ae.pure ⟨fun h k=>⟨hn.1 h.1 k.1,hr.1 h.2.1 k.2.1,cB h.2.2 k.2.2⟩,fun A F wS ρ0 nb0 e a w=>⟨fun h k=>?_,fun h k=>?_⟩⟩
 . cases e with
   | normal=>exact ⟨(hn.2 _ _ _ _ _ a w).1 h.1 k.1,hr.1 h.2.1 k.2.1,cB h.2.2 k.2.2⟩
   | ret=>exact ⟨hn.1 h.1 k.1,(hr.2 _ _ _ _ _ a w).1 h.2.1 k.2.1,cB h.2.2 k.2.2⟩
   | exit id =>
    refine ⟨hn.1 h.1 k.1,hr.1 h.2.1 k.2.1,?_⟩;obtain ⟨l1,l2,p,s,e,e1,e2,e3,e4⟩:=h.2.2;exact ⟨l1,l2++y.exits,p,s,by show x.exits++y.exits=_;rw [e];simp,e1,e2,e3,cB e4 k.2.2⟩
   | goto l=>exact h.elim
   | panic ch=>exact h.elim
   | outgrown=>exact h.elim
 . cases e with
   | normal=>exact ⟨(hn.2 _ _ _ _ _ a w).2 h.1 k.1,hr.1 h.2.1 k.2.1,cB h.2.2 k.2.2⟩
   | ret=>exact ⟨hn.1 h.1 k.1,(hr.2 _ _ _ _ _ a w).2 h.2.1 k.2.1,cB h.2.2 k.2.2⟩
   | exit id =>
    refine ⟨hn.1 h.1 k.1,hr.1 h.2.1 k.2.1,?_⟩;obtain ⟨l1,l2,p,s,e,e1,e2,e3,e4⟩:=k.2.2;exact ⟨x.exits++l1,l2,p,s,by show x.exits++y.exits=_;rw [e];simp,e1,e2,cB h.2.2 e3,e4⟩
   | goto l=>exact k.elim
   | panic ch=>exact k.elim
   | outgrown=>exact k.elim
theorem iM (id:Nat):∀ (l:List (Nat × Rf × St)) (n:Option (Rf × St)),ae X v (qh id n l) fun z=>(dz v l->dz v z.2)/\(cold v n->dz v l->cold v z.1)/\∀ (A F:Nat->Prop) (wS:World) (ρ0:Nat->Option Nat) (nb0:Nat) a w,
 (hot v A F wS ρ0 nb0 n a w->dz v l->hot v A F wS ρ0 nb0 z.1 a w) /\
 (cold v n->yn v A F wS ρ0 nb0 id l a w->hot v A F wS ρ0 nb0 z.1 a w/\dz v z.2) /\
 (∀ j,j≠id->cold v n->yn v A F wS ρ0 nb0 j l a w->cold v z.1/\yn v A F wS ρ0 nb0 j z.2 a w)
 | [],n=>ae.pure ⟨fun h=>h,fun h _=>h,fun A F wS ρ0 nb0 a w=>⟨fun h _=>h,fun _ h=>(by obtain ⟨l1,l2,p,s,e,_⟩:=h;simp at e),fun j _ _ h=>(by obtain ⟨l1,l2,p,s,e,_⟩:=h;simp at e)⟩⟩
 | (i,p,s)::l,n=>by
  unfold qh;refine ae.ite (fun hi=>?_) (fun hi=>?_)
  . subst hi;refine ae.bind (gG n (some (p,s))) fun n' hn=>ae.imp (iM i l n') fun z hz=>?_
    obtain ⟨hz1,hz2,hz3⟩:=hz;have hc1:dz v ((i,p,s)::l)->cold v (some (p,s))/\dz v l:=fun h=>⟨fun p' s' he=>by cases he;exact h (i,p,s) (List.mem_cons_self ..),fun y hy=>h y (List.mem_cons_of_mem _ hy)⟩
    refine ⟨fun h=>hz1 (hc1 h).2,fun h k=>hz2 (hn.1 h (hc1 k).1) (hc1 k).2,fun A F wS ρ0 nb0 a w=>⟨fun h k=>(hz3 _ _ _ _ _ a w).1 ((hn.2 _ _ _ _ _ a w).1 h (hc1 k).1) (hc1 k).2,fun h k=>?_,fun j hj h k=>?_⟩⟩
    . obtain ⟨l1,l2,q,s',e,e1,e2,e3,e4⟩:=k;cases l1 with
      | nil =>
       simp only [List.nil_append,List.cons.injEq,Prod.mk.injEq] at e;obtain ⟨⟨_,rfl,rfl⟩,rfl⟩:=e;exact ⟨(hz3 _ _ _ _ _ a w).1 ((hn.2 _ _ _ _ _ a w).2 h ⟨_,_,rfl,e1,e2⟩) e4,hz1 e4⟩
      | cons y l1 =>
       simp only [List.cons_append,List.cons.injEq] at e;obtain ⟨rfl,rfl⟩:=e;have c1:cold v (some (p,s)):=fun p' s' he=>by cases he;exact e3 (i,p,s) (List.mem_cons_self ..)
       exact (hz3 _ _ _ _ _ a w).2.1 (hn.1 h c1) ⟨l1,l2,q,s',rfl,e1,e2,fun y hy=>e3 y (List.mem_cons_of_mem _ hy),e4⟩
    . obtain ⟨l1,l2,q,s',e,e1,e2,e3,e4⟩:=k;cases l1 with
      | nil =>
       simp only [List.nil_append,List.cons.injEq,Prod.mk.injEq] at e;exact absurd e.1.1.symm hj
      | cons y l1 =>
       simp only [List.cons_append,List.cons.injEq] at e;obtain ⟨rfl,rfl⟩:=e;have c1:cold v (some (p,s)):=fun p' s' he=>by cases he;exact e3 (i,p,s) (List.mem_cons_self ..)
       exact (hz3 _ _ _ _ _ a w).2.2 j hj (hn.1 h c1) ⟨l1,l2,q,s',rfl,e1,e2,fun y hy=>e3 y (List.mem_cons_of_mem _ hy),e4⟩
  . refine ae.bind (iM id l n) fun z hz=>?_
    obtain ⟨z1,z2⟩:=z;obtain ⟨hz1,hz2,hz3⟩:=hz;have hc1:dz v ((i,p,s)::l)->dz v l:=fun h y hy=>h y (List.mem_cons_of_mem _ hy)
    refine ae.pure ⟨fun h y hy=>?_,fun h k=>hz2 h (hc1 k),fun A F wS ρ0 nb0 a w=>⟨fun h k=>(hz3 _ _ _ _ _ a w).1 h (hc1 k),fun h k=>?_,fun j hj h k=>?_⟩⟩
    . rcases List.mem_cons.1 hy with rfl|hy
      . exact h _ (List.mem_cons_self ..)
      . exact hz1 (hc1 h) y hy
    . obtain ⟨l1,l2,q,s',e,e1,e2,e3,e4⟩:=k;cases l1 with
      | nil =>
       simp only [List.nil_append,List.cons.injEq,Prod.mk.injEq] at e;exact absurd e.1.1 hi
      | cons y l1 =>
       simp only [List.cons_append,List.cons.injEq] at e;obtain ⟨rfl,rfl⟩:=e;obtain ⟨k1,k2⟩:=(hz3 _ _ _ _ _ a w).2.1 h ⟨l1,l2,q,s',rfl,e1,e2,fun y hy=>e3 y (List.mem_cons_of_mem _ hy),e4⟩
       refine ⟨k1,fun y hy=>?_⟩
       rcases List.mem_cons.1 hy with rfl|hy
       . exact e3 (i,p,s) (List.mem_cons_self ..)
       . exact k2 y hy
    . obtain ⟨l1,l2,q,s',e,e1,e2,e3,e4⟩:=k;cases l1 with
      | nil =>
       simp only [List.nil_append,List.cons.injEq,Prod.mk.injEq] at e;obtain ⟨⟨rfl,rfl,rfl⟩,rfl⟩:=e;exact ⟨hz2 h e4,[],z2,p,s,rfl,e1,e2,dh,hz1 e4⟩
      | cons y l1 =>
       simp only [List.cons_append,List.cons.injEq] at e;obtain ⟨rfl,rfl⟩:=e;obtain ⟨k1,m1,m2,q',s2,k3,k4,k5,k6,k7⟩:=(hz3 _ _ _ _ _ a w).2.2 j hj h ⟨l1,l2,q,s',rfl,e1,e2,fun y hy=>e3 y (List.mem_cons_of_mem _ hy),e4⟩
       refine ⟨k1,(i,p,s)::m1,m2,q',s2,by show (i,p,s)::z2=_;rw [show z2=_ from k3];rfl,k4,k5,fun y hy=>?_,k7⟩
       rcases List.mem_cons.1 hy with rfl|hy
       . exact e3 (i,p,s) (List.mem_cons_self ..)
       . exact k6 y hy
end
end Sx
namespace Sx
open Go Go.RowKit
section
variable {P:Program} {X:Cx} {v:Nat->Int}
theorem ae.all {α:Type} {β:Sort _} {m:M α} {R:β->α->Prop} (h:∀ x,ae X v m (R x)):ae X v m fun a=>∀ x,R x a:=fun b a b' hr g x=>h x b a b' hr g
variable {A F:Nat->Prop} {wS:World} {ρ0:Nat->Option Nat} {nb0:Nat}
theorem oz (path:Path) (o:Out) (k:Path->St->M Out) (Next:(Exit->Act->World->Prop)->Act->World->Prop) (hmono:∀ (Q Q':Exit->Act->World->Prop),(∀ e a w,Q e a w->Q' e a w)->∀ a w,Next Q a w->Next Q' a w)
 (hk:∀ path' s,ae X v (k path' s) fun o2=>PT v path'->∀ ρ a w,Rel v A F wS ρ0 nb0 s ρ a w->Next (Ends v A F wS ρ0 nb0 o2) a w) :
 ae X v (Db path o k) fun z=>PT v path->(∀ e a w,e≠.normal->Ends v A F wS ρ0 nb0 o e a w->Ends v A F wS ρ0 nb0 z e a w)/\∀ a w,Ends v A F wS ρ0 nb0 o .normal a w->Next (Ends v A F wS ρ0 nb0 z) a w:=by
 unfold Db;split
 . rename_i hn
   refine ae.pure fun hp=>⟨fun e a w _ h=>h,fun a w h=>?_⟩
   obtain ⟨_,_,h1,_⟩:=h.1;rw [hn] at h1;cases h1
 . rename_i p s hn
   refine ae.bind (hk _ _) fun b hb=>ae.bind (jd p b) fun b' hb'=>ae.imp (qZ _ _) fun z hz hp=>⟨fun e a w he h=>?_,fun a w h=>?_⟩
   . have hcold:p.val v=0/\Ends v A F wS ρ0 nb0 ⟨none,o.ret,o.exits⟩ e a w:=by
      cases e with
      | normal=>exact absurd rfl he
      | ret=>exact ⟨h.1 p s hn,bJ,h.2⟩
      | exit id=>exact ⟨h.1 p s hn,bJ,h.2⟩
      | goto l=>exact h.elim
      | panic ch=>exact h.elim
      | outgrown=>exact h.elim
     exact (hz.2 A F wS ρ0 nb0 e a w).1 hcold.2 (hb'.1 hcold.1)
   . obtain ⟨⟨_,_,h1,h2,ρ,h3⟩,h4,h5⟩:=h;rw [hn] at h1;cases h1;have hp':PT v (pathOf path p):=by
      unfold pathOf;split
      . exact hp
      . exact PT.cons.2 ⟨by simpa using h2,hp⟩
     refine hmono _ _ (fun e a w hE=>?_) a w (hb hp' ρ a w h3)
     exact (hz.2 A F wS ρ0 nb0 e a w).2 ⟨bJ,h4,h5⟩ (hb'.2 A F wS ρ0 nb0 e a w h2 hE)
theorem og {c:Code} {Q Q':Exit->Act->World->Prop} (h:∀ e a w,Q e a w->Q' e a w):∀ (n:Nat) (a:Act) (w:World),Code.rounds P c Q n a w->Code.rounds P c Q' n a w
 | 0,a,w,hh=>hh.elim
 | n+1,a,w,hh=>by
  rw [rounds_succ] at hh ⊢
  refine Code.wp_mono (fun e a w q=>?_) hh
  cases e with
  | normal=>exact og h n a w q
  | ret=>exact h _ _ _ q
  | exit id=>exact h _ _ _ q
  | goto l=>exact h _ _ _ q
  | panic ch=>exact h _ _ _ q
  | outgrown=>exact h _ _ _ q
theorem AP {specs:List Spec} {rec:fO} (hs:∀ s∈specs,bE P X s) (hc:iI P X v rec) (iY:P.follows .mixedOrders=true) (hA:∀ n,A n->F n∨wS.heap.size<=n) (hA':∀ n,wS.heap.size<=n->A n) (rounds:Nat) :
 ∀ (c:Code) (path:Path) (s:St),ae X v (exec P specs rec rounds c path s) fun o=>PT v path->∀ ρ a w,Rel v A F wS ρ0 nb0 s ρ a w->c.wp P (Ends v A F wS ρ0 nb0 o) a w:=by
 have one:∀ (s:St) (ρ:Nat->Option Nat) (a:Act) (w:World),Rel v A F wS ρ0 nb0 s ρ a w->hot v A F wS ρ0 nb0 (some (.c 1,s)) a w:=fun s ρ a w h=>⟨_,_,rfl,by simp [dF],ρ,h⟩
 intro c
 induction c with
 | skip=>intro path s;exact ae.pure fun _ ρ a w h=>wp_skip ⟨one s ρ a w h,bJ,dh⟩
 | region id ops draw =>
  intro path s;unfold exec;refine ae.bind (nI hs hc iY hA hA' path id ops draw s) fun s' hs'=>ae.pure fun hp ρ a w h=>Code.wp_mono (fun e a w ⟨he,ρ',h'⟩=>?_) (hs' hp ρ a w h)
  subst he;exact ⟨one s' ρ' a w h',bJ,dh⟩
 | seq x y ihx ihy =>
  intro path s;unfold exec;refine ae.bind (ihx path s) fun o ho=>ae.imp (oz path o _ (fun Q a w=>y.wp P Q a w) (fun Q Q' h a w hw=>Code.wp_mono h hw) ihy) fun z hz hp ρ a w h=>wp_seq ?_
  refine Code.wp_mono (fun e a w hE=>?_) (ho hp ρ a w h)
  cases e with
  | normal=>exact (hz hp).2 a w hE
  | ret=>exact (hz hp).1 _ a w (by simp) hE
  | exit id=>exact (hz hp).1 _ a w (by simp) hE
  | goto l=>exact hE.elim
  | panic ch=>exact hE.elim
  | outgrown=>exact hE.elim
 | cond c x y ihx ihy =>
  intro path s;unfold exec;refine ae.bind ae.opt fun p hpv=>?_
  split
  . rename_i z
    have hev:∀ ρ a w,Rel v A F wS ρ0 nb0 s ρ a w->a.eval c=.bool (decide (z≠0)):=fun ρ a w h=>bD (v:=v) (ρ:=ρ) PT.nil hpv fun t _=>h.slot t
    refine ae.ite (fun hz=>?_) (fun hz=>?_)
    . refine ae.imp (ihx path s) fun o ho hp ρ a w h=>wp_cond (hev ρ a w h) ?_
      simp only [hz,ne_eq,not_false_eq_true,decide_true,if_true];exact ho hp ρ a w h
    . refine ae.imp (ihy path s) fun o ho hp ρ a w h=>wp_cond (hev ρ a w h) ?_
      have hz':z=0:=by simpa using hz
      simp only [hz',ne_eq,not_true_eq_false,decide_false,Bool.false_eq_true,if_false];exact ho hp ρ a w h
  . rename_i r hnr
    have hev:∀ ρ a w,Rel v A F wS ρ0 nb0 s ρ a w->a.eval c=.bool (decide (r.val v≠0)):=fun ρ a w h=>bD (v:=v) (ρ:=ρ) PT.nil hpv fun t _=>h.slot t
    refine ae.bind (ihx _ s) fun ox hox=>ae.bind (ihy _ s) fun oy hoy=>ae.bind (jd r ox) fun ux hux=>ae.bind (ae.notR r) fun r' hr'=>ae.bind (jd r' oy) fun uy huy=>ae.imp (qZ ux uy) fun z hz hp ρ a w h=>wp_cond (hev ρ a w h) ?_
    by_cases h0:r.val v=0
    . have h0':r'.val v≠0:=hr'.2 h0;simp only [h0,ne_eq,not_true_eq_false,decide_false,Bool.false_eq_true,if_false];refine Code.wp_mono (fun e a w hE=>?_) (hoy (PT.cons.2 ⟨by simp [h0],hp⟩) ρ a w h)
      exact (hz.2 A F wS ρ0 nb0 e a w).2 (hux.1 h0) (huy.2 A F wS ρ0 nb0 e a w h0' hE)
    . have h0':r'.val v=0:=by
       apply Decidable.byContradiction;intro h1;exact h0 (hr'.1 h1)
      simp only [h0,ne_eq,not_false_eq_true,decide_true,if_true];refine Code.wp_mono (fun e a w hE=>?_) (hox (PT.cons.2 ⟨by simp [h0],hp⟩) ρ a w h)
      exact (hz.2 A F wS ρ0 nb0 e a w).1 (hux.2 A F wS ρ0 nb0 e a w h0 hE) (huy.1 h0')
  . exact ae.fail
 | block id c ih =>
  intro path s;unfold exec;refine ae.bind (ih path s) fun o ho=>ae.bind (iM id o.exits o.norm) fun z hz=>?_
  obtain ⟨n,l⟩:=z;obtain ⟨hz1,hz2,hz3⟩:=hz;refine ae.pure fun hp ρ a w h=>wp_block (Code.wp_mono (fun e a w hE=>?_) (ho hp ρ a w h))
  cases e with
  | normal=>exact ⟨(hz3 A F wS ρ0 nb0 a w).1 hE.1 hE.2.2,hE.2.1,hz1 hE.2.2⟩
  | ret=>exact ⟨hz2 hE.1 hE.2.2,hE.2.1,hz1 hE.2.2⟩
  | exit j =>
   by_cases hj:j=id
   . subst hj;obtain ⟨k1,k2⟩:=(hz3 A F wS ρ0 nb0 a w).2.1 hE.1 hE.2.2;simp only [Exit.inBlock,if_true];exact ⟨k1,hE.2.1,k2⟩
   . obtain ⟨k1,k2⟩:=(hz3 A F wS ρ0 nb0 a w).2.2 j hj hE.1 hE.2.2;simp only [Exit.inBlock,hj,if_false];exact ⟨k1,hE.2.1,k2⟩
  | goto l=>exact hE.elim
  | panic ch=>exact hE.elim
  | outgrown=>exact hE.elim
 | loop c ih =>
  intro path s;unfold exec;have key:∀ (n:Nat) (path:Path) (s:St),ae X v (Dx (exec P specs rec rounds c) n path s) fun o=>PT v path->∀ ρ a w,Rel v A F wS ρ0 nb0 s ρ a w->Code.rounds P c (Ends v A F wS ρ0 nb0 o) n a w:=by
   intro n
   induction n with
   | zero=>intro path s;exact ae.fail
   | succ n ihn =>
    intro path s;unfold Dx;refine ae.bind (ih path s) fun o ho=>ae.imp (oz path o _ (fun Q a w=>Code.rounds P c Q n a w) (fun Q Q' h a w hw=>og h n a w hw) ihn) fun z hz hp ρ a w h=>?_
    rw [rounds_succ];refine Code.wp_mono (fun e a w hE=>?_) (ho hp ρ a w h)
    cases e with
    | normal=>exact (hz hp).2 a w hE
    | ret=>exact (hz hp).1 _ a w (by simp) hE
    | exit id=>exact (hz hp).1 _ a w (by simp) hE
    | goto l=>exact hE.elim
    | panic ch=>exact hE.elim
    | outgrown=>exact hE.elim
  exact ae.imp (key rounds path s) fun o ho hp ρ a w h=>wp_loop_rounds rounds (ho hp ρ a w h)
 | rangeFunc f ps x y ihx ihy=>intro path s;exact ae.fail
 | exit id =>
  intro path s;exact ae.pure fun hp ρ a w h=>wp_exit ⟨bJ,bJ,[],[],_,_,rfl,by simp [dF],⟨ρ,h⟩,dh,dh⟩
 | scope c ih =>
  intro path s;unfold exec;exact ae.imp (ih path s) fun o ho hp ρ a w h=>wp_scope_straight (Code.wp_mono (fun e a w hE=>by cases e<;>exact hE) (ho hp ρ a w h))
 | label l=>intro path s;exact ae.pure fun _ ρ a w h=>wp_label ⟨one s ρ a w h,bJ,dh⟩
 | goto l=>intro path s;exact ae.fail
 | ret=>intro path s;exact ae.pure fun _ ρ a w h=>wp_ret ⟨bJ,one s ρ a w h,dh⟩
 | refuse why=>intro path s;exact ae.fail
end
end Sx
namespace Sx
open Go Go.RowKit
section
variable {P:Program} {X:Cx} {v:Nat->Int}
theorem kv {n:Nat}:∀ {l:List Nat},below n l=true->∀ b∈l,b<n
 | x::l,h,b,hb=>by
  simp only [below,Bool.and_eq_true,decide_eq_true_eq] at h;rcases List.mem_cons.1 hb with rfl|hb
  . exact h.1
  . exact kv h.2 b hb
theorem Em {A F:Nat->Prop} {wS:World} {ρ0:Nat->Option Nat} {nb0:Nat} {s:St} {ρ:Nat->Option Nat} {a:Act} {w:World} (h:Rel v A F wS ρ0 nb0 s ρ a w) {r:ResultVar} {x:SP} (hx:BO P s r=some x) :
 ∃ y,(match r with|.tmp t=>pure (a.tmps.getD t undef)|.cell c t=>do loadVar t (← asAddr (a.tmps.getD c undef)):Sem Value).run P w=.ok y w/\aS v ρ x y:=by
 cases r with
 | tmp t =>
  simp only [BO] at hx;split at hx
  . rename_i x' he
    cases hx;exact ⟨_,rfl,bD (v:=v) (a:=a) PT.nil he fun t' _=>h.slot t'⟩
  . cases hx
 | cell c t =>
  simp only [BO] at hx;split at hx
  . rename_i b o he
    have h1:aG v ρ (.p (.c (.ptr b o))) (a.tmps.getD c undef):=bD (v:=v) (a:=a) PT.nil he fun t' _=>h.slot t'
    obtain ⟨n,hn,hp⟩:=h1;unfold lW at hx;split at hx
    . rename_i k hk
      obtain ⟨n',ys,q1,_,q3,q4⟩:=h.mem b k hk;rw [bK hk,hn] at q1;cases q1;obtain ⟨y,h5,h6⟩:=kV (P:=P) q3 q4 hx;refine ⟨y,?_,h6⟩;simp only [hp,asAddr,Sem.run_bind,Sem.run_pure,Result.andThen_ok];exact h5
    . cases hx
  . cases hx
theorem qP {A F:Nat->Prop} {wS:World} {ρ0:Nat->Option Nat} {nb0:Nat} {s:St} {ρ:Nat->Option Nat} {a:Act} {w:World} (h:Rel v A F wS ρ0 nb0 s ρ a w):∀ {l:List ResultVar} {xs:List SP},wI P s l=some xs ->
 ∃ ys:List Value,(l.mapM fun r=>(match r with|.tmp t=>pure (a.tmps.getD t undef)|.cell c t=>do loadVar t (← asAddr (a.tmps.getD c undef)):Sem Value)).run P w=.ok ys w/\aX (aS v ρ) xs ys
 | [],xs,hx=>by cases hx;exact ⟨[],by simp,.nil⟩
 | r::l,xs,hx=>by
  simp only [wI] at hx;split at hx
  . rename_i y m h1 h2
    cases hx;obtain ⟨z,h3,h4⟩:=Em h h1;obtain ⟨zs,h5,h6⟩:=qP h h2;refine ⟨z::zs,?_,.cons h4 h6⟩;rw [List.mapM_cons,Sem.run_bind,h3,Result.andThen_ok,Sem.run_bind,h5,Result.andThen_ok];rfl
  . cases hx
theorem qW {specs:List Spec} {rec:fO} (hs:∀ s∈specs,bE P X s) (hc:iI P X v rec) (iY:P.follows .mixedOrders=true) (rounds:Nat):iI P X v (qV P specs rec rounds):=by
 intro f args path mem nb;unfold qV;split
 . exact ae.fail
 . rename_i fn hf
   split
   . exact ae.fail
   . rename_i c hb
     refine ae.ite (fun _=>ae.fail) (fun hname=>?_)
     have hname' : (fn.name == "runtime.NumGoroutine") = false := by simpa using hname
     refine ae.bind (ae.all fun A=>ae.all fun F=>ae.all fun wS=>ae.all fun ρ0=>ae.all fun nb0=>ae.all fun (hA:∀ n,A n->F n∨wS.heap.size<=n)=>ae.all fun (hA':∀ n,wS.heap.size<=n->A n)=>AP (A:=A) (F:=F) (wS:=wS) (ρ0:=ρ0) (nb0:=nb0) hs hc iY hA hA' rounds c path _) fun o ho=>?_
     refine ae.ite (fun hex=>?_) (fun _=>ae.fail)
     have hex':o.exits=[]:=List.isEmpty_iff.1 hex;refine ae.bind (gG o.ret o.norm) fun r hr=>?_
     cases r with
     | none=>exact ae.fail
     | some q =>
      obtain ⟨p,s⟩:=q;refine ae.bind ae.opt fun vs hvs=>?_
      simp only;have main:∀ (sv:SV),(below nb (SV.blocks.spsBlocks vs)&&((cK (mem.map (·.b)) s.mem).all fun k=>below nb (bI k.cs))&&decide ((cK (mem.map (·.b)) s.mem).map (·.b)=mem.map (·.b)))=true ->
       (∀ (ρ:Nat->Option Nat) (ys:List Value),aX (aS v ρ) vs ys->aG v ρ sv (if h:(⟨ys⟩:Array Value).size=1 then (⟨ys⟩:Array Value)[0] else .tuple ⟨ys⟩)) ->
       ae X v (M.pure (sv,cK (mem.map (·.b)) s.mem)) fun r=>PT v path->∀ (ρ:Nat->Option Nat) (w:World) (xs:List Value),aX (aG v ρ) args xs->Inv ρ w->(∀ b,nb<=b->ρ b=none)->dY v ρ (fun _=>True) w mem ->
        zx P f/\Calls P f ⟨xs⟩ w fun e w'=>∃ x,e=.returned x/\∀ nm,Res v ρ ρ nm mem r.2 w w' r.1 x:=by
       intro sv hck hsv;simp only [Bool.and_eq_true,decide_eq_true_eq] at hck;obtain ⟨⟨hck1,hck2⟩,hck3⟩:=hck;refine ae.pure fun hp ρ w xs hx hi hn hmem=>⟨⟨fn,c,hf,hb,hname'⟩,?_⟩
       have hlen:=hx.length;have hR:Rel v (fun n=>(∃ b k,aC b mem=some k/\ρ b=some n)∨w.heap.size<=n) (fun n=>∃ b k,aC b mem=some k/\ρ b=some n) w ρ nb
        ⟨args.map (fun v=>(⟨[],v⟩:Sl))++List.replicate (fn.ntmps-args.length) ⟨[],.tup []⟩,mem,nb⟩ ρ { tmps:=⟨xs⟩++Array.replicate (fn.ntmps-(⟨xs⟩:Array Value).size) undef,defers:=[] } w:=by
        refine ⟨by simp [hlen],rfl,fun t=>?_,fun b k hk=>?_,hi,hn,fun _ _=>rfl,Nat.le_refl _,Grow.refl _ _⟩
        . have gen:∀ (as:List SV) (ys:List Value) (m:Nat),aX (aG v ρ) as ys->∀ t,aQ v ρ (bf (as.map (fun v=>(⟨[],v⟩:Sl))++List.replicate m ⟨[],.tup []⟩) t) ((ys++List.replicate m undef).getD t undef):=by
           intro as ys m h
           induction h with
           | nil =>
            intro t
            by_cases ht:t<m
            . have e1:bf (List.map (fun v=>(⟨[],v⟩:Sl)) []++List.replicate m ⟨[],.tup []⟩) t=⟨[],.tup []⟩:=by
               simp [bf,List.getD_eq_getElem?_getD,ht]
              have e2:(([]:List Value)++List.replicate m undef).getD t undef=undef:=by
               simp [List.getD_eq_getElem?_getD,ht]
              rw [e1,e2];exact ⟨fun _=>⟨[],rfl,.nil⟩,fun h=>absurd PT.nil h⟩
            . rw [nH (by simp;omega)]
              exact aQ.top _ _
           | cons h1 h2 ih =>
            intro t;cases t with
            | zero=>exact ⟨fun _=>h1,fun h=>absurd PT.nil h⟩
            | succ t=>exact ih t
          have:=gen args xs (fn.ntmps-args.length) hx t;have e:((⟨xs⟩:Array Value)++Array.replicate (fn.ntmps-(⟨xs⟩:Array Value).size) undef).getD t undef=(xs++List.replicate (fn.ntmps-args.length) undef).getD t undef:=by
           rw [hlen];rw [Array.getD_eq_getD_getElem?,<-Array.getElem?_toList,List.getD_eq_getElem?_getD];simp
          rw [e];exact this
        . obtain ⟨n,ys,q1,_,q3⟩:=hmem b k hk;exact ⟨n,ys,q1,Or.inl ⟨b,k,hk,by rw [<-bK hk];exact q1⟩,q3⟩
       refine calls_of_wp hf hb (Code.wp_mono (fun e a w' hE=>?_) (ho _ _ _ _ _ (fun n h=>h) (fun n h=>Or.inr h) hp ρ _ w hR))
       have fin:∀ (a:Act) (w':World),hot v (fun n=>(∃ b k,aC b mem=some k/\ρ b=some n)∨w.heap.size<=n) (fun n=>∃ b k,aC b mem=some k/\ρ b=some n) w ρ nb (some (p,s)) a w'->a.defers=[]/\∃ x,(results fn a.tmps).run P w'=.ok x w'/\∃ y,Ending.returned x=.returned y/\∀ nm,Res v ρ ρ nm mem (cK (mem.map (·.b)) s.mem) w w' sv y:=by
        intro a w' hh;obtain ⟨_,_,he,_,ρ',hR'⟩:=hh;cases he;obtain ⟨ys,h1,h2⟩:=qP (P:=P) hR' hvs;refine ⟨hR'.df,(if h:(⟨ys⟩:Array Value).size=1 then (⟨ys⟩:Array Value)[0] else .tuple ⟨ys⟩),?_,_,rfl,fun nm=>?_⟩
        . unfold results;rw [Sem.run_bind,Array.mapM_eq_mapM_toList];simp only [Sem.run_map];have e1:∀ (g g':ResultVar->Sem Value),(∀ r,g r=g' r)->(fn.results.toList.mapM g).run P w'=(fn.results.toList.mapM g').run P w':=fun g g' h=>by rw [funext h]
          rw [e1 _ _ ?_,h1]
          . rfl
          . intro r;cases r<;>rfl
        . have back:∀ b,b<nb->∀ n,ρ' b=some n->ρ b=some n:=fun b hb n h=>by rw [<-hR'.old b hb];exact h
          refine ⟨fun _ _ h=>h,fun _ _=>rfl,hi.grow hR'.grow.size,?_,fun k hk=>?_,fun b k hk=>?_,?_⟩
          . refine hsv ρ ys (zw (fun b hb n h=>back b (kv hck1 b hb) n h) h2)
          . have:k.b∈mem.map (·.b):=by rw [<-hck3];exact List.mem_map.2 ⟨k,hk,rfl⟩
            obtain ⟨k0,hk0,e0⟩:=List.mem_map.1 this;rw [<-e0];exact Or.inr (aV hk0)
          . obtain ⟨g1,g2⟩:=bF hk;obtain ⟨n,us,q1,q2,q3,q4⟩:=hR'.mem b k g1;obtain ⟨k0,hk0,e0⟩:=List.mem_map.1 g2;obtain ⟨k1,hk1⟩:=aV hk0;rw [e0] at hk1;obtain ⟨n1,_,q5,_⟩:=hmem b k1 hk1;rw [bK hk1] at q5;have hlt:b<nb:=by
             rcases Nat.lt_or_ge b nb with h|h
             . exact h
             . rw [hn b h] at q5;cases q5
            have hkb:=bK hk;refine ⟨n,us,back _ (by rw [hkb];exact hlt) n q1,q2,q3,?_⟩
            have hall:=List.all_eq_true.1 hck2 k (iC hk);exact lu (fun b' hb' n' h=>back b' (kv hall b' hb') n' h) q4
          . refine ⟨hR'.grow.os,hR'.grow.tape,hR'.grow.output,hR'.grow.size,fun n hn1 hn2=>hR'.grow.block n hn1 ?_⟩
            rintro ⟨b,k,g1,g2⟩;have:b∈(cK (mem.map (·.b)) s.mem).map (·.b):=by rw [hck3];exact List.mem_map.2 ⟨k,iC g1,bK g1⟩
            obtain ⟨k0,hk0,e0⟩:=List.mem_map.1 this;obtain ⟨k1,hk1⟩:=aV hk0;rw [e0] at hk1;exact hn2 ⟨b,k1,hk1,g2⟩
       cases e with
       | normal=>exact fin a w' ((hr.2 _ _ _ _ _ a w').2 hE.2.1 hE.1)
       | ret=>exact fin a w' ((hr.2 _ _ _ _ _ a w').1 hE.2.1 hE.1)
       | exit id =>
        obtain ⟨l1,l2,_,_,e,_⟩:=hE.2.2;rw [hex'] at e;simp at e
       | goto l=>exact hE.elim
       | panic ch=>exact hE.elim
       | outgrown=>exact hE.elim
      refine ae.ite (fun hck=>?_) (fun _=>ae.fail)
      split
      . rename_i x
        refine main _ hck fun ρ ys h=>?_
        cases h with
        | cons h1 h2=>cases h2;exact h1
      . rename_i hne
        refine main _ hck fun ρ ys h=>?_
        rw [dif_neg]
        . exact ⟨ys,rfl,h⟩
        . intro hsz;have:=h.length;have hsz':ys.length=1:=hsz;rw [hsz'] at this;obtain ⟨x,hx⟩:=List.length_eq_one_iff.1 this;exact hne x hx
theorem oD {specs:List Spec} (hs:∀ s∈specs,bE P X s) (iY:P.follows .mixedOrders=true) (rounds:Nat):∀ n,iI P X v (Dk P specs rounds n)
 | 0=>fun _ _ _ _ _=>ae.fail
 | n+1=>qW hs (oD hs iY rounds n) iY rounds
theorem oG:∀ (h:Sh) (i:Nat),ae X v (GD i h) fun cs=>∀ ρ,aX (aF v ρ) cs (fU h (X.args.drop i))
 | [],i=>ae.pure fun _=>.nil
 | k::h,i=>by
  refine ae.bind (ae.mk _) fun r hr=>ae.bind (oG h (i+1)) fun cs hcs=>ae.pure fun ρ=>?_
  have e:r.val v=(X.args.drop i).headD 0:=by rw [hr,rF];rfl
  have ht:(X.args.drop i).tail=X.args.drop (i+1):=by rw [List.tail_drop]
  cases k with
  | some k=>simp only [fU];rw [ht];exact .cons (by simp only [aF];rw [e]) (hcs ρ)
  | none=>simp only [fU];rw [ht];exact .cons (by simp only [aF];rw [e]) (hcs ρ)
theorem kW:∀ (hs:List (Bool × Sh)) (i:Nat),ae X v (vg i hs) fun xs=>∀ ρ,aX (aG v ρ) xs (mkVals hs (X.args.drop i))
 | [],i=>ae.pure fun _=>.nil
 | (g,h)::hs,i=>by
  refine ae.bind (oG h i) fun cs hcs=>ae.bind (kW hs (i+h.length)) fun ps hps=>?_
  have hd:(X.args.drop i).drop h.length=X.args.drop (i+h.length):=by rw [List.drop_drop]
  cases g with
  | true=>exact ae.pure fun ρ=>by simp only [mkVals];rw [hd];exact .cons ⟨_,rfl,hcs ρ⟩ (hps ρ)
  | false =>
   simp only [Bool.false_eq_true,if_false];split
   . rename_i x
     refine ae.pure fun ρ=>?_
     simp only [mkVals];rw [hd];refine .cons ?_ (hps ρ);have h1:=hcs ρ;generalize fU h (X.args.drop i)=ys at h1;cases h1 with
     | cons h1 h2=>exact h1
   . exact ae.fail
theorem xM {specs:List Spec} (hs:∀ s∈specs,bE P X s) (iY:P.follows .mixedOrders=true) {rounds depth f:Nat} {sh:List (Bool × Sh)} {sv:SV} {b:Bd} (h:whole P specs rounds depth f sh=some (sv,b)) (g:Good X v b) (w:World) :
 Calls P f ⟨mkVals sh X.args⟩ w fun e w'=>∃ x,e=.returned x/\aG v (fun _=>none) sv x/\Below w.heap.size w w':=by
 unfold whole at h;have S:ae X v (M.bind (vg 0 sh) fun args=>Dk P specs rounds depth f args [] [] 0) fun r=>Calls P f ⟨mkVals sh X.args⟩ w fun e w'=>∃ x,e=.returned x/\aG v (fun _=>none) r.1 x/\Below w.heap.size w w':=by
  refine ae.bind (kW sh 0) fun args ha=>ae.imp (oD hs iY rounds depth f args [] [] 0) fun r hr=>?_
  have:=(hr PT.nil (fun _=>none) w _ (by simpa using ha (fun _=>none)) ⟨fun _ _ _ h=>(by cases h),fun _ _ h=>(by cases h)⟩ (fun _ _=>rfl) (fun _ _ h=>by cases h)).2
  refine this.mono ?_;rintro e w' ⟨x,he,hR⟩;have R:=hR 0;refine ⟨x,he,R.val,Grow.below ⟨R.grow.os,R.grow.tape,R.grow.output,R.grow.size,fun n hn _=>R.grow.block n hn ?_⟩⟩
  rintro ⟨_,_,_,h⟩;cases h
 split at h
 . rename_i r m b' hrun
   cases h;exact S _ _ _ hrun g
 . cases h
def Rf.lt (n:Nat):Rf->Bool
 | .c _=>true
 | .n i=>Nat.blt i n
def Dj (n:Nat):List Rf->Bool
 | []=>true
 | x::l=>Rf.lt n x&&Dj n l
def Nd.lt (n:Nat):Nd->Bool
 | .arg _=>true
 | .bin _ _ a b=>a.lt n&&b.lt n
 | .wrap _ a=>a.lt n
 | .ite c a b=>c.lt n&&(a.lt n&&b.lt n)
 | .mn a b=>a.lt n&&b.lt n
 | .mx a b=>a.lt n&&b.lt n
 | .app _ _ xs=>Dj n xs
def wfN:List Nd->Bool
 | []=>true
 | x::l=>x.lt l.length&&wfN l
theorem Rf.val_congr {v v':Nat->Int} {n:Nat} (h:∀ i,i<n->v i=v' i) {r:Rf} (hr:r.lt n=true):r.val v=r.val v':=by
 cases r with
 | c z=>rfl
 | n i=>exact h i (by simp [Rf.lt,Nat.blt] at hr;omega)
theorem uu {v v':Nat->Int} {n:Nat} (h:∀ i,i<n->v i=v' i):∀ {l:List Rf},Dj n l=true->l.map (Rf.val v)=l.map (Rf.val v')
 | [],_=>rfl
 | x::l,hl=>by
  simp only [Dj,Bool.and_eq_true] at hl;simp only [List.map_cons];rw [Rf.val_congr h hl.1,uu h hl.2]
theorem Nd.val_congr {v v':Nat->Int} {n:Nat} (h:∀ i,i<n->v i=v' i) {x:Nd} (hx:x.lt n=true):x.val X v=x.val X v':=by
 cases x<;>simp only [Nd.lt,Bool.and_eq_true] at hx<;>simp only [Nd.val]
 . rw [Rf.val_congr h hx.1,Rf.val_congr h hx.2]
 . rw [Rf.val_congr h hx]
 . rw [Rf.val_congr h hx.1,Rf.val_congr h hx.2.1,Rf.val_congr h hx.2.2]
 . rw [Rf.val_congr h hx.1,Rf.val_congr h hx.2]
 . rw [Rf.val_congr h hx.1,Rf.val_congr h hx.2]
 . rw [uu h hx]
theorem fI.congr {v v':Nat->Int}:∀ {l:List Nd},wfN l=true->(∀ i,i<l.length->v i=v' i)->fI X v l->fI X v' l
 | [],_,_,_=>trivial
 | x::l,hw,h,hs=>by
  simp only [wfN,Bool.and_eq_true] at hw;refine ⟨?_,fI.congr hw.2 (fun i hi=>h i (by simp;omega)) hs.2⟩
  rw [<-h l.length (by simp),hs.1]
  exact Nd.val_congr (fun i hi=>h i (by simp;omega)) hw.1
theorem rG:∀ (l:List Nd),wfN l=true->∃ v,fI X v l
 | [],_=>⟨fun _=>0,trivial⟩
 | x::l,hw=>by
  have hw':=hw;simp only [wfN,Bool.and_eq_true] at hw'
  obtain ⟨v,hv⟩:=rG l hw'.2;refine ⟨fun i=>if i=l.length then x.val X v else v i,?_,?_⟩
  . simp only [if_true];exact Nd.val_congr (fun i hi=>by rw [if_neg (by omega)]) hw'.1
  . exact fI.congr hw'.2 (fun i hi=>by rw [if_neg (by omega)]) hv
end
theorem calls {P:Program} {X:Cx} {specs:List Spec} (iY:P.follows .mixedOrders=true) (hs:∀ s∈specs,bE P X s) {rounds depth f:Nat} {sh:List (Bool × Sh)} {sv:SV} {nodes:List Nd} {vcs:List Vc} (h:whole P specs rounds depth f sh=some (sv,⟨nodes,vcs⟩)) (hw:wfN nodes=true) {R:Value}
 (H:∀ v,fI X v nodes->(∀ c∈vcs,c.holds X v)/\∀ x,aG v (fun _=>none) sv x->x=R) (w:World) :
 Calls P f ⟨mkVals sh X.args⟩ w fun e w'=>e=.returned R/\Below w.heap.size w w':=by
 obtain ⟨v,hv⟩:=rG (X:=X) nodes hw;obtain ⟨h1,h2⟩:=H v hv;refine (xM hs iY h ⟨hv,h1⟩ w).mono ?_;rintro e w' ⟨x,he,hx,hb⟩;exact ⟨by rw [he,h2 x hx],hb⟩
end Sx
namespace Sx
open Go Go.RowKit
section
variable {X:Cx} {v:Nat->Int}
theorem yX:∀ (l m:List Nd),fI X v (l.reverse++m)->∀ i nd,l[i]? = some nd->v (m.length+i)=nd.val X v
 | [],m,_,i,nd,h=>by simp at h
 | x::l,m,hs,i,nd,h=>by
  have hs':fI X v (l.reverse++(x::m)):=by simpa using hs
  cases i with
  | zero =>
   simp at h;subst h;exact (fI.drop (l:=l.reverse) hs').1
  | succ i =>
   have:=yX l (x::m) hs' i nd (by simpa using h)
   rw [<-this]
   congr 1
   simp;omega
theorem ai {l:List Nd} (h:fI X v l.reverse) (i:Nat) {nd:Nd} (hi:l[i]? = some nd):v i=nd.val X v:=by
 have:=yX (X:=X) (v:=v) l [] (by simpa using h) i nd hi
 simpa using this
theorem jN {l:List Vc} (h:∀ c∈l,c.holds X v):∀ c∈l.reverse,c.holds X v:=fun c hc=>h c (by simpa using hc)
theorem jV:∀ c∈([]:List Vc),c.holds X v:=fun c hc=>by cases hc
theorem aL {c:Vc} {l:List Vc} (h:c.holds X v) (t:∀ c∈l,c.holds X v):∀ d∈c::l,d.holds X v:=fun d hd=>by
 rcases List.mem_cons.1 hd with rfl|hd
 . exact h
 . exact t d hd
theorem jQ {r:Rf} {p:Path} (h:PT v ((r,true)::p)):r.val v≠0/\PT v p:=by
 have:=PT.cons.1 h;exact ⟨by simpa using this.1,this.2⟩
end
end Sx
namespace Sx
open Go Go.RowKit
variable {v:Nat->Int} {ρ:Nat->Option Nat}
def plC:SC->Bool
 | .int _ _=>true
 | .bool _=>true
 | _=>false
def KT (v:Nat->Int):SC->Value
 | .int k r=>.int k (r.val v)
 | .bool r=>.bool (decide (r.val v≠0))
 | _=>undef
theorem BD {x:SC} {y:Value} (h:plC x=true) (r:aF v ρ x y):y=KT v x:=by
 cases x with
 | int k r'=>exact r
 | bool r'=>exact r
 | _=>simp [plC] at h
theorem xe:∀ {xs:List SC} {ys:List Value},xs.all plC=true->aX (aF v ρ) xs ys->ys=xs.map (KT v)
 | [],_,_,.nil=>rfl
 | x::xs,_,h,.cons r rs=>by
  simp only [List.all_cons,Bool.and_eq_true] at h;rw [List.map_cons,BD h.1 r,xe h.2 rs]
def plP:SP->Bool
 | .c x=>plC x
 | .agg xs=>xs.all plC
def Ke (v:Nat->Int):SP->Value
 | .c x=>KT v x
 | .agg xs=>.agg ⟨xs.map (KT v)⟩
theorem BR {x:SP} {y:Value} (h:plP x=true) (r:aS v ρ x y):y=Ke v x:=by
 cases x with
 | c x=>exact BD h r
 | agg xs =>
  obtain ⟨ys,rfl,rs⟩:=r;rw [xe h rs];rfl
theorem xO:∀ {xs:List SP} {ys:List Value},xs.all plP=true->aX (aS v ρ) xs ys->ys=xs.map (Ke v)
 | [],_,_,.nil=>rfl
 | x::xs,_,h,.cons r rs=>by
  simp only [List.all_cons,Bool.and_eq_true] at h;rw [List.map_cons,BR h.1 r,xO h.2 rs]
def plV:SV->Bool
 | .top=>false
 | .p x=>plP x
 | .tup xs=>xs.all plP
def TZ (v:Nat->Int):SV->Value
 | .top=>undef
 | .p x=>Ke v x
 | .tup xs=>.tuple ⟨xs.map (Ke v)⟩
theorem jK {x:SV} {y:Value} (h:plV x=true) (r:aG v ρ x y):y=TZ v x:=by
 cases x with
 | top=>cases h
 | p x=>exact BR h r
 | tup xs =>
  obtain ⟨ys,rfl,rs⟩:=r;rw [xO h rs];rfl
end Sx
namespace Sx
open Go Go.RowKit
def Rf.le:Rf->Rf->Bool
 | .c _,_=>true
 | .n _,.c _=>false
 | .n i,.n j=>Nat.ble i j
def Eb (r:Rf):List Rf->Bool
 | []=>false
 | x::l=>Rf.eq x r || Eb r l
theorem lU {r:Rf}:∀ {l:List Rf},Eb r l=true->r∈l
 | x::l,h=>by
  simp only [Eb,Bool.or_eq_true] at h;rcases h with h|h
  . rw [Rf.eq_eq h];exact List.mem_cons_self ..
  . exact List.mem_cons_of_mem _ (lU h)
def ow (f:Rf->Rf):Nd->Nd
 | .arg i=>.arg i
 | .bin op k a b=>.bin op k (f a) (f b)
 | .wrap k a=>.wrap k (f a)
 | .ite c a b=>.ite (f c) (f a) (f b)
 | .mn a b=>.mn (f a) (f b)
 | .mx a b=>.mx (f a) (f b)
 | .app g i xs=>.app g i (xs.map f)
def hR:Rf->Nat
 | .c (.ofNat z)=>Nat.mul 4 z
 | .c (.negSucc z)=>Nat.add (Nat.mul 4 z) 2
 | .n i=>Nat.add (Nat.mul 2 i) 1
def hRs:List Rf->Nat
 | []=>0
 | x::l=>Nat.add (hR x) (Nat.mul 4099 (hRs l))
def hN:Nd->Nat
 | .arg i=>Nat.mul 16 i
 | .bin op _ a b=>Nat.add (Nat.mul 16 (Nat.add (Fu op) (Nat.mul 32 (Nat.add (hR a) (Nat.mul 4099 (hR b)))))) 1
 | .wrap _ a=>Nat.add (Nat.mul 16 (hR a)) 2
 | .ite c a b=>Nat.add (Nat.mul 16 (Nat.add (hR c) (Nat.mul 4099 (Nat.add (hR a) (Nat.mul 4099 (hR b)))))) 3
 | .mn a b=>Nat.add (Nat.mul 16 (Nat.add (hR a) (Nat.mul 4099 (hR b)))) 4
 | .mx a b=>Nat.add (Nat.mul 16 (Nat.add (hR a) (Nat.mul 4099 (hR b)))) 5
 | .app f i xs=>Nat.add (Nat.mul 16 (Nat.add (Nat.add i (Nat.mul 8 f)) (Nat.mul 512 (hRs xs)))) 6
structure Te where
 h:Nat
 j:Nat
 q:Rf
 x:Nd
abbrev Tab:=List Te
def yu (i:Nat):Tab->Option Nd
 | []=>none
 | ⟨_,j,q,x⟩::l=>bif Nat.beq j i then (bif Rf.eq q (.n i) then some x else yu i l) else yu i l
def Mv (r:Rf) (t:Tab):Option Nd:=match r with
 | .n i=>yu i t
 | .c _=>none
def xD (k:Nat) (x:Nd):Tab->Option Rf
 | []=>none
 | ⟨h,_,q,y⟩::l=>bif Nat.beq h k then (bif Nd.eq y x then some q else xD k x l) else xD k x l
def uP (x:Nd) (t:Tab):Option Rf:=xD (hN x) x t
def mxN (a b:Rf):Nd:=if Rf.le a b then .mx a b else .mx b a
def mnN (a b:Rf):Nd:=if Rf.le a b then .mn a b else .mn b a
inductive Rs where
 | rf (r:Rf)
 | nd (x:Nd)
def su (t:Tab) (nz:List Rf):Nat->Rf->Rf->Rf->Rs
 | _,.c z,a,b=>.rf (if ieq z 0 then b else a)
 | 0,c,a,b=>.nd (.ite c a b)
 | f+1,c,a,b =>
  if Rf.eq a b then .rf a
  else if Eb c nz then .rf a
  else match Mv c t with
   | some (.ite d (.c (.ofNat 0)) (.c (.ofNat 1)))=>su t nz f d b a
   | some (.bin .neq k p q) =>
    if Rf.eq a (.c 1)&&Rf.eq b (.c 0) then .rf c
    else if Rf.eq a p&&Rf.eq b q then .rf p
    else if Rf.eq a q&&Rf.eq b p then .rf q
    else match uP (.bin .eql k p q) t with
     | some c2=>if Rf.le c2 c then su t nz f c2 b a else .nd (.ite c a b)
     | none=>.nd (.ite c a b)
   | some (.bin .eql k p q) =>
    if Rf.eq a (.c 1)&&Rf.eq b (.c 0) then .rf c
    else if Rf.eq a p&&Rf.eq b q then .rf q
    else if Rf.eq a q&&Rf.eq b p then .rf p
    else match uP (.bin .neq k p q) t with
     | some c2=>if Rf.le c2 c then su t nz f c2 b a else .nd (.ite c a b)
     | none=>.nd (.ite c a b)
   | some (.bin .lss k p q) =>
    if Rf.eq a (.c 1)&&Rf.eq b (.c 0) then .rf c
    else if Rf.eq a q&&Rf.eq b p then .nd (mxN p q)
    else if Rf.eq a p&&Rf.eq b q then .nd (mnN p q)
    else match uP (.bin .leq k q p) t with
     | some c2=>if Rf.le c2 c then su t nz f c2 b a else .nd (.ite c a b)
     | none=>.nd (.ite c a b)
   | some (.bin .leq k p q) =>
    if Rf.eq a (.c 1)&&Rf.eq b (.c 0) then .rf c
    else if Rf.eq a q&&Rf.eq b p then .nd (mxN p q)
    else if Rf.eq a p&&Rf.eq b q then .nd (mnN p q)
    else match uP (.bin .lss k q p) t with
     | some c2=>if Rf.le c2 c then su t nz f c2 b a else .nd (.ite c a b)
     | none=>.nd (.ite c a b)
   | _=>.nd (.ite c a b)
def Pi (nz:List Rf) (op:BinOp) (k:IntKind):Rf->Rf->Rs
 | .c x,.c y=>.rf (.c (bO op k x y))
 | a,b=>match op with
  | .eql=>if Rf.eq a b then .rf (.c 1) else if Rf.eq b (.c 0)&&Eb a nz then .rf (.c 0) else .nd (.bin .eql k a b)
  | .neq=>if Rf.eq a b then .rf (.c 0) else if Rf.eq b (.c 0)&&Eb a nz then .rf (.c 1) else .nd (.bin .neq k a b)
  | .lss=>if Rf.eq a b then .rf (.c 0) else .nd (.bin .lss k a b)
  | .leq=>if Rf.eq a b then .rf (.c 1) else .nd (.bin .leq k a b)
  | .gtr=>if Rf.eq a b then .rf (.c 0) else .nd (.bin .lss k b a)
  | .geq=>if Rf.eq a b then .rf (.c 1) else .nd (.bin .leq k b a)
  | op=>.nd (.bin op k a b)
def mnR:Rf->Rf->Rs
 | .c x,.c y=>.rf (.c (if y<x then y else x))
 | a,b=>if Rf.eq a b then .rf a else .nd (mnN a b)
def mxR:Rf->Rf->Rs
 | .c x,.c y=>.rf (.c (if y>x then y else x))
 | a,b=>if Rf.eq a b then .rf a else .nd (mxN a b)
def Kq (t:Tab) (nz:List Rf):Nd->Rs
 | .bin op k a b=>Pi nz op k a b
 | .ite c a b=>su t nz 6 c a b
 | .wrap k (.c x)=>.rf (.c (k.wrap x))
 | .mn a b=>mnR a b
 | .mx a b=>mxR a b
 | x=>.nd x
abbrev Ext:=Tab->Nd->Option Rf
structure Ns where
 n:Nat
 reps:List Rf
 tab:Tab
def Ns.rep (s:Ns):Rf->Rf
 | .c z=>.c z
 | .n i=>if Nat.blt i s.n then (match s.reps[s.n-1-i]? with|some r=>r|none=>.n i) else .n i
def Du (n:Nat):List (Nat × Rf)->Option Rf
 | []=>none
 | (i,r)::l=>if Nat.beq i n then some r else Du n l
def OQ (s:Ns) (x:Nd):Ns:=match uP x s.tab with
 | some r=>⟨s.n+1,r::s.reps,s.tab⟩
 | none=>⟨s.n+1,.n s.n::s.reps,⟨hN x,s.n,.n s.n,x⟩::s.tab⟩
def xK (ext:Ext) (ps:List (Nat × Rf)) (nz:List Rf) (s:Ns) (x0:Nd):Ns :=
 match Du s.n ps with
 | some (.c z)=>match Kq s.tab nz (ow s.rep x0) with
  | .rf _=>⟨s.n+1,.c z::s.reps,s.tab⟩
  | .nd x=>⟨s.n+1,.c z::s.reps,⟨hN x,0,.c z,x⟩::s.tab⟩
 | some (.n j)=>⟨s.n+1,s.rep (.n j)::s.reps,s.tab⟩
 | none=>match ext s.tab (ow s.rep x0) with
  | some r=>⟨s.n+1,r::s.reps,s.tab⟩
  | none=>match Kq s.tab nz (ow s.rep x0) with
   | .rf r=>⟨s.n+1,r::s.reps,s.tab⟩
   | .nd x=>OQ s x
def runN (ext:Ext) (ps:List (Nat × Rf)) (nz:List Rf):Ns->List Nd->Ns
 | s,[]=>s
 | s,x::l=>runN ext ps nz (xK ext ps nz s x) l
def norm (ext:Ext) (ps:List (Nat × Rf)) (nz:List Rf) (l:List Nd):Ns:=runN ext ps nz ⟨0,[],[]⟩ l
section
variable {X:Cx} {v:Nat->Int}
def jF (X:Cx) (v:Nat->Int) (t:Tab):Prop:=∀ e∈t,e.q.val v=e.x.val X v
theorem rZ {i:Nat}:∀ {t:Tab} {x:Nd},jF X v t->yu i t=some x->(Rf.n i).val v=x.val X v
 | ⟨h,j,q,y⟩::l,x,ht,hd=>by
  have hl:jF X v l:=fun e he=>ht e (List.mem_cons_of_mem _ he)
  simp only [yu] at hd;cases h1:Nat.beq j i<;>rw [h1] at hd
  . exact rZ hl hd
  . cases h2:Rf.eq q (.n i)<;>rw [h2] at hd
    . exact rZ hl hd
    . have e:y=x:=Option.some.inj hd;rw [<-Rf.eq_eq h2,<-e];exact ht ⟨h,j,q,y⟩ (List.mem_cons_self ..)
theorem jE {r:Rf} {t:Tab} {x:Nd} (ht:jF X v t) (h:Mv r t=some x):r.val v=x.val X v:=by
 cases r with
 | c z=>cases h
 | n i=>exact rZ ht h
theorem qo {k:Nat} {x:Nd}:∀ {t:Tab} {r:Rf},jF X v t->xD k x t=some r->r.val v=x.val X v
 | ⟨h,j,q,y⟩::l,r,ht,hd=>by
  have hl:jF X v l:=fun e he=>ht e (List.mem_cons_of_mem _ he)
  simp only [xD] at hd;cases h1:Nat.beq h k<;>rw [h1] at hd
  . exact qo hl hd
  . cases h2:Nd.eq y x<;>rw [h2] at hd
    . exact qo hl hd
    . have e:q=r:=Option.some.inj hd;rw [<-Nd.eq_eq h2,<-e];exact ht ⟨h,j,q,y⟩ (List.mem_cons_self ..)
theorem jl {x:Nd} {t:Tab} {r:Rf} (ht:jF X v t) (h:uP x t=some r):r.val v=x.val X v:=qo ht h
def Rs.val (X:Cx) (v:Nat->Int):Rs->Int
 | .rf r=>r.val v
 | .nd x=>x.val X v
theorem wN (a b:Rf):(mxN a b).val X v=if b.val v>a.val v then b.val v else a.val v:=by
 unfold mxN;split
 . rfl
 . simp only [Nd.val];split<;>split<;>omega
theorem uZ (a b:Rf):(mnN a b).val X v=if b.val v<a.val v then b.val v else a.val v:=by
 unfold mnN;split
 . rfl
 . simp only [Nd.val];split<;>split<;>omega
theorem jb {p:Prop} [Decidable p] {x y:Int}:(if b2i (decide p)≠0 then x else y)=if p then x else y:=by by_cases h:p<;>simp [b2i,h]
theorem je {b:Bool} {x y:Int}:(if b2i b≠0 then x else y)=if b then x else y:=by cases b<;>rfl
theorem uS (z:Int) (a b:Rf):(Rs.rf (if ieq z 0 then b else a)).val X v=if (Rf.c z).val v≠0 then a.val v else b.val v:=by
 by_cases h:ieq z 0=true
 . have e:=vB h;subst e;rfl
 . have hz:z≠0:=fun q=>h (by rw [q];exact IB 0)
   have e1:(if ieq z 0=true then b else a)=a:=if_neg h
   have e2:(if z≠0 then a.val v else b.val v)=a.val v:=if_pos hz
   show (if ieq z 0=true then b else a).val v=if z≠0 then a.val v else b.val v
   rw [e1,e2]
theorem mH (b:Bool):b2i b=if b2i b≠0 then (1:Int) else 0:=by cases b<;>rfl
theorem Kl {t:Tab} {nz:List Rf} (ht:jF X v t) (hz:∀ r∈nz,r.val v≠0):∀ (f:Nat) (c a b:Rf),(su t nz f c a b).val X v=if c.val v≠0 then a.val v else b.val v:=by
 intro f
 induction f with
 | zero =>
  intro c a b;cases c with
  | c z =>
   simp only [su];exact uS z a b
  | n i=>simp only [su,Rs.val,Nd.val]
 | succ f ih =>
  intro c a b;cases c with
  | c z =>
   simp only [su];exact uS z a b
  | n i =>
   simp only [su];split
   . rename_i h;rw [Rf.eq_eq h];simp only [Rs.val];split<;>rfl
   . split
     . rename_i h;rw [if_pos (hz _ (lU h))];simp only [Rs.val]
     . split
       . rename_i d hd
         have e:(Rf.n i).val v=if d.val v≠0 then (0:Int) else 1:=jE ht hd
         rw [ih,e];generalize d.val v=z
         by_cases q:z=0
         . subst q;rfl
         . rw [if_pos q,if_pos q];rfl
       . rename_i k p q hd
         have e:=jE ht hd;simp only [Nd.val,bO] at e;split
         . rename_i h
           simp only [Bool.and_eq_true] at h;rw [Rf.eq_eq h.1,Rf.eq_eq h.2];show (Rf.n i).val v=if (Rf.n i).val v≠0 then (1:Int) else 0
           rw [e];exact mH _
         . split
           . rename_i h
             simp only [Bool.and_eq_true] at h;rw [Rf.eq_eq h.1,Rf.eq_eq h.2,e,je];simp only [Rs.val]
             by_cases s:p.val v=q.val v<;>simp [s]
           . split
             . rename_i h
               simp only [Bool.and_eq_true] at h;rw [Rf.eq_eq h.1,Rf.eq_eq h.2,e,je];simp only [Rs.val]
               by_cases s:p.val v=q.val v<;>simp [s]
             . split
               . rename_i c2 h2
                 split
                 . have e2:=jl ht h2;simp only [Nd.val,bO] at e2;rw [ih,e,e2,je,je]
                   by_cases s:p.val v=q.val v<;>simp [s]
                 . simp only [Rs.val,Nd.val]
               . simp only [Rs.val,Nd.val]
       . rename_i k p q hd
         have e:=jE ht hd;simp only [Nd.val,bO] at e;split
         . rename_i h
           simp only [Bool.and_eq_true] at h;rw [Rf.eq_eq h.1,Rf.eq_eq h.2];show (Rf.n i).val v=if (Rf.n i).val v≠0 then (1:Int) else 0
           rw [e];exact mH _
         . split
           . rename_i h
             simp only [Bool.and_eq_true] at h;rw [Rf.eq_eq h.1,Rf.eq_eq h.2,e,je];simp only [Rs.val]
             by_cases s:p.val v=q.val v<;>simp [s]
           . split
             . rename_i h
               simp only [Bool.and_eq_true] at h;rw [Rf.eq_eq h.1,Rf.eq_eq h.2,e,je];simp only [Rs.val]
               by_cases s:p.val v=q.val v<;>simp [s]
             . split
               . rename_i c2 h2
                 split
                 . have e2:=jl ht h2;simp only [Nd.val,bO] at e2;rw [ih,e,e2,je,je]
                   by_cases s:p.val v=q.val v<;>simp [s]
                 . simp only [Rs.val,Nd.val]
               . simp only [Rs.val,Nd.val]
       . rename_i k p q hd
         have e:=jE ht hd;simp only [Nd.val,bO] at e;split
         . rename_i h
           simp only [Bool.and_eq_true] at h;rw [Rf.eq_eq h.1,Rf.eq_eq h.2];show (Rf.n i).val v=if (Rf.n i).val v≠0 then (1:Int) else 0
           rw [e];exact mH _
         . split
           . rename_i h
             simp only [Bool.and_eq_true] at h;rw [Rf.eq_eq h.1,Rf.eq_eq h.2,e,jb];simp only [Rs.val];rw [wN]
           . split
             . rename_i h
               simp only [Bool.and_eq_true] at h;rw [Rf.eq_eq h.1,Rf.eq_eq h.2,e,jb];simp only [Rs.val];rw [uZ];split<;>split<;>omega
             . split
               . rename_i c2 h2
                 split
                 . have e2:=jl ht h2;simp only [Nd.val,bO] at e2;rw [ih,e,e2,jb,jb];split<;>split<;>first|rfl|omega
                 . simp only [Rs.val,Nd.val]
               . simp only [Rs.val,Nd.val]
       . rename_i k p q hd
         have e:=jE ht hd;simp only [Nd.val,bO] at e;split
         . rename_i h
           simp only [Bool.and_eq_true] at h;rw [Rf.eq_eq h.1,Rf.eq_eq h.2];show (Rf.n i).val v=if (Rf.n i).val v≠0 then (1:Int) else 0
           rw [e];exact mH _
         . split
           . rename_i h
             simp only [Bool.and_eq_true] at h;rw [Rf.eq_eq h.1,Rf.eq_eq h.2,e,jb];simp only [Rs.val];rw [wN];split<;>split<;>omega
           . split
             . rename_i h
               simp only [Bool.and_eq_true] at h;rw [Rf.eq_eq h.1,Rf.eq_eq h.2,e,jb];simp only [Rs.val];rw [uZ];split<;>split<;>omega
             . split
               . rename_i c2 h2
                 split
                 . have e2:=jl ht h2;simp only [Nd.val,bO] at e2;rw [ih,e,e2,jb,jb];split<;>split<;>first|rfl|omega
                 . simp only [Rs.val,Nd.val]
               . simp only [Rs.val,Nd.val]
       . simp only [Rs.val,Nd.val]
theorem KZ {nz:List Rf} (hz:∀ r∈nz,r.val v≠0) (op:BinOp) (k:IntKind) (a b:Rf):(Pi nz op k a b).val X v=bO op k (a.val v) (b.val v):=by
 unfold Pi;split
 . rfl
 . split
   . split
     . rename_i h;rw [Rf.eq_eq h];simp [Rs.val,Rf.val,bO,b2i]
     . split
       . rename_i h
         simp only [Bool.and_eq_true] at h;have:=hz _ (lU h.2);have e:(a.val v==0)=false:=by simpa using this
         rw [Rf.eq_eq h.1];show (0:Int)=b2i (a.val v==0);rw [e];rfl
       . rfl
   . split
     . rename_i h;rw [Rf.eq_eq h];simp [Rs.val,Rf.val,bO,b2i]
     . split
       . rename_i h
         simp only [Bool.and_eq_true] at h;have:=hz _ (lU h.2);have e:(a.val v != 0)=true:=by simpa using this
         rw [Rf.eq_eq h.1];show (1:Int)=b2i (a.val v != 0);rw [e];rfl
       . rfl
   . split
     . rename_i h;rw [Rf.eq_eq h];simp [Rs.val,Rf.val,bO,b2i]
     . rfl
   . split
     . rename_i h;rw [Rf.eq_eq h];simp [Rs.val,Rf.val,bO,b2i]
     . rfl
   . split
     . rename_i h;rw [Rf.eq_eq h];simp [Rs.val,Rf.val,bO,b2i]
     . rfl
   . split
     . rename_i h;rw [Rf.eq_eq h];simp [Rs.val,Rf.val,bO,b2i]
     . rfl
   . rfl
theorem BI {t:Tab} {nz:List Rf} (ht:jF X v t) (hz:∀ r∈nz,r.val v≠0) (x:Nd):(Kq t nz x).val X v=x.val X v:=by
 unfold Kq;split
 . exact KZ hz _ _ _ _
 . exact Kl ht hz _ _ _ _
 . rfl
 . rename_i a b
   unfold mnR;split
   . rfl
   . split
     . rename_i h;rw [Rf.eq_eq h];simp [Rs.val,Nd.val]
     . exact uZ _ _
 . rename_i a b
   unfold mxR;split
   . rfl
   . split
     . rename_i h;rw [Rf.eq_eq h];simp [Rs.val,Nd.val]
     . exact wN _ _
 . rfl
theorem GL {f:Rf->Rf} (h:∀ r,(f r).val v=r.val v) (x:Nd):(ow f x).val X v=x.val X v:=by
 cases x<;>simp only [ow,Nd.val,h]
 congr 2
 rw [List.map_map];exact List.map_congr_left fun r _=>h r
def zC (X:Cx) (ext:Ext):Prop:=∀ (v:Nat->Int) (t:Tab) (x:Nd) (r:Rf),jF X v t->ext t x=some r->r.val v=x.val X v
def vI (X:Cx) (v:Nat->Int) (s:Ns):Prop:=s.reps.length=s.n/\(∀ (i:Nat) (r:Rf),i<s.n->s.reps[s.n-1-i]? = some r->r.val v=v i)/\jF X v s.tab
theorem vC {s:Ns} (h:vI X v s) (r:Rf):(s.rep r).val v=r.val v:=by
 cases r with
 | c z=>rfl
 | n i =>
  simp only [Ns.rep];split
  . rename_i hb
    have hi:i<s.n:=by simpa using hb
    split
    . rename_i r hr;exact h.2.1 i r hi hr
    . rfl
  . rfl
theorem iH {s:Ns} (h:vI X v s) {r:Rf} (hr:r.val v=v s.n) {t:Tab} (ht:jF X v t):vI X v ⟨s.n+1,r::s.reps,t⟩:=by
 refine ⟨by simp [h.1],fun i q hi hq=>?_,ht⟩
 simp only at hi hq
 by_cases e:i=s.n
 . subst e;rw [show s.n+1-1-s.n=0 by omega] at hq
   simp at hq;rw [<-hq];exact hr
 . rw [show s.n+1-1-i=(s.n-1-i)+1 by omega,List.getElem?_cons_succ] at hq
   exact h.2.1 i q (by omega) hq
theorem ng {n:Nat}:∀ {ps:List (Nat × Rf)} {r:Rf},Du n ps=some r->(n,r)∈ps
 | (i,q)::l,r,h=>by
  simp only [Du] at h;split at h
  . rename_i hb
    cases h;rw [Nat.eq_of_beq_eq_true hb];exact List.mem_cons_self ..
  . exact List.mem_cons_of_mem _ (ng h)
theorem Ir {ext:Ext} (he:zC X ext) {ps:List (Nat × Rf)} (hp:∀ p∈ps,v p.1=p.2.val v) {nz:List Rf} (hz:∀ r∈nz,r.val v≠0) {s:Ns} (h:vI X v s) {x:Nd} (hx:v s.n=x.val X v):vI X v (xK ext ps nz s x):=by
 have hm:(ow s.rep x).val X v=v s.n:=by rw [GL (vC h),hx]
 unfold xK;split
 . rename_i z hl
   have e:=hp _ (ng hl);have g:=BI h.2.2 hz (ow s.rep x);split
   . exact iH h e.symm h.2.2
   . rename_i y hr
     rw [hr] at g;exact iH h e.symm fun q hq=>by
      rcases List.mem_cons.1 hq with rfl|hq
      . exact (e.symm.trans hm.symm).trans g.symm
      . exact h.2.2 q hq
 . rename_i j hl
   have e:=hp _ (ng hl);exact iH h ((vC h _).trans e.symm) h.2.2
 . split
   . rename_i r hr
     exact iH h ((he v s.tab _ r h.2.2 hr).trans hm) h.2.2
   . have g:=BI h.2.2 hz (ow s.rep x);split
     . rename_i r hr
       rw [hr] at g;exact iH h (g.trans hm) h.2.2
     . rename_i y hr
       rw [hr] at g;unfold OQ;split
       . rename_i r hf
         exact iH h ((jl h.2.2 hf).trans (g.trans hm)) h.2.2
       . exact iH h rfl fun q hq=>by
          rcases List.mem_cons.1 hq with rfl|hq
          . exact (g.trans hm).symm
          . exact h.2.2 q hq
theorem J5 (ext:Ext) (ps:List (Nat × Rf)) (nz:List Rf) (s:Ns) (x:Nd):(xK ext ps nz s x).n=s.n+1:=by
 unfold xK OQ
 repeat' split
 all_goals rfl
theorem Ce {ext:Ext} (he:zC X ext) {ps:List (Nat × Rf)} (hp:∀ p∈ps,v p.1=p.2.val v) {nz:List Rf} (hz:∀ r∈nz,r.val v≠0):∀ (l:List Nd) (s:Ns),vI X v s->(∀ i nd,l[i]? = some nd->v (s.n+i)=nd.val X v)->vI X v (runN ext ps nz s l)
 | [],s,h,_=>h
 | x::l,s,h,hl=>by
  refine Ce he hp hz l _ (Ir he hp hz h (by simpa using hl 0 x rfl)) fun i nd hi=>?_
  rw [J5,show s.n+1+i=s.n+(i+1) by omega]
  exact hl (i+1) nd (by simpa using hi)
theorem DF {ext:Ext} (he:zC X ext) {l:List Nd} (hs:fI X v l.reverse) {ps:List (Nat × Rf)} (hp:∀ p∈ps,v p.1=p.2.val v) {nz:List Rf} (hz:∀ r∈nz,r.val v≠0):vI X v (norm ext ps nz l) :=
 Ce he hp hz l ⟨0,[],[]⟩ ⟨rfl,fun i r hi=>absurd hi (Nat.not_lt_zero i),fun e he=>by cases he⟩ (fun i nd hi=>by simpa using ai hs i hi)
theorem GG {ext:Ext} (he:zC X ext) {l:List Nd} (hs:fI X v l.reverse) {ps:List (Nat × Rf)} (hp:∀ p∈ps,v p.1=p.2.val v) {nz:List Rf} (hz:∀ r∈nz,r.val v≠0) {k:Nat} {r:Rf} (h:Rf.eq ((norm ext ps nz l).rep (.n k)) r=true):v k=r.val v:=by
 have:=vC (DF he hs hp hz) (.n k);rw [Rf.eq_eq h] at this;exact this.symm
theorem Ht:∀ p∈([]:List (Nat × Rf)),v p.1=p.2.val v:=fun p hp=>by cases hp
theorem IP:∀ r∈([]:List Rf),r.val v≠0:=fun p hp=>by cases hp
end
