/- A region that draws its order: loads may be taken first, where all operations but the last one keep what they read. -/
import Derived.Test.YtbcnifkfaknnaaaGreatZLo
import Derived.OrdersHeld
import Derived.Deep.RegionHeld3
set_option linter.unusedVariables false
set_option linter.unusedSimpArgs false
namespace Go
section
variable {P:Program} {md:Region.Mode} {ops:Array Oper} {Q:Exit->Act->World->Prop} {S:World->Prop} {la:Nat}
def jr (P:Program) (md:Region.Mode) (ops:Array Oper) (Q:Exit->Act->World->Prop) (S:World->Prop) (la:Nat):Nat->Array Bool->Act->World->Prop
 | 0,listed,a,w=>Region.ready md ops listed=[]/\Q .normal a w
 | fuel+1,listed,a,w =>
  (Region.ready md ops listed=[]->Q .normal a w) /\
  ∀ i∈Region.ready md ops listed,wpOp P ops Q i (fun a' w'=>(i≠la->S w')/\jr P md ops Q S la fuel (listed.setIfInBounds i true) a' w') a w
theorem wK:∀ (fuel:Nat) (listed:Array Bool) (a:Act) (w:World),jr P md ops Q S la fuel listed a w->wpAny P md ops Q fuel listed a w
 | 0,_,_,_,h=>h
 | fuel+1,_,_,_,h=>⟨h.1,fun i hi=>wpOp_mono (fun a' w' h'=>wK fuel _ a' w' h'.2) (h.2 i hi)⟩
theorem zX {i:Nat} {oi ol:Oper} {v:Value} (hi:ops[i]? = some oi) (hil:i≠la) (hol:ops[la]? = some ol) (hw:∃ e∈ol.after,Region.binds md e=true/\e.on=i)
 (hsel:∀ (j:Nat) (o:Oper) cs b,ops[j]? = some o->o.op≠.select cs b)
 (hQ:∀ c a w,Q (.panic c) (a.put oi.dst v) w->Q (.panic c) a w) :
 ∀ (fuel:Nat) (listed:Array Bool) (a:Act) (w:World),
  (∀ j oj,ops[j]? = some oj->j≠i->listed.getD j true=false->(∀ e∈oj.after,Region.binds md e=true->e.on≠i)->oi.apart ops oj=true) ->
  i∈Region.ready md ops listed->YieldsIf P ops S oi v a->S w ->
  jr P md ops Q S la fuel (listed.setIfInBounds i true) (a.put oi.dst v) w->jr P md ops Q S la (fuel+1) listed a w:=by
 intro fuel
 induction fuel with
 | zero =>
  intro listed a w _ hr hy hS H;refine ⟨fun h=>(by rw [h] at hr;cases hr),fun j hj=>?_⟩
  by_cases hji:j=i
  . subst hji;exact hy.wpOp hi hS ⟨fun _=>hS,H⟩
  . have:=ready_mono hj hji;rw [H.1] at this;cases this
 | succ fuel ih =>
  intro listed a w hfree hr hy hS H;refine ⟨fun h=>(by rw [h] at hr;cases hr),fun j hj=>?_⟩
  by_cases hji:j=i
  . subst hji;exact hy.wpOp hi hS ⟨fun _=>hS,H⟩
  . have h1:=H.2 j (ready_mono hj hji);obtain ⟨hjun,oj,hoj,hall⟩:=mem_ready.1 hj
    have hnot:∀ e∈oj.after,Region.binds md e=true->e.on≠i:=fun e he hb heq=>by
     have h1:=hall e he hb;have h0:=(mem_ready.1 hr).1;rw [heq] at h1;rcases Nat.lt_or_ge i listed.size with h'|h'
     . simp [h'] at h0 h1;rw [h0] at h1;cases h1
     . simp [Array.getElem?_eq_none h'] at h1
    have hjl:j≠la:=by
     rintro rfl;rw [hol] at hoj;cases hoj;obtain ⟨e,he,hb,heq⟩:=hw;exact hnot e he hb heq
    have h2:=wpOp_putIf hoj (hfree j oj hoj hji hjun hnot) (fun cs b=>hsel i oi cs b hi) (fun cs b=>hsel j oj cs b hoj) hQ hy h1
    have hfree':∀ k ok,ops[k]? = some ok->k≠i->(listed.setIfInBounds j true).getD k true=false ->
     (∀ e∈ok.after,Region.binds md e=true->e.on≠i)->oi.apart ops ok=true:=fun k ok hk hki hun hno=>by
     refine hfree k ok hk hki ?_ hno
     by_cases hjk:j=k
     . subst hjk;exact hjun
     . rw [getD_set_ne true hjk] at hun;exact hun
    refine wpOp_mono (fun a' w' h3=>⟨h3.2.1,ih (listed.setIfInBounds j true) a' w' hfree' (ready_mono hr (Ne.symm hji)) h3.1 (h3.2.1 hjl) ?_⟩) h2
    rw [Array.setIfInBounds_comm _ _ hji];exact h3.2.2
def R4 (md:Region.Mode) (ops:Array Oper) (la i:Nat):Bool:=match ops[la]? with
 | some ol=>ol.after.any (fun e=>Region.binds md e&&e.on==i)&&i != la
 | none=>false
theorem fI {i:Nat} {oi:Oper} {v:Value} {fuel:Nat} {listed:Array Bool} {a:Act} {w:World} (hi:ops[i]? = some oi)
 (hs:Region.noSelect ops=true) (hf:Region.free md ops listed i=true) (hr:(Region.ready md ops listed).contains i=true) (hl:R4 md ops la i=true)
 (hQ:∀ c a w,Q (.panic c) (a.put oi.dst v) w->Q (.panic c) a w) (hy:YieldsIf P ops S oi v a) (hS:S w)
 (h:jr P md ops Q S la fuel (listed.setIfInBounds i true) (a.put oi.dst v) w):jr P md ops Q S la (fuel+1) listed a w:=by
 unfold R4 at hl;split at hl
 . rename_i ol hol
   simp only [Bool.and_eq_true,bne_iff_ne,ne_eq] at hl;obtain ⟨h1,h2⟩:=hl;rw [Array.any_eq_true] at h1;obtain ⟨k,hk,hk2⟩:=h1;simp only [Bool.and_eq_true,beq_iff_eq] at hk2;exact zX hi h2 hol ⟨ol.after[k],Array.getElem_mem hk,hk2⟩ (Region.noSelect_spec hs) hQ fuel listed a w (Region.free_spec hi hf) (by simpa using hr) hy hS h
 . cases hl
theorem bV {i:Nat} {o:Oper} {fuel:Nat} {listed:Array Bool} {a:Act} {w:World} (hr:Region.ready md ops listed=[i]) (hi:ops[i]? = some o) (hg:Region.wanted o (yielded ops a.tmps)=true)
 (h:∀ K:Act->World->Prop,(∀ a' w',(i≠la->S w')->jr P md ops Q S la fuel (listed.setIfInBounds i true) a' w'->K a' w')->o.wp P a w K Q):jr P md ops Q S la (fuel+1) listed a w:=by
 refine ⟨fun h0=>(by rw [hr] at h0;cases h0),fun j hj=>?_⟩
 rw [hr,List.mem_singleton] at hj;subst hj;unfold wpOp;simp only [hi,hg,if_true];exact .inl (h _ fun a' w' h1 h2=>⟨h1,h2⟩)
theorem tH {listed:Array Bool} {a:Act} {w:World} (hr:Region.ready md ops listed=[]) (h:Q .normal a w):∀ fuel,jr P md ops Q S la fuel listed a w
 | 0=>⟨hr,h⟩
 | _+1=>⟨fun _=>h,by rw [hr];simp⟩
theorem su {id:Nat} {a:Act} {w:World} (S:World->Prop) (la:Nat) (hm:P.follows .mixedOrders=true)
 (h:jr P .any ops Q S la ops.size (Array.replicate ops.size false) a w.drew):(Code.region id ops true).wp P Q a w :=
 wp_region_any hm (wK _ _ _ _ h)
end
