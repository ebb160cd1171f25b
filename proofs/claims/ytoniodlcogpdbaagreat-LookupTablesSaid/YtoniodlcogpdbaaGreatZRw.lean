/- Rows of structs of integers: in memory, as slices, appended to. -/
import Derived.Test.YtoniodlcogpdbaaGreatZKp
import Derived.Test.YtoniodlcogpdbaaGreatZSxA
import Derived.Deep.AppendLies
import Derived.Lib.SliceRun
set_option linter.unusedVariables false
set_option linter.unusedSimpArgs false
namespace Sx
open Go
theorem TL (xs ys:List Int) (h:xs.length=ys.length):KL (List.replicate xs.length true) (xs.map (Value.int .i64)) (ys.map (Value.int .i64)):=by
 induction xs generalizing ys with
 | nil=>cases ys with
  | nil=>exact .nil
  | cons y ys=>simp at h
 | cons x xs ih=>cases ys with
  | nil=>simp at h
  | cons y ys=>exact .int .i64 x y (ih ys (by simpa using h))
theorem Pm (xs ys:List Int) (h:xs.length=ys.length):eqL (xs.map (Value.int .i64)) (ys.map (Value.int .i64))=decide (xs=ys):=by
 induction xs generalizing ys with
 | nil=>cases ys with
  | nil=>rfl
  | cons y ys=>simp at h
 | cons x xs ih=>cases ys with
  | nil=>simp at h
  | cons y ys =>
   simp only [List.map_cons,eqL,ceq,ih ys (by simpa using h),Bool.beq_eq_decide_eq,List.cons.injEq,Bool.decide_and]
theorem eql_ints {P:Program} {t:TypeId} {k:Nat} (h1:iA P 10000 t=some (List.replicate k true)) (h2:iq P t=some true) (xs ys:List Int) (hx:xs.length=k) (hy:ys.length=k) (w:World) :
 (binOp .eql t (.agg ⟨xs.map (Value.int .i64)⟩) (.agg ⟨ys.map (Value.int .i64)⟩)).run P w=.ok (.bool (decide (xs=ys))) w/\(binOp .neq t (.agg ⟨xs.map (Value.int .i64)⟩) (.agg ⟨ys.map (Value.int .i64)⟩)).run P w=.ok (.bool (!decide (xs=ys))) w:=by
 have:=jJ 10000 t _ _ _ true h1 h2 (by subst hx;exact TL xs ys (by omega)) w
 simp only [if_true] at this;rw [run_eql_struct,run_neq_struct,this,Pm xs ys (by omega)]
 exact ⟨rfl,rfl⟩
end Sx
namespace Go.Proofs.YtoniodlcogpdbaaGreat
open Go.RowKit
abbrev Cs:=List (List Int)
def iv (x:List Int):List Value:=x.map (Value.int .i64)
def uW (L:Cs):List Value:=L.flatMap iv
theorem Hd (x:List Int) (L:Cs):uW (x::L)=iv x++uW L:=rfl
theorem Y9 (x:List Int) (j:Nat) (h:j<x.length):(iv x)[j]? = some (.int .i64 (x.getD j 0)):=by
 simp [iv,h]
theorem Nt {k:Nat} (L:Cs) (h:∀ x∈L,x.length=k):∀ (i:Nat) (hi:i<L.length) (j:Nat) (hj:j<k),(uW L)[i*k+j]? = some (.int .i64 (L[i].getD j 0)):=by
 induction L with
 | nil=>intro i hi;simp at hi
 | cons x L ih =>
  intro i hi j hj;have hx:=h x (.head _);have hl:(iv x).length=k:=by simp [iv,hx]
  rw [Hd];cases i with
  | zero =>
   rw [List.getElem?_append_left (by omega),Nat.zero_mul,Nat.zero_add]
   exact Y9 x j (by omega)
  | succ i =>
   have e:(i+1)*k+j-(iv x).length=i*k+j:=by rw [hl,Nat.add_mul,Nat.one_mul];omega
   rw [List.getElem?_append_right (by rw [hl,Nat.add_mul,Nat.one_mul];omega),e,ih (fun y hy=>h y (.tail _ hy)) i (by simpa using hi) j hj]
   rfl
def aa7 (w:World) (b o:Nat) (x:List Int):Prop:=∀ j,j<x.length->w.cell? ⟨b,o+j,none⟩=some (.int .i64 (x.getD j 0))
structure jQ (k:Nat) (w:World) (b off:Nat) (L:Cs):Prop where
 lt:b<w.heap.size
 len:∀ x∈L,x.length=k
 at':∀ i (h:i<L.length),aa7 w b (off+i*k) L[i]
theorem jQ.below {k:Nat} {w wx:World} {b off B:Nat} {L:Cs} (h:jQ k w b off L) (hb:Below B w wx) (hB:b<B):jQ k wx b off L :=
 ⟨Nat.lt_of_lt_of_le h.lt hb.size,h.len,fun i hi j hj=>(hb.cell hB).trans (h.at' i hi j hj)⟩
theorem jQ.drew {k:Nat} {w:World} {b off:Nat} {L:Cs} (h:jQ k w b off L):jQ k w.drew b off L:=⟨h.lt,h.len,h.at'⟩
theorem jQ.alloc {k:Nat} {w:World} {b off:Nat} {L:Cs} (h:jQ k w b off L) (o:Obj):jQ k (w.alloc o) b off L :=
 h.below (B:=w.heap.size) ((Below.refl _ _).alloc (Nat.le_refl _) o) h.lt
theorem xQ {x:List Int} (h:x.length=2):∃ a b,x=[a,b]:=by
 match x,h with
 | [a,b],_=>exact ⟨a,b,rfl⟩
theorem jQ.at2 {w:World} {b off:Nat} {L:Cs} (h:jQ 2 w b off L) (i:Nat) (hi:i<L.length):∃ x y,L[i]=[x,y]/\w.cell? ⟨b,off+i*2,none⟩=some (.int .i64 x)/\w.cell? ⟨b,off+i*2+1,none⟩=some (.int .i64 y):=by
 obtain ⟨x,y,e⟩:=xQ (h.len _ (List.getElem_mem hi));have a:=h.at' i hi;rw [e] at a;exact ⟨x,y,e,a 0 (by simp),a 1 (by simp)⟩
theorem jQ.take {k:Nat} {w:World} {b off:Nat} {L:Cs} (h:jQ k w b off L) (n:Nat):jQ k w b off (L.take n) :=
 ⟨h.lt,fun x hx=>h.len x (List.mem_of_mem_take hx),fun i hi=>by
  rw [List.length_take] at hi;rw [List.getElem_take];exact h.at' i (by omega)⟩
def SlI (k:Nat) (w:World) (a:Option Addr) (L:Cs):Prop:=L=[]∨∃ b off,a=some ⟨b,off,none⟩/\jQ k w b off L
theorem SlI.below {k:Nat} {w wx:World} {a:Option Addr} {L:Cs} (h:SlI k w a L) (hb:Below w.heap.size w wx):SlI k wx a L:=by
 rcases h with h|⟨b,off,h1,h2⟩
 . exact .inl h
 . exact .inr ⟨b,off,h1,h2.below hb h2.lt⟩
theorem SlI.len {k:Nat} {w:World} {a:Option Addr} {L:Cs} (h:SlI k w a L):∀ x∈L,x.length=k:=by
 rcases h with h|⟨b,off,h1,h2⟩
 . subst h;intro x hx;cases hx
 . exact h2.len
theorem SlI.drew {k:Nat} {w:World} {a:Option Addr} {L:Cs} (h:SlI k w a L):SlI k w.drew a L:=by
 rcases h with h|⟨b,off,h1,h2⟩
 . exact .inl h
 . exact .inr ⟨b,off,h1,h2.drew⟩
theorem SlI.alloc {k:Nat} {w:World} {a:Option Addr} {L:Cs} (h:SlI k w a L) (o:Obj):SlI k (w.alloc o) a L :=
 h.below ((Below.refl _ _).alloc (Nat.le_refl _) o)
structure jc (k:Nat) (e:TypeId) (base:Nat) (w:World) (v:Value) (L:Cs):Prop where
 len:∀ x∈L,x.length=k
 own:w.ownsRow base e k v L.length (uW L)
theorem jc.nil (k:Nat) (e:TypeId) (base:Nat) (w:World):jc k e base w (.slice none 0 0) []:=⟨fun x hx=>(by cases hx),⟨by simp [uW],.inl ⟨rfl,rfl⟩⟩⟩
theorem jc.below {k:Nat} {e:TypeId} {base:Nat} {w wx:World} {v:Value} {L:Cs} (h:jc k e base w v L) (hb:Below w.heap.size w wx):jc k e base wx v L:=by
 refine ⟨h.len,h.own.1,?_⟩;rcases h.own.2 with h0|⟨g,cap,cur,hv,hg,hh,rest⟩
 . exact .inl h0
 . refine .inr ⟨g,cap,cur,hv,hg,?_,rest⟩;rw [hb.block g ?_];exact hh;rcases Nat.lt_or_ge g w.heap.size with hlt|hge
   . exact hlt
   . rw [Array.getElem?_eq_none hge] at hh;cases hh
theorem jc.drew {k:Nat} {e:TypeId} {base:Nat} {w:World} {v:Value} {L:Cs} (h:jc k e base w v L):jc k e base w.drew v L:=⟨h.len,h.own⟩
theorem jc.drewN {k:Nat} {e:TypeId} {base:Nat} {w:World} {v:Value} {L:Cs} (h:jc k e base w v L) (n:Nat):jc k e base (w.drewN n) v L:=⟨h.len,h.own⟩
theorem jc.alloc {k:Nat} {e:TypeId} {base:Nat} {w:World} {v:Value} {L:Cs} (h:jc k e base w v L) (o:Obj):jc k e base (w.alloc o) v L :=
 h.below ((Below.refl _ _).alloc (Nat.le_refl _) o)
theorem jc.mono {k:Nat} {e:TypeId} {base b2:Nat} {w:World} {v:Value} {L:Cs} (h:jc k e base w v L) (hb:b2<=base):jc k e b2 w v L:=by
 refine ⟨h.len,h.own.1,?_⟩;rcases h.own.2 with h0|⟨g,cap,cur,hv,hg,rest⟩
 . exact .inl h0
 . exact .inr ⟨g,cap,cur,hv,by omega,rest⟩
theorem jc.out {k:Nat} {e:TypeId} {base:Nat} {w:World} {v:Value} {L:Cs} (h:jc k e base w v L) (hk:0<k) :
 ∃ a cap,v=.slice a L.length cap/\L.length<=cap/\cap<=maxLen/\SlI k w a L/\(L≠[]->∃ g,a=some ⟨g,0,none⟩/\base<=g/\jQ k w g 0 L/\∀ j,w.frozen? ⟨g,j,none⟩=false):=by
 obtain ⟨hl,h0|⟨g,cap,cur,hv,hb,hg,hc,hm,hs,ht⟩⟩:=h.own
 . have:L=[]:=List.eq_nil_of_length_eq_zero h0.2;subst this;exact ⟨none,0,h0.1,Nat.le_refl _,Nat.zero_le _,.inl rfl,fun h=>absurd rfl h⟩
 . have hgl:g<w.heap.size:=by
    rcases Nat.lt_or_ge g w.heap.size with hlt|hge
    . exact hlt
    . rw [Array.getElem?_eq_none hge] at hg;cases hg
   have hcell:∀ j u,(uW L)[j]? = some u->w.cell? ⟨g,j,none⟩=some u:=by
    intro j u hu;rw [cell_of_row w g j cur e (0,0) hg];have hj:j<(uW L).length:=by
     rcases Nat.lt_or_ge j (uW L).length with h|h
     . exact h
     . rw [List.getElem?_eq_none h] at hu;cases hu
    rw [<-ht] at hu hj;rw [List.getElem?_take_of_lt (by rw [List.length_take] at hj;omega)] at hu
    simpa using hu
   have R:jQ k w g 0 L:=⟨hgl,h.len,fun i hi j hj=>by
    rw [h.len _ (List.getElem_mem hi)] at hj;rw [Nat.zero_add];exact hcell _ _ (Nt L h.len i hi j hj)⟩
   exact ⟨some ⟨g,0,none⟩,cap,hv,hc,hm,.inr ⟨g,0,rfl,R⟩,fun _=>⟨g,rfl,hb,R,fun j=>by simp [World.frozen?,hg]⟩⟩
theorem jc.lt {k:Nat} {e:TypeId} {base:Nat} {w:World} {v:Value} {L:Cs} (h:jc k e base w v L):∀ g,v.ownBlock=some g->base<=g/\g<w.heap.size:=by
 intro g hg;rcases h.own.2 with ⟨h0,_⟩|⟨g',cap,cur,hv,hb,hh,_⟩
 . rw [h0] at hg;cases hg
 . rw [hv] at hg;simp [Value.ownBlock] at hg;subst hg;refine ⟨hb,?_⟩;rcases Nat.lt_or_ge g' w.heap.size with hlt|hge
   . exact hlt
   . rw [Array.getElem?_eq_none hge] at hh;cases hh
section
variable {P:Program} {t e:TypeId} {k bytes:Nat}
end
theorem jc.far {k:Nat} {e:TypeId} {base:Nat} {w:World} {v:Value} {L:Cs} (h:jc k e base w v L) {p:Addr} (hp:p.block<base) (u:Value):jc k e base (w.setCell p u) v L:=by
 refine ⟨h.len,h.own.1,?_⟩;rcases h.own.2 with h0|⟨g,cap,cur,hv,hg,hh,rest⟩
 . exact .inl h0
 . exact .inr ⟨g,cap,cur,hv,hg,(Below.heap_setCell w p u g (by omega)).trans hh,rest⟩
def ddA (L:Cs):Nat->Cs
 | 0=>[]
 | i+1=>if i=0∨L.getD i []≠L.getD (i-1) [] then ddA L i++[L.getD i []] else ddA L i
def dd (L:Cs):Cs:=ddA L L.length
