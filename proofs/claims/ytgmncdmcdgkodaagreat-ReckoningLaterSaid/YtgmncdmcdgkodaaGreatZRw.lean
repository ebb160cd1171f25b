/- Rows of structs of integers: in memory, as slices, appended to. -/
import Derived.Test.YtgmncdmcdgkodaaGreatZKp
import Derived.Test.YtgmncdmcdgkodaaGreatZSxA
import Derived.Deep.AppendLies
import Derived.Lib.SliceRun
import Derived.Deep.QuietTactic
import Derived.BigQuiet
import Derived.Deep.Light
set_option linter.unusedVariables false
set_option linter.unusedSimpArgs false
namespace Sx
open Go
theorem EC (xs ys:List Int) (h:xs.length=ys.length):KL (List.replicate xs.length true) (xs.map (Value.int .i64)) (ys.map (Value.int .i64)):=by
 induction xs generalizing ys with
 | nil=>cases ys with
  | nil=>exact .nil
  | cons y ys=>simp at h
 | cons x xs ih=>cases ys with
  | nil=>simp at h
  | cons y ys=>exact .int .i64 x y (ih ys (by simpa using h))
theorem Cb (xs ys:List Int) (h:xs.length=ys.length):eqL (xs.map (Value.int .i64)) (ys.map (Value.int .i64))=decide (xs=ys):=by
 induction xs generalizing ys with
 | nil=>cases ys with
  | nil=>rfl
  | cons y ys=>simp at h
 | cons x xs ih=>cases ys with
  | nil=>simp at h
  | cons y ys =>
   simp only [List.map_cons,eqL,ceq,ih ys (by simpa using h),Bool.beq_eq_decide_eq,List.cons.injEq,Bool.decide_and]
theorem tO {P:Program} {t:TypeId} {k:Nat} (h1:dN P 10000 t=some (List.replicate k true)) (h2:dO P t=some true) (xs ys:List Int) (hx:xs.length=k) (hy:ys.length=k) (w:World) :
 (binOp .eql t (.agg ⟨xs.map (Value.int .i64)⟩) (.agg ⟨ys.map (Value.int .i64)⟩)).run P w=.ok (.bool (decide (xs=ys))) w/\(binOp .neq t (.agg ⟨xs.map (Value.int .i64)⟩) (.agg ⟨ys.map (Value.int .i64)⟩)).run P w=.ok (.bool (!decide (xs=ys))) w:=by
 have:=fB 10000 t _ _ _ true h1 h2 (by subst hx;exact EC xs ys (by omega)) w
 simp only [if_true] at this;rw [run_eql_struct,run_neq_struct,this,Cb xs ys (by omega)]
 exact ⟨rfl,rfl⟩
end Sx
namespace Go.Proofs.YtgmncdmcdgkodaaGreat
open Go.RowKit
abbrev Cs:=List (List Int)
def iv (x:List Int):List Value:=x.map (Value.int .i64)
def bJ (L:Cs):List Value:=L.flatMap iv
theorem om (x:List Int) (L:Cs):bJ (x::L)=iv x++bJ L:=rfl
theorem jK (L M:Cs):bJ (L++M)=bJ L++bJ M:=by unfold bJ;simp
theorem lJ {k:Nat} (L:Cs) (h:∀ x∈L,x.length=k):(bJ L).length=L.length*k:=by
 induction L with
 | nil=>simp [bJ]
 | cons x L ih =>
  rw [om,List.length_append,ih (fun y hy=>h y (.tail _ hy)),List.length_cons]
  have:=h x (.head _);simp only [iv,List.length_map,this,Nat.add_mul,Nat.one_mul];omega
theorem GJ (x:List Int) (j:Nat) (h:j<x.length):(iv x)[j]? = some (.int .i64 (x.getD j 0)):=by
 simp [iv,h]
theorem pR {k:Nat} (L:Cs) (h:∀ x∈L,x.length=k):∀ (i:Nat) (hi:i<L.length) (j:Nat) (hj:j<k),(bJ L)[i*k+j]? = some (.int .i64 (L[i].getD j 0)):=by
 induction L with
 | nil=>intro i hi;simp at hi
 | cons x L ih =>
  intro i hi j hj;have hx:=h x (.head _);have hl:(iv x).length=k:=by simp [iv,hx]
  rw [om];cases i with
  | zero =>
   rw [List.getElem?_append_left (by omega),Nat.zero_mul,Nat.zero_add]
   exact GJ x j (by omega)
  | succ i =>
   have e:(i+1)*k+j-(iv x).length=i*k+j:=by rw [hl,Nat.add_mul,Nat.one_mul];omega
   rw [List.getElem?_append_right (by rw [hl,Nat.add_mul,Nat.one_mul];omega),e,ih (fun y hy=>h y (.tail _ hy)) i (by simpa using hi) j hj]
   rfl
theorem qR (L:Cs):∀ u∈bJ L,u.oneCell'=true:=by
 intro u hu;unfold bJ at hu;rw [List.mem_flatMap] at hu;obtain ⟨l,_,h⟩:=hu;unfold iv at h;rw [List.mem_map] at h;obtain ⟨z,_,rfl⟩:=h;rfl
def Iz (w:World) (b o:Nat) (x:List Int):Prop:=∀ j,j<x.length->w.cell? ⟨b,o+j,none⟩=some (.int .i64 (x.getD j 0))
structure gN (k:Nat) (w:World) (b off:Nat) (L:Cs):Prop where
 lt:b<w.heap.size
 len:∀ x∈L,x.length=k
 at':∀ i (h:i<L.length),Iz w b (off+i*k) L[i]
theorem gN.below {k:Nat} {w wx:World} {b off B:Nat} {L:Cs} (h:gN k w b off L) (hb:Below B w wx) (hB:b<B):gN k wx b off L :=
 ⟨Nat.lt_of_lt_of_le h.lt hb.size,h.len,fun i hi j hj=>(hb.cell hB).trans (h.at' i hi j hj)⟩
theorem gN.drew {k:Nat} {w:World} {b off:Nat} {L:Cs} (h:gN k w b off L):gN k w.drew b off L:=⟨h.lt,h.len,h.at'⟩
theorem gN.alloc {k:Nat} {w:World} {b off:Nat} {L:Cs} (h:gN k w b off L) (o:Obj):gN k (w.alloc o) b off L :=
 h.below (B:=w.heap.size) ((Below.refl _ _).alloc (Nat.le_refl _) o) h.lt
theorem wI {x:List Int} (h:x.length=2):∃ a b,x=[a,b]:=by
 match x,h with
 | [a,b],_=>exact ⟨a,b,rfl⟩
theorem gN.at2 {w:World} {b off:Nat} {L:Cs} (h:gN 2 w b off L) (i:Nat) (hi:i<L.length):∃ x y,L[i]=[x,y]/\w.cell? ⟨b,off+i*2,none⟩=some (.int .i64 x)/\w.cell? ⟨b,off+i*2+1,none⟩=some (.int .i64 y):=by
 obtain ⟨x,y,e⟩:=wI (h.len _ (List.getElem_mem hi));have a:=h.at' i hi;rw [e] at a;exact ⟨x,y,e,a 0 (by simp),a 1 (by simp)⟩
theorem gN.take {k:Nat} {w:World} {b off:Nat} {L:Cs} (h:gN k w b off L) (n:Nat):gN k w b off (L.take n) :=
 ⟨h.lt,fun x hx=>h.len x (List.mem_of_mem_take hx),fun i hi=>by
  rw [List.length_take] at hi;rw [List.getElem_take];exact h.at' i (by omega)⟩
theorem gN.flat {k:Nat} {w:World} {b off:Nat} {L:Cs} (h:gN k w b off L) (hk:0<k):∀ j u,(bJ L)[j]? = some u->w.cell? ⟨b,off+j,none⟩=some u:=by
 intro j u hu;have hj:j<(bJ L).length:=by
  rcases Nat.lt_or_ge j (bJ L).length with h|h
  . exact h
  . rw [List.getElem?_eq_none h] at hu;cases hu
 rw [lJ L h.len] at hj;have hi:j/k<L.length:=(Nat.div_lt_iff_lt_mul hk).2 hj;have hm:=Nat.mod_lt j hk;have e:j=j/k*k+j%k:=by rw [Nat.mul_comm];exact (Nat.div_add_mod j k).symm
 rw [e,pR L h.len (j/k) hi (j%k) hm] at hu
 injection hu with hu
 rw [show off+j=off+j/k*k+j%k by rw [Nat.add_assoc,<-e],<-hu]
 exact h.at' (j/k) hi (j%k) (by rw [h.len _ (List.getElem_mem hi)];exact hm)
def SlI (k:Nat) (w:World) (a:Option Addr) (L:Cs):Prop:=L=[]∨∃ b off,a=some ⟨b,off,none⟩/\gN k w b off L
theorem SlI.below {k:Nat} {w wx:World} {a:Option Addr} {L:Cs} (h:SlI k w a L) (hb:Below w.heap.size w wx):SlI k wx a L:=by
 rcases h with h|⟨b,off,h1,h2⟩
 . exact .inl h
 . exact .inr ⟨b,off,h1,h2.below hb h2.lt⟩
theorem SlI.len {k:Nat} {w:World} {a:Option Addr} {L:Cs} (h:SlI k w a L):∀ x∈L,x.length=k:=by
 rcases h with h|⟨b,off,h1,h2⟩
 . subst h;intro x hx;cases hx
 . exact h2.len
theorem SlI.drew {k:Nat} {w:World} {a:Option Addr} {L:Cs} (h:SlI k w a L):SlI k w.drew a L:=by
 rcases h with h|⟨b,off,h1,h2⟩
 . exact .inl h
 . exact .inr ⟨b,off,h1,h2.drew⟩
theorem SlI.alloc {k:Nat} {w:World} {a:Option Addr} {L:Cs} (h:SlI k w a L) (o:Obj):SlI k (w.alloc o) a L :=
 h.below ((Below.refl _ _).alloc (Nat.le_refl _) o)
structure bK (k:Nat) (e:TypeId) (base:Nat) (w:World) (v:Value) (L:Cs):Prop where
 len:∀ x∈L,x.length=k
 own:w.ownsRow base e k v L.length (bJ L)
theorem bK.nil (k:Nat) (e:TypeId) (base:Nat) (w:World):bK k e base w (.slice none 0 0) []:=⟨fun x hx=>(by cases hx),⟨by simp [bJ],.inl ⟨rfl,rfl⟩⟩⟩
theorem bK.below {k:Nat} {e:TypeId} {base:Nat} {w wx:World} {v:Value} {L:Cs} (h:bK k e base w v L) (hb:Below w.heap.size w wx):bK k e base wx v L:=by
 refine ⟨h.len,h.own.1,?_⟩;rcases h.own.2 with h0|⟨g,cap,cur,hv,hg,hh,rest⟩
 . exact .inl h0
 . refine .inr ⟨g,cap,cur,hv,hg,?_,rest⟩;rw [hb.block g ?_];exact hh;rcases Nat.lt_or_ge g w.heap.size with hlt|hge
   . exact hlt
   . rw [Array.getElem?_eq_none hge] at hh;cases hh
theorem bK.drew {k:Nat} {e:TypeId} {base:Nat} {w:World} {v:Value} {L:Cs} (h:bK k e base w v L):bK k e base w.drew v L:=⟨h.len,h.own⟩
theorem bK.drewN {k:Nat} {e:TypeId} {base:Nat} {w:World} {v:Value} {L:Cs} (h:bK k e base w v L) (n:Nat):bK k e base (w.drewN n) v L:=⟨h.len,h.own⟩
theorem bK.alloc {k:Nat} {e:TypeId} {base:Nat} {w:World} {v:Value} {L:Cs} (h:bK k e base w v L) (o:Obj):bK k e base (w.alloc o) v L :=
 h.below ((Below.refl _ _).alloc (Nat.le_refl _) o)
theorem bK.mono {k:Nat} {e:TypeId} {base b2:Nat} {w:World} {v:Value} {L:Cs} (h:bK k e base w v L) (hb:b2<=base):bK k e b2 w v L:=by
 refine ⟨h.len,h.own.1,?_⟩;rcases h.own.2 with h0|⟨g,cap,cur,hv,hg,rest⟩
 . exact .inl h0
 . exact .inr ⟨g,cap,cur,hv,by omega,rest⟩
theorem bK.out {k:Nat} {e:TypeId} {base:Nat} {w:World} {v:Value} {L:Cs} (h:bK k e base w v L) (hk:0<k) :
 ∃ a cap,v=.slice a L.length cap/\L.length<=cap/\cap<=maxLen/\SlI k w a L/\(L≠[]->∃ g,a=some ⟨g,0,none⟩/\base<=g/\gN k w g 0 L/\∀ j,w.frozen? ⟨g,j,none⟩=false):=by
 obtain ⟨hl,h0|⟨g,cap,cur,hv,hb,hg,hc,hm,hs,ht⟩⟩:=h.own
 . have:L=[]:=List.eq_nil_of_length_eq_zero h0.2;subst this;exact ⟨none,0,h0.1,Nat.le_refl _,Nat.zero_le _,.inl rfl,fun h=>absurd rfl h⟩
 . have hgl:g<w.heap.size:=by
    rcases Nat.lt_or_ge g w.heap.size with hlt|hge
    . exact hlt
    . rw [Array.getElem?_eq_none hge] at hg;cases hg
   have hcell:∀ j u,(bJ L)[j]? = some u->w.cell? ⟨g,j,none⟩=some u:=by
    intro j u hu;rw [cell_of_row w g j cur e (0,0) hg];have hj:j<(bJ L).length:=by
     rcases Nat.lt_or_ge j (bJ L).length with h|h
     . exact h
     . rw [List.getElem?_eq_none h] at hu;cases hu
    rw [<-ht] at hu hj;rw [List.getElem?_take_of_lt (by rw [List.length_take] at hj;omega)] at hu
    simpa using hu
   have R:gN k w g 0 L:=⟨hgl,h.len,fun i hi j hj=>by
    rw [h.len _ (List.getElem_mem hi)] at hj;rw [Nat.zero_add];exact hcell _ _ (pR L h.len i hi j hj)⟩
   exact ⟨some ⟨g,0,none⟩,cap,hv,hc,hm,.inr ⟨g,0,rfl,R⟩,fun _=>⟨g,rfl,hb,R,fun j=>by simp [World.frozen?,hg]⟩⟩
theorem bK.lt {k:Nat} {e:TypeId} {base:Nat} {w:World} {v:Value} {L:Cs} (h:bK k e base w v L):∀ g,v.ownBlock=some g->base<=g/\g<w.heap.size:=by
 intro g hg;rcases h.own.2 with ⟨h0,_⟩|⟨g',cap,cur,hv,hb,hh,_⟩
 . rw [h0] at hg;cases hg
 . rw [hv] at hg;simp [Value.ownBlock] at hg;subst hg;refine ⟨hb,?_⟩;rcases Nat.lt_or_ge g' w.heap.size with hlt|hge
   . exact hlt
   . rw [Array.getElem?_eq_none hge] at hh;cases hh
structure tH (P:Program) (t e:TypeId) (k bytes:Nat):Prop where
 sl:P.underlying t=some (.slice e)
 info:∃ (i:TypeInfo) (z:Value),P.info? e=some i/\i.zero=some z/\i.size=k/\i.bytes=bytes/\z.cells.size=k
 pos:0<k
 le:bytes<=64
theorem uE {P:Program} {t e:TypeId} {k bytes:Nat} (h:P.underlying t=some (.slice e)) (h1:((P.info? e).bind fun i=>i.zero.map fun z=>(i.size,i.bytes,z.cells.size))=some (k,bytes,k)) (h2:0<k) (h3:bytes<=64):tH P t e k bytes:=by
 refine ⟨h,?_,h2,h3⟩;cases hi:P.info? e with
 | none=>rw [hi] at h1;simp at h1
 | some i =>
  rw [hi] at h1;cases hz:i.zero with
  | none=>simp [hz] at h1
  | some z =>
   simp [hz] at h1;exact ⟨i,z,rfl,hz,h1.1,h1.2.1,h1.2.2⟩
section
variable {P:Program} {t e:TypeId} {k bytes:Nat}
theorem kr (T:tH P t e k bytes) {ops:Array Oper} {rest:List Oper} {o:Oper} {a:Act} {Q:Exit->Act->World->Prop} (hgd:o.guard=none) (s x:Operand)
 (ho:o.op=.call { callee:=.builtin .append,args:=#[s,x],argTypes:=#[t,t] }) (w:World) (base:Nat) (v:Value) (L M:Cs) (hs:a.eval s=v) (hown:bK k e base w v L)
 (ad:Addr) (m c:Nat) (hx:a.eval x=.slice (some ad) m c) (hm:m=M.length) (hnews:∀ j u,(bJ M)[j]? = some u->w.cell? (ad.add j)=some u) (hM:∀ x∈M,x.length=k) (h0:0<M.length) (hn:L.length+M.length<=1000000) (hbase:base<=w.heap.size)
 (h:∀ v' w',bK k e base w' v' (L++M)->Below base w w'->w.grownBy w' v.ownBlock->(∀ g,v'.ownBlock=some g->v.ownBlock=some g∨g=w.heap.size)->wpList P ops Q rest (a.put o.dst v') w'):wpList P ops Q (o::rest) a w:=by
 obtain ⟨i,z,hi,hz,hs1,hb1,hz1⟩:=T.info;have hb:=T.le;refine wpList_append_lies w hgd s x t ho base e i z k bytes T.sl hi hz hs1 hb1 hz1 T.pos v L.length (bJ L) hs hown.own ad m c (bJ M) hx (by rw [hm];exact lJ M hM) hnews (qR M) (by omega) (by simp [maxLen];omega) (by
  have:(L.length+m)*bytes<=1000000*64:=Nat.mul_le_mul (by omega) hb
  omega) hbase _ rfl ?_
 intro g cap w' h1 h2 h3 h4;have e:L.length+m=(L++M).length:=by rw [List.length_append,hm]
 rw [<-jK,e] at h1;rw [e];exact h _ w' ⟨fun x hx=>(List.mem_append.1 hx).elim (hown.len x) (hM x),h1⟩ ((Below.refl _ w).grown h2 hbase (fun g hg=>(hown.lt g hg).1)) h2 (fun g' hg'=>by
  simp [Value.ownBlock] at hg'
  subst hg'
  exact h3)
theorem mD (T:tH P t e k bytes) {ops:Array Oper} {o:Oper} {a:Act} {K:Act->World->Prop} {Q:Exit->Act->World->Prop} {E:Prop} (hgd:o.guard=none) (s x:Operand)
 (ho:o.op=.call { callee:=.builtin .append,args:=#[s,x],argTypes:=#[t,t] }) (w:World) (base:Nat) (v:Value) (L M:Cs) (hs:a.eval s=v) (hown:bK k e base w v L)
 (ad:Addr) (m c:Nat) (hx:a.eval x=.slice (some ad) m c) (hm:m=M.length) (hnews:∀ j u,(bJ M)[j]? = some u->w.cell? (ad.add j)=some u) (hM:∀ x∈M,x.length=k) (h0:0<M.length) (hn:L.length+M.length<=1000000) (hbase:base<=w.heap.size)
 (h:∀ v' w',bK k e base w' v' (L++M)->Below base w w'->w.grownBy w' v.ownBlock->(∀ g,v'.ownBlock=some g->v.ownBlock=some g∨g=w.heap.size)->K (a.put o.dst v') w') :
 if Region.wanted o (yielded ops a.tmps)=true then Oper.wp P o a w K Q else E:=by
 obtain ⟨i,z,hi,hz,hs1,hb1,hz1⟩:=T.info;have hb:=T.le;refine step_append_lies w hgd s x t ho base e i z k bytes T.sl hi hz hs1 hb1 hz1 T.pos v L.length (bJ L) hs hown.own ad m c (bJ M) hx (by rw [hm];exact lJ M hM) hnews (qR M) (by omega) (by simp [maxLen];omega) (by
  have:(L.length+m)*bytes<=1000000*64:=Nat.mul_le_mul (by omega) hb
  omega) hbase _ rfl ?_
 intro g cap w' h1 h2 h3 h4;have e:L.length+m=(L++M).length:=by rw [List.length_append,hm]
 rw [<-jK,e] at h1;rw [e];exact h _ w' ⟨fun x hx=>(List.mem_append.1 hx).elim (hown.len x) (hM x),h1⟩ ((Below.refl _ w).grown h2 hbase (fun g hg=>(hown.lt g hg).1)) h2 (fun g' hg'=>by
  simp [Value.ownBlock] at hg'
  subst hg'
  exact h3)
end
theorem oM (w:World) (n:Nat) (hn:w.heap.size=n) (M:Cs) (cs:Array Value) (hcs:cs.toList=bJ M) (t:TypeId) (j:Nat) (u:Value) (hj:(bJ M)[j]? = some u):(w.alloc (.cells cs t)).cell? ((⟨n,0,none⟩:Addr).add j)=some u:=by
 subst hn;rw [<-hcs] at hj;exact World.news_of_block (gB w t cs) j u hj
theorem KS.upto {w wr wx:World} {l:List (Nat × TypeId × Array Value)} {B:Nat} (h:KS w wr l) (hb:Below B wr wx) (hB:w.heap.size<=B) (hl:∀ p∈l,p.1<B):KS w wx l :=
 ⟨h.1.trans (hb.mono hB),fun p hp=>(h.2 p hp).below hb (hl p hp)⟩
theorem qU {w wr:World} {l l':List (Nat × TypeId × Array Value)} {g:Nat} {t:TypeId} {c0 c1:Value} (h:KS w wr l) (hm:(g,t,#[c0,c1])∈l) (hn:w.heap.size<=g) (hd:∀ p∈l',p.1≠g) (hl:∀ p∈l',p∈l) (u v:Value) :
 KS w ((wr.setCell ⟨g,0,none⟩ u).setCell ⟨g,1,none⟩ v) ((g,t,#[u,v])::l'):=by
 have h1:=h.sub (l':=(g,t,#[c0,c1])::l') (fun p hp=>by
  rcases List.mem_cons.1 hp with rfl|hp
  . exact hm
  . exact hl p hp)
 exact (h1.set hn hd 0 u).set hn hd 1 v
theorem bK.far {k:Nat} {e:TypeId} {base:Nat} {w:World} {v:Value} {L:Cs} (h:bK k e base w v L) {p:Addr} (hp:p.block<base) (u:Value):bK k e base (w.setCell p u) v L:=by
 refine ⟨h.len,h.own.1,?_⟩;rcases h.own.2 with h0|⟨g,cap,cur,hv,hg,hh,rest⟩
 . exact .inl h0
 . exact .inr ⟨g,cap,cur,hv,hg,(Below.heap_setCell w p u g (by omega)).trans hh,rest⟩
theorem sW (w:World) (o:Obj):w.heap.size<=(w.alloc o).heap.size:=by simp
def ddA (L:Cs):Nat->Cs
 | 0=>[]
 | i+1=>if i=0∨L.getD i []≠L.getD (i-1) [] then ddA L i++[L.getD i []] else ddA L i
def dd (L:Cs):Cs:=ddA L L.length
end Go.Proofs.YtgmncdmcdgkodaaGreat
namespace Go.Proofs.YtgmncdmcdgkodaaGreat
open Go.RowKit Sx
theorem FI:tH Tryz.prog 30 26 2 16:=uE Tryz.underlying30 (by kernel_rfl) (by decide) (by decide)
end Go.Proofs.YtgmncdmcdgkodaaGreat
namespace Go.Proofs.YtgmncdmcdgkodaaGreat
open Go.RowKit Sx
theorem Gc:tH Tryz.prog 62 41 4 32:=uE Tryz.underlying62 (by kernel_rfl) (by decide) (by decide)
