/- Rows of structs of integers: in memory, as slices, appended to. -/
import Derived.Test.YtpcfajiiijndiaaGreatZKp
import Derived.Test.YtpcfajiiijndiaaGreatZSxA
import Derived.Deep.AppendLies
import Derived.Lib.SliceRun
import Derived.Deep.QuietTactic
import Derived.BigQuiet
import Derived.Deep.Light
set_option linter.unusedVariables false
set_option linter.unusedSimpArgs false
set_option maxRecDepth 100000
set_option maxHeartbeats 4000000
namespace Sx
open Go
theorem Io (xs ys:List Int) (h:xs.length=ys.length):KL (List.replicate xs.length true) (xs.map (Value.int .i64)) (ys.map (Value.int .i64)):=by
 induction xs generalizing ys with
 | nil=>cases ys with
  | nil=>exact .nil
  | cons y ys=>simp at h
 | cons x xs ih=>cases ys with
  | nil=>simp at h
  | cons y ys=>exact .int .i64 x y (ih ys (by simpa using h))
theorem Ih (xs ys:List Int) (h:xs.length=ys.length):eqL (xs.map (Value.int .i64)) (ys.map (Value.int .i64))=decide (xs=ys):=by
 induction xs generalizing ys with
 | nil=>cases ys with
  | nil=>rfl
  | cons y ys=>simp at h
 | cons x xs ih=>cases ys with
  | nil=>simp at h
  | cons y ys =>
   simp only [List.map_cons,eqL,ceq,ih ys (by simpa using h),Bool.beq_eq_decide_eq,List.cons.injEq,Bool.decide_and]
theorem Ij {P:Program} {t:TypeId} {k:Nat} (h1:dU P 10000 t=some (List.replicate k true)) (h2:dV P t=some true) (xs ys:List Int) (hx:xs.length=k) (hy:ys.length=k) (w:World) :
 (binOp .eql t (.agg ⟨xs.map (Value.int .i64)⟩) (.agg ⟨ys.map (Value.int .i64)⟩)).run P w=.ok (.bool (decide (xs=ys))) w/\(binOp .neq t (.agg ⟨xs.map (Value.int .i64)⟩) (.agg ⟨ys.map (Value.int .i64)⟩)).run P w=.ok (.bool (!decide (xs=ys))) w:=by
 have:=gU 10000 t _ _ _ true h1 h2 (by subst hx;exact Io xs ys (by omega)) w
 simp only [if_true] at this;rw [run_eql_struct,run_neq_struct,this,Ih xs ys (by omega)]
 exact ⟨rfl,rfl⟩
end Sx
namespace Go.Proofs.YtpcfajiiijndiaaGreat
open Go.RowKit
abbrev Cs:=List (List Int)
def iv (x:List Int):List Value:=x.map (Value.int .i64)
def bQ (L:Cs):List Value:=L.flatMap iv
theorem nk (x:List Int) (L:Cs):bQ (x::L)=iv x++bQ L:=rfl
theorem je (L M:Cs):bQ (L++M)=bQ L++bQ M:=by unfold bQ;simp
theorem oZ {k:Nat} (L:Cs) (h:∀ x∈L,x.length=k):(bQ L).length=L.length*k:=by
 induction L with
 | nil=>simp [bQ]
 | cons x L ih =>
  rw [nk,List.length_append,ih (fun y hy=>h y (.tail _ hy)),List.length_cons]
  have:=h x (.head _);simp only [iv,List.length_map,this,Nat.add_mul,Nat.one_mul];omega
theorem Fv (x:List Int) (j:Nat) (h:j<x.length):(iv x)[j]? = some (.int .i64 (x.getD j 0)):=by
 simp [iv,h]
theorem yj {k:Nat} (L:Cs) (h:∀ x∈L,x.length=k):∀ (i:Nat) (hi:i<L.length) (j:Nat) (hj:j<k),(bQ L)[i*k+j]? = some (.int .i64 (L[i].getD j 0)):=by
 induction L with
 | nil=>intro i hi;simp at hi
 | cons x L ih =>
  intro i hi j hj;have hx:=h x (.head _);have hl:(iv x).length=k:=by simp [iv,hx]
  rw [nk];cases i with
  | zero =>
   rw [List.getElem?_append_left (by omega),Nat.zero_mul,Nat.zero_add]
   exact Fv x j (by omega)
  | succ i =>
   have e:(i+1)*k+j-(iv x).length=i*k+j:=by rw [hl,Nat.add_mul,Nat.one_mul];omega
   rw [List.getElem?_append_right (by rw [hl,Nat.add_mul,Nat.one_mul];omega),e,ih (fun y hy=>h y (.tail _ hy)) i (by simpa using hi) j hj]
   rfl
theorem ou (L:Cs):∀ u∈bQ L,u.oneCell'=true:=by
 intro u hu;unfold bQ at hu;rw [List.mem_flatMap] at hu;obtain ⟨l,_,h⟩:=hu;unfold iv at h;rw [List.mem_map] at h;obtain ⟨z,_,rfl⟩:=h;rfl
def Gw (w:World) (b o:Nat) (x:List Int):Prop:=∀ j,j<x.length->w.cell? ⟨b,o+j,none⟩=some (.int .i64 (x.getD j 0))
structure iK (k:Nat) (w:World) (b off:Nat) (L:Cs):Prop where
 lt:b<w.heap.size
 len:∀ x∈L,x.length=k
 at':∀ i (h:i<L.length),Gw w b (off+i*k) L[i]
theorem iK.below {k:Nat} {w wx:World} {b off B:Nat} {L:Cs} (h:iK k w b off L) (hb:Below B w wx) (hB:b<B):iK k wx b off L :=
 ⟨Nat.lt_of_lt_of_le h.lt hb.size,h.len,fun i hi j hj=>(hb.cell hB).trans (h.at' i hi j hj)⟩
theorem iK.drew {k:Nat} {w:World} {b off:Nat} {L:Cs} (h:iK k w b off L):iK k w.drew b off L:=⟨h.lt,h.len,h.at'⟩
theorem iK.alloc {k:Nat} {w:World} {b off:Nat} {L:Cs} (h:iK k w b off L) (o:Obj):iK k (w.alloc o) b off L :=
 h.below (B:=w.heap.size) ((Below.refl _ _).alloc (Nat.le_refl _) o) h.lt
theorem Hr {x:List Int} (h:x.length=2):∃ a b,x=[a,b]:=by
 match x,h with
 | [a,b],_=>exact ⟨a,b,rfl⟩
theorem iK.at2 {w:World} {b off:Nat} {L:Cs} (h:iK 2 w b off L) (i:Nat) (hi:i<L.length):∃ x y,L[i]=[x,y]/\w.cell? ⟨b,off+i*2,none⟩=some (.int .i64 x)/\w.cell? ⟨b,off+i*2+1,none⟩=some (.int .i64 y):=by
 obtain ⟨x,y,e⟩:=Hr (h.len _ (List.getElem_mem hi));have a:=h.at' i hi;rw [e] at a;exact ⟨x,y,e,a 0 (by simp),a 1 (by simp)⟩
theorem iK.take {k:Nat} {w:World} {b off:Nat} {L:Cs} (h:iK k w b off L) (n:Nat):iK k w b off (L.take n) :=
 ⟨h.lt,fun x hx=>h.len x (List.mem_of_mem_take hx),fun i hi=>by
  rw [List.length_take] at hi;rw [List.getElem_take];exact h.at' i (by omega)⟩
def SlI (k:Nat) (w:World) (a:Option Addr) (L:Cs):Prop:=L=[]∨∃ b off,a=some ⟨b,off,none⟩/\iK k w b off L
theorem SlI.below {k:Nat} {w wx:World} {a:Option Addr} {L:Cs} (h:SlI k w a L) (hb:Below w.heap.size w wx):SlI k wx a L:=by
 rcases h with h|⟨b,off,h1,h2⟩
 . exact .inl h
 . exact .inr ⟨b,off,h1,h2.below hb h2.lt⟩
theorem SlI.len {k:Nat} {w:World} {a:Option Addr} {L:Cs} (h:SlI k w a L):∀ x∈L,x.length=k:=by
 rcases h with h|⟨b,off,h1,h2⟩
 . subst h;intro x hx;cases hx
 . exact h2.len
theorem SlI.drew {k:Nat} {w:World} {a:Option Addr} {L:Cs} (h:SlI k w a L):SlI k w.drew a L:=by
 rcases h with h|⟨b,off,h1,h2⟩
 . exact .inl h
 . exact .inr ⟨b,off,h1,h2.drew⟩
theorem SlI.alloc {k:Nat} {w:World} {a:Option Addr} {L:Cs} (h:SlI k w a L) (o:Obj):SlI k (w.alloc o) a L :=
 h.below ((Below.refl _ _).alloc (Nat.le_refl _) o)
structure bR (k:Nat) (e:TypeId) (base:Nat) (w:World) (v:Value) (L:Cs):Prop where
 len:∀ x∈L,x.length=k
 own:w.ownsRow base e k v L.length (bQ L)
theorem bR.nil (k:Nat) (e:TypeId) (base:Nat) (w:World):bR k e base w (.slice none 0 0) []:=⟨fun x hx=>(by cases hx),⟨by simp [bQ],.inl ⟨rfl,rfl⟩⟩⟩
theorem bR.below {k:Nat} {e:TypeId} {base:Nat} {w wx:World} {v:Value} {L:Cs} (h:bR k e base w v L) (hb:Below w.heap.size w wx):bR k e base wx v L:=by
 refine ⟨h.len,h.own.1,?_⟩;rcases h.own.2 with h0|⟨g,cap,cur,hv,hg,hh,rest⟩
 . exact .inl h0
 . refine .inr ⟨g,cap,cur,hv,hg,?_,rest⟩;rw [hb.block g ?_];exact hh;rcases Nat.lt_or_ge g w.heap.size with hlt|hge
   . exact hlt
   . rw [Array.getElem?_eq_none hge] at hh;cases hh
theorem bR.drew {k:Nat} {e:TypeId} {base:Nat} {w:World} {v:Value} {L:Cs} (h:bR k e base w v L):bR k e base w.drew v L:=⟨h.len,h.own⟩
theorem bR.drewN {k:Nat} {e:TypeId} {base:Nat} {w:World} {v:Value} {L:Cs} (h:bR k e base w v L) (n:Nat):bR k e base (w.drewN n) v L:=⟨h.len,h.own⟩
theorem bR.alloc {k:Nat} {e:TypeId} {base:Nat} {w:World} {v:Value} {L:Cs} (h:bR k e base w v L) (o:Obj):bR k e base (w.alloc o) v L :=
 h.below ((Below.refl _ _).alloc (Nat.le_refl _) o)
theorem bR.mono {k:Nat} {e:TypeId} {base b2:Nat} {w:World} {v:Value} {L:Cs} (h:bR k e base w v L) (hb:b2<=base):bR k e b2 w v L:=by
 refine ⟨h.len,h.own.1,?_⟩;rcases h.own.2 with h0|⟨g,cap,cur,hv,hg,rest⟩
 . exact .inl h0
 . exact .inr ⟨g,cap,cur,hv,by omega,rest⟩
theorem bR.out {k:Nat} {e:TypeId} {base:Nat} {w:World} {v:Value} {L:Cs} (h:bR k e base w v L) (hk:0<k) :
 ∃ a cap,v=.slice a L.length cap/\L.length<=cap/\cap<=maxLen/\SlI k w a L/\(L≠[]->∃ g,a=some ⟨g,0,none⟩/\base<=g/\iK k w g 0 L/\∀ j,w.frozen? ⟨g,j,none⟩=false):=by
 obtain ⟨hl,h0|⟨g,cap,cur,hv,hb,hg,hc,hm,hs,ht⟩⟩:=h.own
 . have:L=[]:=List.eq_nil_of_length_eq_zero h0.2;subst this;exact ⟨none,0,h0.1,Nat.le_refl _,Nat.zero_le _,.inl rfl,fun h=>absurd rfl h⟩
 . have hgl:g<w.heap.size:=by
    rcases Nat.lt_or_ge g w.heap.size with hlt|hge
    . exact hlt
    . rw [Array.getElem?_eq_none hge] at hg;cases hg
   have hcell:∀ j u,(bQ L)[j]? = some u->w.cell? ⟨g,j,none⟩=some u:=by
    intro j u hu;rw [cell_of_row w g j cur e (0,0) hg];have hj:j<(bQ L).length:=by
     rcases Nat.lt_or_ge j (bQ L).length with h|h
     . exact h
     . rw [List.getElem?_eq_none h] at hu;cases hu
    rw [<-ht] at hu hj;rw [List.getElem?_take_of_lt (by rw [List.length_take] at hj;omega)] at hu
    simpa using hu
   have R:iK k w g 0 L:=⟨hgl,h.len,fun i hi j hj=>by
    rw [h.len _ (List.getElem_mem hi)] at hj;rw [Nat.zero_add];exact hcell _ _ (yj L h.len i hi j hj)⟩
   exact ⟨some ⟨g,0,none⟩,cap,hv,hc,hm,.inr ⟨g,0,rfl,R⟩,fun _=>⟨g,rfl,hb,R,fun j=>by simp [World.frozen?,hg]⟩⟩
theorem bR.lt {k:Nat} {e:TypeId} {base:Nat} {w:World} {v:Value} {L:Cs} (h:bR k e base w v L):∀ g,v.ownBlock=some g->base<=g/\g<w.heap.size:=by
 intro g hg;rcases h.own.2 with ⟨h0,_⟩|⟨g',cap,cur,hv,hb,hh,_⟩
 . rw [h0] at hg;cases hg
 . rw [hv] at hg;simp [Value.ownBlock] at hg;subst hg;refine ⟨hb,?_⟩;rcases Nat.lt_or_ge g' w.heap.size with hlt|hge
   . exact hlt
   . rw [Array.getElem?_eq_none hge] at hh;cases hh
structure rZ (P:Program) (t e:TypeId) (k bytes:Nat):Prop where
 sl:P.underlying t=some (.slice e)
 info:∃ (i:TypeInfo) (z:Value),P.info? e=some i/\i.zero=some z/\i.size=k/\i.bytes=bytes/\z.cells.size=k
 pos:0<k
 le:bytes<=64
theorem uu {P:Program} {t e:TypeId} {k bytes:Nat} (h:P.underlying t=some (.slice e)) (h1:((P.info? e).bind fun i=>i.zero.map fun z=>(i.size,i.bytes,z.cells.size))=some (k,bytes,k)) (h2:0<k) (h3:bytes<=64):rZ P t e k bytes:=by
 refine ⟨h,?_,h2,h3⟩;cases hi:P.info? e with
 | none=>rw [hi] at h1;simp at h1
 | some i =>
  rw [hi] at h1;cases hz:i.zero with
  | none=>simp [hz] at h1
  | some z =>
   simp [hz] at h1;exact ⟨i,z,rfl,hz,h1.1,h1.2.1,h1.2.2⟩
section
variable {P:Program} {t e:TypeId} {k bytes:Nat}
theorem jB (T:rZ P t e k bytes) {ops:Array Oper} {rest:List Oper} {o:Oper} {a:Act} {Q:Exit->Act->World->Prop} (hgd:o.guard=none) (s x:Operand)
 (ho:o.op=.call { callee:=.builtin .append,args:=#[s,x],argTypes:=#[t,t] }) (w:World) (base:Nat) (v:Value) (L M:Cs) (hs:a.eval s=v) (hown:bR k e base w v L)
 (ad:Addr) (m c:Nat) (hx:a.eval x=.slice (some ad) m c) (hm:m=M.length) (hnews:∀ j u,(bQ M)[j]? = some u->w.cell? (ad.add j)=some u) (hM:∀ x∈M,x.length=k) (h0:0<M.length) (hn:L.length+M.length<=1000000) (hbase:base<=w.heap.size)
 (h:∀ v' w',bR k e base w' v' (L++M)->Below base w w'->w.grownBy w' v.ownBlock->(∀ g,v'.ownBlock=some g->v.ownBlock=some g∨g=w.heap.size)->wpList P ops Q rest (a.put o.dst v') w'):wpList P ops Q (o::rest) a w:=by
 obtain ⟨i,z,hi,hz,hs1,hb1,hz1⟩:=T.info;have hb:=T.le;refine wpList_append_lies w hgd s x t ho base e i z k bytes T.sl hi hz hs1 hb1 hz1 T.pos v L.length (bQ L) hs hown.own ad m c (bQ M) hx (by rw [hm];exact oZ M hM) hnews (ou M) (by omega) (by simp [maxLen];omega) (by
  have:(L.length+m)*bytes<=1000000*64:=Nat.mul_le_mul (by omega) hb
  omega) hbase _ rfl ?_
 intro g cap w' h1 h2 h3 h4;have e:L.length+m=(L++M).length:=by rw [List.length_append,hm]
 rw [<-je,e] at h1;rw [e];exact h _ w' ⟨fun x hx=>(List.mem_append.1 hx).elim (hown.len x) (hM x),h1⟩ ((Below.refl _ w).grown h2 hbase (fun g hg=>(hown.lt g hg).1)) h2 (fun g' hg'=>by
  simp [Value.ownBlock] at hg'
  subst hg'
  exact h3)
theorem lw (T:rZ P t e k bytes) {ops:Array Oper} {o:Oper} {a:Act} {K:Act->World->Prop} {Q:Exit->Act->World->Prop} {E:Prop} (hgd:o.guard=none) (s x:Operand)
 (ho:o.op=.call { callee:=.builtin .append,args:=#[s,x],argTypes:=#[t,t] }) (w:World) (base:Nat) (v:Value) (L M:Cs) (hs:a.eval s=v) (hown:bR k e base w v L)
 (ad:Addr) (m c:Nat) (hx:a.eval x=.slice (some ad) m c) (hm:m=M.length) (hnews:∀ j u,(bQ M)[j]? = some u->w.cell? (ad.add j)=some u) (hM:∀ x∈M,x.length=k) (h0:0<M.length) (hn:L.length+M.length<=1000000) (hbase:base<=w.heap.size)
 (h:∀ v' w',bR k e base w' v' (L++M)->Below base w w'->w.grownBy w' v.ownBlock->(∀ g,v'.ownBlock=some g->v.ownBlock=some g∨g=w.heap.size)->K (a.put o.dst v') w') :
 if Region.wanted o (yielded ops a.tmps)=true then Oper.wp P o a w K Q else E:=by
 obtain ⟨i,z,hi,hz,hs1,hb1,hz1⟩:=T.info;have hb:=T.le;refine step_append_lies w hgd s x t ho base e i z k bytes T.sl hi hz hs1 hb1 hz1 T.pos v L.length (bQ L) hs hown.own ad m c (bQ M) hx (by rw [hm];exact oZ M hM) hnews (ou M) (by omega) (by simp [maxLen];omega) (by
  have:(L.length+m)*bytes<=1000000*64:=Nat.mul_le_mul (by omega) hb
  omega) hbase _ rfl ?_
 intro g cap w' h1 h2 h3 h4;have e:L.length+m=(L++M).length:=by rw [List.length_append,hm]
 rw [<-je,e] at h1;rw [e];exact h _ w' ⟨fun x hx=>(List.mem_append.1 hx).elim (hown.len x) (hM x),h1⟩ ((Below.refl _ w).grown h2 hbase (fun g hg=>(hown.lt g hg).1)) h2 (fun g' hg'=>by
  simp [Value.ownBlock] at hg'
  subst hg'
  exact h3)
end
theorem mP (w:World) (n:Nat) (hn:w.heap.size=n) (M:Cs) (cs:Array Value) (hcs:cs.toList=bQ M) (t:TypeId) (j:Nat) (u:Value) (hj:(bQ M)[j]? = some u):(w.alloc (.cells cs t)).cell? ((⟨n,0,none⟩:Addr).add j)=some u:=by
 subst hn;rw [<-hcs] at hj;exact World.news_of_block (gz w t cs) j u hj
theorem KS.upto {w wr wx:World} {l:List (Nat × TypeId × Array Value)} {B:Nat} (h:KS w wr l) (hb:Below B wr wx) (hB:w.heap.size<=B) (hl:∀ p∈l,p.1<B):KS w wx l :=
 ⟨h.1.trans (hb.mono hB),fun p hp=>(h.2 p hp).below hb (hl p hp)⟩
theorem pY {w wr:World} {l l':List (Nat × TypeId × Array Value)} {g:Nat} {t:TypeId} {c0 c1:Value} (h:KS w wr l) (hm:(g,t,#[c0,c1])∈l) (hn:w.heap.size<=g) (hd:∀ p∈l',p.1≠g) (hl:∀ p∈l',p∈l) (u v:Value) :
 KS w ((wr.setCell ⟨g,0,none⟩ u).setCell ⟨g,1,none⟩ v) ((g,t,#[u,v])::l'):=by
 have h1:=h.sub (l':=(g,t,#[c0,c1])::l') (fun p hp=>by
  rcases List.mem_cons.1 hp with rfl|hp
  . exact hm
  . exact hl p hp)
 exact (h1.set hn hd 0 u).set hn hd 1 v
theorem bR.far {k:Nat} {e:TypeId} {base:Nat} {w:World} {v:Value} {L:Cs} (h:bR k e base w v L) {p:Addr} (hp:p.block<base) (u:Value):bR k e base (w.setCell p u) v L:=by
 refine ⟨h.len,h.own.1,?_⟩;rcases h.own.2 with h0|⟨g,cap,cur,hv,hg,hh,rest⟩
 . exact .inl h0
 . exact .inr ⟨g,cap,cur,hv,hg,(Below.heap_setCell w p u g (by omega)).trans hh,rest⟩
theorem tJ (w:World) (o:Obj):w.heap.size<=(w.alloc o).heap.size:=by simp
def ddA (L:Cs):Nat->Cs
 | 0=>[]
 | i+1=>if i=0∨L.getD i []≠L.getD (i-1) [] then ddA L i++[L.getD i []] else ddA L i
def dd (L:Cs):Cs:=ddA L L.length
end Go.Proofs.YtpcfajiiijndiaaGreat
namespace Go.Proofs.YtpcfajiiijndiaaGreat
open Go.RowKit Sx
theorem ED:rZ Tryz.prog 38 26 2 16:=uu Tryz.underlying38 (by kernel_rfl) (by decide) (by decide)
theorem Iq (a b:List Int) (ha:a.length=2) (hb:b.length=2) (w:World):(binOp .eql 26 (.agg ⟨a.map (Value.int .i64)⟩) (.agg ⟨b.map (Value.int .i64)⟩)).run Tryz.prog w=.ok (.bool (decide (a=b))) w/\(binOp .neq 26 (.agg ⟨a.map (Value.int .i64)⟩) (.agg ⟨b.map (Value.int .i64)⟩)).run Tryz.prog w=.ok (.bool (!decide (a=b))) w :=
 Ij (by kernel_rfl) (by kernel_rfl) a b ha hb w
theorem Ii (a b:Option Addr) (c1 c2:Nat) (L M:Cs) (w:World) (hL:SlI 2 w a L) (hM:SlI 2 w b M) (hn:L.length<=1000) (hm:M.length<=1000) :
 Calls Tryz.prog 16 #[.slice a L.length c1,.slice b M.length c2] w fun e w'=>e=.returned (.bool (decide (L=M)))/\Below w.heap.size w w':=by
 have HL:=Lib.hid hL;have HM:=Lib.hid hM;clear hL hM
 by_cases hlen:L.length=M.length
 . rw [<-hlen];go_enter Tryz.func16,Tryz.ntmps16;go_wp2;go_loopw [13] (fun v wr=>∃ i:Nat,v=.int .i64 (i:Int)/\i<=L.length/\(∀ j,j<i->L[j]? = M[j]?)/\Below w.heap.size w wr) (fun v _=>((L.length:Int)-intOf v).toNat)
   case atStart =>
    exact ⟨0,rfl,by omega,fun j hj=>by omega,Below.refl _ _⟩
   case round =>
    obtain ⟨i,rfl,hi,hs,hb⟩:=hrel;have HB:=Lib.hid hb;clear hb
    by_cases hl:i<L.length
    . rcases HL.out.below HB.out with h0|⟨p,off,rfl,hR⟩
      . rw [h0] at hl;simp at hl
      . rcases HM.out.below HB.out with h0|⟨q,off2,rfl,hR2⟩
        . have hl3:=hl;rw [hlen,h0] at hl3;simp at hl3
        . obtain ⟨x,y,hx,c0,c1⟩:=hR.at2 i hl;obtain ⟨u,v,hu,d0,d1⟩:=hR2.at2 i (by omega)
          have hl':(i:Int)<(L.length:Int):=by omega
          have him:i<M.length:=by omega
          have FIN:Hid (L[i]=M[i]->∀ j,j<i+1->L[j]? = M[j]?):=by
           intro h j hji
           by_cases e:j<i
           . exact hs j e
           . obtain rfl:j=i:=by omega
             rw [List.getElem?_eq_getElem hl,List.getElem?_eq_getElem him,h]
          have FIN2:Hid (L[i]≠M[i]->decide (L=M)=false):=by
           intro h;refine decide_eq_false fun e=>h ?_
           subst e;rfl
          clear hs;rw [hx,hu] at FIN FIN2;clear hR hR2 HL HM;have E:=fun w=>(Iq [x,y] [u,v] rfl rfl w).2
          by_cases he:[x,y]=[u,v]
          . have E2:∀ w,(binOp .neq 26 (.agg #[.int .i64 x,.int .i64 y]) (.agg #[.int .i64 u,.int .i64 v])).run Tryz.prog w=.ok (.bool false) w:=fun w=>by
             have:=E w;rw [decide_eq_true he] at this;exact this
            clear E;go_wp2_with fail;go_quiet (fail);go_wp2;go_light;exact ⟨⟨i+1,by rw [show ((i+1:Nat):Int)=(i:Int)+1 by omega],by omega,FIN.out he,below_drewN HB.out _⟩,by simp only [intOf];omega⟩
          . have E2:∀ w,(binOp .neq 26 (.agg #[.int .i64 x,.int .i64 y]) (.agg #[.int .i64 u,.int .i64 v])).run Tryz.prog w=.ok (.bool true) w:=fun w=>by
             have:=E w;rw [decide_eq_false he] at this;exact this
            clear E;have R:=Lib.hid (FIN2.out he);clear he;go_wp2_with fail;go_quiet (fail);go_wp2;go_ret;exact ⟨by rw [R.out];first|done|rfl,below_drewN HB.out _⟩
    . have hl':¬ (i:Int)<(L.length:Int):=by omega
      have R:Hid (decide (L=M)=true):=decide_eq_true (List.ext_getElem? fun j=>by
       by_cases h:j<i
       . exact hs j h
       . rw [List.getElem?_eq_none (by omega),List.getElem?_eq_none (by omega)])
      clear hs;go_wp2;go_ret;exact ⟨by rw [R.out];first|done|rfl,HB.out⟩
 . have R:Hid (decide (L=M)=false):=decide_eq_false fun e=>hlen (by rw [e])
   have hlen':¬ (L.length:Int)=(M.length:Int):=by omega
   go_enter Tryz.func16,Tryz.ntmps16;go_wp2;go_ret;exact ⟨by rw [R.out];first|done|rfl,by go_grown⟩
end Go.Proofs.YtpcfajiiijndiaaGreat
namespace Go.Proofs.YtpcfajiiijndiaaGreat
open Go.RowKit Sx
theorem FB:rZ Tryz.prog 62 51 4 32:=uu Tryz.underlying62 (by kernel_rfl) (by decide) (by decide)
