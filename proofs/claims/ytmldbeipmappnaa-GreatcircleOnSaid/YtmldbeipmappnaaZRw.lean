/- Rows of structs of integers: in memory, as slices, appended to. -/
import Derived.Test.YtmldbeipmappnaaZKp
import Derived.Test.YtmldbeipmappnaaZSxA
import Derived.Deep.AppendLies
import Derived.Lib.SliceRun
import Derived.Deep.QuietTactic
import Derived.BigQuiet
import Derived.Deep.Light
set_option linter.unusedVariables false
set_option linter.unusedSimpArgs false
namespace Sx
open Go
end Sx
namespace Go.Proofs.Ytmldbeipmappnaa
open Go.RowKit
abbrev Cs:=List (List Int)
def iv (x:List Int):List Value:=x.map (Value.int .i64)
def dY (L:Cs):List Value:=L.flatMap iv
theorem rP (x:List Int) (L:Cs):dY (x::L)=iv x++dY L:=rfl
theorem xA (L M:Cs):dY (L++M)=dY L++dY M:=by unfold dY;simp
theorem Gb {k:Nat} (L:Cs) (h:∀ x∈L,x.length=k):(dY L).length=L.length*k:=by
 induction L with
 | nil=>simp [dY]
 | cons x L ih =>
  rw [rP,List.length_append,ih (fun y hy=>h y (.tail _ hy)),List.length_cons]
  have:=h x (.head _);simp only [iv,List.length_map,this,Nat.add_mul,Nat.one_mul];omega
theorem PV (x:List Int) (j:Nat) (h:j<x.length):(iv x)[j]? = some (.int .i64 (x.getD j 0)):=by
 simp [iv,h]
theorem FP {k:Nat} (L:Cs) (h:∀ x∈L,x.length=k):∀ (i:Nat) (hi:i<L.length) (j:Nat) (hj:j<k),(dY L)[i*k+j]? = some (.int .i64 (L[i].getD j 0)):=by
 induction L with
 | nil=>intro i hi;simp at hi
 | cons x L ih =>
  intro i hi j hj;have hx:=h x (.head _);have hl:(iv x).length=k:=by simp [iv,hx]
  rw [rP];cases i with
  | zero =>
   rw [List.getElem?_append_left (by omega),Nat.zero_mul,Nat.zero_add]
   exact PV x j (by omega)
  | succ i =>
   have e:(i+1)*k+j-(iv x).length=i*k+j:=by rw [hl,Nat.add_mul,Nat.one_mul];omega
   rw [List.getElem?_append_right (by rw [hl,Nat.add_mul,Nat.one_mul];omega),e,ih (fun y hy=>h y (.tail _ hy)) i (by simpa using hi) j hj]
   rfl
theorem FW (L:Cs):∀ u∈dY L,u.oneCell'=true:=by
 intro u hu;unfold dY at hu;rw [List.mem_flatMap] at hu;obtain ⟨l,_,h⟩:=hu;unfold iv at h;rw [List.mem_map] at h;obtain ⟨z,_,rfl⟩:=h;rfl
def Vx (w:World) (b o:Nat) (x:List Int):Prop:=∀ j,j<x.length->w.cell? ⟨b,o+j,none⟩=some (.int .i64 (x.getD j 0))
structure jT (k:Nat) (w:World) (b off:Nat) (L:Cs):Prop where
 lt:b<w.heap.size
 len:∀ x∈L,x.length=k
 at':∀ i (h:i<L.length),Vx w b (off+i*k) L[i]
theorem jT.below {k:Nat} {w wx:World} {b off B:Nat} {L:Cs} (h:jT k w b off L) (hb:Below B w wx) (hB:b<B):jT k wx b off L :=
 ⟨Nat.lt_of_lt_of_le h.lt hb.size,h.len,fun i hi j hj=>(hb.cell hB).trans (h.at' i hi j hj)⟩
theorem jT.drew {k:Nat} {w:World} {b off:Nat} {L:Cs} (h:jT k w b off L):jT k w.drew b off L:=⟨h.lt,h.len,h.at'⟩
theorem jT.alloc {k:Nat} {w:World} {b off:Nat} {L:Cs} (h:jT k w b off L) (o:Obj):jT k (w.alloc o) b off L :=
 h.below (B:=w.heap.size) ((Below.refl _ _).alloc (Nat.le_refl _) o) h.lt
theorem yQ {x:List Int} (h:x.length=4):∃ a b c d,x=[a,b,c,d]:=by
 match x,h with
 | [a,b,c,d],_=>exact ⟨a,b,c,d,rfl⟩
theorem jT.at4 {w:World} {b off:Nat} {L:Cs} (h:jT 4 w b off L) (i:Nat) (hi:i<L.length):∃ x y z t,L[i]=[x,y,z,t]/\w.cell? ⟨b,off+i*4,none⟩=some (.int .i64 x)/\w.cell? ⟨b,off+i*4+1,none⟩=some (.int .i64 y)/\w.cell? ⟨b,off+i*4+2,none⟩=some (.int .i64 z)/\w.cell? ⟨b,off+i*4+3,none⟩=some (.int .i64 t):=by
 obtain ⟨x,y,z,t,e⟩:=yQ (h.len _ (List.getElem_mem hi));have a:=h.at' i hi;rw [e] at a;exact ⟨x,y,z,t,e,a 0 (by simp),a 1 (by simp),a 2 (by simp),a 3 (by simp)⟩
theorem jT.take {k:Nat} {w:World} {b off:Nat} {L:Cs} (h:jT k w b off L) (n:Nat):jT k w b off (L.take n) :=
 ⟨h.lt,fun x hx=>h.len x (List.mem_of_mem_take hx),fun i hi=>by
  rw [List.length_take] at hi;rw [List.getElem_take];exact h.at' i (by omega)⟩
def SlI (k:Nat) (w:World) (a:Option Addr) (L:Cs):Prop:=L=[]∨∃ b off,a=some ⟨b,off,none⟩/\jT k w b off L
theorem SlI.below {k:Nat} {w wx:World} {a:Option Addr} {L:Cs} (h:SlI k w a L) (hb:Below w.heap.size w wx):SlI k wx a L:=by
 rcases h with h|⟨b,off,h1,h2⟩
 . exact .inl h
 . exact .inr ⟨b,off,h1,h2.below hb h2.lt⟩
theorem SlI.len {k:Nat} {w:World} {a:Option Addr} {L:Cs} (h:SlI k w a L):∀ x∈L,x.length=k:=by
 rcases h with h|⟨b,off,h1,h2⟩
 . subst h;intro x hx;cases hx
 . exact h2.len
theorem SlI.drew {k:Nat} {w:World} {a:Option Addr} {L:Cs} (h:SlI k w a L):SlI k w.drew a L:=by
 rcases h with h|⟨b,off,h1,h2⟩
 . exact .inl h
 . exact .inr ⟨b,off,h1,h2.drew⟩
theorem SlI.alloc {k:Nat} {w:World} {a:Option Addr} {L:Cs} (h:SlI k w a L) (o:Obj):SlI k (w.alloc o) a L :=
 h.below ((Below.refl _ _).alloc (Nat.le_refl _) o)
structure fe (k:Nat) (e:TypeId) (base:Nat) (w:World) (v:Value) (L:Cs):Prop where
 len:∀ x∈L,x.length=k
 own:w.ownsRow base e k v L.length (dY L)
theorem fe.nil (k:Nat) (e:TypeId) (base:Nat) (w:World):fe k e base w (.slice none 0 0) []:=⟨fun x hx=>(by cases hx),⟨by simp [dY],.inl ⟨rfl,rfl⟩⟩⟩
theorem fe.below {k:Nat} {e:TypeId} {base:Nat} {w wx:World} {v:Value} {L:Cs} (h:fe k e base w v L) (hb:Below w.heap.size w wx):fe k e base wx v L:=by
 refine ⟨h.len,h.own.1,?_⟩;rcases h.own.2 with h0|⟨g,cap,cur,hv,hg,hh,rest⟩
 . exact .inl h0
 . refine .inr ⟨g,cap,cur,hv,hg,?_,rest⟩;rw [hb.block g ?_];exact hh;rcases Nat.lt_or_ge g w.heap.size with hlt|hge
   . exact hlt
   . rw [Array.getElem?_eq_none hge] at hh;cases hh
theorem fe.drew {k:Nat} {e:TypeId} {base:Nat} {w:World} {v:Value} {L:Cs} (h:fe k e base w v L):fe k e base w.drew v L:=⟨h.len,h.own⟩
theorem fe.drewN {k:Nat} {e:TypeId} {base:Nat} {w:World} {v:Value} {L:Cs} (h:fe k e base w v L) (n:Nat):fe k e base (w.drewN n) v L:=⟨h.len,h.own⟩
theorem fe.alloc {k:Nat} {e:TypeId} {base:Nat} {w:World} {v:Value} {L:Cs} (h:fe k e base w v L) (o:Obj):fe k e base (w.alloc o) v L :=
 h.below ((Below.refl _ _).alloc (Nat.le_refl _) o)
theorem fe.mono {k:Nat} {e:TypeId} {base b2:Nat} {w:World} {v:Value} {L:Cs} (h:fe k e base w v L) (hb:b2<=base):fe k e b2 w v L:=by
 refine ⟨h.len,h.own.1,?_⟩;rcases h.own.2 with h0|⟨g,cap,cur,hv,hg,rest⟩
 . exact .inl h0
 . exact .inr ⟨g,cap,cur,hv,by omega,rest⟩
theorem fe.out {k:Nat} {e:TypeId} {base:Nat} {w:World} {v:Value} {L:Cs} (h:fe k e base w v L) (hk:0<k) :
 ∃ a cap,v=.slice a L.length cap/\L.length<=cap/\cap<=maxLen/\SlI k w a L/\(L≠[]->∃ g,a=some ⟨g,0,none⟩/\base<=g/\jT k w g 0 L/\∀ j,w.frozen? ⟨g,j,none⟩=false):=by
 obtain ⟨hl,h0|⟨g,cap,cur,hv,hb,hg,hc,hm,hs,ht⟩⟩:=h.own
 . have:L=[]:=List.eq_nil_of_length_eq_zero h0.2;subst this;exact ⟨none,0,h0.1,Nat.le_refl _,Nat.zero_le _,.inl rfl,fun h=>absurd rfl h⟩
 . have hgl:g<w.heap.size:=by
    rcases Nat.lt_or_ge g w.heap.size with hlt|hge
    . exact hlt
    . rw [Array.getElem?_eq_none hge] at hg;cases hg
   have hcell:∀ j u,(dY L)[j]? = some u->w.cell? ⟨g,j,none⟩=some u:=by
    intro j u hu;rw [cell_of_row w g j cur e (0,0) hg];have hj:j<(dY L).length:=by
     rcases Nat.lt_or_ge j (dY L).length with h|h
     . exact h
     . rw [List.getElem?_eq_none h] at hu;cases hu
    rw [<-ht] at hu hj;rw [List.getElem?_take_of_lt (by rw [List.length_take] at hj;omega)] at hu
    simpa using hu
   have R:jT k w g 0 L:=⟨hgl,h.len,fun i hi j hj=>by
    rw [h.len _ (List.getElem_mem hi)] at hj;rw [Nat.zero_add];exact hcell _ _ (FP L h.len i hi j hj)⟩
   exact ⟨some ⟨g,0,none⟩,cap,hv,hc,hm,.inr ⟨g,0,rfl,R⟩,fun _=>⟨g,rfl,hb,R,fun j=>by simp [World.frozen?,hg]⟩⟩
theorem fe.lt {k:Nat} {e:TypeId} {base:Nat} {w:World} {v:Value} {L:Cs} (h:fe k e base w v L):∀ g,v.ownBlock=some g->base<=g/\g<w.heap.size:=by
 intro g hg;rcases h.own.2 with ⟨h0,_⟩|⟨g',cap,cur,hv,hb,hh,_⟩
 . rw [h0] at hg;cases hg
 . rw [hv] at hg;simp [Value.ownBlock] at hg;subst hg;refine ⟨hb,?_⟩;rcases Nat.lt_or_ge g' w.heap.size with hlt|hge
   . exact hlt
   . rw [Array.getElem?_eq_none hge] at hh;cases hh
structure Ji (P:Program) (t e:TypeId) (k bytes:Nat):Prop where
 sl:P.underlying t=some (.slice e)
 info:∃ (i:TypeInfo) (z:Value),P.info? e=some i/\i.zero=some z/\i.size=k/\i.bytes=bytes/\z.cells.size=k
 pos:0<k
 le:bytes<=64
theorem II {P:Program} {t e:TypeId} {k bytes:Nat} (h:P.underlying t=some (.slice e)) (h1:((P.info? e).bind fun i=>i.zero.map fun z=>(i.size,i.bytes,z.cells.size))=some (k,bytes,k)) (h2:0<k) (h3:bytes<=64):Ji P t e k bytes:=by
 refine ⟨h,?_,h2,h3⟩;cases hi:P.info? e with
 | none=>rw [hi] at h1;simp at h1
 | some i =>
  rw [hi] at h1;cases hz:i.zero with
  | none=>simp [hz] at h1
  | some z =>
   simp [hz] at h1;exact ⟨i,z,rfl,hz,h1.1,h1.2.1,h1.2.2⟩
section
variable {P:Program} {t e:TypeId} {k bytes:Nat}
theorem mr (T:Ji P t e k bytes) {ops:Array Oper} {rest:List Oper} {o:Oper} {a:Act} {Q:Exit->Act->World->Prop} (hgd:o.guard=none) (s x:Operand)
 (ho:o.op=.call { callee:=.builtin .append,args:=#[s,x],argTypes:=#[t,t] }) (w:World) (base:Nat) (v:Value) (L M:Cs) (hs:a.eval s=v) (hown:fe k e base w v L)
 (ad:Addr) (m c:Nat) (hx:a.eval x=.slice (some ad) m c) (hm:m=M.length) (hnews:∀ j u,(dY M)[j]? = some u->w.cell? (ad.add j)=some u) (hM:∀ x∈M,x.length=k) (h0:0<M.length) (hn:L.length+M.length<=1000000) (hbase:base<=w.heap.size)
 (h:∀ v' w',fe k e base w' v' (L++M)->Below base w w'->w.grownBy w' v.ownBlock->(∀ g,v'.ownBlock=some g->v.ownBlock=some g∨g=w.heap.size)->wpList P ops Q rest (a.put o.dst v') w'):wpList P ops Q (o::rest) a w:=by
 obtain ⟨i,z,hi,hz,hs1,hb1,hz1⟩:=T.info;have hb:=T.le;refine wpList_append_lies w hgd s x t ho base e i z k bytes T.sl hi hz hs1 hb1 hz1 T.pos v L.length (dY L) hs hown.own ad m c (dY M) hx (by rw [hm];exact Gb M hM) hnews (FW M) (by omega) (by simp [maxLen];omega) (by
  have:(L.length+m)*bytes<=1000000*64:=Nat.mul_le_mul (by omega) hb
  omega) hbase _ rfl ?_
 intro g cap w' h1 h2 h3 h4;have e:L.length+m=(L++M).length:=by rw [List.length_append,hm]
 rw [<-xA,e] at h1;rw [e];exact h _ w' ⟨fun x hx=>(List.mem_append.1 hx).elim (hown.len x) (hM x),h1⟩ ((Below.refl _ w).grown h2 hbase (fun g hg=>(hown.lt g hg).1)) h2 (fun g' hg'=>by
  simp [Value.ownBlock] at hg'
  subst hg'
  exact h3)
end
theorem Bn (w:World) (n:Nat) (hn:w.heap.size=n) (M:Cs) (cs:Array Value) (hcs:cs.toList=dY M) (t:TypeId) (j:Nat) (u:Value) (hj:(dY M)[j]? = some u):(w.alloc (.cells cs t)).cell? ((⟨n,0,none⟩:Addr).add j)=some u:=by
 subst hn;rw [<-hcs] at hj;exact World.news_of_block (Io w t cs) j u hj
theorem KS.upto {w wr wx:World} {l:List (Nat × TypeId × Array Value)} {B:Nat} (h:KS w wr l) (hb:Below B wr wx) (hB:w.heap.size<=B) (hl:∀ p∈l,p.1<B):KS w wx l :=
 ⟨h.1.trans (hb.mono hB),fun p hp=>(h.2 p hp).below hb (hl p hp)⟩
theorem fe.far {k:Nat} {e:TypeId} {base:Nat} {w:World} {v:Value} {L:Cs} (h:fe k e base w v L) {p:Addr} (hp:p.block<base) (u:Value):fe k e base (w.setCell p u) v L:=by
 refine ⟨h.len,h.own.1,?_⟩;rcases h.own.2 with h0|⟨g,cap,cur,hv,hg,hh,rest⟩
 . exact .inl h0
 . exact .inr ⟨g,cap,cur,hv,hg,(Below.heap_setCell w p u g (by omega)).trans hh,rest⟩
theorem Hu (w:World) (o:Obj):w.heap.size<=(w.alloc o).heap.size:=by simp
def ddA (L:Cs):Nat->Cs
 | 0=>[]
 | i+1=>if i=0∨L.getD i []≠L.getD (i-1) [] then ddA L i++[L.getD i []] else ddA L i
def dd (L:Cs):Cs:=ddA L L.length
end Go.Proofs.Ytmldbeipmappnaa
namespace Go.Proofs.Ytmldbeipmappnaa
open Go.RowKit Sx
theorem OY:Ji Try.prog 47 35 4 32:=II Try.underlying47 (by kernel_rfl) (by decide) (by decide)
