/- What the model knows of slices of pt; the contract of Equal. -/
import Derived.Test.YtknhbpnclokciaaZRw
import Derived.Deep.QuietTactic
import Derived.BigQuiet
import Derived.Deep.Light
set_option linter.unusedVariables false
set_option linter.unusedSimpArgs false
set_option maxRecDepth 100000
set_option maxHeartbeats 8000000
namespace Go.Proofs.Ytknhbpnclokciaa
open Go.RowKit Sx
theorem mJ:DR Try.prog 26 23 2 16:=Ef Try.underlying26 (by kernel_rfl) (by decide) (by decide)
theorem Jz (a b:List Int) (ha:a.length=2) (hb:b.length=2) (w:World):(binOp .eql 23 (.agg ⟨a.map (Value.int .i64)⟩) (.agg ⟨b.map (Value.int .i64)⟩)).run Try.prog w=.ok (.bool (decide (a=b))) w/\(binOp .neq 23 (.agg ⟨a.map (Value.int .i64)⟩) (.agg ⟨b.map (Value.int .i64)⟩)).run Try.prog w=.ok (.bool (!decide (a=b))) w :=
 xH (by kernel_rfl) (by kernel_rfl) a b ha hb w
theorem KX (a b:Option Addr) (c1 c2:Nat) (L M:Cs) (w:World) (hL:SlI 2 w a L) (hM:SlI 2 w b M) (hn:L.length<=1000) (hm:M.length<=1000) :
 Calls Try.prog 10 #[.slice a L.length c1,.slice b M.length c2] w fun e w'=>e=.returned (.bool (decide (L=M)))/\Below w.heap.size w w':=by
 have HL:=Lib.hid hL;have HM:=Lib.hid hM;clear hL hM
 by_cases hlen:L.length=M.length
 . rw [<-hlen];go_enter Try.func10,Try.ntmps10;go_wp2;go_loopw [13] (fun v wr=>∃ i:Nat,v=.int .i64 (i:Int)/\i<=L.length/\(∀ j,j<i->L[j]? = M[j]?)/\Below w.heap.size w wr) (fun v _=>((L.length:Int)-intOf v).toNat)
   case atStart =>
    exact ⟨0,rfl,by omega,fun j hj=>by omega,Below.refl _ _⟩
   case round =>
    obtain ⟨i,rfl,hi,hs,hb⟩:=hrel;have HB:=Lib.hid hb;clear hb
    by_cases hl:i<L.length
    . rcases HL.out.below HB.out with h0|⟨p,off,rfl,hR⟩
      . rw [h0] at hl;simp at hl
      . rcases HM.out.below HB.out with h0|⟨q,off2,rfl,hR2⟩
        . have hl3:=hl;rw [hlen,h0] at hl3;simp at hl3
        . obtain ⟨x,y,hx,c0,c1⟩:=hR.at2 i hl;obtain ⟨u,v,hu,d0,d1⟩:=hR2.at2 i (by omega)
          have hl':(i:Int)<(L.length:Int):=by omega
          have him:i<M.length:=by omega
          have FIN:Hid (L[i]=M[i]->∀ j,j<i+1->L[j]? = M[j]?):=by
           intro h j hji
           by_cases e:j<i
           . exact hs j e
           . obtain rfl:j=i:=by omega
             rw [List.getElem?_eq_getElem hl,List.getElem?_eq_getElem him,h]
          have FIN2:Hid (L[i]≠M[i]->decide (L=M)=false):=by
           intro h;refine decide_eq_false fun e=>h ?_
           subst e;rfl
          clear hs;rw [hx,hu] at FIN FIN2;clear hR hR2 HL HM;have E:=fun w=>(Jz [x,y] [u,v] rfl rfl w).2
          by_cases he:[x,y]=[u,v]
          . have E2:∀ w,(binOp .neq 23 (.agg #[.int .i64 x,.int .i64 y]) (.agg #[.int .i64 u,.int .i64 v])).run Try.prog w=.ok (.bool false) w:=fun w=>by
             have:=E w;rw [decide_eq_true he] at this;exact this
            clear E;go_wp2_with fail;go_quiet (fail);go_wp2;go_light;exact ⟨⟨i+1,by rw [show ((i+1:Nat):Int)=(i:Int)+1 by omega],by omega,FIN.out he,below_drewN HB.out _⟩,by simp only [intOf];omega⟩
          . have E2:∀ w,(binOp .neq 23 (.agg #[.int .i64 x,.int .i64 y]) (.agg #[.int .i64 u,.int .i64 v])).run Try.prog w=.ok (.bool true) w:=fun w=>by
             have:=E w;rw [decide_eq_false he] at this;exact this
            clear E;have R:=Lib.hid (FIN2.out he);clear he;go_wp2_with fail;go_quiet (fail);go_wp2;go_ret;exact ⟨by rw [R.out];first|done|rfl,below_drewN HB.out _⟩
    . have hl':¬ (i:Int)<(L.length:Int):=by omega
      have R:Hid (decide (L=M)=true):=decide_eq_true (List.ext_getElem? fun j=>by
       by_cases h:j<i
       . exact hs j h
       . rw [List.getElem?_eq_none (by omega),List.getElem?_eq_none (by omega)])
      clear hs;go_wp2;go_ret;exact ⟨by rw [R.out];first|done|rfl,HB.out⟩
 . have R:Hid (decide (L=M)=false):=decide_eq_false fun e=>hlen (by rw [e])
   have hlen':¬ (L.length:Int)=(M.length:Int):=by omega
   go_enter Try.func10,Try.ntmps10;go_wp2;go_ret;exact ⟨by rw [R.out];first|done|rfl,by go_grown⟩
end Go.Proofs.Ytknhbpnclokciaa
namespace Go.Proofs.Ytknhbpnclokciaa
open Go.RowKit Sx
def kC (w:World) (g:Nat) (T:TypeId) (cap:Nat) (M:Cs):Prop:=(∀ x∈M,x.length=2)/\M.length<=cap/\cap<=maxLen/\∃ cur:Array Value,w.heap[g]? = some (.cells cur T (0,0))/\cur.size=cap*2/\cur.toList.take (M.length*2)=cB M
theorem uE (M:Cs) (h:∀ x∈M,x.length=2):∀ k,cB (M.take k)=(cB M).take (k*2):=by
 induction M with
 | nil=>intro k;simp [cB]
 | cons x M ih =>
  intro k;obtain ⟨a,b,rfl⟩:=om (h x (.head _));cases k with
  | zero=>simp [cB]
  | succ k =>
   rw [List.take_succ_cons,fV,fV,ih (fun y hy=>h y (.tail _ hy)) k,show (k+1)*2=k*2+1+1 by omega]
   simp [iv]
theorem IK (M:Cs) (h:∀ x∈M,x.length=2):∀ (i:Nat) (x y:Int),i<M.length->cB (M.set i [x,y])=((cB M).set (i*2) (.int .i64 x)).set (i*2+1) (.int .i64 y):=by
 induction M with
 | nil=>intro i x y hi;simp at hi
 | cons z M ih =>
  intro i x y hi;obtain ⟨a,b,rfl⟩:=om (h z (.head _));cases i with
  | zero=>simp [fV,iv]
  | succ i =>
   rw [List.set_cons_succ,fV,fV,ih (fun y hy=>h y (.tail _ hy)) i x y (by simpa using hi),show (i+1)*2=i*2+1+1 by omega]
   simp [iv]
theorem bJ.blk {T:TypeId} {base:Nat} {w:World} {g cap:Nat} {n:Nat} {L:Cs} (h:bJ 2 T base w (.slice (some ⟨g,0,none⟩) n cap) L):base<=g/\kC w g T cap L:=by
 obtain ⟨hl,h0|⟨g',cap',cur,hv,hb,hg,hc,hm,hs,ht⟩⟩:=h.own
 . exact absurd h0.1 (by simp)
 . injection hv with e1 e2 e3
   obtain rfl:g=g':=by injection e1 with e1;injection e1
   subst e3;exact ⟨hb,h.len,hc,hm,cur,hg,hs,ht⟩
theorem kC.own {T:TypeId} {base:Nat} {w:World} {g cap:Nat} {M:Cs} (h:kC w g T cap M) (hb:base<=g) (k:Nat) (hk:k<=M.length):bJ 2 T base w (.slice (some ⟨g,0,none⟩) k cap) (M.take k):=by
 obtain ⟨h1,h2,h3,cur,h4,h5,h6⟩:=h;have e:(M.take k).length=k:=by rw [List.length_take];omega
 refine ⟨fun x hx=>h1 x (List.mem_of_mem_take hx),?_,?_⟩
 . rw [ng (k:=2) _ (fun x hx=>h1 x (List.mem_of_mem_take hx))]
 . refine .inr ⟨g,cap,cur,by rw [e],hb,h4,by omega,h3,h5,?_⟩
   rw [e,uE M h1,<-h6,List.take_take]
   congr 1
   omega
theorem kC.row {T:TypeId} {w:World} {g cap:Nat} {M:Cs} (h:kC w g T cap M):gJ 2 w g 0 M/\∀ j,w.frozen? ⟨g,j,none⟩=false:=by
 obtain ⟨h1,h2,h3,cur,h4,h5,h6⟩:=h;have hgl:g<w.heap.size:=by
  rcases Nat.lt_or_ge g w.heap.size with hlt|hge
  . exact hlt
  . rw [Array.getElem?_eq_none hge] at h4;cases h4
 refine ⟨⟨hgl,h1,fun i hi j hj=>?_⟩,fun j=>by simp [World.frozen?,h4]⟩
 rw [h1 _ (List.getElem_mem hi)] at hj;rw [Nat.zero_add,cell_of_row w g _ cur T (0,0) h4];have:=sV M h1 i hi j hj;rw [<-h6,List.getElem?_take_of_lt (by omega)] at this
 simpa using this
theorem kC.drew {T:TypeId} {w:World} {g cap:Nat} {M:Cs} (h:kC w g T cap M):kC w.drew g T cap M:=h
theorem kC.alloc {T:TypeId} {w:World} {g cap:Nat} {M:Cs} (h:kC w g T cap M) (o:Obj):kC (w.alloc o) g T cap M:=by
 obtain ⟨h1,h2,h3,cur,h4,h5⟩:=h;have hgl:g<w.heap.size:=by
  rcases Nat.lt_or_ge g w.heap.size with hlt|hge
  . exact hlt
  . rw [Array.getElem?_eq_none hge] at h4;cases h4
 exact ⟨h1,h2,h3,cur,(Below.heap_alloc w o g hgl).trans h4,h5⟩
theorem kC.set {T:TypeId} {w:World} {g cap:Nat} {M:Cs} (h:kC w g T cap M) (i:Nat) (hi:i<M.length) (x y:Int) :
 kC ((w.setCell ⟨g,i*2,none⟩ (.int .i64 x)).setCell ⟨g,i*2+1,none⟩ (.int .i64 y)) g T cap (M.set i [x,y]):=by
 obtain ⟨h1,h2,h3,cur,h4,h5,h6⟩:=h;refine ⟨fun z hz=>?_,by rw [List.length_set];exact h2,h3,(cur.setIfInBounds (i*2) (.int .i64 x)).setIfInBounds (i*2+1) (.int .i64 y),?_,by simpa using h5,?_⟩
 . rcases List.mem_or_eq_of_mem_set hz with h|h
   . exact h1 z h
   . rw [h];rfl
 . simp [World.setCell,Array.getElem?_modify,h4]
 . rw [List.length_set,IK M h1 i x y hi,<-h6,Array.toList_setIfInBounds,Array.toList_setIfInBounds,List.take_set,List.take_set]
theorem nX (g:Nat) (T:TypeId):∀ (l:List Value) (o:Nat) (w:World) (cur:Array Value),w.heap[g]? = some (.cells cur T (0,0))->∃ cur',(w.setCells g o l).heap[g]? = some (.cells cur' T (0,0))/\cur'.size=cur.size/\∀ m,m<=o->cur'.toList.take m=cur.toList.take m
 | [],o,w,cur,h=>⟨cur,h,rfl,fun _ _=>rfl⟩
 | u::l,o,w,cur,h=>by
  have h1:(w.setCell ⟨g,o,none⟩ u).heap[g]? = some (.cells (cur.setIfInBounds o u) T (0,0)):=by simp [World.setCell,Array.getElem?_modify,h]
  obtain ⟨cur',a,b,c⟩:=nX g T l (o+1) _ _ h1;refine ⟨cur',a,by simpa using b,fun m hm=>?_⟩
  rw [c m (by omega),Array.toList_setIfInBounds,List.take_set_of_le hm]
theorem mQ {w0:World} {B g:Nat} (hg:B<=g):∀ (l:List Value) (o:Nat) (w:World),Below B w0 w->Below B w0 (w.setCells g o l)
 | [],_,_,h=>h
 | u::l,o,w,h=>mQ hg l (o+1) _ (h.setCell (p:=⟨g,o,none⟩) hg u)
theorem yO (w:World) (ty:TypeId) (b o n c:Nat) (hc:∀ j,j<n*2->(w.cell? ⟨b,o+j,none⟩).isSome=true) (hf:∀ j,j<n*2->w.frozen? ⟨b,o+j,none⟩=false) :
 (Builtin.clear_ #[ 26] ty #[.slice (some ⟨b,o,none⟩) n c]).run Try.prog w=.ok (.tuple #[]) (w.setCells b o (List.replicate (n*2) (.int .i64 0))):=by
 have hv:∀ w,(zeroValue 23).run Try.prog w=.ok (.agg #[.int .i64 0,.int .i64 0]) w:=fun _=>by kernel_rfl
 cases n with
 | zero=>simp [Builtin.clear_,run_underlying Try.underlying26,World.setCells]
 | succ m =>
  have hzc:(Builtin.zeroCells (Value.agg #[.int .i64 0,.int .i64 0]).cells (m+1)).toList=List.replicate ((m+1)*2) (.int .i64 0):=by
   simp [Builtin.zeroCells,Value.cells];apply List.ext_getElem
   . simp
   . intro i h1 h2;simp;have:i%2=0∨i%2=1:=by omega
     rcases this with h|h<;>simp [h]
  have hst:=run_storeCells_cells (P:=Try.prog) b o (List.replicate ((m+1)*2) (.int .i64 0)) 0 w (by simpa using hc) (by simpa using hf) (by intro v hv';rw [List.eq_of_mem_replicate hv'];rfl)
  simp only [Nat.add_zero] at hst;simp [Builtin.clear_,run_underlying Try.underlying26,hv,hzc,hst]
theorem IQ:∀ w,(sizeOf 23).run Try.prog w=.ok 2 w:=fun _=>by kernel_rfl
theorem abH (b off cap k:Nat) (n:Nat) (hk:k<=n) (hn:n<=cap):∀ w,(Instr.slice 26 (.slice (some ⟨b,off,none⟩) n cap) none (some (.int .i64 (k:Int))) none).run Try.prog w=.ok (.slice (some ⟨b,off,none⟩) k cap) w:=by
 intro w;have he:Try.prog.elem 26=23:=by kernel_rfl
 rw [run_slice_h w _ _ _ _ (by rw [he];exact Try.underlying26) _ _ (by omega) (by omega),he,IQ]
 simp [sliced,Addr.add]
theorem XN (b off cap k:Nat) (n:Nat) (hk:k<cap) (hk2:k<=n) (hn:n<=cap):∀ w,(Instr.slice 26 (.slice (some ⟨b,off,none⟩) n cap) (some (.int .i64 (k:Int))) none none).run Try.prog w=.ok (.slice (some ⟨b,off+k*2,none⟩) (n-k) (cap-k)) w:=by
 intro w;have he:Try.prog.elem 26=23:=by kernel_rfl
 have e:cap≠k:=by omega
 rw [run_slice_l w _ _ _ _ (by rw [he];exact Try.underlying26) _ _ (by omega) (by omega),he,IQ]
 simp [sliced,e,Addr.add]
structure CpO (B:Nat) (w wr:World) (g cap:Nat) (L:Cs) (k:Nat):Prop where
 below:Below B w wr
 blk:kC wr g 23 cap L
 pos:1<=k
 le:k<=L.length
 same:ddA L k=L.take k
structure CpI (B:Nat) (w wr:World) (g cap:Nat) (L M:Cs) (k m:Nat):Prop where
 below:Below B w wr
 blk:kC wr g 23 cap M
 len:M.length=L.length
 pos:1<=k
 lt:k<m
 le:m<=L.length
 kept:M.take k=ddA L m
 high:∀ j,m-1<=j->M[j]? = L[j]?
theorem wT (L:Cs) (k:Nat) (h0:0<k) (h:k<L.length) (hne:L[k]'h≠L[k-1]'(by omega)):ddA L (k+1)=ddA L k++[L[k]'h]:=by
 have e1:L.getD k []=L[k]'h:=by rw [List.getD_eq_getElem?_getD,List.getElem?_eq_getElem h];rfl
 have e2:L.getD (k-1) []=L[k-1]'(by omega):=by rw [List.getD_eq_getElem?_getD,List.getElem?_eq_getElem (by omega)];rfl
 show (if k=0∨L.getD k []≠L.getD (k-1) [] then ddA L k++[L.getD k []] else ddA L k)=_
 rw [e1,e2,if_pos (.inr hne)]
theorem xJ (L:Cs) (k:Nat) (h0:0<k) (h:k<L.length) (he:L[k]'h=L[k-1]'(by omega)):ddA L (k+1)=ddA L k:=by
 have e1:L.getD k []=L[k]'h:=by rw [List.getD_eq_getElem?_getD,List.getElem?_eq_getElem h];rfl
 have e2:L.getD (k-1) []=L[k-1]'(by omega):=by rw [List.getD_eq_getElem?_getD,List.getElem?_eq_getElem (by omega)];rfl
 show (if k=0∨L.getD k []≠L.getD (k-1) [] then ddA L k++[L.getD k []] else ddA L k)=_
 rw [e1,e2,if_neg (by rintro (h|h);omega;exact h he)]
theorem PE {B:Nat} {w wr:World} {g cap:Nat} {L:Cs} {k:Nat} (h:CpO B w wr g cap L k) (hl:k<L.length) (hne:L[k]'hl≠L[k-1]'(by omega)):CpO B w wr g cap L (k+1) :=
 ⟨h.below,h.blk,by omega,hl,by rw [wT L k h.pos hl hne,h.same,List.take_succ_eq_append_getElem hl]⟩
theorem MC {B:Nat} {w wr:World} {g cap:Nat} {L:Cs} {k:Nat} (h:CpO B w wr g cap L k) (hl:k<L.length) (he:L[k]'hl=L[k-1]'(by omega)):CpI B w wr g cap L L k (k+1) :=
 ⟨h.below,h.blk,rfl,h.pos,by omega,hl,by rw [xJ L k h.pos hl he,h.same],fun _ _=>rfl⟩
theorem OM {B:Nat} {w wr:World} {g cap:Nat} {L M:Cs} {k m:Nat} (h:CpI B w wr g cap L M k m) (hl:m<L.length) (he:L[m]'hl=L[m-1]'(by omega)):CpI B w wr g cap L M k (m+1) :=
 ⟨h.below,h.blk,h.len,h.pos,by have:=h.lt;omega,hl,by rw [xJ L m (by have:=h.lt;omega) hl he,h.kept],fun j hj=>h.high j (by omega)⟩
theorem Pn {B:Nat} {w wr:World} {g cap:Nat} {L M:Cs} {k m:Nat} (hB:B<=g) (h:CpI B w wr g cap L M k m) (hl:m<L.length) {x y:Int} (hx:L[m]'hl=[x,y]) (hne:L[m]'hl≠L[m-1]'(by omega)) :
 CpI B w ((wr.setCell ⟨g,k*2,none⟩ (.int .i64 x)).setCell ⟨g,k*2+1,none⟩ (.int .i64 y)) g cap L (M.set k [x,y]) (k+1) (m+1):=by
 have hk:k<M.length:=by have:=h.lt;rw [h.len];omega
 refine ⟨(h.below.setCell (p:=⟨g,k*2,none⟩) hB _).setCell (p:=⟨g,k*2+1,none⟩) hB _,h.blk.set k hk x y,by rw [List.length_set];exact h.len,by omega,by have:=h.lt;omega,hl,?_,fun j hj=>?_⟩
 . rw [wT L m (by have:=h.lt;omega) hl hne,<-h.kept,hx,List.take_succ_eq_append_getElem (by rw [List.length_set];exact hk),List.take_set_of_le (Nat.le_refl k),List.getElem_set_self]
 . have:k≠j:=by have:=h.lt;omega
   rw [List.getElem?_set_ne this];exact h.high j (by omega)
theorem Jq {B:Nat} {w wr:World} {g cap:Nat} {L M:Cs} {k m:Nat} (h:CpI B w wr g cap L M k m) (j:Nat) (hj:m-1<=j) (hl:j<L.length):∃ x y,L[j]'hl=[x,y]/\wr.cell? ⟨g,j*2,none⟩=some (.int .i64 x)/\wr.cell? ⟨g,j*2+1,none⟩=some (.int .i64 y):=by
 obtain ⟨x,y,e,c0,c1⟩:=h.blk.row.1.at2 j (by rw [h.len];exact hl)
 have:=h.high j hj;rw [List.getElem?_eq_getElem hl,List.getElem?_eq_getElem (by rw [h.len];exact hl)] at this
 injection this with this
 rw [Nat.zero_add] at c0 c1;exact ⟨x,y,by rw [<-this,e],c0,c1⟩
theorem WA {B:Nat} {w wr:World} {g cap:Nat} {L M:Cs} {k m:Nat} (h:CpI B w wr g cap L M k m):(∃ x y,wr.cell? ⟨g,k*2,none⟩=some (.int .i64 x)/\wr.cell? ⟨g,k*2+1,none⟩=some (.int .i64 y))/\wr.frozen? ⟨g,k*2,none⟩=false/\wr.frozen? ⟨g,k*2+1,none⟩=false:=by
 have hk:k<M.length:=by have:=h.lt;have:=h.le;rw [h.len];omega
 obtain ⟨x,y,e,c0,c1⟩:=h.blk.row.1.at2 k hk;rw [Nat.zero_add] at c0 c1;exact ⟨⟨x,y,c0,c1⟩,h.blk.row.2 _,h.blk.row.2 _⟩
theorem kC.drewN {T:TypeId} {w:World} {g cap:Nat} {M:Cs} (h:kC w g T cap M) (n:Nat):kC (w.drewN n) g T cap M:=h
theorem CpI.drewN {B:Nat} {w wr:World} {g cap:Nat} {L M:Cs} {k m:Nat} (h:CpI B w wr g cap L M k m) (n:Nat):CpI B w (wr.drewN n) g cap L M k m:=⟨below_drewN h.below n,h.blk.drewN n,h.len,h.pos,h.lt,h.le,h.kept,h.high⟩
theorem CpO.drewN {B:Nat} {w wr:World} {g cap:Nat} {L:Cs} {k:Nat} (h:CpO B w wr g cap L k) (n:Nat):CpO B w (wr.drewN n) g cap L k:=⟨below_drewN h.below n,h.blk.drewN n,h.pos,h.le,h.same⟩
theorem Qo {B:Nat} {w wr:World} {g cap:Nat} {L M:Cs} {k:Nat} (hB:B<=g) (h:CpI B w wr g cap L M k L.length) :
 (∀ ty c,(Builtin.clear_ #[ 26] ty #[.slice (some ⟨g,k*2,none⟩) (L.length-k) c]).run Try.prog wr=.ok (.tuple #[]) (wr.setCells g (k*2) (List.replicate ((L.length-k)*2) (.int .i64 0)))) /\
 bJ 2 23 B (wr.setCells g (k*2) (List.replicate ((L.length-k)*2) (.int .i64 0))) (.slice (some ⟨g,0,none⟩) k cap) (dd L)/\Below B w (wr.setCells g (k*2) (List.replicate ((L.length-k)*2) (.int .i64 0))):=by
 have hlt:=h.lt;have hlen:=h.len;refine ⟨fun ty c=>yO wr ty g (k*2) (L.length-k) c (fun j hj=>?_) (fun j _=>h.blk.row.2 _),?_,mQ hB _ _ _ h.below⟩
 . have hi:k+j/2<M.length:=by omega
   obtain ⟨x,y,e,c0,c1⟩:=h.blk.row.1.at2 (k+j/2) hi;rw [Nat.zero_add] at c0 c1;have:j%2=0∨j%2=1:=by omega
   rcases this with q|q
   . rw [show k*2+j=(k+j/2)*2 by omega,c0];rfl
   . rw [show k*2+j=(k+j/2)*2+1 by omega,c1];rfl
 . obtain ⟨h1,h2,h3,cur,h4,h5,h6⟩:=h.blk;obtain ⟨cur',a,b,c⟩:=nX g 23 (List.replicate ((L.length-k)*2) (.int .i64 0)) (k*2) wr cur h4;have hk:=h.kept;have e:(M.take k).length=k:=by rw [List.length_take];omega
   have B2:kC (wr.setCells g (k*2) (List.replicate ((L.length-k)*2) (.int .i64 0))) g 23 cap (M.take k):=by
    refine ⟨fun x hx=>h1 x (List.mem_of_mem_take hx),by omega,h3,cur',a,by omega,?_⟩
    rw [e,c (k*2) (Nat.le_refl _),uE M h1,<-h6,List.take_take]
    congr 1
    omega
   have:=B2.own hB k (by omega)
   rw [List.take_of_length_le (by omega),hk] at this
   exact this
theorem kv (B:Nat) (v:Value) (L:Cs) (w:World) (h:bJ 2 23 B w v L) (hn:L.length<=1000) :
 Calls Try.prog 26 #[v] w fun e w'=>(∃ u,e=.returned u/\bJ 2 23 B w' u (dd L))/\Below B w w':=by
 by_cases h2:L.length<2
 . have H:=Lib.hid h;obtain ⟨a,cap,rfl,_⟩:=h.out (by decide)
   have hd:dd L=L:=by
    match L,h2 with
    | [],_=>rfl
    | [x],_=>rfl
   have HD:=Lib.hid hd;clear hd h;have h2':(L.length:Int)<2:=by omega
   go_enter Try.func26,Try.ntmps26;go_wp2;go_ret;exact ⟨⟨_,rfl,by rw [HD.out];exact H.out⟩,Below.refl _ _⟩
 . obtain ⟨a,cap,rfl,hlc,hcm,_,hg⟩:=h.out (by decide)
   obtain ⟨g,rfl,hB,_,_⟩:=hg (by intro e;rw [e] at h2;simp at h2)
   have O0:Hid (CpO B w w g cap L 1):=by
    refine ⟨Below.refl _ _,h.blk.2,Nat.le_refl _,by omega,?_⟩
    match L,h2 with
    | x::l,_=>rfl
   clear h hg;have h2':¬ (L.length:Int)<2:=by omega
   go_enter Try.func26,Try.ntmps26;go_wp2;go_loopw [3] (fun v3 wr=>∃ k:Nat,v3=.int .i64 (k:Int)/\CpO B w wr g cap L k) (fun v3 _=>((L.length:Int)-intOf v3).toNat)
   case atStart=>exact ⟨1,rfl,O0.out⟩
   case round =>
    obtain ⟨k,rfl,hO⟩:=hrel;have O:=Lib.hid hO;clear O0;have k0:=hO.pos;have k1:=hO.le
    by_cases hl:k<L.length
    . obtain ⟨x,y,ex,c0,c1⟩:=hO.blk.row.1.at2 k hl;obtain ⟨z,t,ez,d0,d1⟩:=hO.blk.row.1.at2 (k-1) (by omega)
      rw [Nat.zero_add] at c0 c1 d0 d1;have hl':(k:Int)<(L.length:Int):=by omega
      have E:=fun w=>(Jz [x,y] [z,t] rfl rfl w).1
      clear hO
      by_cases he:[x,y]=[z,t]
      . have E2:∀ w,(binOp .eql 23 (.agg #[.int .i64 x,.int .i64 y]) (.agg #[.int .i64 z,.int .i64 t])).run Try.prog w=.ok (.bool true) w:=fun w=>by
         have:=E w;rw [decide_eq_true he] at this;exact this
        have I0:=Lib.hid (fun n=>(MC O.out hl (by rw [ex,ez];exact he)).drewN n)
        have SL:=XN g 0 cap k L.length (by omega) (by omega) hlc
        rw [Nat.zero_add] at SL;clear E he O ex ez;go_wp2_with fail;go_quiet (fail);go_wp2;clear c0 c1 d0 d1 E2 SL;go_loopw [3,5] (fun v3 v5 wr=>∃ (kk k2:Nat) (M:Cs),v3=.int .i64 (kk:Int)/\v5=.int .i64 (k2:Int)/\1<=k2/\CpI B w wr g cap L M kk (k+k2)) (fun _ v5 _=>((L.length:Int)-intOf v5).toNat)
        case atStart=>exact ⟨k,1,L,rfl,rfl,Nat.le_refl _,I0.out _⟩
        case round =>
         obtain ⟨kk,k2,M,rfl,rfl,hk2,hI⟩:=hrel;have I:=Lib.hid hI;clear I0;have j1:=hI.lt;have j2:=hI.le
         by_cases hl2:k+k2<L.length
         . obtain ⟨x,y,ex,c0,c1⟩:=Jq hI (k+k2) (by omega) hl2
           obtain ⟨z,t,ez,d0,d1⟩:=Jq hI (k+k2-1) (by omega) (by omega)
           obtain ⟨⟨o1,o2,p0,p1⟩,f0,f1⟩:=WA hI;rw [show (k+k2)*2=k*2+k2*2 by omega] at c0 c1
           rw [show (k+k2-1)*2=k*2+(k2-1)*2 by omega] at d0 d1
           have hl':(k2:Int)<((L.length-k:Nat):Int):=by omega
           have E:=fun w=>(Jz [x,y] [z,t] rfl rfl w).2
           clear hI
           by_cases he:[x,y]=[z,t]
           . have E2:∀ w,(binOp .neq 23 (.agg #[.int .i64 x,.int .i64 y]) (.agg #[.int .i64 z,.int .i64 t])).run Try.prog w=.ok (.bool false) w:=fun w=>by
              have:=E w;rw [decide_eq_true he] at this;exact this
             have I2:=Lib.hid (fun n=>(OM I.out (by omega) (by rw [ex,ez];exact he)).drewN n)
             clear E he I ex ez p0 p1 f0 f1;go_wp2_with fail;go_quiet (fail);go_wp2;go_light;exact ⟨⟨kk,k2+1,M,rfl,by rw [show ((k2+1:Nat):Int)=(k2:Int)+1 by omega],by omega,I2.out _⟩,by simp only [intOf];omega⟩
           . have E2:∀ w,(binOp .neq 23 (.agg #[.int .i64 x,.int .i64 y]) (.agg #[.int .i64 z,.int .i64 t])).run Try.prog w=.ok (.bool true) w:=fun w=>by
              have:=E w;rw [decide_eq_false he] at this;exact this
             have I2:=Lib.hid (fun n=>Pn hB (I.out.drewN n) (by omega) ex (by rw [ex,ez];exact he))
             clear E he I ex ez;go_wp2_with fail;go_quiet (fail);go_wp2;go_light;exact ⟨⟨kk+1,k2+1,_,by rw [show ((kk+1:Nat):Int)=(kk:Int)+1 by omega],by rw [show ((k2+1:Nat):Int)=(k2:Int)+1 by omega],by omega,I2.out _⟩,by simp only [intOf];omega⟩
         . have e:k+k2=L.length:=by omega
           rw [e] at hI;obtain ⟨hcl,hown,hbl⟩:=Qo hB hI;have HO:=Lib.hid hown;have HB:=Lib.hid hbl;have SL:=XN g 0 cap kk L.length (by omega) (by omega) hlc
           rw [Nat.zero_add] at SL;have SH:=abH g 0 cap kk L.length (by omega) hlc
           have hl':¬ (k2:Int)<((L.length-k:Nat):Int):=by omega
           clear hI I hown hbl;go_wp2;go_ret;exact ⟨⟨_,rfl,HO.out⟩,HB.out⟩
      . have E2:∀ w,(binOp .eql 23 (.agg #[.int .i64 x,.int .i64 y]) (.agg #[.int .i64 z,.int .i64 t])).run Try.prog w=.ok (.bool false) w:=fun w=>by
         have:=E w;rw [decide_eq_false he] at this;exact this
        have O2:=Lib.hid (fun n=>(PE O.out hl (by rw [ex,ez];exact he)).drewN n)
        clear E he O ex ez;go_wp2_with fail;go_quiet (fail);go_wp2;go_light;exact ⟨⟨k+1,by rw [show ((k+1:Nat):Int)=(k:Int)+1 by omega],O2.out _⟩,by simp only [intOf];omega⟩
    . have e:k=L.length:=by omega
      subst e;have HO:Hid (bJ 2 23 B wr (.slice (some ⟨g,0,none⟩) L.length cap) (dd L)):=by
       have a:=hO.blk.own hB L.length (Nat.le_refl _);have b:=hO.same;rw [List.take_length] at a b;unfold dd;rw [b];exact a
      have HB:=Lib.hid hO.below;have hl':¬ (L.length:Int)<(L.length:Int):=by omega
      clear hO O;go_wp2;go_ret;exact ⟨⟨_,rfl,HO.out⟩,HB.out⟩
