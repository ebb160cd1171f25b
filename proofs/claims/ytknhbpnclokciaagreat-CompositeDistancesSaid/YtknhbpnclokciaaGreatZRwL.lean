/- Plain numbers: legs one behind the other, their sum. -/
import Derived.Test.YtknhbpnclokciaaGreatZComN
import Derived.Test.YtknhbpnclokciaaGreatZComR
import Derived.Test.YtknhbpnclokciaaGreatZRw
import Derived.Deep.QuietTactic
import Derived.BigQuiet
import Derived.Deep.Light
import Derived.Test.YtknhbpnclokciaaGreatZComJ
import Derived.Test.YtknhbpnclokciaaGreatZComG
set_option linter.unusedVariables false
set_option linter.unusedSimpArgs false
set_option maxRecDepth 100000
set_option maxHeartbeats 8000000
namespace Go.Proofs.YtknhbpnclokciaaGreat
open Go.RowKit Alm Sx
def lgI (l:Int) (L:Cs) (i:Nat):List Int:=fe ((L.getD (i-1) []).getD 0 0) ((L.getD (i-1) []).getD 1 0) ((L.getD i []).getD 0 0) ((L.getD i []).getD 1 0) l
def lgA (l:Int) (L:Cs):Nat->Cs
 | 0=>[]
 | i+1=>if i=0 then [] else lgA l L i++[lgI l L i]
theorem Db (l:Int) (L:Cs) (i:Nat) (h:1<=i):lgA l L (i+1)=lgA l L i++[lgI l L i]:=by
 show (if i=0 then [] else lgA l L i++[lgI l L i])=_
 rw [if_neg (by omega)]
theorem wH (l:Int) (L:Cs):∀ i,∀ x∈lgA l L i,x.length=4
 | 0,x,h=>by cases h
 | i+1,x,h=>by
  unfold lgA at h;split at h
  . cases h
  . rcases List.mem_append.1 h with h|h
    . exact wH l L i x h
    . rw [List.mem_singleton] at h;rw [h];exact rR _ _ _ _ _
theorem kN (l:Int) (L:Cs):∀ i,(lgA l L i).length=i-1
 | 0=>rfl
 | i+1=>by
  have:=kN l L i;unfold lgA;split
  . subst_vars;rfl
  . rw [List.length_append,List.length_singleton];omega
def gM (l:Int) (L:Cs):Int:=if bS l L≠0 then bS l L else if L.length>60 then 4 else 0
def gL (l:Int) (L:Cs):Cs:=if gM l L≠0 then [] else lgA l L L.length
theorem acz {p q n m:Int} (hp:-1073741824<=p/\p<=q/\q<=1073741824) (hn:0<=n/\n<=m):-m<=sD p q n/\sD p q n<=rZ p q n/\rZ p q n<=m:=by
 have u:∀ x:Int,-1073741824<=x/\x<=1073741824->-m<=qFl x n 1073741824/\qFl x n 1073741824<=qCe x n 1073741824/\qCe x n 1073741824<=m:=by
  intro x hx;have h1:=Int.mul_le_mul_of_nonneg_right hx.1 hn.1;have h2:=Int.mul_le_mul_of_nonneg_right hx.2 hn.1;unfold qFl qCe;omega
 have h1:=u p ⟨hp.1,by omega⟩
 have h2:=u q ⟨by omega,hp.2.2⟩
 unfold sD rZ;omega
theorem aa4 (a b c d l:Int) (h1:PtV a b) (h2:PtV c d):-10800000<=(fe a b c d l).getD 2 0/\(fe a b c d l).getD 2 0<=(fe a b c d l).getD 3 0/\(fe a b c d l).getD 3 0<=10800000:=by
 have s:=jb (d-b);unfold fe;split
 . exact acz (U_C a a) ⟨by omega,by omega⟩
 . have:=aag a b c d h1 h2;refine ⟨?_,this.2.1,this.2.2⟩;show -10800000<=(jH a b c d).getD 0 0;omega
theorem ny {L:Cs} (h:L.all dJ=true) (i:Nat) (hi:i<L.length):PtV ((L.getD i []).getD 0 0) ((L.getD i []).getD 1 0):=by
 have e:L.getD i []=L[i]:=by rw [List.getD_eq_getElem?_getD,List.getElem?_eq_getElem hi];rfl
 have:=List.all_eq_true.1 h _ (List.getElem_mem hi);rw [e];unfold dJ at this;exact of_decide_eq_true this
theorem Pq {l:Int} {L:Cs} (h:L.all dJ=true):∀ i,i<=L.length->∀ x∈lgA l L i,-10800000<=x.getD 2 0/\x.getD 2 0<=x.getD 3 0/\x.getD 3 0<=10800000
 | 0,_,x,hx=>by cases hx
 | i+1,hi,x,hx=>by
  unfold lgA at hx;split at hx
  . cases hx
  . rcases List.mem_append.1 hx with hx|hx
    . exact Pq h i (by omega) x hx
    . rw [List.mem_singleton] at hx;rw [hx];exact aa4 _ _ _ _ l (ny h (i-1) (by omega)) (ny h i (by omega))
def smA (k:Nat) (M:Cs):Nat->Int
 | 0=>0
 | i+1=>smA k M i+(M.getD i []).getD k 0
theorem Cq {M:Cs} (h:∀ x∈M,-10800000<=x.getD 2 0/\x.getD 2 0<=x.getD 3 0/\x.getD 3 0<=10800000):∀ i:Nat,i<=M.length->-10800000*(i:Int)<=smA 2 M i/\smA 2 M i<=smA 3 M i/\smA 3 M i<=10800000*(i:Int)
 | 0,_=>by simp [smA]
 | i+1,hi=>by
  have a:=Cq h i (by omega)
  have e:M.getD i []=M[i]:=by rw [List.getD_eq_getElem?_getD,List.getElem?_eq_getElem (by omega)];rfl
  have b:=h _ (List.getElem_mem (show i<M.length by omega))
  rw [<-e] at b;unfold smA;omega
def dtE (a b c d l:Int):Int:=bS l [[a,b],[c,d]]
def dtR (k:Nat) (a b c d l:Int):Int:=if dtE a b c d l≠0 then 0 else smA k (lgA l (aF a b c d l) (aF a b c d l).length) (lgA l (aF a b c d l) (aF a b c d l).length).length
theorem oh {a b c d l:Int} (h:bS l [[a,b],[c,d]]=0):gM l (aF a b c d l)=0/\gL l (aF a b c d l)=lgA l (aF a b c d l) (aF a b c d l).length:=by
 have e:gM l (aF a b c d l)=0:=by
  unfold gM;have:=ky a b c d l;rw [uR h,if_neg (by simp),if_neg (by omega)]
 refine ⟨e,?_⟩;unfold gL;rw [e,if_neg (by simp)]
theorem oN {a b c d l:Int} (h:bS l [[a,b],[c,d]]=0):∀ x∈lgA l (aF a b c d l) (aF a b c d l).length,-10800000<=x.getD 2 0/\x.getD 2 0<=x.getD 3 0/\x.getD 3 0<=10800000 :=
 Pq (kS (uR h)).1 _ (Nat.le_refl _)
end Go.Proofs.YtknhbpnclokciaaGreat
namespace Go.Proofs.YtknhbpnclokciaaGreat
open Go.RowKit Sx
theorem Tg:DR Tryz.prog 33 42 4 32:=Ef Tryz.underlying33 (by kernel_rfl) (by decide) (by decide)
theorem Y4 (a b:List Int) (ha:a.length=4) (hb:b.length=4) (w:World):(binOp .eql 42 (.agg ⟨a.map (Value.int .i64)⟩) (.agg ⟨b.map (Value.int .i64)⟩)).run Tryz.prog w=.ok (.bool (decide (a=b))) w/\(binOp .neq 42 (.agg ⟨a.map (Value.int .i64)⟩) (.agg ⟨b.map (Value.int .i64)⟩)).run Tryz.prog w=.ok (.bool (!decide (a=b))) w :=
 xH (by kernel_rfl) (by kernel_rfl) a b ha hb w
theorem Qs (a b:Option Addr) (c1 c2:Nat) (L M:Cs) (w:World) (hL:SlI 4 w a L) (hM:SlI 4 w b M) (hn:L.length<=1000) (hm:M.length<=1000) :
 Calls Tryz.prog 20 #[.slice a L.length c1,.slice b M.length c2] w fun e w'=>e=.returned (.bool (decide (L=M)))/\Below w.heap.size w w':=by
 have HL:=Lib.hid hL;have HM:=Lib.hid hM;clear hL hM
 by_cases hlen:L.length=M.length
 . rw [<-hlen];go_enter Tryz.func20,Tryz.ntmps20;go_wp2;go_loopw [13] (fun v wr=>∃ i:Nat,v=.int .i64 (i:Int)/\i<=L.length/\(∀ j,j<i->L[j]? = M[j]?)/\Below w.heap.size w wr) (fun v _=>((L.length:Int)-intOf v).toNat)
   case atStart =>
    exact ⟨0,rfl,by omega,fun j hj=>by omega,Below.refl _ _⟩
   case round =>
    obtain ⟨i,rfl,hi,hs,hb⟩:=hrel;have HB:=Lib.hid hb;clear hb
    by_cases hl:i<L.length
    . rcases HL.out.below HB.out with h0|⟨p,off,rfl,hR⟩
      . rw [h0] at hl;simp at hl
      . rcases HM.out.below HB.out with h0|⟨q,off2,rfl,hR2⟩
        . have hl3:=hl;rw [hlen,h0] at hl3;simp at hl3
        . obtain ⟨x,y,z,t,hx,c0,c1,c2,c3⟩:=hR.at4 i hl;obtain ⟨u,v,p,q,hu,d0,d1,d2,d3⟩:=hR2.at4 i (by omega)
          have hl':(i:Int)<(L.length:Int):=by omega
          have him:i<M.length:=by omega
          have FIN:Hid (L[i]=M[i]->∀ j,j<i+1->L[j]? = M[j]?):=by
           intro h j hji
           by_cases e:j<i
           . exact hs j e
           . obtain rfl:j=i:=by omega
             rw [List.getElem?_eq_getElem hl,List.getElem?_eq_getElem him,h]
          have FIN2:Hid (L[i]≠M[i]->decide (L=M)=false):=by
           intro h;refine decide_eq_false fun e=>h ?_
           subst e;rfl
          clear hs;rw [hx,hu] at FIN FIN2;clear hR hR2 HL HM;have E:=fun w=>(Y4 [x,y,z,t] [u,v,p,q] rfl rfl w).2
          by_cases he:[x,y,z,t]=[u,v,p,q]
          . have E2:∀ w,(binOp .neq 42 (.agg #[.int .i64 x,.int .i64 y,.int .i64 z,.int .i64 t]) (.agg #[.int .i64 u,.int .i64 v,.int .i64 p,.int .i64 q])).run Tryz.prog w=.ok (.bool false) w:=fun w=>by
             have:=E w;rw [decide_eq_true he] at this;exact this
            clear E;go_wp2_with fail;go_quiet (fail);go_wp2;go_light;exact ⟨⟨i+1,by rw [show ((i+1:Nat):Int)=(i:Int)+1 by omega],by omega,FIN.out he,below_drewN HB.out _⟩,by simp only [intOf];omega⟩
          . have E2:∀ w,(binOp .neq 42 (.agg #[.int .i64 x,.int .i64 y,.int .i64 z,.int .i64 t]) (.agg #[.int .i64 u,.int .i64 v,.int .i64 p,.int .i64 q])).run Tryz.prog w=.ok (.bool true) w:=fun w=>by
             have:=E w;rw [decide_eq_false he] at this;exact this
            clear E;have R:=Lib.hid (FIN2.out he);clear he;go_wp2_with fail;go_quiet (fail);go_wp2;go_ret;exact ⟨by rw [R.out];first|done|rfl,below_drewN HB.out _⟩
    . have hl':¬ (i:Int)<(L.length:Int):=by omega
      have R:Hid (decide (L=M)=true):=decide_eq_true (List.ext_getElem? fun j=>by
       by_cases h:j<i
       . exact hs j h
       . rw [List.getElem?_eq_none (by omega),List.getElem?_eq_none (by omega)])
      clear hs;go_wp2;go_ret;exact ⟨by rw [R.out];first|done|rfl,HB.out⟩
 . have R:Hid (decide (L=M)=false):=decide_eq_false fun e=>hlen (by rw [e])
   have hlen':¬ (L.length:Int)=(M.length:Int):=by omega
   go_enter Tryz.func20,Tryz.ntmps20;go_wp2;go_ret;exact ⟨by rw [R.out];first|done|rfl,by go_grown⟩
end Go.Proofs.YtknhbpnclokciaaGreat
namespace Go.Proofs.YtknhbpnclokciaaGreat
open Go.RowKit Alm Sx
theorem Ka {w wr:World} {g:Nat} {t:TypeId} {c0 c1 c2 c3:Value} (h:KS w wr [(g,t,#[c0,c1,c2,c3])]) (hn:w.heap.size<=g) (u0 u1 u2 u3:Value) :
 KS w ((((wr.setCell ⟨g,0,none⟩ u0).setCell ⟨g,1,none⟩ u1).setCell ⟨g,2,none⟩ u2).setCell ⟨g,3,none⟩ u3) [(g,t,#[u0,u1,u2,u3])]:=by
 have hd:∀ p∈([]:List (Nat × TypeId × Array Value)),p.1≠g:=fun p hp=>by cases hp
 exact (((h.set hn hd 0 u0).set hn hd 1 u1).set hn hd 2 u2).set hn hd 3 u3
theorem Dq {w wr w2 wx:World} {o:Obj} (h:Below w.heap.size w wr) (k:Below wr.heap.size wr w2) (hb:Below w.heap.size (w2.alloc o) wx):Below w.heap.size w wx :=
 ((h.trans (k.mono h.size)).alloc (h.trans (k.mono h.size)).size _).trans hb
def j5:List Nd:=[
 .arg 0,
 .arg 1,
 .arg 2,
 .arg 3,
 .bin .leq .i64 (.n 0) (.n 1),
 .bin .geq .i64 (.n 0) (.c (-1099511627776)),
 .bin .leq .i64 (.n 0) (.c 1099511627776),
 .ite (.n 5) (.n 6) (.c 0),
 .ite (.n 4) (.n 7) (.c 0),
 .bin .geq .i64 (.n 1) (.c (-1099511627776)),
 .bin .leq .i64 (.n 1) (.c 1099511627776),
 .ite (.n 9) (.n 10) (.c 0),
 .ite (.n 8) (.n 11) (.c 0),
 .ite (.n 12) (.c 0) (.c 1),
 .bin .leq .i64 (.n 2) (.n 3),
 .bin .geq .i64 (.n 2) (.c (-1099511627776)),
 .bin .leq .i64 (.n 2) (.c 1099511627776),
 .ite (.n 15) (.n 16) (.c 0),
 .ite (.n 14) (.n 17) (.c 0),
 .bin .geq .i64 (.n 3) (.c (-1099511627776)),
 .bin .leq .i64 (.n 3) (.c 1099511627776),
 .ite (.n 19) (.n 20) (.c 0),
 .ite (.n 18) (.n 21) (.c 0),
 .ite (.n 22) (.c 0) (.c 1),
 .ite (.n 13) (.c 1) (.n 23),
 .ite (.n 24) (.c 0) (.c 1),
 .bin .add .i64 (.n 0) (.n 2),
 .bin .add .i64 (.n 1) (.n 3),
 .bin .geq .i64 (.n 26) (.c (-1099511627776)),
 .bin .leq .i64 (.n 26) (.c 1099511627776),
 .ite (.n 28) (.n 29) (.c 0),
 .ite (.n 30) (.c 0) (.c 1),
 .bin .geq .i64 (.n 27) (.c (-1099511627776)),
 .bin .leq .i64 (.n 27) (.c 1099511627776),
 .ite (.n 32) (.n 33) (.c 0),
 .ite (.n 34) (.c 0) (.c 1),
 .ite (.n 31) (.c 1) (.n 35),
 .ite (.n 36) (.c 0) (.c 1),
 .ite (.n 36) (.c 5) (.c 0),
 .ite (.n 36) (.c 0) (.n 26),
 .ite (.n 36) (.c 0) (.n 27),
 .ite (.n 24) (.c 1) (.n 38),
 .ite (.n 24) (.c 0) (.n 39),
 .ite (.n 24) (.c 0) (.n 40)]
def MI:List Vc:=[
 ]
theorem NV:whole Tryz.prog spW 20 40 23 [(true,[some .i64,some .i64]),(true,[some .i64,some .i64])]=some (.tup [.agg [.int .i64 (.n 42),.int .i64 (.n 43)],.c (.int .i64 (.n 41))],⟨j5.reverse,MI.reverse⟩):=by kernel_rfl
theorem Oc:wfN j5.reverse=true:=by kernel_rfl
theorem FJ (a b c d:Int) (w:World) (h1:-1000000000<=a/\a<=b/\b<=1000000000) (h2:-1000000000<=c/\c<=d/\d<=1000000000):Calls Tryz.prog 23 #[.agg #[.int .i64 a,.int .i64 b],.agg #[.int .i64 c,.int .i64 d]] w fun e w'=>e=.returned (.tuple #[.agg #[.int .i64 (a+c),.int .i64 (b+d)],.int .i64 0])/\Below w.heap.size w w':=by
 refine Sx.calls (X:=cxW [a,b,c,d]) dB (fw _) NV Oc (fun v hs=>?_) w
 have e0:v 0=a:=ae hs 0 rfl;have e1:v 1=b:=ae hs 1 rfl;have e2:v 2=c:=ae hs 2 rfl;have e3:v 3=d:=ae hs 3 rfl;have e26:v 26=IntKind.i64.wrap (v 0+v 2):=ae hs 26 rfl;have e27:v 27=IntKind.i64.wrap (v 1+v 3):=ae hs 27 rfl;have r26:v 26=a+c:=by rw [e26,e0,e2,Go.IntWalk.i64_in _ (by omega)]
 have r27:v 27=b+d:=by rw [e27,e1,e3,Go.IntWalk.i64_in _ (by omega)]
 have k5:v 5=1:=by have h:v 5=b2i (decide (v 0>=-1099511627776)):=ae hs 5 rfl;rw [h,decide_eq_true (by rw [e0];omega)];rfl
 have k6:v 6=1:=by have h:v 6=b2i (decide (v 0<=1099511627776)):=ae hs 6 rfl;rw [h,decide_eq_true (by rw [e0];omega)];rfl
 have k9:v 9=1:=by have h:v 9=b2i (decide (v 1>=-1099511627776)):=ae hs 9 rfl;rw [h,decide_eq_true (by rw [e1];omega)];rfl
 have k10:v 10=1:=by have h:v 10=b2i (decide (v 1<=1099511627776)):=ae hs 10 rfl;rw [h,decide_eq_true (by rw [e1];omega)];rfl
 have k15:v 15=1:=by have h:v 15=b2i (decide (v 2>=-1099511627776)):=ae hs 15 rfl;rw [h,decide_eq_true (by rw [e2];omega)];rfl
 have k16:v 16=1:=by have h:v 16=b2i (decide (v 2<=1099511627776)):=ae hs 16 rfl;rw [h,decide_eq_true (by rw [e2];omega)];rfl
 have k19:v 19=1:=by have h:v 19=b2i (decide (v 3>=-1099511627776)):=ae hs 19 rfl;rw [h,decide_eq_true (by rw [e3];omega)];rfl
 have k20:v 20=1:=by have h:v 20=b2i (decide (v 3<=1099511627776)):=ae hs 20 rfl;rw [h,decide_eq_true (by rw [e3];omega)];rfl
 have k28:v 28=1:=by have h:v 28=b2i (decide (v 26>=-1099511627776)):=ae hs 28 rfl;rw [h,decide_eq_true (by rw [r26];omega)];rfl
 have k29:v 29=1:=by have h:v 29=b2i (decide (v 26<=1099511627776)):=ae hs 29 rfl;rw [h,decide_eq_true (by rw [r26];omega)];rfl
 have k32:v 32=1:=by have h:v 32=b2i (decide (v 27>=-1099511627776)):=ae hs 32 rfl;rw [h,decide_eq_true (by rw [r27];omega)];rfl
 have k33:v 33=1:=by have h:v 33=b2i (decide (v 27<=1099511627776)):=ae hs 33 rfl;rw [h,decide_eq_true (by rw [r27];omega)];rfl
 have k4:v 4=1:=by have h:v 4=b2i (decide (v 0<=v 1)):=ae hs 4 rfl;rw [h,decide_eq_true (by rw [e0,e1];omega)];rfl
 have k14:v 14=1:=by have h:v 14=b2i (decide (v 2<=v 3)):=ae hs 14 rfl;rw [h,decide_eq_true (by rw [e2,e3];omega)];rfl
 have z41:v 41=0:=aI (X:=cxW [a,b,c,d]) (v:=v) (l:=j5) (aG _) hs (k:=41) (r:=.c 0) (ps:=[(4,.c 1),(5,.c 1),(6,.c 1),(9,.c 1),(10,.c 1),(14,.c 1),(15,.c 1),(16,.c 1),(19,.c 1),(20,.c 1),(28,.c 1),(29,.c 1),(32,.c 1),(33,.c 1)]) (nz:=[]) (af k4 (af k5 (af k6 (af k9 (af k10 (af k14 (af k15 (af k16 (af k19 (af k20 (af k28 (af k29 (af k32 (af k33 ay)))))))))))))) bf (by kernel_rfl)
 have z42:v 42=v 26:=aJ (X:=cxW [a,b,c,d]) (v:=v) (l:=j5) (aG _) hs (k:=42) (j:=26) (ps:=[(4,.c 1),(5,.c 1),(6,.c 1),(9,.c 1),(10,.c 1),(14,.c 1),(15,.c 1),(16,.c 1),(19,.c 1),(20,.c 1),(28,.c 1),(29,.c 1),(32,.c 1),(33,.c 1)]) (af k4 (af k5 (af k6 (af k9 (af k10 (af k14 (af k15 (af k16 (af k19 (af k20 (af k28 (af k29 (af k32 (af k33 ay)))))))))))))) (by kernel_rfl)
 have z43:v 43=v 27:=aJ (X:=cxW [a,b,c,d]) (v:=v) (l:=j5) (aG _) hs (k:=43) (j:=27) (ps:=[(4,.c 1),(5,.c 1),(6,.c 1),(9,.c 1),(10,.c 1),(14,.c 1),(15,.c 1),(16,.c 1),(19,.c 1),(20,.c 1),(28,.c 1),(29,.c 1),(32,.c 1),(33,.c 1)]) (af k4 (af k5 (af k6 (af k9 (af k10 (af k14 (af k15 (af k16 (af k19 (af k20 (af k28 (af k29 (af k32 (af k33 ay)))))))))))))) (by kernel_rfl)
 refine ⟨aU ?_,?_⟩
 . exact aT
 . intro x hx0;have hx':=aW (v:=v) (by rfl) hx0
   rw [hx'];show Value.tuple #[.agg #[.int .i64 (v 42),.int .i64 (v 43)],.int .i64 (v 41)]=_;rw [z42,z43,z41,r26,r27]
def zW:List Nd:=[
 .arg 0,
 .arg 1,
 .arg 2,
 .arg 3,
 .bin .add .i64 (.n 0) (.n 2),
 .bin .add .i64 (.n 1) (.n 3)]
def Ls:List Vc:=[
 ]
theorem NJ:whole Tryz.prog spW 20 40 71 [(true,[some .i64,some .i64]),(true,[some .i64,some .i64])]=some (.p (.agg [.int .i64 (.n 4),.int .i64 (.n 5)]),⟨zW.reverse,Ls.reverse⟩):=by kernel_rfl
theorem Lm:wfN zW.reverse=true:=by kernel_rfl
theorem Qa (a b c d:Int) (w:World) (h1:-1000000000<=a/\a<=b/\b<=1000000000) (h2:-1000000000<=c/\c<=d/\d<=1000000000):Calls Tryz.prog 71 #[.agg #[.int .i64 a,.int .i64 b],.agg #[.int .i64 c,.int .i64 d]] w fun e w'=>e=.returned (.agg #[.int .i64 (a+c),.int .i64 (b+d)])/\Below w.heap.size w w':=by
 refine Sx.calls (X:=cxW [a,b,c,d]) dB (fw _) NJ Lm (fun v hs=>?_) w
 have e0:v 0=a:=ae hs 0 rfl;have e1:v 1=b:=ae hs 1 rfl;have e2:v 2=c:=ae hs 2 rfl;have e3:v 3=d:=ae hs 3 rfl;have e4:v 4=IntKind.i64.wrap (v 0+v 2):=ae hs 4 rfl;have e5:v 5=IntKind.i64.wrap (v 1+v 3):=ae hs 5 rfl;rw [e0,e2,Go.IntWalk.i64_in _ (by omega)] at e4
 rw [e1,e3,Go.IntWalk.i64_in _ (by omega)] at e5
 refine ⟨aU ?_,?_⟩
 . exact aT
 . intro x hx0;have hx':=aW (v:=v) (by rfl) hx0
   rw [hx'];show Value.agg #[.int .i64 (v 4),.int .i64 (v 5)]=_;rw [e4,e5]
def zA:List Nd:=[
 .arg 0]
def M8:List Vc:=[
 ]
theorem N7:whole Tryz.prog spW 20 40 70 [(false,[some .i64])]=some (.p (.agg [.int .i64 (.n 0),.int .i64 (.n 0)]),⟨zA.reverse,M8.reverse⟩):=by kernel_rfl
theorem Mc:wfN zA.reverse=true:=by kernel_rfl
theorem Py (a:Int) (w:World):Calls Tryz.prog 70 #[.int .i64 a] w fun e w'=>e=.returned (.agg #[.int .i64 a,.int .i64 a])/\Below w.heap.size w w':=by
 refine Sx.calls (X:=cxW [a]) dB (fw _) N7 Mc (fun v hs=>?_) w
 have e0:v 0=a:=ae hs 0 rfl;refine ⟨aU ?_,?_⟩
 . exact aT
 . intro x hx0;have hx':=aW (v:=v) (by rfl) hx0
   rw [hx'];show Value.agg #[.int .i64 (v 0),.int .i64 (v 0)]=_;rw [e0]
theorem BR (a:Option Addr) (cap:Nat) (L:Cs) (l:Int) (w:World) (hL:SlI 2 w a L) (hn:L.length<=100) :
 Calls Tryz.prog 18 #[.slice a L.length cap,.int .i64 l] w fun e w'=>(∃ u,e=.returned (.tuple #[u,.int .i64 (gM l L)])/\bJ 4 42 w.heap.size w' u (gL l L))/\Below w.heap.size w w':=by
 have HL:=Lib.hid hL;clear hL;have CK:=Lib.hid (Cr a cap L l w HL.out hn)
 by_cases hg:bS l L=0
 . by_cases hs:L.length>60
   . have E:gM l L=4:=by unfold gM;rw [if_neg (by omega),if_pos hs]
     have R:gL l L=[]:=by unfold gL;rw [E,if_pos (by decide)]
     rw [hg] at CK;rw [E,R];clear hg E R HL;have hs':(L.length:Int)>60:=by omega
     go_enter Tryz.func18,Tryz.ntmps18;go_wp2_with fail;refine CK.out.mono ?_;rintro e w1 ⟨rfl,hb⟩;have HB:=Lib.hid hb;clear hb CK;go_wp2;refine bodyPost_ret (by simp [results,Tryz.results18,go_sem];try rfl) rfl ⟨⟨_,rfl,bJ.nil _ _ _ _⟩,HB.out⟩
   . have E:gM l L=0:=by unfold gM;rw [if_neg (by omega),if_neg hs]
     have R:gL l L=lgA l L L.length:=by unfold gL;rw [E,if_neg (by decide)]
     obtain ⟨hp,hl1,hl2,_⟩:=kS hg;have HP:=Lib.hid hp;rw [hg] at CK;rw [E,R];clear hg E R hp;have hs':¬ (L.length:Int)>60:=by omega
     go_enter Tryz.func18,Tryz.ntmps18;go_wp2_with fail;refine CK.out.mono ?_;rintro e w1 ⟨rfl,hb⟩;have HB1:=Lib.hid hb;clear hb CK;go_wp2;go_loopw [7,8] (fun v7 v8 wr=>∃ i:Nat,v8=.int .i64 (i:Int)/\1<=i/\(i<=L.length∨(L.length=0/\i=1))/\bJ 4 42 w.heap.size wr v7 (lgA l L i)/\Below w.heap.size w wr) (fun _ v8 _=>((L.length:Int)-intOf v8).toNat)
     case atStart=>exact ⟨1,rfl,Nat.le_refl _,by omega,bJ.nil _ _ _ _,HB1.out⟩
     case round =>
      obtain ⟨i,rfl,h1,hi,ho,hb⟩:=hrel;clear HB1;have HB:=Lib.hid hb;have O:=Lib.hid ho;clear hb ho;have HSZ:Hid ((lgA l L i).length+1<=1000000):=by have:=kN l L i;exact Lib.hid (by omega)
      by_cases hl:i<L.length
      . rcases HL.out.below HB.out with h0|⟨q,off,rfl,hR⟩
        . rw [h0] at hl;simp at hl
        . obtain ⟨x,y,hx,c0,c1⟩:=hR.at2 i hl;obtain ⟨z,t,hz,d0,d1⟩:=hR.at2 (i-1) (by omega)
          have gx:L.getD i []=[x,y]:=by rw [<-hx,List.getD_eq_getElem?_getD,List.getElem?_eq_getElem hl];rfl
          have gz:L.getD (i-1) []=[z,t]:=by rw [<-hz,List.getD_eq_getElem?_getD,List.getElem?_eq_getElem (by omega)];rfl
          have p1:=ny HP.out i hl;have p2:=ny HP.out (i-1) (by omega)
          rw [gx] at p1;rw [gz] at p2;have CL:=Lib.hid (fun w=>Yv z t x y l w p2 p1 ⟨hl1,hl2⟩)
          obtain ⟨q0,q1,q2,q3,hq⟩:=mY (rR z t x y l);rw [hq] at CL
          have ND:Hid (lgA l L (i+1)=lgA l L i++[[q0,q1,q2,q3]]):=Lib.hid (by
           rw [Db l L i h1,<-hq];unfold lgI;rw [gx,gz];rfl)
          have hl':(i:Int)<(L.length:Int):=by omega
          have hw1:IntKind.i64.wrap ((i:Int)-1)=((i-1:Nat):Int):=by rw [Go.IntWalk.i64_in _ (by omega)];omega
          have hb1:((i-1:Nat):Int)<(L.length:Int):=by omega
          clear hR hx hz gx gz p1 p2 hq;go_upto_region 10 with (fail)
          go_cut [9,10] (fun s9 s10 wx=>s10=.int .i64 0/\∃ g,s9=.pointer (some ⟨g,0,none⟩)/\KS wr wx [(g,42,#[.int .i64 q0,.int .i64 q1,.int .i64 q2,.int .i64 q3])])
          case first =>
           have K0:Hid (KS wr wr.drew []):=Lib.hid (av wr).drew;have c0o:=fun o:Obj=>(Lib.cell?_alloc_some o c0:World.cell? _ _=some (.int .i64 x));have c1o:=fun o:Obj=>(Lib.cell?_alloc_some o c1:World.cell? _ _=some (.int .i64 y));have d0o:=fun o:Obj=>(Lib.cell?_alloc_some o d0:World.cell? _ _=some (.int .i64 z));have d1o:=fun o:Obj=>(Lib.cell?_alloc_some o d1:World.cell? _ _=some (.int .i64 t))
           go_region_with (first
            | ((go_at_call 68;with_reducible refine (CL.out _).mono ?_);rintro r wm ⟨rfl,hk⟩;have HW:Hid (wr.heap.size<=wm.heap.size):=Lib.hid (Nat.le_trans (by first|exact Nat.le_refl _|exact cZ _ _) hk.size);(first|have K:=Lib.hid (K0.out.below hk)|(have K:=Lib.hid ((K0.out.new wr.heap.size rfl 42 #[.int .i64 0,.int .i64 0,.int .i64 0,.int .i64 0]).below hk);have nc0:=K.out.c (g:=wr.heap.size) (t:=42) (cs:=#[.int .i64 0,.int .i64 0,.int .i64 0,.int .i64 0]) (by simp) (i:=0) rfl;have nc1:=K.out.c (g:=wr.heap.size) (t:=42) (cs:=#[.int .i64 0,.int .i64 0,.int .i64 0,.int .i64 0]) (by simp) (i:=1) rfl;have nc2:=K.out.c (g:=wr.heap.size) (t:=42) (cs:=#[.int .i64 0,.int .i64 0,.int .i64 0,.int .i64 0]) (by simp) (i:=2) rfl;have nc3:=K.out.c (g:=wr.heap.size) (t:=42) (cs:=#[.int .i64 0,.int .i64 0,.int .i64 0,.int .i64 0]) (by simp) (i:=3) rfl;have nf0:=K.out.f (g:=wr.heap.size) (t:=42) (cs:=#[.int .i64 0,.int .i64 0,.int .i64 0,.int .i64 0]) (by simp) 0;have nf1:=K.out.f (g:=wr.heap.size) (t:=42) (cs:=#[.int .i64 0,.int .i64 0,.int .i64 0,.int .i64 0]) (by simp) 1;have nf2:=K.out.f (g:=wr.heap.size) (t:=42) (cs:=#[.int .i64 0,.int .i64 0,.int .i64 0,.int .i64 0]) (by simp) 2;have nf3:=K.out.f (g:=wr.heap.size) (t:=42) (cs:=#[.int .i64 0,.int .i64 0,.int .i64 0,.int .i64 0]) (by simp) 3));clear hk))
           all_goals (go_wp2_with fail)
           all_goals go_meet
           all_goals
            first
             | exact ⟨rfl,_,rfl,K.out.new wm.heap.size rfl _ _⟩
             | exact ⟨rfl,_,rfl,Ka K.out (Nat.le_refl _) _ _ _ _⟩
          case rest =>
          generalize wc=w2 at *
          obtain ⟨rfl,g,rfl,hK⟩:=hcut;have K:=Lib.hid hK;clear hK c0 c1 d0 d1 CL;have m0:=K.out.c (g:=g) (t:=42) (cs:=#[.int .i64 q0,.int .i64 q1,.int .i64 q2,.int .i64 q3]) (by simp) (i:=0) rfl;have m1:=K.out.c (g:=g) (t:=42) (cs:=#[.int .i64 q0,.int .i64 q1,.int .i64 q2,.int .i64 q3]) (by simp) (i:=1) rfl;have m2:=K.out.c (g:=g) (t:=42) (cs:=#[.int .i64 q0,.int .i64 q1,.int .i64 q2,.int .i64 q3]) (by simp) (i:=2) rfl;have m3:=K.out.c (g:=g) (t:=42) (cs:=#[.int .i64 q0,.int .i64 q1,.int .i64 q2,.int .i64 q3]) (by simp) (i:=3) rfl
          go_wp2_with (at_builtin;refine bI Tg rfl _ _ rfl _ w.heap.size _ (lgA l L i) [[q0,q1,q2,q3]] rfl ((O.out.below K.out.1).alloc _) _ 1 1 rfl rfl (fun j u hj=>bZ _ _ rfl _ _ rfl _ j u hj) (by intro x hx;simp at hx;subst hx;rfl) (Nat.succ_pos _) HSZ.out (Nat.le_trans HB.out.size (Nat.le_trans K.out.1.size (cZ _ _))) ?_;intro v10 w10 O10 B10 G10 E10)
          have O10':=Lib.hid O10;have B10':=Lib.hid (Dq HB.out K.out.1 B10);clear O10 B10 G10 E10 O HB K m0 m1 m2 m3;go_wp2;go_light;exact ⟨⟨i+1,by rw [show ((i+1:Nat):Int)=(i:Int)+1 by omega],by omega,by omega,by rw [ND.out];exact O10'.out,B10'.out⟩,by simp only [intOf];omega⟩
      . have hl':¬ (i:Int)<(L.length:Int):=by omega
        have EQ:Hid (lgA l L L.length=lgA l L i):=Lib.hid (by
         rcases hi with h|⟨h,h2⟩
         . rw [show L.length=i by omega]
         . rw [h,h2];rfl)
        go_wp2;refine bodyPost_ret (by simp [results,Tryz.results18,go_sem];try rfl) rfl ⟨⟨_,rfl,by rw [EQ.out];exact O.out⟩,HB.out⟩
 . have E:gM l L=bS l L:=by unfold gM;rw [if_pos hg]
   have R:gL l L=[]:=by unfold gL;rw [E,if_pos hg]
   rw [E,R];clear E R HL;generalize bS l L=q at *
   go_enter Tryz.func18,Tryz.ntmps18;go_wp2_with fail;refine CK.out.mono ?_;rintro e w1 ⟨rfl,hb⟩;have HB:=Lib.hid hb;clear hb CK;go_wp2;refine bodyPost_ret (by simp [results,Tryz.results18,go_sem];try rfl) rfl ⟨⟨_,rfl,bJ.nil _ _ _ _⟩,HB.out⟩
theorem KO (a:Option Addr) (cap:Nat) (L:Cs) (l:Int) (w:World) (hL:SlI 2 w a L) (hn:L.length<=100) :
 Calls Tryz.prog 19 #[.slice a L.length cap,.int .i64 l] w fun e w'=>(∃ u,e=.returned (.tuple #[u,.int .i64 (gM l L)])/\bJ 4 42 w.heap.size w' u (gL l L))/\Below w.heap.size w w':=by
 have HL:=Lib.hid hL;clear hL;have CK:=Lib.hid (lW a cap L l w HL.out hn)
 by_cases hg:bS l L=0
 . by_cases hs:L.length>60
   . have E:gM l L=4:=by unfold gM;rw [if_neg (by omega),if_pos hs]
     have R:gL l L=[]:=by unfold gL;rw [E,if_pos (by decide)]
     rw [hg] at CK;rw [E,R];clear hg E R HL;have hs':(L.length:Int)>60:=by omega
     go_enter Tryz.func19,Tryz.ntmps19;go_wp2_with fail;refine CK.out.mono ?_;rintro e w1 ⟨rfl,hb⟩;have HB:=Lib.hid hb;clear hb CK;go_wp2;refine bodyPost_ret (by simp [results,Tryz.results19,go_sem];try rfl) rfl ⟨⟨_,rfl,bJ.nil _ _ _ _⟩,HB.out⟩
   . have E:gM l L=0:=by unfold gM;rw [if_neg (by omega),if_neg hs]
     have R:gL l L=lgA l L L.length:=by unfold gL;rw [E,if_neg (by decide)]
     obtain ⟨hp,hl1,hl2,_⟩:=kS hg;have HP:=Lib.hid hp;rw [hg] at CK;rw [E,R];clear hg E R hp;have hs':¬ (L.length:Int)>60:=by omega
     go_enter Tryz.func19,Tryz.ntmps19;go_wp2_with fail;refine CK.out.mono ?_;rintro e w1 ⟨rfl,hb⟩;have HB1:=Lib.hid hb;clear hb CK;go_wp2;go_loopw [7,8] (fun v7 v8 wr=>∃ i:Nat,v8=.int .i64 (i:Int)/\1<=i/\(i<=L.length∨(L.length=0/\i=1))/\bJ 4 42 w.heap.size wr v7 (lgA l L i)/\Below w.heap.size w wr) (fun _ v8 _=>((L.length:Int)-intOf v8).toNat)
     case atStart=>exact ⟨1,rfl,Nat.le_refl _,by omega,bJ.nil _ _ _ _,HB1.out⟩
     case round =>
      obtain ⟨i,rfl,h1,hi,ho,hb⟩:=hrel;clear HB1;have HB:=Lib.hid hb;have O:=Lib.hid ho;clear hb ho;have HSZ:Hid ((lgA l L i).length+1<=1000000):=by have:=kN l L i;exact Lib.hid (by omega)
      by_cases hl:i<L.length
      . rcases HL.out.below HB.out with h0|⟨q,off,rfl,hR⟩
        . rw [h0] at hl;simp at hl
        . obtain ⟨x,y,hx,c0,c1⟩:=hR.at2 i hl;obtain ⟨z,t,hz,d0,d1⟩:=hR.at2 (i-1) (by omega)
          have gx:L.getD i []=[x,y]:=by rw [<-hx,List.getD_eq_getElem?_getD,List.getElem?_eq_getElem hl];rfl
          have gz:L.getD (i-1) []=[z,t]:=by rw [<-hz,List.getD_eq_getElem?_getD,List.getElem?_eq_getElem (by omega)];rfl
          have p1:=ny HP.out i hl;have p2:=ny HP.out (i-1) (by omega)
          rw [gx] at p1;rw [gz] at p2;have CL:=Lib.hid (fun w=>YJ z t x y l w p2 p1 ⟨hl1,hl2⟩)
          obtain ⟨q0,q1,q2,q3,hq⟩:=mY (rR z t x y l);rw [hq] at CL
          have ND:Hid (lgA l L (i+1)=lgA l L i++[[q0,q1,q2,q3]]):=Lib.hid (by
           rw [Db l L i h1,<-hq];unfold lgI;rw [gx,gz];rfl)
          have hl':(i:Int)<(L.length:Int):=by omega
          have hw1:IntKind.i64.wrap ((i:Int)-1)=((i-1:Nat):Int):=by rw [Go.IntWalk.i64_in _ (by omega)];omega
          have hb1:((i-1:Nat):Int)<(L.length:Int):=by omega
          clear hR hx hz gx gz p1 p2 hq;go_upto_region 10 with (fail)
          go_cut [9,10] (fun s9 s10 wx=>s10=.int .i64 0/\∃ g,s9=.pointer (some ⟨g,0,none⟩)/\KS wr wx [(g,42,#[.int .i64 q0,.int .i64 q1,.int .i64 q2,.int .i64 q3])])
          case first =>
           have K0:Hid (KS wr wr.drew []):=Lib.hid (av wr).drew;have c0o:=fun o:Obj=>(Lib.cell?_alloc_some o c0:World.cell? _ _=some (.int .i64 x));have c1o:=fun o:Obj=>(Lib.cell?_alloc_some o c1:World.cell? _ _=some (.int .i64 y));have d0o:=fun o:Obj=>(Lib.cell?_alloc_some o d0:World.cell? _ _=some (.int .i64 z));have d1o:=fun o:Obj=>(Lib.cell?_alloc_some o d1:World.cell? _ _=some (.int .i64 t))
           go_region_with (first
            | ((go_at_call 69;with_reducible refine (CL.out _).mono ?_);rintro r wm ⟨rfl,hk⟩;have HW:Hid (wr.heap.size<=wm.heap.size):=Lib.hid (Nat.le_trans (by first|exact Nat.le_refl _|exact cZ _ _) hk.size);(first|have K:=Lib.hid (K0.out.below hk)|(have K:=Lib.hid ((K0.out.new wr.heap.size rfl 42 #[.int .i64 0,.int .i64 0,.int .i64 0,.int .i64 0]).below hk);have nc0:=K.out.c (g:=wr.heap.size) (t:=42) (cs:=#[.int .i64 0,.int .i64 0,.int .i64 0,.int .i64 0]) (by simp) (i:=0) rfl;have nc1:=K.out.c (g:=wr.heap.size) (t:=42) (cs:=#[.int .i64 0,.int .i64 0,.int .i64 0,.int .i64 0]) (by simp) (i:=1) rfl;have nc2:=K.out.c (g:=wr.heap.size) (t:=42) (cs:=#[.int .i64 0,.int .i64 0,.int .i64 0,.int .i64 0]) (by simp) (i:=2) rfl;have nc3:=K.out.c (g:=wr.heap.size) (t:=42) (cs:=#[.int .i64 0,.int .i64 0,.int .i64 0,.int .i64 0]) (by simp) (i:=3) rfl;have nf0:=K.out.f (g:=wr.heap.size) (t:=42) (cs:=#[.int .i64 0,.int .i64 0,.int .i64 0,.int .i64 0]) (by simp) 0;have nf1:=K.out.f (g:=wr.heap.size) (t:=42) (cs:=#[.int .i64 0,.int .i64 0,.int .i64 0,.int .i64 0]) (by simp) 1;have nf2:=K.out.f (g:=wr.heap.size) (t:=42) (cs:=#[.int .i64 0,.int .i64 0,.int .i64 0,.int .i64 0]) (by simp) 2;have nf3:=K.out.f (g:=wr.heap.size) (t:=42) (cs:=#[.int .i64 0,.int .i64 0,.int .i64 0,.int .i64 0]) (by simp) 3));clear hk))
           all_goals (go_wp2_with fail)
           all_goals go_meet
           all_goals
            first
             | exact ⟨rfl,_,rfl,K.out.new wm.heap.size rfl _ _⟩
             | exact ⟨rfl,_,rfl,Ka K.out (Nat.le_refl _) _ _ _ _⟩
          case rest =>
          generalize wc=w2 at *
          obtain ⟨rfl,g,rfl,hK⟩:=hcut;have K:=Lib.hid hK;clear hK c0 c1 d0 d1 CL;have m0:=K.out.c (g:=g) (t:=42) (cs:=#[.int .i64 q0,.int .i64 q1,.int .i64 q2,.int .i64 q3]) (by simp) (i:=0) rfl;have m1:=K.out.c (g:=g) (t:=42) (cs:=#[.int .i64 q0,.int .i64 q1,.int .i64 q2,.int .i64 q3]) (by simp) (i:=1) rfl;have m2:=K.out.c (g:=g) (t:=42) (cs:=#[.int .i64 q0,.int .i64 q1,.int .i64 q2,.int .i64 q3]) (by simp) (i:=2) rfl;have m3:=K.out.c (g:=g) (t:=42) (cs:=#[.int .i64 q0,.int .i64 q1,.int .i64 q2,.int .i64 q3]) (by simp) (i:=3) rfl
          go_wp2_with (at_builtin;refine bI Tg rfl _ _ rfl _ w.heap.size _ (lgA l L i) [[q0,q1,q2,q3]] rfl ((O.out.below K.out.1).alloc _) _ 1 1 rfl rfl (fun j u hj=>bZ _ _ rfl _ _ rfl _ j u hj) (by intro x hx;simp at hx;subst hx;rfl) (Nat.succ_pos _) HSZ.out (Nat.le_trans HB.out.size (Nat.le_trans K.out.1.size (cZ _ _))) ?_;intro v10 w10 O10 B10 G10 E10)
          have O10':=Lib.hid O10;have B10':=Lib.hid (Dq HB.out K.out.1 B10);clear O10 B10 G10 E10 O HB K m0 m1 m2 m3;go_wp2;go_light;exact ⟨⟨i+1,by rw [show ((i+1:Nat):Int)=(i:Int)+1 by omega],by omega,by omega,by rw [ND.out];exact O10'.out,B10'.out⟩,by simp only [intOf];omega⟩
      . have hl':¬ (i:Int)<(L.length:Int):=by omega
        have EQ:Hid (lgA l L L.length=lgA l L i):=Lib.hid (by
         rcases hi with h|⟨h,h2⟩
         . rw [show L.length=i by omega]
         . rw [h,h2];rfl)
        go_wp2;refine bodyPost_ret (by simp [results,Tryz.results19,go_sem];try rfl) rfl ⟨⟨_,rfl,by rw [EQ.out];exact O.out⟩,HB.out⟩
 . have E:gM l L=bS l L:=by unfold gM;rw [if_pos hg]
   have R:gL l L=[]:=by unfold gL;rw [E,if_pos hg]
   rw [E,R];clear E R HL;generalize bS l L=q at *
   go_enter Tryz.func19,Tryz.ntmps19;go_wp2_with fail;refine CK.out.mono ?_;rintro e w1 ⟨rfl,hb⟩;have HB:=Lib.hid hb;clear hb CK;go_wp2;refine bodyPost_ret (by simp [results,Tryz.results19,go_sem];try rfl) rfl ⟨⟨_,rfl,bJ.nil _ _ _ _⟩,HB.out⟩
