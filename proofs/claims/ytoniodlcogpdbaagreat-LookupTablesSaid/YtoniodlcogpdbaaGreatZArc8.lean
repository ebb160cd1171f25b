/- The walk of the direction of a box. -/
import Derived.Test.YtoniodlcogpdbaaGreatZArcHi
import Derived.Test.YtoniodlcogpdbaaGreatZWides
import Derived.Deep.DeepCutAuto
set_option linter.unusedVariables false
set_option linter.unusedSimpArgs false
set_option maxRecDepth 100000
set_option maxHeartbeats 16000000
namespace Alm
def cX (xl xh:Int) (k:Nat):Int:=if k<2 then xl else xh
def cY (yl yh:Int) (k:Nat):Int:=if k%2=0 then yl else yh
def aG (xl xh yl yh:Int):Nat->Int × Int
 | 0=>(xl,yl)
 | k+1=>if pI (cX xl xh k) (cY yl yh k) (aG xl xh yl yh k).1 (aG xl xh yl yh k).2 then (cX xl xh k,cY yl yh k) else aG xl xh yl yh k
def aT (xl xh yl yh:Int):Nat->Int × Int
 | 0=>(xl,yl)
 | k+1=>if pI (aT xl xh yl yh k).1 (aT xl xh yl yh k).2 (cX xl xh k) (cY yl yh k) then (cX xl xh k,cY yl yh k) else aT xl xh yl yh k
def iK (yl yh xl xh:Int):Bool:=decide (xl<=0/\0<=xh/\yl<=0/\0<=yh)
def dJ (yl yh xl xh:Int):Int:=if iK yl yh xl xh then 0 else fF (aG xl xh yl yh 4).1 (aG xl xh yl yh 4).2
def upE (lo hi:Int) (e:Bool):Int:=(if hi<lo then hi+21600000 else hi)+if e then 0 else 1
def eZ (yl yh xl xh:Int):Int:=if iK yl yh xl xh then 21600000 else upE (dJ yl yh xl xh) (fF (aT xl xh yl yh 4).1 (aT xl xh yl yh 4).2) (gY (aT xl xh yl yh 4).1 (aT xl xh yl yh 4).2)
theorem mr (xl xh yl yh:Int) (k:Nat):((aG xl xh yl yh k).1=xl∨(aG xl xh yl yh k).1=xh)/\((aG xl xh yl yh k).2=yl∨(aG xl xh yl yh k).2=yh):=by
 induction k with
 | zero=>simp [aG]
 | succ k ih =>
  simp only [aG];split
  . simp only [cX,cY];constructor<;>split<;>simp
  . exact ih
theorem vJ (xl xh yl yh:Int) (k:Nat):((aT xl xh yl yh k).1=xl∨(aT xl xh yl yh k).1=xh)/\((aT xl xh yl yh k).2=yl∨(aT xl xh yl yh k).2=yh):=by
 induction k with
 | zero=>simp [aT]
 | succ k ih =>
  simp only [aT];split
  . simp only [cX,cY];constructor<;>split<;>simp
  . exact ih
theorem nK (x y:Int):0<=fF x y/\fF x y<=21599999:=by
 have h1:=ET x y;have h2:=IW (qX x y) (qY x y) 23 0 5400000 (by omega)
 unfold fF iH;omega
end Alm
namespace Go.Proofs.YtoniodlcogpdbaaGreat
open Go.RowKit Alm
def IL (w wr:World) (b7 b8:Nat) (f l:Int × Int):Prop:=KS w wr [(b7,159,#[.int .i64 f.1,.int .i64 f.2]),(b8,159,#[.int .i64 l.1,.int .i64 l.2]),(w.heap.size+1+1,26,#[.int .i64 0,.int .i64 0])]
def acH (xl xh yl yh:Int) (w:World) (bc:Nat) (s7 s8:Value) (wy:World):Prop :=
 ∃ b7 b8:Nat,s7=.pointer (some ⟨b7,0,none⟩)/\s8=.pointer (some ⟨b8,0,none⟩)/\b7≠b8/\w.heap.size+3<=b7/\w.heap.size+3<=b8/\KS w wy [(b7,159,#[.int .i64 xl,.int .i64 yl]),(b8,159,#[.int .i64 xl,.int .i64 yl]),(bc,160,#[.int .i64 xl,.int .i64 yl,.int .i64 xl,.int .i64 yh,.int .i64 xh,.int .i64 yl,.int .i64 xh,.int .i64 yh]),(w.heap.size+1+1,26,#[.int .i64 0,.int .i64 0])]
theorem KV (xl xh yl yh:Int) (k:Nat) (hk:k<4):∀ w,(Instr.index 160 (.agg #[.int .i64 xl,.int .i64 yl,.int .i64 xl,.int .i64 yh,.int .i64 xh,.int .i64 yl,.int .i64 xh,.int .i64 yh]) (.int .i64 (k:Int))).run Tryz.prog w=.ok (.agg #[.int .i64 (cX xl xh k),.int .i64 (cY yl yh k)]) w:=by
 have:k=0∨k=1∨k=2∨k=3:=by omega
 rcases this with rfl|rfl|rfl|rfl<;>intro w<;>kernel_rfl
theorem Wv {lo hi:Int} (h:fxV lo hi=true):-2147483648<=lo/\lo<=hi/\hi<=2147483648:=by unfold fxV at h;simpa using h
theorem Ti (yl yh xl xh:Int) (w:World) (hy:fxV yl yh=true) (hx:fxV xl xh=true) (h1:xl<=0) (h2:0<=xh) (h3:yl<=0) (h4:0<=yh) :
 Calls Tryz.prog 117 #[.agg #[.int .i64 yl,.int .i64 yh],.agg #[.int .i64 xl,.int .i64 xh]] w fun e w'=>e=.returned (.tuple #[.agg #[.int .i64 0,.int .i64 21600000],.int .i64 0])/\Below w.heap.size w w':=by
 have C1:=fun w=>fI xl xh w
 have C2:=fun w=>fI yl yh w
 rw [hx] at C1;rw [hy] at C2;replace C1:=Lib.hid C1;replace C2:=Lib.hid C2;have K0:=Lib.hid ((((az w).new w.heap.size rfl 58 #[.int .i64 yl,.int .i64 yh]).new (w.heap.size+1) (by simp) 58 #[.int .i64 xl,.int .i64 xh]).new (w.heap.size+1+1) (by simp) 26 #[.int .i64 0,.int .i64 0])
 clear hx hy;go_enter Tryz.func117,Tryz.ntmps117;go_wp2_with fail;refine (C1.out _).mono ?_;rintro e w1 ⟨rfl,hb1⟩;have K1:=Lib.hid (K0.out.below hb1);clear hb1 K0;have a0:=K1.out.c (g:=w.heap.size) (t:=58) (cs:=#[.int .i64 yl,.int .i64 yh]) (by simp) (i:=0) rfl
 have a1:=K1.out.c (g:=w.heap.size) (t:=58) (cs:=#[.int .i64 yl,.int .i64 yh]) (by simp) (i:=1) rfl
 go_wp2_with fail;refine (C2.out _).mono ?_;rintro e w2 ⟨rfl,hb1⟩;have K2:=Lib.hid (K1.out.below hb1);clear hb1 K1 a0 a1;have a0:=K2.out.c (g:=w.heap.size) (t:=58) (cs:=#[.int .i64 yl,.int .i64 yh]) (by simp) (i:=0) rfl
 have a1:=K2.out.c (g:=w.heap.size) (t:=58) (cs:=#[.int .i64 yl,.int .i64 yh]) (by simp) (i:=1) rfl
 have b0:=K2.out.c (g:=w.heap.size+1) (t:=58) (cs:=#[.int .i64 xl,.int .i64 xh]) (by simp) (i:=0) rfl
 have b1:=K2.out.c (g:=w.heap.size+1) (t:=58) (cs:=#[.int .i64 xl,.int .i64 xh]) (by simp) (i:=1) rfl
 have r0:=K2.out.c (g:=w.heap.size+1+1) (t:=26) (cs:=#[.int .i64 0,.int .i64 0]) (by simp) (i:=0) rfl
 have fr0:=K2.out.f (g:=w.heap.size+1+1) (t:=26) (cs:=#[.int .i64 0,.int .i64 0]) (by simp) 0
 have r1:=K2.out.c (g:=w.heap.size+1+1) (t:=26) (cs:=#[.int .i64 0,.int .i64 0]) (by simp) (i:=1) rfl
 have fr1:=K2.out.f (g:=w.heap.size+1+1) (t:=26) (cs:=#[.int .i64 0,.int .i64 0]) (by simp) 1
 have HB:=Lib.hid K2.out.1;go_wp2;refine bodyPost_ret (v:=.tuple #[.agg #[.int .i64 0,.int .i64 21600000],.int .i64 0]) (by simp [results,Tryz.results117,go_sem,r0,r1]) rfl ⟨rfl,?_⟩
 have hb:=HB.out;go_grown
theorem Ql (yl yh xl xh:Int) (w:World) (hy:fxV yl yh=true) (hx:fxV xl xh=true) (ho:¬ (xl<=0/\0<=xh/\yl<=0/\0<=yh)) :
 Calls Tryz.prog 117 #[.agg #[.int .i64 yl,.int .i64 yh],.agg #[.int .i64 xl,.int .i64 xh]] w fun e w'=>e=.returned (.tuple #[.agg #[.int .i64 (dJ yl yh xl xh),.int .i64 (eZ yl yh xl xh)],.int .i64 0])/\Below w.heap.size w w':=by
 have C1:=fun w=>fI xl xh w
 have C2:=fun w=>fI yl yh w
 rw [hx] at C1;rw [hy] at C2;replace C1:=Lib.hid C1;replace C2:=Lib.hid C2;have HXB:=Lib.hid (Wv hx);have HYB:=Lib.hid (Wv hy);have HO:=Lib.hid ho;have EL:Hid (dJ yl yh xl xh=fF (aG xl xh yl yh 4).1 (aG xl xh yl yh 4).2):=Lib.hid (by unfold dJ iK;rw [if_neg (by simpa using ho)])
 have EH:Hid (eZ yl yh xl xh=upE (dJ yl yh xl xh) (fF (aT xl xh yl yh 4).1 (aT xl xh yl yh 4).2) (gY (aT xl xh yl yh 4).1 (aT xl xh yl yh 4).2)):=Lib.hid (by unfold eZ iK;rw [if_neg (by simpa using ho)])
 have K0:=Lib.hid ((((az w).new w.heap.size rfl 58 #[.int .i64 yl,.int .i64 yh]).new (w.heap.size+1) (by simp) 58 #[.int .i64 xl,.int .i64 xh]).new (w.heap.size+1+1) (by simp) 26 #[.int .i64 0,.int .i64 0])
 clear hx hy ho;go_enter Tryz.func117,Tryz.ntmps117;go_wp2_with fail;refine (C1.out _).mono ?_;rintro e w1 ⟨rfl,hb1⟩;have K1:=Lib.hid (K0.out.below hb1);clear hb1 K0;have a0:=K1.out.c (g:=w.heap.size) (t:=58) (cs:=#[.int .i64 yl,.int .i64 yh]) (by simp) (i:=0) rfl
 have a1:=K1.out.c (g:=w.heap.size) (t:=58) (cs:=#[.int .i64 yl,.int .i64 yh]) (by simp) (i:=1) rfl
 go_wp2_with fail;refine (C2.out _).mono ?_;rintro e w2 ⟨rfl,hb1⟩;have K2:=Lib.hid (K1.out.below hb1);clear hb1 K1 a0 a1;have a0:=K2.out.c (g:=w.heap.size) (t:=58) (cs:=#[.int .i64 yl,.int .i64 yh]) (by simp) (i:=0) rfl
 have a1:=K2.out.c (g:=w.heap.size) (t:=58) (cs:=#[.int .i64 yl,.int .i64 yh]) (by simp) (i:=1) rfl
 have b0:=K2.out.c (g:=w.heap.size+1) (t:=58) (cs:=#[.int .i64 xl,.int .i64 xh]) (by simp) (i:=0) rfl
 have b1:=K2.out.c (g:=w.heap.size+1) (t:=58) (cs:=#[.int .i64 xl,.int .i64 xh]) (by simp) (i:=1) rfl
 go_upto_region 3 with (fail)
 go_cut [41] (fun s wx=>s=.bool false/\wx=w2)
 case first =>
  have ho:=HO.out;have hb1:=HXB.out;have hb2:=HYB.out;go_wp2_with fail
  all_goals (go_meet;refine ⟨?_,rfl⟩;first|rfl|(exfalso;omega)|(simp;omega))
 case rest =>
  obtain ⟨rfl,h⟩:=hcut;have h':=h.symm;clear h;subst h'
  have KR:Hid (w.heap.size+1+1<w2.heap.size):=K2.out.lt (g:=w.heap.size+1+1) (t:=26) (cs:=#[.int .i64 0,.int .i64 0]) (by simp)
  have KC:=Lib.hid ((K2.out.new _ rfl 160 #[.int .i64 xl,.int .i64 yl,.int .i64 xl,.int .i64 yh,.int .i64 xh,.int .i64 yl,.int .i64 xh,.int .i64 yh]));go_upto_region 6 with (fail)
  clear a0 a1 b0 b1;have c0:=KC.out.c (g:=w2.heap.size) (t:=160) (cs:=#[.int .i64 xl,.int .i64 yl,.int .i64 xl,.int .i64 yh,.int .i64 xh,.int .i64 yl,.int .i64 xh,.int .i64 yh]) (by simp) (i:=0) rfl
  have c1:=KC.out.c (g:=w2.heap.size) (t:=160) (cs:=#[.int .i64 xl,.int .i64 yl,.int .i64 xl,.int .i64 yh,.int .i64 xh,.int .i64 yl,.int .i64 xh,.int .i64 yh]) (by simp) (i:=1) rfl
  have c2:=KC.out.c (g:=w2.heap.size) (t:=160) (cs:=#[.int .i64 xl,.int .i64 yl,.int .i64 xl,.int .i64 yh,.int .i64 xh,.int .i64 yl,.int .i64 xh,.int .i64 yh]) (by simp) (i:=2) rfl
  have c3:=KC.out.c (g:=w2.heap.size) (t:=160) (cs:=#[.int .i64 xl,.int .i64 yl,.int .i64 xl,.int .i64 yh,.int .i64 xh,.int .i64 yl,.int .i64 xh,.int .i64 yh]) (by simp) (i:=3) rfl
  have c4:=KC.out.c (g:=w2.heap.size) (t:=160) (cs:=#[.int .i64 xl,.int .i64 yl,.int .i64 xl,.int .i64 yh,.int .i64 xh,.int .i64 yl,.int .i64 xh,.int .i64 yh]) (by simp) (i:=4) rfl
  have c5:=KC.out.c (g:=w2.heap.size) (t:=160) (cs:=#[.int .i64 xl,.int .i64 yl,.int .i64 xl,.int .i64 yh,.int .i64 xh,.int .i64 yl,.int .i64 xh,.int .i64 yh]) (by simp) (i:=5) rfl
  have c6:=KC.out.c (g:=w2.heap.size) (t:=160) (cs:=#[.int .i64 xl,.int .i64 yl,.int .i64 xl,.int .i64 yh,.int .i64 xh,.int .i64 yl,.int .i64 xh,.int .i64 yh]) (by simp) (i:=6) rfl
  have c7:=KC.out.c (g:=w2.heap.size) (t:=160) (cs:=#[.int .i64 xl,.int .i64 yl,.int .i64 xl,.int .i64 yh,.int .i64 xh,.int .i64 yl,.int .i64 xh,.int .i64 yh]) (by simp) (i:=7) rfl
  go_cut [7,8] (fun s7 s8 wy=>acH xl xh yl yh w w2.heap.size s7 s8 wy)
  case first =>
   go_region
   all_goals (go_wp2_with fail)
   all_goals go_meet
   all_goals (first
    | exact ⟨w2.heap.size+1,w2.heap.size+1+1,rfl,rfl,by omega,by have:=KR.out;omega,by have:=KR.out;omega,(((KC.out.new (w2.heap.size+1) (by simp) 159 #[.int .i64 xl,.int .i64 yl]).new (w2.heap.size+1+1) (by simp) 159 #[.int .i64 xl,.int .i64 yl]).drew.sub (by intro q hq;simp at hq ⊢;rcases hq with rfl|rfl|rfl|rfl<;>simp))⟩
    | exact ⟨w2.heap.size+1+1,w2.heap.size+1,rfl,rfl,by omega,by have:=KR.out;omega,by have:=KR.out;omega,(((KC.out.new (w2.heap.size+1) (by simp) 159 #[.int .i64 xl,.int .i64 yl]).new (w2.heap.size+1+1) (by simp) 159 #[.int .i64 xl,.int .i64 yl]).drew.sub (by intro q hq;simp at hq ⊢;rcases hq with rfl|rfl|rfl|rfl<;>simp))⟩
    | skip)
  case rest =>
   obtain ⟨b7,b8,rfl,rfl,hne,h7,h8,hK⟩:=hcut;have KB:=Lib.hid hK;clear hK c0 c1 c2 c3 c4 c5 c6 c7 KC K2;have c0:=KB.out.c (g:=w2.heap.size) (t:=160) (cs:=#[.int .i64 xl,.int .i64 yl,.int .i64 xl,.int .i64 yh,.int .i64 xh,.int .i64 yl,.int .i64 xh,.int .i64 yh]) (by simp) (i:=0) rfl
   have c1:=KB.out.c (g:=w2.heap.size) (t:=160) (cs:=#[.int .i64 xl,.int .i64 yl,.int .i64 xl,.int .i64 yh,.int .i64 xh,.int .i64 yl,.int .i64 xh,.int .i64 yh]) (by simp) (i:=1) rfl
   have c2:=KB.out.c (g:=w2.heap.size) (t:=160) (cs:=#[.int .i64 xl,.int .i64 yl,.int .i64 xl,.int .i64 yh,.int .i64 xh,.int .i64 yl,.int .i64 xh,.int .i64 yh]) (by simp) (i:=2) rfl
   have c3:=KB.out.c (g:=w2.heap.size) (t:=160) (cs:=#[.int .i64 xl,.int .i64 yl,.int .i64 xl,.int .i64 yh,.int .i64 xh,.int .i64 yl,.int .i64 xh,.int .i64 yh]) (by simp) (i:=3) rfl
   have c4:=KB.out.c (g:=w2.heap.size) (t:=160) (cs:=#[.int .i64 xl,.int .i64 yl,.int .i64 xl,.int .i64 yh,.int .i64 xh,.int .i64 yl,.int .i64 xh,.int .i64 yh]) (by simp) (i:=4) rfl
   have c5:=KB.out.c (g:=w2.heap.size) (t:=160) (cs:=#[.int .i64 xl,.int .i64 yl,.int .i64 xl,.int .i64 yh,.int .i64 xh,.int .i64 yl,.int .i64 xh,.int .i64 yh]) (by simp) (i:=5) rfl
   have c6:=KB.out.c (g:=w2.heap.size) (t:=160) (cs:=#[.int .i64 xl,.int .i64 yl,.int .i64 xl,.int .i64 yh,.int .i64 xh,.int .i64 yl,.int .i64 xh,.int .i64 yh]) (by simp) (i:=6) rfl
   have c7:=KB.out.c (g:=w2.heap.size) (t:=160) (cs:=#[.int .i64 xl,.int .i64 yl,.int .i64 xl,.int .i64 yh,.int .i64 xh,.int .i64 yl,.int .i64 xh,.int .i64 yh]) (by simp) (i:=7) rfl
   have KL:=Lib.hid (KB.out.sub (l':=[(b7,159,#[.int .i64 xl,.int .i64 yl]),(b8,159,#[.int .i64 xl,.int .i64 yl]),(w.heap.size+1+1,26,#[.int .i64 0,.int .i64 0])]) (by intro q hq;simp at hq ⊢;rcases hq with rfl|rfl|rfl<;>simp))
   go_wp2;clear c0 c1 c2 c3 c4 c5 c6 c7 KB;go_loopw [69] (fun v wr=>∃ k:Nat,v=.int .i64 (k:Int)/\k<=4/\IL w wr b7 b8 (aG xl xh yl yh k) (aT xl xh yl yh k)) (fun v _=>(4-intOf v).toNat)
   case atStart=>exact ⟨0,rfl,by omega,KL.out⟩
   case round =>
    obtain ⟨k,rfl,hk,hW⟩:=hrel;have HW:=Lib.hid hW;clear hW KL
    by_cases hl:k<4
    . have hl':(k:Int)<4:=by omega
      have IX:=KV xl xh yl yh k hl;have FI:=mr xl xh yl yh k;have LI:=vJ xl xh yl yh k;have FS:aG xl xh yl yh (k+1)=if pI (cX xl xh k) (cY yl yh k) (aG xl xh yl yh k).1 (aG xl xh yl yh k).2 then (cX xl xh k,cY yl yh k) else aG xl xh yl yh k:=rfl
      have LS:aT xl xh yl yh (k+1)=if pI (aT xl xh yl yh k).1 (aT xl xh yl yh k).2 (cX xl xh k) (cY yl yh k) then (cX xl xh k,cY yl yh k) else aT xl xh yl yh k:=rfl
      have CB:((-2147483648<=cX xl xh k/\cX xl xh k<=2147483648)/\(-2147483648<=cY yl yh k/\cY yl yh k<=2147483648)):=by
       have:=HXB.out;have:=HYB.out;unfold cX cY;split<;>split<;>omega
      have FB:((-2147483648<=(aG xl xh yl yh k).1/\(aG xl xh yl yh k).1<=2147483648)/\(-2147483648<=(aG xl xh yl yh k).2/\(aG xl xh yl yh k).2<=2147483648)):=by
       have:=HXB.out;have:=HYB.out;omega
      have LB:((-2147483648<=(aT xl xh yl yh k).1/\(aT xl xh yl yh k).1<=2147483648)/\(-2147483648<=(aT xl xh yl yh k).2/\(aT xl xh yl yh k).2<=2147483648)):=by
       have:=HXB.out;have:=HYB.out;omega
      have D1:=fun w=>FU (cX xl xh k) (cY yl yh k) (aG xl xh yl yh k).1 (aG xl xh yl yh k).2 w CB FB
      have D2:=fun w=>FU (aT xl xh yl yh k).1 (aT xl xh yl yh k).2 (cX xl xh k) (cY yl yh k) w LB CB
      have EK:Hid (IL w wr b7 b8 (aG xl xh yl yh k) (aT xl xh yl yh k)->True):=fun _=>trivial
      have GOAL:Hid (∀ wz,IL w wz b7 b8 (aG xl xh yl yh (k+1)) (aT xl xh yl yh (k+1))->(∃ k':Nat,Value.int .i64 ((k:Int)+1)=.int .i64 (k':Int)/\k'<=4/\IL w wz b7 b8 (aG xl xh yl yh k') (aT xl xh yl yh k'))/\(4-intOf (Value.int .i64 ((k:Int)+1))).toNat<(4-intOf (Value.int .i64 (k:Int))).toNat) :=
       fun wz h=>⟨⟨k+1,by rw [show ((k+1:Nat):Int)=(k:Int)+1 by omega],by omega,h⟩,by simp only [intOf];omega⟩
      clear CB FB LB FI LI EK;generalize aG xl xh yl yh (k+1)=f' at *
      generalize aT xl xh yl yh (k+1)=l' at *
      generalize aG xl xh yl yh k=f at *
      generalize aT xl xh yl yh k=l at *
      generalize cX xl xh k=cx at *
      generalize cY yl yh k=cy at *
      obtain ⟨f1,f2⟩:=f;obtain ⟨l1,l2⟩:=l;simp only [] at D1 D2 FS LS;have lt7:Hid (b7<wr.heap.size):=HW.out.lt (g:=b7) (t:=159) (cs:=#[.int .i64 f1,.int .i64 f2]) (by simp)
      have lt8:Hid (b8<wr.heap.size):=HW.out.lt (g:=b8) (t:=159) (cs:=#[.int .i64 l1,.int .i64 l2]) (by simp)
      have ltr:Hid (w.heap.size+1+1<wr.heap.size):=HW.out.lt (g:=w.heap.size+1+1) (t:=26) (cs:=#[.int .i64 0,.int .i64 0]) (by simp)
      have K3:=Lib.hid (KS.new HW.out _ rfl 159 #[.int .i64 cx,.int .i64 cy])
      by_cases hb1:pI cx cy f1 f2=true
      . rw [hb1,if_pos rfl] at FS;rw [hb1] at D1;replace D1:=Lib.hid D1;clear hb1;subst FS
        by_cases hb2:pI l1 l2 cx cy=true
        . rw [hb2,if_pos rfl] at LS;rw [hb2] at D2;replace D2:=Lib.hid D2;clear hb2;subst LS;have c0:=K3.out.c (g:=wr.heap.size) (t:=159) (cs:=#[.int .i64 cx,.int .i64 cy]) (by simp) (i:=0) rfl
          have c1:=K3.out.c (g:=wr.heap.size) (t:=159) (cs:=#[.int .i64 cx,.int .i64 cy]) (by simp) (i:=1) rfl
          have d0:=K3.out.c (g:=b7) (t:=159) (cs:=#[.int .i64 f1,.int .i64 f2]) (by simp) (i:=0) rfl
          have d1:=K3.out.c (g:=b7) (t:=159) (cs:=#[.int .i64 f1,.int .i64 f2]) (by simp) (i:=1) rfl
          go_wp2_with fail;refine (D1.out _).mono ?_;rintro e w3 ⟨rfl,hb⟩;have K4:=Lib.hid (K3.out.below hb);clear hb c0 c1 d0 d1 K3;have K5:=Lib.hid (((K4.out.sub (l':=[(b7,159,#[.int .i64 f1,.int .i64 f2]),(wr.heap.size,159,#[.int .i64 cx,.int .i64 cy]),(b8,159,#[.int .i64 l1,.int .i64 l2]),(w.heap.size+1+1,26,#[.int .i64 0,.int .i64 0])]) (by intro q hq;simp at hq ⊢;rcases hq with rfl|rfl|rfl|rfl<;>simp)).set (by omega) (by have:=lt7.out;intro q hq;simp at hq;rcases hq with rfl|rfl|rfl<;>simp<;>omega) 0 (.int .i64 cx)).set (by omega) (by have:=lt7.out;intro q hq;simp at hq;rcases hq with rfl|rfl|rfl<;>simp<;>omega) 1 (.int .i64 cy))
          have c0:=K4.out.c (g:=wr.heap.size) (t:=159) (cs:=#[.int .i64 cx,.int .i64 cy]) (by simp) (i:=0) rfl
          have c1:=K4.out.c (g:=wr.heap.size) (t:=159) (cs:=#[.int .i64 cx,.int .i64 cy]) (by simp) (i:=1) rfl
          have d0:=K4.out.c (g:=b7) (t:=159) (cs:=#[.int .i64 f1,.int .i64 f2]) (by simp) (i:=0) rfl
          have fd0:=K4.out.f (g:=b7) (t:=159) (cs:=#[.int .i64 f1,.int .i64 f2]) (by simp) 0
          have d1:=K4.out.c (g:=b7) (t:=159) (cs:=#[.int .i64 f1,.int .i64 f2]) (by simp) (i:=1) rfl
          have fd1:=K4.out.f (g:=b7) (t:=159) (cs:=#[.int .i64 f1,.int .i64 f2]) (by simp) 1
          have g0:=K4.out.c (g:=b8) (t:=159) (cs:=#[.int .i64 l1,.int .i64 l2]) (by simp) (i:=0) rfl
          have g1:=K4.out.c (g:=b8) (t:=159) (cs:=#[.int .i64 l1,.int .i64 l2]) (by simp) (i:=1) rfl
          have hne':b8≠b7:=fun h=>hne h.symm
          have hne3:wr.heap.size≠b7:=by have:=lt7.out;omega
          have hne4:wr.heap.size≠b8:=by have:=lt8.out;omega
          go_wp2_with fail;refine (D2.out _).mono ?_;rintro e w5 ⟨rfl,hb⟩;have K6:=Lib.hid (KS.below K5.out hb);clear hb c0 c1 g0 g1 d0 d1 fd0 fd1;have K7:=Lib.hid (((K6.out.sub (l':=[(b8,159,#[.int .i64 l1,.int .i64 l2]),(wr.heap.size,159,#[.int .i64 cx,.int .i64 cy]),(b7,159,#[.int .i64 cx,.int .i64 cy]),(w.heap.size+1+1,26,#[.int .i64 0,.int .i64 0])]) (by intro q hq;simp at hq ⊢;rcases hq with rfl|rfl|rfl|rfl<;>simp)).set (by omega) (by have:=lt8.out;intro q hq;simp at hq;rcases hq with rfl|rfl|rfl<;>simp<;>omega) 0 (.int .i64 cx)).set (by omega) (by have:=lt8.out;intro q hq;simp at hq;rcases hq with rfl|rfl|rfl<;>simp<;>omega) 1 (.int .i64 cy))
          have c0:=K6.out.c (g:=wr.heap.size) (t:=159) (cs:=#[.int .i64 cx,.int .i64 cy]) (by simp) (i:=0) rfl
          have c1:=K6.out.c (g:=wr.heap.size) (t:=159) (cs:=#[.int .i64 cx,.int .i64 cy]) (by simp) (i:=1) rfl
          have g0:=K6.out.c (g:=b8) (t:=159) (cs:=#[.int .i64 l1,.int .i64 l2]) (by simp) (i:=0) rfl
          have fg0:=K6.out.f (g:=b8) (t:=159) (cs:=#[.int .i64 l1,.int .i64 l2]) (by simp) 0
          have g1:=K6.out.c (g:=b8) (t:=159) (cs:=#[.int .i64 l1,.int .i64 l2]) (by simp) (i:=1) rfl
          have fg1:=K6.out.f (g:=b8) (t:=159) (cs:=#[.int .i64 l1,.int .i64 l2]) (by simp) 1
          have FIN:=Lib.hid (GOAL.out _ (K7.out.sub (by intro q hq;simp at hq ⊢;rcases hq with rfl|rfl|rfl<;>simp)))
          clear GOAL K4 K5 K6 D1 D2 K7;go_wp2;exact FIN.out
        . rw [Bool.not_eq_true] at hb2;rw [hb2,if_neg (by simp)] at LS
          rw [hb2] at D2;replace D2:=Lib.hid D2;clear hb2;subst LS;have c0:=K3.out.c (g:=wr.heap.size) (t:=159) (cs:=#[.int .i64 cx,.int .i64 cy]) (by simp) (i:=0) rfl
          have c1:=K3.out.c (g:=wr.heap.size) (t:=159) (cs:=#[.int .i64 cx,.int .i64 cy]) (by simp) (i:=1) rfl
          have d0:=K3.out.c (g:=b7) (t:=159) (cs:=#[.int .i64 f1,.int .i64 f2]) (by simp) (i:=0) rfl
          have d1:=K3.out.c (g:=b7) (t:=159) (cs:=#[.int .i64 f1,.int .i64 f2]) (by simp) (i:=1) rfl
          go_wp2_with fail;refine (D1.out _).mono ?_;rintro e w3 ⟨rfl,hb⟩;have K4:=Lib.hid (K3.out.below hb);clear hb c0 c1 d0 d1 K3;have K5:=Lib.hid (((K4.out.sub (l':=[(b7,159,#[.int .i64 f1,.int .i64 f2]),(wr.heap.size,159,#[.int .i64 cx,.int .i64 cy]),(b8,159,#[.int .i64 l1,.int .i64 l2]),(w.heap.size+1+1,26,#[.int .i64 0,.int .i64 0])]) (by intro q hq;simp at hq ⊢;rcases hq with rfl|rfl|rfl|rfl<;>simp)).set (by omega) (by have:=lt7.out;intro q hq;simp at hq;rcases hq with rfl|rfl|rfl<;>simp<;>omega) 0 (.int .i64 cx)).set (by omega) (by have:=lt7.out;intro q hq;simp at hq;rcases hq with rfl|rfl|rfl<;>simp<;>omega) 1 (.int .i64 cy))
          have c0:=K4.out.c (g:=wr.heap.size) (t:=159) (cs:=#[.int .i64 cx,.int .i64 cy]) (by simp) (i:=0) rfl
          have c1:=K4.out.c (g:=wr.heap.size) (t:=159) (cs:=#[.int .i64 cx,.int .i64 cy]) (by simp) (i:=1) rfl
          have d0:=K4.out.c (g:=b7) (t:=159) (cs:=#[.int .i64 f1,.int .i64 f2]) (by simp) (i:=0) rfl
          have fd0:=K4.out.f (g:=b7) (t:=159) (cs:=#[.int .i64 f1,.int .i64 f2]) (by simp) 0
          have d1:=K4.out.c (g:=b7) (t:=159) (cs:=#[.int .i64 f1,.int .i64 f2]) (by simp) (i:=1) rfl
          have fd1:=K4.out.f (g:=b7) (t:=159) (cs:=#[.int .i64 f1,.int .i64 f2]) (by simp) 1
          have g0:=K4.out.c (g:=b8) (t:=159) (cs:=#[.int .i64 l1,.int .i64 l2]) (by simp) (i:=0) rfl
          have g1:=K4.out.c (g:=b8) (t:=159) (cs:=#[.int .i64 l1,.int .i64 l2]) (by simp) (i:=1) rfl
          have hne':b8≠b7:=fun h=>hne h.symm
          have hne3:wr.heap.size≠b7:=by have:=lt7.out;omega
          have hne4:wr.heap.size≠b8:=by have:=lt8.out;omega
          go_wp2_with fail;refine (D2.out _).mono ?_;rintro e w5 ⟨rfl,hb⟩;have K6:=Lib.hid (KS.below K5.out hb);clear hb c0 c1 g0 g1 d0 d1 fd0 fd1;have FIN:=Lib.hid (GOAL.out _ (K6.out.sub (by intro q hq;simp at hq ⊢;rcases hq with rfl|rfl|rfl<;>simp)))
          clear GOAL K4 K5 K6 D1 D2;go_wp2;exact FIN.out
      . rw [Bool.not_eq_true] at hb1;rw [hb1,if_neg (by simp)] at FS
        rw [hb1] at D1;replace D1:=Lib.hid D1;clear hb1;subst FS
        by_cases hb2:pI l1 l2 cx cy=true
        . rw [hb2,if_pos rfl] at LS;rw [hb2] at D2;replace D2:=Lib.hid D2;clear hb2;subst LS;have c0:=K3.out.c (g:=wr.heap.size) (t:=159) (cs:=#[.int .i64 cx,.int .i64 cy]) (by simp) (i:=0) rfl
          have c1:=K3.out.c (g:=wr.heap.size) (t:=159) (cs:=#[.int .i64 cx,.int .i64 cy]) (by simp) (i:=1) rfl
          have d0:=K3.out.c (g:=b7) (t:=159) (cs:=#[.int .i64 f1,.int .i64 f2]) (by simp) (i:=0) rfl
          have d1:=K3.out.c (g:=b7) (t:=159) (cs:=#[.int .i64 f1,.int .i64 f2]) (by simp) (i:=1) rfl
          go_wp2_with fail;refine (D1.out _).mono ?_;rintro e w3 ⟨rfl,hb⟩;have K4:=Lib.hid (K3.out.below hb);clear hb c0 c1 d0 d1 K3;have K5:=K4;have c0:=K5.out.c (g:=wr.heap.size) (t:=159) (cs:=#[.int .i64 cx,.int .i64 cy]) (by simp) (i:=0) rfl
          have c1:=K5.out.c (g:=wr.heap.size) (t:=159) (cs:=#[.int .i64 cx,.int .i64 cy]) (by simp) (i:=1) rfl
          have g0:=K5.out.c (g:=b8) (t:=159) (cs:=#[.int .i64 l1,.int .i64 l2]) (by simp) (i:=0) rfl
          have g1:=K5.out.c (g:=b8) (t:=159) (cs:=#[.int .i64 l1,.int .i64 l2]) (by simp) (i:=1) rfl
          have hne':b8≠b7:=fun h=>hne h.symm
          have hne3:wr.heap.size≠b7:=by have:=lt7.out;omega
          have hne4:wr.heap.size≠b8:=by have:=lt8.out;omega
          go_wp2_with fail;refine (D2.out _).mono ?_;rintro e w5 ⟨rfl,hb⟩;have K6:=Lib.hid (KS.below K5.out hb);clear hb c0 c1 g0 g1;have K7:=Lib.hid (((K6.out.sub (l':=[(b8,159,#[.int .i64 l1,.int .i64 l2]),(wr.heap.size,159,#[.int .i64 cx,.int .i64 cy]),(b7,159,#[.int .i64 f1,.int .i64 f2]),(w.heap.size+1+1,26,#[.int .i64 0,.int .i64 0])]) (by intro q hq;simp at hq ⊢;rcases hq with rfl|rfl|rfl|rfl<;>simp)).set (by omega) (by have:=lt8.out;intro q hq;simp at hq;rcases hq with rfl|rfl|rfl<;>simp<;>omega) 0 (.int .i64 cx)).set (by omega) (by have:=lt8.out;intro q hq;simp at hq;rcases hq with rfl|rfl|rfl<;>simp<;>omega) 1 (.int .i64 cy))
          have c0:=K6.out.c (g:=wr.heap.size) (t:=159) (cs:=#[.int .i64 cx,.int .i64 cy]) (by simp) (i:=0) rfl
          have c1:=K6.out.c (g:=wr.heap.size) (t:=159) (cs:=#[.int .i64 cx,.int .i64 cy]) (by simp) (i:=1) rfl
          have g0:=K6.out.c (g:=b8) (t:=159) (cs:=#[.int .i64 l1,.int .i64 l2]) (by simp) (i:=0) rfl
          have fg0:=K6.out.f (g:=b8) (t:=159) (cs:=#[.int .i64 l1,.int .i64 l2]) (by simp) 0
          have g1:=K6.out.c (g:=b8) (t:=159) (cs:=#[.int .i64 l1,.int .i64 l2]) (by simp) (i:=1) rfl
          have fg1:=K6.out.f (g:=b8) (t:=159) (cs:=#[.int .i64 l1,.int .i64 l2]) (by simp) 1
          have FIN:=Lib.hid (GOAL.out _ (K7.out.sub (by intro q hq;simp at hq ⊢;rcases hq with rfl|rfl|rfl<;>simp)))
          clear GOAL K4 K5 K6 D1 D2 K7;go_wp2;exact FIN.out
        . rw [Bool.not_eq_true] at hb2;rw [hb2,if_neg (by simp)] at LS
          rw [hb2] at D2;replace D2:=Lib.hid D2;clear hb2;subst LS;have c0:=K3.out.c (g:=wr.heap.size) (t:=159) (cs:=#[.int .i64 cx,.int .i64 cy]) (by simp) (i:=0) rfl
          have c1:=K3.out.c (g:=wr.heap.size) (t:=159) (cs:=#[.int .i64 cx,.int .i64 cy]) (by simp) (i:=1) rfl
          have d0:=K3.out.c (g:=b7) (t:=159) (cs:=#[.int .i64 f1,.int .i64 f2]) (by simp) (i:=0) rfl
          have d1:=K3.out.c (g:=b7) (t:=159) (cs:=#[.int .i64 f1,.int .i64 f2]) (by simp) (i:=1) rfl
          go_wp2_with fail;refine (D1.out _).mono ?_;rintro e w3 ⟨rfl,hb⟩;have K4:=Lib.hid (K3.out.below hb);clear hb c0 c1 d0 d1 K3;have K5:=K4;have c0:=K5.out.c (g:=wr.heap.size) (t:=159) (cs:=#[.int .i64 cx,.int .i64 cy]) (by simp) (i:=0) rfl
          have c1:=K5.out.c (g:=wr.heap.size) (t:=159) (cs:=#[.int .i64 cx,.int .i64 cy]) (by simp) (i:=1) rfl
          have g0:=K5.out.c (g:=b8) (t:=159) (cs:=#[.int .i64 l1,.int .i64 l2]) (by simp) (i:=0) rfl
          have g1:=K5.out.c (g:=b8) (t:=159) (cs:=#[.int .i64 l1,.int .i64 l2]) (by simp) (i:=1) rfl
          have hne':b8≠b7:=fun h=>hne h.symm
          have hne3:wr.heap.size≠b7:=by have:=lt7.out;omega
          have hne4:wr.heap.size≠b8:=by have:=lt8.out;omega
          go_wp2_with fail;refine (D2.out _).mono ?_;rintro e w5 ⟨rfl,hb⟩;have K6:=Lib.hid (KS.below K5.out hb);clear hb c0 c1 g0 g1;have FIN:=Lib.hid (GOAL.out _ (K6.out.sub (by intro q hq;simp at hq ⊢;rcases hq with rfl|rfl|rfl<;>simp)))
          clear GOAL K4 K5 K6 D1 D2;go_wp2;exact FIN.out
    . have hk4:k=4:=by omega
      subst hk4;have FI:=mr xl xh yl yh 4;have LI:=vJ xl xh yl yh 4;have G1:=fun w=>Kv (aG xl xh yl yh 4).1 (aG xl xh yl yh 4).2 w (by have:=HXB.out;omega) (by have:=HYB.out;omega) (by have:=HXB.out;have:=HYB.out;have:=HO.out;omega)
      have G2:=fun w=>Kv (aT xl xh yl yh 4).1 (aT xl xh yl yh 4).2 w (by have:=HXB.out;omega) (by have:=HYB.out;omega) (by have:=HXB.out;have:=HYB.out;have:=HO.out;omega)
      have V1:=nK (aG xl xh yl yh 4).1 (aG xl xh yl yh 4).2;have V2:=nK (aT xl xh yl yh 4).1 (aT xl xh yl yh 4).2;rw [EL.out] at EH;clear FI LI;generalize aG xl xh yl yh 4=f at *
      generalize aT xl xh yl yh 4=l at *
      obtain ⟨f1,f2⟩:=f;obtain ⟨l1,l2⟩:=l;simp only [] at G1 G2 V1 V2 EL EH;generalize fF f1 f2=LO at *
      generalize gY f1 f2=EF at *
      generalize fF l1 l2=HI at *
      generalize gY l1 l2=EB at *
      obtain ⟨v1,v2⟩:=V1;obtain ⟨v3,v4⟩:=V2;replace G1:=Lib.hid G1;replace G2:=Lib.hid G2;have d0:=HW.out.c (g:=b7) (t:=159) (cs:=#[.int .i64 f1,.int .i64 f2]) (by simp) (i:=0) rfl
      have d1:=HW.out.c (g:=b7) (t:=159) (cs:=#[.int .i64 f1,.int .i64 f2]) (by simp) (i:=1) rfl
      go_wp2_with fail;refine (G1.out _).mono ?_;rintro e w3 ⟨rfl,hb⟩;have K4:=Lib.hid (KS.below HW.out hb);clear hb d0 d1 HW;have d0:=K4.out.c (g:=b8) (t:=159) (cs:=#[.int .i64 l1,.int .i64 l2]) (by simp) (i:=0) rfl
      have d1:=K4.out.c (g:=b8) (t:=159) (cs:=#[.int .i64 l1,.int .i64 l2]) (by simp) (i:=1) rfl
      go_wp2_with fail;refine (G2.out _).mono ?_;rintro e w5 ⟨rfl,hb⟩;have K5:=Lib.hid (K4.out.below hb);clear hb d0 d1 K4;have r0:=K5.out.c (g:=w.heap.size+1+1) (t:=26) (cs:=#[.int .i64 0,.int .i64 0]) (by simp) (i:=0) rfl
      have fr0:=K5.out.f (g:=w.heap.size+1+1) (t:=26) (cs:=#[.int .i64 0,.int .i64 0]) (by simp) 0
      have r1:=K5.out.c (g:=w.heap.size+1+1) (t:=26) (cs:=#[.int .i64 0,.int .i64 0]) (by simp) (i:=1) rfl
      have fr1:=K5.out.f (g:=w.heap.size+1+1) (t:=26) (cs:=#[.int .i64 0,.int .i64 0]) (by simp) 1
      have HB:=Lib.hid K5.out.1;clear K5 G1 G2
      by_cases hlt:HI<LO
      . cases EB
        . have e1:dJ yl yh xl xh=LO:=EL.out;have e2:eZ yl yh xl xh=HI+21600000+1:=by rw [EH.out];unfold upE;simp [hlt]
          have E1:=Lib.hid e1;have E2:=Lib.hid e2;clear e1 e2 EL EH;go_wp2;refine bodyPost_ret (v:=.tuple #[.agg #[.int .i64 LO,.int .i64 (HI+21600000+1)],.int .i64 0]) (by simp [results,Tryz.results117,go_sem,r0,r1]) rfl ⟨by rw [E1.out,E2.out],?_⟩
          have hb:=HB.out;go_grown
        . have e1:dJ yl yh xl xh=LO:=EL.out;have e2:eZ yl yh xl xh=HI+21600000:=by rw [EH.out];unfold upE;simp [hlt]
          have E1:=Lib.hid e1;have E2:=Lib.hid e2;clear e1 e2 EL EH;go_wp2;refine bodyPost_ret (v:=.tuple #[.agg #[.int .i64 LO,.int .i64 (HI+21600000)],.int .i64 0]) (by simp [results,Tryz.results117,go_sem,r0,r1]) rfl ⟨by rw [E1.out,E2.out],?_⟩
          have hb:=HB.out;go_grown
      . cases EB
        . have e1:dJ yl yh xl xh=LO:=EL.out;have e2:eZ yl yh xl xh=HI+1:=by rw [EH.out];unfold upE;simp [hlt]
          have E1:=Lib.hid e1;have E2:=Lib.hid e2;clear e1 e2 EL EH;go_wp2;refine bodyPost_ret (v:=.tuple #[.agg #[.int .i64 LO,.int .i64 (HI+1)],.int .i64 0]) (by simp [results,Tryz.results117,go_sem,r0,r1]) rfl ⟨by rw [E1.out,E2.out],?_⟩
          have hb:=HB.out;go_grown
        . have e1:dJ yl yh xl xh=LO:=EL.out;have e2:eZ yl yh xl xh=HI:=by rw [EH.out];unfold upE;simp [hlt]
          have E1:=Lib.hid e1;have E2:=Lib.hid e2;clear e1 e2 EL EH;go_wp2;refine bodyPost_ret (v:=.tuple #[.agg #[.int .i64 LO,.int .i64 (HI)],.int .i64 0]) (by simp [results,Tryz.results117,go_sem,r0,r1]) rfl ⟨by rw [E1.out,E2.out],?_⟩
          have hb:=HB.out;go_grown
theorem Mj (yl yh xl xh:Int) (w:World) (hy:fxV yl yh=true) (hx:fxV xl xh=true) :
 Calls Tryz.prog 117 #[.agg #[.int .i64 yl,.int .i64 yh],.agg #[.int .i64 xl,.int .i64 xh]] w fun e w'=>e=.returned (.tuple #[.agg #[.int .i64 (dJ yl yh xl xh),.int .i64 (eZ yl yh xl xh)],.int .i64 0])/\Below w.heap.size w w':=by
 by_cases h:xl<=0/\0<=xh/\yl<=0/\0<=yh
 . have e1:dJ yl yh xl xh=0:=by unfold dJ iK;simp [h]
   have e2:eZ yl yh xl xh=21600000:=by unfold eZ iK;simp [h]
   rw [e1,e2];exact Ti yl yh xl xh w hy hx h.1 h.2.1 h.2.2.1 h.2.2.2
 . exact Ql yl yh xl xh w hy hx h
