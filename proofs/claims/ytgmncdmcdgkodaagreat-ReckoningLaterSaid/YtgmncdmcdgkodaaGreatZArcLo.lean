/- Plain numbers: the sine and the cosine of package arctrig, with 192 binary digits behind the point. -/
import Derived.Test.YtgmncdmcdgkodaaGreatZNums
import Derived.Test.YtgmncdmcdgkodaaGreatZLo
import Derived.Laws.StructEq
set_option linter.unusedVariables false
set_option linter.unusedSimpArgs false
namespace Alm
def QA:Nat:=2^192
theorem xm:QA=6277101735386680763835789423207666416102355444464034512896:=by unfold QA;decide +kernel
def PiA:Nat:=3*2^192+0x243F6A8885A308D313198A2E03707344A4093822299F31D0
def bu (A B:Nat):Nat:=A*B/QA
def cO (n:Nat):Nat:=n*PiA/10800000
def Gt:Nat->Nat->Nat->Nat->Int
 | 0,T,_,_=>T
 | m+1,T,Y,j=>T-Gt m (bu T Y/((j+1)*(j+2))) Y (j+2)
def sqA (n:Nat):Nat:=bu (cO n) (cO n)
def Ip:Nat->Nat
 | 0=>QA
 | i+1=>Ip i/((2*i+1)*(2*i+2))
attribute [irreducible] Gt bu cO QA PiA Ip
end Alm
namespace Alm
def w8:Nat->Int
 | 0=>726838724295606890549323807888004534353641360687318060281490199180639288113397923326191050713763565560762521606266177933534601628614656|1=>39402006196394479212279040100143613805079739270465446667948293404245721771497210611414266254884915640806627990306816|2=>2135987035920910082395021706169552114602704522356652769947041607822219725780640550022962086936576|3=>2^256|4=>2^192|5=>2^128|6=>2^64|7=>1|_=>0
def V8 (o:Nat->Int):Int:=o 0*w8 0+o 1*w8 1+o 2*w8 2+o 3*w8 3+o 4*w8 4+o 5*w8 5+o 6*w8 6+o 7*w8 7
theorem BG (o:Nat->Int) (p:Nat) (v:Int) (hp:p<=7):V8 (upd o p v)=V8 o+(v-o p)*w8 p:=by
 have:p=0∨p=1∨p=2∨p=3∨p=4∨p=5∨p=6∨p=7:=by omega
 rcases this with rfl|rfl|rfl|rfl|rfl|rfl|rfl|rfl<;>simp only [V8,upd]<;>simp (decide:=true) only [if_true,if_false]<;>grind
theorem Ey (p:Nat) (hp:p<7):w8 p=18446744073709551616*w8 (p+1):=by
 have:p=0∨p=1∨p=2∨p=3∨p=4∨p=5∨p=6:=by omega
 rcases this with rfl|rfl|rfl|rfl|rfl|rfl|rfl<;>rfl
def h4:Nat->Int
 | 0=>2^192|1=>2^128|2=>2^64|3=>1|_=>0
theorem G5 (i k:Nat) (hi:i<=3) (hk:k<=3):w8 (i+k+1)=h4 i*h4 k:=by
 have a:i=0∨i=1∨i=2∨i=3:=by omega
 have b:k=0∨k=1∨k=2∨k=3:=by omega
 rcases a with rfl|rfl|rfl|rfl<;>rcases b with rfl|rfl|rfl|rfl<;>rfl
def bH (b:Nat->Int):Nat->Int
 | 0=>0
 | m+1=>bH b m+b (3-m)*h4 (3-m)
theorem xZ (b:Nat->Int):bH b 4=V4 b:=by
 simp [bH,V4,h4];omega
theorem yL (a b o:Nat->Int) (i j:Nat) (c hi lo s1 c1 s2 c2:Int) (hi3:i<=3) (hj3:j<=3)
 (e0:lo=a i*b j-18446744073709551616*hi) (e1:s1=lo+o (i+j+1)-18446744073709551616*c1) (e2:s2=s1+c-18446744073709551616*c2)
 (T:Int) (h:V8 o+c*w8 (i+j+1)=T+a i*h4 i*bH b (3-j)) :
 V8 (upd o (i+j+1) s2)+(hi+c1+c2)*w8 (i+j)=T+a i*h4 i*bH b (3-j+1):=by
 rw [BG o _ _ (by omega),Ey (i+j) (by omega)]
 simp only [bH];have e3:3-(3-j)=j:=by omega
 have e4:=G5 i j hi3 hj3;rw [e3];rw [e4] at h ⊢
 generalize h4 i=x at *
 generalize h4 j=y at *
 generalize V8 o=v at *
 generalize bH b (3-j)=r at *
 subst e2 e1 e0;grind
theorem BJ (a b o:Nat->Int) (i:Nat) (c:Int) (hi3:i<=3) (h0:o i=0)
 (h:V8 o+c*w8 i=bH a (3-i)*V4 b+a i*h4 i*bH b 4):V8 (upd o i c)=bH a (3-i+1)*V4 b:=by
 rw [BG o _ _ (by omega),h0]
 simp only [xZ] at h;simp only [bH];have e3:3-(3-i)=i:=by omega
 rw [e3];grind
theorem FW (o:Nat->Int) (ho:∀ k,k<8->LU (o k)) (A B:Nat) (h:V8 o=(A:Int)*B) (hs:A*B<2^448) :
 V4 (fun k=>o (k+1))=(bu A B:Int):=by
 have h0:=ho 0 (by omega);have h1:=ho 1 (by omega);have h2:=ho 2 (by omega);have h3:=ho 3 (by omega);have h4:=ho 4 (by omega);have h5:=ho 5 (by omega);have h6:=ho 6 (by omega);have h7:=ho 7 (by omega)
 have e:(A:Int)*B=((A*B:Nat):Int):=by norm_cast
 rw [e] at h;unfold bu;rw [xm];generalize A*B=P at *
 simp only [LU,V8,V4,w8,Nat.zero_add,Nat.reduceAdd] at *
 omega
end Alm
namespace Go.Proofs.YtgmncdmcdgkodaaGreat
open Go.RowKit Alm
structure Bj (a b:Nat->Int) (w wr:World) (o:Nat->Int):Prop where
 below:Below w.heap.size w wr
 ra:Row wr w.heap.size 4 a
 rb:Row wr (w.heap.size+1) 4 b
 rr:Row wr (w.heap.size+1+1) 4 (fun _=>0)
 ro:Row wr (w.heap.size+1+1+1) 8 o
theorem Bj.set {a b:Nat->Int} {w wr:World} {o:Nat->Int} (h:Bj a b w wr o) (q p:Nat) (v:Int) (hp:p<8) (hv:U64 v) :
 Bj a b w ((wr.drewN q).setCell ⟨w.heap.size+1+1+1,p,none⟩ (.int .u64 v)) (upd o p v) :=
 ⟨(below_drewN h.below q).setCell (by show w.heap.size<=w.heap.size+1+1+1;omega) _,(h.ra.drewN q).other _ (by omega),(h.rb.drewN q).other _ (by omega),(h.rr.drewN q).other _ (by omega),(h.ro.drewN q).set v hp hv⟩
end Go.Proofs.YtgmncdmcdgkodaaGreat
namespace Go.Proofs.YtgmncdmcdgkodaaGreat
open Go.RowKit
theorem Gx (w:World) (d:Nat) (a b:Int):(Op.equalIn (d+1) 117 (.int .u64 a) (.int .u64 b)).run Tryz.prog w=.ok (a==b) w:=run_equalIn_int w d _ .u64 .u64 _ _ Tryz.underlying117
end Go.Proofs.YtgmncdmcdgkodaaGreat
namespace Go.Proofs.YtgmncdmcdgkodaaGreat
open Go.RowKit Alm
theorem rU (r0 r1 r2 r3:Int) (h0:U64 r0) (h1:U64 r1) (h2:U64 r2) (h3:U64 r3) (A:Nat) (h:r0*2^192+r1*2^128+r2*2^64+r3=(A:Int)):r0=nl A 0/\r1=nl A 1/\r2=nl A 2/\r3=nl A 3:=by
 have hr:∀ k,k<4->LU ((fun k=>match k with|0=>r0|1=>r1|2=>r2|_=>r3) k):=by
  intro k hk;have:k=0∨k=1∨k=2∨k=3:=by omega
  rcases this with rfl|rfl|rfl|rfl
  . exact h0
  . exact h1
  . exact h2
  . exact h3
 have hv:V4 (fun k=>match k with|0=>r0|1=>r1|2=>r2|_=>r3)=(A:Int):=by simp only [V4];exact h
 exact qh _ hr _ hv
def lexB (a0 a1 a2 a3 b0 b1 b2 b3:Int):Bool:=decide (a0<b0∨a0=b0/\(a1<b1∨a1=b1/\(a2<b2∨a2=b2/\a3<b3)))
theorem Eg (A B:Nat) (hA:A<W) (hB:B<W):lexB (nl A 0) (nl A 1) (nl A 2) (nl A 3) (nl B 0) (nl B 1) (nl B 2) (nl B 3)=decide (A<B):=by
 have va:=eT A hA;have vb:=eT B hB;unfold V4 at va vb;have a0:=aB A 0;have a1:=aB A 1;have a2:=aB A 2;have a3:=aB A 3;have b0:=aB B 0;have b1:=aB B 1;have b2:=aB B 2;have b3:=aB B 3;unfold lexB LU at *
 rw [Bool.eq_iff_iff];simp only [decide_eq_true_eq];generalize nl A 0=a0 at *
 generalize nl A 1=a1 at *
 generalize nl A 2=a2 at *
 generalize nl A 3=a3 at *
 generalize nl B 0=b0 at *
 generalize nl B 1=b1 at *
 generalize nl B 2=b2 at *
 generalize nl B 3=b3 at *
 omega
theorem gy {a b:Bool} (h:a=b):Ending.returned (.bool a)=.returned (.bool b):=by rw [h]
theorem Gg:PiA<W:=by unfold PiA W;decide +kernel
theorem Es (A:Nat) (hA:A<W):(nl A 0==0&&(nl A 1==0&&(nl A 2==0&&nl A 3==0)))=decide (A=0):=by
 have va:=eT A hA;unfold V4 at va;have a0:=aB A 0;have a1:=aB A 1;have a2:=aB A 2;have a3:=aB A 3;unfold LU at *
 generalize nl A 0=x0 at *
 generalize nl A 1=x1 at *
 generalize nl A 2=x2 at *
 generalize nl A 3=x3 at *
 rw [Bool.eq_iff_iff];simp only [Bool.and_eq_true,beq_iff_eq,decide_eq_true_eq];omega
