/- The walk of the law LookupTables over contracts. -/
import Derived.Test.YtoniodlcogpdbaaGreatZColW
import Derived.Deep.RegionHeld3
import Derived.Deep.DeepCutAuto
set_option linter.unusedVariables false
set_option linter.unusedSimpArgs false
set_option maxRecDepth 100000
set_option maxHeartbeats 4000000
namespace Go.Proofs.YtoniodlcogpdbaaGreat
open Go.RowKit Alm Sx
theorem JR {w wr:World} {l:List (Nat × TypeId × Array Value)} {n:Nat} {t:TypeId} {c0 c1 c2 c3 c4 c5:Value} (h:KS w wr ((n,t,#[c0,c1,c2,c3,c4,c5])::l)) (hn:w.heap.size<=n) (hd:∀ p∈l,p.1≠n) (e0 e1 e2 e3 e4 e5:Value):KS w ((((((wr.setCell ⟨n,0,none⟩ e0).setCell ⟨n,1,none⟩ e1).setCell ⟨n,2,none⟩ e2).setCell ⟨n,3,none⟩ e3).setCell ⟨n,4,none⟩ e4).setCell ⟨n,5,none⟩ e5) ((n,t,#[e0,e1,e2,e3,e4,e5])::l):=by
 simpa using (((((h.set hn hd 0 e0).set hn hd 1 e1).set hn hd 2 e2).set hn hd 3 e3).set hn hd 4 e4).set hn hd 5 e5
theorem Jc {w wr:World} {l:List (Nat × TypeId × Array Value)} {n:Nat} {t:TypeId} {c0 c1 c2 c3:Value} (h:KS w wr ((n,t,#[c0,c1,c2,c3])::l)) (hn:w.heap.size<=n) (hd:∀ p∈l,p.1≠n) (e0 e1 e2 e3:Value):KS w ((((wr.setCell ⟨n,0,none⟩ e0).setCell ⟨n,1,none⟩ e1).setCell ⟨n,2,none⟩ e2).setCell ⟨n,3,none⟩ e3) ((n,t,#[e0,e1,e2,e3])::l):=by
 simpa using (((h.set hn hd 0 e0).set hn hd 1 e1).set hn hd 2 e2).set hn hd 3 e3
theorem adK {w wr:World} {l:List (Nat × TypeId × Array Value)} {g:Nat} {t:TypeId} {v0 v1 v2 v3 v4 v5:Value} (h:KS w wr ((g,t,#[v0,v1,v2,v3,v4,v5])::l)):wr.cell? ⟨g,0,none⟩=some v0/\wr.cell? ⟨g,1,none⟩=some v1/\wr.cell? ⟨g,2,none⟩=some v2/\wr.cell? ⟨g,3,none⟩=some v3/\wr.cell? ⟨g,4,none⟩=some v4/\wr.cell? ⟨g,5,none⟩=some v5/\wr.frozen? ⟨g,0,none⟩=false/\wr.frozen? ⟨g,1,none⟩=false/\wr.frozen? ⟨g,2,none⟩=false/\wr.frozen? ⟨g,3,none⟩=false/\wr.frozen? ⟨g,4,none⟩=false/\wr.frozen? ⟨g,5,none⟩=false :=
 have m:=List.mem_cons_self (a:=(g,t,#[v0,v1,v2,v3,v4,v5])) (l:=l)
 ⟨h.c m rfl,h.c m rfl,h.c m rfl,h.c m rfl,h.c m rfl,h.c m rfl,h.f m 0,h.f m 1,h.f m 2,h.f m 3,h.f m 4,h.f m 5⟩
theorem Co {w wr:World} {l:List (Nat × TypeId × Array Value)} {g:Nat} {t:TypeId} {v0 v1 v2 v3:Value} (h:KS w wr ((g,t,#[v0,v1,v2,v3])::l)):wr.cell? ⟨g,0,none⟩=some v0/\wr.cell? ⟨g,1,none⟩=some v1/\wr.cell? ⟨g,2,none⟩=some v2/\wr.cell? ⟨g,3,none⟩=some v3/\wr.frozen? ⟨g,0,none⟩=false/\wr.frozen? ⟨g,1,none⟩=false/\wr.frozen? ⟨g,2,none⟩=false/\wr.frozen? ⟨g,3,none⟩=false :=
 have m:=List.mem_cons_self (a:=(g,t,#[v0,v1,v2,v3])) (l:=l)
 ⟨h.c m rfl,h.c m rfl,h.c m rfl,h.c m rfl,h.f m 0,h.f m 1,h.f m 2,h.f m 3⟩
theorem EZ (a b c d:Int) (h:a=c/\b=d):∀ w,(binOp .neq 26 (.agg #[.int .i64 a,.int .i64 b]) (.agg #[.int .i64 c,.int .i64 d])).run Tryz.prog w=.ok (.bool false) w:=fun w=>by
 have:=(Sx.eql_ints (P:=Tryz.prog) (t:=26) (k:=2) (by kernel_rfl) (by kernel_rfl) [a,b] [c,d] rfl rfl w).2
 rw [decide_eq_true (by rw [h.1,h.2])] at this
 exact this
theorem Dx (a b c d:Int) (h:¬ (a=c/\b=d)):∀ w,(binOp .neq 26 (.agg #[.int .i64 a,.int .i64 b]) (.agg #[.int .i64 c,.int .i64 d])).run Tryz.prog w=.ok (.bool true) w:=fun w=>by
 have:=(Sx.eql_ints (P:=Tryz.prog) (t:=26) (k:=2) (by kernel_rfl) (by kernel_rfl) [a,b] [c,d] rfl rfl w).2
 rw [decide_eq_false (by intro e;injection e with e1 e2;injection e2 with e2 _;exact h ⟨e1,e2⟩)] at this
 exact this
theorem wT {w wr:World} {l:List (Nat × TypeId × Array Value)} (h:KS w wr l):∀ p∈l,p.1≠wr.heap.size:=fun p hp e=>by
 have:=(h.2 p hp).lt;omega
def TbE (X Y:Nat->Nat->Nat->Int) (S:Nat->Nat->Nat->Int) (i j:Nat):Prop:=X i j 0=S i j 0/\X i j 1=S i j 1/\Y i j 0=S i j 2/\Y i j 1=S i j 3
def TbG (Eh Ez xh xz:Nat->Int) (X Y:Nat->Nat->Nat->Int) (S:Nat->Nat->Nat->Int) (i:Nat):Prop:=xh i<=Eh i/\xz i<=Ez i/\∀ j,j<2->TbE X Y S i j
theorem UQ (la d0 d1 l0 l1 r0 r1 r2 r3 m0 m1 m2 m3 f:Int) (De Eh Ez xh xz:Nat->Int) (bH oH cH bZ oZ cZ:Nat->Nat) (k:Nat) (Hs Zs:Nat->Cs) (X Y S:Nat->Nat->Nat->Int) (IB:Bool) (w:World)
 (hk:k<=179) (hl0:0<=l0/\l0<=10800000) (hkl:Hid ((k:Int)=min (l0/60000) 179)) (hDe:-90<=De 1/\De 1<=90)
 (RH:Hid (∀ i,i<2->jQ 2 w (bH i) (oH i) (Hs i))) (RZ:Hid (∀ i,i<2->jQ 2 w (bZ i) (oZ i) (Zs i)))
 (LH:Hid (∀ i,i<2->(Hs i).length=181/\(Zs i).length=181))
 (EH:Hid (∀ i,i<2->∀ j,j<2->(Hs i)[k+j]? = some [X i j 0,X i j 1]/\(Zs i)[k+j]? = some [Y i j 0,Y i j 1]))
 (HG:Hid (TbG Eh Ez xh xz X Y S 0->TbG Eh Ez xh xz X Y S 1->f=24∨d0=De 1*60000∨f=0/\IB=true))
 (CA:Hid (∀ (w:World),Calls Tryz.prog 4 #[] w fun e w'=>e=.returned (.bool true)/\Below w.heap.size w w'))
 (CP:Hid (∀ (w:World),Calls Tryz.prog 5 #[.agg #[.int .i64 la,.int .i64 (De 0),.slice (some ⟨bH 0,oH 0,none⟩) 181 (cH 0),.slice (some ⟨bZ 0,oZ 0,none⟩) 181 (cZ 0),.int .i64 (Eh 0),.int .i64 (Ez 0)]] w fun e w'=>e=.returned (.bool false)/\Below w.heap.size w w'))
 (CQ:Hid (∀ (w:World),Calls Tryz.prog 5 #[.agg #[.int .i64 la,.int .i64 (De 1),.slice (some ⟨bH 1,oH 1,none⟩) 181 (cH 1),.slice (some ⟨bZ 1,oZ 1,none⟩) 181 (cZ 1),.int .i64 (Eh 1),.int .i64 (Ez 1)]] w fun e w'=>e=.returned (.bool false)/\Below w.heap.size w w'))
 (CF:Hid (∀ wx:World,Below w.heap.size w wx->Calls Tryz.prog 6 #[.agg #[.int .i64 la,.int .i64 (De 0),.slice (some ⟨bH 0,oH 0,none⟩) 181 (cH 0),.slice (some ⟨bZ 0,oZ 0,none⟩) 181 (cZ 0),.int .i64 (Eh 0),.int .i64 (Ez 0)],.agg #[.int .i64 la,.int .i64 (De 1),.slice (some ⟨bH 1,oH 1,none⟩) 181 (cH 1),.slice (some ⟨bZ 1,oZ 1,none⟩) 181 (cZ 1),.int .i64 (Eh 1),.int .i64 (Ez 1)],.agg #[.int .i64 d0,.int .i64 d1],.agg #[.int .i64 l0,.int .i64 l1]] wx fun e w'=>e=.returned (.tuple #[.agg #[.int .i64 r0,.int .i64 r1,.int .i64 r2,.int .i64 r3],.int .i64 0])/\Below wx.heap.size wx w'))
 (CG:Hid (∀ (w:World),Calls Tryz.prog 7 #[.int .i64 la] w fun e w'=>e=.returned (.agg #[.int .i64 (la*60000),.int .i64 (la*60000)])/\Below w.heap.size w w'))
 (CD:Hid (∀ (i:Nat) (_:i<2) (w:World),Calls Tryz.prog 7 #[.int .i64 (De i)] w fun e w'=>e=.returned (.agg #[.int .i64 (De i*60000),.int .i64 (De i*60000)])/\Below w.heap.size w w'))
 (CK:Hid (∀ (j:Nat) (_:j<2) (w:World),Calls Tryz.prog 7 #[.int .i64 ((k:Int)+(j:Int))] w fun e w'=>e=.returned (.agg #[.int .i64 (((k:Int)+(j:Int))*60000),.int .i64 (((k:Int)+(j:Int))*60000)])/\Below w.heap.size w w'))
 (CE:Hid (∀ (i:Nat) (_:i<2) (w:World),Calls Tryz.prog 8 #[.agg #[.int .i64 (la*60000),.int .i64 (la*60000)],.agg #[.int .i64 (De i*60000),.int .i64 (De i*60000)],.int .i64 (k:Int)] w fun e w'=>e=.returned (.tuple #[.int .i64 (xh i),.int .i64 (xz i)])/\Below w.heap.size w w'))
 (CS:Hid (∀ (i:Nat) (_:i<2) (j:Nat) (_:j<2) (w:World),Calls Tryz.prog 9 #[.agg #[.int .i64 (la*60000),.int .i64 (la*60000),.int .i64 (De i*60000),.int .i64 (De i*60000),.int .i64 (((k:Int)+(j:Int))*60000),.int .i64 (((k:Int)+(j:Int))*60000)]] w fun e w'=>e=.returned (.agg #[.int .i64 (S i j 0),.int .i64 (S i j 1),.int .i64 (S i j 2),.int .i64 (S i j 3)])/\Below w.heap.size w w'))
 (CL:Hid (∀ (w:World),Calls Tryz.prog 10 #[.agg #[.int .i64 (la*60000),.int .i64 (la*60000),.int .i64 d0,.int .i64 d1,.int .i64 l0,.int .i64 l1]] w fun e w'=>e=.returned (.tuple #[.agg #[.int .i64 m0,.int .i64 m1,.int .i64 m2,.int .i64 m3],.int .i64 f])/\Below w.heap.size w w'))
 (CI:Hid (∀ (w:World),Calls Tryz.prog 11 #[.agg #[.int .i64 m0,.int .i64 m1,.int .i64 m2,.int .i64 m3],.agg #[.int .i64 r0,.int .i64 r1,.int .i64 r2,.int .i64 r3]] w fun e w'=>e=.returned (.bool IB)/\Below w.heap.size w w')) :
 Calls Tryz.prog 3 #[.agg #[.int .i64 la,.int .i64 (De 0),.slice (some ⟨bH 0,oH 0,none⟩) 181 (cH 0),.slice (some ⟨bZ 0,oZ 0,none⟩) 181 (cZ 0),.int .i64 (Eh 0),.int .i64 (Ez 0)],.agg #[.int .i64 la,.int .i64 (De 1),.slice (some ⟨bH 1,oH 1,none⟩) 181 (cH 1),.slice (some ⟨bZ 1,oZ 1,none⟩) 181 (cZ 1),.int .i64 (Eh 1),.int .i64 (Ez 1)],.agg #[.int .i64 d0,.int .i64 d1],.agg #[.int .i64 l0,.int .i64 l1]] w fun e w'=>e=.returned (.bool true)/\Below w.heap.size w w':=by
 have K0:=Lib.hid ((((az w).new w.heap.size rfl 24 #[.int .i64 la,.int .i64 (De 0),.slice (some ⟨bH 0,oH 0,none⟩) 181 (cH 0),.slice (some ⟨bZ 0,oZ 0,none⟩) 181 (cZ 0),.int .i64 (Eh 0),.int .i64 (Ez 0)]).new (w.heap.size+1) (by simp) 24 #[.int .i64 la,.int .i64 (De 1),.slice (some ⟨bH 1,oH 1,none⟩) 181 (cH 1),.slice (some ⟨bZ 1,oZ 1,none⟩) 181 (cZ 1),.int .i64 (Eh 1),.int .i64 (Ez 1)]).new (w.heap.size+1+1) (by simp) 26 #[.int .i64 d0,.int .i64 d1] |>.new (w.heap.size+1+1+1) (by simp) 26 #[.int .i64 l0,.int .i64 l1])
 go_enter Tryz.func3,Tryz.ntmps3;go_wp2_with fail;refine (CA.out _).mono ?_;rintro e w1 ⟨rfl,hb⟩;have K1:=Lib.hid (K0.out.below hb);clear hb K0 CA;obtain ⟨a0,a1,a2,a3,a4,a5⟩:=kc6 K1.out (w.heap.size) 24 (.int .i64 la) (.int .i64 (De 0)) (.slice (some ⟨bH 0,oH 0,none⟩) 181 (cH 0)) (.slice (some ⟨bZ 0,oZ 0,none⟩) 181 (cZ 0)) (.int .i64 (Eh 0)) (.int .i64 (Ez 0)) (by simp)
 go_wp2_with fail;refine (CP.out _).mono ?_;rintro e w2 ⟨rfl,hb⟩;have K2:=Lib.hid (K1.out.below hb);clear hb K1 CP a0 a1 a2 a3 a4 a5;obtain ⟨a0,a1,a2,a3,a4,a5⟩:=kc6 K2.out (w.heap.size+1) 24 (.int .i64 la) (.int .i64 (De 1)) (.slice (some ⟨bH 1,oH 1,none⟩) 181 (cH 1)) (.slice (some ⟨bZ 1,oZ 1,none⟩) 181 (cZ 1)) (.int .i64 (Eh 1)) (.int .i64 (Ez 1)) (by simp)
 go_wp2_with fail;refine (CQ.out _).mono ?_;rintro e w3 ⟨rfl,hb⟩;have K3:=Lib.hid (K2.out.below hb);clear hb K2 CQ a0 a1 a2 a3 a4 a5;obtain ⟨a0,a1,a2,a3,a4,a5⟩:=kc6 K3.out (w.heap.size) 24 (.int .i64 la) (.int .i64 (De 0)) (.slice (some ⟨bH 0,oH 0,none⟩) 181 (cH 0)) (.slice (some ⟨bZ 0,oZ 0,none⟩) 181 (cZ 0)) (.int .i64 (Eh 0)) (.int .i64 (Ez 0)) (by simp)
 obtain ⟨b0,b1,b2,b3,b4,b5⟩:=kc6 K3.out (w.heap.size+1) 24 (.int .i64 la) (.int .i64 (De 1)) (.slice (some ⟨bH 1,oH 1,none⟩) 181 (cH 1)) (.slice (some ⟨bZ 1,oZ 1,none⟩) 181 (cZ 1)) (.int .i64 (Eh 1)) (.int .i64 (Ez 1)) (by simp)
 obtain ⟨x0,x1⟩:=kc2 K3.out (w.heap.size+1+1) 26 (.int .i64 d0) (.int .i64 d1) (by simp)
 obtain ⟨y0,y1⟩:=kc2 K3.out (w.heap.size+1+1+1) 26 (.int .i64 l0) (.int .i64 l1) (by simp)
 go_wp2_with fail;refine (CF.out _ K3.out.1).mono ?_;rintro e w4 ⟨rfl,hb⟩;have K4:=Lib.hid ((K3.out.below hb).new w4.heap.size rfl 30 #[.int .i64 r0,.int .i64 r1,.int .i64 r2,.int .i64 r3]);clear hb K3 CF a0 a1 a2 a3 a4 a5 b0 b1 b2 b3 b4 b5 x0 x1 y0 y1;obtain ⟨a0,a1,a2,a3,a4,a5⟩:=kc6 K4.out (w.heap.size) 24 (.int .i64 la) (.int .i64 (De 0)) (.slice (some ⟨bH 0,oH 0,none⟩) 181 (cH 0)) (.slice (some ⟨bZ 0,oZ 0,none⟩) 181 (cZ 0)) (.int .i64 (Eh 0)) (.int .i64 (Ez 0)) (by simp)
 obtain ⟨b0,b1,b2,b3,b4,b5⟩:=kc6 K4.out (w.heap.size+1) 24 (.int .i64 la) (.int .i64 (De 1)) (.slice (some ⟨bH 1,oH 1,none⟩) 181 (cH 1)) (.slice (some ⟨bZ 1,oZ 1,none⟩) 181 (cZ 1)) (.int .i64 (Eh 1)) (.int .i64 (Ez 1)) (by simp)
 obtain ⟨x0,x1⟩:=kc2 K4.out (w.heap.size+1+1) 26 (.int .i64 d0) (.int .i64 d1) (by simp)
 obtain ⟨y0,y1⟩:=kc2 K4.out (w.heap.size+1+1+1) 26 (.int .i64 l0) (.int .i64 l1) (by simp)
 have q1:IntKind.i64.wrap (Int.tdiv l0 60000)=l0/60000:=by
  rw [Int.tdiv_eq_ediv_of_nonneg (by omega)]
  exact Go.IntWalk.i64_in _ (by omega)
 have qm:(if 0<l0/60000 then l0/60000 else 0)=l0/60000:=by split<;>omega
 have qk:(if l0/60000<179 then l0/60000 else 179)=(k:Int):=by
  rw [hkl.out];split<;>omega
 go_upto_region 11 with (fail)
 clear a1 a2 a3 a4 a5 b0 b1 b2 b3 b4 b5 q1 qm qk;generalize hW:w4.alloc _=W at *
 have HS:Hid (w.heap.size<=W.heap.size):=Lib.hid K4.out.1.size;generalize w4.heap.size=g9 at *
 clear hW;go_cut [12] (fun s12 wx=>∃ g,s12=.pointer (some ⟨g,0,none⟩)/\KS w wx [(g,36,#[.int .i64 (la*60000),.int .i64 (la*60000),.int .i64 d0,.int .i64 d1,.int .i64 l0,.int .i64 l1]),(g9,30,#[.int .i64 r0,.int .i64 r1,.int .i64 r2,.int .i64 r3]),(w.heap.size+1+1+1,26,#[.int .i64 l0,.int .i64 l1]),(w.heap.size+1+1,26,#[.int .i64 d0,.int .i64 d1]),(w.heap.size+1,24,#[.int .i64 la,.int .i64 (De 1),.slice (some ⟨bH 1,oH 1,none⟩) 181 (cH 1),.slice (some ⟨bZ 1,oZ 1,none⟩) 181 (cZ 1),.int .i64 (Eh 1),.int .i64 (Ez 1)]),(w.heap.size,24,#[.int .i64 la,.int .i64 (De 0),.slice (some ⟨bH 0,oH 0,none⟩) 181 (cH 0),.slice (some ⟨bZ 0,oZ 0,none⟩) 181 (cZ 0),.int .i64 (Eh 0),.int .i64 (Ez 0)])])
 case first =>
  have KD:Hid (KS w W.drew _):=Lib.hid K4.out.drew;have NE:Hid (∀ p∈([(g9,30,#[.int .i64 r0,.int .i64 r1,.int .i64 r2,.int .i64 r3]),(w.heap.size+1+1+1,26,#[.int .i64 l0,.int .i64 l1]),(w.heap.size+1+1,26,#[.int .i64 d0,.int .i64 d1]),(w.heap.size+1,24,#[.int .i64 la,.int .i64 (De 1),.slice (some ⟨bH 1,oH 1,none⟩) 181 (cH 1),.slice (some ⟨bZ 1,oZ 1,none⟩) 181 (cZ 1),.int .i64 (Eh 1),.int .i64 (Ez 1)]),(w.heap.size,24,#[.int .i64 la,.int .i64 (De 0),.slice (some ⟨bH 0,oH 0,none⟩) 181 (cH 0),.slice (some ⟨bZ 0,oZ 0,none⟩) 181 (cZ 0),.int .i64 (Eh 0),.int .i64 (Ez 0)])]:List (Nat × TypeId × Array Value)),p.1≠W.heap.size):=Lib.hid (wT K4.out);have SB:Hid (∀ wx,KS w wx [(g9,30,#[.int .i64 r0,.int .i64 r1,.int .i64 r2,.int .i64 r3]),(w.heap.size+1+1+1,26,#[.int .i64 l0,.int .i64 l1]),(w.heap.size+1+1,26,#[.int .i64 d0,.int .i64 d1]),(w.heap.size+1,24,#[.int .i64 la,.int .i64 (De 1),.slice (some ⟨bH 1,oH 1,none⟩) 181 (cH 1),.slice (some ⟨bZ 1,oZ 1,none⟩) 181 (cZ 1),.int .i64 (Eh 1),.int .i64 (Ez 1)]),(w.heap.size,24,#[.int .i64 la,.int .i64 (De 0),.slice (some ⟨bH 0,oH 0,none⟩) 181 (cH 0),.slice (some ⟨bZ 0,oZ 0,none⟩) 181 (cZ 0),.int .i64 (Eh 0),.int .i64 (Ez 0)])]->wx.cell? ⟨w.heap.size,0,none⟩=some (.int .i64 la)/\wx.cell? ⟨w.heap.size+1+1,0,none⟩=some (.int .i64 d0)/\wx.cell? ⟨w.heap.size+1+1,1,none⟩=some (.int .i64 d1)/\wx.cell? ⟨w.heap.size+1+1+1,0,none⟩=some (.int .i64 l0)/\wx.cell? ⟨w.heap.size+1+1+1,1,none⟩=some (.int .i64 l1)):=Lib.hid fun wx K=>⟨K.c (g:=w.heap.size) (t:=24) (cs:=#[.int .i64 la,.int .i64 (De 0),.slice (some ⟨bH 0,oH 0,none⟩) 181 (cH 0),.slice (some ⟨bZ 0,oZ 0,none⟩) 181 (cZ 0),.int .i64 (Eh 0),.int .i64 (Ez 0)]) (by simp) (i:=0) rfl,K.c (g:=w.heap.size+1+1) (t:=26) (cs:=#[.int .i64 d0,.int .i64 d1]) (by simp) (i:=0) rfl,K.c (g:=w.heap.size+1+1) (t:=26) (cs:=#[.int .i64 d0,.int .i64 d1]) (by simp) (i:=1) rfl,K.c (g:=w.heap.size+1+1+1) (t:=26) (cs:=#[.int .i64 l0,.int .i64 l1]) (by simp) (i:=0) rfl,K.c (g:=w.heap.size+1+1+1) (t:=26) (cs:=#[.int .i64 l0,.int .i64 l1]) (by simp) (i:=1) rfl⟩
  obtain ⟨s0,s1,s2,s3,s4⟩:=SB.out _ KD.out;clear CD CK CE CS CL CI HG RH RZ LH EH hkl hl0 hDe hk a0 x0 x1 y0 y1
  go_region_held3 (fun w'=>w'.cell? ⟨w.heap.size,0,none⟩=some (.int .i64 la)/\w'.cell? ⟨w.heap.size+1+1,0,none⟩=some (.int .i64 d0)/\w'.cell? ⟨w.heap.size+1+1,1,none⟩=some (.int .i64 d1)/\w'.cell? ⟨w.heap.size+1+1+1,0,none⟩=some (.int .i64 l0)/\w'.cell? ⟨w.heap.size+1+1+1,1,none⟩=some (.int .i64 l1))
   (first|(with_reducible exact ⟨s0,s1,s2,s3,s4⟩)|(with_reducible exact SB.out _ (K.out.alloc _))|(with_reducible exact SB.out _ (K4.out.alloc _).drew)|(exact SB.out _ ((JR K.out HS.out NE.out _ _ _ _ _ _).sub (fun x hx=>List.mem_cons_of_mem _ hx))))
   (first
   | ((go_at_call 7;with_reducible refine (CG.out _).mono ?_);rintro r wm ⟨rfl,hk⟩;(first
    | (have K:=Lib.hid ((K4.out.new W.heap.size rfl 36 #[.int .i64 0,.int .i64 0,.int .i64 0,.int .i64 0,.int .i64 0,.int .i64 0]).drew.below (by with_reducible exact hk));clear hk s0 s1 s2 s3 s4;obtain ⟨s0,s1,s2,s3,s4⟩:=SB.out _ (K.out.sub (fun x hx=>List.mem_cons_of_mem _ hx));obtain ⟨n0,n1,n2,n3,n4,n5,f0,f1,f2,f3,f4,f5⟩:=adK K.out)
    | (have K:=Lib.hid (KD.out.below hk);clear hk s0 s1 s2 s3 s4;obtain ⟨s0,s1,s2,s3,s4⟩:=SB.out _ K.out))))
  all_goals (go_wp2_with fail)
  all_goals go_meet
  all_goals first
   | (have hn:=n0;exact ⟨_,rfl,JR K.out HS.out NE.out _ _ _ _ _ _⟩)
   | exact ⟨wm.heap.size,rfl,K.out.new wm.heap.size rfl 36 #[.int .i64 (la*60000),.int .i64 (la*60000),.int .i64 d0,.int .i64 d1,.int .i64 l0,.int .i64 l1]⟩
 case rest =>
  obtain ⟨g,rfl,hK⟩:=hcut;have K5:=Lib.hid hK;clear hK a0 x0 x1 y0 y1 K4 HS CG;obtain ⟨a0,a1,a2,a3,a4,a5⟩:=kc6 K5.out (w.heap.size) 24 (.int .i64 la) (.int .i64 (De 0)) (.slice (some ⟨bH 0,oH 0,none⟩) 181 (cH 0)) (.slice (some ⟨bZ 0,oZ 0,none⟩) 181 (cZ 0)) (.int .i64 (Eh 0)) (.int .i64 (Ez 0)) (by simp)
  obtain ⟨b0,b1,b2,b3,b4,b5⟩:=kc6 K5.out (w.heap.size+1) 24 (.int .i64 la) (.int .i64 (De 1)) (.slice (some ⟨bH 1,oH 1,none⟩) 181 (cH 1)) (.slice (some ⟨bZ 1,oZ 1,none⟩) 181 (cZ 1)) (.int .i64 (Eh 1)) (.int .i64 (Ez 1)) (by simp)
  go_wp2_with fail;have K6:=Lib.hid (K5.out.new wc.heap.size rfl 24 #[.int .i64 la,.int .i64 (De 0),.slice (some ⟨bH 0,oH 0,none⟩) 181 (cH 0),.slice (some ⟨bZ 0,oZ 0,none⟩) 181 (cZ 0),.int .i64 (Eh 0),.int .i64 (Ez 0),.int .i64 la,.int .i64 (De 1),.slice (some ⟨bH 1,oH 1,none⟩) 181 (cH 1),.slice (some ⟨bZ 1,oZ 1,none⟩) 181 (cZ 1),.int .i64 (Eh 1),.int .i64 (Ez 1)]);clear K5 a0 a1 a2 a3 a4 a5 b0 b1 b2 b3 b4 b5;generalize hW:wc.alloc _=W6 at *
  generalize wc.heap.size=gs at *
  clear hW
  have SC:Hid (∀ wx,KS w wx [(gs,24,#[.int .i64 la,.int .i64 (De 0),.slice (some ⟨bH 0,oH 0,none⟩) 181 (cH 0),.slice (some ⟨bZ 0,oZ 0,none⟩) 181 (cZ 0),.int .i64 (Eh 0),.int .i64 (Ez 0),.int .i64 la,.int .i64 (De 1),.slice (some ⟨bH 1,oH 1,none⟩) 181 (cH 1),.slice (some ⟨bZ 1,oZ 1,none⟩) 181 (cZ 1),.int .i64 (Eh 1),.int .i64 (Ez 1)]),(g,36,#[.int .i64 (la*60000),.int .i64 (la*60000),.int .i64 d0,.int .i64 d1,.int .i64 l0,.int .i64 l1]),(g9,30,#[.int .i64 r0,.int .i64 r1,.int .i64 r2,.int .i64 r3]),(w.heap.size+1+1+1,26,#[.int .i64 l0,.int .i64 l1]),(w.heap.size+1+1,26,#[.int .i64 d0,.int .i64 d1]),(w.heap.size+1,24,#[.int .i64 la,.int .i64 (De 1),.slice (some ⟨bH 1,oH 1,none⟩) 181 (cH 1),.slice (some ⟨bZ 1,oZ 1,none⟩) 181 (cZ 1),.int .i64 (Eh 1),.int .i64 (Ez 1)]),(w.heap.size,24,#[.int .i64 la,.int .i64 (De 0),.slice (some ⟨bH 0,oH 0,none⟩) 181 (cH 0),.slice (some ⟨bZ 0,oZ 0,none⟩) 181 (cZ 0),.int .i64 (Eh 0),.int .i64 (Ez 0)])]->∀ i,i<2->wx.cell? ⟨gs,i*6,none⟩=some (.int .i64 la)/\wx.cell? ⟨gs,i*6+1,none⟩=some (.int .i64 (De i))/\wx.cell? ⟨gs,i*6+2,none⟩=some (.slice (some ⟨bH i,oH i,none⟩) 181 (cH i))/\wx.cell? ⟨gs,i*6+3,none⟩=some (.slice (some ⟨bZ i,oZ i,none⟩) 181 (cZ i))/\wx.cell? ⟨gs,i*6+4,none⟩=some (.int .i64 (Eh i))/\wx.cell? ⟨gs,i*6+5,none⟩=some (.int .i64 (Ez i))):=Lib.hid (by
   intro wx K i hi;obtain rfl|rfl:i=0∨i=1:=by omega
   . exact ⟨K.c (List.mem_cons_self ..) (i:=0) rfl,K.c (List.mem_cons_self ..) (i:=1) rfl,K.c (List.mem_cons_self ..) (i:=2) rfl,K.c (List.mem_cons_self ..) (i:=3) rfl,K.c (List.mem_cons_self ..) (i:=4) rfl,K.c (List.mem_cons_self ..) (i:=5) rfl⟩
   . exact ⟨K.c (List.mem_cons_self ..) (i:=6) rfl,K.c (List.mem_cons_self ..) (i:=7) rfl,K.c (List.mem_cons_self ..) (i:=8) rfl,K.c (List.mem_cons_self ..) (i:=9) rfl,K.c (List.mem_cons_self ..) (i:=10) rfl,K.c (List.mem_cons_self ..) (i:=11) rfl⟩)
  go_loopw [79] (fun v wr=>∃ i:Nat,v=.int .i64 (i:Int)/\i<=2/\(∀ i',i'<i->TbG Eh Ez xh xz X Y S i')/\KS w wr [(gs,24,#[.int .i64 la,.int .i64 (De 0),.slice (some ⟨bH 0,oH 0,none⟩) 181 (cH 0),.slice (some ⟨bZ 0,oZ 0,none⟩) 181 (cZ 0),.int .i64 (Eh 0),.int .i64 (Ez 0),.int .i64 la,.int .i64 (De 1),.slice (some ⟨bH 1,oH 1,none⟩) 181 (cH 1),.slice (some ⟨bZ 1,oZ 1,none⟩) 181 (cZ 1),.int .i64 (Eh 1),.int .i64 (Ez 1)]),(g,36,#[.int .i64 (la*60000),.int .i64 (la*60000),.int .i64 d0,.int .i64 d1,.int .i64 l0,.int .i64 l1]),(g9,30,#[.int .i64 r0,.int .i64 r1,.int .i64 r2,.int .i64 r3]),(w.heap.size+1+1+1,26,#[.int .i64 l0,.int .i64 l1]),(w.heap.size+1+1,26,#[.int .i64 d0,.int .i64 d1]),(w.heap.size+1,24,#[.int .i64 la,.int .i64 (De 1),.slice (some ⟨bH 1,oH 1,none⟩) 181 (cH 1),.slice (some ⟨bZ 1,oZ 1,none⟩) 181 (cZ 1),.int .i64 (Eh 1),.int .i64 (Ez 1)]),(w.heap.size,24,#[.int .i64 la,.int .i64 (De 0),.slice (some ⟨bH 0,oH 0,none⟩) 181 (cH 0),.slice (some ⟨bZ 0,oZ 0,none⟩) 181 (cZ 0),.int .i64 (Eh 0),.int .i64 (Ez 0)])]) (fun v _=>((2:Int)-intOf v).toNat)
  case atStart=>exact ⟨0,rfl,by omega,fun i' h=>absurd h (Nat.not_lt_zero _),K6.out⟩
  case round =>
   obtain ⟨i,rfl,hi,ho,hk2⟩:=hrel;clear K6;have KI:=Lib.hid hk2;have HO:=Lib.hid ho;clear hk2 ho
   by_cases hl:i<2
   . have hl':(i:Int)<2:=by omega
     obtain ⟨c0,c1,c2,c3,c4,c5⟩:=SC.out _ KI.out i hl;go_upto_region 15 with (fail)
     have K7:=Lib.hid (KI.out.new wr.heap.size rfl 24 #[.int .i64 la,.int .i64 (De i),.slice (some ⟨bH i,oH i,none⟩) 181 (cH i),.slice (some ⟨bZ i,oZ i,none⟩) 181 (cZ i),.int .i64 (Eh i),.int .i64 (Ez i)]);clear KI c0 c1 c2 c3 c4 c5;generalize hW:wr.alloc _=W7 at *
     generalize wr.heap.size=gc at *
     clear hW;have SD:Hid (∀ wx,KS w wx [(gc,24,#[.int .i64 la,.int .i64 (De i),.slice (some ⟨bH i,oH i,none⟩) 181 (cH i),.slice (some ⟨bZ i,oZ i,none⟩) 181 (cZ i),.int .i64 (Eh i),.int .i64 (Ez i)]),(gs,24,#[.int .i64 la,.int .i64 (De 0),.slice (some ⟨bH 0,oH 0,none⟩) 181 (cH 0),.slice (some ⟨bZ 0,oZ 0,none⟩) 181 (cZ 0),.int .i64 (Eh 0),.int .i64 (Ez 0),.int .i64 la,.int .i64 (De 1),.slice (some ⟨bH 1,oH 1,none⟩) 181 (cH 1),.slice (some ⟨bZ 1,oZ 1,none⟩) 181 (cZ 1),.int .i64 (Eh 1),.int .i64 (Ez 1)]),(g,36,#[.int .i64 (la*60000),.int .i64 (la*60000),.int .i64 d0,.int .i64 d1,.int .i64 l0,.int .i64 l1]),(g9,30,#[.int .i64 r0,.int .i64 r1,.int .i64 r2,.int .i64 r3]),(w.heap.size+1+1+1,26,#[.int .i64 l0,.int .i64 l1]),(w.heap.size+1+1,26,#[.int .i64 d0,.int .i64 d1]),(w.heap.size+1,24,#[.int .i64 la,.int .i64 (De 1),.slice (some ⟨bH 1,oH 1,none⟩) 181 (cH 1),.slice (some ⟨bZ 1,oZ 1,none⟩) 181 (cZ 1),.int .i64 (Eh 1),.int .i64 (Ez 1)]),(w.heap.size,24,#[.int .i64 la,.int .i64 (De 0),.slice (some ⟨bH 0,oH 0,none⟩) 181 (cH 0),.slice (some ⟨bZ 0,oZ 0,none⟩) 181 (cZ 0),.int .i64 (Eh 0),.int .i64 (Ez 0)])]->wx.cell? ⟨g,0,none⟩=some (.int .i64 (la*60000))/\wx.cell? ⟨g,1,none⟩=some (.int .i64 (la*60000))/\wx.cell? ⟨gc,1,none⟩=some (.int .i64 (De i))):=Lib.hid fun wx K=>⟨K.c (g:=g) (t:=36) (cs:=#[.int .i64 (la*60000),.int .i64 (la*60000),.int .i64 d0,.int .i64 d1,.int .i64 l0,.int .i64 l1]) (by simp) (i:=0) rfl,K.c (g:=g) (t:=36) (cs:=#[.int .i64 (la*60000),.int .i64 (la*60000),.int .i64 d0,.int .i64 d1,.int .i64 l0,.int .i64 l1]) (by simp) (i:=1) rfl,K.c (List.mem_cons_self ..) (i:=1) rfl⟩
     have KD:=Lib.hid K7.out.drew;clear K7;obtain ⟨s0,s1,s2⟩:=SD.out _ KD.out;have GD:=Lib.hid (CD.out i hl);have GE:=Lib.hid (CE.out i hl)
     go_region_held3 (fun w'=>w'.cell? ⟨g,0,none⟩=some (.int .i64 (la*60000))/\w'.cell? ⟨g,1,none⟩=some (.int .i64 (la*60000))/\w'.cell? ⟨gc,1,none⟩=some (.int .i64 (De i)))
      (first|(with_reducible exact ⟨s0,s1,s2⟩))
      (first
      | ((go_at_call 7;with_reducible refine (GD.out _).mono ?_);rintro r wm ⟨rfl,hk⟩;replace KD:=Lib.hid (KD.out.below hk);clear hk s0 s1 s2;obtain ⟨s0,s1,s2⟩:=SD.out _ KD.out)
      | ((go_at_call 8;with_reducible refine (GE.out _).mono ?_);rintro r wn ⟨rfl,hk⟩;replace KD:=Lib.hid (KD.out.below hk);clear hk s0 s1 s2;obtain ⟨s0,s1,s2⟩:=SD.out _ KD.out))
     clear GD GE s0 s1 s2;have KE:Hid (KS w _ _):=KD;clear KD;obtain ⟨a0,a1,a2,a3,a4,a5⟩:=kc6 KE.out gc 24 (.int .i64 la) (.int .i64 (De i)) (.slice (some ⟨bH i,oH i,none⟩) 181 (cH i)) (.slice (some ⟨bZ i,oZ i,none⟩) 181 (cZ i)) (.int .i64 (Eh i)) (.int .i64 (Ez i)) (by simp)
     by_cases e1:Eh i<xh i
     . go_wp2;go_ret;exact ⟨rfl,KE.out.1⟩
     by_cases e2:Ez i<xz i
     . go_wp2;go_ret;exact ⟨rfl,KE.out.1⟩
     go_wp2_with fail;clear a0 a1 a2 a3 a4 a5;go_loopw [103] (fun v wy=>∃ j:Nat,v=.int .i64 (j:Int)/\j<=2/\(∀ j',j'<j->TbE X Y S i j')/\KS w wy [(gc,24,#[.int .i64 la,.int .i64 (De i),.slice (some ⟨bH i,oH i,none⟩) 181 (cH i),.slice (some ⟨bZ i,oZ i,none⟩) 181 (cZ i),.int .i64 (Eh i),.int .i64 (Ez i)]),(gs,24,#[.int .i64 la,.int .i64 (De 0),.slice (some ⟨bH 0,oH 0,none⟩) 181 (cH 0),.slice (some ⟨bZ 0,oZ 0,none⟩) 181 (cZ 0),.int .i64 (Eh 0),.int .i64 (Ez 0),.int .i64 la,.int .i64 (De 1),.slice (some ⟨bH 1,oH 1,none⟩) 181 (cH 1),.slice (some ⟨bZ 1,oZ 1,none⟩) 181 (cZ 1),.int .i64 (Eh 1),.int .i64 (Ez 1)]),(g,36,#[.int .i64 (la*60000),.int .i64 (la*60000),.int .i64 d0,.int .i64 d1,.int .i64 l0,.int .i64 l1]),(g9,30,#[.int .i64 r0,.int .i64 r1,.int .i64 r2,.int .i64 r3]),(w.heap.size+1+1+1,26,#[.int .i64 l0,.int .i64 l1]),(w.heap.size+1+1,26,#[.int .i64 d0,.int .i64 d1]),(w.heap.size+1,24,#[.int .i64 la,.int .i64 (De 1),.slice (some ⟨bH 1,oH 1,none⟩) 181 (cH 1),.slice (some ⟨bZ 1,oZ 1,none⟩) 181 (cZ 1),.int .i64 (Eh 1),.int .i64 (Ez 1)]),(w.heap.size,24,#[.int .i64 la,.int .i64 (De 0),.slice (some ⟨bH 0,oH 0,none⟩) 181 (cH 0),.slice (some ⟨bZ 0,oZ 0,none⟩) 181 (cZ 0),.int .i64 (Eh 0),.int .i64 (Ez 0)])]) (fun v _=>((2:Int)-intOf v).toNat)
     case atStart=>exact ⟨0,rfl,by omega,fun i' h=>absurd h (Nat.not_lt_zero _),KE.out⟩
     case round =>
      rename_i wy _
      obtain ⟨j,rfl,hj,hoj,hk3⟩:=hrel;clear KE;have KI:=Lib.hid hk3;have HJ:=Lib.hid hoj;clear hk3 hoj
      by_cases hlj:j<2
      . have hlj':(j:Int)<2:=by omega
        have hw:IntKind.i64.wrap ((k:Int)+(j:Int))=(k:Int)+(j:Int):=Go.IntWalk.i64_in _ (by omega)
        go_upto_region 21 with (fail)
        go_cut [18] (fun s18 wx=>∃ gr,s18=.pointer (some ⟨gr,0,none⟩)/\KS w wx [(gr,30,#[.int .i64 (S i j 0),.int .i64 (S i j 1),.int .i64 (S i j 2),.int .i64 (S i j 3)]),(gc,24,#[.int .i64 la,.int .i64 (De i),.slice (some ⟨bH i,oH i,none⟩) 181 (cH i),.slice (some ⟨bZ i,oZ i,none⟩) 181 (cZ i),.int .i64 (Eh i),.int .i64 (Ez i)]),(gs,24,#[.int .i64 la,.int .i64 (De 0),.slice (some ⟨bH 0,oH 0,none⟩) 181 (cH 0),.slice (some ⟨bZ 0,oZ 0,none⟩) 181 (cZ 0),.int .i64 (Eh 0),.int .i64 (Ez 0),.int .i64 la,.int .i64 (De 1),.slice (some ⟨bH 1,oH 1,none⟩) 181 (cH 1),.slice (some ⟨bZ 1,oZ 1,none⟩) 181 (cZ 1),.int .i64 (Eh 1),.int .i64 (Ez 1)]),(g,36,#[.int .i64 (la*60000),.int .i64 (la*60000),.int .i64 d0,.int .i64 d1,.int .i64 l0,.int .i64 l1]),(g9,30,#[.int .i64 r0,.int .i64 r1,.int .i64 r2,.int .i64 r3]),(w.heap.size+1+1+1,26,#[.int .i64 l0,.int .i64 l1]),(w.heap.size+1+1,26,#[.int .i64 d0,.int .i64 d1]),(w.heap.size+1,24,#[.int .i64 la,.int .i64 (De 1),.slice (some ⟨bH 1,oH 1,none⟩) 181 (cH 1),.slice (some ⟨bZ 1,oZ 1,none⟩) 181 (cZ 1),.int .i64 (Eh 1),.int .i64 (Ez 1)]),(w.heap.size,24,#[.int .i64 la,.int .i64 (De 0),.slice (some ⟨bH 0,oH 0,none⟩) 181 (cH 0),.slice (some ⟨bZ 0,oZ 0,none⟩) 181 (cZ 0),.int .i64 (Eh 0),.int .i64 (Ez 0)])])
        case first =>
         have KD:=Lib.hid KI.out.drew;have GD:=Lib.hid (CD.out i hl);have GK:=Lib.hid (CK.out j hlj);have GS:=Lib.hid (CS.out i hl j hlj);obtain ⟨s0,s1,s2⟩:=SD.out _ KD.out;clear CD CK CE CS CL CI HG RH RZ LH EH hkl hl0 hDe hk SC HO HJ
         go_region_held3 (fun w'=>w'.cell? ⟨g,0,none⟩=some (.int .i64 (la*60000))/\w'.cell? ⟨g,1,none⟩=some (.int .i64 (la*60000))/\w'.cell? ⟨gc,1,none⟩=some (.int .i64 (De i)))
          (first|(with_reducible exact ⟨s0,s1,s2⟩)|(with_reducible exact SD.out _ (KD.out.alloc _))|(with_reducible exact SD.out _ (KI.out.alloc _).drew)|(exact SD.out _ ((Jc KZ.out HZ.out NZ.out _ _ _ _).sub (fun x hx=>List.mem_cons_of_mem _ hx))))
          (first
          | ((go_at_call 7;with_reducible refine (GD.out _).mono ?_);rintro r wm ⟨rfl,hk⟩;(first|(replace KZ:=Lib.hid (KZ.out.below (by with_reducible exact hk));clear hk s0 s1 s2;obtain ⟨s0,s1,s2⟩:=SD.out _ (KZ.out.sub (fun x hx=>List.mem_cons_of_mem _ hx));obtain ⟨n0,n1,n2,n3,f0,f1,f2,f3⟩:=Co KZ.out)|(have KZ:=Lib.hid ((KD.out.new _ rfl 30 #[.int .i64 0,.int .i64 0,.int .i64 0,.int .i64 0]).below (by with_reducible exact hk));have NZ:=Lib.hid (wT KD.out);have HZ:=Lib.hid KD.out.1.size;clear hk s0 s1 s2;obtain ⟨s0,s1,s2⟩:=SD.out _ (KZ.out.sub (fun x hx=>List.mem_cons_of_mem _ hx));obtain ⟨n0,n1,n2,n3,f0,f1,f2,f3⟩:=Co KZ.out)|(have KZ:=Lib.hid ((KI.out.new _ rfl 30 #[.int .i64 0,.int .i64 0,.int .i64 0,.int .i64 0]).drew.below (by with_reducible exact hk));have NZ:=Lib.hid (wT KI.out);have HZ:=Lib.hid KI.out.1.size;clear hk s0 s1 s2;obtain ⟨s0,s1,s2⟩:=SD.out _ (KZ.out.sub (fun x hx=>List.mem_cons_of_mem _ hx));obtain ⟨n0,n1,n2,n3,f0,f1,f2,f3⟩:=Co KZ.out)|(replace KD:=Lib.hid (KD.out.below hk);clear hk s0 s1 s2;obtain ⟨s0,s1,s2⟩:=SD.out _ KD.out)))
          | ((go_at_call 7;with_reducible refine (GK.out _).mono ?_);rintro r wn ⟨rfl,hk⟩;(first|(replace KZ:=Lib.hid (KZ.out.below (by with_reducible exact hk));clear hk s0 s1 s2;obtain ⟨s0,s1,s2⟩:=SD.out _ (KZ.out.sub (fun x hx=>List.mem_cons_of_mem _ hx));obtain ⟨n0,n1,n2,n3,f0,f1,f2,f3⟩:=Co KZ.out)|(have KZ:=Lib.hid ((KD.out.new _ rfl 30 #[.int .i64 0,.int .i64 0,.int .i64 0,.int .i64 0]).below (by with_reducible exact hk));have NZ:=Lib.hid (wT KD.out);have HZ:=Lib.hid KD.out.1.size;clear hk s0 s1 s2;obtain ⟨s0,s1,s2⟩:=SD.out _ (KZ.out.sub (fun x hx=>List.mem_cons_of_mem _ hx));obtain ⟨n0,n1,n2,n3,f0,f1,f2,f3⟩:=Co KZ.out)|(have KZ:=Lib.hid ((KI.out.new _ rfl 30 #[.int .i64 0,.int .i64 0,.int .i64 0,.int .i64 0]).drew.below (by with_reducible exact hk));have NZ:=Lib.hid (wT KI.out);have HZ:=Lib.hid KI.out.1.size;clear hk s0 s1 s2;obtain ⟨s0,s1,s2⟩:=SD.out _ (KZ.out.sub (fun x hx=>List.mem_cons_of_mem _ hx));obtain ⟨n0,n1,n2,n3,f0,f1,f2,f3⟩:=Co KZ.out)|(replace KD:=Lib.hid (KD.out.below hk);clear hk s0 s1 s2;obtain ⟨s0,s1,s2⟩:=SD.out _ KD.out)))
          | ((go_at_call 9;with_reducible refine (GS.out _).mono ?_);rintro r wp ⟨rfl,hk⟩;(first|(replace KZ:=Lib.hid (KZ.out.below (by with_reducible exact hk));clear hk s0 s1 s2;obtain ⟨s0,s1,s2⟩:=SD.out _ (KZ.out.sub (fun x hx=>List.mem_cons_of_mem _ hx));obtain ⟨n0,n1,n2,n3,f0,f1,f2,f3⟩:=Co KZ.out)|(have KZ:=Lib.hid ((KD.out.new _ rfl 30 #[.int .i64 0,.int .i64 0,.int .i64 0,.int .i64 0]).below (by with_reducible exact hk));have NZ:=Lib.hid (wT KD.out);have HZ:=Lib.hid KD.out.1.size;clear hk s0 s1 s2;obtain ⟨s0,s1,s2⟩:=SD.out _ (KZ.out.sub (fun x hx=>List.mem_cons_of_mem _ hx));obtain ⟨n0,n1,n2,n3,f0,f1,f2,f3⟩:=Co KZ.out)|(have KZ:=Lib.hid ((KI.out.new _ rfl 30 #[.int .i64 0,.int .i64 0,.int .i64 0,.int .i64 0]).drew.below (by with_reducible exact hk));have NZ:=Lib.hid (wT KI.out);have HZ:=Lib.hid KI.out.1.size;clear hk s0 s1 s2;obtain ⟨s0,s1,s2⟩:=SD.out _ (KZ.out.sub (fun x hx=>List.mem_cons_of_mem _ hx));obtain ⟨n0,n1,n2,n3,f0,f1,f2,f3⟩:=Co KZ.out)|(replace KD:=Lib.hid (KD.out.below hk);clear hk s0 s1 s2;obtain ⟨s0,s1,s2⟩:=SD.out _ KD.out))))
         all_goals (go_wp2_with fail)
         all_goals go_meet
         all_goals first
          | (have hn:=KZ;exact ⟨_,rfl,Jc KZ.out HZ.out NZ.out _ _ _ _⟩)
          | exact ⟨_,rfl,KD.out.new _ rfl 30 #[.int .i64 (S i j 0),.int .i64 (S i j 1),.int .i64 (S i j 2),.int .i64 (S i j 3)]⟩
        case rest =>
         obtain ⟨gr,rfl,hK⟩:=hcut;have K8:=Lib.hid hK;clear hK KI;obtain ⟨a0,a1,a2,a3,a4,a5⟩:=kc6 K8.out gc 24 (.int .i64 la) (.int .i64 (De i)) (.slice (some ⟨bH i,oH i,none⟩) 181 (cH i)) (.slice (some ⟨bZ i,oZ i,none⟩) 181 (cZ i)) (.int .i64 (Eh i)) (.int .i64 (Ez i)) (by simp)
         obtain ⟨b0,b1,b2,b3⟩:=kc4 K8.out gr 30 (.int .i64 (S i j 0)) (.int .i64 (S i j 1)) (.int .i64 (S i j 2)) (.int .i64 (S i j 3)) (by simp)
         have LH1:=(LH.out i hl).1;have LH2:=(LH.out i hl).2;obtain ⟨x,y,ex,p0,p1⟩:=((RH.out i hl).below K8.out.1 (RH.out i hl).lt).at2 (k+j) (by omega)
         obtain ⟨z,t,ez,p2,p3⟩:=((RZ.out i hl).below K8.out.1 (RZ.out i hl).lt).at2 (k+j) (by omega)
         have eh:=EH.out i hl j hlj;rw [List.getElem?_eq_getElem (by omega),List.getElem?_eq_getElem (by omega),ex,ez] at eh
         simp at eh;obtain ⟨⟨rfl,rfl⟩,rfl,rfl⟩:=eh;clear ex ez LH1 LH2;have hk0:(0:Int)<=(k:Int)+(j:Int):=by omega
         have hk1:(k:Int)+(j:Int)<181:=by omega
         have ht:((k:Int)+(j:Int)).toNat=k+j:=by omega
         go_upto_region 22 with (fail)
         by_cases g1:X i j 0=S i j 0/\X i j 1=S i j 1
         . have m1:=EZ (X i j 0) (X i j 1) (S i j 0) (S i j 1) g1
           by_cases g2:Y i j 0=S i j 2/\Y i j 1=S i j 3
           . have m2:=EZ (Y i j 0) (Y i j 1) (S i j 2) (S i j 3) g2;go_quiet (fail);go_wp2;go_light
             exact ⟨⟨j+1,by first|rfl|(congr 1;omega)|(simp;omega),by omega,fun j' h=>by
              rcases Nat.lt_or_ge j' j with h2|h2
              . exact HJ.out j' h2
              . obtain rfl:j'=j:=by omega
                exact ⟨g1.1,g1.2,g2.1,g2.2⟩,(K8.out.sub (fun x hx=>List.mem_cons_of_mem _ hx)).drewN _⟩,by simp only [intOf];omega⟩
           . have m2:=Dx (Y i j 0) (Y i j 1) (S i j 2) (S i j 3) g2;go_quiet (fail);go_wp2;go_ret;exact ⟨rfl,(K8.out.drewN _).1⟩
         . have m1:=Dx (X i j 0) (X i j 1) (S i j 0) (S i j 1) g1;go_quiet (fail);go_wp2;go_ret;exact ⟨rfl,(K8.out.drewN _).1⟩
      . have hlj':¬ (j:Int)<2:=by omega
        go_wp2;go_light
        exact ⟨⟨i+1,by first|rfl|(congr 1;omega)|(simp;omega),by omega,fun i' h=>by
         rcases Nat.lt_or_ge i' i with h2|h2
         . exact HO.out i' h2
         . obtain rfl:i'=i:=by omega
           exact ⟨by omega,by omega,fun j' hj'=>HJ.out j' (by omega)⟩,KI.out.sub (fun x hx=>List.mem_cons_of_mem _ hx)⟩,by simp only [intOf];omega⟩
   . have hl':¬ (i:Int)<2:=by omega
     have hG:=HG.out (HO.out 0 (by omega)) (HO.out 1 (by omega))
     clear CD CK CE CS HG HO RH RZ LH EH SC;obtain ⟨a0,a1,a2,a3,a4,a5⟩:=kc6 KI.out (g) 36 (.int .i64 (la*60000)) (.int .i64 (la*60000)) (.int .i64 d0) (.int .i64 d1) (.int .i64 l0) (.int .i64 l1) (by simp)
     go_wp2_with fail;refine (CL.out _).mono ?_;rintro e wa ⟨rfl,hb⟩;have KA:=Lib.hid ((KI.out.below hb).new wa.heap.size rfl 30 #[.int .i64 m0,.int .i64 m1,.int .i64 m2,.int .i64 m3]);clear hb KI CL a0 a1 a2 a3 a4 a5;obtain ⟨x0,x1⟩:=kc2 KA.out (w.heap.size+1+1) 26 (.int .i64 d0) (.int .i64 d1) (by simp)
     obtain ⟨y0,y1,-,-,-,-⟩:=kc6 KA.out (w.heap.size+1) 24 (.int .i64 la) (.int .i64 (De 1)) (.slice (some ⟨bH 1,oH 1,none⟩) 181 (cH 1)) (.slice (some ⟨bZ 1,oZ 1,none⟩) 181 (cZ 1)) (.int .i64 (Eh 1)) (.int .i64 (Ez 1)) (by simp)
     obtain ⟨a0,a1,a2,a3⟩:=kc4 KA.out (wa.heap.size) 30 (.int .i64 m0) (.int .i64 m1) (.int .i64 m2) (.int .i64 m3) (by simp)
     obtain ⟨b0,b1,b2,b3⟩:=kc4 KA.out (g9) 30 (.int .i64 r0) (.int .i64 r1) (.int .i64 r2) (.int .i64 r3) (by simp)
     by_cases g1:f=24
     . subst g1;go_wp2;go_ret;exact ⟨rfl,KA.out.1⟩
     . have g1b:(f==24)=false:=by simpa using g1
       have hw:IntKind.i64.wrap (De 1*60000)=De 1*60000:=Go.IntWalk.i64_in _ (by omega)
       by_cases g2:d0=De 1*60000
       . go_wp2;go_ret;exact ⟨by simp [g2],KA.out.1⟩
       . obtain ⟨rfl,rfl⟩:f=0/\IB=true:=by
          rcases hG with h|h|h
          . exact absurd h g1
          . exact absurd h g2
          . exact h
         have g2b:(d0==De 1*60000)=false:=by simpa using g2
         go_wp2_with fail;refine (CI.out _).mono ?_;rintro e wb ⟨rfl,hb⟩;have KB:=Lib.hid (KA.out.below hb);clear hb;go_wp2;go_ret;exact ⟨rfl,KB.out.1⟩
theorem xO (la de eh ez la2 de2 eh2 ez2 d0 d1 l0 l1:Int) (aH aZ bH bZ:Option Addr) (nH cH nZ cZ mH dH mZ dZ:Nat) (P Q:Bool) (ee:Int) (w:World) (he:P=true∨Q=true∨ee≠0)
 (CA:Hid (∀ w:World,Calls Tryz.prog 4 #[] w fun e w'=>e=.returned (.bool true)/\Below w.heap.size w w'))
 (CP:Hid (∀ w:World,Calls Tryz.prog 5 #[.agg #[.int .i64 la,.int .i64 de,.slice aH nH cH,.slice aZ nZ cZ,.int .i64 eh,.int .i64 ez]] w fun e w'=>e=.returned (.bool P)/\Below w.heap.size w w'))
 (CQ:Hid (∀ w:World,Calls Tryz.prog 5 #[.agg #[.int .i64 la2,.int .i64 de2,.slice bH mH dH,.slice bZ mZ dZ,.int .i64 eh2,.int .i64 ez2]] w fun e w'=>e=.returned (.bool Q)/\Below w.heap.size w w'))
 (CF:Hid (P=false->Q=false->∀ wx:World,Below w.heap.size w wx->Calls Tryz.prog 6 #[.agg #[.int .i64 la,.int .i64 de,.slice aH nH cH,.slice aZ nZ cZ,.int .i64 eh,.int .i64 ez],.agg #[.int .i64 la2,.int .i64 de2,.slice bH mH dH,.slice bZ mZ dZ,.int .i64 eh2,.int .i64 ez2],.agg #[.int .i64 d0,.int .i64 d1],.agg #[.int .i64 l0,.int .i64 l1]] wx fun e w'=>e=.returned (.tuple #[.agg #[.int .i64 0,.int .i64 0,.int .i64 0,.int .i64 0],.int .i64 ee])/\Below wx.heap.size wx w')) :
 Calls Tryz.prog 3 #[.agg #[.int .i64 la,.int .i64 de,.slice aH nH cH,.slice aZ nZ cZ,.int .i64 eh,.int .i64 ez],.agg #[.int .i64 la2,.int .i64 de2,.slice bH mH dH,.slice bZ mZ dZ,.int .i64 eh2,.int .i64 ez2],.agg #[.int .i64 d0,.int .i64 d1],.agg #[.int .i64 l0,.int .i64 l1]] w fun e w'=>e=.returned (.bool true)/\Below w.heap.size w w':=by
 have K0:=Lib.hid ((((az w).new w.heap.size rfl 24 #[.int .i64 la,.int .i64 de,.slice aH nH cH,.slice aZ nZ cZ,.int .i64 eh,.int .i64 ez]).new (w.heap.size+1) (by simp) 24 #[.int .i64 la2,.int .i64 de2,.slice bH mH dH,.slice bZ mZ dZ,.int .i64 eh2,.int .i64 ez2]).new (w.heap.size+1+1) (by simp) 26 #[.int .i64 d0,.int .i64 d1] |>.new (w.heap.size+1+1+1) (by simp) 26 #[.int .i64 l0,.int .i64 l1])
 go_enter Tryz.func3,Tryz.ntmps3;go_wp2_with fail;refine (CA.out _).mono ?_;rintro e w1 ⟨rfl,hb⟩;have K1:=Lib.hid (K0.out.below hb);clear hb K0 CA;obtain ⟨a0,a1,a2,a3,a4,a5⟩:=kc6 K1.out (w.heap.size) 24 (.int .i64 la) (.int .i64 de) (.slice aH nH cH) (.slice aZ nZ cZ) (.int .i64 eh) (.int .i64 ez) (by simp)
 go_wp2_with fail;refine (CP.out _).mono ?_;rintro e w2 ⟨rfl,hb⟩;have K2:=Lib.hid (K1.out.below hb);clear hb K1 CP a0 a1 a2 a3 a4 a5;cases P
 . obtain ⟨a0,a1,a2,a3,a4,a5⟩:=kc6 K2.out (w.heap.size+1) 24 (.int .i64 la2) (.int .i64 de2) (.slice bH mH dH) (.slice bZ mZ dZ) (.int .i64 eh2) (.int .i64 ez2) (by simp)
   go_wp2_with fail;refine (CQ.out _).mono ?_;rintro e w3 ⟨rfl,hb⟩;have K3:=Lib.hid (K2.out.below hb);clear hb K2 CQ a0 a1 a2 a3 a4 a5;cases Q
   . have F:=Lib.hid (CF.out (by first|trivial|rfl) (by first|trivial|rfl));clear CF
     have h0:ee≠0:=by simpa using he
     have h0b:(ee==0)=false:=by simpa using h0
     obtain ⟨a0,a1,a2,a3,a4,a5⟩:=kc6 K3.out (w.heap.size) 24 (.int .i64 la) (.int .i64 de) (.slice aH nH cH) (.slice aZ nZ cZ) (.int .i64 eh) (.int .i64 ez) (by simp)
     obtain ⟨b0,b1,b2,b3,b4,b5⟩:=kc6 K3.out (w.heap.size+1) 24 (.int .i64 la2) (.int .i64 de2) (.slice bH mH dH) (.slice bZ mZ dZ) (.int .i64 eh2) (.int .i64 ez2) (by simp)
     obtain ⟨x0,x1⟩:=kc2 K3.out (w.heap.size+1+1) 26 (.int .i64 d0) (.int .i64 d1) (by simp)
     obtain ⟨y0,y1⟩:=kc2 K3.out (w.heap.size+1+1+1) 26 (.int .i64 l0) (.int .i64 l1) (by simp)
     go_wp2_with fail;refine (F.out _ K3.out.1).mono ?_;rintro e w4 ⟨rfl,hb⟩;have K4:=Lib.hid ((K3.out.below hb).new w4.heap.size rfl 30 #[.int .i64 0,.int .i64 0,.int .i64 0,.int .i64 0]);clear hb K3 F a0 a1 a2 a3 a4 a5 b0 b1 b2 b3 b4 b5 x0 x1 y0 y1;obtain ⟨a0,a1,a2,a3⟩:=kc4 K4.out (w4.heap.size) 30 (.int .i64 0) (.int .i64 0) (.int .i64 0) (.int .i64 0) (by simp)
     go_wp2;go_ret;exact ⟨by simp,K4.out.1⟩
   . go_wp2;go_ret;exact ⟨rfl,K3.out.1⟩
 . go_wp2;go_ret;exact ⟨rfl,K2.out.1⟩
