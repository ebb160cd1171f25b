/- Reckoning: a leg is added to the sums of a passage. -/
import Derived.Test.YtgmncdmcdgkodaaGreatZRk1
import Derived.Test.YtgmncdmcdgkodaaGreatZRw
import Derived.Deep.QuietTactic
import Derived.BigQuiet
import Derived.Deep.Light
import Derived.StillTailTactics
set_option linter.unusedVariables false
set_option linter.unusedSimpArgs false
set_option maxRecDepth 100000
set_option maxHeartbeats 4000000
namespace Go.Proofs.YtgmncdmcdgkodaaGreat
open Go.RowKit Alm
def rw8 (x0 x1 x2 x3 x4 x5 x6 x7:Int):Array Value:=#[.int .i64 x0,.int .i64 x1,.int .i64 x2,.int .i64 x3,.int .i64 x4,.int .i64 x5,.int .i64 x6,.int .i64 x7]
theorem sO {w wr:World} {l l':List (Nat × TypeId × Array Value)} {g:Nat} {t:TypeId} {cs:Array Value} (h:KS w wr l) (hm:(g,t,cs)∈l) (hn:w.heap.size<=g) (hd:∀ p∈l',p.1≠g) (hl:∀ p∈l',p∈l) (i j:Nat) (u v:Value) :
 KS w ((wr.setCell ⟨g,i,none⟩ u).setCell ⟨g,j,none⟩ v) ((g,t,(cs.setIfInBounds i u).setIfInBounds j v)::l'):=by
 have h1:=h.sub (l':=(g,t,cs)::l') (fun p hp=>by
  rcases List.mem_cons.1 hp with rfl|hp
  . exact hm
  . exact hl p hp)
 exact (h1.set hn hd i u).set hn hd j v
theorem DX {α:Type} (a b c:α) (l:List α):∀ p∈c::a::b::l,p∈a::b::c::l:=by
 intro p hp;rcases List.mem_cons.1 hp with rfl|hp
 . exact .tail _ (.tail _ (.head _))
 rcases List.mem_cons.1 hp with rfl|hp
 . exact .head _
 rcases List.mem_cons.1 hp with rfl|hp
 . exact .tail _ (.head _)
 . exact .tail _ (.tail _ (.tail _ hp))
theorem zu {α:Type} (a b c:α) (l:List α):∀ p∈c::l,p∈c::a::b::l:=by
 intro p hp;rcases List.mem_cons.1 hp with rfl|hp
 . exact .head _
 . exact .tail _ (.tail _ (.tail _ hp))
def lu (x:Int):Prop:=-2199023255552<=x/\x<=2199023255552
theorem FD (b:Nat) (x0 x1 x2 x3 x4 x5 x6 x7 cl ch dl dh d1 d2 d3 d4:Int) (w0 w:World) (lr:List (Nat × TypeId × Array Value))
 (hK:KS w0 w ((b,70,rw8 x0 x1 x2 x3 x4 x5 x6 x7)::lr)) (hn:w0.heap.size<=b) (hd:∀ p∈lr,p.1≠b)
 (hP:∀ w:World,Calls Tryz.prog 50 #[.agg #[.int .i64 cl,.int .i64 ch,.int .i64 dl,.int .i64 dh]] w fun e w'=>e=.returned (.tuple #[.agg #[.int .i64 d1,.int .i64 d2],.agg #[.int .i64 d3,.int .i64 d4],.int .i64 0])/\Below w.heap.size w w')
 (hx:lu x0/\lu x1/\lu x4/\lu x5/\lu x6/\lu x7) (hdd:lu d1/\lu d2/\lu d3/\lu d4) :
 Calls Tryz.prog 34 #[.pointer (some ⟨b,0,none⟩),.agg #[.int .i64 cl,.int .i64 ch,.int .i64 dl,.int .i64 dh]] w fun e w' =>
  e=.returned (.int .i64 0)/\KS w0 w' ((b,70,rw8 (x0+d1) (x1+d2) (min x2 (x0+d1)) (max x3 (x1+d2)) (x4+max 0 d3) (x5+max 0 d4) (x6+min 0 d3) (x7+min 0 d4))::lr):=by
 obtain ⟨h0,h1,h4,h5,h6,h7⟩:=hx;obtain ⟨k1,k2,k3,k4⟩:=hdd;unfold lu at *
 have K0:=Lib.hid hK;have HD:=Lib.hid hd;have HP:=Lib.hid hP;clear hK hd hP;have hbw:Hid (b<w.heap.size):=Lib.hid (K0.out.lt (g:=b) (t:=70) (cs:=rw8 x0 x1 x2 x3 x4 x5 x6 x7) (by simp))
 have s0:IntKind.i64.wrap (x0+d1)=x0+d1:=Go.IntWalk.i64_in _ (by omega)
 have s1:IntKind.i64.wrap (x1+d2)=x1+d2:=Go.IntWalk.i64_in _ (by omega)
 have s4:IntKind.i64.wrap (x4+if 0<d3 then d3 else 0)=x4+max 0 d3:=by rw [show (if 0<d3 then d3 else 0)=max 0 d3 by split<;>omega];exact Go.IntWalk.i64_in _ (by omega)
 have s5:IntKind.i64.wrap (x5+if 0<d4 then d4 else 0)=x5+max 0 d4:=by rw [show (if 0<d4 then d4 else 0)=max 0 d4 by split<;>omega];exact Go.IntWalk.i64_in _ (by omega)
 have s6:IntKind.i64.wrap (x6+if d3<0 then d3 else 0)=x6+min 0 d3:=by rw [show (if d3<0 then d3 else 0)=min 0 d3 by split<;>omega];exact Go.IntWalk.i64_in _ (by omega)
 have s7:IntKind.i64.wrap (x7+if d4<0 then d4 else 0)=x7+min 0 d4:=by rw [show (if d4<0 then d4 else 0)=min 0 d4 by split<;>omega];exact Go.IntWalk.i64_in _ (by omega)
 go_enter Tryz.func34,Tryz.ntmps34;go_wp2_with fail;refine (HP.out _).mono ?_;rintro e w1 ⟨rfl,hb1⟩;have HW1:Hid (w.heap.size<w1.heap.size):=Lib.hid (by have:=hb1.size;simp at this;omega)
 have K1:=Lib.hid (((((K0.out.alloc _).below hb1).new w1.heap.size rfl 23 #[.int .i64 d1,.int .i64 d2]).new (w1.heap.size+1) (by simp) 23 #[.int .i64 d3,.int .i64 d4]))
 clear hb1 K0;have c0:=K1.out.c (g:=b) (t:=70) (cs:=rw8 x0 x1 x2 x3 x4 x5 x6 x7) (by simp) (i:=0) (v:=.int .i64 x0) rfl
 have c1:=K1.out.c (g:=b) (t:=70) (cs:=rw8 x0 x1 x2 x3 x4 x5 x6 x7) (by simp) (i:=1) (v:=.int .i64 x1) rfl
 have f0:=K1.out.f (g:=b) (t:=70) (cs:=rw8 x0 x1 x2 x3 x4 x5 x6 x7) (by simp) 0
 have f1:=K1.out.f (g:=b) (t:=70) (cs:=rw8 x0 x1 x2 x3 x4 x5 x6 x7) (by simp) 1
 clear c0 c1 f0 f1;replace K1:=Lib.hid (K1.out.sub (DX (w1.heap.size+1,23,#[.int .i64 d3,.int .i64 d4]) (w1.heap.size,23,#[.int .i64 d1,.int .i64 d2]) (b,70,rw8 x0 x1 x2 x3 x4 x5 x6 x7) lr));unfold rw8 at K1;have hb1:=hbw.out;have hb2:=HW1.out
 have HL:Hid (∀ p∈((w1.heap.size+1,23,#[.int .i64 d3,.int .i64 d4])::(w1.heap.size,23,#[.int .i64 d1,.int .i64 d2])::lr),p.1≠b):=Lib.hid (by
  intro p hp;rcases List.mem_cons.1 hp with rfl|hp
  . simp only [];omega
  rcases List.mem_cons.1 hp with rfl|hp
  . simp only [];omega
  . exact HD.out p hp)
 go_upto_region 4 with (fail)
 generalize hW:((w1.alloc _).alloc _)=W0 at *
 clear hW;have KD0:=Lib.hid K1.out.drew;have c0:=KD0.out.c (g:=b) (t:=70) (cs:=#[.int .i64 x0,.int .i64 x1,.int .i64 x2,.int .i64 x3,.int .i64 x4,.int .i64 x5,.int .i64 x6,.int .i64 x7]) (by simp) (i:=0) (v:=.int .i64 (x0)) rfl
 have c1:=KD0.out.c (g:=b) (t:=70) (cs:=#[.int .i64 x0,.int .i64 x1,.int .i64 x2,.int .i64 x3,.int .i64 x4,.int .i64 x5,.int .i64 x6,.int .i64 x7]) (by simp) (i:=1) (v:=.int .i64 (x1)) rfl
 have f0:=KD0.out.f (g:=b) (t:=70) (cs:=#[.int .i64 x0,.int .i64 x1,.int .i64 x2,.int .i64 x3,.int .i64 x4,.int .i64 x5,.int .i64 x6,.int .i64 x7]) (by simp) 0
 have g0:=K1.out.f (g:=b) (t:=70) (cs:=#[.int .i64 x0,.int .i64 x1,.int .i64 x2,.int .i64 x3,.int .i64 x4,.int .i64 x5,.int .i64 x6,.int .i64 x7]) (by simp) 0
 have h0c:=K1.out.c (g:=b) (t:=70) (cs:=#[.int .i64 x0,.int .i64 x1,.int .i64 x2,.int .i64 x3,.int .i64 x4,.int .i64 x5,.int .i64 x6,.int .i64 x7]) (by simp) (i:=0) (v:=.int .i64 (x0)) rfl
 have f1:=KD0.out.f (g:=b) (t:=70) (cs:=#[.int .i64 x0,.int .i64 x1,.int .i64 x2,.int .i64 x3,.int .i64 x4,.int .i64 x5,.int .i64 x6,.int .i64 x7]) (by simp) 1
 have g1:=K1.out.f (g:=b) (t:=70) (cs:=#[.int .i64 x0,.int .i64 x1,.int .i64 x2,.int .i64 x3,.int .i64 x4,.int .i64 x5,.int .i64 x6,.int .i64 x7]) (by simp) 1
 have h1c:=K1.out.c (g:=b) (t:=70) (cs:=#[.int .i64 x0,.int .i64 x1,.int .i64 x2,.int .i64 x3,.int .i64 x4,.int .i64 x5,.int .i64 x6,.int .i64 x7]) (by simp) (i:=1) (v:=.int .i64 (x1)) rfl
 have a0:=KD0.out.c (g:=w1.heap.size) (t:=23) (cs:=#[.int .i64 d1,.int .i64 d2]) (by simp) (i:=0) (v:=.int .i64 d1) rfl
 have a1:=KD0.out.c (g:=w1.heap.size) (t:=23) (cs:=#[.int .i64 d1,.int .i64 d2]) (by simp) (i:=1) (v:=.int .i64 d2) rfl
 go_still_tail 20,(by kernel_rfl)
 change wpList _ _ _ _ _ W0.drew;go_upto_region 5 with (fail)
 have K2:Hid (KS w0 _ ((b,70,#[.int .i64 (x0+d1),.int .i64 (x1+d2),.int .i64 (x2),.int .i64 (x3),.int .i64 (x4),.int .i64 (x5),.int .i64 (x6),.int .i64 (x7)])::((w1.heap.size+1,23,#[.int .i64 d3,.int .i64 d4])::(w1.heap.size,23,#[.int .i64 d1,.int .i64 d2])::lr))):=Lib.hid ((sO (l':=((w1.heap.size+1,23,#[.int .i64 d3,.int .i64 d4])::(w1.heap.size,23,#[.int .i64 d1,.int .i64 d2])::lr)) K1.out (List.mem_cons_self ..) hn HL.out (fun p hp=>List.mem_cons_of_mem _ hp) 0 1 (.int .i64 (x0+d1)) (.int .i64 (x1+d2))).drew)
 clear K1 KD0 c0 c1 f0 f1 g0 g1 h0c h1c a0 a1;generalize hW:((W0.setCell _ _).setCell _ _).drew=W1 at *
 clear hW;have KD1:=Lib.hid K2.out.drew;have c0:=KD1.out.c (g:=b) (t:=70) (cs:=#[.int .i64 (x0+d1),.int .i64 (x1+d2),.int .i64 (x2),.int .i64 (x3),.int .i64 (x4),.int .i64 (x5),.int .i64 (x6),.int .i64 (x7)]) (by simp) (i:=0) (v:=.int .i64 (x0+d1)) rfl
 have c1:=KD1.out.c (g:=b) (t:=70) (cs:=#[.int .i64 (x0+d1),.int .i64 (x1+d2),.int .i64 (x2),.int .i64 (x3),.int .i64 (x4),.int .i64 (x5),.int .i64 (x6),.int .i64 (x7)]) (by simp) (i:=1) (v:=.int .i64 (x1+d2)) rfl
 have c2:=KD1.out.c (g:=b) (t:=70) (cs:=#[.int .i64 (x0+d1),.int .i64 (x1+d2),.int .i64 (x2),.int .i64 (x3),.int .i64 (x4),.int .i64 (x5),.int .i64 (x6),.int .i64 (x7)]) (by simp) (i:=2) (v:=.int .i64 (x2)) rfl
 have c3:=KD1.out.c (g:=b) (t:=70) (cs:=#[.int .i64 (x0+d1),.int .i64 (x1+d2),.int .i64 (x2),.int .i64 (x3),.int .i64 (x4),.int .i64 (x5),.int .i64 (x6),.int .i64 (x7)]) (by simp) (i:=3) (v:=.int .i64 (x3)) rfl
 have f2:=KD1.out.f (g:=b) (t:=70) (cs:=#[.int .i64 (x0+d1),.int .i64 (x1+d2),.int .i64 (x2),.int .i64 (x3),.int .i64 (x4),.int .i64 (x5),.int .i64 (x6),.int .i64 (x7)]) (by simp) 2
 have g2:=K2.out.f (g:=b) (t:=70) (cs:=#[.int .i64 (x0+d1),.int .i64 (x1+d2),.int .i64 (x2),.int .i64 (x3),.int .i64 (x4),.int .i64 (x5),.int .i64 (x6),.int .i64 (x7)]) (by simp) 2
 have h2c:=K2.out.c (g:=b) (t:=70) (cs:=#[.int .i64 (x0+d1),.int .i64 (x1+d2),.int .i64 (x2),.int .i64 (x3),.int .i64 (x4),.int .i64 (x5),.int .i64 (x6),.int .i64 (x7)]) (by simp) (i:=2) (v:=.int .i64 (x2)) rfl
 have f3:=KD1.out.f (g:=b) (t:=70) (cs:=#[.int .i64 (x0+d1),.int .i64 (x1+d2),.int .i64 (x2),.int .i64 (x3),.int .i64 (x4),.int .i64 (x5),.int .i64 (x6),.int .i64 (x7)]) (by simp) 3
 have g3:=K2.out.f (g:=b) (t:=70) (cs:=#[.int .i64 (x0+d1),.int .i64 (x1+d2),.int .i64 (x2),.int .i64 (x3),.int .i64 (x4),.int .i64 (x5),.int .i64 (x6),.int .i64 (x7)]) (by simp) 3
 have h3c:=K2.out.c (g:=b) (t:=70) (cs:=#[.int .i64 (x0+d1),.int .i64 (x1+d2),.int .i64 (x2),.int .i64 (x3),.int .i64 (x4),.int .i64 (x5),.int .i64 (x6),.int .i64 (x7)]) (by simp) (i:=3) (v:=.int .i64 (x3)) rfl
 go_still_tail 26,(by kernel_rfl)
 change wpList _ _ _ _ _ W1.drew;go_upto_region 6 with (fail)
 rw [show (if x0+d1<x2 then x0+d1 else x2)=min x2 (x0+d1) by split<;>omega,show (if x3<x1+d2 then x1+d2 else x3)=max x3 (x1+d2) by split<;>omega]
 have K3:Hid (KS w0 _ ((b,70,#[.int .i64 (x0+d1),.int .i64 (x1+d2),.int .i64 (min x2 (x0+d1)),.int .i64 (max x3 (x1+d2)),.int .i64 (x4),.int .i64 (x5),.int .i64 (x6),.int .i64 (x7)])::((w1.heap.size+1,23,#[.int .i64 d3,.int .i64 d4])::(w1.heap.size,23,#[.int .i64 d1,.int .i64 d2])::lr))):=Lib.hid ((sO (l':=((w1.heap.size+1,23,#[.int .i64 d3,.int .i64 d4])::(w1.heap.size,23,#[.int .i64 d1,.int .i64 d2])::lr)) K2.out (List.mem_cons_self ..) hn HL.out (fun p hp=>List.mem_cons_of_mem _ hp) 2 3 (.int .i64 (min x2 (x0+d1))) (.int .i64 (max x3 (x1+d2)))).drew)
 clear K2 KD1 c0 c1 c2 c3 f2 f3 g2 g3 h2c h3c;generalize hW:((W1.setCell _ _).setCell _ _).drew=W2 at *
 clear hW;have KD2:=Lib.hid K3.out.drew;have c4:=KD2.out.c (g:=b) (t:=70) (cs:=#[.int .i64 (x0+d1),.int .i64 (x1+d2),.int .i64 (min x2 (x0+d1)),.int .i64 (max x3 (x1+d2)),.int .i64 (x4),.int .i64 (x5),.int .i64 (x6),.int .i64 (x7)]) (by simp) (i:=4) (v:=.int .i64 (x4)) rfl
 have c5:=KD2.out.c (g:=b) (t:=70) (cs:=#[.int .i64 (x0+d1),.int .i64 (x1+d2),.int .i64 (min x2 (x0+d1)),.int .i64 (max x3 (x1+d2)),.int .i64 (x4),.int .i64 (x5),.int .i64 (x6),.int .i64 (x7)]) (by simp) (i:=5) (v:=.int .i64 (x5)) rfl
 have f4:=KD2.out.f (g:=b) (t:=70) (cs:=#[.int .i64 (x0+d1),.int .i64 (x1+d2),.int .i64 (min x2 (x0+d1)),.int .i64 (max x3 (x1+d2)),.int .i64 (x4),.int .i64 (x5),.int .i64 (x6),.int .i64 (x7)]) (by simp) 4
 have g4:=K3.out.f (g:=b) (t:=70) (cs:=#[.int .i64 (x0+d1),.int .i64 (x1+d2),.int .i64 (min x2 (x0+d1)),.int .i64 (max x3 (x1+d2)),.int .i64 (x4),.int .i64 (x5),.int .i64 (x6),.int .i64 (x7)]) (by simp) 4
 have h4c:=K3.out.c (g:=b) (t:=70) (cs:=#[.int .i64 (x0+d1),.int .i64 (x1+d2),.int .i64 (min x2 (x0+d1)),.int .i64 (max x3 (x1+d2)),.int .i64 (x4),.int .i64 (x5),.int .i64 (x6),.int .i64 (x7)]) (by simp) (i:=4) (v:=.int .i64 (x4)) rfl
 have f5:=KD2.out.f (g:=b) (t:=70) (cs:=#[.int .i64 (x0+d1),.int .i64 (x1+d2),.int .i64 (min x2 (x0+d1)),.int .i64 (max x3 (x1+d2)),.int .i64 (x4),.int .i64 (x5),.int .i64 (x6),.int .i64 (x7)]) (by simp) 5
 have g5:=K3.out.f (g:=b) (t:=70) (cs:=#[.int .i64 (x0+d1),.int .i64 (x1+d2),.int .i64 (min x2 (x0+d1)),.int .i64 (max x3 (x1+d2)),.int .i64 (x4),.int .i64 (x5),.int .i64 (x6),.int .i64 (x7)]) (by simp) 5
 have h5c:=K3.out.c (g:=b) (t:=70) (cs:=#[.int .i64 (x0+d1),.int .i64 (x1+d2),.int .i64 (min x2 (x0+d1)),.int .i64 (max x3 (x1+d2)),.int .i64 (x4),.int .i64 (x5),.int .i64 (x6),.int .i64 (x7)]) (by simp) (i:=5) (v:=.int .i64 (x5)) rfl
 have a0:=KD2.out.c (g:=(w1.heap.size+1)) (t:=23) (cs:=#[.int .i64 d3,.int .i64 d4]) (by simp) (i:=0) (v:=.int .i64 d3) rfl
 have a1:=KD2.out.c (g:=(w1.heap.size+1)) (t:=23) (cs:=#[.int .i64 d3,.int .i64 d4]) (by simp) (i:=1) (v:=.int .i64 d4) rfl
 go_still_tail 22,(by kernel_rfl)
 change wpList _ _ _ _ _ W2.drew;go_upto_region 7 with (fail)
 have K4:Hid (KS w0 _ ((b,70,#[.int .i64 (x0+d1),.int .i64 (x1+d2),.int .i64 (min x2 (x0+d1)),.int .i64 (max x3 (x1+d2)),.int .i64 (x4+max 0 d3),.int .i64 (x5+max 0 d4),.int .i64 (x6),.int .i64 (x7)])::((w1.heap.size+1,23,#[.int .i64 d3,.int .i64 d4])::(w1.heap.size,23,#[.int .i64 d1,.int .i64 d2])::lr))):=Lib.hid ((sO (l':=((w1.heap.size+1,23,#[.int .i64 d3,.int .i64 d4])::(w1.heap.size,23,#[.int .i64 d1,.int .i64 d2])::lr)) K3.out (List.mem_cons_self ..) hn HL.out (fun p hp=>List.mem_cons_of_mem _ hp) 4 5 (.int .i64 (x4+max 0 d3)) (.int .i64 (x5+max 0 d4))).drew)
 clear K3 KD2 c4 c5 f4 f5 g4 g5 h4c h5c a0 a1;generalize hW:((W2.setCell _ _).setCell _ _).drew=W3 at *
 clear hW;have KD3:=Lib.hid K4.out.drew;have c6:=KD3.out.c (g:=b) (t:=70) (cs:=#[.int .i64 (x0+d1),.int .i64 (x1+d2),.int .i64 (min x2 (x0+d1)),.int .i64 (max x3 (x1+d2)),.int .i64 (x4+max 0 d3),.int .i64 (x5+max 0 d4),.int .i64 (x6),.int .i64 (x7)]) (by simp) (i:=6) (v:=.int .i64 (x6)) rfl
 have c7:=KD3.out.c (g:=b) (t:=70) (cs:=#[.int .i64 (x0+d1),.int .i64 (x1+d2),.int .i64 (min x2 (x0+d1)),.int .i64 (max x3 (x1+d2)),.int .i64 (x4+max 0 d3),.int .i64 (x5+max 0 d4),.int .i64 (x6),.int .i64 (x7)]) (by simp) (i:=7) (v:=.int .i64 (x7)) rfl
 have f6:=KD3.out.f (g:=b) (t:=70) (cs:=#[.int .i64 (x0+d1),.int .i64 (x1+d2),.int .i64 (min x2 (x0+d1)),.int .i64 (max x3 (x1+d2)),.int .i64 (x4+max 0 d3),.int .i64 (x5+max 0 d4),.int .i64 (x6),.int .i64 (x7)]) (by simp) 6
 have g6:=K4.out.f (g:=b) (t:=70) (cs:=#[.int .i64 (x0+d1),.int .i64 (x1+d2),.int .i64 (min x2 (x0+d1)),.int .i64 (max x3 (x1+d2)),.int .i64 (x4+max 0 d3),.int .i64 (x5+max 0 d4),.int .i64 (x6),.int .i64 (x7)]) (by simp) 6
 have h6c:=K4.out.c (g:=b) (t:=70) (cs:=#[.int .i64 (x0+d1),.int .i64 (x1+d2),.int .i64 (min x2 (x0+d1)),.int .i64 (max x3 (x1+d2)),.int .i64 (x4+max 0 d3),.int .i64 (x5+max 0 d4),.int .i64 (x6),.int .i64 (x7)]) (by simp) (i:=6) (v:=.int .i64 (x6)) rfl
 have f7:=KD3.out.f (g:=b) (t:=70) (cs:=#[.int .i64 (x0+d1),.int .i64 (x1+d2),.int .i64 (min x2 (x0+d1)),.int .i64 (max x3 (x1+d2)),.int .i64 (x4+max 0 d3),.int .i64 (x5+max 0 d4),.int .i64 (x6),.int .i64 (x7)]) (by simp) 7
 have g7:=K4.out.f (g:=b) (t:=70) (cs:=#[.int .i64 (x0+d1),.int .i64 (x1+d2),.int .i64 (min x2 (x0+d1)),.int .i64 (max x3 (x1+d2)),.int .i64 (x4+max 0 d3),.int .i64 (x5+max 0 d4),.int .i64 (x6),.int .i64 (x7)]) (by simp) 7
 have h7c:=K4.out.c (g:=b) (t:=70) (cs:=#[.int .i64 (x0+d1),.int .i64 (x1+d2),.int .i64 (min x2 (x0+d1)),.int .i64 (max x3 (x1+d2)),.int .i64 (x4+max 0 d3),.int .i64 (x5+max 0 d4),.int .i64 (x6),.int .i64 (x7)]) (by simp) (i:=7) (v:=.int .i64 (x7)) rfl
 have a0:=KD3.out.c (g:=(w1.heap.size+1)) (t:=23) (cs:=#[.int .i64 d3,.int .i64 d4]) (by simp) (i:=0) (v:=.int .i64 d3) rfl
 have a1:=KD3.out.c (g:=(w1.heap.size+1)) (t:=23) (cs:=#[.int .i64 d3,.int .i64 d4]) (by simp) (i:=1) (v:=.int .i64 d4) rfl
 go_still_tail 22,(by kernel_rfl)
 change wpList _ _ _ _ _ W3.drew;go_upto_region 8 with (fail)
 have K5:Hid (KS w0 _ ((b,70,#[.int .i64 (x0+d1),.int .i64 (x1+d2),.int .i64 (min x2 (x0+d1)),.int .i64 (max x3 (x1+d2)),.int .i64 (x4+max 0 d3),.int .i64 (x5+max 0 d4),.int .i64 (x6+min 0 d3),.int .i64 (x7+min 0 d4)])::((w1.heap.size+1,23,#[.int .i64 d3,.int .i64 d4])::(w1.heap.size,23,#[.int .i64 d1,.int .i64 d2])::lr))):=Lib.hid ((sO (l':=((w1.heap.size+1,23,#[.int .i64 d3,.int .i64 d4])::(w1.heap.size,23,#[.int .i64 d1,.int .i64 d2])::lr)) K4.out (List.mem_cons_self ..) hn HL.out (fun p hp=>List.mem_cons_of_mem _ hp) 6 7 (.int .i64 (x6+min 0 d3)) (.int .i64 (x7+min 0 d4))).drew)
 clear K4 KD3 c6 c7 f6 f7 g6 g7 h6c h7c a0 a1;generalize hW:((W3.setCell _ _).setCell _ _).drew=W4 at *
 clear hW;go_wp2
 all_goals go_ret
 all_goals exact ⟨rfl,K5.out.sub (zu _ _ _ _)⟩
