/- Walks of LookupColumns over contracts: the columns' tests. -/
import Derived.Test.YtoniodlcogpdbaaGreatZRw
import Derived.Deep.QuietTactic
import Derived.BigQuiet
import Derived.Deep.Light
import Derived.Deep.RegionHeld3
import Derived.StillTailTactics
set_option linter.unusedVariables false
set_option linter.unusedSimpArgs false
set_option maxRecDepth 100000
set_option maxHeartbeats 4000000
namespace Go.Proofs.YtoniodlcogpdbaaGreat
open Go.RowKit Alm Sx
theorem kc2 {w wr:World} {l:List (Nat × TypeId × Array Value)} (h:KS w wr l) (g:Nat) (t:TypeId) (v0 v1:Value) (hm:(g,t,#[v0,v1])∈l):wr.cell? ⟨g,0,none⟩=some v0/\wr.cell? ⟨g,1,none⟩=some v1:=⟨h.c hm rfl,h.c hm rfl⟩
theorem kc4 {w wr:World} {l:List (Nat × TypeId × Array Value)} (h:KS w wr l) (g:Nat) (t:TypeId) (v0 v1 v2 v3:Value) (hm:(g,t,#[v0,v1,v2,v3])∈l):wr.cell? ⟨g,0,none⟩=some v0/\wr.cell? ⟨g,1,none⟩=some v1/\wr.cell? ⟨g,2,none⟩=some v2/\wr.cell? ⟨g,3,none⟩=some v3:=⟨h.c hm rfl,h.c hm rfl,h.c hm rfl,h.c hm rfl⟩
theorem kc6 {w wr:World} {l:List (Nat × TypeId × Array Value)} (h:KS w wr l) (g:Nat) (t:TypeId) (v0 v1 v2 v3 v4 v5:Value) (hm:(g,t,#[v0,v1,v2,v3,v4,v5])∈l):wr.cell? ⟨g,0,none⟩=some v0/\wr.cell? ⟨g,1,none⟩=some v1/\wr.cell? ⟨g,2,none⟩=some v2/\wr.cell? ⟨g,3,none⟩=some v3/\wr.cell? ⟨g,4,none⟩=some v4/\wr.cell? ⟨g,5,none⟩=some v5:=⟨h.c hm rfl,h.c hm rfl,h.c hm rfl,h.c hm rfl,h.c hm rfl,h.c hm rfl⟩
theorem kf4 {w wr:World} {l:List (Nat × TypeId × Array Value)} (h:KS w wr l) (g:Nat) (t:TypeId) (v0 v1 v2 v3:Value) (hm:(g,t,#[v0,v1,v2,v3])∈l):wr.frozen? ⟨g,0,none⟩=false/\wr.frozen? ⟨g,1,none⟩=false/\wr.frozen? ⟨g,2,none⟩=false/\wr.frozen? ⟨g,3,none⟩=false:=⟨h.f hm 0,h.f hm 1,h.f hm 2,h.f hm 3⟩
theorem jq {w wr:World} {l:List (Nat × TypeId × Array Value)} (h:KS w wr l) (g:Nat) (t:TypeId) (v0 v1 v2 v3:Value) (hm:(g,t,#[v0,v1,v2,v3])∈l) (hg:w.heap.size<=g) (u0 u1 u2 u3:Value):KS w ((((wr.setCell ⟨g,0,none⟩ u0).setCell ⟨g,1,none⟩ u1).setCell ⟨g,2,none⟩ u2).setCell ⟨g,3,none⟩ u3) [(g,t,#[u0,u1,u2,u3])]:=by
 have k:=((((h.sub (l':=[(g,t,#[v0,v1,v2,v3])]) (by intro x hx;simp at hx;subst hx;exact hm)).set hg (by simp) 0 u0).set hg (by simp) 1 u1).set hg (by simp) 2 u2).set hg (by simp) 3 u3
 simpa using k
def CtB (w:World) (f:Nat) (a:Array Value) (r:Value):Prop:=Hid (∀ wx:World,Below w.heap.size w wx->Calls Tryz.prog f a wx fun e w'=>e=.returned r/\Below wx.heap.size wx w')
theorem dY {a b:Bool} (h:a=b):Ending.returned (.bool a)=.returned (.bool b):=by rw [h]
theorem Ml (la de eh ez:Int) (aH aZ:Option Addr) (nH cH nZ cZ:Nat) (A B X Y:Bool) (w:World)
 (CA:Hid (∀ w:World,Calls Tryz.prog 35 #[.int .i64 la] w fun e w'=>e=.returned (.bool A)/\Below w.heap.size w w'))
 (CB:Hid (∀ w:World,Calls Tryz.prog 35 #[.int .i64 de] w fun e w'=>e=.returned (.bool B)/\Below w.heap.size w w'))
 (CX:Hid (∀ w1:World,Below w.heap.size w w1->Calls Tryz.prog 36 #[.slice aH nH cH,.func (.func 37) #[] #[]] w1 fun e w'=>e=.returned (.bool X)/\Below w1.heap.size w1 w'))
 (CY:Hid (∀ w1:World,Below w.heap.size w w1->Calls Tryz.prog 36 #[.slice aZ nZ cZ,.func (.func 38) #[] #[]] w1 fun e w'=>e=.returned (.bool Y)/\Below w1.heap.size w1 w')) :
 Calls Tryz.prog 13 #[.agg #[.int .i64 la,.int .i64 de,.slice aH nH cH,.slice aZ nZ cZ,.int .i64 eh,.int .i64 ez]] w fun e w'=>e=.returned (.bool (A&&B&&decide (nH=181)&&decide (nZ=181)&&decide (0<=eh/\eh<=10800000)&&decide (0<=ez/\ez<=10800000) && !X && !Y))/\Below w.heap.size w w':=by
 have K0:=Lib.hid ((az w).new w.heap.size rfl 24 #[.int .i64 la,.int .i64 de,.slice aH nH cH,.slice aZ nZ cZ,.int .i64 eh,.int .i64 ez]);go_enter Tryz.func13,Tryz.ntmps13;obtain ⟨t0,-,-,-,-,-⟩:=kc6 K0.out (w.heap.size) 24 (.int .i64 la) (.int .i64 de) (.slice aH nH cH) (.slice aZ nZ cZ) (.int .i64 eh) (.int .i64 ez) (by simp)
 go_wp2_with fail;refine (CA.out _).mono ?_;rintro e w1 ⟨rfl,hb⟩;have K1:=Lib.hid (K0.out.below hb);clear hb K0 CA t0;obtain ⟨-,t1,-,-,-,-⟩:=kc6 K1.out (w.heap.size) 24 (.int .i64 la) (.int .i64 de) (.slice aH nH cH) (.slice aZ nZ cZ) (.int .i64 eh) (.int .i64 ez) (by simp)
 cases A
 . go_wp2
   (go_ret;refine ⟨dY ?_,K1.out.1⟩;first|(simp_all;done)|(simp_all;omega)|(simp;omega))
 . go_wp2_with fail;refine (CB.out _).mono ?_;rintro e w2 ⟨rfl,hb⟩;have K2:=Lib.hid (K1.out.below hb);clear hb K1 CB t1;obtain ⟨-,-,t2,t3,t4,t5⟩:=kc6 K2.out (w.heap.size) 24 (.int .i64 la) (.int .i64 de) (.slice aH nH cH) (.slice aZ nZ cZ) (.int .i64 eh) (.int .i64 ez) (by simp)
   cases B
   . go_wp2
     (go_ret;refine ⟨dY ?_,K2.out.1⟩;first|(simp_all;done)|(simp_all;omega)|(simp;omega))
   . by_cases h3:nH=181
     . subst h3
       by_cases h4:nZ=181
       . subst h4;go_wp2_with fail
         all_goals (try (go_ret;refine ⟨dY ?_,K2.out.1⟩;first|(simp_all;done)|(simp_all;omega)|(simp;omega)))
         refine (CX.out _ K2.out.1).mono ?_;rintro e w3 ⟨rfl,hb⟩;have K3:=Lib.hid (K2.out.below hb);clear hb K2 CX t2 t3 t4 t5;obtain ⟨-,-,-,t3,-,-⟩:=kc6 K3.out (w.heap.size) 24 (.int .i64 la) (.int .i64 de) (.slice aH 181 cH) (.slice aZ 181 cZ) (.int .i64 eh) (.int .i64 ez) (by simp)
         cases X
         . go_wp2_with fail;refine (CY.out _ K3.out.1).mono ?_;rintro e w4 ⟨rfl,hb⟩;have K4:=Lib.hid (K3.out.below hb);clear hb K3 CY t3;go_wp2
           (go_ret;refine ⟨dY ?_,K4.out.1⟩;first|(simp_all;done)|(simp_all;omega)|(simp;omega))
         . go_wp2
           (go_ret;refine ⟨dY ?_,K3.out.1⟩;first|(simp_all;done)|(simp_all;omega)|(simp;omega))
       . have i4:¬ (nZ:Int)=181:=by omega
         go_wp2_with fail
         all_goals (go_ret;refine ⟨dY ?_,K2.out.1⟩;first|(simp_all;done)|(simp_all;omega)|(simp;omega))
     . have i3:¬ (nH:Int)=181:=by omega
       go_wp2_with fail
       all_goals (go_ret;refine ⟨dY ?_,K2.out.1⟩;first|(simp_all;done)|(simp_all;omega)|(simp;omega))
end Go.Proofs.YtoniodlcogpdbaaGreat
namespace Go.Proofs.YtoniodlcogpdbaaGreat
open Go.RowKit Alm Sx
theorem zB (la de eh ez u0 u1:Int) (aH aZ:Option Addr) (cH cZ k gk gu:Nat) (H Z:Cs) (x0 x1 y0 y1 z0 z1 q0 q1 r0 r1 r2 r3:Int) (w:World) (hH:SlI 2 w aH H) (hZ:SlI 2 w aZ Z) (hn:H.length=181) (hm:Z.length=181) (hk:k<180)
 (hx:H[k]=[x0,x1]) (hy:H[k+1]=[y0,y1]) (hz:Z[k]=[z0,z1]) (hq:Z[k+1]=[q0,q1])
 (ck:w.cell? ⟨gk,0,none⟩=some (.int .i64 (k:Int))) (cu0:w.cell? ⟨gu,0,none⟩=some (.int .i64 u0)) (cu1:w.cell? ⟨gu,1,none⟩=some (.int .i64 u1)) (lk:gk<w.heap.size) (lu:gu<w.heap.size)
 (CH:Hid (∀ w:World,Calls Tryz.prog 17 #[.agg #[.int .i64 x0,.int .i64 x1,.int .i64 z0,.int .i64 z1],.agg #[.int .i64 y0,.int .i64 y1,.int .i64 q0,.int .i64 q1],.agg #[.int .i64 eh,.int .i64 ez],.agg #[.int .i64 u0,.int .i64 u1]] w fun e w'=>e=.returned (.agg #[.int .i64 r0,.int .i64 r1,.int .i64 r2,.int .i64 r3])/\Below w.heap.size w w')) :
 Calls Tryz.prog 16 #[.agg #[.int .i64 la,.int .i64 de,.slice aH 181 cH,.slice aZ 181 cZ,.int .i64 eh,.int .i64 ez],.pointer (some ⟨gk,0,none⟩),.pointer (some ⟨gu,0,none⟩)] w fun e w'=>e=.returned (.agg #[.int .i64 r0,.int .i64 r1,.int .i64 r2,.int .i64 r3])/\Below w.heap.size w w':=by
 have K0:=((az w).new w.heap.size rfl 24 #[.int .i64 la,.int .i64 de,.slice aH 181 cH,.slice aZ 181 cZ,.int .i64 eh,.int .i64 ez]).new (w.heap.size+1) (by simp) 50 #[.int .i64 0,.int .i64 0,.int .i64 0,.int .i64 0]
 rcases hH.below K0.1 with h0|⟨b1,o1,rfl,RH⟩
 . rw [h0] at hn;simp at hn
 rcases hZ.below K0.1 with h0|⟨b2,o2,rfl,RZ⟩
 . rw [h0] at hm;simp at hm
 obtain ⟨x0',x1',e1,c0,c1⟩:=RH.at2 k (by omega)
 obtain ⟨y0',y1',e2,c2,c3⟩:=RH.at2 (k+1) (by omega)
 obtain ⟨z0',z1',e3,c4,c5⟩:=RZ.at2 k (by omega)
 obtain ⟨q0',q1',e4,c6,c7⟩:=RZ.at2 (k+1) (by omega)
 rw [hx] at e1;rw [hy] at e2;rw [hz] at e3;rw [hq] at e4
 injection e1 with p1 p2;injection p2 with p2 _;subst p1;subst p2
 injection e2 with p1 p2;injection p2 with p2 _;subst p1;subst p2
 injection e3 with p1 p2;injection p2 with p2 _;subst p1;subst p2
 injection e4 with p1 p2;injection p2 with p2 _;subst p1;subst p2
 have ck':=(K0.1.cell lk).trans ck;have cu0':=(K0.1.cell lu).trans cu0;have cu1':=(K0.1.cell lu).trans cu1;obtain ⟨-,-,t2,t3,t4,t5⟩:=kc6 K0 (w.heap.size) 24 (.int .i64 la) (.int .i64 de) (.slice (some ⟨b1,o1,none⟩) 181 cH) (.slice (some ⟨b2,o2,none⟩) 181 cZ) (.int .i64 eh) (.int .i64 ez) (by simp)
 have hk0:(0:Int)<=(k:Int):=by omega
 have hk1:(k:Int)<181:=by omega
 have hj0:(0:Int)<=(k:Int)+1:=by omega
 have hj1:(k:Int)+1<181:=by omega
 have hw:IntKind.i64.wrap ((k:Int)+1)=(k:Int)+1:=Go.IntWalk.i64_in _ (by omega)
 have ht:((k:Int)+1).toNat=k+1:=by omega
 have lb1:=RH.lt;have lb2:=RZ.lt;have lk2:=Nat.lt_of_lt_of_le lk K0.1.size;have lu2:=Nat.lt_of_lt_of_le lu K0.1.size;have lg:=K0.lt (g:=w.heap.size) (t:=24) (cs:=#[.int .i64 la,.int .i64 de,.slice (some ⟨b1,o1,none⟩) 181 cH,.slice (some ⟨b2,o2,none⟩) 181 cZ,.int .i64 eh,.int .i64 ez]) (by simp)
 have KH:=Lib.hid K0;clear hn hm hx hy hz hq ck cu0 cu1 RH RZ hH hZ K0;go_enter Tryz.func16,Tryz.ntmps16;go_upto_region 1 with (fail)
 generalize hW:((w.alloc _).alloc _)=wA at *
 go_still_tail 30,(by kernel_rfl)
 change wpList _ _ _ _ _ wA.drew;have KD:=Lib.hid KH.out.drew;clear hW c0 c1 c2 c3 c4 c5 c6 c7 ck' cu0' cu1' t2 t3 t4 t5 KH;generalize wA.drew=wB at *
 go_wp2_with fail;refine (CH.out _).mono ?_;rintro e w5 ⟨rfl,hb⟩;have K5:=Lib.hid (KD.out.below hb);clear hb KD CH;have n0:=K5.out.c (g:=w.heap.size+1) (t:=50) (cs:=#[.int .i64 0,.int .i64 0,.int .i64 0,.int .i64 0]) (by simp) (i:=0) rfl
 have n1:=K5.out.c (g:=w.heap.size+1) (t:=50) (cs:=#[.int .i64 0,.int .i64 0,.int .i64 0,.int .i64 0]) (by simp) (i:=1) rfl
 have n2:=K5.out.c (g:=w.heap.size+1) (t:=50) (cs:=#[.int .i64 0,.int .i64 0,.int .i64 0,.int .i64 0]) (by simp) (i:=2) rfl
 have n3:=K5.out.c (g:=w.heap.size+1) (t:=50) (cs:=#[.int .i64 0,.int .i64 0,.int .i64 0,.int .i64 0]) (by simp) (i:=3) rfl
 have m0:=K5.out.f (g:=w.heap.size+1) (t:=50) (cs:=#[.int .i64 0,.int .i64 0,.int .i64 0,.int .i64 0]) (by simp) 0
 have m1:=K5.out.f (g:=w.heap.size+1) (t:=50) (cs:=#[.int .i64 0,.int .i64 0,.int .i64 0,.int .i64 0]) (by simp) 1
 have m2:=K5.out.f (g:=w.heap.size+1) (t:=50) (cs:=#[.int .i64 0,.int .i64 0,.int .i64 0,.int .i64 0]) (by simp) 2
 have m3:=K5.out.f (g:=w.heap.size+1) (t:=50) (cs:=#[.int .i64 0,.int .i64 0,.int .i64 0,.int .i64 0]) (by simp) 3
 have K6:=Lib.hid ((((K5.out.set (by omega) (by intro x hx;simp at hx;subst hx;simp) 0 (.int .i64 r0)).set (by omega) (by intro x hx;simp at hx;subst hx;simp) 1 (.int .i64 r1)).set (by omega) (by intro x hx;simp at hx;subst hx;simp) 2 (.int .i64 r2)).set (by omega) (by intro x hx;simp at hx;subst hx;simp) 3 (.int .i64 r3))
 simp at K6;go_wp2;clear n0 n1 n2 n3 m0 m1 m2 m3 K5;generalize ((((w5.setCell _ _).setCell _ _).setCell _ _).setCell _ _)=w6 at *
 have n0:=K6.out.c (g:=w.heap.size+1) (t:=50) (cs:=#[.int .i64 r0,.int .i64 r1,.int .i64 r2,.int .i64 r3]) (by simp) (i:=0) rfl
 have n1:=K6.out.c (g:=w.heap.size+1) (t:=50) (cs:=#[.int .i64 r0,.int .i64 r1,.int .i64 r2,.int .i64 r3]) (by simp) (i:=1) rfl
 have n2:=K6.out.c (g:=w.heap.size+1) (t:=50) (cs:=#[.int .i64 r0,.int .i64 r1,.int .i64 r2,.int .i64 r3]) (by simp) (i:=2) rfl
 have n3:=K6.out.c (g:=w.heap.size+1) (t:=50) (cs:=#[.int .i64 r0,.int .i64 r1,.int .i64 r2,.int .i64 r3]) (by simp) (i:=3) rfl
 refine bodyPost_ret (v:=.agg #[.int .i64 r0,.int .i64 r1,.int .i64 r2,.int .i64 r3]) (by simp [results,Tryz.results16,go_sem,n0,n1,n2,n3];try rfl) rfl ⟨rfl,K6.out.1⟩
