/- The walks of the reference's rough sine, and of the searches that only guess. -/
import Derived.Test.YtoniodlcogpdbaaGreatZKp
import Derived.Deep.Light
import Derived.BigQuiet
import Derived.Deep.QuietTactic
import Derived.Test.YtoniodlcogpdbaaGreatZSides
import Derived.Test.YtoniodlcogpdbaaGreatZTrigs
import Derived.Test.YtoniodlcogpdbaaGreatZDirs
import Derived.Test.YtoniodlcogpdbaaGreatZRefA
import Derived.Test.YtoniodlcogpdbaaGreatZVecs
import Derived.Test.YtoniodlcogpdbaaGreatZSp
import Derived.Test.YtoniodlcogpdbaaGreatZSxL
import Derived.IntWalk
set_option linter.unusedVariables false
set_option linter.unusedSimpArgs false
set_option maxRecDepth 100000
set_option maxHeartbeats 8000000
namespace Alm
def roT (y:Int):Nat->Int
 | 0=>1073741824
 | j+1=>1073741824-y*roT y j/1073741824/((13-2*(j:Int))*(13-2*(j:Int)-1))
def roX (n:Int):Int:=n*3373259426/10800000
def roV (n:Int):Int:=roX n*roT (roX n*roX n/1073741824) 6/1073741824
def roW (n:Int):Int:=if n<0 then -roV (-n) else roV n
theorem lW (a b A B:Int) (h0:0<=a) (h1:a<=A) (k0:0<=b) (k1:b<=B):0<=a*b/\a*b<=A*B :=
 ⟨Int.mul_nonneg h0 k0,Int.mul_le_mul h1 k1 k0 (by omega)⟩
theorem Ij (y:Int) (h0:0<=y) (h1:y<=2700000000) (j:Nat) (hj:j<=6):0<=roT y j/\roT y j<=1073741824:=by
 induction j with
 | zero=>exact ⟨show (0:Int)<=1073741824 by decide,show (1073741824:Int)<=1073741824 by decide⟩
 | succ j ih =>
  obtain ⟨a,b⟩:=ih (by omega)
  show 0<=1073741824-y*roT y j/1073741824/((13-2*(j:Int))*(13-2*(j:Int)-1))/\1073741824-y*roT y j/1073741824/((13-2*(j:Int))*(13-2*(j:Int)-1))<=1073741824;have m:=lW y (roT y j) 2700000000 1073741824 h0 h1 a b;generalize y*roT y j=q at *
  have hq:0<=q/1073741824/\q/1073741824<=2700000000:=by omega
  generalize q/1073741824=r at *
  have:j=0∨j=1∨j=2∨j=3∨j=4∨j=5:=by omega
  rcases this with rfl|rfl|rfl|rfl|rfl|rfl<;>simp<;>omega
theorem Rq (n:Int) (h0:0<=n) (h1:n<=5400000):0<=roX n/\roX n<=1686629713:=by unfold roX;omega
theorem QF (n:Int) (h0:0<=n) (h1:n<=5400000):0<=roV n/\roV n<=1686629713:=by
 obtain ⟨a,b⟩:=Rq n h0 h1;have m:=lW _ _ 1686629713 1686629713 a b a b;unfold roV;have t:=Ij (roX n*roX n/1073741824) (by omega) (by omega) 6 (by omega)
 have m2:=lW _ _ 1686629713 1073741824 a b t.1 t.2;generalize roX n*roT (roX n*roX n/1073741824) 6=q at *
 omega
end Alm
namespace Go.Proofs.YtoniodlcogpdbaaGreat
open Go.RowKit Alm
theorem H9 (n X Y T V:Int) (w:World) (h0:0<=n) (h1:n<=5400000) (hX:n*3373259426/10800000=X) (x0:0<=X) (x1:X<=1686629713) (q0:0<=X*X) (q1:X*X<=2844719788774462369) (hY:X*X/1073741824=Y) (y0:0<=Y) (y1:Y<=2700000000)
 (hT:roT Y 6=T) (t0:0<=X*T) (t1:X*T<=1811004864449216512) (hV:X*T/1073741824=V) :
 Calls Tryz.prog 135 #[.int .i64 n] w fun e w'=>e=.returned (.int .i64 V)/\w=w':=by
 have HT:=Lib.hid hT;have BD:=Lib.hid (Ij Y y0 y1);have HM:=Lib.hid (fun t (h:0<=t/\t<=1073741824)=>lW Y t 2700000000 1073741824 y0 y1 h.1 h.2)
 clear hT;go_enter Tryz.func135,Tryz.ntmps135;go_wp2;go_loop [5,6] (fun v5 v6=>∃ (j:Nat) (k t:Int),v5=.int .i64 t/\v6=.int .i64 k/\Hid (t=roT Y j)/\Hid (0<=t/\t<=1073741824)/\((j=0/\k=13)∨(j=1/\k=11)∨(j=2/\k=9)∨(j=3/\k=7)∨(j=4/\k=5)∨(j=5/\k=3)∨(j=6/\k=1))) (fun _ v6=>(intOf v6).toNat)
 case atStart=>exact ⟨0,13,1073741824,rfl,rfl,Lib.hid rfl,Lib.hid ⟨by decide,by decide⟩,.inl ⟨rfl,rfl⟩⟩
 case round =>
  obtain ⟨j,k,t,rfl,rfl,ht,hb,hjk⟩:=hrel;have M:=HM.out t hb.out;obtain ⟨m0,m1⟩:=M;rcases hjk with ⟨rfl,rfl⟩|⟨rfl,rfl⟩|⟨rfl,rfl⟩|⟨rfl,rfl⟩|⟨rfl,rfl⟩|⟨rfl,rfl⟩|⟨rfl,rfl⟩
  . have E:Hid (1073741824-Y*t/1073741824/156=roT Y 1):=by rw [ht.out];rfl
    have HB:Hid (0<=1073741824-Y*t/1073741824/156/\1073741824-Y*t/1073741824/156<=1073741824):=by
     have:=BD.out 1 (by omega)
     rw [<-E.out] at this;exact this
    have q0:0<=Y*t/1073741824:=by omega
    clear HM BD;go_wp2;go_light;exact ⟨⟨1,11,_,rfl,rfl,E,HB,.inr (.inl ⟨rfl,rfl⟩)⟩,by simp only [intOf];omega⟩
  . have E:Hid (1073741824-Y*t/1073741824/110=roT Y 2):=by rw [ht.out];rfl
    have HB:Hid (0<=1073741824-Y*t/1073741824/110/\1073741824-Y*t/1073741824/110<=1073741824):=by
     have:=BD.out 2 (by omega)
     rw [<-E.out] at this;exact this
    have q0:0<=Y*t/1073741824:=by omega
    clear HM BD;go_wp2;go_light;exact ⟨⟨2,9,_,rfl,rfl,E,HB,.inr (.inr (.inl ⟨rfl,rfl⟩))⟩,by simp only [intOf];omega⟩
  . have E:Hid (1073741824-Y*t/1073741824/72=roT Y 3):=by rw [ht.out];rfl
    have HB:Hid (0<=1073741824-Y*t/1073741824/72/\1073741824-Y*t/1073741824/72<=1073741824):=by
     have:=BD.out 3 (by omega)
     rw [<-E.out] at this;exact this
    have q0:0<=Y*t/1073741824:=by omega
    clear HM BD;go_wp2;go_light;exact ⟨⟨3,7,_,rfl,rfl,E,HB,.inr (.inr (.inr (.inl ⟨rfl,rfl⟩)))⟩,by simp only [intOf];omega⟩
  . have E:Hid (1073741824-Y*t/1073741824/42=roT Y 4):=by rw [ht.out];rfl
    have HB:Hid (0<=1073741824-Y*t/1073741824/42/\1073741824-Y*t/1073741824/42<=1073741824):=by
     have:=BD.out 4 (by omega)
     rw [<-E.out] at this;exact this
    have q0:0<=Y*t/1073741824:=by omega
    clear HM BD;go_wp2;go_light;exact ⟨⟨4,5,_,rfl,rfl,E,HB,.inr (.inr (.inr (.inr (.inl ⟨rfl,rfl⟩))))⟩,by simp only [intOf];omega⟩
  . have E:Hid (1073741824-Y*t/1073741824/20=roT Y 5):=by rw [ht.out];rfl
    have HB:Hid (0<=1073741824-Y*t/1073741824/20/\1073741824-Y*t/1073741824/20<=1073741824):=by
     have:=BD.out 5 (by omega)
     rw [<-E.out] at this;exact this
    have q0:0<=Y*t/1073741824:=by omega
    clear HM BD;go_wp2;go_light;exact ⟨⟨5,3,_,rfl,rfl,E,HB,.inr (.inr (.inr (.inr (.inr (.inl ⟨rfl,rfl⟩)))))⟩,by simp only [intOf];omega⟩
  . have E:Hid (1073741824-Y*t/1073741824/6=roT Y 6):=by rw [ht.out];rfl
    have HB:Hid (0<=1073741824-Y*t/1073741824/6/\1073741824-Y*t/1073741824/6<=1073741824):=by
     have:=BD.out 6 (by omega)
     rw [<-E.out] at this;exact this
    have q0:0<=Y*t/1073741824:=by omega
    clear HM BD;go_wp2;go_light;exact ⟨⟨6,1,_,rfl,rfl,E,HB,.inr (.inr (.inr (.inr (.inr (.inr (⟨rfl,rfl⟩))))))⟩,by simp only [intOf];omega⟩
  . have E:Hid (t=T):=by rw [<-HT.out];exact ht.out
    have e:=E.out;subst e;go_wp2;go_ret;exact ⟨rfl,rfl⟩
theorem xI (n:Int) (w:World) (h0:0<=n) (h1:n<=5400000) :
 Calls Tryz.prog 135 #[.int .i64 n] w fun e w'=>e=.returned (.int .i64 (roV n))/\w=w':=by
 obtain ⟨a,b⟩:=Rq n h0 h1;have m:=lW _ _ 1686629713 1686629713 a b a b;have t:=Ij (roX n*roX n/1073741824) (by omega) (by omega) 6 (by omega)
 have m2:=lW _ _ 1686629713 1073741824 a b t.1 t.2;exact H9 n (roX n) (roX n*roX n/1073741824) _ (roV n) w h0 h1 rfl a b m.1 m.2 rfl (by omega) (by omega) rfl m2.1 (by omega) rfl
theorem Si (n:Int) (w:World) (h0:-5400000<=n) (h1:n<=5400000) :
 Calls Tryz.prog 135 #[.int .i64 n] w fun e w'=>e=.returned (.int .i64 (roW n))/\w=w':=by
 by_cases h:n<0
 . have C:=Lib.hid (xI (-n) w (by omega) (by omega))
   have B:=QF (-n) (by omega) (by omega)
   obtain ⟨b0,b1⟩:=B;have E:Hid (roW n=-roV (-n)):=by show _=_;unfold roW;rw [if_pos h]
   rw [E.out];generalize roV (-n)=V at *
   go_enter Tryz.func135,Tryz.ntmps135;go_wp2_with fail;refine (C.out).mono ?_;rintro e w1 ⟨rfl,rfl⟩;go_wp2;go_ret;exact ⟨rfl,rfl⟩
 . unfold roW;rw [if_neg h];exact xI n w (by omega) h1
theorem Vf (v:Int) (w:World) :
 Calls Tryz.prog 107 #[.int .i64 v] w fun e w'=>(∃ L:Int,e=.returned (.int .i64 L)/\-5400000<=L/\L<=5400000)/\w=w':=by
 have C:=Lib.hid (fun n w h0 h1=>Si n w h0 h1)
 go_enter Tryz.func107,Tryz.ntmps107;go_wp2;go_loop [3,4] (fun v3 v4=>∃ lo hi:Int,v3=.int .i64 lo/\v4=.int .i64 hi/\-5400000<=lo/\lo<=hi/\hi<=5400000) (fun v3 v4=>(intOf v4-intOf v3).toNat)
 case atStart=>exact ⟨-5400000,5400000,rfl,rfl,by omega,by omega,by omega⟩
 case round =>
  obtain ⟨lo,hi,rfl,rfl,b0,b1,b2⟩:=hrel
  by_cases hg:lo<hi
  . have m0:lo<lo+(hi-lo+1)/2:=by omega
    have m1:lo+(hi-lo+1)/2<=hi:=by omega
    have CM:=Lib.hid (fun w=>C.out (lo+(hi-lo+1)/2) w (by omega) (by omega))
    generalize roW (lo+(hi-lo+1)/2)=r at *
    clear C
    by_cases hc:r<=v
    . go_wp2_with fail;refine (CM.out _).mono ?_;rintro e w1 ⟨rfl,rfl⟩;go_wp2;go_light;exact ⟨⟨lo+(hi-lo+1)/2,hi,rfl,rfl,by omega,by omega,by omega⟩,by simp only [intOf];omega⟩
    . go_wp2_with fail;refine (CM.out _).mono ?_;rintro e w1 ⟨rfl,rfl⟩;go_wp2;go_light;exact ⟨⟨lo,lo+(hi-lo+1)/2-1,rfl,rfl,by omega,by omega,by omega⟩,by simp only [intOf];omega⟩
  . go_wp2;go_ret;exact ⟨⟨lo,rfl,by omega,by omega⟩,rfl⟩
theorem Fv (X Y:Int) (w:World) (hx:0<=X) (hx2:X<=2147483648) (hy:0<=Y) (hy2:Y<=2147483648) :
 Calls Tryz.prog 136 #[.agg #[.int .i64 X,.int .i64 Y]] w fun e w'=>(∃ L:Int,e=.returned (.int .i64 L)/\0<=L/\L<=5399999)/\Below w.heap.size w w':=by
 have C:=Lib.hid (fun n w h0 h1=>xI n w h0 h1)
 have BV:=Lib.hid QF;have K0:=Lib.hid ((az w).new w.heap.size rfl 111 #[.int .i64 X,.int .i64 Y]);go_enter Tryz.func136,Tryz.ntmps136;go_wp2;go_loopw [3,4] (fun v3 v4 wr=>∃ lo hi:Int,v3=.int .i64 lo/\v4=.int .i64 hi/\0<=lo/\lo<=hi/\hi<=5399999/\KS w wr [(w.heap.size,111,#[.int .i64 X,.int .i64 Y])]) (fun v3 v4 _=>(intOf v4-intOf v3).toNat)
 case atStart=>exact ⟨0,5399999,rfl,rfl,by omega,by omega,by omega,K0.out⟩
 case round =>
  obtain ⟨lo,hi,rfl,rfl,b0,b1,b2,hK⟩:=hrel;have K1:=Lib.hid hK;clear hK K0;have p0:=K1.out.c (g:=w.heap.size) (t:=111) (cs:=#[.int .i64 X,.int .i64 Y]) (by simp) (i:=0) rfl
  have p1:=K1.out.c (g:=w.heap.size) (t:=111) (cs:=#[.int .i64 X,.int .i64 Y]) (by simp) (i:=1) rfl
  by_cases hg:lo<hi
  . have m0:lo<lo+(hi-lo+1)/2:=by omega
    have m1:lo+(hi-lo+1)/2<=hi:=by omega
    have CM:=Lib.hid (fun w=>C.out (lo+(hi-lo+1)/2) w (by omega) (by omega))
    have CN:=Lib.hid (fun w=>C.out (5400000-(lo+(hi-lo+1)/2)) w (by omega) (by omega))
    have R0:=BV.out (lo+(hi-lo+1)/2) (by omega) (by omega)
    have R1:=BV.out (5400000-(lo+(hi-lo+1)/2)) (by omega) (by omega)
    generalize roV (lo+(hi-lo+1)/2)=r at *
    generalize roV (5400000-(lo+(hi-lo+1)/2))=s at *
    have M0:=lW X r 2147483648 1686629713 hx hx2 R0.1 R0.2;have M1:=lW Y s 2147483648 1686629713 hy hy2 R1.1 R1.2;obtain ⟨u0,u1⟩:=M0;obtain ⟨u2,u3⟩:=M1;clear C BV R0 R1
    by_cases hc:X*r<=Y*s
    . go_wp2
      go_quiet (first
       | (go_at_call 135;with_reducible refine Calls.quiet_of_same (oN (CM.out _)))
       | (go_at_call 135;with_reducible refine Calls.quiet_of_same (oN (CN.out _))))
      go_wp2;go_light;exact ⟨⟨lo+(hi-lo+1)/2,hi,rfl,rfl,by omega,by omega,by omega,K1.out.drewN _⟩,by simp only [intOf];omega⟩
    . go_wp2
      go_quiet (first
       | (go_at_call 135;with_reducible refine Calls.quiet_of_same (oN (CM.out _)))
       | (go_at_call 135;with_reducible refine Calls.quiet_of_same (oN (CN.out _))))
      go_wp2;go_light;exact ⟨⟨lo,lo+(hi-lo+1)/2-1,rfl,rfl,by omega,by omega,by omega,K1.out.drewN _⟩,by simp only [intOf];omega⟩
  . have HB:=Lib.hid K1.out.1;go_wp2;go_ret;exact ⟨⟨lo,rfl,by omega,by omega⟩,HB.out⟩
end Go.Proofs.YtoniodlcogpdbaaGreat
namespace Alm
theorem Tu (X Y:Int) (L:Nat) (hx:0<X/\X<=2147483648) (hy:0<=Y/\Y<=2147483648) (h:uo X Y L):iH X Y=L:=by
 have q:=q_in X Y ⟨hx.1,hy.1⟩;have a:=rM X Y (by omega) (by omega) (by omega)
 rw [q.1,q.2.1] at a;exact Al hx hy a h
theorem VV (X Y:Int) (hx:0<X) (hy:0<=Y):gY X Y=((decide (iH X Y=0)&&decide (Y=0)) || (decide (iH X Y=2700000)&&decide (X=Y))):=by
 have q:=q_in X Y ⟨hx,hy⟩;unfold gY;rw [q.1,q.2.1]
theorem OX (x y X Y:Int) (hX:X=qX x y) (hY:Y=qY x y) (h:0<X/\0<=Y):iH x y=iH X Y/\gY x y=gY X Y:=by
 have q:=q_in X Y h;have e:iH x y=iH X Y:=by unfold iH;rw [q.1,q.2.1,hX,hY]
 refine ⟨e,?_⟩;unfold gY;rw [q.1,q.2.1,e,hX,hY]
end Alm
namespace Go.Proofs.YtoniodlcogpdbaaGreat
open Go.RowKit Alm
def RP (w:World) (X Y:Int) (wr:World):Prop:=KS w wr [(w.heap.size,111,#[.int .i64 X,.int .i64 Y])]
theorem QV (X Y:Int) (w:World) (hx:0<X) (hx2:X<=2147483648) (hy:0<=Y) (hy2:Y<=2147483648) :
 Calls Tryz.prog 110 #[.agg #[.int .i64 X,.int .i64 Y]] w fun e w'=>e=.returned (.tuple #[.int .i64 (iH X Y),.bool (gY X Y)])/\Below w.heap.size w w':=by
 have CD:=Lib.hid (fun w=>Fv X Y w (by omega) hx2 hy hy2)
 have CS:=Lib.hid (fun n w h=>XT X Y n w ⟨hx,hx2⟩ ⟨hy,hy2⟩ h)
 have FIN:=Lib.hid (fun L h=>Tu X Y L ⟨hx,hx2⟩ ⟨hy,hy2⟩ h)
 have FE:=Lib.hid (VV X Y hx hy);have P0:=Lib.hid (sU X Y hy);have P1:=Lib.hid (wJ X Y hx);have K0:Hid (RP w X Y (w.alloc (.cells #[.int .i64 X,.int .i64 Y] 111))):=(az w).new w.heap.size rfl 111 #[.int .i64 X,.int .i64 Y];generalize hAE:gY X Y=E at *
 generalize hAL:iH X Y=AL at *
 clear hAE hAL;clear hx hx2 hy hy2;go_enter Tryz.func110,Tryz.ntmps110;have p0:=K0.out.c (g:=w.heap.size) (t:=111) (cs:=#[.int .i64 X,.int .i64 Y]) (by simp) (i:=0) rfl
 have p1:=K0.out.c (g:=w.heap.size) (t:=111) (cs:=#[.int .i64 X,.int .i64 Y]) (by simp) (i:=1) rfl
 go_wp2_with fail;refine (CD.out _).mono ?_;rintro e w1 ⟨⟨L,rfl,l0,l1⟩,hb⟩;have K1:Hid (RP w X Y w1):=K0.out.below hb;clear hb K0 p0 p1;go_wp2;go_loopw [4] (fun v4 wr=>∃ n:Nat,v4=.int .i64 (n:Int)/\(n:Int)<=5399999/\RP w X Y wr) (fun v4 _=>(intOf v4).toNat)
 case atStart=>exact ⟨L.toNat,by rw [Int.toNat_of_nonneg l0],by omega,K1.out⟩
 case round =>
  clear K1 l0 l1;obtain ⟨n,rfl,n1,hK⟩:=hrel;have K1:Hid (RP w X Y wr):=hK;clear hK;have p0:=K1.out.c (g:=w.heap.size) (t:=111) (cs:=#[.int .i64 X,.int .i64 Y]) (by simp) (i:=0) rfl
  have p1:=K1.out.c (g:=w.heap.size) (t:=111) (cs:=#[.int .i64 X,.int .i64 Y]) (by simp) (i:=1) rfl
  go_wp2_with fail;refine (CS.out n _ (by omega)).mono ?_
  rintro e w2 ⟨t,rfl,hp,hz,hb⟩;have K2:Hid (RP w X Y w2):=K1.out.below hb;clear hb K1 p0 p1 hz
  by_cases hg:0<t
  . have hn:1<=(n:Int):=by
     have h1:=hp.1 hg;have h2:=P0.out;refine Int.not_lt.1 fun q=>?_
     have:n=0:=by omega
     subst this;exact h2 h1
    clear hp;go_wp2;go_light;exact ⟨⟨n-1,by rw [show ((n-1:Nat):Int)=(n:Int)-1 by omega],by omega,K2.out⟩,by simp only [intOf];omega⟩
  . have HN:Hid (¬ past X Y n):=fun q=>hg (hp.2 q)
    have hn0:0<=(n:Int):=by omega
    clear hp;go_wp2;go_loopw [4] (fun v4 wr=>∃ n:Nat,v4=.int .i64 (n:Int)/\(n:Int)<=5399999/\Hid (¬ past X Y n)/\RP w X Y wr) (fun v4 _=>(5400000-intOf v4).toNat)
    case atStart=>exact ⟨n,rfl,n1,HN,K2.out⟩
    case round =>
     clear K2 HN n1 hn0 hg;obtain ⟨m,rfl,n1,hN,hK⟩:=hrel;have K1:Hid (RP w X Y wr):=hK;clear hK;have hm0:0<=(m:Int):=by omega
     have p0:=K1.out.c (g:=w.heap.size) (t:=111) (cs:=#[.int .i64 X,.int .i64 Y]) (by simp) (i:=0) rfl
     have p1:=K1.out.c (g:=w.heap.size) (t:=111) (cs:=#[.int .i64 X,.int .i64 Y]) (by simp) (i:=1) rfl
     have C1:=Lib.hid (fun w=>CS.out (m+1) w (by omega))
     rw [show ((m+1:Nat):Int)=(m:Int)+1 by omega] at C1
     go_wp2_with fail;refine (C1.out _).mono ?_;rintro e w2 ⟨t,rfl,hp,hz,hb⟩;have K2:Hid (RP w X Y w2):=K1.out.below hb;clear hb K1 p0 p1 hz C1
     by_cases hg:0<t
     . have D:Hid (uo X Y m):=⟨by omega,hN.out,hp.1 hg⟩
       have hg2:¬ t<=0:=by omega
       have EL:Hid (AL=m):=FIN.out m D.out;have p0:=K2.out.c (g:=w.heap.size) (t:=111) (cs:=#[.int .i64 X,.int .i64 Y]) (by simp) (i:=0) rfl
       have p1:=K2.out.c (g:=w.heap.size) (t:=111) (cs:=#[.int .i64 X,.int .i64 Y]) (by simp) (i:=1) rfl
       have C1:=Lib.hid (fun w=>CS.out m w (by omega))
       clear hp CS CD hg;go_wp2_with fail;refine (C1.out _).mono ?_;rintro e w3 ⟨t2,rfl,hp,hz,hb⟩;have K3:Hid (RP w X Y w3):=K2.out.below hb;clear hb K2 p0 p1 hp C1;have HZ:=Lib.hid hz;clear hz;have HB:=Lib.hid K3.out.1
       have E2:Hid (E=decide (t2=0)):=by
        show _=_;rw [FE.out,EL.out]
        by_cases h:t2=0
        . rw [decide_eq_true h];rcases HZ.out.1 h with ⟨a,b⟩|⟨a,b⟩<;>simp [a,b]
        . rw [decide_eq_false h];have:=(not_congr HZ.out).1 h;simp only [not_or,not_and] at this
          by_cases a:m=0
          . have b:=this.1 a;simp [a,b]
          . by_cases c:m=2700000
            . have b:=this.2 c;simp [c,b]
            . simp [a,c]
       clear FE FIN HZ D hN
       by_cases h:t2=0
       . subst h;go_wp2;go_ret2;exact ⟨by rw [EL.out,E2.out];rfl,HB.out⟩
       . have hd:(t2==0)=false:=by simpa using h
         go_wp2;go_ret2;exact ⟨by rw [EL.out,E2.out];simp [h],HB.out⟩
     . have HN:Hid (¬ past X Y (m+1)):=fun q=>hg (hp.2 q)
       have hm1:(m:Int)+1<=5399999:=by
        refine Int.not_lt.1 fun q=>?_
        have:m+1=5400000:=by omega
        exact HN.out (by rw [this];exact P1.out)
       have hg2:t<=0:=by omega
       clear hp hN;go_wp2;go_light;exact ⟨⟨m+1,by rw [show ((m+1:Nat):Int)=(m:Int)+1 by omega],by omega,HN,K2.out⟩,by simp only [intOf];omega⟩
theorem O5 (x y:Int) (w:World) (hx:-2147483648<=x/\x<=2147483648) (hy:-2147483648<=y/\y<=2147483648) (h0:¬ (x=0/\y=0)) :
 Calls Tryz.prog 93 #[.agg #[.int .i64 x,.int .i64 y]] w fun e w'=>e=.returned (.tuple #[.int .i64 (fF x y),.bool (gY x y)])/\Below w.heap.size w w':=by
 have T0:Hid (zN x y x y 0):=⟨rfl,rfl,by omega,h0,by omega,by omega,by omega⟩
 have QB:=Lib.hid (Alm.q_bd x y 2147483648 h0 hx hy);have QT:=Lib.hid (ET x y);have K0:Hid (RP w x y (w.alloc (.cells #[.int .i64 x,.int .i64 y] 111))):=(az w).new w.heap.size rfl 111 #[.int .i64 x,.int .i64 y];clear h0 hx hy;go_enter Tryz.func93,Tryz.ntmps93;go_wp2;go_loopw [4] (fun v4 wr=>∃ x' y' k,v4=.int .i64 k/\0<=k/\k<=3/\zN x y x' y' (k*5400000)/\RP w x' y' wr) (fun v4 _=>(4-intOf v4).toNat)
 case atStart=>exact ⟨x,y,0,rfl,by omega,by omega,T0.out,K0.out⟩
 case round =>
  obtain ⟨x',y',k,rfl,k0,k3,hT,hK⟩:=hrel;have HT:=Lib.hid hT;have HK:Hid (RP w x' y' wr):=hK;clear hT hK K0 T0;have p0:=HK.out.c (g:=w.heap.size) (t:=111) (cs:=#[.int .i64 x',.int .i64 y']) (by simp) (i:=0) rfl
  have p1:=HK.out.c (g:=w.heap.size) (t:=111) (cs:=#[.int .i64 x',.int .i64 y']) (by simp) (i:=1) rfl
  by_cases hin:0<x'/\0<=y'
  . obtain ⟨hi1,hi2⟩:=hin;have hd1:decide (x'<=0)=false:=by simp;omega
    have hd2:decide (y'<0)=false:=by simp;omega
    obtain ⟨qa,qb,qc⟩:=q_in x' y' ⟨hi1,hi2⟩
    have E:Hid (x'=qX x y/\y'=qY x y/\k*5400000=qT x y):=by
     obtain ⟨a,b,c,_⟩:=HT.out;exact ⟨by rw [<-a,qa],by rw [<-b,qb],by omega⟩
    have AT:=OX x y x' y' E.out.1 E.out.2.1 ⟨hi1,hi2⟩;have CF:=Lib.hid (fun w=>QV x' y' w hi1 (by have:=QB.out;have:=E.out;omega) hi2 (by have:=QB.out;have:=E.out;omega))
    have V:Hid (fF x y=k*5400000+(iH x' y':Int)):=by unfold fF;rw [AT.1,<-E.out.2.2];exact rfl
    rw [<-AT.2] at CF;have LB:=IW (qX x' y') (qY x' y') 23 0 5400000 (by omega)
    have lb:(iH x' y':Int)<5400000:=by unfold iH;omega
    have lb0:0<=(iH x' y':Int):=by omega
    clear LB AT qa qb qc HT E QB QT;generalize (iH x' y':Int)=A at *
    go_wp2_with fail;refine (CF.out _).mono ?_;rintro e w2 ⟨rfl,hb⟩;have HB:=Lib.hid (HK.out.below hb).1;clear hb HK p0 p1 CF;go_wp2;go_ret2;exact ⟨by rw [V.out];first|rfl|simp,HB.out⟩
  . obtain ⟨NT,ht1⟩:=xC HT.out hin;have hk:k<=2:=by omega
    rw [show k*5400000+5400000=(k+1)*5400000 by omega] at NT
    have NT:=Lib.hid NT;have hx1:-4294967296<=x':=HT.out.2.2.2.2.1.1;have hx2:x'<=4294967296:=HT.out.2.2.2.2.1.2;have f0:=HK.out.f (g:=w.heap.size) (t:=111) (cs:=#[.int .i64 x',.int .i64 y']) (by simp) 0
    have f1:=HK.out.f (g:=w.heap.size) (t:=111) (cs:=#[.int .i64 x',.int .i64 y']) (by simp) 1
    have HK3:Hid (RP w y' (-x') ((wr.setCell ⟨w.heap.size,0,none⟩ (.int .i64 y')).setCell ⟨w.heap.size,1,none⟩ (.int .i64 (-x')))) :=
     (HK.out.set (Nat.le_refl _) (by simp) 0 (.int .i64 y')).set (Nat.le_refl _) (by simp) 1 (.int .i64 (-x'))
    clear HT HK ht1
    by_cases hx0:0<x'
    . have hy0:y'<0:=by omega
      have hd1:decide (x'<=0)=false:=by simp;omega
      clear hin;go_wp2;go_light;exact ⟨⟨y',-x',k+1,rfl,by omega,by omega,NT.out,HK3.out⟩,by simp only [intOf];omega⟩
    . have hx0':x'<=0:=by omega
      clear hin;go_wp2;go_light;exact ⟨⟨y',-x',k+1,rfl,by omega,by omega,NT.out,HK3.out⟩,by simp only [intOf];omega⟩
end Go.Proofs.YtoniodlcogpdbaaGreat
namespace Go.Proofs.YtoniodlcogpdbaaGreat
open Go.RowKit Alm
theorem yT (n v:Int):jO n v<=0↔bHi n<=v:=by
 have h:=gP n;unfold jO
 (repeat' split)<;>omega
def uV (v:Int):Nat->Int->Int->Int
 | 0,lo,_=>lo
 | f+1,lo,hi=>if 1<hi-lo then (if jO ((lo+hi)/2) v<=0 then uV v f ((lo+hi)/2) hi else uV v f lo ((lo+hi)/2)) else lo
theorem wP (v:Int) (f:Nat) (lo hi:Int):uV v (f+1) lo hi=if 1<hi-lo then (if jO ((lo+hi)/2) v<=0 then uV v f ((lo+hi)/2) hi else uV v f lo ((lo+hi)/2)) else lo:=rfl
theorem Mi (v:Int) (f:Nat) (lo hi:Int) (h:¬ 1<hi-lo):uV v f lo hi=lo:=by
 cases f with
 | zero=>rfl
 | succ f=>rw [wP,if_neg h]
def bU (v:Int):Int:=uV v 24 (-5400000) 5400001
def AsI (v lo hi:Int):Prop:=-5400000<=lo/\lo<hi/\hi<=5400001/\(lo=-5400000∨bHi lo<=v)/\(hi=5400001∨v<bHi hi)/\∃ f:Nat,hi-lo<=2^f/\uV v f lo hi=bU v
theorem yO (v:Int):AsI v (-5400000) 5400001:=⟨by omega,by omega,by omega,.inl rfl,.inl rfl,24,by omega,rfl⟩
theorem Ex {v lo hi:Int} (h:AsI v lo hi) (h1:1<hi-lo):if jO ((lo+hi)/2) v<=0 then AsI v ((lo+hi)/2) hi else AsI v lo ((lo+hi)/2):=by
 obtain ⟨a,b,c,d,d',f,hf,he⟩:=h;cases f with
 | zero=>simp at hf;omega
 | succ f =>
  rw [Int.pow_succ] at hf;rw [wP,if_pos h1] at he
  by_cases hr:jO ((lo+hi)/2) v<=0
  . rw [if_pos hr] at he ⊢
    exact ⟨by omega,by omega,c,.inr ((yT _ _).1 hr),d',f,by omega,he⟩
  . rw [if_neg hr] at he ⊢
    exact ⟨a,by omega,by omega,d,.inr (by have:=(yT ((lo+hi)/2) v);omega),f,by omega,he⟩
theorem xm {v lo hi:Int} (h:AsI v lo hi) (h1:¬ 1<hi-lo):bU v=lo:=by
 obtain ⟨a,b,c,d,d',f,hf,he⟩:=h;rw [<-he];exact Mi v f lo hi h1
theorem sD (v:Int):∀ (f:Nat) (lo hi:Int),AsI v lo hi->hi-lo<=2^f->∃ hi',AsI v (bU v) hi'/\hi'=bU v+1
 | 0,lo,hi,h,hf=>by
  simp at hf;have e:=xm h (by omega)
  rw [e];have:=h.2.1;exact ⟨hi,h,by omega⟩
 | f+1,lo,hi,h,hf=>by
  by_cases h1:1<hi-lo
  . have nx:=Ex h h1;rw [Int.pow_succ] at hf;split at nx
    . exact sD v f _ _ nx (by omega)
    . exact sD v f _ _ nx (by omega)
  . have e:=xm h h1;rw [e];have:=h.2.1;exact ⟨hi,h,by omega⟩
theorem jw (v:Int):-5400000<=bU v/\bU v<=5400000/\(bU v=-5400000∨bHi (bU v)<=v)/\(bU v=5400000∨v<bHi (bU v+1)):=by
 obtain ⟨hi,⟨a,b,c,d,d',_⟩,rfl⟩:=sD v 24 _ _ (yO v) (by omega)
 exact ⟨a,by omega,d,by rcases d' with h|h;exact .inl (by omega);exact .inr h⟩
theorem aag (v:Int) (w:World) :
 Calls Tryz.prog 143 #[.int .i64 v] w fun e w'=>e=.returned (.int .i64 (bU v))/\Below w.heap.size w w':=by
 have K0:Hid (KS w w []):=az w;go_enter Tryz.func143,Tryz.ntmps143;go_wp2;go_loopw [3,4] (fun v3 v4 wr=>∃ lo hi:Int,v3=.int .i64 lo/\v4=.int .i64 hi/\AsI v lo hi/\KS w wr []) (fun v3 v4 _=>(intOf v4-intOf v3).toNat)
 case atStart=>exact ⟨-5400000,5400001,rfl,rfl,yO v,K0.out⟩
 case round =>
  obtain ⟨lo,hi,rfl,rfl,hI,hK⟩:=hrel;have HI:=Lib.hid hI;have HK2:=Lib.hid hK;clear hI hK K0;have b0:-5400000<=lo:=HI.out.1;have b1:lo<hi:=HI.out.2.1;have b2:hi<=5400001:=HI.out.2.2.1
  by_cases hgo:1<hi-lo
  . have NX:=Lib.hid (Ex HI.out hgo);have hm1:Hid (lo<(lo+hi)/2/\(lo+hi)/2<hi):=⟨by omega,by omega⟩
    have CR:=Lib.hid (fun w=>Wt ((lo+hi)/2) v w ⟨by omega,by omega⟩)
    have q0:-5400000<=(lo+hi)/2:=by omega
    have q1:(lo+hi)/2<=5400001:=by omega
    clear HI;go_wp2_with fail;refine (CR.out _).mono ?_;rintro e w1 ⟨rfl,hb⟩;have HK3:Hid (KS w w1 []):=HK2.out.below hb;clear hb HK2 CR
    by_cases hr:jO ((lo+hi)/2) v<=0
    . have NY:Hid (AsI v ((lo+hi)/2) hi):=by have:=NX.out;rw [if_pos hr] at this;exact this
      clear NX;go_wp2;go_light;exact ⟨⟨(lo+hi)/2,hi,rfl,rfl,NY.out,HK3.out⟩,by simp only [intOf];have:=hm1.out;omega⟩
    . have NY:Hid (AsI v lo ((lo+hi)/2)):=by have:=NX.out;rw [if_neg hr] at this;exact this
      clear NX;go_wp2;go_light;exact ⟨⟨lo,(lo+hi)/2,rfl,rfl,NY.out,HK3.out⟩,by simp only [intOf];have:=hm1.out;omega⟩
  . have hA:=xm HI.out hgo;have HB:=Lib.hid HK2.out.1;clear HI HK2;go_wp2;go_ret;exact ⟨by first|rfl|(rw [hA];rfl),HB.out⟩
end Go.Proofs.YtoniodlcogpdbaaGreat
namespace Go.Proofs.YtoniodlcogpdbaaGreat
open Go.RowKit Alm
theorem EY (m n:Int) (h0:-5400000<=m) (h:m<n) (h1:n<=5400000):bHi m<=bHi n:=by
 have a:=GA m n h0 h h1;have b:=gP m;omega
theorem Vg:bHi (-5400000)=-1073741824:=by decide +kernel
theorem Rl (v L:Int) (h0:-5400000<=L) (h1:L<=5400000) (ha:bHi L<=v) (hb:L=5400000∨v<bHi (L+1)):L=bU v:=by
 obtain ⟨c0,c1,c2,c3⟩:=jw v;rcases Int.lt_trichotomy L (bU v) with h|h|h
 . have hv:v<bHi (L+1):=by omega
   have e:bHi (bU v)<=v:=by omega
   by_cases q:L+1=bU v
   . rw [q] at hv;omega
   . have:=EY (L+1) (bU v) (by omega) (by omega) c1;omega
 . exact h
 . have hv:v<bHi (bU v+1):=by omega
   by_cases q:bU v+1=L
   . rw [q] at hv;omega
   . have:=EY (bU v+1) L (by omega) (by omega) h1;omega
def OZ (n v:Int):Int:=if dK (aI n)=true/\bLo n=v then 0 else if v<=bLo n then 1 else -1
theorem QS (n v:Int):0<OZ n v↔v<bHi n:=by
 have B:=gP n;unfold OZ
 by_cases hE:dK (aI n)=true
 . have e:=WJ n hE
   by_cases h:bLo n=v
   . rw [if_pos ⟨hE,h⟩];omega
   . rw [if_neg (fun q=>h q.2)];split<;>omega
 . have e:=(OO n (by simpa using hE)).2.2
   rw [if_neg (fun q=>hE q.1)];split<;>omega
theorem Pk (n v:Int) (w:World) :
 Calls Tryz.prog 108 #[.int .i64 n,.int .i64 v] w fun e w'=>e=.returned (.int .i64 (OZ n v))/\Below w.heap.size w w':=by
 have CF:=Lib.hid (fun w=>EA n w)
 unfold OZ;generalize dK (aI n)=x at *
 generalize bLo n=f at *
 cases x
 . rw [if_neg (by simp)]
   by_cases h:v<=f
   . rw [if_pos h];go_enter Tryz.func108,Tryz.ntmps108;go_wp2_with fail;refine (CF.out _).mono ?_;rintro e w1 ⟨rfl,hb⟩;go_wp2;go_ret;exact ⟨rfl,by go_light;go_grown⟩
   . rw [if_neg h];go_enter Tryz.func108,Tryz.ntmps108;go_wp2_with fail;refine (CF.out _).mono ?_;rintro e w1 ⟨rfl,hb⟩;go_wp2;go_ret;exact ⟨rfl,by go_light;go_grown⟩
 . by_cases h0:f=v
   . rw [if_pos ⟨rfl,h0⟩];subst h0;go_enter Tryz.func108,Tryz.ntmps108;go_wp2_with fail;refine (CF.out _).mono ?_;rintro e w1 ⟨rfl,hb⟩;go_wp2;go_ret;exact ⟨rfl,by go_light;go_grown⟩
   . rw [if_neg (fun q=>h0 q.2)]
     have hd:(f==v)=false:=by simpa using h0
     have hd2:decide (f=v)=false:=by simpa using h0
     by_cases h:v<=f
     . rw [if_pos h];go_enter Tryz.func108,Tryz.ntmps108;go_wp2_with fail;refine (CF.out _).mono ?_;rintro e w1 ⟨rfl,hb⟩;go_wp2;go_ret;exact ⟨rfl,by go_light;go_grown⟩
     . rw [if_neg h];go_enter Tryz.func108,Tryz.ntmps108;go_wp2_with fail;refine (CF.out _).mono ?_;rintro e w1 ⟨rfl,hb⟩;go_wp2;go_ret;exact ⟨rfl,by go_light;go_grown⟩
def aa8 (v:Int):Prop:=∀ (n:Int) (w:World),∃ t:Int,(0<t↔v<bHi n)/\Calls Tryz.prog 108 #[.int .i64 n,.int .i64 v] w fun e w'=>e=.returned (.int .i64 t)/\Below w.heap.size w w'
theorem adt (v:Int):aa8 v:=fun n w=>⟨OZ n v,QS n v,Pk n v w⟩
def UpI (v lo hi st:Int):Prop:=-5400000<=lo/\lo<=5400000/\lo<hi/\bHi lo<=v/\(lo<5400000->hi<=5400000)/\1<=st/\st<=43200000/\hi<=60000000/\(hi<=5400000->st<=hi+5400000∨(hi=5400000/\st<=21600000))
theorem LQ (v:Int) (w:World) (hv:-1073741824<=v) (hv2:v<=1073741824) :
 Calls Tryz.prog 88 #[.int .i64 v] w fun e w'=>e=.returned (.int .i64 (bU v))/\Below w.heap.size w w':=by
 have CB:Hid (aa8 v):=adt v;have CG:=Lib.hid (Vf v);have BL:=Vg;have FIN:=Lib.hid (Rl v);generalize bU v=R at *
 have HB0:=Lib.hid (Below.refl w.heap.size w);have HL:Hid (bHi (-5400000)<=v):=by show _<=_;omega
 clear BL;go_enter Tryz.func88,Tryz.ntmps88;go_wp2_with fail;refine (CG.out _).mono ?_;rintro e w1 ⟨⟨L,rfl,l0,l1⟩,rfl⟩;go_wp2;go_loopw [3,4] (fun v3 v4 wr=>∃ lo st:Int,v3=.int .i64 lo/\v4=.int .i64 st/\-5400000<=lo/\lo<=5400000/\1<=st/\st<=21600002/\Hid (lo=-5400000∨lo+st<=5400001)/\Below w.heap.size w wr) (fun v3 _ _=>(intOf v3+5400000).toNat)
 case atStart=>exact ⟨L,1,rfl,rfl,l0,l1,by omega,by omega,by right;omega,HB0.out⟩
 case round =>
  obtain ⟨lo,st,rfl,rfl,a0,a1,a2,a3,a4,hB⟩:=hrel;have HB:=Lib.hid hB;clear hB HB0;obtain ⟨t,ht,CT⟩:=CB.out lo wr;replace CT:=Lib.hid CT
  by_cases hg:0<t
  . have hne:lo≠-5400000:=by
     rintro rfl;have:=ht.1 hg;have:=HL.out;omega
    have a5:lo+st<=5400001:=by have:=a4.out;omega
    clear ht CB
    by_cases hc:lo-st < -5400000
    . go_wp2_with fail;refine CT.out.mono ?_;rintro e w2 ⟨rfl,hb⟩;have HB2:Hid (Below w.heap.size w w2):=HB.out.trans (hb.mono HB.out.size);clear hb HB CT;go_wp2;go_light;exact ⟨⟨-5400000,2*st,rfl,rfl,by omega,by omega,by omega,by omega,.inl rfl,HB2.out⟩,by simp only [intOf];omega⟩
    . go_wp2_with fail;refine CT.out.mono ?_;rintro e w2 ⟨rfl,hb⟩;have HB2:Hid (Below w.heap.size w w2):=HB.out.trans (hb.mono HB.out.size);clear hb HB CT;go_wp2;go_light;exact ⟨⟨lo-st,2*st,rfl,rfl,by omega,by omega,by omega,by omega,.inr (by omega),HB2.out⟩,by simp only [intOf];omega⟩
  . have HG:Hid (bHi lo<=v):=by show _<=_;have:=(not_congr ht).1 hg;omega
    clear ht a4;go_wp2_with fail;refine CT.out.mono ?_;rintro e w2 ⟨rfl,hb⟩;have HB2:Hid (Below w.heap.size w w2):=HB.out.trans (hb.mono HB.out.size);clear hb HB CT;go_wp2;have UI:Hid (UpI v lo (lo+1) 1):=⟨a0,a1,by omega,HG.out,by omega,by omega,by omega,by omega,by omega⟩
    go_loopw [3,5,6] (fun v3 v5 v6 wr=>∃ lo hi st:Int,v3=.int .i64 lo/\v5=.int .i64 hi/\v6=.int .i64 st/\Hid (UpI v lo hi st)/\Below w.heap.size w wr) (fun v3 _ _ _=>(5400001-intOf v3).toNat)
    case atStart=>exact ⟨lo,lo+1,1,rfl,rfl,rfl,UI,HB2.out⟩
    case round =>
     clear UI HB2 HG;obtain ⟨lo,hi,st,rfl,rfl,rfl,hU,hB⟩:=hrel;have HB:=Lib.hid hB;clear hB;obtain ⟨u0,u1,u2,u3,u4,u5,u6,u7,u8⟩:=hU.out;have HU3:=Lib.hid u3;have HU4:=Lib.hid u4;have HU8:=Lib.hid u8;clear u3 u4 u8 hU
     by_cases hq:hi<=5400000
     . obtain ⟨t,ht,CT⟩:=CB.out hi wr;replace CT:=Lib.hid CT
       by_cases hg:0<t
       . have HG:Hid (v<bHi hi):=ht.1 hg;clear ht;have hlo:lo<5400000:=by omega
         have hd:(lo==5400000)=false:=by simp;omega
         have hd2:decide (lo=5400000)=false:=by simp;omega
         have hg2:¬ t<=0:=by omega
         go_wp2_with fail;refine CT.out.mono ?_;rintro e w2 ⟨rfl,hb⟩;have HB2:Hid (Below w.heap.size w w2):=HB.out.trans (hb.mono HB.out.size);clear hb HB CT;go_wp2;go_loopw [3,5] (fun v3 v5 wr=>∃ lo hi:Int,v3=.int .i64 lo/\v5=.int .i64 hi/\-5400000<=lo/\lo<hi/\hi<=5400000/\Hid (bHi lo<=v)/\Hid (v<bHi hi)/\Below w.heap.size w wr) (fun v3 v5 _=>(intOf v5-intOf v3).toNat)
         case atStart=>exact ⟨lo,hi,rfl,rfl,u0,u2,hq,HU3,HG,HB2.out⟩
         case round =>
          clear HU3 HG HB2 HU4 HU8;obtain ⟨lo,hi,rfl,rfl,a0,a1,a2,a3,a4,hB⟩:=hrel;have HB:=Lib.hid hB;clear hB
          by_cases hgo:lo+1<hi
          . have m0:lo<lo+(hi-lo)/2:=by omega
            have m1:lo+(hi-lo)/2<hi:=by omega
            obtain ⟨t,ht,CT⟩:=CB.out (lo+(hi-lo)/2) wr;replace CT:=Lib.hid CT
            by_cases hg:0<t
            . have HG:Hid (v<bHi (lo+(hi-lo)/2)):=ht.1 hg;have hg2:¬ t<=0:=by omega
              clear ht;go_wp2_with fail;refine CT.out.mono ?_;rintro e w2 ⟨rfl,hb⟩;have HB2:Hid (Below w.heap.size w w2):=HB.out.trans (hb.mono HB.out.size);clear hb HB CT;go_wp2;go_light;exact ⟨⟨lo,lo+(hi-lo)/2,rfl,rfl,a0,m0,by omega,a3,HG,HB2.out⟩,by simp only [intOf];omega⟩
            . have HG:Hid (bHi (lo+(hi-lo)/2)<=v):=by show _<=_;have:=(not_congr ht).1 hg;omega
              have hg2:t<=0:=by omega
              clear ht;go_wp2_with fail;refine CT.out.mono ?_;rintro e w2 ⟨rfl,hb⟩;have HB2:Hid (Below w.heap.size w w2):=HB.out.trans (hb.mono HB.out.size);clear hb HB CT;go_wp2;go_light;exact ⟨⟨lo+(hi-lo)/2,hi,rfl,rfl,by omega,m1,a2,HG,a4,HB2.out⟩,by simp only [intOf];omega⟩
          . have e1:hi=lo+1:=by omega
            subst e1;have E:Hid (lo=R):=FIN.out lo a0 (by omega) a3.out (.inr a4.out)
            go_wp2;go_ret;exact ⟨cu E.out,HB.out⟩
       . have HG:Hid (bHi hi<=v):=by show _<=_;have:=(not_congr ht).1 hg;omega
         have hg2:t<=0:=by omega
         have u8:=HU8.out hq;have u9:st<=21600000:=by omega
         clear ht
         by_cases hc:hi<5400000
         . by_cases hc2:5400000<hi+st
           . have UI:Hid (UpI v hi 5400000 (2*st)):=⟨by omega,by omega,by omega,HG.out,by omega,by omega,by omega,by omega,by omega⟩
             go_wp2_with fail;refine CT.out.mono ?_;rintro e w2 ⟨rfl,hb⟩;have HB2:Hid (Below w.heap.size w w2):=HB.out.trans (hb.mono HB.out.size);clear hb HB CT u8 HU8 HU4;go_wp2;go_light;exact ⟨⟨hi,5400000,2*st,rfl,rfl,rfl,UI,HB2.out⟩,by simp only [intOf];omega⟩
           . have UI:Hid (UpI v hi (hi+st) (2*st)):=⟨by omega,by omega,by omega,HG.out,by omega,by omega,by omega,by omega,by omega⟩
             go_wp2_with fail;refine CT.out.mono ?_;rintro e w2 ⟨rfl,hb⟩;have HB2:Hid (Below w.heap.size w w2):=HB.out.trans (hb.mono HB.out.size);clear hb HB CT u8 HU8 HU4;go_wp2;go_light;exact ⟨⟨hi,hi+st,2*st,rfl,rfl,rfl,UI,HB2.out⟩,by simp only [intOf];omega⟩
         . have hd:decide (hi<5400000)=false:=by simp;omega
           have UI:Hid (UpI v hi (hi+st) (2*st)):=⟨by omega,by omega,by omega,HG.out,by omega,by omega,by omega,by omega,by omega⟩
           go_wp2_with fail;refine CT.out.mono ?_;rintro e w2 ⟨rfl,hb⟩;have HB2:Hid (Below w.heap.size w w2):=HB.out.trans (hb.mono HB.out.size);clear hb HB CT u8 HU8 HU4;go_wp2;go_light;exact ⟨⟨hi,hi+st,2*st,rfl,rfl,rfl,UI,HB2.out⟩,by simp only [intOf];omega⟩
     . have hd:decide (hi<=5400000)=false:=by simp;omega
       have e1:lo=5400000:=by have:=HU4.out;omega
       subst e1;have E:Hid (5400000=R):=FIN.out 5400000 (by omega) (by omega) HU3.out (.inl rfl)
       go_wp2;go_ret;exact ⟨cu E.out,HB.out⟩
end Go.Proofs.YtoniodlcogpdbaaGreat
namespace Alm
end Alm
namespace Go.Proofs.YtoniodlcogpdbaaGreat
open Go.RowKit Alm
end Go.Proofs.YtoniodlcogpdbaaGreat
namespace Go.Proofs.YtoniodlcogpdbaaGreat
open Go.RowKit Alm Sx
def vW:Nat->List Int->List Int
 | 8,[a,b]=>[b2i (fxV a b)]
 | 35,[v]=>[bU v]
 | 41,[n]=>[rtV n]
 | 50,[x,y]=>[fF x y,b2i (gY x y)]
 | _,_=>[]
def Zz:Nat->List Int->Prop
 | 8,[_,_]=>True
 | 35,[v]=>-1073741824<=v/\v<=1073741824
 | 41,[n]=>0<=n/\n<=2305843009213693952
 | 50,[x,y]=>(-2147483648<=x/\x<=2147483648)/\(-2147483648<=y/\y<=2147483648)/\¬ (x=0/\y=0)
 | _,_=>False
def cxR (args:List Int):Cx:=⟨vW,Zz,args⟩
theorem WE {f:Nat} {xs:List Int} (h:f=35∨f=41) (hp:Zz f xs):∃ a,xs=[a]:=by
 rcases h with rfl|rfl <;>
 . match xs,hp with
   | [a],hp=>exact ⟨a,rfl⟩
theorem Qg {f:Nat} {xs:List Int} (h:f=8∨f=50) (hp:Zz f xs):∃ a b,xs=[a,b]:=by
 rcases h with rfl|rfl <;>
 . match xs,hp with
   | [a,b],hp=>exact ⟨a,b,rfl⟩
theorem KU (lo hi:Int) (w:World) :
 Calls Tryz.prog 87 #[.agg #[.int .i64 lo,.int .i64 hi]] w fun e w'=>e=.returned (.bool (fxV lo hi))/\Below w.heap.size w w':=by
 go_enter Tryz.func87,Tryz.ntmps87;go_wp2
 all_goals
  go_ret;exact ⟨kz (by unfold fxV;rw [Bool.eq_iff_iff];simp<;>omega),by go_grown⟩
def aaX:Sx.Spec:=⟨87,8,[(true,[some .i64,some .i64])],[(false,[none])]⟩
def acT:Sx.Spec:=⟨88,35,[(false,[some .i64])],[(false,[some .i64])]⟩
def acv:Sx.Spec:=⟨93,50,[(true,[some .i64,some .i64])],[(false,[some .i64]),(false,[none])]⟩
def Ws:List Sx.Spec:=[aaX,acT,acv]
theorem Jq (args:List Int):∀ s∈Ws,aR Tryz.prog (cxR args) s:=by
 intro s hs;simp only [Ws,List.mem_cons,List.not_mem_nil,or_false] at hs;rcases hs with rfl|rfl|rfl
 . refine ⟨ours _ _ _ Tryz.func87 rfl (by kernel_rfl),fun xs hp w=>?_⟩
   obtain ⟨a,b,rfl⟩:=Qg (f:=8) (by simp) hp
   refine (KU a b w).mono ?_;rintro e w' ⟨he,hb⟩;exact ⟨by rw [he];exact congrArg Ending.returned (ni _).symm,hb⟩
 . refine ⟨ours _ _ _ Tryz.func88 rfl (by kernel_rfl),fun xs hp w=>?_⟩
   obtain ⟨v,rfl⟩:=WE (f:=35) (by simp) hp
   exact LQ v w hp.1 hp.2
 . refine ⟨ours _ _ _ Tryz.func93 rfl (by kernel_rfl),fun xs hp w=>?_⟩
   obtain ⟨x,y,rfl⟩:=Qg (f:=50) (by simp) hp
   refine (O5 x y w hp.1 hp.2.1 hp.2.2).mono ?_;rintro e w' ⟨he,hb⟩;refine ⟨?_,hb⟩;rw [he];show Ending.returned (.tuple #[.int .i64 (fF x y),.bool (gY x y)])=Ending.returned (.tuple #[.int .i64 (fF x y),Value.bool (decide (b2i (gY x y)≠0))]);rw [ni]
end Go.Proofs.YtoniodlcogpdbaaGreat
namespace Go.Proofs.YtoniodlcogpdbaaGreat
open Go.RowKit Alm Sx
def Ec:List Nd:=[
 .arg 0,
 .arg 1,
 .arg 2,
 .arg 3,
 .app 8 0 [.n 0,.n 1],
 .ite (.n 4) (.c 0) (.c 1),
 .app 8 0 [.n 2,.n 3],
 .ite (.n 6) (.c 0) (.c 1),
 .ite (.n 5) (.c 1) (.n 7),
 .ite (.n 8) (.c 0) (.c 1),
 .bin .leq .i64 (.n 0) (.c 0),
 .bin .geq .i64 (.n 1) (.c 0),
 .ite (.n 10) (.n 11) (.c 0),
 .bin .leq .i64 (.n 2) (.c 0),
 .ite (.n 12) (.n 13) (.c 0),
 .bin .geq .i64 (.n 3) (.c 0),
 .ite (.n 14) (.n 15) (.c 0),
 .ite (.n 16) (.c 0) (.c 1),
 .bin .mul .i64 (.n 2) (.n 0),
 .bin .mul .i64 (.n 1) (.n 2),
 .bin .gtr .i64 (.n 18) (.n 19),
 .ite (.n 20) (.c 0) (.c 1),
 .ite (.n 20) (.n 1) (.n 0),
 .bin .mul .i64 (.n 2) (.n 1),
 .bin .mul .i64 (.n 0) (.n 2),
 .bin .gtr .i64 (.n 23) (.n 24),
 .ite (.n 25) (.c 0) (.c 1),
 .ite (.n 25) (.n 1) (.n 0),
 .bin .mul .i64 (.n 3) (.n 22),
 .bin .gtr .i64 (.n 28) (.n 24),
 .ite (.n 29) (.c 0) (.c 1),
 .ite (.n 29) (.n 3) (.n 2),
 .ite (.n 29) (.n 0) (.n 22),
 .bin .mul .i64 (.n 27) (.n 3),
 .bin .gtr .i64 (.n 18) (.n 33),
 .ite (.n 34) (.c 0) (.c 1),
 .ite (.n 34) (.n 3) (.n 2),
 .ite (.n 34) (.n 0) (.n 27),
 .bin .mul .i64 (.n 3) (.n 32),
 .bin .mul .i64 (.n 1) (.n 31),
 .bin .gtr .i64 (.n 38) (.n 39),
 .ite (.n 40) (.c 0) (.c 1),
 .ite (.n 40) (.n 3) (.n 31),
 .ite (.n 40) (.n 1) (.n 32),
 .bin .mul .i64 (.n 36) (.n 1),
 .bin .mul .i64 (.n 37) (.n 3),
 .bin .gtr .i64 (.n 44) (.n 45),
 .ite (.n 46) (.c 0) (.c 1),
 .ite (.n 46) (.n 3) (.n 36),
 .ite (.n 46) (.n 1) (.n 37),
 .app 50 0 [.n 42,.n 43],
 .app 50 1 [.n 42,.n 43],
 .app 50 0 [.n 48,.n 49],
 .app 50 1 [.n 48,.n 49],
 .ite (.n 53) (.c 0) (.c 1),
 .bin .add .i64 (.n 52) (.c 1),
 .ite (.n 54) (.c 0) (.c 1),
 .ite (.n 54) (.n 55) (.n 52),
 .bin .lss .i64 (.n 57) (.n 50),
 .bin .add .i64 (.n 57) (.c 21600000),
 .ite (.n 58) (.c 0) (.c 1),
 .ite (.n 58) (.n 59) (.n 57),
 .ite (.n 16) (.c 0) (.n 50),
 .ite (.n 16) (.c 21600000) (.n 61),
 .ite (.n 8) (.c 0) (.n 62),
 .ite (.n 8) (.c 0) (.n 63)]
def OY:List Vc:=[
 ⟨[],.pre 8 [.n 0,.n 1]⟩,
 ⟨[(.n 5,false)],.pre 8 [.n 2,.n 3]⟩,
 ⟨[(.n 17,true),(.n 9,true)],.pre 50 [.n 42,.n 43]⟩,
 ⟨[(.n 17,true),(.n 9,true)],.pre 50 [.n 48,.n 49]⟩]
theorem Pf:whole Tryz.prog Ws 20 30 57 [(true,[some .i64,some .i64]),(true,[some .i64,some .i64])]=some (.tup [.agg [.int .i64 (.n 64),.int .i64 (.n 65)],.c (.int .i64 (.n 8))],⟨Ec.reverse,OY.reverse⟩):=by kernel_rfl
theorem QG:wfN Ec.reverse=true:=by kernel_rfl
theorem kV {p:Prop} [Decidable p] {x y:Int}:(if b2i (decide p)≠0 then x else y)=if p then x else y:=by by_cases h:p<;>simp [b2i,h]
theorem Xu (b:Bool):(if b2i b≠0 then (0:Int) else 1)=b2i (!b):=by cases b<;>rfl
theorem xZ (a b:Int) (ha:-2147483648<=a/\a<=2147483648) (hb:-2147483648<=b/\b<=2147483648):IntKind.i64.wrap (a*b)=a*b :=
 IntWalk.i64_in _ (by have:=BI a b 2147483648 2147483648 ha hb;omega)
theorem kg {A B C D x y:Int} {c:Int} (hA:-2147483648<=A/\A<=2147483648) (hB:-2147483648<=B/\B<=2147483648) (hC:-2147483648<=C/\C<=2147483648) (hD:-2147483648<=D/\D<=2147483648) (hx:x=IntKind.i64.wrap (A*D)) (hy:y=IntKind.i64.wrap (B*C)) (hc:c=b2i (decide (x>y))):c=b2i (tV A B C D):=by
 rw [hc,hx,hy,xZ A D hA hD,xZ B C hB hC];rfl
theorem eB {c:Int} {b:Bool} (h:c=b2i b) (x y:Int):(if c≠0 then x else y)=if b then x else y:=by
 rw [h];cases b<;>rfl
theorem Iq (yl yh xl xh:Int) (w:World) (hy:fxV yl yh=true) (hx:fxV xl xh=true):Calls Tryz.prog 57 #[.agg #[.int .i64 yl,.int .i64 yh],.agg #[.int .i64 xl,.int .i64 xh]] w fun e w'=>e=.returned (.tuple #[.agg #[.int .i64 (dJ yl yh xl xh),.int .i64 (eZ yl yh xl xh)],.int .i64 0])/\Below w.heap.size w w':=by
 refine Sx.calls (X:=cxR [yl,yh,xl,xh]) dP (Jq _) Pf QG (fun v hs=>?_) w
 obtain ⟨y1,y2,y3⟩:=(bS _ _).1 hy;obtain ⟨x1,x2,x3⟩:=(bS _ _).1 hx;have e0:v 0=yl:=aa hs 0 rfl;have e1:v 1=yh:=aa hs 1 rfl;have e2:v 2=xl:=aa hs 2 rfl;have e3:v 3=xh:=aa hs 3 rfl;have e4:v 4=b2i (fxV (v 0) (v 1)):=aa hs 4 rfl;have e5:v 5=if v 4≠0 then (0:Int) else (1:Int):=aa hs 5 rfl
 have e6:v 6=b2i (fxV (v 2) (v 3)):=aa hs 6 rfl;have e7:v 7=if v 6≠0 then (0:Int) else (1:Int):=aa hs 7 rfl
 have e8:v 8=if v 5≠0 then (1:Int) else v 7:=aa hs 8 rfl
 have e9:v 9=if v 8≠0 then (0:Int) else (1:Int):=aa hs 9 rfl
 have e10:v 10=b2i (decide (v 0<=(0:Int))):=aa hs 10 rfl;have e11:v 11=b2i (decide (v 1>=(0:Int))):=aa hs 11 rfl;have e12:v 12=if v 10≠0 then v 11 else (0:Int):=aa hs 12 rfl
 have e13:v 13=b2i (decide (v 2<=(0:Int))):=aa hs 13 rfl;have e14:v 14=if v 12≠0 then v 13 else (0:Int):=aa hs 14 rfl
 have e15:v 15=b2i (decide (v 3>=(0:Int))):=aa hs 15 rfl;have e16:v 16=if v 14≠0 then v 15 else (0:Int):=aa hs 16 rfl
 have e17:v 17=if v 16≠0 then (0:Int) else (1:Int):=aa hs 17 rfl
 have e18:v 18=IntKind.i64.wrap (v 2*v 0):=aa hs 18 rfl;have e19:v 19=IntKind.i64.wrap (v 1*v 2):=aa hs 19 rfl;have e20:v 20=b2i (decide (v 18>v 19)):=aa hs 20 rfl;have e21:v 21=if v 20≠0 then (0:Int) else (1:Int):=aa hs 21 rfl
 have e22:v 22=if v 20≠0 then v 1 else v 0:=aa hs 22 rfl
 have e23:v 23=IntKind.i64.wrap (v 2*v 1):=aa hs 23 rfl;have e24:v 24=IntKind.i64.wrap (v 0*v 2):=aa hs 24 rfl;have e25:v 25=b2i (decide (v 23>v 24)):=aa hs 25 rfl;have e26:v 26=if v 25≠0 then (0:Int) else (1:Int):=aa hs 26 rfl
 have e27:v 27=if v 25≠0 then v 1 else v 0:=aa hs 27 rfl
 have e28:v 28=IntKind.i64.wrap (v 3*v 22):=aa hs 28 rfl;have e29:v 29=b2i (decide (v 28>v 24)):=aa hs 29 rfl;have e30:v 30=if v 29≠0 then (0:Int) else (1:Int):=aa hs 30 rfl
 have e31:v 31=if v 29≠0 then v 3 else v 2:=aa hs 31 rfl
 have e32:v 32=if v 29≠0 then v 0 else v 22:=aa hs 32 rfl
 have e33:v 33=IntKind.i64.wrap (v 27*v 3):=aa hs 33 rfl;have e34:v 34=b2i (decide (v 18>v 33)):=aa hs 34 rfl;have e35:v 35=if v 34≠0 then (0:Int) else (1:Int):=aa hs 35 rfl
 have e36:v 36=if v 34≠0 then v 3 else v 2:=aa hs 36 rfl
 have e37:v 37=if v 34≠0 then v 0 else v 27:=aa hs 37 rfl
 have e38:v 38=IntKind.i64.wrap (v 3*v 32):=aa hs 38 rfl;have e39:v 39=IntKind.i64.wrap (v 1*v 31):=aa hs 39 rfl;have e40:v 40=b2i (decide (v 38>v 39)):=aa hs 40 rfl;have e41:v 41=if v 40≠0 then (0:Int) else (1:Int):=aa hs 41 rfl
 have e42:v 42=if v 40≠0 then v 3 else v 31:=aa hs 42 rfl
 have e43:v 43=if v 40≠0 then v 1 else v 32:=aa hs 43 rfl
 have e44:v 44=IntKind.i64.wrap (v 36*v 1):=aa hs 44 rfl;have e45:v 45=IntKind.i64.wrap (v 37*v 3):=aa hs 45 rfl;have e46:v 46=b2i (decide (v 44>v 45)):=aa hs 46 rfl;have e47:v 47=if v 46≠0 then (0:Int) else (1:Int):=aa hs 47 rfl
 have e48:v 48=if v 46≠0 then v 3 else v 36:=aa hs 48 rfl
 have e49:v 49=if v 46≠0 then v 1 else v 37:=aa hs 49 rfl
 have e50:v 50=(vW 50 [v 42,v 43]).getD 0 0:=aa hs 50 rfl;have e51:v 51=(vW 50 [v 42,v 43]).getD 1 0:=aa hs 51 rfl;have e52:v 52=(vW 50 [v 48,v 49]).getD 0 0:=aa hs 52 rfl;have e53:v 53=(vW 50 [v 48,v 49]).getD 1 0:=aa hs 53 rfl;have e54:v 54=if v 53≠0 then (0:Int) else (1:Int):=aa hs 54 rfl
 have e55:v 55=IntKind.i64.wrap (v 52+(1:Int)):=aa hs 55 rfl;have e56:v 56=if v 54≠0 then (0:Int) else (1:Int):=aa hs 56 rfl
 have e57:v 57=if v 54≠0 then v 55 else v 52:=aa hs 57 rfl
 have e58:v 58=b2i (decide (v 57<v 50)):=aa hs 58 rfl;have e59:v 59=IntKind.i64.wrap (v 57+(21600000:Int)):=aa hs 59 rfl;have e60:v 60=if v 58≠0 then (0:Int) else (1:Int):=aa hs 60 rfl
 have e61:v 61=if v 58≠0 then v 59 else v 57:=aa hs 61 rfl
 have e62:v 62=if v 16≠0 then (0:Int) else v 50:=aa hs 62 rfl
 have e63:v 63=if v 16≠0 then (21600000:Int) else v 61:=aa hs 63 rfl
 have e64:v 64=if v 8≠0 then (0:Int) else v 62:=aa hs 64 rfl
 have e65:v 65=if v 8≠0 then (0:Int) else v 63:=aa hs 65 rfl
 have V8:v 8=0:=by rw [e8,e5,e7,e4,e6,e0,e1,e2,e3,hy,hx];rfl
 have V9:v 9=1:=by rw [e9,V8];rfl
 have V16:v 16=b2i (iK yl yh xl xh):=by
  rw [e16,e14,e12,e10,e11,e13,e15,e0,e1,e2,e3];unfold iK
  by_cases h1:yl<=0<;>by_cases h2:yh>=0<;>by_cases h3:xl<=0<;>by_cases h4:xh>=0<;>simp [b2i,h1,h2,h3,h4]<;>omega
 have bX:∀ p:Int,(p=xl∨p=xh)->-2147483648<=p/\p<=2147483648:=fun p h=>by omega
 have bY:∀ p:Int,(p=yl∨p=yh)->-2147483648<=p/\p<=2147483648:=fun p h=>by omega
 have i1:=kr xl xh yl yh 1;have i2:=kr xl xh yl yh 2;have i3:=kr xl xh yl yh 3;have j1:=mI xl xh yl yh 1;have j2:=mI xl xh yl yh 2;have j3:=mI xl xh yl yh 3
 have F1:bP xl xh yl yh 1=(xl,v 22):=by
  have h:=kg (A:=xl) (B:=yh) (C:=xl) (D:=yl) (bX _ (.inl rfl)) (bY _ (.inr rfl)) (bX _ (.inl rfl)) (bY _ (.inl rfl)) (e18.trans (by rw [e2,e0])) (e19.trans (by rw [e1,e2])) e20
  rw [e22,eB h,e1,e0];show (if tV xl yh xl yl then (xl,yh) else (xl,yl))=_
  split<;>rfl
 have L1:dI xl xh yl yh 1=(xl,v 27):=by
  have h:=kg (A:=xl) (B:=yl) (C:=xl) (D:=yh) (bX _ (.inl rfl)) (bY _ (.inl rfl)) (bX _ (.inl rfl)) (bY _ (.inr rfl)) (e23.trans (by rw [e2,e1])) (e24.trans (by rw [e0,e2])) e25
  rw [e27,eB h,e1,e0];show (if tV xl yl xl yh then (xl,yh) else (xl,yl))=_
  split<;>rfl
 rw [F1] at i1;rw [L1] at j1
 have F2:bP xl xh yl yh 2=(v 31,v 32):=by
  have h:=kg (A:=xh) (B:=yl) (C:=xl) (D:=v 22) (bX _ (.inr rfl)) (bY _ (.inl rfl)) (bX _ (.inl rfl)) (bY _ i1.2) (e28.trans (by rw [e3])) (e24.trans (by rw [e0,e2])) e29
  rw [e31,e32,eB h,eB h,e3,e2,e0];show (if tV xh yl (bP xl xh yl yh 1).1 (bP xl xh yl yh 1).2 then (xh,yl) else bP xl xh yl yh 1)=_
  rw [F1];split<;>rfl
 have L2:dI xl xh yl yh 2=(v 36,v 37):=by
  have h:=kg (A:=xl) (B:=v 27) (C:=xh) (D:=yl) (bX _ (.inl rfl)) (bY _ j1.2) (bX _ (.inr rfl)) (bY _ (.inl rfl)) (e18.trans (by rw [e2,e0])) (e33.trans (by rw [e3])) e34
  rw [e36,e37,eB h,eB h,e3,e2,e0];show (if tV (dI xl xh yl yh 1).1 (dI xl xh yl yh 1).2 xh yl then (xh,yl) else dI xl xh yl yh 1)=_
  rw [L1];split<;>rfl
 rw [F2] at i2;rw [L2] at j2
 have F3:bP xl xh yl yh 3=(v 42,v 43):=by
  have h:=kg (A:=xh) (B:=yh) (C:=v 31) (D:=v 32) (bX _ (.inr rfl)) (bY _ (.inr rfl)) (bX _ i2.1) (bY _ i2.2) (e38.trans (by rw [e3])) (e39.trans (by rw [e1])) e40
  rw [e42,e43,eB h,eB h,e3,e1];show (if tV xh yh (bP xl xh yl yh 2).1 (bP xl xh yl yh 2).2 then (xh,yh) else bP xl xh yl yh 2)=_
  rw [F2];split<;>rfl
 have L3:dI xl xh yl yh 3=(v 48,v 49):=by
  have h:=kg (A:=v 36) (B:=v 37) (C:=xh) (D:=yh) (bX _ j2.1) (bY _ j2.2) (bX _ (.inr rfl)) (bY _ (.inr rfl)) (e44.trans (by rw [e1])) (e45.trans (by rw [e3])) e46
  rw [e48,e49,eB h,eB h,e3,e1];show (if tV (dI xl xh yl yh 2).1 (dI xl xh yl yh 2).2 xh yh then (xh,yh) else dI xl xh yl yh 2)=_
  rw [L2];split<;>rfl
 rw [F3] at i3;rw [L3] at j3;clear i1 i2 j1 j2 F1 F2 L1 L2
 have NZ:v 17≠0->∀ px py:Int,(px=xl∨px=xh)->(py=yl∨py=yh)->¬ (px=0/\py=0):=by
  intro h px py hp hq h0;rw [e17,V16,Xu] at h
  have ho:¬ (xl<=0/\0<=xh/\yl<=0/\0<=yh):=by
   intro q;apply h;have:iK yl yh xl xh=true:=by unfold iK;simpa using q
   rw [this];rfl
  obtain ⟨a,b,H⟩:=Dj y2 x2 ho;have:=H px py hp hq;rw [h0.1,h0.2] at this;omega
 refine ⟨bB ?_,?_⟩
 . refine ag ?_ (ag ?_ (ag ?_ (ag ?_ bu)))
   . exact fun _=>trivial
   . exact fun _=>trivial
   . exact fun hp=>⟨bX _ i3.1,bY _ i3.2,NZ (aj hp).1 _ _ i3.1 i3.2⟩
   . exact fun hp=>⟨bX _ j3.1,bY _ j3.2,NZ (aj hp).1 _ _ j3.1 j3.2⟩
 . intro x hx0;have hx':=bM (v:=v) (by rfl) hx0
   rw [hx'];show Value.tuple #[.agg #[.int .i64 (v 64),.int .i64 (v 65)],.int .i64 (v 8)]=_;rw [e64,e65,V8,if_neg (by decide),if_neg (by decide),e62,e63]
   by_cases ho:xl<=0/\0<=xh/\yl<=0/\0<=yh
   . have h1:iK yl yh xl xh=true:=by unfold iK;simpa using ho
     rw [V16,h1,if_pos (by decide),if_pos (by decide)]
     unfold dJ eZ;rw [h1];rfl
   . have h1:iK yl yh xl xh=false:=by unfold iK;simpa using ho
     rw [V16,h1,if_neg (by decide),if_neg (by decide)]
     obtain ⟨bl,bh⟩:=LV y2 x2 ⟨y1,y3⟩ ⟨x1,x3⟩ ho;rw [F3] at bl bh;rw [L3] at bh;have r50:v 50=fF (v 42) (v 43):=e50;have r52:v 52=fF (v 48) (v 49):=e52;have r53:v 53=b2i (gY (v 48) (v 49)):=e53;have c1:=nK (v 42) (v 43);have c2:=nK (v 48) (v 49);rw [<-r50] at bl bh c1;rw [<-r52] at bh c2;simp only [] at bl bh;rw [bl,bh];have r55:v 55=v 52+1:=by rw [e55,IntWalk.i64_in _ (by omega)]
     have r57:v 57=if gY (v 48) (v 49) then v 52 else v 52+1:=by
      rw [e57,e54,r53,r55];cases gY (v 48) (v 49)<;>rfl
     have c3:0<=v 57/\v 57<=21600000:=by rw [r57];split<;>omega
     have r59:v 59=v 57+21600000:=by rw [e59,IntWalk.i64_in _ (by omega)]
     have r61:v 61=upR (v 50) (v 52) (gY (v 48) (v 49)):=by
      unfold upR;rw [<-r57,e61,e58,r59,kV]
     rw [r61]
end Go.Proofs.YtoniodlcogpdbaaGreat
namespace Go.Proofs.YtoniodlcogpdbaaGreat
open Go.RowKit Alm Sx
theorem vG (n:Int):(vW 35 [n]).getD 0 0=bU n:=by simp only [vW,List.getD_cons_zero]
def Br (a:Int):Int:=bU (max a (-1073741824))
def vT (b:Int):Int:=-bU (-(min b 1073741824))
def yK (a b:Int):Int:=if a<=1073741824/\-1073741824<=b then 0 else 2
def Jj:List Nd:=[
 .arg 0,
 .arg 1,
 .app 8 0 [.n 0,.n 1],
 .ite (.n 2) (.c 0) (.c 1),
 .ite (.n 3) (.c 0) (.c 1),
 .bin .lss .i64 (.n 0) (.c (-1073741824)),
 .ite (.n 5) (.c 0) (.c 1),
 .ite (.n 5) (.c (-1073741824)) (.n 0),
 .bin .gtr .i64 (.n 1) (.c 1073741824),
 .ite (.n 8) (.c 0) (.c 1),
 .ite (.n 8) (.c 1073741824) (.n 1),
 .bin .gtr .i64 (.n 7) (.n 10),
 .ite (.n 11) (.c 0) (.c 1),
 .app 35 0 [.n 7],
 .bin .sub .i64 (.c 0) (.n 10),
 .app 35 0 [.n 14],
 .bin .sub .i64 (.c 0) (.n 15),
 .ite (.n 11) (.c 2) (.c 0),
 .ite (.n 11) (.c 0) (.n 13),
 .ite (.n 11) (.c 0) (.n 16),
 .ite (.n 3) (.c 1) (.n 17),
 .ite (.n 3) (.c 0) (.n 18),
 .ite (.n 3) (.c 0) (.n 19)]
def V5:List Vc:=[
 ⟨[],.pre 8 [.n 0,.n 1]⟩,
 ⟨[(.n 12,true),(.n 4,true)],.pre 35 [.n 7]⟩,
 ⟨[(.n 12,true),(.n 4,true)],.pre 35 [.n 14]⟩]
theorem VW:whole Tryz.prog Ws 20 30 54 [(true,[some .i64,some .i64])]=some (.tup [.agg [.int .i64 (.n 21),.int .i64 (.n 22)],.c (.int .i64 (.n 20))],⟨Jj.reverse,V5.reverse⟩):=by kernel_rfl
theorem Sc:wfN Jj.reverse=true:=by kernel_rfl
def UL (a b:Int):Value:=.tuple #[.agg #[.int .i64 (if yK a b=0 then Br a else 0),.int .i64 (if yK a b=0 then vT b else 0)],.int .i64 (yK a b)]
theorem Vv (a b:Int) (w:World) (ha:fxV a b=true):Calls Tryz.prog 54 #[.agg #[.int .i64 a,.int .i64 b]] w fun e w'=>e=.returned (UL a b)/\Below w.heap.size w w':=by
 refine Sx.calls (X:=cxR [a,b]) dP (Jq _) VW Sc (fun v hs=>?_) w
 obtain ⟨a1,a2,a3⟩:=(bS _ _).1 ha;have e0:v 0=a:=aa hs 0 rfl;have e1:v 1=b:=aa hs 1 rfl;have e2:v 2=b2i (fxV (v 0) (v 1)):=aa hs 2 rfl;have e3:v 3=if v 2≠0 then (0:Int) else (1:Int):=aa hs 3 rfl
 have e4:v 4=if v 3≠0 then (0:Int) else (1:Int):=aa hs 4 rfl
 have e5:v 5=b2i (decide (v 0<(-1073741824:Int))):=aa hs 5 rfl;have e6:v 6=if v 5≠0 then (0:Int) else (1:Int):=aa hs 6 rfl
 have e7:v 7=if v 5≠0 then (-1073741824:Int) else v 0:=aa hs 7 rfl
 have e8:v 8=b2i (decide (v 1>(1073741824:Int))):=aa hs 8 rfl;have e9:v 9=if v 8≠0 then (0:Int) else (1:Int):=aa hs 9 rfl
 have e10:v 10=if v 8≠0 then (1073741824:Int) else v 1:=aa hs 10 rfl
 have e11:v 11=b2i (decide (v 7>v 10)):=aa hs 11 rfl;have e12:v 12=if v 11≠0 then (0:Int) else (1:Int):=aa hs 12 rfl
 have e13:v 13=(vW 35 [v 7]).getD 0 0:=aa hs 13 rfl;have e14:v 14=IntKind.i64.wrap ((0:Int)-v 10):=aa hs 14 rfl;have e15:v 15=(vW 35 [v 14]).getD 0 0:=aa hs 15 rfl;have e16:v 16=IntKind.i64.wrap ((0:Int)-v 15):=aa hs 16 rfl;have e17:v 17=if v 11≠0 then (2:Int) else (0:Int):=aa hs 17 rfl
 have e18:v 18=if v 11≠0 then (0:Int) else v 13:=aa hs 18 rfl
 have e19:v 19=if v 11≠0 then (0:Int) else v 16:=aa hs 19 rfl
 have e20:v 20=if v 3≠0 then (1:Int) else v 17:=aa hs 20 rfl
 have e21:v 21=if v 3≠0 then (0:Int) else v 18:=aa hs 21 rfl
 have e22:v 22=if v 3≠0 then (0:Int) else v 19:=aa hs 22 rfl
 have r2:v 2=1:=by rw [e2,e0,e1,ha];rfl
 have r3:v 3=0:=by rw [e3,r2];rfl
 have r7:v 7=max a (-1073741824):=by rw [e7,e5,kV,e0];split<;>omega
 have r10:v 10=min b 1073741824:=by rw [e10,e8,kV,e1];split<;>omega
 have r14:v 14=-(min b 1073741824):=by rw [e14,r10,IntWalk.i64_in _ (by omega)];omega
 have r12:v 12≠0->a<=1073741824/\-1073741824<=b:=by
  rw [e12,e11,r7,r10,kV]
  by_cases h:max a (-1073741824)>min b 1073741824
  . rw [if_pos h];exact fun q=>absurd rfl q
  . intro _;omega
 refine ⟨bB ?_,?_⟩
 . refine ag ?_ (ag ?_ (ag ?_ bu))
   . exact fun _=>trivial
   . exact fun hp=>(show -1073741824<=v 7/\v 7<=1073741824 by have:=r12 (aj hp).1;omega)
   . exact fun hp=>(show -1073741824<=v 14/\v 14<=1073741824 by have:=r12 (aj hp).1;omega)
 . intro x hx0;have hx':=bM (v:=v) (by rfl) hx0
   rw [hx'];show Value.tuple #[.agg #[.int .i64 (v 21),.int .i64 (v 22)],.int .i64 (v 20)]=_
   have r13:v 13=Br a:=by
    rw [e13,vG,r7];rfl
   have r15:v 15=bU (-(min b 1073741824)):=by
    rw [e15,vG,r14]
   have q:=jw (-(min b 1073741824))
   have r16:v 16=vT b:=by
    rw [e16,r15,IntWalk.i64_in _ (by omega)];unfold vT;omega
   rw [e20,e21,e22,r3,if_neg (by decide),if_neg (by decide),if_neg (by decide),e17,e18,e19,e11,r7,r10,kV,kV,kV,r13,r16]
   unfold UL yK
   by_cases h:a<=1073741824/\-1073741824<=b
   . rw [if_neg (by omega),if_neg (by omega),if_neg (by omega),if_pos h,if_pos rfl,if_pos rfl]
   . rw [if_pos (by omega),if_pos (by omega),if_pos (by omega),if_neg h,if_neg (by decide),if_neg (by decide)]
