/- Plain laws of a traverse: half a turn more turns the sums around; sums of parts, and in another order. -/
import Derived.Test.YtgmncdmcdgkodaaGreatZMid4
set_option linter.unusedVariables false
set_option linter.unusedSimpArgs false
set_option maxRecDepth 100000
set_option maxHeartbeats 4000000
namespace Go.Proofs.YtgmncdmcdgkodaaGreat
open Go.RowKit Alm
theorem sH (x n:Int) (hx:-1073741824<=x/\x<=1073741824) (hn:0<=n):-n<=qFl x n 1073741824/\qFl x n 1073741824<=qCe x n 1073741824/\qCe x n 1073741824<=n:=by
 have h1:x*n<=1073741824*n:=Int.mul_le_mul_of_nonneg_right hx.2 hn;have h2:-1073741824*n<=x*n:=Int.mul_le_mul_of_nonneg_right hx.1 hn;unfold qFl qCe;generalize x*n=P at *
 omega
theorem EJ (flo fhi lo hi:Int) (h1:-1073741824<=flo) (h2:flo<=fhi) (h3:fhi<=1073741824) (hlo:0<=lo) (hl:lo<=hi) :
 -hi<=nE flo fhi lo hi/\nE flo fhi lo hi<=oI flo fhi lo hi/\oI flo fhi lo hi<=hi:=by
 have a:=sH flo lo ⟨by omega,by omega⟩ (by omega)
 have b:=sH fhi lo ⟨by omega,by omega⟩ (by omega)
 have c:=sH flo hi ⟨by omega,by omega⟩ (by omega)
 have d:=sH fhi hi ⟨by omega,by omega⟩ (by omega)
 unfold nE oI je ji;omega
structure ag where
 cl:Int
 ch:Int
 dl:Int
 dh:Int
def ag.ok (l:ag):Bool:=pz l.cl l.ch l.dl l.dh
def ag.xl (l:ag):Int:=nE (bn l.cl l.ch) (aY l.cl l.ch) l.dl l.dh
def ag.xh (l:ag):Int:=oI (bn l.cl l.ch) (aY l.cl l.ch) l.dl l.dh
def ag.yl (l:ag):Int:=nE (fK l.cl l.ch) (fM l.cl l.ch) l.dl l.dh
def ag.yh (l:ag):Int:=oI (fK l.cl l.ch) (fM l.cl l.ch) l.dl l.dh
def ag.small (l:ag):Bool:=decide (l.dh<=1073741824/\l.ch<=1073741824/\-1073741824<=l.cl)
def ag.back (l:ag):ag:=⟨l.cl+10800000,l.ch+10800000,l.dl,l.dh⟩
theorem FE (l:ag) (h:l.ok=true):l.cl<=l.ch/\-1099511627776<=l.cl/\l.ch<=1099511627776/\0<=l.dl/\l.dl<=l.dh/\l.dh<=1099511627776:=by
 unfold ag.ok pz at h;simp only [Bool.and_eq_true,decide_eq_true_eq,aG] at h;omega
theorem qZ (l:ag) (h:l.ok=true):-l.dh<=l.xl/\l.xl<=l.xh/\l.xh<=l.dh/\-l.dh<=l.yl/\l.yl<=l.yh/\l.yh<=l.dh:=by
 have k:=FE l h;have e1:=yB (l.cl+5400000) (l.ch+5400000);have e2:=yB l.cl l.ch;have a:=EJ (bn l.cl l.ch) (aY l.cl l.ch) l.dl l.dh (by unfold bn;omega) (by unfold bn aY;omega) (by unfold aY;omega) (by omega) (by omega)
 have b:=EJ (fK l.cl l.ch) (fM l.cl l.ch) l.dl l.dh (by omega) (by omega) (by omega) (by omega) (by omega)
 exact ⟨a.1,a.2.1,a.2.2,b.1,b.2.1,b.2.2⟩
def sumOf (f:ag->Int) (L:List ag):Int:=(L.map f).sum
theorem iI (f:ag->Int):sumOf f []=0:=rfl
theorem aR (f:ag->Int) (l:ag) (L:List ag):sumOf f (l::L)=f l+sumOf f L:=by unfold sumOf;simp
theorem gV (f:ag->Int) (L M:List ag):sumOf f (L++M)=sumOf f L+sumOf f M:=by
 induction L with
 | nil=>simp [iI]
 | cons l L ih=>rw [List.cons_append,aR,aR,ih];omega
theorem dU (f:ag->Int) (L:List ag):sumOf f L.reverse=sumOf f L:=by
 induction L with
 | nil=>rfl
 | cons l L ih=>rw [List.reverse_cons,gV,aR,aR,iI,ih];omega
theorem jZ (L:List ag) (h:∀ l∈L,l.ok=true/\l.dh<=1073741824):-(1073741824*(L.length:Int))<=sumOf ag.xl L/\sumOf ag.xl L<=sumOf ag.xh L/\sumOf ag.xh L<=1073741824*(L.length:Int)/\-(1073741824*(L.length:Int))<=sumOf ag.yl L/\sumOf ag.yl L<=sumOf ag.yh L/\sumOf ag.yh L<=1073741824*(L.length:Int):=by
 induction L with
 | nil=>simp [iI]
 | cons l L ih =>
  have k:=h l (by simp)
  have b:=qZ l k.1;have c:=ih (fun x hx=>h x (by simp [hx]))
  simp only [aR,List.length_cons];omega
end Go.Proofs.YtgmncdmcdgkodaaGreat
namespace Go.Proofs.YtgmncdmcdgkodaaGreat
open Go.RowKit Alm
theorem Cr (lo hi:Int) (w:World) (h1:ay lo=true) (h2:ay hi=true) :
 Calls Tryz.prog 32 #[.int .i64 lo,.int .i64 hi] w fun e w'=>e=.returned (.tuple #[.agg #[.int .i64 lo,.int .i64 hi],.int .i64 0])/\Below w.heap.size w w':=by
 have C1:=fun w=>rW lo w
 have C2:=fun w=>rW hi w
 rw [h1] at C1;rw [h2] at C2;replace C1:=Lib.hid C1;replace C2:=Lib.hid C2;clear h1 h2;go_enter Tryz.func32,Tryz.ntmps32;go_wp2_with fail;refine (C1.out _).mono ?_;rintro e w' ⟨rfl,rfl⟩;go_wp2_with fail;refine (C2.out _).mono ?_;rintro e w' ⟨rfl,rfl⟩;go_wp2;refine bodyPost_ret (by simp [results,Tryz.results32,go_sem];try rfl) rfl ⟨rfl,by go_grown⟩
theorem mZ (a b c d:Int) (w:World) (h1:aC a b=true) (h2:aC c d=true) (h3:ay (a+c)=true) (h4:ay (b+d)=true) :
 Calls Tryz.prog 14 #[.agg #[.int .i64 a,.int .i64 b],.agg #[.int .i64 c,.int .i64 d]] w fun e w'=>e=.returned (.tuple #[.agg #[.int .i64 (a+c),.int .i64 (b+d)],.int .i64 0])/\Below w.heap.size w w':=by
 have C1:=fun w=>bX a b w
 have C2:=fun w=>bX c d w
 rw [h1] at C1;rw [h2] at C2;replace C1:=Lib.hid C1;replace C2:=Lib.hid C2;have C3:=Lib.hid (fun w=>Cr (a+c) (b+d) w h3 h4)
 have k3:-1099511627776<=a+c/\a+c<=1099511627776:=by unfold ay at h3;simpa using h3
 have k4:-1099511627776<=b+d/\b+d<=1099511627776:=by unfold ay at h4;simpa using h4
 clear h1 h2 h3 h4;have K0:=Lib.hid ((((au w).new w.heap.size rfl 23 #[.int .i64 a,.int .i64 b]).new (w.heap.size+1) (by simp) 23 #[.int .i64 c,.int .i64 d]).new (w.heap.size+1+1) (by simp) 23 #[.int .i64 0,.int .i64 0])
 go_enter Tryz.func14,Tryz.ntmps14;go_wp2_with fail;refine (C1.out _).mono ?_;rintro e w1 ⟨rfl,hb1⟩;have K1:=Lib.hid (K0.out.below hb1);clear hb1 K0;have b0:=K1.out.c (g:=w.heap.size+1) (t:=23) (cs:=#[.int .i64 c,.int .i64 d]) (by simp) (i:=0) rfl
 have b1:=K1.out.c (g:=w.heap.size+1) (t:=23) (cs:=#[.int .i64 c,.int .i64 d]) (by simp) (i:=1) rfl
 go_wp2_with fail;refine (C2.out _).mono ?_;rintro e w2 ⟨rfl,hb1⟩;have K2:=Lib.hid (K1.out.below hb1);clear hb1 K1 b0 b1;have a0:=K2.out.c (g:=w.heap.size) (t:=23) (cs:=#[.int .i64 a,.int .i64 b]) (by simp) (i:=0) rfl
 have a1:=K2.out.c (g:=w.heap.size) (t:=23) (cs:=#[.int .i64 a,.int .i64 b]) (by simp) (i:=1) rfl
 have b0:=K2.out.c (g:=w.heap.size+1) (t:=23) (cs:=#[.int .i64 c,.int .i64 d]) (by simp) (i:=0) rfl
 have b1:=K2.out.c (g:=w.heap.size+1) (t:=23) (cs:=#[.int .i64 c,.int .i64 d]) (by simp) (i:=1) rfl
 go_wp2_with fail;refine (C3.out _).mono ?_;rintro e w3 ⟨rfl,hb1⟩;have K3:=Lib.hid (K2.out.below hb1);clear hb1 K2 a0 a1 b0 b1;have q0:=K3.out.c (g:=w.heap.size+1+1) (t:=23) (cs:=#[.int .i64 0,.int .i64 0]) (by simp) (i:=0) rfl
 have q1:=K3.out.c (g:=w.heap.size+1+1) (t:=23) (cs:=#[.int .i64 0,.int .i64 0]) (by simp) (i:=1) rfl
 have g0:=K3.out.f (g:=w.heap.size+1+1) (t:=23) (cs:=#[.int .i64 0,.int .i64 0]) (by simp) 0
 have g1:=K3.out.f (g:=w.heap.size+1+1) (t:=23) (cs:=#[.int .i64 0,.int .i64 0]) (by simp) 1
 go_wp2;refine bodyPost_ret (by simp [results,Tryz.results14,go_sem,q0,q1];try rfl) rfl ⟨rfl,by have:=K3.out.1;go_light;go_grown⟩
def nC (w:World) (b o:Nat) (l:ag):Prop:=w.cell? ⟨b,o,none⟩=some (.int .i64 l.cl)/\w.cell? ⟨b,o+1,none⟩=some (.int .i64 l.ch)/\w.cell? ⟨b,o+2,none⟩=some (.int .i64 l.dl)/\w.cell? ⟨b,o+3,none⟩=some (.int .i64 l.dh)
def bW (w:World) (b off:Nat) (L:List ag):Prop:=b<w.heap.size/\∀ i (h:i<L.length),nC w b (off+i*4) L[i]
theorem bW.below {w wx:World} {b off B:Nat} {L:List ag} (h:bW w b off L) (hb:Below B w wx) (hB:b<B):bW wx b off L :=
 ⟨Nat.lt_of_lt_of_le h.1 hb.size,fun i hi=>by
  obtain ⟨a,b',c,d⟩:=h.2 i hi;exact ⟨(hb.cell hB).trans a,(hb.cell hB).trans b',(hb.cell hB).trans c,(hb.cell hB).trans d⟩⟩
def bG (w:World) (a:Option Addr) (L:List ag):Prop:=L=[]∨∃ b off,a=some ⟨b,off,none⟩/\bW w b off L
theorem bG.below {w wx:World} {a:Option Addr} {L:List ag} (h:bG w a L) (hb:Below w.heap.size w wx):bG wx a L:=by
 rcases h with h|⟨b,off,h1,h2⟩
 . exact .inl h
 . exact .inr ⟨b,off,h1,h2.below hb h2.1⟩
def ag.v (l:ag):Value:=.agg #[.int .i64 l.cl,.int .i64 l.ch,.int .i64 l.dl,.int .i64 l.dh]
end Go.Proofs.YtgmncdmcdgkodaaGreat
namespace Go.Proofs.YtgmncdmcdgkodaaGreat
open Go.RowKit Alm
end Go.Proofs.YtgmncdmcdgkodaaGreat
namespace Go.Proofs.YtgmncdmcdgkodaaGreat
open Go.RowKit Alm
theorem aX (f:ag->Int) (L:List ag) (i:Nat) (hi:i<L.length):sumOf f (L.take (i+1))=sumOf f (L.take i)+f L[i]:=by
 rw [List.take_succ_eq_append_getElem hi,gV,aR,iI];omega
theorem zb (L:List ag) (h:∀ l∈L,l.ok=true/\l.dh<=1073741824) (hn:L.length<=60) (i:Nat) (hi:i<L.length) :
 aC (sumOf ag.xl (L.take i)) (sumOf ag.xh (L.take i))=true/\aC (sumOf ag.yl (L.take i)) (sumOf ag.yh (L.take i))=true /\
 aC L[i].xl L[i].xh=true/\aC L[i].yl L[i].yh=true /\
 ay (sumOf ag.xl (L.take i)+L[i].xl)=true/\ay (sumOf ag.xh (L.take i)+L[i].xh)=true /\
 ay (sumOf ag.yl (L.take i)+L[i].yl)=true/\ay (sumOf ag.yh (L.take i)+L[i].yh)=true:=by
 have a:=jZ (L.take i) (fun l hl=>h l (List.mem_of_mem_take hl))
 have hl:(L.take i).length<=60:=by rw [List.length_take];omega
 have k:=h L[i] (List.getElem_mem hi);have b:=qZ L[i] k.1;simp only [aG];unfold ay;simp only [decide_eq_true_eq];omega
theorem zN (a:Option Addr) (cap:Nat) (L:List ag) (w:World) (hL:bG w a L) (hn:L.length<=60) (hok:∀ l∈L,l.ok=true/\l.dh<=1073741824) :
 Calls Tryz.prog 31 #[.slice a L.length cap] w fun e w'=>e=.returned (.tuple #[.agg #[.int .i64 (sumOf ag.xl L),.int .i64 (sumOf ag.xh L)],.agg #[.int .i64 (sumOf ag.yl L),.int .i64 (sumOf ag.yh L)],.int .i64 0])/\Below w.heap.size w w':=by
 have HL:=Lib.hid hL;have HOK:=Lib.hid hok;clear hL hok;have K0:=Lib.hid (((au w).new w.heap.size rfl 23 #[.int .i64 0,.int .i64 0]).new (w.heap.size+1) (by simp) 23 #[.int .i64 0,.int .i64 0])
 go_enter Tryz.func31,Tryz.ntmps31;go_wp2;go_loopw [15] (fun v wr=>∃ i:Nat,v=.int .i64 (i:Int)/\i<=L.length/\KS w wr [(w.heap.size+1,23,#[.int .i64 0,.int .i64 0]),(w.heap.size,23,#[.int .i64 0,.int .i64 0])]) (fun v _=>((L.length:Int)-intOf v).toNat)
 case atStart =>
  exact ⟨0,rfl,by omega,K0.out⟩
 case round =>
  obtain ⟨i,rfl,hi,hK⟩:=hrel;have K1:=Lib.hid hK;clear hK K0
  by_cases hl:i<L.length
  . have hLw:=HL.out.below K1.out.1;rcases hLw with h0|⟨b,off,rfl,hR⟩
    . rw [h0] at hl;simp at hl
    . obtain ⟨c0,c1,c2,c3⟩:=hR.2 i hl;have C:=fun w=>tK L[i].cl L[i].ch L[i].dl L[i].dh w
      rw [show pz L[i].cl L[i].ch L[i].dl L[i].dh=true from (HOK.out _ (List.getElem_mem hl)).1] at C
      replace C:=Lib.hid C;have hl':(i:Int)<(L.length:Int):=by omega
      go_wp2_with fail;refine (C.out _).mono ?_;rintro e w1 ⟨rfl,hb1⟩;have K2:=Lib.hid ((K1.out.alloc _).below hb1);clear hb1 c0 c1 c2 c3 hR HL C K1 HOK;go_wp2;go_light;exact ⟨⟨i+1,by rw [show ((i+1:Nat):Int)=(i:Int)+1 by omega],by omega,K2.out⟩,by simp only [intOf];omega⟩
  . have hl':¬ (i:Int)<(L.length:Int):=by omega
    clear hi;go_wp2;go_loopw [32] (fun v wr=>∃ i:Nat,v=.int .i64 (i:Int)/\i<=L.length/\KS w wr [(w.heap.size+1,23,#[.int .i64 (sumOf ag.yl (L.take i)),.int .i64 (sumOf ag.yh (L.take i))]),(w.heap.size,23,#[.int .i64 (sumOf ag.xl (L.take i)),.int .i64 (sumOf ag.xh (L.take i))])]) (fun v _=>((L.length:Int)-intOf v).toNat)
    case atStart =>
     exact ⟨0,rfl,by omega,K1.out⟩
    case round =>
     obtain ⟨i,rfl,hi,hK⟩:=hrel;have K2:=Lib.hid hK;clear hK K1
     by_cases hl:i<L.length
     . have hLw:=HL.out.below K2.out.1;rcases hLw with h0|⟨b,off,rfl,hR⟩
       . rw [h0] at hl;simp at hl
       . obtain ⟨c0,c1,c2,c3⟩:=hR.2 i hl;obtain ⟨s1,s2,s3,s4,s5,s6,s7,s8⟩:=zb L HOK.out hn i hl;have C1:=Lib.hid (fun w=>xQ L[i].cl L[i].ch L[i].dl L[i].dh w (HOK.out _ (List.getElem_mem hl)).1 s3 s4)
         have C2:=fun w=>mZ _ _ _ _ w s1 s3 s5 s6
         have C3:=fun w=>mZ _ _ _ _ w s2 s4 s7 s8
         replace C2:=Lib.hid C2;replace C3:=Lib.hid C3;have T1:=Lib.hid (aX ag.xl L i hl);have T2:=Lib.hid (aX ag.xh L i hl);have T3:=Lib.hid (aX ag.yl L i hl);have T4:=Lib.hid (aX ag.yh L i hl);change Hid (∀ w:World,Calls Tryz.prog 50 #[.agg #[.int .i64 L[i].cl,.int .i64 L[i].ch,.int .i64 L[i].dl,.int .i64 L[i].dh]] w fun e w'=>e=.returned (.tuple #[.agg #[.int .i64 L[i].xl,.int .i64 L[i].xh],.agg #[.int .i64 L[i].yl,.int .i64 L[i].yh],.int .i64 0])/\Below w.heap.size w w') at C1
         have hl':(i:Int)<(L.length:Int):=by omega
         clear s1 s2 s3 s4 s5 s6 s7 s8 hR HL HOK;generalize L[i].xl=d1 at *
         generalize L[i].xh=d2 at *
         generalize L[i].yl=d3 at *
         generalize L[i].yh=d4 at *
         generalize L[i].cl=p1 at *
         generalize L[i].ch=p2 at *
         generalize L[i].dl=p3 at *
         generalize L[i].dh=p4 at *
         generalize sumOf ag.xl (L.take i)=x1 at *
         generalize sumOf ag.xh (L.take i)=x2 at *
         generalize sumOf ag.yl (L.take i)=x3 at *
         generalize sumOf ag.yh (L.take i)=x4 at *
         go_wp2_with fail;refine (C1.out _).mono ?_;rintro e w1 ⟨rfl,hb1⟩;have S1:Hid (w.heap.size+1<w1.heap.size):=((K2.out.alloc _).below hb1).lt (g:=w.heap.size+1) (t:=23) (cs:=#[.int .i64 x3,.int .i64 x4]) (by simp)
         have K3:=Lib.hid ((((K2.out.alloc _).below hb1).new w1.heap.size rfl 23 #[.int .i64 d1,.int .i64 d2]).new (w1.heap.size+1) (by simp) 23 #[.int .i64 d3,.int .i64 d4])
         clear hb1 c0 c1 c2 c3 K2 C1;have a0:=K3.out.c (g:=w.heap.size) (t:=23) (cs:=#[.int .i64 x1,.int .i64 x2]) (by simp) (i:=0) rfl
         have a1:=K3.out.c (g:=w.heap.size) (t:=23) (cs:=#[.int .i64 x1,.int .i64 x2]) (by simp) (i:=1) rfl
         have f0:=K3.out.f (g:=w.heap.size) (t:=23) (cs:=#[.int .i64 x1,.int .i64 x2]) (by simp) 0
         have f1:=K3.out.f (g:=w.heap.size) (t:=23) (cs:=#[.int .i64 x1,.int .i64 x2]) (by simp) 1
         go_wp2_with fail;refine (C2.out _).mono ?_;rintro e w2 ⟨rfl,hb2⟩;have K4:=Lib.hid (K3.out.below hb2);clear hb2 a0 a1 f0 f1 K3 C2
         have K5:Hid (KS w ((w2.setCell ⟨w.heap.size,0,none⟩ (.int .i64 (x1+d1))).setCell ⟨w.heap.size,1,none⟩ (.int .i64 (x2+d2))) [(w.heap.size,23,#[.int .i64 (x1+d1),.int .i64 (x2+d2)]),(w.heap.size+1,23,#[.int .i64 x3,.int .i64 x4]),(w1.heap.size+1,23,#[.int .i64 d3,.int .i64 d4])]):=by
          have h:=K4.out.sub (l':=[(w.heap.size,23,#[.int .i64 x1,.int .i64 x2]),(w.heap.size+1,23,#[.int .i64 x3,.int .i64 x4]),(w1.heap.size+1,23,#[.int .i64 d3,.int .i64 d4])]) (by intro p hp;simp at hp ⊢;rcases hp with rfl|rfl|rfl<;>simp)
          have S:=S1.out;exact (h.set (Nat.le_refl _) (by intro p hp;simp at hp;rcases hp with rfl|rfl<;>simp<;>omega) 0 (.int .i64 (x1+d1))).set (Nat.le_refl _) (by intro p hp;simp at hp;rcases hp with rfl|rfl<;>simp<;>omega) 1 (.int .i64 (x2+d2))
         have a0:=K4.out.c (g:=w.heap.size) (t:=23) (cs:=#[.int .i64 x1,.int .i64 x2]) (by simp) (i:=0) rfl
         have a1:=K4.out.c (g:=w.heap.size) (t:=23) (cs:=#[.int .i64 x1,.int .i64 x2]) (by simp) (i:=1) rfl
         have fa0:=K4.out.f (g:=w.heap.size) (t:=23) (cs:=#[.int .i64 x1,.int .i64 x2]) (by simp) 0
         have fa1:=K4.out.f (g:=w.heap.size) (t:=23) (cs:=#[.int .i64 x1,.int .i64 x2]) (by simp) 1
         have b0:=K5.out.c (g:=w.heap.size+1) (t:=23) (cs:=#[.int .i64 x3,.int .i64 x4]) (by simp) (i:=0) rfl
         have b1:=K5.out.c (g:=w.heap.size+1) (t:=23) (cs:=#[.int .i64 x3,.int .i64 x4]) (by simp) (i:=1) rfl
         have c0:=K5.out.c (g:=w1.heap.size+1) (t:=23) (cs:=#[.int .i64 d3,.int .i64 d4]) (by simp) (i:=0) rfl
         have c1:=K5.out.c (g:=w1.heap.size+1) (t:=23) (cs:=#[.int .i64 d3,.int .i64 d4]) (by simp) (i:=1) rfl
         go_wp2_with fail;refine (C3.out _).mono ?_;rintro e w3 ⟨rfl,hb3⟩;have K6:=Lib.hid (K5.out.below hb3);clear hb3 a0 a1 fa0 fa1 b0 b1 c0 c1 K4 K5 C3
         have K7:Hid (KS w ((w3.setCell ⟨w.heap.size+1,0,none⟩ (.int .i64 (x3+d3))).setCell ⟨w.heap.size+1,1,none⟩ (.int .i64 (x4+d4))) [(w.heap.size+1,23,#[.int .i64 (x3+d3),.int .i64 (x4+d4)]),(w.heap.size,23,#[.int .i64 (x1+d1),.int .i64 (x2+d2)])]):=by
          have h:=K6.out.sub (l':=[(w.heap.size+1,23,#[.int .i64 x3,.int .i64 x4]),(w.heap.size,23,#[.int .i64 (x1+d1),.int .i64 (x2+d2)])]) (by intro p hp;simp at hp ⊢;rcases hp with rfl|rfl<;>simp)
          exact (h.set (by omega) (by intro p hp;simp at hp;subst hp;simp) 0 (.int .i64 (x3+d3))).set (by omega) (by intro p hp;simp at hp;subst hp;simp) 1 (.int .i64 (x4+d4))
         have b0:=K6.out.c (g:=w.heap.size+1) (t:=23) (cs:=#[.int .i64 x3,.int .i64 x4]) (by simp) (i:=0) rfl
         have b1:=K6.out.c (g:=w.heap.size+1) (t:=23) (cs:=#[.int .i64 x3,.int .i64 x4]) (by simp) (i:=1) rfl
         have fb0:=K6.out.f (g:=w.heap.size+1) (t:=23) (cs:=#[.int .i64 x3,.int .i64 x4]) (by simp) 0
         have fb1:=K6.out.f (g:=w.heap.size+1) (t:=23) (cs:=#[.int .i64 x3,.int .i64 x4]) (by simp) 1
         go_wp2;go_light;exact ⟨⟨i+1,by rw [show ((i+1:Nat):Int)=(i:Int)+1 by omega],by omega,by rw [T1.out,T2.out,T3.out,T4.out];exact K7.out⟩,by simp only [intOf];omega⟩
     . have hl':¬ (i:Int)<(L.length:Int):=by omega
       have hi':i=L.length:=by omega
       have e1:L.take i=L:=by rw [hi'];exact List.take_length ..
       rw [e1] at K2;generalize G1:sumOf ag.xl L=x1 at K2;replace G1:=Lib.hid G1;generalize G2:sumOf ag.xh L=x2 at K2;replace G2:=Lib.hid G2;generalize G3:sumOf ag.yl L=x3 at K2;replace G3:=Lib.hid G3;generalize G4:sumOf ag.yh L=x4 at K2;replace G4:=Lib.hid G4;clear e1 hi' hi;have a0:=K2.out.c (g:=w.heap.size) (t:=23) (cs:=#[.int .i64 x1,.int .i64 x2]) (by simp) (i:=0) rfl
       have a1:=K2.out.c (g:=w.heap.size) (t:=23) (cs:=#[.int .i64 x1,.int .i64 x2]) (by simp) (i:=1) rfl
       have fa0:=K2.out.f (g:=w.heap.size) (t:=23) (cs:=#[.int .i64 x1,.int .i64 x2]) (by simp) 0
       have fa1:=K2.out.f (g:=w.heap.size) (t:=23) (cs:=#[.int .i64 x1,.int .i64 x2]) (by simp) 1
       have b0:=K2.out.c (g:=w.heap.size+1) (t:=23) (cs:=#[.int .i64 x3,.int .i64 x4]) (by simp) (i:=0) rfl
       have b1:=K2.out.c (g:=w.heap.size+1) (t:=23) (cs:=#[.int .i64 x3,.int .i64 x4]) (by simp) (i:=1) rfl
       have fb0:=K2.out.f (g:=w.heap.size+1) (t:=23) (cs:=#[.int .i64 x3,.int .i64 x4]) (by simp) 0
       have fb1:=K2.out.f (g:=w.heap.size+1) (t:=23) (cs:=#[.int .i64 x3,.int .i64 x4]) (by simp) 1
       have hg:=K2.out.1;clear HL HOK;go_wp2;go_region
       all_goals
        go_wp2;refine bodyPost_ret (by simp [results,Tryz.results31,go_sem,a0,a1,b0,b1,G1.out,G2.out,G3.out,G4.out];try rfl) rfl ⟨rfl,by go_light;go_grown⟩
