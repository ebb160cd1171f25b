/- The walk of the reference's over and Plan. -/
import Derived.Test.YtknhbpnclokciaaGreatZComG
set_option linter.unusedVariables false
set_option linter.unusedSimpArgs false
set_option maxRecDepth 100000
set_option maxHeartbeats 16000000
namespace Go.Proofs.YtknhbpnclokciaaGreat
open Go.RowKit Alm Sx
theorem Pf (a b c d lat x1 x2 y1 y2:Int) (west:Bool) (w:World) (hb:-10800000<=b/\b<=10800000) (hd:-10800000<=d/\d<=10800000) (hx1:0<=x1/\x1<=10800000) (hx2:0<=x2/\x2<=10800000) (hy1:0<=y1/\y1<=10800000) (hy2:0<=y2/\y2<=10800000) :
 Calls Tryz.prog 65 #[.agg #[.int .i64 a,.int .i64 b],.agg #[.int .i64 c,.int .i64 d],.int .i64 lat,.agg #[.int .i64 x1,.int .i64 x2],.agg #[.int .i64 y1,.int .i64 y2],.bool west] w fun e w'=>(∃ u,e=.returned u/\bJ 2 23 w.heap.size w' u (dd (nW a b c d lat ((x1+x2)/2) ((y1+y2)/2) west)))/\Below w.heap.size w w':=by
 have K:=Lib.hid (((((av w).new w.heap.size rfl 23 #[.int .i64 a,.int .i64 b]).new (w.heap.size+1) (by simp) 23 #[.int .i64 c,.int .i64 d]).new (w.heap.size+1+1) (by simp) 40 #[.int .i64 x1,.int .i64 x2]).new (w.heap.size+1+1+1) (by simp) 40 #[.int .i64 y1,.int .i64 y2])
 have M1:=Lib.hid (fun w=>RZ x1 x2 w hx1 hx2)
 have M2:=Lib.hid (fun w=>RZ y1 y2 w hy1 hy2)
 have bm1:0<=(x1+x2)/2/\(x1+x2)/2<=10800000:=by omega
 have bm2:0<=(y1+y2)/2/\(y1+y2)/2<=10800000:=by omega
 generalize (x1+x2)/2=m1 at *
 generalize (y1+y2)/2=m2 at *
 clear hx1 hx2 hy1 hy2;unfold nW;obtain ⟨r1,hr1⟩:∃ r,r=sgd (b+if west=true then -m1 else m1):=⟨_,rfl⟩
 obtain ⟨r2,hr2⟩:∃ r,r=sgd (d-if west=true then -m2 else m2):=⟨_,rfl⟩
 rw [<-hr1,<-hr2];obtain ⟨sg,SG⟩:∃ sg:Int,Hid (sg=if west=true then -1 else 1):=⟨_,Lib.hid rfl⟩
 have bs1:sg*m1=(if west=true then -m1 else m1)/\-10800000<=sg*m1/\sg*m1<=10800000:=by rw [SG.out];split<;>omega
 have bs2:sg*m2=(if west=true then -m2 else m2)/\-10800000<=sg*m2/\sg*m2<=10800000:=by rw [SG.out];split<;>omega
 rw [<-bs1.1] at hr1;rw [<-bs2.1] at hr2
 . have G1a:Hid (∀ w:World,Calls Tryz.prog 63 #[.int .i64 (b+sg*m1)] w fun e w'=>e=.returned (.int .i64 r1)/\w=w'):=Lib.hid (fun w=>by have h:b+sg*m1=b+sg*m1:=(by (try rw [Go.IntWalk.i64_in (sg*m1) (by omega)]);(try rw [Go.IntWalk.i64_in _ (by omega)]);(try rfl));rw [h,hr1];exact ji _ w (by unfold I64;omega))
   have G1b:Hid (∀ w:World,Calls Tryz.prog 63 #[.int .i64 (IntKind.i64.wrap (b+sg*m1))] w fun e w'=>e=.returned (.int .i64 r1)/\w=w'):=Lib.hid (fun w=>by have h:IntKind.i64.wrap (b+sg*m1)=b+sg*m1:=(by (try rw [Go.IntWalk.i64_in (sg*m1) (by omega)]);(try rw [Go.IntWalk.i64_in _ (by omega)]);(try rfl));rw [h,hr1];exact ji _ w (by unfold I64;omega))
   have G1c:Hid (∀ w:World,Calls Tryz.prog 63 #[.int .i64 (IntKind.i64.wrap (b+IntKind.i64.wrap (sg*m1)))] w fun e w'=>e=.returned (.int .i64 r1)/\w=w'):=Lib.hid (fun w=>by have h:IntKind.i64.wrap (b+IntKind.i64.wrap (sg*m1))=b+sg*m1:=(by (try rw [Go.IntWalk.i64_in (sg*m1) (by omega)]);(try rw [Go.IntWalk.i64_in _ (by omega)]);(try rfl));rw [h,hr1];exact ji _ w (by unfold I64;omega))
   have G1d:Hid (∀ w:World,Calls Tryz.prog 63 #[.int .i64 (b+IntKind.i64.wrap (sg*m1))] w fun e w'=>e=.returned (.int .i64 r1)/\w=w'):=Lib.hid (fun w=>by have h:b+IntKind.i64.wrap (sg*m1)=b+sg*m1:=(by (try rw [Go.IntWalk.i64_in (sg*m1) (by omega)]);(try rw [Go.IntWalk.i64_in _ (by omega)]);(try rfl));rw [h,hr1];exact ji _ w (by unfold I64;omega))
   have G2a:Hid (∀ w:World,Calls Tryz.prog 63 #[.int .i64 (d-sg*m2)] w fun e w'=>e=.returned (.int .i64 r2)/\w=w'):=Lib.hid (fun w=>by have h:d-sg*m2=d-sg*m2:=(by (try rw [Go.IntWalk.i64_in (sg*m2) (by omega)]);(try rw [Go.IntWalk.i64_in _ (by omega)]);(try rfl));rw [h,hr2];exact ji _ w (by unfold I64;omega))
   have G2b:Hid (∀ w:World,Calls Tryz.prog 63 #[.int .i64 (IntKind.i64.wrap (d-sg*m2))] w fun e w'=>e=.returned (.int .i64 r2)/\w=w'):=Lib.hid (fun w=>by have h:IntKind.i64.wrap (d-sg*m2)=d-sg*m2:=(by (try rw [Go.IntWalk.i64_in (sg*m2) (by omega)]);(try rw [Go.IntWalk.i64_in _ (by omega)]);(try rfl));rw [h,hr2];exact ji _ w (by unfold I64;omega))
   have G2c:Hid (∀ w:World,Calls Tryz.prog 63 #[.int .i64 (IntKind.i64.wrap (d-IntKind.i64.wrap (sg*m2)))] w fun e w'=>e=.returned (.int .i64 r2)/\w=w'):=Lib.hid (fun w=>by have h:IntKind.i64.wrap (d-IntKind.i64.wrap (sg*m2))=d-sg*m2:=(by (try rw [Go.IntWalk.i64_in (sg*m2) (by omega)]);(try rw [Go.IntWalk.i64_in _ (by omega)]);(try rfl));rw [h,hr2];exact ji _ w (by unfold I64;omega))
   have G2d:Hid (∀ w:World,Calls Tryz.prog 63 #[.int .i64 (d-IntKind.i64.wrap (sg*m2))] w fun e w'=>e=.returned (.int .i64 r2)/\w=w'):=Lib.hid (fun w=>by have h:d-IntKind.i64.wrap (sg*m2)=d-sg*m2:=(by (try rw [Go.IntWalk.i64_in (sg*m2) (by omega)]);(try rw [Go.IntWalk.i64_in _ (by omega)]);(try rfl));rw [h,hr2];exact ji _ w (by unfold I64;omega))
   clear hr1 hr2 bs1 bs2;go_enter Tryz.func65,Tryz.ntmps65;go_upto_if 16 with (fail)
   go_cut [13] (fun s wx=>s=.int .i64 sg/\wx=((((w.alloc (.cells #[.int .i64 a,.int .i64 b] 23)).alloc (.cells #[.int .i64 c,.int .i64 d] 23)).alloc (.cells #[.int .i64 x1,.int .i64 x2] 40)).alloc (.cells #[.int .i64 y1,.int .i64 y2] 40)))
   case first =>
    cases west
    all_goals (go_wp2_with fail)
    all_goals (go_meet;exact ⟨by rw [SG.out];rfl,rfl⟩)
   case rest =>
   obtain ⟨rfl,h⟩:=hcut;have h':=h.symm;clear h;subst h'
   clear SG;go_upto_region 4 with (fail)
   generalize ((((w.alloc (.cells #[.int .i64 a,.int .i64 b] 23)).alloc (.cells #[.int .i64 c,.int .i64 d] 23)).alloc (.cells #[.int .i64 x1,.int .i64 x2] 40)).alloc (.cells #[.int .i64 y1,.int .i64 y2] 40))=w1 at *
   have KA:=Lib.hid (xn K.out);have HS:=Lib.hid (show w.heap.size+4<=w1.heap.size from by have:=K.out.lt (g:=w.heap.size+1+1+1) (t:=40) (cs:=#[.int .i64 y1,.int .i64 y2]) (by simp);omega)
   go_cut [14] (fun s wx=>OvC w [(w.heap.size+1+1+1,40,#[.int .i64 y1,.int .i64 y2]),(w.heap.size+1+1,40,#[.int .i64 x1,.int .i64 x2]),(w.heap.size+1,23,#[.int .i64 c,.int .i64 d]),(w.heap.size,23,#[.int .i64 a,.int .i64 b])] lat r1 s wx)
   case first =>
    have b1:=K.out.c (g:=w.heap.size) (t:=23) (cs:=#[.int .i64 a,.int .i64 b]) (by simp) (i:=1) rfl;have xa0:=K.out.c (g:=w.heap.size+1+1) (t:=40) (cs:=#[.int .i64 x1,.int .i64 x2]) (by simp) (i:=0) rfl;have xa1:=K.out.c (g:=w.heap.size+1+1) (t:=40) (cs:=#[.int .i64 x1,.int .i64 x2]) (by simp) (i:=1) rfl;have b1o:=fun o:Obj=>(Lib.cell?_alloc_some o b1:World.cell? _ _=some (.int .i64 b));have xa0o:=fun o:Obj=>(Lib.cell?_alloc_some o xa0:World.cell? _ _=some (.int .i64 x1));have xa1o:=fun o:Obj=>(Lib.cell?_alloc_some o xa1:World.cell? _ _=some (.int .i64 x2))
    clear b1 xa0 xa1;replace K:=Lib.hid K.out.drew;have b1:=K.out.c (g:=w.heap.size) (t:=23) (cs:=#[.int .i64 a,.int .i64 b]) (by simp) (i:=1) rfl;have xa0:=K.out.c (g:=w.heap.size+1+1) (t:=40) (cs:=#[.int .i64 x1,.int .i64 x2]) (by simp) (i:=0) rfl;have xa1:=K.out.c (g:=w.heap.size+1+1) (t:=40) (cs:=#[.int .i64 x1,.int .i64 x2]) (by simp) (i:=1) rfl
    go_region_with (first
     | ((go_at_call 170;with_reducible refine (M1.out _).mono ?_);rintro r wm ⟨rfl,hk⟩;have HW:Hid (w1.heap.size<=wm.heap.size):=Lib.hid (Nat.le_trans (by first|exact Nat.le_refl _|exact cZ _ _) hk.size);(first|replace K:=Lib.hid (K.out.below hk)|(replace K:=Lib.hid ((K.out.new w1.heap.size rfl 23 #[.int .i64 0,.int .i64 0]).below hk);have nc0:=K.out.c (g:=w1.heap.size) (t:=23) (cs:=#[.int .i64 0,.int .i64 0]) (by simp) (i:=0) rfl;have nc1:=K.out.c (g:=w1.heap.size) (t:=23) (cs:=#[.int .i64 0,.int .i64 0]) (by simp) (i:=1) rfl;have nf0:=K.out.f (g:=w1.heap.size) (t:=23) (cs:=#[.int .i64 0,.int .i64 0]) (by simp) 0;have nf1:=K.out.f (g:=w1.heap.size) (t:=23) (cs:=#[.int .i64 0,.int .i64 0]) (by simp) 1));clear hk b1 xa0 xa1 b1o xa0o xa1o;have b1:=K.out.c (g:=w.heap.size) (t:=23) (cs:=#[.int .i64 a,.int .i64 b]) (by simp) (i:=1) rfl;have xa0:=K.out.c (g:=w.heap.size+1+1) (t:=40) (cs:=#[.int .i64 x1,.int .i64 x2]) (by simp) (i:=0) rfl;have xa1:=K.out.c (g:=w.heap.size+1+1) (t:=40) (cs:=#[.int .i64 x1,.int .i64 x2]) (by simp) (i:=1) rfl;have b1o:=fun o:Obj=>(Lib.cell?_alloc_some o b1:World.cell? _ _=some (.int .i64 b));have xa0o:=fun o:Obj=>(Lib.cell?_alloc_some o xa0:World.cell? _ _=some (.int .i64 x1));have xa1o:=fun o:Obj=>(Lib.cell?_alloc_some o xa1:World.cell? _ _=some (.int .i64 x2)))
     | ((go_at_call 63;with_reducible refine (G1a.out _).mono ?_);rintro r w8 ⟨rfl,rfl⟩)
     | ((go_at_call 63;with_reducible refine (G1b.out _).mono ?_);rintro r w8 ⟨rfl,rfl⟩)
     | ((go_at_call 63;with_reducible refine (G1c.out _).mono ?_);rintro r w8 ⟨rfl,rfl⟩)
     | ((go_at_call 63;with_reducible refine (G1d.out _).mono ?_);rintro r w8 ⟨rfl,rfl⟩))
    all_goals (go_wp2_with fail)
    all_goals go_meet
    all_goals
     first
      | exact Q5 K.out (Nat.le_trans HS.out HW.out) _ _ rfl
      | exact Sr K.out HS.out KA.out _ _
   case rest =>
   generalize wc=w2 at *
   obtain ⟨g,rfl,hK,hg⟩:=hcut;clear K KA HS G1a G1b G1c G1d M1;have K:=Lib.hid hK;have HG:=Lib.hid hg;clear hK hg;go_upto_region 5 with (fail)
   have KA:=Lib.hid (xn K.out);have HS:=Lib.hid (show w.heap.size+4<=w2.heap.size from by have:=K.out.lt (g:=w.heap.size+1+1+1) (t:=40) (cs:=#[.int .i64 y1,.int .i64 y2]) (by simp);omega)
   go_cut [15] (fun s wx=>OvC w [(g,23,#[.int .i64 lat,.int .i64 r1]),(w.heap.size+1+1+1,40,#[.int .i64 y1,.int .i64 y2]),(w.heap.size+1+1,40,#[.int .i64 x1,.int .i64 x2]),(w.heap.size+1,23,#[.int .i64 c,.int .i64 d]),(w.heap.size,23,#[.int .i64 a,.int .i64 b])] lat r2 s wx)
   case first =>
    have b1:=K.out.c (g:=w.heap.size+1) (t:=23) (cs:=#[.int .i64 c,.int .i64 d]) (by simp) (i:=1) rfl;have xa0:=K.out.c (g:=w.heap.size+1+1+1) (t:=40) (cs:=#[.int .i64 y1,.int .i64 y2]) (by simp) (i:=0) rfl;have xa1:=K.out.c (g:=w.heap.size+1+1+1) (t:=40) (cs:=#[.int .i64 y1,.int .i64 y2]) (by simp) (i:=1) rfl;have b1o:=fun o:Obj=>(Lib.cell?_alloc_some o b1:World.cell? _ _=some (.int .i64 d));have xa0o:=fun o:Obj=>(Lib.cell?_alloc_some o xa0:World.cell? _ _=some (.int .i64 y1));have xa1o:=fun o:Obj=>(Lib.cell?_alloc_some o xa1:World.cell? _ _=some (.int .i64 y2))
    clear b1 xa0 xa1;replace K:=Lib.hid K.out.drew;have b1:=K.out.c (g:=w.heap.size+1) (t:=23) (cs:=#[.int .i64 c,.int .i64 d]) (by simp) (i:=1) rfl;have xa0:=K.out.c (g:=w.heap.size+1+1+1) (t:=40) (cs:=#[.int .i64 y1,.int .i64 y2]) (by simp) (i:=0) rfl;have xa1:=K.out.c (g:=w.heap.size+1+1+1) (t:=40) (cs:=#[.int .i64 y1,.int .i64 y2]) (by simp) (i:=1) rfl
    go_region_with (first
     | ((go_at_call 170;with_reducible refine (M2.out _).mono ?_);rintro r wm ⟨rfl,hk⟩;have HW:Hid (w2.heap.size<=wm.heap.size):=Lib.hid (Nat.le_trans (by first|exact Nat.le_refl _|exact cZ _ _) hk.size);(first|replace K:=Lib.hid (K.out.below hk)|(replace K:=Lib.hid ((K.out.new w2.heap.size rfl 23 #[.int .i64 0,.int .i64 0]).below hk);have nc0:=K.out.c (g:=w2.heap.size) (t:=23) (cs:=#[.int .i64 0,.int .i64 0]) (by simp) (i:=0) rfl;have nc1:=K.out.c (g:=w2.heap.size) (t:=23) (cs:=#[.int .i64 0,.int .i64 0]) (by simp) (i:=1) rfl;have nf0:=K.out.f (g:=w2.heap.size) (t:=23) (cs:=#[.int .i64 0,.int .i64 0]) (by simp) 0;have nf1:=K.out.f (g:=w2.heap.size) (t:=23) (cs:=#[.int .i64 0,.int .i64 0]) (by simp) 1));clear hk b1 xa0 xa1 b1o xa0o xa1o;have b1:=K.out.c (g:=w.heap.size+1) (t:=23) (cs:=#[.int .i64 c,.int .i64 d]) (by simp) (i:=1) rfl;have xa0:=K.out.c (g:=w.heap.size+1+1+1) (t:=40) (cs:=#[.int .i64 y1,.int .i64 y2]) (by simp) (i:=0) rfl;have xa1:=K.out.c (g:=w.heap.size+1+1+1) (t:=40) (cs:=#[.int .i64 y1,.int .i64 y2]) (by simp) (i:=1) rfl;have b1o:=fun o:Obj=>(Lib.cell?_alloc_some o b1:World.cell? _ _=some (.int .i64 d));have xa0o:=fun o:Obj=>(Lib.cell?_alloc_some o xa0:World.cell? _ _=some (.int .i64 y1));have xa1o:=fun o:Obj=>(Lib.cell?_alloc_some o xa1:World.cell? _ _=some (.int .i64 y2)))
     | ((go_at_call 63;with_reducible refine (G2a.out _).mono ?_);rintro r w8 ⟨rfl,rfl⟩)
     | ((go_at_call 63;with_reducible refine (G2b.out _).mono ?_);rintro r w8 ⟨rfl,rfl⟩)
     | ((go_at_call 63;with_reducible refine (G2c.out _).mono ?_);rintro r w8 ⟨rfl,rfl⟩)
     | ((go_at_call 63;with_reducible refine (G2d.out _).mono ?_);rintro r w8 ⟨rfl,rfl⟩))
    all_goals (go_wp2_with fail)
    all_goals go_meet
    all_goals
     first
      | exact Q5 K.out (Nat.le_trans HS.out HW.out) _ _ rfl
      | exact Sr K.out HS.out KA.out _ _
   case rest =>
   generalize wc=w3 at *
   obtain ⟨h,rfl,hK,hg⟩:=hcut;clear K KA HS G2a G2b G2c G2d M2;have K:=Lib.hid hK;clear hK hg;have a0:=K.out.c (g:=w.heap.size) (t:=23) (cs:=#[.int .i64 a,.int .i64 b]) (by simp) (i:=0) rfl;have a1:=K.out.c (g:=w.heap.size) (t:=23) (cs:=#[.int .i64 a,.int .i64 b]) (by simp) (i:=1) rfl;have c0:=K.out.c (g:=w.heap.size+1) (t:=23) (cs:=#[.int .i64 c,.int .i64 d]) (by simp) (i:=0) rfl;have c1:=K.out.c (g:=w.heap.size+1) (t:=23) (cs:=#[.int .i64 c,.int .i64 d]) (by simp) (i:=1) rfl;have p0:=K.out.c (g:=g) (t:=23) (cs:=#[.int .i64 lat,.int .i64 r1]) (by simp) (i:=0) rfl;have p1:=K.out.c (g:=g) (t:=23) (cs:=#[.int .i64 lat,.int .i64 r1]) (by simp) (i:=1) rfl;have q0:=K.out.c (g:=h) (t:=23) (cs:=#[.int .i64 lat,.int .i64 r2]) (by simp) (i:=0) rfl;have q1:=K.out.c (g:=h) (t:=23) (cs:=#[.int .i64 lat,.int .i64 r2]) (by simp) (i:=1) rfl
   go_wp2_with fail;refine (zR _ _ [[a,b],[lat,r1],[lat,r2],[c,d]] _ (.inr ⟨_,_,rfl,fE _ _ [[a,b],[lat,r1],[lat,r2],[c,d]] _ rfl (by intro x hx;simp at hx;rcases hx with rfl|rfl|rfl|rfl<;>rfl) _ rfl⟩) (by simp)).mono ?_
   rintro e w4 ⟨⟨u,rfl,O⟩,hb4⟩;have HB:Hid (Below w.heap.size w w4):=(K.out.1.alloc K.out.1.size _).trans (hb4.mono (Nat.le_trans K.out.1.size (cZ _ _)));have OF:=Lib.hid (O.mono (Nat.le_trans K.out.1.size (cZ w3 _)));clear O hb4 K;go_wp2;go_ret;exact ⟨⟨_,rfl,OF.out⟩,HB.out⟩
end Go.Proofs.YtknhbpnclokciaaGreat
namespace Go.Proofs.YtknhbpnclokciaaGreat
open Go.RowKit Alm Sx
theorem Ki (a b c d l:Int) (w:World) (h:bS l [[a,b],[c,d]]=0) :
 Calls Tryz.prog 17 #[.agg #[.int .i64 a,.int .i64 b],.agg #[.int .i64 c,.int .i64 d],.int .i64 l] w fun e w'=>(∃ u,e=.returned u/\bJ 2 23 w.heap.size w' u (aF a b c d l))/\Below w.heap.size w w':=by
 obtain ⟨h1,h2,h3,h4⟩:=kS h;simp only [List.all_cons,List.all_nil,Bool.and_true,Bool.and_eq_true] at h1 h4;unfold dJ PtV at h1;unfold di at h4;simp only [List.getD_cons_zero,List.getD_cons_succ,decide_eq_true_eq] at h1 h4;have hb:-10800000<=b/\b<=10800000:=by omega
 have hd:-10800000<=d/\d<=10800000:=by omega
 have RX:=Lib.hid (fun w=>Eb a l w h2 h3 h4.1.1 h4.1.2)
 have RY:=Lib.hid (fun w=>Eb c l w h2 h3 h4.2.1 h4.2.2)
 have SGN:Hid (∀ w:World,Calls Tryz.prog 63 #[.int .i64 (d-b)] w fun e w'=>e=.returned (.int .i64 (sgd (d-b)))/\w=w'):=Lib.hid (fun w=>ji _ w (by unfold I64;omega))
 have bx:=Bb a l;have bz:=Bb c l;have bq:=jb (d-b);have hl:1<=l/\l<5400000:=⟨h2,h3⟩;obtain ⟨P,hP⟩:∃ P,aF a b c d l=P:=⟨_,rfl⟩;rw [hP];unfold aF nY at hP;clear h h1 h2 h3 h4;generalize gp a l=x1 at *
 generalize gu a l=x2 at *
 generalize gp c l=y1 at *
 generalize gu c l=y2 at *
 generalize sgd (d-b)=q at *
 have hx1:0<=x1/\x1<=10800000:=by omega
 have hx2:0<=x2/\x2<=10800000:=by omega
 have hy1:0<=y1/\y1<=10800000:=by omega
 have hy2:0<=y2/\y2<=10800000:=by omega
 clear bx bz;have OV1:=Lib.hid (fun (west:Bool) w=>Pf a b c d l x1 x2 y1 y2 west w hb hd hx1 hx2 hy1 hy2)
 have OV2:=Lib.hid (fun (west:Bool) w=>Pf a b c d (-l) (10800000-x2) (10800000-x1) (10800000-y2) (10800000-y1) west w hb hd (by omega) (by omega) (by omega) (by omega))
 have T1:=Lib.hid (fun w=>RA x1 x2 w hx1 hx2)
 have T2:=Lib.hid (fun w=>RA y1 y2 w hy1 hy2)
 have HP:=Lib.hid hP;clear hP;obtain ⟨D,hD⟩:∃ D,D=max q (-q):=⟨_,rfl⟩;have K0:=Lib.hid (((av w).new w.heap.size rfl 23 #[.int .i64 a,.int .i64 b]).new (w.heap.size+1) (by simp) 23 #[.int .i64 c,.int .i64 d])
 rw [<-hD] at HP;go_enter Tryz.func17,Tryz.ntmps17;go_wp2_with fail;refine (SGN.out _).mono ?_;rintro e w1 ⟨rfl,rfl⟩;go_upto_if 19 with (fail)
 go_cut [8] (fun s wx=>s=.int .i64 D/\wx=((w.alloc (.cells #[.int .i64 a,.int .i64 b] 23)).alloc (.cells #[.int .i64 c,.int .i64 d] 23)))
 case first =>
  clear RX RY SGN OV1 OV2 T1 T2 HP
  by_cases hq:q<0
  . go_wp2_with fail;go_meet;refine ⟨?_,rfl⟩;rw [hD];first|rfl|(congr 1;omega)
  . go_wp2_with fail;go_meet;refine ⟨?_,rfl⟩;rw [hD];first|rfl|(congr 1;omega)
 case rest =>
 obtain ⟨rfl,hw⟩:=hcut;have hw':=hw.symm;clear hw;subst hw'
 have bD:0<=D/\D<=10800000:=by omega
 clear SGN hD;go_wp2_with fail;refine (RX.out _).mono ?_;rintro e w2 ⟨rfl,hb1⟩;have K1:=Lib.hid ((K0.out.below hb1).new w2.heap.size rfl 40 #[.int .i64 x1,.int .i64 x2]);clear hb1 K0;have c0:=K1.out.c (g:=w.heap.size+1) (t:=23) (cs:=#[.int .i64 c,.int .i64 d]) (by simp) (i:=0) rfl
 go_wp2_with fail;refine (RY.out _).mono ?_;rintro e w3 ⟨rfl,hb1⟩;have K:=Lib.hid ((K1.out.below hb1).new w3.heap.size rfl 40 #[.int .i64 y1,.int .i64 y2]);clear hb1 K1 c0 RX RY;have xa0:=K.out.c (g:=w2.heap.size) (t:=40) (cs:=#[.int .i64 x1,.int .i64 x2]) (by simp) (i:=0) rfl;have xa1:=K.out.c (g:=w2.heap.size) (t:=40) (cs:=#[.int .i64 x1,.int .i64 x2]) (by simp) (i:=1) rfl;have ya0:=K.out.c (g:=w3.heap.size) (t:=40) (cs:=#[.int .i64 y1,.int .i64 y2]) (by simp) (i:=0) rfl;have ya1:=K.out.c (g:=w3.heap.size) (t:=40) (cs:=#[.int .i64 y1,.int .i64 y2]) (by simp) (i:=1) rfl
 have a0:=K.out.c (g:=w.heap.size) (t:=23) (cs:=#[.int .i64 a,.int .i64 b]) (by simp) (i:=0) rfl;have a1:=K.out.c (g:=w.heap.size) (t:=23) (cs:=#[.int .i64 a,.int .i64 b]) (by simp) (i:=1) rfl;have c0:=K.out.c (g:=w.heap.size+1) (t:=23) (cs:=#[.int .i64 c,.int .i64 d]) (by simp) (i:=0) rfl;have c1:=K.out.c (g:=w.heap.size+1) (t:=23) (cs:=#[.int .i64 c,.int .i64 d]) (by simp) (i:=1) rfl
 have DF:∀ u v:Int,(if decide (q<0)=true then u else v)=(if decide (q<0)=true then u else v):=fun _ _=>rfl
 by_cases p1:x2+y2<D
 . have HQ:Hid (P=dd (nW a b c d l ((x1+x2)/2) ((y1+y2)/2) (decide (q<0)))):=Lib.hid (by rw [<-HP.out,if_pos (by omega)])
   have p1':decide (x2+y2<D)=true:=decide_eq_true p1;clear HP OV2 T1 T2;go_wp2_with fail;refine (OV1.out _ _).mono ?_;rw [<-HQ.out];rintro e w9 ⟨⟨u,rfl,O⟩,hb⟩;have HB:Hid (Below w.heap.size w w9):=Lib.hid (K.out.1.trans (hb.mono K.out.1.size));have OF:=Lib.hid (O.mono K.out.1.size);clear hb O K;go_wp2;go_ret;exact ⟨⟨_,rfl,OF.out⟩,HB.out⟩
 . have p1':decide (x2+y2<D)=false:=decide_eq_false p1;clear OV1;go_upto_region 9 with (fail)
   generalize (w3.alloc (.cells #[.int .i64 y1,.int .i64 y2] 40))=w4 at *
   generalize w2.heap.size=B2 at *
   generalize w3.heap.size=B3 at *
   go_cut [53] (fun s wx=>s=.bool (decide (10800000-x1+(10800000-y1)<D))/\KS w wx [(B3,40,#[.int .i64 y1,.int .i64 y2]),(B2,40,#[.int .i64 x1,.int .i64 x2]),(w.heap.size+1,23,#[.int .i64 c,.int .i64 d]),(w.heap.size,23,#[.int .i64 a,.int .i64 b])])
   case first =>
    have hwS:IntKind.i64.wrap (10800000-x1+(10800000-y1))=10800000-x1+(10800000-y1):=Go.IntWalk.i64_in _ (by omega)
    clear HP OV2 a0 a1 c0 c1;have FX:∀ w,(Instr.field 40 (.agg #[.int .i64 (10800000-x2),.int .i64 (10800000-x1)]) 1).run Tryz.prog w=.ok (.int .i64 (10800000-x1)) w:=fun _=>by kernel_rfl
    have FY:∀ w,(Instr.field 40 (.agg #[.int .i64 (10800000-y2),.int .i64 (10800000-y1)]) 1).run Tryz.prog w=.ok (.int .i64 (10800000-y1)) w:=fun _=>by kernel_rfl
    replace K:=Lib.hid K.out.drew
    go_region_held3 (fun w'=>w'.cell? ⟨B2,0,none⟩=some (.int .i64 x1)/\w'.cell? ⟨B2,1,none⟩=some (.int .i64 x2)/\w'.cell? ⟨B3,0,none⟩=some (.int .i64 y1)/\w'.cell? ⟨B3,1,none⟩=some (.int .i64 y2))
     (first|(refine ⟨?_,?_,?_,?_⟩<;>assumption))
     (first
      | ((go_at_call 66;with_reducible refine (T1.out _).mono ?_);rintro r w7 ⟨rfl,hk⟩;replace K:=Lib.hid (K.out.below hk);clear hk xa0 xa1 ya0 ya1;have xa0:=K.out.c (g:=B2) (t:=40) (cs:=#[.int .i64 x1,.int .i64 x2]) (by simp) (i:=0) rfl;have xa1:=K.out.c (g:=B2) (t:=40) (cs:=#[.int .i64 x1,.int .i64 x2]) (by simp) (i:=1) rfl;have ya0:=K.out.c (g:=B3) (t:=40) (cs:=#[.int .i64 y1,.int .i64 y2]) (by simp) (i:=0) rfl;have ya1:=K.out.c (g:=B3) (t:=40) (cs:=#[.int .i64 y1,.int .i64 y2]) (by simp) (i:=1) rfl)
      | ((go_at_call 66;with_reducible refine (T2.out _).mono ?_);rintro r w7 ⟨rfl,hk⟩;replace K:=Lib.hid (K.out.below hk);clear hk xa0 xa1 ya0 ya1;have xa0:=K.out.c (g:=B2) (t:=40) (cs:=#[.int .i64 x1,.int .i64 x2]) (by simp) (i:=0) rfl;have xa1:=K.out.c (g:=B2) (t:=40) (cs:=#[.int .i64 x1,.int .i64 x2]) (by simp) (i:=1) rfl;have ya0:=K.out.c (g:=B3) (t:=40) (cs:=#[.int .i64 y1,.int .i64 y2]) (by simp) (i:=0) rfl;have ya1:=K.out.c (g:=B3) (t:=40) (cs:=#[.int .i64 y1,.int .i64 y2]) (by simp) (i:=1) rfl))
    all_goals (go_wp2_with fail)
    all_goals go_meet
    all_goals (refine ⟨?_,K.out.sub (by intro p hp;simp at hp ⊢;rcases hp with rfl|rfl|rfl|rfl<;>simp)⟩;first|rfl|(rw [hwS])|(simp only [hwS]))
   case rest =>
   generalize wc=w5 at *
   obtain ⟨rfl,hK⟩:=hcut;replace K:=Lib.hid hK;clear hK xa0 xa1 ya0 ya1 a0 a1 c0 c1;have xa0:=K.out.c (g:=B2) (t:=40) (cs:=#[.int .i64 x1,.int .i64 x2]) (by simp) (i:=0) rfl;have xa1:=K.out.c (g:=B2) (t:=40) (cs:=#[.int .i64 x1,.int .i64 x2]) (by simp) (i:=1) rfl;have ya0:=K.out.c (g:=B3) (t:=40) (cs:=#[.int .i64 y1,.int .i64 y2]) (by simp) (i:=0) rfl;have ya1:=K.out.c (g:=B3) (t:=40) (cs:=#[.int .i64 y1,.int .i64 y2]) (by simp) (i:=1) rfl
   have a0:=K.out.c (g:=w.heap.size) (t:=23) (cs:=#[.int .i64 a,.int .i64 b]) (by simp) (i:=0) rfl;have a1:=K.out.c (g:=w.heap.size) (t:=23) (cs:=#[.int .i64 a,.int .i64 b]) (by simp) (i:=1) rfl;have c0:=K.out.c (g:=w.heap.size+1) (t:=23) (cs:=#[.int .i64 c,.int .i64 d]) (by simp) (i:=0) rfl;have c1:=K.out.c (g:=w.heap.size+1) (t:=23) (cs:=#[.int .i64 c,.int .i64 d]) (by simp) (i:=1) rfl
   by_cases p2:10800000-x1+(10800000-y1)<D
   . have HQ:Hid (P=dd (nW a b c d (-l) ((10800000-x2+(10800000-x1))/2) ((10800000-y2+(10800000-y1))/2) (decide (q<0)))):=Lib.hid (by have p1c:¬ (x2+y2<D):=(by omega);have p2c:10800000-x1+(10800000-y1)<D:=p2;rw [<-HP.out,if_neg p1c,if_pos p2c])
     have p2':decide (10800000-x1+(10800000-y1)<D)=true:=decide_eq_true p2;clear HP;replace K:=Lib.hid K.out.drew;have hw0:IntKind.i64.wrap (0-l)=-l:=by rw [Go.IntWalk.i64_in _ (by omega)];omega
     have hw1:IntKind.i64.wrap (-l)=-l:=Go.IntWalk.i64_in _ (by omega)
     go_upto_region 10 with (fail)
     go_region_held3 (fun w'=>(w'.cell? ⟨B2,0,none⟩=some (.int .i64 x1)/\w'.cell? ⟨B2,1,none⟩=some (.int .i64 x2)/\w'.cell? ⟨B3,0,none⟩=some (.int .i64 y1)/\w'.cell? ⟨B3,1,none⟩=some (.int .i64 y2))/\(w'.cell? ⟨w.heap.size,0,none⟩=some (.int .i64 a)/\w'.cell? ⟨w.heap.size,1,none⟩=some (.int .i64 b)/\w'.cell? ⟨w.heap.size+1,0,none⟩=some (.int .i64 c)/\w'.cell? ⟨w.heap.size+1,1,none⟩=some (.int .i64 d)))
      (first|(refine ⟨⟨?_,?_,?_,?_⟩,?_,?_,?_,?_⟩<;>assumption))
      (first
       | ((go_at_call 66;with_reducible refine (T1.out _).mono ?_);rintro r w7 ⟨rfl,hk⟩;replace K:=Lib.hid (K.out.below hk);clear hk xa0 xa1 ya0 ya1 a0 a1 c0 c1;have xa0:=K.out.c (g:=B2) (t:=40) (cs:=#[.int .i64 x1,.int .i64 x2]) (by simp) (i:=0) rfl;have xa1:=K.out.c (g:=B2) (t:=40) (cs:=#[.int .i64 x1,.int .i64 x2]) (by simp) (i:=1) rfl;have ya0:=K.out.c (g:=B3) (t:=40) (cs:=#[.int .i64 y1,.int .i64 y2]) (by simp) (i:=0) rfl;have ya1:=K.out.c (g:=B3) (t:=40) (cs:=#[.int .i64 y1,.int .i64 y2]) (by simp) (i:=1) rfl;have a0:=K.out.c (g:=w.heap.size) (t:=23) (cs:=#[.int .i64 a,.int .i64 b]) (by simp) (i:=0) rfl;have a1:=K.out.c (g:=w.heap.size) (t:=23) (cs:=#[.int .i64 a,.int .i64 b]) (by simp) (i:=1) rfl;have c0:=K.out.c (g:=w.heap.size+1) (t:=23) (cs:=#[.int .i64 c,.int .i64 d]) (by simp) (i:=0) rfl;have c1:=K.out.c (g:=w.heap.size+1) (t:=23) (cs:=#[.int .i64 c,.int .i64 d]) (by simp) (i:=1) rfl)
       | ((go_at_call 66;with_reducible refine (T2.out _).mono ?_);rintro r w7 ⟨rfl,hk⟩;replace K:=Lib.hid (K.out.below hk);clear hk xa0 xa1 ya0 ya1 a0 a1 c0 c1;have xa0:=K.out.c (g:=B2) (t:=40) (cs:=#[.int .i64 x1,.int .i64 x2]) (by simp) (i:=0) rfl;have xa1:=K.out.c (g:=B2) (t:=40) (cs:=#[.int .i64 x1,.int .i64 x2]) (by simp) (i:=1) rfl;have ya0:=K.out.c (g:=B3) (t:=40) (cs:=#[.int .i64 y1,.int .i64 y2]) (by simp) (i:=0) rfl;have ya1:=K.out.c (g:=B3) (t:=40) (cs:=#[.int .i64 y1,.int .i64 y2]) (by simp) (i:=1) rfl;have a0:=K.out.c (g:=w.heap.size) (t:=23) (cs:=#[.int .i64 a,.int .i64 b]) (by simp) (i:=0) rfl;have a1:=K.out.c (g:=w.heap.size) (t:=23) (cs:=#[.int .i64 a,.int .i64 b]) (by simp) (i:=1) rfl;have c0:=K.out.c (g:=w.heap.size+1) (t:=23) (cs:=#[.int .i64 c,.int .i64 d]) (by simp) (i:=0) rfl;have c1:=K.out.c (g:=w.heap.size+1) (t:=23) (cs:=#[.int .i64 c,.int .i64 d]) (by simp) (i:=1) rfl)
       | ((go_at_call 65;with_reducible refine (OV2.out _ _).mono ?_);rw [<-HQ.out];rintro r w9 ⟨⟨u,rfl,O⟩,hk⟩;have OF:=Lib.hid (O.mono K.out.1.size);replace K:=Lib.hid (K.out.below hk);clear hk O xa0 xa1 ya0 ya1 a0 a1 c0 c1;have xa0:=K.out.c (g:=B2) (t:=40) (cs:=#[.int .i64 x1,.int .i64 x2]) (by simp) (i:=0) rfl;have xa1:=K.out.c (g:=B2) (t:=40) (cs:=#[.int .i64 x1,.int .i64 x2]) (by simp) (i:=1) rfl;have ya0:=K.out.c (g:=B3) (t:=40) (cs:=#[.int .i64 y1,.int .i64 y2]) (by simp) (i:=0) rfl;have ya1:=K.out.c (g:=B3) (t:=40) (cs:=#[.int .i64 y1,.int .i64 y2]) (by simp) (i:=1) rfl;have a0:=K.out.c (g:=w.heap.size) (t:=23) (cs:=#[.int .i64 a,.int .i64 b]) (by simp) (i:=0) rfl;have a1:=K.out.c (g:=w.heap.size) (t:=23) (cs:=#[.int .i64 a,.int .i64 b]) (by simp) (i:=1) rfl;have c0:=K.out.c (g:=w.heap.size+1) (t:=23) (cs:=#[.int .i64 c,.int .i64 d]) (by simp) (i:=0) rfl;have c1:=K.out.c (g:=w.heap.size+1) (t:=23) (cs:=#[.int .i64 c,.int .i64 d]) (by simp) (i:=1) rfl))
     go_wp2;go_ret;exact ⟨⟨_,rfl,OF.out⟩,K.out.1⟩
   . have HQ:Hid (P=dd [[a,b],[c,d]]):=Lib.hid (by rw [<-HP.out,if_neg (by omega),if_neg (by omega)])
     have p2':decide (10800000-x1+(10800000-y1)<D)=false:=decide_eq_false p2;clear HP;go_wp2_with fail;refine (zR _ _ [[a,b],[c,d]] _ (.inr ⟨_,_,rfl,fE _ _ [[a,b],[c,d]] _ rfl (by intro x hx;simp at hx;rcases hx with rfl|rfl<;>rfl) _ rfl⟩) (by simp)).mono ?_
     rw [<-HQ.out];rintro e w9 ⟨⟨u,rfl,O⟩,hb4⟩;have HB:Hid (Below w.heap.size w w9):=(K.out.1.alloc K.out.1.size _).trans (hb4.mono (Nat.le_trans K.out.1.size (cZ _ _)));have OF:=Lib.hid (O.mono (Nat.le_trans K.out.1.size (cZ w5 _)));clear O hb4 K;go_wp2;go_ret;exact ⟨⟨_,rfl,OF.out⟩,HB.out⟩
