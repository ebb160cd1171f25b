/- The contracts of Vertex of both sides. -/
import Derived.Test.YtfffpodaabdpfaaGreatGv
set_option linter.unusedVariables false
set_option linter.unusedSimpArgs false
namespace Go.Proofs.YtfffpodaabdpfaaGreat
open Go.RowKit Alm Sx
theorem two_ofV {x:Int} {p:Prop} [Decidable p] (h:x=b2i (decide p)):(p∧x=1)∨(¬ p∧x=0):=by
 by_cases q:p
 · exact .inl ⟨q,by rw [h,decide_eq_true q];rfl⟩
 · exact .inr ⟨q,by rw [h,decide_eq_false q];rfl⟩
def uAbs (p:IV):IV:=if 0≤p.1 then p else if p.2≤0 then uN p else (0,max (-p.1) p.2)
theorem U_abs {p:IV} (h:U p):0≤(uAbs p).1∧(uAbs p).1≤(uAbs p).2∧(uAbs p).2≤1073741824:=by
 unfold U at h
 unfold uAbs
 split
 · exact ⟨by omega,by omega,by omega⟩
 · split
   · unfold uN;simp only;omega
   · simp only;omega
def uT2 (t:Prop) [Decidable t] (p:IV):IV:=if t then uN p else p
theorem U_T2 {t:Prop} [Decidable t] {p:IV} (h:U p):U (uT2 t p):=by
 unfold uT2
 split
 · exact U_N h
 · exact h
def lonF (b L H:Int):Int × Int:=if H - L≥21600000 then (-10800000,10800000) else (sgd (b+L),sgd (b+L)+(H - L))
theorem lon_node {b L H n1 n2 w g m c u r g2 sb z x y lo hi:Int} (hb:-10800000≤b∧b < 10800000) (hL:0≤L∧L≤21599999∧L≤H∧H≤L+21600000) (e1:n1=IntKind.i64.wrap (b+L)) (e2:n2=IntKind.i64.wrap (b+H)) (ew:w=IntKind.i64.wrap (n2 - n1)) (eg:g=b2i (decide (w≥21600000))) (em:m=Int.tmod n1 21600000) (ec:c=b2i (decide (m < 0))) (eu:u=IntKind.i64.wrap (m+21600000)) (er:r=if c≠0 then u else m) (eg2:g2=b2i (decide (r≥10800000))) (es:sb=IntKind.i64.wrap (r - 21600000)) (ez:z=if g2≠0 then sb else r) (ex:x=IntKind.i64.wrap (z+n2)) (ey:y=IntKind.i64.wrap (x - n1)) (elo:lo=if g≠0 then (-10800000:Int) else z) (ehi:hi=if g≠0 then (10800000:Int) else y):lo=(lonF b L H).1∧hi=(lonF b L H).2:=by
 rw [Go.IntWalk.i64_in _ (by omega)] at e1
 rw [Go.IntWalk.i64_in _ (by omega)] at e2
 rw [Go.IntWalk.i64_in _ (by omega)] at ew
 have S:=sgd_node (x:=n1) (by omega) em ec eu er eg2 es ez
 have sb:=sgd_bd n1
 rw [Go.IntWalk.i64_in _ (by omega)] at ex
 rw [Go.IntWalk.i64_in _ (by omega)] at ey
 unfold lonF
 rw [elo,ehi,eg,b2i_dec2,b2i_dec2]
 by_cases q:H - L≥21600000
 · simp [if_pos (show w≥21600000 by omega),if_pos q]
 · simp only [if_neg (show ¬ w≥21600000 by omega),if_neg q]
   refine ⟨by rw [S,e1],?_⟩
   show y=sgd (b+L)+(H - L)
   rw [← e1,← S]
   omega
abbrev crA (a b c d:Int):Prop:=(crsV a b c d).getD 0 0=0∧(crsV a b c d).getD 1 0=21600000
def vS (a b c d:Int):IV:=uS ((crsV a b c d).getD 0 0) ((crsV a b c d).getD 1 0)
def vK (a b c d:Int):IV:=uC ((crsV a b c d).getD 0 0) ((crsV a b c d).getD 1 0)
def vN (a b c d:Int):IV:=uAbs (uM (vS a b c d) (uC a a))
def vM (a b c d:Int):IV:=uM (uS a a) (vS a b c d)
def vB (k m:IV):Int × Int:=(bearL k.1 k.2 m.1 m.2,bearH k.1 k.2 m.1 m.2)
def vLon (a b c d:Int):Int × Int :=
 if (vS a b c d).1 > 0∨(vS a b c d).2 < 0 then lonF b (vB (uT2 ((vS a b c d).2 < 0) (vK a b c d)) (uT2 ((vS a b c d).2 < 0) (vM a b c d))).1 (vB (uT2 ((vS a b c d).2 < 0) (vK a b c d)) (uT2 ((vS a b c d).2 < 0) (vM a b c d))).2 else (-10800000,10800000)
def verV (a b c d:Int):List Int:=if crA a b c d then [0,0,0,0,21] else [acoL (vN a b c d).2,acoH (vN a b c d).1,(vLon a b c d).1,(vLon a b c d).2,0]
theorem vB_bd (k m:IV):0≤(vB k m).1∧(vB k m).1≤21599999∧(vB k m).1≤(vB k m).2∧(vB k m).2≤(vB k m).1+21600000:=bear_bd _ _ _ _
theorem crs_arc (a b c d:Int):arcV ((crsV a b c d).getD 0 0) ((crsV a b c d).getD 1 0)=true:=by
 have:=crs_bd a b c d
 exact (arcV_iff _ _).2 (by omega)
def nd_pVer:List Nd:=[
 .arg 0,
 .arg 1,
 .arg 2,
 .arg 3,
 .app 75 0 [.n 0,.n 1,.n 2,.n 3],
 .app 75 1 [.n 0,.n 1,.n 2,.n 3],
 .app 75 2 [.n 0,.n 1,.n 2,.n 3],
 .app 75 3 [.n 0,.n 1,.n 2,.n 3],
 .app 75 4 [.n 0,.n 1,.n 2,.n 3],
 .bin .neq .i64 (.n 8) (.c 0),
 .bin .eql .i64 (.n 4) (.c 0),
 .bin .eql .i64 (.n 5) (.c 21600000),
 .ite (.n 10) (.n 11) (.c 0),
 .ite (.n 12) (.c 0) (.c 1),
 .ite (.n 9) (.c 0) (.c 1),
 .ite (.n 14) (.n 13) (.c 0),
 .ite (.n 14) (.n 12) (.c 0),
 .ite (.n 9) (.c 1) (.n 16),
 .ite (.n 9) (.n 8) (.c 21),
 .ite (.n 17) (.c 1) (.n 15),
 .ite (.n 17) (.n 18) (.c 0),
 .ite (.n 17) (.c 0) (.n 4),
 .ite (.n 17) (.c 0) (.n 5),
 .bin .neq .i64 (.n 20) (.c 0),
 .ite (.n 23) (.c 0) (.c 1),
 .app 5 0 [.n 21,.n 22],
 .app 5 1 [.n 21,.n 22],
 .app 5 2 [.n 21,.n 22],
 .app 6 0 [.n 0,.n 0],
 .app 6 1 [.n 0,.n 0],
 .app 6 2 [.n 0,.n 0],
 .bin .eql .i64 (.n 27) (.c 0),
 .ite (.n 31) (.c 0) (.c 1),
 .ite (.n 31) (.n 30) (.n 27),
 .app 0 0 [.n 25,.n 26,.n 28,.n 29],
 .app 0 1 [.n 25,.n 26,.n 28,.n 29],
 .app 0 2 [.n 25,.n 26,.n 28,.n 29],
 .bin .eql .i64 (.n 33) (.c 0),
 .ite (.n 37) (.c 0) (.c 1),
 .ite (.n 37) (.n 36) (.n 33),
 .bin .geq .i64 (.n 34) (.c 0),
 .bin .leq .i64 (.n 35) (.c 0),
 .bin .sub .i64 (.c 0) (.n 35),
 .bin .sub .i64 (.c 0) (.n 34),
 .ite (.n 41) (.c 0) (.c 1),
 .ite (.n 40) (.c 0) (.c 1),
 .ite (.n 45) (.n 44) (.c 0),
 .ite (.n 45) (.n 41) (.c 0),
 .ite (.n 40) (.c 1) (.n 47),
 .ite (.n 40) (.n 34) (.n 42),
 .ite (.n 40) (.n 35) (.n 43),
 .mx (.n 43) (.n 35),
 .ite (.n 48) (.c 1) (.n 46),
 .ite (.n 48) (.n 49) (.c 0),
 .ite (.n 48) (.n 50) (.n 51),
 .app 46 0 [.n 53,.n 54],
 .app 46 1 [.n 53,.n 54],
 .app 46 2 [.n 53,.n 54],
 .bin .eql .i64 (.n 39) (.c 0),
 .ite (.n 58) (.c 0) (.c 1),
 .ite (.n 58) (.n 57) (.n 39),
 .app 6 0 [.n 21,.n 22],
 .app 6 1 [.n 21,.n 22],
 .app 6 2 [.n 21,.n 22],
 .bin .eql .i64 (.n 60) (.c 0),
 .ite (.n 64) (.c 0) (.c 1),
 .ite (.n 64) (.n 63) (.n 60),
 .app 5 0 [.n 0,.n 0],
 .app 5 1 [.n 0,.n 0],
 .app 5 2 [.n 0,.n 0],
 .bin .eql .i64 (.n 66) (.c 0),
 .ite (.n 70) (.c 0) (.c 1),
 .ite (.n 70) (.n 69) (.n 66),
 .app 0 0 [.n 67,.n 68,.n 25,.n 26],
 .app 0 1 [.n 67,.n 68,.n 25,.n 26],
 .app 0 2 [.n 67,.n 68,.n 25,.n 26],
 .bin .eql .i64 (.n 72) (.c 0),
 .ite (.n 76) (.c 0) (.c 1),
 .ite (.n 76) (.n 75) (.n 72),
 .bin .lss .i64 (.n 26) (.c 0),
 .app 8 0 [.n 61,.n 62],
 .ite (.n 80) (.c 0) (.c 1),
 .ite (.n 81) (.c 0) (.c 1),
 .bin .sub .i64 (.c 0) (.n 62),
 .bin .sub .i64 (.c 0) (.n 61),
 .ite (.n 81) (.c 0) (.n 83),
 .ite (.n 81) (.c 0) (.n 84),
 .bin .eql .i64 (.n 78) (.c 0),
 .ite (.n 87) (.c 0) (.c 1),
 .ite (.n 87) (.n 81) (.n 78),
 .app 8 0 [.n 73,.n 74],
 .ite (.n 90) (.c 0) (.c 1),
 .ite (.n 91) (.c 0) (.c 1),
 .bin .sub .i64 (.c 0) (.n 74),
 .bin .sub .i64 (.c 0) (.n 73),
 .ite (.n 91) (.c 0) (.n 93),
 .ite (.n 91) (.c 0) (.n 94),
 .bin .eql .i64 (.n 89) (.c 0),
 .ite (.n 97) (.c 0) (.c 1),
 .ite (.n 97) (.n 91) (.n 89),
 .ite (.n 79) (.c 0) (.c 1),
 .ite (.n 79) (.n 95) (.n 73),
 .ite (.n 79) (.n 96) (.n 74),
 .ite (.n 79) (.n 85) (.n 61),
 .ite (.n 79) (.n 86) (.n 62),
 .ite (.n 79) (.n 99) (.n 78),
 .bin .gtr .i64 (.n 25) (.c 0),
 .ite (.n 106) (.c 1) (.n 79),
 .app 7 0 [.n 103,.n 104,.n 101,.n 102],
 .app 7 1 [.n 103,.n 104,.n 101,.n 102],
 .app 7 2 [.n 103,.n 104,.n 101,.n 102],
 .bin .eql .i64 (.n 105) (.c 0),
 .ite (.n 111) (.c 0) (.c 1),
 .ite (.n 111) (.n 110) (.n 105),
 .bin .add .i64 (.n 1) (.n 108),
 .bin .add .i64 (.n 1) (.n 109),
 .bin .sub .i64 (.n 115) (.n 114),
 .bin .geq .i64 (.n 116) (.c 21600000),
 .ite (.n 117) (.c 0) (.c 1),
 .bin .rem .i64 (.n 114) (.c 21600000),
 .bin .lss .i64 (.n 119) (.c 0),
 .bin .add .i64 (.n 119) (.c 21600000),
 .ite (.n 120) (.c 0) (.c 1),
 .ite (.n 120) (.n 121) (.n 119),
 .bin .geq .i64 (.n 123) (.c 10800000),
 .bin .sub .i64 (.n 123) (.c 21600000),
 .ite (.n 124) (.c 0) (.c 1),
 .ite (.n 124) (.n 125) (.n 123),
 .bin .add .i64 (.n 127) (.n 115),
 .bin .sub .i64 (.n 128) (.n 114),
 .ite (.n 117) (.c (-10800000)) (.n 127),
 .ite (.n 117) (.c 10800000) (.n 129),
 .ite (.n 107) (.c 0) (.c 1),
 .ite (.n 107) (.n 130) (.c (-10800000)),
 .ite (.n 107) (.n 131) (.c 10800000),
 .ite (.n 107) (.n 113) (.n 105),
 .bin .neq .i64 (.n 135) (.c 0),
 .ite (.n 136) (.c 0) (.c 1),
 .ite (.n 136) (.n 135) (.c 0),
 .ite (.n 136) (.c 0) (.n 55),
 .ite (.n 136) (.c 0) (.n 56),
 .ite (.n 136) (.c 0) (.n 133),
 .ite (.n 136) (.c 0) (.n 134),
 .ite (.n 23) (.n 20) (.n 138),
 .ite (.n 23) (.c 0) (.n 139),
 .ite (.n 23) (.c 0) (.n 140),
 .ite (.n 23) (.c 0) (.n 141),
 .ite (.n 23) (.c 0) (.n 142)]
def vc_pVer:List Vc:=[
 ⟨[],.pre 75 [.n 0,.n 1,.n 2,.n 3]⟩,
 ⟨[(.n 24,true)],.pre 5 [.n 21,.n 22]⟩,
 ⟨[(.n 24,true)],.pre 6 [.n 0,.n 0]⟩,
 ⟨[(.n 24,true)],.pre 0 [.n 25,.n 26,.n 28,.n 29]⟩,
 ⟨[(.n 24,true)],.pre 46 [.n 53,.n 54]⟩,
 ⟨[(.n 24,true)],.pre 6 [.n 21,.n 22]⟩,
 ⟨[(.n 24,true)],.pre 5 [.n 0,.n 0]⟩,
 ⟨[(.n 24,true)],.pre 0 [.n 67,.n 68,.n 25,.n 26]⟩,
 ⟨[(.n 79,true),(.n 24,true)],.pre 8 [.n 61,.n 62]⟩,
 ⟨[(.n 79,true),(.n 24,true)],.pre 8 [.n 73,.n 74]⟩,
 ⟨[(.n 107,true),(.n 24,true)],.pre 7 [.n 103,.n 104,.n 101,.n 102]⟩]
theorem wh_pVer:whole Tryz.prog spV 20 40 39 [(true,[some .i64,some .i64]),(true,[some .i64,some .i64])]=some (.tup [.agg [.int .i64 (.n 144),.int .i64 (.n 145),.int .i64 (.n 146),.int .i64 (.n 147)],.c (.int .i64 (.n 143))],⟨nd_pVer.reverse,vc_pVer.reverse⟩):=by kernel_rfl
theorem wf_pVer:wfN nd_pVer.reverse=true:=by kernel_rfl
set_option maxRecDepth 100000 in
set_option maxHeartbeats 8000000 in
theorem c_pVer (a b c d:Int) (w:World) (h1:PtV a b) (h2:PtV c d):Calls Tryz.prog 39 #[.agg #[.int .i64 a,.int .i64 b],.agg #[.int .i64 c,.int .i64 d]] w fun e w'=>e=.returned (.tuple #[.agg #[.int .i64 ((verV a b c d).getD 0 0),.int .i64 ((verV a b c d).getD 1 0),.int .i64 ((verV a b c d).getD 2 0),.int .i64 ((verV a b c d).getD 3 0)],.int .i64 ((verV a b c d).getD 4 0)])∧Below w.heap.size w w':=by
 refine Sx.calls (X:=cxV [a,b,c,d]) hmix (spV_ok _) wh_pVer wf_pVer (fun v hs=>?_) w
 have e0:v 0=a:=satF hs 0 rfl
 have e1:v 1=b:=satF hs 1 rfl
 have e2:v 2=c:=satF hs 2 rfl
 have e3:v 3=d:=satF hs 3 rfl
 have e4:v 4=(semV 75 [v 0,v 1,v 2,v 3]).getD 0 0:=satF hs 4 rfl
 have e5:v 5=(semV 75 [v 0,v 1,v 2,v 3]).getD 1 0:=satF hs 5 rfl
 have e8:v 8=(semV 75 [v 0,v 1,v 2,v 3]).getD 4 0:=satF hs 8 rfl
 have e10:v 10=b2i (v 4 == (0:Int)):=satF hs 10 rfl
 have e11:v 11=b2i (v 5 == (21600000:Int)):=satF hs 11 rfl
 have e12:v 12=if v 10≠0 then v 11 else (0:Int):=satF hs 12 rfl
 have IV0:invV (v 0) (v 1) (v 2) (v 3)=[(crsV a b c d).getD 0 0,(crsV a b c d).getD 1 0,(dstV a b c d).getD 0 0,(dstV a b c d).getD 1 0,0]:=by rw [e0,e1,e2,e3];exact if_pos ⟨h1,h2⟩
 have w4:v 4=(crsV a b c d).getD 0 0:=e4.trans (by show (invV (v 0) (v 1) (v 2) (v 3)).getD 0 0=_;rw [IV0];rfl)
 have w5:v 5=(crsV a b c d).getD 1 0:=e5.trans (by show (invV (v 0) (v 1) (v 2) (v 3)).getD 1 0=_;rw [IV0];rfl)
 have E8:v 8=0:=e8.trans (by show (invV (v 0) (v 1) (v 2) (v 3)).getD 4 0=_;rw [IV0];rfl)
 have Q12:v 12=b2i (decide (crA a b c d)):=by
  rw [e12,e10,e11,show (v 4 == (0:Int))=decide (v 4=0) from rfl,show (v 5 == (21600000:Int))=decide (v 5=21600000) from rfl,bb2,w4,w5]
 have CB:=crs_bd a b c d
 have CA:=crs_arc a b c d
 have wA0:arcV (v 0) (v 0)=true:=by rw [e0];exact arc_one (by omega)
 rcases two_ofV Q12 with ⟨g,u⟩ | ⟨g,u⟩
 · have z24:v 24=0:=norm_val (X:=cxV [a,b,c,d]) (v:=v) (l:=nd_pVer) (extV_ok _) hs (k:=24) (r:=.c 0) (ps:=[(8,.c 0),(12,.c 1)]) (nz:=[]) (ps_cons E8 (ps_cons u ps_nil)) nz_nil (by kernel_rfl)
   have z143:v 143=21:=norm_val (X:=cxV [a,b,c,d]) (v:=v) (l:=nd_pVer) (extV_ok _) hs (k:=143) (r:=.c 21) (ps:=[(8,.c 0),(12,.c 1)]) (nz:=[]) (ps_cons E8 (ps_cons u ps_nil)) nz_nil (by kernel_rfl)
   have z144:v 144=0:=norm_val (X:=cxV [a,b,c,d]) (v:=v) (l:=nd_pVer) (extV_ok _) hs (k:=144) (r:=.c 0) (ps:=[(8,.c 0),(12,.c 1)]) (nz:=[]) (ps_cons E8 (ps_cons u ps_nil)) nz_nil (by kernel_rfl)
   have z145:v 145=0:=norm_val (X:=cxV [a,b,c,d]) (v:=v) (l:=nd_pVer) (extV_ok _) hs (k:=145) (r:=.c 0) (ps:=[(8,.c 0),(12,.c 1)]) (nz:=[]) (ps_cons E8 (ps_cons u ps_nil)) nz_nil (by kernel_rfl)
   have z146:v 146=0:=norm_val (X:=cxV [a,b,c,d]) (v:=v) (l:=nd_pVer) (extV_ok _) hs (k:=146) (r:=.c 0) (ps:=[(8,.c 0),(12,.c 1)]) (nz:=[]) (ps_cons E8 (ps_cons u ps_nil)) nz_nil (by kernel_rfl)
   have z147:v 147=0:=norm_val (X:=cxV [a,b,c,d]) (v:=v) (l:=nd_pVer) (extV_ok _) hs (k:=147) (r:=.c 0) (ps:=[(8,.c 0),(12,.c 1)]) (nz:=[]) (ps_cons E8 (ps_cons u ps_nil)) nz_nil (by kernel_rfl)
   refine ⟨vcs_rev ?_,?_⟩
   · exact vcs_cons (fun _=>trivial) (vcs_cons (fun hp=>absurd z24 (pt_true hp).1) (vcs_cons (fun hp=>absurd z24 (pt_true hp).1) (vcs_cons (fun hp=>absurd z24 (pt_true hp).1) (vcs_cons (fun hp=>absurd z24 (pt_true hp).1) (vcs_cons (fun hp=>absurd z24 (pt_true hp).1) (vcs_cons (fun hp=>absurd z24 (pt_true hp).1) (vcs_cons (fun hp=>absurd z24 (pt_true hp).1) (vcs_cons (fun hp=>absurd z24 (pt_true (pt_true hp).2).1) (vcs_cons (fun hp=>absurd z24 (pt_true (pt_true hp).2).1) (vcs_cons (fun hp=>absurd z24 (pt_true (pt_true hp).2).1) (vcs_nil)))))))))))
   · intro x hx0
     have hx':=valV_of (v:=v) (by rfl) hx0
     rw [hx']
     show Value.tuple #[.agg #[.int .i64 (v 144),.int .i64 (v 145),.int .i64 (v 146),.int .i64 (v 147)],.int .i64 (v 143)]=_
     have V:verV a b c d=[0,0,0,0,21]:=if_pos g
     rw [z143,z144,z145,z146,z147,V];rfl
 · have z21:v 21=v 4:=norm_eq2 (X:=cxV [a,b,c,d]) (v:=v) (l:=nd_pVer) (extV_ok _) hs (k:=21) (j:=4) (ps:=[(8,.c 0),(12,.c 0)]) (ps_cons E8 (ps_cons u ps_nil)) (by kernel_rfl)
   have z22:v 22=v 5:=norm_eq2 (X:=cxV [a,b,c,d]) (v:=v) (l:=nd_pVer) (extV_ok _) hs (k:=22) (j:=5) (ps:=[(8,.c 0),(12,.c 0)]) (ps_cons E8 (ps_cons u ps_nil)) (by kernel_rfl)
   have w21:v 21=(crsV a b c d).getD 0 0:=z21.trans w4
   have w22:v 22=(crsV a b c d).getD 1 0:=z22.trans w5
   have wA1:arcV (v 21) (v 22)=true:=by rw [w21,w22];exact CA
   have e25:v 25=(semB 5 [v 21,v 22]).getD 0 0:=satF hs 25 rfl
   have e26:v 26=(semB 5 [v 21,v 22]).getD 1 0:=satF hs 26 rfl
   have P25:((v 25,v 26):IV)=uS (v 21) (v 22):=by rw [e25,e26];rfl
   have U25:U (v 25,v 26):=by rw [P25];exact U_S _ _
   have e61:v 61=(semB 6 [v 21,v 22]).getD 0 0:=satF hs 61 rfl
   have e62:v 62=(semB 6 [v 21,v 22]).getD 1 0:=satF hs 62 rfl
   have P61:((v 61,v 62):IV)=uC (v 21) (v 22):=by rw [e61,e62];rfl
   have U61:U (v 61,v 62):=by rw [P61];exact U_C _ _
   have e28:v 28=(semB 6 [v 0,v 0]).getD 0 0:=satF hs 28 rfl
   have e29:v 29=(semB 6 [v 0,v 0]).getD 1 0:=satF hs 29 rfl
   have P28:((v 28,v 29):IV)=uC (v 0) (v 0):=by rw [e28,e29];rfl
   have U28:U (v 28,v 29):=by rw [P28];exact U_C _ _
   have e67:v 67=(semB 5 [v 0,v 0]).getD 0 0:=satF hs 67 rfl
   have e68:v 68=(semB 5 [v 0,v 0]).getD 1 0:=satF hs 68 rfl
   have P67:((v 67,v 68):IV)=uS (v 0) (v 0):=by rw [e67,e68];rfl
   have U67:U (v 67,v 68):=by rw [P67];exact U_S _ _
   have e34:v 34=(semB 0 [v 25,v 26,v 28,v 29]).getD 0 0:=satF hs 34 rfl
   have e35:v 35=(semB 0 [v 25,v 26,v 28,v 29]).getD 1 0:=satF hs 35 rfl
   have P34:((v 34,v 35):IV)=uM (v 25,v 26) (v 28,v 29):=by rw [e34,e35];rfl
   have U34:U (v 34,v 35):=by rw [P34];exact (U_M U25 U28).2.2
   have e36:v 36=(semB 0 [v 25,v 26,v 28,v 29]).getD 2 0:=satF hs 36 rfl
   have E36:v 36=0:=e36.trans (U_M U25 U28).2.1
   have e73:v 73=(semB 0 [v 67,v 68,v 25,v 26]).getD 0 0:=satF hs 73 rfl
   have e74:v 74=(semB 0 [v 67,v 68,v 25,v 26]).getD 1 0:=satF hs 74 rfl
   have P73:((v 73,v 74):IV)=uM (v 67,v 68) (v 25,v 26):=by rw [e73,e74];rfl
   have U73:U (v 73,v 74):=by rw [P73];exact (U_M U67 U25).2.2
   have e75:v 75=(semB 0 [v 67,v 68,v 25,v 26]).getD 2 0:=satF hs 75 rfl
   have E75:v 75=0:=e75.trans (U_M U67 U25).2.1
   have e40:v 40=b2i (decide (v 34≥(0:Int))):=satF hs 40 rfl
   have e41:v 41=b2i (decide (v 35≤(0:Int))):=satF hs 41 rfl
   have e42:v 42=IntKind.i64.wrap ((0:Int) - v 35):=satF hs 42 rfl
   have e43:v 43=IntKind.i64.wrap ((0:Int) - v 34):=satF hs 43 rfl
   have e51:v 51=if v 35 > v 43 then v 35 else v 43:=satF hs 51 rfl
   have e55:v 55=(semA 46 [v 53,v 54]).getD 0 0:=satF hs 55 rfl
   have e56:v 56=(semA 46 [v 53,v 54]).getD 1 0:=satF hs 56 rfl
   have e79:v 79=b2i (decide (v 26 < (0:Int))):=satF hs 79 rfl
   have e80:v 80=b2i (fxV (v 61) (v 62)):=satF hs 80 rfl
   have e83:v 83=IntKind.i64.wrap ((0:Int) - v 62):=satF hs 83 rfl
   have e84:v 84=IntKind.i64.wrap ((0:Int) - v 61):=satF hs 84 rfl
   have e90:v 90=b2i (fxV (v 73) (v 74)):=satF hs 90 rfl
   have e93:v 93=IntKind.i64.wrap ((0:Int) - v 74):=satF hs 93 rfl
   have e94:v 94=IntKind.i64.wrap ((0:Int) - v 73):=satF hs 94 rfl
   have e106:v 106=b2i (decide (v 25 > (0:Int))):=satF hs 106 rfl
   have e108:v 108=(semB 7 [v 103,v 104,v 101,v 102]).getD 0 0:=satF hs 108 rfl
   have e109:v 109=(semB 7 [v 103,v 104,v 101,v 102]).getD 1 0:=satF hs 109 rfl
   have s0:v 25=(vS a b c d).1:=by rw [show v 25=(uS (v 21) (v 22)).1 from congrArg Prod.fst P25,w21,w22];rfl
   have s1:v 26=(vS a b c d).2:=by rw [show v 26=(uS (v 21) (v 22)).2 from congrArg Prod.snd P25,w21,w22];rfl
   have PK:((v 61,v 62):IV)=vK a b c d:=by rw [P61,w21,w22];rfl
   have PM:((v 73,v 74):IV)=vM a b c d:=by rw [P73,P67,P25,w21,w22,e0];rfl
   have PN:((v 34,v 35):IV)=uM (vS a b c d) (uC a a):=by rw [P34,P25,P28,w21,w22,e0];rfl
   have u34:=U34
   have u73:=U73
   have u61:=U61
   unfold U at u34 u73 u61
   simp only at u34 u73 u61
   have w42:v 42=-v 35:=by rw [e42,Go.IntWalk.i64_in _ (by omega)];omega
   have w43:v 43=-v 34:=by rw [e43,Go.IntWalk.i64_in _ (by omega)];omega
   have w51:v 51=max (-v 34) (v 35):=by rw [e51,w43];omega
   have w83:v 83=-v 62:=by rw [e83,Go.IntWalk.i64_in _ (by omega)];omega
   have w84:v 84=-v 61:=by rw [e84,Go.IntWalk.i64_in _ (by omega)];omega
   have w93:v 93=-v 74:=by rw [e93,Go.IntWalk.i64_in _ (by omega)];omega
   have w94:v 94=-v 73:=by rw [e94,Go.IntWalk.i64_in _ (by omega)];omega
   have A80:v 80=1:=by rw [e80,show fxV (v 61) (v 62)=true from U_fx U61];rfl
   have A90:v 90=1:=by rw [e90,show fxV (v 73) (v 74)=true from U_fx U73];rfl
   have AB:((v 53,v 54):IV)=uAbs (v 34,v 35):=by
    unfold uAbs
    rcases two_ofV e40 with ⟨g1,u1⟩ | ⟨g1,u1⟩
    · have z53:v 53=v 34:=norm_eq2 (X:=cxV [a,b,c,d]) (v:=v) (l:=nd_pVer) (extV_ok _) hs (k:=53) (j:=34) (ps:=[(8,.c 0),(12,.c 0),(36,.c 0),(40,.c 1),(75,.c 0),(80,.c 1),(90,.c 1)]) (ps_cons E8 (ps_cons u (ps_cons E36 (ps_cons u1 (ps_cons E75 (ps_cons A80 (ps_cons A90 ps_nil))))))) (by kernel_rfl)
      have z54:v 54=v 35:=norm_eq2 (X:=cxV [a,b,c,d]) (v:=v) (l:=nd_pVer) (extV_ok _) hs (k:=54) (j:=35) (ps:=[(8,.c 0),(12,.c 0),(36,.c 0),(40,.c 1),(75,.c 0),(80,.c 1),(90,.c 1)]) (ps_cons E8 (ps_cons u (ps_cons E36 (ps_cons u1 (ps_cons E75 (ps_cons A80 (ps_cons A90 ps_nil))))))) (by kernel_rfl)
      rw [if_pos g1,z53,z54]
    · rw [if_neg g1]
      rcases two_ofV e41 with ⟨g2,u2⟩ | ⟨g2,u2⟩
      · have z53:v 53=v 42:=norm_eq2 (X:=cxV [a,b,c,d]) (v:=v) (l:=nd_pVer) (extV_ok _) hs (k:=53) (j:=42) (ps:=[(8,.c 0),(12,.c 0),(36,.c 0),(40,.c 0),(41,.c 1),(75,.c 0),(80,.c 1),(90,.c 1)]) (ps_cons E8 (ps_cons u (ps_cons E36 (ps_cons u1 (ps_cons u2 (ps_cons E75 (ps_cons A80 (ps_cons A90 ps_nil)))))))) (by kernel_rfl)
        have z54:v 54=v 43:=norm_eq2 (X:=cxV [a,b,c,d]) (v:=v) (l:=nd_pVer) (extV_ok _) hs (k:=54) (j:=43) (ps:=[(8,.c 0),(12,.c 0),(36,.c 0),(40,.c 0),(41,.c 1),(75,.c 0),(80,.c 1),(90,.c 1)]) (ps_cons E8 (ps_cons u (ps_cons E36 (ps_cons u1 (ps_cons u2 (ps_cons E75 (ps_cons A80 (ps_cons A90 ps_nil)))))))) (by kernel_rfl)
        rw [if_pos g2,z53,z54,w42,w43];rfl
      · have z53:v 53=0:=norm_val (X:=cxV [a,b,c,d]) (v:=v) (l:=nd_pVer) (extV_ok _) hs (k:=53) (r:=.c 0) (ps:=[(8,.c 0),(12,.c 0),(36,.c 0),(40,.c 0),(41,.c 0),(75,.c 0),(80,.c 1),(90,.c 1)]) (nz:=[]) (ps_cons E8 (ps_cons u (ps_cons E36 (ps_cons u1 (ps_cons u2 (ps_cons E75 (ps_cons A80 (ps_cons A90 ps_nil)))))))) nz_nil (by kernel_rfl)
        have z54:v 54=v 51:=norm_eq2 (X:=cxV [a,b,c,d]) (v:=v) (l:=nd_pVer) (extV_ok _) hs (k:=54) (j:=51) (ps:=[(8,.c 0),(12,.c 0),(36,.c 0),(40,.c 0),(41,.c 0),(75,.c 0),(80,.c 1),(90,.c 1)]) (ps_cons E8 (ps_cons u (ps_cons E36 (ps_cons u1 (ps_cons u2 (ps_cons E75 (ps_cons A80 (ps_cons A90 ps_nil)))))))) (by kernel_rfl)
        rw [if_neg g2,z53,z54,w51]
   have UA:=U_abs U34
   rw [← AB] at UA
   simp only at UA
   have n0:v 53=(vN a b c d).1:=by rw [show v 53=(uAbs (v 34,v 35)).1 from congrArg Prod.fst AB,PN];rfl
   have n1:v 54=(vN a b c d).2:=by rw [show v 54=(uAbs (v 34,v 35)).2 from congrArg Prod.snd AB,PN];rfl
   have V0:v 55=acoL (v 54):=e55.trans (acV46 _ _).1
   have V1:v 56=acoH (v 53):=e56.trans (acV46 _ _).2.1
   have P46:fxV (v 53) (v 54)=true∧v 53≤1073741824∧-1073741824≤v 54:=by rw [fxV_iff];omega
   have SG:=two_ofV e79
   have BX:(v 103,v 104,v 101,v 102)=((uT2 (v 26 < 0) (v 61,v 62)).1,(uT2 (v 26 < 0) (v 61,v 62)).2,(uT2 (v 26 < 0) (v 73,v 74)).1,(uT2 (v 26 < 0) (v 73,v 74)).2):=by
    unfold uT2
    rcases SG with ⟨g3,u3⟩ | ⟨g3,u3⟩
    · have z103:v 103=v 83:=norm_eq2 (X:=cxV [a,b,c,d]) (v:=v) (l:=nd_pVer) (extV_ok _) hs (k:=103) (j:=83) (ps:=[(8,.c 0),(12,.c 0),(36,.c 0),(75,.c 0),(79,.c 1),(80,.c 1),(90,.c 1)]) (ps_cons E8 (ps_cons u (ps_cons E36 (ps_cons E75 (ps_cons u3 (ps_cons A80 (ps_cons A90 ps_nil))))))) (by kernel_rfl)
      have z104:v 104=v 84:=norm_eq2 (X:=cxV [a,b,c,d]) (v:=v) (l:=nd_pVer) (extV_ok _) hs (k:=104) (j:=84) (ps:=[(8,.c 0),(12,.c 0),(36,.c 0),(75,.c 0),(79,.c 1),(80,.c 1),(90,.c 1)]) (ps_cons E8 (ps_cons u (ps_cons E36 (ps_cons E75 (ps_cons u3 (ps_cons A80 (ps_cons A90 ps_nil))))))) (by kernel_rfl)
      have z101:v 101=v 93:=norm_eq2 (X:=cxV [a,b,c,d]) (v:=v) (l:=nd_pVer) (extV_ok _) hs (k:=101) (j:=93) (ps:=[(8,.c 0),(12,.c 0),(36,.c 0),(75,.c 0),(79,.c 1),(80,.c 1),(90,.c 1)]) (ps_cons E8 (ps_cons u (ps_cons E36 (ps_cons E75 (ps_cons u3 (ps_cons A80 (ps_cons A90 ps_nil))))))) (by kernel_rfl)
      have z102:v 102=v 94:=norm_eq2 (X:=cxV [a,b,c,d]) (v:=v) (l:=nd_pVer) (extV_ok _) hs (k:=102) (j:=94) (ps:=[(8,.c 0),(12,.c 0),(36,.c 0),(75,.c 0),(79,.c 1),(80,.c 1),(90,.c 1)]) (ps_cons E8 (ps_cons u (ps_cons E36 (ps_cons E75 (ps_cons u3 (ps_cons A80 (ps_cons A90 ps_nil))))))) (by kernel_rfl)
      rw [if_pos g3,if_pos g3,z103,z104,z101,z102,w83,w84,w93,w94];rfl
    · have z103:v 103=v 61:=norm_eq2 (X:=cxV [a,b,c,d]) (v:=v) (l:=nd_pVer) (extV_ok _) hs (k:=103) (j:=61) (ps:=[(8,.c 0),(12,.c 0),(36,.c 0),(75,.c 0),(79,.c 0),(80,.c 1),(90,.c 1)]) (ps_cons E8 (ps_cons u (ps_cons E36 (ps_cons E75 (ps_cons u3 (ps_cons A80 (ps_cons A90 ps_nil))))))) (by kernel_rfl)
      have z104:v 104=v 62:=norm_eq2 (X:=cxV [a,b,c,d]) (v:=v) (l:=nd_pVer) (extV_ok _) hs (k:=104) (j:=62) (ps:=[(8,.c 0),(12,.c 0),(36,.c 0),(75,.c 0),(79,.c 0),(80,.c 1),(90,.c 1)]) (ps_cons E8 (ps_cons u (ps_cons E36 (ps_cons E75 (ps_cons u3 (ps_cons A80 (ps_cons A90 ps_nil))))))) (by kernel_rfl)
      have z101:v 101=v 73:=norm_eq2 (X:=cxV [a,b,c,d]) (v:=v) (l:=nd_pVer) (extV_ok _) hs (k:=101) (j:=73) (ps:=[(8,.c 0),(12,.c 0),(36,.c 0),(75,.c 0),(79,.c 0),(80,.c 1),(90,.c 1)]) (ps_cons E8 (ps_cons u (ps_cons E36 (ps_cons E75 (ps_cons u3 (ps_cons A80 (ps_cons A90 ps_nil))))))) (by kernel_rfl)
      have z102:v 102=v 74:=norm_eq2 (X:=cxV [a,b,c,d]) (v:=v) (l:=nd_pVer) (extV_ok _) hs (k:=102) (j:=74) (ps:=[(8,.c 0),(12,.c 0),(36,.c 0),(75,.c 0),(79,.c 0),(80,.c 1),(90,.c 1)]) (ps_cons E8 (ps_cons u (ps_cons E36 (ps_cons E75 (ps_cons u3 (ps_cons A80 (ps_cons A90 ps_nil))))))) (by kernel_rfl)
      rw [if_neg g3,if_neg g3,z103,z104,z101,z102]
   have b0:=congrArg Prod.fst BX
   have b1:=congrArg (fun x:Int × Int × Int × Int=>x.2.1) BX
   have b2:=congrArg (fun x:Int × Int × Int × Int=>x.2.2.1) BX
   have b3:=congrArg (fun x:Int × Int × Int × Int=>x.2.2.2) BX
   simp only at b0 b1 b2 b3
   have FB:fxV (v 103) (v 104)=true:=by rw [b0,b1];exact U_fx (U_T2 U61)
   have GB:fxV (v 101) (v 102)=true:=by rw [b2,b3];exact U_fx (U_T2 U73)
   have B0:v 108=(vB (uT2 ((vS a b c d).2 < 0) (vK a b c d)) (uT2 ((vS a b c d).2 < 0) (vM a b c d))).1:=by
    rw [show v 108=bearL (v 103) (v 104) (v 101) (v 102) from e108,b0,b1,b2,b3,PK,PM,s1];rfl
   have B1:v 109=(vB (uT2 ((vS a b c d).2 < 0) (vK a b c d)) (uT2 ((vS a b c d).2 < 0) (vM a b c d))).2:=by
    rw [show v 109=bearH (v 103) (v 104) (v 101) (v 102) from e109,b0,b1,b2,b3,PK,PM,s1];rfl
   have BB:=vB_bd (uT2 ((vS a b c d).2 < 0) (vK a b c d)) (uT2 ((vS a b c d).2 < 0) (vM a b c d))
   rw [← B0,← B1] at BB
   have LO:=lon_node (b:=v 1) (L:=v 108) (H:=v 109) (n1:=v 114) (n2:=v 115) (w:=v 116) (g:=v 117) (m:=v 119) (c:=v 120) (u:=v 121) (r:=v 123) (g2:=v 124) (sb:=v 125) (z:=v 127) (x:=v 128) (y:=v 129) (lo:=v 130) (hi:=v 131) (by rw [e1];exact h1.2) BB (satF hs 114 rfl) (satF hs 115 rfl) (satF hs 116 rfl) (satF hs 117 rfl) (satF hs 119 rfl) (satF hs 120 rfl) (satF hs 121 rfl) (satF hs 123 rfl) (satF hs 124 rfl) (satF hs 125 rfl) (satF hs 127 rfl) (satF hs 128 rfl) (satF hs 129 rfl) (satF hs 130 rfl) (satF hs 131 rfl)
   rw [B0,B1,e1] at LO
   have V:verV a b c d=[acoL (vN a b c d).2,acoH (vN a b c d).1,(vLon a b c d).1,(vLon a b c d).2,0]:=if_neg g
   refine ⟨vcs_rev ?_,?_⟩
   · exact vcs_cons (fun _=>trivial) (vcs_cons (fun _=>wA1) (vcs_cons (fun _=>wA0) (vcs_cons (fun _=>⟨U_fx U25,U_fx U28⟩) (vcs_cons (fun _=>P46) (vcs_cons (fun _=>wA1) (vcs_cons (fun _=>wA0) (vcs_cons (fun _=>⟨U_fx U67,U_fx U25⟩) (vcs_cons (fun _=>trivial) (vcs_cons (fun _=>trivial) (vcs_cons (fun _=>⟨FB,GB⟩) (vcs_nil)))))))))))
   · intro x hx0
     have hx':=valV_of (v:=v) (by rfl) hx0
     rw [hx']
     show Value.tuple #[.agg #[.int .i64 (v 144),.int .i64 (v 145),.int .i64 (v 146),.int .i64 (v 147)],.int .i64 (v 143)]=_
     rcases SG with ⟨g3,u3⟩ | ⟨g3,u3⟩<;>rcases two_ofV e106 with ⟨g4,u4⟩ | ⟨g4,u4⟩
     · have z143:v 143=0:=norm_val (X:=cxV [a,b,c,d]) (v:=v) (l:=nd_pVer) (extV_ok _) hs (k:=143) (r:=.c 0) (ps:=[(8,.c 0),(12,.c 0),(36,.c 0),(75,.c 0),(79,.c 1),(80,.c 1),(90,.c 1),(106,.c 1)]) (nz:=[]) (ps_cons E8 (ps_cons u (ps_cons E36 (ps_cons E75 (ps_cons u3 (ps_cons A80 (ps_cons A90 (ps_cons u4 ps_nil)))))))) nz_nil (by kernel_rfl)
       have z144:v 144=v 55:=norm_eq2 (X:=cxV [a,b,c,d]) (v:=v) (l:=nd_pVer) (extV_ok _) hs (k:=144) (j:=55) (ps:=[(8,.c 0),(12,.c 0),(36,.c 0),(75,.c 0),(79,.c 1),(80,.c 1),(90,.c 1),(106,.c 1)]) (ps_cons E8 (ps_cons u (ps_cons E36 (ps_cons E75 (ps_cons u3 (ps_cons A80 (ps_cons A90 (ps_cons u4 ps_nil)))))))) (by kernel_rfl)
       have z145:v 145=v 56:=norm_eq2 (X:=cxV [a,b,c,d]) (v:=v) (l:=nd_pVer) (extV_ok _) hs (k:=145) (j:=56) (ps:=[(8,.c 0),(12,.c 0),(36,.c 0),(75,.c 0),(79,.c 1),(80,.c 1),(90,.c 1),(106,.c 1)]) (ps_cons E8 (ps_cons u (ps_cons E36 (ps_cons E75 (ps_cons u3 (ps_cons A80 (ps_cons A90 (ps_cons u4 ps_nil)))))))) (by kernel_rfl)
       have z146:v 146=v 130:=norm_eq2 (X:=cxV [a,b,c,d]) (v:=v) (l:=nd_pVer) (extV_ok _) hs (k:=146) (j:=130) (ps:=[(8,.c 0),(12,.c 0),(36,.c 0),(75,.c 0),(79,.c 1),(80,.c 1),(90,.c 1),(106,.c 1)]) (ps_cons E8 (ps_cons u (ps_cons E36 (ps_cons E75 (ps_cons u3 (ps_cons A80 (ps_cons A90 (ps_cons u4 ps_nil)))))))) (by kernel_rfl)
       have z147:v 147=v 131:=norm_eq2 (X:=cxV [a,b,c,d]) (v:=v) (l:=nd_pVer) (extV_ok _) hs (k:=147) (j:=131) (ps:=[(8,.c 0),(12,.c 0),(36,.c 0),(75,.c 0),(79,.c 1),(80,.c 1),(90,.c 1),(106,.c 1)]) (ps_cons E8 (ps_cons u (ps_cons E36 (ps_cons E75 (ps_cons u3 (ps_cons A80 (ps_cons A90 (ps_cons u4 ps_nil)))))))) (by kernel_rfl)
       have L:vLon a b c d=lonF b (vB (uT2 ((vS a b c d).2 < 0) (vK a b c d)) (uT2 ((vS a b c d).2 < 0) (vM a b c d))).1 (vB (uT2 ((vS a b c d).2 < 0) (vK a b c d)) (uT2 ((vS a b c d).2 < 0) (vM a b c d))).2:=if_pos (.inr (by rw [← s1];exact g3))
       rw [z143,z144,z145,z146,z147,V,V0,V1,n0,n1,LO.1,LO.2,L];rfl
     · have z143:v 143=0:=norm_val (X:=cxV [a,b,c,d]) (v:=v) (l:=nd_pVer) (extV_ok _) hs (k:=143) (r:=.c 0) (ps:=[(8,.c 0),(12,.c 0),(36,.c 0),(75,.c 0),(79,.c 1),(80,.c 1),(90,.c 1),(106,.c 0)]) (nz:=[]) (ps_cons E8 (ps_cons u (ps_cons E36 (ps_cons E75 (ps_cons u3 (ps_cons A80 (ps_cons A90 (ps_cons u4 ps_nil)))))))) nz_nil (by kernel_rfl)
       have z144:v 144=v 55:=norm_eq2 (X:=cxV [a,b,c,d]) (v:=v) (l:=nd_pVer) (extV_ok _) hs (k:=144) (j:=55) (ps:=[(8,.c 0),(12,.c 0),(36,.c 0),(75,.c 0),(79,.c 1),(80,.c 1),(90,.c 1),(106,.c 0)]) (ps_cons E8 (ps_cons u (ps_cons E36 (ps_cons E75 (ps_cons u3 (ps_cons A80 (ps_cons A90 (ps_cons u4 ps_nil)))))))) (by kernel_rfl)
       have z145:v 145=v 56:=norm_eq2 (X:=cxV [a,b,c,d]) (v:=v) (l:=nd_pVer) (extV_ok _) hs (k:=145) (j:=56) (ps:=[(8,.c 0),(12,.c 0),(36,.c 0),(75,.c 0),(79,.c 1),(80,.c 1),(90,.c 1),(106,.c 0)]) (ps_cons E8 (ps_cons u (ps_cons E36 (ps_cons E75 (ps_cons u3 (ps_cons A80 (ps_cons A90 (ps_cons u4 ps_nil)))))))) (by kernel_rfl)
       have z146:v 146=v 130:=norm_eq2 (X:=cxV [a,b,c,d]) (v:=v) (l:=nd_pVer) (extV_ok _) hs (k:=146) (j:=130) (ps:=[(8,.c 0),(12,.c 0),(36,.c 0),(75,.c 0),(79,.c 1),(80,.c 1),(90,.c 1),(106,.c 0)]) (ps_cons E8 (ps_cons u (ps_cons E36 (ps_cons E75 (ps_cons u3 (ps_cons A80 (ps_cons A90 (ps_cons u4 ps_nil)))))))) (by kernel_rfl)
       have z147:v 147=v 131:=norm_eq2 (X:=cxV [a,b,c,d]) (v:=v) (l:=nd_pVer) (extV_ok _) hs (k:=147) (j:=131) (ps:=[(8,.c 0),(12,.c 0),(36,.c 0),(75,.c 0),(79,.c 1),(80,.c 1),(90,.c 1),(106,.c 0)]) (ps_cons E8 (ps_cons u (ps_cons E36 (ps_cons E75 (ps_cons u3 (ps_cons A80 (ps_cons A90 (ps_cons u4 ps_nil)))))))) (by kernel_rfl)
       have L:vLon a b c d=lonF b (vB (uT2 ((vS a b c d).2 < 0) (vK a b c d)) (uT2 ((vS a b c d).2 < 0) (vM a b c d))).1 (vB (uT2 ((vS a b c d).2 < 0) (vK a b c d)) (uT2 ((vS a b c d).2 < 0) (vM a b c d))).2:=if_pos (.inr (by rw [← s1];exact g3))
       rw [z143,z144,z145,z146,z147,V,V0,V1,n0,n1,LO.1,LO.2,L];rfl
     · have z143:v 143=0:=norm_val (X:=cxV [a,b,c,d]) (v:=v) (l:=nd_pVer) (extV_ok _) hs (k:=143) (r:=.c 0) (ps:=[(8,.c 0),(12,.c 0),(36,.c 0),(75,.c 0),(79,.c 0),(80,.c 1),(90,.c 1),(106,.c 1)]) (nz:=[]) (ps_cons E8 (ps_cons u (ps_cons E36 (ps_cons E75 (ps_cons u3 (ps_cons A80 (ps_cons A90 (ps_cons u4 ps_nil)))))))) nz_nil (by kernel_rfl)
       have z144:v 144=v 55:=norm_eq2 (X:=cxV [a,b,c,d]) (v:=v) (l:=nd_pVer) (extV_ok _) hs (k:=144) (j:=55) (ps:=[(8,.c 0),(12,.c 0),(36,.c 0),(75,.c 0),(79,.c 0),(80,.c 1),(90,.c 1),(106,.c 1)]) (ps_cons E8 (ps_cons u (ps_cons E36 (ps_cons E75 (ps_cons u3 (ps_cons A80 (ps_cons A90 (ps_cons u4 ps_nil)))))))) (by kernel_rfl)
       have z145:v 145=v 56:=norm_eq2 (X:=cxV [a,b,c,d]) (v:=v) (l:=nd_pVer) (extV_ok _) hs (k:=145) (j:=56) (ps:=[(8,.c 0),(12,.c 0),(36,.c 0),(75,.c 0),(79,.c 0),(80,.c 1),(90,.c 1),(106,.c 1)]) (ps_cons E8 (ps_cons u (ps_cons E36 (ps_cons E75 (ps_cons u3 (ps_cons A80 (ps_cons A90 (ps_cons u4 ps_nil)))))))) (by kernel_rfl)
       have z146:v 146=v 130:=norm_eq2 (X:=cxV [a,b,c,d]) (v:=v) (l:=nd_pVer) (extV_ok _) hs (k:=146) (j:=130) (ps:=[(8,.c 0),(12,.c 0),(36,.c 0),(75,.c 0),(79,.c 0),(80,.c 1),(90,.c 1),(106,.c 1)]) (ps_cons E8 (ps_cons u (ps_cons E36 (ps_cons E75 (ps_cons u3 (ps_cons A80 (ps_cons A90 (ps_cons u4 ps_nil)))))))) (by kernel_rfl)
       have z147:v 147=v 131:=norm_eq2 (X:=cxV [a,b,c,d]) (v:=v) (l:=nd_pVer) (extV_ok _) hs (k:=147) (j:=131) (ps:=[(8,.c 0),(12,.c 0),(36,.c 0),(75,.c 0),(79,.c 0),(80,.c 1),(90,.c 1),(106,.c 1)]) (ps_cons E8 (ps_cons u (ps_cons E36 (ps_cons E75 (ps_cons u3 (ps_cons A80 (ps_cons A90 (ps_cons u4 ps_nil)))))))) (by kernel_rfl)
       have L:vLon a b c d=lonF b (vB (uT2 ((vS a b c d).2 < 0) (vK a b c d)) (uT2 ((vS a b c d).2 < 0) (vM a b c d))).1 (vB (uT2 ((vS a b c d).2 < 0) (vK a b c d)) (uT2 ((vS a b c d).2 < 0) (vM a b c d))).2:=if_pos (.inl (by rw [← s0];exact g4))
       rw [z143,z144,z145,z146,z147,V,V0,V1,n0,n1,LO.1,LO.2,L];rfl
     · have z143:v 143=0:=norm_val (X:=cxV [a,b,c,d]) (v:=v) (l:=nd_pVer) (extV_ok _) hs (k:=143) (r:=.c 0) (ps:=[(8,.c 0),(12,.c 0),(36,.c 0),(75,.c 0),(79,.c 0),(80,.c 1),(90,.c 1),(106,.c 0)]) (nz:=[]) (ps_cons E8 (ps_cons u (ps_cons E36 (ps_cons E75 (ps_cons u3 (ps_cons A80 (ps_cons A90 (ps_cons u4 ps_nil)))))))) nz_nil (by kernel_rfl)
       have z144:v 144=v 55:=norm_eq2 (X:=cxV [a,b,c,d]) (v:=v) (l:=nd_pVer) (extV_ok _) hs (k:=144) (j:=55) (ps:=[(8,.c 0),(12,.c 0),(36,.c 0),(75,.c 0),(79,.c 0),(80,.c 1),(90,.c 1),(106,.c 0)]) (ps_cons E8 (ps_cons u (ps_cons E36 (ps_cons E75 (ps_cons u3 (ps_cons A80 (ps_cons A90 (ps_cons u4 ps_nil)))))))) (by kernel_rfl)
       have z145:v 145=v 56:=norm_eq2 (X:=cxV [a,b,c,d]) (v:=v) (l:=nd_pVer) (extV_ok _) hs (k:=145) (j:=56) (ps:=[(8,.c 0),(12,.c 0),(36,.c 0),(75,.c 0),(79,.c 0),(80,.c 1),(90,.c 1),(106,.c 0)]) (ps_cons E8 (ps_cons u (ps_cons E36 (ps_cons E75 (ps_cons u3 (ps_cons A80 (ps_cons A90 (ps_cons u4 ps_nil)))))))) (by kernel_rfl)
       have z146:v 146=(-10800000):=norm_val (X:=cxV [a,b,c,d]) (v:=v) (l:=nd_pVer) (extV_ok _) hs (k:=146) (r:=.c (-10800000)) (ps:=[(8,.c 0),(12,.c 0),(36,.c 0),(75,.c 0),(79,.c 0),(80,.c 1),(90,.c 1),(106,.c 0)]) (nz:=[]) (ps_cons E8 (ps_cons u (ps_cons E36 (ps_cons E75 (ps_cons u3 (ps_cons A80 (ps_cons A90 (ps_cons u4 ps_nil)))))))) nz_nil (by kernel_rfl)
       have z147:v 147=10800000:=norm_val (X:=cxV [a,b,c,d]) (v:=v) (l:=nd_pVer) (extV_ok _) hs (k:=147) (r:=.c 10800000) (ps:=[(8,.c 0),(12,.c 0),(36,.c 0),(75,.c 0),(79,.c 0),(80,.c 1),(90,.c 1),(106,.c 0)]) (nz:=[]) (ps_cons E8 (ps_cons u (ps_cons E36 (ps_cons E75 (ps_cons u3 (ps_cons A80 (ps_cons A90 (ps_cons u4 ps_nil)))))))) nz_nil (by kernel_rfl)
       have L:vLon a b c d=(-10800000,10800000):=if_neg (by rw [← s0,← s1];omega)
       rw [z143,z144,z145,z146,z147,V,V0,V1,n0,n1,L];rfl
def nd_rVer:List Nd:=[
 .arg 0,
 .arg 1,
 .arg 2,
 .arg 3,
 .app 76 0 [.n 0,.n 1,.n 2,.n 3],
 .app 76 1 [.n 0,.n 1,.n 2,.n 3],
 .app 5 0 [.n 4,.n 5],
 .app 5 1 [.n 4,.n 5],
 .app 6 0 [.n 4,.n 5],
 .app 6 1 [.n 4,.n 5],
 .app 6 0 [.n 0,.n 0],
 .app 6 1 [.n 0,.n 0],
 .app 0 0 [.n 6,.n 7,.n 10,.n 11],
 .app 0 1 [.n 6,.n 7,.n 10,.n 11],
 .app 0 2 [.n 6,.n 7,.n 10,.n 11],
 .bin .lss .i64 (.n 13) (.c 0),
 .bin .sub .i64 (.c 0) (.n 13),
 .bin .sub .i64 (.c 0) (.n 12),
 .ite (.n 15) (.c 0) (.c 1),
 .ite (.n 15) (.n 16) (.n 12),
 .ite (.n 15) (.n 17) (.n 13),
 .bin .lss .i64 (.n 19) (.c 0),
 .bin .sub .i64 (.c 0) (.n 19),
 .mx (.n 22) (.n 20),
 .ite (.n 21) (.c 0) (.c 1),
 .ite (.n 21) (.c 0) (.n 19),
 .ite (.n 21) (.n 23) (.n 20),
 .app 46 0 [.n 25,.n 26],
 .app 46 1 [.n 25,.n 26],
 .app 46 2 [.n 25,.n 26],
 .app 5 0 [.n 0,.n 0],
 .app 5 1 [.n 0,.n 0],
 .app 0 0 [.n 30,.n 31,.n 6,.n 7],
 .app 0 1 [.n 30,.n 31,.n 6,.n 7],
 .app 0 2 [.n 30,.n 31,.n 6,.n 7],
 .bin .gtr .i64 (.n 6) (.c 0),
 .app 7 0 [.n 8,.n 9,.n 32,.n 33],
 .app 7 1 [.n 8,.n 9,.n 32,.n 33],
 .app 7 2 [.n 8,.n 9,.n 32,.n 33],
 .bin .add .i64 (.n 1) (.n 36),
 .bin .add .i64 (.n 1) (.n 37),
 .bin .sub .i64 (.n 40) (.n 39),
 .bin .geq .i64 (.n 41) (.c 21600000),
 .ite (.n 42) (.c 0) (.c 1),
 .bin .rem .i64 (.n 39) (.c 21600000),
 .bin .lss .i64 (.n 44) (.c 0),
 .bin .add .i64 (.n 44) (.c 21600000),
 .ite (.n 45) (.c 0) (.c 1),
 .ite (.n 45) (.n 46) (.n 44),
 .bin .geq .i64 (.n 48) (.c 10800000),
 .bin .sub .i64 (.n 48) (.c 21600000),
 .ite (.n 49) (.c 0) (.c 1),
 .ite (.n 49) (.n 50) (.n 48),
 .bin .add .i64 (.n 52) (.n 40),
 .bin .sub .i64 (.n 53) (.n 39),
 .ite (.n 42) (.c (-10800000)) (.n 52),
 .ite (.n 42) (.c 10800000) (.n 54),
 .ite (.n 35) (.c 0) (.c 1),
 .ite (.n 35) (.n 55) (.c (-10800000)),
 .ite (.n 35) (.n 56) (.c 10800000),
 .bin .lss .i64 (.n 7) (.c 0),
 .bin .sub .i64 (.c 0) (.n 9),
 .bin .sub .i64 (.c 0) (.n 8),
 .bin .sub .i64 (.c 0) (.n 33),
 .bin .sub .i64 (.c 0) (.n 32),
 .app 7 0 [.n 61,.n 62,.n 63,.n 64],
 .app 7 1 [.n 61,.n 62,.n 63,.n 64],
 .app 7 2 [.n 61,.n 62,.n 63,.n 64],
 .bin .add .i64 (.n 1) (.n 65),
 .bin .add .i64 (.n 1) (.n 66),
 .bin .sub .i64 (.n 69) (.n 68),
 .bin .geq .i64 (.n 70) (.c 21600000),
 .ite (.n 71) (.c 0) (.c 1),
 .bin .rem .i64 (.n 68) (.c 21600000),
 .bin .lss .i64 (.n 73) (.c 0),
 .bin .add .i64 (.n 73) (.c 21600000),
 .ite (.n 74) (.c 0) (.c 1),
 .ite (.n 74) (.n 75) (.n 73),
 .bin .geq .i64 (.n 77) (.c 10800000),
 .bin .sub .i64 (.n 77) (.c 21600000),
 .ite (.n 78) (.c 0) (.c 1),
 .ite (.n 78) (.n 79) (.n 77),
 .bin .add .i64 (.n 81) (.n 69),
 .bin .sub .i64 (.n 82) (.n 68),
 .ite (.n 71) (.c (-10800000)) (.n 81),
 .ite (.n 71) (.c 10800000) (.n 83),
 .ite (.n 60) (.c 0) (.c 1),
 .ite (.n 60) (.n 84) (.n 58),
 .ite (.n 60) (.n 85) (.n 59)]
def vc_rVer:List Vc:=[
 ⟨[],.pre 76 [.n 0,.n 1,.n 2,.n 3]⟩,
 ⟨[],.pre 5 [.n 4,.n 5]⟩,
 ⟨[],.pre 6 [.n 4,.n 5]⟩,
 ⟨[],.pre 6 [.n 0,.n 0]⟩,
 ⟨[],.pre 0 [.n 6,.n 7,.n 10,.n 11]⟩,
 ⟨[],.pre 46 [.n 25,.n 26]⟩,
 ⟨[],.pre 5 [.n 0,.n 0]⟩,
 ⟨[],.pre 0 [.n 30,.n 31,.n 6,.n 7]⟩,
 ⟨[(.n 35,true)],.pre 7 [.n 8,.n 9,.n 32,.n 33]⟩,
 ⟨[(.n 60,true)],.pre 7 [.n 61,.n 62,.n 63,.n 64]⟩]
theorem wh_rVer:whole Tryz.prog spV 20 40 46 [(true,[some .i64,some .i64]),(true,[some .i64,some .i64])]=some (.p (.agg [.int .i64 (.n 27),.int .i64 (.n 28),.int .i64 (.n 87),.int .i64 (.n 88)]),⟨nd_rVer.reverse,vc_rVer.reverse⟩):=by kernel_rfl
theorem wf_rVer:wfN nd_rVer.reverse=true:=by kernel_rfl
set_option maxRecDepth 100000 in
set_option maxHeartbeats 8000000 in
theorem c_rVer (a b c d:Int) (w:World) (h1:PtV a b) (h2:PtV c d) (hn:¬ crA a b c d):Calls Tryz.prog 46 #[.agg #[.int .i64 a,.int .i64 b],.agg #[.int .i64 c,.int .i64 d]] w fun e w'=>e=.returned (.agg #[.int .i64 ((verV a b c d).getD 0 0),.int .i64 ((verV a b c d).getD 1 0),.int .i64 ((verV a b c d).getD 2 0),.int .i64 ((verV a b c d).getD 3 0)])∧Below w.heap.size w w':=by
 refine Sx.calls (X:=cxV [a,b,c,d]) hmix (spV_ok _) wh_rVer wf_rVer (fun v hs=>?_) w
 have e0:v 0=a:=satF hs 0 rfl
 have e1:v 1=b:=satF hs 1 rfl
 have e2:v 2=c:=satF hs 2 rfl
 have e3:v 3=d:=satF hs 3 rfl
 have e4:v 4=(semV 76 [v 0,v 1,v 2,v 3]).getD 0 0:=satF hs 4 rfl
 have e5:v 5=(semV 76 [v 0,v 1,v 2,v 3]).getD 1 0:=satF hs 5 rfl
 have w4:v 4=(crsV a b c d).getD 0 0:=by rw [← e0,← e1,← e2,← e3];exact e4
 have w5:v 5=(crsV a b c d).getD 1 0:=by rw [← e0,← e1,← e2,← e3];exact e5
 have CB:=crs_bd a b c d
 have CA:=crs_arc a b c d
 have wA0:arcV (v 0) (v 0)=true:=by rw [e0];exact arc_one (by omega)
 have wA1:arcV (v 4) (v 5)=true:=by rw [w4,w5];exact CA
 have w76:PtV (v 0) (v 1)∧PtV (v 2) (v 3):=by rw [e0,e1,e2,e3];exact ⟨h1,h2⟩
 have e6:v 6=(semB 5 [v 4,v 5]).getD 0 0:=satF hs 6 rfl
 have e7:v 7=(semB 5 [v 4,v 5]).getD 1 0:=satF hs 7 rfl
 have P6:((v 6,v 7):IV)=uS (v 4) (v 5):=by rw [e6,e7];rfl
 have U6:U (v 6,v 7):=by rw [P6];exact U_S _ _
 have e8:v 8=(semB 6 [v 4,v 5]).getD 0 0:=satF hs 8 rfl
 have e9:v 9=(semB 6 [v 4,v 5]).getD 1 0:=satF hs 9 rfl
 have P8:((v 8,v 9):IV)=uC (v 4) (v 5):=by rw [e8,e9];rfl
 have U8:U (v 8,v 9):=by rw [P8];exact U_C _ _
 have e10:v 10=(semB 6 [v 0,v 0]).getD 0 0:=satF hs 10 rfl
 have e11:v 11=(semB 6 [v 0,v 0]).getD 1 0:=satF hs 11 rfl
 have P10:((v 10,v 11):IV)=uC (v 0) (v 0):=by rw [e10,e11];rfl
 have U10:U (v 10,v 11):=by rw [P10];exact U_C _ _
 have e30:v 30=(semB 5 [v 0,v 0]).getD 0 0:=satF hs 30 rfl
 have e31:v 31=(semB 5 [v 0,v 0]).getD 1 0:=satF hs 31 rfl
 have P30:((v 30,v 31):IV)=uS (v 0) (v 0):=by rw [e30,e31];rfl
 have U30:U (v 30,v 31):=by rw [P30];exact U_S _ _
 have e12:v 12=(semB 0 [v 6,v 7,v 10,v 11]).getD 0 0:=satF hs 12 rfl
 have e13:v 13=(semB 0 [v 6,v 7,v 10,v 11]).getD 1 0:=satF hs 13 rfl
 have P12:((v 12,v 13):IV)=uM (v 6,v 7) (v 10,v 11):=by rw [e12,e13];rfl
 have U12:U (v 12,v 13):=by rw [P12];exact (U_M U6 U10).2.2
 have e32:v 32=(semB 0 [v 30,v 31,v 6,v 7]).getD 0 0:=satF hs 32 rfl
 have e33:v 33=(semB 0 [v 30,v 31,v 6,v 7]).getD 1 0:=satF hs 33 rfl
 have P32:((v 32,v 33):IV)=uM (v 30,v 31) (v 6,v 7):=by rw [e32,e33];rfl
 have U32:U (v 32,v 33):=by rw [P32];exact (U_M U30 U6).2.2
 have e15:v 15=b2i (decide (v 13 < (0:Int))):=satF hs 15 rfl
 have e16:v 16=IntKind.i64.wrap ((0:Int) - v 13):=satF hs 16 rfl
 have e17:v 17=IntKind.i64.wrap ((0:Int) - v 12):=satF hs 17 rfl
 have e19:v 19=if v 15≠0 then v 16 else v 12:=satF hs 19 rfl
 have e20:v 20=if v 15≠0 then v 17 else v 13:=satF hs 20 rfl
 have e21:v 21=b2i (decide (v 19 < (0:Int))):=satF hs 21 rfl
 have e22:v 22=IntKind.i64.wrap ((0:Int) - v 19):=satF hs 22 rfl
 have e23:v 23=if v 20 > v 22 then v 20 else v 22:=satF hs 23 rfl
 have e25:v 25=if v 21≠0 then (0:Int) else v 19:=satF hs 25 rfl
 have e26:v 26=if v 21≠0 then v 23 else v 20:=satF hs 26 rfl
 have e27:v 27=(semA 46 [v 25,v 26]).getD 0 0:=satF hs 27 rfl
 have e28:v 28=(semA 46 [v 25,v 26]).getD 1 0:=satF hs 28 rfl
 have e35:v 35=b2i (decide (v 6 > (0:Int))):=satF hs 35 rfl
 have e36:v 36=(semB 7 [v 8,v 9,v 32,v 33]).getD 0 0:=satF hs 36 rfl
 have e37:v 37=(semB 7 [v 8,v 9,v 32,v 33]).getD 1 0:=satF hs 37 rfl
 have e60:v 60=b2i (decide (v 7 < (0:Int))):=satF hs 60 rfl
 have e61:v 61=IntKind.i64.wrap ((0:Int) - v 9):=satF hs 61 rfl
 have e62:v 62=IntKind.i64.wrap ((0:Int) - v 8):=satF hs 62 rfl
 have e63:v 63=IntKind.i64.wrap ((0:Int) - v 33):=satF hs 63 rfl
 have e64:v 64=IntKind.i64.wrap ((0:Int) - v 32):=satF hs 64 rfl
 have e65:v 65=(semB 7 [v 61,v 62,v 63,v 64]).getD 0 0:=satF hs 65 rfl
 have e66:v 66=(semB 7 [v 61,v 62,v 63,v 64]).getD 1 0:=satF hs 66 rfl
 have s0:v 6=(vS a b c d).1:=by rw [show v 6=(uS (v 4) (v 5)).1 from congrArg Prod.fst P6,w4,w5];rfl
 have s1:v 7=(vS a b c d).2:=by rw [show v 7=(uS (v 4) (v 5)).2 from congrArg Prod.snd P6,w4,w5];rfl
 have PK:((v 8,v 9):IV)=vK a b c d:=by rw [P8,w4,w5];rfl
 have PM:((v 32,v 33):IV)=vM a b c d:=by rw [P32,P30,P6,w4,w5,e0];rfl
 have PN:((v 12,v 13):IV)=uM (vS a b c d) (uC a a):=by rw [P12,P6,P10,w4,w5,e0];rfl
 have u12:=U12
 have u32:=U32
 have u8:=U8
 have u6:=U6
 unfold U at u12 u32 u8 u6
 simp only at u12 u32 u8 u6
 have w16:v 16=-v 13:=by rw [e16,Go.IntWalk.i64_in _ (by omega)];omega
 have w17:v 17=-v 12:=by rw [e17,Go.IntWalk.i64_in _ (by omega)];omega
 have w61:v 61=-v 9:=by rw [e61,Go.IntWalk.i64_in _ (by omega)];omega
 have w62:v 62=-v 8:=by rw [e62,Go.IntWalk.i64_in _ (by omega)];omega
 have w63:v 63=-v 33:=by rw [e63,Go.IntWalk.i64_in _ (by omega)];omega
 have w64:v 64=-v 32:=by rw [e64,Go.IntWalk.i64_in _ (by omega)];omega
 have n19:v 19=if v 13 < 0 then -v 13 else v 12:=by rw [e19,e15,b2i_dec2,w16]
 have n20:v 20=if v 13 < 0 then -v 12 else v 13:=by rw [e20,e15,b2i_dec2,w17]
 have r19:-1073741824≤v 19∧v 19≤1073741824:=by rw [n19];split<;>omega
 have w22:v 22=-v 19:=by rw [e22,Go.IntWalk.i64_in _ (by omega)];omega
 have n25:v 25=if v 19 < 0 then 0 else v 19:=by rw [e25,e21,b2i_dec2]
 have n26:v 26=if v 19 < 0 then max (-v 19) (v 20) else v 20:=by
  rw [e26,e21,b2i_dec2,e23,w22]
  split<;>omega
 have AB:((v 25,v 26):IV)=uAbs (v 12,v 13):=by
  unfold uAbs uN
  refine Prod.ext ?_ ?_
  · show v 25=_
    rw [n25,n19]
    (repeat' split)<;>simp only<;>omega
  · show v 26=_
    rw [n26,n19,n20]
    (repeat' split)<;>simp only<;>omega
 have UA:=U_abs U12
 rw [← AB] at UA
 simp only at UA
 have n0:v 25=(vN a b c d).1:=by rw [show v 25=(uAbs (v 12,v 13)).1 from congrArg Prod.fst AB,PN];rfl
 have n1:v 26=(vN a b c d).2:=by rw [show v 26=(uAbs (v 12,v 13)).2 from congrArg Prod.snd AB,PN];rfl
 have V0:v 27=acoL (v 26):=e27.trans (acV46 _ _).1
 have V1:v 28=acoH (v 25):=e28.trans (acV46 _ _).2.1
 have P46:fxV (v 25) (v 26)=true∧v 25≤1073741824∧-1073741824≤v 26:=by rw [fxV_iff];omega
 have FN:fxV (v 61) (v 62)=true:=by rw [w61,w62];exact U_fx (U_N U8)
 have GN:fxV (v 63) (v 64)=true:=by rw [w63,w64];exact U_fx (U_N U32)
 have V:verV a b c d=[acoL (vN a b c d).2,acoH (vN a b c d).1,(vLon a b c d).1,(vLon a b c d).2,0]:=if_neg hn
 refine ⟨vcs_rev ?_,?_⟩
 · exact vcs_cons (fun _=>w76) (vcs_cons (fun _=>wA1) (vcs_cons (fun _=>wA1) (vcs_cons (fun _=>wA0) (vcs_cons (fun _=>⟨U_fx U6,U_fx U10⟩) (vcs_cons (fun _=>P46) (vcs_cons (fun _=>wA0) (vcs_cons (fun _=>⟨U_fx U30,U_fx U6⟩) (vcs_cons (fun _=>⟨U_fx U8,U_fx U32⟩) (vcs_cons (fun _=>⟨FN,GN⟩) (vcs_nil))))))))))
 · intro x hx0
   have hx':=valV_of (v:=v) (by rfl) hx0
   rw [hx']
   show Value.agg #[.int .i64 (v 27),.int .i64 (v 28),.int .i64 (v 87),.int .i64 (v 88)]=_
   rcases two_ofV e60 with ⟨g3,u3⟩ | ⟨g3,u3⟩
   · have z87:v 87=v 84:=norm_eq2 (X:=cxV [a,b,c,d]) (v:=v) (l:=nd_rVer) (extV_ok _) hs (k:=87) (j:=84) (ps:=[(60,.c 1)]) (ps_cons u3 ps_nil) (by kernel_rfl)
     have z88:v 88=v 85:=norm_eq2 (X:=cxV [a,b,c,d]) (v:=v) (l:=nd_rVer) (extV_ok _) hs (k:=88) (j:=85) (ps:=[(60,.c 1)]) (ps_cons u3 ps_nil) (by kernel_rfl)
     have g3':(vS a b c d).2 < 0:=by rw [← s1];exact g3
     have B0:v 65=(vB (uT2 ((vS a b c d).2 < 0) (vK a b c d)) (uT2 ((vS a b c d).2 < 0) (vM a b c d))).1:=by
      unfold uT2
      rw [if_pos g3',if_pos g3',show v 65=bearL (v 61) (v 62) (v 63) (v 64) from e65,w61,w62,w63,w64,← PK,← PM];rfl
     have B1:v 66=(vB (uT2 ((vS a b c d).2 < 0) (vK a b c d)) (uT2 ((vS a b c d).2 < 0) (vM a b c d))).2:=by
      unfold uT2
      rw [if_pos g3',if_pos g3',show v 66=bearH (v 61) (v 62) (v 63) (v 64) from e66,w61,w62,w63,w64,← PK,← PM];rfl
     have BB:=vB_bd (uT2 ((vS a b c d).2 < 0) (vK a b c d)) (uT2 ((vS a b c d).2 < 0) (vM a b c d))
     rw [← B0,← B1] at BB
     have LO:=lon_node (b:=v 1) (L:=v 65) (H:=v 66) (n1:=v 68) (n2:=v 69) (w:=v 70) (g:=v 71) (m:=v 73) (c:=v 74) (u:=v 75) (r:=v 77) (g2:=v 78) (sb:=v 79) (z:=v 81) (x:=v 82) (y:=v 83) (lo:=v 84) (hi:=v 85) (by rw [e1];exact h1.2) BB (satF hs 68 rfl) (satF hs 69 rfl) (satF hs 70 rfl) (satF hs 71 rfl) (satF hs 73 rfl) (satF hs 74 rfl) (satF hs 75 rfl) (satF hs 77 rfl) (satF hs 78 rfl) (satF hs 79 rfl) (satF hs 81 rfl) (satF hs 82 rfl) (satF hs 83 rfl) (satF hs 84 rfl) (satF hs 85 rfl)
     rw [B0,B1,e1] at LO
     have L:vLon a b c d=lonF b (vB (uT2 ((vS a b c d).2 < 0) (vK a b c d)) (uT2 ((vS a b c d).2 < 0) (vM a b c d))).1 (vB (uT2 ((vS a b c d).2 < 0) (vK a b c d)) (uT2 ((vS a b c d).2 < 0) (vM a b c d))).2:=if_pos (.inr g3')
     rw [z87,z88,V,V0,V1,n0,n1,LO.1,LO.2,L];rfl
   · have g3':¬ (vS a b c d).2 < 0:=by rw [← s1];exact g3
     rcases two_ofV e35 with ⟨g4,u4⟩ | ⟨g4,u4⟩
     · have z87:v 87=v 55:=norm_eq2 (X:=cxV [a,b,c,d]) (v:=v) (l:=nd_rVer) (extV_ok _) hs (k:=87) (j:=55) (ps:=[(35,.c 1),(60,.c 0)]) (ps_cons u4 (ps_cons u3 ps_nil)) (by kernel_rfl)
       have z88:v 88=v 56:=norm_eq2 (X:=cxV [a,b,c,d]) (v:=v) (l:=nd_rVer) (extV_ok _) hs (k:=88) (j:=56) (ps:=[(35,.c 1),(60,.c 0)]) (ps_cons u4 (ps_cons u3 ps_nil)) (by kernel_rfl)
       have B0:v 36=(vB (uT2 ((vS a b c d).2 < 0) (vK a b c d)) (uT2 ((vS a b c d).2 < 0) (vM a b c d))).1:=by
        unfold uT2
        rw [if_neg g3',if_neg g3',show v 36=bearL (v 8) (v 9) (v 32) (v 33) from e36,← PK,← PM];rfl
       have B1:v 37=(vB (uT2 ((vS a b c d).2 < 0) (vK a b c d)) (uT2 ((vS a b c d).2 < 0) (vM a b c d))).2:=by
        unfold uT2
        rw [if_neg g3',if_neg g3',show v 37=bearH (v 8) (v 9) (v 32) (v 33) from e37,← PK,← PM];rfl
       have BB:=vB_bd (uT2 ((vS a b c d).2 < 0) (vK a b c d)) (uT2 ((vS a b c d).2 < 0) (vM a b c d))
       rw [← B0,← B1] at BB
       have LO:=lon_node (b:=v 1) (L:=v 36) (H:=v 37) (n1:=v 39) (n2:=v 40) (w:=v 41) (g:=v 42) (m:=v 44) (c:=v 45) (u:=v 46) (r:=v 48) (g2:=v 49) (sb:=v 50) (z:=v 52) (x:=v 53) (y:=v 54) (lo:=v 55) (hi:=v 56) (by rw [e1];exact h1.2) BB (satF hs 39 rfl) (satF hs 40 rfl) (satF hs 41 rfl) (satF hs 42 rfl) (satF hs 44 rfl) (satF hs 45 rfl) (satF hs 46 rfl) (satF hs 48 rfl) (satF hs 49 rfl) (satF hs 50 rfl) (satF hs 52 rfl) (satF hs 53 rfl) (satF hs 54 rfl) (satF hs 55 rfl) (satF hs 56 rfl)
       rw [B0,B1,e1] at LO
       have L:vLon a b c d=lonF b (vB (uT2 ((vS a b c d).2 < 0) (vK a b c d)) (uT2 ((vS a b c d).2 < 0) (vM a b c d))).1 (vB (uT2 ((vS a b c d).2 < 0) (vK a b c d)) (uT2 ((vS a b c d).2 < 0) (vM a b c d))).2:=if_pos (.inl (by rw [← s0];exact g4))
       rw [z87,z88,V,V0,V1,n0,n1,LO.1,LO.2,L];rfl
     · have z87:v 87=(-10800000):=norm_val (X:=cxV [a,b,c,d]) (v:=v) (l:=nd_rVer) (extV_ok _) hs (k:=87) (r:=.c (-10800000)) (ps:=[(35,.c 0),(60,.c 0)]) (nz:=[]) (ps_cons u4 (ps_cons u3 ps_nil)) nz_nil (by kernel_rfl)
       have z88:v 88=10800000:=norm_val (X:=cxV [a,b,c,d]) (v:=v) (l:=nd_rVer) (extV_ok _) hs (k:=88) (r:=.c 10800000) (ps:=[(35,.c 0),(60,.c 0)]) (nz:=[]) (ps_cons u4 (ps_cons u3 ps_nil)) nz_nil (by kernel_rfl)
       have L:vLon a b c d=(-10800000,10800000):=if_neg (by rw [← s0,← s1];omega)
       rw [z87,z88,V,V0,V1,n0,n1,L];rfl
end Go.Proofs.YtfffpodaabdpfaaGreat
