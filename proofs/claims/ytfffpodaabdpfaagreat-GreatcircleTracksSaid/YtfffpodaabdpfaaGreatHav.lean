/- The contracts of the haversine and its inverse,and of the reference's. -/
import Derived.Test.YtfffpodaabdpfaaGreatAco
set_option linter.unusedVariables false
set_option linter.unusedSimpArgs false
namespace Go.Proofs.YtfffpodaabdpfaaGreat
open Go.RowKit Alm Sx
theorem shr1 (x:Int):binV .shr .i64 x 1=x / 2:=Int.fdiv_eq_ediv_of_nonneg x (by decide)
def havL (a b:Int):Int:=(1073741824 - enHi (a+5400000) (b+5400000)) / 2
def havH (a b:Int):Int:=(1073741824 - enLo (a+5400000) (b+5400000)+1) / 2
def havV (a b:Int):List Int:=[havL a b,havH a b,0]
theorem hav_bd (a b:Int):0≤havL a b∧havL a b≤havH a b∧havH a b≤1073741824:=by
 have h:=en_bd (a+5400000) (b+5400000)
 unfold havL havH
 omega
theorem hav_end {n f e c5 c6 c8 c9 c10 c11 c12:Int} (hf:f=bLo n) (he:e=b2i (sinE (foldQ n))) (h5:c5=IntKind.i64.wrap (1073741824 - f)) (h6:c6=IntKind.i64.wrap (Int.tdiv c5 2)) (h8:c8=IntKind.i64.wrap (c5 - 1)) (h9:c9=IntKind.i64.wrap (Int.tdiv c8 2)) (h10:c10=IntKind.i64.wrap (c9+1)) (h11:c11=if e≠0 then c6 else c9) (h12:c12=if e≠0 then c6 else c10) :
 c11=(1073741824 - bHi n) / 2∧c12=(1073741824 - bLo n+1) / 2:=by
 have b:=bnd_bd n
 rw [Go.IntWalk.i64_in _ (by omega)] at h5
 have t5:Int.tdiv c5 2=c5 / 2:=Int.tdiv_eq_ediv_of_nonneg (by omega)
 rw [t5,Go.IntWalk.i64_in _ (by omega)] at h6
 rw [h11,h12,he]
 cases hE:sinE (foldQ n)
 · rw [if_neg (by decide),if_neg (by decide)]
   have hb:bHi n=bLo n+1:=by
    unfold bHi bLo
    rw [hE]
    split<;>simp<;>omega
   rw [Go.IntWalk.i64_in _ (by omega)] at h8
   have t8:Int.tdiv c8 2=c8 / 2:=Int.tdiv_eq_ediv_of_nonneg (by omega)
   rw [t8,Go.IntWalk.i64_in _ (by omega)] at h9
   rw [Go.IntWalk.i64_in _ (by omega)] at h10
   omega
 · rw [if_pos (by decide),if_pos (by decide)]
   have hb:bHi n=bLo n:=bE_eq n hE
   have ev:bLo n % 2=0:=by
    have q:foldQ n=0∨foldQ n=1800000∨foldQ n=5400000:=by
     unfold sinE at hE
     simp at hE
     omega
    unfold bLo
    rw [hE]
    rcases q with q | q | q<;>rw [q]<;>(split<;>decide)
   omega
def semHv:Nat→List Int→List Int
 | 70,[n]=>[bLo n,b2i (sinE (foldQ n))]
 | 71,[a,b]=>[enLo a b,enHi a b]
 | 72,[a,b,n]=>[b2i (meetsB a b n)]
 | _,_=>[]
def preHv:Nat→List Int→Prop
 | 70,[_]=>True
 | 71,[a,b]=>ArcOk a b
 | 72,[a,b,n]=>ArcOk a b∧-21600000≤n∧n≤21600000
 | _,_=>False
def cxHv (args:List Int):Cx:=⟨semHv,preHv,args⟩
def sEnc71:Sx.Spec:=⟨235,71,[(true,[some .i64,some .i64])],[(true,[some .i64,some .i64])]⟩
def rFlo70:Sx.Spec:=⟨361,70,[(false,[some .i64])],[(false,[some .i64]),(false,[none])]⟩
def rHas72:Sx.Spec:=⟨333,72,[(true,[some .i64,some .i64]),(false,[some .i64])],[(false,[none])]⟩
def spHvP:List Sx.Spec:=[sEnc71]
def spHvR:List Sx.Spec:=[rFlo70,rHas72]
theorem spHvP_ok (args:List Int):∀ s ∈ spHvP,SpecOK Tryz.prog (cxHv args) s:=by
 intro s hs
 simp only [spHvP,List.mem_cons,List.not_mem_nil,or_false] at hs
 rcases hs with rfl
 refine ⟨ours _ _ _ Tryz.func235 rfl (by kernel_rfl),fun xs hp w=>?_⟩
 match xs,hp with
 | [a,b],hp=>exact c_enclosure a b w hp
theorem spHvR_ok (args:List Int):∀ s ∈ spHvR,SpecOK Tryz.prog (cxHv args) s:=by
 intro s hs
 simp only [spHvR,List.mem_cons,List.not_mem_nil,or_false] at hs
 rcases hs with rfl | rfl
 · refine ⟨ours _ _ _ Tryz.func361 rfl (by kernel_rfl),fun xs hp w=>?_⟩
   match xs,hp with
   | [n],hp =>
    refine (c_rFloor n w).mono ?_
    rintro e w' ⟨he,hb⟩
    refine ⟨?_,hb⟩
    rw [he]
    exact congrArg (fun z=>Ending.returned (.tuple #[.int .i64 (bLo n),z])) (bool_b2i _).symm
 · refine ⟨ours _ _ _ Tryz.func333 rfl (by kernel_rfl),fun xs hp w=>?_⟩
   match xs,hp with
   | [a,b,n],hp =>
    refine (c_has a b n w hp.1 hp.2).mono ?_
    rintro e w' ⟨he,hb⟩
    exact ⟨by rw [he];exact congrArg Ending.returned (bool_b2i _).symm,hb⟩
def nd_pHav:List Nd:=[
 .arg 0,
 .arg 1,
 .bin .geq .i64 (.n 0) (.c (-1099511627776)),
 .bin .leq .i64 (.n 0) (.n 1),
 .ite (.n 2) (.n 3) (.c 0),
 .bin .leq .i64 (.n 1) (.c 1099511627776),
 .ite (.n 4) (.n 5) (.c 0),
 .ite (.n 6) (.c 0) (.c 1),
 .bin .add .i64 (.n 0) (.c 5400000),
 .bin .add .i64 (.n 1) (.c 5400000),
 .app 71 0 [.n 8,.n 9],
 .app 71 1 [.n 8,.n 9],
 .bin .sub .i64 (.c 1073741824) (.n 11),
 .bin .shr .i64 (.n 12) (.c 1),
 .bin .sub .i64 (.c 1073741824) (.n 10),
 .bin .add .i64 (.n 14) (.c 1),
 .bin .shr .i64 (.n 15) (.c 1),
 .ite (.n 7) (.c 0) (.n 13),
 .ite (.n 7) (.c 0) (.n 16)]
def vc_pHav:List Vc:=[
 ⟨[(.n 6,true)],.pre 71 [.n 8,.n 9]⟩]
theorem wh_pHav:whole Tryz.prog spHvP 20 40 276 [(true,[some .i64,some .i64])]=some (.tup [.agg [.int .i64 (.n 17),.int .i64 (.n 18)],.c (.int .i64 (.n 7))],⟨nd_pHav.reverse,vc_pHav.reverse⟩):=by kernel_rfl
theorem wf_pHav:wfN nd_pHav.reverse=true:=by kernel_rfl
set_option maxRecDepth 100000 in
theorem c_pHav (a b:Int) (w:World) (h:arcV a b=true):Calls Tryz.prog 276 #[.agg #[.int .i64 a,.int .i64 b]] w fun e w'=>e=.returned (.tuple #[.agg #[.int .i64 (havL a b),.int .i64 (havH a b)],.int .i64 0])∧Below w.heap.size w w':=by
 refine Sx.calls (X:=cxHv [a,b]) hmix (spHvP_ok _) wh_pHav wf_pHav (fun v hs=>?_) w
 have e0:v 0=a:=satF hs 0 rfl
 have e1:v 1=b:=satF hs 1 rfl
 have e2:v 2=b2i (decide (v 0≥(-1099511627776:Int))):=satF hs 2 rfl
 have e3:v 3=b2i (decide (v 0≤v 1)):=satF hs 3 rfl
 have e4:v 4=if v 2≠0 then v 3 else (0:Int):=satF hs 4 rfl
 have e5:v 5=b2i (decide (v 1≤(1099511627776:Int))):=satF hs 5 rfl
 have e6:v 6=if v 4≠0 then v 5 else (0:Int):=satF hs 6 rfl
 have e7:v 7=if v 6≠0 then (0:Int) else (1:Int):=satF hs 7 rfl
 have e8:v 8=IntKind.i64.wrap (v 0+(5400000:Int)):=satF hs 8 rfl
 have e9:v 9=IntKind.i64.wrap (v 1+(5400000:Int)):=satF hs 9 rfl
 have e10:v 10=(semHv 71 [v 8,v 9]).getD 0 0:=satF hs 10 rfl
 have e11:v 11=(semHv 71 [v 8,v 9]).getD 1 0:=satF hs 11 rfl
 have e12:v 12=IntKind.i64.wrap ((1073741824:Int) - v 11):=satF hs 12 rfl
 have e13:v 13=binV .shr .i64 (v 12) ((1:Int)):=satF hs 13 rfl
 have e14:v 14=IntKind.i64.wrap ((1073741824:Int) - v 10):=satF hs 14 rfl
 have e15:v 15=IntKind.i64.wrap (v 14+(1:Int)):=satF hs 15 rfl
 have e16:v 16=binV .shr .i64 (v 15) ((1:Int)):=satF hs 16 rfl
 have e17:v 17=if v 7≠0 then (0:Int) else v 13:=satF hs 17 rfl
 have e18:v 18=if v 7≠0 then (0:Int) else v 16:=satF hs 18 rfl
 have hh:=(arcV_iff _ _).1 h
 have A6:v 6=1:=by rw [e6,e4,e2,e3,e5,bb2,bb2,e0,e1,decide_eq_true (by omega)];rfl
 have w8:v 8=a+5400000:=by rw [e8,e0,Go.IntWalk.i64_in _ (by omega)]
 have w9:v 9=b+5400000:=by rw [e9,e1,Go.IntWalk.i64_in _ (by omega)]
 have E:=en_bd (a+5400000) (b+5400000)
 have w10:v 10=enLo (a+5400000) (b+5400000):=by rw [e10,w8,w9];rfl
 have w11:v 11=enHi (a+5400000) (b+5400000):=by rw [e11,w8,w9];rfl
 have w12:v 12=1073741824 - v 11:=by rw [e12,Go.IntWalk.i64_in _ (by omega)]
 have w14:v 14=1073741824 - v 10:=by rw [e14,Go.IntWalk.i64_in _ (by omega)]
 have w15:v 15=v 14+1:=by rw [e15,Go.IntWalk.i64_in _ (by omega)]
 have w13:v 13=havL a b:=by rw [e13,shr1,w12,w11];rfl
 have w16:v 16=havH a b:=by rw [e16,shr1,w15,w14,w10];rfl
 have z7:v 7=0:=norm_val (X:=cxHv [a,b]) (v:=v) (l:=nd_pHav) (extN_ok _) hs (k:=7) (r:=.c 0) (ps:=[(6,.c 1)]) (nz:=[]) (ps_cons A6 ps_nil) nz_nil (by kernel_rfl)
 have z17:v 17=v 13:=norm_eq2 (X:=cxHv [a,b]) (v:=v) (l:=nd_pHav) (extN_ok _) hs (k:=17) (j:=13) (ps:=[(6,.c 1)]) (ps_cons A6 ps_nil) (by kernel_rfl)
 have z18:v 18=v 16:=norm_eq2 (X:=cxHv [a,b]) (v:=v) (l:=nd_pHav) (extN_ok _) hs (k:=18) (j:=16) (ps:=[(6,.c 1)]) (ps_cons A6 ps_nil) (by kernel_rfl)
 have P71:ArcOk (v 8) (v 9):=by rw [w8,w9];exact ⟨by omega,by omega,by omega⟩
 refine ⟨vcs_rev ?_,?_⟩
 · exact vcs_cons (fun _=>P71) (vcs_nil)
 · intro x hx0
   have hx':=valV_of (v:=v) (by rfl) hx0
   rw [hx']
   show Value.tuple #[.agg #[.int .i64 (v 17),.int .i64 (v 18)],.int .i64 (v 7)]=_
   rw [z7,z17,z18,w13,w16]
def nd_rHav:List Nd:=[
 .arg 0,
 .arg 1,
 .bin .add .i64 (.n 0) (.c 5400000),
 .app 70 0 [.n 2],
 .app 70 1 [.n 2],
 .bin .sub .i64 (.c 1073741824) (.n 3),
 .bin .quo .i64 (.n 5) (.c 2),
 .ite (.n 4) (.c 0) (.c 1),
 .bin .sub .i64 (.n 5) (.c 1),
 .bin .quo .i64 (.n 8) (.c 2),
 .bin .add .i64 (.n 9) (.c 1),
 .ite (.n 4) (.n 6) (.n 9),
 .ite (.n 4) (.n 6) (.n 10),
 .bin .add .i64 (.n 1) (.c 5400000),
 .app 70 0 [.n 13],
 .app 70 1 [.n 13],
 .bin .sub .i64 (.c 1073741824) (.n 14),
 .bin .quo .i64 (.n 16) (.c 2),
 .ite (.n 15) (.c 0) (.c 1),
 .bin .sub .i64 (.n 16) (.c 1),
 .bin .quo .i64 (.n 19) (.c 2),
 .bin .add .i64 (.n 20) (.c 1),
 .ite (.n 15) (.n 17) (.n 20),
 .ite (.n 15) (.n 17) (.n 21),
 .mn (.n 11) (.n 22),
 .mx (.n 12) (.n 23),
 .app 72 0 [.n 0,.n 1,.c 10800000],
 .ite (.n 26) (.c 0) (.c 1),
 .ite (.n 26) (.c 1073741824) (.n 25),
 .app 72 0 [.n 0,.n 1,.c 0],
 .ite (.n 29) (.c 0) (.c 1),
 .ite (.n 29) (.c 0) (.n 24)]
def vc_rHav:List Vc:=[
 ⟨[],.pre 70 [.n 2]⟩,
 ⟨[],.pre 70 [.n 13]⟩,
 ⟨[],.pre 72 [.n 0,.n 1,.c 10800000]⟩,
 ⟨[],.pre 72 [.n 0,.n 1,.c 0]⟩]
theorem wh_rHav:whole Tryz.prog spHvR 20 40 339 [(true,[some .i64,some .i64])]=some (.p (.agg [.int .i64 (.n 31),.int .i64 (.n 28)]),⟨nd_rHav.reverse,vc_rHav.reverse⟩):=by kernel_rfl
theorem wf_rHav:wfN nd_rHav.reverse=true:=by kernel_rfl
set_option maxRecDepth 100000 in
theorem c_rHav (a b:Int) (w:World) (h:arcV a b=true):Calls Tryz.prog 339 #[.agg #[.int .i64 a,.int .i64 b]] w fun e w'=>e=.returned (.agg #[.int .i64 (havL a b),.int .i64 (havH a b)])∧Below w.heap.size w w':=by
 refine Sx.calls (X:=cxHv [a,b]) hmix (spHvR_ok _) wh_rHav wf_rHav (fun v hs=>?_) w
 have e0:v 0=a:=satF hs 0 rfl
 have e1:v 1=b:=satF hs 1 rfl
 have e2:v 2=IntKind.i64.wrap (v 0+(5400000:Int)):=satF hs 2 rfl
 have e13:v 13=IntKind.i64.wrap (v 1+(5400000:Int)):=satF hs 13 rfl
 have e24:v 24=if v 22 < v 11 then v 22 else v 11:=satF hs 24 rfl
 have e25:v 25=if v 23 > v 12 then v 23 else v 12:=satF hs 25 rfl
 have e26:v 26=(semHv 72 [v 0,v 1,(10800000:Int)]).getD 0 0:=satF hs 26 rfl
 have e28:v 28=if v 26≠0 then (1073741824:Int) else v 25:=satF hs 28 rfl
 have e29:v 29=(semHv 72 [v 0,v 1,(0:Int)]).getD 0 0:=satF hs 29 rfl
 have e31:v 31=if v 29≠0 then (0:Int) else v 24:=satF hs 31 rfl
 have hh:=(arcV_iff _ _).1 h
 have w2:v 2=a+5400000:=by rw [e2,e0,Go.IntWalk.i64_in _ (by omega)]
 have w13:v 13=b+5400000:=by rw [e13,e1,Go.IntWalk.i64_in _ (by omega)]
 have L:=hav_end (n:=v 2) (f:=v 3) (e:=v 4) (c5:=v 5) (c6:=v 6) (c8:=v 8) (c9:=v 9) (c10:=v 10) (c11:=v 11) (c12:=v 12) (satF hs 3 rfl) (satF hs 4 rfl) (satF hs 5 rfl) (satF hs 6 rfl) (satF hs 8 rfl) (satF hs 9 rfl) (satF hs 10 rfl) (satF hs 11 rfl) (satF hs 12 rfl)
 have R:=hav_end (n:=v 13) (f:=v 14) (e:=v 15) (c5:=v 16) (c6:=v 17) (c8:=v 19) (c9:=v 20) (c10:=v 21) (c11:=v 22) (c12:=v 23) (satF hs 14 rfl) (satF hs 15 rfl) (satF hs 16 rfl) (satF hs 17 rfl) (satF hs 19 rfl) (satF hs 20 rfl) (satF hs 21 rfl) (satF hs 22 rfl) (satF hs 23 rfl)
 rw [w2] at L
 rw [w13] at R
 have m1:v 26=b2i (meetsB (a+5400000) (b+5400000) 16200000):=by
  rw [e26,e0,e1]
  show b2i (meetsB a b 10800000)=_
  unfold meetsB
  rw [show (16200000:Int) - (a+5400000)=10800000 - a by omega,show b+5400000 - (a+5400000)=b - a by omega]
 have m2:v 29=b2i (meetsB (a+5400000) (b+5400000) 5400000):=by
  rw [e29,e0,e1]
  show b2i (meetsB a b 0)=_
  unfold meetsB
  rw [show (5400000:Int) - (a+5400000)=0 - a by omega,show b+5400000 - (a+5400000)=b - a by omega]
 have w28:v 28=havH a b:=by
  unfold havH enLo
  rw [e28,m1]
  cases meetsB (a+5400000) (b+5400000) 16200000
  · rw [if_neg (by decide),if_neg (by decide)];omega
  · rw [if_pos (by decide),if_pos rfl];decide
 have w31:v 31=havL a b:=by
  unfold havL enHi
  rw [e31,m2]
  cases meetsB (a+5400000) (b+5400000) 5400000
  · rw [if_neg (by decide),if_neg (by decide)];omega
  · rw [if_pos (by decide),if_pos rfl];decide
 have P72:ArcOk (v 0) (v 1):=by rw [e0,e1];exact ⟨by omega,by omega,by omega⟩
 have n1:-21600000≤(10800000:Int)∧(10800000:Int)≤21600000:=by decide
 have n0:-21600000≤(0:Int)∧(0:Int)≤21600000:=by decide
 refine ⟨vcs_rev ?_,?_⟩
 · exact vcs_cons (fun _=>trivial) (vcs_cons (fun _=>trivial) (vcs_cons (fun _=>⟨P72,n1⟩) (vcs_cons (fun _=>⟨P72,n0⟩) (vcs_nil))))
 · intro x hx0
   have hx':=valV_of (v:=v) (by rfl) hx0
   rw [hx']
   show Value.agg #[.int .i64 (v 31),.int .i64 (v 28)]=_
   rw [w28,w31]
def ahvL (a b:Int):Int:=acoL (1073741824 - 2*max a 0)
def ahvH (a b:Int):Int:=acoH (1073741824 - 2*min b 1073741824)
def ahvV (a b:Int):List Int:=[ahvL a b,ahvH a b,0]
def ahvP (a b:Int):Prop:=fxV a b=true∧0≤b∧a≤1073741824
theorem acV46 (x y:Int):(semA 46 [x,y]).getD 0 0=acoL y∧(semA 46 [x,y]).getD 1 0=acoH x∧(semA 46 [x,y]).getD 2 0=0:=getD3 _ _ _
def nd_pAhv:List Nd:=[
 .arg 0,
 .arg 1,
 .app 8 0 [.n 0,.n 1],
 .ite (.n 2) (.c 0) (.c 1),
 .ite (.n 3) (.c 0) (.c 1),
 .mx (.n 0) (.c 0),
 .mn (.n 1) (.c 1073741824),
 .bin .leq .i64 (.n 5) (.n 6),
 .ite (.n 7) (.c 0) (.c 1),
 .bin .mul .i64 (.c 2) (.n 6),
 .bin .sub .i64 (.c 1073741824) (.n 9),
 .bin .mul .i64 (.c 2) (.n 5),
 .bin .sub .i64 (.c 1073741824) (.n 11),
 .app 46 0 [.n 10,.n 12],
 .app 46 1 [.n 10,.n 12],
 .app 46 2 [.n 10,.n 12],
 .ite (.n 8) (.c 2) (.n 15),
 .ite (.n 8) (.c 0) (.n 13),
 .ite (.n 8) (.c 0) (.n 14),
 .ite (.n 3) (.c 1) (.n 16),
 .ite (.n 3) (.c 0) (.n 17),
 .ite (.n 3) (.c 0) (.n 18),
 .ite (.n 3) (.n 0) (.n 5),
 .ite (.n 3) (.n 1) (.n 6)]
def vc_pAhv:List Vc:=[
 ⟨[],.pre 8 [.n 0,.n 1]⟩,
 ⟨[(.n 7,true),(.n 4,true)],.pre 46 [.n 10,.n 12]⟩]
theorem wh_pAhv:whole Tryz.prog spAc 20 40 277 [(true,[some .i64,some .i64])]=some (.tup [.agg [.int .i64 (.n 20),.int .i64 (.n 21)],.c (.int .i64 (.n 19))],⟨nd_pAhv.reverse,vc_pAhv.reverse⟩):=by kernel_rfl
theorem wf_pAhv:wfN nd_pAhv.reverse=true:=by kernel_rfl
set_option maxRecDepth 100000 in
theorem c_pAhv (a b:Int) (w:World) (h:ahvP a b):Calls Tryz.prog 277 #[.agg #[.int .i64 a,.int .i64 b]] w fun e w'=>e=.returned (.tuple #[.agg #[.int .i64 (ahvL a b),.int .i64 (ahvH a b)],.int .i64 0])∧Below w.heap.size w w':=by
 refine Sx.calls (X:=cxA [a,b]) hmix (spAc_ok _) wh_pAhv wf_pAhv (fun v hs=>?_) w
 have e0:v 0=a:=satF hs 0 rfl
 have e1:v 1=b:=satF hs 1 rfl
 have e5:v 5=if (0:Int) > v 0 then (0:Int) else v 0:=satF hs 5 rfl
 have e6:v 6=if (1073741824:Int) < v 1 then (1073741824:Int) else v 1:=satF hs 6 rfl
 have e9:v 9=IntKind.i64.wrap ((2:Int)*v 6):=satF hs 9 rfl
 have e10:v 10=IntKind.i64.wrap ((1073741824:Int) - v 9):=satF hs 10 rfl
 have e11:v 11=IntKind.i64.wrap ((2:Int)*v 5):=satF hs 11 rfl
 have e12:v 12=IntKind.i64.wrap ((1073741824:Int) - v 11):=satF hs 12 rfl
 have e13:v 13=(semA 46 [v 10,v 12]).getD 0 0:=satF hs 13 rfl
 have e14:v 14=(semA 46 [v 10,v 12]).getD 1 0:=satF hs 14 rfl
 have e15:v 15=(semA 46 [v 10,v 12]).getD 2 0:=satF hs 15 rfl
 have e7:v 7=b2i (decide (v 5≤v 6)):=satF hs 7 rfl
 have e2:v 2=b2i (fxV (v 0) (v 1)):=satF hs 2 rfl
 obtain ⟨h1,h2,h3⟩:=h
 have hh:=(fxV_iff _ _).1 h1
 have wp:v 5=max a 0:=by rw [e5,e0];omega
 have wq:v 6=min b 1073741824:=by rw [e6,e1];omega
 have A2:v 2=1:=by rw [e2,e0,e1,h1];rfl
 have AK:v 7=1:=by rw [e7,wp,wq,decide_eq_true (by omega)];rfl
 have w9:v 9=2*v 6:=by rw [e9,Go.IntWalk.i64_in _ (by omega)]
 have w10:v 10=1073741824 - 2*min b 1073741824:=by rw [e10,w9,wq,Go.IntWalk.i64_in _ (by omega)]
 have w11:v 11=2*v 5:=by rw [e11,Go.IntWalk.i64_in _ (by omega)]
 have w12:v 12=1073741824 - 2*max a 0:=by rw [e12,w11,wp,Go.IntWalk.i64_in _ (by omega)]
 have V0:v 13=acoL (v 12):=e13.trans (acV46 _ _).1
 have V1:v 14=acoH (v 10):=e14.trans (acV46 _ _).2.1
 have z20:v 20=v 13:=norm_eq2 (X:=cxA [a,b]) (v:=v) (l:=nd_pAhv) (extA_ok _) hs (k:=20) (j:=13) (ps:=[(2,.c 1),(7,.c 1)]) (ps_cons A2 (ps_cons AK ps_nil)) (by kernel_rfl)
 have z21:v 21=v 14:=norm_eq2 (X:=cxA [a,b]) (v:=v) (l:=nd_pAhv) (extA_ok _) hs (k:=21) (j:=14) (ps:=[(2,.c 1),(7,.c 1)]) (ps_cons A2 (ps_cons AK ps_nil)) (by kernel_rfl)
 have z19:v 19=0:=norm_val (X:=cxA [a,b]) (v:=v) (l:=nd_pAhv) (extA_ok _) hs (k:=19) (r:=.c 0) (ps:=[(2,.c 1),(7,.c 1)]) (nz:=[]) (ps_cons A2 (ps_cons AK ps_nil)) nz_nil (by kernel_rfl)
 have P46:fxV (v 10) (v 12)=true∧v 10≤1073741824∧-1073741824≤v 12:=by rw [fxV_iff,w10,w12];omega
 refine ⟨vcs_rev ?_,?_⟩
 · exact vcs_cons (fun _=>trivial) (vcs_cons (fun _=>P46) (vcs_nil))
 · intro x hx0
   have hx':=valV_of (v:=v) (by rfl) hx0
   rw [hx']
   show Value.tuple #[.agg #[.int .i64 (v 20),.int .i64 (v 21)],.int .i64 (v 19)]=_
   rw [z20,z21,z19,V0,V1,w10,w12];rfl
def nd_rAhv:List Nd:=[
 .arg 0,
 .arg 1,
 .bin .leq .i64 (.n 0) (.n 1),
 .bin .geq .i64 (.n 0) (.c (-2147483648)),
 .ite (.n 2) (.n 3) (.c 0),
 .bin .leq .i64 (.n 1) (.c 2147483648),
 .ite (.n 4) (.n 5) (.c 0),
 .ite (.n 6) (.c 0) (.c 1),
 .bin .lss .i64 (.n 0) (.c 0),
 .ite (.n 8) (.c 0) (.c 1),
 .ite (.n 8) (.c 0) (.n 0),
 .bin .gtr .i64 (.n 1) (.c 1073741824),
 .ite (.n 11) (.c 0) (.c 1),
 .ite (.n 11) (.c 1073741824) (.n 1),
 .bin .gtr .i64 (.n 10) (.n 13),
 .ite (.n 14) (.c 0) (.c 1),
 .bin .mul .i64 (.c 2) (.n 13),
 .bin .sub .i64 (.c 1073741824) (.n 16),
 .bin .mul .i64 (.c 2) (.n 10),
 .bin .sub .i64 (.c 1073741824) (.n 18),
 .app 46 0 [.n 17,.n 19],
 .app 46 1 [.n 17,.n 19],
 .app 46 2 [.n 17,.n 19],
 .ite (.n 14) (.c 2) (.n 22),
 .ite (.n 14) (.c 0) (.n 20),
 .ite (.n 14) (.c 0) (.n 21),
 .ite (.n 7) (.c 1) (.n 23),
 .ite (.n 7) (.c 0) (.n 24),
 .ite (.n 7) (.c 0) (.n 25)]
def vc_rAhv:List Vc:=[
 ⟨[(.n 15,true),(.n 6,true)],.pre 46 [.n 17,.n 19]⟩]
theorem wh_rAhv:whole Tryz.prog spAc 20 40 279 [(true,[some .i64,some .i64])]=some (.tup [.agg [.int .i64 (.n 27),.int .i64 (.n 28)],.c (.int .i64 (.n 26))],⟨nd_rAhv.reverse,vc_rAhv.reverse⟩):=by kernel_rfl
theorem wf_rAhv:wfN nd_rAhv.reverse=true:=by kernel_rfl
set_option maxRecDepth 100000 in
theorem c_rAhv (a b:Int) (w:World) (h:ahvP a b):Calls Tryz.prog 279 #[.agg #[.int .i64 a,.int .i64 b]] w fun e w'=>e=.returned (.tuple #[.agg #[.int .i64 (ahvL a b),.int .i64 (ahvH a b)],.int .i64 0])∧Below w.heap.size w w':=by
 refine Sx.calls (X:=cxA [a,b]) hmix (spAc_ok _) wh_rAhv wf_rAhv (fun v hs=>?_) w
 have e0:v 0=a:=satF hs 0 rfl
 have e1:v 1=b:=satF hs 1 rfl
 have e10:v 10=if v 8≠0 then (0:Int) else v 0:=satF hs 10 rfl
 have e13:v 13=if v 11≠0 then (1073741824:Int) else v 1:=satF hs 13 rfl
 have e16:v 16=IntKind.i64.wrap ((2:Int)*v 13):=satF hs 16 rfl
 have e17:v 17=IntKind.i64.wrap ((1073741824:Int) - v 16):=satF hs 17 rfl
 have e18:v 18=IntKind.i64.wrap ((2:Int)*v 10):=satF hs 18 rfl
 have e19:v 19=IntKind.i64.wrap ((1073741824:Int) - v 18):=satF hs 19 rfl
 have e20:v 20=(semA 46 [v 17,v 19]).getD 0 0:=satF hs 20 rfl
 have e21:v 21=(semA 46 [v 17,v 19]).getD 1 0:=satF hs 21 rfl
 have e22:v 22=(semA 46 [v 17,v 19]).getD 2 0:=satF hs 22 rfl
 have e14:v 14=b2i (decide (v 10 > v 13)):=satF hs 14 rfl
 have e8:v 8=b2i (decide (v 0 < (0:Int))):=satF hs 8 rfl
 have e11:v 11=b2i (decide (v 1 > (1073741824:Int))):=satF hs 11 rfl
 have e2:v 2=b2i (decide (v 0≤v 1)):=satF hs 2 rfl
 have e3:v 3=b2i (decide (v 0≥(-2147483648:Int))):=satF hs 3 rfl
 have e4:v 4=if v 2≠0 then v 3 else (0:Int):=satF hs 4 rfl
 have e5:v 5=b2i (decide (v 1≤(2147483648:Int))):=satF hs 5 rfl
 have e6:v 6=if v 4≠0 then v 5 else (0:Int):=satF hs 6 rfl
 obtain ⟨h1,h2,h3⟩:=h
 have hh:=(fxV_iff _ _).1 h1
 have wp:v 10=max a 0:=by rw [e10,e8,b2i_dec2,e0];split<;>omega
 have wq:v 13=min b 1073741824:=by rw [e13,e11,b2i_dec2,e1];split<;>omega
 have A2:v 6=1:=by rw [e6,e4,e2,e3,e5,bb2,bb2,e0,e1,decide_eq_true (by omega)];rfl
 have AK:v 14=0:=by rw [e14,wp,wq,decide_eq_false (by omega)];rfl
 have w16:v 16=2*v 13:=by rw [e16,Go.IntWalk.i64_in _ (by omega)]
 have w17:v 17=1073741824 - 2*min b 1073741824:=by rw [e17,w16,wq,Go.IntWalk.i64_in _ (by omega)]
 have w18:v 18=2*v 10:=by rw [e18,Go.IntWalk.i64_in _ (by omega)]
 have w19:v 19=1073741824 - 2*max a 0:=by rw [e19,w18,wp,Go.IntWalk.i64_in _ (by omega)]
 have V0:v 20=acoL (v 19):=e20.trans (acV46 _ _).1
 have V1:v 21=acoH (v 17):=e21.trans (acV46 _ _).2.1
 have z27:v 27=v 20:=norm_eq2 (X:=cxA [a,b]) (v:=v) (l:=nd_rAhv) (extA_ok _) hs (k:=27) (j:=20) (ps:=[(6,.c 1),(14,.c 0)]) (ps_cons A2 (ps_cons AK ps_nil)) (by kernel_rfl)
 have z28:v 28=v 21:=norm_eq2 (X:=cxA [a,b]) (v:=v) (l:=nd_rAhv) (extA_ok _) hs (k:=28) (j:=21) (ps:=[(6,.c 1),(14,.c 0)]) (ps_cons A2 (ps_cons AK ps_nil)) (by kernel_rfl)
 have z26:v 26=0:=norm_val (X:=cxA [a,b]) (v:=v) (l:=nd_rAhv) (extA_ok _) hs (k:=26) (r:=.c 0) (ps:=[(6,.c 1),(14,.c 0)]) (nz:=[]) (ps_cons A2 (ps_cons AK ps_nil)) nz_nil (by kernel_rfl)
 have P46:fxV (v 17) (v 19)=true∧v 17≤1073741824∧-1073741824≤v 19:=by rw [fxV_iff,w17,w19];omega
 refine ⟨vcs_rev ?_,?_⟩
 · exact vcs_cons (fun _=>P46) (vcs_nil)
 · intro x hx0
   have hx':=valV_of (v:=v) (by rfl) hx0
   rw [hx']
   show Value.tuple #[.agg #[.int .i64 (v 27),.int .i64 (v 28)],.int .i64 (v 26)]=_
   rw [z27,z28,z26,V0,V1,w17,w19];rfl
end Go.Proofs.YtfffpodaabdpfaaGreat
