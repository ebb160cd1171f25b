/- Small functions of the reference's solution by tables. -/
import Derived.Test.YtdbaccfgkacffaaGreatZLkP
set_option linter.unusedVariables false
set_option linter.unusedSimpArgs false
set_option maxRecDepth 100000
namespace Go.Proofs.YtdbaccfgkacffaaGreat
open Go.RowKit Alm Sx
def IE:List Nd:=[.arg 0,.bin .mul .i64 0 (.c 60000)]
def Td:List Vc:=[]
theorem U5:whole Tryz.prog [] 20 40 56 [(false,[some .i64])]=some (.p (.agg [.int .i64 (.n 1),.int .i64 (.n 1)]),⟨IE.reverse,Td.reverse⟩):=by kernel_rfl
theorem V7:wfN IE.reverse=true:=by kernel_rfl
theorem Wn (a:Int) (w:World) (h:-1000000<=a/\a<=1000000):Calls Tryz.prog 56 #[.int .i64 a] w fun e w'=>e=.returned (.agg #[.int .i64 (a*60000),.int .i64 (a*60000)])/\Below w.heap.size w w':=by
 refine Sx.calls (X:=cxS [a]) dN (fun s hs=>by cases hs) U5 V7 (fun v hs=>?_) w
 have e0:v 0=a:=aa hs 0 rfl;have w1:v 1=a*60000:=by rw [show v 1=IntKind.i64.wrap (v 0*(60000:Int)) from aa hs 1 rfl,e0,Go.IntWalk.i64_in _ (by omega)]
 refine ⟨aT ?_,?_⟩
 . exact aU
 . intro x hx0;have hx':=bG (v:=v) (by rfl) hx0
   rw [hx'];show Value.agg #[.int .i64 (v 1),.int .i64 (v 1)]=_;rw [w1]
def Jr:List Nd:=[.arg 0,.arg 1,.bin .sub .i64 1 0,.bin .geq .i64 2 (.c 21600000)]
def VM:List Vc:=[]
theorem Tf:whole Tryz.prog [] 20 40 60 [(true,[some .i64,some .i64])]=some (.p (.c (.bool (.n 3))),⟨Jr.reverse,VM.reverse⟩):=by kernel_rfl
theorem Vm:wfN Jr.reverse=true:=by kernel_rfl
theorem KX (a b:Int) (w:World) (h1:-1000000000000<=a/\a<=1000000000000) (h2:-1000000000000<=b/\b<=1000000000000):Calls Tryz.prog 60 #[.agg #[.int .i64 a,.int .i64 b]] w fun e w'=>e=.returned (.bool (decide (b-a>=21600000)))/\Below w.heap.size w w':=by
 refine Sx.calls (X:=cxS [a,b]) dN (fun s hs=>by cases hs) Tf Vm (fun v hs=>?_) w
 have e0:v 0=a:=aa hs 0 rfl;have e1:v 1=b:=aa hs 1 rfl;have w3:v 3=b2i (decide (b-a>=21600000)):=by rw [show v 3=b2i (decide (v 2>=(21600000:Int))) from aa hs 3 rfl,show v 2=IntKind.i64.wrap (v 1-v 0) from aa hs 2 rfl,e0,e1,Go.IntWalk.i64_in _ (by omega)]
 refine ⟨aT ?_,?_⟩
 . exact aU
 . intro x hx0;have hx':=bG (v:=v) (by rfl) hx0
   rw [hx'];show Value.bool (decide (v 3≠0))=_;rw [w3];by_cases q:b-a>=21600000<;>simp [q,b2i]
def IK:List Nd:=[.arg 0,.arg 1,.bin .sub .i64 1 0,.bin .geq .i64 2 (.c 21600000),.ite 3 (.c 0) (.c 1),.bin .rem .i64 0 (.c 21600000),.bin .lss .i64 5 (.c 0),.bin .add .i64 5 (.c 21600000),.ite 6 (.c 0) (.c 1),.ite 6 7 5,.bin .add .i64 9 2,.ite 3 (.c 0) 9,.ite 3 (.c 21600000) 10]
def UE:List Vc:=[]
theorem SI:whole Tryz.prog [] 20 40 61 [(true,[some .i64,some .i64])]=some (.p (.agg [.int .i64 (.n 11),.int .i64 (.n 12)]),⟨IK.reverse,UE.reverse⟩):=by kernel_rfl
theorem UO:wfN IK.reverse=true:=by kernel_rfl
theorem NU (a b:Int) (w:World) (h1:-1000000000000<=a/\a<=1000000000000) (h2:-1000000000000<=b/\b<=1000000000000):Calls Tryz.prog 61 #[.agg #[.int .i64 a,.int .i64 b]] w fun e w'=>e=.returned (.agg #[.int .i64 (trL a b),.int .i64 (trH a b)])/\Below w.heap.size w w':=by
 refine Sx.calls (X:=cxS [a,b]) dN (fun s hs=>by cases hs) SI UO (fun v hs=>?_) w
 have e0:v 0=a:=aa hs 0 rfl;have e1:v 1=b:=aa hs 1 rfl;have w2:v 2=b-a:=by rw [show v 2=IntKind.i64.wrap (v 1-v 0) from aa hs 2 rfl,e0,e1,Go.IntWalk.i64_in _ (by omega)]
 have w3:v 3=b2i (decide (b-a>=21600000)):=by rw [show v 3=b2i (decide (v 2>=(21600000:Int))) from aa hs 3 rfl,w2]
 have w9:v 9=a%21600000:=by rw [<-e0];exact dJ (x:=v 0) (r:=v 5) (c:=v 6) (s:=v 7) (by omega) (aa hs 5 rfl) (aa hs 6 rfl) (aa hs 7 rfl) (aa hs 9 rfl)
 have w10:v 10=a%21600000+(b-a):=by rw [show v 10=IntKind.i64.wrap (v 9+v 2) from aa hs 10 rfl,w9,w2,Go.IntWalk.i64_in _ (by omega)]
 have w11:v 11=trL a b:=by
  have q:v 11=if b-a>=21600000 then 0 else v 9:=kif w3 (aa hs 11 rfl)
  rw [q,w9];rfl
 have w12:v 12=trH a b:=by
  have q:v 12=if b-a>=21600000 then 21600000 else v 10:=kif w3 (aa hs 12 rfl)
  rw [q,w10];rfl
 refine ⟨aT ?_,?_⟩
 . exact aU
 . intro x hx0;have hx':=bG (v:=v) (by rfl) hx0
   rw [hx'];show Value.agg #[.int .i64 (v 11),.int .i64 (v 12)]=_;rw [w11,w12]
def JO:List Nd:=[.arg 0,.arg 1,.bin .sub .i64 (.c 0) 1,.bin .sub .i64 (.c 0) 0]
def Ty:List Vc:=[]
theorem VW:whole Tryz.prog [] 20 40 62 [(true,[some .i64,some .i64])]=some (.p (.agg [.int .i64 (.n 2),.int .i64 (.n 3)]),⟨JO.reverse,Ty.reverse⟩):=by kernel_rfl
theorem Vz:wfN JO.reverse=true:=by kernel_rfl
theorem Vb (a b:Int) (w:World) (h1:-1000000000000<=a/\a<=1000000000000) (h2:-1000000000000<=b/\b<=1000000000000):Calls Tryz.prog 62 #[.agg #[.int .i64 a,.int .i64 b]] w fun e w'=>e=.returned (.agg #[.int .i64 (-b),.int .i64 (-a)])/\Below w.heap.size w w':=by
 refine Sx.calls (X:=cxS [a,b]) dN (fun s hs=>by cases hs) VW Vz (fun v hs=>?_) w
 have e0:v 0=a:=aa hs 0 rfl;have e1:v 1=b:=aa hs 1 rfl;have w2:v 2=-b:=by rw [show v 2=IntKind.i64.wrap ((0:Int)-v 1) from aa hs 2 rfl,e1,Go.IntWalk.i64_in _ (by omega)];omega
 have w3:v 3=-a:=by rw [show v 3=IntKind.i64.wrap ((0:Int)-v 0) from aa hs 3 rfl,e0,Go.IntWalk.i64_in _ (by omega)];omega
 refine ⟨aT ?_,?_⟩
 . exact aU
 . intro x hx0;have hx':=bG (v:=v) (by rfl) hx0
   rw [hx'];show Value.agg #[.int .i64 (v 2),.int .i64 (v 3)]=_;rw [w2,w3]
def J4:List Nd:=[.arg 0,.arg 1,.bin .sub .i64 1 0,.bin .geq .i64 2 (.c 21600000),.ite 3 (.c 0) (.c 1),.bin .rem .i64 0 (.c 21600000),.bin .lss .i64 5 (.c 0),.bin .add .i64 5 (.c 21600000),.ite 6 (.c 0) (.c 1),.ite 6 7 5,.bin .add .i64 9 2,.ite 3 (.c 0) 9,.ite 3 (.c 21600000) 10,.bin .leq .i64 12 (.c 10800000),.ite 13 (.c 0) (.c 1),.bin .sub .i64 (.c 21600000) 12,.bin .sub .i64 (.c 21600000) 11,.bin .geq .i64 11 (.c 10800000),.bin .leq .i64 12 (.c 21600000),.ite 17 18 (.c 0),.ite 13 (.c 1) 19,.ite 13 11 15,.ite 13 12 16]
def Vj:List Vc:=[]
theorem Uq:whole Tryz.prog [] 20 40 53 [(true,[some .i64,some .i64])]=some (.tup [.agg [.int .i64 (.n 21),.int .i64 (.n 22)],.c (.bool (.n 14)),.c (.bool (.n 20))],⟨J4.reverse,Vj.reverse⟩):=by kernel_rfl
theorem Sw:wfN J4.reverse=true:=by kernel_rfl
theorem SF (m n:Int) (w:World) (h:-1099511627776<=m/\m<=n/\n<=1099511627776):Calls Tryz.prog 53 #[.agg #[.int .i64 m,.int .i64 n]] w fun e w'=>e=.returned (.tuple #[.agg #[.int .i64 (dP m n),.int .i64 (gJ m n)],.bool (decide (lkM m n)),.bool (decide (¬ jT m n))])/\Below w.heap.size w w':=by
 refine Sx.calls (X:=cxS [m,n]) dN (fun s hs=>by cases hs) Uq Sw (fun v hs=>?_) w
 have e0:v 0=m:=aa hs 0 rfl;have e1:v 1=n:=aa hs 1 rfl;have w2:v 2=n-m:=by rw [show v 2=IntKind.i64.wrap (v 1-v 0) from aa hs 2 rfl,e0,e1,Go.IntWalk.i64_in _ (by omega)]
 have w3:v 3=b2i (decide (n-m>=21600000)):=by rw [show v 3=b2i (decide (v 2>=(21600000:Int))) from aa hs 3 rfl,w2]
 have w9:v 9=m%21600000:=by rw [<-e0];exact dJ (x:=v 0) (r:=v 5) (c:=v 6) (s:=v 7) (by omega) (aa hs 5 rfl) (aa hs 6 rfl) (aa hs 7 rfl) (aa hs 9 rfl)
 have w10:v 10=m%21600000+(n-m):=by rw [show v 10=IntKind.i64.wrap (v 9+v 2) from aa hs 10 rfl,w9,w2,Go.IntWalk.i64_in _ (by omega)]
 have w11:v 11=trL m n:=by
  have q:v 11=if n-m>=21600000 then 0 else v 9:=kif w3 (aa hs 11 rfl)
  rw [q,w9];rfl
 have w12:v 12=trH m n:=by
  have q:v 12=if n-m>=21600000 then 21600000 else v 10:=kif w3 (aa hs 12 rfl)
  rw [q,w10];rfl
 have TB:=xE h.2.1
 have w14:v 14=b2i (decide (lkM m n)):=by
  rw [show v 14=if v 13≠0 then (0:Int) else (1:Int) from aa hs 14 rfl,show v 13=b2i (decide (v 12<=(10800000:Int))) from aa hs 13 rfl,w12]
  by_cases qm:lkM m n
  . have:¬ trH m n<=10800000:=by unfold lkM at qm;omega
    simp [qm,this,b2i]
  . have:trH m n<=10800000:=by unfold lkM at qm;omega
    simp [qm,this,b2i]
 have w13:v 13=b2i (decide (¬ lkM m n)):=by
  rw [show v 13=b2i (decide (v 12<=(10800000:Int))) from aa hs 13 rfl,w12]
  exact congrArg b2i (decide_eq_decide.2 (by unfold lkM;omega))
 have w20:v 20=b2i (decide (¬ jT m n)):=by
  rw [show v 20=if v 13≠0 then (1:Int) else v 19 from aa hs 20 rfl,show v 19=if v 17≠0 then v 18 else (0:Int) from aa hs 19 rfl,show v 17=b2i (decide (v 11>=(10800000:Int))) from aa hs 17 rfl,show v 18=b2i (decide (v 12<=(21600000:Int))) from aa hs 18 rfl,w13,w11,w12]
  unfold jT
  by_cases q1:lkM m n
  . by_cases q2:trL m n>=10800000
    . by_cases q3:trH m n<=21600000
      . have:¬ (trL m n<10800000∨trH m n>21600000):=by omega
        simp [q1,q2,q3,this,b2i]
      . have:(trL m n<10800000∨trH m n>21600000):=by omega
        simp [q1,q2,q3,this,b2i]
    . have:(trL m n<10800000∨trH m n>21600000):=by omega
      simp [q1,q2,this,b2i]
  . simp [q1,b2i]
 have w15:v 15=21600000-trH m n:=by rw [show v 15=IntKind.i64.wrap ((21600000:Int)-v 12) from aa hs 15 rfl,w12,Go.IntWalk.i64_in _ (by omega)]
 have w16:v 16=21600000-trL m n:=by rw [show v 16=IntKind.i64.wrap ((21600000:Int)-v 11) from aa hs 16 rfl,w11,Go.IntWalk.i64_in _ (by omega)]
 have w21:v 21=dP m n:=by
  have q:v 21=if ¬ lkM m n then v 11 else v 15:=kif w13 (aa hs 21 rfl)
  rw [q,w11,w15];unfold dP
  by_cases q1:lkM m n<;>simp [q1]
 have w22:v 22=gJ m n:=by
  have q:v 22=if ¬ lkM m n then v 12 else v 16:=kif w13 (aa hs 22 rfl)
  rw [q,w12,w16];unfold gJ
  by_cases q1:lkM m n<;>simp [q1]
 refine ⟨aT ?_,?_⟩
 . exact aU
 . intro x hx0;have hx':=bG (v:=v) (by rfl) hx0
   rw [hx'];show Value.tuple #[.agg #[.int .i64 (v 21),.int .i64 (v 22)],.bool (decide (v 14≠0)),.bool (decide (v 20≠0))]=_;rw [w21,w22,w14,w20];by_cases q1:lkM m n<;>by_cases q2:jT m n<;>simp [q1,q2,b2i]
def fw (a g:Int):Int:=if a/60000=g then g-1 else a/60000
def JR:List Nd:=[.arg 0,.arg 1,.arg 2,.arg 3,.bin .quo .i64 0 (.c 60000),.bin .rem .i64 0 (.c 60000),.bin .lss .i64 5 (.c 0),.bin .sub .i64 4 (.c 1),.ite 6 (.c 0) (.c 1),.ite 6 7 4,.bin .eql .i64 9 3,.bin .sub .i64 3 (.c 1),.ite 10 (.c 0) (.c 1),.ite 10 11 9,.bin .mul .i64 13 (.c 60000),.bin .sub .i64 0 14,.bin .sub .i64 1 14,.bin .geq .i64 13 2,.bin .lss .i64 13 3,.ite 17 18 (.c 0),.bin .leq .i64 16 (.c 60000),.ite 19 20 (.c 0)]
def Sy:List Vc:=[]
theorem Us:whole Tryz.prog [] 20 40 54 [(true,[some .i64,some .i64]),(false,[some .i64]),(false,[some .i64])]=some (.tup [.c (.int .i64 (.n 13)),.agg [.int .i64 (.n 15),.int .i64 (.n 16)],.c (.bool (.n 21))],⟨JR.reverse,Sy.reverse⟩):=by kernel_rfl
theorem UA:wfN JR.reverse=true:=by kernel_rfl
theorem Dc (a b lo hi:Int) (w:World) (h1:-1000000000000<=a/\a<=1000000000000) (h2:-1000000000000<=b/\b<=1000000000000) (h3:-1000<=lo/\lo<=1000) (h4:-1000<=hi/\hi<=1000):Calls Tryz.prog 54 #[.agg #[.int .i64 a,.int .i64 b],.int .i64 lo,.int .i64 hi] w fun e w'=>e=.returned (.tuple #[.int .i64 (fw a hi),.agg #[.int .i64 (a-fw a hi*60000),.int .i64 (b-fw a hi*60000)],.bool (decide (lo<=fw a hi/\fw a hi<hi/\b-fw a hi*60000<=60000))])/\Below w.heap.size w w':=by
 refine Sx.calls (X:=cxS [a,b,lo,hi]) dN (fun s hs=>by cases hs) Us UA (fun v hs=>?_) w
 have e0:v 0=a:=aa hs 0 rfl;have e1:v 1=b:=aa hs 1 rfl;have e2:v 2=lo:=aa hs 2 rfl;have e3:v 3=hi:=aa hs 3 rfl;have w9:v 9=a/60000:=by rw [<-e0];exact dn (x:=v 0) (m:=60000) (q:=v 4) (r:=v 5) (c:=v 6) (s:=v 7) (z:=v 9) (by omega) (by omega) (aa hs 4 rfl) (aa hs 5 rfl) (aa hs 6 rfl) (aa hs 7 rfl) (aa hs 9 rfl)
 have w11:v 11=hi-1:=by rw [show v 11=IntKind.i64.wrap (v 3-(1:Int)) from aa hs 11 rfl,e3,Go.IntWalk.i64_in _ (by omega)]
 have w10:v 10=b2i (decide (a/60000=hi)):=by rw [show v 10=b2i (v 9==v 3) from aa hs 10 rfl,w9,e3];rfl
 have w13:v 13=fw a hi:=by
  have q:v 13=if a/60000=hi then v 11 else v 9:=kif w10 (aa hs 13 rfl)
  rw [q,w11,w9];rfl
 have kb:-100000000<=fw a hi/\fw a hi<=100000000:=by unfold fw;split<;>omega
 have w14:v 14=fw a hi*60000:=by rw [show v 14=IntKind.i64.wrap (v 13*(60000:Int)) from aa hs 14 rfl,w13,Go.IntWalk.i64_in _ (by omega)]
 have w15:v 15=a-fw a hi*60000:=by rw [show v 15=IntKind.i64.wrap (v 0-v 14) from aa hs 15 rfl,w14,e0,Go.IntWalk.i64_in _ (by omega)]
 have w16:v 16=b-fw a hi*60000:=by rw [show v 16=IntKind.i64.wrap (v 1-v 14) from aa hs 16 rfl,w14,e1,Go.IntWalk.i64_in _ (by omega)]
 have w21:v 21=b2i (decide (lo<=fw a hi/\fw a hi<hi/\b-fw a hi*60000<=60000)):=Bp (P:=lo<=fw a hi) (Q:=fw a hi<hi) (R:=b-fw a hi*60000<=60000) (a:=v 17) (b:=v 18) (e:=v 20) (q:=v 19) (r:=v 21) (by rw [show v 17=b2i (decide (v 13>=v 2)) from aa hs 17 rfl,w13,e2]) (by rw [show v 18=b2i (decide (v 13<v 3)) from aa hs 18 rfl,w13,e3]) (by rw [show v 20=b2i (decide (v 16<=(60000:Int))) from aa hs 20 rfl,w16]) (aa hs 19 rfl) (aa hs 21 rfl)
 refine ⟨aT ?_,?_⟩
 . exact aU
 . intro x hx0;have hx':=bG (v:=v) (by rfl) hx0
   rw [hx'];show Value.tuple #[.int .i64 (v 13),.agg #[.int .i64 (v 15),.int .i64 (v 16)],.bool (decide (v 21≠0))]=_;rw [w13,w15,w16,w21];by_cases q1:(lo<=fw a hi/\fw a hi<hi/\b-fw a hi*60000<=60000)<;>simp [q1,b2i]
def Ji:List Nd:=[.arg 0,.arg 1,.arg 2,.arg 3,.bin .mul .i64 2 (.c 60000),.bin .mul .i64 3 (.c 60000),.app 53 0 [0,1,4,4,5,5],.app 53 1 [0,1,4,4,5,5],.app 53 2 [0,1,4,4,5,5],.app 53 3 [0,1,4,4,5,5]]
def Vi:List Vc:=[⟨[],.pre 53 [0,1,4,4,5,5]⟩]
theorem Ur:whole Tryz.prog [Gm] 20 40 58 [(true,[some .i64,some .i64]),(false,[some .i64]),(false,[some .i64])]=some (.p (.agg [.int .i64 (.n 6),.int .i64 (.n 7),.int .i64 (.n 8),.int .i64 (.n 9)]),⟨Ji.reverse,Vi.reverse⟩):=by kernel_rfl
theorem RB:wfN Ji.reverse=true:=by kernel_rfl
theorem Cf (a b j k:Int) (w:World) (h1:-5400000<=a/\a<=b/\b<=5400000) (h2:-90<=j/\j<=90) (h3:0<=k/\k<=180):Calls Tryz.prog 58 #[.agg #[.int .i64 a,.int .i64 b],.int .i64 j,.int .i64 k] w fun e w'=>e=.returned (.agg #[.int .i64 (lkI a b (j*60000) (k*60000) 0),.int .i64 (lkI a b (j*60000) (k*60000) 1),.int .i64 (lkI a b (j*60000) (k*60000) 2),.int .i64 (lkI a b (j*60000) (k*60000) 3)])/\Below w.heap.size w w':=by
 refine Sx.calls (X:=cxS [a,b,j,k]) dN (fun s hs=>by simp only [List.mem_cons,List.not_mem_nil,or_false] at hs;subst hs;exact yG _) Ur RB (fun v hs=>?_) w
 have e0:v 0=a:=aa hs 0 rfl;have e1:v 1=b:=aa hs 1 rfl;have e2:v 2=j:=aa hs 2 rfl;have e3:v 3=k:=aa hs 3 rfl;have w4:v 4=j*60000:=by rw [show v 4=IntKind.i64.wrap (v 2*(60000:Int)) from aa hs 4 rfl,e2,Go.IntWalk.i64_in _ (by omega)]
 have w5:v 5=k*60000:=by rw [show v 5=IntKind.i64.wrap (v 3*(60000:Int)) from aa hs 5 rfl,e3,Go.IntWalk.i64_in _ (by omega)]
 have w6:v 6=lkI a b (j*60000) (k*60000) 0:=by rw [show v 6=(eG 53 [v 0,v 1,v 4,v 4,v 5,v 5]).getD 0 0 from aa hs 6 rfl,e0,e1,w4,w5];rfl
 have w7:v 7=lkI a b (j*60000) (k*60000) 1:=by rw [show v 7=(eG 53 [v 0,v 1,v 4,v 4,v 5,v 5]).getD 1 0 from aa hs 7 rfl,e0,e1,w4,w5];rfl
 have w8:v 8=lkI a b (j*60000) (k*60000) 2:=by rw [show v 8=(eG 53 [v 0,v 1,v 4,v 4,v 5,v 5]).getD 2 0 from aa hs 8 rfl,e0,e1,w4,w5];rfl
 have w9:v 9=lkI a b (j*60000) (k*60000) 3:=by rw [show v 9=(eG 53 [v 0,v 1,v 4,v 4,v 5,v 5]).getD 3 0 from aa hs 9 rfl,e0,e1,w4,w5];rfl
 refine ⟨aT ?_,?_⟩
 . exact ag (fun _=>(show dI (v 0) (v 1) (v 4) (v 4) (v 5) (v 5) by rw [e0,e1,w4,w5];exact ⟨h1,⟨by omega,by omega,by omega⟩,⟨by omega,by omega,by omega⟩⟩)) (aU)
 . intro x hx0;have hx':=bG (v:=v) (by rfl) hx0
   rw [hx'];show Value.agg #[.int .i64 (v 6),.int .i64 (v 7),.int .i64 (v 8),.int .i64 (v 9)]=_;rw [w6,w7,w8,w9]
theorem H9 {c d:Int} (h:-5400000<=c/\c<=d/\d<=5400000):fw c 90=lkJ c/\(decide (-90<=fw c 90/\fw c 90<90/\d-fw c 90*60000<=60000)=decide (pY c d)):=by
 have e:fw c 90=lkJ c:=by unfold fw lkJ;split<;>omega
 refine ⟨e,?_⟩;rw [e];refine decide_eq_decide.2 ?_;unfold pY lkJ;omega
theorem Hw {m n:Int} (h:m<=n) (hN:¬ jT m n):fw (dP m n) 180=lkK m n/\(decide (0<=fw (dP m n) 180/\fw (dP m n) 180<180/\gJ m n-fw (dP m n) 180*60000<=60000)=decide (l8 m n)):=by
 have TB:=xE h
 have b:0<=dP m n/\dP m n<=10800000:=by
  unfold jT at hN;unfold dP
  by_cases q:lkM m n
  . rw [if_pos q];have:¬ (trL m n<10800000∨trH m n>21600000):=fun z=>hN ⟨q,z⟩
    omega
  . rw [if_neg q];unfold lkM at q;omega
 have e:fw (dP m n) 180=lkK m n:=by unfold fw lkK;split<;>omega
 refine ⟨e,?_⟩;rw [e];refine decide_eq_decide.2 ?_;unfold l8 lkK;omega
