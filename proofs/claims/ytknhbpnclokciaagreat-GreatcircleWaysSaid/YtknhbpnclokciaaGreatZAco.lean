/- The known functions of great circles: arcsines and arccosines; small lemmas on nodes. -/
import Derived.Test.YtknhbpnclokciaaGreatZSpN
import Derived.Test.YtknhbpnclokciaaGreatZPAsin
import Derived.Test.YtknhbpnclokciaaGreatZAcos
import Derived.Test.YtknhbpnclokciaaGreatZEv
import Derived.Test.YtknhbpnclokciaaGreatZPlus
set_option linter.unusedVariables false
set_option linter.unusedSimpArgs false
set_option maxRecDepth 100000
namespace Go.Proofs.YtknhbpnclokciaaGreat
open Go.RowKit Alm Sx
theorem kW {X:Cx} {v:Nat->Int} {ext:Ext} (he:qO X ext) {l:List Nd} (hs:fH X v l.reverse) {ps:List (Nat × Rf)} (hp:∀ q∈ps,v q.1=q.2.val v) {k j:Nat} (h:Rf.eq ((norm ext ps [] l).rep (.n k)) ((norm ext ps [] l).rep (.n j))=true):v k=v j:=by
 have a:=uw (xX he hs hp bB) (.n k);have b:=uw (xX he hs hp bB) (.n j);rw [Rf.eq_eq h] at a;exact a.symm.trans b
theorem bb2 {p q:Prop} [Decidable p] [Decidable q]:(if b2i (decide p)≠0 then b2i (decide q) else 0)=b2i (decide (p/\q)):=by
 by_cases h1:p<;>by_cases h2:q<;>simp [b2i,h1,h2]
theorem Zk {p:Prop} [Decidable p] {x y:Int}:(if b2i (decide p)≠0 then x else y)=if p then x else y:=by
 by_cases h:p<;>simp [b2i,h]
theorem Z7 (x y z:Int):[x,y,z].getD 0 0=x/\[x,y,z].getD 1 0=y/\[x,y,z].getD 2 0=z:=⟨rfl,rfl,rfl⟩
def aei (t:Tab):Nd->Option Rf:=fun _=>none
theorem aan (X:Cx):qO X aei:=fun v t x r ht h=>by cases h
def kA (f:Nat):Bool:=f==36 || f==46
def TV:Nat->List Int->List Int
 | 36,[a,b]=>[if Bz a b=0 then QO a else 0,if Bz a b=0 then Ji b else 0,Bz a b]
 | 46,[a,b]=>[ZW b,ZX a,0]
 | _,_=>[]
def aeh:Nat->List Int->Prop
 | 36,[a,b]=>fxV a b=true
 | 46,[a,b]=>fxV a b=true/\a<=1073741824/\-1073741824<=b
 | _,_=>False
def cxA (args:List Int):Cx:=(cxB args).plus kA TV aeh
theorem adr (args:List Int):Cf (cxB args):=⟨fun _ _ _=>rfl,fun _ _ _ h=>h⟩
theorem acV (args:List Int):Cf (cxA args):=wT (adr args) fun f h=>by
 unfold kA;rcases h with h|rfl
 . simp;omega
 . rfl
def adN (t:Tab):Nd->Option Rf
 | .app 46 2 [_,_]=>some (.c 0)
 | .app 20 0 []=>some (.c 1)
 | x=>OP t x
theorem Q4 (args:List Int):qO (cxA args) adN:=by
 intro v t x r ht h;unfold adN at h;split at h
 . cases h;rfl
 . cases h;rfl
 . exact FU (acV args) v t x r ht h
def Ps:Sx.Spec:=⟨253,36,[(true,[some .i64,some .i64])],[(true,[some .i64,some .i64]),(false,[some .i64])]⟩
def Qr:Sx.Spec:=⟨247,36,[(true,[some .i64,some .i64])],[(true,[some .i64,some .i64]),(false,[some .i64])]⟩
def acP:Sx.Spec:=⟨165,46,[(true,[some .i64,some .i64])],[(true,[some .i64,some .i64]),(false,[some .i64])]⟩
def acb:Sx.Spec:=⟨169,46,[(true,[some .i64,some .i64])],[(true,[some .i64,some .i64]),(false,[some .i64])]⟩
theorem ZP (args:List Int):aQ Tryz.prog (cxA args) Qr:=by
 refine iM rfl (ours _ _ _ Tryz.func247 rfl (by kernel_rfl)) fun xs hp w=>?_
 match xs,hp with
 | [a,b],hp=>exact QK a b w hp
def adg:List Sx.Spec:=[Qr]
theorem acr (args:List Int):∀ s∈adg,aQ Tryz.prog (cxA args) s:=by
 intro s hs;simp only [adg,List.mem_cons,List.not_mem_nil,or_false] at hs;rcases hs with rfl
 exact ZP args
def Zt:List Nd:=[
 .arg 0,
 .arg 1,
 .app 36 0 [.n 0,.n 1],
 .app 36 1 [.n 0,.n 1],
 .app 36 2 [.n 0,.n 1],
 .bin .neq .i64 (.n 4) (.c 0),
 .ite (.n 5) (.c 0) (.c 1),
 .bin .sub .i64 (.c 5400000) (.n 3),
 .bin .sub .i64 (.c 5400000) (.n 2),
 .ite (.n 5) (.n 4) (.c 0),
 .ite (.n 5) (.c 0) (.n 7),
 .ite (.n 5) (.c 0) (.n 8)]
def abS:List Vc:=[
 ⟨[],.pre 36 [.n 0,.n 1]⟩]
theorem aca:whole Tryz.prog adg 20 40 169 [(true,[some .i64,some .i64])]=some (.tup [.agg [.int .i64 (.n 10),.int .i64 (.n 11)],.c (.int .i64 (.n 9))],⟨Zt.reverse,abS.reverse⟩):=by kernel_rfl
theorem ace:wfN Zt.reverse=true:=by kernel_rfl
theorem acK (a b:Int) (w:World) (ha:fxV a b=true) (h1:a<=1073741824) (h2:-1073741824<=b):Calls Tryz.prog 169 #[.agg #[.int .i64 a,.int .i64 b]] w fun e w'=>e=.returned (.tuple #[.agg #[.int .i64 (ZW b),.int .i64 (ZX a)],.int .i64 0])/\Below w.heap.size w w':=by
 refine Sx.calls (X:=cxA [a,b]) il (acr _) aca ace (fun v hs=>?_) w
 have e0:v 0=a:=ae hs 0 rfl;have e1:v 1=b:=ae hs 1 rfl;have e2:v 2=(TV 36 [v 0,v 1]).getD 0 0:=ae hs 2 rfl;have e3:v 3=(TV 36 [v 0,v 1]).getD 1 0:=ae hs 3 rfl;have e4:v 4=(TV 36 [v 0,v 1]).getD 2 0:=ae hs 4 rfl;have e7:v 7=IntKind.i64.wrap ((5400000:Int)-v 3):=ae hs 7 rfl;have e8:v 8=IntKind.i64.wrap ((5400000:Int)-v 2):=ae hs 8 rfl;have hE:Bz (v 0) (v 1)=0:=by rw [e0,e1];exact if_pos ⟨h1,h2⟩
 have V2:v 2=QO (v 0):=e2.trans (if_pos hE);have V3:v 3=Ji (v 1):=e3.trans (if_pos hE);have V4:v 4=0:=e4.trans hE;have r1:=sU (max (v 0) (-1073741824));have r2:=sU (-(min (v 1) 1073741824));have b2:-5400000<=v 2/\v 2<=5400000:=by rw [V2];exact ⟨r1.1,r1.2.1⟩
 have b3:-5400000<=v 3/\v 3<=5400000:=by
  rw [V3];show -5400000<=-dz _/\-dz _<=5400000;generalize dz (-(min (v 1) 1073741824))=q at *
  omega
 have w7:v 7=ZW b:=by
  rw [e7,Go.IntWalk.i64_in _ (by omega),V3,e1]
  show 5400000 - -dz (-(min b 1073741824))=5400000+dz (-(aal b 1073741824));have m:aal b 1073741824=min b 1073741824:=by unfold aal;split<;>omega
  rw [m];generalize dz (-(min b 1073741824))=q;omega
 have w8:v 8=ZX a:=by
  rw [e8,Go.IntWalk.i64_in _ (by omega),V2,e0]
  show 5400000-dz (max a (-1073741824))=5400000-dz (aag a (-1073741824));have m:aag a (-1073741824)=max a (-1073741824):=by unfold aag;split<;>omega
  rw [m]
 have z9:v 9=0:=aL (X:=cxA [a,b]) (v:=v) (l:=Zt) (Q4 _) hs (k:=9) (r:=.c 0) (ps:=[(4,.c 0)]) (nz:=[]) (ah V4 aK) bB (by kernel_rfl)
 have z10:v 10=v 7:=kW (X:=cxA [a,b]) (v:=v) (l:=Zt) (Q4 _) hs (k:=10) (j:=7) (ps:=[(4,.c 0)]) (ah V4 aK) (by kernel_rfl)
 have z11:v 11=v 8:=kW (X:=cxA [a,b]) (v:=v) (l:=Zt) (Q4 _) hs (k:=11) (j:=8) (ps:=[(4,.c 0)]) (ah V4 aK) (by kernel_rfl)
 have P0:fxV (v 0) (v 1)=true:=by rw [e0,e1];exact ha
 refine ⟨dV ?_,?_⟩
 . exact aj (fun _=>P0) (dO)
 . intro x hx0;have hx':=gG (v:=v) (by rfl) hx0
   rw [hx'];show Value.tuple #[.agg #[.int .i64 (v 10),.int .i64 (v 11)],.int .i64 (v 9)]=_;rw [z9,z10,z11,w7,w8]
def acJ:List Sx.Spec:=[Ps,Qr,acP,acb]
def aaF:List Sx.Spec:=lL++l6++kE++oN++acJ
theorem ab5 (args:List Int):∀ s∈acJ,aQ Tryz.prog (cxA args) s:=by
 intro s hs;simp only [acJ,List.mem_cons,List.not_mem_nil,or_false] at hs;rcases hs with rfl|rfl|rfl|rfl
 . refine iM rfl (ours _ _ _ Tryz.func253 rfl (by kernel_rfl)) fun xs hp w=>?_
   match xs,hp with
   | [a,b],hp=>exact QU a b w hp
 . exact ZP args
 . refine iM rfl (ours _ _ _ Tryz.func165 rfl (by kernel_rfl)) fun xs hp w=>?_
   match xs,hp with
   | [a,b],hp=>exact ado a b w hp.1 hp.2.1 hp.2.2
 . refine iM rfl (ours _ _ _ Tryz.func169 rfl (by kernel_rfl)) fun xs hp w=>?_
   match xs,hp with
   | [a,b],hp=>exact acK a b w hp.1 hp.2.1 hp.2.2
theorem adx (k:Nat->Bool) (h:∀ f,f<=8∨f=36∨f=46->k f=false):∀ s∈aaF,k s.id=false:=by
 intro s hs;apply h;simp only [aaF,lL,l6,kE,oN,acJ,List.mem_append,List.mem_cons,List.not_mem_nil,or_false] at hs;rcases hs with (((h|h)|h)|h)|h
 . rcases h with rfl|rfl|rfl|rfl|rfl|rfl|rfl|rfl|rfl<;>decide
 . rcases h with rfl|rfl|rfl|rfl<;>decide
 . rcases h with rfl|rfl<;>decide
 . rcases h with rfl|rfl|rfl<;>decide
 . rcases h with rfl|rfl|rfl|rfl<;>decide
theorem aai (args:List Int):∀ s∈aaF,aQ Tryz.prog (cxA args) s:=by
 intro s hs;rcases List.mem_append.1 hs with h|h
 . have q:kA s.id=false:=by
    simp only [lL,l6,kE,oN,List.mem_append,List.mem_cons,List.not_mem_nil,or_false] at h;rcases h with ((h|h)|h)|h
    . rcases h with rfl|rfl|rfl|rfl|rfl|rfl|rfl|rfl|rfl<;>rfl
    . rcases h with rfl|rfl|rfl|rfl<;>rfl
    . rcases h with rfl|rfl<;>rfl
    . rcases h with rfl|rfl|rfl<;>rfl
   refine uX q ?_;rcases List.mem_append.1 h with h|h
   . rcases List.mem_append.1 h with h|h
     . exact IB args s h
     . exact Jr args s h
   . exact Jn args s h
 . exact ab5 args s h
