/- The contracts of AtLongitude of both sides. -/
import Derived.Test.YtmldbeipmappnaaZGc
import Derived.Test.YtmldbeipmappnaaZCro
set_option linter.unusedVariables false
set_option linter.unusedSimpArgs false
set_option maxRecDepth 100000
namespace Go.Proofs.Ytmldbeipmappnaa
open Go.RowKit Alm Sx
def uT (t:Prop) [Decidable t] (p:IV):IV:=if t then uN p else p
def atX (a c e:Int):IV:=uM (uM (uC a a) (uC c c)) (uS e e)
def atY (a c u v:Int):IV:=uA (uM (uM (uS a a) (uC c c)) (uS u u)) (uM (uM (uS c c) (uC a a)) (uS v v))
def atL (L H:Int):Int:=max (if L>10800000 then L-21600000 else L) (-5400000)
def atH (L H:Int):Int:=min (if L>10800000 then H-21600000 else H) 5400000
def atB (a b c d n:Int):Int × Int :=
 let X:=atX a c (sgd (d-b));let Y:=atY a c (sgd (IntKind.i64.wrap (d-n))) (sgd (IntKind.i64.wrap (n-b)))
 (bz (uT (X.2<0) Y).1 (uT (X.2<0) Y).2 (uT (X.2<0) X).1 (uT (X.2<0) X).2,bJ (uT (X.2<0) Y).1 (uT (X.2<0) Y).2 (uT (X.2<0) X).1 (uT (X.2<0) X).2)
abbrev atN (a b c d:Int):Prop:=(atX a c (sgd (d-b))).1<=0/\(atX a c (sgd (d-b))).2>=0
def atV (a b c d n:Int):List Int:=if atN a b c d then [0,0,21] else [atL (atB a b c d n).1 (atB a b c d n).2,atH (atB a b c d n).1 (atB a b c d n).2,0]
end Go.Proofs.Ytmldbeipmappnaa
namespace Go.Proofs.Ytmldbeipmappnaa
open Go.RowKit Alm Sx
theorem MF (a b c d:Int) (w:World) (h:¬ (PtV a b/\PtV c d)):Calls Try.prog 19 #[.agg #[.int .i64 a,.int .i64 b],.agg #[.int .i64 c,.int .i64 d]] w fun e w'=>e=.returned (.tuple #[.agg #[.int .i64 0,.int .i64 0,.int .i64 0,.int .i64 0],.int .i64 1])/\Below w.heap.size w w':=by
 refine Sx.calls (X:=cxV [a,b,c,d]) fE (xN _) Dp D6 (fun v hs=>?_) w
 have e0:v 0=a:=ag hs 0 rfl;have e1:v 1=b:=ag hs 1 rfl;have e2:v 2=c:=ag hs 2 rfl;have e3:v 3=d:=ag hs 3 rfl;have e8:v 8=(xP 75 [v 0,v 1,v 2,v 3]).getD 4 0:=ag hs 8 rfl;have IVq:invV (v 0) (v 1) (v 2) (v 3)=[0,0,0,0,1]:=by rw [e0,e1,e2,e3];exact if_neg h
 have E8:v 8=1:=e8.trans (by show (invV (v 0) (v 1) (v 2) (v 3)).getD 4 0=_;rw [IVq];rfl)
 have z24:v 24=0:=aC (X:=cxV [a,b,c,d]) (v:=v) (l:=aG) (av _) hs (k:=24) (r:=.c 0) (ps:=[(8,.c 1)]) (nz:=[]) (aa E8 au) aJ (by kernel_rfl)
 have z143:v 143=1:=aC (X:=cxV [a,b,c,d]) (v:=v) (l:=aG) (av _) hs (k:=143) (r:=.c 1) (ps:=[(8,.c 1)]) (nz:=[]) (aa E8 au) aJ (by kernel_rfl)
 have z144:v 144=0:=aC (X:=cxV [a,b,c,d]) (v:=v) (l:=aG) (av _) hs (k:=144) (r:=.c 0) (ps:=[(8,.c 1)]) (nz:=[]) (aa E8 au) aJ (by kernel_rfl)
 have z145:v 145=0:=aC (X:=cxV [a,b,c,d]) (v:=v) (l:=aG) (av _) hs (k:=145) (r:=.c 0) (ps:=[(8,.c 1)]) (nz:=[]) (aa E8 au) aJ (by kernel_rfl)
 have z146:v 146=0:=aC (X:=cxV [a,b,c,d]) (v:=v) (l:=aG) (av _) hs (k:=146) (r:=.c 0) (ps:=[(8,.c 1)]) (nz:=[]) (aa E8 au) aJ (by kernel_rfl)
 have z147:v 147=0:=aC (X:=cxV [a,b,c,d]) (v:=v) (l:=aG) (av _) hs (k:=147) (r:=.c 0) (ps:=[(8,.c 1)]) (nz:=[]) (aa E8 au) aJ (by kernel_rfl)
 refine ⟨cB ?_,?_⟩
 . exact af (fun _=>trivial) (af (fun hp=>absurd z24 (aj hp).1) (af (fun hp=>absurd z24 (aj hp).1) (af (fun hp=>absurd z24 (aj hp).1) (af (fun hp=>absurd z24 (aj hp).1) (af (fun hp=>absurd z24 (aj hp).1) (af (fun hp=>absurd z24 (aj hp).1) (af (fun hp=>absurd z24 (aj hp).1) (af (fun hp=>absurd z24 (aj (aj hp).2).1) (af (fun hp=>absurd z24 (aj (aj hp).2).1) (af (fun hp=>absurd z24 (aj (aj hp).2).1) (cz)))))))))))
 . intro x hx0;have hx':=cu (v:=v) (by rfl) hx0
   rw [hx'];show Value.tuple #[.agg #[.int .i64 (v 144),.int .i64 (v 145),.int .i64 (v 146),.int .i64 (v 147)],.int .i64 (v 143)]=_;rw [z143,z144,z145,z146,z147]
def jH (a b c d:Int):List Int:=if PtV a b/\PtV c d then ow a b c d else [0,0,0,0,1]
def atW (a b c d n:Int):List Int:=if PtV a b/\PtV c d then (if -10800000<=n/\n<=10800000 then atV a b c d n else [0,0,2]) else [0,0,1]
def kT (f:Nat):Bool:=f==78 || f==79 || f==80 || f==81 || f==82 || f==83
def Wl:Nat->List Int->List Int
 | 78,[a,b,c,d]=>[(jH a b c d).getD 0 0,(jH a b c d).getD 1 0,(jH a b c d).getD 2 0,(jH a b c d).getD 3 0,(jH a b c d).getD 4 0]
 | 79,[a,b,c,d,n]=>[(atW a b c d n).getD 0 0,(atW a b c d n).getD 1 0,(atW a b c d n).getD 2 0]
 | 80,[a,b,c,d,n]=>[(atV a b c d n).getD 0 0,(atV a b c d n).getD 1 0,b2i (decide (¬ atN a b c d))]
 | 81,[a,b,c,d,m,n]=>[(gW a b c d m n).getD 0 0,(gW a b c d m n).getD 1 0,(gW a b c d m n).getD 2 0]
 | 82,[a,b,c,d]=>[(ow a b c d).getD 0 0,(ow a b c d).getD 1 0,(ow a b c d).getD 2 0,(ow a b c d).getD 3 0]
 | 83,[a,b,c,d,m,n]=>[fo (cN a b c d m n).1,eF (cN a b c d m n).2]
 | _,_=>[]
def VY:Nat->List Int->Prop
 | 78,[_,_,_,_]=>True
 | 79,[_,_,_,_,_]=>True
 | 80,[a,b,c,d,_]=>PtV a b/\PtV c d
 | 81,[_,_,_,_,_,_]=>True
 | 82,[a,b,c,d]=>(PtV a b/\PtV c d)/\¬ crA a b c d
 | 83,[a,b,c,d,m,n]=>(PtV a b/\PtV c d)/\PtV m n
 | _,_=>False
def cxT (args:List Int):Cx:=(cxV args).plus kT Wl VY
def Tw:Sx.Spec:=⟨19,78,[(true,[some .i64,some .i64]),(true,[some .i64,some .i64])],[(true,[some .i64,some .i64,some .i64,some .i64]),(false,[some .i64])]⟩
theorem NI (args:List Int):aL Try.prog (cxT args) Tw:=by
 refine dV rfl (ours _ _ _ Try.func19 rfl (by kernel_rfl)) fun xs hp w=>?_
 match xs,hp with
 | [a,b,c,d],hp =>
  by_cases q:PtV a b/\PtV c d
  . have V:jH a b c d=ow a b c d:=if_pos q;refine (Pb a b c d w q.1 q.2).mono ?_;rintro e w' ⟨he,hb⟩;refine ⟨?_,hb⟩;rw [he];show _=Ending.returned (Value.tuple #[.agg #[.int .i64 ((jH a b c d).getD 0 0),.int .i64 ((jH a b c d).getD 1 0),.int .i64 ((jH a b c d).getD 2 0),.int .i64 ((jH a b c d).getD 3 0)],.int .i64 ((jH a b c d).getD 4 0)]);rw [V]
  . have V:jH a b c d=[0,0,0,0,1]:=if_neg q;refine (MF a b c d w q).mono ?_;rintro e w' ⟨he,hb⟩;refine ⟨?_,hb⟩;rw [he];show _=Ending.returned (Value.tuple #[.agg #[.int .i64 ((jH a b c d).getD 0 0),.int .i64 ((jH a b c d).getD 1 0),.int .i64 ((jH a b c d).getD 2 0),.int .i64 ((jH a b c d).getD 3 0)],.int .i64 ((jH a b c d).getD 4 0)]);rw [V];rfl
def Ju:Nat->List Int->Bool
 | 75,[_,_,_,_]=>true
 | 78,[_,_,_,_]=>true
 | _,_=>false
theorem Hz (args:List Int) (f:Nat) (xs:List Int) (h:Ju f xs=true):(cxT args).pre f xs:=by
 unfold Ju at h;split at h
 . trivial
 . trivial
 . cases h
theorem Jw (args:List Int):aL Try.prog (cxT args) BI:=mM rfl (xN args BI (List.mem_append_right _ (by simp)))
def Pm:List Sx.Spec:=[BI,Tw]
theorem Me (args:List Int):∀ s∈Pm,aL Try.prog (cxT args) s:=by
 intro s hs;simp only [Pm,List.mem_cons,List.not_mem_nil,or_false] at hs;rcases hs with rfl|rfl
 . exact Jw args
 . exact NI args
def yn:List Nd:=[
 .app 75 0 [.c 0,.c 0,.c 0,.c 3600000],
 .app 75 1 [.c 0,.c 0,.c 0,.c 3600000],
 .app 75 2 [.c 0,.c 0,.c 0,.c 3600000],
 .app 75 3 [.c 0,.c 0,.c 0,.c 3600000],
 .app 75 4 [.c 0,.c 0,.c 0,.c 3600000],
 .app 75 0 [.c 0,.c 0,.c 1800000,.c 5400000],
 .app 75 1 [.c 0,.c 0,.c 1800000,.c 5400000],
 .app 75 2 [.c 0,.c 0,.c 1800000,.c 5400000],
 .app 75 3 [.c 0,.c 0,.c 1800000,.c 5400000],
 .app 75 4 [.c 0,.c 0,.c 1800000,.c 5400000],
 .app 78 0 [.c 0,.c 0,.c 1800000,.c 5400000],
 .app 78 1 [.c 0,.c 0,.c 1800000,.c 5400000],
 .app 78 2 [.c 0,.c 0,.c 1800000,.c 5400000],
 .app 78 3 [.c 0,.c 0,.c 1800000,.c 5400000],
 .app 78 4 [.c 0,.c 0,.c 1800000,.c 5400000],
 .bin .eql .i64 (.n 4) (.c 0),
 .bin .eql .i64 (.n 0) (.c 5400000),
 .bin .eql .i64 (.n 1) (.c 5400000),
 .bin .eql .i64 (.n 2) (.c 3600000),
 .bin .eql .i64 (.n 3) (.c 3600000),
 .ite (.n 18) (.n 19) (.c 0),
 .ite (.n 17) (.n 20) (.c 0),
 .ite (.n 16) (.n 21) (.c 0),
 .ite (.n 15) (.n 22) (.c 0),
 .bin .eql .i64 (.n 9) (.c 0),
 .ite (.n 23) (.n 24) (.c 0),
 .bin .leq .i64 (.n 7) (.c 5400000),
 .ite (.n 25) (.n 26) (.c 0),
 .bin .geq .i64 (.n 8) (.c 5400000),
 .ite (.n 27) (.n 28) (.c 0),
 .bin .sub .i64 (.n 8) (.n 7),
 .bin .leq .i64 (.n 30) (.c 4),
 .ite (.n 29) (.n 31) (.c 0),
 .bin .eql .i64 (.n 14) (.c 0),
 .ite (.n 32) (.n 33) (.c 0),
 .bin .lss .i64 (.c 1800000) (.n 10),
 .bin .gtr .i64 (.c 1800000) (.n 11),
 .ite (.n 35) (.c 1) (.n 36),
 .ite (.n 37) (.c 0) (.c 1),
 .bin .sub .i64 (.c 5400000) (.n 12),
 .bin .rem .i64 (.n 39) (.c 21600000),
 .bin .lss .i64 (.n 40) (.c 0),
 .bin .add .i64 (.n 40) (.c 21600000),
 .ite (.n 41) (.c 0) (.c 1),
 .ite (.n 41) (.n 42) (.n 40),
 .bin .sub .i64 (.n 13) (.n 12),
 .bin .leq .i64 (.n 44) (.n 45),
 .ite (.n 37) (.c 0) (.n 46),
 .ite (.n 34) (.n 47) (.c 0)]
def Dz:List Vc:=[
 ⟨[],.pre 75 [.c 0,.c 0,.c 0,.c 3600000]⟩,
 ⟨[],.pre 75 [.c 0,.c 0,.c 1800000,.c 5400000]⟩,
 ⟨[],.pre 78 [.c 0,.c 0,.c 1800000,.c 5400000]⟩]
theorem LG:whole Try.prog Pm 20 40 13 []=some (.p (.c (.bool (.n 48))),⟨yn.reverse,Dz.reverse⟩):=by kernel_rfl
theorem MJ:wfN yn.reverse=true:=by kernel_rfl
theorem pF (w:World):Calls Try.prog 13 #[] w fun e w'=>e=.returned (.bool true)/\Below w.heap.size w w':=by
 refine Sx.calls (X:=cxT []) fE (Me _) LG MJ (fun v hs=>?_) w
 have h:=La (X:=cxT []) (v:=v) (nd:=yn) hs (pre:=Ju) (Hz []) (vs:=Dz.reverse) (k:=48) (z:=1) (by kernel_rfl)
 refine ⟨h.2,fun x hx=>?_⟩
 have hx':x=.bool (decide (v 48≠0)):=hx;rw [hx',h.1];rfl
