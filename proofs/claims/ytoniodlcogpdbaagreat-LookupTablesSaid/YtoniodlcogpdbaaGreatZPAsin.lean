/- The contract of package arctrig's Asin. -/
import Derived.Test.YtoniodlcogpdbaaGreatZRIn
set_option linter.unusedVariables false
set_option linter.unusedSimpArgs false
set_option maxRecDepth 100000
namespace Go.Proofs.YtoniodlcogpdbaaGreat
open Go.RowKit Alm Sx
def acI:Sx.Spec:=⟨101,8,[(true,[some .i64,some .i64])],[(false,[none])]⟩
def Xl:Sx.Spec:=⟨143,35,[(false,[some .i64])],[(false,[some .i64])]⟩
def XI:List Sx.Spec:=[acI,Xl]
theorem SF (args:List Int):∀ s∈XI,aR Tryz.prog (cxR args) s:=by
 intro s hs;simp only [XI,List.mem_cons,List.not_mem_nil,or_false] at hs;rcases hs with rfl|rfl
 . refine ⟨ours _ _ _ Tryz.func101 rfl (by kernel_rfl),fun xs hp w=>?_⟩
   obtain ⟨a,b,rfl⟩:=Qg (f:=8) (by simp) hp
   refine (fI a b w).mono ?_;rintro e w' ⟨he,hb⟩;exact ⟨by rw [he];exact congrArg Ending.returned (ni _).symm,hb⟩
 . refine ⟨ours _ _ _ Tryz.func143 rfl (by kernel_rfl),fun xs hp w=>?_⟩
   obtain ⟨v,rfl⟩:=WE (f:=35) (by simp) hp
   exact (aag v w).mono fun e w' h=>by first|exact h|exact ⟨h.1,by rw [<-h.2];exact Below.refl _ _⟩
def KJ:List Nd:=[
 .arg 0,
 .arg 1,
 .app 8 0 [.n 0,.n 1],
 .ite (.n 2) (.c 0) (.c 1),
 .ite (.n 3) (.c 0) (.c 1),
 .mx (.n 0) (.c (-1073741824)),
 .mn (.n 1) (.c 1073741824),
 .bin .leq .i64 (.n 5) (.n 6),
 .ite (.n 7) (.c 0) (.c 1),
 .app 35 0 [.n 5],
 .bin .sub .i64 (.c 0) (.n 6),
 .app 35 0 [.n 10],
 .bin .sub .i64 (.c 0) (.n 11),
 .ite (.n 8) (.c 2) (.c 0),
 .ite (.n 8) (.c 0) (.n 9),
 .ite (.n 8) (.c 0) (.n 12),
 .ite (.n 3) (.c 1) (.n 13),
 .ite (.n 3) (.c 0) (.n 14),
 .ite (.n 3) (.c 0) (.n 15),
 .ite (.n 3) (.n 0) (.n 5),
 .ite (.n 3) (.n 1) (.n 6)]
def Tp:List Vc:=[
 ⟨[],.pre 8 [.n 0,.n 1]⟩,
 ⟨[(.n 7,true),(.n 4,true)],.pre 35 [.n 5]⟩,
 ⟨[(.n 7,true),(.n 4,true)],.pre 35 [.n 10]⟩]
theorem Tt:whole Tryz.prog XI 20 30 114 [(true,[some .i64,some .i64])]=some (.tup [.agg [.int .i64 (.n 17),.int .i64 (.n 18)],.c (.int .i64 (.n 16))],⟨KJ.reverse,Tp.reverse⟩):=by kernel_rfl
theorem Wn:wfN KJ.reverse=true:=by kernel_rfl
theorem Vy (a b:Int) (w:World) (ha:fxV a b=true):Calls Tryz.prog 114 #[.agg #[.int .i64 a,.int .i64 b]] w fun e w'=>e=.returned (UL a b)/\Below w.heap.size w w':=by
 refine Sx.calls (X:=cxR [a,b]) dP (SF _) Tt Wn (fun v hs=>?_) w
 obtain ⟨a1,a2,a3⟩:=(bS _ _).1 ha;have e0:v 0=a:=aa hs 0 rfl;have e1:v 1=b:=aa hs 1 rfl;have e2:v 2=b2i (fxV (v 0) (v 1)):=aa hs 2 rfl;have e3:v 3=if v 2≠0 then (0:Int) else (1:Int):=aa hs 3 rfl
 have e4:v 4=if v 3≠0 then (0:Int) else (1:Int):=aa hs 4 rfl
 have e5:v 5=if (-1073741824:Int)>v 0 then (-1073741824:Int) else v 0:=aa hs 5 rfl
 have e6:v 6=if (1073741824:Int)<v 1 then (1073741824:Int) else v 1:=aa hs 6 rfl
 have e7:v 7=b2i (decide (v 5<=v 6)):=aa hs 7 rfl;have e8:v 8=if v 7≠0 then (0:Int) else (1:Int):=aa hs 8 rfl
 have e9:v 9=(vW 35 [v 5]).getD 0 0:=aa hs 9 rfl;have e10:v 10=IntKind.i64.wrap ((0:Int)-v 6):=aa hs 10 rfl;have e11:v 11=(vW 35 [v 10]).getD 0 0:=aa hs 11 rfl;have e12:v 12=IntKind.i64.wrap ((0:Int)-v 11):=aa hs 12 rfl;have e13:v 13=if v 8≠0 then (2:Int) else (0:Int):=aa hs 13 rfl
 have e14:v 14=if v 8≠0 then (0:Int) else v 9:=aa hs 14 rfl
 have e15:v 15=if v 8≠0 then (0:Int) else v 12:=aa hs 15 rfl
 have e16:v 16=if v 3≠0 then (1:Int) else v 13:=aa hs 16 rfl
 have e17:v 17=if v 3≠0 then (0:Int) else v 14:=aa hs 17 rfl
 have e18:v 18=if v 3≠0 then (0:Int) else v 15:=aa hs 18 rfl
 have e19:v 19=if v 3≠0 then v 0 else v 5:=aa hs 19 rfl
 have e20:v 20=if v 3≠0 then v 1 else v 6:=aa hs 20 rfl
 have r2:v 2=1:=by rw [e2,e0,e1,ha];rfl
 have r3:v 3=0:=by rw [e3,r2];rfl
 have r5:v 5=max a (-1073741824):=by rw [e5,e0];split<;>omega
 have r6:v 6=min b 1073741824:=by rw [e6,e1];split<;>omega
 have r10:v 10=-(min b 1073741824):=by rw [e10,r6,IntWalk.i64_in _ (by omega)];omega
 have r7:v 7=b2i (decide (a<=1073741824/\-1073741824<=b)):=by
  rw [e7,r5,r6];exact congrArg b2i (decide_eq_decide.2 (by omega))
 have r7':v 7≠0->a<=1073741824/\-1073741824<=b:=by
  rw [r7,vN];exact of_decide_eq_true
 refine ⟨bB ?_,?_⟩
 . refine ag ?_ (ag ?_ (ag ?_ bu))
   . exact fun _=>trivial
   . exact fun hp=>(show -1073741824<=v 5/\v 5<=1073741824 by have:=r7' (aj hp).1;omega)
   . exact fun hp=>(show -1073741824<=v 10/\v 10<=1073741824 by have:=r7' (aj hp).1;omega)
 . intro x hx0;have hx':=bM (v:=v) (by rfl) hx0
   rw [hx'];show Value.tuple #[.agg #[.int .i64 (v 17),.int .i64 (v 18)],.int .i64 (v 16)]=_;have r9:v 9=Br a:=by rw [e9,vG,r5];rfl
   have r11:v 11=bU (-(min b 1073741824)):=by rw [e11,vG,r10]
   have q:=jw (-(min b 1073741824))
   have r12:v 12=vT b:=by
    rw [e12,r11,IntWalk.i64_in _ (by omega)];unfold vT;omega
   have n0:¬ ((0:Int)≠0):=by decide
   have n1:(1:Int)≠0:=by decide
   have s1:(if b2i true≠0 then (0:Int) else 1)=0:=rfl
   have s0:(if b2i false≠0 then (0:Int) else 1)=1:=rfl
   rw [e16,e17,e18,r3,if_neg (by decide),if_neg (by decide),if_neg (by decide),e13,e14,e15,e8,r9,r12,r7]
   unfold UL yK
   by_cases h:a<=1073741824/\-1073741824<=b
   . rw [if_pos h,if_pos rfl,if_pos rfl,decide_eq_true h,s1,if_neg n0,if_neg n0,if_neg n0]
   . rw [if_neg h,if_neg (show ¬ ((2:Int)=0) by decide),if_neg (show ¬ ((2:Int)=0) by decide),decide_eq_false h,s0,if_pos n1,if_pos n1,if_pos n1]
