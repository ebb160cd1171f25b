/- The contracts of package fixed's Make and of the reference's, for positive divisors. -/
import Derived.Test.YtmldbeipmappnaaZWidesB
import Derived.Test.YtmldbeipmappnaaZVecs
import Derived.Deep.Light
import Derived.Test.YtmldbeipmappnaaZSides
set_option linter.unusedVariables false
set_option linter.unusedSimpArgs false
set_option maxRecDepth 100000
namespace Alm
def MkP (x d:Int):Prop:=(0<d/\d<=1099511627776)/\(-1099511627776<=x/\x<=1099511627776)/\((-4294967296<=x/\x<=4294967296)∨(-d<=x/\x<=d))
end Alm
namespace Go.Proofs.Ytmldbeipmappnaa
open Go.RowKit Alm
theorem acA {x d:Int} (h:MkP x d):In64 (qFl x 1073741824 d)/\In64 (qCe x 1073741824 d)/\x.natAbs*(1073741824:Int).natAbs<=1267650600228229401496703205376/\qFl x 1073741824 d<=qCe x 1073741824 d:=by
 obtain ⟨hd,hx,hq⟩:=h;unfold qFl qCe In64
 have key:-4611686018427387904<=x*1073741824/d/\-4611686018427387904<=-(x*1073741824)/d:=by
  rcases hq with q|q
  . constructor
    . exact Int.le_ediv_of_mul_le hd.1 (by have:=Int.mul_le_mul_of_nonneg_left (show (1:Int)<=d by omega) (show (0:Int)<=4611686018427387904 by omega);omega)
    . exact Int.le_ediv_of_mul_le hd.1 (by have:=Int.mul_le_mul_of_nonneg_left (show (1:Int)<=d by omega) (show (0:Int)<=4611686018427387904 by omega);omega)
  . constructor
    . exact Int.le_ediv_of_mul_le hd.1 (by omega)
    . exact Int.le_ediv_of_mul_le hd.1 (by omega)
 have key2:x*1073741824/d<=-(-(x*1073741824)/d):=by
  have a1:=Int.mul_ediv_add_emod (x*1073741824) d;have a2:=Int.mul_ediv_add_emod (-(x*1073741824)) d;have b1:=Int.emod_nonneg (x*1073741824) (show d≠0 by omega)
  have b2:=Int.emod_nonneg (-(x*1073741824)) (show d≠0 by omega)
  refine Int.not_lt.1 fun hh=>?_
  have m:=Int.mul_le_mul_of_nonneg_left (show -(-(x*1073741824)/d)+1<=x*1073741824/d by omega) (show 0<=d by omega)
  have e:d*(-(-(x*1073741824)/d)+1)=-(d*(-(x*1073741824)/d))+d:=by grind
  omega
 have key3:x*1073741824/d<=4611686018427387904:=by omega
 have key4:-(-(x*1073741824)/d)<=4611686018427387904:=by omega
 refine ⟨⟨by omega,by omega⟩,⟨by omega,by omega⟩,?_,key2⟩
 have:x.natAbs<=1099511627776:=by omega
 have:=Nat.mul_le_mul_right 1073741824 this;show x.natAbs*1073741824<=_;omega
theorem aaM (x d:Int) (w:World) (h:MkP x d) :
 Calls Try.prog 158 #[.int .i64 x,.int .i64 d] w fun e w'=>e=.returned (opV (qFl x 1073741824 d) (qCe x 1073741824 d))/\Below w.heap.size w w':=by
 obtain ⟨b1,b2,b3,_⟩:=acA h;have hd:=h.1;have hx:=h.2.1;have CE:=Lib.hid (fun w=>sI x 1073741824 d w ⟨by omega,by omega⟩ ⟨by omega,by omega⟩ b3 hd.1 (by omega) b1 b2)
 have CF:=Lib.hid (fun w=>tK (qFl x 1073741824 d) (qCe x 1073741824 d) w)
 obtain ⟨p,q,z,hE⟩:=jO (qFl x 1073741824 d) (qCe x 1073741824 d);rw [hE] at CF ⊢
 clear b1 b2 b3 hx h hE;obtain ⟨hd,_⟩:=hd;generalize qFl x 1073741824 d=L at *
 generalize qCe x 1073741824 d=H at *
 have K0:=Lib.hid ((fu w).new w.heap.size rfl 87 #[.int .i64 0,.int .i64 0]);have hd0:(d==0)=false:=by simp;omega
 have hdd:decide (d=0)=false:=by simp;omega
 go_enter Try.func158,Try.ntmps158;go_wp2_with fail;refine (CE.out _).mono ?_;rintro e w1 ⟨rfl,hb⟩;have K1:=Lib.hid (K0.out.below hb);clear hb K0;go_wp2_with fail;refine (CF.out _).mono ?_;rintro e w2 ⟨rfl,hb⟩;have K2:=Lib.hid (K1.out.below hb);clear hb K1;have q0:=K2.out.c (g:=w.heap.size) (t:=87) (cs:=#[.int .i64 0,.int .i64 0]) (by simp) (i:=0) rfl
 have q1:=K2.out.c (g:=w.heap.size) (t:=87) (cs:=#[.int .i64 0,.int .i64 0]) (by simp) (i:=1) rfl
 have g0:=K2.out.f (g:=w.heap.size) (t:=87) (cs:=#[.int .i64 0,.int .i64 0]) (by simp) 0
 have g1:=K2.out.f (g:=w.heap.size) (t:=87) (cs:=#[.int .i64 0,.int .i64 0]) (by simp) 1
 go_wp2;refine bodyPost_ret (by simp [results,Try.results158,go_sem,q0,q1];try rfl) rfl ⟨rfl,by have:=K2.out.1;go_light;go_grown⟩
end Go.Proofs.Ytmldbeipmappnaa
namespace Go.Proofs.Ytmldbeipmappnaa
open Go.RowKit Alm Sx
def abW:Sx.Spec:=⟨128,8,[(true,[some .i64,some .i64])],[(false,[none])]⟩
def aau:Sx.Spec:=⟨134,35,[(false,[some .i64])],[(false,[some .i64])]⟩
def Wz:List Sx.Spec:=[abW,aau]
theorem SF (args:List Int):∀ s∈Wz,aH Try.prog (cxR args) s:=by
 intro s hs;simp only [Wz,List.mem_cons,List.not_mem_nil,or_false] at hs;rcases hs with rfl|rfl
 . refine ⟨ours _ _ _ Try.func128 rfl (by kernel_rfl),fun xs hp w=>?_⟩
   obtain ⟨a,b,rfl⟩:=acM (f:=8) (by simp) hp
   refine (ek a b w).mono ?_;rintro e w' ⟨he,hb⟩;exact ⟨by rw [he];exact congrArg Ending.returned (wZ _).symm,hb⟩
 . refine ⟨ours _ _ _ Try.func134 rfl (by kernel_rfl),fun xs hp w=>?_⟩
   obtain ⟨v,rfl⟩:=acK (f:=35) (by simp) hp
   exact (MN v w).mono fun e w' h=>by first|exact h|exact ⟨h.1,by rw [<-h.2];exact Below.refl _ _⟩
def Ie:List Nd:=[
 .arg 0,
 .arg 1,
 .app 8 0 [.n 0,.n 1],
 .ite (.n 2) (.c 0) (.c 1),
 .ite (.n 3) (.c 0) (.c 1),
 .mx (.n 0) (.c (-1073741824)),
 .mn (.n 1) (.c 1073741824),
 .bin .leq .i64 (.n 5) (.n 6),
 .ite (.n 7) (.c 0) (.c 1),
 .app 35 0 [.n 5],
 .bin .sub .i64 (.c 0) (.n 6),
 .app 35 0 [.n 10],
 .bin .sub .i64 (.c 0) (.n 11),
 .ite (.n 8) (.c 2) (.c 0),
 .ite (.n 8) (.c 0) (.n 9),
 .ite (.n 8) (.c 0) (.n 12),
 .ite (.n 3) (.c 1) (.n 13),
 .ite (.n 3) (.c 0) (.n 14),
 .ite (.n 3) (.c 0) (.n 15),
 .ite (.n 3) (.n 0) (.n 5),
 .ite (.n 3) (.n 1) (.n 6)]
def QW:List Vc:=[
 ⟨[],.pre 8 [.n 0,.n 1]⟩,
 ⟨[(.n 7,true),(.n 4,true)],.pre 35 [.n 5]⟩,
 ⟨[(.n 7,true),(.n 4,true)],.pre 35 [.n 10]⟩]
theorem Sy:whole Try.prog Wz 20 30 82 [(true,[some .i64,some .i64])]=some (.tup [.agg [.int .i64 (.n 17),.int .i64 (.n 18)],.c (.int .i64 (.n 16))],⟨Ie.reverse,QW.reverse⟩):=by kernel_rfl
theorem Sd:wfN Ie.reverse=true:=by kernel_rfl
theorem BA (a b:Int) (w:World) (ha:fxV a b=true):Calls Try.prog 82 #[.agg #[.int .i64 a,.int .i64 b]] w fun e w'=>e=.returned (acI a b)/\Below w.heap.size w w':=by
 refine Sx.calls (X:=cxR [a,b]) dX (SF _) Sy Sd (fun v hs=>?_) w
 obtain ⟨a1,a2,a3⟩:=(cZ _ _).1 ha;have e0:v 0=a:=ae hs 0 rfl;have e1:v 1=b:=ae hs 1 rfl;have e2:v 2=b2i (fxV (v 0) (v 1)):=ae hs 2 rfl;have e3:v 3=if v 2≠0 then (0:Int) else (1:Int):=ae hs 3 rfl
 have e4:v 4=if v 3≠0 then (0:Int) else (1:Int):=ae hs 4 rfl
 have e5:v 5=if (-1073741824:Int)>v 0 then (-1073741824:Int) else v 0:=ae hs 5 rfl
 have e6:v 6=if (1073741824:Int)<v 1 then (1073741824:Int) else v 1:=ae hs 6 rfl
 have e7:v 7=b2i (decide (v 5<=v 6)):=ae hs 7 rfl;have e8:v 8=if v 7≠0 then (0:Int) else (1:Int):=ae hs 8 rfl
 have e9:v 9=(Pi 35 [v 5]).getD 0 0:=ae hs 9 rfl;have e10:v 10=IntKind.i64.wrap ((0:Int)-v 6):=ae hs 10 rfl;have e11:v 11=(Pi 35 [v 10]).getD 0 0:=ae hs 11 rfl;have e12:v 12=IntKind.i64.wrap ((0:Int)-v 11):=ae hs 12 rfl;have e13:v 13=if v 8≠0 then (2:Int) else (0:Int):=ae hs 13 rfl
 have e14:v 14=if v 8≠0 then (0:Int) else v 9:=ae hs 14 rfl
 have e15:v 15=if v 8≠0 then (0:Int) else v 12:=ae hs 15 rfl
 have e16:v 16=if v 3≠0 then (1:Int) else v 13:=ae hs 16 rfl
 have e17:v 17=if v 3≠0 then (0:Int) else v 14:=ae hs 17 rfl
 have e18:v 18=if v 3≠0 then (0:Int) else v 15:=ae hs 18 rfl
 have e19:v 19=if v 3≠0 then v 0 else v 5:=ae hs 19 rfl
 have e20:v 20=if v 3≠0 then v 1 else v 6:=ae hs 20 rfl
 have r2:v 2=1:=by rw [e2,e0,e1,ha];rfl
 have r3:v 3=0:=by rw [e3,r2];rfl
 have r5:v 5=max a (-1073741824):=by rw [e5,e0];split<;>omega
 have r6:v 6=min b 1073741824:=by rw [e6,e1];split<;>omega
 have r10:v 10=-(min b 1073741824):=by rw [e10,r6,IntWalk.i64_in _ (by omega)];omega
 have r7:v 7=b2i (decide (a<=1073741824/\-1073741824<=b)):=by
  rw [e7,r5,r6];exact congrArg b2i (decide_eq_decide.2 (by omega))
 have r7':v 7≠0->a<=1073741824/\-1073741824<=b:=by
  rw [r7,GX];exact of_decide_eq_true
 refine ⟨bO ?_,?_⟩
 . refine ag ?_ (ag ?_ (ag ?_ bN))
   . exact fun _=>trivial
   . exact fun hp=>(show -1073741824<=v 5/\v 5<=1073741824 by have:=r7' (au hp).1;omega)
   . exact fun hp=>(show -1073741824<=v 10/\v 10<=1073741824 by have:=r7' (au hp).1;omega)
 . intro x hx0;have hx':=dL (v:=v) (by rfl) hx0
   rw [hx'];show Value.tuple #[.agg #[.int .i64 (v 17),.int .i64 (v 18)],.int .i64 (v 16)]=_;have r9:v 9=qw a:=by rw [e9,Gb,r5];rfl
   have r11:v 11=bR (-(min b 1073741824)):=by rw [e11,Gb,r10]
   have q:=dE (-(min b 1073741824))
   have r12:v 12=qV b:=by
    rw [e12,r11,IntWalk.i64_in _ (by omega)];unfold qV;omega
   have n0:¬ ((0:Int)≠0):=by decide
   have n1:(1:Int)≠0:=by decide
   have s1:(if b2i true≠0 then (0:Int) else 1)=0:=rfl
   have s0:(if b2i false≠0 then (0:Int) else 1)=1:=rfl
   rw [e16,e17,e18,r3,if_neg (by decide),if_neg (by decide),if_neg (by decide),e13,e14,e15,e8,r9,r12,r7]
   unfold acI oG
   by_cases h:a<=1073741824/\-1073741824<=b
   . rw [if_pos h,if_pos rfl,if_pos rfl,decide_eq_true h,s1,if_neg n0,if_neg n0,if_neg n0]
   . rw [if_neg h,if_neg (show ¬ ((2:Int)=0) by decide),if_neg (show ¬ ((2:Int)=0) by decide),decide_eq_false h,s0,if_pos n1,if_pos n1,if_pos n1]
