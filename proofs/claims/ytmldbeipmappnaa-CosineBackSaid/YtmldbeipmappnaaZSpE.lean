/- More known functions: products with integers, small roots. -/
import Derived.Test.YtmldbeipmappnaaZSpN
import Derived.Test.YtmldbeipmappnaaZRef1
import Derived.Test.YtmldbeipmappnaaZMake
import Derived.Deep.Light
set_option linter.unusedVariables false
set_option linter.unusedSimpArgs false
set_option maxRecDepth 100000
namespace Alm
theorem F3 (n:Int) (h0:0<=n) (h1:n<4398046511104):FW n 0 2097152:=⟨by omega,by omega,by omega,by omega,by omega⟩
end Alm
namespace Go.Proofs.Ytmldbeipmappnaa
open Go.RowKit Alm Sx
theorem JR (n:Int) (w:World) (h0:0<=n) (h1:n<4398046511104) :
 Calls Try.prog 185 #[.int .i64 n] w fun e w'=>e=.returned (.int .i64 (rtV n))/\w=w':=by
 have R0:=Lib.hid (F3 n h0 h1);have FIN:=Lib.hid (fun lo hi (h:FW n lo hi) q=>JA h h0 (by omega) q)
 generalize rtV n=R at *
 clear h1;go_enter Try.func185,Try.ntmps185;go_wp2;go_loop [3,4] (fun v3 v4=>∃ lo hi:Int,v3=.int .i64 lo/\v4=.int .i64 hi/\FW n lo hi) (fun v3 v4=>(intOf v4-intOf v3).toNat)
 case atStart=>exact ⟨0,2097152,rfl,rfl,R0.out⟩
 case round =>
  obtain ⟨lo,hi,rfl,rfl,hI⟩:=hrel;have b0:=hI.1;have b1:=hI.2.1;have b2:=hI.2.2.1;have HI:=Lib.hid hI;clear hI R0
  by_cases hg:1<hi-lo
  . have NX:=I1 HI.out hg;obtain ⟨⟨m0,m1⟩,NX⟩:=NX;replace NX:=Lib.hid NX;clear HI FIN
    by_cases hc:(lo+hi)/2*((lo+hi)/2)<=n
    . go_wp2;go_light;exact ⟨⟨(lo+hi)/2,hi,rfl,rfl,NX.out.1 hc⟩,by simp only [intOf];omega⟩
    . go_wp2;go_light;exact ⟨⟨lo,(lo+hi)/2,rfl,rfl,NX.out.2 hc⟩,by simp only [intOf];omega⟩
  . have E:=Lib.hid (FIN.out lo hi HI.out (by omega))
    clear HI FIN;go_wp2;go_ret;exact ⟨gM E.out,rfl⟩
def jE:Nat->List Int->List Int
 | 9,[a,b,n]=>[dM a b n,dI a b n,0]
 | 10,[n]=>[rtV n]
 | 11,[x,d]=>Cz (qFl x 1073741824 d) (qCe x 1073741824 d)
 | 36,[a,b]=>[if oG a b=0 then qw a else 0,if oG a b=0 then qV b else 0,oG a b]
 | f,xs=>aC f xs
def lv:Nat->List Int->Prop
 | 9,[a,b,n]=>fxV a b=true/\jP n=true
 | 10,[n]=>0<=n/\n<4398046511104
 | 11,[x,d]=>MkP x d
 | 36,[a,b]=>fxV a b=true
 | f,xs=>preB f xs
def cxE (args:List Int):Cx:=⟨jE,lv,args⟩
theorem vO {f:Nat} (h:f≠9/\f≠10/\f≠11/\f≠36) (xs:List Int):jE f xs=aC f xs:=by
 unfold jE;split
 . exact absurd rfl h.1
 . exact absurd rfl h.2.1
 . exact absurd rfl h.2.2.1
 . exact absurd rfl h.2.2.2
 . rfl
theorem xG {f:Nat} (h:f≠9/\f≠10/\f≠11/\f≠36) (xs:List Int):lv f xs=preB f xs:=by
 unfold lv;split
 . exact absurd rfl h.1
 . exact absurd rfl h.2.1
 . exact absurd rfl h.2.2.1
 . exact absurd rfl h.2.2.2
 . rfl
def MX:Nat->List Int->Bool
 | 0,[a,b,c,d]=>fxV a b&&fxV c d
 | 1,[a,b,c,d]=>fxV a b&&fxV c d
 | 2,[a,b,c,d]=>fxV a b&&fxV c d
 | 7,[a,b,c,d]=>fxV a b&&fxV c d
 | 3,[a,b]=>fxV a b
 | 4,[a,b]=>fxV a b&&decide (0<=b)
 | 5,[a,b]=>cu a b
 | 6,[a,b]=>cu a b
 | 8,[_,_]=>true
 | 9,[a,b,n]=>fxV a b&&jP n
 | 10,[n]=>decide (0<=n/\n<4398046511104)
 | 11,[x,d]=>decide ((0<d/\d<=1099511627776)/\(-1099511627776<=x/\x<=1099511627776)/\((-4294967296<=x/\x<=4294967296)∨(-d<=x/\x<=d)))
 | 36,[a,b]=>fxV a b
 | 20,[]=>true
 | _,_=>false
theorem LX (f:Nat) (xs:List Int) (h:MX f xs=true):lv f xs:=by
 unfold MX at h;split at h
 all_goals first
  | (simp only [Bool.and_eq_true] at h;exact h)
  | (simp only [Bool.and_eq_true] at h;exact ⟨h.1,of_decide_eq_true h.2⟩)
  | (have h2:=of_decide_eq_true h;exact h2)
  | exact h
  | trivial
  | cases h
theorem adk (args:List Int):om (cxE args):=⟨fun f xs h=>vO (by omega) xs,fun f xs h hp=>by
 show lv f xs;rw [xG (by omega)];exact hp⟩
theorem adC {args:List Int} {s:Sx.Spec} (h:s.id≠9/\s.id≠10/\s.id≠11/\s.id≠36) (H:aH Try.prog (cxB args) s):aH Try.prog (cxE args) s:=by
 obtain ⟨a,b⟩:=H;refine ⟨a,fun xs hp w=>?_⟩
 have hp':preB s.id xs:=by
  have:lv s.id xs:=hp
  rwa [xG h] at this
 have:=b xs hp' w;rw [show (cxE args).sem s.id xs=(cxB args).sem s.id xs from vO h xs]
 exact this
theorem aee {xs:List Int} (hp:lv 9 xs):∃ a b n,xs=[a,b,n]/\fxV a b=true/\jP n=true:=by
 match xs,hp with
 | [a,b,n],hp=>exact ⟨a,b,n,rfl,hp⟩
theorem Yx {xs:List Int} (hp:lv 10 xs):∃ n,xs=[n]/\0<=n/\n<4398046511104:=by
 match xs,hp with
 | [n],hp=>exact ⟨n,rfl,hp⟩
theorem Ve {xs:List Int} (hp:lv 11 xs):∃ a b,xs=[a,b]/\MkP a b:=by
 match xs,hp with
 | [a,b],hp=>exact ⟨a,b,rfl,hp⟩
theorem Z0 {xs:List Int} (hp:lv 36 xs):∃ a b,xs=[a,b]/\fxV a b=true:=by
 match xs,hp with
 | [a,b],hp=>exact ⟨a,b,rfl,hp⟩
def FP:Sx.Spec:=⟨109,9,[(true,[some .i64,some .i64]),(false,[some .i64])],[(false,[some .i64]),(false,[some .i64]),(false,[some .i64])]⟩
theorem yz (args:List Int):aH Try.prog (cxE args) FP:=by
 refine ⟨ours _ _ _ Try.func109 rfl (by kernel_rfl),fun xs hp w=>?_⟩
 obtain ⟨a,b,n,rfl,h1,h2⟩:=aee hp;exact Q5 a b n w h1 h2
def xH:Sx.Spec:=⟨185,10,[(false,[some .i64])],[(false,[some .i64])]⟩
theorem uB (args:List Int):aH Try.prog (cxE args) xH:=by
 refine ⟨ours _ _ _ Try.func185 rfl (by kernel_rfl),fun xs hp w=>?_⟩
 obtain ⟨n,rfl,h1,h2⟩:=Yx hp;refine (JR n w h1 h2).mono ?_;rintro e w' ⟨he,hb⟩;exact ⟨he,by rw [<-hb];exact Below.refl _ _⟩
def Ut:Sx.Spec:=⟨158,11,[(false,[some .i64]),(false,[some .i64])],[(true,[some .i64,some .i64]),(false,[some .i64])]⟩
theorem ML (args:List Int):aH Try.prog (cxE args) Ut:=by
 refine ⟨ours _ _ _ Try.func158 rfl (by kernel_rfl),fun xs hp w=>?_⟩
 obtain ⟨a,b,rfl,h⟩:=Ve hp;exact aaM a b w h
def mF:Sx.Spec:=⟨82,36,[(true,[some .i64,some .i64])],[(true,[some .i64,some .i64]),(false,[some .i64])]⟩
theorem xu (args:List Int):aH Try.prog (cxE args) mF:=by
 refine ⟨ours _ _ _ Try.func82 rfl (by kernel_rfl),fun xs hp w=>?_⟩
 obtain ⟨a,b,rfl,h⟩:=Z0 hp;exact BA a b w h
def L6:Sx.Spec:=FP
theorem J8 (args:List Int):aH Try.prog (cxE args) L6:=yz args
def Mf:Sx.Spec:=xH
theorem Ld (args:List Int):aH Try.prog (cxE args) Mf:=uB args
def qg:Sx.Spec:=mF
theorem ol (args:List Int):aH Try.prog (cxE args) qg:=xu args
def spE:List Sx.Spec:=[FP,L6,xH,Mf,Ut,mF,qg]
theorem XD (args:List Int):∀ s∈spE,aH Try.prog (cxE args) s:=by
 intro s hs;simp only [spE,List.mem_cons,List.not_mem_nil,or_false] at hs;rcases hs with rfl|rfl|rfl|rfl|rfl|rfl|rfl
 . exact yz args
 . exact J8 args
 . exact uB args
 . exact Ld args
 . exact ML args
 . exact xu args
 . exact ol args
def abK (t:Tab):Nd->Option Rf
 | .app 9 2 [_,_,_]=>some (.c 0)
 | x=>vE t x
theorem iA (args:List Int):gJ (cxE args) abK:=by
 intro v t x r ht h;unfold abK at h;split at h
 . cases h;rfl
 . exact iU (adk args) v t x r ht h
