/- More known functions: products with integers, small roots. -/
import Derived.Test.YtpcfajiiijndiaaZSpN
import Derived.Test.YtpcfajiiijndiaaZRef1
import Derived.Test.YtpcfajiiijndiaaZMake
import Derived.Test.YtpcfajiiijndiaaZPAsin
import Derived.Deep.Light
set_option linter.unusedVariables false
set_option linter.unusedSimpArgs false
set_option maxRecDepth 100000
namespace Alm
theorem Cb (n:Int) (h0:0<=n) (h1:n<4398046511104):Ay n 0 2097152:=⟨by omega,by omega,by omega,by omega,by omega⟩
end Alm
namespace Go.Proofs.Ytpcfajiiijndiaa
open Go.RowKit Alm Sx
theorem GD (n:Int) (w:World) (h0:0<=n) (h1:n<4398046511104) :
 Calls Try.prog 140 #[.int .i64 n] w fun e w'=>e=.returned (.int .i64 (rtV n))/\w=w':=by
 have R0:=Lib.hid (Cb n h0 h1);have FIN:=Lib.hid (fun lo hi (h:Ay n lo hi) q=>EW h h0 (by omega) q)
 generalize rtV n=R at *
 clear h1;go_enter Try.func140,Try.ntmps140;go_wp2;go_loop [3,4] (fun v3 v4=>∃ lo hi:Int,v3=.int .i64 lo/\v4=.int .i64 hi/\Ay n lo hi) (fun v3 v4=>(intOf v4-intOf v3).toNat)
 case atStart=>exact ⟨0,2097152,rfl,rfl,R0.out⟩
 case round =>
  obtain ⟨lo,hi,rfl,rfl,hI⟩:=hrel;have b0:=hI.1;have b1:=hI.2.1;have b2:=hI.2.2.1;have HI:=Lib.hid hI;clear hI R0
  by_cases hg:1<hi-lo
  . have NX:=GA HI.out hg;obtain ⟨⟨m0,m1⟩,NX⟩:=NX;replace NX:=Lib.hid NX;clear HI FIN
    by_cases hc:(lo+hi)/2*((lo+hi)/2)<=n
    . go_wp2;go_light;exact ⟨⟨(lo+hi)/2,hi,rfl,rfl,NX.out.1 hc⟩,by simp only [intOf];omega⟩
    . go_wp2;go_light;exact ⟨⟨lo,(lo+hi)/2,rfl,rfl,NX.out.2 hc⟩,by simp only [intOf];omega⟩
  . have E:=Lib.hid (FIN.out lo hi HI.out (by omega))
    clear HI FIN;go_wp2;go_ret;exact ⟨fB E.out,rfl⟩
def aY:Nat->List Int->List Int
 | 9,[a,b,n]=>[fo a b n,fu a b n,0]
 | 10,[n]=>[rtV n]
 | 11,[x,d]=>yN (qFl x 1073741824 d) (qCe x 1073741824 d)
 | 36,[a,b]=>[if zx a b=0 then qA a else 0,if zx a b=0 then nY b else 0,zx a b]
 | f,xs=>cB f xs
def jm:Nat->List Int->Prop
 | 9,[a,b,n]=>fxV a b=true/\ed n=true
 | 10,[n]=>0<=n/\n<4398046511104
 | 11,[x,d]=>MkP x d
 | 36,[a,b]=>fxV a b=true
 | f,xs=>preB f xs
def cxE (args:List Int):Cx:=⟨aY,jm,args⟩
theorem ul {f:Nat} (h:f≠9/\f≠10/\f≠11/\f≠36) (xs:List Int):aY f xs=cB f xs:=by
 unfold aY;split
 . exact absurd rfl h.1
 . exact absurd rfl h.2.1
 . exact absurd rfl h.2.2.1
 . exact absurd rfl h.2.2.2
 . rfl
theorem rE {f:Nat} (h:f≠9/\f≠10/\f≠11/\f≠36) (xs:List Int):jm f xs=preB f xs:=by
 unfold jm;split
 . exact absurd rfl h.1
 . exact absurd rfl h.2.1
 . exact absurd rfl h.2.2.1
 . exact absurd rfl h.2.2.2
 . rfl
def D9:Nat->List Int->Bool
 | 0,[a,b,c,d]=>fxV a b&&fxV c d
 | 1,[a,b,c,d]=>fxV a b&&fxV c d
 | 2,[a,b,c,d]=>fxV a b&&fxV c d
 | 7,[a,b,c,d]=>fxV a b&&fxV c d
 | 3,[a,b]=>fxV a b
 | 4,[a,b]=>fxV a b&&decide (0<=b)
 | 5,[a,b]=>bi a b
 | 6,[a,b]=>bi a b
 | 8,[_,_]=>true
 | 9,[a,b,n]=>fxV a b&&ed n
 | 10,[n]=>decide (0<=n/\n<4398046511104)
 | 11,[x,d]=>decide ((0<d/\d<=1099511627776)/\(-1099511627776<=x/\x<=1099511627776)/\((-4294967296<=x/\x<=4294967296)∨(-d<=x/\x<=d)))
 | 36,[a,b]=>fxV a b
 | 20,[]=>true
 | _,_=>false
theorem yP (f:Nat) (xs:List Int) (h:D9 f xs=true):jm f xs:=by
 unfold D9 at h;split at h
 all_goals first
  | (simp only [Bool.and_eq_true] at h;exact h)
  | (simp only [Bool.and_eq_true] at h;exact ⟨h.1,of_decide_eq_true h.2⟩)
  | (have h2:=of_decide_eq_true h;exact h2)
  | exact h
  | trivial
  | cases h
theorem Ol (args:List Int):uW (cxE args):=⟨fun f xs h=>ul (by omega) xs,fun f xs h hp=>by
 show jm f xs;rw [rE (by omega)];exact hp⟩
theorem mW {args:List Int} {s:Sx.Spec} (h:s.id≠9/\s.id≠10/\s.id≠11/\s.id≠36) (H:aC Try.prog (cxB args) s):aC Try.prog (cxE args) s:=by
 obtain ⟨a,b⟩:=H;refine ⟨a,fun xs hp w=>?_⟩
 have hp':preB s.id xs:=by
  have:jm s.id xs:=hp
  rwa [rE h] at this
 have:=b xs hp' w;rw [show (cxE args).sem s.id xs=(cxB args).sem s.id xs from ul h xs]
 exact this
theorem Ux {xs:List Int} (hp:jm 9 xs):∃ a b n,xs=[a,b,n]/\fxV a b=true/\ed n=true:=by
 match xs,hp with
 | [a,b,n],hp=>exact ⟨a,b,n,rfl,hp⟩
theorem O0 {xs:List Int} (hp:jm 10 xs):∃ n,xs=[n]/\0<=n/\n<4398046511104:=by
 match xs,hp with
 | [n],hp=>exact ⟨n,rfl,hp⟩
theorem Sr {xs:List Int} (hp:jm 11 xs):∃ a b,xs=[a,b]/\MkP a b:=by
 match xs,hp with
 | [a,b],hp=>exact ⟨a,b,rfl,hp⟩
theorem JQ {xs:List Int} (hp:jm 36 xs):∃ a b,xs=[a,b]/\fxV a b=true:=by
 match xs,hp with
 | [a,b],hp=>exact ⟨a,b,rfl,hp⟩
def BC:Sx.Spec:=⟨155,9,[(true,[some .i64,some .i64]),(false,[some .i64])],[(false,[some .i64]),(false,[some .i64]),(false,[some .i64])]⟩
theorem wF (args:List Int):aC Try.prog (cxE args) BC:=by
 refine ⟨ours _ _ _ Try.func155 rfl (by kernel_rfl),fun xs hp w=>?_⟩
 obtain ⟨a,b,n,rfl,h1,h2⟩:=Ux hp;exact Li a b n w h1 h2
def uj:Sx.Spec:=⟨140,10,[(false,[some .i64])],[(false,[some .i64])]⟩
theorem pK (args:List Int):aC Try.prog (cxE args) uj:=by
 refine ⟨ours _ _ _ Try.func140 rfl (by kernel_rfl),fun xs hp w=>?_⟩
 obtain ⟨n,rfl,h1,h2⟩:=O0 hp;refine (GD n w h1 h2).mono ?_;rintro e w' ⟨he,hb⟩;exact ⟨he,by rw [<-hb];exact Below.refl _ _⟩
def Od:Sx.Spec:=⟨149,11,[(false,[some .i64]),(false,[some .i64])],[(true,[some .i64,some .i64]),(false,[some .i64])]⟩
theorem Hy (args:List Int):aC Try.prog (cxE args) Od:=by
 refine ⟨ours _ _ _ Try.func149 rfl (by kernel_rfl),fun xs hp w=>?_⟩
 obtain ⟨a,b,rfl,h⟩:=Sr hp;exact Qz a b w h
def qK:Sx.Spec:=⟨99,36,[(true,[some .i64,some .i64])],[(true,[some .i64,some .i64]),(false,[some .i64])]⟩
theorem tV (args:List Int):aC Try.prog (cxE args) qK:=by
 refine ⟨ours _ _ _ Try.func99 rfl (by kernel_rfl),fun xs hp w=>?_⟩
 obtain ⟨a,b,rfl,h⟩:=JQ hp;exact DL a b w h
def Jq:Sx.Spec:=BC
theorem EJ (args:List Int):aC Try.prog (cxE args) Jq:=wF args
def KD:Sx.Spec:=uj
theorem GY (args:List Int):aC Try.prog (cxE args) KD:=pK args
def Cw:Sx.Spec:=qK
theorem AO (args:List Int):aC Try.prog (cxE args) Cw:=tV args
def spE:List Sx.Spec:=[BC,Jq,uj,KD,Od,qK,Cw]
theorem Tf (args:List Int):∀ s∈spE,aC Try.prog (cxE args) s:=by
 intro s hs;simp only [spE,List.mem_cons,List.not_mem_nil,or_false] at hs;rcases hs with rfl|rfl|rfl|rfl|rfl|rfl|rfl
 . exact wF args
 . exact EJ args
 . exact pK args
 . exact GY args
 . exact Hy args
 . exact tV args
 . exact AO args
def Uc (t:Tab):Nd->Option Rf
 | .app 9 2 [_,_,_]=>some (.c 0)
 | x=>Bq t x
theorem cz (args:List Int):iw (cxE args) Uc:=by
 intro v t x r ht h;unfold Uc at h;split at h
 . cases h;rfl
 . exact mH (Ol args) v t x r ht h
def sK:List Sx.Spec:=oG++ou++uG++ut++spE
theorem nH (args:List Int):∀ s∈sK,aC Try.prog (cxE args) s:=by
 intro s hs;rcases List.mem_append.1 hs with h|h
 . have id:s.id≠9/\s.id≠10/\s.id≠11/\s.id≠36:=by
    simp only [oG,ou,uG,ut,List.mem_append,List.mem_cons,List.not_mem_nil,or_false] at h;rcases h with ((h|h)|h)|h
    . rcases h with rfl|rfl|rfl|rfl|rfl|rfl|rfl|rfl|rfl<;>decide
    . rcases h with rfl|rfl|rfl|rfl<;>decide
    . rcases h with rfl|rfl<;>decide
    . rcases h with rfl|rfl|rfl<;>decide
   refine mW id ?_;rcases List.mem_append.1 h with h|h
   . rcases List.mem_append.1 h with h|h
     . exact Gc args s h
     . exact F9 args s h
   . exact EA args s h
 . exact Tf args s h
