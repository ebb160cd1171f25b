/- More known functions: products with integers, small roots. -/
import Derived.Test.YtgmncdmcdgkodaaZSpN
import Derived.Test.YtgmncdmcdgkodaaZRef1
import Derived.Test.YtgmncdmcdgkodaaZMake
import Derived.Deep.Light
set_option linter.unusedVariables false
set_option linter.unusedSimpArgs false
set_option maxRecDepth 100000
namespace Alm
theorem zf (n:Int) (h0:0<=n) (h1:n<4398046511104):zt n 0 2097152:=⟨by omega,by omega,by omega,by omega,by omega⟩
end Alm
namespace Go.Proofs.Ytgmncdmcdgkodaa
open Go.RowKit Alm Sx
theorem Dv (n:Int) (w:World) (h0:0<=n) (h1:n<4398046511104) :
 Calls Try.prog 140 #[.int .i64 n] w fun e w'=>e=.returned (.int .i64 (rtV n))/\w=w':=by
 have R0:=Lib.hid (zf n h0 h1);have FIN:=Lib.hid (fun lo hi (h:zt n lo hi) q=>DD h h0 (by omega) q)
 generalize rtV n=R at *
 clear h1;go_enter Try.func140,Try.ntmps140;go_wp2;go_loop [3,4] (fun v3 v4=>∃ lo hi:Int,v3=.int .i64 lo/\v4=.int .i64 hi/\zt n lo hi) (fun v3 v4=>(intOf v4-intOf v3).toNat)
 case atStart=>exact ⟨0,2097152,rfl,rfl,R0.out⟩
 case round =>
  obtain ⟨lo,hi,rfl,rfl,hI⟩:=hrel;have b0:=hI.1;have b1:=hI.2.1;have b2:=hI.2.2.1;have HI:=Lib.hid hI;clear hI R0
  by_cases hg:1<hi-lo
  . have NX:=Dl HI.out hg;obtain ⟨⟨m0,m1⟩,NX⟩:=NX;replace NX:=Lib.hid NX;clear HI FIN
    by_cases hc:(lo+hi)/2*((lo+hi)/2)<=n
    . go_wp2;go_light;exact ⟨⟨(lo+hi)/2,hi,rfl,rfl,NX.out.1 hc⟩,by simp only [intOf];omega⟩
    . go_wp2;go_light;exact ⟨⟨lo,(lo+hi)/2,rfl,rfl,NX.out.2 hc⟩,by simp only [intOf];omega⟩
  . have E:=Lib.hid (FIN.out lo hi HI.out (by omega))
    clear HI FIN;go_wp2;go_ret;exact ⟨dW E.out,rfl⟩
def gM:Nat->List Int->List Int
 | 9,[a,b,n]=>[dm a b n,cZ a b n,0]
 | 10,[n]=>[rtV n]
 | 11,[x,d]=>yI (qFl x 1073741824 d) (qCe x 1073741824 d)
 | 36,[a,b]=>[if Ah a b=0 then PN a else 0,if Ah a b=0 then JL b else 0,Ah a b]
 | f,xs=>di f xs
def iT:Nat->List Int->Prop
 | 9,[a,b,n]=>fxV a b=true/\gY n=true
 | 10,[n]=>0<=n/\n<4398046511104
 | 11,[x,d]=>MkP x d
 | 36,[a,b]=>fxV a b=true
 | f,xs=>preB f xs
def cxE (args:List Int):Cx:=⟨gM,iT,args⟩
theorem rZ {f:Nat} (h:f≠9/\f≠10/\f≠11/\f≠36) (xs:List Int):gM f xs=di f xs:=by
 unfold gM;split
 . exact absurd rfl h.1
 . exact absurd rfl h.2.1
 . exact absurd rfl h.2.2.1
 . exact absurd rfl h.2.2.2
 . rfl
theorem pJ {f:Nat} (h:f≠9/\f≠10/\f≠11/\f≠36) (xs:List Int):iT f xs=preB f xs:=by
 unfold iT;split
 . exact absurd rfl h.1
 . exact absurd rfl h.2.1
 . exact absurd rfl h.2.2.1
 . exact absurd rfl h.2.2.2
 . rfl
def FZ:Nat->List Int->Bool
 | 0,[a,b,c,d]=>fxV a b&&fxV c d
 | 1,[a,b,c,d]=>fxV a b&&fxV c d
 | 2,[a,b,c,d]=>fxV a b&&fxV c d
 | 7,[a,b,c,d]=>fxV a b&&fxV c d
 | 3,[a,b]=>fxV a b
 | 4,[a,b]=>fxV a b&&decide (0<=b)
 | 5,[a,b]=>dL a b
 | 6,[a,b]=>dL a b
 | 8,[_,_]=>true
 | 9,[a,b,n]=>fxV a b&&gY n
 | 10,[n]=>decide (0<=n/\n<4398046511104)
 | 11,[x,d]=>decide ((0<d/\d<=1099511627776)/\(-1099511627776<=x/\x<=1099511627776)/\((-4294967296<=x/\x<=4294967296)∨(-d<=x/\x<=d)))
 | 36,[a,b]=>fxV a b
 | 20,[]=>true
 | _,_=>false
theorem FH (f:Nat) (xs:List Int) (h:FZ f xs=true):iT f xs:=by
 unfold FZ at h;split at h
 all_goals first
  | (simp only [Bool.and_eq_true] at h;exact h)
  | (simp only [Bool.and_eq_true] at h;exact ⟨h.1,of_decide_eq_true h.2⟩)
  | (have h2:=of_decide_eq_true h;exact h2)
  | exact h
  | trivial
  | cases h
theorem Tc (args:List Int):vE (cxE args):=⟨fun f xs h=>rZ (by omega) xs,fun f xs h hp=>by
 show iT f xs;rw [pJ (by omega)];exact hp⟩
theorem Tx {args:List Int} {s:Sx.Spec} (h:s.id≠9/\s.id≠10/\s.id≠11/\s.id≠36) (H:az Try.prog (cxB args) s):az Try.prog (cxE args) s:=by
 obtain ⟨a,b⟩:=H;refine ⟨a,fun xs hp w=>?_⟩
 have hp':preB s.id xs:=by
  have:iT s.id xs:=hp
  rwa [pJ h] at this
 have:=b xs hp' w;rw [show (cxE args).sem s.id xs=(cxB args).sem s.id xs from rZ h xs]
 exact this
theorem Rp {xs:List Int} (hp:iT 9 xs):∃ a b n,xs=[a,b,n]/\fxV a b=true/\gY n=true:=by
 match xs,hp with
 | [a,b,n],hp=>exact ⟨a,b,n,rfl,hp⟩
theorem NF {xs:List Int} (hp:iT 10 xs):∃ n,xs=[n]/\0<=n/\n<4398046511104:=by
 match xs,hp with
 | [n],hp=>exact ⟨n,rfl,hp⟩
theorem Pb {xs:List Int} (hp:iT 11 xs):∃ a b,xs=[a,b]/\MkP a b:=by
 match xs,hp with
 | [a,b],hp=>exact ⟨a,b,rfl,hp⟩
theorem Po {xs:List Int} (hp:iT 36 xs):∃ a b,xs=[a,b]/\fxV a b=true:=by
 match xs,hp with
 | [a,b],hp=>exact ⟨a,b,rfl,hp⟩
def zo:Sx.Spec:=⟨155,9,[(true,[some .i64,some .i64]),(false,[some .i64])],[(false,[some .i64]),(false,[some .i64]),(false,[some .i64])]⟩
theorem tH (args:List Int):az Try.prog (cxE args) zo:=by
 refine ⟨ours _ _ _ Try.func155 rfl (by kernel_rfl),fun xs hp w=>?_⟩
 obtain ⟨a,b,n,rfl,h1,h2⟩:=Rp hp;exact J3 a b n w h1 h2
def qZ:Sx.Spec:=⟨140,10,[(false,[some .i64])],[(false,[some .i64])]⟩
theorem ol (args:List Int):az Try.prog (cxE args) qZ:=by
 refine ⟨ours _ _ _ Try.func140 rfl (by kernel_rfl),fun xs hp w=>?_⟩
 obtain ⟨n,rfl,h1,h2⟩:=NF hp;refine (Dv n w h1 h2).mono ?_;rintro e w' ⟨he,hb⟩;exact ⟨he,by rw [<-hb];exact Below.refl _ _⟩
def Li:Sx.Spec:=⟨151,11,[(false,[some .i64]),(false,[some .i64])],[(true,[some .i64,some .i64]),(false,[some .i64])]⟩
theorem Gg (args:List Int):az Try.prog (cxE args) Li:=by
 refine ⟨ours _ _ _ Try.func151 rfl (by kernel_rfl),fun xs hp w=>?_⟩
 obtain ⟨a,b,rfl,h⟩:=Pb hp;exact ML a b w h
def vQ:Sx.Spec:=⟨98,36,[(true,[some .i64,some .i64])],[(true,[some .i64,some .i64]),(false,[some .i64])]⟩
theorem qC (args:List Int):az Try.prog (cxE args) vQ:=by
 refine ⟨ours _ _ _ Try.func98 rfl (by kernel_rfl),fun xs hp w=>?_⟩
 obtain ⟨a,b,rfl,h⟩:=Po hp;exact J7 a b w h
def Gl:Sx.Spec:=zo
theorem DV (args:List Int):az Try.prog (cxE args) Gl:=tH args
def FP:Sx.Spec:=qZ
theorem En (args:List Int):az Try.prog (cxE args) FP:=ol args
def Be:Sx.Spec:=vQ
theorem yL (args:List Int):az Try.prog (cxE args) Be:=qC args
def spE:List Sx.Spec:=[zo,Gl,qZ,FP,Li,vQ,Be]
theorem LZ (args:List Int):∀ s∈spE,az Try.prog (cxE args) s:=by
 intro s hs;simp only [spE,List.mem_cons,List.not_mem_nil,or_false] at hs;rcases hs with rfl|rfl|rfl|rfl|rfl|rfl|rfl
 . exact tH args
 . exact DV args
 . exact ol args
 . exact En args
 . exact Gg args
 . exact qC args
 . exact yL args
def Sj (t:Tab):Nd->Option Rf
 | .app 9 2 [_,_,_]=>some (.c 0)
 | x=>Dh t x
theorem fq (args:List Int):jo (cxE args) Sj:=by
 intro v t x r ht h;unfold Sj at h;split at h
 . cases h;rfl
 . exact oM (Tc args) v t x r ht h
def qf:List Sx.Spec:=nC++mW++qU++qJ++spE
theorem lw (args:List Int):∀ s∈qf,az Try.prog (cxE args) s:=by
 intro s hs;rcases List.mem_append.1 hs with h|h
 . have id:s.id≠9/\s.id≠10/\s.id≠11/\s.id≠36:=by
    simp only [nC,mW,qU,qJ,List.mem_append,List.mem_cons,List.not_mem_nil,or_false] at h;rcases h with ((h|h)|h)|h
    . rcases h with rfl|rfl|rfl|rfl|rfl|rfl|rfl|rfl|rfl<;>decide
    . rcases h with rfl|rfl|rfl|rfl<;>decide
    . rcases h with rfl|rfl<;>decide
    . rcases h with rfl|rfl|rfl<;>decide
   refine Tx id ?_;rcases List.mem_append.1 h with h|h
   . rcases List.mem_append.1 h with h|h
     . exact Er args s h
     . exact Cy args s h
   . exact Em args s h
 . exact LZ args s h
