/- More known functions: products with integers, small roots. -/
import Derived.Test.YtknhbpnclokciaaGreatZSpN
import Derived.Test.YtknhbpnclokciaaGreatZRef2
import Derived.Test.YtknhbpnclokciaaGreatZMake
import Derived.Test.YtknhbpnclokciaaGreatZPAsin
import Derived.Deep.Light
set_option linter.unusedVariables false
set_option linter.unusedSimpArgs false
set_option maxRecDepth 100000
namespace Alm
theorem Dp (n:Int) (h0:0<=n) (h1:n<4398046511104):vg n 0 2097152:=⟨by omega,by omega,by omega,by omega,by omega⟩
end Alm
namespace Go.Proofs.YtknhbpnclokciaaGreat
open Go.RowKit Alm Sx
theorem Hd (n:Int) (w:World) (h0:0<=n) (h1:n<4398046511104) :
 Calls Tryz.prog 256 #[.int .i64 n] w fun e w'=>e=.returned (.int .i64 (rtV n))/\w=w':=by
 have R0:=Lib.hid (Dp n h0 h1);have FIN:=Lib.hid (fun lo hi (h:vg n lo hi) q=>wV h h0 (by omega) q)
 generalize rtV n=R at *
 clear h1;go_enter Tryz.func256,Tryz.ntmps256;go_wp2;go_loop [3,4] (fun v3 v4=>∃ lo hi:Int,v3=.int .i64 lo/\v4=.int .i64 hi/\vg n lo hi) (fun v3 v4=>(intOf v4-intOf v3).toNat)
 case atStart=>exact ⟨0,2097152,rfl,rfl,R0.out⟩
 case round =>
  obtain ⟨lo,hi,rfl,rfl,hI⟩:=hrel;have b0:=hI.1;have b1:=hI.2.1;have b2:=hI.2.2.1;have HI:=Lib.hid hI;clear hI R0
  by_cases hg:1<hi-lo
  . have NX:=vO HI.out hg;obtain ⟨⟨m0,m1⟩,NX⟩:=NX;replace NX:=Lib.hid NX;clear HI FIN
    by_cases hc:(lo+hi)/2*((lo+hi)/2)<=n
    . go_wp2;go_light;exact ⟨⟨(lo+hi)/2,hi,rfl,rfl,NX.out.1 hc⟩,by simp only [intOf];omega⟩
    . go_wp2;go_light;exact ⟨⟨lo,(lo+hi)/2,rfl,rfl,NX.out.2 hc⟩,by simp only [intOf];omega⟩
  . have E:=Lib.hid (FIN.out lo hi HI.out (by omega))
    clear HI FIN;go_wp2;go_ret;exact ⟨bG E.out,rfl⟩
def Cu:Nat->List Int->List Int
 | 9,[a,b,n]=>[eG a b n,d9 a b n,0]
 | 10,[n]=>[rtV n]
 | 11,[x,d]=>zh (qFl x 1073741824 d) (qCe x 1073741824 d)
 | 36,[a,b]=>[if Bz a b=0 then QO a else 0,if Bz a b=0 then Ji b else 0,Bz a b]
 | f,xs=>bA f xs
def xV:Nat->List Int->Prop
 | 9,[a,b,n]=>fxV a b=true/\aX n=true
 | 10,[n]=>0<=n/\n<4398046511104
 | 11,[x,d]=>MkP x d
 | 36,[a,b]=>fxV a b=true
 | f,xs=>preB f xs
def cxE (args:List Int):Cx:=⟨Cu,xV,args⟩
theorem zO {f:Nat} (h:f≠9/\f≠10/\f≠11/\f≠36) (xs:List Int):Cu f xs=bA f xs:=by
 unfold Cu;split
 . exact absurd rfl h.1
 . exact absurd rfl h.2.1
 . exact absurd rfl h.2.2.1
 . exact absurd rfl h.2.2.2
 . rfl
theorem zM {f:Nat} (h:f≠9/\f≠10/\f≠11/\f≠36) (xs:List Int):xV f xs=preB f xs:=by
 unfold xV;split
 . exact absurd rfl h.1
 . exact absurd rfl h.2.1
 . exact absurd rfl h.2.2.1
 . exact absurd rfl h.2.2.2
 . rfl
theorem RS (args:List Int):Cf (cxE args):=⟨fun f xs h=>zO (by omega) xs,fun f xs h hp=>by
 show xV f xs;rw [zM (by omega)];exact hp⟩
theorem Xi {args:List Int} {s:Sx.Spec} (h:s.id≠9/\s.id≠10/\s.id≠11/\s.id≠36) (H:aQ Tryz.prog (cxB args) s):aQ Tryz.prog (cxE args) s:=by
 obtain ⟨a,b⟩:=H;refine ⟨a,fun xs hp w=>?_⟩
 have hp':preB s.id xs:=by
  have:xV s.id xs:=hp
  rwa [zM h] at this
 have:=b xs hp' w;rw [show (cxE args).sem s.id xs=(cxB args).sem s.id xs from zO h xs]
 exact this
theorem RB {xs:List Int} (hp:xV 9 xs):∃ a b n,xs=[a,b,n]/\fxV a b=true/\aX n=true:=by
 match xs,hp with
 | [a,b,n],hp=>exact ⟨a,b,n,rfl,hp⟩
theorem Ku {xs:List Int} (hp:xV 10 xs):∃ n,xs=[n]/\0<=n/\n<4398046511104:=by
 match xs,hp with
 | [n],hp=>exact ⟨n,rfl,hp⟩
theorem SQ {xs:List Int} (hp:xV 11 xs):∃ a b,xs=[a,b]/\MkP a b:=by
 match xs,hp with
 | [a,b],hp=>exact ⟨a,b,rfl,hp⟩
theorem MQ {xs:List Int} (hp:xV 36 xs):∃ a b,xs=[a,b]/\fxV a b=true:=by
 match xs,hp with
 | [a,b],hp=>exact ⟨a,b,rfl,hp⟩
def Vw:Sx.Spec:=⟨206,11,[(false,[some .i64]),(false,[some .i64])],[(true,[some .i64,some .i64]),(false,[some .i64])]⟩
def Ps:Sx.Spec:=⟨253,36,[(true,[some .i64,some .i64])],[(true,[some .i64,some .i64]),(false,[some .i64])]⟩
def Qr:Sx.Spec:=⟨247,36,[(true,[some .i64,some .i64])],[(true,[some .i64,some .i64]),(false,[some .i64])]⟩
def KT:Sx.Spec:=⟨106,9,[(true,[some .i64,some .i64]),(false,[some .i64])],[(false,[some .i64]),(false,[some .i64]),(false,[some .i64])]⟩
def MO:Sx.Spec:=⟨172,9,[(true,[some .i64,some .i64]),(false,[some .i64])],[(false,[some .i64]),(false,[some .i64]),(false,[some .i64])]⟩
def NJ:Sx.Spec:=⟨256,10,[(false,[some .i64])],[(false,[some .i64])]⟩
def UE:Sx.Spec:=⟨259,10,[(false,[some .i64])],[(false,[some .i64])]⟩
def spE:List Sx.Spec:=[KT,MO,NJ,UE,Vw,Ps,Qr]
theorem Sb (args:List Int):∀ s∈spE,aQ Tryz.prog (cxE args) s:=by
 intro s hs;simp only [spE,List.mem_cons,List.not_mem_nil,or_false] at hs;rcases hs with rfl|rfl|rfl|rfl|rfl|rfl|rfl
 . refine ⟨ours _ _ _ Tryz.func106 rfl (by kernel_rfl),fun xs hp w=>?_⟩
   obtain ⟨a,b,n,rfl,h1,h2⟩:=RB hp;exact Gs a b n w h1 h2
 . refine ⟨ours _ _ _ Tryz.func172 rfl (by kernel_rfl),fun xs hp w=>?_⟩
   obtain ⟨a,b,n,rfl,h1,h2⟩:=RB hp;exact pK a b n w h1 h2
 . refine ⟨ours _ _ _ Tryz.func256 rfl (by kernel_rfl),fun xs hp w=>?_⟩
   obtain ⟨n,rfl,h1,h2⟩:=Ku hp;refine (Hd n w h1 h2).mono ?_;rintro e w' ⟨he,hb⟩;exact ⟨he,by rw [<-hb];exact Below.refl _ _⟩
 . refine ⟨ours _ _ _ Tryz.func259 rfl (by kernel_rfl),fun xs hp w=>?_⟩
   obtain ⟨n,rfl,h1,h2⟩:=Ku hp;refine (Gf n w h1 (by omega)).mono ?_
   rintro e w' ⟨he,hb⟩;exact ⟨he,by rw [<-hb];exact Below.refl _ _⟩
 . refine ⟨ours _ _ _ Tryz.func206 rfl (by kernel_rfl),fun xs hp w=>?_⟩
   obtain ⟨a,b,rfl,h⟩:=SQ hp;exact Kc a b w h
 . refine ⟨ours _ _ _ Tryz.func253 rfl (by kernel_rfl),fun xs hp w=>?_⟩
   obtain ⟨a,b,rfl,h⟩:=MQ hp;exact QU a b w h
 . refine ⟨ours _ _ _ Tryz.func247 rfl (by kernel_rfl),fun xs hp w=>?_⟩
   obtain ⟨a,b,rfl,h⟩:=MQ hp;exact QK a b w h
def Wh (t:Tab):Nd->Option Rf
 | .app 9 2 [_,_,_]=>some (.c 0)
 | x=>OP t x
def Ak:List Sx.Spec:=lL++l6++kE++oN++spE
theorem Bq (args:List Int):∀ s∈Ak,aQ Tryz.prog (cxE args) s:=by
 intro s hs;rcases List.mem_append.1 hs with h|h
 . have id:s.id≠9/\s.id≠10/\s.id≠11/\s.id≠36:=by
    simp only [lL,l6,kE,oN,List.mem_append,List.mem_cons,List.not_mem_nil,or_false] at h;rcases h with ((h|h)|h)|h
    . rcases h with rfl|rfl|rfl|rfl|rfl|rfl|rfl|rfl|rfl<;>decide
    . rcases h with rfl|rfl|rfl|rfl<;>decide
    . rcases h with rfl|rfl<;>decide
    . rcases h with rfl|rfl|rfl<;>decide
   refine Xi id ?_;rcases List.mem_append.1 h with h|h
   . rcases List.mem_append.1 h with h|h
     . exact IB args s h
     . exact Jr args s h
   . exact Jn args s h
 . exact Sb args s h
