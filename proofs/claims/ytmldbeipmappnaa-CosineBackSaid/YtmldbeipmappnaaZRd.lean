/- Plain: directions that need not be whole angles: which arcs hold them; the arc of a box holds the direction of every point in it. -/
import Derived.Test.YtmldbeipmappnaaZTr2
import Derived.Test.YtmldbeipmappnaaZIso
set_option linter.unusedVariables false
set_option linter.unusedSimpArgs false
namespace Go.Proofs.Ytmldbeipmappnaa
open Alm Sx
def tt:Rat:=1/1000000000000000000000000000000
def Bt (a b x t:Rat):Prop:=(a-t<=x/\x<=b+t)∨(b-t<=x/\x<=a+t)
def Onc (L H:Int) (c s t:Rat):Prop:=∃ k m:Int,(L<=k/\k<=H)/\(L<=m/\m<=H)/\Bt (sg k) (sg m) s t/\Bt (cg k) (cg m) c t
theorem zt {p q:Int} (h:p<=q):(p:Rat)*u30<=(q:Rat)*u30:=Rat.mul_le_mul_of_nonneg_right (Rat.intCast_le_intCast.2 h) (Rat.le_of_lt dU)
theorem Uj (L H k:Int) (h1:L<=k) (h2:k<=H):InE (bU L H) (bW L H) (sg k) (2*ee):=by
 have a:=CG k k k (.inl rfl);have p:=AV L H k k h1 (by omega) h2
 unfold InE at *
 have u1:=zt p.1;have u2:=zt p.2;clear p h1 h2
 constructor<;>grind
theorem Nj (L H k:Int) (h1:L<=k) (h2:k<=H):InE (bU (L+5400000) (H+5400000)) (bW (L+5400000) (H+5400000)) (cg k) (2*ee):=by
 have a:=lM k k k (.inl rfl);have p:=AV (L+5400000) (H+5400000) (k+5400000) (k+5400000) (by omega) (by omega) (by omega)
 unfold InE at *
 have u1:=zt p.1;have u2:=zt p.2;clear p h1 h2
 constructor<;>grind
theorem UJ {L H:Int} {a b x t e:Rat} (h:Bt a b x t) (ha:InE L H a e) (hb:InE L H b e):InE L H x (e+t):=by
 unfold Bt InE at *
 rcases h with h|h<;>constructor<;>grind
theorem Onc.sin {L H:Int} {c s t:Rat} (h:Onc L H c s t):InE (uS L H).1 (uS L H).2 s (2*ee+t):=by
 obtain ⟨k,m,hk,hm,b,_⟩:=h;exact UJ b (Uj L H k hk.1 hk.2) (Uj L H m hm.1 hm.2)
theorem Onc.cos {L H:Int} {c s t:Rat} (h:Onc L H c s t):InE (uC L H).1 (uC L H).2 c (2*ee+t):=by
 obtain ⟨k,m,hk,hm,_,b⟩:=h;exact UJ b (Nj L H k hk.1 hk.2) (Nj L H m hm.1 hm.2)
theorem Bt.le {a b x t t':Rat} (h:Bt a b x t) (ht:t<=t'):Bt a b x t':=by
 unfold Bt at *
 rcases h with h|h
 . left;constructor<;>grind
 . right;constructor<;>grind
theorem Onc.le {L H:Int} {c s t t':Rat} (h:Onc L H c s t) (ht:t<=t'):Onc L H c s t':=by
 obtain ⟨k,m,hk,hm,a,b⟩:=h;exact ⟨k,m,hk,hm,a.le ht,b.le ht⟩
theorem Onc.wide {L H L' H':Int} {c s t:Rat} (h:Onc L H c s t) (h1:L'<=L) (h2:H<=H'):Onc L' H' c s t:=by
 obtain ⟨k,m,hk,hm,a,b⟩:=h;exact ⟨k,m,by omega,by omega,a,b⟩
end Go.Proofs.Ytmldbeipmappnaa
namespace Go.Proofs.Ytmldbeipmappnaa
open Alm Sx
