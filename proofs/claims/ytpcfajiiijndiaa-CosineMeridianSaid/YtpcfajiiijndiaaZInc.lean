/- A part of a triangle has its altitude and its directions within those of the triangle. -/
import Derived.Test.YtpcfajiiijndiaaZCosM
import Derived.Test.YtpcfajiiijndiaaZIsoA
import Derived.Test.YtpcfajiiijndiaaZTrn
set_option linter.unusedVariables false
set_option linter.unusedSimpArgs false
namespace Go.Proofs.Ytpcfajiiijndiaa
open Alm Sx
theorem MX {a b c d e f a' b' c' d' e' f':Int} (h1:a<=a'/\a'<=b'/\b'<=b) (h2:c<=c'/\c'<=d'/\d'<=d) (h3:e<=e'/\e'<=f'/\f'<=f):Pt (jJ a' b' c' d' e' f') (jJ a b c d e f) :=
 WP (U_M (U_S a b) (U_S c d)).2.2 (U_M (U_M (U_C a b) (U_C c d)).2.2 (U_C e f)).2.2 (U_M (U_S a' b') (U_S c' d')).2.2 (U_M (U_M (U_C a' b') (U_C c' d')).2.2 (U_C e' f')).2.2
  (Cf (U_S a b) (U_S c d) (U_S a' b') (U_S c' d') (Bj h1) (Bj h2))
  (Cf (U_M (U_C a b) (U_C c d)).2.2 (U_C e f) (U_M (U_C a' b') (U_C c' d')).2.2 (U_C e' f') (Cf (U_C a b) (U_C c d) (U_C a' b') (U_C c' d') (zf h1) (zf h2)) (zf h3))
theorem JS {a b c d e f a' b' c' d' e' f':Int} (h1:a<=a'/\a'<=b'/\b'<=b) (h2:c<=c'/\c'<=d'/\d'<=d) (h3:e<=e'/\e'<=f'/\f'<=f) :
 (dV a b c d e f).getD 0 0<=(dV a' b' c' d' e' f').getD 0 0/\(dV a' b' c' d' e' f').getD 1 0<=(dV a b c d e f).getD 1 0:=by
 rw [(eT a b c d e f).1,(eT a b c d e f).2.1,(eT a' b' c' d' e' f').1,(eT a' b' c' d' e' f').2.1];have h:=MX h1 h2 h3;exact Ja _ _ _ _ h.1 h.2.2
theorem Pw {c d e f c' d' e' f':Int} (h2:c<=c'/\c'<=d'/\d'<=d) (h3:e<=e'/\e'<=f'/\f'<=f):Pt (azY c' d' e' f') (azY c d e f) :=
 WH (Cf (U_C c d) (U_S e f) (U_C c' d') (U_S e' f') (zf h2) (Bj h3))
theorem Pz {a b c d e f a' b' c' d' e' f':Int} (h1:a<=a'/\a'<=b'/\b'<=b) (h2:c<=c'/\c'<=d'/\d'<=d) (h3:e<=e'/\e'<=f'/\f'<=f):Pt (azX a' b' c' d' e' f') (azX a b c d e f) :=
 WT (U_M (U_S c d) (U_C a b)).2.2 (U_M (U_M (U_C c d) (U_C e f)).2.2 (U_S a b)).2.2 (U_M (U_S c' d') (U_C a' b')).2.2 (U_M (U_M (U_C c' d') (U_C e' f')).2.2 (U_S a' b')).2.2
  (Cf (U_S c d) (U_C a b) (U_S c' d') (U_C a' b') (Bj h2) (zf h1))
  (Cf (U_M (U_C c d) (U_C e f)).2.2 (U_S a b) (U_M (U_C c' d') (U_C e' f')).2.2 (U_S a' b') (Cf (U_C c d) (U_C e f) (U_C c' d') (U_C e' f') (zf h2) (zf h3)) (Bj h1))
def Wth (l h L H:Int):Prop:=(L=0/\H=21600000)∨(l-L)%21600000+(h-l)<=H-L
theorem Lp {a b c d e f a' b' c' d' e' f':Int} (h1:a<=a'/\a'<=b'/\b'<=b) (h2:c<=c'/\c'<=d'/\d'<=d) (h3:e<=e'/\e'<=f'/\f'<=f) :
 Wth ((azV a' b' c' d' e' f').getD 0 0) ((azV a' b' c' d' e' f').getD 1 0) ((azV a b c d e f).getD 0 0) ((azV a b c d e f).getD 1 0):=by
 rw [(gP a b c d e f).1,(gP a b c d e f).2.1,(gP a' b' c' d' e' f').1,(gP a' b' c' d' e' f').2.1];have B:=Bo a b c d e f;exact ww (Pw h2 h3) (Pz h1 h2 h3) ⟨B.1.2.1,B.1.2.2⟩ ⟨B.2.2.1,B.2.2.2⟩
theorem ow {l h L H:Int} (a:0<=l/\l<=21599999/\l<=h) (b:0<=L/\L<=21599999) (k:Wth l h L H) (hw:H-L<21600000):h-l<21600000/\¬ (L<=l+-21600000)/\((L<=l/\h<=H)∨(¬ (L<=l)/\L<=l+21600000/\h+21600000<=H)):=by
 unfold Wth at k;omega
theorem fO {a b n x y z r q:Int} (h:-1099511627776<=a/\a<=b/\b<=1099511627776) (hn:0<=n/\n<=4294967295) (e1:x=IntKind.i64.wrap n) (e2:y=IntKind.i64.wrap (b-a)) (e3:z=IntKind.i64.wrap (y+1)) (e4:r=Int.tmod x z) (e5:q=IntKind.i64.wrap (a+r)):z≠0/\a<=q/\q<=b:=by
 rw [Go.IntWalk.i64_in _ (by omega)] at e1 e2
 subst e1 e2;rw [Go.IntWalk.i64_in _ (by omega)] at e3
 subst e3;rw [Int.tmod_eq_emod_of_nonneg hn.1] at e4;have h1:=Int.emod_nonneg x (show b-a+1≠0 by omega)
 have h2:=Int.emod_lt_of_pos x (show 0<b-a+1 by omega)
 rw [Go.IntWalk.i64_in _ (by omega)] at e5
 omega
