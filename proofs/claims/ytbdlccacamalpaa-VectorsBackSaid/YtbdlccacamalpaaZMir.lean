/- Plain integers: the directions of a box that is mirrored. -/
import Derived.Test.YtbdlccacamalpaaZDirs
set_option linter.unusedVariables false
set_option linter.unusedSimpArgs false
namespace Alm
open Go.Proofs.Ytbdlccacamalpaa
theorem yU {yl yh xl xh u v:Int} (H:∀ px py:Int,(px=xl∨px=xh)->(py=yl∨py=yh)->0<u*px+v*py) (k j:Nat) (hj:j<k) :
 0<=crs (cX xl xh j) (cY yl yh j) (aP xl xh yl yh k).1 (aP xl xh yl yh k).2:=by
 induction k with
 | zero=>omega
 | succ k ih =>
  have pi:=oI xl xh yl yh k;have ci:=IC xl xh yl yh k;have cj:=IC xl xh yl yh j;rw [show aP xl xh yl yh (k+1)=if nE (aP xl xh yl yh k).1 (aP xl xh yl yh k).2 (cX xl xh k) (cY yl yh k) then (cX xl xh k,cY yl yh k) else aP xl xh yl yh k from rfl]
  have hp:=H _ _ pi.1 pi.2;have hc:=H _ _ ci.1 ci.2;have hj':=H _ _ cj.1 cj.2;rw [zO]
  by_cases h1:0<=crs (aP xl xh yl yh k).1 (aP xl xh yl yh k).2 (cX xl xh k) (cY yl yh k)
  . rw [if_pos (by simpa using h1)]
    by_cases e:j=k
    . subst e;have:=xO (cX xl xh j) (cY yl yh j);simp only [];omega
    . exact sG hj' hp hc (ih (by omega)) h1
  . rw [if_neg (by simpa using h1)]
    by_cases e:j=k
    . subst e;have:=xw (cX xl xh j) (cY yl yh j) (aP xl xh yl yh j).1 (aP xl xh yl yh j).2;omega
    . exact ih (by omega)
theorem tQ (xl xh yl yh px py:Int) (h:px=xl∨px=xh) (k:py=yl∨py=yh):∃ j,j<4/\cX xl xh j=px/\cY yl yh j=py:=by
 rcases h with rfl|rfl<;>rcases k with rfl|rfl
 . exact ⟨0,by omega,by simp [cX],by simp [cY]⟩
 . exact ⟨1,by omega,by simp [cX],by simp [cY]⟩
 . exact ⟨2,by omega,by simp [cX],by simp [cY]⟩
 . exact ⟨3,by omega,by simp [cX],by simp [cY]⟩
abbrev dP (x:Int):Prop:=-2147483648<=x/\x<=2147483648
theorem Jj {u v x y:Int} (h:0<u*x+v*y):¬ (x=0/\y=0):=by rintro ⟨rfl,rfl⟩;simp at h
