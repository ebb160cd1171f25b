/- Plain integers: the directions of a box that is mirrored. -/
import Derived.Test.YtmldbeipmappnaaZDirs
set_option linter.unusedVariables false
set_option linter.unusedSimpArgs false
namespace Alm
open Go.Proofs.Ytmldbeipmappnaa
theorem FN {yl yh xl xh u v:Int} (H:∀ px py:Int,(px=xl∨px=xh)->(py=yl∨py=yh)->0<u*px+v*py) (k j:Nat) (hj:j<k) :
 0<=crs (cX xl xh j) (cY yl yh j) (bA xl xh yl yh k).1 (bA xl xh yl yh k).2:=by
 induction k with
 | zero=>omega
 | succ k ih =>
  have pi:=uW xl xh yl yh k;have ci:=LD xl xh yl yh k;have cj:=LD xl xh yl yh j;rw [show bA xl xh yl yh (k+1)=if tN (bA xl xh yl yh k).1 (bA xl xh yl yh k).2 (cX xl xh k) (cY yl yh k) then (cX xl xh k,cY yl yh k) else bA xl xh yl yh k from rfl]
  have hp:=H _ _ pi.1 pi.2;have hc:=H _ _ ci.1 ci.2;have hj':=H _ _ cj.1 cj.2;rw [Gv]
  by_cases h1:0<=crs (bA xl xh yl yh k).1 (bA xl xh yl yh k).2 (cX xl xh k) (cY yl yh k)
  . rw [if_pos (by simpa using h1)]
    by_cases e:j=k
    . subst e;have:=Dh (cX xl xh j) (cY yl yh j);simp only [];omega
    . exact yI hj' hp hc (ih (by omega)) h1
  . rw [if_neg (by simpa using h1)]
    by_cases e:j=k
    . subst e;have:=D5 (cX xl xh j) (cY yl yh j) (bA xl xh yl yh j).1 (bA xl xh yl yh j).2;omega
    . exact ih (by omega)
theorem zu (xl xh yl yh px py:Int) (h:px=xl∨px=xh) (k:py=yl∨py=yh):∃ j,j<4/\cX xl xh j=px/\cY yl yh j=py:=by
 rcases h with rfl|rfl<;>rcases k with rfl|rfl
 . exact ⟨0,by omega,by simp [cX],by simp [cY]⟩
 . exact ⟨1,by omega,by simp [cX],by simp [cY]⟩
 . exact ⟨2,by omega,by simp [cX],by simp [cY]⟩
 . exact ⟨3,by omega,by simp [cX],by simp [cY]⟩
abbrev iF (x:Int):Prop:=-2147483648<=x/\x<=2147483648
theorem Us {u v x y:Int} (h:0<u*x+v*y):¬ (x=0/\y=0):=by rintro ⟨rfl,rfl⟩;simp at h
