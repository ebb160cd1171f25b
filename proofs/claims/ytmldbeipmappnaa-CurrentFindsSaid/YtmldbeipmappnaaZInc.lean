/- A part of a triangle has its altitude and its directions within those of the triangle. -/
import Derived.Test.YtmldbeipmappnaaZCosM
import Derived.Test.YtmldbeipmappnaaZIsoA
import Derived.Test.YtmldbeipmappnaaZTrn
set_option linter.unusedVariables false
set_option linter.unusedSimpArgs false
namespace Go.Proofs.Ytmldbeipmappnaa
open Alm Sx
def Wth (l h L H:Int):Prop:=(L=0/\H=21600000)∨(l-L)%21600000+(h-l)<=H-L
theorem J4 {l h L H:Int} (a:0<=l/\l<=21599999/\l<=h) (b:0<=L/\L<=21599999) (k:Wth l h L H) (hw:H-L<21600000):h-l<21600000/\¬ (L<=l+-21600000)/\((L<=l/\h<=H)∨(¬ (L<=l)/\L<=l+21600000/\h+21600000<=H)):=by
 unfold Wth at k;omega
