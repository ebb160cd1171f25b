/- Plain laws of a traverse: half a turn more turns the sums around; sums of parts, and in another order. -/
import Derived.Test.YtpcfajiiijndiaaGreatZMid4
set_option linter.unusedVariables false
set_option linter.unusedSimpArgs false
namespace Go.Proofs.YtpcfajiiijndiaaGreat
open Go.RowKit Alm
theorem qA (x n:Int) (hx:-1073741824<=x/\x<=1073741824) (hn:0<=n):-n<=qFl x n 1073741824/\qFl x n 1073741824<=qCe x n 1073741824/\qCe x n 1073741824<=n:=by
 have h1:x*n<=1073741824*n:=Int.mul_le_mul_of_nonneg_right hx.2 hn;have h2:-1073741824*n<=x*n:=Int.mul_le_mul_of_nonneg_right hx.1 hn;unfold qFl qCe;generalize x*n=P at *
 omega
theorem Ee (flo fhi lo hi:Int) (h1:-1073741824<=flo) (h2:flo<=fhi) (h3:fhi<=1073741824) (hlo:0<=lo) (hl:lo<=hi) :
 -hi<=mg flo fhi lo hi/\mg flo fhi lo hi<=mZ flo fhi lo hi/\mZ flo fhi lo hi<=hi:=by
 have a:=qA flo lo ⟨by omega,by omega⟩ (by omega)
 have b:=qA fhi lo ⟨by omega,by omega⟩ (by omega)
 have c:=qA flo hi ⟨by omega,by omega⟩ (by omega)
 have d:=qA fhi hi ⟨by omega,by omega⟩ (by omega)
 unfold mg mZ iW iO;omega
structure ag where
 cl:Int
 ch:Int
 dl:Int
 dh:Int
def ag.ok (l:ag):Bool:=tu l.cl l.ch l.dl l.dh
def ag.xl (l:ag):Int:=mg (aZ l.cl l.ch) (aV l.cl l.ch) l.dl l.dh
def ag.xh (l:ag):Int:=mZ (aZ l.cl l.ch) (aV l.cl l.ch) l.dl l.dh
def ag.yl (l:ag):Int:=mg (fC l.cl l.ch) (fA l.cl l.ch) l.dl l.dh
def ag.yh (l:ag):Int:=mZ (fC l.cl l.ch) (fA l.cl l.ch) l.dl l.dh
def ag.small (l:ag):Bool:=decide (l.dh<=1073741824/\l.ch<=1073741824/\-1073741824<=l.cl)
def ag.back (l:ag):ag:=⟨l.cl+10800000,l.ch+10800000,l.dl,l.dh⟩
theorem EG (l:ag) (h:l.ok=true):l.cl<=l.ch/\-1099511627776<=l.cl/\l.ch<=1099511627776/\0<=l.dl/\l.dl<=l.dh/\l.dh<=1099511627776:=by
 unfold ag.ok tu at h;simp only [Bool.and_eq_true,decide_eq_true_eq,aT] at h;omega
theorem Af (l:ag) (h:l.ok=true):-l.dh<=l.xl/\l.xl<=l.xh/\l.xh<=l.dh/\-l.dh<=l.yl/\l.yl<=l.yh/\l.yh<=l.dh:=by
 have k:=EG l h;have e1:=wD (l.cl+5400000) (l.ch+5400000);have e2:=wD l.cl l.ch;have a:=Ee (aZ l.cl l.ch) (aV l.cl l.ch) l.dl l.dh (by unfold aZ;omega) (by unfold aZ aV;omega) (by unfold aV;omega) (by omega) (by omega)
 have b:=Ee (fC l.cl l.ch) (fA l.cl l.ch) l.dl l.dh (by omega) (by omega) (by omega) (by omega) (by omega)
 exact ⟨a.1,a.2.1,a.2.2,b.1,b.2.1,b.2.2⟩
def sumOf (f:ag->Int) (L:List ag):Int:=(L.map f).sum
theorem oN (f:ag->Int):sumOf f []=0:=rfl
theorem bA (f:ag->Int) (l:ag) (L:List ag):sumOf f (l::L)=f l+sumOf f L:=by unfold sumOf;simp
theorem qR (f:ag->Int) (L M:List ag):sumOf f (L++M)=sumOf f L+sumOf f M:=by
 induction L with
 | nil=>simp [oN]
 | cons l L ih=>rw [List.cons_append,bA,bA,ih];omega
end Go.Proofs.YtpcfajiiijndiaaGreat
namespace Go.Proofs.YtpcfajiiijndiaaGreat
open Go.RowKit Alm
def Gf (w:World) (b o:Nat) (l:ag):Prop:=w.cell? ⟨b,o,none⟩=some (.int .i64 l.cl)/\w.cell? ⟨b,o+1,none⟩=some (.int .i64 l.ch)/\w.cell? ⟨b,o+2,none⟩=some (.int .i64 l.dl)/\w.cell? ⟨b,o+3,none⟩=some (.int .i64 l.dh)
def qJ (w:World) (b off:Nat) (L:List ag):Prop:=b<w.heap.size/\∀ i (h:i<L.length),Gf w b (off+i*4) L[i]
theorem qJ.below {w wx:World} {b off B:Nat} {L:List ag} (h:qJ w b off L) (hb:Below B w wx) (hB:b<B):qJ wx b off L :=
 ⟨Nat.lt_of_lt_of_le h.1 hb.size,fun i hi=>by
  obtain ⟨a,b',c,d⟩:=h.2 i hi;exact ⟨(hb.cell hB).trans a,(hb.cell hB).trans b',(hb.cell hB).trans c,(hb.cell hB).trans d⟩⟩
def nN (w:World) (a:Option Addr) (L:List ag):Prop:=L=[]∨∃ b off,a=some ⟨b,off,none⟩/\qJ w b off L
theorem nN.below {w wx:World} {a:Option Addr} {L:List ag} (h:nN w a L) (hb:Below w.heap.size w wx):nN wx a L:=by
 rcases h with h|⟨b,off,h1,h2⟩
 . exact .inl h
 . exact .inr ⟨b,off,h1,h2.below hb h2.1⟩
def ag.v (l:ag):Value:=.agg #[.int .i64 l.cl,.int .i64 l.ch,.int .i64 l.dl,.int .i64 l.dh]
end Go.Proofs.YtpcfajiiijndiaaGreat
namespace Go.Proofs.YtpcfajiiijndiaaGreat
open Go.RowKit Alm
end Go.Proofs.YtpcfajiiijndiaaGreat
namespace Go.Proofs.YtpcfajiiijndiaaGreat
open Go.RowKit Alm
theorem bS (f:ag->Int) (L:List ag) (i:Nat) (hi:i<L.length):sumOf f (L.take (i+1))=sumOf f (L.take i)+f L[i]:=by
 rw [List.take_succ_eq_append_getElem hi,qR,bA,oN];omega
