/- The closed facts of the program that every statement asks, each one apart: together they are more than the kernel may hold. -/
import Derived.Test.YtbcnifkfaknnaaaGreatRows
import Derived.JoinedOf
set_option linter.unusedVariables false
set_option linter.unusedSimpArgs false
namespace Go.Proofs.YtbcnifkfaknnaaaGreat
open Go
theorem jk2:(laidOutB Tryz.prog)=true:=by kernel_rfl
theorem jk3:(mapsRowed Tryz.prog)=true:=by kernel_rfl
theorem jk7:(Tryz.prog.stops==[])=true:=by kernel_rfl
theorem jk9:(Tryz.prog.stopKnobs==[])=true:=by kernel_rfl
theorem Xh:(Tryz.prog.stopsHeard)=true:=by kernel_rfl
theorem Zn:(Tryz.prog.mayEnter)=true:=by kernel_rfl
def Oo (P:Program) (fn:Func) (s:ChangeSpec) (c:OpenClaim):Bool :=
 (c.wf (OpenSpec.ofChange s))&&(fn.params.all (P.readableRec ·))&&(namedTie P c.named s.vars)&&(c.stops==[])&&(c.knobs==[])&&(c.maps==(fn.params.toList++s.plain.varTypes P).any (P.mapsRec ·))&&(c.ifaces==(fn.params.toList++s.plain.varTypes P).any (P.ifacesRec ·))&&(c.mapsOut==P.mapsAmong fn.resultTypes.toList)&&(c.loops==(fn.params.toList++s.plain.varTypes P).any (P.loopsFrom ·))&&(c.wideKeys==(fn.params.toList++s.plain.varTypes P++fn.resultTypes.toList).any (P.wideKeysFrom ·))&&(s.vars.all (P.varReadable ·))&&(fn.resultTypes.all (fun t=>P.readableRec t&&decide (t<P.types.size)))&&(c.ifacesOut==fn.resultTypes.toList.any (P.ifacesRec ·))&&(c.loopsOut==fn.resultTypes.toList.any (P.loopsFrom ·))&&(c.shortTexts.isNone)&&(c.kinds==(if c.domain.isEmpty then [] else fn.params.toList.map fun t=>match P.underlying t with|some (.int k)=>some k|_=>none))&&(c.pinned==c.pinnedBy)&&(c.veiled==(fn.params.toList++s.plain.varTypes P++fn.resultTypes.toList).any (P.veiledRec ·))&&(c.veiledFits P fn.params.toList (fn.params.toList++s.plain.varTypes P++fn.resultTypes.toList))
theorem JL {P:Program} {f:FuncId} {fn:Func} {s:ChangeSpec} {c:OpenClaim} (k2:(laidOutB P)=true) (k3:(mapsRowed P)=true) (k7:(P.stops==[])=true) (k9:(P.stopKnobs==[])=true) (k10:(c.inPlace==P.inPlace f)=true) (k11:(c.unfollowed==P.unfollowed f)=true) (k12:(c.recurses==P.recurses f)=true) (k13:(c.named==P.varsNamed f)=true) (k22:(c.plainKeys==P.plainKeys)=true) (k23b:(P.stopsHeard)=true) (k24:(P.mayEnter)=true) (k24b:(c.lifted==P.liftsFinal)=true) (k24c:(P.make==some c.make)=true) (hr:Oo P fn s c=true):joinedFacts P f fn s c=true:=by
 simp only [Oo,Bool.and_eq_true] at hr;obtain ⟨⟨⟨⟨⟨⟨⟨⟨⟨⟨⟨⟨⟨⟨⟨⟨⟨⟨k1,k4⟩,k5⟩,k6⟩,k8⟩,k14⟩,k15⟩,k16⟩,k17⟩,k17b⟩,k18⟩,k19⟩,k20⟩,k21⟩,k23⟩,k25⟩,k26⟩,k27⟩,k28⟩:=hr;unfold joinedFacts;simp only [Bool.and_eq_true];exact ⟨⟨⟨⟨⟨⟨⟨⟨⟨⟨⟨⟨⟨⟨⟨⟨⟨⟨⟨⟨⟨⟨⟨⟨⟨⟨⟨⟨⟨⟨⟨k1,k2⟩,k3⟩,k4⟩,k5⟩,k6⟩,k7⟩,k8⟩,k9⟩,k10⟩,k11⟩,k12⟩,k13⟩,k14⟩,k15⟩,k16⟩,k17⟩,k17b⟩,k18⟩,k19⟩,k20⟩,k21⟩,k22⟩,k23⟩,k23b⟩,k24⟩,k24b⟩,k24c⟩,k25⟩,k26⟩,k27⟩,k28⟩
