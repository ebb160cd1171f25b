/- Values of plain types (integers, booleans, structs of them): every value that reads is the listed integers, holds no place, and reads the same in every world. -/
import Derived.Test.YtbcnifkfaknnaaaGreatZSxL
import Derived.WalkKit
import Derived.ProofKit
import Derived.OpenShut
import Derived.ChangeOld
import Derived.Below
import Derived.Lib.SmallJoins
set_option linter.unusedVariables false
set_option linter.unusedSimpArgs false
namespace Sx
open Go Go.ChangeShapes Go.WideShapes Go.RowKit
def NK (rec:TypeId->Option Sh) (P:Program):Nat->List Field->Option Sh
 | _,[]=>some []
 | off,f::fs =>
  match rec f.type with
  | some s=>if f.offset=off/\P.cellsOf f.type=s.length then (NK rec P (off+s.length) fs).map (s ++ ·) else none
  | none=>none
def shT (P:Program):Nat->TypeId->Option Sh
 | 0,_=>none
 | n+1,t =>
  match P.underlying t with
  | some .bool=>some [none]
  | some (.int k)=>some [some k]
  | some (.struct fs)=>(NK (shT P n) P 0 fs.toList).bind fun s=>if P.cellsOf t=s.length then some s else none
  | _=>none
def isStruct (P:Program) (t:TypeId):Bool :=
 match P.underlying t with
 | some (.struct _)=>true
 | _=>false
def shA (P:Program) (n:Nat):List TypeId->Option (List (Bool × Sh))
 | []=>some []
 | t::ts=>(shT P n t).bind fun s=>(shA P n ts).map ((isStruct P t,s) :: ·)
def okI:Sh->List Int->Prop
 | [],_=>True
 | some k::h,l=>(Lit.int k (l.headD 0)).wf=true/\okI h l.tail
 | none::h,l=>okI h l.tail
def XB:List (Bool × Sh)->List Int->Prop
 | [],_=>True
 | (_,h)::hs,l=>okI h l/\XB hs (l.drop h.length)
def total:List (Bool × Sh)->Nat
 | []=>0
 | (_,h)::hs=>h.length+total hs
theorem jq:∀ (a b:Sh) (xs ys:List Int),xs.length=a.length->iK (a++b) (xs++ys)=iK a xs++iK b ys
 | [],b,[],ys,_=>rfl
 | some k::a,b,x::xs,ys,h=>by
  simp only [List.cons_append,iK,List.headD_cons,List.tail_cons];rw [jq a b xs ys (by simpa using h)]
 | none::a,b,x::xs,ys,h=>by
  simp only [List.cons_append,iK,List.headD_cons,List.tail_cons];rw [jq a b xs ys (by simpa using h)];rfl
theorem ME (a:Sh) (xs ys:List Int) (h:xs.length=a.length):iK a (xs++ys)=iK a xs:=by
 have:=jq a [] xs ys h;rw [List.append_nil] at this;rw [this];simp [iK]
theorem nG:∀ (a b:Sh) (xs ys:List Int),xs.length=a.length->okI a xs->okI b ys->okI (a++b) (xs++ys)
 | [],b,[],ys,_,_,h=>h
 | some k::a,b,x::xs,ys,h,h1,h2=>⟨h1.1,nG a b xs ys (by simpa using h) h1.2 h2⟩
 | none::a,b,x::xs,ys,h,h1,h2=>nG a b xs ys (by simpa using h) h1 h2
theorem Av:∀ (a:Sh) (xs ys:List Int),xs.length=a.length->okI a xs->okI a (xs++ys)
 | [],_,_,_,_=>trivial
 | some k::a,x::xs,ys,h,h1=>⟨h1.1,Av a xs ys (by simpa using h) h1.2⟩
 | none::a,x::xs,ys,h,h1=>Av a xs ys (by simpa using h) h1
section
variable {H:Type} {enc:TypeId × Value->H} {P:Program} {w:World} {base:Nat} {spare:Nat->Bool} {held:Bool}
def FU (enc:TypeId × Value->H) (P:Program) (fuel:Nat) (t:TypeId) (s:Sh) (cs:List Value) (x:DataW H × List MemPlace):Prop :=
 ∃ xs,cs=iK s xs/\xs.length=s.length/\okI s xs/\x.2=[]/\∀ w' base' spare' held',DataW.trod enc P w' base' spare' held' fuel t cs=some x
theorem qg {rec:TypeId->Option Sh} {fuel:Nat} (hr:∀ t s,rec t=some s->∀ cs x,DataW.trod enc P w base spare held fuel t cs=some x->FU enc P fuel t s cs x) (cs:List Value) :
 ∀ (fs:List Field) (off:Nat) (s:Sh),NK rec P off fs=some s->∀ ys,fs.mapM (fun f=>DataW.trod enc P w base spare held fuel f.type ((cs.drop f.offset).take (P.cellsOf f.type)))=some ys->cs.length=off+s.length ->
  ∃ xs,cs.drop off=iK s xs/\xs.length=s.length/\okI s xs/\ys.flatMap (·.2)=[]/\∀ w' base' spare' held',fs.mapM (fun f=>DataW.trod enc P w' base' spare' held' fuel f.type ((cs.drop f.offset).take (P.cellsOf f.type)))=some ys
 | [],off,s,hs,ys,hy,hl=>by
  simp only [NK,Option.some.injEq] at hs;subst hs;simp at hy;subst hy;exact ⟨[],by simp only [iK];exact List.drop_eq_nil_of_le (by simp at hl;omega),rfl,trivial,rfl,fun _ _ _ _=>by simp⟩
 | f::fs,off,s,hs,ys,hy,hl=>by
  simp only [NK] at hs;split at hs
  . rename_i s1 h1
    split at hs
    . rename_i ho
      obtain ⟨ho,hc⟩:=ho;simp only [Option.map_eq_some_iff] at hs;obtain ⟨s2,h2,rfl⟩:=hs;simp only [List.mapM_cons,Option.pure_def,Option.bind_eq_bind,Option.bind_eq_some_iff,Option.some.injEq] at hy;obtain ⟨y,hy1,ys',hy2,rfl⟩:=hy;obtain ⟨xs1,e1,l1,k1,p1,r1⟩:=hr f.type s1 h1 _ _ hy1;obtain ⟨xs2,e2,l2,k2,p2,r2⟩:=qg hr cs fs (off+s1.length) s2 h2 ys' hy2 (by rw [hl,List.length_append];omega)
      refine ⟨xs1++xs2,?_,by simp [l1,l2],nG _ _ _ _ l1 k1 k2,by simp [p1,p2],fun w' b' s' h'=>?_⟩
      . rw [jq _ _ _ _ l1,<-e1,<-e2,ho,hc,<-List.drop_drop,List.take_append_drop]
      . simp only [List.mapM_cons,Option.pure_def,Option.bind_eq_bind,Option.bind_eq_some_iff,Option.some.injEq];exact ⟨y,r1 w' b' s' h',ys',r2 w' b' s' h',rfl⟩
    . cases hs
  . cases hs
theorem vo:∀ (n:Nat) (t:TypeId) (s:Sh),shT P n t=some s->∀ (fuel:Nat) (cs:List Value) (x:DataW H × List MemPlace),DataW.trod enc P w base spare held fuel t cs=some x->FU enc P fuel t s cs x
 | 0,_,_,h,_,_,_,_=>by cases h
 | n+1,t,s,h,fuel,cs,x,hx=>by
  simp only [shT] at h;split at h
  . rename_i hu
    cases h;obtain ⟨b,rfl,rfl⟩:=DataW.trod_bool hu hx;cases fuel with
    | zero=>cases hx
    | succ m =>
     refine ⟨[if b then 1 else 0],by cases b<;>rfl,rfl,trivial,rfl,fun _ _ _ _=>by simp [DataW.trod,hu]⟩
  . rename_i k hu
    cases h;obtain ⟨i,rfl,rfl,hw⟩:=DataW.trod_int hu hx;cases fuel with
    | zero=>cases hx
    | succ m =>
     refine ⟨[i],rfl,rfl,⟨hw,trivial⟩,rfl,fun _ _ _ _=>by simp [DataW.trod,hu,hw]⟩
  . rename_i fs hu
    simp only [Option.bind_eq_some_iff] at h;obtain ⟨s',hs',hc⟩:=h;split at hc
    . rename_i hcell
      cases hc;cases fuel with
      | zero=>cases hx
      | succ m =>
       simp only [DataW.trod,hu] at hx;split at hx
       . rename_i hl
         simp only [Option.map_eq_some_iff] at hx;obtain ⟨ys,hm,rfl⟩:=hx;obtain ⟨xs,e,l,k,p,r⟩:=qg (fun t s h cs x hx=>vo n t s h m cs x hx) cs fs.toList 0 s hs' ys hm (by rw [hl,hcell];omega)
         refine ⟨xs,by simpa using e,l,k,p,fun w' b' s' h'=>?_⟩
         simp only [DataW.trod,hu];rw [if_pos hl];simp only [Option.map_eq_some_iff];exact ⟨ys,r w' b' s' h',rfl⟩
       . cases hx
    . cases hc
  . cases h
theorem args_plain (n:Nat) {W:World} {r:Reach} {b0:Nat}:∀ (ts:List TypeId) (vs:List Value) (ds:List (DataW H)) (ps:List MemPlace) (hs:List (Bool × Sh)),shA P n ts=some hs->DataW.TrodAll enc P w base spare held ts vs ds ps ->
 (∀ (j:Nat) t v,ts[j]? = some t->vs[j]? = some v->Value.okWide P W r b0 t v) ->
 ∃ xs,vs=mkVals hs xs/\xs.length=total hs/\XB hs xs/\ps=[]/\∀ w' base' spare' held',DataW.TrodAll enc P w' base' spare' held' ts vs ds []
 | [],[],[],ps,hs,h,ht,_=>by
  simp only [shA,Option.some.injEq] at h;subst h;simp only [DataW.TrodAll] at ht;exact ⟨[],rfl,rfl,trivial,ht,fun _ _ _ _=>rfl⟩
 | t::ts,v::vs,d::ds,ps,hs,h,ht,ho=>by
  simp only [shA,Option.bind_eq_some_iff,Option.map_eq_some_iff] at h;obtain ⟨s,hs1,hs2,h2,rfl⟩:=h;obtain ⟨p,q,⟨fuel,ht1⟩,ht2,rfl⟩:=ht;obtain ⟨xs1,e1,l1,k1,p1,r1⟩:=vo n t s hs1 fuel _ _ ht1;obtain ⟨xs2,e2,l2,k2,p2,r2⟩:=args_plain n ts vs ds q hs2 h2 ht2 (fun j t v h1 h2=>ho (j+1) t v (by simpa using h1) (by simpa using h2))
  have p1':p=[]:=p1;subst p1'
  refine ⟨xs1++xs2,?_,by simp [total,l1,l2],⟨Av _ _ _ l1 k1,by rw [<-l1,List.drop_left];exact k2⟩,by simpa using p2,fun w' b' s' h'=>⟨[],[],⟨fuel,r1 w' b' s' h'⟩,r2 w' b' s' h',rfl⟩⟩
  simp only [mkVals];rw [ME _ _ _ l1,<-l1,List.drop_left,<-e2]
  congr 1
  have hv:=ho 0 t v rfl rfl;cases n with
  | zero=>cases hs1
  | succ n =>
   simp only [shT] at hs1;split at hs1
   . rename_i hu
     cases hs1;simp only [isStruct,hu];obtain ⟨b,rfl⟩:=okWide_bool hu hv;simp only [Value.cells] at e1;simp [<-e1]
   . rename_i k hu
     cases hs1;simp only [isStruct,hu];obtain ⟨i,hv'⟩:=okWide_int hu hv;obtain rfl:=hv'
     simp only [Value.cells] at e1;simp [<-e1]
   . rename_i fs hu
     simp only [isStruct,hu];obtain ⟨cs,rfl,_⟩:=okWide_struct hu hv;simp only [Value.cells] at e1;simp [<-e1]
   . cases hs1
theorem post_below {f:Func} {s:ChangeSpec} {apart fresh handsOn again:Bool} {W W':World} {args:Array Value} {v:Value} {ds gs:List (DataW H)} {before pa pv:List MemPlace}
 (hW:DataW.Whole enc P f.params.toList s.vars apart W args.toList ds gs before)
 (hres:∀ (b:Nat) (sp:Nat->Bool) (hd:Bool),DataW.TrodAll enc P W' b sp hd f.resultTypes.toList (v.resultList f.resultTypes.size) (s.fn H (ds++gs)).results [])
 (hargs:∀ sp:Nat->Bool,(∀ p∈before,sp p.block=true)->DataW.TrodAll enc P W' 0 sp true f.params.toList args.toList (s.fn H (ds++gs)).args pa)
 (hvars:∀ sp:Nat->Bool,(∀ p∈before,sp p.block=true)->DataW.TrodVars enc P W' sp s.vars (s.fn H (ds++gs)).vars pv)
 (hps:before=pa++pv) (hb:Below W.heap.size W W')
 (hok:∀ (j:Nat) (t:TypeId) (r:Value),f.resultTypes[j]? = some t->(v.resultList f.resultTypes.size)[j]? = some r->Value.okWide P W' .any 0 t r) :
 s.post enc P f apart fresh handsOn again W args v W':=by
 have hlt:∀ p∈before,p.block<W.heap.size:=fun p hp=>hW.lt p hp
 have hold:∀ p∈before,(fun b=>decide (b<W.heap.size)) p.block=true:=fun p hp=>by simpa using hlt p hp
 refine ⟨ds,gs,before,[],pa,pv,hW,hres _ _ _,hargs _ hold,hvars _ hold,World.keptBut_mono (fun p hp=>⟨hp,?_⟩) (hb.frame (·∈before)),fun _=>?_⟩
 . rw [hps,List.mem_append] at hp;exact Or.inr hp
 . obtain ⟨_,_,_,_,_,hz,hn⟩:=hW;refine ⟨hok,_,_,([]++pa)++pv,⟨[]++pa,pv,trodAll_append (hargs _ (fun _ _=>rfl)) (hres _ _ _),hvars _ (fun _ _=>rfl),rfl,?_,?_⟩,?_⟩
   . intro b off hp;have hin:MemPlace.cell b off∈before:=by rw [hps];simpa using hp
     rw [hb.frozen (hlt _ hin)];exact hz b off hin
   . intro ha;have:=hn ha;rw [hps] at this
     simpa using this
   . intro p hp _;rw [hps]
     simpa using hp
end
