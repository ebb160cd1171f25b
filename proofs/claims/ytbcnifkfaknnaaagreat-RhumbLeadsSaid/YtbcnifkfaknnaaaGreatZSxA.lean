/- A symbolic run of Go code without dynamic loops: the definitions. -/
import Derived.Below
import Derived.Calls
import Derived.Orders
import Derived.KernelRfl
import Derived.Laws.Small
import Derived.Laws.Entries
import Derived.Laws.StructEq
import Derived.Laws.Tables
import Derived.Great.BuildSlice
set_option linter.unusedVariables false
set_option linter.unusedSimpArgs false
namespace Sx
open Go
inductive Rf where
 | c (z:Int)
 | n (i:Nat)
 deriving DecidableEq
instance (i:Nat):OfNat Rf i:=⟨.n i⟩
inductive Nd where
 | arg (i:Nat)
 | bin (op:BinOp) (k:IntKind) (a b:Rf)
 | wrap (k:IntKind) (a:Rf)
 | ite (c a b:Rf)
 | mn (a b:Rf)
 | mx (a b:Rf)
 | app (f i:Nat) (xs:List Rf)
 deriving DecidableEq
def ieq:Int->Int->Bool
 | .ofNat a,.ofNat b=>Nat.beq a b
 | .negSucc a,.negSucc b=>Nat.beq a b
 | _,_=>false
theorem zu {a b:Int} (h:ieq a b=true):a=b:=by
 cases a<;>cases b<;>simp [ieq] at h<;>rw [h]
theorem Km (a:Int):ieq a a=true:=by cases a<;>simp [ieq]
def Rf.eq:Rf->Rf->Bool
 | .c a,.c b=>ieq a b
 | .n a,.n b=>Nat.beq a b
 | _,_=>false
theorem Rf.eq_eq {a b:Rf} (h:a.eq b=true):a=b:=by
 cases a<;>cases b<;>simp [Rf.eq] at h
 . rw [zu h]
 . rw [h]
def yF:List Rf->List Rf->Bool
 | [],[]=>true
 | x::l,y::m=>Rf.eq x y&&yF l m
 | _,_=>false
theorem Bh:∀ {a b:List Rf},yF a b=true->a=b
 | [],[],_=>rfl
 | [],_::_,h=>by simp [yF] at h
 | _::_,[],h=>by simp [yF] at h
 | x::l,y::m,h=>by
  simp only [yF,Bool.and_eq_true] at h;rw [Rf.eq_eq h.1,Bh h.2]
def Kc:BinOp->Nat
 | .add=>0|.sub=>1|.mul=>2|.quo=>3|.rem=>4|.and=>5|.or=>6|.xor=>7|.shl=>8|.shr=>9|.andNot=>10
 | .eql=>11|.neq=>12|.lss=>13|.leq=>14|.gtr=>15|.geq=>16
def kNo:IntKind->Nat
 | .i8=>0|.i16=>1|.i32=>2|.i64=>3|.u8=>4|.u16=>5|.u32=>6|.u64=>7
theorem N8 {a b:BinOp} (h:Nat.beq (Kc a) (Kc b)=true):a=b:=by
 cases a<;>cases b<;>first|rfl|(simp [Kc] at h)
theorem Ah {a b:IntKind} (h:Nat.beq (kNo a) (kNo b)=true):a=b:=by
 cases a<;>cases b<;>first|rfl|(simp [kNo] at h)
def Nd.eq:Nd->Nd->Bool
 | .arg i,.arg j=>Nat.beq i j
 | .bin op k a b,.bin op' k' a' b'=>Rf.eq a a'&&(Rf.eq b b'&&(Nat.beq (Kc op) (Kc op')&&Nat.beq (kNo k) (kNo k')))
 | .wrap k a,.wrap k' a'=>Rf.eq a a'&&Nat.beq (kNo k) (kNo k')
 | .ite c a b,.ite c' a' b'=>Rf.eq c c'&&(Rf.eq a a'&&Rf.eq b b')
 | .mn a b,.mn a' b'=>Rf.eq a a'&&Rf.eq b b'
 | .mx a b,.mx a' b'=>Rf.eq a a'&&Rf.eq b b'
 | .app f i xs,.app f' i' xs'=>Nat.beq i i'&&(Nat.beq f f'&&yF xs xs')
 | _,_=>false
theorem Nd.eq_eq {x y:Nd} (h:x.eq y=true):x=y:=by
 cases x<;>cases y<;>simp only [Nd.eq,Bool.and_eq_true,Bool.false_eq_true] at h
 . rw [Nat.eq_of_beq_eq_true h]
 . rw [Rf.eq_eq h.1,Rf.eq_eq h.2.1,N8 h.2.2.1,Ah h.2.2.2]
 . rw [Rf.eq_eq h.1,Ah h.2]
 . rw [Rf.eq_eq h.1,Rf.eq_eq h.2.1,Rf.eq_eq h.2.2]
 . rw [Rf.eq_eq h.1,Rf.eq_eq h.2]
 . rw [Rf.eq_eq h.1,Rf.eq_eq h.2]
 . rw [Nat.eq_of_beq_eq_true h.1,Nat.eq_of_beq_eq_true h.2.1,Bh h.2.2]
def Rf.val (v:Nat->Int):Rf->Int
 | .c z=>z
 | .n i=>v i
def b2i (b:Bool):Int:=if b then 1 else 0
def dK (op:BinOp) (k:IntKind) (x y:Int):Int :=
 match op with
 | .add=>k.wrap (x+y)
 | .sub=>k.wrap (x-y)
 | .mul=>k.wrap (x*y)
 | .quo=>k.wrap (x.tdiv y)
 | .rem=>x.tmod y
 | .and=>k.wrap (BitVec.ofInt k.bits x &&& BitVec.ofInt k.bits y).toNat
 | .or=>k.wrap (BitVec.ofInt k.bits x ||| BitVec.ofInt k.bits y).toNat
 | .xor=>k.wrap (BitVec.ofInt k.bits x ^^^ BitVec.ofInt k.bits y).toNat
 | .andNot=>k.wrap (BitVec.ofInt k.bits x &&& ~~~ BitVec.ofInt k.bits y).toNat
 | .shl=>k.wrap (x*2^(min y.toNat k.bits))
 | .shr=>x.fdiv (2^(min y.toNat k.bits))
 | .eql=>b2i (x==y)
 | .neq=>b2i (x != y)
 | .lss=>b2i (x<y)
 | .leq=>b2i (x<=y)
 | .gtr=>b2i (x>y)
 | .geq=>b2i (x>=y)
structure Cx where
 sem:Nat->List Int->List Int
 pre:Nat->List Int->Prop
 args:List Int
def Nd.val (X:Cx) (v:Nat->Int):Nd->Int
 | .arg i=>X.args.getD i 0
 | .bin op k a b=>dK op k (a.val v) (b.val v)
 | .wrap k a=>k.wrap (a.val v)
 | .ite c a b=>if c.val v≠0 then a.val v else b.val v
 | .mn a b=>if b.val v<a.val v then b.val v else a.val v
 | .mx a b=>if b.val v>a.val v then b.val v else a.val v
 | .app f i xs=>(X.sem f (xs.map (Rf.val v))).getD i 0
abbrev Path:=List (Rf × Bool)
def PT (v:Nat->Int) (p:Path):Prop:=∀ x∈p,decide (x.1.val v≠0)=x.2
inductive Vk where
 | ne0 (a:Rf)
 | ge0 (a:Rf)
 | pre (f:Nat) (xs:List Rf)
def Vk.holds (X:Cx) (v:Nat->Int):Vk->Prop
 | .ne0 a=>a.val v≠0
 | .ge0 a=>0<=a.val v
 | .pre f xs=>X.pre f (xs.map (Rf.val v))
structure Vc where
 path:Path
 k:Vk
def Vc.holds (X:Cx) (v:Nat->Int) (c:Vc):Prop:=PT v c.path->c.k.holds X v
structure Bd where
 nodes:List Nd
 vcs:List Vc
def Bd.le (b b':Bd):Prop:=(∃ l,b'.nodes=l++b.nodes)/\∃ l,b'.vcs=l++b.vcs
theorem Bd.le_refl (b:Bd):b.le b:=⟨⟨[],rfl⟩,⟨[],rfl⟩⟩
theorem Bd.le_trans {a b c:Bd} (h:a.le b) (k:b.le c):a.le c:=by
 obtain ⟨⟨l,hl⟩,⟨m,hm⟩⟩:=h;obtain ⟨⟨l',hl'⟩,⟨m',hm'⟩⟩:=k;exact ⟨⟨l'++l,by rw [hl',hl,List.append_assoc]⟩,⟨m'++m,by rw [hm',hm,List.append_assoc]⟩⟩
structure M (α:Type) where
 run:Bd->Option (α × Bd)
 ext:∀ b a b',run b=some (a,b')->b.le b'
def M.pure {α:Type} (a:α):M α:=⟨fun b=>some (a,b),fun b a b' h=>by cases h;exact b.le_refl⟩
def M.fail {α:Type}:M α:=⟨fun _=>none,fun b a b' h=>by cases h⟩
def M.bind {α β:Type} (m:M α) (f:α->M β):M β :=
 ⟨fun b=>match m.run b with
  | none=>none
  | some (a,b')=>(f a).run b',fun b a b' h=>by
   cases hm:m.run b with
   | none=>rw [hm] at h;cases h
   | some p=>obtain ⟨x,b1⟩:=p;rw [hm] at h;exact Bd.le_trans (m.ext _ _ _ hm) ((f x).ext _ _ _ h)⟩
instance:Monad M where
 pure:=M.pure
 bind:=M.bind
def bF {α:Type}:Option α->M α
 | none=>M.fail
 | some a=>M.pure a
def AO (x:Nd):List Nd->Option Nat
 | []=>none
 | y::l=>if y.eq x then some l.length else AO x l
def IK (l:List Nd) (i:Nat):Option Nd:=if Nat.blt i l.length then l[l.length-1-i]? else none
def dY:BinOp->Bool
 | .eql|.neq|.lss|.leq|.gtr|.geq=>true
 | _=>false
def isB (l:List Nd):Nat->Rf->Bool
 | _,.c z=>ieq z 0 || ieq z 1
 | 0,_=>false
 | n+1,.n i=>match IK l i with
  | some (.bin op _ _ _)=>dY op
  | some (.ite _ a b)=>isB l n a&&isB l n b
  | _=>false
def yM (l:List Nd):Rf->Option Rf
 | .n i=>match IK l i with
  | some (.ite d (.c 0) (.c 1))=>some d
  | _=>none
 | _=>none
def mk (x:Nd):M Rf :=
 ⟨fun b=>match AO x b.nodes with
  | some i=>some (.n i,b)
  | none=>some (.n b.nodes.length,⟨x::b.nodes,b.vcs⟩),fun b a b' h=>by
   split at h<;>cases h
   . exact b.le_refl
   . exact ⟨⟨[x],rfl⟩,⟨[],rfl⟩⟩⟩
def vc (p:Path) (k:Vk):M Unit:=⟨fun b=>some ((),⟨b.nodes,⟨p,k⟩::b.vcs⟩),fun b a b' h=>by cases h;exact ⟨⟨[],rfl⟩,⟨[⟨p,k⟩],rfl⟩⟩⟩
def vcNe0 (p:Path):Rf->M Unit
 | .c z=>if z=0 then M.fail else M.pure ()
 | a=>vc p (.ne0 a)
def vcGe0 (p:Path):Rf->M Unit
 | .c z=>if z<0 then M.fail else M.pure ()
 | a=>vc p (.ge0 a)
def mkBin (op:BinOp) (k:IntKind):Rf->Rf->M Rf
 | .c x,.c y=>M.pure (.c (dK op k x y))
 | a,b=>if a.eq b then (match op with
  | .eql|.leq|.geq=>M.pure (.c 1)
  | .neq|.lss|.gtr=>M.pure (.c 0)
  | _=>mk (.bin op k a b)) else mk (.bin op k a b)
def mkWrap (k:IntKind):Rf->M Rf
 | .c x=>M.pure (.c (k.wrap x))
 | a=>mk (.wrap k a)
def mkIte:Rf->Rf->Rf->M Rf
 | .c z,a,b=>M.pure (if z≠0 then a else b)
 | c,a,b=>if a.eq b then M.pure a else match a,b with
  | .c 1,.c 0=>⟨fun s=>if isB s.nodes 40 c then some (c,s) else (mk (.ite c (.c 1) (.c 0))).run s,fun s x s' h=>by
   split at h
   . cases h;exact s.le_refl
   . exact M.ext _ _ _ _ h⟩
  | .c 0,.c 1=>⟨fun s=>match yM s.nodes c with
   | some d=>if isB s.nodes 40 d then some (d,s) else (mk (.ite c (.c 0) (.c 1))).run s
   | none=>(mk (.ite c (.c 0) (.c 1))).run s,fun s x s' h=>by
   split at h
   . split at h
     . cases h;exact s.le_refl
     . exact M.ext _ _ _ _ h
   . exact M.ext _ _ _ _ h⟩
  | _,_=>mk (.ite c a b)
def mkMn:Rf->Rf->M Rf
 | .c x,.c y=>M.pure (.c (if y<x then y else x))
 | a,b=>if a.eq b then M.pure a else mk (.mn a b)
def mkMx:Rf->Rf->M Rf
 | .c x,.c y=>M.pure (.c (if y>x then y else x))
 | a,b=>if a.eq b then M.pure a else mk (.mx a b)
inductive SC where
 | top
 | int (k:IntKind) (r:Rf)
 | bool (r:Rf)
 | ptr (b o:Nat)
 | nil
 | sl (b o len cap:Nat)
 | fn (f:Nat) (caps:List Nat)
 deriving DecidableEq
inductive SP where
 | c (x:SC)
 | agg (xs:List SC)
 deriving DecidableEq
inductive SV where
 | top
 | p (x:SP)
 | tup (xs:List SP)
 deriving DecidableEq
structure Sl where
 cond:Path
 v:SV
 deriving DecidableEq
structure Bk where
 b:Nat
 t:Nat
 cs:List SC
 deriving DecidableEq
structure St where
 slots:List Sl
 mem:List Bk
 nb:Nat
def aM (b:Nat):List Bk->Option Bk
 | []=>none
 | x::l=>if x.b=b then some x else aM b l
def uD (x:Bk):List Bk->List Bk
 | []=>[x]
 | y::l=>if y.b=x.b then x::l else y::uD x l
def mO (m:List Bk):List Bk->List Bk
 | []=>m
 | x::l=>uD x (mO m l)
def El:Value->Option SC
 | .int k n=>some (.int k (.c n))
 | .bool b=>some (.bool (.c (b2i b)))
 | .pointer none=>some .nil
 | _=>none
def yI:List Value->Option (List SC)
 | []=>some []
 | x::l=>match El x,yI l with
  | some y,some m=>some (y::m)
  | _,_=>none
def U4:Value->Option SV
 | .agg cs=>(yI cs.toList).map fun l=>.p (.agg l)
 | x=>(El x).map fun y=>.p (.c y)
def SP.cells:SP->List SC
 | .c x=>[x]
 | .agg xs=>xs
def iF (P:Program) (t:TypeId):Option Bool :=
 match P.underlying t with
 | some (.struct _)|some (.array _ _)=>some true
 | some _=>some false
 | none=>none
def fZ (P:Program) (t:TypeId):Option Nat:=(P.info? t).map (·.size)
def uK (P:Program) (t:TypeId):Option (List SC) :=
 match P.info? t with
 | some i=>match i.zero with
  | some z=>yI z.cells.toList
  | none=>none
 | none=>none
def AA (P:Program) (t:TypeId) (i:Nat):Option Field :=
 match P.underlying t with
 | some (.struct fs)=>fs[i]?
 | _=>none
def partT (P:Program) (t:TypeId) (cs:List SC) (off:Nat):Option SP :=
 match iF P t with
 | some true=>match fZ P t with
  | some n=>if off+n<=cs.length then some (.agg ((cs.drop off).take n)) else none
  | none=>none
 | some false=>(cs[off]?).map .c
 | none=>none
def over (cs:List SC) (off:Nat) (xs:List SC):List SC:=cs.take off++xs++cs.drop (off+xs.length)
def iT (place:Nat->Option (Nat × Nat)):List SC->List (Nat × SP)->Option (List SC)
 | cs,[]=>some cs
 | cs,(i,x)::rest=>match place i with
  | none=>none
  | some (off,n)=>if x.cells.length=n/\off+n<=cs.length then iT place (over cs off x.cells) rest else none
def iB (P:Program):Nat->TypeId->Option (List Bool)
 | 0,_=>none
 | d+1,t=>match P.underlying t with
  | some (.int _)=>some [true]
  | some .bool=>some [false]
  | some (.struct fs) =>
   if P.stoodInHeld t then none else plainFs (iB P d) (fZ P) 0 fs.toList
  | _=>none
where
 plainFs (rec:TypeId->Option (List Bool)) (size:TypeId->Option Nat):Nat->List Field->Option (List Bool)
  | off,[]=>some []
  | off, f :: fs => if f.name = "_" ∨ f.offset ≠ off then none else match rec f.type with
   | some l=>if size f.type=some l.length then (plainFs rec size (off+l.length) fs).map (l ++ ·) else none
   | none=>none
def SC.isInt:SC->Bool
 | .int _ _=>true
 | _=>false
def iN (k:Rf):List SC->List SC->M Rf
 | [],[]=>M.pure k
 | .int i a::xs,.int j b::ys=>if i=j then M.bind (mkBin .eql i a b) fun e=>M.bind (iN k xs ys) fun r=>mkIte e r (.c 0) else M.fail
 | .bool a::xs,.bool b::ys=>M.bind (mkIte a (.c 1) (.c 0)) fun a'=>M.bind (mkIte b (.c 1) (.c 0)) fun b'=>M.bind (mkBin .eql .i64 a' b') fun e=>M.bind (iN k xs ys) fun r=>mkIte e r (.c 0)
 | _,_=>M.fail
abbrev Sh:=List (Option IntKind)
structure Spec where
 fn:Nat
 id:Nat
 args:List (Bool × Sh)
 res:List (Bool × Sh)
def jX:Sh->List SC->Option (List Rf)
 | [],[]=>some []
 | some k::h,.int j r::l=>if k=j then (jX h l).map (r :: ·) else none
 | none::h,.bool r::l=>(jX h l).map (r :: ·)
 | _,_=>none
def ET:Bool × Sh->SP->Option (List Rf)
 | (true,h),.agg xs=>jX h xs
 | (false,h),.c x=>jX h [x]
 | _,_=>none
def ou:List (Bool × Sh)->List SV->Option (List Rf)
 | [],[]=>some []
 | h::hs,.p x::xs=>match ET h x,ou hs xs with
  | some a,some b=>some (a++b)
  | _,_=>none
 | _,_=>none
def NA (f:Nat) (xs:List Rf):Nat->Sh->M (List SC)
 | _,[]=>M.pure []
 | i,k::h=>M.bind (mk (.app f i xs)) fun r=>M.bind (NA f xs (i+1) h) fun l=>M.pure ((match k with|some k=>SC.int k r|none=>SC.bool r)::l)
def Eo (f:Nat) (xs:List Rf):Nat->List (Bool × Sh)->M (List SP)
 | _,[]=>M.pure []
 | i,(g,h)::hs=>M.bind (NA f xs i h) fun cs=>M.bind (Eo f xs (i+h.length) hs) fun l =>
  if g then M.pure (SP.agg cs::l) else match cs with
   | [x]=>M.pure (SP.c x::l)
   | _=>M.fail
def pg (f:Nat):List Spec->Option Spec
 | []=>none
 | s::l=>if s.fn=f then some s else pg f l
abbrev iG:=Nat->List SV->Path->List Bk->Nat->M (SV × List Bk)
def SC.blocks:SC->List Nat
 | .ptr b _=>[b]
 | .sl b _ _ _=>[b]
 | .fn _ caps=>caps
 | _=>[]
def dA:List SC->List Nat
 | []=>[]
 | x::l=>x.blocks++dA l
def SV.blocks:SV->List Nat
 | .top=>[]
 | .p x=>dA x.cells
 | .tup xs=>spsBlocks xs
where
 spsBlocks:List SP->List Nat
  | []=>[]
  | x::l=>dA x.cells++spsBlocks l
def below (n:Nat):List Nat->Bool
 | []=>true
 | x::l=>decide (x<n)&&below n l
def rA:List SV->Option (List Rf)
 | []=>some []
 | .p (.c (.int _ r))::l=>(rA l).map (r :: ·)
 | _=>none
def Et:Rf->List Rf->M Rf
 | a,[]=>M.pure a
 | a,b::l=>M.bind (mkMn a b) fun c=>Et c l
def Eh:Rf->List Rf->M Rf
 | a,[]=>M.pure a
 | a,b::l=>M.bind (mkMx a b) fun c=>Eh c l
def jW:BinOp->Bool
 | .shl|.shr=>true
 | _=>false
def QD:Option TypeDesc->Bool
 | some .bool=>true
 | _=>false
def Aj (P:Program) (path:Path) (op:BinOp) (t:TypeId):SV->SV->M SV
 | .p (.c (.int k a)),.p (.c (.int j b)) =>
  if jW op then M.bind (vcGe0 path b) fun _=>M.bind (mkBin op k a b) fun r=>M.pure (.p (.c (.int k r)))
  else if k=j then
   if dY op then M.bind (mkBin op k a b) fun r=>M.pure (.p (.c (.bool r)))
   else if op=.quo∨op=.rem then M.bind (vcNe0 path b) fun _=>M.bind (mkBin op k a b) fun r=>M.pure (.p (.c (.int k r)))
   else M.bind (mkBin op k a b) fun r=>M.pure (.p (.c (.int k r)))
  else M.fail
 | .p (.agg xs),.p (.agg ys) =>
  if iB P 10000 t=some (xs.map SC.isInt)/\P.eqGuardType P.depth t=false/\iF P t=some true then
   match op with
   | .eql=>M.bind (iN (.c 1) xs ys) fun r=>M.pure (.p (.c (.bool r)))
   | .neq=>M.bind (iN (.c 1) xs ys) fun r=>M.bind (mkIte r (.c 0) (.c 1)) fun r=>M.pure (.p (.c (.bool r)))
   | _=>M.fail
  else M.fail
 | .p (.c (.bool a)),.p (.c (.bool b)) =>
  if QD (P.underlying t) then
   match op with
   | .eql=>M.bind (iN (.c 1) [.bool a] [.bool b]) fun r=>M.pure (.p (.c (.bool r)))
   | .neq=>M.bind (iN (.c 1) [.bool a] [.bool b]) fun r=>M.bind (mkIte r (.c 0) (.c 1)) fun r=>M.pure (.p (.c (.bool r)))
   | _=>M.fail
  else M.fail
 | _,_=>M.fail
end Sx
namespace Sx
open Go
def rQ (ev:Operand->Option SV):List Operand->Option (List SV)
 | []=>some []
 | x::l=>match ev x,rQ ev l with
  | some y,some m=>some (y::m)
  | _,_=>none
def partsOf (ev:Operand->Option SV):List (Nat × Operand)->Option (List (Nat × SP))
 | []=>some []
 | (i,x)::l=>match ev x,partsOf ev l with
  | some (.p y),some m=>some ((i,y)::m)
  | _,_=>none
def ww:List SV->Option (List Nat)
 | []=>some []
 | .p (.c (.ptr b 0))::l=>(ww l).map (b :: ·)
 | _=>none
def uZ (specs:List Spec) (rec:iG) (path:Path) (f:Nat) (args:List SV) (mem:List Bk) (nb:Nat):M (SV × List Bk) :=
 match pg f specs with
 | some s=>match ou s.args args with
  | none=>M.fail
  | some xs=>M.bind (vc path (.pre s.id xs)) fun _=>M.bind (Eo s.id xs 0 s.res) fun ps=>match ps with
   | [x]=>M.pure (.p x,mem)
   | l=>M.pure (.tup l,mem)
 | none=>rec f args path mem nb
def qj (P:Program) (t b o:Nat) (mem:List Bk):Option SP :=
 match aM b mem with
 | some k=>partT P t k.cs o
 | none=>none
def xJ (P:Program) (t b o:Nat) (x:SP) (mem:List Bk):Option Bk :=
 match aM b mem with
 | some k=>if fZ P t=some x.cells.length/\o+x.cells.length<=k.cs.length then some ⟨b,k.t,over k.cs o x.cells⟩ else none
 | none=>none
def zG (P:Program) (specs:List Spec) (rec:iG) (path:Path) (o:Oper) (ev:Operand->Option SV) (mem:List Bk) (nm nb:Nat):M (SV × List Bk) :=
 match o.op with
 | .move x|.assign x=>M.bind (bF (ev x)) fun y=>M.pure (y,[])
 | .alloc t=>M.bind (bF (uK P t)) fun cs=>M.pure (.p (.c (.ptr nm 0)),[⟨nm,t,cs⟩])
 | .box t x=>M.bind (bF (ev x)) fun y=>match y with
  | .p y=>M.pure (.p (.c (.ptr nm 0)),[⟨nm,t,y.cells⟩])
  | _=>M.fail
 | .build t parts=>M.bind (bF (uK P t)) fun cs=>M.bind (bF (partsOf ev parts.toList)) fun ps =>
  match P.underlying t with
  | some (.struct fs)=>M.bind (bF (fs.toList.mapM fun f=>(P.info? f.type).map fun i=>(f.offset,i.size))) fun places =>
   M.bind (bF (iT (fun i=>places.toArray[i]?) cs ps)) fun cs=>M.pure (.p (.agg cs),[])
  | some (.array _ e)=>M.bind (bF (fZ P e)) fun n=>M.bind (bF (iT (fun i=>some (i*n,n)) cs ps)) fun cs=>M.pure (.p (.agg cs),[])
  | _=>M.fail
 | .load t a=>M.bind (bF (ev a)) fun y=>match y with
  | .p (.c (.ptr b off))=>M.bind (bF (qj P t b off mem)) fun x=>M.pure (.p x,[])
  | _=>M.fail
 | .store t a x=>M.bind (bF (ev a)) fun y=>M.bind (bF (ev x)) fun z=>match y,z with
  | .p (.c (.ptr b off)),.p z=>M.bind (bF (xJ P t b off z mem)) fun k=>M.pure (.tup [],[k])
  | _,_=>M.fail
 | .nilCheck x=>M.bind (bF (ev x)) fun y=>match y with
  | .p (.c (.ptr b off))=>M.pure (.p (.c (.ptr b off)),[])
  | _=>M.fail
 | .binOp op t x y _=>M.bind (bF (ev x)) fun a=>M.bind (bF (ev y)) fun b=>M.bind (Aj P path op t a b) fun r=>M.pure (r,[])
 | .unOp op _ x=>M.bind (bF (ev x)) fun a=>match op,a with
  | .neg,.p (.c (.int k r))=>M.bind (mkBin .sub k (.c 0) r) fun r=>M.pure (.p (.c (.int k r)),[])
  | .not,.p (.c (.bool r))=>M.bind (mkIte r (.c 0) (.c 1)) fun r=>M.pure (.p (.c (.bool r)),[])
  | _,_=>M.fail
 | .convert s d x=>M.bind (bF (ev x)) fun a=>match P.underlying s,P.underlying d,a with
  | some _,some (.int k),.p (.c (.int _ r))=>M.bind (mkWrap k r) fun r=>M.pure (.p (.c (.int k r)),[])
  | _,_,_=>M.fail
 | .fieldAddr t x i=>M.bind (bF (ev x)) fun a=>M.bind (bF (AA P t i)) fun f=>match a,fZ P f.type with
  | .p (.c (.ptr b off)),some n=>if n=0 then M.fail else M.pure (.p (.c (.ptr b (off+f.offset))),[])
  | _,_=>M.fail
 | .field t x i=>M.bind (bF (ev x)) fun a=>M.bind (bF (AA P t i)) fun f=>match a with
  | .p (.agg cs)=>M.bind (bF (partT P f.type cs f.offset)) fun x=>M.pure (.p x,[])
  | _=>M.fail
 | .indexAddr t x i=>M.bind (bF (ev x)) fun a=>M.bind (bF (ev i)) fun j=>match P.underlying t,a,j with
  | some (.array len e),.p (.c (.ptr b off)),.p (.c (.int _ (.c z)))=>M.bind (bF (fZ P e)) fun n =>
   if 0<=z/\z<len then M.pure (.p (.c (.ptr b (off+z.toNat*n))),[]) else M.fail
  | some (.slice e),.p (.c (.sl b off len _)),.p (.c (.int _ (.c z)))=>M.bind (bF (fZ P e)) fun n =>
   if 0<=z/\z<len then M.pure (.p (.c (.ptr b (off+z.toNat*n))),[]) else M.fail
  | _,_,_=>M.fail
 | .index t x i=>M.bind (bF (ev x)) fun a=>M.bind (bF (ev i)) fun j=>match P.underlying t,a,j with
  | some (.array len e),.p (.agg cs),.p (.c (.int _ (.c z)))=>M.bind (bF (fZ P e)) fun n =>
   if 0<=z/\z<len then M.bind (bF (partT P e cs (z.toNat*n))) fun x=>M.pure (.p x,[]) else M.fail
  | _,_,_=>M.fail
 | .extract x i=>M.bind (bF (ev x)) fun a=>match a with
  | .tup xs=>M.bind (bF (xs[i]?)) fun x=>M.pure (.p x,[])
  | _=>M.fail
 | .buildSlice t len parts=>match P.underlying t with
  | some (.slice e)=>M.bind (bF (fZ P e)) fun n=>M.bind (bF (uK P e)) fun z=>M.bind (bF (partsOf ev parts.toList)) fun ps =>
   if len*n>2^24∨len*n=0∨z.length≠n then M.fail else
   M.bind (bF (iT (fun i=>some (i*n,n)) ((List.range (len*n)).map fun i=>z.getD (i%z.length) .top) ps)) fun cs=>M.pure (.p (.c (.sl nm 0 len len)),[⟨nm,e,cs⟩])
  | _=>M.fail
 | .makeFunc (.func f) first captured=>if first.size=0 then M.bind (bF (rQ ev captured.toList)) fun xs=>M.bind (bF (ww xs)) fun bs=>M.pure (.p (.c (.fn f bs)),[]) else M.fail
 | .call c=>M.bind (bF (rQ ev c.args.toList)) fun xs=>match c.callee with
  | .value f=>M.bind (bF (ev f)) fun g=>match g with
   | .p (.c (.fn f caps))=>uZ specs rec path f (xs++caps.map fun b=>.p (.c (.ptr b 0))) mem nb
   | _=>M.fail
  | .builtin .min=>match xs with
   | .p (.c (.int k r))::l=>M.bind (bF (rA l)) fun rs=>M.bind (Et r rs) fun r=>M.pure (.p (.c (.int k r)),[])
   | _=>M.fail
  | .builtin .max=>match xs with
   | .p (.c (.int k r))::l=>M.bind (bF (rA l)) fun rs=>M.bind (Eh r rs) fun r=>M.pure (.p (.c (.int k r)),[])
   | _=>M.fail
  | .builtin .len=>match xs,(c.argTypes[0]?).bind P.underlying with
   | [.p (.c (.sl _ _ n _))],some (.slice _)=>M.pure (.p (.c (.int .i64 (.c n))),[])
   | _,_=>M.fail
  | _=>M.fail
 | _=>M.fail
structure Fp where
 rs:List Nat
 ws:List Nat
 rb:List Nat
 wb:List Nat
def tmpsOf:List Operand->List Nat
 | []=>[]
 | .tmp t::l=>t::tmpsOf l
 | _::l=>tmpsOf l
def bO (s:List Sl) (t:Nat):Sl:=s.getD t ⟨[],.top⟩
def gI (s:List Sl) (A:Path):Operand->Option SV
 | .tmp t=>let x:=bO s t
  if (x.cond.all fun c=>A.contains c) then some x.v else none
 | .const v=>U4 v
 | .global _=>none
 | .func f=>some (.p (.c (.fn f [])))
def guardOf (ops:Array Oper) (s:List Sl) (o:Oper):Option (Path × Bool) :=
 match o.guard with
 | none=>some ([],true)
 | some (j,want)=>match (ops[j]?).bind (·.dst) with
  | none=>none
  | some d=>match bO s d with
   | ⟨c,.p (.c (.bool (.c z)))⟩=>if decide (z≠0)=want then some (c,true) else some ((.c z,want)::c,false)
   | ⟨c,.p (.c (.bool r))⟩=>some ((r,want)::c,true)
   | _=>none
def touched (o:Oper) (ev:Operand->Option SV):List Nat :=
 match o.op with
 | .load _ a|.store _ a _=>match ev a with
  | some v=>v.blocks
  | none=>[]
 | .call c=>(match rQ ev c.args.toList with
  | some xs=>SV.blocks.spsBlocks (xs.filterMap fun x=>match x with|.p y=>some y|_=>none)
  | none=>[])++(match c.callee with
  | .value f=>match ev f with
   | some v=>v.blocks
   | none=>[]
  | _=>[])
 | _=>[]
def dZ (bs:List Nat):List Bk->List Bk
 | []=>[]
 | x::l=>if bs.contains x.b then x::dZ bs l else dZ bs l
def EZ:Op->Option (Operand × Operand × Operand)
 | .pick c a b=>some (c,a,b)
 | _=>none
def vG (s:List Sl) (A:Path) (c a b:Operand):M SV :=
 M.bind (bF (gI s A c)) fun x=>match x with
 | .p (.c (.bool (.c z)))=>if z≠0 then bF (gI s ((.c z,true)::A) a) else bF (gI s ((.c z,false)::A) b)
 | .p (.c (.bool r))=>M.bind (bF (gI s ((r,true)::A) a)) fun y=>M.bind (bF (gI s ((r,false)::A) b)) fun z =>
  match y,z with
  | .p (.c (.bool y)),.p (.c (.bool z))=>M.bind (mkIte r y z) fun u=>M.pure (.p (.c (.bool u)))
  | .p (.c (.int k y)),.p (.c (.int j z))=>if k=j then M.bind (mkIte r y z) fun u=>M.pure (.p (.c (.int k u))) else M.fail
  | _,_=>M.fail
 | _=>M.fail
def JB:Op->Bool
 | .alloc _|.box ..|.store ..|.buildSlice ..=>true
 | _=>false
def setSlot (s:List Sl) (d:Option Nat) (x:Sl):List Sl :=
 match d with
 | some d=>s.set d x
 | none=>s
def zA (P:Program) (specs:List Spec) (rec:iG) (path:Path) (ops:Array Oper) (base:Nat) (i:Nat) (o:Oper) (s:St):M (St × Fp) :=
 M.bind (bF (guardOf ops s.slots o)) fun (A,live) =>
 let rs:=tmpsOf o.op.operands.toList++(match o.guard with
  | some (j,_)=>((ops[j]?).bind (·.dst)).toList
  | none=>[])
 let put (v:SV):List Sl:=setSlot s.slots o.dst ⟨A,v⟩
 let ws:=o.dst.toList
 if live then
  match EZ o.op with
  | some (c,a,b)=>M.bind (vG s.slots A c a b) fun v=>M.pure (⟨put v,s.mem,s.nb⟩,⟨rs,ws,[],[]⟩)
  | none =>
   if JB o.op && !A.isEmpty then M.fail else
   let ev:=gI s.slots A
   let tb:=touched o ev
   let sub:=dZ tb s.mem
   M.bind (zG P specs rec (path++A) o ev sub (base+i) (base+ops.size)) fun (v,m) =>
   if A.isEmpty then M.pure (⟨put v,mO s.mem m,s.nb⟩,⟨rs,ws,tb,m.map (·.b)⟩)
   else if m=sub∨m=[] then M.pure (⟨put v,s.mem,s.nb⟩,⟨rs,ws,tb,m.map (·.b)⟩) else M.fail
 else M.pure (⟨put .top,s.mem,s.nb⟩,⟨rs,ws,[],[]⟩)
def Af (P:Program) (specs:List Spec) (rec:iG) (path:Path) (ops:Array Oper) (base:Nat):Nat->List Oper->St->M (St × List Fp)
 | _,[],s=>M.pure (s,[])
 | i,o::l,s=>M.bind (zA P specs rec path ops base i o s) fun (s1,f)=>M.bind (Af P specs rec path ops base (i+1) l s1) fun (s2,fs)=>M.pure (s2,f::fs)
def meets (xs ys:List Nat):Bool:=xs.any fun x=>ys.contains x
def clash (a b:Fp):Bool:=meets a.ws b.rs || meets a.ws b.ws || meets a.rs b.ws || meets a.wb b.rb || meets a.wb b.wb || meets a.rb b.wb
def vH:List Oper->List Nat->List Nat
 | [],acc=>acc
 | o::l,acc=>vH l (acc++[o.after.toList.foldl (fun m e=>if Region.binds .any e then m ||| 2^e.on ||| acc.getD e.on 0 else m) 0])
def zt (an:List Nat) (fs:List Fp):Bool :=
 let l:=fs.zipIdx
 l.all fun (f,j)=>l.all fun (g,i)=>if i<j/\clash g f=true then (an.getD j 0).testBit i else true
def mF (ops:Array Oper):Bool :=
 ops.toList.zipIdx.all fun (o,i)=>o.after.toList.all fun e=>!Region.binds .any e || decide (e.on<i)
def nH (P:Program) (specs:List Spec) (rec:iG) (path:Path) (ops:Array Oper) (draw:Bool) (s:St):M St :=
 M.bind (Af P specs rec path ops s.nb 0 ops.toList s) fun (s',fs) =>
 let out:St:=⟨s'.slots,s'.mem,s.nb+ops.size⟩
 if draw then if mF ops&&zt (vH ops.toList []) fs then M.pure out else M.fail
 else M.pure out
structure Out where
 norm:Option (Rf × St)
 ret:Option (Rf × St)
 exits:List (Nat × Rf × St)
def andR:Rf->Rf->M Rf
 | .c z,b=>M.pure (if z≠0 then b else .c 0)
 | a,.c z=>M.pure (if z≠0 then a else .c 0)
 | a,b=>if a.eq b then M.pure a else mk (.ite a b (.c 0))
def orR:Rf->Rf->M Rf
 | .c z,b=>M.pure (if z≠0 then .c 1 else b)
 | a,.c z=>M.pure (if z≠0 then .c 1 else a)
 | a,b=>if a.eq b then M.pure a else ⟨fun s=>match yM s.nodes b with
  | some d=>if d.eq a then some (.c 1,s) else (mk (.ite a (.c 1) b)).run s
  | none=>match yM s.nodes a with
   | some d=>if d.eq b then some (.c 1,s) else (mk (.ite a (.c 1) b)).run s
   | none=>(mk (.ite a (.c 1) b)).run s,fun s x s' h=>by
  split at h
  . split at h
    . cases h;exact s.le_refl
    . exact M.ext _ _ _ _ h
  . split at h
    . split at h
      . cases h;exact s.le_refl
      . exact M.ext _ _ _ _ h
    . exact M.ext _ _ _ _ h⟩
def notR:Rf->M Rf:=fun a=>mkIte a (.c 0) (.c 1)
def qO:List Nat->List Nat->Bool
 | [],[]=>true
 | x::l,y::m=>Nat.beq x y&&qO l m
 | _,_=>false
def SC.eq:SC->SC->Bool
 | .top,.top=>true
 | .int k r,.int j q=>Rf.eq r q&&Nat.beq (kNo k) (kNo j)
 | .bool r,.bool q=>Rf.eq r q
 | .ptr b o,.ptr c p=>Nat.beq b c&&Nat.beq o p
 | .nil,.nil=>true
 | .sl b o l c,.sl b' o' l' c'=>Nat.beq b b'&&(Nat.beq o o'&&(Nat.beq l l'&&Nat.beq c c'))
 | .fn f cs,.fn g ds=>Nat.beq f g&&qO cs ds
 | _,_=>false
def yU:List SC->List SC->Bool
 | [],[]=>true
 | x::l,y::m=>SC.eq x y&&yU l m
 | _,_=>false
def SP.eq:SP->SP->Bool
 | .c x,.c y=>SC.eq x y
 | .agg x,.agg y=>yU x y
 | _,_=>false
def yV:List SP->List SP->Bool
 | [],[]=>true
 | x::l,y::m=>SP.eq x y&&yV l m
 | _,_=>false
def SV.eq:SV->SV->Bool
 | .top,.top=>true
 | .p x,.p y=>SP.eq x y
 | .tup x,.tup y=>yV x y
 | _,_=>false
def XT:Bool->Bool->Bool
 | true,true=>true
 | false,false=>true
 | _,_=>false
def rE:Path->Path->Bool
 | [],[]=>true
 | (x,a)::l,(y,b)::m=>Rf.eq x y&&(XT a b&&rE l m)
 | _,_=>false
def Sl.eq (x y:Sl):Bool:=SV.eq x.v y.v&&rE x.cond y.cond
theorem xC:∀ {a b:List Nat},qO a b=true->a=b
 | [],[],_=>rfl
 | [],_::_,h=>by simp [qO] at h
 | _::_,[],h=>by simp [qO] at h
 | x::l,y::m,h=>by
  simp only [qO,Bool.and_eq_true] at h;rw [Nat.eq_of_beq_eq_true h.1,xC h.2]
theorem SC.eq_eq {a b:SC} (h:a.eq b=true):a=b:=by
 cases a<;>cases b<;>simp only [SC.eq,Bool.and_eq_true,Bool.false_eq_true] at h
 . rfl
 . rw [Rf.eq_eq h.1,Ah h.2]
 . rw [Rf.eq_eq h]
 . rw [Nat.eq_of_beq_eq_true h.1,Nat.eq_of_beq_eq_true h.2]
 . rfl
 . rw [Nat.eq_of_beq_eq_true h.1,Nat.eq_of_beq_eq_true h.2.1,Nat.eq_of_beq_eq_true h.2.2.1,Nat.eq_of_beq_eq_true h.2.2.2]
 . rw [Nat.eq_of_beq_eq_true h.1,xC h.2]
theorem Cb:∀ {a b:List SC},yU a b=true->a=b
 | [],[],_=>rfl
 | [],_::_,h=>by simp [yU] at h
 | _::_,[],h=>by simp [yU] at h
 | x::l,y::m,h=>by
  simp only [yU,Bool.and_eq_true] at h;rw [SC.eq_eq h.1,Cb h.2]
theorem SP.eq_eq {a b:SP} (h:a.eq b=true):a=b:=by
 cases a<;>cases b<;>simp only [SP.eq,Bool.false_eq_true] at h
 . rw [SC.eq_eq h]
 . rw [Cb h]
theorem Di:∀ {a b:List SP},yV a b=true->a=b
 | [],[],_=>rfl
 | [],_::_,h=>by simp [yV] at h
 | _::_,[],h=>by simp [yV] at h
 | x::l,y::m,h=>by
  simp only [yV,Bool.and_eq_true] at h;rw [SP.eq_eq h.1,Di h.2]
theorem SV.eq_eq {a b:SV} (h:a.eq b=true):a=b:=by
 cases a<;>cases b<;>simp only [SV.eq,Bool.false_eq_true] at h
 . rfl
 . rw [SP.eq_eq h]
 . rw [Di h]
theorem yw:∀ {a b:Path},rE a b=true->a=b
 | [],[],_=>rfl
 | [],_::_,h=>by simp [rE] at h
 | _::_,[],h=>by simp [rE] at h
 | (x,a)::l,(y,b)::m,h=>by
  simp only [rE,Bool.and_eq_true] at h;have:a=b:=by cases a<;>cases b<;>first|rfl|simp [XT] at h
  rw [Rf.eq_eq h.1,this,yw h.2.2]
theorem Sl.eq_eq {a b:Sl} (h:a.eq b=true):a=b:=by
 cases a;cases b;simp only [Sl.eq,Bool.and_eq_true] at h;rw [SV.eq_eq h.1,yw h.2]
def Gj (q:Rf) (x y:SC):M SC :=
 if x.eq y then M.pure x else match x,y with
 | .int k a,.int j b=>if k=j then M.bind (mkIte q a b) fun r=>M.pure (.int k r) else M.pure .top
 | .bool a,.bool b=>M.bind (mkIte q a b) fun r=>M.pure (.bool r)
 | _,_=>M.pure .top
def zw (q:Rf):List SC->List SC->M (List SC)
 | x::xs,y::ys=>M.bind (Gj q x y) fun a=>M.bind (zw q xs ys) fun l=>M.pure (a::l)
 | _,_=>M.pure []
def GD (q:Rf) (x y:SP):M (Option SP) :=
 match x,y with
 | .c a,.c b=>M.bind (Gj q a b) fun r=>M.pure (some (.c r))
 | .agg xs,.agg ys=>if xs.length=ys.length then M.bind (zw q xs ys) fun l=>M.pure (some (.agg l)) else M.pure none
 | _,_=>M.pure none
def Ez (q:Rf):List SP->List SP->M (Option (List SP))
 | [],[]=>M.pure (some [])
 | x::xs,y::ys=>M.bind (GD q x y) fun a=>M.bind (Ez q xs ys) fun l=>match a,l with
  | some a,some l=>M.pure (some (a::l))
  | _,_=>M.pure none
 | _,_=>M.pure none
def NJ (q:Rf) (x y:SV):M SV :=
 if x.eq y then M.pure x else match x,y with
 | .p a,.p b=>M.bind (GD q a b) fun r=>match r with
  | some r=>M.pure (.p r)
  | none=>M.pure .top
 | .tup xs,.tup ys=>M.bind (Ez q xs ys) fun r=>match r with
  | some r=>M.pure (.tup r)
  | none=>M.pure .top
 | _,_=>M.pure .top
def NV (q:Rf) (x y:Sl):M Sl :=
 if x.eq y then M.pure x else match x,y with
 | ⟨[],a⟩,⟨[],b⟩=>M.bind (NJ q a b) fun r=>M.pure ⟨[],r⟩
 | _,_=>M.pure ⟨[],.top⟩
def EU (q:Rf):List Sl->List Sl->M (List Sl)
 | x::xs,y::ys=>M.bind (NV q x y) fun a=>M.bind (EU q xs ys) fun l=>M.pure (a::l)
 | _,_=>M.pure []
def Es (q:Rf):List Bk->List Bk->M (List Bk)
 | [],_=>M.pure []
 | x::xs,ys=>M.bind (Es q xs ys) fun l=>match aM x.b ys with
  | some y=>if x.t=y.t/\x.cs.length=y.cs.length then M.bind (zw q x.cs y.cs) fun cs=>M.pure (⟨x.b,x.t,cs⟩::l) else M.pure l
  | none=>M.pure l
def ow:List Bk->Bool
 | []=>true
 | x::l=>(aM x.b l).isNone&&ow l
def NR (q:Rf) (x y:St):M St :=
 if x.slots.length=y.slots.length/\ow x.mem=true then
 M.bind (EU q x.slots y.slots) fun sl=>M.bind (Es q x.mem y.mem) fun m=>M.pure ⟨sl,m,max x.nb y.nb⟩
 else M.fail
def xH:Option (Rf × St)->Option (Rf × St)->M (Option (Rf × St))
 | none,y=>M.pure y
 | x,none=>M.pure x
 | some (p,x),some (q,y)=>M.bind (orR p q) fun r=>M.bind (NR p x y) fun z=>M.pure (some (r,z))
def zR (c:Rf):Option (Rf × St)->M (Option (Rf × St))
 | none=>M.pure none
 | some (p,x)=>M.bind (andR c p) fun r=>match r with
  | .c z=>if z=0 then M.pure none else M.pure (some (r,x))
  | r=>M.pure (some (r,x))
def Fv (c:Rf):List (Nat × Rf × St)->M (List (Nat × Rf × St))
 | []=>M.pure []
 | (i,p,x)::l=>M.bind (andR c p) fun r=>M.bind (Fv c l) fun l=>match r with
  | .c z=>if z=0 then M.pure l else M.pure ((i,r,x)::l)
  | r=>M.pure ((i,r,x)::l)
def under (c:Rf) (o:Out):M Out:=M.bind (zR c o.norm) fun n=>M.bind (zR c o.ret) fun r=>M.bind (Fv c o.exits) fun x=>M.pure ⟨n,r,x⟩
def join (a b:Out):M Out:=M.bind (xH a.norm b.norm) fun n=>M.bind (xH a.ret b.ret) fun r=>M.pure ⟨n,r,a.exits++b.exits⟩
def pathOf (p:Path):Rf->Path
 | .c _=>p
 | r=>(r,true)::p
def H6 (path:Path) (a:Out) (k:Path->St->M Out):M Out :=
 match a.norm with
 | none=>M.pure a
 | some (p,s)=>M.bind (k (pathOf path p) s) fun b=>M.bind (under p b) fun b=>join ⟨none,a.ret,a.exits⟩ b
def vk (id:Nat):Option (Rf × St)->List (Nat × Rf × St)->M (Option (Rf × St) × List (Nat × Rf × St))
 | n,[]=>M.pure (n,[])
 | n,(i,p,s)::l=>if i=id then M.bind (xH n (some (p,s))) fun n=>vk id n l else M.bind (vk id n l) fun (n,l)=>M.pure (n,(i,p,s)::l)
def GJ (body:Path->St->M Out):Nat->Path->St->M Out
 | 0,_,_=>M.fail
 | n+1,path,s=>M.bind (body path s) fun a=>H6 path a (GJ body n)
def exec (P:Program) (specs:List Spec) (rec:iG) (rounds:Nat):Code->Path->St->M Out
 | .skip,_,s=>M.pure ⟨some (.c 1,s),none,[]⟩
 | .region _ ops draw,path,s=>M.bind (nH P specs rec path ops draw s) fun s=>M.pure ⟨some (.c 1,s),none,[]⟩
 | .seq a b,path,s=>M.bind (exec P specs rec rounds a path s) fun o=>H6 path o (exec P specs rec rounds b)
 | .cond c a b,path,s=>M.bind (bF (gI s.slots [] c)) fun v=>match v with
  | .p (.c (.bool (.c z)))=>if z≠0 then exec P specs rec rounds a path s else exec P specs rec rounds b path s
  | .p (.c (.bool r))=>M.bind (exec P specs rec rounds a ((r,true)::path) s) fun x=>M.bind (exec P specs rec rounds b ((r,false)::path) s) fun y =>
   M.bind (under r x) fun x=>M.bind (notR r) fun r'=>M.bind (under r' y) fun y=>join x y
  | _=>M.fail
 | .block id c,path,s=>M.bind (exec P specs rec rounds c path s) fun o=>M.bind (vk id o.norm o.exits) fun (n,l)=>M.pure ⟨n,o.ret,l⟩
 | .loop c,path,s=>GJ (exec P specs rec rounds c) rounds path s
 | .exit id,_,s=>M.pure ⟨none,none,[(id,.c 1,s)]⟩
 | .scope c,path,s=>exec P specs rec rounds c path s
 | .label _,_,s=>M.pure ⟨some (.c 1,s),none,[]⟩
 | .ret,_,s=>M.pure ⟨none,some (.c 1,s),[]⟩
 | _,_,_=>M.fail
def H5 (P:Program) (s:St):ResultVar->Option SP
 | .tmp t=>match gI s.slots [] (.tmp t) with
  | some (.p x)=>some x
  | _=>none
 | .cell a t=>match gI s.slots [] (.tmp a) with
  | some (.p (.c (.ptr b o)))=>qj P t b o s.mem
  | _=>none
def Az (P:Program) (s:St):List ResultVar->Option (List SP)
 | []=>some []
 | x::l=>match H5 P s x,Az P s l with
  | some y,some m=>some (y::m)
  | _,_=>none
def vR (P:Program) (specs:List Spec) (rec:iG) (rounds:Nat) (f:Nat) (args:List SV) (path:Path) (mem:List Bk) (nb:Nat):M (SV × List Bk) :=
 match P.funcs[f]? with
 | none=>M.fail
 | some fn=>match fn.body with
  | none=>M.fail
  | some c => if (fn.name == "runtime.NumGoroutine") = true then M.fail else
   M.bind (exec P specs rec rounds c path ⟨args.map (fun v=>⟨[],v⟩)++List.replicate (fn.ntmps-args.length) ⟨[],.tup []⟩,mem,nb⟩) fun o =>
   if o.exits.isEmpty then M.bind (xH o.ret o.norm) fun r=>match r with
    | none=>M.fail
    | some (_,s)=>M.bind (bF (Az P s fn.results.toList)) fun vs =>
     let m:=dZ (mem.map (·.b)) s.mem
     if below nb (SV.blocks.spsBlocks vs)&&(m.all fun k=>below nb (dA k.cs))&&decide (m.map (·.b)=mem.map (·.b)) then
      match vs with
      | [x]=>M.pure (.p x,m)
      | l=>M.pure (.tup l,m)
     else M.fail
   else M.fail
def GN (P:Program) (specs:List Spec) (rounds:Nat):Nat->iG
 | 0=>fun _ _ _ _ _=>M.fail
 | n+1=>vR P specs (GN P specs rounds n) rounds
def Nz:Nat->Sh->M (List SC)
 | _,[]=>M.pure []
 | i,k::h=>M.bind (mk (.arg i)) fun r=>M.bind (Nz (i+1) h) fun l=>M.pure ((match k with|some k=>SC.int k r|none=>SC.bool r)::l)
def Al:Nat->List (Bool × Sh)->M (List SV)
 | _,[]=>M.pure []
 | i,(g,h)::hs=>M.bind (Nz i h) fun cs=>M.bind (Al (i+h.length) hs) fun l =>
  if g then M.pure (SV.p (.agg cs)::l) else match cs with
   | [x]=>M.pure (SV.p (.c x)::l)
   | _=>M.fail
def whole (P:Program) (specs:List Spec) (rounds depth:Nat) (f:Nat) (sh:List (Bool × Sh)):Option (SV × Bd) :=
 match (M.bind (Al 0 sh) fun args=>GN P specs rounds depth f args [] [] 0).run ⟨[],[]⟩ with
 | some ((v,_),b)=>some (v,b)
 | none=>none
end Sx
namespace Sx
open Go
def gY (X:Cx) (v:Nat->Int):List Nd->Prop
 | []=>True
 | x::l=>v l.length=x.val X v/\gY X v l
def Good (X:Cx) (v:Nat->Int) (b:Bd):Prop:=gY X v b.nodes/\∀ c∈b.vcs,c.holds X v
theorem gY.drop {X:Cx} {v:Nat->Int}:∀ {l m:List Nd},gY X v (l++m)->gY X v m
 | [],_,h=>h
 | _::l,m,h=>gY.drop (l:=l) h.2
theorem Good.mono {X:Cx} {v:Nat->Int} {b b':Bd} (h:b.le b') (g:Good X v b'):Good X v b:=by
 obtain ⟨⟨l,hl⟩,⟨m,hm⟩⟩:=h;refine ⟨gY.drop (l:=l) (hl ▸ g.1),fun c hc=>g.2 c ?_⟩
 rw [hm];exact List.mem_append_right _ hc
def af {α:Type} (X:Cx) (v:Nat->Int) (m:M α) (R:α->Prop):Prop:=∀ b a b',m.run b=some (a,b')->Good X v b'->R a
section
variable {X:Cx} {v:Nat->Int} {α β:Type}
theorem fu (v:Nat->Int) (z:Int):(Rf.c z).val v=z:=rfl
theorem af.pure {a:α} {R:α->Prop} (h:R a):af X v (M.pure a) R:=fun b x b' hr _=>by
 cases hr;exact h
theorem af.fail {R:α->Prop}:af X v (M.fail:M α) R:=fun b x b' hr _=>by cases hr
theorem af.bind {m:M α} {f:α->M β} {R:α->Prop} {S:β->Prop} (h:af X v m R) (k:∀ a,R a->af X v (f a) S):af X v (M.bind m f) S:=fun b x b' hr g=>by
 simp only [M.bind] at hr;cases hm:m.run b with
 | none=>rw [hm] at hr;cases hr
 | some p =>
  obtain ⟨a,b1⟩:=p;rw [hm] at hr;have g1:Good X v b1:=Good.mono ((f a).ext _ _ _ hr) g;exact k a (h b a b1 hm g1) b1 x b' hr g
theorem af.imp {m:M α} {R S:α->Prop} (h:af X v m R) (k:∀ a,R a->S a):af X v m S:=fun b a b' hr g=>k a (h b a b' hr g)
theorem af.and {m:M α} {R S:α->Prop} (h:af X v m R) (k:af X v m S):af X v m (fun a=>R a/\S a):=fun b a b' hr g=>⟨h b a b' hr g,k b a b' hr g⟩
theorem af.opt {o:Option α}:af X v (bF o) (fun a=>o=some a):=by
 cases o with
 | none=>exact af.fail
 | some a=>exact af.pure rfl
theorem af.ite {c:Prop} [Decidable c] {m n:M α} {R:α->Prop} (h:c->af X v m R) (k:¬ c->af X v n R):af X v (if c then m else n) R:=by
 split
 . exact h ‹_›
 . exact k ‹_›
theorem BA {x:Nd}:∀ {l:List Nd} {i:Nat},AO x l=some i->gY X v l->v i=x.val X v
 | [],_,h,_=>by cases h
 | y::l,i,h,s=>by
  simp only [AO] at h;split at h
  . rename_i he
    cases h;rw [<-Nd.eq_eq he];exact s.1
  . exact BA h s.2
theorem oV:∀ {l:List Nd} {i:Nat} {x:Nd},IK l i=some x->gY X v l->v i=x.val X v
 | [],i,x,h,_=>by simp [IK] at h
 | y::l,i,x,h,s=>by
  simp only [IK,List.length_cons] at h;split at h
  . rename_i hb
    have hb':i<l.length+1:=by simp [Nat.blt] at hb;omega
    by_cases hi:i=l.length
    . subst hi;simp at h;subst h;exact s.1
    . have e:l.length+1-1-i=(l.length-1-i)+1:=by omega
      rw [e,List.getElem?_cons_succ] at h;refine oV (l:=l) ?_ s.2;unfold IK;rw [if_pos (by simp [Nat.blt];omega)];exact h
  . cases h
theorem af.mk (x:Nd):af X v (Sx.mk x) (fun r=>r.val v=x.val X v):=fun b a b' hr g=>by
 simp only [Sx.mk] at hr;split at hr
 . rename_i i hf
   cases hr;exact BA hf g.1
 . cases hr;exact g.1.1
theorem af.vc (p:Path) (k:Vk):af X v (Sx.vc p k) (fun _=>PT v p->k.holds X v):=fun b a b' hr g=>by
 simp only [Sx.vc] at hr;cases hr;exact g.2 ⟨p,k⟩ (List.mem_cons_self ..)
theorem Vx (b:Bool):b2i b=0∨b2i b=1:=by cases b<;>simp [b2i]
theorem Lm {op:BinOp} (h:dY op=true) (k:IntKind) (x y:Int):dK op k x y=0∨dK op k x y=1:=by
 cases op<;>simp [dY] at h<;>exact Vx _
theorem uh {l:List Nd} (s:gY X v l):∀ (n:Nat) (r:Rf),isB l n r=true->r.val v=0∨r.val v=1
 | n,.c z,h=>by
  have h':(ieq z 0 || ieq z 1)=true:=by cases n<;>exact h
  rcases Bool.or_eq_true _ _ ▸ h' with h|h
  . exact Or.inl (zu h)
  . exact Or.inr (zu h)
 | 0,.n i,h=>by simp [isB] at h
 | n+1,.n i,h=>by
  simp only [isB] at h;split at h
  . rename_i hn
    rw [show (Rf.n i).val v=_ from oV hn s]
    exact Lm h _ _ _
  . rename_i c a b hn
    simp only [Bool.and_eq_true] at h;rw [show (Rf.n i).val v=_ from oV hn s]
    simp only [Nd.val];split
    . exact uh s n a h.1
    . exact uh s n b h.2
  . cases h
theorem rH {l:List Nd} (s:gY X v l) {c d:Rf} (h:yM l c=some d):c.val v=if d.val v≠0 then 0 else 1:=by
 cases c with
 | c z=>simp [yM] at h
 | n i =>
  simp only [yM] at h;split at h
  . rename_i hn
    cases h;exact oV hn s
  . cases h
theorem af.mkBin (op:BinOp) (k:IntKind) (a b:Rf):af X v (Sx.mkBin op k a b) (fun r=>r.val v=dK op k (a.val v) (b.val v)):=by
 have hm:∀ a b,af X v (Sx.mk (.bin op k a b)) (fun r=>r.val v=dK op k (a.val v) (b.val v)):=fun a b=>af.mk _
 unfold Sx.mkBin;split
 . exact af.pure rfl
 . refine af.ite (fun he=>?_) (fun _=>hm _ _)
   have he:=Rf.eq_eq he;subst he;split<;>first|exact hm _ _|(refine af.pure ?_;simp [Rf.val,dK,b2i])
theorem af.mkWrap (k:IntKind) (a:Rf):af X v (Sx.mkWrap k a) (fun r=>r.val v=k.wrap (a.val v)):=by
 unfold Sx.mkWrap;split
 . exact af.pure rfl
 . exact af.mk _
theorem af.mkIte (c a b:Rf):af X v (Sx.mkIte c a b) (fun r=>r.val v=if c.val v≠0 then a.val v else b.val v):=by
 have hm:∀ c a b,af X v (Sx.mk (.ite c a b)) (fun r=>r.val v=if c.val v≠0 then a.val v else b.val v):=fun c a b=>af.mk _
 unfold Sx.mkIte;split
 . refine af.pure ?_;rw [apply_ite (Rf.val v)];rfl
 . refine af.ite (fun he=>?_) (fun _=>?_)
   . have he:=Rf.eq_eq he;subst he;refine af.pure ?_;split<;>rfl
   . split
     . intro s x s' hr g;simp only at hr;split at hr
       . rename_i hb
         cases hr;rcases uh g.1 _ _ hb with h|h<;>simp [h,fu]
       . exact hm _ _ _ _ _ _ hr g
     . intro s x s' hr g;simp only at hr;split at hr
       . rename_i d hn
         split at hr
         . rename_i hb
           cases hr;have h1:=rH g.1 hn;rcases uh g.1 _ _ hb with h|h<;>simp [h1,h,fu]
         . exact hm _ _ _ _ _ _ hr g
       . exact hm _ _ _ _ _ _ hr g
     . exact hm _ _ _
theorem af.mkMn (a b:Rf):af X v (Sx.mkMn a b) (fun r=>r.val v=if b.val v<a.val v then b.val v else a.val v):=by
 unfold Sx.mkMn;split
 . exact af.pure rfl
 . refine af.ite (fun he=>?_) (fun _=>af.mk _)
   have he:=Rf.eq_eq he;subst he;refine af.pure ?_;split<;>rfl
theorem af.mkMx (a b:Rf):af X v (Sx.mkMx a b) (fun r=>r.val v=if b.val v>a.val v then b.val v else a.val v):=by
 unfold Sx.mkMx;split
 . exact af.pure rfl
 . refine af.ite (fun he=>?_) (fun _=>af.mk _)
   have he:=Rf.eq_eq he;subst he;refine af.pure ?_;split<;>rfl
theorem af.vcNe0 (p:Path) (a:Rf):af X v (Sx.vcNe0 p a) (fun _=>PT v p->a.val v≠0):=by
 unfold Sx.vcNe0;split
 . refine af.ite (fun _=>af.fail) (fun h=>af.pure fun _=>h)
 . exact af.vc _ _
theorem af.vcGe0 (p:Path) (a:Rf):af X v (Sx.vcGe0 p a) (fun _=>PT v p->0<=a.val v):=by
 unfold Sx.vcGe0;split
 . refine af.ite (fun _=>af.fail) (fun h=>af.pure fun _=>by simp only [fu];omega)
 . exact af.vc _ _
theorem af.andR (a b:Rf):af X v (Sx.andR a b) (fun r=>r.val v≠0↔a.val v≠0/\b.val v≠0):=by
 unfold Sx.andR;split
 . refine af.pure ?_;simp only [fu];split<;>simp_all [fu]
 . refine af.pure ?_;simp only [fu];split<;>simp_all [fu]
 . refine af.ite (fun he=>?_) (fun _=>af.imp (af.mk _) fun r h=>?_)
   . rw [<-Rf.eq_eq he];exact af.pure (by simp)
   . rw [h];simp only [Nd.val,fu];split<;>simp_all
theorem af.orR (a b:Rf):af X v (Sx.orR a b) (fun r=>r.val v≠0↔a.val v≠0∨b.val v≠0):=by
 have hm:∀ a b:Rf,af X v (Sx.mk (.ite a (.c 1) b)) (fun r=>r.val v≠0↔a.val v≠0∨b.val v≠0):=fun a b=>af.imp (af.mk _) fun r h=>by
  rw [h];simp only [Nd.val,fu];split<;>simp_all
 unfold Sx.orR;split
 . refine af.pure ?_;simp only [fu];split<;>simp_all [fu]
 . refine af.pure ?_;simp only [fu];split<;>simp_all [fu]
 . refine af.ite (fun he=>?_) (fun _=>?_)
   . rw [<-Rf.eq_eq he];exact af.pure (by simp)
   . intro s x s' hr g;simp only at hr;split at hr
     . rename_i d hn
       split at hr
       . rename_i he
         cases hr;have h1:=rH g.1 hn;rw [Rf.eq_eq he] at h1;rw [h1];simp only [fu];split<;>simp_all
       . exact hm _ _ _ _ _ hr g
     . split at hr
       . rename_i d hn
         split at hr
         . rename_i he
           cases hr;have h1:=rH g.1 hn;rw [Rf.eq_eq he] at h1;rw [h1];simp only [fu];split<;>simp_all
         . exact hm _ _ _ _ _ hr g
       . exact hm _ _ _ _ _ hr g
theorem af.notR (a:Rf):af X v (Sx.notR a) (fun r=>r.val v≠0↔a.val v=0) :=
 af.imp (af.mkIte _ _ _) fun r h=>by rw [h];simp only [fu];split<;>simp_all
end
end Sx
namespace Sx
open Go Go.RowKit
inductive bJ {α β:Type} (R:α->β->Prop):List α->List β->Prop where
 | nil:bJ R [] []
 | cons {x:α} {y:β} {l:List α} {m:List β}:R x y->bJ R l m->bJ R (x::l) (y::m)
namespace bJ
variable {α β:Type} {R S:α->β->Prop}
theorem length {l:List α} {m:List β} (h:bJ R l m):l.length=m.length:=by
 induction h with
 | nil=>rfl
 | cons _ _ ih=>simp [ih]
theorem imp {l:List α} {m:List β} (h:bJ R l m) (k:∀ x y,x∈l->R x y->S x y):bJ S l m:=by
 induction h with
 | nil=>exact .nil
 | cons h1 _ ih=>exact .cons (k _ _ (List.mem_cons_self ..) h1) (ih fun x y hx=>k x y (List.mem_cons_of_mem _ hx))
theorem append {l l':List α} {m m':List β} (h:bJ R l m) (h':bJ R l' m'):bJ R (l++l') (m++m'):=by
 induction h with
 | nil=>exact h'
 | cons h1 _ ih=>exact .cons h1 ih
theorem take {l:List α} {m:List β} (h:bJ R l m):∀ n,bJ R (l.take n) (m.take n):=by
 induction h with
 | nil=>intro n;simp;exact .nil
 | cons h1 _ ih=>intro n;cases n with
  | zero=>exact .nil
  | succ n=>exact .cons h1 (ih n)
theorem drop {l:List α} {m:List β} (h:bJ R l m):∀ n,bJ R (l.drop n) (m.drop n):=by
 induction h with
 | nil=>intro n;simp;exact .nil
 | cons h1 h2 ih=>intro n;cases n with
  | zero=>exact .cons h1 h2
  | succ n=>exact ih n
theorem get {l:List α} {m:List β} (h:bJ R l m):∀ {i:Nat} {x:α},l[i]? = some x->∃ y,m[i]? = some y/\R x y:=by
 induction h with
 | nil=>intro i x h;simp at h
 | cons h1 _ ih=>intro i x h;cases i with
  | zero=>simp at h;subst h;exact ⟨_,rfl,h1⟩
  | succ i=>simp at h;simpa using ih h
end bJ
def aO (v:Nat->Int) (ρ:Nat->Option Nat):SC->Value->Prop
 | .top,x=>x.oneCell'=true
 | .int k r,x=>x=.int k (r.val v)
 | .bool r,x=>x=.bool (decide (r.val v≠0))
 | .ptr b o,x=>∃ n,ρ b=some n/\x=.pointer (some ⟨n,o,none⟩)
 | .nil,x=>x=.pointer none
 | .sl b o l c,x=>∃ n,ρ b=some n/\x=.slice (some ⟨n,o,none⟩) l c
 | .fn f caps,x=>∃ ns:List Nat,bJ (fun b n=>ρ b=some n) caps ns/\x=.func (.func f) #[] (ns.map fun n=>Value.pointer (some ⟨n,0,none⟩)).toArray
def bC (v:Nat->Int) (ρ:Nat->Option Nat):SP->Value->Prop
 | .c x,y=>aO v ρ x y
 | .agg xs,y=>∃ ys:List Value,y=.agg ⟨ys⟩/\bJ (aO v ρ) xs ys
def aR (v:Nat->Int) (ρ:Nat->Option Nat):SV->Value->Prop
 | .top,_=>True
 | .p x,y=>bC v ρ x y
 | .tup xs,y=>∃ ys:List Value,y=.tuple ⟨ys⟩/\bJ (bC v ρ) xs ys
theorem aO.one {v:Nat->Int} {ρ:Nat->Option Nat} {x:SC} {y:Value} (h:aO v ρ x y):y.oneCell'=true:=by
 cases x<;>simp only [aO] at h
 . exact h
 . subst h;rfl
 . subst h;rfl
 . obtain ⟨n,_,rfl⟩:=h;rfl
 . subst h;rfl
 . obtain ⟨n,_,rfl⟩:=h;rfl
 . obtain ⟨n,_,rfl⟩:=h;rfl
theorem zD {y:Value} (h:y.oneCell'=true):y.cells=#[y]:=by cases y<;>first|rfl|cases h
theorem bC.cells {v:Nat->Int} {ρ:Nat->Option Nat} {x:SP} {y:Value} (h:bC v ρ x y):bJ (aO v ρ) x.cells y.cells.toList:=by
 cases x with
 | c x=>rw [zD (aO.one h)];exact .cons h .nil
 | agg xs=>obtain ⟨ys,rfl,h⟩:=h;exact h
theorem aO.mono {v:Nat->Int} {ρ ρ':Nat->Option Nat} {x:SC} (hm:∀ b∈x.blocks,∀ n,ρ b=some n->ρ' b=some n) {y:Value} (h:aO v ρ x y):aO v ρ' x y:=by
 cases x<;>simp only [aO] at h ⊢<;>try exact h
 . obtain ⟨n,h1,h2⟩:=h;exact ⟨n,hm _ (by simp [SC.blocks]) _ h1,h2⟩
 . obtain ⟨n,h1,h2⟩:=h;exact ⟨n,hm _ (by simp [SC.blocks]) _ h1,h2⟩
 . obtain ⟨n,h1,h2⟩:=h;exact ⟨n,h1.imp fun x y hx hxy=>hm x (by simpa [SC.blocks] using hx) y hxy,h2⟩
theorem kK {x:SC} {b:Nat}:∀ {l:List SC},x∈l->b∈x.blocks->b∈dA l
 | y::l,hx,hb=>by
  rcases List.mem_cons.1 hx with rfl|hx
  . exact List.mem_append_left _ hb
  . exact List.mem_append_right _ (kK hx hb)
theorem oZ {v:Nat->Int} {ρ ρ':Nat->Option Nat} {l:List SC} {m:List Value} (hm:∀ b∈dA l,∀ n,ρ b=some n->ρ' b=some n) (h:bJ (aO v ρ) l m):bJ (aO v ρ') l m :=
 h.imp fun x y hx hxy=>aO.mono (fun b hb=>hm b (kK hx hb)) hxy
theorem bC.mono {v:Nat->Int} {ρ ρ':Nat->Option Nat} {x:SP} (hm:∀ b∈dA x.cells,∀ n,ρ b=some n->ρ' b=some n) {y:Value} (h:bC v ρ x y):bC v ρ' x y:=by
 cases x with
 | c x=>exact aO.mono (fun b hb=>hm b (by simpa [SP.cells,dA] using hb)) h
 | agg xs=>obtain ⟨ys,h1,h2⟩:=h;exact ⟨ys,h1,oZ hm h2⟩
theorem ni {x:SP} {b:Nat}:∀ {l:List SP},x∈l->b∈dA x.cells->b∈SV.blocks.spsBlocks l
 | y::l,hx,hb=>by
  rcases List.mem_cons.1 hx with rfl|hx
  . exact List.mem_append_left _ hb
  . exact List.mem_append_right _ (ni hx hb)
theorem Cw {v:Nat->Int} {ρ ρ':Nat->Option Nat} {l:List SP} {m:List Value} (hm:∀ b∈SV.blocks.spsBlocks l,∀ n,ρ b=some n->ρ' b=some n) (h:bJ (bC v ρ) l m):bJ (bC v ρ') l m :=
 h.imp fun x y hx hxy=>bC.mono (fun b hb=>hm b (ni hx hb)) hxy
theorem aR.mono {v:Nat->Int} {ρ ρ':Nat->Option Nat} {x:SV} (hm:∀ b∈x.blocks,∀ n,ρ b=some n->ρ' b=some n) {y:Value} (h:aR v ρ x y):aR v ρ' x y:=by
 cases x with
 | top=>trivial
 | p x=>exact bC.mono hm h
 | tup xs=>obtain ⟨ys,h1,h2⟩:=h;exact ⟨ys,h1,Cw hm h2⟩
structure Grow (F:Nat->Prop) (w w':World):Prop where
 os:w'.os=w.os
 tape:w'.tape=w.tape
 output:w'.output=w.output
 size:w.heap.size<=w'.heap.size
 block:∀ n,n<w.heap.size->¬ F n->w'.heap[n]? = w.heap[n]?
theorem Grow.refl (F:Nat->Prop) (w:World):Grow F w w:=⟨rfl,rfl,rfl,Nat.le_refl _,fun _ _ _=>rfl⟩
theorem Grow.trans {F F':Nat->Prop} {a b c:World} (h:Grow F a b) (k:Grow F' b c) (hF:∀ n,F' n->F n∨a.heap.size<=n):Grow F a c :=
 ⟨k.os.trans h.os,k.tape.trans h.tape,k.output.trans h.output,Nat.le_trans h.size k.size,fun n hn hf=>by
  rw [k.block n (Nat.lt_of_lt_of_le hn h.size) (fun hf'=>by
   rcases hF n hf' with h1|h1
   . exact hf h1
   . omega)]
  exact h.block n hn hf⟩
theorem Grow.drew {F:Nat->Prop} {a b:World} (h:Grow F a b):Grow F a { b with drawn:=b.drawn+1 }:=⟨h.os,h.tape,h.output,h.size,h.block⟩
theorem Grow.below {w w':World} (h:Grow (fun _=>False) w w'):Below w.heap.size w w':=⟨h.os,h.tape,h.output,h.size,fun n hn=>h.block n hn (fun h=>h)⟩
theorem Grow.of_below {F:Nat->Prop} {w w':World} (h:Below w.heap.size w w'):Grow F w w':=⟨h.os,h.tape,h.output,h.size,fun n hn _=>h.block n hn⟩
structure Inv (ρ:Nat->Option Nat) (w:World):Prop where
 inj:∀ b b' n,ρ b=some n->ρ b'=some n->b=b'
 lt:∀ b n,ρ b=some n->n<w.heap.size
theorem Inv.grow {ρ:Nat->Option Nat} {w w':World} (h:Inv ρ w) (g:w.heap.size<=w'.heap.size):Inv ρ w':=⟨h.inj,fun b n hb=>Nat.lt_of_lt_of_le (h.lt b n hb) g⟩
def gy (v:Nat->Int) (ρ:Nat->Option Nat) (A:Nat->Prop) (w:World) (k:Bk):Prop :=
 ∃ (n:Nat) (ys:List Value),ρ k.b=some n/\A n/\w.heap[n]? = some (.cells ⟨ys⟩ k.t (0,0))/\bJ (aO v ρ) k.cs ys
def fV (v:Nat->Int) (ρ:Nat->Option Nat) (A:Nat->Prop) (w:World) (m:List Bk):Prop:=∀ b k,aM b m=some k->gy v ρ A w k
theorem dI {b:Nat} {k:Bk}:∀ {m:List Bk},aM b m=some k->k.b=b
 | [],h=>by cases h
 | x::l,h=>by
  simp only [aM] at h;split at h
  . cases h;assumption
  . exact dI h
theorem uE (x:Bk) (b:Nat):∀ (m:List Bk),aM b (uD x m)=if x.b=b then some x else aM b m
 | []=>by simp only [uD,aM]
 | y::l=>by
  simp only [uD];split
  . rename_i h
    simp only [aM]
    by_cases hb:x.b=b
    . rw [if_pos hb,if_pos hb]
    . rw [if_neg hb,if_neg hb,if_neg (by rw [h];exact hb)]
  . rename_i h
    simp only [aM]
    by_cases hy:y.b=b
    . rw [if_pos hy,if_pos hy,if_neg (by rw [<-hy];exact fun e=>h e.symm)]
    . rw [if_neg hy,if_neg hy];exact uE x b l
theorem lC (b:Nat) (m:List Bk):∀ (l:List Bk),aM b (mO m l)=match aM b l with|some k=>some k|none=>aM b m
 | []=>rfl
 | x::l=>by
  simp only [mO,uE,aM];split
  . rfl
  . exact lC b m l
theorem rW {b:Nat}:∀ {l:List Bk},b ∉ l.map (·.b)->aM b l=none
 | [],_=>rfl
 | x::l,h=>by
  simp only [List.map_cons,List.mem_cons,not_or] at h;simp only [aM];rw [if_neg (fun e=>h.1 e.symm)]
  exact rW h.2
theorem cO {b:Nat} {bs:List Nat} {k:Bk}:∀ {m:List Bk},aM b (dZ bs m)=some k->aM b m=some k/\b∈bs
 | [],h=>by cases h
 | x::l,h=>by
  simp only [dZ] at h;split at h
  . rename_i hc
    simp only [aM] at h ⊢
    split at h
    . rename_i he
      cases h;exact ⟨by rw [if_pos he],by rw [<-he];simpa using hc⟩
    . rename_i he
      obtain ⟨h1,h2⟩:=cO h;exact ⟨by rw [if_neg he];exact h1,h2⟩
  . rename_i hc
    obtain ⟨h1,h2⟩:=cO h;refine ⟨?_,h2⟩;simp only [aM];rw [if_neg]
    . exact h1
    . intro e;apply hc;rw [e];simpa using h2
theorem jY {b:Nat} {k:Bk}:∀ {m:List Bk},aM b m=some k->k∈m
 | x::l,h=>by
  simp only [aM] at h;split at h
  . cases h;exact List.mem_cons_self ..
  . exact List.mem_cons_of_mem _ (jY h)
theorem bH {x:Bk}:∀ {m:List Bk},x∈m->∃ k,aM x.b m=some k
 | y::l,h=>by
  simp only [aM]
  by_cases hb:y.b=x.b
  . exact ⟨y,by rw [if_pos hb]⟩
  . rw [if_neg hb];rcases List.mem_cons.1 h with rfl|h
    . exact absurd rfl hb
    . exact bH h
section
variable {P:Program}
theorem kE {t:TypeId} {g:Bool} (h:iF P t=some g) (w:World):(isAgg t).run P w=.ok g w:=by
 unfold iF at h;unfold isAgg;cases hd:P.underlying t with
 | none=>rw [hd] at h;cases h
 | some d =>
  rw [hd] at h;rw [Sem.run_bind,run_underlying hd,Result.andThen_ok];cases d<;>simp only [Option.some.injEq] at h<;>subst h<;>rfl
theorem fC {t:TypeId} {i:TypeInfo} (h:P.info? t=some i) (w:World):(typeInfo t).run P w=.ok i w:=by
 unfold typeInfo;simp [h]
theorem eZ {t:TypeId} {n:Nat} (h:fZ P t=some n) (w:World):(Go.sizeOf t).run P w=.ok n w:=by
 unfold fZ at h;cases hi:P.info? t with
 | none=>rw [hi] at h;cases h
 | some i =>
  rw [hi] at h;unfold Go.sizeOf;rw [Sem.run_bind,fC hi,Result.andThen_ok];cases h;rfl
theorem Hu {w:World} {n:Nat} {ys:List Value} {t:TypeId} {fz:Nat × Nat} (h:w.heap[n]? = some (.cells ⟨ys⟩ t fz)) (i:Nat):w.cell? ⟨n,i,none⟩=ys[i]?:=by
 simp [World.cell?,h]
theorem vX (n o i:Nat):Addr.add ⟨n,o,none⟩ i=⟨n,o+i,none⟩:=by
 unfold Addr.add
 by_cases h:i=0
 . subst h;rfl
 . rw [if_neg h]
theorem rY {w:World} {n:Nat} {ys:List Value} {t:TypeId} {fz:Nat × Nat} (h:w.heap[n]? = some (.cells ⟨ys⟩ t fz)) {i:Nat} {y:Value} (hy:ys[i]? = some y):(load ⟨n,i,none⟩).run P w=.ok y w:=by
 have:=Hu h i;rw [hy] at this;simp [load,Sem.run,this]
theorem run_loadCells {w:World} {n:Nat} {ys:List Value} {t:TypeId} {fz:Nat × Nat} (h:w.heap[n]? = some (.cells ⟨ys⟩ t fz)) (o:Nat):∀ (c i:Nat) (acc:Array Value),o+i+c<=ys.length ->
 (loadCellsFrom ⟨n,o,none⟩ i c acc).run P w=.ok (acc++((ys.drop (o+i)).take c).toArray) w
 | 0,i,acc,_=>by simp [loadCellsFrom]
 | c+1,i,acc,hl=>by
  have hlt:o+i<ys.length:=by omega
  have hy:ys[o+i]? = some ys[o+i]:=List.getElem?_eq_getElem hlt;simp only [loadCellsFrom,Sem.run_bind,vX];rw [rY h hy,Result.andThen_ok,run_loadCells h o c (i+1) _ (by omega)]
  congr 1
  rw [List.drop_eq_getElem_cons hlt,List.take_succ_cons,show o+(i+1)=o+i+1 by omega]
  simp
theorem oD {v:Nat->Int} {ρ:Nat->Option Nat} {w:World} {n:Nat} {ys:List Value} {u:TypeId} {fz:Nat × Nat} (h:w.heap[n]? = some (.cells ⟨ys⟩ u fz)) {cs:List SC} (ha:bJ (aO v ρ) cs ys)
 {t:TypeId} {o:Nat} {x:SP} (hx:partT P t cs o=some x):∃ y,(loadVar t ⟨n,o,none⟩).run P w=.ok y w/\bC v ρ x y:=by
 unfold partT at hx;unfold loadVar;cases hg:iF P t with
 | none=>rw [hg] at hx;cases hx
 | some g =>
  rw [hg] at hx;rw [Sem.run_bind,kE hg,Result.andThen_ok];cases g with
  | true =>
   simp only at hx;cases hs:fZ P t with
   | none=>rw [hs] at hx;cases hx
   | some c =>
    rw [hs] at hx;simp only at hx;split at hx
    . rename_i hle
      cases hx;refine ⟨.agg ⟨(ys.drop o).take c⟩,?_,_,rfl,(ha.drop o).take c⟩;simp only [if_true,Sem.run_bind,eZ hs,Result.andThen_ok];have:=run_loadCells (P:=P) h o c 0 #[] (by rw [<-ha.length];omega)
      simp only [loadCells];rw [this];simp
    . cases hx
  | false =>
   simp only at hx;cases hc:cs[o]? with
   | none=>rw [hc] at hx;cases hx
   | some s =>
    rw [hc] at hx;cases hx;obtain ⟨y,h1,h2⟩:=ha.get hc;exact ⟨y,by simpa using rY h h1,h2⟩
theorem yL {v:Nat->Int} {ρ:Nat->Option Nat} {w:World} {ys:List Value} {cs:List SC} (ha:bJ (aO v ρ) cs ys)
 {t:TypeId} {o:Nat} {x:SP} (hx:partT P t cs o=some x):∃ y,(part t ⟨ys⟩ o).run P w=.ok y w/\bC v ρ x y:=by
 unfold partT at hx;unfold part;cases hg:iF P t with
 | none=>rw [hg] at hx;cases hx
 | some g =>
  rw [hg] at hx;rw [Sem.run_bind,kE hg,Result.andThen_ok];cases g with
  | true =>
   simp only at hx;cases hs:fZ P t with
   | none=>rw [hs] at hx;cases hx
   | some c =>
    rw [hs] at hx;simp only at hx;split at hx
    . rename_i hle
      cases hx;refine ⟨.agg ⟨(ys.drop o).take c⟩,?_,_,rfl,(ha.drop o).take c⟩;simp only [if_true,Sem.run_bind,eZ hs,Result.andThen_ok,Sem.run_pure]
      congr 1
      simp [List.take_drop]
    . cases hx
  | false =>
   simp only at hx;cases hc:cs[o]? with
   | none=>rw [hc] at hx;cases hx
   | some s =>
    rw [hc] at hx;cases hx;obtain ⟨y,h1,h2⟩:=ha.get hc;exact ⟨y,by simp [h1],h2⟩
def kJ (ys:List Value) (o:Nat) (zs:List Value):List Value:=ys.take o++zs++ys.drop (o+zs.length)
theorem bJ.over {R:SC->Value->Prop} {cs xs:List SC} {ys zs:List Value} (h:bJ R cs ys) (k:bJ R xs zs) (o:Nat):bJ R (Sx.over cs o xs) (kJ ys o zs):=by
 unfold Sx.over kJ;rw [k.length];exact ((h.take o).append k).append (h.drop _)
theorem setCell_at {w:World} {n:Nat} {ys:List Value} {t:TypeId} {fz:Nat × Nat} (h:w.heap[n]? = some (.cells ⟨ys⟩ t fz)) (i:Nat) (y:Value):(w.setCell ⟨n,i,none⟩ y).heap[n]? = some (.cells ⟨ys.set i y⟩ t fz):=by
 simp [World.setCell,Array.getElem?_modify,h]
theorem vC (ys:List Value) (o:Nat) (z:Value) (zs:List Value) (h:o<ys.length):kJ (ys.set o z) (o+1) zs=kJ ys o (z::zs):=by
 have h1:(ys.set o z).take (o+1)=ys.take o++[z]:=by
  rw [List.take_set,List.set_eq_take_append_cons_drop,if_pos (by simp;omega)]
  rw [List.take_take,Nat.min_eq_left (by omega),List.drop_eq_nil_of_le (by simp;omega)]
 have h2:(ys.set o z).drop (o+1+zs.length)=ys.drop (o+(z::zs).length):=by
  rw [List.drop_set_of_lt (by omega)]
  congr 1
  simp;omega
 unfold kJ;rw [h1,h2];simp
theorem lQ (n:Nat) (t:TypeId) (o:Nat):∀ (zs:List Value) (w:World) (ys:List Value) (i:Nat),w.heap[n]? = some (.cells ⟨ys⟩ t (0,0))->(∀ z∈zs,z.oneCell'=true)->o+i+zs.length<=ys.length ->
 ∃ w',(storeCells ⟨n,o,none⟩ zs i).run P w=.ok () w'/\w'.heap[n]? = some (.cells ⟨kJ ys (o+i) zs⟩ t (0,0))/\Grow (fun k=>k=n) w w'/\w'.heap.size=w.heap.size
 | [],w,ys,i,h,_,_=>⟨w,rfl,by simpa [kJ] using h,Grow.refl _ _,rfl⟩
 | z::zs,w,ys,i,h,ho,hl=>by
  have hl':o+i+(zs.length+1)<=ys.length:=hl;have hlt:o+i<ys.length:=by omega
  have hc:=Hu h (o+i);rw [List.getElem?_eq_getElem hlt] at hc;have hfz:w.frozen? ⟨n,o+i,none⟩=false:=by simp [World.frozen?,h]
  have hset:=setCell_at h (o+i) z;have hg:Grow (fun k=>k=n) w (w.setCell ⟨n,o+i,none⟩ z):=⟨rfl,rfl,rfl,by simp [World.setCell],fun k _ hk=>by
   simp only [World.setCell,Array.getElem?_modify];rw [if_neg (fun e=>hk e.symm)]⟩
  have hsz:(w.setCell ⟨n,o+i,none⟩ z).heap.size=w.heap.size:=by simp [World.setCell]
  obtain ⟨w',h1,h2,h3,h4⟩:=lQ n t o zs _ _ (i+1) hset (fun z hz=>ho z (List.mem_cons_of_mem _ hz)) (by simp;omega)
  refine ⟨w',?_,?_,hg.trans h3 (fun n' h'=>Or.inl h'),by rw [h4,hsz]⟩
  . simp only [storeCells,Sem.run_bind,vX];have:(store ⟨n,o+i,none⟩ z).run P w=.ok () (w.setCell ⟨n,o+i,none⟩ z):=by
     have hz:=ho z (List.mem_cons_self ..);unfold store;cases z<;>first|(simp [Sem.run,hc,hfz];done)|cases hz
    rw [this,Result.andThen_ok];exact h1
  . rw [h2,show o+(i+1)=o+i+1 by omega,vC _ _ _ _ hlt]
theorem wZ {w:World} {n:Nat} {ys:List Value} {u:TypeId} (h:w.heap[n]? = some (.cells ⟨ys⟩ u (0,0))) {t:TypeId} {o:Nat} {y:Value} {c:Nat} (hs:fZ P t=some c) (hc:y.cells.size=c) (ho:∀ z∈y.cells.toList,z.oneCell'=true) (hl:o+c<=ys.length) :
 ∃ w',(storeVar t ⟨n,o,none⟩ y).run P w=.ok () w'/\w'.heap[n]? = some (.cells ⟨kJ ys o y.cells.toList⟩ u (0,0))/\Grow (fun k=>k=n) w w'/\w'.heap.size=w.heap.size:=by
 obtain ⟨w',h1,h2,h3,h4⟩:=lQ (P:=P) n u o y.cells.toList w ys 0 h ho (by simp [hc];omega)
 refine ⟨w',?_,by simpa using h2,h3,h4⟩
 unfold storeVar;simp only [Sem.run_bind,eZ hs,Result.andThen_ok,hc,ne_eq,not_true_eq_false,if_false]
 simpa using h1
end
end Sx
namespace Sx
open Go Go.RowKit
def Does (P:Program) (o:Oper) (a:Act) (w:World) (R:Value->World->Prop):Prop :=
 ∀ (K:Act->World->Prop) (Q:Exit->Act->World->Prop),(∀ x w',R x w'->K (a.put o.dst x) w')->o.wp P a w K Q
section
variable {P:Program} {o:Oper} {a:Act} {w w':World} {R:Value->World->Prop}
theorem Does.value {x:Value} (h:(execOp a.eval o).run P w=.ok (.value x) w') (hr:R x w'):Does P o a w R:=fun K Q k=>by
 unfold Oper.wp;rw [h];exact k _ _ hr
theorem Does.skip (h:(execOp a.eval o).run P w=.ok .skip w') (hr:R undef w'):Does P o a w R:=fun K Q k=>by
 unfold Oper.wp;rw [h];exact k _ _ hr
theorem Does.call {f:Nat} {args:Array Value} (h:(execOp a.eval o).run P w=.ok (.enter f args) w) (hc:Calls P f args w fun e w'=>∃ x,e=.returned x/\R x w'):Does P o a w R:=fun K Q k=>by
 unfold Oper.wp;rw [h];exact Calls.mono hc fun e w' ⟨x,he,hr⟩=>by subst he;exact k _ _ hr
theorem Does.imp {S:Value->World->Prop} (h:Does P o a w R) (k:∀ x w',R x w'->S x w'):Does P o a w S:=fun K Q kk=>h K Q fun x w' hr=>kk x w' (k x w' hr)
end
structure Res (v:Nat->Int) (ρ ρ':Nat->Option Nat) (nm:Nat) (mem m:List Bk) (w w':World) (sv:SV) (x:Value):Prop where
 ext:∀ b n,ρ b=some n->ρ' b=some n
 only:∀ b,b≠nm->ρ' b=ρ b
 inv:Inv ρ' w'
 val:aR v ρ' sv x
 names:∀ k∈m,k.b=nm∨∃ k',aM k.b mem=some k'
 mem:fV v ρ' (fun n=>(∃ b k,aM b mem=some k/\ρ b=some n)∨w.heap.size<=n) w' m
 grow:Grow (fun n=>∃ b k,aM b m=some k/\ρ b=some n) w w'
theorem Res.same {v:Nat->Int} {ρ:Nat->Option Nat} {nm:Nat} {mem:List Bk} {w:World} {sv:SV} {x:Value} (hi:Inv ρ w) (hv:aR v ρ sv x):Res v ρ ρ nm mem [] w w sv x :=
 ⟨fun _ _ h=>h,fun _ _=>rfl,hi,hv,fun k h=>(by cases h),(fun b k h=>by cases h),Grow.refl _ _⟩
def OpR (P:Program) (v:Nat->Int) (o:Oper) (path:Path) (ev:Operand->Option SV) (mem:List Bk) (nm nb:Nat) (r:SV × List Bk):Prop :=
 PT v path->∀ (ρ:Nat->Option Nat) (a:Act) (w:World),(∀ x∈o.op.operands.toList,∀ sv,ev x=some sv->aR v ρ sv (a.eval x))->Inv ρ w->ρ nm=none->nm<nb->(∀ b,nb<=b->ρ b=none)->fV v ρ (fun _=>True) w mem ->
  Does P o a w (fun x w'=>∃ ρ',Res v ρ ρ' nm mem r.2 w w' r.1 x)
theorem OpR.pure {P:Program} {v:Nat->Int} {o:Oper} {path:Path} {ev:Operand->Option SV} {mem:List Bk} {nm nb:Nat} {sv:SV}
 (h:PT v path->∀ (ρ:Nat->Option Nat) (a:Act) (w:World),(∀ x∈o.op.operands.toList,∀ sv,ev x=some sv->aR v ρ sv (a.eval x))->fV v ρ (fun _=>True) w mem->∃ x,(execOp a.eval o).run P w=.ok (.value x) w/\aR v ρ sv x):OpR P v o path ev mem nm nb (sv,[]) :=
 fun hp ρ a w hev hi _ _ _ hm=>by
  obtain ⟨x,h1,h2⟩:=h hp ρ a w hev hm;exact Does.value h1 ⟨ρ,Res.same hi h2⟩
theorem CX {v:Nat->Int} {ρ:Nat->Option Nat} {x:Value} {y:SC} (h:El x=some y):aO v ρ y x:=by
 cases x<;>simp only [El] at h<;>try cases h
 . rename_i b
   cases b<;>rfl
 . rfl
 . rename_i p
   cases p<;>simp only [El] at h<;>cases h
   rfl
theorem qG {v:Nat->Int} {ρ:Nat->Option Nat}:∀ {l:List Value} {m:List SC},yI l=some m->bJ (aO v ρ) m l
 | [],m,h=>by cases h;exact .nil
 | x::l,m,h=>by
  simp only [yI] at h;split at h
  . rename_i y l' h1 h2
    cases h;exact .cons (CX h1) (qG h2)
  . cases h
theorem LH {v:Nat->Int} {ρ:Nat->Option Nat} {x:Value} {y:SV} (h:U4 x=some y):aR v ρ y x:=by
 have one:∀ x:Value,(El x).map (fun y=>SV.p (.c y))=some y->aR v ρ y x:=fun x h=>by
  cases hs:El x with
  | none=>rw [hs] at h;cases h
  | some z=>rw [hs] at h;cases h;exact CX (v:=v) (ρ:=ρ) hs
 cases x<;>simp only [U4] at h<;>first|exact one _ h|skip
 rename_i cs
 cases hs:yI cs.toList with
 | none=>rw [hs] at h;cases h
 | some l=>rw [hs] at h;cases h;exact ⟨cs.toList,rfl,qG hs⟩
theorem mM {P:Program} {t:TypeId} {cs:List SC} (h:uK P t=some cs) (v:Nat->Int) (ρ:Nat->Option Nat) (w:World):∃ z,(zeroValue t).run P w=.ok z w/\bJ (aO v ρ) cs z.cells.toList:=by
 unfold uK at h;cases hi:P.info? t with
 | none=>rw [hi] at h;cases h
 | some i =>
  rw [hi] at h;simp only at h;cases hz:i.zero with
  | none=>rw [hz] at h;cases h
  | some z =>
   rw [hz] at h;refine ⟨z,?_,qG h⟩;unfold zeroValue;rw [Sem.run_bind,fC hi,Result.andThen_ok,hz];rfl
theorem nS {v:Nat->Int} {ρ:Nat->Option Nat} {ev:Operand->Option SV} {a:Act}:∀ {l:List Operand} {xs:List SV},rQ ev l=some xs->(∀ x∈l,∀ sv,ev x=some sv->aR v ρ sv (a.eval x))->bJ (aR v ρ) xs (l.map a.eval)
 | [],xs,h,_=>by cases h;exact .nil
 | x::l,xs,h,hev=>by
  simp only [rQ] at h;split at h
  . rename_i y m h1 h2
    cases h;exact .cons (hev x (List.mem_cons_self ..) y h1) (nS h2 fun x hx=>hev x (List.mem_cons_of_mem _ hx))
  . cases h
def uz (v:Nat->Int) (ρ:Nat->Option Nat) (x:Nat × SP) (y:Nat × Value):Prop:=x.1=y.1/\bC v ρ x.2 y.2
theorem lV {v:Nat->Int} {ρ:Nat->Option Nat} {ev:Operand->Option SV} {a:Act}:∀ {l:List (Nat × Operand)} {xs:List (Nat × SP)},partsOf ev l=some xs->(∀ x∈l.map (·.2),∀ sv,ev x=some sv->aR v ρ sv (a.eval x))->bJ (uz v ρ) xs (l.map fun p=>(p.1,a.eval p.2))
 | [],xs,h,_=>by cases h;exact .nil
 | (i,x)::l,xs,h,hev=>by
  simp only [partsOf] at h;split at h
  . rename_i y m h1 h2
    cases h;exact .cons ⟨rfl,hev x (by simp) (.p y) h1⟩ (lV h2 fun x hx=>hev x (by simp only [List.map_cons];exact List.mem_cons_of_mem _ hx))
  . cases h
theorem Co (off:Nat):∀ (zs:List Value) (j:Nat) (ys:List Value),off+j+zs.length<=ys.length ->
 ((zs.zipIdx j).foldl (fun (cs:Array Value) (p:Value × Nat)=>cs.setIfInBounds (off+p.2) p.1) ⟨ys⟩)=⟨kJ ys (off+j) zs⟩
 | [],j,ys,_=>by simp [kJ]
 | z::zs,j,ys,h=>by
  have h':off+j+(zs.length+1)<=ys.length:=h;simp only [List.zipIdx_cons,List.foldl_cons,List.setIfInBounds_toArray];rw [Co off zs (j+1) _ (by simp;omega),show off+(j+1)=off+j+1 by omega,vC _ _ _ _ (by omega)]
theorem qi {v:Nat->Int} {ρ:Nat->Option Nat} {place:Nat->Option (Nat × Nat)}:∀ {ps:List (Nat × SP)} {qs:List (Nat × Value)} {cs cs':List SC} {ys:List Value},bJ (uz v ρ) ps qs->bJ (aO v ρ) cs ys->iT place cs ps=some cs' ->
 ∃ ys',Instr.fill place ⟨ys⟩ qs=some ⟨ys'⟩/\bJ (aO v ρ) cs' ys'
 | [],_,cs,cs',ys,.nil,hc,h=>by
  cases h;exact ⟨ys,rfl,hc⟩
 | (i,x)::ps,(_,y)::qs,cs,cs',ys,.cons ⟨rfl,hxy⟩ hr,hc,h=>by
  simp only [iT] at h;simp only [Instr.fill];cases hp:place i with
  | none=>rw [hp] at h;cases h
  | some q =>
   obtain ⟨off,n⟩:=q;rw [hp] at h;simp only at h ⊢
   split at h
   . rename_i hn
     have hcell:=bC.cells hxy;have hsz:y.cells.size=n:=by have:=hcell.length;simp at this;omega
     have hlen:=hc.length;rw [if_neg (by simp [hsz];omega)]
     have hfold:(y.cells.zipIdx.foldl (fun (cs:Array Value) (p:Value × Nat)=>cs.setIfInBounds (off+p.2) p.1) ⟨ys⟩)=(⟨kJ ys off y.cells.toList⟩:Array Value):=by
      rw [<-Array.foldl_toList,Array.toList_zipIdx];have:=Co off y.cells.toList 0 ys (by simp [hsz];omega)
      simpa using this
     have hfold':(y.cells.zipIdx.foldl (fun cs (x:Value × Nat)=>match x with|(c,j)=>cs.setIfInBounds (off+j) c) (⟨ys⟩:Array Value))=(⟨kJ ys off y.cells.toList⟩:Array Value):=hfold
     rw [hfold'];exact qi hr (hc.over hcell off) h
   . cases h
end Sx
namespace Sx
open Go Go.RowKit
def iK:Sh->List Int->List Value
 | [],_=>[]
 | some k::h,l=>.int k (l.headD 0)::iK h l.tail
 | none::h,l=>.bool (decide (l.headD 0≠0))::iK h l.tail
def mkVals:List (Bool × Sh)->List Int->List Value
 | [],_=>[]
 | (g,h)::hs,l=>(if g then .agg ⟨iK h l⟩ else (iK h l).headD undef)::mkVals hs (l.drop h.length)
def DF (h:List (Bool × Sh)) (l:List Int):Value :=
 match mkVals h l with
 | [x]=>x
 | ys=>.tuple ⟨ys⟩
def Bf (P : Program) (f : Nat) : Prop := ∃ fn c, P.funcs[f]? = some fn ∧ fn.body = some c ∧ (fn.name == "runtime.NumGoroutine") = false
def bR (P:Program) (X:Cx) (s:Spec):Prop :=
 Bf P s.fn/\∀ xs:List Int,X.pre s.id xs->∀ w,Calls P s.fn ⟨mkVals s.args xs⟩ w fun e w'=>e=.returned (DF s.res (X.sem s.id xs))/\Below w.heap.size w w'
def jZ (P:Program) (X:Cx) (v:Nat->Int) (rec:iG):Prop:=∀ f args path mem nb,af X v (rec f args path mem nb) fun r =>
 PT v path->∀ (ρ:Nat->Option Nat) (w:World) (xs:List Value),bJ (aR v ρ) args xs->Inv ρ w->(∀ b,nb<=b->ρ b=none)->fV v ρ (fun _=>True) w mem ->
  Bf P f/\Calls P f ⟨xs⟩ w fun e w'=>∃ x,e=.returned x/\∀ nm,Res v ρ ρ nm mem r.2 w w' r.1 x
theorem xe {P:Program} {f:Nat} (h:Bf P f) (args:Array Value) (w:World):(callFunc f args).run P w=.ok (.enter f args) w:=by
 obtain ⟨fn,c,h1,h2,h3⟩:=h;unfold callFunc;rw [Sem.run_bind,run_program,Result.andThen_ok,h1];simp [h2,h3]
section
variable {P:Program} {X:Cx} {v:Nat->Int}
theorem kv {ρ:Nat->Option Nat}:∀ {h:Sh} {cs:List SC} {rs:List Rf} {ys:List Value},jX h cs=some rs->bJ (aO v ρ) cs ys->∀ l:List Int,ys=iK h (rs.map (Rf.val v)++l)/\rs.length=h.length
 | [],[],rs,_,hf,.nil,l=>by cases hf;exact ⟨rfl,rfl⟩
 | some k::h,.int j r::cs,rs,_,hf,.cons h1 h2,l=>by
  simp only [jX] at hf;split at hf
  . rename_i hk
    subst hk;cases hc:jX h cs with
    | none=>rw [hc] at hf;cases hf
    | some rs' =>
     rw [hc] at hf;cases hf;obtain ⟨h3,h4⟩:=kv hc h2 l;simp only [aO] at h1;subst h1;rw [h3];exact ⟨rfl,by simp [h4]⟩
  . cases hf
 | none::h,.bool r::cs,rs,_,hf,.cons h1 h2,l=>by
  simp only [jX] at hf;cases hc:jX h cs with
  | none=>rw [hc] at hf;cases hf
  | some rs' =>
   rw [hc] at hf;cases hf;obtain ⟨h3,h4⟩:=kv hc h2 l;simp only [aO] at h1;subst h1;rw [h3];exact ⟨rfl,by simp [h4]⟩
theorem oO {ρ:Nat->Option Nat}:∀ {hs:List (Bool × Sh)} {args:List SV} {rs:List Rf} {xs:List Value},ou hs args=some rs->bJ (aR v ρ) args xs->∀ l:List Int,xs=mkVals hs (rs.map (Rf.val v)++l)
 | [],[],rs,_,hf,.nil,l=>rfl
 | (g,h)::hs,.p x::args,rs,_,hf,.cons h1 h2,l=>by
  simp only [ou] at hf;split at hf
  . rename_i r1 r2 ha hb
    cases hf;have h3:=oO hb h2 l;cases g with
    | true =>
     cases x with
     | c x=>simp [ET] at ha
     | agg cs =>
      obtain ⟨ys,rfl,hy⟩:=h1;obtain ⟨h4,h5⟩:=kv (h:=h) ha hy (r2.map (Rf.val v)++l);rw [h3,h4];simp [mkVals,<-h5]
    | false =>
     cases x with
     | agg cs=>simp [ET] at ha
     | c x =>
      obtain ⟨h4,h5⟩:=kv (h:=h) (cs:=[x]) ha (.cons h1 .nil) (r2.map (Rf.val v)++l);rw [h3];simp only [mkVals,List.map_append,List.append_assoc];rw [<-h4];simp [<-h5]
  . cases hf
theorem vO (l:List Int) (i:Nat):(l.drop i).headD 0=l.getD i 0:=by
 rw [List.headD_eq_head?_getD,List.head?_drop,List.getD_eq_getElem?_getD]
theorem rZ (f:Nat) (xs:List Rf):∀ (h:Sh) (i:Nat),af X v (NA f xs i h) fun cs=>cs.length=h.length/\∀ ρ,bJ (aO v ρ) cs (iK h ((X.sem f (xs.map (Rf.val v))).drop i))
 | [],i=>af.pure ⟨rfl,fun _=>.nil⟩
 | k::h,i=>by
  refine af.bind (af.mk _) fun r hr=>af.bind (rZ f xs h (i+1)) fun cs hcs=>af.pure ?_
  have e:r.val v=((X.sem f (xs.map (Rf.val v))).drop i).headD 0:=by rw [hr,vO];rfl
  refine ⟨by simp [hcs.1],fun ρ=>?_⟩
  have ht:((X.sem f (xs.map (Rf.val v))).drop i).tail=(X.sem f (xs.map (Rf.val v))).drop (i+1):=by rw [List.tail_drop]
  cases k with
  | some k=>simp only [iK];rw [ht];exact .cons (by simp only [aO];rw [e]) (hcs.2 ρ)
  | none=>simp only [iK];rw [ht];exact .cons (by simp only [aO];rw [e]) (hcs.2 ρ)
theorem oG (f:Nat) (xs:List Rf):∀ (hs:List (Bool × Sh)) (i:Nat),af X v (Eo f xs i hs) fun ps=>∀ ρ,bJ (bC v ρ) ps (mkVals hs ((X.sem f (xs.map (Rf.val v))).drop i))
 | [],i=>af.pure fun _=>.nil
 | (g,h)::hs,i=>by
  refine af.bind (rZ f xs h i) fun cs hcs=>af.bind (oG f xs hs (i+h.length)) fun ps hps=>?_
  have hd:((X.sem f (xs.map (Rf.val v))).drop i).drop h.length=(X.sem f (xs.map (Rf.val v))).drop (i+h.length):=by rw [List.drop_drop]
  cases g with
  | true=>exact af.pure fun ρ=>by simp only [mkVals];rw [hd];exact .cons ⟨_,rfl,hcs.2 ρ⟩ (hps ρ)
  | false =>
   simp only [Bool.false_eq_true,if_false];split
   . rename_i x
     refine af.pure fun ρ=>?_
     simp only [mkVals];rw [hd];refine .cons ?_ (hps ρ);have h1:=hcs.2 ρ;generalize iK h ((X.sem f (xs.map (Rf.val v))).drop i)=ys at h1;cases h1 with
     | cons h1 h2=>exact h1
   . exact af.fail
theorem pQ {f:Nat} {s:Spec}:∀ {l:List Spec},pg f l=some s->s∈l/\s.fn=f
 | x::l,h=>by
  simp only [pg] at h;split at h
  . cases h;exact ⟨List.mem_cons_self ..,by assumption⟩
  . obtain ⟨h1,h2⟩:=pQ h;exact ⟨List.mem_cons_of_mem _ h1,h2⟩
theorem fV.keep {ρ:Nat->Option Nat} {A:Nat->Prop} {w w':World} {mem:List Bk} (h:fV v ρ A w mem) (hi:Inv ρ w) (hb:Below w.heap.size w w'):fV v ρ (fun n=>(∃ b k,aM b mem=some k/\ρ b=some n)∨w.heap.size<=n) w' mem:=fun b k hk=>by
 obtain ⟨n,ys,h1,h2,h3,h4⟩:=h b k hk;refine ⟨n,ys,h1,Or.inl ⟨b,k,hk,by rw [<-dI hk];exact h1⟩,?_,h4⟩
 rw [hb.block n (hi.lt _ _ h1)];exact h3
theorem vT {specs:List Spec} {rec:iG} (hs:∀ s∈specs,bR P X s) (hc:jZ P X v rec) (path:Path) (f:Nat) (args:List SV) (mem:List Bk) (nb:Nat) :
 af X v (uZ specs rec path f args mem nb) fun r =>
  PT v path->∀ (ρ:Nat->Option Nat) (w:World) (xs:List Value),bJ (aR v ρ) args xs->Inv ρ w->(∀ b,nb<=b->ρ b=none)->fV v ρ (fun _=>True) w mem ->
   Bf P f/\Calls P f ⟨xs⟩ w fun e w'=>∃ x,e=.returned x/\∀ nm,Res v ρ ρ nm mem r.2 w w' r.1 x:=by
 unfold uZ;split
 . rename_i s hf
   obtain ⟨hm,rfl⟩:=pQ hf;obtain ⟨ho,hS⟩:=hs s hm;split
   . exact af.fail
   . rename_i rs hr
     refine af.bind (af.vc _ _) fun _ hv=>af.bind (oG s.id rs s.res 0) fun ps hps=>?_
     have main:∀ sv:SV,(∀ ρ,aR v ρ sv (DF s.res (X.sem s.id (rs.map (Rf.val v)))))->af X v (M.pure (sv,mem)) fun r =>
      PT v path->∀ (ρ:Nat->Option Nat) (w:World) (xs:List Value),bJ (aR v ρ) args xs->Inv ρ w->(∀ b,nb<=b->ρ b=none)->fV v ρ (fun _=>True) w mem ->
       Bf P s.fn/\Calls P s.fn ⟨xs⟩ w fun e w'=>∃ x,e=.returned x/\∀ nm,Res v ρ ρ nm mem r.2 w w' r.1 x:=by
      intro sv hsv;refine af.pure fun hp ρ w xs hx hi hn hmem=>⟨ho,?_⟩
      have hx':=oO hr hx [];rw [List.append_nil] at hx'
      rw [hx'];refine (hS _ (hv hp) w).mono ?_;rintro e w' ⟨rfl,hb⟩;exact ⟨_,rfl,fun nm=>⟨fun _ _ h=>h,fun _ _=>rfl,hi.grow hb.size,hsv ρ,fun k hk=>Or.inr (bH hk),hmem.keep hi hb,Grow.of_below hb⟩⟩
     have hps':∀ ρ,bJ (bC v ρ) ps (mkVals s.res (X.sem s.id (rs.map (Rf.val v)))):=fun ρ=>by simpa using hps ρ
     split
     . rename_i x
       refine main _ fun ρ=>?_
       have h1:=hps' ρ;unfold DF;generalize mkVals s.res (X.sem s.id (rs.map (Rf.val v)))=ys at h1;cases h1 with
       | cons h1 h2=>cases h2;exact h1
     . rename_i hne
       refine main _ fun ρ=>?_
       have h1:=hps' ρ;unfold DF;generalize mkVals s.res (X.sem s.id (rs.map (Rf.val v)))=ys at h1;split
       . cases h1 with
         | cons h1 h2=>cases h2;exact absurd rfl (hne _)
       . exact ⟨_,rfl,h1⟩
 . exact hc f args path mem nb
def ceq:Value->Value->Bool
 | .int _ a,.int _ b=>a==b
 | .bool a,.bool b=>a==b
 | _,_=>false
def eqL:List Value->List Value->Bool
 | x::l,y::m=>ceq x y&&eqL l m
 | _,_=>true
inductive KL:List Bool->List Value->List Value->Prop where
 | nil:KL [] [] []
 | int {l:List Bool} {us zs:List Value} (k:IntKind) (a b:Int):KL l us zs->KL (true::l) (.int k a::us) (.int k b::zs)
 | bool {l:List Bool} {us zs:List Value} (a b:Bool):KL l us zs->KL (false::l) (.bool a::us) (.bool b::zs)
theorem KL.len {l:List Bool} {us zs:List Value} (h:KL l us zs):us.length=l.length/\zs.length=l.length:=by
 induction h with
 | nil=>exact ⟨rfl,rfl⟩
 | int _ _ _ _ ih=>simp [ih.1,ih.2]
 | bool _ _ _ ih=>simp [ih.1,ih.2]
theorem KL.append_inv:∀ (l m:List Bool) {us zs:List Value},KL (l++m) us zs->KL l (us.take l.length) (zs.take l.length)/\KL m (us.drop l.length) (zs.drop l.length)
 | [],m,us,zs,h=>⟨by simpa using KL.nil,h⟩
 | true::l,m,_,_,.int k a b h=>by
  obtain ⟨h1,h2⟩:=KL.append_inv l m h;exact ⟨.int k a b h1,h2⟩
 | false::l,m,_,_,.bool a b h=>by
  obtain ⟨h1,h2⟩:=KL.append_inv l m h;exact ⟨.bool a b h1,h2⟩
theorem Ht (a b:Bool):b2i (a&&b)=if b2i a≠0 then b2i b else 0:=by cases a<;>cases b<;>rfl
theorem iZ (a:Bool):decide (b2i a≠0)=a:=by cases a<;>rfl
theorem eB:∀ (xs ys:List SC),af X v (iN (.c 1) xs ys) fun r=>∀ (ρ:Nat->Option Nat) (us zs:List Value),bJ (aO v ρ) xs us->bJ (aO v ρ) ys zs->KL (xs.map SC.isInt) us zs/\r.val v=b2i (eqL us zs)
 | [],[]=>af.pure fun ρ us zs h k=>by cases h;cases k;exact ⟨.nil,rfl⟩
 | .int i a::xs,.int j b::ys=>by
  simp only [iN];refine af.ite (fun hij=>?_) (fun _=>af.fail)
  subst hij;refine af.bind (af.mkBin _ _ _ _) fun e he=>af.bind (eB xs ys) fun r hr=>af.imp (af.mkIte _ _ _) fun q hq=>?_
  intro ρ us zs h k;cases h with
  | cons h1 h2=>cases k with
   | cons k1 k2 =>
    simp only [aO] at h1 k1;subst h1;subst k1;obtain ⟨h3,h4⟩:=hr ρ _ _ h2 k2;refine ⟨.int _ _ _ h3,?_⟩;rw [hq,he,h4];simp only [eqL,ceq,Ht];rfl
 | .bool a::xs,.bool b::ys=>by
  simp only [iN];refine af.bind (af.mkIte _ _ _) fun a' ha=>af.bind (af.mkIte _ _ _) fun b' hb=>af.bind (af.mkBin _ _ _ _) fun e he=>af.bind (eB xs ys) fun r hr=>af.imp (af.mkIte _ _ _) fun q hq=>?_
  intro ρ us zs h k;cases h with
  | cons h1 h2=>cases k with
   | cons k1 k2 =>
    simp only [aO] at h1 k1;subst h1;subst k1;obtain ⟨h3,h4⟩:=hr ρ _ _ h2 k2;refine ⟨.bool _ _ h3,?_⟩;rw [hq,he,h4];simp only [eqL,ceq,Ht];have:dK .eql .i64 (a'.val v) (b'.val v)=b2i (decide (a.val v≠0)==decide (b.val v≠0)):=by
     rw [ha,hb]
     by_cases h5:a.val v=0<;>by_cases h6:b.val v=0<;>simp [h5,h6,dK,fu,b2i]
    rw [this];rfl
 | [],_::_=>af.fail
 | _::_,[]=>by
  rename_i x l
  cases x<;>exact af.fail
 | .int ..::xs,.top::ys=>af.fail
 | .int ..::xs,.bool ..::ys=>af.fail
 | .int ..::xs,.ptr ..::ys=>af.fail
 | .int ..::xs,.nil::ys=>af.fail
 | .int ..::xs,.sl ..::ys=>af.fail
 | .int ..::xs,.fn ..::ys=>af.fail
 | .bool ..::xs,.top::ys=>af.fail
 | .bool ..::xs,.int ..::ys=>af.fail
 | .bool ..::xs,.ptr ..::ys=>af.fail
 | .bool ..::xs,.nil::ys=>af.fail
 | .bool ..::xs,.sl ..::ys=>af.fail
 | .bool ..::xs,.fn ..::ys=>af.fail
 | .top::xs,y::ys=>af.fail
 | .ptr ..::xs,y::ys=>af.fail
 | .nil::xs,y::ys=>af.fail
 | .sl ..::xs,y::ys=>af.fail
 | .fn ..::xs,y::ys=>af.fail
theorem zf {t:TypeId} {g:Bool} {n:Nat} (hg:iF P t=some g) (hs:fZ P t=some n) (hn:g=false->n=1) (us:List Value) (off:Nat) (hl:off+n<=us.length) (w:World) :
 (part t ⟨us⟩ off).run P w=.ok (if g then .agg ⟨(us.drop off).take n⟩ else ((us.drop off).take n).headD undef) w:=by
 unfold part;rw [Sem.run_bind,kE hg,Result.andThen_ok];cases g with
 | true =>
  simp only [if_true,Sem.run_bind,eZ hs,Result.andThen_ok,Sem.run_pure]
  congr 1
  simp [List.take_drop]
 | false =>
  have:=hn rfl;subst this;have hlt:off<us.length:=by omega
  have h1:(⟨us⟩:Array Value)[off]? = some us[off]:=by simp [hlt]
  have h2:((us.drop off).take 1).headD undef=us[off]:=by rw [List.drop_eq_getElem_cons hlt];rfl
  simp only [Bool.false_eq_true,if_false,h1,h2,Sem.run_pure]
theorem Bl {d:Nat} {t:TypeId} {l:List Bool} (h:iB P d t=some l):∃ g,iF P t=some g/\(g=false->l.length=1):=by
 cases d with
 | zero=>cases h
 | succ d =>
  unfold iB at h;unfold iF;cases hd:P.underlying t with
  | none=>rw [hd] at h;cases h
  | some e =>
   rw [hd] at h;cases e<;>simp only [reduceCtorEq] at h<;>first|exact ⟨_,rfl,fun _=>by cases h;rfl⟩|exact ⟨true,rfl,fun h=>by cases h⟩
theorem vg:∀ (a b c d:List Value),a.length=c.length->eqL (a++b) (c++d)=(eqL a c&&eqL b d)
 | [],b,[],d,_=>by simp [eqL]
 | x::a,b,y::c,d,h=>by
  simp only [List.cons_append,eqL];rw [vg a b c d (by simpa using h),Bool.and_assoc]
 | [],_,_::_,_,h=>by cases h
 | _::_,_,[],_,h=>by cases h
theorem oL {d:Nat} (IH:∀ (t:TypeId) (l:List Bool) (us zs:List Value) (g:Bool),iB P d t=some l->iF P t=some g->KL l us zs->∀ w,(Op.equalIn d t (if g then .agg ⟨us⟩ else us.headD undef) (if g then .agg ⟨zs⟩ else zs.headD undef)).run P w=.ok (eqL us zs) w) :
 ∀ (fs:List Field) (off:Nat) (l:List Bool) (us zs:List Value),iB.plainFs (iB P d) (fZ P) off fs=some l->KL l (us.drop off) (zs.drop off)->∀ w,(Op.eqFields d ⟨us⟩ ⟨zs⟩ fs).run P w=.ok (eqL (us.drop off) (zs.drop off)) w
 | [],off,l,us,zs,h,hk,w=>by
  cases h;generalize us.drop off=a at hk;generalize zs.drop off=b at hk;cases hk;simp [Op.eqFields,eqL]
 | f::fs,off,l,us,zs,h,hk,w=>by
  simp only [iB.plainFs] at h;split at h
  . cases h
  . rename_i hne
    simp only [not_or,Decidable.not_not] at hne;obtain ⟨hname,hoff⟩:=hne;split at h
    . rename_i k hk1
      split at h
      . rename_i hsz
        cases hr:iB.plainFs (iB P d) (fZ P) (off+k.length) fs with
        | none=>rw [hr] at h;cases h
        | some m =>
         rw [hr] at h;cases h;obtain ⟨hl1,hl2⟩:=hk.len;simp only [List.length_drop,List.length_append] at hl1 hl2;obtain ⟨hka,hkb⟩:=KL.append_inv k m hk;simp only [List.drop_drop] at hkb;have hrest:=oL IH fs (off+k.length) m us zs hr hkb w;obtain ⟨g,hg,hg1⟩:=Bl hk1;simp only [Op.eqFields]
         by_cases hz:k.length=0
         . have hk0:k=[]:=List.length_eq_zero_iff.1 hz;have hgt:g=true:=by cases g with
            | true=>rfl
            | false=>have:=hg1 rfl;omega
           subst hgt;rw [if_pos hname,hoff];have p1:∀ us:List Value,(part f.type ⟨us⟩ off).run P w=.ok (.agg ⟨[]⟩) w:=fun us=>by
            unfold part;rw [Sem.run_bind,kE hg,Result.andThen_ok];simp only [if_true,Sem.run_bind,eZ hsz,Result.andThen_ok,Sem.run_pure,hz]
            congr 2
            simp
           rw [Sem.run_bind,p1,Result.andThen_ok,Sem.run_bind,p1,Result.andThen_ok,Sem.run_bind];have:=IH f.type k [] [] true hk1 hg (by rw [hk0];exact .nil) w
           simp only [if_true] at this;rw [this,Result.andThen_ok];simp only [eqL,Bool.not_true,Bool.false_eq_true,if_false];rw [hrest,hz];rfl
         . rw [if_pos hname,hoff];rw [Sem.run_bind,zf hg hsz hg1 us off (by omega),Result.andThen_ok,Sem.run_bind,zf hg hsz hg1 zs off (by omega),Result.andThen_ok,Sem.run_bind]
           rw [IH f.type k _ _ g hk1 hg hka,Result.andThen_ok];have e1:us.drop off=(us.drop off).take k.length++us.drop (off+k.length):=by
            rw [<-List.drop_drop,List.take_append_drop]
           have e2:zs.drop off=(zs.drop off).take k.length++zs.drop (off+k.length):=by
            rw [<-List.drop_drop,List.take_append_drop]
           have e3:eqL (us.drop off) (zs.drop off)=(eqL ((us.drop off).take k.length) ((zs.drop off).take k.length)&&eqL (us.drop (off+k.length)) (zs.drop (off+k.length))):=by
            conv=>lhs;rw [e1,e2]
            exact vg _ _ _ _ (by simp;omega)
           rw [e3];cases hq:eqL ((us.drop off).take k.length) ((zs.drop off).take k.length) with
           | true=>simpa using hrest
           | false=>simp
      . cases h
    . cases h
theorem kU:∀ (d:Nat) (t:TypeId) (l:List Bool) (us zs:List Value) (g:Bool),iB P d t=some l->iF P t=some g->KL l us zs->∀ w,(Op.equalIn d t (if g then .agg ⟨us⟩ else us.headD undef) (if g then .agg ⟨zs⟩ else zs.headD undef)).run P w=.ok (eqL us zs) w
 | 0,t,l,us,zs,g,h,_,_,w=>by cases h
 | d+1,t,l,us,zs,g,h,hg,hk,w=>by
  unfold iB at h;unfold iF at hg;cases hd:P.underlying t with
  | none=>rw [hd] at h;cases h
  | some e =>
   rw [hd] at h hg;cases e<;>simp only [reduceCtorEq] at h
   case bool =>
    cases h;cases hg;cases hk with
    | bool a b h2=>cases h2;simp [Op.equalIn,run_underlying hd,eqL,ceq]
   case int k' =>
    cases h;cases hg;cases hk with
    | int k a b h2=>cases h2;simp [Op.equalIn,run_underlying hd,eqL,ceq]
   case struct fs =>
    split at h
    . cases h
    . rename_i hst
      cases hg;have hf:P.fieldsOf t=fs:=by unfold Program.fieldsOf;rw [hd]
      simp only [if_true];rw [run_equalIn_struct w d t ⟨us⟩ ⟨zs⟩ (by rw [hf];exact hd) (by simpa using hst),hf]
      have:=oL (kU d) fs.toList 0 l us zs h (by simpa using hk) w
      simpa using this
end
end Sx
namespace Sx
open Go Go.RowKit
section
variable {P:Program} {X:Cx} {v:Nat->Int}
theorem xB (op:BinOp) (t:TypeId) (x y:Operand) (j k:IntKind) (a b:Int) (w:World):(eqGuard op t x y (.int j a) (.int k b)).run P w=.ok () w:=by
 cases op<;>simp [eqGuard]
theorem vL (op:BinOp) (t:TypeId) (x y:Operand) (a b:Bool) (w:World):(eqGuard op t x y (.bool a) (.bool b)).run P w=.ok () w:=by
 cases op<;>simp [eqGuard]
theorem Bi (op:BinOp) (t:TypeId) (k j:IntKind) (a b:Int) (w:World) (hs:jW op=true->0<=b) (hk:jW op=false->k=j) (hd:(op=.quo∨op=.rem)->b≠0) :
 (binOp op t (.int k a) (.int j b)).run P w=.ok (if dY op then .bool (decide (dK op k a b≠0)) else .int k (dK op k a b)) w:=by
 cases op
 case add =>
  obtain rfl:=hk rfl;simp only [binOp,ne_eq,not_true_eq_false,if_false,Op.intArith,dK,dY,Bool.false_eq_true];rfl
 case sub =>
  obtain rfl:=hk rfl;simp only [binOp,ne_eq,not_true_eq_false,if_false,Op.intArith,dK,dY,Bool.false_eq_true];rfl
 case mul =>
  obtain rfl:=hk rfl;simp only [binOp,ne_eq,not_true_eq_false,if_false,Op.intArith,dK,dY,Bool.false_eq_true];rfl
 case and =>
  obtain rfl:=hk rfl;simp only [binOp,ne_eq,not_true_eq_false,if_false,Op.intBits,dK,dY,Bool.false_eq_true];rfl
 case or =>
  obtain rfl:=hk rfl;simp only [binOp,ne_eq,not_true_eq_false,if_false,Op.intBits,dK,dY,Bool.false_eq_true];rfl
 case xor =>
  obtain rfl:=hk rfl;simp only [binOp,ne_eq,not_true_eq_false,if_false,Op.intBits,dK,dY,Bool.false_eq_true];rfl
 case andNot =>
  obtain rfl:=hk rfl;simp only [binOp,ne_eq,not_true_eq_false,if_false,Op.intBits,dK,dY,Bool.false_eq_true];rfl
 case quo =>
  obtain rfl:=hk rfl;have h:=hd (Or.inl rfl);simp only [binOp,ne_eq,not_true_eq_false,if_false,Op.intDiv,dK,dY,Bool.false_eq_true,if_neg h];rfl
 case rem =>
  obtain rfl:=hk rfl;have h:=hd (Or.inr rfl);simp only [binOp,ne_eq,not_true_eq_false,if_false,Op.intDiv,dK,dY,Bool.false_eq_true,if_neg h];rfl
 case shl =>
  have h:=Int.not_lt.2 (hs rfl);simp only [binOp,Op.shift,dK,dY,Bool.false_eq_true,if_false,if_neg h];rfl
 case shr =>
  have h:=Int.not_lt.2 (hs rfl);simp only [binOp,Op.shift,dK,dY,Bool.false_eq_true,if_false,if_neg h];rfl
 case eql =>
  obtain rfl:=hk rfl;have e:decide (dK .eql k a b≠0)=(a==b):=iZ _;rw [e];simp only [dY,if_true];simp only [binOp,ne_eq,not_true_eq_false,if_false,Op.intCmp];rfl
 case neq =>
  obtain rfl:=hk rfl;have e:decide (dK .neq k a b≠0)=(a != b):=iZ _;rw [e];simp only [dY,if_true];simp only [binOp,ne_eq,not_true_eq_false,if_false,Op.intCmp];rfl
 case lss =>
  obtain rfl:=hk rfl;have e:decide (dK .lss k a b≠0)=(decide (a<b)):=iZ _;rw [e];simp only [dY,if_true];simp only [binOp,ne_eq,not_true_eq_false,if_false,Op.intCmp];rfl
 case leq =>
  obtain rfl:=hk rfl;have e:decide (dK .leq k a b≠0)=(decide (a<=b)):=iZ _;rw [e];simp only [dY,if_true];simp only [binOp,ne_eq,not_true_eq_false,if_false,Op.intCmp];rfl
 case gtr =>
  obtain rfl:=hk rfl;have e:decide (dK .gtr k a b≠0)=(decide (a>b)):=iZ _;rw [e];simp only [dY,if_true];simp only [binOp,ne_eq,not_true_eq_false,if_false,Op.intCmp];rfl
 case geq =>
  obtain rfl:=hk rfl;have e:decide (dK .geq k a b≠0)=(decide (a>=b)):=iZ _;rw [e];simp only [dY,if_true];simp only [binOp,ne_eq,not_true_eq_false,if_false,Op.intCmp];rfl
theorem xA (path:Path) (op:BinOp) (t:TypeId) (p q:SV):af X v (Aj P path op t p q) fun r =>
 PT v path->∀ (ρ:Nat->Option Nat) (x y:Value) (w:World),aR v ρ p x->aR v ρ q y->∀ ox oy,∃ z,(do eqGuard op t ox oy x y;binOp op t x y:Sem Value).run P w=.ok z w/\aR v ρ r z:=by
 unfold Aj;split
 . rename_i k a j b
   have key:∀ z:Value,∀ (hs:jW op=true->0<=b.val v) (hk:jW op=false->k=j) (hd:(op=.quo∨op=.rem)->b.val v≠0),z=(if dY op then .bool (decide (dK op k (a.val v) (b.val v)≠0)) else .int k (dK op k (a.val v) (b.val v))) ->
    ∀ (ρ:Nat->Option Nat) (x y:Value) (w:World),aR v ρ (.p (.c (.int k a))) x->aR v ρ (.p (.c (.int j b))) y->∀ ox oy,(do eqGuard op t ox oy x y;binOp op t x y:Sem Value).run P w=.ok z w:=by
    intro z hs hk hd hz ρ x y w hx hy ox oy;simp only [aR,bC,aO] at hx hy;subst hx;subst hy;rw [Sem.run_bind,xB,Result.andThen_ok,Bi op t k j _ _ w hs hk hd,hz]
   refine af.ite (fun hsh=>?_) (fun hsh=>?_)
   . refine af.bind (af.vcGe0 _ _) fun _ hv=>af.bind (af.mkBin _ _ _ _) fun r hr=>af.pure fun hp ρ x y w hx hy ox oy=>?_
     have hc:dY op=false:=by cases op<;>simp [jW] at hsh<;>rfl
     refine ⟨_,key _ (fun _=>hv hp) (fun h=>by rw [hsh] at h;cases h) (fun h=>by rcases h with rfl|rfl<;>cases hsh) rfl ρ x y w hx hy ox oy,?_⟩
     simp only [hc,Bool.false_eq_true,if_false,aR,bC,aO];rw [hr]
   . refine af.ite (fun hkj=>?_) (fun _=>af.fail)
     have hsh':jW op=false:=by simpa using hsh
     refine af.ite (fun hc=>?_) (fun hc=>?_)
     . refine af.bind (af.mkBin _ _ _ _) fun r hr=>af.pure fun hp ρ x y w hx hy ox oy=>?_
       refine ⟨_,key _ (fun h=>by rw [hsh'] at h;cases h) (fun _=>hkj) (fun h=>by rcases h with rfl|rfl<;>cases hc) rfl ρ x y w hx hy ox oy,?_⟩
       simp only [hc,if_true,aR,bC,aO];rw [hr]
     . have hc':dY op=false:=by simpa using hc
       refine af.ite (fun hd=>?_) (fun hd=>?_)
       . refine af.bind (af.vcNe0 _ _) fun _ hv=>af.bind (af.mkBin _ _ _ _) fun r hr=>af.pure fun hp ρ x y w hx hy ox oy=>?_
         refine ⟨_,key _ (fun h=>by rw [hsh'] at h;cases h) (fun _=>hkj) (fun _=>hv hp) rfl ρ x y w hx hy ox oy,?_⟩
         simp only [hc',Bool.false_eq_true,if_false,aR,bC,aO];rw [hr]
       . refine af.bind (af.mkBin _ _ _ _) fun r hr=>af.pure fun hp ρ x y w hx hy ox oy=>?_
         refine ⟨_,key _ (fun h=>by rw [hsh'] at h;cases h) (fun _=>hkj) (fun h=>absurd h hd) rfl ρ x y w hx hy ox oy,?_⟩
         simp only [hc',Bool.false_eq_true,if_false,aR,bC,aO];rw [hr]
 . rename_i xs ys
   refine af.ite (fun hc=>?_) (fun _=>af.fail)
   obtain ⟨hpl,hgd,hag⟩:=hc;split
   . refine af.bind (eB xs ys) fun r hr=>af.pure fun hp ρ x y w hx hy ox oy=>?_
     obtain ⟨us,rfl,hu⟩:=hx;obtain ⟨zs,rfl,hz⟩:=hy;obtain ⟨h1,h2⟩:=hr ρ us zs hu hz;refine ⟨.bool (eqL us zs),?_,?_⟩
     . rw [Sem.run_bind,run_eqGuard_agg w .eql t ox oy _ _ hgd,Result.andThen_ok,run_eql_struct];have:=kU 10000 t _ us zs true hpl hag h1 w;simp only [if_true] at this;rw [this];rfl
     . simp only [aR,bC,aO];rw [h2,iZ]
   . refine af.bind (eB xs ys) fun r hr=>af.bind (af.mkIte _ _ _) fun r' hr'=>af.pure fun hp ρ x y w hx hy ox oy=>?_
     obtain ⟨us,rfl,hu⟩:=hx;obtain ⟨zs,rfl,hz⟩:=hy;obtain ⟨h1,h2⟩:=hr ρ us zs hu hz;refine ⟨.bool (!eqL us zs),?_,?_⟩
     . rw [Sem.run_bind,run_eqGuard_agg w .neq t ox oy _ _ hgd,Result.andThen_ok,run_neq_struct];have:=kU 10000 t _ us zs true hpl hag h1 w;simp only [if_true] at this;rw [this];rfl
     . simp only [aR,bC,aO];rw [hr',h2];cases eqL us zs<;>rfl
   . exact af.fail
 . rename_i a b
   refine af.ite (fun hc=>?_) (fun _=>af.fail)
   have hb:P.underlying t=some .bool:=by
    cases hu:P.underlying t with
    | none=>rw [hu] at hc;cases hc
    | some e=>rw [hu] at hc;cases e<;>first|rfl|cases hc
   have run1:∀ (op:BinOp) (a b:Bool) (w:World) (ox oy:Operand),(op=.eql∨op=.neq)->(do eqGuard op t ox oy (.bool a) (.bool b);binOp op t (.bool a) (.bool b):Sem Value).run P w=.ok (.bool (if op=.eql then a==b else !(a==b))) w:=by
    intro op a b w ox oy ho;rw [Sem.run_bind,vL,Result.andThen_ok];have:=fun d=>run_equalIn_bool' (P:=P) w d t a b hb
    rcases ho with rfl|rfl<;>simp [binOp,Op.equal,Op.maxDepth,this]
   split
   . refine af.bind (eB [.bool a] [.bool b]) fun r hr=>af.pure fun hp ρ x y w hx hy ox oy=>?_
     simp only [aR,bC,aO] at hx hy;obtain ⟨h1,h2⟩:=hr ρ [x] [y] (.cons hx .nil) (.cons hy .nil);subst hx;subst hy;refine ⟨_,run1 .eql _ _ w ox oy (Or.inl rfl),?_⟩;simp only [aR,bC,aO];rw [h2,iZ];simp [eqL,ceq]
   . refine af.bind (eB [.bool a] [.bool b]) fun r hr=>af.bind (af.mkIte _ _ _) fun r' hr'=>af.pure fun hp ρ x y w hx hy ox oy=>?_
     simp only [aR,bC,aO] at hx hy;obtain ⟨h1,h2⟩:=hr ρ [x] [y] (.cons hx .nil) (.cons hy .nil);subst hx;subst hy;refine ⟨_,run1 .neq _ _ w ox oy (Or.inr rfl),?_⟩;simp only [aR,bC,aO];rw [hr',h2];simp only [eqL,ceq,Bool.and_true];cases h:(decide (a.val v≠0)==decide (b.val v≠0))<;>simp [b2i,fu]
   . exact af.fail
 . exact af.fail
theorem nX {ρ:Nat->Option Nat}:∀ {l:List SV} {rs:List Rf} {xs:List Value},rA l=some rs->bJ (aR v ρ) l xs->bJ (fun r x=>∃ k,x=Value.int k (Rf.val v r)) rs xs
 | [],rs,_,h,.nil=>by cases h;exact .nil
 | .p (.c (.int k r))::l,rs,_,h,.cons h1 h2=>by
  simp only [rA] at h;cases hl:rA l with
  | none=>rw [hl] at h;cases h
  | some m=>rw [hl] at h;cases h;exact .cons ⟨k,h1⟩ (nX hl h2)
 | .top::l,rs,_,h,.cons _ _=>by cases h
 | .tup _::l,rs,_,h,.cons _ _=>by cases h
 | .p (.agg _)::l,rs,_,h,.cons _ _=>by cases h
 | .p (.c .top)::l,rs,_,h,.cons _ _=>by cases h
 | .p (.c (.bool _))::l,rs,_,h,.cons _ _=>by cases h
 | .p (.c (.ptr _ _))::l,rs,_,h,.cons _ _=>by cases h
 | .p (.c .nil)::l,rs,_,h,.cons _ _=>by cases h
 | .p (.c (.sl ..))::l,rs,_,h,.cons _ _=>by cases h
 | .p (.c (.fn ..))::l,rs,_,h,.cons _ _=>by cases h
theorem oJ (k:IntKind):∀ (rs:List Rf) (r:Rf),af X v (Et r rs) fun q=>∀ (xs:List Value) (w:World),bJ (fun r x=>∃ k,x=Value.int k (Rf.val v r)) rs xs->(xs.foldlM Builtin.min2 (.int k (r.val v))).run P w=.ok (.int k (q.val v)) w
 | [],r=>af.pure fun xs w h=>by cases h;rfl
 | b::rs,r=>by
  refine af.bind (af.mkMn _ _) fun c hc=>af.imp (oJ k rs c) fun q hq=>?_
  intro xs w h;cases h with
  | cons h1 h2 =>
   obtain ⟨j,rfl⟩:=h1;have:=hq _ w h2;simp only [List.foldlM_cons,Builtin.min2,Sem.run_bind,Sem.run_pure,Result.andThen_ok];rw [hc] at this;exact this
theorem oW (k:IntKind):∀ (rs:List Rf) (r:Rf),af X v (Eh r rs) fun q=>∀ (xs:List Value) (w:World),bJ (fun r x=>∃ k,x=Value.int k (Rf.val v r)) rs xs->(xs.foldlM Builtin.max2 (.int k (r.val v))).run P w=.ok (.int k (q.val v)) w
 | [],r=>af.pure fun xs w h=>by cases h;rfl
 | b::rs,r=>by
  refine af.bind (af.mkMx _ _) fun c hc=>af.imp (oW k rs c) fun q hq=>?_
  intro xs w h;cases h with
  | cons h1 h2 =>
   obtain ⟨j,rfl⟩:=h1;have:=hq _ w h2;simp only [List.foldlM_cons,Builtin.max2,Sem.run_bind,Sem.run_pure,Result.andThen_ok];rw [hc] at this;exact this
theorem wU {ρ:Nat->Option Nat}:∀ {l:List SV} {bs:List Nat} {xs:List Value},ww l=some bs->bJ (aR v ρ) l xs->∃ ns:List Nat,bJ (fun b n=>ρ b=some n) bs ns/\xs=ns.map fun n=>Value.pointer (some ⟨n,0,none⟩)
 | [],bs,_,h,.nil=>by cases h;exact ⟨[],.nil,rfl⟩
 | x::l,bs,_,h,.cons h1 h2=>by
  unfold ww at h;split at h
  . rename_i heq;cases heq
  . rename_i b m heq
    cases heq;cases hl:ww l with
    | none=>rw [hl] at h;cases h
    | some m =>
     rw [hl] at h;cases h;obtain ⟨n,h3,rfl⟩:=h1;obtain ⟨ns,h4,rfl⟩:=wU hl h2;exact ⟨n::ns,.cons h3 h4,rfl⟩
  . cases h
theorem BP {ρ:Nat->Option Nat}:∀ {bs ns:List Nat},bJ (fun b n=>ρ b=some n) bs ns->bJ (aR v ρ) (bs.map fun b=>SV.p (.c (.ptr b 0))) (ns.map fun n=>Value.pointer (some ⟨n,0,none⟩))
 | _,_,.nil=>.nil
 | _,_,.cons h1 h2=>.cons ⟨_,h1,rfl⟩ (BP h2)
end
end Sx
namespace Sx
open Go Go.RowKit
section
variable {P:Program} {X:Cx} {v:Nat->Int}
def fO (ρ:Nat->Option Nat) (nm n:Nat):Nat->Option Nat:=fun b=>if b=nm then some n else ρ b
theorem rV {ρ:Nat->Option Nat} {nm n:Nat} (h:ρ nm=none):∀ b k,ρ b=some k->fO ρ nm n b=some k:=fun b k hb=>by
 unfold fO;rw [if_neg]
 . exact hb
 . rintro rfl;rw [h] at hb;cases hb
theorem Res.new {ρ:Nat->Option Nat} {nm:Nat} {mem:List Bk} {w:World} {t:TypeId} {cs:List SC} {ys:List Value} {sv:SV} {x:Value} (hi:Inv ρ w) (hn:ρ nm=none) (h:bJ (aO v ρ) cs ys) (hx:aR v (fO ρ nm w.heap.size) sv x) :
 Res v ρ (fO ρ nm w.heap.size) nm mem [⟨nm,t,cs⟩] w { w with heap:=w.heap.push (.cells ⟨ys⟩ t) } sv x:=by
 refine ⟨rV hn,fun b hb=>by simp [fO,hb],⟨?_,?_⟩,hx,fun k hk=>Or.inl (by simp at hk;rw [hk]),?_,⟨rfl,rfl,rfl,by simp,?_⟩⟩
 . intro b b' n h1 h2;unfold fO at h1 h2;split at h1<;>split at h2
   . simp [*]
   . cases h1;have:=hi.lt _ _ h2;omega
   . cases h2;have:=hi.lt _ _ h1;omega
   . exact hi.inj _ _ _ h1 h2
 . intro b n h1;unfold fO at h1;simp only [Array.size_push];split at h1
   . cases h1;omega
   . have:=hi.lt _ _ h1;omega
 . intro b k hk;simp only [aM] at hk;split at hk
   . cases hk;refine ⟨w.heap.size,ys,by simp [fO],Or.inr (Nat.le_refl _),by simp,?_⟩
     exact oZ (fun b _ n hb=>rV hn b n hb) h
   . cases hk
 . intro n hlt _;show (w.heap.push _)[n]? = _;rw [Array.getElem?_push,if_neg (by omega)]
theorem zL {specs:List Spec} {rec:iG} (hs:∀ s∈specs,bR P X s) (hc:jZ P X v rec) (path:Path) (o:Oper) (ev:Operand->Option SV) (mem:List Bk) (nm nb:Nat) :
 af X v (zG P specs rec path o ev mem nm nb) (OpR P v o path ev mem nm nb):=by
 obtain ⟨dst,op,type,pos,after,guard⟩:=o;cases op<;>simp only [zG]
 case move x =>
  refine af.bind af.opt fun y hy=>af.pure (OpR.pure fun hp ρ a w hev hm=>⟨a.eval x,rfl,hev x (by simp [Op.operands]) y hy⟩)
 case assign x =>
  refine af.bind af.opt fun y hy=>af.pure (OpR.pure fun hp ρ a w hev hm=>⟨a.eval x,rfl,hev x (by simp [Op.operands]) y hy⟩)
 case alloc t =>
  refine af.bind af.opt fun cs hcs=>af.pure fun hp ρ a w hev hi hn hlt hfr hm=>?_
  obtain ⟨z,hz,hr⟩:=mM hcs v ρ w;refine Does.value (x:=.pointer (some ⟨w.heap.size,0,none⟩)) (w':={ w with heap:=w.heap.push (.cells ⟨z.cells.toList⟩ t) }) ?_ ⟨_,Res.new hi hn hr ⟨w.heap.size,by simp [fO],rfl⟩⟩
  simp [execOp,Instr.alloc,hz,newVar,newRow]
 case box t x =>
  refine af.bind af.opt fun y hy=>?_
  cases y with
  | top=>exact af.fail
  | tup xs=>exact af.fail
  | p y =>
   refine af.pure fun hp ρ a w hev hi hn hlt hfr hm=>?_
   have hr:=bC.cells (hev x (by simp [Op.operands]) _ hy)
   refine Does.value (x:=.pointer (some ⟨w.heap.size,0,none⟩)) (w':={ w with heap:=w.heap.push (.cells ⟨(a.eval x).cells.toList⟩ t) }) ?_ ⟨_,Res.new hi hn hr ⟨w.heap.size,by simp [fO],rfl⟩⟩
   simp [execOp,Instr.box,newVar,newRow]
 case build t parts =>
  refine af.bind af.opt fun cs hcs=>af.bind af.opt fun ps hps=>?_
  have hparts:∀ (ρ:Nat->Option Nat) (a:Act),(∀ x∈(Op.build t parts).operands.toList,∀ sv,ev x=some sv->aR v ρ sv (a.eval x))->bJ (uz v ρ) ps ((parts.map fun p=>(p.1,a.eval p.2)).toList):=fun ρ a hev=>by
   rw [Array.toList_map];exact lV hps fun x hx=>hev x (by simpa [Op.operands] using hx)
  split
  . rename_i fs hu
    refine af.bind af.opt fun places hpl=>af.bind af.opt fun cs' hf=>af.pure (OpR.pure fun hp ρ a w hev hm=>?_)
    obtain ⟨z,hz,hr⟩:=mM hcs v ρ w;obtain ⟨ys,h1,h2⟩:=qi (hparts ρ a hev) hr hf;refine ⟨.agg ⟨ys⟩,?_,ys,rfl,h2⟩;have hb:P.built t (parts.map fun p=>(p.1,a.eval p.2)).toList=some ⟨ys⟩:=by
     unfold Program.built;unfold uK at hcs;cases hi:P.info? t with
     | none=>rw [hi] at hcs;cases hcs
     | some it =>
      rw [hi] at hcs;simp only at hcs;cases hz0:it.zero with
      | none=>rw [hz0] at hcs;cases hcs
      | some z0 =>
       have:z0=z:=by
        unfold zeroValue at hz;rw [Sem.run_bind,fC hi,Result.andThen_ok,hz0] at hz;cases hz;rfl
       subst this;simp only [hu,hz0,hpl];exact h1
    have:=run_build w t (parts.map fun p=>(p.1,a.eval p.2)) ⟨ys⟩ hb
    simp only [execOp,Sem.run_bind];have e:(parts.map fun (x:Nat × Operand)=>match x with|(i,x)=>(i,a.eval x))=parts.map fun p=>(p.1,a.eval p.2):=rfl
    rw [e,this];rfl
  . rename_i n e hu
    refine af.bind af.opt fun c hsz=>af.bind af.opt fun cs' hf=>af.pure (OpR.pure fun hp ρ a w hev hm=>?_)
    obtain ⟨z,hz,hr⟩:=mM hcs v ρ w;obtain ⟨ys,h1,h2⟩:=qi (hparts ρ a hev) hr hf;refine ⟨.agg ⟨ys⟩,?_,ys,rfl,h2⟩;have hb:P.built t (parts.map fun p=>(p.1,a.eval p.2)).toList=some ⟨ys⟩:=by
     unfold Program.built;unfold uK at hcs;cases hi:P.info? t with
     | none=>rw [hi] at hcs;cases hcs
     | some it =>
      rw [hi] at hcs;simp only at hcs;cases hz0:it.zero with
      | none=>rw [hz0] at hcs;cases hcs
      | some z0 =>
       have:z0=z:=by
        unfold zeroValue at hz;rw [Sem.run_bind,fC hi,Result.andThen_ok,hz0] at hz;cases hz;rfl
       subst this;unfold fZ at hsz;cases hie:P.info? e with
       | none=>rw [hie] at hsz;cases hsz
       | some ie =>
        rw [hie] at hsz;cases hsz;simp only [hu,hz0,hie];exact h1
    have:=run_build w t (parts.map fun p=>(p.1,a.eval p.2)) ⟨ys⟩ hb
    simp only [execOp,Sem.run_bind];have e:(parts.map fun (x:Nat × Operand)=>match x with|(i,x)=>(i,a.eval x))=parts.map fun p=>(p.1,a.eval p.2):=rfl
    rw [e,this];rfl
  . exact af.fail
 case load t x =>
  refine af.bind af.opt fun y hy=>?_
  split
  . rename_i b off
    refine af.bind af.opt fun z hz=>af.pure (OpR.pure fun hp ρ a w hev hm=>?_)
    obtain ⟨n,hn,he⟩:=hev x (by simp [Op.operands]) _ hy
    unfold qj at hz;split at hz
    . rename_i k hk
      obtain ⟨n',ys,h1,_,h3,h4⟩:=hm b k hk;rw [dI hk,hn] at h1;cases h1;obtain ⟨q,h5,h6⟩:=oD h3 h4 hz;refine ⟨q,?_,h6⟩;simp only [execOp,Sem.run_bind,he,Instr.loadAt,Instr.sureAddr,Sem.run_pure,Result.andThen_ok];rw [h5];rfl
    . cases hz
  . exact af.fail
 case store t x y =>
  refine af.bind af.opt fun p hp1=>af.bind af.opt fun q hq=>?_
  split
  . rename_i b off z
    refine af.bind af.opt fun k' hk'=>af.pure fun hp ρ a w hev hi hn hlt hfr hm=>?_
    obtain ⟨n,hn',he⟩:=hev x (by simp [Op.operands]) _ hp1
    have hz:bC v ρ z (a.eval y):=hev y (by simp [Op.operands]) _ hq
    have hzc:=bC.cells hz;unfold xJ at hk'
    split at hk'
    . rename_i k hk
      split at hk'
      . rename_i hsz
        cases hk'
        obtain ⟨n',ys,h1,_,h3,h4⟩:=hm b k hk;rw [dI hk,hn'] at h1;cases h1;have hlen:=hzc.length;have hlen4:=h4.length;have hone:∀ z∈(a.eval y).cells.toList,z.oneCell'=true:=by
         have gen:∀ {l:List SC} {m:List Value},bJ (aO v ρ) l m->∀ z∈m,z.oneCell'=true:=by
          intro l m h
          induction h with
          | nil=>intro z hz;cases hz
          | cons h1 _ ih=>intro z hz;rcases List.mem_cons.1 hz with rfl|hz;exact aO.one h1;exact ih z hz
         exact gen hzc
        obtain ⟨w',h5,h6,h7,h8⟩:=wZ (P:=P) h3 (y:=a.eval y) hsz.1 (by rw [<-Array.length_toList];exact hlen.symm) hone (o:=off) (by omega)
        refine Does.skip (w':=w') ?_ ⟨ρ,fun _ _ h=>h,fun _ _=>rfl,hi.grow (by omega),⟨[],rfl,.nil⟩,fun k2 hk2=>Or.inr (by simp at hk2;subst hk2;exact ⟨k,hk⟩),?_,h7.os,h7.tape,h7.output,h7.size,?_⟩
        . simp only [execOp,Sem.run_bind,he,Instr.storeAt,Instr.sureAddr,Sem.run_pure,Result.andThen_ok];rw [h5];rfl
        . intro b2 k2 hk2;simp only [aM] at hk2;split at hk2
          . cases hk2;exact ⟨n,_,hn',Or.inl ⟨b,k,hk,hn'⟩,h6,h4.over hzc off⟩
          . cases hk2
        . intro m hm1 hm2;refine h7.block m hm1 fun e=>hm2 ⟨b,⟨b,k.t,over k.cs off z.cells⟩,by simp only [aM,if_true],by rw [e];exact hn'⟩
      . cases hk'
    . cases hk'
  . exact af.fail
 case nilCheck x =>
  refine af.bind af.opt fun y hy=>?_
  split
  . rename_i b off
    refine af.pure (OpR.pure fun hp ρ a w hev hm=>?_)
    have h:=hev x (by simp [Op.operands]) _ hy
    obtain ⟨n,hn,he⟩:=h;refine ⟨.pointer (some ⟨n,off,none⟩),?_,n,hn,rfl⟩;simp [execOp,he]
  . exact af.fail
 case binOp op t x y yt =>
  refine af.bind af.opt fun p hp1=>af.bind af.opt fun q hq=>af.bind (xA path op t p q) fun r hr=>af.pure (OpR.pure fun hp ρ a w hev hm=>?_)
  obtain ⟨z,h1,h2⟩:=hr hp ρ _ _ w (hev x (by simp [Op.operands]) _ hp1) (hev y (by simp [Op.operands]) _ hq) x y
  refine ⟨z,?_,h2⟩;simp only [execOp];rw [Sem.run_bind,h1];rfl
 case unOp op t x =>
  refine af.bind af.opt fun p hp1=>?_
  split
  . rename_i k r
    refine af.bind (af.mkBin _ _ _ _) fun q hq=>af.pure (OpR.pure fun hp ρ a w hev hm=>?_)
    have h:a.eval x=.int k (r.val v):=hev x (by simp [Op.operands]) _ hp1
    refine ⟨.int k (k.wrap (0-r.val v)),?_,?_⟩
    . simp [execOp,h,Op.unary,Op.intArith]
    . simp only [aR,bC,aO];rw [hq];rfl
  . rename_i r
    refine af.bind (af.mkIte _ _ _) fun q hq=>af.pure (OpR.pure fun hp ρ a w hev hm=>?_)
    have h:a.eval x=.bool (decide (r.val v≠0)):=hev x (by simp [Op.operands]) _ hp1
    refine ⟨.bool (!decide (r.val v≠0)),?_,?_⟩
    . simp only [execOp,h,Op.unary,Sem.run_bind,Sem.run_pure,Result.andThen_ok]
    . simp only [aR,bC,aO];rw [hq]
      by_cases h0:r.val v=0<;>simp [h0,fu]
  . exact af.fail
 case convert s d x =>
  refine af.bind af.opt fun p hp1=>?_
  split
  . rename_i us k k' r hus hud
    refine af.bind (af.mkWrap _ _) fun q hq=>af.pure (OpR.pure fun hp ρ a w hev hm=>?_)
    have h:a.eval x=.int k' (r.val v):=hev x (by simp [Op.operands]) _ hp1
    refine ⟨.int k (k.wrap (r.val v)),?_,?_⟩
    . simp [execOp,h,convert,run_underlying hus,run_underlying hud,Conv.intToInt]
    . simp only [aR,bC,aO];rw [hq]
  . exact af.fail
 case fieldAddr t x i =>
  refine af.bind af.opt fun p hp1=>af.bind af.opt fun f hf=>?_
  split
  . rename_i b off n hsz
    refine af.ite (fun _=>af.fail) (fun hn0=>af.pure (OpR.pure fun hp ρ a w hev hm=>?_))
    obtain ⟨n',hn',he⟩:=hev x (by simp [Op.operands]) _ hp1
    refine ⟨.pointer (some ⟨n',off+f.offset,none⟩),?_,n',hn',rfl⟩;unfold AA at hf;split at hf
    . rename_i fs hu
      simp only [execOp,Sem.run_bind,he,Instr.fieldAt,run_underlying hu,Result.andThen_ok,hf,Instr.sureAddr,Sem.run_pure,fieldPlace,eZ hsz,hn0,if_false,vX]
    . cases hf
  . exact af.fail
 case field t x i =>
  refine af.bind af.opt fun p hp1=>af.bind af.opt fun f hf=>?_
  split
  . rename_i cs
    refine af.bind af.opt fun z hz=>af.pure (OpR.pure fun hp ρ a w hev hm=>?_)
    obtain ⟨ys,he,hr⟩:=hev x (by simp [Op.operands]) _ hp1
    obtain ⟨q,h1,h2⟩:=yL (P:=P) (w:=w) hr hz;refine ⟨q,?_,h2⟩;unfold AA at hf;split at hf
    . rename_i fs hu
      simp only [execOp,Sem.run_bind,he,Instr.field,run_underlying hu,Result.andThen_ok,hf,asAgg,Sem.run_pure,h1]
    . cases hf
  . exact af.fail
 case indexAddr t x i =>
  refine af.bind af.opt fun p hp1=>af.bind af.opt fun j hj=>?_
  split
  . rename_i len e b off k z hu
    refine af.bind af.opt fun n hsz=>af.ite (fun hb=>af.pure (OpR.pure fun hp ρ a w hev hm=>?_)) (fun _=>af.fail)
    obtain ⟨n',hn',he⟩:=hev x (by simp [Op.operands]) _ hp1
    have hi:a.eval i=.int k z:=hev i (by simp [Op.operands]) _ hj
    refine ⟨.pointer (some ⟨n',off+z.toNat*n,none⟩),?_,n',hn',rfl⟩;simp [execOp,he,hi,Instr.indexAt,asIntOf,run_underlying hu,Instr.sureAddr,eZ hsz,hb.1,hb.2,vX]
  . rename_i e b off len cap k z hu
    refine af.bind af.opt fun n hsz=>af.ite (fun hb=>af.pure (OpR.pure fun hp ρ a w hev hm=>?_)) (fun _=>af.fail)
    obtain ⟨n',hn',he⟩:=hev x (by simp [Op.operands]) _ hp1
    have hi:a.eval i=.int k z:=hev i (by simp [Op.operands]) _ hj
    refine ⟨.pointer (some ⟨n',off+z.toNat*n,none⟩),?_,n',hn',rfl⟩;simp [execOp,he,hi,Instr.indexAt,asIntOf,run_underlying hu,Instr.sureAddr,eZ hsz,hb.1,hb.2,vX]
  . exact af.fail
 case index t x i =>
  refine af.bind af.opt fun p hp1=>af.bind af.opt fun j hj=>?_
  split
  . rename_i len e cs k z hu
    refine af.bind af.opt fun n hsz=>af.ite (fun hb=>af.bind af.opt fun q hq=>af.pure (OpR.pure fun hp ρ a w hev hm=>?_)) (fun _=>af.fail)
    obtain ⟨ys,he,hr⟩:=hev x (by simp [Op.operands]) _ hp1
    have hi:a.eval i=.int k z:=hev i (by simp [Op.operands]) _ hj
    obtain ⟨y,h1,h2⟩:=yL (P:=P) (w:=w) hr hq;refine ⟨y,?_,h2⟩;simp [execOp,he,hi,Instr.index,asIntOf,run_underlying hu,eZ hsz,hb.1,hb.2,h1]
  . exact af.fail
 case extract x i =>
  refine af.bind af.opt fun p hp1=>?_
  split
  . rename_i xs
    refine af.bind af.opt fun q hq=>af.pure (OpR.pure fun hp ρ a w hev hm=>?_)
    obtain ⟨ys,he,hr⟩:=hev x (by simp [Op.operands]) _ hp1
    obtain ⟨y,h1,h2⟩:=hr.get hq;refine ⟨y,?_,h2⟩;simp [execOp,he,Instr.extract,h1]
  . exact af.fail
 case buildSlice t len parts =>
  split
  . rename_i e hu
    refine af.bind af.opt fun n hsz=>af.bind af.opt fun z hz=>af.bind af.opt fun ps hps=>af.ite (fun _=>af.fail) (fun hc=>af.bind af.opt fun cs hf=>af.pure fun hp ρ a w hev hi hn hlt hfr hm=>?_)
    simp only [not_or,Decidable.not_not] at hc;obtain ⟨hc1,hc2,hc3⟩:=hc;obtain ⟨zv,hzv,hr⟩:=mM hz v ρ w;have hzl:z.length=zv.cells.size:=by have:=hr.length;rw [Array.length_toList (xs:=zv.cells)] at this;exact this
    have hn0:0<n:=by
     rcases Nat.eq_zero_or_pos n with h|h
     . subst h;simp at hc2
     . exact h
    have hparts:bJ (uz v ρ) ps ((parts.map fun p=>(p.1,a.eval p.2)).toList):=by
     rw [Array.toList_map];exact lV hps fun x hx=>hev x (by simpa [Op.operands] using hx)
    have hbase:∀ l:List Nat,bJ (aO v ρ) (l.map fun i=>z.getD (i%z.length) .top) (l.map fun i=>zv.cells[i%zv.cells.size]!):=by
     intro l
     induction l with
     | nil=>exact .nil
     | cons i l ih =>
      refine .cons ?_ ih;have hlt:i%z.length<z.length:=Nat.mod_lt _ (by omega)
      obtain ⟨y,h1,h2⟩:=hr.get (List.getElem?_eq_getElem hlt);have e1:z.getD (i%z.length) .top=z[i%z.length]:=by simp [List.getD_eq_getElem?_getD,List.getElem?_eq_getElem hlt]
      have e2:zv.cells[i%zv.cells.size]! = y:=by
       rw [<-hzl];rw [Array.getElem!_eq_getD,Array.getD_eq_getD_getElem?];rw [Array.getElem?_toList] at h1;rw [h1];rfl
      show aO v ρ (z.getD (i%z.length) .top) (zv.cells[i%zv.cells.size]!);rw [e1,e2];exact h2
    obtain ⟨ys,h1,h2⟩:=qi hparts (hbase (List.range (len*n))) hf;refine Does.value (x:=.slice (some ⟨w.heap.size,0,none⟩) len len) (w':={ w with heap:=w.heap.push (.cells ⟨ys⟩ e) }) ?_ ⟨_,Res.new hi hn h2 ⟨w.heap.size,by simp [fO],rfl⟩⟩
    unfold fZ at hsz;cases hie:P.info? e with
    | none=>rw [hie] at hsz;cases hsz
    | some ie =>
     rw [hie] at hsz;cases hsz;have hz0:ie.zero=some zv:=by
      unfold zeroValue at hzv;rw [Sem.run_bind,fC hie,Result.andThen_ok] at hzv;cases h0:ie.zero with
      | none=>rw [h0] at hzv;cases hzv
      | some z0=>rw [h0] at hzv;cases hzv;rfl
     have hfill:Instr.fill (fun i=>some (i*ie.size,ie.size)) ((Array.range (len*ie.size)).map (zv.cells[·%zv.cells.size]!)) (parts.map fun p=>(p.1,a.eval p.2)).toList=some ⟨ys⟩:=by
      rw [<-h1];congr 1;apply Array.ext'
      simp
     have:=run_buildSlice w t e len (parts.map fun p=>(p.1,a.eval p.2)) ⟨ys⟩ ie zv hu hie hz0 hc1 hc2 hfill
     simp only [execOp,Sem.run_bind];have e1:(parts.map fun (x:Nat × Operand)=>match x with|(i,x)=>(i,a.eval x))=parts.map fun p=>(p.1,a.eval p.2):=rfl
     rw [e1,this];rfl
  . exact af.fail
 case makeFunc fn first captured =>
  cases fn<;>simp only [zG]<;>try exact af.fail
  rename_i f
  refine af.ite (fun h0=>af.bind af.opt fun xs hxs=>af.bind af.opt fun bs hbs=>af.pure (OpR.pure fun hp ρ a w hev hm=>?_)) (fun _=>af.fail)
  have hr:=nS (v:=v) (ρ:=ρ) (a:=a) hxs fun x hx=>hev x (by simp [Op.operands];exact Or.inr (by simpa using hx))
  obtain ⟨ns,h1,h2⟩:=wU hbs hr;refine ⟨.func (.func f) #[] (captured.map a.eval),?_,ns,h1,?_⟩
  . have:first=#[]:=Array.eq_empty_of_size_eq_zero h0
    subst this;simp [execOp,Instr.makeFunc]
  . congr 1
    apply Array.ext'
    simpa using h2
 case call c =>
  refine af.bind af.opt fun xs hxs=>?_
  have hargs:∀ (ρ:Nat->Option Nat) (a:Act),(∀ x∈(Op.call c).operands.toList,∀ sv,ev x=some sv->aR v ρ sv (a.eval x))->bJ (aR v ρ) xs ((c.args.map a.eval).toList):=fun ρ a hev=>by
   rw [Array.toList_map];exact nS hxs fun x hx=>hev x (by simp only [Op.operands,Call.operands,Array.toList_append];exact List.mem_append_right _ hx)
  split
  . rename_i f hcal
    refine af.bind af.opt fun g hg=>?_
    split
    . rename_i fn caps
      refine af.imp (vT hs hc path fn _ mem nb) fun r hr hp ρ a w hev hi hn hlt hfr hm=>?_
      obtain ⟨ns,hns,he⟩:=hev f (by simp [Op.operands,Call.operands,hcal]) _ hg
      obtain ⟨ho,hcalls⟩:=hr hp ρ w ((c.args.map a.eval).toList++ns.map fun n=>Value.pointer (some ⟨n,0,none⟩)) ((hargs ρ a hev).append (BP hns)) hi hfr hm
      refine Does.call (f:=fn) (args:=⟨(c.args.map a.eval).toList++ns.map fun n=>Value.pointer (some ⟨n,0,none⟩)⟩) ?_ (hcalls.mono fun e w' ⟨x,h1,h2⟩=>⟨x,h1,ρ,h2 nm⟩)
      simp only [execOp,resolve,hcal,he,Deferred.ofValue,Sem.run_bind,Sem.run_pure,Result.andThen_ok,invoke];rw [xe ho]
      congr 2
      apply Array.ext'
      simp
    . exact af.fail
  . rename_i hcal
    split
    . rename_i k r l
      refine af.bind af.opt fun rs hrs=>af.bind (oJ (P:=P) k rs r) fun q hq=>af.pure (OpR.pure fun hp ρ a w hev hm=>?_)
      have hA:=hargs ρ a hev;generalize hB:(c.args.map a.eval)=B at hA;obtain ⟨B⟩:=B;cases hA with
      | cons h1 h2 =>
       rename_i y m
       simp only [aR,bC,aO] at h1;subst h1;have:=hq m w (nX hrs h2);refine ⟨.int k (q.val v),?_,rfl⟩;simp [execOp,resolve,hcal,invoke,builtin,hB,Builtin.min_,this]
    . exact af.fail
  . rename_i hcal
    split
    . rename_i k r l
      refine af.bind af.opt fun rs hrs=>af.bind (oW (P:=P) k rs r) fun q hq=>af.pure (OpR.pure fun hp ρ a w hev hm=>?_)
      have hA:=hargs ρ a hev;generalize hB:(c.args.map a.eval)=B at hA;obtain ⟨B⟩:=B;cases hA with
      | cons h1 h2 =>
       rename_i y m
       simp only [aR,bC,aO] at h1;subst h1;have:=hq m w (nX hrs h2);refine ⟨.int k (q.val v),?_,rfl⟩;simp [execOp,resolve,hcal,invoke,builtin,hB,Builtin.max_,this]
    . exact af.fail
  . rename_i hcal
    split
    . rename_i b off n cap e hu
      refine af.pure (OpR.pure fun hp ρ a w hev hm=>?_)
      have hA:=hargs ρ a hev;generalize hB:(c.args.map a.eval)=B at hA;obtain ⟨B⟩:=B;cases hA with
      | cons h1 h2 =>
       cases h2;obtain ⟨n',h3,rfl⟩:=h1;refine ⟨.int .i64 n,?_,rfl⟩;cases ht:c.argTypes[0]? with
       | none=>rw [ht] at hu;cases hu
       | some t =>
        rw [ht] at hu;have hu':P.underlying t=some (.slice e):=hu;simp [execOp,resolve,hcal,invoke,builtin,hB,Builtin.len_,ht,run_underlying hu',goInt]
    . exact af.fail
  . exact af.fail
 all_goals exact af.fail
end
