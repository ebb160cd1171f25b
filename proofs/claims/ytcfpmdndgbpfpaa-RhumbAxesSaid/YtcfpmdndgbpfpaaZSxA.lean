/- A symbolic run of Go code without dynamic loops: the definitions. -/
import Derived.Below
import Derived.Calls
import Derived.Orders
import Derived.KernelRfl
import Derived.Laws.Small
import Derived.Laws.Entries
import Derived.Laws.StructEq
import Derived.Laws.Tables
import Derived.Great.BuildSlice
set_option linter.unusedVariables false
set_option linter.unusedSimpArgs false
namespace Sx
open Go
inductive Rf where
 | c (z:Int)
 | n (i:Nat)
 deriving DecidableEq
instance (i:Nat):OfNat Rf i:=⟨.n i⟩
inductive Nd where
 | arg (i:Nat)
 | bin (op:BinOp) (k:IntKind) (a b:Rf)
 | wrap (k:IntKind) (a:Rf)
 | ite (c a b:Rf)
 | mn (a b:Rf)
 | mx (a b:Rf)
 | app (f i:Nat) (xs:List Rf)
 deriving DecidableEq
def ieq:Int->Int->Bool
 | .ofNat a,.ofNat b=>Nat.beq a b
 | .negSucc a,.negSucc b=>Nat.beq a b
 | _,_=>false
theorem vB {a b:Int} (h:ieq a b=true):a=b:=by
 cases a<;>cases b<;>simp [ieq] at h<;>rw [h]
theorem IB (a:Int):ieq a a=true:=by cases a<;>simp [ieq]
def Rf.eq:Rf->Rf->Bool
 | .c a,.c b=>ieq a b
 | .n a,.n b=>Nat.beq a b
 | _,_=>false
theorem Rf.eq_eq {a b:Rf} (h:a.eq b=true):a=b:=by
 cases a<;>cases b<;>simp [Rf.eq] at h
 . rw [vB h]
 . rw [h]
def uF:List Rf->List Rf->Bool
 | [],[]=>true
 | x::l,y::m=>Rf.eq x y&&uF l m
 | _,_=>false
theorem yc:∀ {a b:List Rf},uF a b=true->a=b
 | [],[],_=>rfl
 | [],_::_,h=>by simp [uF] at h
 | _::_,[],h=>by simp [uF] at h
 | x::l,y::m,h=>by
  simp only [uF,Bool.and_eq_true] at h;rw [Rf.eq_eq h.1,yc h.2]
def Fu:BinOp->Nat
 | .add=>0|.sub=>1|.mul=>2|.quo=>3|.rem=>4|.and=>5|.or=>6|.xor=>7|.shl=>8|.shr=>9|.andNot=>10
 | .eql=>11|.neq=>12|.lss=>13|.leq=>14|.gtr=>15|.geq=>16
def kNo:IntKind->Nat
 | .i8=>0|.i16=>1|.i32=>2|.i64=>3|.u8=>4|.u16=>5|.u32=>6|.u64=>7
theorem Ic {a b:BinOp} (h:Nat.beq (Fu a) (Fu b)=true):a=b:=by
 cases a<;>cases b<;>first|rfl|(simp [Fu] at h)
theorem vV {a b:IntKind} (h:Nat.beq (kNo a) (kNo b)=true):a=b:=by
 cases a<;>cases b<;>first|rfl|(simp [kNo] at h)
def Nd.eq:Nd->Nd->Bool
 | .arg i,.arg j=>Nat.beq i j
 | .bin op k a b,.bin op' k' a' b'=>Rf.eq a a'&&(Rf.eq b b'&&(Nat.beq (Fu op) (Fu op')&&Nat.beq (kNo k) (kNo k')))
 | .wrap k a,.wrap k' a'=>Rf.eq a a'&&Nat.beq (kNo k) (kNo k')
 | .ite c a b,.ite c' a' b'=>Rf.eq c c'&&(Rf.eq a a'&&Rf.eq b b')
 | .mn a b,.mn a' b'=>Rf.eq a a'&&Rf.eq b b'
 | .mx a b,.mx a' b'=>Rf.eq a a'&&Rf.eq b b'
 | .app f i xs,.app f' i' xs'=>Nat.beq i i'&&(Nat.beq f f'&&uF xs xs')
 | _,_=>false
theorem Nd.eq_eq {x y:Nd} (h:x.eq y=true):x=y:=by
 cases x<;>cases y<;>simp only [Nd.eq,Bool.and_eq_true,Bool.false_eq_true] at h
 . rw [Nat.eq_of_beq_eq_true h]
 . rw [Rf.eq_eq h.1,Rf.eq_eq h.2.1,Ic h.2.2.1,vV h.2.2.2]
 . rw [Rf.eq_eq h.1,vV h.2]
 . rw [Rf.eq_eq h.1,Rf.eq_eq h.2.1,Rf.eq_eq h.2.2]
 . rw [Rf.eq_eq h.1,Rf.eq_eq h.2]
 . rw [Rf.eq_eq h.1,Rf.eq_eq h.2]
 . rw [Nat.eq_of_beq_eq_true h.1,Nat.eq_of_beq_eq_true h.2.1,yc h.2.2]
def Rf.val (v:Nat->Int):Rf->Int
 | .c z=>z
 | .n i=>v i
def b2i (b:Bool):Int:=if b then 1 else 0
def bO (op:BinOp) (k:IntKind) (x y:Int):Int :=
 match op with
 | .add=>k.wrap (x+y)
 | .sub=>k.wrap (x-y)
 | .mul=>k.wrap (x*y)
 | .quo=>k.wrap (x.tdiv y)
 | .rem=>x.tmod y
 | .and=>k.wrap (BitVec.ofInt k.bits x &&& BitVec.ofInt k.bits y).toNat
 | .or=>k.wrap (BitVec.ofInt k.bits x ||| BitVec.ofInt k.bits y).toNat
 | .xor=>k.wrap (BitVec.ofInt k.bits x ^^^ BitVec.ofInt k.bits y).toNat
 | .andNot=>k.wrap (BitVec.ofInt k.bits x &&& ~~~ BitVec.ofInt k.bits y).toNat
 | .shl=>k.wrap (x*2^(min y.toNat k.bits))
 | .shr=>x.fdiv (2^(min y.toNat k.bits))
 | .eql=>b2i (x==y)
 | .neq=>b2i (x != y)
 | .lss=>b2i (x<y)
 | .leq=>b2i (x<=y)
 | .gtr=>b2i (x>y)
 | .geq=>b2i (x>=y)
structure Cx where
 sem:Nat->List Int->List Int
 pre:Nat->List Int->Prop
 args:List Int
def Nd.val (X:Cx) (v:Nat->Int):Nd->Int
 | .arg i=>X.args.getD i 0
 | .bin op k a b=>bO op k (a.val v) (b.val v)
 | .wrap k a=>k.wrap (a.val v)
 | .ite c a b=>if c.val v≠0 then a.val v else b.val v
 | .mn a b=>if b.val v<a.val v then b.val v else a.val v
 | .mx a b=>if b.val v>a.val v then b.val v else a.val v
 | .app f i xs=>(X.sem f (xs.map (Rf.val v))).getD i 0
abbrev Path:=List (Rf × Bool)
def PT (v:Nat->Int) (p:Path):Prop:=∀ x∈p,decide (x.1.val v≠0)=x.2
inductive Vk where
 | ne0 (a:Rf)
 | ge0 (a:Rf)
 | pre (f:Nat) (xs:List Rf)
def Vk.holds (X:Cx) (v:Nat->Int):Vk->Prop
 | .ne0 a=>a.val v≠0
 | .ge0 a=>0<=a.val v
 | .pre f xs=>X.pre f (xs.map (Rf.val v))
structure Vc where
 path:Path
 k:Vk
def Vc.holds (X:Cx) (v:Nat->Int) (c:Vc):Prop:=PT v c.path->c.k.holds X v
structure Bd where
 nodes:List Nd
 vcs:List Vc
def Bd.le (b b':Bd):Prop:=(∃ l,b'.nodes=l++b.nodes)/\∃ l,b'.vcs=l++b.vcs
theorem Bd.le_refl (b:Bd):b.le b:=⟨⟨[],rfl⟩,⟨[],rfl⟩⟩
theorem Bd.le_trans {a b c:Bd} (h:a.le b) (k:b.le c):a.le c:=by
 obtain ⟨⟨l,hl⟩,⟨m,hm⟩⟩:=h;obtain ⟨⟨l',hl'⟩,⟨m',hm'⟩⟩:=k;exact ⟨⟨l'++l,by rw [hl',hl,List.append_assoc]⟩,⟨m'++m,by rw [hm',hm,List.append_assoc]⟩⟩
structure M (α:Type) where
 run:Bd->Option (α × Bd)
 ext:∀ b a b',run b=some (a,b')->b.le b'
def M.pure {α:Type} (a:α):M α:=⟨fun b=>some (a,b),fun b a b' h=>by cases h;exact b.le_refl⟩
def M.fail {α:Type}:M α:=⟨fun _=>none,fun b a b' h=>by cases h⟩
def M.bind {α β:Type} (m:M α) (f:α->M β):M β :=
 ⟨fun b=>match m.run b with
  | none=>none
  | some (a,b')=>(f a).run b',fun b a b' h=>by
   cases hm:m.run b with
   | none=>rw [hm] at h;cases h
   | some p=>obtain ⟨x,b1⟩:=p;rw [hm] at h;exact Bd.le_trans (m.ext _ _ _ hm) ((f x).ext _ _ _ h)⟩
instance:Monad M where
 pure:=M.pure
 bind:=M.bind
def aU {α:Type}:Option α->M α
 | none=>M.fail
 | some a=>M.pure a
def vP (x:Nd):List Nd->Option Nat
 | []=>none
 | y::l=>if y.eq x then some l.length else vP x l
def DX (l:List Nd) (i:Nat):Option Nd:=if Nat.blt i l.length then l[l.length-1-i]? else none
def cO:BinOp->Bool
 | .eql|.neq|.lss|.leq|.gtr|.geq=>true
 | _=>false
def isB (l:List Nd):Nat->Rf->Bool
 | _,.c z=>ieq z 0 || ieq z 1
 | 0,_=>false
 | n+1,.n i=>match DX l i with
  | some (.bin op _ _ _)=>cO op
  | some (.ite _ a b)=>isB l n a&&isB l n b
  | _=>false
def uK (l:List Nd):Rf->Option Rf
 | .n i=>match DX l i with
  | some (.ite d (.c 0) (.c 1))=>some d
  | _=>none
 | _=>none
def mk (x:Nd):M Rf :=
 ⟨fun b=>match vP x b.nodes with
  | some i=>some (.n i,b)
  | none=>some (.n b.nodes.length,⟨x::b.nodes,b.vcs⟩),fun b a b' h=>by
   split at h<;>cases h
   . exact b.le_refl
   . exact ⟨⟨[x],rfl⟩,⟨[],rfl⟩⟩⟩
def vc (p:Path) (k:Vk):M Unit:=⟨fun b=>some ((),⟨b.nodes,⟨p,k⟩::b.vcs⟩),fun b a b' h=>by cases h;exact ⟨⟨[],rfl⟩,⟨[⟨p,k⟩],rfl⟩⟩⟩
def vcNe0 (p:Path):Rf->M Unit
 | .c z=>if z=0 then M.fail else M.pure ()
 | a=>vc p (.ne0 a)
def vcGe0 (p:Path):Rf->M Unit
 | .c z=>if z<0 then M.fail else M.pure ()
 | a=>vc p (.ge0 a)
def mkBin (op:BinOp) (k:IntKind):Rf->Rf->M Rf
 | .c x,.c y=>M.pure (.c (bO op k x y))
 | a,b=>if a.eq b then (match op with
  | .eql|.leq|.geq=>M.pure (.c 1)
  | .neq|.lss|.gtr=>M.pure (.c 0)
  | _=>mk (.bin op k a b)) else mk (.bin op k a b)
def mkWrap (k:IntKind):Rf->M Rf
 | .c x=>M.pure (.c (k.wrap x))
 | a=>mk (.wrap k a)
def mkIte:Rf->Rf->Rf->M Rf
 | .c z,a,b=>M.pure (if z≠0 then a else b)
 | c,a,b=>if a.eq b then M.pure a else match a,b with
  | .c 1,.c 0=>⟨fun s=>if isB s.nodes 40 c then some (c,s) else (mk (.ite c (.c 1) (.c 0))).run s,fun s x s' h=>by
   split at h
   . cases h;exact s.le_refl
   . exact M.ext _ _ _ _ h⟩
  | .c 0,.c 1=>⟨fun s=>match uK s.nodes c with
   | some d=>if isB s.nodes 40 d then some (d,s) else (mk (.ite c (.c 0) (.c 1))).run s
   | none=>(mk (.ite c (.c 0) (.c 1))).run s,fun s x s' h=>by
   split at h
   . split at h
     . cases h;exact s.le_refl
     . exact M.ext _ _ _ _ h
   . exact M.ext _ _ _ _ h⟩
  | _,_=>mk (.ite c a b)
def mkMn:Rf->Rf->M Rf
 | .c x,.c y=>M.pure (.c (if y<x then y else x))
 | a,b=>if a.eq b then M.pure a else mk (.mn a b)
def mkMx:Rf->Rf->M Rf
 | .c x,.c y=>M.pure (.c (if y>x then y else x))
 | a,b=>if a.eq b then M.pure a else mk (.mx a b)
inductive SC where
 | top
 | int (k:IntKind) (r:Rf)
 | bool (r:Rf)
 | ptr (b o:Nat)
 | nil
 | sl (b o len cap:Nat)
 | fn (f:Nat) (caps:List Nat)
 deriving DecidableEq
inductive SP where
 | c (x:SC)
 | agg (xs:List SC)
 deriving DecidableEq
inductive SV where
 | top
 | p (x:SP)
 | tup (xs:List SP)
 deriving DecidableEq
structure Sl where
 cond:Path
 v:SV
 deriving DecidableEq
structure Bk where
 b:Nat
 t:Nat
 cs:List SC
 deriving DecidableEq
structure St where
 slots:List Sl
 mem:List Bk
 nb:Nat
def aC (b:Nat):List Bk->Option Bk
 | []=>none
 | x::l=>if x.b=b then some x else aC b l
def rY (x:Bk):List Bk->List Bk
 | []=>[x]
 | y::l=>if y.b=x.b then x::l else y::rY x l
def jS (m:List Bk):List Bk->List Bk
 | []=>m
 | x::l=>rY x (jS m l)
def Ap:Value->Option SC
 | .int k n=>some (.int k (.c n))
 | .bool b=>some (.bool (.c (b2i b)))
 | .pointer none=>some .nil
 | _=>none
def tT:List Value->Option (List SC)
 | []=>some []
 | x::l=>match Ap x,tT l with
  | some y,some m=>some (y::m)
  | _,_=>none
def OG:Value->Option SV
 | .agg cs=>(tT cs.toList).map fun l=>.p (.agg l)
 | x=>(Ap x).map fun y=>.p (.c y)
def SP.cells:SP->List SC
 | .c x=>[x]
 | .agg xs=>xs
def fG (P:Program) (t:TypeId):Option Bool :=
 match P.underlying t with
 | some (.struct _)|some (.array _ _)=>some true
 | some _=>some false
 | none=>none
def dV (P:Program) (t:TypeId):Option Nat:=(P.info? t).map (·.size)
def qz (P:Program) (t:TypeId):Option (List SC) :=
 match P.info? t with
 | some i=>match i.zero with
  | some z=>tT z.cells.toList
  | none=>none
 | none=>none
def wH (P:Program) (t:TypeId) (i:Nat):Option Field :=
 match P.underlying t with
 | some (.struct fs)=>fs[i]?
 | _=>none
def partT (P:Program) (t:TypeId) (cs:List SC) (off:Nat):Option SP :=
 match fG P t with
 | some true=>match dV P t with
  | some n=>if off+n<=cs.length then some (.agg ((cs.drop off).take n)) else none
  | none=>none
 | some false=>(cs[off]?).map .c
 | none=>none
def over (cs:List SC) (off:Nat) (xs:List SC):List SC:=cs.take off++xs++cs.drop (off+xs.length)
def gm (place:Nat->Option (Nat × Nat)):List SC->List (Nat × SP)->Option (List SC)
 | cs,[]=>some cs
 | cs,(i,x)::rest=>match place i with
  | none=>none
  | some (off,n)=>if x.cells.length=n/\off+n<=cs.length then gm place (over cs off x.cells) rest else none
def fK (P:Program):Nat->TypeId->Option (List Bool)
 | 0,_=>none
 | d+1,t=>match P.underlying t with
  | some (.int _)=>some [true]
  | some .bool=>some [false]
  | some (.struct fs) =>
   if P.stoodInHeld t then none else plainFs (fK P d) (dV P) 0 fs.toList
  | _=>none
where
 plainFs (rec:TypeId->Option (List Bool)) (size:TypeId->Option Nat):Nat->List Field->Option (List Bool)
  | off,[]=>some []
  | off, f :: fs => if f.name = "_" ∨ f.offset ≠ off then none else match rec f.type with
   | some l=>if size f.type=some l.length then (plainFs rec size (off+l.length) fs).map (l ++ ·) else none
   | none=>none
def SC.isInt:SC->Bool
 | .int _ _=>true
 | _=>false
def fP (k:Rf):List SC->List SC->M Rf
 | [],[]=>M.pure k
 | .int i a::xs,.int j b::ys=>if i=j then M.bind (mkBin .eql i a b) fun e=>M.bind (fP k xs ys) fun r=>mkIte e r (.c 0) else M.fail
 | .bool a::xs,.bool b::ys=>M.bind (mkIte a (.c 1) (.c 0)) fun a'=>M.bind (mkIte b (.c 1) (.c 0)) fun b'=>M.bind (mkBin .eql .i64 a' b') fun e=>M.bind (fP k xs ys) fun r=>mkIte e r (.c 0)
 | _,_=>M.fail
abbrev Sh:=List (Option IntKind)
structure Spec where
 fn:Nat
 id:Nat
 args:List (Bool × Sh)
 res:List (Bool × Sh)
def iG:Sh->List SC->Option (List Rf)
 | [],[]=>some []
 | some k::h,.int j r::l=>if k=j then (iG h l).map (r :: ·) else none
 | none::h,.bool r::l=>(iG h l).map (r :: ·)
 | _,_=>none
def Aq:Bool × Sh->SP->Option (List Rf)
 | (true,h),.agg xs=>iG h xs
 | (false,h),.c x=>iG h [x]
 | _,_=>none
def lN:List (Bool × Sh)->List SV->Option (List Rf)
 | [],[]=>some []
 | h::hs,.p x::xs=>match Aq h x,lN hs xs with
  | some a,some b=>some (a++b)
  | _,_=>none
 | _,_=>none
def Hm (f:Nat) (xs:List Rf):Nat->Sh->M (List SC)
 | _,[]=>M.pure []
 | i,k::h=>M.bind (mk (.app f i xs)) fun r=>M.bind (Hm f xs (i+1) h) fun l=>M.pure ((match k with|some k=>SC.int k r|none=>SC.bool r)::l)
def Ab (f:Nat) (xs:List Rf):Nat->List (Bool × Sh)->M (List SP)
 | _,[]=>M.pure []
 | i,(g,h)::hs=>M.bind (Hm f xs i h) fun cs=>M.bind (Ab f xs (i+h.length) hs) fun l =>
  if g then M.pure (SP.agg cs::l) else match cs with
   | [x]=>M.pure (SP.c x::l)
   | _=>M.fail
def lw (f:Nat):List Spec->Option Spec
 | []=>none
 | s::l=>if s.fn=f then some s else lw f l
abbrev fO:=Nat->List SV->Path->List Bk->Nat->M (SV × List Bk)
def SC.blocks:SC->List Nat
 | .ptr b _=>[b]
 | .sl b _ _ _=>[b]
 | .fn _ caps=>caps
 | _=>[]
def bI:List SC->List Nat
 | []=>[]
 | x::l=>x.blocks++bI l
def SV.blocks:SV->List Nat
 | .top=>[]
 | .p x=>bI x.cells
 | .tup xs=>spsBlocks xs
where
 spsBlocks:List SP->List Nat
  | []=>[]
  | x::l=>bI x.cells++spsBlocks l
def below (n:Nat):List Nat->Bool
 | []=>true
 | x::l=>decide (x<n)&&below n l
def nS:List SV->Option (List Rf)
 | []=>some []
 | .p (.c (.int _ r))::l=>(nS l).map (r :: ·)
 | _=>none
def Bo:Rf->List Rf->M Rf
 | a,[]=>M.pure a
 | a,b::l=>M.bind (mkMn a b) fun c=>Bo c l
def AR:Rf->List Rf->M Rf
 | a,[]=>M.pure a
 | a,b::l=>M.bind (mkMx a b) fun c=>AR c l
def iF:BinOp->Bool
 | .shl|.shr=>true
 | _=>false
def JO:Option TypeDesc->Bool
 | some .bool=>true
 | _=>false
def ww (P:Program) (path:Path) (op:BinOp) (t:TypeId):SV->SV->M SV
 | .p (.c (.int k a)),.p (.c (.int j b)) =>
  if iF op then M.bind (vcGe0 path b) fun _=>M.bind (mkBin op k a b) fun r=>M.pure (.p (.c (.int k r)))
  else if k=j then
   if cO op then M.bind (mkBin op k a b) fun r=>M.pure (.p (.c (.bool r)))
   else if op=.quo∨op=.rem then M.bind (vcNe0 path b) fun _=>M.bind (mkBin op k a b) fun r=>M.pure (.p (.c (.int k r)))
   else M.bind (mkBin op k a b) fun r=>M.pure (.p (.c (.int k r)))
  else M.fail
 | .p (.agg xs),.p (.agg ys) =>
  if fK P 10000 t=some (xs.map SC.isInt)/\P.eqGuardType P.depth t=false/\fG P t=some true then
   match op with
   | .eql=>M.bind (fP (.c 1) xs ys) fun r=>M.pure (.p (.c (.bool r)))
   | .neq=>M.bind (fP (.c 1) xs ys) fun r=>M.bind (mkIte r (.c 0) (.c 1)) fun r=>M.pure (.p (.c (.bool r)))
   | _=>M.fail
  else M.fail
 | .p (.c (.bool a)),.p (.c (.bool b)) =>
  if JO (P.underlying t) then
   match op with
   | .eql=>M.bind (fP (.c 1) [.bool a] [.bool b]) fun r=>M.pure (.p (.c (.bool r)))
   | .neq=>M.bind (fP (.c 1) [.bool a] [.bool b]) fun r=>M.bind (mkIte r (.c 0) (.c 1)) fun r=>M.pure (.p (.c (.bool r)))
   | _=>M.fail
  else M.fail
 | _,_=>M.fail
end Sx
namespace Sx
open Go
def nK (ev:Operand->Option SV):List Operand->Option (List SV)
 | []=>some []
 | x::l=>match ev x,nK ev l with
  | some y,some m=>some (y::m)
  | _,_=>none
def partsOf (ev:Operand->Option SV):List (Nat × Operand)->Option (List (Nat × SP))
 | []=>some []
 | (i,x)::l=>match ev x,partsOf ev l with
  | some (.p y),some m=>some ((i,y)::m)
  | _,_=>none
def qg:List SV->Option (List Nat)
 | []=>some []
 | .p (.c (.ptr b 0))::l=>(qg l).map (b :: ·)
 | _=>none
def qw (specs:List Spec) (rec:fO) (path:Path) (f:Nat) (args:List SV) (mem:List Bk) (nb:Nat):M (SV × List Bk) :=
 match lw f specs with
 | some s=>match lN s.args args with
  | none=>M.fail
  | some xs=>M.bind (vc path (.pre s.id xs)) fun _=>M.bind (Ab s.id xs 0 s.res) fun ps=>match ps with
   | [x]=>M.pure (.p x,mem)
   | l=>M.pure (.tup l,mem)
 | none=>rec f args path mem nb
def lW (P:Program) (t b o:Nat) (mem:List Bk):Option SP :=
 match aC b mem with
 | some k=>partT P t k.cs o
 | none=>none
def um (P:Program) (t b o:Nat) (x:SP) (mem:List Bk):Option Bk :=
 match aC b mem with
 | some k=>if dV P t=some x.cells.length/\o+x.cells.length<=k.cs.length then some ⟨b,k.t,over k.cs o x.cells⟩ else none
 | none=>none
def wG (P:Program) (specs:List Spec) (rec:fO) (path:Path) (o:Oper) (ev:Operand->Option SV) (mem:List Bk) (nm nb:Nat):M (SV × List Bk) :=
 match o.op with
 | .move x|.assign x=>M.bind (aU (ev x)) fun y=>M.pure (y,[])
 | .alloc t=>M.bind (aU (qz P t)) fun cs=>M.pure (.p (.c (.ptr nm 0)),[⟨nm,t,cs⟩])
 | .box t x=>M.bind (aU (ev x)) fun y=>match y with
  | .p y=>M.pure (.p (.c (.ptr nm 0)),[⟨nm,t,y.cells⟩])
  | _=>M.fail
 | .build t parts=>M.bind (aU (qz P t)) fun cs=>M.bind (aU (partsOf ev parts.toList)) fun ps =>
  match P.underlying t with
  | some (.struct fs)=>M.bind (aU (fs.toList.mapM fun f=>(P.info? f.type).map fun i=>(f.offset,i.size))) fun places =>
   M.bind (aU (gm (fun i=>places.toArray[i]?) cs ps)) fun cs=>M.pure (.p (.agg cs),[])
  | some (.array _ e)=>M.bind (aU (dV P e)) fun n=>M.bind (aU (gm (fun i=>some (i*n,n)) cs ps)) fun cs=>M.pure (.p (.agg cs),[])
  | _=>M.fail
 | .load t a=>M.bind (aU (ev a)) fun y=>match y with
  | .p (.c (.ptr b off))=>M.bind (aU (lW P t b off mem)) fun x=>M.pure (.p x,[])
  | _=>M.fail
 | .store t a x=>M.bind (aU (ev a)) fun y=>M.bind (aU (ev x)) fun z=>match y,z with
  | .p (.c (.ptr b off)),.p z=>M.bind (aU (um P t b off z mem)) fun k=>M.pure (.tup [],[k])
  | _,_=>M.fail
 | .nilCheck x=>M.bind (aU (ev x)) fun y=>match y with
  | .p (.c (.ptr b off))=>M.pure (.p (.c (.ptr b off)),[])
  | _=>M.fail
 | .binOp op t x y _=>M.bind (aU (ev x)) fun a=>M.bind (aU (ev y)) fun b=>M.bind (ww P path op t a b) fun r=>M.pure (r,[])
 | .unOp op _ x=>M.bind (aU (ev x)) fun a=>match op,a with
  | .neg,.p (.c (.int k r))=>M.bind (mkBin .sub k (.c 0) r) fun r=>M.pure (.p (.c (.int k r)),[])
  | .not,.p (.c (.bool r))=>M.bind (mkIte r (.c 0) (.c 1)) fun r=>M.pure (.p (.c (.bool r)),[])
  | _,_=>M.fail
 | .convert s d x=>M.bind (aU (ev x)) fun a=>match P.underlying s,P.underlying d,a with
  | some _,some (.int k),.p (.c (.int _ r))=>M.bind (mkWrap k r) fun r=>M.pure (.p (.c (.int k r)),[])
  | _,_,_=>M.fail
 | .fieldAddr t x i=>M.bind (aU (ev x)) fun a=>M.bind (aU (wH P t i)) fun f=>match a,dV P f.type with
  | .p (.c (.ptr b off)),some n=>if n=0 then M.fail else M.pure (.p (.c (.ptr b (off+f.offset))),[])
  | _,_=>M.fail
 | .field t x i=>M.bind (aU (ev x)) fun a=>M.bind (aU (wH P t i)) fun f=>match a with
  | .p (.agg cs)=>M.bind (aU (partT P f.type cs f.offset)) fun x=>M.pure (.p x,[])
  | _=>M.fail
 | .indexAddr t x i=>M.bind (aU (ev x)) fun a=>M.bind (aU (ev i)) fun j=>match P.underlying t,a,j with
  | some (.array len e),.p (.c (.ptr b off)),.p (.c (.int _ (.c z)))=>M.bind (aU (dV P e)) fun n =>
   if 0<=z/\z<len then M.pure (.p (.c (.ptr b (off+z.toNat*n))),[]) else M.fail
  | some (.slice e),.p (.c (.sl b off len _)),.p (.c (.int _ (.c z)))=>M.bind (aU (dV P e)) fun n =>
   if 0<=z/\z<len then M.pure (.p (.c (.ptr b (off+z.toNat*n))),[]) else M.fail
  | _,_,_=>M.fail
 | .index t x i=>M.bind (aU (ev x)) fun a=>M.bind (aU (ev i)) fun j=>match P.underlying t,a,j with
  | some (.array len e),.p (.agg cs),.p (.c (.int _ (.c z)))=>M.bind (aU (dV P e)) fun n =>
   if 0<=z/\z<len then M.bind (aU (partT P e cs (z.toNat*n))) fun x=>M.pure (.p x,[]) else M.fail
  | _,_,_=>M.fail
 | .extract x i=>M.bind (aU (ev x)) fun a=>match a with
  | .tup xs=>M.bind (aU (xs[i]?)) fun x=>M.pure (.p x,[])
  | _=>M.fail
 | .buildSlice t len parts=>match P.underlying t with
  | some (.slice e)=>M.bind (aU (dV P e)) fun n=>M.bind (aU (qz P e)) fun z=>M.bind (aU (partsOf ev parts.toList)) fun ps =>
   if len*n>2^24∨len*n=0∨z.length≠n then M.fail else
   M.bind (aU (gm (fun i=>some (i*n,n)) ((List.range (len*n)).map fun i=>z.getD (i%z.length) .top) ps)) fun cs=>M.pure (.p (.c (.sl nm 0 len len)),[⟨nm,e,cs⟩])
  | _=>M.fail
 | .makeFunc (.func f) first captured=>if first.size=0 then M.bind (aU (nK ev captured.toList)) fun xs=>M.bind (aU (qg xs)) fun bs=>M.pure (.p (.c (.fn f bs)),[]) else M.fail
 | .call c=>M.bind (aU (nK ev c.args.toList)) fun xs=>match c.callee with
  | .value f=>M.bind (aU (ev f)) fun g=>match g with
   | .p (.c (.fn f caps))=>qw specs rec path f (xs++caps.map fun b=>.p (.c (.ptr b 0))) mem nb
   | _=>M.fail
  | .builtin .min=>match xs with
   | .p (.c (.int k r))::l=>M.bind (aU (nS l)) fun rs=>M.bind (Bo r rs) fun r=>M.pure (.p (.c (.int k r)),[])
   | _=>M.fail
  | .builtin .max=>match xs with
   | .p (.c (.int k r))::l=>M.bind (aU (nS l)) fun rs=>M.bind (AR r rs) fun r=>M.pure (.p (.c (.int k r)),[])
   | _=>M.fail
  | .builtin .len=>match xs,(c.argTypes[0]?).bind P.underlying with
   | [.p (.c (.sl _ _ n _))],some (.slice _)=>M.pure (.p (.c (.int .i64 (.c n))),[])
   | _,_=>M.fail
  | _=>M.fail
 | _=>M.fail
structure Fp where
 rs:List Nat
 ws:List Nat
 rb:List Nat
 wb:List Nat
def tmpsOf:List Operand->List Nat
 | []=>[]
 | .tmp t::l=>t::tmpsOf l
 | _::l=>tmpsOf l
def bf (s:List Sl) (t:Nat):Sl:=s.getD t ⟨[],.top⟩
def eX (s:List Sl) (A:Path):Operand->Option SV
 | .tmp t=>let x:=bf s t
  if (x.cond.all fun c=>A.contains c) then some x.v else none
 | .const v=>OG v
 | .global _=>none
 | .func f=>some (.p (.c (.fn f [])))
def guardOf (ops:Array Oper) (s:List Sl) (o:Oper):Option (Path × Bool) :=
 match o.guard with
 | none=>some ([],true)
 | some (j,want)=>match (ops[j]?).bind (·.dst) with
  | none=>none
  | some d=>match bf s d with
   | ⟨c,.p (.c (.bool (.c z)))⟩=>if decide (z≠0)=want then some (c,true) else some ((.c z,want)::c,false)
   | ⟨c,.p (.c (.bool r))⟩=>some ((r,want)::c,true)
   | _=>none
def touched (o:Oper) (ev:Operand->Option SV):List Nat :=
 match o.op with
 | .load _ a|.store _ a _=>match ev a with
  | some v=>v.blocks
  | none=>[]
 | .call c=>(match nK ev c.args.toList with
  | some xs=>SV.blocks.spsBlocks (xs.filterMap fun x=>match x with|.p y=>some y|_=>none)
  | none=>[])++(match c.callee with
  | .value f=>match ev f with
   | some v=>v.blocks
   | none=>[]
  | _=>[])
 | _=>[]
def cK (bs:List Nat):List Bk->List Bk
 | []=>[]
 | x::l=>if bs.contains x.b then x::cK bs l else cK bs l
def Az:Op->Option (Operand × Operand × Operand)
 | .pick c a b=>some (c,a,b)
 | _=>none
def pU (s:List Sl) (A:Path) (c a b:Operand):M SV :=
 M.bind (aU (eX s A c)) fun x=>match x with
 | .p (.c (.bool (.c z)))=>if z≠0 then aU (eX s ((.c z,true)::A) a) else aU (eX s ((.c z,false)::A) b)
 | .p (.c (.bool r))=>M.bind (aU (eX s ((r,true)::A) a)) fun y=>M.bind (aU (eX s ((r,false)::A) b)) fun z =>
  match y,z with
  | .p (.c (.bool y)),.p (.c (.bool z))=>M.bind (mkIte r y z) fun u=>M.pure (.p (.c (.bool u)))
  | .p (.c (.int k y)),.p (.c (.int j z))=>if k=j then M.bind (mkIte r y z) fun u=>M.pure (.p (.c (.int k u))) else M.fail
  | _,_=>M.fail
 | _=>M.fail
def EE:Op->Bool
 | .alloc _|.box ..|.store ..|.buildSlice ..=>true
 | _=>false
def setSlot (s:List Sl) (d:Option Nat) (x:Sl):List Sl :=
 match d with
 | some d=>s.set d x
 | none=>s
def vG (P:Program) (specs:List Spec) (rec:fO) (path:Path) (ops:Array Oper) (base:Nat) (i:Nat) (o:Oper) (s:St):M (St × Fp) :=
 M.bind (aU (guardOf ops s.slots o)) fun (A,live) =>
 let rs:=tmpsOf o.op.operands.toList++(match o.guard with
  | some (j,_)=>((ops[j]?).bind (·.dst)).toList
  | none=>[])
 let put (v:SV):List Sl:=setSlot s.slots o.dst ⟨A,v⟩
 let ws:=o.dst.toList
 if live then
  match Az o.op with
  | some (c,a,b)=>M.bind (pU s.slots A c a b) fun v=>M.pure (⟨put v,s.mem,s.nb⟩,⟨rs,ws,[],[]⟩)
  | none =>
   if EE o.op && !A.isEmpty then M.fail else
   let ev:=eX s.slots A
   let tb:=touched o ev
   let sub:=cK tb s.mem
   M.bind (wG P specs rec (path++A) o ev sub (base+i) (base+ops.size)) fun (v,m) =>
   if A.isEmpty then M.pure (⟨put v,jS s.mem m,s.nb⟩,⟨rs,ws,tb,m.map (·.b)⟩)
   else if m=sub∨m=[] then M.pure (⟨put v,s.mem,s.nb⟩,⟨rs,ws,tb,m.map (·.b)⟩) else M.fail
 else M.pure (⟨put .top,s.mem,s.nb⟩,⟨rs,ws,[],[]⟩)
def wM (P:Program) (specs:List Spec) (rec:fO) (path:Path) (ops:Array Oper) (base:Nat):Nat->List Oper->St->M (St × List Fp)
 | _,[],s=>M.pure (s,[])
 | i,o::l,s=>M.bind (vG P specs rec path ops base i o s) fun (s1,f)=>M.bind (wM P specs rec path ops base (i+1) l s1) fun (s2,fs)=>M.pure (s2,f::fs)
def meets (xs ys:List Nat):Bool:=xs.any fun x=>ys.contains x
def clash (a b:Fp):Bool:=meets a.ws b.rs || meets a.ws b.ws || meets a.rs b.ws || meets a.wb b.rb || meets a.wb b.wb || meets a.rb b.wb
def qM:List Oper->List Nat->List Nat
 | [],acc=>acc
 | o::l,acc=>qM l (acc++[o.after.toList.foldl (fun m e=>if Region.binds .any e then m ||| 2^e.on ||| acc.getD e.on 0 else m) 0])
def wD (an:List Nat) (fs:List Fp):Bool :=
 let l:=fs.zipIdx
 l.all fun (f,j)=>l.all fun (g,i)=>if i<j/\clash g f=true then (an.getD j 0).testBit i else true
def jU (ops:Array Oper):Bool :=
 ops.toList.zipIdx.all fun (o,i)=>o.after.toList.all fun e=>!Region.binds .any e || decide (e.on<i)
def kK (P:Program) (specs:List Spec) (rec:fO) (path:Path) (ops:Array Oper) (draw:Bool) (s:St):M St :=
 M.bind (wM P specs rec path ops s.nb 0 ops.toList s) fun (s',fs) =>
 let out:St:=⟨s'.slots,s'.mem,s.nb+ops.size⟩
 if draw then if jU ops&&wD (qM ops.toList []) fs then M.pure out else M.fail
 else M.pure out
structure Out where
 norm:Option (Rf × St)
 ret:Option (Rf × St)
 exits:List (Nat × Rf × St)
def andR:Rf->Rf->M Rf
 | .c z,b=>M.pure (if z≠0 then b else .c 0)
 | a,.c z=>M.pure (if z≠0 then a else .c 0)
 | a,b=>if a.eq b then M.pure a else mk (.ite a b (.c 0))
def orR:Rf->Rf->M Rf
 | .c z,b=>M.pure (if z≠0 then .c 1 else b)
 | a,.c z=>M.pure (if z≠0 then .c 1 else a)
 | a,b=>if a.eq b then M.pure a else ⟨fun s=>match uK s.nodes b with
  | some d=>if d.eq a then some (.c 1,s) else (mk (.ite a (.c 1) b)).run s
  | none=>match uK s.nodes a with
   | some d=>if d.eq b then some (.c 1,s) else (mk (.ite a (.c 1) b)).run s
   | none=>(mk (.ite a (.c 1) b)).run s,fun s x s' h=>by
  split at h
  . split at h
    . cases h;exact s.le_refl
    . exact M.ext _ _ _ _ h
  . split at h
    . split at h
      . cases h;exact s.le_refl
      . exact M.ext _ _ _ _ h
    . exact M.ext _ _ _ _ h⟩
def notR:Rf->M Rf:=fun a=>mkIte a (.c 0) (.c 1)
def ny:List Nat->List Nat->Bool
 | [],[]=>true
 | x::l,y::m=>Nat.beq x y&&ny l m
 | _,_=>false
def SC.eq:SC->SC->Bool
 | .top,.top=>true
 | .int k r,.int j q=>Rf.eq r q&&Nat.beq (kNo k) (kNo j)
 | .bool r,.bool q=>Rf.eq r q
 | .ptr b o,.ptr c p=>Nat.beq b c&&Nat.beq o p
 | .nil,.nil=>true
 | .sl b o l c,.sl b' o' l' c'=>Nat.beq b b'&&(Nat.beq o o'&&(Nat.beq l l'&&Nat.beq c c'))
 | .fn f cs,.fn g ds=>Nat.beq f g&&ny cs ds
 | _,_=>false
def tK:List SC->List SC->Bool
 | [],[]=>true
 | x::l,y::m=>SC.eq x y&&tK l m
 | _,_=>false
def SP.eq:SP->SP->Bool
 | .c x,.c y=>SC.eq x y
 | .agg x,.agg y=>tK x y
 | _,_=>false
def uh:List SP->List SP->Bool
 | [],[]=>true
 | x::l,y::m=>SP.eq x y&&uh l m
 | _,_=>false
def SV.eq:SV->SV->Bool
 | .top,.top=>true
 | .p x,.p y=>SP.eq x y
 | .tup x,.tup y=>uh x y
 | _,_=>false
def Qq:Bool->Bool->Bool
 | true,true=>true
 | false,false=>true
 | _,_=>false
def nC:Path->Path->Bool
 | [],[]=>true
 | (x,a)::l,(y,b)::m=>Rf.eq x y&&(Qq a b&&nC l m)
 | _,_=>false
def Sl.eq (x y:Sl):Bool:=SV.eq x.v y.v&&nC x.cond y.cond
theorem tO:∀ {a b:List Nat},ny a b=true->a=b
 | [],[],_=>rfl
 | [],_::_,h=>by simp [ny] at h
 | _::_,[],h=>by simp [ny] at h
 | x::l,y::m,h=>by
  simp only [ny,Bool.and_eq_true] at h;rw [Nat.eq_of_beq_eq_true h.1,tO h.2]
theorem SC.eq_eq {a b:SC} (h:a.eq b=true):a=b:=by
 cases a<;>cases b<;>simp only [SC.eq,Bool.and_eq_true,Bool.false_eq_true] at h
 . rfl
 . rw [Rf.eq_eq h.1,vV h.2]
 . rw [Rf.eq_eq h]
 . rw [Nat.eq_of_beq_eq_true h.1,Nat.eq_of_beq_eq_true h.2]
 . rfl
 . rw [Nat.eq_of_beq_eq_true h.1,Nat.eq_of_beq_eq_true h.2.1,Nat.eq_of_beq_eq_true h.2.2.1,Nat.eq_of_beq_eq_true h.2.2.2]
 . rw [Nat.eq_of_beq_eq_true h.1,tO h.2]
theorem zf:∀ {a b:List SC},tK a b=true->a=b
 | [],[],_=>rfl
 | [],_::_,h=>by simp [tK] at h
 | _::_,[],h=>by simp [tK] at h
 | x::l,y::m,h=>by
  simp only [tK,Bool.and_eq_true] at h;rw [SC.eq_eq h.1,zf h.2]
theorem SP.eq_eq {a b:SP} (h:a.eq b=true):a=b:=by
 cases a<;>cases b<;>simp only [SP.eq,Bool.false_eq_true] at h
 . rw [SC.eq_eq h]
 . rw [zf h]
theorem zI:∀ {a b:List SP},uh a b=true->a=b
 | [],[],_=>rfl
 | [],_::_,h=>by simp [uh] at h
 | _::_,[],h=>by simp [uh] at h
 | x::l,y::m,h=>by
  simp only [uh,Bool.and_eq_true] at h;rw [SP.eq_eq h.1,zI h.2]
theorem SV.eq_eq {a b:SV} (h:a.eq b=true):a=b:=by
 cases a<;>cases b<;>simp only [SV.eq,Bool.false_eq_true] at h
 . rfl
 . rw [SP.eq_eq h]
 . rw [zI h]
theorem uk:∀ {a b:Path},nC a b=true->a=b
 | [],[],_=>rfl
 | [],_::_,h=>by simp [nC] at h
 | _::_,[],h=>by simp [nC] at h
 | (x,a)::l,(y,b)::m,h=>by
  simp only [nC,Bool.and_eq_true] at h;have:a=b:=by cases a<;>cases b<;>first|rfl|simp [Qq] at h
  rw [Rf.eq_eq h.1,this,uk h.2.2]
theorem Sl.eq_eq {a b:Sl} (h:a.eq b=true):a=b:=by
 cases a;cases b;simp only [Sl.eq,Bool.and_eq_true] at h;rw [SV.eq_eq h.1,uk h.2]
def Da (q:Rf) (x y:SC):M SC :=
 if x.eq y then M.pure x else match x,y with
 | .int k a,.int j b=>if k=j then M.bind (mkIte q a b) fun r=>M.pure (.int k r) else M.pure .top
 | .bool a,.bool b=>M.bind (mkIte q a b) fun r=>M.pure (.bool r)
 | _,_=>M.pure .top
def wP (q:Rf):List SC->List SC->M (List SC)
 | x::xs,y::ys=>M.bind (Da q x y) fun a=>M.bind (wP q xs ys) fun l=>M.pure (a::l)
 | _,_=>M.pure []
def BC (q:Rf) (x y:SP):M (Option SP) :=
 match x,y with
 | .c a,.c b=>M.bind (Da q a b) fun r=>M.pure (some (.c r))
 | .agg xs,.agg ys=>if xs.length=ys.length then M.bind (wP q xs ys) fun l=>M.pure (some (.agg l)) else M.pure none
 | _,_=>M.pure none
def AC (q:Rf):List SP->List SP->M (Option (List SP))
 | [],[]=>M.pure (some [])
 | x::xs,y::ys=>M.bind (BC q x y) fun a=>M.bind (AC q xs ys) fun l=>match a,l with
  | some a,some l=>M.pure (some (a::l))
  | _,_=>M.pure none
 | _,_=>M.pure none
def Hy (q:Rf) (x y:SV):M SV :=
 if x.eq y then M.pure x else match x,y with
 | .p a,.p b=>M.bind (BC q a b) fun r=>match r with
  | some r=>M.pure (.p r)
  | none=>M.pure .top
 | .tup xs,.tup ys=>M.bind (AC q xs ys) fun r=>match r with
  | some r=>M.pure (.tup r)
  | none=>M.pure .top
 | _,_=>M.pure .top
def GZ (q:Rf) (x y:Sl):M Sl :=
 if x.eq y then M.pure x else match x,y with
 | ⟨[],a⟩,⟨[],b⟩=>M.bind (Hy q a b) fun r=>M.pure ⟨[],r⟩
 | _,_=>M.pure ⟨[],.top⟩
def Ba (q:Rf):List Sl->List Sl->M (List Sl)
 | x::xs,y::ys=>M.bind (GZ q x y) fun a=>M.bind (Ba q xs ys) fun l=>M.pure (a::l)
 | _,_=>M.pure []
def Ah (q:Rf):List Bk->List Bk->M (List Bk)
 | [],_=>M.pure []
 | x::xs,ys=>M.bind (Ah q xs ys) fun l=>match aC x.b ys with
  | some y=>if x.t=y.t/\x.cs.length=y.cs.length then M.bind (wP q x.cs y.cs) fun cs=>M.pure (⟨x.b,x.t,cs⟩::l) else M.pure l
  | none=>M.pure l
def mQ:List Bk->Bool
 | []=>true
 | x::l=>(aC x.b l).isNone&&mQ l
def Gy (q:Rf) (x y:St):M St :=
 if x.slots.length=y.slots.length/\mQ x.mem=true then
 M.bind (Ba q x.slots y.slots) fun sl=>M.bind (Ah q x.mem y.mem) fun m=>M.pure ⟨sl,m,max x.nb y.nb⟩
 else M.fail
def uq:Option (Rf × St)->Option (Rf × St)->M (Option (Rf × St))
 | none,y=>M.pure y
 | x,none=>M.pure x
 | some (p,x),some (q,y)=>M.bind (orR p q) fun r=>M.bind (Gy p x y) fun z=>M.pure (some (r,z))
def vF (c:Rf):Option (Rf × St)->M (Option (Rf × St))
 | none=>M.pure none
 | some (p,x)=>M.bind (andR c p) fun r=>match r with
  | .c z=>if z=0 then M.pure none else M.pure (some (r,x))
  | r=>M.pure (some (r,x))
def zY (c:Rf):List (Nat × Rf × St)->M (List (Nat × Rf × St))
 | []=>M.pure []
 | (i,p,x)::l=>M.bind (andR c p) fun r=>M.bind (zY c l) fun l=>match r with
  | .c z=>if z=0 then M.pure l else M.pure ((i,r,x)::l)
  | r=>M.pure ((i,r,x)::l)
def under (c:Rf) (o:Out):M Out:=M.bind (vF c o.norm) fun n=>M.bind (vF c o.ret) fun r=>M.bind (zY c o.exits) fun x=>M.pure ⟨n,r,x⟩
def join (a b:Out):M Out:=M.bind (uq a.norm b.norm) fun n=>M.bind (uq a.ret b.ret) fun r=>M.pure ⟨n,r,a.exits++b.exits⟩
def pathOf (p:Path):Rf->Path
 | .c _=>p
 | r=>(r,true)::p
def Db (path:Path) (a:Out) (k:Path->St->M Out):M Out :=
 match a.norm with
 | none=>M.pure a
 | some (p,s)=>M.bind (k (pathOf path p) s) fun b=>M.bind (under p b) fun b=>join ⟨none,a.ret,a.exits⟩ b
def qh (id:Nat):Option (Rf × St)->List (Nat × Rf × St)->M (Option (Rf × St) × List (Nat × Rf × St))
 | n,[]=>M.pure (n,[])
 | n,(i,p,s)::l=>if i=id then M.bind (uq n (some (p,s))) fun n=>qh id n l else M.bind (qh id n l) fun (n,l)=>M.pure (n,(i,p,s)::l)
def Dx (body:Path->St->M Out):Nat->Path->St->M Out
 | 0,_,_=>M.fail
 | n+1,path,s=>M.bind (body path s) fun a=>Db path a (Dx body n)
def exec (P:Program) (specs:List Spec) (rec:fO) (rounds:Nat):Code->Path->St->M Out
 | .skip,_,s=>M.pure ⟨some (.c 1,s),none,[]⟩
 | .region _ ops draw,path,s=>M.bind (kK P specs rec path ops draw s) fun s=>M.pure ⟨some (.c 1,s),none,[]⟩
 | .seq a b,path,s=>M.bind (exec P specs rec rounds a path s) fun o=>Db path o (exec P specs rec rounds b)
 | .cond c a b,path,s=>M.bind (aU (eX s.slots [] c)) fun v=>match v with
  | .p (.c (.bool (.c z)))=>if z≠0 then exec P specs rec rounds a path s else exec P specs rec rounds b path s
  | .p (.c (.bool r))=>M.bind (exec P specs rec rounds a ((r,true)::path) s) fun x=>M.bind (exec P specs rec rounds b ((r,false)::path) s) fun y =>
   M.bind (under r x) fun x=>M.bind (notR r) fun r'=>M.bind (under r' y) fun y=>join x y
  | _=>M.fail
 | .block id c,path,s=>M.bind (exec P specs rec rounds c path s) fun o=>M.bind (qh id o.norm o.exits) fun (n,l)=>M.pure ⟨n,o.ret,l⟩
 | .loop c,path,s=>Dx (exec P specs rec rounds c) rounds path s
 | .exit id,_,s=>M.pure ⟨none,none,[(id,.c 1,s)]⟩
 | .scope c,path,s=>exec P specs rec rounds c path s
 | .label _,_,s=>M.pure ⟨some (.c 1,s),none,[]⟩
 | .ret,_,s=>M.pure ⟨none,some (.c 1,s),[]⟩
 | _,_,_=>M.fail
def BO (P:Program) (s:St):ResultVar->Option SP
 | .tmp t=>match eX s.slots [] (.tmp t) with
  | some (.p x)=>some x
  | _=>none
 | .cell a t=>match eX s.slots [] (.tmp a) with
  | some (.p (.c (.ptr b o)))=>lW P t b o s.mem
  | _=>none
def wI (P:Program) (s:St):List ResultVar->Option (List SP)
 | []=>some []
 | x::l=>match BO P s x,wI P s l with
  | some y,some m=>some (y::m)
  | _,_=>none
def qV (P:Program) (specs:List Spec) (rec:fO) (rounds:Nat) (f:Nat) (args:List SV) (path:Path) (mem:List Bk) (nb:Nat):M (SV × List Bk) :=
 match P.funcs[f]? with
 | none=>M.fail
 | some fn=>match fn.body with
  | none=>M.fail
  | some c => if (fn.name == "runtime.NumGoroutine") = true then M.fail else
   M.bind (exec P specs rec rounds c path ⟨args.map (fun v=>⟨[],v⟩)++List.replicate (fn.ntmps-args.length) ⟨[],.tup []⟩,mem,nb⟩) fun o =>
   if o.exits.isEmpty then M.bind (uq o.ret o.norm) fun r=>match r with
    | none=>M.fail
    | some (_,s)=>M.bind (aU (wI P s fn.results.toList)) fun vs =>
     let m:=cK (mem.map (·.b)) s.mem
     if below nb (SV.blocks.spsBlocks vs)&&(m.all fun k=>below nb (bI k.cs))&&decide (m.map (·.b)=mem.map (·.b)) then
      match vs with
      | [x]=>M.pure (.p x,m)
      | l=>M.pure (.tup l,m)
     else M.fail
   else M.fail
def Dk (P:Program) (specs:List Spec) (rounds:Nat):Nat->fO
 | 0=>fun _ _ _ _ _=>M.fail
 | n+1=>qV P specs (Dk P specs rounds n) rounds
def GD:Nat->Sh->M (List SC)
 | _,[]=>M.pure []
 | i,k::h=>M.bind (mk (.arg i)) fun r=>M.bind (GD (i+1) h) fun l=>M.pure ((match k with|some k=>SC.int k r|none=>SC.bool r)::l)
def vg:Nat->List (Bool × Sh)->M (List SV)
 | _,[]=>M.pure []
 | i,(g,h)::hs=>M.bind (GD i h) fun cs=>M.bind (vg (i+h.length) hs) fun l =>
  if g then M.pure (SV.p (.agg cs)::l) else match cs with
   | [x]=>M.pure (SV.p (.c x)::l)
   | _=>M.fail
def whole (P:Program) (specs:List Spec) (rounds depth:Nat) (f:Nat) (sh:List (Bool × Sh)):Option (SV × Bd) :=
 match (M.bind (vg 0 sh) fun args=>Dk P specs rounds depth f args [] [] 0).run ⟨[],[]⟩ with
 | some ((v,_),b)=>some (v,b)
 | none=>none
end Sx
namespace Sx
open Go
def fI (X:Cx) (v:Nat->Int):List Nd->Prop
 | []=>True
 | x::l=>v l.length=x.val X v/\fI X v l
def Good (X:Cx) (v:Nat->Int) (b:Bd):Prop:=fI X v b.nodes/\∀ c∈b.vcs,c.holds X v
theorem fI.drop {X:Cx} {v:Nat->Int}:∀ {l m:List Nd},fI X v (l++m)->fI X v m
 | [],_,h=>h
 | _::l,m,h=>fI.drop (l:=l) h.2
theorem Good.mono {X:Cx} {v:Nat->Int} {b b':Bd} (h:b.le b') (g:Good X v b'):Good X v b:=by
 obtain ⟨⟨l,hl⟩,⟨m,hm⟩⟩:=h;refine ⟨fI.drop (l:=l) (hl ▸ g.1),fun c hc=>g.2 c ?_⟩
 rw [hm];exact List.mem_append_right _ hc
def ae {α:Type} (X:Cx) (v:Nat->Int) (m:M α) (R:α->Prop):Prop:=∀ b a b',m.run b=some (a,b')->Good X v b'->R a
section
variable {X:Cx} {v:Nat->Int} {α β:Type}
theorem dF (v:Nat->Int) (z:Int):(Rf.c z).val v=z:=rfl
theorem ae.pure {a:α} {R:α->Prop} (h:R a):ae X v (M.pure a) R:=fun b x b' hr _=>by
 cases hr;exact h
theorem ae.fail {R:α->Prop}:ae X v (M.fail:M α) R:=fun b x b' hr _=>by cases hr
theorem ae.bind {m:M α} {f:α->M β} {R:α->Prop} {S:β->Prop} (h:ae X v m R) (k:∀ a,R a->ae X v (f a) S):ae X v (M.bind m f) S:=fun b x b' hr g=>by
 simp only [M.bind] at hr;cases hm:m.run b with
 | none=>rw [hm] at hr;cases hr
 | some p =>
  obtain ⟨a,b1⟩:=p;rw [hm] at hr;have g1:Good X v b1:=Good.mono ((f a).ext _ _ _ hr) g;exact k a (h b a b1 hm g1) b1 x b' hr g
theorem ae.imp {m:M α} {R S:α->Prop} (h:ae X v m R) (k:∀ a,R a->S a):ae X v m S:=fun b a b' hr g=>k a (h b a b' hr g)
theorem ae.and {m:M α} {R S:α->Prop} (h:ae X v m R) (k:ae X v m S):ae X v m (fun a=>R a/\S a):=fun b a b' hr g=>⟨h b a b' hr g,k b a b' hr g⟩
theorem ae.opt {o:Option α}:ae X v (aU o) (fun a=>o=some a):=by
 cases o with
 | none=>exact ae.fail
 | some a=>exact ae.pure rfl
theorem ae.ite {c:Prop} [Decidable c] {m n:M α} {R:α->Prop} (h:c->ae X v m R) (k:¬ c->ae X v n R):ae X v (if c then m else n) R:=by
 split
 . exact h ‹_›
 . exact k ‹_›
theorem yT {x:Nd}:∀ {l:List Nd} {i:Nat},vP x l=some i->fI X v l->v i=x.val X v
 | [],_,h,_=>by cases h
 | y::l,i,h,s=>by
  simp only [vP] at h;split at h
  . rename_i he
    cases h;rw [<-Nd.eq_eq he];exact s.1
  . exact yT h s.2
theorem lJ:∀ {l:List Nd} {i:Nat} {x:Nd},DX l i=some x->fI X v l->v i=x.val X v
 | [],i,x,h,_=>by simp [DX] at h
 | y::l,i,x,h,s=>by
  simp only [DX,List.length_cons] at h;split at h
  . rename_i hb
    have hb':i<l.length+1:=by simp [Nat.blt] at hb;omega
    by_cases hi:i=l.length
    . subst hi;simp at h;subst h;exact s.1
    . have e:l.length+1-1-i=(l.length-1-i)+1:=by omega
      rw [e,List.getElem?_cons_succ] at h;refine lJ (l:=l) ?_ s.2;unfold DX;rw [if_pos (by simp [Nat.blt];omega)];exact h
  . cases h
theorem ae.mk (x:Nd):ae X v (Sx.mk x) (fun r=>r.val v=x.val X v):=fun b a b' hr g=>by
 simp only [Sx.mk] at hr;split at hr
 . rename_i i hf
   cases hr;exact yT hf g.1
 . cases hr;exact g.1.1
theorem ae.vc (p:Path) (k:Vk):ae X v (Sx.vc p k) (fun _=>PT v p->k.holds X v):=fun b a b' hr g=>by
 simp only [Sx.vc] at hr;cases hr;exact g.2 ⟨p,k⟩ (List.mem_cons_self ..)
theorem Oe (b:Bool):b2i b=0∨b2i b=1:=by cases b<;>simp [b2i]
theorem Ih {op:BinOp} (h:cO op=true) (k:IntKind) (x y:Int):bO op k x y=0∨bO op k x y=1:=by
 cases op<;>simp [cO] at h<;>exact Oe _
theorem pE {l:List Nd} (s:fI X v l):∀ (n:Nat) (r:Rf),isB l n r=true->r.val v=0∨r.val v=1
 | n,.c z,h=>by
  have h':(ieq z 0 || ieq z 1)=true:=by cases n<;>exact h
  rcases Bool.or_eq_true _ _ ▸ h' with h|h
  . exact Or.inl (vB h)
  . exact Or.inr (vB h)
 | 0,.n i,h=>by simp [isB] at h
 | n+1,.n i,h=>by
  simp only [isB] at h;split at h
  . rename_i hn
    rw [show (Rf.n i).val v=_ from lJ hn s]
    exact Ih h _ _ _
  . rename_i c a b hn
    simp only [Bool.and_eq_true] at h;rw [show (Rf.n i).val v=_ from lJ hn s]
    simp only [Nd.val];split
    . exact pE s n a h.1
    . exact pE s n b h.2
  . cases h
theorem nT {l:List Nd} (s:fI X v l) {c d:Rf} (h:uK l c=some d):c.val v=if d.val v≠0 then 0 else 1:=by
 cases c with
 | c z=>simp [uK] at h
 | n i =>
  simp only [uK] at h;split at h
  . rename_i hn
    cases h;exact lJ hn s
  . cases h
theorem ae.mkBin (op:BinOp) (k:IntKind) (a b:Rf):ae X v (Sx.mkBin op k a b) (fun r=>r.val v=bO op k (a.val v) (b.val v)):=by
 have hm:∀ a b,ae X v (Sx.mk (.bin op k a b)) (fun r=>r.val v=bO op k (a.val v) (b.val v)):=fun a b=>ae.mk _
 unfold Sx.mkBin;split
 . exact ae.pure rfl
 . refine ae.ite (fun he=>?_) (fun _=>hm _ _)
   have he:=Rf.eq_eq he;subst he;split<;>first|exact hm _ _|(refine ae.pure ?_;simp [Rf.val,bO,b2i])
theorem ae.mkWrap (k:IntKind) (a:Rf):ae X v (Sx.mkWrap k a) (fun r=>r.val v=k.wrap (a.val v)):=by
 unfold Sx.mkWrap;split
 . exact ae.pure rfl
 . exact ae.mk _
theorem ae.mkIte (c a b:Rf):ae X v (Sx.mkIte c a b) (fun r=>r.val v=if c.val v≠0 then a.val v else b.val v):=by
 have hm:∀ c a b,ae X v (Sx.mk (.ite c a b)) (fun r=>r.val v=if c.val v≠0 then a.val v else b.val v):=fun c a b=>ae.mk _
 unfold Sx.mkIte;split
 . refine ae.pure ?_;rw [apply_ite (Rf.val v)];rfl
 . refine ae.ite (fun he=>?_) (fun _=>?_)
   . have he:=Rf.eq_eq he;subst he;refine ae.pure ?_;split<;>rfl
   . split
     . intro s x s' hr g;simp only at hr;split at hr
       . rename_i hb
         cases hr;rcases pE g.1 _ _ hb with h|h<;>simp [h,dF]
       . exact hm _ _ _ _ _ _ hr g
     . intro s x s' hr g;simp only at hr;split at hr
       . rename_i d hn
         split at hr
         . rename_i hb
           cases hr;have h1:=nT g.1 hn;rcases pE g.1 _ _ hb with h|h<;>simp [h1,h,dF]
         . exact hm _ _ _ _ _ _ hr g
       . exact hm _ _ _ _ _ _ hr g
     . exact hm _ _ _
theorem ae.mkMn (a b:Rf):ae X v (Sx.mkMn a b) (fun r=>r.val v=if b.val v<a.val v then b.val v else a.val v):=by
 unfold Sx.mkMn;split
 . exact ae.pure rfl
 . refine ae.ite (fun he=>?_) (fun _=>ae.mk _)
   have he:=Rf.eq_eq he;subst he;refine ae.pure ?_;split<;>rfl
theorem ae.mkMx (a b:Rf):ae X v (Sx.mkMx a b) (fun r=>r.val v=if b.val v>a.val v then b.val v else a.val v):=by
 unfold Sx.mkMx;split
 . exact ae.pure rfl
 . refine ae.ite (fun he=>?_) (fun _=>ae.mk _)
   have he:=Rf.eq_eq he;subst he;refine ae.pure ?_;split<;>rfl
theorem ae.vcNe0 (p:Path) (a:Rf):ae X v (Sx.vcNe0 p a) (fun _=>PT v p->a.val v≠0):=by
 unfold Sx.vcNe0;split
 . refine ae.ite (fun _=>ae.fail) (fun h=>ae.pure fun _=>h)
 . exact ae.vc _ _
theorem ae.vcGe0 (p:Path) (a:Rf):ae X v (Sx.vcGe0 p a) (fun _=>PT v p->0<=a.val v):=by
 unfold Sx.vcGe0;split
 . refine ae.ite (fun _=>ae.fail) (fun h=>ae.pure fun _=>by simp only [dF];omega)
 . exact ae.vc _ _
theorem ae.andR (a b:Rf):ae X v (Sx.andR a b) (fun r=>r.val v≠0↔a.val v≠0/\b.val v≠0):=by
 unfold Sx.andR;split
 . refine ae.pure ?_;simp only [dF];split<;>simp_all [dF]
 . refine ae.pure ?_;simp only [dF];split<;>simp_all [dF]
 . refine ae.ite (fun he=>?_) (fun _=>ae.imp (ae.mk _) fun r h=>?_)
   . rw [<-Rf.eq_eq he];exact ae.pure (by simp)
   . rw [h];simp only [Nd.val,dF];split<;>simp_all
theorem ae.orR (a b:Rf):ae X v (Sx.orR a b) (fun r=>r.val v≠0↔a.val v≠0∨b.val v≠0):=by
 have hm:∀ a b:Rf,ae X v (Sx.mk (.ite a (.c 1) b)) (fun r=>r.val v≠0↔a.val v≠0∨b.val v≠0):=fun a b=>ae.imp (ae.mk _) fun r h=>by
  rw [h];simp only [Nd.val,dF];split<;>simp_all
 unfold Sx.orR;split
 . refine ae.pure ?_;simp only [dF];split<;>simp_all [dF]
 . refine ae.pure ?_;simp only [dF];split<;>simp_all [dF]
 . refine ae.ite (fun he=>?_) (fun _=>?_)
   . rw [<-Rf.eq_eq he];exact ae.pure (by simp)
   . intro s x s' hr g;simp only at hr;split at hr
     . rename_i d hn
       split at hr
       . rename_i he
         cases hr;have h1:=nT g.1 hn;rw [Rf.eq_eq he] at h1;rw [h1];simp only [dF];split<;>simp_all
       . exact hm _ _ _ _ _ hr g
     . split at hr
       . rename_i d hn
         split at hr
         . rename_i he
           cases hr;have h1:=nT g.1 hn;rw [Rf.eq_eq he] at h1;rw [h1];simp only [dF];split<;>simp_all
         . exact hm _ _ _ _ _ hr g
       . exact hm _ _ _ _ _ hr g
theorem ae.notR (a:Rf):ae X v (Sx.notR a) (fun r=>r.val v≠0↔a.val v=0) :=
 ae.imp (ae.mkIte _ _ _) fun r h=>by rw [h];simp only [dF];split<;>simp_all
end
end Sx
namespace Sx
open Go Go.RowKit
inductive aX {α β:Type} (R:α->β->Prop):List α->List β->Prop where
 | nil:aX R [] []
 | cons {x:α} {y:β} {l:List α} {m:List β}:R x y->aX R l m->aX R (x::l) (y::m)
namespace aX
variable {α β:Type} {R S:α->β->Prop}
theorem length {l:List α} {m:List β} (h:aX R l m):l.length=m.length:=by
 induction h with
 | nil=>rfl
 | cons _ _ ih=>simp [ih]
theorem imp {l:List α} {m:List β} (h:aX R l m) (k:∀ x y,x∈l->R x y->S x y):aX S l m:=by
 induction h with
 | nil=>exact .nil
 | cons h1 _ ih=>exact .cons (k _ _ (List.mem_cons_self ..) h1) (ih fun x y hx=>k x y (List.mem_cons_of_mem _ hx))
theorem append {l l':List α} {m m':List β} (h:aX R l m) (h':aX R l' m'):aX R (l++l') (m++m'):=by
 induction h with
 | nil=>exact h'
 | cons h1 _ ih=>exact .cons h1 ih
theorem take {l:List α} {m:List β} (h:aX R l m):∀ n,aX R (l.take n) (m.take n):=by
 induction h with
 | nil=>intro n;simp;exact .nil
 | cons h1 _ ih=>intro n;cases n with
  | zero=>exact .nil
  | succ n=>exact .cons h1 (ih n)
theorem drop {l:List α} {m:List β} (h:aX R l m):∀ n,aX R (l.drop n) (m.drop n):=by
 induction h with
 | nil=>intro n;simp;exact .nil
 | cons h1 h2 ih=>intro n;cases n with
  | zero=>exact .cons h1 h2
  | succ n=>exact ih n
theorem get {l:List α} {m:List β} (h:aX R l m):∀ {i:Nat} {x:α},l[i]? = some x->∃ y,m[i]? = some y/\R x y:=by
 induction h with
 | nil=>intro i x h;simp at h
 | cons h1 _ ih=>intro i x h;cases i with
  | zero=>simp at h;subst h;exact ⟨_,rfl,h1⟩
  | succ i=>simp at h;simpa using ih h
end aX
def aF (v:Nat->Int) (ρ:Nat->Option Nat):SC->Value->Prop
 | .top,x=>x.oneCell'=true
 | .int k r,x=>x=.int k (r.val v)
 | .bool r,x=>x=.bool (decide (r.val v≠0))
 | .ptr b o,x=>∃ n,ρ b=some n/\x=.pointer (some ⟨n,o,none⟩)
 | .nil,x=>x=.pointer none
 | .sl b o l c,x=>∃ n,ρ b=some n/\x=.slice (some ⟨n,o,none⟩) l c
 | .fn f caps,x=>∃ ns:List Nat,aX (fun b n=>ρ b=some n) caps ns/\x=.func (.func f) #[] (ns.map fun n=>Value.pointer (some ⟨n,0,none⟩)).toArray
def aS (v:Nat->Int) (ρ:Nat->Option Nat):SP->Value->Prop
 | .c x,y=>aF v ρ x y
 | .agg xs,y=>∃ ys:List Value,y=.agg ⟨ys⟩/\aX (aF v ρ) xs ys
def aG (v:Nat->Int) (ρ:Nat->Option Nat):SV->Value->Prop
 | .top,_=>True
 | .p x,y=>aS v ρ x y
 | .tup xs,y=>∃ ys:List Value,y=.tuple ⟨ys⟩/\aX (aS v ρ) xs ys
theorem aF.one {v:Nat->Int} {ρ:Nat->Option Nat} {x:SC} {y:Value} (h:aF v ρ x y):y.oneCell'=true:=by
 cases x<;>simp only [aF] at h
 . exact h
 . subst h;rfl
 . subst h;rfl
 . obtain ⟨n,_,rfl⟩:=h;rfl
 . subst h;rfl
 . obtain ⟨n,_,rfl⟩:=h;rfl
 . obtain ⟨n,_,rfl⟩:=h;rfl
theorem vQ {y:Value} (h:y.oneCell'=true):y.cells=#[y]:=by cases y<;>first|rfl|cases h
theorem aS.cells {v:Nat->Int} {ρ:Nat->Option Nat} {x:SP} {y:Value} (h:aS v ρ x y):aX (aF v ρ) x.cells y.cells.toList:=by
 cases x with
 | c x=>rw [vQ (aF.one h)];exact .cons h .nil
 | agg xs=>obtain ⟨ys,rfl,h⟩:=h;exact h
theorem aF.mono {v:Nat->Int} {ρ ρ':Nat->Option Nat} {x:SC} (hm:∀ b∈x.blocks,∀ n,ρ b=some n->ρ' b=some n) {y:Value} (h:aF v ρ x y):aF v ρ' x y:=by
 cases x<;>simp only [aF] at h ⊢<;>try exact h
 . obtain ⟨n,h1,h2⟩:=h;exact ⟨n,hm _ (by simp [SC.blocks]) _ h1,h2⟩
 . obtain ⟨n,h1,h2⟩:=h;exact ⟨n,hm _ (by simp [SC.blocks]) _ h1,h2⟩
 . obtain ⟨n,h1,h2⟩:=h;exact ⟨n,h1.imp fun x y hx hxy=>hm x (by simpa [SC.blocks] using hx) y hxy,h2⟩
theorem iP {x:SC} {b:Nat}:∀ {l:List SC},x∈l->b∈x.blocks->b∈bI l
 | y::l,hx,hb=>by
  rcases List.mem_cons.1 hx with rfl|hx
  . exact List.mem_append_left _ hb
  . exact List.mem_append_right _ (iP hx hb)
theorem lu {v:Nat->Int} {ρ ρ':Nat->Option Nat} {l:List SC} {m:List Value} (hm:∀ b∈bI l,∀ n,ρ b=some n->ρ' b=some n) (h:aX (aF v ρ) l m):aX (aF v ρ') l m :=
 h.imp fun x y hx hxy=>aF.mono (fun b hb=>hm b (iP hx hb)) hxy
theorem aS.mono {v:Nat->Int} {ρ ρ':Nat->Option Nat} {x:SP} (hm:∀ b∈bI x.cells,∀ n,ρ b=some n->ρ' b=some n) {y:Value} (h:aS v ρ x y):aS v ρ' x y:=by
 cases x with
 | c x=>exact aF.mono (fun b hb=>hm b (by simpa [SP.cells,bI] using hb)) h
 | agg xs=>obtain ⟨ys,h1,h2⟩:=h;exact ⟨ys,h1,lu hm h2⟩
theorem kg {x:SP} {b:Nat}:∀ {l:List SP},x∈l->b∈bI x.cells->b∈SV.blocks.spsBlocks l
 | y::l,hx,hb=>by
  rcases List.mem_cons.1 hx with rfl|hx
  . exact List.mem_append_left _ hb
  . exact List.mem_append_right _ (kg hx hb)
theorem zw {v:Nat->Int} {ρ ρ':Nat->Option Nat} {l:List SP} {m:List Value} (hm:∀ b∈SV.blocks.spsBlocks l,∀ n,ρ b=some n->ρ' b=some n) (h:aX (aS v ρ) l m):aX (aS v ρ') l m :=
 h.imp fun x y hx hxy=>aS.mono (fun b hb=>hm b (kg hx hb)) hxy
theorem aG.mono {v:Nat->Int} {ρ ρ':Nat->Option Nat} {x:SV} (hm:∀ b∈x.blocks,∀ n,ρ b=some n->ρ' b=some n) {y:Value} (h:aG v ρ x y):aG v ρ' x y:=by
 cases x with
 | top=>trivial
 | p x=>exact aS.mono hm h
 | tup xs=>obtain ⟨ys,h1,h2⟩:=h;exact ⟨ys,h1,zw hm h2⟩
structure Grow (F:Nat->Prop) (w w':World):Prop where
 os:w'.os=w.os
 tape:w'.tape=w.tape
 output:w'.output=w.output
 size:w.heap.size<=w'.heap.size
 block:∀ n,n<w.heap.size->¬ F n->w'.heap[n]? = w.heap[n]?
theorem Grow.refl (F:Nat->Prop) (w:World):Grow F w w:=⟨rfl,rfl,rfl,Nat.le_refl _,fun _ _ _=>rfl⟩
theorem Grow.trans {F F':Nat->Prop} {a b c:World} (h:Grow F a b) (k:Grow F' b c) (hF:∀ n,F' n->F n∨a.heap.size<=n):Grow F a c :=
 ⟨k.os.trans h.os,k.tape.trans h.tape,k.output.trans h.output,Nat.le_trans h.size k.size,fun n hn hf=>by
  rw [k.block n (Nat.lt_of_lt_of_le hn h.size) (fun hf'=>by
   rcases hF n hf' with h1|h1
   . exact hf h1
   . omega)]
  exact h.block n hn hf⟩
theorem Grow.drew {F:Nat->Prop} {a b:World} (h:Grow F a b):Grow F a { b with drawn:=b.drawn+1 }:=⟨h.os,h.tape,h.output,h.size,h.block⟩
theorem Grow.below {w w':World} (h:Grow (fun _=>False) w w'):Below w.heap.size w w':=⟨h.os,h.tape,h.output,h.size,fun n hn=>h.block n hn (fun h=>h)⟩
theorem Grow.of_below {F:Nat->Prop} {w w':World} (h:Below w.heap.size w w'):Grow F w w':=⟨h.os,h.tape,h.output,h.size,fun n hn _=>h.block n hn⟩
structure Inv (ρ:Nat->Option Nat) (w:World):Prop where
 inj:∀ b b' n,ρ b=some n->ρ b'=some n->b=b'
 lt:∀ b n,ρ b=some n->n<w.heap.size
theorem Inv.grow {ρ:Nat->Option Nat} {w w':World} (h:Inv ρ w) (g:w.heap.size<=w'.heap.size):Inv ρ w':=⟨h.inj,fun b n hb=>Nat.lt_of_lt_of_le (h.lt b n hb) g⟩
def ed (v:Nat->Int) (ρ:Nat->Option Nat) (A:Nat->Prop) (w:World) (k:Bk):Prop :=
 ∃ (n:Nat) (ys:List Value),ρ k.b=some n/\A n/\w.heap[n]? = some (.cells ⟨ys⟩ k.t (0,0))/\aX (aF v ρ) k.cs ys
def dY (v:Nat->Int) (ρ:Nat->Option Nat) (A:Nat->Prop) (w:World) (m:List Bk):Prop:=∀ b k,aC b m=some k->ed v ρ A w k
theorem bK {b:Nat} {k:Bk}:∀ {m:List Bk},aC b m=some k->k.b=b
 | [],h=>by cases h
 | x::l,h=>by
  simp only [aC] at h;split at h
  . cases h;assumption
  . exact bK h
theorem qC (x:Bk) (b:Nat):∀ (m:List Bk),aC b (rY x m)=if x.b=b then some x else aC b m
 | []=>by simp only [rY,aC]
 | y::l=>by
  simp only [rY];split
  . rename_i h
    simp only [aC]
    by_cases hb:x.b=b
    . rw [if_pos hb,if_pos hb]
    . rw [if_neg hb,if_neg hb,if_neg (by rw [h];exact hb)]
  . rename_i h
    simp only [aC]
    by_cases hy:y.b=b
    . rw [if_pos hy,if_pos hy,if_neg (by rw [<-hy];exact fun e=>h e.symm)]
    . rw [if_neg hy,if_neg hy];exact qC x b l
theorem jg (b:Nat) (m:List Bk):∀ (l:List Bk),aC b (jS m l)=match aC b l with|some k=>some k|none=>aC b m
 | []=>rfl
 | x::l=>by
  simp only [jS,qC,aC];split
  . rfl
  . exact jg b m l
theorem om {b:Nat}:∀ {l:List Bk},b ∉ l.map (·.b)->aC b l=none
 | [],_=>rfl
 | x::l,h=>by
  simp only [List.map_cons,List.mem_cons,not_or] at h;simp only [aC];rw [if_neg (fun e=>h.1 e.symm)]
  exact om h.2
theorem bF {b:Nat} {bs:List Nat} {k:Bk}:∀ {m:List Bk},aC b (cK bs m)=some k->aC b m=some k/\b∈bs
 | [],h=>by cases h
 | x::l,h=>by
  simp only [cK] at h;split at h
  . rename_i hc
    simp only [aC] at h ⊢
    split at h
    . rename_i he
      cases h;exact ⟨by rw [if_pos he],by rw [<-he];simpa using hc⟩
    . rename_i he
      obtain ⟨h1,h2⟩:=bF h;exact ⟨by rw [if_neg he];exact h1,h2⟩
  . rename_i hc
    obtain ⟨h1,h2⟩:=bF h;refine ⟨?_,h2⟩;simp only [aC];rw [if_neg]
    . exact h1
    . intro e;apply hc;rw [e];simpa using h2
theorem iC {b:Nat} {k:Bk}:∀ {m:List Bk},aC b m=some k->k∈m
 | x::l,h=>by
  simp only [aC] at h;split at h
  . cases h;exact List.mem_cons_self ..
  . exact List.mem_cons_of_mem _ (iC h)
theorem aV {x:Bk}:∀ {m:List Bk},x∈m->∃ k,aC x.b m=some k
 | y::l,h=>by
  simp only [aC]
  by_cases hb:y.b=x.b
  . exact ⟨y,by rw [if_pos hb]⟩
  . rw [if_neg hb];rcases List.mem_cons.1 h with rfl|h
    . exact absurd rfl hb
    . exact aV h
section
variable {P:Program}
theorem iD {t:TypeId} {g:Bool} (h:fG P t=some g) (w:World):(isAgg t).run P w=.ok g w:=by
 unfold fG at h;unfold isAgg;cases hd:P.underlying t with
 | none=>rw [hd] at h;cases h
 | some d =>
  rw [hd] at h;rw [Sem.run_bind,run_underlying hd,Result.andThen_ok];cases d<;>simp only [Option.some.injEq] at h<;>subst h<;>rfl
theorem dK {t:TypeId} {i:TypeInfo} (h:P.info? t=some i) (w:World):(typeInfo t).run P w=.ok i w:=by
 unfold typeInfo;simp [h]
theorem dE {t:TypeId} {n:Nat} (h:dV P t=some n) (w:World):(Go.sizeOf t).run P w=.ok n w:=by
 unfold dV at h;cases hi:P.info? t with
 | none=>rw [hi] at h;cases h
 | some i =>
  rw [hi] at h;unfold Go.sizeOf;rw [Sem.run_bind,dK hi,Result.andThen_ok];cases h;rfl
theorem Cb {w:World} {n:Nat} {ys:List Value} {t:TypeId} {fz:Nat × Nat} (h:w.heap[n]? = some (.cells ⟨ys⟩ t fz)) (i:Nat):w.cell? ⟨n,i,none⟩=ys[i]?:=by
 simp [World.cell?,h]
theorem rU (n o i:Nat):Addr.add ⟨n,o,none⟩ i=⟨n,o+i,none⟩:=by
 unfold Addr.add
 by_cases h:i=0
 . subst h;rfl
 . rw [if_neg h]
theorem oI {w:World} {n:Nat} {ys:List Value} {t:TypeId} {fz:Nat × Nat} (h:w.heap[n]? = some (.cells ⟨ys⟩ t fz)) {i:Nat} {y:Value} (hy:ys[i]? = some y):(load ⟨n,i,none⟩).run P w=.ok y w:=by
 have:=Cb h i;rw [hy] at this;simp [load,Sem.run,this]
theorem run_loadCells {w:World} {n:Nat} {ys:List Value} {t:TypeId} {fz:Nat × Nat} (h:w.heap[n]? = some (.cells ⟨ys⟩ t fz)) (o:Nat):∀ (c i:Nat) (acc:Array Value),o+i+c<=ys.length ->
 (loadCellsFrom ⟨n,o,none⟩ i c acc).run P w=.ok (acc++((ys.drop (o+i)).take c).toArray) w
 | 0,i,acc,_=>by simp [loadCellsFrom]
 | c+1,i,acc,hl=>by
  have hlt:o+i<ys.length:=by omega
  have hy:ys[o+i]? = some ys[o+i]:=List.getElem?_eq_getElem hlt;simp only [loadCellsFrom,Sem.run_bind,rU];rw [oI h hy,Result.andThen_ok,run_loadCells h o c (i+1) _ (by omega)]
  congr 1
  rw [List.drop_eq_getElem_cons hlt,List.take_succ_cons,show o+(i+1)=o+i+1 by omega]
  simp
theorem kV {v:Nat->Int} {ρ:Nat->Option Nat} {w:World} {n:Nat} {ys:List Value} {u:TypeId} {fz:Nat × Nat} (h:w.heap[n]? = some (.cells ⟨ys⟩ u fz)) {cs:List SC} (ha:aX (aF v ρ) cs ys)
 {t:TypeId} {o:Nat} {x:SP} (hx:partT P t cs o=some x):∃ y,(loadVar t ⟨n,o,none⟩).run P w=.ok y w/\aS v ρ x y:=by
 unfold partT at hx;unfold loadVar;cases hg:fG P t with
 | none=>rw [hg] at hx;cases hx
 | some g =>
  rw [hg] at hx;rw [Sem.run_bind,iD hg,Result.andThen_ok];cases g with
  | true =>
   simp only at hx;cases hs:dV P t with
   | none=>rw [hs] at hx;cases hx
   | some c =>
    rw [hs] at hx;simp only at hx;split at hx
    . rename_i hle
      cases hx;refine ⟨.agg ⟨(ys.drop o).take c⟩,?_,_,rfl,(ha.drop o).take c⟩;simp only [if_true,Sem.run_bind,dE hs,Result.andThen_ok];have:=run_loadCells (P:=P) h o c 0 #[] (by rw [<-ha.length];omega)
      simp only [loadCells];rw [this];simp
    . cases hx
  | false =>
   simp only at hx;cases hc:cs[o]? with
   | none=>rw [hc] at hx;cases hx
   | some s =>
    rw [hc] at hx;cases hx;obtain ⟨y,h1,h2⟩:=ha.get hc;exact ⟨y,by simpa using oI h h1,h2⟩
theorem tV {v:Nat->Int} {ρ:Nat->Option Nat} {w:World} {ys:List Value} {cs:List SC} (ha:aX (aF v ρ) cs ys)
 {t:TypeId} {o:Nat} {x:SP} (hx:partT P t cs o=some x):∃ y,(part t ⟨ys⟩ o).run P w=.ok y w/\aS v ρ x y:=by
 unfold partT at hx;unfold part;cases hg:fG P t with
 | none=>rw [hg] at hx;cases hx
 | some g =>
  rw [hg] at hx;rw [Sem.run_bind,iD hg,Result.andThen_ok];cases g with
  | true =>
   simp only at hx;cases hs:dV P t with
   | none=>rw [hs] at hx;cases hx
   | some c =>
    rw [hs] at hx;simp only at hx;split at hx
    . rename_i hle
      cases hx;refine ⟨.agg ⟨(ys.drop o).take c⟩,?_,_,rfl,(ha.drop o).take c⟩;simp only [if_true,Sem.run_bind,dE hs,Result.andThen_ok,Sem.run_pure]
      congr 1
      simp [List.take_drop]
    . cases hx
  | false =>
   simp only at hx;cases hc:cs[o]? with
   | none=>rw [hc] at hx;cases hx
   | some s =>
    rw [hc] at hx;cases hx;obtain ⟨y,h1,h2⟩:=ha.get hc;exact ⟨y,by simp [h1],h2⟩
def iV (ys:List Value) (o:Nat) (zs:List Value):List Value:=ys.take o++zs++ys.drop (o+zs.length)
theorem aX.over {R:SC->Value->Prop} {cs xs:List SC} {ys zs:List Value} (h:aX R cs ys) (k:aX R xs zs) (o:Nat):aX R (Sx.over cs o xs) (iV ys o zs):=by
 unfold Sx.over iV;rw [k.length];exact ((h.take o).append k).append (h.drop _)
theorem setCell_at {w:World} {n:Nat} {ys:List Value} {t:TypeId} {fz:Nat × Nat} (h:w.heap[n]? = some (.cells ⟨ys⟩ t fz)) (i:Nat) (y:Value):(w.setCell ⟨n,i,none⟩ y).heap[n]? = some (.cells ⟨ys.set i y⟩ t fz):=by
 simp [World.setCell,Array.getElem?_modify,h]
theorem pX (ys:List Value) (o:Nat) (z:Value) (zs:List Value) (h:o<ys.length):iV (ys.set o z) (o+1) zs=iV ys o (z::zs):=by
 have h1:(ys.set o z).take (o+1)=ys.take o++[z]:=by
  rw [List.take_set,List.set_eq_take_append_cons_drop,if_pos (by simp;omega)]
  rw [List.take_take,Nat.min_eq_left (by omega),List.drop_eq_nil_of_le (by simp;omega)]
 have h2:(ys.set o z).drop (o+1+zs.length)=ys.drop (o+(z::zs).length):=by
  rw [List.drop_set_of_lt (by omega)]
  congr 1
  simp;omega
 unfold iV;rw [h1,h2];simp
theorem jk (n:Nat) (t:TypeId) (o:Nat):∀ (zs:List Value) (w:World) (ys:List Value) (i:Nat),w.heap[n]? = some (.cells ⟨ys⟩ t (0,0))->(∀ z∈zs,z.oneCell'=true)->o+i+zs.length<=ys.length ->
 ∃ w',(storeCells ⟨n,o,none⟩ zs i).run P w=.ok () w'/\w'.heap[n]? = some (.cells ⟨iV ys (o+i) zs⟩ t (0,0))/\Grow (fun k=>k=n) w w'/\w'.heap.size=w.heap.size
 | [],w,ys,i,h,_,_=>⟨w,rfl,by simpa [iV] using h,Grow.refl _ _,rfl⟩
 | z::zs,w,ys,i,h,ho,hl=>by
  have hl':o+i+(zs.length+1)<=ys.length:=hl;have hlt:o+i<ys.length:=by omega
  have hc:=Cb h (o+i);rw [List.getElem?_eq_getElem hlt] at hc;have hfz:w.frozen? ⟨n,o+i,none⟩=false:=by simp [World.frozen?,h]
  have hset:=setCell_at h (o+i) z;have hg:Grow (fun k=>k=n) w (w.setCell ⟨n,o+i,none⟩ z):=⟨rfl,rfl,rfl,by simp [World.setCell],fun k _ hk=>by
   simp only [World.setCell,Array.getElem?_modify];rw [if_neg (fun e=>hk e.symm)]⟩
  have hsz:(w.setCell ⟨n,o+i,none⟩ z).heap.size=w.heap.size:=by simp [World.setCell]
  obtain ⟨w',h1,h2,h3,h4⟩:=jk n t o zs _ _ (i+1) hset (fun z hz=>ho z (List.mem_cons_of_mem _ hz)) (by simp;omega)
  refine ⟨w',?_,?_,hg.trans h3 (fun n' h'=>Or.inl h'),by rw [h4,hsz]⟩
  . simp only [storeCells,Sem.run_bind,rU];have:(store ⟨n,o+i,none⟩ z).run P w=.ok () (w.setCell ⟨n,o+i,none⟩ z):=by
     have hz:=ho z (List.mem_cons_self ..);unfold store;cases z<;>first|(simp [Sem.run,hc,hfz];done)|cases hz
    rw [this,Result.andThen_ok];exact h1
  . rw [h2,show o+(i+1)=o+i+1 by omega,pX _ _ _ _ hlt]
theorem sK {w:World} {n:Nat} {ys:List Value} {u:TypeId} (h:w.heap[n]? = some (.cells ⟨ys⟩ u (0,0))) {t:TypeId} {o:Nat} {y:Value} {c:Nat} (hs:dV P t=some c) (hc:y.cells.size=c) (ho:∀ z∈y.cells.toList,z.oneCell'=true) (hl:o+c<=ys.length) :
 ∃ w',(storeVar t ⟨n,o,none⟩ y).run P w=.ok () w'/\w'.heap[n]? = some (.cells ⟨iV ys o y.cells.toList⟩ u (0,0))/\Grow (fun k=>k=n) w w'/\w'.heap.size=w.heap.size:=by
 obtain ⟨w',h1,h2,h3,h4⟩:=jk (P:=P) n u o y.cells.toList w ys 0 h ho (by simp [hc];omega)
 refine ⟨w',?_,by simpa using h2,h3,h4⟩
 unfold storeVar;simp only [Sem.run_bind,dE hs,Result.andThen_ok,hc,ne_eq,not_true_eq_false,if_false]
 simpa using h1
end
end Sx
namespace Sx
open Go Go.RowKit
def Does (P:Program) (o:Oper) (a:Act) (w:World) (R:Value->World->Prop):Prop :=
 ∀ (K:Act->World->Prop) (Q:Exit->Act->World->Prop),(∀ x w',R x w'->K (a.put o.dst x) w')->o.wp P a w K Q
section
variable {P:Program} {o:Oper} {a:Act} {w w':World} {R:Value->World->Prop}
theorem Does.value {x:Value} (h:(execOp a.eval o).run P w=.ok (.value x) w') (hr:R x w'):Does P o a w R:=fun K Q k=>by
 unfold Oper.wp;rw [h];exact k _ _ hr
theorem Does.skip (h:(execOp a.eval o).run P w=.ok .skip w') (hr:R undef w'):Does P o a w R:=fun K Q k=>by
 unfold Oper.wp;rw [h];exact k _ _ hr
theorem Does.call {f:Nat} {args:Array Value} (h:(execOp a.eval o).run P w=.ok (.enter f args) w) (hc:Calls P f args w fun e w'=>∃ x,e=.returned x/\R x w'):Does P o a w R:=fun K Q k=>by
 unfold Oper.wp;rw [h];exact Calls.mono hc fun e w' ⟨x,he,hr⟩=>by subst he;exact k _ _ hr
theorem Does.imp {S:Value->World->Prop} (h:Does P o a w R) (k:∀ x w',R x w'->S x w'):Does P o a w S:=fun K Q kk=>h K Q fun x w' hr=>kk x w' (k x w' hr)
end
structure Res (v:Nat->Int) (ρ ρ':Nat->Option Nat) (nm:Nat) (mem m:List Bk) (w w':World) (sv:SV) (x:Value):Prop where
 ext:∀ b n,ρ b=some n->ρ' b=some n
 only:∀ b,b≠nm->ρ' b=ρ b
 inv:Inv ρ' w'
 val:aG v ρ' sv x
 names:∀ k∈m,k.b=nm∨∃ k',aC k.b mem=some k'
 mem:dY v ρ' (fun n=>(∃ b k,aC b mem=some k/\ρ b=some n)∨w.heap.size<=n) w' m
 grow:Grow (fun n=>∃ b k,aC b m=some k/\ρ b=some n) w w'
theorem Res.same {v:Nat->Int} {ρ:Nat->Option Nat} {nm:Nat} {mem:List Bk} {w:World} {sv:SV} {x:Value} (hi:Inv ρ w) (hv:aG v ρ sv x):Res v ρ ρ nm mem [] w w sv x :=
 ⟨fun _ _ h=>h,fun _ _=>rfl,hi,hv,fun k h=>(by cases h),(fun b k h=>by cases h),Grow.refl _ _⟩
def OpR (P:Program) (v:Nat->Int) (o:Oper) (path:Path) (ev:Operand->Option SV) (mem:List Bk) (nm nb:Nat) (r:SV × List Bk):Prop :=
 PT v path->∀ (ρ:Nat->Option Nat) (a:Act) (w:World),(∀ x∈o.op.operands.toList,∀ sv,ev x=some sv->aG v ρ sv (a.eval x))->Inv ρ w->ρ nm=none->nm<nb->(∀ b,nb<=b->ρ b=none)->dY v ρ (fun _=>True) w mem ->
  Does P o a w (fun x w'=>∃ ρ',Res v ρ ρ' nm mem r.2 w w' r.1 x)
theorem OpR.pure {P:Program} {v:Nat->Int} {o:Oper} {path:Path} {ev:Operand->Option SV} {mem:List Bk} {nm nb:Nat} {sv:SV}
 (h:PT v path->∀ (ρ:Nat->Option Nat) (a:Act) (w:World),(∀ x∈o.op.operands.toList,∀ sv,ev x=some sv->aG v ρ sv (a.eval x))->dY v ρ (fun _=>True) w mem->∃ x,(execOp a.eval o).run P w=.ok (.value x) w/\aG v ρ sv x):OpR P v o path ev mem nm nb (sv,[]) :=
 fun hp ρ a w hev hi _ _ _ hm=>by
  obtain ⟨x,h1,h2⟩:=h hp ρ a w hev hm;exact Does.value h1 ⟨ρ,Res.same hi h2⟩
theorem zk {v:Nat->Int} {ρ:Nat->Option Nat} {x:Value} {y:SC} (h:Ap x=some y):aF v ρ y x:=by
 cases x<;>simp only [Ap] at h<;>try cases h
 . rename_i b
   cases b<;>rfl
 . rfl
 . rename_i p
   cases p<;>simp only [Ap] at h<;>cases h
   rfl
theorem mZ {v:Nat->Int} {ρ:Nat->Option Nat}:∀ {l:List Value} {m:List SC},tT l=some m->aX (aF v ρ) m l
 | [],m,h=>by cases h;exact .nil
 | x::l,m,h=>by
  simp only [tT] at h;split at h
  . rename_i y l' h1 h2
    cases h;exact .cons (zk h1) (mZ h2)
  . cases h
theorem GM {v:Nat->Int} {ρ:Nat->Option Nat} {x:Value} {y:SV} (h:OG x=some y):aG v ρ y x:=by
 have one:∀ x:Value,(Ap x).map (fun y=>SV.p (.c y))=some y->aG v ρ y x:=fun x h=>by
  cases hs:Ap x with
  | none=>rw [hs] at h;cases h
  | some z=>rw [hs] at h;cases h;exact zk (v:=v) (ρ:=ρ) hs
 cases x<;>simp only [OG] at h<;>first|exact one _ h|skip
 rename_i cs
 cases hs:tT cs.toList with
 | none=>rw [hs] at h;cases h
 | some l=>rw [hs] at h;cases h;exact ⟨cs.toList,rfl,mZ hs⟩
theorem jP {P:Program} {t:TypeId} {cs:List SC} (h:qz P t=some cs) (v:Nat->Int) (ρ:Nat->Option Nat) (w:World):∃ z,(zeroValue t).run P w=.ok z w/\aX (aF v ρ) cs z.cells.toList:=by
 unfold qz at h;cases hi:P.info? t with
 | none=>rw [hi] at h;cases h
 | some i =>
  rw [hi] at h;simp only at h;cases hz:i.zero with
  | none=>rw [hz] at h;cases h
  | some z =>
   rw [hz] at h;refine ⟨z,?_,mZ h⟩;unfold zeroValue;rw [Sem.run_bind,dK hi,Result.andThen_ok,hz];rfl
theorem ky {v:Nat->Int} {ρ:Nat->Option Nat} {ev:Operand->Option SV} {a:Act}:∀ {l:List Operand} {xs:List SV},nK ev l=some xs->(∀ x∈l,∀ sv,ev x=some sv->aG v ρ sv (a.eval x))->aX (aG v ρ) xs (l.map a.eval)
 | [],xs,h,_=>by cases h;exact .nil
 | x::l,xs,h,hev=>by
  simp only [nK] at h;split at h
  . rename_i y m h1 h2
    cases h;exact .cons (hev x (List.mem_cons_self ..) y h1) (ky h2 fun x hx=>hev x (List.mem_cons_of_mem _ hx))
  . cases h
def oN (v:Nat->Int) (ρ:Nat->Option Nat) (x:Nat × SP) (y:Nat × Value):Prop:=x.1=y.1/\aS v ρ x.2 y.2
theorem jh {v:Nat->Int} {ρ:Nat->Option Nat} {ev:Operand->Option SV} {a:Act}:∀ {l:List (Nat × Operand)} {xs:List (Nat × SP)},partsOf ev l=some xs->(∀ x∈l.map (·.2),∀ sv,ev x=some sv->aG v ρ sv (a.eval x))->aX (oN v ρ) xs (l.map fun p=>(p.1,a.eval p.2))
 | [],xs,h,_=>by cases h;exact .nil
 | (i,x)::l,xs,h,hev=>by
  simp only [partsOf] at h;split at h
  . rename_i y m h1 h2
    cases h;exact .cons ⟨rfl,hev x (by simp) (.p y) h1⟩ (jh h2 fun x hx=>hev x (by simp only [List.map_cons];exact List.mem_cons_of_mem _ hx))
  . cases h
theorem yV (off:Nat):∀ (zs:List Value) (j:Nat) (ys:List Value),off+j+zs.length<=ys.length ->
 ((zs.zipIdx j).foldl (fun (cs:Array Value) (p:Value × Nat)=>cs.setIfInBounds (off+p.2) p.1) ⟨ys⟩)=⟨iV ys (off+j) zs⟩
 | [],j,ys,_=>by simp [iV]
 | z::zs,j,ys,h=>by
  have h':off+j+(zs.length+1)<=ys.length:=h;simp only [List.zipIdx_cons,List.foldl_cons,List.setIfInBounds_toArray];rw [yV off zs (j+1) _ (by simp;omega),show off+(j+1)=off+j+1 by omega,pX _ _ _ _ (by omega)]
theorem mE {v:Nat->Int} {ρ:Nat->Option Nat} {place:Nat->Option (Nat × Nat)}:∀ {ps:List (Nat × SP)} {qs:List (Nat × Value)} {cs cs':List SC} {ys:List Value},aX (oN v ρ) ps qs->aX (aF v ρ) cs ys->gm place cs ps=some cs' ->
 ∃ ys',Instr.fill place ⟨ys⟩ qs=some ⟨ys'⟩/\aX (aF v ρ) cs' ys'
 | [],_,cs,cs',ys,.nil,hc,h=>by
  cases h;exact ⟨ys,rfl,hc⟩
 | (i,x)::ps,(_,y)::qs,cs,cs',ys,.cons ⟨rfl,hxy⟩ hr,hc,h=>by
  simp only [gm] at h;simp only [Instr.fill];cases hp:place i with
  | none=>rw [hp] at h;cases h
  | some q =>
   obtain ⟨off,n⟩:=q;rw [hp] at h;simp only at h ⊢
   split at h
   . rename_i hn
     have hcell:=aS.cells hxy;have hsz:y.cells.size=n:=by have:=hcell.length;simp at this;omega
     have hlen:=hc.length;rw [if_neg (by simp [hsz];omega)]
     have hfold:(y.cells.zipIdx.foldl (fun (cs:Array Value) (p:Value × Nat)=>cs.setIfInBounds (off+p.2) p.1) ⟨ys⟩)=(⟨iV ys off y.cells.toList⟩:Array Value):=by
      rw [<-Array.foldl_toList,Array.toList_zipIdx];have:=yV off y.cells.toList 0 ys (by simp [hsz];omega)
      simpa using this
     have hfold':(y.cells.zipIdx.foldl (fun cs (x:Value × Nat)=>match x with|(c,j)=>cs.setIfInBounds (off+j) c) (⟨ys⟩:Array Value))=(⟨iV ys off y.cells.toList⟩:Array Value):=hfold
     rw [hfold'];exact mE hr (hc.over hcell off) h
   . cases h
end Sx
namespace Sx
open Go Go.RowKit
def fU:Sh->List Int->List Value
 | [],_=>[]
 | some k::h,l=>.int k (l.headD 0)::fU h l.tail
 | none::h,l=>.bool (decide (l.headD 0≠0))::fU h l.tail
def mkVals:List (Bool × Sh)->List Int->List Value
 | [],_=>[]
 | (g,h)::hs,l=>(if g then .agg ⟨fU h l⟩ else (fU h l).headD undef)::mkVals hs (l.drop h.length)
def yG (h:List (Bool × Sh)) (l:List Int):Value :=
 match mkVals h l with
 | [x]=>x
 | ys=>.tuple ⟨ys⟩
def zx (P : Program) (f : Nat) : Prop := ∃ fn c, P.funcs[f]? = some fn ∧ fn.body = some c ∧ (fn.name == "runtime.NumGoroutine") = false
def bE (P:Program) (X:Cx) (s:Spec):Prop :=
 zx P s.fn/\∀ xs:List Int,X.pre s.id xs->∀ w,Calls P s.fn ⟨mkVals s.args xs⟩ w fun e w'=>e=.returned (yG s.res (X.sem s.id xs))/\Below w.heap.size w w'
def iI (P:Program) (X:Cx) (v:Nat->Int) (rec:fO):Prop:=∀ f args path mem nb,ae X v (rec f args path mem nb) fun r =>
 PT v path->∀ (ρ:Nat->Option Nat) (w:World) (xs:List Value),aX (aG v ρ) args xs->Inv ρ w->(∀ b,nb<=b->ρ b=none)->dY v ρ (fun _=>True) w mem ->
  zx P f/\Calls P f ⟨xs⟩ w fun e w'=>∃ x,e=.returned x/\∀ nm,Res v ρ ρ nm mem r.2 w w' r.1 x
theorem tF {P:Program} {f:Nat} (h:zx P f) (args:Array Value) (w:World):(callFunc f args).run P w=.ok (.enter f args) w:=by
 obtain ⟨fn,c,h1,h2,h3⟩:=h;unfold callFunc;rw [Sem.run_bind,run_program,Result.andThen_ok,h1];simp [h2,h3]
section
variable {P:Program} {X:Cx} {v:Nat->Int}
theorem iJ {ρ:Nat->Option Nat}:∀ {h:Sh} {cs:List SC} {rs:List Rf} {ys:List Value},iG h cs=some rs->aX (aF v ρ) cs ys->∀ l:List Int,ys=fU h (rs.map (Rf.val v)++l)/\rs.length=h.length
 | [],[],rs,_,hf,.nil,l=>by cases hf;exact ⟨rfl,rfl⟩
 | some k::h,.int j r::cs,rs,_,hf,.cons h1 h2,l=>by
  simp only [iG] at hf;split at hf
  . rename_i hk
    subst hk;cases hc:iG h cs with
    | none=>rw [hc] at hf;cases hf
    | some rs' =>
     rw [hc] at hf;cases hf;obtain ⟨h3,h4⟩:=iJ hc h2 l;simp only [aF] at h1;subst h1;rw [h3];exact ⟨rfl,by simp [h4]⟩
  . cases hf
 | none::h,.bool r::cs,rs,_,hf,.cons h1 h2,l=>by
  simp only [iG] at hf;cases hc:iG h cs with
  | none=>rw [hc] at hf;cases hf
  | some rs' =>
   rw [hc] at hf;cases hf;obtain ⟨h3,h4⟩:=iJ hc h2 l;simp only [aF] at h1;subst h1;rw [h3];exact ⟨rfl,by simp [h4]⟩
theorem lV {ρ:Nat->Option Nat}:∀ {hs:List (Bool × Sh)} {args:List SV} {rs:List Rf} {xs:List Value},lN hs args=some rs->aX (aG v ρ) args xs->∀ l:List Int,xs=mkVals hs (rs.map (Rf.val v)++l)
 | [],[],rs,_,hf,.nil,l=>rfl
 | (g,h)::hs,.p x::args,rs,_,hf,.cons h1 h2,l=>by
  simp only [lN] at hf;split at hf
  . rename_i r1 r2 ha hb
    cases hf;have h3:=lV hb h2 l;cases g with
    | true =>
     cases x with
     | c x=>simp [Aq] at ha
     | agg cs =>
      obtain ⟨ys,rfl,hy⟩:=h1;obtain ⟨h4,h5⟩:=iJ (h:=h) ha hy (r2.map (Rf.val v)++l);rw [h3,h4];simp [mkVals,<-h5]
    | false =>
     cases x with
     | agg cs=>simp [Aq] at ha
     | c x =>
      obtain ⟨h4,h5⟩:=iJ (h:=h) (cs:=[x]) ha (.cons h1 .nil) (r2.map (Rf.val v)++l);rw [h3];simp only [mkVals,List.map_append,List.append_assoc];rw [<-h4];simp [<-h5]
  . cases hf
theorem rF (l:List Int) (i:Nat):(l.drop i).headD 0=l.getD i 0:=by
 rw [List.headD_eq_head?_getD,List.head?_drop,List.getD_eq_getElem?_getD]
theorem oF (f:Nat) (xs:List Rf):∀ (h:Sh) (i:Nat),ae X v (Hm f xs i h) fun cs=>cs.length=h.length/\∀ ρ,aX (aF v ρ) cs (fU h ((X.sem f (xs.map (Rf.val v))).drop i))
 | [],i=>ae.pure ⟨rfl,fun _=>.nil⟩
 | k::h,i=>by
  refine ae.bind (ae.mk _) fun r hr=>ae.bind (oF f xs h (i+1)) fun cs hcs=>ae.pure ?_
  have e:r.val v=((X.sem f (xs.map (Rf.val v))).drop i).headD 0:=by rw [hr,rF];rfl
  refine ⟨by simp [hcs.1],fun ρ=>?_⟩
  have ht:((X.sem f (xs.map (Rf.val v))).drop i).tail=(X.sem f (xs.map (Rf.val v))).drop (i+1):=by rw [List.tail_drop]
  cases k with
  | some k=>simp only [fU];rw [ht];exact .cons (by simp only [aF];rw [e]) (hcs.2 ρ)
  | none=>simp only [fU];rw [ht];exact .cons (by simp only [aF];rw [e]) (hcs.2 ρ)
theorem kZ (f:Nat) (xs:List Rf):∀ (hs:List (Bool × Sh)) (i:Nat),ae X v (Ab f xs i hs) fun ps=>∀ ρ,aX (aS v ρ) ps (mkVals hs ((X.sem f (xs.map (Rf.val v))).drop i))
 | [],i=>ae.pure fun _=>.nil
 | (g,h)::hs,i=>by
  refine ae.bind (oF f xs h i) fun cs hcs=>ae.bind (kZ f xs hs (i+h.length)) fun ps hps=>?_
  have hd:((X.sem f (xs.map (Rf.val v))).drop i).drop h.length=(X.sem f (xs.map (Rf.val v))).drop (i+h.length):=by rw [List.drop_drop]
  cases g with
  | true=>exact ae.pure fun ρ=>by simp only [mkVals];rw [hd];exact .cons ⟨_,rfl,hcs.2 ρ⟩ (hps ρ)
  | false =>
   simp only [Bool.false_eq_true,if_false];split
   . rename_i x
     refine ae.pure fun ρ=>?_
     simp only [mkVals];rw [hd];refine .cons ?_ (hps ρ);have h1:=hcs.2 ρ;generalize fU h ((X.sem f (xs.map (Rf.val v))).drop i)=ys at h1;cases h1 with
     | cons h1 h2=>exact h1
   . exact ae.fail
theorem lG {f:Nat} {s:Spec}:∀ {l:List Spec},lw f l=some s->s∈l/\s.fn=f
 | x::l,h=>by
  simp only [lw] at h;split at h
  . cases h;exact ⟨List.mem_cons_self ..,by assumption⟩
  . obtain ⟨h1,h2⟩:=lG h;exact ⟨List.mem_cons_of_mem _ h1,h2⟩
theorem dY.keep {ρ:Nat->Option Nat} {A:Nat->Prop} {w w':World} {mem:List Bk} (h:dY v ρ A w mem) (hi:Inv ρ w) (hb:Below w.heap.size w w'):dY v ρ (fun n=>(∃ b k,aC b mem=some k/\ρ b=some n)∨w.heap.size<=n) w' mem:=fun b k hk=>by
 obtain ⟨n,ys,h1,h2,h3,h4⟩:=h b k hk;refine ⟨n,ys,h1,Or.inl ⟨b,k,hk,by rw [<-bK hk];exact h1⟩,?_,h4⟩
 rw [hb.block n (hi.lt _ _ h1)];exact h3
theorem rM {specs:List Spec} {rec:fO} (hs:∀ s∈specs,bE P X s) (hc:iI P X v rec) (path:Path) (f:Nat) (args:List SV) (mem:List Bk) (nb:Nat) :
 ae X v (qw specs rec path f args mem nb) fun r =>
  PT v path->∀ (ρ:Nat->Option Nat) (w:World) (xs:List Value),aX (aG v ρ) args xs->Inv ρ w->(∀ b,nb<=b->ρ b=none)->dY v ρ (fun _=>True) w mem ->
   zx P f/\Calls P f ⟨xs⟩ w fun e w'=>∃ x,e=.returned x/\∀ nm,Res v ρ ρ nm mem r.2 w w' r.1 x:=by
 unfold qw;split
 . rename_i s hf
   obtain ⟨hm,rfl⟩:=lG hf;obtain ⟨ho,hS⟩:=hs s hm;split
   . exact ae.fail
   . rename_i rs hr
     refine ae.bind (ae.vc _ _) fun _ hv=>ae.bind (kZ s.id rs s.res 0) fun ps hps=>?_
     have main:∀ sv:SV,(∀ ρ,aG v ρ sv (yG s.res (X.sem s.id (rs.map (Rf.val v)))))->ae X v (M.pure (sv,mem)) fun r =>
      PT v path->∀ (ρ:Nat->Option Nat) (w:World) (xs:List Value),aX (aG v ρ) args xs->Inv ρ w->(∀ b,nb<=b->ρ b=none)->dY v ρ (fun _=>True) w mem ->
       zx P s.fn/\Calls P s.fn ⟨xs⟩ w fun e w'=>∃ x,e=.returned x/\∀ nm,Res v ρ ρ nm mem r.2 w w' r.1 x:=by
      intro sv hsv;refine ae.pure fun hp ρ w xs hx hi hn hmem=>⟨ho,?_⟩
      have hx':=lV hr hx [];rw [List.append_nil] at hx'
      rw [hx'];refine (hS _ (hv hp) w).mono ?_;rintro e w' ⟨rfl,hb⟩;exact ⟨_,rfl,fun nm=>⟨fun _ _ h=>h,fun _ _=>rfl,hi.grow hb.size,hsv ρ,fun k hk=>Or.inr (aV hk),hmem.keep hi hb,Grow.of_below hb⟩⟩
     have hps':∀ ρ,aX (aS v ρ) ps (mkVals s.res (X.sem s.id (rs.map (Rf.val v)))):=fun ρ=>by simpa using hps ρ
     split
     . rename_i x
       refine main _ fun ρ=>?_
       have h1:=hps' ρ;unfold yG;generalize mkVals s.res (X.sem s.id (rs.map (Rf.val v)))=ys at h1;cases h1 with
       | cons h1 h2=>cases h2;exact h1
     . rename_i hne
       refine main _ fun ρ=>?_
       have h1:=hps' ρ;unfold yG;generalize mkVals s.res (X.sem s.id (rs.map (Rf.val v)))=ys at h1;split
       . cases h1 with
         | cons h1 h2=>cases h2;exact absurd rfl (hne _)
       . exact ⟨_,rfl,h1⟩
 . exact hc f args path mem nb
def ceq:Value->Value->Bool
 | .int _ a,.int _ b=>a==b
 | .bool a,.bool b=>a==b
 | _,_=>false
def eqL:List Value->List Value->Bool
 | x::l,y::m=>ceq x y&&eqL l m
 | _,_=>true
inductive KL:List Bool->List Value->List Value->Prop where
 | nil:KL [] [] []
 | int {l:List Bool} {us zs:List Value} (k:IntKind) (a b:Int):KL l us zs->KL (true::l) (.int k a::us) (.int k b::zs)
 | bool {l:List Bool} {us zs:List Value} (a b:Bool):KL l us zs->KL (false::l) (.bool a::us) (.bool b::zs)
theorem KL.len {l:List Bool} {us zs:List Value} (h:KL l us zs):us.length=l.length/\zs.length=l.length:=by
 induction h with
 | nil=>exact ⟨rfl,rfl⟩
 | int _ _ _ _ ih=>simp [ih.1,ih.2]
 | bool _ _ _ ih=>simp [ih.1,ih.2]
theorem KL.append_inv:∀ (l m:List Bool) {us zs:List Value},KL (l++m) us zs->KL l (us.take l.length) (zs.take l.length)/\KL m (us.drop l.length) (zs.drop l.length)
 | [],m,us,zs,h=>⟨by simpa using KL.nil,h⟩
 | true::l,m,_,_,.int k a b h=>by
  obtain ⟨h1,h2⟩:=KL.append_inv l m h;exact ⟨.int k a b h1,h2⟩
 | false::l,m,_,_,.bool a b h=>by
  obtain ⟨h1,h2⟩:=KL.append_inv l m h;exact ⟨.bool a b h1,h2⟩
theorem C8 (a b:Bool):b2i (a&&b)=if b2i a≠0 then b2i b else 0:=by cases a<;>cases b<;>rfl
theorem iK (a:Bool):decide (b2i a≠0)=a:=by cases a<;>rfl
theorem cZ:∀ (xs ys:List SC),ae X v (fP (.c 1) xs ys) fun r=>∀ (ρ:Nat->Option Nat) (us zs:List Value),aX (aF v ρ) xs us->aX (aF v ρ) ys zs->KL (xs.map SC.isInt) us zs/\r.val v=b2i (eqL us zs)
 | [],[]=>ae.pure fun ρ us zs h k=>by cases h;cases k;exact ⟨.nil,rfl⟩
 | .int i a::xs,.int j b::ys=>by
  simp only [fP];refine ae.ite (fun hij=>?_) (fun _=>ae.fail)
  subst hij;refine ae.bind (ae.mkBin _ _ _ _) fun e he=>ae.bind (cZ xs ys) fun r hr=>ae.imp (ae.mkIte _ _ _) fun q hq=>?_
  intro ρ us zs h k;cases h with
  | cons h1 h2=>cases k with
   | cons k1 k2 =>
    simp only [aF] at h1 k1;subst h1;subst k1;obtain ⟨h3,h4⟩:=hr ρ _ _ h2 k2;refine ⟨.int _ _ _ h3,?_⟩;rw [hq,he,h4];simp only [eqL,ceq,C8];rfl
 | .bool a::xs,.bool b::ys=>by
  simp only [fP];refine ae.bind (ae.mkIte _ _ _) fun a' ha=>ae.bind (ae.mkIte _ _ _) fun b' hb=>ae.bind (ae.mkBin _ _ _ _) fun e he=>ae.bind (cZ xs ys) fun r hr=>ae.imp (ae.mkIte _ _ _) fun q hq=>?_
  intro ρ us zs h k;cases h with
  | cons h1 h2=>cases k with
   | cons k1 k2 =>
    simp only [aF] at h1 k1;subst h1;subst k1;obtain ⟨h3,h4⟩:=hr ρ _ _ h2 k2;refine ⟨.bool _ _ h3,?_⟩;rw [hq,he,h4];simp only [eqL,ceq,C8];have:bO .eql .i64 (a'.val v) (b'.val v)=b2i (decide (a.val v≠0)==decide (b.val v≠0)):=by
     rw [ha,hb]
     by_cases h5:a.val v=0<;>by_cases h6:b.val v=0<;>simp [h5,h6,bO,dF,b2i]
    rw [this];rfl
 | [],_::_=>ae.fail
 | _::_,[]=>by
  rename_i x l
  cases x<;>exact ae.fail
 | .int ..::xs,.top::ys=>ae.fail
 | .int ..::xs,.bool ..::ys=>ae.fail
 | .int ..::xs,.ptr ..::ys=>ae.fail
 | .int ..::xs,.nil::ys=>ae.fail
 | .int ..::xs,.sl ..::ys=>ae.fail
 | .int ..::xs,.fn ..::ys=>ae.fail
 | .bool ..::xs,.top::ys=>ae.fail
 | .bool ..::xs,.int ..::ys=>ae.fail
 | .bool ..::xs,.ptr ..::ys=>ae.fail
 | .bool ..::xs,.nil::ys=>ae.fail
 | .bool ..::xs,.sl ..::ys=>ae.fail
 | .bool ..::xs,.fn ..::ys=>ae.fail
 | .top::xs,y::ys=>ae.fail
 | .ptr ..::xs,y::ys=>ae.fail
 | .nil::xs,y::ys=>ae.fail
 | .sl ..::xs,y::ys=>ae.fail
 | .fn ..::xs,y::ys=>ae.fail
theorem uw {t:TypeId} {g:Bool} {n:Nat} (hg:fG P t=some g) (hs:dV P t=some n) (hn:g=false->n=1) (us:List Value) (off:Nat) (hl:off+n<=us.length) (w:World) :
 (part t ⟨us⟩ off).run P w=.ok (if g then .agg ⟨(us.drop off).take n⟩ else ((us.drop off).take n).headD undef) w:=by
 unfold part;rw [Sem.run_bind,iD hg,Result.andThen_ok];cases g with
 | true =>
  simp only [if_true,Sem.run_bind,dE hs,Result.andThen_ok,Sem.run_pure]
  congr 1
  simp [List.take_drop]
 | false =>
  have:=hn rfl;subst this;have hlt:off<us.length:=by omega
  have h1:(⟨us⟩:Array Value)[off]? = some us[off]:=by simp [hlt]
  have h2:((us.drop off).take 1).headD undef=us[off]:=by rw [List.drop_eq_getElem_cons hlt];rfl
  simp only [Bool.false_eq_true,if_false,h1,h2,Sem.run_pure]
theorem yI {d:Nat} {t:TypeId} {l:List Bool} (h:fK P d t=some l):∃ g,fG P t=some g/\(g=false->l.length=1):=by
 cases d with
 | zero=>cases h
 | succ d =>
  unfold fK at h;unfold fG;cases hd:P.underlying t with
  | none=>rw [hd] at h;cases h
  | some e =>
   rw [hd] at h;cases e<;>simp only [reduceCtorEq] at h<;>first|exact ⟨_,rfl,fun _=>by cases h;rfl⟩|exact ⟨true,rfl,fun h=>by cases h⟩
theorem qF:∀ (a b c d:List Value),a.length=c.length->eqL (a++b) (c++d)=(eqL a c&&eqL b d)
 | [],b,[],d,_=>by simp [eqL]
 | x::a,b,y::c,d,h=>by
  simp only [List.cons_append,eqL];rw [qF a b c d (by simpa using h),Bool.and_assoc]
 | [],_,_::_,_,h=>by cases h
 | _::_,_,[],_,h=>by cases h
theorem lS {d:Nat} (IH:∀ (t:TypeId) (l:List Bool) (us zs:List Value) (g:Bool),fK P d t=some l->fG P t=some g->KL l us zs->∀ w,(Op.equalIn d t (if g then .agg ⟨us⟩ else us.headD undef) (if g then .agg ⟨zs⟩ else zs.headD undef)).run P w=.ok (eqL us zs) w) :
 ∀ (fs:List Field) (off:Nat) (l:List Bool) (us zs:List Value),fK.plainFs (fK P d) (dV P) off fs=some l->KL l (us.drop off) (zs.drop off)->∀ w,(Op.eqFields d ⟨us⟩ ⟨zs⟩ fs).run P w=.ok (eqL (us.drop off) (zs.drop off)) w
 | [],off,l,us,zs,h,hk,w=>by
  cases h;generalize us.drop off=a at hk;generalize zs.drop off=b at hk;cases hk;simp [Op.eqFields,eqL]
 | f::fs,off,l,us,zs,h,hk,w=>by
  simp only [fK.plainFs] at h;split at h
  . cases h
  . rename_i hne
    simp only [not_or,Decidable.not_not] at hne;obtain ⟨hname,hoff⟩:=hne;split at h
    . rename_i k hk1
      split at h
      . rename_i hsz
        cases hr:fK.plainFs (fK P d) (dV P) (off+k.length) fs with
        | none=>rw [hr] at h;cases h
        | some m =>
         rw [hr] at h;cases h;obtain ⟨hl1,hl2⟩:=hk.len;simp only [List.length_drop,List.length_append] at hl1 hl2;obtain ⟨hka,hkb⟩:=KL.append_inv k m hk;simp only [List.drop_drop] at hkb;have hrest:=lS IH fs (off+k.length) m us zs hr hkb w;obtain ⟨g,hg,hg1⟩:=yI hk1;simp only [Op.eqFields]
         by_cases hz:k.length=0
         . have hk0:k=[]:=List.length_eq_zero_iff.1 hz;have hgt:g=true:=by cases g with
            | true=>rfl
            | false=>have:=hg1 rfl;omega
           subst hgt;rw [if_pos hname,hoff];have p1:∀ us:List Value,(part f.type ⟨us⟩ off).run P w=.ok (.agg ⟨[]⟩) w:=fun us=>by
            unfold part;rw [Sem.run_bind,iD hg,Result.andThen_ok];simp only [if_true,Sem.run_bind,dE hsz,Result.andThen_ok,Sem.run_pure,hz]
            congr 2
            simp
           rw [Sem.run_bind,p1,Result.andThen_ok,Sem.run_bind,p1,Result.andThen_ok,Sem.run_bind];have:=IH f.type k [] [] true hk1 hg (by rw [hk0];exact .nil) w
           simp only [if_true] at this;rw [this,Result.andThen_ok];simp only [eqL,Bool.not_true,Bool.false_eq_true,if_false];rw [hrest,hz];rfl
         . rw [if_pos hname,hoff];rw [Sem.run_bind,uw hg hsz hg1 us off (by omega),Result.andThen_ok,Sem.run_bind,uw hg hsz hg1 zs off (by omega),Result.andThen_ok,Sem.run_bind]
           rw [IH f.type k _ _ g hk1 hg hka,Result.andThen_ok];have e1:us.drop off=(us.drop off).take k.length++us.drop (off+k.length):=by
            rw [<-List.drop_drop,List.take_append_drop]
           have e2:zs.drop off=(zs.drop off).take k.length++zs.drop (off+k.length):=by
            rw [<-List.drop_drop,List.take_append_drop]
           have e3:eqL (us.drop off) (zs.drop off)=(eqL ((us.drop off).take k.length) ((zs.drop off).take k.length)&&eqL (us.drop (off+k.length)) (zs.drop (off+k.length))):=by
            conv=>lhs;rw [e1,e2]
            exact qF _ _ _ _ (by simp;omega)
           rw [e3];cases hq:eqL ((us.drop off).take k.length) ((zs.drop off).take k.length) with
           | true=>simpa using hrest
           | false=>simp
      . cases h
    . cases h
theorem jo:∀ (d:Nat) (t:TypeId) (l:List Bool) (us zs:List Value) (g:Bool),fK P d t=some l->fG P t=some g->KL l us zs->∀ w,(Op.equalIn d t (if g then .agg ⟨us⟩ else us.headD undef) (if g then .agg ⟨zs⟩ else zs.headD undef)).run P w=.ok (eqL us zs) w
 | 0,t,l,us,zs,g,h,_,_,w=>by cases h
 | d+1,t,l,us,zs,g,h,hg,hk,w=>by
  unfold fK at h;unfold fG at hg;cases hd:P.underlying t with
  | none=>rw [hd] at h;cases h
  | some e =>
   rw [hd] at h hg;cases e<;>simp only [reduceCtorEq] at h
   case bool =>
    cases h;cases hg;cases hk with
    | bool a b h2=>cases h2;simp [Op.equalIn,run_underlying hd,eqL,ceq]
   case int k' =>
    cases h;cases hg;cases hk with
    | int k a b h2=>cases h2;simp [Op.equalIn,run_underlying hd,eqL,ceq]
   case struct fs =>
    split at h
    . cases h
    . rename_i hst
      cases hg;have hf:P.fieldsOf t=fs:=by unfold Program.fieldsOf;rw [hd]
      simp only [if_true];rw [run_equalIn_struct w d t ⟨us⟩ ⟨zs⟩ (by rw [hf];exact hd) (by simpa using hst),hf]
      have:=lS (jo d) fs.toList 0 l us zs h (by simpa using hk) w
      simpa using this
end
end Sx
namespace Sx
open Go Go.RowKit
section
variable {P:Program} {X:Cx} {v:Nat->Int}
theorem sJ (op:BinOp) (t:TypeId) (x y:Operand) (j k:IntKind) (a b:Int) (w:World):(eqGuard op t x y (.int j a) (.int k b)).run P w=.ok () w:=by
 cases op<;>simp [eqGuard]
theorem pR (op:BinOp) (t:TypeId) (x y:Operand) (a b:Bool) (w:World):(eqGuard op t x y (.bool a) (.bool b)).run P w=.ok () w:=by
 cases op<;>simp [eqGuard]
theorem zu (op:BinOp) (t:TypeId) (k j:IntKind) (a b:Int) (w:World) (hs:iF op=true->0<=b) (hk:iF op=false->k=j) (hd:(op=.quo∨op=.rem)->b≠0) :
 (binOp op t (.int k a) (.int j b)).run P w=.ok (if cO op then .bool (decide (bO op k a b≠0)) else .int k (bO op k a b)) w:=by
 cases op
 case add =>
  obtain rfl:=hk rfl;simp only [binOp,ne_eq,not_true_eq_false,if_false,Op.intArith,bO,cO,Bool.false_eq_true];rfl
 case sub =>
  obtain rfl:=hk rfl;simp only [binOp,ne_eq,not_true_eq_false,if_false,Op.intArith,bO,cO,Bool.false_eq_true];rfl
 case mul =>
  obtain rfl:=hk rfl;simp only [binOp,ne_eq,not_true_eq_false,if_false,Op.intArith,bO,cO,Bool.false_eq_true];rfl
 case and =>
  obtain rfl:=hk rfl;simp only [binOp,ne_eq,not_true_eq_false,if_false,Op.intBits,bO,cO,Bool.false_eq_true];rfl
 case or =>
  obtain rfl:=hk rfl;simp only [binOp,ne_eq,not_true_eq_false,if_false,Op.intBits,bO,cO,Bool.false_eq_true];rfl
 case xor =>
  obtain rfl:=hk rfl;simp only [binOp,ne_eq,not_true_eq_false,if_false,Op.intBits,bO,cO,Bool.false_eq_true];rfl
 case andNot =>
  obtain rfl:=hk rfl;simp only [binOp,ne_eq,not_true_eq_false,if_false,Op.intBits,bO,cO,Bool.false_eq_true];rfl
 case quo =>
  obtain rfl:=hk rfl;have h:=hd (Or.inl rfl);simp only [binOp,ne_eq,not_true_eq_false,if_false,Op.intDiv,bO,cO,Bool.false_eq_true,if_neg h];rfl
 case rem =>
  obtain rfl:=hk rfl;have h:=hd (Or.inr rfl);simp only [binOp,ne_eq,not_true_eq_false,if_false,Op.intDiv,bO,cO,Bool.false_eq_true,if_neg h];rfl
 case shl =>
  have h:=Int.not_lt.2 (hs rfl);simp only [binOp,Op.shift,bO,cO,Bool.false_eq_true,if_false,if_neg h];rfl
 case shr =>
  have h:=Int.not_lt.2 (hs rfl);simp only [binOp,Op.shift,bO,cO,Bool.false_eq_true,if_false,if_neg h];rfl
 case eql =>
  obtain rfl:=hk rfl;have e:decide (bO .eql k a b≠0)=(a==b):=iK _;rw [e];simp only [cO,if_true];simp only [binOp,ne_eq,not_true_eq_false,if_false,Op.intCmp];rfl
 case neq =>
  obtain rfl:=hk rfl;have e:decide (bO .neq k a b≠0)=(a != b):=iK _;rw [e];simp only [cO,if_true];simp only [binOp,ne_eq,not_true_eq_false,if_false,Op.intCmp];rfl
 case lss =>
  obtain rfl:=hk rfl;have e:decide (bO .lss k a b≠0)=(decide (a<b)):=iK _;rw [e];simp only [cO,if_true];simp only [binOp,ne_eq,not_true_eq_false,if_false,Op.intCmp];rfl
 case leq =>
  obtain rfl:=hk rfl;have e:decide (bO .leq k a b≠0)=(decide (a<=b)):=iK _;rw [e];simp only [cO,if_true];simp only [binOp,ne_eq,not_true_eq_false,if_false,Op.intCmp];rfl
 case gtr =>
  obtain rfl:=hk rfl;have e:decide (bO .gtr k a b≠0)=(decide (a>b)):=iK _;rw [e];simp only [cO,if_true];simp only [binOp,ne_eq,not_true_eq_false,if_false,Op.intCmp];rfl
 case geq =>
  obtain rfl:=hk rfl;have e:decide (bO .geq k a b≠0)=(decide (a>=b)):=iK _;rw [e];simp only [cO,if_true];simp only [binOp,ne_eq,not_true_eq_false,if_false,Op.intCmp];rfl
theorem sO (path:Path) (op:BinOp) (t:TypeId) (p q:SV):ae X v (ww P path op t p q) fun r =>
 PT v path->∀ (ρ:Nat->Option Nat) (x y:Value) (w:World),aG v ρ p x->aG v ρ q y->∀ ox oy,∃ z,(do eqGuard op t ox oy x y;binOp op t x y:Sem Value).run P w=.ok z w/\aG v ρ r z:=by
 unfold ww;split
 . rename_i k a j b
   have key:∀ z:Value,∀ (hs:iF op=true->0<=b.val v) (hk:iF op=false->k=j) (hd:(op=.quo∨op=.rem)->b.val v≠0),z=(if cO op then .bool (decide (bO op k (a.val v) (b.val v)≠0)) else .int k (bO op k (a.val v) (b.val v))) ->
    ∀ (ρ:Nat->Option Nat) (x y:Value) (w:World),aG v ρ (.p (.c (.int k a))) x->aG v ρ (.p (.c (.int j b))) y->∀ ox oy,(do eqGuard op t ox oy x y;binOp op t x y:Sem Value).run P w=.ok z w:=by
    intro z hs hk hd hz ρ x y w hx hy ox oy;simp only [aG,aS,aF] at hx hy;subst hx;subst hy;rw [Sem.run_bind,sJ,Result.andThen_ok,zu op t k j _ _ w hs hk hd,hz]
   refine ae.ite (fun hsh=>?_) (fun hsh=>?_)
   . refine ae.bind (ae.vcGe0 _ _) fun _ hv=>ae.bind (ae.mkBin _ _ _ _) fun r hr=>ae.pure fun hp ρ x y w hx hy ox oy=>?_
     have hc:cO op=false:=by cases op<;>simp [iF] at hsh<;>rfl
     refine ⟨_,key _ (fun _=>hv hp) (fun h=>by rw [hsh] at h;cases h) (fun h=>by rcases h with rfl|rfl<;>cases hsh) rfl ρ x y w hx hy ox oy,?_⟩
     simp only [hc,Bool.false_eq_true,if_false,aG,aS,aF];rw [hr]
   . refine ae.ite (fun hkj=>?_) (fun _=>ae.fail)
     have hsh':iF op=false:=by simpa using hsh
     refine ae.ite (fun hc=>?_) (fun hc=>?_)
     . refine ae.bind (ae.mkBin _ _ _ _) fun r hr=>ae.pure fun hp ρ x y w hx hy ox oy=>?_
       refine ⟨_,key _ (fun h=>by rw [hsh'] at h;cases h) (fun _=>hkj) (fun h=>by rcases h with rfl|rfl<;>cases hc) rfl ρ x y w hx hy ox oy,?_⟩
       simp only [hc,if_true,aG,aS,aF];rw [hr]
     . have hc':cO op=false:=by simpa using hc
       refine ae.ite (fun hd=>?_) (fun hd=>?_)
       . refine ae.bind (ae.vcNe0 _ _) fun _ hv=>ae.bind (ae.mkBin _ _ _ _) fun r hr=>ae.pure fun hp ρ x y w hx hy ox oy=>?_
         refine ⟨_,key _ (fun h=>by rw [hsh'] at h;cases h) (fun _=>hkj) (fun _=>hv hp) rfl ρ x y w hx hy ox oy,?_⟩
         simp only [hc',Bool.false_eq_true,if_false,aG,aS,aF];rw [hr]
       . refine ae.bind (ae.mkBin _ _ _ _) fun r hr=>ae.pure fun hp ρ x y w hx hy ox oy=>?_
         refine ⟨_,key _ (fun h=>by rw [hsh'] at h;cases h) (fun _=>hkj) (fun h=>absurd h hd) rfl ρ x y w hx hy ox oy,?_⟩
         simp only [hc',Bool.false_eq_true,if_false,aG,aS,aF];rw [hr]
 . rename_i xs ys
   refine ae.ite (fun hc=>?_) (fun _=>ae.fail)
   obtain ⟨hpl,hgd,hag⟩:=hc;split
   . refine ae.bind (cZ xs ys) fun r hr=>ae.pure fun hp ρ x y w hx hy ox oy=>?_
     obtain ⟨us,rfl,hu⟩:=hx;obtain ⟨zs,rfl,hz⟩:=hy;obtain ⟨h1,h2⟩:=hr ρ us zs hu hz;refine ⟨.bool (eqL us zs),?_,?_⟩
     . rw [Sem.run_bind,run_eqGuard_agg w .eql t ox oy _ _ hgd,Result.andThen_ok,run_eql_struct];have:=jo 10000 t _ us zs true hpl hag h1 w;simp only [if_true] at this;rw [this];rfl
     . simp only [aG,aS,aF];rw [h2,iK]
   . refine ae.bind (cZ xs ys) fun r hr=>ae.bind (ae.mkIte _ _ _) fun r' hr'=>ae.pure fun hp ρ x y w hx hy ox oy=>?_
     obtain ⟨us,rfl,hu⟩:=hx;obtain ⟨zs,rfl,hz⟩:=hy;obtain ⟨h1,h2⟩:=hr ρ us zs hu hz;refine ⟨.bool (!eqL us zs),?_,?_⟩
     . rw [Sem.run_bind,run_eqGuard_agg w .neq t ox oy _ _ hgd,Result.andThen_ok,run_neq_struct];have:=jo 10000 t _ us zs true hpl hag h1 w;simp only [if_true] at this;rw [this];rfl
     . simp only [aG,aS,aF];rw [hr',h2];cases eqL us zs<;>rfl
   . exact ae.fail
 . rename_i a b
   refine ae.ite (fun hc=>?_) (fun _=>ae.fail)
   have hb:P.underlying t=some .bool:=by
    cases hu:P.underlying t with
    | none=>rw [hu] at hc;cases hc
    | some e=>rw [hu] at hc;cases e<;>first|rfl|cases hc
   have run1:∀ (op:BinOp) (a b:Bool) (w:World) (ox oy:Operand),(op=.eql∨op=.neq)->(do eqGuard op t ox oy (.bool a) (.bool b);binOp op t (.bool a) (.bool b):Sem Value).run P w=.ok (.bool (if op=.eql then a==b else !(a==b))) w:=by
    intro op a b w ox oy ho;rw [Sem.run_bind,pR,Result.andThen_ok];have:=fun d=>run_equalIn_bool' (P:=P) w d t a b hb
    rcases ho with rfl|rfl<;>simp [binOp,Op.equal,Op.maxDepth,this]
   split
   . refine ae.bind (cZ [.bool a] [.bool b]) fun r hr=>ae.pure fun hp ρ x y w hx hy ox oy=>?_
     simp only [aG,aS,aF] at hx hy;obtain ⟨h1,h2⟩:=hr ρ [x] [y] (.cons hx .nil) (.cons hy .nil);subst hx;subst hy;refine ⟨_,run1 .eql _ _ w ox oy (Or.inl rfl),?_⟩;simp only [aG,aS,aF];rw [h2,iK];simp [eqL,ceq]
   . refine ae.bind (cZ [.bool a] [.bool b]) fun r hr=>ae.bind (ae.mkIte _ _ _) fun r' hr'=>ae.pure fun hp ρ x y w hx hy ox oy=>?_
     simp only [aG,aS,aF] at hx hy;obtain ⟨h1,h2⟩:=hr ρ [x] [y] (.cons hx .nil) (.cons hy .nil);subst hx;subst hy;refine ⟨_,run1 .neq _ _ w ox oy (Or.inr rfl),?_⟩;simp only [aG,aS,aF];rw [hr',h2];simp only [eqL,ceq,Bool.and_true];cases h:(decide (a.val v≠0)==decide (b.val v≠0))<;>simp [b2i,dF]
   . exact ae.fail
 . exact ae.fail
theorem kG {ρ:Nat->Option Nat}:∀ {l:List SV} {rs:List Rf} {xs:List Value},nS l=some rs->aX (aG v ρ) l xs->aX (fun r x=>∃ k,x=Value.int k (Rf.val v r)) rs xs
 | [],rs,_,h,.nil=>by cases h;exact .nil
 | .p (.c (.int k r))::l,rs,_,h,.cons h1 h2=>by
  simp only [nS] at h;cases hl:nS l with
  | none=>rw [hl] at h;cases h
  | some m=>rw [hl] at h;cases h;exact .cons ⟨k,h1⟩ (kG hl h2)
 | .top::l,rs,_,h,.cons _ _=>by cases h
 | .tup _::l,rs,_,h,.cons _ _=>by cases h
 | .p (.agg _)::l,rs,_,h,.cons _ _=>by cases h
 | .p (.c .top)::l,rs,_,h,.cons _ _=>by cases h
 | .p (.c (.bool _))::l,rs,_,h,.cons _ _=>by cases h
 | .p (.c (.ptr _ _))::l,rs,_,h,.cons _ _=>by cases h
 | .p (.c .nil)::l,rs,_,h,.cons _ _=>by cases h
 | .p (.c (.sl ..))::l,rs,_,h,.cons _ _=>by cases h
 | .p (.c (.fn ..))::l,rs,_,h,.cons _ _=>by cases h
theorem lX (k:IntKind):∀ (rs:List Rf) (r:Rf),ae X v (Bo r rs) fun q=>∀ (xs:List Value) (w:World),aX (fun r x=>∃ k,x=Value.int k (Rf.val v r)) rs xs->(xs.foldlM Builtin.min2 (.int k (r.val v))).run P w=.ok (.int k (q.val v)) w
 | [],r=>ae.pure fun xs w h=>by cases h;rfl
 | b::rs,r=>by
  refine ae.bind (ae.mkMn _ _) fun c hc=>ae.imp (lX k rs c) fun q hq=>?_
  intro xs w h;cases h with
  | cons h1 h2 =>
   obtain ⟨j,rfl⟩:=h1;have:=hq _ w h2;simp only [List.foldlM_cons,Builtin.min2,Sem.run_bind,Sem.run_pure,Result.andThen_ok];rw [hc] at this;exact this
theorem mO (k:IntKind):∀ (rs:List Rf) (r:Rf),ae X v (AR r rs) fun q=>∀ (xs:List Value) (w:World),aX (fun r x=>∃ k,x=Value.int k (Rf.val v r)) rs xs->(xs.foldlM Builtin.max2 (.int k (r.val v))).run P w=.ok (.int k (q.val v)) w
 | [],r=>ae.pure fun xs w h=>by cases h;rfl
 | b::rs,r=>by
  refine ae.bind (ae.mkMx _ _) fun c hc=>ae.imp (mO k rs c) fun q hq=>?_
  intro xs w h;cases h with
  | cons h1 h2 =>
   obtain ⟨j,rfl⟩:=h1;have:=hq _ w h2;simp only [List.foldlM_cons,Builtin.max2,Sem.run_bind,Sem.run_pure,Result.andThen_ok];rw [hc] at this;exact this
theorem qG {ρ:Nat->Option Nat}:∀ {l:List SV} {bs:List Nat} {xs:List Value},qg l=some bs->aX (aG v ρ) l xs->∃ ns:List Nat,aX (fun b n=>ρ b=some n) bs ns/\xs=ns.map fun n=>Value.pointer (some ⟨n,0,none⟩)
 | [],bs,_,h,.nil=>by cases h;exact ⟨[],.nil,rfl⟩
 | x::l,bs,_,h,.cons h1 h2=>by
  unfold qg at h;split at h
  . rename_i heq;cases heq
  . rename_i b m heq
    cases heq;cases hl:qg l with
    | none=>rw [hl] at h;cases h
    | some m =>
     rw [hl] at h;cases h;obtain ⟨n,h3,rfl⟩:=h1;obtain ⟨ns,h4,rfl⟩:=qG hl h2;exact ⟨n::ns,.cons h3 h4,rfl⟩
  . cases h
theorem yM {ρ:Nat->Option Nat}:∀ {bs ns:List Nat},aX (fun b n=>ρ b=some n) bs ns->aX (aG v ρ) (bs.map fun b=>SV.p (.c (.ptr b 0))) (ns.map fun n=>Value.pointer (some ⟨n,0,none⟩))
 | _,_,.nil=>.nil
 | _,_,.cons h1 h2=>.cons ⟨_,h1,rfl⟩ (yM h2)
end
end Sx
namespace Sx
open Go Go.RowKit
section
variable {P:Program} {X:Cx} {v:Nat->Int}
def dR (ρ:Nat->Option Nat) (nm n:Nat):Nat->Option Nat:=fun b=>if b=nm then some n else ρ b
theorem nV {ρ:Nat->Option Nat} {nm n:Nat} (h:ρ nm=none):∀ b k,ρ b=some k->dR ρ nm n b=some k:=fun b k hb=>by
 unfold dR;rw [if_neg]
 . exact hb
 . rintro rfl;rw [h] at hb;cases hb
theorem Res.new {ρ:Nat->Option Nat} {nm:Nat} {mem:List Bk} {w:World} {t:TypeId} {cs:List SC} {ys:List Value} {sv:SV} {x:Value} (hi:Inv ρ w) (hn:ρ nm=none) (h:aX (aF v ρ) cs ys) (hx:aG v (dR ρ nm w.heap.size) sv x) :
 Res v ρ (dR ρ nm w.heap.size) nm mem [⟨nm,t,cs⟩] w { w with heap:=w.heap.push (.cells ⟨ys⟩ t) } sv x:=by
 refine ⟨nV hn,fun b hb=>by simp [dR,hb],⟨?_,?_⟩,hx,fun k hk=>Or.inl (by simp at hk;rw [hk]),?_,⟨rfl,rfl,rfl,by simp,?_⟩⟩
 . intro b b' n h1 h2;unfold dR at h1 h2;split at h1<;>split at h2
   . simp [*]
   . cases h1;have:=hi.lt _ _ h2;omega
   . cases h2;have:=hi.lt _ _ h1;omega
   . exact hi.inj _ _ _ h1 h2
 . intro b n h1;unfold dR at h1;simp only [Array.size_push];split at h1
   . cases h1;omega
   . have:=hi.lt _ _ h1;omega
 . intro b k hk;simp only [aC] at hk;split at hk
   . cases hk;refine ⟨w.heap.size,ys,by simp [dR],Or.inr (Nat.le_refl _),by simp,?_⟩
     exact lu (fun b _ n hb=>nV hn b n hb) h
   . cases hk
 . intro n hlt _;show (w.heap.push _)[n]? = _;rw [Array.getElem?_push,if_neg (by omega)]
theorem vJ {specs:List Spec} {rec:fO} (hs:∀ s∈specs,bE P X s) (hc:iI P X v rec) (path:Path) (o:Oper) (ev:Operand->Option SV) (mem:List Bk) (nm nb:Nat) :
 ae X v (wG P specs rec path o ev mem nm nb) (OpR P v o path ev mem nm nb):=by
 obtain ⟨dst,op,type,pos,after,guard⟩:=o;cases op<;>simp only [wG]
 case move x =>
  refine ae.bind ae.opt fun y hy=>ae.pure (OpR.pure fun hp ρ a w hev hm=>⟨a.eval x,rfl,hev x (by simp [Op.operands]) y hy⟩)
 case assign x =>
  refine ae.bind ae.opt fun y hy=>ae.pure (OpR.pure fun hp ρ a w hev hm=>⟨a.eval x,rfl,hev x (by simp [Op.operands]) y hy⟩)
 case alloc t =>
  refine ae.bind ae.opt fun cs hcs=>ae.pure fun hp ρ a w hev hi hn hlt hfr hm=>?_
  obtain ⟨z,hz,hr⟩:=jP hcs v ρ w;refine Does.value (x:=.pointer (some ⟨w.heap.size,0,none⟩)) (w':={ w with heap:=w.heap.push (.cells ⟨z.cells.toList⟩ t) }) ?_ ⟨_,Res.new hi hn hr ⟨w.heap.size,by simp [dR],rfl⟩⟩
  simp [execOp,Instr.alloc,hz,newVar,newRow]
 case box t x =>
  refine ae.bind ae.opt fun y hy=>?_
  cases y with
  | top=>exact ae.fail
  | tup xs=>exact ae.fail
  | p y =>
   refine ae.pure fun hp ρ a w hev hi hn hlt hfr hm=>?_
   have hr:=aS.cells (hev x (by simp [Op.operands]) _ hy)
   refine Does.value (x:=.pointer (some ⟨w.heap.size,0,none⟩)) (w':={ w with heap:=w.heap.push (.cells ⟨(a.eval x).cells.toList⟩ t) }) ?_ ⟨_,Res.new hi hn hr ⟨w.heap.size,by simp [dR],rfl⟩⟩
   simp [execOp,Instr.box,newVar,newRow]
 case build t parts =>
  refine ae.bind ae.opt fun cs hcs=>ae.bind ae.opt fun ps hps=>?_
  have hparts:∀ (ρ:Nat->Option Nat) (a:Act),(∀ x∈(Op.build t parts).operands.toList,∀ sv,ev x=some sv->aG v ρ sv (a.eval x))->aX (oN v ρ) ps ((parts.map fun p=>(p.1,a.eval p.2)).toList):=fun ρ a hev=>by
   rw [Array.toList_map];exact jh hps fun x hx=>hev x (by simpa [Op.operands] using hx)
  split
  . rename_i fs hu
    refine ae.bind ae.opt fun places hpl=>ae.bind ae.opt fun cs' hf=>ae.pure (OpR.pure fun hp ρ a w hev hm=>?_)
    obtain ⟨z,hz,hr⟩:=jP hcs v ρ w;obtain ⟨ys,h1,h2⟩:=mE (hparts ρ a hev) hr hf;refine ⟨.agg ⟨ys⟩,?_,ys,rfl,h2⟩;have hb:P.built t (parts.map fun p=>(p.1,a.eval p.2)).toList=some ⟨ys⟩:=by
     unfold Program.built;unfold qz at hcs;cases hi:P.info? t with
     | none=>rw [hi] at hcs;cases hcs
     | some it =>
      rw [hi] at hcs;simp only at hcs;cases hz0:it.zero with
      | none=>rw [hz0] at hcs;cases hcs
      | some z0 =>
       have:z0=z:=by
        unfold zeroValue at hz;rw [Sem.run_bind,dK hi,Result.andThen_ok,hz0] at hz;cases hz;rfl
       subst this;simp only [hu,hz0,hpl];exact h1
    have:=run_build w t (parts.map fun p=>(p.1,a.eval p.2)) ⟨ys⟩ hb
    simp only [execOp,Sem.run_bind];have e:(parts.map fun (x:Nat × Operand)=>match x with|(i,x)=>(i,a.eval x))=parts.map fun p=>(p.1,a.eval p.2):=rfl
    rw [e,this];rfl
  . rename_i n e hu
    refine ae.bind ae.opt fun c hsz=>ae.bind ae.opt fun cs' hf=>ae.pure (OpR.pure fun hp ρ a w hev hm=>?_)
    obtain ⟨z,hz,hr⟩:=jP hcs v ρ w;obtain ⟨ys,h1,h2⟩:=mE (hparts ρ a hev) hr hf;refine ⟨.agg ⟨ys⟩,?_,ys,rfl,h2⟩;have hb:P.built t (parts.map fun p=>(p.1,a.eval p.2)).toList=some ⟨ys⟩:=by
     unfold Program.built;unfold qz at hcs;cases hi:P.info? t with
     | none=>rw [hi] at hcs;cases hcs
     | some it =>
      rw [hi] at hcs;simp only at hcs;cases hz0:it.zero with
      | none=>rw [hz0] at hcs;cases hcs
      | some z0 =>
       have:z0=z:=by
        unfold zeroValue at hz;rw [Sem.run_bind,dK hi,Result.andThen_ok,hz0] at hz;cases hz;rfl
       subst this;unfold dV at hsz;cases hie:P.info? e with
       | none=>rw [hie] at hsz;cases hsz
       | some ie =>
        rw [hie] at hsz;cases hsz;simp only [hu,hz0,hie];exact h1
    have:=run_build w t (parts.map fun p=>(p.1,a.eval p.2)) ⟨ys⟩ hb
    simp only [execOp,Sem.run_bind];have e:(parts.map fun (x:Nat × Operand)=>match x with|(i,x)=>(i,a.eval x))=parts.map fun p=>(p.1,a.eval p.2):=rfl
    rw [e,this];rfl
  . exact ae.fail
 case load t x =>
  refine ae.bind ae.opt fun y hy=>?_
  split
  . rename_i b off
    refine ae.bind ae.opt fun z hz=>ae.pure (OpR.pure fun hp ρ a w hev hm=>?_)
    obtain ⟨n,hn,he⟩:=hev x (by simp [Op.operands]) _ hy
    unfold lW at hz;split at hz
    . rename_i k hk
      obtain ⟨n',ys,h1,_,h3,h4⟩:=hm b k hk;rw [bK hk,hn] at h1;cases h1;obtain ⟨q,h5,h6⟩:=kV h3 h4 hz;refine ⟨q,?_,h6⟩;simp only [execOp,Sem.run_bind,he,Instr.loadAt,Instr.sureAddr,Sem.run_pure,Result.andThen_ok];rw [h5];rfl
    . cases hz
  . exact ae.fail
 case store t x y =>
  refine ae.bind ae.opt fun p hp1=>ae.bind ae.opt fun q hq=>?_
  split
  . rename_i b off z
    refine ae.bind ae.opt fun k' hk'=>ae.pure fun hp ρ a w hev hi hn hlt hfr hm=>?_
    obtain ⟨n,hn',he⟩:=hev x (by simp [Op.operands]) _ hp1
    have hz:aS v ρ z (a.eval y):=hev y (by simp [Op.operands]) _ hq
    have hzc:=aS.cells hz;unfold um at hk'
    split at hk'
    . rename_i k hk
      split at hk'
      . rename_i hsz
        cases hk'
        obtain ⟨n',ys,h1,_,h3,h4⟩:=hm b k hk;rw [bK hk,hn'] at h1;cases h1;have hlen:=hzc.length;have hlen4:=h4.length;have hone:∀ z∈(a.eval y).cells.toList,z.oneCell'=true:=by
         have gen:∀ {l:List SC} {m:List Value},aX (aF v ρ) l m->∀ z∈m,z.oneCell'=true:=by
          intro l m h
          induction h with
          | nil=>intro z hz;cases hz
          | cons h1 _ ih=>intro z hz;rcases List.mem_cons.1 hz with rfl|hz;exact aF.one h1;exact ih z hz
         exact gen hzc
        obtain ⟨w',h5,h6,h7,h8⟩:=sK (P:=P) h3 (y:=a.eval y) hsz.1 (by rw [<-Array.length_toList];exact hlen.symm) hone (o:=off) (by omega)
        refine Does.skip (w':=w') ?_ ⟨ρ,fun _ _ h=>h,fun _ _=>rfl,hi.grow (by omega),⟨[],rfl,.nil⟩,fun k2 hk2=>Or.inr (by simp at hk2;subst hk2;exact ⟨k,hk⟩),?_,h7.os,h7.tape,h7.output,h7.size,?_⟩
        . simp only [execOp,Sem.run_bind,he,Instr.storeAt,Instr.sureAddr,Sem.run_pure,Result.andThen_ok];rw [h5];rfl
        . intro b2 k2 hk2;simp only [aC] at hk2;split at hk2
          . cases hk2;exact ⟨n,_,hn',Or.inl ⟨b,k,hk,hn'⟩,h6,h4.over hzc off⟩
          . cases hk2
        . intro m hm1 hm2;refine h7.block m hm1 fun e=>hm2 ⟨b,⟨b,k.t,over k.cs off z.cells⟩,by simp only [aC,if_true],by rw [e];exact hn'⟩
      . cases hk'
    . cases hk'
  . exact ae.fail
 case nilCheck x =>
  refine ae.bind ae.opt fun y hy=>?_
  split
  . rename_i b off
    refine ae.pure (OpR.pure fun hp ρ a w hev hm=>?_)
    have h:=hev x (by simp [Op.operands]) _ hy
    obtain ⟨n,hn,he⟩:=h;refine ⟨.pointer (some ⟨n,off,none⟩),?_,n,hn,rfl⟩;simp [execOp,he]
  . exact ae.fail
 case binOp op t x y yt =>
  refine ae.bind ae.opt fun p hp1=>ae.bind ae.opt fun q hq=>ae.bind (sO path op t p q) fun r hr=>ae.pure (OpR.pure fun hp ρ a w hev hm=>?_)
  obtain ⟨z,h1,h2⟩:=hr hp ρ _ _ w (hev x (by simp [Op.operands]) _ hp1) (hev y (by simp [Op.operands]) _ hq) x y
  refine ⟨z,?_,h2⟩;simp only [execOp];rw [Sem.run_bind,h1];rfl
 case unOp op t x =>
  refine ae.bind ae.opt fun p hp1=>?_
  split
  . rename_i k r
    refine ae.bind (ae.mkBin _ _ _ _) fun q hq=>ae.pure (OpR.pure fun hp ρ a w hev hm=>?_)
    have h:a.eval x=.int k (r.val v):=hev x (by simp [Op.operands]) _ hp1
    refine ⟨.int k (k.wrap (0-r.val v)),?_,?_⟩
    . simp [execOp,h,Op.unary,Op.intArith]
    . simp only [aG,aS,aF];rw [hq];rfl
  . rename_i r
    refine ae.bind (ae.mkIte _ _ _) fun q hq=>ae.pure (OpR.pure fun hp ρ a w hev hm=>?_)
    have h:a.eval x=.bool (decide (r.val v≠0)):=hev x (by simp [Op.operands]) _ hp1
    refine ⟨.bool (!decide (r.val v≠0)),?_,?_⟩
    . simp only [execOp,h,Op.unary,Sem.run_bind,Sem.run_pure,Result.andThen_ok]
    . simp only [aG,aS,aF];rw [hq]
      by_cases h0:r.val v=0<;>simp [h0,dF]
  . exact ae.fail
 case convert s d x =>
  refine ae.bind ae.opt fun p hp1=>?_
  split
  . rename_i us k k' r hus hud
    refine ae.bind (ae.mkWrap _ _) fun q hq=>ae.pure (OpR.pure fun hp ρ a w hev hm=>?_)
    have h:a.eval x=.int k' (r.val v):=hev x (by simp [Op.operands]) _ hp1
    refine ⟨.int k (k.wrap (r.val v)),?_,?_⟩
    . simp [execOp,h,convert,run_underlying hus,run_underlying hud,Conv.intToInt]
    . simp only [aG,aS,aF];rw [hq]
  . exact ae.fail
 case fieldAddr t x i =>
  refine ae.bind ae.opt fun p hp1=>ae.bind ae.opt fun f hf=>?_
  split
  . rename_i b off n hsz
    refine ae.ite (fun _=>ae.fail) (fun hn0=>ae.pure (OpR.pure fun hp ρ a w hev hm=>?_))
    obtain ⟨n',hn',he⟩:=hev x (by simp [Op.operands]) _ hp1
    refine ⟨.pointer (some ⟨n',off+f.offset,none⟩),?_,n',hn',rfl⟩;unfold wH at hf;split at hf
    . rename_i fs hu
      simp only [execOp,Sem.run_bind,he,Instr.fieldAt,run_underlying hu,Result.andThen_ok,hf,Instr.sureAddr,Sem.run_pure,fieldPlace,dE hsz,hn0,if_false,rU]
    . cases hf
  . exact ae.fail
 case field t x i =>
  refine ae.bind ae.opt fun p hp1=>ae.bind ae.opt fun f hf=>?_
  split
  . rename_i cs
    refine ae.bind ae.opt fun z hz=>ae.pure (OpR.pure fun hp ρ a w hev hm=>?_)
    obtain ⟨ys,he,hr⟩:=hev x (by simp [Op.operands]) _ hp1
    obtain ⟨q,h1,h2⟩:=tV (P:=P) (w:=w) hr hz;refine ⟨q,?_,h2⟩;unfold wH at hf;split at hf
    . rename_i fs hu
      simp only [execOp,Sem.run_bind,he,Instr.field,run_underlying hu,Result.andThen_ok,hf,asAgg,Sem.run_pure,h1]
    . cases hf
  . exact ae.fail
 case indexAddr t x i =>
  refine ae.bind ae.opt fun p hp1=>ae.bind ae.opt fun j hj=>?_
  split
  . rename_i len e b off k z hu
    refine ae.bind ae.opt fun n hsz=>ae.ite (fun hb=>ae.pure (OpR.pure fun hp ρ a w hev hm=>?_)) (fun _=>ae.fail)
    obtain ⟨n',hn',he⟩:=hev x (by simp [Op.operands]) _ hp1
    have hi:a.eval i=.int k z:=hev i (by simp [Op.operands]) _ hj
    refine ⟨.pointer (some ⟨n',off+z.toNat*n,none⟩),?_,n',hn',rfl⟩;simp [execOp,he,hi,Instr.indexAt,asIntOf,run_underlying hu,Instr.sureAddr,dE hsz,hb.1,hb.2,rU]
  . rename_i e b off len cap k z hu
    refine ae.bind ae.opt fun n hsz=>ae.ite (fun hb=>ae.pure (OpR.pure fun hp ρ a w hev hm=>?_)) (fun _=>ae.fail)
    obtain ⟨n',hn',he⟩:=hev x (by simp [Op.operands]) _ hp1
    have hi:a.eval i=.int k z:=hev i (by simp [Op.operands]) _ hj
    refine ⟨.pointer (some ⟨n',off+z.toNat*n,none⟩),?_,n',hn',rfl⟩;simp [execOp,he,hi,Instr.indexAt,asIntOf,run_underlying hu,Instr.sureAddr,dE hsz,hb.1,hb.2,rU]
  . exact ae.fail
 case index t x i =>
  refine ae.bind ae.opt fun p hp1=>ae.bind ae.opt fun j hj=>?_
  split
  . rename_i len e cs k z hu
    refine ae.bind ae.opt fun n hsz=>ae.ite (fun hb=>ae.bind ae.opt fun q hq=>ae.pure (OpR.pure fun hp ρ a w hev hm=>?_)) (fun _=>ae.fail)
    obtain ⟨ys,he,hr⟩:=hev x (by simp [Op.operands]) _ hp1
    have hi:a.eval i=.int k z:=hev i (by simp [Op.operands]) _ hj
    obtain ⟨y,h1,h2⟩:=tV (P:=P) (w:=w) hr hq;refine ⟨y,?_,h2⟩;simp [execOp,he,hi,Instr.index,asIntOf,run_underlying hu,dE hsz,hb.1,hb.2,h1]
  . exact ae.fail
 case extract x i =>
  refine ae.bind ae.opt fun p hp1=>?_
  split
  . rename_i xs
    refine ae.bind ae.opt fun q hq=>ae.pure (OpR.pure fun hp ρ a w hev hm=>?_)
    obtain ⟨ys,he,hr⟩:=hev x (by simp [Op.operands]) _ hp1
    obtain ⟨y,h1,h2⟩:=hr.get hq;refine ⟨y,?_,h2⟩;simp [execOp,he,Instr.extract,h1]
  . exact ae.fail
 case buildSlice t len parts =>
  split
  . rename_i e hu
    refine ae.bind ae.opt fun n hsz=>ae.bind ae.opt fun z hz=>ae.bind ae.opt fun ps hps=>ae.ite (fun _=>ae.fail) (fun hc=>ae.bind ae.opt fun cs hf=>ae.pure fun hp ρ a w hev hi hn hlt hfr hm=>?_)
    simp only [not_or,Decidable.not_not] at hc;obtain ⟨hc1,hc2,hc3⟩:=hc;obtain ⟨zv,hzv,hr⟩:=jP hz v ρ w;have hzl:z.length=zv.cells.size:=by have:=hr.length;rw [Array.length_toList (xs:=zv.cells)] at this;exact this
    have hn0:0<n:=by
     rcases Nat.eq_zero_or_pos n with h|h
     . subst h;simp at hc2
     . exact h
    have hparts:aX (oN v ρ) ps ((parts.map fun p=>(p.1,a.eval p.2)).toList):=by
     rw [Array.toList_map];exact jh hps fun x hx=>hev x (by simpa [Op.operands] using hx)
    have hbase:∀ l:List Nat,aX (aF v ρ) (l.map fun i=>z.getD (i%z.length) .top) (l.map fun i=>zv.cells[i%zv.cells.size]!):=by
     intro l
     induction l with
     | nil=>exact .nil
     | cons i l ih =>
      refine .cons ?_ ih;have hlt:i%z.length<z.length:=Nat.mod_lt _ (by omega)
      obtain ⟨y,h1,h2⟩:=hr.get (List.getElem?_eq_getElem hlt);have e1:z.getD (i%z.length) .top=z[i%z.length]:=by simp [List.getD_eq_getElem?_getD,List.getElem?_eq_getElem hlt]
      have e2:zv.cells[i%zv.cells.size]! = y:=by
       rw [<-hzl];rw [Array.getElem!_eq_getD,Array.getD_eq_getD_getElem?];rw [Array.getElem?_toList] at h1;rw [h1];rfl
      show aF v ρ (z.getD (i%z.length) .top) (zv.cells[i%zv.cells.size]!);rw [e1,e2];exact h2
    obtain ⟨ys,h1,h2⟩:=mE hparts (hbase (List.range (len*n))) hf;refine Does.value (x:=.slice (some ⟨w.heap.size,0,none⟩) len len) (w':={ w with heap:=w.heap.push (.cells ⟨ys⟩ e) }) ?_ ⟨_,Res.new hi hn h2 ⟨w.heap.size,by simp [dR],rfl⟩⟩
    unfold dV at hsz;cases hie:P.info? e with
    | none=>rw [hie] at hsz;cases hsz
    | some ie =>
     rw [hie] at hsz;cases hsz;have hz0:ie.zero=some zv:=by
      unfold zeroValue at hzv;rw [Sem.run_bind,dK hie,Result.andThen_ok] at hzv;cases h0:ie.zero with
      | none=>rw [h0] at hzv;cases hzv
      | some z0=>rw [h0] at hzv;cases hzv;rfl
     have hfill:Instr.fill (fun i=>some (i*ie.size,ie.size)) ((Array.range (len*ie.size)).map (zv.cells[·%zv.cells.size]!)) (parts.map fun p=>(p.1,a.eval p.2)).toList=some ⟨ys⟩:=by
      rw [<-h1];congr 1;apply Array.ext'
      simp
     have:=run_buildSlice w t e len (parts.map fun p=>(p.1,a.eval p.2)) ⟨ys⟩ ie zv hu hie hz0 hc1 hc2 hfill
     simp only [execOp,Sem.run_bind];have e1:(parts.map fun (x:Nat × Operand)=>match x with|(i,x)=>(i,a.eval x))=parts.map fun p=>(p.1,a.eval p.2):=rfl
     rw [e1,this];rfl
  . exact ae.fail
 case makeFunc fn first captured =>
  cases fn<;>simp only [wG]<;>try exact ae.fail
  rename_i f
  refine ae.ite (fun h0=>ae.bind ae.opt fun xs hxs=>ae.bind ae.opt fun bs hbs=>ae.pure (OpR.pure fun hp ρ a w hev hm=>?_)) (fun _=>ae.fail)
  have hr:=ky (v:=v) (ρ:=ρ) (a:=a) hxs fun x hx=>hev x (by simp [Op.operands];exact Or.inr (by simpa using hx))
  obtain ⟨ns,h1,h2⟩:=qG hbs hr;refine ⟨.func (.func f) #[] (captured.map a.eval),?_,ns,h1,?_⟩
  . have:first=#[]:=Array.eq_empty_of_size_eq_zero h0
    subst this;simp [execOp,Instr.makeFunc]
  . congr 1
    apply Array.ext'
    simpa using h2
 case call c =>
  refine ae.bind ae.opt fun xs hxs=>?_
  have hargs:∀ (ρ:Nat->Option Nat) (a:Act),(∀ x∈(Op.call c).operands.toList,∀ sv,ev x=some sv->aG v ρ sv (a.eval x))->aX (aG v ρ) xs ((c.args.map a.eval).toList):=fun ρ a hev=>by
   rw [Array.toList_map];exact ky hxs fun x hx=>hev x (by simp only [Op.operands,Call.operands,Array.toList_append];exact List.mem_append_right _ hx)
  split
  . rename_i f hcal
    refine ae.bind ae.opt fun g hg=>?_
    split
    . rename_i fn caps
      refine ae.imp (rM hs hc path fn _ mem nb) fun r hr hp ρ a w hev hi hn hlt hfr hm=>?_
      obtain ⟨ns,hns,he⟩:=hev f (by simp [Op.operands,Call.operands,hcal]) _ hg
      obtain ⟨ho,hcalls⟩:=hr hp ρ w ((c.args.map a.eval).toList++ns.map fun n=>Value.pointer (some ⟨n,0,none⟩)) ((hargs ρ a hev).append (yM hns)) hi hfr hm
      refine Does.call (f:=fn) (args:=⟨(c.args.map a.eval).toList++ns.map fun n=>Value.pointer (some ⟨n,0,none⟩)⟩) ?_ (hcalls.mono fun e w' ⟨x,h1,h2⟩=>⟨x,h1,ρ,h2 nm⟩)
      simp only [execOp,resolve,hcal,he,Deferred.ofValue,Sem.run_bind,Sem.run_pure,Result.andThen_ok,invoke];rw [tF ho]
      congr 2
      apply Array.ext'
      simp
    . exact ae.fail
  . rename_i hcal
    split
    . rename_i k r l
      refine ae.bind ae.opt fun rs hrs=>ae.bind (lX (P:=P) k rs r) fun q hq=>ae.pure (OpR.pure fun hp ρ a w hev hm=>?_)
      have hA:=hargs ρ a hev;generalize hB:(c.args.map a.eval)=B at hA;obtain ⟨B⟩:=B;cases hA with
      | cons h1 h2 =>
       rename_i y m
       simp only [aG,aS,aF] at h1;subst h1;have:=hq m w (kG hrs h2);refine ⟨.int k (q.val v),?_,rfl⟩;simp [execOp,resolve,hcal,invoke,builtin,hB,Builtin.min_,this]
    . exact ae.fail
  . rename_i hcal
    split
    . rename_i k r l
      refine ae.bind ae.opt fun rs hrs=>ae.bind (mO (P:=P) k rs r) fun q hq=>ae.pure (OpR.pure fun hp ρ a w hev hm=>?_)
      have hA:=hargs ρ a hev;generalize hB:(c.args.map a.eval)=B at hA;obtain ⟨B⟩:=B;cases hA with
      | cons h1 h2 =>
       rename_i y m
       simp only [aG,aS,aF] at h1;subst h1;have:=hq m w (kG hrs h2);refine ⟨.int k (q.val v),?_,rfl⟩;simp [execOp,resolve,hcal,invoke,builtin,hB,Builtin.max_,this]
    . exact ae.fail
  . rename_i hcal
    split
    . rename_i b off n cap e hu
      refine ae.pure (OpR.pure fun hp ρ a w hev hm=>?_)
      have hA:=hargs ρ a hev;generalize hB:(c.args.map a.eval)=B at hA;obtain ⟨B⟩:=B;cases hA with
      | cons h1 h2 =>
       cases h2;obtain ⟨n',h3,rfl⟩:=h1;refine ⟨.int .i64 n,?_,rfl⟩;cases ht:c.argTypes[0]? with
       | none=>rw [ht] at hu;cases hu
       | some t =>
        rw [ht] at hu;have hu':P.underlying t=some (.slice e):=hu;simp [execOp,resolve,hcal,invoke,builtin,hB,Builtin.len_,ht,run_underlying hu',goInt]
    . exact ae.fail
  . exact ae.fail
 all_goals exact ae.fail
end
