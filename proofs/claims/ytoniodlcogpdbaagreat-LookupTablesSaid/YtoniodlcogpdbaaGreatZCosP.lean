/- The contracts of altitude, azimuth and Valid of the cosine formula, and of the reference's. -/
import Derived.Test.YtoniodlcogpdbaaGreatZUnMB
import Derived.Test.YtoniodlcogpdbaaGreatZSpE
import Derived.Test.YtoniodlcogpdbaaGreatZUnit
set_option linter.unusedVariables false
set_option linter.unusedSimpArgs false
set_option maxRecDepth 100000
namespace Go.Proofs.YtoniodlcogpdbaaGreat
open Go.RowKit Alm Sx
theorem ko {X:Cx} {v:Nat->Int} {ext:Ext} (he:jG X ext) {l:List Nd} (hs:gW X v l.reverse) {ps:List (Nat × Rf)} (hp:∀ q∈ps,v q.1=q.2.val v) {k j:Nat} (h:Rf.eq ((norm ext ps [] l).rep (.n k)) ((norm ext ps [] l).rep (.n j))=true):v k=v j:=by
 have a:=jP (jE he hs hp aA) (.n k);have b:=jP (jE he hs hp aA) (.n j);rw [Rf.eq_eq h] at a;exact a.symm.trans b
theorem bb2 {p q:Prop} [Decidable p] [Decidable q]:(if b2i (decide p)≠0 then b2i (decide q) else 0)=b2i (decide (p/\q)):=by
 by_cases h1:p<;>by_cases h2:q<;>simp [b2i,h1,h2]
def fB (a b c d e f:Int):Prop:=(-5400000<=a/\a<=b/\b<=5400000)/\(-5400000<=c/\c<=d/\d<=5400000)/\(-1099511627776<=e/\e<=f/\f<=1099511627776)
instance (a b c d e f:Int):Decidable (fB a b c d e f):=by unfold fB;infer_instance
def jy (a b c d e f:Int):List Int:=[Br (mQ a b c d e f).1,vT (mQ a b c d e f).2,0]
theorem Wx (x y z:Int):[x,y,z].getD 0 0=x/\[x,y,z].getD 1 0=y/\[x,y,z].getD 2 0=z:=⟨rfl,rfl,rfl⟩
theorem jD (a b c d e f:Int):(jy a b c d e f).getD 0 0=Br (mQ a b c d e f).1/\(jy a b c d e f).getD 1 0=vT (mQ a b c d e f).2/\(jy a b c d e f).getD 2 0=0:=Wx _ _ _
def azY (c d e f:Int):IV:=uN (uM (uC c d) (uS e f))
def azX (a b c d e f:Int):IV:=uD (uM (uS c d) (uC a b)) (uM (uM (uC c d) (uC e f)) (uS a b))
def azV (a b c d e f:Int):List Int:=[dJ (azY c d e f).1 (azY c d e f).2 (azX a b c d e f).1 (azX a b c d e f).2,eZ (azY c d e f).1 (azY c d e f).2 (azX a b c d e f).1 (azX a b c d e f).2,0]
theorem ng (a b c d e f:Int):(azV a b c d e f).getD 0 0=dJ (azY c d e f).1 (azY c d e f).2 (azX a b c d e f).1 (azX a b c d e f).2/\(azV a b c d e f).getD 1 0=eZ (azY c d e f).1 (azY c d e f).2 (azX a b c d e f).1 (azX a b c d e f).2/\(azV a b c d e f).getD 2 0=0:=Wx _ _ _
def Td:List Sx.Spec:=[XZ,acw,X5,YY,ZU,WA,BC,Wh]
theorem Jd (args:List Int):∀ s∈Td,aR Tryz.prog (cxE args) s:=by
 intro s hs;simp only [Td,List.mem_cons,List.not_mem_nil,or_false] at hs;rcases hs with rfl|rfl|rfl|rfl|rfl|rfl|rfl|rfl
 . exact iY (by decide) (Kt args)
 . exact iY (by decide) (Sq args)
 . exact iY (by decide) (JI args)
 . exact iY (by decide) (IJ args)
 . exact iY (by decide) (J6 args)
 . exact iY (by decide) (Qr args)
 . exact iY (by decide) (zX args)
 . refine ⟨ours _ _ _ Tryz.func114 rfl (by kernel_rfl),fun xs hp w=>?_⟩
   obtain ⟨a,b,rfl,h⟩:=Po hp;exact Vy a b w h
def ql:List Nd:=[
 .arg 0,
 .arg 1,
 .arg 2,
 .arg 3,
 .arg 4,
 .arg 5,
 .app 5 0 [.n 0,.n 1],
 .app 5 1 [.n 0,.n 1],
 .app 5 2 [.n 0,.n 1],
 .app 6 0 [.n 0,.n 1],
 .app 6 1 [.n 0,.n 1],
 .app 6 2 [.n 0,.n 1],
 .bin .eql .i64 (.n 8) (.c 0),
 .ite (.n 12) (.c 0) (.c 1),
 .ite (.n 12) (.n 11) (.n 8),
 .app 5 0 [.n 2,.n 3],
 .app 5 1 [.n 2,.n 3],
 .app 5 2 [.n 2,.n 3],
 .bin .eql .i64 (.n 14) (.c 0),
 .ite (.n 18) (.c 0) (.c 1),
 .ite (.n 18) (.n 17) (.n 14),
 .app 6 0 [.n 2,.n 3],
 .app 6 1 [.n 2,.n 3],
 .app 6 2 [.n 2,.n 3],
 .bin .eql .i64 (.n 20) (.c 0),
 .ite (.n 24) (.c 0) (.c 1),
 .ite (.n 24) (.n 23) (.n 20),
 .app 5 0 [.n 4,.n 5],
 .app 5 1 [.n 4,.n 5],
 .app 5 2 [.n 4,.n 5],
 .bin .eql .i64 (.n 26) (.c 0),
 .ite (.n 30) (.c 0) (.c 1),
 .ite (.n 30) (.n 29) (.n 26),
 .app 6 0 [.n 4,.n 5],
 .app 6 1 [.n 4,.n 5],
 .app 6 2 [.n 4,.n 5],
 .bin .eql .i64 (.n 32) (.c 0),
 .ite (.n 36) (.c 0) (.c 1),
 .ite (.n 36) (.n 35) (.n 32),
 .app 0 0 [.n 6,.n 7,.n 15,.n 16],
 .app 0 1 [.n 6,.n 7,.n 15,.n 16],
 .app 0 2 [.n 6,.n 7,.n 15,.n 16],
 .bin .eql .i64 (.n 38) (.c 0),
 .ite (.n 42) (.c 0) (.c 1),
 .ite (.n 42) (.n 41) (.n 38),
 .app 0 0 [.n 9,.n 10,.n 21,.n 22],
 .app 0 1 [.n 9,.n 10,.n 21,.n 22],
 .app 0 2 [.n 9,.n 10,.n 21,.n 22],
 .bin .eql .i64 (.n 44) (.c 0),
 .ite (.n 48) (.c 0) (.c 1),
 .ite (.n 48) (.n 47) (.n 44),
 .app 0 0 [.n 45,.n 46,.n 33,.n 34],
 .app 0 1 [.n 45,.n 46,.n 33,.n 34],
 .app 0 2 [.n 45,.n 46,.n 33,.n 34],
 .bin .eql .i64 (.n 50) (.c 0),
 .ite (.n 54) (.c 0) (.c 1),
 .ite (.n 54) (.n 53) (.n 50),
 .app 1 0 [.n 39,.n 40,.n 51,.n 52],
 .app 1 1 [.n 39,.n 40,.n 51,.n 52],
 .app 1 2 [.n 39,.n 40,.n 51,.n 52],
 .bin .eql .i64 (.n 56) (.c 0),
 .ite (.n 60) (.c 0) (.c 1),
 .ite (.n 60) (.n 59) (.n 56),
 .bin .neq .i64 (.n 62) (.c 0),
 .ite (.n 63) (.c 0) (.c 1),
 .app 36 0 [.n 57,.n 58],
 .app 36 1 [.n 57,.n 58],
 .app 36 2 [.n 57,.n 58],
 .ite (.n 63) (.n 62) (.n 67),
 .ite (.n 63) (.c 0) (.n 65),
 .ite (.n 63) (.c 0) (.n 66)]
def TG:List Vc:=[
 ⟨[],.pre 5 [.n 0,.n 1]⟩,
 ⟨[],.pre 6 [.n 0,.n 1]⟩,
 ⟨[],.pre 5 [.n 2,.n 3]⟩,
 ⟨[],.pre 6 [.n 2,.n 3]⟩,
 ⟨[],.pre 5 [.n 4,.n 5]⟩,
 ⟨[],.pre 6 [.n 4,.n 5]⟩,
 ⟨[],.pre 0 [.n 6,.n 7,.n 15,.n 16]⟩,
 ⟨[],.pre 0 [.n 9,.n 10,.n 21,.n 22]⟩,
 ⟨[],.pre 0 [.n 45,.n 46,.n 33,.n 34]⟩,
 ⟨[],.pre 1 [.n 39,.n 40,.n 51,.n 52]⟩,
 ⟨[(.n 64,true)],.pre 36 [.n 57,.n 58]⟩]
theorem RY:whole Tryz.prog Td 20 40 94 [(true,[some .i64,some .i64,some .i64,some .i64,some .i64,some .i64])]=some (.tup [.agg [.int .i64 (.n 69),.int .i64 (.n 70)],.c (.int .i64 (.n 68))],⟨ql.reverse,TG.reverse⟩):=by kernel_rfl
theorem Tx:wfN ql.reverse=true:=by kernel_rfl
theorem YP (a b c d m n:Int) (w:World) (h1:aQ a b=true) (h2:aQ c d=true) (h3:aQ m n=true):Calls Tryz.prog 94 #[.agg #[.int .i64 a,.int .i64 b,.int .i64 c,.int .i64 d,.int .i64 m,.int .i64 n]] w fun e w'=>e=.returned (.tuple #[.agg #[.int .i64 ((jy a b c d m n).getD 0 0),.int .i64 ((jy a b c d m n).getD 1 0)],.int .i64 ((jy a b c d m n).getD 2 0)])/\Below w.heap.size w w':=by
 refine Sx.calls (X:=cxE [a,b,c,d,m,n]) dP (Jd _) RY Tx (fun v hs=>?_) w
 have e0:v 0=a:=aa hs 0 rfl;have e1:v 1=b:=aa hs 1 rfl;have e6:v 6=(aM 5 [v 0,v 1]).getD 0 0:=aa hs 6 rfl;have e7:v 7=(aM 5 [v 0,v 1]).getD 1 0:=aa hs 7 rfl;have P6:((v 6,v 7):IV)=uS a b:=by rw [e6,e7,e0,e1];rfl
 have U6:U (v 6,v 7):=by rw [P6];exact U_S _ _
 have e9:v 9=(aM 6 [v 0,v 1]).getD 0 0:=aa hs 9 rfl;have e10:v 10=(aM 6 [v 0,v 1]).getD 1 0:=aa hs 10 rfl;have P9:((v 9,v 10):IV)=uC a b:=by rw [e9,e10,e0,e1];rfl
 have U9:U (v 9,v 10):=by rw [P9];exact U_C _ _
 have e2:v 2=c:=aa hs 2 rfl;have e3:v 3=d:=aa hs 3 rfl;have e15:v 15=(aM 5 [v 2,v 3]).getD 0 0:=aa hs 15 rfl;have e16:v 16=(aM 5 [v 2,v 3]).getD 1 0:=aa hs 16 rfl;have P15:((v 15,v 16):IV)=uS c d:=by rw [e15,e16,e2,e3];rfl
 have U15:U (v 15,v 16):=by rw [P15];exact U_S _ _
 have e21:v 21=(aM 6 [v 2,v 3]).getD 0 0:=aa hs 21 rfl;have e22:v 22=(aM 6 [v 2,v 3]).getD 1 0:=aa hs 22 rfl;have P21:((v 21,v 22):IV)=uC c d:=by rw [e21,e22,e2,e3];rfl
 have U21:U (v 21,v 22):=by rw [P21];exact U_C _ _
 have e4:v 4=m:=aa hs 4 rfl;have e5:v 5=n:=aa hs 5 rfl;have e33:v 33=(aM 6 [v 4,v 5]).getD 0 0:=aa hs 33 rfl;have e34:v 34=(aM 6 [v 4,v 5]).getD 1 0:=aa hs 34 rfl;have P33:((v 33,v 34):IV)=uC m n:=by rw [e33,e34,e4,e5];rfl
 have U33:U (v 33,v 34):=by rw [P33];exact U_C _ _
 have e39:v 39=(aM 0 [v 6,v 7,v 15,v 16]).getD 0 0:=aa hs 39 rfl;have e40:v 40=(aM 0 [v 6,v 7,v 15,v 16]).getD 1 0:=aa hs 40 rfl;have P39:((v 39,v 40):IV)=uM (v 6,v 7) (v 15,v 16):=by rw [e39,e40];rfl
 have U39:U (v 39,v 40):=by rw [P39];exact (U_M U6 U15).2.2
 have e41:v 41=(aM 0 [v 6,v 7,v 15,v 16]).getD 2 0:=aa hs 41 rfl;have E41:v 41=0:=e41.trans (U_M U6 U15).2.1;have e45:v 45=(aM 0 [v 9,v 10,v 21,v 22]).getD 0 0:=aa hs 45 rfl;have e46:v 46=(aM 0 [v 9,v 10,v 21,v 22]).getD 1 0:=aa hs 46 rfl;have P45:((v 45,v 46):IV)=uM (v 9,v 10) (v 21,v 22):=by rw [e45,e46];rfl
 have U45:U (v 45,v 46):=by rw [P45];exact (U_M U9 U21).2.2
 have e47:v 47=(aM 0 [v 9,v 10,v 21,v 22]).getD 2 0:=aa hs 47 rfl;have E47:v 47=0:=e47.trans (U_M U9 U21).2.1;have e51:v 51=(aM 0 [v 45,v 46,v 33,v 34]).getD 0 0:=aa hs 51 rfl;have e52:v 52=(aM 0 [v 45,v 46,v 33,v 34]).getD 1 0:=aa hs 52 rfl;have P51:((v 51,v 52):IV)=uM (v 45,v 46) (v 33,v 34):=by rw [e51,e52];rfl
 have U51:U (v 51,v 52):=by rw [P51];exact (U_M U45 U33).2.2
 have e53:v 53=(aM 0 [v 45,v 46,v 33,v 34]).getD 2 0:=aa hs 53 rfl;have E53:v 53=0:=e53.trans (U_M U45 U33).2.1;have e57:v 57=(aM 1 [v 39,v 40,v 51,v 52]).getD 0 0:=aa hs 57 rfl;have e58:v 58=(aM 1 [v 39,v 40,v 51,v 52]).getD 1 0:=aa hs 58 rfl;have P57:((v 57,v 58):IV)=uA (v 39,v 40) (v 51,v 52):=by rw [e57,e58];rfl
 have F57:fxV (v 57) (v 58)=true:=by have:=(U_A U39 U51).2.2;rw [<-P57] at this;exact this
 have e59:v 59=(aM 1 [v 39,v 40,v 51,v 52]).getD 2 0:=aa hs 59 rfl;have E59:v 59=0:=e59.trans (U_A U39 U51).2.1;have PI:((v 57,v 58):IV)=mQ a b c d m n:=by rw [P57,P39,P51,P45,P6,P9,P15,P21,P33];rfl
 have mt:=uh a b c d m n;rw [<-PI] at mt;have e65:v 65=(aM 36 [v 57,v 58]).getD 0 0:=aa hs 65 rfl;have e66:v 66=(aM 36 [v 57,v 58]).getD 1 0:=aa hs 66 rfl;have e67:v 67=(aM 36 [v 57,v 58]).getD 2 0:=aa hs 67 rfl;have hE:yK (v 57) (v 58)=0:=if_pos mt;have V0:v 65=Br (v 57):=e65.trans (if_pos hE);have V1:v 66=vT (v 58):=e66.trans (if_pos hE);have V2:v 67=0:=e67.trans hE;have i0:v 57=(mQ a b c d m n).1:=congrArg Prod.fst PI;have i1:v 58=(mQ a b c d m n).2:=congrArg Prod.snd PI;have z68:v 68=0:=ax (X:=cxE [a,b,c,d,m,n]) (v:=v) (l:=ql) (jC _) hs (k:=68) (r:=.c 0) (ps:=[(41,.c 0),(47,.c 0),(53,.c 0),(59,.c 0),(67,.c 0)]) (nz:=[]) (ae E41 (ae E47 (ae E53 (ae E59 (ae V2 av))))) aA (by kernel_rfl)
 have z69:v 69=v 65:=ko (X:=cxE [a,b,c,d,m,n]) (v:=v) (l:=ql) (jC _) hs (k:=69) (j:=65) (ps:=[(41,.c 0),(47,.c 0),(53,.c 0),(59,.c 0),(67,.c 0)]) (ae E41 (ae E47 (ae E53 (ae E59 (ae V2 av))))) (by kernel_rfl)
 have z70:v 70=v 66:=ko (X:=cxE [a,b,c,d,m,n]) (v:=v) (l:=ql) (jC _) hs (k:=70) (j:=66) (ps:=[(41,.c 0),(47,.c 0),(53,.c 0),(59,.c 0),(67,.c 0)]) (ae E41 (ae E47 (ae E53 (ae E59 (ae V2 av))))) (by kernel_rfl)
 have A0:aQ (v 0) (v 1)=true:=by rw [e0,e1];exact h1
 have A2:aQ (v 2) (v 3)=true:=by rw [e2,e3];exact h2
 have A4:aQ (v 4) (v 5)=true:=by rw [e4,e5];exact h3
 refine ⟨bB ?_,?_⟩
 . exact ag (fun _=>A0) (ag (fun _=>A0) (ag (fun _=>A2) (ag (fun _=>A2) (ag (fun _=>A4) (ag (fun _=>A4) (ag (fun _=>⟨dR U6,dR U15⟩) (ag (fun _=>⟨dR U9,dR U21⟩) (ag (fun _=>⟨dR U45,dR U33⟩) (ag (fun _=>⟨dR U39,dR U51⟩) (ag (fun _=>F57) (bu)))))))))))
 . intro x hx0;have hx':=bM (v:=v) (by rfl) hx0
   rw [hx'];show Value.tuple #[.agg #[.int .i64 (v 69),.int .i64 (v 70)],.int .i64 (v 68)]=_;rw [(jD a b c d m n).1,(jD a b c d m n).2.1,(jD a b c d m n).2.2,z68,z69,z70,V0,V1,i0,i1]
def oV:List Nd:=[
 .arg 0,
 .arg 1,
 .arg 2,
 .arg 3,
 .arg 4,
 .arg 5,
 .app 5 0 [.n 0,.n 1],
 .app 5 1 [.n 0,.n 1],
 .app 5 2 [.n 0,.n 1],
 .app 6 0 [.n 0,.n 1],
 .app 6 1 [.n 0,.n 1],
 .app 6 2 [.n 0,.n 1],
 .bin .eql .i64 (.n 8) (.c 0),
 .ite (.n 12) (.c 0) (.c 1),
 .ite (.n 12) (.n 11) (.n 8),
 .app 5 0 [.n 2,.n 3],
 .app 5 1 [.n 2,.n 3],
 .app 5 2 [.n 2,.n 3],
 .bin .eql .i64 (.n 14) (.c 0),
 .ite (.n 18) (.c 0) (.c 1),
 .ite (.n 18) (.n 17) (.n 14),
 .app 6 0 [.n 2,.n 3],
 .app 6 1 [.n 2,.n 3],
 .app 6 2 [.n 2,.n 3],
 .bin .eql .i64 (.n 20) (.c 0),
 .ite (.n 24) (.c 0) (.c 1),
 .ite (.n 24) (.n 23) (.n 20),
 .app 5 0 [.n 4,.n 5],
 .app 5 1 [.n 4,.n 5],
 .app 5 2 [.n 4,.n 5],
 .bin .eql .i64 (.n 26) (.c 0),
 .ite (.n 30) (.c 0) (.c 1),
 .ite (.n 30) (.n 29) (.n 26),
 .app 6 0 [.n 4,.n 5],
 .app 6 1 [.n 4,.n 5],
 .app 6 2 [.n 4,.n 5],
 .bin .eql .i64 (.n 32) (.c 0),
 .ite (.n 36) (.c 0) (.c 1),
 .ite (.n 36) (.n 35) (.n 32),
 .app 0 0 [.n 21,.n 22,.n 27,.n 28],
 .app 0 1 [.n 21,.n 22,.n 27,.n 28],
 .app 0 2 [.n 21,.n 22,.n 27,.n 28],
 .bin .eql .i64 (.n 38) (.c 0),
 .ite (.n 42) (.c 0) (.c 1),
 .ite (.n 42) (.n 41) (.n 38),
 .app 8 0 [.n 39,.n 40],
 .ite (.n 45) (.c 0) (.c 1),
 .ite (.n 46) (.c 0) (.c 1),
 .bin .sub .i64 (.c 0) (.n 40),
 .bin .sub .i64 (.c 0) (.n 39),
 .ite (.n 46) (.c 0) (.n 48),
 .ite (.n 46) (.c 0) (.n 49),
 .bin .eql .i64 (.n 44) (.c 0),
 .ite (.n 52) (.c 0) (.c 1),
 .ite (.n 52) (.n 46) (.n 44),
 .app 0 0 [.n 15,.n 16,.n 9,.n 10],
 .app 0 1 [.n 15,.n 16,.n 9,.n 10],
 .app 0 2 [.n 15,.n 16,.n 9,.n 10],
 .bin .eql .i64 (.n 54) (.c 0),
 .ite (.n 58) (.c 0) (.c 1),
 .ite (.n 58) (.n 57) (.n 54),
 .app 0 0 [.n 21,.n 22,.n 33,.n 34],
 .app 0 1 [.n 21,.n 22,.n 33,.n 34],
 .app 0 2 [.n 21,.n 22,.n 33,.n 34],
 .bin .eql .i64 (.n 60) (.c 0),
 .ite (.n 64) (.c 0) (.c 1),
 .ite (.n 64) (.n 63) (.n 60),
 .app 0 0 [.n 61,.n 62,.n 6,.n 7],
 .app 0 1 [.n 61,.n 62,.n 6,.n 7],
 .app 0 2 [.n 61,.n 62,.n 6,.n 7],
 .bin .eql .i64 (.n 66) (.c 0),
 .ite (.n 70) (.c 0) (.c 1),
 .ite (.n 70) (.n 69) (.n 66),
 .app 2 0 [.n 55,.n 56,.n 67,.n 68],
 .app 2 1 [.n 55,.n 56,.n 67,.n 68],
 .app 2 2 [.n 55,.n 56,.n 67,.n 68],
 .bin .eql .i64 (.n 72) (.c 0),
 .ite (.n 76) (.c 0) (.c 1),
 .ite (.n 76) (.n 75) (.n 72),
 .bin .neq .i64 (.n 78) (.c 0),
 .ite (.n 79) (.c 0) (.c 1),
 .app 7 0 [.n 50,.n 51,.n 73,.n 74],
 .app 7 1 [.n 50,.n 51,.n 73,.n 74],
 .app 7 2 [.n 50,.n 51,.n 73,.n 74],
 .ite (.n 79) (.n 78) (.n 83),
 .ite (.n 79) (.c 0) (.n 81),
 .ite (.n 79) (.c 0) (.n 82)]
def Zf:List Vc:=[
 ⟨[],.pre 5 [.n 0,.n 1]⟩,
 ⟨[],.pre 6 [.n 0,.n 1]⟩,
 ⟨[],.pre 5 [.n 2,.n 3]⟩,
 ⟨[],.pre 6 [.n 2,.n 3]⟩,
 ⟨[],.pre 5 [.n 4,.n 5]⟩,
 ⟨[],.pre 6 [.n 4,.n 5]⟩,
 ⟨[],.pre 0 [.n 21,.n 22,.n 27,.n 28]⟩,
 ⟨[],.pre 8 [.n 39,.n 40]⟩,
 ⟨[],.pre 0 [.n 15,.n 16,.n 9,.n 10]⟩,
 ⟨[],.pre 0 [.n 21,.n 22,.n 33,.n 34]⟩,
 ⟨[],.pre 0 [.n 61,.n 62,.n 6,.n 7]⟩,
 ⟨[],.pre 2 [.n 55,.n 56,.n 67,.n 68]⟩,
 ⟨[(.n 80,true)],.pre 7 [.n 50,.n 51,.n 73,.n 74]⟩]
theorem Zi:whole Tryz.prog Td 20 40 95 [(true,[some .i64,some .i64,some .i64,some .i64,some .i64,some .i64])]=some (.tup [.agg [.int .i64 (.n 85),.int .i64 (.n 86)],.c (.int .i64 (.n 84))],⟨oV.reverse,Zf.reverse⟩):=by kernel_rfl
theorem Yq:wfN oV.reverse=true:=by kernel_rfl
theorem acP (a b c d m n:Int) (w:World) (h1:aQ a b=true) (h2:aQ c d=true) (h3:aQ m n=true):Calls Tryz.prog 95 #[.agg #[.int .i64 a,.int .i64 b,.int .i64 c,.int .i64 d,.int .i64 m,.int .i64 n]] w fun e w'=>e=.returned (.tuple #[.agg #[.int .i64 ((azV a b c d m n).getD 0 0),.int .i64 ((azV a b c d m n).getD 1 0)],.int .i64 ((azV a b c d m n).getD 2 0)])/\Below w.heap.size w w':=by
 refine Sx.calls (X:=cxE [a,b,c,d,m,n]) dP (Jd _) Zi Yq (fun v hs=>?_) w
 have e0:v 0=a:=aa hs 0 rfl;have e1:v 1=b:=aa hs 1 rfl;have e6:v 6=(aM 5 [v 0,v 1]).getD 0 0:=aa hs 6 rfl;have e7:v 7=(aM 5 [v 0,v 1]).getD 1 0:=aa hs 7 rfl;have P6:((v 6,v 7):IV)=uS a b:=by rw [e6,e7,e0,e1];rfl
 have U6:U (v 6,v 7):=by rw [P6];exact U_S _ _
 have e9:v 9=(aM 6 [v 0,v 1]).getD 0 0:=aa hs 9 rfl;have e10:v 10=(aM 6 [v 0,v 1]).getD 1 0:=aa hs 10 rfl;have P9:((v 9,v 10):IV)=uC a b:=by rw [e9,e10,e0,e1];rfl
 have U9:U (v 9,v 10):=by rw [P9];exact U_C _ _
 have e2:v 2=c:=aa hs 2 rfl;have e3:v 3=d:=aa hs 3 rfl;have e15:v 15=(aM 5 [v 2,v 3]).getD 0 0:=aa hs 15 rfl;have e16:v 16=(aM 5 [v 2,v 3]).getD 1 0:=aa hs 16 rfl;have P15:((v 15,v 16):IV)=uS c d:=by rw [e15,e16,e2,e3];rfl
 have U15:U (v 15,v 16):=by rw [P15];exact U_S _ _
 have e21:v 21=(aM 6 [v 2,v 3]).getD 0 0:=aa hs 21 rfl;have e22:v 22=(aM 6 [v 2,v 3]).getD 1 0:=aa hs 22 rfl;have P21:((v 21,v 22):IV)=uC c d:=by rw [e21,e22,e2,e3];rfl
 have U21:U (v 21,v 22):=by rw [P21];exact U_C _ _
 have e4:v 4=m:=aa hs 4 rfl;have e5:v 5=n:=aa hs 5 rfl;have e27:v 27=(aM 5 [v 4,v 5]).getD 0 0:=aa hs 27 rfl;have e28:v 28=(aM 5 [v 4,v 5]).getD 1 0:=aa hs 28 rfl;have P27:((v 27,v 28):IV)=uS m n:=by rw [e27,e28,e4,e5];rfl
 have U27:U (v 27,v 28):=by rw [P27];exact U_S _ _
 have e33:v 33=(aM 6 [v 4,v 5]).getD 0 0:=aa hs 33 rfl;have e34:v 34=(aM 6 [v 4,v 5]).getD 1 0:=aa hs 34 rfl;have P33:((v 33,v 34):IV)=uC m n:=by rw [e33,e34,e4,e5];rfl
 have U33:U (v 33,v 34):=by rw [P33];exact U_C _ _
 have e39:v 39=(aM 0 [v 21,v 22,v 27,v 28]).getD 0 0:=aa hs 39 rfl;have e40:v 40=(aM 0 [v 21,v 22,v 27,v 28]).getD 1 0:=aa hs 40 rfl;have P39:((v 39,v 40):IV)=uM (v 21,v 22) (v 27,v 28):=by rw [e39,e40];rfl
 have U39:U (v 39,v 40):=by rw [P39];exact (U_M U21 U27).2.2
 have e41:v 41=(aM 0 [v 21,v 22,v 27,v 28]).getD 2 0:=aa hs 41 rfl;have E41:v 41=0:=e41.trans (U_M U21 U27).2.1;have e55:v 55=(aM 0 [v 15,v 16,v 9,v 10]).getD 0 0:=aa hs 55 rfl;have e56:v 56=(aM 0 [v 15,v 16,v 9,v 10]).getD 1 0:=aa hs 56 rfl;have P55:((v 55,v 56):IV)=uM (v 15,v 16) (v 9,v 10):=by rw [e55,e56];rfl
 have U55:U (v 55,v 56):=by rw [P55];exact (U_M U15 U9).2.2
 have e57:v 57=(aM 0 [v 15,v 16,v 9,v 10]).getD 2 0:=aa hs 57 rfl;have E57:v 57=0:=e57.trans (U_M U15 U9).2.1;have e61:v 61=(aM 0 [v 21,v 22,v 33,v 34]).getD 0 0:=aa hs 61 rfl;have e62:v 62=(aM 0 [v 21,v 22,v 33,v 34]).getD 1 0:=aa hs 62 rfl;have P61:((v 61,v 62):IV)=uM (v 21,v 22) (v 33,v 34):=by rw [e61,e62];rfl
 have U61:U (v 61,v 62):=by rw [P61];exact (U_M U21 U33).2.2
 have e63:v 63=(aM 0 [v 21,v 22,v 33,v 34]).getD 2 0:=aa hs 63 rfl;have E63:v 63=0:=e63.trans (U_M U21 U33).2.1;have e67:v 67=(aM 0 [v 61,v 62,v 6,v 7]).getD 0 0:=aa hs 67 rfl;have e68:v 68=(aM 0 [v 61,v 62,v 6,v 7]).getD 1 0:=aa hs 68 rfl;have P67:((v 67,v 68):IV)=uM (v 61,v 62) (v 6,v 7):=by rw [e67,e68];rfl
 have U67:U (v 67,v 68):=by rw [P67];exact (U_M U61 U6).2.2
 have e69:v 69=(aM 0 [v 61,v 62,v 6,v 7]).getD 2 0:=aa hs 69 rfl;have E69:v 69=0:=e69.trans (U_M U61 U6).2.1;have e73:v 73=(aM 2 [v 55,v 56,v 67,v 68]).getD 0 0:=aa hs 73 rfl;have e74:v 74=(aM 2 [v 55,v 56,v 67,v 68]).getD 1 0:=aa hs 74 rfl;have P73:((v 73,v 74):IV)=uD (v 55,v 56) (v 67,v 68):=by rw [e73,e74];rfl
 have F73:fxV (v 73) (v 74)=true:=by have:=(U_D U55 U67).2.2;rw [<-P73] at this;exact this
 have e75:v 75=(aM 2 [v 55,v 56,v 67,v 68]).getD 2 0:=aa hs 75 rfl;have E75:v 75=0:=e75.trans (U_D U55 U67).2.1;have e48:v 48=IntKind.i64.wrap ((0:Int)-v 40):=aa hs 48 rfl;have e49:v 49=IntKind.i64.wrap ((0:Int)-v 39):=aa hs 49 rfl;have e81:v 81=(aM 7 [v 50,v 51,v 73,v 74]).getD 0 0:=aa hs 81 rfl;have e82:v 82=(aM 7 [v 50,v 51,v 73,v 74]).getD 1 0:=aa hs 82 rfl;have e83:v 83=(aM 7 [v 50,v 51,v 73,v 74]).getD 2 0:=aa hs 83 rfl;have uy:=U39;have n0:v 48=-v 40:=by rw [e48,Go.IntWalk.i64_in _ (by unfold U at uy;simp only at uy;omega)];omega
 have n1:v 49=-v 39:=by rw [e49,Go.IntWalk.i64_in _ (by unfold U at uy;simp only at uy;omega)];omega
 have PN:((v 48,v 49):IV)=uN (v 39,v 40):=by rw [n0,n1];rfl
 have UN:U (v 48,v 49):=by rw [PN];exact U_N uy
 have PY:((v 48,v 49):IV)=azY c d m n:=by rw [PN,P39,P21,P27];rfl
 have PX:((v 73,v 74):IV)=azX a b c d m n:=by rw [P73,P55,P67,P61,P6,P9,P15,P21,P33];rfl
 have y0:v 48=(azY c d m n).1:=congrArg Prod.fst PY;have y1:v 49=(azY c d m n).2:=congrArg Prod.snd PY;have x0:v 73=(azX a b c d m n).1:=congrArg Prod.fst PX;have x1:v 74=(azX a b c d m n).2:=congrArg Prod.snd PX;have e45:v 45=b2i (fxV (v 39) (v 40)):=aa hs 45 rfl;have E45:v 45=1:=by rw [e45,show fxV (v 39) (v 40)=true from dR U39];rfl
 have z50:v 50=v 48:=ko (X:=cxE [a,b,c,d,m,n]) (v:=v) (l:=oV) (jC _) hs (k:=50) (j:=48) (ps:=[(41,.c 0),(45,.c 1),(57,.c 0),(63,.c 0),(69,.c 0),(75,.c 0)]) (ae E41 (ae E45 (ae E57 (ae E63 (ae E69 (ae E75 av)))))) (by kernel_rfl)
 have z51:v 51=v 49:=ko (X:=cxE [a,b,c,d,m,n]) (v:=v) (l:=oV) (jC _) hs (k:=51) (j:=49) (ps:=[(41,.c 0),(45,.c 1),(57,.c 0),(63,.c 0),(69,.c 0),(75,.c 0)]) (ae E41 (ae E45 (ae E57 (ae E63 (ae E69 (ae E75 av)))))) (by kernel_rfl)
 have z84:v 84=0:=ax (X:=cxE [a,b,c,d,m,n]) (v:=v) (l:=oV) (jC _) hs (k:=84) (r:=.c 0) (ps:=[(41,.c 0),(45,.c 1),(57,.c 0),(63,.c 0),(69,.c 0),(75,.c 0)]) (nz:=[]) (ae E41 (ae E45 (ae E57 (ae E63 (ae E69 (ae E75 av)))))) aA (by kernel_rfl)
 have z85:v 85=v 81:=ko (X:=cxE [a,b,c,d,m,n]) (v:=v) (l:=oV) (jC _) hs (k:=85) (j:=81) (ps:=[(41,.c 0),(45,.c 1),(57,.c 0),(63,.c 0),(69,.c 0),(75,.c 0)]) (ae E41 (ae E45 (ae E57 (ae E63 (ae E69 (ae E75 av)))))) (by kernel_rfl)
 have z86:v 86=v 82:=ko (X:=cxE [a,b,c,d,m,n]) (v:=v) (l:=oV) (jC _) hs (k:=86) (j:=82) (ps:=[(41,.c 0),(45,.c 1),(57,.c 0),(63,.c 0),(69,.c 0),(75,.c 0)]) (ae E41 (ae E45 (ae E57 (ae E63 (ae E69 (ae E75 av)))))) (by kernel_rfl)
 have G:fxV (v 50) (v 51)=true:=by rw [z50,z51];exact dR UN
 have V0:v 81=dJ (v 50) (v 51) (v 73) (v 74):=e81;have V1:v 82=eZ (v 50) (v 51) (v 73) (v 74):=e82;have A0:aQ (v 0) (v 1)=true:=by rw [e0,e1];exact h1
 have A2:aQ (v 2) (v 3)=true:=by rw [e2,e3];exact h2
 have A4:aQ (v 4) (v 5)=true:=by rw [e4,e5];exact h3
 refine ⟨bB ?_,?_⟩
 . exact ag (fun _=>A0) (ag (fun _=>A0) (ag (fun _=>A2) (ag (fun _=>A2) (ag (fun _=>A4) (ag (fun _=>A4) (ag (fun _=>⟨dR U21,dR U27⟩) (ag (fun _=>trivial) (ag (fun _=>⟨dR U15,dR U9⟩) (ag (fun _=>⟨dR U21,dR U33⟩) (ag (fun _=>⟨dR U61,dR U6⟩) (ag (fun _=>⟨dR U55,dR U67⟩) (ag (fun _=>⟨G,F73⟩) (bu)))))))))))))
 . intro x hx0;have hx':=bM (v:=v) (by rfl) hx0
   rw [hx'];show Value.tuple #[.agg #[.int .i64 (v 85),.int .i64 (v 86)],.int .i64 (v 84)]=_;rw [(ng a b c d m n).1,(ng a b c d m n).2.1,(ng a b c d m n).2.2,z84,z85,z86,V0,V1,z50,z51,y0,y1,x0,x1]
def I4:List Nd:=[
 .arg 0,
 .arg 1,
 .arg 2,
 .arg 3,
 .arg 4,
 .arg 5,
 .bin .leq .i64 (.n 0) (.n 1),
 .bin .geq .i64 (.n 0) (.c (-1099511627776)),
 .bin .leq .i64 (.n 0) (.c 1099511627776),
 .ite (.n 7) (.n 8) (.c 0),
 .ite (.n 6) (.n 9) (.c 0),
 .bin .geq .i64 (.n 1) (.c (-1099511627776)),
 .bin .leq .i64 (.n 1) (.c 1099511627776),
 .ite (.n 11) (.n 12) (.c 0),
 .ite (.n 10) (.n 13) (.c 0),
 .bin .geq .i64 (.n 0) (.c (-5400000)),
 .ite (.n 14) (.n 15) (.c 0),
 .bin .leq .i64 (.n 1) (.c 5400000),
 .ite (.n 16) (.n 17) (.c 0),
 .bin .leq .i64 (.n 2) (.n 3),
 .bin .geq .i64 (.n 2) (.c (-1099511627776)),
 .bin .leq .i64 (.n 2) (.c 1099511627776),
 .ite (.n 20) (.n 21) (.c 0),
 .ite (.n 19) (.n 22) (.c 0),
 .bin .geq .i64 (.n 3) (.c (-1099511627776)),
 .bin .leq .i64 (.n 3) (.c 1099511627776),
 .ite (.n 24) (.n 25) (.c 0),
 .ite (.n 23) (.n 26) (.c 0),
 .bin .geq .i64 (.n 2) (.c (-5400000)),
 .ite (.n 27) (.n 28) (.c 0),
 .bin .leq .i64 (.n 3) (.c 5400000),
 .ite (.n 29) (.n 30) (.c 0),
 .ite (.n 18) (.n 31) (.c 0),
 .bin .leq .i64 (.n 4) (.n 5),
 .bin .geq .i64 (.n 4) (.c (-1099511627776)),
 .bin .leq .i64 (.n 4) (.c 1099511627776),
 .ite (.n 34) (.n 35) (.c 0),
 .ite (.n 33) (.n 36) (.c 0),
 .bin .geq .i64 (.n 5) (.c (-1099511627776)),
 .bin .leq .i64 (.n 5) (.c 1099511627776),
 .ite (.n 38) (.n 39) (.c 0),
 .ite (.n 37) (.n 40) (.c 0),
 .ite (.n 32) (.n 41) (.c 0)]
def UB:List Vc:=[
 ]
theorem TW:whole Tryz.prog [] 20 40 27 [(true,[some .i64,some .i64,some .i64,some .i64,some .i64,some .i64])]=some (.p (.c (.bool (.n 42))),⟨I4.reverse,UB.reverse⟩):=by kernel_rfl
theorem UO:wfN I4.reverse=true:=by kernel_rfl
theorem Wl (a b c d m n:Int) (w:World):Calls Tryz.prog 27 #[.agg #[.int .i64 a,.int .i64 b,.int .i64 c,.int .i64 d,.int .i64 m,.int .i64 n]] w fun e w'=>e=.returned (.bool (decide (b2i (decide (fB a b c d m n))≠0)))/\Below w.heap.size w w':=by
 refine Sx.calls (X:=cxE [a,b,c,d,m,n]) dP (fun s hs=>by cases hs) TW UO (fun v hs=>?_) w
 have e0:v 0=a:=aa hs 0 rfl;have e1:v 1=b:=aa hs 1 rfl;have e2:v 2=c:=aa hs 2 rfl;have e3:v 3=d:=aa hs 3 rfl;have e4:v 4=m:=aa hs 4 rfl;have e5:v 5=n:=aa hs 5 rfl;have e6:v 6=b2i (decide (v 0<=v 1)):=aa hs 6 rfl;have e7:v 7=b2i (decide (v 0>=(-1099511627776:Int))):=aa hs 7 rfl;have e8:v 8=b2i (decide (v 0<=(1099511627776:Int))):=aa hs 8 rfl;have e9:v 9=if v 7≠0 then v 8 else (0:Int):=aa hs 9 rfl
 have e10:v 10=if v 6≠0 then v 9 else (0:Int):=aa hs 10 rfl
 have e11:v 11=b2i (decide (v 1>=(-1099511627776:Int))):=aa hs 11 rfl;have e12:v 12=b2i (decide (v 1<=(1099511627776:Int))):=aa hs 12 rfl;have e13:v 13=if v 11≠0 then v 12 else (0:Int):=aa hs 13 rfl
 have e14:v 14=if v 10≠0 then v 13 else (0:Int):=aa hs 14 rfl
 have e15:v 15=b2i (decide (v 0>=(-5400000:Int))):=aa hs 15 rfl;have e16:v 16=if v 14≠0 then v 15 else (0:Int):=aa hs 16 rfl
 have e17:v 17=b2i (decide (v 1<=(5400000:Int))):=aa hs 17 rfl;have e18:v 18=if v 16≠0 then v 17 else (0:Int):=aa hs 18 rfl
 have e19:v 19=b2i (decide (v 2<=v 3)):=aa hs 19 rfl;have e20:v 20=b2i (decide (v 2>=(-1099511627776:Int))):=aa hs 20 rfl;have e21:v 21=b2i (decide (v 2<=(1099511627776:Int))):=aa hs 21 rfl;have e22:v 22=if v 20≠0 then v 21 else (0:Int):=aa hs 22 rfl
 have e23:v 23=if v 19≠0 then v 22 else (0:Int):=aa hs 23 rfl
 have e24:v 24=b2i (decide (v 3>=(-1099511627776:Int))):=aa hs 24 rfl;have e25:v 25=b2i (decide (v 3<=(1099511627776:Int))):=aa hs 25 rfl;have e26:v 26=if v 24≠0 then v 25 else (0:Int):=aa hs 26 rfl
 have e27:v 27=if v 23≠0 then v 26 else (0:Int):=aa hs 27 rfl
 have e28:v 28=b2i (decide (v 2>=(-5400000:Int))):=aa hs 28 rfl;have e29:v 29=if v 27≠0 then v 28 else (0:Int):=aa hs 29 rfl
 have e30:v 30=b2i (decide (v 3<=(5400000:Int))):=aa hs 30 rfl;have e31:v 31=if v 29≠0 then v 30 else (0:Int):=aa hs 31 rfl
 have e32:v 32=if v 18≠0 then v 31 else (0:Int):=aa hs 32 rfl
 have e33:v 33=b2i (decide (v 4<=v 5)):=aa hs 33 rfl;have e34:v 34=b2i (decide (v 4>=(-1099511627776:Int))):=aa hs 34 rfl;have e35:v 35=b2i (decide (v 4<=(1099511627776:Int))):=aa hs 35 rfl;have e36:v 36=if v 34≠0 then v 35 else (0:Int):=aa hs 36 rfl
 have e37:v 37=if v 33≠0 then v 36 else (0:Int):=aa hs 37 rfl
 have e38:v 38=b2i (decide (v 5>=(-1099511627776:Int))):=aa hs 38 rfl;have e39:v 39=b2i (decide (v 5<=(1099511627776:Int))):=aa hs 39 rfl;have e40:v 40=if v 38≠0 then v 39 else (0:Int):=aa hs 40 rfl
 have e41:v 41=if v 37≠0 then v 40 else (0:Int):=aa hs 41 rfl
 have e42:v 42=if v 32≠0 then v 41 else (0:Int):=aa hs 42 rfl
 refine ⟨bB bu,?_⟩;intro x hx;have hx':x=.bool (decide (v 42≠0)):=hx
 have Q:v 42=b2i (decide (fB a b c d m n)):=by
  rw [e42,e41,e40,e39,e38,e37,e36,e35,e34,e33,e32,e31,e30,e29,e28,e27,e26,e25,e24,e23,e22,e21,e20,e19,e18,e17,e16,e15,e14,e13,e12,e11,e10,e9,e8,e7,e6,e5,e4,e3,e2,e1,e0];simp only [bb2];exact congrArg b2i (decide_eq_decide.2 (by unfold fB;omega))
 rw [hx',Q]
