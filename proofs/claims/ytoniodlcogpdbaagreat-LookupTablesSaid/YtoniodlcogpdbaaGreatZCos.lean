/- The contracts of the reference's altitude, azimuth and Valid of the cosine formula. -/
import Derived.Test.YtoniodlcogpdbaaGreatZCosP
set_option linter.unusedVariables false
set_option linter.unusedSimpArgs false
set_option maxRecDepth 100000
namespace Go.Proofs.YtoniodlcogpdbaaGreat
open Go.RowKit Alm Sx
def QD:List Sx.Spec:=BJ++BA++Bq++[TY]
theorem Dz (args:List Int):∀ s∈QD,aR Tryz.prog (cxE args) s:=by
 intro s hs;rcases List.mem_append.1 hs with h|h
 . have id:s.id≠9/\s.id≠10/\s.id≠11/\s.id≠36:=by
    simp only [BJ,BA,Bq,List.mem_append,List.mem_cons,List.not_mem_nil,or_false] at h;rcases h with (h|h)|h
    . rcases h with rfl|rfl|rfl|rfl<;>decide
    . rcases h with rfl|rfl<;>decide
    . rcases h with rfl|rfl|rfl<;>decide
   refine iY id ?_;rcases List.mem_append.1 h with h|h
   . rcases List.mem_append.1 h with h|h
     . exact Mv args s h
     . exact Me args s h
   . exact Le args s h
 . simp only [List.mem_cons,List.not_mem_nil,or_false] at h;subst h;refine ⟨ours _ _ _ Tryz.func54 rfl (by kernel_rfl),fun xs hp w=>?_⟩
   obtain ⟨a,b,rfl,h⟩:=Po hp;exact Vv a b w h
def KF:List Nd:=[
 .arg 0,
 .arg 1,
 .arg 2,
 .arg 3,
 .arg 4,
 .arg 5,
 .app 5 0 [.n 0,.n 1],
 .app 5 1 [.n 0,.n 1],
 .app 5 0 [.n 2,.n 3],
 .app 5 1 [.n 2,.n 3],
 .app 0 0 [.n 6,.n 7,.n 8,.n 9],
 .app 0 1 [.n 6,.n 7,.n 8,.n 9],
 .app 0 2 [.n 6,.n 7,.n 8,.n 9],
 .app 6 0 [.n 0,.n 1],
 .app 6 1 [.n 0,.n 1],
 .app 6 0 [.n 2,.n 3],
 .app 6 1 [.n 2,.n 3],
 .app 0 0 [.n 13,.n 14,.n 15,.n 16],
 .app 0 1 [.n 13,.n 14,.n 15,.n 16],
 .app 0 2 [.n 13,.n 14,.n 15,.n 16],
 .app 6 0 [.n 4,.n 5],
 .app 6 1 [.n 4,.n 5],
 .app 0 0 [.n 17,.n 18,.n 20,.n 21],
 .app 0 1 [.n 17,.n 18,.n 20,.n 21],
 .app 0 2 [.n 17,.n 18,.n 20,.n 21],
 .app 1 0 [.n 10,.n 11,.n 22,.n 23],
 .app 1 1 [.n 10,.n 11,.n 22,.n 23],
 .app 1 2 [.n 10,.n 11,.n 22,.n 23],
 .app 36 0 [.n 25,.n 26],
 .app 36 1 [.n 25,.n 26],
 .app 36 2 [.n 25,.n 26]]
def RU:List Vc:=[
 ⟨[],.pre 5 [.n 0,.n 1]⟩,
 ⟨[],.pre 5 [.n 2,.n 3]⟩,
 ⟨[],.pre 0 [.n 6,.n 7,.n 8,.n 9]⟩,
 ⟨[],.pre 6 [.n 0,.n 1]⟩,
 ⟨[],.pre 6 [.n 2,.n 3]⟩,
 ⟨[],.pre 0 [.n 13,.n 14,.n 15,.n 16]⟩,
 ⟨[],.pre 6 [.n 4,.n 5]⟩,
 ⟨[],.pre 0 [.n 17,.n 18,.n 20,.n 21]⟩,
 ⟨[],.pre 1 [.n 10,.n 11,.n 22,.n 23]⟩,
 ⟨[],.pre 36 [.n 25,.n 26]⟩]
theorem Wd:whole Tryz.prog QD 20 40 25 [(true,[some .i64,some .i64,some .i64,some .i64,some .i64,some .i64])]=some (.p (.agg [.int .i64 (.n 28),.int .i64 (.n 29)]),⟨KF.reverse,RU.reverse⟩):=by kernel_rfl
theorem SG:wfN KF.reverse=true:=by kernel_rfl
theorem Yl (a b c d m n:Int) (w:World) (h1:aQ a b=true) (h2:aQ c d=true) (h3:aQ m n=true):Calls Tryz.prog 25 #[.agg #[.int .i64 a,.int .i64 b,.int .i64 c,.int .i64 d,.int .i64 m,.int .i64 n]] w fun e w'=>e=.returned (.agg #[.int .i64 ((jy a b c d m n).getD 0 0),.int .i64 ((jy a b c d m n).getD 1 0)])/\Below w.heap.size w w':=by
 refine Sx.calls (X:=cxE [a,b,c,d,m,n]) dP (Dz _) Wd SG (fun v hs=>?_) w
 have e0:v 0=a:=aa hs 0 rfl;have e1:v 1=b:=aa hs 1 rfl;have e6:v 6=(aM 5 [v 0,v 1]).getD 0 0:=aa hs 6 rfl;have e7:v 7=(aM 5 [v 0,v 1]).getD 1 0:=aa hs 7 rfl;have P6:((v 6,v 7):IV)=uS a b:=by rw [e6,e7,e0,e1];rfl
 have U6:U (v 6,v 7):=by rw [P6];exact U_S _ _
 have e13:v 13=(aM 6 [v 0,v 1]).getD 0 0:=aa hs 13 rfl;have e14:v 14=(aM 6 [v 0,v 1]).getD 1 0:=aa hs 14 rfl;have P13:((v 13,v 14):IV)=uC a b:=by rw [e13,e14,e0,e1];rfl
 have U13:U (v 13,v 14):=by rw [P13];exact U_C _ _
 have e2:v 2=c:=aa hs 2 rfl;have e3:v 3=d:=aa hs 3 rfl;have e8:v 8=(aM 5 [v 2,v 3]).getD 0 0:=aa hs 8 rfl;have e9:v 9=(aM 5 [v 2,v 3]).getD 1 0:=aa hs 9 rfl;have P8:((v 8,v 9):IV)=uS c d:=by rw [e8,e9,e2,e3];rfl
 have U8:U (v 8,v 9):=by rw [P8];exact U_S _ _
 have e15:v 15=(aM 6 [v 2,v 3]).getD 0 0:=aa hs 15 rfl;have e16:v 16=(aM 6 [v 2,v 3]).getD 1 0:=aa hs 16 rfl;have P15:((v 15,v 16):IV)=uC c d:=by rw [e15,e16,e2,e3];rfl
 have U15:U (v 15,v 16):=by rw [P15];exact U_C _ _
 have e4:v 4=m:=aa hs 4 rfl;have e5:v 5=n:=aa hs 5 rfl;have e20:v 20=(aM 6 [v 4,v 5]).getD 0 0:=aa hs 20 rfl;have e21:v 21=(aM 6 [v 4,v 5]).getD 1 0:=aa hs 21 rfl;have P20:((v 20,v 21):IV)=uC m n:=by rw [e20,e21,e4,e5];rfl
 have U20:U (v 20,v 21):=by rw [P20];exact U_C _ _
 have e10:v 10=(aM 0 [v 6,v 7,v 8,v 9]).getD 0 0:=aa hs 10 rfl;have e11:v 11=(aM 0 [v 6,v 7,v 8,v 9]).getD 1 0:=aa hs 11 rfl;have P10:((v 10,v 11):IV)=uM (v 6,v 7) (v 8,v 9):=by rw [e10,e11];rfl
 have U10:U (v 10,v 11):=by rw [P10];exact (U_M U6 U8).2.2
 have e17:v 17=(aM 0 [v 13,v 14,v 15,v 16]).getD 0 0:=aa hs 17 rfl;have e18:v 18=(aM 0 [v 13,v 14,v 15,v 16]).getD 1 0:=aa hs 18 rfl;have P17:((v 17,v 18):IV)=uM (v 13,v 14) (v 15,v 16):=by rw [e17,e18];rfl
 have U17:U (v 17,v 18):=by rw [P17];exact (U_M U13 U15).2.2
 have e22:v 22=(aM 0 [v 17,v 18,v 20,v 21]).getD 0 0:=aa hs 22 rfl;have e23:v 23=(aM 0 [v 17,v 18,v 20,v 21]).getD 1 0:=aa hs 23 rfl;have P22:((v 22,v 23):IV)=uM (v 17,v 18) (v 20,v 21):=by rw [e22,e23];rfl
 have U22:U (v 22,v 23):=by rw [P22];exact (U_M U17 U20).2.2
 have e25:v 25=(aM 1 [v 10,v 11,v 22,v 23]).getD 0 0:=aa hs 25 rfl;have e26:v 26=(aM 1 [v 10,v 11,v 22,v 23]).getD 1 0:=aa hs 26 rfl;have P25:((v 25,v 26):IV)=uA (v 10,v 11) (v 22,v 23):=by rw [e25,e26];rfl
 have F25:fxV (v 25) (v 26)=true:=by have:=(U_A U10 U22).2.2;rw [<-P25] at this;exact this
 have PI:((v 25,v 26):IV)=mQ a b c d m n:=by rw [P25,P10,P22,P17,P6,P13,P8,P15,P20];rfl
 have mt:=uh a b c d m n;rw [<-PI] at mt;have e28:v 28=(aM 36 [v 25,v 26]).getD 0 0:=aa hs 28 rfl;have e29:v 29=(aM 36 [v 25,v 26]).getD 1 0:=aa hs 29 rfl;have e30:v 30=(aM 36 [v 25,v 26]).getD 2 0:=aa hs 30 rfl;have hE:yK (v 25) (v 26)=0:=if_pos mt;have V0:v 28=Br (v 25):=e28.trans (if_pos hE);have V1:v 29=vT (v 26):=e29.trans (if_pos hE);have V2:v 30=0:=e30.trans hE;have i0:v 25=(mQ a b c d m n).1:=congrArg Prod.fst PI;have i1:v 26=(mQ a b c d m n).2:=congrArg Prod.snd PI;have A0:aQ (v 0) (v 1)=true:=by rw [e0,e1];exact h1
 have A2:aQ (v 2) (v 3)=true:=by rw [e2,e3];exact h2
 have A4:aQ (v 4) (v 5)=true:=by rw [e4,e5];exact h3
 refine ⟨bB ?_,?_⟩
 . exact ag (fun _=>A0) (ag (fun _=>A2) (ag (fun _=>⟨dR U6,dR U8⟩) (ag (fun _=>A0) (ag (fun _=>A2) (ag (fun _=>⟨dR U13,dR U15⟩) (ag (fun _=>A4) (ag (fun _=>⟨dR U17,dR U20⟩) (ag (fun _=>⟨dR U10,dR U22⟩) (ag (fun _=>F25) (bu))))))))))
 . intro x hx0;have hx':=bM (v:=v) (by rfl) hx0
   rw [hx'];show Value.agg #[.int .i64 (v 28),.int .i64 (v 29)]=_;rw [(jD a b c d m n).1,(jD a b c d m n).2.1,V0,V1,i0,i1]
def PK:List Nd:=[
 .arg 0,
 .arg 1,
 .arg 2,
 .arg 3,
 .arg 4,
 .arg 5,
 .app 6 0 [.n 2,.n 3],
 .app 6 1 [.n 2,.n 3],
 .app 5 0 [.n 4,.n 5],
 .app 5 1 [.n 4,.n 5],
 .app 0 0 [.n 6,.n 7,.n 8,.n 9],
 .app 0 1 [.n 6,.n 7,.n 8,.n 9],
 .app 0 2 [.n 6,.n 7,.n 8,.n 9],
 .bin .sub .i64 (.c 0) (.n 11),
 .bin .sub .i64 (.c 0) (.n 10),
 .app 5 0 [.n 2,.n 3],
 .app 5 1 [.n 2,.n 3],
 .app 6 0 [.n 0,.n 1],
 .app 6 1 [.n 0,.n 1],
 .app 0 0 [.n 15,.n 16,.n 17,.n 18],
 .app 0 1 [.n 15,.n 16,.n 17,.n 18],
 .app 0 2 [.n 15,.n 16,.n 17,.n 18],
 .app 6 0 [.n 4,.n 5],
 .app 6 1 [.n 4,.n 5],
 .app 0 0 [.n 6,.n 7,.n 22,.n 23],
 .app 0 1 [.n 6,.n 7,.n 22,.n 23],
 .app 0 2 [.n 6,.n 7,.n 22,.n 23],
 .app 5 0 [.n 0,.n 1],
 .app 5 1 [.n 0,.n 1],
 .app 0 0 [.n 24,.n 25,.n 27,.n 28],
 .app 0 1 [.n 24,.n 25,.n 27,.n 28],
 .app 0 2 [.n 24,.n 25,.n 27,.n 28],
 .app 2 0 [.n 19,.n 20,.n 29,.n 30],
 .app 2 1 [.n 19,.n 20,.n 29,.n 30],
 .app 2 2 [.n 19,.n 20,.n 29,.n 30],
 .app 7 0 [.n 13,.n 14,.n 32,.n 33],
 .app 7 1 [.n 13,.n 14,.n 32,.n 33],
 .app 7 2 [.n 13,.n 14,.n 32,.n 33]]
def Y8:List Vc:=[
 ⟨[],.pre 6 [.n 2,.n 3]⟩,
 ⟨[],.pre 5 [.n 4,.n 5]⟩,
 ⟨[],.pre 0 [.n 6,.n 7,.n 8,.n 9]⟩,
 ⟨[],.pre 5 [.n 2,.n 3]⟩,
 ⟨[],.pre 6 [.n 0,.n 1]⟩,
 ⟨[],.pre 0 [.n 15,.n 16,.n 17,.n 18]⟩,
 ⟨[],.pre 6 [.n 2,.n 3]⟩,
 ⟨[],.pre 6 [.n 4,.n 5]⟩,
 ⟨[],.pre 0 [.n 6,.n 7,.n 22,.n 23]⟩,
 ⟨[],.pre 5 [.n 0,.n 1]⟩,
 ⟨[],.pre 0 [.n 24,.n 25,.n 27,.n 28]⟩,
 ⟨[],.pre 2 [.n 19,.n 20,.n 29,.n 30]⟩,
 ⟨[],.pre 7 [.n 13,.n 14,.n 32,.n 33]⟩]
theorem X9:whole Tryz.prog QD 20 40 26 [(true,[some .i64,some .i64,some .i64,some .i64,some .i64,some .i64])]=some (.p (.agg [.int .i64 (.n 35),.int .i64 (.n 36)]),⟨PK.reverse,Y8.reverse⟩):=by kernel_rfl
theorem YI:wfN PK.reverse=true:=by kernel_rfl
theorem aaO (a b c d m n:Int) (w:World) (h1:aQ a b=true) (h2:aQ c d=true) (h3:aQ m n=true):Calls Tryz.prog 26 #[.agg #[.int .i64 a,.int .i64 b,.int .i64 c,.int .i64 d,.int .i64 m,.int .i64 n]] w fun e w'=>e=.returned (.agg #[.int .i64 ((azV a b c d m n).getD 0 0),.int .i64 ((azV a b c d m n).getD 1 0)])/\Below w.heap.size w w':=by
 refine Sx.calls (X:=cxE [a,b,c,d,m,n]) dP (Dz _) X9 YI (fun v hs=>?_) w
 have e0:v 0=a:=aa hs 0 rfl;have e1:v 1=b:=aa hs 1 rfl;have e27:v 27=(aM 5 [v 0,v 1]).getD 0 0:=aa hs 27 rfl;have e28:v 28=(aM 5 [v 0,v 1]).getD 1 0:=aa hs 28 rfl;have P27:((v 27,v 28):IV)=uS a b:=by rw [e27,e28,e0,e1];rfl
 have U27:U (v 27,v 28):=by rw [P27];exact U_S _ _
 have e17:v 17=(aM 6 [v 0,v 1]).getD 0 0:=aa hs 17 rfl;have e18:v 18=(aM 6 [v 0,v 1]).getD 1 0:=aa hs 18 rfl;have P17:((v 17,v 18):IV)=uC a b:=by rw [e17,e18,e0,e1];rfl
 have U17:U (v 17,v 18):=by rw [P17];exact U_C _ _
 have e2:v 2=c:=aa hs 2 rfl;have e3:v 3=d:=aa hs 3 rfl;have e15:v 15=(aM 5 [v 2,v 3]).getD 0 0:=aa hs 15 rfl;have e16:v 16=(aM 5 [v 2,v 3]).getD 1 0:=aa hs 16 rfl;have P15:((v 15,v 16):IV)=uS c d:=by rw [e15,e16,e2,e3];rfl
 have U15:U (v 15,v 16):=by rw [P15];exact U_S _ _
 have e6:v 6=(aM 6 [v 2,v 3]).getD 0 0:=aa hs 6 rfl;have e7:v 7=(aM 6 [v 2,v 3]).getD 1 0:=aa hs 7 rfl;have P6:((v 6,v 7):IV)=uC c d:=by rw [e6,e7,e2,e3];rfl
 have U6:U (v 6,v 7):=by rw [P6];exact U_C _ _
 have e4:v 4=m:=aa hs 4 rfl;have e5:v 5=n:=aa hs 5 rfl;have e8:v 8=(aM 5 [v 4,v 5]).getD 0 0:=aa hs 8 rfl;have e9:v 9=(aM 5 [v 4,v 5]).getD 1 0:=aa hs 9 rfl;have P8:((v 8,v 9):IV)=uS m n:=by rw [e8,e9,e4,e5];rfl
 have U8:U (v 8,v 9):=by rw [P8];exact U_S _ _
 have e22:v 22=(aM 6 [v 4,v 5]).getD 0 0:=aa hs 22 rfl;have e23:v 23=(aM 6 [v 4,v 5]).getD 1 0:=aa hs 23 rfl;have P22:((v 22,v 23):IV)=uC m n:=by rw [e22,e23,e4,e5];rfl
 have U22:U (v 22,v 23):=by rw [P22];exact U_C _ _
 have e10:v 10=(aM 0 [v 6,v 7,v 8,v 9]).getD 0 0:=aa hs 10 rfl;have e11:v 11=(aM 0 [v 6,v 7,v 8,v 9]).getD 1 0:=aa hs 11 rfl;have P10:((v 10,v 11):IV)=uM (v 6,v 7) (v 8,v 9):=by rw [e10,e11];rfl
 have U10:U (v 10,v 11):=by rw [P10];exact (U_M U6 U8).2.2
 have e19:v 19=(aM 0 [v 15,v 16,v 17,v 18]).getD 0 0:=aa hs 19 rfl;have e20:v 20=(aM 0 [v 15,v 16,v 17,v 18]).getD 1 0:=aa hs 20 rfl;have P19:((v 19,v 20):IV)=uM (v 15,v 16) (v 17,v 18):=by rw [e19,e20];rfl
 have U19:U (v 19,v 20):=by rw [P19];exact (U_M U15 U17).2.2
 have e24:v 24=(aM 0 [v 6,v 7,v 22,v 23]).getD 0 0:=aa hs 24 rfl;have e25:v 25=(aM 0 [v 6,v 7,v 22,v 23]).getD 1 0:=aa hs 25 rfl;have P24:((v 24,v 25):IV)=uM (v 6,v 7) (v 22,v 23):=by rw [e24,e25];rfl
 have U24:U (v 24,v 25):=by rw [P24];exact (U_M U6 U22).2.2
 have e29:v 29=(aM 0 [v 24,v 25,v 27,v 28]).getD 0 0:=aa hs 29 rfl;have e30:v 30=(aM 0 [v 24,v 25,v 27,v 28]).getD 1 0:=aa hs 30 rfl;have P29:((v 29,v 30):IV)=uM (v 24,v 25) (v 27,v 28):=by rw [e29,e30];rfl
 have U29:U (v 29,v 30):=by rw [P29];exact (U_M U24 U27).2.2
 have e32:v 32=(aM 2 [v 19,v 20,v 29,v 30]).getD 0 0:=aa hs 32 rfl;have e33:v 33=(aM 2 [v 19,v 20,v 29,v 30]).getD 1 0:=aa hs 33 rfl;have P32:((v 32,v 33):IV)=uD (v 19,v 20) (v 29,v 30):=by rw [e32,e33];rfl
 have F32:fxV (v 32) (v 33)=true:=by have:=(U_D U19 U29).2.2;rw [<-P32] at this;exact this
 have e13:v 13=IntKind.i64.wrap ((0:Int)-v 11):=aa hs 13 rfl;have e14:v 14=IntKind.i64.wrap ((0:Int)-v 10):=aa hs 14 rfl;have e35:v 35=(aM 7 [v 13,v 14,v 32,v 33]).getD 0 0:=aa hs 35 rfl;have e36:v 36=(aM 7 [v 13,v 14,v 32,v 33]).getD 1 0:=aa hs 36 rfl;have e37:v 37=(aM 7 [v 13,v 14,v 32,v 33]).getD 2 0:=aa hs 37 rfl;have uy:=U10;have n0:v 13=-v 11:=by rw [e13,Go.IntWalk.i64_in _ (by unfold U at uy;simp only at uy;omega)];omega
 have n1:v 14=-v 10:=by rw [e14,Go.IntWalk.i64_in _ (by unfold U at uy;simp only at uy;omega)];omega
 have PN:((v 13,v 14):IV)=uN (v 10,v 11):=by rw [n0,n1];rfl
 have UN:U (v 13,v 14):=by rw [PN];exact U_N uy
 have PY:((v 13,v 14):IV)=azY c d m n:=by rw [PN,P10,P6,P8];rfl
 have PX:((v 32,v 33):IV)=azX a b c d m n:=by rw [P32,P19,P29,P24,P27,P17,P15,P6,P22];rfl
 have y0:v 13=(azY c d m n).1:=congrArg Prod.fst PY;have y1:v 14=(azY c d m n).2:=congrArg Prod.snd PY;have x0:v 32=(azX a b c d m n).1:=congrArg Prod.fst PX;have x1:v 33=(azX a b c d m n).2:=congrArg Prod.snd PX;have V0:v 35=dJ (v 13) (v 14) (v 32) (v 33):=e35;have V1:v 36=eZ (v 13) (v 14) (v 32) (v 33):=e36;have A0:aQ (v 0) (v 1)=true:=by rw [e0,e1];exact h1
 have A2:aQ (v 2) (v 3)=true:=by rw [e2,e3];exact h2
 have A4:aQ (v 4) (v 5)=true:=by rw [e4,e5];exact h3
 refine ⟨bB ?_,?_⟩
 . exact ag (fun _=>A2) (ag (fun _=>A4) (ag (fun _=>⟨dR U6,dR U8⟩) (ag (fun _=>A2) (ag (fun _=>A0) (ag (fun _=>⟨dR U15,dR U17⟩) (ag (fun _=>A2) (ag (fun _=>A4) (ag (fun _=>⟨dR U6,dR U22⟩) (ag (fun _=>A0) (ag (fun _=>⟨dR U24,dR U27⟩) (ag (fun _=>⟨dR U19,dR U29⟩) (ag (fun _=>⟨dR UN,F32⟩) (bu)))))))))))))
 . intro x hx0;have hx':=bM (v:=v) (by rfl) hx0
   rw [hx'];show Value.agg #[.int .i64 (v 35),.int .i64 (v 36)]=_;rw [(ng a b c d m n).1,(ng a b c d m n).2.1,V0,V1,y0,y1,x0,x1]
