/- The contracts of the reference's altitude, azimuth and Valid of the cosine formula. -/
import Derived.Test.YtdbaccfgkacffaaGreatZCosP
set_option linter.unusedVariables false
set_option linter.unusedSimpArgs false
set_option maxRecDepth 100000
namespace Go.Proofs.YtdbaccfgkacffaaGreat
open Go.RowKit Alm Sx
def OO:List Sx.Spec:=zR++Az++zQ++[VS]
theorem En (args:List Int):∀ s∈OO,aT Tryz.prog (cxE args) s:=by
 intro s hs;rcases List.mem_append.1 hs with h|h
 . have id:s.id≠9/\s.id≠10/\s.id≠11/\s.id≠36:=by
    simp only [zR,Az,zQ,List.mem_append,List.mem_cons,List.not_mem_nil,or_false] at h;rcases h with (h|h)|h
    . rcases h with rfl|rfl|rfl|rfl<;>decide
    . rcases h with rfl|rfl<;>decide
    . rcases h with rfl|rfl|rfl<;>decide
   refine iW id ?_;rcases List.mem_append.1 h with h|h
   . rcases List.mem_append.1 h with h|h
     . exact MQ args s h
     . exact Kb args s h
   . exact Mh args s h
 . simp only [List.mem_cons,List.not_mem_nil,or_false] at h;subst h;refine ⟨ours _ _ _ Tryz.func167 rfl (by kernel_rfl),fun xs hp w=>?_⟩
   obtain ⟨a,b,rfl,h⟩:=O6 hp;exact Sk a b w h
def Io:List Nd:=[.arg 0,.arg 1,.arg 2,.arg 3,.arg 4,.arg 5,.app 5 0 [0,1],.app 5 1 [0,1],.app 5 0 [2,3],.app 5 1 [2,3],.app 0 0 [6,7,8,9],.app 0 1 [6,7,8,9],.app 0 2 [6,7,8,9],.app 6 0 [0,1],.app 6 1 [0,1],.app 6 0 [2,3],.app 6 1 [2,3],.app 0 0 [13,14,15,16],.app 0 1 [13,14,15,16],.app 0 2 [13,14,15,16],.app 6 0 [4,5],.app 6 1 [4,5],.app 0 0 [17,18,20,21],.app 0 1 [17,18,20,21],.app 0 2 [17,18,20,21],.app 1 0 [10,11,22,23],.app 1 1 [10,11,22,23],.app 1 2 [10,11,22,23],.app 36 0 [25,26],.app 36 1 [25,26],.app 36 2 [25,26]]
def TM:List Vc:=[⟨[],.pre 5 [0,1]⟩,⟨[],.pre 5 [2,3]⟩,⟨[],.pre 0 [6,7,8,9]⟩,⟨[],.pre 6 [0,1]⟩,⟨[],.pre 6 [2,3]⟩,⟨[],.pre 0 [13,14,15,16]⟩,⟨[],.pre 6 [4,5]⟩,⟨[],.pre 0 [17,18,20,21]⟩,⟨[],.pre 1 [10,11,22,23]⟩,⟨[],.pre 36 [25,26]⟩]
theorem Ut:whole Tryz.prog OO 20 40 212 [(true,[some .i64,some .i64,some .i64,some .i64,some .i64,some .i64])]=some (.p (.agg [.int .i64 (.n 28),.int .i64 (.n 29)]),⟨Io.reverse,TM.reverse⟩):=by kernel_rfl
theorem VG:wfN Io.reverse=true:=by kernel_rfl
theorem Xr (a b c d m n:Int) (w:World) (h1:bf a b=true) (h2:bf c d=true) (h3:bf m n=true):Calls Tryz.prog 212 #[.agg #[.int .i64 a,.int .i64 b,.int .i64 c,.int .i64 d,.int .i64 m,.int .i64 n]] w fun e w'=>e=.returned (.agg #[.int .i64 ((jr a b c d m n).getD 0 0),.int .i64 ((jr a b c d m n).getD 1 0)])/\Below w.heap.size w w':=by
 refine Sx.calls (X:=cxE [a,b,c,d,m,n]) dG (En _) Ut VG (fun v hs=>?_) w
 have e0:v 0=a:=aa hs 0 rfl;have e1:v 1=b:=aa hs 1 rfl;have e6:v 6=(aL 5 [v 0,v 1]).getD 0 0:=aa hs 6 rfl;have e7:v 7=(aL 5 [v 0,v 1]).getD 1 0:=aa hs 7 rfl;have P6:((v 6,v 7):IV)=uS a b:=by rw [e6,e7,e0,e1];rfl
 have U6:U (v 6,v 7):=by rw [P6];exact U_S _ _
 have e13:v 13=(aL 6 [v 0,v 1]).getD 0 0:=aa hs 13 rfl;have e14:v 14=(aL 6 [v 0,v 1]).getD 1 0:=aa hs 14 rfl;have P13:((v 13,v 14):IV)=uC a b:=by rw [e13,e14,e0,e1];rfl
 have U13:U (v 13,v 14):=by rw [P13];exact U_C _ _
 have e2:v 2=c:=aa hs 2 rfl;have e3:v 3=d:=aa hs 3 rfl;have e8:v 8=(aL 5 [v 2,v 3]).getD 0 0:=aa hs 8 rfl;have e9:v 9=(aL 5 [v 2,v 3]).getD 1 0:=aa hs 9 rfl;have P8:((v 8,v 9):IV)=uS c d:=by rw [e8,e9,e2,e3];rfl
 have U8:U (v 8,v 9):=by rw [P8];exact U_S _ _
 have e15:v 15=(aL 6 [v 2,v 3]).getD 0 0:=aa hs 15 rfl;have e16:v 16=(aL 6 [v 2,v 3]).getD 1 0:=aa hs 16 rfl;have P15:((v 15,v 16):IV)=uC c d:=by rw [e15,e16,e2,e3];rfl
 have U15:U (v 15,v 16):=by rw [P15];exact U_C _ _
 have e4:v 4=m:=aa hs 4 rfl;have e5:v 5=n:=aa hs 5 rfl;have e20:v 20=(aL 6 [v 4,v 5]).getD 0 0:=aa hs 20 rfl;have e21:v 21=(aL 6 [v 4,v 5]).getD 1 0:=aa hs 21 rfl;have P20:((v 20,v 21):IV)=uC m n:=by rw [e20,e21,e4,e5];rfl
 have U20:U (v 20,v 21):=by rw [P20];exact U_C _ _
 have e10:v 10=(aL 0 [v 6,v 7,v 8,v 9]).getD 0 0:=aa hs 10 rfl;have e11:v 11=(aL 0 [v 6,v 7,v 8,v 9]).getD 1 0:=aa hs 11 rfl;have P10:((v 10,v 11):IV)=uM (v 6,v 7) (v 8,v 9):=by rw [e10,e11];rfl
 have U10:U (v 10,v 11):=by rw [P10];exact (U_M U6 U8).2.2
 have e17:v 17=(aL 0 [v 13,v 14,v 15,v 16]).getD 0 0:=aa hs 17 rfl;have e18:v 18=(aL 0 [v 13,v 14,v 15,v 16]).getD 1 0:=aa hs 18 rfl;have P17:((v 17,v 18):IV)=uM (v 13,v 14) (v 15,v 16):=by rw [e17,e18];rfl
 have U17:U (v 17,v 18):=by rw [P17];exact (U_M U13 U15).2.2
 have e22:v 22=(aL 0 [v 17,v 18,v 20,v 21]).getD 0 0:=aa hs 22 rfl;have e23:v 23=(aL 0 [v 17,v 18,v 20,v 21]).getD 1 0:=aa hs 23 rfl;have P22:((v 22,v 23):IV)=uM (v 17,v 18) (v 20,v 21):=by rw [e22,e23];rfl
 have U22:U (v 22,v 23):=by rw [P22];exact (U_M U17 U20).2.2
 have e25:v 25=(aL 1 [v 10,v 11,v 22,v 23]).getD 0 0:=aa hs 25 rfl;have e26:v 26=(aL 1 [v 10,v 11,v 22,v 23]).getD 1 0:=aa hs 26 rfl;have P25:((v 25,v 26):IV)=uA (v 10,v 11) (v 22,v 23):=by rw [e25,e26];rfl
 have F25:fxV (v 25) (v 26)=true:=by have:=(U_A U10 U22).2.2;rw [<-P25] at this;exact this
 have PI:((v 25,v 26):IV)=mE a b c d m n:=by rw [P25,P10,P22,P17,P6,P13,P8,P15,P20];rfl
 have mt:=rq a b c d m n;rw [<-PI] at mt;have e28:v 28=(aL 36 [v 25,v 26]).getD 0 0:=aa hs 28 rfl;have e29:v 29=(aL 36 [v 25,v 26]).getD 1 0:=aa hs 29 rfl;have e30:v 30=(aL 36 [v 25,v 26]).getD 2 0:=aa hs 30 rfl;have hE:xU (v 25) (v 26)=0:=if_pos mt;have V0:v 28=Bq (v 25):=e28.trans (if_pos hE);have V1:v 29=xz (v 26):=e29.trans (if_pos hE);have V2:v 30=0:=e30.trans hE;have i0:v 25=(mE a b c d m n).1:=congrArg Prod.fst PI;have i1:v 26=(mE a b c d m n).2:=congrArg Prod.snd PI;have A0:bf (v 0) (v 1)=true:=by rw [e0,e1];exact h1
 have A2:bf (v 2) (v 3)=true:=by rw [e2,e3];exact h2
 have A4:bf (v 4) (v 5)=true:=by rw [e4,e5];exact h3
 refine ⟨aS ?_,?_⟩
 . exact ag (fun _=>A0) (ag (fun _=>A2) (ag (fun _=>⟨dW U6,dW U8⟩) (ag (fun _=>A0) (ag (fun _=>A2) (ag (fun _=>⟨dW U13,dW U15⟩) (ag (fun _=>A4) (ag (fun _=>⟨dW U17,dW U20⟩) (ag (fun _=>⟨dW U10,dW U22⟩) (ag (fun _=>F25) (aR))))))))))
 . intro x hx0;have hx':=bE (v:=v) (by rfl) hx0
   rw [hx'];show Value.agg #[.int .i64 (v 28),.int .i64 (v 29)]=_;rw [(jD a b c d m n).1,(jD a b c d m n).2.1,V0,V1,i0,i1]
def Qo:List Nd:=[.arg 0,.arg 1,.arg 2,.arg 3,.arg 4,.arg 5,.app 6 0 [2,3],.app 6 1 [2,3],.app 5 0 [4,5],.app 5 1 [4,5],.app 0 0 [6,7,8,9],.app 0 1 [6,7,8,9],.app 0 2 [6,7,8,9],.bin .sub .i64 (.c 0) 11,.bin .sub .i64 (.c 0) 10,.app 5 0 [2,3],.app 5 1 [2,3],.app 6 0 [0,1],.app 6 1 [0,1],.app 0 0 [15,16,17,18],.app 0 1 [15,16,17,18],.app 0 2 [15,16,17,18],.app 6 0 [4,5],.app 6 1 [4,5],.app 0 0 [6,7,22,23],.app 0 1 [6,7,22,23],.app 0 2 [6,7,22,23],.app 5 0 [0,1],.app 5 1 [0,1],.app 0 0 [24,25,27,28],.app 0 1 [24,25,27,28],.app 0 2 [24,25,27,28],.app 2 0 [19,20,29,30],.app 2 1 [19,20,29,30],.app 2 2 [19,20,29,30],.app 7 0 [13,14,32,33],.app 7 1 [13,14,32,33],.app 7 2 [13,14,32,33]]
def Zc:List Vc:=[⟨[],.pre 6 [2,3]⟩,⟨[],.pre 5 [4,5]⟩,⟨[],.pre 0 [6,7,8,9]⟩,⟨[],.pre 5 [2,3]⟩,⟨[],.pre 6 [0,1]⟩,⟨[],.pre 0 [15,16,17,18]⟩,⟨[],.pre 6 [2,3]⟩,⟨[],.pre 6 [4,5]⟩,⟨[],.pre 0 [6,7,22,23]⟩,⟨[],.pre 5 [0,1]⟩,⟨[],.pre 0 [24,25,27,28]⟩,⟨[],.pre 2 [19,20,29,30]⟩,⟨[],.pre 7 [13,14,32,33]⟩]
theorem XA:whole Tryz.prog OO 20 40 213 [(true,[some .i64,some .i64,some .i64,some .i64,some .i64,some .i64])]=some (.p (.agg [.int .i64 (.n 35),.int .i64 (.n 36)]),⟨Qo.reverse,Zc.reverse⟩):=by kernel_rfl
theorem YV:wfN Qo.reverse=true:=by kernel_rfl
theorem abh (a b c d m n:Int) (w:World) (h1:bf a b=true) (h2:bf c d=true) (h3:bf m n=true):Calls Tryz.prog 213 #[.agg #[.int .i64 a,.int .i64 b,.int .i64 c,.int .i64 d,.int .i64 m,.int .i64 n]] w fun e w'=>e=.returned (.agg #[.int .i64 ((azV a b c d m n).getD 0 0),.int .i64 ((azV a b c d m n).getD 1 0)])/\Below w.heap.size w w':=by
 refine Sx.calls (X:=cxE [a,b,c,d,m,n]) dG (En _) XA YV (fun v hs=>?_) w
 have e0:v 0=a:=aa hs 0 rfl;have e1:v 1=b:=aa hs 1 rfl;have e27:v 27=(aL 5 [v 0,v 1]).getD 0 0:=aa hs 27 rfl;have e28:v 28=(aL 5 [v 0,v 1]).getD 1 0:=aa hs 28 rfl;have P27:((v 27,v 28):IV)=uS a b:=by rw [e27,e28,e0,e1];rfl
 have U27:U (v 27,v 28):=by rw [P27];exact U_S _ _
 have e17:v 17=(aL 6 [v 0,v 1]).getD 0 0:=aa hs 17 rfl;have e18:v 18=(aL 6 [v 0,v 1]).getD 1 0:=aa hs 18 rfl;have P17:((v 17,v 18):IV)=uC a b:=by rw [e17,e18,e0,e1];rfl
 have U17:U (v 17,v 18):=by rw [P17];exact U_C _ _
 have e2:v 2=c:=aa hs 2 rfl;have e3:v 3=d:=aa hs 3 rfl;have e15:v 15=(aL 5 [v 2,v 3]).getD 0 0:=aa hs 15 rfl;have e16:v 16=(aL 5 [v 2,v 3]).getD 1 0:=aa hs 16 rfl;have P15:((v 15,v 16):IV)=uS c d:=by rw [e15,e16,e2,e3];rfl
 have U15:U (v 15,v 16):=by rw [P15];exact U_S _ _
 have e6:v 6=(aL 6 [v 2,v 3]).getD 0 0:=aa hs 6 rfl;have e7:v 7=(aL 6 [v 2,v 3]).getD 1 0:=aa hs 7 rfl;have P6:((v 6,v 7):IV)=uC c d:=by rw [e6,e7,e2,e3];rfl
 have U6:U (v 6,v 7):=by rw [P6];exact U_C _ _
 have e4:v 4=m:=aa hs 4 rfl;have e5:v 5=n:=aa hs 5 rfl;have e8:v 8=(aL 5 [v 4,v 5]).getD 0 0:=aa hs 8 rfl;have e9:v 9=(aL 5 [v 4,v 5]).getD 1 0:=aa hs 9 rfl;have P8:((v 8,v 9):IV)=uS m n:=by rw [e8,e9,e4,e5];rfl
 have U8:U (v 8,v 9):=by rw [P8];exact U_S _ _
 have e22:v 22=(aL 6 [v 4,v 5]).getD 0 0:=aa hs 22 rfl;have e23:v 23=(aL 6 [v 4,v 5]).getD 1 0:=aa hs 23 rfl;have P22:((v 22,v 23):IV)=uC m n:=by rw [e22,e23,e4,e5];rfl
 have U22:U (v 22,v 23):=by rw [P22];exact U_C _ _
 have e10:v 10=(aL 0 [v 6,v 7,v 8,v 9]).getD 0 0:=aa hs 10 rfl;have e11:v 11=(aL 0 [v 6,v 7,v 8,v 9]).getD 1 0:=aa hs 11 rfl;have P10:((v 10,v 11):IV)=uM (v 6,v 7) (v 8,v 9):=by rw [e10,e11];rfl
 have U10:U (v 10,v 11):=by rw [P10];exact (U_M U6 U8).2.2
 have e19:v 19=(aL 0 [v 15,v 16,v 17,v 18]).getD 0 0:=aa hs 19 rfl;have e20:v 20=(aL 0 [v 15,v 16,v 17,v 18]).getD 1 0:=aa hs 20 rfl;have P19:((v 19,v 20):IV)=uM (v 15,v 16) (v 17,v 18):=by rw [e19,e20];rfl
 have U19:U (v 19,v 20):=by rw [P19];exact (U_M U15 U17).2.2
 have e24:v 24=(aL 0 [v 6,v 7,v 22,v 23]).getD 0 0:=aa hs 24 rfl;have e25:v 25=(aL 0 [v 6,v 7,v 22,v 23]).getD 1 0:=aa hs 25 rfl;have P24:((v 24,v 25):IV)=uM (v 6,v 7) (v 22,v 23):=by rw [e24,e25];rfl
 have U24:U (v 24,v 25):=by rw [P24];exact (U_M U6 U22).2.2
 have e29:v 29=(aL 0 [v 24,v 25,v 27,v 28]).getD 0 0:=aa hs 29 rfl;have e30:v 30=(aL 0 [v 24,v 25,v 27,v 28]).getD 1 0:=aa hs 30 rfl;have P29:((v 29,v 30):IV)=uM (v 24,v 25) (v 27,v 28):=by rw [e29,e30];rfl
 have U29:U (v 29,v 30):=by rw [P29];exact (U_M U24 U27).2.2
 have e32:v 32=(aL 2 [v 19,v 20,v 29,v 30]).getD 0 0:=aa hs 32 rfl;have e33:v 33=(aL 2 [v 19,v 20,v 29,v 30]).getD 1 0:=aa hs 33 rfl;have P32:((v 32,v 33):IV)=uD (v 19,v 20) (v 29,v 30):=by rw [e32,e33];rfl
 have F32:fxV (v 32) (v 33)=true:=by have:=(U_D U19 U29).2.2;rw [<-P32] at this;exact this
 have e13:v 13=IntKind.i64.wrap ((0:Int)-v 11):=aa hs 13 rfl;have e14:v 14=IntKind.i64.wrap ((0:Int)-v 10):=aa hs 14 rfl;have e35:v 35=(aL 7 [v 13,v 14,v 32,v 33]).getD 0 0:=aa hs 35 rfl;have e36:v 36=(aL 7 [v 13,v 14,v 32,v 33]).getD 1 0:=aa hs 36 rfl;have e37:v 37=(aL 7 [v 13,v 14,v 32,v 33]).getD 2 0:=aa hs 37 rfl;have uy:=U10;have n0:v 13=-v 11:=by rw [e13,Go.IntWalk.i64_in _ (by unfold U at uy;simp only at uy;omega)];omega
 have n1:v 14=-v 10:=by rw [e14,Go.IntWalk.i64_in _ (by unfold U at uy;simp only at uy;omega)];omega
 have PN:((v 13,v 14):IV)=uN (v 10,v 11):=by rw [n0,n1];rfl
 have UN:U (v 13,v 14):=by rw [PN];exact U_N uy
 have PY:((v 13,v 14):IV)=azY c d m n:=by rw [PN,P10,P6,P8];rfl
 have PX:((v 32,v 33):IV)=azX a b c d m n:=by rw [P32,P19,P29,P24,P27,P17,P15,P6,P22];rfl
 have y0:v 13=(azY c d m n).1:=congrArg Prod.fst PY;have y1:v 14=(azY c d m n).2:=congrArg Prod.snd PY;have x0:v 32=(azX a b c d m n).1:=congrArg Prod.fst PX;have x1:v 33=(azX a b c d m n).2:=congrArg Prod.snd PX;have V0:v 35=dN (v 13) (v 14) (v 32) (v 33):=e35;have V1:v 36=eZ (v 13) (v 14) (v 32) (v 33):=e36;have A0:bf (v 0) (v 1)=true:=by rw [e0,e1];exact h1
 have A2:bf (v 2) (v 3)=true:=by rw [e2,e3];exact h2
 have A4:bf (v 4) (v 5)=true:=by rw [e4,e5];exact h3
 refine ⟨aS ?_,?_⟩
 . exact ag (fun _=>A2) (ag (fun _=>A4) (ag (fun _=>⟨dW U6,dW U8⟩) (ag (fun _=>A2) (ag (fun _=>A0) (ag (fun _=>⟨dW U15,dW U17⟩) (ag (fun _=>A2) (ag (fun _=>A4) (ag (fun _=>⟨dW U6,dW U22⟩) (ag (fun _=>A0) (ag (fun _=>⟨dW U24,dW U27⟩) (ag (fun _=>⟨dW U19,dW U29⟩) (ag (fun _=>⟨dW UN,F32⟩) (aR)))))))))))))
 . intro x hx0;have hx':=bE (v:=v) (by rfl) hx0
   rw [hx'];show Value.agg #[.int .i64 (v 35),.int .i64 (v 36)]=_;rw [(mr a b c d m n).1,(mr a b c d m n).2.1,V0,V1,y0,y1,x0,x1]
def IU:List Nd:=[.arg 0,.arg 1,.arg 2,.arg 3,.arg 4,.arg 5,.bin .leq .i64 0 1,.bin .geq .i64 0 (.c (-5400000)),.ite 6 7 (.c 0),.bin .leq .i64 1 (.c 5400000),.ite 8 9 (.c 0),.bin .leq .i64 2 3,.bin .geq .i64 2 (.c (-5400000)),.ite 11 12 (.c 0),.bin .leq .i64 3 (.c 5400000),.ite 13 14 (.c 0),.ite 10 15 (.c 0),.bin .leq .i64 4 5,.bin .geq .i64 4 (.c (-1099511627776)),.ite 17 18 (.c 0),.bin .leq .i64 5 (.c 1099511627776),.ite 19 20 (.c 0),.ite 16 21 (.c 0)]
def TN:List Vc:=[]
theorem VW:whole Tryz.prog [] 20 40 12 [(true,[some .i64,some .i64,some .i64,some .i64,some .i64,some .i64])]=some (.p (.c (.bool (.n 22))),⟨IU.reverse,TN.reverse⟩):=by kernel_rfl
theorem SA:wfN IU.reverse=true:=by kernel_rfl
theorem Un (a b c d m n:Int) (w:World):Calls Tryz.prog 12 #[.agg #[.int .i64 a,.int .i64 b,.int .i64 c,.int .i64 d,.int .i64 m,.int .i64 n]] w fun e w'=>e=.returned (.bool (decide (b2i (decide (gy a b c d m n))≠0)))/\Below w.heap.size w w':=by
 refine Sx.calls (X:=cxE [a,b,c,d,m,n]) dG (fun s hs=>by cases hs) VW SA (fun v hs=>?_) w
 have e0:v 0=a:=aa hs 0 rfl;have e1:v 1=b:=aa hs 1 rfl;have e2:v 2=c:=aa hs 2 rfl;have e3:v 3=d:=aa hs 3 rfl;have e4:v 4=m:=aa hs 4 rfl;have e5:v 5=n:=aa hs 5 rfl;have e6:v 6=b2i (decide (v 0<=v 1)):=aa hs 6 rfl;have e7:v 7=b2i (decide (v 0>=(-5400000:Int))):=aa hs 7 rfl;have e8:v 8=if v 6≠0 then v 7 else (0:Int):=aa hs 8 rfl
 have e9:v 9=b2i (decide (v 1<=(5400000:Int))):=aa hs 9 rfl;have e10:v 10=if v 8≠0 then v 9 else (0:Int):=aa hs 10 rfl
 have e11:v 11=b2i (decide (v 2<=v 3)):=aa hs 11 rfl;have e12:v 12=b2i (decide (v 2>=(-5400000:Int))):=aa hs 12 rfl;have e13:v 13=if v 11≠0 then v 12 else (0:Int):=aa hs 13 rfl
 have e14:v 14=b2i (decide (v 3<=(5400000:Int))):=aa hs 14 rfl;have e15:v 15=if v 13≠0 then v 14 else (0:Int):=aa hs 15 rfl
 have e16:v 16=if v 10≠0 then v 15 else (0:Int):=aa hs 16 rfl
 have e17:v 17=b2i (decide (v 4<=v 5)):=aa hs 17 rfl;have e18:v 18=b2i (decide (v 4>=(-1099511627776:Int))):=aa hs 18 rfl;have e19:v 19=if v 17≠0 then v 18 else (0:Int):=aa hs 19 rfl
 have e20:v 20=b2i (decide (v 5<=(1099511627776:Int))):=aa hs 20 rfl;have e21:v 21=if v 19≠0 then v 20 else (0:Int):=aa hs 21 rfl
 have e22:v 22=if v 16≠0 then v 21 else (0:Int):=aa hs 22 rfl
 refine ⟨aS aR,?_⟩;intro x hx;have hx':x=.bool (decide (v 22≠0)):=hx
 have Q:v 22=b2i (decide (gy a b c d m n)):=by
  rw [e22,e21,e20,e19,e18,e17,e16,e15,e14,e13,e12,e11,e10,e9,e8,e7,e6,e5,e4,e3,e2,e1,e0];simp only [bb2];exact congrArg b2i (decide_eq_decide.2 (by unfold gy;omega))
 rw [hx',Q]
