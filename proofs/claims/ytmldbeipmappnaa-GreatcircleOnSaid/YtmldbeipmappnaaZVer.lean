/- The contracts of Vertex of both sides. -/
import Derived.Test.YtmldbeipmappnaaZGv
set_option linter.unusedVariables false
set_option linter.unusedSimpArgs false
set_option maxRecDepth 100000
set_option maxHeartbeats 8000000
namespace Go.Proofs.Ytmldbeipmappnaa
open Go.RowKit Alm Sx
theorem iX {x:Int} {p:Prop} [Decidable p] (h:x=b2i (decide p)):(p/\x=1)∨(¬ p/\x=0):=by
 by_cases q:p
 . exact .inl ⟨q,by rw [h,decide_eq_true q];rfl⟩
 . exact .inr ⟨q,by rw [h,decide_eq_false q];rfl⟩
def uW (p:IV):IV:=if 0<=p.1 then p else if p.2<=0 then uN p else (0,max (-p.1) p.2)
theorem VA {p:IV} (h:U p):0<=(uW p).1/\(uW p).1<=(uW p).2/\(uW p).2<=1073741824:=by
 unfold U at h;unfold uW;split
 . exact ⟨by omega,by omega,by omega⟩
 . split
   . unfold uN;simp only;omega
   . simp only;omega
def uT2 (t:Prop) [Decidable t] (p:IV):IV:=if t then uN p else p
theorem TI {t:Prop} [Decidable t] {p:IV} (h:U p):U (uT2 t p):=by
 unfold uT2;split
 . exact U_N h
 . exact h
def BO (b L H:Int):Int × Int:=if H-L>=21600000 then (-10800000,10800000) else (sgd (b+L),sgd (b+L)+(H-L))
theorem Jm {b L H n1 n2 w g m c u r g2 sb z x y lo hi:Int} (hb:-10800000<=b/\b<10800000) (hL:0<=L/\L<=21599999/\L<=H/\H<=L+21600000) (e1:n1=IntKind.i64.wrap (b+L)) (e2:n2=IntKind.i64.wrap (b+H)) (ew:w=IntKind.i64.wrap (n2-n1)) (eg:g=b2i (decide (w>=21600000))) (em:m=Int.tmod n1 21600000) (ec:c=b2i (decide (m<0))) (eu:u=IntKind.i64.wrap (m+21600000)) (er:r=if c≠0 then u else m) (eg2:g2=b2i (decide (r>=10800000))) (es:sb=IntKind.i64.wrap (r-21600000)) (ez:z=if g2≠0 then sb else r) (ex:x=IntKind.i64.wrap (z+n2)) (ey:y=IntKind.i64.wrap (x-n1)) (elo:lo=if g≠0 then (-10800000:Int) else z) (ehi:hi=if g≠0 then (10800000:Int) else y):lo=(BO b L H).1/\hi=(BO b L H).2:=by
 rw [Go.IntWalk.i64_in _ (by omega)] at e1
 rw [Go.IntWalk.i64_in _ (by omega)] at e2
 rw [Go.IntWalk.i64_in _ (by omega)] at ew
 have S:=nV (x:=n1) (by omega) em ec eu er eg2 es ez
 have sb:=uf n1;rw [Go.IntWalk.i64_in _ (by omega)] at ex
 rw [Go.IntWalk.i64_in _ (by omega)] at ey
 unfold BO;rw [elo,ehi,eg,ko,ko]
 by_cases q:H-L>=21600000
 . simp [if_pos (show w>=21600000 by omega),if_pos q]
 . simp only [if_neg (show ¬ w>=21600000 by omega),if_neg q]
   refine ⟨by rw [S,e1],?_⟩
   show y=sgd (b+L)+(H-L);rw [<-e1,<-S];omega
abbrev crA (a b c d:Int):Prop:=(bA a b c d).getD 0 0=0/\(bA a b c d).getD 1 0=21600000
def vS (a b c d:Int):IV:=uS ((bA a b c d).getD 0 0) ((bA a b c d).getD 1 0)
def vK (a b c d:Int):IV:=uC ((bA a b c d).getD 0 0) ((bA a b c d).getD 1 0)
def vN (a b c d:Int):IV:=uW (uM (vS a b c d) (uC a a))
def vM (a b c d:Int):IV:=uM (uS a a) (vS a b c d)
def vB (k m:IV):Int × Int:=(bz k.1 k.2 m.1 m.2,bJ k.1 k.2 m.1 m.2)
def Ag (a b c d:Int):Int × Int :=
 if (vS a b c d).1>0∨(vS a b c d).2<0 then BO b (vB (uT2 ((vS a b c d).2<0) (vK a b c d)) (uT2 ((vS a b c d).2<0) (vM a b c d))).1 (vB (uT2 ((vS a b c d).2<0) (vK a b c d)) (uT2 ((vS a b c d).2<0) (vM a b c d))).2 else (-10800000,10800000)
def ow (a b c d:Int):List Int:=if crA a b c d then [0,0,0,0,21] else [oP (vN a b c d).2,qH (vN a b c d).1,(Ag a b c d).1,(Ag a b c d).2,0]
theorem TJ (k m:IV):0<=(vB k m).1/\(vB k m).1<=21599999/\(vB k m).1<=(vB k m).2/\(vB k m).2<=(vB k m).1+21600000:=mP _ _ _ _
theorem Md (a b c d:Int):dA ((bA a b c d).getD 0 0) ((bA a b c d).getD 1 0)=true:=by
 have:=oK a b c d;exact (cO _ _).2 (by omega)
def aG:List Nd:=[
 .arg 0,
 .arg 1,
 .arg 2,
 .arg 3,
 .app 75 0 [.n 0,.n 1,.n 2,.n 3],
 .app 75 1 [.n 0,.n 1,.n 2,.n 3],
 .app 75 2 [.n 0,.n 1,.n 2,.n 3],
 .app 75 3 [.n 0,.n 1,.n 2,.n 3],
 .app 75 4 [.n 0,.n 1,.n 2,.n 3],
 .bin .neq .i64 (.n 8) (.c 0),
 .bin .eql .i64 (.n 4) (.c 0),
 .bin .eql .i64 (.n 5) (.c 21600000),
 .ite (.n 10) (.n 11) (.c 0),
 .ite (.n 12) (.c 0) (.c 1),
 .ite (.n 9) (.c 0) (.c 1),
 .ite (.n 14) (.n 13) (.c 0),
 .ite (.n 14) (.n 12) (.c 0),
 .ite (.n 9) (.c 1) (.n 16),
 .ite (.n 9) (.n 8) (.c 21),
 .ite (.n 17) (.c 1) (.n 15),
 .ite (.n 17) (.n 18) (.c 0),
 .ite (.n 17) (.c 0) (.n 4),
 .ite (.n 17) (.c 0) (.n 5),
 .bin .neq .i64 (.n 20) (.c 0),
 .ite (.n 23) (.c 0) (.c 1),
 .app 5 0 [.n 21,.n 22],
 .app 5 1 [.n 21,.n 22],
 .app 5 2 [.n 21,.n 22],
 .app 6 0 [.n 0,.n 0],
 .app 6 1 [.n 0,.n 0],
 .app 6 2 [.n 0,.n 0],
 .bin .eql .i64 (.n 27) (.c 0),
 .ite (.n 31) (.c 0) (.c 1),
 .ite (.n 31) (.n 30) (.n 27),
 .app 0 0 [.n 25,.n 26,.n 28,.n 29],
 .app 0 1 [.n 25,.n 26,.n 28,.n 29],
 .app 0 2 [.n 25,.n 26,.n 28,.n 29],
 .bin .eql .i64 (.n 33) (.c 0),
 .ite (.n 37) (.c 0) (.c 1),
 .ite (.n 37) (.n 36) (.n 33),
 .bin .geq .i64 (.n 34) (.c 0),
 .bin .leq .i64 (.n 35) (.c 0),
 .bin .sub .i64 (.c 0) (.n 35),
 .bin .sub .i64 (.c 0) (.n 34),
 .ite (.n 41) (.c 0) (.c 1),
 .ite (.n 40) (.c 0) (.c 1),
 .ite (.n 45) (.n 44) (.c 0),
 .ite (.n 45) (.n 41) (.c 0),
 .ite (.n 40) (.c 1) (.n 47),
 .ite (.n 40) (.n 34) (.n 42),
 .ite (.n 40) (.n 35) (.n 43),
 .mx (.n 43) (.n 35),
 .ite (.n 48) (.c 1) (.n 46),
 .ite (.n 48) (.n 49) (.c 0),
 .ite (.n 48) (.n 50) (.n 51),
 .app 46 0 [.n 53,.n 54],
 .app 46 1 [.n 53,.n 54],
 .app 46 2 [.n 53,.n 54],
 .bin .eql .i64 (.n 39) (.c 0),
 .ite (.n 58) (.c 0) (.c 1),
 .ite (.n 58) (.n 57) (.n 39),
 .app 6 0 [.n 21,.n 22],
 .app 6 1 [.n 21,.n 22],
 .app 6 2 [.n 21,.n 22],
 .bin .eql .i64 (.n 60) (.c 0),
 .ite (.n 64) (.c 0) (.c 1),
 .ite (.n 64) (.n 63) (.n 60),
 .app 5 0 [.n 0,.n 0],
 .app 5 1 [.n 0,.n 0],
 .app 5 2 [.n 0,.n 0],
 .bin .eql .i64 (.n 66) (.c 0),
 .ite (.n 70) (.c 0) (.c 1),
 .ite (.n 70) (.n 69) (.n 66),
 .app 0 0 [.n 67,.n 68,.n 25,.n 26],
 .app 0 1 [.n 67,.n 68,.n 25,.n 26],
 .app 0 2 [.n 67,.n 68,.n 25,.n 26],
 .bin .eql .i64 (.n 72) (.c 0),
 .ite (.n 76) (.c 0) (.c 1),
 .ite (.n 76) (.n 75) (.n 72),
 .bin .lss .i64 (.n 26) (.c 0),
 .app 8 0 [.n 61,.n 62],
 .ite (.n 80) (.c 0) (.c 1),
 .ite (.n 81) (.c 0) (.c 1),
 .bin .sub .i64 (.c 0) (.n 62),
 .bin .sub .i64 (.c 0) (.n 61),
 .ite (.n 81) (.c 0) (.n 83),
 .ite (.n 81) (.c 0) (.n 84),
 .bin .eql .i64 (.n 78) (.c 0),
 .ite (.n 87) (.c 0) (.c 1),
 .ite (.n 87) (.n 81) (.n 78),
 .app 8 0 [.n 73,.n 74],
 .ite (.n 90) (.c 0) (.c 1),
 .ite (.n 91) (.c 0) (.c 1),
 .bin .sub .i64 (.c 0) (.n 74),
 .bin .sub .i64 (.c 0) (.n 73),
 .ite (.n 91) (.c 0) (.n 93),
 .ite (.n 91) (.c 0) (.n 94),
 .bin .eql .i64 (.n 89) (.c 0),
 .ite (.n 97) (.c 0) (.c 1),
 .ite (.n 97) (.n 91) (.n 89),
 .ite (.n 79) (.c 0) (.c 1),
 .ite (.n 79) (.n 95) (.n 73),
 .ite (.n 79) (.n 96) (.n 74),
 .ite (.n 79) (.n 85) (.n 61),
 .ite (.n 79) (.n 86) (.n 62),
 .ite (.n 79) (.n 99) (.n 78),
 .bin .gtr .i64 (.n 25) (.c 0),
 .ite (.n 106) (.c 1) (.n 79),
 .app 7 0 [.n 103,.n 104,.n 101,.n 102],
 .app 7 1 [.n 103,.n 104,.n 101,.n 102],
 .app 7 2 [.n 103,.n 104,.n 101,.n 102],
 .bin .eql .i64 (.n 105) (.c 0),
 .ite (.n 111) (.c 0) (.c 1),
 .ite (.n 111) (.n 110) (.n 105),
 .bin .add .i64 (.n 1) (.n 108),
 .bin .add .i64 (.n 1) (.n 109),
 .bin .sub .i64 (.n 115) (.n 114),
 .bin .geq .i64 (.n 116) (.c 21600000),
 .ite (.n 117) (.c 0) (.c 1),
 .bin .rem .i64 (.n 114) (.c 21600000),
 .bin .lss .i64 (.n 119) (.c 0),
 .bin .add .i64 (.n 119) (.c 21600000),
 .ite (.n 120) (.c 0) (.c 1),
 .ite (.n 120) (.n 121) (.n 119),
 .bin .geq .i64 (.n 123) (.c 10800000),
 .bin .sub .i64 (.n 123) (.c 21600000),
 .ite (.n 124) (.c 0) (.c 1),
 .ite (.n 124) (.n 125) (.n 123),
 .bin .add .i64 (.n 127) (.n 115),
 .bin .sub .i64 (.n 128) (.n 114),
 .ite (.n 117) (.c (-10800000)) (.n 127),
 .ite (.n 117) (.c 10800000) (.n 129),
 .ite (.n 107) (.c 0) (.c 1),
 .ite (.n 107) (.n 130) (.c (-10800000)),
 .ite (.n 107) (.n 131) (.c 10800000),
 .ite (.n 107) (.n 113) (.n 105),
 .bin .neq .i64 (.n 135) (.c 0),
 .ite (.n 136) (.c 0) (.c 1),
 .ite (.n 136) (.n 135) (.c 0),
 .ite (.n 136) (.c 0) (.n 55),
 .ite (.n 136) (.c 0) (.n 56),
 .ite (.n 136) (.c 0) (.n 133),
 .ite (.n 136) (.c 0) (.n 134),
 .ite (.n 23) (.n 20) (.n 138),
 .ite (.n 23) (.c 0) (.n 139),
 .ite (.n 23) (.c 0) (.n 140),
 .ite (.n 23) (.c 0) (.n 141),
 .ite (.n 23) (.c 0) (.n 142)]
def Ni:List Vc:=[
 ⟨[],.pre 75 [.n 0,.n 1,.n 2,.n 3]⟩,
 ⟨[(.n 24,true)],.pre 5 [.n 21,.n 22]⟩,
 ⟨[(.n 24,true)],.pre 6 [.n 0,.n 0]⟩,
 ⟨[(.n 24,true)],.pre 0 [.n 25,.n 26,.n 28,.n 29]⟩,
 ⟨[(.n 24,true)],.pre 46 [.n 53,.n 54]⟩,
 ⟨[(.n 24,true)],.pre 6 [.n 21,.n 22]⟩,
 ⟨[(.n 24,true)],.pre 5 [.n 0,.n 0]⟩,
 ⟨[(.n 24,true)],.pre 0 [.n 67,.n 68,.n 25,.n 26]⟩,
 ⟨[(.n 79,true),(.n 24,true)],.pre 8 [.n 61,.n 62]⟩,
 ⟨[(.n 79,true),(.n 24,true)],.pre 8 [.n 73,.n 74]⟩,
 ⟨[(.n 107,true),(.n 24,true)],.pre 7 [.n 103,.n 104,.n 101,.n 102]⟩]
theorem Dp:whole Try.prog spV 20 40 19 [(true,[some .i64,some .i64]),(true,[some .i64,some .i64])]=some (.tup [.agg [.int .i64 (.n 144),.int .i64 (.n 145),.int .i64 (.n 146),.int .i64 (.n 147)],.c (.int .i64 (.n 143))],⟨aG.reverse,Ni.reverse⟩):=by kernel_rfl
theorem D6:wfN aG.reverse=true:=by kernel_rfl
theorem Pb (a b c d:Int) (w:World) (h1:PtV a b) (h2:PtV c d):Calls Try.prog 19 #[.agg #[.int .i64 a,.int .i64 b],.agg #[.int .i64 c,.int .i64 d]] w fun e w'=>e=.returned (.tuple #[.agg #[.int .i64 ((ow a b c d).getD 0 0),.int .i64 ((ow a b c d).getD 1 0),.int .i64 ((ow a b c d).getD 2 0),.int .i64 ((ow a b c d).getD 3 0)],.int .i64 ((ow a b c d).getD 4 0)])/\Below w.heap.size w w':=by
 refine Sx.calls (X:=cxV [a,b,c,d]) fE (xN _) Dp D6 (fun v hs=>?_) w
 have e0:v 0=a:=ag hs 0 rfl;have e1:v 1=b:=ag hs 1 rfl;have e2:v 2=c:=ag hs 2 rfl;have e3:v 3=d:=ag hs 3 rfl;have e4:v 4=(xP 75 [v 0,v 1,v 2,v 3]).getD 0 0:=ag hs 4 rfl;have e5:v 5=(xP 75 [v 0,v 1,v 2,v 3]).getD 1 0:=ag hs 5 rfl;have e8:v 8=(xP 75 [v 0,v 1,v 2,v 3]).getD 4 0:=ag hs 8 rfl;have e10:v 10=b2i (v 4==(0:Int)):=ag hs 10 rfl;have e11:v 11=b2i (v 5==(21600000:Int)):=ag hs 11 rfl;have e12:v 12=if v 10≠0 then v 11 else (0:Int):=ag hs 12 rfl
 have IV0:invV (v 0) (v 1) (v 2) (v 3)=[(bA a b c d).getD 0 0,(bA a b c d).getD 1 0,(bY a b c d).getD 0 0,(bY a b c d).getD 1 0,0]:=by rw [e0,e1,e2,e3];exact if_pos ⟨h1,h2⟩
 have w4:v 4=(bA a b c d).getD 0 0:=e4.trans (by show (invV (v 0) (v 1) (v 2) (v 3)).getD 0 0=_;rw [IV0];rfl)
 have w5:v 5=(bA a b c d).getD 1 0:=e5.trans (by show (invV (v 0) (v 1) (v 2) (v 3)).getD 1 0=_;rw [IV0];rfl)
 have E8:v 8=0:=e8.trans (by show (invV (v 0) (v 1) (v 2) (v 3)).getD 4 0=_;rw [IV0];rfl)
 have Q12:v 12=b2i (decide (crA a b c d)):=by
  rw [e12,e10,e11,show (v 4==(0:Int))=decide (v 4=0) from rfl,show (v 5==(21600000:Int))=decide (v 5=21600000) from rfl,bb2,w4,w5]
 have CB:=oK a b c d;have CA:=Md a b c d;have wA0:dA (v 0) (v 0)=true:=by rw [e0];exact dw (by omega)
 rcases iX Q12 with ⟨g,u⟩|⟨g,u⟩
 . have z24:v 24=0:=aC (X:=cxV [a,b,c,d]) (v:=v) (l:=aG) (av _) hs (k:=24) (r:=.c 0) (ps:=[(8,.c 0),(12,.c 1)]) (nz:=[]) (aa E8 (aa u au)) aJ (by kernel_rfl)
   have z143:v 143=21:=aC (X:=cxV [a,b,c,d]) (v:=v) (l:=aG) (av _) hs (k:=143) (r:=.c 21) (ps:=[(8,.c 0),(12,.c 1)]) (nz:=[]) (aa E8 (aa u au)) aJ (by kernel_rfl)
   have z144:v 144=0:=aC (X:=cxV [a,b,c,d]) (v:=v) (l:=aG) (av _) hs (k:=144) (r:=.c 0) (ps:=[(8,.c 0),(12,.c 1)]) (nz:=[]) (aa E8 (aa u au)) aJ (by kernel_rfl)
   have z145:v 145=0:=aC (X:=cxV [a,b,c,d]) (v:=v) (l:=aG) (av _) hs (k:=145) (r:=.c 0) (ps:=[(8,.c 0),(12,.c 1)]) (nz:=[]) (aa E8 (aa u au)) aJ (by kernel_rfl)
   have z146:v 146=0:=aC (X:=cxV [a,b,c,d]) (v:=v) (l:=aG) (av _) hs (k:=146) (r:=.c 0) (ps:=[(8,.c 0),(12,.c 1)]) (nz:=[]) (aa E8 (aa u au)) aJ (by kernel_rfl)
   have z147:v 147=0:=aC (X:=cxV [a,b,c,d]) (v:=v) (l:=aG) (av _) hs (k:=147) (r:=.c 0) (ps:=[(8,.c 0),(12,.c 1)]) (nz:=[]) (aa E8 (aa u au)) aJ (by kernel_rfl)
   refine ⟨cB ?_,?_⟩
   . exact af (fun _=>trivial) (af (fun hp=>absurd z24 (aj hp).1) (af (fun hp=>absurd z24 (aj hp).1) (af (fun hp=>absurd z24 (aj hp).1) (af (fun hp=>absurd z24 (aj hp).1) (af (fun hp=>absurd z24 (aj hp).1) (af (fun hp=>absurd z24 (aj hp).1) (af (fun hp=>absurd z24 (aj hp).1) (af (fun hp=>absurd z24 (aj (aj hp).2).1) (af (fun hp=>absurd z24 (aj (aj hp).2).1) (af (fun hp=>absurd z24 (aj (aj hp).2).1) (cz)))))))))))
   . intro x hx0;have hx':=cu (v:=v) (by rfl) hx0
     rw [hx'];show Value.tuple #[.agg #[.int .i64 (v 144),.int .i64 (v 145),.int .i64 (v 146),.int .i64 (v 147)],.int .i64 (v 143)]=_;have V:ow a b c d=[0,0,0,0,21]:=if_pos g;rw [z143,z144,z145,z146,z147,V];rfl
 . have z21:v 21=v 4:=aA (X:=cxV [a,b,c,d]) (v:=v) (l:=aG) (av _) hs (k:=21) (j:=4) (ps:=[(8,.c 0),(12,.c 0)]) (aa E8 (aa u au)) (by kernel_rfl)
   have z22:v 22=v 5:=aA (X:=cxV [a,b,c,d]) (v:=v) (l:=aG) (av _) hs (k:=22) (j:=5) (ps:=[(8,.c 0),(12,.c 0)]) (aa E8 (aa u au)) (by kernel_rfl)
   have w21:v 21=(bA a b c d).getD 0 0:=z21.trans w4;have w22:v 22=(bA a b c d).getD 1 0:=z22.trans w5;have wA1:dA (v 21) (v 22)=true:=by rw [w21,w22];exact CA
   have e25:v 25=(aB 5 [v 21,v 22]).getD 0 0:=ag hs 25 rfl;have e26:v 26=(aB 5 [v 21,v 22]).getD 1 0:=ag hs 26 rfl;have P25:((v 25,v 26):IV)=uS (v 21) (v 22):=by rw [e25,e26];rfl
   have U25:U (v 25,v 26):=by rw [P25];exact U_S _ _
   have e61:v 61=(aB 6 [v 21,v 22]).getD 0 0:=ag hs 61 rfl;have e62:v 62=(aB 6 [v 21,v 22]).getD 1 0:=ag hs 62 rfl;have P61:((v 61,v 62):IV)=uC (v 21) (v 22):=by rw [e61,e62];rfl
   have U61:U (v 61,v 62):=by rw [P61];exact U_C _ _
   have e28:v 28=(aB 6 [v 0,v 0]).getD 0 0:=ag hs 28 rfl;have e29:v 29=(aB 6 [v 0,v 0]).getD 1 0:=ag hs 29 rfl;have P28:((v 28,v 29):IV)=uC (v 0) (v 0):=by rw [e28,e29];rfl
   have U28:U (v 28,v 29):=by rw [P28];exact U_C _ _
   have e67:v 67=(aB 5 [v 0,v 0]).getD 0 0:=ag hs 67 rfl;have e68:v 68=(aB 5 [v 0,v 0]).getD 1 0:=ag hs 68 rfl;have P67:((v 67,v 68):IV)=uS (v 0) (v 0):=by rw [e67,e68];rfl
   have U67:U (v 67,v 68):=by rw [P67];exact U_S _ _
   have e34:v 34=(aB 0 [v 25,v 26,v 28,v 29]).getD 0 0:=ag hs 34 rfl;have e35:v 35=(aB 0 [v 25,v 26,v 28,v 29]).getD 1 0:=ag hs 35 rfl;have P34:((v 34,v 35):IV)=uM (v 25,v 26) (v 28,v 29):=by rw [e34,e35];rfl
   have U34:U (v 34,v 35):=by rw [P34];exact (U_M U25 U28).2.2
   have e36:v 36=(aB 0 [v 25,v 26,v 28,v 29]).getD 2 0:=ag hs 36 rfl;have E36:v 36=0:=e36.trans (U_M U25 U28).2.1;have e73:v 73=(aB 0 [v 67,v 68,v 25,v 26]).getD 0 0:=ag hs 73 rfl;have e74:v 74=(aB 0 [v 67,v 68,v 25,v 26]).getD 1 0:=ag hs 74 rfl;have P73:((v 73,v 74):IV)=uM (v 67,v 68) (v 25,v 26):=by rw [e73,e74];rfl
   have U73:U (v 73,v 74):=by rw [P73];exact (U_M U67 U25).2.2
   have e75:v 75=(aB 0 [v 67,v 68,v 25,v 26]).getD 2 0:=ag hs 75 rfl;have E75:v 75=0:=e75.trans (U_M U67 U25).2.1;have e40:v 40=b2i (decide (v 34>=(0:Int))):=ag hs 40 rfl;have e41:v 41=b2i (decide (v 35<=(0:Int))):=ag hs 41 rfl;have e42:v 42=IntKind.i64.wrap ((0:Int)-v 35):=ag hs 42 rfl;have e43:v 43=IntKind.i64.wrap ((0:Int)-v 34):=ag hs 43 rfl;have e51:v 51=if v 35>v 43 then v 35 else v 43:=ag hs 51 rfl
   have e55:v 55=(iE 46 [v 53,v 54]).getD 0 0:=ag hs 55 rfl;have e56:v 56=(iE 46 [v 53,v 54]).getD 1 0:=ag hs 56 rfl;have e79:v 79=b2i (decide (v 26<(0:Int))):=ag hs 79 rfl;have e80:v 80=b2i (fxV (v 61) (v 62)):=ag hs 80 rfl;have e83:v 83=IntKind.i64.wrap ((0:Int)-v 62):=ag hs 83 rfl;have e84:v 84=IntKind.i64.wrap ((0:Int)-v 61):=ag hs 84 rfl;have e90:v 90=b2i (fxV (v 73) (v 74)):=ag hs 90 rfl;have e93:v 93=IntKind.i64.wrap ((0:Int)-v 74):=ag hs 93 rfl;have e94:v 94=IntKind.i64.wrap ((0:Int)-v 73):=ag hs 94 rfl;have e106:v 106=b2i (decide (v 25>(0:Int))):=ag hs 106 rfl;have e108:v 108=(aB 7 [v 103,v 104,v 101,v 102]).getD 0 0:=ag hs 108 rfl;have e109:v 109=(aB 7 [v 103,v 104,v 101,v 102]).getD 1 0:=ag hs 109 rfl;have s0:v 25=(vS a b c d).1:=by rw [show v 25=(uS (v 21) (v 22)).1 from congrArg Prod.fst P25,w21,w22];rfl
   have s1:v 26=(vS a b c d).2:=by rw [show v 26=(uS (v 21) (v 22)).2 from congrArg Prod.snd P25,w21,w22];rfl
   have PK:((v 61,v 62):IV)=vK a b c d:=by rw [P61,w21,w22];rfl
   have PM:((v 73,v 74):IV)=vM a b c d:=by rw [P73,P67,P25,w21,w22,e0];rfl
   have PN:((v 34,v 35):IV)=uM (vS a b c d) (uC a a):=by rw [P34,P25,P28,w21,w22,e0];rfl
   have u34:=U34;have u73:=U73;have u61:=U61;unfold U at u34 u73 u61;simp only at u34 u73 u61;have w42:v 42=-v 35:=by rw [e42,Go.IntWalk.i64_in _ (by omega)];omega
   have w43:v 43=-v 34:=by rw [e43,Go.IntWalk.i64_in _ (by omega)];omega
   have w51:v 51=max (-v 34) (v 35):=by rw [e51,w43];omega
   have w83:v 83=-v 62:=by rw [e83,Go.IntWalk.i64_in _ (by omega)];omega
   have w84:v 84=-v 61:=by rw [e84,Go.IntWalk.i64_in _ (by omega)];omega
   have w93:v 93=-v 74:=by rw [e93,Go.IntWalk.i64_in _ (by omega)];omega
   have w94:v 94=-v 73:=by rw [e94,Go.IntWalk.i64_in _ (by omega)];omega
   have A80:v 80=1:=by rw [e80,show fxV (v 61) (v 62)=true from bD U61];rfl
   have A90:v 90=1:=by rw [e90,show fxV (v 73) (v 74)=true from bD U73];rfl
   have AB:((v 53,v 54):IV)=uW (v 34,v 35):=by
    unfold uW;rcases iX e40 with ⟨g1,u1⟩|⟨g1,u1⟩
    . have z53:v 53=v 34:=aA (X:=cxV [a,b,c,d]) (v:=v) (l:=aG) (av _) hs (k:=53) (j:=34) (ps:=[(8,.c 0),(12,.c 0),(36,.c 0),(40,.c 1),(75,.c 0),(80,.c 1),(90,.c 1)]) (aa E8 (aa u (aa E36 (aa u1 (aa E75 (aa A80 (aa A90 au))))))) (by kernel_rfl)
      have z54:v 54=v 35:=aA (X:=cxV [a,b,c,d]) (v:=v) (l:=aG) (av _) hs (k:=54) (j:=35) (ps:=[(8,.c 0),(12,.c 0),(36,.c 0),(40,.c 1),(75,.c 0),(80,.c 1),(90,.c 1)]) (aa E8 (aa u (aa E36 (aa u1 (aa E75 (aa A80 (aa A90 au))))))) (by kernel_rfl)
      rw [if_pos g1,z53,z54]
    . rw [if_neg g1];rcases iX e41 with ⟨g2,u2⟩|⟨g2,u2⟩
      . have z53:v 53=v 42:=aA (X:=cxV [a,b,c,d]) (v:=v) (l:=aG) (av _) hs (k:=53) (j:=42) (ps:=[(8,.c 0),(12,.c 0),(36,.c 0),(40,.c 0),(41,.c 1),(75,.c 0),(80,.c 1),(90,.c 1)]) (aa E8 (aa u (aa E36 (aa u1 (aa u2 (aa E75 (aa A80 (aa A90 au)))))))) (by kernel_rfl)
        have z54:v 54=v 43:=aA (X:=cxV [a,b,c,d]) (v:=v) (l:=aG) (av _) hs (k:=54) (j:=43) (ps:=[(8,.c 0),(12,.c 0),(36,.c 0),(40,.c 0),(41,.c 1),(75,.c 0),(80,.c 1),(90,.c 1)]) (aa E8 (aa u (aa E36 (aa u1 (aa u2 (aa E75 (aa A80 (aa A90 au)))))))) (by kernel_rfl)
        rw [if_pos g2,z53,z54,w42,w43];rfl
      . have z53:v 53=0:=aC (X:=cxV [a,b,c,d]) (v:=v) (l:=aG) (av _) hs (k:=53) (r:=.c 0) (ps:=[(8,.c 0),(12,.c 0),(36,.c 0),(40,.c 0),(41,.c 0),(75,.c 0),(80,.c 1),(90,.c 1)]) (nz:=[]) (aa E8 (aa u (aa E36 (aa u1 (aa u2 (aa E75 (aa A80 (aa A90 au)))))))) aJ (by kernel_rfl)
        have z54:v 54=v 51:=aA (X:=cxV [a,b,c,d]) (v:=v) (l:=aG) (av _) hs (k:=54) (j:=51) (ps:=[(8,.c 0),(12,.c 0),(36,.c 0),(40,.c 0),(41,.c 0),(75,.c 0),(80,.c 1),(90,.c 1)]) (aa E8 (aa u (aa E36 (aa u1 (aa u2 (aa E75 (aa A80 (aa A90 au)))))))) (by kernel_rfl)
        rw [if_neg g2,z53,z54,w51]
   have UA:=VA U34;rw [<-AB] at UA;simp only at UA;have n0:v 53=(vN a b c d).1:=by rw [show v 53=(uW (v 34,v 35)).1 from congrArg Prod.fst AB,PN];rfl
   have n1:v 54=(vN a b c d).2:=by rw [show v 54=(uW (v 34,v 35)).2 from congrArg Prod.snd AB,PN];rfl
   have V0:v 55=oP (v 54):=e55.trans (D5 _ _).1;have V1:v 56=qH (v 53):=e56.trans (D5 _ _).2.1;have P46:fxV (v 53) (v 54)=true/\v 53<=1073741824/\-1073741824<=v 54:=by rw [ek];omega
   have SG:=iX e79
   have BX:(v 103,v 104,v 101,v 102)=((uT2 (v 26<0) (v 61,v 62)).1,(uT2 (v 26<0) (v 61,v 62)).2,(uT2 (v 26<0) (v 73,v 74)).1,(uT2 (v 26<0) (v 73,v 74)).2):=by
    unfold uT2;rcases SG with ⟨g3,u3⟩|⟨g3,u3⟩
    . have z103:v 103=v 83:=aA (X:=cxV [a,b,c,d]) (v:=v) (l:=aG) (av _) hs (k:=103) (j:=83) (ps:=[(8,.c 0),(12,.c 0),(36,.c 0),(75,.c 0),(79,.c 1),(80,.c 1),(90,.c 1)]) (aa E8 (aa u (aa E36 (aa E75 (aa u3 (aa A80 (aa A90 au))))))) (by kernel_rfl)
      have z104:v 104=v 84:=aA (X:=cxV [a,b,c,d]) (v:=v) (l:=aG) (av _) hs (k:=104) (j:=84) (ps:=[(8,.c 0),(12,.c 0),(36,.c 0),(75,.c 0),(79,.c 1),(80,.c 1),(90,.c 1)]) (aa E8 (aa u (aa E36 (aa E75 (aa u3 (aa A80 (aa A90 au))))))) (by kernel_rfl)
      have z101:v 101=v 93:=aA (X:=cxV [a,b,c,d]) (v:=v) (l:=aG) (av _) hs (k:=101) (j:=93) (ps:=[(8,.c 0),(12,.c 0),(36,.c 0),(75,.c 0),(79,.c 1),(80,.c 1),(90,.c 1)]) (aa E8 (aa u (aa E36 (aa E75 (aa u3 (aa A80 (aa A90 au))))))) (by kernel_rfl)
      have z102:v 102=v 94:=aA (X:=cxV [a,b,c,d]) (v:=v) (l:=aG) (av _) hs (k:=102) (j:=94) (ps:=[(8,.c 0),(12,.c 0),(36,.c 0),(75,.c 0),(79,.c 1),(80,.c 1),(90,.c 1)]) (aa E8 (aa u (aa E36 (aa E75 (aa u3 (aa A80 (aa A90 au))))))) (by kernel_rfl)
      rw [if_pos g3,if_pos g3,z103,z104,z101,z102,w83,w84,w93,w94];rfl
    . have z103:v 103=v 61:=aA (X:=cxV [a,b,c,d]) (v:=v) (l:=aG) (av _) hs (k:=103) (j:=61) (ps:=[(8,.c 0),(12,.c 0),(36,.c 0),(75,.c 0),(79,.c 0),(80,.c 1),(90,.c 1)]) (aa E8 (aa u (aa E36 (aa E75 (aa u3 (aa A80 (aa A90 au))))))) (by kernel_rfl)
      have z104:v 104=v 62:=aA (X:=cxV [a,b,c,d]) (v:=v) (l:=aG) (av _) hs (k:=104) (j:=62) (ps:=[(8,.c 0),(12,.c 0),(36,.c 0),(75,.c 0),(79,.c 0),(80,.c 1),(90,.c 1)]) (aa E8 (aa u (aa E36 (aa E75 (aa u3 (aa A80 (aa A90 au))))))) (by kernel_rfl)
      have z101:v 101=v 73:=aA (X:=cxV [a,b,c,d]) (v:=v) (l:=aG) (av _) hs (k:=101) (j:=73) (ps:=[(8,.c 0),(12,.c 0),(36,.c 0),(75,.c 0),(79,.c 0),(80,.c 1),(90,.c 1)]) (aa E8 (aa u (aa E36 (aa E75 (aa u3 (aa A80 (aa A90 au))))))) (by kernel_rfl)
      have z102:v 102=v 74:=aA (X:=cxV [a,b,c,d]) (v:=v) (l:=aG) (av _) hs (k:=102) (j:=74) (ps:=[(8,.c 0),(12,.c 0),(36,.c 0),(75,.c 0),(79,.c 0),(80,.c 1),(90,.c 1)]) (aa E8 (aa u (aa E36 (aa E75 (aa u3 (aa A80 (aa A90 au))))))) (by kernel_rfl)
      rw [if_neg g3,if_neg g3,z103,z104,z101,z102]
   have b0:=congrArg Prod.fst BX;have b1:=congrArg (fun x:Int × Int × Int × Int=>x.2.1) BX
   have b2:=congrArg (fun x:Int × Int × Int × Int=>x.2.2.1) BX
   have b3:=congrArg (fun x:Int × Int × Int × Int=>x.2.2.2) BX
   simp only at b0 b1 b2 b3;have FB:fxV (v 103) (v 104)=true:=by rw [b0,b1];exact bD (TI U61)
   have GB:fxV (v 101) (v 102)=true:=by rw [b2,b3];exact bD (TI U73)
   have B0:v 108=(vB (uT2 ((vS a b c d).2<0) (vK a b c d)) (uT2 ((vS a b c d).2<0) (vM a b c d))).1:=by
    rw [show v 108=bz (v 103) (v 104) (v 101) (v 102) from e108,b0,b1,b2,b3,PK,PM,s1];rfl
   have B1:v 109=(vB (uT2 ((vS a b c d).2<0) (vK a b c d)) (uT2 ((vS a b c d).2<0) (vM a b c d))).2:=by
    rw [show v 109=bJ (v 103) (v 104) (v 101) (v 102) from e109,b0,b1,b2,b3,PK,PM,s1];rfl
   have BB:=TJ (uT2 ((vS a b c d).2<0) (vK a b c d)) (uT2 ((vS a b c d).2<0) (vM a b c d));rw [<-B0,<-B1] at BB;have LO:=Jm (b:=v 1) (L:=v 108) (H:=v 109) (n1:=v 114) (n2:=v 115) (w:=v 116) (g:=v 117) (m:=v 119) (c:=v 120) (u:=v 121) (r:=v 123) (g2:=v 124) (sb:=v 125) (z:=v 127) (x:=v 128) (y:=v 129) (lo:=v 130) (hi:=v 131) (by rw [e1];exact h1.2) BB (ag hs 114 rfl) (ag hs 115 rfl) (ag hs 116 rfl) (ag hs 117 rfl) (ag hs 119 rfl) (ag hs 120 rfl) (ag hs 121 rfl) (ag hs 123 rfl) (ag hs 124 rfl) (ag hs 125 rfl) (ag hs 127 rfl) (ag hs 128 rfl) (ag hs 129 rfl) (ag hs 130 rfl) (ag hs 131 rfl)
   rw [B0,B1,e1] at LO;have V:ow a b c d=[oP (vN a b c d).2,qH (vN a b c d).1,(Ag a b c d).1,(Ag a b c d).2,0]:=if_neg g;refine ⟨cB ?_,?_⟩
   . exact af (fun _=>trivial) (af (fun _=>wA1) (af (fun _=>wA0) (af (fun _=>⟨bD U25,bD U28⟩) (af (fun _=>P46) (af (fun _=>wA1) (af (fun _=>wA0) (af (fun _=>⟨bD U67,bD U25⟩) (af (fun _=>trivial) (af (fun _=>trivial) (af (fun _=>⟨FB,GB⟩) (cz)))))))))))
   . intro x hx0;have hx':=cu (v:=v) (by rfl) hx0
     rw [hx'];show Value.tuple #[.agg #[.int .i64 (v 144),.int .i64 (v 145),.int .i64 (v 146),.int .i64 (v 147)],.int .i64 (v 143)]=_;rcases SG with ⟨g3,u3⟩|⟨g3,u3⟩<;>rcases iX e106 with ⟨g4,u4⟩|⟨g4,u4⟩
     . have z143:v 143=0:=aC (X:=cxV [a,b,c,d]) (v:=v) (l:=aG) (av _) hs (k:=143) (r:=.c 0) (ps:=[(8,.c 0),(12,.c 0),(36,.c 0),(75,.c 0),(79,.c 1),(80,.c 1),(90,.c 1),(106,.c 1)]) (nz:=[]) (aa E8 (aa u (aa E36 (aa E75 (aa u3 (aa A80 (aa A90 (aa u4 au)))))))) aJ (by kernel_rfl)
       have z144:v 144=v 55:=aA (X:=cxV [a,b,c,d]) (v:=v) (l:=aG) (av _) hs (k:=144) (j:=55) (ps:=[(8,.c 0),(12,.c 0),(36,.c 0),(75,.c 0),(79,.c 1),(80,.c 1),(90,.c 1),(106,.c 1)]) (aa E8 (aa u (aa E36 (aa E75 (aa u3 (aa A80 (aa A90 (aa u4 au)))))))) (by kernel_rfl)
       have z145:v 145=v 56:=aA (X:=cxV [a,b,c,d]) (v:=v) (l:=aG) (av _) hs (k:=145) (j:=56) (ps:=[(8,.c 0),(12,.c 0),(36,.c 0),(75,.c 0),(79,.c 1),(80,.c 1),(90,.c 1),(106,.c 1)]) (aa E8 (aa u (aa E36 (aa E75 (aa u3 (aa A80 (aa A90 (aa u4 au)))))))) (by kernel_rfl)
       have z146:v 146=v 130:=aA (X:=cxV [a,b,c,d]) (v:=v) (l:=aG) (av _) hs (k:=146) (j:=130) (ps:=[(8,.c 0),(12,.c 0),(36,.c 0),(75,.c 0),(79,.c 1),(80,.c 1),(90,.c 1),(106,.c 1)]) (aa E8 (aa u (aa E36 (aa E75 (aa u3 (aa A80 (aa A90 (aa u4 au)))))))) (by kernel_rfl)
       have z147:v 147=v 131:=aA (X:=cxV [a,b,c,d]) (v:=v) (l:=aG) (av _) hs (k:=147) (j:=131) (ps:=[(8,.c 0),(12,.c 0),(36,.c 0),(75,.c 0),(79,.c 1),(80,.c 1),(90,.c 1),(106,.c 1)]) (aa E8 (aa u (aa E36 (aa E75 (aa u3 (aa A80 (aa A90 (aa u4 au)))))))) (by kernel_rfl)
       have L:Ag a b c d=BO b (vB (uT2 ((vS a b c d).2<0) (vK a b c d)) (uT2 ((vS a b c d).2<0) (vM a b c d))).1 (vB (uT2 ((vS a b c d).2<0) (vK a b c d)) (uT2 ((vS a b c d).2<0) (vM a b c d))).2:=if_pos (.inr (by rw [<-s1];exact g3))
       rw [z143,z144,z145,z146,z147,V,V0,V1,n0,n1,LO.1,LO.2,L];rfl
     . have z143:v 143=0:=aC (X:=cxV [a,b,c,d]) (v:=v) (l:=aG) (av _) hs (k:=143) (r:=.c 0) (ps:=[(8,.c 0),(12,.c 0),(36,.c 0),(75,.c 0),(79,.c 1),(80,.c 1),(90,.c 1),(106,.c 0)]) (nz:=[]) (aa E8 (aa u (aa E36 (aa E75 (aa u3 (aa A80 (aa A90 (aa u4 au)))))))) aJ (by kernel_rfl)
       have z144:v 144=v 55:=aA (X:=cxV [a,b,c,d]) (v:=v) (l:=aG) (av _) hs (k:=144) (j:=55) (ps:=[(8,.c 0),(12,.c 0),(36,.c 0),(75,.c 0),(79,.c 1),(80,.c 1),(90,.c 1),(106,.c 0)]) (aa E8 (aa u (aa E36 (aa E75 (aa u3 (aa A80 (aa A90 (aa u4 au)))))))) (by kernel_rfl)
       have z145:v 145=v 56:=aA (X:=cxV [a,b,c,d]) (v:=v) (l:=aG) (av _) hs (k:=145) (j:=56) (ps:=[(8,.c 0),(12,.c 0),(36,.c 0),(75,.c 0),(79,.c 1),(80,.c 1),(90,.c 1),(106,.c 0)]) (aa E8 (aa u (aa E36 (aa E75 (aa u3 (aa A80 (aa A90 (aa u4 au)))))))) (by kernel_rfl)
       have z146:v 146=v 130:=aA (X:=cxV [a,b,c,d]) (v:=v) (l:=aG) (av _) hs (k:=146) (j:=130) (ps:=[(8,.c 0),(12,.c 0),(36,.c 0),(75,.c 0),(79,.c 1),(80,.c 1),(90,.c 1),(106,.c 0)]) (aa E8 (aa u (aa E36 (aa E75 (aa u3 (aa A80 (aa A90 (aa u4 au)))))))) (by kernel_rfl)
       have z147:v 147=v 131:=aA (X:=cxV [a,b,c,d]) (v:=v) (l:=aG) (av _) hs (k:=147) (j:=131) (ps:=[(8,.c 0),(12,.c 0),(36,.c 0),(75,.c 0),(79,.c 1),(80,.c 1),(90,.c 1),(106,.c 0)]) (aa E8 (aa u (aa E36 (aa E75 (aa u3 (aa A80 (aa A90 (aa u4 au)))))))) (by kernel_rfl)
       have L:Ag a b c d=BO b (vB (uT2 ((vS a b c d).2<0) (vK a b c d)) (uT2 ((vS a b c d).2<0) (vM a b c d))).1 (vB (uT2 ((vS a b c d).2<0) (vK a b c d)) (uT2 ((vS a b c d).2<0) (vM a b c d))).2:=if_pos (.inr (by rw [<-s1];exact g3))
       rw [z143,z144,z145,z146,z147,V,V0,V1,n0,n1,LO.1,LO.2,L];rfl
     . have z143:v 143=0:=aC (X:=cxV [a,b,c,d]) (v:=v) (l:=aG) (av _) hs (k:=143) (r:=.c 0) (ps:=[(8,.c 0),(12,.c 0),(36,.c 0),(75,.c 0),(79,.c 0),(80,.c 1),(90,.c 1),(106,.c 1)]) (nz:=[]) (aa E8 (aa u (aa E36 (aa E75 (aa u3 (aa A80 (aa A90 (aa u4 au)))))))) aJ (by kernel_rfl)
       have z144:v 144=v 55:=aA (X:=cxV [a,b,c,d]) (v:=v) (l:=aG) (av _) hs (k:=144) (j:=55) (ps:=[(8,.c 0),(12,.c 0),(36,.c 0),(75,.c 0),(79,.c 0),(80,.c 1),(90,.c 1),(106,.c 1)]) (aa E8 (aa u (aa E36 (aa E75 (aa u3 (aa A80 (aa A90 (aa u4 au)))))))) (by kernel_rfl)
       have z145:v 145=v 56:=aA (X:=cxV [a,b,c,d]) (v:=v) (l:=aG) (av _) hs (k:=145) (j:=56) (ps:=[(8,.c 0),(12,.c 0),(36,.c 0),(75,.c 0),(79,.c 0),(80,.c 1),(90,.c 1),(106,.c 1)]) (aa E8 (aa u (aa E36 (aa E75 (aa u3 (aa A80 (aa A90 (aa u4 au)))))))) (by kernel_rfl)
       have z146:v 146=v 130:=aA (X:=cxV [a,b,c,d]) (v:=v) (l:=aG) (av _) hs (k:=146) (j:=130) (ps:=[(8,.c 0),(12,.c 0),(36,.c 0),(75,.c 0),(79,.c 0),(80,.c 1),(90,.c 1),(106,.c 1)]) (aa E8 (aa u (aa E36 (aa E75 (aa u3 (aa A80 (aa A90 (aa u4 au)))))))) (by kernel_rfl)
       have z147:v 147=v 131:=aA (X:=cxV [a,b,c,d]) (v:=v) (l:=aG) (av _) hs (k:=147) (j:=131) (ps:=[(8,.c 0),(12,.c 0),(36,.c 0),(75,.c 0),(79,.c 0),(80,.c 1),(90,.c 1),(106,.c 1)]) (aa E8 (aa u (aa E36 (aa E75 (aa u3 (aa A80 (aa A90 (aa u4 au)))))))) (by kernel_rfl)
       have L:Ag a b c d=BO b (vB (uT2 ((vS a b c d).2<0) (vK a b c d)) (uT2 ((vS a b c d).2<0) (vM a b c d))).1 (vB (uT2 ((vS a b c d).2<0) (vK a b c d)) (uT2 ((vS a b c d).2<0) (vM a b c d))).2:=if_pos (.inl (by rw [<-s0];exact g4))
       rw [z143,z144,z145,z146,z147,V,V0,V1,n0,n1,LO.1,LO.2,L];rfl
     . have z143:v 143=0:=aC (X:=cxV [a,b,c,d]) (v:=v) (l:=aG) (av _) hs (k:=143) (r:=.c 0) (ps:=[(8,.c 0),(12,.c 0),(36,.c 0),(75,.c 0),(79,.c 0),(80,.c 1),(90,.c 1),(106,.c 0)]) (nz:=[]) (aa E8 (aa u (aa E36 (aa E75 (aa u3 (aa A80 (aa A90 (aa u4 au)))))))) aJ (by kernel_rfl)
       have z144:v 144=v 55:=aA (X:=cxV [a,b,c,d]) (v:=v) (l:=aG) (av _) hs (k:=144) (j:=55) (ps:=[(8,.c 0),(12,.c 0),(36,.c 0),(75,.c 0),(79,.c 0),(80,.c 1),(90,.c 1),(106,.c 0)]) (aa E8 (aa u (aa E36 (aa E75 (aa u3 (aa A80 (aa A90 (aa u4 au)))))))) (by kernel_rfl)
       have z145:v 145=v 56:=aA (X:=cxV [a,b,c,d]) (v:=v) (l:=aG) (av _) hs (k:=145) (j:=56) (ps:=[(8,.c 0),(12,.c 0),(36,.c 0),(75,.c 0),(79,.c 0),(80,.c 1),(90,.c 1),(106,.c 0)]) (aa E8 (aa u (aa E36 (aa E75 (aa u3 (aa A80 (aa A90 (aa u4 au)))))))) (by kernel_rfl)
       have z146:v 146=(-10800000):=aC (X:=cxV [a,b,c,d]) (v:=v) (l:=aG) (av _) hs (k:=146) (r:=.c (-10800000)) (ps:=[(8,.c 0),(12,.c 0),(36,.c 0),(75,.c 0),(79,.c 0),(80,.c 1),(90,.c 1),(106,.c 0)]) (nz:=[]) (aa E8 (aa u (aa E36 (aa E75 (aa u3 (aa A80 (aa A90 (aa u4 au)))))))) aJ (by kernel_rfl)
       have z147:v 147=10800000:=aC (X:=cxV [a,b,c,d]) (v:=v) (l:=aG) (av _) hs (k:=147) (r:=.c 10800000) (ps:=[(8,.c 0),(12,.c 0),(36,.c 0),(75,.c 0),(79,.c 0),(80,.c 1),(90,.c 1),(106,.c 0)]) (nz:=[]) (aa E8 (aa u (aa E36 (aa E75 (aa u3 (aa A80 (aa A90 (aa u4 au)))))))) aJ (by kernel_rfl)
       have L:Ag a b c d=(-10800000,10800000):=if_neg (by rw [<-s0,<-s1];omega)
       rw [z143,z144,z145,z146,z147,V,V0,V1,n0,n1,L];rfl
