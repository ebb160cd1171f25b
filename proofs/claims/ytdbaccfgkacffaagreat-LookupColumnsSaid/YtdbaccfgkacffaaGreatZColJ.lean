/- The solution from two columns, on both sides: one function of numbers. -/
import Derived.Test.YtdbaccfgkacffaaGreatZCol1
import Derived.Test.YtdbaccfgkacffaaGreatZColG
import Derived.Test.YtdbaccfgkacffaaGreatZColS
import Derived.Test.YtdbaccfgkacffaaGreatZLkQ
import Derived.Test.YtdbaccfgkacffaaGreatZLkP
set_option linter.unusedVariables false
set_option linter.unusedSimpArgs false
set_option maxRecDepth 100000
set_option maxHeartbeats 4000000
namespace Go.Proofs.YtdbaccfgkacffaaGreat
open Go.RowKit Alm Sx
def pq (la de eh ez:Int) (H Z:Cs):Bool:=decide (-90<=la/\la<=90)&&decide (-90<=de/\de<=90)&&decide (H.length=181)&&decide (Z.length=181)&&decide (0<=eh/\eh<=10800000)&&decide (0<=ez/\ez<=10800000)&&H.all hOk&&Z.all zOk
theorem DX (la de eh ez:Int) (aH aZ:Option Addr) (cH cZ:Nat) (H Z:Cs) (w:World) (hH:SlI 2 w aH H) (hZ:SlI 2 w aZ Z) (hn:H.length<=200) (hm:Z.length<=200) :
 Calls Tryz.prog 111 #[.agg #[.int .i64 la,.int .i64 de,.slice aH H.length cH,.slice aZ Z.length cZ,.int .i64 eh,.int .i64 ez]] w fun e w'=>e=.returned (.bool (pq la de eh ez H Z))/\Below w.heap.size w w':=by
 have h:=L6 la de eh ez aH aZ H.length cH Z.length cZ (decide (-90<=la/\la<=90)) (decide (-90<=de/\de<=90)) (!H.all hOk) (!Z.all zOk) w (Lib.hid (fun w=>ET la w)) (Lib.hid (fun w=>ET de w)) (Lib.hid (fun w1 hb=>VX aH cH H w1 (hH.below hb) (by omega))) (Lib.hid (fun w1 hb=>Tj aZ cZ Z w1 (hZ.below hb) (by omega)))
 rw [Bool.not_not,Bool.not_not] at h;exact h
theorem C9 (la de eh ez:Int) (aH aZ:Option Addr) (cH cZ:Nat) (H Z:Cs) (w:World) (hH:SlI 2 w aH H) (hZ:SlI 2 w aZ Z) :
 Calls Tryz.prog 113 #[.agg #[.int .i64 la,.int .i64 de,.slice aH H.length cH,.slice aZ Z.length cZ,.int .i64 eh,.int .i64 ez]] w fun e w'=>e=.returned (.bool (pq la de eh ez H Z))/\Below w.heap.size w w' :=
 MG la de eh ez aH aZ H.length cH Z.length cZ (decide (-90<=la/\la<=90)) (decide (-90<=de/\de<=90)) (decide (0<=eh/\eh<=10800000)) (decide (0<=ez/\ez<=10800000)) H Z hOk zOk w hH hZ rfl rfl (Lib.hid (fun w=>Ce la w)) (Lib.hid (fun w=>Ce de w)) (Lib.hid (fun w=>Cc eh w)) (Lib.hid (fun w=>Cc ez w)) (Lib.hid (fun a b w=>VU a b w)) (Lib.hid (fun a b w=>RB a b w))
def ro (L:Cs) (i j:Nat):Int:=(L.getD i []).getD j 0
def frK (l0:Int):Int:=min (l0/60000) 179
def frN (l0:Int):Nat:=(frK l0).toNat
def frE (H Z:Cs) (eh ez l0 l1:Int) (j:Nat):Int:=(hrV (ro H (frN l0) 0) (ro H (frN l0) 1) (ro Z (frN l0) 0) (ro Z (frN l0) 1) (ro H (frN l0+1) 0) (ro H (frN l0+1) 1) (ro Z (frN l0+1) 0) (ro Z (frN l0+1) 1) eh ez (l0-frK l0*60000) (l1-frK l0*60000)).getD j 0
def frV (la de eh ez la2 de2 eh2 ez2 d0 d1 l0 l1:Int) (H Z I Y:Cs):List Int :=
 if (pq la de eh ez H Z&&pq la2 de2 eh2 ez2 I Y&&bf d0 d1&&bf l0 l1)=false then [0,0,0,0,1] else if la≠la2∨de2≠de+1 then [0,0,0,0,11] else if ¬ (de*60000<=d0/\d1<=de2*60000/\0<=l0/\l1<=10800000) then [0,0,0,0,2] else if ¬ l1-frK l0*60000<=60000 then [0,0,0,0,24] else dcV (frE H Z eh ez l0 l1 0) (frE H Z eh ez l0 l1 1) (frE H Z eh ez l0 l1 2) (frE H Z eh ez l0 l1 3) (frE I Y eh2 ez2 l0 l1 0) (frE I Y eh2 ez2 l0 l1 1) (frE I Y eh2 ez2 l0 l1 2) (frE I Y eh2 ez2 l0 l1 3) (d0-de*60000) (d1-de*60000)
theorem Bl {a0 a1 a2 a3 b0 b1 b2 b3 f g u v:Int} (ha:Mi a0 a1 a2 a3) (hb:Mi b0 b1 b2 b3) (hf:0<=f/\f<=10800000) (hg:0<=g/\g<=10800000) (hu:0<=u/\u<=60000) (hv:0<=v/\v<=60000) :
 hrP a0 a1 a2 a3 b0 b1 b2 b3 f g u v/\(hrQ ((hrV a0 a1 a2 a3 b0 b1 b2 b3 f g u v).getD 0 0)/\hrQ ((hrV a0 a1 a2 a3 b0 b1 b2 b3 f g u v).getD 1 0)/\hrQ ((hrV a0 a1 a2 a3 b0 b1 b2 b3 f g u v).getD 2 0)/\hrQ ((hrV a0 a1 a2 a3 b0 b1 b2 b3 f g u v).getD 3 0))/\(hrV a0 a1 a2 a3 b0 b1 b2 b3 f g u v).getD 0 0<=(hrV a0 a1 a2 a3 b0 b1 b2 b3 f g u v).getD 1 0:=by
 obtain ⟨ha1,ha2⟩:=ha;obtain ⟨hb1,hb2⟩:=hb;have x1:=ut (a:=a0) (b:=b0) (B:=5400000) (by omega) (by omega) hu
 have x2:=ut (a:=a0) (b:=b0) (B:=5400000) (by omega) (by omega) hv
 have x3:=ut (a:=a1) (b:=b1) (B:=5400000) (by omega) (by omega) hu
 have x4:=ut (a:=a1) (b:=b1) (B:=5400000) (by omega) (by omega) hv
 have x5:=uV (a:=a0) (b:=b0) (a2:=a1) (b2:=b1) (by omega) (by omega) hu
 have sg:=QL (b2-a2);have x6:=uV (a:=a2) (b:=a2+sgt (b2-a2)) (a2:=a3) (b2:=a2+sgt (b2-a2)+b3-b2) (by omega) (by omega) hu
 have HL:hrL a2 b2 u v g<=hrH a2 a3 b2 b3 u v g:=by
  unfold hrL hrH ovL ovH;generalize atF a2 (a2+sgt (b2-a2)) u=P1 at *
  generalize atF a2 (a2+sgt (b2-a2)) v=P2 at *
  generalize atC a3 (a2+sgt (b2-a2)+b3-b2) u=P3 at *
  generalize atC a3 (a2+sgt (b2-a2)+b3-b2) v=P4 at *
  omega
 have T:=Rc HL;refine ⟨⟨⟨⟨by omega,by omega⟩,⟨by omega,by omega⟩,⟨by omega,by omega⟩,⟨by omega,by omega⟩⟩,⟨⟨by omega,by omega⟩,⟨by omega,by omega⟩,⟨by omega,by omega⟩,⟨by omega,by omega⟩⟩,⟨⟨by omega,by omega⟩,⟨by omega,by omega⟩⟩,hu,hv⟩,⟨?_,?_,?_,?_⟩,?_⟩
 . show hrQ (ovL a0 b0 u v f);unfold hrQ ovL;omega
 . show hrQ (ovH a1 b1 u v f);unfold hrQ ovH;omega
 . show hrQ (if hrB a2 a3 b2 b3 then trL (hrL a2 b2 u v g) (hrH a2 a3 b2 b3 u v g) else 0);unfold hrQ;split<;>omega
 . show hrQ (if hrB a2 a3 b2 b3 then trH (hrL a2 b2 u v g) (hrH a2 a3 b2 b3 u v g) else 21600000);unfold hrQ;split<;>omega
 . show ovL a0 b0 u v f<=ovH a1 b1 u v f;unfold ovL ovH;omega
theorem gD {L:Cs} {i:Nat} (hi:i<L.length):L.getD i []=L[i]:=by
 rw [List.getD_eq_getElem?_getD,List.getElem?_eq_getElem hi];rfl
theorem fD {L:Cs} (h:∀ x∈L,x.length=2) (i:Nat) (hi:i<L.length):L[i]=[ro L i 0,ro L i 1]:=by
 obtain ⟨a,b,e⟩:=xA (h _ (List.getElem_mem hi));unfold ro;rw [gD hi,e];rfl
theorem l9 {H Z:Cs} (hH:H.all hOk=true) (hZ:Z.all zOk=true) (i:Nat) (h1:i<H.length) (h2:i<Z.length):Mi (ro H i 0) (ro H i 1) (ro Z i 0) (ro Z i 1):=by
 rw [List.all_eq_true] at hH hZ;have a:=of_decide_eq_true (hH _ (List.getElem_mem h1));have b:=of_decide_eq_true (hZ _ (List.getElem_mem h2));unfold ro;rw [gD h1,gD h2];exact ⟨a,b.1,b.2.1,b.2.2.1,b.2.2.2.1⟩
theorem uQ {la de eh ez:Int} {H Z:Cs} (h:pq la de eh ez H Z=true):(-90<=la/\la<=90)/\(-90<=de/\de<=90)/\H.length=181/\Z.length=181/\(0<=eh/\eh<=10800000)/\(0<=ez/\ez<=10800000)/\H.all hOk=true/\Z.all zOk=true:=by
 unfold pq at h;simp only [Bool.and_eq_true,decide_eq_true_eq] at h;obtain ⟨⟨⟨⟨⟨⟨⟨h1,h2⟩,h3⟩,h4⟩,h5⟩,h6⟩,h7⟩,h8⟩:=h;exact ⟨h1,h2,h3,h4,h5,h6,h7,h8⟩
theorem SQ (la de eh ez la2 de2 eh2 ez2 d0 d1 l0 l1:Int) (aH aZ bH bZ:Option Addr) (cH cZ dH dZ:Nat) (H Z I Y:Cs) (w:World) (hH:SlI 2 w aH H) (hZ:SlI 2 w aZ Z) (hI:SlI 2 w bH I) (hY:SlI 2 w bZ Y) (nH:H.length<=200) (nZ:Z.length<=200) (nI:I.length<=200) (nY:Y.length<=200) :
 Calls Tryz.prog 39 #[.agg #[.int .i64 la,.int .i64 de,.slice aH H.length cH,.slice aZ Z.length cZ,.int .i64 eh,.int .i64 ez],.agg #[.int .i64 la2,.int .i64 de2,.slice bH I.length dH,.slice bZ Y.length dZ,.int .i64 eh2,.int .i64 ez2],.agg #[.int .i64 d0,.int .i64 d1],.agg #[.int .i64 l0,.int .i64 l1]] w fun e w'=>e=.returned (.tuple #[.agg #[.int .i64 ((frV la de eh ez la2 de2 eh2 ez2 d0 d1 l0 l1 H Z I Y).getD 0 0),.int .i64 ((frV la de eh ez la2 de2 eh2 ez2 d0 d1 l0 l1 H Z I Y).getD 1 0),.int .i64 ((frV la de eh ez la2 de2 eh2 ez2 d0 d1 l0 l1 H Z I Y).getD 2 0),.int .i64 ((frV la de eh ez la2 de2 eh2 ez2 d0 d1 l0 l1 H Z I Y).getD 3 0)],.int .i64 ((frV la de eh ez la2 de2 eh2 ez2 d0 d1 l0 l1 H Z I Y).getD 4 0)])/\Below w.heap.size w w':=by
 have T1:=fun (wx:World) (hb:Below w.heap.size w wx)=>DX la de eh ez aH aZ cH cZ H Z wx (hH.below hb) (hZ.below hb) nH nZ
 have T2:=fun (wx:World) (hb:Below w.heap.size w wx)=>DX la2 de2 eh2 ez2 bH bZ dH dZ I Y wx (hI.below hb) (hY.below hb) nI nY
 have A1:=fun (wx:World) (hb:Below w.heap.size w wx)=>BQ d0 d1 wx
 have A2:=fun (wx:World) (hb:Below w.heap.size w wx)=>BQ l0 l1 wx
 cases hB:(pq la de eh ez H Z&&pq la2 de2 eh2 ez2 I Y&&bf d0 d1&&bf l0 l1)
 . rw [show (frV la de eh ez la2 de2 eh2 ez2 d0 d1 l0 l1 H Z I Y)=[0,0,0,0,1] from if_pos hB]
   exact Q7 la de eh ez la2 de2 eh2 ez2 d0 d1 l0 l1 aH aZ bH bZ H.length cH Z.length cZ I.length dH Y.length dZ _ _ _ _ w hB (Lib.hid T1) (Lib.hid T2) (Lib.hid A1) (Lib.hid A2)
 . have E0:¬ (pq la de eh ez H Z&&pq la2 de2 eh2 ez2 I Y&&bf d0 d1&&bf l0 l1)=false:=by rw [hB];decide
   simp only [Bool.and_eq_true] at hB;obtain ⟨⟨⟨v1,v2⟩,v3⟩,v4⟩:=hB;obtain ⟨_,hde,lH,lZ,he,hz,oH,oZ⟩:=uQ v1;obtain ⟨_,hde2,lI,lY,he2,hz2,oI,oY⟩:=uQ v2;have a3:=(aV _ _).1 v3;have a4:=(aV _ _).1 v4;have hv:(-1099511627776<=d0/\d0<=1099511627776)/\-1099511627776<=d1/\d1<=1099511627776:=by omega
   have sH:=hH.len;have sZ:=hZ.len;have sI:=hI.len;have sY:=hY.len;rw [v1,lH,lZ] at T1;rw [v2,lI,lY] at T2;rw [v3] at A1;rw [v4] at A2;rw [lH,lZ,lI,lY]
   by_cases k1:la≠la2∨de2≠de+1
   . rw [show (frV la de eh ez la2 de2 eh2 ez2 d0 d1 l0 l1 H Z I Y)=[0,0,0,0,11] from (if_neg E0).trans (if_pos k1)]
     exact MF la de eh ez la2 de2 eh2 ez2 d0 d1 l0 l1 aH aZ bH bZ cH cZ dH dZ k1 w hde hv hde2 (Lib.hid T1) (Lib.hid T2) (Lib.hid A1) (Lib.hid A2)
   . obtain rfl:la=la2:=by omega
     obtain rfl:de2=de+1:=by omega
     by_cases k3:de*60000<=d0/\d1<=(de+1)*60000/\0<=l0/\l1<=10800000
     rotate_left
     . rw [show (frV la de eh ez la (de+1) eh2 ez2 d0 d1 l0 l1 H Z I Y)=[0,0,0,0,2] from (if_neg E0).trans ((if_neg k1).trans (if_pos k3))]
       exact GA la de eh ez eh2 ez2 d0 d1 l0 l1 aH aZ bH bZ cH cZ dH dZ (Lib.hid k3) w hde hv hde2 (Lib.hid T1) (Lib.hid T2) (Lib.hid A1) (Lib.hid A2)
     . have kN:((frN l0:Nat):Int)=frK l0:=by unfold frN frK;omega
       have kb:0<=frK l0/\frK l0<=179/\0<=l0-frK l0*60000:=by unfold frK;omega
       have kl:frN l0<180:=by omega
       have DG:∀ (wx:World),Below w.heap.size w wx->Calls Tryz.prog 44 #[.agg #[.int .i64 l0,.int .i64 l1],.int .i64 0,.int .i64 179] wx fun e w'=>e=.returned (.tuple #[.int .i64 (frK l0),.agg #[.int .i64 (l0-frK l0*60000),.int .i64 (l1-frK l0*60000)],.bool (decide (0<=frK l0/\0<=l0-frK l0*60000/\l1-frK l0*60000<=60000))])/\Below wx.heap.size wx w':=fun wx hb=>XB l0 l1 0 179 wx (by omega) (by omega) (by omega)
       by_cases k4:l1-frK l0*60000<=60000
       rotate_left
       . rw [show (frV la de eh ez la (de+1) eh2 ez2 d0 d1 l0 l1 H Z I Y)=[0,0,0,0,24] from (if_neg E0).trans ((if_neg k1).trans ((if_neg (not_not_intro k3)).trans (if_pos k4)))]
         rw [decide_eq_false (by omega),<-kN] at DG
         exact M6 la de eh ez eh2 ez2 d0 d1 l0 l1 aH aZ bH bZ cH cZ dH dZ (frN l0) _ _ (by omega) (by omega) (by omega) (by omega) w hde hv hde2 (Lib.hid T1) (Lib.hid T2) (Lib.hid A1) (Lib.hid A2) (Lib.hid DG)
       . rw [show (frV la de eh ez la (de+1) eh2 ez2 d0 d1 l0 l1 H Z I Y)=(dcV (frE H Z eh ez l0 l1 0) (frE H Z eh ez l0 l1 1) (frE H Z eh ez l0 l1 2) (frE H Z eh ez l0 l1 3) (frE I Y eh2 ez2 l0 l1 0) (frE I Y eh2 ez2 l0 l1 1) (frE I Y eh2 ez2 l0 l1 2) (frE I Y eh2 ez2 l0 l1 3) (d0-de*60000) (d1-de*60000)) from (if_neg E0).trans ((if_neg k1).trans ((if_neg (not_not_intro k3)).trans (if_neg (not_not_intro k4))))]
         rw [decide_eq_true (by omega)] at DG
         have DG2:∀ (wx:World),Below w.heap.size w wx->Calls Tryz.prog 44 #[.agg #[.int .i64 l0,.int .i64 l1],.int .i64 0,.int .i64 179] wx fun e w'=>e=.returned (.tuple #[.int .i64 ((frN l0:Nat):Int),.agg #[.int .i64 (l0-frK l0*60000),.int .i64 (l1-frK l0*60000)],.bool true])/\Below wx.heap.size wx w':=fun wx hb=>by rw [kN];exact DG wx hb
         have e1:=l9 oH oZ (frN l0) (by omega) (by omega)
         have e2:=l9 oH oZ (frN l0+1) (by omega) (by omega)
         have e3:=l9 oI oY (frN l0) (by omega) (by omega)
         have e4:=l9 oI oY (frN l0+1) (by omega) (by omega)
         have q1:=Bl (u:=l0-frK l0*60000) (v:=l1-frK l0*60000) e1 e2 he hz (by omega) (by omega)
         have q2:=Bl (u:=l0-frK l0*60000) (v:=l1-frK l0*60000) e3 e4 he2 hz2 (by omega) (by omega)
         have dp:dcP (frE H Z eh ez l0 l1 0) (frE H Z eh ez l0 l1 1) (frE H Z eh ez l0 l1 2) (frE H Z eh ez l0 l1 3) (frE I Y eh2 ez2 l0 l1 0) (frE I Y eh2 ez2 l0 l1 1) (frE I Y eh2 ez2 l0 l1 2) (frE I Y eh2 ez2 l0 l1 3) (d0-de*60000) (d1-de*60000):=⟨q1.2.1,q2.2.1,q1.2.2,q2.2.2,by omega,by omega⟩
         exact SI la de eh ez eh2 ez2 d0 d1 l0 l1 aH aZ bH bZ cH cZ dH dZ (frN l0) (l0-frK l0*60000) (l1-frK l0*60000) ((dcV (frE H Z eh ez l0 l1 0) (frE H Z eh ez l0 l1 1) (frE H Z eh ez l0 l1 2) (frE H Z eh ez l0 l1 3) (frE I Y eh2 ez2 l0 l1 0) (frE I Y eh2 ez2 l0 l1 1) (frE I Y eh2 ez2 l0 l1 2) (frE I Y eh2 ez2 l0 l1 3) (d0-de*60000) (d1-de*60000)).getD 0 0) ((dcV (frE H Z eh ez l0 l1 0) (frE H Z eh ez l0 l1 1) (frE H Z eh ez l0 l1 2) (frE H Z eh ez l0 l1 3) (frE I Y eh2 ez2 l0 l1 0) (frE I Y eh2 ez2 l0 l1 1) (frE I Y eh2 ez2 l0 l1 2) (frE I Y eh2 ez2 l0 l1 3) (d0-de*60000) (d1-de*60000)).getD 1 0) ((dcV (frE H Z eh ez l0 l1 0) (frE H Z eh ez l0 l1 1) (frE H Z eh ez l0 l1 2) (frE H Z eh ez l0 l1 3) (frE I Y eh2 ez2 l0 l1 0) (frE I Y eh2 ez2 l0 l1 1) (frE I Y eh2 ez2 l0 l1 2) (frE I Y eh2 ez2 l0 l1 3) (d0-de*60000) (d1-de*60000)).getD 2 0) ((dcV (frE H Z eh ez l0 l1 0) (frE H Z eh ez l0 l1 1) (frE H Z eh ez l0 l1 2) (frE H Z eh ez l0 l1 3) (frE I Y eh2 ez2 l0 l1 0) (frE I Y eh2 ez2 l0 l1 1) (frE I Y eh2 ez2 l0 l1 2) (frE I Y eh2 ez2 l0 l1 3) (d0-de*60000) (d1-de*60000)).getD 3 0) ((dcV (frE H Z eh ez l0 l1 0) (frE H Z eh ez l0 l1 1) (frE H Z eh ez l0 l1 2) (frE H Z eh ez l0 l1 3) (frE I Y eh2 ez2 l0 l1 0) (frE I Y eh2 ez2 l0 l1 1) (frE I Y eh2 ez2 l0 l1 2) (frE I Y eh2 ez2 l0 l1 3) (d0-de*60000) (d1-de*60000)).getD 4 0) (frE H Z eh ez l0 l1 0) (frE H Z eh ez l0 l1 1) (frE H Z eh ez l0 l1 2) (frE H Z eh ez l0 l1 3) (frE I Y eh2 ez2 l0 l1 0) (frE I Y eh2 ez2 l0 l1 1) (frE I Y eh2 ez2 l0 l1 2) (frE I Y eh2 ez2 l0 l1 3) (by omega) (by omega) (by omega) (by omega) w hde hv hde2 (Lib.hid T1) (Lib.hid T2) (Lib.hid A1) (Lib.hid A2) (Lib.hid DG2)
          (Lib.hid (fun gk gu wx hb b1 b2=>yu la de eh ez (l0-frK l0*60000) (l1-frK l0*60000) aH aZ cH cZ (frN l0) gk gu H Z (ro H (frN l0) 0) (ro H (frN l0) 1) (ro H (frN l0+1) 0) (ro H (frN l0+1) 1) (ro Z (frN l0) 0) (ro Z (frN l0) 1) (ro Z (frN l0+1) 0) (ro Z (frN l0+1) 1) (frE H Z eh ez l0 l1 0) (frE H Z eh ez l0 l1 1) (frE H Z eh ez l0 l1 2) (frE H Z eh ez l0 l1 3) wx (hH.below hb) (hZ.below hb) lH lZ kl (fD sH _ _) (fD sH _ _) (fD sZ _ _) (fD sZ _ _) (b1.cell 0) (b2.cell 0) (b2.cell 1) b1.lt b2.lt (Lib.hid (fun w=>zM (ro H (frN l0) 0) (ro H (frN l0) 1) (ro Z (frN l0) 0) (ro Z (frN l0) 1) (ro H (frN l0+1) 0) (ro H (frN l0+1) 1) (ro Z (frN l0+1) 0) (ro Z (frN l0+1) 1) eh ez (l0-frK l0*60000) (l1-frK l0*60000) w q1.1))))
          (Lib.hid (fun gk gu wx hb b1 b2=>yu la (de+1) eh2 ez2 (l0-frK l0*60000) (l1-frK l0*60000) bH bZ dH dZ (frN l0) gk gu I Y (ro I (frN l0) 0) (ro I (frN l0) 1) (ro I (frN l0+1) 0) (ro I (frN l0+1) 1) (ro Y (frN l0) 0) (ro Y (frN l0) 1) (ro Y (frN l0+1) 0) (ro Y (frN l0+1) 1) (frE I Y eh2 ez2 l0 l1 0) (frE I Y eh2 ez2 l0 l1 1) (frE I Y eh2 ez2 l0 l1 2) (frE I Y eh2 ez2 l0 l1 3) wx (hI.below hb) (hY.below hb) lI lY kl (fD sI _ _) (fD sI _ _) (fD sY _ _) (fD sY _ _) (b1.cell 0) (b2.cell 0) (b2.cell 1) b1.lt b2.lt (Lib.hid (fun w=>zM (ro I (frN l0) 0) (ro I (frN l0) 1) (ro Y (frN l0) 0) (ro Y (frN l0) 1) (ro I (frN l0+1) 0) (ro I (frN l0+1) 1) (ro Y (frN l0+1) 0) (ro Y (frN l0+1) 1) eh2 ez2 (l0-frK l0*60000) (l1-frK l0*60000) w q2.1))))
          (Lib.hid (fun w=>QD _ _ _ _ _ _ _ _ _ _ w dp))
theorem TH (la de eh ez la2 de2 eh2 ez2 d0 d1 l0 l1:Int) (aH aZ bH bZ:Option Addr) (cH cZ dH dZ:Nat) (H Z I Y:Cs) (w:World) (hH:SlI 2 w aH H) (hZ:SlI 2 w aZ Z) (hI:SlI 2 w bH I) (hY:SlI 2 w bZ Y) (nH:H.length<=200) (nZ:Z.length<=200) (nI:I.length<=200) (nY:Y.length<=200) :
 Calls Tryz.prog 40 #[.agg #[.int .i64 la,.int .i64 de,.slice aH H.length cH,.slice aZ Z.length cZ,.int .i64 eh,.int .i64 ez],.agg #[.int .i64 la2,.int .i64 de2,.slice bH I.length dH,.slice bZ Y.length dZ,.int .i64 eh2,.int .i64 ez2],.agg #[.int .i64 d0,.int .i64 d1],.agg #[.int .i64 l0,.int .i64 l1]] w fun e w'=>e=.returned (.tuple #[.agg #[.int .i64 ((frV la de eh ez la2 de2 eh2 ez2 d0 d1 l0 l1 H Z I Y).getD 0 0),.int .i64 ((frV la de eh ez la2 de2 eh2 ez2 d0 d1 l0 l1 H Z I Y).getD 1 0),.int .i64 ((frV la de eh ez la2 de2 eh2 ez2 d0 d1 l0 l1 H Z I Y).getD 2 0),.int .i64 ((frV la de eh ez la2 de2 eh2 ez2 d0 d1 l0 l1 H Z I Y).getD 3 0)],.int .i64 ((frV la de eh ez la2 de2 eh2 ez2 d0 d1 l0 l1 H Z I Y).getD 4 0)])/\Below w.heap.size w w':=by
 have T1:=fun (wx:World) (hb:Below w.heap.size w wx)=>C9 la de eh ez aH aZ cH cZ H Z wx (hH.below hb) (hZ.below hb)
 have T2:=fun (wx:World) (hb:Below w.heap.size w wx)=>C9 la2 de2 eh2 ez2 bH bZ dH dZ I Y wx (hI.below hb) (hY.below hb)
 have A1:=fun (wx:World) (hb:Below w.heap.size w wx)=>Jn d0 d1 wx
 have A2:=fun (wx:World) (hb:Below w.heap.size w wx)=>Jn l0 l1 wx
 cases hB:(pq la de eh ez H Z&&pq la2 de2 eh2 ez2 I Y&&bf d0 d1&&bf l0 l1)
 . rw [show (frV la de eh ez la2 de2 eh2 ez2 d0 d1 l0 l1 H Z I Y)=[0,0,0,0,1] from if_pos hB]
   exact Lx la de eh ez la2 de2 eh2 ez2 d0 d1 l0 l1 aH aZ bH bZ H.length cH Z.length cZ I.length dH Y.length dZ _ _ _ _ w hB (Lib.hid T1) (Lib.hid T2) (Lib.hid A1) (Lib.hid A2)
 . have E0:¬ (pq la de eh ez H Z&&pq la2 de2 eh2 ez2 I Y&&bf d0 d1&&bf l0 l1)=false:=by rw [hB];decide
   simp only [Bool.and_eq_true] at hB;obtain ⟨⟨⟨v1,v2⟩,v3⟩,v4⟩:=hB;obtain ⟨_,hde,lH,lZ,he,hz,oH,oZ⟩:=uQ v1;obtain ⟨_,hde2,lI,lY,he2,hz2,oI,oY⟩:=uQ v2;have a3:=(aV _ _).1 v3;have a4:=(aV _ _).1 v4;have hv:(-1099511627776<=d0/\d0<=1099511627776)/\-1099511627776<=d1/\d1<=1099511627776:=by omega
   have sH:=hH.len;have sZ:=hZ.len;have sI:=hI.len;have sY:=hY.len;rw [v1,lH,lZ] at T1;rw [v2,lI,lY] at T2;rw [v3] at A1;rw [v4] at A2;rw [lH,lZ,lI,lY]
   by_cases k1:la≠la2∨de2≠de+1
   . rw [show (frV la de eh ez la2 de2 eh2 ez2 d0 d1 l0 l1 H Z I Y)=[0,0,0,0,11] from (if_neg E0).trans (if_pos k1)]
     exact Gt la de eh ez la2 de2 eh2 ez2 d0 d1 l0 l1 aH aZ bH bZ cH cZ dH dZ k1 w hde hv hde2 (Lib.hid T1) (Lib.hid T2) (Lib.hid A1) (Lib.hid A2)
   . obtain rfl:la=la2:=by omega
     obtain rfl:de2=de+1:=by omega
     by_cases k3:de*60000<=d0/\d1<=(de+1)*60000/\0<=l0/\l1<=10800000
     rotate_left
     . rw [show (frV la de eh ez la (de+1) eh2 ez2 d0 d1 l0 l1 H Z I Y)=[0,0,0,0,2] from (if_neg E0).trans ((if_neg k1).trans (if_pos k3))]
       exact D7 la de eh ez eh2 ez2 d0 d1 l0 l1 aH aZ bH bZ cH cZ dH dZ (Lib.hid k3) w hde hv hde2 (Lib.hid T1) (Lib.hid T2) (Lib.hid A1) (Lib.hid A2)
     . have kN:((frN l0:Nat):Int)=frK l0:=by unfold frN frK;omega
       have kb:0<=frK l0/\frK l0<=179/\0<=l0-frK l0*60000:=by unfold frK;omega
       have kl:frN l0<180:=by omega
       have DG:∀ (wx:World),Below w.heap.size w wx->Calls Tryz.prog 54 #[.agg #[.int .i64 l0,.int .i64 l1],.int .i64 0,.int .i64 180] wx fun e w'=>e=.returned (.tuple #[.int .i64 (frK l0),.agg #[.int .i64 (l0-frK l0*60000),.int .i64 (l1-frK l0*60000)],.bool (decide (0<=frK l0/\frK l0<180/\l1-frK l0*60000<=60000))])/\Below wx.heap.size wx w':=by
        intro wx hb;have D:=Nk l0 l1 0 180 wx (by omega) (by omega) (by omega) (by omega)
        rw [show ji l0 180=frK l0 by unfold ji frK;split<;>omega] at D
        exact D
       by_cases k4:l1-frK l0*60000<=60000
       rotate_left
       . rw [show (frV la de eh ez la (de+1) eh2 ez2 d0 d1 l0 l1 H Z I Y)=[0,0,0,0,24] from (if_neg E0).trans ((if_neg k1).trans ((if_neg (not_not_intro k3)).trans (if_pos k4)))]
         rw [decide_eq_false (by omega),<-kN] at DG
         exact Gx la de eh ez eh2 ez2 d0 d1 l0 l1 aH aZ bH bZ cH cZ dH dZ (frN l0) _ _ (by omega) (by omega) (by omega) (by omega) w hde hv hde2 (Lib.hid T1) (Lib.hid T2) (Lib.hid A1) (Lib.hid A2) (Lib.hid DG)
       . rw [show (frV la de eh ez la (de+1) eh2 ez2 d0 d1 l0 l1 H Z I Y)=(dcV (frE H Z eh ez l0 l1 0) (frE H Z eh ez l0 l1 1) (frE H Z eh ez l0 l1 2) (frE H Z eh ez l0 l1 3) (frE I Y eh2 ez2 l0 l1 0) (frE I Y eh2 ez2 l0 l1 1) (frE I Y eh2 ez2 l0 l1 2) (frE I Y eh2 ez2 l0 l1 3) (d0-de*60000) (d1-de*60000)) from (if_neg E0).trans ((if_neg k1).trans ((if_neg (not_not_intro k3)).trans (if_neg (not_not_intro k4))))]
         rw [decide_eq_true (by omega)] at DG
         have DG2:∀ (wx:World),Below w.heap.size w wx->Calls Tryz.prog 54 #[.agg #[.int .i64 l0,.int .i64 l1],.int .i64 0,.int .i64 180] wx fun e w'=>e=.returned (.tuple #[.int .i64 ((frN l0:Nat):Int),.agg #[.int .i64 (l0-frK l0*60000),.int .i64 (l1-frK l0*60000)],.bool true])/\Below wx.heap.size wx w':=fun wx hb=>by rw [kN];exact DG wx hb
         have e1:=l9 oH oZ (frN l0) (by omega) (by omega)
         have e2:=l9 oH oZ (frN l0+1) (by omega) (by omega)
         have e3:=l9 oI oY (frN l0) (by omega) (by omega)
         have e4:=l9 oI oY (frN l0+1) (by omega) (by omega)
         have q1:=Bl (u:=l0-frK l0*60000) (v:=l1-frK l0*60000) e1 e2 he hz (by omega) (by omega)
         have q2:=Bl (u:=l0-frK l0*60000) (v:=l1-frK l0*60000) e3 e4 he2 hz2 (by omega) (by omega)
         have dp:dcP (frE H Z eh ez l0 l1 0) (frE H Z eh ez l0 l1 1) (frE H Z eh ez l0 l1 2) (frE H Z eh ez l0 l1 3) (frE I Y eh2 ez2 l0 l1 0) (frE I Y eh2 ez2 l0 l1 1) (frE I Y eh2 ez2 l0 l1 2) (frE I Y eh2 ez2 l0 l1 3) (d0-de*60000) (d1-de*60000):=⟨q1.2.1,q2.2.1,q1.2.2,q2.2.2,by omega,by omega⟩
         rcases hH with h0|⟨b1,j1,rfl,RH⟩
         . rw [h0] at lH;cases lH
         rcases hZ with h0|⟨b2,j2,rfl,RZ⟩
         . rw [h0] at lZ;cases lZ
         rcases hI with h0|⟨b3,j3,rfl,RI⟩
         . rw [h0] at lI;cases lI
         rcases hY with h0|⟨b4,j4,rfl,RY⟩
         . rw [h0] at lY;cases lY
         exact Rb la de eh ez eh2 ez2 d0 d1 l0 l1 b1 j1 b2 j2 b3 j3 b4 j4 cH cZ dH dZ (frN l0) H Z I Y (l0-frK l0*60000) (l1-frK l0*60000) ((dcV (frE H Z eh ez l0 l1 0) (frE H Z eh ez l0 l1 1) (frE H Z eh ez l0 l1 2) (frE H Z eh ez l0 l1 3) (frE I Y eh2 ez2 l0 l1 0) (frE I Y eh2 ez2 l0 l1 1) (frE I Y eh2 ez2 l0 l1 2) (frE I Y eh2 ez2 l0 l1 3) (d0-de*60000) (d1-de*60000)).getD 0 0) ((dcV (frE H Z eh ez l0 l1 0) (frE H Z eh ez l0 l1 1) (frE H Z eh ez l0 l1 2) (frE H Z eh ez l0 l1 3) (frE I Y eh2 ez2 l0 l1 0) (frE I Y eh2 ez2 l0 l1 1) (frE I Y eh2 ez2 l0 l1 2) (frE I Y eh2 ez2 l0 l1 3) (d0-de*60000) (d1-de*60000)).getD 1 0) ((dcV (frE H Z eh ez l0 l1 0) (frE H Z eh ez l0 l1 1) (frE H Z eh ez l0 l1 2) (frE H Z eh ez l0 l1 3) (frE I Y eh2 ez2 l0 l1 0) (frE I Y eh2 ez2 l0 l1 1) (frE I Y eh2 ez2 l0 l1 2) (frE I Y eh2 ez2 l0 l1 3) (d0-de*60000) (d1-de*60000)).getD 2 0) ((dcV (frE H Z eh ez l0 l1 0) (frE H Z eh ez l0 l1 1) (frE H Z eh ez l0 l1 2) (frE H Z eh ez l0 l1 3) (frE I Y eh2 ez2 l0 l1 0) (frE I Y eh2 ez2 l0 l1 1) (frE I Y eh2 ez2 l0 l1 2) (frE I Y eh2 ez2 l0 l1 3) (d0-de*60000) (d1-de*60000)).getD 3 0) ((dcV (frE H Z eh ez l0 l1 0) (frE H Z eh ez l0 l1 1) (frE H Z eh ez l0 l1 2) (frE H Z eh ez l0 l1 3) (frE I Y eh2 ez2 l0 l1 0) (frE I Y eh2 ez2 l0 l1 1) (frE I Y eh2 ez2 l0 l1 2) (frE I Y eh2 ez2 l0 l1 3) (d0-de*60000) (d1-de*60000)).getD 4 0) (frE H Z eh ez l0 l1 0) (frE H Z eh ez l0 l1 1) (frE H Z eh ez l0 l1 2) (frE H Z eh ez l0 l1 3) (frE I Y eh2 ez2 l0 l1 0) (frE I Y eh2 ez2 l0 l1 1) (frE I Y eh2 ez2 l0 l1 2) (frE I Y eh2 ez2 l0 l1 3) (ro H (frN l0) 0) (ro H (frN l0) 1) (ro H (frN l0+1) 0) (ro H (frN l0+1) 1) (ro Z (frN l0) 0) (ro Z (frN l0) 1) (ro Z (frN l0+1) 0) (ro Z (frN l0+1) 1) (ro I (frN l0) 0) (ro I (frN l0) 1) (ro I (frN l0+1) 0) (ro I (frN l0+1) 1) (ro Y (frN l0) 0) (ro Y (frN l0) 1) (ro Y (frN l0+1) 0) (ro Y (frN l0+1) 1) (by omega) (by omega) (by omega) (by omega) w hde hv hde2 (Lib.hid T1) (Lib.hid T2) (Lib.hid A1) (Lib.hid A2) (Lib.hid DG2) RH RZ RI RY lH lZ lI lY kl (fD sH _ _) (fD sH _ _) (fD sZ _ _) (fD sZ _ _) (fD sI _ _) (fD sI _ _) (fD sY _ _) (fD sY _ _)
          (Lib.hid (fun w=>JM (ro H (frN l0) 0) (ro H (frN l0) 1) (ro Z (frN l0) 0) (ro Z (frN l0) 1) (ro H (frN l0+1) 0) (ro H (frN l0+1) 1) (ro Z (frN l0+1) 0) (ro Z (frN l0+1) 1) (l0-frK l0*60000) (l1-frK l0*60000) eh ez w q1.1)) (Lib.hid (fun w=>JM (ro I (frN l0) 0) (ro I (frN l0) 1) (ro Y (frN l0) 0) (ro Y (frN l0) 1) (ro I (frN l0+1) 0) (ro I (frN l0+1) 1) (ro Y (frN l0+1) 0) (ro Y (frN l0+1) 1) (l0-frK l0*60000) (l1-frK l0*60000) eh2 ez2 w q2.1)) (Lib.hid (fun w=>ZF _ _ _ _ _ _ _ _ _ _ w dp))
end Go.Proofs.YtdbaccfgkacffaaGreat
namespace Go.Proofs.YtdbaccfgkacffaaGreat
open Go.RowKit Alm Sx
theorem I9 (la de eh ez:Int) (aH aZ:Option Addr) (nH cH nZ cZ:Nat) (w:World) :
 Calls Tryz.prog 38 #[.agg #[.int .i64 la,.int .i64 de,.slice aH nH cH,.slice aZ nZ cZ,.int .i64 eh,.int .i64 ez]] w fun e w'=>e=.returned (.bool (decide (nH>200) || decide (nZ>200)))/\Below w.heap.size w w':=by
 have K0:=Lib.hid ((az w).new w.heap.size rfl 78 #[.int .i64 la,.int .i64 de,.slice aH nH cH,.slice aZ nZ cZ,.int .i64 eh,.int .i64 ez]);go_enter Tryz.func38,Tryz.ntmps38;have t2:=K0.out.c (g:=w.heap.size) (t:=78) (cs:=#[.int .i64 la,.int .i64 de,.slice aH nH cH,.slice aZ nZ cZ,.int .i64 eh,.int .i64 ez]) (by simp) (i:=2) rfl
 have t3:=K0.out.c (g:=w.heap.size) (t:=78) (cs:=#[.int .i64 la,.int .i64 de,.slice aH nH cH,.slice aZ nZ cZ,.int .i64 eh,.int .i64 ez]) (by simp) (i:=3) rfl
 by_cases p1:nH>200
 . have i1:(200:Int)<(nH:Int):=by omega
   go_wp2
   all_goals
    go_ret;exact ⟨bM (by simp [p1]),K0.out.1⟩
 . have i1:¬ (200:Int)<(nH:Int):=by omega
   by_cases p2:nZ>200
   . have i2:(200:Int)<(nZ:Int):=by omega
     go_wp2
     all_goals
      go_ret;exact ⟨bM (by simp [p1,p2,i1,i2]),K0.out.1⟩
   . have i2:¬ (200:Int)<(nZ:Int):=by omega
     go_wp2
     all_goals
      go_ret;exact ⟨bM (by simp [p1,p2,i1,i2]),K0.out.1⟩
theorem GX (la de eh ez la2 de2 eh2 ez2 d0 d1 l0 l1:Int) (aH aZ bH bZ:Option Addr) (nH cH nZ cZ mH dH mZ dZ:Nat) (P Q:Bool) (r0 r1 r2 r3 ee:Int) (w:World)
 (CA:Hid (∀ w:World,Calls Tryz.prog 10 #[] w fun e w'=>e=.returned (.bool true)/\Below w.heap.size w w'))
 (CP:Hid (∀ w:World,Calls Tryz.prog 38 #[.agg #[.int .i64 la,.int .i64 de,.slice aH nH cH,.slice aZ nZ cZ,.int .i64 eh,.int .i64 ez]] w fun e w'=>e=.returned (.bool P)/\Below w.heap.size w w'))
 (CQ:Hid (∀ w:World,Calls Tryz.prog 38 #[.agg #[.int .i64 la2,.int .i64 de2,.slice bH mH dH,.slice bZ mZ dZ,.int .i64 eh2,.int .i64 ez2]] w fun e w'=>e=.returned (.bool Q)/\Below w.heap.size w w'))
 (CF:Hid (P=false->Q=false->∀ wx:World,Below w.heap.size w wx->Calls Tryz.prog 39 #[.agg #[.int .i64 la,.int .i64 de,.slice aH nH cH,.slice aZ nZ cZ,.int .i64 eh,.int .i64 ez],.agg #[.int .i64 la2,.int .i64 de2,.slice bH mH dH,.slice bZ mZ dZ,.int .i64 eh2,.int .i64 ez2],.agg #[.int .i64 d0,.int .i64 d1],.agg #[.int .i64 l0,.int .i64 l1]] wx fun e w'=>e=.returned (.tuple #[.agg #[.int .i64 r0,.int .i64 r1,.int .i64 r2,.int .i64 r3],.int .i64 ee])/\Below wx.heap.size wx w'))
 (CR:Hid (P=false->Q=false->∀ wx:World,Below w.heap.size w wx->Calls Tryz.prog 40 #[.agg #[.int .i64 la,.int .i64 de,.slice aH nH cH,.slice aZ nZ cZ,.int .i64 eh,.int .i64 ez],.agg #[.int .i64 la2,.int .i64 de2,.slice bH mH dH,.slice bZ mZ dZ,.int .i64 eh2,.int .i64 ez2],.agg #[.int .i64 d0,.int .i64 d1],.agg #[.int .i64 l0,.int .i64 l1]] wx fun e w'=>e=.returned (.tuple #[.agg #[.int .i64 r0,.int .i64 r1,.int .i64 r2,.int .i64 r3],.int .i64 ee])/\Below wx.heap.size wx w')) :
 Calls Tryz.prog 9 #[.agg #[.int .i64 la,.int .i64 de,.slice aH nH cH,.slice aZ nZ cZ,.int .i64 eh,.int .i64 ez],.agg #[.int .i64 la2,.int .i64 de2,.slice bH mH dH,.slice bZ mZ dZ,.int .i64 eh2,.int .i64 ez2],.agg #[.int .i64 d0,.int .i64 d1],.agg #[.int .i64 l0,.int .i64 l1]] w fun e w'=>e=.returned (.bool true)/\Below w.heap.size w w':=by
 have K0:=Lib.hid ((((az w).new w.heap.size rfl 78 #[.int .i64 la,.int .i64 de,.slice aH nH cH,.slice aZ nZ cZ,.int .i64 eh,.int .i64 ez]).new (w.heap.size+1) (by simp) 78 #[.int .i64 la2,.int .i64 de2,.slice bH mH dH,.slice bZ mZ dZ,.int .i64 eh2,.int .i64 ez2]).new (w.heap.size+1+1) (by simp) 23 #[.int .i64 d0,.int .i64 d1] |>.new (w.heap.size+1+1+1) (by simp) 23 #[.int .i64 l0,.int .i64 l1])
 go_enter Tryz.func9,Tryz.ntmps9;go_wp2_with fail;refine (CA.out _).mono ?_;rintro e w1 ⟨rfl,hb⟩;have K1:=Lib.hid (K0.out.below hb);clear hb K0 CA;obtain ⟨a0,a1,a2,a3,a4,a5⟩:=kc6 K1.out (w.heap.size) 78 (.int .i64 la) (.int .i64 de) (.slice aH nH cH) (.slice aZ nZ cZ) (.int .i64 eh) (.int .i64 ez) (by simp)
 go_wp2_with fail;refine (CP.out _).mono ?_;rintro e w2 ⟨rfl,hb⟩;have K2:=Lib.hid (K1.out.below hb);clear hb K1 CP a0 a1 a2 a3 a4 a5;cases P
 . obtain ⟨a0,a1,a2,a3,a4,a5⟩:=kc6 K2.out (w.heap.size+1) 78 (.int .i64 la2) (.int .i64 de2) (.slice bH mH dH) (.slice bZ mZ dZ) (.int .i64 eh2) (.int .i64 ez2) (by simp)
   go_wp2_with fail;refine (CQ.out _).mono ?_;rintro e w3 ⟨rfl,hb⟩;have K3:=Lib.hid (K2.out.below hb);clear hb K2 CQ a0 a1 a2 a3 a4 a5;cases Q
   . have F:=Lib.hid (CF.out (by first|trivial|rfl) (by first|trivial|rfl));have R:=Lib.hid (CR.out (by first|trivial|rfl) (by first|trivial|rfl));clear CF CR
     obtain ⟨a0,a1,a2,a3,a4,a5⟩:=kc6 K3.out (w.heap.size) 78 (.int .i64 la) (.int .i64 de) (.slice aH nH cH) (.slice aZ nZ cZ) (.int .i64 eh) (.int .i64 ez) (by simp)
     obtain ⟨b0,b1,b2,b3,b4,b5⟩:=kc6 K3.out (w.heap.size+1) 78 (.int .i64 la2) (.int .i64 de2) (.slice bH mH dH) (.slice bZ mZ dZ) (.int .i64 eh2) (.int .i64 ez2) (by simp)
     obtain ⟨x0,x1⟩:=kc2 K3.out (w.heap.size+1+1) 23 (.int .i64 d0) (.int .i64 d1) (by simp)
     obtain ⟨y0,y1⟩:=kc2 K3.out (w.heap.size+1+1+1) 23 (.int .i64 l0) (.int .i64 l1) (by simp)
     go_wp2_with fail;refine (F.out _ K3.out.1).mono ?_;rintro e w4 ⟨rfl,hb⟩;have K4:=Lib.hid ((K3.out.below hb).new w4.heap.size rfl 28 #[.int .i64 r0,.int .i64 r1,.int .i64 r2,.int .i64 r3]);clear hb K3 F a0 a1 a2 a3 a4 a5 b0 b1 b2 b3 b4 b5 x0 x1 y0 y1;obtain ⟨a0,a1,a2,a3,a4,a5⟩:=kc6 K4.out (w.heap.size) 78 (.int .i64 la) (.int .i64 de) (.slice aH nH cH) (.slice aZ nZ cZ) (.int .i64 eh) (.int .i64 ez) (by simp)
     obtain ⟨b0,b1,b2,b3,b4,b5⟩:=kc6 K4.out (w.heap.size+1) 78 (.int .i64 la2) (.int .i64 de2) (.slice bH mH dH) (.slice bZ mZ dZ) (.int .i64 eh2) (.int .i64 ez2) (by simp)
     obtain ⟨x0,x1⟩:=kc2 K4.out (w.heap.size+1+1) 23 (.int .i64 d0) (.int .i64 d1) (by simp)
     obtain ⟨y0,y1⟩:=kc2 K4.out (w.heap.size+1+1+1) 23 (.int .i64 l0) (.int .i64 l1) (by simp)
     go_wp2_with fail;refine (R.out _ K4.out.1).mono ?_;rintro e w5 ⟨rfl,hb⟩;have K5:=Lib.hid ((K4.out.below hb).new w5.heap.size rfl 28 #[.int .i64 r0,.int .i64 r1,.int .i64 r2,.int .i64 r3]);clear hb K4 R a0 a1 a2 a3 a4 a5 b0 b1 b2 b3 b4 b5 x0 x1 y0 y1;obtain ⟨a0,a1,a2,a3⟩:=kc4 K5.out (w4.heap.size) 28 (.int .i64 r0) (.int .i64 r1) (.int .i64 r2) (.int .i64 r3) (by simp)
     obtain ⟨b0,b1,b2,b3⟩:=kc4 K5.out (w5.heap.size) 28 (.int .i64 r0) (.int .i64 r1) (.int .i64 r2) (.int .i64 r3) (by simp)
     go_wp2;go_ret;exact ⟨by simp,K5.out.1⟩
   . go_wp2;go_ret;exact ⟨rfl,K3.out.1⟩
 . go_wp2;go_ret;exact ⟨rfl,K2.out.1⟩
theorem Rl (la de eh ez la2 de2 eh2 ez2 d0 d1 l0 l1:Int) (aH aZ bH bZ:Option Addr) (cH cZ dH dZ:Nat) (H Z I Y:Cs) (w:World) (hH:SlI 2 w aH H) (hZ:SlI 2 w aZ Z) (hI:SlI 2 w bH I) (hY:SlI 2 w bZ Y) :
 Calls Tryz.prog 9 #[.agg #[.int .i64 la,.int .i64 de,.slice aH H.length cH,.slice aZ Z.length cZ,.int .i64 eh,.int .i64 ez],.agg #[.int .i64 la2,.int .i64 de2,.slice bH I.length dH,.slice bZ Y.length dZ,.int .i64 eh2,.int .i64 ez2],.agg #[.int .i64 d0,.int .i64 d1],.agg #[.int .i64 l0,.int .i64 l1]] w fun e w'=>e=.returned (.bool true)/\Below w.heap.size w w':=by
 have N:∀ m n:Nat,(decide (m>200) || decide (n>200))=false->m<=200/\n<=200:=by
  intro m n h;simp at h;exact h
 exact GX la de eh ez la2 de2 eh2 ez2 d0 d1 l0 l1 aH aZ bH bZ H.length cH Z.length cZ I.length dH Y.length dZ _ _ ((frV la de eh ez la2 de2 eh2 ez2 d0 d1 l0 l1 H Z I Y).getD 0 0) ((frV la de eh ez la2 de2 eh2 ez2 d0 d1 l0 l1 H Z I Y).getD 1 0) ((frV la de eh ez la2 de2 eh2 ez2 d0 d1 l0 l1 H Z I Y).getD 2 0) ((frV la de eh ez la2 de2 eh2 ez2 d0 d1 l0 l1 H Z I Y).getD 3 0) ((frV la de eh ez la2 de2 eh2 ez2 d0 d1 l0 l1 H Z I Y).getD 4 0) w (Lib.hid (fun w=>LF w)) (Lib.hid (fun w=>I9 la de eh ez aH aZ H.length cH Z.length cZ w)) (Lib.hid (fun w=>I9 la2 de2 eh2 ez2 bH bZ I.length dH Y.length dZ w))
  (Lib.hid (fun p q wx hb=>SQ la de eh ez la2 de2 eh2 ez2 d0 d1 l0 l1 aH aZ bH bZ cH cZ dH dZ H Z I Y wx (hH.below hb) (hZ.below hb) (hI.below hb) (hY.below hb) (N _ _ p).1 (N _ _ p).2 (N _ _ q).1 (N _ _ q).2))
  (Lib.hid (fun p q wx hb=>TH la de eh ez la2 de2 eh2 ez2 d0 d1 l0 l1 aH aZ bH bZ cH cZ dH dZ H Z I Y wx (hH.below hb) (hZ.below hb) (hI.below hb) (hY.below hb) (N _ _ p).1 (N _ _ p).2 (N _ _ q).1 (N _ _ q).2))
