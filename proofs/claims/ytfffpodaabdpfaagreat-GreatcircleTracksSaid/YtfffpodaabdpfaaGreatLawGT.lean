/- The law GreatcircleTracks: Vertex,AtLongitude and CrossTrack return what is specified. -/
import Derived.Test.YtfffpodaabdpfaaGreatGt
set_option linter.unusedVariables false
set_option linter.unusedSimpArgs false
namespace Go.Proofs.YtfffpodaabdpfaaGreat
open Go.RowKit Alm Sx
def nd_gct:List Nd:=[
 .arg 0,
 .arg 1,
 .arg 2,
 .arg 3,
 .arg 4,
 .arg 5,
 .arg 6,
 .app 20 0 [],
 .ite (.n 7) (.c 0) (.c 1),
 .ite (.n 8) (.c 0) (.c 1),
 .app 78 0 [.n 0,.n 1,.n 2,.n 3],
 .app 78 1 [.n 0,.n 1,.n 2,.n 3],
 .app 78 2 [.n 0,.n 1,.n 2,.n 3],
 .app 78 3 [.n 0,.n 1,.n 2,.n 3],
 .app 78 4 [.n 0,.n 1,.n 2,.n 3],
 .app 79 0 [.n 0,.n 1,.n 2,.n 3,.n 6],
 .app 79 1 [.n 0,.n 1,.n 2,.n 3,.n 6],
 .app 79 2 [.n 0,.n 1,.n 2,.n 3,.n 6],
 .app 81 0 [.n 0,.n 1,.n 2,.n 3,.n 4,.n 5],
 .app 81 1 [.n 0,.n 1,.n 2,.n 3,.n 4,.n 5],
 .app 81 2 [.n 0,.n 1,.n 2,.n 3,.n 4,.n 5],
 .bin .geq .i64 (.n 0) (.c (-5400000)),
 .bin .leq .i64 (.n 0) (.c 5400000),
 .ite (.n 21) (.n 22) (.c 0),
 .bin .geq .i64 (.n 1) (.c (-10800000)),
 .ite (.n 23) (.n 24) (.c 0),
 .bin .lss .i64 (.n 1) (.c 10800000),
 .ite (.n 25) (.n 26) (.c 0),
 .ite (.n 27) (.c 0) (.c 1),
 .bin .geq .i64 (.n 2) (.c (-5400000)),
 .bin .leq .i64 (.n 2) (.c 5400000),
 .ite (.n 29) (.n 30) (.c 0),
 .bin .geq .i64 (.n 3) (.c (-10800000)),
 .ite (.n 31) (.n 32) (.c 0),
 .bin .lss .i64 (.n 3) (.c 10800000),
 .ite (.n 33) (.n 34) (.c 0),
 .ite (.n 35) (.c 0) (.c 1),
 .ite (.n 27) (.n 36) (.c 0),
 .ite (.n 27) (.n 35) (.c 0),
 .ite (.n 28) (.c 1) (.n 37),
 .ite (.n 28) (.n 0) (.n 2),
 .ite (.n 28) (.n 1) (.n 3),
 .ite (.n 28) (.n 27) (.n 35),
 .ite (.n 28) (.n 28) (.n 36),
 .ite (.n 39) (.c 1) (.n 38),
 .ite (.n 39) (.c 0) (.c 1),
 .ite (.n 39) (.n 27) (.c 2),
 .ite (.n 39) (.n 27) (.c 1),
 .ite (.n 39) (.n 40) (.n 2),
 .ite (.n 39) (.n 41) (.n 3),
 .ite (.n 39) (.n 42) (.n 35),
 .ite (.n 39) (.n 43) (.n 36),
 .bin .eql .i64 (.n 10) (.c 0),
 .bin .eql .i64 (.n 11) (.c 0),
 .bin .eql .i64 (.n 12) (.c 0),
 .bin .eql .i64 (.n 13) (.c 0),
 .ite (.n 54) (.n 55) (.c 0),
 .ite (.n 53) (.n 56) (.c 0),
 .ite (.n 52) (.n 57) (.c 0),
 .bin .eql .i64 (.n 14) (.c 1),
 .ite (.n 58) (.n 59) (.c 0),
 .bin .eql .i64 (.n 15) (.c 0),
 .bin .eql .i64 (.n 16) (.c 0),
 .ite (.n 61) (.n 62) (.c 0),
 .ite (.n 60) (.n 63) (.c 0),
 .bin .eql .i64 (.n 17) (.c 1),
 .ite (.n 64) (.n 65) (.c 0),
 .bin .eql .i64 (.n 18) (.c 0),
 .bin .eql .i64 (.n 19) (.c 0),
 .ite (.n 67) (.n 68) (.c 0),
 .ite (.n 66) (.n 69) (.c 0),
 .bin .eql .i64 (.n 20) (.c 1),
 .ite (.n 70) (.n 71) (.c 0),
 .app 76 0 [.n 0,.n 1,.n 2,.n 3],
 .app 76 1 [.n 0,.n 1,.n 2,.n 3],
 .bin .sub .i64 (.n 74) (.n 73),
 .bin .geq .i64 (.n 75) (.c 21600000),
 .ite (.n 58) (.c 0) (.c 1),
 .bin .neq .i64 (.n 14) (.c 21),
 .ite (.n 77) (.c 1) (.n 78),
 .ite (.n 79) (.c 0) (.c 1),
 .app 82 0 [.n 0,.n 1,.n 2,.n 3],
 .app 82 1 [.n 0,.n 1,.n 2,.n 3],
 .app 82 2 [.n 0,.n 1,.n 2,.n 3],
 .app 82 3 [.n 0,.n 1,.n 2,.n 3],
 .bin .eql .i64 (.n 10) (.n 81),
 .bin .eql .i64 (.n 11) (.n 82),
 .bin .eql .i64 (.n 12) (.n 83),
 .bin .eql .i64 (.n 13) (.n 84),
 .ite (.n 87) (.n 88) (.c 0),
 .ite (.n 86) (.n 89) (.c 0),
 .ite (.n 85) (.n 90) (.c 0),
 .ite (.n 91) (.c 0) (.c 1),
 .bin .neq .i64 (.n 14) (.c 0),
 .ite (.n 92) (.c 1) (.n 93),
 .ite (.n 94) (.c 0) (.c 1),
 .ite (.n 76) (.n 80) (.c 0),
 .ite (.n 76) (.n 79) (.c 0),
 .ite (.n 76) (.c 0) (.c 1),
 .ite (.n 98) (.n 95) (.c 0),
 .ite (.n 98) (.n 94) (.c 0),
 .ite (.n 96) (.c 1) (.n 99),
 .ite (.n 97) (.c 1) (.n 100),
 .app 80 0 [.n 0,.n 1,.n 2,.n 3,.n 6],
 .app 80 1 [.n 0,.n 1,.n 2,.n 3,.n 6],
 .app 80 2 [.n 0,.n 1,.n 2,.n 3,.n 6],
 .bin .lss .i64 (.n 6) (.c (-10800000)),
 .bin .gtr .i64 (.n 6) (.c 10800000),
 .ite (.n 106) (.c 1) (.n 107),
 .ite (.n 63) (.c 0) (.c 1),
 .bin .neq .i64 (.n 17) (.c 2),
 .ite (.n 109) (.c 1) (.n 110),
 .ite (.n 111) (.c 0) (.c 1),
 .ite (.n 105) (.c 0) (.c 1),
 .bin .neq .i64 (.n 17) (.c 21),
 .ite (.n 109) (.c 1) (.n 114),
 .ite (.n 115) (.c 0) (.c 1),
 .bin .eql .i64 (.n 15) (.n 103),
 .bin .eql .i64 (.n 16) (.n 104),
 .ite (.n 117) (.n 118) (.c 0),
 .ite (.n 119) (.c 0) (.c 1),
 .bin .neq .i64 (.n 17) (.c 0),
 .ite (.n 120) (.c 1) (.n 121),
 .ite (.n 122) (.c 0) (.c 1),
 .ite (.n 113) (.n 116) (.c 0),
 .ite (.n 113) (.n 115) (.c 0),
 .ite (.n 113) (.c 0) (.c 1),
 .ite (.n 126) (.n 123) (.c 0),
 .ite (.n 126) (.n 122) (.c 0),
 .ite (.n 124) (.c 1) (.n 127),
 .ite (.n 125) (.c 1) (.n 128),
 .ite (.n 108) (.n 112) (.c 0),
 .ite (.n 108) (.n 111) (.c 0),
 .ite (.n 108) (.c 0) (.c 1),
 .ite (.n 133) (.n 129) (.c 0),
 .ite (.n 133) (.n 130) (.c 0),
 .ite (.n 131) (.c 1) (.n 134),
 .ite (.n 132) (.c 1) (.n 135),
 .bin .geq .i64 (.n 4) (.c (-5400000)),
 .bin .leq .i64 (.n 4) (.c 5400000),
 .ite (.n 138) (.n 139) (.c 0),
 .bin .geq .i64 (.n 5) (.c (-10800000)),
 .ite (.n 140) (.n 141) (.c 0),
 .bin .lss .i64 (.n 5) (.c 10800000),
 .ite (.n 142) (.n 143) (.c 0),
 .ite (.n 144) (.c 0) (.c 1),
 .ite (.n 69) (.n 71) (.c 0),
 .bin .eql .i64 (.n 20) (.c 21),
 .ite (.n 69) (.n 147) (.c 0),
 .ite (.n 144) (.n 98) (.c 0),
 .ite (.n 144) (.n 76) (.c 0),
 .ite (.n 145) (.c 1) (.n 150),
 .ite (.n 145) (.n 146) (.n 148),
 .app 83 0 [.n 0,.n 1,.n 2,.n 3,.n 4,.n 5],
 .app 83 1 [.n 0,.n 1,.n 2,.n 3,.n 4,.n 5],
 .bin .eql .i64 (.n 18) (.n 153),
 .bin .eql .i64 (.n 19) (.n 154),
 .ite (.n 155) (.n 156) (.c 0),
 .bin .eql .i64 (.n 20) (.c 0),
 .ite (.n 157) (.n 158) (.c 0),
 .ite (.n 151) (.c 1) (.n 149),
 .ite (.n 151) (.n 152) (.n 159),
 .ite (.n 136) (.n 160) (.c 0),
 .ite (.n 137) (.c 1) (.n 162),
 .ite (.n 137) (.c 0) (.n 161),
 .ite (.n 101) (.n 163) (.c 0),
 .ite (.n 102) (.c 1) (.n 165),
 .ite (.n 102) (.c 0) (.n 164),
 .ite (.n 45) (.n 166) (.c 0),
 .ite (.n 39) (.c 1) (.n 168),
 .ite (.n 39) (.n 72) (.n 167),
 .ite (.n 9) (.n 169) (.c 0),
 .ite (.n 8) (.c 1) (.n 171),
 .ite (.n 8) (.c 0) (.n 170)]
def vc_gct:List Vc:=[
 ⟨[],.pre 20 []⟩,
 ⟨[(.n 9,true)],.pre 78 [.n 0,.n 1,.n 2,.n 3]⟩,
 ⟨[(.n 9,true)],.pre 79 [.n 0,.n 1,.n 2,.n 3,.n 6]⟩,
 ⟨[(.n 9,true)],.pre 81 [.n 0,.n 1,.n 2,.n 3,.n 4,.n 5]⟩,
 ⟨[(.n 45,true),(.n 9,true)],.pre 76 [.n 0,.n 1,.n 2,.n 3]⟩,
 ⟨[(.n 76,false),(.n 45,true),(.n 9,true)],.pre 82 [.n 0,.n 1,.n 2,.n 3]⟩,
 ⟨[(.n 101,true),(.n 45,true),(.n 9,true)],.pre 80 [.n 0,.n 1,.n 2,.n 3,.n 6]⟩,
 ⟨[(.n 149,true),(.n 136,true),(.n 101,true),(.n 45,true),(.n 9,true)],.pre 83 [.n 0,.n 1,.n 2,.n 3,.n 4,.n 5]⟩]
theorem wh_gct:whole Tryz.prog spGT 20 40 7 [(true,[some .i64,some .i64]),(true,[some .i64,some .i64]),(true,[some .i64,some .i64]),(false,[some .i64])]=some (.p (.c (.bool (.n 173))),⟨nd_gct.reverse,vc_gct.reverse⟩):=by kernel_rfl
theorem wf_gct:wfN nd_gct.reverse=true:=by kernel_rfl
theorem gt_0 {ar:List Int} {v:Nat→Int} (hs:SatN (cxT ar) v nd_gct.reverse) (P10:v 10=0) (P11:v 11=0) (P12:v 12=0) (P13:v 13=0) (P14:v 14=1) (P15:v 15=0) (P16:v 16=0) (P17:v 17=1) (P18:v 18=0) (P19:v 19=0) (P20:v 20=1) (P27:v 27=0):v 45=0 :=
 norm_val (X:=cxT ar) (v:=v) (l:=nd_gct) (extT_ok _) hs (k:=45) (r:=.c 0) (ps:=[(10,.c 0),(11,.c 0),(12,.c 0),(13,.c 0),(14,.c 1),(15,.c 0),(16,.c 0),(17,.c 1),(18,.c 0),(19,.c 0),(20,.c 1),(27,.c 0)]) (nz:=[]) (ps_cons P10 (ps_cons P11 (ps_cons P12 (ps_cons P13 (ps_cons P14 (ps_cons P15 (ps_cons P16 (ps_cons P17 (ps_cons P18 (ps_cons P19 (ps_cons P20 (ps_cons P27 ps_nil)))))))))))) nz_nil (by kernel_rfl)
theorem gt_1 {ar:List Int} {v:Nat→Int} (hs:SatN (cxT ar) v nd_gct.reverse) (P10:v 10=0) (P11:v 11=0) (P12:v 12=0) (P13:v 13=0) (P14:v 14=1) (P15:v 15=0) (P16:v 16=0) (P17:v 17=1) (P18:v 18=0) (P19:v 19=0) (P20:v 20=1) (P27:v 27=0):v 173=1 :=
 norm_val (X:=cxT ar) (v:=v) (l:=nd_gct) (extT_ok _) hs (k:=173) (r:=.c 1) (ps:=[(10,.c 0),(11,.c 0),(12,.c 0),(13,.c 0),(14,.c 1),(15,.c 0),(16,.c 0),(17,.c 1),(18,.c 0),(19,.c 0),(20,.c 1),(27,.c 0)]) (nz:=[]) (ps_cons P10 (ps_cons P11 (ps_cons P12 (ps_cons P13 (ps_cons P14 (ps_cons P15 (ps_cons P16 (ps_cons P17 (ps_cons P18 (ps_cons P19 (ps_cons P20 (ps_cons P27 ps_nil)))))))))))) nz_nil (by kernel_rfl)
theorem gt_2 {ar:List Int} {v:Nat→Int} (hs:SatN (cxT ar) v nd_gct.reverse) (P10:v 10=0) (P11:v 11=0) (P12:v 12=0) (P13:v 13=0) (P14:v 14=1) (P15:v 15=0) (P16:v 16=0) (P17:v 17=1) (P18:v 18=0) (P19:v 19=0) (P20:v 20=1) (P27:v 27=1) (P35:v 35=0):v 45=0 :=
 norm_val (X:=cxT ar) (v:=v) (l:=nd_gct) (extT_ok _) hs (k:=45) (r:=.c 0) (ps:=[(10,.c 0),(11,.c 0),(12,.c 0),(13,.c 0),(14,.c 1),(15,.c 0),(16,.c 0),(17,.c 1),(18,.c 0),(19,.c 0),(20,.c 1),(27,.c 1),(35,.c 0)]) (nz:=[]) (ps_cons P10 (ps_cons P11 (ps_cons P12 (ps_cons P13 (ps_cons P14 (ps_cons P15 (ps_cons P16 (ps_cons P17 (ps_cons P18 (ps_cons P19 (ps_cons P20 (ps_cons P27 (ps_cons P35 ps_nil))))))))))))) nz_nil (by kernel_rfl)
theorem gt_3 {ar:List Int} {v:Nat→Int} (hs:SatN (cxT ar) v nd_gct.reverse) (P10:v 10=0) (P11:v 11=0) (P12:v 12=0) (P13:v 13=0) (P14:v 14=1) (P15:v 15=0) (P16:v 16=0) (P17:v 17=1) (P18:v 18=0) (P19:v 19=0) (P20:v 20=1) (P27:v 27=1) (P35:v 35=0):v 173=1 :=
 norm_val (X:=cxT ar) (v:=v) (l:=nd_gct) (extT_ok _) hs (k:=173) (r:=.c 1) (ps:=[(10,.c 0),(11,.c 0),(12,.c 0),(13,.c 0),(14,.c 1),(15,.c 0),(16,.c 0),(17,.c 1),(18,.c 0),(19,.c 0),(20,.c 1),(27,.c 1),(35,.c 0)]) (nz:=[]) (ps_cons P10 (ps_cons P11 (ps_cons P12 (ps_cons P13 (ps_cons P14 (ps_cons P15 (ps_cons P16 (ps_cons P17 (ps_cons P18 (ps_cons P19 (ps_cons P20 (ps_cons P27 (ps_cons P35 ps_nil))))))))))))) nz_nil (by kernel_rfl)
theorem gt_4 {ar:List Int} {v:Nat→Int} (hs:SatN (cxT ar) v nd_gct.reverse) (P10:v 10=0) (P11:v 11=0) (P12:v 12=0) (P13:v 13=0) (P14:v 14=21) (P76:v 76=1):v 101=1∧v 102=0 :=
 ⟨norm_val (X:=cxT ar) (v:=v) (l:=nd_gct) (extT_ok _) hs (k:=101) (r:=.c 1) (ps:=[(10,.c 0),(11,.c 0),(12,.c 0),(13,.c 0),(14,.c 21),(76,.c 1)]) (nz:=[]) (ps_cons P10 (ps_cons P11 (ps_cons P12 (ps_cons P13 (ps_cons P14 (ps_cons P76 ps_nil)))))) nz_nil (by kernel_rfl),norm_val (X:=cxT ar) (v:=v) (l:=nd_gct) (extT_ok _) hs (k:=102) (r:=.c 0) (ps:=[(10,.c 0),(11,.c 0),(12,.c 0),(13,.c 0),(14,.c 21),(76,.c 1)]) (nz:=[]) (ps_cons P10 (ps_cons P11 (ps_cons P12 (ps_cons P13 (ps_cons P14 (ps_cons P76 ps_nil)))))) nz_nil (by kernel_rfl)⟩
theorem gt_5 {ar:List Int} {v:Nat→Int} (hs:SatN (cxT ar) v nd_gct.reverse) (P14:v 14=0) (P76:v 76=0) (P81:v 81=v 10) (P82:v 82=v 11) (P83:v 83=v 12) (P84:v 84=v 13):v 101=1∧v 102=0 :=
 ⟨norm_val (X:=cxT ar) (v:=v) (l:=nd_gct) (extT_ok _) hs (k:=101) (r:=.c 1) (ps:=[(14,.c 0),(76,.c 0),(81,.n 10),(82,.n 11),(83,.n 12),(84,.n 13)]) (nz:=[]) (ps_cons P14 (ps_cons P76 (ps_cons P81 (ps_cons P82 (ps_cons P83 (ps_cons P84 ps_nil)))))) nz_nil (by kernel_rfl),norm_val (X:=cxT ar) (v:=v) (l:=nd_gct) (extT_ok _) hs (k:=102) (r:=.c 0) (ps:=[(14,.c 0),(76,.c 0),(81,.n 10),(82,.n 11),(83,.n 12),(84,.n 13)]) (nz:=[]) (ps_cons P14 (ps_cons P76 (ps_cons P81 (ps_cons P82 (ps_cons P83 (ps_cons P84 ps_nil)))))) nz_nil (by kernel_rfl)⟩
theorem gt_6 {ar:List Int} {v:Nat→Int} (hs:SatN (cxT ar) v nd_gct.reverse) (P15:v 15=0) (P16:v 16=0) (P17:v 17=2) (P106:v 106=1):v 136=1∧v 137=0 :=
 ⟨norm_val (X:=cxT ar) (v:=v) (l:=nd_gct) (extT_ok _) hs (k:=136) (r:=.c 1) (ps:=[(15,.c 0),(16,.c 0),(17,.c 2),(106,.c 1)]) (nz:=[]) (ps_cons P15 (ps_cons P16 (ps_cons P17 (ps_cons P106 ps_nil)))) nz_nil (by kernel_rfl),norm_val (X:=cxT ar) (v:=v) (l:=nd_gct) (extT_ok _) hs (k:=137) (r:=.c 0) (ps:=[(15,.c 0),(16,.c 0),(17,.c 2),(106,.c 1)]) (nz:=[]) (ps_cons P15 (ps_cons P16 (ps_cons P17 (ps_cons P106 ps_nil)))) nz_nil (by kernel_rfl)⟩
theorem gt_7 {ar:List Int} {v:Nat→Int} (hs:SatN (cxT ar) v nd_gct.reverse) (P15:v 15=0) (P16:v 16=0) (P17:v 17=2) (P106:v 106=0) (P107:v 107=1):v 136=1∧v 137=0 :=
 ⟨norm_val (X:=cxT ar) (v:=v) (l:=nd_gct) (extT_ok _) hs (k:=136) (r:=.c 1) (ps:=[(15,.c 0),(16,.c 0),(17,.c 2),(106,.c 0),(107,.c 1)]) (nz:=[]) (ps_cons P15 (ps_cons P16 (ps_cons P17 (ps_cons P106 (ps_cons P107 ps_nil))))) nz_nil (by kernel_rfl),norm_val (X:=cxT ar) (v:=v) (l:=nd_gct) (extT_ok _) hs (k:=137) (r:=.c 0) (ps:=[(15,.c 0),(16,.c 0),(17,.c 2),(106,.c 0),(107,.c 1)]) (nz:=[]) (ps_cons P15 (ps_cons P16 (ps_cons P17 (ps_cons P106 (ps_cons P107 ps_nil))))) nz_nil (by kernel_rfl)⟩
theorem gt_8 {ar:List Int} {v:Nat→Int} (hs:SatN (cxT ar) v nd_gct.reverse) (P15:v 15=0) (P16:v 16=0) (P17:v 17=21) (P105:v 105=0) (P106:v 106=0) (P107:v 107=0):v 136=1∧v 137=0 :=
 ⟨norm_val (X:=cxT ar) (v:=v) (l:=nd_gct) (extT_ok _) hs (k:=136) (r:=.c 1) (ps:=[(15,.c 0),(16,.c 0),(17,.c 21),(105,.c 0),(106,.c 0),(107,.c 0)]) (nz:=[]) (ps_cons P15 (ps_cons P16 (ps_cons P17 (ps_cons P105 (ps_cons P106 (ps_cons P107 ps_nil)))))) nz_nil (by kernel_rfl),norm_val (X:=cxT ar) (v:=v) (l:=nd_gct) (extT_ok _) hs (k:=137) (r:=.c 0) (ps:=[(15,.c 0),(16,.c 0),(17,.c 21),(105,.c 0),(106,.c 0),(107,.c 0)]) (nz:=[]) (ps_cons P15 (ps_cons P16 (ps_cons P17 (ps_cons P105 (ps_cons P106 (ps_cons P107 ps_nil)))))) nz_nil (by kernel_rfl)⟩
theorem gt_9 {ar:List Int} {v:Nat→Int} (hs:SatN (cxT ar) v nd_gct.reverse) (P17:v 17=0) (P103:v 103=v 15) (P104:v 104=v 16) (P105:v 105=1) (P106:v 106=0) (P107:v 107=0):v 136=1∧v 137=0 :=
 ⟨norm_val (X:=cxT ar) (v:=v) (l:=nd_gct) (extT_ok _) hs (k:=136) (r:=.c 1) (ps:=[(17,.c 0),(103,.n 15),(104,.n 16),(105,.c 1),(106,.c 0),(107,.c 0)]) (nz:=[]) (ps_cons P17 (ps_cons P103 (ps_cons P104 (ps_cons P105 (ps_cons P106 (ps_cons P107 ps_nil)))))) nz_nil (by kernel_rfl),norm_val (X:=cxT ar) (v:=v) (l:=nd_gct) (extT_ok _) hs (k:=137) (r:=.c 0) (ps:=[(17,.c 0),(103,.n 15),(104,.n 16),(105,.c 1),(106,.c 0),(107,.c 0)]) (nz:=[]) (ps_cons P17 (ps_cons P103 (ps_cons P104 (ps_cons P105 (ps_cons P106 (ps_cons P107 ps_nil)))))) nz_nil (by kernel_rfl)⟩
theorem gt_10 {ar:List Int} {v:Nat→Int} (hs:SatN (cxT ar) v nd_gct.reverse) (P18:v 18=0) (P19:v 19=0) (P20:v 20=1) (P27:v 27=1) (P35:v 35=1) (P101:v 101=1) (P102:v 102=0) (P136:v 136=1) (P137:v 137=0) (P144:v 144=0):v 173=1 :=
 norm_val (X:=cxT ar) (v:=v) (l:=nd_gct) (extT_ok _) hs (k:=173) (r:=.c 1) (ps:=[(18,.c 0),(19,.c 0),(20,.c 1),(27,.c 1),(35,.c 1),(101,.c 1),(102,.c 0),(136,.c 1),(137,.c 0),(144,.c 0)]) (nz:=[]) (ps_cons P18 (ps_cons P19 (ps_cons P20 (ps_cons P27 (ps_cons P35 (ps_cons P101 (ps_cons P102 (ps_cons P136 (ps_cons P137 (ps_cons P144 ps_nil)))))))))) nz_nil (by kernel_rfl)
theorem gt_11 {ar:List Int} {v:Nat→Int} (hs:SatN (cxT ar) v nd_gct.reverse) (P18:v 18=0) (P19:v 19=0) (P20:v 20=21) (P27:v 27=1) (P35:v 35=1) (P76:v 76=1) (P101:v 101=1) (P102:v 102=0) (P136:v 136=1) (P137:v 137=0) (P144:v 144=1):v 173=1 :=
 norm_val (X:=cxT ar) (v:=v) (l:=nd_gct) (extT_ok _) hs (k:=173) (r:=.c 1) (ps:=[(18,.c 0),(19,.c 0),(20,.c 21),(27,.c 1),(35,.c 1),(76,.c 1),(101,.c 1),(102,.c 0),(136,.c 1),(137,.c 0),(144,.c 1)]) (nz:=[]) (ps_cons P18 (ps_cons P19 (ps_cons P20 (ps_cons P27 (ps_cons P35 (ps_cons P76 (ps_cons P101 (ps_cons P102 (ps_cons P136 (ps_cons P137 (ps_cons P144 ps_nil))))))))))) nz_nil (by kernel_rfl)
theorem gt_12 {ar:List Int} {v:Nat→Int} (hs:SatN (cxT ar) v nd_gct.reverse) (P20:v 20=0) (P27:v 27=1) (P35:v 35=1) (P76:v 76=0) (P101:v 101=1) (P102:v 102=0) (P136:v 136=1) (P137:v 137=0) (P144:v 144=1) (P153:v 153=v 18) (P154:v 154=v 19):v 173=1 :=
 norm_val (X:=cxT ar) (v:=v) (l:=nd_gct) (extT_ok _) hs (k:=173) (r:=.c 1) (ps:=[(20,.c 0),(27,.c 1),(35,.c 1),(76,.c 0),(101,.c 1),(102,.c 0),(136,.c 1),(137,.c 0),(144,.c 1),(153,.n 18),(154,.n 19)]) (nz:=[]) (ps_cons P20 (ps_cons P27 (ps_cons P35 (ps_cons P76 (ps_cons P101 (ps_cons P102 (ps_cons P136 (ps_cons P137 (ps_cons P144 (ps_cons P153 (ps_cons P154 ps_nil))))))))))) nz_nil (by kernel_rfl)
theorem gtD2 (x y:Int):[x,y].getD 0 0=x∧[x,y].getD 1 0=y:=⟨rfl,rfl⟩
set_option maxRecDepth 100000 in
theorem gx_10 {ar:List Int} {v:Nat→Int} (hs:SatN (cxT ar) v nd_gct.reverse):v 10=(verW (v 0) (v 1) (v 2) (v 3)).getD 0 0:=satF hs 10 rfl
set_option maxRecDepth 100000 in
theorem gx_11 {ar:List Int} {v:Nat→Int} (hs:SatN (cxT ar) v nd_gct.reverse):v 11=(verW (v 0) (v 1) (v 2) (v 3)).getD 1 0:=satF hs 11 rfl
set_option maxRecDepth 100000 in
theorem gx_12 {ar:List Int} {v:Nat→Int} (hs:SatN (cxT ar) v nd_gct.reverse):v 12=(verW (v 0) (v 1) (v 2) (v 3)).getD 2 0:=satF hs 12 rfl
set_option maxRecDepth 100000 in
theorem gx_13 {ar:List Int} {v:Nat→Int} (hs:SatN (cxT ar) v nd_gct.reverse):v 13=(verW (v 0) (v 1) (v 2) (v 3)).getD 3 0:=satF hs 13 rfl
set_option maxRecDepth 100000 in
theorem gx_14 {ar:List Int} {v:Nat→Int} (hs:SatN (cxT ar) v nd_gct.reverse):v 14=(verW (v 0) (v 1) (v 2) (v 3)).getD 4 0:=satF hs 14 rfl
set_option maxRecDepth 100000 in
theorem gx_15 {ar:List Int} {v:Nat→Int} (hs:SatN (cxT ar) v nd_gct.reverse):v 15=(atW (v 0) (v 1) (v 2) (v 3) (v 6)).getD 0 0:=satF hs 15 rfl
set_option maxRecDepth 100000 in
theorem gx_16 {ar:List Int} {v:Nat→Int} (hs:SatN (cxT ar) v nd_gct.reverse):v 16=(atW (v 0) (v 1) (v 2) (v 3) (v 6)).getD 1 0:=satF hs 16 rfl
set_option maxRecDepth 100000 in
theorem gx_17 {ar:List Int} {v:Nat→Int} (hs:SatN (cxT ar) v nd_gct.reverse):v 17=(atW (v 0) (v 1) (v 2) (v 3) (v 6)).getD 2 0:=satF hs 17 rfl
set_option maxRecDepth 100000 in
theorem gx_18 {ar:List Int} {v:Nat→Int} (hs:SatN (cxT ar) v nd_gct.reverse):v 18=(croV (v 0) (v 1) (v 2) (v 3) (v 4) (v 5)).getD 0 0:=satF hs 18 rfl
set_option maxRecDepth 100000 in
theorem gx_19 {ar:List Int} {v:Nat→Int} (hs:SatN (cxT ar) v nd_gct.reverse):v 19=(croV (v 0) (v 1) (v 2) (v 3) (v 4) (v 5)).getD 1 0:=satF hs 19 rfl
set_option maxRecDepth 100000 in
theorem gx_20 {ar:List Int} {v:Nat→Int} (hs:SatN (cxT ar) v nd_gct.reverse):v 20=(croV (v 0) (v 1) (v 2) (v 3) (v 4) (v 5)).getD 2 0:=satF hs 20 rfl
set_option maxRecDepth 100000 in
theorem gx_73 {ar:List Int} {v:Nat→Int} (hs:SatN (cxT ar) v nd_gct.reverse):v 73=(crsV (v 0) (v 1) (v 2) (v 3)).getD 0 0:=satF hs 73 rfl
set_option maxRecDepth 100000 in
theorem gx_74 {ar:List Int} {v:Nat→Int} (hs:SatN (cxT ar) v nd_gct.reverse):v 74=(crsV (v 0) (v 1) (v 2) (v 3)).getD 1 0:=satF hs 74 rfl
set_option maxRecDepth 100000 in
theorem gx_149 {ar:List Int} {v:Nat→Int} (hs:SatN (cxT ar) v nd_gct.reverse):v 149=if v 144≠0 then v 98 else (0:Int):=satF hs 149 rfl
set_option maxRecDepth 100000 in
theorem gx_81 {ar:List Int} {v:Nat→Int} (hs:SatN (cxT ar) v nd_gct.reverse):v 81=(verV (v 0) (v 1) (v 2) (v 3)).getD 0 0:=satF hs 81 rfl
set_option maxRecDepth 100000 in
theorem gx_82 {ar:List Int} {v:Nat→Int} (hs:SatN (cxT ar) v nd_gct.reverse):v 82=(verV (v 0) (v 1) (v 2) (v 3)).getD 1 0:=satF hs 82 rfl
set_option maxRecDepth 100000 in
theorem gx_83 {ar:List Int} {v:Nat→Int} (hs:SatN (cxT ar) v nd_gct.reverse):v 83=(verV (v 0) (v 1) (v 2) (v 3)).getD 2 0:=satF hs 83 rfl
set_option maxRecDepth 100000 in
theorem gx_84 {ar:List Int} {v:Nat→Int} (hs:SatN (cxT ar) v nd_gct.reverse):v 84=(verV (v 0) (v 1) (v 2) (v 3)).getD 3 0:=satF hs 84 rfl
set_option maxRecDepth 100000 in
theorem gx_103 {ar:List Int} {v:Nat→Int} (hs:SatN (cxT ar) v nd_gct.reverse):v 103=(atV (v 0) (v 1) (v 2) (v 3) (v 6)).getD 0 0:=satF hs 103 rfl
set_option maxRecDepth 100000 in
theorem gx_104 {ar:List Int} {v:Nat→Int} (hs:SatN (cxT ar) v nd_gct.reverse):v 104=(atV (v 0) (v 1) (v 2) (v 3) (v 6)).getD 1 0:=satF hs 104 rfl
set_option maxRecDepth 100000 in
theorem gx_105 {ar:List Int} {v:Nat→Int} (hs:SatN (cxT ar) v nd_gct.reverse):v 105=b2i (decide (¬ atN (v 0) (v 1) (v 2) (v 3))):=satF hs 105 rfl
set_option maxRecDepth 100000 in
theorem gx_153 {ar:List Int} {v:Nat→Int} (hs:SatN (cxT ar) v nd_gct.reverse):v 153=asnL (cN (v 0) (v 1) (v 2) (v 3) (v 4) (v 5)).1:=(show v 153=[asnL (cN (v 0) (v 1) (v 2) (v 3) (v 4) (v 5)).1,asnH (cN (v 0) (v 1) (v 2) (v 3) (v 4) (v 5)).2].getD 0 0 from satF hs 153 rfl).trans (gtD2 _ _).1
set_option maxRecDepth 100000 in
theorem gx_154 {ar:List Int} {v:Nat→Int} (hs:SatN (cxT ar) v nd_gct.reverse):v 154=asnH (cN (v 0) (v 1) (v 2) (v 3) (v 4) (v 5)).2:=(show v 154=[asnL (cN (v 0) (v 1) (v 2) (v 3) (v 4) (v 5)).1,asnH (cN (v 0) (v 1) (v 2) (v 3) (v 4) (v 5)).2].getD 1 0 from satF hs 154 rfl).trans (gtD2 _ _).2
set_option maxRecDepth 100000 in
theorem gx_106 {ar:List Int} {v:Nat→Int} (hs:SatN (cxT ar) v nd_gct.reverse):v 106=b2i (decide (v 6 < (-10800000:Int))):=satF hs 106 rfl
set_option maxRecDepth 100000 in
theorem gx_107 {ar:List Int} {v:Nat→Int} (hs:SatN (cxT ar) v nd_gct.reverse):v 107=b2i (decide (v 6 > (10800000:Int))):=satF hs 107 rfl
set_option maxRecDepth 100000 in
theorem gq_QA {ar:List Int} {v:Nat→Int} (hs:SatN (cxT ar) v nd_gct.reverse):v 27=b2i (decide (PtV (v 0) (v 1))):=ptB (x1:=v 21) (x2:=v 22) (x3:=v 24) (x4:=v 26) (y5:=0) (y7:=0) (y9:=0) (z6:=v 23) (z8:=v 25) (satF hs 21 rfl) (satF hs 22 rfl) (satF hs 24 rfl) (satF hs 26 rfl) (satF hs 23 rfl) (satF hs 25 rfl) (satF hs 27 rfl)
set_option maxRecDepth 100000 in
theorem gq_QB {ar:List Int} {v:Nat→Int} (hs:SatN (cxT ar) v nd_gct.reverse):v 35=b2i (decide (PtV (v 2) (v 3))):=ptB (x1:=v 29) (x2:=v 30) (x3:=v 32) (x4:=v 34) (y5:=0) (y7:=0) (y9:=0) (z6:=v 31) (z8:=v 33) (satF hs 29 rfl) (satF hs 30 rfl) (satF hs 32 rfl) (satF hs 34 rfl) (satF hs 31 rfl) (satF hs 33 rfl) (satF hs 35 rfl)
set_option maxRecDepth 100000 in
theorem gq_QP {ar:List Int} {v:Nat→Int} (hs:SatN (cxT ar) v nd_gct.reverse):v 144=b2i (decide (PtV (v 4) (v 5))):=ptB (x1:=v 138) (x2:=v 139) (x3:=v 141) (x4:=v 143) (y5:=0) (y7:=0) (y9:=0) (z6:=v 140) (z8:=v 142) (satF hs 138 rfl) (satF hs 139 rfl) (satF hs 141 rfl) (satF hs 143 rfl) (satF hs 140 rfl) (satF hs 142 rfl) (satF hs 144 rfl)
set_option maxRecDepth 100000 in
theorem gx_75 {ar:List Int} {v:Nat→Int} (hs:SatN (cxT ar) v nd_gct.reverse):v 75=IntKind.i64.wrap (v 74 - v 73):=satF hs 75 rfl
set_option maxRecDepth 100000 in
theorem gx_76 {ar:List Int} {v:Nat→Int} (hs:SatN (cxT ar) v nd_gct.reverse):v 76=b2i (decide (v 75≥(21600000:Int))):=satF hs 76 rfl
set_option maxRecDepth 100000 in
theorem gt_vc0 {ar:List Int} {v:Nat→Int} (hs:SatN (cxT ar) v nd_gct.reverse) (Z1:v 45=0):∀ c ∈ vc_gct,c.holds (cxT ar) v:=vcs_cons (fun _=>trivial) (vcs_cons (fun _=>trivial) (vcs_cons (fun _=>trivial) (vcs_cons (fun _=>trivial) (vcs_cons (fun hp=>absurd Z1 (pt_true hp).1) (vcs_cons (fun hp=>absurd Z1 (pt_true (pt_false hp).2).1) (vcs_cons (fun hp=>absurd Z1 (pt_true (pt_true hp).2).1) (vcs_cons (fun hp=>absurd Z1 (pt_true (pt_true (pt_true (pt_true hp).2).2).2).1) (vcs_nil))))))))
set_option maxRecDepth 100000 in
theorem gt_vc1 {ar:List Int} {v:Nat→Int} (hs:SatN (cxT ar) v nd_gct.reverse) (hv:PtV (v 0) (v 1)∧PtV (v 2) (v 3)) (N76:v 76=0→¬ crA (v 0) (v 1) (v 2) (v 3)) (L149:v 149≠0→PtV (v 4) (v 5)):∀ c ∈ vc_gct,c.holds (cxT ar) v:=vcs_cons (fun _=>trivial) (vcs_cons (fun _=>trivial) (vcs_cons (fun _=>trivial) (vcs_cons (fun _=>trivial) (vcs_cons (fun _=>hv) (vcs_cons (fun hp=>⟨hv,N76 (pt_false hp).1⟩) (vcs_cons (fun _=>hv) (vcs_cons (fun hp=>⟨hv,L149 (pt_true hp).1⟩) (vcs_nil))))))))
set_option maxRecDepth 100000 in
set_option maxHeartbeats 8000000 in
theorem c_lawGT (a0 a1 a2 a3 a4 a5 a6:Int) (w:World) :Calls Tryz.prog 7 #[.agg #[.int .i64 a0,.int .i64 a1],.agg #[.int .i64 a2,.int .i64 a3],.agg #[.int .i64 a4,.int .i64 a5],.int .i64 a6] w fun e w'=>e=.returned (.bool true)∧Below w.heap.size w w':=by
 refine Sx.calls (X:=cxT [a0,a1,a2,a3,a4,a5,a6]) hmix (spGT_ok _) wh_gct wf_gct (fun v hs=>?_) w
 have QA:v 27=b2i (decide (PtV (v 0) (v 1))):=gq_QA hs
 have QB:v 35=b2i (decide (PtV (v 2) (v 3))):=gq_QB hs
 have QP:v 144=b2i (decide (PtV (v 4) (v 5))):=gq_QP hs
 have x10:v 10=(verW (v 0) (v 1) (v 2) (v 3)).getD 0 0:=gx_10 hs
 have x11:v 11=(verW (v 0) (v 1) (v 2) (v 3)).getD 1 0:=gx_11 hs
 have x12:v 12=(verW (v 0) (v 1) (v 2) (v 3)).getD 2 0:=gx_12 hs
 have x13:v 13=(verW (v 0) (v 1) (v 2) (v 3)).getD 3 0:=gx_13 hs
 have x14:v 14=(verW (v 0) (v 1) (v 2) (v 3)).getD 4 0:=gx_14 hs
 have x15:v 15=(atW (v 0) (v 1) (v 2) (v 3) (v 6)).getD 0 0:=gx_15 hs
 have x16:v 16=(atW (v 0) (v 1) (v 2) (v 3) (v 6)).getD 1 0:=gx_16 hs
 have x17:v 17=(atW (v 0) (v 1) (v 2) (v 3) (v 6)).getD 2 0:=gx_17 hs
 have x18:v 18=(croV (v 0) (v 1) (v 2) (v 3) (v 4) (v 5)).getD 0 0:=gx_18 hs
 have x19:v 19=(croV (v 0) (v 1) (v 2) (v 3) (v 4) (v 5)).getD 1 0:=gx_19 hs
 have x20:v 20=(croV (v 0) (v 1) (v 2) (v 3) (v 4) (v 5)).getD 2 0:=gx_20 hs
 by_cases hv:PtV (v 0) (v 1)∧PtV (v 2) (v 3)
 rotate_left
 · have W1:verW (v 0) (v 1) (v 2) (v 3)=[0,0,0,0,1]:=if_neg hv
   have W2:atW (v 0) (v 1) (v 2) (v 3) (v 6)=[0,0,1]:=if_neg hv
   have W3:croV (v 0) (v 1) (v 2) (v 3) (v 4) (v 5)=[0,0,1]:=by
    unfold croV
    rw [if_neg hv]
    split<;>rfl
   have k10:v 10=0:=x10.trans (by rw [W1];rfl)
   have k11:v 11=0:=x11.trans (by rw [W1];rfl)
   have k12:v 12=0:=x12.trans (by rw [W1];rfl)
   have k13:v 13=0:=x13.trans (by rw [W1];rfl)
   have k14:v 14=1:=x14.trans (by rw [W1];rfl)
   have k15:v 15=0:=x15.trans (by rw [W2];rfl)
   have k16:v 16=0:=x16.trans (by rw [W2];rfl)
   have k17:v 17=1:=x17.trans (by rw [W2];rfl)
   have k18:v 18=0:=x18.trans (by rw [W3];rfl)
   have k19:v 19=0:=x19.trans (by rw [W3];rfl)
   have k20:v 20=1:=x20.trans (by rw [W3];rfl)
   have C:v 27=0∨(v 27=1∧v 35=0):=by
    by_cases p:PtV (v 0) (v 1)
    · refine .inr ⟨by rw [QA,decide_eq_true p];rfl,?_⟩
      rw [QB,decide_eq_false (fun q=>hv ⟨p,q⟩)];rfl
    · exact .inl (by rw [QA,decide_eq_false p];rfl)
   have Z:v 45=0∧v 173=1:=by
    rcases C with u | ⟨u,u2⟩
    · exact ⟨gt_0 hs k10 k11 k12 k13 k14 k15 k16 k17 k18 k19 k20 u,gt_1 hs k10 k11 k12 k13 k14 k15 k16 k17 k18 k19 k20 u⟩
    · exact ⟨gt_2 hs k10 k11 k12 k13 k14 k15 k16 k17 k18 k19 k20 u u2,gt_3 hs k10 k11 k12 k13 k14 k15 k16 k17 k18 k19 k20 u u2⟩
   refine ⟨vcs_rev ?_,?_⟩
   · exact gt_vc0 hs Z.1
   · intro x hx
     have hx':x=.bool (decide (v 173≠0)):=hx
     rw [hx',Z.2];rfl
 have u27:v 27=1:=by rw [QA,decide_eq_true hv.1];rfl
 have u35:v 35=1:=by rw [QB,decide_eq_true hv.2];rfl
 have x73:v 73=(crsV (v 0) (v 1) (v 2) (v 3)).getD 0 0:=gx_73 hs
 have x74:v 74=(crsV (v 0) (v 1) (v 2) (v 3)).getD 1 0:=gx_74 hs
 have CB:=crs_bd (v 0) (v 1) (v 2) (v 3)
 have x75:v 75=v 74 - v 73:=by rw [gx_75 hs,Go.IntWalk.i64_in _ (by omega)]
 have Q76:v 76=b2i (decide (crA (v 0) (v 1) (v 2) (v 3))):=by
  rw [gx_76 hs,x75,x73,x74]
  exact congrArg b2i (decide_eq_decide.2 (crs_all (v 0) (v 1) (v 2) (v 3)))
 have N76:v 76=0→¬ crA (v 0) (v 1) (v 2) (v 3):=by
  intro h q
  rw [Q76,decide_eq_true q] at h
  exact absurd h (by decide)
 have e149:v 149=if v 144≠0 then v 98 else (0:Int):=gx_149 hs
 have L149:v 149≠0→PtV (v 4) (v 5):=by
  intro h
  by_cases q:PtV (v 4) (v 5)
  · exact q
  · rw [e149,QP,decide_eq_false q] at h
    exact absurd rfl h
 refine ⟨vcs_rev ?_,?_⟩
 · exact gt_vc1 hs hv N76 L149
 · intro x hx
   have hx':x=.bool (decide (v 173≠0)):=hx
   suffices hr:v 173=1 by rw [hx',hr];rfl
   have W1:verW (v 0) (v 1) (v 2) (v 3)=verV (v 0) (v 1) (v 2) (v 3):=if_pos hv
   have y81:v 81=(verV (v 0) (v 1) (v 2) (v 3)).getD 0 0:=gx_81 hs
   have y82:v 82=(verV (v 0) (v 1) (v 2) (v 3)).getD 1 0:=gx_82 hs
   have y83:v 83=(verV (v 0) (v 1) (v 2) (v 3)).getD 2 0:=gx_83 hs
   have y84:v 84=(verV (v 0) (v 1) (v 2) (v 3)).getD 3 0:=gx_84 hs
   have y103:v 103=(atV (v 0) (v 1) (v 2) (v 3) (v 6)).getD 0 0:=gx_103 hs
   have y104:v 104=(atV (v 0) (v 1) (v 2) (v 3) (v 6)).getD 1 0:=gx_104 hs
   have y105:v 105=b2i (decide (¬ atN (v 0) (v 1) (v 2) (v 3))):=gx_105 hs
   have y153:v 153=asnL (cN (v 0) (v 1) (v 2) (v 3) (v 4) (v 5)).1:=gx_153 hs
   have y154:v 154=asnH (cN (v 0) (v 1) (v 2) (v 3) (v 4) (v 5)).2:=gx_154 hs
   have y106:v 106=b2i (decide (v 6 < (-10800000:Int))):=gx_106 hs
   have y107:v 107=b2i (decide (v 6 > (10800000:Int))):=gx_107 hs
   have LON:(v 106=1∧v 15=0∧v 16=0∧v 17=2)∨(v 106=0∧v 107=1∧v 15=0∧v 16=0∧v 17=2)∨(v 106=0∧v 107=0∧v 105=0∧v 15=0∧v 16=0∧v 17=21)∨(v 106=0∧v 107=0∧v 105=1∧v 103=v 15∧v 104=v 16∧v 17=0):=by
    by_cases q:-10800000≤v 6∧v 6≤10800000
    · have a1:v 106=0:=by rw [y106,decide_eq_false (by omega)];rfl
      have a2:v 107=0:=by rw [y107,decide_eq_false (by omega)];rfl
      have W:atW (v 0) (v 1) (v 2) (v 3) (v 6)=atV (v 0) (v 1) (v 2) (v 3) (v 6):=(if_pos hv).trans (if_pos q)
      rw [W] at x15 x16 x17
      by_cases q2:atN (v 0) (v 1) (v 2) (v 3)
      · have W':atV (v 0) (v 1) (v 2) (v 3) (v 6)=[0,0,21]:=if_pos q2
        rw [W'] at x15 x16 x17
        exact .inr (.inr (.inl ⟨a1,a2,by rw [y105,decide_eq_false (fun z=>z q2)];rfl,x15,x16,x17⟩))
      · have W':(atV (v 0) (v 1) (v 2) (v 3) (v 6)).getD 2 0=0:=by
         unfold atV
         rw [if_neg q2]
         exact (getD3 _ _ _).2.2
        exact .inr (.inr (.inr ⟨a1,a2,by rw [y105,decide_eq_true q2];rfl,by rw [y103,x15],by rw [y104,x16],by rw [x17,W']⟩))
    · have W:atW (v 0) (v 1) (v 2) (v 3) (v 6)=[0,0,2]:=(if_pos hv).trans (if_neg q)
      rw [W] at x15 x16 x17
      by_cases q2:v 6 < -10800000
      · exact .inl ⟨by rw [y106,decide_eq_true q2];rfl,x15,x16,x17⟩
      · exact .inr (.inl ⟨by rw [y106,decide_eq_false q2];rfl,by rw [y107,decide_eq_true (by omega)];rfl,x15,x16,x17⟩)
   have PNT:(v 144=0∧v 18=0∧v 19=0∧v 20=1)∨(v 144=1∧v 76=1∧v 18=0∧v 19=0∧v 20=21)∨(v 144=1∧v 76=0∧v 153=v 18∧v 154=v 19∧v 20=0):=by
    by_cases q:PtV (v 4) (v 5)
    · have a1:v 144=1:=by rw [QP,decide_eq_true q];rfl
      by_cases q2:crA (v 0) (v 1) (v 2) (v 3)
      · have W:croV (v 0) (v 1) (v 2) (v 3) (v 4) (v 5)=[0,0,21]:=((if_pos q).trans (if_pos hv)).trans (if_pos q2)
        rw [W] at x18 x19 x20
        exact .inr (.inl ⟨a1,by rw [Q76,decide_eq_true q2];rfl,x18,x19,x20⟩)
      · have W:croV (v 0) (v 1) (v 2) (v 3) (v 4) (v 5)=[asnL (cN (v 0) (v 1) (v 2) (v 3) (v 4) (v 5)).1,asnH (cN (v 0) (v 1) (v 2) (v 3) (v 4) (v 5)).2,0]:=((if_pos q).trans (if_pos hv)).trans (if_neg q2)
        rw [W] at x18 x19 x20
        obtain ⟨g1,g2,g3⟩:=getD3 (asnL (cN (v 0) (v 1) (v 2) (v 3) (v 4) (v 5)).1) (asnH (cN (v 0) (v 1) (v 2) (v 3) (v 4) (v 5)).2) 0
        exact .inr (.inr ⟨a1,by rw [Q76,decide_eq_false q2];rfl,by rw [y153,x18,g1],by rw [y154,x19,g2],by rw [x20,g3]⟩)
    · have W:croV (v 0) (v 1) (v 2) (v 3) (v 4) (v 5)=[0,0,1]:=if_neg q
      rw [W] at x18 x19 x20
      exact .inl ⟨by rw [QP,decide_eq_false q];rfl,x18,x19,x20⟩
   have VTX:(v 76=1∧v 10=0∧v 11=0∧v 12=0∧v 13=0∧v 14=21)∨(v 76=0∧v 81=v 10∧v 82=v 11∧v 83=v 12∧v 84=v 13∧v 14=0):=by
    rw [W1] at x10 x11 x12 x13 x14
    by_cases q2:crA (v 0) (v 1) (v 2) (v 3)
    · have W:verV (v 0) (v 1) (v 2) (v 3)=[0,0,0,0,21]:=if_pos q2
      rw [W] at x10 x11 x12 x13 x14
      exact .inl ⟨by rw [Q76,decide_eq_true q2];rfl,x10,x11,x12,x13,x14⟩
    · have W:verV (v 0) (v 1) (v 2) (v 3)=[acoL (vN (v 0) (v 1) (v 2) (v 3)).2,acoH (vN (v 0) (v 1) (v 2) (v 3)).1,(vLon (v 0) (v 1) (v 2) (v 3)).1,(vLon (v 0) (v 1) (v 2) (v 3)).2,0]:=if_neg q2
      refine .inr ⟨by rw [Q76,decide_eq_false q2];rfl,by rw [y81,x10],by rw [y82,x11],by rw [y83,x12],by rw [y84,x13],?_⟩
      rw [x14,W];exact (getD5 _ _ _ _ _).2.2.2.2
   clear x10 x11 x12 x13 x14 x15 x16 x17 x18 x19 x20 y81 y82 y83 y84 y103 y104 y105 y153 y154 y106 y107
   have RV:v 101=1∧v 102=0:=by
    rcases VTX with ⟨c76,b10,b11,b12,b13,b14⟩ | ⟨c76,b81,b82,b83,b84,b14⟩
    · exact gt_4 hs b10 b11 b12 b13 b14 c76
    · exact gt_5 hs b14 c76 b81 b82 b83 b84
   have RL:v 136=1∧v 137=0:=by
    rcases LON with ⟨c106,b15,b16,b17⟩ | ⟨c106,c107,b15,b16,b17⟩ | ⟨c106,c107,c105,b15,b16,b17⟩ | ⟨c106,c107,c105,b103,b104,b17⟩
    · exact gt_6 hs b15 b16 b17 c106
    · exact gt_7 hs b15 b16 b17 c106 c107
    · exact gt_8 hs b15 b16 b17 c105 c106 c107
    · exact gt_9 hs b17 b103 b104 c105 c106 c107
   obtain ⟨r1,r2⟩:=RV
   obtain ⟨r3,r4⟩:=RL
   have RP:v 173=1:=by
    rcases PNT with ⟨c144,b18,b19,b20⟩ | ⟨c144,d76,b18,b19,b20⟩ | ⟨c144,d76,b153,b154,b20⟩
    · exact gt_10 hs b18 b19 b20 u27 u35 r1 r2 r3 r4 c144
    · exact gt_11 hs b18 b19 b20 u27 u35 d76 r1 r2 r3 r4 c144
    · exact gt_12 hs b20 u27 u35 d76 r1 r2 r3 r4 c144 b153 b154
   exact RP
end Go.Proofs.YtfffpodaabdpfaaGreat
