/- What of Wides only some laws need. -/
import Derived.Test.YtbcnifkfaknnaaaGreatZWides
import Derived.Test.YtbcnifkfaknnaaaGreatZKp
set_option linter.unusedVariables false
set_option linter.unusedSimpArgs false
set_option maxRecDepth 100000
set_option maxHeartbeats 1000000
namespace Go.Proofs.YtbcnifkfaknnaaaGreat
open Go.RowKit Alm
theorem RZ (x:Int) (h:I64 x):bits .and .i64 x 1152921504606846975=x%1152921504606846976:=by
 obtain ⟨h1,h2⟩:=h;show IntKind.i64.wrap ((BitVec.ofInt 64 x &&& BitVec.ofInt 64 1152921504606846975).toNat:Int)=_;have e1:(BitVec.ofInt 64 1152921504606846975).toNat=2^60-1:=by decide
 rw [BitVec.toNat_and,e1,Nat.and_two_pow_sub_one_eq_mod,BitVec.toNat_ofInt,IntKind.wrap_i64];omega
theorem TR (x:Int) (h:U64 x):bits .and .u64 x 1152921504606846975=x%1152921504606846976:=by
 obtain ⟨h1,h2⟩:=h;show IntKind.u64.wrap ((BitVec.ofInt 64 x &&& BitVec.ofInt 64 1152921504606846975).toNat:Int)=_;have e1:(BitVec.ofInt 64 1152921504606846975).toNat=2^60-1:=by decide
 rw [BitVec.toNat_and,e1,Nat.and_two_pow_sub_one_eq_mod,BitVec.toNat_ofInt,IntKind.wrap_u64];omega
theorem Kv (x y:Nat) (k:Nat) (hy:y<2^k) (hx:x*2^k+y<18446744073709551616):bits .or .u64 ((x*2^k:Nat):Int) (y:Int)=((x*2^k+y:Nat):Int):=by
 show IntKind.u64.wrap ((BitVec.ofInt 64 ((x*2^k:Nat):Int) ||| BitVec.ofInt 64 (y:Int)).toNat:Int)=_
 have e:∀ a:Nat,a<18446744073709551616->(BitVec.ofInt 64 (a:Int)).toNat=a:=by
  intro a ha;rw [BitVec.ofInt_natCast,BitVec.toNat_ofNat];exact Nat.mod_eq_of_lt (by omega)
 rw [BitVec.toNat_or,e _ (by omega),e _ (by omega),IntKind.wrap_u64]
 have h2:x*2^k ||| y=x*2^k+y:=by
  rw [Nat.mul_comm x,<-Nat.two_pow_add_eq_or_of_lt hy]
 rw [h2];omega
theorem Aq (n:Int) (w:World) (h:I64 n) :
 Calls Tryz.prog 80 #[.int .i64 n] w fun e w'=>e=.returned (.int .u64 (n.natAbs:Int))/\w=w':=by
 obtain ⟨h1,h2⟩:=h;go_enter Tryz.func80,Tryz.ntmps80;go_wp2
 . go_ret
   exact ⟨oQ (by have:n<0:=by assumption
                 rw [IntKind.wrap_u64,IntKind.wrap_u64];omega),rfl⟩
 . go_ret
   exact ⟨oQ (by have:0<=n:=by assumption
                 omega),rfl⟩
structure WV (hi lo V:Int):Prop where
 h0:0<=lo
 h1:lo<1152921504606846976
 hv:V=hi*1152921504606846976+lo
 v0:-1267650600228229401496703205376<=V
 v1:V<=1267650600228229401496703205376
theorem WV.hi {hi lo V:Int} (h:WV hi lo V):-1099511627776<=hi/\hi<=1099511627776:=by
 obtain ⟨a,b,c,d,e⟩:=h;omega
theorem Rp (V:Int) (v0:-1267650600228229401496703205376<=V) (v1:V<=1267650600228229401496703205376):WV (V/1152921504606846976) (V%1152921504606846976) V :=
 ⟨by omega,by omega,by omega,v0,v1⟩
theorem uH (hi lo V:Int) (w:World) (h:WV hi lo V) :
 Calls Tryz.prog 90 #[.agg #[.int .i64 hi,.int .i64 lo]] w fun e w'=>e=.returned (.bool true)/\Below w.heap.size w w':=by
 have h1:=h.hi;have h2:=h.h0;have h3:=h.h1;go_enter Tryz.func90,Tryz.ntmps90;go_wp2
 all_goals first
  | (exfalso;omega)
  | (go_ret;exact ⟨rfl,by go_grown⟩)
theorem Vg (hi lo V:Int) (w:World) (h1:I64 lo) (h2:V=hi*1152921504606846976+lo) (v0:-1267650600228229401496703205376<=V) (v1:V<=1267650600228229401496703205376) :
 Calls Tryz.prog 89 #[.int .i64 hi,.int .i64 lo] w fun e w'=>e=.returned (.tuple #[.agg #[.int .i64 (V/1152921504606846976),.int .i64 (V%1152921504606846976)],.int .i64 0])/\Below w.heap.size w w':=by
 have hw:=Rp V v0 v1;have CV:=Lib.hid (fun w=>uH _ _ V w hw)
 have ha:=Lib.hid (RZ lo h1);obtain ⟨h3,h4⟩:=h1;have b1:-2199023255552<=hi/\hi<=2199023255552:=by omega
 obtain ⟨b2,b3⟩:=b1;have e1:hi+lo/1152921504606846976=V/1152921504606846976:=by omega
 have e2:lo%1152921504606846976=V%1152921504606846976:=by omega
 have E1:=Lib.hid e1;have E2:=Lib.hid e2;clear e1 e2 h2 v0 v1 hw;generalize V/1152921504606846976=x at *
 generalize V%1152921504606846976=y at *
 have PR:=Lib.hid (dO w (.int .i64 0) (.int .i64 0) 88);have PB:=Lib.hid (dO (w.alloc (.cells #[.int .i64 0,.int .i64 0] 88)) (.int .i64 x) (.int .i64 y) 88);go_enter Tryz.func89,Tryz.ntmps89;go_wp2_with fail;rw [ha.out,E1.out,E2.out];refine (CV.out _).mono ?_;rintro e w1 ⟨rfl,hb1⟩;have H1:=Lib.hid hb1;clear hb1;have PR1:=Lib.hid ((PR.out.alloc (by simp) _).below H1.out (by simp;omega))
 have PB1:=Lib.hid (PB.out.below H1.out (by simp))
 obtain ⟨r0,r1,g0,g1⟩:=PR1.out;obtain ⟨p0,p1,_,_⟩:=PB1.out;simp only [World.size_alloc] at p0 p1;have HB1:Hid (Below w.heap.size w w1):=(((Below.refl _ _).alloc (Nat.le_refl _) _).alloc (by simp) _).trans (H1.out.mono (by simp;omega))
 go_wp2;refine bodyPost_ret (v:=.tuple #[.agg #[.int .i64 x,.int .i64 y],.int .i64 0]) (by simp [results,Tryz.results89,go_sem,r0,r1]) rfl ⟨rfl,by have:=HB1.out;go_grown⟩
theorem Y4 (M L:Int) (h0:0<=M) (h1:M<18446744073709551616) (h2:0<=L) (h3:L<1152921504606846976) :
 bits .or .u64 (IntKind.u64.wrap (M*1152921504606846976)) L=(M*1152921504606846976+L)%18446744073709551616:=by
 obtain ⟨l,rfl⟩:=Int.eq_ofNat_of_zero_le h2;obtain ⟨m,rfl⟩:=Int.eq_ofNat_of_zero_le h0;have e:IntKind.u64.wrap ((m:Int)*1152921504606846976)=(((m%16)*2^60:Nat):Int):=by rw [IntKind.wrap_u64];omega
 rw [e,Kv _ _ _ (by omega) (by omega)]
 omega
theorem Mw {k k':IntKind} {a b c d:Int} {p q:Bool} (h:a=b) (h':c=d) (h'':p=q):Ending.returned (.agg #[.int k a,.int k' c,.bool p])=.returned (.agg #[.int k b,.int k' d,.bool q]):=by rw [h,h',h'']
theorem yR (hi lo V:Int) (w:World) (h:WV hi lo V) :
 Calls Tryz.prog 91 #[.agg #[.int .i64 hi,.int .i64 lo]] w fun e w'=>e=.returned (.agg #[.int .u64 ((V.natAbs/18446744073709551616:Nat):Int),.int .u64 ((V.natAbs%18446744073709551616:Nat):Int),.bool (decide (V<0))])/\Below w.heap.size w w':=by
 obtain ⟨h1,h2⟩:=h.hi;obtain ⟨h3,h4,hv,v0,v1⟩:=h
 by_cases hneg:hi<0
 . have ha:=RZ (-lo) ⟨by omega,by omega⟩
   have k1:(-hi+-lo/1152921504606846976)*1152921504606846976+-lo%1152921504606846976=-V:=by omega
   have k2:0<=-hi+-lo/1152921504606846976/\-hi+-lo/1152921504606846976<=1099511627776:=by omega
   have ho:=Y4 (-hi+-lo/1152921504606846976) (-lo%1152921504606846976) (by omega) (by omega) (by omega) (by omega)
   have hw:IntKind.u64.wrap (-lo%1152921504606846976)=-lo%1152921504606846976:=by rw [IntKind.wrap_u64];omega
   have HA:=Lib.hid ha;have HO:=Lib.hid ho;have HW:=Lib.hid hw;have K1:=Lib.hid k1;have K2:=Lib.hid k2;have HV:=Lib.hid hv;clear ha ho hw k1 k2 hv v0 v1;have hd:decide (hi<0)=true:=by simpa using hneg
   go_enter Tryz.func91,Tryz.ntmps91;go_wp2;go_quiet (fail);go_wp2;refine bodyPost_ret (by simp [results,Tryz.results91,go_sem];try rfl) rfl ?_
   have k1:=K1.out;have k2:=K2.out;refine ⟨Mw ?_ ?_ ?_,by (go_grown;exact below_drewN (by go_grown) _)⟩
   . have hv:=HV.out;omega
   . rw [HA.out,HW.out,HO.out];have hv:=HV.out;omega
   . have hv:=HV.out;simp;omega
 . have ho:=Y4 hi lo (by omega) (by omega) (by omega) (by omega)
   have HO:=Lib.hid ho;have HV:=Lib.hid hv;clear ho hv v0 v1;have hd:decide (hi<0)=false:=by simpa using hneg
   go_enter Tryz.func91,Tryz.ntmps91;go_wp2;go_quiet (fail);go_wp2;refine bodyPost_ret (by simp [results,Tryz.results91,go_sem];try rfl) rfl ?_
   refine ⟨Mw ?_ ?_ ?_,by (go_grown;exact below_drewN (by go_grown) _)⟩
   . have hv:=HV.out;omega
   . rw [HO.out];have hv:=HV.out;omega
   . have hv:=HV.out;simp;omega
theorem Zq (P:Nat) (hP:P<=1267650600228229401496703205376):bits .or .u64 (((P/18446744073709551616:Nat):Int)*16) (((P%18446744073709551616:Nat):Int)/1152921504606846976)=((P/1152921504606846976:Nat):Int):=by
 have e:((P/18446744073709551616:Nat):Int)*16=(((P/18446744073709551616)*2^4:Nat):Int):=by omega
 have e2:((P%18446744073709551616:Nat):Int)/1152921504606846976=((P%18446744073709551616/1152921504606846976:Nat):Int):=by omega
 rw [e,e2,Kv _ _ _ (by omega) (by omega)]
 omega
theorem QR (x:Int) (h:-9223372036854775808<=x/\x<=9223372036854775807):wrap64 x=x:=by unfold wrap64;omega
theorem Qc (P:Nat) (neg:Bool) (w:World) (hP:P<=1267650600228229401496703205376) :
 Calls Tryz.prog 81 #[.agg #[.int .u64 ((P/18446744073709551616:Nat):Int),.int .u64 ((P%18446744073709551616:Nat):Int),.bool neg]] w fun e w' =>
  e=.returned (.tuple #[.agg #[.int .i64 ((if neg then -(P:Int) else P)/1152921504606846976),.int .i64 ((if neg then -(P:Int) else P)%1152921504606846976)],.int .i64 0])/\Below w.heap.size w w':=by
 have b1:((P/18446744073709551616:Nat):Int)<=68719476736:=by omega
 have b2:((P%18446744073709551616:Nat):Int)<18446744073709551616:=by omega
 have b3:(0:Int)<=((P/18446744073709551616:Nat):Int):=by omega
 have b4:(0:Int)<=((P%18446744073709551616:Nat):Int):=by omega
 have HO:=Lib.hid (Zq P hP);have HA:=Lib.hid (TR ((P%18446744073709551616:Nat):Int) ⟨by omega,by omega⟩)
 have HF:=Lib.hid (fun w hi lo V h1 h2 h3 h4=>Vg hi lo V w h1 h2 h3 h4)
 have E1:=Lib.hid (show ((P/1152921504606846976:Nat):Int)*1152921504606846976+((P%18446744073709551616:Nat):Int)%1152921504606846976=P by omega)
 have B1:=Lib.hid (show 0<=((P/1152921504606846976:Nat):Int)/\((P/1152921504606846976:Nat):Int)<=1099511627776 by omega)
 have B2:=Lib.hid (show 0<=((P%18446744073709551616:Nat):Int)%1152921504606846976/\((P%18446744073709551616:Nat):Int)%1152921504606846976<1152921504606846976 by omega)
 generalize ((P/18446744073709551616:Nat):Int)=x at *
 generalize ((P%18446744073709551616:Nat):Int)=y at *
 have B1':=B1.out;have B2':=B2.out;have E1':=E1.out;generalize ((P/1152921504606846976:Nat):Int)=p at *
 have W1:=Lib.hid (QR p (by omega))
 have W2:=Lib.hid (QR (y%1152921504606846976) (by omega))
 have W3:=Lib.hid (QR (-p) (by omega))
 have W4:=Lib.hid (QR (-(y%1152921504606846976)) (by omega))
 have F1:=Lib.hid (fun w=>HF.out w p (y%1152921504606846976) P ⟨by omega,by omega⟩ (by omega) (by omega) (by omega))
 have F2:=Lib.hid (fun w=>HF.out w (-p) (-(y%1152921504606846976)) (-(P:Int)) ⟨by omega,by omega⟩ (by omega) (by omega) (by omega))
 clear HF B1 B2 E1 B1' B2' E1'
 cases neg
 . simp only [Bool.false_eq_true,if_false];have PR:=Lib.hid (dO (w.alloc (.cells #[.int .u64 x,.int .u64 y,.bool false] 103)) (.int .i64 0) (.int .i64 0) 88);go_enter Tryz.func81,Tryz.ntmps81;go_wp2_with fail;go_quiet (fail);go_wp2_with fail;rw [HO.out,HA.out,W1.out,W2.out];refine (F1.out _).mono ?_;rintro e w1 ⟨rfl,hb1⟩;have H1:=Lib.hid hb1;clear hb1;have PR1:=Lib.hid ((PR.out.drewN _).below H1.out (by simp))
   obtain ⟨r0,r1,g0,g1⟩:=PR1.out;simp only [World.size_alloc] at r0 r1 g0 g1;have HB1:Hid (Below w.heap.size w w1):=(below_drewN (((Below.refl _ _).alloc (Nat.le_refl _) _).alloc (by simp) _) _).trans (H1.out.mono (by simp;omega))
   go_wp2;refine bodyPost_ret (by simp [results,Tryz.results81,go_sem,r0,r1];try rfl) rfl ⟨rfl,by have:=HB1.out;go_grown⟩
 . simp only [if_true];have PR:=Lib.hid (dO (w.alloc (.cells #[.int .u64 x,.int .u64 y,.bool true] 103)) (.int .i64 0) (.int .i64 0) 88);go_enter Tryz.func81,Tryz.ntmps81;go_wp2_with fail;go_quiet (fail);go_wp2_with fail;rw [HO.out,HA.out,W1.out,W2.out,W3.out,W4.out];refine (F2.out _).mono ?_;rintro e w1 ⟨rfl,hb1⟩;have H1:=Lib.hid hb1;clear hb1;have PR1:=Lib.hid ((PR.out.drewN _).below H1.out (by simp))
   obtain ⟨r0,r1,g0,g1⟩:=PR1.out;simp only [World.size_alloc] at r0 r1 g0 g1;have HB1:Hid (Below w.heap.size w w1):=(below_drewN (((Below.refl _ _).alloc (Nat.le_refl _) _).alloc (by simp) _) _).trans (H1.out.mono (by simp;omega))
   go_wp2;refine bodyPost_ret (by simp [results,Tryz.results81,go_sem,r0,r1];try rfl) rfl ⟨rfl,by have:=HB1.out;go_grown⟩
theorem Ip (a b:Int):(a<0->b<0->((a.natAbs*b.natAbs:Nat):Int)=a*b)/\(0<=a->0<=b->((a.natAbs*b.natAbs:Nat):Int)=a*b) /\
 (a<0->0<=b->-((a.natAbs*b.natAbs:Nat):Int)=a*b)/\(0<=a->b<0->-((a.natAbs*b.natAbs:Nat):Int)=a*b):=by
 have e:((a.natAbs*b.natAbs:Nat):Int)=(a.natAbs:Int)*(b.natAbs:Int):=Int.natCast_mul _ _;refine ⟨fun h1 h2=>?_,fun h1 h2=>?_,fun h1 h2=>?_,fun h1 h2=>?_⟩
 . rw [e,show (a.natAbs:Int)=-a by omega,show (b.natAbs:Int)=-b by omega];grind
 . rw [e,show (a.natAbs:Int)=a by omega,show (b.natAbs:Int)=b by omega]
 . rw [e,show (a.natAbs:Int)=-a by omega,show (b.natAbs:Int)=b by omega];grind
 . rw [e,show (a.natAbs:Int)=a by omega,show (b.natAbs:Int)=-b by omega];grind
theorem Og (a b P:Int) (z1:a=0->P=a*b) (z2:b=0->P=a*b) (s1:a<0->b<0->P=a*b) (s2:0<=a->0<=b->P=a*b) (s3:a<0->0<=b->-P=a*b) (s4:0<=a->b<0->-P=a*b) :
 ((a<0↔b<0)->(if false=true then -P else P)=a*b)/\(a=0->(if false=true then -P else P)=a*b)/\(¬(a<0↔b<0)->¬ a=0->(if (!decide (a<0)==decide (b<0)&&a != 0&&b != 0)=true then -P else P)=a*b):=by
 refine ⟨fun h=>?_,fun h=>?_,fun h h2=>?_⟩
 . simp only [Bool.false_eq_true,if_false]
   by_cases ha:a<0
   . exact s1 ha (h.1 ha)
   . exact s2 (by omega) (by have:=mt h.2 ha;omega)
 . simp only [Bool.false_eq_true,if_false];exact z1 h
 . by_cases hb0:b=0
   . subst hb0;simp [z2 rfl]
   . have e:(!decide (a<0)==decide (b<0)&&a != 0&&b != 0)=true:=by
      by_cases ha:a<0<;>by_cases hb:b<0<;>simp_all
     rw [e,if_pos rfl]
     by_cases ha:a<0
     . exact s3 ha (by by_cases hb:b<0;exact absurd ⟨fun _=>hb,fun _=>ha⟩ h;omega)
     . by_cases hb:b<0
       . exact s4 (by omega) hb
       . exact absurd ⟨fun h=>absurd h ha,fun h=>absurd h hb⟩ h
theorem yj (a b:Int) (w:World) (ha:I64 a) (hb:I64 b) (hP:a.natAbs*b.natAbs<=1267650600228229401496703205376) :
 Calls Tryz.prog 67 #[.int .i64 a,.int .i64 b] w fun e w' =>
  e=.returned (.tuple #[.agg #[.int .i64 (a*b/1152921504606846976),.int .i64 (a*b%1152921504606846976)],.int .i64 0])/\Below w.heap.size w w':=by
 have A1:=Lib.hid (fun w=>Aq a w ha)
 have A2:=Lib.hid (fun w=>Aq b w hb)
 have A3:=Lib.hid (fun w=>dQ (a.natAbs:Int) (b.natAbs:Int) ⟨by omega,by unfold I64 at *;omega⟩ ⟨by omega,by unfold I64 at *;omega⟩ w)
 have A4:=Lib.hid (fun n w=>Qc (a.natAbs*b.natAbs) n w hP)
 have hs:=Lib.hid (Ip a b);have m1:mh (a.natAbs:Int) (b.natAbs:Int)=((a.natAbs*b.natAbs/18446744073709551616:Nat):Int):=by unfold mh;rw [<-Int.natCast_mul];omega
 have m2:ml (a.natAbs:Int) (b.natAbs:Int)=((a.natAbs*b.natAbs%18446744073709551616:Nat):Int):=by unfold ml;rw [<-Int.natCast_mul];omega
 rw [m1,m2] at A3;clear m1 m2
 have K:∀ n:Bool,(if n then -((a.natAbs*b.natAbs:Nat):Int) else ((a.natAbs*b.natAbs:Nat):Int))=a*b->∀ w,Calls Tryz.prog 81 #[.agg #[.int .u64 ((a.natAbs*b.natAbs/18446744073709551616:Nat):Int),.int .u64 ((a.natAbs*b.natAbs%18446744073709551616:Nat):Int),.bool n]] w fun e w' =>
  e=.returned (.tuple #[.agg #[.int .i64 (a*b/1152921504606846976),.int .i64 (a*b%1152921504606846976)],.int .i64 0])/\Below w.heap.size w w':=by
  intro n hn w;have h:=A4.out n w;rw [hn] at h;exact h
 have z1:a=0->((a.natAbs*b.natAbs:Nat):Int)=a*b:=by intro h;subst h;simp
 have z2:b=0->((a.natAbs*b.natAbs:Nat):Int)=a*b:=by intro h;subst h;simp
 obtain ⟨s1,s2,s3,s4⟩:=hs.out;clear hs A4;generalize a.natAbs*b.natAbs/18446744073709551616=p1 at *
 generalize a.natAbs*b.natAbs%18446744073709551616=p2 at *
 generalize ((a.natAbs*b.natAbs:Nat):Int)=P at *
 generalize a.natAbs=na at *
 generalize b.natAbs=nb at *
 have FV:=Lib.hid (Og a b P z1 z2 s1 s2 s3 s4);have KK:=Lib.hid K;clear z1 z2 s1 s2 s3 s4 K hP ha hb;generalize a*b/1152921504606846976=x at *
 generalize a*b%1152921504606846976=y at *
 have PR:=Lib.hid (dO w (.int .i64 0) (.int .i64 0) 88);go_enter Tryz.func67,Tryz.ntmps67;go_wp2_with fail;refine (A1.out _).mono ?_;rintro e w' ⟨rfl,rfl⟩;go_wp2_with fail;refine (A2.out _).mono ?_;rintro e w' ⟨rfl,rfl⟩;go_wp2_with fail;refine (A3.out _).mono ?_;rintro e w' ⟨rfl,rfl⟩;go_wp2_with fail
 all_goals
  refine (KK.out _ (by first|exact FV.out.1 (by assumption)|exact FV.out.2.1 (by assumption)|exact FV.out.2.2 (by assumption) (by assumption)) _).mono ?_
  rintro e w1 ⟨rfl,hb1⟩;have H1:=Lib.hid hb1;clear hb1;have PR1:=Lib.hid (PR.out.below H1.out (by simp))
  obtain ⟨r0,r1,g0,g1⟩:=PR1.out;have HB1:Hid (Below w.heap.size w w1):=((Below.refl _ _).alloc (Nat.le_refl _) _).trans (H1.out.mono (by simp))
  go_wp2;refine bodyPost_ret (by simp [results,Tryz.results67,go_sem,r0,r1];try rfl) rfl ⟨rfl,by have:=HB1.out;go_grown⟩
end Go.Proofs.YtbcnifkfaknnaaaGreat
namespace Go.Proofs.YtbcnifkfaknnaaaGreat
open Go.RowKit Alm
def zB (r:Int):Int:=if -9223372036854775808<=r/\r<=9223372036854775807 then r else 0
def Ad (r:Int):Int:=if -9223372036854775808<=r/\r<=9223372036854775807 then 0 else 5
theorem xX (V b:Int) (hb:0<b) (q r:Int) (e:(V.natAbs:Int)=b*q+r) (h0:0<=r) (hr:r<b) :
 (V<0->0<r->quo V b false=-(q+1))/\(V<0->¬ 0<r->quo V b false=-q)/\(V<0->quo V b true=-q) /\
 (¬ V<0->quo V b false=q)/\(¬ V<0->0<r->quo V b true=q+1)/\(¬ V<0->¬ 0<r->quo V b true=q):=by
 unfold quo;simp only [Bool.false_eq_true,if_false,if_true];refine ⟨fun h k=>?_,fun h k=>?_,fun h=>?_,fun h=>?_,fun h k=>?_,fun h k=>?_⟩
 . rw [show V=b*(-(q+1))+(b-r) by grind,ji b _ _ hb (by omega) (by omega)]
 . rw [show V=b*(-q)+0 by grind,ji b _ _ hb (by omega) (by omega)]
 . rw [show -V=b*q+r by grind,ji b _ _ hb (by omega) (by omega)]
 . rw [show V=b*q+r by grind,ji b _ _ hb (by omega) (by omega)]
 . rw [show -V=b*(-(q+1))+(b-r) by grind,ji b _ _ hb (by omega) (by omega)];omega
 . rw [show -V=b*(-q)+0 by grind,ji b _ _ hb (by omega) (by omega)];omega
theorem qP {k k':IntKind} {a b c d:Int} (h:a=b) (h':c=d):Ending.returned (.tuple #[.int k a,.int k' c])=.returned (.tuple #[.int k b,.int k' d]):=by rw [h,h']
theorem Ud (neg up:Bool) (hi lo b x y q r:Int) (w:World) (hb:0<b) (hb2:b<=9223372036854775807) (x2:0<=x) (x1:x<=68719476736) (k2:0<=r) (k4:0<=q) (hle:b<=x)
 (CV:Hid (∀ w:World,Calls Tryz.prog 90 #[.agg #[.int .i64 hi,.int .i64 lo]] w fun e w'=>e=.returned (.bool true)/\Below w.heap.size w w'))
 (CS:Hid (∀ w:World,Calls Tryz.prog 91 #[.agg #[.int .i64 hi,.int .i64 lo]] w fun e w'=>e=.returned (.agg #[.int .u64 x,.int .u64 y,.bool neg])/\Below w.heap.size w w'))
 (CA:Hid (∀ w:World,Calls Tryz.prog 80 #[.int .i64 b] w fun e w'=>e=.returned (.int .u64 b)/\w=w'))
 : Calls Tryz.prog 82 #[.agg #[.int .i64 hi,.int .i64 lo],.int .i64 b,.bool up] w fun e w'=>e=.returned (.tuple #[.int .i64 0,.int .i64 5])/\Below w.heap.size w w':=by
 have hbe:(b==0)=false:=by simp;omega
 have PA:=Lib.hid (dO w (.int .i64 hi) (.int .i64 lo) 88);go_enter Tryz.func82,Tryz.ntmps82;go_wp2_with fail;refine (CV.out _).mono ?_;rintro e w1 ⟨rfl,hb1⟩;have H1:=Lib.hid hb1;clear hb1;have PA1:=Lib.hid (PA.out.below H1.out (by simp))
 obtain ⟨p0,p1,_,_⟩:=PA1.out;have HB1:Hid (Below w.heap.size w w1):=((Below.refl _ _).alloc (Nat.le_refl _) _).trans (H1.out.mono (by simp))
 go_wp2_with fail;refine (CS.out _).mono ?_;rintro e w2 ⟨rfl,hb1⟩;have H2:=Lib.hid hb1;clear hb1 p0 p1;have HB2:Hid (Below w.heap.size w w2):=HB1.out.trans (H2.out.mono (by have:=HB1.out.size;omega))
 clear PA PA1 H1 H2 HB1;go_wp2_with fail;refine (CA.out _).mono ?_;rintro e w' ⟨rfl,rfl⟩;go_wp2;go_ret2;exact ⟨rfl,HB2.out.alloc HB2.out.size _⟩
theorem L6 (hi lo b x y q r:Int) (w:World) (hb:0<b) (hb2:b<=9223372036854775807) (x2:0<=x) (x1:x<=68719476736) (k2:0<=r) (k4:0<=q) (up:Bool) (hup:up=true∨r=0) (hlt:x<b) (k5:q<18446744073709551616)
 (CV:Hid (∀ w:World,Calls Tryz.prog 90 #[.agg #[.int .i64 hi,.int .i64 lo]] w fun e w'=>e=.returned (.bool true)/\Below w.heap.size w w'))
 (CS:Hid (∀ w:World,Calls Tryz.prog 91 #[.agg #[.int .i64 hi,.int .i64 lo]] w fun e w'=>e=.returned (.agg #[.int .u64 x,.int .u64 y,.bool true])/\Below w.heap.size w w'))
 (CA:Hid (∀ w:World,Calls Tryz.prog 80 #[.int .i64 b] w fun e w'=>e=.returned (.int .u64 b)/\w=w'))
 (CD:Hid (∀ w:World,Calls Tryz.prog 78 #[.int .u64 x,.int .u64 y,.int .u64 b] w fun e w'=>e=.returned (.tuple #[.int .u64 q,.int .u64 r])/\∃ n,w'=w.drewN n))
 : Calls Tryz.prog 82 #[.agg #[.int .i64 hi,.int .i64 lo],.int .i64 b,.bool up] w fun e w'=>e=.returned (.tuple #[.int .i64 (if q<=9223372036854775808 then -q else 0),.int .i64 (if q<=9223372036854775808 then 0 else 5)])/\Below w.heap.size w w':=by
 have hbe:(b==0)=false:=by simp;omega
 have hbd:decide (b<0)=false:=by simp;omega
 obtain hup|hup:=hup
 . subst hup
   by_cases hr:0<r
   all_goals
    have PA:=Lib.hid (dO w (.int .i64 hi) (.int .i64 lo) 88);go_enter Tryz.func82,Tryz.ntmps82;go_wp2_with fail;refine (CV.out _).mono ?_;rintro e w1 ⟨rfl,hb1⟩;have H1:=Lib.hid hb1;clear hb1;have PA1:=Lib.hid (PA.out.below H1.out (by simp))
    obtain ⟨p0,p1,_,_⟩:=PA1.out;have HB1:Hid (Below w.heap.size w w1):=((Below.refl _ _).alloc (Nat.le_refl _) _).trans (H1.out.mono (by simp))
    go_wp2_with fail;refine (CS.out _).mono ?_;rintro e w2 ⟨rfl,hb1⟩;have H2:=Lib.hid hb1;clear hb1 p0 p1;have HB2:Hid (Below w.heap.size w w2):=HB1.out.trans (H2.out.mono (by have:=HB1.out.size;omega))
    clear PA PA1 H1 H2 HB1;go_wp2_with fail;refine (CA.out _).mono ?_;rintro e w' ⟨rfl,rfl⟩;go_wp2_with fail;refine (CD.out _).mono ?_;rintro e w3 ⟨rfl,nd,rfl⟩;go_wp2
    all_goals
     go_ret2;refine ⟨qP ?_ ?_,below_drewN (HB2.out.alloc HB2.out.size _) _⟩<;>go_light<;>(try simp only [IntKind.wrap_u64])<;>(try unfold wrap64)<;>first|omega|(split<;>omega)
 . subst hup;have PA:=Lib.hid (dO w (.int .i64 hi) (.int .i64 lo) 88);go_enter Tryz.func82,Tryz.ntmps82;go_wp2_with fail;refine (CV.out _).mono ?_;rintro e w1 ⟨rfl,hb1⟩;have H1:=Lib.hid hb1;clear hb1;have PA1:=Lib.hid (PA.out.below H1.out (by simp))
   obtain ⟨p0,p1,_,_⟩:=PA1.out;have HB1:Hid (Below w.heap.size w w1):=((Below.refl _ _).alloc (Nat.le_refl _) _).trans (H1.out.mono (by simp))
   go_wp2_with fail;refine (CS.out _).mono ?_;rintro e w2 ⟨rfl,hb1⟩;have H2:=Lib.hid hb1;clear hb1 p0 p1;have HB2:Hid (Below w.heap.size w w2):=HB1.out.trans (H2.out.mono (by have:=HB1.out.size;omega))
   clear PA PA1 H1 H2 HB1;go_wp2_with fail;refine (CA.out _).mono ?_;rintro e w' ⟨rfl,rfl⟩;go_wp2_with fail;refine (CD.out _).mono ?_;rintro e w3 ⟨rfl,nd,rfl⟩;go_wp2
   all_goals
    go_ret2;refine ⟨qP ?_ ?_,below_drewN (HB2.out.alloc HB2.out.size _) _⟩<;>go_light<;>(try simp only [IntKind.wrap_u64])<;>(try unfold wrap64)<;>first|omega|(split<;>omega)
theorem Un (hi lo b x y q r:Int) (w:World) (hb:0<b) (hb2:b<=9223372036854775807) (x2:0<=x) (x1:x<=68719476736) (k2:0<=r) (k4:0<=q) (hr:0<r) (hlt:x<b) (k5:q<18446744073709551616)
 (CV:Hid (∀ w:World,Calls Tryz.prog 90 #[.agg #[.int .i64 hi,.int .i64 lo]] w fun e w'=>e=.returned (.bool true)/\Below w.heap.size w w'))
 (CS:Hid (∀ w:World,Calls Tryz.prog 91 #[.agg #[.int .i64 hi,.int .i64 lo]] w fun e w'=>e=.returned (.agg #[.int .u64 x,.int .u64 y,.bool true])/\Below w.heap.size w w'))
 (CA:Hid (∀ w:World,Calls Tryz.prog 80 #[.int .i64 b] w fun e w'=>e=.returned (.int .u64 b)/\w=w'))
 (CD:Hid (∀ w:World,Calls Tryz.prog 78 #[.int .u64 x,.int .u64 y,.int .u64 b] w fun e w'=>e=.returned (.tuple #[.int .u64 q,.int .u64 r])/\∃ n,w'=w.drewN n))
 : Calls Tryz.prog 82 #[.agg #[.int .i64 hi,.int .i64 lo],.int .i64 b,.bool false] w fun e w'=>e=.returned (.tuple #[.int .i64 (if (q+1)<=9223372036854775808 then -(q+1) else 0),.int .i64 (if (q+1)<=9223372036854775808 then 0 else 5)])/\Below w.heap.size w w':=by
 have hbe:(b==0)=false:=by simp;omega
 have hbd:decide (b<0)=false:=by simp;omega
 by_cases hov:q=18446744073709551615
 . subst hov;rw [if_neg (by omega),if_neg (by omega)]
   have PA:=Lib.hid (dO w (.int .i64 hi) (.int .i64 lo) 88);go_enter Tryz.func82,Tryz.ntmps82;go_wp2_with fail;refine (CV.out _).mono ?_;rintro e w1 ⟨rfl,hb1⟩;have H1:=Lib.hid hb1;clear hb1;have PA1:=Lib.hid (PA.out.below H1.out (by simp))
   obtain ⟨p0,p1,_,_⟩:=PA1.out;have HB1:Hid (Below w.heap.size w w1):=((Below.refl _ _).alloc (Nat.le_refl _) _).trans (H1.out.mono (by simp))
   go_wp2_with fail;refine (CS.out _).mono ?_;rintro e w2 ⟨rfl,hb1⟩;have H2:=Lib.hid hb1;clear hb1 p0 p1;have HB2:Hid (Below w.heap.size w w2):=HB1.out.trans (H2.out.mono (by have:=HB1.out.size;omega))
   clear PA PA1 H1 H2 HB1;go_wp2_with fail;refine (CA.out _).mono ?_;rintro e w' ⟨rfl,rfl⟩;go_wp2_with fail;refine (CD.out _).mono ?_;rintro e w3 ⟨rfl,nd,rfl⟩;go_wp2
   all_goals
    go_ret2;exact ⟨rfl,below_drewN (HB2.out.alloc HB2.out.size _) _⟩
 . have hov2:q+1<18446744073709551616:=by omega
   have hov3:(q+1==0)=false:=by simp;omega
   have PA:=Lib.hid (dO w (.int .i64 hi) (.int .i64 lo) 88);go_enter Tryz.func82,Tryz.ntmps82;go_wp2_with fail;refine (CV.out _).mono ?_;rintro e w1 ⟨rfl,hb1⟩;have H1:=Lib.hid hb1;clear hb1;have PA1:=Lib.hid (PA.out.below H1.out (by simp))
   obtain ⟨p0,p1,_,_⟩:=PA1.out;have HB1:Hid (Below w.heap.size w w1):=((Below.refl _ _).alloc (Nat.le_refl _) _).trans (H1.out.mono (by simp))
   go_wp2_with fail;refine (CS.out _).mono ?_;rintro e w2 ⟨rfl,hb1⟩;have H2:=Lib.hid hb1;clear hb1 p0 p1;have HB2:Hid (Below w.heap.size w w2):=HB1.out.trans (H2.out.mono (by have:=HB1.out.size;omega))
   clear PA PA1 H1 H2 HB1;go_wp2_with fail;refine (CA.out _).mono ?_;rintro e w' ⟨rfl,rfl⟩;go_wp2_with fail;refine (CD.out _).mono ?_;rintro e w3 ⟨rfl,nd,rfl⟩;go_wp2
   all_goals
    go_ret2;refine ⟨qP ?_ ?_,below_drewN (HB2.out.alloc HB2.out.size _) _⟩<;>go_light<;>(try simp only [IntKind.wrap_u64])<;>(try unfold wrap64)<;>first|omega|(split<;>omega)
theorem M9 (hi lo b x y q r:Int) (w:World) (hb:0<b) (hb2:b<=9223372036854775807) (x2:0<=x) (x1:x<=68719476736) (k2:0<=r) (k4:0<=q) (up:Bool) (hup:up=false∨r=0) (hlt:x<b) (k5:q<18446744073709551616)
 (CV:Hid (∀ w:World,Calls Tryz.prog 90 #[.agg #[.int .i64 hi,.int .i64 lo]] w fun e w'=>e=.returned (.bool true)/\Below w.heap.size w w'))
 (CS:Hid (∀ w:World,Calls Tryz.prog 91 #[.agg #[.int .i64 hi,.int .i64 lo]] w fun e w'=>e=.returned (.agg #[.int .u64 x,.int .u64 y,.bool false])/\Below w.heap.size w w'))
 (CA:Hid (∀ w:World,Calls Tryz.prog 80 #[.int .i64 b] w fun e w'=>e=.returned (.int .u64 b)/\w=w'))
 (CD:Hid (∀ w:World,Calls Tryz.prog 78 #[.int .u64 x,.int .u64 y,.int .u64 b] w fun e w'=>e=.returned (.tuple #[.int .u64 q,.int .u64 r])/\∃ n,w'=w.drewN n))
 : Calls Tryz.prog 82 #[.agg #[.int .i64 hi,.int .i64 lo],.int .i64 b,.bool up] w fun e w'=>e=.returned (.tuple #[.int .i64 (if q<9223372036854775808 then q else 0),.int .i64 (if q<9223372036854775808 then 0 else 5)])/\Below w.heap.size w w':=by
 have hbe:(b==0)=false:=by simp;omega
 have hbd:decide (b<0)=false:=by simp;omega
 obtain hup|hup:=hup
 . subst hup
   by_cases hr:0<r
   all_goals
    have PA:=Lib.hid (dO w (.int .i64 hi) (.int .i64 lo) 88);go_enter Tryz.func82,Tryz.ntmps82;go_wp2_with fail;refine (CV.out _).mono ?_;rintro e w1 ⟨rfl,hb1⟩;have H1:=Lib.hid hb1;clear hb1;have PA1:=Lib.hid (PA.out.below H1.out (by simp))
    obtain ⟨p0,p1,_,_⟩:=PA1.out;have HB1:Hid (Below w.heap.size w w1):=((Below.refl _ _).alloc (Nat.le_refl _) _).trans (H1.out.mono (by simp))
    go_wp2_with fail;refine (CS.out _).mono ?_;rintro e w2 ⟨rfl,hb1⟩;have H2:=Lib.hid hb1;clear hb1 p0 p1;have HB2:Hid (Below w.heap.size w w2):=HB1.out.trans (H2.out.mono (by have:=HB1.out.size;omega))
    clear PA PA1 H1 H2 HB1;go_wp2_with fail;refine (CA.out _).mono ?_;rintro e w' ⟨rfl,rfl⟩;go_wp2_with fail;refine (CD.out _).mono ?_;rintro e w3 ⟨rfl,nd,rfl⟩;go_wp2
    all_goals
     go_ret2;refine ⟨qP ?_ ?_,below_drewN (HB2.out.alloc HB2.out.size _) _⟩<;>go_light<;>(try simp only [IntKind.wrap_u64])<;>(try unfold wrap64)<;>first|omega|(split<;>omega)
 . subst hup;have PA:=Lib.hid (dO w (.int .i64 hi) (.int .i64 lo) 88);go_enter Tryz.func82,Tryz.ntmps82;go_wp2_with fail;refine (CV.out _).mono ?_;rintro e w1 ⟨rfl,hb1⟩;have H1:=Lib.hid hb1;clear hb1;have PA1:=Lib.hid (PA.out.below H1.out (by simp))
   obtain ⟨p0,p1,_,_⟩:=PA1.out;have HB1:Hid (Below w.heap.size w w1):=((Below.refl _ _).alloc (Nat.le_refl _) _).trans (H1.out.mono (by simp))
   go_wp2_with fail;refine (CS.out _).mono ?_;rintro e w2 ⟨rfl,hb1⟩;have H2:=Lib.hid hb1;clear hb1 p0 p1;have HB2:Hid (Below w.heap.size w w2):=HB1.out.trans (H2.out.mono (by have:=HB1.out.size;omega))
   clear PA PA1 H1 H2 HB1;go_wp2_with fail;refine (CA.out _).mono ?_;rintro e w' ⟨rfl,rfl⟩;go_wp2_with fail;refine (CD.out _).mono ?_;rintro e w3 ⟨rfl,nd,rfl⟩;go_wp2
   all_goals
    go_ret2;refine ⟨qP ?_ ?_,below_drewN (HB2.out.alloc HB2.out.size _) _⟩<;>go_light<;>(try simp only [IntKind.wrap_u64])<;>(try unfold wrap64)<;>first|omega|(split<;>omega)
theorem Ue (hi lo b x y q r:Int) (w:World) (hb:0<b) (hb2:b<=9223372036854775807) (x2:0<=x) (x1:x<=68719476736) (k2:0<=r) (k4:0<=q) (hr:0<r) (hlt:x<b) (k5:q<18446744073709551616)
 (CV:Hid (∀ w:World,Calls Tryz.prog 90 #[.agg #[.int .i64 hi,.int .i64 lo]] w fun e w'=>e=.returned (.bool true)/\Below w.heap.size w w'))
 (CS:Hid (∀ w:World,Calls Tryz.prog 91 #[.agg #[.int .i64 hi,.int .i64 lo]] w fun e w'=>e=.returned (.agg #[.int .u64 x,.int .u64 y,.bool false])/\Below w.heap.size w w'))
 (CA:Hid (∀ w:World,Calls Tryz.prog 80 #[.int .i64 b] w fun e w'=>e=.returned (.int .u64 b)/\w=w'))
 (CD:Hid (∀ w:World,Calls Tryz.prog 78 #[.int .u64 x,.int .u64 y,.int .u64 b] w fun e w'=>e=.returned (.tuple #[.int .u64 q,.int .u64 r])/\∃ n,w'=w.drewN n))
 : Calls Tryz.prog 82 #[.agg #[.int .i64 hi,.int .i64 lo],.int .i64 b,.bool true] w fun e w'=>e=.returned (.tuple #[.int .i64 (if (q+1)<9223372036854775808 then (q+1) else 0),.int .i64 (if (q+1)<9223372036854775808 then 0 else 5)])/\Below w.heap.size w w':=by
 have hbe:(b==0)=false:=by simp;omega
 have hbd:decide (b<0)=false:=by simp;omega
 by_cases hov:q=18446744073709551615
 . subst hov;rw [if_neg (by omega),if_neg (by omega)]
   have PA:=Lib.hid (dO w (.int .i64 hi) (.int .i64 lo) 88);go_enter Tryz.func82,Tryz.ntmps82;go_wp2_with fail;refine (CV.out _).mono ?_;rintro e w1 ⟨rfl,hb1⟩;have H1:=Lib.hid hb1;clear hb1;have PA1:=Lib.hid (PA.out.below H1.out (by simp))
   obtain ⟨p0,p1,_,_⟩:=PA1.out;have HB1:Hid (Below w.heap.size w w1):=((Below.refl _ _).alloc (Nat.le_refl _) _).trans (H1.out.mono (by simp))
   go_wp2_with fail;refine (CS.out _).mono ?_;rintro e w2 ⟨rfl,hb1⟩;have H2:=Lib.hid hb1;clear hb1 p0 p1;have HB2:Hid (Below w.heap.size w w2):=HB1.out.trans (H2.out.mono (by have:=HB1.out.size;omega))
   clear PA PA1 H1 H2 HB1;go_wp2_with fail;refine (CA.out _).mono ?_;rintro e w' ⟨rfl,rfl⟩;go_wp2_with fail;refine (CD.out _).mono ?_;rintro e w3 ⟨rfl,nd,rfl⟩;go_wp2
   all_goals
    go_ret2;exact ⟨rfl,below_drewN (HB2.out.alloc HB2.out.size _) _⟩
 . have hov2:q+1<18446744073709551616:=by omega
   have hov3:(q+1==0)=false:=by simp;omega
   have PA:=Lib.hid (dO w (.int .i64 hi) (.int .i64 lo) 88);go_enter Tryz.func82,Tryz.ntmps82;go_wp2_with fail;refine (CV.out _).mono ?_;rintro e w1 ⟨rfl,hb1⟩;have H1:=Lib.hid hb1;clear hb1;have PA1:=Lib.hid (PA.out.below H1.out (by simp))
   obtain ⟨p0,p1,_,_⟩:=PA1.out;have HB1:Hid (Below w.heap.size w w1):=((Below.refl _ _).alloc (Nat.le_refl _) _).trans (H1.out.mono (by simp))
   go_wp2_with fail;refine (CS.out _).mono ?_;rintro e w2 ⟨rfl,hb1⟩;have H2:=Lib.hid hb1;clear hb1 p0 p1;have HB2:Hid (Below w.heap.size w w2):=HB1.out.trans (H2.out.mono (by have:=HB1.out.size;omega))
   clear PA PA1 H1 H2 HB1;go_wp2_with fail;refine (CA.out _).mono ?_;rintro e w' ⟨rfl,rfl⟩;go_wp2_with fail;refine (CD.out _).mono ?_;rintro e w3 ⟨rfl,nd,rfl⟩;go_wp2
   all_goals
    go_ret2;refine ⟨qP ?_ ?_,below_drewN (HB2.out.alloc HB2.out.size _) _⟩<;>go_light<;>(try simp only [IntKind.wrap_u64])<;>(try unfold wrap64)<;>first|omega|(split<;>omega)
theorem rR (r:Int) (h:-9223372036854775808<=r/\r<=9223372036854775807):zB r=r/\Ad r=0:=by unfold zB Ad;rw [if_pos h,if_pos h];exact ⟨rfl,rfl⟩
theorem zg (r:Int) (h:¬(-9223372036854775808<=r/\r<=9223372036854775807)):zB r=0/\Ad r=5:=by unfold zB Ad;rw [if_neg h,if_neg h];exact ⟨rfl,rfl⟩
theorem lZ (q:Int) (h:0<=q):zB (-q)=(if q<=9223372036854775808 then -q else 0)/\Ad (-q)=(if q<=9223372036854775808 then 0 else 5):=by
 by_cases h2:q<=9223372036854775808
 . rw [if_pos h2,if_pos h2];exact rR _ (by omega)
 . rw [if_neg h2,if_neg h2];exact zg _ (by omega)
theorem mJ (q:Int) (h:0<=q):zB q=(if q<9223372036854775808 then q else 0)/\Ad q=(if q<9223372036854775808 then 0 else 5):=by
 by_cases h2:q<9223372036854775808
 . rw [if_pos h2,if_pos h2];exact rR _ (by omega)
 . rw [if_neg h2,if_neg h2];exact zg _ (by omega)
theorem F9 (hi lo V b:Int) (up:Bool) (w:World) (h:WV hi lo V) (hb:0<b) (hb2:b<=9223372036854775807) :
 Calls Tryz.prog 82 #[.agg #[.int .i64 hi,.int .i64 lo],.int .i64 b,.bool up] w fun e w'=>e=.returned (.tuple #[.int .i64 (zB (quo V b up)),.int .i64 (Ad (quo V b up))])/\Below w.heap.size w w':=by
 have CV:=Lib.hid (fun w=>uH hi lo V w h)
 have CS:=fun w=>yR hi lo V w h
 have CA:=fun w=>Aq b w ⟨by omega,by omega⟩
 have hv:=h.v0;have hv1:=h.v1;clear h;have x1:((V.natAbs/18446744073709551616:Nat):Int)<=68719476736:=by omega
 have x2:(0:Int)<=((V.natAbs/18446744073709551616:Nat):Int):=by omega
 have y1:((V.natAbs%18446744073709551616:Nat):Int)<18446744073709551616:=by omega
 have y2:(0:Int)<=((V.natAbs%18446744073709551616:Nat):Int):=by omega
 have z:((V.natAbs/18446744073709551616:Nat):Int)*18446744073709551616+((V.natAbs%18446744073709551616:Nat):Int)=(V.natAbs:Int):=by omega
 have db:(b.natAbs:Int)=b:=by omega
 rw [db] at CA;have CA:=Lib.hid CA;generalize ((V.natAbs/18446744073709551616:Nat):Int)=x at *
 generalize ((V.natAbs%18446744073709551616:Nat):Int)=y at *
 have CD:=fun w hlt=>eU x y b w ⟨by omega,by omega⟩ ⟨by omega,by omega⟩ ⟨by omega,by omega⟩ hlt
 have dqf:dq x y b=(x*18446744073709551616+y)/b/\dr x y b=(x*18446744073709551616+y)%b:=⟨rfl,rfl⟩
 have dqf2:b*dq x y b+dr x y b=(V.natAbs:Int)/\0<=dr x y b/\dr x y b<b/\0<=dq x y b/\(x<b->dq x y b<18446744073709551616):=by
  rw [dqf.1,dqf.2,z];have h1:=Int.mul_ediv_add_emod (V.natAbs:Int) b;have h2:=Int.emod_nonneg (V.natAbs:Int) (show b≠0 by omega)
  have h3:=Int.emod_lt_of_pos (V.natAbs:Int) hb;have h4:=Int.ediv_nonneg (show 0<=(V.natAbs:Int) by omega) (show 0<=b by omega)
  refine ⟨by omega,h2,h3,h4,fun hx=>?_⟩
  apply Int.ediv_lt_of_lt_mul hb;rw [<-z];have:(x+1)*18446744073709551616<=b*18446744073709551616:=Int.mul_le_mul_of_nonneg_right (by omega) (by omega)
  omega
 obtain ⟨k1,k2,k3,k4,k5⟩:=dqf2;have qp:=xX V b hb _ _ k1.symm k2 k3
 have hbig:¬ x<b->18446744073709551616<=dq x y b:=by
  intro hx;rw [dqf.1];apply Int.le_ediv_of_mul_le hb;have:18446744073709551616*b<=18446744073709551616*x:=Int.mul_le_mul_of_nonneg_left (by omega) (by omega)
  omega
 clear dqf k1 z db;generalize dq x y b=q at *
 generalize dr x y b=r at *
 by_cases hlt:x<b
 . have CD1:=Lib.hid (fun w=>CD w hlt)
   have k5:=k5 hlt
   by_cases hV:V<0
   . simp only [hV,decide_true] at CS;have CS:=Lib.hid CS;cases up
     . by_cases hr:0<r
       . rw [qp.1 hV hr,(lZ (q+1) (by omega)).1,(lZ (q+1) (by omega)).2]
         exact Un hi lo b x y q r w hb hb2 x2 x1 k2 k4 hr hlt k5 CV CS CA CD1
       . rw [qp.2.1 hV hr,(lZ q k4).1,(lZ q k4).2];exact L6 hi lo b x y q r w hb hb2 x2 x1 k2 k4 false (.inr (by omega)) hlt k5 CV CS CA CD1
     . rw [qp.2.2.1 hV,(lZ q k4).1,(lZ q k4).2];exact L6 hi lo b x y q r w hb hb2 x2 x1 k2 k4 true (.inl rfl) hlt k5 CV CS CA CD1
   . simp only [hV,decide_false] at CS;have CS:=Lib.hid CS;cases up
     . rw [qp.2.2.2.1 hV,(mJ q k4).1,(mJ q k4).2];exact M9 hi lo b x y q r w hb hb2 x2 x1 k2 k4 false (.inl rfl) hlt k5 CV CS CA CD1
     . by_cases hr:0<r
       . rw [qp.2.2.2.2.1 hV hr,(mJ (q+1) (by omega)).1,(mJ (q+1) (by omega)).2]
         exact Ue hi lo b x y q r w hb hb2 x2 x1 k2 k4 hr hlt k5 CV CS CA CD1
       . rw [qp.2.2.2.2.2 hV hr,(mJ q k4).1,(mJ q k4).2];exact M9 hi lo b x y q r w hb hb2 x2 x1 k2 k4 true (.inr (by omega)) hlt k5 CV CS CA CD1
 . have h5:=hbig hlt
   have hbnd:quo V b up<=-18446744073709551616∨18446744073709551616<=quo V b up:=by
    by_cases hV:V<0<;>by_cases hr:0<r<;>cases up
    . rw [qp.1 hV hr];omega
    . rw [qp.2.2.1 hV];omega
    . rw [qp.2.1 hV hr];omega
    . rw [qp.2.2.1 hV];omega
    . rw [qp.2.2.2.1 hV];omega
    . rw [qp.2.2.2.2.1 hV hr];omega
    . rw [qp.2.2.2.1 hV];omega
    . rw [qp.2.2.2.2.2 hV hr];omega
   have hf:=zg (quo V b up) (by omega)
   rw [hf.1,hf.2];exact Ud _ up hi lo b x y q r w hb hb2 x2 x1 k2 k4 (by omega) CV (Lib.hid CS) CA
theorem Ma (hi lo V b:Int) (w:World) (h:WV hi lo V) (hb:0<b) (hb2:b<=9223372036854775807) :
 Calls Tryz.prog 68 #[.agg #[.int .i64 hi,.int .i64 lo],.int .i64 b] w fun e w'=>e=.returned (.tuple #[.int .i64 (zB (V/b)),.int .i64 (Ad (V/b))])/\Below w.heap.size w w':=by
 have CQ:=Lib.hid (fun w=>F9 hi lo V b false w h hb hb2)
 have e:quo V b false=V/b:=by simp [quo]
 rw [e] at CQ;clear e;generalize V/b=F at *
 clear h;go_enter Tryz.func68,Tryz.ntmps68;go_wp2_with fail;refine (CQ.out _).mono ?_;rintro e w1 ⟨rfl,hb1⟩;have H1:=Lib.hid hb1;clear hb1;go_wp2;go_ret2;exact ⟨rfl,((Below.refl _ _).alloc (Nat.le_refl _) _).trans (H1.out.mono (by simp))⟩
theorem QJ (hi lo V b:Int) (w:World) (h:WV hi lo V) (hb:0<b) (hb2:b<=9223372036854775807) :
 Calls Tryz.prog 69 #[.agg #[.int .i64 hi,.int .i64 lo],.int .i64 b] w fun e w'=>e=.returned (.tuple #[.int .i64 (zB (-((-V)/b))),.int .i64 (Ad (-((-V)/b)))])/\Below w.heap.size w w':=by
 have CQ:=Lib.hid (fun w=>F9 hi lo V b true w h hb hb2)
 have e:quo V b true=-((-V)/b):=by simp [quo]
 rw [e] at CQ;clear e;generalize -((-V)/b)=F at *
 clear h;go_enter Tryz.func69,Tryz.ntmps69;go_wp2_with fail;refine (CQ.out _).mono ?_;rintro e w1 ⟨rfl,hb1⟩;have H1:=Lib.hid hb1;clear hb1;go_wp2;go_ret2;exact ⟨rfl,((Below.refl _ _).alloc (Nat.le_refl _) _).trans (H1.out.mono (by simp))⟩
end Go.Proofs.YtbcnifkfaknnaaaGreat
namespace Go.Proofs.YtbcnifkfaknnaaaGreat
open Go.RowKit Alm
def cK (n:Int):Bool:=decide (-1099511627776<=n/\n<=1099511627776)
theorem LM (n:Int) (w:World) :
 Calls Tryz.prog 38 #[.int .i64 n] w fun e w'=>e=.returned (.bool (cK n))/\w=w':=by
 go_enter Tryz.func38,Tryz.ntmps38;go_wp2
 all_goals
  go_ret;exact ⟨oo (by unfold cK;rw [Bool.eq_iff_iff];simp<;>omega),rfl⟩
def qFl (x n d:Int):Int:=x*n/d
def qCe (x n d:Int):Int:=-((-(x*n))/d)
def In64 (r:Int):Prop:=-9223372036854775808<=r/\r<=9223372036854775807
theorem Ap (x n:Int) (h:x.natAbs*n.natAbs<=1267650600228229401496703205376):WV (x*n/1152921504606846976) (x*n%1152921504606846976) (x*n):=by
 have e:=Int.natAbs_mul x n;apply Rp<;>omega
theorem qB (x n d:Int) (w:World) (hx:I64 x) (hn:I64 n) (h:x.natAbs*n.natAbs<=1267650600228229401496703205376) (hd:0<d) (hd2:d<=9223372036854775807) (h1:In64 (qFl x n d)) (h2:In64 (qCe x n d)) :
 Calls Tryz.prog 39 #[.int .i64 x,.int .i64 n,.int .i64 d] w fun e w'=>e=.returned (.tuple #[.int .i64 (qFl x n d),.int .i64 (qCe x n d),.int .i64 0])/\Below w.heap.size w w':=by
 have C1:=Lib.hid (fun w=>yj x n w hx hn h)
 have C2:=fun w=>Ma _ _ _ d w (Ap x n h) hd hd2
 have C3:=fun w=>QJ _ _ _ d w (Ap x n h) hd hd2
 have e1:x*n/d=qFl x n d:=rfl;have e2:-((-(x*n))/d)=qCe x n d:=rfl;rw [e1,(rR _ h1).1,(rR _ h1).2] at C2;rw [e2,(rR _ h2).1,(rR _ h2).2] at C3;have C2:=Lib.hid C2;have C3:=Lib.hid C3;clear e1 e2 h1 h2 h hx hn;generalize qFl x n d=F at *
 generalize qCe x n d=G at *
 generalize x*n/1152921504606846976=hi at *
 generalize x*n%1152921504606846976=lo at *
 go_enter Tryz.func39,Tryz.ntmps39;go_wp2_with fail;refine (C1.out _).mono ?_;rintro e w1 ⟨rfl,hb1⟩;have H1:=Lib.hid hb1;clear hb1;have PR:=Lib.hid (dO w1 (.int .i64 hi) (.int .i64 lo) 88);go_wp2_with fail;refine (C2.out _).mono ?_;rintro e w2 ⟨rfl,hb1⟩;have H2:=Lib.hid hb1;clear hb1;have PR2:=Lib.hid (PR.out.below H2.out (by simp))
 obtain ⟨p0,p1,_,_⟩:=PR2.out;have S2:=Lib.hid (show w1.heap.size<w2.heap.size by have:=H2.out.size;simp at this;omega)
 go_wp2_with fail;refine (C3.out _).mono ?_;rintro e w3 ⟨rfl,hb1⟩;have H3:=Lib.hid hb1;clear hb1;go_wp2;go_ret3;exact ⟨rfl,((H1.out.alloc H1.out.size _).trans (H2.out.mono (by have:=H1.out.size;simp;omega))).trans (H3.out.mono (by have:=H1.out.size;have:=S2.out;omega))⟩
end Go.Proofs.YtbcnifkfaknnaaaGreat
namespace Go.Proofs.YtbcnifkfaknnaaaGreat
open Go.RowKit Alm
theorem ny (lo hi:Int):fxV (dF lo hi) (dH lo hi)=true:=by
 have h:=iX lo hi;rw [kG];omega
end Go.Proofs.YtbcnifkfaknnaaaGreat
namespace Go.Proofs.YtbcnifkfaknnaaaGreat
open Go.RowKit Alm
theorem Ug (x n d B:Int) (hd:1<=d) (hB:(x.natAbs*n.natAbs:Nat)<=B):-B<=qFl x n d/\qFl x n d<=B/\-B<=qCe x n d/\qCe x n d<=B/\qFl x n d<=qCe x n d/\qCe x n d<=qFl x n d+1:=by
 have e:=Int.natAbs_mul x n;have h1:-B<=x*n/\x*n<=B:=by omega
 unfold qFl qCe;generalize x*n=P at *
 have key:∀ P:Int,-B<=P->P<=B->-B<=P/d/\P/d<=B:=by
  intro P h1 h2
  constructor
  . apply Int.le_ediv_of_mul_le (by omega)
    have:B*1<=B*d:=Int.mul_le_mul_of_nonneg_left hd (by omega)
    have:-B*d=-(B*d):=by grind
    omega
  . apply Int.ediv_le_of_le_mul (by omega)
    have:B*1<=B*d:=Int.mul_le_mul_of_nonneg_left hd (by omega)
    omega
 have a:=key P h1.1 h1.2;have b:=key (-P) (by omega) (by omega)
 have f1:=Int.mul_ediv_add_emod P d;have f2:=Int.emod_nonneg P (show d≠0 by omega)
 have f3:=Int.emod_lt_of_pos P (show 0<d by omega)
 have k:-((-P)/d)=P/d∨-((-P)/d)=P/d+1:=by
  generalize hq:P/d=q at *
  by_cases hr:P%d=0
  . left
    have e2:-P=d*(-q)+0:=by grind
    rw [e2,ji d _ _ (by omega) (by omega) (by omega)];omega
  . right
    have e2:-P=d*(-(q+1))+(d-P%d):=by grind
    rw [e2,ji d _ _ (by omega) (by omega) (by omega)];omega
 omega
def gH (lo hi n:Int):Int:=min (qFl lo n 1073741824) (qFl hi n 1073741824)
def gU (lo hi n:Int):Int:=max (qCe lo n 1073741824) (qCe hi n 1073741824)
theorem sc_bd (lo hi n:Int) (hv:fxV lo hi=true) (hn:cK n=true):∀ x,x=lo∨x=hi->I64 x/\x.natAbs*n.natAbs<=2361183241434822606848/\-2361183241434822606848<=qFl x n 1073741824/\-4398046511104<=qFl x n 1073741824/\qFl x n 1073741824<=qCe x n 1073741824/\qCe x n 1073741824<=4398046511104:=by
 have h1:=(kG lo hi).1 hv;have h2:-1099511627776<=n/\n<=1099511627776:=by unfold cK at hn;simpa using hn
 intro x hx;have hxb:x.natAbs<=2147483648:=by rcases hx with rfl|rfl<;>omega
 have hP:x.natAbs*n.natAbs<=2147483648*1099511627776:=Nat.mul_le_mul hxb (by omega)
 have hq:=Ug x n 1073741824 2361183241434822606848 (by omega) (by omega)
 have e:=Int.natAbs_mul x n;refine ⟨⟨by omega,by omega⟩,by omega,hq.1,?_,hq.2.2.2.2.1,?_⟩
 . unfold qFl;generalize x*n=P at *;omega
 . unfold qCe;generalize x*n=P at *;omega
theorem Qt (lo hi n:Int) (w:World) (hv:fxV lo hi=true) (hn:cK n=true) :
 Calls Tryz.prog 18 #[.agg #[.int .i64 lo,.int .i64 hi],.int .i64 n] w fun e w'=>e=.returned (.tuple #[.int .i64 (gH lo hi n),.int .i64 (gU lo hi n),.int .i64 0])/\Below w.heap.size w w':=by
 have bl:=sc_bd lo hi n hv hn lo (.inl rfl);have bh:=sc_bd lo hi n hv hn hi (.inr rfl);have h2:-1099511627776<=n/\n<=1099511627776:=by unfold cK at hn;simpa using hn
 have C0:=fun w=>jD lo hi w
 rw [hv] at C0;have C1:=fun w=>LM n w
 rw [hn] at C1;have C2:=Lib.hid (fun w=>qB lo n 1073741824 w bl.1 ⟨by omega,by omega⟩ (by omega) (by omega) (by omega) ⟨by omega,by omega⟩ ⟨by omega,by omega⟩)
 have C3:=Lib.hid (fun w=>qB hi n 1073741824 w bh.1 ⟨by omega,by omega⟩ (by omega) (by omega) (by omega) ⟨by omega,by omega⟩ ⟨by omega,by omega⟩)
 have C0:=Lib.hid C0;have C1:=Lib.hid C1;have e1:gH lo hi n=min (qFl lo n 1073741824) (qFl hi n 1073741824):=rfl;have e2:gU lo hi n=max (qCe lo n 1073741824) (qCe hi n 1073741824):=rfl;rw [e1,e2];clear hv hn bl bh h2 e1 e2;generalize qFl lo n 1073741824=a at *
 generalize qFl hi n 1073741824=c at *
 generalize qCe lo n 1073741824=b at *
 generalize qCe hi n 1073741824=d at *
 have PA:=Lib.hid (MC w 46 #[.int .i64 lo,.int .i64 hi]);go_enter Tryz.func18,Tryz.ntmps18;go_wp2_with fail;refine (C0.out _).mono ?_;rintro e w1 ⟨rfl,hb1⟩;have H1:=Lib.hid hb1;clear hb1;have PA1:=Lib.hid (PA.out.below H1.out (by simp))
 have HB1:Hid (Below w.heap.size w w1):=((Below.refl _ _).alloc (Nat.le_refl _) _).trans (H1.out.mono (by simp))
 have S1:=Lib.hid (show w.heap.size<w1.heap.size by have:=H1.out.size;simp at this;omega)
 have p0:=PA1.out.cell 0;have p1:=PA1.out.cell 1;clear PA H1;go_wp2_with fail;refine (C1.out _).mono ?_;rintro e w' ⟨rfl,rfl⟩;go_wp2_with fail;refine (C2.out _).mono ?_;rintro e w2 ⟨rfl,hb1⟩;have H2:=Lib.hid hb1;clear hb1 p0 p1;have PA2:=Lib.hid (PA1.out.below H2.out S1.out);have HB2:Hid (Below w.heap.size w w2):=HB1.out.trans (H2.out.mono (by have:=S1.out;omega))
 have p0:=PA2.out.cell 0;have p1:=PA2.out.cell 1;have S2:=Lib.hid (show w.heap.size<w2.heap.size by have:=H2.out.size;have:=S1.out;omega)
 clear PA1 H2 HB1;go_wp2_with fail;refine (C3.out _).mono ?_;rintro e w3 ⟨rfl,hb1⟩;have H3:=Lib.hid hb1;clear hb1 p0 p1;have HB3:Hid (Below w.heap.size w w3):=HB2.out.trans (H3.out.mono (by have:=S2.out;omega))
 go_wp2
 all_goals
  go_ret3;refine ⟨?_,HB3.out⟩
  first|rfl|(simp;omega)
