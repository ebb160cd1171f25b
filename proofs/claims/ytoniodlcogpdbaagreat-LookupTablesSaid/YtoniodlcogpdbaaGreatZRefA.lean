/- The contracts of the reference's quick sines. -/
import Derived.Test.YtoniodlcogpdbaaGreatZVecs
import Derived.Test.YtoniodlcogpdbaaGreatZNums
set_option linter.unusedVariables false
set_option linter.unusedSimpArgs false
set_option maxRecDepth 100000
set_option maxHeartbeats 4000000
namespace Go.Proofs.YtoniodlcogpdbaaGreat
open Go.RowKit Alm
theorem Rp (a:Nat) (ha:a<=2^62):bits .and .i64 (a:Int) 2147483647=((a%2147483648:Nat):Int):=by
 show IntKind.i64.wrap ((BitVec.ofInt 64 (a:Int) &&& BitVec.ofInt 64 2147483647).toNat:Int)=_;have e1:(BitVec.ofInt 64 2147483647).toNat=2^31-1:=by decide
 rw [BitVec.toNat_and,e1,Nat.and_two_pow_sub_one_eq_mod,BitVec.toNat_ofInt,IntKind.wrap_i64];omega
theorem NW (a b:Nat):(ay a b:Int)=((a/2147483648:Nat):Int)*((b/2147483648:Nat):Int)+((a/2147483648:Nat):Int)*((b%2147483648:Nat):Int)/2147483648+((a%2147483648:Nat):Int)*((b/2147483648:Nat):Int)/2147483648:=by
 have e:ay a b=(a/2147483648)*(b/2147483648)+(a/2147483648)*(b%2147483648)/2147483648+(a%2147483648)*(b/2147483648)/2147483648:=by unfold ay;rfl
 rw [e];simp
theorem Qn (a b:Nat) (w:World) (ha:a<=2^62) (hb:b<=2^62) :
 Calls Tryz.prog 171 #[.int .i64 a,.int .i64 b] w fun e w'=>e=.returned (.int .i64 (ay a b))/\w=w':=by
 have ma:=Lib.hid (Rp a ha);have mb:=Lib.hid (Rp b hb);have hv:=NW a b;have da:(a:Int)/2147483648=((a/2147483648:Nat):Int):=by omega
 have db:(b:Int)/2147483648=((b/2147483648:Nat):Int):=by omega
 have a1:a/2147483648<=2147483648:=by omega
 have b1:b/2147483648<=2147483648:=by omega
 have a0:a%2147483648<=2147483648:=by omega
 have b0:b%2147483648<=2147483648:=by omega
 have p1:a/2147483648*(b/2147483648)<=2147483648*2147483648:=Nat.mul_le_mul a1 b1;have p2:a/2147483648*(b%2147483648)<=2147483648*2147483648:=Nat.mul_le_mul a1 b0;have p3:a%2147483648*(b/2147483648)<=2147483648*2147483648:=Nat.mul_le_mul a0 b1;have ab0:(0:Int)<=(a:Int)/\(a:Int)<=4611686018427387904:=by omega
 have bb0:(0:Int)<=(b:Int)/\(b:Int)<=4611686018427387904:=by omega
 rw [hv];clear hv ha hb;generalize a/2147483648=u1 at *
 generalize a%2147483648=u0 at *
 generalize b/2147483648=v1 at *
 generalize b%2147483648=v0 at *
 have q1:(0:Int)<=(u1:Int)*(v1:Int)/\(u1:Int)*(v1:Int)<=4611686018427387904:=by rw [<-Int.natCast_mul];omega
 have q2:(0:Int)<=(u1:Int)*(v0:Int)/\(u1:Int)*(v0:Int)<=4611686018427387904:=by rw [<-Int.natCast_mul];omega
 have q3:(0:Int)<=(u0:Int)*(v1:Int)/\(u0:Int)*(v1:Int)<=4611686018427387904:=by rw [<-Int.natCast_mul];omega
 obtain ⟨q1,q1'⟩:=q1;obtain ⟨q2,q2'⟩:=q2;obtain ⟨q3,q3'⟩:=q3;obtain ⟨ab0,ab1⟩:=ab0;obtain ⟨bb0,bb1⟩:=bb0;have ma:=ma.out;have mb:=mb.out;clear p1 p2 p3;go_enter Tryz.func171,Tryz.ntmps171;go_wp2;go_ret;exact ⟨rfl,rfl⟩
theorem L8 (r:Nat) (T0:Nat) (tot:Int) (w:World) (hr:r<=2700000) (hT:T0=xq r) (htot:aN 34 T0 (di r) 1=tot) :
 Calls Tryz.prog 155 #[.int .i64 r,.bool false] w fun e w'=>e=.returned (.int .i64 tot)/\w=w':=by
 have hx:=D8 r hr;have hsq:=vg r hr;have hT0:T0<=2^62:=by omega
 have C1:=Lib.hid (fun a b w ha hb=>Qn a b w ha hb)
 have xv:(r:Int)*2620088056*512+(r:Int)*658911831/4194304=(xq r:Int):=by unfold xq;omega
 have sv:ay (xq r) (xq r)=di r:=rfl;have HX:=Lib.hid xv;have SV:=Lib.hid sv;have HT:=Lib.hid hT;have TOT:=Lib.hid htot;have HSQ:=Lib.hid hsq;have HT0:=Lib.hid hT0;have HX1:=Lib.hid hx;clear xv sv hT htot hsq hT0 hx;have r1:(r:Int)<=2700000:=by omega
 generalize di r=sq at *
 generalize xq r=x at *
 obtain rfl:T0=x:=HT.out;go_enter Tryz.func155,Tryz.ntmps155;go_wp2_with fail;rw [HX.out];refine (C1.out _ _ _ HX1.out HX1.out).mono ?_;rintro e w' ⟨rfl,rfl⟩;rw [SV.out];go_wp2
 go_loop [7,8,9] (fun t dd ss=>∃ (i T d:Nat) (S:Int),t=.int .i64 T/\dd=.int .i64 d/\ss=.int .i64 S/\d=1+1+4*i/\S+aN (34-2*i) T sq (1+4*i)=tot/\T*16^i<=2^62/\0<=S/\S+T<=4611686018427387904)
  (fun t _ _=>(intOf t).toNat)
 case atStart=>exact ⟨0,T0,1+1,0,rfl,rfl,rfl,rfl,by have:=TOT.out;simp;exact this,by have:=HT0.out;omega,by omega,by have:=HT0.out;omega⟩
 case round =>
  obtain ⟨i,T,d,S,rfl,rfl,rfl,hd,he,hp,hS,hST⟩:=hrel
  by_cases hT:0<T
  . have Q:=Ka i 1 d T sq S tot (by omega) hd HSQ.out he hp hS hST hT
    obtain ⟨z1,z2,z3,z4,z5,z6,z7,z8⟩:=Q;have HTb:=Lib.hid (show T<=2^62 by omega)
    have hz:ay T sq/(d*(d+1))<=2^62:=by have:=HTb.out;omega
    have e1:(ay T sq:Int)/((d:Int)*((d:Int)+1))=((ay T sq/(d*(d+1)):Nat):Int):=by simp
    have b1:(ay T sq:Int)<=4611686018427387904:=by have:=iL T sq HSQ.out;have:=HTb.out;omega
    have b2:(d:Int)*((d:Int)+1)<=10000/\0<(d:Int)*((d:Int)+1):=by
     have:d*(d+1)<=70*71:=Nat.mul_le_mul z1 (by omega)
     have:0<d*(d+1):=Nat.mul_pos (by omega) (by omega)
     have e:(d:Int)*((d:Int)+1)=((d*(d+1):Nat):Int):=by simp
     rw [e];omega
    have e2:(ay (ay T sq/(d*(d+1))) sq:Int)/(((d:Int)+2)*((d:Int)+3))=((ay (ay T sq/(d*(d+1))) sq/((d+2)*(d+3)):Nat):Int):=by simp
    have b3:(ay (ay T sq/(d*(d+1))) sq:Int)<=4611686018427387904:=by have:=iL (ay T sq/(d*(d+1))) sq HSQ.out;have:=HTb.out;omega
    have b4:((d:Int)+2)*((d:Int)+3)<=10000/\0<((d:Int)+2)*((d:Int)+3):=by
     have:(d+2)*(d+3)<=72*73:=Nat.mul_le_mul (by omega) (by omega)
     have:0<(d+2)*(d+3):=Nat.mul_pos (by omega) (by omega)
     have e:((d:Int)+2)*((d:Int)+3)=(((d+2)*(d+3):Nat):Int):=by simp
     rw [e];omega
    obtain ⟨b2,b2'⟩:=b2;obtain ⟨b4,b4'⟩:=b4;have C2:=Lib.hid (fun w=>C1.out T sq w HTb.out HSQ.out)
    have C3:=Lib.hid (fun w=>C1.out (ay T sq/(d*(d+1))) sq w hz HSQ.out)
    generalize ay (ay T sq/(d*(d+1))) sq/((d+2)*(d+3))=T2 at *
    generalize hT1:ay T sq/(d*(d+1))=T1 at *
    generalize ay T1 sq=G2 at *
    generalize ay T sq=G1 at *
    have Z4:=Lib.hid z4;have Z5:=Lib.hid z5;have Z6:=Lib.hid z6;have HT1:=Lib.hid hT1;have dd0:(0:Int)<=(d:Int):=by omega
    have dd1:(d:Int)<=70:=by omega
    have tt0:(0:Int)<(T:Int):=by omega
    have tt1:(0:Int)<=(T1:Int):=by omega
    have tt2:(T1:Int)<=4611686018427387904:=by omega
    have tt3:(0:Int)<=(T2:Int):=by omega
    have tt4:(T2:Int)<=4611686018427387904:=by omega
    have tt5:S+(T:Int)-(T1:Int)<=4611686018427387904:=by omega
    clear z4 z5 z6 hd he hp hT1;go_wp2_with fail;refine (C2.out _).mono ?_;rintro e w' ⟨rfl,rfl⟩;go_wp2_with fail;refine (C3.out _).mono ?_;rintro e w' ⟨rfl,rfl⟩;go_wp2;go_round
    case rel=>exact ⟨i+1,T2,d+4,S+T-T1,rfl,by go_num,rfl,Z4.out,Z5.out,Z6.out,z7,z8⟩
    case measure=>show ((T2:Int)).toNat<((T:Int)).toNat;rw [Int.toNat_natCast,Int.toNat_natCast];exact z3
  . obtain rfl:T=0:=by omega
    go_wp2;go_ret;exact ⟨cu (by rw [JG] at he;omega),rfl⟩
theorem LA (r:Nat) (T0:Nat) (tot:Int) (w:World) (hr:r<=2700000) (hT:T0=4611686018427387904) (htot:aN 34 T0 (di r) 0=tot) :
 Calls Tryz.prog 155 #[.int .i64 r,.bool true] w fun e w'=>e=.returned (.int .i64 tot)/\w=w':=by
 have hx:=D8 r hr;have hsq:=vg r hr;have hT0:T0<=2^62:=by omega
 have C1:=Lib.hid (fun a b w ha hb=>Qn a b w ha hb)
 have xv:(r:Int)*2620088056*512+(r:Int)*658911831/4194304=(xq r:Int):=by unfold xq;omega
 have sv:ay (xq r) (xq r)=di r:=rfl;have HX:=Lib.hid xv;have SV:=Lib.hid sv;have HT:=Lib.hid hT;have TOT:=Lib.hid htot;have HSQ:=Lib.hid hsq;have HT0:=Lib.hid hT0;have HX1:=Lib.hid hx;clear xv sv hT htot hsq hT0 hx;have r1:(r:Int)<=2700000:=by omega
 generalize di r=sq at *
 generalize xq r=x at *
 go_enter Tryz.func155,Tryz.ntmps155;go_wp2_with fail;rw [HX.out];refine (C1.out _ _ _ HX1.out HX1.out).mono ?_;rintro e w' ⟨rfl,rfl⟩;rw [SV.out];go_wp2
 go_loop [7,8,9] (fun t dd ss=>∃ (i T d:Nat) (S:Int),t=.int .i64 T/\dd=.int .i64 d/\ss=.int .i64 S/\d=0+1+4*i/\S+aN (34-2*i) T sq (0+4*i)=tot/\T*16^i<=2^62/\0<=S/\S+T<=4611686018427387904)
  (fun t _ _=>(intOf t).toNat)
 case atStart=>exact ⟨0,T0,0+1,0,by rw [HT.out];rfl,rfl,rfl,rfl,by have:=TOT.out;simp;exact this,by have:=HT0.out;omega,by omega,by have:=HT0.out;omega⟩
 case round =>
  obtain ⟨i,T,d,S,rfl,rfl,rfl,hd,he,hp,hS,hST⟩:=hrel
  by_cases hT:0<T
  . have Q:=Ka i 0 d T sq S tot (by omega) hd HSQ.out he hp hS hST hT
    obtain ⟨z1,z2,z3,z4,z5,z6,z7,z8⟩:=Q;have HTb:=Lib.hid (show T<=2^62 by omega)
    have hz:ay T sq/(d*(d+1))<=2^62:=by have:=HTb.out;omega
    have e1:(ay T sq:Int)/((d:Int)*((d:Int)+1))=((ay T sq/(d*(d+1)):Nat):Int):=by simp
    have b1:(ay T sq:Int)<=4611686018427387904:=by have:=iL T sq HSQ.out;have:=HTb.out;omega
    have b2:(d:Int)*((d:Int)+1)<=10000/\0<(d:Int)*((d:Int)+1):=by
     have:d*(d+1)<=70*71:=Nat.mul_le_mul z1 (by omega)
     have:0<d*(d+1):=Nat.mul_pos (by omega) (by omega)
     have e:(d:Int)*((d:Int)+1)=((d*(d+1):Nat):Int):=by simp
     rw [e];omega
    have e2:(ay (ay T sq/(d*(d+1))) sq:Int)/(((d:Int)+2)*((d:Int)+3))=((ay (ay T sq/(d*(d+1))) sq/((d+2)*(d+3)):Nat):Int):=by simp
    have b3:(ay (ay T sq/(d*(d+1))) sq:Int)<=4611686018427387904:=by have:=iL (ay T sq/(d*(d+1))) sq HSQ.out;have:=HTb.out;omega
    have b4:((d:Int)+2)*((d:Int)+3)<=10000/\0<((d:Int)+2)*((d:Int)+3):=by
     have:(d+2)*(d+3)<=72*73:=Nat.mul_le_mul (by omega) (by omega)
     have:0<(d+2)*(d+3):=Nat.mul_pos (by omega) (by omega)
     have e:((d:Int)+2)*((d:Int)+3)=(((d+2)*(d+3):Nat):Int):=by simp
     rw [e];omega
    obtain ⟨b2,b2'⟩:=b2;obtain ⟨b4,b4'⟩:=b4;have C2:=Lib.hid (fun w=>C1.out T sq w HTb.out HSQ.out)
    have C3:=Lib.hid (fun w=>C1.out (ay T sq/(d*(d+1))) sq w hz HSQ.out)
    generalize ay (ay T sq/(d*(d+1))) sq/((d+2)*(d+3))=T2 at *
    generalize hT1:ay T sq/(d*(d+1))=T1 at *
    generalize ay T1 sq=G2 at *
    generalize ay T sq=G1 at *
    have Z4:=Lib.hid z4;have Z5:=Lib.hid z5;have Z6:=Lib.hid z6;have HT1:=Lib.hid hT1;have dd0:(0:Int)<=(d:Int):=by omega
    have dd1:(d:Int)<=70:=by omega
    have tt0:(0:Int)<(T:Int):=by omega
    have tt1:(0:Int)<=(T1:Int):=by omega
    have tt2:(T1:Int)<=4611686018427387904:=by omega
    have tt3:(0:Int)<=(T2:Int):=by omega
    have tt4:(T2:Int)<=4611686018427387904:=by omega
    have tt5:S+(T:Int)-(T1:Int)<=4611686018427387904:=by omega
    clear z4 z5 z6 hd he hp hT1;go_wp2_with fail;refine (C2.out _).mono ?_;rintro e w' ⟨rfl,rfl⟩;go_wp2_with fail;refine (C3.out _).mono ?_;rintro e w' ⟨rfl,rfl⟩;go_wp2;go_round
    case rel=>exact ⟨i+1,T2,d+4,S+T-T1,rfl,by go_num,rfl,Z4.out,Z5.out,Z6.out,z7,z8⟩
    case measure=>show ((T2:Int)).toNat<((T:Int)).toNat;rw [Int.toNat_natCast,Int.toNat_natCast];exact z3
  . obtain rfl:T=0:=by omega
    go_wp2;go_ret;exact ⟨cu (by rw [JG] at he;omega),rfl⟩
theorem Er (r:Nat) (w:World) (hr:r<=2700000) :
 Calls Tryz.prog 155 #[.int .i64 r,.bool false] w fun e w'=>e=.returned (.int .i64 (ji r))/\w=w' :=
 L8 r (xq r) _ w hr rfl rfl
theorem Et (r:Nat) (w:World) (hr:r<=2700000) :
 Calls Tryz.prog 155 #[.int .i64 r,.bool true] w fun e w'=>e=.returned (.int .i64 (jf r))/\w=w' :=
 LA r 4611686018427387904 _ w hr rfl rfl
end Go.Proofs.YtoniodlcogpdbaaGreat
namespace Go.Proofs.YtoniodlcogpdbaaGreat
open Go.RowKit Alm
def qVm (m:Int):Int :=
 let r:=m%5400000
 let v:=if 2700000<r then (if m/5400000%2=1 then ji (5400000-r).toNat else jf (5400000-r).toNat) else (if m/5400000%2=1 then jf r.toNat else ji r.toNat)
 if 2<=m/5400000 then -v else v
theorem q_bd (r:Nat) (h:r<=2700000):(0<=ji r/\ji r<=4611686018427387904)/\(0<=jf r/\jf r<=4611686018427387904):=by
 have key:∀ m T s j:Nat,s<=2^62->0<=aN m T s j/\aN m T s j<=T:=by
  intro m
  induction m with
  | zero=>intro T s j hs;simp [aN]
  | succ m ih =>
   intro T s j hs;rw [nN];have i:=ih (ay T s/((j+1)*(j+2))) s (j+2) hs;have h1:=iL T s hs;have h2:=Nat.div_le_self (ay T s) ((j+1)*(j+2));generalize ay T s/((j+1)*(j+2))=T1 at *
   omega
 have a:=key 34 (xq r) (di r) 1 (vg r h);have b:=key 34 (2^62) (di r) 0 (vg r h);have c:=D8 r h;unfold ji jf;omega
theorem kw (n:Int):(0<=n.tmod 21600000->n.tmod 21600000=au n)/\(n.tmod 21600000<0->n.tmod 21600000=au n-21600000)/\0<=au n/\au n<21600000:=by
 unfold au;refine ⟨fun h=>?_,fun h=>?_,by omega,by omega⟩
 . rw [Int.tmod_eq_emod] at *;split at h<;>split<;>omega
 . rw [Int.tmod_eq_emod] at *;split at h<;>split<;>omega
theorem JD (n m r q:Int) (neg:Bool) (w:World) (ht:n.tmod 21600000=if neg then m-21600000 else m) (h0:0<=m) (h1:m<21600000) (hq:m/5400000=q) (hr:m%5400000=r) :
 Calls Tryz.prog 125 #[.int .i64 n] w fun e w'=>e=.returned (.int .i64 (qVm m))/\w=w':=by
 have hr0:0<=r/\r<5400000:=by omega
 have hq0:q=0∨q=1∨q=2∨q=3:=by omega
 have e:qVm m=(if 2<=q then -(if 2700000<r then (if q%2=1 then ji (5400000-r).toNat else jf (5400000-r).toNat) else (if q%2=1 then jf r.toNat else ji r.toNat)) else (if 2700000<r then (if q%2=1 then ji (5400000-r).toNat else jf (5400000-r).toNat) else (if q%2=1 then jf r.toNat else ji r.toNat))):=by
  unfold qVm;simp only [hq,hr]
 rw [e];clear e;obtain ⟨r0,r1⟩:=hr0
 by_cases hlt:2700000<r
 . have CS:=Lib.hid (fun w=>Er (5400000-r).toNat w (by omega))
   have CC:=Lib.hid (fun w=>Et (5400000-r).toNat w (by omega))
   have b:=q_bd (5400000-r).toNat (by omega)
   have er:(((5400000-r).toNat:Nat):Int)=5400000-r:=by omega
   rw [er] at CS CC;simp only [hlt,if_true];clear er;obtain ⟨⟨b1,b2⟩,⟨b3,b4⟩⟩:=b;generalize ji (5400000-r).toNat=S at *
   generalize jf (5400000-r).toNat=C at *
   rcases hq0 with rfl|rfl|rfl|rfl<;>cases neg
   all_goals
    simp only [if_true,if_false,Bool.false_eq_true] at ht;go_enter Tryz.func125,Tryz.ntmps125;go_wp2_with fail
    first|(with_reducible refine (CS.out _).mono ?_)|(with_reducible refine (CC.out _).mono ?_)
    rintro e w' ⟨rfl,rfl⟩;go_wp2;go_ret;exact ⟨cu (by simp),rfl⟩
 . have CS:=Lib.hid (fun w=>Er r.toNat w (by omega))
   have CC:=Lib.hid (fun w=>Et r.toNat w (by omega))
   have b:=q_bd r.toNat (by omega)
   have er:((r.toNat:Nat):Int)=r:=by omega
   rw [er] at CS CC;simp only [hlt,if_false];clear er;obtain ⟨⟨b1,b2⟩,⟨b3,b4⟩⟩:=b;generalize ji r.toNat=S at *
   generalize jf r.toNat=C at *
   rcases hq0 with rfl|rfl|rfl|rfl<;>cases neg
   all_goals
    simp only [if_true,if_false,Bool.false_eq_true] at ht;go_enter Tryz.func125,Tryz.ntmps125;go_wp2_with fail
    first|(with_reducible refine (CS.out _).mono ?_)|(with_reducible refine (CC.out _).mono ?_)
    rintro e w' ⟨rfl,rfl⟩;go_wp2;go_ret;exact ⟨cu (by simp),rfl⟩
theorem JL (n:Int) (w:World) :
 Calls Tryz.prog 125 #[.int .i64 n] w fun e w'=>e=.returned (.int .i64 (qVm (au n)))/\w=w':=by
 obtain ⟨h1,h2,h3,h4⟩:=kw n
 by_cases h:0<=n.tmod 21600000
 . exact JD n (au n) _ _ false w (by rw [h1 h];rfl) h3 h4 rfl rfl
 . exact JD n (au n) _ _ true w (by rw [h2 (by omega)];rfl) h3 h4 rfl rfl
end Go.Proofs.YtoniodlcogpdbaaGreat
namespace Go.Proofs.YtoniodlcogpdbaaGreat
open Go.RowKit Alm
theorem yX (n m:Int) (neg:Bool) (w:World) (ht:n.tmod 21600000=if neg then m-21600000 else m) (h0:0<=m) (h1:m<21600000) (hm:m%1800000≠0) :
 Calls Tryz.prog 124 #[.int .i64 n] w fun e w'=>e=.returned (.tuple #[.int .i64 0,.bool false])/\Below w.heap.size w w':=by
 have hb:(m%1800000==0)=false:=by simpa using hm
 have hb2:(m%1800000 != 0)=true:=by simpa using hm
 cases neg
 all_goals
  simp only [if_true,if_false,Bool.false_eq_true] at ht;go_enter Tryz.func124,Tryz.ntmps124;go_wp2;go_ret2;exact ⟨rfl,by go_grown⟩
theorem Vi (n:Int) (w:World) (ht:n.tmod 21600000=0∨n.tmod 21600000=(-21600000)) :
 Calls Tryz.prog 124 #[.int .i64 n] w fun e w'=>e=.returned (.tuple #[.int .i64 0,.bool true])/\Below w.heap.size w w':=by
 rcases ht with ht|ht
 all_goals
  go_enter Tryz.func124,Tryz.ntmps124;go_wp2;go_ret2;exact ⟨rfl,by go_grown⟩
theorem UF (n:Int) (w:World) (ht:n.tmod 21600000=1800000∨n.tmod 21600000=(-19800000)) :
 Calls Tryz.prog 124 #[.int .i64 n] w fun e w'=>e=.returned (.tuple #[.int .i64 536870912,.bool true])/\Below w.heap.size w w':=by
 rcases ht with ht|ht
 all_goals
  go_enter Tryz.func124,Tryz.ntmps124;go_wp2;go_ret2;exact ⟨rfl,by go_grown⟩
theorem Uq (n:Int) (w:World) (ht:n.tmod 21600000=3600000∨n.tmod 21600000=(-18000000)) :
 Calls Tryz.prog 124 #[.int .i64 n] w fun e w'=>e=.returned (.tuple #[.int .i64 0,.bool false])/\Below w.heap.size w w':=by
 rcases ht with ht|ht
 all_goals
  go_enter Tryz.func124,Tryz.ntmps124;go_wp2;go_ret2;exact ⟨rfl,by go_grown⟩
theorem Vr (n:Int) (w:World) (ht:n.tmod 21600000=5400000∨n.tmod 21600000=(-16200000)) :
 Calls Tryz.prog 124 #[.int .i64 n] w fun e w'=>e=.returned (.tuple #[.int .i64 1073741824,.bool true])/\Below w.heap.size w w':=by
 rcases ht with ht|ht
 all_goals
  go_enter Tryz.func124,Tryz.ntmps124;go_wp2;go_ret2;exact ⟨rfl,by go_grown⟩
theorem VB (n:Int) (w:World) (ht:n.tmod 21600000=7200000∨n.tmod 21600000=(-14400000)) :
 Calls Tryz.prog 124 #[.int .i64 n] w fun e w'=>e=.returned (.tuple #[.int .i64 0,.bool false])/\Below w.heap.size w w':=by
 rcases ht with ht|ht
 all_goals
  go_enter Tryz.func124,Tryz.ntmps124;go_wp2;go_ret2;exact ⟨rfl,by go_grown⟩
theorem VH (n:Int) (w:World) (ht:n.tmod 21600000=9000000∨n.tmod 21600000=(-12600000)) :
 Calls Tryz.prog 124 #[.int .i64 n] w fun e w'=>e=.returned (.tuple #[.int .i64 536870912,.bool true])/\Below w.heap.size w w':=by
 rcases ht with ht|ht
 all_goals
  go_enter Tryz.func124,Tryz.ntmps124;go_wp2;go_ret2;exact ⟨rfl,by go_grown⟩
theorem Uv (n:Int) (w:World) (ht:n.tmod 21600000=10800000∨n.tmod 21600000=(-10800000)) :
 Calls Tryz.prog 124 #[.int .i64 n] w fun e w'=>e=.returned (.tuple #[.int .i64 0,.bool true])/\Below w.heap.size w w':=by
 rcases ht with ht|ht
 all_goals
  go_enter Tryz.func124,Tryz.ntmps124;go_wp2;go_ret2;exact ⟨rfl,by go_grown⟩
theorem VP (n:Int) (w:World) (ht:n.tmod 21600000=12600000∨n.tmod 21600000=(-9000000)) :
 Calls Tryz.prog 124 #[.int .i64 n] w fun e w'=>e=.returned (.tuple #[.int .i64 (-536870912),.bool true])/\Below w.heap.size w w':=by
 rcases ht with ht|ht
 all_goals
  go_enter Tryz.func124,Tryz.ntmps124;go_wp2;go_ret2;exact ⟨rfl,by go_grown⟩
theorem Sw (n:Int) (w:World) (ht:n.tmod 21600000=14400000∨n.tmod 21600000=(-7200000)) :
 Calls Tryz.prog 124 #[.int .i64 n] w fun e w'=>e=.returned (.tuple #[.int .i64 0,.bool false])/\Below w.heap.size w w':=by
 rcases ht with ht|ht
 all_goals
  go_enter Tryz.func124,Tryz.ntmps124;go_wp2;go_ret2;exact ⟨rfl,by go_grown⟩
theorem TZ (n:Int) (w:World) (ht:n.tmod 21600000=16200000∨n.tmod 21600000=(-5400000)) :
 Calls Tryz.prog 124 #[.int .i64 n] w fun e w'=>e=.returned (.tuple #[.int .i64 (-1073741824),.bool true])/\Below w.heap.size w w':=by
 rcases ht with ht|ht
 all_goals
  go_enter Tryz.func124,Tryz.ntmps124;go_wp2;go_ret2;exact ⟨rfl,by go_grown⟩
theorem Pn (n:Int) (w:World) (ht:n.tmod 21600000=18000000∨n.tmod 21600000=(-3600000)) :
 Calls Tryz.prog 124 #[.int .i64 n] w fun e w'=>e=.returned (.tuple #[.int .i64 0,.bool false])/\Below w.heap.size w w':=by
 rcases ht with ht|ht
 all_goals
  go_enter Tryz.func124,Tryz.ntmps124;go_wp2;go_ret2;exact ⟨rfl,by go_grown⟩
theorem NS (n:Int) (w:World) (ht:n.tmod 21600000=19800000∨n.tmod 21600000=(-1800000)) :
 Calls Tryz.prog 124 #[.int .i64 n] w fun e w'=>e=.returned (.tuple #[.int .i64 (-536870912),.bool true])/\Below w.heap.size w w':=by
 rcases ht with ht|ht
 all_goals
  go_enter Tryz.func124,Tryz.ntmps124;go_wp2;go_ret2;exact ⟨rfl,by go_grown⟩
theorem fU (n c:Int) (h:au n=c):n.tmod 21600000=c∨n.tmod 21600000=c-21600000:=by
 obtain ⟨h1,h2,h3,h4⟩:=kw n;subst h
 by_cases h:0<=n.tmod 21600000
 . exact .inl (h1 h)
 . exact .inr (h2 (by omega))
theorem dO (n c:Int) (h:au n=c):aI n=(if 5400000<(if 10800000<c then c-10800000 else c) then 10800000-(if 10800000<c then c-10800000 else c) else (if 10800000<c then c-10800000 else c))/\dm n=decide (10800000<c):=by
 subst h;exact ⟨rfl,rfl⟩
theorem iU (n c:Int) (h:au n=c):bLo n=if decide (10800000<c) then -(cz (if 5400000<(if 10800000<c then c-10800000 else c) then 10800000-(if 10800000<c then c-10800000 else c) else (if 10800000<c then c-10800000 else c))+if dK (if 5400000<(if 10800000<c then c-10800000 else c) then 10800000-(if 10800000<c then c-10800000 else c) else (if 10800000<c then c-10800000 else c)) then 0 else 1) else cz (if 5400000<(if 10800000<c then c-10800000 else c) then 10800000-(if 10800000<c then c-10800000 else c) else (if 10800000<c then c-10800000 else c)):=by
 subst h;rfl
def exR (n:Int):Value:=if dK (aI n) then .tuple #[.int .i64 (bLo n),.bool true] else .tuple #[.int .i64 0,.bool false]
theorem VK (n:Int) (w:World) :
 Calls Tryz.prog 124 #[.int .i64 n] w fun e w'=>e=.returned (exR n)/\Below w.heap.size w w':=by
 obtain ⟨h1,h2,h3,h4⟩:=kw n
 by_cases hm:au n%1800000=0
 . have hk:au n=0∨au n=1800000∨au n=3600000∨au n=5400000∨au n=7200000∨au n=9000000∨au n=10800000∨au n=12600000∨au n=14400000∨au n=16200000∨au n=18000000∨au n=19800000:=by omega
   unfold exR;rcases hk with h|h|h|h|h|h|h|h|h|h|h|h
   . rw [(dO n _ h).1,iU n _ h];exact Vi n w (fU n _ h)
   . rw [(dO n _ h).1,iU n _ h];exact UF n w (fU n _ h)
   . rw [(dO n _ h).1,iU n _ h];exact Uq n w (fU n _ h)
   . rw [(dO n _ h).1,iU n _ h];exact Vr n w (fU n _ h)
   . rw [(dO n _ h).1,iU n _ h];exact VB n w (fU n _ h)
   . rw [(dO n _ h).1,iU n _ h];exact VH n w (fU n _ h)
   . rw [(dO n _ h).1,iU n _ h];exact Uv n w (fU n _ h)
   . rw [(dO n _ h).1,iU n _ h];exact VP n w (fU n _ h)
   . rw [(dO n _ h).1,iU n _ h];exact Sw n w (fU n _ h)
   . rw [(dO n _ h).1,iU n _ h];exact TZ n w (fU n _ h)
   . rw [(dO n _ h).1,iU n _ h];exact Pn n w (fU n _ h)
   . rw [(dO n _ h).1,iU n _ h];exact NS n w (fU n _ h)
 . have e:exR n=.tuple #[.int .i64 0,.bool false]:=by
    have hf:dK (aI n)=false:=by
     rw [(dO n _ rfl).1];unfold dK;generalize au n=c at *
     split<;>split<;>simp<;>omega
    unfold exR;rw [hf];rfl
   rw [e]
   by_cases h:0<=n.tmod 21600000
   . exact yX n (au n) false w (by rw [h1 h];rfl) h3 h4 hm
   . exact yX n (au n) true w (by rw [h2 (by omega)];rfl) h3 h4 hm
end Go.Proofs.YtoniodlcogpdbaaGreat
namespace Go.Proofs.YtoniodlcogpdbaaGreat
open Go.RowKit Alm
theorem Bp (r:Int) (h0:0<r) (h1:r<=2700000) (h2:r≠1800000):cz r*4294967296+500<=ji r.toNat/\ji r.toNat+500<=(cz r+1)*4294967296:=by
 have e:cz r=((jU r.toNat/2^226:Nat):Int):=by
  unfold cz;rw [if_neg (by omega),if_neg h2,if_neg (by omega)]
  unfold lG;rw [if_pos (by omega)]
 rw [e];exact VY r.toNat (by omega) (by omega) (by omega)
theorem Ce (r:Int) (h0:0<r) (h1:r<=2700000):cz (5400000-r)*4294967296+500<=jf r.toNat/\jf r.toNat+500<=(cz (5400000-r)+1)*4294967296:=by
 have e:cz (5400000-r)=((jd r.toNat%W/2^226:Nat):Int):=by
  unfold cz;rw [if_neg (by omega),if_neg (by omega),if_neg (by omega)]
  unfold lG
  by_cases h:r=2700000
  . subst h;rw [if_pos (by omega)]
    have a:=Cn 2700000 (by omega) 759250124 Il
    have b:=AX 2700000 (by omega) 759250124 Bc
    show ((jU 2700000/2^226:Nat):Int)=((jd 2700000%W/2^226:Nat):Int);rw [a,b]
  . rw [if_neg (by omega),show 5400000-(5400000-r).toNat=r.toNat by omega]
 rw [e];exact RS r.toNat (by omega) (by omega)
theorem OO (n:Int) (hE:dK (aI n)=false):bLo n*4294967296+500<=qVm (au n)/\qVm (au n)+500<=(bLo n+1)*4294967296/\bHi n=bLo n+1:=by
 have hf:=(dO n _ rfl).1;have hs:=(dO n _ rfl).2;have hw:=(kw n).2.2;have hne:aI n≠0/\aI n≠1800000/\aI n≠5400000:=by unfold dK at hE;simp at hE;exact ⟨hE.1.1,hE.1.2,hE.2⟩
 have e1:bLo n=if dm n then -(cz (aI n)+1) else cz (aI n):=by unfold bLo;rw [hE];rfl
 have e2:bHi n=if dm n then -(cz (aI n)) else cz (aI n)+1:=by unfold bHi;rw [hE];rfl
 rw [e1,e2,hs];clear e1 e2 hs hE;generalize aI n=f at *
 generalize au n=m at *
 have hq:m/5400000=0∨m/5400000=1∨m/5400000=2∨m/5400000=3:=by omega
 have hm:m=m/5400000*5400000+m%5400000:=by omega
 have hr:0<=m%5400000/\m%5400000<5400000:=by omega
 have hv:qVm m=(let r:=m%5400000
  let v:=if 2700000<r then (if m/5400000%2=1 then ji (5400000-r).toNat else jf (5400000-r).toNat) else (if m/5400000%2=1 then jf r.toNat else ji r.toNat)
  if 2<=m/5400000 then -v else v):=rfl
 rw [hv];clear hv;generalize m%5400000=r at *
 simp only [];rcases hq with h|h|h|h
 . rw [h] at hm ⊢
   simp only [show ¬ (10800000<m) by omega,if_false,decide_false,Bool.false_eq_true,show ¬ (2<=(0:Int)) by omega,show ¬ ((0:Int)%2=1) by omega] at hf ⊢
   have hfr:f=r:=by split at hf<;>omega
   subst hfr
   by_cases hlt:2700000<f
   . simp only [hlt,if_true];have:=Ce (5400000-f) (by omega) (by omega)
     rw [show 5400000-(5400000-f)=f by omega] at this
     first|omega|exact ⟨by omega,by omega,trivial⟩
   . simp only [hlt,if_false];have:=Bp f (by omega) (by omega) hne.2.1
     first|omega|exact ⟨by omega,by omega,trivial⟩
 . rw [h] at hm ⊢
   simp only [show ¬ (10800000<m) by omega,if_false,decide_false,Bool.false_eq_true,show ¬ (2<=(1:Int)) by omega,show ((1:Int)%2=1) by omega,if_true] at hf ⊢
   have hfr:f=5400000-r:=by split at hf<;>omega
   subst hfr
   by_cases hlt:2700000<r
   . simp only [hlt,if_true];have:=Bp (5400000-r) (by omega) (by omega) hne.2.1
     first|omega|exact ⟨by omega,by omega,trivial⟩
   . simp only [hlt,if_false];have:=Ce r (by omega) (by omega)
     first|omega|exact ⟨by omega,by omega,trivial⟩
 . rw [h] at hm ⊢
   by_cases hr0:r=0
   . exfalso;simp only [show ¬ (10800000<m) by omega,if_false] at hf
     split at hf<;>omega
   simp only [show (10800000<m) by omega,if_true,decide_true,show (2<=(2:Int)) by omega,show ¬ ((2:Int)%2=1) by omega,if_false] at hf ⊢
   have hfr:f=r:=by split at hf<;>omega
   subst hfr
   by_cases hlt:2700000<f
   . simp only [hlt,if_true];have:=Ce (5400000-f) (by omega) (by omega)
     rw [show 5400000-(5400000-f)=f by omega] at this
     first|omega|exact ⟨by omega,by omega,trivial⟩
   . simp only [hlt,if_false];have:=Bp f (by omega) (by omega) hne.2.1
     first|omega|exact ⟨by omega,by omega,trivial⟩
 . rw [h] at hm ⊢
   simp only [show (10800000<m) by omega,if_true,decide_true,show (2<=(3:Int)) by omega,show ((3:Int)%2=1) by omega] at hf ⊢
   have hfr:f=5400000-r:=by split at hf<;>omega
   subst hfr
   by_cases hlt:2700000<r
   . simp only [hlt,if_true];have:=Bp (5400000-r) (by omega) (by omega) hne.2.1
     first|omega|exact ⟨by omega,by omega,trivial⟩
   . simp only [hlt,if_false];have:=Ce r (by omega) (by omega)
     first|omega|exact ⟨by omega,by omega,trivial⟩
theorem WJ (n:Int) (hE:dK (aI n)=true):bHi n=bLo n:=by
 unfold bHi bLo;rw [hE];simp
theorem EA (n:Int) (w:World) :
 Calls Tryz.prog 105 #[.int .i64 n] w fun e w'=>e=.returned (.tuple #[.int .i64 (bLo n),.bool (dK (aI n))])/\Below w.heap.size w w':=by
 have C1:=fun w=>VK n w
 have C2:=Lib.hid (fun w=>JL n w)
 unfold exR at C1;cases hE:dK (aI n)
 . obtain ⟨h1,h2,h3⟩:=OO n hE;rw [hE] at C1;simp only [Bool.false_eq_true,if_false] at C1;replace C1:=Lib.hid C1;have bb:=gP n;generalize qVm (au n)=V at *
   have d1:(V-256)/4294967296=bLo n:=by omega
   have d2:(V+256)/4294967296=bLo n:=by omega
   have d3:V/4294967296=bLo n:=by omega
   have v1:-4611686018427387904-4294967296<=V:=by omega
   have v2:V<=4611686018427387904+4294967296:=by omega
   clear h1 h2 h3 hE bb;generalize bLo n=L at *
   have K0:=Lib.hid (az w);go_enter Tryz.func105,Tryz.ntmps105;go_wp2_with fail;refine (C1.out _).mono ?_;rintro e w1 ⟨rfl,hb1⟩;have K1:=Lib.hid (K0.out.below hb1);clear hb1 K0;go_wp2_with fail;refine (C2.out _).mono ?_;rintro e w' ⟨rfl,rfl⟩;go_wp2;go_ret2;exact ⟨rfl,K1.out.1⟩
 . rw [hE] at C1;simp only [if_true] at C1;replace C1:=Lib.hid C1;clear hE;generalize bLo n=L at *
   have K0:=Lib.hid (az w);go_enter Tryz.func105,Tryz.ntmps105;go_wp2_with fail;refine (C1.out _).mono ?_;rintro e w1 ⟨rfl,hb1⟩;have K1:=Lib.hid (K0.out.below hb1);clear hb1 K0;go_wp2;go_ret2;exact ⟨rfl,K1.out.1⟩
end Go.Proofs.YtoniodlcogpdbaaGreat
namespace Go.Proofs.YtoniodlcogpdbaaGreat
open Go.RowKit Alm
theorem Ry (n:Int) (w:World) :
 Calls Tryz.prog 79 #[.int .i64 n] w fun e w'=>e=.returned (.tuple #[.int .i64 (bLo n),.int .i64 (bHi n)])/\Below w.heap.size w w':=by
 have C1:=fun w=>EA n w
 have bb:=gP n;cases hE:dK (aI n)
 . have e:bHi n=bLo n+1:=(OO n hE).2.2;rw [hE] at C1;rw [e];replace C1:=Lib.hid C1;clear e hE;generalize bLo n=L at *
   go_enter Tryz.func79,Tryz.ntmps79;go_wp2_with fail;refine (C1.out _).mono ?_;rintro e w1 ⟨rfl,hb1⟩;have H1:=Lib.hid hb1;clear hb1;go_wp2;go_ret2;exact ⟨rfl,H1.out⟩
 . rw [hE] at C1;rw [WJ n hE];replace C1:=Lib.hid C1;clear hE;generalize bLo n=L at *
   go_enter Tryz.func79,Tryz.ntmps79;go_wp2_with fail;refine (C1.out _).mono ?_;rintro e w1 ⟨rfl,hb1⟩;have H1:=Lib.hid hb1;clear hb1;go_wp2;go_ret2;exact ⟨rfl,H1.out⟩
theorem WU (lo hi n:Int) (w:World) (h:O0 lo hi) (hn:-21600000<=n/\n<=21600000) :
 Calls Tryz.prog 80 #[.agg #[.int .i64 lo,.int .i64 hi],.int .i64 n] w fun e w'=>e=.returned (.bool (dD lo hi n))/\Below w.heap.size w w':=by
 obtain ⟨a1,a2,a3⟩:=h;obtain ⟨n1,n2⟩:=hn;obtain ⟨t1,t2,t3,t4⟩:=kw (n-lo);have hm:dD lo hi n=decide (au (n-lo)<=hi-lo):=rfl;rw [hm];clear hm;have d1:-1200000000000<=n-lo:=by omega
 have d2:n-lo<=1200000000000:=by omega
 generalize au (n-lo)=m at *
 by_cases hs:0<=(n-lo).tmod 21600000
 . have e:=t1 hs;clear t1 t2 hs;go_enter Tryz.func80,Tryz.ntmps80;go_wp2;go_ret;exact ⟨kz (by go_light;rw [Bool.eq_iff_iff];simp<;>omega),by go_grown⟩
 . have e:=t2 (by omega)
   clear t1 t2 hs;go_enter Tryz.func80,Tryz.ntmps80;go_wp2;go_ret;exact ⟨kz (by go_light;rw [Bool.eq_iff_iff];simp<;>omega),by go_grown⟩
theorem Mh (lo hi:Int):dD lo hi (-5400000)=dD lo hi 16200000:=by
 unfold dD au;rw [show (-5400000-lo)%21600000=(16200000-lo)%21600000 by omega]
theorem Js (lo hi:Int) (w:World) (h:O0 lo hi) :
 Calls Tryz.prog 51 #[.agg #[.int .i64 lo,.int .i64 hi]] w fun e w'=>e=.returned (.agg #[.int .i64 (bC lo hi),.int .i64 (bI lo hi)])/\Below w.heap.size w w':=by
 have C1:=Lib.hid (fun w=>Ry lo w)
 have C2:=Lib.hid (fun w=>Ry hi w)
 have C3:=Lib.hid (fun w=>WU lo hi 5400000 w h (by omega))
 have C4:=fun w=>WU lo hi (-5400000) w h (by omega)
 rw [Mh] at C4;replace C4:=Lib.hid C4;have e1:bC lo hi=if dD lo hi 16200000 then -1073741824 else min (bLo lo) (bLo hi):=rfl
 have e2:bI lo hi=if dD lo hi 5400000 then 1073741824 else max (bHi lo) (bHi hi):=rfl
 rw [e1,e2];clear e1 e2 h;generalize hmn:min (bLo lo) (bLo hi)=mn at *
 generalize hmx:max (bHi lo) (bHi hi)=mx at *
 have HMN:=Lib.hid hmn;have HMX:=Lib.hid hmx;clear hmn hmx;generalize bLo lo=b1 at *
 generalize bHi lo=b2 at *
 generalize bLo hi=b3 at *
 generalize bHi hi=b4 at *
 generalize dD lo hi 5400000=m1 at *
 generalize dD lo hi 16200000=m2 at *
 have K0:=Lib.hid (((az w).new w.heap.size rfl 26 #[.int .i64 lo,.int .i64 hi]).new (w.heap.size+1) (by simp) 58 #[.int .i64 0,.int .i64 0])
 go_enter Tryz.func51,Tryz.ntmps51;go_wp2_with fail;refine (C1.out _).mono ?_;rintro e w1 ⟨rfl,hb1⟩;have K1:=Lib.hid (K0.out.below hb1);clear hb1 K0;have p0:=K1.out.c (g:=w.heap.size) (t:=26) (cs:=#[.int .i64 lo,.int .i64 hi]) (by simp) (i:=0) rfl
 have p1:=K1.out.c (g:=w.heap.size) (t:=26) (cs:=#[.int .i64 lo,.int .i64 hi]) (by simp) (i:=1) rfl
 go_wp2_with fail;refine (C2.out _).mono ?_;rintro e w2 ⟨rfl,hb1⟩;have K2:=Lib.hid (K1.out.below hb1);clear hb1 K1 p0 p1;have p0:=K2.out.c (g:=w.heap.size) (t:=26) (cs:=#[.int .i64 lo,.int .i64 hi]) (by simp) (i:=0) rfl
 have p1:=K2.out.c (g:=w.heap.size) (t:=26) (cs:=#[.int .i64 lo,.int .i64 hi]) (by simp) (i:=1) rfl
 clear p0 p1;have p0:∀ X:Obj,(w2.alloc X).cell? ⟨w.heap.size,0,none⟩=some (.int .i64 lo):=fun X=>(K2.out.alloc X).c (g:=w.heap.size) (t:=26) (cs:=#[.int .i64 lo,.int .i64 hi]) (by simp) (i:=0) rfl
 have p1:∀ X:Obj,(w2.alloc X).cell? ⟨w.heap.size,1,none⟩=some (.int .i64 hi):=fun X=>(K2.out.alloc X).c (g:=w.heap.size) (t:=26) (cs:=#[.int .i64 lo,.int .i64 hi]) (by simp) (i:=1) rfl
 go_wp2_with fail
 all_goals
  refine (C3.out _).mono ?_;rintro e w3 ⟨rfl,hb1⟩;have K3:=Lib.hid ((K2.out.new w2.heap.size rfl 58 _).below hb1);clear hb1 p0 p1;have o0:=(K3.out.2 _ (List.mem_cons_self ..)).cell 0;have o1:=(K3.out.2 _ (List.mem_cons_self ..)).cell 1;have f0:=(K3.out.2 _ (List.mem_cons_self ..)).frozen 0;have f1:=(K3.out.2 _ (List.mem_cons_self ..)).frozen 1;simp at o0 o1 f0 f1;have HN:Hid (w.heap.size<w2.heap.size/\w.heap.size+1<w2.heap.size):=⟨K2.out.lt (g:=w.heap.size) (t:=26) (cs:=#[.int .i64 lo,.int .i64 hi]) (by simp),K2.out.lt (g:=w.heap.size+1) (t:=58) (cs:=#[.int .i64 0,.int .i64 0]) (by simp)⟩
  have a0:=K3.out.c (g:=w.heap.size) (t:=26) (cs:=#[.int .i64 lo,.int .i64 hi]) (by simp) (i:=0) rfl
  have a1:=K3.out.c (g:=w.heap.size) (t:=26) (cs:=#[.int .i64 lo,.int .i64 hi]) (by simp) (i:=1) rfl
  have s0:∀ u:Value,(w3.setCell ⟨w2.heap.size,1,none⟩ u).cell? ⟨w.heap.size,0,none⟩=some (.int .i64 lo):=fun u=>(cell_far _ _ _ _ _ _ (by have:=HN.out.1;go_light;omega)).trans a0
  have s1:∀ u:Value,(w3.setCell ⟨w2.heap.size,1,none⟩ u).cell? ⟨w.heap.size,1,none⟩=some (.int .i64 hi):=fun u=>(cell_far _ _ _ _ _ _ (by have:=HN.out.1;go_light;omega)).trans a1
  cases m1
 all_goals
  go_wp2_with fail;refine (C4.out _).mono ?_;rintro e w4 ⟨rfl,hb1⟩
  first
   | have K4:=Lib.hid (K3.out.below hb1)
   | have K4:=Lib.hid ((K3.out.set (by have:=HN.out;go_light;omega) (by have:=HN.out;go_light;simp;omega) 1 _).below hb1)
  clear hb1 o0 o1 f0 f1 a0 a1 s0 s1 K3 K2;have o0:=(K4.out.2 _ (List.mem_cons_self ..)).cell 0;have o1:=(K4.out.2 _ (List.mem_cons_self ..)).cell 1;have f0:=(K4.out.2 _ (List.mem_cons_self ..)).frozen 0;have f1:=(K4.out.2 _ (List.mem_cons_self ..)).frozen 1;simp at o0 o1 f0 f1;have q0:=K4.out.c (g:=w.heap.size+1) (t:=58) (cs:=#[.int .i64 0,.int .i64 0]) (by simp) (i:=0) rfl
  have q1:=K4.out.c (g:=w.heap.size+1) (t:=58) (cs:=#[.int .i64 0,.int .i64 0]) (by simp) (i:=1) rfl
  have g0:=K4.out.f (g:=w.heap.size+1) (t:=58) (cs:=#[.int .i64 0,.int .i64 0]) (by simp) 0
  have g1:=K4.out.f (g:=w.heap.size+1) (t:=58) (cs:=#[.int .i64 0,.int .i64 0]) (by simp) 1
  have s0:∀ u:Value,(w4.setCell ⟨w2.heap.size,0,none⟩ u).cell? ⟨w.heap.size+1,0,none⟩=some (.int .i64 0):=fun u=>(cell_far _ _ _ _ _ _ (by have:=HN.out.2;go_light;omega)).trans q0
  have s1:∀ u:Value,(w4.setCell ⟨w2.heap.size,0,none⟩ u).cell? ⟨w.heap.size+1,1,none⟩=some (.int .i64 0):=fun u=>(cell_far _ _ _ _ _ _ (by have:=HN.out.2;go_light;omega)).trans q1
  cases m2
 all_goals
  go_wp2;refine bodyPost_ret (by simp [results,Tryz.results51,go_sem,q0,q1,s0,s1];try rfl) rfl ?_
  refine ⟨Wy ?_ ?_,by have:=K4.out.1;have:=HN.out;go_light;go_grown⟩
  . have:=HMN.out;go_light;first|rfl|(simp;done)|(simp;omega)|omega
  . have:=HMX.out;go_light;first|rfl|(simp;done)|(simp;omega)|omega
def Rt (lo hi:Int):Int:=bC (lo+5400000) (hi+5400000)
def Ov (lo hi:Int):Int:=bI (lo+5400000) (hi+5400000)
theorem YU (lo hi:Int) (w:World) (h:aQ lo hi=true) :
 Calls Tryz.prog 20 #[.agg #[.int .i64 lo,.int .i64 hi]] w fun e w'=>e=.returned (.agg #[.int .i64 (Rt lo hi),.int .i64 (Ov lo hi)])/\Below w.heap.size w w':=by
 have hv:=(aJ lo hi).1 h;have C1:=fun w=>Js (lo+5400000) (hi+5400000) w ⟨by omega,by omega,by omega⟩
 have e1:bC (lo+5400000) (hi+5400000)=Rt lo hi:=rfl;have e2:bI (lo+5400000) (hi+5400000)=Ov lo hi:=rfl;rw [e1,e2] at C1;replace C1:=Lib.hid C1;clear e1 e2 h;obtain ⟨v1,v2,v3⟩:=hv;generalize Rt lo hi=x at *
 generalize Ov lo hi=y at *
 have K0:=Lib.hid (((az w).new w.heap.size rfl 26 #[.int .i64 lo,.int .i64 hi]).new (w.heap.size+1) (by simp) 58 #[.int .i64 0,.int .i64 0])
 go_enter Tryz.func20,Tryz.ntmps20;go_wp2_with fail;refine (C1.out _).mono ?_;rintro e w1 ⟨rfl,hb1⟩;have K1:=Lib.hid (K0.out.below hb1);clear hb1 K0;have q0:=K1.out.c (g:=w.heap.size+1) (t:=58) (cs:=#[.int .i64 0,.int .i64 0]) (by simp) (i:=0) rfl
 have q1:=K1.out.c (g:=w.heap.size+1) (t:=58) (cs:=#[.int .i64 0,.int .i64 0]) (by simp) (i:=1) rfl
 have g0:=K1.out.f (g:=w.heap.size+1) (t:=58) (cs:=#[.int .i64 0,.int .i64 0]) (by simp) 0
 have g1:=K1.out.f (g:=w.heap.size+1) (t:=58) (cs:=#[.int .i64 0,.int .i64 0]) (by simp) 1
 go_wp2;refine bodyPost_ret (by simp [results,Tryz.results20,go_sem,q0,q1];try rfl) rfl ⟨rfl,by have:=K1.out.1;go_light;go_grown⟩
