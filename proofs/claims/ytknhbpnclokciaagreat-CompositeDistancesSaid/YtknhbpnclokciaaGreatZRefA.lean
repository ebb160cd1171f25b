/- The contracts of the reference's quick sines. -/
import Derived.Test.YtknhbpnclokciaaGreatZVecs
import Derived.Test.YtknhbpnclokciaaGreatZNums
set_option linter.unusedVariables false
set_option linter.unusedSimpArgs false
set_option maxRecDepth 100000
set_option maxHeartbeats 2000000
namespace Go.Proofs.YtknhbpnclokciaaGreat
open Go.RowKit Alm
theorem PW (a:Nat) (ha:a<=2^62):bits .and .i64 (a:Int) 2147483647=((a%2147483648:Nat):Int):=by
 show IntKind.i64.wrap ((BitVec.ofInt 64 (a:Int) &&& BitVec.ofInt 64 2147483647).toNat:Int)=_;have e1:(BitVec.ofInt 64 2147483647).toNat=2^31-1:=by decide
 rw [BitVec.toNat_and,e1,Nat.and_two_pow_sub_one_eq_mod,BitVec.toNat_ofInt,IntKind.wrap_i64];omega
theorem OA (a b:Nat):(ax a b:Int)=((a/2147483648:Nat):Int)*((b/2147483648:Nat):Int)+((a/2147483648:Nat):Int)*((b%2147483648:Nat):Int)/2147483648+((a%2147483648:Nat):Int)*((b/2147483648:Nat):Int)/2147483648:=by
 have e:ax a b=(a/2147483648)*(b/2147483648)+(a/2147483648)*(b%2147483648)/2147483648+(a%2147483648)*(b/2147483648)/2147483648:=by unfold ax;rfl
 rw [e];simp
theorem Pm (a b:Nat) (w:World) (ha:a<=2^62) (hb:b<=2^62) :
 Calls Tryz.prog 395 #[.int .i64 a,.int .i64 b] w fun e w'=>e=.returned (.int .i64 (ax a b))/\w=w':=by
 have ma:=Lib.hid (PW a ha);have mb:=Lib.hid (PW b hb);have hv:=OA a b;have da:(a:Int)/2147483648=((a/2147483648:Nat):Int):=by omega
 have db:(b:Int)/2147483648=((b/2147483648:Nat):Int):=by omega
 have a1:a/2147483648<=2147483648:=by omega
 have b1:b/2147483648<=2147483648:=by omega
 have a0:a%2147483648<=2147483648:=by omega
 have b0:b%2147483648<=2147483648:=by omega
 have p1:a/2147483648*(b/2147483648)<=2147483648*2147483648:=Nat.mul_le_mul a1 b1;have p2:a/2147483648*(b%2147483648)<=2147483648*2147483648:=Nat.mul_le_mul a1 b0;have p3:a%2147483648*(b/2147483648)<=2147483648*2147483648:=Nat.mul_le_mul a0 b1;have ab0:(0:Int)<=(a:Int)/\(a:Int)<=4611686018427387904:=by omega
 have bb0:(0:Int)<=(b:Int)/\(b:Int)<=4611686018427387904:=by omega
 rw [hv];clear hv ha hb;generalize a/2147483648=u1 at *
 generalize a%2147483648=u0 at *
 generalize b/2147483648=v1 at *
 generalize b%2147483648=v0 at *
 have q1:(0:Int)<=(u1:Int)*(v1:Int)/\(u1:Int)*(v1:Int)<=4611686018427387904:=by rw [<-Int.natCast_mul];omega
 have q2:(0:Int)<=(u1:Int)*(v0:Int)/\(u1:Int)*(v0:Int)<=4611686018427387904:=by rw [<-Int.natCast_mul];omega
 have q3:(0:Int)<=(u0:Int)*(v1:Int)/\(u0:Int)*(v1:Int)<=4611686018427387904:=by rw [<-Int.natCast_mul];omega
 obtain ⟨q1,q1'⟩:=q1;obtain ⟨q2,q2'⟩:=q2;obtain ⟨q3,q3'⟩:=q3;obtain ⟨ab0,ab1⟩:=ab0;obtain ⟨bb0,bb1⟩:=bb0;have ma:=ma.out;have mb:=mb.out;clear p1 p2 p3;go_enter Tryz.func395,Tryz.ntmps395;go_wp2;go_ret;exact ⟨rfl,rfl⟩
theorem MU (r:Nat) (T0:Nat) (tot:Int) (w:World) (hr:r<=2700000) (hT:T0=xq r) (htot:aN 34 T0 (dm r) 1=tot) :
 Calls Tryz.prog 387 #[.int .i64 r,.bool false] w fun e w'=>e=.returned (.int .i64 tot)/\w=w':=by
 have hx:=Ep r hr;have hsq:=vw r hr;have hT0:T0<=2^62:=by omega
 have C1:=Lib.hid (fun a b w ha hb=>Pm a b w ha hb)
 have xv:(r:Int)*2620088056*512+(r:Int)*658911831/4194304=(xq r:Int):=by unfold xq;omega
 have sv:ax (xq r) (xq r)=dm r:=rfl;have HX:=Lib.hid xv;have SV:=Lib.hid sv;have HT:=Lib.hid hT;have TOT:=Lib.hid htot;have HSQ:=Lib.hid hsq;have HT0:=Lib.hid hT0;have HX1:=Lib.hid hx;clear xv sv hT htot hsq hT0 hx;have r1:(r:Int)<=2700000:=by omega
 generalize dm r=sq at *
 generalize xq r=x at *
 obtain rfl:T0=x:=HT.out;go_enter Tryz.func387,Tryz.ntmps387;go_wp2_with fail;rw [HX.out];refine (C1.out _ _ _ HX1.out HX1.out).mono ?_;rintro e w' ⟨rfl,rfl⟩;rw [SV.out];go_wp2
 go_loop [7,8,9] (fun t dd ss=>∃ (i T d:Nat) (S:Int),t=.int .i64 T/\dd=.int .i64 d/\ss=.int .i64 S/\d=1+1+4*i/\S+aN (34-2*i) T sq (1+4*i)=tot/\T*16^i<=2^62/\0<=S/\S+T<=4611686018427387904)
  (fun t _ _=>(intOf t).toNat)
 case atStart=>exact ⟨0,T0,1+1,0,rfl,rfl,rfl,rfl,by have:=TOT.out;simp;exact this,by have:=HT0.out;omega,by omega,by have:=HT0.out;omega⟩
 case round =>
  obtain ⟨i,T,d,S,rfl,rfl,rfl,hd,he,hp,hS,hST⟩:=hrel
  by_cases hT:0<T
  . have Q:=Kr i 1 d T sq S tot (by omega) hd HSQ.out he hp hS hST hT
    obtain ⟨z1,z2,z3,z4,z5,z6,z7,z8⟩:=Q;have HTb:=Lib.hid (show T<=2^62 by omega)
    have hz:ax T sq/(d*(d+1))<=2^62:=by have:=HTb.out;omega
    have e1:(ax T sq:Int)/((d:Int)*((d:Int)+1))=((ax T sq/(d*(d+1)):Nat):Int):=by simp
    have b1:(ax T sq:Int)<=4611686018427387904:=by have:=iV T sq HSQ.out;have:=HTb.out;omega
    have b2:(d:Int)*((d:Int)+1)<=10000/\0<(d:Int)*((d:Int)+1):=by
     have:d*(d+1)<=70*71:=Nat.mul_le_mul z1 (by omega)
     have:0<d*(d+1):=Nat.mul_pos (by omega) (by omega)
     have e:(d:Int)*((d:Int)+1)=((d*(d+1):Nat):Int):=by simp
     rw [e];omega
    have e2:(ax (ax T sq/(d*(d+1))) sq:Int)/(((d:Int)+2)*((d:Int)+3))=((ax (ax T sq/(d*(d+1))) sq/((d+2)*(d+3)):Nat):Int):=by simp
    have b3:(ax (ax T sq/(d*(d+1))) sq:Int)<=4611686018427387904:=by have:=iV (ax T sq/(d*(d+1))) sq HSQ.out;have:=HTb.out;omega
    have b4:((d:Int)+2)*((d:Int)+3)<=10000/\0<((d:Int)+2)*((d:Int)+3):=by
     have:(d+2)*(d+3)<=72*73:=Nat.mul_le_mul (by omega) (by omega)
     have:0<(d+2)*(d+3):=Nat.mul_pos (by omega) (by omega)
     have e:((d:Int)+2)*((d:Int)+3)=(((d+2)*(d+3):Nat):Int):=by simp
     rw [e];omega
    obtain ⟨b2,b2'⟩:=b2;obtain ⟨b4,b4'⟩:=b4;have C2:=Lib.hid (fun w=>C1.out T sq w HTb.out HSQ.out)
    have C3:=Lib.hid (fun w=>C1.out (ax T sq/(d*(d+1))) sq w hz HSQ.out)
    generalize ax (ax T sq/(d*(d+1))) sq/((d+2)*(d+3))=T2 at *
    generalize hT1:ax T sq/(d*(d+1))=T1 at *
    generalize ax T1 sq=G2 at *
    generalize ax T sq=G1 at *
    have Z4:=Lib.hid z4;have Z5:=Lib.hid z5;have Z6:=Lib.hid z6;have HT1:=Lib.hid hT1;have dd0:(0:Int)<=(d:Int):=by omega
    have dd1:(d:Int)<=70:=by omega
    have tt0:(0:Int)<(T:Int):=by omega
    have tt1:(0:Int)<=(T1:Int):=by omega
    have tt2:(T1:Int)<=4611686018427387904:=by omega
    have tt3:(0:Int)<=(T2:Int):=by omega
    have tt4:(T2:Int)<=4611686018427387904:=by omega
    have tt5:S+(T:Int)-(T1:Int)<=4611686018427387904:=by omega
    clear z4 z5 z6 hd he hp hT1;go_wp2_with fail;refine (C2.out _).mono ?_;rintro e w' ⟨rfl,rfl⟩;go_wp2_with fail;refine (C3.out _).mono ?_;rintro e w' ⟨rfl,rfl⟩;go_wp2;go_round
    case rel=>exact ⟨i+1,T2,d+4,S+T-T1,rfl,by go_num,rfl,Z4.out,Z5.out,Z6.out,z7,z8⟩
    case measure=>show ((T2:Int)).toNat<((T:Int)).toNat;rw [Int.toNat_natCast,Int.toNat_natCast];exact z3
  . obtain rfl:T=0:=by omega
    go_wp2;go_ret;exact ⟨bN (by rw [KJ] at he;omega),rfl⟩
theorem Lx (r:Nat) (T0:Nat) (tot:Int) (w:World) (hr:r<=2700000) (hT:T0=4611686018427387904) (htot:aN 34 T0 (dm r) 0=tot) :
 Calls Tryz.prog 387 #[.int .i64 r,.bool true] w fun e w'=>e=.returned (.int .i64 tot)/\w=w':=by
 have hx:=Ep r hr;have hsq:=vw r hr;have hT0:T0<=2^62:=by omega
 have C1:=Lib.hid (fun a b w ha hb=>Pm a b w ha hb)
 have xv:(r:Int)*2620088056*512+(r:Int)*658911831/4194304=(xq r:Int):=by unfold xq;omega
 have sv:ax (xq r) (xq r)=dm r:=rfl;have HX:=Lib.hid xv;have SV:=Lib.hid sv;have HT:=Lib.hid hT;have TOT:=Lib.hid htot;have HSQ:=Lib.hid hsq;have HT0:=Lib.hid hT0;have HX1:=Lib.hid hx;clear xv sv hT htot hsq hT0 hx;have r1:(r:Int)<=2700000:=by omega
 generalize dm r=sq at *
 generalize xq r=x at *
 go_enter Tryz.func387,Tryz.ntmps387;go_wp2_with fail;rw [HX.out];refine (C1.out _ _ _ HX1.out HX1.out).mono ?_;rintro e w' ⟨rfl,rfl⟩;rw [SV.out];go_wp2
 go_loop [7,8,9] (fun t dd ss=>∃ (i T d:Nat) (S:Int),t=.int .i64 T/\dd=.int .i64 d/\ss=.int .i64 S/\d=0+1+4*i/\S+aN (34-2*i) T sq (0+4*i)=tot/\T*16^i<=2^62/\0<=S/\S+T<=4611686018427387904)
  (fun t _ _=>(intOf t).toNat)
 case atStart=>exact ⟨0,T0,0+1,0,by rw [HT.out];rfl,rfl,rfl,rfl,by have:=TOT.out;simp;exact this,by have:=HT0.out;omega,by omega,by have:=HT0.out;omega⟩
 case round =>
  obtain ⟨i,T,d,S,rfl,rfl,rfl,hd,he,hp,hS,hST⟩:=hrel
  by_cases hT:0<T
  . have Q:=Kr i 0 d T sq S tot (by omega) hd HSQ.out he hp hS hST hT
    obtain ⟨z1,z2,z3,z4,z5,z6,z7,z8⟩:=Q;have HTb:=Lib.hid (show T<=2^62 by omega)
    have hz:ax T sq/(d*(d+1))<=2^62:=by have:=HTb.out;omega
    have e1:(ax T sq:Int)/((d:Int)*((d:Int)+1))=((ax T sq/(d*(d+1)):Nat):Int):=by simp
    have b1:(ax T sq:Int)<=4611686018427387904:=by have:=iV T sq HSQ.out;have:=HTb.out;omega
    have b2:(d:Int)*((d:Int)+1)<=10000/\0<(d:Int)*((d:Int)+1):=by
     have:d*(d+1)<=70*71:=Nat.mul_le_mul z1 (by omega)
     have:0<d*(d+1):=Nat.mul_pos (by omega) (by omega)
     have e:(d:Int)*((d:Int)+1)=((d*(d+1):Nat):Int):=by simp
     rw [e];omega
    have e2:(ax (ax T sq/(d*(d+1))) sq:Int)/(((d:Int)+2)*((d:Int)+3))=((ax (ax T sq/(d*(d+1))) sq/((d+2)*(d+3)):Nat):Int):=by simp
    have b3:(ax (ax T sq/(d*(d+1))) sq:Int)<=4611686018427387904:=by have:=iV (ax T sq/(d*(d+1))) sq HSQ.out;have:=HTb.out;omega
    have b4:((d:Int)+2)*((d:Int)+3)<=10000/\0<((d:Int)+2)*((d:Int)+3):=by
     have:(d+2)*(d+3)<=72*73:=Nat.mul_le_mul (by omega) (by omega)
     have:0<(d+2)*(d+3):=Nat.mul_pos (by omega) (by omega)
     have e:((d:Int)+2)*((d:Int)+3)=(((d+2)*(d+3):Nat):Int):=by simp
     rw [e];omega
    obtain ⟨b2,b2'⟩:=b2;obtain ⟨b4,b4'⟩:=b4;have C2:=Lib.hid (fun w=>C1.out T sq w HTb.out HSQ.out)
    have C3:=Lib.hid (fun w=>C1.out (ax T sq/(d*(d+1))) sq w hz HSQ.out)
    generalize ax (ax T sq/(d*(d+1))) sq/((d+2)*(d+3))=T2 at *
    generalize hT1:ax T sq/(d*(d+1))=T1 at *
    generalize ax T1 sq=G2 at *
    generalize ax T sq=G1 at *
    have Z4:=Lib.hid z4;have Z5:=Lib.hid z5;have Z6:=Lib.hid z6;have HT1:=Lib.hid hT1;have dd0:(0:Int)<=(d:Int):=by omega
    have dd1:(d:Int)<=70:=by omega
    have tt0:(0:Int)<(T:Int):=by omega
    have tt1:(0:Int)<=(T1:Int):=by omega
    have tt2:(T1:Int)<=4611686018427387904:=by omega
    have tt3:(0:Int)<=(T2:Int):=by omega
    have tt4:(T2:Int)<=4611686018427387904:=by omega
    have tt5:S+(T:Int)-(T1:Int)<=4611686018427387904:=by omega
    clear z4 z5 z6 hd he hp hT1;go_wp2_with fail;refine (C2.out _).mono ?_;rintro e w' ⟨rfl,rfl⟩;go_wp2_with fail;refine (C3.out _).mono ?_;rintro e w' ⟨rfl,rfl⟩;go_wp2;go_round
    case rel=>exact ⟨i+1,T2,d+4,S+T-T1,rfl,by go_num,rfl,Z4.out,Z5.out,Z6.out,z7,z8⟩
    case measure=>show ((T2:Int)).toNat<((T:Int)).toNat;rw [Int.toNat_natCast,Int.toNat_natCast];exact z3
  . obtain rfl:T=0:=by omega
    go_wp2;go_ret;exact ⟨bN (by rw [KJ] at he;omega),rfl⟩
theorem EG (r:Nat) (w:World) (hr:r<=2700000) :
 Calls Tryz.prog 387 #[.int .i64 r,.bool false] w fun e w'=>e=.returned (.int .i64 (jw r))/\w=w' :=
 MU r (xq r) _ w hr rfl rfl
theorem Dl (r:Nat) (w:World) (hr:r<=2700000) :
 Calls Tryz.prog 387 #[.int .i64 r,.bool true] w fun e w'=>e=.returned (.int .i64 (jy r))/\w=w' :=
 Lx r 4611686018427387904 _ w hr rfl rfl
end Go.Proofs.YtknhbpnclokciaaGreat
namespace Go.Proofs.YtknhbpnclokciaaGreat
open Go.RowKit Alm
def qVm (m:Int):Int :=
 let r:=m%5400000
 let v:=if 2700000<r then (if m/5400000%2=1 then jw (5400000-r).toNat else jy (5400000-r).toNat) else (if m/5400000%2=1 then jy r.toNat else jw r.toNat)
 if 2<=m/5400000 then -v else v
theorem q_bd (r:Nat) (h:r<=2700000):(0<=jw r/\jw r<=4611686018427387904)/\(0<=jy r/\jy r<=4611686018427387904):=by
 have key:∀ m T s j:Nat,s<=2^62->0<=aN m T s j/\aN m T s j<=T:=by
  intro m
  induction m with
  | zero=>intro T s j hs;simp [aN]
  | succ m ih =>
   intro T s j hs;rw [nA];have i:=ih (ax T s/((j+1)*(j+2))) s (j+2) hs;have h1:=iV T s hs;have h2:=Nat.div_le_self (ax T s) ((j+1)*(j+2));generalize ax T s/((j+1)*(j+2))=T1 at *
   omega
 have a:=key 34 (xq r) (dm r) 1 (vw r h);have b:=key 34 (2^62) (dm r) 0 (vw r h);have c:=Ep r h;unfold jw jy;omega
theorem kz (n:Int):(0<=n.tmod 21600000->n.tmod 21600000=ak n)/\(n.tmod 21600000<0->n.tmod 21600000=ak n-21600000)/\0<=ak n/\ak n<21600000:=by
 unfold ak;refine ⟨fun h=>?_,fun h=>?_,by omega,by omega⟩
 . rw [Int.tmod_eq_emod] at *;split at h<;>split<;>omega
 . rw [Int.tmod_eq_emod] at *;split at h<;>split<;>omega
theorem J8 (n m r q:Int) (neg:Bool) (w:World) (ht:n.tmod 21600000=if neg then m-21600000 else m) (h0:0<=m) (h1:m<21600000) (hq:m/5400000=q) (hr:m%5400000=r) :
 Calls Tryz.prog 372 #[.int .i64 n] w fun e w'=>e=.returned (.int .i64 (qVm m))/\w=w':=by
 have hr0:0<=r/\r<5400000:=by omega
 have hq0:q=0∨q=1∨q=2∨q=3:=by omega
 have e:qVm m=(if 2<=q then -(if 2700000<r then (if q%2=1 then jw (5400000-r).toNat else jy (5400000-r).toNat) else (if q%2=1 then jy r.toNat else jw r.toNat)) else (if 2700000<r then (if q%2=1 then jw (5400000-r).toNat else jy (5400000-r).toNat) else (if q%2=1 then jy r.toNat else jw r.toNat))):=by
  unfold qVm;simp only [hq,hr]
 rw [e];clear e;obtain ⟨r0,r1⟩:=hr0
 by_cases hlt:2700000<r
 . have CS:=Lib.hid (fun w=>EG (5400000-r).toNat w (by omega))
   have CC:=Lib.hid (fun w=>Dl (5400000-r).toNat w (by omega))
   have b:=q_bd (5400000-r).toNat (by omega)
   have er:(((5400000-r).toNat:Nat):Int)=5400000-r:=by omega
   rw [er] at CS CC;simp only [hlt,if_true];clear er;obtain ⟨⟨b1,b2⟩,⟨b3,b4⟩⟩:=b;generalize jw (5400000-r).toNat=S at *
   generalize jy (5400000-r).toNat=C at *
   rcases hq0 with rfl|rfl|rfl|rfl<;>cases neg
   all_goals
    simp only [if_true,if_false,Bool.false_eq_true] at ht;go_enter Tryz.func372,Tryz.ntmps372;go_wp2_with fail
    first|(with_reducible refine (CS.out _).mono ?_)|(with_reducible refine (CC.out _).mono ?_)
    rintro e w' ⟨rfl,rfl⟩;go_wp2;go_ret;exact ⟨bN (by simp),rfl⟩
 . have CS:=Lib.hid (fun w=>EG r.toNat w (by omega))
   have CC:=Lib.hid (fun w=>Dl r.toNat w (by omega))
   have b:=q_bd r.toNat (by omega)
   have er:((r.toNat:Nat):Int)=r:=by omega
   rw [er] at CS CC;simp only [hlt,if_false];clear er;obtain ⟨⟨b1,b2⟩,⟨b3,b4⟩⟩:=b;generalize jw r.toNat=S at *
   generalize jy r.toNat=C at *
   rcases hq0 with rfl|rfl|rfl|rfl<;>cases neg
   all_goals
    simp only [if_true,if_false,Bool.false_eq_true] at ht;go_enter Tryz.func372,Tryz.ntmps372;go_wp2_with fail
    first|(with_reducible refine (CS.out _).mono ?_)|(with_reducible refine (CC.out _).mono ?_)
    rintro e w' ⟨rfl,rfl⟩;go_wp2;go_ret;exact ⟨bN (by simp),rfl⟩
theorem Jy (n:Int) (w:World) :
 Calls Tryz.prog 372 #[.int .i64 n] w fun e w'=>e=.returned (.int .i64 (qVm (ak n)))/\w=w':=by
 obtain ⟨h1,h2,h3,h4⟩:=kz n
 by_cases h:0<=n.tmod 21600000
 . exact J8 n (ak n) _ _ false w (by rw [h1 h];rfl) h3 h4 rfl rfl
 . exact J8 n (ak n) _ _ true w (by rw [h2 (by omega)];rfl) h3 h4 rfl rfl
end Go.Proofs.YtknhbpnclokciaaGreat
namespace Go.Proofs.YtknhbpnclokciaaGreat
open Go.RowKit Alm
theorem Ab (n m:Int) (neg:Bool) (w:World) (ht:n.tmod 21600000=if neg then m-21600000 else m) (h0:0<=m) (h1:m<21600000) (hm:m%1800000≠0) :
 Calls Tryz.prog 371 #[.int .i64 n] w fun e w'=>e=.returned (.tuple #[.int .i64 0,.bool false])/\Below w.heap.size w w':=by
 have hb:(m%1800000==0)=false:=by simpa using hm
 have hb2:(m%1800000 != 0)=true:=by simpa using hm
 cases neg
 all_goals
  simp only [if_true,if_false,Bool.false_eq_true] at ht;go_enter Tryz.func371,Tryz.ntmps371;go_wp2;go_ret2;exact ⟨rfl,by go_grown⟩
theorem Uh (n:Int) (w:World) (ht:n.tmod 21600000=0∨n.tmod 21600000=(-21600000)) :
 Calls Tryz.prog 371 #[.int .i64 n] w fun e w'=>e=.returned (.tuple #[.int .i64 0,.bool true])/\Below w.heap.size w w':=by
 rcases ht with ht|ht
 all_goals
  go_enter Tryz.func371,Tryz.ntmps371;go_wp2;go_ret2;exact ⟨rfl,by go_grown⟩
theorem Uy (n:Int) (w:World) (ht:n.tmod 21600000=1800000∨n.tmod 21600000=(-19800000)) :
 Calls Tryz.prog 371 #[.int .i64 n] w fun e w'=>e=.returned (.tuple #[.int .i64 536870912,.bool true])/\Below w.heap.size w w':=by
 rcases ht with ht|ht
 all_goals
  go_enter Tryz.func371,Tryz.ntmps371;go_wp2;go_ret2;exact ⟨rfl,by go_grown⟩
theorem Uc (n:Int) (w:World) (ht:n.tmod 21600000=3600000∨n.tmod 21600000=(-18000000)) :
 Calls Tryz.prog 371 #[.int .i64 n] w fun e w'=>e=.returned (.tuple #[.int .i64 0,.bool false])/\Below w.heap.size w w':=by
 rcases ht with ht|ht
 all_goals
  go_enter Tryz.func371,Tryz.ntmps371;go_wp2;go_ret2;exact ⟨rfl,by go_grown⟩
theorem Xj (n:Int) (w:World) (ht:n.tmod 21600000=5400000∨n.tmod 21600000=(-16200000)) :
 Calls Tryz.prog 371 #[.int .i64 n] w fun e w'=>e=.returned (.tuple #[.int .i64 1073741824,.bool true])/\Below w.heap.size w w':=by
 rcases ht with ht|ht
 all_goals
  go_enter Tryz.func371,Tryz.ntmps371;go_wp2;go_ret2;exact ⟨rfl,by go_grown⟩
theorem Vv (n:Int) (w:World) (ht:n.tmod 21600000=7200000∨n.tmod 21600000=(-14400000)) :
 Calls Tryz.prog 371 #[.int .i64 n] w fun e w'=>e=.returned (.tuple #[.int .i64 0,.bool false])/\Below w.heap.size w w':=by
 rcases ht with ht|ht
 all_goals
  go_enter Tryz.func371,Tryz.ntmps371;go_wp2;go_ret2;exact ⟨rfl,by go_grown⟩
theorem T9 (n:Int) (w:World) (ht:n.tmod 21600000=9000000∨n.tmod 21600000=(-12600000)) :
 Calls Tryz.prog 371 #[.int .i64 n] w fun e w'=>e=.returned (.tuple #[.int .i64 536870912,.bool true])/\Below w.heap.size w w':=by
 rcases ht with ht|ht
 all_goals
  go_enter Tryz.func371,Tryz.ntmps371;go_wp2;go_ret2;exact ⟨rfl,by go_grown⟩
theorem Ug (n:Int) (w:World) (ht:n.tmod 21600000=10800000∨n.tmod 21600000=(-10800000)) :
 Calls Tryz.prog 371 #[.int .i64 n] w fun e w'=>e=.returned (.tuple #[.int .i64 0,.bool true])/\Below w.heap.size w w':=by
 rcases ht with ht|ht
 all_goals
  go_enter Tryz.func371,Tryz.ntmps371;go_wp2;go_ret2;exact ⟨rfl,by go_grown⟩
theorem Xe (n:Int) (w:World) (ht:n.tmod 21600000=12600000∨n.tmod 21600000=(-9000000)) :
 Calls Tryz.prog 371 #[.int .i64 n] w fun e w'=>e=.returned (.tuple #[.int .i64 (-536870912),.bool true])/\Below w.heap.size w w':=by
 rcases ht with ht|ht
 all_goals
  go_enter Tryz.func371,Tryz.ntmps371;go_wp2;go_ret2;exact ⟨rfl,by go_grown⟩
theorem TI (n:Int) (w:World) (ht:n.tmod 21600000=14400000∨n.tmod 21600000=(-7200000)) :
 Calls Tryz.prog 371 #[.int .i64 n] w fun e w'=>e=.returned (.tuple #[.int .i64 0,.bool false])/\Below w.heap.size w w':=by
 rcases ht with ht|ht
 all_goals
  go_enter Tryz.func371,Tryz.ntmps371;go_wp2;go_ret2;exact ⟨rfl,by go_grown⟩
theorem Un (n:Int) (w:World) (ht:n.tmod 21600000=16200000∨n.tmod 21600000=(-5400000)) :
 Calls Tryz.prog 371 #[.int .i64 n] w fun e w'=>e=.returned (.tuple #[.int .i64 (-1073741824),.bool true])/\Below w.heap.size w w':=by
 rcases ht with ht|ht
 all_goals
  go_enter Tryz.func371,Tryz.ntmps371;go_wp2;go_ret2;exact ⟨rfl,by go_grown⟩
theorem QU (n:Int) (w:World) (ht:n.tmod 21600000=18000000∨n.tmod 21600000=(-3600000)) :
 Calls Tryz.prog 371 #[.int .i64 n] w fun e w'=>e=.returned (.tuple #[.int .i64 0,.bool false])/\Below w.heap.size w w':=by
 rcases ht with ht|ht
 all_goals
  go_enter Tryz.func371,Tryz.ntmps371;go_wp2;go_ret2;exact ⟨rfl,by go_grown⟩
theorem O4 (n:Int) (w:World) (ht:n.tmod 21600000=19800000∨n.tmod 21600000=(-1800000)) :
 Calls Tryz.prog 371 #[.int .i64 n] w fun e w'=>e=.returned (.tuple #[.int .i64 (-536870912),.bool true])/\Below w.heap.size w w':=by
 rcases ht with ht|ht
 all_goals
  go_enter Tryz.func371,Tryz.ntmps371;go_wp2;go_ret2;exact ⟨rfl,by go_grown⟩
theorem fP (n c:Int) (h:ak n=c):n.tmod 21600000=c∨n.tmod 21600000=c-21600000:=by
 obtain ⟨h1,h2,h3,h4⟩:=kz n;subst h
 by_cases h:0<=n.tmod 21600000
 . exact .inl (h1 h)
 . exact .inr (h2 (by omega))
theorem dV (n c:Int) (h:ak n=c):aH n=(if 5400000<(if 10800000<c then c-10800000 else c) then 10800000-(if 10800000<c then c-10800000 else c) else (if 10800000<c then c-10800000 else c))/\fA n=decide (10800000<c):=by
 subst h;exact ⟨rfl,rfl⟩
theorem jd (n c:Int) (h:ak n=c):bLo n=if decide (10800000<c) then -(dH (if 5400000<(if 10800000<c then c-10800000 else c) then 10800000-(if 10800000<c then c-10800000 else c) else (if 10800000<c then c-10800000 else c))+if dM (if 5400000<(if 10800000<c then c-10800000 else c) then 10800000-(if 10800000<c then c-10800000 else c) else (if 10800000<c then c-10800000 else c)) then 0 else 1) else dH (if 5400000<(if 10800000<c then c-10800000 else c) then 10800000-(if 10800000<c then c-10800000 else c) else (if 10800000<c then c-10800000 else c)):=by
 subst h;rfl
def exR (n:Int):Value:=if dM (aH n) then .tuple #[.int .i64 (bLo n),.bool true] else .tuple #[.int .i64 0,.bool false]
theorem TW (n:Int) (w:World) :
 Calls Tryz.prog 371 #[.int .i64 n] w fun e w'=>e=.returned (exR n)/\Below w.heap.size w w':=by
 obtain ⟨h1,h2,h3,h4⟩:=kz n
 by_cases hm:ak n%1800000=0
 . have hk:ak n=0∨ak n=1800000∨ak n=3600000∨ak n=5400000∨ak n=7200000∨ak n=9000000∨ak n=10800000∨ak n=12600000∨ak n=14400000∨ak n=16200000∨ak n=18000000∨ak n=19800000:=by omega
   unfold exR;rcases hk with h|h|h|h|h|h|h|h|h|h|h|h
   . rw [(dV n _ h).1,jd n _ h];exact Uh n w (fP n _ h)
   . rw [(dV n _ h).1,jd n _ h];exact Uy n w (fP n _ h)
   . rw [(dV n _ h).1,jd n _ h];exact Uc n w (fP n _ h)
   . rw [(dV n _ h).1,jd n _ h];exact Xj n w (fP n _ h)
   . rw [(dV n _ h).1,jd n _ h];exact Vv n w (fP n _ h)
   . rw [(dV n _ h).1,jd n _ h];exact T9 n w (fP n _ h)
   . rw [(dV n _ h).1,jd n _ h];exact Ug n w (fP n _ h)
   . rw [(dV n _ h).1,jd n _ h];exact Xe n w (fP n _ h)
   . rw [(dV n _ h).1,jd n _ h];exact TI n w (fP n _ h)
   . rw [(dV n _ h).1,jd n _ h];exact Un n w (fP n _ h)
   . rw [(dV n _ h).1,jd n _ h];exact QU n w (fP n _ h)
   . rw [(dV n _ h).1,jd n _ h];exact O4 n w (fP n _ h)
 . have e:exR n=.tuple #[.int .i64 0,.bool false]:=by
    have hf:dM (aH n)=false:=by
     rw [(dV n _ rfl).1];unfold dM;generalize ak n=c at *
     split<;>split<;>simp<;>omega
    unfold exR;rw [hf];rfl
   rw [e]
   by_cases h:0<=n.tmod 21600000
   . exact Ab n (ak n) false w (by rw [h1 h];rfl) h3 h4 hm
   . exact Ab n (ak n) true w (by rw [h2 (by omega)];rfl) h3 h4 hm
end Go.Proofs.YtknhbpnclokciaaGreat
namespace Go.Proofs.YtknhbpnclokciaaGreat
open Go.RowKit Alm
theorem CZ (r:Int) (h0:0<r) (h1:r<=2700000) (h2:r≠1800000):dH r*4294967296+500<=jw r.toNat/\jw r.toNat+500<=(dH r+1)*4294967296:=by
 have e:dH r=((kr r.toNat/2^226:Nat):Int):=by
  unfold dH;rw [if_neg (by omega),if_neg h2,if_neg (by omega)]
  unfold lv;rw [if_pos (by omega)]
 rw [e];exact UT r.toNat (by omega) (by omega) (by omega)
theorem Cf (r:Int) (h0:0<r) (h1:r<=2700000):dH (5400000-r)*4294967296+500<=jy r.toNat/\jy r.toNat+500<=(dH (5400000-r)+1)*4294967296:=by
 have e:dH (5400000-r)=((jv r.toNat%W/2^226:Nat):Int):=by
  unfold dH;rw [if_neg (by omega),if_neg (by omega),if_neg (by omega)]
  unfold lv
  by_cases h:r=2700000
  . subst h;rw [if_pos (by omega)]
    have a:=BZ 2700000 (by omega) 759250124 Gh
    have b:=BF 2700000 (by omega) 759250124 BJ
    show ((kr 2700000/2^226:Nat):Int)=((jv 2700000%W/2^226:Nat):Int);rw [a,b]
  . rw [if_neg (by omega),show 5400000-(5400000-r).toNat=r.toNat by omega]
 rw [e];exact Xf r.toNat (by omega) (by omega)
theorem O8 (n:Int) (hE:dM (aH n)=false):bLo n*4294967296+500<=qVm (ak n)/\qVm (ak n)+500<=(bLo n+1)*4294967296/\bHi n=bLo n+1:=by
 have hf:=(dV n _ rfl).1;have hs:=(dV n _ rfl).2;have hw:=(kz n).2.2;have hne:aH n≠0/\aH n≠1800000/\aH n≠5400000:=by unfold dM at hE;simp at hE;exact ⟨hE.1.1,hE.1.2,hE.2⟩
 have e1:bLo n=if fA n then -(dH (aH n)+1) else dH (aH n):=by unfold bLo;rw [hE];rfl
 have e2:bHi n=if fA n then -(dH (aH n)) else dH (aH n)+1:=by unfold bHi;rw [hE];rfl
 rw [e1,e2,hs];clear e1 e2 hs hE;generalize aH n=f at *
 generalize ak n=m at *
 have hq:m/5400000=0∨m/5400000=1∨m/5400000=2∨m/5400000=3:=by omega
 have hm:m=m/5400000*5400000+m%5400000:=by omega
 have hr:0<=m%5400000/\m%5400000<5400000:=by omega
 have hv:qVm m=(let r:=m%5400000
  let v:=if 2700000<r then (if m/5400000%2=1 then jw (5400000-r).toNat else jy (5400000-r).toNat) else (if m/5400000%2=1 then jy r.toNat else jw r.toNat)
  if 2<=m/5400000 then -v else v):=rfl
 rw [hv];clear hv;generalize m%5400000=r at *
 simp only [];rcases hq with h|h|h|h
 . rw [h] at hm ⊢
   simp only [show ¬ (10800000<m) by omega,if_false,decide_false,Bool.false_eq_true,show ¬ (2<=(0:Int)) by omega,show ¬ ((0:Int)%2=1) by omega] at hf ⊢
   have hfr:f=r:=by split at hf<;>omega
   subst hfr
   by_cases hlt:2700000<f
   . simp only [hlt,if_true];have:=Cf (5400000-f) (by omega) (by omega)
     rw [show 5400000-(5400000-f)=f by omega] at this
     first|omega|exact ⟨by omega,by omega,trivial⟩
   . simp only [hlt,if_false];have:=CZ f (by omega) (by omega) hne.2.1
     first|omega|exact ⟨by omega,by omega,trivial⟩
 . rw [h] at hm ⊢
   simp only [show ¬ (10800000<m) by omega,if_false,decide_false,Bool.false_eq_true,show ¬ (2<=(1:Int)) by omega,show ((1:Int)%2=1) by omega,if_true] at hf ⊢
   have hfr:f=5400000-r:=by split at hf<;>omega
   subst hfr
   by_cases hlt:2700000<r
   . simp only [hlt,if_true];have:=CZ (5400000-r) (by omega) (by omega) hne.2.1
     first|omega|exact ⟨by omega,by omega,trivial⟩
   . simp only [hlt,if_false];have:=Cf r (by omega) (by omega)
     first|omega|exact ⟨by omega,by omega,trivial⟩
 . rw [h] at hm ⊢
   by_cases hr0:r=0
   . exfalso;simp only [show ¬ (10800000<m) by omega,if_false] at hf
     split at hf<;>omega
   simp only [show (10800000<m) by omega,if_true,decide_true,show (2<=(2:Int)) by omega,show ¬ ((2:Int)%2=1) by omega,if_false] at hf ⊢
   have hfr:f=r:=by split at hf<;>omega
   subst hfr
   by_cases hlt:2700000<f
   . simp only [hlt,if_true];have:=Cf (5400000-f) (by omega) (by omega)
     rw [show 5400000-(5400000-f)=f by omega] at this
     first|omega|exact ⟨by omega,by omega,trivial⟩
   . simp only [hlt,if_false];have:=CZ f (by omega) (by omega) hne.2.1
     first|omega|exact ⟨by omega,by omega,trivial⟩
 . rw [h] at hm ⊢
   simp only [show (10800000<m) by omega,if_true,decide_true,show (2<=(3:Int)) by omega,show ((3:Int)%2=1) by omega] at hf ⊢
   have hfr:f=5400000-r:=by split at hf<;>omega
   subst hfr
   by_cases hlt:2700000<r
   . simp only [hlt,if_true];have:=CZ (5400000-r) (by omega) (by omega) hne.2.1
     first|omega|exact ⟨by omega,by omega,trivial⟩
   . simp only [hlt,if_false];have:=Cf r (by omega) (by omega)
     first|omega|exact ⟨by omega,by omega,trivial⟩
theorem SA (n:Int) (hE:dM (aH n)=true):bHi n=bLo n:=by
 unfold bHi bLo;rw [hE];simp
theorem wC (n:Int) (w:World) :
 Calls Tryz.prog 340 #[.int .i64 n] w fun e w'=>e=.returned (.tuple #[.int .i64 (bLo n),.bool (dM (aH n))])/\Below w.heap.size w w':=by
 have C1:=fun w=>TW n w
 have C2:=Lib.hid (fun w=>Jy n w)
 unfold exR at C1;cases hE:dM (aH n)
 . obtain ⟨h1,h2,h3⟩:=O8 n hE;rw [hE] at C1;simp only [Bool.false_eq_true,if_false] at C1;replace C1:=Lib.hid C1;have bb:=gm n;generalize qVm (ak n)=V at *
   have d1:(V-256)/4294967296=bLo n:=by omega
   have d2:(V+256)/4294967296=bLo n:=by omega
   have d3:V/4294967296=bLo n:=by omega
   have v1:-4611686018427387904-4294967296<=V:=by omega
   have v2:V<=4611686018427387904+4294967296:=by omega
   clear h1 h2 h3 hE bb;generalize bLo n=L at *
   have K0:=Lib.hid (av w);go_enter Tryz.func340,Tryz.ntmps340;go_wp2_with fail;refine (C1.out _).mono ?_;rintro e w1 ⟨rfl,hb1⟩;have K1:=Lib.hid (K0.out.below hb1);clear hb1 K0;go_wp2_with fail;refine (C2.out _).mono ?_;rintro e w' ⟨rfl,rfl⟩;go_wp2;go_ret2;exact ⟨rfl,K1.out.1⟩
 . rw [hE] at C1;simp only [if_true] at C1;replace C1:=Lib.hid C1;clear hE;generalize bLo n=L at *
   have K0:=Lib.hid (av w);go_enter Tryz.func340,Tryz.ntmps340;go_wp2_with fail;refine (C1.out _).mono ?_;rintro e w1 ⟨rfl,hb1⟩;have K1:=Lib.hid (K0.out.below hb1);clear hb1 K0;go_wp2;go_ret2;exact ⟨rfl,K1.out.1⟩
