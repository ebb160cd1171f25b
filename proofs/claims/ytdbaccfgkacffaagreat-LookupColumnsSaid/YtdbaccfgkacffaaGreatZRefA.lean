/- The contracts of the reference's quick sines. -/
import Derived.Test.YtdbaccfgkacffaaGreatZVecs
import Derived.Test.YtdbaccfgkacffaaGreatZNums
set_option linter.unusedVariables false
set_option linter.unusedSimpArgs false
set_option maxRecDepth 100000
set_option maxHeartbeats 2000000
namespace Go.Proofs.YtdbaccfgkacffaaGreat
open Go.RowKit Alm
theorem Pz (a:Nat) (ha:a<=2^62):bits .and .i64 (a:Int) 2147483647=((a%2147483648:Nat):Int):=by
 show IntKind.i64.wrap ((BitVec.ofInt 64 (a:Int) &&& BitVec.ofInt 64 2147483647).toNat:Int)=_;have e1:(BitVec.ofInt 64 2147483647).toNat=2^31-1:=by decide
 rw [BitVec.toNat_and,e1,Nat.and_two_pow_sub_one_eq_mod,BitVec.toNat_ofInt,IntKind.wrap_i64];omega
theorem QV (a b:Nat):(ay a b:Int)=((a/2147483648:Nat):Int)*((b/2147483648:Nat):Int)+((a/2147483648:Nat):Int)*((b%2147483648:Nat):Int)/2147483648+((a%2147483648:Nat):Int)*((b/2147483648:Nat):Int)/2147483648:=by
 have e:ay a b=(a/2147483648)*(b/2147483648)+(a/2147483648)*(b%2147483648)/2147483648+(a%2147483648)*(b/2147483648)/2147483648:=by unfold ay;rfl
 rw [e];simp
theorem Oj (a b:Nat) (w:World) (ha:a<=2^62) (hb:b<=2^62) :
 Calls Tryz.prog 370 #[.int .i64 a,.int .i64 b] w fun e w'=>e=.returned (.int .i64 (ay a b))/\w=w':=by
 have ma:=Lib.hid (Pz a ha);have mb:=Lib.hid (Pz b hb);have hv:=QV a b;have da:(a:Int)/2147483648=((a/2147483648:Nat):Int):=by omega
 have db:(b:Int)/2147483648=((b/2147483648:Nat):Int):=by omega
 have a1:a/2147483648<=2147483648:=by omega
 have b1:b/2147483648<=2147483648:=by omega
 have a0:a%2147483648<=2147483648:=by omega
 have b0:b%2147483648<=2147483648:=by omega
 have p1:a/2147483648*(b/2147483648)<=2147483648*2147483648:=Nat.mul_le_mul a1 b1;have p2:a/2147483648*(b%2147483648)<=2147483648*2147483648:=Nat.mul_le_mul a1 b0;have p3:a%2147483648*(b/2147483648)<=2147483648*2147483648:=Nat.mul_le_mul a0 b1;have ab0:(0:Int)<=(a:Int)/\(a:Int)<=4611686018427387904:=by omega
 have bb0:(0:Int)<=(b:Int)/\(b:Int)<=4611686018427387904:=by omega
 rw [hv];clear hv ha hb;generalize a/2147483648=u1 at *
 generalize a%2147483648=u0 at *
 generalize b/2147483648=v1 at *
 generalize b%2147483648=v0 at *
 have q1:(0:Int)<=(u1:Int)*(v1:Int)/\(u1:Int)*(v1:Int)<=4611686018427387904:=by rw [<-Int.natCast_mul];omega
 have q2:(0:Int)<=(u1:Int)*(v0:Int)/\(u1:Int)*(v0:Int)<=4611686018427387904:=by rw [<-Int.natCast_mul];omega
 have q3:(0:Int)<=(u0:Int)*(v1:Int)/\(u0:Int)*(v1:Int)<=4611686018427387904:=by rw [<-Int.natCast_mul];omega
 obtain ⟨q1,q1'⟩:=q1;obtain ⟨q2,q2'⟩:=q2;obtain ⟨q3,q3'⟩:=q3;obtain ⟨ab0,ab1⟩:=ab0;obtain ⟨bb0,bb1⟩:=bb0;have ma:=ma.out;have mb:=mb.out;clear p1 p2 p3;go_enter Tryz.func370,Tryz.ntmps370;go_wp2;go_ret;exact ⟨rfl,rfl⟩
theorem LA (r:Nat) (T0:Nat) (tot:Int) (w:World) (hr:r<=2700000) (hT:T0=xq r) (htot:aN 34 T0 (dn r) 1=tot) :
 Calls Tryz.prog 346 #[.int .i64 r,.bool false] w fun e w'=>e=.returned (.int .i64 tot)/\w=w':=by
 have hx:=Ea r hr;have hsq:=vo r hr;have hT0:T0<=2^62:=by omega
 have C1:=Lib.hid (fun a b w ha hb=>Oj a b w ha hb)
 have xv:(r:Int)*2620088056*512+(r:Int)*658911831/4194304=(xq r:Int):=by unfold xq;omega
 have sv:ay (xq r) (xq r)=dn r:=rfl;have HX:=Lib.hid xv;have SV:=Lib.hid sv;have HT:=Lib.hid hT;have TOT:=Lib.hid htot;have HSQ:=Lib.hid hsq;have HT0:=Lib.hid hT0;have HX1:=Lib.hid hx;clear xv sv hT htot hsq hT0 hx;have r1:(r:Int)<=2700000:=by omega
 generalize dn r=sq at *
 generalize xq r=x at *
 obtain rfl:T0=x:=HT.out;go_enter Tryz.func346,Tryz.ntmps346;go_wp2_with fail;rw [HX.out];refine (C1.out _ _ _ HX1.out HX1.out).mono ?_;rintro e w' ⟨rfl,rfl⟩;rw [SV.out];go_wp2
 go_loop [7,8,9] (fun t dd ss=>∃ (i T d:Nat) (S:Int),t=.int .i64 T/\dd=.int .i64 d/\ss=.int .i64 S/\d=1+1+4*i/\S+aN (34-2*i) T sq (1+4*i)=tot/\T*16^i<=2^62/\0<=S/\S+T<=4611686018427387904)
  (fun t _ _=>(intOf t).toNat)
 case atStart=>exact ⟨0,T0,1+1,0,rfl,rfl,rfl,rfl,by have:=TOT.out;simp;exact this,by have:=HT0.out;omega,by omega,by have:=HT0.out;omega⟩
 case round =>
  obtain ⟨i,T,d,S,rfl,rfl,rfl,hd,he,hp,hS,hST⟩:=hrel
  by_cases hT:0<T
  . have Q:=Jd i 1 d T sq S tot (by omega) hd HSQ.out he hp hS hST hT
    obtain ⟨z1,z2,z3,z4,z5,z6,z7,z8⟩:=Q;have HTb:=Lib.hid (show T<=2^62 by omega)
    have hz:ay T sq/(d*(d+1))<=2^62:=by have:=HTb.out;omega
    have e1:(ay T sq:Int)/((d:Int)*((d:Int)+1))=((ay T sq/(d*(d+1)):Nat):Int):=by simp
    have b1:(ay T sq:Int)<=4611686018427387904:=by have:=iF T sq HSQ.out;have:=HTb.out;omega
    have b2:(d:Int)*((d:Int)+1)<=10000/\0<(d:Int)*((d:Int)+1):=by
     have:d*(d+1)<=70*71:=Nat.mul_le_mul z1 (by omega)
     have:0<d*(d+1):=Nat.mul_pos (by omega) (by omega)
     have e:(d:Int)*((d:Int)+1)=((d*(d+1):Nat):Int):=by simp
     rw [e];omega
    have e2:(ay (ay T sq/(d*(d+1))) sq:Int)/(((d:Int)+2)*((d:Int)+3))=((ay (ay T sq/(d*(d+1))) sq/((d+2)*(d+3)):Nat):Int):=by simp
    have b3:(ay (ay T sq/(d*(d+1))) sq:Int)<=4611686018427387904:=by have:=iF (ay T sq/(d*(d+1))) sq HSQ.out;have:=HTb.out;omega
    have b4:((d:Int)+2)*((d:Int)+3)<=10000/\0<((d:Int)+2)*((d:Int)+3):=by
     have:(d+2)*(d+3)<=72*73:=Nat.mul_le_mul (by omega) (by omega)
     have:0<(d+2)*(d+3):=Nat.mul_pos (by omega) (by omega)
     have e:((d:Int)+2)*((d:Int)+3)=(((d+2)*(d+3):Nat):Int):=by simp
     rw [e];omega
    obtain ⟨b2,b2'⟩:=b2;obtain ⟨b4,b4'⟩:=b4;have C2:=Lib.hid (fun w=>C1.out T sq w HTb.out HSQ.out)
    have C3:=Lib.hid (fun w=>C1.out (ay T sq/(d*(d+1))) sq w hz HSQ.out)
    generalize ay (ay T sq/(d*(d+1))) sq/((d+2)*(d+3))=T2 at *
    generalize hT1:ay T sq/(d*(d+1))=T1 at *
    generalize ay T1 sq=G2 at *
    generalize ay T sq=G1 at *
    have Z4:=Lib.hid z4;have Z5:=Lib.hid z5;have Z6:=Lib.hid z6;have HT1:=Lib.hid hT1;have dd0:(0:Int)<=(d:Int):=by omega
    have dd1:(d:Int)<=70:=by omega
    have tt0:(0:Int)<(T:Int):=by omega
    have tt1:(0:Int)<=(T1:Int):=by omega
    have tt2:(T1:Int)<=4611686018427387904:=by omega
    have tt3:(0:Int)<=(T2:Int):=by omega
    have tt4:(T2:Int)<=4611686018427387904:=by omega
    have tt5:S+(T:Int)-(T1:Int)<=4611686018427387904:=by omega
    clear z4 z5 z6 hd he hp hT1;go_wp2_with fail;refine (C2.out _).mono ?_;rintro e w' ⟨rfl,rfl⟩;go_wp2_with fail;refine (C3.out _).mono ?_;rintro e w' ⟨rfl,rfl⟩;go_wp2;go_round
    case rel=>exact ⟨i+1,T2,d+4,S+T-T1,rfl,by go_num,rfl,Z4.out,Z5.out,Z6.out,z7,z8⟩
    case measure=>show ((T2:Int)).toNat<((T:Int)).toNat;rw [Int.toNat_natCast,Int.toNat_natCast];exact z3
  . obtain rfl:T=0:=by omega
    go_wp2;go_ret;exact ⟨bV (by rw [Jw] at he;omega),rfl⟩
theorem MR (r:Nat) (T0:Nat) (tot:Int) (w:World) (hr:r<=2700000) (hT:T0=4611686018427387904) (htot:aN 34 T0 (dn r) 0=tot) :
 Calls Tryz.prog 346 #[.int .i64 r,.bool true] w fun e w'=>e=.returned (.int .i64 tot)/\w=w':=by
 have hx:=Ea r hr;have hsq:=vo r hr;have hT0:T0<=2^62:=by omega
 have C1:=Lib.hid (fun a b w ha hb=>Oj a b w ha hb)
 have xv:(r:Int)*2620088056*512+(r:Int)*658911831/4194304=(xq r:Int):=by unfold xq;omega
 have sv:ay (xq r) (xq r)=dn r:=rfl;have HX:=Lib.hid xv;have SV:=Lib.hid sv;have HT:=Lib.hid hT;have TOT:=Lib.hid htot;have HSQ:=Lib.hid hsq;have HT0:=Lib.hid hT0;have HX1:=Lib.hid hx;clear xv sv hT htot hsq hT0 hx;have r1:(r:Int)<=2700000:=by omega
 generalize dn r=sq at *
 generalize xq r=x at *
 go_enter Tryz.func346,Tryz.ntmps346;go_wp2_with fail;rw [HX.out];refine (C1.out _ _ _ HX1.out HX1.out).mono ?_;rintro e w' ⟨rfl,rfl⟩;rw [SV.out];go_wp2
 go_loop [7,8,9] (fun t dd ss=>∃ (i T d:Nat) (S:Int),t=.int .i64 T/\dd=.int .i64 d/\ss=.int .i64 S/\d=0+1+4*i/\S+aN (34-2*i) T sq (0+4*i)=tot/\T*16^i<=2^62/\0<=S/\S+T<=4611686018427387904)
  (fun t _ _=>(intOf t).toNat)
 case atStart=>exact ⟨0,T0,0+1,0,by rw [HT.out];rfl,rfl,rfl,rfl,by have:=TOT.out;simp;exact this,by have:=HT0.out;omega,by omega,by have:=HT0.out;omega⟩
 case round =>
  obtain ⟨i,T,d,S,rfl,rfl,rfl,hd,he,hp,hS,hST⟩:=hrel
  by_cases hT:0<T
  . have Q:=Jd i 0 d T sq S tot (by omega) hd HSQ.out he hp hS hST hT
    obtain ⟨z1,z2,z3,z4,z5,z6,z7,z8⟩:=Q;have HTb:=Lib.hid (show T<=2^62 by omega)
    have hz:ay T sq/(d*(d+1))<=2^62:=by have:=HTb.out;omega
    have e1:(ay T sq:Int)/((d:Int)*((d:Int)+1))=((ay T sq/(d*(d+1)):Nat):Int):=by simp
    have b1:(ay T sq:Int)<=4611686018427387904:=by have:=iF T sq HSQ.out;have:=HTb.out;omega
    have b2:(d:Int)*((d:Int)+1)<=10000/\0<(d:Int)*((d:Int)+1):=by
     have:d*(d+1)<=70*71:=Nat.mul_le_mul z1 (by omega)
     have:0<d*(d+1):=Nat.mul_pos (by omega) (by omega)
     have e:(d:Int)*((d:Int)+1)=((d*(d+1):Nat):Int):=by simp
     rw [e];omega
    have e2:(ay (ay T sq/(d*(d+1))) sq:Int)/(((d:Int)+2)*((d:Int)+3))=((ay (ay T sq/(d*(d+1))) sq/((d+2)*(d+3)):Nat):Int):=by simp
    have b3:(ay (ay T sq/(d*(d+1))) sq:Int)<=4611686018427387904:=by have:=iF (ay T sq/(d*(d+1))) sq HSQ.out;have:=HTb.out;omega
    have b4:((d:Int)+2)*((d:Int)+3)<=10000/\0<((d:Int)+2)*((d:Int)+3):=by
     have:(d+2)*(d+3)<=72*73:=Nat.mul_le_mul (by omega) (by omega)
     have:0<(d+2)*(d+3):=Nat.mul_pos (by omega) (by omega)
     have e:((d:Int)+2)*((d:Int)+3)=(((d+2)*(d+3):Nat):Int):=by simp
     rw [e];omega
    obtain ⟨b2,b2'⟩:=b2;obtain ⟨b4,b4'⟩:=b4;have C2:=Lib.hid (fun w=>C1.out T sq w HTb.out HSQ.out)
    have C3:=Lib.hid (fun w=>C1.out (ay T sq/(d*(d+1))) sq w hz HSQ.out)
    generalize ay (ay T sq/(d*(d+1))) sq/((d+2)*(d+3))=T2 at *
    generalize hT1:ay T sq/(d*(d+1))=T1 at *
    generalize ay T1 sq=G2 at *
    generalize ay T sq=G1 at *
    have Z4:=Lib.hid z4;have Z5:=Lib.hid z5;have Z6:=Lib.hid z6;have HT1:=Lib.hid hT1;have dd0:(0:Int)<=(d:Int):=by omega
    have dd1:(d:Int)<=70:=by omega
    have tt0:(0:Int)<(T:Int):=by omega
    have tt1:(0:Int)<=(T1:Int):=by omega
    have tt2:(T1:Int)<=4611686018427387904:=by omega
    have tt3:(0:Int)<=(T2:Int):=by omega
    have tt4:(T2:Int)<=4611686018427387904:=by omega
    have tt5:S+(T:Int)-(T1:Int)<=4611686018427387904:=by omega
    clear z4 z5 z6 hd he hp hT1;go_wp2_with fail;refine (C2.out _).mono ?_;rintro e w' ⟨rfl,rfl⟩;go_wp2_with fail;refine (C3.out _).mono ?_;rintro e w' ⟨rfl,rfl⟩;go_wp2;go_round
    case rel=>exact ⟨i+1,T2,d+4,S+T-T1,rfl,by go_num,rfl,Z4.out,Z5.out,Z6.out,z7,z8⟩
    case measure=>show ((T2:Int)).toNat<((T:Int)).toNat;rw [Int.toNat_natCast,Int.toNat_natCast];exact z3
  . obtain rfl:T=0:=by omega
    go_wp2;go_ret;exact ⟨bV (by rw [Jw] at he;omega),rfl⟩
theorem BH (r:Nat) (w:World) (hr:r<=2700000) :
 Calls Tryz.prog 346 #[.int .i64 r,.bool false] w fun e w'=>e=.returned (.int .i64 (jf r))/\w=w' :=
 LA r (xq r) _ w hr rfl rfl
theorem D8 (r:Nat) (w:World) (hr:r<=2700000) :
 Calls Tryz.prog 346 #[.int .i64 r,.bool true] w fun e w'=>e=.returned (.int .i64 (jb r))/\w=w' :=
 MR r 4611686018427387904 _ w hr rfl rfl
end Go.Proofs.YtdbaccfgkacffaaGreat
namespace Go.Proofs.YtdbaccfgkacffaaGreat
open Go.RowKit Alm
def qVm (m:Int):Int :=
 let r:=m%5400000
 let v:=if 2700000<r then (if m/5400000%2=1 then jf (5400000-r).toNat else jb (5400000-r).toNat) else (if m/5400000%2=1 then jb r.toNat else jf r.toNat)
 if 2<=m/5400000 then -v else v
theorem q_bd (r:Nat) (h:r<=2700000):(0<=jf r/\jf r<=4611686018427387904)/\(0<=jb r/\jb r<=4611686018427387904):=by
 have key:∀ m T s j:Nat,s<=2^62->0<=aN m T s j/\aN m T s j<=T:=by
  intro m
  induction m with
  | zero=>intro T s j hs;simp [aN]
  | succ m ih =>
   intro T s j hs;rw [ny];have i:=ih (ay T s/((j+1)*(j+2))) s (j+2) hs;have h1:=iF T s hs;have h2:=Nat.div_le_self (ay T s) ((j+1)*(j+2));generalize ay T s/((j+1)*(j+2))=T1 at *
   omega
 have a:=key 34 (xq r) (dn r) 1 (vo r h);have b:=key 34 (2^62) (dn r) 0 (vo r h);have c:=Ea r h;unfold jf jb;omega
theorem ko (n:Int):(0<=n.tmod 21600000->n.tmod 21600000=au n)/\(n.tmod 21600000<0->n.tmod 21600000=au n-21600000)/\0<=au n/\au n<21600000:=by
 unfold au;refine ⟨fun h=>?_,fun h=>?_,by omega,by omega⟩
 . rw [Int.tmod_eq_emod] at *;split at h<;>split<;>omega
 . rw [Int.tmod_eq_emod] at *;split at h<;>split<;>omega
theorem JC (n m r q:Int) (neg:Bool) (w:World) (ht:n.tmod 21600000=if neg then m-21600000 else m) (h0:0<=m) (h1:m<21600000) (hq:m/5400000=q) (hr:m%5400000=r) :
 Calls Tryz.prog 317 #[.int .i64 n] w fun e w'=>e=.returned (.int .i64 (qVm m))/\w=w':=by
 have hr0:0<=r/\r<5400000:=by omega
 have hq0:q=0∨q=1∨q=2∨q=3:=by omega
 have e:qVm m=(if 2<=q then -(if 2700000<r then (if q%2=1 then jf (5400000-r).toNat else jb (5400000-r).toNat) else (if q%2=1 then jb r.toNat else jf r.toNat)) else (if 2700000<r then (if q%2=1 then jf (5400000-r).toNat else jb (5400000-r).toNat) else (if q%2=1 then jb r.toNat else jf r.toNat))):=by
  unfold qVm;simp only [hq,hr]
 rw [e];clear e;obtain ⟨r0,r1⟩:=hr0
 by_cases hlt:2700000<r
 . have CS:=Lib.hid (fun w=>BH (5400000-r).toNat w (by omega))
   have CC:=Lib.hid (fun w=>D8 (5400000-r).toNat w (by omega))
   have b:=q_bd (5400000-r).toNat (by omega)
   have er:(((5400000-r).toNat:Nat):Int)=5400000-r:=by omega
   rw [er] at CS CC;simp only [hlt,if_true];clear er;obtain ⟨⟨b1,b2⟩,⟨b3,b4⟩⟩:=b;generalize jf (5400000-r).toNat=S at *
   generalize jb (5400000-r).toNat=C at *
   rcases hq0 with rfl|rfl|rfl|rfl<;>cases neg
   all_goals
    simp only [if_true,if_false,Bool.false_eq_true] at ht;go_enter Tryz.func317,Tryz.ntmps317;go_wp2_with fail
    first|(with_reducible refine (CS.out _).mono ?_)|(with_reducible refine (CC.out _).mono ?_)
    rintro e w' ⟨rfl,rfl⟩;go_wp2;go_ret;exact ⟨bV (by simp),rfl⟩
 . have CS:=Lib.hid (fun w=>BH r.toNat w (by omega))
   have CC:=Lib.hid (fun w=>D8 r.toNat w (by omega))
   have b:=q_bd r.toNat (by omega)
   have er:((r.toNat:Nat):Int)=r:=by omega
   rw [er] at CS CC;simp only [hlt,if_false];clear er;obtain ⟨⟨b1,b2⟩,⟨b3,b4⟩⟩:=b;generalize jf r.toNat=S at *
   generalize jb r.toNat=C at *
   rcases hq0 with rfl|rfl|rfl|rfl<;>cases neg
   all_goals
    simp only [if_true,if_false,Bool.false_eq_true] at ht;go_enter Tryz.func317,Tryz.ntmps317;go_wp2_with fail
    first|(with_reducible refine (CS.out _).mono ?_)|(with_reducible refine (CC.out _).mono ?_)
    rintro e w' ⟨rfl,rfl⟩;go_wp2;go_ret;exact ⟨bV (by simp),rfl⟩
theorem JP (n:Int) (w:World) :
 Calls Tryz.prog 317 #[.int .i64 n] w fun e w'=>e=.returned (.int .i64 (qVm (au n)))/\w=w':=by
 obtain ⟨h1,h2,h3,h4⟩:=ko n
 by_cases h:0<=n.tmod 21600000
 . exact JC n (au n) _ _ false w (by rw [h1 h];rfl) h3 h4 rfl rfl
 . exact JC n (au n) _ _ true w (by rw [h2 (by omega)];rfl) h3 h4 rfl rfl
