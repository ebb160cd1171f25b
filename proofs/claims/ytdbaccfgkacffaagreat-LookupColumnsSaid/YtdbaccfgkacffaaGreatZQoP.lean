/- The contracts of Quotient of both sides, for a divisor that is not under 0 and a factor from 0 to 2^30. -/
import Derived.Test.YtdbaccfgkacffaaGreatZSpE
set_option linter.unusedVariables false
set_option linter.unusedSimpArgs false
set_option maxRecDepth 100000
namespace Alm
theorem Bt {a b:Int} (ha:0<=a):a.tdiv b=a/b:=Int.tdiv_eq_ediv_of_nonneg ha
theorem JV {a n c q m:Int} (ha:0<=a) (hn:0<=n) (hc:0<c) (hq:q=a/c) (hm:m=n/1048576) (h:4194304<m*q):4398046511104<a*n/c:=by
 have q0:0<=q:=by rw [hq];exact Int.ediv_nonneg ha (by omega)
 have m0:0<=m:=by omega
 have h1:q*c<=a:=by rw [hq];exact Int.ediv_mul_le a (by omega)
 have h2:m*1048576<=n:=by omega
 have h3:(q*c)*(m*1048576)<=a*n:=Int.mul_le_mul h1 h2 (by omega) ha
 have h4:(q*c)*(m*1048576)=(m*q*1048576)*c:=by grind
 rw [h4] at h3;have h5:=Int.le_ediv_of_mul_le hc h3;omega
end Alm
namespace Go.Proofs.YtdbaccfgkacffaaGreat
open Go.RowKit Alm Sx
def qoL (a b c d n:Int):Int:=min (min (min (qFl a n c) (qFl a n d)) (qFl b n c)) (qFl b n d)
def qoH (a b c d n:Int):Int:=max (max (max (qCe a n c) (qCe a n d)) (qCe b n c)) (qCe b n d)
def qoV (a b c d n:Int):List Int:=if c<=0 then [0,0,16] else if dQ (qoL a b c d n)=true/\dQ (qoH a b c d n)=true then [qoL a b c d n,qoH a b c d n,0] else [0,0,5]
def qoP (a b c d n:Int):Prop:=fxV a b=true/\fxV c d=true/\0<=c/\0<=n/\n<=1073741824
def EnP (x n d:Int):Prop:=(-2147483648<=x/\x<=2147483648)/\(-1073741824<=n/\n<=1073741824)/\(0<d/\d<=2147483648)
theorem nP {x n d:Int} (h:EnP x n d):(-2305843009213693952<=qFl x n d/\qFl x n d<=2305843009213693952)/\(-2305843009213693952<=qCe x n d/\qCe x n d<=2305843009213693952)/\x.natAbs*n.natAbs<=1267650600228229401496703205376:=by
 obtain ⟨⟨x1,x2⟩,⟨n1,n2⟩,d1,d2⟩:=h;have e:(x.natAbs*n.natAbs:Nat)=(x*n).natAbs:=(Int.natAbs_mul x n).symm;have m:x.natAbs*n.natAbs<=2147483648*1073741824:=Nat.mul_le_mul (by omega) (by omega)
 rw [e] at m ⊢
 unfold qFl qCe;generalize x*n=p at *
 have b:-2305843009213693952<=p/\p<=2305843009213693952:=by omega
 have k1:p<=2305843009213693952*d:=by have:=Int.mul_le_mul_of_nonneg_left (show (1:Int)<=d by omega) (show (0:Int)<=2305843009213693952 by omega);omega
 have k2:-2305843009213693952*d<=p:=by have:=Int.mul_le_mul_of_nonneg_left (show (1:Int)<=d by omega) (show (0:Int)<=2305843009213693952 by omega);omega
 have a1:-2305843009213693952<=p/d:=Int.le_ediv_of_mul_le d1 k2;have a2:p/d<=2305843009213693952:=Int.ediv_le_of_le_mul d1 k1;have a3:-2305843009213693952<=-p/d:=Int.le_ediv_of_mul_le d1 (by omega)
 have a4:-p/d<=2305843009213693952:=Int.ediv_le_of_le_mul d1 (by omega)
 refine ⟨⟨a1,a2⟩,⟨by omega,by omega⟩,by omega⟩
def fH:Nat->List Int->List Int
 | 60,[x,n,d]=>[qFl x n d,qCe x n d,0]
 | 62,[x,n,d]=>[qFl x n d]
 | 8,[a,b]=>[b2i (fxV a b)]
 | _,_=>[]
def acA:Nat->List Int->Prop
 | 60,[x,n,d]=>EnP x n d
 | 62,[x,n,d]=>EnP x n d
 | 8,[_,_]=>True
 | _,_=>False
def eY (args:List Int):Cx:=⟨fH,acA,args⟩
def aax:Sx.Spec:=⟨210,60,[(false,[some .i64]),(false,[some .i64]),(false,[some .i64])],[(false,[some .i64]),(false,[some .i64]),(false,[some .i64])]⟩
def YS:Sx.Spec:=⟨283,62,[(false,[some .i64]),(false,[some .i64]),(false,[some .i64])],[(false,[some .i64])]⟩
def TY:List Sx.Spec:=[aax,YS,Ba]
theorem IM (args:List Int):∀ s∈TY,aT Tryz.prog (eY args) s:=by
 intro s hs;simp only [TY,List.mem_cons,List.not_mem_nil,or_false] at hs;rcases hs with rfl|rfl|rfl
 . refine ⟨ours _ _ _ Tryz.func210 rfl (by kernel_rfl),fun xs hp w=>?_⟩
   match xs,hp with
   | [x,n,d],hp =>
    have hp':EnP x n d:=hp;have r:=nP hp'
    exact KJ x n d w ⟨by have:=hp'.1;omega,by have:=hp'.1;omega⟩ ⟨by have:=hp'.2.1;omega,by have:=hp'.2.1;omega⟩ r.2.2 hp'.2.2.1 (by have:=hp'.2.2.2;omega) ⟨by omega,by omega⟩ ⟨by omega,by omega⟩
 . refine ⟨ours _ _ _ Tryz.func283 rfl (by kernel_rfl),fun xs hp w=>?_⟩
   match xs,hp with
   | [x,n,d],hp =>
    have hp':EnP x n d:=hp;have r:=nP hp'
    refine (UD x n d w hp'.1 ⟨by have:=hp'.2.1;omega,by have:=hp'.2.1;omega⟩ hp'.2.2 r.1).mono ?_
    rintro e w' ⟨he,hb⟩;exact ⟨he,by rw [<-hb];exact Below.refl _ _⟩
 . refine ⟨ours _ _ _ Tryz.func230 rfl (by kernel_rfl),fun xs hp w=>?_⟩
   match xs,hp with
   | [a,b],_ =>
    refine (fJ a b w).mono ?_;rintro e w' ⟨he,hb⟩;exact ⟨by rw [he];exact congrArg Ending.returned (mQ _).symm,hb⟩
def adp (t:Tab):Nd->Option Rf:=fun _=>none
theorem bi (X:Cx):jA X adp:=fun v t x r ht h=>by cases h
theorem iy {X:Cx} {v:Nat->Int} {ext:Ext} (he:jA X ext) {l:List Nd} (hs:gV X v l.reverse) {ps:List (Nat × Rf)} (hp:∀ q∈ps,v q.1=q.2.val v) {k j:Nat} (h:Rf.eq ((norm ext ps [] l).rep (.n k)) ((norm ext ps [] l).rep (.n j))=true):v k=v j:=by
 have a:=jL (jE he hs hp aA) (.n k);have b:=jL (jE he hs hp aA) (.n j);rw [Rf.eq_eq h] at a;exact a.symm.trans b
theorem IP {n x y z:Int} (hx:x=b2i (decide (n>=(-1099511627776:Int)))) (hy:y=b2i (decide (n<=(1099511627776:Int)))) (hz:z=if x≠0 then y else (0:Int)):z=b2i (dQ n):=by
 rw [hz,hx,hy];unfold dQ
 by_cases h1:n>=(-1099511627776:Int)<;>by_cases h2:n<=(1099511627776:Int)<;>simp [b2i,h1,h2]<;>omega
theorem GJ {a b x:Int} (h:x=if b<a then b else a):x=min a b:=by omega
theorem GQ {a b x:Int} (h:x=if b>a then b else a):x=max a b:=by omega
def fV:List Nd:=[.arg 0,.arg 1,.arg 2,.arg 3,.arg 4,.app 8 0 [0,1],.app 8 0 [2,3],.ite 5 6 (.c 0),.ite 7 (.c 0) (.c 1),.bin .geq .i64 4 (.c (-1099511627776)),.bin .leq .i64 4 (.c 1099511627776),.ite 9 10 (.c 0),.ite 11 (.c 0) (.c 1),.bin .leq .i64 2 (.c 0),.bin .geq .i64 3 (.c 0),.ite 13 14 (.c 0),.ite 15 (.c 0) (.c 1),.ite 11 16 (.c 0),.ite 11 15 (.c 0),.ite 12 (.c 1) 18,.ite 12 (.c 2) (.c 16),.ite 8 (.c 0) (.c 1),.ite 21 17 (.c 0),.ite 21 19 (.c 0),.ite 8 (.c 1) 23,.ite 8 (.c 1) 20,.app 60 0 [0,4,2],.app 60 1 [0,4,2],.app 60 2 [0,4,2],.bin .neq .i64 28 (.c 0),.ite 29 (.c 0) (.c 1),.app 60 0 [0,4,3],.app 60 1 [0,4,3],.app 60 2 [0,4,3],.bin .neq .i64 33 (.c 0),.ite 34 (.c 0) (.c 1),.mn 26 31,.mx 27 32,.app 60 0 [1,4,2],.app 60 1 [1,4,2],.app 60 2 [1,4,2],.bin .neq .i64 40 (.c 0),.ite 41 (.c 0) (.c 1),.mn 36 38,.mx 37 39,.app 60 0 [1,4,3],.app 60 1 [1,4,3],.app 60 2 [1,4,3],.bin .neq .i64 47 (.c 0),.ite 48 (.c 0) (.c 1),.mn 43 45,.mx 44 46,.ite 42 48 (.c 0),.ite 42 49 (.c 0),.ite 41 (.c 1) 52,.ite 41 36 43,.ite 41 37 44,.ite 41 (.c 2) (.c 3),.ite 41 38 45,.ite 41 39 46,.ite 41 40 47,.ite 41 2 3,.ite 41 41 48,.ite 41 (.c 1) (.c 2),.ite 41 26 36,.ite 41 31 38,.ite 41 27 37,.ite 41 32 39,.ite 35 54 (.c 0),.ite 35 53 (.c 0),.ite 34 (.c 1) 68,.ite 34 26 55,.ite 34 27 56,.ite 34 (.c 1) 57,.ite 34 31 58,.ite 34 32 59,.ite 34 33 60,.ite 34 0 1,.ite 34 3 61,.ite 34 34 62,.ite 34 (.c 0) 63,.ite 34 26 64,.ite 34 26 65,.ite 34 27 66,.ite 34 27 67,.ite 30 70 (.c 0),.ite 30 69 (.c 0),.ite 29 (.c 1) 85,.ite 29 (.c 0) 71,.ite 29 (.c 0) 72,.ite 29 (.c 0) 73,.ite 29 26 74,.ite 29 27 75,.ite 29 28 76,.ite 29 0 77,.ite 29 2 78,.ite 29 29 79,.bin .geq .i64 50 (.c (-1099511627776)),.bin .leq .i64 50 (.c 1099511627776),.ite 97 98 (.c 0),.ite 99 (.c 0) (.c 1),.bin .geq .i64 51 (.c (-1099511627776)),.bin .leq .i64 51 (.c 1099511627776),.ite 101 102 (.c 0),.ite 103 (.c 0) (.c 1),.ite 100 (.c 1) 104,.ite 105 (.c 0) (.c 1),.ite 105 (.c 0) 50,.ite 105 (.c 0) 51,.ite 105 (.c 5) (.c 0),.ite 87 (.c 1) 86,.ite 87 (.c 0) 107,.ite 87 (.c 0) 108,.ite 87 (.c 5) 109,.ite 87 88 50,.ite 87 89 51,.ite 87 90 (.c 3),.ite 87 91 45,.ite 87 92 46,.ite 87 93 47,.ite 87 90 (.c 4),.ite 87 94 1,.ite 87 95 3,.ite 87 96 48,.ite 22 110 (.c 0),.ite 24 (.c 1) 124,.ite 24 (.c 0) 111,.ite 24 (.c 0) 112,.ite 24 25 113]
def Xd:List Vc:=[⟨[],.pre 8 [0,1]⟩,⟨[(5,true)],.pre 8 [2,3]⟩,⟨[(22,true)],.pre 60 [0,4,2]⟩,⟨[(30,true),(22,true)],.pre 60 [0,4,3]⟩,⟨[(35,true),(30,true),(22,true)],.pre 60 [1,4,2]⟩,⟨[(42,true),(35,true),(30,true),(22,true)],.pre 60 [1,4,3]⟩]
theorem XT:whole Tryz.prog TY 20 40 127 [(true,[some .i64,some .i64]),(true,[some .i64,some .i64]),(false,[some .i64])]=some (.tup [.c (.int .i64 (.n 126)),.c (.int .i64 (.n 127)),.c (.int .i64 (.n 128))],⟨fV.reverse,Xd.reverse⟩):=by kernel_rfl
theorem XC:wfN fV.reverse=true:=by kernel_rfl
theorem VH (a b c d n:Int) (w:World) (hp0:qoP a b c d n):Calls Tryz.prog 127 #[.agg #[.int .i64 a,.int .i64 b],.agg #[.int .i64 c,.int .i64 d],.int .i64 n] w fun e w'=>e=.returned (.tuple #[.int .i64 ((qoV a b c d n).getD 0 0),.int .i64 ((qoV a b c d n).getD 1 0),.int .i64 ((qoV a b c d n).getD 2 0)])/\Below w.heap.size w w':=by
 refine Sx.calls (X:=eY [a,b,c,d,n]) dG (IM _) XT XC (fun v hs=>?_) w
 obtain ⟨hab,hcd,c0,n0,n1⟩:=hp0;have ha:=(cz _ _).1 hab;have hc:=(cz _ _).1 hcd;have e0:v 0=a:=aa hs 0 rfl;have e1:v 1=b:=aa hs 1 rfl;have e2:v 2=c:=aa hs 2 rfl;have e3:v 3=d:=aa hs 3 rfl;have e4:v 4=n:=aa hs 4 rfl;have e5:v 5=b2i (fxV (v 0) (v 1)):=aa hs 5 rfl;have e6:v 6=b2i (fxV (v 2) (v 3)):=aa hs 6 rfl;have e9:v 9=b2i (decide (v 4>=(-1099511627776:Int))):=aa hs 9 rfl;have e10:v 10=b2i (decide (v 4<=(1099511627776:Int))):=aa hs 10 rfl;have e11:v 11=if v 9≠0 then v 10 else (0:Int):=aa hs 11 rfl
 have e13:v 13=b2i (decide (v 2<=(0:Int))):=aa hs 13 rfl;have e14:v 14=b2i (decide (v 3>=(0:Int))):=aa hs 14 rfl;have e26:v 26=(fH 60 [v 0,v 4,v 2]).getD 0 0:=aa hs 26 rfl;have e27:v 27=(fH 60 [v 0,v 4,v 2]).getD 1 0:=aa hs 27 rfl;have e28:v 28=(fH 60 [v 0,v 4,v 2]).getD 2 0:=aa hs 28 rfl;have e31:v 31=(fH 60 [v 0,v 4,v 3]).getD 0 0:=aa hs 31 rfl;have e32:v 32=(fH 60 [v 0,v 4,v 3]).getD 1 0:=aa hs 32 rfl;have e33:v 33=(fH 60 [v 0,v 4,v 3]).getD 2 0:=aa hs 33 rfl;have e36:v 36=if v 31<v 26 then v 31 else v 26:=aa hs 36 rfl
 have e37:v 37=if v 32>v 27 then v 32 else v 27:=aa hs 37 rfl
 have e38:v 38=(fH 60 [v 1,v 4,v 2]).getD 0 0:=aa hs 38 rfl;have e39:v 39=(fH 60 [v 1,v 4,v 2]).getD 1 0:=aa hs 39 rfl;have e40:v 40=(fH 60 [v 1,v 4,v 2]).getD 2 0:=aa hs 40 rfl;have e43:v 43=if v 38<v 36 then v 38 else v 36:=aa hs 43 rfl
 have e44:v 44=if v 39>v 37 then v 39 else v 37:=aa hs 44 rfl
 have e45:v 45=(fH 60 [v 1,v 4,v 3]).getD 0 0:=aa hs 45 rfl;have e46:v 46=(fH 60 [v 1,v 4,v 3]).getD 1 0:=aa hs 46 rfl;have e47:v 47=(fH 60 [v 1,v 4,v 3]).getD 2 0:=aa hs 47 rfl;have e50:v 50=if v 45<v 43 then v 45 else v 43:=aa hs 50 rfl
 have e51:v 51=if v 46>v 44 then v 46 else v 44:=aa hs 51 rfl
 have e97:v 97=b2i (decide (v 50>=(-1099511627776:Int))):=aa hs 97 rfl;have e98:v 98=b2i (decide (v 50<=(1099511627776:Int))):=aa hs 98 rfl;have e99:v 99=if v 97≠0 then v 98 else (0:Int):=aa hs 99 rfl
 have e101:v 101=b2i (decide (v 51>=(-1099511627776:Int))):=aa hs 101 rfl;have e102:v 102=b2i (decide (v 51<=(1099511627776:Int))):=aa hs 102 rfl;have e103:v 103=if v 101≠0 then v 102 else (0:Int):=aa hs 103 rfl
 have A5:v 5=1:=by rw [e5,e0,e1,hab];rfl
 have A6:v 6=1:=by rw [e6,e2,e3,hcd];rfl
 have A9:v 9=1:=by rw [e9,e4,decide_eq_true (show n>=(-1099511627776:Int) by omega)];rfl
 have A10:v 10=1:=by rw [e10,e4,decide_eq_true (show n<=(1099511627776:Int) by omega)];rfl
 by_cases hz:c<=0
 . have A13:v 13=1:=by rw [e13,e2,decide_eq_true hz];rfl
   have A14:v 14=1:=by rw [e14,e3,decide_eq_true (show d>=0 by omega)];rfl
   have z22:v 22=0:=ax (X:=eY [a,b,c,d,n]) (v:=v) (l:=fV) (bi _) hs (k:=22) (r:=.c 0) (ps:=[(5,.c 1),(6,.c 1),(9,.c 1),(10,.c 1),(13,.c 1),(14,.c 1)]) (nz:=[]) (ae A5 (ae A6 (ae A9 (ae A10 (ae A13 (ae A14 av)))))) aA (by kernel_rfl)
   have z126:v 126=0:=ax (X:=eY [a,b,c,d,n]) (v:=v) (l:=fV) (bi _) hs (k:=126) (r:=.c 0) (ps:=[(5,.c 1),(6,.c 1),(9,.c 1),(10,.c 1),(13,.c 1),(14,.c 1)]) (nz:=[]) (ae A5 (ae A6 (ae A9 (ae A10 (ae A13 (ae A14 av)))))) aA (by kernel_rfl)
   have z127:v 127=0:=ax (X:=eY [a,b,c,d,n]) (v:=v) (l:=fV) (bi _) hs (k:=127) (r:=.c 0) (ps:=[(5,.c 1),(6,.c 1),(9,.c 1),(10,.c 1),(13,.c 1),(14,.c 1)]) (nz:=[]) (ae A5 (ae A6 (ae A9 (ae A10 (ae A13 (ae A14 av)))))) aA (by kernel_rfl)
   have z128:v 128=16:=ax (X:=eY [a,b,c,d,n]) (v:=v) (l:=fV) (bi _) hs (k:=128) (r:=.c 16) (ps:=[(5,.c 1),(6,.c 1),(9,.c 1),(10,.c 1),(13,.c 1),(14,.c 1)]) (nz:=[]) (ae A5 (ae A6 (ae A9 (ae A10 (ae A13 (ae A14 av)))))) aA (by kernel_rfl)
   refine ⟨aS ?_,?_⟩
   . exact ag (fun _=>trivial) (ag (fun _=>trivial) (ag (fun hp=>absurd z22 (aj hp).1) (ag (fun hp=>absurd z22 (aj (aj hp).2).1) (ag (fun hp=>absurd z22 (aj (aj (aj hp).2).2).1) (ag (fun hp=>absurd z22 (aj (aj (aj (aj hp).2).2).2).1) (aR))))))
   . intro x hx0;have hx':=bE (v:=v) (by rfl) hx0
     rw [hx'];show Value.tuple #[.int .i64 (v 126),.int .i64 (v 127),.int .i64 (v 128)]=_;have V:qoV a b c d n=[0,0,16]:=if_pos hz;rw [z126,z127,z128,V];rfl
 . have A13:v 13=0:=by rw [e13,e2,decide_eq_false hz];rfl
   have P1:EnP (v 0) (v 4) (v 2):=by rw [e0,e4,e2];exact ⟨by omega,by omega,by omega⟩
   have P2:EnP (v 0) (v 4) (v 3):=by rw [e0,e4,e3];exact ⟨by omega,by omega,by omega⟩
   have P3:EnP (v 1) (v 4) (v 2):=by rw [e1,e4,e2];exact ⟨by omega,by omega,by omega⟩
   have P4:EnP (v 1) (v 4) (v 3):=by rw [e1,e4,e3];exact ⟨by omega,by omega,by omega⟩
   have E28:v 28=0:=e28;have E33:v 33=0:=e33;have E40:v 40=0:=e40;have E47:v 47=0:=e47;have f26:v 26=qFl a n c:=by rw [e26,e0,e4,e2];rfl
   have f31:v 31=qFl a n d:=by rw [e31,e0,e4,e3];rfl
   have f38:v 38=qFl b n c:=by rw [e38,e1,e4,e2];rfl
   have f45:v 45=qFl b n d:=by rw [e45,e1,e4,e3];rfl
   have f27:v 27=qCe a n c:=by rw [e27,e0,e4,e2];rfl
   have f32:v 32=qCe a n d:=by rw [e32,e0,e4,e3];rfl
   have f39:v 39=qCe b n c:=by rw [e39,e1,e4,e2];rfl
   have f46:v 46=qCe b n d:=by rw [e46,e1,e4,e3];rfl
   have L:v 50=qoL a b c d n:=by
    rw [GJ e50,GJ e43,GJ e36,f26,f31,f38,f45];rfl
   have H:v 51=qoH a b c d n:=by
    rw [GQ e51,GQ e44,GQ e37,f27,f32,f39,f46];rfl
   have B1:v 99=b2i (dQ (qoL a b c d n)):=by rw [<-L];exact IP e97 e98 e99
   have B2:v 103=b2i (dQ (qoH a b c d n)):=by rw [<-H];exact IP e101 e102 e103
   refine ⟨aS ?_,?_⟩
   . exact ag (fun _=>trivial) (ag (fun _=>trivial) (ag (fun _=>P1) (ag (fun _=>P2) (ag (fun _=>P3) (ag (fun _=>P4) (aR))))))
   . intro x hx0;have hx':=bE (v:=v) (by rfl) hx0
     rw [hx'];show Value.tuple #[.int .i64 (v 126),.int .i64 (v 127),.int .i64 (v 128)]=_;cases h1:dQ (qoL a b c d n)
     . have b1:v 99=0:=by rw [B1,h1];rfl
       have z126:v 126=0:=ax (X:=eY [a,b,c,d,n]) (v:=v) (l:=fV) (bi _) hs (k:=126) (r:=.c 0) (ps:=[(5,.c 1),(6,.c 1),(9,.c 1),(10,.c 1),(13,.c 0),(28,.c 0),(33,.c 0),(40,.c 0),(47,.c 0),(99,.c 0)]) (nz:=[]) (ae A5 (ae A6 (ae A9 (ae A10 (ae A13 (ae E28 (ae E33 (ae E40 (ae E47 (ae b1 av)))))))))) aA (by kernel_rfl)
       have z127:v 127=0:=ax (X:=eY [a,b,c,d,n]) (v:=v) (l:=fV) (bi _) hs (k:=127) (r:=.c 0) (ps:=[(5,.c 1),(6,.c 1),(9,.c 1),(10,.c 1),(13,.c 0),(28,.c 0),(33,.c 0),(40,.c 0),(47,.c 0),(99,.c 0)]) (nz:=[]) (ae A5 (ae A6 (ae A9 (ae A10 (ae A13 (ae E28 (ae E33 (ae E40 (ae E47 (ae b1 av)))))))))) aA (by kernel_rfl)
       have z128:v 128=5:=ax (X:=eY [a,b,c,d,n]) (v:=v) (l:=fV) (bi _) hs (k:=128) (r:=.c 5) (ps:=[(5,.c 1),(6,.c 1),(9,.c 1),(10,.c 1),(13,.c 0),(28,.c 0),(33,.c 0),(40,.c 0),(47,.c 0),(99,.c 0)]) (nz:=[]) (ae A5 (ae A6 (ae A9 (ae A10 (ae A13 (ae E28 (ae E33 (ae E40 (ae E47 (ae b1 av)))))))))) aA (by kernel_rfl)
       have V:qoV a b c d n=[0,0,5]:=by
        unfold qoV;rw [if_neg hz,if_neg (fun q=>by rw [h1] at q;exact absurd q.1 (by decide))]
       rw [z126,z127,z128,V];rfl
     . cases h2:dQ (qoH a b c d n)
       . have b1:v 99=1:=by rw [B1,h1];rfl
         have b2:v 103=0:=by rw [B2,h2];rfl
         have z126:v 126=0:=ax (X:=eY [a,b,c,d,n]) (v:=v) (l:=fV) (bi _) hs (k:=126) (r:=.c 0) (ps:=[(5,.c 1),(6,.c 1),(9,.c 1),(10,.c 1),(13,.c 0),(28,.c 0),(33,.c 0),(40,.c 0),(47,.c 0),(99,.c 1),(103,.c 0)]) (nz:=[]) (ae A5 (ae A6 (ae A9 (ae A10 (ae A13 (ae E28 (ae E33 (ae E40 (ae E47 (ae b1 (ae b2 av))))))))))) aA (by kernel_rfl)
         have z127:v 127=0:=ax (X:=eY [a,b,c,d,n]) (v:=v) (l:=fV) (bi _) hs (k:=127) (r:=.c 0) (ps:=[(5,.c 1),(6,.c 1),(9,.c 1),(10,.c 1),(13,.c 0),(28,.c 0),(33,.c 0),(40,.c 0),(47,.c 0),(99,.c 1),(103,.c 0)]) (nz:=[]) (ae A5 (ae A6 (ae A9 (ae A10 (ae A13 (ae E28 (ae E33 (ae E40 (ae E47 (ae b1 (ae b2 av))))))))))) aA (by kernel_rfl)
         have z128:v 128=5:=ax (X:=eY [a,b,c,d,n]) (v:=v) (l:=fV) (bi _) hs (k:=128) (r:=.c 5) (ps:=[(5,.c 1),(6,.c 1),(9,.c 1),(10,.c 1),(13,.c 0),(28,.c 0),(33,.c 0),(40,.c 0),(47,.c 0),(99,.c 1),(103,.c 0)]) (nz:=[]) (ae A5 (ae A6 (ae A9 (ae A10 (ae A13 (ae E28 (ae E33 (ae E40 (ae E47 (ae b1 (ae b2 av))))))))))) aA (by kernel_rfl)
         have V:qoV a b c d n=[0,0,5]:=by
          unfold qoV;rw [if_neg hz,if_neg (fun q=>by rw [h2] at q;exact absurd q.2 (by decide))]
         rw [z126,z127,z128,V];rfl
       . have b1:v 99=1:=by rw [B1,h1];rfl
         have b2:v 103=1:=by rw [B2,h2];rfl
         have z126:v 126=v 50:=iy (X:=eY [a,b,c,d,n]) (v:=v) (l:=fV) (bi _) hs (k:=126) (j:=50) (ps:=[(5,.c 1),(6,.c 1),(9,.c 1),(10,.c 1),(13,.c 0),(28,.c 0),(33,.c 0),(40,.c 0),(47,.c 0),(99,.c 1),(103,.c 1)]) (ae A5 (ae A6 (ae A9 (ae A10 (ae A13 (ae E28 (ae E33 (ae E40 (ae E47 (ae b1 (ae b2 av))))))))))) (by kernel_rfl)
         have z127:v 127=v 51:=iy (X:=eY [a,b,c,d,n]) (v:=v) (l:=fV) (bi _) hs (k:=127) (j:=51) (ps:=[(5,.c 1),(6,.c 1),(9,.c 1),(10,.c 1),(13,.c 0),(28,.c 0),(33,.c 0),(40,.c 0),(47,.c 0),(99,.c 1),(103,.c 1)]) (ae A5 (ae A6 (ae A9 (ae A10 (ae A13 (ae E28 (ae E33 (ae E40 (ae E47 (ae b1 (ae b2 av))))))))))) (by kernel_rfl)
         have z128:v 128=0:=ax (X:=eY [a,b,c,d,n]) (v:=v) (l:=fV) (bi _) hs (k:=128) (r:=.c 0) (ps:=[(5,.c 1),(6,.c 1),(9,.c 1),(10,.c 1),(13,.c 0),(28,.c 0),(33,.c 0),(40,.c 0),(47,.c 0),(99,.c 1),(103,.c 1)]) (nz:=[]) (ae A5 (ae A6 (ae A9 (ae A10 (ae A13 (ae E28 (ae E33 (ae E40 (ae E47 (ae b1 (ae b2 av))))))))))) aA (by kernel_rfl)
         have V:qoV a b c d n=[qoL a b c d n,qoH a b c d n,0]:=by
          unfold qoV;rw [if_neg hz,if_pos ⟨h1,h2⟩]
         rw [z126,z127,z128,V,L,H];rfl
