/- The law MidlatitudeBack: the leg of what a leg has as difference of latitude and departure contains it. -/
import Derived.Test.YtmldbeipmappnaaZMbT
import Derived.Test.YtmldbeipmappnaaZQuot
import Derived.Test.YtmldbeipmappnaaZDep
import Derived.Test.YtmldbeipmappnaaZAwake44
import Derived.Test.YtmldbeipmappnaaZCosP
set_option linter.unusedVariables false
set_option linter.unusedSimpArgs false
set_option maxRecDepth 100000
set_option maxHeartbeats 8000000
namespace Go.Proofs.Ytmldbeipmappnaa
open Go.RowKit Alm Sx
theorem ajz:aiI 0 0 0 0=[0,21600000,0,0,0]:=by decide +kernel
theorem akD {c D:Int} (hl:aiu c c D D=true):∃ a b e f,aii c c D D=[a,b,e,f,0] /\
 ((D>549755813888/\aig a b e f=[0,0,0,0,5])∨∃ l h r s,aig a b e f=[l,h,r,s,0]/\(0<=l/\l<=21599999/\l<=h/\h<=l+21600000)/\(0<=r/\r<=D/\D<=s/\s<=1099511627776)/\(21600000<=h-l∨(c-l)%21600000<=h-l)/\(100<=D->s-r<=8+D/10000000)):=by
 have hp:cu c c=true/\cu D D=true/\0<=D:=by
  unfold aiu at hl;simp only [Bool.and_eq_true,decide_eq_true_eq] at hl;exact ⟨hl.1,hl.2.1,hl.2.2⟩
 have hD:0<=D/\D<=1099511627776:=⟨hp.2.2,((cK _ _).1 hp.2.1).2.2⟩;have w1:=aiY (c+5400000);have w2:=aiY c;have b1:=lQ (c+5400000);have b2:=lQ c;have X:=ajV (lo:=ah3 c c) (hi:=ah4 c c) (t:=cg c) (by unfold ah3 ah4;rw [w1.1,w1.2];exact ⟨b1.1,b1.2.1,b1.2.2.1,b1.2.2.2⟩) hD (lM c c c (.inl rfl))
 have Y:=ajV (lo:=bU c c) (hi:=bW c c) (t:=sg c) (by rw [w2.1,w2.2];exact ⟨b2.1,b2.2.1,b2.2.2.1,b2.2.2.2⟩) hD (CG c c c (.inl rfl))
 clear w1 w2 b1 b2;obtain ⟨X1,X2,X3,X4⟩:=X;obtain ⟨Y1,Y2,Y3,Y4⟩:=Y
 have e1:aii c c D D=[aic (ah3 c c) (ah4 c c) D D,aib (ah3 c c) (ah4 c c) D D,aic (bU c c) (bW c c) D D,aib (bU c c) (bW c c) D D,0]:=by
  unfold aii aj1;rw [if_pos hl,if_pos ⟨(cK _ _).2 ⟨by omega,by omega,by omega⟩,(cK _ _).2 ⟨by omega,by omega,by omega⟩⟩]
 refine ⟨_,_,_,_,e1,?_⟩;clear e1;generalize aic (ah3 c c) (ah4 c c) D D=a at *
 generalize aib (ah3 c c) (ah4 c c) D D=b at *
 generalize aic (bU c c) (bW c c) D D=e at *
 generalize aib (bU c c) (bW c c) D D=f at *
 have e2:aig a b e f=aiI a b e f:=if_pos ⟨(cK _ _).2 ⟨by omega,by omega,by omega⟩,(cK _ _).2 ⟨by omega,by omega,by omega⟩⟩
 rw [e2];clear e2
 by_cases d0:D=0
 . have:a=0/\b=0/\e=0/\f=0:=by omega
   obtain ⟨rfl,rfl,rfl,rfl⟩:=this
   right
   refine ⟨0,21600000,0,0,ajz,by omega,by omega,.inl (by omega),by omega⟩
 . obtain ⟨m,hm⟩:∃ m,m=lvM a b e f:=⟨_,rfl⟩;have hm':m=max (max (max b (-a)) f) (-e):=hm;have un:cg c*cg c+sg c*sg c=1:=by have:=cO c;grind
   have M:=ak9 (a:=a) (b:=b) (e:=e) (f:=f) (D:=D) (m:=m) un (by omega) hD.2 X3 X4 Y3 Y4 (by omega) (by omega) (by omega) (by omega) (by omega)
   have G:=ajW (a:=a) (b:=b) (e:=e) (f:=f) (D:=D) (m:=m) M.1 (by omega) hD.2 M.2 un (by omega) (by omega) X3 X4 Y3 Y4 X2 Y2
   have ev:aiI a b e f=lvP (lvX a m) (lvY b m) (lvX e m) (lvY f m) m:=by unfold aiI;rw [<-hm,if_neg (by omega)]
   have cx:=ai2 (a:=a) (b:=b) (m:=m) (by omega) (by omega)
   have cy:=ai2 (a:=e) (b:=f) (m:=m) (by omega) (by omega)
   rw [ev];clear ev;have mo:=ais;have u1:=fe;have m1:(1:Rat)<=m:=ah6 (p:=1) M.1;have mi:(m:Rat)*(m:Rat)⁻¹=1:=Rat.mul_inv_cancel _ (by grind)
   obtain ⟨q,hq⟩:∃ q:Rat,q=D*(m:Rat)⁻¹:=⟨_,rfl⟩;have eq:q*m=D:=by rw [hq,Rat.mul_assoc,Rat.mul_comm (m:Rat)⁻¹,mi,Rat.mul_one]
   have q0:0<=q:=by
    refine Rat.not_lt.1 fun k=>?_
    have:=Rat.mul_pos (show 0 < -q by grind) (show 0<(m:Rat) by grind)
    have:=ah6 hD.1;rw [show ((0:Int):Rat)=0 from rfl] at this
    clear hq mi un;grind
   have BX:=aiE M.1 eq X3 X4;have BY:=aiE M.1 eq Y3 Y4;clear hq mi X3 X4 Y3 Y4 un m1 X2 Y2;have R0:lvP (lvX a m) (lvY b m) (lvX e m) (lvY f m) m=if dI (lvR (lvX a m) (lvY b m) (lvX e m) (lvY f m) 0) (lvR (lvX a m) (lvY b m) (lvX e m) (lvY f m) 1) m>1099511627776 then [0,0,0,0,5] else [aV (lvX e m) (lvY f m) (lvX a m) (lvY b m),bI (lvX e m) (lvY f m) (lvX a m) (lvY b m),dM (lvR (lvX a m) (lvY b m) (lvX e m) (lvY f m) 0) (lvR (lvX a m) (lvY b m) (lvX e m) (lvY f m) 1) m,dI (lvR (lvX a m) (lvY b m) (lvX e m) (lvY f m) 0) (lvR (lvX a m) (lvY b m) (lvX e m) (lvY f m) 1) m,0]:=rfl
   rw [R0];clear R0
   have SC:0<=dM (lvR (lvX a m) (lvY b m) (lvX e m) (lvY f m) 0) (lvR (lvX a m) (lvY b m) (lvX e m) (lvY f m) 1) m:=by
    have L:=ajT cx.1 cx.2.1 cy.1 cy.2.1;have F:=aiF (n:=max 0 (sqL (lvX a m) (lvY b m)+sqL (lvX e m) (lvY f m))*1073741824) (k:=(sqH (lvX a m) (lvY b m)+sqH (lvX e m) (lvY f m))*1073741824) (by omega) (by omega) (by omega)
    have H:rtV ((sqH (lvX a m) (lvY b m)+sqH (lvX e m) (lvY f m))*1073741824)<=rtH (sqL (lvX a m) (lvY b m)+sqL (lvX e m) (lvY f m)) (sqH (lvX a m) (lvY b m)+sqH (lvX e m) (lvY f m)):=by unfold rtH;split<;>omega
    have LL:rtL (sqL (lvX a m) (lvY b m)+sqL (lvX e m) (lvY f m)) (sqH (lvX a m) (lvY b m)+sqH (lvX e m) (lvY f m))=rtV (max 0 (sqL (lvX a m) (lvY b m)+sqL (lvX e m) (lvY f m))*1073741824):=rfl;exact (akY (by rw [L.1,L.2.1,LL];omega) (by omega)).1
   have BB:=iT (lvX e m) (lvY f m) (lvX a m) (lvY b m)
   have BH:21600000<=bI (lvX e m) (lvY f m) (lvX a m) (lvY b m)-aV (lvX e m) (lvY f m) (lvX a m) (lvY b m)∨(c-aV (lvX e m) (lvY f m) (lvX a m) (lvY b m))%21600000<=bI (lvX e m) (lvY f m) (lvX a m) (lvY b m)-aV (lvX e m) (lvY f m) (lvX a m) (lvY b m):=by
    by_cases eo:fK (lvX e m) (lvY f m) (lvX a m) (lvY b m)=true
    . left
      have z1:bI (lvX e m) (lvY f m) (lvX a m) (lvY b m)=21600000:=by unfold bI;rw [if_pos eo]
      have z2:aV (lvX e m) (lvY f m) (lvX a m) (lvY b m)=0:=by unfold aV;rw [if_pos eo]
      rw [z1,z2];decide
    . right
      have z:∀ w:Rat,w*u30*1073741824=w:=fun w=>by rw [Rat.mul_assoc,Rat.mul_comm u30,u1,Rat.mul_one]
      have tiny:mt*1073741824<=1/40000000:=by unfold mt;decide +kernel
      have zx:=z (lvX a m);have zy:=z (lvY b m);have wx:=z (lvX e m);have wy:=z (lvY f m);refine bear_holds (r:=q*1073741824) cy.2.2 cx.2.2 (by omega) (by omega) (by simpa using eo) (by grind) ?_ ?_ ?_ ?_
      . clear zy wx wy z cx cy BB SC G;grind
      . clear zx wx wy z cx cy BB SC G;grind
      . clear zx zy wy z cx cy BB SC G;grind
      . clear zx zy wx z cx cy BB SC G;grind
   clear cx cy BX BY q0 eq u1 mo;generalize aV (lvX e m) (lvY f m) (lvX a m) (lvY b m)=l at *
   generalize bI (lvX e m) (lvY f m) (lvX a m) (lvY b m)=h at *
   generalize dM (lvR (lvX a m) (lvY b m) (lvX e m) (lvY f m) 0) (lvR (lvX a m) (lvY b m) (lvX e m) (lvY f m) 1) m=r at *
   generalize dI (lvR (lvX a m) (lvY b m) (lvX e m) (lvY f m) 0) (lvR (lvX a m) (lvY b m) (lvX e m) (lvY f m) 1) m=s at *
   by_cases far:s>1099511627776
   . left;rw [if_pos far];exact ⟨by omega,rfl⟩
   . right;rw [if_neg far]
     exact ⟨l,h,r,s,rfl,BB,⟨SC,G.1,G.2.1,by omega⟩,BH,G.2.2.2⟩
def dpP (lo hi x y:Int):List Int:=if aik lo hi=true/\cu x y=true then (if cu (aic (ah3 lo hi) (ah4 lo hi) x y) (aib (ah3 lo hi) (ah4 lo hi) x y)=true then [aic (ah3 lo hi) (ah4 lo hi) x y,aib (ah3 lo hi) (ah4 lo hi) x y,0] else [0,0,5]) else [0,0,1]
def dlP (lo hi x y:Int):List Int:=if aik lo hi=true/\cu x y=true then (if ah3 lo hi<=0 then [0,0,21] else if (ail (ah3 lo hi) (ah4 lo hi) x&&ail (ah3 lo hi) (ah4 lo hi) y)=true then [min (aiq (ah3 lo hi) (ah4 lo hi) x) (aiq (ah3 lo hi) (ah4 lo hi) y),max (ain (ah3 lo hi) (ah4 lo hi) x) (ain (ah3 lo hi) (ah4 lo hi) y),0] else [0,0,5]) else [0,0,1]
theorem akZ (lo hi x y:Int) (w:World):Calls Try.prog 47 #[.agg #[.int .i64 lo,.int .i64 hi],.agg #[.int .i64 x,.int .i64 y]] w fun e w'=>e=.returned (.tuple #[.agg #[.int .i64 ((dpP lo hi x y).getD 0 0),.int .i64 ((dpP lo hi x y).getD 1 0)],.int .i64 ((dpP lo hi x y).getD 2 0)])/\Below w.heap.size w w':=by
 by_cases hl:aik lo hi=true
 . by_cases ha:cu x y=true
   . have C:=aiG lo hi x y w hl ha;unfold dpP;rw [if_pos ⟨hl,ha⟩];unfold aiR at C
     by_cases hk:cu (aic (ah3 lo hi) (ah4 lo hi) x y) (aib (ah3 lo hi) (ah4 lo hi) x y)=true
     . rw [if_pos hk] at C;rw [if_pos hk];exact C
     . rw [if_neg hk] at C;rw [if_neg hk];exact C
   . unfold dpP;rw [if_neg (fun q=>ha q.2)]
     exact ait lo hi x y w hl (by simpa using ha)
 . unfold dpP;rw [if_neg (fun q=>hl q.1)]
   exact aiv lo hi x y w (by simpa using hl)
theorem akX (lo hi x y:Int) (w:World):Calls Try.prog 48 #[.agg #[.int .i64 lo,.int .i64 hi],.agg #[.int .i64 x,.int .i64 y]] w fun e w'=>e=.returned (.tuple #[.agg #[.int .i64 ((dlP lo hi x y).getD 0 0),.int .i64 ((dlP lo hi x y).getD 1 0)],.int .i64 ((dlP lo hi x y).getD 2 0)])/\Below w.heap.size w w':=by
 by_cases hl:aik lo hi=true
 . by_cases ha:cu x y=true
   . have C:=akg lo hi x y w hl ha;unfold dlP;rw [if_pos ⟨hl,ha⟩];unfold dlV at C
     by_cases h0:ah3 lo hi<=0
     . rw [if_pos h0] at C;rw [if_pos h0];exact C
     . rw [if_neg h0] at C;rw [if_neg h0]
       by_cases hk:(ail (ah3 lo hi) (ah4 lo hi) x&&ail (ah3 lo hi) (ah4 lo hi) y)=true
       . rw [if_pos hk] at C;rw [if_pos hk];exact C
       . rw [if_neg hk] at C;rw [if_neg hk];exact C
   . unfold dlP;rw [if_neg (fun q=>ha q.2)]
     exact aiU lo hi x y w hl (by simpa using ha)
 . unfold dlP;rw [if_neg (fun q=>hl q.1)]
   exact aiT lo hi x y w (by simpa using hl)
theorem akJ (lat k:Int):dpP lat lat k k=[0,0,1]∨dpP lat lat k k=[0,0,5]∨∃ x y,dpP lat lat k k=[x,y,0]/\(dlP lat lat x y=[0,0,21]∨dlP lat lat x y=[0,0,5]∨∃ s t,dlP lat lat x y=[s,t,0]/\s<=k/\k<=t):=by
 by_cases h:aik lat lat=true/\cu k k=true
 rotate_left
 . left;exact if_neg h
 right
 have e1:dpP lat lat k k=if cu (aic (ah3 lat lat) (ah4 lat lat) k k) (aib (ah3 lat lat) (ah4 lat lat) k k)=true then [aic (ah3 lat lat) (ah4 lat lat) k k,aib (ah3 lat lat) (ah4 lat lat) k k,0] else [0,0,5]:=if_pos h
 rw [e1];clear e1
 by_cases ha:cu (aic (ah3 lat lat) (ah4 lat lat) k k) (aib (ah3 lat lat) (ah4 lat lat) k k)=true
 rotate_left
 . left;exact if_neg ha
 right
 rw [if_pos ha];refine ⟨_,_,rfl,?_⟩;have e2:dlP lat lat (aic (ah3 lat lat) (ah4 lat lat) k k) (aib (ah3 lat lat) (ah4 lat lat) k k)=_:=if_pos ⟨h.1,ha⟩;rw [e2];clear e2 h ha
 by_cases h0:ah3 lat lat<=0
 . left;exact if_pos h0
 right
 rw [if_neg h0];generalize hx:aic (ah3 lat lat) (ah4 lat lat) k k=x;generalize hy:aib (ah3 lat lat) (ah4 lat lat) k k=y;generalize ah3 lat lat=b1 at *
 generalize ah4 lat lat=b2 at *
 by_cases hk:(ail b1 b2 x&&ail b1 b2 y)=true
 rotate_left
 . left;exact if_neg hk
 right
 rw [if_pos hk];refine ⟨_,_,rfl,?_⟩;have fx:x<=b1*k/1073741824:=by rw [<-hx];unfold aic dM qFl;omega
 have fy:-(-(b1*k)/1073741824)<=y:=by rw [<-hy];unfold aib dI qCe;omega
 have gx:aiq b1 b2 x<=1073741824*x/b1:=by unfold aiq qFl;omega
 have gy:-(-(1073741824*y)/b1)<=ain b1 b2 y:=by unfold ain qCe;omega
 have t1:1073741824*x/b1<=k:=Int.ediv_le_of_le_mul (by omega) (by rw [Int.mul_comm k];omega)
 have t2:-(1073741824*y)/b1<=-k:=Int.ediv_le_of_le_mul (by omega) (by rw [Int.neg_mul,Int.mul_comm k];omega)
 omega
theorem ajS {x r c u z:Int} (hx:-1099511627776<=x/\x<=1099511627776) (hr:r=Int.tmod x 21600000) (hc:c=b2i (decide (r<0))) (hu:u=IntKind.i64.wrap (r+21600000)) (hz:z=if c≠0 then u else r):z=x%21600000:=by
 have e:(Int.tmod x 21600000=x%21600000/\0<=x%21600000)∨(Int.tmod x 21600000=x%21600000-21600000/\x%21600000<21600000):=by
  rw [Int.tmod_eq_emod];split
  . left;omega
  . right;omega
 rw [<-hr] at e;rw [Go.IntWalk.i64_in _ (by omega)] at hu
 by_cases q:r<0
 . rw [decide_eq_true q] at hc;rw [hz,hc,if_pos (by decide),hu];omega
 . rw [decide_eq_false q] at hc;rw [hz,hc,if_neg (by decide)];omega
def kMb (f:Nat):Bool:=f==120 || (f==121 || (f==122 || f==123))
def ak5:Nat->List Int->List Int
 | 120,[a,b,c,d]=>[(aii a b c d).getD 0 0,(aii a b c d).getD 1 0,(aii a b c d).getD 2 0,(aii a b c d).getD 3 0,(aii a b c d).getD 4 0]
 | 121,[a,b,c,d]=>[(aig a b c d).getD 0 0,(aig a b c d).getD 1 0,(aig a b c d).getD 2 0,(aig a b c d).getD 3 0,(aig a b c d).getD 4 0]
 | 122,[a,b,c,d]=>[(dpP a b c d).getD 0 0,(dpP a b c d).getD 1 0,(dpP a b c d).getD 2 0]
 | 123,[a,b,c,d]=>[(dlP a b c d).getD 0 0,(dlP a b c d).getD 1 0,(dlP a b c d).getD 2 0]
 | _,_=>[]
def akS:Nat->List Int->Prop
 | 120,[_,_,_,_]=>True
 | 121,[_,_,_,_]=>True
 | 122,[_,_,_,_]=>True
 | 123,[_,_,_,_]=>True
 | _,_=>False
def ah7 (args:List Int):Cx:=(cxE args).plus kMb ak5 akS
theorem aks (args:List Int):om (ah7 args):=jg (adk args) fun f h=>by
 unfold kMb;rcases h with h|rfl
 . simp;omega
 . rfl
def akG:Sx.Spec:=⟨42,120,[(true,[some .i64,some .i64,some .i64,some .i64])],[(true,[some .i64,some .i64]),(true,[some .i64,some .i64]),(false,[some .i64])]⟩
def aj3:Sx.Spec:=⟨43,121,[(true,[some .i64,some .i64]),(true,[some .i64,some .i64])],[(true,[some .i64,some .i64,some .i64,some .i64]),(false,[some .i64])]⟩
def akH:Sx.Spec:=⟨47,122,[(true,[some .i64,some .i64]),(true,[some .i64,some .i64])],[(true,[some .i64,some .i64]),(false,[some .i64])]⟩
def akm:Sx.Spec:=⟨48,123,[(true,[some .i64,some .i64]),(true,[some .i64,some .i64])],[(true,[some .i64,some .i64]),(false,[some .i64])]⟩
def akQ:Sx.Spec:=⟨40,20,[],[(false,[none])]⟩
def ajZ:List Sx.Spec:=[akQ,akG,aj3,akH,akm]
theorem ajF (args:List Int):∀ s∈ajZ,aH Try.prog (ah7 args) s:=by
 intro s hs;simp only [ajZ,List.mem_cons,List.not_mem_nil,or_false] at hs;rcases hs with rfl|rfl|rfl|rfl|rfl
 . refine eT rfl ⟨ours _ _ _ Try.func40 rfl (by kernel_rfl),fun xs hp w=>?_⟩
   have hp':preB 20 xs:=hp;rw [abQ hp'];exact ai4 w
 . refine dV rfl (ours _ _ _ Try.func42 rfl (by kernel_rfl)) fun xs hp w=>?_
   match xs,hp with
   | [a,b,c,d],hp=>exact ai9 a b c d w
 . refine dV rfl (ours _ _ _ Try.func43 rfl (by kernel_rfl)) fun xs hp w=>?_
   match xs,hp with
   | [a,b,c,d],hp=>exact ajb a b c d w
 . refine dV rfl (ours _ _ _ Try.func47 rfl (by kernel_rfl)) fun xs hp w=>?_
   match xs,hp with
   | [a,b,c,d],hp=>exact akZ a b c d w
 . refine dV rfl (ours _ _ _ Try.func48 rfl (by kernel_rfl)) fun xs hp w=>?_
   match xs,hp with
   | [a,b,c,d],hp=>exact akX a b c d w
def ajM (t:Tab):Nd->Option Rf
 | .app 20 0 []=>some (.c 1)
 | x=>vE t x
theorem aih (args:List Int):gJ (ah7 args) ajM:=by
 intro v t x r ht h;unfold ajM at h;split at h
 . cases h;rfl
 . exact iU (aks args) v t x r ht h
def ah5:List Nd:=[
 .arg 0,
 .arg 1,
 .arg 2,
 .arg 3,
 .app 20 0 [],
 .ite (.n 4) (.c 0) (.c 1),
 .ite (.n 5) (.c 0) (.c 1),
 .app 120 0 [.n 0,.n 0,.n 1,.n 1],
 .app 120 1 [.n 0,.n 0,.n 1,.n 1],
 .app 120 2 [.n 0,.n 0,.n 1,.n 1],
 .app 120 3 [.n 0,.n 0,.n 1,.n 1],
 .app 120 4 [.n 0,.n 0,.n 1,.n 1],
 .bin .eql .i64 (.n 11) (.c 0),
 .app 121 0 [.n 7,.n 8,.n 9,.n 10],
 .app 121 1 [.n 7,.n 8,.n 9,.n 10],
 .app 121 2 [.n 7,.n 8,.n 9,.n 10],
 .app 121 3 [.n 7,.n 8,.n 9,.n 10],
 .app 121 4 [.n 7,.n 8,.n 9,.n 10],
 .bin .gtr .i64 (.n 1) (.c 549755813888),
 .bin .eql .i64 (.n 17) (.c 5),
 .ite (.n 18) (.n 19) (.c 0),
 .bin .eql .i64 (.n 13) (.c 0),
 .bin .eql .i64 (.n 14) (.c 0),
 .bin .eql .i64 (.n 15) (.c 0),
 .bin .eql .i64 (.n 16) (.c 0),
 .ite (.n 23) (.n 24) (.c 0),
 .ite (.n 22) (.n 25) (.c 0),
 .ite (.n 21) (.n 26) (.c 0),
 .ite (.n 20) (.c 0) (.c 1),
 .bin .neq .i64 (.n 17) (.c 0),
 .bin .leq .i64 (.n 15) (.n 1),
 .bin .leq .i64 (.n 1) (.n 16),
 .ite (.n 30) (.n 31) (.c 0),
 .ite (.n 32) (.c 0) (.c 1),
 .ite (.n 29) (.c 1) (.n 33),
 .bin .rem .i64 (.n 0) (.c 21600000),
 .bin .lss .i64 (.n 35) (.c 0),
 .bin .add .i64 (.n 35) (.c 21600000),
 .ite (.n 36) (.c 0) (.c 1),
 .ite (.n 36) (.n 37) (.n 35),
 .bin .sub .i64 (.n 14) (.n 13),
 .bin .geq .i64 (.n 40) (.c 21600000),
 .bin .sub .i64 (.n 39) (.n 13),
 .bin .rem .i64 (.n 42) (.c 21600000),
 .bin .lss .i64 (.n 43) (.c 0),
 .bin .add .i64 (.n 43) (.c 21600000),
 .ite (.n 44) (.c 0) (.c 1),
 .ite (.n 44) (.n 45) (.n 43),
 .bin .add .i64 (.n 47) (.n 39),
 .bin .sub .i64 (.n 48) (.n 39),
 .bin .leq .i64 (.n 49) (.n 40),
 .ite (.n 41) (.c 1) (.n 50),
 .ite (.n 51) (.c 0) (.c 1),
 .ite (.n 34) (.c 1) (.n 52),
 .bin .geq .i64 (.n 1) (.c 100),
 .bin .sub .i64 (.n 16) (.n 15),
 .bin .quo .i64 (.n 1) (.c 10000000),
 .bin .add .i64 (.c 8) (.n 56),
 .bin .gtr .i64 (.n 55) (.n 57),
 .ite (.n 54) (.n 58) (.c 0),
 .ite (.n 53) (.c 1) (.n 59),
 .ite (.n 60) (.c 0) (.c 1),
 .ite (.n 28) (.n 61) (.c 0),
 .ite (.n 28) (.n 60) (.c 0),
 .ite (.n 20) (.c 1) (.n 63),
 .ite (.n 20) (.n 27) (.c 0),
 .ite (.n 12) (.n 62) (.c 0),
 .ite (.n 12) (.n 64) (.c 0),
 .ite (.n 12) (.c 0) (.c 1),
 .ite (.n 66) (.c 1) (.n 68),
 .app 122 0 [.n 2,.n 2,.n 3,.n 3],
 .app 122 1 [.n 2,.n 2,.n 3,.n 3],
 .app 122 2 [.n 2,.n 2,.n 3,.n 3],
 .bin .neq .i64 (.n 72) (.c 0),
 .bin .eql .i64 (.n 70) (.c 0),
 .bin .eql .i64 (.n 71) (.c 0),
 .ite (.n 74) (.n 75) (.c 0),
 .ite (.n 73) (.c 0) (.c 1),
 .app 123 0 [.n 2,.n 2,.n 70,.n 71],
 .app 123 1 [.n 2,.n 2,.n 70,.n 71],
 .app 123 2 [.n 2,.n 2,.n 70,.n 71],
 .bin .eql .i64 (.n 80) (.c 0),
 .bin .leq .i64 (.n 78) (.n 3),
 .bin .leq .i64 (.n 3) (.n 79),
 .ite (.n 82) (.n 83) (.c 0),
 .ite (.n 81) (.n 84) (.c 0),
 .bin .eql .i64 (.n 80) (.c 21),
 .ite (.n 85) (.c 1) (.n 86),
 .bin .eql .i64 (.n 80) (.c 5),
 .ite (.n 87) (.c 1) (.n 88),
 .ite (.n 73) (.n 76) (.n 89),
 .ite (.n 67) (.c 1) (.n 69),
 .ite (.n 67) (.n 65) (.n 90),
 .ite (.n 6) (.n 91) (.c 0),
 .ite (.n 5) (.c 1) (.n 93),
 .ite (.n 5) (.c 0) (.n 92)]
def ajQ:List Vc:=[
 ⟨[],.pre 20 []⟩,
 ⟨[(.n 6,true)],.pre 120 [.n 0,.n 0,.n 1,.n 1]⟩,
 ⟨[(.n 12,true),(.n 6,true)],.pre 121 [.n 7,.n 8,.n 9,.n 10]⟩,
 ⟨[(.n 69,true),(.n 6,true)],.pre 122 [.n 2,.n 2,.n 3,.n 3]⟩,
 ⟨[(.n 77,true),(.n 69,true),(.n 6,true)],.pre 123 [.n 2,.n 2,.n 70,.n 71]⟩]
theorem akT:whole Try.prog ajZ 20 40 9 [(false,[some .i64]),(false,[some .i64]),(false,[some .i64]),(false,[some .i64])]=some (.p (.c (.bool (.n 95))),⟨ah5.reverse,ajQ.reverse⟩):=by kernel_rfl
theorem akW:wfN ah5.reverse=true:=by kernel_rfl
theorem ak4 {ar:List Int} {v:Nat->Int} (hs:aA (ah7 ar) v ah5.reverse):v 7=(aii (v 0) (v 0) (v 1) (v 1)).getD 0 0:=ae hs 7 rfl
theorem ak1 {ar:List Int} {v:Nat->Int} (hs:aA (ah7 ar) v ah5.reverse):v 8=(aii (v 0) (v 0) (v 1) (v 1)).getD 1 0:=ae hs 8 rfl
theorem ak6 {ar:List Int} {v:Nat->Int} (hs:aA (ah7 ar) v ah5.reverse):v 9=(aii (v 0) (v 0) (v 1) (v 1)).getD 2 0:=ae hs 9 rfl
theorem akh {ar:List Int} {v:Nat->Int} (hs:aA (ah7 ar) v ah5.reverse):v 10=(aii (v 0) (v 0) (v 1) (v 1)).getD 3 0:=ae hs 10 rfl
theorem aki {ar:List Int} {v:Nat->Int} (hs:aA (ah7 ar) v ah5.reverse):v 11=(aii (v 0) (v 0) (v 1) (v 1)).getD 4 0:=ae hs 11 rfl
theorem akA {ar:List Int} {v:Nat->Int} (hs:aA (ah7 ar) v ah5.reverse):v 13=(aig (v 7) (v 8) (v 9) (v 10)).getD 0 0:=ae hs 13 rfl
theorem akP {ar:List Int} {v:Nat->Int} (hs:aA (ah7 ar) v ah5.reverse):v 14=(aig (v 7) (v 8) (v 9) (v 10)).getD 1 0:=ae hs 14 rfl
theorem akf {ar:List Int} {v:Nat->Int} (hs:aA (ah7 ar) v ah5.reverse):v 15=(aig (v 7) (v 8) (v 9) (v 10)).getD 2 0:=ae hs 15 rfl
theorem akc {ar:List Int} {v:Nat->Int} (hs:aA (ah7 ar) v ah5.reverse):v 16=(aig (v 7) (v 8) (v 9) (v 10)).getD 3 0:=ae hs 16 rfl
theorem akR {ar:List Int} {v:Nat->Int} (hs:aA (ah7 ar) v ah5.reverse):v 17=(aig (v 7) (v 8) (v 9) (v 10)).getD 4 0:=ae hs 17 rfl
theorem akj {ar:List Int} {v:Nat->Int} (hs:aA (ah7 ar) v ah5.reverse):v 70=(dpP (v 2) (v 2) (v 3) (v 3)).getD 0 0:=ae hs 70 rfl
theorem ako {ar:List Int} {v:Nat->Int} (hs:aA (ah7 ar) v ah5.reverse):v 71=(dpP (v 2) (v 2) (v 3) (v 3)).getD 1 0:=ae hs 71 rfl
theorem aku {ar:List Int} {v:Nat->Int} (hs:aA (ah7 ar) v ah5.reverse):v 72=(dpP (v 2) (v 2) (v 3) (v 3)).getD 2 0:=ae hs 72 rfl
theorem akb {ar:List Int} {v:Nat->Int} (hs:aA (ah7 ar) v ah5.reverse):v 78=(dlP (v 2) (v 2) (v 70) (v 71)).getD 0 0:=ae hs 78 rfl
theorem aka {ar:List Int} {v:Nat->Int} (hs:aA (ah7 ar) v ah5.reverse):v 79=(dlP (v 2) (v 2) (v 70) (v 71)).getD 1 0:=ae hs 79 rfl
theorem akI {ar:List Int} {v:Nat->Int} (hs:aA (ah7 ar) v ah5.reverse):v 80=(dlP (v 2) (v 2) (v 70) (v 71)).getD 2 0:=ae hs 80 rfl
theorem ak3 {ar:List Int} {v:Nat->Int}:∀ c∈ajQ,c.holds (ah7 ar) v :=
 ag (fun _=>trivial) (ag (fun _=>trivial) (ag (fun _=>trivial) (ag (fun _=>trivial) (ag (fun _=>trivial) (bN)))))
theorem ajn {ar:List Int} {v:Nat->Int} (hs:aA (ah7 ar) v ah5.reverse) (k67:v 67=0) (k70:v 70=0) (k71:v 71=0) (k72:v 72=1):v 95=1:=by
 refine ak (X:=ah7 ar) (v:=v) (l:=ah5) (aih _) hs (k:=95) (r:=.c 1) (ps:=[(67,.c 0),(70,.c 0),(71,.c 0),(72,.c 1)]) (nz:=[]) ?_ az (by kernel_rfl)
 intro y hy;simp only [List.mem_cons,List.not_mem_nil,or_false] at hy;rcases hy with rfl|rfl|rfl|rfl<;>assumption
theorem ajc {ar:List Int} {v:Nat->Int} (hs:aA (ah7 ar) v ah5.reverse) (k67:v 67=0) (k70:v 70=0) (k71:v 71=0) (k72:v 72=5):v 95=1:=by
 refine ak (X:=ah7 ar) (v:=v) (l:=ah5) (aih _) hs (k:=95) (r:=.c 1) (ps:=[(67,.c 0),(70,.c 0),(71,.c 0),(72,.c 5)]) (nz:=[]) ?_ az (by kernel_rfl)
 intro y hy;simp only [List.mem_cons,List.not_mem_nil,or_false] at hy;rcases hy with rfl|rfl|rfl|rfl<;>assumption
theorem ajq {ar:List Int} {v:Nat->Int} (hs:aA (ah7 ar) v ah5.reverse) (k67:v 67=0) (k72:v 72=0) (k80:v 80=21):v 95=1:=by
 refine ak (X:=ah7 ar) (v:=v) (l:=ah5) (aih _) hs (k:=95) (r:=.c 1) (ps:=[(67,.c 0),(72,.c 0),(80,.c 21)]) (nz:=[]) ?_ az (by kernel_rfl)
 intro y hy;simp only [List.mem_cons,List.not_mem_nil,or_false] at hy;rcases hy with rfl|rfl|rfl<;>assumption
theorem ajv {ar:List Int} {v:Nat->Int} (hs:aA (ah7 ar) v ah5.reverse) (k67:v 67=0) (k72:v 72=0) (k80:v 80=5):v 95=1:=by
 refine ak (X:=ah7 ar) (v:=v) (l:=ah5) (aih _) hs (k:=95) (r:=.c 1) (ps:=[(67,.c 0),(72,.c 0),(80,.c 5)]) (nz:=[]) ?_ az (by kernel_rfl)
 intro y hy;simp only [List.mem_cons,List.not_mem_nil,or_false] at hy;rcases hy with rfl|rfl|rfl<;>assumption
theorem akE {ar:List Int} {v:Nat->Int} (hs:aA (ah7 ar) v ah5.reverse):v 82=b2i (decide (v 78<=v 3)):=ae hs 82 rfl
theorem aj0 {ar:List Int} {v:Nat->Int} (hs:aA (ah7 ar) v ah5.reverse):v 83=b2i (decide (v 3<=v 79)):=ae hs 83 rfl
theorem aji {ar:List Int} {v:Nat->Int} (hs:aA (ah7 ar) v ah5.reverse) (k67:v 67=0) (k72:v 72=0) (k80:v 80=0) (k82:v 82=1) (k83:v 83=1):v 95=1:=by
 refine ak (X:=ah7 ar) (v:=v) (l:=ah5) (aih _) hs (k:=95) (r:=.c 1) (ps:=[(67,.c 0),(72,.c 0),(80,.c 0),(82,.c 1),(83,.c 1)]) (nz:=[]) ?_ az (by kernel_rfl)
 intro y hy;simp only [List.mem_cons,List.not_mem_nil,or_false] at hy;rcases hy with rfl|rfl|rfl|rfl|rfl<;>assumption
theorem ajw {ar:List Int} {v:Nat->Int} (hs:aA (ah7 ar) v ah5.reverse) (k11:v 11=1):v 67=0:=by
 refine ak (X:=ah7 ar) (v:=v) (l:=ah5) (aih _) hs (k:=67) (r:=.c 0) (ps:=[(11,.c 1)]) (nz:=[]) ?_ az (by kernel_rfl)
 intro y hy;simp only [List.mem_cons,List.not_mem_nil,or_false] at hy;rcases hy with rfl<;>assumption
theorem akw {ar:List Int} {v:Nat->Int} (hs:aA (ah7 ar) v ah5.reverse):v 18=b2i (decide (v 1>549755813888)):=ae hs 18 rfl
theorem ajh {ar:List Int} {v:Nat->Int} (hs:aA (ah7 ar) v ah5.reverse) (k11:v 11=0) (k13:v 13=0) (k14:v 14=0) (k15:v 15=0) (k16:v 16=0) (k17:v 17=5) (k18:v 18=1):v 95=1:=by
 refine ak (X:=ah7 ar) (v:=v) (l:=ah5) (aih _) hs (k:=95) (r:=.c 1) (ps:=[(11,.c 0),(13,.c 0),(14,.c 0),(15,.c 0),(16,.c 0),(17,.c 5),(18,.c 1)]) (nz:=[]) ?_ az (by kernel_rfl)
 intro y hy;simp only [List.mem_cons,List.not_mem_nil,or_false] at hy;rcases hy with rfl|rfl|rfl|rfl|rfl|rfl|rfl<;>assumption
theorem aj8 {ar:List Int} {v:Nat->Int} (hs:aA (ah7 ar) v ah5.reverse):v 30=b2i (decide (v 15<=v 1)):=ae hs 30 rfl
theorem akk {ar:List Int} {v:Nat->Int} (hs:aA (ah7 ar) v ah5.reverse):v 31=b2i (decide (v 1<=v 16)):=ae hs 31 rfl
theorem akp {ar:List Int} {v:Nat->Int} (hs:aA (ah7 ar) v ah5.reverse):v 35=Int.tmod (v 0) ((21600000:Int)):=ae hs 35 rfl
theorem akM {ar:List Int} {v:Nat->Int} (hs:aA (ah7 ar) v ah5.reverse):v 36=b2i (decide (v 35<(0:Int))):=ae hs 36 rfl
theorem aj4 {ar:List Int} {v:Nat->Int} (hs:aA (ah7 ar) v ah5.reverse):v 37=IntKind.i64.wrap (v 35+(21600000:Int)):=ae hs 37 rfl
theorem aky {ar:List Int} {v:Nat->Int} (hs:aA (ah7 ar) v ah5.reverse):v 39=if v 36≠0 then v 37 else v 35:=ae hs 39 rfl
theorem akB {ar:List Int} {v:Nat->Int} (hs:aA (ah7 ar) v ah5.reverse):v 40=IntKind.i64.wrap (v 14-v 13):=ae hs 40 rfl
theorem akv {ar:List Int} {v:Nat->Int} (hs:aA (ah7 ar) v ah5.reverse):v 42=IntKind.i64.wrap (v 39-v 13):=ae hs 42 rfl
theorem akt {ar:List Int} {v:Nat->Int} (hs:aA (ah7 ar) v ah5.reverse):v 43=Int.tmod (v 42) ((21600000:Int)):=ae hs 43 rfl
theorem akF {ar:List Int} {v:Nat->Int} (hs:aA (ah7 ar) v ah5.reverse):v 44=b2i (decide (v 43<(0:Int))):=ae hs 44 rfl
theorem akx {ar:List Int} {v:Nat->Int} (hs:aA (ah7 ar) v ah5.reverse):v 45=IntKind.i64.wrap (v 43+(21600000:Int)):=ae hs 45 rfl
theorem aj2 {ar:List Int} {v:Nat->Int} (hs:aA (ah7 ar) v ah5.reverse):v 47=if v 44≠0 then v 45 else v 43:=ae hs 47 rfl
theorem akn {ar:List Int} {v:Nat->Int} (hs:aA (ah7 ar) v ah5.reverse):v 48=IntKind.i64.wrap (v 47+v 39):=ae hs 48 rfl
theorem akK {ar:List Int} {v:Nat->Int} (hs:aA (ah7 ar) v ah5.reverse):v 49=IntKind.i64.wrap (v 48-v 39):=ae hs 49 rfl
theorem aj6 {ar:List Int} {v:Nat->Int} (hs:aA (ah7 ar) v ah5.reverse):v 51=if v 41≠0 then (1:Int) else v 50:=ae hs 51 rfl
theorem ake {ar:List Int} {v:Nat->Int} (hs:aA (ah7 ar) v ah5.reverse):v 41=b2i (decide (v 40>=(21600000:Int))):=ae hs 41 rfl
theorem akd {ar:List Int} {v:Nat->Int} (hs:aA (ah7 ar) v ah5.reverse):v 50=b2i (decide (v 49<=v 40)):=ae hs 50 rfl
theorem ajX {ar:List Int} {v:Nat->Int} (hs:aA (ah7 ar) v ah5.reverse):v 56=IntKind.i64.wrap (Int.tdiv (v 1) ((10000000:Int))):=ae hs 56 rfl
theorem akO {ar:List Int} {v:Nat->Int} (hs:aA (ah7 ar) v ah5.reverse):v 57=IntKind.i64.wrap (8+v 56):=ae hs 57 rfl
theorem akC {ar:List Int} {v:Nat->Int} (hs:aA (ah7 ar) v ah5.reverse):v 55=IntKind.i64.wrap (v 16-v 15):=ae hs 55 rfl
theorem akr {ar:List Int} {v:Nat->Int} (hs:aA (ah7 ar) v ah5.reverse):v 59=if v 54≠0 then v 58 else (0:Int):=ae hs 59 rfl
theorem aj7 {ar:List Int} {v:Nat->Int} (hs:aA (ah7 ar) v ah5.reverse):v 54=b2i (decide (v 1>=(100:Int))):=ae hs 54 rfl
theorem akN {ar:List Int} {v:Nat->Int} (hs:aA (ah7 ar) v ah5.reverse):v 58=b2i (decide (v 55>v 57)):=ae hs 58 rfl
theorem ajo {ar:List Int} {v:Nat->Int} (hs:aA (ah7 ar) v ah5.reverse) (k11:v 11=0) (k17:v 17=0) (k30:v 30=1) (k31:v 31=1) (k51:v 51=1) (k59:v 59=0):v 67=0:=by
 refine ak (X:=ah7 ar) (v:=v) (l:=ah5) (aih _) hs (k:=67) (r:=.c 0) (ps:=[(11,.c 0),(17,.c 0),(30,.c 1),(31,.c 1),(51,.c 1),(59,.c 0)]) (nz:=[]) ?_ az (by kernel_rfl)
 intro y hy;simp only [List.mem_cons,List.not_mem_nil,or_false] at hy;rcases hy with rfl|rfl|rfl|rfl|rfl|rfl<;>assumption
theorem ajG (a0 a1 a2 a3:Int) (w:World):Calls Try.prog 9 #[.int .i64 a0,.int .i64 a1,.int .i64 a2,.int .i64 a3] w fun e w'=>e=.returned (.bool true)/\Below w.heap.size w w':=by
 refine Sx.calls (X:=ah7 [a0,a1,a2,a3]) dX (ajF _) akT akW (fun v hs=>?_) w
 have x7:v 7=(aii (v 0) (v 0) (v 1) (v 1)).getD 0 0:=(ak4 hs);have x8:v 8=(aii (v 0) (v 0) (v 1) (v 1)).getD 1 0:=(ak1 hs);have x9:v 9=(aii (v 0) (v 0) (v 1) (v 1)).getD 2 0:=(ak6 hs);have x10:v 10=(aii (v 0) (v 0) (v 1) (v 1)).getD 3 0:=(akh hs);have x11:v 11=(aii (v 0) (v 0) (v 1) (v 1)).getD 4 0:=(aki hs);have x13:v 13=(aig (v 7) (v 8) (v 9) (v 10)).getD 0 0:=(akA hs);have x14:v 14=(aig (v 7) (v 8) (v 9) (v 10)).getD 1 0:=(akP hs);have x15:v 15=(aig (v 7) (v 8) (v 9) (v 10)).getD 2 0:=(akf hs);have x16:v 16=(aig (v 7) (v 8) (v 9) (v 10)).getD 3 0:=(akc hs);have x17:v 17=(aig (v 7) (v 8) (v 9) (v 10)).getD 4 0:=(akR hs);have x70:v 70=(dpP (v 2) (v 2) (v 3) (v 3)).getD 0 0:=(akj hs);have x71:v 71=(dpP (v 2) (v 2) (v 3) (v 3)).getD 1 0:=(ako hs);have x72:v 72=(dpP (v 2) (v 2) (v 3) (v 3)).getD 2 0:=(aku hs);have x78:v 78=(dlP (v 2) (v 2) (v 70) (v 71)).getD 0 0:=(akb hs);have x79:v 79=(dlP (v 2) (v 2) (v 70) (v 71)).getD 1 0:=(aka hs);have x80:v 80=(dlP (v 2) (v 2) (v 70) (v 71)).getD 2 0:=(akI hs);refine ⟨bO ak3,?_⟩
 have R:v 67=0->v 95=1:=by
  intro k67;rcases akJ (v 2) (v 3) with e|e|⟨x,y,e,q⟩
  . rw [e] at x70 x71 x72;have k70:v 70=0:=x70;have k71:v 71=0:=x71;have k72:v 72=1:=x72;exact (ajn hs k67 k70 k71 k72)
  . rw [e] at x70 x71 x72;have k70:v 70=0:=x70;have k71:v 71=0:=x71;have k72:v 72=5:=x72;exact (ajc hs k67 k70 k71 k72)
  . rw [e] at x70 x71 x72;have k72:v 72=0:=x72;have y70:v 70=x:=x70;have y71:v 71=y:=x71;rw [y70,y71] at x78 x79 x80;rcases q with q|q|⟨s,t,q,h1,h2⟩
    . rw [q] at x80;have k80:v 80=21:=x80;exact (ajq hs k67 k72 k80)
    . rw [q] at x80;have k80:v 80=5:=x80;exact (ajv hs k67 k72 k80)
    . rw [q] at x78 x79 x80;have k80:v 80=0:=x80;have y78:v 78=s:=x78;have y79:v 79=t:=x79;have k82:v 82=1:=by rw [(akE hs),decide_eq_true (by rw [y78];exact h1)];rfl
      have k83:v 83=1:=by rw [(aj0 hs),decide_eq_true (by rw [y79];exact h2)];rfl
      exact (aji hs k67 k72 k80 k82 k83)
 clear x70 x71 x72 x78 x79 x80
 by_cases hl:aiu (v 0) (v 0) (v 1) (v 1)=true
 rotate_left
 . have e:aii (v 0) (v 0) (v 1) (v 1)=[0,0,0,0,1]:=if_neg hl;rw [e] at x11;have k11:v 11=1:=x11;have k67:v 67=0:=(ajw hs k11);have hr:=R k67;intro x hx;have hx':x=.bool (decide (v 95≠0)):=hx;rw [hx',hr];rfl
 obtain ⟨a,b,e,f,E,Q⟩:=akD hl
 have hp:cu (v 0) (v 0)=true/\cu (v 1) (v 1)=true/\0<=v 1:=by
  unfold aiu at hl;simp only [Bool.and_eq_true,decide_eq_true_eq] at hl;exact ⟨hl.1,hl.2.1,hl.2.2⟩
 have v0:=(cK _ _).1 hp.1;have v1:=(cK _ _).1 hp.2.1;rw [E] at x7 x8 x9 x10 x11;have k11:v 11=0:=x11;have y7:v 7=a:=x7;have y8:v 8=b:=x8;have y9:v 9=e:=x9;have y10:v 10=f:=x10;rw [y7,y8,y9,y10] at x13 x14 x15 x16 x17;clear x7 x8 x9 x10 x11 E hl;rcases Q with ⟨far,Q⟩|⟨l,h,r,s,Q,B1,B2,B3,B4⟩
 . rw [Q] at x13 x14 x15 x16 x17;have k13:v 13=0:=x13;have k14:v 14=0:=x14;have k15:v 15=0:=x15;have k16:v 16=0:=x16;have k17:v 17=5:=x17;have k18:v 18=1:=by rw [(akw hs),decide_eq_true (by exact far)];rfl
   intro x hx;have hx':x=.bool (decide (v 95≠0)):=hx;have hr:v 95=1:=(ajh hs k11 k13 k14 k15 k16 k17 k18);rw [hx',hr];rfl
 rw [Q] at x13 x14 x15 x16 x17;have k17:v 17=0:=x17;have y13:v 13=l:=x13;have y14:v 14=h:=x14;have y15:v 15=r:=x15;have y16:v 16=s:=x16;clear x13 x14 x15 x16 x17 Q;have k30:v 30=1:=by rw [(aj8 hs),decide_eq_true (by rw [y15];exact B2.2.1)];rfl
 have k31:v 31=1:=by rw [(akk hs),decide_eq_true (by rw [y16];exact B2.2.2.1)];rfl
 have t39:=ajS (x:=v 0) (r:=v 35) (c:=v 36) (u:=v 37) (z:=v 39) ⟨by omega,by omega⟩ (akp hs) (akM hs) (aj4 hs) (aky hs)
 have w40:v 40=v 14-v 13:=by rw [(akB hs),Go.IntWalk.i64_in _ (by omega)]
 have w42:v 42=v 39-v 13:=by rw [(akv hs),Go.IntWalk.i64_in _ (by omega)]
 have t47:=ajS (x:=v 42) (r:=v 43) (c:=v 44) (u:=v 45) (z:=v 47) ⟨by omega,by omega⟩ (akt hs) (akF hs) (akx hs) (aj2 hs)
 have w48:v 48=v 47+v 39:=by rw [(akn hs),Go.IntWalk.i64_in _ (by omega)]
 have w49:v 49=v 48-v 39:=by rw [(akK hs),Go.IntWalk.i64_in _ (by omega)]
 have k51:v 51=1:=by
  have x51:=(aj6 hs);have x41:=(ake hs);have x50:=(akd hs)
  by_cases w:v 40>=21600000
  . rw [decide_eq_true w] at x41;rw [x51,x41];rfl
  . rw [decide_eq_false w] at x41;have z47:v 47=(v 0-l)%21600000:=by rw [t47,w42,y13,t39];clear B1 B2 B3 B4 w t47 w42 w40 w48 w49 x41 x50 x51;omega
    have z:v 49<=v 40:=by
     rw [w49,w48,z47,w40,y13,y14];rw [w40,y13,y14] at w;rcases B3 with h3|h3
     . exact absurd h3 w
     . clear z47 t47 w42 w40 w48 w49 x41 x50 x51 w B4;omega
    rw [decide_eq_true z] at x50;rw [x51,x41,x50];rfl
 have x56:v 56=v 1/10000000:=by rw [(ajX hs)];rw [Int.tdiv_eq_ediv_of_nonneg (show 0<=v 1 by omega),Go.IntWalk.i64_in _ (by omega)]
 have w57:v 57=8+v 56:=by rw [(akO hs),Go.IntWalk.i64_in _ (by omega)]
 have w55:v 55=v 16-v 15:=by rw [(akC hs),Go.IntWalk.i64_in _ (by omega)]
 have k59:v 59=0:=by
  have x59:=(akr hs);have x54:=(aj7 hs);have x58:=(akN hs)
  by_cases w:v 1>=100
  . have z:=B4 (show 100<=v 1 from w)
    have q:¬ v 55>v 57:=by rw [w55,w57,x56,y16,y15];omega
    rw [decide_eq_false q] at x58;rw [x59,x58];split<;>rfl
  . rw [decide_eq_false w] at x54;rw [x59,x54];rfl
 have k67:v 67=0:=(ajo hs k11 k17 k30 k31 k51 k59);have hr:=R k67;intro x hx;have hx':x=.bool (decide (v 95≠0)):=hx;rw [hx',hr];rfl
